/- QsDecodes, part 1. -/
import Derived.Test.YtmanlfonppfhaaaDe0
set_option linter.unusedVariables false
set_option linter.unusedSimpArgs false
namespace Go.Proofs.Ytmanlfonppfhaaa.FW
variable {P:Program} {R:Type}
def EnvRel (ρ:Ren) (e:Env) (a:Act) (nt:Nat):Prop:=a.defers= []/\nt<=a.tmps.size/\∀t,V0 ρ (eget e t) (a.tmps.getD t undef)
def XM:Xit->Exit->Prop
 | .normal, .normal=> True
 | .exit i, .exit j=> i=j
 | .ret, .ret=> True
 |_,_=> False
def Post (nt:Nat) (ρ:Ren) (H:Heap) (w:World) (x:Xit) (e':Env) (H':Heap):Exit->Act->World->Prop:=λ ex a' w'=>
 XM x ex/\∃ρ',EnvRel ρ' e' a' nt/\Goes ρ (hblk H) w ρ' (hblk H') w'/\Grow ρ ρ' H.length H'.length
def TriC (P:Program) (nt:Nat) (c:Code) (e:Env) (H:Heap) (x:Xit) (e':Env) (H':Heap):Prop:=
 H.length<=H'.length/\∀(ρ:Ren) (w:World) (a:Act),Rel ρ (hblk H) w->Dom ρ H.length->EnvRel ρ e a nt->c.wp P (Post nt ρ H w x e' H') a w
inductive AT where
 |leaf
 |reg (live:List Nat) (anc:List (List Nat))
 |seq (a b:AT)
 |cond (a b:AT)
 |node (a:AT)
 |opq (i:Nat) (ls:List Nat) (out:Out) (a:AT)
 |frz (t:Nat) (a:AT)
def memOp:Op->Bool
 | .load ..| .store ..| .alloc _| .box ..| .buildSlice ..| .makeSlice ..=> true
 | .call c=> match c.callee with
  | .builtin .len| .builtin .cap| .builtin .min| .builtin .max=> false
  |_=> true
 |_=> false
def createOp (an:Ann):Op->Bool
 | .alloc _| .box ..| .buildSlice ..| .makeSlice ..=> true
 | .call c=> match c.callee with
  | .builtin .append=> true
  | .value (.func f)=> an.fresh.elem f
  |_=> false
 |_=> false
def bound (bf:List (List Nat)) (i j:Nat):Bool:=(bf.getD j []).elem i
def cmpb (bf:List (List Nat)) (i j:Nat):Bool:=Nat.beq i j||bound bf i j||bound bf j i
def indexed {α:Type}:Nat->List α->List (Nat×α)
 |_, []=> []
 |n,x::xs=> (n,x)::indexed (n+1) xs
def wrOp (an:Ann):Op->Bool
 | .store ..=> true
 | .call c=> match c.callee with
  | .builtin .copy| .builtin .clear=> true
  | .value (.func f)=> an.wr.elem f
  |_=> false
 |_=> false
def ldrOf (an:Ann) (ops:List Oper) (bf:List (List Nat)) (i:Nat):Bool:=(match ops[i]? with|some o=> (match o.op with| .load ..=> true|_=> false)|none=> false) && (indexed 0 ops).any λ x=> wrOp an x.2.op && !(cmpb bf x.1 i)
def isLdr:IOp->Bool
 | .ldr ..=> true
 |_=> false
def toLdr:IOp->IOp
 | .ld k x=> .ldr k x
 |io=> io
def barOf (an:Ann) (ops:List Oper) (bf:List (List Nat)) (j:Nat):Bool:=(indexed 0 ops).all λ x=> !(memOp x.2.op)||cmpb bf x.1 j||ldrOf an ops bf x.1
def hideOf (an:Ann) (ops:List Oper) (bf:List (List Nat)) (j:Nat):List Nat:=((indexed 0 ops).filter λ x=> Nat.blt x.1 j && createOp an x.2.op && !(bound bf x.1 j)).map (·.1)
def dstOf (ops:List Oper) (j:Nat):Option Nat:=match ops[j]? with
 |some o=> o.dst
 |none=> none
def dstOk (nt:Nat) (d:Option Nat):Bool:=match d with
 |some d=> Nat.blt d nt
 |none=> true
def trO (P:Program) (an:Ann) (nt:Nat) (all:List Oper) (draw:Bool) (bf:List (List Nat)) (i:Nat) (o:Oper):Option IOper:=
 match trOp P an (bif draw then barOf an all bf i else true) (bif draw then hideOf an all bf i else []) o.op o.type with
 |some io=>
  bif dstOk nt o.dst && !(isLdr io) then
   (match o.guard with
    |none=> some ⟨o.dst,bif draw && ldrOf an all bf i then toLdr io else io,none⟩
    |some (j,want)=> match dstOf all j with
     |some g=> some ⟨o.dst,bif draw && ldrOf an all bf i then toLdr io else io,some (g,want)⟩
     |none=> none)
  else none
 |none=> none
def trOs (P:Program) (an:Ann) (nt:Nat) (all:List Oper) (draw:Bool) (bf:List (List Nat)):Nat->List Oper->Option (List IOper)
 |_, []=> some []
 |i,o::os=> match trO P an nt all draw bf i o,trOs P an nt all draw bf (i+1) os with
  |some x,some xs=> some (x::xs)
  |_,_=> none
def isMem:IOp->Bool
 | .ld ..| .alc _| .box _| .bls ..| .mks ..| .apn ..| .calf ..| .calp ..| .calq ..| .b2s _=> true
 |io=> isBar io
def namesOf (o:Oper) (io:IOper):List Nat:=(o.op.operands.toList.filterMap fun| .tmp t=> some t|_=> none)++(match io.guard with|some (g,_)=> [g]|none=> [])
def confl (o:Oper) (io:IOper) (o':Oper) (io':IOper):Bool:=
 (match io.dst with|some d=> (namesOf o' io').elem d||(match io'.dst with|some d'=> Nat.beq d d'|none=> false)|none=> false)||
 (match io'.dst with|some d=> (namesOf o io).elem d|none=> false)
def drawOk (bf:List (List Nat)) (xs:List (Nat×Oper×IOper)):Bool:=
 xs.all λ x=> xs.all λ y=> !(Nat.blt x.1 y.1)||bound bf x.1 y.1||
  !(confl x.2.1 x.2.2 y.2.1 y.2.2||(isBar x.2.2.op && isMem y.2.2.op)||(isMem x.2.2.op && isBar y.2.2.op)||
   (isCreator x.2.2.op && isCal y.2.2.op && !((hidOf y.2.2.op).elem x.1)))
def ancOk (ops:List Oper) (bf:List (List Nat)):Bool:=
 (indexed 0 ops).all λ x=> (x.2.after.toList.all λ e=> !(Region.binds .any e)||Nat.blt e.on x.1) && (bf.getD x.1 []).all λ i=> x.2.after.toList.any λ e=> Region.binds .any e && Nat.blt e.on x.1 && (Nat.beq e.on i||bound bf i e.on)
def trReg (P:Program) (an:Ann) (nt:Nat) (bf:List (List Nat)) (ops:Array Oper) (draw:Bool):Option (List IOper):=
 bif draw then
  (match trOs P an nt ops.toList true bf 0 ops.toList with
   |some ios=> bif ancOk ops.toList bf && drawOk bf (indexed 0 (ops.toList.zip ios)) && P.follows .mixedOrders then some ios else none
   |none=> none)
 else trOs P an nt ops.toList false [] 0 ops.toList
def trC (P:Program) (an:Ann) (nt:Nat):AT->Code->Option IC
 | .opq i ls _ t,c=> match trC P an nt t c with
  |some ic=> some (.opq i ls ic)
  |none=> none
 | .frz i t,c=> match trC P an nt t c with
  |some ic=> some (.frz i ic)
  |none=> none
 | .reg live bf, .region _ ops draw=> match trReg P an nt bf ops draw with
  |some ios=> some (.reg ios live)
  |none=> none
 | .leaf, .skip=> some .skip
 | .leaf, .exit id=> some (.exit id)
 | .leaf, .ret=> some .ret
 | .seq a b, .seq x y=> match trC P an nt a x,trC P an nt b y with
  |some x,some y=> some (.seq x y)
  |_,_=> none
 | .cond a b, .cond z x y=> match trX z,trC P an nt a x,trC P an nt b y with
  |some z,some x,some y=> some (.cond z x y)
  |_,_,_=> none
 | .node a, .block id x=> match trC P an nt a x with
  |some x=> some (.block id x)
  |none=> none
 | .node a, .loop x=> match trC P an nt a x with
  |some x=> some (.loop x)
  |none=> none
 |_,_=> none
def sel:List Nat->Code->Code
 | [],c=> c
 |i::is, .seq a b=> bif Nat.beq i 0 then sel is a else sel is b
 |i::is, .cond _ a b=> bif Nat.beq i 0 then sel is a else sel is b
 |_::is, .block _ b=> sel is b
 |_::is, .loop b=> sel is b
 |_,c=> c
def tcons {α:Type} (i:Nat) (x:α) (t:Nat->α):Nat->α:=λ j=> bif Nat.beq j i then x else t j
def JS (P:Program) (nt:Nat) (L:List Value->Heap->(Xit->Env->Heap->Option R)->Option R) (ls:List Nat) (out:Out) (c:Code):Prop:=
 ∀vals H K r,L vals H K=some r->∃x e' H',TriC P nt c (ls.zip vals) H x e' H'/\K x (clean e' (out.of x)) H'=some r
def AllJ (P:Program) (nt:Nat) (J:JTab R):AT->Code->Prop
 | .opq i ls out _,c=> JS P nt (J i) ls out c
 | .frz _ a,c=> AllJ P nt J a c
 | .seq a b, .seq x y=> AllJ P nt J a x/\AllJ P nt J b y
 | .cond a b, .cond _ x y=> AllJ P nt J a x/\AllJ P nt J b y
 | .node a, .block _ x=> AllJ P nt J a x
 |_,_=> True
theorem AY6 {a:Array Value} {t:Nat} {v:Value} (h:a.getD t undef=v) (hv:v≠undef):a[t]? =some v:=by
 rw [Array.getD_eq_getD_getElem?] at h
 cases hq:a[t]? with
 |none=> rw [hq] at h;exact (hv h.symm).elim
 |some x=> rw [hq] at h;simp at h;rw [h]
theorem beqF {a b:Nat} (h:¬ a=b):Nat.beq a b=false:=by
 cases hb:Nat.beq a b with
 |false=> rfl
 |true=> exact (h (Nat.eq_of_beq_eq_true hb)).elim
theorem EnvRel.put {ρ:Ren} {e:Env} {a:Act} {nt:Nat} (h:EnvRel ρ e a nt) {dst:Option Nat} (hd:dstOk nt dst=true) {v v':Value} (hv:V0 ρ v v'):EnvRel ρ (eput dst v e) (a.put dst v') nt:=by
 cases dst with
 |none=> exact h
 |some d=>
  have hlt:d < nt:=by simpa [dstOk,Nat.blt_eq] using hd
  refine ⟨h.1,by simpa [Act.put] using h.2.1,λ t=> ?_⟩
  simp only [eput,eget,Act.put]
  by_cases c:d=t
  . subst c
    have:d < a.tmps.size:=by have:=h.2.1;omega
    simp [this]
    exact hv
  . have hb:Nat.beq d t=false:=beqF c
    rw [hb,cond_false]
    have:(a.tmps.setIfInBounds d v').getD t undef=a.tmps.getD t undef:=by
     simp [Array.getElem?_setIfInBounds_ne c]
    rw [this]
    exact h.2.2 t
theorem EnvRel.mono {ρ ρ':Ren} {e:Env} {a:Act} {nt:Nat} (h:EnvRel ρ e a nt) (k:Le ρ ρ'):EnvRel ρ' e a nt:=⟨h.1,h.2.1,λ t=> (h.2.2 t).mono k⟩
theorem EnvRel.reads {ρ:Ren} {e:Env} {a:Act} {nt:Nat} (h:EnvRel ρ e a nt) (o:Oper):Reads ρ e a o:=λ _ _ t _=> h.2.2 t
theorem EnvRel.alias {ρ:Ren} {e:Env} {a:Act} {nt:Nat} (h:EnvRel ρ e a nt) {g:Nat} {v:Value} (hg:V0 ρ v (a.tmps.getD g undef)):EnvRel ρ ((g,v)::e) a nt:=by
 refine ⟨h.1,h.2.1,λ t=> ?_⟩
 simp only [eget]
 by_cases c:g=t
 . subst c
   have:Nat.beq g g=true:=Nat.beq_refl g
   rw [this,cond_true];exact hg
 . have hb:Nat.beq g t=false:=beqF c
   rw [hb,cond_false];exact h.2.2 t
theorem ASd (e:Env) (ls:List Nat) (t:Nat):eget (clean e ls) t=if t∈ls then eget e t else undef:=by
 induction ls with
 |nil=> simp [clean,eget]
 |cons x ls ih=>
  simp only [clean,eget]
  by_cases c:x=t
  . subst c;simp
  . have hb:Nat.beq x t=false:=beqF c
    rw [hb,cond_false,ih]
    have:(t∈x::ls) ↔ t∈ls:=by simp [Ne.symm c]
    simp [this]
theorem EnvRel.clean {ρ:Ren} {e:Env} {a:Act} {nt:Nat} (h:EnvRel ρ e a nt) (ls:List Nat):EnvRel ρ (clean e ls) a nt:=by
 refine ⟨h.1,h.2.1,λ t=> ?_⟩
 rw [ASd]
 split
 . exact h.2.2 t
 . exact .inl rfl
theorem AMk (e:Env) (ls:List Nat):ls.zip ((FW.clean e ls).map (·.2))=FW.clean e ls:=by
 induction ls with
 |nil=> rfl
 |cons x ls ih=> simp [FW.clean,ih]
theorem AQc {ρ:Ren} {e:Env} {a:Act} {nt:Nat} (h:EnvRel ρ e a nt) {ops:Array Oper} {j g:Nat} (hj:dstOf ops.toList j=some g) {t:Bool} (ht:eget e g= .bool t):yielded ops a.tmps j=some t:=by
 have hd:(ops[j]?).bind (·.dst)=some g:=by
  unfold dstOf at hj
  rw [Array.getElem?_toList] at hj
  cases hq:ops[j]? with
  |none=> rw [hq] at hj;cases hj
  |some o=> rw [hq] at hj;simpa using hj
 have h1:=h.2.2 g
 rw [ht] at h1
 have h2:=AY6 h1.bool (by simp [undef])
 unfold yielded
 rw [hd]
 simp [h2]
theorem AQb {ρ:Ren} {e:Env} {a:Act} {nt:Nat} (h:EnvRel ρ e a nt) {ops:Array Oper} {j g:Nat} (hj:dstOf ops.toList j=some g) {cs:Array Value} (ht:eget e g= .tuple cs) (hc:Nat.beq cs.toList.length 1=true):yielded ops a.tmps j=none:=by
 have hd:(ops[j]?).bind (·.dst)=some g:=by
  unfold dstOf at hj
  rw [Array.getElem?_toList] at hj
  cases hq:ops[j]? with
  |none=> rw [hq] at hj;cases hj
  |some o=> rw [hq] at hj;simpa using hj
 have h1:=h.2.2 g
 rw [ht] at h1
 have hnb:∀b,a.tmps.getD g undef≠ .bool b:=by
  intro b hb
  rcases h1 with q|q|q
  . have:cs= #[]:=by simpa [undef] using q
    subst this;simp at hc
  . rw [q.2] at hb;simp [undef] at hb
  . rw [hb] at q;cases q
 unfold yielded
 rw [hd]
 simp only [Option.bind_some]
 cases hq:a.tmps[g]? with
 |none=> rfl
 |some v=>
  have:a.tmps.getD g undef=v:=by simp [hq]
  cases v <;> first|rfl|exact (hnb _ this).elim
section
variable {C:Tab R} {an:Ann} {nt:Nat}
theorem AU3 {o:Oper} {io:IOp} {e:Env} {H:Heap} {made:List (Nat×Nat×Nat)} {K:Value->Heap->Option R} {r:R} (h:SeqOK P o e H K r) (hd:dstOk nt o.dst=true):
 ∃v H',K v H'=some r/\H.length<=H'.length/\∀(ρ:Ren) (w:World) (a:Act) (Q:Exit->Act->World->Prop),Rel ρ (hblk H) w->Dom ρ H.length->EnvRel ρ e a nt->
  o.wp P a w (λ a' w'=>∃ρ',EnvRel ρ' (eput o.dst v e) a' nt/\Goes ρ (hblk H) w ρ' (hblk H') w'/\Grow ρ ρ' H.length H'.length) Q:=by
 obtain ⟨v,H',h1,h2,h3⟩:=h
 refine ⟨v,H',h1,h2,λ ρ w a Q hR hD hE=> Oper.wp_mono ?_ (h3 ρ w a Q hR hD (hE.reads o))⟩
 rintro a' w' ⟨ρ',v',rfl,q2,q3,q4⟩
 exact ⟨ρ',(hE.mono q3.le).put hd q2,q3,q4⟩
def OpsTri (P:Program) (nt:Nat) (ops:Array Oper) (rest:List Nat) (e:Env) (H:Heap) (e':Env) (H':Heap):Prop:=
 H.length<=H'.length/\∀(ρ:Ren) (w:World) (a:Act) (Q:Exit->Act->World->Prop),Rel ρ (hblk H) w->Dom ρ H.length->EnvRel ρ e a nt->
  (∀ρ' a' w',EnvRel ρ' e' a' nt->Goes ρ (hblk H) w ρ' (hblk H') w'->Grow ρ ρ' H.length H'.length->Q .normal a' w')->wpOps P ops Q rest a w
theorem AV3 {C:Tab R} {H0:Heap} {made:List (Nat×Nat×Nat)} {io:IOp} {e:Env} {H:Heap} {K:Value->Heap->Option R} (h:isLdr io=false):evO C H0 made io e H K=evOp C made io e H K:=by
 cases io <;> first|rfl|(simp [isLdr] at h)
theorem AVU (hC:CSound P C) (ops:Array Oper) (H0:Heap):∀(os:List Oper) (ios:List IOper) (i:Nat),ops.toList.drop i=os->trOs P an nt ops.toList false [] i os=some ios->
 ∀(made:List (Nat×Nat×Nat)) (e:Env) (H:Heap) (K:Env->Heap->Option R) (r:R),evOps C H0 ios i made e H K=some r->∃e' H',OpsTri P nt ops (List.range' i os.length) e H e' H'/\K e' H'=some r:=by
 intro os
 induction os with
 |nil=>
  intro ios i _ htr made e H K r h
  simp [trOs] at htr
  subst htr
  exact ⟨e,H,⟨Nat.le_refl _,λ ρ w a Q hR hD hE hQ=> by simpa [wpOps] using hQ ρ a w hE (.refl hR) (.refl _ _ _)⟩,h⟩
 |cons o os ih=>
  intro ios i hdrop htr made e H K r h
  simp only [trOs] at htr
  split at htr
  . rename_i io ios' h1 h2
    cases htr
    have hi:ops[i]? =some o:=by
     have:ops.toList[i]? =some o:=by
      have:=congrArg List.head? hdrop
      rw [List.head?_drop] at this
      simpa using this
     simpa using this
    have hdrop':ops.toList.drop (i+1)=os:=by
     have:=congrArg List.tail hdrop
     simpa using this
    unfold trO at h1
    split at h1
    . rename_i op hop
      cases hdl:dstOk nt o.dst && !(isLdr op) with
      |false=> rw [hdl] at h1;cases h1
      |true=>
       rw [hdl,cond_true] at h1
       simp only [Bool.false_and,cond_false] at h1
       rw [Bool.and_eq_true,Bool.not_eq_true'] at hdl
       obtain ⟨hd,hldr⟩:=hdl
       have hrange:List.range' i (o::os).length=i::List.range' (i+1) os.length:=by simp [List.range'_succ]
       have exec:∀(e2:Env) (K2:Value->Heap->Option R),evO C H0 made op e2 H K2=some r->(∀v H1,K2 v H1=some r->∃e' H',OpsTri P nt ops (List.range' (i+1) os.length) (eput o.dst v e2) H1 e' H'/\K e' H'=some r)->
        (∀ρ a,EnvRel ρ e a nt->EnvRel ρ e2 a nt/\Region.wanted o (yielded ops a.tmps)=true)->∃e' H',OpsTri P nt ops (List.range' i (o::os).length) e H e' H'/\K e' H'=some r:=by
        intro e2 K2 hev hnext henv
        rw [AV3 hldr] at hev
        have hs:=(AQo (made:=made) hC hop hev).seq
        obtain ⟨v,H1,hk,hlen,hstep⟩:=AU3 (nt:=nt) (io:=op) (made:=made) hs hd
        obtain ⟨e',H',⟨hl2,ht⟩,hk2⟩:=hnext v H1 hk
        refine ⟨e',H',⟨Nat.le_trans hlen hl2,λ ρ w a Q hR hD hE hQ=> ?_⟩,hk2⟩
        rw [hrange,wpOps]
        simp only [hi]
        obtain ⟨hE2,hw⟩:=henv ρ a hE
        rw [if_pos hw]
        refine .inl (Oper.wp_mono ?_ (hstep ρ w a Q hR hD hE2))
        rintro a' w' ⟨ρ',q1,q2,q3⟩
        exact ht ρ' w' a' Q q2.rel (q3.dom hlen hD) q1 (λ ρ'' a'' w'' g1 g2 g3=> hQ ρ'' a'' w'' g1 (q2.trans g2) (q3.trans g3 hlen hl2))
       have skip:∀(e2:Env),evOps C H0 ios' (i+1) made (eput o.dst skp e2) H K=some r->(∀ρ a,EnvRel ρ e a nt->EnvRel ρ e2 a nt/\Region.wanted o (yielded ops a.tmps)=false)->∃e' H',OpsTri P nt ops (List.range' i (o::os).length) e H e' H'/\K e' H'=some r:=by
        intro e2 hev henv
        obtain ⟨e',H',⟨hl2,ht⟩,hk2⟩:=ih ios' (i+1) hdrop' h2 made _ H K r hev
        refine ⟨e',H',⟨hl2,λ ρ w a Q hR hD hE hQ=> ?_⟩,hk2⟩
        rw [hrange,wpOps]
        simp only [hi]
        obtain ⟨hE2,hw⟩:=henv ρ a hE
        rw [if_neg (by rw [hw];simp)]
        exact ht ρ w _ Q hR hD (hE2.put hd (.inr (.inl ⟨rfl,rfl⟩))) hQ
       cases hg:o.guard with
       |none=>
        rw [hg] at h1
        cases h1
        simp only [evOps] at h
        refine exec e _ h (λ v H1 hv=> ih ios' (i+1) hdrop' h2 _ _ H1 K r hv) (λ ρ a hE=> ⟨hE,by simp [Region.wanted,hg]⟩)
       |some gw=>
        obtain ⟨j,want⟩:=gw
        rw [hg] at h1
        simp only at h1
        split at h1
        . rename_i g hgd
          cases h1
          simp only [evOps] at h
          split at h
          . rename_i t ht
            have henv:∀ρ a,EnvRel ρ e a nt->EnvRel ρ ((g, .bool t)::e) a nt/\Region.wanted o (yielded ops a.tmps)=(t==want):=λ ρ a hE=> by
             refine ⟨hE.alias (by have:=hE.2.2 g;rwa [ht] at this), ?_⟩
             simp only [Region.wanted,hg,AQc hE hgd ht]
             cases t <;> cases want <;> rfl
            cases t with
            |true=>
             rw [cond_true] at h
             cases want with
             |true=> rw [cond_true] at h;exact exec _ _ h (λ v H1 hv=> ih ios' (i+1) hdrop' h2 _ _ H1 K r hv) (λ ρ a hE=> henv ρ a hE)
             |false=> rw [cond_false] at h;exact skip _ h (λ ρ a hE=> henv ρ a hE)
            |false=>
             rw [cond_false] at h
             cases want with
             |true=> rw [cond_true] at h;exact skip _ h (λ ρ a hE=> henv ρ a hE)
             |false=> rw [cond_false] at h;exact exec _ _ h (λ v H1 hv=> ih ios' (i+1) hdrop' h2 _ _ H1 K r hv) (λ ρ a hE=> henv ρ a hE)
          . rename_i cs ht
            cases hc:Nat.beq cs.toList.length 1 with
            |false=> rw [hc] at h;cases h
            |true=>
             rw [hc,cond_true] at h
             exact skip e h (λ ρ a hE=> ⟨hE,by simp [Region.wanted,hg,AQb hE hgd ht hc]⟩)
          . cases h
        . cases h1
    . cases h1
  . cases htr
end
variable {P:Program} {R:Type}
def cut (ρ:Ren) (m:Nat):Ren:=λ b=> if b < m then ρ b else none
def cutH (hp:Nat->Option Blk) (m:Nat):Nat->Option Blk:=λ b=> if b < m then hp b else none
theorem ASE (ρ:Ren) (m:Nat):Le (cut ρ m) ρ:=by
 intro b x h;unfold cut at h;split at h
 . exact h
 . cases h
theorem ANh {ρ ρ':Ren} (h:Le ρ ρ') {m m':Nat} (hm:m<=m'):Le (cut ρ m) (cut ρ' m'):=by
 intro b x hb;unfold cut at hb ⊢;split at hb
 . rw [if_pos (by omega)];exact h b x hb
 . cases hb
theorem AZC (ρ:Ren) (m:Nat):Dom (cut ρ m) m:=by
 intro b hb;unfold cut;rw [if_neg (by omega)]
theorem ARg {ρ:Ren} {m:Nat} (h:Dom ρ m):cut ρ m=ρ:=by
 funext b;unfold cut;split
 . rfl
 . rename_i hb;exact (h b (by omega)).symm
theorem Rel.behind {ρi ρr ρ':Ren} {hi hr h':Nat->Option Blk} {w w':World} (hR:Rel ρi hi w) (hle:Le ρi ρr) (g:Goes ρr hr w ρ' h' w') (hs:∀b B,hi b=some B->h' b=some B):Rel ρi hi w':=by
 refine ⟨λ b B hb=> ?_,hR.inj⟩
 obtain ⟨b',d,m,arr,el,fr,e1,e2,e3,e4,e5⟩:=hR.blk b B hb
 obtain ⟨b2,d2,m2,arr2,el2,fr2,k1,k2,k3,k4,k5⟩:=g.rel.blk b B (hs b B hb)
 have hle2:=hle.trans g.le
 have:=hle2 b _ e1
 rw [k1] at this;cases this
 refine ⟨_,_,_,arr2,el2,fr2,e1,k2,λ i v hv=> ?_,k4,k5⟩
 obtain ⟨x,g1,g2⟩:=e3 i v hv
 obtain ⟨y,g3,g4⟩:=k3 i v hv
 exact ⟨y,g3,g2.back hle2 y g4⟩
theorem Goes.merge {ρ ρr ρ':Ren} {hp hr:Nat->Option Blk} {w w':World} {n:Nat} {nb:Heap} (hR:Rel ρ hp w) (hle:Le ρr ρ) (hsub:∀b B,hr b=some B->hp b=some B) (hrn:∀b,n<=b->hr b=none)
 (g:Goes ρr hr w ρ' (hpu hr n nb) w') (hg:∀b,ρ' b≠none->ρr b≠none∨(n<=b/\b < n+nb.length)) (hfree:∀b,n<=b->b < n+nb.length->ρ b=none) (hrr:∀b B,hr b=some B->ρr b≠none):
 Goes ρ hp w (λ b=> if n<=b/\b < n+nb.length then ρ' b else ρ b) (hpu hp n nb) w':=by
 have hle1:Le ρ (λ b=> if n<=b/\b < n+nb.length then ρ' b else ρ b):=by
  intro b x hb
  show (if _ then _ else _)=_
  split
  . rename_i h;rw [hfree b h.1 h.2] at hb;cases hb
  . exact hb
 have hle2:Le ρ' (λ b=> if n<=b/\b < n+nb.length then ρ' b else ρ b):=by
  intro b x hb
  show (if _ then _ else _)=_
  split
  . exact hb
  . rename_i h
    rcases hg b (by rw [hb];simp) with h1|h1
    . cases hq:ρr b with
      |none=> exact (h1 hq).elim
      |some y=>
       have:=g.le b y hq
       rw [hb] at this;cases this
       exact hle b _ hq
    . exact (h h1).elim
 have hold:∀b B,hp b=some B->¬ (n<=b/\b < n+nb.length):=by
  intro b B hb hh
  obtain ⟨b',d,m,_,_,_,e1,_⟩:=hR.blk b B hb
  rw [hfree b hh.1 hh.2] at e1;cases e1
 have hlt:∀b B x d,hp b=some B->At ρ b x d->x < w.heap.size:=by
  intro b B x d hb ⟨m,hx⟩
  obtain ⟨b',d',m',arr,el,fr,e1,e2,_⟩:=hR.blk b B hb
  rw [hx] at e1;cases e1
  exact (Array.getElem?_eq_some_iff.1 e2).1
 have hbackr:∀b B x d,hr b=some B->At ρ' b x d->At ρr b x d:=by
  intro b B x d hb ⟨m,hx⟩
  cases hq:ρr b with
  |none=> exact (hrr b B hb hq).elim
  |some y=> have:=g.le b y hq;rw [hx] at this;cases this;exact ⟨m,hq⟩
 have hsame:∀b B,hp b=some B->hr b≠some B->∀x d,At ρ b x d->w'.heap[x]? =w.heap[x]? :=by
  intro b B hb hne x d hx
  refine g.kept.block x (hlt b B x d hb hx) λ b2 B2 d2 hb2 hro hx2=> ?_
  have hne2:b2≠b:=by
   rintro rfl
   have:=hsub _ _ hb2
   rw [hb] at this;cases this
   exact hne hb2
  exact hR.inj b2 B2 b B x d2 x d (hsub _ _ hb2) hb hne2 hro (hx2.mono hle) hx rfl
 have hat:∀b x d,¬ (n<=b/\b < n+nb.length)->At (λ b=> if n<=b/\b < n+nb.length then ρ' b else ρ b) b x d->At ρ b x d:=by
  rintro b x d hn ⟨m,h⟩
  simp only [if_neg hn] at h
  exact ⟨m,h⟩
 have hat2:∀b x d,(n<=b/\b < n+nb.length)->At (λ b=> if n<=b/\b < n+nb.length then ρ' b else ρ b) b x d->At ρ' b x d:=by
  rintro b x d hn ⟨m,h⟩
  simp only [if_pos hn] at h
  exact ⟨m,h⟩
 have hupd:∀b B,n<=b/\b < n+nb.length->hpu hp n nb b=some B->hpu hr n nb b=some B:=by
  intro b B hn h
  unfold hpu at h ⊢
  rw [if_pos hn] at h ⊢
  exact h
 have hnewge:∀b B x d,n<=b/\b < n+nb.length->hpu hr n nb b=some B->At ρ' b x d->w.heap.size<=x:=by
  intro b B x d hn hb hx
  rcases g.ancs b B x d hb hx with h|⟨B0,h1,_⟩|⟨b0,B0,d0,h1,h2,h3⟩
  . exact h
  . rw [hrn b hn.1] at h1;cases h1
  . have hb0:¬ (n<=b0/\b0 < n+nb.length):=λ hh=> by rw [hrn b0 hh.1] at h1;cases h1
    have h1':hpu hr n nb b0=some B0:=by unfold hpu;rw [if_neg hb0];exact h1
    exact (g.rel.inj b0 B0 b B x d0 x d h1' hb (λ e=> hb0 (e ▸ hn)) h2 (h3.mono g.le) hx rfl).elim
 refine ⟨hle1,⟨λ b B hb=> ?_,λ b1 B1 b2 B2 x1 d1 x2 d2 k1 k2 hne hro e1 e2=> ?_⟩,⟨g.kept.os,g.kept.tape,g.kept.output,g.kept.size,λ c hc hno=> ?_⟩,λ b B x d hb hx=> ?_⟩
 . by_cases hn:n<=b/\b < n+nb.length
   . obtain ⟨b',d,m,arr,el,fr,e1,e2,e3,e4⟩:=g.rel.blk b B (hupd b B hn hb)
     exact ⟨b',d,m,arr,el,fr,hle2 _ _ e1,e2,λ i v hv=> (by obtain ⟨y,g1,g2⟩:=e3 i v hv;exact ⟨y,g1,g2.mono hle2⟩),e4⟩
   . have hb':hp b=some B:=by unfold hpu at hb;rwa [if_neg hn] at hb
     by_cases hin:hr b=some B
     . have:hpu hr n nb b=some B:=by unfold hpu;rw [if_neg hn];exact hin
       obtain ⟨b',d,m,arr,el,fr,e1,e2,e3,e4⟩:=g.rel.blk b B this
       exact ⟨b',d,m,arr,el,fr,hle2 _ _ e1,e2,λ i v hv=> (by obtain ⟨y,g1,g2⟩:=e3 i v hv;exact ⟨y,g1,g2.mono hle2⟩),e4⟩
     . obtain ⟨b',d,m,arr,el,fr,e1,e2,e3,e4⟩:=hR.blk b B hb'
       exact ⟨b',d,m,arr,el,fr,hle1 _ _ e1,by rw [hsame b B hb' hin b' d ⟨m,e1⟩];exact e2,λ i v hv=> (by obtain ⟨y,g1,g2⟩:=e3 i v hv;exact ⟨y,g1,g2.mono hle1⟩),e4⟩
 . by_cases hn1:n<=b1/\b1 < n+nb.length
   . have q1:=hnewge b1 B1 x1 d1 hn1 (hupd b1 B1 hn1 k1) (hat2 _ _ _ hn1 e1)
     by_cases hn2:n<=b2/\b2 < n+nb.length
     . exact g.rel.inj b1 B1 b2 B2 x1 d1 x2 d2 (hupd b1 B1 hn1 k1) (hupd b2 B2 hn2 k2) hne hro (hat2 _ _ _ hn1 e1) (hat2 _ _ _ hn2 e2)
     . have k2':hp b2=some B2:=by unfold hpu at k2;rwa [if_neg hn2] at k2
       have:=hlt b2 B2 x2 d2 k2' (hat _ _ _ hn2 e2)
       omega
   . have k1':hp b1=some B1:=by unfold hpu at k1;rwa [if_neg hn1] at k1
     have q1:=hlt b1 B1 x1 d1 k1' (hat _ _ _ hn1 e1)
     by_cases hn2:n<=b2/\b2 < n+nb.length
     . have:=hnewge b2 B2 x2 d2 hn2 (hupd b2 B2 hn2 k2) (hat2 _ _ _ hn2 e2)
       omega
     . have k2':hp b2=some B2:=by unfold hpu at k2;rwa [if_neg hn2] at k2
       exact hR.inj b1 B1 b2 B2 x1 d1 x2 d2 k1' k2' hne hro (hat _ _ _ hn1 e1) (hat _ _ _ hn2 e2)
 . refine g.kept.block c hc λ b B d hb hro hx=> hno b B d (hsub b B hb) hro (hx.mono hle)
 . by_cases hn:n<=b/\b < n+nb.length
   . exact .inl (hnewge b B x d hn (hupd b B hn hb) (hat2 b x d hn hx))
   . have hb':hp b=some B:=by unfold hpu at hb;rwa [if_neg hn] at hb
     exact .inr (.inl ⟨B,hb',hat b x d hn hx,id⟩)
variable {C:Tab R} {an:Ann} {nt:Nat}
def roOnly (H:Heap):Heap:=H.map fun|some B=> bif B.ro then some B else none|none=> none
theorem AQV (H:Heap) (b:Nat):hblk (roOnly H) b=match hblk H b with|some B=> bif B.ro then some B else none|none=> none:=by
 induction H generalizing b with
 |nil=> rfl
 |cons x H ih=> cases b with
  |zero=> cases x <;> rfl
  |succ b=> exact ih b
theorem ANX {H:Heap} {b:Nat} {B:Blk} (h:hblk (roOnly H) b=some B):hblk H b=some B/\B.ro=true:=by
 rw [AQV] at h
 cases hq:hblk H b with
 |none=> rw [hq] at h;cases h
 |some C=>
  rw [hq] at h
  simp only at h
  cases hr:C.ro with
  |false=> rw [hr] at h;cases h
  |true=> rw [hr,cond_true] at h;cases h;exact ⟨rfl,hr⟩
theorem ASQ (H:Heap):(roOnly H).length=H.length:=by simp [roOnly]
theorem AVO {H:Heap} {b o:Nat} {sp:Option _} (h:isRo H (some ⟨b,o,sp⟩)=true):hblk (roOnly H) b=hblk H b:=by
 rw [AQV]
 simp only [isRo] at h
 cases hq:hblk H b with
 |none=> rfl
 |some B=> rw [hq] at h;simp only at h ⊢;rw [h];rfl
theorem AVR {H:Heap} {b o:Nat} {sp:Option _} (h:isRo H (some ⟨b,o,sp⟩)=true) (i:Nat):hcell (roOnly H) b i=hcell H b i:=by
 unfold hcell;rw [AVO h]
theorem AVy {H:Heap} {a:Option Addr} (h:isRo H a=true) (s:SK) (K:Value->Option R):ldS s (roOnly H) a K=ldS s H a K:=by
 cases a with
 |none=> cases s <;> rfl
 |some a=>
  obtain ⟨b,o,sp⟩:=a
  have:=AVR h
  cases s <;> simp only [ldS,ldI,ldB,ldP,ldL,ldT,ldV,this]
theorem AVN {H:Heap} {a:Option Addr} (h:isRo H a=true) (i:Nat):isRo H (pad a i)=true:=by
 cases a with
 |none=> exact h
 |some a=> exact h
theorem Abl {H:Heap} {a:Option Addr} (h:isRo H a=true):∀(ks:List SK) (i:Nat) (K:List Value->Option R),ldN ks (roOnly H) a i K=ldN ks H a i K:=by
 intro ks
 induction ks with
 |nil=> intro i K;rfl
 |cons s ks ih=>
  intro i K
  simp only [ldN]
  rw [AVy (AVN h i)]
  congr 1
  funext v
  exact ih _ _
def Eff (P:Program) (o:Oper) (io:IOp) (L:Nat->Value) (G0 G:Heap) (made:List (Nat×Nat×Nat)) (v:Value) (G':Heap):Prop:=
 G.length<=G'.length/\
 (isBar io=true->∀(e:Env) (ρ:Ren) (w:World) (a:Act) (Q:Exit->Act->World->Prop),(∀t,eget e t=L t)->Rel ρ (hblk G) w->Dom ρ G.length->Reads ρ e a o->o.wp P a w (SP o a ρ G w v G') Q)/\
 (isBar io=false->isMem io=true->∃nb,G'=G++nb/\(isCreator io=false->nb= [])/\∀(e:Env) (ρ:Ren) (hp:Nat->Option Blk) (w:World) (a:Act) (Q:Exit->Act->World->Prop),(∀t,eget e t=L t)->Rel ρ hp w->
  (if isCal io then (∀b B,hblk (hideH G made (hidOf io)) b=some B->hp b=some B) else Agree ρ hp G)->Dom ρ G.length->Reads ρ e a o->o.wp P a w (LP o a ρ hp w G.length v nb) Q)/\
 (isMem io=false->G'=G/\∀(e:Env) (ρ:Ren) (w:World) (a:Act) (Q:Exit->Act->World->Prop),(∀t,eget e t=L t)->Reads ρ e a o->Rel ρ (hblk (roOnly G0)) w->o.wp P a w (LP o a ρ (hblk (roOnly G0)) w G0.length v []) Q)
theorem Reads.same {ρ:Ren} {e e':Env} {a:Act} {o:Oper} (h:∀t,eget e t=eget e' t) (k:Reads ρ e a o):Reads ρ e' a o:=λ x hx t ht=> by rw [←h];exact k x hx t ht
theorem ATn {io:IOp} (hm:isMem io=false) (hl:isLdr io=false) (made:List (Nat×Nat×Nat)) (e:Env) (H:Heap) (K:Value->Heap->Option R):evOp C made io e H K=evOp C made io e [] (λ v _=> K v H):=by
 cases io <;> first|rfl|(simp [isMem,isBar] at hm;done)|(simp [isLdr] at hl;done)
theorem AVV {k:VK} {x:X} {made:List (Nat×Nat×Nat)} {e:Env} {H:Heap} {K:Value->Heap->Option R} {r:R} (h:evOp C made (.ldr k x) e H K=some r):evOp C made (.ld k x) e (roOnly H) (λ v _=> K v H)=some r:=by
 simp only [evOp] at h ⊢
 split at h
 . rename_i a ha
   cases hq:isRo H a with
   |false=> rw [hq] at h;cases h
   |true=>
    rw [hq,cond_true] at h
    cases k with
    |sc s=> simp only at h ⊢;rw [AVy hq];exact h
    |agg ks=> simp only at h ⊢;rw [Abl hq];exact h
 . cases h
theorem AY9 (hC:CSound P C) {o:Oper} {bar:Bool} {hide:List Nat} {k:VK} {x:X} (htr:trOp P an bar hide o.op o.type=some (.ld k x)) {made:List (Nat×Nat×Nat)} {e:Env} {H0 H:Heap} {K:Value->Heap->Option R} {r:R} (hr:evO C H0 made (.ldr k x) e H K=some r):
 ∃v H',K v H'=some r/\Eff P o (.ldr k x) (eget e) H0 H made v H':=by
 simp only [evO] at hr
 have h:=AQo (made:=made) hC htr (AVV hr)
 unfold OpOK at h
 simp only [isBar,isCal,Bool.false_eq_true,if_false] at h
 obtain ⟨v,nb,h1,h2,h3⟩:=h
 have hnb:=h2 rfl
 subst hnb
 refine ⟨v,H,h1,Nat.le_refl _,(λ hh=> by simp [isBar] at hh),(λ _ hh=> by simp [isMem,isBar] at hh),λ _=> ⟨rfl,λ e' ρ w a Q he hE hR=> ?_⟩⟩
 have:=h3 ρ _ w a Q hR (λ b _ _=> rfl) (λ b h1 h2=> by simp at h2;omega) (Reads.same he hE)
 rwa [ASQ] at this
theorem AV4 (hC:CSound P C) {o:Oper} {bar:Bool} {hide:List Nat} {io:IOp} (htr:trOp P an bar hide o.op o.type=some io) (hl:isLdr io=false) {made:List (Nat×Nat×Nat)} {e:Env} {H0 H:Heap} {K:Value->Heap->Option R} {r:R} (hr:evO C H0 made io e H K=some r):
 ∃v H',K v H'=some r/\Eff P o io (eget e) H0 H made v H':=by
 rw [AV3 hl] at hr
 cases hm:isMem io with
 |false=>
  rw [ATn hm hl] at hr
  have h:=AQo (made:=made) hC htr hr
  have hb:isBar io=false:=by cases io <;> first|rfl|(simp [isMem,isBar] at hm)
  have hc:isCal io=false:=by cases io <;> first|rfl|(simp [isMem,isBar] at hm)
  have hcr:isCreator io=false:=by cases io <;> first|rfl|(simp [isMem,isBar] at hm)
  unfold OpOK at h
  rw [hb,hc] at h
  simp only [Bool.false_eq_true,if_false] at h
  obtain ⟨v,nb,h1,h2,h3⟩:=h
  have hnb:=h2 hcr
  subst hnb
  refine ⟨v,H,h1,Nat.le_refl _,(λ hh=> by rw [hb] at hh;cases hh),(λ _ hh=> by rw [hm] at hh;cases hh),λ _=> ⟨rfl,λ e' ρ w a Q he hE hR=> ?_⟩⟩
  refine Oper.wp_mono ?_ (h3 ρ _ w a Q hR (λ b hb=> by simp at hb) (λ b h1 h2=> by simp at h2) (Reads.same he hE))
  rintro a' w' ⟨ρ',v',k1,k2,k3,k4⟩
  refine ⟨ρ',v',k1,k2, ?_,λ b hb=> (k4 b hb).imp id (λ h=> by simp at h)⟩
  have e1:∀n,hpu (hblk (roOnly H0)) n []=hblk (roOnly H0):=λ n=> by funext b;unfold hpu;rw [if_neg (by simp)];
  rw [e1] at k3 ⊢;exact k3
 |true=>
  have h:=AQo (made:=made) hC htr hr
  unfold OpOK at h
  cases hb:isBar io with
  |true=>
   rw [hb] at h
   simp only [if_true] at h
   obtain ⟨v,H',h1,h2,h3⟩:=h
   exact ⟨v,H',h1,h2,λ _ e' ρ w a Q he hR hD hE=> h3 ρ w a Q hR hD (Reads.same he hE),(λ hh=> by rw [hb] at hh;cases hh),(λ hh=> by rw [hm] at hh;cases hh)⟩
  |false=>
   rw [hb] at h
   simp only [Bool.false_eq_true,if_false] at h
   cases hc:isCal io with
   |true=>
    rw [hc] at h
    simp only [if_true] at h
    obtain ⟨v,nb,h1,h2,h3⟩:=h
    refine ⟨v,H++nb,h1,by simp,(λ hh=> by rw [hb] at hh;cases hh),λ _ _=> ⟨nb,rfl,h2,λ e' ρ hp w a Q he hR hs hD hE=> ?_⟩,(λ hh=> by rw [hm] at hh;cases hh)⟩
    rw [hc] at hs
    simp only [if_true] at hs
    exact h3 ρ hp w a Q hR hs hD (Reads.same he hE)
   |false=>
    rw [hc] at h
    simp only [Bool.false_eq_true,if_false] at h
    obtain ⟨v,nb,h1,h2,h3⟩:=h
    refine ⟨v,H++nb,h1,by simp,(λ hh=> by rw [hb] at hh;cases hh),λ _ _=> ⟨nb,rfl,h2,λ e' ρ hp w a Q he hR hs hD hE=> ?_⟩,(λ hh=> by rw [hm] at hh;cases hh)⟩
    rw [hc] at hs
    simp only [Bool.false_eq_true,if_false] at hs
    exact h3 ρ hp w a Q hR hs (λ b hb _=> hD b hb) (Reads.same he hE)
def gex (io:IOper) (L:Nat->Value):Option Bool:=
 match io.guard with
 |none=> some true
 |some (g,want)=> match L g with
  | .bool t=> some (t==want)
  | .tuple cs=> bif Nat.beq cs.toList.length 1 then some false else none
  |_=> none
def StepR (P:Program) (o:Oper) (io:IOper) (i:Nat) (L:Nat->Value) (G0 G:Heap) (M:List (Nat×Nat×Nat)) (v:Value) (L':Nat->Value) (G':Heap) (M':List (Nat×Nat×Nat)):Prop:=
 (∀t,L' t=if o.dst=some t then v else L t)/\
 ((gex io L=some true/\Eff P o io.op L G0 G M v G'/\M'=(bif isCreator io.op then (i,G.length,G'.length)::M else M)/\∃e:Env,∀t,eget e t=L t)∨(gex io L=some false/\v=skp/\G'=G/\M'=M))
theorem ATq (d:Option Nat) (v:Value) (e:Env) (t:Nat):eget (eput d v e) t=if d=some t then v else eget e t:=by
 cases d with
 |none=> simp [eput]
 |some d=>
  simp only [eput,eget]
  by_cases c:d=t
  . subst c
    have:Nat.beq d d=true:=Nat.beq_refl d
    rw [this,cond_true];simp
  . rw [beqF c,cond_false,if_neg (by simpa using c)]
theorem ASe {e:Env} {g:Nat} {v:Value} (h:eget e g=v) (t:Nat):eget ((g,v)::e) t=eget e t:=by
 simp only [eget]
 by_cases c:g=t
 . subst c
   have:Nat.beq g g=true:=Nat.beq_refl g
   rw [this,cond_true,h]
 . rw [beqF c,cond_false]
def RunEx (P:Program) (os:List Oper) (ios:List IOper) (i:Nat) (made:List (Nat×Nat×Nat)) (e:Env) (H0 H:Heap) (K:Env->Heap->Option R) (r:R):Prop:=
 ∃(Lf:Nat->Nat->Value) (Gf:Nat->Heap) (Vf:Nat->Value) (Mf:Nat->List (Nat×Nat×Nat)) (e':Env),(∀t,Lf 0 t=eget e t)/\Gf 0=H/\Mf 0=made/\(∀t,eget e' t=Lf os.length t)/\K e' (Gf os.length)=some r/\
  ios.length=os.length/\∀j o io,os[j]? =some o->ios[j]? =some io->StepR P o io (i+j) (Lf j) H0 (Gf j) (Mf j) (Vf j) (Lf (j+1)) (Gf (j+1)) (Mf (j+1))
theorem Aau (hC:CSound P C) {all:List Oper} {bf:List (List Nat)} (H0:Heap):∀(os:List Oper) (ios:List IOper) (i:Nat),trOs P an nt all true bf i os=some ios->
 ∀(made:List (Nat×Nat×Nat)) (e:Env) (H:Heap) (K:Env->Heap->Option R) (r:R),evOps C H0 ios i made e H K=some r->RunEx P os ios i made e H0 H K r:=by
 intro os
 induction os with
 |nil=>
  intro ios i htr made e H K r h
  simp [trOs] at htr
  subst htr
  exact ⟨λ _=> eget e,λ _=> H,λ _=> undef,λ _=> made,e,λ _=> rfl,rfl,rfl,λ _=> rfl,h,rfl,λ j o io hj=> by simp at hj⟩
 |cons o os ih=>
  intro ios i htr made e H K r h
  simp only [trOs] at htr
  split at htr
  . rename_i io ios' h1 h2
    cases htr
    have fin:∀(e2:Env) (v:Value) (H1:Heap) (M1:List (Nat×Nat×Nat)),(∀t,eget e2 t=eget e t)->evOps C H0 ios' (i+1) M1 (eput o.dst v e2) H1 K=some r->
     ((gex io (eget e)=some true/\Eff P o io.op (eget e) H0 H made v H1/\M1=(bif isCreator io.op then (i,H.length,H1.length)::made else made)/\∃e':Env,∀t,eget e' t=eget e t)∨(gex io (eget e)=some false/\v=skp/\H1=H/\M1=made))->
     RunEx P (o::os) (io::ios') i made e H0 H K r:=by
     intro e2 v H1 M1 he hev hst
     obtain ⟨Lf,Gf,Vf,Mf,e',g1,g2,g3,g4,g5,g6,g7⟩:=ih ios' (i+1) h2 M1 _ H1 K r hev
     refine ⟨λ j=> match j with|0=> eget e|j+1=> Lf j,λ j=> match j with|0=> H|j+1=> Gf j,λ j=> match j with|0=> v|j+1=> Vf j,λ j=> match j with|0=> made|j+1=> Mf j,e',λ _=> rfl,rfl,rfl,g4,g5,by simp [g6],λ j o' io' hj hi=> ?_⟩
     cases j with
     |zero=>
      simp at hj hi
      subst hj hi
      refine ⟨λ t=> ?_, ?_⟩
      . show Lf 0 t=_
        rw [g1,ATq,he]
      . show (gex io (eget e)=some true/\Eff P o io.op (eget e) H0 H made v (Gf 0)/\Mf 0=(bif isCreator io.op then (i+0,H.length,(Gf 0).length)::made else made)/\∃e':Env,∀t,eget e' t=eget e t)∨(gex io (eget e)=some false/\v=skp/\Gf 0=H/\Mf 0=made)
        rw [g2,g3]
        exact hst
     |succ j=>
      simp at hj hi
      have:=g7 j o' io' hj hi
      rwa [show i+1+j=i+(j+1) from by omega] at this
    have hdst:io.dst=o.dst/\∀(made:List (Nat×Nat×Nat)) (e:Env) (H:Heap) (K:Value->Heap->Option R) (r:R),evO C H0 made io.op e H K=some r->∃v H',K v H'=some r/\Eff P o io.op (eget e) H0 H made v H':=by
     unfold trO at h1
     split at h1
     . rename_i op hop
       cases hd:dstOk nt o.dst && !(isLdr op) with
       |false=> rw [hd] at h1;cases h1
       |true=>
        rw [hd,cond_true] at h1
        rw [Bool.and_eq_true,Bool.not_eq_true'] at hd
        have key:∀(b:Bool) (made:List (Nat×Nat×Nat)) (e:Env) (H:Heap) (K:Value->Heap->Option R) (r:R),evO C H0 made (bif b then toLdr op else op) e H K=some r->∃v H',K v H'=some r/\Eff P o (bif b then toLdr op else op) (eget e) H0 H made v H':=by
         intro b made e H K r h
         cases b with
         |false=> exact AV4 hC hop hd.2 h
         |true=>
          rw [cond_true] at h ⊢
          cases op with
          |ld k x=> exact AY9 hC hop h
          |_=> exact AV4 hC hop hd.2 h
        split at h1
        . cases h1;exact ⟨rfl,key _⟩
        . split at h1
          . cases h1;exact ⟨rfl,key _⟩
          . cases h1
     . cases h1
    obtain ⟨hdst,hop⟩:=hdst
    simp only [evOps] at h
    cases hg:io.guard with
    |none=>
     rw [hg] at h
     simp only at h
     obtain ⟨v,H1,k1,k2⟩:=hop _ _ _ _ _ h
     rw [hdst] at k1
     exact fin e v H1 _ (λ _=> rfl) k1 (.inl ⟨by simp [gex,hg],k2,rfl,e,λ _=> rfl⟩)
    |some gw=>
     obtain ⟨g,want⟩:=gw
     rw [hg] at h
     simp only at h
     split at h
     . rename_i t ht
       have hal:∀b,b=t->∀x,eget ((g,Value.bool b)::e) x=eget e x:=λ b hb x=> ASe (by rw [ht,hb]) x
       have hgx:gex io (eget e)=some (t==want):=by simp [gex,hg,ht]
       have exec:evO C H0 made io.op ((g, .bool t)::e) H (λ v H'=> evOps C H0 ios' (i+1) (bif isCreator io.op then (i,H.length,H'.length)::made else made) (eput io.dst v ((g, .bool t)::e)) H' K)=some r->(t==want)=true->RunEx P (o::os) (io::ios') i made e H0 H K r:=λ h hw=> by
        obtain ⟨v,H1,k1,k2⟩:=hop _ _ _ _ _ h
        rw [hdst] at k1
        have k2':Eff P o io.op (eget e) H0 H made v H1:=by
         have:eget ((g,Value.bool t)::e)=eget e:=funext (hal t rfl)
         rwa [this] at k2
        exact fin _ v H1 _ (hal t rfl) k1 (.inl ⟨by rw [hgx,hw],k2',rfl,e,λ _=> rfl⟩)
       have skip:evOps C H0 ios' (i+1) made (eput io.dst skp ((g, .bool t)::e)) H K=some r->(t==want)=false->RunEx P (o::os) (io::ios') i made e H0 H K r:=λ h hw=> by
        rw [hdst] at h
        exact fin _ skp H made (hal t rfl) h (.inr ⟨by rw [hgx,hw],rfl,rfl,rfl⟩)
       cases t with
       |true=>
        rw [cond_true] at h
        cases want with
        |true=> rw [cond_true] at h;exact exec h rfl
        |false=> rw [cond_false] at h;exact skip h rfl
       |false=>
        rw [cond_false] at h
        cases want with
        |true=> rw [cond_true] at h;exact skip h rfl
        |false=> rw [cond_false] at h;exact exec h rfl
     . rename_i cs ht
       cases hc:Nat.beq cs.toList.length 1 with
       |false=> rw [hc] at h;cases h
       |true=>
        rw [hc,cond_true] at h
        rw [hdst] at h
        exact fin e skp H made (λ _=> rfl) h (.inr ⟨by simp only [gex,hg,ht,hc,cond_true],rfl,rfl,rfl⟩)
     . cases h
  . cases htr
theorem AOR {α:Type}:∀(l:List α) (n i:Nat) (x:α),l[i]? =some x->(n+i,x)∈indexed n l:=by
 intro l
 induction l with
 |nil=> intro n i x h;simp at h
 |cons y l ih=>
  intro n i x h
  cases i with
  |zero=> simp at h;subst h;simp [indexed]
  |succ i=>
   simp at h
   have:=ih (n+1) i x h
   rw [show n+1+i=n+(i+1) from by omega] at this
   simp [indexed,this]
structure DR (P:Program) (nt:Nat) (ops:Array Oper) (ios:List IOper) (bf:List (List Nat)) where
 Lf:Nat->Nat->Value
 Gf:Nat->Heap
 Vf:Nat->Value
 Mf:Nat->List (Nat×Nat×Nat)
 len:ios.length=ops.size
 step:∀(j:Nat) (o:Oper) (io:IOper),ops[j]? =some o->ios[j]? =some io->StepR P o io j (Lf j) (Gf 0) (Gf j) (Mf j) (Vf j) (Lf (j+1)) (Gf (j+1)) (Mf (j+1))
 m0:Mf 0= []
 dst:∀(j:Nat) (o:Oper) (io:IOper),ops[j]? =some o->ios[j]? =some io->io.dst=o.dst/\dstOk nt o.dst=true
 grd:∀(j:Nat) (o:Oper) (io:IOper),ops[j]? =some o->ios[j]? =some io->(o.guard=none/\io.guard=none)∨∃k g want,o.guard=some (k,want)/\io.guard=some (g,want)/\dstOf ops.toList k=some g
 bef:∀(j:Nat) (o:Oper),ops[j]? =some o->∀e∈o.after.toList,Region.binds .any e=true->e.on < j
 anc:∀(j:Nat) (o:Oper),ops[j]? =some o->∀i,bound bf i j=true->∃e∈o.after.toList,Region.binds .any e=true/\e.on < j/\(e.on=i∨bound bf i e.on=true)
 cfl:∀(i j:Nat) (o:Oper) (io:IOper) (o':Oper) (io':IOper),i < j->ops[i]? =some o->ios[i]? =some io->ops[j]? =some o'->ios[j]? =some io'->bound bf i j=true∨
  (confl o io o' io'=false/\(isBar io.op && isMem io'.op)=false/\(isMem io.op && isBar io'.op)=false/\(isCreator io.op=true->isCal io'.op=true->(hidOf io'.op).elem i=true))
namespace DR
variable {ops:Array Oper} {ios:List IOper} {bf:List (List Nat)} (d:DR P nt ops ios bf)
theorem io_of (d:DR P nt ops ios bf) {j:Nat} {o:Oper} (h:ops[j]? =some o):∃io,ios[j]? =some io:=by
 have:j < ops.size:=(Array.getElem?_eq_some_iff.1 h).1
 exact ⟨_,List.getElem?_eq_getElem (by rw [d.len];exact this)⟩
theorem both (d:DR P nt ops ios bf) {j:Nat} (h:j < ops.size):∃o io,ops[j]? =some o/\ios[j]? =some io:=
 ⟨_,_,Array.getElem?_eq_getElem h,List.getElem?_eq_getElem (by rw [d.len];exact h)⟩
def lvl (i:Nat):Nat:=(d.Gf i).length
theorem lvl_succ {i:Nat} (h:i < ops.size):d.lvl i<=d.lvl (i+1):=by
 obtain ⟨o,io,h1,h2⟩:=d.both h
 rcases (d.step i o io h1 h2).2 with ⟨_,e,_⟩|⟨_,_,e,_⟩
 . exact e.1
 . unfold lvl;rw [e];exact Nat.le_refl _
theorem lvl_mono:∀ {i j:Nat},i<=j->j<=ops.size->d.lvl i<=d.lvl j:=by
 intro i j hij hj
 induction j with
 |zero=>
  have:i=0:=by omega
  subst this;exact Nat.le_refl _
 |succ j ih=>
  by_cases c:i=j+1
  . subst c;exact Nat.le_refl _
  . exact Nat.le_trans (ih (by omega) (by omega)) (d.lvl_succ (by omega))
def isB (j:Nat):Prop:=∃io,ios[j]? =some io/\isBar io.op=true
def isM (j:Nat):Prop:=∃io,ios[j]? =some io/\isMem io.op=true
theorem bm {io:IOp} (h:isBar io=true):isMem io=true:=by cases io <;> first|rfl|(simp [isBar] at h)
def Ext (i:Nat):Prop:=∀b,b < d.lvl i->hblk (d.Gf (i+1)) b=hblk (d.Gf i) b
theorem AY8 {G nb:Heap} {b:Nat} (h:b < G.length):hblk (G++nb) b=hblk G b:=by
 rw [AGD];unfold hpu;rw [if_neg (by omega)]
theorem ext_of {i:Nat} (h:i < ops.size) (hb:¬ isB (ios:=ios) i∨d.Gf (i+1)=d.Gf i):d.Ext i:=by
 obtain ⟨o,io,h1,h2⟩:=d.both h
 intro b hlt
 rcases hb with hb|hb
 . rcases (d.step i o io h1 h2).2 with ⟨_,e,_⟩|⟨_,_,e,_⟩
   . have hbar:isBar io.op=false:=by
      cases q:isBar io.op with
      |false=> rfl
      |true=> exact (hb ⟨io,h2,q⟩).elim
     cases hm:isMem io.op with
     |false=> rw [(e.2.2.2 hm).1]
     |true=>
      obtain ⟨nb,h3,_⟩:=e.2.2.1 hbar hm
      rw [h3];exact AY8 hlt
   . rw [e]
 . rw [hb]
theorem seg:∀ {p q:Nat},p<=q->q<=ops.size->(∀i,p<=i->i < q->d.Ext i)->∀b,b < d.lvl p->hblk (d.Gf q) b=hblk (d.Gf p) b:=by
 intro p q hpq hq hx b hb
 induction q with
 |zero=>
  have:p=0:=by omega
  subst this;rfl
 |succ q ih=>
  by_cases c:p=q+1
  . subst c;rfl
  . rw [hx q (by omega) (by omega) b (Nat.lt_of_lt_of_le hb (d.lvl_mono (by omega) (by omega)))]
    exact ih (by omega) (by omega) (λ i h1 h2=> hx i h1 (by omega))
theorem grow_mem {i:Nat} (h:i < ops.size) (hg:d.lvl i < d.lvl (i+1)):isM (ios:=ios) i/\∃o io,ops[i]? =some o/\ios[i]? =some io/\gex io (d.Lf i)=some true/\Eff P o io.op (d.Lf i) (d.Gf 0) (d.Gf i) (d.Mf i) (d.Vf i) (d.Gf (i+1))/\(isBar io.op=true∨isCreator io.op=true)/\
 d.Mf (i+1)=(bif isCreator io.op then (i,(d.Gf i).length,(d.Gf (i+1)).length)::d.Mf i else d.Mf i):=by
 obtain ⟨o,io,h1,h2⟩:=d.both h
 rcases (d.step i o io h1 h2).2 with ⟨e0,e,e3⟩|⟨_,_,e,_⟩
 . cases hm:isMem io.op with
   |false=> have:=(e.2.2.2 hm).1;unfold lvl at hg;rw [this] at hg;omega
   |true=>
    refine ⟨⟨io,h2,hm⟩,o,io,h1,h2,e0,e, ?_,e3.1⟩
    cases hb:isBar io.op with
    |true=> exact .inl rfl
    |false=>
     obtain ⟨nb,k1,k2,_⟩:=e.2.2.1 hb hm
     cases hc:isCreator io.op with
     |true=> exact .inr rfl
     |false=> have:=k2 hc;subst this;unfold lvl at hg;rw [k1] at hg;simp at hg
 . unfold lvl at hg;rw [e] at hg;omega
def cur (S:Nat->Bool):Nat->Nat->Value×Nat
 |0,t=> (d.Lf 0 t,0)
 |i+1,t=> if S i=true/\dstOf ops.toList i=some t then (d.Vf i,i+1) else cur S i t
theorem AML {i:Nat} {o:Oper} (h:ops[i]? =some o):dstOf ops.toList i=o.dst:=by
 unfold dstOf
 rw [Array.getElem?_toList,h]
theorem cur_low (S:Nat->Bool) {t:Nat}:∀ {j:Nat},j<=ops.size->(∀i,i < j->dstOf ops.toList i=some t->S i=true)->(d.cur S j t).1=d.Lf j t/\(d.cur S j t).2<=j:=by
 intro j
 induction j with
 |zero=> intro _ _;exact ⟨rfl,Nat.le_refl _⟩
 |succ j ih=>
  intro hj h
  obtain ⟨o,io,h1,h2⟩:=d.both (show j < ops.size by omega)
  have hs:=(d.step j o io h1 h2).1 t
  obtain ⟨k1,k2⟩:=ih (by omega) (λ i hi=> h i (by omega))
  rw [hs]
  unfold cur
  rw [AML h1]
  by_cases c:o.dst=some t
  . have:=h j (by omega) (by rw [AML h1];exact c)
    rw [if_pos ⟨this,c⟩,if_pos c]
    exact ⟨rfl,Nat.le_refl _⟩
  . rw [if_neg (λ hh=> c hh.2),if_neg c]
    exact ⟨k1,by omega⟩
theorem cur_high (S:Nat->Bool) {t:Nat}:∀ {j q:Nat},j<=q->(∀i,j<=i->i < q->dstOf ops.toList i=some t->S i=false)->d.cur S q t=d.cur S j t:=by
 intro j q hjq h
 induction q with
 |zero=>
  have:j=0:=by omega
  subst this;rfl
 |succ q ih=>
  by_cases c:j=q+1
  . subst c;rfl
  . show (if S q=true/\dstOf ops.toList q=some t then (d.Vf q,q+1) else d.cur S q t)=_
    rw [if_neg (λ hh=> by have:=h q (by omega) (by omega) hh.2;rw [this] at hh;simp at hh)]
    exact ih (by omega) (λ i h1 h2=> h i h1 (by omega))
theorem cur_same {S S':Nat->Bool} {t:Nat}:∀ {q:Nat},(∀i,i < q->dstOf ops.toList i=some t->S i=S' i)->d.cur S q t=d.cur S' q t:=by
 intro q
 induction q with
 |zero=> intro _;rfl
 |succ q ih=>
  intro h
  show (if S q=true/\dstOf ops.toList q=some t then (d.Vf q,q+1) else d.cur S q t)=(if S' q=true/\dstOf ops.toList q=some t then (d.Vf q,q+1) else d.cur S' q t)
  rw [ih (λ i hi=> h i (by omega))]
  by_cases c:dstOf ops.toList q=some t
  . rw [h q (by omega) c]
  . rw [if_neg (λ hh=> c hh.2),if_neg (λ hh=> c hh.2)]
def Vis (S:Nat->Bool) (b:Nat):Prop:=b < d.lvl 0∨∃i,i < ops.size/\S i=true/\d.lvl i<=b/\b < d.lvl (i+1)
open Classical in
noncomputable def hpS (S:Nat->Bool) (T:Nat):Nat->Option Blk:=λ b=> if d.Vis S b then hblk (d.Gf T) b else none
def lst (l:Array Bool) (j:Nat):Bool:=l.getD j false
structure Inv (w0:World) (ρ0:Ren) (l:Array Bool) (T:Nat) (ρ:Ren) (a:Act) (w:World):Prop where
 size:l.size=ops.size
 low:∀i j,i < j->j < ops.size->lst l j=true->bound bf i j=true->lst l i=true
 tn:T<=ops.size
 t1:∀i,i < T->isB (ios:=ios) i->lst l i=true
 t2:∀i,T<=i->i < ops.size->isM (ios:=ios) i->lst l i=false
 t3:T=ops.size∨isB (ios:=ios) T
 dom:∀b,ρ b≠none->d.Vis (lst l) b
 old:∀b,b < d.lvl 0->ρ b≠none->ρ0 b≠none
 dom0:Dom ρ0 (d.lvl 0)
 lev:∀i,i<=T->(∀q,isB (ios:=ios) q->q < T->q < i)->Rel (cut ρ (d.lvl i)) (cutH (d.hpS (lst l) T) (d.lvl i)) w
 goes:Goes ρ0 (hblk (d.Gf 0)) w0 ρ (d.hpS (lst l) T) w
 env:∀t,V0 (cut ρ (d.lvl (d.cur (lst l) ops.size t).2)) (d.cur (lst l) ops.size t).1 (a.tmps.getD t undef)
 dfr:a.defers= []
 big:nt<=a.tmps.size
theorem ATz {d:DR P nt ops ios bf} {i j:Nat} {o:Oper} (hj:ops[j]? =some o) (h:bound bf i j=true):i < j:=by
 revert i
 induction j using Nat.strongRecOn generalizing o with
 |_ j ih=>
  intro i h
  obtain ⟨e,_,_,h1,h2⟩:=d.anc j o hj i h
  rcases h2 with h2|h2
  . omega
  . have hlt:e.on < ops.size:=by have:=(Array.getElem?_eq_some_iff.1 hj).1;omega
    have:=ih e.on h1 (Array.getElem?_eq_getElem hlt) h2
    omega
theorem pre_of {d:DR P nt ops ios bf} {l:Array Bool} (hlow:∀i j,i < j->j < ops.size->lst l j=true->bound bf i j=true->lst l i=true) {j:Nat} {o:Oper} (hj:ops[j]? =some o) (hr:∀e∈o.after.toList,Region.binds .any e=true->lst l e.on=true) {i:Nat} (h:bound bf i j=true):lst l i=true:=by
 obtain ⟨e,h0,h1,h2,h3⟩:=d.anc j o hj i h
 rcases h3 with h3|h3
 . rw [←h3];exact hr e h0 h1
 . have hlt:e.on < ops.size:=by have:=(Array.getElem?_eq_some_iff.1 hj).1;omega
   exact hlow i e.on (ATz (d:=d) (Array.getElem?_eq_getElem hlt) h3) hlt (hr e h0 h1) h3
theorem ASD {d:DR P nt ops ios bf} {w0 w:World} {ρ0 ρ:Ren} {l:Array Bool} {T:Nat} {a:Act} (I:d.Inv w0 ρ0 l T ρ a w) {j:Nat} {o:Oper} {io:IOper} (hj:ops[j]? =some o) (hio:ios[j]? =some io) (hn:lst l j=false)
 (hpre:∀i,bound bf i j=true->lst l i=true) {t:Nat} (ht:t∈namesOf o io∨o.dst=some t) (hself:o.dst=some t->lst l j=false):
 (d.cur (lst l) ops.size t).1=d.Lf j t/\(d.cur (lst l) ops.size t).2<=j:=by
 have hlt:j < ops.size:=(Array.getElem?_eq_some_iff.1 hj).1
 have hw1:∀i,i < j->dstOf ops.toList i=some t->lst l i=true:=by
  intro i hi hd
  obtain ⟨o',io',h1,h2⟩:=d.both (show i < ops.size by omega)
  rcases d.cfl i j o' io' o io hi h1 h2 hj hio with h|⟨h,_⟩
  . exact hpre i h
  . rw [AML h1] at hd
    have e1:=(d.dst i o' io' h1 h2).1
    have e2:=(d.dst j o io hj hio).1
    exfalso
    unfold confl at h
    rw [e1,hd] at h
    simp only [Bool.or_eq_false_iff] at h
    rcases ht with ht|ht
    . have:=h.1.1;simp at this;exact this ht
    . have:=h.1.2;rw [e2,ht] at this;simp at this
 have hw2:∀i,j<=i->i < ops.size->dstOf ops.toList i=some t->lst l i=false:=by
  intro i hi hin hd
  by_cases c:i=j
  . subst c;exact hn
  . obtain ⟨o',io',h1,h2⟩:=d.both hin
    cases hs:lst l i with
    |false=> rfl
    |true=>
     rcases d.cfl j i o io o' io' (by omega) hj hio h1 h2 with h|⟨h,_⟩
     . have:=I.low j i (by omega) hin hs h;rw [hn] at this;cases this
     . rw [AML h1] at hd
       have e1:=(d.dst i o' io' h1 h2).1
       have e2:=(d.dst j o io hj hio).1
       exfalso
       unfold confl at h
       rw [e1,hd] at h
       simp only [Bool.or_eq_false_iff] at h
       rcases ht with ht|ht
       . have:=h.2;simp at this;exact this ht
       . have:=h.1;rw [e2,ht] at this;simp at this
 rw [d.cur_high (lst l) (show j<=ops.size by omega) hw2]
 exact d.cur_low (lst l) (by omega) hw1
theorem ANt {l:Array Bool} {j:Nat} (hj:j < l.size) (i:Nat):lst (l.setIfInBounds j true) i=if i=j then true else lst l i:=by
 unfold lst
 by_cases c:i=j
 . subst c;simp [hj]
 . rw [if_neg c]
   simp [Array.getElem?_setIfInBounds_ne (Ne.symm c)]
theorem AVG {ios:List IOper} {n:Nat}:∀(k T:Nat),T < n->n - T=k->∃T',T < T'/\T'<=n/\(T'=n∨isB (ios:=ios) T')/\∀i,T < i->i < T'->¬ isB (ios:=ios) i:=by
 intro k
 induction k with
 |zero=> intro T h1 h2;omega
 |succ k ih=>
  intro T h1 h2
  by_cases c:T+1=n
  . exact ⟨n,h1,Nat.le_refl _, .inl rfl,λ i h3 h4=> by omega⟩
  . by_cases hb:isB (ios:=ios) (T+1)
    . exact ⟨T+1,by omega,by omega, .inr hb,λ i h3 h4=> by omega⟩
    . obtain ⟨T',g1,g2,g3,g4⟩:=ih (T+1) (by omega) (by omega)
      refine ⟨T',by omega,g2,g3,λ i h3 h4=> ?_⟩
      by_cases e:i=T+1
      . subst e;exact hb
      . exact g4 i (by omega) h4
section step
variable {d:DR P nt ops ios bf} {w0 w:World} {ρ0 ρ:Ren} {l:Array Bool} {T:Nat} {a:Act} {j:Nat} {o:Oper} {io:IOper}
theorem ATU (I:d.Inv w0 ρ0 l T ρ a w) (hj:ops[j]? =some o) (hio:ios[j]? =some io) (hm:isMem io.op=true) (hpre:∀i,bound bf i j=true->lst l i=true):j<=T:=by
 have hlt:j < ops.size:=(Array.getElem?_eq_some_iff.1 hj).1
 by_cases c:j<=T
 . exact c
 . exfalso
   have hT:isB (ios:=ios) T:=I.t3.resolve_left (by omega)
   obtain ⟨ioT,h1,h2⟩:=hT
   have hTn:T < ops.size:=by omega
   have hns:=I.t2 T (Nat.le_refl _) hTn ⟨ioT,h1,bm h2⟩
   rcases d.cfl T j _ ioT o io (by omega) (Array.getElem?_eq_getElem hTn) h1 hj hio with h|⟨_,h,_⟩
   . rw [hpre T h] at hns;cases hns
   . rw [h2,hm] at h;cases h
theorem AYp (I:d.Inv w0 ρ0 l T ρ a w) (hj:ops[j]? =some o) (hio:ios[j]? =some io) (hn:lst l j=false) (hpre:∀i,bound bf i j=true->lst l i=true) (hT:j≠T):isBar io.op=false:=by
 cases h:isBar io.op with
 |false=> rfl
 |true=>
  have h1:=ATU I hj hio (bm h) hpre
  have:=I.t1 j (by omega) ⟨io,hio,h⟩
  rw [hn] at this;cases this
theorem AVv (I:d.Inv w0 ρ0 l T ρ a w) (hj:ops[j]? =some o) (hio:ios[j]? =some io) (hn:lst l j=false) (hm:isMem io.op=true) {i:Nat} (h1:j<=i) (h2:i < T):¬ isB (ios:=ios) i:=by
 intro hb
 have hs:=I.t1 i h2 hb
 have hne:i≠j:=λ e=> by rw [e,hn] at hs;cases hs
 obtain ⟨ioi,k1,k2⟩:=hb
 have hin:i < ops.size:=by have:=I.tn;omega
 rcases d.cfl j i o io _ ioi (by omega) hj hio (Array.getElem?_eq_getElem hin) k1 with h|⟨_,_,h,_⟩
 . have:=I.low j i (by omega) hin hs h;rw [hn] at this;cases this
 . rw [hm,k2] at h;cases h
theorem AVZ (I:d.Inv w0 ρ0 l T ρ a w) (hj:ops[j]? =some o) (hio:ios[j]? =some io) (hn:lst l j=false) (t:Nat):
 d.cur (lst (l.setIfInBounds j true)) ops.size t=if o.dst=some t then (d.Vf j,j+1) else d.cur (lst l) ops.size t:=by
 have hlt:j < ops.size:=(Array.getElem?_eq_some_iff.1 hj).1
 have hls:=ANt (l:=l) (j:=j) (by rw [I.size];exact hlt)
 split
 . rename_i hd
   have hw2:∀i,j+1<=i->i < ops.size->dstOf ops.toList i=some t->lst (l.setIfInBounds j true) i=false:=by
    intro i hi hin hdi
    rw [hls,if_neg (by omega)]
    obtain ⟨o',io',h1,h2⟩:=d.both hin
    cases hs:lst l i with
    |false=> rfl
    |true=>
     rcases d.cfl j i o io o' io' (by omega) hj hio h1 h2 with h|⟨h,_⟩
     . have:=I.low j i (by omega) hin hs h;rw [hn] at this;cases this
     . rw [AML h1] at hdi
       have e1:=(d.dst i o' io' h1 h2).1
       have e2:=(d.dst j o io hj hio).1
       exfalso
       unfold confl at h
       rw [e1,hdi] at h
       simp only [Bool.or_eq_false_iff] at h
       have:=h.1;rw [e2,hd] at this;simp at this
   rw [d.cur_high _ (show j+1<=ops.size by omega) hw2]
   show (if lst (l.setIfInBounds j true) j=true/\dstOf ops.toList j=some t then (d.Vf j,j+1) else _)=_
   rw [if_pos ⟨by rw [hls,if_pos rfl],by rw [AML hj];exact hd⟩]
 . rename_i hd
   refine d.cur_same λ i hi hdi=> ?_
   rw [hls,if_neg]
   rintro rfl
   rw [AML hj] at hdi
   exact hd hdi
theorem AQy (I:d.Inv w0 ρ0 l T ρ a w) (hj:ops[j]? =some o) (hio:ios[j]? =some io) (hn:lst l j=false) {ρ':Ren} {v':Value} (hle:Le ρ ρ') (hv:V0 (cut ρ' (d.lvl (j+1))) (d.Vf j) v') (t:Nat):
 V0 (cut ρ' (d.lvl (d.cur (lst (l.setIfInBounds j true)) ops.size t).2)) (d.cur (lst (l.setIfInBounds j true)) ops.size t).1 ((a.put o.dst v').tmps.getD t undef):=by
 have hok:=(d.dst j o io hj hio).2
 rw [AVZ I hj hio hn t]
 cases hd:o.dst with
 |none=> simp only [reduceCtorEq,if_false,Act.put];exact (I.env t).mono (ANh hle (Nat.le_refl _))
 |some x=>
  rw [hd] at hok
  have hlt:x < nt:=by simpa [dstOk,Nat.blt_eq] using hok
  by_cases c:x=t
  . subst c
    have hb:nt<=a.tmps.size:=I.big
    have:x < a.tmps.size:=Nat.lt_of_lt_of_le hlt hb
    simp only [if_true,Act.put]
    have e1:(a.tmps.setIfInBounds x v').getD x undef=v':=by simp [this]
    rw [e1];exact hv
  . have c':¬ (some x=some t):=by simpa using c
    rw [if_neg c']
    have e1:((a.put (some x) v').tmps).getD t undef=a.tmps.getD t undef:=by simp [Act.put,Array.getElem?_setIfInBounds_ne c]
    rw [e1];exact (I.env t).mono (ANh hle (Nat.le_refl _))
theorem AOP (I:d.Inv w0 ρ0 l T ρ a w) (dst:Option Nat) (v':Value):(a.put dst v').defers= []/\nt<=(a.put dst v').tmps.size:=by
 cases dst with
 |none=> exact ⟨I.dfr,I.big⟩
 |some x=> exact ⟨I.dfr,by simpa [Act.put] using I.big⟩
theorem AQu (I:d.Inv w0 ρ0 l T ρ a w) (hj:ops[j]? =some o) (hpre:∀i,bound bf i j=true->lst l i=true):∀i k,i < k->k < ops.size->lst (l.setIfInBounds j true) k=true->bound bf i k=true->lst (l.setIfInBounds j true) i=true:=by
 have hlt:j < ops.size:=(Array.getElem?_eq_some_iff.1 hj).1
 have hls:=ANt (l:=l) (j:=j) (by rw [I.size];exact hlt)
 intro i k hik hk hs hb
 rw [hls] at hs ⊢
 by_cases c:i=j
 . rw [if_pos c]
 . rw [if_neg c]
   by_cases e:k=j
   . subst e;exact hpre i hb
   . rw [if_neg e] at hs;exact I.low i k hik hk hs hb
theorem ALI (I:d.Inv w0 ρ0 l T ρ a w) (hj:ops[j]? =some o) (b:Nat):d.Vis (lst (l.setIfInBounds j true)) b ↔ d.Vis (lst l) b∨(d.lvl j<=b/\b < d.lvl (j+1)):=by
 have hlt:j < ops.size:=(Array.getElem?_eq_some_iff.1 hj).1
 have hls:=ANt (l:=l) (j:=j) (by rw [I.size];exact hlt)
 unfold Vis
 constructor
 . rintro (h|⟨i,h1,h2,h3⟩)
   . exact .inl (.inl h)
   . rw [hls] at h2
     by_cases c:i=j
     . subst c;exact .inr h3
     . rw [if_neg c] at h2;exact .inl (.inr ⟨i,h1,h2,h3⟩)
 . rintro ((h|⟨i,h1,h2,h3⟩)|h)
   . exact .inl h
   . refine .inr ⟨i,h1, ?_,h3⟩
     rw [hls];split
     . rfl
     . exact h2
   . exact .inr ⟨j,hlt,by rw [hls,if_pos rfl],h⟩
theorem AYo (I:d.Inv w0 ρ0 l T ρ a w) (hj:ops[j]? =some o) (hn:lst l j=false) {b:Nat} (h1:d.lvl j<=b) (h2:b < d.lvl (j+1)):¬ d.Vis (lst l) b:=by
 have hlt:j < ops.size:=(Array.getElem?_eq_some_iff.1 hj).1
 rintro (h|⟨i,k1,k2,k3,k4⟩)
 . have:=d.lvl_mono (Nat.zero_le j) (by omega);omega
 . have hne:i≠j:=λ e=> by rw [e,hn] at k2;cases k2
   rcases Nat.lt_or_gt_of_ne hne with c|c
   . have:=d.lvl_mono (show i+1<=j by omega) (by omega);omega
   . have:=d.lvl_mono (show j+1<=i by omega) (by omega);omega
theorem AQS (I:d.Inv w0 ρ0 l T ρ a w) (hj:ops[j]? =some o) (hio:ios[j]? =some io) (hn:lst l j=false) (hpre:∀i,bound bf i j=true->lst l i=true) (hT:j≠T) (hG:d.lvl (j+1)=d.lvl j) (hm:isMem io.op=true->j < T)
 {w':World} {v':Value} (hsame:∀c,c < w.heap.size->w'.heap[c]? =w.heap[c]?) (hk:w'.os=w.os/\w'.tape=w.tape/\w'.output=w.output/\w.heap.size<=w'.heap.size) (hv:V0 (cut ρ (d.lvl (j+1))) (d.Vf j) v'):
 d.Inv w0 ρ0 (l.setIfInBounds j true) T ρ (a.put o.dst v') w':=by
 have hlt:j < ops.size:=(Array.getElem?_eq_some_iff.1 hj).1
 have hls:=ANt (l:=l) (j:=j) (by rw [I.size];exact hlt)
 have hvis:∀b,d.Vis (lst (l.setIfInBounds j true)) b ↔ d.Vis (lst l) b:=λ b=> by
  rw [ALI I hj]
  exact ⟨λ h=> h.elim id (λ h=> by omega), .inl⟩
 have hhp:d.hpS (lst (l.setIfInBounds j true)) T=d.hpS (lst l) T:=by
  funext b;unfold hpS
  by_cases c:d.Vis (lst l) b
  . rw [if_pos c,if_pos ((hvis b).2 c)]
  . rw [if_neg c,if_neg (λ h=> c ((hvis b).1 h))]
 have hp:=AOP I o.dst v'
 refine ⟨by simp [I.size],AQu I hj hpre,I.tn,λ i h1 h2=> ?_,λ i h1 h2 h3=> ?_,I.t3,λ b hb=> (hvis b).2 (I.dom b hb),I.old,I.dom0,λ i h1 h2=> ?_, ?_,AQy I hj hio hn (Le.refl _) hv,hp.1,hp.2⟩
 . rw [hls];split
   . rfl
   . exact I.t1 i h1 h2
 . rw [hls];split
   . rename_i c;subst c
     obtain ⟨io2,k1,k2⟩:=h3
     rw [hio] at k1;cases k1
     have:=hm k2;omega
   . exact I.t2 i h1 h2 h3
 . rw [hhp];exact (I.lev i h1 h2).same hsame
 . rw [hhp]
   refine I.goes.trans ⟨Le.refl _,I.goes.rel.same hsame,⟨hk.1,hk.2.1,hk.2.2.1,hk.2.2.2,λ c hc _=> hsame c hc⟩,λ b B x dd hb hx=> .inr (.inl ⟨B,hb,hx,id⟩)⟩
end step
theorem ASa (made:List (Nat×Nat×Nat)) {i lo hi b:Nat} (hm:(i,lo,hi)∈made) (h1:lo<=b) (h2:b < hi):∀(hs:List Nat) (H:Heap),i∈hs->hblk (hideH H made hs) b=none:=by
 have fold:∀(made:List (Nat×Nat×Nat)) (H:Heap),(i,lo,hi)∈made->hblk (hideH H made [i]) b=none:=by
  intro made
  induction made with
  |nil=> intro H h;cases h
  |cons m made ih=>
   intro H h
   show hblk (hideH _ made [i]) b=none
   rcases List.mem_cons.1 h with rfl|h
   . cases hq:hblk (hideH (bif Nat.beq i i then H.mapIdx (λ j x=> bif Nat.ble lo j && Nat.blt j hi then none else x) else H) made [i]) b with
     |none=> rfl
     |some B=>
      have:=ANg made [i] _ b B hq
      rw [Nat.beq_refl,cond_true,AIH,List.getElem?_mapIdx] at this
      have hp:(Nat.ble lo b && Nat.blt b hi)=true:=by
       rw [Bool.and_eq_true];exact ⟨by rw [Nat.ble_eq];exact h1,by rw [Nat.blt_eq];exact h2⟩
      rw [hp] at this
      cases hx:H[b]? with
      |none=> rw [hx] at this;simp at this
      |some y=> rw [hx] at this;simp at this
   . exact ih _ h
 intro hs
 induction hs with
 |nil=> intro H h;cases h
 |cons x hs ih=>
  intro H h
  rcases List.mem_cons.1 h with rfl|h
  . cases hq:hblk (hideH H made (i::hs)) b with
    |none=> rfl
    |some B=>
     have:hblk (hideH (hideH H made [i]) made hs) b=some B:=hq
     have:=ANg made hs _ b B this
     rw [fold made H hm] at this;cases this
  . exact ih _ h
section more
variable {d:DR P nt ops ios bf}
theorem made_mem (d:DR P nt ops ios bf):∀ {j:Nat},j<=ops.size->∀(i:Nat) (o:Oper) (io:IOper),i < j->ops[i]? =some o->ios[i]? =some io->gex io (d.Lf i)=some true->isCreator io.op=true->(i,d.lvl i,d.lvl (i+1))∈d.Mf j:=by
 intro j
 induction j with
 |zero=> intro _ i _ _ h;omega
 |succ j ih=>
  intro hj i o io hi h1 h2 hg hc
  obtain ⟨o',io',k1,k2⟩:=d.both (show j < ops.size by omega)
  have hs:=(d.step j o' io' k1 k2).2
  by_cases c:i=j
  . subst c
    rw [h1] at k1;cases k1
    rw [h2] at k2;cases k2
    rcases hs with ⟨_,_,e,_⟩|⟨e,_⟩
    . rw [e,hc,cond_true];exact List.mem_cons_self
    . rw [hg] at e;cases e
  . have hold:=ih (by omega) i o io (by omega) h1 h2 hg hc
    rcases hs with ⟨_,_,e,_⟩|⟨_,_,_,e⟩
    . rw [e]
      cases isCreator io'.op with
      |true=> exact List.mem_cons_of_mem _ hold
      |false=> exact hold
    . rw [e];exact hold
theorem find_lvl (d:DR P nt ops ios bf) {b:Nat}:∀ {q:Nat},q<=ops.size->b < d.lvl q->b < d.lvl 0∨∃i,i < q/\d.lvl i<=b/\b < d.lvl (i+1):=by
 intro q
 induction q with
 |zero=> intro _ h;exact .inl h
 |succ q ih=>
  intro hq h
  by_cases c:b < d.lvl q
  . rcases ih (by omega) c with h|⟨i,h1,h2⟩
    . exact .inl h
    . exact .inr ⟨i,by omega,h2⟩
  . exact .inr ⟨q,by omega,by omega,h⟩
theorem hblk_ge {H:Heap} {b:Nat} (h:H.length<=b):hblk H b=none:=by
 rw [AIH,List.getElem?_eq_none h];rfl
end more
section step
variable {d:DR P nt ops ios bf} {w0 w:World} {ρ0 ρ:Ren} {l:Array Bool} {T:Nat} {a:Act} {j:Nat} {o:Oper} {io:IOper}
theorem AQr (I:d.Inv w0 ρ0 l T ρ a w) (hj:ops[j]? =some o) (hio:ios[j]? =some io) (hn:lst l j=false) (hpre:∀i,bound bf i j=true->lst l i=true) {e:Env} (he:∀t,eget e t=d.Lf j t):Reads (cut ρ (d.lvl j)) e a o:=by
 have hlt:j < ops.size:=(Array.getElem?_eq_some_iff.1 hj).1
 intro x hx t ht
 have hmem:t∈namesOf o io:=by
  unfold namesOf
  refine List.mem_append_left _ (List.mem_filterMap.2 ⟨x,by simpa using hx, ?_⟩)
  rw [ht]
 obtain ⟨h1,h2⟩:=ASD I hj hio hn hpre (.inl hmem) (λ _=> hn)
 have:=I.env t
 rw [h1] at this
 rw [he]
 exact this.mono (ANh (Le.refl _) (d.lvl_mono h2 (by omega)))
theorem Aa0 (I:d.Inv w0 ρ0 l T ρ a w) {i:Nat} (hi:i<=ops.size) (hR:Rel ρ0 (hblk (d.Gf 0)) w0):Rel (cut ρ (d.lvl i)) (hblk (roOnly (d.Gf 0))) w:=by
 refine ⟨λ b B hb=> ?_,λ b1 B1 b2 B2 x1 d1 x2 d2 k1 _ _ hro=> ?_⟩
 . obtain ⟨hb0,hro⟩:=ANX hb
   obtain ⟨b',dd,m,arr,el,fr,e1,e2,e3,e4,e5⟩:=hR.blk b B hb0
   have hbl:b < d.lvl 0:=by
    rcases Nat.lt_or_ge b (d.lvl 0) with h|h
    . exact h
    . rw [hblk_ge h] at hb0;cases hb0
   have hcut:Le ρ0 (cut ρ (d.lvl i)):=by
    intro c x hc
    have hcl:c < d.lvl 0:=by
     rcases Nat.lt_or_ge c (d.lvl 0) with h|h
     . exact h
     . rw [I.dom0 c h] at hc;cases hc
    unfold cut
    rw [if_pos (Nat.lt_of_lt_of_le hcl (d.lvl_mono (Nat.zero_le i) hi))]
    exact I.goes.le c x hc
   have hb'lt:b' < w0.heap.size:=(Array.getElem?_eq_some_iff.1 e2).1
   have hsame:w.heap[b']? =w0.heap[b']? :=I.goes.kept.block b' hb'lt λ b2 B2 d2 hb2 hro2 hx2=> by
    by_cases c:b2=b
    . subst c;rw [hb0] at hb2;cases hb2;rw [hro] at hro2;cases hro2
    . exact hR.inj b2 B2 b B b' d2 b' dd hb2 hb0 c hro2 hx2 ⟨m,e1⟩ rfl
   exact ⟨b',dd,m,arr,el,fr,hcut _ _ e1,by rw [hsame];exact e2,λ q v hv=> (by obtain ⟨y,g1,g2⟩:=e3 q v hv;exact ⟨y,g1,g2.mono hcut⟩),e4,e5⟩
 . rw [(ANX k1).2] at hro;cases hro
theorem AS9 (hR0:Rel ρ0 (hblk (d.Gf 0)) w0) (I:d.Inv w0 ρ0 l T ρ a w) (hj:ops[j]? =some o) (hio:ios[j]? =some io) (hn:lst l j=false) (hpre:∀i,bound bf i j=true->lst l i=true) (hm:isMem io.op=false)
 (hE:Eff P o io.op (d.Lf j) (d.Gf 0) (d.Gf j) (d.Mf j) (d.Vf j) (d.Gf (j+1))) {e:Env} (he:∀t,eget e t=d.Lf j t) (Q:Exit->Act->World->Prop):
 o.wp P a w (λ a' w'=>∃T' ρ',d.Inv w0 ρ0 (l.setIfInBounds j true) T' ρ' a' w') Q:=by
 have hlt:j < ops.size:=(Array.getElem?_eq_some_iff.1 hj).1
 obtain ⟨hG,hst⟩:=hE.2.2.2 hm
 have hlv:d.lvl (j+1)=d.lvl j:=by unfold lvl;rw [hG]
 have hT:j≠T:=by
  rintro rfl
  rcases I.t3 with h|⟨ioT,h1,h2⟩
  . omega
  . rw [hio] at h1;cases h1
    rw [bm h2] at hm;cases hm
 refine Oper.wp_mono ?_ (hst e (cut ρ (d.lvl j)) w a Q he (AQr I hj hio hn hpre he) (Aa0 I (by omega) hR0))
 rintro a' w' ⟨ρ',v',rfl,h2,h3,h4⟩
 have hle:Le ρ' (cut ρ (d.lvl (j+1))):=by
  intro b x hb
  rcases h4 b (by rw [hb];simp) with h|h
  . cases hq:cut ρ (d.lvl j) b with
    |none=> exact (h hq).elim
    |some y=> have:=h3.le b y hq;rw [hb] at this;cases this;rw [hlv];exact hq
  . simp at h;omega
 exact ⟨T,ρ,AQS I hj hio hn hpre hT hlv (λ h=> by rw [hm] at h;cases h) (λ c hc=> h3.kept.block c hc (λ b B d hb hro=> by rw [(ANX hb).2] at hro;cases hro)) ⟨h3.kept.os,h3.kept.tape,h3.kept.output,h3.kept.size⟩ (h2.mono hle)⟩
theorem Ab0 {ρ':Ren} {n m k:Nat} (hk:m<=k∨k<=n) (b:Nat):cut (λ b=> if n<=b/\b < m then ρ' b else ρ b) k b=if m<=k/\n<=b/\b < m then ρ' b else cut ρ k b:=by
 unfold cut
 show (if b < k then (if n<=b/\b < m then ρ' b else ρ b) else none)=_
 by_cases h:b < k
 . rw [if_pos h,if_pos h]
   by_cases c:n<=b/\b < m
   . rw [if_pos c]
     rcases hk with hk|hk
     . rw [if_pos ⟨hk,c⟩]
     . omega
   . rw [if_neg c,if_neg (λ x=> c x.2)]
 . rw [if_neg h,if_neg h]
   split
   . omega
   . rfl
theorem AU2 (I:d.Inv w0 ρ0 l T ρ a w) (hj:ops[j]? =some o) (hio:ios[j]? =some io) (hn:lst l j=false) (hpre:∀i,bound bf i j=true->lst l i=true) (hm:isMem io.op=true) (hb:isBar io.op=false)
 (hE:Eff P o io.op (d.Lf j) (d.Gf 0) (d.Gf j) (d.Mf j) (d.Vf j) (d.Gf (j+1))) {e:Env} (he:∀t,eget e t=d.Lf j t) (Q:Exit->Act->World->Prop):
 o.wp P a w (λ a' w'=>∃T' ρ',d.Inv w0 ρ0 (l.setIfInBounds j true) T' ρ' a' w') Q:=by
 have hlt:j < ops.size:=(Array.getElem?_eq_some_iff.1 hj).1
 have hls:=ANt (l:=l) (j:=j) (by rw [I.size];exact hlt)
 have hTn:=I.tn
 obtain ⟨nb,hG,hnb,hst⟩:=hE.2.2.1 hb hm
 have hlv:d.lvl (j+1)=d.lvl j+nb.length:=by unfold lvl;rw [hG];simp
 have hjT:j < T:=by
  have:=ATU I hj hio hm hpre
  rcases Nat.lt_or_eq_of_le this with h|h
  . exact h
  . subst h
    rcases I.t3 with h|⟨ioT,h1,h2⟩
    . omega
    . rw [hio] at h1;cases h1
      rw [h2] at hb;cases hb
 have hnobar:∀i,j<=i->i < T->d.Ext i:=λ i h1 h2=> d.ext_of (by omega) (.inl (AVv I hj hio hn hm h1 h2))
 have hR:=I.lev j (by omega) (λ q hq hqT=> by
  rcases Nat.lt_or_ge q j with h|h
  . exact h
  . exact (AVv I hj hio hn hm h hqT hq).elim)
 have hseg:∀b,b < d.lvl j->hblk (d.Gf T) b=hblk (d.Gf j) b:=d.seg (by omega) hTn (λ i h1 h2=> hnobar i h1 h2)
 have hcond:if isCal io.op then (∀b B,hblk (hideH (d.Gf j) (d.Mf j) (hidOf io.op)) b=some B->cutH (d.hpS (lst l) T) (d.lvl j) b=some B) else Agree (cut ρ (d.lvl j)) (cutH (d.hpS (lst l) T) (d.lvl j)) (d.Gf j):=by
  cases hcal:isCal io.op with
  |true=>
   rw [if_pos rfl]
   intro b B hB
   have hB0:=ANg _ _ _ b B hB
   have hbl:b < d.lvl j:=by
    rcases Nat.lt_or_ge b (d.lvl j) with h|h
    . exact h
    . rw [hblk_ge h] at hB0;cases hB0
   have hv:d.Vis (lst l) b:=by
    rcases d.find_lvl (show j<=ops.size by omega) hbl with h|⟨i,k1,k2,k3⟩
    . exact .inl h
    . refine .inr ⟨i,by omega, ?_,k2,k3⟩
      obtain ⟨_,o',io',g1,g2,g3,g4,g5,g6⟩:=d.grow_mem (show i < ops.size by omega) (by omega)
      rcases g5 with g5|g5
      . exact I.t1 i (by omega) ⟨io',g2,g5⟩
      . rcases d.cfl i j o' io' o io k1 g1 g2 hj hio with h|⟨_,_,_,h⟩
        . exact hpre i h
        . have hel:=h g5 hcal
          have:=ASa (d.Mf j) (d.made_mem (by omega) i o' io' k1 g1 g2 g3 g5) k2 k3 (hidOf io.op) (d.Gf j) (by simpa using hel)
          rw [this] at hB;cases hB
   unfold cutH hpS
   rw [if_pos hbl,if_pos hv,hseg b hbl];exact hB0
  |false=>
   rw [if_neg (by simp)]
   intro b hbl hne
   have hbl:b < d.lvl j:=hbl
   have hv:d.Vis (lst l) b:=I.dom b (by unfold cut at hne;rwa [if_pos hbl] at hne)
   unfold cutH hpS
   rw [if_pos hbl,if_pos hv,hseg b hbl]
 refine Oper.wp_mono ?_ (hst e (cut ρ (d.lvl j)) (cutH (d.hpS (lst l) T) (d.lvl j)) w a Q he hR hcond (AZC _ _) (AQr I hj hio hn hpre he))
 rintro a' w' ⟨ρ',v',rfl,h2,h3,h4⟩
 change Goes _ _ _ _ (hpu _ (d.lvl j) nb) _ at h3
 change∀b,ρ' b≠none->cut ρ (d.lvl j) b≠none∨(d.lvl j<=b/\b < d.lvl j+nb.length) at h4
 have hfree:∀b,d.lvl j<=b->b < d.lvl j+nb.length->ρ b=none:=by
  intro b k1 k2
  cases hq:ρ b with
  |none=> rfl
  |some x=> exact (AYo I hj hn k1 (by omega) (I.dom b (by rw [hq];simp))).elim
 have hrr:∀b B,cutH (d.hpS (lst l) T) (d.lvl j) b=some B->cut ρ (d.lvl j) b≠none:=by
  intro b B hB
  obtain ⟨_,_,_,_,_,_,e1,_⟩:=hR.blk b B hB
  rw [e1];simp
 have hrn:∀b,d.lvl j<=b->cutH (d.hpS (lst l) T) (d.lvl j) b=none:=λ b hb=> by unfold cutH;rw [if_neg (by omega)]
 have hsub:∀b B,cutH (d.hpS (lst l) T) (d.lvl j) b=some B->d.hpS (lst l) T b=some B:=λ b B hB=> by
  unfold cutH at hB;split at hB
  . exact hB
  . cases hB
 have gw:=Goes.merge I.goes.rel (ASE ρ (d.lvl j)) hsub hrn h3 h4 hfree hrr
 have hhp:d.hpS (lst (l.setIfInBounds j true)) T=hpu (d.hpS (lst l) T) (d.lvl j) nb:=by
  funext b
  unfold hpu
  by_cases c:d.lvl j<=b/\b < d.lvl j+nb.length
  . rw [if_pos c]
    have hv:d.Vis (lst (l.setIfInBounds j true)) b:=(ALI I hj b).2 (.inr ⟨c.1,by omega⟩)
    unfold hpS
    rw [if_pos hv,d.seg (show j+1<=T by omega) hTn (λ i h1 h2=> hnobar i (by omega) h2) b (by omega),hG,AGD]
    unfold hpu
    have hc:(d.Gf j).length<=b/\b < (d.Gf j).length+nb.length:=c
    rw [if_pos hc];rfl
  . rw [if_neg c]
    unfold hpS
    by_cases hv:d.Vis (lst l) b
    . rw [if_pos hv,if_pos ((ALI I hj b).2 (.inl hv))]
    . rw [if_neg hv,if_neg]
      intro hv'
      rcases (ALI I hj b).1 hv' with h|h
      . exact hv h
      . omega
 have hp:=AOP I o.dst v'
 refine ⟨T,λ b=> if d.lvl j<=b/\b < d.lvl j+nb.length then ρ' b else ρ b,by simp [I.size],AQu I hj hpre,I.tn,λ i k1 k2=> ?_,λ i k1 k2 k3=> ?_,I.t3,λ b hb=> ?_,λ b hb0 hb=> ?_,I.dom0,λ i k1 k2=> ?_, ?_, ?_,hp.1,hp.2⟩
 . rw [hls];split
   . rfl
   . exact I.t1 i k1 k2
 . rw [hls,if_neg (by omega)];exact I.t2 i k1 k2 k3
 . rw [ALI I hj]
   by_cases c:d.lvl j<=b/\b < d.lvl j+nb.length
   . exact .inr ⟨c.1,by omega⟩
   . simp only [if_neg c] at hb
     exact .inl (I.dom b hb)
 . have hz:=d.lvl_mono (Nat.zero_le j) (by omega)
   have c:¬ (d.lvl j<=b/\b < d.lvl j+nb.length):=by omega
   simp only [if_neg c] at hb
   exact I.old b hb0 hb
 . rw [hhp]
   have hin:i<=ops.size:=by omega
   rcases Nat.lt_or_ge j i with hji|hji
   . have hlm:=d.lvl_mono (show j+1<=i by omega) hin
     have hlm0:=d.lvl_mono (show j<=i by omega) hin
     have g:=Goes.merge (I.lev i k1 k2) (ANh (Le.refl ρ) hlm0) (λ b B hB=> by
      unfold cutH at hB ⊢;split at hB
      . rw [if_pos (by omega)];exact hB
      . cases hB) hrn h3 h4 (λ b q1 q2=> by unfold cut;rw [hfree b q1 q2];split <;> rfl) hrr
     have e1:cut (λ b=> if d.lvl j<=b/\b < d.lvl j+nb.length then ρ' b else ρ b) (d.lvl i)=λ b=> if d.lvl j<=b/\b < d.lvl j+nb.length then ρ' b else cut ρ (d.lvl i) b:=by
      funext b
      rw [Ab0 (.inl (by omega))]
      by_cases c:d.lvl j<=b/\b < d.lvl j+nb.length
      . rw [if_pos c,if_pos ⟨by omega,c⟩]
      . rw [if_neg c,if_neg (λ x=> c x.2)]
     have e2:cutH (hpu (d.hpS (lst l) T) (d.lvl j) nb) (d.lvl i)=hpu (cutH (d.hpS (lst l) T) (d.lvl i)) (d.lvl j) nb:=by
      funext b
      unfold cutH hpu
      by_cases c:d.lvl j<=b/\b < d.lvl j+nb.length
      . rw [if_pos c,if_pos c,if_pos (by omega)]
      . rw [if_neg c,if_neg c]
     rw [e1,e2];exact g.rel
   . have hlm:=d.lvl_mono hji (by omega)
     have e1:cut (λ b=> if d.lvl j<=b/\b < d.lvl j+nb.length then ρ' b else ρ b) (d.lvl i)=cut ρ (d.lvl i):=by
      funext b
      show (if b < d.lvl i then (if d.lvl j<=b/\b < d.lvl j+nb.length then ρ' b else ρ b) else none)=if b < d.lvl i then ρ b else none
      by_cases c:b < d.lvl i
      . have:¬ (d.lvl j<=b/\b < d.lvl j+nb.length):=by omega
        rw [if_pos c,if_pos c,if_neg this]
      . rw [if_neg c,if_neg c]
     have e2:cutH (hpu (d.hpS (lst l) T) (d.lvl j) nb) (d.lvl i)=cutH (d.hpS (lst l) T) (d.lvl i):=by
      funext b
      unfold cutH hpu
      split
      . rw [if_neg (by omega)]
      . rfl
     rw [e1,e2]
     refine Rel.behind (I.lev i k1 k2) (ANh (Le.refl ρ) hlm) h3 λ b B hB=> ?_
     unfold cutH at hB
     split at hB
     . rename_i hbi
       have c1:¬ (d.lvl j<=b/\b < d.lvl j+nb.length):=by omega
       have c2:b < d.lvl j:=by omega
       unfold hpu cutH
       rw [if_neg c1,if_pos c2];exact hB
     . cases hB
 . rw [hhp];exact I.goes.trans gw
 . refine AQy I hj hio hn gw.le (h2.mono λ b x hb=> ?_)
   rcases h4 b (by rw [hb];simp) with h|h
   . cases hq:cut ρ (d.lvl j) b with
     |none=> exact (h hq).elim
     |some y=>
      have:=h3.le b y hq
      rw [hb] at this;cases this
      unfold cut at hq
      split at hq
      . rename_i c
        have c1:¬ (d.lvl j<=b/\b < d.lvl j+nb.length):=by omega
        have c2:b < d.lvl (j+1):=by omega
        show (if b < d.lvl (j+1) then (if d.lvl j<=b/\b < d.lvl j+nb.length then ρ' b else ρ b) else none)=_
        rw [if_pos c2,if_neg c1];exact hq
      . cases hq
   . have c2:b < d.lvl (j+1):=by omega
     show (if b < d.lvl (j+1) then (if d.lvl j<=b/\b < d.lvl j+nb.length then ρ' b else ρ b) else none)=_
     rw [if_pos c2,if_pos h];exact hb
theorem AT1 (I:d.Inv w0 ρ0 l T ρ a w) (hj:ops[T]? =some o) (hio:ios[T]? =some io) (hb:isBar io.op=true) (hn:lst l T=false) (hpre:∀i,bound bf i T=true->lst l i=true):
 (∀b,b < d.lvl T->d.Vis (lst l) b)/\d.hpS (lst l) T=hblk (d.Gf T)/\Dom ρ (d.lvl T):=by
 have hlt:T < ops.size:=(Array.getElem?_eq_some_iff.1 hj).1
 have hall:∀b,b < d.lvl T->d.Vis (lst l) b:=by
  intro b hbl
  rcases d.find_lvl (Nat.le_of_lt hlt) hbl with h|⟨i,k1,k2,k3⟩
  . exact .inl h
  . refine .inr ⟨i,by omega, ?_,k2,k3⟩
    obtain ⟨⟨io1,q1,q2⟩,o',io',g1,g2,_⟩:=d.grow_mem (show i < ops.size by omega) (by omega)
    rw [g2] at q1;cases q1
    rcases d.cfl i T o' _ o io k1 g1 g2 hj hio with h|⟨_,_,h,_⟩
    . exact hpre i h
    . rw [q2,hb] at h;cases h
 refine ⟨hall, ?_,λ b hbl=> ?_⟩
 . funext b
   unfold hpS
   split
   . rfl
   . rename_i hv
     rcases Nat.lt_or_ge b (d.lvl T) with h|h
     . exact (hv (hall b h)).elim
     . exact (hblk_ge h).symm
 . cases hq:ρ b with
   |none=> rfl
   |some x=>
    rcases I.dom b (by rw [hq];simp) with h|⟨i,h1,h2,h3,h4⟩
    . have:=d.lvl_mono (Nat.zero_le T) (by omega);omega
    . rcases Nat.lt_or_ge i T with h|h
      . have:=d.lvl_mono (show i+1<=T by omega) (by omega);omega
      . have:=I.t2 i h h1 (d.grow_mem h1 (by omega)).1
        rw [h2] at this;cases this
theorem ARu (I:d.Inv w0 ρ0 l T ρ a w) (hj:ops[T]? =some o) (hio:ios[T]? =some io) (hb:isBar io.op=true) (hn:lst l T=false) (hpre:∀i,bound bf i T=true->lst l i=true) {ρ':Ren} {w':World} {v':Value}
 (g:Goes ρ (hblk (d.Gf T)) w ρ' (hblk (d.Gf (T+1))) w') (gr:Grow ρ ρ' (d.lvl T) (d.lvl (T+1))) (hv:V0 ρ' (d.Vf T) v'):
 ∃T' ρ',d.Inv w0 ρ0 (l.setIfInBounds T true) T' ρ' (a.put o.dst v') w':=by
 have hlt:T < ops.size:=(Array.getElem?_eq_some_iff.1 hj).1
 have hls:=ANt (l:=l) (j:=T) (by rw [I.size];exact hlt)
 obtain ⟨hall,hhp,hdom⟩:=AT1 I hj hio hb hn hpre
 obtain ⟨T',t1,t2,t3,t4⟩:=AVG (ios:=ios) (n:=ops.size) _ T hlt rfl
 have hlm:=d.lvl_succ hlt
 have hdom':Dom ρ' (d.lvl (T+1)):=gr.dom hlm hdom
 have hhp':d.hpS (lst (l.setIfInBounds T true)) T'=hblk (d.Gf (T+1)):=by
  funext b
  unfold hpS
  rcases Nat.lt_or_ge b (d.lvl (T+1)) with h|h
  . have hv:d.Vis (lst (l.setIfInBounds T true)) b:=by
     rw [ALI I hj]
     rcases Nat.lt_or_ge b (d.lvl T) with h1|h1
     . exact .inl (hall b h1)
     . exact .inr ⟨h1,h⟩
    rw [if_pos hv]
    exact d.seg (show T+1<=T' by omega) t2 (λ i h1 h2=> d.ext_of (by omega) (.inl (t4 i (by omega) h2))) b h
  . rw [hblk_ge h,if_neg]
    intro hv
    rcases (ALI I hj b).1 hv with (h1|⟨i,h1,h2,h3,h4⟩)|h1
    . have:=d.lvl_mono (Nat.zero_le (T+1)) (by omega);omega
    . rcases Nat.lt_or_ge i T with c|c
      . have:=d.lvl_mono (show i+1<=T+1 by omega) (by omega);omega
      . have:=I.t2 i c h1 (d.grow_mem h1 (by omega)).1
        rw [h2] at this;cases this
    . omega
 have hp:=AOP I o.dst v'
 refine ⟨T',ρ',by simp [I.size],AQu I hj hpre,t2,λ i k1 k2=> ?_,λ i k1 k2 k3=> ?_,t3,λ b hb'=> ?_,λ b hb0 hb'=> ?_,I.dom0,λ i k1 k2=> ?_, ?_, ?_,hp.1,hp.2⟩
 . rw [hls];split
   . rfl
   . rename_i c
     rcases Nat.lt_or_ge T i with h|h
     . exact (t4 i h k1 k2).elim
     . exact I.t1 i (by omega) k2
 . rw [hls,if_neg (by omega)];exact I.t2 i (by omega) k2 k3
 . rw [ALI I hj]
   rcases gr b hb' with h|h
   . exact .inl (I.dom b h)
   . exact .inr h
 . rcases gr b hb' with h|h
   . exact I.old b hb0 h
   . have hz:=d.lvl_mono (Nat.zero_le T) (by omega)
     omega
 . have hTi:T < i:=k2 T ⟨io,hio,hb⟩ t1
   have hlm2:=d.lvl_mono (show T+1<=i by omega) (by omega)
   have e1:cut ρ' (d.lvl i)=ρ':=ARg λ b hb=> hdom' b (by omega)
   have e2:cutH (d.hpS (lst (l.setIfInBounds T true)) T') (d.lvl i)=hblk (d.Gf (T+1)):=by
    rw [hhp'];funext b;unfold cutH
    split
    . rfl
    . exact (hblk_ge (show (d.Gf (T+1)).length<=b by have:d.lvl (T+1)=(d.Gf (T+1)).length:=rfl;omega)).symm
   rw [e1,e2];exact g.rel
 . rw [hhp']
   have:=I.goes
   rw [hhp] at this
   exact this.trans g
 . exact AQy I hj hio hn g.le (by rw [ARg hdom'];exact hv)
theorem AQ8 (I:d.Inv w0 ρ0 l T ρ a w) (hj:ops[j]? =some o) (hio:ios[j]? =some io) (hn:lst l j=false) (hpre:∀i,bound bf i j=true->lst l i=true) {t:Bool} (h:gex io (d.Lf j)=some t):Region.wanted o (yielded ops a.tmps)=t:=by
 rcases d.grd j o io hj hio with ⟨h1,h2⟩|⟨k,g,want,h1,h2,h3⟩
 . simp [gex,h2] at h
   subst h
   simp [Region.wanted,h1]
 . have hmem:g∈namesOf o io:=by
    unfold namesOf
    refine List.mem_append_right _ ?_
    rw [h2];simp
   obtain ⟨e1,_⟩:=ASD I hj hio hn hpre (.inl hmem) (λ _=> hn)
   have hv:=(I.env g).mono (ASE _ _)
   rw [e1] at hv
   have hER:EnvRel ρ [(g,d.Lf j g)] a 0:=by
    refine ⟨I.dfr,Nat.zero_le _,λ t=> ?_⟩
    simp only [eget]
    by_cases c:g=t
    . subst c
      rw [Nat.beq_refl,cond_true];exact hv
    . rw [beqF c,cond_false];exact .inl rfl
   have heg:eget [(g,d.Lf j g)] g=d.Lf j g:=by simp only [eget];rw [Nat.beq_refl,cond_true]
   unfold gex at h
   rw [h2] at h
   simp only at h
   split at h
   . rename_i b hb
     have:=AQc hER h3 (heg.trans hb)
     simp only [Region.wanted,h1,this]
     cases h
     cases b <;> cases want <;> rfl
   . rename_i cs hb
     cases hc:Nat.beq cs.toList.length 1 with
     |false=> rw [hc] at h;cases h
     |true=>
      rw [hc,cond_true] at h
      cases h
      have:=AQb hER h3 (heg.trans hb) hc
      simp [Region.wanted,h1,this]
   . cases h
theorem step_any (hR0:Rel ρ0 (hblk (d.Gf 0)) w0) (I:d.Inv w0 ρ0 l T ρ a w) (hj:ops[j]? =some o) (hio:ios[j]? =some io) (hn:lst l j=false) (hpre:∀i,bound bf i j=true->lst l i=true) (Q:Exit->Act->World->Prop):
 wpOp P ops Q j (λ a' w'=>∃T' ρ',d.Inv w0 ρ0 (l.setIfInBounds j true) T' ρ' a' w') a w:=by
 have hlt:j < ops.size:=(Array.getElem?_eq_some_iff.1 hj).1
 unfold wpOp
 rw [hj]
 simp only
 rcases (d.step j o io hj hio).2 with ⟨e0,hE,_,e,he⟩|⟨e0,e1,e2,e3⟩
 . rw [if_pos (AQ8 I hj hio hn hpre e0)]
   left
   cases hm:isMem io.op with
   |false=> exact AS9 hR0 I hj hio hn hpre hm hE he Q
   |true=>
    cases hb:isBar io.op with
    |false=> exact AU2 I hj hio hn hpre hm hb hE he Q
    |true=>
     have hT:j=T:=by
      by_cases c:j=T
      . exact c
      . have:=AYp I hj hio hn hpre c
        rw [hb] at this;cases this
     subst hT
     obtain ⟨_,hhp,hdom⟩:=AT1 I hj hio hb hn hpre
     have hR:=I.goes.rel
     rw [hhp] at hR
     refine Oper.wp_mono ?_ (hE.2.1 hb e ρ w a Q he hR hdom (λ x hx t ht=> (AQr I hj hio hn hpre he x hx t ht).mono (ASE _ _)))
     rintro a' w' ⟨ρ',v',rfl,h2,h3,h4⟩
     exact ARu I hj hio hb hn hpre h3 h4 h2
 . rw [if_neg (by rw [AQ8 I hj hio hn hpre e0];simp)]
   have hlv:d.lvl (j+1)=d.lvl j:=by unfold lvl;rw [e2]
   by_cases c:j=T
   . subst c
     rcases I.t3 with h|⟨ioT,h1,h2⟩
     . omega
     . rw [hio] at h1;cases h1
       obtain ⟨_,hhp,hdom⟩:=AT1 I hj hio h2 hn hpre
       have hR:=I.goes.rel
       rw [hhp] at hR
       exact ARu I hj hio h2 hn hpre (ρ':=ρ) (w':=w) (v':=undef) (by rw [e2];exact .refl hR) (.refl _ _ _) (by rw [e1];exact .inr (.inl ⟨rfl,rfl⟩))
   . refine ⟨T,ρ,AQS I hj hio hn hpre c hlv (λ hm=> ?_) (λ _ _=> rfl) ⟨rfl,rfl,rfl,Nat.le_refl _⟩ (by rw [e1];exact .inr (.inl ⟨rfl,rfl⟩))⟩
     have:=ATU I hj hio hm hpre
     omega
end step
end DR
theorem DR.ready_nil {ops:Array Oper} {ios:List IOper} {bf:List (List Nat)} (d:DR P nt ops ios bf) {l:Array Bool} (hs:l.size=ops.size):Region.ready .any ops l= [] ↔∀i,i < ops.size->DR.lst l i=true:=by
 constructor
 . intro h i
   induction i using Nat.strongRecOn with
   |_ i ih=>
    intro hi
    cases hl:DR.lst l i with
    |true=> rfl
    |false=>
     obtain ⟨o,io,h1,h2⟩:=d.both hi
     have:i∈Region.ready .any ops l:=by
      refine mem_ready.2 ⟨?_,o,h1,λ e he hb=> ?_⟩
      . unfold DR.lst at hl
        simp [hs,hi] at hl ⊢
        exact hl
      . have:=d.bef i o h1 e (by simpa using he) hb
        exact ih e.on this (by omega)
     rw [h] at this;cases this
 . intro h
   cases hr:Region.ready .any ops l with
   |nil=> rfl
   |cons i rs=>
    exfalso
    have hi:i∈Region.ready .any ops l:=by rw [hr];exact List.mem_cons_self
    obtain ⟨h0,o,h1,_⟩:=mem_ready.1 hi
    have hlt:i < ops.size:=(Array.getElem?_eq_some_iff.1 h1).1
    have:=h i hlt
    unfold DR.lst at this
    simp [hs,hlt] at this h0
    rw [h0] at this;cases this
theorem ATw:∀(l:List Bool) (j:Nat),l[j]? =some false->(l.set j true).count false+1=l.count false:=by
 intro l
 induction l with
 |nil=> intro j h;simp at h
 |cons x l ih=>
  intro j h
  cases j with
  |zero=> simp at h;subst h;simp
  |succ j=>
   simp at h
   have:=ih j h
   cases x <;> simp <;> omega
theorem DR.any_ok {ops:Array Oper} {ios:List IOper} {bf:List (List Nat)} {d:DR P nt ops ios bf} {w0:World} {ρ0:Ren} (hR0:Rel ρ0 (hblk (d.Gf 0)) w0) (Q:Exit->Act->World->Prop)
 (hQ:∀l T ρ a w,d.Inv w0 ρ0 l T ρ a w->(∀i,i < ops.size->DR.lst l i=true)->Q .normal a w):
 ∀(fuel:Nat) (l:Array Bool) (T:Nat) (ρ:Ren) (a:Act) (w:World),d.Inv w0 ρ0 l T ρ a w->l.toList.count false<=fuel->wpAny P .any ops Q fuel l a w:=by
 intro fuel
 induction fuel with
 |zero=>
  intro l T ρ a w I hc
  have hall:∀i,i < ops.size->DR.lst l i=true:=by
   intro i hi
   have hi':i < l.toList.length:=by simpa [I.size] using hi
   cases hl:l.toList[i] with
   |true=> simpa [DR.lst,I.size,hi] using hl
   |false=>
    have hmem:false∈l.toList:=by rw [←hl];exact List.getElem_mem hi'
    have:=List.count_pos_iff.2 hmem
    omega
  exact ⟨(d.ready_nil I.size).2 hall,hQ l T ρ a w I hall⟩
 |succ fuel ih=>
  intro l T ρ a w I hc
  refine ⟨λ h=> hQ l T ρ a w I ((d.ready_nil I.size).1 h),λ j hj=> ?_⟩
  obtain ⟨h0,o,h1,h2⟩:=mem_ready.1 hj
  have hlt:j < ops.size:=(Array.getElem?_eq_some_iff.1 h1).1
  obtain ⟨io,hio⟩:=d.io_of h1
  have hlt':j < l.size:=by rw [I.size];exact hlt
  have hfalse:l[j]=false:=by simpa [hlt'] using h0
  have hn:DR.lst l j=false:=by simp [DR.lst,hlt',hfalse]
  have hpre:∀i,bound bf i j=true->DR.lst l i=true:=λ i hb=> DR.pre_of (d:=d) I.low h1 (λ e he hb=> h2 e (by simpa using he) hb) hb
  refine wpOp_mono ?_ (DR.step_any hR0 I h1 hio hn hpre Q)
  rintro a' w' ⟨T',ρ',I'⟩
  refine ih _ T' ρ' a' w' I' ?_
  have:=ATw l.toList j (by simp [hlt',hfalse])
  simp only [Array.toList_setIfInBounds]
  omega
theorem ATm {ios:List IOper}:∀(m:Nat),(∀i,i < m->¬ DR.isB (ios:=ios) i)∨∃T,T < m/\DR.isB (ios:=ios) T/\∀i,i < T->¬ DR.isB (ios:=ios) i:=by
 intro m
 induction m with
 |zero=> exact .inl (λ i h=> by omega)
 |succ m ih=>
  rcases ih with ih|⟨T,h1,h2⟩
  . by_cases c:DR.isB (ios:=ios) m
    . exact .inr ⟨m,by omega,c,ih⟩
    . refine .inl λ i h=> ?_
      by_cases e:i=m
      . subst e;exact c
      . exact ih i (by omega)
  . exact .inr ⟨T,by omega,h2⟩
theorem DR.start {ops:Array Oper} {ios:List IOper} {bf:List (List Nat)} (d:DR P nt ops ios bf) {e:Env} {ρ:Ren} {w:World} {a:Act} (hL:∀t,d.Lf 0 t=eget e t) (hR:Rel ρ (hblk (d.Gf 0)) w) (hD:Dom ρ (d.lvl 0)) (hE:EnvRel ρ e a nt):
 ∃T,d.Inv w ρ (Array.replicate ops.size false) T ρ a { w with drawn:=w.drawn+1 }:=by
 have hl:∀i,DR.lst (Array.replicate ops.size false) i=false:=by
  intro i;unfold DR.lst
  by_cases c:i < ops.size
  . simp [c]
  . simp [c]
 obtain ⟨T,h1,h2,h3⟩:∃T,T<=ops.size/\(T=ops.size∨DR.isB (ios:=ios) T)/\∀i,i < T->¬ DR.isB (ios:=ios) i:=by
  rcases ATm (ios:=ios) ops.size with h|⟨T,k1,k2,k3⟩
  . exact ⟨ops.size,Nat.le_refl _, .inl rfl,h⟩
  . exact ⟨T,by omega, .inr k2,k3⟩
 have hcut:∀i,i<=ops.size->cut ρ (d.lvl i)=ρ:=λ i hi=> ARg λ b hb=> hD b (Nat.le_trans (d.lvl_mono (Nat.zero_le i) hi) hb)
 have hhp:d.hpS (DR.lst (Array.replicate ops.size false)) T=hblk (d.Gf 0):=by
  funext b
  unfold DR.hpS
  rcases Nat.lt_or_ge b (d.lvl 0) with h|h
  . have hv:d.Vis (DR.lst (Array.replicate ops.size false)) b:= .inl h
    rw [if_pos hv]
    exact d.seg (Nat.zero_le T) h1 (λ i _ q=> d.ext_of (by omega) (.inl (h3 i q))) b h
  . rw [DR.hblk_ge h,if_neg]
    rintro (h|⟨i,_,k,_⟩)
    . omega
    . rw [hl] at k;cases k
 refine ⟨T,by simp,λ i j _ _ h=> (by rw [hl] at h;cases h),h1,λ i k1 k2=> (h3 i k1 k2).elim,λ i _ _ _=> hl i,h2,λ b hb=> .inl ?_,λ b _ hb=> hb,hD,λ i k1 _=> ?_, ?_,λ t=> ?_,hE.1,hE.2.1⟩
 . rcases Nat.lt_or_ge b (d.lvl 0) with h|h
   . exact h
   . exact (hb (hD b h)).elim
 . rw [hcut i (by omega),hhp]
   have e2:cutH (hblk (d.Gf 0)) (d.lvl i)=hblk (d.Gf 0):=by
    funext b;unfold cutH
    split
    . rfl
    . rename_i c
      have:=d.lvl_mono (Nat.zero_le i) (by omega)
      exact (DR.hblk_ge (show (d.Gf 0).length<=b by have:d.lvl 0=(d.Gf 0).length:=rfl;omega)).symm
   rw [e2];exact hR.anyHeap rfl
 . rw [hhp];exact (Goes.refl hR).drew _
 . have hc:=d.cur_high (DR.lst (Array.replicate ops.size false)) (t:=t) (Nat.zero_le ops.size) (λ i _ _ _=> hl i)
   rw [hc]
   show V0 (cut ρ (d.lvl 0)) (d.Lf 0 t) _
   rw [hcut 0 (Nat.zero_le _),hL];exact hE.2.2 t
theorem DR.finish {ops:Array Oper} {ios:List IOper} {bf:List (List Nat)} {d:DR P nt ops ios bf} {e':Env} {w0 w:World} {ρ0 ρ:Ren} {l:Array Bool} {T:Nat} {a:Act} (I:d.Inv w0 ρ0 l T ρ a w) (hall:∀i,i < ops.size->DR.lst l i=true) (hL:∀t,eget e' t=d.Lf ops.size t):
 EnvRel ρ e' a nt/\Goes ρ0 (hblk (d.Gf 0)) w0 ρ (hblk (d.Gf ops.size)) w/\Grow ρ0 ρ (d.lvl 0) (d.lvl ops.size):=by
 have hTn:=I.tn
 have hT:T=ops.size:=by
  rcases I.t3 with h|⟨io,h1,h2⟩
  . exact h
  . rcases Nat.lt_or_eq_of_le hTn with h|h
    . have:=I.t2 T (Nat.le_refl _) h ⟨io,h1,DR.bm h2⟩
      rw [hall T h] at this;cases this
    . exact h
 subst hT
 have hhp:d.hpS (DR.lst l) ops.size=hblk (d.Gf ops.size):=by
  funext b
  unfold DR.hpS
  split
  . rfl
  . rename_i hv
    rcases Nat.lt_or_ge b (d.lvl ops.size) with h|h
    . refine (hv ?_).elim
      rcases d.find_lvl (Nat.le_refl _) h with h|⟨i,k1,k2⟩
      . exact .inl h
      . exact .inr ⟨i,k1,hall i k1,k2⟩
    . exact (DR.hblk_ge h).symm
 refine ⟨⟨I.dfr,I.big,λ t=> ?_⟩,by have:=I.goes;rwa [hhp] at this,λ b hb=> ?_⟩
 . have h1:=I.env t
   rw [(d.cur_low (DR.lst l) (Nat.le_refl _) (λ i hi _=> hall i hi)).1] at h1
   rw [hL];exact h1.mono (ASE _ _)
 . rcases Nat.lt_or_ge b (d.lvl 0) with h|h
   . exact .inl (I.old b h hb)
   . rcases I.dom b hb with h2|⟨i,h1,_,h3,h4⟩
     . omega
     . have:=d.lvl_mono (show i+1<=ops.size by omega) (Nat.le_refl _)
       exact .inr (by omega)
theorem AUz {all:List Oper} {draw:Bool} {bf:List (List Nat)}:∀(os:List Oper) (ios:List IOper) (i:Nat),trOs P an nt all draw bf i os=some ios->∀(j:Nat) (o:Oper) (io:IOper),os[j]? =some o->ios[j]? =some io->trO P an nt all draw bf (i+j) o=some io:=by
 intro os
 induction os with
 |nil=> intro ios i _ j o io h;simp at h
 |cons x os ih=>
  intro ios i htr j o io h1 h2
  simp only [trOs] at htr
  split at htr
  . rename_i y ys k1 k2
    cases htr
    cases j with
    |zero=> simp at h1 h2;subst h1 h2;exact k1
    |succ j=>
     simp at h1 h2
     have:=ih ys (i+1) k2 j o io h1 h2
     rwa [show i+1+j=i+(j+1) from by omega] at this
  . cases htr
theorem AZB (hC:CSound P C) {id:Nat} {ops:Array Oper} {ios:List IOper} {bf:List (List Nat)} (htr:trReg P an nt bf ops true=some ios) {e:Env} {H:Heap} {K:Env->Heap->Option R} {r:R} (h:evOps C H ios 0 [] e H K=some r):
 ∃e' H',TriC P nt (.region id ops true) e H .normal e' H'/\K e' H'=some r:=by
 unfold trReg at htr
 rw [cond_true] at htr
 split at htr
 . rename_i ios' htO
   cases hc:ancOk ops.toList bf && drawOk bf (indexed 0 (ops.toList.zip ios')) && P.follows .mixedOrders with
   |false=> rw [hc] at htr;cases htr
   |true=>
    rw [hc,cond_true] at htr
    cases htr
    simp only [Bool.and_eq_true] at hc
    obtain ⟨⟨hanc,hdr⟩,hfol⟩:=hc
    obtain ⟨Lf,Gf,Vf,Mf,e',g1,g2,g3,g4,g5,g6,g7⟩:=Aau hC H ops.toList ios 0 htO [] e H K r h
    have hget:∀ {j:Nat} {o:Oper},ops[j]? =some o->ops.toList[j]? =some o:=λ h=> by rw [Array.getElem?_toList];exact h
    have htO':∀(j:Nat) (o:Oper) (io:IOper),ops[j]? =some o->ios[j]? =some io->trO P an nt ops.toList true bf j o=some io:=λ j o io h1 h2=> by
     have:=AUz ops.toList ios 0 htO j o io (hget h1) h2
     rwa [Nat.zero_add] at this
    have hA:∀(j:Nat) (o:Oper),ops[j]? =some o->((o.after.toList.all λ e=> !(Region.binds .any e)||Nat.blt e.on j) && (bf.getD j []).all λ i=> o.after.toList.any λ e=> Region.binds .any e && Nat.blt e.on j && (Nat.beq e.on i||bound bf i e.on))=true:=λ j o h1=> by
     have hm:=AOR ops.toList 0 j o (hget h1)
     rw [Nat.zero_add] at hm
     exact List.all_eq_true.1 hanc _ hm
    have hO:∀(j:Nat) (o:Oper) (io:IOper),ops[j]? =some o->ios[j]? =some io->(io.dst=o.dst/\dstOk nt o.dst=true)/\((o.guard=none/\io.guard=none)∨∃k g want,o.guard=some (k,want)/\io.guard=some (g,want)/\dstOf ops.toList k=some g):=λ j o io h1 h2=> by
     have ht:=htO' j o io h1 h2
     unfold trO at ht
     split at ht
     . rename_i op _
       cases hd:dstOk nt o.dst && !(isLdr op) with
       |false=> rw [hd] at ht;cases ht
       |true=>
        rw [hd,cond_true] at ht
        rw [Bool.and_eq_true] at hd
        split at ht
        . rename_i hg;cases ht;exact ⟨⟨rfl,hd.1⟩, .inl ⟨hg,rfl⟩⟩
        . rename_i k want hg
          split at ht
          . rename_i g hk;cases ht;exact ⟨⟨rfl,hd.1⟩, .inr ⟨k,g,want,hg,rfl,hk⟩⟩
          . cases ht
     . cases ht
    obtain ⟨d,hd1,hd2⟩:∃d:DR P nt ops ios bf,d.Lf=Lf/\d.Gf=Gf:=by
     refine ⟨⟨Lf,Gf,Vf,Mf,by simpa using g6,λ j o io h1 h2=> by have:=g7 j o io (hget h1) h2;rwa [Nat.zero_add,←g2] at this,g3,λ j o io h1 h2=> (hO j o io h1 h2).1,λ j o io h1 h2=> (hO j o io h1 h2).2,λ j o h1 e he hb=> ?_,λ j o h1 i hi=> ?_,λ i j o io o' io' hij h1 h2 h3 h4=> ?_⟩,rfl,rfl⟩
     . have:=hA j o h1
       rw [Bool.and_eq_true] at this
       have:=List.all_eq_true.1 this.1 e he
       rw [hb] at this
       simpa [Nat.blt_eq] using this
     . have:=hA j o h1
       rw [Bool.and_eq_true] at this
       have hi':i∈bf.getD j []:=by unfold bound at hi;simpa using hi
       have:=List.all_eq_true.1 this.2 i hi'
       obtain ⟨e,he,hx⟩:=List.any_eq_true.1 this
       simp only [Bool.and_eq_true,Bool.or_eq_true,Nat.blt_eq] at hx
       refine ⟨e,he,hx.1.1,hx.1.2,hx.2.imp (λ h=> Nat.eq_of_beq_eq_true h) (λ h=> h)⟩
     . have hz:∀ {j:Nat} {o:Oper} {io:IOper},ops[j]? =some o->ios[j]? =some io->(j,o,io)∈indexed 0 (ops.toList.zip ios):=λ {j o io} h1 h2=> by
        have hm:=AOR (ops.toList.zip ios) 0 j (o,io) (by rw [List.getElem?_zip_eq_some];exact ⟨hget h1,h2⟩)
        rwa [Nat.zero_add] at hm
       have:=List.all_eq_true.1 (List.all_eq_true.1 hdr _ (hz h1 h2)) _ (hz h3 h4)
       have hlt:Nat.blt i j=true:=by rw [Nat.blt_eq];exact hij
       simp only [hlt,Bool.not_true,Bool.false_or,Bool.or_eq_true,Bool.not_eq_true'] at this
       refine this.imp (λ h=> h) λ h=> ?_
       simp only [Bool.or_eq_false_iff] at h
       refine ⟨h.1.1.1,h.1.1.2,h.1.2,λ c1 c2=> ?_⟩
       have h5:=h.2
       rw [c1,c2] at h5
       simpa using h5
    have hlen:ops.toList.length=ops.size:=by simp
    rw [hlen] at g4 g5
    subst hd1 hd2
    refine ⟨e',d.Gf ops.size,⟨?_,λ ρ w a hR hD hE=> ?_⟩,g5⟩
    . have:=d.lvl_mono (Nat.zero_le ops.size) (Nat.le_refl _)
      unfold DR.lvl at this
      rwa [g2] at this
    . have hR':Rel ρ (hblk (d.Gf 0)) w:=by rw [g2];exact hR
      have hD':Dom ρ (d.lvl 0):=by unfold DR.lvl;rw [g2];exact hD
      obtain ⟨T,I⟩:=d.start g1 hR' hD' hE
      refine wp_region_any hfol (DR.any_ok (d:=d) hR' _ (λ l T' ρ' a' w' I' hall=> ?_) ops.size _ T ρ a _ I (by simp))
      obtain ⟨q1,q2,q3⟩:=DR.finish I' hall g4
      rw [g2] at q2
      unfold DR.lvl at q3
      rw [g2] at q3
      exact ⟨trivial,ρ',q1,q2,q3⟩
 . cases htr
variable {P:Program} {R:Type}
section
variable {C:Tab R} {an:Ann} {nt:Nat}
theorem AVn (hC:CSound P C) {id:Nat} {ops:Array Oper} {draw:Bool} {ios:List IOper} {bf:List (List Nat)} (htr:trReg P an nt bf ops draw=some ios) {e:Env} {H:Heap} {K:Env->Heap->Option R} {r:R} (h:evOps C H ios 0 [] e H K=some r):
 ∃e' H',TriC P nt (.region id ops draw) e H .normal e' H'/\K e' H'=some r:=by
 cases draw with
 |true=> exact AZB hC htr h
 |false=>
  simp only [trReg,cond_false] at htr
  obtain ⟨e',H',⟨hl,ht⟩,hk⟩:=AVU hC ops _ ops.toList ios 0 (by simp) htr [] e H K r h
  refine ⟨e',H',⟨hl,λ ρ w a hR hD hE=> ?_⟩,hk⟩
  refine wp_region ?_
  have hr:List.range ops.size=List.range' 0 ops.toList.length:=by simp [List.range_eq_range']
  rw [hr]
  exact ht ρ w a _ hR hD hE (λ ρ' a' w' q1 q2 q3=> ⟨trivial,ρ',q1,q2,q3⟩)
theorem TriC.seq1 {x y:Code} {e e1 e2:Env} {H H1 H2:Heap} {z:Xit} (h1:TriC P nt x e H .normal e1 H1) (h2:TriC P nt y e1 H1 z e2 H2):TriC P nt (.seq x y) e H z e2 H2:=by
 refine ⟨Nat.le_trans h1.1 h2.1,λ ρ w a hR hD hE=> wp_seq (wp_mono (h1.2 ρ w a hR hD hE) ?_)⟩
 rintro ex a' w' ⟨hx,ρ',q1,q2,q3⟩
 cases ex <;> first|exact hx.elim|skip
 refine wp_mono (h2.2 ρ' w' a' q2.rel (q3.dom h1.1 hD) q1) ?_
 rintro ex a'' w'' ⟨hx,ρ'',g1,g2,g3⟩
 exact ⟨hx,ρ'',g1,q2.trans g2,q3.trans g3 h1.1 h2.1⟩
theorem TriC.seq2 {x y:Code} {e e1:Env} {H H1:Heap} {z:Xit} (hz:z≠ .normal) (h1:TriC P nt x e H z e1 H1):TriC P nt (.seq x y) e H z e1 H1:=by
 refine ⟨h1.1,λ ρ w a hR hD hE=> wp_seq (wp_mono (h1.2 ρ w a hR hD hE) ?_)⟩
 rintro ex a' w' h
 cases z with
 |normal=> exact (hz rfl).elim
 |exit i=> cases ex <;> first|exact h.1.elim|exact h
 |ret=> cases ex <;> first|exact h.1.elim|exact h
theorem Goes.frz {ρ:Ren} {hp:Nat->Option Blk} {w:World} (h:Rel ρ hp w) {b:Nat} {B:Blk} (hb:hp b=some B) {hp':Nat->Option Blk} (he:∀i,hp' i=if i=b then some ⟨B.cells,true,B.sz⟩ else hp i):Goes ρ hp w ρ hp' w:=by
 have hx:∀i B',hp' i=some B'->∃B0,hp i=some B0/\B0.cells=B'.cells/\B0.sz=B'.sz/\(B'.ro=false->B0=B'):=by
  intro i B' h'
  rw [he] at h'
  split at h'
  . rename_i e;subst e;cases h';exact ⟨B,hb,rfl,rfl,λ hh=> by cases hh⟩
  . exact ⟨B',h',rfl,rfl,λ _=> rfl⟩
 refine ⟨Le.refl _,⟨λ i B' h'=> ?_,λ b1 B1 b2 B2 x1 d1 x2 d2 k1 k2 hne hro a1 a2=> ?_⟩,⟨rfl,rfl,rfl,Nat.le_refl _,λ _ _ _=> rfl⟩,λ i B' x d h' hx'=> ?_⟩
 . obtain ⟨B0,g1,g2,g3,g4⟩:=hx i B' h'
   obtain ⟨b',d,m,arr,el,fr,e1,e2,e3,e4,e5⟩:=h.blk i B0 g1
   refine ⟨b',d,m,arr,el,fr,e1,e2,λ j v hv=> e3 j v (by rw [g2];exact hv),λ hr=> ?_,by rw [←g2];exact e5⟩
   have:=g4 hr
   subst this
   exact e4 hr
 . obtain ⟨C1,g1,_,_,g4⟩:=hx b1 B1 k1
   obtain ⟨C2,f1,_⟩:=hx b2 B2 k2
   have:=g4 hro
   subst this
   exact h.inj b1 C1 b2 C2 x1 d1 x2 d2 g1 f1 hne hro a1 a2
 . obtain ⟨B0,g1,_,_,g4⟩:=hx i B' h'
   exact .inr (.inl ⟨B0,g1,hx',λ hr=> by rw [g4 hr];exact hr⟩)
theorem AV2 {c:Code} {e:Env} {H:Heap} {p:Option Addr} {K:Xit->Env->Heap->Option R} {r:R} {ev:Heap->Option R} (h:hfrz H p ev=some r) (ih:∀H',ev H'=some r->∃x e' H'',TriC P nt c e H' x e' H''/\K x e' H''=some r):∃x e' H',TriC P nt c e H x e' H'/\K x e' H'=some r:=by
 unfold hfrz at h
 split at h
 . rename_i b o sp
   split at h
   . rename_i B hB
     obtain ⟨x,e',H',g1,g2⟩:=ih _ h
     have hlen:(hset H b (some ⟨B.cells,true,B.sz⟩)).length=H.length:=AAX _ _ _
     have hlt:b < H.length:=AIM hB
     refine ⟨x,e',H',⟨by have:=g1.1;omega,λ ρ w a hR hD hE=> ?_⟩,g2⟩
     have g:=Goes.frz (hp':=hblk (hset H b (some ⟨B.cells,true,B.sz⟩))) hR hB (λ i=> by
      rw [AEy]
      by_cases e:i=b
      . subst e;simp [hlt]
      . simp [e])
     refine wp_mono (g1.2 ρ w a g.rel (by rw [hlen];exact hD) hE) ?_
     rintro ex a' w' ⟨hx,ρ',q1,q2,q3⟩
     exact ⟨hx,ρ',q1,g.trans q2,by rw [hlen] at q3;exact q3⟩
   . cases h
 . cases h
theorem ATx {op:Operand} {z:X} (hz:trX op=some z) {thn els:Code} {e:Env} {H:Heap} {t:Bool} (ht:gx e z= .bool t) {Q:Xit->Env->Heap->Prop} (h1:t=true->∃x e' H',TriC P nt thn e H x e' H'/\Q x e' H') (h2:t=false->∃x e' H',TriC P nt els e H x e' H'/\Q x e' H'):
 ∃x e' H',TriC P nt (.cond op thn els) e H x e' H'/\Q x e' H':=by
 have hv:∀(ρ:Ren) (a:Act),EnvRel ρ e a nt->a.eval op= .bool t:=by
  intro ρ a hE
  have:V0 ρ (gx e z) (a.eval op):=by
   cases op with
   |tmp t=> simp [trX] at hz;subst hz;exact hE.2.2 t
   |const v=>
    simp only [trX] at hz
    cases hq:ptrFree v && okv v with
    |false=> rw [hq] at hz;simp at hz
    |true=>
     rw [hq] at hz;simp at hz;subst hz
     simp at hq
     exact .of (VRel.self hq.1 hq.2 ρ)
   |func f=> simp [trX] at hz;subst hz;simp [gx] at ht
   |global g=> simp [trX] at hz
  rw [ht] at this
  exact this.bool
 cases t with
 |true=>
  obtain ⟨x,e1,H1,g1,g2⟩:=h1 rfl
  exact ⟨x,e1,H1,⟨g1.1,λ ρ w a hR hD hE=> wp_cond (t:=true) (hv ρ a hE) (g1.2 ρ w a hR hD hE)⟩,g2⟩
 |false=>
  obtain ⟨x,e1,H1,g1,g2⟩:=h2 rfl
  exact ⟨x,e1,H1,⟨g1.1,λ ρ w a hR hD hE=> wp_cond (t:=false) (hv ρ a hE) (g1.2 ρ w a hR hD hE)⟩,g2⟩
theorem ASH {id:Nat} {body:Code} {e e1:Env} {H H1:Heap} {x:Xit} {K:Xit->Env->Heap->Option R} {r:R} (g1:TriC P nt body e H x e1 H1) (g2:(match (generalizing:=false) x with| .exit id'=> bif Nat.beq id' id then K .normal e1 H1 else K (.exit id') e1 H1|x=> K x e1 H1)=some r):
 ∃x e' H',TriC P nt (.block id body) e H x e' H'/\K x e' H'=some r:=by
 cases x with
 |normal=>
  refine ⟨.normal,e1,H1,⟨g1.1,λ ρ w a hR hD hE=> wp_block (wp_mono (g1.2 ρ w a hR hD hE) ?_)⟩,g2⟩
  rintro ex a' w' hp
  cases ex <;> first|exact hp.1.elim|exact hp
 |ret=>
  refine ⟨.ret,e1,H1,⟨g1.1,λ ρ w a hR hD hE=> wp_block (wp_mono (g1.2 ρ w a hR hD hE) ?_)⟩,g2⟩
  rintro ex a' w' hp
  cases ex <;> first|exact hp.1.elim|exact hp
 |exit i=>
  simp only at g2
  cases hq:Nat.beq i id with
  |true=>
   rw [hq,cond_true] at g2
   have:=Nat.eq_of_beq_eq_true hq
   subst this
   refine ⟨.normal,e1,H1,⟨g1.1,λ ρ w a hR hD hE=> wp_block (wp_mono (g1.2 ρ w a hR hD hE) ?_)⟩,g2⟩
   rintro ex a' w' hp
   cases ex <;> first|exact hp.1.elim|skip
   obtain ⟨hx,hp⟩:=hp
   have hx':i=_:=hx
   subst hx'
   simp only [Exit.inBlock,if_true]
   exact ⟨trivial,hp⟩
  |false=>
   rw [hq,cond_false] at g2
   have hne:=Nat.ne_of_beq_eq_false hq
   refine ⟨.exit i,e1,H1,⟨g1.1,λ ρ w a hR hD hE=> wp_block (wp_mono (g1.2 ρ w a hR hD hE) ?_)⟩,g2⟩
   rintro ex a' w' hp
   cases ex <;> first|exact hp.1.elim|skip
   obtain ⟨hx,hp⟩:=hp
   have hx':i=_:=hx
   subst hx'
   simp only [Exit.inBlock,if_neg hne]
   exact ⟨rfl,hp⟩
theorem ATo (hC:CSound P C) (J:JTab R):∀(t:AT) (c:Code) (ic:IC),trC P an nt t c=some ic->AllJ P nt J t c->∀(e:Env) (H:Heap) (K:Xit->Env->Heap->Option R) (r:R),evJ C J ic e H K=some r->
 ∃x e' H',TriC P nt c e H x e' H'/\K x e' H'=some r:=by
 intro t
 induction t with
 |opq i ls out t ih=>
  intro c ic htr hJ e H K r h
  simp only [trC] at htr
  split at htr
  . cases htr
    simp only [evJ] at h
    obtain ⟨x,e',H',h1,h2⟩:=hJ _ _ _ _ h
    refine ⟨x,clean e' (out.of x),H',⟨h1.1,λ ρ w a hR hD hE=> wp_mono (h1.2 ρ w a hR hD (by rw [AMk];exact hE.clean ls)) ?_⟩,h2⟩
    rintro ex a' w' ⟨hx,ρ',q1,q2,q3⟩
    exact ⟨hx,ρ',q1.clean _,q2,q3⟩
  . cases htr
 |frz t a ih=>
  intro c ic htr hJ e H K r h
  simp only [trC] at htr
  split at htr
  . rename_i ic' h1
    cases htr
    simp only [evJ] at h
    split at h
    . exact AV2 h λ H' h=> ih _ _ h1 hJ _ _ _ _ h
    . cases h
  . cases htr
 |reg live bf=>
  intro c ic htr hJ e H K r h
  cases c <;> simp only [trC] at htr <;> try (cases htr;done)
  split at htr
  . rename_i ios hreg
    cases htr
    simp only [evJ] at h
    obtain ⟨e',H',h1,h2⟩:=AVn hC hreg h
    refine ⟨.normal,clean e' live,H',⟨h1.1,λ ρ w a hR hD hE=> wp_mono (h1.2 ρ w a hR hD hE) ?_⟩,h2⟩
    rintro ex a' w' ⟨hx,ρ',q1,q2,q3⟩
    exact ⟨hx,ρ',q1.clean live,q2,q3⟩
  . cases htr
 |leaf=>
  intro c ic htr hJ e H K r h
  cases c <;> simp only [trC] at htr <;> cases htr
  . exact ⟨.normal,e,H,⟨Nat.le_refl _,λ ρ w a hR hD hE=> wp_skip ⟨trivial,ρ,hE, .refl hR, .refl _ _ _⟩⟩,h⟩
  . rename_i id;exact ⟨.exit id,e,H,⟨Nat.le_refl _,λ ρ w a hR hD hE=> wp_exit ⟨rfl,ρ,hE, .refl hR, .refl _ _ _⟩⟩,h⟩
  . exact ⟨.ret,e,H,⟨Nat.le_refl _,λ ρ w a hR hD hE=> wp_ret ⟨trivial,ρ,hE, .refl hR, .refl _ _ _⟩⟩,h⟩
 |seq a b iha ihb=>
  intro c ic htr hJ e H K r h
  cases c <;> simp only [trC] at htr <;> try (cases htr;done)
  split at htr
  . rename_i i1 i2 h1 h2
    cases htr
    simp only [evJ] at h
    obtain ⟨x,e1,H1,g1,g2⟩:=iha _ _ h1 hJ.1 _ _ _ _ h
    cases x with
    |normal=>
     obtain ⟨z,e2,H2,g3,g4⟩:=ihb _ _ h2 hJ.2 _ _ _ _ g2
     exact ⟨z,e2,H2,g1.seq1 g3,g4⟩
    |exit i=> exact ⟨_,e1,H1,g1.seq2 (by simp),g2⟩
    |ret=> exact ⟨_,e1,H1,g1.seq2 (by simp),g2⟩
  . cases htr
 |cond a b iha ihb=>
  intro c ic htr hJ e H K r h
  cases c <;> simp only [trC] at htr <;> try (cases htr;done)
  split at htr
  . rename_i z i1 i2 hz h1 h2
    cases htr
    simp only [evJ] at h
    split at h
    . rename_i t ht
      exact ATx hz ht (λ e=> by subst e;exact iha _ _ h1 hJ.1 _ _ _ _ h) (λ e=> by subst e;exact ihb _ _ h2 hJ.2 _ _ _ _ h)
    . cases h
  . cases htr
 |node a iha=>
  intro c ic htr hJ e H K r h
  cases c <;> simp only [trC] at htr <;> try (cases htr;done)
  . split at htr
    . rename_i i1 h1
      cases htr
      simp only [evJ] at h
      obtain ⟨x,e1,H1,g1,g2⟩:=iha _ _ h1 hJ _ _ _ _ h
      exact ASH g1 g2
    . cases htr
  . split at htr
    . cases htr;simp only [evJ] at h;cases h
    . cases htr
theorem ARG {c:Code} {ls:List Nat} {out:Out} (L:Nat->List Value->Heap->(Xit->Env->Heap->Option R)->Option R)
 (h0:∀vals H K,L 0 vals H K=none)
 (hs:∀k vals H K r,L (k+1) vals H K=some r->∃x e' H',TriC P nt c (ls.zip vals) H x e' H'/\(match x with| .normal=> L k ((clean e' ls).map (·.2)) H' K|x=> K x (clean e' (out.of x)) H')=some r):
 ∀k,JS P nt (L k) ls out (.loop c):=by
 have key:∀k vals H K r,L k vals H K=some r->∃x e' H',(H.length<=H'.length/\x≠ .normal/\∀(ρ:Ren) (w:World) (a:Act),Rel ρ (hblk H) w->Dom ρ H.length->EnvRel ρ (ls.zip vals) a nt->Code.rounds P c (Post nt ρ H w x e' H') k a w)/\K x (clean e' (out.of x)) H'=some r:=by
  intro k
  induction k with
  |zero=> intro vals H K r h;rw [h0] at h;cases h
  |succ k ih=>
   intro vals H K r h
   obtain ⟨x,e1,H1,g1,g2⟩:=hs k vals H K r h
   cases x with
   |normal=>
    obtain ⟨x,e2,H2,⟨k1,k2,k3⟩,k4⟩:=ih _ _ _ _ g2
    refine ⟨x,e2,H2,⟨Nat.le_trans g1.1 k1,k2,λ ρ w a hR hD hE=> ?_⟩,k4⟩
    rw [rounds_succ]
    refine wp_mono (g1.2 ρ w a hR hD hE) ?_
    rintro ex a' w' ⟨hx,ρ',q1,q2,q3⟩
    cases ex <;> first|exact hx.elim|skip
    have:=k3 ρ' w' a' q2.rel (q3.dom g1.1 hD) (by rw [AMk];exact q1.clean ls)
    have mono:∀n a w (Q Q':Exit->Act->World->Prop),(∀e a w,Q e a w->Q' e a w)->Code.rounds P c Q n a w->Code.rounds P c Q' n a w:=by
     intro n
     induction n with
     |zero=> intro a w Q Q' _ h;exact h.elim
     |succ n ihn=>
      intro a w Q Q' hq h
      rw [rounds_succ] at h ⊢
      refine wp_mono h ?_
      intro e a w he
      cases e <;> first|exact ihn _ _ _ _ hq he|exact hq _ _ _ he
    refine mono k a' w' _ _ ?_ this
    rintro ex a'' w'' ⟨hx,ρ'',p1,p2,p3⟩
    exact ⟨hx,ρ'',p1,q2.trans p2,q3.trans p3 g1.1 k1⟩
   |exit i=>
    refine ⟨.exit i,e1,H1,⟨g1.1,by simp,λ ρ w a hR hD hE=> ?_⟩,g2⟩
    rw [rounds_succ]
    refine wp_mono (g1.2 ρ w a hR hD hE) ?_
    rintro ex a' w' hp
    cases ex <;> first|exact hp.1.elim|exact hp
   |ret=>
    refine ⟨.ret,e1,H1,⟨g1.1,by simp,λ ρ w a hR hD hE=> ?_⟩,g2⟩
    rw [rounds_succ]
    refine wp_mono (g1.2 ρ w a hR hD hE) ?_
    rintro ex a' w' hp
    cases ex <;> first|exact hp.1.elim|exact hp
 intro k vals H K r h
 obtain ⟨x,e',H',⟨k1,k2,k3⟩,k4⟩:=key k vals H K r h
 exact ⟨x,e',H',⟨k1,λ ρ w a hR hD hE=> wp_loop_rounds k (k3 ρ w a hR hD hE)⟩,k4⟩
theorem AYt (hC:CSound P C) (J:JTab R) {t:AT} {c:Code} {ic:IC} (htr:trC P an nt t c=some ic) (hJ:AllJ P nt J t c) {ls:List Nat} {out:Out} (L:Nat->List Value->Heap->(Xit->Env->Heap->Option R)->Option R)
 (h0:∀vals H K,L 0 vals H K=none)
 (hs:∀k vals H K r,L (k+1) vals H K=some r->evJ C J ic (ls.zip vals) H (λ x e' H'=> match x with| .normal=> L k ((clean e' ls).map (·.2)) H' K|x=> K x (clean e' (out.of x)) H')=some r):
 ∀k,JS P nt (L k) ls out (.loop c):=ARG L h0 λ k vals H K r h=> ATo hC J t c ic htr hJ _ _ _ _ (hs k vals H K r h)
theorem AU9 (hC:CSound P C) (J:JTab R) {t:AT} {c:Code} {ic:IC} (htr:trC P an nt t c=some ic) (hJ:AllJ P nt J t c) {ls:List Nat} {out:Out} (L:List Value->Heap->(Xit->Env->Heap->Option R)->Option R)
 (hs:∀vals H K r,L vals H K=some r->evJ C J ic (ls.zip vals) H (λ x e' H'=> K x (clean e' (out.of x)) H')=some r):JS P nt L ls out c:=
 λ vals H K r h=> ATo hC J t c ic htr hJ _ _ _ _ (hs vals H K r h)
def trRV (P:Program) (r:ResultVar):Option RV:=
 match r with
 | .tmp t=> some (.t t)
 | .cell a t=> match sz P t with
  |some n=> bif isAg P t then (bif Nat.beq (kinds P 6 t).length n && !(Nat.beq n 0) then some (.cell a (vkOf P t)) else none) else
   (match P.underlying t with|some _=> some (.cell a (vkOf P t))|none=> none)
  |none=> none
def trRVs (P:Program):List ResultVar->Option (List RV)
 | []=> some []
 |r::rs=> match trRV P r,trRVs P rs with
  |some x,some xs=> some (x::xs)
  |_,_=> none
def trF (P:Program) (an:Ann) (t:AT) (fn:Func):Option IFn:=
 bif Nat.ble (fn.params.size + fn.nfree) fn.ntmps && !(fn.name == "runtime.NumGoroutine") then
  (match fn.body with
   |some c=> match trC P an fn.ntmps t c,trRVs P fn.results.toList with
    |some ic,some rs=> some ⟨fn.ntmps,rs,ic⟩
    |_,_=> none
   |none=> none) else none
def resSem (a:Act) (rv:ResultVar):Sem Value:=
 match rv with
 | .tmp t=> pure (a.tmps.getD t undef)
 | .cell b t=> do loadVar t (←asAddr (a.tmps.getD b undef))
theorem Agg {rv:ResultVar} {x:RV} (htr:trRV P rv=some x) {e:Env} {H:Heap} {K:Value->Option R} {r:R} (h:evRV e H x K=some r):
 ∃v,K v=some r/\okv v=true/\∀(ρ:Ren) (w:World) (a:Act),Rel ρ (hblk H) w->EnvRel ρ e a nt->∃v',VRel ρ v v'/\(resSem a rv).run P w= .ok v' w:=by
 cases rv with
 |tmp t=>
  simp only [trRV] at htr
  cases htr
  simp only [evRV] at h
  cases hk:okv (eget e t) with
  |false=> rw [hk] at h;cases h
  |true=>
   rw [hk,cond_true] at h
   exact ⟨_,h,hk,λ ρ w a _ hE=> ⟨_,(hE.2.2 t).rel hk,by simp [resSem]⟩⟩
 |cell b t=>
  have main:∀(n:Nat) (d:TypeDesc),sz P t=some n->P.underlying t=some d->(isAg P t=true->(kinds P 6 t).length=n/\n≠0)->evRV e H (.cell b (vkOf P t)) K=some r->
   ∃v,K v=some r/\okv v=true/\∀(ρ:Ren) (w:World) (a:Act),Rel ρ (hblk H) w->EnvRel ρ e a nt->∃v',VRel ρ v v'/\(resSem a (.cell b t)).run P w= .ok v' w:=by
   intro n d hs hd hk h
   simp only [evRV] at h
   split at h
   . rename_i p hp
     have h':(match vkOf P t with
      | .sc s=> ldS s H p λ v=> bif okv v then K v else none
      | .agg ks=> ldN ks H p 0 λ vs=> (λ v=> bif okv v then K v else none) (.agg ⟨vs⟩))=some r:=by
      cases hv:vkOf P t with
      |sc s=> rw [hv] at h;exact h
      |agg ks=> rw [hv] at h;exact h
     obtain ⟨v,h1,h2⟩:=AR4 (K':=λ v=> bif okv v then K v else none) hd hs hk h'
     cases hok:okv v with
     |false=> rw [hok] at h1;cases h1
     |true=>
      rw [hok,cond_true] at h1
      refine ⟨v,h1,hok,λ ρ w a hR hE=> ?_⟩
      have q1:=hE.2.2 b
      rw [hp] at q1
      obtain ⟨a',v',g1,g2,g3⟩:=h2 ρ (hblk H) w _ hR (λ _ _ _=> rfl) q1
      refine ⟨v',g2, ?_⟩
      unfold resSem
      simp only [g1]
      simp [asAddr,g3]
   . cases h
  simp only [trRV] at htr
  split at htr
  . rename_i n hs
    cases hA:isAg P t with
    |true=>
     rw [hA,cond_true] at htr
     cases hk:Nat.beq (kinds P 6 t).length n && !(Nat.beq n 0) with
     |false=> rw [hk] at htr;cases htr
     |true=>
      rw [hk] at htr;cases htr
      simp only [Bool.and_eq_true,Bool.not_eq_true'] at hk
      have hd:∃d,P.underlying t=some d:=by
       unfold isAg at hA
       cases hq:P.underlying t with
       |none=> rw [hq] at hA;cases hA
       |some d=> exact ⟨d,rfl⟩
      obtain ⟨d,hd⟩:=hd
      exact main n d hs hd (λ _=> ⟨Nat.eq_of_beq_eq_true hk.1,Nat.ne_of_beq_eq_false hk.2⟩) h
    |false=>
     rw [hA,cond_false] at htr
     split at htr
     . rename_i d hd;cases htr;exact main n d hs hd (λ hh=> by rw [hA] at hh;cases hh) h
     . cases htr
  . cases htr
theorem Aat {e:Env} {H:Heap} {r:R}:∀ {rvs:List ResultVar} {xs:List RV} {K:List Value->Option R},trRVs P rvs=some xs->evRVs e H xs K=some r->
 ∃vs,K vs=some r/\vs.length=rvs.length/\∀(ρ:Ren) (w:World) (a:Act),Rel ρ (hblk H) w->EnvRel ρ e a nt->∃vs',LRel ρ vs vs'/\(rvs.mapM (resSem a)).run P w= .ok vs' w:=by
 intro rvs
 induction rvs with
 |nil=> intro xs K htr h;simp [trRVs] at htr;subst htr;exact ⟨[],h,rfl,λ ρ w a _ _=> ⟨[], .nil,by simp⟩⟩
 |cons rv rvs ih=>
  intro xs K htr h
  simp only [trRVs] at htr
  split at htr
  . rename_i x xs' h1 h2
    cases htr
    simp only [evRVs] at h
    obtain ⟨v,g1,g2,g3⟩:=Agg (nt:=nt) h1 h
    obtain ⟨vs,k1,k2,k3⟩:=ih (K:=λ vs=> K (v::vs)) h2 g1
    refine ⟨v::vs,k1,by simp [k2],λ ρ w a hR hE=> ?_⟩
    obtain ⟨v',p1,p2⟩:=g3 ρ w a hR hE
    obtain ⟨vs',p3,p4⟩:=k3 ρ w a hR hE
    exact ⟨v'::vs', .cons p1 p3,by simp [List.mapM_cons,p2,p4]⟩
  . cases htr
theorem ATp (args:List Value):∀(i t:Nat),eget (zipT i args) t=if i<=t then (args[t - i]?).getD undef else undef:=by
 induction args with
 |nil=> intro i t;simp [zipT,eget]
 |cons v vs ih=>
  intro i t
  simp only [zipT,eget]
  by_cases c:i=t
  . subst c
    have:Nat.beq i i=true:=Nat.beq_refl i
    rw [this,cond_true];simp
  . rw [beqF c,cond_false,ih]
    by_cases d:i+1<=t
    . rw [if_pos d,if_pos (by omega),show t - i=(t - (i+1))+1 from by omega,List.getElem?_cons_succ]
    . rw [if_neg d,if_neg (by omega)]
theorem Abu {t:AT} {f:Nat} {fn:Func} {ifn:IFn} {c:Code} (hf:P.funcs[f]? =some fn) (hb:fn.body=some c) (htr:trF P an t fn=some ifn)
 {args:List Value} {H:Heap} {K:Value->Heap->Option R} {r:R} (hl:args.length=fn.params.size+fn.nfree) {ev:(Xit->Env->Heap->Option R)->Option R}
 (hev:∀ic,trC P an fn.ntmps t c=some ic->ifn.body=ic->∀K r,ev K=some r->∃x e' H',TriC P fn.ntmps c (zipT 0 args) H x e' H'/\K x e' H'=some r)
 (h:ev (λ x e H=> match x with| .exit _=> none|_=> evRVs e H ifn.res λ vs=> K (tupled vs) H)=some r):∃v H',Tri P f args H v H'/\K v H'=some r:=by
 unfold trF at htr
 cases hc : Nat.ble (fn.params.size + fn.nfree) fn.ntmps && !(fn.name == "runtime.NumGoroutine") with
 |false=> rw [hc] at htr;cases htr
 |true=>
  rw [hc,cond_true] at htr
  simp only [Bool.and_eq_true,Bool.not_eq_true'] at hc
  have hp:=Nat.le_of_ble_eq_true hc.1
  rw [hb] at htr
  simp only at htr
  . split at htr
    . rename_i ic rs h1 h2
      cases htr
      obtain ⟨x,e',H',g1,g2⟩:=hev ic h1 rfl _ _ h
      have main:evRVs e' H' rs (λ vs=> K (tupled vs) H')=some r->(x= .normal∨x= .ret)->∃v H',Tri P f args H v H'/\K v H'=some r:=by
       intro h hx
       obtain ⟨vs,k1,k2,k3⟩:=Aat (nt:=fn.ntmps) h2 h
       refine ⟨_,H',⟨⟨fn,hf,by simp [hb],hc.2⟩,g1.1,λ ρ w args' hR hD hA=> ?_⟩,k1⟩
       refine calls_of_wp hf hb (wp_mono (g1.2 ρ w _ hR hD ⟨rfl, ?_,λ t=> ?_⟩) ?_)
       . have:=hA.1
         show fn.ntmps<=((⟨args'⟩:Array Value)++Array.replicate (fn.ntmps - (⟨args'⟩:Array Value).size) undef).size
         rw [Array.size_append,Array.size_replicate]
         omega
       . rw [ATp]
         simp only [Nat.zero_le,if_true,Nat.sub_zero]
         by_cases ct:t < args.length
         . have ct':t < args'.length:=by rw [←hA.1];exact ct
           have e1:args[t]? =some args[t]:=List.getElem?_eq_getElem ct
           have e2:args'[t]? =some args'[t]:=List.getElem?_eq_getElem ct'
           rw [e1]
           have:((⟨args'⟩:Array Value)++Array.replicate (fn.ntmps - (⟨args'⟩:Array Value).size) undef).getD t undef=args'[t]:=by
            simp [Array.getElem?_append,ct']
           rw [this]
           exact .of (hA.2 t _ _ e1 e2)
         . rw [List.getElem?_eq_none (by omega)]
           exact .inl rfl
       . intro ex a' w' hp
         have fin:Post fn.ntmps ρ H w x e' H' ex a' w'->a'.defers= []/\∃v,(results fn a'.tmps).run P w'= .ok v w'/\∃ρ' v',Ending.returned v= .returned v'/\V0 ρ' (tupled vs) v'/\Goes ρ (hblk H) w ρ' (hblk H') w'/\Grow ρ ρ' H.length H'.length:=by
          rintro ⟨_,ρ',q1,q2,q3⟩
          obtain ⟨vs',p1,p2⟩:=k3 ρ' w' a' q2.rel q1
          have hres:(results fn a'.tmps).run P w'= .ok (tupled vs') w':=by
           have e1:results fn a'.tmps=(do let vs←fn.results.mapM (resSem a');pure (if h:vs.size=1 then vs[0] else .tuple vs)):=rfl
           rw [e1,Array.mapM_eq_mapM_toList]
           simp [p2]
           cases vs' with
           |nil=> simp [tupled]
           |cons v vs'=> cases vs' with
            |nil=> simp [tupled]
            |cons u us=> simp [tupled]
          refine ⟨q1.1,_,hres,ρ',_,rfl, ?_,q2,q3⟩
          cases vs with
          |nil=> have:=p1.1;simp at this;exact .inl rfl
          |cons v vs=>
           cases vs' with
           |nil=> have:=p1.1;simp at this
           |cons v' vs'=>
            cases vs with
            |nil=> cases vs' with
             |nil=> exact .of (p1.2 0 _ _ rfl rfl)
             |cons _ _=> have:=p1.1;simp at this
            |cons u us=> cases vs' with
             |nil=> have:=p1.1;simp at this
             |cons u' us'=> exact .of (.tup p1.1 p1.2)
         rcases hx with rfl|rfl
         . cases ex <;> first|exact hp.1.elim|exact fin hp
         . cases ex <;> first|exact hp.1.elim|exact fin hp
      cases x with
      |exit i=> cases g2
      |normal=> exact main g2 (.inl rfl)
      |ret=> exact main g2 (.inr rfl)
    . cases htr
theorem Abw (hC:CSound P C) (J:JTab R) {t:AT} {f:Nat} {fn:Func} {ifn:IFn} {c:Code} (hf:P.funcs[f]? =some fn) (hb:fn.body=some c) (htr:trF P an t fn=some ifn) (hJ:AllJ P fn.ntmps J t c)
 {args:List Value} {H:Heap} {K:Value->Heap->Option R} {r:R} (hl:args.length=fn.params.size+fn.nfree) (h:evF C J ifn args H K=some r):∃v H',Tri P f args H v H'/\K v H'=some r:=
 Abu hf hb htr hl (ev:=λ K=> evJ C J ifn.body (zipT 0 args) H K) (λ ic h1 e=> by subst e;exact λ K r h=> ATo hC J t c _ h1 hJ _ _ _ _ h) h
theorem AU0 {t:AT} {fn:Func} {ifn:IFn} (htr:trF P an t fn=some ifn):∃c,fn.body=some c:=by
 unfold trF at htr
 cases hc : Nat.ble (fn.params.size + fn.nfree) fn.ntmps && !(fn.name == "runtime.NumGoroutine") with
 |false=> rw [hc] at htr;cases htr
 |true=>
  rw [hc,cond_true] at htr
  split at htr
  . rename_i c h;exact ⟨c,h⟩
  . cases htr
theorem someD {α:Type} {x:Option α} (d:α) (h:x.isSome=true):x=some (x.getD d):=by
 cases x with
 |none=> cases h
 |some a=> rfl
theorem AAE:CSound P (λ _ _ _ _=> none:Tab R):=λ _ _ _ _ _ h=> by cases h
theorem AAB {f0:Nat} {c:List Value->Heap->(Value->Heap->Option R)->Option R} {C:Tab R} (h:∀args H K r,c args H K=some r->∃v H',Tri P f0 args H v H'/\K v H'=some r) (hC:CSound P C):CSound P (tcons f0 c C):=by
 intro f args H K r hr
 unfold tcons at hr
 cases hf:Nat.beq f f0 with
 |true=> rw [hf,cond_true] at hr;rw [Nat.eq_of_beq_eq_true hf];exact h args H K r hr
 |false=> rw [hf,cond_false] at hr;exact hC f args H K r hr
end
variable {P:Program} {R:Type}
theorem Rel.none (ρ:Ren) (w:World):Rel ρ (λ _=> Option.none) w:=⟨λ b B h=> (by cases h),λ b1 B1 b2 B2 x1 d1 x2 d2 h=> (by cases h)⟩
theorem AYH {f:Nat} {args:List Value} {v:Value} {H':Heap} (h:Tri P f args [] v H') (ha:args.all ptrFree=true) (hv:ptrFree v=true) (H:Heap):Tri P f args H v H:=by
 obtain ⟨h1,_,h3⟩:=h
 refine ⟨h1,Nat.le_refl _,λ ρ w args' hR hD hA=> ?_⟩
 have hA':LRel (λ _=> none) args args':=⟨hA.1,λ i x y e1 e2=> (hA.2 i x y e1 e2).free (List.all_eq_true.1 ha x (List.mem_of_getElem? e1)) _⟩
 refine (h3 (λ _=> none) w args' ⟨λ b B hb=> (by simp [hblk] at hb),λ b1 B1 b2 B2 x1 d1 x2 d2 hb=> (by simp [hblk] at hb)⟩ (λ _ _=> rfl) hA').mono λ e w' ⟨ρ',v',q1,q2,q3,_⟩=> ⟨ρ,v',q1, ?_, ?_, .refl _ _ _⟩
 . rcases q2 with q|q|q
   . exact .inl q
   . exact .inr (.inl q)
   . exact .of (q.free hv ρ)
 . have hkeep:∀c,c < w.heap.size->w'.heap[c]? =w.heap[c]? :=λ c hc=> q3.kept.block c hc (λ b B d hb=> by simp [hblk] at hb)
   exact ⟨Le.refl _,hR.same hkeep,⟨q3.kept.os,q3.kept.tape,q3.kept.output,q3.kept.size,λ c hc _=> hkeep c hc⟩,λ b B x d hb hx=> .inr (.inl ⟨B,hb,hx,id⟩)⟩
def asB (v:Value) (_:Heap):Option Bool:=match v with
 | .bool b=> some b
 |_=> none
theorem ATy {f:Nat} {c:(R:Type)->Nat->List Value->Heap->(Value->Heap->Option R)->Option R} (hc:∀(R:Type) (k:Nat) args H K r,c R k args H K=some r->∃v H',Tri P f args H v H'/\K v H'=some r)
 {k:Nat} {b:Bool} (h:c Bool k [] [] asB=some b) (H:Heap):Tri P f [] H (.bool b) H:=by
 obtain ⟨v,H',h1,h2⟩:=hc Bool k [] [] asB b h
 unfold asB at h2
 split at h2
 . cases h2;exact AYH h1 rfl rfl H
 . cases h2
theorem Abn {f:Nat} {args args':List Value} {H H':Heap} {b:Bool} (h:Tri P f args H (.bool b) H') {ρ:Ren} {w:World} (hR:Rel ρ (hblk H) w) (hD:Dom ρ H.length) (hA:LRel ρ args args') (hro:∀b B,hblk H b=some B->B.ro=true):
 Calls P f ⟨args'⟩ w λ e w'=> e= .returned (.bool b)/\Go.RowKit.Below w.heap.size w w':=by
 refine (h.2.2 ρ w args' hR hD hA).mono λ e w' ⟨ρ',v',q1,q2,q3,_⟩=> ?_
 rw [q2.bool] at q1
 exact ⟨q1,q3.kept.os,q3.kept.tape,q3.kept.output,q3.kept.size,λ c hc=> q3.kept.block c hc λ b B d hb hr=> by rw [hro b B hb] at hr;cases hr⟩
variable {P:Program} {R:Type}
def loopD (ls:List Nat) (body:Env->Heap->(Xit->Env->Heap->Option R)->Option R):Nat->Env->Heap->(Xit->Env->Heap->Option R)->Option R
 |0,_,_,_=> none
 |n+1,e,H,K=> body e H λ x e H=> match x with
  | .normal=> loopD ls body n (clean e ls) H K
  |x=> K x e H
def evD (C:Tab R) (m:Nat):AT->IC->Env->Heap->(Xit->Env->Heap->Option R)->Option R
 | .opq _ ls out t,ic,e,H,K=> match ic with
  | .opq _ _ (.loop b)=> (match t with
   | .node t=> loopD ls (evD C m t b) m (clean e ls) H λ x e H=> K x (clean e (out.of x)) H
   |_=> none)
  | .opq _ _ c=> evD C m t c (clean e ls) H λ x e H=> K x (clean e (out.of x)) H
  |_=> none
 | .frz _ a,ic,e,H,K=> match ic with
  | .frz t c=> (match eget e t with
   | .pointer p=> hfrz H p λ H=> evD C m a c e H K
   |_=> none)
  |_=> none
 | .reg _ _,ic,e,H,K=> match ic with
  | .reg ops live=> evOps C H ops 0 [] e H λ e H=> K .normal (clean e live) H
  |_=> none
 | .leaf,ic,e,H,K=> match ic with
  | .skip=> K .normal e H
  | .exit id=> K (.exit id) e H
  | .ret=> K .ret e H
  |_=> none
 | .seq a b,ic,e,H,K=> match ic with
  | .seq x y=> evD C m a x e H λ z e H=> match z with
   | .normal=> evD C m b y e H K
   |z=> K z e H
  |_=> none
 | .cond a b,ic,e,H,K=> match ic with
  | .cond x c d=> (match gx e x with
   | .bool t=> bif t then evD C m a c e H K else evD C m b d e H K
   |_=> none)
  |_=> none
 | .node a,ic,e,H,K=> match ic with
  | .block id b=> evD C m a b e H λ x e H=> match x with
   | .exit id'=> bif Nat.beq id' id then K .normal e H else K (.exit id') e H
   |x=> K x e H
  |_=> none
section
variable {C:Tab R} {an:Ann} {nt:Nat}
theorem AVJ {c:Code} {ls:List Nat} {out:Out} {body:Env->Heap->(Xit->Env->Heap->Option R)->Option R} (hb:∀e H K r,body e H K=some r->∃x e' H',TriC P nt c e H x e' H'/\K x e' H'=some r) (m:Nat) {e:Env} {H:Heap} {K:Xit->Env->Heap->Option R} {r:R}
 (h:loopD ls body m (clean e ls) H (λ x e H=> K x (clean e (out.of x)) H)=some r):∃x e' H',TriC P nt (.loop c) (clean e ls) H x e' H'/\K x (clean e' (out.of x)) H'=some r:=by
 have hJ:=ARG (P:=P) (nt:=nt) (c:=c) (ls:=ls) (out:=out) (R:=R) (λ n vals H K=> loopD ls body n (ls.zip vals) H (λ x e H=> K x (clean e (out.of x)) H)) (λ _ _ _=> rfl) (λ k vals H K r h=> by
  obtain ⟨x,e',H',g1,g2⟩:=hb _ _ _ _ h
  refine ⟨x,e',H',g1, ?_⟩
  cases x with
  |normal=> simp only [AMk];exact g2
  |exit i=> exact g2
  |ret=> exact g2) m ((clean e ls).map (·.2)) H K r (by show loopD ls body m (ls.zip _) H _=_;rw [AMk];exact h)
 rw [AMk] at hJ
 exact hJ
theorem Abx (hC:CSound P C) (m:Nat) (t:AT):(∀(c:Code) (ic:IC),trC P an nt t c=some ic->∀(e:Env) (H:Heap) (K:Xit->Env->Heap->Option R) (r:R),evD C m t ic e H K=some r->
 ∃x e' H',TriC P nt c e H x e' H'/\K x e' H'=some r)/\∀t2,t= .node t2->∀(c:Code) (ic:IC),trC P an nt t2 c=some ic->∀(e:Env) (H:Heap) (K:Xit->Env->Heap->Option R) (r:R),evD C m t2 ic e H K=some r->
 ∃x e' H',TriC P nt c e H x e' H'/\K x e' H'=some r:=by
 induction t with
 |opq i ls out t ih=>
  refine ⟨λ c ic htr e H K r h=> ?_,λ t2 h=> by cases h⟩
  simp only [trC] at htr
  split at htr
  . rename_i ic' h1
    cases htr
    obtain ⟨x,e',H',g1,g2⟩:∃x e' H',TriC P nt c (clean e ls) H x e' H'/\K x (clean e' (out.of x)) H'=some r:=by
     unfold evD at h
     split at h
     . rename_i i2 ls2 b heq
       injection heq with _ _ hb
       subst hb
       split at h
       . rename_i t2
         cases c <;> simp only [trC] at h1
         all_goals try (cases h1;done)
         . split at h1 <;> cases h1
         . split at h1
           . rename_i b2 h2
             cases h1
             exact AVJ (λ e H K r h=> ih.2 t2 rfl _ _ h2 e H K r h) m h
           . cases h1
       . cases h
     . rename_i i2 ls2 c2 hn heq
       injection heq with _ _ hb
       subst hb
       exact ih.1 _ _ h1 _ _ (λ x e H=> K x (clean e (out.of x)) H) _ h
     . rename_i hn;exact (hn _ _ _ rfl).elim
    refine ⟨x,clean e' (out.of x),H',⟨g1.1,λ ρ w a hR hD hE=> wp_mono (g1.2 ρ w a hR hD (hE.clean ls)) ?_⟩,g2⟩
    rintro ex a' w' ⟨hx,ρ',q1,q2,q3⟩
    exact ⟨hx,ρ',q1.clean _,q2,q3⟩
  . cases htr
 |frz t a ih=>
  refine ⟨λ c ic htr e H K r h=> ?_,λ t2 h=> by cases h⟩
  simp only [trC] at htr
  split at htr
  . rename_i ic' h1
    cases htr
    unfold evD at h
    dsimp only at h
    split at h
    . exact AV2 h λ H' h=> ih.1 _ _ h1 _ _ _ _ h
    . cases h
  . cases htr
 |reg live bf=>
  refine ⟨λ c ic htr e H K r h=> ?_,λ t2 h=> by cases h⟩
  cases c <;> simp only [trC] at htr <;> try (cases htr;done)
  split at htr
  . rename_i ios hreg
    cases htr
    unfold evD at h
    obtain ⟨e',H',h1,h2⟩:=AVn hC hreg h
    refine ⟨.normal,clean e' live,H',⟨h1.1,λ ρ w a hR hD hE=> wp_mono (h1.2 ρ w a hR hD hE) ?_⟩,h2⟩
    rintro ex a' w' ⟨hx,ρ',q1,q2,q3⟩
    exact ⟨hx,ρ',q1.clean live,q2,q3⟩
  . cases htr
 |leaf=>
  refine ⟨λ c ic htr e H K r h=> ?_,λ t2 h=> by cases h⟩
  cases c <;> simp only [trC] at htr <;> cases htr <;> unfold evD at h
  . exact ⟨.normal,e,H,⟨Nat.le_refl _,λ ρ w a hR hD hE=> wp_skip ⟨trivial,ρ,hE, .refl hR, .refl _ _ _⟩⟩,h⟩
  . rename_i id;exact ⟨.exit id,e,H,⟨Nat.le_refl _,λ ρ w a hR hD hE=> wp_exit ⟨rfl,ρ,hE, .refl hR, .refl _ _ _⟩⟩,h⟩
  . exact ⟨.ret,e,H,⟨Nat.le_refl _,λ ρ w a hR hD hE=> wp_ret ⟨trivial,ρ,hE, .refl hR, .refl _ _ _⟩⟩,h⟩
 |seq a b iha ihb=>
  refine ⟨λ c ic htr e H K r h=> ?_,λ t2 h=> by cases h⟩
  cases c <;> simp only [trC] at htr <;> try (cases htr;done)
  split at htr
  . rename_i i1 i2 h1 h2
    cases htr
    unfold evD at h
    obtain ⟨x,e1,H1,g1,g2⟩:=iha.1 _ _ h1 _ _ _ _ h
    cases x with
    |normal=>
     obtain ⟨z,e2,H2,g3,g4⟩:=ihb.1 _ _ h2 _ _ _ _ g2
     exact ⟨z,e2,H2,g1.seq1 g3,g4⟩
    |exit i=> exact ⟨_,e1,H1,g1.seq2 (by simp),g2⟩
    |ret=> exact ⟨_,e1,H1,g1.seq2 (by simp),g2⟩
  . cases htr
 |cond a b iha ihb=>
  refine ⟨λ c ic htr e H K r h=> ?_,λ t2 h=> by cases h⟩
  cases c <;> simp only [trC] at htr <;> try (cases htr;done)
  split at htr
  . rename_i z i1 i2 hz h1 h2
    cases htr
    unfold evD at h
    dsimp only at h
    split at h
    . rename_i t ht
      exact ATx hz ht (λ e=> by subst e;exact iha.1 _ _ h1 _ _ _ _ h) (λ e=> by subst e;exact ihb.1 _ _ h2 _ _ _ _ h)
    . cases h
  . cases htr
 |node a iha=>
  refine ⟨λ c ic htr e H K r h=> ?_,λ t2 h=> by cases h;exact iha.1⟩
  cases c <;> simp only [trC] at htr <;> try (cases htr;done)
  . split at htr
    . rename_i i1 h1
      cases htr
      unfold evD at h
      obtain ⟨x,e1,H1,g1,g2⟩:=iha.1 _ _ h1 _ _ _ _ h
      exact ASH g1 g2
    . cases htr
  . split at htr
    . cases htr;unfold evD at h;cases h
    . cases htr
structure DE where
 f:Nat
 t:AT
 fn:Func
def dfind:List DE->Nat->Option DE
 | [],_=> none
 |d::ds,f=> bif Nat.beq d.f f then some d else dfind ds f
def runD (D:List DE) (P:Program) (an:Ann) (m:Nat) (R:Type):Nat->Tab R
 |0=> λ _ _ _ _=> none
 |n+1=> λ f args H K=> match dfind D f with
  |some d=> match trF P an d.t d.fn with
   |some ifn=> bif Nat.beq args.length (d.fn.params.size+d.fn.nfree) then evD (runD D P an m R n) m d.t ifn.body (zipT 0 args) H (λ x e H=> match x with
    | .exit _=> none
    |_=> evRVs e H ifn.res λ vs=> K (tupled vs) H) else none
   |none=> none
  |none=> none
def DOk (P:Program):List DE->Prop
 | []=> True
 |d::ds=> P.funcs[d.f]? =some d.fn/\DOk P ds
theorem AVY {D:List DE} (h:DOk P D) {f:Nat} {d:DE} (e:dfind D f=some d):P.funcs[f]? =some d.fn:=by
 induction D with
 |nil=> cases e
 |cons d0 D ih=>
  simp only [dfind] at e
  cases hb:Nat.beq d0.f f with
  |true=> rw [hb] at e;cases e;rw [←Nat.eq_of_beq_eq_true hb];exact h.1
  |false=> rw [hb] at e;exact ih h.2 e
theorem AYN {D:List DE} (hD:DOk P D) (an:Ann) (m:Nat):∀n,CSound P (runD D P an m R n):=by
 intro n
 induction n with
 |zero=> intro f args H K r h;cases h
 |succ n ih=>
  intro f args H K r h
  unfold runD at h
  split at h
  . rename_i d hd
    split at h
    . rename_i ifn hf
      cases hl:Nat.beq args.length (d.fn.params.size+d.fn.nfree) with
      |false=> rw [hl] at h;cases h
      |true=>
       rw [hl,cond_true] at h
       obtain ⟨c,hc⟩:=AU0 hf
       exact Abu (ev:=λ K=> evD (runD D P an m R n) m d.t ifn.body (zipT 0 args) H K) (AVY hD hd) hc hf (Nat.eq_of_beq_eq_true hl) (λ ic h1 e=> by subst e;exact λ K r h=> (Abx ih m d.t).1 _ _ h1 _ _ _ _ h) h
    . cases h
  . cases h
theorem ASf {D:List DE} (hD:DOk P D) {an:Ann} {m n f:Nat} {b:Bool} (h:runD D P an m Bool n f [] [] asB=some b) (H:Heap):Tri P f [] H (.bool b) H:=
 ATy (f:=f) (c:=λ R k=> runD D P an m R n f) (λ R k args H K r h=> AYN hD an m n f args H K r h) (k:=0) h H
end
inductive Tk where
 |i (k:IntKind)|b|p|s|l|nf|a (n:Nat)|f (f n:Nat)
def Fn:List Tk->Type->Type
 | [],T=> T
 | .i _::ts,T=> Int->Fn ts T
 | .b::ts,T=> Bool->Fn ts T
 | .p::ts,T=> Option Addr->Fn ts T
 | .s::ts,T=> ByteArray->Fn ts T
 | .l::ts,T=> Option Addr->Nat->Nat->Fn ts T
 | .nf::ts,T=> Fn ts T
 | .a _::ts,T=> Fn ts T
 | .f _ _::ts,T=> Fn ts T
def lam {T:Type}:(ts:List Tk)->(List Value->T)->Fn ts T
 | [],c=> c []
 | .i k::ts,c=> λ n=> lam ts λ vs=> c (.int k n::vs)
 | .b::ts,c=> λ n=> lam ts λ vs=> c (.bool n::vs)
 | .p::ts,c=> λ n=> lam ts λ vs=> c (.pointer n::vs)
 | .s::ts,c=> λ n=> lam ts λ vs=> c (.string n::vs)
 | .l::ts,c=> λ p l n=> lam ts λ vs=> c (.slice p l n::vs)
 | .nf::ts,c=> lam ts λ vs=> c (.nilFunc::vs)
 | .a n::ts,c=> lam ts λ vs=> c (.agg ⟨vs.take n⟩::vs.drop n)
 | .f g n::ts,c=> lam ts λ vs=> c (.func (.func g) ⟨[]⟩ ⟨vs.take n⟩::vs.drop n)
def mapT {T U:Type} (h:T->U):(ts:List Tk)->Fn ts T->Fn ts U
 | [],g=> h g
 | .i _::ts,g=> λ n=> mapT h ts (g n)
 | .b::ts,g=> λ n=> mapT h ts (g n)
 | .p::ts,g=> λ n=> mapT h ts (g n)
 | .s::ts,g=> λ n=> mapT h ts (g n)
 | .l::ts,g=> λ p l n=> mapT h ts (g p l n)
 | .nf::ts,g=> mapT h ts g
 | .a _::ts,g=> mapT h ts g
 | .f _ _::ts,g=> mapT h ts g
def app {T U:Type}:(ts:List Tk)->Fn ts T->List Value->(T->Option U)->Option U
 | [],g,vs,c=> match vs with
  | []=> c g
  |_=> none
 | .i k::ts,g,vs,c=> match vs with
  | .int k' n::vs=> bif ikeq k k' then app ts (g n) vs c else none
  |_=> none
 | .b::ts,g,vs,c=> match vs with
  | .bool n::vs=> app ts (g n) vs c
  |_=> none
 | .p::ts,g,vs,c=> match vs with
  | .pointer n::vs=> app ts (g n) vs c
  |_=> none
 | .s::ts,g,vs,c=> match vs with
  | .string n::vs=> app ts (g n) vs c
  |_=> none
 | .l::ts,g,vs,c=> match vs with
  | .slice p l n::vs=> app ts (g p l n) vs c
  |_=> none
 | .nf::ts,g,vs,c=> match vs with
  | .nilFunc::vs=> app ts g vs c
  |_=> none
 | .a n::ts,g,vs,c=> match vs with
  | .agg cs::vs=> bif Nat.beq cs.toList.length n then app ts g (cs.toList++vs) c else none
  |_=> none
 | .f h n::ts,g,vs,c=> match vs with
  | .func (.func h') ⟨[]⟩ cs::vs=> bif Nat.beq h h' && Nat.beq cs.toList.length n then app ts g (cs.toList++vs) c else none
  |_=> none
theorem AQ3 {T U:Type} (c:T->Option U) {r:U}:∀(ts:List Tk) (E:List Value->T) (vs:List Value),app ts (lam ts E) vs c=some r->c (E vs)=some r:=by
 intro ts
 induction ts with
 |nil=> intro E vs h;cases vs <;> first|exact h|cases h
 |cons t ts ih=>
  intro E vs h
  cases t with
  |i k=>
   simp only [app] at h
   split at h
   . rename_i k' n vs'
     cases hk:ikeq k k' with
     |false=> rw [hk] at h;cases h
     |true=>
      rw [hk] at h
      have:=ih (λ vs=> E (.int k n::vs)) _ h
      rw [AL0 hk] at this
      exact this
   . cases h
  |b=> simp only [app] at h;split at h <;> first|exact ih (λ vs=> E (.bool _::vs)) _ h|cases h
  |p=> simp only [app] at h;split at h <;> first|exact ih (λ vs=> E (.pointer _::vs)) _ h|cases h
  |s=> simp only [app] at h;split at h <;> first|exact ih (λ vs=> E (.string _::vs)) _ h|cases h
  |l=> simp only [app] at h;split at h <;> first|exact ih (λ vs=> E (.slice _ _ _::vs)) _ h|cases h
  |nf=> simp only [app] at h;split at h <;> first|exact ih (λ vs=> E (.nilFunc::vs)) _ h|cases h
  |a n=>
   simp only [app] at h
   split at h
   . rename_i cs vs'
     cases hn:Nat.beq cs.toList.length n with
     |false=> rw [hn] at h;cases h
     |true=>
      rw [hn] at h
      have hl:=Nat.eq_of_beq_eq_true hn
      subst hl
      have:=ih (λ vs=> E (.agg ⟨vs.take cs.toList.length⟩::vs.drop cs.toList.length)) _ h
      simp only [List.take_left,List.drop_left] at this
      exact this
   . cases h
  |f g n=>
   simp only [app] at h
   split at h
   . rename_i g' cs vs'
     cases hn:Nat.beq g g' && Nat.beq cs.toList.length n with
     |false=> rw [hn] at h;cases h
     |true=>
      rw [hn] at h
      rw [Bool.and_eq_true] at hn
      have hl:=Nat.eq_of_beq_eq_true hn.2
      have hf:=Nat.eq_of_beq_eq_true hn.1
      subst hl hf
      have:=ih (λ vs=> E (.func (.func g) ⟨[]⟩ ⟨vs.take cs.toList.length⟩::vs.drop cs.toList.length)) _ h
      simp only [List.take_left,List.drop_left] at this
      exact this
   . cases h
theorem AQ2 {T U V:Type} (h:T->U) (c:U->Option V):∀(ts:List Tk) (g:Fn ts T) (vs:List Value),app ts g vs (λ g=> c (h g))=app ts (mapT h ts g) vs c:=by
 intro ts
 induction ts with
 |nil=> intro g vs;cases vs <;> rfl
 |cons t ts ih=>
  intro g vs
  cases t <;> simp only [app,mapT] <;> split <;> first|rfl|exact ih _ _|exact congrArg (λ x=> bif _ then x else none) (ih _ _)
abbrev XK (R:Type):=Xit->Env->Heap->Option R
section
variable {R:Type}
def kH (x:Xit) (s:List Nat) (ts:List Tk) (K:XK R):Fn ts (Heap->Option R):=lam ts λ l H=> K x (s.zip l) H
def kN (x:Xit) (s:List Nat) (ts:List Tk) (K:XK R) (H:Heap):Fn ts (Option R):=lam ts λ l=> K x (s.zip l) H
def kU (x:Xit) (K:XK R) (H:Heap):Unit->Option R:=λ _=> K x [] H
def rH (ts:List Tk) (K:Value->Heap->Option R):Fn ts (Heap->Option R):=lam ts λ l H=> K (tupled l) H
def rN (ts:List Tk) (K:Value->Heap->Option R) (H:Heap):Fn ts (Option R):=lam ts λ l=> K (tupled l) H
def rU (K:Value->Heap->Option R) (H:Heap):Unit->Option R:=λ _=> K undef H
structure PS where
 t:AT
 ls:List Nat
 ts:List Tk
 out:Out
def jp {T:Type} (s:PS) (post:T->Heap->XK R->Option R) (f:Fn s.ts T) (_:Nat) (vals:List Value) (H:Heap) (K:XK R):Option R:=app s.ts f vals λ g=> post g H K
def jl {T L:Type} (s:PS) (pre:L->Heap->XK R->Nat->Fn s.ts T) (post:T->Heap->Option R) (l:L) (n:Nat) (vals:List Value) (H:Heap) (K:XK R):Option R:=app s.ts (pre l H K n) vals λ g=> post g H
def jf {T:Type} (m:Nat) (ts:List Tk) (post:T->Heap->(Value->Heap->Option R)->Option R) (f:Fn ts T) (args:List Value) (H:Heap) (K:Value->Heap->Option R):Option R:=bif Nat.beq args.length m then app ts f args λ g=> post g H K else none
def jE (P:Program) (an:Ann) (nt:Nat) (C:Tab R) (J:JTab R) (s:PS) (c:Code) (H:Heap) (K:XK R):Fn s.ts (Option R):=
 lam s.ts λ vals=> evJ C J ((trC P an nt s.t c).getD .skip) (s.ls.zip vals) H λ x e' H'=> K x (clean e' (s.out.of x)) H'
def lE (P:Program) (an:Ann) (nt:Nat) (C:Tab R) (J:JTab R) (s:PS) (c:Code) (L:Nat->List Value->Heap->XK R->Option R) (n:Nat) (H:Heap) (K:XK R):Fn s.ts (Option R):=
 lam s.ts λ vals=> evJ C J ((trC P an nt s.t c).getD .skip) (s.ls.zip vals) H λ x e' H'=> match x with
  | .normal=> L n ((clean e' s.ls).map (·.2)) H' K
  |x=> K x (clean e' (s.out.of x)) H'
def fE (P:Program) (an:Ann) (C:Tab R) (J:JTab R) (t:AT) (fn:Func) (ts:List Tk) (H:Heap) (K:Value->Heap->Option R):Fn ts (Option R):=
 lam ts λ args=> evF C J ((trF P an t fn).getD ⟨0, [], .skip⟩) args H K
def opqL:AT->Code->List (Nat×List Nat×Out×Code)
 | .opq i ls out _,c=> [(i,ls,out,c)]
 | .frz _ a,c=> opqL a c
 | .seq a b, .seq x y=> opqL a x++opqL b y
 | .cond a b, .cond _ x y=> opqL a x++opqL b y
 | .node a, .block _ x=> opqL a x
 |_,_=> []
def JAll (P:Program) (nt:Nat) (J:JTab R):List (Nat×List Nat×Out×Code)->Prop
 | []=> True
 |(i,ls,out,c)::l=> JS P nt (J i) ls out c/\JAll P nt J l
theorem JAll.split {P:Program} {nt:Nat} {J:JTab R}:∀ {a b:List (Nat×List Nat×Out×Code)},JAll P nt J (a++b)->JAll P nt J a/\JAll P nt J b:=by
 intro a b
 induction a with
 |nil=> exact λ h=> ⟨trivial,h⟩
 |cons x a ih=> exact λ h=> ⟨⟨h.1,(ih h.2).1⟩,(ih h.2).2⟩
theorem ARk {P:Program} {nt:Nat} {J:JTab R}:∀(t:AT) (c:Code),JAll P nt J (opqL t c)->AllJ P nt J t c:=by
 intro t
 induction t with
 |opq i ls out t ih=> intro c h;exact h.1
 |frz i t ih=> intro c h;exact ih c h
 |seq a b iha ihb=> intro c h;cases c <;> first|trivial|exact ⟨iha _ h.split.1,ihb _ h.split.2⟩
 |cond a b iha ihb=> intro c h;cases c <;> first|trivial|exact ⟨iha _ h.split.1,ihb _ h.split.2⟩
 |node a ih=> intro c h;cases c <;> first|trivial|exact ih _ h
 |reg l b=> intro c h;cases c <;> trivial
 |leaf=> intro c h;cases c <;> trivial
variable {P:Program} {an:Ann} {nt:Nat} {C:Tab R}
theorem pj (hC:CSound P C) (J:JTab R) {s:PS} {c:Code} (h1:(trC P an nt s.t c).isSome=true) {A:Prop} (ha:A) (hA:A=JAll P nt J (opqL s.t c)) {T:Type} {f:Fn s.ts T} {post:T->Heap->XK R->Option R} {n:Nat}
 (he:∀H K,jE P an nt C J s c H K=mapT (λ g=> post g H K) s.ts f):JS P nt (jp s post f n) s.ls s.out c:=
 AU9 hC J (someD .skip h1) (ARk _ _ (hA ▸ ha)) _ λ vals H K r h=> by
  unfold jp at h
  have h2:=AQ2 (λ g=> post g H K) (λ x=> x) s.ts f vals
  rw [h2,←he H K] at h
  exact AQ3 (λ x=> x) s.ts _ vals h
theorem lj (hC:CSound P C) (J:JTab R) {s:PS} {c:Code} (h1:(trC P an nt s.t c).isSome=true) {A:Prop} (ha:A) (hA:A=JAll P nt J (opqL s.t c)) {T L:Type} {pre:L->Heap->XK R->Nat->Fn s.ts T} {post:T->Heap->Option R} {l:L}
 (h0:∀H K,mapT (λ g=> post g H) s.ts (pre l H K 0)=lam s.ts λ _=> none)
 (he:∀n H K,lE P an nt C J s c (jl s pre post l) n H K=mapT (λ g=> post g H) s.ts (pre l H K (n+1))) (k:Nat):JS P nt (jl s pre post l k) s.ls s.out (.loop c):=
 AYt hC J (someD .skip h1) (ARk _ _ (hA ▸ ha)) (jl s pre post l) (λ vals H K=> by
  cases hq:jl s pre post l 0 vals H K with
  |none=> rfl
  |some r=>
   unfold jl at hq
   rw [AQ2 (λ g=> post g H) (λ x=> x) s.ts _ vals,h0] at hq
   cases AQ3 (λ x=> x) s.ts _ vals hq) (λ n vals H K r h=> by
  unfold jl at h
  rw [AQ2 (λ g=> post g H) (λ x=> x) s.ts _ vals,←he n H K] at h
  exact AQ3 (λ x=> x) s.ts _ vals h) k
theorem fj (hC:CSound P C) (J:JTab R) {t:AT} {f:Nat} {fn:Func} (hf:P.funcs[f]? =some fn) {m:Nat} {ts:List Tk} (h1:((trF P an t fn).isSome && fn.body.isSome && Nat.beq m (fn.params.size+fn.nfree))=true) {A:Prop} (ha:A) (hA:A=JAll P fn.ntmps J (opqL t (fn.body.getD .skip)))
 {T:Type} {g:Fn ts T} {post:T->Heap->(Value->Heap->Option R)->Option R} (he:∀H K,fE P an C J t fn ts H K=mapT (λ g=> post g H K) ts g):
 ∀args H K r,jf m ts post g args H K=some r->∃v H',Tri P f args H v H'/\K v H'=some r:=by
 intro args H K r h
 simp only [Bool.and_eq_true] at h1
 unfold jf at h
 cases hb:Nat.beq args.length m with
 |false=> rw [hb] at h;cases h
 |true=>
  rw [hb,cond_true,AQ2 (λ g=> post g H K) (λ x=> x) ts g args,←he H K] at h
  exact Abw hC J hf (someD .skip h1.1.2) (someD _ h1.1.1) (ARk _ _ (hA ▸ ha)) (by rw [Nat.eq_of_beq_eq_true hb,Nat.eq_of_beq_eq_true h1.2]) (AQ3 (λ x=> x) ts _ args h)
end
theorem clq {P:Program} {R:Type} {f:Nat} (hT:∀H,Tri P f [] H (.bool true) H):∀args H K r,jf 0 [] (λ (g:(Bool->Option R)->Option R) H K=> g λ t=> K (.bool t) H) (λ K=> K true) args H K=some r->∃v H',Tri P f args H v H'/\K v H'=some r:=by
 intro args H K r h
 cases args with
 |nil=> exact ⟨_,_,hT H,h⟩
 |cons v vs=> cases h
def bd (f:Func):Code:=f.body.getD .skip
abbrev Tk.n:Tk:= .i .i64
def pH {R:Type} (g:Heap->Option R) (H:Heap):Option R:=g H
def pN {R:Type} (g:Option R) (_:Heap):Option R:=g
def ms (l:List Nat):List (List Nat):=l.map λ n=> (List.range l.length).filter λ i=> n.testBit i
end Go.Proofs.Ytmanlfonppfhaaa.FW
set_option maxRecDepth 100000
namespace Go.Proofs.Ytmanlfonppfhaaa.Sh
open Go.Proofs.Ytmanlfonppfhaaa.FW
abbrev Oa:=Option Addr
def An:Ann:=⟨[],[3,5,7,9,12,13,14,15,18,19,24,26,30,38,44,54,55,57,58,62,65,66,69,78,79,84,93,97,98,99,101,102,103,104,105,106,107,108,109,110,111,112,113,114,115,116,117,118],[10,11,16,17,20,21,23,25,27,28,29,31,32,33,34,35,36,39,42,43,47,49,50,52,56,100],[4,6,8,16,17,22,23,31,34,37,40,41,45,46,47,48,51,52,53,59,60,61,63,64,67,68,70,71,72,73,74,75,76,77,80,81,82,83,85,86,87,88,89,90,91,92,94,95,96]⟩
end Go.Proofs.Ytmanlfonppfhaaa.Sh
set_option maxRecDepth 100000
namespace Go.Proofs.Ytmanlfonppfhaaa.Sh
open Go.Proofs.Ytmanlfonppfhaaa.FW
abbrev ALK (R:Type):Type:=(Int->Int->Option R)->(Int->Option R)->Option R
abbrev AGg (R:Type):Type:=Int->Int->ALK R
abbrev AMf (R:Type):Type:=(Int->Option R)->Option R
abbrev AIc (R:Type):Type:=Int->Int->AMf R
section
variable {R:Type} (z0:AGg R)
def AId (k:Nat):AGg R:=λ n1 n2 KN KR=>
bif decide (n1 < 1) then (KR 2)
 else (bif decide (n2 < 1) then (KR 2)
 else (KN n1 n2))
def AEm (k:Nat):AGg R:=AId k
def AKv (k:Nat):AIc R:=λ n1 n2 K=>
z0 n1 n2 (λ n6 n7=>
bif decide (n6 > 65536) then (K 5)
 else (bif decide (n7 > 65536) then (K 5)
 else (bif decide ((IntKind.wrap .i64 (n6 * n7)) > 65536) then (K 5)
 else (K 0)))) (λ n8=>
K n8)
def AIe (k:Nat):AIc R:=AKv (AEm k) k
def x44C:Tab R:=λ _ _ _ _=> none
def APV:PS:=⟨(.seq (.reg [0,1,10] []) (.cond (.seq (.reg [4] []) .leaf) .leaf)),[0,1],[.n,.n],⟨[0,1],[],[4]⟩⟩
def AZ8 (g:ALK R) (H:Heap) (K:XK R):Option R:=g (kN .normal [0,1] [.n,.n] K H) (kN .ret [4] [.n] K H)
def AXI (f:AGg R):Nat->List Value->Heap->XK R->Option R:=jp APV AZ8 f
def x44J (k:Nat):JTab R:=tcons 0 (AXI z0 k) <|λ _ _ _ _=> none
def x44t:AT:=(.seq (.reg [0,1] []) (.seq (.opq 0 APV.ls APV.out APV.t) (.seq (.seq (.reg [22] []) (.cond (.seq (.reg [4] []) .leaf) .leaf)) (.seq (.reg [4] []) .leaf))))
def x44c (g:AMf R) (H:Heap) (K:Value->Heap->Option R):Option R:=g (rN [.n] K H)
def x44a (f:AIc R):List Value->Heap->(Value->Heap->Option R)->Option R:=jf 2 [.n,.n] x44c f
variable {z0}
theorem AeV (k:Nat) (H:Heap) (K:XK R):jE Try.prog An 23 (x44C) (x44J z0 k) APV (sel [1,0] (bd Try.f44)) H K=mapT (λ g=> AZ8 g H K) APV.ts (AId k):=by kernel_rfl
theorem x44e (k:Nat) (H:Heap) (K:Value->Heap->Option R):fE Try.prog An (x44C) (x44J z0 k) x44t Try.f44 [.n,.n] H K=mapT (λ g=> x44c g H K) [.n,.n] (AKv z0 k):=by kernel_rfl
theorem x44S (R:Type) (k:Nat):CSound Try.prog (x44C (R:=R)):=AAE
theorem AeU (R:Type) (k:Nat):JS Try.prog 23 (AXI (AEm (R:=R) k) k) APV.ls APV.out (sel [1,0] (bd Try.f44)):=pj (x44S R k) (x44J (AEm k) k) (by kernel_rfl) (A:=True) trivial (by kernel_rfl) (λ _ _=> .trans (AeV _ _ _) (by kernel_rfl))
theorem AeW (R:Type) (k:Nat):∀args H K r,x44a (AIe k) args H K=some (r:R)->∃v H',Tri Try.prog 44 args H v H'/\K v H'=some r:=fj (x44S R k) (x44J (AEm k) k) Try.func44 (by kernel_rfl) (A:=JS Try.prog 23 (AXI (AEm (R:=R) k) k) APV.ls APV.out (sel [1,0] (bd Try.f44))/\True) ⟨AeU R k,trivial⟩ (by kernel_rfl) (λ _ _=> .trans (x44e _ _ _) (by kernel_rfl))
end
abbrev AMT (R:Type):Type:=(Int->Int->Oa->Option R)->(Oa->Int->Option R)->Option R
abbrev AH3 (R:Type):Type:=Int->Int->Oa->AMT R
abbrev AKF (R:Type):Type:=Int->Int->Oa->Heap->Option R
abbrev AKG (R T:Type):Type:=(Oa->Int->Heap->Option R)->T
abbrev AH4 (R:Type):Type:=AKG R (Nat->AKF R)
abbrev ANc (R:Type):Type:=Heap->(Oa->Int->Heap->Option R)->Option R
abbrev AKh (R:Type):Type:=Int->Int->ANc R
section
variable {R:Type} (f0:AIc R) (z0:AH4 R) (z1:AH3 R)
def AGW (k:Nat):AH3 R:=λ n1 n2 p3 KN KR=>
bif (n1==1) then (bif (n2==1) then (KR p3 0)
 else (KN n1 n2 p3))
 else (KN n1 n2 p3)
def ADK (k:Nat):AH3 R:=AGW k
def AGX (k:Nat):AKG R (AKF R->AKF R):=λ KR rec n1 n2 p3 H=>
hnil p3 λ p4=>
hfad 0 p4 λ p5=>
ldL H p5 λ q6 l7 c8=>
hmk [.int .i64 0,.int .i64 0,.bool false] 24 H (IntKind.wrap .i64 (n1 * n2)) (IntKind.wrap .i64 (n1 * n2)) λ q9 l10 c11 H12=>
hal H12 [.int .i64 n1,.int .i64 n2,.slice q9 l10 c11] λ p13 H14=>
happS 3 40 H14 q6 l7 c8 p13 1 λ q15 l16 c17 H18=>
hnil p3 λ p19=>
hfad 0 p19 λ p20=>
hst1 H18 p20 (.slice q15 l16 c17) λ H21=>
z1 n1 n2 p3 (λ n27 n28 p29=>
rec (IntKind.wrap .i64 (Int.tdiv (IntKind.wrap .i64 (n27+1)) 2)) (IntKind.wrap .i64 (Int.tdiv (IntKind.wrap .i64 (n28+1)) 2)) p29 H21) (λ p30 n31=>
KR p30 n31 H21)
def ACP (k:Nat):AH4 R
 |KR,0=> λ _ _ _ _=> none
 |KR,n+1=> AGX (ADK k) k KR (ACP k KR n)
def AKi (k:Nat):AKh R:=λ n1 n2 H K=>
f0 n1 n2 λ n3=>
bif (n3 !=0) then (K none n3 H)
 else (hal H [.slice none 0 0,.bool false,.bool false] λ p4 H5=>
z0 (λ p8 n9 H10=>
K p8 n9 H10) k n1 n2 p4 H5)
def AG6 (k:Nat):AKh R:=AKi (AIe k) (ACP k) k
def x28C:Tab R:=tcons 44 (x44a f0) <|λ _ _ _ _=> none
def APq:PS:=⟨(.seq (.reg [0,1,7,37] []) (.cond (.seq (.reg [4,5] []) .leaf) .leaf)),[0,1,7],[.n,.n,.p],⟨[0,1,7],[],[4,5]⟩⟩
def AaM (g:AMT R) (H:Heap) (K:XK R):Option R:=g (kN .normal [0,1,7] [.n,.n,.p] K H) (kN .ret [4,5] [.p,.n] K H)
def AXf (f:AH3 R):Nat->List Value->Heap->XK R->Option R:=jp APq AaM f
def APr:PS:=⟨(.node (.seq (.reg [0,1,7] (ms [0,0,2,6,14,0,0,0,0,384,896,2016,4064,8190,16383,32767,65535])) (.seq (.opq 1 APq.ls APq.out APq.t) (.reg [0,1,7] [])))),[0,1,7],[.n,.n,.p],⟨[],[],[4,5]⟩⟩
def AXe {T:Type} (g:AKG R T) (H:Heap) (K:XK R):T:=g (kH .ret [4,5] [.p,.n] K)
def AUg (f:AH4 R):Nat->List Value->Heap->XK R->Option R:=jl APr (L:=AH4 R) AXe pH f
def x28J (k:Nat):JTab R:=tcons 0 (AUg z0 k) <|tcons 1 (AXf z1 k) <|λ _ _ _ _=> none
def x28t:AT:=(.seq (.reg [0,1] []) (.seq (.seq (.reg [0,1,6] []) (.seq (.reg [0,1,6,12] []) (.cond (.seq (.reg [4,5] []) .leaf) .leaf))) (.seq (.reg [0,1,7] []) (.node (.opq 0 APr.ls APr.out (.node APr.t))))))
def x28c (g:ANc R) (H:Heap) (K:Value->Heap->Option R):Option R:=g H (rH [.p,.n] K)
def x28a (f:AKh R):List Value->Heap->(Value->Heap->Option R)->Option R:=jf 2 [.n,.n] x28c f
variable {f0 z0 z1}
theorem AfL (k:Nat) (H:Heap) (K:XK R):jE Try.prog An 45 (x28C f0) (x28J z0 z1 k) APq (sel [1,1,1,0,0,0,1,0] (bd Try.f28)) H K=mapT (λ g=> AaM g H K) APq.ts (AGW k):=by kernel_rfl
theorem AfM (k n:Nat) (H:Heap) (K:XK R):lE Try.prog An 45 (x28C f0) (x28J z0 z1 k) APr (sel [1,1,1,0,0] (bd Try.f28)) (AUg z0) n H K=mapT (λ g=> pH g H) APr.ts (AXe (AGX z1 k) H K (AXe z0 H K n)):=by kernel_rfl
theorem x28e (k:Nat) (H:Heap) (K:Value->Heap->Option R):fE Try.prog An (x28C f0) (x28J z0 z1 k) x28t Try.f28 [.n,.n] H K=mapT (λ g=> x28c g H K) [.n,.n] (AKi f0 z0 k):=by kernel_rfl
theorem x28S (R:Type) (k:Nat):CSound Try.prog (x28C (R:=R) (AIe k)):=AAB (AeW R k) <|AAE
theorem AfJ (R:Type) (k:Nat):JS Try.prog 45 (AXf (ADK (R:=R) k) k) APq.ls APq.out (sel [1,1,1,0,0,0,1,0] (bd Try.f28)):=pj (x28S R k) (x28J (ACP k) (ADK k) k) (by kernel_rfl) (A:=True) trivial (by kernel_rfl) (λ _ _=> .trans (AfL _ _ _) (by kernel_rfl))
theorem AfK (R:Type) (k:Nat):JS Try.prog 45 (AUg (ACP (R:=R) k) k) APr.ls APr.out (.loop (sel [1,1,1,0,0] (bd Try.f28))):=lj (x28S R k) (x28J (ACP k) (ADK k) k) (by kernel_rfl) (A:=JS Try.prog 45 (AXf (ADK (R:=R) k) k) APq.ls APq.out (sel [1,1,1,0,0,0,1,0] (bd Try.f28))/\True) ⟨AfJ R k,trivial⟩ (by kernel_rfl) (λ _ _=> by kernel_rfl) (λ _ _ _=> .trans (AfM _ _ _ _) (by kernel_rfl)) k
theorem AfN (R:Type) (k:Nat):∀args H K r,x28a (AG6 k) args H K=some (r:R)->∃v H',Tri Try.prog 28 args H v H'/\K v H'=some r:=fj (x28S R k) (x28J (ACP k) (ADK k) k) Try.func28 (by kernel_rfl) (A:=JS Try.prog 45 (AUg (ACP (R:=R) k) k) APr.ls APr.out (.loop (sel [1,1,1,0,0] (bd Try.f28)))/\True) ⟨AfK R k,trivial⟩ (by kernel_rfl) (λ _ _=> .trans (x28e _ _ _) (by kernel_rfl))
end
abbrev AMY (R:Type):Type:=(Oa->Nat->Nat->Oa->Nat->Nat->Oa->Option R)->(Oa->Int->Option R)->Option R
abbrev AIA (R:Type):Type:=Oa->Nat->Nat->Oa->Nat->Nat->Oa->AMY R
abbrev AMX (R:Type):Type:=Heap->(Oa->Nat->Nat->Oa->Nat->Nat->Oa->Int->Int->Oa->Bool->Oa->Nat->Nat->Int->Int->Option R)->Option R
abbrev AH9 (R:Type):Type:=Oa->Nat->Nat->Oa->Nat->Nat->Oa->Int->Int->Oa->Oa->Nat->Nat->Int->Int->AMX R
abbrev AMW (R:Type):Type:=Heap->(Oa->Nat->Nat->Oa->Nat->Nat->Oa->Int->Int->Oa->Bool->Bool->Oa->Nat->Nat->Int->Int->Option R)->Option R
abbrev AH8 (R:Type):Type:=Oa->Nat->Nat->Oa->Nat->Nat->Oa->Int->Int->Oa->Bool->Oa->Nat->Nat->Int->Int->AMW R
abbrev AMV (R:Type):Type:=Heap->(Oa->Nat->Nat->Oa->Nat->Nat->Oa->Int->Oa->Oa->Nat->Nat->Int->Int->Option R)->(Oa->Int->Option R)->Option R
abbrev AH7 (R:Type):Type:=Oa->Nat->Nat->Oa->Nat->Nat->Oa->Int->Int->Oa->Bool->Bool->Oa->Nat->Nat->Int->Int->AMV R
abbrev AKP (R:Type):Type:=Oa->Nat->Nat->Oa->Nat->Nat->Oa->Int->Oa->Nat->Nat->Int->Int->Heap->Option R
abbrev AKQ (R T:Type):Type:=(Oa->Nat->Nat->Oa->Nat->Nat->Oa->Int->Heap->Option R)->(Oa->Int->Heap->Option R)->T
abbrev AIF (R:Type):Type:=AKQ R (Nat->AKP R)
abbrev AMU (R:Type):Type:=Heap->(Oa->Nat->Nat->Oa->Int->Oa->Oa->Oa->Nat->Nat->Int->Int->Heap->Option R)->Option R
abbrev AH5 (R:Type):Type:=Oa->Nat->Nat->Oa->Int->Oa->Oa->Oa->Nat->Nat->Int->Int->AMU R
abbrev AKL (R:Type):Type:=Oa->Nat->Nat->Oa->Int->Oa->Oa->Nat->Nat->Int->Int->Int->Int->Heap->Option R
abbrev AKM (R T:Type):Type:=(Oa->Nat->Nat->Oa->Oa->Nat->Nat->Int->Int->Heap->Option R)->T
abbrev AIB (R:Type):Type:=AKM R (Nat->AKL R)
abbrev AKN (R:Type):Type:=Oa->Nat->Nat->Oa->Oa->Nat->Nat->Int->Int->Heap->Option R
abbrev AKO (R T:Type):Type:=(Oa->Heap->Option R)->T
abbrev AID (R:Type):Type:=AKO R (Nat->AKN R)
abbrev ANf (R:Type):Type:=Heap->(Oa->Int->Heap->Option R)->Option R
abbrev AKk (R:Type):Type:=Oa->Nat->Nat->Oa->Nat->Nat->Bool->Bool->Bool->Bool->Bool->ANf R
section
variable {R:Type} (f0:AKh R) (z0:AIA R) (z1:AIF R) (z2:AH9 R) (z3:AH8 R) (z4:AH7 R) (z5:AID R) (z6:AH5 R) (z7:AIB R)
def AGZ (k:Nat):AIA R:=λ q1 l2 c3 q4 l5 c6 p7 KN KR=>
bif (((l2:Nat):Int) !=((l5:Nat):Int)) then (KR none 4)
 else (bif decide (((l2:Nat):Int) > 3) then (KR none 4)
 else (KN q1 l2 c3 q4 l5 c6 p7))
def ABH (k:Nat):AIA R:=AGZ k
def AKK (k:Nat):AH9 R:=λ q1 l2 c3 q4 l5 c6 p7 n8 n9 p10 q11 l12 c13 n14 n15 H KN=>
hfad 0 p10 λ p16=>
ldI .i64 H p16 λ n17=>
bif (n17==0) then (hfad 1 p10 λ p18=>
ldI .i64 H p18 λ n19=>
KN q1 l2 c3 q4 l5 c6 p7 n8 n9 p10 (n19==0) q11 l12 c13 n14 n15)
 else (KN q1 l2 c3 q4 l5 c6 p7 n8 n9 p10 false q11 l12 c13 n14 n15)
def ABa (k:Nat):AH9 R:=AKK k
def AKJ (k:Nat):AH8 R:=λ q1 l2 c3 q4 l5 c6 p7 n8 n9 p10 t11 q12 l13 c14 n15 n16 H KN=>
hfad 0 p10 λ p17=>
ldI .i64 H p17 λ n18=>
bif decide (n18≥1) then (hfad 0 p10 λ p19=>
ldI .i64 H p19 λ n20=>
bif decide (n20<=4096) then (hfad 1 p10 λ p21=>
ldI .i64 H p21 λ n22=>
bif decide (n22≥1) then (hfad 1 p10 λ p23=>
ldI .i64 H p23 λ n24=>
KN q1 l2 c3 q4 l5 c6 p7 n8 n9 p10 t11 (decide (n24<=4096)) q12 l13 c14 n15 n16)
 else (KN q1 l2 c3 q4 l5 c6 p7 n8 n9 p10 t11 false q12 l13 c14 n15 n16))
 else (KN q1 l2 c3 q4 l5 c6 p7 n8 n9 p10 t11 false q12 l13 c14 n15 n16))
 else (KN q1 l2 c3 q4 l5 c6 p7 n8 n9 p10 t11 false q12 l13 c14 n15 n16)
def ABZ (k:Nat):AH8 R:=AKJ k
def AKI (k:Nat):AH7 R:=λ q1 l2 c3 q4 l5 c6 p7 n8 n9 p10 t11 t12 q13 l14 c15 n16 n17 H KN KR=>
bif (!t11) then (bif (!t12) then (KR none 2)
 else (hidx q4 l5 n9 1 λ p18=>
ldI .i64 H p18 λ n19=>
bif decide (n19 < 0) then (KR none 2)
 else (hidx q4 l5 n9 1 λ p20=>
ldI .i64 H p20 λ n21=>
bif decide (n21 > 60) then (KR none 2)
 else (KN q1 l2 c3 q4 l5 c6 p7 n8 p10 q13 l14 c15 n16 n17))))
 else (hidx q4 l5 n9 1 λ p22=>
ldI .i64 H p22 λ n23=>
bif decide (n23 < 0) then (KR none 2)
 else (hidx q4 l5 n9 1 λ p24=>
ldI .i64 H p24 λ n25=>
bif decide (n25 > 60) then (KR none 2)
 else (KN q1 l2 c3 q4 l5 c6 p7 n8 p10 q13 l14 c15 n16 n17)))
def ABY (k:Nat):AH7 R:=AKI k
def AIG (k:Nat):AKQ R (AKP R->AKP R):=λ KE0 KR rec q1 l2 c3 q4 l5 c6 p7 n8 q9 l10 c11 n12 n13 H=>
bif decide (n13 < n12) then (hidx q9 l10 n13 2 λ p14=>
ldI .i64 H (pad p14 0) λ n15=>
ldI .i64 H (pad p14 1) λ n16=>
hal H [.int .i64 0,.int .i64 0] λ p17 H18=>
hst H18 p17 [.int .i64 n15,.int .i64 n16] λ H19=>
z2 q1 l2 c3 q4 l5 c6 p7 n8 n13 p17 q9 l10 c11 n12 n13 H19 (λ q36 l37 c38 q39 l40 c41 p42 n43 n44 p45 t46 q47 l48 c49 n50 n51=>
z3 q36 l37 c38 q39 l40 c41 p42 n43 n44 p45 t46 q47 l48 c49 n50 n51 H19 (λ q69 l70 c71 q72 l73 c74 p75 n76 n77 p78 t79 t80 q81 l82 c83 n84 n85=>
z4 q69 l70 c71 q72 l73 c74 p75 n76 n77 p78 t79 t80 q81 l82 c83 n84 n85 H19 (λ q102 l103 c104 q105 l106 c107 p108 n109 p110 q111 l112 c113 n114 n115=>
hfad 0 p110 λ p116=>
ldI .i64 H19 p116 λ n117=>
hfad 1 p110 λ p118=>
ldI .i64 H19 p118 λ n119=>
rec q102 l103 c104 q105 l106 c107 p108 (IntKind.wrap .i64 (n109+(IntKind.wrap .i64 (n117 * n119)))) q111 l112 c113 n114 (IntKind.wrap .i64 (n115+1)) H19) (λ p120 n121=>
KR p120 n121 H19))))
 else (KE0 q1 l2 c3 q4 l5 c6 p7 n8 H)
def AAs (k:Nat):AIF R
 |KE0,KR,0=> λ _ _ _ _ _ _ _ _ _ _ _ _ _ _=> none
 |KE0,KR,n+1=> AIG (ABa k) (ABZ k) (ABY k) k KE0 KR (AAs k KE0 KR n)
def AH6 (k:Nat):AH5 R:=λ q1 l2 c3 p4 n5 p6 p7 q8 l9 c10 n11 n12 H KN=>
hfad 0 p6 λ p13=>
ldI .i64 H p13 λ n14=>
bif decide (n14 > 0) then (hfad 0 p6 λ p15=>
ldI .i64 H p15 λ n16=>
hfad 1 p6 λ p17=>
ldI .i64 H p17 λ n18=>
f0 n16 n18 H λ p19 n20 H21=>
hfad 1 p7 λ p22=>
hst1 H21 p22 (.pointer p19) λ H23=>
hfad 0 p6 λ p24=>
ldI .i64 H23 p24 λ n25=>
hfad 1 p6 λ p26=>
ldI .i64 H23 p26 λ n27=>
f0 n25 n27 H23 λ p28 n29 H30=>
hfad 2 p7 λ p31=>
hst1 H30 p31 (.pointer p28) λ H32=>
KN q1 l2 c3 p4 n5 p6 p7 q8 l9 c10 n11 n12 H32)
 else (KN q1 l2 c3 p4 n5 p6 p7 q8 l9 c10 n11 n12 H)
def ABG (k:Nat):AH5 R:=AH6 (AG6 k) k
def AIC (k:Nat):AKM R (AKL R->AKL R):=λ KE4 rec q1 l2 c3 p4 n5 p6 q7 l8 c9 n10 n11 n12 n13 H=>
bif decide (n13 < n12) then (hnil p4 λ p14=>
hfad 9 p14 λ p15=>
ldL H p15 λ q16 l17 c18=>
hfad 0 p6 λ p19=>
ldI .i64 H p19 λ n20=>
hbin .rem .i64 n13 n20 λ n21=>
hfad 0 p6 λ p22=>
ldI .i64 H p22 λ n23=>
hbin .quo .i64 n13 n23 λ n24=>
hal H [.int .i64 n5,.int .i64 n21,.int .i64 n24,.bool false,.int .i64 0,.int .i64 0,.int .i64 0,.int .i64 3,.int .i64 0,.int .i64 0] λ p25 H26=>
happS 10 80 H26 q16 l17 c18 p25 1 λ q27 l28 c29 H30=>
hnil p4 λ p31=>
hfad 9 p31 λ p32=>
hst1 H30 p32 (.slice q27 l28 c29) λ H33=>
rec q1 l2 c3 p4 n5 p6 q7 l8 c9 n10 n11 n12 (IntKind.wrap .i64 (n13+1)) H33)
 else (KE4 q1 l2 c3 p4 q7 l8 c9 n10 n11 H)
def AA5 (k:Nat):AIB R
 |KE4,0=> λ _ _ _ _ _ _ _ _ _ _ _ _ _ _=> none
 |KE4,n+1=> AIC k KE4 (AA5 k KE4 n)
def AIE (k:Nat):AKO R (AKN R->AKN R):=λ KE2 rec q1 l2 c3 p4 q5 l6 c7 n8 n9 H=>
bif decide (n9 < n8) then (hidx q5 l6 n9 2 λ p10=>
ldI .i64 H (pad p10 0) λ n11=>
ldI .i64 H (pad p10 1) λ n12=>
hal H [.int .i64 0,.int .i64 0] λ p13 H14=>
hst H14 p13 [.int .i64 n11,.int .i64 n12] λ H15=>
hidx q1 l2 n9 1 λ p16=>
ldI .i64 H15 p16 λ n17=>
hal H15 [.int .i64 0,.pointer none,.pointer none] λ p18 H19=>
hst H19 p18 [.int .i64 n17,.pointer none,.pointer none] λ H20=>
z6 q1 l2 c3 p4 n9 p13 p18 q5 l6 c7 n8 n9 H20 (λ q33 l34 c35 p36 n37 p38 p39 q40 l41 c42 n43 n44 H45=>
hnil p36 λ p46=>
hfad 8 p46 λ p47=>
ldL H45 p47 λ q48 l49 c50=>
ldI .i64 H45 (pad p39 0) λ n51=>
ldP H45 (pad p39 1) λ p52=>
ldP H45 (pad p39 2) λ p53=>
hal H45 [.int .i64 n51,.pointer p52,.pointer p53] λ p54 H55=>
happS 3 24 H55 q48 l49 c50 p54 1 λ q56 l57 c58 H59=>
hnil p36 λ p60=>
hfad 8 p60 λ p61=>
hst1 H59 p61 (.slice q56 l57 c58) λ H62=>
hfad 0 p38 λ p63=>
ldI .i64 H62 p63 λ n64=>
hfad 1 p38 λ p65=>
ldI .i64 H62 p65 λ n66=>
z7 (λ q76 l77 c78 p79 q80 l81 c82 n83 n84 H85=>
rec q76 l77 c78 p79 q80 l81 c82 n83 (IntKind.wrap .i64 (n84+1)) H85) k q33 l34 c35 p36 n37 p38 q40 l41 c42 n43 n44 (IntKind.wrap .i64 (n64 * n66)) 0 H62))
 else (KE2 p4 H)
def AAu (k:Nat):AID R
 |KE2,0=> λ _ _ _ _ _ _ _ _ _ _=> none
 |KE2,n+1=> AIE (ABG k) (AA5 k) k KE2 (AAu k KE2 n)
def AIq (k:Nat):AKk R:=λ q1 l2 c3 q4 l5 c6 t7 t8 t9 t10 t11 H K=>
hal H [.bool t7,.bool t8,.bool t9,.bool t10,.bool t11] λ p12 H13=>
z0 q1 l2 c3 q4 l5 c6 p12 (λ q23 l24 c25 q26 l27 c28 p29=>
z1 (λ q40 l41 c42 q43 l44 c45 p46 n47 H48=>
bif decide (n47 > 65536) then (K none 5 H48)
 else (ldB H48 (pad p46 0) λ t49=>
ldB H48 (pad p46 1) λ t50=>
ldB H48 (pad p46 2) λ t51=>
ldB H48 (pad p46 3) λ t52=>
ldB H48 (pad p46 4) λ t53=>
hal H48 [.bool true,.bool false,.bool false,.bool t49,.bool t50,.bool t51,.bool t52,.bool t53,.slice none 0 0,.slice none 0 0,.int .i64 0] λ p54 H55=>
z5 (λ p57 H58=>
K p57 0 H58) k q43 l44 c45 p54 q40 l41 c42 ((l41:Nat):Int) 0 H55)) (λ p59 n60 H61=>
K p59 n60 H61) k q23 l24 c25 q26 l27 c28 p29 0 q23 l24 c25 ((l24:Nat):Int) 0 H13) (λ p62 n63=>
K p62 n63 H13)
def AGC (k:Nat):AKk R:=AIq (ABH k) (AAs k) (AAu k) k
def x10C:Tab R:=tcons 28 (x28a f0) <|λ _ _ _ _=> none
def AQG:PS:=⟨(.seq (.reg [1,13,14,15,94,95,96,141,142,143] []) (.seq (.cond .leaf .leaf) (.seq (.node (.seq (.reg [1,13,14,15,17,94,95,96,141,142] []) (.reg [1,13,14,15,94,95,96,141,142] (ms [0,0,2,6,14,0,0,0,128,448,0,0,2048,7168,16352,32736,65534,131071,262143,524287])))) (.reg [1,13,14,15,94,95,96,141,142] [])))),[1,13,14,15,94,95,96,141,142],[.l,.p,.n,.p,.l,.n,.n,.n,.n],⟨[],[(4,[1,13,94,95,96])],[]⟩⟩
def AX4 {T:Type} (g:AKM R T) (H:Heap) (K:XK R):T:=g (kH (.exit 4) [1,13,94,95,96] [.l,.p,.l,.n,.n] K)
def AUs (f:AIB R):Nat->List Value->Heap->XK R->Option R:=jl AQG (L:=AIB R) AX4 pH f
def AQH:PS:=⟨(.seq (.reg [1,13,14,15,16,94,95,96,108] []) (.cond (.seq (.reg [1,13,14,15,16,94,95,96] []) (.reg [1,13,14,15,16,94,95,96] [])) .leaf)),[1,13,14,15,16,94,95,96],[.l,.p,.n,.p,.p,.l,.n,.n],⟨[1,13,14,15,16,94,95,96],[],[]⟩⟩
def Aab (g:AMU R) (H:Heap) (K:XK R):Option R:=g H (kH .normal [1,13,14,15,16,94,95,96] [.l,.p,.n,.p,.p,.l,.n,.n] K)
def AX7 (f:AH5 R):Nat->List Value->Heap->XK R->Option R:=jp AQH Aab f
def AQI:PS:=⟨(.seq (.reg [1,13,94,95,96,97] []) (.seq (.cond .leaf .leaf) (.seq (.node (.seq (.reg [1,13,14,15,94,95,96] []) (.seq (.reg [1,13,14,15,16,94,95,96] []) (.seq (.opq 6 AQH.ls AQH.out AQH.t) (.seq (.reg [1,13,14,15,94,95,96] (ms [0,0,2,6,14,0,32,126,255,511,1023])) (.seq (.reg [1,13,14,15,94,95,96,141,142] []) (.node (.opq 7 AQG.ls AQG.out (.node AQG.t))))))))) (.reg [1,13,94,95,96] [])))),[1,13,94,95,96],[.l,.p,.l,.n,.n],⟨[],[(2,[13])],[]⟩⟩
def AX5 {T:Type} (g:AKO R T) (H:Heap) (K:XK R):T:=g (kH (.exit 2) [13] [.p] K)
def AUt (f:AID R):Nat->List Value->Heap->XK R->Option R:=jl AQI (L:=AID R) AX5 pH f
def AQJ:PS:=⟨(.seq (.reg [0,1,5,8,10,28,29,30,80] []) (.cond (.seq (.reg [6,7] []) .leaf) .leaf)),[0,1,5,8,9,10,11,12,28,29,30],[.l,.l,.p,.n,.n,.p,.b,.b,.l,.n,.n],⟨[0,1,5,8,10,28,29,30],[],[6,7]⟩⟩
def Aac (g:AMV R) (H:Heap) (K:XK R):Option R:=g H (kN .normal [0,1,5,8,10,28,29,30] [.l,.l,.p,.n,.p,.l,.n,.n] K H) (kN .ret [6,7] [.p,.n] K H)
def AX8 (f:AH7 R):Nat->List Value->Heap->XK R->Option R:=jp AQJ Aac f
def AQK:PS:=⟨(.reg [0,1,5,8,9,10,11,12,28,29,30] []),[0,1,5,8,9,10,11,28,29,30],[.l,.l,.p,.n,.n,.p,.b,.l,.n,.n],⟨[0,1,5,8,9,10,11,12,28,29,30],[],[]⟩⟩
def Aad (g:AMW R) (H:Heap) (K:XK R):Option R:=g H (kN .normal [0,1,5,8,9,10,11,12,28,29,30] [.l,.l,.p,.n,.n,.p,.b,.b,.l,.n,.n] K H)
def AX9 (f:AH8 R):Nat->List Value->Heap->XK R->Option R:=jp AQK Aad f
def AQL:PS:=⟨(.reg [0,1,5,8,9,10,11,28,29,30] []),[0,1,5,8,9,10,28,29,30],[.l,.l,.p,.n,.n,.p,.l,.n,.n],⟨[0,1,5,8,9,10,11,28,29,30],[],[]⟩⟩
def Aae (g:AMX R) (H:Heap) (K:XK R):Option R:=g H (kN .normal [0,1,5,8,9,10,11,28,29,30] [.l,.l,.p,.n,.n,.p,.b,.l,.n,.n] K H)
def AYA (f:AH9 R):Nat->List Value->Heap->XK R->Option R:=jp AQL Aae f
def AQM:PS:=⟨(.seq (.reg [0,1,5,8,28,29,30,31] []) (.seq (.cond .leaf .leaf) (.seq (.node (.seq (.reg [0,1,5,8,9,10,28,29,30] []) (.seq (.opq 2 AQL.ls AQL.out AQL.t) (.seq (.opq 3 AQK.ls AQK.out AQK.t) (.seq (.opq 4 AQJ.ls AQJ.out AQJ.t) (.reg [0,1,5,8,28,29,30] [])))))) (.reg [0,1,5,8,28,29,30] [])))),[0,1,5,8,28,29,30],[.l,.l,.p,.n,.l,.n,.n],⟨[],[(0,[0,1,5,8])],[6,7]⟩⟩
def AX6 {T:Type} (g:AKQ R T) (H:Heap) (K:XK R):T:=g (kH (.exit 0) [0,1,5,8] [.l,.l,.p,.n] K) (kH .ret [6,7] [.p,.n] K)
def AUu (f:AIF R):Nat->List Value->Heap->XK R->Option R:=jl AQM (L:=AIF R) AX6 pH f
def AQN:PS:=⟨(.seq (.reg [0,1,5,27] []) (.cond (.seq (.reg [6,7] []) .leaf) .leaf)),[0,1,5],[.l,.l,.p],⟨[0,1,5],[],[6,7]⟩⟩
def Aaf (g:AMY R) (H:Heap) (K:XK R):Option R:=g (kN .normal [0,1,5] [.l,.l,.p] K H) (kN .ret [6,7] [.p,.n] K H)
def AYB (f:AIA R):Nat->List Value->Heap->XK R->Option R:=jp AQN Aaf f
def x10J (k:Nat):JTab R:=tcons 0 (AYB z0 k) <|tcons 1 (AUu z1 k) <|tcons 2 (AYA z2 k) <|tcons 3 (AX9 z3 k) <|tcons 4 (AX8 z4 k) <|tcons 5 (AUt z5 k) <|tcons 6 (AX7 z6 k) <|tcons 7 (AUs z7 k) <|λ _ _ _ _=> none
def x10t:AT:=(.seq (.reg [0,1,5] []) (.seq (.opq 0 AQN.ls AQN.out AQN.t) (.seq (.reg [0,1,5,8] []) (.seq (.seq (.reg [0,1,5,8,28,29,30] []) (.node (.opq 1 AQM.ls AQM.out (.node AQM.t)))) (.seq (.seq (.reg [0,1,5,90] []) (.cond (.seq (.reg [6,7] []) .leaf) .leaf)) (.seq (.reg [0,1,13] []) (.seq (.seq (.reg [1,13,94,95,96] []) (.node (.opq 5 AQI.ls AQI.out (.node AQI.t)))) (.seq (.reg [6,7] []) .leaf))))))))
def x10c (g:ANf R) (H:Heap) (K:Value->Heap->Option R):Option R:=g H (rH [.p,.n] K)
def x10a (f:AKk R):List Value->Heap->(Value->Heap->Option R)->Option R:=jf 3 [.l,.l,(.a 5),.b,.b,.b,.b,.b] x10c f
variable {f0 z0 z1 z2 z3 z4 z5 z6 z7}
theorem AgQ (k n:Nat) (H:Heap) (K:XK R):lE Try.prog An 167 (x10C f0) (x10J z0 z1 z2 z3 z4 z5 z6 z7 k) AQG (sel [1,1,1,1,1,1,0,1,0,0,1,1,0,0,1,1,1,1,1,0,0] (bd Try.f10)) (AUs z7) n H K=mapT (λ g=> pH g H) AQG.ts (AX4 (AIC k) H K (AX4 z7 H K n)):=by kernel_rfl
theorem AgR (k:Nat) (H:Heap) (K:XK R):jE Try.prog An 167 (x10C f0) (x10J z0 z1 z2 z3 z4 z5 z6 z7 k) AQH (sel [1,1,1,1,1,1,0,1,0,0,1,1,0,0,1,1,0] (bd Try.f10)) H K=mapT (λ g=> Aab g H K) AQH.ts (AH6 f0 k):=by kernel_rfl
theorem AgS (k n:Nat) (H:Heap) (K:XK R):lE Try.prog An 167 (x10C f0) (x10J z0 z1 z2 z3 z4 z5 z6 z7 k) AQI (sel [1,1,1,1,1,1,0,1,0,0] (bd Try.f10)) (AUt z5) n H K=mapT (λ g=> pH g H) AQI.ts (AX5 (AIE z6 z7 k) H K (AX5 z5 H K n)):=by kernel_rfl
theorem AgT (k:Nat) (H:Heap) (K:XK R):jE Try.prog An 167 (x10C f0) (x10J z0 z1 z2 z3 z4 z5 z6 z7 k) AQJ (sel [1,1,1,0,1,0,0,1,1,0,0,1,1,1,0] (bd Try.f10)) H K=mapT (λ g=> Aac g H K) AQJ.ts (AKI k):=by kernel_rfl
theorem AgU (k:Nat) (H:Heap) (K:XK R):jE Try.prog An 167 (x10C f0) (x10J z0 z1 z2 z3 z4 z5 z6 z7 k) AQK (sel [1,1,1,0,1,0,0,1,1,0,0,1,1,0] (bd Try.f10)) H K=mapT (λ g=> Aad g H K) AQK.ts (AKJ k):=by kernel_rfl
theorem AgV (k:Nat) (H:Heap) (K:XK R):jE Try.prog An 167 (x10C f0) (x10J z0 z1 z2 z3 z4 z5 z6 z7 k) AQL (sel [1,1,1,0,1,0,0,1,1,0,0,1,0] (bd Try.f10)) H K=mapT (λ g=> Aae g H K) AQL.ts (AKK k):=by kernel_rfl
theorem AgW (k n:Nat) (H:Heap) (K:XK R):lE Try.prog An 167 (x10C f0) (x10J z0 z1 z2 z3 z4 z5 z6 z7 k) AQM (sel [1,1,1,0,1,0,0] (bd Try.f10)) (AUu z1) n H K=mapT (λ g=> pH g H) AQM.ts (AX6 (AIG z2 z3 z4 k) H K (AX6 z1 H K n)):=by kernel_rfl
theorem AgX (k:Nat) (H:Heap) (K:XK R):jE Try.prog An 167 (x10C f0) (x10J z0 z1 z2 z3 z4 z5 z6 z7 k) AQN (sel [1,0] (bd Try.f10)) H K=mapT (λ g=> Aaf g H K) AQN.ts (AGZ k):=by kernel_rfl
theorem x10e (k:Nat) (H:Heap) (K:Value->Heap->Option R):fE Try.prog An (x10C f0) (x10J z0 z1 z2 z3 z4 z5 z6 z7 k) x10t Try.f10 [.l,.l,(.a 5),.b,.b,.b,.b,.b] H K=mapT (λ g=> x10c g H K) [.l,.l,(.a 5),.b,.b,.b,.b,.b] (AIq z0 z1 z5 k):=by kernel_rfl
theorem x10S (R:Type) (k:Nat):CSound Try.prog (x10C (R:=R) (AG6 k)):=AAB (AfN R k) <|AAE
theorem AgI (R:Type) (k:Nat):JS Try.prog 167 (AUs (AA5 (R:=R) k) k) AQG.ls AQG.out (.loop (sel [1,1,1,1,1,1,0,1,0,0,1,1,0,0,1,1,1,1,1,0,0] (bd Try.f10))):=lj (x10S R k) (x10J (ABH k) (AAs k) (ABa k) (ABZ k) (ABY k) (AAu k) (ABG k) (AA5 k) k) (by kernel_rfl) (A:=True) trivial (by kernel_rfl) (λ _ _=> by kernel_rfl) (λ _ _ _=> .trans (AgQ _ _ _ _) (by kernel_rfl)) k
theorem AgJ (R:Type) (k:Nat):JS Try.prog 167 (AX7 (ABG (R:=R) k) k) AQH.ls AQH.out (sel [1,1,1,1,1,1,0,1,0,0,1,1,0,0,1,1,0] (bd Try.f10)):=pj (x10S R k) (x10J (ABH k) (AAs k) (ABa k) (ABZ k) (ABY k) (AAu k) (ABG k) (AA5 k) k) (by kernel_rfl) (A:=True) trivial (by kernel_rfl) (λ _ _=> .trans (AgR _ _ _) (by kernel_rfl))
theorem AgK (R:Type) (k:Nat):JS Try.prog 167 (AUt (AAu (R:=R) k) k) AQI.ls AQI.out (.loop (sel [1,1,1,1,1,1,0,1,0,0] (bd Try.f10))):=lj (x10S R k) (x10J (ABH k) (AAs k) (ABa k) (ABZ k) (ABY k) (AAu k) (ABG k) (AA5 k) k) (by kernel_rfl) (A:=JS Try.prog 167 (AX7 (ABG (R:=R) k) k) AQH.ls AQH.out (sel [1,1,1,1,1,1,0,1,0,0,1,1,0,0,1,1,0] (bd Try.f10))/\JS Try.prog 167 (AUs (AA5 (R:=R) k) k) AQG.ls AQG.out (.loop (sel [1,1,1,1,1,1,0,1,0,0,1,1,0,0,1,1,1,1,1,0,0] (bd Try.f10)))/\True) ⟨AgJ R k,⟨AgI R k,trivial⟩⟩ (by kernel_rfl) (λ _ _=> by kernel_rfl) (λ _ _ _=> .trans (AgS _ _ _ _) (by kernel_rfl)) k
theorem AgL (R:Type) (k:Nat):JS Try.prog 167 (AX8 (ABY (R:=R) k) k) AQJ.ls AQJ.out (sel [1,1,1,0,1,0,0,1,1,0,0,1,1,1,0] (bd Try.f10)):=pj (x10S R k) (x10J (ABH k) (AAs k) (ABa k) (ABZ k) (ABY k) (AAu k) (ABG k) (AA5 k) k) (by kernel_rfl) (A:=True) trivial (by kernel_rfl) (λ _ _=> .trans (AgT _ _ _) (by kernel_rfl))
theorem AgM (R:Type) (k:Nat):JS Try.prog 167 (AX9 (ABZ (R:=R) k) k) AQK.ls AQK.out (sel [1,1,1,0,1,0,0,1,1,0,0,1,1,0] (bd Try.f10)):=pj (x10S R k) (x10J (ABH k) (AAs k) (ABa k) (ABZ k) (ABY k) (AAu k) (ABG k) (AA5 k) k) (by kernel_rfl) (A:=True) trivial (by kernel_rfl) (λ _ _=> .trans (AgU _ _ _) (by kernel_rfl))
theorem AgN (R:Type) (k:Nat):JS Try.prog 167 (AYA (ABa (R:=R) k) k) AQL.ls AQL.out (sel [1,1,1,0,1,0,0,1,1,0,0,1,0] (bd Try.f10)):=pj (x10S R k) (x10J (ABH k) (AAs k) (ABa k) (ABZ k) (ABY k) (AAu k) (ABG k) (AA5 k) k) (by kernel_rfl) (A:=True) trivial (by kernel_rfl) (λ _ _=> .trans (AgV _ _ _) (by kernel_rfl))
theorem AgO (R:Type) (k:Nat):JS Try.prog 167 (AUu (AAs (R:=R) k) k) AQM.ls AQM.out (.loop (sel [1,1,1,0,1,0,0] (bd Try.f10))):=lj (x10S R k) (x10J (ABH k) (AAs k) (ABa k) (ABZ k) (ABY k) (AAu k) (ABG k) (AA5 k) k) (by kernel_rfl) (A:=JS Try.prog 167 (AYA (ABa (R:=R) k) k) AQL.ls AQL.out (sel [1,1,1,0,1,0,0,1,1,0,0,1,0] (bd Try.f10))/\JS Try.prog 167 (AX9 (ABZ (R:=R) k) k) AQK.ls AQK.out (sel [1,1,1,0,1,0,0,1,1,0,0,1,1,0] (bd Try.f10))/\JS Try.prog 167 (AX8 (ABY (R:=R) k) k) AQJ.ls AQJ.out (sel [1,1,1,0,1,0,0,1,1,0,0,1,1,1,0] (bd Try.f10))/\True) ⟨AgN R k,⟨AgM R k,⟨AgL R k,trivial⟩⟩⟩ (by kernel_rfl) (λ _ _=> by kernel_rfl) (λ _ _ _=> .trans (AgW _ _ _ _) (by kernel_rfl)) k
theorem AgP (R:Type) (k:Nat):JS Try.prog 167 (AYB (ABH (R:=R) k) k) AQN.ls AQN.out (sel [1,0] (bd Try.f10)):=pj (x10S R k) (x10J (ABH k) (AAs k) (ABa k) (ABZ k) (ABY k) (AAu k) (ABG k) (AA5 k) k) (by kernel_rfl) (A:=True) trivial (by kernel_rfl) (λ _ _=> .trans (AgX _ _ _) (by kernel_rfl))
theorem AgY (R:Type) (k:Nat):∀args H K r,x10a (AGC k) args H K=some (r:R)->∃v H',Tri Try.prog 10 args H v H'/\K v H'=some r:=fj (x10S R k) (x10J (ABH k) (AAs k) (ABa k) (ABZ k) (ABY k) (AAu k) (ABG k) (AA5 k) k) Try.func10 (by kernel_rfl) (A:=JS Try.prog 167 (AYB (ABH (R:=R) k) k) AQN.ls AQN.out (sel [1,0] (bd Try.f10))/\JS Try.prog 167 (AUu (AAs (R:=R) k) k) AQM.ls AQM.out (.loop (sel [1,1,1,0,1,0,0] (bd Try.f10)))/\JS Try.prog 167 (AUt (AAu (R:=R) k) k) AQI.ls AQI.out (.loop (sel [1,1,1,1,1,1,0,1,0,0] (bd Try.f10)))/\True) ⟨AgP R k,⟨AgO R k,⟨AgK R k,trivial⟩⟩⟩ (by kernel_rfl) (λ _ _=> .trans (x10e _ _ _) (by kernel_rfl))
end
abbrev AOB (R:Type):Type:=(Int->Int->Option R)->(Oa->Int->Option R)->Option R
abbrev ALr (R:Type):Type:=Int->Int->AOB R
abbrev AOA (R:Type):Type:=(Int->Int->Option R)->(Oa->Int->Option R)->Option R
abbrev ALp (R:Type):Type:=Int->Int->AOA R
abbrev AM6 (R:Type):Type:=Int->Int->Int->Int->Int->Option R
abbrev AM7 (R T:Type):Type:=(Int->Int->Int->Option R)->T
abbrev ALt (R:Type):Type:=AM7 R (Nat->AM6 R)
abbrev ART (R:Type):Type:=Heap->(Oa->Int->Heap->Option R)->Option R
abbrev ANk (R:Type):Type:=Int->Int->ART R
section
variable {R:Type} (z0:ALr R) (z1:ALp R) (z2:ALt R)
def ALs (k:Nat):ALr R:=λ n1 n2 KN KR=>
bif decide (n1 < 1) then (KR none 2)
 else (bif decide (n2 < 1) then (KR none 2)
 else (KN n1 n2))
def AHg (k:Nat):ALr R:=ALs k
def ALq (k:Nat):ALp R:=λ n1 n2 KN KR=>
bif decide (n1 > 65536) then (KR none 5)
 else (bif decide (n2 > 65536) then (KR none 5)
 else (bif decide ((IntKind.wrap .i64 (n1 * n2)) > 65536) then (KR none 5)
 else (KN n1 n2)))
def AHf (k:Nat):ALp R:=ALq k
def AJ5 (k:Nat):AM7 R (AM6 R->AM6 R):=λ KE0 rec n1 n2 n3 n4 n5=>
bif decide ((IntKind.wrap .i64 (n4 * n5)) > 1) then (rec n1 n2 (IntKind.wrap .i64 (n3+(IntKind.wrap .i64 ((IntKind.wrap .i64 (Int.tdiv (IntKind.wrap .i64 (n4+1)) 2)) * (IntKind.wrap .i64 (Int.tdiv (IntKind.wrap .i64 (n5+1)) 2)))))) (IntKind.wrap .i64 (Int.tdiv (IntKind.wrap .i64 (n4+1)) 2)) (IntKind.wrap .i64 (Int.tdiv (IntKind.wrap .i64 (n5+1)) 2)))
 else (KE0 n1 n2 n3)
def AEp (k:Nat):ALt R
 |KE0,0=> λ _ _ _ _ _=> none
 |KE0,n+1=> AJ5 k KE0 (AEp k KE0 n)
def ANl (k:Nat):ANk R:=λ n1 n2 H K=>
z0 n1 n2 (λ n7 n8=>
z1 n7 n8 (λ n13 n14=>
z2 (λ n18 n19 n20=>
hmk [.int .i64 0,.int .i64 0,.bool false] 24 H n20 n20 λ q21 l22 c23 H24=>
hal H24 [.bool true,.int .i64 n18,.int .i64 n19,.slice q21 l22 c23,.bool false,.bool false] λ p25 H26=>
K p25 0 H26) k n13 n14 (IntKind.wrap .i64 (n13 * n14)) n13 n14) (λ p27 n28=>
K p27 n28 H)) (λ p29 n30=>
K p29 n30 H)
def AM8 (k:Nat):ANk R:=ANl (AHg k) (AHf k) (AEp k) k
def x29C:Tab R:=λ _ _ _ _=> none
def APn:PS:=⟨(.seq (.seq (.reg [0,1,6,7,8,35] []) (.cond .leaf .leaf)) (.node (.seq (.reg [0,1,6,7,8] []) (.reg [0,1,6,7,8] [])))),[0,1,6,7,8],[.n,.n,.n,.n,.n],⟨[],[(0,[0,1,6])],[]⟩⟩
def AXb {T:Type} (g:AM7 R T) (H:Heap) (K:XK R):T:=g (kN (.exit 0) [0,1,6] [.n,.n,.n] K H)
def AUf (f:ALt R):Nat->List Value->Heap->XK R->Option R:=jl APn (L:=ALt R) AXb pN f
def APo:PS:=⟨(.seq (.reg [0,1,26] []) (.cond (.seq (.reg [4,5] []) .leaf) .leaf)),[0,1],[.n,.n],⟨[0,1],[],[4,5]⟩⟩
def AaK (g:AOA R) (H:Heap) (K:XK R):Option R:=g (kN .normal [0,1] [.n,.n] K H) (kN .ret [4,5] [.p,.n] K H)
def AXc (f:ALp R):Nat->List Value->Heap->XK R->Option R:=jp APo AaK f
def APp:PS:=⟨(.seq (.reg [0,1,14] []) (.cond (.seq (.reg [4,5] []) .leaf) .leaf)),[0,1],[.n,.n],⟨[0,1],[],[4,5]⟩⟩
def AaL (g:AOB R) (H:Heap) (K:XK R):Option R:=g (kN .normal [0,1] [.n,.n] K H) (kN .ret [4,5] [.p,.n] K H)
def AXd (f:ALr R):Nat->List Value->Heap->XK R->Option R:=jp APp AaL f
def x29J (k:Nat):JTab R:=tcons 0 (AXd z0 k) <|tcons 1 (AXc z1 k) <|tcons 2 (AUf z2 k) <|λ _ _ _ _=> none
def x29t:AT:=(.seq (.reg [0,1] []) (.seq (.opq 0 APp.ls APp.out APp.t) (.seq (.opq 1 APo.ls APo.out APo.t) (.seq (.reg [0,1,6] []) (.seq (.reg [0,1,6,7,8] []) (.seq (.node (.opq 2 APn.ls APn.out (.node APn.t))) (.seq (.reg [4,5] []) .leaf)))))))
def x29c (g:ART R) (H:Heap) (K:Value->Heap->Option R):Option R:=g H (rH [.p,.n] K)
def x29a (f:ANk R):List Value->Heap->(Value->Heap->Option R)->Option R:=jf 2 [.n,.n] x29c f
variable {z0 z1 z2}
theorem AfF (k n:Nat) (H:Heap) (K:XK R):lE Try.prog An 53 (x29C) (x29J z0 z1 z2 k) APn (sel [1,1,1,1,1,0,0,0] (bd Try.f29)) (AUf z2) n H K=mapT (λ g=> pN g H) APn.ts (AXb (AJ5 k) H K (AXb z2 H K n)):=by kernel_rfl
theorem AfG (k:Nat) (H:Heap) (K:XK R):jE Try.prog An 53 (x29C) (x29J z0 z1 z2 k) APo (sel [1,1,0] (bd Try.f29)) H K=mapT (λ g=> AaK g H K) APo.ts (ALq k):=by kernel_rfl
theorem AfH (k:Nat) (H:Heap) (K:XK R):jE Try.prog An 53 (x29C) (x29J z0 z1 z2 k) APp (sel [1,0] (bd Try.f29)) H K=mapT (λ g=> AaL g H K) APp.ts (ALs k):=by kernel_rfl
theorem x29e (k:Nat) (H:Heap) (K:Value->Heap->Option R):fE Try.prog An (x29C) (x29J z0 z1 z2 k) x29t Try.f29 [.n,.n] H K=mapT (λ g=> x29c g H K) [.n,.n] (ANl z0 z1 z2 k):=by kernel_rfl
theorem x29S (R:Type) (k:Nat):CSound Try.prog (x29C (R:=R)):=AAE
theorem AfC (R:Type) (k:Nat):JS Try.prog 53 (AUf (AEp (R:=R) k) k) APn.ls APn.out (.loop (sel [1,1,1,1,1,0,0,0] (bd Try.f29))):=lj (x29S R k) (x29J (AHg k) (AHf k) (AEp k) k) (by kernel_rfl) (A:=True) trivial (by kernel_rfl) (λ _ _=> by kernel_rfl) (λ _ _ _=> .trans (AfF _ _ _ _) (by kernel_rfl)) k
theorem AfD (R:Type) (k:Nat):JS Try.prog 53 (AXc (AHf (R:=R) k) k) APo.ls APo.out (sel [1,1,0] (bd Try.f29)):=pj (x29S R k) (x29J (AHg k) (AHf k) (AEp k) k) (by kernel_rfl) (A:=True) trivial (by kernel_rfl) (λ _ _=> .trans (AfG _ _ _) (by kernel_rfl))
theorem AfE (R:Type) (k:Nat):JS Try.prog 53 (AXd (AHg (R:=R) k) k) APp.ls APp.out (sel [1,0] (bd Try.f29)):=pj (x29S R k) (x29J (AHg k) (AHf k) (AEp k) k) (by kernel_rfl) (A:=True) trivial (by kernel_rfl) (λ _ _=> .trans (AfH _ _ _) (by kernel_rfl))
theorem AfI (R:Type) (k:Nat):∀args H K r,x29a (AM8 k) args H K=some (r:R)->∃v H',Tri Try.prog 29 args H v H'/\K v H'=some r:=fj (x29S R k) (x29J (AHg k) (AHf k) (AEp k) k) Try.func29 (by kernel_rfl) (A:=JS Try.prog 53 (AXd (AHg (R:=R) k) k) APp.ls APp.out (sel [1,0] (bd Try.f29))/\JS Try.prog 53 (AXc (AHf (R:=R) k) k) APo.ls APo.out (sel [1,1,0] (bd Try.f29))/\JS Try.prog 53 (AUf (AEp (R:=R) k) k) APn.ls APn.out (.loop (sel [1,1,1,1,1,0,0,0] (bd Try.f29)))/\True) ⟨AfE R k,⟨AfD R k,⟨AfC R k,trivial⟩⟩⟩ (by kernel_rfl) (λ _ _=> .trans (x29e _ _ _) (by kernel_rfl))
end
abbrev AN9 (R:Type):Type:=(Oa->Nat->Nat->Oa->Nat->Nat->Oa->Option R)->(Oa->Int->Option R)->Option R
abbrev ALf (R:Type):Type:=Oa->Nat->Nat->Oa->Nat->Nat->Oa->AN9 R
abbrev AN8 (R:Type):Type:=Heap->(Oa->Nat->Nat->Oa->Nat->Nat->Oa->Int->Int->Oa->Bool->Option R)->Option R
abbrev ALe (R:Type):Type:=Oa->Nat->Nat->Oa->Nat->Nat->Oa->Int->Int->Oa->AN8 R
abbrev AN7 (R:Type):Type:=Heap->(Oa->Nat->Nat->Oa->Nat->Nat->Oa->Int->Int->Oa->Option R)->(Oa->Int->Option R)->Option R
abbrev ALd (R:Type):Type:=Oa->Nat->Nat->Oa->Nat->Nat->Oa->Int->Int->Oa->Bool->AN7 R
abbrev AM1 (R:Type):Type:=Oa->Nat->Nat->Oa->Nat->Nat->Oa->Int->Int->Heap->Option R
abbrev AM2 (R T:Type):Type:=(Oa->Nat->Nat->Oa->Nat->Nat->Oa->Int->Heap->Option R)->(Oa->Int->Heap->Option R)->T
abbrev ALn (R:Type):Type:=AM2 R (Nat->AM1 R)
abbrev AMv (R:Type):Type:=Oa->Nat->Nat->Oa->Int->Int->Int->Heap->Option R
abbrev AMw (R T:Type):Type:=(Oa->Nat->Nat->Oa->Int->Int->Heap->Option R)->T
abbrev ALg (R:Type):Type:=AMw R (Nat->AMv R)
abbrev AMx (R:Type):Type:=Oa->Nat->Nat->Oa->Int->Int->Heap->Option R
abbrev AMy (R T:Type):Type:=(Oa->Nat->Nat->Oa->Int->Heap->Option R)->T
abbrev ALi (R:Type):Type:=AMy R (Nat->AMx R)
abbrev AMz (R:Type):Type:=Oa->Nat->Nat->Oa->Int->Heap->Option R
abbrev AM0 (R T:Type):Type:=(Oa->Heap->Option R)->T
abbrev ALk (R:Type):Type:=AM0 R (Nat->AMz R)
abbrev ARS (R:Type):Type:=Heap->(Oa->Int->Heap->Option R)->Option R
abbrev AMs (R:Type):Type:=Oa->Nat->Nat->Oa->Nat->Nat->Bool->Bool->Bool->Bool->Bool->ARS R
section
variable {R:Type} (f0:ANk R) (z0:ALf R) (z1:ALn R) (z2:ALe R) (z3:ALd R) (z4:ALk R) (z5:ALi R) (z6:ALg R)
def AJ4 (k:Nat):ALf R:=λ q1 l2 c3 q4 l5 c6 p7 KN KR=>
bif (((l2:Nat):Int) !=((l5:Nat):Int)) then (KR none 4)
 else (bif decide (((l2:Nat):Int) > 3) then (KR none 4)
 else (KN q1 l2 c3 q4 l5 c6 p7))
def ADo (k:Nat):ALf R:=AJ4 k
def AMu (k:Nat):ALe R:=λ q1 l2 c3 q4 l5 c6 p7 n8 n9 p10 H KN=>
hfad 0 p10 λ p11=>
ldI .i64 H p11 λ n12=>
bif (n12==0) then (hfad 1 p10 λ p13=>
ldI .i64 H p13 λ n14=>
KN q1 l2 c3 q4 l5 c6 p7 n8 n9 p10 (n14==0))
 else (KN q1 l2 c3 q4 l5 c6 p7 n8 n9 p10 false)
def AEJ (k:Nat):ALe R:=AMu k
def AMt (k:Nat):ALd R:=λ q1 l2 c3 q4 l5 c6 p7 n8 n9 p10 t11 H KN KR=>
bif (!t11) then (hfad 0 p10 λ p12=>
ldI .i64 H p12 λ n13=>
bif decide (n13 < 1) then (KR none 2)
 else (hfad 0 p10 λ p14=>
ldI .i64 H p14 λ n15=>
bif decide (n15 > 4096) then (KR none 2)
 else (hfad 1 p10 λ p16=>
ldI .i64 H p16 λ n17=>
bif decide (n17 < 1) then (KR none 2)
 else (hfad 1 p10 λ p18=>
ldI .i64 H p18 λ n19=>
bif decide (n19 > 4096) then (KR none 2)
 else (hidx q4 l5 n9 1 λ p20=>
ldI .i64 H p20 λ n21=>
bif decide (n21 < 0) then (KR none 2)
 else (hidx q4 l5 n9 1 λ p22=>
ldI .i64 H p22 λ n23=>
bif decide (n23 > 60) then (KR none 2)
 else (KN q1 l2 c3 q4 l5 c6 p7 n8 n9 p10)))))))
 else (hidx q4 l5 n9 1 λ p24=>
ldI .i64 H p24 λ n25=>
bif decide (n25 < 0) then (KR none 2)
 else (hidx q4 l5 n9 1 λ p26=>
ldI .i64 H p26 λ n27=>
bif decide (n27 > 60) then (KR none 2)
 else (KN q1 l2 c3 q4 l5 c6 p7 n8 n9 p10)))
def AEI (k:Nat):ALd R:=AMt k
def ALo (k:Nat):AM2 R (AM1 R->AM1 R):=λ KE0 KR rec q1 l2 c3 q4 l5 c6 p7 n8 n9 H=>
bif decide (n9 < ((l2:Nat):Int)) then (hidx q1 l2 n9 2 λ p10=>
ldI .i64 H (pad p10 0) λ n11=>
ldI .i64 H (pad p10 1) λ n12=>
hal H [.int .i64 0,.int .i64 0] λ p13 H14=>
hst H14 p13 [.int .i64 n11,.int .i64 n12] λ H15=>
z2 q1 l2 c3 q4 l5 c6 p7 n8 n9 p13 H15 (λ q27 l28 c29 q30 l31 c32 p33 n34 n35 p36 t37=>
z3 q27 l28 c29 q30 l31 c32 p33 n34 n35 p36 t37 H15 (λ q50 l51 c52 q53 l54 c55 p56 n57 n58 p59=>
hfad 0 p59 λ p60=>
ldI .i64 H15 p60 λ n61=>
hfad 1 p59 λ p62=>
ldI .i64 H15 p62 λ n63=>
rec q50 l51 c52 q53 l54 c55 p56 (IntKind.wrap .i64 (n57+(IntKind.wrap .i64 (n61 * n63)))) (IntKind.wrap .i64 (n58+1)) H15) (λ p64 n65=>
KR p64 n65 H15)))
 else (KE0 q1 l2 c3 q4 l5 c6 p7 n8 H)
def ACe (k:Nat):ALn R
 |KE0,KR,0=> λ _ _ _ _ _ _ _ _ _ _=> none
 |KE0,KR,n+1=> ALo (AEJ k) (AEI k) k KE0 KR (ACe k KE0 KR n)
def ALh (k:Nat):AMw R (AMv R->AMv R):=λ KE6 rec q1 l2 c3 p4 n5 n6 n7 H=>
hidx q1 l2 n5 2 λ p8=>
hfad 0 p8 λ p9=>
ldI .i64 H p9 λ n10=>
bif decide (n7 < n10) then (hnil p4 λ p11=>
hfad 9 p11 λ p12=>
ldL H p12 λ q13 l14 c15=>
hal H [.int .i64 n5,.int .i64 n7,.int .i64 n6,.bool false,.int .i64 0,.int .i64 0,.int .i64 0,.int .i64 3] λ p16 H17=>
happS 8 64 H17 q13 l14 c15 p16 1 λ q18 l19 c20 H21=>
hnil p4 λ p22=>
hfad 9 p22 λ p23=>
hst1 H21 p23 (.slice q18 l19 c20) λ H24=>
rec q1 l2 c3 p4 n5 n6 (IntKind.wrap .i64 (n7+1)) H24)
 else (KE6 q1 l2 c3 p4 n5 n6 H)
def ADG (k:Nat):ALg R
 |KE6,0=> λ _ _ _ _ _ _ _ _=> none
 |KE6,n+1=> ALh k KE6 (ADG k KE6 n)
def ALj (k:Nat):AMy R (AMx R->AMx R):=λ KE4 rec q1 l2 c3 p4 n5 n6 H=>
hidx q1 l2 n5 2 λ p7=>
hfad 1 p7 λ p8=>
ldI .i64 H p8 λ n9=>
bif decide (n6 < n9) then (z6 (λ q16 l17 c18 p19 n20 n21 H22=>
rec q16 l17 c18 p19 n20 (IntKind.wrap .i64 (n21+1)) H22) k q1 l2 c3 p4 n5 n6 0 H)
 else (KE4 q1 l2 c3 p4 n5 H)
def ADH (k:Nat):ALi R
 |KE4,0=> λ _ _ _ _ _ _ _=> none
 |KE4,n+1=> ALj (ADG k) k KE4 (ADH k KE4 n)
def ALm (k:Nat):AM0 R (AMz R->AMz R):=λ KE2 rec q1 l2 c3 p4 n5 H=>
bif decide (n5 < ((l2:Nat):Int)) then (hidx q1 l2 n5 2 λ p6=>
hfad 0 p6 λ p7=>
ldI .i64 H p7 λ n8=>
hidx q1 l2 n5 2 λ p9=>
hfad 1 p9 λ p10=>
ldI .i64 H p10 λ n11=>
f0 n8 n11 H λ p12 n13 H14=>
hidx q1 l2 n5 2 λ p15=>
hfad 0 p15 λ p16=>
ldI .i64 H14 p16 λ n17=>
hidx q1 l2 n5 2 λ p18=>
hfad 1 p18 λ p19=>
ldI .i64 H14 p19 λ n20=>
f0 n17 n20 H14 λ p21 n22 H23=>
hnil p4 λ p24=>
hfad 7 p24 λ p25=>
ldL H23 p25 λ q26 l27 c28=>
hal H23 [.pointer p12] λ p29 H30=>
happS 1 8 H30 q26 l27 c28 p29 1 λ q31 l32 c33 H34=>
hnil p4 λ p35=>
hfad 7 p35 λ p36=>
hst1 H34 p36 (.slice q31 l32 c33) λ H37=>
hnil p4 λ p38=>
hfad 8 p38 λ p39=>
ldL H37 p39 λ q40 l41 c42=>
hal H37 [.pointer p21] λ p43 H44=>
happS 1 8 H44 q40 l41 c42 p43 1 λ q45 l46 c47 H48=>
hnil p4 λ p49=>
hfad 8 p49 λ p50=>
hst1 H48 p50 (.slice q45 l46 c47) λ H51=>
z5 (λ q57 l58 c59 p60 n61 H62=>
rec q57 l58 c59 p60 (IntKind.wrap .i64 (n61+1)) H62) k q1 l2 c3 p4 n5 0 H51)
 else (KE2 p4 H)
def ACr (k:Nat):ALk R
 |KE2,0=> λ _ _ _ _ _ _=> none
 |KE2,n+1=> ALm (AM8 k) (ADH k) k KE2 (ACr k KE2 n)
def AM3 (k:Nat):AMs R:=λ q1 l2 c3 q4 l5 c6 t7 t8 t9 t10 t11 H K=>
hal H [.bool t7,.bool t8,.bool t9,.bool t10,.bool t11] λ p12 H13=>
z0 q1 l2 c3 q4 l5 c6 p12 (λ q23 l24 c25 q26 l27 c28 p29=>
z1 (λ q40 l41 c42 q43 l44 c45 p46 n47 H48=>
bif decide (n47 > 65536) then (K none 5 H48)
 else (hal H48 [] λ p49 H50=>
hapnS 1 8 H50 p49 0 0 q43 l44 λ q51 l52 c53 H54=>
ldB H54 (pad p46 0) λ t55=>
ldB H54 (pad p46 1) λ t56=>
ldB H54 (pad p46 2) λ t57=>
ldB H54 (pad p46 3) λ t58=>
ldB H54 (pad p46 4) λ t59=>
hal H54 [.bool true,.slice q51 l52 c53,.bool t55,.bool t56,.bool t57,.bool t58,.bool t59,.slice none 0 0,.slice none 0 0,.slice none 0 0,.int .i64 0,.bool false,.bool false,.slice none 0 0,.slice none 0 0] λ p60 H61=>
z4 (λ p63 H64=>
K p63 0 H64) k q40 l41 c42 p60 0 H61)) (λ p65 n66 H67=>
K p65 n66 H67) k q23 l24 c25 q26 l27 c28 p29 0 0 H13) (λ p68 n69=>
K p68 n69 H13)
def AKS (k:Nat):AMs R:=AM3 (ADo k) (ACe k) (ACr k) k
def x11C:Tab R:=tcons 29 (x29a f0) <|λ _ _ _ _=> none
def AP9:PS:=⟨(.seq (.seq (.reg [0,12,13,18,19,168] []) (.cond .leaf .leaf)) (.seq (.node (.reg [0,12,13,18,19] [])) (.reg [0,12,13,18,19] []))),[0,12,13,18,19],[.l,.p,.n,.n,.n],⟨[],[(6,[0,12,13,18])],[]⟩⟩
def AXx {T:Type} (g:AMw R T) (H:Heap) (K:XK R):T:=g (kH (.exit 6) [0,12,13,18] [.l,.p,.n,.n] K)
def AUo (f:ALg R):Nat->List Value->Heap->XK R->Option R:=jl AP9 (L:=ALg R) AXx pH f
def AQA:PS:=⟨(.seq (.seq (.reg [0,12,13,18,159] []) (.cond .leaf .leaf)) (.seq (.node (.seq (.reg [0,12,13,18,19] []) (.node (.opq 6 AP9.ls AP9.out (.node AP9.t))))) (.reg [0,12,13,18] []))),[0,12,13,18],[.l,.p,.n,.n],⟨[],[(4,[0,12,13])],[]⟩⟩
def AXy {T:Type} (g:AMy R T) (H:Heap) (K:XK R):T:=g (kH (.exit 4) [0,12,13] [.l,.p,.n] K)
def AUp (f:ALi R):Nat->List Value->Heap->XK R->Option R:=jl AQA (L:=ALi R) AXy pH f
def AQB:PS:=⟨(.seq (.seq (.reg [0,12,13,102] []) (.cond .leaf .leaf)) (.seq (.node (.seq (.reg [0,12,13,14] (ms [0,0,3,7,15,0,0,96,224,480,1023,2047,4095,4095,8191,32767])) (.seq (.reg [0,12,13,14,16] (ms [0,0,3,7,15,0,0,96,224,480,1023,2047,4095,4095,8191,32767])) (.seq (.reg [0,12,13,16] []) (.seq (.reg [0,12,13] []) (.seq (.reg [0,12,13,18] []) (.node (.opq 5 AQA.ls AQA.out (.node AQA.t))))))))) (.reg [0,12,13] []))),[0,12,13],[.l,.p,.n],⟨[],[(2,[12])],[]⟩⟩
def AXz {T:Type} (g:AM0 R T) (H:Heap) (K:XK R):T:=g (kH (.exit 2) [12] [.p] K)
def AUq (f:ALk R):Nat->List Value->Heap->XK R->Option R:=jl AQB (L:=ALk R) AXz pH f
def AQC:PS:=⟨(.seq (.reg [0,1,5,8,9,10,83] []) (.cond (.seq (.reg [6,7] []) .leaf) .leaf)),[0,1,5,8,9,10,11],[.l,.l,.p,.n,.n,.p,.b],⟨[0,1,5,8,9,10],[],[6,7]⟩⟩
def AaY (g:AN7 R) (H:Heap) (K:XK R):Option R:=g H (kN .normal [0,1,5,8,9,10] [.l,.l,.p,.n,.n,.p] K H) (kN .ret [6,7] [.p,.n] K H)
def AX1 (f:ALd R):Nat->List Value->Heap->XK R->Option R:=jp AQC AaY f
def AQD:PS:=⟨(.reg [0,1,5,8,9,10,11] []),[0,1,5,8,9,10],[.l,.l,.p,.n,.n,.p],⟨[0,1,5,8,9,10,11],[],[]⟩⟩
def AaZ (g:AN8 R) (H:Heap) (K:XK R):Option R:=g H (kN .normal [0,1,5,8,9,10,11] [.l,.l,.p,.n,.n,.p,.b] K H)
def AX2 (f:ALe R):Nat->List Value->Heap->XK R->Option R:=jp AQD AaZ f
def AQE:PS:=⟨(.seq (.seq (.reg [0,1,5,8,9,33] []) (.cond .leaf .leaf)) (.seq (.node (.seq (.reg [0,1,5,8,9,10] []) (.seq (.opq 2 AQD.ls AQD.out AQD.t) (.seq (.opq 3 AQC.ls AQC.out AQC.t) (.reg [0,1,5,8,9] []))))) (.reg [0,1,5,8,9] []))),[0,1,5,8,9],[.l,.l,.p,.n,.n],⟨[],[(0,[0,1,5,8])],[6,7]⟩⟩
def AX0 {T:Type} (g:AM2 R T) (H:Heap) (K:XK R):T:=g (kH (.exit 0) [0,1,5,8] [.l,.l,.p,.n] K) (kH .ret [6,7] [.p,.n] K)
def AUr (f:ALn R):Nat->List Value->Heap->XK R->Option R:=jl AQE (L:=ALn R) AX0 pH f
def AQF:PS:=⟨(.seq (.reg [0,1,5,29] []) (.cond (.seq (.reg [6,7] []) .leaf) .leaf)),[0,1,5],[.l,.l,.p],⟨[0,1,5],[],[6,7]⟩⟩
def Aaa (g:AN9 R) (H:Heap) (K:XK R):Option R:=g (kN .normal [0,1,5] [.l,.l,.p] K H) (kN .ret [6,7] [.p,.n] K H)
def AX3 (f:ALf R):Nat->List Value->Heap->XK R->Option R:=jp AQF Aaa f
def x11J (k:Nat):JTab R:=tcons 0 (AX3 z0 k) <|tcons 1 (AUr z1 k) <|tcons 2 (AX2 z2 k) <|tcons 3 (AX1 z3 k) <|tcons 4 (AUq z4 k) <|tcons 5 (AUp z5 k) <|tcons 6 (AUo z6 k) <|λ _ _ _ _=> none
def x11t:AT:=(.seq (.reg [0,1,5] []) (.seq (.opq 0 AQF.ls AQF.out AQF.t) (.seq (.reg [0,1,5,8] []) (.seq (.seq (.reg [0,1,5,8,9] []) (.node (.opq 1 AQE.ls AQE.out (.node AQE.t)))) (.seq (.seq (.reg [0,1,5,92] []) (.cond (.seq (.reg [6,7] []) .leaf) .leaf)) (.seq (.reg [0,12] (ms [0,0,3,0,15,31,63])) (.seq (.seq (.reg [0,12,13] []) (.node (.opq 4 AQB.ls AQB.out (.node AQB.t)))) (.seq (.reg [6,7] []) .leaf))))))))
def x11c (g:ARS R) (H:Heap) (K:Value->Heap->Option R):Option R:=g H (rH [.p,.n] K)
def x11a (f:AMs R):List Value->Heap->(Value->Heap->Option R)->Option R:=jf 3 [.l,.l,(.a 5),.b,.b,.b,.b,.b] x11c f
variable {f0 z0 z1 z2 z3 z4 z5 z6}
theorem AgB (k n:Nat) (H:Heap) (K:XK R):lE Try.prog An 185 (x11C f0) (x11J z0 z1 z2 z3 z4 z5 z6 k) AP9 (sel [1,1,1,1,1,1,0,1,0,0,1,0,0,1,1,1,1,1,0,0,1,0,0,1,0,0] (bd Try.f11)) (AUo z6) n H K=mapT (λ g=> pH g H) AP9.ts (AXx (ALh k) H K (AXx z6 H K n)):=by kernel_rfl
theorem AgC (k n:Nat) (H:Heap) (K:XK R):lE Try.prog An 185 (x11C f0) (x11J z0 z1 z2 z3 z4 z5 z6 k) AQA (sel [1,1,1,1,1,1,0,1,0,0,1,0,0,1,1,1,1,1,0,0] (bd Try.f11)) (AUp z5) n H K=mapT (λ g=> pH g H) AQA.ts (AXy (ALj z6 k) H K (AXy z5 H K n)):=by kernel_rfl
theorem AgD (k n:Nat) (H:Heap) (K:XK R):lE Try.prog An 185 (x11C f0) (x11J z0 z1 z2 z3 z4 z5 z6 k) AQB (sel [1,1,1,1,1,1,0,1,0,0] (bd Try.f11)) (AUq z4) n H K=mapT (λ g=> pH g H) AQB.ts (AXz (ALm f0 z5 k) H K (AXz z4 H K n)):=by kernel_rfl
theorem AgE (k:Nat) (H:Heap) (K:XK R):jE Try.prog An 185 (x11C f0) (x11J z0 z1 z2 z3 z4 z5 z6 k) AQC (sel [1,1,1,0,1,0,0,1,0,0,1,1,0] (bd Try.f11)) H K=mapT (λ g=> AaY g H K) AQC.ts (AMt k):=by kernel_rfl
theorem AgF (k:Nat) (H:Heap) (K:XK R):jE Try.prog An 185 (x11C f0) (x11J z0 z1 z2 z3 z4 z5 z6 k) AQD (sel [1,1,1,0,1,0,0,1,0,0,1,0] (bd Try.f11)) H K=mapT (λ g=> AaZ g H K) AQD.ts (AMu k):=by kernel_rfl
theorem AgG (k n:Nat) (H:Heap) (K:XK R):lE Try.prog An 185 (x11C f0) (x11J z0 z1 z2 z3 z4 z5 z6 k) AQE (sel [1,1,1,0,1,0,0] (bd Try.f11)) (AUr z1) n H K=mapT (λ g=> pH g H) AQE.ts (AX0 (ALo z2 z3 k) H K (AX0 z1 H K n)):=by kernel_rfl
theorem AgH (k:Nat) (H:Heap) (K:XK R):jE Try.prog An 185 (x11C f0) (x11J z0 z1 z2 z3 z4 z5 z6 k) AQF (sel [1,0] (bd Try.f11)) H K=mapT (λ g=> Aaa g H K) AQF.ts (AJ4 k):=by kernel_rfl
theorem x11e (k:Nat) (H:Heap) (K:Value->Heap->Option R):fE Try.prog An (x11C f0) (x11J z0 z1 z2 z3 z4 z5 z6 k) x11t Try.f11 [.l,.l,(.a 5),.b,.b,.b,.b,.b] H K=mapT (λ g=> x11c g H K) [.l,.l,(.a 5),.b,.b,.b,.b,.b] (AM3 z0 z1 z4 k):=by kernel_rfl
theorem x11S (R:Type) (k:Nat):CSound Try.prog (x11C (R:=R) (AM8 k)):=AAB (AfI R k) <|AAE
theorem Af4 (R:Type) (k:Nat):JS Try.prog 185 (AUo (ADG (R:=R) k) k) AP9.ls AP9.out (.loop (sel [1,1,1,1,1,1,0,1,0,0,1,0,0,1,1,1,1,1,0,0,1,0,0,1,0,0] (bd Try.f11))):=lj (x11S R k) (x11J (ADo k) (ACe k) (AEJ k) (AEI k) (ACr k) (ADH k) (ADG k) k) (by kernel_rfl) (A:=True) trivial (by kernel_rfl) (λ _ _=> by kernel_rfl) (λ _ _ _=> .trans (AgB _ _ _ _) (by kernel_rfl)) k
theorem Af5 (R:Type) (k:Nat):JS Try.prog 185 (AUp (ADH (R:=R) k) k) AQA.ls AQA.out (.loop (sel [1,1,1,1,1,1,0,1,0,0,1,0,0,1,1,1,1,1,0,0] (bd Try.f11))):=lj (x11S R k) (x11J (ADo k) (ACe k) (AEJ k) (AEI k) (ACr k) (ADH k) (ADG k) k) (by kernel_rfl) (A:=JS Try.prog 185 (AUo (ADG (R:=R) k) k) AP9.ls AP9.out (.loop (sel [1,1,1,1,1,1,0,1,0,0,1,0,0,1,1,1,1,1,0,0,1,0,0,1,0,0] (bd Try.f11)))/\True) ⟨Af4 R k,trivial⟩ (by kernel_rfl) (λ _ _=> by kernel_rfl) (λ _ _ _=> .trans (AgC _ _ _ _) (by kernel_rfl)) k
theorem Af6 (R:Type) (k:Nat):JS Try.prog 185 (AUq (ACr (R:=R) k) k) AQB.ls AQB.out (.loop (sel [1,1,1,1,1,1,0,1,0,0] (bd Try.f11))):=lj (x11S R k) (x11J (ADo k) (ACe k) (AEJ k) (AEI k) (ACr k) (ADH k) (ADG k) k) (by kernel_rfl) (A:=JS Try.prog 185 (AUp (ADH (R:=R) k) k) AQA.ls AQA.out (.loop (sel [1,1,1,1,1,1,0,1,0,0,1,0,0,1,1,1,1,1,0,0] (bd Try.f11)))/\True) ⟨Af5 R k,trivial⟩ (by kernel_rfl) (λ _ _=> by kernel_rfl) (λ _ _ _=> .trans (AgD _ _ _ _) (by kernel_rfl)) k
theorem Af7 (R:Type) (k:Nat):JS Try.prog 185 (AX1 (AEI (R:=R) k) k) AQC.ls AQC.out (sel [1,1,1,0,1,0,0,1,0,0,1,1,0] (bd Try.f11)):=pj (x11S R k) (x11J (ADo k) (ACe k) (AEJ k) (AEI k) (ACr k) (ADH k) (ADG k) k) (by kernel_rfl) (A:=True) trivial (by kernel_rfl) (λ _ _=> .trans (AgE _ _ _) (by kernel_rfl))
theorem Af8 (R:Type) (k:Nat):JS Try.prog 185 (AX2 (AEJ (R:=R) k) k) AQD.ls AQD.out (sel [1,1,1,0,1,0,0,1,0,0,1,0] (bd Try.f11)):=pj (x11S R k) (x11J (ADo k) (ACe k) (AEJ k) (AEI k) (ACr k) (ADH k) (ADG k) k) (by kernel_rfl) (A:=True) trivial (by kernel_rfl) (λ _ _=> .trans (AgF _ _ _) (by kernel_rfl))
theorem Af9 (R:Type) (k:Nat):JS Try.prog 185 (AUr (ACe (R:=R) k) k) AQE.ls AQE.out (.loop (sel [1,1,1,0,1,0,0] (bd Try.f11))):=lj (x11S R k) (x11J (ADo k) (ACe k) (AEJ k) (AEI k) (ACr k) (ADH k) (ADG k) k) (by kernel_rfl) (A:=JS Try.prog 185 (AX2 (AEJ (R:=R) k) k) AQD.ls AQD.out (sel [1,1,1,0,1,0,0,1,0,0,1,0] (bd Try.f11))/\JS Try.prog 185 (AX1 (AEI (R:=R) k) k) AQC.ls AQC.out (sel [1,1,1,0,1,0,0,1,0,0,1,1,0] (bd Try.f11))/\True) ⟨Af8 R k,⟨Af7 R k,trivial⟩⟩ (by kernel_rfl) (λ _ _=> by kernel_rfl) (λ _ _ _=> .trans (AgG _ _ _ _) (by kernel_rfl)) k
theorem AgA (R:Type) (k:Nat):JS Try.prog 185 (AX3 (ADo (R:=R) k) k) AQF.ls AQF.out (sel [1,0] (bd Try.f11)):=pj (x11S R k) (x11J (ADo k) (ACe k) (AEJ k) (AEI k) (ACr k) (ADH k) (ADG k) k) (by kernel_rfl) (A:=True) trivial (by kernel_rfl) (λ _ _=> .trans (AgH _ _ _) (by kernel_rfl))
theorem AaX (R:Type) (k:Nat):∀args H K r,x11a (AKS k) args H K=some (r:R)->∃v H',Tri Try.prog 11 args H v H'/\K v H'=some r:=fj (x11S R k) (x11J (ADo k) (ACe k) (AEJ k) (AEI k) (ACr k) (ADH k) (ADG k) k) Try.func11 (by kernel_rfl) (A:=JS Try.prog 185 (AX3 (ADo (R:=R) k) k) AQF.ls AQF.out (sel [1,0] (bd Try.f11))/\JS Try.prog 185 (AUr (ACe (R:=R) k) k) AQE.ls AQE.out (.loop (sel [1,1,1,0,1,0,0] (bd Try.f11)))/\JS Try.prog 185 (AUq (ACr (R:=R) k) k) AQB.ls AQB.out (.loop (sel [1,1,1,1,1,1,0,1,0,0] (bd Try.f11)))/\True) ⟨AgA R k,⟨Af9 R k,⟨Af6 R k,trivial⟩⟩⟩ (by kernel_rfl) (λ _ _=> .trans (x11e _ _ _) (by kernel_rfl))
end
abbrev AMa (R:Type):Type:=Heap->(Bool->Option R)->Option R
abbrev AEo (R:Type):Type:=Oa->AMa R
section
variable {R:Type}
def AGb (k:Nat):AEo R:=λ p1 H K=>
bif p1.isSome then (hnil p1 λ p2=>
hfad 0 p2 λ p3=>
ldB H p3 λ t4=>
K t4)
 else (K false)
def ACh:AEo R:=AGb 0
def x30C:Tab R:=λ _ _ _ _=> none
def x30J (k:Nat):JTab R:=λ _ _ _ _=> none
def x30t:AT:=(.seq (.reg [0] []) (.seq (.reg [2] []) .leaf))
def x30c (g:AMa R) (H:Heap) (K:Value->Heap->Option R):Option R:=g H (rN [.b] K H)
def x30a (f:AEo R):List Value->Heap->(Value->Heap->Option R)->Option R:=jf 1 [.p] x30c f
theorem x30e (k:Nat) (H:Heap) (K:Value->Heap->Option R):fE Try.prog An (x30C) (x30J k) x30t Try.f30 [.p] H K=mapT (λ g=> x30c g H K) [.p] (AGb k):=by kernel_rfl
theorem x30S (R:Type) (k:Nat):CSound Try.prog (x30C (R:=R)):=AAE
theorem AXa (R:Type) (k:Nat):∀args H K r,x30a (ACh) args H K=some (r:R)->∃v H',Tri Try.prog 30 args H v H'/\K v H'=some r:=fj (x30S R k) (x30J 0) Try.func30 (by kernel_rfl) (A:=True) trivial (by kernel_rfl) (λ _ _=> .trans (x30e _ _ _) (by kernel_rfl))
end
abbrev ALc (R:Type):Type:=Heap->(Int->Option R)->Option R
abbrev AGz (R:Type):Type:=Oa->ALc R
section
variable {R:Type} (f0:AEo R)
def AJG (k:Nat):AGz R:=λ p1 H K=>
f0 p1 H λ t2=>
bif (!t2) then (K 0)
 else (hnil p1 λ p3=>
hfad 9 p3 λ p4=>
ldL H p4 λ q5 l6 c7=>
K ((l6:Nat):Int))
def ADq:AGz R:=AJG ACh 0
def x13C:Tab R:=tcons 30 (x30a f0) <|λ _ _ _ _=> none
def x13J (k:Nat):JTab R:=λ _ _ _ _=> none
def x13t:AT:=(.seq (.reg [0] []) (.seq (.seq (.reg [0,5] []) (.cond (.seq (.reg [2] []) .leaf) .leaf)) (.seq (.reg [2] []) .leaf)))
def x13c (g:ALc R) (H:Heap) (K:Value->Heap->Option R):Option R:=g H (rN [.n] K H)
def x13a (f:AGz R):List Value->Heap->(Value->Heap->Option R)->Option R:=jf 1 [.p] x13c f
variable {f0}
theorem x13e (k:Nat) (H:Heap) (K:Value->Heap->Option R):fE Try.prog An (x13C f0) (x13J k) x13t Try.f13 [.p] H K=mapT (λ g=> x13c g H K) [.p] (AJG f0 k):=by kernel_rfl
theorem x13S (R:Type) (k:Nat):CSound Try.prog (x13C (R:=R) ACh):=AAB (AXa R 0) <|AAE
theorem Af3 (R:Type) (k:Nat):∀args H K r,x13a (ADq) args H K=some (r:R)->∃v H',Tri Try.prog 13 args H v H'/\K v H'=some r:=fj (x13S R k) (x13J 0) Try.func13 (by kernel_rfl) (A:=True) trivial (by kernel_rfl) (λ _ _=> .trans (x13e _ _ _) (by kernel_rfl))
end
end Go.Proofs.Ytmanlfonppfhaaa.Sh
