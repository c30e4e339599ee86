/- QsDecodes, part 4. -/
import Derived.Test.YtmanlfonppfhaaaDe3
set_option linter.unusedVariables false
set_option linter.unusedSimpArgs false
namespace Go.Proofs.Ytmanlfonppfhaaa.Sh
open Go.Proofs.Ytmanlfonppfhaaa.FW Go.IntWalk
def upd2 (g:Nat->Nat->Nd) (i j:Nat) (x:Nd):Nat->Nat->Nd:=λ k=> if k=i then upd (g i) j x else g k
theorem AOM (g:Nat->Nat->Nd) (i j:Nat) (x:Nd):upd2 g i j x i=upd (g i) j x:=by unfold upd2;rw [if_pos rfl]
theorem AQn (g:Nat->Nat->Nd) {i k:Nat} (j:Nat) (x:Nd) (h:k≠i):upd2 g i j x k=g k:=by unfold upd2;rw [if_neg h]
theorem Tn.node {N:Nat} {H H':Heap} {p:Nat} {q:Oa} {c:Nat} {l:List Lv} {e d:Bool} {g:Nat->Nat->Nd} (T:Tn N H p q c l e d g) {v:Lv} {i:Nat} (hv:l[i]? =some v) {j:Nat} {x:Nd} (ho:Owns H' v.b (nds (v.w * v.h) (upd (g i) j x)) v.z) (hb:But v.b H H'):Tn N H' p q c l e d (upd2 g i j x):=by
 obtain ⟨g1,g2,g3,g4⟩:=T.n i v hv
 refine ⟨T.o.but hb (λ h=> g3 h.symm),Bld.but2 T.b hb g4,T.low,T.ap,λ k u hu=> ?_,T.d⟩
 obtain ⟨u1,u2,u3,u4⟩:=T.n k u hu
 by_cases hk:k=i
 . subst hk
   rw [hv] at hu;cases hu
   rw [AOM]
   exact ⟨ho,u2,u3,u4⟩
 . rw [AQn _ _ _ hk]
   exact ⟨u1.but hb (T.d k i u v hu hv hk),u2,u3,u4⟩
theorem Tn.put3 {N:Nat} {H:Heap} {p:Nat} {q:Oa} {c:Nat} {l:List Lv} {e d:Bool} {g:Nat->Nat->Nd} (T:Tn N H p q c l e d g) {a b:Nat} (G:Geo a b l) {v:Lv} {i:Nat} (hv:l[i]? =some v) {j:Nat} (hj:j < wl a i * wl b i) (x:Nd):
 ∃H',(∀(R:Type) (K:Heap->Option R),hst H (some ⟨v.b,j * 3,none⟩) (nd x) K=K H')/\Tn N H' p q c l e d (upd2 g i j x)/\But v.b H H'/\H'.length=H.length:=by
 obtain ⟨g1,g2,g3,g4⟩:=T.n i v hv
 obtain ⟨e1,e2⟩:=G.lv i v hv
 obtain ⟨H',e1',O,n,s⟩:=AKR (o:=j * 3) (vs:=nd x) g1 (by rw [AMK,e1,e2];have:(nd x).length=3:=rfl;omega) rfl
 rw [ANH _ (by rw [e1,e2];exact hj) x] at O
 have B:But v.b H H':=⟨by omega,λ k _ hk=> s k hk⟩
 exact ⟨H',e1',T.node hv O B,B,n⟩
theorem AVl {N:Nat} {H:Heap} {p:Nat} {q:Oa} {c:Nat} {l:List Lv} {e d:Bool} {g:Nat->Nat->Nd} (T:Tn N H p q c l e d g) (hl:1<=l.length):∀(R:Type) (K:Bool->Option R),AB6 (some ⟨p,0,none⟩) H K=K true:=by
 intro R K
 have m0:hcell H p 0=some (.slice q l.length c):=T.o.sees.cell 0
 have ed:decide (((l.length:Nat):Int) > 0)=true:=decide_eq_true (by omega)
 unfold AB6 AHQ
 refine go_t rfl (AAC (AAA (go_l m0 ?_)))
 rw [ed]
def ins (a b:Nat) (x y:Int):Bool:=decide (0<=x/\x < a/\0<=y/\y < b)
theorem Geo.lv0 {a b:Nat} {l:List Lv} (G:Geo a b l):∃v,l[0]? =some v/\v.w=a/\v.h=b:=by
 have:=G.pos
 obtain ⟨v,hv⟩:∃v,l[0]? =some v:=⟨l[0],List.getElem?_eq_getElem (by omega)⟩
 have:=G.lv 0 v hv
 rw [AJU G.a1,AJU G.b1] at this
 exact ⟨v,hv,this⟩
theorem AVz {N:Nat} {H:Heap} {p:Nat} {q:Oa} {c:Nat} {l:List Lv} {e d:Bool} {g:Nat->Nat->Nd} (T:Tn N H p q c l e d g) {a b:Nat} (G:Geo a b l) (x y:Int):
 ∃H',(∀(R:Type) (K:Bool->Heap->Option R),ADp (some ⟨p,0,none⟩) x y H K=K (ins a b x y) H')/\Old H.length H H':=by
 obtain ⟨v,hv,e1,e2⟩:=G.lv0
 obtain ⟨bq,rfl,hq,_⟩:=T.row G.pos
 have hpos:=G.pos
 have m0:hcell H p 0=some (.slice (some ⟨bq,0,none⟩) l.length c):=T.o.sees.cell 0
 have mq:∀j,j < 3->hcell H bq (0 * 3+j)=(lvc v)[j]? :=λ j hj=> by rw [hq.sees.cell];exact fm3 lvc (λ _=> rfl) l 0 v hv j hj
 have q0:hcell H bq (0+0)=some (.int .i64 (a:Int)):=by rw [←e1];exact mq 0 (by omega)
 have q1:hcell H bq (0+1)=some (.int .i64 (b:Int)):=by rw [←e2];exact mq 1 (by omega)
 have q2:hcell H bq (0+2)=some (.slice (some ⟨v.b,0,none⟩) (v.w * v.h) v.c):=mq 2 (by omega)
 have hid:∀(R:Type) (K:Oa->Option R),hidx (some ⟨bq,0,none⟩) l.length 0 3 K=K (some ⟨bq,0,none⟩):=by
  intro R K;unfold hidx;simp only;rw [if_pos ⟨by omega,by omega⟩];rfl
 obtain ⟨Hn,hHn⟩:∃Hn,Hn=H++ [some (⟨[.int .i64 (a:Int), .int .i64 (b:Int), .slice (some ⟨v.b,0,none⟩) (v.w * v.h) v.c],false,0⟩:Blk)]:=⟨_,rfl⟩
 have m:∀i,hcell Hn H.length i= [Value.int .i64 (a:Int), .int .i64 (b:Int), .slice (some ⟨v.b,0,none⟩) (v.w * v.h) v.c][i]? :=λ i=> by rw [hHn];exact ATf _ _ _
 refine ⟨Hn,λ R K=> ?_,hHn ▸ Old.app _ _⟩
 unfold ADp AIg ins
 refine AAC (AAA (go_l m0 ((hid _ _).trans (AAJ q0 (AAJ q1 (AAY q2 (AAW hHn rfl rfl ?_)))))))
 by_cases c1:x≥0
 . by_cases c2:y≥0
   . refine go_t (decide_eq_true c1) (go_t (decide_eq_true c2) (AAA (go_i (m 0) ?_)))
     by_cases c3:x < (a:Int)
     . refine go_t (decide_eq_true c3) (AAA (go_i (m 1) ?_))
       congr 1
       exact decide_eq_decide.2 ⟨λ h=> ⟨c1,c3,c2,h⟩,λ h=> h.2.2.2⟩
     . refine go_f (decide_eq_false c3) ?_
       rw [decide_eq_false (λ h=> c3 h.2.1)]
   . refine go_t (decide_eq_true c1) (go_f (decide_eq_false c2) ?_)
     rw [decide_eq_false (λ h=> c2 h.2.2.1)]
 . refine go_f (decide_eq_false c1) ?_
   rw [decide_eq_false (λ h=> c1 h.1)]
theorem AVQ {a b:Nat} {x y:Int} (h:ins a b x y=true):∃u w:Nat,x=u/\y=w/\u < a/\w < b:=by
 have:=of_decide_eq_true h
 exact ⟨x.toNat,y.toNat,by omega,by omega,by omega,by omega⟩
def valR (a b:Nat) (x y:Int) (g:Nat->Nat->Nd):Int×Bool:=if ins a b x y=true/\(g 0 (ix a x.toNat y.toNat 0)).2.2=true then ((g 0 (ix a x.toNat y.toNat 0)).2.1,true) else (0,false)
theorem AVg {k:Nat} {N:Nat} {H:Heap} {p:Nat} {q:Oa} {c:Nat} {l:List Lv} {e d:Bool} {g:Nat->Nat->Nd} (T:Tn N H p q c l e d g) {a b:Nat} (G:Geo a b l) (x y:Int):
 ∃H',(∀(R:Type) (K:Int->Bool->Heap->Option R),ABz k (some ⟨p,0,none⟩) x y H K=K (valR a b x y g).1 (valR a b x y g).2 H')/\Old H.length H H':=by
 have ok:=AVl T G.pos
 obtain ⟨H1,h1,o1⟩:=AVz T G x y
 have T1:=T.old o1 (Nat.le_refl _)
 refine ⟨H1,λ R K=> ?_,o1⟩
 unfold ABz AHk ACZ AF3
 refine (ok _ _).trans (go_f rfl ((h1 _ _).trans ?_))
 unfold valR
 cases hi:ins a b x y
 . rw [if_neg (by simp)];rfl
 . obtain ⟨u,w,rfl,rfl,hu,hw⟩:=AVQ hi
   obtain ⟨v0,hl0,e1,e2⟩:=G.lv0
   have hj:=AOS hu hw 0
   have ha:∀(R:Type) (K:Oa->Option R),AAg (some ⟨p,0,none⟩) 0 (u:Int) (w:Int) H1 K=K (some ⟨v0.b,ix a u w 0 * 3,none⟩):=T1.at G hl0 hu hw
   have n1:hcell H1 v0.b (ix a u w 0 * 3+1)=some (.int .i64 (g 0 (ix a u w 0)).2.1):=T1.cell G hl0 hj (o:=1) (by omega)
   have n2:hcell H1 v0.b (ix a u w 0 * 3+2)=some (.bool (g 0 (ix a u w 0)).2.2):=T1.cell G hl0 hj (o:=2) (by omega)
   refine go_f rfl ((ha _ _).trans (AAC (AAA (go_b n2 ?_))))
   rw [Int.toNat_natCast,Int.toNat_natCast]
   cases hk:(g 0 (ix a u w 0)).2.2
   . rw [if_neg (by simp)];rfl
   . rw [if_pos ⟨rfl,rfl⟩]
     refine go_f rfl ((ha _ _).trans (AAC (AAA (go_i n1 rfl))))
open Go.Proofs.Ytmanlfonppfhaaa.FW Go.IntWalk
theorem AYD (a i:Nat):(wl a i - 1) / 2+1=wl a (i+1):=by
 unfold wl
 rw [Nat.add_sub_cancel,Nat.div_div_eq_div_mul,Nat.pow_succ]
theorem Tn.lvl {N:Nat} {H:Heap} {p bq:Nat} {c:Nat} {l:List Lv} {e d:Bool} {g:Nat->Nat->Nd} (T:Tn N H p (some ⟨bq,0,none⟩) c l e d g) (hl:1<=l.length) {i:Nat} {v:Lv} (hv:l[i]? =some v) {j:Nat} (hj:j < 3):hcell H bq (i * 3+j)=(lvc v)[j]? :=by
 obtain ⟨bq2,h,h1,_⟩:=T.row hl
 cases h
 rw [h1.sees.cell]
 exact fm3 lvc (λ _=> rfl) l i v hv j hj
theorem Aa7 {k w:Nat} (hk:k<=65536) (hw:1<=w) (R:Type) (K:Int->Option R):hbin .quo .i64 (k:Int) (w:Int) K=K ((k / w:Nat):Int):=by
 have:k / w<=k:=Nat.div_le_self _ _
 simp only [hbin]
 rw [if_neg (by omega),show Int.tdiv (k:Int) (w:Int)=((k / w:Nat):Int) from rfl]
 generalize k / w=d at this ⊢
 rw [w64 (by omega) (by omega)]
theorem Aa3 {k w:Nat} (hw:1<=w) (R:Type) (K:Int->Option R):hbin .rem .i64 (k:Int) (w:Int) K=K ((k % w:Nat):Int):=by
 simp only [hbin]
 rw [if_neg (by omega),show Int.tmod (k:Int) (w:Int)=((k % w:Nat):Int) from rfl]
theorem hidx3 {b n i:Nat} (hi:i < n) (R:Type) (K:Oa->Option R):hidx (some ⟨b,0,none⟩) n (i:Int) 3 K=K (some ⟨b,i * 3,none⟩):=by
 unfold hidx;simp only;rw [if_pos ⟨by omega,by omega⟩,Int.toNat_natCast,Nat.zero_add]
end Go.Proofs.Ytmanlfonppfhaaa.Sh
namespace Go.Proofs.Ytmanlfonppfhaaa.FW
theorem Owns.same {H H':Heap} {b sz:Nat} {cs:List Value} (h:Owns H b cs sz) (e:hblk H' b=hblk H b):Owns H' b cs sz:=by
 unfold Owns at *;rw [e];exact h
theorem Bld.same {N sz l c:Nat} {H H':Heap} {q:Option Addr} {cs:List Value} (h:Bld N sz H q l c cs) (e:∀a,q=some a->hblk H' a.block=hblk H a.block):Bld N sz H' q l c cs:=by
 rcases h with h|⟨b,rfl,h2,h3,h4,h5⟩
 . exact .inl h
 . exact .inr ⟨b,rfl,h2,h3,h4.same (e _ rfl),h5⟩
end Go.Proofs.Ytmanlfonppfhaaa.FW
namespace Go.Proofs.Ytmanlfonppfhaaa.Sh
open Go.Proofs.Ytmanlfonppfhaaa.FW Go.IntWalk
abbrev Cod (S:Type):=S->Nd->(Int×Int)×S
def nlp {S:Type} (code:Cod S):Nat->S->Nd->Int×S×Nd
 |0,s,n=> (0,s,n)
 |m+1,s,n=> if n.2.2=true then (0,s,n)
  else if (code s n).1.2≠0 then ((code s n).1.2,(code s n).2,n)
  else if (code s n).1.1=1 then (0,(code s n).2,n.1,n.2.1,true)
  else nlp code m (code s n).2 (n.1,n.2.1+1,n.2.2)
def nl {S:Type} (code:Cod S) (t:Int) (s:S) (n:Nd):Int×S×Nd:=nlp code (t - n.2.1).toNat s n
def wk {S:Type} (code:Cod S) (t:Int) (f:Nat->Nd):Nat->Int->S->(Nat->Nd)->Int×S×(Nat->Nd)
 |0,_,s,pf=> (0,s,pf)
 |i+1,low,s,pf=> if (nl code t s ((f i).1,imx (f i).2.1 low,(f i).2.2)).1≠0 then ((nl code t s ((f i).1,imx (f i).2.1 low,(f i).2.2)).1,(nl code t s ((f i).1,imx (f i).2.1 low,(f i).2.2)).2.1,pf)
  else wk code t f i (nl code t s ((f i).1,imx (f i).2.1 low,(f i).2.2)).2.2.2.1 (nl code t s ((f i).1,imx (f i).2.1 low,(f i).2.2)).2.1 (upd pf i (nl code t s ((f i).1,imx (f i).2.1 low,(f i).2.2)).2.2)
def wkr {S:Type} (code:Cod S) (t:Int) (g:Nat->Nat->Nd) (a x y L:Nat) (s:S):Int×S×(Nat->Nd):=wk code t (λ i=> g i (ix a x y i)) L 0 s (λ _=> nz)
structure Dev (S:Type) where
 p:Nat
 inv:S->Oa->Heap->Prop
 room:S->Nat->Prop
structure Fr (p b:Nat) (q:Oa) (H:Heap) (q':Oa) (H':Heap):Prop where
 len:H.length<=H'.length
 old:∀i,i < H.length->i≠p->i≠b->(∀a,q=some a->a.block≠i)->hblk H' i=hblk H i
 new:q'=q∨∀a,q'=some a->H.length<=a.block
theorem Fr.refl (p b:Nat) (q:Oa) (H:Heap):Fr p b q H q H:=⟨Nat.le_refl _,λ _ _ _ _ _=> rfl, .inl rfl⟩
theorem Fr.trans {p b:Nat} {q q1 q2:Oa} {H H1 H2:Heap} (x:Fr p b q H q1 H1) (y:Fr p b q1 H1 q2 H2):Fr p b q H q2 H2:=by
 refine ⟨Nat.le_trans x.len y.len,λ i hi h1 h2 h3=> (y.old i (Nat.lt_of_lt_of_le hi x.len) h1 h2 λ a ha=> ?_).trans (x.old i hi h1 h2 h3), ?_⟩
 . rcases x.new with h|h
   . subst h;exact h3 a ha
   . have:=h a ha;omega
 . rcases y.new with h|h
   . subst h;exact x.new
   . exact .inr λ a ha=> Nat.le_trans x.len (h a ha)
theorem Fr.of_stp {p b:Nat} {q q':Oa} {H H':Heap} (s:Stp p q H q' H'):Fr p b q H q' H':=⟨s.len,λ i hi h1 _ h3=> s.old i hi h1 h3,s.new⟩
theorem Fr.of_but {p b:Nat} {q:Oa} {H H':Heap} (s:But b H H'):Fr p b q H q H':=⟨s.1,λ i hi _ h2 _=> s.2 i hi h2, .inl rfl⟩
theorem Fr.of_old {p b:Nat} {q:Oa} {H H':Heap} (s:Old H.length H H'):Fr p b q H q H':=⟨s.1,λ i hi _ _ _=> s.2 i hi, .inl rfl⟩
theorem Fr.drop {p b b2:Nat} {q q':Oa} {H Hn H':Heap} (o:Old H.length H Hn) (hb:H.length<=b) (s:Fr p b q Hn q' H'):Fr p b2 q H q' H':=by
 refine ⟨Nat.le_trans o.1 s.len,λ i hi h1 _ h3=> (s.old i (Nat.lt_of_lt_of_le hi o.1) h1 (by omega) h3).trans (o.2 i hi), ?_⟩
 rcases s.new with h|h
 . exact .inl h
 . exact .inr λ a ha=> Nat.le_trans o.1 (h a ha)
structure DevOk {S:Type} (D:Dev S) (code:Cod S) (E1:(R:Type)->Int->Int->Bool->Oa->Heap->(Int->Int->Heap->Option R)->Option R):Prop where
 lt:∀ {s q H},D.inv s q H->D.p < H.length
 qlt:∀ {s q H},D.inv s q H->∀a,q=some a->a.block < H.length
 same:∀ {s q H H'},D.inv s q H->H.length<=H'.length->hblk H' D.p=hblk H D.p->(∀a,q=some a->hblk H' a.block=hblk H a.block)->D.inv s q H'
 mono:∀ {s m m'},D.room s m->m'<=m->D.room s m'
 run:∀ {s q H m pb},D.inv s q H->D.room s (m+1)->Owns H pb [.pointer (some ⟨D.p,0,none⟩)] 0->∀(n:Nd),∃q' H',(∀(R:Type) (K:Int->Int->Heap->Option R),E1 R n.1 n.2.1 n.2.2 (some ⟨pb,0,none⟩) H K=K (code s n).1.1 (code s n).1.2 H')/\D.inv (code s n).2 q' H'/\D.room (code s n).2 m/\Stp D.p q H q' H'
def Off (p:Nat) (q:Oa) (l:List Lv) (i:Nat):Prop:=i≠p/\(∀a,q=some a->a.block≠i)/\∀(j:Nat) (v:Lv),l[j]? =some v->v.b≠i
theorem Tn.same {N:Nat} {H H':Heap} {p:Nat} {q:Oa} {c:Nat} {l:List Lv} {e d:Bool} {g:Nat->Nat->Nd} (T:Tn N H p q c l e d g) (s:∀i,i < H.length->¬ Off p q l i->hblk H' i=hblk H i):Tn N H' p q c l e d g:=by
 refine ⟨T.o.same (s _ T.o.lt λ h=> h.1 rfl),T.b.same λ a ha=> s _ (T.b.below a ha) λ h=> h.2.1 a ha rfl,T.low,T.ap,λ i v hv=> ?_,T.d⟩
 obtain ⟨g1,g2,g3,g4⟩:=T.n i v hv
 exact ⟨g1.same (s _ g1.lt λ h=> h.2.2 i v hv rfl),g2,g3,g4⟩
theorem Tn.fresh {N:Nat} {H:Heap} {p:Nat} {q:Oa} {c:Nat} {l:List Lv} {e d:Bool} {g:Nat->Nat->Nd} (T:Tn N H p q c l e d g) {i:Nat} (hi:H.length<=i):Off p q l i:=
 ⟨by have:=T.o.lt;omega,λ a ha=> by have:=T.b.below a ha;omega,λ j v hv=> by have:=(T.n j v hv).1.lt;omega⟩
theorem Tn.fr {N:Nat} {H H':Heap} {p:Nat} {q:Oa} {c:Nat} {l:List Lv} {e d:Bool} {g:Nat->Nat->Nd} (T:Tn N H p q c l e d g) {p2 b:Nat} {q2 q2':Oa} (s:Fr p2 b q2 H q2' H') (h1:Off p q l p2) (h2:∀a,q2=some a->Off p q l a.block) (h3:Off p q l b):Tn N H' p q c l e d g:=
 T.same λ i hi hn=> s.old i hi (λ h=> hn (h ▸ h1)) (λ h=> hn (h ▸ h3)) λ a ha h=> hn (h ▸ h2 a ha)
def gw (a x y:Nat) (g:Nat->Nat->Nd) (pf:Nat->Nd) (n:Nat):Nat->Nat->Nd:=λ i=> if i < n then upd (g i) (ix a x y i) (pf i) else g i
theorem AY4 (a x y:Nat) (g:Nat->Nat->Nd) (pf:Nat->Nd):gw a x y g pf 0=g:=by funext i;unfold gw;rw [if_neg (by omega)]
theorem AY5 (a x y:Nat) (g:Nat->Nat->Nd) (pf:Nat->Nd) (n:Nat):upd2 (gw a x y g pf n) n (ix a x y n) (pf n)=gw a x y g pf (n+1):=by
 funext i
 by_cases h:i=n
 . subst h;rw [AOM];unfold gw;rw [if_neg (by omega),if_pos (by omega)]
 . rw [AQn _ _ _ h];unfold gw
   by_cases h2:i < n
   . rw [if_pos h2,if_pos (by omega)]
   . rw [if_neg h2,if_neg (by omega)]
theorem ANq (H:Heap):(roH H).length=H.length:=by simp [roH]
theorem AU6 (H:Heap):H++(roH H).drop H.length=H:=by rw [List.drop_eq_nil_of_le (by rw [ANq];omega),List.append_nil]
open Go.Proofs.Ytmanlfonppfhaaa.FW Go.IntWalk
theorem AVF {k:Nat} {S:Type} {D:Dev S} {code:Cod S} (O:DevOk D code (λ R=> @ABe R k)) {t:Int} (ht:t<=65536) (pt:Oa) (x y i:Int) (pq:Oa) (pl pc:Nat) {pb bb:Nat} (hbb:bb≠D.p) (hpb:pb≠D.p) (hbp:bb≠pb):
 ∀(m n:Nat),m+1 < n->∀(c:Nat) (s:S) (q:Oa) (H:Heap) (nn:Nd),(t - nn.2.1).toNat=m->0<=nn.2.1->D.inv s q H->D.room s (c+m+1)->Owns H bb (nd nn) 0->Owns H pb [.pointer (some ⟨D.p,0,none⟩)] 0->(∀a,q=some a->a.block≠bb/\a.block≠pb)->
 ∃q' H',(∀(R:Type) (KE:Oa->Int->Int->Int->Oa->Oa->Nat->Nat->Int->Oa->Heap->Option R) (KR:Int->Heap->Option R),AAG k KE KR n pt x y t (some ⟨pb,0,none⟩) pq pl pc i (some ⟨bb,0,none⟩) H=if (nlp code m s nn).1≠0 then KR (nlp code m s nn).1 H' else KE pt x y t (some ⟨pb,0,none⟩) pq pl pc i (some ⟨bb,0,none⟩) H')/\
  D.inv (nlp code m s nn).2.1 q' H'/\((nlp code m s nn).1=0->D.room (nlp code m s nn).2.1 (c+(t - (nlp code m s nn).2.2.2.1).toNat))/\Owns H' bb (nd (nlp code m s nn).2.2) 0/\0<=(nlp code m s nn).2.2.2.1/\Fr D.p bb q H q' H'/\(∀a,q'=some a->a.block≠bb/\a.block≠pb):=by
 intro m
 induction m with
 |zero=>
  intro n hn c s q H nn hm h0 hi hr ho hp hq
  obtain ⟨n,rfl⟩:∃n',n=n'+1:=⟨n - 1,by omega⟩
  have m1:hcell H bb 1=some (.int .i64 nn.2.1):=ho.sees.cell 1
  refine ⟨q,H,λ R KE KR=> ?_,hi,λ _=> O.mono hr (by simp only [nlp];omega),ho,h0, .refl _ _ _ _,hq⟩
  rw [if_neg (by simp [nlp])]
  unfold AAG ABl AAP ABk
  exact AAA (go_i m1 (go_f (decide_eq_false (by omega)) rfl))
 |succ m ih=>
  intro n hn c s q H nn hm h0 hi hr ho hp hq
  obtain ⟨n,rfl⟩:∃n',n=n'+1:=⟨n - 1,by omega⟩
  have c0:hcell H bb 0=some (.int .i64 nn.1):=ho.sees.cell 0
  have c1:hcell H bb 1=some (.int .i64 nn.2.1):=ho.sees.cell 1
  have c2:hcell H bb 2=some (.bool nn.2.2):=ho.sees.cell 2
  have dl:decide (nn.2.1 < t)=true:=decide_eq_true (by omega)
  cases hkn:nn.2.2
  case true=>
   have er:nlp code (m+1) s nn=(0,s,nn):=by simp only [nlp];rw [if_pos hkn]
   rw [er]
   refine ⟨q,H,λ R KE KR=> ?_,hi,λ _=> O.mono hr (by simp only;omega),ho,h0, .refl _ _ _ _,hq⟩
   rw [if_neg (by simp)]
   unfold AAG ABl AAP ABk
   refine AAA (go_i c1 (go_t dl (AAA (go_b c2 ?_))))
   rw [hkn];rfl
  case false=>
   obtain ⟨q1,H1,e1,i1,r1,s1⟩:=O.run (m:=c+m+1) hi (by rw [show c+m+1+1=c+(m+1)+1 from by omega];exact hr) hp nn
   have hbq:∀a,q=some a->a.block≠bb:=λ a ha=> (hq a ha).1
   have hpq:∀a,q=some a->a.block≠pb:=λ a ha=> (hq a ha).2
   have ho1:Owns H1 bb (nd nn) 0:=ho.same (s1.old bb ho.lt hbb hbq)
   have hp1:Owns H1 pb [.pointer (some ⟨D.p,0,none⟩)] 0:=hp.same (s1.old pb hp.lt hpb hpq)
   have hq1:∀a,q1=some a->a.block≠bb/\a.block≠pb:=λ a ha=> by
    rcases s1.new with h|h
    . subst h;exact hq a ha
    . have:=h a ha;have:=ho.lt;have:=hp.lt;omega
   have start:∀(R:Type) (KE:Oa->Int->Int->Int->Oa->Oa->Nat->Nat->Int->Oa->Heap->Option R) (KR:Int->Heap->Option R) (r:Option R),
    (bif ((code s nn).1.2 !=0) then KR (code s nn).1.2 H1 else bif ((code s nn).1.1==1) then (hfad 2 (some ⟨bb,0,none⟩) λ p=> hst1 H1 p (.bool true) λ H=> AAG k KE KR n pt x y t (some ⟨pb,0,none⟩) pq pl pc i (some ⟨bb,0,none⟩) H) else hfad 1 (some ⟨bb,0,none⟩) λ p=> ldI .i64 H1 p λ n380=> hfad 1 (some ⟨bb,0,none⟩) λ p381=> hst1 H1 p381 (.int .i64 (IntKind.wrap .i64 (n380+1))) λ H=> AAG k KE KR n pt x y t (some ⟨pb,0,none⟩) pq pl pc i (some ⟨bb,0,none⟩) H)=r->
    AAG k KE KR (n+1) pt x y t (some ⟨pb,0,none⟩) pq pl pc i (some ⟨bb,0,none⟩) H=r:=by
    intro R KE KR r h
    unfold AAG ABl AAP ABk
    refine AAA (go_i c1 (go_t dl (AAA (go_b c2 ?_))))
    refine go_t (by rw [hkn];rfl) (AAJ c0 (AAJ c1 (AAH c2 ?_)))
    exact (e1 R _).trans h
   by_cases herr:(code s nn).1.2=0
   . have de:((code s nn).1.2 !=0)=false:=by rw [herr];rfl
     by_cases hbit:(code s nn).1.1=1
     . have db:((code s nn).1.1==1)=true:=by rw [hbit];rfl
       have er:nlp code (m+1) s nn=(0,(code s nn).2,nn.1,nn.2.1,true):=by simp only [nlp];rw [if_neg (by rw [hkn];simp),if_neg (by simp [herr]),if_pos hbit]
       obtain ⟨H2,e2,O2,B2,n2⟩:=Owns.st1 (o:=2) ho1 (by simp [nd]) (.bool true)
       have O2':Owns H2 bb (nd (nn.1,nn.2.1,true)) 0:=O2
       have i2:D.inv (code s nn).2 q1 H2:=O.same i1 B2.1 (B2.2 _ (O.lt i1) (λ h=> hbb h.symm)) λ a ha=> B2.2 _ (O.qlt i1 a ha) (hq1 a ha).1
       have f2:Fr D.p bb q H q1 H2:=(Fr.of_stp s1).trans (.of_but B2)
       rw [er]
       obtain ⟨n,rfl⟩:∃n',n=n'+1:=⟨n - 1,by omega⟩
       have d1:hcell H2 bb 1=some (.int .i64 nn.2.1):=O2'.sees.cell 1
       have d2:hcell H2 bb 2=some (.bool true):=O2'.sees.cell 2
       refine ⟨q1,H2,λ R KE KR=> start R KE KR _ ?_,i2,λ _=> O.mono r1 (by simp only;omega),O2',h0,f2,hq1⟩
       rw [if_neg (by simp)]
       refine go_f de (go_t db (AAA ((e2 _ _).trans ?_)))
       unfold AAG ABl AAP ABk
       exact AAA (go_i d1 (go_t dl (AAA (go_b d2 (go_f rfl rfl)))))
     . have db:((code s nn).1.1==1)=false:=by rw [beq_eq_false_iff_ne];exact hbit
       have er:nlp code (m+1) s nn=nlp code m (code s nn).2 (nn.1,nn.2.1+1,nn.2.2):=by
        conv=> lhs;rw [nlp]
        rw [if_neg (by rw [hkn];simp),if_neg (by simp [herr]),if_neg hbit]
       obtain ⟨H2,e2,O2,B2,n2⟩:=Owns.st1 (o:=1) ho1 (by simp [nd]) (.int .i64 (nn.2.1+1))
       have O2':Owns H2 bb (nd (nn.1,nn.2.1+1,nn.2.2)) 0:=O2
       have i2:D.inv (code s nn).2 q1 H2:=O.same i1 B2.1 (B2.2 _ (O.lt i1) (λ h=> hbb h.symm)) λ a ha=> B2.2 _ (O.qlt i1 a ha) (hq1 a ha).1
       have f2:Fr D.p bb q H q1 H2:=(Fr.of_stp s1).trans (.of_but B2)
       have hp2:Owns H2 pb [.pointer (some ⟨D.p,0,none⟩)] 0:=hp1.but B2 (λ h=> hbp h.symm)
       obtain ⟨q3,H3,e3,i3,r3,O3,z3,f3,hq3⟩:=ih n (by omega) c (code s nn).2 q1 H2 (nn.1,nn.2.1+1,nn.2.2) (by simp only;omega) (by simp only;omega) i2 r1 O2' hp2 hq1
       have d1:hcell H1 bb 1=some (.int .i64 nn.2.1):=ho1.sees.cell 1
       rw [er]
       refine ⟨q3,H3,λ R KE KR=> start R KE KR _ ?_,i3,r3,O3,z3,f2.trans f3,hq3⟩
       refine go_f de (go_f db (AAA (go_i d1 (AAA ?_))))
       rw [w64 (n:=nn.2.1+1) (by omega) (by omega)]
       exact (e2 _ _).trans (e3 R KE KR)
   . have de:((code s nn).1.2 !=0)=true:=by rw [bne_iff_ne];exact herr
     have er:nlp code (m+1) s nn=((code s nn).1.2,(code s nn).2,nn):=by simp only [nlp];rw [if_neg (by rw [hkn];simp),if_pos herr]
     rw [er]
     refine ⟨q1,H1,λ R KE KR=> start R KE KR _ ?_,i1,λ h=> (herr h).elim,ho1,h0, .of_stp s1,hq1⟩
     rw [if_pos herr]
     exact go_t de rfl
theorem AS0 {k:Nat} (hk:70000 < k) {S:Type} {D:Dev S} {code:Cod S} (O:DevOk D code (λ R=> @ABe R k)) {t:Int} (ht:t<=65536) {N p:Nat} {q:Oa} {c:Nat} {l:List Lv} {e d:Bool} {g:Nat->Nat->Nd} {a b x y:Nat} (G:Geo a b l) (hx:x < a) (hy:y < b) (hg:∀i j,0<=(g i j).2.1) {pb bp pc:Nat} (hbp:bp≠D.p) (hpb:pb≠D.p) (hpp:bp≠pb) (hD:Off p q l D.p) (hB:Off p q l bp):
 ∀(m n:Nat),m < n->m<=l.length->∀(r:Nat) (s:S) (q2:Oa) (H:Heap) (low:Int) (pf:Nat->Nd),D.inv s q2 H->D.room s (r+m+(t - low).toNat)->0<=low->Tn N H p q c l e d g->Owns H bp (nds l.length pf) 0->Owns H pb [.pointer (some ⟨D.p,0,none⟩)] 0->(∀a,q2=some a->a.block≠bp/\a.block≠pb/\Off p q l a.block)->
 ∃q2' H',(∀(R:Type) (KE:Oa->Int->Int->Oa->Nat->Nat->Heap->Option R) (KR:Int->Heap->Option R),AAK k KE KR n (some ⟨p,0,none⟩) (x:Int) (y:Int) t (some ⟨pb,0,none⟩) (some ⟨bp,0,none⟩) l.length pc low ((m:Int) - 1) H=if (wk code t (λ i=> g i (ix a x y i)) m low s pf).1≠0 then KR (wk code t (λ i=> g i (ix a x y i)) m low s pf).1 H' else KE (some ⟨p,0,none⟩) (x:Int) (y:Int) (some ⟨bp,0,none⟩) l.length pc H')/\
  D.inv (wk code t (λ i=> g i (ix a x y i)) m low s pf).2.1 q2' H'/\((wk code t (λ i=> g i (ix a x y i)) m low s pf).1=0->D.room (wk code t (λ i=> g i (ix a x y i)) m low s pf).2.1 r)/\Tn N H' p q c l e d g/\Owns H' bp (nds l.length (wk code t (λ i=> g i (ix a x y i)) m low s pf).2.2) 0/\Fr D.p bp q2 H q2' H'/\(∀a,q2'=some a->a.block≠bp/\a.block≠pb/\Off p q l a.block):=by
 intro m
 have hlen:=G.len
 induction m with
 |zero=>
  intro n hn hml r s q2 H low pf hi hr h0 T hO hp hq
  obtain ⟨n,rfl⟩:∃n',n=n'+1:=⟨n - 1,by omega⟩
  refine ⟨q2,H,λ R KE KR=> ?_,hi,λ _=> O.mono hr (by omega),T,hO, .refl _ _ _ _,hq⟩
  rw [if_neg (by simp [wk])]
  unfold AAK AC2
  exact go_f (decide_eq_false (by omega)) rfl
 |succ m ih=>
  intro n hn hml r s q2 H low pf hi hr h0 T hO hp hq
  obtain ⟨n,rfl⟩:∃n',n=n'+1:=⟨n - 1,by omega⟩
  obtain ⟨v,hv⟩:∃v,l[m]? =some v:=⟨_,List.getElem?_eq_getElem (by omega)⟩
  have hj:=AOS hx hy m
  obtain ⟨J,hJ⟩:∃J,J=ix a x y m:=⟨_,rfl⟩
  have hat:∀(R:Type) (K:Oa->Option R),AAg (some ⟨p,0,none⟩) (m:Int) (x:Int) (y:Int) H K=K (some ⟨v.b,J * 3,none⟩):=by rw [hJ];exact T.at G hv hx hy
  rw [←hJ] at hj
  have n0:hcell H v.b (J * 3+0)=some (.int .i64 (g m J).1):=T.cell G hv hj (o:=0) (by omega)
  have n1:hcell H v.b (J * 3+1)=some (.int .i64 (g m J).2.1):=T.cell G hv hj (o:=1) (by omega)
  have n2:hcell H v.b (J * 3+2)=some (.bool (g m J).2.2):=T.cell G hv hj (o:=2) (by omega)
  obtain ⟨Hn,hHn⟩:∃Hn,Hn=H++ [some (⟨[.int .i64 (g m J).1, .int .i64 (g m J).2.1, .bool (g m J).2.2],false,0⟩:Blk)]:=⟨_,rfl⟩
  have on:Old H.length H Hn:=hHn ▸ Old.app _ _
  have mn:Owns Hn H.length (nd (g m J)) 0:=by rw [hHn];exact AAI H _
  have m1:hcell Hn H.length 1=some (.int .i64 (g m J).2.1):=mn.sees.cell 1
  obtain ⟨H2,e2,O2,B2,l2⟩:=Owns.st1 (o:=1) mn (by simp [nd]) (.int .i64 (imx (g m J).2.1 low))
  have O2':Owns H2 H.length (nd ((g m J).1,imx (g m J).2.1 low,(g m J).2.2)) 0:=O2
  have hx0:0<=imx (g m J).2.1 low:=by have:=hg m J;unfold imx;split <;> omega
  have hxl:low<=imx (g m J).2.1 low:=by unfold imx;split <;> omega
  have hDl:=O.lt hi
  have hql:=O.qlt hi
  have o2:Old H.length H H2:=on.trans (B2.old (Nat.le_refl _) on.1)
  have i2:D.inv s q2 H2:=O.same hi o2.1 (o2.2 _ hDl) λ a ha=> o2.2 _ (hql a ha)
  have hp2:Owns H2 pb [.pointer (some ⟨D.p,0,none⟩)] 0:=hp.old o2 hp.lt
  have hpl:=hp.lt
  have hOl:=hO.lt
  have hO2:Owns H2 bp (nds l.length pf) 0:=hO.old o2 hO.lt
  have T2:=T.old o2 (Nat.le_refl _)
  obtain ⟨q3,H3,e3,i3,r3,O3,z3,f3,hq3⟩:=AVF O ht (some ⟨p,0,none⟩) (x:Int) (y:Int) (m:Int) (some ⟨bp,0,none⟩) l.length pc (pb:=pb) (bb:=H.length) (by omega) hpb (by omega) (t - imx (g m J).2.1 low).toNat k (by omega) (r+m) s q2 H2 ((g m J).1,imx (g m J).2.1 low,(g m J).2.2) rfl hx0 i2 (O.mono hr (by omega)) O2' hp2 (λ a ha=> by have:=hql a ha;have:=(hq a ha).2.1;exact ⟨by omega,this⟩)
  obtain ⟨r1,hr1⟩:∃r1,r1=nlp code (t - imx (g m J).2.1 low).toNat s ((g m J).1,imx (g m J).2.1 low,(g m J).2.2):=⟨_,rfl⟩
  rw [←hr1] at i3 r3 O3 z3
  have e3':∀(R:Type) (KE:Oa->Int->Int->Int->Oa->Oa->Nat->Nat->Int->Oa->Heap->Option R) (KR:Int->Heap->Option R),AAG k KE KR k (some ⟨p,0,none⟩) (x:Int) (y:Int) t (some ⟨pb,0,none⟩) (some ⟨bp,0,none⟩) l.length pc (m:Int) (some ⟨H.length,0,none⟩) H2=if r1.1≠0 then KR r1.1 H3 else KE (some ⟨p,0,none⟩) (x:Int) (y:Int) t (some ⟨pb,0,none⟩) (some ⟨bp,0,none⟩) l.length pc (m:Int) (some ⟨H.length,0,none⟩) H3:=by rw [hr1];exact e3
  have f4:Fr D.p bp q2 H q3 H3:= .drop o2 (Nat.le_refl _) f3
  have hOff:∀a,q3=some a->a.block≠bp/\a.block≠pb/\Off p q l a.block:=λ a ha=> by
   rcases f4.new with h|h
   . subst h;exact hq a ha
   . have:=h a ha;exact ⟨by omega,by omega,T.fresh this⟩
  have hO3:Owns H3 bp (nds l.length pf) 0:=hO2.same (f3.old bp (by have:=o2.1;omega) hbp (by omega) λ a ha=> (hq a ha).1)
  have hp3:Owns H3 pb [.pointer (some ⟨D.p,0,none⟩)] 0:=hp2.same (f3.old pb (by have:=o2.1;omega) hpb (by omega) λ a ha=> (hq a ha).2.1)
  have T3:Tn N H3 p q c l e d g:=T.fr f4 hD (λ a ha=> (hq a ha).2.2) hB
  have start:∀(R:Type) (KE:Oa->Int->Int->Oa->Nat->Nat->Heap->Option R) (KR:Int->Heap->Option R) (rr:Option R),
   (if r1.1≠0 then KR r1.1 H3 else (hfad 1 (some ⟨H.length,0,none⟩) λ p405=> ldI .i64 H3 p405 λ n406=> ldI .i64 H3 (pad (some ⟨H.length,0,none⟩) 0) λ n407=> ldI .i64 H3 (pad (some ⟨H.length,0,none⟩) 1) λ n408=> ldB H3 (pad (some ⟨H.length,0,none⟩) 2) λ t409=> hidx (some ⟨bp,0,none⟩) l.length (m:Int) 3 λ p410=> hst H3 p410 [.int .i64 n407, .int .i64 n408, .bool t409] λ H411=> AAK k KE KR n (some ⟨p,0,none⟩) (x:Int) (y:Int) t (some ⟨pb,0,none⟩) (some ⟨bp,0,none⟩) l.length pc n406 (IntKind.wrap .i64 ((m:Int) - 1)) H411))=rr->
   AAK k KE KR (n+1) (some ⟨p,0,none⟩) (x:Int) (y:Int) t (some ⟨pb,0,none⟩) (some ⟨bp,0,none⟩) l.length pc low (((m+1:Nat):Int) - 1) H=rr:=by
   intro R KE KR rr h
   rw [show (((m+1:Nat):Int) - 1)=(m:Int) from by omega]
   unfold AAK AC2
   refine go_t (decide_eq_true (by omega)) ((hat _ _).trans (AAC (AAJ n0 (AAJ n1 (AAH n2 (AAW hHn rfl rfl ?_))))))
   exact AAA (go_i m1 (AAA ((e2 _ _).trans ((e3' _ _ _).trans h))))
  by_cases herr:r1.1=0
  . obtain ⟨H4,e4,O4,l4,s4⟩:=AKR (o:=m * 3) (vs:=nd r1.2.2) hO3 (by rw [AMK];have:(nd r1.2.2).length=3:=rfl;omega) rfl
    rw [ANH _ (by omega) r1.2.2] at O4
    have B4:But bp H3 H4:=⟨by omega,λ i _ hi=> s4 i hi⟩
    have i4:D.inv r1.2.1 q3 H4:=O.same i3 B4.1 (B4.2 _ (O.lt i3) (λ h=> hbp h.symm)) λ a ha=> B4.2 _ (O.qlt i3 a ha) (hOff a ha).1
    have f5:Fr D.p bp q2 H q3 H4:=f4.trans (.of_but B4)
    have T4:Tn N H4 p q c l e d g:=T3.fr (.of_but (p:=D.p) (q:=q3) B4) hD (λ a ha=> (hOff a ha).2.2) hB
    obtain ⟨q5,H5,e5,i5,r5,T5,O5,f6,hq5⟩:=ih n (by omega) (by omega) r r1.2.1 q3 H4 r1.2.2.2.1 (upd pf m r1.2.2) i4 (r3 herr) z3 T4 O4 (hp3.but B4 (λ h=> hpp h.symm)) hOff
    have hwk:wk code t (λ i=> g i (ix a x y i)) (m+1) low s pf=wk code t (λ i=> g i (ix a x y i)) m r1.2.2.2.1 r1.2.1 (upd pf m r1.2.2):=by
     conv=> lhs;rw [wk]
     simp only [←hJ,nl,←hr1]
     rw [if_neg (by simp [herr])]
    rw [hwk]
    refine ⟨q5,H5,λ R KE KR=> start R KE KR _ ?_,i5,r5,T5,O5,f5.trans f6,hq5⟩
    rw [if_neg (by simp [herr])]
    have k0:hcell H3 H.length 0=some (.int .i64 r1.2.2.1):=O3.sees.cell 0
    have k1:hcell H3 H.length 1=some (.int .i64 r1.2.2.2.1):=O3.sees.cell 1
    have k2:hcell H3 H.length 2=some (.bool r1.2.2.2.2):=O3.sees.cell 2
    refine AAA (go_i k1 (AAJ k0 (AAJ k1 (AAH k2 ((hidx3 (by omega) _ _).trans ((e4 _ _).trans ?_))))))
    rw [w64 (n:=(m:Int) - 1) (by omega) (by omega)]
    exact e5 R KE KR
  . have hwk:wk code t (λ i=> g i (ix a x y i)) (m+1) low s pf=(r1.1,r1.2.1,pf):=by
     conv=> lhs;rw [wk]
     simp only [←hJ,nl,←hr1]
     rw [if_pos herr]
    rw [hwk]
    refine ⟨q3,H3,λ R KE KR=> start R KE KR _ ?_,i3,λ h=> (herr h).elim,T3,hO3,f4,hOff⟩
    rw [if_pos herr,if_pos herr]
theorem ASz {k:Nat} {N p:Nat} {q:Oa} {c:Nat} {l:List Lv} {e d:Bool} {g:Nat->Nat->Nd} {a b x y:Nat} (G:Geo a b l) (hx:x < a) (hy:y < b) {bp pc:Nat} {pf:Nat->Nd} (hB:Off p q l bp):
 ∀(m n j:Nat),m < n->l.length=j+m->∀(H:Heap),Tn N H p q c l e d (gw a x y g pf j)->Owns H bp (nds l.length pf) 0->
 ∃H',(∀(R:Type) (KE:Heap->Option R),AAN k KE n (some ⟨p,0,none⟩) (x:Int) (y:Int) (some ⟨bp,0,none⟩) l.length pc ((l.length:Nat):Int) (j:Int) H=KE H')/\Tn N H' p q c l e d (gw a x y g pf l.length)/\H.length<=H'.length/\(∀i,i < H.length->(∀(j:Nat) (v:Lv),l[j]? =some v->v.b≠i)->hblk H' i=hblk H i):=by
 intro m
 have hlen:=G.len
 induction m with
 |zero=>
  intro n j hn hj H T hO
  obtain ⟨n,rfl⟩:∃n',n=n'+1:=⟨n - 1,by omega⟩
  have hjl:j=l.length:=by omega
  subst hjl
  refine ⟨H,λ R KE=> ?_,T,Nat.le_refl _,λ _ _ _=> rfl⟩
  unfold AAN ACz
  exact go_f (decide_eq_false (by omega)) rfl
 |succ m ih=>
  intro n j hn hj H T hO
  obtain ⟨n,rfl⟩:∃n',n=n'+1:=⟨n - 1,by omega⟩
  obtain ⟨v,hv⟩:∃v,l[j]? =some v:=⟨_,List.getElem?_eq_getElem (by omega)⟩
  have hjx:=AOS hx hy j
  have cell:∀o,o < 3->hcell H bp (j * 3+o)=(nd (pf j))[o]? :=λ o ho=> by rw [hO.sees.cell];exact AQX _ (by omega) ho
  have n0:hcell H bp (j * 3+0)=some (.int .i64 (pf j).1):=cell 0 (by omega)
  have n1:hcell H bp (j * 3+1)=some (.int .i64 (pf j).2.1):=cell 1 (by omega)
  have n2:hcell H bp (j * 3+2)=some (.bool (pf j).2.2):=cell 2 (by omega)
  obtain ⟨Hn,hHn⟩:∃Hn,Hn=H++ [some (⟨[.int .i64 (pf j).1, .int .i64 (pf j).2.1, .bool (pf j).2.2],false,0⟩:Blk)]:=⟨_,rfl⟩
  have on:Old H.length H Hn:=hHn ▸ Old.app _ _
  have mn:Owns Hn H.length (nd (pf j)) 0:=by rw [hHn];exact AAI H _
  have k0:hcell Hn H.length 0=some (.int .i64 (pf j).1):=mn.sees.cell 0
  have k1:hcell Hn H.length 1=some (.int .i64 (pf j).2.1):=mn.sees.cell 1
  have k2:hcell Hn H.length 2=some (.bool (pf j).2.2):=mn.sees.cell 2
  have Tn1:=T.old on (Nat.le_refl _)
  have hat:∀(R:Type) (K:Oa->Option R),AAg (some ⟨p,0,none⟩) (j:Int) (x:Int) (y:Int) (roH Hn) K=K (some ⟨v.b,ix a x y j * 3,none⟩):=by
   obtain ⟨bq,hq,h1,_⟩:=Tn1.row G.pos
   have h2:=Tn1.o
   rw [hq] at h2
   exact Ab7 G h2.sees.ro h1.sees.ro hv hx hy
  obtain ⟨H2,e3,T2,B2,l2⟩:=Tn1.put3 G hv hjx (pf j)
  rw [AY5] at T2
  have hO2:Owns H2 bp (nds l.length pf) 0:=(hO.old on hO.lt).but B2 (λ h=> hB.2.2 j v hv h.symm)
  obtain ⟨H3,e4,T3,l3,s3⟩:=ih n (j+1) (by omega) (by omega) H2 T2 hO2
  refine ⟨H3,λ R KE=> ?_,T3,by have:=on.1;omega,λ i hi hne=> ?_⟩
  . have e3':∀(R:Type) (K:Heap->Option R),hst Hn (some ⟨v.b,ix a x y j * 3,none⟩) [.int .i64 (pf j).1, .int .i64 (pf j).2.1, .bool (pf j).2.2] K=K H2:=e3
    unfold AAN ACz
    refine go_t (decide_eq_true (by omega)) ((hidx3 (by omega) _ _).trans (AAJ n0 (AAJ n1 (AAH n2 (AAW hHn rfl rfl ((hat _ _).trans ?_))))))
    rw [AU6]
    refine AAJ k0 (AAJ k1 (AAH k2 (AAC ((e3' _ _).trans ?_))))
    rw [w64 (n:=(j:Int)+1) (by omega) (by omega)]
    exact e4 R KE
  . rw [s3 i (by have:=on.1;omega) hne,B2.2 i (by have:=on.1;omega) (λ h=> hne j v hv h.symm),on.2 i hi]
theorem AS1 {k:Nat} (hk:70000 < k) {S:Type} {D:Dev S} {code:Cod S} (O:DevOk D code (λ R=> @ABe R k)) {t:Int} (ht:t<=65536) {N p:Nat} {q:Oa} {c:Nat} {l:List Lv} {e d:Bool} {g:Nat->Nat->Nd} {a b x y:Nat} (G:Geo a b l) (hx:x < a) (hy:y < b) (hg:∀i j,0<=(g i j).2.1) {pb:Nat} (hpb:pb≠D.p) (hD:Off p q l D.p) {r:Nat} {s:S} {q2:Oa} {H:Heap} (hi:D.inv s q2 H) (hr:D.room s (r+l.length+t.toNat)) (T:Tn N H p q c l e d g) (hp:Owns H pb [.pointer (some ⟨D.p,0,none⟩)] 0) (hq:∀a,q2=some a->a.block≠pb/\Off p q l a.block):
 ∃q2' H',(∀(R:Type) (K:Int->Heap->Option R),AB5 k (some ⟨p,0,none⟩) (x:Int) (y:Int) t (some ⟨pb,0,none⟩) H K=K (wkr code t g a x y l.length s).1 H')/\
  D.inv (wkr code t g a x y l.length s).2.1 q2' H'/\((wkr code t g a x y l.length s).1=0->D.room (wkr code t g a x y l.length s).2.1 r)/\
  Tn N H' p q c l e d (if (wkr code t g a x y l.length s).1=0 then gw a x y g (wkr code t g a x y l.length s).2.2 l.length else g)/\
  H.length<=H'.length/\(∀i,i < H.length->i≠D.p->(∀a,q2=some a->a.block≠i)->(∀(j:Nat) (v:Lv),l[j]? =some v->v.b≠i)->hblk H' i=hblk H i)/\(q2'=q2∨∀a,q2'=some a->H.length<=a.block):=by
 have hlen:=G.len
 obtain ⟨H1,hH1⟩:∃H1,H1=H++ [some (⟨nds l.length (λ _=> nz),false,0⟩:Blk)]:=⟨_,rfl⟩
 have o1:Old H.length H H1:=hH1 ▸ Old.app _ _
 have O1:Owns H1 H.length (nds l.length (λ _=> nz)) 0:=by rw [hH1];exact AAI H _
 have hDl:=O.lt hi
 have hql:=O.qlt hi
 have hpl:=hp.lt
 have i1:D.inv s q2 H1:=O.same hi o1.1 (o1.2 _ hDl) λ a ha=> o1.2 _ (hql a ha)
 have T1:=T.old o1 (Nat.le_refl _)
 have hB:Off p q l H.length:=T.fresh (Nat.le_refl _)
 obtain ⟨q2',H2,e2,i2,r2,T2,O2,f2,hq2⟩:=AS0 hk O ht G hx hy hg (pb:=pb) (bp:=H.length) (pc:=l.length) (by omega) hpb (by omega) hD hB l.length k (by omega) (Nat.le_refl _) r s q2 H1 0 (λ _=> nz) i1 (by rw [Int.sub_zero];exact hr) (by omega) T1 O1 (hp.old o1 hp.lt) (λ a ha=> ⟨by have:=hql a ha;omega,(hq a ha).1,(hq a ha).2⟩)
 obtain ⟨w,hw⟩:∃w,w=wkr code t g a x y l.length s:=⟨_,rfl⟩
 have hw2:w=wk code t (λ i=> g i (ix a x y i)) l.length 0 s (λ _=> nz):=hw
 have f3:Fr D.p H.length q2 H q2' H2:=(Fr.of_old o1).trans f2
 rw [←hw2] at i2 r2 O2
 have m0:hcell H p 0=some (.slice q l.length c):=T.o.sees.cell 0
 have m1:hcell H1 p 0=some (.slice q l.length c):=T1.o.sees.cell 0
 have emk:∀(R:Type) (K:Oa->Nat->Nat->Heap->Option R),hmk [.int .i64 0, .int .i64 0, .bool false] 24 H ((l.length:Nat):Int) ((l.length:Nat):Int) K=K (some ⟨H.length,0,none⟩) l.length l.length H1:=λ R K=> by rw [hH1];exact hmk3 H (by omega) R K
 have start:∀(R:Type) (K:Int->Heap->Option R) (rr:Option R),(if w.1≠0 then K w.1 H2 else AAN k (λ H449=> K 0 H449) k (some ⟨p,0,none⟩) (x:Int) (y:Int) (some ⟨H.length,0,none⟩) l.length l.length ((l.length:Nat):Int) 0 H2)=rr->AB5 k (some ⟨p,0,none⟩) (x:Int) (y:Int) t (some ⟨pb,0,none⟩) H K=rr:=by
  intro R K rr h
  unfold AB5 AF2
  refine AAC (AAA (go_l m0 ((emk _ _).trans (AAC (AAA (go_l m1 ?_))))))
  rw [w64 (n:=((l.length:Nat):Int) - 1) (by omega) (by omega)]
  refine (e2 _ _ _).trans ?_
  rw [←hw2];exact h
 by_cases herr:w.1=0
 . obtain ⟨H3,e3,T3,l3,s3⟩:=ASz (k:=k) (pc:=l.length) (pf:=w.2.2) G hx hy hB l.length k 0 (by omega) (by omega) H2 (by rw [AY4];exact T2) O2
   have i3:D.inv w.2.1 q2' H3:=O.same i2 l3 (s3 _ (O.lt i2) λ j v hv=> hD.2.2 j v hv) λ a ha=> s3 _ (O.qlt i2 a ha) λ j v hv=> (hq2 a ha).2.2.2.2 j v hv
   refine ⟨q2',H3, ?_⟩
   rw [←hw]
   refine ⟨λ R K=> start R K _ ?_,i3,r2,by rw [if_pos herr];exact T3,by have:=f3.len;omega,λ i hi' h1 h2 h3=> ?_,f3.new⟩
   . rw [if_neg (by simp [herr]),herr];exact e3 R _
   . rw [s3 i (by have:=f3.len;omega) h3,f3.old i hi' h1 (by omega) h2]
 . refine ⟨q2',H2, ?_⟩
   rw [←hw]
   refine ⟨λ R K=> start R K _ ?_,i2,r2,by rw [if_neg herr];exact T2,f3.len,λ i hi' h1 h2 _=> f3.old i hi' h1 (by omega) h2,f3.new⟩
   rw [if_pos herr]
end Go.Proofs.Ytmanlfonppfhaaa.Sh
namespace Go.Proofs.Ytmanlfonppfhaaa.FW
theorem Shows.same {H H':Heap} {q:Option Addr} {cs:List Value} (h:Shows H q cs) (e:∀a,q=some a->hblk H' a.block=hblk H a.block):Shows H' q cs:=by
 rcases h with h|⟨b,o,full,rfl,⟨B,h1,h2⟩,h3⟩
 . exact .inl h
 . exact .inr ⟨b,o,full,rfl,⟨B,by rw [e _ rfl];exact h1,h2⟩,h3⟩
end Go.Proofs.Ytmanlfonppfhaaa.FW
namespace Go.Proofs.Ytmanlfonppfhaaa.Sh
open Go.Proofs.Ytmanlfonppfhaaa.FW Go.IntWalk
def Gok (g:Nat->Nat->Nd):Prop:=∀i j,0<=(g i j).2.1
theorem Abj {S:Type} (code:Cod S):∀(m:Nat) (s:S) (n:Nd),0<=n.2.1->0<=(nlp code m s n).2.2.2.1:=by
 intro m
 induction m with
 |zero=> intro s n h;exact h
 |succ m ih=>
  intro s n h
  rw [nlp]
  split
  . exact h
  . split
    . exact h
    . split
      . exact h
      . exact ih _ _ (by simp only;omega)
theorem Agb {S:Type} (code:Cod S) (t:Int) (f:Nat->Nd) (hf:∀i,0<=(f i).2.1):∀(m:Nat) (low:Int) (s:S) (pf:Nat->Nd),(∀i,0<=(pf i).2.1)->∀i,0<=((wk code t f m low s pf).2.2 i).2.1:=by
 intro m
 induction m with
 |zero=> intro low s pf h;exact h
 |succ m ih=>
  intro low s pf h
  rw [wk]
  split
  . exact h
  . refine ih _ _ _ λ i=> ?_
    by_cases hi:i=m
    . rw [hi,ANZ]
      exact Abj _ _ _ _ (by have:=hf m;simp only [imx];split <;> omega)
    . rw [AOL _ _ hi];exact h i
theorem Agv {a x y:Nat} {g:Nat->Nat->Nd} {pf:Nat->Nd} {n:Nat} (h:Gok g) (hp:∀i,0<=(pf i).2.1):Gok (gw a x y g pf n):=by
 intro i j
 unfold gw
 split
 . show 0<=(upd _ _ _ j).2.1
   unfold upd
   split
   . exact hp i
   . exact h i j
 . exact h i j
theorem Aan {S:Type} (code:Cod S) (t:Int) {g:Nat->Nat->Nd} (h:Gok g) (a x y L:Nat) (s:S):∀i,0<=((wkr code t g a x y L s).2.2 i).2.1:=
 Agb code t _ (λ i=> h _ _) L 0 s _ (λ _=> Int.le_refl 0)
structure Ch (p:Nat) (l:List Lv) (pw:Nat) (q:Oa) (H:Heap) (q':Oa) (H':Heap):Prop where
 len:H.length<=H'.length
 old:∀i,i < H.length->i≠pw->(∀a,q=some a->a.block≠i)->i≠p->(∀(j:Nat) (v:Lv),l[j]? =some v->v.b≠i)->hblk H' i=hblk H i
 new:q'=q∨∀a,q'=some a->H.length<=a.block
theorem Ch.trans {p:Nat} {l:List Lv} {pw:Nat} {q q1 q2:Oa} {H H1 H2:Heap} (x:Ch p l pw q H q1 H1) (y:Ch p l pw q1 H1 q2 H2):Ch p l pw q H q2 H2:=by
 refine ⟨Nat.le_trans x.len y.len,λ i hi h1 h2 h3 h4=> (y.old i (Nat.lt_of_lt_of_le hi x.len) h1 (λ a ha=> ?_) h3 h4).trans (x.old i hi h1 h2 h3 h4), ?_⟩
 . rcases x.new with h|h
   . subst h;exact h2 a ha
   . have:=h a ha;omega
 . rcases y.new with h|h
   . subst h;exact x.new
   . exact .inr λ a ha=> Nat.le_trans x.len (h a ha)
theorem Ch.of_old {p:Nat} {l:List Lv} {pw:Nat} {q:Oa} {H H':Heap} (o:Old H.length H H'):Ch p l pw q H q H':=⟨o.1,λ i hi _ _ _ _=> o.2 i hi, .inl rfl⟩
theorem Ch.of_but {p:Nat} {l:List Lv} {pw:Nat} {q:Oa} {H H':Heap} (o:But p H H'):Ch p l pw q H q H':=⟨o.1,λ i hi _ _ h _=> o.2 i hi h, .inl rfl⟩
theorem Ch.of_stp {p:Nat} {l:List Lv} {pw:Nat} {q q':Oa} {H H':Heap} (o:Stp pw q H q' H'):Ch p l pw q H q' H':=⟨o.len,λ i hi h1 h2 _ _=> o.old i hi h1 h2,o.new⟩
theorem Ch.off {N:Nat} {H:Heap} {p:Nat} {q:Oa} {c:Nat} {l:List Lv} {e d:Bool} {g:Nat->Nat->Nd} (T:Tn N H p q c l e d g) {pw:Nat} {q1 q2:Oa} {H':Heap} (s:Ch p l pw q1 H q2 H') (h:∀a,q1=some a->Off p q l a.block):∀a,q2=some a->Off p q l a.block:=by
 intro a ha
 rcases s.new with h1|h1
 . subst h1;exact h a ha
 . exact T.fresh (h1 a ha)
theorem Tn.flag {N:Nat} {H H':Heap} {p:Nat} {q:Oa} {c:Nat} {l:List Lv} {e d e' d':Bool} {g:Nat->Nat->Nd} (T:Tn N H p q c l e d g) (ho:Owns H' p [.slice q l.length c, .bool e', .bool d'] 0) (hb:But p H H'):Tn N H' p q c l e' d' g:=by
 refine ⟨ho,Bld.but2 T.b hb T.ap,T.low,T.ap,λ i v hv=> ?_,T.d⟩
 obtain ⟨g1,g2,g3,g4⟩:=T.n i v hv
 exact ⟨g1.but hb g3,g2,g3,g4⟩
open Go.Proofs.Ytmanlfonppfhaaa.FW Go.IntWalk
def szr (bs:List Int) (a:Nat):Nat:=if 0 < a/\bs.getD (a - 1) 0=255 then 7 else 8
def bitr (bs:List Int) (a s:Nat):Nat:=(bs.getD (a - 1) 0).toNat / 2 ^ s % 2
def rget (bs:List Int) (s:Nat×Nat):(Int×Int)×Nat×Nat:=
 if s.2=0 then
  (if s.1=bs.length then ((0,7),s)
   else if szr bs s.1=7/\128<=bs.getD s.1 0 then ((0,8),s)
   else ((((bitr bs (s.1+1) (szr bs s.1 - 1):Nat):Int),0),s.1+1,szr bs s.1 - 1))
 else ((((bitr bs s.1 (s.2 - 1):Nat):Int),0),s.1,s.2 - 1)
structure Okr (bs:List Int) (s:Nat×Nat):Prop where
 a:s.1<=bs.length
 l:s.2<=7
 z:0 < s.2->0 < s.1
def Byts (bs:List Int):Prop:=(∀x∈bs,0<=x/\x<=255)/\bs.length < 1000000
theorem AS7 (bs:List Int) (a:Nat):szr bs a<=8:=by unfold szr;split <;> omega
theorem AS8 (bs:List Int) (a:Nat):7<=szr bs a:=by unfold szr;split <;> omega
theorem ATF {bs:List Int} {s:Nat×Nat} (h:Okr bs s):Okr bs (rget bs s).2:=by
 have h1:=AS7 bs s.1
 have h2:=AS8 bs s.1
 have:=h.a;have:=h.l;have:=h.z
 unfold rget
 split
 . split
   . exact h
   . split
     . exact h
     . exact ⟨by simp only;omega,by simp only;omega,by simp only;omega⟩
 . exact ⟨by simp only;omega,by simp only;omega,by simp only;omega⟩
theorem ALN (bs:List Int) (s:Nat×Nat):((rget bs s).1.1=0∨(rget bs s).1.1=1)/\((rget bs s).1.2≠0->(rget bs s).2=s):=by
 have hb:∀a s,(((bitr bs a s:Nat):Int)=0∨((bitr bs a s:Nat):Int)=1):=λ a s=> by unfold bitr;omega
 unfold rget
 split
 . split
   . exact ⟨.inl rfl,λ _=> rfl⟩
   . split
     . exact ⟨.inl rfl,λ _=> rfl⟩
     . exact ⟨hb _ _,λ h=> (h rfl).elim⟩
 . exact ⟨hb _ _,λ h=> (h rfl).elim⟩
def rcl (q:Oa) (n c a s:Nat):List Value:= [.bool true, .slice q n c, .int .i64 ((a:Nat):Int), .int .i64 ((s:Nat):Int)]
structure Rd (H:Heap) (p:Nat) (q:Oa) (bs:List Int) (s:Nat×Nat):Prop where
 c:∃c,Owns H p (rcl q bs.length c s.1 s.2) 0
 sh:Shows H q (byt bs)
 ap:∀a,q=some a->a.block≠p
 ok:Okr bs s
 by_:Byts bs
theorem Rd.lt {H:Heap} {p:Nat} {q:Oa} {bs:List Int} {s:Nat×Nat} (h:Rd H p q bs s):p < H.length:=by obtain ⟨c,h1⟩:=h.c;exact h1.lt
theorem Rd.but {H H':Heap} {p p2:Nat} {q:Oa} {bs:List Int} {s:Nat×Nat} (h:Rd H p q bs s) (o:But p2 H H') (h1:p≠p2) (h2:∀a,q=some a->a.block≠p2):Rd H' p q bs s:=by
 obtain ⟨c,hc⟩:=h.c
 exact ⟨⟨c,hc.but o h1⟩,h.sh.but o h2,h.ap,h.ok,h.by_⟩
theorem Rd.keep {H H':Heap} {p:Nat} {q:Oa} {bs:List Int} {s:Nat×Nat} (h:Rd H p q bs s) (o:Old H.length H H'):Rd H' p q bs s:=by
 obtain ⟨c,hc⟩:=h.c
 exact ⟨⟨c,hc.old o hc.lt⟩,h.sh.keep o,h.ap,h.ok,h.by_⟩
theorem Rd.st2 {H:Heap} {p:Nat} {q:Oa} {n c a s:Nat} (h:Owns H p (rcl q n c a s) 0) (x:Nat):∃H',(∀(R:Type) (K:Heap->Option R),hst1 H (some ⟨p,2,none⟩) (.int .i64 ((x:Nat):Int)) K=K H')/\Owns H' p (rcl q n c x s) 0/\But p H H'/\H'.length=H.length:=Owns.st1 (o:=2) h (by simp [rcl]) _
theorem Rd.st3 {H:Heap} {p:Nat} {q:Oa} {n c a s:Nat} (h:Owns H p (rcl q n c a s) 0) (x:Nat):∃H',(∀(R:Type) (K:Heap->Option R),hst1 H (some ⟨p,3,none⟩) (.int .i64 ((x:Nat):Int)) K=K H')/\Owns H' p (rcl q n c a x) 0/\But p H H'/\H'.length=H.length:=Owns.st1 (o:=3) h (by simp [rcl]) _
theorem AIz {H:Heap} {q:Oa} {xs:List Int} (h:Shows H q (byt xs)) {i:Nat} (hi:i < xs.length):
 ∃p,(∀(R:Type) (K:Oa->Option R),hidx q xs.length (i:Int) 1 K=K p)/\∀(R:Type) (K:Int->Option R),ldI .u8 H p K=K (xs.getD i 0):=by
 obtain ⟨p,e,_,m⟩:=h.idx (l:=xs.length) (size:=1) (by rw [ARh];omega) (i:=(i:Int)) (by omega) (by omega) (by omega)
 exact ⟨p,e,λ R K=> AR5 (m _ (by rw [Int.toNat_natCast,Nat.mul_one];simp [byt,hi])) rfl K⟩
theorem Byts.at {bs:List Int} (h:Byts bs) (i:Nat):∃n:Nat,bs.getD i 0=(n:Int)/\n<=255:=by
 by_cases hi:i < bs.length
 . have:bs.getD i 0∈bs:=by rw [List.getD_eq_getElem?_getD,List.getElem?_eq_getElem hi];exact List.getElem_mem hi
   have:=h.1 _ this
   exact ⟨(bs.getD i 0).toNat,by omega,by omega⟩
 . exact ⟨0,by rw [List.getD_eq_getElem?_getD,List.getElem?_eq_none (by omega)];rfl,by omega⟩
theorem bit8 {bs:List Int} (hb:Byts bs) (a s:Nat) (hs:s<=8) (R:Type) (K:Int->Option R):hbin .shr .u8 (bs.getD (a - 1) 0) (IntKind.wrap .u64 ((s:Nat):Int)) (λ n=> hbin .and .i64 (IntKind.wrap .i64 n) 1 K)=K ((bitr bs a s:Nat):Int):=by
 obtain ⟨n,h1,h2⟩:=hb.at (a - 1)
 have h3:n / 2 ^ s<=n:=Nat.div_le_self _ _
 unfold bitr
 rw [h1,shr8 hs,Int.toNat_natCast]
 generalize n / 2 ^ s=d at h3 ⊢
 rw [w64 (by omega) (by omega)]
 have:=and64 (a:=d) (b:=1) (by omega) (by omega) K
 rw [Nat.and_one_is_mod] at this
 exact this
theorem ASA (k:Nat) {H:Heap} {p:Nat} {q:Oa} {bs:List Int} {s:Nat×Nat} (h:Rd H p q bs s):
 ∃H',(∀(R:Type) (K:Int->Int->Heap->Option R),ABT k (some ⟨p,0,none⟩) H K=K (rget bs s).1.1 (rget bs s).1.2 H')/\Rd H' p q bs (rget bs s).2/\But p H H':=by
 obtain ⟨c,hO⟩:=h.c
 obtain ⟨a,l⟩:=s
 have hok:=h.ok
 have ha:=hok.a
 have hl7:=hok.l
 have hz:=hok.z
 have hlen:=h.by_.2
 have hr:=ATF hok
 simp only at ha hl7 hz
 have m:∀o,hcell H p o= [Value.bool true, .slice q bs.length c, .int .i64 ((a:Nat):Int), .int .i64 ((l:Nat):Int)][o]? :=λ o=> hO.sees.cell o
 have tail:∀(H2:Heap) (x y:Nat),Owns H2 p (rcl q bs.length c x (y+1)) 0->But p H H2->0 < x->x<=bs.length->y<=7->
  ∃H',(∀(R:Type) (K:Int->Int->Heap->Option R),(hnil (some ⟨p,0,none⟩) λ p224=> hfad 3 p224 λ p225=> ldI .i64 H2 p225 λ n226=> hnil (some ⟨p,0,none⟩) λ p227=> hfad 3 p227 λ p228=> hst1 H2 p228 (.int .i64 (IntKind.wrap .i64 (n226 - 1))) λ H229=> hnil (some ⟨p,0,none⟩) λ p230=> hfad 1 p230 λ p231=> ldL H229 p231 λ q232 l233 c234=> hnil (some ⟨p,0,none⟩) λ p235=> hfad 2 p235 λ p236=> ldI .i64 H229 p236 λ n237=> hidx q232 l233 (IntKind.wrap .i64 (n237 - 1)) 1 λ p238=> ldI .u8 H229 p238 λ n239=> hnil (some ⟨p,0,none⟩) λ p240=> hfad 3 p240 λ p241=> ldI .i64 H229 p241 λ n242=> hbin .shr .u8 n239 (IntKind.wrap .u64 n242) λ n243=> hbin .and .i64 (IntKind.wrap .i64 n243) 1 λ n244=> K n244 0 H229)=K ((bitr bs x y:Nat):Int) 0 H')/\Owns H' p (rcl q bs.length c x y) 0/\But p H H':=by
  intro H2 x y h2 b2 hx hxl hy
  obtain ⟨H3,e3,O3,b3,n3⟩:=Rd.st3 h2 y
  have w1:IntKind.wrap .i64 (((y+1:Nat):Int) - 1)=((y:Nat):Int):=by rw [w64 (by omega) (by omega)];omega
  have w2:IntKind.wrap .i64 (((x:Nat):Int) - 1)=((x - 1:Nat):Int):=by rw [w64 (by omega) (by omega)];omega
  have m2:∀o,hcell H2 p o= [Value.bool true, .slice q bs.length c, .int .i64 ((x:Nat):Int), .int .i64 ((y+1:Nat):Int)][o]? :=λ o=> h2.sees.cell o
  have m3:∀o,hcell H3 p o= [Value.bool true, .slice q bs.length c, .int .i64 ((x:Nat):Int), .int .i64 ((y:Nat):Int)][o]? :=λ o=> O3.sees.cell o
  have sh3:Shows H3 q (byt bs):=h.sh.but (b2.trans b3) h.ap
  obtain ⟨z,e4,e5⟩:=AIz sh3 (i:=x - 1) (by omega)
  have e3':∀(R:Type) (K:Heap->Option R),hst1 H2 (some ⟨p,3,none⟩) (.int .i64 (IntKind.wrap .i64 (((y+1:Nat):Int) - 1))) K=K H3:=by rw [w1];exact e3
  have e4':∀(R:Type) (K:Oa->Option R),hidx q bs.length (IntKind.wrap .i64 (((x:Nat):Int) - 1)) 1 K=K z:=by rw [w2];exact e4
  refine ⟨H3,λ R K=> ?_,O3,b2.trans b3⟩
  with_reducible repeat (first|refine (e3' _ _).trans ?_|refine (e4' _ _).trans ?_|refine (e5 _ _).trans ?_|((first|apply AAJ|apply AAH|apply AAY|apply AAw|apply go_i|apply go_b|apply go_l|apply go_p);with_unfolding_all first|exact (m2 _).trans rfl|exact (m3 _).trans rfl|rfl)|refine AAD rfl ?_|refine AAz ?_|refine AAx ?_|refine AAA ?_|refine AAC ?_|(refine go_t ?_ ?_;with_unfolding_all (show _=true;rfl))|(refine go_f ?_ ?_;with_unfolding_all (show _=false;rfl)))
  exact bit8 h.by_ x y (by omega) R λ n=> K n 0 H3
 by_cases hl0:l=0
 . subst hl0
   have d0:(((0:Nat):Int)==0)=true:=rfl
   by_cases hat:a=bs.length
   . have d1:(((a:Nat):Int)==((bs.length:Nat):Int))=true:=by rw [hat];exact beq_self_eq_true _
     have er:rget bs (a,0)=((0,7),a,0):=by unfold rget;rw [if_pos rfl,if_pos hat]
     rw [er]
     refine ⟨H,λ R K=> ?_,h, .refl _ _⟩
     unfold ABT ADm AA1 ACd
     dsimp only
     with_reducible repeat (first|((first|apply AAJ|apply AAH|apply AAY|apply AAw|apply go_i|apply go_b|apply go_l|apply go_p);with_unfolding_all first|exact (m _).trans rfl|rfl)|refine AAD rfl ?_|refine go_t d0 ?_|refine go_f d0 ?_|refine go_t d1 ?_|refine go_f d1 ?_|refine AAz ?_|refine AAx ?_|refine AAA ?_|refine AAC ?_|(refine go_t ?_ ?_;with_unfolding_all (show _=true;rfl))|(refine go_f ?_ ?_;with_unfolding_all (show _=false;rfl)))
     rfl
   . have d1:(((a:Nat):Int)==((bs.length:Nat):Int))=false:=by rw [beq_eq_false_iff_ne];omega
     have hp2:∀(R:Type) (KN:Oa->Int->Bool->Option R),ABI k (some ⟨p,0,none⟩) 8 H KN=KN (some ⟨p,0,none⟩) 8 (decide (szr bs a=7)):=by
      intro R KN
      by_cases h0:0 < a
      . have d2:decide (((a:Nat):Int) > 0)=true:=decide_eq_true (by omega)
        obtain ⟨z,e4,e5⟩:=AIz h.sh (i:=a - 1) (by omega)
        have w2:IntKind.wrap .i64 (((a:Nat):Int) - 1)=((a - 1:Nat):Int):=by rw [w64 (by omega) (by omega)];omega
        have e4':∀(R:Type) (K:Oa->Option R),hidx q bs.length (IntKind.wrap .i64 (((a:Nat):Int) - 1)) 1 K=K z:=by rw [w2];exact e4
        have hs:decide (szr bs a=7)=(bs.getD (a - 1) 0==255):=by
         unfold szr
         by_cases h255:bs.getD (a - 1) 0=255
         . rw [if_pos ⟨h0,h255⟩,h255];rfl
         . rw [if_neg λ hh=> h255 hh.2];symm;simpa using h255
        unfold ABI AE3
        with_reducible repeat (first|refine (e4' _ _).trans ?_|refine (e5 _ _).trans ?_|((first|apply AAJ|apply AAH|apply AAY|apply AAw|apply go_i|apply go_b|apply go_l|apply go_p);with_unfolding_all first|exact (m _).trans rfl|rfl)|refine AAD rfl ?_|refine go_t d2 ?_|refine go_f d2 ?_|refine AAz ?_|refine AAx ?_|refine AAA ?_|refine AAC ?_|(refine go_t ?_ ?_;with_unfolding_all (show _=true;rfl))|(refine go_f ?_ ?_;with_unfolding_all (show _=false;rfl)))
        rw [hs]
      . have d2:decide (((a:Nat):Int) > 0)=false:=decide_eq_false (by omega)
        have hs:decide (szr bs a=7)=false:=by unfold szr;rw [if_neg λ hh=> h0 hh.1];rfl
        unfold ABI AE3
        with_reducible repeat (first|((first|apply AAJ|apply AAH|apply AAY|apply AAw|apply go_i|apply go_b|apply go_l|apply go_p);with_unfolding_all first|exact (m _).trans rfl|rfl)|refine AAD rfl ?_|refine go_t d2 ?_|refine go_f d2 ?_|refine AAz ?_|refine AAx ?_|refine AAA ?_|refine AAC ?_|(refine go_t ?_ ?_;with_unfolding_all (show _=true;rfl))|(refine go_f ?_ ?_;with_unfolding_all (show _=false;rfl)))
        rw [hs]
     obtain ⟨z,e4,e5⟩:=AIz h.sh (i:=a) (by omega)
     by_cases hbad:szr bs a=7/\128<=bs.getD a 0
     . have er:rget bs (a,0)=((0,8),a,0):=by unfold rget;rw [if_pos rfl,if_neg hat,if_pos hbad]
       have d3:decide (szr bs a=7)=true:=decide_eq_true hbad.1
       have d4:decide (bs.getD a 0≥128)=true:=decide_eq_true hbad.2
       rw [er]
       refine ⟨H,λ R K=> ?_,h, .refl _ _⟩
       unfold ABT ADm AA1 ACd AA0 ADS
       dsimp only
       with_reducible repeat (first|refine (hp2 _ _).trans ?_|refine (e4 _ _).trans ?_|refine (e5 _ _).trans ?_|((first|apply AAJ|apply AAH|apply AAY|apply AAw|apply go_i|apply go_b|apply go_l|apply go_p);with_unfolding_all first|exact (m _).trans rfl|rfl)|refine AAD rfl ?_|refine go_t d0 ?_|refine go_f d0 ?_|refine go_t d1 ?_|refine go_f d1 ?_|refine go_t d3 ?_|refine go_f d3 ?_|refine go_t d4 ?_|refine go_f d4 ?_|refine AAz ?_|refine AAx ?_|refine AAA ?_|refine AAC ?_|(refine go_t ?_ ?_;with_unfolding_all (show _=true;rfl))|(refine go_f ?_ ?_;with_unfolding_all (show _=false;rfl)))
       rfl
     . have er:rget bs (a,0)=((((bitr bs (a+1) (szr bs a - 1):Nat):Int),0),a+1,szr bs a - 1):=by unfold rget;rw [if_pos rfl,if_neg hat,if_neg hbad]
       have hz7:=AS8 bs a
       have hz8:=AS7 bs a
       have hp1:∀(R:Type) (KN:Oa->Int->Option R) (KR:Int->Int->Option R),AA0 k (some ⟨p,0,none⟩) 8 H KN KR=KN (some ⟨p,0,none⟩) ((szr bs a:Nat):Int):=by
        intro R KN KR
        by_cases h7:szr bs a=7
        . have d3:decide (szr bs a=7)=true:=decide_eq_true h7
          have d4:decide (bs.getD a 0≥128)=false:=decide_eq_false λ hh=> hbad ⟨h7,hh⟩
          unfold AA0 ADS
          with_reducible repeat (first|refine (hp2 _ _).trans ?_|refine (e4 _ _).trans ?_|refine (e5 _ _).trans ?_|((first|apply AAJ|apply AAH|apply AAY|apply AAw|apply go_i|apply go_b|apply go_l|apply go_p);with_unfolding_all first|exact (m _).trans rfl|rfl)|refine AAD rfl ?_|refine go_t d3 ?_|refine go_f d3 ?_|refine go_t d4 ?_|refine go_f d4 ?_|refine AAz ?_|refine AAx ?_|refine AAA ?_|refine AAC ?_|(refine go_t ?_ ?_;with_unfolding_all (show _=true;rfl))|(refine go_f ?_ ?_;with_unfolding_all (show _=false;rfl)))
          rw [h7];rfl
        . have d3:decide (szr bs a=7)=false:=decide_eq_false h7
          have h8:szr bs a=8:=by omega
          unfold AA0 ADS
          with_reducible repeat (first|refine (hp2 _ _).trans ?_|((first|apply AAJ|apply AAH|apply AAY|apply AAw|apply go_i|apply go_b|apply go_l|apply go_p);with_unfolding_all first|exact (m _).trans rfl|rfl)|refine AAD rfl ?_|refine go_t d3 ?_|refine go_f d3 ?_|refine AAz ?_|refine AAx ?_|refine AAA ?_|refine AAC ?_|(refine go_t ?_ ?_;with_unfolding_all (show _=true;rfl))|(refine go_f ?_ ?_;with_unfolding_all (show _=false;rfl)))
          rw [h8];rfl
       obtain ⟨H1,e1,O1,b1,n1⟩:=Rd.st2 hO (a+1)
       obtain ⟨H2,e2,O2,b2,n2⟩:=Rd.st3 O1 (szr bs a)
       obtain ⟨H3,e3,O3,b3⟩:=tail H2 (a+1) (szr bs a - 1) (by rw [show szr bs a - 1+1=szr bs a from by omega];exact O2) (b1.trans b2) (by omega) (by omega) (by omega)
       have w1:IntKind.wrap .i64 (((a:Nat):Int)+1)=((a+1:Nat):Int):=by rw [w64 (by omega) (by omega)];omega
       have e1':∀(R:Type) (K:Heap->Option R),hst1 H (some ⟨p,2,none⟩) (.int .i64 (IntKind.wrap .i64 (((a:Nat):Int)+1))) K=K H1:=by rw [w1];exact e1
       rw [er] at hr ⊢
       refine ⟨H3,λ R K=> ?_,⟨⟨c,O3⟩,h.sh.but b3 h.ap,h.ap,hr,h.by_⟩,b3⟩
       unfold ABT ADm AA1 ACd
       dsimp only
       refine AAC (AAA ?_)
       with_reducible repeat (first|refine (hp1 _ _ _).trans ?_|refine (e1' _ _).trans ?_|refine (e2 _ _).trans ?_|((first|apply AAJ|apply AAH|apply AAY|apply AAw|apply go_i|apply go_b|apply go_l|apply go_p);with_unfolding_all first|exact (m _).trans rfl|rfl)|refine AAD rfl ?_|refine go_t d0 ?_|refine go_f d0 ?_|refine go_t d1 ?_|refine go_f d1 ?_|refine AAz ?_|refine AAx ?_|refine AAA ?_|refine AAC ?_|(refine go_t ?_ ?_;with_unfolding_all (show _=true;rfl))|(refine go_f ?_ ?_;with_unfolding_all (show _=false;rfl)))
       exact e3 R K
 . have d0:(((l:Nat):Int)==0)=false:=by rw [beq_eq_false_iff_ne];omega
   have er:rget bs (a,l)=((((bitr bs a (l - 1):Nat):Int),0),a,l - 1):=by unfold rget;rw [if_neg hl0]
   obtain ⟨H3,e3,O3,b3⟩:=tail H a (l - 1) (by rw [show l - 1+1=l from by omega];exact hO) (.refl _ _) (by omega) (by omega) (by omega)
   rw [er] at hr ⊢
   refine ⟨H3,λ R K=> ?_,⟨⟨c,O3⟩,h.sh.but b3 h.ap,h.ap,hr,h.by_⟩,b3⟩
   unfold ABT ADm AA1 ACd
   dsimp only
   refine AAC (AAA ?_)
   refine go_i (m 3) (go_f d0 ?_)
   exact e3 R K
open Go.Proofs.Ytmanlfonppfhaaa.FW Go.IntWalk
abbrev Rs:=(Int×Int)×Nat×Nat
def rbits (bs:List Int):Nat->Nat->Nat×Nat->Rs
 |0,v,s=> (((v:Int),0),s)
 |n+1,v,s=> if (rget bs s).1.2≠0 then ((0,(rget bs s).1.2),(rget bs s).2) else rbits bs n (2 * v+bn (rget bs s).1.1) (rget bs s).2
def rcnt (bs:List Int) (x:Int):Nat->Nat->Nat×Nat->Rs
 |0,_,s=> ((0,8),s)
 |m+1,n,s=> if (rget bs s).1.2≠0 then ((0,(rget bs s).1.2),(rget bs s).2) else if (rget bs s).1.1≠x then (((n:Int),0),(rget bs s).2) else if m=0 then ((0,8),(rget bs s).2) else rcnt bs x m (n+1) (rget bs s).2
def back (s:Nat×Nat) (r:Rs):Rs:=if r.1.2≠0 then ((0,r.1.2),s) else r
def rB (bs:List Int) (n:Int) (s:Nat×Nat):Rs:=if 0<=n/\n<=32 then back s (rbits bs n.toNat 0 s) else ((0,1),s)
def rG1 (bs:List Int) (s:Nat×Nat):Rs:=if (rcnt bs 0 32 0 s).1.2≠0 then rcnt bs 0 32 0 s else
 if (rbits bs (rcnt bs 0 32 0 s).1.1.toNat 0 (rcnt bs 0 32 0 s).2).1.2≠0 then rbits bs (rcnt bs 0 32 0 s).1.1.toNat 0 (rcnt bs 0 32 0 s).2 else
 (((2 ^ (rcnt bs 0 32 0 s).1.1.toNat:Nat)+(rbits bs (rcnt bs 0 32 0 s).1.1.toNat 0 (rcnt bs 0 32 0 s).2).1.1,0),(rbits bs (rcnt bs 0 32 0 s).1.1.toNat 0 (rcnt bs 0 32 0 s).2).2)
def rG (bs:List Int) (s:Nat×Nat):Rs:=back s (rG1 bs s)
def rU (bs:List Int) (n:Int) (s:Nat×Nat):Rs:=if 0<=n/\n<=65535 then back s (rcnt bs 1 (n.toNat+1) 0 s) else ((0,1),s)
def rA (bs:List Int) (s:Nat×Nat):Rs:=if s.1=0 then ((0,0),s) else if (bs.getD (s.1 - 1) 0).toNat % 2 ^ s.2≠0 then ((0,8),s) else
 if s.2=0/\bs.getD (s.1 - 1) 0=255 then (if s.1=bs.length then ((0,7),s) else if bs.getD s.1 0≠0 then ((0,8),s) else ((((s.1+1:Nat):Int),0),s.1+1,0)) else ((((s.1:Nat):Int),0),s.1,0)
theorem Ab6 (k:Nat) {p:Nat} {q:Oa} {bs:List Int} (w:Nat) (hw:w<=40):∀(m n i v:Nat),m < n->w=i+m->v < 2 ^ i->∀(H:Heap) (s:Nat×Nat),Rd H p q bs s->
 ∃H',(∀(R:Type) (KE:Int->Heap->Option R) (KR:Int->Int->Heap->Option R),AA6 k KE KR n (some ⟨p,0,none⟩) (v:Int) (w:Int) (i:Int) H=if (rbits bs m v s).1.2≠0 then KR (rbits bs m v s).1.1 (rbits bs m v s).1.2 H' else KE (rbits bs m v s).1.1 H')/\Rd H' p q bs (rbits bs m v s).2/\But p H H'/\((rbits bs m v s).1.2=0->∃u:Nat,(rbits bs m v s).1.1=(u:Int)/\u < 2 ^ w):=by
 intro m
 induction m with
 |zero=>
  intro n i v hn hi hv H s h
  obtain ⟨n,rfl⟩:∃n',n=n'+1:=⟨n - 1,by omega⟩
  have ed:decide ((i:Int) < (w:Int))=false:=decide_eq_false (by omega)
  refine ⟨H,λ R KE KR=> ?_,h, .refl _ _,λ _=> ⟨v,rfl,by rw [hi];exact hv⟩⟩
  unfold AA6 AC9
  exact go_f ed rfl
 |succ m ih=>
  intro n i v hn hi hv H s h
  obtain ⟨n,rfl⟩:∃n',n=n'+1:=⟨n - 1,by omega⟩
  have ed:decide ((i:Int) < (w:Int))=true:=decide_eq_true (by omega)
  obtain ⟨H1,e1,R1,b1⟩:=ASA k h
  have hb:=ALN bs s
  by_cases he:(rget bs s).1.2=0
  . have d1:((rget bs s).1.2 !=0)=false:=by rw [he];rfl
    have er:rbits bs (m+1) v s=rbits bs m (2 * v+bn (rget bs s).1.1) (rget bs s).2:=by rw [rbits,if_neg (λ hh=> hh he)]
    have hbn:=AZG (rget bs s).1.1
    have hp:2 ^ i<=2 ^ 40:=Nat.pow_le_pow_right (by omega) (by omega)
    obtain ⟨H2,e2,R2,b2,u2⟩:=ih n (i+1) (2 * v+bn (rget bs s).1.1) (by omega) (by omega) (by rw [Nat.pow_succ];omega) H1 _ R1
    have s1:∀(R:Type) (K:Int->Option R),hbin .or .i64 (IntKind.wrap .i64 ((v:Int) * 2)) (rget bs s).1.1 K=K ((2 * v+bn (rget bs s).1.1:Nat):Int):=λ R K=> by
     rw [w64 (by omega) (by omega),show (v:Int) * 2=((2 ^ 1 * v:Nat):Int) from by omega]
     have:=or64 (a:=2 ^ 1 * v) (b:=bn (rget bs s).1.1) (by omega) (by omega) K
     rw [←Ab4 hb.1,←Nat.two_pow_add_eq_or_of_lt (i:=1) (by omega)] at this
     exact this
    have w1:IntKind.wrap .i64 ((i:Int)+1)=((i+1:Nat):Int):=by rw [w64 (by omega) (by omega)];omega
    rw [er]
    refine ⟨H2,λ R KE KR=> ?_,R2,b1.trans b2,u2⟩
    unfold AA6 AC9
    with_reducible repeat (first|refine (e1 _ _).trans ?_|refine (s1 _ _).trans ?_|((first|apply AAJ|apply AAH|apply AAY|apply AAw|apply go_i|apply go_b|apply go_l|apply go_p);with_unfolding_all rfl)|refine AAD rfl ?_|refine go_t ed ?_|refine go_f ed ?_|refine go_t d1 ?_|refine go_f d1 ?_|refine AAz ?_|refine AAx ?_|refine AAA ?_|refine AAC ?_|(refine go_t ?_ ?_;with_unfolding_all (show _=true;rfl))|(refine go_f ?_ ?_;with_unfolding_all (show _=false;rfl)))
    try dsimp only
    rw [w1]
    exact e2 _ _ _
  . have d1:((rget bs s).1.2 !=0)=true:=by simpa using he
    have er:rbits bs (m+1) v s=((0,(rget bs s).1.2),(rget bs s).2):=by rw [rbits,if_pos he]
    rw [er]
    refine ⟨H1,λ R KE KR=> ?_,R1,b1,λ hh=> (he hh).elim⟩
    rw [if_pos he]
    unfold AA6 AC9
    with_reducible repeat (first|refine (e1 _ _).trans ?_|((first|apply AAJ|apply AAH|apply AAY|apply AAw|apply go_i|apply go_b|apply go_l|apply go_p);with_unfolding_all rfl)|refine AAD rfl ?_|refine go_t ed ?_|refine go_f ed ?_|refine go_t d1 ?_|refine go_f d1 ?_|refine AAz ?_|refine AAx ?_|refine AAA ?_|refine AAC ?_|(refine go_t ?_ ?_;with_unfolding_all (show _=true;rfl))|(refine go_f ?_ ?_;with_unfolding_all (show _=false;rfl)))
    rfl
theorem AT0 {k:Nat} (hk:100 < k) {H:Heap} {p:Nat} {q:Oa} {bs:List Int} {s:Nat×Nat} (h:Rd H p q bs s) {w:Nat} (hw:w<=40):
 ∃H',(∀(R:Type) (K:Int->Int->Heap->Option R),ADB k (some ⟨p,0,none⟩) (w:Int) H K=K (rbits bs w 0 s).1.1 (rbits bs w 0 s).1.2 H')/\Rd H' p q bs (rbits bs w 0 s).2/\But p H H'/\((rbits bs w 0 s).1.2=0->∃u:Nat,(rbits bs w 0 s).1.1=(u:Int)/\u < 2 ^ w):=by
 obtain ⟨H',e,R1,b1,u⟩:=Ab6 k w hw w k 0 0 (by omega) (by omega) (by simp) H s h
 simp only [Int.natCast_zero] at e
 refine ⟨H',λ R K=> ?_,R1,b1,u⟩
 unfold ADB AIN
 refine (e _ _ _).trans ?_
 split
 . rfl
 . rename_i hh
   have:(rbits bs w 0 s).1.2=0:=Decidable.byContradiction λ x=> hh x
   rw [this]
theorem AZD (k:Nat) {p:Nat} {q:Oa} {bs:List Int} (x:Int) (lim:Nat) (hlim:lim<=70000):∀(m n i:Nat),m < n->lim=i+(m+1)->∀(H:Heap) (s:Nat×Nat),Rd H p q bs s->
 ∃H',(∀(R:Type) (KR:Int->Int->Heap->Option R),AAU k KR n (some ⟨p,0,none⟩) x (lim:Int) (i:Int) H=KR (rcnt bs x (m+1) i s).1.1 (rcnt bs x (m+1) i s).1.2 H')/\Rd H' p q bs (rcnt bs x (m+1) i s).2/\But p H H'/\((rcnt bs x (m+1) i s).1.2=0->∃u:Nat,(rcnt bs x (m+1) i s).1.1=(u:Int)/\u < lim):=by
 intro m
 induction m with
 |zero=>
  intro n i hn hi H s h
  obtain ⟨n,rfl⟩:∃n',n=n'+1:=⟨n - 1,by omega⟩
  obtain ⟨H1,e1,R1,b1⟩:=ASA k h
  by_cases he:(rget bs s).1.2=0
  . have d1:((rget bs s).1.2 !=0)=false:=by rw [he];rfl
    by_cases hx:(rget bs s).1.1=x
    . have er:rcnt bs x (0+1) i s=((0,8),(rget bs s).2):=by rw [rcnt,if_neg (λ hh=> hh he),if_neg (λ hh=> hh hx),if_pos rfl]
      have d2:((rget bs s).1.1 !=x)=false:=by simpa using hx
      have d3:((IntKind.wrap .i64 ((i:Int)+1))==(lim:Int))=true:=by rw [w64 (by omega) (by omega),beq_iff_eq];omega
      rw [er]
      refine ⟨H1,λ R KR=> ?_,R1,b1,λ hh=> by cases hh⟩
      unfold AAU ABC
      with_reducible repeat (first|refine (e1 _ _).trans ?_|((first|apply AAJ|apply AAH|apply AAY|apply AAw|apply go_i|apply go_b|apply go_l|apply go_p);with_unfolding_all rfl)|refine AAD rfl ?_|refine go_t d1 ?_|refine go_f d1 ?_|refine go_t d2 ?_|refine go_f d2 ?_|refine go_t d3 ?_|refine go_f d3 ?_|refine AAz ?_|refine AAx ?_|refine AAA ?_|refine AAC ?_|(refine go_t ?_ ?_;with_unfolding_all (show _=true;rfl))|(refine go_f ?_ ?_;with_unfolding_all (show _=false;rfl)))
      rfl
    . have er:rcnt bs x (0+1) i s=(((i:Int),0),(rget bs s).2):=by rw [rcnt,if_neg (λ hh=> hh he),if_pos hx]
      have d2:((rget bs s).1.1 !=x)=true:=by simpa using hx
      rw [er]
      refine ⟨H1,λ R KR=> ?_,R1,b1,λ _=> ⟨i,rfl,by omega⟩⟩
      unfold AAU ABC
      with_reducible repeat (first|refine (e1 _ _).trans ?_|((first|apply AAJ|apply AAH|apply AAY|apply AAw|apply go_i|apply go_b|apply go_l|apply go_p);with_unfolding_all rfl)|refine AAD rfl ?_|refine go_t d1 ?_|refine go_f d1 ?_|refine go_t d2 ?_|refine go_f d2 ?_|refine AAz ?_|refine AAx ?_|refine AAA ?_|refine AAC ?_|(refine go_t ?_ ?_;with_unfolding_all (show _=true;rfl))|(refine go_f ?_ ?_;with_unfolding_all (show _=false;rfl)))
      rfl
  . have d1:((rget bs s).1.2 !=0)=true:=by simpa using he
    have er:rcnt bs x (0+1) i s=((0,(rget bs s).1.2),(rget bs s).2):=by rw [rcnt,if_pos he]
    rw [er]
    refine ⟨H1,λ R KR=> ?_,R1,b1,λ hh=> (he hh).elim⟩
    unfold AAU ABC
    with_reducible repeat (first|refine (e1 _ _).trans ?_|((first|apply AAJ|apply AAH|apply AAY|apply AAw|apply go_i|apply go_b|apply go_l|apply go_p);with_unfolding_all rfl)|refine AAD rfl ?_|refine go_t d1 ?_|refine go_f d1 ?_|refine AAz ?_|refine AAx ?_|refine AAA ?_|refine AAC ?_|(refine go_t ?_ ?_;with_unfolding_all (show _=true;rfl))|(refine go_f ?_ ?_;with_unfolding_all (show _=false;rfl)))
    rfl
 |succ m ih=>
  intro n i hn hi H s h
  obtain ⟨n,rfl⟩:∃n',n=n'+1:=⟨n - 1,by omega⟩
  obtain ⟨H1,e1,R1,b1⟩:=ASA k h
  by_cases he:(rget bs s).1.2=0
  . have d1:((rget bs s).1.2 !=0)=false:=by rw [he];rfl
    by_cases hx:(rget bs s).1.1=x
    . have er:rcnt bs x (m+1+1) i s=rcnt bs x (m+1) (i+1) (rget bs s).2:=by rw [rcnt,if_neg (λ hh=> hh he),if_neg (λ hh=> hh hx),if_neg (by omega)]
      have d2:((rget bs s).1.1 !=x)=false:=by simpa using hx
      have w1:IntKind.wrap .i64 ((i:Int)+1)=((i+1:Nat):Int):=by rw [w64 (by omega) (by omega)];omega
      have d3:((IntKind.wrap .i64 ((i:Int)+1))==(lim:Int))=false:=by rw [w1,beq_eq_false_iff_ne];omega
      obtain ⟨H2,e2,R2,b2,u2⟩:=ih n (i+1) (by omega) (by omega) H1 _ R1
      rw [er]
      refine ⟨H2,λ R KR=> ?_,R2,b1.trans b2,u2⟩
      unfold AAU ABC
      with_reducible repeat (first|refine (e1 _ _).trans ?_|((first|apply AAJ|apply AAH|apply AAY|apply AAw|apply go_i|apply go_b|apply go_l|apply go_p);with_unfolding_all rfl)|refine AAD rfl ?_|refine go_t d1 ?_|refine go_f d1 ?_|refine go_t d2 ?_|refine go_f d2 ?_|refine go_t d3 ?_|refine go_f d3 ?_|refine AAz ?_|refine AAx ?_|refine AAA ?_|refine AAC ?_|(refine go_t ?_ ?_;with_unfolding_all (show _=true;rfl))|(refine go_f ?_ ?_;with_unfolding_all (show _=false;rfl)))
      try dsimp only
      rw [w1]
      exact e2 _ _
    . have er:rcnt bs x (m+1+1) i s=(((i:Int),0),(rget bs s).2):=by rw [rcnt,if_neg (λ hh=> hh he),if_pos hx]
      have d2:((rget bs s).1.1 !=x)=true:=by simpa using hx
      rw [er]
      refine ⟨H1,λ R KR=> ?_,R1,b1,λ _=> ⟨i,rfl,by omega⟩⟩
      unfold AAU ABC
      with_reducible repeat (first|refine (e1 _ _).trans ?_|((first|apply AAJ|apply AAH|apply AAY|apply AAw|apply go_i|apply go_b|apply go_l|apply go_p);with_unfolding_all rfl)|refine AAD rfl ?_|refine go_t d1 ?_|refine go_f d1 ?_|refine go_t d2 ?_|refine go_f d2 ?_|refine AAz ?_|refine AAx ?_|refine AAA ?_|refine AAC ?_|(refine go_t ?_ ?_;with_unfolding_all (show _=true;rfl))|(refine go_f ?_ ?_;with_unfolding_all (show _=false;rfl)))
      rfl
  . have d1:((rget bs s).1.2 !=0)=true:=by simpa using he
    have er:rcnt bs x (m+1+1) i s=((0,(rget bs s).1.2),(rget bs s).2):=by rw [rcnt,if_pos he]
    rw [er]
    refine ⟨H1,λ R KR=> ?_,R1,b1,λ hh=> (he hh).elim⟩
    unfold AAU ABC
    with_reducible repeat (first|refine (e1 _ _).trans ?_|((first|apply AAJ|apply AAH|apply AAY|apply AAw|apply go_i|apply go_b|apply go_l|apply go_p);with_unfolding_all rfl)|refine AAD rfl ?_|refine go_t d1 ?_|refine go_f d1 ?_|refine AAz ?_|refine AAx ?_|refine AAA ?_|refine AAC ?_|(refine go_t ?_ ?_;with_unfolding_all (show _=true;rfl))|(refine go_f ?_ ?_;with_unfolding_all (show _=false;rfl)))
    rfl
theorem ASF {k:Nat} (hk:100000 < k) {H:Heap} {p:Nat} {q:Oa} {bs:List Int} {s:Nat×Nat} (h:Rd H p q bs s) (x:Int) {m:Nat} (hm:m<=65536):
 ∃H',(∀(R:Type) (K:Int->Int->Heap->Option R),AB1 k (some ⟨p,0,none⟩) x ((m+1:Nat):Int) H K=K (rcnt bs x (m+1) 0 s).1.1 (rcnt bs x (m+1) 0 s).1.2 H')/\Rd H' p q bs (rcnt bs x (m+1) 0 s).2/\But p H H'/\((rcnt bs x (m+1) 0 s).1.2=0->∃u:Nat,(rcnt bs x (m+1) 0 s).1.1=(u:Int)/\u < m+1):=by
 obtain ⟨H',e,R1,b1,u⟩:=AZD k x (m+1) (by omega) m k 0 (by omega) (by omega) H s h
 simp only [Int.natCast_zero] at e
 refine ⟨H',λ R K=> ?_,R1,b1,u⟩
 unfold AB1 AHn
 exact e _ _
theorem ARB {H:Heap} {p:Nat} {q:Oa} {bs:List Int} {s:Nat×Nat} (h:Rd H p q bs s):∀(R:Type) (K:Bool->Option R),ABU (some ⟨p,0,none⟩) H K=K true:=by
 obtain ⟨c,hO⟩:=h.c
 have m:hcell H p 0=some (.bool true):=hO.sees.cell 0
 intro R K
 unfold ABU AJW
 with_reducible repeat (first|((first|apply AAJ|apply AAH|apply AAY|apply AAw|apply go_i|apply go_b|apply go_l|apply go_p);with_unfolding_all first|exact m|rfl)|refine AAD rfl ?_|refine AAz ?_|refine AAx ?_|refine AAA ?_|refine AAC ?_|(refine go_t ?_ ?_;with_unfolding_all (show _=true;rfl))|(refine go_f ?_ ?_;with_unfolding_all (show _=false;rfl)))
 rfl
theorem ARX (k:Nat) {H:Heap} {p:Nat} {q:Oa} {bs:List Int} {s:Nat×Nat} (h:Rd H p q bs s):
 ∃H',(∀(R:Type) (K:Int->Int->Heap->Option R),ACV k (some ⟨p,0,none⟩) H K=K (rget bs s).1.1 (rget bs s).1.2 H')/\Rd H' p q bs (rget bs s).2/\But p H H':=by
 have o:=ARB h
 obtain ⟨H',e,r,b⟩:=ASA k h
 refine ⟨H',λ R K=> ?_,r,b⟩
 unfold ACV AI4
 with_reducible repeat (first|refine (o _ _).trans ?_|refine (e _ _).trans ?_|((first|apply AAJ|apply AAH|apply AAY|apply AAw|apply go_i|apply go_b|apply go_l|apply go_p);with_unfolding_all rfl)|refine AAD rfl ?_|refine AAz ?_|refine AAx ?_|refine AAA ?_|refine AAC ?_|(refine go_t ?_ ?_;with_unfolding_all (show _=true;rfl))|(refine go_f ?_ ?_;with_unfolding_all (show _=false;rfl)))
 rfl
theorem Rd.undo {H:Heap} {p:Nat} {q:Oa} {bs:List Int} {s s':Nat×Nat} (h:Rd H p q bs s) (hs:Okr bs s'):∃H1 H2,(∀(R:Type) (K:Heap->Option R),hst1 H (some ⟨p,2,none⟩) (.int .i64 ((s'.1:Nat):Int)) K=K H1)/\(∀(R:Type) (K:Heap->Option R),hst1 H1 (some ⟨p,3,none⟩) (.int .i64 ((s'.2:Nat):Int)) K=K H2)/\Rd H2 p q bs s'/\But p H H2:=by
 obtain ⟨c,hO⟩:=h.c
 obtain ⟨H1,e1,O1,b1,n1⟩:=Rd.st2 hO s'.1
 obtain ⟨H2,e2,O2,b2,n2⟩:=Rd.st3 O1 s'.2
 exact ⟨H1,H2,e1,e2,⟨⟨c,O2⟩,h.sh.but (b1.trans b2) h.ap,h.ap,hs,h.by_⟩,b1.trans b2⟩
theorem ARD {k:Nat} (hk:100 < k) {H:Heap} {p:Nat} {q:Oa} {bs:List Int} {s:Nat×Nat} (h:Rd H p q bs s) (n:Int):
 ∃H',(∀(R:Type) (K:Int->Int->Heap->Option R),ABu k (some ⟨p,0,none⟩) n H K=K (rB bs n s).1.1 (rB bs n s).1.2 H')/\Rd H' p q bs (rB bs n s).2/\But p H H':=by
 obtain ⟨Ha,hHa⟩:∃Ha,Ha=H++ [some ⟨[.pointer (some ⟨p,0,none⟩)],false,0⟩]:=⟨_,rfl⟩
 obtain ⟨Hb,hHb⟩:∃Hb,Hb=Ha++ [some ⟨[.int .i64 n],false,0⟩]:=⟨_,rfl⟩
 have oa:Old H.length H Ha:=hHa ▸ Old.app _ _
 have na:Ha.length=H.length+1:=by rw [hHa];simp
 have ob:Old H.length H Hb:=oa.trans ((hHb ▸ Old.app _ _:Old Ha.length Ha Hb).mono oa.1)
 have hp:=h.lt
 have h2:=h.keep ob
 have hbp:But p H Hb:= .of_old ob
 have O1:Owns Hb H.length [.pointer (some ⟨p,0,none⟩)] 0:=by
  unfold Owns;rw [hHb,AR9 (by omega),hHa];exact AAI H _
 have O2:Owns Hb Ha.length [.int .i64 n] 0:=by unfold Owns;rw [hHb];exact AAI Ha _
 have m1:hcell Hb H.length 0=some (.pointer (some ⟨p,0,none⟩)):=O1.sees.cell 0
 have m2:hcell Hb Ha.length 0=some (.int .i64 n):=O2.sees.cell 0
 have o:=ARB h2
 by_cases c1:n < 0
 . have d1:=decide_eq_true c1
   have er:rB bs n s=((0,1),s):=if_neg (by omega)
   rw [er]
   refine ⟨Hb,λ R K=> ?_,h2,hbp⟩
   unfold ABu ADC ABO ACO
   with_reducible repeat (first|refine (o _ _).trans ?_|((first|apply AAJ|apply AAH|apply AAY|apply AAw|apply go_i|apply go_b|apply go_l|apply go_p);with_unfolding_all first|exact m1|exact m2|rfl)|(refine AAW hHa ?_ ?_ ?_;with_unfolding_all rfl;with_unfolding_all rfl)|refine AAD hHa ?_|(refine AAW hHb ?_ ?_ ?_;with_unfolding_all rfl;with_unfolding_all rfl)|refine AAD hHb ?_|refine go_t d1 ?_|refine go_f d1 ?_|refine AAz ?_|refine AAx ?_|refine AAA ?_|refine AAC ?_|(refine go_t ?_ ?_;with_unfolding_all (show _=true;rfl))|(refine go_f ?_ ?_;with_unfolding_all (show _=false;rfl)))
   rfl
 have d1:=decide_eq_false c1
 by_cases c2:n > 32
 . have d2:=decide_eq_true c2
   have er:rB bs n s=((0,1),s):=if_neg (by omega)
   rw [er]
   refine ⟨Hb,λ R K=> ?_,h2,hbp⟩
   unfold ABu ADC ABO ACO
   with_reducible repeat (first|refine (o _ _).trans ?_|((first|apply AAJ|apply AAH|apply AAY|apply AAw|apply go_i|apply go_b|apply go_l|apply go_p);with_unfolding_all first|exact m1|exact m2|rfl)|(refine AAW hHa ?_ ?_ ?_;with_unfolding_all rfl;with_unfolding_all rfl)|refine AAD hHa ?_|(refine AAW hHb ?_ ?_ ?_;with_unfolding_all rfl;with_unfolding_all rfl)|refine AAD hHb ?_|refine go_t d1 ?_|refine go_f d1 ?_|refine go_t d2 ?_|refine go_f d2 ?_|refine AAz ?_|refine AAx ?_|refine AAA ?_|refine AAC ?_|(refine go_t ?_ ?_;with_unfolding_all (show _=true;rfl))|(refine go_f ?_ ?_;with_unfolding_all (show _=false;rfl)))
   rfl
 have d2:=decide_eq_false c2
 obtain ⟨w,rfl⟩:∃w:Nat,n=w:=⟨n.toNat,by omega⟩
 have er:rB bs (w:Int) s=back s (rbits bs w 0 s):=by unfold rB;rw [if_pos ⟨by omega,by omega⟩,Int.toNat_natCast]
 obtain ⟨H3,e3,R3,b3,u3⟩:=AT0 hk h2 (w:=w) (by omega)
 obtain ⟨c,hO⟩:=h2.c
 have m:∀o,hcell Hb p o=(rcl q bs.length c s.1 s.2)[o]? :=λ o=> hO.sees.cell o
 rw [er]
 unfold back
 by_cases he:(rbits bs w 0 s).1.2=0
 . have d3:((rbits bs w 0 s).1.2 !=0)=false:=by rw [he];rfl
   rw [if_neg (λ hh=> hh he)]
   refine ⟨H3,λ R K=> ?_,R3,hbp.trans b3⟩
   unfold ABu ADC ABO ACO AC7 ADh AET AE7
   with_reducible repeat (first|refine (o _ _).trans ?_|refine (e3 _ _).trans ?_|((first|apply AAJ|apply AAH|apply AAY|apply AAw|apply go_i|apply go_b|apply go_l|apply go_p);with_unfolding_all first|exact (m _).trans rfl|exact m1|exact m2|rfl)|(refine AAW hHa ?_ ?_ ?_;with_unfolding_all rfl;with_unfolding_all rfl)|refine AAD hHa ?_|(refine AAW hHb ?_ ?_ ?_;with_unfolding_all rfl;with_unfolding_all rfl)|refine AAD hHb ?_|refine go_t d1 ?_|refine go_f d1 ?_|refine go_t d2 ?_|refine go_f d2 ?_|refine go_t d3 ?_|refine go_f d3 ?_|refine AAz ?_|refine AAx ?_|refine AAA ?_|refine AAC ?_|(refine go_t ?_ ?_;with_unfolding_all (show _=true;rfl))|(refine go_f ?_ ?_;with_unfolding_all (show _=false;rfl)))
   rw [he]
 . have d3:((rbits bs w 0 s).1.2 !=0)=true:=by simpa using he
   rw [if_pos he]
   obtain ⟨H4,H5,e4,e5,R5,b5⟩:=R3.undo h.ok
   refine ⟨H5,λ R K=> ?_,R5,(hbp.trans b3).trans b5⟩
   unfold ABu ADC ABO ACO AC7 ADh AET AE7
   with_reducible repeat (first|refine (o _ _).trans ?_|refine (e3 _ _).trans ?_|refine (e4 _ _).trans ?_|refine (e5 _ _).trans ?_|((first|apply AAJ|apply AAH|apply AAY|apply AAw|apply go_i|apply go_b|apply go_l|apply go_p);with_unfolding_all first|exact (m _).trans rfl|exact m1|exact m2|rfl)|(refine AAW hHa ?_ ?_ ?_;with_unfolding_all rfl;with_unfolding_all rfl)|refine AAD hHa ?_|(refine AAW hHb ?_ ?_ ?_;with_unfolding_all rfl;with_unfolding_all rfl)|refine AAD hHb ?_|refine go_t d1 ?_|refine go_f d1 ?_|refine go_t d2 ?_|refine go_f d2 ?_|refine go_t d3 ?_|refine go_f d3 ?_|refine AAz ?_|refine AAx ?_|refine AAA ?_|refine AAC ?_|(refine go_t ?_ ?_;with_unfolding_all (show _=true;rfl))|(refine go_f ?_ ?_;with_unfolding_all (show _=false;rfl)))
   rfl
theorem ASU {k:Nat} (hk:100000 < k) {H:Heap} {p:Nat} {q:Oa} {bs:List Int} {s:Nat×Nat} (h:Rd H p q bs s) (n:Int):
 ∃H',(∀(R:Type) (K:Int->Int->Heap->Option R),AB2 k (some ⟨p,0,none⟩) n H K=K (rU bs n s).1.1 (rU bs n s).1.2 H')/\Rd H' p q bs (rU bs n s).2/\But p H H':=by
 obtain ⟨Ha,hHa⟩:∃Ha,Ha=H++ [some ⟨[.pointer (some ⟨p,0,none⟩)],false,0⟩]:=⟨_,rfl⟩
 obtain ⟨Hb,hHb⟩:∃Hb,Hb=Ha++ [some ⟨[.int .i64 n],false,0⟩]:=⟨_,rfl⟩
 have oa:Old H.length H Ha:=hHa ▸ Old.app _ _
 have na:Ha.length=H.length+1:=by rw [hHa];simp
 have ob:Old H.length H Hb:=oa.trans ((hHb ▸ Old.app _ _:Old Ha.length Ha Hb).mono oa.1)
 have hp:=h.lt
 have h2:=h.keep ob
 have hbp:But p H Hb:= .of_old ob
 have O1:Owns Hb H.length [.pointer (some ⟨p,0,none⟩)] 0:=by
  unfold Owns;rw [hHb,AR9 (by omega),hHa];exact AAI H _
 have O2:Owns Hb Ha.length [.int .i64 n] 0:=by unfold Owns;rw [hHb];exact AAI Ha _
 have m1:hcell Hb H.length 0=some (.pointer (some ⟨p,0,none⟩)):=O1.sees.cell 0
 have m2:hcell Hb Ha.length 0=some (.int .i64 n):=O2.sees.cell 0
 have o:=ARB h2
 by_cases c1:n < 0
 . have d1:=decide_eq_true c1
   have er:rU bs n s=((0,1),s):=if_neg (by omega)
   rw [er]
   refine ⟨Hb,λ R K=> ?_,h2,hbp⟩
   unfold AB2 ACp ABD ACG
   with_reducible repeat (first|refine (o _ _).trans ?_|((first|apply AAJ|apply AAH|apply AAY|apply AAw|apply go_i|apply go_b|apply go_l|apply go_p);with_unfolding_all first|exact m1|exact m2|rfl)|(refine AAW hHa ?_ ?_ ?_;with_unfolding_all rfl;with_unfolding_all rfl)|refine AAD hHa ?_|(refine AAW hHb ?_ ?_ ?_;with_unfolding_all rfl;with_unfolding_all rfl)|refine AAD hHb ?_|refine go_t d1 ?_|refine go_f d1 ?_|refine AAz ?_|refine AAx ?_|refine AAA ?_|refine AAC ?_|(refine go_t ?_ ?_;with_unfolding_all (show _=true;rfl))|(refine go_f ?_ ?_;with_unfolding_all (show _=false;rfl)))
   rfl
 have d1:=decide_eq_false c1
 by_cases c2:n > 65535
 . have d2:=decide_eq_true c2
   have er:rU bs n s=((0,1),s):=if_neg (by omega)
   rw [er]
   refine ⟨Hb,λ R K=> ?_,h2,hbp⟩
   unfold AB2 ACp ABD ACG
   with_reducible repeat (first|refine (o _ _).trans ?_|((first|apply AAJ|apply AAH|apply AAY|apply AAw|apply go_i|apply go_b|apply go_l|apply go_p);with_unfolding_all first|exact m1|exact m2|rfl)|(refine AAW hHa ?_ ?_ ?_;with_unfolding_all rfl;with_unfolding_all rfl)|refine AAD hHa ?_|(refine AAW hHb ?_ ?_ ?_;with_unfolding_all rfl;with_unfolding_all rfl)|refine AAD hHb ?_|refine go_t d1 ?_|refine go_f d1 ?_|refine go_t d2 ?_|refine go_f d2 ?_|refine AAz ?_|refine AAx ?_|refine AAA ?_|refine AAC ?_|(refine go_t ?_ ?_;with_unfolding_all (show _=true;rfl))|(refine go_f ?_ ?_;with_unfolding_all (show _=false;rfl)))
   rfl
 have d2:=decide_eq_false c2
 obtain ⟨w,rfl⟩:∃w:Nat,n=w:=⟨n.toNat,by omega⟩
 have er:rU bs (w:Int) s=back s (rcnt bs 1 (w+1) 0 s):=by unfold rU;rw [if_pos ⟨by omega,by omega⟩,Int.toNat_natCast]
 obtain ⟨H3,e3,R3,b3,u3⟩:=ASF hk h2 1 (m:=w) (by omega)
 have w1:IntKind.wrap .i64 ((w:Int)+1)=((w+1:Nat):Int):=by rw [w64 (by omega) (by omega)];omega
 have e3':∀(R:Type) (K:Int->Int->Heap->Option R),AB1 k (some ⟨p,0,none⟩) 1 (IntKind.wrap .i64 ((w:Int)+1)) Hb K=K (rcnt bs 1 (w+1) 0 s).1.1 (rcnt bs 1 (w+1) 0 s).1.2 H3:=by rw [w1];exact e3
 obtain ⟨c,hO⟩:=h2.c
 have m:∀o,hcell Hb p o=(rcl q bs.length c s.1 s.2)[o]? :=λ o=> hO.sees.cell o
 rw [er]
 unfold back
 by_cases he:(rcnt bs 1 (w+1) 0 s).1.2=0
 . have d3:((rcnt bs 1 (w+1) 0 s).1.2 !=0)=false:=by rw [he];rfl
   rw [if_neg (λ hh=> hh he)]
   refine ⟨H3,λ R K=> ?_,R3,hbp.trans b3⟩
   unfold AB2 ACp ABD ACG AC8 ADj ADu AEa
   with_reducible repeat (first|refine (o _ _).trans ?_|refine (e3' _ _).trans ?_|((first|apply AAJ|apply AAH|apply AAY|apply AAw|apply go_i|apply go_b|apply go_l|apply go_p);with_unfolding_all first|exact (m _).trans rfl|exact m1|exact m2|rfl)|(refine AAW hHa ?_ ?_ ?_;with_unfolding_all rfl;with_unfolding_all rfl)|refine AAD hHa ?_|(refine AAW hHb ?_ ?_ ?_;with_unfolding_all rfl;with_unfolding_all rfl)|refine AAD hHb ?_|refine go_t d1 ?_|refine go_f d1 ?_|refine go_t d2 ?_|refine go_f d2 ?_|refine go_t d3 ?_|refine go_f d3 ?_|refine AAz ?_|refine AAx ?_|refine AAA ?_|refine AAC ?_|(refine go_t ?_ ?_;with_unfolding_all (show _=true;rfl))|(refine go_f ?_ ?_;with_unfolding_all (show _=false;rfl)))
   rw [he]
 . have d3:((rcnt bs 1 (w+1) 0 s).1.2 !=0)=true:=by simpa using he
   rw [if_pos he]
   obtain ⟨H4,H5,e4,e5,R5,b5⟩:=R3.undo h.ok
   refine ⟨H5,λ R K=> ?_,R5,(hbp.trans b3).trans b5⟩
   unfold AB2 ACp ABD ACG AC8 ADj ADu AEa
   with_reducible repeat (first|refine (o _ _).trans ?_|refine (e3' _ _).trans ?_|refine (e4 _ _).trans ?_|refine (e5 _ _).trans ?_|((first|apply AAJ|apply AAH|apply AAY|apply AAw|apply go_i|apply go_b|apply go_l|apply go_p);with_unfolding_all first|exact (m _).trans rfl|exact m1|exact m2|rfl)|(refine AAW hHa ?_ ?_ ?_;with_unfolding_all rfl;with_unfolding_all rfl)|refine AAD hHa ?_|(refine AAW hHb ?_ ?_ ?_;with_unfolding_all rfl;with_unfolding_all rfl)|refine AAD hHb ?_|refine go_t d1 ?_|refine go_f d1 ?_|refine go_t d2 ?_|refine go_f d2 ?_|refine go_t d3 ?_|refine go_f d3 ?_|refine AAz ?_|refine AAx ?_|refine AAA ?_|refine AAC ?_|(refine go_t ?_ ?_;with_unfolding_all (show _=true;rfl))|(refine go_f ?_ ?_;with_unfolding_all (show _=false;rfl)))
   rfl
theorem ASV {k:Nat} (hk:100000 < k) {H:Heap} {p:Nat} {q:Oa} {bs:List Int} {s:Nat×Nat} (h:Rd H p q bs s):
 ∃H',(∀(R:Type) (K:Int->Int->Heap->Option R),AB3 k (some ⟨p,0,none⟩) H K=K (rG bs s).1.1 (rG bs s).1.2 H')/\Rd H' p q bs (rG bs s).2/\But p H H':=by
 obtain ⟨Ha,hHa⟩:∃Ha,Ha=H++ [some ⟨[.pointer (some ⟨p,0,none⟩)],false,0⟩]:=⟨_,rfl⟩
 have oa:Old H.length H Ha:=hHa ▸ Old.app _ _
 have na:Ha.length=H.length+1:=by rw [hHa];simp
 have hp:=h.lt
 have h2:=h.keep oa
 have hbp:But p H Ha:= .of_old oa
 have O1:Owns Ha H.length [.pointer (some ⟨p,0,none⟩)] 0:=by unfold Owns;rw [hHa];exact AAI H _
 have m1:hcell Ha H.length 0=some (.pointer (some ⟨p,0,none⟩)):=O1.sees.cell 0
 have o:=ARB h2
 obtain ⟨c,hO⟩:=h2.c
 have m:∀o,hcell Ha p o=(rcl q bs.length c s.1 s.2)[o]? :=λ o=> hO.sees.cell o
 obtain ⟨H3,e3,R3,b3,u3⟩:=ASF hk h2 0 (m:=31) (by omega)
 have e3':∀(R:Type) (K:Int->Int->Heap->Option R),AB1 k (some ⟨p,0,none⟩) 0 32 Ha K=K (rcnt bs 0 32 0 s).1.1 (rcnt bs 0 32 0 s).1.2 H3:=e3
 have m3:hcell H3 H.length 0=some (.pointer (some ⟨p,0,none⟩)):=(O1.but b3 (by omega)).sees.cell 0
 by_cases hc:(rcnt bs 0 32 0 s).1.2=0
 . have d1:((rcnt bs 0 32 0 s).1.2 !=0)=false:=by rw [hc];rfl
   obtain ⟨u,hu,hu2⟩:=u3 hc
   obtain ⟨H6,e6,R6,b6,u6⟩:=AT0 (k:=k) (by omega) R3 (w:=u) (by omega)
   have hpu:=p32 (n:=u) (by omega)
   have s0:∀(R:Type) (K:Int->Option R),hbin .shl .i64 1 (IntKind.wrap .u64 (u:Int)) K=K ((2 ^ u:Nat):Int):=λ R K=> by
    have:=shl64 (a:=1) (n:=u) (by omega) (by omega) K
    rwa [Nat.one_mul] at this
   have hu':(rcnt bs 0 32 0 s).1.1.toNat=u:=by rw [hu,Int.toNat_natCast]
   by_cases hd:(rbits bs u 0 (rcnt bs 0 32 0 s).2).1.2=0
   . obtain ⟨v,hv,hv2⟩:=u6 hd
     have s1:∀(R:Type) (K:Int->Option R),hbin .or .i64 ((2 ^ u:Nat):Int) (rbits bs u 0 (rcnt bs 0 32 0 s).2).1.1 K=K (((2 ^ u:Nat):Int)+(rbits bs u 0 (rcnt bs 0 32 0 s).2).1.1):=λ R K=> by
      rw [hv,or64 (by omega) (by omega)]
      have:=Nat.two_pow_add_eq_or_of_lt hv2 1
      rw [Nat.mul_one] at this
      rw [←this,Int.natCast_add]
     have d2:((rbits bs u 0 (rcnt bs 0 32 0 s).2).1.2 !=0)=false:=by rw [hd];rfl
     have er:rG bs s=((((2 ^ u:Nat):Int)+(rbits bs u 0 (rcnt bs 0 32 0 s).2).1.1,0),(rbits bs u 0 (rcnt bs 0 32 0 s).2).2):=by
      have g1:rG1 bs s=((((2 ^ u:Nat):Int)+(rbits bs u 0 (rcnt bs 0 32 0 s).2).1.1,0),(rbits bs u 0 (rcnt bs 0 32 0 s).2).2):=by
       unfold rG1
       rw [if_neg (λ hh=> hh hc),hu',if_neg (λ hh=> hh hd)]
      unfold rG back
      rw [g1,if_neg (λ hh=> hh rfl)]
     rw [er]
     refine ⟨H6,λ R K=> ?_,R6,(hbp.trans b3).trans b6⟩
     unfold AB3 ADv ACN ACa ACq ADA
     rw [hu] at e3'
     with_reducible repeat (first|refine (o _ _).trans ?_|refine (e3' _ _).trans ?_|refine (e6 _ _).trans ?_|refine (s0 _ _).trans ?_|refine (s1 _ _).trans ?_|((first|apply AAJ|apply AAH|apply AAY|apply AAw|apply go_i|apply go_b|apply go_l|apply go_p);with_unfolding_all first|exact (m _).trans rfl|exact m1|exact m3|rfl)|(refine AAW hHa ?_ ?_ ?_;with_unfolding_all rfl;with_unfolding_all rfl)|refine AAD hHa ?_|refine go_t d1 ?_|refine go_f d1 ?_|refine go_t d2 ?_|refine go_f d2 ?_|refine AAz ?_|refine AAx ?_|refine AAA ?_|refine AAC ?_|(refine go_t ?_ ?_;with_unfolding_all (show _=true;rfl))|(refine go_f ?_ ?_;with_unfolding_all (show _=false;rfl)))
     rfl
   . have d2:((rbits bs u 0 (rcnt bs 0 32 0 s).2).1.2 !=0)=true:=by simpa using hd
     have er:rG bs s=((0,(rbits bs u 0 (rcnt bs 0 32 0 s).2).1.2),s):=by
      have g1:rG1 bs s=rbits bs u 0 (rcnt bs 0 32 0 s).2:=by
       unfold rG1
       rw [if_neg (λ hh=> hh hc),hu',if_pos hd]
      unfold rG back
      rw [g1,if_pos hd]
     obtain ⟨H7,H8,e7,e8,R8,b8⟩:=R6.undo h.ok
     rw [er]
     refine ⟨H8,λ R K=> ?_,R8,((hbp.trans b3).trans b6).trans b8⟩
     obtain ⟨z,hz⟩:∃z,∀(R:Type) (K:Int->Option R),hbin .or .i64 ((2 ^ u:Nat):Int) (rbits bs u 0 (rcnt bs 0 32 0 s).2).1.1 K=K z:=⟨_,λ R K=> rfl⟩
     unfold AB3 ADv ACN ACa ACq ADA
     rw [hu] at e3'
     with_reducible repeat (first|refine (o _ _).trans ?_|refine (e3' _ _).trans ?_|refine (e6 _ _).trans ?_|refine (s0 _ _).trans ?_|refine (hz _ _).trans ?_|refine (e7 _ _).trans ?_|refine (e8 _ _).trans ?_|((first|apply AAJ|apply AAH|apply AAY|apply AAw|apply go_i|apply go_b|apply go_l|apply go_p);with_unfolding_all first|exact (m _).trans rfl|exact m1|exact m3|rfl)|(refine AAW hHa ?_ ?_ ?_;with_unfolding_all rfl;with_unfolding_all rfl)|refine AAD hHa ?_|refine go_t d1 ?_|refine go_f d1 ?_|refine go_t d2 ?_|refine go_f d2 ?_|refine AAz ?_|refine AAx ?_|refine AAA ?_|refine AAC ?_|(refine go_t ?_ ?_;with_unfolding_all (show _=true;rfl))|(refine go_f ?_ ?_;with_unfolding_all (show _=false;rfl)))
     rfl
 . have d1:((rcnt bs 0 32 0 s).1.2 !=0)=true:=by simpa using hc
   have er:rG bs s=((0,(rcnt bs 0 32 0 s).1.2),s):=by
    have g1:rG1 bs s=rcnt bs 0 32 0 s:=by unfold rG1;rw [if_pos hc]
    unfold rG back
    rw [g1,if_pos hc]
   obtain ⟨H7,H8,e7,e8,R8,b8⟩:=R3.undo h.ok
   rw [er]
   refine ⟨H8,λ R K=> ?_,R8,(hbp.trans b3).trans b8⟩
   unfold AB3 ADv ACN ACa ACq ADA
   with_reducible repeat (first|refine (o _ _).trans ?_|refine (e3' _ _).trans ?_|refine (e7 _ _).trans ?_|refine (e8 _ _).trans ?_|((first|apply AAJ|apply AAH|apply AAY|apply AAw|apply go_i|apply go_b|apply go_l|apply go_p);with_unfolding_all first|exact (m _).trans rfl|exact m1|exact m3|rfl)|(refine AAW hHa ?_ ?_ ?_;with_unfolding_all rfl;with_unfolding_all rfl)|refine AAD hHa ?_|refine go_t d1 ?_|refine go_f d1 ?_|refine AAz ?_|refine AAx ?_|refine AAA ?_|refine AAC ?_|(refine go_t ?_ ?_;with_unfolding_all (show _=true;rfl))|(refine go_f ?_ ?_;with_unfolding_all (show _=false;rfl)))
   rfl
open Go.Proofs.Ytmanlfonppfhaaa.FW Go.IntWalk
theorem ATO {l:Nat} (h:l<=7):2 ^ l<=2 ^ 7:=Nat.pow_le_pow_right (by omega) h
theorem p2pos (l:Nat):0 < 2 ^ l:=Nat.two_pow_pos l
theorem ATR (k:Nat) {H:Heap} {p:Nat} {q:Oa} {bs:List Int} {s:Nat×Nat} (h:Rd H p q bs s):
 ∃H',(∀(R:Type) (K:Int->Int->Heap->Option R),AAp k (some ⟨p,0,none⟩) H K=K (rA bs s).1.1 (rA bs s).1.2 H')/\Rd H' p q bs (rA bs s).2/\But p H H':=by
 have o:=ARB h
 obtain ⟨c,hO⟩:=h.c
 obtain ⟨a,l⟩:=s
 have hok:=h.ok
 have ha:=hok.a
 have hl7:=hok.l
 have hz:=hok.z
 have hlen:=h.by_.2
 simp only at ha hl7 hz
 have m:∀o,hcell H p o= [Value.bool true, .slice q bs.length c, .int .i64 ((a:Nat):Int), .int .i64 ((l:Nat):Int)][o]? :=λ o=> hO.sees.cell o
 by_cases h0:a=0
 . have d0:(((a:Nat):Int)==0)=true:=by rw [h0];rfl
   rw [show rA bs (a,l)=((0,0),a,l) from if_pos h0]
   refine ⟨H,λ R K=> ?_,h, .refl _ _⟩
   unfold AAp ABP
   with_reducible repeat (first|refine (o _ _).trans ?_|((first|apply AAJ|apply AAH|apply AAY|apply AAw|apply go_i|apply go_b|apply go_l|apply go_p);with_unfolding_all first|exact (m _).trans rfl|rfl)|refine AAD rfl ?_|refine go_t d0 ?_|refine go_f d0 ?_|refine AAz ?_|refine AAx ?_|refine AAA ?_|refine AAC ?_|(refine go_t ?_ ?_;with_unfolding_all (show _=true;rfl))|(refine go_f ?_ ?_;with_unfolding_all (show _=false;rfl)))
   rfl
 have d0:(((a:Nat):Int)==0)=false:=by rw [beq_eq_false_iff_ne];omega
 obtain ⟨z,e1,e2⟩:=AIz h.sh (i:=a - 1) (by omega)
 have w1:IntKind.wrap .i64 (((a:Nat):Int) - 1)=((a - 1:Nat):Int):=by rw [w64 (by omega) (by omega)];omega
 have e1':∀(R:Type) (K:Oa->Option R),hidx q bs.length (IntKind.wrap .i64 (((a:Nat):Int) - 1)) 1 K=K z:=by rw [w1];exact e1
 have hp7:=ATO hl7
 have hpp:=p2pos l
 have s1:∀(R:Type) (K:Int->Option R),hbin .shl .u8 1 (IntKind.wrap .u64 ((l:Nat):Int)) K=K ((2 ^ l:Nat):Int):=λ R K=> by
  have:=shl8 (a:=1) (n:=l) (by omega) (by omega) K
  rwa [Nat.one_mul] at this
 obtain ⟨v,hv,hv2⟩:=h.by_.at (a - 1)
 have s2:∀(R:Type) (K:Int->Option R),hbin .and .u8 (bs.getD (a - 1) 0) (IntKind.wrap .u8 (((2 ^ l:Nat):Int) - 1)) K=K (((bs.getD (a - 1) 0).toNat % 2 ^ l:Nat):Int):=λ R K=> by
  rw [hv,u8_in _ ⟨by omega,by omega⟩,show ((2 ^ l:Nat):Int) - 1=((2 ^ l - 1:Nat):Int) from by omega,and8 (by omega) (by omega),Nat.and_two_pow_sub_one_eq_mod,Int.toNat_natCast]
 by_cases h1:(bs.getD (a - 1) 0).toNat % 2 ^ l=0
 . have d1:((((bs.getD (a - 1) 0).toNat % 2 ^ l:Nat):Int) !=0)=false:=by rw [h1];rfl
   have last:∀(H2:Heap) (x:Nat),Owns H2 p (rcl q bs.length c x l) 0->But p H H2->x<=bs.length->∃H',(∀(R:Type) (K:Int->Int->Heap->Option R),(hnil (some ⟨p,0,none⟩) λ p202=> hfad 3 p202 λ p203=> hst1 H2 p203 (.int .i64 0) λ H204=> hnil (some ⟨p,0,none⟩) λ p205=> hfad 2 p205 λ p206=> ldI .i64 H204 p206 λ n207=> K n207 0 H204)=K ((x:Nat):Int) 0 H')/\Rd H' p q bs (x,0)/\But p H H':=by
    intro H2 x hO2 b2 hx
    obtain ⟨H3,e3,O3,b3,n3⟩:=Rd.st3 hO2 0
    have m3:∀o,hcell H3 p o= [Value.bool true, .slice q bs.length c, .int .i64 ((x:Nat):Int), .int .i64 0][o]? :=λ o=> O3.sees.cell o
    refine ⟨H3,λ R K=> ?_,⟨⟨c,O3⟩,h.sh.but (b2.trans b3) h.ap,h.ap,⟨hx,by simp only;omega,λ hh=> by simp only at hh;omega⟩,h.by_⟩,b2.trans b3⟩
    have e3':∀(R:Type) (K:Heap->Option R),hst1 H2 (some ⟨p,3,none⟩) (.int .i64 0) K=K H3:=e3
    with_reducible repeat (first|refine (e3' _ _).trans ?_|((first|apply AAJ|apply AAH|apply AAY|apply AAw|apply go_i|apply go_b|apply go_l|apply go_p);with_unfolding_all first|exact (m3 _).trans rfl|rfl)|refine AAD rfl ?_|refine AAz ?_|refine AAx ?_|refine AAA ?_|refine AAC ?_|(refine go_t ?_ ?_;with_unfolding_all (show _=true;rfl))|(refine go_f ?_ ?_;with_unfolding_all (show _=false;rfl)))
    rfl
   by_cases h2:l=0/\bs.getD (a - 1) 0=255
   . have d2:(((l:Nat):Int)==0)=true:=by rw [h2.1];rfl
     have d3:(bs.getD (a - 1) 0==255)=true:=by rw [h2.2];rfl
     by_cases h3:a=bs.length
     . have d4:(((a:Nat):Int)==((bs.length:Nat):Int))=true:=by rw [h3];exact beq_self_eq_true _
       have er:rA bs (a,l)=((0,7),a,l):=by unfold rA;rw [if_neg h0,if_neg (λ hh=> hh h1),if_pos h2,if_pos h3]
       rw [er]
       refine ⟨H,λ R K=> ?_,h, .refl _ _⟩
       unfold AAp ABP AAo ABo AAn ABn
       with_reducible repeat (first|refine (o _ _).trans ?_|refine (e1' _ _).trans ?_|refine (e2 _ _).trans ?_|refine (s1 _ _).trans ?_|refine (s2 _ _).trans ?_|((first|apply AAJ|apply AAH|apply AAY|apply AAw|apply go_i|apply go_b|apply go_l|apply go_p);with_unfolding_all first|exact (m _).trans rfl|rfl)|refine AAD rfl ?_|refine go_t d0 ?_|refine go_f d0 ?_|refine go_t d1 ?_|refine go_f d1 ?_|refine go_t d2 ?_|refine go_f d2 ?_|refine go_t d3 ?_|refine go_f d3 ?_|refine go_t d4 ?_|refine go_f d4 ?_|refine AAz ?_|refine AAx ?_|refine AAA ?_|refine AAC ?_|(refine go_t ?_ ?_;with_unfolding_all (show _=true;rfl))|(refine go_f ?_ ?_;with_unfolding_all (show _=false;rfl)))
       rfl
     . have d4:(((a:Nat):Int)==((bs.length:Nat):Int))=false:=by rw [beq_eq_false_iff_ne];omega
       obtain ⟨y,e3,e4⟩:=AIz h.sh (i:=a) (by omega)
       by_cases h4:bs.getD a 0=0
       . have d5:(bs.getD a 0 !=0)=false:=by rw [h4];rfl
         have er:rA bs (a,l)=((((a+1:Nat):Int),0),a+1,0):=by unfold rA;rw [if_neg h0,if_neg (λ hh=> hh h1),if_pos h2,if_neg h3,if_neg (λ hh=> hh h4)]
         obtain ⟨H1,e5,O1,b1,n1⟩:=Rd.st2 hO (a+1)
         have w2:IntKind.wrap .i64 (((a:Nat):Int)+1)=((a+1:Nat):Int):=by rw [w64 (by omega) (by omega)];omega
         have e5':∀(R:Type) (K:Heap->Option R),hst1 H (some ⟨p,2,none⟩) (.int .i64 (IntKind.wrap .i64 (((a:Nat):Int)+1))) K=K H1:=by rw [w2];exact e5
         obtain ⟨H2,e6,R2,b2⟩:=last H1 (a+1) O1 b1 (by omega)
         rw [er]
         refine ⟨H2,λ R K=> ?_,R2,b2⟩
         unfold AAp ABP AAo ABo AAn ABn
         with_reducible repeat (first|refine (o _ _).trans ?_|refine (e1' _ _).trans ?_|refine (e2 _ _).trans ?_|refine (s1 _ _).trans ?_|refine (s2 _ _).trans ?_|refine (e3 _ _).trans ?_|refine (e4 _ _).trans ?_|refine (e5' _ _).trans ?_|((first|apply AAJ|apply AAH|apply AAY|apply AAw|apply go_i|apply go_b|apply go_l|apply go_p);with_unfolding_all first|exact (m _).trans rfl|rfl)|refine AAD rfl ?_|refine go_t d0 ?_|refine go_f d0 ?_|refine go_t d1 ?_|refine go_f d1 ?_|refine go_t d2 ?_|refine go_f d2 ?_|refine go_t d3 ?_|refine go_f d3 ?_|refine go_t d4 ?_|refine go_f d4 ?_|refine go_t d5 ?_|refine go_f d5 ?_|refine AAz ?_|refine AAx ?_|refine AAA ?_|refine AAC ?_|(refine go_t ?_ ?_;with_unfolding_all (show _=true;rfl))|(refine go_f ?_ ?_;with_unfolding_all (show _=false;rfl)))
         exact e6 R K
       . have d5:(bs.getD a 0 !=0)=true:=by simpa using h4
         have er:rA bs (a,l)=((0,8),a,l):=by unfold rA;rw [if_neg h0,if_neg (λ hh=> hh h1),if_pos h2,if_neg h3,if_pos h4]
         rw [er]
         refine ⟨H,λ R K=> ?_,h, .refl _ _⟩
         unfold AAp ABP AAo ABo AAn ABn
         with_reducible repeat (first|refine (o _ _).trans ?_|refine (e1' _ _).trans ?_|refine (e2 _ _).trans ?_|refine (s1 _ _).trans ?_|refine (s2 _ _).trans ?_|refine (e3 _ _).trans ?_|refine (e4 _ _).trans ?_|((first|apply AAJ|apply AAH|apply AAY|apply AAw|apply go_i|apply go_b|apply go_l|apply go_p);with_unfolding_all first|exact (m _).trans rfl|rfl)|refine AAD rfl ?_|refine go_t d0 ?_|refine go_f d0 ?_|refine go_t d1 ?_|refine go_f d1 ?_|refine go_t d2 ?_|refine go_f d2 ?_|refine go_t d3 ?_|refine go_f d3 ?_|refine go_t d4 ?_|refine go_f d4 ?_|refine go_t d5 ?_|refine go_f d5 ?_|refine AAz ?_|refine AAx ?_|refine AAA ?_|refine AAC ?_|(refine go_t ?_ ?_;with_unfolding_all (show _=true;rfl))|(refine go_f ?_ ?_;with_unfolding_all (show _=false;rfl)))
         rfl
   . have er:rA bs (a,l)=((((a:Nat):Int),0),a,0):=by unfold rA;rw [if_neg h0,if_neg (λ hh=> hh h1),if_neg h2]
     obtain ⟨H2,e6,R2,b2⟩:=last H a hO (.refl _ _) ha
     rw [er]
     refine ⟨H2,λ R K=> ?_,R2,b2⟩
     by_cases h3:l=0
     . have d2:(((l:Nat):Int)==0)=true:=by rw [h3];rfl
       have d3:(bs.getD (a - 1) 0==255)=false:=by rw [beq_eq_false_iff_ne];exact λ hh=> h2 ⟨h3,hh⟩
       unfold AAp ABP AAo ABo AAn ABn
       refine (o _ _).trans (go_f rfl (AAC (AAA (go_i (m 2) (go_f d0 ?_)))))
       refine AAC (AAA (go_l (m 1) (AAC (AAA (go_i (m 2) ((e1' _ _).trans ((e2 _ _).trans ?_)))))))
       refine AAC (AAA (go_i (m 3) ((s1 _ _).trans ((s2 _ _).trans (go_f d1 ?_)))))
       refine AAC (AAA (go_i (m 3) (go_t d2 (go_f d3 ?_))))
       exact e6 R K
     . have d2:(((l:Nat):Int)==0)=false:=by rw [beq_eq_false_iff_ne];omega
       unfold AAp ABP AAo ABo AAn ABn
       refine (o _ _).trans (go_f rfl (AAC (AAA (go_i (m 2) (go_f d0 ?_)))))
       refine AAC (AAA (go_l (m 1) (AAC (AAA (go_i (m 2) ((e1' _ _).trans ((e2 _ _).trans ?_)))))))
       refine AAC (AAA (go_i (m 3) ((s1 _ _).trans ((s2 _ _).trans (go_f d1 ?_)))))
       refine AAC (AAA (go_i (m 3) (go_f d2 (go_f rfl ?_))))
       exact e6 R K
 . have d1:((((bs.getD (a - 1) 0).toNat % 2 ^ l:Nat):Int) !=0)=true:=by
    rw [bne_iff_ne];exact λ hh=> h1 (by exact_mod_cast hh)
   have er:rA bs (a,l)=((0,8),a,l):=by unfold rA;rw [if_neg h0,if_pos h1]
   rw [er]
   refine ⟨H,λ R K=> ?_,h, .refl _ _⟩
   unfold AAp ABP
   with_reducible repeat (first|refine (o _ _).trans ?_|refine (e1' _ _).trans ?_|refine (e2 _ _).trans ?_|refine (s1 _ _).trans ?_|refine (s2 _ _).trans ?_|((first|apply AAJ|apply AAH|apply AAY|apply AAw|apply go_i|apply go_b|apply go_l|apply go_p);with_unfolding_all first|exact (m _).trans rfl|rfl)|refine AAD rfl ?_|refine go_t d0 ?_|refine go_f d0 ?_|refine go_t d1 ?_|refine go_f d1 ?_|refine AAz ?_|refine AAx ?_|refine AAA ?_|refine AAC ?_|(refine go_t ?_ ?_;with_unfolding_all (show _=true;rfl))|(refine go_f ?_ ?_;with_unfolding_all (show _=false;rfl)))
   rfl
theorem ASY {H:Heap} {q:Oa} {bs:List Int} (c:Nat) (hS:Shows H q (byt bs)) (hb:Byts bs):∃p q' H',(∀(R:Type) (K:Oa->Heap->Option R),AFw q bs.length c H K=K (some ⟨p,0,none⟩) H')/\Rd H' p q' bs (0,0)/\Old H.length H H'/\H.length<=p/\∀a,q'=some a->H.length<=a.block/\a.block < p:=by
 have hl:=hb.2
 have hc:=hS.hcells
 rw [ARh] at hc
 by_cases h0:bs.length=0
 . have:bs= []:=List.length_eq_zero_iff.1 h0
   subst this
   refine ⟨H.length,none,H++ [some ⟨[.bool true, .slice none 0 0, .int .i64 0, .int .i64 0],false,0⟩],λ R K=> ?_,⟨⟨0,(show hblk _ _=_ from AAI H _)⟩, .inl rfl,(λ a ha=> by cases ha),⟨by simp,by simp,by simp⟩,hb⟩,Old.app _ _,Nat.le_refl _,λ a ha=> by cases ha⟩
   unfold AFw AHT hapnS hapn
   rw [Nat.mul_one,hc]
   simp [unk,hal]
 . obtain ⟨H1,hH1⟩:∃H1,H1=H++ [some (⟨byt bs,false,1⟩:Blk)]:=⟨_,rfl⟩
   have n1:H1.length=H.length+1:=by rw [hH1];simp
   have o1:Old H.length H H1:=hH1 ▸ Old.app _ _
   have e1:∀(R:Type) (K:Oa->Nat->Nat->Heap->Option R),hapnS 1 1 H none 0 0 q bs.length K=K (some ⟨H.length,0,none⟩) bs.length unk H1:=λ R K=> by
    unfold hapnS hapn
    rw [Nat.mul_one,hc]
    simp only
    rw [if_neg (by unfold unk;omega),if_neg h0,if_neg (by omega),if_pos (by omega)]
    have:FW.hcells H none (0 * 1)=some []:=rfl
    rw [this,hH1]
    simp
   obtain ⟨H2,hH2⟩:∃H2,H2=H1++ [some ⟨[.bool true, .slice (some ⟨H.length,0,none⟩) bs.length unk, .int .i64 0, .int .i64 0],false,0⟩]:=⟨_,rfl⟩
   have o2:Old H1.length H1 H2:=hH2 ▸ Old.app _ _
   have O1:Owns H1 H.length (byt bs) 1:=by rw [hH1];exact AAI H _
   have O2:Owns H2 H1.length [.bool true, .slice (some ⟨H.length,0,none⟩) bs.length unk, .int .i64 0, .int .i64 0] 0:=by rw [hH2];exact AAI H1 _
   refine ⟨H1.length,some ⟨H.length,0,none⟩,H2,λ R K=> ?_,⟨⟨unk,O2⟩,(O1.old o2 (by omega)).sees.shows,(λ a ha=> by cases ha;simp only;omega),⟨by simp,by simp,by simp⟩,hb⟩,o1.trans (o2.mono o1.1),by omega,λ a ha=> by cases ha;simp only;omega⟩
   unfold AFw AHT
   with_reducible repeat (first|refine (e1 _ _).trans ?_|((first|apply AAJ|apply AAH|apply AAY|apply AAw|apply go_i|apply go_b|apply go_l|apply go_p);with_unfolding_all rfl)|(refine AAW hH2 ?_ ?_ ?_;with_unfolding_all rfl;with_unfolding_all rfl)|refine AAD hH2 ?_|refine AAz ?_|refine AAx ?_|refine AAA ?_|refine AAC ?_|(refine go_t ?_ ?_;with_unfolding_all (show _=true;rfl))|(refine go_f ?_ ?_;with_unfolding_all (show _=false;rfl)))
   rfl
open Go.Proofs.Ytmanlfonppfhaaa.FW Go.IntWalk
def rcode (bs:List Int):Cod (Nat×Nat):=λ s _=> rget bs s
theorem Rd.same {H H':Heap} {p:Nat} {q:Oa} {bs:List Int} {s:Nat×Nat} (h:Rd H p q bs s) (h1:hblk H' p=hblk H p) (h2:∀a,q=some a->hblk H' a.block=hblk H a.block):Rd H' p q bs s:=by
 obtain ⟨c,hc⟩:=h.c
 exact ⟨⟨c,hc.same h1⟩,h.sh.same h2,h.ap,h.ok,h.by_⟩
def rDev (bs:List Int) (p:Nat) (qw:Oa):Dev (Nat×Nat):=⟨p,λ s q H=> q=qw/\Rd H p qw bs s/\∀a,qw=some a->a.block < H.length,λ _ _=> True⟩
theorem rOk (k:Nat) (bs:List Int) (p:Nat) (qw:Oa):DevOk (rDev bs p qw) (rcode bs) (λ R=> @ABe R k) where
 lt h:=h.2.1.lt
 qlt h a ha:=h.2.2 a (h.1 ▸ ha)
 same h hl h1 h2:=⟨h.1,h.2.1.same h1 λ a ha=> h2 a (h.1.trans ha),λ a ha=> Nat.lt_of_lt_of_le (h.2.2 a ha) hl⟩
 mono _ _:=trivial
 run:=by
  intro s q H m pb hi hr hp n
  obtain ⟨rfl,W,hN⟩:=hi
  simp only [rDev] at hp
  obtain ⟨Hn,hHn⟩:∃Hn,Hn=H++ [some (⟨[.int .i64 n.1, .int .i64 n.2.1, .bool n.2.2],false,0⟩:Blk)]:=⟨_,rfl⟩
  have on:Old H.length H Hn:=hHn ▸ Old.app _ _
  have W1:Rd Hn p q bs s:=W.same (on.2 _ W.lt) λ a ha=> on.2 _ (hN a ha)
  have cp:hcell Hn pb 0=some (.pointer (some ⟨p,0,none⟩)):=(hp.old on hp.lt).sees.cell 0
  obtain ⟨H',e1,W2,S⟩:=ARX k W1
  refine ⟨q,H',λ R K=> ?_,⟨rfl,W2,λ a ha=> by have:=hN a ha;have:=on.1;have:=S.1;omega⟩,trivial,(Stp.of_old on).trans (.of_but S)⟩
  unfold ABe AF4
  exact AAD hHn (go_p cp (e1 _ _))
def decW (bs:List Int) (a L:Nat) (g:Nat->Nat->Nd) (x y:Nat) (t:Int) (s:Nat×Nat):Int×(Nat×Nat)×(Nat->Nd):=wkr (rcode bs) t g a x y L s
def decR (bs:List Int) (a b L:Nat) (e d:Bool) (g:Nat->Nat->Nd) (x y t:Int) (s:Nat×Nat):(Bool×Int)×Bool×(Nat->Nat->Nd)×(Nat×Nat):=
 if e=true then ((false,6),d,g,s) else if ins a b x y=true/\0<=t/\t<=65536 then
  (if (decW bs a L g x.toNat y.toNat t s).1=0 then ((((decW bs a L g x.toNat y.toNat t s).2.2 0).2.2 && decide (((decW bs a L g x.toNat y.toNat t s).2.2 0).2.1 < t),0),true,gw a x.toNat y.toNat g (decW bs a L g x.toNat y.toNat t s).2.2 L,(decW bs a L g x.toNat y.toNat t s).2.1)
   else ((false,(decW bs a L g x.toNat y.toNat t s).1),d,g,(decW bs a L g x.toNat y.toNat t s).2.1))
 else ((false,2),d,g,s)
theorem ATt {bs:List Int} {a b L:Nat} {e d:Bool} {g:Nat->Nat->Nd} (h:Gok g) (x y t:Int) (s:Nat×Nat):Gok (decR bs a b L e d g x y t s).2.2.1:=by
 unfold decR
 split
 . exact h
 . split
   . split
     . exact Agv h (Aan _ _ h _ _ _ _ _)
     . exact h
   . exact h
theorem AT7 {k:Nat} (hk:70000 < k) {N:Nat} {H:Heap} {p:Nat} {q:Oa} {c:Nat} {l:List Lv} {e d:Bool} {g:Nat->Nat->Nd} (T:Tn N H p q c l e d g) {a b:Nat} (G:Geo a b l) (hg:Gok g) {pw:Nat} {qw:Oa} {bs:List Int} {s:Nat×Nat} (W:Rd H pw qw bs s) (hql:∀a,qw=some a->a.block < H.length) (hD:Off p q l pw) (hq:∀a,qw=some a->Off p q l a.block) (x y t:Int):
 ∃H',(∀(R:Type) (K:Bool->Int->Heap->Option R),AAy k (some ⟨p,0,none⟩) (some ⟨pw,0,none⟩) x y t H K=K (decR bs a b l.length e d g x y t s).1.1 (decR bs a b l.length e d g x y t s).1.2 H')/\Tn N H' p q c l e (decR bs a b l.length e d g x y t s).2.1 (decR bs a b l.length e d g x y t s).2.2.1/\Rd H' pw qw bs (decR bs a b l.length e d g x y t s).2.2.2/\Ch p l pw qw H qw H':=by
 obtain ⟨Hb,hHb⟩:∃Hb,Hb=H++ [some (⟨[.pointer (some ⟨pw,0,none⟩)],false,0⟩:Blk)]:=⟨_,rfl⟩
 have ob:Old H.length H Hb:=hHb ▸ Old.app _ _
 have hpb:Owns Hb H.length [.pointer (some ⟨pw,0,none⟩)] 0:=by rw [hHb];exact AAI H _
 have mp:hcell Hb H.length 0=some (.pointer (some ⟨pw,0,none⟩)):=hpb.sees.cell 0
 have Tb:=T.old ob (Nat.le_refl _)
 have Wb:Rd Hb pw qw bs s:=W.same (ob.2 _ W.lt) λ a ha=> ob.2 _ (hql a ha)
 have ok:=AVl Tb G.pos
 have m1:hcell Hb p 1=some (.bool e):=Tb.o.sees.cell 1
 have hWl:=W.lt
 have hlb:Hb.length=H.length+1:=by rw [hHb];simp
 cases he:e
 case true=>
  have er:decR bs a b l.length true d g x y t s=((false,6),d,g,s):=by unfold decR;rw [if_pos rfl]
  rw [er]
  rw [he] at Tb m1
  refine ⟨Hb,λ R K=> ?_,Tb,Wb, .of_old ob⟩
  unfold AAy AEt ABN ADZ
  exact AAD hHb ((ok _ _).trans (go_f rfl (AAC (AAA (go_b m1 (go_t rfl rfl))))))
 case false=>
  rw [he] at Tb m1
  obtain ⟨Hc,ec,Wc,Sc⟩:=ARD (k:=k) (by omega) Wb 0
  have ew:rB bs 0 s=((0,0),s):=by unfold rB;rw [if_pos ⟨by omega,by omega⟩];rfl
  rw [ew] at ec Wc
  have Cc:Ch p l pw qw H qw Hc:=(Ch.of_old ob).trans (.of_stp (.of_but Sc))
  have Tc1:Tn N Hc p q c l false d g:=Tb.fr (p2:=pw) (b:=pw) (q2:=none) (q2':=none) (.of_but Sc) hD (λ a ha=> by cases ha) hD
  have hpc:Owns Hc H.length [.pointer (some ⟨pw,0,none⟩)] 0:=hpb.but Sc (by omega)
  have hqc:∀a,qw=some a->a.block < Hc.length:=λ a ha=> by have:=hql a ha;have:=Sc.1;omega
  obtain ⟨Hd,ed,od⟩:=AVz Tc1 G x y
  have Td:=Tc1.old od (Nat.le_refl _)
  have Wd:Rd Hd pw qw bs s:=Wc.same (od.2 _ Wc.lt) λ a ha=> od.2 _ (hqc a ha)
  have Cd:Ch p l pw qw H qw Hd:=Cc.trans (.of_old od)
  have hpd:Owns Hd H.length [.pointer (some ⟨pw,0,none⟩)] 0:=hpc.old od hpc.lt
  have start:∀(R:Type) (K:Bool->Int->Heap->Option R) (rr:Option R),(bif !(ins a b x y) then K false 2 Hd else bif decide (t < 0) then K false 2 Hd else bif decide (t > 65536) then K false 2 Hd else AB5 k (some ⟨p,0,none⟩) x y t (some ⟨H.length,0,none⟩) Hd λ n541 H542=> bif (n541 !=0) then (K false n541 H542) else (hnil (some ⟨p,0,none⟩) λ p543=> hfad 2 p543 λ p544=> hst1 H542 p544 (.bool true) λ H545=> AAg (some ⟨p,0,none⟩) 0 x y H545 λ p546=> hnil p546 λ p547=> hfad 2 p547 λ p548=> ldB H545 p548 λ t549=> bif t549 then (hnil p546 λ p550=> hfad 1 p550 λ p551=> ldI .i64 H545 p551 λ n552=> K (decide (n552 < t)) 0 H545) else (K false 0 H545)))=rr->AAy k (some ⟨p,0,none⟩) (some ⟨pw,0,none⟩) x y t H K=rr:=by
   intro R K rr h
   unfold AAy AEt ABN ADZ ABw AFs
   refine AAD hHb ((ok _ _).trans (go_f rfl (AAC (AAA (go_b m1 (go_f rfl (go_p mp ((ec _ _).trans ?_))))))))
   exact go_f rfl ((ed _ _).trans h)
  by_cases hgd:ins a b x y=true/\0<=t/\t<=65536
  . have hi:=hgd.1
    obtain ⟨u,w,rfl,rfl,hu,hw⟩:=AVQ hi
    obtain ⟨q2,Hg,eg,ig,_,Tg,lg,sg,ng⟩:=AS1 (k:=k) hk (rOk k bs pw qw) (t:=t) (by omega) G hu hw hg (pb:=H.length) (show H.length≠pw by omega) hD (r:=0) (s:=s) (q2:=qw) (H:=Hd) ⟨rfl,Wd,λ a ha=> by have:=hqc a ha;have:=od.1;omega⟩ trivial Td hpd (λ a ha=> ⟨by have:=hql a ha;omega,hq a ha⟩)
    obtain ⟨rfl,Wg,hqg⟩:=ig
    have Cg:Ch p l pw q2 H q2 Hg:=Cd.trans ⟨lg,λ i hi h1 h2 _ h4=> sg i hi h1 h2 h4, .inl rfl⟩
    obtain ⟨W0,hW0⟩:∃W0,W0=wkr (rcode bs) t g a u w l.length s:=⟨_,rfl⟩
    rw [←hW0] at eg Wg Tg
    have eW:decW bs a l.length g u w t s=W0:=hW0.symm
    have sr:∀(R:Type) (K:Bool->Int->Heap->Option R) (rr:Option R),(bif (W0.1 !=0) then (K false W0.1 Hg) else (hnil (some ⟨p,0,none⟩) λ p543=> hfad 2 p543 λ p544=> hst1 Hg p544 (.bool true) λ H545=> AAg (some ⟨p,0,none⟩) 0 (u:Int) (w:Int) H545 λ p546=> hnil p546 λ p547=> hfad 2 p547 λ p548=> ldB H545 p548 λ t549=> bif t549 then (hnil p546 λ p550=> hfad 1 p550 λ p551=> ldI .i64 H545 p551 λ n552=> K (decide (n552 < t)) 0 H545) else (K false 0 H545)))=rr->AAy k (some ⟨p,0,none⟩) (some ⟨pw,0,none⟩) (u:Int) (w:Int) t H K=rr:=by
     intro R K rr h
     refine start R K _ ?_
     rw [hi]
     refine go_f rfl (go_f (decide_eq_false (by omega)) (go_f (decide_eq_false (by omega)) ((eg _ _).trans h)))
    by_cases herr:W0.1=0
    . have er:decR bs a b l.length false d g (u:Int) (w:Int) t s=(((W0.2.2 0).2.2 && decide ((W0.2.2 0).2.1 < t),0),true,gw a u w g W0.2.2 l.length,W0.2.1):=by
       unfold decR
       rw [if_neg (by simp),if_pos hgd,Int.toNat_natCast,Int.toNat_natCast,eW,if_pos herr]
      rw [er]
      rw [if_pos herr] at Tg
      obtain ⟨Hh,eh,Oh,Bh,nh⟩:=Owns.st1 (o:=2) Tg.o (by simp) (.bool true)
      have Th:Tn N Hh p q c l false true (gw a u w g W0.2.2 l.length):=Tg.flag Oh Bh
      have Wh:Rd Hh pw q2 bs W0.2.1:=Wg.same (Bh.2 _ Wg.lt hD.1) λ a ha=> Bh.2 _ (hqg a ha) (hq a ha).1
      obtain ⟨v0,hl0,e1,e2⟩:=G.lv0
      have hj:=AOS hu hw 0
      have hat:∀(R:Type) (K:Oa->Option R),AAg (some ⟨p,0,none⟩) 0 (u:Int) (w:Int) Hh K=K (some ⟨v0.b,ix a u w 0 * 3,none⟩):=Th.at G hl0 hu hw
      have eg0:gw a u w g W0.2.2 l.length 0 (ix a u w 0)=W0.2.2 0:=by unfold gw;rw [if_pos (show 0 < l.length from G.pos),ANZ]
      have n1:hcell Hh v0.b (ix a u w 0 * 3+1)=some (.int .i64 (W0.2.2 0).2.1):=by have:=Th.cell G hl0 hj (o:=1) (by omega);rw [eg0] at this;exact this
      have n2:hcell Hh v0.b (ix a u w 0 * 3+2)=some (.bool (W0.2.2 0).2.2):=by have:=Th.cell G hl0 hj (o:=2) (by omega);rw [eg0] at this;exact this
      refine ⟨Hh,λ R K=> sr R K _ ?_,Th,Wh,Cg.trans (.of_but Bh)⟩
      refine go_f (by rw [herr];rfl) (AAC (AAA ((eh _ _).trans ((hat _ _).trans (AAC (AAA (go_b n2 ?_)))))))
      cases hk:(W0.2.2 0).2.2
      . rfl
      . exact go_t rfl (AAC (AAA (go_i n1 rfl)))
    . have er:decR bs a b l.length false d g (u:Int) (w:Int) t s=((false,W0.1),d,g,W0.2.1):=by
       unfold decR
       rw [if_neg (by simp),if_pos hgd,Int.toNat_natCast,Int.toNat_natCast,eW,if_neg herr]
      rw [er]
      rw [if_neg herr] at Tg
      refine ⟨Hg,λ R K=> sr R K _ ?_,Tg,Wg,Cg⟩
      exact go_t (by rw [bne_iff_ne];exact herr) rfl
  . have er:decR bs a b l.length false d g x y t s=((false,2),d,g,s):=by unfold decR;rw [if_neg (by simp),if_neg hgd]
    rw [er]
    refine ⟨Hd,λ R K=> start R K _ ?_,Td,Wd,Cd⟩
    cases hi:ins a b x y
    . rfl
    . refine go_f rfl ?_
      by_cases h0:t < 0
      . exact go_t (decide_eq_true h0) rfl
      . exact go_f (decide_eq_false h0) (go_t (decide_eq_true (by rw [hi] at hgd;simp at hgd;omega)) rfl)
open Go.Proofs.Ytmanlfonppfhaaa.FW Go.IntWalk
theorem ATa (a b:Int):a<=imx a b/\b<=imx a b:=by unfold imx;split <;> omega
theorem ATT {S:Type} (code:Cod S) (t:Int):∀(m:Nat) (s:S) (n:Nd),(t - n.2.1).toNat<=m->(nlp code m s n).1=0->(t<=(nlp code m s n).2.2.2.1∨(nlp code m s n).2.2.2.2=true)/\n.2.1<=(nlp code m s n).2.2.2.1:=by
 intro m
 induction m with
 |zero=> intro s n h _;exact ⟨.inl (by simp only [nlp];omega),Int.le_refl _⟩
 |succ m ih=>
  intro s n h
  rw [nlp]
  split
  . rename_i hk;intro _;exact ⟨.inr hk,Int.le_refl _⟩
  . split
    . rename_i h1;intro h2;exact (h1 h2).elim
    . split
      . intro _;exact ⟨.inr rfl,Int.le_refl _⟩
      . intro h2
        have:=ih _ (n.1,n.2.1+1,n.2.2) (by simp only;omega) h2
        exact ⟨this.1,by have:=this.2;simp only at this;omega⟩
theorem Aao {S:Type} (code:Cod S) (t:Int) (f:Nat->Nd):∀(m:Nat) (low:Int) (s:S) (pf:Nat->Nd) (i:Nat),m<=i->(wk code t f m low s pf).2.2 i=pf i:=by
 intro m
 induction m with
 |zero=> intro low s pf i _;rfl
 |succ m ih=>
  intro low s pf i hi
  rw [wk]
  split
  . rfl
  . rw [ih _ _ _ _ (by omega),AOL _ _ (by omega)]
theorem AYE {S:Type} (code:Cod S) (t:Int) (f:Nat->Nd):∀(m:Nat) (low:Int) (s:S) (pf:Nat->Nd),(wk code t f m low s pf).1=0->
 (∀i,i < m->t<=((wk code t f m low s pf).2.2 i).2.1∨((wk code t f m low s pf).2.2 i).2.2=true)/\(∀i,i+1 < m->((wk code t f m low s pf).2.2 (i+1)).2.1<=((wk code t f m low s pf).2.2 i).2.1)/\(0 < m->low<=((wk code t f m low s pf).2.2 (m - 1)).2.1):=by
 intro m
 induction m with
 |zero=> intro low s pf _;exact ⟨λ i h=> by omega,λ i h=> by omega,λ h=> by omega⟩
 |succ m ih=>
  intro low s pf
  rw [wk]
  split
  . rename_i h;intro h2;exact (h h2).elim
  . rename_i hr
    have hr0:(nl code t s ((f m).1,imx (f m).2.1 low,(f m).2.2)).1=0:=by simpa using hr
    intro h
    obtain ⟨g1,g2,g3⟩:=ih _ _ _ h
    have hm:=Aao code t f m (nl code t s ((f m).1,imx (f m).2.1 low,(f m).2.2)).2.2.2.1 (nl code t s ((f m).1,imx (f m).2.1 low,(f m).2.2)).2.1 (upd pf m (nl code t s ((f m).1,imx (f m).2.1 low,(f m).2.2)).2.2) m (Nat.le_refl _)
    rw [ANZ] at hm
    have he:=ATT code t _ s _ (Nat.le_refl _) hr0
    refine ⟨λ i hi=> ?_,λ i hi=> ?_,λ _=> ?_⟩
    . by_cases h2:i < m
      . exact g1 i h2
      . obtain rfl:i=m:=by omega
        rw [hm];exact he.1
    . by_cases h2:i+1 < m
      . exact g2 i h2
      . obtain rfl:m=i+1:=by omega
        rw [hm]
        have:=g3 (by omega)
        rwa [show i+1 - 1=i from by omega] at this
    . rw [show m+1 - 1=m from by omega,hm]
      have:=(ATa (f m).2.1 low).2
      have h3:imx (f m).2.1 low<=(nl code t s ((f m).1,imx (f m).2.1 low,(f m).2.2)).2.2.2.1:=he.2
      omega
theorem Abt {a x y:Nat} {g:Nat->Nat->Nd} {pf:Nat->Nd} {n i:Nat} (h:i < n):gw a x y g pf n i (ix a x y i)=pf i:=by
 unfold gw;rw [if_pos h,ANZ]
open Go.Proofs.Ytmanlfonppfhaaa.FW Go.IntWalk
def tot:Nat->Nat->Nat->Nat
 |0,_,_=> 0
 |m+1,w,h=> if w=1/\h=1 then 0 else (w+1) / 2 * ((h+1) / 2)+tot m ((w+1) / 2) ((h+1) / 2)
theorem AVk:∀(m w h:Nat),1<=w->1<=h->w * h<=65536->tot m w h<=m * 65536:=by
 intro m
 induction m with
 |zero=> intro w h _ _ _;simp [tot]
 |succ m ih=>
  intro w h h1 h2 h3
  have:=AQv h1 h2 h3
  have:=ih ((w+1) / 2) ((h+1) / 2) (by omega) (by omega) this
  unfold tot;split <;> omega
theorem AVp {w h:Nat} (h1:1<=w) (h2:1<=h):w * h > 1 ↔ ¬ (w=1/\h=1):=by
 constructor
 . rintro h3 ⟨rfl,rfl⟩;omega
 . intro h3
   by_cases c:w=1
   . subst c
     have:h≠1:=λ e=> h3 ⟨rfl,e⟩
     omega
   . have:=Nat.mul_le_mul (show 2<=w by omega) h2
     omega
theorem Aa1 (k:Nat) (x y:Int):∀(m n w h t:Nat),m < n->1<=w->1<=h->w<=2 ^ m->h<=2 ^ m->m<=16->t+m * 65536<=10000000->w * h<=65536->∀(R:Type) (KE:Int->Int->Int->Option R),AEp k KE n x y (t:Int) (w:Int) (h:Int)=KE x y ((t+tot m w h:Nat):Int):=by
 intro m
 induction m with
 |zero=>
  intro n w h t hn hw hh hw2 hh2 hm ht hwh R KE
  obtain ⟨n,rfl⟩:∃n',n=n'+1:=⟨n - 1,by omega⟩
  simp only [Nat.pow_zero] at hw2 hh2
  obtain rfl:w=1:=by omega
  obtain rfl:h=1:=by omega
  have w1:IntKind.wrap .i64 (((1:Nat):Int) * ((1:Nat):Int))=((1 * 1:Nat):Int):=mulw (by omega)
  unfold AEp AJ5
  rw [w1]
  rfl
 |succ m ih=>
  intro n w h t hn hw hh hw2 hh2 hm ht hwh R KE
  obtain ⟨n,rfl⟩:∃n',n=n'+1:=⟨n - 1,by omega⟩
  have p16:2 ^ (m+1)<=2 ^ 16:=Nat.pow_le_pow_right (by omega) hm
  have hp:2 ^ (m+1)=2 * 2 ^ m:=Nat.pow_succ'
  have w1:IntKind.wrap .i64 ((w:Int) * (h:Int))=((w * h:Nat):Int):=mulw hwh
  by_cases hone:w=1/\h=1
  . obtain ⟨rfl,rfl⟩:=hone
    have:tot (m+1) 1 1=0:=by unfold tot;rw [if_pos ⟨rfl,rfl⟩]
    rw [this]
    unfold AEp AJ5
    rw [w1];rfl
  . have e1:tot (m+1) w h=(w+1) / 2 * ((h+1) / 2)+tot m ((w+1) / 2) ((h+1) / 2):=by rw [tot,if_neg hone]
    have hw1:=AQZ (w:=w) (by omega)
    have hh1:=AQZ (w:=h) (by omega)
    have hm2:=AQv hw hh hwh
    have w2:IntKind.wrap .i64 ((((w+1) / 2:Nat):Int) * (((h+1) / 2:Nat):Int))=(((w+1) / 2 * ((h+1) / 2):Nat):Int):=mulw hm2
    have w3:IntKind.wrap .i64 ((t:Int)+(((w+1) / 2 * ((h+1) / 2):Nat):Int))=((t+(w+1) / 2 * ((h+1) / 2):Nat):Int):=by rw [w64 (by omega) (by omega)];omega
    have r:=ih n ((w+1) / 2) ((h+1) / 2) (t+(w+1) / 2 * ((h+1) / 2)) (by omega) (by omega) (by omega) (by omega) (by omega) (by omega) (by omega) hm2 R KE
    have h1:=(AVp hw hh).2 hone
    have d1:decide (((w * h:Nat):Int) > 1)=true:=decide_eq_true (by omega)
    rw [e1,←Nat.add_assoc,←r]
    unfold AEp AJ5
    rw [w1]
    refine go_t d1 ?_
    rw [hw1,hh1,w2,w3]
    cases n <;> rfl
def base (a b:Nat):Nat->Nat
 |0=> 0
 |i+1=> base a b i+wl a i * wl b i
def Rel (a b L:Nat) (F:Nat->Nd) (g:Nat->Nat->Nd):Prop:=∀i,i < L->∀j,j < wl a i * wl b i->F (base a b i+j)=g i j
theorem AOa {a b:Nat}:∀ {i k:Nat},i<=k->base a b i<=base a b k:=by
 intro i k h
 induction h with
 |refl=> exact Nat.le_refl _
 |step _ ih=> exact Nat.le_trans ih (Nat.le_add_right _ _)
theorem AOZ {a b L i j:Nat} (hi:i < L) (hj:j < wl a i * wl b i):base a b i+j < base a b L:=by
 have:base a b (i+1)<=base a b L:=AOa hi
 have e:base a b (i+1)=base a b i+wl a i * wl b i:=rfl
 omega
theorem AVc {a b i j i' j':Nat} (hj:j < wl a i * wl b i) (hj':j' < wl a i' * wl b i') (e:base a b i+j=base a b i'+j'):i=i'/\j=j':=by
 rcases Nat.lt_trichotomy i i' with h|h|h
 . have:base a b (i+1)<=base a b i':=AOa h
   have e:base a b (i+1)=base a b i+wl a i * wl b i:=rfl
   omega
 . subst h;exact ⟨rfl,by omega⟩
 . have:base a b (i'+1)<=base a b i:=AOa h
   have e:base a b (i'+1)=base a b i'+wl a i' * wl b i':=rfl
   omega
theorem Rel.put {a b L:Nat} {F:Nat->Nd} {g:Nat->Nat->Nd} (h:Rel a b L F g) {i j:Nat} (hi:i < L) (hj:j < wl a i * wl b i) (x:Nd):Rel a b L (upd F (base a b i+j) x) (upd2 g i j x):=by
 intro i' hi' j' hj'
 by_cases e:base a b i'+j'=base a b i+j
 . obtain ⟨rfl,rfl⟩:=AVc hj' hj e
   rw [ANZ,AOM,ANZ]
 . rw [AOL _ _ e,h i' hi' j' hj']
   by_cases hi2:i'=i
   . subst hi2
     rw [AOM,AOL _ _ (λ h=> e (by rw [h]))]
   . rw [AQn _ _ _ hi2]
theorem Rel.congr {a b L:Nat} {F:Nat->Nd} {g g':Nat->Nat->Nd} (h:Rel a b L F g) (e:∀i,i < L->∀j,j < wl a i * wl b i->g i j=g' i j):Rel a b L F g':=λ i hi j hj=> (h i hi j hj).trans (e i hi j hj)
structure Rt (M:Nat) (H:Heap) (p bn n cap z a b:Nat) (e d:Bool) (F:Nat->Nd):Prop where
 o:Owns H p [.bool true, .int .i64 (a:Int), .int .i64 (b:Int), .slice (some ⟨bn,0,none⟩) n cap, .bool e, .bool d] 0
 n:Owns H bn (nds n F) z
 ne:bn≠p
 lp:M<=p
 lb:M<=bn
theorem Rt.same {M:Nat} {H H':Heap} {p bn n cap z a b:Nat} {e d:Bool} {F:Nat->Nd} (h:Rt M H p bn n cap z a b e d F) (h1:hblk H' p=hblk H p) (h2:hblk H' bn=hblk H bn):Rt M H' p bn n cap z a b e d F:=⟨h.o.same h1,h.n.same h2,h.ne,h.lp,h.lb⟩
theorem Rt.keep {M:Nat} {H H':Heap} {p bn n cap z a b:Nat} {e d:Bool} {F:Nat->Nd} (h:Rt M H p bn n cap z a b e d F) (o:Old H.length H H'):Rt M H' p bn n cap z a b e d F:=h.same (o.2 _ h.o.lt) (o.2 _ h.n.lt)
theorem ARr:∀(m a b i:Nat),1<=a->1<=b->a<=2 ^ m->b<=2 ^ m->i < (lvs (m+1) a b).length->(i+1=(lvs (m+1) a b).length->base a b (i+1)=a * b+tot m a b)/\((wl a i=1/\wl b i=1) ↔ i+1=(lvs (m+1) a b).length):=by
 have shift:∀(a b i:Nat),1<=a->1<=b->base a b (i+1)=a * b+base ((a+1) / 2) ((b+1) / 2) i:=by
  intro a b i ha hb
  induction i with
  |zero=> simp [base,AJU ha,AJU hb]
  |succ i ih=>
   have e1:base a b (i+1+1)=base a b (i+1)+wl a (i+1) * wl b (i+1):=rfl
   have e2:base ((a+1) / 2) ((b+1) / 2) (i+1)=base ((a+1) / 2) ((b+1) / 2) i+wl ((a+1) / 2) i * wl ((b+1) / 2) i:=rfl
   rw [e1,e2,ih,ANn ha,ANn hb];omega
 intro m
 induction m with
 |zero=>
  intro a b i ha hb ha2 hb2 hi
  simp only [Nat.pow_zero] at ha2 hb2
  obtain rfl:a=1:=by omega
  obtain rfl:b=1:=by omega
  have hl:(lvs (0+1) 1 1).length=1:=rfl
  rw [hl] at hi ⊢
  obtain rfl:i=0:=by omega
  exact ⟨λ _=> rfl,by simp [wl]⟩
 |succ m ih=>
  intro a b i ha hb ha2 hb2 hi
  have hp:2 ^ (m+1)=2 * 2 ^ m:=Nat.pow_succ'
  by_cases h1:a=1/\b=1
  . obtain ⟨rfl,rfl⟩:=h1
    have hl:(lvs (m+1+1) 1 1).length=1:=by rw [lvs,if_pos ⟨rfl,rfl⟩];rfl
    have ht:tot (m+1) 1 1=0:=by unfold tot;rw [if_pos ⟨rfl,rfl⟩]
    rw [hl] at hi ⊢
    obtain rfl:i=0:=by omega
    rw [ht]
    exact ⟨λ _=> rfl,by simp [wl]⟩
  . have hl:(lvs (m+1+1) a b).length=1+(lvs (m+1) ((a+1) / 2) ((b+1) / 2)).length:=by rw [lvs,if_neg h1,List.length_cons];omega
    have ht:tot (m+1) a b=(a+1) / 2 * ((b+1) / 2)+tot m ((a+1) / 2) ((b+1) / 2):=by rw [tot,if_neg h1]
    have hl0:1<=(lvs (m+1) ((a+1) / 2) ((b+1) / 2)).length:=by rw [lvs];simp
    rw [hl] at hi ⊢
    cases i with
    |zero=>
     rw [AJU ha,AJU hb]
     refine ⟨λ h=> by omega,⟨λ h=> (h1 h).elim,λ h=> by omega⟩⟩
    |succ i=>
     obtain ⟨i1,i2⟩:=ih ((a+1) / 2) ((b+1) / 2) i (by omega) (by omega) (by omega) (by omega) (by omega)
     rw [ANn ha,ANn hb] at i2
     refine ⟨λ h=> ?_,⟨λ h=> by have:=i2.1 h;omega,λ h=> i2.2 (by omega)⟩⟩
     rw [shift a b (i+1) ha hb,i1 (by omega),ht]
theorem AVT {a b:Nat} {l:List Lv} (G:Geo a b l) (h:l.map (λ v=> (v.w,v.h))=lvs 17 a b):(∀i,i < l.length->((wl a i=1/\wl b i=1) ↔ i+1=l.length))/\base a b l.length=a * b+tot 16 a b:=by
 have hl:l.length=(lvs 17 a b).length:=by rw [←h,List.length_map]
 have hp:=G.pos
 have:=G.am;have:=G.bm
 refine ⟨λ i hi=> ?_, ?_⟩
 . rw [hl] at hi ⊢
   exact (ARr 16 a b i G.a1 G.b1 (by omega) (by omega) hi).2
 . have:=(ARr 16 a b (l.length - 1) G.a1 G.b1 (by omega) (by omega) (by rw [←hl];omega)).1 (by rw [←hl];omega)
   rwa [show l.length - 1+1=l.length from by omega] at this
theorem ATJ {k:Nat} (hk:100 < k) (H:Heap) (w h:Int):(vld w h≠0/\∀(R:Type) (K:Oa->Int->Heap->Option R),AM8 k w h H K=K none (vld w h) H)∨
 (vld w h=0/\∀(a b:Nat),w=a->h=b->∃H',(∀(R:Type) (K:Oa->Int->Heap->Option R),AM8 k w h H K=K (some ⟨H.length+1,0,none⟩) 0 H')/\Rt H.length H' (H.length+1) H.length (a * b+tot 16 a b) (a * b+tot 16 a b) 0 a b false false (λ _=> nz)/\Old H.length H H'/\H'.length=H.length+2):=by
 by_cases hv:vld w h=0
 . right
   refine ⟨hv,λ a b hwa hhb=> ?_⟩
   have hv2:=hv
   unfold vld at hv2
   split at hv2
   . omega
   split at hv2
   . omega
   rename_i c1 c2
   subst hwa hhb
   have hab:a * b<=65536:=by rw [←Int.natCast_mul] at c2;omega
   have w1:IntKind.wrap .i64 ((a:Int) * (b:Int))=((a * b:Nat):Int):=mulw hab
   have hl:=Aa1 k (a:Int) (b:Int) 16 k a b (a * b) (by omega) (by omega) (by omega) (by omega) (by omega) (by omega) (by omega) hab
   have htl:=AVk 16 a b (by omega) (by omega) hab
   obtain ⟨Ha,hHa⟩:∃Ha,Ha=H++ [some (⟨mkCells [.int .i64 0, .int .i64 0, .bool false] (a * b+tot 16 a b),false,0⟩:Blk)]:=⟨_,rfl⟩
   obtain ⟨Hb,hHb⟩:∃Hb,Hb=Ha++ [some (⟨[.bool true, .int .i64 (a:Int), .int .i64 (b:Int), .slice (some ⟨H.length,0,none⟩) (a * b+tot 16 a b) (a * b+tot 16 a b), .bool false, .bool false],false,0⟩:Blk)]:=⟨_,rfl⟩
   have em:∀(R:Type) (K:Oa->Nat->Nat->Heap->Option R),hmk [.int .i64 0, .int .i64 0, .bool false] 24 H ((a * b+tot 16 a b:Nat):Int) ((a * b+tot 16 a b:Nat):Int) K=K (some ⟨H.length,0,none⟩) (a * b+tot 16 a b) (a * b+tot 16 a b) Ha:=λ R K=> by
    unfold hmk
    rw [if_pos ⟨by omega,by omega,by omega,by omega⟩,hHa];rfl
   have d1:decide ((a:Int) < 1)=false:=decide_eq_false (by omega)
   have d2:decide ((b:Int) < 1)=false:=decide_eq_false (by omega)
   have d3:decide ((a:Int) > 65536)=false:=decide_eq_false (by omega)
   have d4:decide ((b:Int) > 65536)=false:=decide_eq_false (by omega)
   have d5:decide (((a * b:Nat):Int) > 65536)=false:=decide_eq_false (by omega)
   have la:Ha.length=H.length+1:=by rw [hHa];simp
   have lb:Hb.length=Ha.length+1:=by rw [hHb];simp
   have oa:Old H.length H Ha:=hHa ▸ Old.app _ _
   have ob:Old Ha.length Ha Hb:=hHb ▸ Old.app _ _
   have Oa:Owns Ha H.length (nds (a * b+tot 16 a b) (λ _=> nz)) 0:=by rw [hHa,←AR3];exact AAI H _
   have Ob:Owns Hb Ha.length [.bool true, .int .i64 (a:Int), .int .i64 (b:Int), .slice (some ⟨H.length,0,none⟩) (a * b+tot 16 a b) (a * b+tot 16 a b), .bool false, .bool false] 0:=by rw [hHb];exact AAI Ha _
   rw [la] at Ob
   refine ⟨Hb,λ R K=> ?_,⟨Ob,Oa.old ob Oa.lt,by omega,by omega,by omega⟩,oa.trans (ob.mono oa.1),by omega⟩
   rw [←la]
   unfold AM8 ANl AHg ALs AHf ALq
   refine go_f d1 (go_f d2 (go_f d3 (go_f d4 ?_)))
   try dsimp only
   rw [w1]
   refine go_f d5 ?_
   refine (hl _ _).trans ((em _ _).trans ?_)
   exact AAD hHb rfl
 . left
   refine ⟨hv,λ R K=> ?_⟩
   unfold AM8 ANl AHg ALs AHf ALq
   unfold vld at hv ⊢
   by_cases c1:w < 1
   . rw [if_pos (.inl c1),decide_eq_true c1];rfl
   by_cases c2:h < 1
   . rw [if_pos (.inr c2),decide_eq_false c1,decide_eq_true c2];rfl
   rw [if_neg (by omega)] at hv ⊢
   refine go_f (decide_eq_false c1) (go_f (decide_eq_false c2) ?_)
   by_cases c3:w > 65536
   . rw [if_pos (.inl c3)];exact go_t (decide_eq_true c3) rfl
   by_cases c4:h > 65536
   . rw [if_pos (.inr (.inl c4))];exact go_f (decide_eq_false c3) (go_t (decide_eq_true c4) rfl)
   have hm:=AVw (w:=w) (h:=h) (by omega) (by omega) (by omega) (by omega)
   refine go_f (decide_eq_false c3) (go_f (decide_eq_false c4) ?_)
   by_cases c5:w * h > 65536
   . rw [if_pos (.inr (.inr c5))]
     try dsimp only
     rw [w64 (by omega) (by omega)]
     exact go_t (decide_eq_true c5) rfl
   . rw [if_neg (by omega)] at hv;exact (hv rfl).elim
theorem ATW {M:Nat} {H:Heap} {p bn n cap z a b:Nat} {e d:Bool} {F:Nat->Nd} (T:Rt M H p bn n cap z a b e d F) (x y:Int):∀(R:Type) (K:Bool->Option R),AGN (some ⟨p,0,none⟩) x y H K=K (ins a b x y):=by
 intro R K
 have m1:hcell H p 1=some (.int .i64 (a:Int)):=T.o.sees.cell 1
 have m2:hcell H p 2=some (.int .i64 (b:Int)):=T.o.sees.cell 2
 unfold AGN ALB ins
 by_cases c1:x≥0
 . refine go_t (decide_eq_true c1) (AAC (AAA (go_i m1 ?_)))
   by_cases c2:x < (a:Int)
   . refine go_t (decide_eq_true c2) ?_
     by_cases c3:y≥0
     . refine go_t (decide_eq_true c3) (AAC (AAA (go_i m2 ?_)))
       congr 1
       exact decide_eq_decide.2 ⟨λ h=> ⟨c1,c2,c3,h⟩,λ h=> h.2.2.2⟩
     . refine go_f (decide_eq_false c3) ?_
       rw [decide_eq_false (λ h=> c3 h.2.2.1)]
   . refine go_f (decide_eq_false c2) ?_
     rw [decide_eq_false (λ h=> c2 h.2.1)]
 . refine go_f (decide_eq_false c1) ?_
   rw [decide_eq_false (λ h=> c1 h.1)]
theorem Rt.put3 {M:Nat} {H:Heap} {p bn n cap z a b:Nat} {e d:Bool} {F:Nat->Nd} (T:Rt M H p bn n cap z a b e d F) {m:Nat} (hm:m < n) (x:Nd):
 ∃H',(∀(R:Type) (K:Heap->Option R),hst H (some ⟨bn,m * 3,none⟩) (nd x) K=K H')/\Rt M H' p bn n cap z a b e d (upd F m x)/\But bn H H'/\H'.length=H.length:=by
 obtain ⟨H',e1,O,l,s⟩:=AKR (o:=m * 3) (vs:=nd x) T.n (by rw [AMK];have:(nd x).length=3:=rfl;omega) rfl
 rw [ANH F hm x] at O
 have B:But bn H H':=⟨by omega,λ k _ hk=> s k hk⟩
 exact ⟨H',e1,⟨T.o.but B (λ h=> T.ne h.symm),O,T.ne,T.lp,T.lb⟩,B,l⟩
theorem Rt.cell {M:Nat} {H:Heap} {p bn n cap z a b:Nat} {e d:Bool} {F:Nat->Nd} (T:Rt M H p bn n cap z a b e d F) {m:Nat} (hm:m < n) {o:Nat} (ho:o < 3):hcell H bn (m * 3+o)=(nd (F m))[o]? :=by
 rw [T.n.sees.cell];exact AQX _ hm ho
theorem rix {a b x y L:Nat} (ha:1<=a) (hb:1<=b) (hx:x < a) (hy:y < b) (hab:a * b<=65536) (hL:1<=L):IntKind.wrap .i64 (IntKind.wrap .i64 ((y:Int) * (a:Int))+(x:Int))=((base a b 0+ix a x y 0:Nat):Int)/\base a b 0+ix a x y 0 < base a b L:=by
 have h1:(y+1) * a<=b * a:=Nat.mul_le_mul_right a hy
 have h3:=AOZ (a:=a) (b:=b) (L:=L) (i:=0) (j:=ix a x y 0) hL (AOS hx hy 0)
 have e:ix a x y 0=y * a+x:=by unfold ix;rw [AJU ha];simp
 refine ⟨?_,h3⟩
 rw [Nat.add_mul,Nat.mul_comm b] at h1
 rw [e,←Int.natCast_mul]
 have e0:base a b 0=0:=rfl
 rw [e0]
 generalize y * a=m at h1 ⊢
 rw [w64 (n:=(m:Int)) (by omega) (by omega),w64 (by omega) (by omega)]
 omega
theorem ATI {k:Nat} {M:Nat} {H:Heap} {p bn n cap z a b L:Nat} {e d:Bool} {F:Nat->Nd} {g:Nat->Nat->Nd} (T:Rt M H p bn n cap z a b e d F) (hn:n=base a b L) (hr:Rel a b L F g) (ha:1<=a) (hb:1<=b) (hab:a * b<=65536) (hL:1<=L) (x y:Int):
 ∀(R:Type) (K:Int->Bool->Option R),ADO k (some ⟨p,0,none⟩) x y H K=K (valR a b x y g).1 (valR a b x y g).2:=by
 intro R K
 have m0:hcell H p 0=some (.bool true):=T.o.sees.cell 0
 have m1:hcell H p 1=some (.int .i64 (a:Int)):=T.o.sees.cell 1
 have m3:hcell H p 3=some (.slice (some ⟨bn,0,none⟩) n cap):=T.o.sees.cell 3
 unfold ADO AKT AEL AIS valR
 refine go_f rfl (AAC (AAA (go_b m0 (go_f rfl ((ATW T _ _ _ _).trans ?_)))))
 cases hi:ins a b x y
 . rw [if_neg (by simp)];rfl
 . obtain ⟨u,w,rfl,rfl,hu,hw⟩:=AVQ hi
   obtain ⟨hw1,hlt⟩:=rix ha hb hu hw hab hL
   have hF:=hr 0 (by omega) _ (AOS hu hw 0)
   have n1:hcell H bn ((base a b 0+ix a u w 0) * 3+1)=some (.int .i64 (g 0 (ix a u w 0)).2.1):=by rw [T.cell (by omega) (by omega),hF];rfl
   have n2:hcell H bn ((base a b 0+ix a u w 0) * 3+2)=some (.bool (g 0 (ix a u w 0)).2.2):=by rw [T.cell (by omega) (by omega),hF];rfl
   refine go_f rfl (AAC (AAA (go_l m3 (AAC (AAA (go_i m1 ?_))))))
   rw [hw1]
   refine (hidx3 (by omega) _ _).trans (AAA (go_b n2 ?_))
   rw [Int.toNat_natCast,Int.toNat_natCast]
   cases hk:(g 0 (ix a u w 0)).2.2
   . rw [if_neg (by simp)];rfl
   . rw [if_pos ⟨rfl,rfl⟩]
     refine go_f rfl (AAC (AAA (go_l m3 (AAC (AAA (go_i m1 ?_))))))
     rw [hw1]
     exact (hidx3 (by omega) _ _).trans (AAA (go_i n1 rfl))
open Go.Proofs.Ytmanlfonppfhaaa.FW Go.IntWalk
def pl (P:Nat->Nat):Nat->List Int
 |0=> [((P 0:Nat):Int)]
 |i+1=> ((P (i+1):Nat):Int)::pl P i
theorem ATP (P:Nat->Nat) (i:Nat):(pl P i).length=i+1:=by
 induction i with
 |zero=> rfl
 |succ i ih=> rw [pl,List.length_cons,ih]
theorem AbB (P:Nat->Nat):∀(i j:Nat),j<=i->(pl P i)[j]? =some ((P (i - j):Nat):Int):=by
 intro i
 induction i with
 |zero=>
  intro j hj;obtain rfl:j=0:=by omega
  rfl
 |succ i ih=>
  intro j hj
  cases j with
  |zero=> rfl
  |succ j=> rw [pl,List.getElem?_cons_succ,ih j (by omega),show i+1 - (j+1)=i - j from by omega]
theorem Aam {a:Nat} (i:Nat):(wl a i+1) / 2=wl a (i+1):=by
 have h1:=AQ6 a i
 have h2:=AYD a i
 omega
theorem AV0 {n:Nat} (h:n<=100000):IntKind.wrap .i64 (Int.tdiv ((n:Nat):Int) 2)=((n / 2:Nat):Int):=by
 rw [show Int.tdiv ((n:Nat):Int) 2=((n / 2:Nat):Int) from rfl,w64 (by omega) (by omega)]
theorem AbC (k:Nat) {a b L x y:Nat} (ha:1<=a) (hb:1<=b) (ham:a<=65536) (hbm:b<=65536) (hwh:∀i,wl a i * wl b i<=65536) (hL:L<=17) (hbs:base a b L<=2000000) (hlast:∀i,i < L->((wl a i=1/\wl b i=1) ↔ i+1=L)) (hx:x < a) (hy:y < b) (N0:Nat):
 ∀(m n i:Nat),m < n->L=i+1+m->∀(H:Heap) (q:Oa) (c:Nat),N0<=H.length->(i=0/\q=none/\c=0∨∃i0,i=i0+1/\Shows H q (b64 (pl (λ i=> base a b i+ix a x y i) i0))/\∀a,q=some a->N0<=a.block)->
 ∃H' q' c',(∀(R:Type) (KR:Oa->Nat->Nat->Heap->Option R),ACE k KR n ((x / 2 ^ i:Nat):Int) ((y / 2 ^ i:Nat):Int) q i c ((wl a i:Nat):Int) ((wl b i:Nat):Int) ((base a b i:Nat):Int) H=KR q' L c' H')/\Shows H' q' (b64 (pl (λ i=> base a b i+ix a x y i) (L - 1)))/\(∀a,q'=some a->N0<=a.block)/\Old H.length H H':=by
 have step:∀(n i:Nat),i < L->∀(H:Heap) (q:Oa) (c:Nat),N0<=H.length->(i=0/\q=none/\c=0∨∃i0,i=i0+1/\Shows H q (b64 (pl (λ i=> base a b i+ix a x y i) i0))/\∀a,q=some a->N0<=a.block)->
  ∃H' q' c',(∀(R:Type) (KR:Oa->Nat->Nat->Heap->Option R),ACE k KR (n+1) ((x / 2 ^ i:Nat):Int) ((y / 2 ^ i:Nat):Int) q i c ((wl a i:Nat):Int) ((wl b i:Nat):Int) ((base a b i:Nat):Int) H=bif (((wl a i * wl b i:Nat):Int)==1) then KR q' (i+1) c' H' else ACE k KR n ((x / 2 ^ (i+1):Nat):Int) ((y / 2 ^ (i+1):Nat):Int) q' (i+1) c' ((wl a (i+1):Nat):Int) ((wl b (i+1):Nat):Int) ((base a b (i+1):Nat):Int) H')/\Shows H' q' (b64 (pl (λ i=> base a b i+ix a x y i) i))/\(∀a,q'=some a->N0<=a.block)/\Old H.length H H':=by
  intro n i hi H q c hN hq
  have hxi:x / 2 ^ i<=x:=Nat.div_le_self _ _
  have hyi:y / 2 ^ i<=y:=Nat.div_le_self _ _
  have hwi:=hwh i
  have hwa:=AUw a i
  have hwb:=AUw b i
  have hix:=AOS hx hy i
  have hbl:=AOZ (a:=a) (b:=b) hi hix
  have hbl2:base a b i<=base a b L:=AOa (by omega)
  have hbl3:base a b (i+1)<=base a b L:=AOa (by omega)
  have e0:IntKind.wrap .i64 (IntKind.wrap .i64 (((base a b i:Nat):Int)+IntKind.wrap .i64 (((y / 2 ^ i:Nat):Int) * ((wl a i:Nat):Int)))+((x / 2 ^ i:Nat):Int))=((base a b i+ix a x y i:Nat):Int):=by
   have he:ix a x y i=y / 2 ^ i * wl a i+x / 2 ^ i:=rfl
   rw [←Int.natCast_mul]
   generalize y / 2 ^ i * wl a i=Y at he ⊢
   generalize x / 2 ^ i=X at he ⊢
   rw [w64 (n:=(Y:Int)) (by omega) (by omega),w64 (n:=((base a b i:Nat):Int)+(Y:Int)) (by omega) (by omega),w64 (by omega) (by omega)]
   omega
  have e1:IntKind.wrap .i64 (((wl a i:Nat):Int) * ((wl b i:Nat):Int))=((wl a i * wl b i:Nat):Int):=mulw hwi
  have e2:IntKind.wrap .i64 (Int.tdiv ((x / 2 ^ i:Nat):Int) 2)=((x / 2 ^ (i+1):Nat):Int):=by rw [AV0 (by omega),Nat.div_div_eq_div_mul,Nat.pow_succ]
  have e3:IntKind.wrap .i64 (Int.tdiv ((y / 2 ^ i:Nat):Int) 2)=((y / 2 ^ (i+1):Nat):Int):=by rw [AV0 (by omega),Nat.div_div_eq_div_mul,Nat.pow_succ]
  have e4:IntKind.wrap .i64 (Int.tdiv (IntKind.wrap .i64 (((wl a i:Nat):Int)+1)) 2)=((wl a (i+1):Nat):Int):=by rw [AQZ (by omega),Aam]
  have e5:IntKind.wrap .i64 (Int.tdiv (IntKind.wrap .i64 (((wl b i:Nat):Int)+1)) 2)=((wl b (i+1):Nat):Int):=by rw [AQZ (by omega),Aam]
  have e6:IntKind.wrap .i64 (((base a b i:Nat):Int)+((wl a i * wl b i:Nat):Int))=((base a b (i+1):Nat):Int):=by
   rw [w64 (by omega) (by omega)];exact (Int.natCast_add _ _).symm
  obtain ⟨Hn,hHn⟩:∃Hn,Hn=H++ [some (⟨[.int .i64 ((base a b i+ix a x y i:Nat):Int)],false,0⟩:Blk)]:=⟨_,rfl⟩
  have on:Old H.length H Hn:=hHn ▸ Old.app _ _
  have ln:Hn.length=H.length+1:=by rw [hHn];simp
  have On:Owns Hn H.length [.int .i64 ((base a b i+ix a x y i:Nat):Int)] 0:=by rw [hHn];exact AAI H _
  obtain ⟨H',q',c',ea,hS',hq',o'⟩:∃H' q' c',(∀(R:Type) (K:Oa->Nat->Nat->Heap->Option R),happS 1 8 Hn (some ⟨H.length,0,none⟩) 1 1 q i K=K q' (i+1) c' H')/\Shows H' q' (b64 (pl (λ i=> base a b i+ix a x y i) i))/\(∀a,q'=some a->N0<=a.block)/\Old Hn.length Hn H':=by
   rcases hq with ⟨rfl,rfl,rfl⟩|⟨i0,rfl,hS,hqn⟩
   . refine ⟨Hn,some ⟨H.length,0,none⟩,1,λ R K=> ?_,On.sees.shows,λ a ha=> by cases ha;exact hN, .refl _ _⟩
     unfold happS happ
     have:FW.hcells Hn none (0 * 1)=some []:=rfl
     rw [this]
     simp only
     rw [if_neg (by unfold unk;omega),if_pos (by omega),if_pos trivial]
   . have hc:=(hS.keep on).hcells
     rw [ARj,ATP] at hc
     have hp:=On.sees.shows.hcells
     refine ⟨Hn++ [some ⟨[.int .i64 ((base a b (i0+1)+ix a x y (i0+1):Nat):Int)]++b64 (pl (λ i=> base a b i+ix a x y i) i0),false,1⟩],some ⟨Hn.length,0,none⟩,unk,λ R K=> ?_, ?_,λ a ha=> by cases ha;simp only;omega,Old.app _ _⟩
     . unfold happS happ
       rw [Nat.mul_one,hc]
       simp only
       rw [if_neg (by unfold unk;omega),if_neg (by omega),if_pos (by omega)]
       have hp':FW.hcells Hn (some ⟨H.length,0,none⟩) (1 * 1)=some [.int .i64 ((base a b (i0+1)+ix a x y (i0+1):Nat):Int)]:=hp
       rw [hp']
       simp only
       rw [Nat.add_comm 1 (i0+1)]
     . exact (show Owns _ Hn.length _ 1 from AAI Hn _).sees.shows
  refine ⟨H',q',c',λ R KR=> ?_,hS',hq',on.trans (o'.mono on.1)⟩
  rw [ACE]
  unfold AJK
  rw [e0,e1,e2,e3,e4,e5,e6]
  exact AAD hHn (ea _ _)
 intro m
 induction m with
 |zero=>
  intro n i hn hi H q c hN hq
  obtain ⟨n,rfl⟩:∃n',n=n'+1:=⟨n - 1,by omega⟩
  obtain ⟨H',q',c',e,hS,hq',o⟩:=step n i (by omega) H q c hN hq
  have hone:=(hlast i (by omega)).2 (by omega)
  refine ⟨H',q',c',λ R KR=> (e R KR).trans ?_,by rw [show L - 1=i from by omega];exact hS,hq',o⟩
  rw [hone.1,hone.2,show L=i+1 from by omega]
  rfl
 |succ m ih=>
  intro n i hn hi H q c hN hq
  obtain ⟨n,rfl⟩:∃n',n=n'+1:=⟨n - 1,by omega⟩
  obtain ⟨H',q',c',e,hS,hq',o⟩:=step n i (by omega) H q c hN hq
  obtain ⟨H2,q2,c2,e2,hS2,hq2,o2⟩:=ih n (i+1) (by omega) (by omega) H' q' c' (by have:=o.1;omega) (.inr ⟨i,rfl,hS,hq'⟩)
  refine ⟨H2,q2,c2,λ R KR=> (e R KR).trans ?_,hS2,hq2,o.trans (o2.mono o.1)⟩
  have hne:¬ (wl a i=1/\wl b i=1):=λ h=> by have:=(hlast i (by omega)).1 h;omega
  have h1:=(AVp (AQ6 a i) (AQ6 b i)).2 hne
  exact go_f (by rw [beq_eq_false_iff_ne];omega) (e2 R KR)
structure RG (a b L:Nat):Prop where
 a1:1<=a
 b1:1<=b
 ab:a * b<=65536
 am:a<=65536
 bm:b<=65536
 pos:1<=L
 len:L<=17
 wh:∀i,wl a i * wl b i<=65536
 bs:base a b L<=2000000
 last:∀i,i < L->((wl a i=1/\wl b i=1) ↔ i+1=L)
theorem AYa {k:Nat} (hk:100 < k) {M:Nat} {H:Heap} {p bn n cap z a b L:Nat} {e d:Bool} {F:Nat->Nd} (T:Rt M H p bn n cap z a b e d F) (G:RG a b L) {x y:Nat} (hx:x < a) (hy:y < b):
 ∃H' q' c',(∀(R:Type) (K:Oa->Nat->Nat->Heap->Option R),AHd k (some ⟨p,0,none⟩) (x:Int) (y:Int) H K=K q' L c' H')/\Shows H' q' (b64 (pl (λ i=> base a b i+ix a x y i) (L - 1)))/\(∀a,q'=some a->H.length<=a.block)/\Old H.length H H':=by
 have hp:=G.pos
 have hl:=G.len
 obtain ⟨H',q',c',e,hS,hq,o⟩:=AbC k G.a1 G.b1 G.am G.bm G.wh G.len G.bs G.last hx hy H.length (L - 1) k 0 (by omega) (by omega) H none 0 (Nat.le_refl _) (.inl ⟨rfl,rfl,rfl⟩)
 have m1:hcell H p 1=some (.int .i64 (a:Int)):=T.o.sees.cell 1
 have m2:hcell H p 2=some (.int .i64 (b:Int)):=T.o.sees.cell 2
 refine ⟨H',q',c',λ R K=> ?_,hS,hq,o⟩
 have e':=e R (λ q337 l338 c339 H340=> K q337 l338 c339 H340)
 rw [Nat.pow_zero,Nat.div_one,Nat.div_one,AJU G.a1,AJU G.b1] at e'
 unfold AHd ALA
 exact AAC (AAA (go_i m1 (AAC (AAA (go_i m2 e')))))
open Go.Proofs.Ytmanlfonppfhaaa.FW Go.IntWalk
theorem bit64 {bs:List Int} (hb:Byts bs) (a s:Nat) (hs:s<=8) (R:Type) (K:Int->Option R):hbin .shr .i64 (IntKind.wrap .i64 (bs.getD (a - 1) 0)) (IntKind.wrap .u64 ((s:Nat):Int)) (λ n=> hbin .and .i64 n 1 K)=K ((bitr bs a s:Nat):Int):=by
 obtain ⟨n,h1,h2⟩:=hb.at (a - 1)
 have h3:n / 2 ^ s<=n:=Nat.div_le_self _ _
 unfold bitr
 rw [h1,w64 (by omega) (by omega),shr64 (by omega),Int.toNat_natCast]
 generalize n / 2 ^ s=d at h3 ⊢
 have:=and64 (a:=d) (b:=1) (by omega) (by omega) K
 rw [Nat.and_one_is_mod] at this
 exact this
theorem AMe (k:Nat) {H:Heap} {p:Nat} {q:Oa} {bs:List Int} {s:Nat×Nat} (h:Rd H p q bs s):
 ∃H',(∀(R:Type) (K:Int->Int->Heap->Option R),AAk k (some ⟨p,0,none⟩) H K=K (rget bs s).1.1 (rget bs s).1.2 H')/\Rd H' p q bs (rget bs s).2/\But p H H':=by
 obtain ⟨c,hO⟩:=h.c
 obtain ⟨a,l⟩:=s
 have hok:=h.ok
 have ha:=hok.a
 have hl7:=hok.l
 have hz:=hok.z
 have hlen:=h.by_.2
 have hr:=ATF hok
 simp only at ha hl7 hz
 have m:∀o,hcell H p o= [Value.bool true, .slice q bs.length c, .int .i64 ((a:Nat):Int), .int .i64 ((l:Nat):Int)][o]? :=λ o=> hO.sees.cell o
 have tail:∀(H2:Heap) (x y:Nat),Owns H2 p (rcl q bs.length c x (y+1)) 0->But p H H2->0 < x->x<=bs.length->y<=7->
  ∃H',(∀(R:Type) (K:Int->Int->Heap->Option R),(hnil (some ⟨p,0,none⟩) λ p224=> hfad 3 p224 λ p225=> ldI .i64 H2 p225 λ n226=> hnil (some ⟨p,0,none⟩) λ p227=> hfad 3 p227 λ p228=> hst1 H2 p228 (.int .i64 (IntKind.wrap .i64 (n226 - 1))) λ H229=> hnil (some ⟨p,0,none⟩) λ p230=> hfad 1 p230 λ p231=> ldL H229 p231 λ q232 l233 c234=> hnil (some ⟨p,0,none⟩) λ p235=> hfad 2 p235 λ p236=> ldI .i64 H229 p236 λ n237=> hidx q232 l233 (IntKind.wrap .i64 (n237 - 1)) 1 λ p238=> ldI .u8 H229 p238 λ n239=> hnil (some ⟨p,0,none⟩) λ p240=> hfad 3 p240 λ p241=> ldI .i64 H229 p241 λ n242=> hbin .shr .i64 (IntKind.wrap .i64 n239) (IntKind.wrap .u64 n242) λ n243=> hbin .and .i64 n243 1 λ n244=> K n244 0 H229)=K ((bitr bs x y:Nat):Int) 0 H')/\Owns H' p (rcl q bs.length c x y) 0/\But p H H':=by
  intro H2 x y h2 b2 hx hxl hy
  obtain ⟨H3,e3,O3,b3,n3⟩:=Rd.st3 h2 y
  have w1:IntKind.wrap .i64 (((y+1:Nat):Int) - 1)=((y:Nat):Int):=by rw [w64 (by omega) (by omega)];omega
  have w2:IntKind.wrap .i64 (((x:Nat):Int) - 1)=((x - 1:Nat):Int):=by rw [w64 (by omega) (by omega)];omega
  have m2:∀o,hcell H2 p o= [Value.bool true, .slice q bs.length c, .int .i64 ((x:Nat):Int), .int .i64 ((y+1:Nat):Int)][o]? :=λ o=> h2.sees.cell o
  have m3:∀o,hcell H3 p o= [Value.bool true, .slice q bs.length c, .int .i64 ((x:Nat):Int), .int .i64 ((y:Nat):Int)][o]? :=λ o=> O3.sees.cell o
  have sh3:Shows H3 q (byt bs):=h.sh.but (b2.trans b3) h.ap
  obtain ⟨z,e4,e5⟩:=AIz sh3 (i:=x - 1) (by omega)
  have e3':∀(R:Type) (K:Heap->Option R),hst1 H2 (some ⟨p,3,none⟩) (.int .i64 (IntKind.wrap .i64 (((y+1:Nat):Int) - 1))) K=K H3:=by rw [w1];exact e3
  have e4':∀(R:Type) (K:Oa->Option R),hidx q bs.length (IntKind.wrap .i64 (((x:Nat):Int) - 1)) 1 K=K z:=by rw [w2];exact e4
  refine ⟨H3,λ R K=> ?_,O3,b2.trans b3⟩
  with_reducible repeat (first|refine (e3' _ _).trans ?_|refine (e4' _ _).trans ?_|refine (e5 _ _).trans ?_|((first|apply AAJ|apply AAH|apply AAY|apply AAw|apply go_i|apply go_b|apply go_l|apply go_p);with_unfolding_all first|exact (m2 _).trans rfl|exact (m3 _).trans rfl|rfl)|refine AAD rfl ?_|refine AAz ?_|refine AAx ?_|refine AAA ?_|refine AAC ?_|(refine go_t ?_ ?_;with_unfolding_all (show _=true;rfl))|(refine go_f ?_ ?_;with_unfolding_all (show _=false;rfl)))
  exact bit64 h.by_ x y (by omega) R λ n=> K n 0 H3
 by_cases hl0:l=0
 . subst hl0
   have d0:(((0:Nat):Int)==0)=true:=rfl
   by_cases hat:a=bs.length
   . have d1:decide (((a:Nat):Int)≥((bs.length:Nat):Int))=true:=decide_eq_true (by omega)
     have er:rget bs (a,0)=((0,7),a,0):=by unfold rget;rw [if_pos rfl,if_pos hat]
     rw [er]
     refine ⟨H,λ R K=> ?_,h, .refl _ _⟩
     unfold AAk AEq ABA ADJ AA9 ADI
     try dsimp only
     with_reducible repeat (first|((first|apply AAJ|apply AAH|apply AAY|apply AAw|apply go_i|apply go_b|apply go_l|apply go_p);with_unfolding_all first|exact (m _).trans rfl|rfl)|refine AAD rfl ?_|refine go_t d0 ?_|refine go_f d0 ?_|refine go_t d1 ?_|refine go_f d1 ?_|refine AAz ?_|refine AAx ?_|refine AAA ?_|refine AAC ?_|(refine go_t ?_ ?_;with_unfolding_all (show _=true;rfl))|(refine go_f ?_ ?_;with_unfolding_all (show _=false;rfl)))
     rfl
   . have d1:decide (((a:Nat):Int)≥((bs.length:Nat):Int))=false:=decide_eq_false (by omega)
     have hp2:∀(R:Type) (KN:Oa->Int->Bool->Option R),ABX k (some ⟨p,0,none⟩) 8 H KN=KN (some ⟨p,0,none⟩) 8 (decide (szr bs a=7)):=by
      intro R KN
      by_cases h0:0 < a
      . have d2:decide (((a:Nat):Int) > 0)=true:=decide_eq_true (by omega)
        obtain ⟨z,e4,e5⟩:=AIz h.sh (i:=a - 1) (by omega)
        have w2:IntKind.wrap .i64 (((a:Nat):Int) - 1)=((a - 1:Nat):Int):=by rw [w64 (by omega) (by omega)];omega
        have e4':∀(R:Type) (K:Oa->Option R),hidx q bs.length (IntKind.wrap .i64 (((a:Nat):Int) - 1)) 1 K=K z:=by rw [w2];exact e4
        have hs:decide (szr bs a=7)=(bs.getD (a - 1) 0==255):=by
         unfold szr
         by_cases h255:bs.getD (a - 1) 0=255
         . rw [if_pos ⟨h0,h255⟩,h255];rfl
         . rw [if_neg λ hh=> h255 hh.2];symm;simpa using h255
        unfold ABX AGR
        with_reducible repeat (first|refine (e4' _ _).trans ?_|refine (e5 _ _).trans ?_|((first|apply AAJ|apply AAH|apply AAY|apply AAw|apply go_i|apply go_b|apply go_l|apply go_p);with_unfolding_all first|exact (m _).trans rfl|rfl)|refine AAD rfl ?_|refine go_t d2 ?_|refine go_f d2 ?_|refine AAz ?_|refine AAx ?_|refine AAA ?_|refine AAC ?_|(refine go_t ?_ ?_;with_unfolding_all (show _=true;rfl))|(refine go_f ?_ ?_;with_unfolding_all (show _=false;rfl)))
        rw [hs]
      . have d2:decide (((a:Nat):Int) > 0)=false:=decide_eq_false (by omega)
        have hs:decide (szr bs a=7)=false:=by unfold szr;rw [if_neg λ hh=> h0 hh.1];rfl
        unfold ABX AGR
        with_reducible repeat (first|((first|apply AAJ|apply AAH|apply AAY|apply AAw|apply go_i|apply go_b|apply go_l|apply go_p);with_unfolding_all first|exact (m _).trans rfl|rfl)|refine AAD rfl ?_|refine go_t d2 ?_|refine go_f d2 ?_|refine AAz ?_|refine AAx ?_|refine AAA ?_|refine AAC ?_|(refine go_t ?_ ?_;with_unfolding_all (show _=true;rfl))|(refine go_f ?_ ?_;with_unfolding_all (show _=false;rfl)))
        rw [hs]
     obtain ⟨z,e4,e5⟩:=AIz h.sh (i:=a) (by omega)
     by_cases hbad:szr bs a=7/\128<=bs.getD a 0
     . have er:rget bs (a,0)=((0,8),a,0):=by unfold rget;rw [if_pos rfl,if_neg hat,if_pos hbad]
       have d3:decide (szr bs a=7)=true:=decide_eq_true hbad.1
       have d4:decide (bs.getD a 0≥128)=true:=decide_eq_true hbad.2
       rw [er]
       refine ⟨H,λ R K=> ?_,h, .refl _ _⟩
       unfold AAk AEq ABA ADJ AA9 ADI AA8 AEW
       try dsimp only
       with_reducible repeat (first|refine (hp2 _ _).trans ?_|refine (e4 _ _).trans ?_|refine (e5 _ _).trans ?_|((first|apply AAJ|apply AAH|apply AAY|apply AAw|apply go_i|apply go_b|apply go_l|apply go_p);with_unfolding_all first|exact (m _).trans rfl|rfl)|refine AAD rfl ?_|refine go_t d0 ?_|refine go_f d0 ?_|refine go_t d1 ?_|refine go_f d1 ?_|refine go_t d3 ?_|refine go_f d3 ?_|refine go_t d4 ?_|refine go_f d4 ?_|refine AAz ?_|refine AAx ?_|refine AAA ?_|refine AAC ?_|(refine go_t ?_ ?_;with_unfolding_all (show _=true;rfl))|(refine go_f ?_ ?_;with_unfolding_all (show _=false;rfl)))
       rfl
     . have er:rget bs (a,0)=((((bitr bs (a+1) (szr bs a - 1):Nat):Int),0),a+1,szr bs a - 1):=by unfold rget;rw [if_pos rfl,if_neg hat,if_neg hbad]
       have hz7:=AS8 bs a
       have hz8:=AS7 bs a
       have hp1:∀(R:Type) (KN:Oa->Int->Option R) (KR:Int->Int->Option R),AA8 k (some ⟨p,0,none⟩) 8 H KN KR=KN (some ⟨p,0,none⟩) ((szr bs a:Nat):Int):=by
        intro R KN KR
        by_cases h7:szr bs a=7
        . have d3:decide (szr bs a=7)=true:=decide_eq_true h7
          have d4:decide (bs.getD a 0≥128)=false:=decide_eq_false λ hh=> hbad ⟨h7,hh⟩
          unfold AA8 AEW
          with_reducible repeat (first|refine (hp2 _ _).trans ?_|refine (e4 _ _).trans ?_|refine (e5 _ _).trans ?_|((first|apply AAJ|apply AAH|apply AAY|apply AAw|apply go_i|apply go_b|apply go_l|apply go_p);with_unfolding_all first|exact (m _).trans rfl|rfl)|refine AAD rfl ?_|refine go_t d3 ?_|refine go_f d3 ?_|refine go_t d4 ?_|refine go_f d4 ?_|refine AAz ?_|refine AAx ?_|refine AAA ?_|refine AAC ?_|(refine go_t ?_ ?_;with_unfolding_all (show _=true;rfl))|(refine go_f ?_ ?_;with_unfolding_all (show _=false;rfl)))
          rw [h7];rfl
        . have d3:decide (szr bs a=7)=false:=decide_eq_false h7
          have h8:szr bs a=8:=by omega
          unfold AA8 AEW
          with_reducible repeat (first|refine (hp2 _ _).trans ?_|((first|apply AAJ|apply AAH|apply AAY|apply AAw|apply go_i|apply go_b|apply go_l|apply go_p);with_unfolding_all first|exact (m _).trans rfl|rfl)|refine AAD rfl ?_|refine go_t d3 ?_|refine go_f d3 ?_|refine AAz ?_|refine AAx ?_|refine AAA ?_|refine AAC ?_|(refine go_t ?_ ?_;with_unfolding_all (show _=true;rfl))|(refine go_f ?_ ?_;with_unfolding_all (show _=false;rfl)))
          rw [h8];rfl
       obtain ⟨H1,e1,O1,b1,n1⟩:=Rd.st2 hO (a+1)
       obtain ⟨H2,e2,O2,b2,n2⟩:=Rd.st3 O1 (szr bs a)
       obtain ⟨H3,e3,O3,b3⟩:=tail H2 (a+1) (szr bs a - 1) (by rw [show szr bs a - 1+1=szr bs a from by omega];exact O2) (b1.trans b2) (by omega) (by omega) (by omega)
       have w1:IntKind.wrap .i64 (((a:Nat):Int)+1)=((a+1:Nat):Int):=by rw [w64 (by omega) (by omega)];omega
       have e1':∀(R:Type) (K:Heap->Option R),hst1 H (some ⟨p,2,none⟩) (.int .i64 (IntKind.wrap .i64 (((a:Nat):Int)+1))) K=K H1:=by rw [w1];exact e1
       rw [er] at hr ⊢
       refine ⟨H3,λ R K=> ?_,⟨⟨c,O3⟩,h.sh.but b3 h.ap,h.ap,hr,h.by_⟩,b3⟩
       unfold AAk AEq ABA ADJ AA9 ADI
       refine go_f rfl (AAC (AAA (go_b (m 0) (go_f rfl (AAC (AAA (go_i (m 3) (go_t d0 (AAC (AAA (go_i (m 2) (AAC (AAA (go_l (m 1) (go_f d1 ((hp1 _ _ _).trans ?_))))))))))))))))
       with_reducible repeat (first|refine (e1' _ _).trans ?_|refine (e2 _ _).trans ?_|((first|apply AAJ|apply AAH|apply AAY|apply AAw|apply go_i|apply go_b|apply go_l|apply go_p);with_unfolding_all first|exact (m _).trans rfl|rfl)|refine AAD rfl ?_|refine go_t d0 ?_|refine go_f d0 ?_|refine go_t d1 ?_|refine go_f d1 ?_|refine AAz ?_|refine AAx ?_|refine AAA ?_|refine AAC ?_|(refine go_t ?_ ?_;with_unfolding_all (show _=true;rfl))|(refine go_f ?_ ?_;with_unfolding_all (show _=false;rfl)))
       exact e3 R K
 . have d0:(((l:Nat):Int)==0)=false:=by rw [beq_eq_false_iff_ne];omega
   have er:rget bs (a,l)=((((bitr bs a (l - 1):Nat):Int),0),a,l - 1):=by unfold rget;rw [if_neg hl0]
   obtain ⟨H3,e3,O3,b3⟩:=tail H a (l - 1) (by rw [show l - 1+1=l from by omega];exact hO) (.refl _ _) (by omega) (by omega) (by omega)
   rw [er] at hr ⊢
   refine ⟨H3,λ R K=> ?_,⟨⟨c,O3⟩,h.sh.but b3 h.ap,h.ap,hr,h.by_⟩,b3⟩
   unfold AAk AEq ABA ADJ AA9 ADI
   refine go_f rfl (AAC (AAA (go_b (m 0) (go_f rfl (AAC (AAA (go_i (m 3) (go_f d0 ?_))))))))
   exact e3 R K
theorem ASN {H:Heap} {q:Oa} {bs:List Int} (c:Nat) (hS:Shows H q (byt bs)) (hb:Byts bs):∃p q' H',(∀(R:Type) (K:Oa->Heap->Option R),AGV q bs.length c H K=K (some ⟨p,0,none⟩) H')/\Rd H' p q' bs (0,0)/\Old H.length H H'/\H.length<=p/\∀a,q'=some a->H.length<=a.block/\a.block < p:=by
 have hl:=hb.2
 obtain ⟨Ha,hHa⟩:∃Ha,Ha=H++ [some (⟨[],false,0⟩:Blk)]:=⟨_,rfl⟩
 have oa:Old H.length H Ha:=hHa ▸ Old.app _ _
 have na:Ha.length=H.length+1:=by rw [hHa];simp
 have hc:=(hS.keep oa).hcells
 rw [ARh] at hc
 by_cases h0:bs.length=0
 . have:bs= []:=List.length_eq_zero_iff.1 h0
   subst this
   obtain ⟨H2,hH2⟩:∃H2,H2=Ha++ [some ⟨[.bool true, .slice (some ⟨H.length,0,none⟩) 0 0, .int .i64 0, .int .i64 0],false,0⟩]:=⟨_,rfl⟩
   have o2:Old Ha.length Ha H2:=hH2 ▸ Old.app _ _
   have O2:Owns H2 Ha.length [.bool true, .slice (some ⟨H.length,0,none⟩) 0 0, .int .i64 0, .int .i64 0] 0:=by rw [hH2];exact AAI Ha _
   have e1:∀(R:Type) (K:Oa->Nat->Nat->Heap->Option R),happS 1 1 Ha (some ⟨H.length,0,none⟩) 0 0 q 0 K=K (some ⟨H.length,0,none⟩) 0 0 Ha:=λ R K=> by
    have hc0:FW.hcells Ha q 0=some []:=by unfold FW.hcells;rfl
    unfold happS happ
    rw [Nat.zero_mul,hc0]
    simp only
    rw [if_neg (by unfold unk;omega),if_pos (by omega),if_pos trivial]
   refine ⟨Ha.length,some ⟨H.length,0,none⟩,H2,λ R K=> ?_,⟨⟨0,O2⟩, .inl rfl,(λ a ha=> by cases ha;simp only;omega),⟨by simp,by simp,by simp⟩,hb⟩,oa.trans (o2.mono oa.1),by omega,λ a ha=> by cases ha;simp only;omega⟩
   show AGV q 0 c H K=_
   unfold AGV AJM
   with_reducible repeat (first|refine (e1 _ _).trans ?_|((first|apply AAJ|apply AAH|apply AAY|apply AAw|apply go_i|apply go_b|apply go_l|apply go_p);with_unfolding_all rfl)|(refine AAW hHa ?_ ?_ ?_;with_unfolding_all rfl;with_unfolding_all rfl)|refine AAD hHa ?_|(refine AAW hH2 ?_ ?_ ?_;with_unfolding_all rfl;with_unfolding_all rfl)|refine AAD hH2 ?_|refine AAz ?_|refine AAx ?_|refine AAA ?_|refine AAC ?_|(refine go_t ?_ ?_;with_unfolding_all (show _=true;rfl))|(refine go_f ?_ ?_;with_unfolding_all (show _=false;rfl)))
   rfl
 . obtain ⟨H1,hH1⟩:∃H1,H1=Ha++ [some (⟨byt bs,false,1⟩:Blk)]:=⟨_,rfl⟩
   have n1:H1.length=Ha.length+1:=by rw [hH1];simp
   have o1:Old Ha.length Ha H1:=hH1 ▸ Old.app _ _
   have e1:∀(R:Type) (K:Oa->Nat->Nat->Heap->Option R),happS 1 1 Ha (some ⟨H.length,0,none⟩) 0 0 q bs.length K=K (some ⟨Ha.length,0,none⟩) bs.length unk H1:=λ R K=> by
    unfold happS happ
    rw [Nat.mul_one,hc]
    simp only
    rw [if_neg (by unfold unk;omega),if_neg (by omega),if_pos (by omega)]
    have:FW.hcells Ha (some ⟨H.length,0,none⟩) (0 * 1)=some []:=rfl
    rw [this,hH1]
    simp
   obtain ⟨H2,hH2⟩:∃H2,H2=H1++ [some ⟨[.bool true, .slice (some ⟨Ha.length,0,none⟩) bs.length unk, .int .i64 0, .int .i64 0],false,0⟩]:=⟨_,rfl⟩
   have o2:Old H1.length H1 H2:=hH2 ▸ Old.app _ _
   have O1:Owns H1 Ha.length (byt bs) 1:=by rw [hH1];exact AAI Ha _
   have O2:Owns H2 H1.length [.bool true, .slice (some ⟨Ha.length,0,none⟩) bs.length unk, .int .i64 0, .int .i64 0] 0:=by rw [hH2];exact AAI H1 _
   refine ⟨H1.length,some ⟨Ha.length,0,none⟩,H2,λ R K=> ?_,⟨⟨unk,O2⟩,(O1.old o2 (by omega)).sees.shows,(λ a ha=> by cases ha;simp only;omega),⟨by simp,by simp,by simp⟩,hb⟩,oa.trans ((o1.trans (o2.mono o1.1)).mono oa.1),by omega,λ a ha=> by cases ha;simp only;omega⟩
   unfold AGV AJM
   with_reducible repeat (first|refine (e1 _ _).trans ?_|((first|apply AAJ|apply AAH|apply AAY|apply AAw|apply go_i|apply go_b|apply go_l|apply go_p);with_unfolding_all rfl)|(refine AAW hHa ?_ ?_ ?_;with_unfolding_all rfl;with_unfolding_all rfl)|refine AAD hHa ?_|(refine AAW hH2 ?_ ?_ ?_;with_unfolding_all rfl;with_unfolding_all rfl)|refine AAD hH2 ?_|refine AAz ?_|refine AAx ?_|refine AAA ?_|refine AAC ?_|(refine go_t ?_ ?_;with_unfolding_all (show _=true;rfl))|(refine go_f ?_ ?_;with_unfolding_all (show _=false;rfl)))
   rfl
open Go.Proofs.Ytmanlfonppfhaaa.FW Go.IntWalk
theorem ALJ {H:Heap} {p:Nat} {q:Oa} {bs:List Int} {s s':Nat×Nat} (h:Rd H p q bs s) (hs:Okr bs s'):∃H2,(∀(R:Type) (K:Heap->Option R),ACT (some ⟨p,0,none⟩) ((s'.1:Nat):Int) ((s'.2:Nat):Int) H K=K H2)/\Rd H2 p q bs s'/\But p H H2:=by
 obtain ⟨H1,H2,e1,e2,R2,b2⟩:=h.undo hs
 refine ⟨H2,λ R K=> ?_,R2,b2⟩
 unfold ACT AJf
 with_reducible repeat (first|refine (e1 _ _).trans ?_|refine (e2 _ _).trans ?_|((first|apply AAJ|apply AAH|apply AAY|apply AAw|apply go_i|apply go_b|apply go_l|apply go_p);with_unfolding_all rfl)|refine AAD rfl ?_|refine AAz ?_|refine AAx ?_|refine AAA ?_|refine AAC ?_|(refine go_t ?_ ?_;with_unfolding_all (show _=true;rfl))|(refine go_f ?_ ?_;with_unfolding_all (show _=false;rfl)))
 rfl
theorem AUy (k:Nat) {p:Nat} {q:Oa} {bs:List Int} {s0:Nat×Nat} (h0:Okr bs s0) (w:Nat) (hw:w<=40):∀(m n i v:Nat),m < n->w=i+m->v < 2 ^ i->∀(H:Heap) (s:Nat×Nat),Rd H p q bs s->
 ∃H',(∀(R:Type) (KE:Int->Heap->Option R) (KR:Int->Int->Heap->Option R),AAv k KE KR n (some ⟨p,0,none⟩) (w:Int) ((s0.1:Nat):Int) ((s0.2:Nat):Int) (v:Int) (i:Int) H=if (back s0 (rbits bs m v s)).1.2≠0 then KR (back s0 (rbits bs m v s)).1.1 (back s0 (rbits bs m v s)).1.2 H' else KE (back s0 (rbits bs m v s)).1.1 H')/\Rd H' p q bs (back s0 (rbits bs m v s)).2/\But p H H'/\((back s0 (rbits bs m v s)).1.2=0->∃u:Nat,(back s0 (rbits bs m v s)).1.1=(u:Int)/\u < 2 ^ w):=by
 intro m
 induction m with
 |zero=>
  intro n i v hn hi hv H s h
  obtain ⟨n,rfl⟩:∃n',n=n'+1:=⟨n - 1,by omega⟩
  have ed:decide ((i:Int) < (w:Int))=false:=decide_eq_false (by omega)
  refine ⟨H,λ R KE KR=> ?_,h, .refl _ _,λ _=> ⟨v,rfl,by rw [hi];exact hv⟩⟩
  unfold AAv ADy
  exact go_f ed rfl
 |succ m ih=>
  intro n i v hn hi hv H s h
  obtain ⟨n,rfl⟩:∃n',n=n'+1:=⟨n - 1,by omega⟩
  have ed:decide ((i:Int) < (w:Int))=true:=decide_eq_true (by omega)
  obtain ⟨H1,e1,R1,b1⟩:=AMe k h
  have hb:=ALN bs s
  by_cases he:(rget bs s).1.2=0
  . have d1:((rget bs s).1.2 !=0)=false:=by rw [he];rfl
    have er:rbits bs (m+1) v s=rbits bs m (2 * v+bn (rget bs s).1.1) (rget bs s).2:=by rw [rbits,if_neg (λ hh=> hh he)]
    have hbn:=AZG (rget bs s).1.1
    have hp:2 ^ i<=2 ^ 40:=Nat.pow_le_pow_right (by omega) (by omega)
    have hbe:=Ab4 hb.1
    obtain ⟨H2,e2,R2,b2,u2⟩:=ih n (i+1) (2 * v+bn (rget bs s).1.1) (by omega) (by omega) (by rw [Nat.pow_succ];omega) H1 _ R1
    have w0:IntKind.wrap .i64 (IntKind.wrap .i64 (2 * (v:Int))+(rget bs s).1.1)=((2 * v+bn (rget bs s).1.1:Nat):Int):=by
     rw [w64 (n:=2 * (v:Int)) (by omega) (by omega),w64 (by omega) (by omega)];omega
    have w1:IntKind.wrap .i64 ((i:Int)+1)=((i+1:Nat):Int):=by rw [w64 (by omega) (by omega)];omega
    rw [er]
    refine ⟨H2,λ R KE KR=> ?_,R2,b1.trans b2,u2⟩
    unfold AAv ADy
    with_reducible repeat (first|refine (e1 _ _).trans ?_|((first|apply AAJ|apply AAH|apply AAY|apply AAw|apply go_i|apply go_b|apply go_l|apply go_p);with_unfolding_all rfl)|refine AAD rfl ?_|refine go_t ed ?_|refine go_f ed ?_|refine go_t d1 ?_|refine go_f d1 ?_|refine AAz ?_|refine AAx ?_|refine AAA ?_|refine AAC ?_|(refine go_t ?_ ?_;with_unfolding_all (show _=true;rfl))|(refine go_f ?_ ?_;with_unfolding_all (show _=false;rfl)))
    try dsimp only
    rw [w1,w0]
    exact e2 _ _ _
  . have d1:((rget bs s).1.2 !=0)=true:=by simpa using he
    have er:back s0 (rbits bs (m+1) v s)=((0,(rget bs s).1.2),s0):=by rw [rbits,if_pos he];unfold back;rw [if_pos he]
    obtain ⟨H2,e2,R2,b2⟩:=ALJ R1 h0
    rw [er]
    refine ⟨H2,λ R KE KR=> ?_,R2,b1.trans b2,λ hh=> (he hh).elim⟩
    rw [if_pos he]
    unfold AAv ADy
    with_reducible repeat (first|refine (e1 _ _).trans ?_|refine (e2 _ _).trans ?_|((first|apply AAJ|apply AAH|apply AAY|apply AAw|apply go_i|apply go_b|apply go_l|apply go_p);with_unfolding_all rfl)|refine AAD rfl ?_|refine go_t ed ?_|refine go_f ed ?_|refine go_t d1 ?_|refine go_f d1 ?_|refine AAz ?_|refine AAx ?_|refine AAA ?_|refine AAC ?_|(refine go_t ?_ ?_;with_unfolding_all (show _=true;rfl))|(refine go_f ?_ ?_;with_unfolding_all (show _=false;rfl)))
    rfl
theorem AON {k:Nat} (hk:100 < k) {H:Heap} {p:Nat} {q:Oa} {bs:List Int} {s:Nat×Nat} (h:Rd H p q bs s) (n:Int):
 ∃H',(∀(R:Type) (K:Int->Int->Heap->Option R),AB7 k (some ⟨p,0,none⟩) n H K=K (rB bs n s).1.1 (rB bs n s).1.2 H')/\Rd H' p q bs (rB bs n s).2/\But p H H'/\((rB bs n s).1.2=0->∃u:Nat,(rB bs n s).1.1=(u:Int)/\u < 2 ^ n.toNat):=by
 obtain ⟨c,hO⟩:=h.c
 have m:∀o,hcell H p o=(rcl q bs.length c s.1 s.2)[o]? :=λ o=> hO.sees.cell o
 by_cases c1:n < 0
 . have d1:=decide_eq_true c1
   have er:rB bs n s=((0,1),s):=if_neg (by omega)
   rw [er]
   refine ⟨H,λ R K=> ?_,h, .refl _ _,λ hh=> by cases hh⟩
   unfold AB7 AFy ABd ADx ABc ADw
   with_reducible repeat (first|((first|apply AAJ|apply AAH|apply AAY|apply AAw|apply go_i|apply go_b|apply go_l|apply go_p);with_unfolding_all first|exact (m _).trans rfl|rfl)|refine AAD rfl ?_|refine go_t d1 ?_|refine go_f d1 ?_|refine AAz ?_|refine AAx ?_|refine AAA ?_|refine AAC ?_|(refine go_t ?_ ?_;with_unfolding_all (show _=true;rfl))|(refine go_f ?_ ?_;with_unfolding_all (show _=false;rfl)))
   rfl
 have d1:=decide_eq_false c1
 by_cases c2:n > 32
 . have d2:=decide_eq_true c2
   have er:rB bs n s=((0,1),s):=if_neg (by omega)
   rw [er]
   refine ⟨H,λ R K=> ?_,h, .refl _ _,λ hh=> by cases hh⟩
   unfold AB7 AFy ABd ADx ABc ADw
   with_reducible repeat (first|((first|apply AAJ|apply AAH|apply AAY|apply AAw|apply go_i|apply go_b|apply go_l|apply go_p);with_unfolding_all first|exact (m _).trans rfl|rfl)|refine AAD rfl ?_|refine go_t d1 ?_|refine go_f d1 ?_|refine go_t d2 ?_|refine go_f d2 ?_|refine AAz ?_|refine AAx ?_|refine AAA ?_|refine AAC ?_|(refine go_t ?_ ?_;with_unfolding_all (show _=true;rfl))|(refine go_f ?_ ?_;with_unfolding_all (show _=false;rfl)))
   rfl
 have d2:=decide_eq_false c2
 obtain ⟨w,rfl⟩:∃w:Nat,n=w:=⟨n.toNat,by omega⟩
 have er:rB bs (w:Int) s=back s (rbits bs w 0 s):=by unfold rB;rw [if_pos ⟨by omega,by omega⟩,Int.toNat_natCast]
 obtain ⟨H3,e3,R3,b3,u3⟩:=AUy k h.ok w (by omega) w k 0 0 (by omega) (by omega) (by simp) H s h
 simp only [Int.natCast_zero] at e3
 rw [er,Int.toNat_natCast]
 refine ⟨H3,λ R K=> ?_,R3,b3,u3⟩
 unfold AB7 AFy ABd ADx ABc ADw
 with_reducible repeat (first|((first|apply AAJ|apply AAH|apply AAY|apply AAw|apply go_i|apply go_b|apply go_l|apply go_p);with_unfolding_all first|exact (m _).trans rfl|rfl)|refine AAD rfl ?_|refine go_t d1 ?_|refine go_f d1 ?_|refine go_t d2 ?_|refine go_f d2 ?_|refine AAz ?_|refine AAx ?_|refine AAA ?_|refine AAC ?_|(refine go_t ?_ ?_;with_unfolding_all (show _=true;rfl))|(refine go_f ?_ ?_;with_unfolding_all (show _=false;rfl)))
 refine (e3 _ _ _).trans ?_
 split
 . rfl
 . rename_i hh
   have:(back s (rbits bs w 0 s)).1.2=0:=Decidable.byContradiction λ x=> hh x
   rw [this]
theorem AYG (k:Nat) {p:Nat} {q:Oa} {bs:List Int} {s0:Nat×Nat} (h0:Okr bs s0):∀(m n i:Nat),m < n->32=i+(m+1)->∀(H:Heap) (s:Nat×Nat),Rd H p q bs s->
 ∃H',(∀(R:Type) (KE:Oa->Int->Int->Int->Heap->Option R) (KR:Int->Int->Heap->Option R),AAR k KE KR n (some ⟨p,0,none⟩) ((s0.1:Nat):Int) ((s0.2:Nat):Int) (i:Int) H=if (rcnt bs 0 (m+1) i s).1.2≠0 then KR 0 (rcnt bs 0 (m+1) i s).1.2 H' else KE (some ⟨p,0,none⟩) ((s0.1:Nat):Int) ((s0.2:Nat):Int) (rcnt bs 0 (m+1) i s).1.1 H')/\Rd H' p q bs (back s0 (rcnt bs 0 (m+1) i s)).2/\But p H H'/\((rcnt bs 0 (m+1) i s).1.2=0->∃u:Nat,(rcnt bs 0 (m+1) i s).1.1=(u:Int)/\u < 32):=by
 intro m
 induction m with
 |zero=>
  intro n i hn hi H s h
  obtain ⟨n,rfl⟩:∃n',n=n'+1:=⟨n - 1,by omega⟩
  obtain ⟨H1,e1,R1,b1⟩:=AMe k h
  have hb:=(ALN bs s).1
  by_cases he:(rget bs s).1.2=0
  . have d1:((rget bs s).1.2==0)=true:=by rw [he];rfl
    have d1':((rget bs s).1.2 !=0)=false:=by rw [he];rfl
    by_cases hx:(rget bs s).1.1=0
    . have er:rcnt bs 0 (0+1) i s=((0,8),(rget bs s).2):=by rw [rcnt,if_neg (λ hh=> hh he),if_neg (λ hh=> hh hx),if_pos rfl]
      have d2:((rget bs s).1.1==0)=true:=by rw [hx];rfl
      have d3:((i:Int)==31)=true:=by rw [beq_iff_eq];omega
      obtain ⟨H2,e2,R2,b2⟩:=ALJ R1 h0
      rw [er]
      refine ⟨H2,λ R KE KR=> ?_,R2,b1.trans b2,λ hh=> by cases hh⟩
      unfold AAR ABj AAi ABi
      with_reducible repeat (first|refine (e1 _ _).trans ?_|refine (e2 _ _).trans ?_|((first|apply AAJ|apply AAH|apply AAY|apply AAw|apply go_i|apply go_b|apply go_l|apply go_p);with_unfolding_all rfl)|refine AAD rfl ?_|refine go_t d1 ?_|refine go_f d1 ?_|refine go_t d2 ?_|refine go_f d2 ?_|refine go_t d3 ?_|refine go_f d3 ?_|refine AAz ?_|refine AAx ?_|refine AAA ?_|refine AAC ?_|(refine go_t ?_ ?_;with_unfolding_all (show _=true;rfl))|(refine go_f ?_ ?_;with_unfolding_all (show _=false;rfl)))
      rfl
    . have er:rcnt bs 0 (0+1) i s=(((i:Int),0),(rget bs s).2):=by rw [rcnt,if_neg (λ hh=> hh he),if_pos hx]
      have d2:((rget bs s).1.1==0)=false:=by simpa using hx
      have d4:((rget bs s).1.1==1)=true:=by rw [beq_iff_eq];omega
      rw [er]
      refine ⟨H1,λ R KE KR=> ?_,R1,b1,λ _=> ⟨i,rfl,by omega⟩⟩
      unfold AAR ABj AAi ABi
      with_reducible repeat (first|refine (e1 _ _).trans ?_|((first|apply AAJ|apply AAH|apply AAY|apply AAw|apply go_i|apply go_b|apply go_l|apply go_p);with_unfolding_all rfl)|refine AAD rfl ?_|refine go_t d1 ?_|refine go_f d1 ?_|refine go_t d2 ?_|refine go_f d2 ?_|refine go_t d1' ?_|refine go_f d1' ?_|refine go_t d4 ?_|refine go_f d4 ?_|refine AAz ?_|refine AAx ?_|refine AAA ?_|refine AAC ?_|(refine go_t ?_ ?_;with_unfolding_all (show _=true;rfl))|(refine go_f ?_ ?_;with_unfolding_all (show _=false;rfl)))
      rfl
  . have d1:((rget bs s).1.2==0)=false:=by simpa using he
    have d1':((rget bs s).1.2 !=0)=true:=by simpa using he
    have er:rcnt bs 0 (0+1) i s=((0,(rget bs s).1.2),(rget bs s).2):=by rw [rcnt,if_pos he]
    obtain ⟨H2,e2,R2,b2⟩:=ALJ R1 h0
    rw [er]
    refine ⟨H2,λ R KE KR=> ?_,by unfold back;rw [if_pos he];exact R2,b1.trans b2,λ hh=> (he hh).elim⟩
    rw [if_pos he]
    unfold AAR ABj AAi ABi
    with_reducible repeat (first|refine (e1 _ _).trans ?_|refine (e2 _ _).trans ?_|((first|apply AAJ|apply AAH|apply AAY|apply AAw|apply go_i|apply go_b|apply go_l|apply go_p);with_unfolding_all rfl)|refine AAD rfl ?_|refine go_t d1 ?_|refine go_f d1 ?_|refine go_t d1' ?_|refine go_f d1' ?_|refine AAz ?_|refine AAx ?_|refine AAA ?_|refine AAC ?_|(refine go_t ?_ ?_;with_unfolding_all (show _=true;rfl))|(refine go_f ?_ ?_;with_unfolding_all (show _=false;rfl)))
    rfl
 |succ m ih=>
  intro n i hn hi H s h
  obtain ⟨n,rfl⟩:∃n',n=n'+1:=⟨n - 1,by omega⟩
  obtain ⟨H1,e1,R1,b1⟩:=AMe k h
  have hb:=(ALN bs s).1
  by_cases he:(rget bs s).1.2=0
  . have d1:((rget bs s).1.2==0)=true:=by rw [he];rfl
    have d1':((rget bs s).1.2 !=0)=false:=by rw [he];rfl
    by_cases hx:(rget bs s).1.1=0
    . have er:rcnt bs 0 (m+1+1) i s=rcnt bs 0 (m+1) (i+1) (rget bs s).2:=by rw [rcnt,if_neg (λ hh=> hh he),if_neg (λ hh=> hh hx),if_neg (by omega)]
      have d2:((rget bs s).1.1==0)=true:=by rw [hx];rfl
      have d3:((i:Int)==31)=false:=by rw [beq_eq_false_iff_ne];omega
      have d4:((rget bs s).1.1==1)=false:=by rw [hx];rfl
      have w1:IntKind.wrap .i64 ((i:Int)+1)=((i+1:Nat):Int):=by rw [w64 (by omega) (by omega)];omega
      obtain ⟨H2,e2,R2,b2,u2⟩:=ih n (i+1) (by omega) (by omega) H1 _ R1
      rw [er]
      refine ⟨H2,λ R KE KR=> ?_,R2,b1.trans b2,u2⟩
      unfold AAR ABj AAi ABi
      with_reducible repeat (first|refine (e1 _ _).trans ?_|((first|apply AAJ|apply AAH|apply AAY|apply AAw|apply go_i|apply go_b|apply go_l|apply go_p);with_unfolding_all rfl)|refine AAD rfl ?_|refine go_t d1 ?_|refine go_f d1 ?_|refine go_t d2 ?_|refine go_f d2 ?_|refine go_t d3 ?_|refine go_f d3 ?_|refine go_t d1' ?_|refine go_f d1' ?_|refine go_t d4 ?_|refine go_f d4 ?_|refine AAz ?_|refine AAx ?_|refine AAA ?_|refine AAC ?_|(refine go_t ?_ ?_;with_unfolding_all (show _=true;rfl))|(refine go_f ?_ ?_;with_unfolding_all (show _=false;rfl)))
      try dsimp only
      rw [w1]
      exact e2 _ _ _
    . have er:rcnt bs 0 (m+1+1) i s=(((i:Int),0),(rget bs s).2):=by rw [rcnt,if_neg (λ hh=> hh he),if_pos hx]
      have d2:((rget bs s).1.1==0)=false:=by simpa using hx
      have d4:((rget bs s).1.1==1)=true:=by rw [beq_iff_eq];omega
      rw [er]
      refine ⟨H1,λ R KE KR=> ?_,R1,b1,λ _=> ⟨i,rfl,by omega⟩⟩
      unfold AAR ABj AAi ABi
      with_reducible repeat (first|refine (e1 _ _).trans ?_|((first|apply AAJ|apply AAH|apply AAY|apply AAw|apply go_i|apply go_b|apply go_l|apply go_p);with_unfolding_all rfl)|refine AAD rfl ?_|refine go_t d1 ?_|refine go_f d1 ?_|refine go_t d2 ?_|refine go_f d2 ?_|refine go_t d1' ?_|refine go_f d1' ?_|refine go_t d4 ?_|refine go_f d4 ?_|refine AAz ?_|refine AAx ?_|refine AAA ?_|refine AAC ?_|(refine go_t ?_ ?_;with_unfolding_all (show _=true;rfl))|(refine go_f ?_ ?_;with_unfolding_all (show _=false;rfl)))
      rfl
  . have d1:((rget bs s).1.2==0)=false:=by simpa using he
    have d1':((rget bs s).1.2 !=0)=true:=by simpa using he
    have er:rcnt bs 0 (m+1+1) i s=((0,(rget bs s).1.2),(rget bs s).2):=by rw [rcnt,if_pos he]
    obtain ⟨H2,e2,R2,b2⟩:=ALJ R1 h0
    rw [er]
    refine ⟨H2,λ R KE KR=> ?_,by unfold back;rw [if_pos he];exact R2,b1.trans b2,λ hh=> (he hh).elim⟩
    rw [if_pos he]
    unfold AAR ABj AAi ABi
    with_reducible repeat (first|refine (e1 _ _).trans ?_|refine (e2 _ _).trans ?_|((first|apply AAJ|apply AAH|apply AAY|apply AAw|apply go_i|apply go_b|apply go_l|apply go_p);with_unfolding_all rfl)|refine AAD rfl ?_|refine go_t d1 ?_|refine go_f d1 ?_|refine go_t d1' ?_|refine go_f d1' ?_|refine AAz ?_|refine AAx ?_|refine AAA ?_|refine AAC ?_|(refine go_t ?_ ?_;with_unfolding_all (show _=true;rfl))|(refine go_f ?_ ?_;with_unfolding_all (show _=false;rfl)))
    rfl
theorem ASO {k:Nat} (hk:1000 < k) {H:Heap} {p:Nat} {q:Oa} {bs:List Int} {s:Nat×Nat} (h:Rd H p q bs s):
 ∃H',(∀(R:Type) (K:Int->Int->Heap->Option R),ADs k (some ⟨p,0,none⟩) H K=K (rG bs s).1.1 (rG bs s).1.2 H')/\Rd H' p q bs (rG bs s).2/\But p H H':=by
 obtain ⟨c,hO⟩:=h.c
 have m:∀o,hcell H p o=(rcl q bs.length c s.1 s.2)[o]? :=λ o=> hO.sees.cell o
 obtain ⟨H3,e3,R3,b3,u3⟩:=AYG k h.ok 31 k 0 (by omega) (by omega) H s h
 have e3':∀(R:Type) (KE:Oa->Int->Int->Int->Heap->Option R) (KR:Int->Int->Heap->Option R),AAR k KE KR k (some ⟨p,0,none⟩) ((s.1:Nat):Int) ((s.2:Nat):Int) 0 H=if (rcnt bs 0 32 0 s).1.2≠0 then KR 0 (rcnt bs 0 32 0 s).1.2 H3 else KE (some ⟨p,0,none⟩) ((s.1:Nat):Int) ((s.2:Nat):Int) (rcnt bs 0 32 0 s).1.1 H3:=e3
 by_cases hc:(rcnt bs 0 32 0 s).1.2=0
 . obtain ⟨u,hu,hu2⟩:=u3 hc
   have hu':(rcnt bs 0 32 0 s).1.1.toNat=u:=by rw [hu,Int.toNat_natCast]
   have hbk:back s (rcnt bs 0 (31+1) 0 s)=rcnt bs 0 32 0 s:=by unfold back;rw [if_neg (λ hh=> hh hc)]
   rw [hbk] at R3
   obtain ⟨H6,e6,R6,b6,u6⟩:=AON (k:=k) (by omega) R3 (u:Int)
   have erB:rB bs (u:Int) (rcnt bs 0 32 0 s).2=back (rcnt bs 0 32 0 s).2 (rbits bs u 0 (rcnt bs 0 32 0 s).2):=by unfold rB;rw [if_pos ⟨by omega,by omega⟩,Int.toNat_natCast]
   have hpu:=p32 (n:=u) (by omega)
   have s0:∀(R:Type) (K:Int->Option R),hbin .shl .i64 1 (IntKind.wrap .u64 (u:Int)) K=K ((2 ^ u:Nat):Int):=λ R K=> by
    have:=shl64 (a:=1) (n:=u) (by omega) (by omega) K
    rwa [Nat.one_mul] at this
   by_cases hd:(rbits bs u 0 (rcnt bs 0 32 0 s).2).1.2=0
   . have erB':rB bs (u:Int) (rcnt bs 0 32 0 s).2=rbits bs u 0 (rcnt bs 0 32 0 s).2:=by rw [erB];unfold back;rw [if_neg (λ hh=> hh hd)]
     rw [erB'] at e6 R6 u6
     obtain ⟨v,hv,hv2⟩:=u6 hd
     rw [Int.toNat_natCast] at hv2
     have d2:((rbits bs u 0 (rcnt bs 0 32 0 s).2).1.2 !=0)=false:=by rw [hd];rfl
     have w1:IntKind.wrap .i64 (((2 ^ u:Nat):Int)+(rbits bs u 0 (rcnt bs 0 32 0 s).2).1.1)=((2 ^ u:Nat):Int)+(rbits bs u 0 (rcnt bs 0 32 0 s).2).1.1:=by rw [hv,w64 (by omega) (by omega)]
     have er:rG bs s=((((2 ^ u:Nat):Int)+(rbits bs u 0 (rcnt bs 0 32 0 s).2).1.1,0),(rbits bs u 0 (rcnt bs 0 32 0 s).2).2):=by
      have g1:rG1 bs s=((((2 ^ u:Nat):Int)+(rbits bs u 0 (rcnt bs 0 32 0 s).2).1.1,0),(rbits bs u 0 (rcnt bs 0 32 0 s).2).2):=by
       unfold rG1
       rw [if_neg (λ hh=> hh hc),hu',if_neg (λ hh=> hh hd)]
      unfold rG back
      rw [g1,if_neg (λ hh=> hh rfl)]
     rw [er]
     refine ⟨H6,λ R K=> ?_,R6,b3.trans b6⟩
     unfold ADs AFR ABL ADV
     with_reducible repeat (first|((first|apply AAJ|apply AAH|apply AAY|apply AAw|apply go_i|apply go_b|apply go_l|apply go_p);with_unfolding_all first|exact (m _).trans rfl|rfl)|refine AAD rfl ?_|refine AAz ?_|refine AAx ?_|refine AAA ?_|refine AAC ?_|(refine go_t ?_ ?_;with_unfolding_all (show _=true;rfl))|(refine go_f ?_ ?_;with_unfolding_all (show _=false;rfl)))
     refine (e3' _ _ _).trans ?_
     rw [if_neg (λ hh=> hh hc),hu]
     with_reducible repeat (first|refine (e6 _ _).trans ?_|refine (s0 _ _).trans ?_|((first|apply AAJ|apply AAH|apply AAY|apply AAw|apply go_i|apply go_b|apply go_l|apply go_p);with_unfolding_all rfl)|refine AAD rfl ?_|refine go_t d2 ?_|refine go_f d2 ?_|refine AAz ?_|refine AAx ?_|refine AAA ?_|refine AAC ?_|(refine go_t ?_ ?_;with_unfolding_all (show _=true;rfl))|(refine go_f ?_ ?_;with_unfolding_all (show _=false;rfl)))
     rw [w1]
   . have erB':rB bs (u:Int) (rcnt bs 0 32 0 s).2=((0,(rbits bs u 0 (rcnt bs 0 32 0 s).2).1.2),(rcnt bs 0 32 0 s).2):=by rw [erB];unfold back;rw [if_pos hd]
     rw [erB'] at e6 R6 u6
     have d2:((rbits bs u 0 (rcnt bs 0 32 0 s).2).1.2 !=0)=true:=by simpa using hd
     have er:rG bs s=((0,(rbits bs u 0 (rcnt bs 0 32 0 s).2).1.2),s):=by
      have g1:rG1 bs s=rbits bs u 0 (rcnt bs 0 32 0 s).2:=by
       unfold rG1
       rw [if_neg (λ hh=> hh hc),hu',if_pos hd]
      unfold rG back
      rw [g1,if_pos hd]
     obtain ⟨H7,e7,R7,b7⟩:=ALJ R6 h.ok
     rw [er]
     refine ⟨H7,λ R K=> ?_,R7,(b3.trans b6).trans b7⟩
     unfold ADs AFR ABL ADV
     with_reducible repeat (first|((first|apply AAJ|apply AAH|apply AAY|apply AAw|apply go_i|apply go_b|apply go_l|apply go_p);with_unfolding_all first|exact (m _).trans rfl|rfl)|refine AAD rfl ?_|refine AAz ?_|refine AAx ?_|refine AAA ?_|refine AAC ?_|(refine go_t ?_ ?_;with_unfolding_all (show _=true;rfl))|(refine go_f ?_ ?_;with_unfolding_all (show _=false;rfl)))
     refine (e3' _ _ _).trans ?_
     rw [if_neg (λ hh=> hh hc),hu]
     with_reducible repeat (first|refine (e6 _ _).trans ?_|refine (e7 _ _).trans ?_|((first|apply AAJ|apply AAH|apply AAY|apply AAw|apply go_i|apply go_b|apply go_l|apply go_p);with_unfolding_all rfl)|refine AAD rfl ?_|refine go_t d2 ?_|refine go_f d2 ?_|refine AAz ?_|refine AAx ?_|refine AAA ?_|refine AAC ?_|(refine go_t ?_ ?_;with_unfolding_all (show _=true;rfl))|(refine go_f ?_ ?_;with_unfolding_all (show _=false;rfl)))
     rfl
 . have er:rG bs s=((0,(rcnt bs 0 32 0 s).1.2),s):=by
    have g1:rG1 bs s=rcnt bs 0 32 0 s:=by unfold rG1;rw [if_pos hc]
    unfold rG back
    rw [g1,if_pos hc]
   have hbk:back s (rcnt bs 0 (31+1) 0 s)=((0,(rcnt bs 0 32 0 s).1.2),s):=by unfold back;rw [if_pos hc]
   rw [hbk] at R3
   rw [er]
   refine ⟨H3,λ R K=> ?_,R3,b3⟩
   unfold ADs AFR ABL ADV
   with_reducible repeat (first|((first|apply AAJ|apply AAH|apply AAY|apply AAw|apply go_i|apply go_b|apply go_l|apply go_p);with_unfolding_all first|exact (m _).trans rfl|rfl)|refine AAD rfl ?_|refine AAz ?_|refine AAx ?_|refine AAA ?_|refine AAC ?_|(refine go_t ?_ ?_;with_unfolding_all (show _=true;rfl))|(refine go_f ?_ ?_;with_unfolding_all (show _=false;rfl)))
   refine (e3' _ _ _).trans ?_
   rw [if_pos hc]
theorem AYF (k:Nat) {p:Nat} {q:Oa} {bs:List Int} {s0:Nat×Nat} (h0:Okr bs s0) (w:Nat) (hw:w<=65535):∀(m n i:Nat),m < n->w=i+m->∀(H:Heap) (s:Nat×Nat),Rd H p q bs s->
 ∃H',(∀(R:Type) (KR:Int->Int->Heap->Option R),AAQ k KR n (some ⟨p,0,none⟩) (w:Int) ((s0.1:Nat):Int) ((s0.2:Nat):Int) (i:Int) H=KR (back s0 (rcnt bs 1 (m+1) i s)).1.1 (back s0 (rcnt bs 1 (m+1) i s)).1.2 H')/\Rd H' p q bs (back s0 (rcnt bs 1 (m+1) i s)).2/\But p H H':=by
 intro m
 induction m with
 |zero=>
  intro n i hn hi H s h
  obtain ⟨n,rfl⟩:∃n',n=n'+1:=⟨n - 1,by omega⟩
  obtain ⟨H1,e1,R1,b1⟩:=AMe k h
  have hb:=(ALN bs s).1
  by_cases he:(rget bs s).1.2=0
  . have d1:((rget bs s).1.2==0)=true:=by rw [he];rfl
    have d1':((rget bs s).1.2 !=0)=false:=by rw [he];rfl
    by_cases hx:(rget bs s).1.1=1
    . have er:rcnt bs 1 (0+1) i s=((0,8),(rget bs s).2):=by rw [rcnt,if_neg (λ hh=> hh he),if_neg (λ hh=> hh hx),if_pos rfl]
      have d2:((rget bs s).1.1==1)=true:=by rw [hx];rfl
      have d3:((i:Int)==(w:Int))=true:=by rw [beq_iff_eq];omega
      obtain ⟨H2,e2,R2,b2⟩:=ALJ R1 h0
      rw [er]
      refine ⟨H2,λ R KR=> ?_,R2,b1.trans b2⟩
      unfold AAQ ABh AAZ ABg
      with_reducible repeat (first|refine (e1 _ _).trans ?_|refine (e2 _ _).trans ?_|((first|apply AAJ|apply AAH|apply AAY|apply AAw|apply go_i|apply go_b|apply go_l|apply go_p);with_unfolding_all rfl)|refine AAD rfl ?_|refine go_t d1 ?_|refine go_f d1 ?_|refine go_t d2 ?_|refine go_f d2 ?_|refine go_t d3 ?_|refine go_f d3 ?_|refine AAz ?_|refine AAx ?_|refine AAA ?_|refine AAC ?_|(refine go_t ?_ ?_;with_unfolding_all (show _=true;rfl))|(refine go_f ?_ ?_;with_unfolding_all (show _=false;rfl)))
      rfl
    . have er:rcnt bs 1 (0+1) i s=(((i:Int),0),(rget bs s).2):=by rw [rcnt,if_neg (λ hh=> hh he),if_pos hx]
      have d2:((rget bs s).1.1==1)=false:=by simpa using hx
      have d4:((rget bs s).1.1==0)=true:=by rw [beq_iff_eq];omega
      rw [er]
      refine ⟨H1,λ R KR=> ?_,R1,b1⟩
      unfold AAQ ABh AAZ ABg
      with_reducible repeat (first|refine (e1 _ _).trans ?_|((first|apply AAJ|apply AAH|apply AAY|apply AAw|apply go_i|apply go_b|apply go_l|apply go_p);with_unfolding_all rfl)|refine AAD rfl ?_|refine go_t d1 ?_|refine go_f d1 ?_|refine go_t d2 ?_|refine go_f d2 ?_|refine go_t d1' ?_|refine go_f d1' ?_|refine go_t d4 ?_|refine go_f d4 ?_|refine AAz ?_|refine AAx ?_|refine AAA ?_|refine AAC ?_|(refine go_t ?_ ?_;with_unfolding_all (show _=true;rfl))|(refine go_f ?_ ?_;with_unfolding_all (show _=false;rfl)))
      rfl
  . have d1:((rget bs s).1.2==0)=false:=by simpa using he
    have d1':((rget bs s).1.2 !=0)=true:=by simpa using he
    have er:back s0 (rcnt bs 1 (0+1) i s)=((0,(rget bs s).1.2),s0):=by rw [rcnt,if_pos he];unfold back;rw [if_pos he]
    obtain ⟨H2,e2,R2,b2⟩:=ALJ R1 h0
    rw [er]
    refine ⟨H2,λ R KR=> ?_,R2,b1.trans b2⟩
    unfold AAQ ABh AAZ ABg
    with_reducible repeat (first|refine (e1 _ _).trans ?_|refine (e2 _ _).trans ?_|((first|apply AAJ|apply AAH|apply AAY|apply AAw|apply go_i|apply go_b|apply go_l|apply go_p);with_unfolding_all rfl)|refine AAD rfl ?_|refine go_t d1 ?_|refine go_f d1 ?_|refine go_t d1' ?_|refine go_f d1' ?_|refine AAz ?_|refine AAx ?_|refine AAA ?_|refine AAC ?_|(refine go_t ?_ ?_;with_unfolding_all (show _=true;rfl))|(refine go_f ?_ ?_;with_unfolding_all (show _=false;rfl)))
    rfl
 |succ m ih=>
  intro n i hn hi H s h
  obtain ⟨n,rfl⟩:∃n',n=n'+1:=⟨n - 1,by omega⟩
  obtain ⟨H1,e1,R1,b1⟩:=AMe k h
  have hb:=(ALN bs s).1
  by_cases he:(rget bs s).1.2=0
  . have d1:((rget bs s).1.2==0)=true:=by rw [he];rfl
    have d1':((rget bs s).1.2 !=0)=false:=by rw [he];rfl
    by_cases hx:(rget bs s).1.1=1
    . have er:rcnt bs 1 (m+1+1) i s=rcnt bs 1 (m+1) (i+1) (rget bs s).2:=by rw [rcnt,if_neg (λ hh=> hh he),if_neg (λ hh=> hh hx),if_neg (by omega)]
      have d2:((rget bs s).1.1==1)=true:=by rw [hx];rfl
      have d3:((i:Int)==(w:Int))=false:=by rw [beq_eq_false_iff_ne];omega
      have d4:((rget bs s).1.1==0)=false:=by rw [hx];rfl
      have w1:IntKind.wrap .i64 ((i:Int)+1)=((i+1:Nat):Int):=by rw [w64 (by omega) (by omega)];omega
      obtain ⟨H2,e2,R2,b2⟩:=ih n (i+1) (by omega) (by omega) H1 _ R1
      rw [er]
      refine ⟨H2,λ R KR=> ?_,R2,b1.trans b2⟩
      unfold AAQ ABh AAZ ABg
      with_reducible repeat (first|refine (e1 _ _).trans ?_|((first|apply AAJ|apply AAH|apply AAY|apply AAw|apply go_i|apply go_b|apply go_l|apply go_p);with_unfolding_all rfl)|refine AAD rfl ?_|refine go_t d1 ?_|refine go_f d1 ?_|refine go_t d2 ?_|refine go_f d2 ?_|refine go_t d3 ?_|refine go_f d3 ?_|refine go_t d1' ?_|refine go_f d1' ?_|refine go_t d4 ?_|refine go_f d4 ?_|refine AAz ?_|refine AAx ?_|refine AAA ?_|refine AAC ?_|(refine go_t ?_ ?_;with_unfolding_all (show _=true;rfl))|(refine go_f ?_ ?_;with_unfolding_all (show _=false;rfl)))
      try dsimp only
      rw [w1]
      exact e2 _ _
    . have er:rcnt bs 1 (m+1+1) i s=(((i:Int),0),(rget bs s).2):=by rw [rcnt,if_neg (λ hh=> hh he),if_pos hx]
      have d2:((rget bs s).1.1==1)=false:=by simpa using hx
      have d4:((rget bs s).1.1==0)=true:=by rw [beq_iff_eq];omega
      rw [er]
      refine ⟨H1,λ R KR=> ?_,R1,b1⟩
      unfold AAQ ABh AAZ ABg
      with_reducible repeat (first|refine (e1 _ _).trans ?_|((first|apply AAJ|apply AAH|apply AAY|apply AAw|apply go_i|apply go_b|apply go_l|apply go_p);with_unfolding_all rfl)|refine AAD rfl ?_|refine go_t d1 ?_|refine go_f d1 ?_|refine go_t d2 ?_|refine go_f d2 ?_|refine go_t d1' ?_|refine go_f d1' ?_|refine go_t d4 ?_|refine go_f d4 ?_|refine AAz ?_|refine AAx ?_|refine AAA ?_|refine AAC ?_|(refine go_t ?_ ?_;with_unfolding_all (show _=true;rfl))|(refine go_f ?_ ?_;with_unfolding_all (show _=false;rfl)))
      rfl
  . have d1:((rget bs s).1.2==0)=false:=by simpa using he
    have d1':((rget bs s).1.2 !=0)=true:=by simpa using he
    have er:back s0 (rcnt bs 1 (m+1+1) i s)=((0,(rget bs s).1.2),s0):=by rw [rcnt,if_pos he];unfold back;rw [if_pos he]
    obtain ⟨H2,e2,R2,b2⟩:=ALJ R1 h0
    rw [er]
    refine ⟨H2,λ R KR=> ?_,R2,b1.trans b2⟩
    unfold AAQ ABh AAZ ABg
    with_reducible repeat (first|refine (e1 _ _).trans ?_|refine (e2 _ _).trans ?_|((first|apply AAJ|apply AAH|apply AAY|apply AAw|apply go_i|apply go_b|apply go_l|apply go_p);with_unfolding_all rfl)|refine AAD rfl ?_|refine go_t d1 ?_|refine go_f d1 ?_|refine go_t d1' ?_|refine go_f d1' ?_|refine AAz ?_|refine AAx ?_|refine AAA ?_|refine AAC ?_|(refine go_t ?_ ?_;with_unfolding_all (show _=true;rfl))|(refine go_f ?_ ?_;with_unfolding_all (show _=false;rfl)))
    rfl
theorem ASM {k:Nat} (hk:100000 < k) {H:Heap} {p:Nat} {q:Oa} {bs:List Int} {s:Nat×Nat} (h:Rd H p q bs s) (n:Int):
 ∃H',(∀(R:Type) (K:Int->Int->Heap->Option R),ADr k (some ⟨p,0,none⟩) n H K=K (rU bs n s).1.1 (rU bs n s).1.2 H')/\Rd H' p q bs (rU bs n s).2/\But p H H':=by
 obtain ⟨c,hO⟩:=h.c
 have m:∀o,hcell H p o=(rcl q bs.length c s.1 s.2)[o]? :=λ o=> hO.sees.cell o
 by_cases c1:n < 0
 . have d1:=decide_eq_true c1
   have er:rU bs n s=((0,1),s):=if_neg (by omega)
   rw [er]
   refine ⟨H,λ R K=> ?_,h, .refl _ _⟩
   unfold ADr AFN AA4 ADU AA3 ADT
   with_reducible repeat (first|((first|apply AAJ|apply AAH|apply AAY|apply AAw|apply go_i|apply go_b|apply go_l|apply go_p);with_unfolding_all first|exact (m _).trans rfl|rfl)|refine AAD rfl ?_|refine go_t d1 ?_|refine go_f d1 ?_|refine AAz ?_|refine AAx ?_|refine AAA ?_|refine AAC ?_|(refine go_t ?_ ?_;with_unfolding_all (show _=true;rfl))|(refine go_f ?_ ?_;with_unfolding_all (show _=false;rfl)))
   rfl
 have d1:=decide_eq_false c1
 by_cases c2:n > 65535
 . have d2:=decide_eq_true c2
   have er:rU bs n s=((0,1),s):=if_neg (by omega)
   rw [er]
   refine ⟨H,λ R K=> ?_,h, .refl _ _⟩
   unfold ADr AFN AA4 ADU AA3 ADT
   with_reducible repeat (first|((first|apply AAJ|apply AAH|apply AAY|apply AAw|apply go_i|apply go_b|apply go_l|apply go_p);with_unfolding_all first|exact (m _).trans rfl|rfl)|refine AAD rfl ?_|refine go_t d1 ?_|refine go_f d1 ?_|refine go_t d2 ?_|refine go_f d2 ?_|refine AAz ?_|refine AAx ?_|refine AAA ?_|refine AAC ?_|(refine go_t ?_ ?_;with_unfolding_all (show _=true;rfl))|(refine go_f ?_ ?_;with_unfolding_all (show _=false;rfl)))
   rfl
 have d2:=decide_eq_false c2
 obtain ⟨w,rfl⟩:∃w:Nat,n=w:=⟨n.toNat,by omega⟩
 have er:rU bs (w:Int) s=back s (rcnt bs 1 (w+1) 0 s):=by unfold rU;rw [if_pos ⟨by omega,by omega⟩,Int.toNat_natCast]
 obtain ⟨H3,e3,R3,b3⟩:=AYF k h.ok w (by omega) w k 0 (by omega) (by omega) H s h
 simp only [Int.natCast_zero] at e3
 rw [er]
 refine ⟨H3,λ R K=> ?_,R3,b3⟩
 unfold ADr AFN AA4 ADU AA3 ADT
 with_reducible repeat (first|((first|apply AAJ|apply AAH|apply AAY|apply AAw|apply go_i|apply go_b|apply go_l|apply go_p);with_unfolding_all first|exact (m _).trans rfl|rfl)|refine AAD rfl ?_|refine go_t d1 ?_|refine go_f d1 ?_|refine go_t d2 ?_|refine go_f d2 ?_|refine AAz ?_|refine AAx ?_|refine AAA ?_|refine AAC ?_|(refine go_t ?_ ?_;with_unfolding_all (show _=true;rfl))|(refine go_f ?_ ?_;with_unfolding_all (show _=false;rfl)))
 exact e3 _ _
theorem AS5 (k:Nat) {H:Heap} {p:Nat} {q:Oa} {bs:List Int} {s:Nat×Nat} (h:Rd H p q bs s):
 ∃H',(∀(R:Type) (K:Int->Int->Heap->Option R),ABt k (some ⟨p,0,none⟩) H K=K (rA bs s).1.1 (rA bs s).1.2 H')/\Rd H' p q bs (rA bs s).2/\But p H H':=by
 obtain ⟨c,hO⟩:=h.c
 obtain ⟨a,l⟩:=s
 have hok:=h.ok
 have ha:=hok.a
 have hl7:=hok.l
 have hz:=hok.z
 have hlen:=h.by_.2
 simp only at ha hl7 hz
 have m:∀o,hcell H p o= [Value.bool true, .slice q bs.length c, .int .i64 ((a:Nat):Int), .int .i64 ((l:Nat):Int)][o]? :=λ o=> hO.sees.cell o
 have last:∀(H2:Heap) (x:Nat),Owns H2 p (rcl q bs.length c x l) 0->But p H H2->x<=bs.length->∃H',(∀(R:Type) (K:Int->Int->Heap->Option R),(hnil (some ⟨p,0,none⟩) λ p202=> hfad 3 p202 λ p203=> hst1 H2 p203 (.int .i64 0) λ H204=> hnil (some ⟨p,0,none⟩) λ p205=> hfad 2 p205 λ p206=> ldI .i64 H204 p206 λ n207=> K n207 0 H204)=K ((x:Nat):Int) 0 H')/\Rd H' p q bs (x,0)/\But p H H':=by
  intro H2 x hO2 b2 hx
  obtain ⟨H3,e3,O3,b3,n3⟩:=Rd.st3 hO2 0
  have m3:∀o,hcell H3 p o= [Value.bool true, .slice q bs.length c, .int .i64 ((x:Nat):Int), .int .i64 0][o]? :=λ o=> O3.sees.cell o
  refine ⟨H3,λ R K=> ?_,⟨⟨c,O3⟩,h.sh.but (b2.trans b3) h.ap,h.ap,⟨hx,by simp only;omega,λ hh=> by simp only at hh;omega⟩,h.by_⟩,b2.trans b3⟩
  have e3':∀(R:Type) (K:Heap->Option R),hst1 H2 (some ⟨p,3,none⟩) (.int .i64 0) K=K H3:=e3
  with_reducible repeat (first|refine (e3' _ _).trans ?_|((first|apply AAJ|apply AAH|apply AAY|apply AAw|apply go_i|apply go_b|apply go_l|apply go_p);with_unfolding_all first|exact (m3 _).trans rfl|rfl)|refine AAD rfl ?_|refine AAz ?_|refine AAx ?_|refine AAA ?_|refine AAC ?_|(refine go_t ?_ ?_;with_unfolding_all (show _=true;rfl))|(refine go_f ?_ ?_;with_unfolding_all (show _=false;rfl)))
  rfl
 have hp0:∀(R:Type) (KN:Oa->Option R) (KR:Int->Int->Option R),ABM k (some ⟨p,0,none⟩) H KN KR=KN (some ⟨p,0,none⟩):=λ R KN KR=> by
  unfold ABM AHP
  with_reducible repeat (first|((first|apply AAJ|apply AAH|apply AAY|apply AAw|apply go_i|apply go_b|apply go_l|apply go_p);with_unfolding_all first|exact (m _).trans rfl|rfl)|refine AAD rfl ?_|refine AAz ?_|refine AAx ?_|refine AAA ?_|refine AAC ?_|(refine go_t ?_ ?_;with_unfolding_all (show _=true;rfl))|(refine go_f ?_ ?_;with_unfolding_all (show _=false;rfl)))
  rfl
 have hp3:0 < a->∀(R:Type) (KN:Oa->Bool->Option R),AAt k (some ⟨p,0,none⟩) H KN=KN (some ⟨p,0,none⟩) (decide (l=0/\bs.getD (a - 1) 0=255)):=λ h0 R KN=> by
  by_cases hl0:l=0
  . have d2:(((l:Nat):Int)==0)=true:=by rw [hl0];rfl
    have d3:decide (((a:Nat):Int) > 0)=true:=decide_eq_true (by omega)
    obtain ⟨z,e1,e2⟩:=AIz h.sh (i:=a - 1) (by omega)
    have w1:IntKind.wrap .i64 (((a:Nat):Int) - 1)=((a - 1:Nat):Int):=by rw [w64 (by omega) (by omega)];omega
    have e1':∀(R:Type) (K:Oa->Option R),hidx q bs.length (IntKind.wrap .i64 (((a:Nat):Int) - 1)) 1 K=K z:=by rw [w1];exact e1
    have hd:decide (l=0/\bs.getD (a - 1) 0=255)=(bs.getD (a - 1) 0==255):=by
     by_cases h255:bs.getD (a - 1) 0=255
     . rw [h255,decide_eq_true ⟨hl0,rfl⟩];rfl
     . rw [decide_eq_false λ hh=> h255 hh.2];symm;simpa using h255
    unfold AAt ADW
    with_reducible repeat (first|refine (e1' _ _).trans ?_|refine (e2 _ _).trans ?_|((first|apply AAJ|apply AAH|apply AAY|apply AAw|apply go_i|apply go_b|apply go_l|apply go_p);with_unfolding_all first|exact (m _).trans rfl|rfl)|refine AAD rfl ?_|refine go_t d2 ?_|refine go_f d2 ?_|refine go_t d3 ?_|refine go_f d3 ?_|refine AAz ?_|refine AAx ?_|refine AAA ?_|refine AAC ?_|(refine go_t ?_ ?_;with_unfolding_all (show _=true;rfl))|(refine go_f ?_ ?_;with_unfolding_all (show _=false;rfl)))
    rw [hd]
  . have d2:(((l:Nat):Int)==0)=false:=by rw [beq_eq_false_iff_ne];omega
    unfold AAt ADW
    with_reducible repeat (first|((first|apply AAJ|apply AAH|apply AAY|apply AAw|apply go_i|apply go_b|apply go_l|apply go_p);with_unfolding_all first|exact (m _).trans rfl|rfl)|refine AAD rfl ?_|refine go_t d2 ?_|refine go_f d2 ?_|refine AAz ?_|refine AAx ?_|refine AAA ?_|refine AAC ?_|(refine go_t ?_ ?_;with_unfolding_all (show _=true;rfl))|(refine go_f ?_ ?_;with_unfolding_all (show _=false;rfl)))
    rw [decide_eq_false λ hh=> hl0 hh.1]
 by_cases h0:a=0
 . have hl0:l=0:=by omega
   subst h0
   subst hl0
   obtain ⟨H2,e6,R2,b2⟩:=last H 0 hO (.refl _ _) (by omega)
   rw [show rA bs (0,0)=((0,0),0,0) from if_pos rfl]
   refine ⟨H2,λ R K=> ?_,R2,b2⟩
   have d1:decide (((0:Nat):Int) > 0)=false:=rfl
   have d2:(((0:Nat):Int)==0)=true:=rfl
   have hp1:∀(R:Type) (KN:Oa->Option R) (KR:Int->Int->Option R),AAb k (some ⟨p,0,none⟩) H KN KR=KN (some ⟨p,0,none⟩):=λ R KN KR=> by
    unfold AAb ACf
    with_reducible repeat (first|((first|apply AAJ|apply AAH|apply AAY|apply AAw|apply go_i|apply go_b|apply go_l|apply go_p);with_unfolding_all first|exact (m _).trans rfl|rfl)|refine AAD rfl ?_|refine go_t d1 ?_|refine go_f d1 ?_|refine AAz ?_|refine AAx ?_|refine AAA ?_|refine AAC ?_|(refine go_t ?_ ?_;with_unfolding_all (show _=true;rfl))|(refine go_f ?_ ?_;with_unfolding_all (show _=false;rfl)))
    rfl
   have hp2:∀(R:Type) (KN:Oa->Heap->Option R) (KR:Int->Int->Heap->Option R),AAa k (some ⟨p,0,none⟩) H KN KR=KN (some ⟨p,0,none⟩) H:=λ R KN KR=> by
    unfold AAa AB8 AAt ADW
    with_reducible repeat (first|((first|apply AAJ|apply AAH|apply AAY|apply AAw|apply go_i|apply go_b|apply go_l|apply go_p);with_unfolding_all first|exact (m _).trans rfl|rfl)|refine AAD rfl ?_|refine go_t d2 ?_|refine go_f d2 ?_|refine go_t d1 ?_|refine go_f d1 ?_|refine AAz ?_|refine AAx ?_|refine AAA ?_|refine AAC ?_|(refine go_t ?_ ?_;with_unfolding_all (show _=true;rfl))|(refine go_f ?_ ?_;with_unfolding_all (show _=false;rfl)))
    rfl
   unfold ABt ACM
   refine (hp0 _ _ _).trans ((hp1 _ _ _).trans ((hp2 _ _ _).trans ?_))
   exact e6 R K
 obtain ⟨z,e1,e2⟩:=AIz h.sh (i:=a - 1) (by omega)
 have w1:IntKind.wrap .i64 (((a:Nat):Int) - 1)=((a - 1:Nat):Int):=by rw [w64 (by omega) (by omega)];omega
 have e1':∀(R:Type) (K:Oa->Option R),hidx q bs.length (IntKind.wrap .i64 (((a:Nat):Int) - 1)) 1 K=K z:=by rw [w1];exact e1
 have hp7:=ATO hl7
 have hpp:=p2pos l
 have s1:∀(R:Type) (K:Int->Option R),hbin .shl .i64 1 (IntKind.wrap .u64 ((l:Nat):Int)) K=K ((2 ^ l:Nat):Int):=λ R K=> by
  have:=shl64 (a:=1) (n:=l) (by omega) (by omega) K
  rwa [Nat.one_mul] at this
 obtain ⟨v,hv,hv2⟩:=h.by_.at (a - 1)
 have s2:∀(R:Type) (K:Int->Option R),hbin .and .i64 (IntKind.wrap .i64 (bs.getD (a - 1) 0)) (IntKind.wrap .i64 (((2 ^ l:Nat):Int) - 1)) K=K (((bs.getD (a - 1) 0).toNat % 2 ^ l:Nat):Int):=λ R K=> by
  rw [hv,w64 (n:=(v:Int)) (by omega) (by omega),w64 (by omega) (by omega),show ((2 ^ l:Nat):Int) - 1=((2 ^ l - 1:Nat):Int) from by omega,and64 (by omega) (by omega),Nat.and_two_pow_sub_one_eq_mod,Int.toNat_natCast]
 by_cases h1:(bs.getD (a - 1) 0).toNat % 2 ^ l=0
 . have d1:((((bs.getD (a - 1) 0).toNat % 2 ^ l:Nat):Int) !=0)=false:=by rw [h1];rfl
   have hp1:∀(R:Type) (KN:Oa->Option R) (KR:Int->Int->Option R),AAb k (some ⟨p,0,none⟩) H KN KR=KN (some ⟨p,0,none⟩):=λ R KN KR=> by
    by_cases hl0:l > 0
    . have d0:decide (((l:Nat):Int) > 0)=true:=decide_eq_true (by omega)
      unfold AAb ACf
      with_reducible repeat (first|refine (e1' _ _).trans ?_|refine (e2 _ _).trans ?_|refine (s1 _ _).trans ?_|refine (s2 _ _).trans ?_|((first|apply AAJ|apply AAH|apply AAY|apply AAw|apply go_i|apply go_b|apply go_l|apply go_p);with_unfolding_all first|exact (m _).trans rfl|rfl)|refine AAD rfl ?_|refine go_t d0 ?_|refine go_f d0 ?_|refine go_t d1 ?_|refine go_f d1 ?_|refine AAz ?_|refine AAx ?_|refine AAA ?_|refine AAC ?_|(refine go_t ?_ ?_;with_unfolding_all (show _=true;rfl))|(refine go_f ?_ ?_;with_unfolding_all (show _=false;rfl)))
      rfl
    . have d0:decide (((l:Nat):Int) > 0)=false:=decide_eq_false (by omega)
      unfold AAb ACf
      with_reducible repeat (first|((first|apply AAJ|apply AAH|apply AAY|apply AAw|apply go_i|apply go_b|apply go_l|apply go_p);with_unfolding_all first|exact (m _).trans rfl|rfl)|refine AAD rfl ?_|refine go_t d0 ?_|refine go_f d0 ?_|refine AAz ?_|refine AAx ?_|refine AAA ?_|refine AAC ?_|(refine go_t ?_ ?_;with_unfolding_all (show _=true;rfl))|(refine go_f ?_ ?_;with_unfolding_all (show _=false;rfl)))
      rfl
   have hp3':=hp3 (by omega)
   by_cases h2:l=0/\bs.getD (a - 1) 0=255
   . have d2:decide (l=0/\bs.getD (a - 1) 0=255)=true:=decide_eq_true h2
     by_cases h3:a=bs.length
     . have d4:decide (((a:Nat):Int)≥((bs.length:Nat):Int))=true:=decide_eq_true (by omega)
       have er:rA bs (a,l)=((0,7),a,l):=by unfold rA;rw [if_neg h0,if_neg (λ hh=> hh h1),if_pos h2,if_pos h3]
       rw [er]
       refine ⟨H,λ R K=> ?_,h, .refl _ _⟩
       unfold ABt ACM AAa AB8
       refine (hp0 _ _ _).trans ((hp1 _ _ _).trans ((hp3' _ _).trans (go_t d2 ?_)))
       with_reducible repeat (first|((first|apply AAJ|apply AAH|apply AAY|apply AAw|apply go_i|apply go_b|apply go_l|apply go_p);with_unfolding_all first|exact (m _).trans rfl|rfl)|refine AAD rfl ?_|refine go_t d4 ?_|refine go_f d4 ?_|refine AAz ?_|refine AAx ?_|refine AAA ?_|refine AAC ?_|(refine go_t ?_ ?_;with_unfolding_all (show _=true;rfl))|(refine go_f ?_ ?_;with_unfolding_all (show _=false;rfl)))
       rfl
     . have d4:decide (((a:Nat):Int)≥((bs.length:Nat):Int))=false:=decide_eq_false (by omega)
       obtain ⟨y,e3,e4⟩:=AIz h.sh (i:=a) (by omega)
       by_cases h4:bs.getD a 0=0
       . have d5:(bs.getD a 0 !=0)=false:=by rw [h4];rfl
         have er:rA bs (a,l)=((((a+1:Nat):Int),0),a+1,0):=by unfold rA;rw [if_neg h0,if_neg (λ hh=> hh h1),if_pos h2,if_neg h3,if_neg (λ hh=> hh h4)]
         obtain ⟨H1,e5,O1,b1,n1⟩:=Rd.st2 hO (a+1)
         have w2:IntKind.wrap .i64 (((a:Nat):Int)+1)=((a+1:Nat):Int):=by rw [w64 (by omega) (by omega)];omega
         have e5':∀(R:Type) (K:Heap->Option R),hst1 H (some ⟨p,2,none⟩) (.int .i64 (IntKind.wrap .i64 (((a:Nat):Int)+1))) K=K H1:=by rw [w2];exact e5
         obtain ⟨H2,e6,R2,b2⟩:=last H1 (a+1) O1 b1 (by omega)
         rw [er]
         refine ⟨H2,λ R K=> ?_,R2,b2⟩
         unfold ABt ACM AAa AB8
         refine (hp0 _ _ _).trans ((hp1 _ _ _).trans ((hp3' _ _).trans (go_t d2 ?_)))
         with_reducible repeat (first|refine (e3 _ _).trans ?_|refine (e4 _ _).trans ?_|refine (e5' _ _).trans ?_|((first|apply AAJ|apply AAH|apply AAY|apply AAw|apply go_i|apply go_b|apply go_l|apply go_p);with_unfolding_all first|exact (m _).trans rfl|rfl)|refine AAD rfl ?_|refine go_t d4 ?_|refine go_f d4 ?_|refine go_t d5 ?_|refine go_f d5 ?_|refine AAz ?_|refine AAx ?_|refine AAA ?_|refine AAC ?_|(refine go_t ?_ ?_;with_unfolding_all (show _=true;rfl))|(refine go_f ?_ ?_;with_unfolding_all (show _=false;rfl)))
         exact e6 R K
       . have d5:(bs.getD a 0 !=0)=true:=by simpa using h4
         have er:rA bs (a,l)=((0,8),a,l):=by unfold rA;rw [if_neg h0,if_neg (λ hh=> hh h1),if_pos h2,if_neg h3,if_pos h4]
         rw [er]
         refine ⟨H,λ R K=> ?_,h, .refl _ _⟩
         unfold ABt ACM AAa AB8
         refine (hp0 _ _ _).trans ((hp1 _ _ _).trans ((hp3' _ _).trans (go_t d2 ?_)))
         with_reducible repeat (first|refine (e3 _ _).trans ?_|refine (e4 _ _).trans ?_|((first|apply AAJ|apply AAH|apply AAY|apply AAw|apply go_i|apply go_b|apply go_l|apply go_p);with_unfolding_all first|exact (m _).trans rfl|rfl)|refine AAD rfl ?_|refine go_t d4 ?_|refine go_f d4 ?_|refine go_t d5 ?_|refine go_f d5 ?_|refine AAz ?_|refine AAx ?_|refine AAA ?_|refine AAC ?_|(refine go_t ?_ ?_;with_unfolding_all (show _=true;rfl))|(refine go_f ?_ ?_;with_unfolding_all (show _=false;rfl)))
         rfl
   . have d2:decide (l=0/\bs.getD (a - 1) 0=255)=false:=decide_eq_false h2
     have er:rA bs (a,l)=((((a:Nat):Int),0),a,0):=by unfold rA;rw [if_neg h0,if_neg (λ hh=> hh h1),if_neg h2]
     obtain ⟨H2,e6,R2,b2⟩:=last H a hO (.refl _ _) ha
     rw [er]
     refine ⟨H2,λ R K=> ?_,R2,b2⟩
     unfold ABt ACM AAa AB8
     refine (hp0 _ _ _).trans ((hp1 _ _ _).trans ((hp3' _ _).trans (go_f d2 ?_)))
     exact e6 R K
 . have d1:((((bs.getD (a - 1) 0).toNat % 2 ^ l:Nat):Int) !=0)=true:=by
    rw [bne_iff_ne];exact λ hh=> h1 (by exact_mod_cast hh)
   have hl0:0 < l:=by
    rcases Nat.eq_zero_or_pos l with hh|hh
    . exact (h1 (by rw [hh,Nat.pow_zero,Nat.mod_one])).elim
    . exact hh
   have d0:decide (((l:Nat):Int) > 0)=true:=decide_eq_true (by omega)
   have er:rA bs (a,l)=((0,8),a,l):=by unfold rA;rw [if_neg h0,if_pos h1]
   rw [er]
   refine ⟨H,λ R K=> ?_,h, .refl _ _⟩
   unfold ABt ACM AAb ACf
   refine (hp0 _ _ _).trans ?_
   with_reducible repeat (first|refine (e1' _ _).trans ?_|refine (e2 _ _).trans ?_|refine (s1 _ _).trans ?_|refine (s2 _ _).trans ?_|((first|apply AAJ|apply AAH|apply AAY|apply AAw|apply go_i|apply go_b|apply go_l|apply go_p);with_unfolding_all first|exact (m _).trans rfl|rfl)|refine AAD rfl ?_|refine go_t d0 ?_|refine go_f d0 ?_|refine go_t d1 ?_|refine go_f d1 ?_|refine AAz ?_|refine AAx ?_|refine AAA ?_|refine AAC ?_|(refine go_t ?_ ?_;with_unfolding_all (show _=true;rfl))|(refine go_f ?_ ?_;with_unfolding_all (show _=false;rfl)))
   rfl
end Go.Proofs.Ytmanlfonppfhaaa.Sh
