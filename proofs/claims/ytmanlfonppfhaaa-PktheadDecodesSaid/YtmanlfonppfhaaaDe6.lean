/- QsDecodes, part 6. -/
import Derived.Test.YtmanlfonppfhaaaDe5
set_option linter.unusedVariables false
set_option linter.unusedSimpArgs false
namespace Go.Proofs.Ytmanlfonppfhaaa.Sh
open Go.Proofs.Ytmanlfonppfhaaa.FW Go.IntWalk
abbrev Ci:=Int×Bool×Trs×Ps
def cI2 (g:Sg) (layer:Int) (v:Bs) (tr:Trs) (D:(Bool×Int)×Bool×Gn×Ps):Ci:=if D.1.2≠0 then (D.1.2,false,tr,D.2.2.2) else if D.1.1=false then (0,false,upT tr (2 * v.band) (tnx D),D.2.2.2) else
 if leafL (tnx D) (g.sz v.band) v.x v.y < layer then (15,false,tr,D.2.2.2) else (0,true,upT tr (2 * v.band) (tnx D),D.2.2.2)
def cI (g:Sg) (layer:Int) (tr:Trs) (v:Bs) (s:Ps):Ci:=if v.inc=true then ((rget g.bs s).1.2,(rget g.bs s).1.1==1,tr,(rget g.bs s).2) else cI2 g layer v tr (tdec g.bs (g.sz v.band) (tr (2 * v.band)) v.x v.y (layer+1) s)
abbrev Pn:=Int×Int×Int×Ps
def ps2 (v:Bs) (n:Int) (r:Rs):Pn:=if r.1.2≠0 then (0,0,r.1.2,r.2) else if (v.bits:Int)+r.1.1 > 16 then (0,0,15,r.2) else (n,r.1.1,0,r.2)
def ps1 (g:Sg) (planes:Int) (v:Bs) (r:Rs):Pn:=if r.1.2≠0 then (0,0,r.1.2,r.2) else if r.1.1 > 3 * planes - 2 - v.passes then (0,0,15,r.2) else ps2 v r.1.1 (rU g.bs 65535 r.2)
theorem Agu (g:Sg) (planes:Int) (v:Bs) (s:Ps):lB g planes v s=if (ps1 g planes v (rG g.bs s)).2.2.1≠0 then ((ps1 g planes v (rG g.bs s)).2.2.1,0, [],0,(ps1 g planes v (rG g.bs s)).2.2.2) else
 lB3 v (ps1 g planes v (rG g.bs s)).1 (ps1 g planes v (rG g.bs s)).2.1.toNat (pts g.t.1 g.t.2.1 g.kk v.passes (ps1 g planes v (rG g.bs s)).1) (rls g.bs (v.bits+(ps1 g planes v (rG g.bs s)).2.1.toNat) (pts g.t.1 g.t.2.1 g.kk v.passes (ps1 g planes v (rG g.bs s)).1) (ps1 g planes v (rG g.bs s)).2.2.2):=by
 unfold lB
 generalize rG g.bs s=r
 unfold lB1 ps1
 by_cases c1:r.1.2≠0
 . rw [if_pos c1,if_pos c1,if_pos c1]
 rw [if_neg c1,if_neg c1]
 by_cases c2:r.1.1 > 3 * planes - 2 - v.passes
 . rw [if_pos c2,if_pos c2,if_pos (by simp)]
 rw [if_neg c2,if_neg c2]
 generalize rU g.bs 65535 r.2=r2
 unfold lB2 ps2
 by_cases c3:r2.1.2≠0
 . rw [if_pos c3,if_pos c3,if_pos c3]
 rw [if_neg c3,if_neg c3]
 by_cases c4:(v.bits:Int)+r2.1.1 > 16
 . rw [if_pos c4,if_pos c4,if_pos (by simp)]
 . rw [if_neg c4,if_neg c4,if_neg (by simp)]
theorem AbA {g:Sg} {n:Nat} {planes:Int} {v:Bs} {s:Ps} (V:VOk g n v) (hp:planes<=60) (h:(ps1 g planes v (rG g.bs s)).2.2.1=0):1<=(ps1 g planes v (rG g.bs s)).1/\v.passes+(ps1 g planes v (rG g.bs s)).1<=178/\∃u:Nat,(ps1 g planes v (rG g.bs s)).2.1=(u:Int)/\v.bits+u<=16:=by
 have hG:(rG g.bs s).1.2=0->1<=(rG g.bs s).1.1:=AYX
 generalize rG g.bs s=r at h hG ⊢
 unfold ps1 at h ⊢
 by_cases c1:r.1.2≠0
 . rw [if_pos c1] at h;exact (c1 h).elim
 rw [if_neg c1] at h ⊢
 by_cases c2:r.1.1 > 3 * planes - 2 - v.passes
 . rw [if_pos c2] at h;cases h
 rw [if_neg c2] at h ⊢
 have hU:(rU g.bs 65535 r.2).1.2=0->∃u:Nat,(rU g.bs 65535 r.2).1.1=(u:Int)/\u<=65535:=AU7
 generalize rU g.bs 65535 r.2=r2 at h hU ⊢
 unfold ps2 at h ⊢
 by_cases c3:r2.1.2≠0
 . rw [if_pos c3] at h;exact (c3 h).elim
 rw [if_neg c3] at h ⊢
 by_cases c4:(v.bits:Int)+r2.1.1 > 16
 . rw [if_pos c4] at h;cases h
 rw [if_neg c4]
 obtain ⟨u,hu,_⟩:=hU (Classical.byContradiction c3)
 have:=hG (Classical.byContradiction c1)
 exact ⟨this,by simp only;omega,u,hu,by omega⟩
section
variable {z:Nat->Nat} {g:Sg} {n b:Nat} {Q:Qs} {kb kz:Nat} {P:Nat->Nat} {bl:List Bs} {layer:Int} {dec:Bool}
theorem AYU {k:Nat} (hk:100000 < k) (hn:n<=3) {H:Heap} {tr:Trs} {s:Ps} (S:RT z g n b Q kb kz P H bl tr layer dec) {pw:Nat} {qw:Oa} (W:Rd H pw qw g.bs s) (zw:z pw=3) (zr:∀a,qw=some a->z a.block=4/\a.block < H.length) (zf:∀j,H.length<=j->z j=99) (hly:0<=layer/\layer<=15) {i:Nat} {v:Bs} (h0:bl[i]? =some v) (V:VOk g n v) (hlen:bl.length<=65536):
 ∃H' z',(∀(R:Type) (K:Bool->Int->Heap->Option R),ABE k (some ⟨b,0,none⟩) (some ⟨pw,0,none⟩) (i:Int) H K=K (cI g layer tr v s).2.1 (cI g layer tr v s).1 H')/\Zs z H z' H'/\
  ((cI g layer tr v s).1=0->RT z' g n b Q kb kz P H' bl (cI g layer tr v s).2.2.1 layer dec/\Rd H' pw qw g.bs (cI g layer tr v s).2.2.2):=by
 have hx:=V.x
 have hy:=V.y
 have hs0:(g.sz v.band).1≠0:=by omega
 have hlt:=(List.getElem?_eq_some_iff.1 h0).1
 obtain ⟨eqk,zk,_⟩:=S.krow h0
 have mk:hcell H b 9=some (.slice (some ⟨kb,0,none⟩) bl.length Q.ck):=by rw [←eqk];exact S.o.sees.cell 9
 have hid:∀(R:Type) (K:Oa->Option R),hidx (some ⟨kb,0,none⟩) bl.length (i:Int) 8 K=K (some ⟨kb,i * 8,none⟩):=λ R K=> by
  unfold hidx;simp only;rw [if_pos ⟨by omega,by omega⟩,Int.toNat_natCast,Nat.zero_add]
 have mc:∀j,j < 8->hcell H kb (i * 8+j)=(bkr v)[j]? :=λ j hj=> S.cell h0 hj
 obtain ⟨H1,hH1⟩:∃H1,H1=H++ [some (⟨bkr v,false,0⟩:Blk)]:=⟨_,rfl⟩
 have o1:Old H.length H H1:=hH1 ▸ Old.app _ _
 have O1:Owns H1 H.length (bkr v) 0:=by rw [hH1];exact AAI H _
 have l1:H1.length=H.length+1:=by rw [hH1];simp
 have zM:=zf H.length (Nat.le_refl _)
 have S1:=S.keep o1 hn
 have W1:=W.keep o1
 have zf1:∀j,H1.length<=j->z j=99:=λ j hj=> zf j (by omega)
 have zr1:∀a,qw=some a->z a.block=4/\a.block < H1.length:=λ a ha=> ⟨(zr a ha).1,by have:=(zr a ha).2;omega⟩
 have c0:hcell H1 H.length 0=some (.int .i64 (v.band:Int)):=O1.sees.cell 0
 have c1:hcell H1 H.length 1=some (.int .i64 (v.x:Int)):=O1.sees.cell 1
 have c2:hcell H1 H.length 2=some (.int .i64 (v.y:Int)):=O1.sees.cell 2
 have c3:hcell H1 H.length 3=some (.bool v.inc):=O1.sees.cell 3
 have front:∀(R:Type) (K:Bool->Int->Heap->Option R) (rr:Option R),(bif v.inc then (AAk k (some ⟨pw,0,none⟩) H1 λ n23 n24 H25=>
K (n23==1) n24 H25)
 else (hnil (some ⟨b,0,none⟩) λ p26=>
hfad 7 p26 λ p27=>
ldL H1 p27 λ q28 l29 c30=>
hfad 0 (some ⟨H.length,0,none⟩) λ p31=>
ldI .i64 H1 p31 λ n32=>
hidx q28 l29 n32 1 λ p33=>
ldP H1 p33 λ p34=>
hfad 1 (some ⟨H.length,0,none⟩) λ p35=>
ldI .i64 H1 p35 λ n36=>
hfad 2 (some ⟨H.length,0,none⟩) λ p37=>
ldI .i64 H1 p37 λ n38=>
hnil (some ⟨b,0,none⟩) λ p39=>
hfad 10 p39 λ p40=>
ldI .i64 H1 p40 λ n41=>
ABr k p34 (some ⟨pw,0,none⟩) n36 n38 (IntKind.wrap .i64 (n41+1)) H1 λ t42 n43 H44=>
AAf k (some ⟨b,0,none⟩) (some ⟨H.length,0,none⟩) t42 n43 (λ p49 p50=>
hnil p49 λ p51=>
hfad 7 p51 λ p52=>
ldL H44 p52 λ q53 l54 c55=>
hfad 0 p50 λ p56=>
ldI .i64 H44 p56 λ n57=>
hidx q53 l54 n57 1 λ p58=>
ldP H44 p58 λ p59=>
hfad 1 p50 λ p60=>
ldI .i64 H44 p60 λ n61=>
hfad 2 p50 λ p62=>
ldI .i64 H44 p62 λ n63=>
ADO k p59 n61 n63 H44 λ n64 t65=>
hnil p49 λ p66=>
hfad 10 p66 λ p67=>
ldI .i64 H44 p67 λ n68=>
bif decide (n64 < n68) then (K false 15 H44)
 else (K true 0 H44)) (λ t69 n70=>
K t69 n70 H44)))=rr->ABE k (some ⟨b,0,none⟩) (some ⟨pw,0,none⟩) (i:Int) H K=rr:=by
  intro R K rr h
  unfold ABE AGM
  refine AAC (AAA (go_l mk ((hid _ _).trans (AAJ (mc 0 (by omega)) (AAJ (mc 1 (by omega)) (AAJ (mc 2 (by omega)) (AAH (mc 3 (by omega)) (AAJ (mc 4 (by omega)) (AAJ (mc 5 (by omega)) (AAJ (mc 6 (by omega)) (AAJ (mc 7 (by omega)) (AAW hH1 rfl rfl ?_))))))))))))
  exact AAA (go_b c3 h)
 unfold cI
 by_cases hi:v.inc=true
 . rw [if_pos hi]
   obtain ⟨H2,e2,W2,B2⟩:=AMe k W1
   exact ⟨H2,z,λ R K=> front R K _ (go_t hi ((e2 _ _).trans rfl)),(Zs.of_old o1).trans (.of_k (.of_but B2 (by omega))),λ _=> ⟨S1.rd B2 zw hn,W2⟩⟩
 rw [if_neg hi]
 have hi0:v.inc=false:=by simpa using hi
 obtain ⟨bb,oo,eb,mb⟩:=S1.inc V.b
 rw [AKH _ hs0] at mb
 have x7:hcell H1 b 7=some (.slice Q.qi n Q.ci):=S1.o.sees.cell 7
 have x10:hcell H1 b 10=some (.int .i64 layer):=S1.o.sees.cell 10
 have wl:IntKind.wrap .i64 (layer+1)=layer+1:=w64 (by omega) (by omega)
 have T0:=S1.tree (w:=0) V.b (by omega) hs0
 obtain ⟨H2,z2,e2,S2,W2,Z2⟩:=S1.dect (k:=k) (by omega) hn zf1 W1 zw zr1 (w:=0) V.b (by omega) hs0 v.x v.y (layer+1)
 rw [Nat.add_zero] at e2 S2 W2 T0
 have O2:=Owns.zs O1 Z2 zM
 have hl2:=Z2.len
 have hleaf:(tdec g.bs (g.sz v.band) (tr (2 * v.band)) v.x v.y (layer+1) s).1.2=0->_:=λ h=> AOW (bs:=g.bs) (d:=(tr (2 * v.band)).1) (g:=(tr (2 * v.band)).2) (s:=s) hx hy (t:=layer+1) (by omega) (by omega) T0.dim h
 obtain ⟨D,hD⟩:∃D,D=tdec g.bs (g.sz v.band) (tr (2 * v.band)) v.x v.y (layer+1) s:=⟨_,rfl⟩
 have hleaf':D.1.2=0->D.1.1=((D.2.2.1 0 (ix (g.sz v.band).1 v.x v.y 0)).2.2 && decide ((D.2.2.1 0 (ix (g.sz v.band).1 v.x v.y 0)).2.1 < layer+1)):=by rw [hD];exact λ h=> (hleaf h).1
 rw [←hD] at e2 S2 W2 ⊢
 clear hleaf
 have Zo:Zs z H z2 H2:=(Zs.of_old o1).trans Z2
 have start:∀(R:Type) (K:Bool->Int->Heap->Option R) (rr:Option R),(AAf k (some ⟨b,0,none⟩) (some ⟨H.length,0,none⟩) D.1.1 D.1.2 (λ p49 p50=>
hnil p49 λ p51=>
hfad 7 p51 λ p52=>
ldL H2 p52 λ q53 l54 c55=>
hfad 0 p50 λ p56=>
ldI .i64 H2 p56 λ n57=>
hidx q53 l54 n57 1 λ p58=>
ldP H2 p58 λ p59=>
hfad 1 p50 λ p60=>
ldI .i64 H2 p60 λ n61=>
hfad 2 p50 λ p62=>
ldI .i64 H2 p62 λ n63=>
ADO k p59 n61 n63 H2 λ n64 t65=>
hnil p49 λ p66=>
hfad 10 p66 λ p67=>
ldI .i64 H2 p67 λ n68=>
bif decide (n64 < n68) then (K false 15 H2)
 else (K true 0 H2)) (λ t69 n70=>
K t69 n70 H2))=rr->ABE k (some ⟨b,0,none⟩) (some ⟨pw,0,none⟩) (i:Int) H K=rr:=by
  intro R K rr h
  refine front R K _ (go_f hi0 (AAC (AAA (go_l x7 (AAA (go_i c0 ((eb _ _).trans (go_p mb (AAA (go_i c1 (AAA (go_i c2 (AAC (AAA (go_i x10 ?_)))))))))))))))
  rw [wl]
  exact (e2 _ _).trans h
 unfold cI2
 by_cases k1:D.1.2≠0
 . rw [if_pos k1]
   refine ⟨H2,z2,λ R K=> start R K _ ?_,Zo,λ h=> (k1 h).elim⟩
   unfold AAf ACH
   exact go_t (bne_iff_ne.2 k1) rfl
 rw [if_neg k1]
 have k10:D.1.2=0:=Classical.byContradiction k1
 by_cases k2:D.1.1=false
 . rw [if_pos k2]
   refine ⟨H2,z2,λ R K=> start R K _ ?_,Zo,λ h=> ⟨S2,W2⟩⟩
   unfold AAf ACH
   refine go_f (bne_eq_false_iff_eq.2 k10) (go_t (by rw [k2];rfl) ?_)
   rw [k10]
 rw [if_neg k2]
 have k20:D.1.1=true:=by simpa using k2
 have d1:=hleaf' k10
 rw [k20] at d1
 have d1':=d1.symm
 rw [Bool.and_eq_true] at d1'
 obtain ⟨d4,d5⟩:=d1'
 have ev:=S2.valt (k:=k) (w:=0) V.b (by omega) hs0 v.x v.y
 rw [Nat.add_zero,ANa,show valR (g.sz v.band).1 (g.sz v.band).2 (v.x:Int) (v.y:Int) (tnx D).2=((D.2.2.1 0 (ix (g.sz v.band).1 v.x v.y 0)).2.1,true) from ANp hx hy d4] at ev
 obtain ⟨bb2,oo2,eb2,mb2⟩:=S2.inc V.b
 rw [AKH _ hs0] at mb2
 have y7:hcell H2 b 7=some (.slice Q.qi n Q.ci):=S2.o.sees.cell 7
 have y10:hcell H2 b 10=some (.int .i64 layer):=S2.o.sees.cell 10
 have start2:∀(R:Type) (K:Bool->Int->Heap->Option R) (rr:Option R),(bif decide ((D.2.2.1 0 (ix (g.sz v.band).1 v.x v.y 0)).2.1 < layer) then (K false 15 H2) else (K true 0 H2))=rr->ABE k (some ⟨b,0,none⟩) (some ⟨pw,0,none⟩) (i:Int) H K=rr:=by
  intro R K rr h
  refine start R K _ ?_
  unfold AAf ACH
  refine go_f (bne_eq_false_iff_eq.2 k10) (go_f (by rw [k20];rfl) ?_)
  refine AAC (AAA (go_l y7 (AAA (go_i (O2.sees.cell 0) ((eb2 _ _).trans (go_p mb2 (AAA (go_i (O2.sees.cell 1) (AAA (go_i (O2.sees.cell 2) ((ev _ _).trans (AAC (AAA (go_i y10 h))))))))))))))
 have hll:leafL (tnx D) (g.sz v.band) v.x v.y=(D.2.2.1 0 (ix (g.sz v.band).1 v.x v.y 0)).2.1:=rfl
 rw [hll]
 by_cases k3:(D.2.2.1 0 (ix (g.sz v.band).1 v.x v.y 0)).2.1 < layer
 . rw [if_pos k3]
   exact ⟨H2,z2,λ R K=> start2 R K _ (go_t (decide_eq_true k3) rfl),Zo,λ h=> by cases h⟩
 . rw [if_neg k3]
   exact ⟨H2,z2,λ R K=> start2 R K _ (go_f (decide_eq_false k3) rfl),Zo,λ _=> ⟨S2,W2⟩⟩
theorem Aas {k:Nat} (hk:100000 < k) (hn:n<=3) {pw:Nat} {qw:Oa} {v:Bs} (V:VOk g n v) (hP:0<=g.pl v.band/\g.pl v.band<=60) {M:Nat}:
 ∀(m f:Nat) (t:Int),m < f->1<=t->t - 1+m=g.pl v.band->∀(z:Nat->Nat) (H:Heap) (tr:Trs) (s:Ps),RT z g n b Q kb kz P H bl tr layer dec->Rd H pw qw g.bs s->z pw=3->(∀a,qw=some a->z a.block=4/\a.block < H.length)->(∀j,H.length<=j->z j=99)->Owns H M (bkr v) 0->z M=99->
 ∃H' z',(∀(R:Type) (K:Int->Int->Heap->Option R),AA2 k (λ H15=> K 0 15 H15) (λ n16 n17 H18=> K n16 n17 H18) f (some ⟨b,0,none⟩) (some ⟨pw,0,none⟩) (some ⟨M,0,none⟩) t H=K (zl g.bs (g.sz v.band) (g.pl v.band) v.x v.y m t (tr (2 * v.band+1)) s).2.2.1 (zl g.bs (g.sz v.band) (g.pl v.band) v.x v.y m t (tr (2 * v.band+1)) s).1 H')/\Zs z H z' H'/\
  ((zl g.bs (g.sz v.band) (g.pl v.band) v.x v.y m t (tr (2 * v.band+1)) s).1=0->RT z' g n b Q kb kz P H' bl (upT tr (2 * v.band+1) (zl g.bs (g.sz v.band) (g.pl v.band) v.x v.y m t (tr (2 * v.band+1)) s).2.1) layer dec/\Rd H' pw qw g.bs (zl g.bs (g.sz v.band) (g.pl v.band) v.x v.y m t (tr (2 * v.band+1)) s).2.2.2):=by
 have hx:=V.x
 have hy:=V.y
 have hs0:(g.sz v.band).1≠0:=by omega
 intro m
 induction m with
 |zero=>
  intro f t hf ht hm z H tr s S W zw zr zf O zM
  obtain ⟨f,rfl⟩:∃n',f=n'+1:=⟨f - 1,by omega⟩
  obtain ⟨pp1,ep,vp⟩:=S.pl V.b
  have y1:hcell H b 1=some (.slice Q.qv n Q.cv):=S.o.sees.cell 1
  refine ⟨H,z,λ R K=> ?_, .refl _ _,λ h=> by rw [zl] at h;cases h⟩
  unfold AA2 AE9
  exact AAC (AAA (go_l y1 (AAA (go_i (O.sees.cell 0) ((ep _ _).trans ((vp _ _).trans (go_f (decide_eq_false (by omega)) rfl)))))))
 |succ m ih=>
  intro f t hf ht hm z H tr s S W zw zr zf O zM
  obtain ⟨f,rfl⟩:∃n',f=n'+1:=⟨f - 1,by omega⟩
  obtain ⟨pp1,ep,vp⟩:=S.pl V.b
  have y1:hcell H b 1=some (.slice Q.qv n Q.cv):=S.o.sees.cell 1
  have y8:hcell H b 8=some (.slice Q.qm n Q.cm):=S.o.sees.cell 8
  obtain ⟨bb,oo,eb,mb⟩:=S.mis V.b
  rw [AKH _ hs0] at mb
  obtain ⟨H1,z1,e1,S1,W1,Z1⟩:=S.dect (k:=k) (by omega) hn zf W zw zr (w:=1) V.b (by omega) hs0 v.x v.y t
  have O1:=Owns.zs O Z1 zM
  have hpl:=W.lt
  have hl1:=Z1.len
  have start:∀(R:Type) (K:Int->Int->Heap->Option R) (rr:Option R),(bif ((tdec g.bs (g.sz v.band) (tr (2 * v.band+1)) v.x v.y t s).1.2 !=0) then (K 0 (tdec g.bs (g.sz v.band) (tr (2 * v.band+1)) v.x v.y t s).1.2 H1)
 else (bif (tdec g.bs (g.sz v.band) (tr (2 * v.band+1)) v.x v.y t s).1.1 then (hnil (some ⟨b,0,none⟩) λ p30=>
hfad 1 p30 λ p31=>
ldL H1 p31 λ q32 l33 c34=>
hfad 0 (some ⟨M,0,none⟩) λ p35=>
ldI .i64 H1 p35 λ n36=>
hidx q32 l33 n36 1 λ p37=>
ldI .i64 H1 p37 λ n38=>
K (IntKind.wrap .i64 ((IntKind.wrap .i64 (n38 - t))+1)) 0 H1)
 else
   (AA2 k (λ H15=> K 0 15 H15) (λ n16 n17 H18=> K n16 n17 H18) f (some ⟨b,0,none⟩) (some ⟨pw,0,none⟩) (some ⟨M,0,none⟩) (IntKind.wrap .i64 (t+1)) H1)))=rr->AA2 k (λ H15=> K 0 15 H15) (λ n16 n17 H18=> K n16 n17 H18) (f+1) (some ⟨b,0,none⟩) (some ⟨pw,0,none⟩) (some ⟨M,0,none⟩) t H=rr:=by
   intro R K rr h
   rw [AA2]
   unfold AE9
   refine AAC (AAA (go_l y1 (AAA (go_i (O.sees.cell 0) ((ep _ _).trans ((vp _ _).trans (go_t (decide_eq_true (by omega)) ?_)))))))
   refine AAC (AAA (go_l y8 (AAA (go_i (O.sees.cell 0) ((eb _ _).trans (go_p mb (AAA (go_i (O.sees.cell 1) (AAA (go_i (O.sees.cell 2) ((e1 _ _).trans h)))))))))))
  rw [zl]
  generalize tdec g.bs (g.sz v.band) (tr (2 * v.band+1)) v.x v.y t s=D at start S1 W1 ⊢
  by_cases k1:D.1.2≠0
  . rw [if_pos k1]
    exact ⟨H1,z1,λ R K=> start R K _ (go_t (bne_iff_ne.2 k1) rfl),Z1,λ h=> (k1 h).elim⟩
  rw [if_neg k1]
  have k10:D.1.2=0:=Classical.byContradiction k1
  by_cases k2:D.1.1=true
  . rw [if_pos k2]
    obtain ⟨pp2,ep2,vp2⟩:=S1.pl V.b
    have x1:hcell H1 b 1=some (.slice Q.qv n Q.cv):=S1.o.sees.cell 1
    refine ⟨H1,z1,λ R K=> start R K _ ?_,Z1,λ _=> ⟨S1,W1⟩⟩
    refine go_f (bne_eq_false_iff_eq.2 k10) (go_t k2 (AAC (AAA (go_l x1 (AAA (go_i (O1.sees.cell 0) ((ep2 _ _).trans ((vp2 _ _).trans ?_))))))))
    rw [w64 (n:=g.pl v.band - t) (by omega) (by omega),w64 (by omega) (by omega),show g.pl v.band - t+1=g.pl v.band - (t - 1) from by omega]
  . rw [if_neg k2]
    have k20:D.1.1=false:=by simpa using k2
    have hMl:=O.lt
    obtain ⟨H2,z2,e2,Z2,r2⟩:=ih f (t+1) (by omega) (by omega) (by omega) z1 H1 (upT tr (2 * v.band+1) (tnx D)) D.2.2.2 S1 W1 (by rw [Z1.e pw (.inl hpl)];exact zw) (λ a ha=> by have:=zr a ha;rw [Z1.e _ (.inl this.2)];omega) (Z1.zf zf) O1 (by rw [Z1.e M (.inl hMl)];exact zM)
    rw [ANa] at e2 r2
    refine ⟨H2,z2,λ R K=> start R K _ ?_,Z1.trans Z2,λ h=> ?_⟩
    . refine go_f (bne_eq_false_iff_eq.2 k10) (go_f k20 ?_)
      rw [w64 (n:=t+1) (by omega) (by omega)]
      exact e2 R K
    . have:=r2 h
      rw [AS4] at this
      exact this
theorem Aaw {k:Nat} (hk:100000 < k) (hn:n<=3) {pw:Nat} {qw:Oa} {v:Bs} (V:VOk g n v) (hP:0<=g.pl v.band/\g.pl v.band<=60) {H:Heap} {tr:Trs} {s:Ps} (S:RT z g n b Q kb kz P H bl tr layer dec) (W:Rd H pw qw g.bs s) (zw:z pw=3) (zr:∀a,qw=some a->z a.block=4/\a.block < H.length) (zf:∀j,H.length<=j->z j=99):
 ∃H' z',(∀(R:Type) (K:Int->Int->Heap->Option R),AGa k (some ⟨b,0,none⟩) (some ⟨pw,0,none⟩) (v.band:Int) (v.x:Int) (v.y:Int) v.inc v.planes v.passes v.len (v.bits:Int) H K=K (zl g.bs (g.sz v.band) (g.pl v.band) v.x v.y (g.pl v.band).toNat 1 (tr (2 * v.band+1)) s).2.2.1 (zl g.bs (g.sz v.band) (g.pl v.band) v.x v.y (g.pl v.band).toNat 1 (tr (2 * v.band+1)) s).1 H')/\Zs z H z' H'/\
  ((zl g.bs (g.sz v.band) (g.pl v.band) v.x v.y (g.pl v.band).toNat 1 (tr (2 * v.band+1)) s).1=0->RT z' g n b Q kb kz P H' bl (upT tr (2 * v.band+1) (zl g.bs (g.sz v.band) (g.pl v.band) v.x v.y (g.pl v.band).toNat 1 (tr (2 * v.band+1)) s).2.1) layer dec/\Rd H' pw qw g.bs (zl g.bs (g.sz v.band) (g.pl v.band) v.x v.y (g.pl v.band).toNat 1 (tr (2 * v.band+1)) s).2.2.2):=by
 obtain ⟨H1,hH1⟩:∃H1,H1=H++ [some (⟨bkr v,false,0⟩:Blk)]:=⟨_,rfl⟩
 have o1:Old H.length H H1:=hH1 ▸ Old.app _ _
 have O1:Owns H1 H.length (bkr v) 0:=by rw [hH1];exact AAI H _
 have l1:H1.length=H.length+1:=by rw [hH1];simp
 obtain ⟨H2,z2,e2,Z2,r2⟩:=Aas hk hn V hP (g.pl v.band).toNat k 1 (by omega) (by omega) (by omega) z H1 tr s (S.keep o1 hn) (W.keep o1) zw (λ a ha=> ⟨(zr a ha).1,by have:=(zr a ha).2;omega⟩) (λ j hj=> zf j (by omega)) O1 (zf _ (Nat.le_refl _))
 refine ⟨H2,z2,λ R K=> ?_,(Zs.of_old o1).trans Z2,r2⟩
 unfold AGa AJA
 exact AAD hH1 (e2 R K)
end
theorem Aav {k:Nat} (hk:100000 < k) {g:Sg} {n:Nat} {pw:Nat} {qw:Oa} {v:Bs} (V:VOk g n v) {planes:Int} (hp0:0<=planes) (hp1:planes<=60) {H:Heap} {s:Ps} (W:Rd H pw qw g.bs s) (pb:Oa):
 ∃H',(∀(R:Type) (K:Int->Int->Int->Heap->Option R),ACD k pb (some ⟨pw,0,none⟩) (v.band:Int) (v.x:Int) (v.y:Int) v.inc v.planes v.passes v.len (v.bits:Int) planes H K=K (ps1 g planes v (rG g.bs s)).1 (ps1 g planes v (rG g.bs s)).2.1 (ps1 g planes v (rG g.bs s)).2.2.1 H')/\But pw H H'/\
  ((ps1 g planes v (rG g.bs s)).2.2.1=0->Rd H' pw qw g.bs (ps1 g planes v (rG g.bs s)).2.2.2):=by
 obtain ⟨H1,hH1⟩:∃H1,H1=H++ [some (⟨bkr v,false,0⟩:Blk)]:=⟨_,rfl⟩
 have o1:Old H.length H H1:=hH1 ▸ Old.app _ _
 have O1:Owns H1 H.length (bkr v) 0:=by rw [hH1];exact AAI H _
 have hpl:=W.lt
 have b1:But pw H H1:= .of_old o1
 obtain ⟨H2,e2,W2,B2⟩:=ASO (k:=k) (by omega) (W.keep o1)
 have O2:=O1.but B2 (by omega)
 have:=V.q0;have:=V.q1;have:=V.b0;have:=V.b1
 generalize rG g.bs s=r at e2 W2 ⊢
 unfold ps1
 by_cases c1:r.1.2≠0
 . rw [if_pos c1]
   refine ⟨H2,λ R K=> ?_,b1.trans B2,λ h=> (c1 h).elim⟩
   unfold ACD AFA
   exact AAD hH1 ((e2 _ _).trans (go_t (bne_iff_ne.2 c1) rfl))
 rw [if_neg c1]
 have c10:r.1.2=0:=Classical.byContradiction c1
 have wl:IntKind.wrap .i64 (IntKind.wrap .i64 (IntKind.wrap .i64 (3 * planes) - 2) - v.passes)=3 * planes - 2 - v.passes:=by
  rw [w64 (n:=3 * planes) (by omega) (by omega),w64 (n:=3 * planes - 2) (by omega) (by omega),w64 (by omega) (by omega)]
 by_cases c2:r.1.1 > 3 * planes - 2 - v.passes
 . rw [if_pos c2]
   refine ⟨H2,λ R K=> ?_,b1.trans B2,λ h=> by cases h⟩
   unfold ACD AFA
   refine AAD hH1 ((e2 _ _).trans (go_f (bne_eq_false_iff_eq.2 c10) (AAA (go_i (O2.sees.cell 5) ?_))))
   rw [wl]
   exact go_t (decide_eq_true c2) rfl
 rw [if_neg c2]
 obtain ⟨H3,e3,W3,B3⟩:=ASM (k:=k) hk W2 65535
 have O3:=O2.but B3 (by omega)
 have hU:(rU g.bs 65535 r.2).1.2=0->∃u:Nat,(rU g.bs 65535 r.2).1.1=(u:Int)/\u<=65535:=AU7
 generalize rU g.bs 65535 r.2=r2 at e3 W3 hU ⊢
 have start:∀(R:Type) (K:Int->Int->Int->Heap->Option R) (rr:Option R),(bif (r2.1.2 !=0) then (K 0 0 r2.1.2 H3)
 else (hfad 7 (some ⟨H.length,0,none⟩) λ p22=>
ldI .i64 H3 p22 λ n23=>
bif decide ((IntKind.wrap .i64 (n23+r2.1.1)) > 16) then (K 0 0 15 H3)
 else (K r.1.1 r2.1.1 0 H3)))=rr->ACD k pb (some ⟨pw,0,none⟩) (v.band:Int) (v.x:Int) (v.y:Int) v.inc v.planes v.passes v.len (v.bits:Int) planes H K=rr:=by
  intro R K rr h
  unfold ACD AFA
  refine AAD hH1 ((e2 _ _).trans (go_f (bne_eq_false_iff_eq.2 c10) (AAA (go_i (O2.sees.cell 5) ?_))))
  rw [wl]
  exact go_f (decide_eq_false c2) ((e3 _ _).trans h)
 unfold ps2
 by_cases c3:r2.1.2≠0
 . rw [if_pos c3]
   exact ⟨H3,λ R K=> start R K _ (go_t (bne_iff_ne.2 c3) rfl),(b1.trans B2).trans B3,λ h=> (c3 h).elim⟩
 rw [if_neg c3]
 have c30:r2.1.2=0:=Classical.byContradiction c3
 obtain ⟨u,hu,hu2⟩:=hU c30
 have w7:IntKind.wrap .i64 ((v.bits:Int)+r2.1.1)=(v.bits:Int)+r2.1.1:=w64 (by omega) (by omega)
 by_cases c4:(v.bits:Int)+r2.1.1 > 16
 . rw [if_pos c4]
   refine ⟨H3,λ R K=> start R K _ (go_f (bne_eq_false_iff_eq.2 c30) (AAA (go_i (O3.sees.cell 7) ?_))),(b1.trans B2).trans B3,λ h=> by cases h⟩
   rw [w7]
   exact go_t (decide_eq_true c4) rfl
 . rw [if_neg c4]
   refine ⟨H3,λ R K=> start R K _ (go_f (bne_eq_false_iff_eq.2 c30) (AAA (go_i (O3.sees.cell 7) ?_))),(b1.trans B2).trans B3,λ _=> W3⟩
   rw [w7]
   exact go_f (decide_eq_false c4) rfl
open Go.Proofs.Ytmanlfonppfhaaa.FW Go.IntWalk
structure LJ (g:Sg) (Hs:Heap) (pw:Nat) (qw:Oa) (P:Nat) (pl n:Int) (H:Heap) (vs:List Int) (s:Ps) (qv:Oa) (cv:Nat):Prop where
 rd:Rd H pw qw g.bs s
 c:Gw Hs.length P H [.int .i64 pl, .int .i64 n, .slice qv vs.length cv] [⟨2,1,qv,vs.length,cv,ints vs⟩]
 len:Hs.length<=H.length
 fr:∀j,j < Hs.length->j≠pw->j≠P->hblk H j=hblk Hs j
theorem LJ.shows {g:Sg} {Hs:Heap} {pw:Nat} {qw:Oa} {P:Nat} {pl n:Int} {H:Heap} {vs:List Int} {s:Ps} {qv:Oa} {cv:Nat} (L:LJ g Hs pw qw P pl n H vs s qv cv):Shows H qv (ints vs)/\∀a,qv=some a->Hs.length<=a.block/\a.block < H.length:=by
 have hf:=L.c.f _ (List.mem_singleton.2 rfl)
 refine ⟨hf.shows.1,λ a ha=> ⟨?_,hf.below a ha⟩⟩
 rcases hf with ⟨h,_⟩|⟨b',h,_,h3,_⟩
 . simp only at h;rw [h] at ha;cases ha
 . simp only at h;rw [h] at ha;cases ha;exact h3
theorem LJ.st {g:Sg} {Hs:Heap} {pw:Nat} {qw:Oa} {P:Nat} {pl n:Int} {H:Heap} {vs:List Int} {s:Ps} {qv:Oa} {cv:Nat} (L:LJ g Hs pw qw P pl n H vs s qv cv) {b sz:Nat} {cs:List Value} (h:Owns Hs b cs sz) (h1:b≠pw) (h3:b≠P):Owns H b cs sz:=h.same (L.fr b h.lt h1 h3)
theorem LJ.sh {g:Sg} {Hs:Heap} {pw:Nat} {qw:Oa} {P:Nat} {pl n:Int} {H:Heap} {vs:List Int} {s:Ps} {qv:Oa} {cv:Nat} (L:LJ g Hs pw qw P pl n H vs s qv cv) {q:Oa} {cs:List Value} (h:ShB Hs.length Hs q cs) (hq:∀a,q=some a->a.block≠pw/\a.block≠P):Shows H q cs:=by
 rcases h.b with h1|h1
 . exact .inl h1
 . exact h.s.same λ a ha=> L.fr _ (h1 a ha) (hq a ha).1 (hq a ha).2
theorem Agh (k:Nat) (hk:100000 < k) {g:Sg} {nb:Nat} {Hs:Heap} {pw:Nat} {qw:Oa} {M:Nat} {v:Bs} (V:VOk g nb v) {pl n:Int} {ps:List Int} (hp:∀x∈ps,1<=x/\x<=178) (hpl:ps.length<=178) {more:Nat} (hm:v.bits+more<=16) {qp:Oa} {cp:Nat} (hqp:ShB Hs.length Hs qp (ints ps)) (hqn:∀a,qp=some a->a.block≠pw/\a.block≠M+2)
 (c0:Owns Hs M [.int .i64 0, .int .i64 0, .slice none 0 0] 0) (c1:Owns Hs (M+1) (bkr v) 0) (hpM:pw < M) (hqw:∀a,qw=some a->a.block < M/\a.block≠pw) (hMs:M+2 < Hs.length) (pb:Oa) (i:Int):
 ∀(m f j:Nat),m < f->ps.length=j+m->∀(H:Heap) (vs:List Int) (s:Ps) (qv:Oa) (cv:Nat),vs.length=j->(∀x∈vs,0<=x/\x < 134217728)->LJ g Hs pw qw (M+2) pl n H vs s qv cv->
 ∃H',(∀(R:Type) (KE:Oa->Int->Oa->Oa->Oa->Int->Oa->Nat->Nat->Int->Heap->Option R) (KR:Oa->Int->Heap->Option R),AAc k KE KR f pb (some ⟨pw,0,none⟩) i (some ⟨M,0,none⟩) (some ⟨M+1,0,none⟩) (some ⟨M+2,0,none⟩) (more:Int) qp ps.length cp (v.len+vs.sum) (j:Int) H=if (rls g.bs (v.bits+more) (ps.drop j) s).1≠0 then KR (some ⟨M,0,none⟩) (rls g.bs (v.bits+more) (ps.drop j) s).1 H' else KE pb i (some ⟨M,0,none⟩) (some ⟨M+1,0,none⟩) (some ⟨M+2,0,none⟩) (more:Int) qp ps.length cp (v.len+(vs++(rls g.bs (v.bits+more) (ps.drop j) s).2.1).sum) H')/\
  ((rls g.bs (v.bits+more) (ps.drop j) s).1≠0->Hs.length<=H'.length/\(∀j,j < Hs.length->j≠pw->j≠M+2->j≠M->hblk H' j=hblk Hs j)/\∃a b q l c,Owns H' M [.int .i64 a, .int .i64 b, .slice q l c] 0)/\
  ((rls g.bs (v.bits+more) (ps.drop j) s).1=0->∃qv' cv',LJ g Hs pw qw (M+2) pl n H' (vs++(rls g.bs (v.bits+more) (ps.drop j) s).2.1) (rls g.bs (v.bits+more) (ps.drop j) s).2.2 qv' cv'):=by
 intro m
 have hb0:=V.b0
 have hl0:=V.l0
 have hl1:=V.l1
 induction m with
 |zero=>
  intro f j hf hj H vs s qv cv hv hvb L
  obtain ⟨f,rfl⟩:∃n',f=n'+1:=⟨f - 1,by omega⟩
  rw [List.drop_eq_nil_of_le (by omega)]
  refine ⟨H,λ R KE KR=> ?_,λ h=> (h rfl).elim,λ _=> ⟨qv,cv,by rw [rls,List.append_nil];exact L⟩⟩
  rw [if_neg (λ h=> h rfl),rls,List.append_nil]
  unfold AAc AGL
  exact go_f (decide_eq_false (by omega)) rfl
 |succ m ih=>
  intro f j hf hj H vs s qv cv hv hvb L
  obtain ⟨f,rfl⟩:∃n',f=n'+1:=⟨f - 1,by omega⟩
  obtain ⟨kq,hkq⟩:=AKx (l:=ps) (i:=j) (by omega)
  obtain ⟨k1,k2⟩:=hp kq (List.mem_of_getElem? hkq)
  have hwk:=AQ7 (k:=kq) (by omega)
  have hsame:Shows H qp (ints ps):=L.sh hqp hqn
  obtain ⟨p1,e1,w1⟩:=AL8 hsame hkq
  have m7:hcell H (M+1) 7=some (.int .i64 (v.bits:Int)):=(L.st c1 (by omega) (by omega)).sees.cell 7
  have e2:=AOV (k:=k) (by omega) (v:=kq) (by omega) (by omega)
  have hdg:=ATr (n:=kq.toNat) (by omega)
  have hd8:=ATs (n:=kq.toNat) (by omega)
  have wn:IntKind.wrap .i64 (IntKind.wrap .i64 (IntKind.wrap .i64 ((v.bits:Int)+(more:Int))+((dg kq.toNat:Nat):Int)) - 1)=((v.bits+more+wid kq:Nat):Int):=by
   rw [w64 (n:=(v.bits:Int)+(more:Int)) (by omega) (by omega),w64 (n:=(v.bits:Int)+(more:Int)+((dg kq.toNat:Nat):Int)) (by omega) (by omega),w64 (by omega) (by omega)]
   unfold wid;omega
  obtain ⟨H1,e3,R1,B1,_⟩:=AON (k:=k) (by omega) L.rd ((v.bits+more+wid kq:Nat):Int)
  have hpl':=L.rd.lt
  have hcl:=L.c.o.lt
  have hLl:=L.len
  have hqvb:∀a,qv=some a->Hs.length<=a.block/\a.block < H.length:=L.shows.2
  have G1:Gw Hs.length (M+2) H1 [.int .i64 pl, .int .i64 n, .slice qv vs.length cv] [⟨2,1,qv,vs.length,cv,ints vs⟩]:=by
   refine ⟨L.c.o.but B1 (by omega),L.c.m,λ t ht=> ?_,L.c.a,L.c.d⟩
   have ht':=List.mem_singleton.1 ht
   subst ht'
   exact Bld.but2 (L.c.f _ ht) B1 λ a ha=> by have:=hqvb a ha;omega
  have fr1:∀j,j < Hs.length->j≠pw->j≠M+2->hblk H1 j=hblk Hs j:=λ j hj h1 h3=> by rw [B1.2 j (by omega) h1,L.fr j hj h1 h3]
  have hd:ps.drop j=kq::ps.drop (j+1):=AIr hkq
  rw [hd,rls]
  have hB0:(rB g.bs ((v.bits+more+wid kq:Nat):Int) s).1.2=0->0<=(rB g.bs ((v.bits+more+wid kq:Nat):Int) s).1.1/\(rB g.bs ((v.bits+more+wid kq:Nat):Int) s).1.1 < ((2 ^ (v.bits+more+wid kq):Nat):Int):=λ h=> AYY (by omega) h
  generalize rB g.bs ((v.bits+more+wid kq:Nat):Int) s=r at e3 R1 hB0 ⊢
  have start:∀(R:Type) (KE:Oa->Int->Oa->Oa->Oa->Int->Oa->Nat->Nat->Int->Heap->Option R) (KR:Oa->Int->Heap->Option R) (rr:Option R),(bif (r.1.2 !=0) then (ldI .i64 H1 (pad (some ⟨M+2,0,none⟩) 0) λ n21=>
ldI .i64 H1 (pad (some ⟨M+2,0,none⟩) 1) λ n22=>
ldL H1 (pad (some ⟨M+2,0,none⟩) 2) λ q23 l24 c25=>
hst H1 (some ⟨M,0,none⟩) [.int .i64 n21,.int .i64 n22,.slice q23 l24 c25] λ H26=>
KR (some ⟨M,0,none⟩) r.1.2 H26)
 else (hfad 2 (some ⟨M+2,0,none⟩) λ p27=>
ldL H1 p27 λ q28 l29 c30=>
hal H1 [.int .i64 r.1.1] λ p31 H32=>
happS 1 8 H32 q28 l29 c30 p31 1 λ q33 l34 c35 H36=>
hfad 2 (some ⟨M+2,0,none⟩) λ p37=>
hst1 H36 p37 (.slice q33 l34 c35) λ H38=>
AAc k KE KR f pb (some ⟨pw,0,none⟩) i (some ⟨M,0,none⟩) (some ⟨M+1,0,none⟩) (some ⟨M+2,0,none⟩) (more:Int) qp ps.length cp (IntKind.wrap .i64 ((v.len+vs.sum)+r.1.1)) (IntKind.wrap .i64 ((j:Int)+1)) H38))=rr->AAc k KE KR (f+1) pb (some ⟨pw,0,none⟩) i (some ⟨M,0,none⟩) (some ⟨M+1,0,none⟩) (some ⟨M+2,0,none⟩) (more:Int) qp ps.length cp (v.len+vs.sum) (j:Int) H=rr:=by
   intro R KE KR rr h
   rw [AAc]
   unfold AGL
   refine go_t (decide_eq_true (by omega)) (AAA (go_i m7 ((e1 _ _).trans ((w1 _ _).trans ((e2 _ _).trans ?_)))))
   rw [wn]
   exact (e3 _ _).trans h
  by_cases he:r.1.2≠0
  . rw [if_pos he]
    have c60:=c0.same (fr1 M (by omega) (by omega) (by omega))
    obtain ⟨H2,e4,O4,n4,s4⟩:=AKR (o:=0) (vs:= [.int .i64 pl, .int .i64 n, .slice qv vs.length cv]) c60 (by simp) rfl
    refine ⟨H2,λ R KE KR=> start R KE KR _ ?_,λ _=> ⟨by have:=B1.1;omega,λ j hj h1 h3 h4=> by rw [s4 j h4,fr1 j hj h1 h3],pl,n,qv,vs.length,cv,O4⟩,λ h=> (he h).elim⟩
    rw [if_pos he]
    exact go_t (bne_iff_ne.2 he) (AAJ (G1.o.sees.cell 0) (AAJ (G1.o.sees.cell 1) (AAY (G1.o.sees.cell 2) (e4 _ _))))
  . rw [if_neg he]
    have he0:r.1.2=0:=Classical.byContradiction he
    obtain ⟨x0,x1⟩:=hB0 he0
    have hpw:2 ^ (v.bits+more+wid kq)<=2 ^ 26:=Nat.pow_le_pow_right (by omega) (by omega)
    have mc:hcell H1 (M+2) 2=some (.slice qv vs.length cv):=G1.o.sees.cell 2
    have hB1:=B1.1
    obtain ⟨H2,H3,H4,hH2,e5,e6,G4,k4,o4,n4⟩:=Gw.grow (A:= []) (B:= []) (s:=⟨2,1,qv,vs.length,cv,ints vs⟩) (bytes:=8) (ec:= [.int .i64 r.1.1]) G1 (by simp) (by simp) rfl (by simp only;omega) (by omega)
    have keep4:∀j,j < Hs.length->j≠M+2->hblk H4 j=hblk H1 j:=λ j hj h1=> k4 j (by omega) (Gw.one G1 h1 λ a ha=> by have:=(hqvb a ha).1;simp only at *;omega)
    have hvl:(vs++ [r.1.1]).length=vs.length+1:=by simp
    have hiv:ints (vs++ [r.1.1])=ints vs++ [.int .i64 r.1.1]:=by simp [ints]
    have hsb:=ARt vs hvb
    have wl:IntKind.wrap .i64 ((v.len+vs.sum)+r.1.1)=v.len+(vs++ [r.1.1]).sum:=by
     rw [ARs,w64 (by omega) (by omega)];omega
    have L5:LJ g Hs pw qw (M+2) pl n H4 (vs++ [r.1.1]) r.2 (some ⟨H1.length+1,0,none⟩) unk:=by
     refine ⟨R1.same (keep4 pw (by omega) (by omega)) λ a ha=> keep4 a.block (by have:=(hqw a ha).1;omega) (by have:=(hqw a ha).1;omega), ?_,by omega,λ j hj h1 h3=> by rw [keep4 j hj h3,fr1 j hj h1 h3]⟩
     rw [hvl,hiv]
     exact G4
    obtain ⟨H6,e8,x8,y8⟩:=ih f (j+1) (by omega) (by omega) H4 (vs++ [r.1.1]) r.2 _ _ (by rw [hvl,hv]) (λ x hx=> by
     rcases List.mem_append.1 hx with h|h
     . exact hvb x h
     . rw [List.mem_singleton.1 h];omega) L5
    refine ⟨H6,λ R KE KR=> start R KE KR _ ?_,x8,λ h=> by
     obtain ⟨qv',cv',L6⟩:=y8 h
     refine ⟨qv',cv', ?_⟩
     rw [List.append_assoc] at L6
     exact L6⟩
    refine go_f (bne_eq_false_iff_eq.2 he0) (AAA (go_l mc (AAD hH2 ((e5 _ _).trans (AAA ((e6 _ _).trans ?_))))))
    rw [wl,w64 (n:=(j:Int)+1) (by omega) (by omega)]
    have:=e8 R KE KR
    rw [List.append_assoc] at this
    exact this
theorem AVd {g:Sg} {nb:Nat} {v:Bs} (V:VOk g nb v) {more:Nat} (hm:v.bits+more<=16) {ps vs:List Int} (hz:∀z∈ps.zip vs,1<=z.1/\z.1<=255/\0<=z.2/\z.2 < ((2 ^ (v.bits+more+wid z.1):Nat):Int)):bad v more ps vs=(decide (v.len+vs.sum > 65535)||(incr (v.bits:Int) (ps.zip vs) 0 !=(more:Int))):=by
 have h:=ATZ (b:=v.bits) (more:=more) (by omega) hz
 unfold bad
 rw [Bool.or_comm]
 congr 1
 by_cases hc:more > 0/\suff (v.bits+more - 1) (ps.zip vs)=true
 . rw [decide_eq_true hc.1,hc.2,Bool.true_and]
   exact (bne_iff_ne.2 λ e=> h.1 e hc).symm
 . rw [show (incr (v.bits:Int) (ps.zip vs) 0 !=(more:Int))=false from bne_eq_false_iff_eq.2 (h.2 hc)]
   by_cases h0:more > 0
   . rw [decide_eq_true h0,Bool.true_and]
     cases hs:suff (v.bits+more - 1) (ps.zip vs)
     . rfl
     . exact (hc ⟨h0,hs⟩).elim
   . rw [decide_eq_false h0,Bool.false_and]
theorem AYO {k:Nat} (hk:1000 < k) {g:Sg} {nb:Nat} {Hs:Heap} {pw:Nat} {qw:Oa} {M:Nat} {v:Bs} (V:VOk g nb v) {pl n:Int} {ps:List Int} (hpl:ps.length<=178) {more:Nat} (hm:v.bits+more<=16) {qp:Oa} (cp:Nat) (hqp:ShB Hs.length Hs qp (ints ps)) (hqn:∀a,qp=some a->a.block≠pw/\a.block≠M+2) (c1:Owns Hs (M+1) (bkr v) 0) (hpM:pw < M) {H:Heap} {vs:List Int} {s:Ps} {qv:Oa} {cv:Nat} (hvl:vs.length=ps.length) (hz:∀z∈ps.zip vs,1<=z.1/\z.1<=255/\0<=z.2/\z.2 < ((2 ^ (v.bits+more+wid z.1):Nat):Int)) (hvb:∀x∈vs,0<=x/\x < 134217728) (L:LJ g Hs pw qw (M+2) pl n H vs s qv cv) (pb:Oa) (i:Int) (pr:Oa)
 (R:Type) (KN:Oa->Int->Oa->Oa->Int->Bool->Option R):ABV k pb i pr (some ⟨M+1,0,none⟩) (some ⟨M+2,0,none⟩) (more:Int) qp ps.length cp (v.len+vs.sum) H KN=KN pb i pr (some ⟨M+2,0,none⟩) (more:Int) (bad v more ps vs):=by
 have hb0:=V.b0
 have m7:hcell H (M+1) 7=some (.int .i64 (v.bits:Int)):=(L.st c1 (by omega) (by omega)).sees.cell 7
 have mc:hcell H (M+2) 2=some (.slice qv vs.length cv):=L.c.o.sees.cell 2
 have e:=AYx (k:=k) hk (H:=H) (q2:=qv) (q5:=qp) (zs:=ps.zip vs) (λ z hz'=> by
  obtain ⟨a1,a2,a3,_⟩:=hz z hz'
  have:=hvb z.2 (List.of_mem_zip hz').2
  omega) (by rw [AQi hvl];omega) (b:=(v.bits:Int)) (by omega) (by omega) cv cp (by rw [ASh hvl];exact L.shows.1) (by rw [ASi hvl];exact L.sh hqp hqn)
 rw [AQi hvl] at e
 rw [AVd V hm hz]
 unfold ABV AIO
 by_cases h:v.len+vs.sum > 65535
 . rw [decide_eq_true h,Bool.true_or]
   exact go_t rfl rfl
 . rw [decide_eq_false h,Bool.false_or]
   refine go_f rfl (AAA (go_i m7 (AAA (go_l mc ?_))))
   rw [hvl]
   exact e _ _
section
variable {z:Nat->Nat} {g:Sg} {n b:Nat} {Q:Qs} {kb kz:Nat} {P:Nat->Nat} {layer:Int} {dec:Bool}
theorem Aa5 (k:Nat) (hn:n<=3) {tr:Trs} {i A:Nat} {a1 a2:Int} {q:Oa} {c:Nat} {vs:List Int} (hvb:∀x∈vs,0<=x/\x < 134217728) (hvl:vs.length<=178) (zA:z A=99) (zq:∀a,q=some a->z a.block=99) {len:Nat} (hlen:len<=65536):
 ∀(m f j:Nat),m < f->vs.length=j+m->∀(H:Heap) (bl:List Bs) (v:Bs),bl[i]? =some v->bl.length=len->0<=v.len/\v.len<=65535+j * 134217728->RT z g n b Q kb kz P H bl tr layer dec->Owns H A [.int .i64 a1, .int .i64 a2, .slice q vs.length c] 0->Shows H q (ints vs)->
 ∃H',(∀(R:Type) (KE:Heap->Option R),ACX k KE f (some ⟨b,0,none⟩) (i:Int) (some ⟨A,0,none⟩) (j:Int) H=KE H')/\RT z g n b Q kb kz P H' (bl.set i { v with len:=v.len+(vs.drop j).sum }) tr layer dec/\But kb H H':=by
 intro m
 induction m with
 |zero=>
  intro f j hf hj H bl v h0 hbl hv S O hS
  obtain ⟨f,rfl⟩:∃n',f=n'+1:=⟨f - 1,by omega⟩
  refine ⟨H,λ R KE=> ?_, ?_, .refl _ _⟩
  . unfold ACX AGx
    exact AAA (go_l (O.sees.cell 2) (go_f (decide_eq_false (by omega)) rfl))
  . rw [List.drop_eq_nil_of_le (by omega),List.sum_nil,Int.add_zero,AKj h0]
    exact S
 |succ m ih=>
  intro f j hf hj H bl v h0 hbl hv S O hS
  obtain ⟨f,rfl⟩:∃n',f=n'+1:=⟨f - 1,by omega⟩
  obtain ⟨x,hx⟩:=AKx (l:=vs) (i:=j) (by omega)
  obtain ⟨p1,e1,w1⟩:=AL8 hS hx
  have hxb:=hvb x (List.mem_of_getElem? hx)
  have hlt:=(List.getElem?_eq_some_iff.1 h0).1
  obtain ⟨eqk,zk,_⟩:=S.krow h0
  have mk:hcell H b 9=some (.slice (some ⟨kb,0,none⟩) bl.length Q.ck):=by rw [←eqk];exact S.o.sees.cell 9
  have hid:∀(R:Type) (K:Oa->Option R),hidx (some ⟨kb,0,none⟩) bl.length (i:Int) 8 K=K (some ⟨kb,i * 8,none⟩):=λ R K=> by
   unfold hidx;simp only;rw [if_pos ⟨by omega,by omega⟩,Int.toNat_natCast,Nat.zero_add]
  have m6:hcell H kb (i * 8+6)=some (.int .i64 v.len):=S.cell h0 (j:=6) (by omega)
  have wv:IntKind.wrap .i64 (v.len+x)=v.len+x:=w64 (by omega) (by omega)
  obtain ⟨H1,e2,S1,B1⟩:=S.put h0 (j:=6) (by omega) (x:= .int .i64 (v.len+x)) (v':= { v with len:=v.len+x }) rfl hn
  have hAk:A≠kb:=λ e=> by rw [e,zk] at zA;omega
  have hqk:∀a,q=some a->a.block≠kb:=λ a ha e=> by have:=zq a ha;rw [e,zk] at this;omega
  obtain ⟨H2,e3,S2,B2⟩:=ih f (j+1) (by omega) (by omega) H1 (bl.set i { v with len:=v.len+x }) { v with len:=v.len+x } (AL6 h0) (by rw [List.length_set];exact hbl) (by simp only;omega) S1 (O.but B1 hAk) (hS.but B1 hqk)
  refine ⟨H2,λ R KE=> ?_, ?_,B1.trans B2⟩
  . rw [ACX]
    unfold AGx
    refine AAA (go_l (O.sees.cell 2) (go_t (decide_eq_true (by omega)) (AAC (AAA (go_l mk (AAC (AAA (go_l mk ((hid _ _).trans (AAA (go_i m6 ?_)))))))))))
    refine AAA (go_l (O.sees.cell 2) ((e1 _ _).trans ((w1 _ _).trans ((hid _ _).trans (AAA ?_)))))
    rw [wv]
    refine (e2 _ _).trans ?_
    rw [w64 (n:=(j:Int)+1) (by omega) (by omega)]
    exact e3 R KE
  . rw [AJl] at S2
    rw [AIr hx,List.sum_cons,←Int.add_assoc]
    exact S2
theorem AYW {k:Nat} (hk:1000 < k) (hn:n<=3) {H:Heap} {bl:List Bs} {tr:Trs} (S:RT z g n b Q kb kz P H bl tr layer dec) (zf:∀j,H.length<=j->z j=99) {i:Nat} {v:Bs} (h0:bl[i]? =some v) (hlen:bl.length<=65536) {pl np:Int} {q:Oa} {c:Nat} {vs:List Int} (hS:Shows H q (ints vs)) (hvb:∀x∈vs,0<=x/\x < 134217728) (hvl:vs.length<=178) (zq:∀a,q=some a->z a.block=99) {more:Nat} (hp:0<=v.passes/\v.passes<=178/\0<=np/\np<=178) (hb:v.bits<=16/\more<=16) (hl:0<=v.len/\v.len<=65535):
 ∃H',(∀(R:Type) (K:Heap->Option R),AHW k (some ⟨b,0,none⟩) (i:Int) pl np q vs.length c (more:Int) H K=K H')/\RT z g n b Q kb kz P H' (bl.set i { v with inc:=true,planes:=pl,passes:=v.passes+np,len:=v.len+vs.sum,bits:=v.bits+more }) tr layer dec/\But kb H H':=by
 have hlt:=(List.getElem?_eq_some_iff.1 h0).1
 obtain ⟨H1,hH1⟩:∃H1,H1=H++ [some (⟨[.int .i64 pl, .int .i64 np, .slice q vs.length c],false,0⟩:Blk)]:=⟨_,rfl⟩
 have o1:Old H.length H H1:=hH1 ▸ Old.app _ _
 have O1:Owns H1 H.length [.int .i64 pl, .int .i64 np, .slice q vs.length c] 0:=by rw [hH1];exact AAI H _
 have S1:=S.keep o1 hn
 have zA:=zf H.length (Nat.le_refl _)
 obtain ⟨eqk,zk,Ok⟩:=S.krow h0
 have hkl:=Ok.lt
 have hAk:H.length≠kb:=by omega
 have mk:∀ {Hx:Heap} {bx:List Bs},bx.length=bl.length->RT z g n b Q kb kz P Hx bx tr layer dec->hcell Hx b 9=some (.slice (some ⟨kb,0,none⟩) bl.length Q.ck):=λ {Hx bx} h Sx=> by rw [←eqk,←h];exact Sx.o.sees.cell 9
 have hid:∀(R:Type) (K:Oa->Option R),hidx (some ⟨kb,0,none⟩) bl.length (i:Int) 8 K=K (some ⟨kb,i * 8,none⟩):=λ R K=> by
  unfold hidx;simp only;rw [if_pos ⟨by omega,by omega⟩,Int.toNat_natCast,Nat.zero_add]
 obtain ⟨H2,e2,S2,B2⟩:=S1.put h0 (j:=3) (by omega) (x:= .bool true) (v':= { v with inc:=true }) rfl hn
 obtain ⟨H3,e3,S3,B3⟩:=S2.put (AL6 h0) (j:=4) (by omega) (x:= .int .i64 pl) (v':= { v with inc:=true,planes:=pl }) rfl hn
 rw [AJl] at S3
 obtain ⟨H4,e4,S4,B4⟩:=S3.put (AL6 h0) (j:=5) (by omega) (x:= .int .i64 (v.passes+np)) (v':= { v with inc:=true,planes:=pl,passes:=v.passes+np }) rfl hn
 rw [AJl] at S4
 obtain ⟨H5,e5,S5,B5⟩:=S4.put (AL6 h0) (j:=7) (by omega) (x:= .int .i64 ((v.bits+more:Nat):Int)) (v':= { v with inc:=true,planes:=pl,passes:=v.passes+np,bits:=v.bits+more }) rfl hn
 rw [AJl] at S5
 have hsl:∀(w:Bs),(bl.set i w).length=bl.length:=λ w=> List.length_set
 have O2:=O1.but B2 hAk
 have O3:=O2.but B3 hAk
 have O4:=O3.but B4 hAk
 have O5:=O4.but B5 hAk
 have hqk:∀a,q=some a->a.block≠kb:=λ a ha e=> by have:=zq a ha;rw [e,zk] at this;omega
 have hS5:=((((hS.keep o1).but B2 hqk).but B3 hqk).but B4 hqk).but B5 hqk
 obtain ⟨H6,e6,S6,B6⟩:=Aa5 k hn (tr:=tr) (i:=i) (A:=H.length) hvb hvl zA zq hlen vs.length k 0 (by omega) (by omega) H5 _ _ (AL6 h0) (hsl _) (by simp only;omega) S5 O5 hS5
 rw [AJl,List.drop_zero] at S6
 simp only [Int.natCast_zero] at e6
 have m3:hcell H3 kb (i * 8+5)=some (.int .i64 v.passes):=S3.cell (AL6 h0) (j:=5) (by omega)
 have m4:hcell H4 kb (i * 8+7)=some (.int .i64 (v.bits:Int)):=S4.cell (AL6 h0) (j:=7) (by omega)
 have wp:IntKind.wrap .i64 (v.passes+np)=v.passes+np:=w64 (by omega) (by omega)
 have wb:IntKind.wrap .i64 ((v.bits:Int)+(more:Int))=((v.bits+more:Nat):Int):=by rw [w64 (by omega) (by omega)];omega
 have b1:But kb H H1:=⟨o1.1,λ j hj _=> o1.2 j hj⟩
 refine ⟨H6,λ R K=> ?_,S6,((((b1.trans B2).trans B3).trans B4).trans B5).trans B6⟩
 unfold AHW AK9
 refine AAD hH1 (AAC (AAA (go_l (mk rfl S1) ((hid _ _).trans (AAA ((e2 _ _).trans ?_))))))
 refine AAC (AAA (go_l (mk (hsl _) S2) (AAA (go_i (O2.sees.cell 0) ((hid _ _).trans (AAA ((e3 _ _).trans ?_)))))))
 refine AAC (AAA (go_l (mk (hsl _) S3) (AAC (AAA (go_l (mk (hsl _) S3) ((hid _ _).trans (AAA (go_i m3 (AAA (go_i (O3.sees.cell 1) ((hid _ _).trans (AAA ?_))))))))))))
 rw [wp]
 refine (e4 _ _).trans ?_
 refine AAC (AAA (go_l (mk (hsl _) S4) (AAC (AAA (go_l (mk (hsl _) S4) ((hid _ _).trans (AAA (go_i m4 ((hid _ _).trans (AAA ?_))))))))))
 rw [wb]
 exact (e5 _ _).trans (e6 _ _)
end
open Go.Proofs.Ytmanlfonppfhaaa.FW Go.IntWalk
def Zm (M:Nat) (z:Nat->Nat) (H H':Heap):Prop:=H.length<=H'.length/\∀j,j < M->(z j=99∨z j=1)->hblk H' j=hblk H j
theorem Zm.refl (M:Nat) (z:Nat->Nat) (H:Heap):Zm M z H H:=⟨Nat.le_refl _,λ _ _ _=> rfl⟩
theorem Zm.trans {M:Nat} {z:Nat->Nat} {H1 H2 H3:Heap} (a:Zm M z H1 H2) (b:Zm M z H2 H3):Zm M z H1 H3:=⟨Nat.le_trans a.1 b.1,λ j hj h=> (b.2 j hj h).trans (a.2 j hj h)⟩
theorem Zm.of_but {M:Nat} {z:Nat->Nat} {b:Nat} {H H':Heap} (o:But b H H') (hM:M<=H.length) (h:(z b≠99/\z b≠1)∨M<=b):Zm M z H H':=⟨o.1,λ j hj hz=> o.2 j (by omega) λ e=> by
 subst e
 rcases h with h|h
 . omega
 . omega⟩
theorem Zm.of_old {M:Nat} {z:Nat->Nat} {H H':Heap} (o:Old H.length H H') (hM:M<=H.length):Zm M z H H':=⟨o.1,λ j hj _=> o.2 j (by omega)⟩
section
variable {z:Nat->Nat} {g:Sg} {n b:Nat} {Q:Qs} {kb kz:Nat} {P:Nat->Nat} {layer:Int} {dec:Bool}
theorem ARw {k:Nat} (hk:100000 < k) (hgk:g.kk=k) (hn:n<=3) {H:Heap} {bl:List Bs} {tr:Trs} {s:Ps} (S:RT z g n b Q kb kz P H bl tr layer dec) {pw:Nat} {qw:Oa} (W:Rd H pw qw g.bs s) (zw:z pw=3) {M:Nat} (zr:∀a,qw=some a->z a.block=4/\a.block < M) (zf:∀j,H.length<=j->z j=99) (hpM:pw < M) (hM:M+2 < H.length) (zM:z M=99/\z (M+1)=99/\z (M+2)=99) {i:Nat} {v:Bs} (h0:bl[i]? =some v) (V:VOk g n v) (hlen:bl.length<=65536) {planes:Int} (hp0:0<=planes) (hp1:planes<=60)
 (c0:Owns H M [.int .i64 0, .int .i64 0, .slice none 0 0] 0) (c1:Owns H (M+1) (bkr v) 0) (c2:Owns H (M+2) [.int .i64 planes, .int .i64 0, .slice none 0 0] 0):
 ∃n1 n2 q l c H',(∀(R:Type) (K:Int->Int->Oa->Nat->Nat->Int->Heap->Option R),(ldI .i64 H (pad (some ⟨M+1,0,none⟩) 0) λ n73=>
ldI .i64 H (pad (some ⟨M+1,0,none⟩) 1) λ n74=>
ldI .i64 H (pad (some ⟨M+1,0,none⟩) 2) λ n75=>
ldB H (pad (some ⟨M+1,0,none⟩) 3) λ t76=>
ldI .i64 H (pad (some ⟨M+1,0,none⟩) 4) λ n77=>
ldI .i64 H (pad (some ⟨M+1,0,none⟩) 5) λ n78=>
ldI .i64 H (pad (some ⟨M+1,0,none⟩) 6) λ n79=>
ldI .i64 H (pad (some ⟨M+1,0,none⟩) 7) λ n80=>
hfad 0 (some ⟨M+2,0,none⟩) λ p81=>
ldI .i64 H p81 λ n82=>
ACD k (some ⟨b,0,none⟩) (some ⟨pw,0,none⟩) n73 n74 n75 t76 n77 n78 n79 n80 n82 H λ n83 n84 n85 H86=>
bif (n85 !=0) then (ldI .i64 H86 (pad (some ⟨M+2,0,none⟩) 0) λ n87=>
ldI .i64 H86 (pad (some ⟨M+2,0,none⟩) 1) λ n88=>
ldL H86 (pad (some ⟨M+2,0,none⟩) 2) λ q89 l90 c91=>
hst H86 (some ⟨M,0,none⟩) [.int .i64 n87,.int .i64 n88,.slice q89 l90 c91] λ H92=>
ldI .i64 H92 (pad (some ⟨M,0,none⟩) 0) λ n93=>
ldI .i64 H92 (pad (some ⟨M,0,none⟩) 1) λ n94=>
ldL H92 (pad (some ⟨M,0,none⟩) 2) λ q95 l96 c97=>
K n93 n94 q95 l96 c97 n85 H92)
 else (hfad 1 (some ⟨M+2,0,none⟩) λ p98=>
hst1 H86 p98 (.int .i64 n83) λ H99=>
hfad 5 (some ⟨M+1,0,none⟩) λ p100=>
ldI .i64 H99 p100 λ n101=>
hnil (some ⟨b,0,none⟩) λ p102=>
hfad 2 p102 λ p103=>
ldB H99 (pad p103 0) λ t104=>
ldB H99 (pad p103 1) λ t105=>
ldB H99 (pad p103 2) λ t106=>
ldB H99 (pad p103 3) λ t107=>
ldB H99 (pad p103 4) λ t108=>
AHJ k n101 n83 t104 t105 t106 t107 t108 H99 λ q109 l110 c111 H112=>
hfad 6 (some ⟨M+1,0,none⟩) λ p113=>
ldI .i64 H112 p113 λ n114=>
AAc k (λ p127 n128 p129 p130 p131 n132 q133 l134 c135 n136 H137=>
ABV k p127 n128 p129 p130 p131 n132 q133 l134 c135 n136 H137 (λ p144 n145 p146 p147 n148 t149=>
bif t149 then (ldI .i64 H137 (pad p147 0) λ n150=>
ldI .i64 H137 (pad p147 1) λ n151=>
ldL H137 (pad p147 2) λ q152 l153 c154=>
hst H137 p146 [.int .i64 n150,.int .i64 n151,.slice q152 l153 c154] λ H155=>
ldI .i64 H155 (pad p146 0) λ n156=>
ldI .i64 H155 (pad p146 1) λ n157=>
ldL H155 (pad p146 2) λ q158 l159 c160=>
K n156 n157 q158 l159 c160 15 H155)
 else (ldI .i64 H137 (pad p147 0) λ n161=>
ldI .i64 H137 (pad p147 1) λ n162=>
ldL H137 (pad p147 2) λ q163 l164 c165=>
AHW k p144 n145 n161 n162 q163 l164 c165 n148 H137 λ H166=>
ldI .i64 H166 (pad p147 0) λ n167=>
ldI .i64 H166 (pad p147 1) λ n168=>
ldL H166 (pad p147 2) λ q169 l170 c171=>
hst H166 p146 [.int .i64 n167,.int .i64 n168,.slice q169 l170 c171] λ H172=>
ldI .i64 H172 (pad p146 0) λ n173=>
ldI .i64 H172 (pad p146 1) λ n174=>
ldL H172 (pad p146 2) λ q175 l176 c177=>
K n173 n174 q175 l176 c177 0 H172))) (λ p178 n179 H180=>
ldI .i64 H180 (pad p178 0) λ n181=>
ldI .i64 H180 (pad p178 1) λ n182=>
ldL H180 (pad p178 2) λ q183 l184 c185=>
K n181 n182 q183 l184 c185 n179 H180) k (some ⟨b,0,none⟩) (some ⟨pw,0,none⟩) (i:Int) (some ⟨M,0,none⟩) (some ⟨M+1,0,none⟩) (some ⟨M+2,0,none⟩) n84 q109 l110 c111 n114 0 H112))=K n1 n2 q l c (lB g planes v s).1 H')/\Zm M z H H'/\
  ((lB g planes v s).1=0->n1=planes/\n2=(lB g planes v s).2.1/\l=(lB g planes v s).2.2.1.length/\Shows H' q (ints (lB g planes v s).2.2.1)/\(∀a,q=some a->H.length<=a.block/\a.block < H'.length)/\RT z g n b Q kb kz P H' (bl.set i { v with inc:=true,planes:=planes,passes:=v.passes+(lB g planes v s).2.1,len:=v.len+(lB g planes v s).2.2.1.sum,bits:=v.bits+(lB g planes v s).2.2.2.1 }) tr layer dec/\Rd H' pw qw g.bs (lB g planes v s).2.2.2.2):=by
 have cc1:∀o,hcell H (M+1) o=(bkr v)[o]? :=λ o=> c1.sees.cell o
 have zwne:∀ {t:Nat},(z t=99∨z t=1)->t≠pw:=λ h e=> by subst e;omega
 obtain ⟨H1,e1,B1,r1⟩:=Aav hk V hp0 hp1 W (some ⟨b,0,none⟩)
 have hb1:=AbA (s:=s) V hp1
 have l1:=B1.1
 have d0:=c0.but B1 (zwne (.inl zM.1))
 have d1:=c1.but B1 (zwne (.inl zM.2.1))
 have d2:=c2.but B1 (zwne (.inl zM.2.2))
 have S1:=S.rd B1 zw hn
 have Z1:Zm M z H H1:= .of_but B1 (by omega) (.inl (by omega))
 rw [Agu]
 generalize ps1 g planes v (rG g.bs s)=p at e1 r1 hb1 ⊢
 have start:∀(R:Type) (K2:Int->Int->Int->Heap->Option R) (rr:Option R),K2 p.1 p.2.1 p.2.2.1 H1=rr->(ldI .i64 H (pad (some ⟨M+1,0,none⟩) 0) λ n73=>
ldI .i64 H (pad (some ⟨M+1,0,none⟩) 1) λ n74=>
ldI .i64 H (pad (some ⟨M+1,0,none⟩) 2) λ n75=>
ldB H (pad (some ⟨M+1,0,none⟩) 3) λ t76=>
ldI .i64 H (pad (some ⟨M+1,0,none⟩) 4) λ n77=>
ldI .i64 H (pad (some ⟨M+1,0,none⟩) 5) λ n78=>
ldI .i64 H (pad (some ⟨M+1,0,none⟩) 6) λ n79=>
ldI .i64 H (pad (some ⟨M+1,0,none⟩) 7) λ n80=>
hfad 0 (some ⟨M+2,0,none⟩) λ p81=>
ldI .i64 H p81 λ n82=>
ACD k (some ⟨b,0,none⟩) (some ⟨pw,0,none⟩) n73 n74 n75 t76 n77 n78 n79 n80 n82 H K2)=rr:=by
  intro R K2 rr h
  exact AAJ (cc1 0) (AAJ (cc1 1) (AAJ (cc1 2) (AAH (cc1 3) (AAJ (cc1 4) (AAJ (cc1 5) (AAJ (cc1 6) (AAJ (cc1 7) (AAA (go_i (c2.sees.cell 0) ((e1 _ _).trans h))))))))))
 by_cases k1:p.2.2.1≠0
 . rw [if_pos k1]
   obtain ⟨H2,e2,B2⟩:=ret6 d2 d0
   refine ⟨planes,0,none,0,0,H2,λ R K=> start R _ _ (go_t (bne_iff_ne.2 k1) ?_),Z1.trans (.of_but B2 (by omega) (.inr (by omega))),λ h=> (k1 h).elim⟩
   exact e2 R λ a b q l c H=> K a b q l c p.2.2.1 H
 rw [if_neg k1]
 have k10:p.2.2.1=0:=Classical.byContradiction k1
 have W1:=r1 k10
 obtain ⟨p1,p2,u,hu,hu2⟩:=hb1 k10
 rw [hu,Int.toNat_natCast,hgk]
 have:=V.q0;have:=V.q1;have:=V.l0;have:=V.l1
 obtain ⟨H2,e2,O2,B2,n2⟩:=d2.st1 (o:=1) (by simp) (.int .i64 p.1)
 have O2':Owns H2 (M+2) [.int .i64 planes, .int .i64 p.1, .slice none 0 0] 0:=O2
 have f0:=d0.but B2 (by omega)
 have f1:=d1.but B2 (by omega)
 have S2:=S1.loc B2 zM.2.2 hn
 have hqM:∀a,qw=some a->a.block≠M/\a.block≠M+2:=λ a ha=> by have:=(zr a ha).2;omega
 have W2:=W1.but B2 (by omega) λ a ha=> (hqM a ha).2
 have Z2:=Z1.trans (Zm.of_but (z:=z) B2 (by omega) (.inr (by omega)))
 have hx:∀o,hcell H2 b o=(sR' g.t Q.qv n Q.cv Q.qi Q.ci Q.qm Q.cm Q.qk bl.length Q.ck layer dec)[o]? :=λ o=> S2.o.sees.cell o
 obtain ⟨qp,lp,cp,Hs,eP,BP,oP⟩:=AT5 (k:=k) (by omega) v.passes p.1 ⟨by omega,by omega⟩ g.t.1 g.t.2.1 g.t.2.2.1 g.t.2.2.2.1 g.t.2.2.2.2 H2
 have hPs:=BP.shows
 have hps:=ATL g.t.1 g.t.2.1 k v.passes p.1
 have hpl:=ARW g.t.1 g.t.2.1 k v.passes p.1
 generalize hpts:pts g.t.1 g.t.2.1 k v.passes p.1=ps at BP hPs hps hpl ⊢
 have hlp:lp=ps.length:=by have:=hPs.2;rw [AOH] at this;omega
 subst hlp
 have lS:=oP.1
 have l2:=B2.1
 have hqn:∀a,qp=some a->a.block≠pw/\a.block≠M+2:=λ a ha=> by
  rcases BP with ⟨h,_⟩|⟨b',h,_,h3,_⟩
  . rw [h] at ha;cases ha
  . rw [h] at ha;cases ha;simp only;omega
 have S3:=S2.keep oP hn
 have W3:=W2.keep oP
 have x0:=f0.old oP (by omega)
 have x1:=f1.old oP (by omega)
 have x2:=O2'.old oP (by omega)
 have Z3:=Z2.trans (Zm.of_old (z:=z) oP (by omega))
 have L0:LJ g Hs pw qw (M+2) planes p.1 Hs [] p.2.2.2 none 0:=by
  refine ⟨W3,⟨x2,λ t ht=> ?_,λ t ht=> ?_,λ t ht a ha=> ?_,by simp⟩,Nat.le_refl _,λ j _ _ _=> rfl⟩
  . have ht':=List.mem_singleton.1 ht;subst ht';rfl
  . have ht':=List.mem_singleton.1 ht;subst ht';exact Bld.nil _ _ _
  . have ht':=List.mem_singleton.1 ht;subst ht';cases ha
 obtain ⟨H4,eL,xL,yL⟩:=Agh k hk V (ps:=ps) hps hpl (more:=u) (by omega) (cp:=cp) ⟨hPs.1, .inr BP.below⟩ hqn x0 x1 hpM (λ a ha=> ⟨(zr a ha).2,λ e=> by have:=(zr a ha).1;rw [e,zw] at this;omega⟩) (by omega) (some ⟨b,0,none⟩) (i:Int) ps.length k 0 (by omega) (by omega) Hs [] p.2.2.2 none 0 rfl (λ x hx=> by cases hx) L0
 rw [List.drop_zero] at eL xL yL
 simp only [Int.natCast_zero,List.sum_nil,Int.add_zero,List.nil_append] at eL yL
 have hR:=ATE g.bs (v.bits+u) (by omega) ps p.2.2.2 hps
 generalize hrl:rls g.bs (v.bits+u) ps p.2.2.2=r3 at eL xL yL hR ⊢
 have start3:∀(R:Type) (K:Int->Int->Oa->Nat->Nat->Int->Heap->Option R) (KE:Oa->Int->Oa->Oa->Oa->Int->Oa->Nat->Nat->Int->Heap->Option R) (KR:Oa->Int->Heap->Option R) (rr:Option R),(if r3.1≠0 then KR (some ⟨M,0,none⟩) r3.1 H4 else KE (some ⟨b,0,none⟩) (i:Int) (some ⟨M,0,none⟩) (some ⟨M+1,0,none⟩) (some ⟨M+2,0,none⟩) (u:Int) qp ps.length cp (v.len+r3.2.1.sum) H4)=rr->
  (hfad 1 (some ⟨M+2,0,none⟩) λ p98=>
hst1 H1 p98 (.int .i64 p.1) λ H99=>
hfad 5 (some ⟨M+1,0,none⟩) λ p100=>
ldI .i64 H99 p100 λ n101=>
hnil (some ⟨b,0,none⟩) λ p102=>
hfad 2 p102 λ p103=>
ldB H99 (pad p103 0) λ t104=>
ldB H99 (pad p103 1) λ t105=>
ldB H99 (pad p103 2) λ t106=>
ldB H99 (pad p103 3) λ t107=>
ldB H99 (pad p103 4) λ t108=>
AHJ k n101 p.1 t104 t105 t106 t107 t108 H99 λ q109 l110 c111 H112=>
hfad 6 (some ⟨M+1,0,none⟩) λ p113=>
ldI .i64 H112 p113 λ n114=>
AAc k KE KR k (some ⟨b,0,none⟩) (some ⟨pw,0,none⟩) (i:Int) (some ⟨M,0,none⟩) (some ⟨M+1,0,none⟩) (some ⟨M+2,0,none⟩) (u:Int) q109 l110 c111 n114 0 H112)=rr:=by
  intro R K KE KR rr h
  refine AAA ((e2 _ _).trans (AAA (go_i (f1.sees.cell 5) (AAC (AAA (AAH (hx 2) (AAH (hx 3) (AAH (hx 4) (AAH (hx 5) (AAH (hx 6) ((eP _ _).trans (AAA (go_i (x1.sees.cell 6) ?_)))))))))))))
  exact (eL _ _ _).trans h
 unfold lB3
 by_cases k2:r3.1≠0
 . rw [if_pos k2]
   obtain ⟨y1,y2,a,b',q,l,c,y3⟩:=xL k2
   refine ⟨a,b',q,l,c,H4,λ R K=> start R _ _ (go_f (bne_eq_false_iff_eq.2 k10) ?_),⟨by have:=Z3.1;omega,λ j hj h=> by rw [y2 j (by omega) (zwne h) (by omega) (by omega),Z3.2 j hj h]⟩,λ h=> (k2 h).elim⟩
   rw [hu]
   refine start3 R K _ _ _ ?_
   rw [if_pos k2]
   exact AAJ (y3.sees.cell 0) (AAJ (y3.sees.cell 1) (AAY (y3.sees.cell 2) rfl))
 rw [if_neg k2]
 have k20:r3.1=0:=Classical.byContradiction k2
 obtain ⟨qv,cv,L2⟩:=yL k20
 obtain ⟨i1,i2,i3⟩:=hR k20
 have hsh:=L2.shows
 have w0:=L2.st x0 (by omega) (by omega)
 have w1:=L2.st x1 (by omega) (by omega)
 have lL:=L2.len
 have e3:=AYO (k:=k) (by omega) V hpl (more:=u) (by omega) cp ⟨hPs.1, .inr BP.below⟩ hqn x1 hpM i1 i2 i3 L2 (some ⟨b,0,none⟩) (i:Int) (some ⟨M,0,none⟩)
 have Z4:Zm M z H H4:=⟨by have:=Z3.1;omega,λ j hj h=> by rw [L2.fr j (by omega) (zwne h) (by omega),Z3.2 j hj h]⟩
 by_cases k3:bad v u ps r3.2.1=true
 . rw [if_pos k3]
   obtain ⟨H5,e5,B5⟩:=ret6 L2.c.o w0
   refine ⟨planes,p.1,qv,r3.2.1.length,cv,H5,λ R K=> start R _ _ (go_f (bne_eq_false_iff_eq.2 k10) ?_),Z4.trans (.of_but B5 (by omega) (.inr (by omega))),λ h=> by cases h⟩
   rw [hu]
   refine start3 R K _ _ _ ?_
   rw [if_neg k2]
   refine (e3 _ _).trans (go_t k3 ?_)
   exact e5 R λ a b q l c H=> K a b q l c 15 H
 rw [if_neg k3]
 have k30:bad v u ps r3.2.1=false:=by simpa using k3
 have S4:RT z g n b Q kb kz P H4 bl tr layer dec:=S3.same (λ j hj h h3 _=> L2.fr j hj (λ e=> h3 (by rw [e];exact zw)) λ e=> h (by rw [e];exact zM.2.2)) hn
 have hsb:=ARt r3.2.1 i3
 obtain ⟨H5,e5,S5,B5⟩:=AYW (k:=k) (by omega) hn S4 (λ j hj=> zf j (by omega)) h0 hlen (pl:=planes) (np:=p.1) (c:=cv) hsh.1 i3 (by omega) (λ a ha=> zf _ (by have:=hsh.2 a ha;omega)) (more:=u) (by omega) ⟨by have:=V.b1;omega,by omega⟩ ⟨by omega,by omega⟩
 obtain ⟨_,zk,_⟩:=S4.krow h0
 have nk:∀ {t:Nat},z t=99->t≠kb:=λ h e=> by rw [e,zk] at h;omega
 have g0:=w0.but B5 (nk zM.1)
 have g2:=L2.c.o.but B5 (nk zM.2.2)
 obtain ⟨H6,e6,B6⟩:=ret6 g2 g0
 have l5:=B5.1
 have hqz:∀a,qv=some a->z a.block=99:=λ a ha=> zf _ (by have:=hsh.2 a ha;omega)
 refine ⟨planes,p.1,qv,r3.2.1.length,cv,H6,λ R K=> start R _ _ (go_f (bne_eq_false_iff_eq.2 k10) ?_),(Z4.trans (.of_but B5 (by omega) (.inl (by omega)))).trans (.of_but B6 (by omega) (.inr (by omega))),λ _=> ⟨rfl,rfl,rfl,(hsh.1.but B5 λ a ha=> nk (hqz a ha)).but B6 (λ a ha=> by have:=hsh.2 a ha;omega),(λ a ha=> by have:=hsh.2 a ha;have:=B6.1;omega),S5.loc B6 zM.1 hn,(L2.rd.but B5 (λ e=> by rw [e,zk] at zw;omega) λ a ha e=> by have:=(zr a ha).1;rw [e,zk] at this;omega).but B6 (by omega) λ a ha=> (hqM a ha).1⟩⟩
 rw [hu]
 refine start3 R K _ _ _ ?_
 rw [if_neg k2]
 refine (e3 _ _).trans (go_f k30 ?_)
 refine AAJ (L2.c.o.sees.cell 0) (AAJ (L2.c.o.sees.cell 1) (AAY (L2.c.o.sees.cell 2) ((e5 _ _).trans ?_)))
 exact e6 R λ a b q l c H=> K a b q l c 0 H
end
open Go.Proofs.Ytmanlfonppfhaaa.FW Go.IntWalk
theorem Ab3 {g:Sg} {layer:Int} {tr:Trs} {v:Bs} {s:Ps} (hi:v.inc=true):cB g layer tr v s=((cI g layer tr v s).1,(cI g layer tr v s).2.1,(cI g layer tr v s).2.2.1,v.planes,(cI g layer tr v s).2.2.2):=by
 unfold cB cI
 rw [if_pos hi,if_pos hi]
theorem Ab2 {g:Sg} {layer:Int} {tr:Trs} {v:Bs} {s:Ps} (hi:¬ v.inc=true):cB g layer tr v s=if (cI g layer tr v s).1≠0 then ((cI g layer tr v s).1,false,tr,0,(cI g layer tr v s).2.2.2) else if (cI g layer tr v s).2.1=false then (0,false,(cI g layer tr v s).2.2.1,v.planes,(cI g layer tr v s).2.2.2) else
 cB3 g v (cI g layer tr v s).2.2.1 (zl g.bs (g.sz v.band) (g.pl v.band) v.x v.y (g.pl v.band).toNat 1 ((cI g layer tr v s).2.2.1 (2 * v.band+1)) (cI g layer tr v s).2.2.2):=by
 unfold cB cI
 rw [if_neg hi,if_neg hi]
 generalize tdec g.bs (g.sz v.band) (tr (2 * v.band)) v.x v.y (layer+1) s=D
 unfold cB2 cI2
 by_cases k1:D.1.2≠0
 . rw [if_pos k1,if_pos k1,if_pos k1]
 rw [if_neg k1,if_neg k1]
 by_cases k2:D.1.1=false
 . rw [if_pos k2,if_pos k2,if_neg (by simp),if_pos rfl]
 rw [if_neg k2,if_neg k2]
 by_cases k3:leafL (tnx D) (g.sz v.band) v.x v.y < layer
 . rw [if_pos k3,if_pos k3,if_pos (by simp)]
 . rw [if_neg k3,if_neg k3,if_neg (by simp),if_neg (by simp)]
   simp only
   rw [AQQ _ _ (show 2 * v.band+1≠2 * v.band by omega)]
section
variable {z:Nat->Nat} {g:Sg} {n b:Nat} {Q:Qs} {kb kz:Nat} {P:Nat->Nat} {layer:Int} {dec:Bool}
set_option maxHeartbeats 400000 in
theorem AU4 {k:Nat} (hk:100000 < k) (hgk:g.kk=k) (hn:n<=3) (G:GOk g n) {H:Heap} {bl:List Bs} {tr:Trs} {s:Ps} (S:RT z g n b Q kb kz P H bl tr layer dec) {pw:Nat} {qw:Oa} (W:Rd H pw qw g.bs s) (zw:z pw=3) (zr:∀a,qw=some a->z a.block=4/\a.block < H.length) (zf:∀j,H.length<=j->z j=99) (hly:0<=layer/\layer<=15) {i:Nat} {v:Bs} (h0:bl[i]? =some v) (V:VOk g n v) (hlen:bl.length<=65536):
 ∃n1 n2 q l c H' z',(∀(R:Type) (K:Int->Int->Oa->Nat->Nat->Int->Heap->Option R),ACg k (some ⟨b,0,none⟩) (some ⟨pw,0,none⟩) (i:Int) H K=K n1 n2 q l c (r1C g v (cB g layer tr v s)).1 H')/\Zs z H z' H'/\
  ((r1C g v (cB g layer tr v s)).1=0->n1=(r1C g v (cB g layer tr v s)).2.2.1.1/\n2=(r1C g v (cB g layer tr v s)).2.2.1.2.1/\l=(r1C g v (cB g layer tr v s)).2.2.1.2.2.length/\Shows H' q (ints (r1C g v (cB g layer tr v s)).2.2.1.2.2)/\(∀a,q=some a->H.length<=a.block/\z' a.block=99/\a.block < H'.length)/\RT z' g n b Q kb kz P H' (bl.set i (r1C g v (cB g layer tr v s)).2.1) (r1C g v (cB g layer tr v s)).2.2.2.1 layer dec/\Rd H' pw qw g.bs (r1C g v (cB g layer tr v s)).2.2.2.2):=by
 obtain ⟨M,hM⟩:∃M,M=H.length:=⟨_,rfl⟩
 have hlt:=(List.getElem?_eq_some_iff.1 h0).1
 obtain ⟨H5,hH5⟩:∃H5,H5=H++ [some (⟨[.int .i64 0, .int .i64 0, .slice none 0 0],false,0⟩:Blk)]:=⟨_,rfl⟩
 obtain ⟨H7,hH7⟩:∃H7,H7=H5++ [some (⟨bkr v,false,0⟩:Blk)]:=⟨_,rfl⟩
 obtain ⟨H8,hH8⟩:∃H8,H8=H7++ [some (⟨[.int .i64 v.planes, .int .i64 0, .slice none 0 0],false,0⟩:Blk)]:=⟨_,rfl⟩
 have l5:H5.length=M+1:=by rw [hH5];simp [hM]
 have l7:H7.length=M+2:=by rw [hH7];simp [l5]
 have l8:H8.length=M+3:=by rw [hH8];simp [l7]
 have o5:Old H.length H H5:=hH5 ▸ Old.app _ _
 have o7:Old H5.length H5 H7:=hH7 ▸ Old.app _ _
 have o8:Old H7.length H7 H8:=hH8 ▸ Old.app _ _
 have o08:Old H.length H H8:=o5.trans ((o7.mono (by omega)).trans (o8.mono (by omega)))
 have A0:Owns H8 M [.int .i64 0, .int .i64 0, .slice none 0 0] 0:=by
  have:Owns H5 M [.int .i64 0, .int .i64 0, .slice none 0 0] 0:=by rw [hH5,hM];exact AAI H _
  exact (this.old o7 (by omega)).old o8 (by omega)
 have A17:Owns H7 (M+1) (bkr v) 0:=by rw [hH7,←l5];exact AAI H5 _
 have A1:=A17.old o8 (by omega)
 have A2:Owns H8 (M+2) [.int .i64 v.planes, .int .i64 0, .slice none 0 0] 0:=by rw [hH8,←l7];exact AAI H7 _
 have S5:=S.keep o5 hn
 obtain ⟨eqk,zk,_⟩:=S.krow h0
 have mk:hcell H5 b 9=some (.slice (some ⟨kb,0,none⟩) bl.length Q.ck):=by rw [←eqk];exact S5.o.sees.cell 9
 have hid:∀(R:Type) (K:Oa->Option R),hidx (some ⟨kb,0,none⟩) bl.length (i:Int) 8 K=K (some ⟨kb,i * 8,none⟩):=λ R K=> by
  unfold hidx;simp only;rw [if_pos ⟨by omega,by omega⟩,Int.toNat_natCast,Nat.zero_add]
 have mc:∀j,j < 8->hcell H5 kb (i * 8+j)=(bkr v)[j]? :=λ j hj=> S5.cell h0 hj
 have S8:=S.keep o08 hn
 have W8:=W.keep o08
 have zf8:∀j,H8.length<=j->z j=99:=λ j hj=> zf j (by omega)
 have zM:z M=99/\z (M+1)=99/\z (M+2)=99:=⟨zf _ (by omega),zf _ (by omega),zf _ (by omega)⟩
 have hpl:=W.lt
 obtain ⟨H9,z9,e9,Z9,r9⟩:=AYU hk hn S8 W8 zw (λ a ha=> ⟨(zr a ha).1,by have:=(zr a ha).2;omega⟩) zf8 hly h0 V hlen
 have l9:=Z9.len
 have B0:=Owns.zs A0 Z9 zM.1
 have B1:=Owns.zs A1 Z9 zM.2.1
 have B2:=Owns.zs A2 Z9 zM.2.2
 have hz9:∀j,j < M+3->z9 j=z j:=λ j hj=> Z9.e j (.inl (by omega))
 have Z09:Zs z H z9 H9:=(Zs.of_old o08).trans Z9
 have zw9:z9 pw=3:=by rw [hz9 pw (by omega)];exact zw
 have zr9:∀a,qw=some a->z9 a.block=4/\a.block < M:=λ a ha=> by
  have:=zr a ha
  rw [hz9 _ (by omega)]
  omega
 have zM9:z9 M=99/\z9 (M+1)=99/\z9 (M+2)=99:=by rw [hz9 M (by omega),hz9 (M+1) (by omega),hz9 (M+2) (by omega)];exact zM
 have zf9:=Z9.zf zf8
 have hcB:cB g layer tr v s=if v.inc=true then ((cI g layer tr v s).1,(cI g layer tr v s).2.1,(cI g layer tr v s).2.2.1,v.planes,(cI g layer tr v s).2.2.2) else if (cI g layer tr v s).1≠0 then ((cI g layer tr v s).1,false,tr,0,(cI g layer tr v s).2.2.2) else if (cI g layer tr v s).2.1=false then (0,false,(cI g layer tr v s).2.2.1,v.planes,(cI g layer tr v s).2.2.2) else
  cB3 g v (cI g layer tr v s).2.2.1 (zl g.bs (g.sz v.band) (g.pl v.band) v.x v.y (g.pl v.band).toNat 1 ((cI g layer tr v s).2.2.1 (2 * v.band+1)) (cI g layer tr v s).2.2.2):=by
  by_cases hi:v.inc=true
  . rw [if_pos hi];exact Ab3 hi
  . rw [if_neg hi];exact Ab2 hi
 have hbd:=AZF G (layer:=layer) (tr:=tr) (s:=s) V
 generalize cI g layer tr v s=C at e9 r9 hcB
 generalize hc:cB g layer tr v s=c at hcB hbd ⊢
 have front:∀(R:Type) (K2:Oa->Oa->Oa->Bool->Int->Heap->Option R) (rr:Option R),K2 (some ⟨M,0,none⟩) (some ⟨M+1,0,none⟩) (some ⟨M+2,0,none⟩) C.2.1 C.1 H9=rr->(hal H [.int .i64 0,.int .i64 0,.slice none 0 0] λ p4 H5=>
hnil (some ⟨b,0,none⟩) λ p6=>
hfad 9 p6 λ p7=>
ldL H5 p7 λ q8 l9 c10=>
hidx q8 l9 (i:Int) 8 λ p11=>
ldI .i64 H5 (pad p11 0) λ n12=>
ldI .i64 H5 (pad p11 1) λ n13=>
ldI .i64 H5 (pad p11 2) λ n14=>
ldB H5 (pad p11 3) λ t15=>
ldI .i64 H5 (pad p11 4) λ n16=>
ldI .i64 H5 (pad p11 5) λ n17=>
ldI .i64 H5 (pad p11 6) λ n18=>
ldI .i64 H5 (pad p11 7) λ n19=>
hal H5 [.int .i64 0,.int .i64 0,.int .i64 0,.bool false,.int .i64 0,.int .i64 0,.int .i64 0,.int .i64 0] λ p20 H21=>
hst H21 p20 [.int .i64 n12,.int .i64 n13,.int .i64 n14,.bool t15,.int .i64 n16,.int .i64 n17,.int .i64 n18,.int .i64 n19] λ H22=>
hfad 4 p20 λ p23=>
ldI .i64 H22 p23 λ n24=>
hal H22 [.int .i64 0,.int .i64 0,.slice none 0 0] λ p25 H26=>
hst H26 p25 [.int .i64 n24,.int .i64 0,.slice none 0 0] λ H27=>
ABE k (some ⟨b,0,none⟩) (some ⟨pw,0,none⟩) (i:Int) H27 (K2 p4 p20 p25))=rr:=by
  intro R K2 rr h
  refine AAD hH5 ?_
  rw [←hM]
  refine (AAC (AAA (go_l mk ((hid _ _).trans (AAJ (mc 0 (by omega)) (AAJ (mc 1 (by omega)) (AAJ (mc 2 (by omega)) (AAH (mc 3 (by omega)) (AAJ (mc 4 (by omega)) (AAJ (mc 5 (by omega)) (AAJ (mc 6 (by omega)) (AAJ (mc 7 (by omega)) (AAW hH7 rfl rfl ?_)))))))))))))
  rw [l5]
  refine AAA (go_i (A17.sees.cell 4) (AAW hH8 rfl rfl ?_))
  rw [l7]
  exact (e9 _ _).trans h
 by_cases ht:C.1≠0∨C.2.1=false
 ·
  obtain ⟨H10,e10,B10⟩:=ret6 B2 B0
  have hcc:(c.1=C.1/\c.1≠0)∨(C.1=0/\c.1=0/\c.2.1=false/\c.2.2.1=C.2.2.1/\c.2.2.2.2=C.2.2.2):=by
   rw [hcB]
   by_cases hi:v.inc=true
   . rw [if_pos hi]
     by_cases h1:C.1≠0
     . exact .inl ⟨rfl,h1⟩
     . have h10:C.1=0:=Classical.byContradiction h1
       exact .inr ⟨h10,h10,ht.resolve_left h1,rfl,rfl⟩
   . rw [if_neg hi]
     by_cases h1:C.1≠0
     . rw [if_pos h1];exact .inl ⟨rfl,h1⟩
     . rw [if_neg h1,if_pos (ht.resolve_left h1)]
       exact .inr ⟨Classical.byContradiction h1,rfl,rfl,rfl,rfl⟩
  have hr1:(r1C g v c).1=C.1:=by
   unfold r1C
   rcases hcc with ⟨h1,h2⟩|⟨h1,h2,h3,_⟩
   . rw [if_pos h2];exact h1
   . rw [if_neg (λ h=> h h2),if_pos h3];exact h1.symm
  refine ⟨v.planes,0,none,0,0,H10,z9,λ R K=> ?_,⟨⟨by have:=B10.1;omega,λ j hj h=> by rw [B10.2 j (by omega) (by omega),Z09.k.2 j hj h]⟩,λ j hj=> Z09.e j (by have:=B10.1;omega)⟩,λ h=> ?_⟩
  . rw [hr1]
    unfold ACg AEn
    refine front R _ _ ?_
    unfold AA7 ADE
    by_cases h1:C.1≠0
    . refine go_t (bne_iff_ne.2 h1) (go_t rfl ?_)
      exact e10 R λ a b q l c H=> K a b q l c C.1 H
    . have h2:=ht.resolve_left h1
      refine go_f (bne_eq_false_iff_eq.2 (Classical.byContradiction h1)) (go_t (by rw [h2];rfl) ?_)
      exact e10 R λ a b q l c H=> K a b q l c C.1 H
  . rw [hr1] at h
    rcases hcc with ⟨h1,h2⟩|⟨_,h2,h3,h4,h5⟩
    . exact (h2 (h1.trans h)).elim
    . obtain ⟨S9,W9⟩:=r9 h
      unfold r1C
      rw [if_neg (λ h=> h h2),if_pos h3]
      simp only
      rw [h4,h5,AKj h0]
      exact ⟨trivial,trivial,rfl, .inl rfl,(λ a ha=> by cases ha),S9.loc B10 zM9.1 hn,W9.but B10 (by omega) λ a ha=> by have:=zr9 a ha;omega⟩
 have h1:C.1=0:=Classical.byContradiction λ h=> ht (.inl h)
 have h2:C.2.1=true:=by
  cases h:C.2.1
  . exact (ht (.inr h)).elim
  . rfl
 obtain ⟨S9,W9⟩:=r9 h1
 by_cases hi:v.inc=true
 . rw [if_pos hi] at hcB
   have hc1:c.1=0:=by rw [hcB];exact h1
   have hc2:c.2.1=true:=by rw [hcB];exact h2
   have hc3:c.2.2.1=C.2.2.1/\c.2.2.2.1=v.planes/\c.2.2.2.2=C.2.2.2:=by rw [hcB];exact ⟨rfl,rfl,rfl⟩
   obtain ⟨n1,n2,q,l,cap,H10,e10,Z10,r10⟩:=ARw hk hgk hn S9 W9 zw9 (M:=M) zr9 zf9 (by omega) (by omega) zM9 h0 V hlen V.p0 V.p1 B0 B1 B2
   unfold r1C
   rw [if_neg (λ h=> h hc1),if_neg (by rw [hc2];simp),hc3.1,hc3.2.1,hc3.2.2]
   have hzz:Zs z H z9 H10:=⟨⟨by have:=Z10.1;omega,λ j hj h=> by rw [Z10.2 j (by omega) (by rw [hz9 j (by omega)];exact h),Z09.k.2 j hj h]⟩,λ j hj=> Z09.e j (by have:=Z10.1;omega)⟩
   generalize lB g v.planes v C.2.2.2=L at e10 r10 ⊢
   unfold r1L
   have hfr:∀(R:Type) (K:Int->Int->Oa->Nat->Nat->Int->Heap->Option R),ACg k (some ⟨b,0,none⟩) (some ⟨pw,0,none⟩) (i:Int) H K=K n1 n2 q l cap L.1 H10:=by
    intro R K
    unfold ACg AEn
    refine front R _ _ ?_
    unfold AA7 ADE
    refine go_f (bne_eq_false_iff_eq.2 h1) (go_f (by rw [h2];rfl) ?_)
    unfold ABW AGI
    refine AAA (go_b (B1.sees.cell 3) (go_f (by rw [hi];rfl) ?_))
    exact e10 R K
   by_cases k1:L.1≠0
   . rw [if_pos k1]
     exact ⟨n1,n2,q,l,cap,H10,z9,hfr,hzz,λ h=> (k1 h).elim⟩
   . rw [if_neg k1]
     have k10:L.1=0:=Classical.byContradiction k1
     obtain ⟨y1,y2,y3,y4,y5,y6,y7⟩:=r10 k10
     rw [k10] at hfr
     exact ⟨n1,n2,q,l,cap,H10,z9,hfr,hzz,λ _=> ⟨y1,y2,y3,y4,λ a ha=> by have:=y5 a ha;exact ⟨by omega,zf9 _ (by omega),by omega⟩,y6,y7⟩⟩
 . rw [if_neg hi,if_neg (λ h=> h h1),if_neg (by rw [h2];simp)] at hcB
   have hi0:v.inc=false:=by simpa using hi
   obtain ⟨H10,z10,e10,Z10,r10⟩:=Aaw hk hn V (G.pl v.band V.b) S9 W9 zw9 (λ a ha=> ⟨(zr9 a ha).1,by have:=(zr9 a ha).2;omega⟩) zf9
   have hZb:=AZL g.bs (g.sz v.band) (g.pl v.band) v.x v.y (g.pl v.band).toNat 1 (C.2.2.1 (2 * v.band+1)) C.2.2.2 (by omega) (by have:=G.pl v.band V.b;omega)
   generalize zl g.bs (g.sz v.band) (g.pl v.band) v.x v.y (g.pl v.band).toNat 1 (C.2.2.1 (2 * v.band+1)) C.2.2.2=Y at e10 r10 hcB hZb
   have l10:=Z10.len
   have C0:=Owns.zs B0 Z10 zM9.1
   have C1:=Owns.zs B1 Z10 zM9.2.1
   have C2:=Owns.zs B2 Z10 zM9.2.2
   obtain ⟨H11,e11,D2,E11,n11⟩:=C2.st1 (o:=0) (by simp) (.int .i64 Y.2.2.1)
   have D2':Owns H11 (M+2) [.int .i64 Y.2.2.1, .int .i64 0, .slice none 0 0] 0:=D2
   have D0:=C0.but E11 (by omega)
   have D1:=C1.but E11 (by omega)
   have l11:=E11.1
   have hz10:∀j,j < M+3->z10 j=z j:=λ j hj=> by rw [Z10.e j (.inl (by omega))];exact hz9 j hj
   have Zb:Zs z H z10 H11:=by
    have Zx:=Z09.trans Z10
    exact ⟨⟨by omega,λ j hj h=> by rw [E11.2 j (by omega) (by omega),Zx.k.2 j hj h]⟩,λ j hj=> Zx.e j (by omega)⟩
   have q1:∀o,hcell H9 (M+1) o=(bkr v)[o]? :=λ o=> B1.sees.cell o
   have front2:∀(R:Type) (KN:Oa->Oa->Int->Oa->Oa->Oa->Heap->Option R) (KR:Oa->Int->Heap->Option R) (rr:Option R),(bif (Y.1 !=0) then (ldI .i64 H11 (pad (some ⟨M+2,0,none⟩) 0) λ n22=>
ldI .i64 H11 (pad (some ⟨M+2,0,none⟩) 1) λ n23=>
ldL H11 (pad (some ⟨M+2,0,none⟩) 2) λ q24 l25 c26=>
hst H11 (some ⟨M,0,none⟩) [.int .i64 n22,.int .i64 n23,.slice q24 l25 c26] λ H27=>
KR (some ⟨M,0,none⟩) Y.1 H27)
 else
    (KN (some ⟨b,0,none⟩) (some ⟨pw,0,none⟩) (i:Int) (some ⟨M,0,none⟩) (some ⟨M+1,0,none⟩) (some ⟨M+2,0,none⟩) H11))=rr->ABW k (some ⟨b,0,none⟩) (some ⟨pw,0,none⟩) (i:Int) (some ⟨M,0,none⟩) (some ⟨M+1,0,none⟩) (some ⟨M+2,0,none⟩) H9 KN KR=rr:=by
    intro R KN KR rr h
    unfold ABW AGI
    refine AAA (go_b (q1 3) (go_t (by rw [hi0];rfl) ?_))
    refine AAJ (q1 0) (AAJ (q1 1) (AAJ (q1 2) (AAH (q1 3) (AAJ (q1 4) (AAJ (q1 5) (AAJ (q1 6) (AAJ (q1 7) ((e10 _ _).trans (AAA ((e11 _ _).trans h))))))))))
   unfold cB3 at hcB
   by_cases k0:Y.1≠0
   . rw [if_pos k0] at hcB
     have hc1:c.1=Y.1:=by rw [hcB]
     unfold r1C
     rw [if_pos (by rw [hc1];exact k0),hc1]
     obtain ⟨H12,e12,B12⟩:=ret6 D2' D0
     refine ⟨Y.2.2.1,0,none,0,0,H12,z10,λ R K=> ?_,⟨⟨by have:=B12.1;omega,λ j hj h=> by rw [B12.2 j (by omega) (by omega),Zb.k.2 j hj h]⟩,λ j hj=> Zb.e j (by have:=B12.1;omega)⟩,λ h=> (k0 h).elim⟩
     unfold ACg AEn
     refine front R _ _ ?_
     unfold AA7 ADE
     refine go_f (bne_eq_false_iff_eq.2 h1) (go_f (by rw [h2];rfl) ?_)
     refine front2 R _ _ _ (go_t (bne_iff_ne.2 k0) ?_)
     exact e12 R λ a b q l c H=> K a b q l c Y.1 H
   rw [if_neg k0] at hcB
   have k00:Y.1=0:=Classical.byContradiction k0
   obtain ⟨S10,W10⟩:=r10 k00
   have hYb:=hZb k00
   have hGp:=G.pl v.band V.b
   have hc1:c.1=0:=by rw [hcB]
   have hc2:c.2.1=true:=by rw [hcB]
   have hc3:c.2.2.1=upT C.2.2.1 (2 * v.band+1) Y.2.1/\c.2.2.2.1=Y.2.2.1/\c.2.2.2.2=Y.2.2.2:=by rw [hcB];exact ⟨rfl,rfl,rfl⟩
   have zM10:z10 M=99/\z10 (M+1)=99/\z10 (M+2)=99:=by rw [hz10 M (by omega),hz10 (M+1) (by omega),hz10 (M+2) (by omega)];exact zM
   have zr10:∀a,qw=some a->z10 a.block=4/\a.block < M:=λ a ha=> by
    have:=zr a ha
    rw [hz10 _ (by omega)]
    omega
   have zf10:∀j,H11.length<=j->z10 j=99:=λ j hj=> Z10.zf zf9 j (by omega)
   have S11:=S10.loc E11 zM10.2.2 hn
   have W11:=W10.but E11 (by omega) λ a ha=> by have:=zr10 a ha;omega
   obtain ⟨n1,n2,q,l,cap,H12,e12,Z12,r12⟩:=ARw hk hgk hn S11 W11 (by rw [hz10 pw (by omega)];exact zw) (M:=M) zr10 zf10 (by omega) (by omega) zM10 h0 V hlen (planes:=Y.2.2.1) (by omega) (by omega) D0 D1 D2'
   unfold r1C
   rw [if_neg (λ h=> h hc1),if_neg (by rw [hc2];simp),hc3.1,hc3.2.1,hc3.2.2]
   have hzz:Zs z H z10 H12:=⟨⟨by have:=Z12.1;omega,λ j hj h=> by rw [Z12.2 j (by omega) (by rw [hz10 j (by omega)];exact h),Zb.k.2 j hj h]⟩,λ j hj=> Zb.e j (by have:=Z12.1;omega)⟩
   generalize lB g Y.2.2.1 v Y.2.2.2=L at e12 r12 ⊢
   unfold r1L
   have hfr:∀(R:Type) (K:Int->Int->Oa->Nat->Nat->Int->Heap->Option R),ACg k (some ⟨b,0,none⟩) (some ⟨pw,0,none⟩) (i:Int) H K=K n1 n2 q l cap L.1 H12:=by
    intro R K
    unfold ACg AEn
    refine front R _ _ ?_
    unfold AA7 ADE
    refine go_f (bne_eq_false_iff_eq.2 h1) (go_f (by rw [h2];rfl) ?_)
    refine front2 R _ _ _ (go_f (bne_eq_false_iff_eq.2 k00) ?_)
    exact e12 R K
   by_cases k1:L.1≠0
   . rw [if_pos k1]
     exact ⟨n1,n2,q,l,cap,H12,z10,hfr,hzz,λ h=> (k1 h).elim⟩
   . rw [if_neg k1]
     have k10:L.1=0:=Classical.byContradiction k1
     obtain ⟨y1,y2,y3,y4,y5,y6,y7⟩:=r12 k10
     rw [k10] at hfr
     exact ⟨n1,n2,q,l,cap,H12,z10,hfr,hzz,λ _=> ⟨y1,y2,y3,y4,λ a ha=> by have:=y5 a ha;exact ⟨by omega,zf10 _ (by omega),by omega⟩,y6,y7⟩⟩
end
open Go.Proofs.Ytmanlfonppfhaaa.FW Go.IntWalk
structure CX (H:Heap) (X:Nat->Prop) (d:Cr) (c:Con):Prop where
 p:d.1=c.1
 n:d.2.1=c.2.1
 l:d.2.2.2.1=c.2.2.length
 s:Shows H d.2.2.1 (ints c.2.2)
 b:∀a,d.2.2.1=some a->X a.block
def CLx (H:Heap) (X:Nat->Prop):List Cr->List Con->Prop
 | [], []=> True
 |d::ds,c::cs=> CX H X d c/\CLx H X ds cs
 |_,_=> False
theorem CLx.of {H:Heap} {N:Nat}:∀ {ds:List Cr} {cs:List Con},CLs H N ds cs->CLx H (λ _=> True) ds cs:=by
 intro ds
 induction ds with
 |nil=> intro cs h;cases cs with
  |nil=> trivial
  |cons c cs=> exact h.elim
 |cons d ds ih=> intro cs h;cases cs with
  |nil=> exact h.elim
  |cons c cs=> exact ⟨⟨h.1.p,h.1.n,h.1.l,h.1.s,λ _ _=> trivial⟩,ih h.2⟩
theorem CLx.len {H:Heap} {X:Nat->Prop}:∀ {ds:List Cr} {cs:List Con},CLx H X ds cs->ds.length=cs.length:=by
 intro ds
 induction ds with
 |nil=> intro cs h;cases cs with
  |nil=> rfl
  |cons c cs=> exact h.elim
 |cons d ds ih=> intro cs h;cases cs with
  |nil=> exact h.elim
  |cons c cs=> rw [List.length_cons,List.length_cons,ih h.2]
theorem CLx.same {H H':Heap} {X Y:Nat->Prop} (s:∀j,j < H.length->X j->hblk H' j=hblk H j/\Y j) (e:∀j,H.length<=j->X j->Y j):∀ {ds:List Cr} {cs:List Con},CLx H X ds cs->CLx H' Y ds cs:=by
 intro ds
 induction ds with
 |nil=> intro cs h;cases cs with
  |nil=> trivial
  |cons c cs=> exact h.elim
 |cons d ds ih=> intro cs h;cases cs with
  |nil=> exact h.elim
  |cons c cs=>
   refine ⟨⟨h.1.p,h.1.n,h.1.l, ?_,λ a ha=> ?_⟩,ih h.2⟩
   . rcases h.1.s with h1|⟨b',o,full,h1,h2,h3⟩
     . exact .inl h1
     . refine (show Shows H _ _ from .inr ⟨b',o,full,h1,h2,h3⟩).same λ a ha=> ?_
       have hb:=h.1.b a ha
       have hlt:=h2.lt
       rw [h1] at ha
       cases ha
       exact (s _ hlt hb).1
   . by_cases hlt:a.block < H.length
     . exact (s _ hlt (h.1.b a ha)).2
     . exact e _ (by omega) (h.1.b a ha)
theorem CLx.snoc {H:Heap} {X:Nat->Prop}:∀ {ds:List Cr} {cs:List Con} {d:Cr} {c:Con},CLx H X ds cs->CX H X d c->CLx H X (ds++ [d]) (cs++ [c]):=by
 intro ds
 induction ds with
 |nil=> intro cs d c h hc;cases cs with
  |nil=> exact ⟨hc,trivial⟩
  |cons c cs=> exact h.elim
 |cons d' ds ih=> intro cs d c h hc;cases cs with
  |nil=> exact h.elim
  |cons c' cs=> exact ⟨h.1,ih h.2 hc⟩
def psum (cs:List Con):Int:=(cs.map λ c=> c.2.1).sum
def cOk (cs:List Con):Prop:=∀c∈cs,0<=c.2.1/\c.2.1<=178
theorem ATM (cs:List Con) (c:Con):psum (cs++ [c])=psum cs+c.2.1:=by unfold psum;simp
theorem ATN:∀(cs:List Con),cOk cs->0<=psum cs/\psum cs<=cs.length * 178:=by
 intro cs
 induction cs with
 |nil=> intro _;simp [psum]
 |cons c cs ih=>
  intro h
  have h1:=h c (by simp)
  have:=ih λ x hx=> h x (List.mem_cons_of_mem _ hx)
  have e:psum (c::cs)=c.2.1+psum cs:=by simp [psum]
  rw [e,List.length_cons]
  push_cast
  omega
theorem AU8:∀(cs:List Con),cOk cs->(psum cs==0)= !fnd cs:=by
 intro cs
 induction cs with
 |nil=> intro _;rfl
 |cons c cs ih=>
  intro h
  have h1:=h c (by simp)
  have hb:=ATN cs λ x hx=> h x (List.mem_cons_of_mem _ hx)
  have:=ih λ x hx=> h x (List.mem_cons_of_mem _ hx)
  have e:psum (c::cs)=c.2.1+psum cs:=by simp [psum]
  have e2:fnd (c::cs)=((c.2.1 !=0)||fnd cs):=rfl
  rw [e,e2]
  by_cases h0:c.2.1=0
  . rw [h0,Int.zero_add,this];rfl
  . rw [show (c.2.1 !=0)=true from bne_iff_ne.2 h0,Bool.true_or]
    exact beq_eq_false_iff_ne.2 (by omega)
theorem AVa {cs:List Con} {c:Con} (h:cOk cs) (hc:0<=c.2.1/\c.2.1<=178):cOk (cs++ [c]):=λ x hx=> by
 rcases List.mem_append.1 hx with h1|h1
 . exact h x h1
 . rw [List.mem_singleton.1 h1];exact hc
structure Zt (M:Nat) (z:Nat->Nat) (H:Heap) (z':Nat->Nat) (H':Heap):Prop where
 l:H.length<=H'.length
 s:∀j,j < M->(z j=99∨z j=1)->hblk H' j=hblk H j
 e:∀j,j < M∨H'.length<=j->z' j=z j
theorem Zt.refl (M:Nat) (z:Nat->Nat) (H:Heap):Zt M z H z H:=⟨Nat.le_refl _,λ _ _ _=> rfl,λ _ _=> rfl⟩
theorem Zt.trans {M:Nat} {z1 z2 z3:Nat->Nat} {H1 H2 H3:Heap} (a:Zt M z1 H1 z2 H2) (b:Zt M z2 H2 z3 H3):Zt M z1 H1 z3 H3:=by
 have h1:=a.l
 have h2:=b.l
 refine ⟨by omega,λ j hj h=> ?_,λ j hj=> ?_⟩
 . rw [b.s j hj (by rw [a.e j (.inl hj)];exact h),a.s j hj h]
 . rcases hj with hj|hj
   . rw [b.e j (.inl hj),a.e j (.inl hj)]
   . rw [b.e j (.inr hj),a.e j (.inr (by omega))]
theorem Zt.of_old {M:Nat} {z:Nat->Nat} {H H':Heap} (o:Old H.length H H') (h:M<=H.length):Zt M z H z H':=⟨o.1,λ j hj _=> o.2 j (by omega),λ _ _=> rfl⟩
theorem Zt.of_but {M:Nat} {z:Nat->Nat} {b:Nat} {H H':Heap} (o:But b H H') (hM:M<=H.length) (h:(z b≠99/\z b≠1)∨M<=b):Zt M z H z H':=⟨o.1,(Zm.of_but o hM h).2,λ _ _=> rfl⟩
section
variable {g:Sg} {n b:Nat} {Q:Qs} {kb kz:Nat} {P:Nat->Nat} {layer:Int} {dec:Bool}
theorem AYR {k:Nat} (hk:100000 < k) (hgk:g.kk=k) (hn:n<=3) (G:GOk g n) {z:Nat->Nat} {H:Heap} {bl:List Bs} {tr:Trs} {s:Ps} (S:RT z g n b Q kb kz P H bl tr layer dec) {pw:Nat} {qw:Oa} (W:Rd H pw qw g.bs s) (zw:z pw=3) (zr:∀a,qw=some a->z a.block=4/\a.block < H.length) (zf:∀j,H.length<=j->z j=99) (hly:0<=layer/\layer<=15) {bit:Int} (hbit:bit=0∨bit=1) {i:Nat} {v:Bs} (h0:bl[i]? =some v) (V:VOk g n v) (hlen:bl.length<=65536) {A:Nat} (OA:Owns H A [.int .i64 v.planes, .int .i64 0, .slice none 0 0] 0) (zA:z A=99) (q2:Oa) (l3 c4:Nat) (n7:Int):
 ∃n1 n2 q l c H' z',(∀(R:Type) (KN:Oa->Oa->Nat->Nat->Oa->Int->Int->Int->Oa->Heap->Option R) (KR:Oa->Nat->Nat->Int->Int->Heap->Option R),ABK k (some ⟨b,0,none⟩) q2 l3 c4 (some ⟨pw,0,none⟩) bit n7 (i:Int) (some ⟨A,0,none⟩) H KN KR=if (rd1 g layer bit tr v s).1≠0 then KR none 0 0 0 (rd1 g layer bit tr v s).1 H' else KN (some ⟨b,0,none⟩) q2 l3 c4 (some ⟨pw,0,none⟩) bit n7 (i:Int) (some ⟨A,0,none⟩) H')/\H.length<=H'.length/\(∀j,j < H.length->(z j=99∨z j=1)->j≠A->hblk H' j=hblk H j)/\(∀j,j < H.length∨H'.length<=j->z' j=z j)/\
  ((rd1 g layer bit tr v s).1=0->Owns H' A [.int .i64 n1, .int .i64 n2, .slice q l c] 0/\n1=(rd1 g layer bit tr v s).2.2.1.1/\n2=(rd1 g layer bit tr v s).2.2.1.2.1/\l=(rd1 g layer bit tr v s).2.2.1.2.2.length/\Shows H' q (ints (rd1 g layer bit tr v s).2.2.1.2.2)/\(∀a,q=some a->H.length<=a.block/\z' a.block=99/\a.block < H'.length)/\RT z' g n b Q kb kz P H' (bl.set i (rd1 g layer bit tr v s).2.1) (rd1 g layer bit tr v s).2.2.2.1 layer dec/\Rd H' pw qw g.bs (rd1 g layer bit tr v s).2.2.2.2):=by
 unfold rd1
 have hAl:=OA.lt
 by_cases hb:bit=0
 . rw [if_pos hb]
   refine ⟨v.planes,0,none,0,0,H,z,λ R KN KR=> ?_,Nat.le_refl _,λ _ _ _ _=> rfl,λ _ _=> rfl,λ _=> ⟨OA,rfl,rfl,rfl, .inl rfl,(λ a ha=> by cases ha),by rw [AKj h0];exact S,W⟩⟩
   rw [if_neg (λ h=> h rfl)]
   unfold ABK AFE
   exact go_f (beq_eq_false_iff_ne.2 (by omega)) rfl
 rw [if_neg hb]
 have hb1:bit=1:=by omega
 obtain ⟨n1,n2,q,l,c,H1,z1,e1,Z1,r1⟩:=AU4 hk hgk hn G S W zw zr zf hly h0 V hlen
 have l1:=Z1.len
 have O1:=Owns.zs OA Z1 zA
 obtain ⟨H2,e2,O2,n2',s2⟩:=AKR (o:=0) (vs:= [.int .i64 n1, .int .i64 n2, .slice q l c]) O1 (by simp) rfl
 have O2':Owns H2 A [.int .i64 n1, .int .i64 n2, .slice q l c] 0:=O2
 have B2:But A H1 H2:=⟨by omega,λ j _ h=> s2 j h⟩
 generalize r1C g v (cB g layer tr v s)=r at e1 r1 ⊢
 refine ⟨n1,n2,q,l,c,H2,z1,λ R KN KR=> ?_,by omega,λ j hj h h'=> by rw [s2 j h',Z1.k.2 j hj h],λ j hj=> Z1.e j (by omega),λ h=> ?_⟩
 . unfold ABK AFE
   refine go_t (beq_iff_eq.2 hb1) ((e1 _ _).trans ((e2 _ _).trans ?_))
   by_cases hc:r.1≠0
   . rw [if_pos hc];exact go_t (bne_iff_ne.2 hc) rfl
   . rw [if_neg hc];exact go_f (bne_eq_false_iff_eq.2 (Classical.byContradiction hc)) rfl
 . obtain ⟨y1,y2,y3,y4,y5,y6,y7⟩:=r1 h
   have zA1:z1 A=99:=by rw [Z1.e A (.inl hAl)];exact zA
   refine ⟨O2',y1,y2,y3,y4.but B2 (λ a ha=> by have:=y5 a ha;omega),(λ a ha=> by have:=y5 a ha;omega),y6.loc B2 zA1 hn,y7.but B2 (λ e=> ?_) λ a ha e=> ?_⟩
   . rw [e,zA] at zw;omega
   . have:=(zr a ha).1
     rw [e,zA] at this;omega
theorem Aa2 {k:Nat} (hk:100000 < k) (hgk:g.kk=k) (hn:n<=3) (G:GOk g n) {pw:Nat} {qw:Oa} {M len:Nat} (hlen:len<=65536) (hly:0<=layer/\layer<=15) {bit:Int} (hbit:bit=0∨bit=1):
 ∀(m f i:Nat),m < f->len=i+m->∀(z:Nat->Nat) (bl:List Bs) (H:Heap) (tr:Trs) (s:Ps) (D:List Cr) (cs:List Con) (q:Oa) (c:Nat),bl.length=len->D.length=i->RT z g n b Q kb kz P H bl tr layer dec->Rd H pw qw g.bs s->z pw=3->(∀a,qw=some a->z a.block=4/\a.block < H.length)->(∀j,H.length<=j->z j=99)->(∀v∈bl,VOk g n v)->M<=H.length->Bld M 3 H q i c (D.flatMap cc)->(∀a,q=some a->z a.block=99)->CLx H (λ j=> z j=99/\M<=j/\j < H.length/\∀a,q=some a->a.block≠j) D cs->cOk cs->
 ∃H' z' q' c',(∀(R:Type) (KE:Oa->Oa->Nat->Nat->Oa->Int->Int->Heap->Option R) (KR:Oa->Nat->Nat->Int->Int->Heap->Option R),AAh k KE KR f (some ⟨b,0,none⟩) q i c (some ⟨pw,0,none⟩) bit (psum cs) (i:Int) H=if (rdA g layer bit m i bl tr s cs).1≠0 then KR none 0 0 0 (rdA g layer bit m i bl tr s cs).1 H' else KE (some ⟨b,0,none⟩) q' len c' (some ⟨pw,0,none⟩) bit (psum (rdA g layer bit m i bl tr s cs).2.2.2.2) H')/\Zt M z H z' H'/\
  ((rdA g layer bit m i bl tr s cs).1=0->RT z' g n b Q kb kz P H' (rdA g layer bit m i bl tr s cs).2.1 (rdA g layer bit m i bl tr s cs).2.2.1 layer dec/\Rd H' pw qw g.bs (rdA g layer bit m i bl tr s cs).2.2.2.1/\z' pw=3/\(∀v∈(rdA g layer bit m i bl tr s cs).2.1,VOk g n v)/\(rdA g layer bit m i bl tr s cs).2.1.length=len/\cOk (rdA g layer bit m i bl tr s cs).2.2.2.2/\∃D',Shows H' q' (D'.flatMap cc)/\D'.length=len/\(∀a,q'=some a->z' a.block=99/\M<=a.block)/\CLx H' (λ j=> z' j=99/\M<=j) D' (rdA g layer bit m i bl tr s cs).2.2.2.2):=by
 intro m
 induction m with
 |zero=>
  intro f i hf hi z bl H tr s D cs q c hbl hD S W zw zr zf hV hM B zq C hc
  obtain ⟨f,rfl⟩:∃n',f=n'+1:=⟨f - 1,by omega⟩
  have m9:hcell H b 9=some (.slice Q.qk bl.length Q.ck):=S.o.sees.cell 9
  rw [rdA]
  obtain rfl:i=len:=by omega
  refine ⟨H,z,q,c,λ R KE KR=> ?_, .refl _ _ _,λ _=> ⟨S,W,zw,hV,hbl,hc,D,B.shows.1,hD,(λ a ha=> ⟨zq a ha,by
   rcases B with ⟨h1,_⟩|⟨b',h1,_,h3,_⟩
   . rw [h1] at ha;cases ha
   . rw [h1] at ha;cases ha;exact h3⟩),C.same (λ j _ h=> ⟨rfl,h.1,h.2.1⟩) λ j _ h=> ⟨h.1,h.2.1⟩⟩⟩
  rw [if_neg (λ h=> h rfl)]
  unfold AAh AFG
  exact AAC (AAA (go_l m9 (go_f (decide_eq_false (by omega)) rfl)))
 |succ m ih=>
  intro f i hf hi z bl H tr s D cs q c hbl hD S W zw zr zf hV hM B zq C hc
  obtain ⟨f,rfl⟩:∃n',f=n'+1:=⟨f - 1,by omega⟩
  obtain ⟨v,hv⟩:=AKx (l:=bl) (i:=i) (by omega)
  have V:=hV v (List.mem_of_getElem? hv)
  obtain ⟨eqk,zk,_⟩:=S.krow hv
  have m9:hcell H b 9=some (.slice (some ⟨kb,0,none⟩) bl.length Q.ck):=by rw [←eqk];exact S.o.sees.cell 9
  have m4:hcell H kb (i * 8+4)=some (.int .i64 v.planes):=S.cell hv (j:=4) (by omega)
  have hid:∀(R:Type) (K:Oa->Option R),hidx (some ⟨kb,0,none⟩) bl.length (i:Int) 8 K=K (some ⟨kb,i * 8,none⟩):=λ R K=> by
   unfold hidx;simp only;rw [if_pos ⟨by omega,by omega⟩,Int.toNat_natCast,Nat.zero_add]
  obtain ⟨H1,hH1⟩:∃H1,H1=H++ [some (⟨[.int .i64 v.planes, .int .i64 0, .slice none 0 0],false,0⟩:Blk)]:=⟨_,rfl⟩
  have o1:Old H.length H H1:=hH1 ▸ Old.app _ _
  have O1:Owns H1 H.length [.int .i64 v.planes, .int .i64 0, .slice none 0 0] 0:=by rw [hH1];exact AAI H _
  have l1:H1.length=H.length+1:=by rw [hH1];simp
  have S1:=S.keep o1 hn
  have zA:=zf H.length (Nat.le_refl _)
  obtain ⟨n1,n2,ql,ll,cl,H2,z2,e2,l2,f2,g2,r2⟩:=AYR hk hgk hn G S1 (W.keep o1) zw (λ a ha=> ⟨(zr a ha).1,by have:=(zr a ha).2;omega⟩) (λ j hj=> zf j (by omega)) hly hbit hv V (by omega) O1 zA q i c (psum cs)
  have hb1:=ATH G (layer:=layer) (bit:=bit) (tr:=tr) (s:=s) V
  have hE:=ARV (g:=g) (layer:=layer) (bit:=bit) (tr:=tr) (s:=s) (cs:=cs) m hv
  have hO:=ATG (g:=g) (layer:=layer) (bit:=bit) (tr:=tr) (s:=s) (cs:=cs) m hv
  obtain ⟨r,hr⟩:∃r,r=rd1 g layer bit tr v s:=⟨_,rfl⟩
  rw [←hr] at e2 r2 hb1 hE hO
  have Zh:Zt M z H z2 H2:=⟨by omega,λ j hj h=> by rw [f2 j (by omega) h (by omega),o1.2 j (by omega)],λ j hj=> g2 j (by omega)⟩
  have front:∀(R:Type) (KE:Oa->Oa->Nat->Nat->Oa->Int->Int->Heap->Option R) (KR:Oa->Nat->Nat->Int->Int->Heap->Option R) (rr:Option R),(if r.1≠0 then KR none 0 0 0 r.1 H2 else (hfad 1 (some ⟨H.length,0,none⟩) λ p49=>
ldI .i64 H2 p49 λ n50=>
ldI .i64 H2 (pad (some ⟨H.length,0,none⟩) 0) λ n51=>
ldI .i64 H2 (pad (some ⟨H.length,0,none⟩) 1) λ n52=>
ldL H2 (pad (some ⟨H.length,0,none⟩) 2) λ q53 l54 c55=>
hal H2 [.int .i64 n51,.int .i64 n52,.slice q53 l54 c55] λ p56 H57=>
happS 3 40 H57 q i c p56 1 λ q58 l59 c60 H61=>
AAh k KE KR f (some ⟨b,0,none⟩) q58 l59 c60 (some ⟨pw,0,none⟩) bit (IntKind.wrap .i64 (psum cs+n50)) (IntKind.wrap .i64 ((i:Int)+1)) H61))=rr->AAh k KE KR (f+1) (some ⟨b,0,none⟩) q i c (some ⟨pw,0,none⟩) bit (psum cs) (i:Int) H=rr:=by
   intro R KE KR rr h
   rw [AAh]
   unfold AFG
   refine AAC (AAA (go_l m9 (go_t (decide_eq_true (by omega)) (AAC (AAA (go_l m9 ((hid _ _).trans (AAA (go_i m4 (AAW hH1 rfl rfl ?_))))))))))
   exact (e2 _ _ _).trans h
  by_cases c1:r.1≠0
  . rw [hE c1]
    refine ⟨H2,z2,none,0,λ R KE KR=> front R KE KR _ ?_,Zh,λ h=> (c1 h).elim⟩
    rw [if_pos c1,if_pos c1]
  . rw [hO c1]
    have c10:r.1=0:=Classical.byContradiction c1
    obtain ⟨O2,y1,y2,y3,y4,y5,y6,y7⟩:=r2 c10
    obtain ⟨V2,b1,b2,_⟩:=hb1 c10
    have hql:∀a,q=some a->a.block < H.length:=λ a ha=> B.below a ha
    have hBq:∀a,q=some a->hblk H2 a.block=hblk H a.block:=λ a ha=> by
     have:=hql a ha
     rw [f2 a.block (by omega) (.inl (zq a ha)) (by omega),o1.2 a.block this]
    have B2:Bld M 3 H2 q i c (D.flatMap cc):=Bld.same B hBq
    obtain ⟨H3,hH3⟩:∃H3,H3=H2++ [some (⟨[.int .i64 n1, .int .i64 n2, .slice ql ll cl],false,0⟩:Blk)]:=⟨_,rfl⟩
    have o3:Old H2.length H2 H3:=hH3 ▸ Old.app _ _
    have O3:Owns H3 H2.length (cc (n1,n2,ql,ll,cl)) 0:=by rw [hH3];exact AAI H2 _
    have l3:H3.length=H2.length+1:=by rw [hH3];simp
    obtain ⟨H4,e4,O4,f4,n4,x4⟩:=Bld.app2 (B2.old o3 (Nat.le_refl _)) (bytes:=40) (n:=1) O3.sees.shows (by rw [ANi,Nat.one_mul]) (by omega) (by omega)
    have hcat:D.flatMap cc++cc (n1,n2,ql,ll,cl)=(D++ [(n1,n2,ql,ll,cl)]).flatMap cc:=by simp
    rw [hcat] at O4 x4
    have zq2:∀a,q=some a->z2 a.block=99:=λ a ha=> by rw [g2 _ (.inl (by have:=hql a ha;omega))];exact zq a ha
    have st4:∀j,j < H3.length->z2 j≠99->hblk H4 j=hblk H3 j:=λ j hj h=> f4 j hj λ a ha e=> h (by rw [←e];exact zq2 a ha)
    have zf2:∀j,H2.length<=j->z2 j=99:=λ j hj=> by rw [g2 j (.inr hj)];exact zf j (by omega)
    have S4:RT z2 g n b Q kb kz P H4 (bl.set i r.2.1) r.2.2.2.1 layer dec:=(y6.keep o3 hn).same (λ j hj h _ _=> st4 j hj h) hn
    have hpw:=W.lt
    have zw2:z2 pw=3:=by rw [g2 pw (.inl (by omega))];exact zw
    have zr2:∀a,qw=some a->z2 a.block=4/\a.block < H2.length:=λ a ha=> by
     have:=zr a ha
     rw [g2 _ (.inl (by omega))];omega
    have W4:Rd H4 pw qw g.bs r.2.2.2.2:=(y7.keep o3).same (st4 pw (by omega) (by omega)) λ a ha=> by have:=zr2 a ha;exact st4 _ (by omega) (by omega)
    have C4:CLx H4 (λ j=> z2 j=99/\M<=j/\j < H4.length/\∀a,some (⟨H3.length,0,none⟩:Addr)=some a->a.block≠j) (D++ [(n1,n2,ql,ll,cl)]) (cs++ [r.2.2.1]):=by
     refine CLx.snoc (C.same (λ j hj h=> ⟨?_,by rw [g2 j (.inl (by omega))];exact h.1,h.2.1,by omega,λ a ha=> by cases ha;simp only;omega⟩) λ j hj h=> by omega) ⟨y1,y2,y3,(y4.keep o3).same λ a ha=> f4 a.block (by have:=y5 a ha;omega) λ a' ha' e=> by have:=y5 a ha;have:=hql a' ha';omega,λ a ha=> ⟨(y5 a ha).2.1,by have:=y5 a ha;omega,by have:=y5 a ha;omega,λ a' ha'=> by cases ha';have:=y5 a ha;simp only;omega⟩⟩
     rw [f4 j (by omega) h.2.2.2,o3.2 j (by omega),f2 j (by omega) (.inl h.1) (by omega),o1.2 j hj]
    obtain ⟨H5,z5,q5,c5,e5,Z5,r5⟩:=ih f (i+1) (by omega) (by omega) z2 (bl.set i r.2.1) H4 r.2.2.2.1 r.2.2.2.2 (D++ [(n1,n2,ql,ll,cl)]) (cs++ [r.2.2.1]) (some ⟨H3.length,0,none⟩) unk (by rw [List.length_set];exact hbl) (by simp [hD]) S4 W4 zw2 (λ a ha=> ⟨(zr2 a ha).1,by have:=(zr2 a ha).2;omega⟩) (λ j hj=> zf2 j (by omega)) (λ u hu=> by
     rcases ARZ hu with h|h
     . exact hV u h
     . rw [h];exact V2) (by omega) (.inr ⟨_,rfl,rfl,by omega,O4,x4⟩) (λ a ha=> by cases ha;exact zf2 _ (by simp only;omega)) C4 (AVa hc ⟨b1,b2⟩)
    have Zx:Zt M z2 H2 z2 H4:=⟨by omega,λ j hj h=> by rw [f4 j (by omega) (λ a ha e=> by
     rcases B with ⟨h1,_⟩|⟨b',h1,_,h3,_⟩
     . rw [h1] at ha;cases ha
     . rw [h1] at ha;cases ha;simp only at e;omega),o3.2 j (by omega)],λ _ _=> rfl⟩
    refine ⟨H5,z5,q5,c5,λ R KE KR=> front R KE KR _ ?_,(Zh.trans Zx).trans Z5,r5⟩
    rw [if_neg c1]
    have hpb:=ATN cs hc
    have hcl:=C.len
    refine AAA (go_i (O2.sees.cell 1) (AAJ (O2.sees.cell 0) (AAJ (O2.sees.cell 1) (AAY (O2.sees.cell 2) (AAD hH3 ((e4 _ _).trans ?_))))))
    rw [w64 (n:=(i:Int)+1) (by omega) (by omega),w64 (n:=psum cs+n2) (by omega) (by omega),y2,←ATM]
    exact e5 R KE KR
end
open Go.Proofs.Ytmanlfonppfhaaa.FW Go.IntWalk
section
variable {z:Nat->Nat} {g:Sg} {n b:Nat} {Q:Qs} {kb kz:Nat} {P:Nat->Nat} {H:Heap} {bl:List Bs} {tr:Trs} {layer:Int} {dec:Bool}
theorem ATe {k:Nat} (hk:100000 < k) (hgk:g.kk=k) (hn:n<=3) (G:GOk g n) (S:RT z g n b Q kb kz P H bl tr layer dec) (zf:∀j,H.length<=j->z j=99) (hly:0<=layer/\layer<=15) (hV:∀v∈bl,VOk g n v) (hlen:bl.length<=65536) {q:Oa} (c:Nat) (hS:Shows H q (byt g.bs)) (hb:Byts g.bs):
 ∃H' z' q' c',(∀(R:Type) (K:Oa->Nat->Nat->Int->Int->Heap->Option R),ACW k (some ⟨b,0,none⟩) q g.bs.length c H K=if (hdr g layer bl tr).1≠0 then K none 0 0 0 (hdr g layer bl tr).1 H' else K q' bl.length c' (hdr g layer bl tr).2.2.1 0 H')/\Zt H.length z H z' H'/\
  ((hdr g layer bl tr).1=0->RT z' g n b Q kb kz P H' (hdr g layer bl tr).2.2.2.1 (hdr g layer bl tr).2.2.2.2 (layer+1) true/\(∀v∈(hdr g layer bl tr).2.2.2.1,VOk g n v)/\(hdr g layer bl tr).2.2.2.1.length=bl.length/\∃D,Shows H' q' (D.flatMap cc)/\D.length=bl.length/\(∀a,q'=some a->z' a.block=99/\H.length<=a.block)/\CLx H' (λ j=> z' j=99/\H.length<=j) D (hdr g layer bl tr).2.1):=by
 obtain ⟨p,q1,H1,e1,W1,o1,hp,hq1⟩:=ASN c hS hb
 have hl1:=o1.1
 have hpl:=W1.lt
 obtain ⟨z1,hz1⟩:∃z1:Nat->Nat,z1=λ j=> if j=p then 3 else if q1.map Addr.block=some j then 4 else z j:=⟨_,rfl⟩
 have hmap:∀j,j < H.length∨H1.length<=j->¬ (q1.map Addr.block=some j):=λ j hj hh=> by
  cases hq:q1 with
  |none=> rw [hq] at hh;cases hh
  |some a=>
   have:=hq1 a hq
   rw [hq] at hh
   simp only [Option.map_some,Option.some.injEq] at hh
   omega
 have z1n:∀j,j < H.length∨H1.length<=j->z1 j=z j:=λ j hj=> by
  rw [hz1];simp only
  rw [if_neg (by omega),if_neg (hmap j hj)]
 have S1:RT z1 g n b Q kb kz P H1 bl tr layer dec:=(S.keep o1 hn).zone (λ j hj=> by
  by_cases h:j < H.length
  . exact z1n j (.inl h)
  . exact (hj (zf j (by omega))).elim) hn
 have zw:z1 p=3:=by rw [hz1];exact if_pos rfl
 have zr:∀a,q1=some a->z1 a.block=4/\a.block < H1.length:=λ a ha=> by
  have:=hq1 a ha
  refine ⟨?_,by omega⟩
  rw [hz1];simp only
  rw [if_neg (by omega),if_pos (by rw [ha];rfl)]
 have zf1:∀j,H1.length<=j->z1 j=99:=λ j hj=> by rw [z1n j (.inr hj)];exact zf j (by omega)
 have Z1:Zt H.length z H z1 H1:=⟨hl1,λ j hj _=> o1.2 j hj,λ j hj=> z1n j hj⟩
 obtain ⟨H2,e2,W2,B2⟩:=AMe k W1
 have S2:=S1.rd B2 zw hn
 have b2:=B2.1
 have Z2:Zt H.length z H z1 H2:=Z1.trans (.of_but B2 (by omega) (.inl (by omega)))
 unfold hdr
 have hbit:=ALN g.bs (0,0)
 generalize rget g.bs (0,0)=r at e2 W2 hbit ⊢
 unfold hd1
 by_cases c1:r.1.2≠0
 . rw [if_pos c1]
   refine ⟨H2,z1,none,0,λ R K=> ?_,Z2,λ h=> (c1 h).elim⟩
   rw [if_pos c1]
   unfold ACW AGv
   exact (e1 _ _).trans ((e2 _ _).trans (go_t (bne_iff_ne.2 c1) rfl))
 rw [if_neg c1]
 have c10:r.1.2=0:=Classical.byContradiction c1
 obtain ⟨H3,z3,q3,c3,e3,Z3,r3⟩:=Aa2 hk hgk hn G (layer:=layer) (dec:=dec) (M:=H2.length) hlen hly (bit:=r.1.1) hbit.1 bl.length k 0 (by omega) (by omega) z1 bl H2 tr r.2 [] [] none 0 rfl rfl S2 W2 zw (λ a ha=> ⟨(zr a ha).1,by have:=(zr a ha).2;omega⟩) (λ j hj=> zf1 j (by omega)) hV (Nat.le_refl _) (Bld.nil _ _ _) (λ a ha=> by cases ha) trivial (λ c hc=> by cases hc)
 have l3:=Z3.l
 have Z03:Zt H.length z H z3 H3:=⟨by omega,λ j hj h=> by rw [Z3.s j (by omega) (by rw [z1n j (.inl hj)];exact h),Z2.s j hj h],λ j hj=> by rw [Z3.e j (by omega),z1n j (by omega)]⟩
 simp only [Int.natCast_zero] at e3
 have hps0:psum []=0:=rfl
 rw [hps0] at e3
 generalize rdA g layer r.1.1 bl.length 0 bl tr r.2 []=A at e3 r3 ⊢
 unfold hd2
 have start2:∀(R:Type) (K:Oa->Nat->Nat->Int->Int->Heap->Option R) (rr:Option R),(if A.1≠0 then K none 0 0 0 A.1 H3 else (ABJ k (some ⟨b,0,none⟩) q3 bl.length c3 (some ⟨p,0,none⟩) r.1.1 (psum A.2.2.2.2) (λ p40 q41 l42 c43 p44=>
ABt k p44 H3 λ n45 n46 H47=>
bif (n46 !=0) then (K none 0 0 0 n46 H47)
 else (hnil p40 λ p48=>
hfad 10 p48 λ p49=>
ldI .i64 H47 p49 λ n50=>
hnil p40 λ p51=>
hfad 10 p51 λ p52=>
hst1 H47 p52 (.int .i64 (IntKind.wrap .i64 (n50+1))) λ H53=>
hnil p40 λ p54=>
hfad 12 p54 λ p55=>
hst1 H53 p55 (.bool true) λ H56=>
K q41 l42 c43 n45 0 H56)) (λ q57 l58 c59 n60 n61=>
K q57 l58 c59 n60 n61 H3)))=rr->ACW k (some ⟨b,0,none⟩) q g.bs.length c H K=rr:=by
  intro R K rr h
  unfold ACW AGv
  exact (e1 _ _).trans ((e2 _ _).trans (go_f (bne_eq_false_iff_eq.2 c10) ((e3 _ _ _).trans h)))
 by_cases c2:A.1≠0
 . rw [if_pos c2]
   refine ⟨H3,z3,none,0,λ R K=> start2 R K _ ?_,Z03,λ h=> (c2 h).elim⟩
   rw [if_pos c2,if_pos c2]
 rw [if_neg c2]
 have c20:A.1=0:=Classical.byContradiction c2
 obtain ⟨S3,W3,zw3,V3,n3,ck3,D,hD,d3,zq3,C3⟩:=r3 c20
 have hpf:=AU8 _ ck3
 by_cases c3':r.1.1=1/\fnd A.2.2.2.2=false
 . rw [if_pos c3']
   refine ⟨H3,z3,none,0,λ R K=> start2 R K _ ?_,Z03,λ h=> by cases h⟩
   rw [if_neg c2,if_pos (by simp)]
   unfold ABJ AFC
   exact go_t (beq_iff_eq.2 c3'.1) (go_t (by rw [hpf,c3'.2];rfl) rfl)
 rw [if_neg c3']
 obtain ⟨H4,e4,W4,B4⟩:=AS5 k W3
 have S4:=S3.rd B4 zw3 hn
 have b4:=B4.1
 have nz:∀ {j:Nat},z3 j=99->j≠p:=λ h e=> by rw [e,zw3] at h;omega
 have hD4:Shows H4 q3 (D.flatMap cc):=hD.but B4 λ a ha=> nz (zq3 a ha).1
 have C4:CLx H4 (λ j=> z3 j=99/\H.length<=j) D A.2.2.2.2:=C3.same (λ j hj h=> ⟨B4.2 j hj (nz h.1),h.1,by omega⟩) λ j _ h=> ⟨h.1,by omega⟩
 have Z4:Zt H.length z H z3 H4:=Z03.trans (.of_but B4 (by omega) (.inl (by omega)))
 have start3:∀(R:Type) (K:Oa->Nat->Nat->Int->Int->Heap->Option R) (rr:Option R),(bif ((rA g.bs A.2.2.2.1).1.2 !=0) then (K none 0 0 0 (rA g.bs A.2.2.2.1).1.2 H4)
 else (hnil (some ⟨b,0,none⟩) λ p48=>
hfad 10 p48 λ p49=>
ldI .i64 H4 p49 λ n50=>
hnil (some ⟨b,0,none⟩) λ p51=>
hfad 10 p51 λ p52=>
hst1 H4 p52 (.int .i64 (IntKind.wrap .i64 (n50+1))) λ H53=>
hnil (some ⟨b,0,none⟩) λ p54=>
hfad 12 p54 λ p55=>
hst1 H53 p55 (.bool true) λ H56=>
K q3 bl.length c3 (rA g.bs A.2.2.2.1).1.1 0 H56))=rr->ACW k (some ⟨b,0,none⟩) q g.bs.length c H K=rr:=by
  intro R K rr h
  refine start2 R K _ ?_
  rw [if_neg c2]
  unfold ABJ AFC
  by_cases hr1:r.1.1=1
  . have hf:fnd A.2.2.2.2=true:=by
     cases hh:fnd A.2.2.2.2
     . exact (c3' ⟨hr1,hh⟩).elim
     . rfl
    exact go_t (beq_iff_eq.2 hr1) (go_f (by rw [hpf,hf];rfl) ((e4 _ _).trans h))
  . exact go_f (beq_eq_false_iff_ne.2 hr1) ((e4 _ _).trans h)
 generalize rA g.bs A.2.2.2.1=a at start3 W4 ⊢
 unfold hd3
 by_cases c4:a.1.2≠0
 . rw [if_pos c4]
   refine ⟨H4,z3,none,0,λ R K=> start3 R K _ ?_,Z4,λ h=> (c4 h).elim⟩
   rw [if_pos c4]
   exact go_t (bne_iff_ne.2 c4) rfl
 rw [if_neg c4]
 have c40:a.1.2=0:=Classical.byContradiction c4
 have x10:hcell H4 b 10=some (.int .i64 layer):=S4.o.sees.cell 10
 have wl:IntKind.wrap .i64 (layer+1)=layer+1:=w64 (by omega) (by omega)
 obtain ⟨H5,e5,O5,B5,n5⟩:=S4.o.st1 (o:=10) (by simp [sR']) (.int .i64 (layer+1))
 have S5:RT z3 g n b Q kb kz P H5 A.2.1 A.2.2.1 (layer+1) dec:=S4.head hn O5 B5
 obtain ⟨H6,e6,O6,B6,n6⟩:=S5.o.st1 (o:=12) (by simp [sR']) (.bool true)
 have S6:RT z3 g n b Q kb kz P H6 A.2.1 A.2.2.1 (layer+1) true:=S5.head hn O6 B6
 have zb:=S6.zb
 have nb:∀ {j:Nat},z3 j=99->j≠b:=λ h e=> by rw [e,zb] at h;omega
 refine ⟨H6,z3,q3,c3,λ R K=> start3 R K _ ?_,(Z4.trans (.of_but B5 (by omega) (.inl (by omega)))).trans (.of_but B6 (by omega) (.inl (by omega))),λ _=> ⟨S6,V3,n3,D,(hD4.but B5 λ a ha=> nb (zq3 a ha).1).but B6 λ a ha=> nb (zq3 a ha).1,d3,(λ a ha=> by have:=zq3 a ha;exact ⟨this.1,by omega⟩),C4.same (λ j hj h=> ⟨by rw [B6.2 j (by omega) (nb h.1),B5.2 j hj (nb h.1)],h⟩) λ j _ h=> h⟩⟩
 rw [if_neg (λ h=> h rfl)]
 refine go_f (bne_eq_false_iff_eq.2 c40) (AAC (AAA (go_i x10 (AAC (AAA ?_)))))
 rw [wl]
 exact (e5 _ _).trans (AAC (AAA ((e6 _ _).trans rfl)))
end
open Go.Proofs.Ytmanlfonppfhaaa.FW Go.IntWalk
structure Tv (H:Heap) (p bq:Nat) (c:Nat) (l:List Lv) (e d:Bool) (g:Gn):Prop where
 o:Sees H p [.slice (some ⟨bq,0,none⟩) l.length c, .bool e, .bool d]
 b:Sees H bq (lcs l)
 n:∀(i:Nat) (v:Lv),l[i]? =some v->Sees H v.b (nds (v.w * v.h) (g i))
theorem Tv.low {M:Nat} {H H':Heap} {p bq:Nat} {c:Nat} {l:List Lv} {e d:Bool} {g:Gn} (T:Tv H p bq c l e d g) (o:Old M H H') (hLo:p < M/\bq < M/\∀(j:Nat) (v:Lv),l[j]? =some v->v.b < M):Tv H' p bq c l e d g:=⟨T.o.old o hLo.1,T.b.old o hLo.2.1,λ i v hv=> (T.n i v hv).old o (hLo.2.2 i v hv)⟩
theorem Tv.keep {H H':Heap} {p bq:Nat} {c:Nat} {l:List Lv} {e d:Bool} {g:Gn} (T:Tv H p bq c l e d g) (o:Old H.length H H'):Tv H' p bq c l e d g:=T.low o ⟨T.o.lt,T.b.lt,λ j v hv=> (T.n j v hv).lt⟩
theorem Tv.ro {H:Heap} {p bq:Nat} {c:Nat} {l:List Lv} {e d:Bool} {g:Gn} (T:Tv H p bq c l e d g):Tv (roH H) p bq c l e d g:=⟨T.o.ro,T.b.ro,λ i v hv=> (T.n i v hv).ro⟩
theorem Tv.of {N:Nat} {H:Heap} {p:Nat} {q:Oa} {c:Nat} {l:List Lv} {e d:Bool} {g:Gn} (T:Tn N H p q c l e d g) (hl:1<=l.length):∃bq,q=some ⟨bq,0,none⟩/\Tv H p bq c l e d g:=by
 obtain ⟨bq,rfl,h1,_⟩:=T.row hl
 exact ⟨bq,rfl,T.o.sees,h1.sees,λ i v hv=> (T.n i v hv).1.sees⟩
theorem Tv.lvl {H:Heap} {p bq:Nat} {c:Nat} {l:List Lv} {e d:Bool} {g:Gn} (T:Tv H p bq c l e d g) {i:Nat} {v:Lv} (hv:l[i]? =some v) {j:Nat} (hj:j < 3):hcell H bq (i * 3+j)=(lvc v)[j]? :=by
 rw [T.b.cell]
 exact fm3 lvc (λ _=> rfl) l i v hv j hj
theorem vtok {H:Heap} {p bq:Nat} {c:Nat} {l:List Lv} {e d:Bool} {g:Gn} (T:Tv H p bq c l e d g) (hl:1<=l.length):∀(R:Type) (K:Bool->Option R),AB6 (some ⟨p,0,none⟩) H K=K true:=by
 intro R K
 have m0:hcell H p 0=some (.slice (some ⟨bq,0,none⟩) l.length c):=T.o.cell 0
 have ed:decide (((l.length:Nat):Int) > 0)=true:=decide_eq_true (by omega)
 unfold AB6 AHQ
 refine go_t rfl (AAC (AAA (go_l m0 ?_)))
 rw [ed]
theorem AS2 (k:Nat) {M p pc bq:Nat} {c:Nat} {l:List Lv} {e d:Bool} {g:Nat->Nat->Nd} {a b:Nat} (G:Geo a b l) (hLo:p < M/\bq < M/\∀(j:Nat) (v:Lv),l[j]? =some v->v.b < M):
 ∀(m n i:Nat),m < n->l.length=i+m->∀(H:Heap) (q1:Oa) (c1:Nat) (l1:List Lv),M<=H.length->Tv H p bq c l e d g->Tn M H pc q1 c1 l1 e d g->l1.length=i->(∀(j:Nat) (v:Lv),l1[j]? =some v->v.w=wl a j/\v.h=wl b j)->
 ∃H' q' c' l',(∀(R:Type) (KE:Oa->Heap->Option R),ABB k KE n (some ⟨pc,0,none⟩) (some ⟨bq,0,none⟩) l.length c ((l.length:Nat):Int) (i:Int) H=KE (some ⟨pc,0,none⟩) H')/\Tn M H' pc q' c' l' e d g/\l'.length=l.length/\(∀(j:Nat) (v:Lv),l'[j]? =some v->v.w=wl a j/\v.h=wl b j)/\Old M H H':=by
 intro m
 have hlen:=G.len
 induction m with
 |zero=>
  intro n i hn hi H q1 c1 l1 hM T T1 hl1 hg1
  obtain ⟨n,rfl⟩:∃n',n=n'+1:=⟨n - 1,by omega⟩
  refine ⟨H,q1,c1,l1,λ R KE=> ?_,T1,by omega,hg1, .refl _ _⟩
  unfold ABB AD3
  exact go_f (decide_eq_false (by omega)) rfl
 |succ m ih=>
  intro n i hn hi H q1 c1 l1 hM T T1 hl1 hg1
  obtain ⟨n,rfl⟩:∃n',n=n'+1:=⟨n - 1,by omega⟩
  obtain ⟨v,hv⟩:∃v,l[i]? =some v:=⟨_,List.getElem?_eq_getElem (by omega)⟩
  obtain ⟨e1,e2⟩:=G.lv i v hv
  have hwh:=G.wh i
  have hw1:=AQ6 a i
  have hw2:=AQ6 b i
  have q0:hcell H bq (i * 3+0)=some (.int .i64 (v.w:Int)):=T.lvl hv (j:=0) (by omega)
  have qh:hcell H bq (i * 3+1)=some (.int .i64 (v.h:Int)):=T.lvl hv (j:=1) (by omega)
  have q2:hcell H bq (i * 3+2)=some (.slice (some ⟨v.b,0,none⟩) (v.w * v.h) v.c):=T.lvl hv (j:=2) (by omega)
  obtain ⟨Hn,hHn⟩:∃Hn,Hn=H++ [some (⟨[.int .i64 (v.w:Int), .int .i64 (v.h:Int), .slice (some ⟨v.b,0,none⟩) (v.w * v.h) v.c],false,0⟩:Blk)]:=⟨_,rfl⟩
  have on:Old H.length H Hn:=hHn ▸ Old.app _ _
  have mn:Owns Hn H.length [.int .i64 (v.w:Int), .int .i64 (v.h:Int), .slice (some ⟨v.b,0,none⟩) (v.w * v.h) v.c] 0:=by rw [hHn];exact AAI H _
  have b0:hcell Hn H.length 0=some (.int .i64 (v.w:Int)):=mn.sees.cell 0
  have b1:hcell Hn H.length 1=some (.int .i64 (v.h:Int)):=mn.sees.cell 1
  have b2:hcell Hn H.length 2=some (.slice (some ⟨v.b,0,none⟩) (v.w * v.h) v.c):=mn.sees.cell 2
  have Tn1:=T.keep on
  have T1n:=T1.old on (Nat.le_refl _)
  have pc0:hcell Hn pc 0=some (.slice q1 l1.length c1):=T1n.o.sees.cell 0
  obtain ⟨H1,H2,H3,H4,h1,h2,h3,h4,h5,T4,o4⟩:=ATV T1n (by have:=on.1;omega) (by omega) v.w v.h unk 3
  rw [hl1] at h1
  have hap:∀(R:Type) (K:Oa->Nat->Nat->Heap->Option R),hapnS 3 24 Hn none 0 0 (some ⟨v.b,0,none⟩) (v.w * v.h) K=K (some ⟨Hn.length,0,none⟩) (v.w * v.h) unk H1:=by
   intro R K
   have hs:=(Tn1.n i v hv).shows.hcells
   rw [AMK] at hs
   have hpos:0 < v.w * v.h:=by rw [e1,e2];exact Nat.mul_pos (by omega) (by omega)
   unfold hapnS hapn
   rw [hs]
   simp only
   rw [if_neg (by unfold unk;omega),if_neg (by omega),if_neg (by omega),if_pos (by rw [e1,e2];omega),h1]
   simp [FW.hcells]
  have T4':Tv H4 p bq c l e d g:=Tn1.low o4 hLo
  obtain ⟨H5,q5,c5,l5,e5,T5,n5,g5,o5⟩:=ih n (i+1) (by omega) (by omega) H4 _ _ _ (by have:=o4.1;have:=on.1;omega) T4' T4 (by simp [hl1]) (λ j u hu=> by
   by_cases hj:j < l1.length
   . rw [List.getElem?_append_left hj] at hu;exact hg1 j u hu
   . have hj2:=(List.getElem?_eq_some_iff.1 hu).1
     simp only [List.length_append,List.length_cons,List.length_nil] at hj2
     obtain rfl:j=i:=by omega
     rw [List.getElem?_append_right (by omega),hl1,Nat.sub_self] at hu
     simp at hu
     subst hu
     exact ⟨e1,e2⟩)
  refine ⟨H5,q5,c5,l5,λ R KE=> ?_,T5,n5,g5,(on.mono hM).trans (o4.trans o5)⟩
  unfold ABB AD3
  refine go_t (decide_eq_true (by omega)) ((hidx3 (by omega) _ _).trans (AAJ q0 (AAJ qh (AAY q2 (AAW hHn rfl rfl ?_)))))
  refine AAC (AAA (go_l pc0 (AAA (go_i b0 (AAA (go_i b1 (AAA (go_l b2 ((hap _ _).trans ?_)))))))))
  refine AAD h2 ((h4 _ _).trans (AAC (AAA ((h5 _ _).trans ?_))))
  rw [w64 (n:=(i:Int)+1) (by omega) (by omega)]
  exact e5 R KE
theorem AS3 {k:Nat} (hk:100 < k) {p bq:Nat} {c:Nat} {l:List Lv} {e d:Bool} {g:Nat->Nat->Nd} {a b:Nat} (G:Geo a b l) {H:Heap} (T:Tv H p bq c l e d g):
 ∃H' q' c' l',(∀(R:Type) (K:Oa->Heap->Option R),ADa k (some ⟨p,0,none⟩) H K=K (some ⟨H.length,0,none⟩) H')/\Tn H.length H' H.length q' c' l' e d g/\l'.length=l.length/\Geo a b l'/\Old H.length H H':=by
 have hlen:=G.len
 have ok:=vtok T G.pos
 have m1:hcell H p 1=some (.bool e):=T.o.cell 1
 have m2:hcell H p 2=some (.bool d):=T.o.cell 2
 obtain ⟨H1,hH1⟩:∃H1,H1=H++ [some (⟨[.slice none 0 0, .bool e, .bool d],false,0⟩:Blk)]:=⟨_,rfl⟩
 have o1:Old H.length H H1:=hH1 ▸ Old.app _ _
 have O1:Owns H1 H.length [.slice none 0 0, .bool e, .bool d] 0:=by rw [hH1];exact AAI H _
 have T1:=T.keep o1
 have C1:Tn H.length H1 H.length none 0 [] e d g:=⟨O1,Bld.nil _ _ _,Nat.le_refl _,(λ a ha=> by cases ha),(λ i v hv=> by simp at hv),(λ i j v u hv=> by simp at hv)⟩
 have l1:=o1.1
 obtain ⟨H2,q',c',l',e2,T2,n2,g2,o2⟩:=AS2 k (M:=H.length) G ⟨T.o.lt,T.b.lt,λ j v hv=> (T.n j v hv).lt⟩ l.length k 0 (by omega) (by omega) H1 none 0 [] (by omega) T1 C1 rfl (λ j v hv=> by simp at hv)
 have m0:hcell H1 p 0=some (.slice (some ⟨bq,0,none⟩) l.length c):=T1.o.cell 0
 refine ⟨H2,q',c',l',λ R K=> ?_,T2,n2,⟨G.a1,G.b1,G.ab,G.am,G.bm,by rw [n2];exact G.pos,by rw [n2];exact G.len,g2⟩,o1.trans o2⟩
 unfold ADa AHl
 refine (ok _ _).trans (go_f rfl (AAC (AAA (go_b m1 (AAC (AAA (go_b m2 (AAD hH1 (AAC (AAA (go_l m0 ?_)))))))))))
 exact e2 _ _
theorem ARa {H H4:Heap} {i:Nat} (h:H.length<=i):hblk (H++H4.drop H.length) i=hblk H4 i:=by
 rw [AIH,AIH,List.getElem?_append_right h,List.getElem?_drop,show H.length+(i - H.length)=i from by omega]
theorem cloneT {k:Nat} (hk:100 < k) {z:Nat->Nat} {c:Nat} {H:Heap} {p:Nat} {d:Bool} {g:Gn} (ab:Nat×Nat) (T:ab.1≠0->ZT z c H p ab.1 ab.2 d g):
 ∃H2,(∀(R:Type) (K:Oa->Heap->Option R),ADa k (pp ab p) (roH H) K=K (pp ab H.length) H2)/\Old H.length H (H++H2.drop H.length)/\
  (ab.1≠0->∀(z':Nat->Nat) (c':Nat),(∀j,H.length<=j->j < (H++H2.drop H.length).length->z' j=c')->ZT z' c' (H++H2.drop H.length) H.length ab.1 ab.2 d g):=by
 by_cases h0:ab.1=0
 . refine ⟨roH H,λ R K=> ?_,Old.app _ _,λ h=> (h h0).elim⟩
   unfold pp
   rw [if_pos h0,if_pos h0]
   rfl
 . obtain ⟨q,cc,l,T,G,hl,hg,hz⟩:=(T h0).t
   obtain ⟨bq,rfl,V⟩:=Tv.of T G.pos
   obtain ⟨H2,q',c',l',e2,T2,hl2,G2,o2⟩:=AS3 hk G V.ro
   rw [ANq] at e2 T2 o2
   have hl2':=o2.1
   rw [ANq] at hl2'
   refine ⟨H2,λ R K=> ?_,Old.app _ _,λ _ z' c2 hz'=> ?_⟩
   . rw [AKH p h0,AKH _ h0];exact e2 R K
   . have T3:Tn H.length (H++H2.drop H.length) H.length q' c' l' false d g:=T2.same λ i hi ho=> ARa (T2.ge ho)
     refine ⟨⟨q',c',l',T3.zero,G2,by omega,hg,λ i ho=> hz' i (T3.ge ho) (T3.lt ho)⟩⟩
theorem ATu {size bytes n:Nat} {H:Heap} {q:Oa} {xs:List Value} (b0:Nat) (h:Shows H q xs) (hx:xs.length=n * size) (hb:n * bytes<=35184372088832):∃H' q' c',(∀(R:Type) (K:Oa->Nat->Nat->Heap->Option R),happS size bytes H (some ⟨b0,0,none⟩) 0 0 q n K=K q' n c' H')/\(n=0/\H'=H∨q'=some ⟨H.length,0,none⟩/\H'=H++ [some ⟨xs,false,size⟩]):=by
 have hc:=h.hcells
 rw [hx] at hc
 by_cases h0:n=0
 . subst h0
   refine ⟨H,some ⟨b0,0,none⟩,0,λ R K=> ?_, .inl ⟨rfl,rfl⟩⟩
   unfold happS happ
   rw [hc]
   dsimp only
   rw [if_neg (by unfold unk;omega),if_pos (by omega),if_pos rfl]
 . refine ⟨H++ [some ⟨xs,false,size⟩],some ⟨H.length,0,none⟩,unk,λ R K=> ?_, .inr ⟨rfl,rfl⟩⟩
   unfold happS happ
   rw [hc]
   dsimp only
   have hc2:FW.hcells H (some ⟨b0,0,none⟩) (0 * size)=some []:=by unfold FW.hcells;rw [if_pos (by omega)]
   rw [if_neg (by unfold unk;omega),if_neg (by omega),if_pos (by rw [Nat.zero_add];exact hb),hc2,Nat.zero_add]
   rfl
open Go.Proofs.Ytmanlfonppfhaaa.FW Go.IntWalk
def pt (g:Int×Int):List Value:= [.int .i64 g.1, .int .i64 g.2]
theorem Aa9 (l:List (Int×Int)):(l.flatMap pt).length=l.length * 2:=by
 induction l with
 |nil=> rfl
 |cons x l ih=> rw [List.flatMap_cons,List.length_append,ih,List.length_cons];show 2+_=_;omega
theorem AQs {H:Heap} {q:Oa} {l:List (Int×Int)} (h:Shows H q (l.flatMap pt)) {i:Nat} {g:Int×Int} (hi:l[i]? =some g):
 ∃b o,(∀(R:Type) (K:Oa->Option R),hidx q l.length (i:Int) 2 K=K (some ⟨b,o,none⟩))/\hcell H b (o+0)=some (.int .i64 g.1)/\hcell H b (o+1)=some (.int .i64 g.2):=by
 obtain ⟨b,o,e,m⟩:=ASc (f:=pt) (sz:=2) (λ _=> rfl) (by omega) h (Aa9 l) hi
 exact ⟨b,o,e,m 0 (by omega),m 1 (by omega)⟩
abbrev Gd:=(Int×Int)×Int
def okG (g:Int×Int):Bool:=decide (g.1=0/\g.2=0)||decide (1<=g.1/\g.1<=4096/\1<=g.2/\g.2<=4096)
def okZ (z:Gd):Bool:=okG z.1 && decide (0<=z.2/\z.2<=60)
def sumZ (zs:List Gd):Int:=(zs.map λ z=> z.1.1 * z.1.2).sum
theorem ANr {g:Int×Int} (h:okG g=true):0<=g.1 * g.2/\g.1 * g.2<=16777216/\0<=g.1/\0<=g.2:=by
 unfold okG at h
 simp only [Bool.or_eq_true,decide_eq_true_eq] at h
 rcases h with ⟨h1,h2⟩|⟨h1,h2,h3,h4⟩
 . rw [h1,h2];decide
 . obtain ⟨a,ha⟩:∃a:Nat,g.1=a:=⟨g.1.toNat,by omega⟩
   obtain ⟨b,hb⟩:∃b:Nat,g.2=b:=⟨g.2.toNat,by omega⟩
   rw [ha,hb]
   have:a * b<=4096 * 4096:=Nat.mul_le_mul (by omega) (by omega)
   rw [←Int.natCast_mul];omega
theorem Abi {k:Nat} {H:Heap} {b:Nat} {x y:Int} (m0:hcell H b 0=some (.int .i64 x)) (m1:hcell H b 1=some (.int .i64 y)) (q1:Oa) (l2 c3:Nat) (q4:Oa) (l5 c6:Nat) (p7:Oa) (n8 n9:Int) (q11:Oa) (l12 c13:Nat) (n14 n15:Int) (R:Type) (K:Oa->Nat->Nat->Oa->Nat->Nat->Oa->Int->Int->Oa->Bool->Oa->Nat->Nat->Int->Int->Option R):
 ABa k q1 l2 c3 q4 l5 c6 p7 n8 n9 (some ⟨b,0,none⟩) q11 l12 c13 n14 n15 H K=K q1 l2 c3 q4 l5 c6 p7 n8 n9 (some ⟨b,0,none⟩) (decide (x=0/\y=0)) q11 l12 c13 n14 n15:=by
 unfold ABa AKK
 refine AAA (go_i m0 ?_)
 by_cases hx:x=0
 . refine go_t (beq_iff_eq.2 hx) (AAA (go_i m1 ?_))
   rw [show decide (x=0/\y=0)=(y==0) from by simp [hx];rfl]
 . rw [show decide (x=0/\y=0)=false from decide_eq_false (λ h=> hx h.1)]
   exact go_f (beq_eq_false_iff_ne.2 hx) rfl
theorem Abh {k:Nat} {H:Heap} {b:Nat} {x y:Int} (m0:hcell H b 0=some (.int .i64 x)) (m1:hcell H b 1=some (.int .i64 y)) (q1:Oa) (l2 c3:Nat) (q4:Oa) (l5 c6:Nat) (p7:Oa) (n8 n9:Int) (t:Bool) (q11:Oa) (l12 c13:Nat) (n14 n15:Int) (R:Type) (K:Oa->Nat->Nat->Oa->Nat->Nat->Oa->Int->Int->Oa->Bool->Bool->Oa->Nat->Nat->Int->Int->Option R):
 ABZ k q1 l2 c3 q4 l5 c6 p7 n8 n9 (some ⟨b,0,none⟩) t q11 l12 c13 n14 n15 H K=K q1 l2 c3 q4 l5 c6 p7 n8 n9 (some ⟨b,0,none⟩) t (decide (1<=x/\x<=4096/\1<=y/\y<=4096)) q11 l12 c13 n14 n15:=by
 unfold ABZ AKJ
 refine AAA (go_i m0 ?_)
 by_cases h1:x≥1
 . refine go_t (decide_eq_true h1) (AAA (go_i m0 ?_))
   by_cases h2:x<=4096
   . refine go_t (decide_eq_true h2) (AAA (go_i m1 ?_))
     by_cases h3:y≥1
     . refine go_t (decide_eq_true h3) (AAA (go_i m1 ?_))
       by_cases h4:y<=4096
       . rw [decide_eq_true h4,decide_eq_true (show 1<=x/\x<=4096/\1<=y/\y<=4096 from ⟨h1,h2,h3,h4⟩)]
       . rw [decide_eq_false h4,decide_eq_false (show ¬ (1<=x/\x<=4096/\1<=y/\y<=4096) from λ h=> h4 h.2.2.2)]
     . rw [decide_eq_false (show ¬ (1<=x/\x<=4096/\1<=y/\y<=4096) from λ h=> h3 h.2.2.1)]
       exact go_f (decide_eq_false h3) rfl
   . rw [decide_eq_false (show ¬ (1<=x/\x<=4096/\1<=y/\y<=4096) from λ h=> h2 h.2.1)]
     exact go_f (decide_eq_false h2) rfl
 . rw [decide_eq_false (show ¬ (1<=x/\x<=4096/\1<=y/\y<=4096) from λ h=> h1 h.1)]
   exact go_f (decide_eq_false h1) rfl
theorem Abg {k:Nat} {H:Heap} {qp pv:Oa} {lp cp:Nat} {i v:Int} (ep:∀(R:Type) (K:Oa->Option R),hidx qp lp i 1 K=K pv) (ev:∀(R:Type) (K:Int->Option R),ldI .i64 H pv K=K v) (q1:Oa) (l2 c3:Nat) (p7:Oa) (n8:Int) (p10:Oa) (t1 t2:Bool) (q11:Oa) (l12 c13:Nat) (n14 n15:Int) (R:Type) (K:Oa->Nat->Nat->Oa->Nat->Nat->Oa->Int->Oa->Oa->Nat->Nat->Int->Int->Option R) (KR:Oa->Int->Option R):
 ABY k q1 l2 c3 qp lp cp p7 n8 i p10 t1 t2 q11 l12 c13 n14 n15 H K KR=bif (t1||t2) && decide (0<=v/\v<=60) then K q1 l2 c3 qp lp cp p7 n8 p10 q11 l12 c13 n14 n15 else KR none 2:=by
 unfold ABY AKI
 have key:∀(A:Option R),(hidx qp lp i 1 λ p18=> ldI .i64 H p18 λ n19=> bif decide (n19 < 0) then (KR none 2) else (hidx qp lp i 1 λ p20=> ldI .i64 H p20 λ n21=> bif decide (n21 > 60) then (KR none 2) else A))=bif decide (0<=v/\v<=60) then A else KR none 2:=λ A=> by
  refine (ep _ _).trans ((ev _ _).trans ?_)
  by_cases h1:v < 0
  . rw [decide_eq_false (show ¬ (0<=v/\v<=60) from λ h=> by omega)]
    exact go_t (decide_eq_true h1) rfl
  refine go_f (decide_eq_false h1) ((ep _ _).trans ((ev _ _).trans ?_))
  by_cases h2:v > 60
  . rw [decide_eq_false (show ¬ (0<=v/\v<=60) from λ h=> by omega)]
    exact go_t (decide_eq_true h2) rfl
  . rw [decide_eq_true (show 0<=v/\v<=60 from by omega)]
    exact go_f (decide_eq_false h2) rfl
 cases t1 with
 |true=> exact key _
 |false=>
  cases t2 with
  |true=> exact key _
  |false=> rfl
theorem nl1 (k:Nat) {qg qp:Oa} {cg cp:Nat} {zs:List Gd} (hl:zs.length<=3) (pm:Oa):∀(m n i:Nat) (t:Int),m < n->zs.length=i+m->0<=t->t<=i * 16777216->∀(H:Heap),Shows H qg ((zs.map Prod.fst).flatMap pt)->Shows H qp (ints (zs.map Prod.snd))->
 ∃H',(∀(R:Type) (KE:Oa->Nat->Nat->Oa->Nat->Nat->Oa->Int->Heap->Option R) (KR:Oa->Int->Heap->Option R),AAs k KE KR n qg zs.length cg qp zs.length cp pm t qg zs.length cg ((zs.length:Nat):Int) (i:Int) H=bif (zs.drop i).all okZ then KE qg zs.length cg qp zs.length cp pm (t+sumZ (zs.drop i)) H' else KR none 2 H')/\Old H.length H H':=by
 intro m
 induction m with
 |zero=>
  intro n i t hn hj t0 t1 H hg hp
  obtain ⟨n,rfl⟩:∃n',n=n'+1:=⟨n - 1,by omega⟩
  refine ⟨H,λ R KE KR=> ?_, .refl _ _⟩
  unfold AAs AIG
  rw [List.drop_eq_nil_of_le (by omega)]
  exact go_f (decide_eq_false (by omega)) (by rw [show t+sumZ []=t from by simp [sumZ]];rfl)
 |succ m ih=>
  intro n i t hn hj t0 t1 H hg hp
  obtain ⟨n,rfl⟩:∃n',n=n'+1:=⟨n - 1,by omega⟩
  obtain ⟨z,hz⟩:=AKx (l:=zs) (i:=i) (by omega)
  obtain ⟨bb,oo,e1,m0,m1⟩:=AQs hg (i:=i) (g:=z.1) (by rw [List.getElem?_map,hz];rfl)
  rw [List.length_map] at e1
  obtain ⟨H1,hH1⟩:∃H1,H1=H++ [some (⟨[.int .i64 z.1.1, .int .i64 z.1.2],false,0⟩:Blk)]:=⟨_,rfl⟩
  have o1:Old H.length H H1:=hH1 ▸ Old.app _ _
  have O1:Owns H1 H.length [.int .i64 z.1.1, .int .i64 z.1.2] 0:=by rw [hH1];exact AAI H _
  have x0:hcell H1 H.length 0=some (.int .i64 z.1.1):=O1.sees.cell 0
  have x1:hcell H1 H.length 1=some (.int .i64 z.1.2):=O1.sees.cell 1
  obtain ⟨pv,ep,ev⟩:=AL8 (hp.keep o1) (i:=i) (x:=z.2) (by rw [List.getElem?_map,hz];rfl)
  rw [List.length_map] at ep
  have hd:(zs.drop i).all okZ=(okZ z && (zs.drop (i+1)).all okZ):=by rw [AIr hz,List.all_cons]
  have hoz:okZ z=((decide (z.1.1=0/\z.1.2=0)||decide (1<=z.1.1/\z.1.1<=4096/\1<=z.1.2/\z.1.2<=4096)) && decide (0<=z.2/\z.2<=60)):=rfl
  have front:∀(R:Type) (KE:Oa->Nat->Nat->Oa->Nat->Nat->Oa->Int->Heap->Option R) (KR:Oa->Int->Heap->Option R),AAs k KE KR (n+1) qg zs.length cg qp zs.length cp pm t qg zs.length cg ((zs.length:Nat):Int) (i:Int) H=bif okZ z then AAs k KE KR n qg zs.length cg qp zs.length cp pm (IntKind.wrap .i64 (t+(IntKind.wrap .i64 (z.1.1 * z.1.2)))) qg zs.length cg ((zs.length:Nat):Int) (IntKind.wrap .i64 ((i:Int)+1)) H1 else KR none 2 H1:=λ R KE KR=> by
   rw [AAs]
   unfold AIG
   refine go_t (decide_eq_true (by omega)) ((e1 _ _).trans (AAJ m0 (AAJ m1 (AAW hH1 rfl rfl ?_))))
   refine (Abi x0 x1 _ _ _ _ _ _ _ _ _ _ _ _ _ _ _ _).trans ((Abh x0 x1 _ _ _ _ _ _ _ _ _ _ _ _ _ _ _ _ _).trans ((Abg ep ev _ _ _ _ _ _ _ _ _ _ _ _ _ _ _ _).trans ?_))
   rw [←hoz]
   cases okZ z with
   |false=> rfl
   |true=> exact go_t rfl (AAA (go_i x0 (AAA (go_i x1 rfl))))
  cases hk:okZ z with
  |false=>
   refine ⟨H1,λ R KE KR=> ?_,o1⟩
   rw [front,hk,hd,hk];rfl
  |true=>
   have hk':=hk
   unfold okZ at hk'
   simp only [Bool.and_eq_true] at hk'
   have hm:=ANr hk'.1
   obtain ⟨H2,e2,o2⟩:=ih n (i+1) (t+z.1.1 * z.1.2) (by omega) (by omega) (by omega) (by push_cast;omega) H1 (hg.keep o1) (hp.keep o1)
   refine ⟨H2,λ R KE KR=> ?_,o1.trans (o2.mono o1.1)⟩
   rw [front,hk,hd,hk,w64 (n:=z.1.1 * z.1.2) (by omega) (by omega),w64 (n:=t+z.1.1 * z.1.2) (by omega) (by omega),w64 (n:=(i:Int)+1) (by omega) (by omega)]
   have hs:t+sumZ (zs.drop i)=t+z.1.1 * z.1.2+sumZ (zs.drop (i+1)):=by
    rw [AIr hz];simp [sumZ];omega
   rw [hs,Bool.true_and]
   exact e2 R KE KR
open Go.Proofs.Ytmanlfonppfhaaa.FW Go.IntWalk
abbrev Bk:=Nat×Nat×Nat
def bkc (v:Bk):List Value:= [.int .i64 (v.1:Int), .int .i64 (v.2.1:Int), .int .i64 (v.2.2:Int), .bool false, .int .i64 0, .int .i64 0, .int .i64 0, .int .i64 3, .int .i64 0, .int .i64 0]
def blkN (i w n:Nat):List Bk:=(List.range n).map λ k=> (i,k % w,k / w)
def blkG (i:Nat) (g:Int×Int):List Bk:=blkN i g.1.toNat (g.1.toNat * g.2.toNat)
def blks:Nat->List (Int×Int)->List Bk
 |_, []=> []
 |i,g::gs=> blkG i g++blks (i+1) gs
theorem ARO (gs:List (Int×Int)) (g:Int×Int):∀i,blks i (gs++ [g])=blks i gs++blkG (i+gs.length) g:=by
 induction gs with
 |nil=> intro i;simp [blks]
 |cons x gs ih=> intro i;rw [List.cons_append,blks,ih,blks,List.append_assoc,List.length_cons,show i+1+gs.length=i+(gs.length+1) from by omega]
theorem ARP (i w n:Nat):blkN i w (n+1)=blkN i w n++ [(i,n % w,n / w)]:=by unfold blkN;rw [List.range_succ,List.map_append];rfl
def sP (t:Md) (qb:Oa) (lb cb:Nat) (qk:Oa) (lk ck:Nat):List Value:= [.bool true, .bool false, .bool false, .bool t.1, .bool t.2.1, .bool t.2.2.1, .bool t.2.2.2.1, .bool t.2.2.2.2, .slice qb lb cb, .slice qk lk ck, .int .i64 0]
abbrev PG (N b:Nat) (H:Heap) (t:Md) (qb:Oa) (lb cb:Nat) (Xb:List Value) (qk:Oa) (ck:Nat) (L:List Bk):Prop:=Gw N b H (sP t qb lb cb qk L.length ck) [⟨8,3,qb,lb,cb,Xb⟩,⟨9,10,qk,L.length,ck,L.flatMap bkc⟩]
theorem nl7 (k:Nat) {N b bg w h:Nat} {t:Md} {qb:Oa} {lb cb:Nat} {Xb:List Value} {M:List Bk} (i:Nat) (hwh:w * h<=65536) (hM:M.length<=65536) (hNb:N<=b) (q1:Oa) (l2 c3:Nat) (q7:Oa) (l8 c9:Nat) (n10 n11:Int):∀(m n j:Nat),m < n->w * h=j+m->∀(H:Heap) (qk:Oa) (ck:Nat),PG N b H t qb lb cb Xb qk ck (M++blkN i w j)->N<=H.length->hcell H bg 0=some (.int .i64 (w:Int))->bg≠b->(∀a,qb=some a->a.block≠bg)->(∀a,qk=some a->a.block≠bg)->
 ∃H' qk' ck',(∀(R:Type) (KE:Oa->Nat->Nat->Oa->Oa->Nat->Nat->Int->Int->Heap->Option R),AA5 k KE n q1 l2 c3 (some ⟨b,0,none⟩) (i:Int) (some ⟨bg,0,none⟩) q7 l8 c9 n10 n11 ((w * h:Nat):Int) (j:Int) H=KE q1 l2 c3 (some ⟨b,0,none⟩) q7 l8 c9 n10 n11 H')/\PG N b H' t qb lb cb Xb qk' ck' (M++blkN i w (w * h))/\Old N H H'/\(∀x,x < H.length->x≠b->(∀a,qb=some a->a.block≠x)->(∀a,qk=some a->a.block≠x)->hblk H' x=hblk H x)/\(qk'=qk∨∀a,qk'=some a->H.length<=a.block):=by
 intro m
 induction m with
 |zero=>
  intro n j hn hj H qk ck G hN mg g1 g2 g3
  obtain ⟨n,rfl⟩:∃n',n=n'+1:=⟨n - 1,by omega⟩
  have hjj:j=w * h:=by omega
  rw [hjj] at G
  refine ⟨H,qk,ck,λ R KE=> ?_,G, .refl _ _,λ _ _ _ _ _=> rfl, .inl rfl⟩
  unfold AA5 AIC
  exact go_f (decide_eq_false (by omega)) rfl
 |succ m ih=>
  intro n j hn hj H qk ck G hN mg g1 g2 g3
  obtain ⟨n,rfl⟩:∃n',n=n'+1:=⟨n - 1,by omega⟩
  have hw:1<=w:=by
   rcases Nat.eq_zero_or_pos w with h0|h0
   . subst h0;omega
   . exact h0
  have hjl:(M++blkN i w j).length=M.length+j:=by rw [List.length_append];simp [blkN]
  have hbg:bg < H.length:=by
   unfold hcell at mg
   cases hq:hblk H bg with
   |none=> rw [hq] at mg;cases mg
   |some B=> exact AIM hq
  have m9:hcell H b 9=some (.slice qk (M++blkN i w j).length ck):=G.o.sees.cell 9
  obtain ⟨H1,H2,H3,hH1,e2,e3,G3,k3,o3,n3⟩:=Gw.grow (A:= [⟨8,3,qb,lb,cb,Xb⟩]) (B:= []) (bytes:=80) (ec:=bkc (i,j % w,j / w)) G (by simp) (by simp) rfl (by simp only;omega) hN
  have o3:=OldX.old o3 hNb
  have G3':PG N b H3 t qb lb cb Xb (some ⟨H.length+1,0,none⟩) unk (M++blkN i w (j+1)):=by
   have e1:M++blkN i w (j+1)=M++blkN i w j++ [(i,j % w,j / w)]:=by rw [ARP,List.append_assoc]
   have e2:(M++blkN i w (j+1)).length=(M++blkN i w j).length+1:=by rw [e1,List.length_append];rfl
   have e3:(M++blkN i w (j+1)).flatMap bkc=(M++blkN i w j).flatMap bkc++bkc (i,j % w,j / w):=by rw [e1,List.flatMap_append];simp
   unfold PG
   rw [e2,e3]
   exact G3
  have mg3:hcell H3 bg 0=some (.int .i64 (w:Int)):=by
   unfold hcell
   rw [k3 bg hbg ⟨g1,λ s hs a ha=> by
    simp only [List.cons_append,List.nil_append,List.mem_cons,List.not_mem_nil,or_false] at hs
    rcases hs with rfl|rfl
    . exact g2 a ha
    . exact g3 a ha⟩]
   exact mg
  obtain ⟨Ha,qk',ck',ea,Ga,oa,fa,na⟩:=ih n (j+1) (by omega) (by omega) H3 _ _ G3' (by omega) mg3 g1 g2 (λ a ha=> by cases ha;simp only;omega)
  refine ⟨Ha,qk',ck',λ R KE=> ?_,Ga,o3.trans oa,λ x hx h1 h2 h3=> ?_, ?_⟩
  rotate_left
  . rw [fa x (by omega) h1 h2 (λ a ha=> by cases ha;simp only;omega)]
    exact k3 x hx ⟨h1,λ s hs a ha=> by
     simp only [List.cons_append,List.nil_append,List.mem_cons,List.not_mem_nil,or_false] at hs
     rcases hs with rfl|rfl
     . exact h2 a ha
     . exact h3 a ha⟩
  . right
    intro a ha
    rcases na with h|h
    . rw [h] at ha;cases ha;simp only;omega
    . have:=h a ha;omega
  unfold AA5 AIC
  refine go_t (decide_eq_true (by omega)) (AAC (AAA (go_l m9 (AAA (go_i mg ((Aa3 hw _ _).trans (AAA (go_i mg ((Aa7 (by omega) hw _ _).trans ?_)))))))))
  refine AAD hH1 ((e2 _ _).trans (AAC (AAA ((e3 _ _).trans ?_))))
  rw [w64 (n:=(j:Int)+1) (by omega) (by omega)]
  exact ea R KE
theorem ANe {zs:List Gd} (h:zs.all okZ=true):∀i,sumZ (zs.take i)<=sumZ zs/\0<=sumZ (zs.take i):=by
 induction zs with
 |nil=> intro i;simp [sumZ]
 |cons z zs ih=>
  intro i
  rw [List.all_cons,Bool.and_eq_true] at h
  have hz:=h.1
  unfold okZ at hz
  simp only [Bool.and_eq_true] at hz
  have hm:=ANr hz.1
  cases i with
  |zero=>
   have:=ih h.2 0
   simp only [List.take_zero,sumZ,List.map_nil,List.sum_nil,List.map_cons,List.sum_cons] at *
   omega
  |succ i=>
   have:=ih h.2 i
   simp only [List.take_succ_cons,sumZ,List.map_cons,List.sum_cons] at *
   omega
theorem AOI {zs:List Gd} (h:zs.all okZ=true):∀i,((blks i (zs.map Prod.fst)).length:Int)=sumZ zs:=by
 induction zs with
 |nil=> intro i;rfl
 |cons z zs ih=>
  intro i
  rw [List.all_cons,Bool.and_eq_true] at h
  have hz:=h.1
  unfold okZ at hz
  simp only [Bool.and_eq_true] at hz
  have hm:=ANr hz.1
  have e:((z.1.1.toNat * z.1.2.toNat:Nat):Int)=z.1.1 * z.1.2:=by
   rw [Int.natCast_mul,Int.toNat_of_nonneg hm.2.2.1,Int.toNat_of_nonneg hm.2.2.2]
  have:=ih h.2 (i+1)
  rw [List.map_cons,blks,List.length_append]
  have hb:(blkG i z.1).length=z.1.1.toNat * z.1.2.toNat:=by simp [blkG,blkN]
  rw [hb]
  have hs:sumZ (z::zs)=z.1.1 * z.1.2+sumZ zs:=by simp [sumZ]
  rw [hs]
  push_cast at e ⊢
  omega
theorem AQ4 {zs:List Gd} (h:zs.all okZ=true) (i:Nat):(zs.take i).all okZ=true:=List.all_eq_true.2 λ z hz=> List.all_eq_true.1 h z (List.mem_of_mem_take hz)
theorem AVj {w h:Nat} (h1:1<=w) (h2:1<=h) (h3:w * h<=65536):vld (w:Int) (h:Int)=0:=by
 have hw:w<=w * h:=Nat.le_mul_of_pos_right w h2
 have hh:h<=w * h:=Nat.le_mul_of_pos_left h h1
 unfold vld
 rw [if_neg (by omega),←Int.natCast_mul,if_neg (by omega)]
theorem AVm {k:Nat} (hk:100 < k) (H:Heap) {w h:Nat} (h1:1<=w) (h2:1<=h) (h3:w * h<=65536):∃H',(∀(R:Type) (K:Oa->Int->Heap->Option R),AG6 k (w:Int) (h:Int) H K=K (some ⟨H.length,0,none⟩) 0 H')/\Old H.length H H'/\H.length < H'.length/\∀(z:Nat->Nat) (c:Nat),(∀j,H.length<=j->j < H'.length->z j=c)->ZT z c H' H.length w h false (λ _ _=> nz):=by
 rcases Ab9 hk H (w:Int) (h:Int) with ⟨hv,_⟩|⟨_,a,b,H',q,c,l,hw,hh,a1,b1,am,bm,ab,e,T,hl,o⟩
 . exact (hv (AVj h1 h2 h3)).elim
 . obtain rfl:w=a:=by omega
   obtain rfl:h=b:=by omega
   refine ⟨H',e,o,T.o.lt,λ z c' hz=> ⟨⟨q,c,l,T.zero,AV1 a1 b1 am bm ab hl, ?_,λ _ _=> Int.le_refl 0,λ i hi=> hz i (T.ge hi) (T.lt hi)⟩⟩⟩
   unfold LL
   rw [←hl,List.length_map]
theorem Abf {k:Nat} (hk:100 < k) {H:Heap} {bg bt:Nat} {w h:Nat} {v:Int} (m0:hcell H bg 0=some (.int .i64 (w:Int))) (m1:hcell H bg 1=some (.int .i64 (h:Int))) (hwh:w≠0->1<=h/\w * h<=65536) (O:Owns H bt [.int .i64 v, .pointer none, .pointer none] 0) (hlt:bg < bt) (q1:Oa) (l2 c3:Nat) (p4:Oa) (n5:Int) (q8:Oa) (l9 c10:Nat) (n11 n12:Int):
 ∃H' m,(∀(R:Type) (K:Oa->Nat->Nat->Oa->Int->Oa->Oa->Oa->Nat->Nat->Int->Int->Heap->Option R),ABG k q1 l2 c3 p4 n5 (some ⟨bg,0,none⟩) (some ⟨bt,0,none⟩) q8 l9 c10 n11 n12 H K=K q1 l2 c3 p4 n5 (some ⟨bg,0,none⟩) (some ⟨bt,0,none⟩) q8 l9 c10 n11 n12 H')/\Owns H' bt [.int .i64 v, .pointer (pp (w,h) H.length), .pointer (pp (w,h) m)] 0/\Old bt H H'/\(∀x,x < H.length->x≠bt->hblk H' x=hblk H x)/\H.length<=m/\m<=H'.length/\
  (w≠0->∀(z:Nat->Nat) (c1 c2:Nat),(∀j,H.length<=j->j < m->z j=c1)->(∀j,m<=j->j < H'.length->z j=c2)->z bt≠c1->z bt≠c2->ZT z c1 H' H.length w h false (λ _ _=> nz)/\ZT z c2 H' m w h false (λ _ _=> nz)):=by
 have hbt:=O.lt
 by_cases hw:w=0
 . refine ⟨H,H.length,λ R K=> ?_, ?_, .refl _ _,λ _ _ _=> rfl,Nat.le_refl _,Nat.le_refl _,λ h=> (h hw).elim⟩
   . unfold ABG AH6
     exact AAA (go_i m0 (go_f (decide_eq_false (by omega)) rfl))
   . have:∀p,pp (w,h) p=none:=λ p=> if_pos hw
     simp only [this];exact O
 . obtain ⟨hh,hm⟩:=hwh hw
   obtain ⟨H1,e1,o1,l1,t1⟩:=AVm hk H (w:=w) (h:=h) (by omega) hh hm
   obtain ⟨H2,e2,O2,b2,n2⟩:=(O.old o1 hbt).st1 (o:=1) (show 1 < 3 by omega) (.pointer (some ⟨H.length,0,none⟩))
   have ob2:Old bt H H2:=(o1.mono (by omega)).trans (b2.old (Nat.le_refl _) (by omega))
   have x0:hcell H2 bg 0=some (.int .i64 (w:Int)):=by unfold hcell;rw [ob2.2 bg hlt];exact m0
   have x1:hcell H2 bg 1=some (.int .i64 (h:Int)):=by unfold hcell;rw [ob2.2 bg hlt];exact m1
   obtain ⟨H3,e3,o3,l3,t3⟩:=AVm hk H2 (w:=w) (h:=h) (by omega) hh hm
   have hbt2:=O2.lt
   obtain ⟨H4,e4,O4,b4,n4⟩:=(O2.old o3 hbt2).st1 (o:=2) (show 2 < 3 by omega) (.pointer (some ⟨H2.length,0,none⟩))
   refine ⟨H4,H2.length,λ R K=> ?_, ?_,ob2.trans ((o3.mono (by omega)).trans (b4.old (Nat.le_refl _) (by omega))),λ x hx hne=> by rw [b4.2 x (by omega) hne,o3.2 x (by omega),b2.2 x (by omega) hne,o1.2 x hx],by omega,by omega,λ _ z c1 c2 z1 z2 hb1 hb2=> ⟨?_, ?_⟩⟩
   . unfold ABG AH6
     refine AAA (go_i m0 (go_t (decide_eq_true (by omega)) (AAA (go_i m0 (AAA (go_i m1 ((e1 _ _).trans (AAA ((e2 _ _).trans ?_)))))))))
     exact AAA (go_i x0 (AAA (go_i x1 ((e3 _ _).trans (AAA ((e4 _ _).trans rfl))))))
   . rw [AKH _ hw,AKH _ hw];exact O4
   . have T:=t1 z c1 λ j h1 h2=> z1 j h1 (by omega)
     refine ((T.same (H':=H2) λ x hx h=> b2.2 x hx λ e=> hb1 (by rw [←e];exact h)).same (H':=H3) λ x hx _=> o3.2 x hx).same λ x hx h=> b4.2 x hx λ e=> hb1 (by rw [←e];exact h)
   . have T:=t3 z c2 λ j h1 h2=> z2 j h1 (by omega)
     exact T.same λ x hx h=> b4.2 x hx λ e=> hb2 (by rw [←e];exact h)
def nzT:Te:=(false,λ _ _=> nz)
def sgOf (bs:List Int) (t:Md) (zs:List Gd) (k:Nat):Sg:=⟨bs,t,λ i=> ((zs.getD i ((0,0),0)).1.1.toNat,(zs.getD i ((0,0),0)).1.2.toNat),λ i=> (zs.getD i ((0,0),0)).2,k⟩
structure Nw (z:Nat->Nat) (g:Sg) (N b:Nat) (t:Md) (H:Heap) (i:Nat) (qb:Oa) (cb:Nat) (qk:Oa) (ck:Nat) (L:List Bk) (P:Nat->Nat):Prop where
 w:PG N b H t qb i cb ((List.range i).flatMap (bd g P)) qk ck L
 t:∀j,j < 2 * i->(g.sz (j / 2)).1≠0->ZT z (5+j) H (P j) (g.sz (j / 2)).1 (g.sz (j / 2)).2 false (λ _ _=> nz)
 zz:∀j,j < N∨H.length<=j->z j=99
 zb:z b=99
 q:(∀a,qb=some a->z a.block=99)/\∀a,qk=some a->z a.block=99
theorem ARQ (g:Sg) {P P':Nat->Nat}:∀(i:Nat),(∀j,j < 2 * i->P j=P' j)->(List.range i).flatMap (bd g P)=(List.range i).flatMap (bd g P'):=by
 intro i
 induction i with
 |zero=> intro _;rfl
 |succ i ih=>
  intro h
  rw [List.range_succ,List.flatMap_append,List.flatMap_append,ih λ j hj=> h j (by omega)]
  congr 1
  unfold bd
  simp only [List.flatMap_cons,List.flatMap_nil,List.append_nil]
  rw [h (2 * i) (by omega),h (2 * i+1) (by omega)]
theorem nl5 (k:Nat) (hk:100000 < k) {bs:List Int} {N b:Nat} {t:Md} {qg qp:Oa} {cg cp:Nat} {zs:List Gd} (hl:zs.length<=3) (hok:zs.all okZ=true) (hsum:sumZ zs<=65536) (hNb:N<=b):∀(m n i:Nat),m < n->zs.length=i+m->∀(z:Nat->Nat) (H:Heap) (qb:Oa) (cb:Nat) (qk:Oa) (ck:Nat) (P:Nat->Nat),Nw z (sgOf bs t zs k) N b t H i qb cb qk ck (blks 0 ((zs.map Prod.fst).take i)) P->N<=H.length->ShB N H qg ((zs.map Prod.fst).flatMap pt)->ShB N H qp (ints (zs.map Prod.snd))->
 ∃H' z' qb' cb' qk' ck' P',(∀(R:Type) (KE:Oa->Heap->Option R),AAu k KE n qp zs.length cp (some ⟨b,0,none⟩) qg zs.length cg ((zs.length:Nat):Int) (i:Int) H=KE (some ⟨b,0,none⟩) H')/\Nw z' (sgOf bs t zs k) N b t H' zs.length qb' cb' qk' ck' (blks 0 (zs.map Prod.fst)) P'/\Old N H H':=by
 intro m
 induction m with
 |zero=>
  intro n i hn hj z H qb cb qk ck P G hN hg hp
  obtain ⟨n,rfl⟩:∃n',n=n'+1:=⟨n - 1,by omega⟩
  have hi:i=zs.length:=by omega
  rw [hi,List.take_of_length_le (by rw [List.length_map];omega)] at G
  refine ⟨H,z,qb,cb,qk,ck,P,λ R KE=> ?_,G, .refl _ _⟩
  unfold AAu AIE
  exact go_f (decide_eq_false (by omega)) rfl
 |succ m ih=>
  intro n i hn hj z H qb cb qk ck P G hN hg hp
  obtain ⟨n,rfl⟩:∃n',n=n'+1:=⟨n - 1,by omega⟩
  obtain ⟨y,hz⟩:=AKx (l:=zs) (i:=i) (by omega)
  have hgd:zs.getD i ((0,0),0)=y:=by rw [List.getD_eq_getElem?_getD,hz];rfl
  have hgz:(zs.map Prod.fst)[i]? =some y.1:=by rw [List.getElem?_map,hz];rfl
  have hzo:okG y.1=true:=by
   have:=(List.all_eq_true.1 hok) y (List.mem_of_getElem? hz)
   unfold okZ at this
   simp only [Bool.and_eq_true] at this
   exact this.1
  have hm:=ANr hzo
  obtain ⟨w,hw⟩:∃w:Nat,y.1.1=w:=⟨y.1.1.toNat,by omega⟩
  obtain ⟨h,hh⟩:∃h:Nat,y.1.2=h:=⟨y.1.2.toNat,by omega⟩
  have hsz:(sgOf bs t zs k).sz i=(w,h):=by
   unfold sgOf;simp only [hgd,hw,hh,Int.toNat_natCast]
  have hpl:(sgOf bs t zs k).pl i=y.2:=by unfold sgOf;simp only [hgd]
  have hlen:=AOI (AQ4 hok i) 0
  rw [List.map_take] at hlen
  have hlen2:=AOI (AQ4 hok (i+1)) 0
  have hst:=ANe hok (i+1)
  have hst0:=ANe hok i
  have htk:zs.take (i+1)=zs.take i++ [y]:=ANb hz
  have hss:sumZ (zs.take (i+1))=sumZ (zs.take i)+y.1.1 * y.1.2:=by rw [htk];simp [sumZ]
  have hwh:w * h<=65536:=by
   have:((w * h:Nat):Int)=y.1.1 * y.1.2:=by rw [hw,hh,Int.natCast_mul]
   omega
  have hwh':w≠0->1<=h/\w * h<=65536:=λ hne=> ⟨by
   unfold okG at hzo
   simp only [Bool.or_eq_true,decide_eq_true_eq] at hzo
   omega,hwh⟩
  have hMl:(blks 0 ((zs.map Prod.fst).take i)).length<=65536:=by omega
  obtain ⟨bb,oo,e1,m0,m1⟩:=AQs hg.s hgz
  rw [List.length_map] at e1
  obtain ⟨H1,hH1⟩:∃H1,H1=H++ [some (⟨[.int .i64 y.1.1, .int .i64 y.1.2],false,0⟩:Blk)]:=⟨_,rfl⟩
  have o1:Old H.length H H1:=hH1 ▸ Old.app _ _
  have O1:Owns H1 H.length [.int .i64 y.1.1, .int .i64 y.1.2] 0:=by rw [hH1];exact AAI H _
  have l1:H1.length=H.length+1:=by rw [hH1];simp
  obtain ⟨pv,ep,ev⟩:=AL8 (hp.old (o1.mono hN)).s (i:=i) (x:=y.2) (by rw [List.getElem?_map,hz];rfl)
  rw [List.length_map] at ep
  obtain ⟨H2,hH2⟩:∃H2,H2=H1++ [some (⟨[.int .i64 y.2, .pointer none, .pointer none],false,0⟩:Blk)]:=⟨_,rfl⟩
  have o2:Old H1.length H1 H2:=hH2 ▸ Old.app _ _
  have O2:Owns H2 H1.length [.int .i64 y.2, .pointer none, .pointer none] 0:=by rw [hH2];exact AAI H1 _
  have l2:H2.length=H1.length+1:=by rw [hH2];simp
  have P2:=O1.old o2 (by omega)
  obtain ⟨H3,mm,e3,O3,o3,s3,hm1,hm2,t3⟩:=Abf (k:=k) (by omega) (bg:=H.length) (w:=w) (h:=h) (by rw [←hw];exact P2.sees.cell 0) (by rw [←hh];exact P2.sees.cell 1) hwh' O2 (by omega) qp zs.length cp (some ⟨b,0,none⟩) (i:Int) qg zs.length cg ((zs.length:Nat):Int) (i:Int)
  have l3:=o3.1
  have o03:Old H.length H H3:=o1.trans ((o2.mono (by omega)).trans (o3.mono (by omega)))
  have G3:=Gw.keep G.w o03
  have P3:=P2.old o3 (by omega)
  have m8:hcell H3 b 8=some (.slice qb i cb):=G3.o.sees.cell 8
  have t0:hcell H3 H1.length 0=some (.int .i64 y.2):=O3.sees.cell 0
  have t1:hcell H3 H1.length 1=some (.pointer (pp (w,h) H2.length)):=O3.sees.cell 1
  have t2:hcell H3 H1.length 2=some (.pointer (pp (w,h) mm)):=O3.sees.cell 2
  obtain ⟨H4,H5,H6,hH4,e5,e6,G6,k6,o6,n6⟩:=Gw.grow (A:= []) (B:= [⟨9,10,qk,(blks 0 ((zs.map Prod.fst).take i)).length,ck,(blks 0 ((zs.map Prod.fst).take i)).flatMap bkc⟩]) (s:=⟨8,3,qb,i,cb,(List.range i).flatMap (bd (sgOf bs t zs k) P)⟩) (bytes:=24) (ec:= [.int .i64 y.2, .pointer (pp (w,h) H2.length), .pointer (pp (w,h) mm)]) G3 (by simp) (by simp) rfl (by simp only;omega) (by omega)
  have o6':=OldX.old o6 hNb
  have hbelow:∀s∈ [(⟨8,3,qb,i,cb,(List.range i).flatMap (bd (sgOf bs t zs k) P)⟩:Sl),⟨9,10,qk,(blks 0 ((zs.map Prod.fst).take i)).length,ck,(blks 0 ((zs.map Prod.fst).take i)).flatMap bkc⟩],∀a,s.q=some a->a.block < H.length:=λ s hs a ha=> (G.w.f s hs).below a ha
  have hqb:∀a,qb=some a->a.block < H.length:=λ a ha=> hbelow _ (List.mem_cons_self ..) a ha
  have hqk:∀a,qk=some a->a.block < H.length:=λ a ha=> hbelow _ (List.mem_cons_of_mem _ (List.mem_singleton.2 rfl)) a ha
  have hbb:=G.w.o.lt
  have kg:hblk H6 H.length=hblk H3 H.length:=k6 H.length (by omega) ⟨by omega,λ s hs a ha=> by have:=hbelow s hs a ha;omega⟩
  have g0:hcell H6 H.length 0=some (.int .i64 (w:Int)):=by unfold hcell;rw [kg];have:=P3.sees.cell 0;unfold hcell at this;rw [this];simp [hw]
  have g1:hcell H6 H.length 1=some (.int .i64 (h:Int)):=by unfold hcell;rw [kg];have:=P3.sees.cell 1;unfold hcell at this;rw [this];simp [hh]
  obtain ⟨z2,hz2⟩:∃z2:Nat->Nat,z2=λ x=> if H2.length<=x/\x < mm then 5+2 * i else if mm<=x/\x < H3.length then 5+(2 * i+1) else z x:=⟨_,rfl⟩
  obtain ⟨Q2,hQ2⟩:∃Q2:Nat->Nat,Q2=λ x=> if x=2 * i then H2.length else if x=2 * i+1 then mm else P x:=⟨_,rfl⟩
  have z2a:∀x,H2.length<=x->x < mm->z2 x=5+2 * i:=λ x h1 h2=> by rw [hz2];exact if_pos ⟨h1,h2⟩
  have z2b:∀x,mm<=x->x < H3.length->z2 x=5+(2 * i+1):=λ x h1 h2=> by rw [hz2];simp only;rw [if_neg (by omega),if_pos ⟨h1,h2⟩]
  have z2c:∀x,x < H2.length∨H3.length<=x->z2 x=z x:=λ x h=> by rw [hz2];simp only;rw [if_neg (by omega),if_neg (by omega)]
  have Qa:Q2 (2 * i)=H2.length:=by rw [hQ2];exact if_pos rfl
  have Qb:Q2 (2 * i+1)=mm:=by rw [hQ2];simp only;rw [if_neg (by omega)];exact if_pos trivial
  have Qc:∀j,j < 2 * i->Q2 j=P j:=λ j hj=> by rw [hQ2];simp only;rw [if_neg (by omega),if_neg (by omega)]
  have zB2:z2 b=99:=by rw [z2c b (.inl (by omega))];exact G.zb
  have zqb:∀a,qb=some a->z2 a.block=99:=λ a ha=> by rw [z2c _ (.inl (by have:=hqb a ha;omega))];exact G.q.1 a ha
  have zqk:∀a,qk=some a->z2 a.block=99:=λ a ha=> by rw [z2c _ (.inl (by have:=hqk a ha;omega))];exact G.q.2 a ha
  have zbt:z2 H1.length=99:=by rw [z2c _ (.inl (by omega))];exact G.zz _ (.inr (by omega))
  have hcat:(List.range i).flatMap (bd (sgOf bs t zs k) P)++ [.int .i64 y.2, .pointer (pp (w,h) H2.length), .pointer (pp (w,h) mm)]=(List.range (i+1)).flatMap (bd (sgOf bs t zs k) Q2):=by
   rw [List.range_succ,List.flatMap_append,ARQ (sgOf bs t zs k) i Qc]
   congr 1
   simp only [List.flatMap_cons,List.flatMap_nil,List.append_nil]
   unfold bd
   rw [Qa,Qb,hsz,hpl]
  have st6:∀x,x < H3.length->z2 x≠99->hblk H6 x=hblk H3 x:=λ x hx hne=> k6 x hx ⟨λ e=> hne (by rw [e];exact zB2),λ s hs a ha e=> by
   simp only [List.cons_append,List.nil_append,List.mem_cons,List.not_mem_nil,or_false] at hs
   rcases hs with rfl|rfl
   . exact hne (by rw [←e];exact zqb a ha)
   . exact hne (by rw [←e];exact zqk a ha)⟩
  have G6':PG N b H6 t (some ⟨H3.length+1,0,none⟩) (i+1) unk ((List.range (i+1)).flatMap (bd (sgOf bs t zs k) Q2)) qk ck (blks 0 ((zs.map Prod.fst).take i)++blkN i w 0):=by
   have:blks 0 ((zs.map Prod.fst).take i)++blkN i w 0=blks 0 ((zs.map Prod.fst).take i):=by simp [blkN]
   unfold PG
   rw [this,←hcat]
   exact G6
  obtain ⟨H7,qk',ck',e7,G7,o7,f7,n7⟩:=nl7 k (bg:=H.length) (w:=w) (h:=h) (M:=blks 0 ((zs.map Prod.fst).take i)) i hwh hMl hNb qp zs.length cp qg zs.length cg ((zs.length:Nat):Int) (i:Int) (w * h) k 0 (by omega) (by omega) H6 qk ck G6' (by omega) g0 (by omega) (λ a ha=> by cases ha;simp only;omega) (λ a ha=> by have:=hqk a ha;omega)
  have hbk:blks 0 ((zs.map Prod.fst).take i)++blkN i w (w * h)=blks 0 ((zs.map Prod.fst).take (i+1)):=by
   rw [ANb hgz,ARO]
   unfold blkG
   rw [hw,hh]
   simp [Nat.min_eq_left (show i<=zs.length by omega)]
  rw [hbk] at G7
  have l7:=o7.1
  have o07:Old N H H7:=(o03.mono hN).trans (o6'.trans o7)
  have zn:z2 (H3.length+1)=99:=by rw [z2c _ (.inr (by omega))];exact G.zz _ (.inr (by omega))
  have st7:∀x,x < H6.length->z2 x≠99->hblk H7 x=hblk H6 x:=λ x hx hne=> f7 x hx (λ e=> hne (by rw [e];exact zB2)) (λ a ha e=> hne (by cases ha;rw [←e];exact zn)) λ a ha e=> hne (by rw [←e];exact zqk a ha)
  have d0:2 * i / 2=i:=by omega
  have d1:(2 * i+1) / 2=i:=by omega
  have N7:Nw z2 (sgOf bs t zs k) N b t H7 (i+1) (some ⟨H3.length+1,0,none⟩) unk qk' ck' (blks 0 ((zs.map Prod.fst).take (i+1))) Q2:=by
   refine ⟨G7,λ j hj hs=> ?_,λ j hj=> ?_,zB2,λ a ha=> by cases ha;exact zn,λ a ha=> ?_⟩
   . by_cases hja:j=2 * i
     . subst hja
       rw [Qa,d0,hsz]
       rw [d0,hsz] at hs
       obtain ⟨T,_⟩:=t3 hs z2 (5+2 * i) (5+(2 * i+1)) z2a z2b (by omega) (by omega)
       exact (T.same (H':=H6) λ x hx h=> st6 x hx (by omega)).same λ x hx h=> st7 x hx (by omega)
     . by_cases hjb:j=2 * i+1
       . subst hjb
         rw [Qb,d1,hsz]
         rw [d1,hsz] at hs
         obtain ⟨_,T⟩:=t3 hs z2 (5+2 * i) (5+(2 * i+1)) z2a z2b (by omega) (by omega)
         exact (T.same (H':=H6) λ x hx h=> st6 x hx (by omega)).same λ x hx h=> st7 x hx (by omega)
       . rw [Qc j (by omega)]
         have T:=G.t j (by omega) hs
         have T0:=T.zone (z':=z2) (c':=5+j) λ x hx h=> by rw [z2c x (.inl (by omega))];exact h
         have T1:=T0.same (H':=H3) λ x hx _=> o03.2 x hx
         exact (T1.same (H':=H6) λ x hx h=> st6 x hx (by omega)).same λ x hx h=> st7 x hx (by omega)
   . rw [z2c j (by omega)];exact G.zz j (by omega)
   . rcases n7 with h|h
     . rw [h] at ha;exact zqk a ha
     . have:=h a ha
       rw [z2c _ (.inr (by omega))];exact G.zz _ (.inr (by omega))
  obtain ⟨Ha,z',qb',cb',qk2,ck2,P',ea,Ga,oa⟩:=ih n (i+1) (by omega) (by omega) z2 H7 _ _ _ _ Q2 N7 (by have:=o07.1;omega) (hg.old o07) (hp.old o07)
  refine ⟨Ha,z',qb',cb',qk2,ck2,P',λ R KE=> ?_,Ga,o07.trans oa⟩
  unfold AAu AIE
  refine go_t (decide_eq_true (by omega)) ((e1 _ _).trans (AAJ m0 (AAJ m1 (AAW hH1 rfl rfl ((ep _ _).trans ((ev _ _).trans (AAW hH2 rfl rfl ((e3 _ _).trans ?_))))))))
  refine AAC (AAA (go_l m8 (AAJ t0 (AAw t1 (AAw t2 (AAD hH4 ((e5 _ _).trans (AAC (AAA ((e6 _ _).trans ?_))))))))))
  refine AAA (go_i g0 (AAA (go_i g1 ?_)))
  rw [show IntKind.wrap .i64 ((w:Int) * (h:Int))=((w * h:Nat):Int) from mulw hwh]
  refine (e7 _ _).trans ?_
  rw [w64 (n:=(i:Int)+1) (by omega) (by omega)]
  exact ea R KE
def newE (gs:List (Int×Int)) (pl:List Int):Int:=if gs.length≠pl.length∨gs.length > 3 then 4 else if (gs.zip pl).all okZ then (if sumZ (gs.zip pl) > 65536 then 5 else 0) else 2
def bkz (v:Bk):Bs:=⟨v.1,v.2.1,v.2.2,false,0,0,0,3,0,0⟩
theorem Agw (L:List Bk):L.flatMap bkc=(L.map bkz).flatMap bkp:=by
 rw [List.flatMap_map];rfl
theorem AYc {k:Nat} (hk:100000 < k) (bs:List Int) {H:Heap} {qg qp:Oa} {gs:List (Int×Int)} {pl:List Int} (cg cp:Nat) (t:Md) (hg:Shows H qg (gs.flatMap pt)) (hp:Shows H qp (ints pl)):
 ∃H' p,(∀(R:Type) (K:Oa->Int->Heap->Option R),AGC k qg gs.length cg qp pl.length cp t.1 t.2.1 t.2.2.1 t.2.2.2.1 t.2.2.2.2 H K=K p (newE gs pl) H')/\Old H.length H H'/\((newE gs pl≠0/\p=none)∨(newE gs pl=0/\∃z b qb cb kb qk ck P,p=some ⟨b,0,none⟩/\H.length<=b/\(∀j,j < H.length∨H'.length<=j->z j=99)/\PS z (sgOf bs t (gs.zip pl) k) gs.length b qb cb kb 10 qk ck P H' ((blks 0 gs).map bkz) (λ _=> nzT) 0 false)):=by
 obtain ⟨H1,hH1⟩:∃H1,H1=H++ [some (⟨[.bool t.1, .bool t.2.1, .bool t.2.2.1, .bool t.2.2.2.1, .bool t.2.2.2.2],false,0⟩:Blk)]:=⟨_,rfl⟩
 have o1:Old H.length H H1:=hH1 ▸ Old.app _ _
 have O1:Owns H1 H.length [.bool t.1, .bool t.2.1, .bool t.2.2.1, .bool t.2.2.2.1, .bool t.2.2.2.2] 0:=by rw [hH1];exact AAI H _
 have l1:H1.length=H.length+1:=by rw [hH1];simp
 by_cases h1:gs.length=pl.length
 case neg=>
  have he:newE gs pl=4:=by unfold newE;rw [if_pos (.inl h1)]
  refine ⟨H1,none,λ R K=> ?_,o1, .inl ⟨by rw [he];decide,rfl⟩⟩
  rw [he]
  unfold AGC AIq ABH AGZ
  exact AAD hH1 (go_t (bne_iff_ne.2 (by omega)) rfl)
 by_cases h2:gs.length > 3
 . have he:newE gs pl=4:=by unfold newE;rw [if_pos (.inr h2)]
   refine ⟨H1,none,λ R K=> ?_,o1, .inl ⟨by rw [he];decide,rfl⟩⟩
   rw [he]
   unfold AGC AIq ABH AGZ
   exact AAD hH1 (go_f (bne_eq_false_iff_eq.2 (by omega)) (go_t (decide_eq_true (by omega)) rfl))
 have he0:newE gs pl=if (gs.zip pl).all okZ then (if sumZ (gs.zip pl) > 65536 then 5 else 0) else 2:=by unfold newE;rw [if_neg (by omega)]
 obtain ⟨zs,hzs⟩:∃zs,zs=gs.zip pl:=⟨_,rfl⟩
 have f1:zs.map Prod.fst=gs:=by rw [hzs];exact List.map_fst_zip (by omega)
 have f2:zs.map Prod.snd=pl:=by rw [hzs];exact List.map_snd_zip (by omega)
 have f3:zs.length=gs.length:=by rw [←f1,List.length_map]
 rw [←hzs] at he0
 have hg1:=hg.keep o1
 have hp1:=hp.keep o1
 rw [←f1] at hg hg1
 rw [←f2] at hp hp1
 obtain ⟨H2,e2,o2⟩:=nl1 k (qg:=qg) (qp:=qp) (cg:=cg) (cp:=cp) (zs:=zs) (by omega) (some ⟨H.length,0,none⟩) zs.length k 0 0 (by omega) (by omega) (by omega) (by omega) H1 hg1 hp1
 rw [List.drop_zero] at e2
 have o02:Old H.length H H2:=o1.trans (o2.mono (by omega))
 have l2:=o2.1
 have front:∀(R:Type) (K:Oa->Int->Heap->Option R),AGC k qg gs.length cg qp pl.length cp t.1 t.2.1 t.2.2.1 t.2.2.2.1 t.2.2.2.2 H K=bif zs.all okZ then (bif decide (sumZ zs > 65536) then K none 5 H2 else (ldB H2 (pad (some ⟨H.length,0,none⟩) 0) λ t49=> ldB H2 (pad (some ⟨H.length,0,none⟩) 1) λ t50=> ldB H2 (pad (some ⟨H.length,0,none⟩) 2) λ t51=> ldB H2 (pad (some ⟨H.length,0,none⟩) 3) λ t52=> ldB H2 (pad (some ⟨H.length,0,none⟩) 4) λ t53=> hal H2 [.bool true,.bool false,.bool false,.bool t49,.bool t50,.bool t51,.bool t52,.bool t53,.slice none 0 0,.slice none 0 0,.int .i64 0] λ p54 H55=> AAu k (λ p57 H58=> K p57 0 H58) k qp zs.length cp p54 qg zs.length cg ((zs.length:Nat):Int) 0 H55)) else K none 2 H2:=λ R K=> by
  have f4:pl.length=zs.length:=by omega
  rw [f4,←f3]
  unfold AGC AIq ABH AGZ
  refine AAD hH1 (go_f (bne_eq_false_iff_eq.2 rfl) (go_f (decide_eq_false (by omega)) ((e2 _ _ _).trans ?_)))
  rw [Int.zero_add]
 cases hk1:zs.all okZ with
 |false=>
  refine ⟨H2,none,λ R K=> ?_,o02, .inl ⟨by rw [he0,hk1];simp,rfl⟩⟩
  rw [front,hk1,he0,hk1];rfl
 |true=>
  by_cases hs:sumZ zs > 65536
  . refine ⟨H2,none,λ R K=> ?_,o02, .inl ⟨by rw [he0,hk1,if_pos rfl,if_pos hs];decide,rfl⟩⟩
    rw [front,hk1,he0,hk1,if_pos rfl,if_pos hs]
    exact go_t rfl (go_t (decide_eq_true hs) rfl)
  have O2:=O1.old o2 (by omega)
  obtain ⟨H3,hH3⟩:∃H3,H3=H2++ [some (⟨sP t none 0 0 none 0 0,false,0⟩:Blk)]:=⟨_,rfl⟩
  have o3:Old H2.length H2 H3:=hH3 ▸ Old.app _ _
  have O3:Owns H3 H2.length (sP t none 0 0 none 0 0) 0:=by rw [hH3];exact AAI H2 _
  have o03:Old H.length H H3:=o02.trans (o3.mono (by omega))
  have G:Nw (λ _=> 99) (sgOf bs t zs k) H.length H2.length t H3 0 none 0 none 0 (blks 0 ((zs.map Prod.fst).take 0)) (λ _=> 0):=by
   refine ⟨⟨O3,λ s hs=> ?_,λ s hs=> ?_,λ s hs a ha=> ?_, ?_⟩,λ j hj=> (by omega),λ _ _=> rfl,rfl,(λ a ha=> by cases ha),λ a ha=> by cases ha⟩
   . simp only [List.mem_cons,List.not_mem_nil,or_false] at hs
     rcases hs with rfl|rfl <;> rfl
   . simp only [List.mem_cons,List.not_mem_nil,or_false] at hs
     rcases hs with rfl|rfl
     . exact .nil _ _ _
     . exact .nil _ _ _
   . simp only [List.mem_cons,List.not_mem_nil,or_false] at hs
     rcases hs with rfl|rfl <;> cases ha
   . simp
  have below:∀ {q:Oa} {cs:List Value},Shows H q cs->ShB H.length H3 q cs:=λ {q cs} h=> ⟨h.keep o03,by
   rcases h with h|⟨b,o,full,rfl,h1,_⟩
   . exact .inl h
   . exact .inr λ a ha=> by cases ha;exact h1.lt⟩
  obtain ⟨H4,z4,qb,cb,qk,ck,P,e4,G4,o4⟩:=nl5 k hk (bs:=bs) (cg:=cg) (cp:=cp) (by omega) hk1 (by omega) (by omega) zs.length k 0 (by omega) (by omega) (λ _=> 99) H3 none 0 none 0 (λ _=> 0) G (by have:=o03.1;omega) (below hg) (below hp)
  rw [f1,f3,hzs] at G4
  have hz:newE gs pl=0:=by rw [he0,hk1,if_pos rfl,if_neg hs]
  have hfb:=G4.w.f _ (List.mem_cons_self ..)
  have hfk:=G4.w.f ⟨9,10,qk,(blks 0 gs).length,ck,(blks 0 gs).flatMap bkc⟩ (by simp)
  have hdis:∀a a',qb=some a->qk=some a'->a.block≠a'.block:=λ a a' h1 h2=> (List.pairwise_cons.1 G4.w.d).1 ⟨9,10,qk,(blks 0 gs).length,ck,(blks 0 gs).flatMap bkc⟩ (by simp) a a' h1 h2
  have hlow:∀ {q:Oa} {sz l c:Nat} {cs:List Value},Bld H.length sz H4 q l c cs->∀a,q=some a->H.length<=a.block/\a.block < H4.length:=λ {q sz l c cs} h a ha=> by
   refine ⟨?_,h.below a ha⟩
   rcases h with ⟨h,_⟩|⟨b',h,_,h3,_⟩
   . rw [h] at ha;cases ha
   . rw [h] at ha;cases ha;exact h3
  have gb:=hlow hfb
  have gk:=hlow hfk
  have ab:∀a,qb=some a->a.block≠H2.length:=λ a ha=> G4.w.a _ (List.mem_cons_self ..) a ha
  have ak:∀a,qk=some a->a.block≠H2.length:=λ a ha=> G4.w.a ⟨9,10,qk,(blks 0 gs).length,ck,(blks 0 gs).flatMap bkc⟩ (by simp) a ha
  have mp:∀ {q:Oa} {x:Nat},q.map Addr.block=some x->∃a,q=some a/\a.block=x:=λ {q x} h=> by
   cases hq:q with
   |none=> rw [hq] at h;cases h
   |some a=>
    rw [hq] at h
    simp only [Option.map_some,Option.some.injEq] at h
    exact ⟨a,rfl,h⟩
  have hbl:=G4.w.o.lt
  obtain ⟨zF,hzF⟩:∃zF:Nat->Nat,zF=λ x=> if x=H2.length then 0 else if qb.map Addr.block=some x then 1 else if qk.map Addr.block=some x then 2 else z4 x:=⟨_,rfl⟩
  have zFo:∀x,x≠H2.length->(∀a,qb=some a->a.block≠x)->(∀a,qk=some a->a.block≠x)->zF x=z4 x:=λ x h1 h2 h3=> by
   rw [hzF];simp only
   rw [if_neg h1,if_neg,if_neg]
   . intro hh
     obtain ⟨a,ha,e⟩:=mp hh
     exact h3 a ha e
   . intro hh
     obtain ⟨a,ha,e⟩:=mp hh
     exact h2 a ha e
  have zFb:∀a,qb=some a->zF a.block=1:=λ a ha=> by
   rw [hzF];simp only
   rw [if_neg (ab a ha),if_pos (by rw [ha];rfl)]
  have zFk:∀a,qk=some a->zF a.block=2:=λ a ha=> by
   rw [hzF];simp only
   rw [if_neg (ak a ha),if_neg,if_pos (by rw [ha];rfl)]
   intro hh
   obtain ⟨a',ha',e⟩:=mp hh
   exact hdis a' a ha' ha e
  have zFt:∀x,z4 x≠99->zF x=z4 x:=λ x h=> zFo x (λ e=> h (by rw [e];exact G4.zb)) (λ a ha e=> h (by rw [←e];exact G4.q.1 a ha)) λ a ha e=> h (by rw [←e];exact G4.q.2 a ha)
  have hll:((blks 0 gs).map bkz).length=(blks 0 gs).length:=List.length_map ..
  refine ⟨H4,some ⟨H2.length,0,none⟩,λ R K=> ?_,o03.trans o4, .inr ⟨hz,zF,_,qb,cb,(qk.map Addr.block).getD 0,qk,ck,P,rfl,by omega,λ j hj=> ?_,⟨?_,hfb.shows.1, ?_,λ j hj hs=> (G4.t j hj hs).zone λ x hx h=> by rw [zFt x (by omega)];exact h,by rw [hzF];exact if_pos rfl,zFb⟩⟩⟩
  . rw [front,hk1,hz]
    refine go_t rfl (go_f (decide_eq_false hs) ?_)
    exact AAH (O2.sees.cell 0) (AAH (O2.sees.cell 1) (AAH (O2.sees.cell 2) (AAH (O2.sees.cell 3) (AAH (O2.sees.cell 4) (AAD hH3 (e4 _ _))))))
  . have hj':z4 j=99:=G4.zz j hj
    rw [zFo j (by omega) (λ a ha=> by have:=gb a ha;omega) (λ a ha=> by have:=gk a ha;omega)]
    exact hj'
  . rw [hll];exact G4.w.o
  . rcases hfk with ⟨h1,h2,_,_⟩|⟨b',h1,_,h3,h4,_⟩
    . left
      simp only at h2
      rw [List.eq_nil_of_length_eq_zero h2];rfl
    . right
      simp only at h1
      have hb':(qk.map Addr.block).getD 0=b':=by rw [h1];rfl
      rw [hb']
      refine ⟨h1, ?_, ?_⟩
      . have:=zFk _ h1
        exact this
      . rw [←Agw];exact h4
open Go.Proofs.Ytmanlfonppfhaaa.FW Go.IntWalk
section
variable {z:Nat->Nat} {g:Sg} {n b:Nat} {qb:Oa} {cb kb kz:Nat} {qk:Oa} {ck:Nat} {P:Nat->Nat} {bl:List Bs} {tr:Trs} {layer:Int} {dec:Bool}
structure Cw (z':Nat->Nat) (g:Sg) (Hs:Heap) (B:Nat) (X:Oa->Nat->Nat->List Value) (tr:Trs) (H:Heap) (i:Nat) (q:Oa) (c:Nat) (P':Nat->Nat):Prop where
 w:Gw Hs.length B H (X q i c) [⟨8,3,q,i,c,(List.range i).flatMap (bd g P')⟩]
 o:OldX Hs.length B Hs H
 t:∀j,j < 2 * i->(g.sz (j / 2)).1≠0->ZT z' (5+j) H (P' j) (g.sz (j / 2)).1 (g.sz (j / 2)).2 (tr j).1 (tr j).2
 z:∀j,j < Hs.length∨H.length<=j->z' j=99
 q:∀a,q=some a->z' a.block=99
theorem Agf {k:Nat} (hk:100 < k) (hn:n<=3) {Hs:Heap} (S:PS z g n b qb cb kb kz qk ck P Hs bl tr layer dec) {B:Nat} (zB:z B=99) (hB:B < Hs.length) {X:Oa->Nat->Nat->List Value} (hX:∀q l c q' l' c',(X q l c).set 8 (.slice q' l' c')=X q' l' c') (hX8:∀q l c,(X q l c)[8]? =some (.slice q l c)):
 ∀(m f i:Nat),m < f->n=i+m->∀(H:Heap) (q:Oa) (c:Nat) (P' z':Nat->Nat),Cw z' g Hs B X tr H i q c P'->
 ∃H' q' c' P2 z2,(∀(R:Type) (KE:Oa->Heap->Option R),AAr k KE f (some ⟨B,0,none⟩) qb n cb ((n:Nat):Int) (i:Int) H=KE (some ⟨B,0,none⟩) H')/\Cw z2 g Hs B X tr H' n q' c' P2:=by
 intro m
 induction m with
 |zero=>
  intro f i hf hi H q c P' z' C
  obtain ⟨f,rfl⟩:∃n',f=n'+1:=⟨f - 1,by omega⟩
  obtain rfl:i=n:=by omega
  refine ⟨H,q,c,P',z',λ R KE=> ?_,C⟩
  unfold AAr ADe
  exact go_f (decide_eq_false (by omega)) rfl
 |succ m ih=>
  intro f i hf hi H q c P' z' C
  obtain ⟨f,rfl⟩:∃n',f=n'+1:=⟨f - 1,by omega⟩
  have hHl:=C.o.1
  have S0:=S.same (H':=H) (λ j hj hz _ _=> C.o.2 j hj λ e=> hz (by rw [e];exact zB)) hn
  obtain ⟨bb,oo,eb,mb⟩:=S0.band (i:=i) (by omega)
  have mb0:hcell H bb (oo+0)=some (.int .i64 (g.pl i)):=mb 0 (by omega)
  have mb1:hcell H bb (oo+1)=some (.pointer (pp (g.sz i) (P (2 * i)))):=mb 1 (by omega)
  have mb2:hcell H bb (oo+2)=some (.pointer (pp (g.sz i) (P (2 * i+1)))):=mb 2 (by omega)
  obtain ⟨H1,hH1⟩:∃H1,H1=H++ [some (⟨[.int .i64 (g.pl i), .pointer (pp (g.sz i) (P (2 * i))), .pointer (pp (g.sz i) (P (2 * i+1)))],false,0⟩:Blk)]:=⟨_,rfl⟩
  have o1:Old H.length H H1:=hH1 ▸ Old.app _ _
  have O1:Owns H1 H.length [.int .i64 (g.pl i), .pointer (pp (g.sz i) (P (2 * i))), .pointer (pp (g.sz i) (P (2 * i+1)))] 0:=by rw [hH1];exact AAI H _
  have l1:H1.length=H.length+1:=by rw [hH1];simp
  have S1:=S0.keep o1 hn
  have d0:2 * i / 2=i:=by omega
  have d1:(2 * i+1) / 2=i:=by omega
  obtain ⟨H2,e2,o2,t2⟩:=cloneT hk (g.sz i) (H:=H1) (p:=P (2 * i)) (z:=z) (c:=5+(2 * i)) (d:=(tr (2 * i)).1) (g:=(tr (2 * i)).2) (λ h=> by have:=S1.tree (i:=i) (w:=0) (by omega) (by omega) h;exact this)
  obtain ⟨G1,hG1⟩:∃G1,G1=H1++H2.drop H1.length:=⟨_,rfl⟩
  rw [←hG1] at o2 t2
  have S2:=S1.keep o2 hn
  have O2:=O1.old o2 O1.lt
  obtain ⟨H3,e3,o3,t3⟩:=cloneT hk (g.sz i) (H:=G1) (p:=P (2 * i+1)) (z:=z) (c:=5+(2 * i+1)) (d:=(tr (2 * i+1)).1) (g:=(tr (2 * i+1)).2) (λ h=> S2.tree (i:=i) (w:=1) (by omega) (by omega) h)
  obtain ⟨G2,hG2⟩:∃G2,G2=G1++H3.drop G1.length:=⟨_,rfl⟩
  rw [←hG2] at o3 t3
  have hl2:=o2.1
  have hl3:=o3.1
  have oG:Old H.length H G2:=o1.trans ((o2.mono (by omega)).trans (o3.mono (by omega)))
  have W2:=C.w.keep oG
  obtain ⟨H4,H5,H6,hH4,e5,e6,W6,k6,x6,n6⟩:=Gw.grow (A:= []) (B:= []) (s:=⟨8,3,q,i,c,(List.range i).flatMap (bd g P')⟩) (bytes:=24) (ec:= [.int .i64 (g.pl i), .pointer (pp (g.sz i) H1.length), .pointer (pp (g.sz i) G1.length)]) W2 (by simp) (by simp) rfl (by simp only;omega) (by omega)
  rw [hX] at W6
  have hqb:∀a,q=some a->a.block < H.length:=λ a ha=> (C.w.f _ (List.mem_singleton.2 rfl)).below a ha
  have zB':=C.z B (.inl hB)
  obtain ⟨z2,hz2⟩:∃z2:Nat->Nat,z2=λ x=> if H1.length<=x/\x < G1.length then 5+2 * i else if G1.length<=x/\x < G2.length then 5+(2 * i+1) else z' x:=⟨_,rfl⟩
  obtain ⟨P2,hP2⟩:∃P2:Nat->Nat,P2=λ x=> if x=2 * i then H1.length else if x=2 * i+1 then G1.length else P' x:=⟨_,rfl⟩
  have z2a:∀x,H1.length<=x->x < G1.length->z2 x=5+2 * i:=λ x h1 h2=> by rw [hz2];exact if_pos ⟨h1,h2⟩
  have z2b:∀x,G1.length<=x->x < G2.length->z2 x=5+(2 * i+1):=λ x h1 h2=> by rw [hz2];simp only;rw [if_neg (by omega),if_pos ⟨h1,h2⟩]
  have z2c:∀x,x < H1.length∨G2.length<=x->z2 x=z' x:=λ x h=> by rw [hz2];simp only;rw [if_neg (by omega),if_neg (by omega)]
  have P2a:P2 (2 * i)=H1.length:=by rw [hP2];exact if_pos rfl
  have P2b:P2 (2 * i+1)=G1.length:=by rw [hP2];simp only;rw [if_neg (by omega)];exact if_pos trivial
  have P2c:∀j,j < 2 * i->P2 j=P' j:=λ j hj=> by rw [hP2];simp only;rw [if_neg (by omega),if_neg (by omega)]
  have hqn:∀a,q=some a->z2 a.block=99:=λ a ha=> by rw [z2c _ (.inl (by have:=hqb a ha;omega))];exact C.q a ha
  have zB2:z2 B=99:=by rw [z2c B (.inl (by omega))];exact zB'
  have st:∀x,x < G2.length->z2 x≠99->hblk H6 x=hblk G2 x:=λ x hx h=> k6 x hx (Gw.one W2 (λ e=> h (by rw [e];exact zB2)) λ a ha e=> h (by rw [←e];exact hqn a ha))
  have hcat:(List.range i).flatMap (bd g P')++ [.int .i64 (g.pl i), .pointer (pp (g.sz i) H1.length), .pointer (pp (g.sz i) G1.length)]=(List.range (i+1)).flatMap (bd g P2):=by
   rw [List.range_succ,List.flatMap_append,ARQ g i P2c]
   congr 1
   simp only [List.flatMap_cons,List.flatMap_nil,List.append_nil]
   unfold bd
   rw [P2a,P2b]
  rw [show (⟨8,3,q,i,c,(List.range i).flatMap (bd g P')⟩:Sl).xs++ [.int .i64 (g.pl i), .pointer (pp (g.sz i) H1.length), .pointer (pp (g.sz i) G1.length)]=(List.range (i+1)).flatMap (bd g P2) from hcat] at W6
  have C6:Cw z2 g Hs B X tr H6 (i+1) (some ⟨G2.length+1,0,none⟩) unk P2:=by
   refine ⟨W6,⟨by omega,λ j hj hne=> by rw [x6.2 j hj hne,oG.2 j (by omega),C.o.2 j hj hne]⟩,λ j hj hs=> ?_,λ j hj=> ?_,λ a ha=> ?_⟩
   . by_cases hja:j=2 * i
     . subst hja
       rw [P2a,d0]
       rw [d0] at hs
       have T:=t2 hs z2 (5+2 * i) z2a
       have T':=T.same (H':=G2) λ x hx _=> o3.2 x hx
       exact T'.same λ x hx h=> st x hx (by omega)
     . by_cases hjb:j=2 * i+1
       . subst hjb
         rw [P2b,d1]
         rw [d1] at hs
         have T:=t3 hs z2 (5+(2 * i+1)) z2b
         exact T.same λ x hx h=> st x hx (by omega)
       . rw [P2c j (by omega)]
         have T:=C.t j (by omega) hs
         have T1:=T.zone (z':=z2) (c':=5+j) λ x hx h=> by rw [z2c x (.inl (by omega))];exact h
         have T2:=T1.same (H':=G2) λ x hx _=> oG.2 x hx
         exact T2.same λ x hx h=> st x hx (by omega)
   . rw [z2c j (by omega)];exact C.z j (by omega)
   . cases ha
     rw [z2c _ (.inr (by simp only;omega))]
     exact C.z _ (.inr (by simp only;omega))
  obtain ⟨H7,q',c',P3,z3,e7,C7⟩:=ih f (i+1) (by omega) (by omega) H6 _ _ P2 z2 C6
  refine ⟨H7,q',c',P3,z3,λ R KE=> ?_,C7⟩
  have m8:hcell H1 B 8=some (.slice q i c):=by
   have:=(C.w.o.old o1 C.w.o.lt).sees.cell 8
   rw [this,hX8]
  rw [AAr]
  unfold ADe
  refine go_t (decide_eq_true (by omega)) ((eb _ _).trans (AAJ mb0 (AAw mb1 (AAw mb2 (AAW hH1 rfl rfl ?_)))))
  refine AAC (AAA (go_l m8 (AAA (go_i (O1.sees.cell 0) (AAA (go_p (O1.sees.cell 1) ((e2 _ _).trans ?_)))))))
  rw [←hG1]
  refine AAA (go_p (O2.sees.cell 2) ((e3 _ _).trans ?_))
  rw [←hG2]
  refine AAD hH4 ((e5 _ _).trans (AAC (AAA ((e6 _ _).trans ?_))))
  rw [w64 (n:=(i:Int)+1) (by omega) (by omega)]
  exact e7 R KE
theorem ATD {k:Nat} (hk:100 < k) (hn:n<=3) {H:Heap} (S:PS z g n b qb cb kb kz qk ck P H bl tr layer dec) (zf:∀j,H.length<=j->z j=99) (hlen:bl.length<=65536):
 ∃H' z' B qb' cb' kb' qk' ck' P',(∀(R:Type) (K:Oa->Heap->Option R),AEP k (some ⟨b,0,none⟩) H K=K (some ⟨B,0,none⟩) H')/\PS z' g n B qb' cb' kb' 10 qk' ck' P' H' bl tr layer dec/\Old H.length H H'/\∀j,j < H.length∨H'.length<=j->z' j=99:=by
 have hx:∀o,hcell H b o=(sP' g.t qb n cb qk bl.length ck layer dec)[o]? :=λ o=> S.o.sees.cell o
 obtain ⟨H1,hH1⟩:∃H1,H1=H++ [some (⟨sP' g.t none 0 0 none 0 0 layer dec,false,0⟩:Blk)]:=⟨_,rfl⟩
 have o1:Old H.length H H1:=hH1 ▸ Old.app _ _
 have l1:H1.length=H.length+1:=by rw [hH1];simp
 have O1:Owns H1 H.length (sP' g.t none 0 0 none 0 0 layer dec) 0:=by rw [hH1];exact AAI H _
 obtain ⟨H2,hH2⟩:∃H2,H2=H1++ [some (⟨[],false,0⟩:Blk)]:=⟨_,rfl⟩
 have o2:Old H1.length H1 H2:=hH2 ▸ Old.app _ _
 have l2:H2.length=H1.length+1:=by rw [hH2];simp
 have o02:Old H.length H H2:=o1.trans (o2.mono (by omega))
 have S2:=S.keep o02 hn
 have O2:=O1.old o2 O1.lt
 have x9:hcell H2 b 9=some (.slice qk bl.length ck):=S2.o.sees.cell 9
 have hrow:Shows H2 qk (bl.flatMap bkp):=by
  rcases S2.row with h|⟨h1,_,h3⟩
  . rw [h];exact .inl rfl
  . rw [h1];exact h3.sees.shows
 obtain ⟨H3,qk',ck',e3,c3⟩:=ATu (size:=10) (bytes:=80) (n:=bl.length) H1.length hrow (AMj AOY _) (by omega)
 have o3:Old H2.length H2 H3:=by
  rcases c3 with ⟨_,h⟩|⟨_,h⟩
  . rw [h];exact .refl _ _
  . rw [h];exact Old.app _ _
 have hl3:=o3.1
 obtain ⟨H4,e4,O4,B4,n4⟩:=(O2.old o3 (by omega)).st1 (o:=9) (by simp [sP']) (.slice qk' bl.length ck')
 have O4':Owns H4 H.length (sP' g.t none 0 0 qk' bl.length ck' layer dec) 0:=O4
 have o04:Old H.length H H4:=o02.trans ((o3.mono (by omega)).trans (B4.old (Nat.le_refl _) (by omega)))
 have S4:=S.keep o04 hn
 have row4:bl= []∨qk'=some ⟨H2.length,0,none⟩/\Owns H4 H2.length (bl.flatMap bkp) 10:=by
  rcases c3 with ⟨h,_⟩|⟨h1,h2⟩
  . exact .inl (List.eq_nil_of_length_eq_zero h)
  . refine .inr ⟨h1, ?_⟩
    have:Owns H3 H2.length (bl.flatMap bkp) 10:=by rw [h2];exact AAI H2 _
    exact this.but B4 (by omega)
 have zB:=zf H.length (Nat.le_refl _)
 have C0:Cw (λ _=> 99) g H4 H.length (λ q l c=> sP' g.t q l c qk' bl.length ck' layer dec) tr H4 0 none 0 (λ _=> 0):=by
  refine ⟨⟨O4',λ t ht=> ?_,λ t ht=> ?_,λ t ht a ha=> ?_,by simp⟩,⟨Nat.le_refl _,λ _ _ _=> rfl⟩,λ j hj=> (by omega),λ _ _=> rfl,λ a ha=> by cases ha⟩
  . have ht':=List.mem_singleton.1 ht;subst ht';rfl
  . have ht':=List.mem_singleton.1 ht;subst ht';exact Bld.nil _ _ _
  . have ht':=List.mem_singleton.1 ht;subst ht';cases ha
 obtain ⟨H5,q',c',P',z',e5,C5⟩:=Agf hk hn S4 zB (B:=H.length) (by omega) (X:=λ q l c=> sP' g.t q l c qk' bl.length ck' layer dec) (λ _ _ _ _ _ _=> rfl) (λ _ _ _=> rfl) n (f:=k) 0 (by omega) (by omega) H4 none 0 (λ _=> 0) (λ _=> 99) C0
 simp only [Int.natCast_zero] at e5
 have x8:hcell H4 b 8=some (.slice qb n cb):=S4.o.sees.cell 8
 have hfq:=C5.w.f _ (List.mem_singleton.2 rfl)
 have hqge:∀a,q'=some a->H4.length<=a.block/\a.block < H5.length:=λ a ha=> by
  refine ⟨?_,hfq.below a ha⟩
  rcases hfq with ⟨h,_⟩|⟨b',h,_,h3,_⟩
  . simp only at h;rw [h] at ha;cases ha
  . simp only at h;rw [h] at ha;cases ha;exact h3
 have hl5:=C5.o.1
 obtain ⟨zF,hzF⟩:∃zF:Nat->Nat,zF=λ x=> if x=H.length then 0 else if q'.map Addr.block=some x then 1 else if bl≠ []/\x=H2.length then 2 else z' x:=⟨_,rfl⟩
 have zFB:zF H.length=0:=by rw [hzF];exact if_pos rfl
 have zFq:∀a,q'=some a->zF a.block=1:=λ a ha=> by
  have:=hqge a ha
  rw [hzF];simp only
  rw [if_neg (by omega),if_pos (by rw [ha];rfl)]
 have zFk:bl≠ []->zF H2.length=2:=λ h=> by
  rw [hzF];simp only
  rw [if_neg (by omega),if_neg,if_pos ⟨h,trivial⟩]
  intro hh
  cases hq:q' with
  |none=> rw [hq] at hh;cases hh
  |some a=>
   have:=hqge a hq
   rw [hq] at hh
   simp only [Option.map_some,Option.some.injEq] at hh
   rcases row4 with h'|⟨_,h'⟩
   . exact h h'
   . have:=h'.lt
     omega
 have zFt:∀x,z' x≠99->zF x=z' x:=λ x h=> by
  rw [hzF];simp only
  rw [if_neg (λ e=> h (by rw [e];exact C5.z _ (.inl (by omega)))),if_neg,if_neg]
  . rintro ⟨hb,e⟩
    rcases row4 with h'|⟨_,h'⟩
    . exact hb h'
    . exact h (by rw [e];exact C5.z _ (.inl h'.lt))
  . intro hh
    cases hq:q' with
    |none=> rw [hq] at hh;cases hh
    |some a=>
     rw [hq] at hh
     simp only [Option.map_some,Option.some.injEq] at hh
     exact h (by rw [←hh];exact C5.q a hq)
 refine ⟨H5,zF,H.length,q',c',H2.length,qk',ck',P',λ R K=> ?_,⟨C5.w.o,hfq.shows.1, ?_,λ j hj hs=> (C5.t j hj hs).zone λ x hx h=> by rw [zFt x (by omega)];exact h,zFB,zFq⟩,⟨by omega,λ j hj=> by rw [C5.o.2 j (by omega) (by omega),o04.2 j hj]⟩,λ j hj=> ?_⟩
 . unfold AEP AHB ABy AFt
   refine go_f rfl (AAC (AAA (go_b (hx 0) (go_f rfl ?_))))
   refine AAC (AAA (go_b (hx 1) (AAC (AAA (go_b (hx 2) (AAC (AAA ?_)))))))
   refine AAH (hx 3) (AAH (hx 4) (AAH (hx 5) (AAH (hx 6) (AAH (hx 7) (AAC (AAA (go_i (hx 10) ?_)))))))
   refine AAD hH1 (AAD hH2 (AAC (AAA (go_l x9 ((e3 _ _).trans (AAC (AAA ((e4 _ _).trans (AAC (AAA (go_l x8 ?_)))))))))))
   exact e5 _ _
 . rcases row4 with h|⟨h1,h2⟩
   . exact .inl h
   . by_cases hb:bl= []
     . exact .inl hb
     . exact .inr ⟨h1,zFk hb,h2.same (C5.o.2 _ h2.lt (by omega))⟩
 . have h1:j≠H.length:=by omega
   rw [hzF];simp only
   rw [if_neg h1,if_neg,if_neg]
   . exact C5.z j (by omega)
   . rintro ⟨hb,e⟩
     rcases row4 with h'|⟨_,h'⟩
     . exact hb h'
     . have:=h'.lt
       omega
   . intro hh
     cases hq:q' with
     |none=> rw [hq] at hh;cases hh
     |some a=>
      have:=hqge a hq
      rw [hq] at hh
      simp only [Option.map_some,Option.some.injEq] at hh
      omega
end
open Go.Proofs.Ytmanlfonppfhaaa.FW Go.IntWalk
theorem cloneR {k:Nat} {z:Nat->Nat} {c:Nat} {H:Heap} {p:Nat} {d:Bool} {g:Gn} (ab:Nat×Nat) (T:ab.1≠0->ZR z c H p ab.1 ab.2 d g):
 ∃H2,(∀(R:Type) (K:Oa->Heap->Option R),AH2 k (pp ab p) (roH H) K=K (pp ab H.length) H2)/\Old H.length H (H++H2.drop H.length)/\
  (ab.1≠0->∀(z':Nat->Nat) (c':Nat),(∀j,H.length<=j->j < (H++H2.drop H.length).length->z' j=c')->ZR z' c' (H++H2.drop H.length) H.length ab.1 ab.2 d g):=by
 by_cases h0:ab.1=0
 . refine ⟨roH H,λ R K=> ?_,Old.app _ _,λ h=> (h h0).elim⟩
   unfold pp
   rw [if_pos h0,if_pos h0]
   rfl
 . obtain ⟨bn,cap,zz,F,T,hr,G,hg,_,_⟩:=(T h0).t
   have hb:0 < base ab.1 ab.2 (LL ab.1 ab.2):=by
    have h1:=AOZ (a:=ab.1) (b:=ab.2) (L:=LL ab.1 ab.2) (i:=0) (j:=0) G.pos (by rw [AJU G.a1,AJU G.b1];exact Nat.mul_pos (by have:=G.a1;omega) (by have:=G.b1;omega))
    omega
   have hbs:=G.bs
   have x:∀o,hcell (roH H) p o=_:=λ o=> T.o.sees.ro.cell o
   obtain ⟨H1,hH1⟩:∃H1,H1=roH H++ [some (⟨[.bool true, .int .i64 (ab.1:Int), .int .i64 (ab.2:Int), .slice (some ⟨bn,0,none⟩) (base ab.1 ab.2 (LL ab.1 ab.2)) cap, .bool false, .bool d],false,0⟩:Blk)]:=⟨_,rfl⟩
   have o1:Old (roH H).length (roH H) H1:=hH1 ▸ Old.app _ _
   have O1:Owns H1 (roH H).length [.bool true, .int .i64 (ab.1:Int), .int .i64 (ab.2:Int), .slice (some ⟨bn,0,none⟩) (base ab.1 ab.2 (LL ab.1 ab.2)) cap, .bool false, .bool d] 0:=by rw [hH1];exact AAI _ _
   rw [ANq] at o1 O1
   have l1:H1.length=H.length+1:=by rw [hH1];simp [ANq]
   obtain ⟨H2,hH2⟩:∃H2,H2=H1++ [some (⟨[],false,0⟩:Blk)]:=⟨_,rfl⟩
   have o2:Old H1.length H1 H2:=hH2 ▸ Old.app _ _
   have l2:H2.length=H1.length+1:=by rw [hH2];simp
   have o02:Old H.length (roH H) H2:=o1.trans (o2.mono (by omega))
   have hS:Shows H2 (some ⟨bn,0,none⟩) (nds (base ab.1 ab.2 (LL ab.1 ab.2)) F):=(T.n.sees.ro.old o02 T.n.lt).shows
   obtain ⟨H3,q3,c3,e3,r3⟩:=ATu (size:=3) (bytes:=24) (n:=base ab.1 ab.2 (LL ab.1 ab.2)) H1.length hS (AMK _ _) (by omega)
   rcases r3 with ⟨h,_⟩|⟨rfl,hH3⟩
   . omega
   have o3:Old H2.length H2 H3:=hH3 ▸ Old.app _ _
   have l3:H3.length=H2.length+1:=by rw [hH3];simp
   have N3:Owns H3 H2.length (nds (base ab.1 ab.2 (LL ab.1 ab.2)) F) 3:=by rw [hH3];exact AAI _ _
   have O3:=(O1.old o2 (by omega)).old o3 (by omega)
   obtain ⟨H4,e4,O4,B4,n4⟩:=O3.st1 (o:=3) (by simp) (.slice (some ⟨H2.length,0,none⟩) (base ab.1 ab.2 (LL ab.1 ab.2)) c3)
   have O4':Owns H4 H.length [.bool true, .int .i64 (ab.1:Int), .int .i64 (ab.2:Int), .slice (some ⟨H2.length,0,none⟩) (base ab.1 ab.2 (LL ab.1 ab.2)) c3, .bool false, .bool d] 0:=O4
   have N4:=N3.but B4 (by omega)
   have y3:hcell H2 p 3=some (.slice (some ⟨bn,0,none⟩) (base ab.1 ab.2 (LL ab.1 ab.2)) cap):=(T.o.sees.ro.old o02 T.o.lt).cell 3
   have hG:(H++H4.drop H.length).length=H4.length:=by rw [List.length_append,List.length_drop];omega
   refine ⟨H4,λ R K=> ?_,Old.app _ _,λ _ z' c' hz=> ⟨⟨H2.length,c3,3,F,⟨O4'.same (ARa (Nat.le_refl _)),N4.same (ARa (by omega)),by omega,Nat.zero_le _,Nat.zero_le _⟩,hr,G,hg,hz _ (Nat.le_refl _) (by omega),hz _ (by omega) (by omega)⟩⟩⟩
   rw [AKH p h0,AKH _ h0]
   unfold AH2 AKU AEM AIT
   refine go_f rfl (AAC (AAA (go_b (x 0) (go_f rfl (AAC ?_)))))
   refine AAH (x 0) (AAJ (x 1) (AAJ (x 2) (AAY (x 3) (AAH (x 4) (AAH (x 5) (AAW hH1 rfl rfl (AAD hH2 (AAC (AAA (go_l y3 ((e3 _ _).trans ?_)))))))))))
   rw [ANq]
   exact AAA ((e4 _ _).trans rfl)
def sC (t:Md) (qv:Oa) (n cv:Nat) (qi:Oa) (li ci:Nat) (qm:Oa) (lm cm:Nat) (qk:Oa) (lk ck:Nat) (layer:Int) (dec:Bool):List Value:= [.bool true, .slice qv n cv, .bool t.1, .bool t.2.1, .bool t.2.2.1, .bool t.2.2.2.1, .bool t.2.2.2.2, .slice qi li ci, .slice qm lm cm, .slice qk lk ck, .int .i64 layer, .bool false, .bool dec, .slice none 0 0, .slice none 0 0]
theorem ARx (g:Sg) {P P':Nat->Nat}:∀(i:Nat),(∀j,j < 2 * i->P j=P' j)->(List.range i).flatMap (ri g P)=(List.range i).flatMap (ri g P')/\(List.range i).flatMap (rm g P)=(List.range i).flatMap (rm g P'):=by
 intro i
 induction i with
 |zero=> intro _;exact ⟨rfl,rfl⟩
 |succ i ih=>
  intro h
  obtain ⟨h1,h2⟩:=ih λ j hj=> h j (by omega)
  rw [List.range_succ,List.flatMap_append,List.flatMap_append,List.flatMap_append,List.flatMap_append,h1,h2]
  unfold ri rm
  simp only [List.flatMap_cons,List.flatMap_nil,List.append_nil]
  rw [h (2 * i) (by omega),h (2 * i+1) (by omega)]
  exact ⟨rfl,rfl⟩
section
variable {z:Nat->Nat} {g:Sg} {n b:Nat} {Q:Qs} {kb kz:Nat} {P:Nat->Nat} {bl:List Bs} {tr:Trs} {layer:Int} {dec:Bool}
structure Cv (z':Nat->Nat) (g:Sg) (Hs:Heap) (B:Nat) (X:Oa->Nat->Nat->Oa->Nat->Nat->List Value) (tr:Trs) (H:Heap) (i:Nat) (qi:Oa) (ci:Nat) (qm:Oa) (cm:Nat) (P':Nat->Nat):Prop where
 w:Gw Hs.length B H (X qi i ci qm i cm) [⟨7,1,qi,i,ci,(List.range i).flatMap (ri g P')⟩,⟨8,1,qm,i,cm,(List.range i).flatMap (rm g P')⟩]
 o:OldX Hs.length B Hs H
 t:∀j,j < 2 * i->(g.sz (j / 2)).1≠0->ZR z' (5+j) H (P' j) (g.sz (j / 2)).1 (g.sz (j / 2)).2 (tr j).1 (tr j).2
 z:∀j,j < Hs.length∨H.length<=j->z' j=99
 q:(∀a,qi=some a->z' a.block=99)/\∀a,qm=some a->z' a.block=99
theorem Gw.two {N b:Nat} {H:Heap} {X:List Value} {s t:Sl} (G:Gw N b H X [s,t]) {j:Nat} (h1:j≠b) (h2:∀a,s.q=some a->a.block≠j) (h3:∀a,t.q=some a->a.block≠j):Ot b [s,t] j:=⟨h1,λ u hu a ha=> by
 simp only [List.mem_cons,List.not_mem_nil,or_false] at hu
 rcases hu with rfl|rfl
 . exact h2 a ha
 . exact h3 a ha⟩
theorem Agj {k:Nat} (hn:n<=3) {Hs:Heap} (S:RT z g n b Q kb kz P Hs bl tr layer dec) {B:Nat} (zB:z B=99) (hB:B < Hs.length) {X:Oa->Nat->Nat->Oa->Nat->Nat->List Value} (hX7:∀q l c r m d q' l' c',(X q l c r m d).set 7 (.slice q' l' c')=X q' l' c' r m d) (hX8:∀q l c r m d q' l' c',(X q l c r m d).set 8 (.slice q' l' c')=X q l c q' l' c') (hg7:∀q l c r m d,(X q l c r m d)[7]? =some (.slice q l c)) (hg8:∀q l c r m d,(X q l c r m d)[8]? =some (.slice r m d)):
 ∀(m f i:Nat),m < f->n=i+m->∀(H:Heap) (qi:Oa) (ci:Nat) (qm:Oa) (cm:Nat) (P' z':Nat->Nat),Cv z' g Hs B X tr H i qi ci qm cm P'->
 ∃H' qi' ci' qm' cm' P2 z2,(∀(R:Type) (KE:Oa->Oa->Heap->Option R),AB4 k KE f (some ⟨b,0,none⟩) (some ⟨B,0,none⟩) (i:Int) H=KE (some ⟨b,0,none⟩) (some ⟨B,0,none⟩) H')/\Cv z2 g Hs B X tr H' n qi' ci' qm' cm' P2:=by
 intro m
 induction m with
 |zero=>
  intro f i hf hi H qi ci qm cm P' z' C
  obtain ⟨f,rfl⟩:∃n',f=n'+1:=⟨f - 1,by omega⟩
  obtain rfl:i=n:=by omega
  have S0:=S.same (H':=H) (λ j hj hz _ _=> C.o.2 j hj λ e=> hz (by rw [e];exact zB)) hn
  have x7:hcell H b 7=some (.slice Q.qi i Q.ci):=S0.o.sees.cell 7
  refine ⟨H,qi,ci,qm,cm,P',z',λ R KE=> ?_,C⟩
  unfold AB4 AFh
  exact AAC (AAA (go_l x7 (go_f (decide_eq_false (by omega)) rfl)))
 |succ m ih=>
  intro f i hf hi H qi ci qm cm P' z' C
  obtain ⟨f,rfl⟩:∃n',f=n'+1:=⟨f - 1,by omega⟩
  have hHl:=C.o.1
  have S0:=S.same (H':=H) (λ j hj hz _ _=> C.o.2 j hj λ e=> hz (by rw [e];exact zB)) hn
  have x7:hcell H b 7=some (.slice Q.qi n Q.ci):=S0.o.sees.cell 7
  obtain ⟨bi,oi,eb,mb⟩:=S0.inc (i:=i) (by omega)
  have d0:2 * i / 2=i:=by omega
  have d1:(2 * i+1) / 2=i:=by omega
  obtain ⟨H2,e2,o2,t2⟩:=cloneR (k:=k) (g.sz i) (H:=H) (p:=P (2 * i)) (z:=z) (c:=5+(2 * i)) (d:=(tr (2 * i)).1) (g:=(tr (2 * i)).2) (λ h=> S0.tree (i:=i) (w:=0) (by omega) (by omega) h)
  obtain ⟨G1,hG1⟩:∃G1,G1=H++H2.drop H.length:=⟨_,rfl⟩
  rw [←hG1] at o2 t2
  have hl2:=o2.1
  have W1:=C.w.keep o2
  obtain ⟨H3,H4,H5,hH3,e4,e5,W5,k5,x5,n5⟩:=Gw.grow (A:= []) (B:= [⟨8,1,qm,i,cm,(List.range i).flatMap (rm g P')⟩]) (s:=⟨7,1,qi,i,ci,(List.range i).flatMap (ri g P')⟩) (bytes:=8) (ec:= [.pointer (pp (g.sz i) H.length)]) W1 (by simp) (by simp) rfl (by simp only;omega) (by omega)
  rw [hX7] at W5
  have x5':OldX Hs.length B Hs H5:=⟨by omega,λ j hj hne=> by rw [x5.2 j hj hne,o2.2 j (by omega),C.o.2 j hj hne]⟩
  have S5:=S.same (H':=H5) (λ j hj hz _ _=> x5'.2 j hj λ e=> hz (by rw [e];exact zB)) hn
  have x8:hcell H5 b 8=some (.slice Q.qm n Q.cm):=S5.o.sees.cell 8
  obtain ⟨bm,om,eb2,mb2⟩:=S5.mis (i:=i) (by omega)
  obtain ⟨H6,e6,o6,t6⟩:=cloneR (k:=k) (g.sz i) (H:=H5) (p:=P (2 * i+1)) (z:=z) (c:=5+(2 * i+1)) (d:=(tr (2 * i+1)).1) (g:=(tr (2 * i+1)).2) (λ h=> S5.tree (i:=i) (w:=1) (by omega) (by omega) h)
  obtain ⟨G2,hG2⟩:∃G2,G2=H5++H6.drop H5.length:=⟨_,rfl⟩
  rw [←hG2] at o6 t6
  have hl6:=o6.1
  have W6:=W5.keep o6
  obtain ⟨H7,H8,H9,hH7,e8,e9,W9,k9,x9,n9⟩:=Gw.grow (A:= [⟨7,1,some ⟨G1.length+1,0,none⟩,i+1,unk,(List.range i).flatMap (ri g P')++ [.pointer (pp (g.sz i) H.length)]⟩]) (B:= []) (s:=⟨8,1,qm,i,cm,(List.range i).flatMap (rm g P')⟩) (bytes:=8) (ec:= [.pointer (pp (g.sz i) H5.length)]) W6 (by simp) (by simp) rfl (by simp only;omega) (by omega)
  rw [hX8] at W9
  have hqi:∀a,qi=some a->a.block < H.length:=λ a ha=> (C.w.f ⟨7,1,qi,i,ci,(List.range i).flatMap (ri g P')⟩ (by simp)).below a ha
  have hqm:∀a,qm=some a->a.block < H.length:=λ a ha=> (C.w.f ⟨8,1,qm,i,cm,(List.range i).flatMap (rm g P')⟩ (by simp)).below a ha
  have zB':=C.z B (.inl hB)
  obtain ⟨z2,hz2⟩:∃z2:Nat->Nat,z2=λ x=> if H.length<=x/\x < G1.length then 5+2 * i else if H5.length<=x/\x < G2.length then 5+(2 * i+1) else z' x:=⟨_,rfl⟩
  obtain ⟨P2,hP2⟩:∃P2:Nat->Nat,P2=λ x=> if x=2 * i then H.length else if x=2 * i+1 then H5.length else P' x:=⟨_,rfl⟩
  have z2a:∀x,H.length<=x->x < G1.length->z2 x=5+2 * i:=λ x h1 h2=> by rw [hz2];exact if_pos ⟨h1,h2⟩
  have z2b:∀x,H5.length<=x->x < G2.length->z2 x=5+(2 * i+1):=λ x h1 h2=> by rw [hz2];simp only;rw [if_neg (by omega),if_pos ⟨h1,h2⟩]
  have z2c:∀x,x < H.length∨(G1.length<=x/\x < H5.length)∨G2.length<=x->z2 x=z' x:=λ x h=> by rw [hz2];simp only;rw [if_neg (by omega),if_neg (by omega)]
  have P2a:P2 (2 * i)=H.length:=by rw [hP2];exact if_pos rfl
  have P2b:P2 (2 * i+1)=H5.length:=by rw [hP2];simp only;rw [if_neg (by omega)];exact if_pos trivial
  have P2c:∀j,j < 2 * i->P2 j=P' j:=λ j hj=> by rw [hP2];simp only;rw [if_neg (by omega),if_neg (by omega)]
  have zB2:z2 B=99:=by rw [z2c B (.inl (by omega))];exact zB'
  have zqi:∀a,qi=some a->z2 a.block=99:=λ a ha=> by rw [z2c _ (.inl (hqi a ha))];exact C.q.1 a ha
  have zqm:∀a,qm=some a->z2 a.block=99:=λ a ha=> by rw [z2c _ (.inl (hqm a ha))];exact C.q.2 a ha
  have zn1:z2 (G1.length+1)=99:=by rw [z2c _ (.inr (.inl (by omega)))];exact C.z _ (.inr (by omega))
  have zn2:z2 (G2.length+1)=99:=by rw [z2c _ (.inr (.inr (by omega)))];exact C.z _ (.inr (by omega))
  have st5:∀x,x < G1.length->z2 x≠99->hblk H5 x=hblk G1 x:=λ x hx h=> k5 x hx (Gw.two W1 (λ e=> h (by rw [e];exact zB2)) (λ a ha e=> h (by rw [←e];exact zqi a ha)) λ a ha e=> h (by rw [←e];exact zqm a ha))
  have st9:∀x,x < G2.length->z2 x≠99->hblk H9 x=hblk G2 x:=λ x hx h=> k9 x hx (Gw.two W6 (λ e=> h (by rw [e];exact zB2)) (λ a ha e=> h (by cases ha;rw [←e];exact zn1)) λ a ha e=> h (by rw [←e];exact zqm a ha))
  have hcat:(List.range i).flatMap (ri g P')++ [.pointer (pp (g.sz i) H.length)]=(List.range (i+1)).flatMap (ri g P2):=by
   rw [List.range_succ,List.flatMap_append,(ARx g i P2c).1]
   congr 1
   simp only [List.flatMap_cons,List.flatMap_nil,List.append_nil]
   unfold ri
   rw [P2a]
  have hcat2:(List.range i).flatMap (rm g P')++ [.pointer (pp (g.sz i) H5.length)]=(List.range (i+1)).flatMap (rm g P2):=by
   rw [List.range_succ,List.flatMap_append,(ARx g i P2c).2]
   congr 1
   simp only [List.flatMap_cons,List.flatMap_nil,List.append_nil]
   unfold rm
   rw [P2b]
  have W9':Gw Hs.length B H9 (X (some ⟨G1.length+1,0,none⟩) (i+1) unk (some ⟨G2.length+1,0,none⟩) (i+1) unk) [⟨7,1,some ⟨G1.length+1,0,none⟩,i+1,unk,(List.range (i+1)).flatMap (ri g P2)⟩,⟨8,1,some ⟨G2.length+1,0,none⟩,i+1,unk,(List.range (i+1)).flatMap (rm g P2)⟩]:=by
   rw [←hcat,←hcat2]
   exact W9
  have C9:Cv z2 g Hs B X tr H9 (i+1) (some ⟨G1.length+1,0,none⟩) unk (some ⟨G2.length+1,0,none⟩) unk P2:=by
   refine ⟨W9',⟨by omega,λ j hj hne=> by rw [x9.2 j hj hne,o6.2 j (by omega),x5'.2 j hj hne]⟩,λ j hj hs=> ?_,λ j hj=> ?_,λ a ha=> by cases ha;exact zn1,λ a ha=> by cases ha;exact zn2⟩
   . by_cases hja:j=2 * i
     . subst hja
       rw [P2a,d0]
       rw [d0] at hs
       have T:=t2 hs z2 (5+2 * i) z2a
       have T1:=T.same (H':=H5) λ x hx h=> st5 x hx (by omega)
       have T2:=T1.same (H':=G2) λ x hx _=> o6.2 x hx
       exact T2.same λ x hx h=> st9 x hx (by omega)
     . by_cases hjb:j=2 * i+1
       . subst hjb
         rw [P2b,d1]
         rw [d1] at hs
         have T:=t6 hs z2 (5+(2 * i+1)) z2b
         exact T.same λ x hx h=> st9 x hx (by omega)
       . rw [P2c j (by omega)]
         have T:=C.t j (by omega) hs
         have T0:=T.zone (z':=z2) (c':=5+j) λ x hx h=> by rw [z2c x (.inl hx)];exact h
         have T1:=T0.same (H':=G1) λ x hx _=> o2.2 x hx
         have T2:=T1.same (H':=H5) λ x hx h=> st5 x hx (by omega)
         have T3:=T2.same (H':=G2) λ x hx _=> o6.2 x hx
         exact T3.same λ x hx h=> st9 x hx (by omega)
   . rw [z2c j (by omega)];exact C.z j (by omega)
  obtain ⟨Ha,qi',ci',qm',cm',P3,z3,ea,Ca⟩:=ih f (i+1) (by omega) (by omega) H9 _ _ _ _ P2 z2 C9
  refine ⟨Ha,qi',ci',qm',cm',P3,z3,λ R KE=> ?_,Ca⟩
  have m7:hcell H B 7=some (.slice qi i ci):=by rw [C.w.o.sees.cell 7,hg7]
  have m8:hcell H5 B 8=some (.slice qm i cm):=by rw [W5.o.sees.cell 8,hg8]
  rw [AB4]
  unfold AFh
  refine AAC (AAA (go_l x7 (go_t (decide_eq_true (by omega)) (AAA (go_l m7 (AAC (AAA (go_l x7 ((eb _ _).trans (go_p mb ((e2 _ _).trans ?_)))))))))))
  rw [←hG1]
  refine AAD hH3 ((e4 _ _).trans (AAA ((e5 _ _).trans (AAA (go_l m8 (AAC (AAA (go_l x8 ((eb2 _ _).trans (go_p mb2 ((e6 _ _).trans ?_)))))))))))
  rw [←hG2]
  refine AAD hH7 ((e8 _ _).trans (AAA ((e9 _ _).trans ?_)))
  rw [w64 (n:=(i:Int)+1) (by omega) (by omega)]
  exact ea R KE
theorem ATK {k:Nat} (hk:100 < k) (hn:n<=3) {H:Heap} (S:RT z g n b Q kb kz P H bl tr layer dec) (zf:∀j,H.length<=j->z j=99) (hqv:∀a,Q.qv=some a->a.block < H.length) (hlen:bl.length<=65536):
 ∃H' z' B Q' kb' P',(∀(R:Type) (K:Oa->Heap->Option R),AHH k (some ⟨b,0,none⟩) H K=K (some ⟨B,0,none⟩) H')/\RT z' g n B Q' kb' 8 P' H' bl tr layer dec/\Old H.length H H'/\H.length<=B/\Q'.qv=Q.qv/\(∀j,H'.length<=j->z' j=99)/\(∀j,j < H.length->z' j=99∨(z' j=1/\∃a,Q.qv=some a/\a.block=j)):=by
 have hx:∀o,hcell H b o=(sR' g.t Q.qv n Q.cv Q.qi Q.ci Q.qm Q.cm Q.qk bl.length Q.ck layer dec)[o]? :=λ o=> S.o.sees.cell o
 obtain ⟨H1,hH1⟩:∃H1,H1=H++ [some (⟨sC g.t Q.qv n Q.cv Q.qi n Q.ci Q.qm n Q.cm Q.qk bl.length Q.ck layer dec,false,0⟩:Blk)]:=⟨_,rfl⟩
 have o1:Old H.length H H1:=hH1 ▸ Old.app _ _
 have l1:H1.length=H.length+1:=by rw [hH1];simp
 have O1:Owns H1 H.length (sC g.t Q.qv n Q.cv Q.qi n Q.ci Q.qm n Q.cm Q.qk bl.length Q.ck layer dec) 0:=by rw [hH1];exact AAI H _
 obtain ⟨H2,e2,O2,B2,n2⟩:=O1.st1 (o:=7) (by simp [sC]) (.slice none 0 0)
 obtain ⟨H3,e3,O3,B3,n3⟩:=O2.st1 (o:=8) (by simp [sC]) (.slice none 0 0)
 have O3':Owns H3 H.length (sC g.t Q.qv n Q.cv none 0 0 none 0 0 Q.qk bl.length Q.ck layer dec) 0:=O3
 have o03:Old H.length H H3:=o1.trans ((B2.old (Nat.le_refl _) (by omega)).trans (B3.old (Nat.le_refl _) (by omega)))
 have S3:=S.keep o03 hn
 have zB:=zf H.length (Nat.le_refl _)
 have C0:Cv (λ _=> 99) g H3 H.length (λ q l c r m d=> sC g.t Q.qv n Q.cv q l c r m d Q.qk bl.length Q.ck layer dec) tr H3 0 none 0 none 0 (λ _=> 0):=by
  refine ⟨⟨O3',λ t ht=> ?_,λ t ht=> ?_,λ t ht a ha=> ?_,by simp⟩,⟨Nat.le_refl _,λ _ _ _=> rfl⟩,λ j hj=> (by omega),λ _ _=> rfl,(λ a ha=> by cases ha),λ a ha=> by cases ha⟩
  . simp only [List.mem_cons,List.not_mem_nil,or_false] at ht
    rcases ht with rfl|rfl <;> rfl
  . simp only [List.mem_cons,List.not_mem_nil,or_false] at ht
    rcases ht with rfl|rfl <;> exact Bld.nil _ _ _
  . simp only [List.mem_cons,List.not_mem_nil,or_false] at ht
    rcases ht with rfl|rfl <;> cases ha
 obtain ⟨H5,qi,ci,qm,cm,P',z',e5,C5⟩:=Agj (k:=k) hn S3 zB (B:=H.length) (by omega) (X:=λ q l c r m d=> sC g.t Q.qv n Q.cv q l c r m d Q.qk bl.length Q.ck layer dec) (λ _ _ _ _ _ _ _ _ _=> rfl) (λ _ _ _ _ _ _ _ _ _=> rfl) (λ _ _ _ _ _ _=> rfl) (λ _ _ _ _ _ _=> rfl) n (f:=k) 0 (by omega) (by omega) H3 none 0 none 0 (λ _=> 0) (λ _=> 99) C0
 simp only [Int.natCast_zero] at e5
 have hl5:=C5.o.1
 obtain ⟨H6,hH6⟩:∃H6,H6=H5++ [some (⟨[],false,0⟩:Blk)]:=⟨_,rfl⟩
 have o6:Old H5.length H5 H6:=hH6 ▸ Old.app _ _
 have l6:H6.length=H5.length+1:=by rw [hH6];simp
 have S6:=(S3.same (H':=H5) (λ j hj hz _ _=> C5.o.2 j hj λ e=> hz (by rw [e];exact zB)) hn).keep o6 hn
 have x9:hcell H6 b 9=some (.slice Q.qk bl.length Q.ck):=S6.o.sees.cell 9
 have hrow:Shows H6 Q.qk (bl.flatMap bkr):=by
  rcases S6.row with h|⟨h1,_,h3⟩
  . rw [h];exact .inl rfl
  . rw [h1];exact h3.sees.shows
 obtain ⟨H7,qk',ck',e7,c7⟩:=ATu (size:=8) (bytes:=64) (n:=bl.length) H5.length hrow (AMj AQz _) (by omega)
 have o7:Old H6.length H6 H7:=by
  rcases c7 with ⟨_,h⟩|⟨_,h⟩
  . rw [h];exact .refl _ _
  . rw [h];exact Old.app _ _
 have hl7:=o7.1
 have O7:=(C5.w.o.old o6 C5.w.o.lt).old o7 (by omega)
 obtain ⟨H8,e8,O8,B8,n8⟩:=O7.st1 (o:=9) (by simp [sC]) (.slice qk' bl.length ck')
 have O8':Owns H8 H.length (sR' g.t Q.qv n Q.cv qi ci qm cm qk' bl.length ck' layer dec) 0:=O8
 have o58:∀j,j < H5.length->j≠H.length->hblk H8 j=hblk H5 j:=λ j hj hne=> by rw [B8.2 j (by omega) hne,o7.2 j (by omega),o6.2 j hj]
 have row8:bl= []∨qk'=some ⟨H6.length,0,none⟩/\Owns H8 H6.length (bl.flatMap bkr) 8:=by
  rcases c7 with ⟨h,_⟩|⟨h1,h2⟩
  . exact .inl (List.eq_nil_of_length_eq_zero h)
  . refine .inr ⟨h1, ?_⟩
    have:Owns H7 H6.length (bl.flatMap bkr) 8:=by rw [h2];exact AAI H6 _
    exact this.but B8 (by omega)
 have hf7:=C5.w.f _ (List.mem_cons_self ..)
 have hf8:=C5.w.f ⟨8,1,qm,n,cm,(List.range n).flatMap (rm g P')⟩ (by simp)
 have ge:∀ {q:Oa} {l c:Nat} {cs:List Value},Bld H3.length 1 H5 q l c cs->∀a,q=some a->H3.length<=a.block/\a.block < H5.length:=λ {q l c cs} h a ha=> by
  refine ⟨?_,h.below a ha⟩
  rcases h with ⟨h,_⟩|⟨b',h,_,h3,_⟩
  . rw [h] at ha;cases ha
  . rw [h] at ha;cases ha;exact h3
 have gi:=ge hf7
 have gm:=ge hf8
 obtain ⟨zF,hzF⟩:∃zF:Nat->Nat,zF=λ x=> if x=H.length then 0 else if qi.map Addr.block=some x∨qm.map Addr.block=some x∨Q.qv.map Addr.block=some x then 1 else if bl≠ []/\x=H6.length then 2 else z' x:=⟨_,rfl⟩
 have mp:∀ {q:Oa} {x:Nat},q.map Addr.block=some x->∃a,q=some a/\a.block=x:=λ {q x} h=> by
  cases hq:q with
  |none=> rw [hq] at h;cases h
  |some a=>
   rw [hq] at h
   simp only [Option.map_some,Option.some.injEq] at h
   exact ⟨a,rfl,h⟩
 have zFB:zF H.length=0:=by rw [hzF];exact if_pos rfl
 have zF1:∀x,x≠H.length->(qi.map Addr.block=some x∨qm.map Addr.block=some x∨Q.qv.map Addr.block=some x)->zF x=1:=λ x h1 h2=> by
  rw [hzF];simp only
  rw [if_neg h1,if_pos h2]
 have zFk:bl≠ []->zF H6.length=2:=λ h=> by
  rw [hzF];simp only
  rw [if_neg (by omega),if_neg,if_pos ⟨h,trivial⟩]
  rintro (hh|hh|hh)
  . obtain ⟨a,ha,e⟩:=mp hh
    have:=gi a ha
    omega
  . obtain ⟨a,ha,e⟩:=mp hh
    have:=gm a ha
    omega
  . obtain ⟨a,ha,e⟩:=mp hh
    have:=hqv a ha
    omega
 have zFt:∀x,z' x≠99->zF x=z' x:=λ x h=> by
  have hx5:H3.length<=x/\x < H5.length:=by
   refine Decidable.byContradiction λ hc=> h (C5.z x (by omega))
  rw [hzF];simp only
  rw [if_neg (by omega),if_neg,if_neg]
  . rintro ⟨_,e⟩;omega
  . rintro (hh|hh|hh)
    . obtain ⟨a,ha,e⟩:=mp hh
      exact h (by rw [←e];exact C5.q.1 a ha)
    . obtain ⟨a,ha,e⟩:=mp hh
      exact h (by rw [←e];exact C5.q.2 a ha)
    . obtain ⟨a,ha,e⟩:=mp hh
      have:=hqv a ha
      omega
 have oH:Old H.length H H8:=⟨by omega,λ j hj=> by rw [o58 j (by omega) (by omega),C5.o.2 j (by omega) (by omega),o03.2 j hj]⟩
 refine ⟨H8,zF,H.length,⟨Q.qv,Q.cv,qi,ci,qm,cm,qk',ck'⟩,H6.length,P',λ R K=> ?_,⟨O8', ?_, ?_, ?_, ?_,λ j hj hs=> ((C5.t j hj hs).zone λ x hx h=> by rw [zFt x (by omega)];exact h).same λ x hx h=> ?_,zFB,λ a ha=> ?_,λ a ha=> ?_,λ a ha=> ?_⟩,oH,Nat.le_refl _,rfl,λ j hj=> ?_,λ j hj=> ?_⟩
 . unfold AHH AJa ACh AGb
   refine go_t rfl (AAC (AAA (go_b (hx 0) (go_f rfl (AAC ?_)))))
   refine AAH (hx 0) (AAY (hx 1) (AAH (hx 2) (AAH (hx 3) (AAH (hx 4) (AAH (hx 5) (AAH (hx 6) (AAY (hx 7) (AAY (hx 8) (AAY (hx 9) (AAJ (hx 10) (AAH (hx 11) (AAH (hx 12) (AAY (hx 13) (AAY (hx 14) (AAW hH1 rfl rfl ?_)))))))))))))))
   refine AAA ((e2 _ _).trans (AAA ((e3 _ _).trans ((e5 _ _).trans ?_))))
   exact AAD hH6 (AAC (AAA (go_l x9 ((e7 _ _).trans (AAA ((e8 _ _).trans rfl))))))
 . exact S.vr.keep oH
 . exact hf7.shows.1.same λ a ha=> o58 _ (gi a ha).2 (by have:=gi a ha;omega)
 . exact hf8.shows.1.same λ a ha=> o58 _ (gm a ha).2 (by have:=gm a ha;omega)
 . rcases row8 with h|⟨h1,h2⟩
   . exact .inl h
   . by_cases hb:bl= []
     . exact .inl hb
     . exact .inr ⟨h1,zFk hb,h2⟩
 . exact o58 x hx (λ e=> by rw [e,zFB] at h;omega)
 . exact zF1 _ (by have:=hqv a ha;omega) (.inr (.inr (by rw [show Q.qv=some a from ha];rfl)))
 . exact zF1 _ (by have:=gi a ha;omega) (.inl (by rw [show qi=some a from ha];rfl))
 . exact zF1 _ (by have:=gm a ha;omega) (.inr (.inl (by rw [show qm=some a from ha];rfl)))
 . rw [hzF];simp only
   rw [if_neg (by omega),if_neg,if_neg]
   . exact C5.z j (.inr (by omega))
   . rintro ⟨hb,e⟩
     rcases row8 with h'|⟨_,h'⟩
     . exact hb h'
     . have:=h'.lt
       omega
   . rintro (hh|hh|hh)
     . obtain ⟨a,ha,e⟩:=mp hh
       have:=gi a ha
       omega
     . obtain ⟨a,ha,e⟩:=mp hh
       have:=gm a ha
       omega
     . obtain ⟨a,ha,e⟩:=mp hh
       have:=hqv a ha
       omega
 . by_cases hh:Q.qv.map Addr.block=some j
   . exact .inr ⟨zF1 j (by omega) (.inr (.inr hh)),mp hh⟩
   . left
     rw [hzF];simp only
     rw [if_neg (by omega),if_neg,if_neg]
     . exact C5.z j (.inl (by omega))
     . rintro ⟨_,e⟩;omega
     . rintro (h1|h1|h1)
       . obtain ⟨a,ha,e⟩:=mp h1
         have:=gi a ha
         omega
       . obtain ⟨a,ha,e⟩:=mp h1
         have:=gm a ha
         omega
       . exact hh h1
end
open Go.Proofs.Ytmanlfonppfhaaa.FW Go.IntWalk
section
variable {z:Nat->Nat} {g:Sg} {n b:Nat} {Q:Qs} {kb kz:Nat} {P:Nat->Nat} {H H':Heap} {bl:List Bs} {tr:Trs} {layer:Int} {dec:Bool}
theorem RT.move {b2:Nat} (S:RT z g n b Q kb kz P H bl tr layer dec) (O:Owns H' b2 (sR' g.t Q.qv n Q.cv Q.qi Q.ci Q.qm Q.cm Q.qk bl.length Q.ck layer dec) 0) (B:But b2 H H') (zb:z b2=99) (hn:n<=3):RT (λ j=> if j=b2 then 0 else if j=b then 99 else z j) g n b2 Q kb kz P H' bl tr layer dec:=by
 have hne:∀j,z j≠99->j≠b2:=λ j h e=> h (by rw [e];exact zb)
 have hz:∀j,z j≠99->z j≠0->(if j=b2 then 0 else if j=b then 99 else z j)=z j:=λ j h h0=> by rw [if_neg (hne j h),if_neg λ e=> h0 (by rw [e];exact S.zb)]
 have s1:∀j,j < H.length->z j=1->hblk H' j=hblk H j:=λ j hj h=> B.2 j hj (hne j (by omega))
 have v1:∀ {q:Oa},(∀a,q=some a->z a.block=1)->∀a,q=some a->(if a.block=b2 then 0 else if a.block=b then 99 else z a.block)=1:=λ h a ha=> by
  have:=h a ha
  rw [hz _ (by omega) (by omega)];exact this
 refine ⟨O,Shows.zn S.vr S.zv s1,Shows.zn S.ir S.zi s1,Shows.zn S.mr S.zm s1, ?_,λ j hj hs=> ?_,if_pos rfl,v1 S.zv,v1 S.zi,v1 S.zm⟩
 . rcases S.row with h|⟨h1,h2,h3⟩
   . exact .inl h
   . exact .inr ⟨h1,(hz kb (by omega) (by omega)).trans h2,h3.same (B.2 _ h3.lt (hne _ (by rw [h2];omega)))⟩
 . exact ((S.tr j hj hs).same λ i hi h=> B.2 _ hi (hne _ (by rw [h];omega))).zone λ i hi h=> by have:=hz i (by omega) (by omega);omega
theorem AST {k:Nat} (hk:100000 < k) (hgk:g.kk=k) (hn:n<=3) (G:GOk g n) (S:RT z g n b Q kb kz P H bl tr layer dec) (zf:∀j,H.length<=j->z j=99) (hqv:∀a,Q.qv=some a->a.block < H.length) (hly:0<=layer/\layer<=15) (hV:∀v∈bl,VOk g n v) (hlen:bl.length<=65536) {q:Oa} (c:Nat) (hS:Shows H q (byt g.bs)) (hb:Byts g.bs):
 ∃H' q' c',(∀(R:Type) (K:Oa->Nat->Nat->Int->Int->Heap->Option R),ACu k (some ⟨b,0,none⟩) q g.bs.length c H K=if (hdr g layer bl tr).1≠0 then K none 0 0 0 (hdr g layer bl tr).1 H' else K q' bl.length c' (hdr g layer bl tr).2.2.1 0 H')/\H.length<=H'.length/\
  ((hdr g layer bl tr).1≠0->Old H.length H H')/\
  ((hdr g layer bl tr).1=0->OldX H.length b H H'/\(∃z' Q' kb' P',RT z' g n b Q' kb' 8 P' H' (hdr g layer bl tr).2.2.2.1 (hdr g layer bl tr).2.2.2.2 (layer+1) true/\Q'.qv=Q.qv/\(∀j,H'.length<=j->z' j=99)/\∀j,j < H.length->j≠b->z' j=99∨(z' j=1/\∃a,Q.qv=some a/\a.block=j))/\(∀v∈(hdr g layer bl tr).2.2.2.1,VOk g n v)/\(hdr g layer bl tr).2.2.2.1.length=bl.length/\∃D,Shows H' q' (D.flatMap cc)/\(∀a,q'=some a->H.length<=a.block)/\D.length=bl.length/\CLx H' (λ j=> H.length<=j) D (hdr g layer bl tr).2.1):=by
 have hx:∀o,hcell H b o=(sR' g.t Q.qv n Q.cv Q.qi Q.ci Q.qm Q.cm Q.qk bl.length Q.ck layer dec)[o]? :=λ o=> S.o.sees.cell o
 obtain ⟨H1,z1,B,Q1,kb1,P1,e1,S1,o1,hB,hqe,zf1,zl1⟩:=ATK (k:=k) (by omega) hn S zf hqv hlen
 have hl1:=o1.1
 have hbl:=S.o.lt
 obtain ⟨H2,z2,q',c',e2,Z2,r2⟩:=ATe hk hgk hn G S1 zf1 hly hV hlen c (hS.keep o1) hb
 have hl2:=Z2.l
 have o2:Old H.length H H2:=⟨by omega,λ j hj=> by
  rw [Z2.s j (by omega) (by rcases zl1 j hj with h|⟨h,_⟩ <;> omega),o1.2 j hj]⟩
 have z1b:z1 b=99:=by
  rcases zl1 b hbl with h|⟨_,a,ha,e⟩
  . exact h
  . have h1:=S.zv a ha
    have h0:=S.zb
    rw [e] at h1;omega
 have z2b:z2 b=99:=by rw [Z2.e b (.inl (by omega))];exact z1b
 have start:∀(R:Type) (K:Oa->Nat->Nat->Int->Int->Heap->Option R) (rr:Option R),ACW k (some ⟨B,0,none⟩) q g.bs.length c H1 (λ q20 l21 c22 n23 n24 H25=>
bif (n24 !=0) then (K none 0 0 0 n24 H25)
 else (hnil (some ⟨B,0,none⟩) λ p26=>
ldB H25 (pad p26 0) λ t27=>
ldL H25 (pad p26 1) λ q28 l29 c30=>
ldB H25 (pad p26 2) λ t31=>
ldB H25 (pad p26 3) λ t32=>
ldB H25 (pad p26 4) λ t33=>
ldB H25 (pad p26 5) λ t34=>
ldB H25 (pad p26 6) λ t35=>
ldL H25 (pad p26 7) λ q36 l37 c38=>
ldL H25 (pad p26 8) λ q39 l40 c41=>
ldL H25 (pad p26 9) λ q42 l43 c44=>
ldI .i64 H25 (pad p26 10) λ n45=>
ldB H25 (pad p26 11) λ t46=>
ldB H25 (pad p26 12) λ t47=>
ldL H25 (pad p26 13) λ q48 l49 c50=>
ldL H25 (pad p26 14) λ q51 l52 c53=>
hnil (some ⟨b,0,none⟩) λ p54=>
hst H25 p54 [.bool t27,.slice q28 l29 c30,.bool t31,.bool t32,.bool t33,.bool t34,.bool t35,.slice q36 l37 c38,.slice q39 l40 c41,.slice q42 l43 c44,.int .i64 n45,.bool t46,.bool t47,.slice q48 l49 c50,.slice q51 l52 c53] λ H55=>
K q20 l21 c22 n23 0 H55))=rr->ACu k (some ⟨b,0,none⟩) q g.bs.length c H K=rr:=by
  intro R K rr h
  unfold ACu AJF ADF AHG ACh AGb
  refine go_t rfl (AAC (AAA (go_b (hx 0) (go_f rfl (AAC (AAA (go_b (hx 11) (go_f rfl (AAC (AAA (go_i (hx 10) ?_)))))))))))
  exact go_f (decide_eq_false (by omega)) ((e1 _ _).trans h)
 by_cases hc:(hdr g layer bl tr).1≠0
 . refine ⟨H2,none,0,λ R K=> start R K _ ?_,o2.1,λ _=> o2,λ h=> (hc h).elim⟩
   refine (e2 _ _).trans ?_
   rw [if_pos hc,if_pos hc]
   exact go_t (bne_iff_ne.2 hc) rfl
 have hc0:(hdr g layer bl tr).1=0:=Classical.byContradiction hc
 obtain ⟨S3,V3,n3,D,hD,d3,zq3,C3⟩:=r2 hc0
 have y:∀o,hcell H2 B o=(sR' g.t Q1.qv n Q1.cv Q1.qi Q1.ci Q1.qm Q1.cm Q1.qk (hdr g layer bl tr).2.2.2.1.length Q1.ck (layer+1) true)[o]? :=λ o=> S3.o.sees.cell o
 have Ob:Owns H2 b (sR' g.t Q.qv n Q.cv Q.qi Q.ci Q.qm Q.cm Q.qk bl.length Q.ck layer dec) 0:=S.o.old o2 hbl
 obtain ⟨H4,e4,O4,n4,s4⟩:=AKR (o:=0) (vs:=sR' g.t Q1.qv n Q1.cv Q1.qi Q1.ci Q1.qm Q1.cm Q1.qk (hdr g layer bl tr).2.2.2.1.length Q1.ck (layer+1) true) Ob (by simp [sR']) rfl
 have O4':Owns H4 b (sR' g.t Q1.qv n Q1.cv Q1.qi Q1.ci Q1.qm Q1.cm Q1.qk (hdr g layer bl tr).2.2.2.1.length Q1.ck (layer+1) true) 0:=O4
 have B4:But b H2 H4:=⟨by omega,λ j _ h=> s4 j h⟩
 have zB1:z2 B=0:=S3.zb
 refine ⟨H4,q',c',λ R K=> start R K _ ?_,by omega,λ h=> (hc h).elim,λ _=> ⟨⟨by omega,λ j hj h=> by rw [s4 j h,o2.2 j hj]⟩,⟨_,Q1,kb1,P1,S3.move O4' B4 z2b hn,hqe,λ j hj=> ?_,λ j hj hjb=> ?_⟩,V3,n3,D,hD.but B4 (λ a ha=> by have:=zq3 a ha;omega),(λ a ha=> by have:=zq3 a ha;omega),d3,C3.same (λ j hj h=> ⟨s4 j (by omega),by omega⟩) λ j _ h=> by omega⟩⟩
 . refine (e2 _ _).trans ?_
   rw [if_neg hc,if_neg hc]
   refine go_f rfl (AAC (AAH (y 0) (AAY (y 1) (AAH (y 2) (AAH (y 3) (AAH (y 4) (AAH (y 5) (AAH (y 6) (AAY (y 7) (AAY (y 8) (AAY (y 9) (AAJ (y 10) (AAH (y 11) (AAH (y 12) (AAY (y 13) (AAY (y 14) (AAC ?_)))))))))))))))))
   exact e4 _ _
 . show (if j=b then 0 else if j=B then 99 else z2 j)=99
   have hBl:=S3.o.lt
   rw [if_neg (by omega),if_neg (by omega),Z2.e j (.inr (by omega))]
   exact zf1 j (by omega)
 . show (if j=b then 0 else if j=B then 99 else z2 j)=99∨((if j=b then 0 else if j=B then 99 else z2 j)=1/\_)
   rw [if_neg hjb,if_neg (by omega),Z2.e j (.inl (by omega))]
   exact zl1 j hj
end
open Go.Proofs.Ytmanlfonppfhaaa.FW Go.IntWalk
section
variable {z:Nat->Nat} {g:Sg} {n b:Nat} {qb:Oa} {cb kb kz:Nat} {qk:Oa} {ck:Nat} {P:Nat->Nat} {H H':Heap} {bl:List Bs} {tr:Trs} {layer:Int} {dec:Bool}
theorem PS.move {b2:Nat} (S:PS z g n b qb cb kb kz qk ck P H bl tr layer dec) (O:Owns H' b2 (sP' g.t qb n cb qk bl.length ck layer dec) 0) (B:But b2 H H') (zb:z b2=99) (hn:n<=3):PS (λ j=> if j=b2 then 0 else if j=b then 99 else z j) g n b2 qb cb kb kz qk ck P H' bl tr layer dec:=by
 have hne:∀j,z j≠99->j≠b2:=λ j h e=> h (by rw [e];exact zb)
 have hz:∀j,z j≠99->z j≠0->(if j=b2 then 0 else if j=b then 99 else z j)=z j:=λ j h h0=> by rw [if_neg (hne j h),if_neg λ e=> h0 (by rw [e];exact S.zb)]
 refine ⟨O, ?_, ?_,λ j hj hs=> ?_,if_pos rfl,λ a ha=> ?_⟩
 . rcases S.br with h|⟨b',o,full,h1,h2,h3⟩
   . exact .inl h
   . refine (show Shows H qb _ from .inr ⟨b',o,full,h1,h2,h3⟩).same λ a ha=> ?_
     have hlt:=h2.lt
     rw [h1] at ha;cases ha
     have:=S.zq _ h1
     exact B.2 _ hlt (hne _ (by rw [this];omega))
 . rcases S.row with h|⟨h1,h2,h3⟩
   . exact .inl h
   . exact .inr ⟨h1,(hz kb (by omega) (by omega)).trans h2,h3.same (B.2 _ h3.lt (hne _ (by rw [h2];omega)))⟩
 . exact ((S.tr j hj hs).same λ i hi h=> B.2 _ hi (hne _ (by rw [h];omega))).zone λ i hi h=> by have:=hz i (by omega) (by omega);omega
 . have:=S.zq a ha
   exact (hz _ (by omega) (by omega)).trans this
theorem ASW {k:Nat} (hk:100000 < k) (hgk:g.kk=k) (hn:n<=3) (G:GOk g n) (S:PS z g n b qb cb kb kz qk ck P H bl tr layer dec) (zf:∀j,H.length<=j->z j=99) (hly:0<=layer/\layer<=15) (hV:∀v∈bl,VOk g n v) (hlen:bl.length<=65536) {q:Oa} (c:Nat) (hS:Shows H q (byt g.bs)) (hb:Byts g.bs):
 ∃H' lb,(∀(R:Type) (K:Oa->Nat->Nat->Int->Int->Heap->Option R),ABv k (some ⟨b,0,none⟩) q g.bs.length c H K=if (hdr g layer bl tr).1≠0 then K none 0 0 0 (hdr g layer bl tr).1 H' else K (some ⟨lb,0,none⟩) bl.length bl.length (hdr g layer bl tr).2.2.1 0 H')/\H.length<=H'.length/\
  ((hdr g layer bl tr).1≠0->Old H.length H H')/\
  ((hdr g layer bl tr).1=0->OldX H.length b H H'/\H.length<=lb/\(∃z' qb' cb' kb' qk' ck' P',PS z' g n b qb' cb' kb' 10 qk' ck' P' H' (hdr g layer bl tr).2.2.2.1 (hdr g layer bl tr).2.2.2.2 (layer+1) true/\∀j,(j < H.length/\j≠b)∨H'.length<=j->z' j=99)/\(∀v∈(hdr g layer bl tr).2.2.2.1,VOk g n v)/\(hdr g layer bl tr).2.2.2.1.length=bl.length/\∃D,Owns H' lb (D.flatMap cc) 0/\CLs H' (lb+1) D (hdr g layer bl tr).2.1/\D.length=bl.length):=by
 have hx:∀o,hcell H b o=(sP' g.t qb n cb qk bl.length ck layer dec)[o]? :=λ o=> S.o.sees.cell o
 obtain ⟨H1,z1,B,qb',cb',kb',qk',ck',P',e1,S1,o1,zf1⟩:=ATD (k:=k) (by omega) hn S zf hlen
 have hl1:=o1.1
 obtain ⟨p,q',H2,e2,W2,o2,hp,hq'⟩:=ASY c (hS.keep o1) hb
 have hl2:=o2.1
 have hpl:=W2.lt
 obtain ⟨z2,hz2⟩:∃z2:Nat->Nat,z2=λ j=> if j=p then 3 else if q'.map Addr.block=some j then 4 else z1 j:=⟨_,rfl⟩
 have hmap:∀j,j < H1.length∨H2.length<=j->¬ (q'.map Addr.block=some j):=λ j hj hh=> by
  cases hq:q' with
  |none=> rw [hq] at hh;cases hh
  |some a=>
   have:=hq' a hq
   rw [hq] at hh
   simp only [Option.map_some,Option.some.injEq] at hh
   omega
 have z2n:∀j,j < H1.length∨H2.length<=j->z2 j=z1 j:=λ j hj=> by
  rw [hz2];simp only
  rw [if_neg (by omega),if_neg (hmap j hj)]
 have S2:PS z2 g n B qb' cb' kb' 10 qk' ck' P' H2 bl tr layer dec:=(S1.keep o2 hn).zone (λ j hj=> by
  by_cases h:j < H1.length
  . exact z2n j (.inl h)
  . exact (hj (zf1 j (.inr (by omega)))).elim) hn
 have zw:z2 p=3:=by rw [hz2];exact if_pos rfl
 have zr:∀a,q'=some a->z2 a.block=4/\a.block < H2.length:=λ a ha=> by
  have:=hq' a ha
  refine ⟨?_,by omega⟩
  rw [hz2];simp only
  rw [if_neg (by omega),if_pos (by rw [ha];rfl)]
 obtain ⟨H3,e3,Z3,r3⟩:=AYT hk hgk hn G S2 W2 zw zr (λ j hj=> by rw [z2n j (.inr hj)];exact zf1 j (.inr (by omega))) hly hV hlen
 have hl3:=Z3.1
 have z2o:∀j,j < H.length->z2 j=99:=λ j hj=> by rw [z2n j (.inl (by omega))];exact zf1 j (.inl hj)
 have o3:Old H.length H H3:=⟨by omega,λ j hj=> by rw [Z3.2 j (by omega) (z2o j hj),o2.2 j (by omega),o1.2 j hj]⟩
 have hbl:=S.o.lt
 have start:∀(R:Type) (K:Oa->Nat->Nat->Int->Int->Heap->Option R) (rr:Option R),AB0 k (some ⟨B,0,none⟩) (some ⟨p,0,none⟩) H2 (λ q22 l23 c24 n25 n26 H27=>
bif (n26 !=0) then (K none 0 0 0 n26 H27)
 else (hnil (some ⟨B,0,none⟩) λ p28=>
ldB H27 (pad p28 0) λ t29=>
ldB H27 (pad p28 1) λ t30=>
ldB H27 (pad p28 2) λ t31=>
ldB H27 (pad p28 3) λ t32=>
ldB H27 (pad p28 4) λ t33=>
ldB H27 (pad p28 5) λ t34=>
ldB H27 (pad p28 6) λ t35=>
ldB H27 (pad p28 7) λ t36=>
ldL H27 (pad p28 8) λ q37 l38 c39=>
ldL H27 (pad p28 9) λ q40 l41 c42=>
ldI .i64 H27 (pad p28 10) λ n43=>
hnil (some ⟨b,0,none⟩) λ p44=>
hst H27 p44 [.bool t29,.bool t30,.bool t31,.bool t32,.bool t33,.bool t34,.bool t35,.bool t36,.slice q37 l38 c39,.slice q40 l41 c42,.int .i64 n43] λ H45=>
K q22 l23 c24 n25 0 H45))=rr->ABv k (some ⟨b,0,none⟩) q g.bs.length c H K=rr:=by
  intro R K rr h
  unfold ABv AGd ACF AFY
  refine go_f rfl (AAC (AAA (go_b (hx 0) (go_f rfl (AAC (AAA (go_b (hx 1) (go_f rfl (AAC (AAA (go_i (hx 10) ?_)))))))))))
  refine go_f (decide_eq_false (by omega)) ?_
  exact (e1 _ _).trans ((e2 _ _).trans h)
 by_cases hc:(hdr g layer bl tr).1≠0
 . refine ⟨H3,0,λ R K=> start R K _ ?_,o3.1,λ _=> o3,λ h=> (hc h).elim⟩
   refine (e3 _ _).trans ?_
   rw [if_pos hc,if_pos hc]
   exact go_t (bne_iff_ne.2 hc) rfl
 have hc0:(hdr g layer bl tr).1=0:=Classical.byContradiction hc
 obtain ⟨S3,V3,n3,D,O3,C3,d3⟩:=r3 hc0
 have y:∀o,hcell H3 B o=(sP' g.t qb' n cb' qk' (hdr g layer bl tr).2.2.2.1.length ck' (layer+1) true)[o]? :=λ o=> S3.o.sees.cell o
 have Ob:Owns H3 b (sP' g.t qb n cb qk bl.length ck layer dec) 0:=S.o.old o3 hbl
 obtain ⟨H4,e4,O4,n4,s4⟩:=AKR (o:=0) (vs:=sP' g.t qb' n cb' qk' (hdr g layer bl tr).2.2.2.1.length ck' (layer+1) true) Ob (by simp [sP']) rfl
 have O4':Owns H4 b (sP' g.t qb' n cb' qk' (hdr g layer bl tr).2.2.2.1.length ck' (layer+1) true) 0:=O4
 have B4:But b H3 H4:=⟨by omega,λ j _ h=> s4 j h⟩
 refine ⟨H4,H2.length,λ R K=> start R K _ ?_,by omega,λ h=> (hc h).elim,λ _=> ⟨⟨by omega,λ j hj h=> by rw [s4 j h,o3.2 j hj]⟩,by omega,⟨_,_,_,_,_,_,_,S3.move O4' B4 (z2o b hbl) hn,λ j hj=> ?_⟩,V3,n3,D,O3.but B4 (by omega),C3.same λ j hj h=> s4 j (by omega),d3⟩⟩
 . refine (e3 _ _).trans ?_
   rw [if_neg hc,if_neg hc]
   refine go_f rfl (AAC (AAH (y 0) (AAH (y 1) (AAH (y 2) (AAH (y 3) (AAH (y 4) (AAH (y 5) (AAH (y 6) (AAH (y 7) (AAY (y 8) (AAY (y 9) (AAJ (y 10) (AAC ?_)))))))))))))
   exact e4 _ _
 . show (if j=b then 0 else if j=B then 99 else z2 j)=99
   rw [if_neg (by omega)]
   split
   . rfl
   . rcases hj with ⟨h,_⟩|h
     . exact z2o j h
     . rw [z2n j (.inr (by omega))];exact zf1 j (.inr (by omega))
end
end Go.Proofs.Ytmanlfonppfhaaa.Sh
