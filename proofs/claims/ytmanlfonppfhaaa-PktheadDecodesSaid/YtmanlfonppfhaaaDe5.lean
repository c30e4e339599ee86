/- QsDecodes, part 5. -/
import Derived.Test.YtmanlfonppfhaaaDe4
set_option linter.unusedVariables false
set_option linter.unusedSimpArgs false
namespace Go.Proofs.Ytmanlfonppfhaaa.Sh
open Go.Proofs.Ytmanlfonppfhaaa.FW Go.IntWalk
theorem AYQ (k:Nat) {pr:Nat} {qr:Oa} {bs:List Int} {t:Int} (ht:t<=65536) (pt:Oa) (x y ixx:Int) (pn:Oa) (ln cn:Nat) (pq:Oa) (pl_ pc:Nat) (cl ci:Int) {bb:Nat} (hbb:bb≠pr) (hqb:∀a,qr=some a->a.block≠bb):
 ∀(m n:Nat),m+1 < n->∀(s:Nat×Nat) (H:Heap) (nn:Nd),(t - nn.2.1).toNat=m->0<=nn.2.1->Rd H pr qr bs s->(∀a,qr=some a->a.block < H.length)->Owns H bb (nd nn) 0->
 ∃H',(∀(R:Type) (KE:Oa->Oa->Int->Int->Int->Oa->Nat->Nat->Int->Oa->Oa->Nat->Nat->Int->Int->Heap->Option R) (KR:Bool->Int->Heap->Option R),AAM k KE KR n pt (some ⟨pr,0,none⟩) x y t pn ln cn ixx (some ⟨bb,0,none⟩) pq pl_ pc cl ci H=if (nlp (rcode bs) m s nn).1≠0 then KR false (nlp (rcode bs) m s nn).1 H' else KE pt (some ⟨pr,0,none⟩) x y t pn ln cn ixx (some ⟨bb,0,none⟩) pq pl_ pc cl ci H')/\
  Rd H' pr qr bs (nlp (rcode bs) m s nn).2.1/\Owns H' bb (nd (nlp (rcode bs) m s nn).2.2) 0/\0<=(nlp (rcode bs) m s nn).2.2.2.1/\H.length<=H'.length/\(∀i,i < H.length->i≠pr->i≠bb->hblk H' i=hblk H i):=by
 intro m
 induction m with
 |zero=>
  intro n hn s H nn hm h0 hR hql ho
  obtain ⟨n,rfl⟩:∃n',n=n'+1:=⟨n - 1,by omega⟩
  have m1:hcell H bb 1=some (.int .i64 nn.2.1):=ho.sees.cell 1
  refine ⟨H,λ R KE KR=> ?_,hR,ho,h0,Nat.le_refl _,λ _ _ _ _=> rfl⟩
  rw [if_neg (by simp [nlp])]
  unfold AAM ACt AAq ACs
  exact AAA (go_i m1 (go_f (decide_eq_false (by omega)) rfl))
 |succ m ih=>
  intro n hn s H nn hm h0 hR hql ho
  obtain ⟨n,rfl⟩:∃n',n=n'+1:=⟨n - 1,by omega⟩
  have c1:hcell H bb 1=some (.int .i64 nn.2.1):=ho.sees.cell 1
  have c2:hcell H bb 2=some (.bool nn.2.2):=ho.sees.cell 2
  have dl:decide (nn.2.1 < t)=true:=decide_eq_true (by omega)
  by_cases hkn:nn.2.2=true
  . have er:nlp (rcode bs) (m+1) s nn=(0,s,nn):=by rw [nlp,if_pos hkn]
    rw [er]
    refine ⟨H,λ R KE KR=> ?_,hR,ho,h0,Nat.le_refl _,λ _ _ _ _=> rfl⟩
    rw [if_neg (by simp)]
    unfold AAM ACt AAq ACs
    refine AAA (go_i c1 (go_t dl (AAA (go_b c2 ?_))))
    rw [hkn];rfl
  . have hkf:nn.2.2=false:=by simpa using hkn
    obtain ⟨H1,e1,R1,B1⟩:=AMe k hR
    have ho1:Owns H1 bb (nd nn) 0:=ho.but B1 hbb
    have l1:=B1.1
    have start:∀(R:Type) (KE:Oa->Oa->Int->Int->Int->Oa->Nat->Nat->Int->Oa->Oa->Nat->Nat->Int->Int->Heap->Option R) (KR:Bool->Int->Heap->Option R) (r:Option R),
     (bif ((rget bs s).1.2 !=0) then KR false (rget bs s).1.2 H1 else bif ((rget bs s).1.1==1) then (hfad 2 (some ⟨bb,0,none⟩) λ p=> hst1 H1 p (.bool true) λ H=> AAM k KE KR n pt (some ⟨pr,0,none⟩) x y t pn ln cn ixx (some ⟨bb,0,none⟩) pq pl_ pc cl ci H) else hfad 1 (some ⟨bb,0,none⟩) λ p=> ldI .i64 H1 p λ n760=> hfad 1 (some ⟨bb,0,none⟩) λ p761=> hst1 H1 p761 (.int .i64 (IntKind.wrap .i64 (n760+1))) λ H=> AAM k KE KR n pt (some ⟨pr,0,none⟩) x y t pn ln cn ixx (some ⟨bb,0,none⟩) pq pl_ pc cl ci H)=r->
     AAM k KE KR (n+1) pt (some ⟨pr,0,none⟩) x y t pn ln cn ixx (some ⟨bb,0,none⟩) pq pl_ pc cl ci H=r:=by
     intro R KE KR r h
     unfold AAM ACt AAq ACs
     refine AAA (go_i c1 (go_t dl (AAA (go_b c2 (go_t (by rw [hkf];rfl) ?_)))))
     exact (e1 R _).trans h
    have ec:rcode bs s nn=rget bs s:=rfl
    by_cases herr:(rget bs s).1.2=0
    . have de:((rget bs s).1.2 !=0)=false:=by rw [herr];rfl
      by_cases hbit:(rget bs s).1.1=1
      . have db:((rget bs s).1.1==1)=true:=by rw [hbit];rfl
        have er:nlp (rcode bs) (m+1) s nn=(0,(rget bs s).2,nn.1,nn.2.1,true):=by rw [nlp,if_neg hkn,ec,if_neg (by simp [herr]),if_pos hbit]
        obtain ⟨H2,e2,O2,B2,n2⟩:=Owns.st1 (o:=2) ho1 (by simp [nd]) (.bool true)
        have O2':Owns H2 bb (nd (nn.1,nn.2.1,true)) 0:=O2
        have R2:=R1.same (B2.2 _ R1.lt (λ h=> hbb h.symm)) λ a ha=> B2.2 _ (by have:=hql a ha;omega) (hqb a ha)
        rw [er]
        obtain ⟨n,rfl⟩:∃n',n=n'+1:=⟨n - 1,by omega⟩
        have d1:hcell H2 bb 1=some (.int .i64 nn.2.1):=O2'.sees.cell 1
        have d2:hcell H2 bb 2=some (.bool true):=O2'.sees.cell 2
        refine ⟨H2,λ R KE KR=> start R KE KR _ ?_,R2,O2',h0,by omega,λ i hi h1 h2=> by rw [B2.2 i (by omega) h2,B1.2 i hi h1]⟩
        rw [if_neg (by simp)]
        refine go_f de (go_t db (AAA ((e2 _ _).trans ?_)))
        unfold AAM ACt AAq ACs
        exact AAA (go_i d1 (go_t dl (AAA (go_b d2 (go_f rfl rfl)))))
      . have db:((rget bs s).1.1==1)=false:=by rw [beq_eq_false_iff_ne];exact hbit
        have er:nlp (rcode bs) (m+1) s nn=nlp (rcode bs) m (rget bs s).2 (nn.1,nn.2.1+1,nn.2.2):=by
         conv=> lhs;rw [nlp]
         rw [if_neg hkn,ec,if_neg (by simp [herr]),if_neg hbit]
        obtain ⟨H2,e2,O2,B2,n2⟩:=Owns.st1 (o:=1) ho1 (by simp [nd]) (.int .i64 (nn.2.1+1))
        have O2':Owns H2 bb (nd (nn.1,nn.2.1+1,nn.2.2)) 0:=O2
        have R2:=R1.same (B2.2 _ R1.lt (λ h=> hbb h.symm)) λ a ha=> B2.2 _ (by have:=hql a ha;omega) (hqb a ha)
        have d1:hcell H1 bb 1=some (.int .i64 nn.2.1):=ho1.sees.cell 1
        obtain ⟨H3,e3,R3,O3,z3,l3,f3⟩:=ih n (by omega) (rget bs s).2 H2 (nn.1,nn.2.1+1,nn.2.2) (by simp only;omega) (by simp only;omega) R2 (λ a ha=> by have:=hql a ha;omega) O2'
        rw [er]
        refine ⟨H3,λ R KE KR=> start R KE KR _ ?_,R3,O3,z3,by omega,λ i hi h1 h2=> by rw [f3 i (by omega) h1 h2,B2.2 i (by omega) h2,B1.2 i hi h1]⟩
        refine go_f de (go_f db (AAA (go_i d1 (AAA ?_))))
        rw [w64 (n:=nn.2.1+1) (by omega) (by omega)]
        exact (e2 _ _).trans (e3 R KE KR)
    . have de:((rget bs s).1.2 !=0)=true:=by rw [bne_iff_ne];exact herr
      have er:nlp (rcode bs) (m+1) s nn=((rget bs s).1.2,(rget bs s).2,nn):=by rw [nlp,if_neg hkn,ec,if_pos herr]
      rw [er]
      refine ⟨H1,λ R KE KR=> start R KE KR _ ?_,R1,ho1,h0,l1,λ i hi h1 h2=> B1.2 i hi h1⟩
      rw [if_pos herr]
      exact go_t de rfl
def gx (a x y:Nat) (g:Nat->Nat->Nd) (pf:Nat->Nd) (m L:Nat):Nat->Nat->Nd:=λ i=> if m<=i/\i < L then upd (g i) (ix a x y i) (pf i) else g i
theorem AY3 (a x y:Nat) (g:Nat->Nat->Nd) (pf:Nat->Nd) (L:Nat):gx a x y g pf L L=g:=by funext i;unfold gx;rw [if_neg (by omega)]
theorem AY1 (a x y:Nat) (g:Nat->Nat->Nd) (pf:Nat->Nd) (L:Nat):gx a x y g pf 0 L=gw a x y g pf L:=by
 funext i;unfold gx gw
 by_cases h:i < L
 . rw [if_pos ⟨by omega,h⟩,if_pos h]
 . rw [if_neg (by omega),if_neg h]
theorem AY2 (a x y:Nat) (g:Nat->Nat->Nd) (pf:Nat->Nd) {m L:Nat} (hm:m < L) (nn:Nd):upd2 (gx a x y g pf (m+1) L) m (ix a x y m) nn=gx a x y g (upd pf m nn) m L:=by
 funext i
 by_cases h:i=m
 . subst h;rw [AOM];unfold gx;rw [if_neg (by omega),if_pos ⟨by omega,hm⟩,ANZ]
 . rw [AQn _ _ _ h];unfold gx
   by_cases h2:m+1<=i/\i < L
   . rw [if_pos h2,if_pos ⟨by omega,h2.2⟩,AOL _ _ h]
   . rw [if_neg h2,if_neg (by omega)]
theorem AYP {H:Heap} {bn n z:Nat} {F:Nat->Nd} (O:Owns H bn (nds n F) z) {m:Nat} (hm:m < n) (x:Nd):
 ∃H',(∀(R:Type) (K:Heap->Option R),hst H (some ⟨bn,m * 3,none⟩) (nd x) K=K H')/\Owns H' bn (nds n (upd F m x)) z/\But bn H H'/\H'.length=H.length:=by
 obtain ⟨H',e1,O',l,s⟩:=AKR (o:=m * 3) (vs:=nd x) O (by rw [AMK];have:(nd x).length=3:=rfl;omega) rfl
 rw [ANH F hm x] at O'
 exact ⟨H',e1,O',⟨by omega,λ k _ hk=> s k hk⟩,l⟩
theorem AYM (k:Nat) (hk:70000 < k) {a b L pr bn nn z:Nat} {qr:Oa} {bs:List Int} {t:Int} (ht:t<=65536) (G:RG a b L) (hnn:nn=base a b L) {g:Nat->Nat->Nd} (hg:Gok g) {x y:Nat} (hx:x < a) (hy:y < b) {qp:Oa} (cn cp:Nat) (pt:Oa) (hbr:bn≠pr) (hbq:∀a,qr=some a->a.block≠bn):
 ∀(m n:Nat),m < n->m<=L->∀(s:Nat×Nat) (H:Heap) (low:Int) (F:Nat->Nd) (pf:Nat->Nd),Rd H pr qr bs s->(∀a,qr=some a->a.block < H.length)->0<=low->Owns H bn (nds nn F) z->Rel a b L F (gx a x y g pf m L)->Shows H qp (b64 (pl (λ i=> base a b i+ix a x y i) (L - 1)))->(∀a,qp=some a->a.block≠bn/\a.block≠pr/\a.block < H.length)->
 ∃H' F',(∀(R:Type) (KE:Oa->Int->Int->Int->Oa->Nat->Nat->Heap->Option R) (KR:Bool->Int->Heap->Option R),AAS k KE KR n pt (some ⟨pr,0,none⟩) (x:Int) (y:Int) t (some ⟨bn,0,none⟩) nn cn low qp L cp ((L:Nat):Int) ((L - m:Nat):Int) H=if (wk (rcode bs) t (λ i=> g i (ix a x y i)) m low s pf).1≠0 then KR false (wk (rcode bs) t (λ i=> g i (ix a x y i)) m low s pf).1 H' else KE pt (x:Int) (y:Int) t (some ⟨bn,0,none⟩) nn cn H')/\Rd H' pr qr bs (wk (rcode bs) t (λ i=> g i (ix a x y i)) m low s pf).2.1/\Owns H' bn (nds nn F') z/\((wk (rcode bs) t (λ i=> g i (ix a x y i)) m low s pf).1=0->Rel a b L F' (gx a x y g (wk (rcode bs) t (λ i=> g i (ix a x y i)) m low s pf).2.2 0 L))/\H.length<=H'.length/\∀i,i < H.length->i≠pr->i≠bn->hblk H' i=hblk H i:=by
 intro m
 have hL:=G.pos
 have hL17:=G.len
 induction m with
 |zero=>
  intro n hn hm s H low F pf hR hql h0 O hr hS hqp
  obtain ⟨n,rfl⟩:∃n',n=n'+1:=⟨n - 1,by omega⟩
  refine ⟨H,F,λ R KE KR=> ?_,hR,O,λ _=> hr,Nat.le_refl _,λ _ _ _ _=> rfl⟩
  rw [if_neg (by simp [wk])]
  unfold AAS AFo
  exact go_f (decide_eq_false (by omega)) rfl
 |succ m ih=>
  intro n hn hm s H low F pf hR hql h0 O hr hS hqp
  obtain ⟨n,rfl⟩:∃n',n=n'+1:=⟨n - 1,by omega⟩
  have hj:=AOS hx hy m
  have hbl:=AOZ (a:=a) (b:=b) (L:=L) (i:=m) (by omega) hj
  have hbs:=G.bs
  obtain ⟨P,hP⟩:∃P,P=base a b m+ix a x y m:=⟨_,rfl⟩
  rw [←hP] at hbl
  obtain ⟨zp,e0,e0'⟩:∃zp,(∀(R:Type) (K:Oa->Option R),hidx qp L ((L - (m+1):Nat):Int) 1 K=K zp)/\∀(R:Type) (K:Int->Option R),ldI .i64 H zp K=K ((P:Nat):Int):=by
   obtain ⟨zp,e,_,g0⟩:=hS.idx (l:=L) (size:=1) (by rw [ARj,ATP];omega) (i:=((L - (m+1):Nat):Int)) (by omega) (by omega) (by omega)
   refine ⟨zp,e,λ R K=> AR5 (g0 _ ?_) rfl K⟩
   rw [Int.toNat_natCast,Nat.mul_one,hP]
   unfold b64
   rw [List.getElem?_map,AbB _ _ _ (by omega),show L - 1 - (L - (m+1))=m from by omega]
   rfl
  have hF:F P=g m (ix a x y m):=by
   rw [hP,hr m (by omega) _ hj]
   unfold gx;rw [if_neg (by omega)]
  obtain ⟨nn0,hn0⟩:∃nn0,nn0=g m (ix a x y m):=⟨_,rfl⟩
  rw [←hn0] at hF
  have hnn0:0<=nn0.2.1:=by rw [hn0];exact hg _ _
  have cell:∀o,o < 3->hcell H bn (P * 3+o)=(nd nn0)[o]? :=λ o ho=> by rw [O.sees.cell,←hF];exact AQX _ (by omega) ho
  have n0:hcell H bn (P * 3+0)=some (.int .i64 nn0.1):=cell 0 (by omega)
  have n1:hcell H bn (P * 3+1)=some (.int .i64 nn0.2.1):=cell 1 (by omega)
  have n2:hcell H bn (P * 3+2)=some (.bool nn0.2.2):=cell 2 (by omega)
  obtain ⟨Hn,hHn⟩:∃Hn,Hn=H++ [some (⟨[.int .i64 nn0.1, .int .i64 nn0.2.1, .bool nn0.2.2],false,0⟩:Blk)]:=⟨_,rfl⟩
  have on:Old H.length H Hn:=hHn ▸ Old.app _ _
  have mn:Owns Hn H.length (nd nn0) 0:=by rw [hHn];exact AAI H _
  have m1:hcell Hn H.length 1=some (.int .i64 nn0.2.1):=mn.sees.cell 1
  obtain ⟨H2,e2,O2,B2,l2⟩:=Owns.st1 (o:=1) mn (by simp [nd]) (.int .i64 (imx nn0.2.1 low))
  have O2':Owns H2 H.length (nd (nn0.1,imx nn0.2.1 low,nn0.2.2)) 0:=O2
  have hxg:=ATa nn0.2.1 low
  have o2:Old H.length H H2:=on.trans (B2.old (Nat.le_refl _) on.1)
  have hRl:=hR.lt
  have hOl:=O.lt
  have l2':=o2.1
  have R2:Rd H2 pr qr bs s:=hR.same (o2.2 _ hRl) λ a ha=> o2.2 _ (hql a ha)
  obtain ⟨H3,e3,R3,O3,z3,l3,f3⟩:=AYQ k ht pt (x:Int) (y:Int) ((P:Nat):Int) (some ⟨bn,0,none⟩) nn cn qp L cp ((L:Nat):Int) ((L - (m+1):Nat):Int) (bb:=H.length) (by omega) (λ a ha=> by have:=hql a ha;omega) (t - imx nn0.2.1 low).toNat k (by omega) s H2 (nn0.1,imx nn0.2.1 low,nn0.2.2) rfl (by simp only;omega) R2 (λ a ha=> by have:=hql a ha;omega) O2'
  obtain ⟨r1,hr1⟩:∃r1,r1=nlp (rcode bs) (t - imx nn0.2.1 low).toNat s (nn0.1,imx nn0.2.1 low,nn0.2.2):=⟨_,rfl⟩
  rw [←hr1] at R3 O3 z3
  have e3':∀(R:Type) (KE:Oa->Oa->Int->Int->Int->Oa->Nat->Nat->Int->Oa->Oa->Nat->Nat->Int->Int->Heap->Option R) (KR:Bool->Int->Heap->Option R),AAM k KE KR k pt (some ⟨pr,0,none⟩) (x:Int) (y:Int) t (some ⟨bn,0,none⟩) nn cn ((P:Nat):Int) (some ⟨H.length,0,none⟩) qp L cp ((L:Nat):Int) ((L - (m+1):Nat):Int) H2=if r1.1≠0 then KR false r1.1 H3 else KE pt (some ⟨pr,0,none⟩) (x:Int) (y:Int) t (some ⟨bn,0,none⟩) nn cn ((P:Nat):Int) (some ⟨H.length,0,none⟩) qp L cp ((L:Nat):Int) ((L - (m+1):Nat):Int) H3:=by rw [hr1];exact e3
  have On3:Owns H3 bn (nds nn F) z:=(O.old o2 hOl).same (f3 _ (by omega) hbr (by omega))
  have start:∀(R:Type) (KE:Oa->Int->Int->Int->Oa->Nat->Nat->Heap->Option R) (KR:Bool->Int->Heap->Option R) (rr:Option R),
   (if r1.1≠0 then KR false r1.1 H3 else (ldI .i64 H3 (pad (some ⟨H.length,0,none⟩) 0) λ n796=> ldI .i64 H3 (pad (some ⟨H.length,0,none⟩) 1) λ n797=> ldB H3 (pad (some ⟨H.length,0,none⟩) 2) λ t798=> hidx (some ⟨bn,0,none⟩) nn ((P:Nat):Int) 3 λ p799=> hst H3 p799 [.int .i64 n796, .int .i64 n797, .bool t798] λ H800=> hfad 1 (some ⟨H.length,0,none⟩) λ p801=> ldI .i64 H800 p801 λ n802=> AAS k KE KR n pt (some ⟨pr,0,none⟩) (x:Int) (y:Int) t (some ⟨bn,0,none⟩) nn cn n802 qp L cp ((L:Nat):Int) (IntKind.wrap .i64 (((L - (m+1):Nat):Int)+1)) H800))=rr->
   AAS k KE KR (n+1) pt (some ⟨pr,0,none⟩) (x:Int) (y:Int) t (some ⟨bn,0,none⟩) nn cn low qp L cp ((L:Nat):Int) ((L - (m+1):Nat):Int) H=rr:=by
   intro R KE KR rr h
   unfold AAS AFo
   refine go_t (decide_eq_true (by omega)) ((e0 _ _).trans ((e0' _ _).trans ((hidx3 (by omega) _ _).trans (AAJ n0 (AAJ n1 (AAH n2 (AAW hHn rfl rfl ?_)))))))
   refine AAA (go_i m1 (AAA ((e2 _ _).trans ((e3' _ _ _).trans h))))
  by_cases herr:r1.1=0
  . obtain ⟨H4,e4,O4,B4,l4⟩:=AYP On3 (m:=P) (by omega) r1.2.2
    have hr4:=hr.put (i:=m) (by omega) hj r1.2.2
    rw [AY2 _ _ _ _ _ (by omega),←hP] at hr4
    have R4:Rd H4 pr qr bs r1.2.1:=R3.same (B4.2 _ R3.lt (λ h=> hbr h.symm)) λ a ha=> B4.2 _ (by have:=hql a ha;omega) (hbq a ha)
    have S4:Shows H4 qp (b64 (pl (λ i=> base a b i+ix a x y i) (L - 1))):=by
     refine (hS.keep o2).same λ a ha=> ?_
     obtain ⟨h1,h2,h3⟩:=hqp a ha
     rw [B4.2 _ (by omega) h1,f3 _ (by omega) h2 (by omega)]
    have Ob:Owns H4 H.length (nd r1.2.2) 0:=O3.but B4 (by omega)
    have g1:hcell H4 H.length 1=some (.int .i64 r1.2.2.2.1):=Ob.sees.cell 1
    obtain ⟨H5,F5,e5,R5,O5,hr5,l5,f5⟩:=ih n (by omega) (by omega) r1.2.1 H4 r1.2.2.2.1 (upd F P r1.2.2) (upd pf m r1.2.2) R4 (λ a ha=> by have:=hql a ha;omega) z3 O4 hr4 S4 (λ a ha=> by have:=hqp a ha;exact ⟨this.1,this.2.1,by omega⟩)
    have hwk:wk (rcode bs) t (λ i=> g i (ix a x y i)) (m+1) low s pf=wk (rcode bs) t (λ i=> g i (ix a x y i)) m r1.2.2.2.1 r1.2.1 (upd pf m r1.2.2):=by
     conv=> lhs;rw [wk]
     simp only [nl,←hn0,←hr1]
     rw [if_neg (by simp [herr])]
    rw [hwk]
    refine ⟨H5,F5,λ R KE KR=> start R KE KR _ ?_,R5,O5,hr5,by omega,λ i hi h1 h2=> by rw [f5 i (by omega) h1 h2,B4.2 i (by omega) h2,f3 i (by omega) h1 (by omega),o2.2 i hi]⟩
    rw [if_neg (by simp [herr])]
    have k0:hcell H3 H.length 0=some (.int .i64 r1.2.2.1):=O3.sees.cell 0
    have k1:hcell H3 H.length 1=some (.int .i64 r1.2.2.2.1):=O3.sees.cell 1
    have k2:hcell H3 H.length 2=some (.bool r1.2.2.2.2):=O3.sees.cell 2
    refine AAJ k0 (AAJ k1 (AAH k2 ((hidx3 (by omega) _ _).trans ((e4 _ _).trans (AAA (go_i g1 ?_))))))
    rw [w64 (n:=((L - (m+1):Nat):Int)+1) (by omega) (by omega),show ((L - (m+1):Nat):Int)+1=((L - m:Nat):Int) from by omega]
    exact e5 R KE KR
  . have hwk:wk (rcode bs) t (λ i=> g i (ix a x y i)) (m+1) low s pf=(r1.1,r1.2.1,pf):=by
     conv=> lhs;rw [wk]
     simp only [nl,←hn0,←hr1]
     rw [if_pos herr]
    rw [hwk]
    refine ⟨H3,F,λ R KE KR=> start R KE KR _ ?_,R3,On3,λ h=> (herr h).elim,by omega,λ i hi h1 h2=> by rw [f3 i (by omega) h1 (by omega),o2.2 i hi]⟩
    rw [if_pos herr,if_pos herr]
theorem ASS {k:Nat} (hk:70000 < k) {N p bn nn cap z a b L pr:Nat} {qr:Oa} {bs:List Int} {e d:Bool} {F:Nat->Nd} {g:Nat->Nat->Nd} (G:RG a b L) (hnn:nn=base a b L) (hg:Gok g) {H:Heap} (T:Rt N H p bn nn cap z a b e d F) (hr:Rel a b L F g) (hN:N<=H.length) {s:Nat×Nat} (D:Rd H pr qr bs s) (hql:∀a,qr=some a->a.block < H.length) (hpr:pr≠p) (hpb:pr≠bn) (hq:∀a,qr=some a->a.block≠p/\a.block≠bn) (x y t:Int):
 ∃H' bn2 cap2 z2 F',(∀(R:Type) (K:Bool->Int->Heap->Option R),ABr k (some ⟨p,0,none⟩) (some ⟨pr,0,none⟩) x y t H K=K (decR bs a b L e d g x y t s).1.1 (decR bs a b L e d g x y t s).1.2 H')/\Rd H' pr qr bs (decR bs a b L e d g x y t s).2.2.2/\Rt N H' p bn2 nn cap2 z2 a b e (decR bs a b L e d g x y t s).2.1 F'/\Rel a b L F' (decR bs a b L e d g x y t s).2.2.1/\(bn2=bn∨H.length<=bn2)/\H.length<=H'.length/\∀i,i < H.length->i≠pr->i≠p->hblk H' i=hblk H i:=by
 have hL:=G.pos
 have hL17:=G.len
 have m0:hcell H p 0=some (.bool true):=T.o.sees.cell 0
 have m4:hcell H p 4=some (.bool e):=T.o.sees.cell 4
 have hTl:=T.o.lt
 have hTb:=T.n.lt
 have hDl:=D.lt
 cases he:e
 case true=>
  have er:decR bs a b L true d g x y t s=((false,6),d,g,s):=by unfold decR;rw [if_pos rfl]
  rw [er]
  rw [he] at m4 T
  refine ⟨H,bn,cap,z,F,λ R K=> ?_,D,T,hr, .inl rfl,Nat.le_refl _,λ _ _ _ _=> rfl⟩
  unfold ABr AHe ABF AFl
  exact go_f rfl (AAC (AAA (go_b m0 (go_f rfl (AAC (AAA (go_b m4 (go_t rfl rfl))))))))
 case false=>
  rw [he] at m4 T
  obtain ⟨H1,e1,D1,B1,_⟩:=AON (k:=k) (by omega) D 0
  have ew:rB bs 0 s=((0,0),s):=by unfold rB;rw [if_pos ⟨by omega,by omega⟩];rfl
  rw [ew] at e1 D1
  have l1:=B1.1
  have T1:Rt N H1 p bn nn cap z a b false d F:=T.same (B1.2 _ hTl (λ h=> hpr h.symm)) (B1.2 _ hTb (λ h=> hpb h.symm))
  obtain ⟨Ha,hHa⟩:∃Ha,Ha=H1++ [some (⟨[],false,0⟩:Blk)]:=⟨_,rfl⟩
  have oa:Old H1.length H1 Ha:=hHa ▸ Old.app _ _
  have la:Ha.length=H1.length+1:=by rw [hHa];simp
  have start:∀(R:Type) (K:Bool->Int->Heap->Option R) (rr:Option R),(bif !(ins a b x y) then K false 2 H1 else bif decide (t < 0) then K false 2 H1 else bif decide (t > 65536) then K false 2 H1 else
   hfad 3 (some ⟨p,0,none⟩) λ p621=> ldL Ha p621 λ q622 l623 c624=> happS 3 24 Ha (some ⟨H1.length,0,none⟩) 0 0 q622 l623 λ q625 l626 c627 H628=> AHd k (some ⟨p,0,none⟩) x y H628 λ q629 l630 c631 H632=> AAS k (λ p815 n816 n817 n818 q819 l820 c821 H822=> hnil p815 λ p823=> hfad 3 p823 λ p824=> hst1 H822 p824 (.slice q819 l820 c821) λ H825=> hnil p815 λ p826=> hfad 5 p826 λ p827=> hst1 H825 p827 (.bool true) λ H828=> hnil p815 λ p829=> hfad 1 p829 λ p830=> ldI .i64 H828 p830 λ n831=> hidx q819 l820 (IntKind.wrap .i64 ((IntKind.wrap .i64 (n817 * n831))+n816)) 3 λ p832=> ldI .i64 H828 (pad p832 0) λ n833=> ldI .i64 H828 (pad p832 1) λ n834=> ldB H828 (pad p832 2) λ t835=> hal H828 [.int .i64 0, .int .i64 0, .bool false] λ p836 H837=> hst H837 p836 [.int .i64 n833, .int .i64 n834, .bool t835] λ H838=> hfad 2 p836 λ p839=> ldB H838 p839 λ t840=> bif t840 then (hfad 1 p836 λ p841=> ldI .i64 H838 p841 λ n842=> K (decide (n842 < n818)) 0 H838) else (K false 0 H838)) (λ t843 n844 H845=> K t843 n844 H845) k (some ⟨p,0,none⟩) (some ⟨pr,0,none⟩) x y t q625 l626 c627 0 q629 l630 c631 ((l630:Nat):Int) 0 H632)=rr->ABr k (some ⟨p,0,none⟩) (some ⟨pr,0,none⟩) x y t H K=rr:=by
   intro R K rr h
   unfold ABr AHe ABF AFl ABb AHr
   refine go_f rfl (AAC (AAA (go_b m0 (go_f rfl (AAC (AAA (go_b m4 (go_f rfl ((e1 _ _).trans (go_f rfl ((ATW T1 _ _ _ _).trans ?_)))))))))))
   refine Eq.trans ?_ h
   cases ins a b x y
   . rfl
   . cases decide (t < 0)
     . cases decide (t > 65536)
       . exact go_f rfl (go_f rfl (go_f rfl (AAD hHa rfl)))
       . rfl
     . rfl
  by_cases hgd:ins a b x y=true/\0<=t/\t<=65536
  . have hi:=hgd.1
    obtain ⟨u,w,rfl,rfl,hu,hw⟩:=AVQ hi
    have Ta:=T1.keep oa
    have m3:hcell Ha p 3=some (.slice (some ⟨bn,0,none⟩) nn cap):=Ta.o.sees.cell 3
    have hnp:0 < nn:=by rw [hnn];have:=AOZ (a:=a) (b:=b) (L:=L) (i:=0) hL (AOS hu hw 0);omega
    have hbs:=G.bs
    obtain ⟨Hb,hHb⟩:∃Hb,Hb=Ha++ [some (⟨nds nn F,false,3⟩:Blk)]:=⟨_,rfl⟩
    have ob:Old Ha.length Ha Hb:=hHb ▸ Old.app _ _
    have lb:Hb.length=Ha.length+1:=by rw [hHb];simp
    have Ob:Owns Hb Ha.length (nds nn F) 3:=by rw [hHb];exact AAI Ha _
    have eap:∀(R:Type) (K:Oa->Nat->Nat->Heap->Option R),happS 3 24 Ha (some ⟨H1.length,0,none⟩) 0 0 (some ⟨bn,0,none⟩) nn K=K (some ⟨Ha.length,0,none⟩) nn unk Hb:=by
     intro R K
     have hs:=Ta.n.sees.shows.hcells
     rw [AMK] at hs
     unfold happS happ
     rw [hs]
     simp only
     rw [if_neg (by unfold unk;omega),if_neg (by omega),if_pos (by omega)]
     have h0:FW.hcells Ha (some ⟨H1.length,0,none⟩) (0 * 3)=some []:=by
      have:Owns Ha H1.length [] 0:=by rw [hHa];exact AAI H1 _
      exact this.sees.shows.hcells
     rw [h0,hHb]
     simp
    have Tb:=Ta.keep ob
    obtain ⟨H3,q3,c3,e3,S3,hq3,o3⟩:=AYa (k:=k) (by omega) Tb G hu hw
    have l3:=o3.1
    have T3:=Tb.keep o3
    have D3:Rd H3 pr qr bs s:=((D1.same (oa.2 _ D1.lt) λ a ha=> oa.2 _ (by have:=hql a ha;omega)).same (ob.2 _ (by omega)) λ a ha=> ob.2 _ (by have:=hql a ha;omega)).same (o3.2 _ (by omega)) λ a ha=> o3.2 _ (by have:=hql a ha;omega)
    have S3b:∀a,q3=some a->a.block < H3.length:=by
     rcases S3 with h|⟨b2,o2,full,rfl,h1,_⟩
     . exfalso
       have:=congrArg List.length h
       rw [ARj,ATP] at this
       simp at this
     . intro a ha;cases ha;exact h1.lt
    obtain ⟨H4,F4,e4,D4,O4,hr4,l4,f4⟩:=AYM k hk (t:=t) (bn:=Ha.length) (nn:=nn) (z:=3) (by omega) G hnn hg hu hw unk c3 (some ⟨p,0,none⟩) (by omega) (λ a ha=> by have:=hql a ha;omega) L k (by omega) (Nat.le_refl _) s H3 0 F (λ _=> nz) D3 (λ a ha=> by have:=hql a ha;omega) (by omega) (Ob.old o3 (by omega)) (by rw [AY3];exact hr) S3 (λ a ha=> by have:=hq3 a ha;have:=S3b a ha;exact ⟨by omega,by omega,this⟩)
    have e5:wk (rcode bs) t (λ i=> g i (ix a u w i)) L 0 s (λ _=> nz)=decW bs a L g u w t s:=rfl
    rw [e5] at D4 hr4
    obtain ⟨W,hW⟩:∃W,W=decW bs a L g u w t s:=⟨_,rfl⟩
    rw [←hW] at D4 hr4
    have e4':∀(R:Type) (KE:Oa->Int->Int->Int->Oa->Nat->Nat->Heap->Option R) (KR:Bool->Int->Heap->Option R),AAS k KE KR k (some ⟨p,0,none⟩) (some ⟨pr,0,none⟩) (u:Int) (w:Int) t (some ⟨Ha.length,0,none⟩) nn unk 0 q3 L c3 ((L:Nat):Int) 0 H3=if W.1≠0 then KR false W.1 H4 else KE (some ⟨p,0,none⟩) (u:Int) (w:Int) t (some ⟨Ha.length,0,none⟩) nn unk H4:=λ R KE KR=> by
     have:=e4 R KE KR
     rw [Nat.sub_self,e5,←hW] at this
     exact this
    have keep:∀i,i < H.length->i≠pr->hblk H4 i=hblk H i:=λ i hi h1=> by rw [f4 i (by omega) h1 (by omega),o3.2 i (by omega),ob.2 i (by omega),oa.2 i (by omega),B1.2 i hi h1]
    have T4:Rt N H4 p bn nn cap z a b false d F:=T.same (keep _ hTl (λ h=> hpr h.symm)) (keep _ hTb (λ h=> hpb h.symm))
    by_cases herr:W.1=0
    . have er:decR bs a b L false d g (u:Int) (w:Int) t s=(((W.2.2 0).2.2 && decide ((W.2.2 0).2.1 < t),0),true,gw a u w g W.2.2 L,W.2.1):=by
       unfold decR
       rw [if_neg (by simp),if_pos hgd,Int.toNat_natCast,Int.toNat_natCast,←hW,if_pos herr]
      rw [er]
      have hr5:=hr4 herr
      rw [AY1] at hr5
      obtain ⟨H5,e6,O5,B5,n5⟩:=Owns.st1 (o:=3) T4.o (by simp) (.slice (some ⟨Ha.length,0,none⟩) nn unk)
      obtain ⟨H6,e7,O6,B6,n6⟩:=Owns.st1 (o:=5) O5 (by simp) (.bool true)
      have On:Owns H6 Ha.length (nds nn F4) 3:=(O4.but B5 (by omega)).but B6 (by omega)
      have m1:hcell H6 p 1=some (.int .i64 (a:Int)):=O6.sees.cell 1
      obtain ⟨hw1,hlt⟩:=rix G.a1 G.b1 hu hw G.ab hL
      have hF:=hr5 0 (by omega) _ (AOS hu hw 0)
      rw [Abt (show 0 < L from hL)] at hF
      have cell:∀o,o < 3->hcell H6 Ha.length ((base a b 0+ix a u w 0) * 3+o)=(nd (W.2.2 0))[o]? :=λ o ho=> by rw [On.sees.cell,←hF];exact AQX _ (by omega) ho
      have c0:hcell H6 Ha.length ((base a b 0+ix a u w 0) * 3+0)=some (.int .i64 (W.2.2 0).1):=cell 0 (by omega)
      have c1:hcell H6 Ha.length ((base a b 0+ix a u w 0) * 3+1)=some (.int .i64 (W.2.2 0).2.1):=cell 1 (by omega)
      have c2:hcell H6 Ha.length ((base a b 0+ix a u w 0) * 3+2)=some (.bool (W.2.2 0).2.2):=cell 2 (by omega)
      obtain ⟨H7,hH7⟩:∃H7,H7=H6++ [some (⟨[.int .i64 (W.2.2 0).1, .int .i64 (W.2.2 0).2.1, .bool (W.2.2 0).2.2],false,0⟩:Blk)]:=⟨_,rfl⟩
      have o7:Old H6.length H6 H7:=hH7 ▸ Old.app _ _
      have l7:=o7.1
      have O7:Owns H7 H6.length (nd (W.2.2 0)) 0:=by rw [hH7];exact AAI H6 _
      have x1:hcell H7 H6.length 1=some (.int .i64 (W.2.2 0).2.1):=O7.sees.cell 1
      have x2:hcell H7 H6.length 2=some (.bool (W.2.2 0).2.2):=O7.sees.cell 2
      have R6:Rt N H6 p Ha.length nn unk 3 a b false true F4:=⟨O6,On,by omega,T.lp,by omega⟩
      have D6:Rd H6 pr qr bs W.2.1:=(D4.same (B5.2 _ D4.lt hpr) λ a ha=> B5.2 _ (by have:=hql a ha;omega) (hq a ha).1).same (B6.2 _ (by have:=D4.lt;omega) hpr) λ a ha=> B6.2 _ (by have:=hql a ha;omega) (hq a ha).1
      refine ⟨H7,Ha.length,unk,3,F4,λ R K=> start R K _ ?_,D6.same (o7.2 _ D6.lt) (λ a ha=> o7.2 _ (by have:=hql a ha;omega)),R6.keep o7,hr5, .inr (by omega),by omega,λ i hi h1 h2=> by rw [o7.2 i (by omega),B6.2 i (by omega) h2,B5.2 i (by omega) h2,keep i hi h1]⟩
      rw [hi]
      refine go_f rfl (go_f (decide_eq_false (by omega)) (go_f (decide_eq_false (by omega)) (AAA (go_l m3 ((eap _ _).trans ((e3 _ _).trans ((e4' _ _ _).trans ?_)))))))
      rw [if_neg (by simp [herr])]
      refine AAC (AAA ((e6 _ _).trans (AAC (AAA ((e7 _ _).trans (AAC (AAA (go_i m1 ?_))))))))
      rw [hw1]
      refine (hidx3 (by omega) _ _).trans (AAJ c0 (AAJ c1 (AAH c2 (AAW hH7 rfl rfl (AAA (go_b x2 ?_))))))
      cases hk:(W.2.2 0).2.2
      . rfl
      . exact go_t rfl (AAA (go_i x1 rfl))
    . have er:decR bs a b L false d g (u:Int) (w:Int) t s=((false,W.1),d,g,W.2.1):=by
       unfold decR
       rw [if_neg (by simp),if_pos hgd,Int.toNat_natCast,Int.toNat_natCast,←hW,if_neg herr]
      rw [er]
      refine ⟨H4,bn,cap,z,F,λ R K=> start R K _ ?_,D4,T4,hr, .inl rfl,by omega,λ i hi h1 _=> keep i hi h1⟩
      rw [hi]
      refine go_f rfl (go_f (decide_eq_false (by omega)) (go_f (decide_eq_false (by omega)) (AAA (go_l m3 ((eap _ _).trans ((e3 _ _).trans ((e4' _ _ _).trans ?_)))))))
      rw [if_pos herr]
  . have er:decR bs a b L false d g x y t s=((false,2),d,g,s):=by unfold decR;rw [if_neg (by simp),if_neg hgd]
    rw [er]
    refine ⟨H1,bn,cap,z,F,λ R K=> start R K _ ?_,D1,T1,hr, .inl rfl,l1,λ i hi h1 _=> B1.2 i hi h1⟩
    cases hi:ins a b x y
    . rfl
    . refine go_f rfl ?_
      by_cases h0:t < 0
      . exact go_t (decide_eq_true h0) rfl
      . exact go_f (decide_eq_false h0) (go_t (decide_eq_true (by rw [hi] at hgd;simp at hgd;omega)) rfl)
open Go.Proofs.Ytmanlfonppfhaaa.FW Go.IntWalk
abbrev Md:=Bool×Bool×Bool×Bool×Bool
def ints (l:List Int):List Value:=l.map (.int .i64)
theorem AOH (l:List Int):(ints l).length=l.length:=by simp [ints]
theorem AVP {l:List Int} {i:Nat} {x:Int} (h:l[i]? =some x):(ints l)[i]? =some (.int .i64 x):=by simp [ints,h]
theorem AL8 {H:Heap} {q:Oa} {xs:List Int} (h:Shows H q (ints xs)) {i:Nat} {x:Int} (hi:xs[i]? =some x):
 ∃p,(∀(R:Type) (K:Oa->Option R),hidx q xs.length (i:Int) 1 K=K p)/\∀(R:Type) (K:Int->Option R),ldI .i64 H p K=K x:=by
 have hlt:i < xs.length:=(List.getElem?_eq_some_iff.1 hi).1
 obtain ⟨p,e,_,m⟩:=h.idx (l:=xs.length) (size:=1) (by rw [AOH];omega) (i:=(i:Int)) (by omega) (by omega) (by omega)
 exact ⟨p,e,λ R K=> AR5 (m _ (by rw [Int.toNat_natCast,Nat.mul_one];exact AVP hi)) rfl K⟩
theorem AIr {α:Type} {l:List α} {i:Nat} {x:α} (h:l[i]? =some x):l.drop i=x::l.drop (i+1):=by
 obtain ⟨h1,h2⟩:=List.getElem?_eq_some_iff.1 h
 rw [List.drop_eq_getElem_cons h1,h2]
theorem ANb {α:Type} {l:List α} {i:Nat} {x:α} (h:l[i]? =some x):l.take (i+1)=l.take i++ [x]:=by rw [List.take_add_one,h];rfl
theorem AKx {α:Type} {l:List α} {i:Nat} (h:i < l.length):∃x,l[i]? =some x:=⟨_,List.getElem?_eq_getElem h⟩
theorem Bld.app2 {N size bytes:Nat} {H:Heap} {q p:Oa} {l c n:Nat} {cs xs:List Value} (h:Bld N size H q l c cs) (hp:Shows H p xs) (hx:xs.length=n * size) (hb:(l+n) * bytes<=35184372088832) (hn:0 < n):
 ∃H',(∀(R:Type) (K:Oa->Nat->Nat->Heap->Option R),happS size bytes H q l c p n K=K (some ⟨H.length,0,none⟩) (l+n) unk H')/\Owns H' H.length (cs++xs) size/\(∀i,i < H.length->(∀a,q=some a->a.block≠i)->hblk H' i=hblk H i)/\H'.length=H.length+1/\(l+n) * size=(cs++xs).length:=by
 have hc:=hp.hcells
 rw [hx] at hc
 rcases h with ⟨rfl,rfl,rfl,rfl⟩|⟨b,rfl,rfl,h3,h4,h5⟩
 . refine ⟨H++ [some ⟨xs,false,size⟩],λ R K=> ?_,(show hblk _ _=_ from AI7 H (some ⟨xs,false,size⟩) []),λ i hi _=> AHo hi,by simp,by simp [hx]⟩
   unfold happS happ
   rw [hc]
   simp only
   rw [if_neg (by unfold unk;omega),if_neg (by omega),if_pos hb]
   simp [FW.hcells]
 . have hblt:=h4.sees.lt
   have h4':hblk H b=some ⟨cs,false,size⟩:=h4
   refine ⟨hset H b none++ [some ⟨cs++xs,false,size⟩],λ R K=> ?_, ?_,λ i hi hne=> ?_,by simp [AAX],by rw [Nat.add_mul,h5,List.length_append,hx]⟩
   . unfold happS happ
     rw [hc]
     simp only [if_true,h4',cond_false,h5,hb,true_and,and_self]
   . have:=AI7 (hset H b none) (some ⟨cs++xs,false,size⟩) []
     rwa [AAX] at this
   . rw [AHo (by rw [AAX];omega),AEy,if_neg (λ hh=> hne _ rfl hh.1.symm)]
structure ShB (N:Nat) (H:Heap) (q:Oa) (cs:List Value):Prop where
 s:Shows H q cs
 b:cs= []∨Below N q
theorem ShB.old {N:Nat} {H H':Heap} {q:Oa} {cs:List Value} (h:ShB N H q cs) (o:Old N H H'):ShB N H' q cs:=⟨h.s.old o h.b,h.b⟩
def OldX (N b:Nat) (H H':Heap):Prop:=H.length<=H'.length/\∀i,i < N->i≠b->hblk H' i=hblk H i
theorem OldX.old {N b:Nat} {H H':Heap} (h:OldX N b H H') (hb:N<=b):Old N H H':=⟨h.1,λ i hi=> h.2 i hi (by omega)⟩
theorem OldX.low {N b:Nat} {H H':Heap} (h:OldX N b H H') (hb:b<=N):Old b H H':=⟨h.1,λ i hi=> h.2 i (by omega) (by omega)⟩
theorem Old.x {N:Nat} {H H':Heap} (b:Nat) (h:Old N H H'):OldX N b H H':=⟨h.1,λ i hi _=> h.2 i hi⟩
theorem OldX.trans {N b:Nat} {H1 H2 H3:Heap} (h:OldX N b H1 H2) (g:OldX N b H2 H3):OldX N b H1 H3:=⟨Nat.le_trans h.1 g.1,λ i hi hn=> (g.2 i hi hn).trans (h.2 i hi hn)⟩
theorem grow1 {N b sz bytes o:Nat} {H:Heap} {X:List Value} {qp:Oa} {l cp:Nat} {cells ec:List Value} (O:Owns H b X 0) (hX:o < X.length) (B:Bld N sz H qp l cp cells) (hpa:∀a,qp=some a->a.block≠b) (hsz:ec.length=sz) (hl:(l+1) * bytes<=35184372088832) (hN:N<=H.length):
 ∃H1 H2 H3,H1=H++ [some (⟨ec,false,0⟩:Blk)]/\(∀(R:Type) (K:Oa->Nat->Nat->Heap->Option R),happS sz bytes H1 qp l cp (some ⟨H.length,0,none⟩) 1 K=K (some ⟨H.length+1,0,none⟩) (l+1) unk H2)/\(∀(R:Type) (K:Heap->Option R),hst1 H2 (some ⟨b,o,none⟩) (.slice (some ⟨H.length+1,0,none⟩) (l+1) unk) K=K H3)/\Owns H3 b (X.set o (.slice (some ⟨H.length+1,0,none⟩) (l+1) unk)) 0/\Bld N sz H3 (some ⟨H.length+1,0,none⟩) (l+1) unk (cells++ec)/\(∀i,i < H.length->(∀a,qp=some a->a.block≠i)->i≠b->hblk H3 i=hblk H i)/\OldX N b H H3/\H3.length=H.length+2:=by
 obtain ⟨H1,hH1⟩:∃H1,H1=H++ [some (⟨ec,false,0⟩:Blk)]:=⟨_,rfl⟩
 have o1:Old H.length H H1:=hH1 ▸ Old.app _ _
 have O1:Owns H1 H.length ec 0:=by rw [hH1];exact AAI H _
 have l1:H1.length=H.length+1:=by rw [hH1];simp
 have hbl:=O.lt
 have B1:=B.old o1 (Nat.le_refl _)
 obtain ⟨H2,e2,O2,f2,l2,x2⟩:=Bld.app2 B1 (bytes:=bytes) (n:=1) O1.sees.shows (by rw [hsz,Nat.one_mul]) hl (by omega)
 rw [l1] at e2 O2
 have Ob2:Owns H2 b X 0:=by
  show hblk H2 b=_
  rw [f2 b (by omega) hpa];exact O.old o1 hbl
 obtain ⟨H3,e3,O3,b3,n3⟩:=Ob2.st1 (o:=o) hX (.slice (some ⟨H.length+1,0,none⟩) (l+1) unk)
 have key:∀i,i < H.length->(∀a,qp=some a->a.block≠i)->i≠b->hblk H3 i=hblk H i:=λ i hi h1 h2=> by
  rw [b3.2 i (by omega) h2,f2 i (by omega) h1,o1.2 i hi]
 refine ⟨H1,H2,H3,hH1,e2,e3,O3, .inr ⟨_,rfl,rfl,by omega,O2.but b3 (by omega),x2⟩,key,⟨by omega,λ i hi hn=> key i (by omega) (λ a ha=> ?_) hn⟩,by omega⟩
 rcases B with ⟨h,_⟩|⟨b',h,_,h3,_⟩
 . rw [h] at ha;cases ha
 . rw [h] at ha;cases ha;exact λ (h:b'=i)=> by omega
theorem ASC {α:Type} (f:α->List Value) (sz:Nat) (hf:∀a,(f a).length=sz):∀(l:List α) (i:Nat) (x:α),l[i]? =some x->∀j,j < sz->(l.flatMap f)[i * sz+j]? =(f x)[j]? :=by
 intro l
 induction l with
 |nil=> intro i x h;simp at h
 |cons y l ih=>
  intro i x h j hj
  rw [List.flatMap_cons]
  cases i with
  |zero=> simp at h;subst h;rw [Nat.zero_mul,Nat.zero_add,List.getElem?_append_left (by rw [hf];exact hj)]
  |succ i=>
   simp only [List.getElem?_cons_succ] at h
   rw [List.getElem?_append_right (by rw [hf,Nat.succ_mul];omega),hf,show (i+1) * sz+j - sz=i * sz+j from by rw [Nat.succ_mul];omega]
   exact ih i x h j hj
theorem ASc {α:Type} {f:α->List Value} {sz:Nat} (hf:∀a,(f a).length=sz) (h0:0 < sz) {H:Heap} {q:Oa} {l:List α} (h:Shows H q (l.flatMap f)) (hlen:(l.flatMap f).length=l.length * sz) {i:Nat} {x:α} (hi:l[i]? =some x):
 ∃b o,(∀(R:Type) (K:Oa->Option R),hidx q l.length (i:Int) sz K=K (some ⟨b,o,none⟩))/\∀j,j < sz->hcell H b (o+j)=(f x)[j]? :=by
 have hlt:i < l.length:=(List.getElem?_eq_some_iff.1 hi).1
 have hmul:i * sz+sz<=l.length * sz:=by
  have:=Nat.mul_le_mul_right sz (show i+1<=l.length from hlt)
  rwa [Nat.add_mul,Nat.one_mul] at this
 rcases h with h|⟨b,o,full,rfl,hs,h1,h2⟩
 . rw [h] at hlen;simp at hlen;omega
 . refine ⟨b,o+i * sz,λ R K=> ?_,λ j hj=> ?_⟩
   . simp only [hidx];rw [if_pos ⟨by omega,by omega⟩,Int.toNat_natCast]
   . rw [hs.cell,←ASC f sz hf l i x hi j hj,←h2,List.getElem?_take,if_pos (by omega),List.getElem?_drop,Nat.add_assoc]
structure Sl where
 o:Nat
 sz:Nat
 q:Oa
 l:Nat
 c:Nat
 xs:List Value
structure Gw (N b:Nat) (H:Heap) (X:List Value) (S:List Sl):Prop where
 o:Owns H b X 0
 m:∀s∈S,X[s.o]? =some (.slice s.q s.l s.c)
 f:∀s∈S,Bld N s.sz H s.q s.l s.c s.xs
 a:∀s∈S,∀a,s.q=some a->a.block≠b
 d:S.Pairwise λ s t=>∀a a',s.q=some a->t.q=some a'->a.block≠a'.block
def Ot (b:Nat) (S:List Sl) (i:Nat):Prop:=i≠b/\∀s∈S,∀a,s.q=some a->a.block≠i
theorem Gw.keep {N b:Nat} {H H':Heap} {X:List Value} {S:List Sl} (G:Gw N b H X S) (o:Old H.length H H'):Gw N b H' X S:=⟨G.o.old o G.o.lt,G.m,λ s hs=> (G.f s hs).old o (Nat.le_refl _),G.a,G.d⟩
theorem Gw.grow {N b:Nat} {H:Heap} {X:List Value} {A B:List Sl} {s:Sl} {bytes:Nat} {ec:List Value} (G:Gw N b H X (A++s::B)) (hA:∀t∈A,t.o≠s.o) (hB:∀t∈B,t.o≠s.o) (hsz:ec.length=s.sz) (hl:(s.l+1) * bytes<=35184372088832) (hN:N<=H.length):
 ∃H1 H2 H3,H1=H++ [some (⟨ec,false,0⟩:Blk)]/\(∀(R:Type) (K:Oa->Nat->Nat->Heap->Option R),happS s.sz bytes H1 s.q s.l s.c (some ⟨H.length,0,none⟩) 1 K=K (some ⟨H.length+1,0,none⟩) (s.l+1) unk H2)/\(∀(R:Type) (K:Heap->Option R),hst1 H2 (some ⟨b,s.o,none⟩) (.slice (some ⟨H.length+1,0,none⟩) (s.l+1) unk) K=K H3)/\Gw N b H3 (X.set s.o (.slice (some ⟨H.length+1,0,none⟩) (s.l+1) unk)) (A++⟨s.o,s.sz,some ⟨H.length+1,0,none⟩,s.l+1,unk,s.xs++ec⟩::B)/\(∀i,i < H.length->Ot b (A++s::B) i->hblk H3 i=hblk H i)/\OldX N b H H3/\H3.length=H.length+2:=by
 have hs:s∈A++s::B:=by simp
 have hm:=G.m s hs
 have hlt:=(List.getElem?_eq_some_iff.1 hm).1
 obtain ⟨H1,H2,H3,hH1,e2,e3,O3,B3,key,o3,n3⟩:=grow1 (bytes:=bytes) (o:=s.o) (ec:=ec) G.o hlt (G.f s hs) (G.a s hs) hsz hl hN
 have hd:=G.d
 rw [List.pairwise_append,List.pairwise_cons] at hd
 obtain ⟨d1,⟨d2,d3⟩,d4⟩:=hd
 have apart:∀t,t∈A∨t∈B->∀a a',s.q=some a->t.q=some a'->a.block≠a'.block:=λ t ht a a' h1 h2=> by
  rcases ht with ht|ht
  . exact (d4 t ht s (by simp) a' a h2 h1).symm
  . exact d2 t ht a a' h1 h2
 have low:∀t∈A++s::B,∀a,t.q=some a->a.block < H.length:=λ t ht a ha=> (G.f t ht).below a ha
 have other:∀t,t∈A∨t∈B->t∈A++s::B:=λ t ht=> by
  rcases ht with ht|ht
  . exact List.mem_append_left _ ht
  . exact List.mem_append_right _ (List.mem_cons_of_mem _ ht)
 have kb:∀t,t∈A∨t∈B->Bld N t.sz H3 t.q t.l t.c t.xs:=λ t ht=> by
  have ht':=other t ht
  rcases G.f t ht' with h|⟨b',h1,h2,h3,h4,h5⟩
  . exact .inl h
  . refine .inr ⟨b',h1,h2,h3, ?_,h5⟩
    show hblk H3 b'=_
    rw [key b' h4.lt (λ a ha=> apart t ht a _ ha h1) (G.a t ht' _ h1)];exact h4
 refine ⟨H1,H2,H3,hH1,e2,e3,⟨O3,λ t ht=> ?_,λ t ht=> ?_,λ t ht a ha=> ?_, ?_⟩,λ i hi ho=> key i hi (ho.2 s hs) ho.1,o3,n3⟩
 . rcases List.mem_append.1 ht with h|h
   . rw [List.getElem?_set_ne (λ hh=> hA t h hh.symm)];exact G.m t (other t (.inl h))
   . rcases List.mem_cons.1 h with rfl|h
     . simp [hlt]
     . rw [List.getElem?_set_ne (λ hh=> hB t h hh.symm)];exact G.m t (other t (.inr h))
 . rcases List.mem_append.1 ht with h|h
   . exact kb t (.inl h)
   . rcases List.mem_cons.1 h with rfl|h
     . exact B3
     . exact kb t (.inr h)
 . have hbl:=G.o.lt
   rcases List.mem_append.1 ht with h|h
   . exact G.a t (other t (.inl h)) a ha
   . rcases List.mem_cons.1 h with rfl|h
     . cases ha;simp only;omega
     . exact G.a t (other t (.inr h)) a ha
 . rw [List.pairwise_append,List.pairwise_cons]
   refine ⟨d1,⟨λ t ht a a' h1 h2=> ?_,d3⟩,λ t ht u hu a a' h1 h2=> ?_⟩
   . have:=low t (other t (.inr ht)) a' h2
     cases h1;simp only;omega
   . rcases List.mem_cons.1 hu with rfl|hu
     . have:=low t (other t (.inl ht)) a h1
       cases h2;simp only;omega
     . exact d4 t ht u (List.mem_cons_of_mem _ hu) a a' h1 h2
theorem Gw.one {N b:Nat} {H:Heap} {X:List Value} {s:Sl} (G:Gw N b H X [s]) {j:Nat} (h1:j≠b) (h2:∀a,s.q=some a->a.block≠j):Ot b ([]++s:: []) j:=⟨h1,λ t ht a ha=> by
 have ht':=List.mem_singleton.1 ht
 subst ht'
 exact h2 a ha⟩
open Go.Proofs.Ytmanlfonppfhaaa.FW Go.IntWalk
def LL (a b:Nat):Nat:=(lvs 17 a b).length
abbrev Gn:=Nat->Nat->Nd
theorem Tn.zero {N:Nat} {H:Heap} {p:Nat} {q:Oa} {c:Nat} {l:List Lv} {e d:Bool} {g:Gn} (T:Tn N H p q c l e d g):Tn 0 H p q c l e d g:=by
 refine ⟨T.o, ?_,Nat.zero_le _,T.ap,λ i v hv=> ?_,T.d⟩
 . rcases T.b with h|⟨b,h1,h2,_,h4,h5⟩
   . exact .inl h
   . exact .inr ⟨b,h1,h2,Nat.zero_le _,h4,h5⟩
 . obtain ⟨g1,_,g3,g4⟩:=T.n i v hv
   exact ⟨g1,Nat.zero_le _,g3,g4⟩
theorem Tn.ge {N:Nat} {H:Heap} {p:Nat} {q:Oa} {c:Nat} {l:List Lv} {e d:Bool} {g:Gn} (T:Tn N H p q c l e d g) {i:Nat} (h:¬ Off p q l i):N<=i:=by
 refine Decidable.byContradiction λ hc=> h ⟨by have:=T.low;omega,λ a ha=> ?_,λ j v hv=> by have:=(T.n j v hv).2.1;omega⟩
 rcases T.b with ⟨h1,_⟩|⟨b,h1,_,h3,_⟩
 . rw [h1] at ha;cases ha
 . rw [h1] at ha;cases ha;simp only;omega
theorem Tn.lt {N:Nat} {H:Heap} {p:Nat} {q:Oa} {c:Nat} {l:List Lv} {e d:Bool} {g:Gn} (T:Tn N H p q c l e d g) {i:Nat} (h:¬ Off p q l i):i < H.length:=Decidable.byContradiction λ hc=> h (T.fresh (by omega))
structure ZT (z:Nat->Nat) (c:Nat) (H:Heap) (p a b:Nat) (d:Bool) (g:Gn):Prop where
 t:∃q cc l,Tn 0 H p q cc l false d g/\Geo a b l/\l.length=LL a b/\Gok g/\∀i,¬ Off p q l i->z i=c
theorem ZT.same {z:Nat->Nat} {c:Nat} {H H':Heap} {p a b:Nat} {d:Bool} {g:Gn} (h:ZT z c H p a b d g) (s:∀i,i < H.length->z i=c->hblk H' i=hblk H i):ZT z c H' p a b d g:=by
 obtain ⟨q,cc,l,T,G,hl,hg,hz⟩:=h.t
 exact ⟨⟨q,cc,l,T.same λ i hi ho=> s i hi (hz i ho),G,hl,hg,hz⟩⟩
theorem ZT.zone {z z':Nat->Nat} {c c':Nat} {H:Heap} {p a b:Nat} {d:Bool} {g:Gn} (h:ZT z c H p a b d g) (s:∀i,i < H.length->z i=c->z' i=c'):ZT z' c' H p a b d g:=by
 obtain ⟨q,cc,l,T,G,hl,hg,hz⟩:=h.t
 exact ⟨⟨q,cc,l,T,G,hl,hg,λ i ho=> s i (T.lt ho) (hz i ho)⟩⟩
theorem ZT.gok {z:Nat->Nat} {c:Nat} {H:Heap} {p a b:Nat} {d:Bool} {g:Gn} (h:ZT z c H p a b d g):Gok g:=by obtain ⟨_,_,_,_,_,_,hg,_⟩:=h.t;exact hg
theorem ZT.dim {z:Nat->Nat} {c:Nat} {H:Heap} {p a b:Nat} {d:Bool} {g:Gn} (h:ZT z c H p a b d g):1<=LL a b:=by obtain ⟨_,_,_,_,G,hl,_,_⟩:=h.t;have:=G.pos;omega
theorem ZT.pt {z:Nat->Nat} {c:Nat} {H:Heap} {p a b:Nat} {d:Bool} {g:Gn} (h:ZT z c H p a b d g):z p=c/\p < H.length:=by
 obtain ⟨q,cc,l,T,_,_,_,hz⟩:=h.t
 exact ⟨hz p λ ho=> ho.1 rfl,T.o.lt⟩
theorem ZT.dec {k:Nat} (hk:70000 < k) {z:Nat->Nat} {c:Nat} {H:Heap} {p a b:Nat} {d:Bool} {g:Gn} (h:ZT z c H p a b d g) {pw:Nat} {qw:Oa} {bs:List Int} {s:Nat×Nat} (W:Rd H pw qw bs s) (hql:∀a,qw=some a->a.block < H.length) (hz:z pw≠c) (hq:∀a,qw=some a->z a.block≠c) (x y t:Int):
 ∃H',(∀(R:Type) (K:Bool->Int->Heap->Option R),AAy k (some ⟨p,0,none⟩) (some ⟨pw,0,none⟩) x y t H K=K (decR bs a b (LL a b) false d g x y t s).1.1 (decR bs a b (LL a b) false d g x y t s).1.2 H')/\ZT z c H' p a b (decR bs a b (LL a b) false d g x y t s).2.1 (decR bs a b (LL a b) false d g x y t s).2.2.1/\Rd H' pw qw bs (decR bs a b (LL a b) false d g x y t s).2.2.2/\H.length<=H'.length/\∀i,i < H.length->z i≠c->i≠pw->(∀a,qw=some a->a.block≠i)->hblk H' i=hblk H i:=by
 obtain ⟨q,cc,l,T,G,hl,hg,hzz⟩:=h.t
 have off:∀i,z i≠c->Off p q l i:=λ i hi=> Classical.byContradiction λ ho=> hi (hzz i ho)
 obtain ⟨H',e,T',W',C⟩:=AT7 hk T G hg W hql (off _ hz) (λ a ha=> off _ (hq a ha)) x y t
 rw [hl] at e T' W'
 refine ⟨H',e,⟨⟨q,cc,l,T',G,hl,ATt hg x y t s,hzz⟩⟩,W',C.len,λ i hi h1 h2 h3=> ?_⟩
 have ho:=off i h1
 exact C.old i hi h2 h3 ho.1 ho.2.2
theorem ZT.val {k:Nat} {z:Nat->Nat} {c:Nat} {H:Heap} {p a b:Nat} {d:Bool} {g:Gn} (h:ZT z c H p a b d g) (x y:Int):
 ∃H',(∀(R:Type) (K:Int->Bool->Heap->Option R),ABz k (some ⟨p,0,none⟩) x y H K=K (valR a b x y g).1 (valR a b x y g).2 H')/\Old H.length H H':=by
 obtain ⟨q,cc,l,T,G,hl,hg,hzz⟩:=h.t
 exact AVg T G x y
structure ZR (z:Nat->Nat) (c:Nat) (H:Heap) (p a b:Nat) (d:Bool) (g:Gn):Prop where
 t:∃bn cap zz F,Rt 0 H p bn (base a b (LL a b)) cap zz a b false d F/\Rel a b (LL a b) F g/\RG a b (LL a b)/\Gok g/\z p=c/\z bn=c
theorem ZR.same {z:Nat->Nat} {c:Nat} {H H':Heap} {p a b:Nat} {d:Bool} {g:Gn} (h:ZR z c H p a b d g) (s:∀i,i < H.length->z i=c->hblk H' i=hblk H i):ZR z c H' p a b d g:=by
 obtain ⟨bn,cap,zz,F,T,hr,G,hg,h1,h2⟩:=h.t
 exact ⟨⟨bn,cap,zz,F,T.same (s p T.o.lt h1) (s bn T.n.lt h2),hr,G,hg,h1,h2⟩⟩
theorem ZR.zone {z z':Nat->Nat} {c c':Nat} {H:Heap} {p a b:Nat} {d:Bool} {g:Gn} (h:ZR z c H p a b d g) (s:∀i,i < H.length->z i=c->z' i=c'):ZR z' c' H p a b d g:=by
 obtain ⟨bn,cap,zz,F,T,hr,G,hg,h1,h2⟩:=h.t
 exact ⟨⟨bn,cap,zz,F,T,hr,G,hg,s p T.o.lt h1,s bn T.n.lt h2⟩⟩
theorem ZR.gok {z:Nat->Nat} {c:Nat} {H:Heap} {p a b:Nat} {d:Bool} {g:Gn} (h:ZR z c H p a b d g):Gok g:=by obtain ⟨_,_,_,_,_,_,_,hg,_⟩:=h.t;exact hg
theorem ZR.dim {z:Nat->Nat} {c:Nat} {H:Heap} {p a b:Nat} {d:Bool} {g:Gn} (h:ZR z c H p a b d g):1<=LL a b:=by obtain ⟨_,_,_,_,_,_,G,_⟩:=h.t;exact G.pos
theorem ZR.pt {z:Nat->Nat} {c:Nat} {H:Heap} {p a b:Nat} {d:Bool} {g:Gn} (h:ZR z c H p a b d g):z p=c/\p < H.length:=by
 obtain ⟨bn,cap,zz,F,T,hr,G,hg,h1,h2⟩:=h.t
 exact ⟨h1,T.o.lt⟩
theorem ZR.dec {k:Nat} (hk:70000 < k) {z:Nat->Nat} {c:Nat} {H:Heap} {p a b:Nat} {d:Bool} {g:Gn} (h:ZR z c H p a b d g) {pw:Nat} {qw:Oa} {bs:List Int} {s:Nat×Nat} (W:Rd H pw qw bs s) (hql:∀a,qw=some a->a.block < H.length) (hz:z pw≠c) (hq:∀a,qw=some a->z a.block≠c) (x y t:Int):
 ∃H' z',(∀(R:Type) (K:Bool->Int->Heap->Option R),ABr k (some ⟨p,0,none⟩) (some ⟨pw,0,none⟩) x y t H K=K (decR bs a b (LL a b) false d g x y t s).1.1 (decR bs a b (LL a b) false d g x y t s).1.2 H')/\ZR z' c H' p a b (decR bs a b (LL a b) false d g x y t s).2.1 (decR bs a b (LL a b) false d g x y t s).2.2.1/\Rd H' pw qw bs (decR bs a b (LL a b) false d g x y t s).2.2.2/\H.length<=H'.length/\(∀i,i < H.length∨H'.length<=i->z' i=z i)/\∀i,i < H.length->z i≠c->i≠pw->hblk H' i=hblk H i:=by
 obtain ⟨bn,cap,zz,F,T,hr,G,hg,h1,h2⟩:=h.t
 obtain ⟨H',bn2,cap2,z2,F',e,W',T',hr',hb,hl,hs⟩:=ASS hk G rfl hg T hr (Nat.zero_le _) W hql (λ hh=> hz (by rw [hh];exact h1)) (λ hh=> hz (by rw [hh];exact h2)) (λ a ha=> ⟨λ hh=> hq a ha (by rw [hh];exact h1),λ hh=> hq a ha (by rw [hh];exact h2)⟩) x y t
 have hpl:=T.o.lt
 have hbl:=T.n.lt
 have hb2:=T'.n.lt
 refine ⟨H',λ i=> if H.length<=i/\i=bn2 then c else z i,e,⟨⟨bn2,cap2,z2,F',T',hr',G,ATt hg x y t s, ?_, ?_⟩⟩,W',hl,λ i hi=> ?_,λ i hi h3 h4=> hs i hi h4 λ hh=> h3 (by rw [hh];exact h1)⟩
 . exact (if_neg (by omega)).trans h1
 . show (if H.length<=bn2/\bn2=bn2 then c else z bn2)=c
   split
   . rfl
   . rename_i hh
     rcases hb with hb|hb
     . rw [hb];exact h2
     . exact (hh ⟨hb,rfl⟩).elim
 . exact if_neg (by omega)
theorem ZR.val {k:Nat} {z:Nat->Nat} {c:Nat} {H:Heap} {p a b:Nat} {d:Bool} {g:Gn} (h:ZR z c H p a b d g) (x y:Int):
 ∀(R:Type) (K:Int->Bool->Option R),ADO k (some ⟨p,0,none⟩) x y H K=K (valR a b x y g).1 (valR a b x y g).2:=by
 obtain ⟨bn,cap,zz,F,T,hr,G,hg,h1,h2⟩:=h.t
 exact ATI T rfl hr G.a1 G.b1 G.ab G.pos x y
theorem Agc {S:Type} (code:Cod S) (t:Int) (f:Nat->Nd):∀(m:Nat) (low:Int) (s:S) (pf:Nat->Nd),(wk code t f m low s pf).1=0->∀i,i < m->(f i).2.1<=((wk code t f m low s pf).2.2 i).2.1:=by
 intro m
 induction m with
 |zero=> intro low s pf _ i hi;omega
 |succ m ih=>
  intro low s pf h i hi
  rw [wk] at h ⊢
  split
  . rename_i hc
    rw [if_pos hc] at h
    exact (hc h).elim
  . rename_i hc
    rw [if_neg hc] at h
    by_cases him:i=m
    . subst him
      rw [Aao code t f i _ _ _ i (Nat.le_refl _),ANZ]
      have:=(ATT code t _ s ((f i).1,imx (f i).2.1 low,(f i).2.2) (Nat.le_refl _) (Classical.byContradiction λ hh=> hc hh)).2
      have h2:=(ATa (f i).2.1 low).1
      unfold nl
      simp only at this ⊢
      omega
    . exact ih _ _ _ h i (by omega)
theorem AOW {bs:List Int} {a b L:Nat} {d:Bool} {g:Gn} {x y:Nat} {t:Int} {s:Nat×Nat} (hx:x < a) (hy:y < b) (ht:0<=t) (ht2:t<=65536) (hL:1<=L) (h:(decR bs a b L false d g x y t s).1.2=0):
 (decR bs a b L false d g x y t s).1.1=(((decR bs a b L false d g x y t s).2.2.1 0 (ix a x y 0)).2.2 && decide (((decR bs a b L false d g x y t s).2.2.1 0 (ix a x y 0)).2.1 < t))/\
 (t<=((decR bs a b L false d g x y t s).2.2.1 0 (ix a x y 0)).2.1∨((decR bs a b L false d g x y t s).2.2.1 0 (ix a x y 0)).2.2=true)/\
 (g 0 (ix a x y 0)).2.1<=((decR bs a b L false d g x y t s).2.2.1 0 (ix a x y 0)).2.1:=by
 have hi:ins a b (x:Int) (y:Int)=true/\0<=t/\t<=65536:=⟨decide_eq_true (by omega),ht,ht2⟩
 unfold decR at h ⊢
 rw [if_neg (by simp),if_pos hi] at h ⊢
 simp only [Int.toNat_natCast] at h ⊢
 by_cases hw:(decW bs a L g x y t s).1=0
 . rw [if_pos hw]
   have e1:gw a x y g (decW bs a L g x y t s).2.2 L 0 (ix a x y 0)=(decW bs a L g x y t s).2.2 0:=Abt (by omega)
   simp only [e1]
   have h1:=(AYE (rcode bs) t (λ i=> g i (ix a x y i)) L 0 s (λ _=> nz) hw).1 0 (by omega)
   have h2:=Agc (rcode bs) t (λ i=> g i (ix a x y i)) L 0 s (λ _=> nz) hw 0 (by omega)
   exact ⟨trivial,h1,h2⟩
 . rw [if_neg hw] at h
   exact (hw h).elim
theorem ANp {a b x y:Nat} {g:Gn} (hx:x < a) (hy:y < b) (h:(g 0 (ix a x y 0)).2.2=true):valR a b (x:Int) (y:Int) g=((g 0 (ix a x y 0)).2.1,true):=by
 unfold valR
 rw [Int.toNat_natCast,Int.toNat_natCast,if_pos ⟨decide_eq_true (by omega),h⟩]
open Go.Proofs.Ytmanlfonppfhaaa.FW Go.IntWalk
def dgf:Nat->Nat->Nat
 |0,_=> 0
 |f+1,n=> if n=0 then 0 else dgf f (n / 2)+1
def dg (n:Nat):Nat:=dgf 40 n
theorem Abz:∀(f n m:Nat),n < 2 ^ f->(dgf f n<=m ↔ n < 2 ^ m):=by
 intro f
 induction f with
 |zero=> intro n m h;simp only [Nat.pow_zero] at h;simp [dgf,show n=0 from by omega];exact Nat.two_pow_pos m
 |succ f ih=>
  intro n m h
  rw [dgf]
  split
  . rename_i h0;subst h0;exact ⟨λ _=> Nat.two_pow_pos m,λ _=> Nat.zero_le _⟩
  . rename_i h0
    cases m with
    |zero=> simp only [Nat.pow_zero];omega
    |succ m=>
     rw [Nat.pow_succ] at h ⊢
     have:=ih (n / 2) m (by omega)
     omega
theorem AVX {n m:Nat} (h:n < 2 ^ 40):dg n<=m ↔ n < 2 ^ m:=Abz 40 n m h
theorem ATr {n:Nat} (h:0 < n):1<=dg n:=by unfold dg;rw [dgf,if_neg (by omega)];omega
theorem ATs {n:Nat} (h:n < 256):dg n<=8:=(AVX (by omega)).2 (by omega)
theorem AVW (k:Nat) {R:Type} (KE:Int->Option R):∀(f n v c:Nat),v < 2 ^ f->f < n->f<=40->c+f<=40->AEE k KE n (v:Int) (c:Int)=KE ((c+dgf f v:Nat):Int):=by
 intro f
 induction f with
 |zero=>
  intro n v c h hn _ _
  obtain ⟨n,rfl⟩:∃n',n=n'+1:=⟨n - 1,by omega⟩
  simp only [Nat.pow_zero] at h
  unfold AEE AI9
  exact go_f (decide_eq_false (by omega)) rfl
 |succ f ih=>
  intro n v c h hn hf hc
  obtain ⟨n,rfl⟩:∃n',n=n'+1:=⟨n - 1,by omega⟩
  rw [Nat.pow_succ] at h
  have h40:2 ^ f<=2 ^ 40:=Nat.pow_le_pow_right (by omega) (by omega)
  rw [dgf]
  unfold AEE AI9
  by_cases h0:v=0
  . rw [if_pos h0]
    exact go_f (decide_eq_false (by omega)) rfl
  . rw [if_neg h0]
    refine go_t (decide_eq_true (by omega)) ?_
    have e1:IntKind.wrap .i64 (Int.tdiv (v:Int) 2)=((v / 2:Nat):Int):=by
     rw [show Int.tdiv (v:Int) 2=((v / 2:Nat):Int) from rfl,w64 (by omega) (by omega)]
    have e2:IntKind.wrap .i64 ((c:Int)+1)=((c+1:Nat):Int):=by rw [w64 (by omega) (by omega)];omega
    rw [e1,e2,ih n (v / 2) (c+1) (by omega) (by omega) (by omega) (by omega),show c+1+dgf f (v / 2)=c+(dgf f (v / 2)+1) from by omega]
theorem AOV {k:Nat} (hk:100 < k) {v:Int} (h0:0<=v) (h:v < 1099511627776) (R:Type) (K:Int->Option R):AJZ k v K=K ((dg v.toNat:Nat):Int):=by
 obtain ⟨n,rfl⟩:∃n:Nat,v=n:=⟨v.toNat,by omega⟩
 have:=AVW k (λ n3=> K n3) 40 k n 0 (by omega) (by omega) (by omega) (by omega)
 rw [Nat.zero_add] at this
 unfold AJZ AMq
 rw [Int.toNat_natCast]
 exact this
def tbl:ByteArray:=ByteArray.mk #[0,1,2,2,3,3,3,3,4,4,4,4,4,4,4,4,5,5,5,5,5,5,5,5,5,5,5,5,5,5,5,5,6,6,6,6,6,6,6,6,6,6,6,6,6,6,6,6,6,6,6,6,6,6,6,6,6,6,6,6,6,6,6,6,7,7,7,7,7,7,7,7,7,7,7,7,7,7,7,7,7,7,7,7,7,7,7,7,7,7,7,7,7,7,7,7,7,7,7,7,7,7,7,7,7,7,7,7,7,7,7,7,7,7,7,7,7,7,7,7,7,7,7,7,7,7,7,7,8,8,8,8,8,8,8,8,8,8,8,8,8,8,8,8,8,8,8,8,8,8,8,8,8,8,8,8,8,8,8,8,8,8,8,8,8,8,8,8,8,8,8,8,8,8,8,8,8,8,8,8,8,8,8,8,8,8,8,8,8,8,8,8,8,8,8,8,8,8,8,8,8,8,8,8,8,8,8,8,8,8,8,8,8,8,8,8,8,8,8,8,8,8,8,8,8,8,8,8,8,8,8,8,8,8,8,8,8,8,8,8,8,8,8,8,8,8,8,8,8,8,8,8,8,8,8,8]
theorem AYI:(List.range 256).all (λ n=> tbl[n]?.map UInt8.toNat==some (dg n))=true:=by kernel_rfl
theorem Aap {n:Nat} (h:n < 256):∃b,tbl[n]? =some b/\b.toNat=dg n:=by
 have:=(List.all_eq_true.1 AYI) n (List.mem_range.2 h)
 cases hb:tbl[n]? with
 |none=> rw [hb] at this;simp at this
 |some b=> rw [hb] at this;exact ⟨b,rfl,by simpa using this⟩
def wid (k:Int):Nat:=dg k.toNat - 1
theorem AQ7 {k:Int} (h:k<=255):wid k<=7:=by unfold wid;have:=ATs (n:=k.toNat) (by omega);omega
set_option maxRecDepth 20000 in
theorem ARp {k:Nat} {v:Int} (h0:1<=v) (h:v<=255) (R:Type) (K:Int->Option R):AF8 k v K=K ((wid v:Nat):Int):=by
 obtain ⟨n,rfl⟩:∃n:Nat,v=n:=⟨v.toNat,by omega⟩
 obtain ⟨b,h1,h2⟩:=Aap (n:=n) (by omega)
 have h3:=ATs (n:=n) (by omega)
 have h4:=ATr (n:=n) (by omega)
 have e1:IntKind.wrap .u64 (n:Int)=(n:Int):=wu64 (by omega) (by omega)
 have e2:IntKind.wrap .u8 (n:Int)=(n:Int):=u8_in _ ⟨by omega,by omega⟩
 unfold AF8 AKw AOJ ANv ANJ AMp AE1 AK1
 try dsimp only
 rw [e1]
 refine go_f (decide_eq_false (by omega)) ?_
 unfold AE0 AK0
 refine go_f (decide_eq_false (by omega)) ?_
 unfold AEz AKz
 refine go_f (decide_eq_false (by omega)) ?_
 show hidt tbl _ _=_
 rw [e2]
 unfold hidt
 rw [if_pos (by omega),Int.toNat_natCast,h1]
 try dsimp only
 rw [h2,w64 (n:=((dg n:Nat):Int)) (by omega) (by omega),w64 (n:=0+((dg n:Nat):Int)) (by omega) (by omega),w64 (by omega) (by omega)]
 unfold wid
 rw [Int.toNat_natCast]
 congr 1
 omega
def suff (n:Nat) (zs:List (Int×Int)):Bool:=zs.all λ z=> decide (z.2 < ((2 ^ (n+wid z.1):Nat):Int))
theorem Aaq (k:Nat) {H:Heap} {q2 q5:Oa} {zs:List (Int×Int)} (hz:∀z∈zs,1<=z.1/\z.1<=255) (hl:zs.length<=1000) {n:Nat} (hn:n<=20) (c4 c7:Nat) (h2:Shows H q2 (ints (zs.map Prod.fst))) (h5:Shows H q5 (ints (zs.map Prod.snd))) {R:Type} (KE:Unit->Option R) (KR:Bool->Option R):∀(m f i:Nat),m < f->zs.length=i+m->ABm k KE KR f (n:Int) q2 zs.length c4 q5 zs.length c7 ((zs.length:Nat):Int) (i:Int) H=bif suff n (zs.drop i) then KE () else KR false:=by
 intro m
 induction m with
 |zero=>
  intro f i hf hi
  obtain ⟨f,rfl⟩:∃n',f=n'+1:=⟨f - 1,by omega⟩
  unfold ABm AEv
  rw [List.drop_eq_nil_of_le (by omega)]
  exact go_f (decide_eq_false (by omega)) rfl
 |succ m ih=>
  intro f i hf hi
  obtain ⟨f,rfl⟩:∃n',f=n'+1:=⟨f - 1,by omega⟩
  obtain ⟨z,hzi⟩:=AKx (l:=zs) (i:=i) (by omega)
  obtain ⟨p1,e1,v1⟩:=AL8 h5 (i:=i) (x:=z.2) (by rw [List.getElem?_map,hzi];rfl)
  obtain ⟨p2,e2,v2⟩:=AL8 h2 (i:=i) (x:=z.1) (by rw [List.getElem?_map,hzi];rfl)
  rw [List.length_map] at e1 e2
  obtain ⟨b1,b2⟩:=hz z (List.mem_of_getElem? hzi)
  have hw:=AQ7 b2
  have e3:=ARp (k:=k) b1 b2
  have hp:2 ^ (n+wid z.1)<=2 ^ 30:=Nat.pow_le_pow_right (by omega) (by omega)
  have e4:∀(R:Type) (K:Int->Option R),hbin .shl .i64 1 (IntKind.wrap .i64 ((n:Int)+((wid z.1:Nat):Int))) K=K ((2 ^ (n+wid z.1):Nat):Int):=λ R K=> by
   have:=shl64 (a:=1) (n:=n+wid z.1) (by omega) (by omega) K
   rw [wu64 (by omega) (by omega),Nat.one_mul] at this
   rw [w64 (by omega) (by omega),←Int.natCast_add]
   exact this
  unfold ABm AEv
  refine go_t (decide_eq_true (by omega)) ((e1 _ _).trans ((v1 _ _).trans ((e2 _ _).trans ((v2 _ _).trans ((e3 _ _).trans ((e4 _ _).trans ?_))))))
  have hd:suff n (zs.drop i)=(decide (z.2 < ((2 ^ (n+wid z.1):Nat):Int)) && suff n (zs.drop (i+1))):=by rw [AIr hzi];rfl
  rw [hd]
  by_cases hc:z.2 < ((2 ^ (n+wid z.1):Nat):Int)
  . rw [decide_eq_true hc,Bool.true_and,←ih f (i+1) (by omega) (by omega)]
    refine go_f (decide_eq_false (by omega)) ?_
    rw [w64 (n:=(i:Int)+1) (by omega) (by omega)]
    rfl
  . rw [decide_eq_false hc,Bool.false_and]
    exact go_t (decide_eq_true (by omega)) rfl
theorem AYJ {k:Nat} (hk:1000 < k) {H:Heap} {q2 q5:Oa} {zs:List (Int×Int)} (hz:∀z∈zs,1<=z.1/\z.1<=255) (hl:zs.length<=1000) {n:Nat} (hn:n<=20) (c4 c7:Nat) (h2:Shows H q2 (ints (zs.map Prod.fst))) (h5:Shows H q5 (ints (zs.map Prod.snd))) (R:Type) (K:Bool->Option R):AGY k (n:Int) q2 zs.length c4 q5 zs.length c7 H K=K (suff n zs):=by
 have:=Aaq k hz hl hn c4 c7 h2 h5 (λ _=> K true) (λ t9=> K t9) zs.length k 0 (by omega) (by omega)
 rw [List.drop_zero] at this
 unfold AGY AIj
 refine this.trans ?_
 cases suff n zs <;> rfl
def incr (b:Int):List (Int×Int)->Int->Int
 | [],a=> a
 |z::zs,a=> incr b zs (imx a (((dg z.2.toNat:Nat):Int) - b - (((dg z.1.toNat:Nat):Int) - 1)))
theorem ARc (b:Int):∀(zs:List (Int×Int)) (a m:Int),incr b zs a<=m ↔ a<=m/\∀z∈zs,((dg z.2.toNat:Nat):Int) - b - (((dg z.1.toNat:Nat):Int) - 1)<=m:=by
 intro zs
 induction zs with
 |nil=> intro a m;simp [incr]
 |cons z zs ih=>
  intro a m
  rw [incr,ih]
  simp only [List.mem_cons,forall_eq_or_imp]
  have:imx a (((dg z.2.toNat:Nat):Int) - b - (((dg z.1.toNat:Nat):Int) - 1))<=m ↔ a<=m/\((dg z.2.toNat:Nat):Int) - b - (((dg z.1.toNat:Nat):Int) - 1)<=m:=by unfold imx;split <;> omega
  rw [this,and_assoc]
theorem Abp (k:Nat) (hk:100 < k) {H:Heap} {q2 q5:Oa} {zs:List (Int×Int)} (hz:∀z∈zs,1<=z.1/\z.1<=255/\0<=z.2/\z.2 < 1099511627776) (hl:zs.length<=1000) {b:Int} (hb:0<=b) (hb2:b<=100) (c4 c7:Nat) (h2:Shows H q2 (ints (zs.map Prod.snd))) (h5:Shows H q5 (ints (zs.map Prod.fst))) {R:Type} (KE:Int->Option R):∀(m f i:Nat) (a:Int),m < f->zs.length=i+m->ACn k KE f b q2 zs.length c4 q5 zs.length c7 a (i:Int) H=KE (incr b (zs.drop i) a):=by
 intro m
 induction m with
 |zero=>
  intro f i a hf hi
  obtain ⟨f,rfl⟩:∃n',f=n'+1:=⟨f - 1,by omega⟩
  unfold ACn AHV
  rw [List.drop_eq_nil_of_le (by omega)]
  exact go_f (decide_eq_false (by omega)) rfl
 |succ m ih=>
  intro f i a hf hi
  obtain ⟨f,rfl⟩:∃n',f=n'+1:=⟨f - 1,by omega⟩
  obtain ⟨z,hzi⟩:=AKx (l:=zs) (i:=i) (by omega)
  obtain ⟨p1,e1,v1⟩:=AL8 h5 (i:=i) (x:=z.1) (by rw [List.getElem?_map,hzi];rfl)
  obtain ⟨p2,e2,v2⟩:=AL8 h2 (i:=i) (x:=z.2) (by rw [List.getElem?_map,hzi];rfl)
  rw [List.length_map] at e1 e2
  obtain ⟨b1,b2,b3,b4⟩:=hz z (List.mem_of_getElem? hzi)
  have d1:=AOV (k:=k) hk (v:=z.1) (by omega) (by omega)
  have d2:=AOV (k:=k) hk b3 b4
  have g1:dg z.1.toNat<=40:=(AVX (by omega)).2 (by omega)
  have g2:dg z.2.toNat<=40:=(AVX (by omega)).2 (by omega)
  unfold ACn AHV
  refine go_t (decide_eq_true (by omega)) ((e2 _ _).trans ((v2 _ _).trans ((d2 _ _).trans ((e1 _ _).trans ((v1 _ _).trans ((d1 _ _).trans ?_))))))
  rw [AIr hzi,incr,←ih f (i+1) _ (by omega) (by omega)]
  rw [w64 (n:=(i:Int)+1) (by omega) (by omega),w64 (n:=((dg z.2.toNat:Nat):Int) - b) (by omega) (by omega),w64 (n:=((dg z.1.toNat:Nat):Int) - 1) (by omega) (by omega),w64 (by omega) (by omega)]
  rfl
theorem AYx {k:Nat} (hk:1000 < k) {H:Heap} {q2 q5:Oa} {zs:List (Int×Int)} (hz:∀z∈zs,1<=z.1/\z.1<=255/\0<=z.2/\z.2 < 1099511627776) (hl:zs.length<=1000) {b:Int} (hb:0<=b) (hb2:b<=100) (c4 c7:Nat) (h2:Shows H q2 (ints (zs.map Prod.snd))) (h5:Shows H q5 (ints (zs.map Prod.fst))) (R:Type) (K:Int->Option R):AJz k b q2 zs.length c4 q5 zs.length c7 H K=K (incr b zs 0):=by
 have:=Abp k (by omega) hz hl hb hb2 c4 c7 h2 h5 (λ n9=> K n9) zs.length k 0 0 (by omega) (by omega)
 rw [List.drop_zero] at this
 unfold AJz AL1
 exact this
theorem ATZ {b more:Nat} {zs:List (Int×Int)} (hbm:b+more<=20) (hz:∀z∈zs,1<=z.1/\z.1<=255/\0<=z.2/\z.2 < ((2 ^ (b+more+wid z.1):Nat):Int)):incr (b:Int) zs 0=(more:Int) ↔ ¬ (more > 0/\suff (b+more - 1) zs=true):=by
 have key:∀m:Nat,b+m<=20->((∀z∈zs,((dg z.2.toNat:Nat):Int) - b - (((dg z.1.toNat:Nat):Int) - 1)<=m) ↔∀z∈zs,z.2 < ((2 ^ (b+m+wid z.1):Nat):Int)):=by
  intro m hm
  refine ⟨λ h z hzm=> ?_,λ h z hzm=> ?_⟩ <;>
  . have h1:=h z hzm
    obtain ⟨b1,b2,b3,b4⟩:=hz z hzm
    have hw:=AQ7 b2
    have hp:2 ^ (b+more+wid z.1)<=2 ^ 30:=Nat.pow_le_pow_right (by omega) (by omega)
    have hd:=AVX (n:=z.2.toNat) (m:=b+m+wid z.1) (by omega)
    have hg:=ATr (n:=z.1.toNat) (by omega)
    have hwd:wid z.1=dg z.1.toNat - 1:=rfl
    first
     |(have:=hd.1 (by omega);omega)
     |(have:=hd.2 (by omega);omega)
 have h1:incr (b:Int) zs 0<=(more:Int):=(ARc _ _ _ _).2 ⟨by omega,(key more hbm).2 λ z hzm=> (hz z hzm).2.2.2⟩
 have h0:¬ incr (b:Int) zs 0<= -1:=λ h=> by have:=((ARc _ _ _ _).1 h).1;omega
 by_cases hm:more=0
 . subst hm
   exact ⟨λ _ h=> absurd h.1 (by omega),λ _=> by omega⟩
 . have h2:incr (b:Int) zs 0<=((more - 1:Nat):Int) ↔ suff (b+more - 1) zs=true:=by
    rw [ARc]
    unfold suff
    rw [List.all_eq_true]
    constructor
    . intro h z hzm
      have:=(key (more - 1) (by omega)).1 h.2 z hzm
      rw [show b+(more - 1)=b+more - 1 from by omega] at this
      exact decide_eq_true this
    . intro h
      refine ⟨by omega,(key (more - 1) (by omega)).2 λ z hzm=> ?_⟩
      rw [show b+(more - 1)=b+more - 1 from by omega]
      exact of_decide_eq_true (h z hzm)
   constructor
   . intro h hc
     have:=h2.2 hc.2
     omega
   . intro h
     have:¬ incr (b:Int) zs 0<=((more - 1:Nat):Int):=λ hh=> h ⟨by omega,h2.1 hh⟩
     omega
open Go.Proofs.Ytmanlfonppfhaaa.FW
theorem Abq {a b:Int} (h:a<=b):imn a b=a:=by unfold imn;split <;> omega
theorem Abr {a b:Int} (h:b<=a):imn a b=b:=by unfold imn;split <;> omega
theorem AR6 (a b:Int):imn a b=imn b a:=by unfold imn;split <;> split <;> omega
def nx (t1 t2:Bool) (s:Int):Int:=bif t1 && !t2 then (if s=2 then 1 else 2) else s
def seg (t1 t2:Bool):Nat->Int->Int->List Int
 |0,_,_=> []
 |f+1,s,left=> if left > 0 then imn s left::seg t1 t2 f (nx t1 t2 s) (left - imn s left) else []
theorem AT4 (k:Nat) {b N:Nat} {t1 t2 t3 t4 t5:Bool} (hbN:b < N):∀(n:Nat) (H:Heap) (q:Oa) (l c:Nat) (cs:List Int) (s left:Int),Bld N 1 H q l c (ints cs)->Sees H b [.bool t1, .bool t2, .bool t3, .bool t4, .bool t5]->N<=H.length->
 1<=s->s<=178->0<=left->left < n->left<=178->l+left<=1000->∃q' l' c' H',(∀(R:Type) (KE:Oa->Nat->Nat->Heap->Option R),ABq k KE n (some ⟨b,0,none⟩) q l c s left H=KE q' l' c' H')/\Bld N 1 H' q' l' c' (ints (cs++seg t1 t2 n s left))/\Old N H H':=by
 intro n
 induction n with
 |zero=> intros;omega
 |succ n ih=>
  intro H q l c cs s left hB hS hN h1 h2 h3 h4 h5 h6
  by_cases c0:left > 0
  . obtain ⟨p,H1,e1,hp,g1,g2,g3⟩:=AQa H [.int .i64 (imn s left)]
    subst hp
    have hB1:=hB.old g2 (Nat.le_refl _)
    obtain ⟨q2,H2,e2,g4,g5,g6⟩:=hB1.app (bytes:=8) (n:=1) (by omega) g1.sees.shows rfl (by omega) (by omega)
    have hS2:=(hS.old g2 (by omega)).old g5 hbN
    have hm1:1<=imn s left:=by unfold imn;split <;> omega
    have hm2:imn s left<=left:=by unfold imn;split <;> omega
    have hcell:∀(R:Type) (K:Bool->Option R),ldB H2 (some ⟨b,0,none⟩) K=K t1/\ldB H2 (some ⟨b,1,none⟩) K=K t2:=λ R K=> ⟨AQY (by simp [pcell,hS2.cell]) K,AQY (by simp [pcell,hS2.cell]) K⟩
    have hnx:1<=nx t1 t2 s/\nx t1 t2 s<=178:=by unfold nx;cases t1 <;> cases t2 <;> simp <;> (try split) <;> omega
    have g4':Bld N 1 H2 q2 (l+1) unk (ints (cs++ [imn s left])):=by simpa [ints] using g4
    obtain ⟨q',l',c',H',i1,i2,i3⟩:=ih H2 q2 (l+1) unk (cs++ [imn s left]) (nx t1 t2 s) (left - imn s left) g4' hS2 (by omega) hnx.1 hnx.2 (by omega) (by omega) (by omega) (by omega)
    refine ⟨q',l',c',H',λ R KE=> ?_, ?_,(g2.mono hN).trans (g5.trans i3)⟩
    . refine Eq.trans ?_ (i1 R KE)
      have ed:decide (left > 0)=true:=by simpa using c0
      show ADf _ _ _ _ _ _ _ _ _ _ _=_
      unfold ADf AB9 AIt
      rw [ed,cond_true,e1,e2]
      simp only [hfad,Nat.zero_add,hcell,w64 (n:=left - imn s left) (by omega) (by omega)]
      unfold nx
      cases t1 <;> cases t2 <;> simp
      by_cases c2:s=2
      . simp [c2]
      . have:(s==2)=false:=by simpa using c2
        rw [this,cond_false];simp [c2]
    . have:seg t1 t2 (n+1) s left=imn s left::seg t1 t2 n (nx t1 t2 s) (left - imn s left):=by
       show (if left > 0 then _ else _)=_
       rw [if_pos c0]
      rw [this];simpa using i2
  . refine ⟨q,l,c,H,λ R KE=> ?_, ?_, .refl _ _⟩
    . have ed:decide (left > 0)=false:=by simpa using c0
      show ADf _ _ _ _ _ _ _ _ _ _ _=_
      unfold ADf
      rw [ed,cond_false]
    . have:seg t1 t2 (n+1) s left= []:=by
       show (if left > 0 then _ else _)=_
       rw [if_neg c0]
      rw [this];simpa using hB
def sz (t1 t2:Bool) (n:Int) (len:Nat):Int:=if t2 then 1 else if t1 then (if len=0 then 10 else if len % 2=1 then 2 else 1) else n
theorem Agd (t1 t2:Bool) (n:Int) (len:Nat):nx t1 t2 (sz t1 t2 n len)=sz t1 t2 n (len+1):=by
 unfold nx sz
 cases t1 <;> cases t2 <;> simp
 by_cases h0:len=0
 . simp [h0]
 . by_cases h1:len % 2=1
   . have:¬ ((len+1) % 2=1):=by omega
     simp [h0,h1,this]
   . have:(len+1) % 2=1:=by omega
     simp [h0,h1,this]
theorem ASg (k:Nat) {b N:Nat} {t1 t2 t3 t4 t5:Bool} {top:Int} (ht:top<=178) (hbN:b < N):∀(n:Nat) (H:Heap) (q:Oa) (l c:Nat) (cs:List Int) (left:Int),Bld N 1 H q l c (ints cs)->Sees H b [.bool t1, .bool t2, .bool t3, .bool t4, .bool t5]->N<=H.length->
 0<=left->left < n->left<=top->l+left<=1000->∃q' l' c' H',(∀(R:Type) (KE:Oa->Nat->Nat->Heap->Option R),ACS k KE n (some ⟨b,0,none⟩) q l c left H=KE q' l' c' H')/\Bld N 1 H' q' l' c' (ints (cs++seg t1 t2 n (sz t1 t2 top l) left))/\Old N H H':=by
 intro n
 induction n with
 |zero=> intros;omega
 |succ n ih=>
  intro H q l c cs left hB hS hN h3 h4 h5 h6
  by_cases c0:left > 0
  . have hsz:1<=sz t1 t2 top l:=by unfold sz;repeat' split <;> omega
    have hm1:1<=imn (sz t1 t2 top l) left:=by unfold imn;split <;> omega
    have hm2:imn (sz t1 t2 top l) left<=left:=by unfold imn;split <;> omega
    obtain ⟨p,H1,e1,hp,g1,g2,g3⟩:=AQa H [.int .i64 (imn (sz t1 t2 top l) left)]
    subst hp
    have hB1:=hB.old g2 (Nat.le_refl _)
    obtain ⟨q2,H2,e2,g4,g5,g6⟩:=hB1.app (bytes:=8) (n:=1) (by omega) g1.sees.shows rfl (by omega) (by omega)
    have hS2:=(hS.old g2 (by omega)).old g5 hbN
    have hcell:∀(R:Type) (K:Bool->Option R),ldB H (some ⟨b,0,none⟩) K=K t1/\ldB H (some ⟨b,1,none⟩) K=K t2:=λ R K=> ⟨AQY (by simp [pcell,hS.cell]) K,AQY (by simp [pcell,hS.cell]) K⟩
    have g4':Bld N 1 H2 q2 (l+1) unk (ints (cs++ [imn (sz t1 t2 top l) left])):=by simpa [ints] using g4
    obtain ⟨q',l',c',H',i1,i2,i3⟩:=ih H2 q2 (l+1) unk (cs++ [imn (sz t1 t2 top l) left]) (left - imn (sz t1 t2 top l) left) g4' hS2 (by omega) (by omega) (by omega) (by omega) (by omega)
    refine ⟨q',l',c',H',λ R KE=> ?_, ?_,(g2.mono hN).trans (g5.trans i3)⟩
    . refine Eq.trans ?_ (i1 R KE)
      have ed:decide (left > 0)=true:=by simpa using c0
      show AEK _ _ _ _ _ _ _ _ _ _=_
      unfold AEK
      rw [ed,cond_true]
      have step:∀(KN:Oa->Oa->Nat->Nat->Int->Int->Option R),ACQ k (some ⟨b,0,none⟩) q l c left left H KN=KN (some ⟨b,0,none⟩) q l c left (imn (sz t1 t2 top l) left):=by
       intro KN
       unfold ACQ AJc ACo AJb
       simp only [hfad,Nat.zero_add,hcell]
       unfold sz
       cases t2
       . cases t1
         . simp [Abr (show left<=top from h5)]
         . by_cases hl:l=0
           . subst hl;simp [AR6]
           . have e3:(((l:Nat):Int)==0)=false:=by simp;omega
             simp only [cond_true,cond_false,e3,Bool.false_eq_true,if_false,if_true,hl]
             have e4:Int.tmod ((l:Nat):Int) 2=((l % 2:Nat):Int):=by rw [Int.tmod_eq_emod_of_nonneg (by omega)];omega
             rw [e4,w64 (by omega) (by omega),AR6]
             have e5:(1+((l % 2:Nat):Int))=if l % 2=1 then 2 else 1:=by split <;> omega
             rw [e5]
       . simp [Abq (show (1:Int)<=left by omega)]
      rw [step,e1,e2,w64 (n:=left - imn (sz t1 t2 top l) left) (by omega) (by omega)]
    . have:seg t1 t2 (n+1) (sz t1 t2 top l) left=imn (sz t1 t2 top l) left::seg t1 t2 n (sz t1 t2 top (l+1)) (left - imn (sz t1 t2 top l) left):=by
       show (if left > 0 then _ else _)=_
       rw [if_pos c0,Agd]
      rw [this];simpa using i2
  . refine ⟨q,l,c,H,λ R KE=> ?_, ?_, .refl _ _⟩
    . have ed:decide (left > 0)=false:=by simpa using c0
      show AEK _ _ _ _ _ _ _ _ _ _=_
      unfold AEK
      rw [ed,cond_false]
    . have:seg t1 t2 (n+1) (sz t1 t2 top l) left= []:=by
       show (if left > 0 then _ else _)=_
       rw [if_neg c0]
      rw [this];simpa using hB
def segs (t1 t2:Bool) (k:Nat) (n:Int):List Int:=if n < 1∨n > 178 then [] else seg t1 t2 k (sz t1 t2 n 0) n
theorem AZK {k:Nat} (hk:178 < k) (n:Int) (t1 t2 t3 t4 t5:Bool) (H:Heap):∃q l c H',(∀(R:Type) (K:Oa->Nat->Nat->Heap->Option R),AHR k n t1 t2 t3 t4 t5 H K=K q l c H')/\Bld H.length 1 H' q l c (ints (segs t1 t2 k n))/\Old H.length H H':=by
 obtain ⟨p,H1,e1,hp,g1,g2,g3⟩:=AQa H [.bool t1, .bool t2, .bool t3, .bool t4, .bool t5]
 subst hp
 by_cases c:n < 1∨n > 178
 . refine ⟨none,0,0,H1,λ R K=> ?_,by unfold segs;rw [if_pos c];exact .nil _ _ _,g2⟩
   unfold AHR AIy ABp AGq
   rw [e1]
   rcases c with c|c
   . simp [c]
   . have:¬ n < 1:=by omega
     simp [c,this]
 . have hcell:∀(R:Type) (K:Bool->Option R),ldB H1 (some ⟨H.length,0,none⟩) K=K t1/\ldB H1 (some ⟨H.length,1,none⟩) K=K t2:=λ R K=> ⟨AQY (by simp [pcell,g1.sees.cell]) K,AQY (by simp [pcell,g1.sees.cell]) K⟩
   have hsz:1<=sz t1 t2 n 0/\sz t1 t2 n 0<=178:=by unfold sz;cases t1 <;> cases t2 <;> simp <;> omega
   obtain ⟨q',l',c',H',i1,i2,i3⟩:=AT4 (t3:=t3) (t4:=t4) (t5:=t5) k (N:=H.length+1) (b:=H.length) (by omega) k H1 none 0 0 [] (sz t1 t2 n 0) n (.nil _ _ _) g1.sees (by omega) hsz.1 hsz.2 (by omega) (by omega) (by omega) (by omega)
   refine ⟨q',l',c',H',λ R K=> ?_, ?_,g2.trans (i3.mono (by omega))⟩
   . unfold AHR AIy ABp AGq ACB AIv ACA AIu
     rw [e1]
     have d1:decide (n < 1)=false:=by simp;omega
     have d2:decide (n > 178)=false:=by simp;omega
     simp only [d1,d2,cond_false,hfad,Nat.zero_add,hcell]
     rw [←i1 R K]
     unfold sz
     cases t1 <;> cases t2 <;> simp
   . unfold segs;rw [if_neg c]
     rcases i2 with h|⟨b,h1,h2,h3,h4⟩
     . exact .inl (by simpa using h)
     . exact .inr ⟨b,h1,h2,by omega,by simpa using h4⟩
theorem AVh {k:Nat} (hk:178 < k) (n:Int) (t1 t2 t3 t4 t5:Bool) (H:Heap):∃q l c H',(∀(R:Type) (K:Oa->Nat->Nat->Heap->Option R),AIb k n t1 t2 t3 t4 t5 H K=K q l c H')/\Bld H.length 1 H' q l c (ints (segs t1 t2 k n))/\Old H.length H H':=by
 obtain ⟨p,H1,e1,hp,g1,g2,g3⟩:=AQa H [.bool t1, .bool t2, .bool t3, .bool t4, .bool t5]
 subst hp
 by_cases c:n < 1∨n > 178
 . refine ⟨none,0,0,H1,λ R K=> ?_,by unfold segs;rw [if_pos c];exact .nil _ _ _,g2⟩
   unfold AIb AJs ACR AHb
   rw [e1]
   rcases c with c|c
   . simp [c]
   . have:¬ n < 1:=by omega
     simp [c,this]
 . obtain ⟨q',l',c',H',i1,i2,i3⟩:=ASg (t1:=t1) (t2:=t2) (t3:=t3) (t4:=t4) (t5:=t5) (top:=n) k (by omega) (N:=H.length+1) (b:=H.length) (by omega) k H1 none 0 0 [] n (.nil _ _ _) g1.sees (by omega) (by omega) (by omega) (by omega) (by omega)
   refine ⟨q',l',c',H',λ R K=> ?_, ?_,g2.trans (i3.mono (by omega))⟩
   . unfold AIb AJs ACR AHb
     rw [e1]
     have d1:decide (n < 1)=false:=by simp;omega
     have d2:decide (n > 178)=false:=by simp;omega
     simp only [d1,d2,cond_false]
     exact i1 R K
   . unfold segs;rw [if_neg c]
     rcases i2 with h|⟨b,h1,h2,h3,h4⟩
     . exact .inl (by simpa using h)
     . exact .inr ⟨b,h1,h2,by omega,by simpa using h4⟩
open Go.Proofs.Ytmanlfonppfhaaa.FW
def parts (b p:Int):Int->List Int->List Int
 |_, []=> []
 |a,n::l=> (if imx a b < imn (a+n) (b+p) then [imn (a+n) (b+p) - imx a b] else [])++parts b p (a+n) l
theorem Aar (t1 t2:Bool):∀(f:Nat) (s left:Int),1<=s->s<=178->0<=left->left<=178->(∀x∈seg t1 t2 f s left,1<=x/\x<=178)/\((seg t1 t2 f s left).length:Int)<=left:=by
 intro f
 induction f with
 |zero=> intro s left _ _ _ _;exact ⟨(λ x hx=> by simp [seg] at hx),by simp [seg];omega⟩
 |succ f ih=>
  intro s left h1 h2 h3 h4
  by_cases c:left > 0
  . have hm1:1<=imn s left:=by unfold imn;split <;> omega
    have hm2:imn s left<=left:=by unfold imn;split <;> omega
    have hnx:1<=nx t1 t2 s/\nx t1 t2 s<=178:=by unfold nx;cases t1 <;> cases t2 <;> simp <;> (try split) <;> omega
    have e:seg t1 t2 (f+1) s left=imn s left::seg t1 t2 f (nx t1 t2 s) (left - imn s left):=by
     show (if left > 0 then _ else _)=_
     rw [if_pos c]
    have r:=ih (nx t1 t2 s) (left - imn s left) hnx.1 hnx.2 (by omega) (by omega)
    rw [e]
    refine ⟨λ x hx=> ?_,by rw [List.length_cons];have:=r.2;omega⟩
    rcases List.mem_cons.1 hx with rfl|hx
    . exact ⟨hm1,by omega⟩
    . exact r.1 x hx
  . have e:seg t1 t2 (f+1) s left= []:=by
     show (if left > 0 then _ else _)=_
     rw [if_neg c]
    rw [e];exact ⟨(λ x hx=> by cases hx),by simp;omega⟩
theorem ARU (t1 t2:Bool) (k:Nat) (n:Int):(∀x∈segs t1 t2 k n,1<=x/\x<=178)/\(segs t1 t2 k n).length<=178:=by
 unfold segs
 by_cases c:n < 1∨n > 178
 . rw [if_pos c];exact ⟨(λ x hx=> by cases hx),by simp⟩
 . rw [if_neg c]
   have hsz:1<=sz t1 t2 n 0/\sz t1 t2 n 0<=178:=by unfold sz;cases t1 <;> cases t2 <;> simp <;> omega
   have:=Aar t1 t2 k (sz t1 t2 n 0) n hsz.1 hsz.2 (by omega) (by omega)
   exact ⟨this.1,by have:=this.2;omega⟩
theorem ATY {H:Heap} {q:Oa} {xs:List Int} (h:Shows H q (ints xs)) {i:Nat} {x:Int} (hi:xs[i]? =some x):
 ∃p,(∀(R:Type) (K:Oa->Option R),hidx q xs.length (i:Int) 1 K=K p)/\∀(R:Type) (K:Int->Option R),ldI .i64 H p K=K x:=by
 have hl:=(List.getElem?_eq_some_iff.1 hi).1
 obtain ⟨p,e,_,m⟩:=h.idx (l:=xs.length) (size:=1) (by simp [ints]) (i:=(i:Int)) (by omega) (by omega) (by omega)
 exact ⟨p,e,λ R K=> AR5 (m _ (by rw [Int.toNat_natCast,Nat.mul_one];simp [ints,hi])) rfl K⟩
theorem AQR {l:List Int} {i:Nat} {x:Int} (h:l[i]? =some x):l.drop i=x::l.drop (i+1):=by
 obtain ⟨h1,h2⟩:=List.getElem?_eq_some_iff.1 h
 rw [List.drop_eq_getElem_cons h1,h2]
theorem ATb (a b:Int):a<=imx a b/\b<=imx a b/\(imx a b=a∨imx a b=b):=by unfold imx;split <;> omega
theorem ATc (a b:Int):imn a b<=a/\imn a b<=b/\(imn a b=a∨imn a b=b):=by unfold imn;split <;> omega
theorem AYb (k:Nat) {b p:Int} (hb:0<=b) (hb2:b<=178) (hp:0<=p) (hp2:p<=178) (cs':Nat) {N:Nat} {qs:Oa} {sg:List Int} (hx:∀x∈sg,1<=x/\x<=178) (hsl:sg.length<=178) (hqb:ints sg= []∨Below N qs):∀(m n i:Nat),m < n->sg.length=i+m->∀(H:Heap) (q:Oa) (l c:Nat) (cs:List Int) (a:Int),Bld N 1 H q l c (ints cs)->Shows H qs (ints sg)->N<=H.length->0<=a->a<=i * 178->l<=i->
 ∃q' l' c' H',(∀(R:Type) (KE:Oa->Nat->Nat->Heap->Option R),ABR k KE n b p q l c a qs sg.length cs' ((sg.length:Nat):Int) (i:Int) H=KE q' l' c' H')/\Bld N 1 H' q' l' c' (ints (cs++parts b p a (sg.drop i)))/\Old N H H'/\l'<=sg.length:=by
 intro m
 induction m with
 |zero=>
  intro n i hn hi H q l c cs a hB hS hN ha ha2 hl
  obtain ⟨n,rfl⟩:∃n',n=n'+1:=⟨n - 1,by omega⟩
  have ed:decide ((i:Int) < ((sg.length:Nat):Int))=false:=decide_eq_false (by omega)
  refine ⟨q,l,c,H,λ R KE=> ?_,by rw [List.drop_of_length_le (by omega)];simpa [parts] using hB, .refl _ _,by omega⟩
  unfold ABR AEx
  exact go_f ed rfl
 |succ m ih=>
  intro n i hn hi H q l c cs a hB hS hN ha ha2 hl
  obtain ⟨n,rfl⟩:∃n',n=n'+1:=⟨n - 1,by omega⟩
  have ed:decide ((i:Int) < ((sg.length:Nat):Int))=true:=decide_eq_true (by omega)
  obtain ⟨x,hxi⟩:∃x,sg[i]? =some x:=⟨_,List.getElem?_eq_getElem (by omega)⟩
  have hx1:=hx x (List.mem_of_getElem? hxi)
  obtain ⟨pa,e0,e1⟩:=ATY hS hxi
  have i178:(i:Int) * 178<=178 * 178:=by omega
  have w0:IntKind.wrap .i64 (a+x)=a+x:=w64 (by omega) (by omega)
  have w1:IntKind.wrap .i64 (b+p)=b+p:=w64 (by omega) (by omega)
  have w2:IntKind.wrap .i64 ((i:Int)+1)=((i+1:Nat):Int):=by rw [w64 (by omega) (by omega)];omega
  have hmx:=ATb a b
  have hmn:=ATc (a+x) (b+p)
  have hpd:parts b p a (sg.drop i)=(if imx a b < imn (a+x) (b+p) then [imn (a+x) (b+p) - imx a b] else [])++parts b p (a+x) (sg.drop (i+1)):=by rw [AQR hxi];rfl
  by_cases hc:imx a b < imn (a+x) (b+p)
  . have d1:=decide_eq_true hc
    rw [if_pos hc] at hpd
    have w3:IntKind.wrap .i64 (imn (a+x) (b+p) - imx a b)=imn (a+x) (b+p) - imx a b:=w64 (by omega) (by omega)
    obtain ⟨pp,H1,f1,hpp,O1,o1,n1⟩:=AQa H [.int .i64 (imn (a+x) (b+p) - imx a b)]
    subst hpp
    have hB1:=hB.old o1 (Nat.le_refl _)
    obtain ⟨q2,H2,f2,B2,o2,n2⟩:=hB1.app (bytes:=8) (n:=1) (by omega) O1.sees.shows rfl (by omega) (by omega)
    have B2':Bld N 1 H2 q2 (l+1) unk (ints (cs++ [imn (a+x) (b+p) - imx a b])):=by simpa [ints] using B2
    have oo:Old N H H2:=(o1.mono hN).trans o2
    obtain ⟨q',l',c',H',e3,B3,o3,l3⟩:=ih n (i+1) (by omega) (by omega) H2 q2 (l+1) unk _ (a+x) B2' (hS.old oo hqb) (by have:=oo.1;omega) (by omega) (by omega) (by omega)
    refine ⟨q',l',c',H',λ R KE=> ?_,by rw [hpd,←List.append_assoc];exact B3,oo.trans o3,l3⟩
    unfold ABR AEx ACU AGj
    refine go_t ed ((e0 _ _).trans ((e1 _ _).trans ?_))
    try dsimp only
    rw [w0,w1]
    refine go_t d1 ?_
    rw [w3]
    refine (f1 _ _).trans ((f2 _ _).trans ?_)
    try dsimp only
    rw [w2]
    exact e3 _ _
  . have d1:=decide_eq_false hc
    rw [if_neg hc,List.nil_append] at hpd
    obtain ⟨q',l',c',H',e3,B3,o3,l3⟩:=ih n (i+1) (by omega) (by omega) H q l c cs (a+x) hB hS hN (by omega) (by omega) (by omega)
    refine ⟨q',l',c',H',λ R KE=> ?_,by rw [hpd];exact B3,o3,l3⟩
    unfold ABR AEx ACU AGj
    refine go_t ed ((e0 _ _).trans ((e1 _ _).trans ?_))
    try dsimp only
    rw [w0,w1]
    refine go_f d1 ?_
    try dsimp only
    rw [w2]
    exact e3 _ _
theorem AU5 (k:Nat) {b p:Int} (hb:0<=b) (hb2:b<=178) (hp:0<=p) (hp2:p<=178) (cs':Nat) {N:Nat} {qs:Oa} {sg:List Int} (hx:∀x∈sg,1<=x/\x<=178) (hsl:sg.length<=178) (hqb:ints sg= []∨Below N qs):∀(m n i:Nat),m < n->sg.length=i+m->∀(H:Heap) (q:Oa) (l c:Nat) (cs:List Int) (a:Int),Bld N 1 H q l c (ints cs)->Shows H qs (ints sg)->N<=H.length->0<=a->a<=i * 178->l<=i->
 ∃q' l' c' H',(∀(R:Type) (KE:Oa->Nat->Nat->Heap->Option R),ACw k KE n b p q l c a qs sg.length cs' (i:Int) H=KE q' l' c' H')/\Bld N 1 H' q' l' c' (ints (cs++parts b p a (sg.drop i)))/\Old N H H'/\l'<=sg.length:=by
 intro m
 induction m with
 |zero=>
  intro n i hn hi H q l c cs a hB hS hN ha ha2 hl
  obtain ⟨n,rfl⟩:∃n',n=n'+1:=⟨n - 1,by omega⟩
  have ed:decide ((i:Int) < ((sg.length:Nat):Int))=false:=decide_eq_false (by omega)
  refine ⟨q,l,c,H,λ R KE=> ?_,by rw [List.drop_of_length_le (by omega)];simpa [parts] using hB, .refl _ _,by omega⟩
  unfold ACw AH1
  exact go_f ed rfl
 |succ m ih=>
  intro n i hn hi H q l c cs a hB hS hN ha ha2 hl
  obtain ⟨n,rfl⟩:∃n',n=n'+1:=⟨n - 1,by omega⟩
  have ed:decide ((i:Int) < ((sg.length:Nat):Int))=true:=decide_eq_true (by omega)
  obtain ⟨x,hxi⟩:∃x,sg[i]? =some x:=⟨_,List.getElem?_eq_getElem (by omega)⟩
  have hx1:=hx x (List.mem_of_getElem? hxi)
  obtain ⟨pa,e0,e1⟩:=ATY hS hxi
  have i178:(i:Int) * 178<=178 * 178:=by omega
  have w0:IntKind.wrap .i64 (a+x)=a+x:=w64 (by omega) (by omega)
  have w1:IntKind.wrap .i64 (b+p)=b+p:=w64 (by omega) (by omega)
  have w2:IntKind.wrap .i64 ((i:Int)+1)=((i+1:Nat):Int):=by rw [w64 (by omega) (by omega)];omega
  have hmx:=ATb a b
  have hmn:=ATc (a+x) (b+p)
  have w3:IntKind.wrap .i64 (imn (a+x) (b+p) - imx a b)=imn (a+x) (b+p) - imx a b:=w64 (by omega) (by omega)
  have hpd:parts b p a (sg.drop i)=(if imx a b < imn (a+x) (b+p) then [imn (a+x) (b+p) - imx a b] else [])++parts b p (a+x) (sg.drop (i+1)):=by rw [AQR hxi];rfl
  by_cases hc:imx a b < imn (a+x) (b+p)
  . have d1:decide (imn (a+x) (b+p) - imx a b > 0)=true:=decide_eq_true (by omega)
    rw [if_pos hc] at hpd
    obtain ⟨pp,H1,f1,hpp,O1,o1,n1⟩:=AQa H [.int .i64 (imn (a+x) (b+p) - imx a b)]
    subst hpp
    have hB1:=hB.old o1 (Nat.le_refl _)
    obtain ⟨q2,H2,f2,B2,o2,n2⟩:=hB1.app (bytes:=8) (n:=1) (by omega) O1.sees.shows rfl (by omega) (by omega)
    have B2':Bld N 1 H2 q2 (l+1) unk (ints (cs++ [imn (a+x) (b+p) - imx a b])):=by simpa [ints] using B2
    have oo:Old N H H2:=(o1.mono hN).trans o2
    obtain ⟨q',l',c',H',e3,B3,o3,l3⟩:=ih n (i+1) (by omega) (by omega) H2 q2 (l+1) unk _ (a+x) B2' (hS.old oo hqb) (by have:=oo.1;omega) (by omega) (by omega) (by omega)
    refine ⟨q',l',c',H',λ R KE=> ?_,by rw [hpd,←List.append_assoc];exact B3,oo.trans o3,l3⟩
    unfold ACw AH1 AFI AJo
    refine go_t ed ((e0 _ _).trans ((e1 _ _).trans ?_))
    try dsimp only
    rw [w0,w1,w3]
    refine go_t d1 ?_
    refine (f1 _ _).trans ((f2 _ _).trans ?_)
    try dsimp only
    rw [w2]
    exact e3 _ _
  . have d1:decide (imn (a+x) (b+p) - imx a b > 0)=false:=decide_eq_false (by omega)
    rw [if_neg hc,List.nil_append] at hpd
    obtain ⟨q',l',c',H',e3,B3,o3,l3⟩:=ih n (i+1) (by omega) (by omega) H q l c cs (a+x) hB hS hN (by omega) (by omega) (by omega)
    refine ⟨q',l',c',H',λ R KE=> ?_,by rw [hpd];exact B3,o3,l3⟩
    unfold ACw AH1 AFI AJo
    refine go_t ed ((e0 _ _).trans ((e1 _ _).trans ?_))
    try dsimp only
    rw [w0,w1,w3]
    refine go_f d1 ?_
    try dsimp only
    rw [w2]
    exact e3 _ _
def pts (t1 t2:Bool) (k:Nat) (b p:Int):List Int:=if b < 0∨p < 1∨p > 178∨b > 178 - p then [] else parts b p 0 (segs t1 t2 k 178)
theorem AVi {k:Nat} (hk:200 < k) (b p:Int) (hpb: -9223372036854775808<=p/\p<=9223372036854775807) (t1 t2 t3 t4 t5:Bool) (H:Heap):∃q l c H',(∀(R:Type) (K:Oa->Nat->Nat->Heap->Option R),ADN k b p t1 t2 t3 t4 t5 H K=K q l c H')/\Bld H.length 1 H' q l c (ints (pts t1 t2 k b p))/\Old H.length H H'/\l<=178:=by
 obtain ⟨H1,hH1⟩:∃H1,H1=H++ [some (⟨[.bool t1, .bool t2, .bool t3, .bool t4, .bool t5],false,0⟩:Blk)]:=⟨_,rfl⟩
 have o1:Old H.length H H1:=hH1 ▸ Old.app _ _
 have O1:Owns H1 H.length [.bool t1, .bool t2, .bool t3, .bool t4, .bool t5] 0:=by rw [hH1];exact AAI H _
 have m:∀i,hcell H1 H.length i= [Value.bool t1, .bool t2, .bool t3, .bool t4, .bool t5][i]? :=λ i=> O1.sees.cell i
 by_cases c1:b < 0
 . have d1:=decide_eq_true c1
   refine ⟨none,0,0,H1,λ R K=> ?_,by unfold pts;rw [if_pos (.inl c1)];exact .nil _ _ _,o1,by omega⟩
   unfold ADN AEQ ABQ ACm
   exact AAD hH1 (go_t d1 rfl)
 have d1:=decide_eq_false c1
 by_cases c2:p < 1
 . have d2:=decide_eq_true c2
   refine ⟨none,0,0,H1,λ R K=> ?_,by unfold pts;rw [if_pos (.inr (.inl c2))];exact .nil _ _ _,o1,by omega⟩
   unfold ADN AEQ ABQ ACm
   exact AAD hH1 (go_f d1 (go_t d2 rfl))
 have d2:=decide_eq_false c2
 by_cases c3:p > 178
 . have d3:=decide_eq_true c3
   refine ⟨none,0,0,H1,λ R K=> ?_,by unfold pts;rw [if_pos (.inr (.inr (.inl c3)))];exact .nil _ _ _,o1,by omega⟩
   unfold ADN AEQ ABQ ACm
   exact AAD hH1 (go_f d1 (go_f d2 (go_t d3 rfl)))
 have d3:=decide_eq_false c3
 have w1:IntKind.wrap .i64 (178 - p)=178 - p:=w64 (by omega) (by omega)
 by_cases c4:b > 178 - p
 . have d4:decide (b > IntKind.wrap .i64 (178 - p))=true:=by rw [w1];exact decide_eq_true c4
   refine ⟨none,0,0,H1,λ R K=> ?_,by unfold pts;rw [if_pos (.inr (.inr (.inr c4)))];exact .nil _ _ _,o1,by omega⟩
   unfold ADN AEQ ABQ ACm
   exact AAD hH1 (go_f d1 (go_f d2 (go_f d3 (go_t d4 rfl))))
 have d4:decide (b > IntKind.wrap .i64 (178 - p))=false:=by rw [w1];exact decide_eq_false c4
 obtain ⟨qs,ls,cs,H2,e2,B2,o2⟩:=AZK (k:=k) (by omega) 178 t1 t2 t3 t4 t5 H1
 have hbd:=ARU t1 t2 k 178
 have hs2:=B2.shows
 have hll:ls=(segs t1 t2 k 178).length:=by have:=hs2.2;simpa [ints] using this
 subst hll
 obtain ⟨q',l',c',H3,e3,B3,o3,l3⟩:=AYb k (b:=b) (p:=p) (by omega) (by omega) (by omega) (by omega) cs (N:=H2.length) hbd.1 hbd.2 (.inr B2.below) (segs t1 t2 k 178).length k 0 (by omega) (by omega) H2 none 0 0 [] 0 (.nil _ _ _) hs2.1 (Nat.le_refl _) (by omega) (by omega) (by omega)
 simp only [Int.natCast_zero] at e3
 have n1:=o1.1
 have n2:=o2.1
 refine ⟨q',l',c',H3,λ R K=> ?_, ?_,o1.trans ((o2.mono n1).trans (o3.mono (by omega))),by omega⟩
 . unfold ADN AEQ ABQ ACm
   refine AAD hH1 (go_f d1 (go_f d2 (go_f d3 (go_f d4 ?_))))
   with_reducible repeat (first|refine (e2 _ _).trans ?_|((first|apply AAJ|apply AAH|apply AAY|apply AAw|apply go_i|apply go_b|apply go_l|apply go_p);with_unfolding_all first|exact (m _).trans rfl|rfl)|refine AAD rfl ?_|refine AAz ?_|refine AAx ?_|refine AAA ?_|refine AAC ?_|(refine go_t ?_ ?_;with_unfolding_all (show _=true;rfl))|(refine go_f ?_ ?_;with_unfolding_all (show _=false;rfl)))
   exact e3 _ _
 . have:pts t1 t2 k b p=parts b p 0 (segs t1 t2 k 178):=by unfold pts;rw [if_neg (by omega)]
   rw [this]
   rw [List.nil_append,List.drop_zero] at B3
   rcases B3 with h|⟨x,h1,h2,h3,h4⟩
   . exact .inl h
   . exact .inr ⟨x,h1,h2,by omega,h4⟩
theorem AT5 {k:Nat} (hk:200 < k) (b p:Int) (hbb: -9223372036854775808<=b/\b<=9223372036854775807) (t1 t2 t3 t4 t5:Bool) (H:Heap):∃q l c H',(∀(R:Type) (K:Oa->Nat->Nat->Heap->Option R),AHJ k b p t1 t2 t3 t4 t5 H K=K q l c H')/\Bld H.length 1 H' q l c (ints (pts t1 t2 k b p))/\Old H.length H H':=by
 obtain ⟨H1,hH1⟩:∃H1,H1=H++ [some (⟨[.bool t1, .bool t2, .bool t3, .bool t4, .bool t5],false,0⟩:Blk)]:=⟨_,rfl⟩
 have o1:Old H.length H H1:=hH1 ▸ Old.app _ _
 have O1:Owns H1 H.length [.bool t1, .bool t2, .bool t3, .bool t4, .bool t5] 0:=by rw [hH1];exact AAI H _
 have m:∀i,hcell H1 H.length i= [Value.bool t1, .bool t2, .bool t3, .bool t4, .bool t5][i]? :=λ i=> O1.sees.cell i
 by_cases c1:b < 0
 . have d1:=decide_eq_true c1
   refine ⟨none,0,0,H1,λ R K=> ?_,by unfold pts;rw [if_pos (.inl c1)];exact .nil _ _ _,o1⟩
   unfold AHJ AIR ACv AFZ
   exact AAD hH1 (go_t d1 rfl)
 have d1:=decide_eq_false c1
 by_cases c2:p < 1
 . have d2:=decide_eq_true c2
   refine ⟨none,0,0,H1,λ R K=> ?_,by unfold pts;rw [if_pos (.inr (.inl c2))];exact .nil _ _ _,o1⟩
   unfold AHJ AIR ACv AFZ
   exact AAD hH1 (go_f d1 (go_t d2 rfl))
 have d2:=decide_eq_false c2
 by_cases c3:b > 178
 . have d3:=decide_eq_true c3
   refine ⟨none,0,0,H1,λ R K=> ?_,by unfold pts;rw [if_pos (.inr (.inr (.inr (by omega))))];exact .nil _ _ _,o1⟩
   unfold AHJ AIR ACv AFZ
   exact AAD hH1 (go_f d1 (go_f d2 (go_t d3 rfl)))
 have d3:=decide_eq_false c3
 have w1:IntKind.wrap .i64 (178 - b)=178 - b:=w64 (by omega) (by omega)
 by_cases c4:p > 178 - b
 . have d4:decide (p > IntKind.wrap .i64 (178 - b))=true:=by rw [w1];exact decide_eq_true c4
   refine ⟨none,0,0,H1,λ R K=> ?_,by unfold pts;rw [if_pos (.inr (.inr (.inr (by omega))))];exact .nil _ _ _,o1⟩
   unfold AHJ AIR ACv AFZ
   exact AAD hH1 (go_f d1 (go_f d2 (go_f d3 (go_t d4 rfl))))
 have d4:decide (p > IntKind.wrap .i64 (178 - b))=false:=by rw [w1];exact decide_eq_false c4
 obtain ⟨qs,ls,cs,H2,e2,B2,o2⟩:=AVh (k:=k) (by omega) 178 t1 t2 t3 t4 t5 H1
 have hbd:=ARU t1 t2 k 178
 have hs2:=B2.shows
 have hll:ls=(segs t1 t2 k 178).length:=by have:=hs2.2;simpa [ints] using this
 subst hll
 obtain ⟨q',l',c',H3,e3,B3,o3,l3⟩:=AU5 k (b:=b) (p:=p) (by omega) (by omega) (by omega) (by omega) cs (N:=H2.length) hbd.1 hbd.2 (.inr B2.below) (segs t1 t2 k 178).length k 0 (by omega) (by omega) H2 none 0 0 [] 0 (.nil _ _ _) hs2.1 (Nat.le_refl _) (by omega) (by omega) (by omega)
 simp only [Int.natCast_zero] at e3
 have n1:=o1.1
 have n2:=o2.1
 refine ⟨q',l',c',H3,λ R K=> ?_, ?_,o1.trans ((o2.mono n1).trans (o3.mono (by omega)))⟩
 . unfold AHJ AIR ACv AFZ
   refine AAD hH1 (go_f d1 (go_f d2 (go_f d3 (go_f d4 ?_))))
   with_reducible repeat (first|refine (e2 _ _).trans ?_|((first|apply AAJ|apply AAH|apply AAY|apply AAw|apply go_i|apply go_b|apply go_l|apply go_p);with_unfolding_all first|exact (m _).trans rfl|rfl)|refine AAD rfl ?_|refine AAz ?_|refine AAx ?_|refine AAA ?_|refine AAC ?_|(refine go_t ?_ ?_;with_unfolding_all (show _=true;rfl))|(refine go_f ?_ ?_;with_unfolding_all (show _=false;rfl)))
   exact e3 _ _
 . have:pts t1 t2 k b p=parts b p 0 (segs t1 t2 k 178):=by unfold pts;rw [if_neg (by omega)]
   rw [this]
   rw [List.nil_append,List.drop_zero] at B3
   rcases B3 with h|⟨x,h1,h2,h3,h4⟩
   . exact .inl h
   . exact .inr ⟨x,h1,h2,by omega,h4⟩
open Go.Proofs.Ytmanlfonppfhaaa.FW
theorem ATQ (b p:Int):∀(sg:List Int) (a:Int),∀x∈parts b p a sg,1<=x:=by
 intro sg
 induction sg with
 |nil=> intro a x hx;cases hx
 |cons n sg ih=>
  intro a x hx
  rw [parts] at hx
  rcases List.mem_append.1 hx with h|h
  . split at h
    . rw [List.mem_singleton] at h;omega
    . cases h
  . exact ih _ x h
open Go.Proofs.Ytmanlfonppfhaaa.FW Go.IntWalk
theorem Ab5 (x:Int):bn x<=1:=AZG x
theorem ARy (bs:List Int):∀(m v i:Nat) (s:Nat×Nat),v < 2 ^ i->(rbits bs m v s).1.2=0->∃u:Nat,(rbits bs m v s).1.1=(u:Int)/\u < 2 ^ (i+m):=by
 intro m
 induction m with
 |zero=> intro v i s h _;exact ⟨v,rfl,h⟩
 |succ m ih=>
  intro v i s h he
  rw [rbits] at he ⊢
  split
  . rename_i hc;rw [if_pos hc] at he;exact (hc he).elim
  . rename_i hc
    rw [if_neg hc] at he
    have:=Ab5 (rget bs s).1.1
    obtain ⟨u,h1,h2⟩:=ih _ (i+1) _ (by rw [Nat.pow_succ];omega) he
    exact ⟨u,h1,by rw [show i+(m+1)=i+1+m from by omega];exact h2⟩
theorem AYV (bs:List Int) (x:Int):∀(m n:Nat) (s:Nat×Nat),(rcnt bs x m n s).1.2=0->∃u:Nat,(rcnt bs x m n s).1.1=(u:Int)/\u < n+m:=by
 intro m
 induction m with
 |zero=> intro n s h;rw [rcnt] at h;cases h
 |succ m ih=>
  intro n s h
  rw [rcnt] at h ⊢
  split
  . rename_i hc;rw [if_pos hc] at h;exact (hc h).elim
  . rename_i hc
    rw [if_neg hc] at h
    split
    . exact ⟨n,rfl,by omega⟩
    . rename_i hx
      rw [if_neg hx] at h
      split
      . rename_i hm;rw [if_pos hm] at h;cases h
      . rename_i hm
        rw [if_neg hm] at h
        obtain ⟨u,h1,h2⟩:=ih (n+1) _ h
        exact ⟨u,h1,by omega⟩
theorem ARi {s:Nat×Nat} {r:Rs} (h:(back s r).1.2=0):r.1.2=0/\back s r=r:=by
 unfold back at h ⊢
 split
 . rename_i hc;rw [if_pos hc] at h;exact (hc h).elim
 . rename_i hc;exact ⟨Classical.byContradiction λ hh=> hc hh,rfl⟩
theorem AYY {bs:List Int} {w:Nat} {s:Nat×Nat} (hw:w<=32) (h:(rB bs (w:Int) s).1.2=0):0<=(rB bs (w:Int) s).1.1/\(rB bs (w:Int) s).1.1 < ((2 ^ w:Nat):Int):=by
 unfold rB at h ⊢
 rw [if_pos ⟨by omega,by omega⟩,Int.toNat_natCast] at h ⊢
 obtain ⟨h1,h2⟩:=ARi h
 rw [h2]
 obtain ⟨u,e,hu⟩:=ARy bs w 0 0 s (by simp) h1
 rw [e,Nat.zero_add] at *
 omega
theorem AU7 {bs:List Int} {s:Nat×Nat} (h:(rU bs 65535 s).1.2=0):∃u:Nat,(rU bs 65535 s).1.1=(u:Int)/\u<=65535:=by
 unfold rU at h ⊢
 rw [if_pos ⟨by omega,by omega⟩] at h ⊢
 obtain ⟨h1,h2⟩:=ARi h
 rw [h2]
 obtain ⟨u,e,hu⟩:=AYV bs 1 _ 0 s h1
 exact ⟨u,e,by omega⟩
theorem AYX {bs:List Int} {s:Nat×Nat} (h:(rG bs s).1.2=0):1<=(rG bs s).1.1:=by
 unfold rG at h ⊢
 obtain ⟨h1,h2⟩:=ARi h
 rw [h2]
 unfold rG1 at h1 ⊢
 split
 . rename_i hc;rw [if_pos hc] at h1;exact (hc h1).elim
 . rename_i hc
   rw [if_neg hc] at h1
   split
   . rename_i hd;rw [if_pos hd] at h1;exact (hd h1).elim
   . rename_i hd
     obtain ⟨u,e,hu⟩:=ARy bs _ 0 0 _ (by simp) (Classical.byContradiction λ hh=> hd hh)
     rw [e]
     have:=Nat.two_pow_pos (rcnt bs 0 32 0 s).1.1.toNat
     simp only
     omega
theorem AVA (b p:Int):∀(sg:List Int) (a:Int),∀x∈parts b p a sg,x<=p:=by
 intro sg
 induction sg with
 |nil=> intro a x hx;cases hx
 |cons n sg ih=>
  intro a x hx
  rw [parts] at hx
  rcases List.mem_append.1 hx with h|h
  . split at h
    . rw [List.mem_singleton] at h
      have:=(ATc (a+n) (b+p)).2.1
      have:=(ATb a b).2.1
      omega
    . cases h
  . exact ih _ x h
theorem ATL (t1 t2:Bool) (k:Nat) (b p:Int):∀x∈pts t1 t2 k b p,1<=x/\x<=178:=by
 intro x hx
 unfold pts at hx
 split at hx
 . cases hx
 . exact ⟨ATQ _ _ _ _ x hx,by have:=AVA _ _ _ _ x hx;omega⟩
theorem ARW (t1 t2:Bool) (k:Nat) (b p:Int):(pts t1 t2 k b p).length<=178:=by
 unfold pts
 split
 . simp
 . have h1:=(ARU t1 t2 k 178).2
   have:∀(sg:List Int) (a:Int),(parts b p a sg).length<=sg.length:=by
    intro sg
    induction sg with
    |nil=> intro a;simp [parts]
    |cons n sg ih=>
     intro a
     rw [parts,List.length_append,List.length_cons]
     have:=ih (a+n)
     split
     . simp only [List.length_cons,List.length_nil];omega
     . simp only [List.length_nil];omega
   have:=this (segs t1 t2 k 178) 0
   omega
structure Bs where
 band:Nat
 x:Nat
 y:Nat
 inc:Bool
 planes:Int
 passes:Int
 len:Int
 bits:Nat
 layer:Int
 plan:Int
def bkp (v:Bs):List Value:= [.int .i64 (v.band:Int), .int .i64 (v.x:Int), .int .i64 (v.y:Int), .bool v.inc, .int .i64 v.planes, .int .i64 v.passes, .int .i64 v.len, .int .i64 (v.bits:Int), .int .i64 v.layer, .int .i64 v.plan]
def bkr (v:Bs):List Value:= [.int .i64 (v.band:Int), .int .i64 (v.x:Int), .int .i64 (v.y:Int), .bool v.inc, .int .i64 v.planes, .int .i64 v.passes, .int .i64 v.len, .int .i64 (v.bits:Int)]
abbrev Con:=Int×Int×List Int
abbrev Te:=Bool×Gn
abbrev Ps:=Nat×Nat
structure Sg where
 bs:List Int
 t:Md
 sz:Nat->Nat×Nat
 pl:Nat->Int
 kk:Nat
def rls (bs:List Int) (w:Nat):List Int->Ps->Int×List Int×Ps
 | [],s=> (0, [],s)
 |k::ps,s=> if (rB bs ((w+wid k:Nat):Int) s).1.2≠0 then ((rB bs ((w+wid k:Nat):Int) s).1.2, [],s) else
  ((rls bs w ps (rB bs ((w+wid k:Nat):Int) s).2).1,(rB bs ((w+wid k:Nat):Int) s).1.1::(rls bs w ps (rB bs ((w+wid k:Nat):Int) s).2).2.1,(rls bs w ps (rB bs ((w+wid k:Nat):Int) s).2).2.2)
def bad (v:Bs) (more:Nat) (ps vs:List Int):Bool:=(decide (more > 0) && suff (v.bits+more - 1) (ps.zip vs))||decide (v.len+vs.sum > 65535)
abbrev Ln:=Int×Int×List Int×Nat×Ps
def lB3 (v:Bs) (n:Int) (more:Nat) (ps:List Int) (r:Int×List Int×Ps):Ln:=if r.1≠0 then (r.1,0, [],0,r.2.2) else if bad v more ps r.2.1=true then (15,0, [],0,r.2.2) else (0,n,r.2.1,more,r.2.2)
def lB2 (g:Sg) (v:Bs) (n:Int) (r:Rs):Ln:=if r.1.2≠0 then (r.1.2,0, [],0,r.2) else if (v.bits:Int)+r.1.1 > 16 then (15,0, [],0,r.2) else
 lB3 v n r.1.1.toNat (pts g.t.1 g.t.2.1 g.kk v.passes n) (rls g.bs (v.bits+r.1.1.toNat) (pts g.t.1 g.t.2.1 g.kk v.passes n) r.2)
def lB1 (g:Sg) (planes:Int) (v:Bs) (r:Rs):Ln:=if r.1.2≠0 then (r.1.2,0, [],0,r.2) else if r.1.1 > 3 * planes - 2 - v.passes then (15,0, [],0,r.2) else lB2 g v r.1.1 (rU g.bs 65535 r.2)
def lB (g:Sg) (planes:Int) (v:Bs) (s:Ps):Ln:=lB1 g planes v (rG g.bs s)
theorem ATE (bs:List Int) (w:Nat) (hw:w<=20):∀(ps:List Int) (s:Ps),(∀x∈ps,1<=x/\x<=178)->(rls bs w ps s).1=0->(rls bs w ps s).2.1.length=ps.length/\(∀z∈ps.zip (rls bs w ps s).2.1,1<=z.1/\z.1<=255/\0<=z.2/\z.2 < ((2 ^ (w+wid z.1):Nat):Int))/\(∀x∈(rls bs w ps s).2.1,0<=x/\x < 134217728):=by
 intro ps
 induction ps with
 |nil=> intro s _ _;exact ⟨rfl,λ z hz=> (by cases hz),λ x hx=> (by cases hx)⟩
 |cons k ps ih=>
  intro s hp h
  rw [rls] at h ⊢
  split
  . rename_i hc;rw [if_pos hc] at h;exact (hc h).elim
  . rename_i hc
    rw [if_neg hc] at h
    obtain ⟨i1,i2,i3⟩:=ih _ (λ x hx=> hp x (List.mem_cons_of_mem _ hx)) h
    obtain ⟨k1,k2⟩:=hp k (by simp)
    have hwk:=AQ7 (k:=k) (by omega)
    obtain ⟨b1,b2⟩:=AYY (bs:=bs) (w:=w+wid k) (s:=s) (by omega) (Classical.byContradiction λ hh=> hc hh)
    have hpw:2 ^ (w+wid k)<=2 ^ 27:=Nat.pow_le_pow_right (by omega) (by omega)
    refine ⟨by simp only [List.length_cons];omega,λ z hz=> ?_,λ x hx=> ?_⟩
    . rw [List.zip_cons_cons,List.mem_cons] at hz
      rcases hz with rfl|hz
      . exact ⟨k1,by simp only;omega,b1,b2⟩
      . exact i2 z hz
    . rcases List.mem_cons.1 hx with rfl|hx
      . exact ⟨b1,by omega⟩
      . exact i3 x hx
theorem ARt:∀(vs:List Int),(∀x∈vs,0<=x/\x < 134217728)->0<=vs.sum/\vs.sum<=vs.length * 134217728:=by
 intro vs
 induction vs with
 |nil=> intro _;simp
 |cons v vs ih=>
  intro h
  have h1:=h v (by simp)
  have:=ih λ x hx=> h x (List.mem_cons_of_mem _ hx)
  rw [List.sum_cons,List.length_cons]
  push_cast
  omega
def tdec (bs:List Int) (ab:Nat×Nat) (T:Te) (x y:Nat) (t:Int) (s:Ps):(Bool×Int)×Bool×Gn×Ps:=decR bs ab.1 ab.2 (LL ab.1 ab.2) false T.1 T.2 (x:Int) (y:Int) t s
def tnx (r:(Bool×Int)×Bool×Gn×Ps):Te:=(r.2.1,r.2.2.1)
def leafL (T:Te) (ab:Nat×Nat) (x y:Nat):Int:=(T.2 0 (ix ab.1 x y 0)).2.1
def zl (bs:List Int) (ab:Nat×Nat) (P:Int) (x y:Nat):Nat->Int->Te->Ps->Int×Te×Int×Ps
 |0,t,T,s=> (15,T,0,s)
 |m+1,t,T,s=> if (tdec bs ab T x y t s).1.2≠0 then ((tdec bs ab T x y t s).1.2,T,0,s) else if (tdec bs ab T x y t s).1.1=true then (0,tnx (tdec bs ab T x y t s),P - (t - 1),(tdec bs ab T x y t s).2.2.2) else
  zl bs ab P x y m (t+1) (tnx (tdec bs ab T x y t s)) (tdec bs ab T x y t s).2.2.2
abbrev Trs:=Nat->Te
def upT (tr:Trs) (j:Nat) (T:Te):Trs:=λ i=> if i=j then T else tr i
theorem ANa (tr:Trs) (j:Nat) (T:Te):upT tr j T j=T:=if_pos rfl
theorem AQQ (tr:Trs) {i j:Nat} (T:Te) (h:i≠j):upT tr j T i=tr i:=if_neg h
abbrev Cb:=Int×Bool×Trs×Int×Ps
def cB3 (g:Sg) (v:Bs) (tr:Trs) (Z:Int×Te×Int×Ps):Cb:=if Z.1≠0 then (Z.1,false,tr,0,Z.2.2.2) else (0,true,upT tr (2 * v.band+1) Z.2.1,Z.2.2.1,Z.2.2.2)
def cB2 (g:Sg) (layer:Int) (v:Bs) (tr:Trs) (D:(Bool×Int)×Bool×Gn×Ps):Cb:=if D.1.2≠0 then (D.1.2,false,tr,0,D.2.2.2) else if D.1.1=false then (0,false,upT tr (2 * v.band) (tnx D),v.planes,D.2.2.2) else
 if leafL (tnx D) (g.sz v.band) v.x v.y < layer then (15,false,tr,0,D.2.2.2) else cB3 g v (upT tr (2 * v.band) (tnx D)) (zl g.bs (g.sz v.band) (g.pl v.band) v.x v.y (g.pl v.band).toNat 1 (tr (2 * v.band+1)) D.2.2.2)
def cB (g:Sg) (layer:Int) (tr:Trs) (v:Bs) (s:Ps):Cb:=if v.inc=true then ((rget g.bs s).1.2,(rget g.bs s).1.1==1,tr,v.planes,(rget g.bs s).2) else cB2 g layer v tr (tdec g.bs (g.sz v.band) (tr (2 * v.band)) v.x v.y (layer+1) s)
abbrev R1:=Int×Bs×Con×Trs×Ps
def r1L (g:Sg) (v:Bs) (planes:Int) (tr:Trs) (l:Ln):R1:=if l.1≠0 then (l.1,v,(0,0, []),tr,l.2.2.2.2) else
 (0, { v with inc:=true,planes:=planes,passes:=v.passes+l.2.1,len:=v.len+l.2.2.1.sum,bits:=v.bits+l.2.2.2.1 },(planes,l.2.1,l.2.2.1),tr,l.2.2.2.2)
def r1C (g:Sg) (v:Bs) (c:Cb):R1:=if c.1≠0 then (c.1,v,(0,0, []),c.2.2.1,c.2.2.2.2) else if c.2.1=false then (0,v,(v.planes,0, []),c.2.2.1,c.2.2.2.2) else r1L g v c.2.2.2.1 c.2.2.1 (lB g c.2.2.2.1 v c.2.2.2.2)
def rd1 (g:Sg) (layer:Int) (bit:Int) (tr:Trs) (v:Bs) (s:Ps):R1:=if bit=0 then (0,v,(v.planes,0, []),tr,s) else r1C g v (cB g layer tr v s)
def rdA (g:Sg) (layer bit:Int):Nat->Nat->List Bs->Trs->Ps->List Con->Int×List Bs×Trs×Ps×List Con
 |0,_,bl,tr,s,cs=> (0,bl,tr,s,cs)
 |m+1,i,bl,tr,s,cs=> match bl[i]? with
  |none=> (0,bl,tr,s,cs)
  |some v=> if (rd1 g layer bit tr v s).1≠0 then ((rd1 g layer bit tr v s).1,bl,tr,s,cs) else
   rdA g layer bit m (i+1) (bl.set i (rd1 g layer bit tr v s).2.1) (rd1 g layer bit tr v s).2.2.2.1 (rd1 g layer bit tr v s).2.2.2.2 (cs++ [(rd1 g layer bit tr v s).2.2.1])
structure GOk (g:Sg) (n:Nat):Prop where
 pl:∀i,i < n->0<=g.pl i/\g.pl i<=60
structure VOk (g:Sg) (n:Nat) (v:Bs):Prop where
 b:v.band < n
 x:v.x < (g.sz v.band).1
 y:v.y < (g.sz v.band).2
 p0:0<=v.planes
 p1:v.planes<=60
 q0:0<=v.passes
 q1:v.passes<=178
 l0:0<=v.len
 l1:v.len<=65535
 b0:3<=v.bits
 b1:v.bits<=16
theorem AZL (bs:List Int) (ab:Nat×Nat) (P:Int) (x y:Nat):∀(m:Nat) (t:Int) (T:Te) (s:Ps),1<=t->t - 1+m=P->(zl bs ab P x y m t T s).1=0->1<=(zl bs ab P x y m t T s).2.2.1/\(zl bs ab P x y m t T s).2.2.1<=P:=by
 intro m
 induction m with
 |zero=> intro t T s _ _ h;rw [zl] at h;cases h
 |succ m ih=>
  intro t T s h1 h2 h
  rw [zl] at h ⊢
  split
  . rename_i hc;rw [if_pos hc] at h;exact (hc h).elim
  . rename_i hc
    rw [if_neg hc] at h
    split
    . simp only;omega
    . rename_i hd
      rw [if_neg hd] at h
      exact ih (t+1) _ _ (by omega) (by omega) h
theorem AZF {g:Sg} {n:Nat} (G:GOk g n) {layer:Int} {tr:Trs} {v:Bs} {s:Ps} (V:VOk g n v) (h:(cB g layer tr v s).1=0):0<=(cB g layer tr v s).2.2.2.1/\(cB g layer tr v s).2.2.2.1<=60:=by
 have:=V.p0;have:=V.p1
 obtain ⟨g1,g2⟩:=G.pl v.band V.b
 unfold cB at h ⊢
 split
 . exact ⟨by assumption,by assumption⟩
 . rename_i hi
   rw [if_neg hi] at h
   unfold cB2 at h ⊢
   split
   . simp only;omega
   . rename_i h1
     rw [if_neg h1] at h
     split
     . exact ⟨by assumption,by assumption⟩
     . rename_i h2
       rw [if_neg h2] at h
       split
       . simp only;omega
       . rename_i h3
         rw [if_neg h3] at h
         unfold cB3 at h ⊢
         split
         . simp only;omega
         . rename_i h4
           have:=AZL g.bs (g.sz v.band) (g.pl v.band) v.x v.y _ 1 (tr (2 * v.band+1)) (tdec g.bs (g.sz v.band) (tr (2 * v.band)) v.x v.y (layer+1) s).2.2.2 (by omega) (by omega) (Classical.byContradiction λ hh=> h4 hh)
           simp only;omega
theorem Abo {g:Sg} {n:Nat} {planes:Int} {v:Bs} {s:Ps} (V:VOk g n v) (hp:0<=planes) (hp2:planes<=60) (h:(lB g planes v s).1=0):1<=(lB g planes v s).2.1/\v.passes+(lB g planes v s).2.1<=178/\v.bits+(lB g planes v s).2.2.2.1<=16/\(∀x∈(lB g planes v s).2.2.1,0<=x/\x < 134217728)/\(lB g planes v s).2.2.1.length<=178/\v.len+(lB g planes v s).2.2.1.sum<=65535:=by
 have:=V.q0;have:=V.b1
 unfold lB at h ⊢
 have hG:(rG g.bs s).1.2=0->1<=(rG g.bs s).1.1:=AYX
 generalize rG g.bs s=r at h hG ⊢
 unfold lB1 at h ⊢
 split
 . rename_i hc;rw [if_pos hc] at h;exact (hc h).elim
 . rename_i hc
   rw [if_neg hc] at h
   have hG:=hG (Classical.byContradiction λ hh=> hc hh)
   split
   . rename_i hd;rw [if_pos hd] at h;cases h
   . rename_i hd
     rw [if_neg hd] at h
     have hU:(rU g.bs 65535 r.2).1.2=0->∃u:Nat,(rU g.bs 65535 r.2).1.1=(u:Int)/\u<=65535:=AU7
     generalize rU g.bs 65535 r.2=r2 at h hU ⊢
     unfold lB2 at h ⊢
     split
     . rename_i he;rw [if_pos he] at h;exact (he h).elim
     . rename_i he
       rw [if_neg he] at h
       obtain ⟨u,hu,_⟩:=hU (Classical.byContradiction λ hh=> he hh)
       split
       . rename_i hf;rw [if_pos hf] at h;cases h
       . rename_i hf
         rw [if_neg hf] at h
         rw [hu] at hf
         rw [hu,Int.toNat_natCast] at h ⊢
         have hR:=ATE g.bs (v.bits+u) (by omega) (pts g.t.1 g.t.2.1 g.kk v.passes r.1.1) r2.2 (ATL _ _ _ _ _)
         have hL:=ARW g.t.1 g.t.2.1 g.kk v.passes r.1.1
         generalize rls g.bs (v.bits+u) (pts g.t.1 g.t.2.1 g.kk v.passes r.1.1) r2.2=r3 at h hR ⊢
         unfold lB3 at h ⊢
         split
         . rename_i hi;rw [if_pos hi] at h;exact (hi h).elim
         . rename_i hi
           rw [if_neg hi] at h
           obtain ⟨i1,i2,i3⟩:=hR (Classical.byContradiction λ hh=> hi hh)
           split
           . rename_i hj;rw [if_pos hj] at h;cases h
           . rename_i hj
             have hb:bad v u (pts g.t.1 g.t.2.1 g.kk v.passes r.1.1) r3.2.1=false:=by simpa using hj
             unfold bad at hb
             rw [Bool.or_eq_false_iff] at hb
             have:=of_decide_eq_false hb.2
             refine ⟨hG,by simp only;omega,by simp only;omega,i3,by simp only;omega,by simp only;omega⟩
theorem ATH {g:Sg} {n:Nat} (G:GOk g n) {layer bit:Int} {tr:Trs} {v:Bs} {s:Ps} (V:VOk g n v) (h:(rd1 g layer bit tr v s).1=0):VOk g n (rd1 g layer bit tr v s).2.1/\0<=(rd1 g layer bit tr v s).2.2.1.2.1/\(rd1 g layer bit tr v s).2.2.1.2.1<=178/\(rd1 g layer bit tr v s).2.2.1.2.2.length<=178:=by
 unfold rd1 at h ⊢
 split
 . exact ⟨V,by simp,by simp,by simp⟩
 . rename_i h0
   rw [if_neg h0] at h
   have hC:=AZF G (layer:=layer) (tr:=tr) (s:=s) V
   generalize cB g layer tr v s=c at h hC ⊢
   unfold r1C at h ⊢
   split
   . rename_i hc;rw [if_pos hc] at h;exact (hc h).elim
   . rename_i hc
     rw [if_neg hc] at h
     obtain ⟨c1,c2⟩:=hC (Classical.byContradiction λ hh=> hc hh)
     split
     . exact ⟨V,by simp,by simp,by simp⟩
     . rename_i hd
       rw [if_neg hd] at h
       have hL:=Abo (s:=c.2.2.2.2) V c1 c2
       generalize lB g c.2.2.2.1 v c.2.2.2.2=l at h hL ⊢
       unfold r1L at h ⊢
       split
       . rename_i he;rw [if_pos he] at h;exact (he h).elim
       . rename_i he
         obtain ⟨l1,l2,l3,l4,l5,l6⟩:=hL (Classical.byContradiction λ hh=> he hh)
         have:=ARt _ l4
         have:=V.q0;have:=V.l0;have:=V.b0
         exact ⟨⟨V.b,V.x,V.y,c1,c2,by simp only;omega,by simp only;omega,by simp only;omega,by simp only;omega,by simp only;omega,by simp only;omega⟩,by simp only;omega,by simp only;omega,l5⟩
open Go.Proofs.Ytmanlfonppfhaaa.FW Go.IntWalk
theorem AMj {α:Type} {f:α->List Value} {sz:Nat} (hf:∀a,(f a).length=sz) (l:List α):(l.flatMap f).length=l.length * sz:=by
 induction l with
 |nil=> simp
 |cons x l ih=> rw [List.flatMap_cons,List.length_append,ih,hf,List.length_cons,Nat.succ_mul];omega
theorem ATl {α:Type} {f:α->List Value} {sz:Nat} (hf:∀a,(f a).length=sz):∀(l:List α) (i:Nat) (x y:α),l[i]? =some x->∀(j:Nat) (v:Value),j < sz->(f x).set j v=f y->(l.flatMap f).set (i * sz+j) v=(l.set i y).flatMap f:=by
 intro l
 induction l with
 |nil=> intro i x y h;simp at h
 |cons a l ih=>
  intro i x y h j v hj hv
  cases i with
  |zero=>
   simp at h
   subst h
   rw [List.flatMap_cons,List.set_cons_zero,List.flatMap_cons,Nat.zero_mul,Nat.zero_add,List.set_append_left _ _ (by rw [hf];exact hj),hv]
  |succ i=>
   simp only [List.getElem?_cons_succ] at h
   rw [List.flatMap_cons,List.set_cons_succ,List.flatMap_cons,List.set_append_right _ _ (by rw [hf,Nat.succ_mul];omega),hf,show (i+1) * sz+j - sz=i * sz+j from by rw [Nat.succ_mul];omega,ih i x y h j v hj hv]
theorem AOY (v:Bs):(bkp v).length=10:=rfl
theorem AQz (v:Bs):(bkr v).length=8:=rfl
theorem AJl {α:Type} (l:List α) (i:Nat) (x y:α):(l.set i x).set i y=l.set i y:=List.set_set ..
theorem AL6 {α:Type} {l:List α} {i:Nat} {x y:α} (h:l[i]? =some x):(l.set i y)[i]? =some y:=by
 have:=(List.getElem?_eq_some_iff.1 h).1
 rw [List.getElem?_set_self this]
theorem AKj {α:Type} {l:List α} {i:Nat} {x:α} (h:l[i]? =some x):l.set i x=l:=by
 obtain ⟨h1,h2⟩:=List.getElem?_eq_some_iff.1 h
 rw [←h2];exact List.set_getElem_self h1
theorem ASI {H:Heap} {kb z:Nat} {bl:List Bs} {i:Nat} {v0 v v':Bs} (h0:bl[i]? =some v0) (O:Owns H kb ((bl.set i v).flatMap bkp) z) {j:Nat} (hj:j < 10) {x:Value} (hx:(bkp v).set j x=bkp v'):
 ∃H',(∀(R:Type) (K:Heap->Option R),hst1 H (some ⟨kb,i * 10+j,none⟩) x K=K H')/\Owns H' kb ((bl.set i v').flatMap bkp) z/\But kb H H'/\H'.length=H.length:=by
 have hlt:=(List.getElem?_eq_some_iff.1 h0).1
 obtain ⟨H',e,O',B,n⟩:=O.st1 (o:=i * 10+j) (by rw [AMj AOY,List.length_set];have:=Nat.mul_le_mul_right 10 (show i+1<=bl.length from hlt);omega) x
 rw [ATl AOY _ i v v' (AL6 h0) j x hj hx,AJl] at O'
 exact ⟨H',e,O',B,n⟩
theorem AKy {H:Heap} {kb z:Nat} {bl:List Bs} {i:Nat} {v0 v:Bs} (h0:bl[i]? =some v0) (O:Owns H kb ((bl.set i v).flatMap bkp) z) {j:Nat} (hj:j < 10):hcell H kb (i * 10+j)=(bkp v)[j]? :=by
 rw [O.sees.cell];exact ASC bkp 10 AOY _ i v (AL6 h0) j hj
theorem ARs (l:List Int) (x:Int):(l++ [x]).sum=l.sum+x:=by simp
def vlen (v:Bs) (vs:List Int):Bs:= { v with len:=v.len+vs.sum }
structure LI (g:Sg) (Hs:Heap) (pw:Nat) (qw:Oa) (kb z P:Nat) (bl:List Bs) (i:Nat) (v:Bs) (pl n:Int) (H:Heap) (vs:List Int) (s:Ps) (qv:Oa) (cv:Nat):Prop where
 rd:Rd H pw qw g.bs s
 row:Owns H kb ((bl.set i (vlen v vs)).flatMap bkp) z
 c:Gw Hs.length P H [.int .i64 pl, .int .i64 n, .slice qv vs.length cv] [⟨2,1,qv,vs.length,cv,ints vs⟩]
 len:Hs.length<=H.length
 fr:∀j,j < Hs.length->j≠pw->j≠kb->j≠P->hblk H j=hblk Hs j
theorem LI.st {g:Sg} {Hs:Heap} {pw:Nat} {qw:Oa} {kb z P:Nat} {bl:List Bs} {i:Nat} {v:Bs} {pl n:Int} {H:Heap} {vs:List Int} {s:Ps} {qv:Oa} {cv:Nat} (L:LI g Hs pw qw kb z P bl i v pl n H vs s qv cv) {b sz:Nat} {cs:List Value} (h:Owns Hs b cs sz) (h1:b≠pw) (h2:b≠kb) (h3:b≠P):Owns H b cs sz:=h.same (L.fr b h.lt h1 h2 h3)
theorem Abk (k:Nat) (hk:100000 < k) {g:Sg} {nb:Nat} {Hs:Heap} {pw:Nat} {qw:Oa} {kb z M:Nat} {bl:List Bs} {i:Nat} {v0 v:Bs} (h0:bl[i]? =some v0) (V:VOk g nb v) {pl n:Int} {ps:List Int} (hp:∀x∈ps,1<=x/\x<=178) (hpl:ps.length<=178) {more:Nat} (hm:v.bits+more<=16) {qp:Oa} {cp:Nat} (hqp:ShB Hs.length Hs qp (ints ps)) (hqn:∀a,qp=some a->a.block≠pw/\a.block≠kb/\a.block≠M+2)
 (c4:Owns Hs M [.pointer (some ⟨kb,i * 10,none⟩)] 0) (c6:Owns Hs (M+1) [.int .i64 0, .int .i64 0, .slice none 0 0] 0) (hkM:kb < M) (hpM:pw < M) (hkp:kb≠pw) (hqw:∀a,qw=some a->a.block < M/\a.block≠pw/\a.block≠kb) (hMs:M+2 < Hs.length):
 ∀(m f j:Nat),m < f->ps.length=j+m->∀(H:Heap) (vs:List Int) (s:Ps) (qv:Oa) (cv:Nat),vs.length=j->(∀x∈vs,0<=x/\x < 134217728)->LI g Hs pw qw kb z (M+2) bl i v pl n H vs s qv cv->
 ∃H',(∀(R:Type) (KE:Oa->Oa->Oa->Int->Int->Oa->Nat->Nat->Heap->Option R) (KR:Oa->Int->Heap->Option R),AAO k KE KR f (some ⟨pw,0,none⟩) (some ⟨M,0,none⟩) (some ⟨M+1,0,none⟩) (some ⟨M+2,0,none⟩) n (more:Int) qp ps.length cp (some ⟨M+2,0,none⟩) (some ⟨M,0,none⟩) qp ps.length cp ((ps.length:Nat):Int) (j:Int) H=if (rls g.bs (v.bits+more) (ps.drop j) s).1≠0 then KR (some ⟨M+1,0,none⟩) (rls g.bs (v.bits+more) (ps.drop j) s).1 H' else KE (some ⟨M,0,none⟩) (some ⟨M+1,0,none⟩) (some ⟨M+2,0,none⟩) n (more:Int) qp ps.length cp H')/\
  ((rls g.bs (v.bits+more) (ps.drop j) s).1≠0->Hs.length<=H'.length/\(∀j,j < Hs.length->j≠pw->j≠kb->j≠M+2->j≠M+1->hblk H' j=hblk Hs j)/\∃a b q l c,Owns H' (M+1) [.int .i64 a, .int .i64 b, .slice q l c] 0)/\
  ((rls g.bs (v.bits+more) (ps.drop j) s).1=0->∃qv' cv',LI g Hs pw qw kb z (M+2) bl i v pl n H' (vs++(rls g.bs (v.bits+more) (ps.drop j) s).2.1) (rls g.bs (v.bits+more) (ps.drop j) s).2.2 qv' cv'):=by
 intro m
 have hb0:=V.b0
 have hl0:=V.l0
 have hl1:=V.l1
 induction m with
 |zero=>
  intro f j hf hj H vs s qv cv hv hvb L
  obtain ⟨f,rfl⟩:∃n',f=n'+1:=⟨f - 1,by omega⟩
  rw [List.drop_eq_nil_of_le (by omega)]
  refine ⟨H,λ R KE KR=> ?_,λ h=> (h rfl).elim,λ _=> ⟨qv,cv,by rw [rls,List.append_nil];exact L⟩⟩
  rw [if_neg (λ h=> h rfl)]
  unfold AAO AC5
  exact go_f (decide_eq_false (by omega)) rfl
 |succ m ih=>
  intro f j hf hj H vs s qv cv hv hvb L
  obtain ⟨f,rfl⟩:∃n',f=n'+1:=⟨f - 1,by omega⟩
  obtain ⟨kq,hkq⟩:=AKx (l:=ps) (i:=j) (by omega)
  obtain ⟨k1,k2⟩:=hp kq (List.mem_of_getElem? hkq)
  have hwk:=AQ7 (k:=kq) (by omega)
  have hsame:Shows H qp (ints ps):=by
   rcases hqp.b with h|h
   . exact .inl h
   . exact hqp.s.same λ a ha=> by
      obtain ⟨a1,a2,a3⟩:=hqn a ha
      exact L.fr _ (h a ha) a1 a2 a3
  obtain ⟨p1,e1,w1⟩:=AL8 hsame hkq
  have m4:hcell H M 0=some (.pointer (some ⟨kb,i * 10,none⟩)):=(L.st c4 (by omega) (by omega) (by omega)).sees.cell 0
  have m7:hcell H kb (i * 10+7)=some (.int .i64 (v.bits:Int)):=AKy h0 L.row (j:=7) (by omega)
  have e2:=ARp (k:=k) (v:=kq) k1 (by omega)
  have wn:IntKind.wrap .i64 (IntKind.wrap .i64 ((v.bits:Int)+(more:Int))+((wid kq:Nat):Int))=((v.bits+more+wid kq:Nat):Int):=by
   rw [w64 (n:=(v.bits:Int)+(more:Int)) (by omega) (by omega),w64 (by omega) (by omega)];omega
  obtain ⟨H1,e3,R1,B1⟩:=ARD (k:=k) (by omega) L.rd ((v.bits+more+wid kq:Nat):Int)
  have hpl':=L.rd.lt
  have hkl:=L.row.lt
  have hcl:=L.c.o.lt
  have hLl:=L.len
  have row1:=L.row.but B1 hkp
  have hqvb:∀a,qv=some a->Hs.length<=a.block/\a.block < H.length:=λ a ha=> by
   have hf:=L.c.f _ (List.mem_singleton.2 rfl)
   refine ⟨?_,hf.below a ha⟩
   rcases hf with ⟨h,_⟩|⟨b',h,_,h3,_⟩
   . simp only at h;rw [h] at ha;cases ha
   . simp only at h;rw [h] at ha;cases ha;exact h3
  have G1:Gw Hs.length (M+2) H1 [.int .i64 pl, .int .i64 n, .slice qv vs.length cv] [⟨2,1,qv,vs.length,cv,ints vs⟩]:=by
   refine ⟨L.c.o.but B1 (by omega),L.c.m,λ t ht=> ?_,L.c.a,L.c.d⟩
   have ht':=List.mem_singleton.1 ht
   subst ht'
   exact Bld.but2 (L.c.f _ ht) B1 λ a ha=> by have:=hqvb a ha;omega
  have fr1:∀j,j < Hs.length->j≠pw->j≠kb->j≠M+2->hblk H1 j=hblk Hs j:=λ j hj h1 h2 h3=> by rw [B1.2 j (by omega) h1,L.fr j hj h1 h2 h3]
  have hd:ps.drop j=kq::ps.drop (j+1):=AIr hkq
  rw [hd,rls]
  have hB0:(rB g.bs ((v.bits+more+wid kq:Nat):Int) s).1.2=0->0<=(rB g.bs ((v.bits+more+wid kq:Nat):Int) s).1.1/\(rB g.bs ((v.bits+more+wid kq:Nat):Int) s).1.1 < ((2 ^ (v.bits+more+wid kq):Nat):Int):=λ h=> AYY (by omega) h
  generalize rB g.bs ((v.bits+more+wid kq:Nat):Int) s=r at e3 R1 hB0 ⊢
  have start:∀(R:Type) (KE:Oa->Oa->Oa->Int->Int->Oa->Nat->Nat->Heap->Option R) (KR:Oa->Int->Heap->Option R) (rr:Option R),(bif (r.1.2 !=0) then (ldI .i64 H1 (pad (some ⟨M+2,0,none⟩) 0) λ n27=> ldI .i64 H1 (pad (some ⟨M+2,0,none⟩) 1) λ n28=> ldL H1 (pad (some ⟨M+2,0,none⟩) 2) λ q29 l30 c31=> hst H1 (some ⟨M+1,0,none⟩) [.int .i64 n27, .int .i64 n28, .slice q29 l30 c31] λ H32=> KR (some ⟨M+1,0,none⟩) r.1.2 H32) else (ACj r.1.1 (some ⟨M+2,0,none⟩) (some ⟨M,0,none⟩) H1 λ H33=> AAO k KE KR f (some ⟨pw,0,none⟩) (some ⟨M,0,none⟩) (some ⟨M+1,0,none⟩) (some ⟨M+2,0,none⟩) n (more:Int) qp ps.length cp (some ⟨M+2,0,none⟩) (some ⟨M,0,none⟩) qp ps.length cp ((ps.length:Nat):Int) (IntKind.wrap .i64 ((j:Int)+1)) H33))=rr->AAO k KE KR (f+1) (some ⟨pw,0,none⟩) (some ⟨M,0,none⟩) (some ⟨M+1,0,none⟩) (some ⟨M+2,0,none⟩) n (more:Int) qp ps.length cp (some ⟨M+2,0,none⟩) (some ⟨M,0,none⟩) qp ps.length cp ((ps.length:Nat):Int) (j:Int) H=rr:=by
   intro R KE KR rr h
   rw [AAO]
   unfold AC5
   refine go_t (decide_eq_true (by omega)) ((e1 _ _).trans ((w1 _ _).trans (go_p m4 (AAC (AAA (go_i m7 ((e2 _ _).trans ?_)))))))
   rw [wn]
   exact (e3 _ _).trans h
  by_cases he:r.1.2≠0
  . rw [if_pos he]
    have c60:=c6.same (fr1 (M+1) (by omega) (by omega) (by omega) (by omega))
    obtain ⟨H2,e4,O4,n4,s4⟩:=AKR (o:=0) (vs:= [.int .i64 pl, .int .i64 n, .slice qv vs.length cv]) c60 (by simp) rfl
    refine ⟨H2,λ R KE KR=> start R KE KR _ ?_,λ _=> ⟨by have:=B1.1;omega,λ j hj h1 h2 h3 h4=> by rw [s4 j h4,fr1 j hj h1 h2 h3],pl,n,qv,vs.length,cv,O4⟩,λ h=> (he h).elim⟩
    rw [if_pos he]
    exact go_t (bne_iff_ne.2 he) (AAJ (G1.o.sees.cell 0) (AAJ (G1.o.sees.cell 1) (AAY (G1.o.sees.cell 2) (e4 _ _))))
  . rw [if_neg he]
    have he0:r.1.2=0:=Classical.byContradiction he
    obtain ⟨x0,x1⟩:=hB0 he0
    have hpw:2 ^ (v.bits+more+wid kq)<=2 ^ 26:=Nat.pow_le_pow_right (by omega) (by omega)
    have mc:hcell H1 (M+2) 2=some (.slice qv vs.length cv):=G1.o.sees.cell 2
    obtain ⟨H2,H3,H4,hH2,e5,e6,G4,k4,o4,n4⟩:=Gw.grow (A:= []) (B:= []) (s:=⟨2,1,qv,vs.length,cv,ints vs⟩) (bytes:=8) (ec:= [.int .i64 r.1.1]) G1 (by simp) (by simp) rfl (by simp only;omega) (by have:=B1.1;omega)
    have ot:∀j,j≠M+2->(∀a,qv=some a->a.block≠j)->Ot (M+2) ([]++⟨2,1,qv,vs.length,cv,ints vs⟩:: []) j:=λ j h1 h2=> ⟨h1,λ t ht a ha=> by
     have ht':=List.mem_singleton.1 ht
     subst ht'
     exact h2 a ha⟩
    have hB1:=B1.1
    have keep4:∀j,j < Hs.length->j≠M+2->hblk H4 j=hblk H1 j:=λ j hj h1=> k4 j (by omega) (ot j h1 λ a ha=> by have:=(hqvb a ha).1;omega)
    have row4:Owns H4 kb ((bl.set i (vlen v vs)).flatMap bkp) z:=row1.same (keep4 kb (by omega) (by omega))
    have c44:Owns H4 M [.pointer (some ⟨kb,i * 10,none⟩)] 0:=c4.same ((keep4 M (by omega) (by omega)).trans (fr1 M (by omega) (by omega) (by omega) (by omega)))
    have m6:hcell H4 kb (i * 10+6)=some (.int .i64 (v.len+vs.sum)):=AKy h0 row4 (j:=6) (by omega)
    have hsb:=ARt vs hvb
    have wl:IntKind.wrap .i64 ((v.len+vs.sum)+r.1.1)=(vlen v (vs++ [r.1.1])).len:=by
     unfold vlen
     rw [ARs,w64 (by omega) (by omega)];simp only;omega
    obtain ⟨H5,e7,row5,B5,n5⟩:=ASI h0 row4 (j:=6) (by omega) (x:= .int .i64 (vlen v (vs++ [r.1.1])).len) (v':=vlen v (vs++ [r.1.1])) rfl
    have hvl:(vs++ [r.1.1]).length=vs.length+1:=by simp
    have hiv:ints (vs++ [r.1.1])=ints vs++ [.int .i64 r.1.1]:=by simp [ints]
    have L5:LI g Hs pw qw kb z (M+2) bl i v pl n H5 (vs++ [r.1.1]) r.2 (some ⟨H1.length+1,0,none⟩) unk:=by
     refine ⟨?_,row5, ?_,by omega,λ j hj h1 h2 h3=> ?_⟩
     . have R4:Rd H4 pw qw g.bs r.2:=R1.same (keep4 pw (by omega) (by omega)) λ a ha=> keep4 a.block (by have:=(hqw a ha).1;omega) (by have:=(hqw a ha).1;omega)
       exact R4.but B5 hkp.symm λ a ha=> (hqw a ha).2.2
     . rw [hvl,hiv]
       refine ⟨G4.o.but B5 (by omega),G4.m,λ t ht=> ?_,G4.a,G4.d⟩
       have ht':=List.mem_singleton.1 ht
       subst ht'
       exact Bld.but2 (G4.f _ ht) B5 λ a ha=> by cases ha;simp only;omega
     . rw [B5.2 j (by omega) h2,keep4 j hj h3,fr1 j hj h1 h2 h3]
    obtain ⟨H6,e8,x8,y8⟩:=ih f (j+1) (by omega) (by omega) H5 (vs++ [r.1.1]) r.2 _ _ (by rw [hvl,hv]) (λ x hx=> by
     rcases List.mem_append.1 hx with h|h
     . exact hvb x h
     . rw [List.mem_singleton.1 h];omega) L5
    refine ⟨H6,λ R KE KR=> start R KE KR _ ?_,x8,λ h=> by
     obtain ⟨qv',cv',L6⟩:=y8 h
     refine ⟨qv',cv', ?_⟩
     rw [List.append_assoc] at L6
     exact L6⟩
    refine go_f (bne_eq_false_iff_eq.2 he0) ?_
    unfold ACj AFX
    refine AAA (go_l mc (AAD hH2 ((e5 _ _).trans (AAA ((e6 _ _).trans (go_p (c44.sees.cell 0) (AAC (AAA (go_i m6 (AAC (AAA ?_)))))))))))
    rw [wl]
    refine (e7 _ _).trans ?_
    rw [w64 (n:=(j:Int)+1) (by omega) (by omega)]
    exact e8 R KE KR
open Go.Proofs.Ytmanlfonppfhaaa.FW Go.IntWalk
theorem ASi {ps vs:List Int} (h:vs.length=ps.length):(ps.zip vs).map Prod.fst=ps:=List.map_fst_zip (by omega)
theorem ASh {ps vs:List Int} (h:vs.length=ps.length):(ps.zip vs).map Prod.snd=vs:=List.map_snd_zip (by omega)
theorem AQi {ps vs:List Int} (h:vs.length=ps.length):(ps.zip vs).length=ps.length:=by rw [List.length_zip,h,Nat.min_self]
theorem LI.shows {g:Sg} {Hs:Heap} {pw:Nat} {qw:Oa} {kb z P:Nat} {bl:List Bs} {i:Nat} {v:Bs} {pl n:Int} {H:Heap} {vs:List Int} {s:Ps} {qv:Oa} {cv:Nat} (L:LI g Hs pw qw kb z P bl i v pl n H vs s qv cv):Shows H qv (ints vs)/\∀a,qv=some a->Hs.length<=a.block:=by
 have hf:=L.c.f _ (List.mem_singleton.2 rfl)
 refine ⟨hf.shows.1,λ a ha=> ?_⟩
 rcases hf with ⟨h,_⟩|⟨b',h,_,h3,_⟩
 . simp only at h;rw [h] at ha;cases ha
 . simp only at h;rw [h] at ha;cases ha;exact h3
theorem AYu {k:Nat} (hk:1000 < k) {g:Sg} {nb:Nat} {Hs:Heap} {pw:Nat} {qw:Oa} {kb z M:Nat} {bl:List Bs} {i:Nat} {v0 v:Bs} (h0:bl[i]? =some v0) (V:VOk g nb v) {pl n:Int} {ps:List Int} (hp:∀x∈ps,1<=x/\x<=178) (hpl:ps.length<=178) {more:Nat} (hm:v.bits+more<=16) {qp:Oa} (cp:Nat) (hqp:ShB Hs.length Hs qp (ints ps)) (hqn:∀a,qp=some a->a.block≠pw/\a.block≠kb/\a.block≠M+2)
 (c4:Owns Hs M [.pointer (some ⟨kb,i * 10,none⟩)] 0) (hkM:kb < M) (hpM:pw < M) {H:Heap} {vs:List Int} {s:Ps} {qv:Oa} {cv:Nat} (hvl:vs.length=ps.length) (L:LI g Hs pw qw kb z (M+2) bl i v pl n H vs s qv cv)
 (R:Type) (KN:Oa->Oa->Oa->Int->Int->Bool->Option R):AAe k (some ⟨M,0,none⟩) (some ⟨M+1,0,none⟩) (some ⟨M+2,0,none⟩) n (more:Int) qp ps.length cp H KN=KN (some ⟨M,0,none⟩) (some ⟨M+1,0,none⟩) (some ⟨M+2,0,none⟩) n (more:Int) (bad v more ps vs):=by
 have hb0:=V.b0
 have hsame:Shows H qp (ints ps):=by
  rcases hqp.b with h|h
  . exact .inl h
  . exact hqp.s.same λ a ha=> by
     obtain ⟨a1,a2,a3⟩:=hqn a ha
     exact L.fr _ (h a ha) a1 a2 a3
 have m4:hcell H M 0=some (.pointer (some ⟨kb,i * 10,none⟩)):=(L.st c4 (by omega) (by omega) (by omega)).sees.cell 0
 have m7:hcell H kb (i * 10+7)=some (.int .i64 (v.bits:Int)):=AKy h0 L.row (j:=7) (by omega)
 have m6:hcell H kb (i * 10+6)=some (.int .i64 (v.len+vs.sum)):=AKy h0 L.row (j:=6) (by omega)
 have mc:hcell H (M+2) 2=some (.slice qv vs.length cv):=L.c.o.sees.cell 2
 unfold AAe AEj bad
 by_cases hmo:more > 0
 . have wn:IntKind.wrap .i64 (IntKind.wrap .i64 ((v.bits:Int)+(more:Int)) - 1)=((v.bits+more - 1:Nat):Int):=by
    rw [w64 (n:=(v.bits:Int)+(more:Int)) (by omega) (by omega),w64 (by omega) (by omega)];omega
   have e:=AYJ (k:=k) hk (H:=H) (q2:=qp) (q5:=qv) (zs:=ps.zip vs) (λ z hz=> by
    have:=hp z.1 (List.of_mem_zip hz).1
    omega) (by rw [AQi hvl];omega) (n:=v.bits+more - 1) (by omega) cp cv (by rw [ASi hvl];exact hsame) (by rw [ASh hvl];exact L.shows.1)
   rw [AQi hvl] at e
   refine go_t (decide_eq_true (by omega)) (go_p m4 (AAC (AAA (go_i m7 (AAA (go_l mc ?_))))))
   rw [wn,hvl,decide_eq_true hmo,Bool.true_and]
   refine (e _ _).trans ?_
   cases suff (v.bits+more - 1) (ps.zip vs) with
   |true=> rfl
   |false=> exact go_f rfl (go_p m4 (AAC (AAA (go_i m6 rfl))))
 . rw [decide_eq_false hmo,Bool.false_and,Bool.false_or]
   exact go_f (decide_eq_false (by omega)) (go_p m4 (AAC (AAA (go_i m6 rfl))))
theorem ret6 {H:Heap} {P Q:Nat} {a b:Int} {q:Oa} {l c:Nat} {x y w:Value} (o12:Owns H Q [.int .i64 a, .int .i64 b, .slice q l c] 0) (o6:Owns H P [x,y,w] 0):
 ∃H',(∀(R:Type) (K:Int->Int->Oa->Nat->Nat->Heap->Option R),(ldI .i64 H (pad (some ⟨Q,0,none⟩) 0) λ n18=> ldI .i64 H (pad (some ⟨Q,0,none⟩) 1) λ n19=> ldL H (pad (some ⟨Q,0,none⟩) 2) λ q20 l21 c22=> hst H (some ⟨P,0,none⟩) [.int .i64 n18, .int .i64 n19, .slice q20 l21 c22] λ H23=> ldI .i64 H23 (pad (some ⟨P,0,none⟩) 0) λ n24=> ldI .i64 H23 (pad (some ⟨P,0,none⟩) 1) λ n25=> ldL H23 (pad (some ⟨P,0,none⟩) 2) λ q26 l27 c28=> K n24 n25 q26 l27 c28 H23)=K a b q l c H')/\But P H H':=by
 obtain ⟨H2,e4,O4,n4,s4⟩:=AKR (o:=0) (vs:= [.int .i64 a, .int .i64 b, .slice q l c]) o6 (by simp) rfl
 have O:Owns H2 P [.int .i64 a, .int .i64 b, .slice q l c] 0:=O4
 refine ⟨H2,λ R K=> ?_,by omega,λ j _ hj=> s4 j hj⟩
 exact AAJ (o12.sees.cell 0) (AAJ (o12.sees.cell 1) (AAY (o12.sees.cell 2) ((e4 _ _).trans (AAJ (O.sees.cell 0) (AAJ (O.sees.cell 1) (AAY (O.sees.cell 2) rfl))))))
theorem AUx (v:Bs):vlen v []=v:=by unfold vlen;simp
def vend (v:Bs) (l:Ln):Bs:= { v with passes:=v.passes+l.2.1,len:=v.len+l.2.2.1.sum,bits:=v.bits+l.2.2.2.1 }
theorem ASZ {k:Nat} (hk:100000 < k) {g:Sg} (hgk:g.kk=k) {nb:Nat} {H:Heap} {b pw kb z:Nat} {qw:Oa} {bl:List Bs} {i:Nat} {v:Bs} {s:Ps} (h0:bl[i]? =some v) (V:VOk g nb v)
 (t0:hcell H b 3=some (.bool g.t.1)) (t1:hcell H b 4=some (.bool g.t.2.1)) (t2:hcell H b 5=some (.bool g.t.2.2.1)) (t3:hcell H b 6=some (.bool g.t.2.2.2.1)) (t4:hcell H b 7=some (.bool g.t.2.2.2.2)) (hb:b < H.length) (hbp:b≠pw) (hbk:b≠kb)
 (row:Owns H kb (bl.flatMap bkp) z) (rd:Rd H pw qw g.bs s) (hkp:kb≠pw) (hqw:∀a,qw=some a->a.block < H.length/\a.block≠pw/\a.block≠kb):
 ∃n1 n2 q l c H',(∀(R:Type) (K:Int->Int->Oa->Nat->Nat->Int->Heap->Option R),AAd k (some ⟨b,0,none⟩) (some ⟨pw,0,none⟩) (some ⟨kb,i * 10,none⟩) H K=K n1 n2 q l c (lB g v.planes v s).1 H')/\H.length<=H'.length/\(∀j,j < H.length->j≠pw->j≠kb->hblk H' j=hblk H j)/\
  ((lB g v.planes v s).1=0->n1=v.planes/\n2=(lB g v.planes v s).2.1/\l=(lB g v.planes v s).2.2.1.length/\Shows H' q (ints (lB g v.planes v s).2.2.1)/\(∀a,q=some a->H.length<=a.block)/\Owns H' kb ((bl.set i (vend v (lB g v.planes v s))).flatMap bkp) z/\Rd H' pw qw g.bs (lB g v.planes v s).2.2.2.2):=by
 obtain ⟨M,hM⟩:∃M,M=H.length:=⟨_,rfl⟩
 obtain ⟨H5,hH5⟩:∃H5,H5=H++ [some (⟨[.pointer (some ⟨kb,i * 10,none⟩)],false,0⟩:Blk)]:=⟨_,rfl⟩
 obtain ⟨H7,hH7⟩:∃H7,H7=H5++ [some (⟨[.int .i64 0, .int .i64 0, .slice none 0 0],false,0⟩:Blk)]:=⟨_,rfl⟩
 obtain ⟨H14,hH14⟩:∃H14,H14=H7++ [some (⟨[.int .i64 v.planes, .int .i64 0, .slice none 0 0],false,0⟩:Blk)]:=⟨_,rfl⟩
 have l5:H5.length=M+1:=by rw [hH5];simp [hM]
 have l7:H7.length=M+2:=by rw [hH7];simp [l5]
 have l14:H14.length=M+3:=by rw [hH14];simp [l7]
 have o5:Old H.length H H5:=hH5 ▸ Old.app _ _
 have o7:Old H5.length H5 H7:=hH7 ▸ Old.app _ _
 have o14:Old H7.length H7 H14:=hH14 ▸ Old.app _ _
 have o014:Old H.length H H14:=o5.trans ((o7.mono (by omega)).trans (o14.mono (by omega)))
 have O4:Owns H5 M [.pointer (some ⟨kb,i * 10,none⟩)] 0:=by rw [hH5,hM];exact AAI H _
 have O6:Owns H7 (M+1) [.int .i64 0, .int .i64 0, .slice none 0 0] 0:=by rw [hH7,←l5];exact AAI H5 _
 have O12:Owns H14 (M+2) [.int .i64 v.planes, .int .i64 0, .slice none 0 0] 0:=by rw [hH14,←l7];exact AAI H7 _
 have O47:=O4.old o7 (by omega)
 have O414:=O47.old o14 (by omega)
 have O614:=O6.old o14 (by omega)
 have hkl:=row.lt
 have hpw:=rd.lt
 have row7:Owns H7 kb (bl.flatMap bkp) z:=(row.old o5 hkl).old o7 (by omega)
 have row7':Owns H7 kb ((bl.set i v).flatMap bkp) z:=by rw [AKj h0];exact row7
 have row14:=row7.old o14 (by omega)
 have m4:hcell H7 kb (i * 10+4)=some (.int .i64 v.planes):=AKy h0 row7' (j:=4) (by omega)
 have R14:=rd.keep o014
 obtain ⟨H17,eG,RG_,BG⟩:=ASV (k:=k) hk R14
 have lG:=BG.1
 have g4:=O414.but BG (by omega)
 have g6:=O614.but BG (by omega)
 have g12:=O12.but BG (by omega)
 have growr:Owns H17 kb ((bl.set i v).flatMap bkp) z:=by rw [AKj h0];exact row14.but BG hkp
 have start:∀(R:Type) (K:Int->Int->Oa->Nat->Nat->Int->Heap->Option R) (rr:Option R) (X:Int->Int->Heap->Option R),(∀R':Unit,X (rG g.bs s).1.1 (rG g.bs s).1.2 H17=rr)->AB3 k (some ⟨pw,0,none⟩) H14 X=rr:=λ R K rr X h=> (eG _ _).trans (h ())
 have hBGfr:∀j,j < H.length->j≠pw->hblk H17 j=hblk H j:=λ j hj h1=> by rw [BG.2 j (by omega) h1,o014.2 j hj]
 have front:∀(R:Type) (K:Int->Int->Oa->Nat->Nat->Int->Heap->Option R) (rr:Option R) (X:Int->Int->Heap->Option R),AAd k (some ⟨b,0,none⟩) (some ⟨pw,0,none⟩) (some ⟨kb,i * 10,none⟩) H K=AB3 k (some ⟨pw,0,none⟩) H14 X->X (rG g.bs s).1.1 (rG g.bs s).1.2 H17=rr->AAd k (some ⟨b,0,none⟩) (some ⟨pw,0,none⟩) (some ⟨kb,i * 10,none⟩) H K=rr:=λ R K rr X h1 h2=> h1.trans ((eG _ _).trans h2)
 unfold lB
 have hG0:(rG g.bs s).1.2=0->1<=(rG g.bs s).1.1:=AYX
 generalize hrg:rG g.bs s=r at eG RG_ hG0 front ⊢
 unfold lB1
 by_cases e1:r.1.2≠0
 . rw [if_pos e1]
   obtain ⟨H2,e2,B2⟩:=ret6 g12 g6
   refine ⟨v.planes,0,none,0,0,H2,λ R K=> ?_,by have:=B2.1;omega,λ j hj h1 h2=> by rw [B2.2 j (by omega) (by omega),hBGfr j hj h1],λ h=> (e1 h).elim⟩
   unfold AAd AD9
   refine AAD hH5 ?_
   rw [←hM]
   refine AAD hH7 ?_
   rw [l5]
   refine go_p (O47.sees.cell 0) (AAC (AAA (go_i m4 (AAW hH14 rfl rfl ?_))))
   rw [l7]
   refine (eG _ _).trans (go_t (bne_iff_ne.2 e1) ?_)
   exact e2 R λ a b q l c H=> K a b q l c r.1.2 H
 rw [if_neg e1]
 have e10:r.1.2=0:=Classical.byContradiction e1
 have hr1:=hG0 e10
 have m5:hcell H17 kb (i * 10+5)=some (.int .i64 v.passes):=AKy h0 growr (j:=5) (by omega)
 have m4':hcell H17 kb (i * 10+4)=some (.int .i64 v.planes):=AKy h0 growr (j:=4) (by omega)
 have:=V.p0;have:=V.p1;have:=V.q0;have:=V.q1;have:=V.b0;have:=V.b1
 have wl:IntKind.wrap .i64 (IntKind.wrap .i64 (IntKind.wrap .i64 (3 * v.planes) - 2) - v.passes)=3 * v.planes - 2 - v.passes:=by
  rw [w64 (n:=3 * v.planes) (by omega) (by omega),w64 (n:=3 * v.planes - 2) (by omega) (by omega),w64 (by omega) (by omega)]
 have front2:∀(R:Type) (K:Int->Int->Oa->Nat->Nat->Int->Heap->Option R) (rr:Option R),(bif decide (r.1.1 > 3 * v.planes - 2 - v.passes) then (ldI .i64 H17 (pad (some ⟨M+2,0,none⟩) 0) λ n37=> ldI .i64 H17 (pad (some ⟨M+2,0,none⟩) 1) λ n38=> ldL H17 (pad (some ⟨M+2,0,none⟩) 2) λ q39 l40 c41=> hst H17 (some ⟨M+1,0,none⟩) [.int .i64 n37, .int .i64 n38, .slice q39 l40 c41] λ H42=> ldI .i64 H42 (pad (some ⟨M+1,0,none⟩) 0) λ n43=> ldI .i64 H42 (pad (some ⟨M+1,0,none⟩) 1) λ n44=> ldL H42 (pad (some ⟨M+1,0,none⟩) 2) λ q45 l46 c47=> K n43 n44 q45 l46 c47 15 H42)
  else (AB2 k (some ⟨pw,0,none⟩) 65535 H17 λ n48 n49 H50=>
bif (n49 !=0) then (ldI .i64 H50 (pad (some ⟨M+2,0,none⟩) 0) λ n51=>
ldI .i64 H50 (pad (some ⟨M+2,0,none⟩) 1) λ n52=>
ldL H50 (pad (some ⟨M+2,0,none⟩) 2) λ q53 l54 c55=>
hst H50 (some ⟨M+1,0,none⟩) [.int .i64 n51,.int .i64 n52,.slice q53 l54 c55] λ H56=>
ldI .i64 H56 (pad (some ⟨M+1,0,none⟩) 0) λ n57=>
ldI .i64 H56 (pad (some ⟨M+1,0,none⟩) 1) λ n58=>
ldL H56 (pad (some ⟨M+1,0,none⟩) 2) λ q59 l60 c61=>
K n57 n58 q59 l60 c61 n49 H56)
 else (ldP H50 (some ⟨M,0,none⟩) λ p62=>
hnil p62 λ p63=>
hfad 7 p63 λ p64=>
ldI .i64 H50 p64 λ n65=>
bif decide ((IntKind.wrap .i64 (n65+n48)) > 16) then (ldI .i64 H50 (pad (some ⟨M+2,0,none⟩) 0) λ n66=>
ldI .i64 H50 (pad (some ⟨M+2,0,none⟩) 1) λ n67=>
ldL H50 (pad (some ⟨M+2,0,none⟩) 2) λ q68 l69 c70=>
hst H50 (some ⟨M+1,0,none⟩) [.int .i64 n66,.int .i64 n67,.slice q68 l69 c70] λ H71=>
ldI .i64 H71 (pad (some ⟨M+1,0,none⟩) 0) λ n72=>
ldI .i64 H71 (pad (some ⟨M+1,0,none⟩) 1) λ n73=>
ldL H71 (pad (some ⟨M+1,0,none⟩) 2) λ q74 l75 c76=>
K n72 n73 q74 l75 c76 15 H71)
 else (hfad 1 (some ⟨M+2,0,none⟩) λ p77=>
hst1 H50 p77 (.int .i64 r.1.1) λ H78=>
ldP H78 (some ⟨M,0,none⟩) λ p79=>
hnil p79 λ p80=>
hfad 5 p80 λ p81=>
ldI .i64 H78 p81 λ n82=>
hnil (some ⟨b,0,none⟩) λ p83=>
hfad 3 p83 λ p84=>
ldB H78 (pad p84 0) λ t85=>
ldB H78 (pad p84 1) λ t86=>
ldB H78 (pad p84 2) λ t87=>
ldB H78 (pad p84 3) λ t88=>
ldB H78 (pad p84 4) λ t89=>
ADN k n82 r.1.1 t85 t86 t87 t88 t89 H78 λ q90 l91 c92 H93=>
AAO k (λ p104 p105 p106 n107 n108 q109 l110 c111 H112=>
AAe k p104 p105 p106 n107 n108 q109 l110 c111 H112 (λ p119 p120 p121 n122 n123 t124=>
bif t124 then (ldI .i64 H112 (pad p121 0) λ n125=>
ldI .i64 H112 (pad p121 1) λ n126=>
ldL H112 (pad p121 2) λ q127 l128 c129=>
hst H112 p120 [.int .i64 n125,.int .i64 n126,.slice q127 l128 c129] λ H130=>
ldI .i64 H130 (pad p120 0) λ n131=>
ldI .i64 H130 (pad p120 1) λ n132=>
ldL H130 (pad p120 2) λ q133 l134 c135=>
K n131 n132 q133 l134 c135 15 H130)
 else (ldP H112 p119 λ p136=>
hnil p136 λ p137=>
hfad 7 p137 λ p138=>
ldI .i64 H112 p138 λ n139=>
hnil p136 λ p140=>
hfad 7 p140 λ p141=>
hst1 H112 p141 (.int .i64 (IntKind.wrap .i64 (n139+n123))) λ H142=>
ldP H142 p119 λ p143=>
hnil p143 λ p144=>
hfad 5 p144 λ p145=>
ldI .i64 H142 p145 λ n146=>
hnil p143 λ p147=>
hfad 5 p147 λ p148=>
hst1 H142 p148 (.int .i64 (IntKind.wrap .i64 (n146+n122))) λ H149=>
ldI .i64 H149 (pad p121 0) λ n150=>
ldI .i64 H149 (pad p121 1) λ n151=>
ldL H149 (pad p121 2) λ q152 l153 c154=>
hst H149 p120 [.int .i64 n150,.int .i64 n151,.slice q152 l153 c154] λ H155=>
ldI .i64 H155 (pad p120 0) λ n156=>
ldI .i64 H155 (pad p120 1) λ n157=>
ldL H155 (pad p120 2) λ q158 l159 c160=>
K n156 n157 q158 l159 c160 0 H155))) (λ p161 n162 H163=>
ldI .i64 H163 (pad p161 0) λ n164=>
ldI .i64 H163 (pad p161 1) λ n165=>
ldL H163 (pad p161 2) λ q166 l167 c168=>
K n164 n165 q166 l167 c168 n162 H163) k (some ⟨pw,0,none⟩) (some ⟨M,0,none⟩) (some ⟨M+1,0,none⟩) (some ⟨M+2,0,none⟩) r.1.1 n48 q90 l91 c92 (some ⟨M+2,0,none⟩) (some ⟨M,0,none⟩) q90 l91 c92 ((l91:Nat):Int) 0 H93))))=rr->AAd k (some ⟨b,0,none⟩) (some ⟨pw,0,none⟩) (some ⟨kb,i * 10,none⟩) H K=rr:=by
  intro R K rr h
  unfold AAd AD9
  refine AAD hH5 ?_
  rw [←hM]
  refine AAD hH7 ?_
  rw [l5]
  refine go_p (O47.sees.cell 0) (AAC (AAA (go_i m4 (AAW hH14 rfl rfl ?_))))
  rw [l7]
  refine (eG _ _).trans (go_f (bne_eq_false_iff_eq.2 e10) ?_)
  refine go_p (g4.sees.cell 0) (AAC (AAA (go_i m4' (go_p (g4.sees.cell 0) (AAC (AAA (go_i m5 ?_)))))))
  rw [wl]
  exact h
 clear front start
 by_cases e2:r.1.1 > 3 * v.planes - 2 - v.passes
 . rw [if_pos e2]
   obtain ⟨H2,e3,B2⟩:=ret6 g12 g6
   refine ⟨v.planes,0,none,0,0,H2,λ R K=> front2 R K _ (go_t (decide_eq_true e2) (e3 R λ a b q l c H=> K a b q l c 15 H)),by have:=B2.1;omega,λ j hj h1 h2=> by rw [B2.2 j (by omega) (by omega),hBGfr j hj h1],λ h=> by cases h⟩
 rw [if_neg e2]
 obtain ⟨H50,eU,RU,BU⟩:=ASU (k:=k) hk RG_ 65535
 have lU:=BU.1
 have u4:=g4.but BU (by omega)
 have u6:=g6.but BU (by omega)
 have u12:=g12.but BU (by omega)
 have urow:=growr.but BU hkp
 have hUfr:∀j,j < H.length->j≠pw->hblk H50 j=hblk H j:=λ j hj h1=> by rw [BU.2 j (by omega) h1,hBGfr j hj h1]
 have hU0:(rU g.bs 65535 r.2).1.2=0->∃u:Nat,(rU g.bs 65535 r.2).1.1=(u:Int)/\u<=65535:=AU7
 generalize hru:rU g.bs 65535 r.2=r2 at eU RU hU0 ⊢
 unfold lB2
 by_cases e3:r2.1.2≠0
 . rw [if_pos e3]
   obtain ⟨H2,e4,B2⟩:=ret6 u12 u6
   exact ⟨v.planes,0,none,0,0,H2,λ R K=> front2 R K _ (go_f (decide_eq_false e2) ((eU _ _).trans (go_t (bne_iff_ne.2 e3) (e4 R λ a b q l c H=> K a b q l c r2.1.2 H)))),by have:=B2.1;omega,λ j hj h1 h2=> by rw [B2.2 j (by omega) (by omega),hUfr j hj h1],λ h=> (e3 h).elim⟩
 rw [if_neg e3]
 have e30:r2.1.2=0:=Classical.byContradiction e3
 obtain ⟨u,hu,hu2⟩:=hU0 e30
 rw [hu]
 have m7:hcell H50 kb (i * 10+7)=some (.int .i64 (v.bits:Int)):=AKy h0 urow (j:=7) (by omega)
 have w7:IntKind.wrap .i64 ((v.bits:Int)+(u:Int))=(v.bits:Int)+(u:Int):=w64 (by omega) (by omega)
 by_cases e4:(v.bits:Int)+(u:Int) > 16
 . rw [if_pos e4]
   obtain ⟨H2,e5,B2⟩:=ret6 u12 u6
   refine ⟨v.planes,0,none,0,0,H2,λ R K=> front2 R K _ (go_f (decide_eq_false e2) ((eU _ _).trans (go_f (bne_eq_false_iff_eq.2 e30) (go_p (u4.sees.cell 0) (AAC (AAA (go_i m7 ?_))))))),by have:=B2.1;omega,λ j hj h1 h2=> by rw [B2.2 j (by omega) (by omega),hUfr j hj h1],λ h=> by cases h⟩
   rw [hu,w7]
   exact go_t (decide_eq_true e4) (e5 R λ a b q l c H=> K a b q l c 15 H)
 rw [if_neg e4,Int.toNat_natCast,hgk]
 obtain ⟨H78,eS,OS,BS,nS⟩:=u12.st1 (o:=1) (by simp) (.int .i64 r.1.1)
 have OS':Owns H78 (M+2) [.int .i64 v.planes, .int .i64 r.1.1, .slice none 0 0] 0:=OS
 have s4:=u4.but BS (by omega)
 have s6:=u6.but BS (by omega)
 have srow:=urow.but BS (by omega)
 have RS_:=RU.but BS (by omega) (λ a ha=> by have:=(hqw a ha).1;omega)
 have hSfr:∀j,j < H.length->j≠pw->hblk H78 j=hblk H j:=λ j hj h1=> by rw [BS.2 j (by omega) (by omega),hUfr j hj h1]
 have m5':hcell H78 kb (i * 10+5)=some (.int .i64 v.passes):=AKy h0 srow (j:=5) (by omega)
 have tc:∀o x,hcell H b o=some x->hcell H78 b o=some x:=λ o x h=> by unfold hcell at *;rw [hSfr b hb hbp];exact h
 obtain ⟨qp,lp,cp,Hs,eP,BP,oP,lP⟩:=AVi (k:=k) (by omega) v.passes r.1.1 ⟨by omega,by omega⟩ g.t.1 g.t.2.1 g.t.2.2.1 g.t.2.2.2.1 g.t.2.2.2.2 H78
 have hPs:=BP.shows
 have hps:=ATL g.t.1 g.t.2.1 k v.passes r.1.1
 have hpl:=ARW g.t.1 g.t.2.1 k v.passes r.1.1
 generalize hpts:pts g.t.1 g.t.2.1 k v.passes r.1.1=ps at BP hPs hps hpl ⊢
 have hlp:lp=ps.length:=by have:=hPs.2;rw [AOH] at this;omega
 subst hlp
 have lS:=oP.1
 have hqn:∀a,qp=some a->a.block≠pw/\a.block≠kb/\a.block≠M+2:=λ a ha=> by
  rcases BP with ⟨h,_⟩|⟨b',h,_,h3,_⟩
  . rw [h] at ha;cases ha
  . rw [h] at ha;cases ha;simp only;omega
 have p4:=s4.old oP (by omega)
 have p6:=s6.old oP (by omega)
 have p12:=OS'.old oP (by omega)
 have prow:=srow.old oP (by omega)
 have hPfr:∀j,j < H.length->j≠pw->hblk Hs j=hblk H j:=λ j hj h1=> by rw [oP.2 j (by omega),hSfr j hj h1]
 have L0:LI g Hs pw qw kb z (M+2) bl i v v.planes r.1.1 Hs [] r2.2 none 0:=by
  refine ⟨RS_.keep oP,by rw [AUx];exact prow,⟨p12,λ t ht=> ?_,λ t ht=> ?_,λ t ht a ha=> ?_,by simp⟩,Nat.le_refl _,λ j _ _ _ _=> rfl⟩
  . have ht':=List.mem_singleton.1 ht;subst ht';rfl
  . have ht':=List.mem_singleton.1 ht;subst ht';exact Bld.nil _ _ _
  . have ht':=List.mem_singleton.1 ht;subst ht';cases ha
 obtain ⟨H2,eL,xL,yL⟩:=Abk k hk h0 V (ps:=ps) hps hpl (more:=u) (by omega) (cp:=cp) ⟨hPs.1, .inr BP.below⟩ hqn p4 p6 (by omega) (by omega) hkp (λ a ha=> by have:=hqw a ha;omega) (by omega) ps.length k 0 (by omega) (by omega) Hs [] r2.2 none 0 rfl (λ x hx=> by cases hx) L0
 rw [List.drop_zero] at eL xL yL
 have hR:=ATE g.bs (v.bits+u) (by omega) ps r2.2 hps
 simp only [Int.natCast_zero] at eL
 generalize hrl:rls g.bs (v.bits+u) ps r2.2=r3 at eL xL yL hR ⊢
 unfold lB3
 have front3:∀(R:Type) (K:Int->Int->Oa->Nat->Nat->Int->Heap->Option R) (rr:Option R),(if r3.1≠0 then (ldI .i64 H2 (pad (some ⟨M+1,0,none⟩) 0) λ n164=> ldI .i64 H2 (pad (some ⟨M+1,0,none⟩) 1) λ n165=> ldL H2 (pad (some ⟨M+1,0,none⟩) 2) λ q166 l167 c168=> K n164 n165 q166 l167 c168 r3.1 H2) else AAe k (some ⟨M,0,none⟩) (some ⟨M+1,0,none⟩) (some ⟨M+2,0,none⟩) r.1.1 (u:Int) qp ps.length cp H2 (λ p119 p120 p121 n122 n123 t124=>
bif t124 then (ldI .i64 H2 (pad p121 0) λ n125=>
ldI .i64 H2 (pad p121 1) λ n126=>
ldL H2 (pad p121 2) λ q127 l128 c129=>
hst H2 p120 [.int .i64 n125,.int .i64 n126,.slice q127 l128 c129] λ H130=>
ldI .i64 H130 (pad p120 0) λ n131=>
ldI .i64 H130 (pad p120 1) λ n132=>
ldL H130 (pad p120 2) λ q133 l134 c135=>
K n131 n132 q133 l134 c135 15 H130)
 else (ldP H2 p119 λ p136=>
hnil p136 λ p137=>
hfad 7 p137 λ p138=>
ldI .i64 H2 p138 λ n139=>
hnil p136 λ p140=>
hfad 7 p140 λ p141=>
hst1 H2 p141 (.int .i64 (IntKind.wrap .i64 (n139+n123))) λ H142=>
ldP H142 p119 λ p143=>
hnil p143 λ p144=>
hfad 5 p144 λ p145=>
ldI .i64 H142 p145 λ n146=>
hnil p143 λ p147=>
hfad 5 p147 λ p148=>
hst1 H142 p148 (.int .i64 (IntKind.wrap .i64 (n146+n122))) λ H149=>
ldI .i64 H149 (pad p121 0) λ n150=>
ldI .i64 H149 (pad p121 1) λ n151=>
ldL H149 (pad p121 2) λ q152 l153 c154=>
hst H149 p120 [.int .i64 n150,.int .i64 n151,.slice q152 l153 c154] λ H155=>
ldI .i64 H155 (pad p120 0) λ n156=>
ldI .i64 H155 (pad p120 1) λ n157=>
ldL H155 (pad p120 2) λ q158 l159 c160=>
K n156 n157 q158 l159 c160 0 H155)))=rr->AAd k (some ⟨b,0,none⟩) (some ⟨pw,0,none⟩) (some ⟨kb,i * 10,none⟩) H K=rr:=by
  intro R K rr h
  refine front2 R K _ (go_f (decide_eq_false e2) ((eU _ _).trans (go_f (bne_eq_false_iff_eq.2 e30) (go_p (u4.sees.cell 0) (AAC (AAA (go_i m7 ?_)))))))
  rw [hu,w7]
  refine go_f (decide_eq_false e4) (AAA ((eS _ _).trans (go_p (s4.sees.cell 0) (AAC (AAA (go_i m5' (AAC (AAA ?_))))))))
  refine AAH (tc 3 _ t0) (AAH (tc 4 _ t1) (AAH (tc 5 _ t2) (AAH (tc 6 _ t3) (AAH (tc 7 _ t4) ((eP _ _).trans ((eL _ _ _).trans h))))))
 clear front2
 by_cases e5:r3.1≠0
 . rw [if_pos e5]
   obtain ⟨x1,x2,a,b',q,l,c,x3⟩:=xL e5
   refine ⟨a,b',q,l,c,H2,λ R K=> front3 R K _ ?_,by omega,λ j hj h1 h2=> by rw [x2 j (by omega) h1 h2 (by omega) (by omega),hPfr j hj h1],λ h=> (e5 h).elim⟩
   rw [if_pos e5]
   exact AAJ (x3.sees.cell 0) (AAJ (x3.sees.cell 1) (AAY (x3.sees.cell 2) rfl))
 rw [if_neg e5]
 have e50:r3.1=0:=Classical.byContradiction e5
 obtain ⟨qv,cv,L2⟩:=yL e50
 rw [List.nil_append] at L2
 obtain ⟨i1,i2,i3⟩:=hR e50
 have ep1:=AYu (k:=k) (by omega) h0 V (ps:=ps) hps hpl (more:=u) (by omega) cp ⟨hPs.1, .inr BP.below⟩ hqn p4 (by omega) (by omega) i1 L2
 have c4:=L2.st p4 (by omega) (by omega) (by omega)
 have c6:=L2.st p6 (by omega) (by omega) (by omega)
 have l2:=L2.len
 by_cases e6:bad v u ps r3.2.1=true
 . rw [if_pos e6]
   obtain ⟨H3,e7,B3⟩:=ret6 L2.c.o c6
   refine ⟨v.planes,r.1.1,qv,r3.2.1.length,cv,H3,λ R K=> front3 R K _ ?_,by have:=B3.1;omega,λ j hj h1 h2=> by rw [B3.2 j (by omega) (by omega),L2.fr j (by omega) h1 h2 (by omega),hPfr j hj h1],λ h=> by cases h⟩
   rw [if_neg e5]
   refine (ep1 _ _).trans (go_t e6 ?_)
   exact e7 R λ a b q l c H=> K a b q l c 15 H
 rw [if_neg e6]
 have e60:bad v u ps r3.2.1=false:=by simpa using e6
 have hlen:v.len+r3.2.1.sum<=65535:=by
  unfold bad at e60
  rw [Bool.or_eq_false_iff] at e60
  have:=of_decide_eq_false e60.2
  omega
 have mb7:hcell H2 kb (i * 10+7)=some (.int .i64 (v.bits:Int)):=AKy h0 L2.row (j:=7) (by omega)
 have wb:IntKind.wrap .i64 ((v.bits:Int)+(u:Int))=((v.bits+u:Nat):Int):=by rw [w7];omega
 obtain ⟨H3,e8,row3,B3,n3⟩:=ASI h0 L2.row (j:=7) (by omega) (x:= .int .i64 ((v.bits+u:Nat):Int)) (v':= { vlen v r3.2.1 with bits:=v.bits+u }) rfl
 have mb5:hcell H3 kb (i * 10+5)=some (.int .i64 v.passes):=AKy h0 row3 (j:=5) (by omega)
 have wp:IntKind.wrap .i64 (v.passes+r.1.1)=v.passes+r.1.1:=w64 (by omega) (by omega)
 obtain ⟨H4,e9,row4,B4,n4⟩:=ASI h0 row3 (j:=5) (by omega) (x:= .int .i64 (v.passes+r.1.1)) (v':= { vlen v r3.2.1 with bits:=v.bits+u,passes:=v.passes+r.1.1 }) rfl
 have d4:=(c4.but B3 (by omega))
 have d12:=(L2.c.o.but B3 (by omega)).but B4 (by omega)
 have d6:=(c6.but B3 (by omega)).but B4 (by omega)
 obtain ⟨H6,ea,Ba⟩:=ret6 d12 d6
 have hsh:=L2.shows
 have hqv:∀a,qv=some a->a.block≠kb/\a.block≠M+1:=λ a ha=> by have:=hsh.2 a ha;omega
 have sh6:Shows H6 qv (ints r3.2.1):=((hsh.1.but B3 λ a ha=> (hqv a ha).1).but B4 λ a ha=> (hqv a ha).1).but Ba λ a ha=> (hqv a ha).2
 refine ⟨v.planes,r.1.1,qv,r3.2.1.length,cv,H6,λ R K=> front3 R K _ ?_,by have:=Ba.1;omega,λ j hj h1 h2=> by rw [Ba.2 j (by omega) (by omega),B4.2 j (by omega) h2,B3.2 j (by omega) h2,L2.fr j (by omega) h1 h2 (by omega),hPfr j hj h1],λ _=> ⟨rfl,rfl,rfl,sh6,(λ a ha=> by have:=hsh.2 a ha;omega),row4.but Ba (by omega),((L2.rd.but B3 hkp.symm λ a ha=> (hqw a ha).2.2).but B4 hkp.symm λ a ha=> (hqw a ha).2.2).but Ba (by omega) λ a ha=> by have:=(hqw a ha).1;omega⟩⟩
 rw [if_neg e5]
 refine (ep1 _ _).trans (go_f e60 ?_)
 refine go_p (c4.sees.cell 0) (AAC (AAA (go_i mb7 (AAC (AAA ?_)))))
 rw [wb]
 refine (e8 _ _).trans (go_p (d4.sees.cell 0) (AAC (AAA (go_i mb5 (AAC (AAA ?_))))))
 rw [wp]
 refine (e9 _ _).trans ?_
 exact ea R λ a b q l c H=> K a b q l c 0 H
open Go.Proofs.Ytmanlfonppfhaaa.FW Go.IntWalk
def pp (ab:Nat×Nat) (p:Nat):Oa:=if ab.1=0 then none else some ⟨p,0,none⟩
theorem AKH {ab:Nat×Nat} (p:Nat) (h:ab.1≠0):pp ab p=some ⟨p,0,none⟩:=if_neg h
def bd (g:Sg) (P:Nat->Nat) (i:Nat):List Value:= [.int .i64 (g.pl i), .pointer (pp (g.sz i) (P (2 * i))), .pointer (pp (g.sz i) (P (2 * i+1)))]
theorem AV5 (g:Sg) (P:Nat->Nat) (i:Nat):(bd g P i).length=3:=rfl
def sP' (t:Md) (qb:Oa) (lb cb:Nat) (qk:Oa) (lk ck:Nat) (layer:Int) (dec:Bool):List Value:= [.bool true, .bool false, .bool dec, .bool t.1, .bool t.2.1, .bool t.2.2.1, .bool t.2.2.2.1, .bool t.2.2.2.2, .slice qb lb cb, .slice qk lk ck, .int .i64 layer]
structure PS (z:Nat->Nat) (g:Sg) (n:Nat) (b:Nat) (qb:Oa) (cb:Nat) (kb kz:Nat) (qk:Oa) (ck:Nat) (P:Nat->Nat) (H:Heap) (bl:List Bs) (tr:Trs) (layer:Int) (dec:Bool):Prop where
 o:Owns H b (sP' g.t qb n cb qk bl.length ck layer dec) 0
 br:Shows H qb ((List.range n).flatMap (bd g P))
 row:bl= []∨qk=some ⟨kb,0,none⟩/\z kb=2/\Owns H kb (bl.flatMap bkp) kz
 tr:∀j,j < 2 * n->(g.sz (j / 2)).1≠0->ZT z (5+j) H (P j) (g.sz (j / 2)).1 (g.sz (j / 2)).2 (tr j).1 (tr j).2
 zb:z b=0
 zq:∀a,qb=some a->z a.block=1
def Zk (z:Nat->Nat) (H H':Heap):Prop:=H.length<=H'.length/\∀j,j < H.length->z j=99->hblk H' j=hblk H j
theorem Zk.refl (z:Nat->Nat) (H:Heap):Zk z H H:=⟨Nat.le_refl _,λ _ _ _=> rfl⟩
theorem Zk.trans {z:Nat->Nat} {H1 H2 H3:Heap} (a:Zk z H1 H2) (b:Zk z H2 H3):Zk z H1 H3:=⟨Nat.le_trans a.1 b.1,λ j hj h=> (b.2 j (Nat.lt_of_lt_of_le hj a.1) h).trans (a.2 j hj h)⟩
theorem Zk.of_old {z:Nat->Nat} {H H':Heap} (o:Old H.length H H'):Zk z H H':=⟨o.1,λ j hj _=> o.2 j hj⟩
theorem Zk.of_but {z:Nat->Nat} {b:Nat} {H H':Heap} (o:But b H H') (h:z b≠99):Zk z H H':=⟨o.1,λ j hj hz=> o.2 j hj λ e=> h (by rw [←e];exact hz)⟩
theorem Owns.zk {z:Nat->Nat} {H H':Heap} {b sz:Nat} {cs:List Value} (h:Owns H b cs sz) (k:Zk z H H') (hz:z b=99):Owns H' b cs sz:=h.same (k.2 b h.lt hz)
section
variable {z:Nat->Nat} {g:Sg} {n b:Nat} {qb:Oa} {cb kb kz:Nat} {qk:Oa} {ck:Nat} {P:Nat->Nat} {H H':Heap} {bl:List Bs} {tr:Trs} {layer:Int} {dec:Bool}
theorem PS.same (S:PS z g n b qb cb kb kz qk ck P H bl tr layer dec) (s:∀j,j < H.length->z j≠99->z j≠3->z j≠4->hblk H' j=hblk H j) (hn:n<=3):PS z g n b qb cb kb kz qk ck P H' bl tr layer dec:=by
 refine ⟨S.o.same (s b S.o.lt (by rw [S.zb];omega) (by rw [S.zb];omega) (by rw [S.zb];omega)), ?_, ?_,λ j hj hz=> ?_,S.zb,S.zq⟩
 . rcases S.br with h|⟨b',o,full,h1,h2,h3⟩
   . exact .inl h
   . refine (show Shows H qb _ from .inr ⟨b',o,full,h1,h2,h3⟩).same λ a ha=> ?_
     have hlt:=h2.lt
     rw [h1] at ha;cases ha
     exact s _ hlt (by rw [S.zq _ h1];omega) (by rw [S.zq _ h1];omega) (by rw [S.zq _ h1];omega)
 . rcases S.row with h|⟨h1,h2,h3⟩
   . exact .inl h
   . exact .inr ⟨h1,h2,h3.same (s kb h3.lt (by omega) (by omega) (by omega))⟩
 . exact (S.tr j hj hz).same λ i hi h=> s i hi (by omega) (by omega) (by omega)
theorem PS.keep (S:PS z g n b qb cb kb kz qk ck P H bl tr layer dec) (o:Old H.length H H') (hn:n<=3):PS z g n b qb cb kb kz qk ck P H' bl tr layer dec:=S.same (λ j hj _ _ _=> o.2 j hj) hn
theorem PS.rd {pw:Nat} (S:PS z g n b qb cb kb kz qk ck P H bl tr layer dec) (o:But pw H H') (hz:z pw=3) (hn:n<=3):PS z g n b qb cb kb kz qk ck P H' bl tr layer dec:=S.same (λ j hj _ h3 _=> o.2 j hj λ e=> h3 (by rw [e];exact hz)) hn
theorem PS.band (S:PS z g n b qb cb kb kz qk ck P H bl tr layer dec) {i:Nat} (hi:i < n):∃b' o,(∀(R:Type) (K:Oa->Option R),hidx qb n (i:Int) 3 K=K (some ⟨b',o,none⟩))/\∀j,j < 3->hcell H b' (o+j)=(bd g P i)[j]? :=by
 have:=ASc (f:=bd g P) (sz:=3) (AV5 g P) (by omega) S.br (AMj (AV5 g P) _) (i:=i) (x:=i) (by rw [List.getElem?_range hi])
 rw [List.length_range] at this
 exact this
theorem PS.krow (S:PS z g n b qb cb kb kz qk ck P H bl tr layer dec) {i:Nat} {v:Bs} (h0:bl[i]? =some v):qk=some ⟨kb,0,none⟩/\z kb=2/\Owns H kb (bl.flatMap bkp) kz:=by
 rcases S.row with h|h
 . rw [h] at h0;simp at h0
 . exact h
theorem PS.cell (S:PS z g n b qb cb kb kz qk ck P H bl tr layer dec) {i:Nat} {v:Bs} (h0:bl[i]? =some v) {j:Nat} (hj:j < 10):hcell H kb (i * 10+j)=(bkp v)[j]? :=by
 obtain ⟨_,_,O⟩:=S.krow h0
 rw [O.sees.cell];exact ASC bkp 10 AOY _ i v h0 j hj
theorem PS.blocks (S:PS z g n b qb cb kb kz qk ck P H bl tr layer dec) {i:Nat} {v v':Bs} (h0:bl[i]? =some v) (O:Owns H' kb ((bl.set i v').flatMap bkp) kz) (s:∀j,j < H.length->j≠kb->z j≠99->z j≠3->z j≠4->hblk H' j=hblk H j) (hn:n<=3):PS z g n b qb cb kb kz qk ck P H' (bl.set i v') tr layer dec:=by
 obtain ⟨e1,zk,O0⟩:=S.krow h0
 refine ⟨?_, ?_, .inr ⟨e1,zk,O⟩,λ j hj hz=> ?_,S.zb,S.zq⟩
 . rw [List.length_set]
   exact S.o.same (s b S.o.lt (λ e=> by have:=S.zb;rw [e,zk] at this;cases this) (by rw [S.zb];omega) (by rw [S.zb];omega) (by rw [S.zb];omega))
 . rcases S.br with h|⟨b',o,full,h1,h2,h3⟩
   . exact .inl h
   . refine (show Shows H qb _ from .inr ⟨b',o,full,h1,h2,h3⟩).same λ a ha=> ?_
     have hlt:=h2.lt
     rw [h1] at ha;cases ha
     have:=S.zq _ h1
     simp only at this
     exact s _ hlt (λ e=> by rw [show b'=kb from e] at this;omega) (by simp only;omega) (by simp only;omega) (by simp only;omega)
 . exact (S.tr j hj hz).same λ i hi h=> s i hi (λ e=> by rw [e,zk] at h;omega) (by omega) (by omega) (by omega)
theorem PS.put (S:PS z g n b qb cb kb kz qk ck P H bl tr layer dec) {i:Nat} {v v':Bs} (h0:bl[i]? =some v) {j:Nat} (hj:j < 10) {x:Value} (hx:(bkp v).set j x=bkp v') (hn:n<=3):
 ∃H',(∀(R:Type) (K:Heap->Option R),hst1 H (some ⟨kb,i * 10+j,none⟩) x K=K H')/\PS z g n b qb cb kb kz qk ck P H' (bl.set i v') tr layer dec/\But kb H H':=by
 obtain ⟨e1,zk,O⟩:=S.krow h0
 rw [←AKj h0] at O
 obtain ⟨H',e,O',B,_⟩:=ASI h0 O hj hx
 exact ⟨H',e,S.blocks h0 O' (λ j hj h _ _ _=> B.2 j hj h) hn,B⟩
theorem PS.dect {k:Nat} (hk:70000 < k) (S:PS z g n b qb cb kb kz qk ck P H bl tr layer dec) (hn:n<=3) {pw:Nat} {qw:Oa} {s:Ps} (W:Rd H pw qw g.bs s) (zw:z pw=3) (zr:∀a,qw=some a->z a.block=4/\a.block < H.length) {i w:Nat} (hi:i < n) (hw:w<=1) (h0:(g.sz i).1≠0) (x y:Nat) (t:Int):
 ∃H',(∀(R:Type) (K:Bool->Int->Heap->Option R),AAy k (some ⟨P (2 * i+w),0,none⟩) (some ⟨pw,0,none⟩) (x:Int) (y:Int) t H K=K (tdec g.bs (g.sz i) (tr (2 * i+w)) x y t s).1.1 (tdec g.bs (g.sz i) (tr (2 * i+w)) x y t s).1.2 H')/\PS z g n b qb cb kb kz qk ck P H' bl (upT tr (2 * i+w) (tnx (tdec g.bs (g.sz i) (tr (2 * i+w)) x y t s))) layer dec/\Rd H' pw qw g.bs (tdec g.bs (g.sz i) (tr (2 * i+w)) x y t s).2.2.2/\Zk z H H':=by
 have hd:(2 * i+w) / 2=i:=by omega
 have T:=S.tr (2 * i+w) (by omega) (by rw [hd];exact h0)
 rw [hd] at T
 obtain ⟨H',e,T',W',hl,fr⟩:=T.dec hk W (λ a ha=> (zr a ha).2) (by omega) (λ a ha=> by have:=(zr a ha).1;omega) (x:Int) (y:Int) t
 have fr':∀j,j < H.length->z j≠5+(2 * i+w)->z j≠3->z j≠4->hblk H' j=hblk H j:=λ j hj h1 h2 h3=> fr j hj h1 (λ e=> h2 (by rw [e];exact zw)) λ a ha e=> h3 (by rw [←e];exact (zr a ha).1)
 refine ⟨H',e,⟨S.o.same (fr' b S.o.lt (by rw [S.zb];omega) (by rw [S.zb];omega) (by rw [S.zb];omega)), ?_, ?_,λ j hj hz=> ?_,S.zb,S.zq⟩,W',hl,λ j hj h=> fr' j hj (by omega) (by omega) (by omega)⟩
 . rcases S.br with h|⟨b',o,full,h1,h2,h3⟩
   . exact .inl h
   . refine (show Shows H qb _ from .inr ⟨b',o,full,h1,h2,h3⟩).same λ a ha=> ?_
     have hlt:=h2.lt
     rw [h1] at ha;cases ha
     have:=S.zq _ h1
     simp only at this
     exact fr' _ hlt (by simp only;omega) (by simp only;omega) (by simp only;omega)
 . rcases S.row with h|⟨h1,h2,h3⟩
   . exact .inl h
   . exact .inr ⟨h1,h2,h3.same (fr' kb h3.lt (by omega) (by omega) (by omega))⟩
 . by_cases hje:j=2 * i+w
   . subst hje
     rw [ANa,hd]
     exact T'
   . rw [AQQ _ _ hje]
     exact (S.tr j hj hz).same λ q hq h=> fr' q hq (by omega) (by omega) (by omega)
theorem PS.valt {k:Nat} (S:PS z g n b qb cb kb kz qk ck P H bl tr layer dec) {i w:Nat} (hi:i < n) (hw:w<=1) (h0:(g.sz i).1≠0) (x y:Nat):
 ∃H',(∀(R:Type) (K:Int->Bool->Heap->Option R),ABz k (some ⟨P (2 * i+w),0,none⟩) (x:Int) (y:Int) H K=K (valR (g.sz i).1 (g.sz i).2 x y (tr (2 * i+w)).2).1 (valR (g.sz i).1 (g.sz i).2 x y (tr (2 * i+w)).2).2 H')/\Old H.length H H':=by
 have hd:(2 * i+w) / 2=i:=by omega
 have T:=S.tr (2 * i+w) (by omega) (by rw [hd];exact h0)
 rw [hd] at T
 exact T.val (x:Int) (y:Int)
theorem PS.tree (S:PS z g n b qb cb kb kz qk ck P H bl tr layer dec) {i w:Nat} (hi:i < n) (hw:w<=1) (h0:(g.sz i).1≠0):ZT z (5+(2 * i+w)) H (P (2 * i+w)) (g.sz i).1 (g.sz i).2 (tr (2 * i+w)).1 (tr (2 * i+w)).2:=by
 have hd:(2 * i+w) / 2=i:=by omega
 have T:=S.tr (2 * i+w) (by omega) (by rw [hd];exact h0)
 rwa [hd] at T
end
open Go.Proofs.Ytmanlfonppfhaaa.FW Go.IntWalk
theorem AS4 (tr:Trs) (j:Nat) (A B:Te):upT (upT tr j A) j B=upT tr j B:=by funext i;unfold upT;split <;> rfl
section
variable {z:Nat->Nat} {g:Sg} {n b:Nat} {qb:Oa} {cb kb kz:Nat} {qk:Oa} {ck:Nat} {P:Nat->Nat} {bl:List Bs} {layer:Int} {dec:Bool}
theorem AcA {k:Nat} (hk:100000 < k) (hn:n<=3) {pw:Nat} {qw:Oa} (zw:z pw=3) (zr:∀a,qw=some a->z a.block=4) {i:Nat} {v:Bs} (h0:bl[i]? =some v) (V:VOk g n v) (hP:0<=g.pl v.band/\g.pl v.band<=60) {M:Nat} (zM:z M=99) {pI pZ:Oa} (hpZ:pZ=some ⟨P (2 * v.band+1),0,none⟩):
 ∀(m f:Nat) (t:Int),m < f->1<=t->t - 1+m=g.pl v.band->∀(H:Heap) (tr:Trs) (s:Ps),PS z g n b qb cb kb kz qk ck P H bl tr layer dec->Rd H pw qw g.bs s->(∀a,qw=some a->a.block < H.length)->Owns H M [.int .i64 (g.pl v.band), .pointer pI, .pointer pZ] 0->t - 1<=leafL (tr (2 * v.band+1)) (g.sz v.band) v.x v.y->
 ∃H',(∀(R:Type) (K:Bool->Int->Heap->Option R),AAF k (λ H60=> K false 15 H60) (λ t61 n62 H63=> K t61 n62 H63) f (some ⟨pw,0,none⟩) (some ⟨kb,i * 10,none⟩) (some ⟨M,0,none⟩) t H=K ((zl g.bs (g.sz v.band) (g.pl v.band) v.x v.y m t (tr (2 * v.band+1)) s).1==0) (zl g.bs (g.sz v.band) (g.pl v.band) v.x v.y m t (tr (2 * v.band+1)) s).1 H')/\H.length<=H'.length/\(∀j,j < H.length->z j=99->j≠M->hblk H' j=hblk H j)/\
  ((zl g.bs (g.sz v.band) (g.pl v.band) v.x v.y m t (tr (2 * v.band+1)) s).1=0->PS z g n b qb cb kb kz qk ck P H' (bl.set i { v with inc:=true,planes:=(zl g.bs (g.sz v.band) (g.pl v.band) v.x v.y m t (tr (2 * v.band+1)) s).2.2.1 }) (upT tr (2 * v.band+1) (zl g.bs (g.sz v.band) (g.pl v.band) v.x v.y m t (tr (2 * v.band+1)) s).2.1) layer dec/\Rd H' pw qw g.bs (zl g.bs (g.sz v.band) (g.pl v.band) v.x v.y m t (tr (2 * v.band+1)) s).2.2.2):=by
 have hx:=V.x
 have hy:=V.y
 have hs0:(g.sz v.band).1≠0:=by omega
 intro m
 induction m with
 |zero=>
  intro f t hf ht hm H tr s S W hq O hlow
  obtain ⟨f,rfl⟩:∃n',f=n'+1:=⟨f - 1,by omega⟩
  refine ⟨H,λ R K=> ?_,Nat.le_refl _,λ _ _ _ _=> rfl,λ h=> by rw [zl] at h;cases h⟩
  unfold AAF ACL
  exact AAA (go_i (O.sees.cell 0) (go_f (decide_eq_false (by omega)) rfl))
 |succ m ih=>
  intro f t hf ht hm H tr s S W hq O hlow
  obtain ⟨f,rfl⟩:∃n',f=n'+1:=⟨f - 1,by omega⟩
  have T0:=S.tree (w:=1) V.b (by omega) hs0
  have m1:hcell H kb (i * 10+1)=some (.int .i64 (v.x:Int)):=S.cell h0 (j:=1) (by omega)
  have m2:hcell H kb (i * 10+2)=some (.int .i64 (v.y:Int)):=S.cell h0 (j:=2) (by omega)
  have mz:hcell H M 2=some (.pointer (some ⟨P (2 * v.band+1),0,none⟩)):=by rw [←hpZ];exact O.sees.cell 2
  obtain ⟨H1,e1,S1,W1,Z1⟩:=S.dect (k:=k) (by omega) hn W zw (λ a ha=> ⟨zr a ha,hq a ha⟩) (w:=1) V.b (by omega) hs0 v.x v.y t
  have hl1:=Z1.1
  have O1:=Owns.zk O Z1 zM
  have hleaf:(tdec g.bs (g.sz v.band) (tr (2 * v.band+1)) v.x v.y t s).1.2=0->_:=λ h=> AOW (bs:=g.bs) (d:=(tr (2 * v.band+1)).1) (g:=(tr (2 * v.band+1)).2) (s:=s) hx hy (t:=t) (by omega) (by omega) T0.dim h
  rw [zl]
  have start:∀(R:Type) (K:Bool->Int->Heap->Option R) (rr:Option R),(bif ((tdec g.bs (g.sz v.band) (tr (2 * v.band+1)) v.x v.y t s).1.2 !=0) then (K false (tdec g.bs (g.sz v.band) (tr (2 * v.band+1)) v.x v.y t s).1.2 H1) else (bif (tdec g.bs (g.sz v.band) (tr (2 * v.band+1)) v.x v.y t s).1.1 then (hfad 2 (some ⟨M,0,none⟩) λ p18=>
ldP H1 p18 λ p19=>
hnil (some ⟨kb,i * 10,none⟩) λ p20=>
hfad 1 p20 λ p21=>
ldI .i64 H1 p21 λ n22=>
hnil (some ⟨kb,i * 10,none⟩) λ p23=>
hfad 2 p23 λ p24=>
ldI .i64 H1 p24 λ n25=>
ABz k p19 n22 n25 H1 λ n26 t27 H28=>
hfrz H28 (some ⟨M,0,none⟩) λ H29=>
hfad 0 (some ⟨M,0,none⟩) λ p30=>
bif isRo H29 p30 then (ldI .i64 H29 p30 λ n31=>
hnil (some ⟨kb,i * 10,none⟩) λ p32=>
hfad 3 p32 λ p33=>
hst1 H29 p33 (.bool true) λ H34=>
hnil (some ⟨kb,i * 10,none⟩) λ p35=>
hfad 4 p35 λ p36=>
hst1 H34 p36 (.int .i64 (IntKind.wrap .i64 (n31 - n26))) λ H37=>
K true 0 H37)
 else
   none) else (AAF k (λ H60=> K false 15 H60) (λ t61 n62 H63=> K t61 n62 H63) f (some ⟨pw,0,none⟩) (some ⟨kb,i * 10,none⟩) (some ⟨M,0,none⟩) (IntKind.wrap .i64 (t+1)) H1)))=rr->AAF k (λ H60=> K false 15 H60) (λ t61 n62 H63=> K t61 n62 H63) (f+1) (some ⟨pw,0,none⟩) (some ⟨kb,i * 10,none⟩) (some ⟨M,0,none⟩) t H=rr:=by
   intro R K rr h
   rw [AAF]
   unfold ACL
   exact AAA (go_i (O.sees.cell 0) (go_t (decide_eq_true (by omega)) (AAA (go_p mz (AAC (AAA (go_i m1 (AAC (AAA (go_i m2 ((e1 _ _).trans h)))))))))))
  have hTn:tnx (tdec g.bs (g.sz v.band) (tr (2 * v.band+1)) v.x v.y t s)=upT tr (2 * v.band+1) (tnx (tdec g.bs (g.sz v.band) (tr (2 * v.band+1)) v.x v.y t s)) (2 * v.band+1):=(ANa _ _ _).symm
  have hD:∃D,D=tdec g.bs (g.sz v.band) (tr (2 * v.band+1)) v.x v.y t s:=⟨_,rfl⟩
  obtain ⟨D,hD⟩:=hD
  have hleaf':D.1.2=0->D.1.1=((D.2.2.1 0 (ix (g.sz v.band).1 v.x v.y 0)).2.2 && decide ((D.2.2.1 0 (ix (g.sz v.band).1 v.x v.y 0)).2.1 < t))/\(t<=(D.2.2.1 0 (ix (g.sz v.band).1 v.x v.y 0)).2.1∨(D.2.2.1 0 (ix (g.sz v.band).1 v.x v.y 0)).2.2=true)/\leafL (tr (2 * v.band+1)) (g.sz v.band) v.x v.y<=(D.2.2.1 0 (ix (g.sz v.band).1 v.x v.y 0)).2.1:=by rw [hD];exact hleaf
  rw [←hD] at start S1 W1 hTn ⊢
  clear hleaf
  by_cases c1:D.1.2≠0
  . rw [if_pos c1]
    refine ⟨H1,λ R K=> start R K _ ?_,hl1,λ j hj h _=> Z1.2 j hj h,λ h=> (c1 h).elim⟩
    rw [show ((D.1.2:Int)==0)=false from beq_eq_false_iff_ne.2 c1]
    exact go_t (bne_iff_ne.2 c1) rfl
  rw [if_neg c1]
  have c10:D.1.2=0:=Classical.byContradiction c1
  obtain ⟨d1,d2,d3⟩:=hleaf' c10
  by_cases c2:D.1.1=true
  . rw [if_pos c2]
    rw [c2] at d1
    have d1':=d1.symm
    rw [Bool.and_eq_true] at d1'
    obtain ⟨d4,d5⟩:=d1'
    have d6:=of_decide_eq_true d5
    obtain ⟨H2,e2,o2⟩:=S1.valt (k:=k) (w:=1) V.b (by omega) hs0 v.x v.y
    rw [ANa] at e2
    have hv:valR (g.sz v.band).1 (g.sz v.band).2 (v.x:Int) (v.y:Int) (tnx D).2=((D.2.2.1 0 (ix (g.sz v.band).1 v.x v.y 0)).2.1,true):=ANp hx hy d4
    rw [hv] at e2
    have S2:=S1.keep o2 hn
    have O2:=O1.old o2 O1.lt
    obtain ⟨H3,e3,c3,r3,B3,n3⟩:=AY7 (o:=0) (s:=none) O2
    have S3:=S2.same (H':=H3) (λ j hj h _ _=> B3.2 j hj λ e=> h (by rw [e];exact zM)) hn
    obtain ⟨H4,e4,S4,B4⟩:=S3.put h0 (j:=3) (by omega) (x:= .bool true) (v':= { v with inc:=true }) rfl hn
    have hw:IntKind.wrap .i64 (g.pl v.band - (D.2.2.1 0 (ix (g.sz v.band).1 v.x v.y 0)).2.1)=g.pl v.band - (t - 1):=by
     rw [show (D.2.2.1 0 (ix (g.sz v.band).1 v.x v.y 0)).2.1=t - 1 from by omega,w64 (by omega) (by omega)]
    obtain ⟨H5,e5,S5,B5⟩:=S4.put (AL6 h0) (j:=4) (by omega) (x:= .int .i64 (g.pl v.band - (t - 1))) (v':= { v with inc:=true,planes:=g.pl v.band - (t - 1) }) rfl hn
    rw [AJl] at S5
    obtain ⟨_,zk,_⟩:=S.krow h0
    have W2:=W1.keep o2
    have hqM:∀a,qw=some a->a.block≠M/\a.block≠kb:=λ a ha=> ⟨λ e=> by have:=zr a ha;rw [e,zM] at this;omega,λ e=> by have:=zr a ha;rw [e,zk] at this;omega⟩
    have W5:=((W2.but B3 (λ e=> by rw [e,zM] at zw;omega) λ a ha=> (hqM a ha).1).but B4 (λ e=> by rw [e,zk] at zw;omega) λ a ha=> (hqM a ha).2).but B5 (λ e=> by rw [e,zk] at zw;omega) λ a ha=> (hqM a ha).2
    have m1':hcell H1 kb (i * 10+1)=some (.int .i64 (v.x:Int)):=S1.cell h0 (j:=1) (by omega)
    have m2':hcell H1 kb (i * 10+2)=some (.int .i64 (v.y:Int)):=S1.cell h0 (j:=2) (by omega)
    have mz':hcell H1 M 2=some (.pointer (some ⟨P (2 * v.band+1),0,none⟩)):=by rw [←hpZ];exact O1.sees.cell 2
    have b3:=B3.1;have b4:=B4.1;have b5:=B5.1;have l2:=o2.1
    refine ⟨H5,λ R K=> start R K _ ?_,by omega,λ j hj h h'=> ?_,λ _=> ⟨S5,W5⟩⟩
    . refine go_f (bne_eq_false_iff_eq.2 c10) (go_t c2 (AAA (go_p mz' (AAC (AAA (go_i m1' (AAC (AAA (go_i m2' ((e2 _ _).trans ((e3 _ _).trans ?_)))))))))))
      refine AAA (go_t (r3 _ _) (go_i (c3 0) (AAC (AAA ((e4 _ _).trans (AAC (AAA ?_)))))))
      rw [hw]
      exact (e5 _ _).trans rfl
    . have hjk:j≠kb:=λ e=> by rw [e,zk] at h;omega
      rw [B5.2 j (by omega) hjk,B4.2 j (by omega) hjk,B3.2 j (by omega) h',o2.2 j (by omega),Z1.2 j hj h]
  . rw [if_neg c2]
    have c20:D.1.1=false:=by simpa using c2
    have hlow':t+1 - 1<=leafL (upT tr (2 * v.band+1) (tnx D) (2 * v.band+1)) (g.sz v.band) v.x v.y:=by
     rw [ANa]
     show _<=(D.2.2.1 0 (ix (g.sz v.band).1 v.x v.y 0)).2.1
     rcases d2 with h|h
     . omega
     . rw [c20,h,Bool.true_and] at d1
       have:=of_decide_eq_false d1.symm
       omega
    obtain ⟨H2,e2,l2,f2,r2⟩:=ih f (t+1) (by omega) (by omega) (by omega) H1 (upT tr (2 * v.band+1) (tnx D)) D.2.2.2 S1 W1 (λ a ha=> by have:=hq a ha;omega) O1 hlow'
    rw [ANa] at e2 r2
    refine ⟨H2,λ R K=> start R K _ ?_,by omega,λ j hj h h'=> by rw [f2 j (by omega) h h',Z1.2 j hj h],λ h=> ?_⟩
    . refine go_f (bne_eq_false_iff_eq.2 c10) (go_f c20 ?_)
      rw [w64 (n:=t+1) (by omega) (by omega)]
      exact e2 R K
    . have:=r2 h
      rw [AS4] at this
      exact this
theorem AQO {k:Nat} (hk:100000 < k) (hn:n<=3) (G:GOk g n) {H:Heap} {tr:Trs} {s:Ps} (S:PS z g n b qb cb kb kz qk ck P H bl tr layer dec) {pw:Nat} {qw:Oa} (W:Rd H pw qw g.bs s) (zw:z pw=3) (zr:∀a,qw=some a->z a.block=4/\a.block < H.length) (zf:∀j,H.length<=j->z j=99) (hly:0<=layer/\layer<=15) {i:Nat} {v:Bs} (h0:bl[i]? =some v) (V:VOk g n v):
 ∃H',(∀(R:Type) (K:Bool->Int->Heap->Option R),AAj k (some ⟨b,0,none⟩) (some ⟨pw,0,none⟩) (some ⟨kb,i * 10,none⟩) H K=K (cB g layer tr v s).2.1 (cB g layer tr v s).1 H')/\Zk z H H'/\
  ((cB g layer tr v s).1=0->PS z g n b qb cb kb kz qk ck P H' (if (cB g layer tr v s).2.1=true then bl.set i { v with inc:=true,planes:=(cB g layer tr v s).2.2.2.1 } else bl) (cB g layer tr v s).2.2.1 layer dec/\Rd H' pw qw g.bs (cB g layer tr v s).2.2.2.2):=by
 have hx:=V.x
 have hy:=V.y
 have hs0:(g.sz v.band).1≠0:=by omega
 have hG:=G.pl v.band V.b
 have m3:hcell H kb (i * 10+3)=some (.bool v.inc):=S.cell h0 (j:=3) (by omega)
 unfold cB
 by_cases hi:v.inc=true
 . rw [if_pos hi]
   obtain ⟨H1,e1,W1,B1⟩:=ARX k W
   have S1:=S.rd B1 zw hn
   refine ⟨H1,λ R K=> ?_,Zk.of_but B1 (by omega),λ h=> ⟨?_,W1⟩⟩
   . unfold AAj ACl
     exact AAC (AAA (go_b m3 (go_t hi ((e1 _ _).trans rfl))))
   . have:bl.set i { v with inc:=true,planes:=v.planes }=bl:=by
      rw [show ({ v with inc:=true,planes:=v.planes }:Bs)=v from by cases v;simp only at hi;subst hi;rfl]
      exact AKj h0
     simp only [this,ite_self]
     exact S1
 rw [if_neg hi]
 have hi0:v.inc=false:=by simpa using hi
 have m0:hcell H kb (i * 10+0)=some (.int .i64 (v.band:Int)):=S.cell h0 (j:=0) (by omega)
 have m8:hcell H b 8=some (.slice qb n cb):=S.o.sees.cell 8
 obtain ⟨bb,oo,eb,mb⟩:=S.band V.b
 have mb0:hcell H bb (oo+0)=some (.int .i64 (g.pl v.band)):=mb 0 (by omega)
 have mb1:hcell H bb (oo+1)=some (.pointer (some ⟨P (2 * v.band),0,none⟩)):=by rw [mb 1 (by omega),←AKH (P (2 * v.band)) hs0];rfl
 have mb2:hcell H bb (oo+2)=some (.pointer (some ⟨P (2 * v.band+1),0,none⟩)):=by rw [mb 2 (by omega),←AKH (P (2 * v.band+1)) hs0];rfl
 obtain ⟨H1,hH1⟩:∃H1,H1=H++ [some (⟨[.int .i64 (g.pl v.band), .pointer (some ⟨P (2 * v.band),0,none⟩), .pointer (some ⟨P (2 * v.band+1),0,none⟩)],false,0⟩:Blk)]:=⟨_,rfl⟩
 have o1:Old H.length H H1:=hH1 ▸ Old.app _ _
 have O1:Owns H1 H.length [.int .i64 (g.pl v.band), .pointer (some ⟨P (2 * v.band),0,none⟩), .pointer (some ⟨P (2 * v.band+1),0,none⟩)] 0:=by rw [hH1];exact AAI H _
 have l1:H1.length=H.length+1:=by rw [hH1];simp
 have zM:=zf H.length (Nat.le_refl _)
 have S1:=S.keep o1 hn
 have W1:=W.keep o1
 have x1:hcell H1 kb (i * 10+1)=some (.int .i64 (v.x:Int)):=S1.cell h0 (j:=1) (by omega)
 have x2:hcell H1 kb (i * 10+2)=some (.int .i64 (v.y:Int)):=S1.cell h0 (j:=2) (by omega)
 have x10:hcell H1 b 10=some (.int .i64 layer):=S1.o.sees.cell 10
 have wl:IntKind.wrap .i64 (layer+1)=layer+1:=w64 (by omega) (by omega)
 have T0:=S1.tree (w:=0) V.b (by omega) hs0
 obtain ⟨H2,e2,S2,W2,Z2⟩:=S1.dect (k:=k) (by omega) hn W1 zw (λ a ha=> ⟨(zr a ha).1,by have:=(zr a ha).2;omega⟩) (w:=0) V.b (by omega) hs0 v.x v.y (layer+1)
 rw [Nat.add_zero] at e2 S2 W2 T0
 have O2:=Owns.zk O1 Z2 zM
 have hl2:=Z2.1
 have hleaf:(tdec g.bs (g.sz v.band) (tr (2 * v.band)) v.x v.y (layer+1) s).1.2=0->_:=λ h=> AOW (bs:=g.bs) (d:=(tr (2 * v.band)).1) (g:=(tr (2 * v.band)).2) (s:=s) hx hy (t:=layer+1) (by omega) (by omega) T0.dim h
 have start:∀(R:Type) (K:Bool->Int->Heap->Option R) (rr:Option R),AAL k (some ⟨b,0,none⟩) (some ⟨pw,0,none⟩) (some ⟨kb,i * 10,none⟩) (some ⟨H.length,0,none⟩) (tdec g.bs (g.sz v.band) (tr (2 * v.band)) v.x v.y (layer+1) s).1.1 (tdec g.bs (g.sz v.band) (tr (2 * v.band)) v.x v.y (layer+1) s).1.2 (λ p45 p46 p47 p48=>
AAV k p45 p46 p47 p48 H2 (λ p54 p55 p56 H57=>
AAF k (λ H60=>
K false 15 H60) (λ t61 n62 H63=>
K t61 n62 H63) k p54 p55 p56 1 H57) (λ t64 n65 H66=>
K t64 n65 H66)) (λ t67 n68=>
K t67 n68 H2)=rr->AAj k (some ⟨b,0,none⟩) (some ⟨pw,0,none⟩) (some ⟨kb,i * 10,none⟩) H K=rr:=by
  intro R K rr h
  unfold AAj ACl
  refine AAC (AAA (go_b m3 (go_f hi0 (AAC (AAA (go_l m8 (AAC (AAA (go_i m0 ((eb _ _).trans (AAJ mb0 (AAw mb1 (AAw mb2 (AAW hH1 rfl rfl ?_))))))))))))))
  refine AAA (go_p (O1.sees.cell 1) (AAC (AAA (go_i x1 (AAC (AAA (go_i x2 (AAC (AAA (go_i x10 ?_))))))))))
  rw [wl]
  exact (e2 _ _).trans h
 obtain ⟨D,hD⟩:∃D,D=tdec g.bs (g.sz v.band) (tr (2 * v.band)) v.x v.y (layer+1) s:=⟨_,rfl⟩
 have hleaf':D.1.2=0->D.1.1=((D.2.2.1 0 (ix (g.sz v.band).1 v.x v.y 0)).2.2 && decide ((D.2.2.1 0 (ix (g.sz v.band).1 v.x v.y 0)).2.1 < layer+1)):=by rw [hD];exact λ h=> (hleaf h).1
 rw [←hD] at start S2 W2 ⊢
 clear hleaf
 have Zo:Zk z H H2:=(Zk.of_old o1).trans Z2
 unfold cB2
 by_cases c1:D.1.2≠0
 . rw [if_pos c1]
   refine ⟨H2,λ R K=> start R K _ ?_,Zo,λ h=> (c1 h).elim⟩
   unfold AAL ABf
   exact go_t (bne_iff_ne.2 c1) rfl
 rw [if_neg c1]
 have c10:D.1.2=0:=Classical.byContradiction c1
 by_cases c2:D.1.1=false
 . rw [if_pos c2]
   refine ⟨H2,λ R K=> start R K _ ?_,Zo,λ h=> ⟨S2,W2⟩⟩
   unfold AAL ABf
   refine go_f (bne_eq_false_iff_eq.2 c10) (go_t (by rw [c2];rfl) ?_)
   rw [c10]
 rw [if_neg c2]
 have c20:D.1.1=true:=by simpa using c2
 have d1:=hleaf' c10
 rw [c20] at d1
 have d1':=d1.symm
 rw [Bool.and_eq_true] at d1'
 obtain ⟨d4,d5⟩:=d1'
 obtain ⟨H3,e3,o3⟩:=S2.valt (k:=k) (w:=0) V.b (by omega) hs0 v.x v.y
 rw [Nat.add_zero,ANa] at e3
 have hv:valR (g.sz v.band).1 (g.sz v.band).2 (v.x:Int) (v.y:Int) (tnx D).2=((D.2.2.1 0 (ix (g.sz v.band).1 v.x v.y 0)).2.1,true):=ANp hx hy d4
 rw [hv] at e3
 have S3:=S2.keep o3 hn
 have W3:=W2.keep o3
 have O3:=O2.old o3 O2.lt
 have hl3:=o3.1
 have y1:hcell H2 kb (i * 10+1)=some (.int .i64 (v.x:Int)):=S2.cell h0 (j:=1) (by omega)
 have y2:hcell H2 kb (i * 10+2)=some (.int .i64 (v.y:Int)):=S2.cell h0 (j:=2) (by omega)
 have y10:hcell H3 b 10=some (.int .i64 layer):=S3.o.sees.cell 10
 have Zo3:Zk z H H3:=Zo.trans (.of_old o3)
 have start2:∀(R:Type) (K:Bool->Int->Heap->Option R) (rr:Option R),(bif decide ((D.2.2.1 0 (ix (g.sz v.band).1 v.x v.y 0)).2.1 < layer) then K false 15 H3 else AAF k (λ H60=> K false 15 H60) (λ t61 n62 H63=> K t61 n62 H63) k (some ⟨pw,0,none⟩) (some ⟨kb,i * 10,none⟩) (some ⟨H.length,0,none⟩) 1 H3)=rr->AAj k (some ⟨b,0,none⟩) (some ⟨pw,0,none⟩) (some ⟨kb,i * 10,none⟩) H K=rr:=by
  intro R K rr h
  refine start R K _ ?_
  unfold AAL ABf
  refine go_f (bne_eq_false_iff_eq.2 c10) (go_f (by rw [c20];rfl) ?_)
  unfold AAV ADP
  refine AAA (go_p (O2.sees.cell 1) (AAC (AAA (go_i y1 (AAC (AAA (go_i y2 ((e3 _ _).trans (go_t rfl (AAC (AAA (go_i y10 ?_))))))))))))
  exact h
 have hll:leafL (tnx D) (g.sz v.band) v.x v.y=(D.2.2.1 0 (ix (g.sz v.band).1 v.x v.y 0)).2.1:=rfl
 rw [hll]
 by_cases c3:(D.2.2.1 0 (ix (g.sz v.band).1 v.x v.y 0)).2.1 < layer
 . rw [if_pos c3]
   exact ⟨H3,λ R K=> start2 R K _ (go_t (decide_eq_true c3) rfl),Zo3,λ h=> by cases h⟩
 rw [if_neg c3]
 have T1:=S3.tree (w:=1) V.b (by omega) hs0
 have hne:(2 * v.band+1)≠2 * v.band:=by omega
 rw [AQQ _ _ hne] at T1
 obtain ⟨H4,e4,l4,f4,r4⟩:=AcA hk hn zw (λ a ha=> (zr a ha).1) h0 V hG zM (pI:=some ⟨P (2 * v.band),0,none⟩) (pZ:=some ⟨P (2 * v.band+1),0,none⟩) rfl (g.pl v.band).toNat k 1 (by omega) (by omega) (by omega) H3 _ _ S3 W3 (λ a ha=> by have:=(zr a ha).2;omega) O3 (by rw [AQQ _ _ hne];exact T1.gok _ _)
 rw [AQQ _ _ hne] at e4 r4
 have Zo4:Zk z H H4:=⟨by have:=Zo3.1;omega,λ j hj h=> by rw [f4 j (by have:=Zo3.1;omega) h (by omega),Zo3.2 j hj h]⟩
 generalize hZ:zl g.bs (g.sz v.band) (g.pl v.band) v.x v.y (g.pl v.band).toNat 1 (tr (2 * v.band+1)) D.2.2.2=Z at e4 r4 ⊢
 unfold cB3
 by_cases c4:Z.1≠0
 . rw [if_pos c4]
   rw [show ((Z.1:Int)==0)=false from beq_eq_false_iff_ne.2 c4] at e4
   exact ⟨H4,λ R K=> start2 R K _ (go_f (decide_eq_false c3) (e4 _ _)),Zo4,λ h=> (c4 h).elim⟩
 . rw [if_neg c4]
   have c40:Z.1=0:=Classical.byContradiction c4
   rw [c40] at e4
   refine ⟨H4,λ R K=> start2 R K _ (go_f (decide_eq_false c3) (e4 _ _)),Zo4,λ _=> ?_⟩
   simp only [if_true]
   exact r4 c40
end
open Go.Proofs.Ytmanlfonppfhaaa.FW Go.IntWalk
abbrev Cr:=Int×Int×Oa×Nat×Nat
def cc (d:Cr):List Value:= [.int .i64 d.1, .int .i64 d.2.1, .slice d.2.2.1 d.2.2.2.1 d.2.2.2.2]
theorem ANi (d:Cr):(cc d).length=3:=rfl
def zc:Cr:=(0,0,none,0,0)
structure CR (H:Heap) (N:Nat) (d:Cr) (c:Con):Prop where
 p:d.1=c.1
 n:d.2.1=c.2.1
 l:d.2.2.2.1=c.2.2.length
 s:Shows H d.2.2.1 (ints c.2.2)
 b:∀a,d.2.2.1=some a->N<=a.block
def CLs (H:Heap) (N:Nat):List Cr->List Con->Prop
 | [], []=> True
 |d::ds,c::cs=> CR H N d c/\CLs H N ds cs
 |_,_=> False
theorem CLs.len {H:Heap} {N:Nat}:∀ {ds:List Cr} {cs:List Con},CLs H N ds cs->ds.length=cs.length:=by
 intro ds
 induction ds with
 |nil=> intro cs h;cases cs with
  |nil=> rfl
  |cons c cs=> exact h.elim
 |cons d ds ih=> intro cs h;cases cs with
  |nil=> exact h.elim
  |cons c cs=> rw [List.length_cons,List.length_cons,ih h.2]
theorem CLs.same {H H':Heap} {N:Nat} (s:∀j,j < H.length->N<=j->hblk H' j=hblk H j):∀ {ds:List Cr} {cs:List Con},CLs H N ds cs->CLs H' N ds cs:=by
 intro ds
 induction ds with
 |nil=> intro cs h;cases cs with
  |nil=> trivial
  |cons c cs=> exact h.elim
 |cons d ds ih=> intro cs h;cases cs with
  |nil=> exact h.elim
  |cons c cs=>
   refine ⟨⟨h.1.p,h.1.n,h.1.l, ?_,h.1.b⟩,ih h.2⟩
   rcases h.1.s with h1|⟨b',o,full,h1,h2,h3⟩
   . exact .inl h1
   . refine (show Shows H _ _ from .inr ⟨b',o,full,h1,h2,h3⟩).same λ a ha=> ?_
     have hb:=h.1.b a ha
     have hlt:=h2.lt
     rw [h1] at ha
     cases ha
     exact s _ hlt hb
theorem CLs.snoc {H:Heap} {N:Nat}:∀ {ds:List Cr} {cs:List Con} {d:Cr} {c:Con},CLs H N ds cs->CR H N d c->CLs H N (ds++ [d]) (cs++ [c]):=by
 intro ds
 induction ds with
 |nil=> intro cs d c h hc;cases cs with
  |nil=> exact ⟨hc,trivial⟩
  |cons c cs=> exact h.elim
 |cons d' ds ih=> intro cs d c h hc;cases cs with
  |nil=> exact h.elim
  |cons c' cs=> exact ⟨h.1,ih h.2 hc⟩
theorem ATk {α:Type} {f:α->List Value} {sz:Nat} (hf:∀a,(f a).length=sz):∀(l:List α) (i:Nat) (x y:α),l[i]? =some x->splice (l.flatMap f) (i * sz) (f y)=(l.set i y).flatMap f:=by
 intro l
 induction l with
 |nil=> intro i x y h;simp at h
 |cons a l ih=>
  intro i x y h
  cases i with
  |zero=>
   rw [List.flatMap_cons,List.set_cons_zero,List.flatMap_cons,Nat.zero_mul]
   unfold splice
   rw [List.take_zero,List.nil_append,Nat.zero_add,hf,List.drop_left' (hf a)]
  |succ i=>
   simp only [List.getElem?_cons_succ] at h
   rw [List.flatMap_cons,List.set_cons_succ,List.flatMap_cons,←ih i x y h]
   unfold splice
   have e1:(i+1) * sz=(f a).length+i * sz:=by rw [hf,Nat.succ_mul];omega
   rw [e1,List.take_length_add_append,Nat.add_assoc,List.drop_length_add_append]
   simp only [List.append_assoc]
theorem ATA {α:Type} (D:List α) (x y:α) (R:List α):(D++x::R).set D.length y=D++y::R:=by simp
theorem ATj {α:Type} (D:List α) (x:α) (R:List α):(D++x::R)[D.length]? =some x:=by simp
theorem Agp (n:Nat):mkCells [.int .i64 0, .int .i64 0, .slice none 0 0] n=(List.replicate n zc).flatMap cc:=by
 induction n with
 |zero=> rfl
 |succ n ih=> rw [List.replicate_succ,List.flatMap_cons,←ih];rfl
def fnd (cs:List Con):Bool:=cs.any λ c=> c.2.1 !=0
theorem ASB (cs:List Con) (c:Con):fnd (cs++ [c])=(fnd cs||(c.2.1 !=0)):=by unfold fnd;simp
theorem ARZ {α:Type} {l:List α} {i:Nat} {x y:α} (h:x∈l.set i y):x∈l∨x=y:=List.mem_or_eq_of_mem_set h
section
variable {z:Nat->Nat} {g:Sg} {n b:Nat} {qb:Oa} {cb kb kz:Nat} {qk:Oa} {ck:Nat} {P:Nat->Nat} {layer:Int} {dec:Bool}
theorem Aaz {k:Nat} (hk:100000 < k) (hgk:g.kk=k) (hn:n<=3) (G:GOk g n) {bl:List Bs} {H:Heap} {tr:Trs} {s:Ps} (S:PS z g n b qb cb kb kz qk ck P H bl tr layer dec) {pw:Nat} {qw:Oa} (W:Rd H pw qw g.bs s) (zw:z pw=3) (zr:∀a,qw=some a->z a.block=4/\a.block < H.length) {N lb:Nat} (zf:∀j,N<=j->z j=99) (hNl:N<=lb) (hly:0<=layer/\layer<=15) {v:Bs} {D:List Cr} {m:Nat} {cs:List Con} (h0:bl[D.length]? =some v) (V:VOk g n v) (hbl:bl.length=D.length+(m+1))
 (O:Owns H lb ((D++List.replicate (m+1) zc).flatMap cc) 0) (C:CLs H (lb+1) D cs) {bit:Int} (hbit:bit=0∨bit=1) (n8:Int):
 ∃H',(∀(R:Type) (KN:Oa->Oa->Oa->Nat->Nat->Int->Bool->Int->Int->Heap->Option R) (KR:Oa->Nat->Nat->Int->Int->Heap->Option R),AAm k (some ⟨b,0,none⟩) (some ⟨pw,0,none⟩) (some ⟨lb,0,none⟩) bl.length bl.length bit (fnd cs) n8 ((D.length:Nat):Int) H KN KR=if (rd1 g layer bit tr v s).1≠0 then KR none 0 0 0 (rd1 g layer bit tr v s).1 H' else KN (some ⟨b,0,none⟩) (some ⟨pw,0,none⟩) (some ⟨lb,0,none⟩) bl.length bl.length bit (fnd (cs++ [(rd1 g layer bit tr v s).2.2.1])) n8 ((D.length:Nat):Int) H')/\H.length<=H'.length/\(∀j,j < H.length->z j=99->j≠lb->hblk H' j=hblk H j)/\
  ((rd1 g layer bit tr v s).1=0->PS z g n b qb cb kb kz qk ck P H' (bl.set D.length (rd1 g layer bit tr v s).2.1) (rd1 g layer bit tr v s).2.2.2.1 layer dec/\Rd H' pw qw g.bs (rd1 g layer bit tr v s).2.2.2.2/\∃d,Owns H' lb ((D++d::List.replicate m zc).flatMap cc) 0/\CLs H' (lb+1) (D++ [d]) (cs++ [(rd1 g layer bit tr v s).2.2.1])):=by
 obtain ⟨eqk,zk,Ok⟩:=S.krow h0
 have zl:=zf lb hNl
 have hlbl:=O.lt
 have m9:hcell H b 9=some (.slice (some ⟨kb,0,none⟩) bl.length ck):=by rw [←eqk];exact S.o.sees.cell 9
 have m4:hcell H kb (D.length * 10+4)=some (.int .i64 v.planes):=S.cell h0 (j:=4) (by omega)
 have hid:∀(R:Type) (K:Oa->Option R),hidx (some ⟨kb,0,none⟩) bl.length ((D.length:Nat):Int) 10 K=K (some ⟨kb,D.length * 10,none⟩):=λ R K=> by
  unfold hidx;simp only;rw [if_pos ⟨by omega,by omega⟩,Int.toNat_natCast,Nat.zero_add]
 have hid3:∀(R:Type) (K:Oa->Option R),hidx (some ⟨lb,0,none⟩) bl.length ((D.length:Nat):Int) 3 K=K (some ⟨lb,D.length * 3,none⟩):=λ R K=> hidx3 (by omega) R K
 rw [List.replicate_succ] at O
 have hlen:((D++zc::List.replicate m zc).flatMap cc).length=(D.length+(m+1)) * 3:=by rw [AMj ANi];simp
 obtain ⟨H1,e1,O1,B1,n1⟩:=O.st1 (o:=D.length * 3+0) (by rw [hlen];omega) (.int .i64 v.planes)
 rw [ATl ANi _ _ _ (v.planes,0,none,0,0) (ATj D zc _) 0 _ (by omega) rfl,ATA] at O1
 have zlk:lb≠kb:=λ e=> by rw [e,zk] at zl;omega
 have zlw:lb≠pw:=λ e=> by rw [e,zw] at zl;omega
 have S1:=S.same (H':=H1) (λ j hj h _ _=> B1.2 j hj λ e=> h (by rw [e];exact zl)) hn
 have W1:=W.but B1 zlw.symm λ a ha e=> by have:=(zr a ha).1;rw [e,zl] at this;omega
 have b1:=B1.1
 have C1:=C.same (H':=H1) λ j hj h=> B1.2 j hj (by omega)
 have hfr1:∀j,j < H.length->z j=99->j≠lb->hblk H1 j=hblk H j:=λ j hj _ h=> B1.2 j hj h
 have zr1:∀a,qw=some a->z a.block=4/\a.block < H1.length:=λ a ha=> ⟨(zr a ha).1,by have:=(zr a ha).2;omega⟩
 have start:∀(R:Type) (KN:Oa->Oa->Oa->Nat->Nat->Int->Bool->Int->Int->Heap->Option R) (KR:Oa->Nat->Nat->Int->Int->Heap->Option R) (rr:Option R),(bif (bit==0) then (KN (some ⟨b,0,none⟩) (some ⟨pw,0,none⟩) (some ⟨lb,0,none⟩) bl.length bl.length bit (fnd cs) n8 ((D.length:Nat):Int) H1)
 else (AAj k (some ⟨b,0,none⟩) (some ⟨pw,0,none⟩) (some ⟨kb,D.length * 10,none⟩) H1 λ t22 n23 H24=>
bif (n23 !=0) then (KR none 0 0 0 n23 H24)
 else (bif (!t22) then (KN (some ⟨b,0,none⟩) (some ⟨pw,0,none⟩) (some ⟨lb,0,none⟩) bl.length bl.length bit (fnd cs) n8 ((D.length:Nat):Int) H24)
 else (AAd k (some ⟨b,0,none⟩) (some ⟨pw,0,none⟩) (some ⟨kb,D.length * 10,none⟩) H24 λ n25 n26 q27 l28 c29 n30 H31=>
hidx (some ⟨lb,0,none⟩) bl.length ((D.length:Nat):Int) 3 λ p32=>
hst H31 p32 [.int .i64 n25,.int .i64 n26,.slice q27 l28 c29] λ H33=>
bif (n30 !=0) then (KR none 0 0 0 n30 H33)
 else (KN (some ⟨b,0,none⟩) (some ⟨pw,0,none⟩) (some ⟨lb,0,none⟩) bl.length bl.length bit true n8 ((D.length:Nat):Int) H33)))))=rr->AAm k (some ⟨b,0,none⟩) (some ⟨pw,0,none⟩) (some ⟨lb,0,none⟩) bl.length bl.length bit (fnd cs) n8 ((D.length:Nat):Int) H KN KR=rr:=by
  intro R KN KR rr h
  unfold AAm AF9
  exact AAC (AAA (go_l m9 ((hid _ _).trans (AAC (AAA (go_i m4 ((hid3 _ _).trans (AAA ((e1 _ _).trans h)))))))))
 have none_:∀(Hx:Heap),Owns Hx lb ((D++(v.planes,0,none,0,0)::List.replicate m zc).flatMap cc) 0->CLs Hx (lb+1) D cs->∃d,Owns Hx lb ((D++d::List.replicate m zc).flatMap cc) 0/\CLs Hx (lb+1) (D++ [d]) (cs++ [((v.planes,0, []):Con)]):=λ Hx h1 h2=> ⟨_,h1,h2.snoc ⟨rfl,rfl,rfl, .inl rfl,λ a ha=> by cases ha⟩⟩
 have fz:fnd (cs++ [((v.planes,0, []):Con)])=fnd cs:=by rw [ASB];simp
 unfold rd1
 by_cases hb0:bit=0
 . rw [if_pos hb0]
   refine ⟨H1,λ R KN KR=> start R KN KR _ ?_,by omega,hfr1,λ _=> ⟨by rw [AKj h0];exact S1,W1,none_ H1 O1 C1⟩⟩
   simp only [fz]
   rw [if_neg (λ h=> h rfl)]
   exact go_t (beq_iff_eq.2 hb0) rfl
 rw [if_neg hb0]
 obtain ⟨H2,e2,Z2,r2⟩:=AQO hk hn G S1 W1 zw zr1 (λ j hj=> zf j (by omega)) hly h0 V
 have hcb:=AZF G (layer:=layer) (tr:=tr) (s:=s) V
 generalize cB g layer tr v s=c at e2 r2 hcb ⊢
 have b2:=Z2.1
 have hfr2:∀j,j < H.length->z j=99->j≠lb->hblk H2 j=hblk H j:=λ j hj h1 h=> by rw [Z2.2 j (by omega) h1,B1.2 j hj h]
 unfold r1C
 have start2:∀(R:Type) (KN:Oa->Oa->Oa->Nat->Nat->Int->Bool->Int->Int->Heap->Option R) (KR:Oa->Nat->Nat->Int->Int->Heap->Option R) (rr:Option R),(bif (c.1 !=0) then (KR none 0 0 0 c.1 H2)
 else (bif (!c.2.1) then (KN (some ⟨b,0,none⟩) (some ⟨pw,0,none⟩) (some ⟨lb,0,none⟩) bl.length bl.length bit (fnd cs) n8 ((D.length:Nat):Int) H2)
 else (AAd k (some ⟨b,0,none⟩) (some ⟨pw,0,none⟩) (some ⟨kb,D.length * 10,none⟩) H2 λ n25 n26 q27 l28 c29 n30 H31=>
hidx (some ⟨lb,0,none⟩) bl.length ((D.length:Nat):Int) 3 λ p32=>
hst H31 p32 [.int .i64 n25,.int .i64 n26,.slice q27 l28 c29] λ H33=>
bif (n30 !=0) then (KR none 0 0 0 n30 H33)
 else (KN (some ⟨b,0,none⟩) (some ⟨pw,0,none⟩) (some ⟨lb,0,none⟩) bl.length bl.length bit true n8 ((D.length:Nat):Int) H33))))=rr->AAm k (some ⟨b,0,none⟩) (some ⟨pw,0,none⟩) (some ⟨lb,0,none⟩) bl.length bl.length bit (fnd cs) n8 ((D.length:Nat):Int) H KN KR=rr:=λ R KN KR rr h=> start R KN KR rr (go_f (beq_eq_false_iff_ne.2 hb0) ((e2 _ _).trans h))
 by_cases c1:c.1≠0
 . rw [if_pos c1]
   refine ⟨H2,λ R KN KR=> start2 R KN KR _ ?_,by omega,hfr2,λ h=> (c1 h).elim⟩
   rw [if_pos c1]
   exact go_t (bne_iff_ne.2 c1) rfl
 rw [if_neg c1]
 have c10:c.1=0:=Classical.byContradiction c1
 obtain ⟨S2,W2⟩:=r2 c10
 obtain ⟨hp0,hp1⟩:=hcb c10
 have O2:Owns H2 lb ((D++(v.planes,0,none,0,0)::List.replicate m zc).flatMap cc) 0:=Owns.zk O1 Z2 zl
 have C2:=C1.same (H':=H2) λ j hj h=> Z2.2 j hj (zf j (by omega))
 by_cases c2:c.2.1=false
 . rw [if_pos c2]
   rw [if_neg (by rw [c2];simp)] at S2
   refine ⟨H2,λ R KN KR=> start2 R KN KR _ ?_,by omega,hfr2,λ _=> ⟨by rw [AKj h0];exact S2,W2,none_ H2 O2 C2⟩⟩
   simp only [fz]
   rw [if_neg (λ h=> h rfl)]
   exact go_f (bne_eq_false_iff_eq.2 c10) (go_t (by rw [c2];rfl) rfl)
 rw [if_neg c2]
 have c20:c.2.1=true:=by simpa using c2
 rw [if_pos c20] at S2
 have V1:VOk g n ({ v with inc:=true,planes:=c.2.2.2.1 }:Bs):=⟨V.b,V.x,V.y,hp0,hp1,V.q0,V.q1,V.l0,V.l1,V.b0,V.b1⟩
 obtain ⟨_,_,Ok2⟩:=S2.krow (AL6 h0)
 have hb:=S2.o.lt
 obtain ⟨n1,n2,q,l,cap,H3,e3,l3,f3,r3⟩:=ASZ hk hgk (b:=b) (AL6 h0) V1 (S2.o.sees.cell 3) (S2.o.sees.cell 4) (S2.o.sees.cell 5) (S2.o.sees.cell 6) (S2.o.sees.cell 7) hb (λ e=> by have:=S2.zb;rw [e,zw] at this;omega) (λ e=> by have:=S2.zb;rw [e,zk] at this;omega) Ok2 W2 (λ e=> by rw [e,zw] at zk;omega) (λ a ha=> ⟨by have:=(zr1 a ha).2;omega,λ e=> by have:=(zr1 a ha).1;rw [e,zw] at this;omega,λ e=> by have:=(zr1 a ha).1;rw [e,zk] at this;omega⟩)
 have eL:lB g ({ v with inc:=true,planes:=c.2.2.2.1 }:Bs).planes { v with inc:=true,planes:=c.2.2.2.1 } c.2.2.2.2=lB g c.2.2.2.1 v c.2.2.2.2:=rfl
 rw [eL] at e3 r3
 have hLb:=Abo (g:=g) (s:=c.2.2.2.2) V hp0 hp1
 generalize lB g c.2.2.2.1 v c.2.2.2.2=L at e3 r3 hLb ⊢
 have O3:Owns H3 lb ((D++(v.planes,0,none,0,0)::List.replicate m zc).flatMap cc) 0:=O2.same (f3 lb O2.lt zlw zlk)
 obtain ⟨H4,e4,O4,n4,s4⟩:=AKR (o:=D.length * 3) (vs:=cc (n1,n2,q,l,cap)) O3 (by rw [AMj ANi];simp [cc];omega) rfl
 rw [ATk ANi _ _ _ _ (ATj D _ _),ATA] at O4
 have e4':∀(R:Type) (K:Heap->Option R),hst H3 (some ⟨lb,D.length * 3,none⟩) [.int .i64 n1, .int .i64 n2, .slice q l cap] K=K H4:=e4
 have B4:But lb H3 H4:=⟨by omega,λ j _ hj=> s4 j hj⟩
 have hfr4:∀j,j < H.length->z j=99->j≠lb->hblk H4 j=hblk H j:=λ j hj h1 h=> by
  rw [s4 j h,f3 j (by omega) (λ e=> by rw [e,zw] at h1;omega) (λ e=> by rw [e,zk] at h1;omega),hfr2 j hj h1 h]
 unfold r1L
 by_cases c3:L.1≠0
 . rw [if_pos c3]
   refine ⟨H4,λ R KN KR=> start2 R KN KR _ ?_,by omega,hfr4,λ h=> (c3 h).elim⟩
   rw [if_pos c3]
   exact go_f (bne_eq_false_iff_eq.2 c10) (go_f (by rw [c20];rfl) ((e3 _ _).trans ((hid3 _ _).trans ((e4' _ _).trans (go_t (bne_iff_ne.2 c3) rfl)))))
 rw [if_neg c3]
 have c30:L.1=0:=Classical.byContradiction c3
 obtain ⟨x1,x2,x3,x4,x5,x6,x7⟩:=r3 c30
 obtain ⟨y1,_⟩:=hLb c30
 subst x1 x2 x3
 rw [AJl] at x6
 have S3:PS z g n b qb cb kb kz qk ck P H3 (bl.set D.length { v with inc:=true,planes:=c.2.2.2.1,passes:=v.passes+L.2.1,len:=v.len+L.2.2.1.sum,bits:=v.bits+L.2.2.2.1 }) c.2.2.1 layer dec:=by
  have:=S2.blocks (H':=H3) (AL6 h0) (v':= { v with inc:=true,planes:=c.2.2.2.1,passes:=v.passes+L.2.1,len:=v.len+L.2.2.1.sum,bits:=v.bits+L.2.2.2.1 }) (by rw [AJl];exact x6) (λ j hj h1 h2 h3 h4=> f3 j hj (λ e=> h3 (by rw [e];exact zw)) h1) hn
  rwa [AJl] at this
 have S4:=S3.same (H':=H4) (λ j hj h _ _=> s4 j λ e=> h (by rw [e];exact zl)) hn
 have W4:=x7.but B4 zlw.symm λ a ha e=> by have:=(zr a ha).1;rw [e,zl] at this;omega
 have C4:CLs H4 (lb+1) D cs:=C2.same λ j hj h=> by
  have hz:=zf j (by omega)
  rw [s4 j (by omega),f3 j hj (λ e=> by rw [e,zw] at hz;omega) (λ e=> by rw [e,zk] at hz;omega)]
 refine ⟨H4,λ R KN KR=> start2 R KN KR _ ?_,by omega,hfr4,λ _=> ⟨S4,W4,_,O4,C4.snoc ⟨rfl,rfl,rfl,x4.but B4 λ a ha e=> by have:=x5 a ha;omega,λ a ha=> by have:=x5 a ha;omega⟩⟩⟩
 rw [if_neg (λ h=> h rfl)]
 have ft:fnd (cs++ [((c.2.2.2.1,L.2.1,L.2.2.1):Con)])=true:=by rw [ASB,show (L.2.1 !=0)=true from bne_iff_ne.2 (by omega)];simp
 simp only [ft]
 exact go_f (bne_eq_false_iff_eq.2 c10) (go_f (by rw [c20];rfl) ((e3 _ _).trans ((hid3 _ _).trans ((e4' _ _).trans (go_f (bne_eq_false_iff_eq.2 c30) rfl)))))
theorem ARV {g:Sg} {layer bit:Int} {bl:List Bs} {tr:Trs} {s:Ps} {cs:List Con} (m:Nat) {i:Nat} {v:Bs} (hv:bl[i]? =some v) (h:(rd1 g layer bit tr v s).1≠0):rdA g layer bit (m+1) i bl tr s cs=((rd1 g layer bit tr v s).1,bl,tr,s,cs):=by rw [rdA,hv];exact if_pos h
theorem ATG {g:Sg} {layer bit:Int} {bl:List Bs} {tr:Trs} {s:Ps} {cs:List Con} (m:Nat) {i:Nat} {v:Bs} (hv:bl[i]? =some v) (h:¬ (rd1 g layer bit tr v s).1≠0):rdA g layer bit (m+1) i bl tr s cs=rdA g layer bit m (i+1) (bl.set i (rd1 g layer bit tr v s).2.1) (rd1 g layer bit tr v s).2.2.2.1 (rd1 g layer bit tr v s).2.2.2.2 (cs++ [(rd1 g layer bit tr v s).2.2.1]):=by rw [rdA,hv];exact if_neg h
theorem Aa4 {k:Nat} (hk:100000 < k) (hgk:g.kk=k) (hn:n<=3) (G:GOk g n) {pw:Nat} {qw:Oa} (zw:z pw=3) {N lb len:Nat} (hlen:len<=65536) (zr:∀a,qw=some a->z a.block=4/\a.block < lb) (zf:∀j,N<=j->z j=99) (hNl:N<=lb) (hly:0<=layer/\layer<=15) {bit:Int} (hbit:bit=0∨bit=1):
 ∀(m f i:Nat),m < f->len=i+m->∀(bl:List Bs) (H:Heap) (tr:Trs) (s:Ps) (D:List Cr) (cs:List Con),bl.length=len->D.length=i->PS z g n b qb cb kb kz qk ck P H bl tr layer dec->Rd H pw qw g.bs s->(∀v∈bl,VOk g n v)->Owns H lb ((D++List.replicate m zc).flatMap cc) 0->CLs H (lb+1) D cs->
 ∃H',(∀(R:Type) (KE:Oa->Oa->Oa->Nat->Nat->Int->Bool->Heap->Option R) (KR:Oa->Nat->Nat->Int->Int->Heap->Option R),AAT k KE KR f (some ⟨b,0,none⟩) (some ⟨pw,0,none⟩) (some ⟨lb,0,none⟩) len len bit (fnd cs) (len:Int) (i:Int) H=if (rdA g layer bit m i bl tr s cs).1≠0 then KR none 0 0 0 (rdA g layer bit m i bl tr s cs).1 H' else KE (some ⟨b,0,none⟩) (some ⟨pw,0,none⟩) (some ⟨lb,0,none⟩) len len bit (fnd (rdA g layer bit m i bl tr s cs).2.2.2.2) H')/\H.length<=H'.length/\(∀j,j < H.length->z j=99->j≠lb->hblk H' j=hblk H j)/\
  ((rdA g layer bit m i bl tr s cs).1=0->PS z g n b qb cb kb kz qk ck P H' (rdA g layer bit m i bl tr s cs).2.1 (rdA g layer bit m i bl tr s cs).2.2.1 layer dec/\Rd H' pw qw g.bs (rdA g layer bit m i bl tr s cs).2.2.2.1/\(∀v∈(rdA g layer bit m i bl tr s cs).2.1,VOk g n v)/\(rdA g layer bit m i bl tr s cs).2.1.length=len/\∃D',Owns H' lb (D'.flatMap cc) 0/\CLs H' (lb+1) D' (rdA g layer bit m i bl tr s cs).2.2.2.2/\D'.length=len):=by
 intro m
 induction m with
 |zero=>
  intro f i hf hi bl H tr s D cs hbl hD S W hV O C
  obtain ⟨f,rfl⟩:∃n',f=n'+1:=⟨f - 1,by omega⟩
  rw [rdA]
  refine ⟨H,λ R KE KR=> ?_,Nat.le_refl _,λ _ _ _ _=> rfl,λ _=> ⟨S,W,hV,hbl,D,by simpa using O,C,by omega⟩⟩
  rw [if_neg (λ h=> h rfl)]
  unfold AAT ACi
  exact go_f (decide_eq_false (by omega)) rfl
 |succ m ih=>
  intro f i hf hi bl H tr s D cs hbl hD S W hV O C
  obtain ⟨f,rfl⟩:∃n',f=n'+1:=⟨f - 1,by omega⟩
  obtain ⟨v,hv⟩:=AKx (l:=bl) (i:=i) (by omega)
  have V:=hV v (List.mem_of_getElem? hv)
  have hlb:=O.lt
  subst hD
  obtain ⟨H1,e1,l1,f1,r1⟩:=Aaz hk hgk hn G S W zw (λ a ha=> ⟨(zr a ha).1,by have:=(zr a ha).2;omega⟩) zf hNl hly hv V (by omega) O C hbit (len:Int)
  rw [hbl] at e1
  have hb1:=ATH G (layer:=layer) (bit:=bit) (tr:=tr) (s:=s) V
  have hE:=ARV (g:=g) (layer:=layer) (bit:=bit) (tr:=tr) (s:=s) (cs:=cs) m hv
  have hO:=ATG (g:=g) (layer:=layer) (bit:=bit) (tr:=tr) (s:=s) (cs:=cs) m hv
  obtain ⟨r,hr⟩:∃r,r=rd1 g layer bit tr v s:=⟨_,rfl⟩
  rw [←hr] at e1 r1 hb1 hE hO
  by_cases c1:r.1≠0
  . rw [hE c1]
    refine ⟨H1,λ R KE KR=> ?_,l1,f1,λ h=> (c1 h).elim⟩
    rw [if_pos c1,AAT]
    unfold ACi
    refine go_t (decide_eq_true (by omega)) ((e1 _ _ _).trans ?_)
    rw [if_pos c1]
  . rw [hO c1]
    have c10:r.1=0:=Classical.byContradiction c1
    obtain ⟨S1,W1,d,O1,C1⟩:=r1 c10
    obtain ⟨V1,_⟩:=hb1 c10
    obtain ⟨H2,e2,l2,f2,r2⟩:=ih f (D.length+1) (by omega) (by omega) (bl.set D.length r.2.1) H1 r.2.2.2.1 r.2.2.2.2 (D++ [d]) (cs++ [r.2.2.1]) (by rw [List.length_set];exact hbl) (by simp) S1 W1 (λ u hu=> by
     rcases ARZ hu with h|h
     . exact hV u h
     . rw [h];exact V1) (by rw [List.append_assoc];exact O1) C1
    refine ⟨H2,λ R KE KR=> ?_,by omega,λ j hj h h'=> by rw [f2 j (by omega) h h',f1 j hj h h'],r2⟩
    rw [AAT]
    unfold ACi
    refine go_t (decide_eq_true (by omega)) ((e1 _ _ _).trans ?_)
    rw [if_neg c1,w64 (n:=((D.length:Nat):Int)+1) (by omega) (by omega)]
    exact e2 R KE KR
end
open Go.Proofs.Ytmanlfonppfhaaa.FW Go.IntWalk
abbrev Hd:=Int×List Con×Int×List Bs×Trs
abbrev RA:=Int×List Bs×Trs×Ps×List Con
def hd3 (r:RA) (a:Rs):Hd:=if a.1.2≠0 then (a.1.2, [],0, [],r.2.2.1) else (0,r.2.2.2.2,a.1.1,r.2.1,r.2.2.1)
def hd2 (g:Sg) (bit:Int) (r:RA):Hd:=if r.1≠0 then (r.1, [],0, [],r.2.2.1) else if bit=1/\fnd r.2.2.2.2=false then (15, [],0, [],r.2.2.1) else hd3 r (rA g.bs r.2.2.2.1)
def hd1 (g:Sg) (layer:Int) (bl:List Bs) (tr:Trs) (r:Rs):Hd:=if r.1.2≠0 then (r.1.2, [],0, [],tr) else hd2 g r.1.1 (rdA g layer r.1.1 bl.length 0 bl tr r.2 [])
def hdr (g:Sg) (layer:Int) (bl:List Bs) (tr:Trs):Hd:=hd1 g layer bl tr (rget g.bs (0,0))
section
variable {z:Nat->Nat} {g:Sg} {n b:Nat} {qb:Oa} {cb kb kz:Nat} {qk:Oa} {ck:Nat} {P:Nat->Nat} {H H':Heap} {bl:List Bs} {tr:Trs} {layer:Int} {dec:Bool}
theorem PS.head (S:PS z g n b qb cb kb kz qk ck P H bl tr layer dec) (hn:n<=3) {layer':Int} {dec':Bool} (O:Owns H' b (sP' g.t qb n cb qk bl.length ck layer' dec') 0) (B:But b H H'):PS z g n b qb cb kb kz qk ck P H' bl tr layer' dec':=by
 have hne:∀j,z j≠0->j≠b:=λ j h e=> h (by rw [e];exact S.zb)
 refine ⟨O, ?_, ?_,λ j hj hz=> ?_,S.zb,S.zq⟩
 . rcases S.br with h|⟨b',o,full,h1,h2,h3⟩
   . exact .inl h
   . refine (show Shows H qb _ from .inr ⟨b',o,full,h1,h2,h3⟩).same λ a ha=> ?_
     have hlt:=h2.lt
     rw [h1] at ha;cases ha
     have:=S.zq _ h1
     exact B.2 _ hlt (hne _ (by rw [this];omega))
 . rcases S.row with h|⟨h1,h2,h3⟩
   . exact .inl h
   . exact .inr ⟨h1,h2,h3.same (B.2 _ h3.lt (hne _ (by rw [h2];omega)))⟩
 . exact (S.tr j hj hz).same λ i hi h=> B.2 _ hi (hne _ (by rw [h];omega))
theorem PS.zone {z':Nat->Nat} (S:PS z g n b qb cb kb kz qk ck P H bl tr layer dec) (s:∀j,z j≠99->z' j=z j) (hn:n<=3):PS z' g n b qb cb kb kz qk ck P H bl tr layer dec:=by
 refine ⟨S.o,S.br, ?_,λ j hj hz=> (S.tr j hj hz).zone λ i hi h=> (s i (by omega)).trans h,(s b (by rw [S.zb];omega)).trans S.zb,λ a ha=> ?_⟩
 . rcases S.row with h|⟨h1,h2,h3⟩
   . exact .inl h
   . exact .inr ⟨h1,(s kb (by omega)).trans h2,h3⟩
 . have h1:=S.zq a ha
   exact (s _ (by omega)).trans h1
theorem AYT {k:Nat} (hk:100000 < k) (hgk:g.kk=k) (hn:n<=3) (G:GOk g n) (S:PS z g n b qb cb kb kz qk ck P H bl tr layer dec) {pw:Nat} {qw:Oa} (W:Rd H pw qw g.bs (0,0)) (zw:z pw=3) (zr:∀a,qw=some a->z a.block=4/\a.block < H.length) (zf:∀j,H.length<=j->z j=99) (hly:0<=layer/\layer<=15) (hV:∀v∈bl,VOk g n v) (hlen:bl.length<=65536):
 ∃H',(∀(R:Type) (K:Oa->Nat->Nat->Int->Int->Heap->Option R),AB0 k (some ⟨b,0,none⟩) (some ⟨pw,0,none⟩) H K=if (hdr g layer bl tr).1≠0 then K none 0 0 0 (hdr g layer bl tr).1 H' else K (some ⟨H.length,0,none⟩) bl.length bl.length (hdr g layer bl tr).2.2.1 0 H')/\Zk z H H'/\
  ((hdr g layer bl tr).1=0->PS z g n b qb cb kb kz qk ck P H' (hdr g layer bl tr).2.2.2.1 (hdr g layer bl tr).2.2.2.2 (layer+1) true/\(∀v∈(hdr g layer bl tr).2.2.2.1,VOk g n v)/\(hdr g layer bl tr).2.2.2.1.length=bl.length/\∃D,Owns H' H.length (D.flatMap cc) 0/\CLs H' (H.length+1) D (hdr g layer bl tr).2.1/\D.length=bl.length):=by
 have m9:hcell H b 9=some (.slice qk bl.length ck):=S.o.sees.cell 9
 obtain ⟨H1,hH1⟩:∃H1,H1=H++ [some (⟨(List.replicate bl.length zc).flatMap cc,false,0⟩:Blk)]:=⟨_,rfl⟩
 have o1:Old H.length H H1:=hH1 ▸ Old.app _ _
 have l1:H1.length=H.length+1:=by rw [hH1];simp
 have O1:Owns H1 H.length ((List.replicate bl.length zc).flatMap cc) 0:=by rw [hH1];exact AAI H _
 have em:∀(R:Type) (K:Oa->Nat->Nat->Heap->Option R),hmk [.int .i64 0, .int .i64 0, .slice none 0 0] 40 H ((bl.length:Nat):Int) ((bl.length:Nat):Int) K=K (some ⟨H.length,0,none⟩) bl.length bl.length H1:=λ R K=> by
  unfold hmk
  rw [if_pos ⟨by omega,by omega,by omega,by omega⟩,hH1,←Agp];rfl
 have S1:=S.keep o1 hn
 have W1:=W.keep o1
 obtain ⟨H2,e2,W2,B2⟩:=ARX k W1
 have S2:=S1.rd B2 zw hn
 have b2:=B2.1
 have zl:=zf H.length (Nat.le_refl _)
 have O2:=O1.but B2 λ e=> by rw [←e,zl] at zw;omega
 have Z2:Zk z H H2:=(Zk.of_old o1).trans (.of_but B2 (by omega))
 unfold hdr
 have hbit:=ALN g.bs (0,0)
 generalize rget g.bs (0,0)=r at e2 W2 hbit ⊢
 unfold hd1
 have start:∀(R:Type) (K:Oa->Nat->Nat->Int->Int->Heap->Option R) (rr:Option R),(bif (r.1.2 !=0) then (K none 0 0 0 r.1.2 H2) else (AAT k (λ p32 p33 q34 l35 c36 n37 t38 H39=>
AAl k p32 p33 q34 l35 c36 n37 t38 (λ p50 p51 q52 l53 c54=>
AAp k p51 H39 λ n55 n56 H57=>
bif (n56 !=0) then (K none 0 0 0 n56 H57)
 else (hnil p50 λ p58=>
hfad 10 p58 λ p59=>
ldI .i64 H57 p59 λ n60=>
hnil p50 λ p61=>
hfad 10 p61 λ p62=>
hst1 H57 p62 (.int .i64 (IntKind.wrap .i64 (n60+1))) λ H63=>
hnil p50 λ p64=>
hfad 2 p64 λ p65=>
hst1 H63 p65 (.bool true) λ H66=>
K q52 l53 c54 n55 0 H66)) (λ q67 l68 c69 n70 n71=>
K q67 l68 c69 n70 n71 H39)) (λ q72 l73 c74 n75 n76 H77=>
K q72 l73 c74 n75 n76 H77) k (some ⟨b,0,none⟩) (some ⟨pw,0,none⟩) (some ⟨H.length,0,none⟩) bl.length bl.length r.1.1 false ((bl.length:Nat):Int) 0 H2))=rr->AB0 k (some ⟨b,0,none⟩) (some ⟨pw,0,none⟩) H K=rr:=by
  intro R K rr h
  have m9':r.1.2=0∨True:= .inr trivial
  have x9:hcell H2 b 9=some (.slice qk bl.length ck):=S2.o.sees.cell 9
  unfold AB0 AHm
  refine AAC (AAA (go_l m9 ((em _ _).trans ((e2 _ _).trans ?_))))
  refine Eq.trans ?_ h
  cases hc:(r.1.2 !=0) with
  |true=> rfl
  |false=> exact go_f rfl (AAC (AAA (go_l x9 rfl)))
 by_cases c1:r.1.2≠0
 . rw [if_pos c1]
   refine ⟨H2,λ R K=> start R K _ ?_,Z2,λ h=> (c1 h).elim⟩
   rw [if_pos c1]
   exact go_t (bne_iff_ne.2 c1) rfl
 rw [if_neg c1]
 have c10:r.1.2=0:=Classical.byContradiction c1
 obtain ⟨H3,e3,l3,f3,r3⟩:=Aa4 hk hgk hn G (layer:=layer) zw (N:=H.length) (lb:=H.length) hlen zr zf (Nat.le_refl _) hly (bit:=r.1.1) hbit.1 bl.length k 0 (by omega) (by omega) bl H2 tr r.2 [] [] rfl rfl S2 W2 hV O2 trivial
 have Z3:Zk z H H3:=⟨by have:=Z2.1;omega,λ j hj h=> by rw [f3 j (by have:=Z2.1;omega) h (by omega),Z2.2 j hj h]⟩
 simp only [Int.natCast_zero] at e3
 generalize rdA g layer r.1.1 bl.length 0 bl tr r.2 []=A at e3 r3 ⊢
 unfold hd2
 have start2:∀(R:Type) (K:Oa->Nat->Nat->Int->Int->Heap->Option R) (rr:Option R),(if A.1≠0 then K none 0 0 0 A.1 H3 else (AAl k (some ⟨b,0,none⟩) (some ⟨pw,0,none⟩) (some ⟨H.length,0,none⟩) bl.length bl.length r.1.1 (fnd A.2.2.2.2) (λ p50 p51 q52 l53 c54=>
AAp k p51 H3 λ n55 n56 H57=>
bif (n56 !=0) then (K none 0 0 0 n56 H57)
 else (hnil p50 λ p58=>
hfad 10 p58 λ p59=>
ldI .i64 H57 p59 λ n60=>
hnil p50 λ p61=>
hfad 10 p61 λ p62=>
hst1 H57 p62 (.int .i64 (IntKind.wrap .i64 (n60+1))) λ H63=>
hnil p50 λ p64=>
hfad 2 p64 λ p65=>
hst1 H63 p65 (.bool true) λ H66=>
K q52 l53 c54 n55 0 H66)) (λ q67 l68 c69 n70 n71=>
K q67 l68 c69 n70 n71 H3)))=rr->AB0 k (some ⟨b,0,none⟩) (some ⟨pw,0,none⟩) H K=rr:=λ R K rr h=> start R K rr (go_f (bne_eq_false_iff_eq.2 c10) ((e3 _ _ _).trans h))
 by_cases c2:A.1≠0
 . rw [if_pos c2]
   refine ⟨H3,λ R K=> start2 R K _ ?_,Z3,λ h=> (c2 h).elim⟩
   rw [if_pos c2,if_pos c2]
 rw [if_neg c2]
 have c20:A.1=0:=Classical.byContradiction c2
 obtain ⟨S3,W3,V3,n3,D,O3,C3,d3⟩:=r3 c20
 by_cases c3:r.1.1=1/\fnd A.2.2.2.2=false
 . rw [if_pos c3]
   refine ⟨H3,λ R K=> start2 R K _ ?_,Z3,λ h=> by cases h⟩
   rw [if_neg c2,if_pos (by simp)]
   unfold AAl AD5
   exact go_t (beq_iff_eq.2 c3.1) (go_t (by rw [c3.2];rfl) rfl)
 rw [if_neg c3]
 obtain ⟨H4,e4,W4,B4⟩:=ATR k W3
 have S4:=S3.rd B4 zw hn
 have O4:=O3.but B4 λ e=> by rw [←e,zl] at zw;omega
 have b4:=B4.1
 have C4:=C3.same (H':=H4) λ j hj h=> B4.2 j hj λ e=> by have:=zf j (by omega);rw [e,zw] at this;omega
 have Z4:Zk z H H4:=Z3.trans (.of_but B4 (by omega))
 have start3:∀(R:Type) (K:Oa->Nat->Nat->Int->Int->Heap->Option R) (rr:Option R),(bif ((rA g.bs A.2.2.2.1).1.2 !=0) then (K none 0 0 0 (rA g.bs A.2.2.2.1).1.2 H4)
 else (hnil (some ⟨b,0,none⟩) λ p58=>
hfad 10 p58 λ p59=>
ldI .i64 H4 p59 λ n60=>
hnil (some ⟨b,0,none⟩) λ p61=>
hfad 10 p61 λ p62=>
hst1 H4 p62 (.int .i64 (IntKind.wrap .i64 (n60+1))) λ H63=>
hnil (some ⟨b,0,none⟩) λ p64=>
hfad 2 p64 λ p65=>
hst1 H63 p65 (.bool true) λ H66=>
K (some ⟨H.length,0,none⟩) bl.length bl.length (rA g.bs A.2.2.2.1).1.1 0 H66))=rr->AB0 k (some ⟨b,0,none⟩) (some ⟨pw,0,none⟩) H K=rr:=by
  intro R K rr h
  refine start2 R K _ ?_
  rw [if_neg c2]
  unfold AAl AD5
  by_cases hr1:r.1.1=1
  . have hf:fnd A.2.2.2.2=true:=by
     cases hh:fnd A.2.2.2.2
     . exact (c3 ⟨hr1,hh⟩).elim
     . rfl
    exact go_t (beq_iff_eq.2 hr1) (go_f (by rw [hf];rfl) ((e4 _ _).trans h))
  . exact go_f (beq_eq_false_iff_ne.2 hr1) ((e4 _ _).trans h)
 generalize rA g.bs A.2.2.2.1=a at start3 W4 ⊢
 unfold hd3
 by_cases c4:a.1.2≠0
 . rw [if_pos c4]
   refine ⟨H4,λ R K=> start3 R K _ ?_,Z4,λ h=> (c4 h).elim⟩
   rw [if_pos c4]
   exact go_t (bne_iff_ne.2 c4) rfl
 rw [if_neg c4]
 have c40:a.1.2=0:=Classical.byContradiction c4
 have x10:hcell H4 b 10=some (.int .i64 layer):=S4.o.sees.cell 10
 have wl:IntKind.wrap .i64 (layer+1)=layer+1:=w64 (by omega) (by omega)
 obtain ⟨H5,e5,O5,B5,n5⟩:=S4.o.st1 (o:=10) (by simp [sP']) (.int .i64 (layer+1))
 have S5:PS z g n b qb cb kb kz qk ck P H5 A.2.1 A.2.2.1 (layer+1) dec:=S4.head hn O5 B5
 obtain ⟨H6,e6,O6,B6,n6⟩:=S5.o.st1 (o:=2) (by simp [sP']) (.bool true)
 have S6:PS z g n b qb cb kb kz qk ck P H6 A.2.1 A.2.2.1 (layer+1) true:=S5.head hn O6 B6
 have zb:=S.zb
 have hlb:H.length≠b:=λ e=> by rw [e,zb] at zl;omega
 refine ⟨H6,λ R K=> start3 R K _ ?_,Z4.trans ((Zk.of_but B5 (by omega)).trans (.of_but B6 (by omega))),λ _=> ⟨S6,V3,n3,D,(O4.but B5 hlb).but B6 hlb, ?_,d3⟩⟩
 . rw [if_neg (λ h=> h rfl)]
   refine go_f (bne_eq_false_iff_eq.2 c40) (AAC (AAA (go_i x10 (AAC (AAA ?_)))))
   rw [wl]
   exact (e5 _ _).trans (AAC (AAA ((e6 _ _).trans rfl)))
 . exact C4.same λ j hj h=> by
    have hjb:j≠b:=λ e=> by have:=zf j (by omega);rw [e,zb] at this;omega
    rw [B6.2 j (by omega) hjb,B5.2 j hj hjb]
end
open Go.Proofs.Ytmanlfonppfhaaa.FW Go.IntWalk
def Zj (z:Nat->Nat) (H H':Heap):Prop:=H.length<=H'.length/\∀j,j < H.length->(z j=99∨z j=1)->hblk H' j=hblk H j
theorem Zj.refl (z:Nat->Nat) (H:Heap):Zj z H H:=⟨Nat.le_refl _,λ _ _ _=> rfl⟩
theorem Zj.of_old {z:Nat->Nat} {H H':Heap} (o:Old H.length H H'):Zj z H H':=⟨o.1,λ j hj _=> o.2 j hj⟩
theorem Zj.of_but {z:Nat->Nat} {b:Nat} {H H':Heap} (o:But b H H') (h:z b≠99/\z b≠1):Zj z H H':=⟨o.1,λ j hj hz=> o.2 j hj λ e=> by subst e;omega⟩
structure Zs (z:Nat->Nat) (H:Heap) (z':Nat->Nat) (H':Heap):Prop where
 k:Zj z H H'
 e:∀i,i < H.length∨H'.length<=i->z' i=z i
theorem Zs.len {z z':Nat->Nat} {H H':Heap} (a:Zs z H z' H'):H.length<=H'.length:=a.k.1
theorem Zs.refl (z:Nat->Nat) (H:Heap):Zs z H z H:=⟨.refl _ _,λ _ _=> rfl⟩
theorem Zs.trans {z1 z2 z3:Nat->Nat} {H1 H2 H3:Heap} (a:Zs z1 H1 z2 H2) (b:Zs z2 H2 z3 H3):Zs z1 H1 z3 H3:=by
 have h1:=a.len
 have h2:=b.len
 refine ⟨⟨by omega,λ j hj h=> ?_⟩,λ i hi=> ?_⟩
 . rw [b.k.2 j (by omega) (by rw [a.e j (.inl hj)];exact h),a.k.2 j hj h]
 . rcases hi with hi|hi
   . rw [b.e i (.inl (by omega)),a.e i (.inl hi)]
   . rw [b.e i (.inr hi),a.e i (.inr (by omega))]
theorem Zs.of_k {z:Nat->Nat} {H H':Heap} (k:Zj z H H'):Zs z H z H':=⟨k,λ _ _=> rfl⟩
theorem Zs.of_old {z:Nat->Nat} {H H':Heap} (o:Old H.length H H'):Zs z H z H':= .of_k (.of_old o)
theorem Zs.zf {z z':Nat->Nat} {H H':Heap} (a:Zs z H z' H') (zf:∀j,H.length<=j->z j=99):∀j,H'.length<=j->z' j=99:=λ j hj=> by have:=a.len;rw [a.e j (.inr hj)];exact zf j (by omega)
theorem Owns.zs {z z':Nat->Nat} {H H':Heap} {b sz:Nat} {cs:List Value} (h:Owns H b cs sz) (k:Zs z H z' H') (hz:z b=99):Owns H' b cs sz:=h.same (k.k.2 b h.lt (.inl hz))
def sR' (t:Md) (qv:Oa) (n cv:Nat) (qi:Oa) (ci:Nat) (qm:Oa) (cm:Nat) (qk:Oa) (lk ck:Nat) (layer:Int) (dec:Bool):List Value:= [.bool true, .slice qv n cv, .bool t.1, .bool t.2.1, .bool t.2.2.1, .bool t.2.2.2.1, .bool t.2.2.2.2, .slice qi n ci, .slice qm n cm, .slice qk lk ck, .int .i64 layer, .bool false, .bool dec, .slice none 0 0, .slice none 0 0]
def ri (g:Sg) (P:Nat->Nat) (i:Nat):List Value:= [.pointer (pp (g.sz i) (P (2 * i)))]
def rm (g:Sg) (P:Nat->Nat) (i:Nat):List Value:= [.pointer (pp (g.sz i) (P (2 * i+1)))]
structure Qs where
 qv:Oa
 cv:Nat
 qi:Oa
 ci:Nat
 qm:Oa
 cm:Nat
 qk:Oa
 ck:Nat
structure RT (z:Nat->Nat) (g:Sg) (n:Nat) (b:Nat) (Q:Qs) (kb kz:Nat) (P:Nat->Nat) (H:Heap) (bl:List Bs) (tr:Trs) (layer:Int) (dec:Bool):Prop where
 o:Owns H b (sR' g.t Q.qv n Q.cv Q.qi Q.ci Q.qm Q.cm Q.qk bl.length Q.ck layer dec) 0
 vr:Shows H Q.qv (ints ((List.range n).map g.pl))
 ir:Shows H Q.qi ((List.range n).flatMap (ri g P))
 mr:Shows H Q.qm ((List.range n).flatMap (rm g P))
 row:bl= []∨Q.qk=some ⟨kb,0,none⟩/\z kb=2/\Owns H kb (bl.flatMap bkr) kz
 tr:∀j,j < 2 * n->(g.sz (j / 2)).1≠0->ZR z (5+j) H (P j) (g.sz (j / 2)).1 (g.sz (j / 2)).2 (tr j).1 (tr j).2
 zb:z b=0
 zv:∀a,Q.qv=some a->z a.block=1
 zi:∀a,Q.qi=some a->z a.block=1
 zm:∀a,Q.qm=some a->z a.block=1
theorem Shows.zn {z:Nat->Nat} {H H':Heap} {q:Oa} {cs:List Value} {c:Nat} (h:Shows H q cs) (hz:∀a,q=some a->z a.block=c) (s:∀j,j < H.length->z j=c->hblk H' j=hblk H j):Shows H' q cs:=by
 rcases h with h|⟨b',o,full,h1,h2,h3⟩
 . exact .inl h
 . refine (show Shows H q _ from .inr ⟨b',o,full,h1,h2,h3⟩).same λ a ha=> ?_
   have hlt:=h2.lt
   have:=hz a ha
   rw [h1] at ha;cases ha
   exact s _ hlt this
section
variable {z:Nat->Nat} {g:Sg} {n b:Nat} {Q:Qs} {kb kz:Nat} {P:Nat->Nat} {H H':Heap} {bl:List Bs} {tr:Trs} {layer:Int} {dec:Bool}
theorem RT.same (S:RT z g n b Q kb kz P H bl tr layer dec) (s:∀j,j < H.length->z j≠99->z j≠3->z j≠4->hblk H' j=hblk H j) (hn:n<=3):RT z g n b Q kb kz P H' bl tr layer dec:=by
 have s1:∀j,j < H.length->z j=1->hblk H' j=hblk H j:=λ j hj h=> s j hj (by omega) (by omega) (by omega)
 refine ⟨S.o.same (s b S.o.lt (by rw [S.zb];omega) (by rw [S.zb];omega) (by rw [S.zb];omega)),Shows.zn S.vr S.zv s1,Shows.zn S.ir S.zi s1,Shows.zn S.mr S.zm s1, ?_,λ j hj hz=> ?_,S.zb,S.zv,S.zi,S.zm⟩
 . rcases S.row with h|⟨h1,h2,h3⟩
   . exact .inl h
   . exact .inr ⟨h1,h2,h3.same (s kb h3.lt (by omega) (by omega) (by omega))⟩
 . exact (S.tr j hj hz).same λ i hi h=> s i hi (by omega) (by omega) (by omega)
theorem RT.keep (S:RT z g n b Q kb kz P H bl tr layer dec) (o:Old H.length H H') (hn:n<=3):RT z g n b Q kb kz P H' bl tr layer dec:=S.same (λ j hj _ _ _=> o.2 j hj) hn
theorem RT.rd {pw:Nat} (S:RT z g n b Q kb kz P H bl tr layer dec) (o:But pw H H') (hz:z pw=3) (hn:n<=3):RT z g n b Q kb kz P H' bl tr layer dec:=S.same (λ j hj _ h3 _=> o.2 j hj λ e=> h3 (by rw [e];exact hz)) hn
theorem RT.loc {t:Nat} (S:RT z g n b Q kb kz P H bl tr layer dec) (o:But t H H') (hz:z t=99) (hn:n<=3):RT z g n b Q kb kz P H' bl tr layer dec:=S.same (λ j hj h _ _=> o.2 j hj λ e=> h (by rw [e];exact hz)) hn
theorem RT.zone {z':Nat->Nat} (S:RT z g n b Q kb kz P H bl tr layer dec) (s:∀j,z j≠99->z' j=z j) (hn:n<=3):RT z' g n b Q kb kz P H bl tr layer dec:=by
 refine ⟨S.o,S.vr,S.ir,S.mr, ?_,λ j hj hz=> (S.tr j hj hz).zone λ i hi h=> (s i (by omega)).trans h,(s b (by rw [S.zb];omega)).trans S.zb,λ a ha=> ?_,λ a ha=> ?_,λ a ha=> ?_⟩
 . rcases S.row with h|⟨h1,h2,h3⟩
   . exact .inl h
   . exact .inr ⟨h1,(s kb (by omega)).trans h2,h3⟩
 . have h1:=S.zv a ha
   exact (s _ (by omega)).trans h1
 . have h1:=S.zi a ha
   exact (s _ (by omega)).trans h1
 . have h1:=S.zm a ha
   exact (s _ (by omega)).trans h1
theorem RT.krow (S:RT z g n b Q kb kz P H bl tr layer dec) {i:Nat} {v:Bs} (h0:bl[i]? =some v):Q.qk=some ⟨kb,0,none⟩/\z kb=2/\Owns H kb (bl.flatMap bkr) kz:=by
 rcases S.row with h|h
 . rw [h] at h0;simp at h0
 . exact h
theorem RT.cell (S:RT z g n b Q kb kz P H bl tr layer dec) {i:Nat} {v:Bs} (h0:bl[i]? =some v) {j:Nat} (hj:j < 8):hcell H kb (i * 8+j)=(bkr v)[j]? :=by
 obtain ⟨_,_,O⟩:=S.krow h0
 rw [O.sees.cell];exact ASC bkr 8 AQz _ i v h0 j hj
theorem RT.blocks (S:RT z g n b Q kb kz P H bl tr layer dec) {i:Nat} {v v':Bs} (h0:bl[i]? =some v) (O:Owns H' kb ((bl.set i v').flatMap bkr) kz) (s:∀j,j < H.length->j≠kb->z j≠99->z j≠3->z j≠4->hblk H' j=hblk H j) (hn:n<=3):RT z g n b Q kb kz P H' (bl.set i v') tr layer dec:=by
 obtain ⟨e1,zk,O0⟩:=S.krow h0
 have s1:∀j,j < H.length->z j=1->hblk H' j=hblk H j:=λ j hj h=> s j hj (λ e=> by rw [e,zk] at h;omega) (by omega) (by omega) (by omega)
 refine ⟨?_,Shows.zn S.vr S.zv s1,Shows.zn S.ir S.zi s1,Shows.zn S.mr S.zm s1, .inr ⟨e1,zk,O⟩,λ j hj hz=> ?_,S.zb,S.zv,S.zi,S.zm⟩
 . rw [List.length_set]
   exact S.o.same (s b S.o.lt (λ e=> by have:=S.zb;rw [e,zk] at this;cases this) (by rw [S.zb];omega) (by rw [S.zb];omega) (by rw [S.zb];omega))
 . exact (S.tr j hj hz).same λ i hi h=> s i hi (λ e=> by rw [e,zk] at h;omega) (by omega) (by omega) (by omega)
theorem RT.put (S:RT z g n b Q kb kz P H bl tr layer dec) {i:Nat} {v v':Bs} (h0:bl[i]? =some v) {j:Nat} (hj:j < 8) {x:Value} (hx:(bkr v).set j x=bkr v') (hn:n<=3):
 ∃H',(∀(R:Type) (K:Heap->Option R),hst1 H (some ⟨kb,i * 8+j,none⟩) x K=K H')/\RT z g n b Q kb kz P H' (bl.set i v') tr layer dec/\But kb H H':=by
 obtain ⟨e1,zk,O⟩:=S.krow h0
 have hlt:=(List.getElem?_eq_some_iff.1 h0).1
 obtain ⟨H',e,O',B,_⟩:=O.st1 (o:=i * 8+j) (by rw [AMj AQz];have:=Nat.mul_le_mul_right 8 (show i+1<=bl.length from hlt);omega) x
 rw [ATl AQz _ i v v' h0 j x hj hx] at O'
 exact ⟨H',e,S.blocks h0 O' (λ j hj h _ _ _=> B.2 j hj h) hn,B⟩
theorem RT.head (S:RT z g n b Q kb kz P H bl tr layer dec) (hn:n<=3) {layer':Int} {dec':Bool} (O:Owns H' b (sR' g.t Q.qv n Q.cv Q.qi Q.ci Q.qm Q.cm Q.qk bl.length Q.ck layer' dec') 0) (B:But b H H'):RT z g n b Q kb kz P H' bl tr layer' dec':=by
 have hne:∀j,z j≠0->j≠b:=λ j h e=> h (by rw [e];exact S.zb)
 have s1:∀j,j < H.length->z j=1->hblk H' j=hblk H j:=λ j hj h=> B.2 j hj (hne j (by omega))
 refine ⟨O,Shows.zn S.vr S.zv s1,Shows.zn S.ir S.zi s1,Shows.zn S.mr S.zm s1, ?_,λ j hj hz=> ?_,S.zb,S.zv,S.zi,S.zm⟩
 . rcases S.row with h|⟨h1,h2,h3⟩
   . exact .inl h
   . exact .inr ⟨h1,h2,h3.same (B.2 _ h3.lt (hne _ (by rw [h2];omega)))⟩
 . exact (S.tr j hj hz).same λ i hi h=> B.2 _ hi (hne _ (by rw [h];omega))
theorem RT.tree (S:RT z g n b Q kb kz P H bl tr layer dec) {i w:Nat} (hi:i < n) (hw:w<=1) (h0:(g.sz i).1≠0):ZR z (5+(2 * i+w)) H (P (2 * i+w)) (g.sz i).1 (g.sz i).2 (tr (2 * i+w)).1 (tr (2 * i+w)).2:=by
 have hd:(2 * i+w) / 2=i:=by omega
 have T:=S.tr (2 * i+w) (by omega) (by rw [hd];exact h0)
 rwa [hd] at T
theorem RT.dect {k:Nat} (hk:70000 < k) (S:RT z g n b Q kb kz P H bl tr layer dec) (hn:n<=3) (zf:∀j,H.length<=j->z j=99) {pw:Nat} {qw:Oa} {s:Ps} (W:Rd H pw qw g.bs s) (zw:z pw=3) (zr:∀a,qw=some a->z a.block=4/\a.block < H.length) {i w:Nat} (hi:i < n) (hw:w<=1) (h0:(g.sz i).1≠0) (x y:Nat) (t:Int):
 ∃H' z',(∀(R:Type) (K:Bool->Int->Heap->Option R),ABr k (some ⟨P (2 * i+w),0,none⟩) (some ⟨pw,0,none⟩) (x:Int) (y:Int) t H K=K (tdec g.bs (g.sz i) (tr (2 * i+w)) x y t s).1.1 (tdec g.bs (g.sz i) (tr (2 * i+w)) x y t s).1.2 H')/\RT z' g n b Q kb kz P H' bl (upT tr (2 * i+w) (tnx (tdec g.bs (g.sz i) (tr (2 * i+w)) x y t s))) layer dec/\Rd H' pw qw g.bs (tdec g.bs (g.sz i) (tr (2 * i+w)) x y t s).2.2.2/\Zs z H z' H':=by
 have hd:(2 * i+w) / 2=i:=by omega
 have T:=S.tree hi hw h0
 obtain ⟨H',z',e,T',W',hl,hz,fr⟩:=T.dec hk W (λ a ha=> (zr a ha).2) (by omega) (λ a ha=> by have:=(zr a ha).1;omega) (x:Int) (y:Int) t
 have fr':∀j,j < H.length->z j≠5+(2 * i+w)->z j≠3->hblk H' j=hblk H j:=λ j hj h1 h2=> fr j hj h1 λ e=> h2 (by rw [e];exact zw)
 have s1:∀j,j < H.length->z j=1->hblk H' j=hblk H j:=λ j hj h=> fr' j hj (by omega) (by omega)
 have hzz:∀j,z j≠99->z' j=z j:=λ j h=> hz j (.inl (by
  by_cases hj:j < H.length
  . exact hj
  . exact (h (zf j (by omega))).elim))
 have vq:∀ {q:Oa},(∀a,q=some a->z a.block=1)->∀a,q=some a->z' a.block=1:=λ h a ha=> by
  have:=h a ha
  rw [hzz _ (by omega)];exact this
 refine ⟨H',z',e,⟨S.o.same (fr' b S.o.lt (by rw [S.zb];omega) (by rw [S.zb];omega)),Shows.zn S.vr S.zv s1,Shows.zn S.ir S.zi s1,Shows.zn S.mr S.zm s1, ?_,λ j hj hs=> ?_,(hzz b (by rw [S.zb];omega)).trans S.zb,vq S.zv,vq S.zi,vq S.zm⟩,W',⟨⟨hl,λ j hj h=> fr' j hj (by omega) (by omega)⟩,hz⟩⟩
 . rcases S.row with h|⟨h1,h2,h3⟩
   . exact .inl h
   . exact .inr ⟨h1,(hzz kb (by omega)).trans h2,h3.same (fr' kb h3.lt (by omega) (by omega))⟩
 . by_cases hje:j=2 * i+w
   . subst hje
     rw [ANa,hd]
     exact T'
   . rw [AQQ _ _ hje]
     exact ((S.tr j hj hs).zone (z':=z') (c':=5+j) λ q hq h=> (hzz q (by omega)).trans h).same λ q hq h=> by
      have:=hz q (.inl hq)
      exact fr' q hq (by omega) (by omega)
theorem RT.valt {k:Nat} (S:RT z g n b Q kb kz P H bl tr layer dec) {i w:Nat} (hi:i < n) (hw:w<=1) (h0:(g.sz i).1≠0) (x y:Nat):
 ∀(R:Type) (K:Int->Bool->Option R),ADO k (some ⟨P (2 * i+w),0,none⟩) (x:Int) (y:Int) H K=K (valR (g.sz i).1 (g.sz i).2 x y (tr (2 * i+w)).2).1 (valR (g.sz i).1 (g.sz i).2 x y (tr (2 * i+w)).2).2:=(S.tree hi hw h0).val (x:Int) (y:Int)
theorem RT.pl (S:RT z g n b Q kb kz P H bl tr layer dec) {i:Nat} (hi:i < n):∃p,(∀(R:Type) (K:Oa->Option R),hidx Q.qv n (i:Int) 1 K=K p)/\∀(R:Type) (K:Int->Option R),ldI .i64 H p K=K (g.pl i):=by
 have:=AL8 S.vr (i:=i) (x:=g.pl i) (by rw [List.getElem?_map,List.getElem?_range hi];rfl)
 rw [List.length_map,List.length_range] at this
 exact this
theorem RT.inc (S:RT z g n b Q kb kz P H bl tr layer dec) {i:Nat} (hi:i < n):∃b' o,(∀(R:Type) (K:Oa->Option R),hidx Q.qi n (i:Int) 1 K=K (some ⟨b',o,none⟩))/\hcell H b' o=some (.pointer (pp (g.sz i) (P (2 * i)))):=by
 obtain ⟨b',o,e,m⟩:=ASc (f:=ri g P) (sz:=1) (λ _=> rfl) (by omega) S.ir (AMj (f:=ri g P) (sz:=1) (λ _=> rfl) _) (i:=i) (x:=i) (by rw [List.getElem?_range hi])
 rw [List.length_range] at e
 exact ⟨b',o,e,m 0 (by omega)⟩
theorem RT.mis (S:RT z g n b Q kb kz P H bl tr layer dec) {i:Nat} (hi:i < n):∃b' o,(∀(R:Type) (K:Oa->Option R),hidx Q.qm n (i:Int) 1 K=K (some ⟨b',o,none⟩))/\hcell H b' o=some (.pointer (pp (g.sz i) (P (2 * i+1)))):=by
 obtain ⟨b',o,e,m⟩:=ASc (f:=rm g P) (sz:=1) (λ _=> rfl) (by omega) S.mr (AMj (f:=rm g P) (sz:=1) (λ _=> rfl) _) (i:=i) (x:=i) (by rw [List.getElem?_range hi])
 rw [List.length_range] at e
 exact ⟨b',o,e,m 0 (by omega)⟩
end
end Go.Proofs.Ytmanlfonppfhaaa.Sh
