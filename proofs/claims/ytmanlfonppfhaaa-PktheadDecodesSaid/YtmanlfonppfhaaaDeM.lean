/- QsDecodes. -/
import Derived.Test.YtmanlfonppfhaaaDe7
set_option linter.unusedVariables false
set_option linter.unusedSimpArgs false
namespace Go.Proofs.Ytmanlfonppfhaaa.Sh
open Go.Proofs.Ytmanlfonppfhaaa.FW Go.IntWalk
abbrev dPoint:D:= .pair (.int .i64) (.pair (.int .i64) .nil)
abbrev dMode:D:= .pair .bool (.pair .bool (.pair .bool (.pair .bool (.pair .bool .nil))))
abbrev dCase:D:= .pair (.slc dPoint) (.pair (.slc (.int .i64)) (.pair dMode .nil))
theorem AYw {H:Heap}:∀(es:List (List Value)),(∀e∈es,Shp (.int .i64) H e)->∃xs:List Int,xs.length=es.length/\es.flatten=ints xs:=by
 intro es
 induction es with
 |nil=> intro _;exact ⟨[],rfl,rfl⟩
 |cons e es ih=>
  intro h
  obtain ⟨xs,h1,h2⟩:=ih λ x hx=> h x (List.mem_cons_of_mem _ hx)
  obtain ⟨a,rfl,ha⟩:=h e (by simp)
  exact ⟨a::xs,by simp [h1],by rw [List.flatten_cons,h2];rfl⟩
theorem Aa8 {H:Heap}:∀(es:List (List Value)),(∀e∈es,Shp dPoint H e)->∃gs:List (Int×Int),gs.length=es.length/\es.flatten=gs.flatMap pt:=by
 intro es
 induction es with
 |nil=> intro _;exact ⟨[],rfl,rfl⟩
 |cons e es ih=>
  intro h
  obtain ⟨gs,h1,h2⟩:=ih λ x hx=> h x (List.mem_cons_of_mem _ hx)
  obtain ⟨_,_,rfl,⟨a,rfl,_⟩,_,y,rfl,⟨b,rfl,_⟩,hn⟩:=h e (by simp)
  have hn':y= []:=hn
  subst hn'
  exact ⟨(a,b)::gs,by simp [h1],by rw [List.flatten_cons,h2];rfl⟩
theorem AZE {H:Heap} {vs:List Value} (h:Shp dCase H vs):∃(qg:Oa) (gs:List (Int×Int)) (cg:Nat) (qp:Oa) (pl:List Int) (cp:Nat) (t:Md),vs= [.slice qg gs.length cg, .slice qp pl.length cp, .bool t.1, .bool t.2.1, .bool t.2.2.1, .bool t.2.2.2.1, .bool t.2.2.2.2]/\Shows H qg (gs.flatMap pt)/\Shows H qp (ints pl):=by
 obtain ⟨_,_,rfl,⟨qg,cg,es,rfl,_,_,he,hs⟩,_,_,rfl,⟨qp,cp,es2,rfl,_,_,he2,hs2⟩,_,y,rfl,⟨_,_,rfl,⟨a,rfl⟩,_,_,rfl,⟨b,rfl⟩,_,_,rfl,⟨c,rfl⟩,_,_,rfl,⟨d,rfl⟩,_,y2,rfl,⟨e,rfl⟩,hn2⟩,hn⟩:=h
 have hn':y= []:=hn
 have hn2':y2= []:=hn2
 subst hn' hn2'
 obtain ⟨gs,g1,g2⟩:=Aa8 es he
 obtain ⟨pl,f1,f2⟩:=AYw es2 he2
 rw [g2] at hs
 rw [f2] at hs2
 exact ⟨qg,gs,cg,qp,pl,cp,(a,b,c,d,e),by rw [g1,f1];rfl,hs,hs2⟩
theorem decodes_in (H:Heap) (us:List Value) (h:AllLies H [(dCase,true),(.slc (.int .u8),false)] us):ALy Bool 1000000 us H asB=some true:=by
 obtain ⟨k,hk⟩:∃k,k=1000000:=⟨_,rfl⟩
 rw [←hk]
 have hk1:100000 < k:=by omega
 clear hk
 obtain ⟨cs,vs,rfl,hs,h⟩:=AVM h
 obtain ⟨qd,cd,es,vs2,rfl,_,_,he,hSd,h⟩:=AVK h
 obtain rfl:=AVL h
 obtain ⟨bs,hbl,hbf,hbw⟩:=AVb es he
 rw [hbf] at hSd
 rw [←hbl]
 obtain ⟨qg,gs,cg,qp,pl,cp,t,rfl,hg,hp⟩:=AZE hs
 show AGc k qg gs.length cg qp pl.length cp t.1 t.2.1 t.2.2.1 t.2.2.2.1 t.2.2.2.2 qd bs.length cd H (λ t H=> asB (.bool t) H)=some true
 obtain ⟨H1,hH1⟩:∃H1,H1=H++ [some (⟨[.slice qg gs.length cg, .slice qp pl.length cp, .bool t.1, .bool t.2.1, .bool t.2.2.1, .bool t.2.2.2.1, .bool t.2.2.2.2],false,0⟩:Blk)]:=⟨_,rfl⟩
 have o1:Old H.length H H1:=hH1 ▸ Old.app _ _
 have O1:Owns H1 H.length [.slice qg gs.length cg, .slice qp pl.length cp, .bool t.1, .bool t.2.1, .bool t.2.2.1, .bool t.2.2.2.1, .bool t.2.2.2.2] 0:=by rw [hH1];exact AAI H _
 have l1:H1.length=H.length+1:=by rw [hH1];simp
 obtain ⟨H2,hH2⟩:∃H2,H2=H1++ [some (⟨[.int .i64 0, .slice none 0 0, .slice none 0 0, .slice none 0 0, .slice qd bs.length cd],false,0⟩:Blk)]:=⟨_,rfl⟩
 have o2:Old H1.length H1 H2:=hH2 ▸ Old.app _ _
 have O2:Owns H2 H1.length [.int .i64 0, .slice none 0 0, .slice none 0 0, .slice none 0 0, .slice qd bs.length cd] 0:=by rw [hH2];exact AAI H1 _
 have l2:H2.length=H1.length+1:=by rw [hH2];simp
 have o02:Old H.length H H2:=o1.trans (o2.mono (by omega))
 obtain ⟨tt,H3,e3,o3,r3⟩:=Abv hk1 cg cp t (hg.keep o02) (hp.keep o02) O2
 have l3:=o3.1
 have o03:=o02.trans (o3.mono (by omega))
 have cells:∀ {G:Heap},Old H1.length H1 G->hcell G H.length 0=some (.slice qg gs.length cg)/\hcell G H.length 1=some (.slice qp pl.length cp)/\hcell G H.length 2=some (.bool t.1)/\hcell G H.length 3=some (.bool t.2.1)/\hcell G H.length 4=some (.bool t.2.2.1)/\hcell G H.length 5=some (.bool t.2.2.2.1)/\hcell G H.length 6=some (.bool t.2.2.2.2):=λ {G} o=> by
  have O:=O1.old o (by omega)
  exact ⟨O.sees.cell 0,O.sees.cell 1,O.sees.cell 2,O.sees.cell 3,O.sees.cell 4,O.sees.cell 5,O.sees.cell 6⟩
 obtain ⟨a0,a1,a2,a3,a4,a5,a6⟩:=cells (.refl _ _)
 have o13:Old H1.length H1 H3:=o2.trans (o3.mono (by omega))
 obtain ⟨b0,b1,b2,b3,b4,b5,b6⟩:=cells o13
 have front:∀(r:Option Bool),(bif (!tt) then (AFz λ t32=> (λ t H=> asB (.bool t) H) t32 H3)
 else (hfad 0 (some ⟨H.length,0,none⟩) λ p33=>
ldL H3 p33 λ q34 l35 c36=>
hfad 1 (some ⟨H.length,0,none⟩) λ p37=>
ldL H3 p37 λ q38 l39 c40=>
hfad 2 (some ⟨H.length,0,none⟩) λ p41=>
ldB H3 (pad p41 0) λ t42=>
ldB H3 (pad p41 1) λ t43=>
ldB H3 (pad p41 2) λ t44=>
ldB H3 (pad p41 3) λ t45=>
ldB H3 (pad p41 4) λ t46=>
AGC k q34 l35 c36 q38 l39 c40 t42 t43 t44 t45 t46 H3 λ p47 n48 H49=>
hfad 0 (some ⟨H.length,0,none⟩) λ p50=>
ldL H49 p50 λ q51 l52 c53=>
hfad 1 (some ⟨H.length,0,none⟩) λ p54=>
ldL H49 p54 λ q55 l56 c57=>
hfad 2 (some ⟨H.length,0,none⟩) λ p58=>
ldB H49 (pad p58 0) λ t59=>
ldB H49 (pad p58 1) λ t60=>
ldB H49 (pad p58 2) λ t61=>
ldB H49 (pad p58 3) λ t62=>
ldB H49 (pad p58 4) λ t63=>
AKS k q51 l52 c53 q55 l56 c57 t59 t60 t61 t62 t63 H49 λ p64 n65 H66=>
ABv k p47 qd bs.length cd H66 λ q67 l68 c69 n70 n71 H72=>
ACu k p64 qd bs.length cd H72 λ q73 l74 c75 n76 n77 H78=>
bif (n71==n77) then (bif (n70==n76) then (AMR k q67 l68 c69 q73 l74 c75 H78 λ t79=>
bif t79 then (AFz λ t80=>
(λ t H=> asB (.bool t) H) t80 H78)
 else ((λ t H=> asB (.bool t) H) false H78))
 else ((λ t H=> asB (.bool t) H) false H78))
 else ((λ t H=> asB (.bool t) H) false H78)))=r->AGc k qg gs.length cg qp pl.length cp t.1 t.2.1 t.2.2.1 t.2.2.2.1 t.2.2.2.2 qd bs.length cd H (λ t H=> asB (.bool t) H)=r:=λ r hr=> by
  unfold AGc AJP
  exact AAD hH1 (AAY a0 (AAY a1 (AAH a2 (AAH a3 (AAH a4 (AAH a5 (AAH a6 (AAD hH2 ((e3 _ _).trans hr)))))))))
 refine front _ ?_
 cases htt:tt with
 |false=> rfl
 |true=>
  have h400:=r3 htt
  have hB:Byts bs:=⟨hbw,by omega⟩
  obtain ⟨H4,p4,e4,o4,r4⟩:=AYc hk1 bs cg cp t (hg.keep o03) (hp.keep o03)
  have l4:=o4.1
  have o04:=o03.trans (o4.mono (by omega))
  obtain ⟨c0,c1,c2,c3,c4,c5,c6⟩:=cells (o13.trans (o4.mono (by omega)))
  obtain ⟨H5,p5,e5,o5,r5⟩:=Aa6 hk1 bs cg cp t (hg.keep o04) (hp.keep o04)
  have l5:=o5.1
  have o05:=o04.trans (o5.mono (by omega))
  refine go_f (c:= !true) rfl (AAA (go_l b0 (AAA (go_l b1 (AAA (AAH b2 (AAH b3 (AAH b4 (AAH b5 (AAH b6 ((e4 _ _).trans (AAA (go_l c0 (AAA (go_l c1 (AAA (AAH c2 (AAH c3 (AAH c4 (AAH c5 (AAH c6 ((e5 _ _).trans ?_))))))))))))))))))))))
  have fin:∀(G:Heap) (r:Option Bool),some true=r->(bif true then (AFz λ t80=> (λ t H=> asB (.bool t) H) t80 G) else ((λ t H=> asB (.bool t) H) false G))=r:=λ G r hr=> by rw [←hr];rfl
  rcases r4 with ⟨n4,rfl⟩|⟨z4,z,b,qb,cb,kb,qk,ck,P,rfl,hb,hz,S⟩
  . rcases r5 with ⟨n5,rfl⟩|⟨z5,_⟩
    . have d1:∀(R:Type) (K:Oa->Nat->Nat->Int->Int->Heap->Option R),ABv k none qd bs.length cd H5 K=K none 0 0 0 6 H5:=λ R K=> rfl
      have d2:∀(R:Type) (K:Oa->Nat->Nat->Int->Int->Heap->Option R),ACu k none qd bs.length cd H5 K=K none 0 0 0 6 H5:=λ R K=> rfl
      exact (d1 _ _).trans ((d2 _ _).trans (AAx (AAx ((ARv hk1 _ _ _).trans (fin _ _ rfl)))))
    . exact absurd z5 n4
  . rcases r5 with ⟨n5,_⟩|⟨_,y,b',Q,kb',P',rfl,hb',hy,hqv,T⟩
    . exact absurd z4 n5
    . obtain ⟨G,hV,hlen,hn⟩:=Age bs t k z4
      have S5:=S.keep o5 hn
      have hbl:=S.o.lt
      have hSd5:=hSd.keep o05
      obtain ⟨H6,lb,e6,l6,er6,ok6⟩:=ASW (g:=sgOf bs t (gs.zip pl) k) hk1 rfl hn G S5 (λ j hj=> hz j (.inr (by omega))) ⟨Int.le_refl 0,by omega⟩ hV hlen cd hSd5 hB
      have o56:OldX H5.length b H5 H6:=by
       by_cases hc:(hdr (sgOf bs t (gs.zip pl) k) 0 ((blks 0 gs).map bkz) (λ _=> nzT)).1≠0
       . have:=er6 hc
         exact ⟨this.1,λ j hj _=> this.2 j hj⟩
       . exact (ok6 (Classical.byContradiction hc)).1
      have T6:=T.same (H':=H6) (λ j hj hne _ _=> o56.2 j hj λ e=> hne (by rw [e];exact hy b (.inl hbl))) hn
      have hSd6:Shows H6 qd (byt bs):=by
       rcases hSd with h|⟨bd,od,full,hq,hsd,hx⟩
       . exact .inl h
       . have hd:=hsd.lt
         exact hSd5.same λ a ha=> by
          rw [hq] at ha;cases ha
          exact o56.2 _ (by simp only;omega) (by simp only;omega)
      obtain ⟨H7,q7,c7,e7,l7,er7,ok7⟩:=AST (g:=sgOf bs t (gs.zip pl) k) hk1 rfl hn G T6 (λ j hj=> hy j (.inr (by omega))) (λ a ha=> by have:=hqv a ha;omega) ⟨Int.le_refl 0,by omega⟩ hV hlen cd hSd6 hB
      have hbl':=T.o.lt
      refine (e6 _ _).trans ?_
      by_cases hc:(hdr (sgOf bs t (gs.zip pl) k) 0 ((blks 0 gs).map bkz) (λ _=> nzT)).1≠0
      . rw [if_pos hc]
        refine (e7 _ _).trans ?_
        rw [if_pos hc]
        exact AAx (AAx ((ARv hk1 _ _ _).trans (fin _ _ rfl)))
      . rw [if_neg hc]
        refine (e7 _ _).trans ?_
        rw [if_neg hc]
        have hc0:=Classical.byContradiction hc
        obtain ⟨_,hlb,_,_,_,D1,O6,C1,d1⟩:=ok6 hc0
        obtain ⟨x7,_,_,_,D2,O7,_,d2,C2⟩:=ok7 hc0
        have hcl:((blks 0 gs).map bkz).length=(hdr (sgOf bs t (gs.zip pl) k) 0 ((blks 0 gs).map bkz) (λ _=> nzT)).2.1.length:=by rw [←d1,C1.len]
        have k6:∀j,j < H6.length->lb<=j->hblk H7 j=hblk H6 j:=λ j hj h=> x7.2 j hj (by omega)
        have hs:=ATC (k:=k) hk1 (H:=H7) (q1:=some ⟨lb,0,none⟩) (q2:=q7) (D1:=D1) (D2:=D2) (O6.same (k6 lb O6.lt (Nat.le_refl _))).sees.shows O7 (CLx.of (C1.same λ j hj h=> k6 j hj (by omega))) C2 (AY0 G hV hc0) (by rw [←hcl];exact hlen) ((blks 0 gs).map bkz).length c7
        rw [←hcl] at hs
        exact AAx (AAx ((hs _ _).trans (fin _ _ rfl)))
end Go.Proofs.Ytmanlfonppfhaaa.Sh
