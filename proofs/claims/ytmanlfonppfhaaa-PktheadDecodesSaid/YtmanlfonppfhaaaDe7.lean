/- QsDecodes, part 7. -/
import Derived.Test.YtmanlfonppfhaaaDe6
set_option linter.unusedVariables false
set_option linter.unusedSimpArgs false
namespace Go.Proofs.Ytmanlfonppfhaaa.Sh
open Go.Proofs.Ytmanlfonppfhaaa.FW Go.IntWalk
theorem Aay {k:Nat} {H:Heap} {b:Nat} {x y:Int} (m0:hcell H b 0=some (.int .i64 x)) (m1:hcell H b 1=some (.int .i64 y)) (q1:Oa) (l2 c3:Nat) (q4:Oa) (l5 c6:Nat) (p7:Oa) (n8 n9:Int) (R:Type) (K:Oa->Nat->Nat->Oa->Nat->Nat->Oa->Int->Int->Oa->Bool->Option R):
 AEJ k q1 l2 c3 q4 l5 c6 p7 n8 n9 (some ⟨b,0,none⟩) H K=K q1 l2 c3 q4 l5 c6 p7 n8 n9 (some ⟨b,0,none⟩) (decide (x=0/\y=0)):=by
 unfold AEJ AMu
 refine AAA (go_i m0 ?_)
 by_cases hx:x=0
 . refine go_t (beq_iff_eq.2 hx) (AAA (go_i m1 ?_))
   rw [show decide (x=0/\y=0)=(y==0) from by simp [hx];rfl]
 . rw [show decide (x=0/\y=0)=false from decide_eq_false (λ h=> hx h.1)]
   exact go_f (beq_eq_false_iff_ne.2 hx) rfl
theorem Aax {k:Nat} {H:Heap} {b:Nat} {x y:Int} (m0:hcell H b 0=some (.int .i64 x)) (m1:hcell H b 1=some (.int .i64 y)) {qp pv:Oa} {lp cp:Nat} {i v:Int} (ep:∀(R:Type) (K:Oa->Option R),hidx qp lp i 1 K=K pv) (ev:∀(R:Type) (K:Int->Option R),ldI .i64 H pv K=K v) (q1:Oa) (l2 c3:Nat) (p7:Oa) (n8:Int) (t:Bool) (R:Type) (K:Oa->Nat->Nat->Oa->Nat->Nat->Oa->Int->Int->Oa->Option R) (KR:Oa->Int->Option R):
 AEI k q1 l2 c3 qp lp cp p7 n8 i (some ⟨b,0,none⟩) t H K KR=bif (t||decide (1<=x/\x<=4096/\1<=y/\y<=4096)) && decide (0<=v/\v<=60) then K q1 l2 c3 qp lp cp p7 n8 i (some ⟨b,0,none⟩) else KR none 2:=by
 unfold AEI AMt
 have key:∀(A:Option R),(hidx qp lp i 1 λ p18=> ldI .i64 H p18 λ n19=> bif decide (n19 < 0) then (KR none 2) else (hidx qp lp i 1 λ p20=> ldI .i64 H p20 λ n21=> bif decide (n21 > 60) then (KR none 2) else A))=bif decide (0<=v/\v<=60) then A else KR none 2:=λ A=> by
  refine (ep _ _).trans ((ev _ _).trans ?_)
  by_cases h1:v < 0
  . rw [decide_eq_false (show ¬ (0<=v/\v<=60) from λ h=> by omega)]
    exact go_t (decide_eq_true h1) rfl
  refine go_f (decide_eq_false h1) ((ep _ _).trans ((ev _ _).trans ?_))
  by_cases h2:v > 60
  . rw [decide_eq_false (show ¬ (0<=v/\v<=60) from λ h=> by omega)]
    exact go_t (decide_eq_true h2) rfl
  . rw [decide_eq_true (show 0<=v/\v<=60 from by omega)]
    exact go_f (decide_eq_false h2) rfl
 cases t with
 |true=> exact key _
 |false=>
  refine go_t rfl (AAA (go_i m0 ?_))
  rw [Bool.false_or]
  by_cases h1:x < 1
  . rw [decide_eq_false (show ¬ (1<=x/\x<=4096/\1<=y/\y<=4096) from λ h=> by omega)]
    exact go_t (decide_eq_true h1) rfl
  refine go_f (decide_eq_false h1) (AAA (go_i m0 ?_))
  by_cases h2:x > 4096
  . rw [decide_eq_false (show ¬ (1<=x/\x<=4096/\1<=y/\y<=4096) from λ h=> by omega)]
    exact go_t (decide_eq_true h2) rfl
  refine go_f (decide_eq_false h2) (AAA (go_i m1 ?_))
  by_cases h3:y < 1
  . rw [decide_eq_false (show ¬ (1<=x/\x<=4096/\1<=y/\y<=4096) from λ h=> by omega)]
    exact go_t (decide_eq_true h3) rfl
  refine go_f (decide_eq_false h3) (AAA (go_i m1 ?_))
  by_cases h4:y > 4096
  . rw [decide_eq_false (show ¬ (1<=x/\x<=4096/\1<=y/\y<=4096) from λ h=> by omega)]
    exact go_t (decide_eq_true h4) rfl
  rw [decide_eq_true (show 1<=x/\x<=4096/\1<=y/\y<=4096 from by omega),Bool.true_and]
  exact go_f (decide_eq_false h4) (key _)
theorem rnl1 (k:Nat) {qg qp:Oa} {cg cp:Nat} {zs:List Gd} (hl:zs.length<=3) (pm:Oa):∀(m n i:Nat) (t:Int),m < n->zs.length=i+m->0<=t->t<=i * 16777216->∀(H:Heap),Shows H qg ((zs.map Prod.fst).flatMap pt)->Shows H qp (ints (zs.map Prod.snd))->
 ∃H',(∀(R:Type) (KE:Oa->Nat->Nat->Oa->Nat->Nat->Oa->Int->Heap->Option R) (KR:Oa->Int->Heap->Option R),ACe k KE KR n qg zs.length cg qp zs.length cp pm t (i:Int) H=bif (zs.drop i).all okZ then KE qg zs.length cg qp zs.length cp pm (t+sumZ (zs.drop i)) H' else KR none 2 H')/\Old H.length H H':=by
 intro m
 induction m with
 |zero=>
  intro n i t hn hj t0 t1 H hg hp
  obtain ⟨n,rfl⟩:∃n',n=n'+1:=⟨n - 1,by omega⟩
  refine ⟨H,λ R KE KR=> ?_, .refl _ _⟩
  unfold ACe ALo
  rw [List.drop_eq_nil_of_le (by omega)]
  exact go_f (decide_eq_false (by omega)) (by rw [show t+sumZ []=t from by simp [sumZ]];rfl)
 |succ m ih=>
  intro n i t hn hj t0 t1 H hg hp
  obtain ⟨n,rfl⟩:∃n',n=n'+1:=⟨n - 1,by omega⟩
  obtain ⟨z,hz⟩:=AKx (l:=zs) (i:=i) (by omega)
  obtain ⟨bb,oo,e1,m0,m1⟩:=AQs hg (i:=i) (g:=z.1) (by rw [List.getElem?_map,hz];rfl)
  rw [List.length_map] at e1
  obtain ⟨H1,hH1⟩:∃H1,H1=H++ [some (⟨[.int .i64 z.1.1, .int .i64 z.1.2],false,0⟩:Blk)]:=⟨_,rfl⟩
  have o1:Old H.length H H1:=hH1 ▸ Old.app _ _
  have O1:Owns H1 H.length [.int .i64 z.1.1, .int .i64 z.1.2] 0:=by rw [hH1];exact AAI H _
  have x0:hcell H1 H.length 0=some (.int .i64 z.1.1):=O1.sees.cell 0
  have x1:hcell H1 H.length 1=some (.int .i64 z.1.2):=O1.sees.cell 1
  obtain ⟨pv,ep,ev⟩:=AL8 (hp.keep o1) (i:=i) (x:=z.2) (by rw [List.getElem?_map,hz];rfl)
  rw [List.length_map] at ep
  have hd:(zs.drop i).all okZ=(okZ z && (zs.drop (i+1)).all okZ):=by rw [AIr hz,List.all_cons]
  have hoz:okZ z=((decide (z.1.1=0/\z.1.2=0)||decide (1<=z.1.1/\z.1.1<=4096/\1<=z.1.2/\z.1.2<=4096)) && decide (0<=z.2/\z.2<=60)):=rfl
  have front:∀(R:Type) (KE:Oa->Nat->Nat->Oa->Nat->Nat->Oa->Int->Heap->Option R) (KR:Oa->Int->Heap->Option R),ACe k KE KR (n+1) qg zs.length cg qp zs.length cp pm t (i:Int) H=bif okZ z then ACe k KE KR n qg zs.length cg qp zs.length cp pm (IntKind.wrap .i64 (t+(IntKind.wrap .i64 (z.1.1 * z.1.2)))) (IntKind.wrap .i64 ((i:Int)+1)) H1 else KR none 2 H1:=λ R KE KR=> by
   rw [ACe]
   unfold ALo
   refine go_t (decide_eq_true (by omega)) ((e1 _ _).trans (AAJ m0 (AAJ m1 (AAW hH1 rfl rfl ?_))))
   refine (Aay x0 x1 _ _ _ _ _ _ _ _ _ _ _).trans ((Aax x0 x1 ep ev _ _ _ _ _ _ _ _ _).trans ?_)
   rw [←hoz]
   cases okZ z with
   |false=> rfl
   |true=> exact go_t rfl (AAA (go_i x0 (AAA (go_i x1 rfl))))
  cases hk:okZ z with
  |false=>
   refine ⟨H1,λ R KE KR=> ?_,o1⟩
   rw [front,hk,hd,hk];rfl
  |true=>
   have hk':=hk
   unfold okZ at hk'
   simp only [Bool.and_eq_true] at hk'
   have hm:=ANr hk'.1
   obtain ⟨H2,e2,o2⟩:=ih n (i+1) (t+z.1.1 * z.1.2) (by omega) (by omega) (by omega) (by push_cast;omega) H1 (hg.keep o1) (hp.keep o1)
   refine ⟨H2,λ R KE KR=> ?_,o1.trans (o2.mono o1.1)⟩
   rw [front,hk,hd,hk,w64 (n:=z.1.1 * z.1.2) (by omega) (by omega),w64 (n:=t+z.1.1 * z.1.2) (by omega) (by omega),w64 (n:=(i:Int)+1) (by omega) (by omega)]
   have hs:t+sumZ (zs.drop i)=t+z.1.1 * z.1.2+sumZ (zs.drop (i+1)):=by
    rw [AIr hz];simp [sumZ];omega
   rw [hs,Bool.true_and]
   exact e2 R KE KR
def rbc (v:Bk):List Value:= [.int .i64 (v.1:Int), .int .i64 (v.2.1:Int), .int .i64 (v.2.2:Int), .bool false, .int .i64 0, .int .i64 0, .int .i64 0, .int .i64 3]
def sR (t:Md) (qv:Oa) (lv cv:Nat) (qi:Oa) (li ci:Nat) (qm:Oa) (lm cm:Nat) (qk:Oa) (lk ck:Nat):List Value:= [.bool true, .slice qv lv cv, .bool t.1, .bool t.2.1, .bool t.2.2.1, .bool t.2.2.2.1, .bool t.2.2.2.2, .slice qi li ci, .slice qm lm cm, .slice qk lk ck, .int .i64 0, .bool false, .bool false, .slice none 0 0, .slice none 0 0]
abbrev RS (N b:Nat) (H:Heap) (t:Md) (qv:Oa) (lv cv:Nat) (n:Nat) (qi:Oa) (ci:Nat) (Xi:List Value) (qm:Oa) (cm:Nat) (Xm:List Value) (qk:Oa) (ck:Nat) (L:List Bk):Prop:=
 Gw N b H (sR t qv lv cv qi n ci qm n cm qk L.length ck) [⟨7,1,qi,n,ci,Xi⟩,⟨8,1,qm,n,cm,Xm⟩,⟨9,8,qk,L.length,ck,L.flatMap rbc⟩]
section
variable {N b w h:Nat} {t:Md} {qv:Oa} {lv cv nn:Nat} {qi:Oa} {ci:Nat} {Xi:List Value} {qm:Oa} {cm:Nat} {Xm:List Value} {qg:Oa} {cg:Nat} {gs:List (Int×Int)} {M:List Bk}
theorem rnl6 (k:Nat) (i:Nat) (hgi:gs[i]? =some ((w:Int),(h:Int))) (hwh:w * h<=65536) (hM:M.length<=65536) (hNb:N<=b) (y:Nat) (hy:y < h):∀(m n x:Nat),m < n->w=x+m->∀(H:Heap) (qk:Oa) (ck:Nat),RS N b H t qv lv cv nn qi ci Xi qm cm Xm qk ck (M++blkN i w (y * w+x))->N<=H.length->ShB N H qg (gs.flatMap pt)->
 ∃H' qk' ck',(∀(R:Type) (KE:Oa->Nat->Nat->Oa->Int->Int->Heap->Option R),ADG k KE n qg gs.length cg (some ⟨b,0,none⟩) (i:Int) (y:Int) (x:Int) H=KE qg gs.length cg (some ⟨b,0,none⟩) (i:Int) (y:Int) H')/\RS N b H' t qv lv cv nn qi ci Xi qm cm Xm qk' ck' (M++blkN i w ((y+1) * w))/\Old N H H'/\(∀x,x < H.length->x≠b->(∀a,qi=some a->a.block≠x)->(∀a,qm=some a->a.block≠x)->(∀a,qk=some a->a.block≠x)->hblk H' x=hblk H x)/\(qk'=qk∨∀a,qk'=some a->H.length<=a.block):=by
 intro m
 induction m with
 |zero=>
  intro n x hn hj H qk ck G hN hg
  obtain ⟨n,rfl⟩:∃n',n=n'+1:=⟨n - 1,by omega⟩
  obtain ⟨bb,oo,e1,m0,m1⟩:=AQs hg.s hgi
  have hjj:y * w+x=(y+1) * w:=by rw [Nat.succ_mul];omega
  rw [hjj] at G
  refine ⟨H,qk,ck,λ R KE=> ?_,G, .refl _ _,λ _ _ _ _ _ _=> rfl, .inl rfl⟩
  unfold ADG ALh
  exact (e1 _ _).trans (AAA (go_i m0 (go_f (decide_eq_false (by omega)) rfl)))
 |succ m ih=>
  intro n x hn hj H qk ck G hN hg
  obtain ⟨n,rfl⟩:∃n',n=n'+1:=⟨n - 1,by omega⟩
  obtain ⟨bb,oo,e1,m0,m1⟩:=AQs hg.s hgi
  have hjl:(M++blkN i w (y * w+x)).length=M.length+(y * w+x):=by rw [List.length_append];simp [blkN]
  have hyx:y * w+x < w * h:=by
   have:(y+1) * w<=h * w:=Nat.mul_le_mul_right w hy
   rw [Nat.succ_mul,Nat.mul_comm h w] at this
   omega
  have hmod:(y * w+x) % w=x:=by rw [Nat.mul_comm,Nat.mul_add_mod];exact Nat.mod_eq_of_lt (by omega)
  have hdiv:(y * w+x) / w=y:=by rw [Nat.mul_comm,Nat.mul_add_div (by omega),Nat.div_eq_of_lt (by omega),Nat.add_zero]
  have m9:hcell H b 9=some (.slice qk (M++blkN i w (y * w+x)).length ck):=G.o.sees.cell 9
  obtain ⟨H1,H2,H3,hH1,e2,e3,G3,k3,o3,n3⟩:=Gw.grow (A:= [⟨7,1,qi,nn,ci,Xi⟩,⟨8,1,qm,nn,cm,Xm⟩]) (B:= []) (bytes:=64) (ec:=rbc (i,x,y)) G (by simp) (by simp) rfl (by simp only;omega) hN
  have o3:=OldX.old o3 hNb
  have G3':RS N b H3 t qv lv cv nn qi ci Xi qm cm Xm (some ⟨H.length+1,0,none⟩) unk (M++blkN i w (y * w+(x+1))):=by
   have e1:M++blkN i w (y * w+(x+1))=M++blkN i w (y * w+x)++ [(i,x,y)]:=by rw [←Nat.add_assoc,ARP,hmod,hdiv,List.append_assoc]
   have e2:(M++blkN i w (y * w+(x+1))).length=(M++blkN i w (y * w+x)).length+1:=by rw [e1,List.length_append];rfl
   have e3:(M++blkN i w (y * w+(x+1))).flatMap rbc=(M++blkN i w (y * w+x)).flatMap rbc++rbc (i,x,y):=by rw [e1,List.flatMap_append];simp
   unfold RS
   rw [e2,e3]
   exact G3
  obtain ⟨Ha,qk',ck',ea,Ga,oa,fa,na⟩:=ih n (x+1) (by omega) (by omega) H3 _ _ G3' (by omega) (hg.old o3)
  refine ⟨Ha,qk',ck',λ R KE=> ?_,Ga,o3.trans oa,λ x hx h1 h2 h3 h4=> ?_, ?_⟩
  rotate_left
  . rw [fa x (by omega) h1 h2 h3 (λ a ha=> by cases ha;simp only;omega)]
    exact k3 x hx ⟨h1,λ s hs a ha=> by
     simp only [List.cons_append,List.nil_append,List.mem_cons,List.not_mem_nil,or_false] at hs
     rcases hs with rfl|rfl|rfl
     . exact h2 a ha
     . exact h3 a ha
     . exact h4 a ha⟩
  . right
    intro a ha
    rcases na with h|h
    . rw [h] at ha;cases ha;simp only;omega
    . have:=h a ha;omega
  unfold ADG ALh
  refine (e1 _ _).trans (AAA (go_i m0 (go_t (decide_eq_true (by simp only;omega)) (AAC (AAA (go_l m9 (AAD (hH1.trans rfl) ((e2 _ _).trans (AAC (AAA ((e3 _ _).trans ?_)))))))))))
  rw [w64 (n:=(x:Int)+1) (by omega) (by omega)]
  exact ea R KE
theorem rnl5 (k:Nat) (hk:100000 < k) (i:Nat) (hgi:gs[i]? =some ((w:Int),(h:Int))) (hwh:w * h<=65536) (hh:h<=4096) (hw:w<=4096) (hM:M.length<=65536) (hNb:N<=b):∀(m n y:Nat),m < n->h=y+m->∀(H:Heap) (qk:Oa) (ck:Nat),RS N b H t qv lv cv nn qi ci Xi qm cm Xm qk ck (M++blkN i w (y * w))->N<=H.length->ShB N H qg (gs.flatMap pt)->
 ∃H' qk' ck',(∀(R:Type) (KE:Oa->Nat->Nat->Oa->Int->Heap->Option R),ADH k KE n qg gs.length cg (some ⟨b,0,none⟩) (i:Int) (y:Int) H=KE qg gs.length cg (some ⟨b,0,none⟩) (i:Int) H')/\RS N b H' t qv lv cv nn qi ci Xi qm cm Xm qk' ck' (M++blkN i w (w * h))/\Old N H H'/\(∀x,x < H.length->x≠b->(∀a,qi=some a->a.block≠x)->(∀a,qm=some a->a.block≠x)->(∀a,qk=some a->a.block≠x)->hblk H' x=hblk H x)/\(qk'=qk∨∀a,qk'=some a->H.length<=a.block):=by
 intro m
 induction m with
 |zero=>
  intro n y hn hj H qk ck G hN hg
  obtain ⟨n,rfl⟩:∃n',n=n'+1:=⟨n - 1,by omega⟩
  obtain ⟨bb,oo,e1,m0,m1⟩:=AQs hg.s hgi
  have hjj:y * w=w * h:=by rw [Nat.mul_comm,show y=h from by omega]
  rw [hjj] at G
  refine ⟨H,qk,ck,λ R KE=> ?_,G, .refl _ _,λ _ _ _ _ _ _=> rfl, .inl rfl⟩
  unfold ADH ALj
  exact (e1 _ _).trans (AAA (go_i m1 (go_f (decide_eq_false (by simp only;omega)) rfl)))
 |succ m ih=>
  intro n y hn hj H qk ck G hN hg
  obtain ⟨n,rfl⟩:∃n',n=n'+1:=⟨n - 1,by omega⟩
  obtain ⟨bb,oo,e1,m0,m1⟩:=AQs hg.s hgi
  obtain ⟨H1,qk1,ck1,e2,G1,o1,f1,n1⟩:=rnl6 (cg:=cg) k i hgi hwh hM hNb y (by omega) w k 0 (by omega) (by omega) H qk ck G hN hg
  obtain ⟨Ha,qk',ck',ea,Ga,oa,fa,na⟩:=ih n (y+1) (by omega) (by omega) H1 _ _ G1 (by have:=o1.1;omega) (hg.old o1)
  have hl1:=o1.1
  refine ⟨Ha,qk',ck',λ R KE=> ?_,Ga,o1.trans oa,λ x hx h1 h2 h3 h4=> ?_, ?_⟩
  rotate_left
  . rw [fa x (by omega) h1 h2 h3 (λ a ha=> by
     rcases n1 with h|h
     . rw [h] at ha;exact h4 a ha
     . have:=h a ha;omega),f1 x hx h1 h2 h3 h4]
  . rcases na with h|h
    . rw [h];exact n1
    . exact .inr λ a ha=> by have:=h a ha;omega
  unfold ADH ALj
  refine (e1 _ _).trans (AAA (go_i m1 (go_t (decide_eq_true (by simp only;omega)) ((e2 _ _).trans ?_))))
  rw [w64 (n:=(y:Int)+1) (by omega) (by omega)]
  exact ea R KE
end
theorem Agi {a b:Nat} (a1:1<=a) (b1:1<=b) (ab:a * b<=65536):RG a b (LL a b)/\base a b (LL a b)=a * b+tot 16 a b:=by
 have hw:a<=a * b:=Nat.le_mul_of_pos_right a b1
 have hh:b<=a * b:=Nat.le_mul_of_pos_left b a1
 obtain ⟨l,hl⟩:∃l:List Lv,l=(lvs 17 a b).map λ p=> ⟨p.1,p.2,0,0,0⟩:=⟨_,rfl⟩
 have hm:l.map (λ v=> (v.w,v.h))=lvs 17 a b:=by
  rw [hl,List.map_map]
  exact List.map_id _
 have hL:l.length=LL a b:=by unfold LL;rw [←hm,List.length_map]
 have G:=AV1 a1 b1 (by omega) (by omega) ab hm
 obtain ⟨g1,g2⟩:=AVT G hm
 rw [hL] at g1 g2
 have ht:=AVk 16 a b a1 b1 ab
 have hp:=G.pos
 have hn:=G.len
 rw [hL] at hp hn
 exact ⟨⟨a1,b1,ab,by omega,by omega,hp,hn,G.wh,by rw [g2];omega,g1⟩,g2⟩
theorem AVo {k:Nat} (hk:100 < k) (H:Heap) {w h:Nat} (hwh:w≠0->1<=h/\w * h<=65536):∃H' e,(∀(R:Type) (K:Oa->Int->Heap->Option R),AM8 k (w:Int) (h:Int) H K=K (pp (w,h) (H.length+1)) e H')/\Old H.length H H'/\(w≠0->∀(z:Nat->Nat) (c:Nat),(∀j,H.length<=j->j < H'.length->z j=c)->ZR z c H' (H.length+1) w h false (λ _ _=> nz)):=by
 by_cases hw:w=0
 . rcases ATJ hk H (w:Int) (h:Int) with ⟨hv,e⟩|⟨hv,_⟩
   . refine ⟨H,vld (w:Int) (h:Int),λ R K=> ?_, .refl _ _,λ h=> (h hw).elim⟩
     rw [show pp (w,h) (H.length+1)=none from if_pos hw]
     exact e R K
   . exfalso
     unfold vld at hv
     rw [if_pos (.inl (by omega))] at hv
     cases hv
 . obtain ⟨h1,h2⟩:=hwh hw
   rcases ATJ hk H (w:Int) (h:Int) with ⟨hv,_⟩|⟨_,r⟩
   . exact (hv (AVj (by omega) h1 h2)).elim
   . obtain ⟨H',e,T,o,n⟩:=r w h rfl rfl
     obtain ⟨G,gb⟩:=Agi (a:=w) (b:=h) (by omega) h1 h2
     refine ⟨H',0,λ R K=> by rw [AKH _ hw];exact e R K,o,λ _ z c hz=> ⟨⟨H.length,w * h+tot 16 w h,0,λ _=> nz, ?_,λ _ _ _ _=> rfl,G,λ _ _=> Int.le_refl 0,hz _ (by omega) (by omega),hz _ (by omega) (by omega)⟩⟩⟩
     rw [gb]
     exact ⟨T.o,T.n,T.ne,Nat.zero_le _,Nat.zero_le _⟩
structure Nr (z:Nat->Nat) (g:Sg) (N b:Nat) (t:Md) (qv:Oa) (lv cv:Nat) (H:Heap) (i:Nat) (qi:Oa) (ci:Nat) (qm:Oa) (cm:Nat) (qk:Oa) (ck:Nat) (L:List Bk) (P:Nat->Nat):Prop where
 w:RS N b H t qv lv cv i qi ci ((List.range i).flatMap (ri g P)) qm cm ((List.range i).flatMap (rm g P)) qk ck L
 t:∀j,j < 2 * i->(g.sz (j / 2)).1≠0->ZR z (5+j) H (P j) (g.sz (j / 2)).1 (g.sz (j / 2)).2 false (λ _ _=> nz)
 zz:∀j,j < N∨H.length<=j->z j=99
 zb:z b=99
 q:(∀a,qi=some a->z a.block=99)/\(∀a,qm=some a->z a.block=99)/\∀a,qk=some a->z a.block=99
 v:∀a,qv=some a->z a.block=98
theorem ARC (g:Sg) {P P':Nat->Nat}:∀(i:Nat),(∀j,j < 2 * i->P j=P' j)->(List.range i).flatMap (ri g P)=(List.range i).flatMap (ri g P')/\(List.range i).flatMap (rm g P)=(List.range i).flatMap (rm g P'):=by
 intro i
 induction i with
 |zero=> intro _;exact ⟨rfl,rfl⟩
 |succ i ih=>
  intro h
  obtain ⟨h1,h2⟩:=ih λ j hj=> h j (by omega)
  rw [List.range_succ,List.flatMap_append,List.flatMap_append,List.flatMap_append,List.flatMap_append,h1,h2]
  unfold ri rm
  simp only [List.flatMap_cons,List.flatMap_nil,List.append_nil]
  rw [h (2 * i) (by omega),h (2 * i+1) (by omega)]
  exact ⟨rfl,rfl⟩
theorem three {b:Nat} {s t u:Sl} {j:Nat} (h1:j≠b) (h2:∀a,s.q=some a->a.block≠j) (h3:∀a,t.q=some a->a.block≠j) (h4:∀a,u.q=some a->a.block≠j):Ot b [s,t,u] j:=⟨h1,λ x hx a ha=> by
 simp only [List.mem_cons,List.not_mem_nil,or_false] at hx
 rcases hx with rfl|rfl|rfl
 . exact h2 a ha
 . exact h3 a ha
 . exact h4 a ha⟩
theorem rnl4 (k:Nat) (hk:100000 < k) {bs:List Int} {N b:Nat} {t:Md} {qv:Oa} {lv cv:Nat} {qg:Oa} {cg:Nat} {zs:List Gd} (hl:zs.length<=3) (hok:zs.all okZ=true) (hsum:sumZ zs<=65536) (hNb:N<=b):∀(m n i:Nat),m < n->zs.length=i+m->∀(z:Nat->Nat) (H:Heap) (qi:Oa) (ci:Nat) (qm:Oa) (cm:Nat) (qk:Oa) (ck:Nat) (P:Nat->Nat),Nr z (sgOf bs t zs k) N b t qv lv cv H i qi ci qm cm qk ck (blks 0 ((zs.map Prod.fst).take i)) P->(∀a,qv=some a->a.block < H.length)->N<=H.length->ShB N H qg ((zs.map Prod.fst).flatMap pt)->
 ∃H' z' qi' ci' qm' cm' qk' ck' P',(∀(R:Type) (KE:Oa->Heap->Option R),ACr k KE n qg (zs.map Prod.fst).length cg (some ⟨b,0,none⟩) (i:Int) H=KE (some ⟨b,0,none⟩) H')/\Nr z' (sgOf bs t zs k) N b t qv lv cv H' zs.length qi' ci' qm' cm' qk' ck' (blks 0 (zs.map Prod.fst)) P'/\Old N H H'/\(∀x,x < H.length->z x=98->hblk H' x=hblk H x):=by
 intro m
 induction m with
 |zero=>
  intro n i hn hj z H qi ci qm cm qk ck P G hqv hN hg
  obtain ⟨n,rfl⟩:∃n',n=n'+1:=⟨n - 1,by omega⟩
  have hi:i=zs.length:=by omega
  rw [hi,List.take_of_length_le (by rw [List.length_map];omega)] at G
  refine ⟨H,z,qi,ci,qm,cm,qk,ck,P,λ R KE=> ?_,G, .refl _ _,λ _ _ _=> rfl⟩
  unfold ACr ALm
  exact go_f (decide_eq_false (by rw [List.length_map];omega)) rfl
 |succ m ih=>
  intro n i hn hj z H qi ci qm cm qk ck P G hqv hN hg
  obtain ⟨n,rfl⟩:∃n',n=n'+1:=⟨n - 1,by omega⟩
  obtain ⟨y,hz⟩:=AKx (l:=zs) (i:=i) (by omega)
  have hgd:zs.getD i ((0,0),0)=y:=by rw [List.getD_eq_getElem?_getD,hz];rfl
  have hgz:(zs.map Prod.fst)[i]? =some y.1:=by rw [List.getElem?_map,hz];rfl
  have hzo:okG y.1=true:=by
   have:=(List.all_eq_true.1 hok) y (List.mem_of_getElem? hz)
   unfold okZ at this
   simp only [Bool.and_eq_true] at this
   exact this.1
  have hm:=ANr hzo
  have hz4:y.1.1<=4096/\y.1.2<=4096:=by
   unfold okG at hzo
   simp only [Bool.or_eq_true,decide_eq_true_eq] at hzo
   omega
  obtain ⟨w,hw⟩:∃w:Nat,y.1.1=w:=⟨y.1.1.toNat,by omega⟩
  obtain ⟨h,hh⟩:∃h:Nat,y.1.2=h:=⟨y.1.2.toNat,by omega⟩
  have hsz:(sgOf bs t zs k).sz i=(w,h):=by
   unfold sgOf;simp only [hgd,hw,hh,Int.toNat_natCast]
  have hlen:=AOI (AQ4 hok i) 0
  rw [List.map_take] at hlen
  have hst:=ANe hok (i+1)
  have hst0:=ANe hok i
  have htk:zs.take (i+1)=zs.take i++ [y]:=ANb hz
  have hss:sumZ (zs.take (i+1))=sumZ (zs.take i)+y.1.1 * y.1.2:=by rw [htk];simp [sumZ]
  have hwh:w * h<=65536:=by
   have:((w * h:Nat):Int)=y.1.1 * y.1.2:=by rw [hw,hh,Int.natCast_mul]
   omega
  have hwh':w≠0->1<=h/\w * h<=65536:=λ hne=> ⟨by
   unfold okG at hzo
   simp only [Bool.or_eq_true,decide_eq_true_eq] at hzo
   omega,hwh⟩
  have hMl:(blks 0 ((zs.map Prod.fst).take i)).length<=65536:=by omega
  obtain ⟨b1,u1,e1,x1,y1⟩:=AQs hg.s hgz
  rw [hw] at x1
  rw [hh] at y1
  obtain ⟨H1,er1,n1,o1,t1⟩:=AVo (k:=k) (by omega) H hwh'
  have hg1:=hg.old (o1.mono hN)
  obtain ⟨b2,u2,e2,x2,y2⟩:=AQs hg1.s hgz
  rw [hw] at x2
  rw [hh] at y2
  obtain ⟨H2,er2,n2,o2,t2⟩:=AVo (k:=k) (by omega) H1 hwh'
  have l1:=o1.1
  have l2:=o2.1
  have o02:Old H.length H H2:=o1.trans (o2.mono (by omega))
  have G2:=Gw.keep G.w o02
  have m7:hcell H2 b 7=some (.slice qi i ci):=G2.o.sees.cell 7
  obtain ⟨H3,H4,H5,hH3,e4,e5,G5,k5,o5,n5⟩:=Gw.grow (A:= []) (B:= [⟨8,1,qm,i,cm,(List.range i).flatMap (rm (sgOf bs t zs k) P)⟩,⟨9,8,qk,(blks 0 ((zs.map Prod.fst).take i)).length,ck,(blks 0 ((zs.map Prod.fst).take i)).flatMap rbc⟩]) (s:=⟨7,1,qi,i,ci,(List.range i).flatMap (ri (sgOf bs t zs k) P)⟩) (bytes:=8) (ec:= [.pointer (pp (w,h) (H.length+1))]) G2 (by simp) (by simp) rfl (by simp only;omega) (by omega)
  have o5':=OldX.old o5 hNb
  have m8:hcell H5 b 8=some (.slice qm i cm):=G5.o.sees.cell 8
  obtain ⟨H6,H7,H8,hH6,e7,e8,G8,k8,o8,n8⟩:=Gw.grow (A:= [⟨7,1,some ⟨H2.length+1,0,none⟩,i+1,unk,(List.range i).flatMap (ri (sgOf bs t zs k) P)++ [.pointer (pp (w,h) (H.length+1))]⟩]) (B:= [⟨9,8,qk,(blks 0 ((zs.map Prod.fst).take i)).length,ck,(blks 0 ((zs.map Prod.fst).take i)).flatMap rbc⟩]) (s:=⟨8,1,qm,i,cm,(List.range i).flatMap (rm (sgOf bs t zs k) P)⟩) (bytes:=8) (ec:= [.pointer (pp (w,h) (H1.length+1))]) G5 (by simp) (by simp) rfl (by simp only;omega) (by omega)
  have o8':=OldX.old o8 hNb
  have o08:Old N H H8:=(o02.mono hN).trans (o5'.trans o8')
  obtain ⟨z2,hz2⟩:∃z2:Nat->Nat,z2=λ x=> if H.length<=x/\x < H1.length then 5+2 * i else if H1.length<=x/\x < H2.length then 5+(2 * i+1) else z x:=⟨_,rfl⟩
  obtain ⟨Q2,hQ2⟩:∃Q2:Nat->Nat,Q2=λ x=> if x=2 * i then H.length+1 else if x=2 * i+1 then H1.length+1 else P x:=⟨_,rfl⟩
  have z2a:∀x,H.length<=x->x < H1.length->z2 x=5+2 * i:=λ x h1 h2=> by rw [hz2];exact if_pos ⟨h1,h2⟩
  have z2b:∀x,H1.length<=x->x < H2.length->z2 x=5+(2 * i+1):=λ x h1 h2=> by rw [hz2];simp only;rw [if_neg (by omega),if_pos ⟨h1,h2⟩]
  have z2c:∀x,x < H.length∨H2.length<=x->z2 x=z x:=λ x h=> by rw [hz2];simp only;rw [if_neg (by omega),if_neg (by omega)]
  have Qa:Q2 (2 * i)=H.length+1:=by rw [hQ2];exact if_pos rfl
  have Qb:Q2 (2 * i+1)=H1.length+1:=by rw [hQ2];simp only;rw [if_neg (by omega)];exact if_pos trivial
  have Qc:∀j,j < 2 * i->Q2 j=P j:=λ j hj=> by rw [hQ2];simp only;rw [if_neg (by omega),if_neg (by omega)]
  have hbl:=G.w.o.lt
  have hqi:∀a,qi=some a->a.block < H.length:=λ a ha=> (G.w.f ⟨7,1,qi,i,ci,(List.range i).flatMap (ri (sgOf bs t zs k) P)⟩ (by simp)).below a ha
  have hqm:∀a,qm=some a->a.block < H.length:=λ a ha=> (G.w.f ⟨8,1,qm,i,cm,(List.range i).flatMap (rm (sgOf bs t zs k) P)⟩ (by simp)).below a ha
  have hqk:∀a,qk=some a->a.block < H.length:=λ a ha=> (G.w.f ⟨9,8,qk,(blks 0 ((zs.map Prod.fst).take i)).length,ck,(blks 0 ((zs.map Prod.fst).take i)).flatMap rbc⟩ (by simp)).below a ha
  have zB2:z2 b=99:=by rw [z2c b (.inl hbl)];exact G.zb
  have zqi:∀a,qi=some a->z2 a.block=99:=λ a ha=> by rw [z2c _ (.inl (hqi a ha))];exact G.q.1 a ha
  have zqm:∀a,qm=some a->z2 a.block=99:=λ a ha=> by rw [z2c _ (.inl (hqm a ha))];exact G.q.2.1 a ha
  have zqk:∀a,qk=some a->z2 a.block=99:=λ a ha=> by rw [z2c _ (.inl (hqk a ha))];exact G.q.2.2 a ha
  have zn1:z2 (H2.length+1)=99:=by rw [z2c _ (.inr (by omega))];exact G.zz _ (.inr (by omega))
  have zn2:z2 (H5.length+1)=99:=by rw [z2c _ (.inr (by omega))];exact G.zz _ (.inr (by omega))
  have st5:∀x,x < H2.length->z2 x≠99->hblk H5 x=hblk H2 x:=λ x hx hne=> k5 x hx (three (λ e=> hne (by rw [e];exact zB2)) (λ a ha e=> hne (by rw [←e];exact zqi a ha)) (λ a ha e=> hne (by rw [←e];exact zqm a ha)) λ a ha e=> hne (by rw [←e];exact zqk a ha))
  have st8:∀x,x < H5.length->z2 x≠99->hblk H8 x=hblk H5 x:=λ x hx hne=> k8 x hx (three (λ e=> hne (by rw [e];exact zB2)) (λ a ha e=> hne (by cases ha;rw [←e];exact zn1)) (λ a ha e=> hne (by rw [←e];exact zqm a ha)) λ a ha e=> hne (by rw [←e];exact zqk a ha))
  have hcat:(List.range i).flatMap (ri (sgOf bs t zs k) P)++ [.pointer (pp (w,h) (H.length+1))]=(List.range (i+1)).flatMap (ri (sgOf bs t zs k) Q2):=by
   rw [List.range_succ,List.flatMap_append,(ARC (sgOf bs t zs k) i Qc).1]
   congr 1
   simp only [List.flatMap_cons,List.flatMap_nil,List.append_nil]
   unfold ri
   rw [Qa,hsz]
  have hcat2:(List.range i).flatMap (rm (sgOf bs t zs k) P)++ [.pointer (pp (w,h) (H1.length+1))]=(List.range (i+1)).flatMap (rm (sgOf bs t zs k) Q2):=by
   rw [List.range_succ,List.flatMap_append,(ARC (sgOf bs t zs k) i Qc).2]
   congr 1
   simp only [List.flatMap_cons,List.flatMap_nil,List.append_nil]
   unfold rm
   rw [Qb,hsz]
  have G8':RS N b H8 t qv lv cv (i+1) (some ⟨H2.length+1,0,none⟩) unk ((List.range (i+1)).flatMap (ri (sgOf bs t zs k) Q2)) (some ⟨H5.length+1,0,none⟩) unk ((List.range (i+1)).flatMap (rm (sgOf bs t zs k) Q2)) qk ck (blks 0 ((zs.map Prod.fst).take i)++blkN i w (0 * w)):=by
   have:blks 0 ((zs.map Prod.fst).take i)++blkN i w (0 * w)=blks 0 ((zs.map Prod.fst).take i):=by simp [blkN]
   unfold RS
   rw [this,←hcat,←hcat2]
   exact G8
  obtain ⟨H9,qk',ck',e9,G9,o9,f9,n9⟩:=rnl5 k hk i (gs:=zs.map Prod.fst) (cg:=cg) (by rw [hgz,←hw,←hh]) hwh (by omega) (by omega) hMl hNb h k 0 (by omega) (by omega) H8 qk ck G8' (by have:=o08.1;omega) (hg.old o08)
  have hbk:blks 0 ((zs.map Prod.fst).take i)++blkN i w (w * h)=blks 0 ((zs.map Prod.fst).take (i+1)):=by
   rw [ANb hgz,ARO]
   unfold blkG
   rw [hw,hh]
   simp [Nat.min_eq_left (show i<=zs.length by omega)]
  rw [hbk] at G9
  have o09:Old N H H9:=o08.trans o9
  have l9:=o9.1
  have st9:∀x,x < H8.length->z2 x≠99->hblk H9 x=hblk H8 x:=λ x hx hne=> f9 x hx (λ e=> hne (by rw [e];exact zB2)) (λ a ha e=> hne (by cases ha;rw [←e];exact zn1)) (λ a ha e=> hne (by cases ha;rw [←e];exact zn2)) λ a ha e=> hne (by rw [←e];exact zqk a ha)
  have st:∀x,x < H2.length->z2 x≠99->hblk H9 x=hblk H2 x:=λ x hx hne=> by rw [st9 x (by omega) hne,st8 x (by omega) hne,st5 x hx hne]
  have d0:2 * i / 2=i:=by omega
  have d1:(2 * i+1) / 2=i:=by omega
  have N9:Nr z2 (sgOf bs t zs k) N b t qv lv cv H9 (i+1) (some ⟨H2.length+1,0,none⟩) unk (some ⟨H5.length+1,0,none⟩) unk qk' ck' (blks 0 ((zs.map Prod.fst).take (i+1))) Q2:=by
   refine ⟨G9,λ j hj hs=> ?_,λ j hj=> ?_,zB2,⟨λ a ha=> by cases ha;exact zn1,λ a ha=> by cases ha;exact zn2,λ a ha=> ?_⟩,λ a ha=> ?_⟩
   . by_cases hja:j=2 * i
     . subst hja
       rw [Qa,d0,hsz]
       rw [d0,hsz] at hs
       have T:=t1 hs z2 (5+2 * i) z2a
       exact (T.same (H':=H2) λ x hx _=> o2.2 x hx).same λ x hx h=> st x hx (by omega)
     . by_cases hjb:j=2 * i+1
       . subst hjb
         rw [Qb,d1,hsz]
         rw [d1,hsz] at hs
         have T:=t2 hs z2 (5+(2 * i+1)) z2b
         exact T.same λ x hx h=> st x hx (by omega)
       . rw [Qc j (by omega)]
         have T:=G.t j (by omega) hs
         have T0:=T.zone (z':=z2) (c':=5+j) λ x hx h=> by rw [z2c x (.inl hx)];exact h
         exact (T0.same (H':=H2) λ x hx _=> o02.2 x hx).same λ x hx h=> st x hx (by omega)
   . rw [z2c j (by omega)];exact G.zz j (by omega)
   . rcases n9 with h|h
     . rw [h] at ha;exact zqk a ha
     . have:=h a ha
       rw [z2c _ (.inr (by omega))];exact G.zz _ (.inr (by omega))
   . rw [z2c _ (.inl (hqv a ha))];exact G.v a ha
  obtain ⟨Ha,z',qi2,ci2,qm2,cm2,qk2,ck2,P',ea,Ga,oa,va⟩:=ih n (i+1) (by omega) (by omega) z2 H9 _ _ _ _ _ _ Q2 N9 (λ a ha=> by have:=hqv a ha;omega) (by have:=o09.1;omega) (hg.old o09)
  refine ⟨Ha,z',qi2,ci2,qm2,cm2,qk2,ck2,P',λ R KE=> ?_,Ga,o09.trans oa,λ x hx h98=> ?_⟩
  . unfold ACr ALm
    refine go_t (decide_eq_true (by rw [List.length_map];omega)) ((e1 _ _).trans (AAA (go_i x1 ((e1 _ _).trans (AAA (go_i y1 ((n1 _ _).trans ?_)))))))
    refine (e2 _ _).trans (AAA (go_i x2 ((e2 _ _).trans (AAA (go_i y2 ((n2 _ _).trans ?_))))))
    refine AAC (AAA (go_l m7 (AAD hH3 ((e4 _ _).trans (AAC (AAA ((e5 _ _).trans ?_)))))))
    refine AAC (AAA (go_l m8 (AAD hH6 ((e7 _ _).trans (AAC (AAA ((e8 _ _).trans ((e9 _ _).trans ?_))))))))
    rw [w64 (n:=(i:Int)+1) (by omega) (by omega)]
    exact ea R KE
  . have hx2:z2 x=98:=by rw [z2c x (.inl hx)];exact h98
    rw [va x (by omega) hx2,st x (by omega) (by omega),o02.2 x hx]
theorem ATh {H:Heap} {b:Nat} {q:Oa} {xs:List Int} (h:Shows H q (ints xs)) (hl:xs.length<=1000000):∃H' q' c',(∀(R:Type) (K:Oa->Nat->Nat->Heap->Option R),hapnS 1 8 H (some ⟨b,0,none⟩) 0 0 q xs.length K=K q' xs.length c' H')/\Shows H' q' (ints xs)/\Old H.length H H'/\∀a,q'=some a->a.block=b∨(a.block=H.length/\H.length < H'.length):=by
 have hc:=h.hcells
 rw [AOH] at hc
 by_cases h0:xs.length=0
 . have:xs= []:=List.eq_nil_of_length_eq_zero h0
   subst this
   refine ⟨H,some ⟨b,0,none⟩,0,λ R K=> ?_, .inl rfl, .refl _ _,λ a ha=> .inl (by cases ha;rfl)⟩
   unfold hapnS hapn
   rw [show ([]:List Int).length * 1=([]:List Int).length from rfl,hc]
   dsimp only
   rw [if_neg (by unfold unk;omega)]
   rfl
 . refine ⟨H++ [some (⟨ints xs,false,1⟩:Blk)],some ⟨H.length,0,none⟩,unk,λ R K=> ?_,Sees.shows ⟨_,AAI _ _,rfl⟩,Old.app _ _,λ a ha=> .inr (by cases ha;simp)⟩
   unfold hapnS hapn
   rw [Nat.mul_one,hc]
   dsimp only
   have hc2:FW.hcells H (some ⟨b,0,none⟩) (0 * 1)=some []:=by unfold FW.hcells;rw [if_pos (by omega)]
   rw [if_neg (by unfold unk;omega),if_neg h0,if_neg (by omega),if_pos (by omega),hc2,Nat.zero_add]
   rfl
theorem AVI (zs:List Gd):zs.map Prod.snd=(List.range zs.length).map λ i=> (zs.getD i ((0,0),0)).2:=by
 refine List.ext_getElem? λ i=> ?_
 rw [List.getElem?_map,List.getElem?_map]
 by_cases h:i < zs.length
 . rw [List.getElem?_range h,List.getElem?_eq_getElem h]
   simp only [Option.map_some]
   rw [List.getD_eq_getElem?_getD,List.getElem?_eq_getElem h];rfl
 . rw [List.getElem?_eq_none (by omega),List.getElem?_eq_none (by rw [List.length_range];omega)];rfl
theorem Agk (L:List Bk):L.flatMap rbc=(L.map bkz).flatMap bkr:=by
 rw [List.flatMap_map];rfl
theorem Aa6 {k:Nat} (hk:100000 < k) (bs:List Int) {H:Heap} {qg qp:Oa} {gs:List (Int×Int)} {pl:List Int} (cg cp:Nat) (t:Md) (hg:Shows H qg (gs.flatMap pt)) (hp:Shows H qp (ints pl)):
 ∃H' p,(∀(R:Type) (K:Oa->Int->Heap->Option R),AKS k qg gs.length cg qp pl.length cp t.1 t.2.1 t.2.2.1 t.2.2.2.1 t.2.2.2.2 H K=K p (newE gs pl) H')/\Old H.length H H'/\((newE gs pl≠0/\p=none)∨(newE gs pl=0/\∃z b Q kb P,p=some ⟨b,0,none⟩/\H.length<=b/\(∀j,j < H.length∨H'.length<=j->z j=99)/\(∀a,Q.qv=some a->H.length<=a.block/\a.block < H'.length)/\RT z (sgOf bs t (gs.zip pl) k) gs.length b Q kb 8 P H' ((blks 0 gs).map bkz) (λ _=> nzT) 0 false)):=by
 obtain ⟨H1,hH1⟩:∃H1,H1=H++ [some (⟨[.bool t.1, .bool t.2.1, .bool t.2.2.1, .bool t.2.2.2.1, .bool t.2.2.2.2],false,0⟩:Blk)]:=⟨_,rfl⟩
 have o1:Old H.length H H1:=hH1 ▸ Old.app _ _
 have O1:Owns H1 H.length [.bool t.1, .bool t.2.1, .bool t.2.2.1, .bool t.2.2.2.1, .bool t.2.2.2.2] 0:=by rw [hH1];exact AAI H _
 have l1:H1.length=H.length+1:=by rw [hH1];simp
 by_cases h1:gs.length=pl.length
 case neg=>
  have he:newE gs pl=4:=by unfold newE;rw [if_pos (.inl h1)]
  refine ⟨H1,none,λ R K=> ?_,o1, .inl ⟨by rw [he];decide,rfl⟩⟩
  rw [he]
  unfold AKS AM3 ADo AJ4
  exact AAD hH1 (go_t (bne_iff_ne.2 (by omega)) rfl)
 by_cases h2:gs.length > 3
 . have he:newE gs pl=4:=by unfold newE;rw [if_pos (.inr h2)]
   refine ⟨H1,none,λ R K=> ?_,o1, .inl ⟨by rw [he];decide,rfl⟩⟩
   rw [he]
   unfold AKS AM3 ADo AJ4
   exact AAD hH1 (go_f (bne_eq_false_iff_eq.2 (by omega)) (go_t (decide_eq_true (by omega)) rfl))
 have he0:newE gs pl=if (gs.zip pl).all okZ then (if sumZ (gs.zip pl) > 65536 then 5 else 0) else 2:=by unfold newE;rw [if_neg (by omega)]
 obtain ⟨zs,hzs⟩:∃zs,zs=gs.zip pl:=⟨_,rfl⟩
 have f1:zs.map Prod.fst=gs:=by rw [hzs];exact List.map_fst_zip (by omega)
 have f2:zs.map Prod.snd=pl:=by rw [hzs];exact List.map_snd_zip (by omega)
 have f3:zs.length=gs.length:=by rw [←f1,List.length_map]
 rw [←hzs] at he0
 have hg1:=hg.keep o1
 have hp1:=hp.keep o1
 have hp':=hp
 rw [←f1] at hg hg1
 rw [←f2] at hp hp1
 obtain ⟨H2,e2,o2⟩:=rnl1 k (qg:=qg) (qp:=qp) (cg:=cg) (cp:=cp) (zs:=zs) (by omega) (some ⟨H.length,0,none⟩) zs.length k 0 0 (by omega) (by omega) (by omega) (by omega) H1 hg1 hp1
 rw [List.drop_zero] at e2
 have o02:Old H.length H H2:=o1.trans (o2.mono (by omega))
 have l2:=o2.1
 have front:∀(R:Type) (K:Oa->Int->Heap->Option R),AKS k qg gs.length cg qp pl.length cp t.1 t.2.1 t.2.2.1 t.2.2.2.1 t.2.2.2.2 H K=bif zs.all okZ then (bif decide (sumZ zs > 65536) then K none 5 H2 else (hal H2 [] λ p49 H50=> hapnS 1 8 H50 p49 0 0 qp pl.length λ q51 l52 c53 H54=> ldB H54 (pad (some ⟨H.length,0,none⟩) 0) λ t49=> ldB H54 (pad (some ⟨H.length,0,none⟩) 1) λ t50=> ldB H54 (pad (some ⟨H.length,0,none⟩) 2) λ t51=> ldB H54 (pad (some ⟨H.length,0,none⟩) 3) λ t52=> ldB H54 (pad (some ⟨H.length,0,none⟩) 4) λ t53=> hal H54 [.bool true,.slice q51 l52 c53,.bool t49,.bool t50,.bool t51,.bool t52,.bool t53,.slice none 0 0,.slice none 0 0,.slice none 0 0,.int .i64 0,.bool false,.bool false,.slice none 0 0,.slice none 0 0] λ p54 H55=> ACr k (λ p57 H58=> K p57 0 H58) k qg (zs.map Prod.fst).length cg p54 0 H55)) else K none 2 H2:=λ R K=> by
  have f4:pl.length=zs.length:=by omega
  rw [f4,←f3,List.length_map]
  unfold AKS AM3 ADo AJ4
  refine AAD hH1 (go_f (bne_eq_false_iff_eq.2 rfl) (go_f (decide_eq_false (by omega)) ((e2 _ _ _).trans ?_)))
  rw [Int.zero_add]
 cases hk1:zs.all okZ with
 |false=>
  refine ⟨H2,none,λ R K=> ?_,o02, .inl ⟨by rw [he0,hk1];simp,rfl⟩⟩
  rw [front,hk1,he0,hk1];rfl
 |true=>
  by_cases hs:sumZ zs > 65536
  . refine ⟨H2,none,λ R K=> ?_,o02, .inl ⟨by rw [he0,hk1,if_pos rfl,if_pos hs];decide,rfl⟩⟩
    rw [front,hk1,he0,hk1,if_pos rfl,if_pos hs]
    exact go_t rfl (go_t (decide_eq_true hs) rfl)
  obtain ⟨Hm,hHm⟩:∃Hm,Hm=H2++ [some (⟨[],false,0⟩:Blk)]:=⟨_,rfl⟩
  have om:Old H2.length H2 Hm:=hHm ▸ Old.app _ _
  have lm:Hm.length=H2.length+1:=by rw [hHm];simp
  have o0m:Old H.length H Hm:=o02.trans (om.mono (by omega))
  obtain ⟨Hn,qv,cv,en,Sn,on,bn⟩:=ATh (b:=H2.length) (hp'.keep o0m) (by omega)
  have ln:=on.1
  have o0n:Old H.length H Hn:=o0m.trans (on.mono (by omega))
  have O2:=((O1.old o2 (by omega)).old om (by omega)).old on (by omega)
  obtain ⟨H3,hH3⟩:∃H3,H3=Hn++ [some (⟨sR t qv pl.length cv none 0 0 none 0 0 none 0 0,false,0⟩:Blk)]:=⟨_,rfl⟩
  have o3:Old Hn.length Hn H3:=hH3 ▸ Old.app _ _
  have O3:Owns H3 Hn.length (sR t qv pl.length cv none 0 0 none 0 0 none 0 0) 0:=by rw [hH3];exact AAI Hn _
  have o03:Old H.length H H3:=o0n.trans (o3.mono (by omega))
  obtain ⟨z0,hz0⟩:∃z0:Nat->Nat,z0=λ x=> if qv.map Addr.block=some x then 98 else 99:=⟨_,rfl⟩
  have l3:H3.length=Hn.length+1:=by rw [hH3];simp
  have mp:∀ {q:Oa} {x:Nat},q.map Addr.block=some x->∃a,q=some a/\a.block=x:=λ {q x} h=> by
   cases hq:q with
   |none=> rw [hq] at h;cases h
   |some a=>
    rw [hq] at h
    simp only [Option.map_some,Option.some.injEq] at h
    exact ⟨a,rfl,h⟩
  have hqv:∀a,qv=some a->H.length<=a.block/\a.block < Hn.length:=λ a ha=> by
   rcases bn a ha with h|⟨h,h'⟩ <;> omega
  have z0n:∀x,(∀a,qv=some a->a.block≠x)->z0 x=99:=λ x h=> by
   rw [hz0];simp only
   rw [if_neg]
   intro hh
   obtain ⟨a,ha,e⟩:=mp hh
   exact h a ha e
  have z0v:∀a,qv=some a->z0 a.block=98:=λ a ha=> by
   rw [hz0];simp only
   rw [if_pos (by rw [ha];rfl)]
  have G:Nr z0 (sgOf bs t zs k) H.length Hn.length t qv pl.length cv H3 0 none 0 none 0 none 0 (blks 0 ((zs.map Prod.fst).take 0)) (λ _=> 0):=by
   refine ⟨⟨O3,λ s hs=> ?_,λ s hs=> ?_,λ s hs a ha=> ?_, ?_⟩,λ j hj=> (by omega),λ j hj=> z0n j λ a ha=> by have:=hqv a ha;omega,z0n _ λ a ha=> by have:=hqv a ha;omega,⟨λ a ha=> (by cases ha),λ a ha=> (by cases ha),λ a ha=> by cases ha⟩,z0v⟩
   . simp only [List.mem_cons,List.not_mem_nil,or_false] at hs
     rcases hs with rfl|rfl|rfl <;> rfl
   . simp only [List.mem_cons,List.not_mem_nil,or_false] at hs
     rcases hs with rfl|rfl|rfl
     . exact .nil _ _ _
     . exact .nil _ _ _
     . exact .nil _ _ _
   . simp only [List.mem_cons,List.not_mem_nil,or_false] at hs
     rcases hs with rfl|rfl|rfl <;> cases ha
   . simp
  have below:∀ {q:Oa} {cs:List Value},Shows H q cs->ShB H.length H3 q cs:=λ {q cs} h=> ⟨h.keep o03,by
   rcases h with h|⟨b,o,full,rfl,h1,_⟩
   . exact .inl h
   . exact .inr λ a ha=> by cases ha;exact h1.lt⟩
  obtain ⟨H4,z4,qi,ci,qm,cm,qk,ck,P,e4,G4,o4,v4⟩:=rnl4 k hk (bs:=bs) (cg:=cg) (by omega) hk1 (by omega) (by omega) zs.length k 0 (by omega) (by omega) z0 H3 none 0 none 0 none 0 (λ _=> 0) G (λ a ha=> by have:=hqv a ha;omega) (by have:=o03.1;omega) (below hg)
  have hmg:zs.map Prod.snd=(List.range gs.length).map (sgOf bs t zs k).pl:=by rw [AVI,f3];rfl
  rw [f2] at hmg
  rw [f1,f3] at G4
  have hz:newE gs pl=0:=by rw [he0,hk1,if_pos rfl,if_neg hs]
  have hfi:=G4.w.f ⟨7,1,qi,gs.length,ci,(List.range gs.length).flatMap (ri (sgOf bs t zs k) P)⟩ (by simp)
  have hfm:=G4.w.f ⟨8,1,qm,gs.length,cm,(List.range gs.length).flatMap (rm (sgOf bs t zs k) P)⟩ (by simp)
  have hfk:=G4.w.f ⟨9,8,qk,(blks 0 gs).length,ck,(blks 0 gs).flatMap rbc⟩ (by simp)
  have hd:=G4.w.d
  rw [List.pairwise_cons,List.pairwise_cons] at hd
  have dik:∀a a',qi=some a->qk=some a'->a.block≠a'.block:=λ a a' h1 h2=> hd.1 ⟨9,8,qk,(blks 0 gs).length,ck,(blks 0 gs).flatMap rbc⟩ (by simp) a a' h1 h2
  have dmk:∀a a',qm=some a->qk=some a'->a.block≠a'.block:=λ a a' h1 h2=> hd.2.1 ⟨9,8,qk,(blks 0 gs).length,ck,(blks 0 gs).flatMap rbc⟩ (by simp) a a' h1 h2
  have hlow:∀ {q:Oa} {sz l c:Nat} {cs:List Value},Bld H.length sz H4 q l c cs->∀a,q=some a->H.length<=a.block/\a.block < H4.length:=λ {q sz l c cs} h a ha=> by
   refine ⟨?_,h.below a ha⟩
   rcases h with ⟨h,_⟩|⟨b',h,_,h3,_⟩
   . rw [h] at ha;cases ha
   . rw [h] at ha;cases ha;exact h3
  have gi:=hlow hfi
  have gm:=hlow hfm
  have gk:=hlow hfk
  have ai:∀a,qi=some a->a.block≠Hn.length:=λ a ha=> G4.w.a ⟨7,1,qi,gs.length,ci,(List.range gs.length).flatMap (ri (sgOf bs t zs k) P)⟩ (by simp) a ha
  have am:∀a,qm=some a->a.block≠Hn.length:=λ a ha=> G4.w.a ⟨8,1,qm,gs.length,cm,(List.range gs.length).flatMap (rm (sgOf bs t zs k) P)⟩ (by simp) a ha
  have ak:∀a,qk=some a->a.block≠Hn.length:=λ a ha=> G4.w.a ⟨9,8,qk,(blks 0 gs).length,ck,(blks 0 gs).flatMap rbc⟩ (by simp) a ha
  have hbl:=G4.w.o.lt
  have l4:=o4.1
  obtain ⟨zF,hzF⟩:∃zF:Nat->Nat,zF=λ x=> if x=Hn.length then 0 else if qi.map Addr.block=some x∨qm.map Addr.block=some x∨qv.map Addr.block=some x then 1 else if qk.map Addr.block=some x then 2 else z4 x:=⟨_,rfl⟩
  have zF1:∀x,x≠Hn.length->(qi.map Addr.block=some x∨qm.map Addr.block=some x∨qv.map Addr.block=some x)->zF x=1:=λ x h1 h2=> by
   rw [hzF];simp only
   rw [if_neg h1,if_pos h2]
  have zFo:∀x,x≠Hn.length->(∀a,qi=some a->a.block≠x)->(∀a,qm=some a->a.block≠x)->(∀a,qv=some a->a.block≠x)->(∀a,qk=some a->a.block≠x)->zF x=z4 x:=λ x h1 h2 h3 h4 h5=> by
   rw [hzF];simp only
   rw [if_neg h1,if_neg,if_neg]
   . intro hh
     obtain ⟨a,ha,e⟩:=mp hh
     exact h5 a ha e
   . rintro (hh|hh|hh)
     . obtain ⟨a,ha,e⟩:=mp hh
       exact h2 a ha e
     . obtain ⟨a,ha,e⟩:=mp hh
       exact h3 a ha e
     . obtain ⟨a,ha,e⟩:=mp hh
       exact h4 a ha e
  have zFk:∀a,qk=some a->zF a.block=2:=λ a ha=> by
   rw [hzF];simp only
   rw [if_neg (ak a ha),if_neg,if_pos (by rw [ha];rfl)]
   have hk99:=G4.q.2.2 a ha
   rintro (hh|hh|hh)
   . obtain ⟨a',ha',e⟩:=mp hh
     exact dik a' a ha' ha e
   . obtain ⟨a',ha',e⟩:=mp hh
     exact dmk a' a ha' ha e
   . obtain ⟨a',ha',e⟩:=mp hh
     have:=G4.v a' ha'
     rw [e,hk99] at this;cases this
  have zFt:∀x,z4 x≠99->z4 x≠98->zF x=z4 x:=λ x h h'=> zFo x (λ e=> h (by rw [e];exact G4.zb)) (λ a ha e=> h (by rw [←e];exact G4.q.1 a ha)) (λ a ha e=> h (by rw [←e];exact G4.q.2.1 a ha)) (λ a ha e=> h' (by rw [←e];exact G4.v a ha)) λ a ha e=> h (by rw [←e];exact G4.q.2.2 a ha)
  have hll:((blks 0 gs).map bkz).length=(blks 0 gs).length:=List.length_map ..
  have hv3:=Sn.keep o3
  have hv4:Shows H4 qv (ints pl):=hv3.same λ a ha=> v4 a.block (by have:=hqv a ha;omega) (z0v a ha)
  rw [hzs] at G4 hfi hfm hmg
  refine ⟨H4,some ⟨Hn.length,0,none⟩,λ R K=> ?_,o03.trans o4, .inr ⟨hz,zF,_,⟨qv,cv,qi,ci,qm,cm,qk,ck⟩,(qk.map Addr.block).getD 0,P,rfl,by omega,λ j hj=> ?_,λ a ha=> by have:=hqv a ha;omega,⟨?_, ?_,hfi.shows.1,hfm.shows.1, ?_,λ j hj hs=> (G4.t j hj hs).zone λ x hx h=> by rw [zFt x (by omega) (by omega)];exact h,by rw [hzF];exact if_pos rfl,λ a ha=> ?_,λ a ha=> ?_,λ a ha=> ?_⟩⟩⟩
  . rw [front,hk1,hz]
    refine go_t rfl (go_f (decide_eq_false hs) (AAD hHm ((en _ _).trans ?_)))
    exact AAH (O2.sees.cell 0) (AAH (O2.sees.cell 1) (AAH (O2.sees.cell 2) (AAH (O2.sees.cell 3) (AAH (O2.sees.cell 4) (AAD hH3 (e4 _ _))))))
  . have hj':z4 j=99:=G4.zz j hj
    rw [zFo j (by omega) (λ a ha=> by have:=gi a ha;omega) (λ a ha=> by have:=gm a ha;omega) (λ a ha=> by have:=hqv a ha;omega) (λ a ha=> by have:=gk a ha;omega)]
    exact hj'
  . rw [hll]
    have:=G4.w.o
    rw [show pl.length=gs.length from h1.symm] at this
    exact this
  . rw [←hmg];exact hv4
  . rcases hfk with ⟨h1,h2,_,_⟩|⟨b',h1,_,h3,h4,_⟩
    . left
      simp only at h2
      rw [List.eq_nil_of_length_eq_zero h2];rfl
    . right
      simp only at h1
      have hb':(qk.map Addr.block).getD 0=b':=by rw [h1];rfl
      rw [hb']
      refine ⟨h1, ?_, ?_⟩
      . have:=zFk _ h1
        exact this
      . rw [←Agk];exact h4
  . exact zF1 _ (by have:=hqv a ha;omega) (.inr (.inr (by rw [show qv=some a from ha];rfl)))
  . exact zF1 _ (ai a ha) (.inl (by rw [show qi=some a from ha];rfl))
  . exact zF1 _ (am a ha) (.inr (.inl (by rw [show qm=some a from ha];rfl)))
open Go.Proofs.Ytmanlfonppfhaaa.FW Go.IntWalk
theorem CLx.get {H:Heap} {X:Nat->Prop}:∀ {ds:List Cr} {cs:List Con} {i:Nat} {c:Con},CLx H X ds cs->cs[i]? =some c->∃d,ds[i]? =some d/\CX H X d c:=by
 intro ds
 induction ds with
 |nil=> intro cs i c h hc;cases cs with
  |nil=> simp at hc
  |cons c cs=> exact h.elim
 |cons d ds ih=> intro cs i c h hc;cases cs with
  |nil=> exact h.elim
  |cons c' cs=>
   cases i with
   |zero=> simp at hc;subst hc;exact ⟨d,rfl,h.1⟩
   |succ i=>
    simp only [List.getElem?_cons_succ] at hc ⊢
    exact ih h.2 hc
theorem AYK (k:Nat) {H:Heap} {q1 q2:Oa} {b1 o1 b2 o2:Nat} {len:Nat} {i:Int} {d1 d2:Cr} {c:Con} {X Y:Nat->Prop} (e1:∀(R:Type) (K:Oa->Option R),hidx q1 len i 3 K=K (some ⟨b1,o1,none⟩)) (m1:∀j,j < 3->hcell H b1 (o1+j)=(cc d1)[j]?) (e2:∀(R:Type) (K:Oa->Option R),hidx q2 len i 3 K=K (some ⟨b2,o2,none⟩)) (m2:∀j,j < 3->hcell H b2 (o2+j)=(cc d2)[j]?) (C1:CX H X d1 c) (C2:CX H Y d2 c) (hl:c.2.2.length<=100000) (c1 c2:Nat) {R:Type} (KE:Oa->Nat->Nat->Oa->Nat->Nat->Int->Option R) (KR:Bool->Option R):
 ∀(m f j:Nat),m < f->c.2.2.length=j+m->AEU k KE KR f q1 len c1 q2 len c2 i (j:Int) H=KE q1 len c1 q2 len c2 i:=by
 have x1:hcell H b1 (o1+2)=some (.slice d1.2.2.1 c.2.2.length d1.2.2.2.2):=by rw [←C1.l];exact m1 2 (by omega)
 have x2:hcell H b2 (o2+2)=some (.slice d2.2.2.1 c.2.2.length d2.2.2.2.2):=by rw [←C2.l];exact m2 2 (by omega)
 intro m
 induction m with
 |zero=>
  intro f j hf hj
  obtain ⟨f,rfl⟩:∃n',f=n'+1:=⟨f - 1,by omega⟩
  unfold AEU AKo
  exact (e1 _ _).trans (AAA (go_l x1 (go_f (decide_eq_false (by omega)) rfl)))
 |succ m ih=>
  intro f j hf hj
  obtain ⟨f,rfl⟩:∃n',f=n'+1:=⟨f - 1,by omega⟩
  obtain ⟨x,hx⟩:=AKx (l:=c.2.2) (i:=j) (by omega)
  obtain ⟨p1,f1,v1⟩:=AL8 C1.s hx
  obtain ⟨p2,f2,v2⟩:=AL8 C2.s hx
  unfold AEU AKo
  refine (e1 _ _).trans (AAA (go_l x1 (go_t (decide_eq_true (by omega)) ((e1 _ _).trans (AAA (go_l x1 ((f1 _ _).trans ((v1 _ _).trans ((e2 _ _).trans (AAA (go_l x2 ((f2 _ _).trans ((v2 _ _).trans (AAz ?_))))))))))))))
  rw [w64 (n:=(j:Int)+1) (by omega) (by omega)]
  exact ih f (j+1) (by omega) (by omega)
theorem AYL (k:Nat) (hk:100000 < k) {H:Heap} {q1 q2:Oa} {D1 D2:List Cr} {cs:List Con} {X Y:Nat->Prop} (h1:Shows H q1 (D1.flatMap cc)) (h2:Shows H q2 (D2.flatMap cc)) (C1:CLx H X D1 cs) (C2:CLx H Y D2 cs) (hl:∀c∈cs,c.2.2.length<=1000) (hcl:cs.length<=100000) (c1 c2:Nat) {R:Type} (KE:Unit->Option R) (KR:Bool->Option R):
 ∀(m f i:Nat),m < f->cs.length=i+m->AEV k KE KR f q1 cs.length c1 q2 cs.length c2 (i:Int) H=KE ():=by
 have n1:=C1.len
 have n2:=C2.len
 intro m
 induction m with
 |zero=>
  intro f i hf hi
  obtain ⟨f,rfl⟩:∃n',f=n'+1:=⟨f - 1,by omega⟩
  unfold AEV AKq
  exact go_f (decide_eq_false (by omega)) rfl
 |succ m ih=>
  intro f i hf hi
  obtain ⟨f,rfl⟩:∃n',f=n'+1:=⟨f - 1,by omega⟩
  obtain ⟨c,hc⟩:=AKx (l:=cs) (i:=i) (by omega)
  obtain ⟨d1,g1,x1⟩:=C1.get hc
  obtain ⟨d2,g2,x2⟩:=C2.get hc
  obtain ⟨b1,o1,e1,m1⟩:=ASc (f:=cc) (sz:=3) ANi (by omega) h1 (AMj ANi _) g1
  obtain ⟨b2,o2,e2,m2⟩:=ASc (f:=cc) (sz:=3) ANi (by omega) h2 (AMj ANi _) g2
  rw [n1] at e1
  rw [n2] at e2
  have hcl':=hl c (List.mem_of_getElem? hc)
  have y10:hcell H b1 (o1+0)=some (.int .i64 c.1):=by rw [←x1.p];exact m1 0 (by omega)
  have y11:hcell H b1 (o1+1)=some (.int .i64 c.2.1):=by rw [←x1.n];exact m1 1 (by omega)
  have y12:hcell H b1 (o1+2)=some (.slice d1.2.2.1 c.2.2.length d1.2.2.2.2):=by rw [←x1.l];exact m1 2 (by omega)
  have y20:hcell H b2 (o2+0)=some (.int .i64 c.1):=by rw [←x2.p];exact m2 0 (by omega)
  have y21:hcell H b2 (o2+1)=some (.int .i64 c.2.1):=by rw [←x2.n];exact m2 1 (by omega)
  have y22:hcell H b2 (o2+2)=some (.slice d2.2.2.1 c.2.2.length d2.2.2.2.2):=by rw [←x2.l];exact m2 2 (by omega)
  unfold AEV AKq
  refine go_t (decide_eq_true (by omega)) ?_
  unfold AHI AMM
  refine (e1 _ _).trans (AAA (go_i y10 ((e2 _ _).trans (AAA (go_i y20 (AAz ?_))))))
  refine (e1 _ _).trans (AAA (go_i y11 ((e2 _ _).trans (AAA (go_i y21 (AAz ?_))))))
  refine (e1 _ _).trans (AAA (go_l y12 ((e2 _ _).trans (AAA (go_l y22 (AAz ?_))))))
  refine (AYK k e1 m1 e2 m2 x1 x2 (by omega) c1 c2 _ _ c.2.2.length k 0 (by omega) (by omega)).trans ?_
  rw [w64 (n:=(i:Int)+1) (by omega) (by omega)]
  exact ih f (i+1) (by omega) (by omega)
theorem ATC {k:Nat} (hk:100000 < k) {H:Heap} {q1 q2:Oa} {D1 D2:List Cr} {cs:List Con} {X Y:Nat->Prop} (h1:Shows H q1 (D1.flatMap cc)) (h2:Shows H q2 (D2.flatMap cc)) (C1:CLx H X D1 cs) (C2:CLx H Y D2 cs) (hl:∀c∈cs,c.2.2.length<=1000) (hcl:cs.length<=65536) (c1 c2:Nat) (R:Type) (K:Bool->Option R):AMR k q1 cs.length c1 q2 cs.length c2 H K=K true:=by
 unfold AMR ANw
 exact AAz (AYL k hk h1 h2 C1 C2 hl (by omega) c1 c2 _ _ cs.length k 0 (by omega) (by omega))
theorem ARv {k:Nat} (hk:100000 < k) (H:Heap) (R:Type) (K:Bool->Option R):AMR k none 0 0 none 0 0 H K=K true:=ATC hk (cs:= []) (D1:= []) (D2:= []) (X:=λ _=> True) (Y:=λ _=> True) (.inl rfl) (.inl rfl) trivial trivial (λ c hc=> by cases hc) (by simp) 0 0 R K
theorem wf_8 {a:Int} (h:(Lit.int .u8 a).wf=true):0<=a/\a<=255:=by
 simp only [Lit.wf,IntKind.min,IntKind.max,IntKind.signed,IntKind.bits,Bool.and_eq_true,decide_eq_true_eq,if_true,Bool.false_eq_true,if_false] at h
 exact ⟨by omega,by omega⟩
theorem AVb {H:Heap}:∀(es:List (List Value)),(∀e∈es,Shp (.int .u8) H e)->∃xs:List Int,xs.length=es.length/\es.flatten=byt xs/\∀v∈xs,0<=v/\v<=255:=by
 intro es
 induction es with
 |nil=> intro _;exact ⟨[],rfl,rfl,λ v h=> by cases h⟩
 |cons e es ih=>
  intro h
  obtain ⟨xs,h1,h2,h3⟩:=ih λ x hx=> h x (List.mem_cons_of_mem _ hx)
  obtain ⟨a,rfl,ha⟩:=h e (by simp)
  refine ⟨a::xs,by simp [h1],by rw [List.flatten_cons,h2];rfl,λ v hv=> ?_⟩
  rcases List.mem_cons.1 hv with rfl|hv
  . exact wf_8 ha
  . exact h3 v hv
theorem AZI {i w h:Nat}:∀v∈blkN i w (w * h),v.1=i/\v.2.1 < w/\v.2.2 < h:=by
 intro v hv
 unfold blkN at hv
 obtain ⟨x,hx,rfl⟩:=List.mem_map.1 hv
 have hx':=List.mem_range.1 hx
 have hw:0 < w:=by
  rcases Nat.eq_zero_or_pos w with h0|h0
  . subst h0;omega
  . exact h0
 exact ⟨rfl,Nat.mod_lt _ hw,Nat.div_lt_of_lt_mul hx'⟩
theorem AZH:∀(gs:List (Int×Int)) (i:Nat),∀v∈blks i gs,∃m y,v.1=i+m/\gs[m]? =some y/\v.2.1 < y.1.toNat/\v.2.2 < y.2.toNat:=by
 intro gs
 induction gs with
 |nil=> intro i v hv;cases hv
 |cons y gs ih=>
  intro i v hv
  rw [blks] at hv
  rcases List.mem_append.1 hv with h|h
  . obtain ⟨h1,h2,h3⟩:=AZI v h
    exact ⟨0,y,by omega,rfl,h2,h3⟩
  . obtain ⟨m,u,h1,h2,h3,h4⟩:=ih (i+1) v h
    exact ⟨m+1,u,by omega,by simpa using h2,h3,h4⟩
theorem AYq {gs:List (Int×Int)} {pl:List Int} (h:newE gs pl=0):gs.length=pl.length/\gs.length<=3/\(gs.zip pl).all okZ=true/\sumZ (gs.zip pl)<=65536:=by
 unfold newE at h
 split at h
 . cases h
 . rename_i h1
   split at h
   . rename_i h2
     split at h
     . cases h
     . rename_i h3;exact ⟨by omega,by omega,h2,by omega⟩
   . cases h
theorem Age (bs:List Int) (t:Md) (k:Nat) {gs:List (Int×Int)} {pl:List Int} (h:newE gs pl=0):GOk (sgOf bs t (gs.zip pl) k) gs.length/\(∀v∈(blks 0 gs).map bkz,VOk (sgOf bs t (gs.zip pl) k) gs.length v)/\((blks 0 gs).map bkz).length<=65536/\gs.length<=3:=by
 obtain ⟨h1,h2,h3,h4⟩:=AYq h
 have hz:(gs.zip pl).length=gs.length:=by rw [List.length_zip];omega
 have hf:(gs.zip pl).map Prod.fst=gs:=List.map_fst_zip (by omega)
 refine ⟨⟨λ i hi=> ?_⟩,λ v hv=> ?_, ?_,h2⟩
 . obtain ⟨y,hy⟩:=AKx (l:=gs.zip pl) (i:=i) (by omega)
   have ho:=(List.all_eq_true.1 h3) y (List.mem_of_getElem? hy)
   unfold okZ at ho
   rw [Bool.and_eq_true] at ho
   have:=of_decide_eq_true ho.2
   unfold sgOf
   simp only
   rw [List.getD_eq_getElem?_getD,hy]
   exact this
 . obtain ⟨u,hu,rfl⟩:=List.mem_map.1 hv
   obtain ⟨m,y,e1,e2,e3,e4⟩:=AZH gs 0 u hu
   have hm:=(List.getElem?_eq_some_iff.1 e2).1
   obtain ⟨w,hw⟩:=AKx (l:=gs.zip pl) (i:=m) (by omega)
   have hwy:w.1=y:=by
    have:((gs.zip pl).map Prod.fst)[m]? =some w.1:=by rw [List.getElem?_map,hw];rfl
    rw [hf,e2] at this
    exact (Option.some.inj this).symm
   have hb:(bkz u).band=m:=by show u.1=m;omega
   have hs:(sgOf bs t (gs.zip pl) k).sz (bkz u).band=(y.1.toNat,y.2.toNat):=by
    rw [hb]
    unfold sgOf
    simp only
    rw [List.getD_eq_getElem?_getD,hw]
    simp only [Option.getD_some,hwy]
   exact ⟨by rw [hb];exact hm,by rw [hs];exact e3,by rw [hs];exact e4,Int.le_refl 0,by show (0:Int)<=60;omega,Int.le_refl 0,by show (0:Int)<=178;omega,Int.le_refl 0,by show (0:Int)<=65535;omega,by show 3<=3;omega,by show 3<=16;omega⟩
 . rw [List.length_map]
   have:=AOI h3 0
   rw [hf] at this
   omega
theorem AY0 {g:Sg} {n:Nat} (G:GOk g n) {layer:Int} {bl:List Bs} {tr:Trs} (hV:∀v∈bl,VOk g n v) (h:(hdr g layer bl tr).1=0):(∀c∈(hdr g layer bl tr).2.1,c.2.2.length<=1000):=by
 have key:∀(bit:Int) (m i:Nat) (bl:List Bs) (tr:Trs) (s:Ps) (cs:List Con),(∀v∈bl,VOk g n v)->(∀c∈cs,c.2.2.length<=1000)->∀c∈(rdA g layer bit m i bl tr s cs).2.2.2.2,c.2.2.length<=1000:=by
  intro bit m
  induction m with
  |zero=> intro i bl tr s cs _ hc;exact hc
  |succ m ih=>
   intro i bl tr s cs hV hc
   cases hv:bl[i]? with
   |none=> rw [rdA,hv];exact hc
   |some v=>
    have V:=hV v (List.mem_of_getElem? hv)
    by_cases he:(rd1 g layer bit tr v s).1≠0
    . rw [ARV m hv he];exact hc
    . rw [ATG m hv he]
      obtain ⟨b1,b2,b3,b4⟩:=ATH G V (Classical.byContradiction he)
      refine ih _ _ _ _ _ (λ u hu=> ?_) λ c hc'=> ?_
      . rcases ARZ hu with h|h
        . exact hV u h
        . rw [h];exact b1
      . rcases List.mem_append.1 hc' with h|h
        . exact hc c h
        . rw [List.mem_singleton.1 h];omega
 unfold hdr at h ⊢
 generalize rget g.bs (0,0)=r at h ⊢
 unfold hd1 at h ⊢
 by_cases c1:r.1.2≠0
 . rw [if_pos c1] at h;exact (c1 h).elim
 rw [if_neg c1] at h ⊢
 have hk:=key r.1.1 bl.length 0 bl tr r.2 [] hV (λ c hc=> by cases hc)
 generalize rdA g layer r.1.1 bl.length 0 bl tr r.2 []=A at h hk ⊢
 unfold hd2 at h ⊢
 by_cases c2:A.1≠0
 . rw [if_pos c2] at h;exact (c2 h).elim
 rw [if_neg c2] at h ⊢
 by_cases c3:r.1.1=1/\fnd A.2.2.2.2=false
 . rw [if_pos c3] at h;cases h
 rw [if_neg c3] at h ⊢
 unfold hd3 at h ⊢
 by_cases c4:(rA g.bs A.2.2.2.1).1.2≠0
 . rw [if_pos c4] at h;exact (c4 h).elim
 . rw [if_neg c4];exact hk
theorem Abv {k:Nat} (hk:100000 < k) {H:Heap} {qg qp:Oa} {gs:List (Int×Int)} {pl:List Int} (cg cp:Nat) (t:Md) {bo:Nat} {qd:Oa} {ld cd:Nat} (hg:Shows H qg (gs.flatMap pt)) (hp:Shows H qp (ints pl)) (O:Owns H bo [.int .i64 0, .slice none 0 0, .slice none 0 0, .slice none 0 0, .slice qd ld cd] 0):
 ∃tt H',(∀(R:Type) (K:Bool->Heap->Option R),ARm k qg gs.length cg qp pl.length cp t.1 t.2.1 t.2.2.1 t.2.2.2.1 t.2.2.2.2 (some ⟨bo,0,none⟩) 1 1 H K=K tt H')/\Old H.length H H'/\(tt=true->ld<=400):=by
 obtain ⟨H1,hH1⟩:∃H1,H1=H++ [some (⟨[.slice qg gs.length cg, .slice qp pl.length cp, .bool t.1, .bool t.2.1, .bool t.2.2.1, .bool t.2.2.2.1, .bool t.2.2.2.2],false,0⟩:Blk)]:=⟨_,rfl⟩
 have o1:Old H.length H H1:=hH1 ▸ Old.app _ _
 have O1:Owns H1 H.length [.slice qg gs.length cg, .slice qp pl.length cp, .bool t.1, .bool t.2.1, .bool t.2.2.1, .bool t.2.2.2.1, .bool t.2.2.2.2] 0:=by rw [hH1];exact AAI H _
 have x:∀o,hcell H1 H.length o=_:=λ o=> O1.sees.cell o
 have start:∀(R:Type) (K:Bool->Heap->Option R) (rr:Option R),AIL k (some ⟨bo,0,none⟩) 1 1 (some ⟨H.length,0,none⟩) H1 (λ q22 l23 c24 p25=>
hfad 0 p25 λ p26=>
ldL H1 p26 λ q27 l28 c29=>
hfad 1 p25 λ p30=>
ldL H1 p30 λ q31 l32 c33=>
hfad 2 p25 λ p34=>
ldB H1 (pad p34 0) λ t35=>
ldB H1 (pad p34 1) λ t36=>
ldB H1 (pad p34 2) λ t37=>
ldB H1 (pad p34 3) λ t38=>
ldB H1 (pad p34 4) λ t39=>
AKS k q27 l28 c29 q31 l32 c33 t35 t36 t37 t38 t39 H1 λ p40 n41 H42=>
ADq p40 H42 λ n43=>
bif decide (n43 > 40) then (K false H42)
 else (AG4 k (λ H45=>
K true H45) (λ t46 H47=>
K t46 H47) k q22 l23 c24 0 H42)) (λ t48=>
K t48 H1)=rr->ARm k qg gs.length cg qp pl.length cp t.1 t.2.1 t.2.2.1 t.2.2.2.1 t.2.2.2.2 (some ⟨bo,0,none⟩) 1 1 H K=rr:=λ R K rr h=> by
  unfold ARm ARl
  exact AAD hH1 h
 by_cases h1:gs.length > 10
 . refine ⟨false,H1,λ R K=> start R K _ ?_,o1,λ h=> by cases h⟩
   unfold AIL AMJ
   exact AAA (go_l (x 0) (go_t (decide_eq_true (by omega)) rfl))
 by_cases h2:pl.length > 10
 . refine ⟨false,H1,λ R K=> start R K _ ?_,o1,λ h=> by cases h⟩
   unfold AIL AMJ
   exact AAA (go_l (x 0) (go_f (decide_eq_false (by omega)) (AAA (go_l (x 1) (go_t (decide_eq_true (by omega)) rfl)))))
 obtain ⟨H2,p,e2,o2,r2⟩:=Aa6 hk [] cg cp t (hg.keep o1) (hp.keep o1)
 have start2:∀(R:Type) (K:Bool->Heap->Option R) (rr:Option R),(ADq p H2 λ n43=>
bif decide (n43 > 40) then (K false H2)
 else (AG4 k (λ H45=>
K true H45) (λ t46 H47=>
K t46 H47) k (some ⟨bo,0,none⟩) 1 1 0 H2))=rr->ARm k qg gs.length cg qp pl.length cp t.1 t.2.1 t.2.2.1 t.2.2.2.1 t.2.2.2.2 (some ⟨bo,0,none⟩) 1 1 H K=rr:=λ R K rr h=> by
  refine start R K _ ?_
  unfold AIL AMJ
  refine AAA (go_l (x 0) (go_f (decide_eq_false (by omega)) (AAA (go_l (x 1) (go_f (decide_eq_false (by omega)) (go_f rfl ?_))))))
  refine AAA (go_l (x 0) (AAA (go_l (x 1) (AAA (AAH (x 2) (AAH (x 3) (AAH (x 4) (AAH (x 5) (AAH (x 6) ((e2 _ _).trans ?_))))))))))
  exact h
 have o02:Old H.length H H2:=o1.trans (o2.mono o1.1)
 have hBlk:∃nb:Int,∀(R:Type) (K:Int->Option R),ADq p H2 K=K nb:=by
  rcases r2 with ⟨_,rfl⟩|⟨_,z,b,Q,kb,P,rfl,_,_,_,S⟩
  . exact ⟨0,λ R K=> rfl⟩
  . refine ⟨((((blks 0 gs).map bkz).length:Nat):Int),λ R K=> ?_⟩
    unfold ADq AJG ACh AGb
    exact go_t rfl (AAC (AAA (go_b (S.o.sees.cell 0) (go_f rfl (AAC (AAA (go_l (S.o.sees.cell 9) rfl)))))))
 obtain ⟨nb,eB⟩:=hBlk
 by_cases h3:nb > 40
 . exact ⟨false,H2,λ R K=> start2 R K _ ((eB _ _).trans (go_t (decide_eq_true h3) rfl)),o02,λ h=> by cases h⟩
 have O2:=O.old o02 O.lt
 have y:∀o,hcell H2 bo (0+o)= [Value.int .i64 0, .slice none 0 0, .slice none 0 0, .slice none 0 0, .slice qd ld cd][o]? :=λ o=> by rw [Nat.zero_add];exact O2.sees.cell o
 obtain ⟨H3,hH3⟩:∃H3,H3=H2++ [some (⟨[.int .i64 0, .slice none 0 0, .slice none 0 0, .slice none 0 0, .slice qd ld cd],false,0⟩:Blk)]:=⟨_,rfl⟩
 have o3:Old H2.length H2 H3:=hH3 ▸ Old.app _ _
 have O3:Owns H3 H2.length [.int .i64 0, .slice none 0 0, .slice none 0 0, .slice none 0 0, .slice qd ld cd] 0:=by rw [hH3];exact AAI H2 _
 have hid:∀(R:Type) (K:Oa->Option R),hidx (some ⟨bo,0,none⟩) 1 0 5 K=K (some ⟨bo,0,none⟩):=λ R K=> rfl
 have l3:∀(fu:Nat),0 < fu->∀(R:Type) (KE:Oa->Nat->Nat->Int->Option R) (KR:Bool->Option R),AJN k KE KR fu (some ⟨bo,0,none⟩) 1 1 0 (some ⟨H2.length,0,none⟩) 0 H3=KE (some ⟨bo,0,none⟩) 1 1 0:=λ fu hfu R KE KR=> by
  obtain ⟨f,rfl⟩:∃f,fu=f+1:=⟨fu - 1,by omega⟩
  rw [AJN]
  unfold AN1
  exact AAA (go_l (O3.sees.cell 3) (go_f rfl rfl))
 have l1:∀(fu:Nat),1 < fu->∀(R:Type) (KE:Heap->Option R) (KR:Bool->Heap->Option R),AG4 k KE KR fu (some ⟨bo,0,none⟩) 1 1 0 H2=bif decide (((ld:Nat):Int) > 400) then KR false H3 else KE H3:=λ fu hfu R KE KR=> by
  obtain ⟨f,rfl⟩:∃f,fu=f+1+1:=⟨fu - 2,by omega⟩
  rw [AG4]
  unfold ANP
  refine go_t rfl ((hid _ _).trans (AAJ (y 0) (AAY (y 1) (AAY (y 2) (AAY (y 3) (AAY (y 4) (AAW hH3 rfl rfl ?_)))))))
  unfold AKr ANx
  refine AAA (go_l (O3.sees.cell 1) (go_f rfl (AAA (go_l (O3.sees.cell 2) (go_f rfl (AAA (go_l (O3.sees.cell 3) (go_f rfl (AAA (go_l (O3.sees.cell 4) ?_))))))))))
  cases hc:decide (((ld:Nat):Int) > 400) with
  |true=> rfl
  |false=>
   refine go_f rfl ((l3 k (by omega) _ _ _).trans ?_)
   rw [AG4]
   unfold ANP
   exact go_f rfl rfl
 refine ⟨!decide (((ld:Nat):Int) > 400),H3,λ R K=> start2 R K _ ((eB _ _).trans (go_f (decide_eq_false h3) ((l1 k (by omega) _ _ _).trans ?_))),o02.trans (o3.mono o02.1),λ h=> ?_⟩
 . cases decide (((ld:Nat):Int) > 400) <;> rfl
 . have:decide (((ld:Nat):Int) > 400)=false:=by
    cases hc:decide (((ld:Nat):Int) > 400)
    . rfl
    . rw [hc] at h;cases h
   have:=of_decide_eq_false this
   omega
end Go.Proofs.Ytmanlfonppfhaaa.Sh
