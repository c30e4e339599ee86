/- QsDecodes, part 3. -/
import Derived.Test.YtmanlfonppfhaaaDe2
set_option linter.unusedVariables false
set_option linter.unusedSimpArgs false
set_option maxRecDepth 100000
namespace Go.Proofs.Ytmanlfonppfhaaa.Sh
open Go.Proofs.Ytmanlfonppfhaaa.FW
abbrev AIl (R:Type):Type:=Heap->(Oa->Oa->Oa->Nat->Nat->Int->Bool->Int->Int->Heap->Option R)->(Oa->Nat->Nat->Int->Int->Heap->Option R)->Option R
abbrev AD6 (R:Type):Type:=Oa->Oa->Oa->Nat->Nat->Int->Bool->Int->Int->AIl R
abbrev AGA (R:Type):Type:=Oa->Oa->Oa->Nat->Nat->Int->Bool->Int->Int->Heap->Option R
abbrev AGB (R T:Type):Type:=(Oa->Oa->Oa->Nat->Nat->Int->Bool->Heap->Option R)->(Oa->Nat->Nat->Int->Int->Heap->Option R)->T
abbrev AD7 (R:Type):Type:=AGB R (Nat->AGA R)
abbrev AIk (R:Type):Type:=(Oa->Oa->Oa->Nat->Nat->Option R)->(Oa->Nat->Nat->Int->Int->Option R)->Option R
abbrev AD4 (R:Type):Type:=Oa->Oa->Oa->Nat->Nat->Int->Bool->AIk R
abbrev AKX (R:Type):Type:=Heap->(Oa->Nat->Nat->Int->Int->Heap->Option R)->Option R
abbrev AFc (R:Type):Type:=Oa->Oa->AKX R
section
variable {R:Type} (f0:ADn R) (f1:ACk R) (f2:AD8 R) (f3:AFf R) (z0:AD7 R) (z1:AD6 R) (z2:AD4 R)
def AF9 (k:Nat):AD6 R:=λ p1 p2 q3 l4 c5 n6 t7 n8 n9 H KN KR=>
hnil p1 λ p10=>
hfad 9 p10 λ p11=>
ldL H p11 λ q12 l13 c14=>
hidx q12 l13 n9 10 λ p15=>
hnil p15 λ p16=>
hfad 4 p16 λ p17=>
ldI .i64 H p17 λ n18=>
hidx q3 l4 n9 3 λ p19=>
hfad 0 p19 λ p20=>
hst1 H p20 (.int .i64 n18) λ H21=>
bif (n6==0) then (KN p1 p2 q3 l4 c5 n6 t7 n8 n9 H21)
 else (f1 p1 p2 p15 H21 λ t22 n23 H24=>
bif (n23 !=0) then (KR none 0 0 0 n23 H24)
 else (bif (!t22) then (KN p1 p2 q3 l4 c5 n6 t7 n8 n9 H24)
 else (f2 p1 p2 p15 H24 λ n25 n26 q27 l28 c29 n30 H31=>
hidx q3 l4 n9 3 λ p32=>
hst H31 p32 [.int .i64 n25,.int .i64 n26,.slice q27 l28 c29] λ H33=>
bif (n30 !=0) then (KR none 0 0 0 n30 H33)
 else (KN p1 p2 q3 l4 c5 n6 true n8 n9 H33))))
def AAm (k:Nat):AD6 R:=AF9 (AAj k) (AAd k) k
def ACi (k:Nat):AGB R (AGA R->AGA R):=λ KE0 KR rec p1 p2 q3 l4 c5 n6 t7 n8 n9 H=>
bif decide (n9 < n8) then (z1 p1 p2 q3 l4 c5 n6 t7 n8 n9 H (λ p24 p25 q26 l27 c28 n29 t30 n31 n32 H33=>
rec p24 p25 q26 l27 c28 n29 t30 n31 (IntKind.wrap .i64 (n32+1)) H33) (λ q34 l35 c36 n37 n38 H39=>
KR q34 l35 c36 n37 n38 H39))
 else (KE0 p1 p2 q3 l4 c5 n6 t7 H)
def AAT (k:Nat):AD7 R
 |KE0,KR,0=> λ _ _ _ _ _ _ _ _ _ _=> none
 |KE0,KR,n+1=> ACi (AAm k) k KE0 KR (AAT k KE0 KR n)
def AD5 (k:Nat):AD4 R:=λ p1 p2 q3 l4 c5 n6 t7 KN KR=>
bif (n6==1) then (bif (!t7) then (KR none 0 0 0 15)
 else (KN p1 p2 q3 l4 c5))
 else (KN p1 p2 q3 l4 c5)
def AAl (k:Nat):AD4 R:=AD5 k
def AHm (k:Nat):AFc R:=λ p1 p2 H K=>
hnil p1 λ p3=>
hfad 9 p3 λ p4=>
ldL H p4 λ q5 l6 c7=>
hmk [.int .i64 0,.int .i64 0,.slice none 0 0] 40 H ((l6:Nat):Int) ((l6:Nat):Int) λ q8 l9 c10 H11=>
f0 p2 H11 λ n12 n13 H14=>
bif (n13 !=0) then (K none 0 0 0 n13 H14)
 else (hnil p1 λ p15=>
hfad 9 p15 λ p16=>
ldL H14 p16 λ q17 l18 c19=>
z0 (λ p32 p33 q34 l35 c36 n37 t38 H39=>
z2 p32 p33 q34 l35 c36 n37 t38 (λ p50 p51 q52 l53 c54=>
f3 p51 H39 λ n55 n56 H57=>
bif (n56 !=0) then (K none 0 0 0 n56 H57)
 else (hnil p50 λ p58=>
hfad 10 p58 λ p59=>
ldI .i64 H57 p59 λ n60=>
hnil p50 λ p61=>
hfad 10 p61 λ p62=>
hst1 H57 p62 (.int .i64 (IntKind.wrap .i64 (n60+1))) λ H63=>
hnil p50 λ p64=>
hfad 2 p64 λ p65=>
hst1 H63 p65 (.bool true) λ H66=>
K q52 l53 c54 n55 0 H66)) (λ q67 l68 c69 n70 n71=>
K q67 l68 c69 n70 n71 H39)) (λ q72 l73 c74 n75 n76 H77=>
K q72 l73 c74 n75 n76 H77) k p1 p2 q8 l9 c10 n12 false ((l18:Nat):Int) 0 H14)
def AB0 (k:Nat):AFc R:=AHm (ACV k) (AAp k) (AAT k) (AAl k) k
def x31C:Tab R:=tcons 45 (x45a f0) <|tcons 46 (x46a f1) <|tcons 47 (x47a f2) <|tcons 48 (x48a f3) <|λ _ _ _ _=> none
def APk:PS:=⟨(.seq (.reg [0,1,7,85] []) (.cond (.seq (.reg [4,5,6] []) .leaf) .leaf)),[0,1,7,8,10],[.p,.p,.l,.n,.b],⟨[0,1,7],[],[4,5,6]⟩⟩
def AaI (g:AIk R) (H:Heap) (K:XK R):Option R:=g (kN .normal [0,1,7] [.p,.p,.l] K H) (kN .ret [4,5,6] [.l,.n,.n] K H)
def AXY (f:AD4 R):Nat->List Value->Heap->XK R->Option R:=jp APk AaI f
def APl:PS:=⟨(.node (.seq (.reg [0,1,7,8,10,11,34,35] []) (.seq (.reg [0,1,7,8,10,11,12,34,35] []) (.seq (.reg [0,1,7,8,10,11,12,34,35] []) (.seq (.seq (.reg [0,1,7,8,10,11,12,34,35,53] []) (.cond .leaf .leaf)) (.seq (.reg [0,1,7,8,10,11,12,13,14,34,35] []) (.seq (.seq (.reg [0,1,7,8,10,11,12,13,14,34,35,62] []) (.cond (.seq (.reg [4,5,6] []) .leaf) .leaf)) (.seq (.seq (.reg [0,1,7,8,10,11,12,34,35,65] []) (.cond .leaf .leaf)) (.seq (.reg [0,1,7,8,10,11,12,34,35] []) (.seq (.reg [0,1,7,8,10,14,34,35] []) (.seq (.reg [0,1,7,8,10,14,34,35,77] []) (.cond (.seq (.reg [4,5,6] []) .leaf) .leaf)))))))))))),[0,1,7,8,10,34,35],[.p,.p,.l,.n,.b,.n,.n],⟨[0,1,7,8,10,34,35],[],[4,5,6]⟩⟩
def AaJ (g:AIl R) (H:Heap) (K:XK R):Option R:=g H (kH .normal [0,1,7,8,10,34,35] [.p,.p,.l,.n,.b,.n,.n] K) (kH .ret [4,5,6] [.l,.n,.n] K)
def AXZ (f:AD6 R):Nat->List Value->Heap->XK R->Option R:=jp APl AaJ f
def APm:PS:=⟨(.seq (.reg [0,1,7,8,10,34,35,36] []) (.seq (.cond .leaf .leaf) (.seq (.opq 1 APl.ls APl.out APl.t) (.reg [0,1,7,8,10,34,35] [])))),[0,1,7,8,10,34,35],[.p,.p,.l,.n,.b,.n,.n],⟨[],[(0,[0,1,7,8,10])],[4,5,6]⟩⟩
def AXX {T:Type} (g:AGB R T) (H:Heap) (K:XK R):T:=g (kH (.exit 0) [0,1,7,8,10] [.p,.p,.l,.n,.b] K) (kH .ret [4,5,6] [.l,.n,.n] K)
def AUe (f:AD7 R):Nat->List Value->Heap->XK R->Option R:=jl APm (L:=AD7 R) AXX pH f
def x31J (k:Nat):JTab R:=tcons 0 (AUe z0 k) <|tcons 1 (AXZ z1 k) <|tcons 2 (AXY z2 k) <|λ _ _ _ _=> none
def x31t:AT:=(.seq (.reg [0,1] []) (.seq (.reg [0,1,7] []) (.seq (.reg [0,1,7,8,9] []) (.seq (.seq (.reg [0,1,7,8,9,28] []) (.cond (.seq (.reg [4,5,6] []) .leaf) .leaf)) (.seq (.reg [0,1,7,8,10] []) (.seq (.seq (.reg [0,1,7,8,10,34,35] []) (.node (.opq 0 APm.ls APm.out (.node APm.t)))) (.seq (.opq 2 APk.ls APk.out APk.t) (.seq (.reg [0,7,9,15] []) (.seq (.seq (.reg [0,7,9,15,92] []) (.cond (.seq (.reg [4,5,6] []) .leaf) .leaf)) (.seq (.reg [0,7,15] []) (.seq (.reg [7,15] []) (.seq (.reg [4,5,6] []) .leaf))))))))))))
def x31c (g:AKX R) (H:Heap) (K:Value->Heap->Option R):Option R:=g H (rH [.l,.n,.n] K)
def x31a (f:AFc R):List Value->Heap->(Value->Heap->Option R)->Option R:=jf 2 [.p,.p] x31c f
variable {f0 f1 f2 f3 z0 z1 z2}
theorem Ae8 (k:Nat) (H:Heap) (K:XK R):jE Try.prog An 106 (x31C f0 f1 f2 f3) (x31J z0 z1 z2 k) APk (sel [1,1,1,1,1,1,0] (bd Try.f31)) H K=mapT (λ g=> AaI g H K) APk.ts (AD5 k):=by kernel_rfl
theorem Ae9 (k:Nat) (H:Heap) (K:XK R):jE Try.prog An 106 (x31C f0 f1 f2 f3) (x31J z0 z1 z2 k) APl (sel [1,1,1,1,1,0,1,0,0,1,1,0] (bd Try.f31)) H K=mapT (λ g=> AaJ g H K) APl.ts (AF9 f1 f2 k):=by kernel_rfl
theorem AfA (k n:Nat) (H:Heap) (K:XK R):lE Try.prog An 106 (x31C f0 f1 f2 f3) (x31J z0 z1 z2 k) APm (sel [1,1,1,1,1,0,1,0,0] (bd Try.f31)) (AUe z0) n H K=mapT (λ g=> pH g H) APm.ts (AXX (ACi z1 k) H K (AXX z0 H K n)):=by kernel_rfl
theorem x31e (k:Nat) (H:Heap) (K:Value->Heap->Option R):fE Try.prog An (x31C f0 f1 f2 f3) (x31J z0 z1 z2 k) x31t Try.f31 [.p,.p] H K=mapT (λ g=> x31c g H K) [.p,.p] (AHm f0 f3 z0 z2 k):=by kernel_rfl
theorem x31S (R:Type) (k:Nat):CSound Try.prog (x31C (R:=R) (ACV k) (AAj k) (AAd k) (AAp k)):=AAB (AXH R k) <|AAB (AeT R k) <|AAB (AeM R k) <|AAB (AeH R k) <|AAE
theorem Ae5 (R:Type) (k:Nat):JS Try.prog 106 (AXY (AAl (R:=R) k) k) APk.ls APk.out (sel [1,1,1,1,1,1,0] (bd Try.f31)):=pj (x31S R k) (x31J (AAT k) (AAm k) (AAl k) k) (by kernel_rfl) (A:=True) trivial (by kernel_rfl) (λ _ _=> .trans (Ae8 _ _ _) (by kernel_rfl))
theorem Ae6 (R:Type) (k:Nat):JS Try.prog 106 (AXZ (AAm (R:=R) k) k) APl.ls APl.out (sel [1,1,1,1,1,0,1,0,0,1,1,0] (bd Try.f31)):=pj (x31S R k) (x31J (AAT k) (AAm k) (AAl k) k) (by kernel_rfl) (A:=True) trivial (by kernel_rfl) (λ _ _=> .trans (Ae9 _ _ _) (by kernel_rfl))
theorem Ae7 (R:Type) (k:Nat):JS Try.prog 106 (AUe (AAT (R:=R) k) k) APm.ls APm.out (.loop (sel [1,1,1,1,1,0,1,0,0] (bd Try.f31))):=lj (x31S R k) (x31J (AAT k) (AAm k) (AAl k) k) (by kernel_rfl) (A:=JS Try.prog 106 (AXZ (AAm (R:=R) k) k) APl.ls APl.out (sel [1,1,1,1,1,0,1,0,0,1,1,0] (bd Try.f31))/\True) ⟨Ae6 R k,trivial⟩ (by kernel_rfl) (λ _ _=> by kernel_rfl) (λ _ _ _=> .trans (AfA _ _ _ _) (by kernel_rfl)) k
theorem AfB (R:Type) (k:Nat):∀args H K r,x31a (AB0 k) args H K=some (r:R)->∃v H',Tri Try.prog 31 args H v H'/\K v H'=some r:=fj (x31S R k) (x31J (AAT k) (AAm k) (AAl k) k) Try.func31 (by kernel_rfl) (A:=JS Try.prog 106 (AUe (AAT (R:=R) k) k) APm.ls APm.out (.loop (sel [1,1,1,1,1,0,1,0,0] (bd Try.f31)))/\JS Try.prog 106 (AXY (AAl (R:=R) k) k) APk.ls APk.out (sel [1,1,1,1,1,1,0] (bd Try.f31))/\True) ⟨Ae7 R k,⟨Ae5 R k,trivial⟩⟩ (by kernel_rfl) (λ _ _=> .trans (x31e _ _ _) (by kernel_rfl))
end
abbrev AH0 (R:Type):Type:=Heap->(Oa->Oa->Nat->Nat->Option R)->(Oa->Nat->Nat->Int->Int->Option R)->Option R
abbrev ADM (R:Type):Type:=Oa->Oa->Nat->Nat->AH0 R
abbrev AJQ (R:Type):Type:=Heap->(Oa->Nat->Nat->Int->Int->Heap->Option R)->Option R
abbrev AEX (R:Type):Type:=Oa->Oa->Nat->Nat->AJQ R
section
variable {R:Type} (f0:AEw R) (f1:AHS R) (f2:AFc R) (z0:ADM R)
def AFY (k:Nat):ADM R:=λ p1 q2 l3 c4 H KN KR=>
bif p1.isNone then (KR none 0 0 0 6)
 else (hnil p1 λ p5=>
hfad 0 p5 λ p6=>
ldB H p6 λ t7=>
bif (!t7) then (KR none 0 0 0 6)
 else (hnil p1 λ p8=>
hfad 1 p8 λ p9=>
ldB H p9 λ t10=>
bif t10 then (KR none 0 0 0 6)
 else (hnil p1 λ p11=>
hfad 10 p11 λ p12=>
ldI .i64 H p12 λ n13=>
bif decide (n13≥16) then (KR none 0 0 0 6)
 else (KN p1 q2 l3 c4))))
def ACF (k:Nat):ADM R:=AFY k
def AGd (k:Nat):AEX R:=λ p1 q2 l3 c4 H K=>
z0 p1 q2 l3 c4 H (λ p14 q15 l16 c17=>
f0 p14 H λ p18 H19=>
f1 q15 l16 c17 H19 λ p20 H21=>
f2 p18 p20 H21 λ q22 l23 c24 n25 n26 H27=>
bif (n26 !=0) then (K none 0 0 0 n26 H27)
 else (hnil p18 λ p28=>
ldB H27 (pad p28 0) λ t29=>
ldB H27 (pad p28 1) λ t30=>
ldB H27 (pad p28 2) λ t31=>
ldB H27 (pad p28 3) λ t32=>
ldB H27 (pad p28 4) λ t33=>
ldB H27 (pad p28 5) λ t34=>
ldB H27 (pad p28 6) λ t35=>
ldB H27 (pad p28 7) λ t36=>
ldL H27 (pad p28 8) λ q37 l38 c39=>
ldL H27 (pad p28 9) λ q40 l41 c42=>
ldI .i64 H27 (pad p28 10) λ n43=>
hnil p14 λ p44=>
hst H27 p44 [.bool t29,.bool t30,.bool t31,.bool t32,.bool t33,.bool t34,.bool t35,.bool t36,.slice q37 l38 c39,.slice q40 l41 c42,.int .i64 n43] λ H45=>
K q22 l23 c24 n25 0 H45)) (λ q46 l47 c48 n49 n50=>
K q46 l47 c48 n49 n50 H)
def ABv (k:Nat):AEX R:=AGd (AEP k) AFw (AB0 k) (ACF k) k
def x16C:Tab R:=tcons 27 (x27a f0) <|tcons 32 (x32a f1) <|tcons 31 (x31a f2) <|λ _ _ _ _=> none
def AP4:PS:=⟨(.seq (.reg [0,1,29] []) (.cond (.seq (.reg [4,5,6] []) .leaf) .leaf)),[0,1],[.p,.l],⟨[0,1],[],[4,5,6]⟩⟩
def AaU (g:AH0 R) (H:Heap) (K:XK R):Option R:=g H (kN .normal [0,1] [.p,.l] K H) (kN .ret [4,5,6] [.l,.n,.n] K H)
def AXs (f:ADM R):Nat->List Value->Heap->XK R->Option R:=jp AP4 AaU f
def x16J (k:Nat):JTab R:=tcons 0 (AXs z0 k) <|λ _ _ _ _=> none
def x16t:AT:=(.seq (.reg [0,1] []) (.seq (.opq 0 AP4.ls AP4.out AP4.t) (.seq (.reg [0,1,7] []) (.seq (.reg [0,4,5,6,7] []) (.seq (.seq (.reg [0,4,5,6,7,41] []) (.cond (.seq (.reg [4,5,6] []) .leaf) .leaf)) (.seq (.reg [4,5] []) (.seq (.reg [4,5,6] []) .leaf)))))))
def x16c (g:AJQ R) (H:Heap) (K:Value->Heap->Option R):Option R:=g H (rH [.l,.n,.n] K)
def x16a (f:AEX R):List Value->Heap->(Value->Heap->Option R)->Option R:=jf 2 [.p,.l] x16c f
variable {f0 f1 f2 z0}
theorem Afs (k:Nat) (H:Heap) (K:XK R):jE Try.prog An 50 (x16C f0 f1 f2) (x16J z0 k) AP4 (sel [1,0] (bd Try.f16)) H K=mapT (λ g=> AaU g H K) AP4.ts (AFY k):=by kernel_rfl
theorem x16e (k:Nat) (H:Heap) (K:Value->Heap->Option R):fE Try.prog An (x16C f0 f1 f2) (x16J z0 k) x16t Try.f16 [.p,.l] H K=mapT (λ g=> x16c g H K) [.p,.l] (AGd f0 f1 f2 z0 k):=by kernel_rfl
theorem x16S (R:Type) (k:Nat):CSound Try.prog (x16C (R:=R) (AEP k) AFw (AB0 k)):=AAB (AfS R k) <|AAB (Ae4 R k) <|AAB (AfB R k) <|AAE
theorem Afr (R:Type) (k:Nat):JS Try.prog 50 (AXs (ACF (R:=R) k) k) AP4.ls AP4.out (sel [1,0] (bd Try.f16)):=pj (x16S R k) (x16J (ACF k) k) (by kernel_rfl) (A:=True) trivial (by kernel_rfl) (λ _ _=> .trans (Afs _ _ _) (by kernel_rfl))
theorem Aft (R:Type) (k:Nat):∀args H K r,x16a (ABv k) args H K=some (r:R)->∃v H',Tri Try.prog 16 args H v H'/\K v H'=some r:=fj (x16S R k) (x16J (ACF k) k) Try.func16 (by kernel_rfl) (A:=JS Try.prog 50 (AXs (ACF (R:=R) k) k) AP4.ls AP4.out (sel [1,0] (bd Try.f16))/\True) ⟨Afr R k,trivial⟩ (by kernel_rfl) (λ _ _=> .trans (x16e _ _ _) (by kernel_rfl))
end
end Go.Proofs.Ytmanlfonppfhaaa.Sh
set_option maxRecDepth 100000
namespace Go.Proofs.Ytmanlfonppfhaaa.Sh
open Go.Proofs.Ytmanlfonppfhaaa.FW
abbrev AMF (R:Type):Type:=(Int->Oa->Option R)->(Oa->Nat->Nat->Option R)->Option R
abbrev AHa (R:Type):Type:=Int->Oa->AMF R
abbrev AMD (R:Type):Type:=Heap->(Oa->Oa->Nat->Nat->Int->Int->Bool->Option R)->Option R
abbrev AHY (R:Type):Type:=Oa->Oa->Nat->Nat->Int->Int->AMD R
abbrev AME (R:Type):Type:=Heap->(Oa->Oa->Nat->Nat->Int->Int->Option R)->Option R
abbrev AHZ (R:Type):Type:=Oa->Oa->Nat->Nat->Int->Int->AME R
abbrev AJd (R:Type):Type:=Oa->Oa->Nat->Nat->Int->Heap->Option R
abbrev AJe (R T:Type):Type:=(Oa->Nat->Nat->Heap->Option R)->T
abbrev AHc (R:Type):Type:=AJe R (Nat->AJd R)
abbrev ANV (R:Type):Type:=Heap->(Oa->Nat->Nat->Heap->Option R)->Option R
abbrev AJr (R:Type):Type:=Int->Bool->Bool->Bool->Bool->Bool->ANV R
section
variable {R:Type} (z0:AHa R) (z1:AHc R) (z2:AHZ R) (z3:AHY R)
def AHb (k:Nat):AHa R:=λ n1 p2 KN KR=>
bif decide (n1 < 1) then (KR none 0 0)
 else (bif decide (n1 > 178) then (KR none 0 0)
 else (KN n1 p2))
def ACR (k:Nat):AHa R:=AHb k
def AJb (k:Nat):AHY R:=λ p1 q2 l3 c4 n5 n6 H KN=>
hfad 0 p1 λ p7=>
ldB H p7 λ t8=>
bif t8 then (KN p1 q2 l3 c4 n5 n6 (((l3:Nat):Int)==0))
 else (KN p1 q2 l3 c4 n5 n6 false)
def ACo (k:Nat):AHY R:=AJb k
def AJc (k:Nat):AHZ R:=λ p1 q2 l3 c4 n5 n6 H KN=>
hfad 1 p1 λ p7=>
ldB H p7 λ t8=>
bif t8 then (KN p1 q2 l3 c4 n5 1)
 else (z3 p1 q2 l3 c4 n5 n6 H (λ p16 q17 l18 c19 n20 n21 t22=>
bif t22 then (KN p16 q17 l18 c19 n20 (imn n20 10))
 else (hfad 0 p16 λ p23=>
ldB H p23 λ t24=>
bif t24 then (KN p16 q17 l18 c19 n20 (imn n20 (IntKind.wrap .i64 (1+(Int.tmod ((l18:Nat):Int) 2)))))
 else (KN p16 q17 l18 c19 n20 n21))))
def ACQ (k:Nat):AHZ R:=AJc (ACo k) k
def AEK (k:Nat):AJe R (AJd R->AJd R):=λ KE0 rec p1 q2 l3 c4 n5 H=>
bif decide (n5 > 0) then (z2 p1 q2 l3 c4 n5 n5 H (λ p12 q13 l14 c15 n16 n17=>
hal H [.int .i64 n17] λ p18 H19=>
happS 1 8 H19 q13 l14 c15 p18 1 λ q20 l21 c22 H23=>
rec p12 q20 l21 c22 (IntKind.wrap .i64 (n16 - n17)) H23))
 else (KE0 q2 l3 c4 H)
def ACS (k:Nat):AHc R
 |KE0,0=> λ _ _ _ _ _ _=> none
 |KE0,n+1=> AEK (ACQ k) k KE0 (ACS k KE0 n)
def AJs (k:Nat):AJr R:=λ n1 t2 t3 t4 t5 t6 H K=>
hal H [.bool t2,.bool t3,.bool t4,.bool t5,.bool t6] λ p7 H8=>
z0 n1 p7 (λ n14 p15=>
z1 (λ q19 l20 c21 H22=>
K q19 l20 c21 H22) k p15 none 0 0 n14 H8) (λ q23 l24 c25=>
K q23 l24 c25 H8)
def AIb (k:Nat):AJr R:=AJs (ACR k) (ACS k) k
def x36C:Tab R:=λ _ _ _ _=> none
def APX:PS:=⟨(.reg [3,5,6,7,26] []),[3,5,6,7],[.p,.l,.n,.n],⟨[3,5,6,7,26],[],[]⟩⟩
def AZ9 (g:AMD R) (H:Heap) (K:XK R):Option R:=g H (kN .normal [3,5,6,7,26] [.p,.l,.n,.n,.b] K H)
def AXL (f:AHY R):Nat->List Value->Heap->XK R->Option R:=jp APX AZ9 f
def APY:PS:=⟨(.seq (.reg [3,5,6,7,19] []) (.cond (.reg [3,5,6,7] []) (.seq (.opq 3 APX.ls APX.out APX.t) (.cond (.reg [3,5,6,7] []) (.seq (.reg [3,5,6,7,30] []) (.cond (.reg [3,5,6,7] []) .leaf)))))),[3,5,6,7],[.p,.l,.n,.n],⟨[3,5,6,7],[],[]⟩⟩
def AaA (g:AME R) (H:Heap) (K:XK R):Option R:=g H (kN .normal [3,5,6,7] [.p,.l,.n,.n] K H)
def AXM (f:AHZ R):Nat->List Value->Heap->XK R->Option R:=jp APY AaA f
def APZ:PS:=⟨(.seq (.seq (.reg [3,5,6,16] []) (.cond .leaf .leaf)) (.node (.seq (.reg [3,5,6,7] []) (.seq (.opq 2 APY.ls APY.out APY.t) (.seq (.reg [3,5,6,7] []) (.reg [3,5,6] [])))))),[3,5,6],[.p,.l,.n],⟨[],[(0,[5])],[]⟩⟩
def AXK {T:Type} (g:AJe R T) (H:Heap) (K:XK R):T:=g (kH (.exit 0) [5] [.l] K)
def AUa (f:AHc R):Nat->List Value->Heap->XK R->Option R:=jl APZ (L:=AHc R) AXK pH f
def APa:PS:=⟨(.seq (.reg [0,3,13] []) (.cond (.seq (.reg [4] []) .leaf) .leaf)),[0,3],[.n,.p],⟨[0,3],[],[4]⟩⟩
def AaB (g:AMF R) (H:Heap) (K:XK R):Option R:=g (kN .normal [0,3] [.n,.p] K H) (kN .ret [4] [.l] K H)
def AXN (f:AHa R):Nat->List Value->Heap->XK R->Option R:=jp APa AaB f
def x36J (k:Nat):JTab R:=tcons 0 (AXN z0 k) <|tcons 1 (AUa z1 k) <|tcons 2 (AXM z2 k) <|tcons 3 (AXL z3 k) <|λ _ _ _ _=> none
def x36t:AT:=(.seq (.reg [0,3] []) (.seq (.opq 0 APa.ls APa.out APa.t) (.seq (.reg [0,3,5] []) (.seq (.reg [3,5,6] []) (.seq (.node (.opq 1 APZ.ls APZ.out (.node APZ.t))) (.seq (.reg [4] []) .leaf))))))
def x36c (g:ANV R) (H:Heap) (K:Value->Heap->Option R):Option R:=g H (rH [.l] K)
def x36a (f:AJr R):List Value->Heap->(Value->Heap->Option R)->Option R:=jf 2 [.n,(.a 5),.b,.b,.b,.b,.b] x36c f
variable {z0 z1 z2 z3}
theorem Aee (k:Nat) (H:Heap) (K:XK R):jE Try.prog An 45 (x36C) (x36J z0 z1 z2 z3 k) APX (sel [1,1,1,1,0,0,0,1,0,1,0,1,1,0] (bd Try.f36)) H K=mapT (λ g=> AZ9 g H K) APX.ts (AJb k):=by kernel_rfl
theorem Aef (k:Nat) (H:Heap) (K:XK R):jE Try.prog An 45 (x36C) (x36J z0 z1 z2 z3 k) APY (sel [1,1,1,1,0,0,0,1,0,1,0] (bd Try.f36)) H K=mapT (λ g=> AaA g H K) APY.ts (AJc z3 k):=by kernel_rfl
theorem Aeg (k n:Nat) (H:Heap) (K:XK R):lE Try.prog An 45 (x36C) (x36J z0 z1 z2 z3 k) APZ (sel [1,1,1,1,0,0,0] (bd Try.f36)) (AUa z1) n H K=mapT (λ g=> pH g H) APZ.ts (AXK (AEK z2 k) H K (AXK z1 H K n)):=by kernel_rfl
theorem Aeh (k:Nat) (H:Heap) (K:XK R):jE Try.prog An 45 (x36C) (x36J z0 z1 z2 z3 k) APa (sel [1,0] (bd Try.f36)) H K=mapT (λ g=> AaB g H K) APa.ts (AHb k):=by kernel_rfl
theorem x36e (k:Nat) (H:Heap) (K:Value->Heap->Option R):fE Try.prog An (x36C) (x36J z0 z1 z2 z3 k) x36t Try.f36 [.n,(.a 5),.b,.b,.b,.b,.b] H K=mapT (λ g=> x36c g H K) [.n,(.a 5),.b,.b,.b,.b,.b] (AJs z0 z1 k):=by kernel_rfl
theorem x36S (R:Type) (k:Nat):CSound Try.prog (x36C (R:=R)):=AAE
theorem Aea (R:Type) (k:Nat):JS Try.prog 45 (AXL (ACo (R:=R) k) k) APX.ls APX.out (sel [1,1,1,1,0,0,0,1,0,1,0,1,1,0] (bd Try.f36)):=pj (x36S R k) (x36J (ACR k) (ACS k) (ACQ k) (ACo k) k) (by kernel_rfl) (A:=True) trivial (by kernel_rfl) (λ _ _=> .trans (Aee _ _ _) (by kernel_rfl))
theorem Aeb (R:Type) (k:Nat):JS Try.prog 45 (AXM (ACQ (R:=R) k) k) APY.ls APY.out (sel [1,1,1,1,0,0,0,1,0,1,0] (bd Try.f36)):=pj (x36S R k) (x36J (ACR k) (ACS k) (ACQ k) (ACo k) k) (by kernel_rfl) (A:=JS Try.prog 45 (AXL (ACo (R:=R) k) k) APX.ls APX.out (sel [1,1,1,1,0,0,0,1,0,1,0,1,1,0] (bd Try.f36))/\True) ⟨Aea R k,trivial⟩ (by kernel_rfl) (λ _ _=> .trans (Aef _ _ _) (by kernel_rfl))
theorem Aec (R:Type) (k:Nat):JS Try.prog 45 (AUa (ACS (R:=R) k) k) APZ.ls APZ.out (.loop (sel [1,1,1,1,0,0,0] (bd Try.f36))):=lj (x36S R k) (x36J (ACR k) (ACS k) (ACQ k) (ACo k) k) (by kernel_rfl) (A:=JS Try.prog 45 (AXM (ACQ (R:=R) k) k) APY.ls APY.out (sel [1,1,1,1,0,0,0,1,0,1,0] (bd Try.f36))/\True) ⟨Aeb R k,trivial⟩ (by kernel_rfl) (λ _ _=> by kernel_rfl) (λ _ _ _=> .trans (Aeg _ _ _ _) (by kernel_rfl)) k
theorem Aed (R:Type) (k:Nat):JS Try.prog 45 (AXN (ACR (R:=R) k) k) APa.ls APa.out (sel [1,0] (bd Try.f36)):=pj (x36S R k) (x36J (ACR k) (ACS k) (ACQ k) (ACo k) k) (by kernel_rfl) (A:=True) trivial (by kernel_rfl) (λ _ _=> .trans (Aeh _ _ _) (by kernel_rfl))
theorem Aei (R:Type) (k:Nat):∀args H K r,x36a (AIb k) args H K=some (r:R)->∃v H',Tri Try.prog 36 args H v H'/\K v H'=some r:=fj (x36S R k) (x36J (ACR k) (ACS k) (ACQ k) (ACo k) k) Try.func36 (by kernel_rfl) (A:=JS Try.prog 45 (AXN (ACR (R:=R) k) k) APa.ls APa.out (sel [1,0] (bd Try.f36))/\JS Try.prog 45 (AUa (ACS (R:=R) k) k) APZ.ls APZ.out (.loop (sel [1,1,1,1,0,0,0] (bd Try.f36)))/\True) ⟨Aed R k,⟨Aec R k,trivial⟩⟩ (by kernel_rfl) (λ _ _=> .trans (x36e _ _ _) (by kernel_rfl))
end
abbrev ANU (R:Type):Type:=(Int->Int->Oa->Option R)->(Oa->Nat->Nat->Option R)->Option R
abbrev AJp (R:Type):Type:=Int->Int->Oa->ANU R
abbrev ANT (R:Type):Type:=Heap->(Int->Int->Oa->Nat->Nat->Int->Oa->Nat->Nat->Int->Heap->Option R)->Option R
abbrev AJn (R:Type):Type:=Int->Int->Oa->Nat->Nat->Int->Oa->Nat->Nat->Int->ANT R
abbrev AL2 (R:Type):Type:=Int->Int->Oa->Nat->Nat->Int->Oa->Nat->Nat->Int->Heap->Option R
abbrev AL3 (R T:Type):Type:=(Oa->Nat->Nat->Heap->Option R)->T
abbrev AJq (R:Type):Type:=AL3 R (Nat->AL2 R)
abbrev AOb (R:Type):Type:=Heap->(Oa->Nat->Nat->Heap->Option R)->Option R
abbrev AMS (R:Type):Type:=Int->Int->Bool->Bool->Bool->Bool->Bool->AOb R
section
variable {R:Type} (f0:AJr R) (z0:AJp R) (z1:AJq R) (z2:AJn R)
def AFZ (k:Nat):AJp R:=λ n1 n2 p3 KN KR=>
bif decide (n1 < 0) then (KR none 0 0)
 else (bif decide (n2 < 1) then (KR none 0 0)
 else (bif decide (n1 > 178) then (KR none 0 0)
 else (bif decide (n2 > (IntKind.wrap .i64 (178 - n1))) then (KR none 0 0)
 else (KN n1 n2 p3))))
def ACv (k:Nat):AJp R:=AFZ k
def AJo (k:Nat):AJn R:=λ n1 n2 q3 l4 c5 n6 q7 l8 c9 n10 H KN=>
hidx q7 l8 n10 1 λ p11=>
ldI .i64 H p11 λ n12=>
bif decide ((IntKind.wrap .i64 ((imn (IntKind.wrap .i64 (n6+n12)) (IntKind.wrap .i64 (n1+n2))) - (imx n6 n1))) > 0) then (hal H [.int .i64 (IntKind.wrap .i64 ((imn (IntKind.wrap .i64 (n6+n12)) (IntKind.wrap .i64 (n1+n2))) - (imx n6 n1)))] λ p13 H14=>
happS 1 8 H14 q3 l4 c5 p13 1 λ q15 l16 c17 H18=>
KN n1 n2 q15 l16 c17 (IntKind.wrap .i64 (n6+n12)) q7 l8 c9 n10 H18)
 else (KN n1 n2 q3 l4 c5 (IntKind.wrap .i64 (n6+n12)) q7 l8 c9 n10 H)
def AFI (k:Nat):AJn R:=AJo k
def AH1 (k:Nat):AL3 R (AL2 R->AL2 R):=λ KE0 rec n1 n2 q3 l4 c5 n6 q7 l8 c9 n10 H=>
bif decide (n10 < ((l8:Nat):Int)) then (z2 n1 n2 q3 l4 c5 n6 q7 l8 c9 n10 H (λ n21 n22 q23 l24 c25 n26 q27 l28 c29 n30 H31=>
rec n21 n22 q23 l24 c25 n26 q27 l28 c29 (IntKind.wrap .i64 (n30+1)) H31))
 else (KE0 q3 l4 c5 H)
def ACw (k:Nat):AJq R
 |KE0,0=> λ _ _ _ _ _ _ _ _ _ _ _=> none
 |KE0,n+1=> AH1 (AFI k) k KE0 (ACw k KE0 n)
def AIR (k:Nat):AMS R:=λ n1 n2 t3 t4 t5 t6 t7 H K=>
hal H [.bool t3,.bool t4,.bool t5,.bool t6,.bool t7] λ p8 H9=>
z0 n1 n2 p8 (λ n16 n17 p18=>
ldB H9 (pad p18 0) λ t19=>
ldB H9 (pad p18 1) λ t20=>
ldB H9 (pad p18 2) λ t21=>
ldB H9 (pad p18 3) λ t22=>
ldB H9 (pad p18 4) λ t23=>
f0 178 t19 t20 t21 t22 t23 H9 λ q24 l25 c26 H27=>
z1 (λ q31 l32 c33 H34=>
K q31 l32 c33 H34) k n16 n17 none 0 0 0 q24 l25 c26 0 H27) (λ q35 l36 c37=>
K q35 l36 c37 H9)
def AHJ (k:Nat):AMS R:=AIR (AIb k) (ACv k) (ACw k) k
def x21C:Tab R:=tcons 36 (x36a f0) <|λ _ _ _ _=> none
def APu:PS:=⟨(.node (.seq (.reg [0,1,7,8,9,10,11] []) (.seq (.reg [0,1,7,8,9,10,11] []) (.seq (.reg [0,1,7,8,9,10,12] []) (.seq (.reg [0,1,7,8,9,10,12,54] []) (.cond (.reg [0,1,7,8,9,10] []) .leaf)))))),[0,1,7,8,9,10],[.n,.n,.l,.n,.l,.n],⟨[0,1,7,8,9,10],[],[]⟩⟩
def AaO (g:ANT R) (H:Heap) (K:XK R):Option R:=g H (kH .normal [0,1,7,8,9,10] [.n,.n,.l,.n,.l,.n] K)
def AXj (f:AJn R):Nat->List Value->Heap->XK R->Option R:=jp APu AaO f
def APv:PS:=⟨(.seq (.seq (.reg [0,1,7,8,9,10,34] []) (.cond .leaf .leaf)) (.seq (.opq 2 APu.ls APu.out APu.t) (.reg [0,1,7,8,9,10] []))),[0,1,7,8,9,10],[.n,.n,.l,.n,.l,.n],⟨[],[(0,[7])],[]⟩⟩
def AXi {T:Type} (g:AL3 R T) (H:Heap) (K:XK R):T:=g (kH (.exit 0) [7] [.l] K)
def AUi (f:AJq R):Nat->List Value->Heap->XK R->Option R:=jl APv (L:=AJq R) AXi pH f
def APw:PS:=⟨(.seq (.reg [0,1,5,28] []) (.cond (.seq (.reg [6] []) .leaf) .leaf)),[0,1,5],[.n,.n,.p],⟨[0,1,5],[],[6]⟩⟩
def AaP (g:ANU R) (H:Heap) (K:XK R):Option R:=g (kN .normal [0,1,5] [.n,.n,.p] K H) (kN .ret [6] [.l] K H)
def AXk (f:AJp R):Nat->List Value->Heap->XK R->Option R:=jp APw AaP f
def x21J (k:Nat):JTab R:=tcons 0 (AXk z0 k) <|tcons 1 (AUi z1 k) <|tcons 2 (AXj z2 k) <|λ _ _ _ _=> none
def x21t:AT:=(.seq (.reg [0,1,5] []) (.seq (.opq 0 APw.ls APw.out APw.t) (.seq (.reg [0,1,5,7] []) (.seq (.reg [0,1,5,7,8] []) (.seq (.reg [0,1,7,8,9] []) (.seq (.seq (.reg [0,1,7,8,9,10] []) (.node (.opq 1 APv.ls APv.out (.node APv.t)))) (.seq (.reg [6] []) .leaf)))))))
def x21c (g:AOb R) (H:Heap) (K:Value->Heap->Option R):Option R:=g H (rH [.l] K)
def x21a (f:AMS R):List Value->Heap->(Value->Heap->Option R)->Option R:=jf 3 [.n,.n,(.a 5),.b,.b,.b,.b,.b] x21c f
variable {f0 z0 z1 z2}
theorem AfW (k:Nat) (H:Heap) (K:XK R):jE Try.prog An 60 (x21C f0) (x21J z0 z1 z2 k) APu (sel [1,1,1,1,1,0,1,0,0,1,0] (bd Try.f21)) H K=mapT (λ g=> AaO g H K) APu.ts (AJo k):=by kernel_rfl
theorem AfX (k n:Nat) (H:Heap) (K:XK R):lE Try.prog An 60 (x21C f0) (x21J z0 z1 z2 k) APv (sel [1,1,1,1,1,0,1,0,0] (bd Try.f21)) (AUi z1) n H K=mapT (λ g=> pH g H) APv.ts (AXi (AH1 z2 k) H K (AXi z1 H K n)):=by kernel_rfl
theorem AfY (k:Nat) (H:Heap) (K:XK R):jE Try.prog An 60 (x21C f0) (x21J z0 z1 z2 k) APw (sel [1,0] (bd Try.f21)) H K=mapT (λ g=> AaP g H K) APw.ts (AFZ k):=by kernel_rfl
theorem x21e (k:Nat) (H:Heap) (K:Value->Heap->Option R):fE Try.prog An (x21C f0) (x21J z0 z1 z2 k) x21t Try.f21 [.n,.n,(.a 5),.b,.b,.b,.b,.b] H K=mapT (λ g=> x21c g H K) [.n,.n,(.a 5),.b,.b,.b,.b,.b] (AIR f0 z0 z1 k):=by kernel_rfl
theorem x21S (R:Type) (k:Nat):CSound Try.prog (x21C (R:=R) (AIb k)):=AAB (Aei R k) <|AAE
theorem AfT (R:Type) (k:Nat):JS Try.prog 60 (AXj (AFI (R:=R) k) k) APu.ls APu.out (sel [1,1,1,1,1,0,1,0,0,1,0] (bd Try.f21)):=pj (x21S R k) (x21J (ACv k) (ACw k) (AFI k) k) (by kernel_rfl) (A:=True) trivial (by kernel_rfl) (λ _ _=> .trans (AfW _ _ _) (by kernel_rfl))
theorem AfU (R:Type) (k:Nat):JS Try.prog 60 (AUi (ACw (R:=R) k) k) APv.ls APv.out (.loop (sel [1,1,1,1,1,0,1,0,0] (bd Try.f21))):=lj (x21S R k) (x21J (ACv k) (ACw k) (AFI k) k) (by kernel_rfl) (A:=JS Try.prog 60 (AXj (AFI (R:=R) k) k) APu.ls APu.out (sel [1,1,1,1,1,0,1,0,0,1,0] (bd Try.f21))/\True) ⟨AfT R k,trivial⟩ (by kernel_rfl) (λ _ _=> by kernel_rfl) (λ _ _ _=> .trans (AfX _ _ _ _) (by kernel_rfl)) k
theorem AfV (R:Type) (k:Nat):JS Try.prog 60 (AXk (ACv (R:=R) k) k) APw.ls APw.out (sel [1,0] (bd Try.f21)):=pj (x21S R k) (x21J (ACv k) (ACw k) (AFI k) k) (by kernel_rfl) (A:=True) trivial (by kernel_rfl) (λ _ _=> .trans (AfY _ _ _) (by kernel_rfl))
theorem AfZ (R:Type) (k:Nat):∀args H K r,x21a (AHJ k) args H K=some (r:R)->∃v H',Tri Try.prog 21 args H v H'/\K v H'=some r:=fj (x21S R k) (x21J (ACv k) (ACw k) (AFI k) k) Try.func21 (by kernel_rfl) (A:=JS Try.prog 60 (AXk (ACv (R:=R) k) k) APw.ls APw.out (sel [1,0] (bd Try.f21))/\JS Try.prog 60 (AUi (ACw (R:=R) k) k) APv.ls APv.out (.loop (sel [1,1,1,1,1,0,1,0,0] (bd Try.f21)))/\True) ⟨AfV R k,⟨AfU R k,trivial⟩⟩ (by kernel_rfl) (λ _ _=> .trans (x21e _ _ _) (by kernel_rfl))
end
end Go.Proofs.Ytmanlfonppfhaaa.Sh
set_option maxRecDepth 100000
namespace Go.Proofs.Ytmanlfonppfhaaa.Sh
open Go.Proofs.Ytmanlfonppfhaaa.FW
abbrev ANj (R:Type):Type:=Heap->(Oa->Nat->Nat->Oa->Nat->Nat->Int->Option R)->(Bool->Option R)->Option R
abbrev AKm (R:Type):Type:=Oa->Nat->Nat->Oa->Nat->Nat->Int->ANj R
abbrev AMN (R:Type):Type:=Oa->Nat->Nat->Oa->Nat->Nat->Int->Int->Heap->Option R
abbrev AMO (R T:Type):Type:=(Oa->Nat->Nat->Oa->Nat->Nat->Int->Option R)->(Bool->Option R)->T
abbrev AKn (R:Type):Type:=AMO R (Nat->AMN R)
abbrev AMP (R:Type):Type:=Oa->Nat->Nat->Oa->Nat->Nat->Int->Heap->Option R
abbrev AMQ (R T:Type):Type:=(Unit->Option R)->(Bool->Option R)->T
abbrev AKp (R:Type):Type:=AMQ R (Nat->AMP R)
abbrev AQf (R:Type):Type:=Heap->(Bool->Option R)->Option R
abbrev ANK (R:Type):Type:=Oa->Nat->Nat->Oa->Nat->Nat->AQf R
section
variable {R:Type} (z0:AKp R) (z1:AKm R) (z2:AKn R)
def AMM (k:Nat):AKm R:=λ q1 l2 c3 q4 l5 c6 n7 H KN KR=>
hidx q1 l2 n7 3 λ p8=>
hfad 0 p8 λ p9=>
ldI .i64 H p9 λ n10=>
hidx q4 l5 n7 3 λ p11=>
hfad 0 p11 λ p12=>
ldI .i64 H p12 λ n13=>
bif (n10 !=n13) then (KR false)
 else (hidx q1 l2 n7 3 λ p14=>
hfad 1 p14 λ p15=>
ldI .i64 H p15 λ n16=>
hidx q4 l5 n7 3 λ p17=>
hfad 1 p17 λ p18=>
ldI .i64 H p18 λ n19=>
bif (n16 !=n19) then (KR false)
 else (hidx q1 l2 n7 3 λ p20=>
hfad 2 p20 λ p21=>
ldL H p21 λ q22 l23 c24=>
hidx q4 l5 n7 3 λ p25=>
hfad 2 p25 λ p26=>
ldL H p26 λ q27 l28 c29=>
bif (((l23:Nat):Int) !=((l28:Nat):Int)) then (KR false)
 else (KN q1 l2 c3 q4 l5 c6 n7)))
def AHI (k:Nat):AKm R:=AMM k
def AKo (k:Nat):AMO R (AMN R->AMN R):=λ KE2 KR rec q1 l2 c3 q4 l5 c6 n7 n8 H=>
hidx q1 l2 n7 3 λ p9=>
hfad 2 p9 λ p10=>
ldL H p10 λ q11 l12 c13=>
bif decide (n8 < ((l12:Nat):Int)) then (hidx q1 l2 n7 3 λ p14=>
hfad 2 p14 λ p15=>
ldL H p15 λ q16 l17 c18=>
hidx q16 l17 n8 1 λ p19=>
ldI .i64 H p19 λ n20=>
hidx q4 l5 n7 3 λ p21=>
hfad 2 p21 λ p22=>
ldL H p22 λ q23 l24 c25=>
hidx q23 l24 n8 1 λ p26=>
ldI .i64 H p26 λ n27=>
bif (n20 !=n27) then (KR false)
 else (rec q1 l2 c3 q4 l5 c6 n7 (IntKind.wrap .i64 (n8+1)) H))
 else (KE2 q1 l2 c3 q4 l5 c6 n7)
def AEU (k:Nat):AKn R
 |KE2,KR,0=> λ _ _ _ _ _ _ _ _ _=> none
 |KE2,KR,n+1=> AKo k KE2 KR (AEU k KE2 KR n)
def AKq (k:Nat):AMQ R (AMP R->AMP R):=λ KE0 KR rec q1 l2 c3 q4 l5 c6 n7 H=>
bif decide (n7 < ((l2:Nat):Int)) then (z1 q1 l2 c3 q4 l5 c6 n7 H (λ q16 l17 c18 q19 l20 c21 n22=>
z2 (λ q31 l32 c33 q34 l35 c36 n37=>
rec q31 l32 c33 q34 l35 c36 (IntKind.wrap .i64 (n37+1)) H) (λ t38=>
KR t38) k q16 l17 c18 q19 l20 c21 n22 0 H) (λ t39=>
KR t39))
 else (KE0 ())
def AEV (k:Nat):AKp R
 |KE0,KR,0=> λ _ _ _ _ _ _ _ _=> none
 |KE0,KR,n+1=> AKq (AHI k) (AEU k) k KE0 KR (AEV k KE0 KR n)
def ANw (k:Nat):ANK R:=λ q1 l2 c3 q4 l5 c6 H K=>
bif (((l2:Nat):Int) !=((l5:Nat):Int)) then (K false)
 else (z0 (λ (_:Unit)=>
K true) (λ t8=>
K t8) k q1 l2 c3 q4 l5 c6 0 H)
def AMR (k:Nat):ANK R:=ANw (AEV k) k
def x18C:Tab R:=λ _ _ _ _=> none
def AP0:PS:=⟨(.seq (.seq (.reg [0,1,5,6,64] []) (.cond .leaf .leaf)) (.seq (.node (.seq (.reg [0,1,5,6,83] (ms [0,0,3,7,15,0,63,127,0,0,768,1792,3840,0,16128,32512,65535])) (.cond (.seq (.reg [4] []) .leaf) .leaf))) (.reg [0,1,5,6] []))),[0,1,5,6],[.l,.l,.n,.n],⟨[],[(2,[0,1,5])],[4]⟩⟩
def AXo {T:Type} (g:AMO R T) (H:Heap) (K:XK R):T:=g (kN (.exit 2) [0,1,5] [.l,.l,.n] K H) (kN .ret [4] [.b] K H)
def AUk (f:AKn R):Nat->List Value->Heap->XK R->Option R:=jl AP0 (L:=AKn R) AXo pH f
def AP1:PS:=⟨(.seq (.reg [0,1,5,56] (ms [0,0,3,7,15,0,0,96,224,480,1023,2047,4095,4095,16383,32767,65535,4095,4095,397311,921599,1970175,4194303,8388607,16777215,33554431,33554431,134217727,268435455,536870911,1073741823,33554431,33554431,6476005375,15065939967,32245809151,66605547519,137438953471,274877906943])) (.cond (.seq (.reg [4] []) .leaf) .leaf)),[0,1,5],[.l,.l,.n],⟨[0,1,5],[],[4]⟩⟩
def AaS (g:ANj R) (H:Heap) (K:XK R):Option R:=g H (kN .normal [0,1,5] [.l,.l,.n] K H) (kN .ret [4] [.b] K H)
def AXq (f:AKm R):Nat->List Value->Heap->XK R->Option R:=jp AP1 AaS f
def AP2:PS:=⟨(.seq (.seq (.reg [0,1,5,15] []) (.cond .leaf .leaf)) (.seq (.node (.seq (.opq 1 AP1.ls AP1.out AP1.t) (.seq (.reg [0,1,5,6] []) (.node (.opq 2 AP0.ls AP0.out (.node AP0.t)))))) (.reg [0,1,5] []))),[0,1,5],[.l,.l,.n],⟨[],[(0,[])],[4]⟩⟩
def AXp {T:Type} (g:AMQ R T) (H:Heap) (K:XK R):T:=g (kU (.exit 0) K H) (kN .ret [4] [.b] K H)
def AUl (f:AKp R):Nat->List Value->Heap->XK R->Option R:=jl AP2 (L:=AKp R) AXp pH f
def x18J (k:Nat):JTab R:=tcons 0 (AUl z0 k) <|tcons 1 (AXq z1 k) <|tcons 2 (AUk z2 k) <|λ _ _ _ _=> none
def x18t:AT:=(.seq (.reg [0,1] []) (.seq (.seq (.reg [0,1,11] []) (.cond (.seq (.reg [4] []) .leaf) .leaf)) (.seq (.seq (.reg [0,1,5] []) (.node (.opq 0 AP2.ls AP2.out (.node AP2.t)))) (.seq (.reg [4] []) .leaf))))
def x18c (g:AQf R) (H:Heap) (K:Value->Heap->Option R):Option R:=g H (rN [.b] K H)
def x18a (f:ANK R):List Value->Heap->(Value->Heap->Option R)->Option R:=jf 2 [.l,.l] x18c f
variable {z0 z1 z2}
theorem Afk (k n:Nat) (H:Heap) (K:XK R):lE Try.prog An 84 (x18C) (x18J z0 z1 z2 k) AP0 (sel [1,1,0,1,0,0,1,0,0,1,1,0,0] (bd Try.f18)) (AUk z2) n H K=mapT (λ g=> pH g H) AP0.ts (AXo (AKo k) H K (AXo z2 H K n)):=by kernel_rfl
theorem Afl (k:Nat) (H:Heap) (K:XK R):jE Try.prog An 84 (x18C) (x18J z0 z1 z2 k) AP1 (sel [1,1,0,1,0,0,1,0,0,0] (bd Try.f18)) H K=mapT (λ g=> AaS g H K) AP1.ts (AMM k):=by kernel_rfl
theorem Afm (k n:Nat) (H:Heap) (K:XK R):lE Try.prog An 84 (x18C) (x18J z0 z1 z2 k) AP2 (sel [1,1,0,1,0,0] (bd Try.f18)) (AUl z0) n H K=mapT (λ g=> pH g H) AP2.ts (AXp (AKq z1 z2 k) H K (AXp z0 H K n)):=by kernel_rfl
theorem x18e (k:Nat) (H:Heap) (K:Value->Heap->Option R):fE Try.prog An (x18C) (x18J z0 z1 z2 k) x18t Try.f18 [.l,.l] H K=mapT (λ g=> x18c g H K) [.l,.l] (ANw z0 k):=by kernel_rfl
theorem x18S (R:Type) (k:Nat):CSound Try.prog (x18C (R:=R)):=AAE
theorem Afh (R:Type) (k:Nat):JS Try.prog 84 (AUk (AEU (R:=R) k) k) AP0.ls AP0.out (.loop (sel [1,1,0,1,0,0,1,0,0,1,1,0,0] (bd Try.f18))):=lj (x18S R k) (x18J (AEV k) (AHI k) (AEU k) k) (by kernel_rfl) (A:=True) trivial (by kernel_rfl) (λ _ _=> by kernel_rfl) (λ _ _ _=> .trans (Afk _ _ _ _) (by kernel_rfl)) k
theorem Afi (R:Type) (k:Nat):JS Try.prog 84 (AXq (AHI (R:=R) k) k) AP1.ls AP1.out (sel [1,1,0,1,0,0,1,0,0,0] (bd Try.f18)):=pj (x18S R k) (x18J (AEV k) (AHI k) (AEU k) k) (by kernel_rfl) (A:=True) trivial (by kernel_rfl) (λ _ _=> .trans (Afl _ _ _) (by kernel_rfl))
theorem Afj (R:Type) (k:Nat):JS Try.prog 84 (AUl (AEV (R:=R) k) k) AP2.ls AP2.out (.loop (sel [1,1,0,1,0,0] (bd Try.f18))):=lj (x18S R k) (x18J (AEV k) (AHI k) (AEU k) k) (by kernel_rfl) (A:=JS Try.prog 84 (AXq (AHI (R:=R) k) k) AP1.ls AP1.out (sel [1,1,0,1,0,0,1,0,0,0] (bd Try.f18))/\JS Try.prog 84 (AUk (AEU (R:=R) k) k) AP0.ls AP0.out (.loop (sel [1,1,0,1,0,0,1,0,0,1,1,0,0] (bd Try.f18)))/\True) ⟨Afi R k,⟨Afh R k,trivial⟩⟩ (by kernel_rfl) (λ _ _=> by kernel_rfl) (λ _ _ _=> .trans (Afm _ _ _ _) (by kernel_rfl)) k
theorem Afn (R:Type) (k:Nat):∀args H K r,x18a (AMR k) args H K=some (r:R)->∃v H',Tri Try.prog 18 args H v H'/\K v H'=some r:=fj (x18S R k) (x18J (AEV k) (AHI k) (AEU k) k) Try.func18 (by kernel_rfl) (A:=JS Try.prog 84 (AUl (AEV (R:=R) k) k) AP2.ls AP2.out (.loop (sel [1,1,0,1,0,0] (bd Try.f18)))/\True) ⟨Afj R k,trivial⟩ (by kernel_rfl) (λ _ _=> .trans (x18e _ _ _) (by kernel_rfl))
end
abbrev AQh (R:Type):Type:=Heap->(Oa->Nat->Nat->Oa->Option R)->(Bool->Option R)->Option R
abbrev ANM (R:Type):Type:=Oa->Nat->Nat->Oa->AQh R
abbrev AQg (R:Type):Type:=Heap->(Oa->Nat->Nat->Int->Oa->Option R)->(Bool->Option R)->Option R
abbrev ANL (R:Type):Type:=Oa->Nat->Nat->Int->Oa->AQg R
abbrev ANz (R:Type):Type:=Oa->Nat->Nat->Int->Oa->Int->Heap->Option R
abbrev AN0 (R T:Type):Type:=(Oa->Nat->Nat->Int->Option R)->(Bool->Option R)->T
abbrev ANN (R:Type):Type:=AN0 R (Nat->ANz R)
abbrev AN2 (R:Type):Type:=Oa->Nat->Nat->Int->Heap->Option R
abbrev AN3 (R T:Type):Type:=(Heap->Option R)->(Bool->Heap->Option R)->T
abbrev ANO (R:Type):Type:=AN3 R (Nat->AN2 R)
abbrev AT6 (R:Type):Type:=Heap->(Bool->Heap->Option R)->Option R
abbrev AQ5 (R:Type):Type:=Oa->Nat->Nat->Oa->Nat->Nat->Bool->Bool->Bool->Bool->Bool->Oa->Nat->Nat->AT6 R
section
variable {R:Type} (f0:AMs R) (f1:AGz R) (z0:ANM R) (z1:ANO R) (z2:ANL R) (z3:ANN R)
def AMJ (k:Nat):ANM R:=λ q1 l2 c3 p4 H KN KR=>
hfad 0 p4 λ p5=>
ldL H p5 λ q6 l7 c8=>
bif decide (((l7:Nat):Int) > 10) then (KR false)
 else (hfad 1 p4 λ p9=>
ldL H p9 λ q10 l11 c12=>
bif decide (((l11:Nat):Int) > 10) then (KR false)
 else (bif decide (((l2:Nat):Int) > 24) then (KR false)
 else (KN q1 l2 c3 p4)))
def AIL (k:Nat):ANM R:=AMJ k
def ANx (k:Nat):ANL R:=λ q1 l2 c3 n4 p5 H KN KR=>
hfad 1 p5 λ p6=>
ldL H p6 λ q7 l8 c9=>
bif decide (((l8:Nat):Int) > 50) then (KR false)
 else (hfad 2 p5 λ p10=>
ldL H p10 λ q11 l12 c13=>
bif decide (((l12:Nat):Int) > 50) then (KR false)
 else (hfad 3 p5 λ p14=>
ldL H p14 λ q15 l16 c17=>
bif decide (((l16:Nat):Int) > 50) then (KR false)
 else (hfad 4 p5 λ p18=>
ldL H p18 λ q19 l20 c21=>
bif decide (((l20:Nat):Int) > 400) then (KR false)
 else (KN q1 l2 c3 n4 p5))))
def AKr (k:Nat):ANL R:=ANx k
def AN1 (k:Nat):AN0 R (ANz R->ANz R):=λ KE2 KR rec q1 l2 c3 n4 p5 n6 H=>
hfad 3 p5 λ p7=>
ldL H p7 λ q8 l9 c10=>
bif decide (n6 < ((l9:Nat):Int)) then (hfad 3 p5 λ p11=>
ldL H p11 λ q12 l13 c14=>
hidx q12 l13 n6 3 λ p15=>
hfad 2 p15 λ p16=>
ldL H p16 λ q17 l18 c19=>
bif decide (((l18:Nat):Int) > 20) then (KR false)
 else (rec q1 l2 c3 n4 p5 (IntKind.wrap .i64 (n6+1)) H))
 else (KE2 q1 l2 c3 n4)
def AJN (k:Nat):ANN R
 |KE2,KR,0=> λ _ _ _ _ _ _ _=> none
 |KE2,KR,n+1=> AN1 k KE2 KR (AJN k KE2 KR n)
def ANP (k:Nat):AN3 R (AN2 R->AN2 R):=λ KE0 KR rec q1 l2 c3 n4 H=>
bif decide (n4 < ((l2:Nat):Int)) then (hidx q1 l2 n4 5 λ p5=>
ldI .i64 H (pad p5 0) λ n6=>
ldL H (pad p5 1) λ q7 l8 c9=>
ldL H (pad p5 2) λ q10 l11 c12=>
ldL H (pad p5 3) λ q13 l14 c15=>
ldL H (pad p5 4) λ q16 l17 c18=>
hal H [.int .i64 0,.slice none 0 0,.slice none 0 0,.slice none 0 0,.slice none 0 0] λ p19 H20=>
hst H20 p19 [.int .i64 n6,.slice q7 l8 c9,.slice q10 l11 c12,.slice q13 l14 c15,.slice q16 l17 c18] λ H21=>
z2 q1 l2 c3 n4 p19 H21 (λ q28 l29 c30 n31 p32=>
z3 (λ q38 l39 c40 n41=>
rec q38 l39 c40 (IntKind.wrap .i64 (n41+1)) H21) (λ t42=>
KR t42 H21) k q28 l29 c30 n31 p32 0 H21) (λ t43=>
KR t43 H21))
 else (KE0 H)
def AG4 (k:Nat):ANO R
 |KE0,KR,0=> λ _ _ _ _ _=> none
 |KE0,KR,n+1=> ANP (AKr k) (AJN k) k KE0 KR (AG4 k KE0 KR n)
def ARl (k:Nat):AQ5 R:=λ q1 l2 c3 q4 l5 c6 t7 t8 t9 t10 t11 q12 l13 c14 H K=>
hal H [.slice q1 l2 c3,.slice q4 l5 c6,.bool t7,.bool t8,.bool t9,.bool t10,.bool t11] λ p15 H16=>
z0 q12 l13 c14 p15 H16 (λ q22 l23 c24 p25=>
hfad 0 p25 λ p26=>
ldL H16 p26 λ q27 l28 c29=>
hfad 1 p25 λ p30=>
ldL H16 p30 λ q31 l32 c33=>
hfad 2 p25 λ p34=>
ldB H16 (pad p34 0) λ t35=>
ldB H16 (pad p34 1) λ t36=>
ldB H16 (pad p34 2) λ t37=>
ldB H16 (pad p34 3) λ t38=>
ldB H16 (pad p34 4) λ t39=>
f0 q27 l28 c29 q31 l32 c33 t35 t36 t37 t38 t39 H16 λ p40 n41 H42=>
f1 p40 H42 λ n43=>
bif decide (n43 > 40) then (K false H42)
 else (z1 (λ H45=>
K true H45) (λ t46 H47=>
K t46 H47) k q22 l23 c24 0 H42)) (λ t48=>
K t48 H16)
def ARm (k:Nat):AQ5 R:=ARl (AKS k) ADq (AIL k) (AG4 k) k
def x15C:Tab R:=tcons 11 (x11a f0) <|tcons 13 (x13a f1) <|λ _ _ _ _=> none
def AP5:PS:=⟨(.seq (.seq (.reg [1,7,8,9,74] []) (.cond .leaf .leaf)) (.seq (.node (.seq (.reg [1,7,8,9,84] []) (.cond (.seq (.reg [4] []) .leaf) .leaf))) (.reg [1,7,8,9] []))),[1,7,8,9],[.l,.n,.p,.n],⟨[],[(2,[1,7])],[4]⟩⟩
def AXt {T:Type} (g:AN0 R T) (H:Heap) (K:XK R):T:=g (kN (.exit 2) [1,7] [.l,.n] K H) (kN .ret [4] [.b] K H)
def AUm (f:ANN R):Nat->List Value->Heap->XK R->Option R:=jl AP5 (L:=ANN R) AXt pH f
def AP6:PS:=⟨(.seq (.reg [1,7,8,69] []) (.cond (.seq (.reg [4] []) .leaf) .leaf)),[1,7,8],[.l,.n,.p],⟨[1,7,8],[],[4]⟩⟩
def AaV (g:AQg R) (H:Heap) (K:XK R):Option R:=g H (kN .normal [1,7,8] [.l,.n,.p] K H) (kN .ret [4] [.b] K H)
def AXv (f:ANL R):Nat->List Value->Heap->XK R->Option R:=jp AP6 AaV f
def AP7:PS:=⟨(.seq (.seq (.reg [1,7,41] []) (.cond .leaf .leaf)) (.seq (.node (.seq (.reg [1,7,8] []) (.seq (.opq 2 AP6.ls AP6.out AP6.t) (.seq (.reg [1,7,8,9] []) (.node (.opq 3 AP5.ls AP5.out (.node AP5.t))))))) (.reg [1,7] []))),[1,7],[.l,.n],⟨[],[(0,[])],[4]⟩⟩
def AXu {T:Type} (g:AN3 R T) (H:Heap) (K:XK R):T:=g (kH (.exit 0) [] [] K) (kH .ret [4] [.b] K)
def AUn (f:ANO R):Nat->List Value->Heap->XK R->Option R:=jl AP7 (L:=ANO R) AXu pH f
def AP8:PS:=⟨(.seq (.reg [1,2,24] []) (.cond (.seq (.reg [4] []) .leaf) .leaf)),[1,2],[.l,.p],⟨[1,2],[],[4]⟩⟩
def AaW (g:AQh R) (H:Heap) (K:XK R):Option R:=g H (kN .normal [1,2] [.l,.p] K H) (kN .ret [4] [.b] K H)
def AXw (f:ANM R):Nat->List Value->Heap->XK R->Option R:=jp AP8 AaW f
def x15J (k:Nat):JTab R:=tcons 0 (AXw z0 k) <|tcons 1 (AUn z1 k) <|tcons 2 (AXv z2 k) <|tcons 3 (AUm z3 k) <|λ _ _ _ _=> none
def x15t:AT:=(.seq (.reg [1,2] []) (.seq (.opq 0 AP8.ls AP8.out AP8.t) (.seq (.reg [1,5] []) (.seq (.seq (.reg [1,37] []) (.cond (.seq (.reg [4] []) .leaf) .leaf)) (.seq (.seq (.reg [1,7] []) (.node (.opq 1 AP7.ls AP7.out (.node AP7.t)))) (.seq (.reg [4] []) .leaf))))))
def x15c (g:AT6 R) (H:Heap) (K:Value->Heap->Option R):Option R:=g H (rH [.b] K)
def x15a (f:AQ5 R):List Value->Heap->(Value->Heap->Option R)->Option R:=jf 2 [(.a 7),.l,.l,.b,.b,.b,.b,.b,.l] x15c f
variable {f0 f1 z0 z1 z2 z3}
theorem Afy (k n:Nat) (H:Heap) (K:XK R):lE Try.prog An 85 (x15C f0 f1) (x15J z0 z1 z2 z3 k) AP5 (sel [1,1,1,1,0,1,0,0,1,0,0,1,1,1,0,0] (bd Try.f15)) (AUm z3) n H K=mapT (λ g=> pH g H) AP5.ts (AXt (AN1 k) H K (AXt z3 H K n)):=by kernel_rfl
theorem Afz (k:Nat) (H:Heap) (K:XK R):jE Try.prog An 85 (x15C f0 f1) (x15J z0 z1 z2 z3 k) AP6 (sel [1,1,1,1,0,1,0,0,1,0,0,1,0] (bd Try.f15)) H K=mapT (λ g=> AaV g H K) AP6.ts (ANx k):=by kernel_rfl
theorem Af0 (k n:Nat) (H:Heap) (K:XK R):lE Try.prog An 85 (x15C f0 f1) (x15J z0 z1 z2 z3 k) AP7 (sel [1,1,1,1,0,1,0,0] (bd Try.f15)) (AUn z1) n H K=mapT (λ g=> pH g H) AP7.ts (AXu (ANP z2 z3 k) H K (AXu z1 H K n)):=by kernel_rfl
theorem Af1 (k:Nat) (H:Heap) (K:XK R):jE Try.prog An 85 (x15C f0 f1) (x15J z0 z1 z2 z3 k) AP8 (sel [1,0] (bd Try.f15)) H K=mapT (λ g=> AaW g H K) AP8.ts (AMJ k):=by kernel_rfl
theorem x15e (k:Nat) (H:Heap) (K:Value->Heap->Option R):fE Try.prog An (x15C f0 f1) (x15J z0 z1 z2 z3 k) x15t Try.f15 [(.a 7),.l,.l,.b,.b,.b,.b,.b,.l] H K=mapT (λ g=> x15c g H K) [(.a 7),.l,.l,.b,.b,.b,.b,.b,.l] (ARl f0 f1 z0 z1 k):=by kernel_rfl
theorem x15S (R:Type) (k:Nat):CSound Try.prog (x15C (R:=R) (AKS k) ADq):=AAB (AaX R k) <|AAB (Af3 R k) <|AAE
theorem Afu (R:Type) (k:Nat):JS Try.prog 85 (AUm (AJN (R:=R) k) k) AP5.ls AP5.out (.loop (sel [1,1,1,1,0,1,0,0,1,0,0,1,1,1,0,0] (bd Try.f15))):=lj (x15S R k) (x15J (AIL k) (AG4 k) (AKr k) (AJN k) k) (by kernel_rfl) (A:=True) trivial (by kernel_rfl) (λ _ _=> by kernel_rfl) (λ _ _ _=> .trans (Afy _ _ _ _) (by kernel_rfl)) k
theorem Afv (R:Type) (k:Nat):JS Try.prog 85 (AXv (AKr (R:=R) k) k) AP6.ls AP6.out (sel [1,1,1,1,0,1,0,0,1,0,0,1,0] (bd Try.f15)):=pj (x15S R k) (x15J (AIL k) (AG4 k) (AKr k) (AJN k) k) (by kernel_rfl) (A:=True) trivial (by kernel_rfl) (λ _ _=> .trans (Afz _ _ _) (by kernel_rfl))
theorem Afw (R:Type) (k:Nat):JS Try.prog 85 (AUn (AG4 (R:=R) k) k) AP7.ls AP7.out (.loop (sel [1,1,1,1,0,1,0,0] (bd Try.f15))):=lj (x15S R k) (x15J (AIL k) (AG4 k) (AKr k) (AJN k) k) (by kernel_rfl) (A:=JS Try.prog 85 (AXv (AKr (R:=R) k) k) AP6.ls AP6.out (sel [1,1,1,1,0,1,0,0,1,0,0,1,0] (bd Try.f15))/\JS Try.prog 85 (AUm (AJN (R:=R) k) k) AP5.ls AP5.out (.loop (sel [1,1,1,1,0,1,0,0,1,0,0,1,1,1,0,0] (bd Try.f15)))/\True) ⟨Afv R k,⟨Afu R k,trivial⟩⟩ (by kernel_rfl) (λ _ _=> by kernel_rfl) (λ _ _ _=> .trans (Af0 _ _ _ _) (by kernel_rfl)) k
theorem Afx (R:Type) (k:Nat):JS Try.prog 85 (AXw (AIL (R:=R) k) k) AP8.ls AP8.out (sel [1,0] (bd Try.f15)):=pj (x15S R k) (x15J (AIL k) (AG4 k) (AKr k) (AJN k) k) (by kernel_rfl) (A:=True) trivial (by kernel_rfl) (λ _ _=> .trans (Af1 _ _ _) (by kernel_rfl))
theorem Af2 (R:Type) (k:Nat):∀args H K r,x15a (ARm k) args H K=some (r:R)->∃v H',Tri Try.prog 15 args H v H'/\K v H'=some r:=fj (x15S R k) (x15J (AIL k) (AG4 k) (AKr k) (AJN k) k) Try.func15 (by kernel_rfl) (A:=JS Try.prog 85 (AXw (AIL (R:=R) k) k) AP8.ls AP8.out (sel [1,0] (bd Try.f15))/\JS Try.prog 85 (AUn (AG4 (R:=R) k) k) AP7.ls AP7.out (.loop (sel [1,1,1,1,0,1,0,0] (bd Try.f15)))/\True) ⟨Afx R k,⟨Afw R k,trivial⟩⟩ (by kernel_rfl) (λ _ _=> .trans (x15e _ _ _) (by kernel_rfl))
end
end Go.Proofs.Ytmanlfonppfhaaa.Sh
set_option maxRecDepth 100000
namespace Go.Proofs.Ytmanlfonppfhaaa.Sh
open Go.Proofs.Ytmanlfonppfhaaa.FW
def d9t:AT:=(.seq (.reg [] []) (.seq (.reg [1,2] []) (.seq (.reg [1,2,3,4] []) (.seq (.opq 0 [1,2,3,4] ⟨[1,3],[],[0]⟩ (.seq (.reg [1,3,56] []) (.cond (.seq (.reg [0] []) .leaf) .leaf))) (.seq (.reg [1,3,5,6] []) (.seq (.opq 1 [1,3,5,6] ⟨[3],[],[0]⟩ (.seq (.reg [3,77] []) (.cond (.seq (.reg [0] []) .leaf) .leaf))) (.seq (.reg [3,7,8,9] []) (.seq (.reg [7,8,9,10,11,12] []) (.seq (.reg [7,8,9,10,11,12,14] []) (.seq (.reg [0] []) .leaf))))))))))
def d10t:AT:=(.seq (.reg [0,1,5] []) (.seq (.opq 0 [0,1,5] ⟨[0,1,5],[],[6,7]⟩ (.seq (.reg [0,1,5,27] []) (.cond (.seq (.reg [6,7] []) .leaf) .leaf))) (.seq (.reg [0,1,5,8] []) (.seq (.seq (.reg [0,1,5,8,28,29,30] []) (.node (.opq 1 [0,1,5,8,28,29,30] ⟨[],[(0,[0,1,5,8])],[6,7]⟩ (.node (.seq (.reg [0,1,5,8,28,29,30,31] []) (.seq (.cond .leaf .leaf) (.seq (.node (.seq (.reg [0,1,5,8,9,10,28,29,30] []) (.seq (.opq 2 [0,1,5,8,9,10,28,29,30] ⟨[0,1,5,8,9,10,11,28,29,30],[],[]⟩ (.reg [0,1,5,8,9,10,11,28,29,30] [])) (.seq (.opq 3 [0,1,5,8,9,10,11,28,29,30] ⟨[0,1,5,8,9,10,11,12,28,29,30],[],[]⟩ (.reg [0,1,5,8,9,10,11,12,28,29,30] [])) (.seq (.opq 4 [0,1,5,8,9,10,11,12,28,29,30] ⟨[0,1,5,8,10,28,29,30],[],[6,7]⟩ (.seq (.reg [0,1,5,8,10,28,29,30,80] []) (.cond (.seq (.reg [6,7] []) .leaf) .leaf))) (.reg [0,1,5,8,28,29,30] [])))))) (.reg [0,1,5,8,28,29,30] [])))))))) (.seq (.seq (.reg [0,1,5,90] []) (.cond (.seq (.reg [6,7] []) .leaf) .leaf)) (.seq (.reg [0,1,13] []) (.seq (.seq (.reg [1,13,94,95,96] []) (.node (.opq 5 [1,13,94,95,96] ⟨[],[(2,[13])],[]⟩ (.node (.seq (.reg [1,13,94,95,96,97] []) (.seq (.cond .leaf .leaf) (.seq (.node (.seq (.reg [1,13,14,15,94,95,96] []) (.seq (.reg [1,13,14,15,16,94,95,96] []) (.seq (.opq 6 [1,13,14,15,16,94,95,96] ⟨[1,13,14,15,16,94,95,96],[],[]⟩ (.seq (.reg [1,13,14,15,16,94,95,96,108] []) (.cond (.seq (.reg [1,13,14,15,16,94,95,96] []) (.reg [1,13,14,15,16,94,95,96] [])) .leaf))) (.seq (.reg [1,13,14,15,94,95,96] (ms [0,0,2,6,14,0,32,126,255,511,1023])) (.seq (.reg [1,13,14,15,94,95,96,141,142] []) (.node (.opq 7 [1,13,14,15,94,95,96,141,142] ⟨[],[(4,[1,13,94,95,96])],[]⟩ (.node (.seq (.reg [1,13,14,15,94,95,96,141,142,143] []) (.seq (.cond .leaf .leaf) (.seq (.node (.seq (.reg [1,13,14,15,17,94,95,96,141,142] []) (.reg [1,13,14,15,94,95,96,141,142] (ms [0,0,2,6,14,0,0,0,128,448,0,0,2048,7168,16352,32736,65534,131071,262143,524287])))) (.reg [1,13,14,15,94,95,96,141,142] []))))))))))))) (.reg [1,13,94,95,96] [])))))))) (.seq (.reg [6,7] []) .leaf))))))))
def d12t:AT:=(.seq (.reg [0] []) (.seq (.seq (.reg [0,4] []) (.cond (.seq (.reg [2] []) .leaf) .leaf)) (.seq (.reg [2] []) .leaf)))
def d14t:AT:=(.seq (.reg [0,1] []) (.seq (.opq 0 [0,1] ⟨[0,1],[],[4]⟩ (.seq (.reg [0,1,19] []) (.cond (.seq (.reg [4] []) .leaf) .leaf))) (.seq (.reg [4] []) .leaf)))
def d16t:AT:=(.seq (.reg [0,1] []) (.seq (.opq 0 [0,1] ⟨[0,1],[],[4,5,6]⟩ (.seq (.reg [0,1,29] []) (.cond (.seq (.reg [4,5,6] []) .leaf) .leaf))) (.seq (.reg [0,1,7] []) (.seq (.reg [0,4,5,6,7] []) (.seq (.seq (.reg [0,4,5,6,7,41] []) (.cond (.seq (.reg [4,5,6] []) .leaf) .leaf)) (.seq (.reg [4,5] []) (.seq (.reg [4,5,6] []) .leaf)))))))
def d18t:AT:=(.seq (.reg [0,1] []) (.seq (.seq (.reg [0,1,11] []) (.cond (.seq (.reg [4] []) .leaf) .leaf)) (.seq (.seq (.reg [0,1,5] []) (.node (.opq 0 [0,1,5] ⟨[],[(0,[])],[4]⟩ (.node (.seq (.seq (.reg [0,1,5,15] []) (.cond .leaf .leaf)) (.seq (.node (.seq (.opq 1 [0,1,5] ⟨[0,1,5],[],[4]⟩ (.seq (.reg [0,1,5,56] (ms [0,0,3,7,15,0,0,96,224,480,1023,2047,4095,4095,16383,32767,65535,4095,4095,397311,921599,1970175,4194303,8388607,16777215,33554431,33554431,134217727,268435455,536870911,1073741823,33554431,33554431,6476005375,15065939967,32245809151,66605547519,137438953471,274877906943])) (.cond (.seq (.reg [4] []) .leaf) .leaf))) (.seq (.reg [0,1,5,6] []) (.node (.opq 2 [0,1,5,6] ⟨[],[(2,[0,1,5])],[4]⟩ (.node (.seq (.seq (.reg [0,1,5,6,64] []) (.cond .leaf .leaf)) (.seq (.node (.seq (.reg [0,1,5,6,83] (ms [0,0,3,7,15,0,63,127,0,0,768,1792,3840,0,16128,32512,65535])) (.cond (.seq (.reg [4] []) .leaf) .leaf))) (.reg [0,1,5,6] []))))))))) (.reg [0,1,5] []))))))) (.seq (.reg [4] []) .leaf))))
def d19t:AT:=(.seq (.reg [0,1] []) (.seq (.seq (.reg [0,1,10] []) (.cond (.seq (.reg [4] []) .leaf) .leaf)) (.seq (.seq (.reg [0,1,5] []) (.node (.opq 0 [0,1,5] ⟨[],[(0,[])],[4]⟩ (.node (.seq (.seq (.reg [0,1,5,14] []) (.cond .leaf .leaf)) (.seq (.node (.seq (.reg [0,1,5,25] (ms [0,0,3,7,0,0,48,112,255])) (.cond (.seq (.reg [4] []) .leaf) .leaf))) (.reg [0,1,5] []))))))) (.seq (.reg [4] []) .leaf))))
def d20t:AT:=(.seq (.reg [0,1,5] []) (.seq (.opq 0 [0,1,5] ⟨[0,1,5],[],[6]⟩ (.seq (.reg [0,1,5,28] []) (.cond (.seq (.reg [6] []) .leaf) .leaf))) (.seq (.reg [0,1,5,7] []) (.seq (.reg [0,1,5,7,8] []) (.seq (.seq (.reg [0,1,7,8,30,31,32] []) (.node (.opq 1 [0,1,7,8,30,31,32] ⟨[],[(0,[7])],[]⟩ (.node (.seq (.reg [0,1,7,8,30,31,32,33] []) (.seq (.cond .leaf .leaf) (.seq (.node (.seq (.reg [0,1,7,8,10,30,31,32] []) (.seq (.reg [0,1,7,8,10,11,12,30,31,32] []) (.seq (.opq 2 [0,1,7,8,10,11,12,30,31,32] ⟨[0,1,7,8,10,30,31,32],[],[]⟩ (.seq (.reg [0,1,7,8,10,11,12,30,31,32,48] []) (.cond (.reg [0,1,7,8,10,30,31,32] []) .leaf))) (.reg [0,1,7,8,30,31,32] []))))) (.reg [0,1,7,8,30,31,32] [])))))))) (.seq (.reg [6] []) .leaf))))))
def d22t:AT:=(.seq (.reg [0,1,2] []) (.seq (.opq 0 [0,1,2] ⟨[0,1,2],[],[6]⟩ (.seq (.reg [0,1,2,32] []) (.cond (.seq (.reg [6] []) .leaf) .leaf))) (.seq (.opq 1 [0,1,2] ⟨[0,1,2],[],[6]⟩ (.seq (.reg [0,1,2,50] []) (.cond (.seq (.reg [6] []) .leaf) .leaf))) (.seq (.seq (.reg [0,1,2,54,55,56] []) (.node (.opq 2 [0,1,2,54,55,56] ⟨[],[(0,[0,1,2])],[6]⟩ (.node (.seq (.reg [0,1,2,54,55,56,57] []) (.seq (.cond .leaf .leaf) (.seq (.opq 3 [0,1,2,54,55,56] ⟨[0,1,2,54,55,56],[],[6]⟩ (.node (.seq (.reg [0,1,2,7,8,54,55,56] []) (.seq (.reg [0,1,2,7,8,9,54,55,56] []) (.seq (.opq 4 [0,1,2,7,8,9,54,55,56] ⟨[0,1,2,7,8,9,54,55,56],[],[]⟩ (.seq (.reg [0,1,2,7,8,9,54,55,56,65] []) (.cond (.reg [0,1,2,7,8,9,54,55,56] []) .leaf))) (.seq (.reg [0,1,2,54,55,56,101] (ms [0,0,3,7,15,31,63,63,255,511,1023,2047,4095,8191,8191,32767,65535,8191,262143,524287,1048575,2097151,2097151,8388607,16777215,2097151,35651583,102760447,236978175,2097151,538968063,2116026367,4263510015,8558477311,17179869183,34359738367])) (.cond (.seq (.reg [6] []) .leaf) .leaf))))))) (.reg [0,1,2,54,55,56] [])))))))) (.seq (.seq (.reg [0,1,2,107,108] []) (.node (.opq 5 [0,1,2,107,108] ⟨[],[(2,[0])],[]⟩ (.node (.seq (.reg [0,1,2,107,108,109] []) (.seq (.cond .leaf .leaf) (.seq (.node (.seq (.reg [0,1,2,10,107,108] []) (.seq (.reg [0,1,2,10,11,107,108] []) (.seq (.reg [0,1,2,10,11,107,108] (ms [0,0,0,0,12,28,0,0,192,448,1021,2045,4093,8191,16383,32767])) (.seq (.reg [0,1,2,10,11,107,108] (ms [0,1,3,7,0,16,48,112,255,511,1023,0,2048,6144,14336,0,32768,98304,229376,0,0,1572864,3670016,8388607])) (.reg [0,1,2,107,108] (ms [0,1,3,7,0,16,48,112,255,511,1023,0,2048,6144,14336,0,32768,98304,229376,0,524288,1572864,3670016,0,8388608,25165824,58720256,133693440,267911168,536346624,0,0,3221225472,7516192768,17179344896,34359738367]))))))) (.reg [0,1,2,107,108] [])))))))) (.seq (.reg [] []) (.seq (.reg [6] []) .leaf)))))))
def d23t:AT:=(.seq (.reg [0,1] []) (.seq (.opq 0 [0,1] ⟨[0,1],[],[4,5]⟩ (.seq (.reg [0,1,27] []) (.cond (.seq (.reg [4,5] []) .leaf) .leaf))) (.seq (.seq (.reg [0,1,6] []) (.seq (.reg [0,1,6,32] []) (.cond (.seq (.reg [4,5] []) .leaf) .leaf))) (.seq (.reg [0,1,7] []) (.seq (.reg [0,1,7,8] []) (.seq (.seq (.reg [0,1,7,8,35,36,37] []) (.node (.opq 1 [0,1,7,8,35,36,37] ⟨[],[(0,[0,1,7,8])],[]⟩ (.node (.seq (.reg [0,1,7,8,35,36,37,38] []) (.seq (.cond .leaf .leaf) (.seq (.node (.seq (.reg [0,1,7,8,10,35,36,37] []) (.reg [0,1,7,8,35,36,37] []))) (.reg [0,1,7,8,35,36,37] [])))))))) (.seq (.reg [0,1,7,8] []) (.seq (.opq 2 [0,1,7,8] ⟨[0,7],[],[]⟩ (.seq (.reg [0,1,7,51] []) (.cond (.seq (.reg [0,1,7,56,57] []) (.node (.opq 3 [0,1,7,56,57] ⟨[],[(2,[0,7])],[]⟩ (.node (.seq (.reg [0,1,7,56,57,58] []) (.seq (.cond .leaf .leaf) (.seq (.node (.seq (.reg [0,1,7,11,56,57] []) (.reg [0,1,7,56,57] (ms [0,0,0,4,12,28,0,124,0,0,768,1792,4095])))) (.reg [0,1,7,56,57] [])))))))) .leaf))) (.seq (.reg [7] []) (.seq (.reg [4,5] []) .leaf))))))))))
def d24t:AT:=(.seq (.reg [0,1] []) (.seq (.reg [4] []) .leaf))
def d27t:AT:=(.seq (.reg [0] []) (.seq (.opq 0 [0] ⟨[0],[],[2]⟩ (.seq (.reg [0,14] []) (.cond (.seq (.reg [2] []) .leaf) .leaf))) (.seq (.reg [0,3] (ms [0,1,3,7,0,16,48,112,0,256,768,1792,0,4096,12288,28672,65535,131071,262143])) (.seq (.reg [0,3] []) (.seq (.seq (.reg [3,45,46,47] []) (.node (.opq 1 [3,45,46,47] ⟨[],[(0,[3])],[]⟩ (.node (.seq (.reg [3,45,46,47,48] []) (.seq (.cond .leaf .leaf) (.seq (.node (.seq (.reg [3,5,45,46,47] []) (.reg [3,45,46,47] (ms [0,0,2,6,14,0,32,0,128,384,0,1024,3968,8160,16352,32766,65535,131071,262143])))) (.reg [3,45,46,47] [])))))))) (.seq (.reg [2] []) .leaf))))))
def d28t:AT:=(.seq (.reg [0,1] []) (.seq (.seq (.reg [0,1,6] []) (.seq (.reg [0,1,6,12] []) (.cond (.seq (.reg [4,5] []) .leaf) .leaf))) (.seq (.reg [0,1,7] []) (.node (.opq 0 [0,1,7] ⟨[],[],[4,5]⟩ (.node (.node (.seq (.reg [0,1,7] (ms [0,0,2,6,14,0,0,0,0,384,896,2016,4064,8190,16383,32767,65535])) (.seq (.opq 1 [0,1,7] ⟨[0,1,7],[],[4,5]⟩ (.seq (.reg [0,1,7,37] []) (.cond (.seq (.reg [4,5] []) .leaf) .leaf))) (.reg [0,1,7] []))))))))))
def d31t:AT:=(.seq (.reg [0,1] []) (.seq (.reg [0,1,7] []) (.seq (.reg [0,1,7,8,9] []) (.seq (.seq (.reg [0,1,7,8,9,28] []) (.cond (.seq (.reg [4,5,6] []) .leaf) .leaf)) (.seq (.reg [0,1,7,8,10] []) (.seq (.seq (.reg [0,1,7,8,10,34,35] []) (.node (.opq 0 [0,1,7,8,10,34,35] ⟨[],[(0,[0,1,7,8,10])],[4,5,6]⟩ (.node (.seq (.reg [0,1,7,8,10,34,35,36] []) (.seq (.cond .leaf .leaf) (.seq (.opq 1 [0,1,7,8,10,34,35] ⟨[0,1,7,8,10,34,35],[],[4,5,6]⟩ (.node (.seq (.reg [0,1,7,8,10,11,34,35] []) (.seq (.reg [0,1,7,8,10,11,12,34,35] []) (.seq (.reg [0,1,7,8,10,11,12,34,35] []) (.seq (.seq (.reg [0,1,7,8,10,11,12,34,35,53] []) (.cond .leaf .leaf)) (.seq (.reg [0,1,7,8,10,11,12,13,14,34,35] []) (.seq (.seq (.reg [0,1,7,8,10,11,12,13,14,34,35,62] []) (.cond (.seq (.reg [4,5,6] []) .leaf) .leaf)) (.seq (.seq (.reg [0,1,7,8,10,11,12,34,35,65] []) (.cond .leaf .leaf)) (.seq (.reg [0,1,7,8,10,11,12,34,35] []) (.seq (.reg [0,1,7,8,10,14,34,35] []) (.seq (.reg [0,1,7,8,10,14,34,35,77] []) (.cond (.seq (.reg [4,5,6] []) .leaf) .leaf))))))))))))) (.reg [0,1,7,8,10,34,35] [])))))))) (.seq (.opq 2 [0,1,7,8,10] ⟨[0,1,7],[],[4,5,6]⟩ (.seq (.reg [0,1,7,85] []) (.cond (.seq (.reg [4,5,6] []) .leaf) .leaf))) (.seq (.reg [0,7,9,15] []) (.seq (.seq (.reg [0,7,9,15,92] []) (.cond (.seq (.reg [4,5,6] []) .leaf) .leaf)) (.seq (.reg [0,7,15] []) (.seq (.reg [7,15] []) (.seq (.reg [4,5,6] []) .leaf))))))))))))
def d32t:AT:=(.seq (.reg [0] []) (.seq (.reg [2] []) .leaf))
def d35t:AT:=(.seq (.reg [0,3] []) (.seq (.opq 0 [0,3] ⟨[0,3],[],[4]⟩ (.seq (.reg [0,3,14] []) (.cond (.seq (.reg [4] []) .leaf) .leaf))) (.seq (.reg [0,3,5] []) (.seq (.reg [0,3,5,6] []) (.seq (.opq 1 [0,3,5,6] ⟨[0,3,5,6],[],[]⟩ (.seq (.reg [0,3,5,6,17] []) (.cond (.reg [0,3,5,6] []) .leaf))) (.seq (.opq 2 [0,3,5,6] ⟨[0,3,5,6],[],[]⟩ (.seq (.reg [0,3,5,6,19] []) (.cond (.reg [0,3,5,6] []) .leaf))) (.seq (.seq (.reg [3,5,6,7] []) (.node (.opq 3 [3,5,6,7] ⟨[],[(0,[5])],[]⟩ (.node (.seq (.seq (.reg [3,5,6,7,22] []) (.cond .leaf .leaf)) (.node (.seq (.reg [3,5,6,7,8] []) (.seq (.reg [3,5,6,7,8] []) (.seq (.reg [3,5,6,7] []) (.seq (.opq 4 [3,5,6,7] ⟨[3,5,6,7,39],[],[]⟩ (.reg [3,5,6,7,39] [])) (.cond (.seq (.reg [3,5,7,41] []) (.cond (.reg [3,5,6,7] []) (.reg [3,5,6,7] []))) .leaf))))))))))) (.seq (.reg [4] []) .leaf))))))))
def d37t:AT:=(.seq (.reg [0,1,2,3] []) (.seq (.opq 0 [0,1,2,3] ⟨[0,1,2,3],[],[8]⟩ (.seq (.reg [0,1,2,3,23] []) (.cond (.seq (.reg [8] []) .leaf) .leaf))) (.seq (.opq 1 [0,1,2,3] ⟨[0,1,2,3],[],[8]⟩ (.seq (.reg [0,1,2,3,36] []) (.cond (.seq (.reg [8] []) .leaf) .leaf))) (.seq (.reg [] []) (.seq (.reg [8] []) .leaf)))))
def d38t:AT:=(.seq (.reg [0,1] []) (.seq (.seq (.reg [0,1,19] []) (.cond (.seq (.reg [4] []) .leaf) .leaf)) (.seq (.seq (.reg [0,1,23] []) (.cond (.seq (.reg [4] []) .leaf) .leaf)) (.seq (.seq (.reg [0,1,27,28,29] []) (.node (.opq 0 [0,1,27,28,29] ⟨[],[(0,[0,1])],[4]⟩ (.node (.seq (.reg [0,1,27,28,29,30] []) (.seq (.cond .leaf .leaf) (.seq (.node (.seq (.reg [0,1,5,6,27,28,29] []) (.seq (.reg [0,1,27,28,29,53] (ms [0,0,3,7,15,31,0,64,0,0,768,1792,3840,0,8192,24576,57344,131008,262080,524287])) (.cond (.seq (.reg [4] []) .leaf) .leaf)))) (.reg [0,1,27,28,29] [])))))))) (.seq (.seq (.reg [1,58,59,60] []) (.node (.opq 1 [1,58,59,60] ⟨[],[(2,[])],[4]⟩ (.node (.seq (.reg [1,58,59,60,61] []) (.seq (.cond .leaf .leaf) (.seq (.node (.seq (.reg [1,7,8,58,59,60] []) (.seq (.reg [1,7,9,58,59,60] []) (.seq (.reg [1,9,58,59,60,72,73,74] []) (.node (.opq 2 [1,9,58,59,60,72,73,74] ⟨[],[(4,[1,58,59,60])],[4]⟩ (.node (.seq (.reg [1,9,58,59,60,72,73,74,75] []) (.seq (.cond .leaf .leaf) (.seq (.node (.seq (.reg [1,9,11,58,59,60,72,73,74] []) (.seq (.opq 3 [1,9,11,58,59,60,72,73,74] ⟨[1,9,11,58,59,60,72,73,74],[],[4]⟩ (.seq (.reg [1,9,11,58,59,60,72,73,74,84] []) (.cond (.seq (.reg [4] []) .leaf) .leaf))) (.reg [1,9,58,59,60,72,73,74] [])))) (.reg [1,9,58,59,60,72,73,74] []))))))))))) (.reg [1,58,59,60] [])))))))) (.seq (.reg [4] []) .leaf))))))
def d39t:AT:=(.seq (.reg [] []) (.seq (.reg [0] []) .leaf))
def d40t:AT:=(.seq (.reg [0,1] []) (.seq (.seq (.reg [0,1,7] []) (.cond (.seq (.reg [4] []) .leaf) .leaf)) (.seq (.opq 0 [0,1] ⟨[0,1],[],[4]⟩ (.seq (.reg [0,1,13] []) (.cond (.seq (.reg [4] []) .leaf) .leaf))) (.seq (.reg [] []) (.seq (.reg [4] []) .leaf)))))
def d41t:AT:=(.seq (.reg [0,1,2,7] []) (.seq (.reg [0,1,2,7,8] (ms [0,1,3,7,0,16,48,112,255,511,0,2047])) (.seq (.opq 0 [0,1,2,7,8] ⟨[0,1,2,7,8],[],[]⟩ (.seq (.reg [0,1,2,7,8,27] []) (.cond (.reg [0,1,2,7,8] []) (.reg [0,1,2,7,8] (ms [0,1,0,0,8,24,56,0,128,384,896,0,2048,6144,14336,30720,65535]))))) (.seq (.seq (.reg [0,1,2,7,8,52] []) (.cond .leaf .leaf)) (.seq (.opq 1 [0,1,2,7,8] ⟨[0,1,2,7],[],[]⟩ (.seq (.reg [0,1,2,7,8,57] []) (.cond (.seq (.seq (.reg [0,1,2,7,8,9] []) (.node (.opq 2 [0,1,2,7,8,9] ⟨[],[(0,[0,1,2,7])],[]⟩ (.node (.seq (.seq (.reg [0,1,2,7,8,9,67] (ms [0,0,2,0,8,24,56,126,254,511])) (.cond .leaf .leaf)) (.seq (.node (.reg [0,1,2,7,8,9] (ms [0,1,0,0,8,24,56,0,128,384,896,0,4095]))) (.reg [0,1,2,7,8,9] []))))))) (.reg [0,1,2,7] [])) .leaf))) (.seq (.reg [0,1,2,7] []) (.seq (.reg [1,2,7,10] (ms [0,1,3,7,0,16,0,64,192,448,1023,2047])) (.seq (.reg [1,2,7,10,11] []) (.seq (.node (.opq 3 [1,2,7,10,11] ⟨[],[(2,[1,2,7,10,11])],[]⟩ (.node (.seq (.seq (.reg [1,2,7,10,11,118] (ms [0,1,3,7,0,31,0,0,128,511,1023])) (.cond .leaf .leaf)) (.node (.reg [1,2,7,10,11] [])))))) (.seq (.reg [1,2,7,10,11] []) (.seq (.reg [1,2,7,10] []) (.seq (.seq (.reg [1,2,7,10,133,134,135] []) (.node (.opq 4 [1,2,7,10,133,134,135] ⟨[],[(4,[2,7])],[]⟩ (.node (.seq (.reg [1,2,7,10,133,134,135,136] []) (.seq (.cond .leaf .leaf) (.seq (.node (.seq (.reg [1,2,7,10,12,13,133,134,135] []) (.seq (.reg [1,2,7,10,13,133,134,135] (ms [0,0,0,4,12,28,0,0,192,448,960,2044,4095])) (.reg [1,2,7,10,133,134,135] [])))) (.reg [1,2,7,10,133,134,135] [])))))))) (.reg [] (ms [0,1,3,7,0,16,63,127,255,511]))))))))))))))
def d42t:AT:=(.seq (.reg [0] []) (.seq (.seq (.reg [0,6] []) (.cond (.seq (.reg [2] []) .leaf) .leaf)) (.seq (.reg [0,3] (ms [0,1,3,7,15,31,63,0,128,384,896,2047,4095])) (.seq (.opq 0 [0,3] ⟨[3],[],[]⟩ (.node (.seq (.reg [0,3,19] []) (.cond (.reg [3] (ms [0,0,2,6,14,0,32,96,224,0,512,1536,3584,8160,16352,32766,65534,131071,262143])) (.seq (.reg [3,43] []) (.cond (.reg [3] []) .leaf)))))) (.seq (.reg [2] []) .leaf)))))
def d43t:AT:=(.seq (.reg [0] []) (.seq (.seq (.reg [0,8] []) (.cond (.seq (.reg [2] []) .leaf) .leaf)) (.seq (.reg [0,3] (ms [0,1,3,7,0,16,48,112,255,511,1023])) (.seq (.seq (.reg [3,22,23,24] []) (.node (.opq 0 [3,22,23,24] ⟨[],[(0,[3])],[]⟩ (.node (.seq (.reg [3,22,23,24,25] []) (.seq (.cond .leaf .leaf) (.seq (.node (.seq (.reg [3,5,22,23,24] []) (.reg [3,22,23,24] (ms [0,0,2,6,14,0,32,0,128,0,512,1536,4064,8160,16382,32767,65535,131071])))) (.reg [3,22,23,24] [])))))))) (.seq (.reg [2] []) .leaf)))))
def d44t:AT:=(.seq (.reg [0,1] []) (.seq (.opq 0 [0,1] ⟨[0,1],[],[4]⟩ (.seq (.reg [0,1,10] []) (.cond (.seq (.reg [4] []) .leaf) .leaf))) (.seq (.seq (.reg [22] []) (.cond (.seq (.reg [4] []) .leaf) .leaf)) (.seq (.reg [4] []) .leaf))))
def d45t:AT:=(.seq (.reg [0] []) (.seq (.seq (.reg [0,6] []) (.cond (.seq (.reg [2,3] []) .leaf) .leaf)) (.seq (.reg [2,3] []) .leaf)))
def d46t:AT:=(.seq (.reg [0,1,2] []) (.seq (.seq (.reg [0,1,2,23] []) (.cond (.seq (.reg [8,9] []) (.seq (.reg [6,7] []) .leaf)) .leaf)) (.seq (.reg [0,1,2,10] (ms [0,1,3,7,0,16,48,112,255,511,0,2047])) (.seq (.reg [0,1,2,10,11,12] (ms [0,1,0,0,8,24,56,0,128,384,896,0,2048,6144,14336,30720,65535,131071,262143,262143,524287,2097151])) (.seq (.opq 0 [0,1,2,10,11,12] ⟨[0,1,2,10],[],[6,7]⟩ (.seq (.reg [0,1,2,10,12,67] []) (.cond (.seq (.reg [6,7] []) .leaf) .leaf))) (.seq (.opq 1 [0,1,2,10] ⟨[1,2,10],[],[6,7]⟩ (.seq (.reg [0,1,2,10,13,14] (ms [0,1,0,4,12,28,0,64,192,448,1023,2047,4095,4095,8191,32767])) (.seq (.reg [1,2,10,91] []) (.cond (.seq (.reg [6,7] []) .leaf) .leaf)))) (.seq (.seq (.reg [1,2,10,15] []) (.node (.opq 2 [1,2,10,15] ⟨[],[(0,[])],[6,7]⟩ (.node (.seq (.seq (.reg [1,2,10,15,95] []) (.cond .leaf .leaf)) (.seq (.node (.seq (.reg [1,2,10,15,16,17] (ms [0,1,0,0,8,24,56,0,128,384,896,0,4095,8191,16383,16383,32767,131071])) (.seq (.seq (.reg [1,2,10,15,16,17,115] []) (.cond (.seq (.reg [6,7] []) .leaf) .leaf)) (.seq (.reg [1,2,10,15,117] []) (.cond (.seq (.reg [2,10,18] (ms [0,1,0,4,12,28,0,64,192,448,1023,2047,4095,4095,8191,32767])) (.seq (.frz 10 (.reg [] (ms [0,0,0,4,0,28,1,65,193,511,1023,2047]))) (.seq (.reg [6,7] []) .leaf))) .leaf))))) (.reg [1,2,10,15] []))))))) (.seq (.reg [6,7] []) .leaf))))))))
def d47t:AT:=(.seq (.reg [0,1,5,6] []) (.seq (.reg [0,1,5,6,8] []) (.seq (.reg [0,1,5,6,8,9,10] []) (.seq (.seq (.reg [0,1,5,6,8,9,10,29] []) (.cond (.seq (.reg [6,7] []) .leaf) .leaf)) (.seq (.seq (.reg [0,1,5,6,8,9,44] (ms [0,0,2,6,14,30,62,0,128,384,896,2046,4095])) (.cond (.seq (.reg [6,7] []) .leaf) .leaf)) (.seq (.reg [0,1,5,6,8,9,10,11] []) (.seq (.seq (.reg [0,1,5,6,8,9,10,11,52] []) (.cond (.seq (.reg [6,7] []) .leaf) .leaf)) (.seq (.seq (.reg [0,1,5,6,8,9,11,61] []) (.cond (.seq (.reg [6,7] []) .leaf) .leaf)) (.seq (.reg [0,1,5,6,8,9,11] []) (.seq (.reg [1,5,6,8,9,11,12] (ms [0,1,3,7,0,0,32,96,224,511,1023])) (.seq (.reg [1,5,6,8,9,11,12,13] []) (.seq (.seq (.reg [1,5,6,8,9,11,12,13,76,77,78] []) (.node (.opq 0 [1,5,6,8,9,11,12,13,76,77,78] ⟨[],[(0,[5,6,8,9,11,12])],[6,7]⟩ (.node (.seq (.reg [1,5,6,8,9,11,12,13,76,77,78,79] []) (.seq (.cond .leaf .leaf) (.seq (.node (.seq (.reg [1,5,6,8,9,11,12,13,15,76,77,78] []) (.seq (.reg [1,5,6,8,9,11,12,13,16,17,76,77,78] (ms [0,0,2,6,14,0,62,0,128,510,1023,2047,4095,4095,8191,32767])) (.seq (.seq (.reg [1,5,6,8,9,11,12,13,16,17,76,77,78,97] []) (.cond (.seq (.reg [6,7] []) .leaf) .leaf)) (.reg [1,5,6,8,9,11,12,13,76,77,78] []))))) (.reg [1,5,6,8,9,11,12,13,76,77,78] [])))))))) (.seq (.seq (.opq 1 [5,6,8,9,11,12] ⟨[5,6,8,9,11,125],[],[]⟩ (.reg [5,6,8,9,11,125] (ms [0,1,3,7,15,31,63,7,255,511,7,7,2055,8191,16383,32767,65535,131071,262143,524287,1048575,2097151]))) (.cond (.seq (.reg [6,7] []) .leaf) .leaf)) (.seq (.reg [5,6,8,9] []) (.seq (.reg [6,8] []) (.seq (.reg [6,7] []) .leaf))))))))))))))))
def d48t:AT:=(.seq (.reg [0] []) (.seq (.seq (.reg [0,7] []) (.cond (.seq (.reg [2,3] []) .leaf) .leaf)) (.seq (.seq (.reg [0,12] []) (.cond (.seq (.reg [2,3] []) .leaf) .leaf)) (.seq (.reg [0,4] (ms [0,1,3,7,0,16,48,112,240,511,1023,2047])) (.seq (.seq (.reg [0,4,33] []) (.cond (.seq (.reg [2,3] []) .leaf) .leaf)) (.seq (.opq 0 [0,4] ⟨[0],[],[2,3]⟩ (.seq (.opq 1 [0,4] ⟨[0,42],[],[]⟩ (.reg [0,42] [])) (.cond (.seq (.seq (.reg [0,52] (ms [0,1,3,7,0,16,48,112,240,511])) (.cond (.seq (.reg [2,3] []) .leaf) .leaf)) (.seq (.seq (.reg [0,63] (ms [0,1,3,7,0,16,48,112,255,511,1023])) (.cond (.seq (.reg [2,3] []) .leaf) .leaf)) (.reg [0] []))) .leaf))) (.seq (.reg [0] []) (.seq (.reg [2,3] []) .leaf))))))))
def d54t:AT:=(.seq (.reg [0] []) (.seq (.reg [2] []) .leaf))
def d55t:AT:=(.seq (.reg [0,1,2] []) (.seq (.reg [1,2,7] []) (.seq (.reg [6] []) .leaf)))
def d56t:AT:=(.seq (.reg [0,1,2,3] []) (.seq (.reg [1,2,3,9] []) (.seq (.reg [8] (ms [0,1,3,7,0,0,32,112,0,256,768,1792,4080,0,0,16384,57344,131056,262143,524287])) .leaf)))
def d57t:AT:=(.seq (.reg [0,1] []) (.seq (.seq (.reg [0,1,11,12,13] []) (.node (.opq 0 [0,1,11,12,13] ⟨[],[(0,[])],[4]⟩ (.node (.seq (.reg [0,1,11,12,13,14] []) (.seq (.cond .leaf .leaf) (.seq (.opq 1 [0,1,11,12,13] ⟨[0,1,11,12,13],[],[4]⟩ (.node (.seq (.reg [0,1,5,6,11,12,13] []) (.seq (.reg [0,1,6,7,11,12,13] []) (.seq (.opq 2 [0,1,6,7,11,12,13] ⟨[0,1,6,7,11,12,13],[],[4]⟩ (.seq (.reg [0,1,6,7,11,12,13,52] (ms [0,1,3,7,15,31,63,127,255,511,255,1279,3327,7423,16383,32767,65535,131071,262143,524287,1048575,2097151,4194303,8388607,4194303,20971519,54525951,121634815,268435455,536870911,1073741823])) (.cond (.seq (.reg [4] []) .leaf) .leaf))) (.seq (.reg [0,1,11,12,13,74] []) (.cond (.seq (.reg [4] []) .leaf) .leaf))))))) (.reg [0,1,11,12,13] [])))))))) (.seq (.reg [4] []) .leaf)))
def d58t:AT:=(.seq (.reg [0] []) (.seq (.reg [2] []) .leaf))
def d59t:AT:=(.seq (.reg [0] []) (.seq (.reg [0] []) (.seq (.reg [0] []) (.seq (.seq (.reg [0,37] (ms [0,1,3,7,0,16,48,112,255])) (.cond .leaf .leaf)) (.seq (.reg [0] (ms [0,0,2,6,14,0,32,96,224,480,1022,2047,4095,8191])) (.seq (.reg [0] []) (.seq (.opq 0 [0] ⟨[0],[],[]⟩ (.seq (.reg [0,58] []) (.cond (.reg [0] []) .leaf))) (.reg [] []))))))))
def d60t:AT:=(.seq (.reg [0,2,3,4,6] []) (.seq (.opq 0 [0,2,3,4,6] ⟨[0,2,3,4,6],[],[10]⟩ (.seq (.reg [0,2,3,4,6,24] []) (.cond (.seq (.reg [10] []) .leaf) .leaf))) (.seq (.opq 1 [0,2,3,4,6] ⟨[0,2,3,4,6],[],[10]⟩ (.seq (.reg [0,2,3,4,6,37] []) (.cond (.seq (.reg [10] []) .leaf) .leaf))) (.seq (.opq 2 [0,2,3,4,6] ⟨[0,2,3,4,6],[],[]⟩ (.seq (.reg [0,2,3,4,6,42] []) (.cond (.seq (.reg [0,2,3,4,6] []) (.reg [0,2,3,4,6] [])) .leaf))) (.seq (.reg [10] []) .leaf)))))
def d61t:AT:=(.seq (.reg [0,1] []) (.seq (.seq (.reg [0,1,8] []) (.cond (.seq (.reg [4] []) .leaf) .leaf)) (.seq (.opq 0 [0,1] ⟨[0,1],[],[4]⟩ (.seq (.reg [0,1,14] []) (.cond (.seq (.reg [4] []) .leaf) .leaf))) (.seq (.reg [0,1,5] []) (.seq (.node (.opq 1 [0,1,5] ⟨[],[(0,[0,1,5])],[]⟩ (.node (.seq (.seq (.reg [0,1,5,19] []) (.cond .leaf .leaf)) (.node (.reg [0,1,5] [])))))) (.seq (.seq (.reg [0,1,5,22,23] []) (.node (.opq 2 [0,1,5,22,23] ⟨[],[(2,[0,1,5])],[]⟩ (.node (.seq (.reg [0,1,5,22,23,24] []) (.seq (.cond .leaf .leaf) (.seq (.node (.reg [0,1,5,22,23] [])) (.reg [0,1,5,22,23] [])))))))) (.seq (.reg [4] []) .leaf)))))))
def d62t:AT:=(.seq (.reg [0,1,2] []) (.seq (.seq (.reg [0,1,9,10,11] []) (.node (.opq 0 [0,1,9,10,11] ⟨[],[(0,[])],[6]⟩ (.node (.seq (.reg [0,1,9,10,11,12] []) (.seq (.cond .leaf .leaf) (.seq (.node (.seq (.reg [0,1,7,8,9,10,11] []) (.seq (.reg [0,1,9,10,11,25] []) (.cond (.seq (.reg [6] []) .leaf) .leaf)))) (.reg [0,1,9,10,11] [])))))))) (.seq (.reg [6] []) .leaf)))
def d63t:AT:=(.seq (.reg [0,1] []) (.seq (.seq (.reg [0,1,7] []) (.cond (.seq (.reg [4] []) .leaf) .leaf)) (.seq (.opq 0 [0,1] ⟨[0,1],[],[4]⟩ (.seq (.reg [0,1,13] []) (.cond (.seq (.reg [4] []) .leaf) .leaf))) (.seq (.seq (.reg [0,14,15] []) (.node (.opq 1 [0,14,15] ⟨[],[(0,[0])],[]⟩ (.node (.seq (.reg [0,14,15,16] []) (.seq (.cond .leaf .leaf) (.seq (.node (.reg [0,14,15] [])) (.reg [0,14,15] [])))))))) (.seq (.reg [] []) (.seq (.reg [4] []) .leaf))))))
def d64t:AT:=(.seq (.reg [0,1,2] []) (.seq (.seq (.reg [0,1,2,10] []) (.cond (.seq (.reg [6] []) .leaf) .leaf)) (.seq (.opq 0 [0,1,2] ⟨[0,1,2],[],[6]⟩ (.seq (.reg [0,1,2,27] []) (.cond (.seq (.reg [6] []) .leaf) .leaf))) (.seq (.seq (.reg [0,1,7] []) (.node (.opq 1 [0,1,7] ⟨[],[(0,[])],[]⟩ (.node (.seq (.seq (.reg [0,1,7,31] []) (.cond .leaf .leaf)) (.seq (.node (.reg [0,1,7] [])) (.reg [0,1,7] []))))))) (.seq (.reg [6] []) .leaf)))))
def d65t:AT:=(.seq (.reg [0] []) (.seq (.reg [2] []) .leaf))
def d66t:AT:=(.seq (.reg [0] []) (.seq (.reg [2] []) .leaf))
def d67t:AT:=(.seq (.reg [0] []) (.seq (.opq 0 [0] ⟨[0],[],[2,3]⟩ (.seq (.reg [0,9] []) (.cond (.seq (.seq (.reg [0,19] (ms [0,1,3,7,0,16,48,112,240,511])) (.cond (.seq (.reg [2,3] []) .leaf) .leaf)) (.seq (.reg [0,4] []) (.seq (.opq 1 [0,4] ⟨[0,4],[],[2,3]⟩ (.seq (.opq 2 [0,4] ⟨[0,4,38],[],[]⟩ (.reg [0,4,38] (ms [0,1,3,7,15,31,63,127,255,511,63,1087,3135,7231,15423,32767,65535,131071,262143]))) (.cond (.seq (.seq (.reg [0,49] (ms [0,1,3,7,0,16,48,112,255,511,1023])) (.cond (.seq (.reg [2,3] []) .leaf) .leaf)) (.reg [0,4] [])) .leaf))) (.seq (.reg [0,4] []) (.reg [0] []))))) .leaf))) (.seq (.reg [0] []) (.seq (.reg [2,3] (ms [0,1,3,7,0,16,48,112,240,511,1023,0,2048,6144,14336,30720,65535,131071,262143,524287,1048575])) .leaf))))
def d68t:AT:=(.seq (.reg [0,2,3,4,6] []) (.seq (.opq 0 [0,2,3,4,6] ⟨[0,2,3,4,6],[],[10,11]⟩ (.seq (.reg [0,2,3,4,6,24] []) (.cond (.seq (.reg [10,11] []) .leaf) .leaf))) (.seq (.seq (.reg [0,2,3,4,6,13] []) (.seq (.reg [0,2,3,4,6,31] []) (.cond (.seq (.reg [10,11] []) .leaf) .leaf))) (.seq (.opq 1 [0,2,3,4,6] ⟨[0,2,3,4,6],[],[10,11]⟩ (.seq (.reg [0,2,3,4,6,44] []) (.cond (.seq (.reg [10,11] []) .leaf) .leaf))) (.seq (.reg [0,2,3,4,14] []) (.seq (.seq (.reg [0,2,3,4,14,52] []) (.cond (.seq (.reg [10,11] []) .leaf) .leaf)) (.seq (.reg [0,2,3,4] []) (.seq (.reg [4,15] []) (.seq (.reg [10,11] []) .leaf)))))))))
def d69t:AT:=(.seq (.reg [0,1,2] []) (.seq (.opq 0 [0,1,2] ⟨[0,1,2],[],[6,7]⟩ (.seq (.reg [0,1,2,27] []) (.cond (.seq (.reg [6,7] []) .leaf) .leaf))) (.seq (.reg [6,7] []) .leaf)))
def d70t:AT:=(.seq (.reg [1] []) (.seq (.seq (.reg [1,6] []) (.cond (.seq (.reg [2,3] []) .leaf) .leaf)) (.seq (.reg [2,3] []) .leaf)))
def d71t:AT:=(.seq (.reg [2,3] []) (.seq (.seq (.reg [2,3,8] []) (.cond (.seq (.reg [4,5] []) .leaf) .leaf)) (.seq (.opq 0 [2,3] ⟨[2,3],[],[4,5]⟩ (.seq (.reg [2,3,14] []) (.cond (.seq (.reg [4,5] []) .leaf) .leaf))) (.seq (.reg [4,5] []) .leaf))))
def d72t:AT:=(.seq (.reg [0,2] []) (.reg [] []))
def d73t:AT:=(.seq (.reg [2,3] []) (.seq (.seq (.reg [2,3,8] []) (.cond (.seq (.reg [4,5] []) .leaf) .leaf)) (.seq (.opq 0 [2,3] ⟨[2,3],[],[4,5]⟩ (.seq (.reg [2,3,14] []) (.cond (.seq (.reg [4,5] []) .leaf) .leaf))) (.seq (.reg [4,5] []) .leaf))))
def d81t:AT:=(.seq (.reg [0,2] []) (.node (.opq 0 [0,2] ⟨[],[(0,[])],[]⟩ (.node (.seq (.seq (.reg [0,2,15] []) (.cond .leaf .leaf)) (.seq (.node (.seq (.reg [0,2,3,4] (ms [0,1,3,7,0,16,63,0,128,384,896,0,3968,127,16383])) (.seq (.seq (.reg [0,2,3,4,35,36] []) (.node (.opq 1 [0,2,3,4,35,36] ⟨[],[(2,[0,2,3,4])],[]⟩ (.node (.seq (.reg [0,2,3,4,35,36,37] []) (.seq (.cond .leaf .leaf) (.seq (.node (.seq (.reg [0,2,3,4,5,35,36] []) (.reg [0,2,3,4,35,36] []))) (.reg [0,2,3,4,35,36] [])))))))) (.seq (.reg [0,2,3,4,50,51,52] []) (.node (.opq 2 [0,2,3,4,50,51,52] ⟨[],[(4,[0,2])],[]⟩ (.node (.seq (.reg [0,2,3,4,50,51,52,53] []) (.seq (.cond .leaf .leaf) (.seq (.node (.seq (.reg [0,2,3,4,6,7,50,51,52] []) (.seq (.reg [0,2,3,4,7,8,50,51,52] (ms [0,1,3,7,0,0,32,96,224,496,1008,0,2048,6144,14336,32752,0,0,131072,393216,917504,2031616,4128768,8388592,16777215,33554431])) (.reg [0,2,3,4,50,51,52] (ms [0,0,2,6,14,0,32,126,255,511,1023]))))) (.reg [0,2,3,4,50,51,52] []))))))))))) (.reg [0,2] [])))))))
def d82t:AT:=(.seq (.reg [0,1,2,3,4] []) (.seq (.reg [0,1,2,3,4,11] []) (.seq (.reg [0,1,2,3,4,11,12] []) (.seq (.seq (.reg [0,1,2,3,4,11,12,13] []) (.node (.opq 0 [0,1,2,3,4,11,12,13] ⟨[],[(0,[0,1,2,11])],[10]⟩ (.node (.seq (.seq (.reg [0,1,2,3,4,11,12,13,32] []) (.cond .leaf .leaf)) (.seq (.node (.seq (.reg [0,1,2,3,4,11,12,13,14] []) (.seq (.reg [0,1,2,3,4,11,13,14] []) (.seq (.node (.opq 1 [0,1,2,3,4,11,13,14] ⟨[],[(2,[0,1,2,3,4,11,13,14])],[10]⟩ (.node (.seq (.opq 2 [0,1,2,3,4,11,13,14] ⟨[0,1,2,3,4,11,13,14],[(2,[0,1,2,3,4,11,13,14])],[]⟩ (.seq (.reg [0,1,2,3,4,11,13,14,55] []) (.cond .leaf .leaf))) (.node (.seq (.reg [0,1,2,3,4,11,13,14,15,16] []) (.seq (.seq (.reg [0,1,2,3,4,11,13,14,15,16,63] []) (.cond (.seq (.reg [10] []) .leaf) .leaf)) (.seq (.reg [0,1,2,3,4,11,13,14,66] []) (.cond (.reg [0,1,2,3,4,11,13,14] []) (.reg [0,1,2,3,4,11,13,14] [])))))))))) (.reg [0,1,2,3,4,11,12,13] (ms [0,0,0,4,0,12,63,127])))))) (.reg [0,1,2,3,4,11,12,13] []))))))) (.seq (.seq (.reg [0,1,2,78,79,80] []) (.node (.opq 3 [0,1,2,78,79,80] ⟨[],[(4,[])],[]⟩ (.node (.seq (.reg [0,1,2,78,79,80,81] []) (.seq (.cond .leaf .leaf) (.seq (.node (.seq (.reg [0,1,2,17,18,78,79,80] []) (.reg [0,1,2,78,79,80] (ms [0,0,0,0,15,0,63,127])))) (.reg [0,1,2,78,79,80] [])))))))) (.seq (.reg [10] []) .leaf))))))
def d83t:AT:=(.seq (.reg [1,2] []) (.seq (.reg [1,2,5] []) (.seq (.opq 0 [1,2,5] ⟨[1,5],[],[]⟩ (.seq (.reg [1,5,10] []) (.cond (.reg [1,5] []) .leaf))) (.seq (.reg [3,4] []) .leaf))))
def d84t:AT:=(.seq (.reg [0] []) (.seq (.cond (.seq (.reg [2] []) .leaf) .leaf) (.seq (.reg [2] []) .leaf)))
def d85t:AT:=(.seq (.reg [1] []) (.seq (.reg [3,4] []) .leaf))
def d86t:AT:=(.seq (.reg [0,1] []) (.seq (.reg [0,1,6,7] (ms [0,1,3,7,0,16,48,112,15,511])) (.seq (.reg [0,6,7,8,9] []) (.seq (.seq (.reg [0,6,7,8,9,24] []) (.cond (.seq (.reg [9] []) (.seq (.reg [4,5] []) .leaf)) .leaf)) (.seq (.reg [4,5] []) .leaf)))))
def d87t:AT:=(.seq (.reg [0] []) (.seq (.reg [0,3,4] []) (.seq (.seq (.reg [0,3,4,12] []) (.cond (.seq (.reg [1,2] []) .leaf) .leaf)) (.seq (.reg [3,4,5] []) (.seq (.reg [1,2] []) .leaf)))))
def d88t:AT:=(.seq (.reg [0,1,2] []) (.seq (.reg [0,1,2,8] []) (.node (.opq 0 [0,1,2,8] ⟨[],[],[6,7]⟩ (.node (.node (.seq (.reg [0,1,2,8,9,10] []) (.seq (.seq (.reg [0,1,2,8,9,10,17] []) (.cond (.seq (.reg [6,7] []) .leaf) .leaf)) (.seq (.seq (.reg [0,1,2,8,21] []) (.cond (.seq (.reg [6,7] []) .leaf) .leaf)) (.seq (.reg [0,1,2,8] []) (.seq (.reg [0,1,2,8,27] []) (.cond (.seq (.reg [6,7] []) .leaf) .leaf))))))))))))
def d89t:AT:=(.seq (.reg [0,1] []) (.seq (.reg [0,1,6] []) (.seq (.seq (.reg [0,6,9,10] []) (.node (.opq 0 [0,6,9,10] ⟨[],[(0,[6])],[4,5]⟩ (.node (.seq (.reg [0,6,9,10,11] []) (.seq (.cond .leaf .leaf) (.seq (.node (.seq (.reg [0,6,7,8,9,10] []) (.seq (.seq (.reg [0,6,7,8,9,10,18] []) (.cond (.seq (.reg [4,5] []) .leaf) .leaf)) (.reg [0,6,9,10] [])))) (.reg [0,6,9,10] [])))))))) (.seq (.reg [4,5] []) .leaf))))
def d90t:AT:=(.seq (.reg [0,1] []) (.seq (.reg [2,3] []) .leaf))
def d91t:AT:=(.seq (.reg [0,1] []) (.seq (.reg [2,3] []) .leaf))
def d98t:AT:=(.seq (.reg [0,2] []) (.seq (.opq 0 [0,2] ⟨[0,2],[],[]⟩ (.seq (.reg [0,2,4] []) (.cond (.seq (.reg [0] []) (.reg [0,2] [])) .leaf))) (.seq (.opq 1 [0,2] ⟨[0,2],[],[]⟩ (.seq (.reg [0,2,8] []) (.cond (.seq (.reg [0,2] []) (.reg [0,2] [])) .leaf))) (.seq (.opq 2 [0,2] ⟨[0,2],[],[]⟩ (.seq (.reg [0,2,14] []) (.cond (.seq (.reg [0,2] []) (.reg [0,2] [])) .leaf))) (.seq (.reg [2] []) .leaf)))))
abbrev AJg (R:Type):Type:=(Bool->Option R)->Option R
def AFz {R:Type}:AJg R:=λ K=> K true
set_option maxRecDepth 1000000 in
theorem AcB (H:Heap):Tri Try.prog 9 [] H (.bool true) H:=ASf (D:= [⟨9,d9t,Try.f9⟩,⟨10,d10t,Try.f10⟩,⟨12,d12t,Try.f12⟩,⟨14,d14t,Try.f14⟩,⟨16,d16t,Try.f16⟩,⟨18,d18t,Try.f18⟩,⟨19,d19t,Try.f19⟩,⟨20,d20t,Try.f20⟩,⟨22,d22t,Try.f22⟩,⟨23,d23t,Try.f23⟩,⟨24,d24t,Try.f24⟩,⟨27,d27t,Try.f27⟩,⟨28,d28t,Try.f28⟩,⟨31,d31t,Try.f31⟩,⟨32,d32t,Try.f32⟩,⟨35,d35t,Try.f35⟩,⟨37,d37t,Try.f37⟩,⟨38,d38t,Try.f38⟩,⟨39,d39t,Try.f39⟩,⟨40,d40t,Try.f40⟩,⟨41,d41t,Try.f41⟩,⟨42,d42t,Try.f42⟩,⟨43,d43t,Try.f43⟩,⟨44,d44t,Try.f44⟩,⟨45,d45t,Try.f45⟩,⟨46,d46t,Try.f46⟩,⟨47,d47t,Try.f47⟩,⟨48,d48t,Try.f48⟩,⟨54,d54t,Try.f54⟩,⟨55,d55t,Try.f55⟩,⟨56,d56t,Try.f56⟩,⟨57,d57t,Try.f57⟩,⟨58,d58t,Try.f58⟩,⟨59,d59t,Try.f59⟩,⟨60,d60t,Try.f60⟩,⟨61,d61t,Try.f61⟩,⟨62,d62t,Try.f62⟩,⟨63,d63t,Try.f63⟩,⟨64,d64t,Try.f64⟩,⟨65,d65t,Try.f65⟩,⟨66,d66t,Try.f66⟩,⟨67,d67t,Try.f67⟩,⟨68,d68t,Try.f68⟩,⟨69,d69t,Try.f69⟩,⟨70,d70t,Try.f70⟩,⟨71,d71t,Try.f71⟩,⟨72,d72t,Try.f72⟩,⟨73,d73t,Try.f73⟩,⟨81,d81t,Try.f81⟩,⟨82,d82t,Try.f82⟩,⟨83,d83t,Try.f83⟩,⟨84,d84t,Try.f84⟩,⟨85,d85t,Try.f85⟩,⟨86,d86t,Try.f86⟩,⟨87,d87t,Try.f87⟩,⟨88,d88t,Try.f88⟩,⟨89,d89t,Try.f89⟩,⟨90,d90t,Try.f90⟩,⟨91,d91t,Try.f91⟩,⟨98,d98t,Try.f98⟩]) ⟨Try.func9,Try.func10,Try.func12,Try.func14,Try.func16,Try.func18,Try.func19,Try.func20,Try.func22,Try.func23,Try.func24,Try.func27,Try.func28,Try.func31,Try.func32,Try.func35,Try.func37,Try.func38,Try.func39,Try.func40,Try.func41,Try.func42,Try.func43,Try.func44,Try.func45,Try.func46,Try.func47,Try.func48,Try.func54,Try.func55,Try.func56,Try.func57,Try.func58,Try.func59,Try.func60,Try.func61,Try.func62,Try.func63,Try.func64,Try.func65,Try.func66,Try.func67,Try.func68,Try.func69,Try.func70,Try.func71,Try.func72,Try.func73,Try.func81,Try.func82,Try.func83,Try.func84,Try.func85,Try.func86,Try.func87,Try.func88,Try.func89,Try.func90,Try.func91,Try.func98,trivial⟩ (an:=An) (m:=200) (n:=100) (by kernel_rfl) H
def x9a {R:Type} (f:AJg R):List Value->Heap->(Value->Heap->Option R)->Option R:=jf 0 [] (λ g H K=> g λ t=> K (.bool t) H) f
theorem x9cs (R:Type) (k:Nat):∀args H K r,x9a (R:=R) AFz args H K=some r->∃v H',Tri Try.prog 9 args H v H'/\K v H'=some r:=clq AcB
end Go.Proofs.Ytmanlfonppfhaaa.Sh
set_option maxRecDepth 100000
namespace Go.Proofs.Ytmanlfonppfhaaa.Sh
open Go.Proofs.Ytmanlfonppfhaaa.FW
abbrev AJX (R:Type):Type:=Int->Oa->Nat->Nat->Oa->Nat->Nat->Int->Int->Heap->Option R
abbrev AJY (R T:Type):Type:=(Int->Option R)->T
abbrev AHU (R:Type):Type:=AJY R (Nat->AJX R)
abbrev ANS (R:Type):Type:=Heap->(Int->Option R)->Option R
abbrev AJm (R:Type):Type:=Int->Oa->Nat->Nat->Oa->Nat->Nat->ANS R
section
variable {R:Type} (f0:AJ0 R) (z0:AHU R)
def AHV (k:Nat):AJY R (AJX R->AJX R):=λ KE0 rec n1 q2 l3 c4 q5 l6 c7 n8 n9 H=>
bif decide (n9 < ((l6:Nat):Int)) then (hidx q2 l3 n9 1 λ p10=>
ldI .i64 H p10 λ n11=>
f0 n11 λ n12=>
hidx q5 l6 n9 1 λ p13=>
ldI .i64 H p13 λ n14=>
f0 n14 λ n15=>
rec n1 q2 l3 c4 q5 l6 c7 (imx n8 (IntKind.wrap .i64 ((IntKind.wrap .i64 (n12 - n1)) - (IntKind.wrap .i64 (n15 - 1))))) (IntKind.wrap .i64 (n9+1)) H)
 else (KE0 n8)
def ACn (k:Nat):AHU R
 |KE0,0=> λ _ _ _ _ _ _ _ _ _ _=> none
 |KE0,n+1=> AHV (AJZ k) k KE0 (ACn k KE0 n)
def AL1 (k:Nat):AJm R:=λ n1 q2 l3 c4 q5 l6 c7 H K=>
z0 (λ n9=>
K n9) k n1 q2 l3 c4 q5 l6 c7 0 0 H
def AJz (k:Nat):AJm R:=AL1 (ACn k) k
def x79C:Tab R:=tcons 78 (x78a f0) <|λ _ _ _ _=> none
def AOv:PS:=⟨(.seq (.seq (.reg [0,1,2,7,8,12] []) (.cond .leaf .leaf)) (.seq (.node (.reg [0,1,2,7,8] (ms [0,0,0,6,14,30,0,126,0,0,768,1792,3902,7998,16382,32767,65535]))) (.reg [0,1,2,7,8] []))),[0,1,2,7,8],[.n,.l,.l,.n,.n],⟨[],[(0,[7])],[]⟩⟩
def AWd {T:Type} (g:AJY R T) (H:Heap) (K:XK R):T:=g (kN (.exit 0) [7] [.n] K H)
def AUR (f:AHU R):Nat->List Value->Heap->XK R->Option R:=jl AOv (L:=AHU R) AWd pH f
def x79J (k:Nat):JTab R:=tcons 0 (AUR z0 k) <|λ _ _ _ _=> none
def x79t:AT:=(.seq (.reg [0,1,2] []) (.seq (.reg [0,1,2,7] []) (.seq (.seq (.reg [0,1,2,7,8] []) (.node (.opq 0 AOv.ls AOv.out (.node AOv.t)))) (.seq (.reg [6] []) .leaf))))
def x79c (g:ANS R) (H:Heap) (K:Value->Heap->Option R):Option R:=g H (rN [.n] K H)
def x79a (f:AJm R):List Value->Heap->(Value->Heap->Option R)->Option R:=jf 3 [.n,.l,.l] x79c f
variable {f0 z0}
theorem Ac2 (k n:Nat) (H:Heap) (K:XK R):lE Try.prog An 32 (x79C f0) (x79J z0 k) AOv (sel [1,1,0,1,0,0] (bd Try.f79)) (AUR z0) n H K=mapT (λ g=> pH g H) AOv.ts (AWd (AHV f0 k) H K (AWd z0 H K n)):=by kernel_rfl
theorem x79e (k:Nat) (H:Heap) (K:Value->Heap->Option R):fE Try.prog An (x79C f0) (x79J z0 k) x79t Try.f79 [.n,.l,.l] H K=mapT (λ g=> x79c g H K) [.n,.l,.l] (AL1 z0 k):=by kernel_rfl
theorem x79S (R:Type) (k:Nat):CSound Try.prog (x79C (R:=R) (AJZ k)):=AAB (AZc R k) <|AAE
theorem Ac1 (R:Type) (k:Nat):JS Try.prog 32 (AUR (ACn (R:=R) k) k) AOv.ls AOv.out (.loop (sel [1,1,0,1,0,0] (bd Try.f79))):=lj (x79S R k) (x79J (ACn k) k) (by kernel_rfl) (A:=True) trivial (by kernel_rfl) (λ _ _=> by kernel_rfl) (λ _ _ _=> .trans (Ac2 _ _ _ _) (by kernel_rfl)) k
theorem Ac3 (R:Type) (k:Nat):∀args H K r,x79a (AJz k) args H K=some (r:R)->∃v H',Tri Try.prog 79 args H v H'/\K v H'=some r:=fj (x79S R k) (x79J (ACn k) k) Try.func79 (by kernel_rfl) (A:=JS Try.prog 32 (AUR (ACn (R:=R) k) k) AOv.ls AOv.out (.loop (sel [1,1,0,1,0,0] (bd Try.f79)))/\True) ⟨Ac1 R k,trivial⟩ (by kernel_rfl) (λ _ _=> .trans (x79e _ _ _) (by kernel_rfl))
end
abbrev AJD (R:Type):Type:=Oa->Int->Oa->Int->Heap->Option R
abbrev AJE (R T:Type):Type:=(Heap->Option R)->T
abbrev AGw (R:Type):Type:=AJE R (Nat->AJD R)
abbrev AMr (R:Type):Type:=Heap->(Heap->Option R)->Option R
abbrev AJC (R:Type):Type:=Oa->Int->Int->Int->Oa->Nat->Nat->Int->AMr R
section
variable {R:Type} (z0:AGw R)
def AGx (k:Nat):AJE R (AJD R->AJD R):=λ KE0 rec p1 n2 p3 n4 H=>
hfad 2 p3 λ p5=>
ldL H p5 λ q6 l7 c8=>
bif decide (n4 < ((l7:Nat):Int)) then (hnil p1 λ p9=>
hfad 9 p9 λ p10=>
ldL H p10 λ q11 l12 c13=>
hnil p1 λ p14=>
hfad 9 p14 λ p15=>
ldL H p15 λ q16 l17 c18=>
hidx q16 l17 n2 8 λ p19=>
hfad 6 p19 λ p20=>
ldI .i64 H p20 λ n21=>
hfad 2 p3 λ p22=>
ldL H p22 λ q23 l24 c25=>
hidx q23 l24 n4 1 λ p26=>
ldI .i64 H p26 λ n27=>
hidx q11 l12 n2 8 λ p28=>
hfad 6 p28 λ p29=>
hst1 H p29 (.int .i64 (IntKind.wrap .i64 (n21+n27))) λ H30=>
rec p1 n2 p3 (IntKind.wrap .i64 (n4+1)) H30)
 else (KE0 H)
def ACX (k:Nat):AGw R
 |KE0,0=> λ _ _ _ _ _=> none
 |KE0,n+1=> AGx k KE0 (ACX k KE0 n)
def AK9 (k:Nat):AJC R:=λ p1 n2 n3 n4 q5 l6 c7 n8 H K=>
hal H [.int .i64 n3,.int .i64 n4,.slice q5 l6 c7] λ p9 H10=>
hnil p1 λ p11=>
hfad 9 p11 λ p12=>
ldL H10 p12 λ q13 l14 c15=>
hidx q13 l14 n2 8 λ p16=>
hfad 3 p16 λ p17=>
hst1 H10 p17 (.bool true) λ H18=>
hnil p1 λ p19=>
hfad 9 p19 λ p20=>
ldL H18 p20 λ q21 l22 c23=>
hfad 0 p9 λ p24=>
ldI .i64 H18 p24 λ n25=>
hidx q21 l22 n2 8 λ p26=>
hfad 4 p26 λ p27=>
hst1 H18 p27 (.int .i64 n25) λ H28=>
hnil p1 λ p29=>
hfad 9 p29 λ p30=>
ldL H28 p30 λ q31 l32 c33=>
hnil p1 λ p34=>
hfad 9 p34 λ p35=>
ldL H28 p35 λ q36 l37 c38=>
hidx q36 l37 n2 8 λ p39=>
hfad 5 p39 λ p40=>
ldI .i64 H28 p40 λ n41=>
hfad 1 p9 λ p42=>
ldI .i64 H28 p42 λ n43=>
hidx q31 l32 n2 8 λ p44=>
hfad 5 p44 λ p45=>
hst1 H28 p45 (.int .i64 (IntKind.wrap .i64 (n41+n43))) λ H46=>
hnil p1 λ p47=>
hfad 9 p47 λ p48=>
ldL H46 p48 λ q49 l50 c51=>
hnil p1 λ p52=>
hfad 9 p52 λ p53=>
ldL H46 p53 λ q54 l55 c56=>
hidx q54 l55 n2 8 λ p57=>
hfad 7 p57 λ p58=>
ldI .i64 H46 p58 λ n59=>
hidx q49 l50 n2 8 λ p60=>
hfad 7 p60 λ p61=>
hst1 H46 p61 (.int .i64 (IntKind.wrap .i64 (n59+n8))) λ H62=>
z0 (λ H63=>
K H63) k p1 n2 p9 0 H62
def AHW (k:Nat):AJC R:=AK9 (ACX k) k
def x80C:Tab R:=λ _ _ _ _=> none
def AOu:PS:=⟨(.seq (.seq (.reg [0,1,6,8,64] []) (.cond .leaf .leaf)) (.seq (.node (.reg [0,1,6,8] (ms [0,1,3,7,0,0,32,96,224,0,992,2016,4064,0,8192,0,57344,122880,262112,524287,1048575,2097151]))) (.reg [0,1,6,8] []))),[0,1,6,8],[.p,.n,.p,.n],⟨[],[(0,[])],[]⟩⟩
def AWc {T:Type} (g:AJE R T) (H:Heap) (K:XK R):T:=g (kH (.exit 0) [] [] K)
def AUQ (f:AGw R):Nat->List Value->Heap->XK R->Option R:=jl AOu (L:=AGw R) AWc pH f
def x80J (k:Nat):JTab R:=tcons 0 (AUQ z0 k) <|λ _ _ _ _=> none
def x80t:AT:=(.seq (.reg [0,1,3,6] []) (.seq (.reg [0,1,3,6] []) (.seq (.reg [0,1,3,6] (ms [0,1,3,7,0,0,32,127,255,511])) (.seq (.reg [0,1,3,6] (ms [0,1,3,7,0,0,32,96,224,0,992,2016,4064,0,8192,32736,65535,131071,262143])) (.seq (.reg [0,1,6] (ms [0,1,3,7,0,0,32,96,224,0,992,2016,4064,0,16352,32767,65535,131071])) (.seq (.reg [0,1,6,8] []) (.node (.opq 0 AOu.ls AOu.out (.node AOu.t)))))))))
def x80c (g:AMr R) (H:Heap) (K:Value->Heap->Option R):Option R:=g H (rH [] K)
def x80a (f:AJC R):List Value->Heap->(Value->Heap->Option R)->Option R:=jf 4 [.p,.n,(.a 3),.n,.n,.l,.n] x80c f
variable {z0}
theorem Acz (k n:Nat) (H:Heap) (K:XK R):lE Try.prog An 88 (x80C) (x80J z0 k) AOu (sel [1,1,1,1,1,1,0,0] (bd Try.f80)) (AUQ z0) n H K=mapT (λ g=> pH g H) AOu.ts (AWc (AGx k) H K (AWc z0 H K n)):=by kernel_rfl
theorem x80e (k:Nat) (H:Heap) (K:Value->Heap->Option R):fE Try.prog An (x80C) (x80J z0 k) x80t Try.f80 [.p,.n,(.a 3),.n,.n,.l,.n] H K=mapT (λ g=> x80c g H K) [.p,.n,(.a 3),.n,.n,.l,.n] (AK9 z0 k):=by kernel_rfl
theorem x80S (R:Type) (k:Nat):CSound Try.prog (x80C (R:=R)):=AAE
theorem Acy (R:Type) (k:Nat):JS Try.prog 88 (AUQ (ACX (R:=R) k) k) AOu.ls AOu.out (.loop (sel [1,1,1,1,1,1,0,0] (bd Try.f80))):=lj (x80S R k) (x80J (ACX k) k) (by kernel_rfl) (A:=True) trivial (by kernel_rfl) (λ _ _=> by kernel_rfl) (λ _ _ _=> .trans (Acz _ _ _ _) (by kernel_rfl)) k
theorem Ac0 (R:Type) (k:Nat):∀args H K r,x80a (AHW k) args H K=some (r:R)->∃v H',Tri Try.prog 80 args H v H'/\K v H'=some r:=fj (x80S R k) (x80J (ACX k) k) Try.func80 (by kernel_rfl) (A:=JS Try.prog 88 (AUQ (ACX (R:=R) k) k) AOu.ls AOu.out (.loop (sel [1,1,1,1,1,1,0,0] (bd Try.f80)))/\True) ⟨Acy R k,trivial⟩ (by kernel_rfl) (λ _ _=> .trans (x80e _ _ _) (by kernel_rfl))
end
abbrev AK8 (R:Type):Type:=(Oa->Oa->Int->Oa->Oa->Oa->Int->Bool->Option R)->Option R
abbrev AGJ (R:Type):Type:=Oa->Oa->Int->Oa->Oa->Oa->Bool->Int->AK8 R
abbrev AK7 (R:Type):Type:=Heap->(Oa->Oa->Int->Oa->Oa->Oa->Heap->Option R)->(Oa->Int->Heap->Option R)->Option R
abbrev AGH (R:Type):Type:=Oa->Oa->Int->Oa->Oa->Oa->AK7 R
abbrev AIP (R:Type):Type:=Oa->Oa->Int->Oa->Oa->Oa->Int->Oa->Nat->Nat->Int->Int->Heap->Option R
abbrev AIQ (R T:Type):Type:=(Oa->Int->Oa->Oa->Oa->Int->Oa->Nat->Nat->Int->Heap->Option R)->(Oa->Int->Heap->Option R)->T
abbrev AGK (R:Type):Type:=AIQ R (Nat->AIP R)
abbrev AK6 (R:Type):Type:=Heap->(Oa->Int->Oa->Oa->Int->Bool->Option R)->Option R
abbrev AGG (R:Type):Type:=Oa->Int->Oa->Oa->Oa->Int->Oa->Nat->Nat->Int->AK6 R
abbrev AMZ (R:Type):Type:=Heap->(Int->Int->Oa->Nat->Nat->Int->Heap->Option R)->Option R
abbrev AII (R:Type):Type:=Oa->Oa->Int->AMZ R
section
variable {R:Type} (f0:AEF R) (f1:AGs R) (f2:AGt R) (f3:AMS R) (f4:AJ0 R) (f5:AEO R) (f6:AJm R) (f7:AJC R) (z0:AGJ R) (z1:AGH R) (z2:AGK R) (z3:AGG R)
def ADE (k:Nat):AGJ R:=λ p1 p2 n3 p4 p5 p6 t7 n8 KN=>
bif (n8 !=0) then (KN p1 p2 n3 p4 p5 p6 n8 true)
 else (KN p1 p2 n3 p4 p5 p6 n8 (!t7))
def AA7 (k:Nat):AGJ R:=ADE k
def AGI (k:Nat):AGH R:=λ p1 p2 n3 p4 p5 p6 H KN KR=>
hfad 3 p5 λ p7=>
ldB H p7 λ t8=>
bif (!t8) then (ldI .i64 H (pad p5 0) λ n9=>
ldI .i64 H (pad p5 1) λ n10=>
ldI .i64 H (pad p5 2) λ n11=>
ldB H (pad p5 3) λ t12=>
ldI .i64 H (pad p5 4) λ n13=>
ldI .i64 H (pad p5 5) λ n14=>
ldI .i64 H (pad p5 6) λ n15=>
ldI .i64 H (pad p5 7) λ n16=>
f1 p1 p2 n9 n10 n11 t12 n13 n14 n15 n16 H λ n17 n18 H19=>
hfad 0 p6 λ p20=>
hst1 H19 p20 (.int .i64 n17) λ H21=>
bif (n18 !=0) then (ldI .i64 H21 (pad p6 0) λ n22=>
ldI .i64 H21 (pad p6 1) λ n23=>
ldL H21 (pad p6 2) λ q24 l25 c26=>
hst H21 p4 [.int .i64 n22,.int .i64 n23,.slice q24 l25 c26] λ H27=>
KR p4 n18 H27)
 else (KN p1 p2 n3 p4 p5 p6 H21))
 else (KN p1 p2 n3 p4 p5 p6 H)
def ABW (k:Nat):AGH R:=AGI (AGa k) k
def AGL (k:Nat):AIQ R (AIP R->AIP R):=λ KE0 KR rec p1 p2 n3 p4 p5 p6 n7 q8 l9 c10 n11 n12 H=>
bif decide (n12 < ((l9:Nat):Int)) then (hfad 7 p5 λ p13=>
ldI .i64 H p13 λ n14=>
hidx q8 l9 n12 1 λ p15=>
ldI .i64 H p15 λ n16=>
f4 n16 λ n17=>
f5 p2 (IntKind.wrap .i64 ((IntKind.wrap .i64 ((IntKind.wrap .i64 (n14+n7))+n17)) - 1)) H λ n18 n19 H20=>
bif (n19 !=0) then (ldI .i64 H20 (pad p6 0) λ n21=>
ldI .i64 H20 (pad p6 1) λ n22=>
ldL H20 (pad p6 2) λ q23 l24 c25=>
hst H20 p4 [.int .i64 n21,.int .i64 n22,.slice q23 l24 c25] λ H26=>
KR p4 n19 H26)
 else (hfad 2 p6 λ p27=>
ldL H20 p27 λ q28 l29 c30=>
hal H20 [.int .i64 n18] λ p31 H32=>
happS 1 8 H32 q28 l29 c30 p31 1 λ q33 l34 c35 H36=>
hfad 2 p6 λ p37=>
hst1 H36 p37 (.slice q33 l34 c35) λ H38=>
rec p1 p2 n3 p4 p5 p6 n7 q8 l9 c10 (IntKind.wrap .i64 (n11+n18)) (IntKind.wrap .i64 (n12+1)) H38))
 else (KE0 p1 n3 p4 p5 p6 n7 q8 l9 c10 n11 H)
def AAc (k:Nat):AGK R
 |KE0,KR,0=> λ _ _ _ _ _ _ _ _ _ _ _ _ _=> none
 |KE0,KR,n+1=> AGL (AJZ k) (AB7 k) k KE0 KR (AAc k KE0 KR n)
def AIO (k:Nat):AGG R:=λ p1 n2 p3 p4 p5 n6 q7 l8 c9 n10 H KN=>
bif decide (n10 > 65535) then (KN p1 n2 p3 p5 n6 true)
 else (hfad 7 p4 λ p11=>
ldI .i64 H p11 λ n12=>
hfad 2 p5 λ p13=>
ldL H p13 λ q14 l15 c16=>
f6 n12 q14 l15 c16 q7 l8 c9 H λ n17=>
KN p1 n2 p3 p5 n6 (n17 !=n6))
def ABV (k:Nat):AGG R:=AIO (AJz k) k
def AEn (k:Nat):AII R:=λ p1 p2 n3 H K=>
hal H [.int .i64 0,.int .i64 0,.slice none 0 0] λ p4 H5=>
hnil p1 λ p6=>
hfad 9 p6 λ p7=>
ldL H5 p7 λ q8 l9 c10=>
hidx q8 l9 n3 8 λ p11=>
ldI .i64 H5 (pad p11 0) λ n12=>
ldI .i64 H5 (pad p11 1) λ n13=>
ldI .i64 H5 (pad p11 2) λ n14=>
ldB H5 (pad p11 3) λ t15=>
ldI .i64 H5 (pad p11 4) λ n16=>
ldI .i64 H5 (pad p11 5) λ n17=>
ldI .i64 H5 (pad p11 6) λ n18=>
ldI .i64 H5 (pad p11 7) λ n19=>
hal H5 [.int .i64 0,.int .i64 0,.int .i64 0,.bool false,.int .i64 0,.int .i64 0,.int .i64 0,.int .i64 0] λ p20 H21=>
hst H21 p20 [.int .i64 n12,.int .i64 n13,.int .i64 n14,.bool t15,.int .i64 n16,.int .i64 n17,.int .i64 n18,.int .i64 n19] λ H22=>
hfad 4 p20 λ p23=>
ldI .i64 H22 p23 λ n24=>
hal H22 [.int .i64 0,.int .i64 0,.slice none 0 0] λ p25 H26=>
hst H26 p25 [.int .i64 n24,.int .i64 0,.slice none 0 0] λ H27=>
f0 p1 p2 n3 H27 λ t28 n29 H30=>
z0 p1 p2 n3 p4 p20 p25 t28 n29 (λ p39 p40 n41 p42 p43 p44 n45 t46=>
bif t46 then (ldI .i64 H30 (pad p44 0) λ n47=>
ldI .i64 H30 (pad p44 1) λ n48=>
ldL H30 (pad p44 2) λ q49 l50 c51=>
hst H30 p42 [.int .i64 n47,.int .i64 n48,.slice q49 l50 c51] λ H52=>
ldI .i64 H52 (pad p42 0) λ n53=>
ldI .i64 H52 (pad p42 1) λ n54=>
ldL H52 (pad p42 2) λ q55 l56 c57=>
K n53 n54 q55 l56 c57 n45 H52)
 else (z1 p39 p40 n41 p42 p43 p44 H30 (λ p66 p67 n68 p69 p70 p71 H72=>
ldI .i64 H72 (pad p70 0) λ n73=>
ldI .i64 H72 (pad p70 1) λ n74=>
ldI .i64 H72 (pad p70 2) λ n75=>
ldB H72 (pad p70 3) λ t76=>
ldI .i64 H72 (pad p70 4) λ n77=>
ldI .i64 H72 (pad p70 5) λ n78=>
ldI .i64 H72 (pad p70 6) λ n79=>
ldI .i64 H72 (pad p70 7) λ n80=>
hfad 0 p71 λ p81=>
ldI .i64 H72 p81 λ n82=>
f2 p66 p67 n73 n74 n75 t76 n77 n78 n79 n80 n82 H72 λ n83 n84 n85 H86=>
bif (n85 !=0) then (ldI .i64 H86 (pad p71 0) λ n87=>
ldI .i64 H86 (pad p71 1) λ n88=>
ldL H86 (pad p71 2) λ q89 l90 c91=>
hst H86 p69 [.int .i64 n87,.int .i64 n88,.slice q89 l90 c91] λ H92=>
ldI .i64 H92 (pad p69 0) λ n93=>
ldI .i64 H92 (pad p69 1) λ n94=>
ldL H92 (pad p69 2) λ q95 l96 c97=>
K n93 n94 q95 l96 c97 n85 H92)
 else (hfad 1 p71 λ p98=>
hst1 H86 p98 (.int .i64 n83) λ H99=>
hfad 5 p70 λ p100=>
ldI .i64 H99 p100 λ n101=>
hnil p66 λ p102=>
hfad 2 p102 λ p103=>
ldB H99 (pad p103 0) λ t104=>
ldB H99 (pad p103 1) λ t105=>
ldB H99 (pad p103 2) λ t106=>
ldB H99 (pad p103 3) λ t107=>
ldB H99 (pad p103 4) λ t108=>
f3 n101 n83 t104 t105 t106 t107 t108 H99 λ q109 l110 c111 H112=>
hfad 6 p70 λ p113=>
ldI .i64 H112 p113 λ n114=>
z2 (λ p127 n128 p129 p130 p131 n132 q133 l134 c135 n136 H137=>
z3 p127 n128 p129 p130 p131 n132 q133 l134 c135 n136 H137 (λ p144 n145 p146 p147 n148 t149=>
bif t149 then (ldI .i64 H137 (pad p147 0) λ n150=>
ldI .i64 H137 (pad p147 1) λ n151=>
ldL H137 (pad p147 2) λ q152 l153 c154=>
hst H137 p146 [.int .i64 n150,.int .i64 n151,.slice q152 l153 c154] λ H155=>
ldI .i64 H155 (pad p146 0) λ n156=>
ldI .i64 H155 (pad p146 1) λ n157=>
ldL H155 (pad p146 2) λ q158 l159 c160=>
K n156 n157 q158 l159 c160 15 H155)
 else (ldI .i64 H137 (pad p147 0) λ n161=>
ldI .i64 H137 (pad p147 1) λ n162=>
ldL H137 (pad p147 2) λ q163 l164 c165=>
f7 p144 n145 n161 n162 q163 l164 c165 n148 H137 λ H166=>
ldI .i64 H166 (pad p147 0) λ n167=>
ldI .i64 H166 (pad p147 1) λ n168=>
ldL H166 (pad p147 2) λ q169 l170 c171=>
hst H166 p146 [.int .i64 n167,.int .i64 n168,.slice q169 l170 c171] λ H172=>
ldI .i64 H172 (pad p146 0) λ n173=>
ldI .i64 H172 (pad p146 1) λ n174=>
ldL H172 (pad p146 2) λ q175 l176 c177=>
K n173 n174 q175 l176 c177 0 H172))) (λ p178 n179 H180=>
ldI .i64 H180 (pad p178 0) λ n181=>
ldI .i64 H180 (pad p178 1) λ n182=>
ldL H180 (pad p178 2) λ q183 l184 c185=>
K n181 n182 q183 l184 c185 n179 H180) k p66 p67 n68 p69 p70 p71 n84 q109 l110 c111 n114 0 H112)) (λ p186 n187 H188=>
ldI .i64 H188 (pad p186 0) λ n189=>
ldI .i64 H188 (pad p186 1) λ n190=>
ldL H188 (pad p186 2) λ q191 l192 c193=>
K n189 n190 q191 l192 c193 n187 H188)))
def ACg (k:Nat):AII R:=AEn (ABE k) (ACD k) (AHJ k) (AHW k) (AA7 k) (ABW k) (AAc k) (ABV k) k
def x52C:Tab R:=tcons 74 (x74a f0) <|tcons 75 (x75a f1) <|tcons 76 (x76a f2) <|tcons 21 (x21a f3) <|tcons 78 (x78a f4) <|tcons 77 (x77a f5) <|tcons 79 (x79a f6) <|tcons 80 (x80a f7) <|λ _ _ _ _=> none
def APF:PS:=⟨(.reg [0,2,6,9,13,132] []),[0,2,6,8,9,13,15,16],[.p,.n,.p,.p,.p,.n,.l,.n],⟨[0,2,6,9,13,132],[],[]⟩⟩
def AZv (g:AK6 R) (H:Heap) (K:XK R):Option R:=g H (kN .normal [0,2,6,9,13,132] [.p,.n,.p,.p,.n,.b] K H)
def AW2 (f:AGG R):Nat->List Value->Heap->XK R->Option R:=jp APF AZv f
def APG:PS:=⟨(.seq (.seq (.reg [0,1,2,6,8,9,13,15,16,17,89] []) (.cond .leaf .leaf)) (.seq (.node (.seq (.reg [0,1,2,6,8,9,13,15,16,17,18,19] (ms [0,0,2,0,14,0,0,96,224,480,1022,2046,4095,8191,16383,16383,32767,131071])) (.seq (.seq (.reg [0,1,2,6,8,9,13,15,16,17,18,19,109] []) (.cond (.seq (.reg [6,7] []) .leaf) .leaf)) (.seq (.reg [0,1,2,6,8,9,13,15,16,17,18] []) (.reg [0,1,2,6,8,9,13,15,16,17] []))))) (.reg [0,1,2,6,8,9,13,15,16,17] []))),[0,1,2,6,8,9,13,15,16,17],[.p,.p,.n,.p,.p,.p,.n,.l,.n,.n],⟨[],[(0,[0,2,6,8,9,13,15,16])],[6,7]⟩⟩
def AW1 {T:Type} (g:AIQ R T) (H:Heap) (K:XK R):T:=g (kH (.exit 0) [0,2,6,8,9,13,15,16] [.p,.n,.p,.p,.p,.n,.l,.n] K) (kH .ret [6,7] [.p,.n] K)
def AUW (f:AGK R):Nat->List Value->Heap->XK R->Option R:=jl APG (L:=AGK R) AW1 pH f
def APH:PS:=⟨(.seq (.reg [0,1,2,6,8,9,47] []) (.cond (.seq (.reg [0,1,2,6,8,9,11] []) (.seq (.reg [0,1,2,6,8,9,11,57] []) (.cond (.seq (.reg [6,7] []) .leaf) .leaf))) .leaf)),[0,1,2,6,8,9],[.p,.p,.n,.p,.p,.p],⟨[0,1,2,6,8,9],[],[6,7]⟩⟩
def AZw (g:AK7 R) (H:Heap) (K:XK R):Option R:=g H (kH .normal [0,1,2,6,8,9] [.p,.p,.n,.p,.p,.p] K) (kH .ret [6,7] [.p,.n] K)
def AW3 (f:AGH R):Nat->List Value->Heap->XK R->Option R:=jp APH AZw f
def API:PS:=⟨(.reg [0,1,2,6,8,9,11,42] []),[0,1,2,6,8,9,10,11],[.p,.p,.n,.p,.p,.p,.b,.n],⟨[0,1,2,6,8,9,11,42],[],[]⟩⟩
def AZx (g:AK8 R) (H:Heap) (K:XK R):Option R:=g (kN .normal [0,1,2,6,8,9,11,42] [.p,.p,.n,.p,.p,.p,.n,.b] K H)
def AW4 (f:AGJ R):Nat->List Value->Heap->XK R->Option R:=jp API AZx f
def x52J (k:Nat):JTab R:=tcons 0 (AW4 z0 k) <|tcons 1 (AW3 z1 k) <|tcons 2 (AUW z2 k) <|tcons 3 (AW2 z3 k) <|λ _ _ _ _=> none
def x52t:AT:=(.seq (.reg [0,1,2,6] []) (.seq (.reg [0,1,2,6,8] []) (.seq (.reg [0,1,2,6,8,9] []) (.seq (.reg [0,1,2,6,8,9,10,11] []) (.seq (.seq (.opq 0 API.ls API.out API.t) (.cond (.seq (.reg [6,7] []) .leaf) .leaf)) (.seq (.opq 1 APH.ls APH.out APH.t) (.seq (.reg [0,1,2,6,8,9,12,13,14] []) (.seq (.seq (.reg [0,1,2,6,8,9,12,13,14,71] []) (.cond (.seq (.reg [6,7] []) .leaf) .leaf)) (.seq (.reg [0,1,2,6,8,9,12,13] []) (.seq (.reg [0,1,2,6,8,9,13,15] (ms [0,1,0,0,8,24,56,127,255])) (.seq (.reg [0,1,2,6,8,9,13,15,16] []) (.seq (.seq (.reg [0,1,2,6,8,9,13,15,16,17] []) (.node (.opq 2 APG.ls APG.out (.node APG.t)))) (.seq (.seq (.opq 3 APF.ls APF.out APF.t) (.cond (.seq (.reg [6,7] []) .leaf) .leaf)) (.seq (.reg [6,9] []) (.seq (.reg [6,7] []) .leaf)))))))))))))))
def x52c (g:AMZ R) (H:Heap) (K:Value->Heap->Option R):Option R:=g H (rH [(.a 3),.n,.n,.l,.n] K)
def x52a (f:AII R):List Value->Heap->(Value->Heap->Option R)->Option R:=jf 3 [.p,.p,.n] x52c f
variable {f0 f1 f2 f3 f4 f5 f6 f7 z0 z1 z2 z3}
theorem Adw (k:Nat) (H:Heap) (K:XK R):jE Try.prog An 140 (x52C f0 f1 f2 f3 f4 f5 f6 f7) (x52J z0 z1 z2 z3 k) APF (sel [1,1,1,1,1,1,1,1,1,1,1,1,0,0] (bd Try.f52)) H K=mapT (λ g=> AZv g H K) APF.ts (AIO f6 k):=by kernel_rfl
theorem Adx (k n:Nat) (H:Heap) (K:XK R):lE Try.prog An 140 (x52C f0 f1 f2 f3 f4 f5 f6 f7) (x52J z0 z1 z2 z3 k) APG (sel [1,1,1,1,1,1,1,1,1,1,1,0,1,0,0] (bd Try.f52)) (AUW z2) n H K=mapT (λ g=> pH g H) APG.ts (AW1 (AGL f4 f5 k) H K (AW1 z2 H K n)):=by kernel_rfl
theorem Ady (k:Nat) (H:Heap) (K:XK R):jE Try.prog An 140 (x52C f0 f1 f2 f3 f4 f5 f6 f7) (x52J z0 z1 z2 z3 k) APH (sel [1,1,1,1,1,0] (bd Try.f52)) H K=mapT (λ g=> AZw g H K) APH.ts (AGI f1 k):=by kernel_rfl
theorem Adz (k:Nat) (H:Heap) (K:XK R):jE Try.prog An 140 (x52C f0 f1 f2 f3 f4 f5 f6 f7) (x52J z0 z1 z2 z3 k) API (sel [1,1,1,1,0,0] (bd Try.f52)) H K=mapT (λ g=> AZx g H K) API.ts (ADE k):=by kernel_rfl
theorem x52e (k:Nat) (H:Heap) (K:Value->Heap->Option R):fE Try.prog An (x52C f0 f1 f2 f3 f4 f5 f6 f7) (x52J z0 z1 z2 z3 k) x52t Try.f52 [.p,.p,.n] H K=mapT (λ g=> x52c g H K) [.p,.p,.n] (AEn f0 f2 f3 f7 z0 z1 z2 z3 k):=by kernel_rfl
theorem x52S (R:Type) (k:Nat):CSound Try.prog (x52C (R:=R) (ABE k) (AGa k) (ACD k) (AHJ k) (AJZ k) (AB7 k) (AJz k) (AHW k)):=AAB (AdJ R k) <|AAB (AdG R k) <|AAB (AdC R k) <|AAB (AfZ R k) <|AAB (AZc R k) <|AAB (AWf R k) <|AAB (Ac3 R k) <|AAB (Ac0 R k) <|AAE
theorem Ads (R:Type) (k:Nat):JS Try.prog 140 (AW2 (ABV (R:=R) k) k) APF.ls APF.out (sel [1,1,1,1,1,1,1,1,1,1,1,1,0,0] (bd Try.f52)):=pj (x52S R k) (x52J (AA7 k) (ABW k) (AAc k) (ABV k) k) (by kernel_rfl) (A:=True) trivial (by kernel_rfl) (λ _ _=> .trans (Adw _ _ _) (by kernel_rfl))
theorem Adt (R:Type) (k:Nat):JS Try.prog 140 (AUW (AAc (R:=R) k) k) APG.ls APG.out (.loop (sel [1,1,1,1,1,1,1,1,1,1,1,0,1,0,0] (bd Try.f52))):=lj (x52S R k) (x52J (AA7 k) (ABW k) (AAc k) (ABV k) k) (by kernel_rfl) (A:=True) trivial (by kernel_rfl) (λ _ _=> by kernel_rfl) (λ _ _ _=> .trans (Adx _ _ _ _) (by kernel_rfl)) k
theorem Adu (R:Type) (k:Nat):JS Try.prog 140 (AW3 (ABW (R:=R) k) k) APH.ls APH.out (sel [1,1,1,1,1,0] (bd Try.f52)):=pj (x52S R k) (x52J (AA7 k) (ABW k) (AAc k) (ABV k) k) (by kernel_rfl) (A:=True) trivial (by kernel_rfl) (λ _ _=> .trans (Ady _ _ _) (by kernel_rfl))
theorem Adv (R:Type) (k:Nat):JS Try.prog 140 (AW4 (AA7 (R:=R) k) k) API.ls API.out (sel [1,1,1,1,0,0] (bd Try.f52)):=pj (x52S R k) (x52J (AA7 k) (ABW k) (AAc k) (ABV k) k) (by kernel_rfl) (A:=True) trivial (by kernel_rfl) (λ _ _=> .trans (Adz _ _ _) (by kernel_rfl))
theorem Ad0 (R:Type) (k:Nat):∀args H K r,x52a (ACg k) args H K=some (r:R)->∃v H',Tri Try.prog 52 args H v H'/\K v H'=some r:=fj (x52S R k) (x52J (AA7 k) (ABW k) (AAc k) (ABV k) k) Try.func52 (by kernel_rfl) (A:=JS Try.prog 140 (AW4 (AA7 (R:=R) k) k) API.ls API.out (sel [1,1,1,1,0,0] (bd Try.f52))/\JS Try.prog 140 (AW3 (ABW (R:=R) k) k) APH.ls APH.out (sel [1,1,1,1,1,0] (bd Try.f52))/\JS Try.prog 140 (AUW (AAc (R:=R) k) k) APG.ls APG.out (.loop (sel [1,1,1,1,1,1,1,1,1,1,1,0,1,0,0] (bd Try.f52)))/\JS Try.prog 140 (AW2 (ABV (R:=R) k) k) APF.ls APF.out (sel [1,1,1,1,1,1,1,1,1,1,1,1,0,0] (bd Try.f52))/\True) ⟨Adv R k,⟨Adu R k,⟨Adt R k,⟨Ads R k,trivial⟩⟩⟩⟩ (by kernel_rfl) (λ _ _=> .trans (x52e _ _ _) (by kernel_rfl))
end
abbrev AKE (R:Type):Type:=Heap->(Oa->Option R)->(Int->Int->Option R)->Option R
abbrev AFV (R:Type):Type:=Oa->AKE R
abbrev AKD (R:Type):Type:=Heap->(Oa->Option R)->(Int->Int->Option R)->Option R
abbrev AFU (R:Type):Type:=Oa->AKD R
abbrev AKB (R:Type):Type:=Heap->(Oa->Bool->Option R)->Option R
abbrev AFS (R:Type):Type:=Oa->AKB R
abbrev AKC (R:Type):Type:=Heap->(Oa->Heap->Option R)->(Int->Int->Heap->Option R)->Option R
abbrev AFT (R:Type):Type:=Oa->AKC R
abbrev ALw (R:Type):Type:=Heap->(Int->Int->Heap->Option R)->Option R
abbrev AG3 (R:Type):Type:=Oa->ALw R
section
variable {R:Type} (z0:AFV R) (z1:AFU R) (z2:AFT R) (z3:AFS R)
def AHP (k:Nat):AFV R:=λ p1 H KN KR=>
bif p1.isNone then (KR 0 6)
 else (hnil p1 λ p2=>
hfad 0 p2 λ p3=>
ldB H p3 λ t4=>
bif (!t4) then (KR 0 6)
 else (KN p1))
def ABM (k:Nat):AFV R:=AHP k
def ACf (k:Nat):AFU R:=λ p1 H KN KR=>
hnil p1 λ p2=>
hfad 3 p2 λ p3=>
ldI .i64 H p3 λ n4=>
bif decide (n4 > 0) then (hnil p1 λ p5=>
hfad 1 p5 λ p6=>
ldL H p6 λ q7 l8 c9=>
hnil p1 λ p10=>
hfad 2 p10 λ p11=>
ldI .i64 H p11 λ n12=>
hidx q7 l8 (IntKind.wrap .i64 (n12 - 1)) 1 λ p13=>
ldI .u8 H p13 λ n14=>
hnil p1 λ p15=>
hfad 3 p15 λ p16=>
ldI .i64 H p16 λ n17=>
hbin .shl .i64 1 (IntKind.wrap .u64 n17) λ n18=>
hbin .and .i64 (IntKind.wrap .i64 n14) (IntKind.wrap .i64 (n18 - 1)) λ n19=>
bif (n19 !=0) then (KR 0 8)
 else (KN p1))
 else (KN p1)
def AAb (k:Nat):AFU R:=ACf k
def ADW (k:Nat):AFS R:=λ p1 H KN=>
hnil p1 λ p2=>
hfad 3 p2 λ p3=>
ldI .i64 H p3 λ n4=>
bif (n4==0) then (hnil p1 λ p5=>
hfad 2 p5 λ p6=>
ldI .i64 H p6 λ n7=>
bif decide (n7 > 0) then (hnil p1 λ p8=>
hfad 1 p8 λ p9=>
ldL H p9 λ q10 l11 c12=>
hnil p1 λ p13=>
hfad 2 p13 λ p14=>
ldI .i64 H p14 λ n15=>
hidx q10 l11 (IntKind.wrap .i64 (n15 - 1)) 1 λ p16=>
ldI .u8 H p16 λ n17=>
KN p1 (n17==255))
 else (KN p1 false))
 else (KN p1 false)
def AAt (k:Nat):AFS R:=ADW k
def AB8 (k:Nat):AFT R:=λ p1 H KN KR=>
z3 p1 H (λ p4 t5=>
bif t5 then (hnil p4 λ p6=>
hfad 2 p6 λ p7=>
ldI .i64 H p7 λ n8=>
hnil p4 λ p9=>
hfad 1 p9 λ p10=>
ldL H p10 λ q11 l12 c13=>
bif decide (n8≥((l12:Nat):Int)) then (KR 0 7 H)
 else (hnil p4 λ p14=>
hfad 1 p14 λ p15=>
ldL H p15 λ q16 l17 c18=>
hnil p4 λ p19=>
hfad 2 p19 λ p20=>
ldI .i64 H p20 λ n21=>
hidx q16 l17 n21 1 λ p22=>
ldI .u8 H p22 λ n23=>
bif (n23 !=0) then (KR 0 8 H)
 else (hnil p4 λ p24=>
hfad 2 p24 λ p25=>
ldI .i64 H p25 λ n26=>
hnil p4 λ p27=>
hfad 2 p27 λ p28=>
hst1 H p28 (.int .i64 (IntKind.wrap .i64 (n26+1))) λ H29=>
KN p4 H29)))
 else (KN p4 H))
def AAa (k:Nat):AFT R:=AB8 (AAt k) k
def ACM (k:Nat):AG3 R:=λ p1 H K=>
z0 p1 H (λ p5=>
z1 p5 H (λ p9=>
z2 p9 H (λ p13 H14=>
hnil p13 λ p15=>
hfad 3 p15 λ p16=>
hst1 H14 p16 (.int .i64 0) λ H17=>
hnil p13 λ p18=>
hfad 2 p18 λ p19=>
ldI .i64 H17 p19 λ n20=>
K n20 0 H17) (λ n21 n22 H23=>
K n21 n22 H23)) (λ n24 n25=>
K n24 n25 H)) (λ n26 n27=>
K n26 n27 H)
def ABt (k:Nat):AG3 R:=ACM (ABM k) (AAb k) (AAa k) k
def x53C:Tab R:=λ _ _ _ _=> none
def APB:PS:=⟨(.reg [0,66] (ms [0,1,3,7,15,31,63,127,255,511,1023,2047,4095,8191,16383,32767,65535,8191,139263,401407,925695,1974271,4194303,8388607,16777215,33554431])),[0],[.p],⟨[0,66],[],[]⟩⟩
def AZr (g:AKB R) (H:Heap) (K:XK R):Option R:=g H (kN .normal [0,66] [.p,.b] K H)
def AWx (f:AFS R):Nat->List Value->Heap->XK R->Option R:=jp APB AZr f
def APC:PS:=⟨(.seq (.opq 3 APB.ls APB.out APB.t) (.cond (.seq (.seq (.reg [0,76] (ms [0,1,3,7,0,16,48,112,240,511])) (.cond (.seq (.reg [2,3] []) .leaf) .leaf)) (.seq (.seq (.reg [0,87] (ms [0,1,3,7,0,16,48,112,255,511,1023])) (.cond (.seq (.reg [2,3] []) .leaf) .leaf)) (.reg [0] []))) .leaf)),[0],[.p],⟨[0],[],[2,3]⟩⟩
def AZs (g:AKC R) (H:Heap) (K:XK R):Option R:=g H (kH .normal [0] [.p] K) (kH .ret [2,3] [.n,.n] K)
def AWy (f:AFT R):Nat->List Value->Heap->XK R->Option R:=jp APC AZs f
def APD:PS:=⟨(.seq (.reg [0,40] (ms [0,1,3,7,15,31,63,127,255,511,63,1087,3135,7231,15423,32767,65535,131071,63,262207,786495,1835071,3932223,8126527,16515135,33554431,67108863,134217727])) (.cond (.seq (.reg [2,3] []) .leaf) .leaf)),[0],[.p],⟨[0],[],[2,3]⟩⟩
def AZt (g:AKD R) (H:Heap) (K:XK R):Option R:=g H (kN .normal [0] [.p] K H) (kN .ret [2,3] [.n,.n] K H)
def AWz (f:AFU R):Nat->List Value->Heap->XK R->Option R:=jp APD AZt f
def APE:PS:=⟨(.seq (.reg [0,12] []) (.cond (.seq (.reg [2,3] []) .leaf) .leaf)),[0],[.p],⟨[0],[],[2,3]⟩⟩
def AZu (g:AKE R) (H:Heap) (K:XK R):Option R:=g H (kN .normal [0] [.p] K H) (kN .ret [2,3] [.n,.n] K H)
def AW0 (f:AFV R):Nat->List Value->Heap->XK R->Option R:=jp APE AZu f
def x53J (k:Nat):JTab R:=tcons 0 (AW0 z0 k) <|tcons 1 (AWz z1 k) <|tcons 2 (AWy z2 k) <|tcons 3 (AWx z3 k) <|λ _ _ _ _=> none
def x53t:AT:=(.seq (.reg [0] []) (.seq (.opq 0 APE.ls APE.out APE.t) (.seq (.opq 1 APD.ls APD.out APD.t) (.seq (.opq 2 APC.ls APC.out APC.t) (.seq (.reg [0] []) (.seq (.reg [2,3] []) .leaf))))))
def x53c (g:ALw R) (H:Heap) (K:Value->Heap->Option R):Option R:=g H (rH [.n,.n] K)
def x53a (f:AG3 R):List Value->Heap->(Value->Heap->Option R)->Option R:=jf 1 [.p] x53c f
variable {z0 z1 z2 z3}
theorem Adn (k:Nat) (H:Heap) (K:XK R):jE Try.prog An 102 (x53C) (x53J z0 z1 z2 z3 k) APB (sel [1,1,1,0,0] (bd Try.f53)) H K=mapT (λ g=> AZr g H K) APB.ts (ADW k):=by kernel_rfl
theorem Ado (k:Nat) (H:Heap) (K:XK R):jE Try.prog An 102 (x53C) (x53J z0 z1 z2 z3 k) APC (sel [1,1,1,0] (bd Try.f53)) H K=mapT (λ g=> AZs g H K) APC.ts (AB8 z3 k):=by kernel_rfl
theorem Adp (k:Nat) (H:Heap) (K:XK R):jE Try.prog An 102 (x53C) (x53J z0 z1 z2 z3 k) APD (sel [1,1,0] (bd Try.f53)) H K=mapT (λ g=> AZt g H K) APD.ts (ACf k):=by kernel_rfl
theorem Adq (k:Nat) (H:Heap) (K:XK R):jE Try.prog An 102 (x53C) (x53J z0 z1 z2 z3 k) APE (sel [1,0] (bd Try.f53)) H K=mapT (λ g=> AZu g H K) APE.ts (AHP k):=by kernel_rfl
theorem x53e (k:Nat) (H:Heap) (K:Value->Heap->Option R):fE Try.prog An (x53C) (x53J z0 z1 z2 z3 k) x53t Try.f53 [.p] H K=mapT (λ g=> x53c g H K) [.p] (ACM z0 z1 z2 k):=by kernel_rfl
theorem x53S (R:Type) (k:Nat):CSound Try.prog (x53C (R:=R)):=AAE
theorem Adj (R:Type) (k:Nat):JS Try.prog 102 (AWx (AAt (R:=R) k) k) APB.ls APB.out (sel [1,1,1,0,0] (bd Try.f53)):=pj (x53S R k) (x53J (ABM k) (AAb k) (AAa k) (AAt k) k) (by kernel_rfl) (A:=True) trivial (by kernel_rfl) (λ _ _=> .trans (Adn _ _ _) (by kernel_rfl))
theorem Adk (R:Type) (k:Nat):JS Try.prog 102 (AWy (AAa (R:=R) k) k) APC.ls APC.out (sel [1,1,1,0] (bd Try.f53)):=pj (x53S R k) (x53J (ABM k) (AAb k) (AAa k) (AAt k) k) (by kernel_rfl) (A:=JS Try.prog 102 (AWx (AAt (R:=R) k) k) APB.ls APB.out (sel [1,1,1,0,0] (bd Try.f53))/\True) ⟨Adj R k,trivial⟩ (by kernel_rfl) (λ _ _=> .trans (Ado _ _ _) (by kernel_rfl))
theorem Adl (R:Type) (k:Nat):JS Try.prog 102 (AWz (AAb (R:=R) k) k) APD.ls APD.out (sel [1,1,0] (bd Try.f53)):=pj (x53S R k) (x53J (ABM k) (AAb k) (AAa k) (AAt k) k) (by kernel_rfl) (A:=True) trivial (by kernel_rfl) (λ _ _=> .trans (Adp _ _ _) (by kernel_rfl))
theorem Adm (R:Type) (k:Nat):JS Try.prog 102 (AW0 (ABM (R:=R) k) k) APE.ls APE.out (sel [1,0] (bd Try.f53)):=pj (x53S R k) (x53J (ABM k) (AAb k) (AAa k) (AAt k) k) (by kernel_rfl) (A:=True) trivial (by kernel_rfl) (λ _ _=> .trans (Adq _ _ _) (by kernel_rfl))
theorem Adr (R:Type) (k:Nat):∀args H K r,x53a (ABt k) args H K=some (r:R)->∃v H',Tri Try.prog 53 args H v H'/\K v H'=some r:=fj (x53S R k) (x53J (ABM k) (AAb k) (AAa k) (AAt k) k) Try.func53 (by kernel_rfl) (A:=JS Try.prog 102 (AW0 (ABM (R:=R) k) k) APE.ls APE.out (sel [1,0] (bd Try.f53))/\JS Try.prog 102 (AWz (AAb (R:=R) k) k) APD.ls APD.out (sel [1,1,0] (bd Try.f53))/\JS Try.prog 102 (AWy (AAa (R:=R) k) k) APC.ls APC.out (sel [1,1,1,0] (bd Try.f53))/\True) ⟨Adm R k,⟨Adl R k,⟨Adk R k,trivial⟩⟩⟩ (by kernel_rfl) (λ _ _=> .trans (x53e _ _ _) (by kernel_rfl))
end
abbrev AJ2 (R:Type):Type:=Heap->(Oa->Oa->Nat->Nat->Oa->Int->Int->Int->Oa->Heap->Option R)->(Oa->Nat->Nat->Int->Int->Heap->Option R)->Option R
abbrev AFD (R:Type):Type:=Oa->Oa->Nat->Nat->Oa->Int->Int->Int->Oa->AJ2 R
abbrev AHE (R:Type):Type:=Oa->Oa->Nat->Nat->Oa->Int->Int->Int->Heap->Option R
abbrev AHF (R T:Type):Type:=(Oa->Oa->Nat->Nat->Oa->Int->Int->Heap->Option R)->(Oa->Nat->Nat->Int->Int->Heap->Option R)->T
abbrev AFF (R:Type):Type:=AHF R (Nat->AHE R)
abbrev AJ1 (R:Type):Type:=(Oa->Oa->Nat->Nat->Oa->Option R)->(Oa->Nat->Nat->Int->Int->Option R)->Option R
abbrev AFB (R:Type):Type:=Oa->Oa->Nat->Nat->Oa->Int->Int->AJ1 R
abbrev ALa (R:Type):Type:=Heap->(Oa->Nat->Nat->Int->Int->Heap->Option R)->Option R
abbrev AGu (R:Type):Type:=Oa->Oa->Nat->Nat->ALa R
section
variable {R:Type} (f0:AJL R) (f1:ACY R) (f2:AII R) (f3:AG3 R) (z0:AFF R) (z1:AFD R) (z2:AFB R)
def AFE (k:Nat):AFD R:=λ p1 q2 l3 c4 p5 n6 n7 n8 p9 H KN KR=>
bif (n6==1) then (f2 p1 p5 n8 H λ n10 n11 q12 l13 c14 n15 H16=>
hst H16 p9 [.int .i64 n10,.int .i64 n11,.slice q12 l13 c14] λ H17=>
bif (n15 !=0) then (KR none 0 0 0 n15 H17)
 else (KN p1 q2 l3 c4 p5 n6 n7 n8 p9 H17))
 else (KN p1 q2 l3 c4 p5 n6 n7 n8 p9 H)
def ABK (k:Nat):AFD R:=AFE (ACg k) k
def AFG (k:Nat):AHF R (AHE R->AHE R):=λ KE0 KR rec p1 q2 l3 c4 p5 n6 n7 n8 H=>
hnil p1 λ p9=>
hfad 9 p9 λ p10=>
ldL H p10 λ q11 l12 c13=>
bif decide (n8 < ((l12:Nat):Int)) then (hnil p1 λ p14=>
hfad 9 p14 λ p15=>
ldL H p15 λ q16 l17 c18=>
hidx q16 l17 n8 8 λ p19=>
hfad 4 p19 λ p20=>
ldI .i64 H p20 λ n21=>
hal H [.int .i64 0,.int .i64 0,.slice none 0 0] λ p22 H23=>
hst H23 p22 [.int .i64 n21,.int .i64 0,.slice none 0 0] λ H24=>
z1 p1 q2 l3 c4 p5 n6 n7 n8 p22 H24 (λ p39 q40 l41 c42 p43 n44 n45 n46 p47 H48=>
hfad 1 p47 λ p49=>
ldI .i64 H48 p49 λ n50=>
ldI .i64 H48 (pad p47 0) λ n51=>
ldI .i64 H48 (pad p47 1) λ n52=>
ldL H48 (pad p47 2) λ q53 l54 c55=>
hal H48 [.int .i64 n51,.int .i64 n52,.slice q53 l54 c55] λ p56 H57=>
happS 3 40 H57 q40 l41 c42 p56 1 λ q58 l59 c60 H61=>
rec p39 q58 l59 c60 p43 n44 (IntKind.wrap .i64 (n45+n50)) (IntKind.wrap .i64 (n46+1)) H61) (λ q62 l63 c64 n65 n66 H67=>
KR q62 l63 c64 n65 n66 H67))
 else (KE0 p1 q2 l3 c4 p5 n6 n7 H)
def AAh (k:Nat):AFF R
 |KE0,KR,0=> λ _ _ _ _ _ _ _ _ _=> none
 |KE0,KR,n+1=> AFG (ABK k) k KE0 KR (AAh k KE0 KR n)
def AFC (k:Nat):AFB R:=λ p1 q2 l3 c4 p5 n6 n7 KN KR=>
bif (n6==1) then (bif (n7==0) then (KR none 0 0 0 15)
 else (KN p1 q2 l3 c4 p5))
 else (KN p1 q2 l3 c4 p5)
def ABJ (k:Nat):AFB R:=AFC k
def AGv (k:Nat):AGu R:=λ p1 q2 l3 c4 H K=>
f0 q2 l3 c4 H λ p5 H6=>
f1 p5 H6 λ n7 n8 H9=>
bif (n8 !=0) then (K none 0 0 0 n8 H9)
 else (z0 (λ p22 q23 l24 c25 p26 n27 n28 H29=>
z2 p22 q23 l24 c25 p26 n27 n28 (λ p40 q41 l42 c43 p44=>
f3 p44 H29 λ n45 n46 H47=>
bif (n46 !=0) then (K none 0 0 0 n46 H47)
 else (hnil p40 λ p48=>
hfad 10 p48 λ p49=>
ldI .i64 H47 p49 λ n50=>
hnil p40 λ p51=>
hfad 10 p51 λ p52=>
hst1 H47 p52 (.int .i64 (IntKind.wrap .i64 (n50+1))) λ H53=>
hnil p40 λ p54=>
hfad 12 p54 λ p55=>
hst1 H53 p55 (.bool true) λ H56=>
K q41 l42 c43 n45 0 H56)) (λ q57 l58 c59 n60 n61=>
K q57 l58 c59 n60 n61 H29)) (λ q62 l63 c64 n65 n66 H67=>
K q62 l63 c64 n65 n66 H67) k p1 none 0 0 p5 n7 0 0 H9)
def ACW (k:Nat):AGu R:=AGv AGV (AAk k) (ABt k) (AAh k) (ABJ k) k
def x34C:Tab R:=tcons 50 (x50a f0) <|tcons 51 (x51a f1) <|tcons 52 (x52a f2) <|tcons 53 (x53a f3) <|λ _ _ _ _=> none
def APg:PS:=⟨(.seq (.reg [0,4,7,65] []) (.cond (.seq (.reg [4,5,6] []) .leaf) .leaf)),[0,4,7,8,9],[.p,.l,.p,.n,.n],⟨[0,4,7],[],[4,5,6]⟩⟩
def AaG (g:AJ1 R) (H:Heap) (K:XK R):Option R:=g (kN .normal [0,4,7] [.p,.l,.p] K H) (kN .ret [4,5,6] [.l,.n,.n] K H)
def AXU (f:AFB R):Nat->List Value->Heap->XK R->Option R:=jp APg AaG f
def APh:PS:=⟨(.seq (.reg [0,4,7,8,9,10,11,41] []) (.cond (.seq (.reg [0,4,6,7,8,9,10,11] []) (.seq (.reg [0,4,6,7,8,9,10,11,50] []) (.cond (.seq (.reg [4,5,6] []) .leaf) .leaf))) .leaf)),[0,4,7,8,9,10,11],[.p,.l,.p,.n,.n,.n,.p],⟨[0,4,7,8,9,10,11],[],[4,5,6]⟩⟩
def AaH (g:AJ2 R) (H:Heap) (K:XK R):Option R:=g H (kH .normal [0,4,7,8,9,10,11] [.p,.l,.p,.n,.n,.n,.p] K) (kH .ret [4,5,6] [.l,.n,.n] K)
def AXV (f:AFD R):Nat->List Value->Heap->XK R->Option R:=jp APh AaH f
def APi:PS:=⟨(.seq (.seq (.reg [0,4,7,8,9,10,28] []) (.cond .leaf .leaf)) (.seq (.node (.seq (.reg [0,4,7,8,9,10,11] []) (.seq (.opq 1 APh.ls APh.out APh.t) (.seq (.reg [0,4,7,8,9,10,11] []) (.reg [0,4,7,8,9,10] []))))) (.reg [0,4,7,8,9,10] []))),[0,4,7,8,9,10],[.p,.l,.p,.n,.n,.n],⟨[],[(0,[0,4,7,8,9])],[4,5,6]⟩⟩
def AXT {T:Type} (g:AHF R T) (H:Heap) (K:XK R):T:=g (kH (.exit 0) [0,4,7,8,9] [.p,.l,.p,.n,.n] K) (kH .ret [4,5,6] [.l,.n,.n] K)
def AUc (f:AFF R):Nat->List Value->Heap->XK R->Option R:=jl APi (L:=AFF R) AXT pH f
def x34J (k:Nat):JTab R:=tcons 0 (AUc z0 k) <|tcons 1 (AXV z1 k) <|tcons 2 (AXU z2 k) <|λ _ _ _ _=> none
def x34t:AT:=(.seq (.reg [0,1,4] []) (.seq (.reg [0,4,7] []) (.seq (.reg [0,4,6,7,8] []) (.seq (.seq (.reg [0,4,6,7,8,20] []) (.cond (.seq (.reg [4,5,6] []) .leaf) .leaf)) (.seq (.reg [0,4,7,8,9] []) (.seq (.seq (.reg [0,4,7,8,9,10] []) (.node (.opq 0 APi.ls APi.out (.node APi.t)))) (.seq (.opq 2 APg.ls APg.out APg.t) (.seq (.reg [0,4,5,6] []) (.seq (.seq (.reg [0,4,5,6,72] []) (.cond (.seq (.reg [4,5,6] []) .leaf) .leaf)) (.seq (.reg [0,4,5] []) (.seq (.reg [4,5] []) (.seq (.reg [4,5,6] []) .leaf))))))))))))
def x34c (g:ALa R) (H:Heap) (K:Value->Heap->Option R):Option R:=g H (rH [.l,.n,.n] K)
def x34a (f:AGu R):List Value->Heap->(Value->Heap->Option R)->Option R:=jf 2 [.p,.l] x34c f
variable {f0 f1 f2 f3 z0 z1 z2}
theorem Aex (k:Nat) (H:Heap) (K:XK R):jE Try.prog An 87 (x34C f0 f1 f2 f3) (x34J z0 z1 z2 k) APg (sel [1,1,1,1,1,1,0] (bd Try.f34)) H K=mapT (λ g=> AaG g H K) APg.ts (AFC k):=by kernel_rfl
theorem Aey (k:Nat) (H:Heap) (K:XK R):jE Try.prog An 87 (x34C f0 f1 f2 f3) (x34J z0 z1 z2 k) APh (sel [1,1,1,1,1,0,1,0,0,1,0,0,1,0] (bd Try.f34)) H K=mapT (λ g=> AaH g H K) APh.ts (AFE f2 k):=by kernel_rfl
theorem Aez (k n:Nat) (H:Heap) (K:XK R):lE Try.prog An 87 (x34C f0 f1 f2 f3) (x34J z0 z1 z2 k) APi (sel [1,1,1,1,1,0,1,0,0] (bd Try.f34)) (AUc z0) n H K=mapT (λ g=> pH g H) APi.ts (AXT (AFG z1 k) H K (AXT z0 H K n)):=by kernel_rfl
theorem x34e (k:Nat) (H:Heap) (K:Value->Heap->Option R):fE Try.prog An (x34C f0 f1 f2 f3) (x34J z0 z1 z2 k) x34t Try.f34 [.p,.l] H K=mapT (λ g=> x34c g H K) [.p,.l] (AGv f0 f1 f3 z0 z2 k):=by kernel_rfl
theorem x34S (R:Type) (k:Nat):CSound Try.prog (x34C (R:=R) AGV (AAk k) (ACg k) (ABt k)):=AAB (Ad9 R k) <|AAB (ASJ R k) <|AAB (Ad0 R k) <|AAB (Adr R k) <|AAE
theorem Aeu (R:Type) (k:Nat):JS Try.prog 87 (AXU (ABJ (R:=R) k) k) APg.ls APg.out (sel [1,1,1,1,1,1,0] (bd Try.f34)):=pj (x34S R k) (x34J (AAh k) (ABK k) (ABJ k) k) (by kernel_rfl) (A:=True) trivial (by kernel_rfl) (λ _ _=> .trans (Aex _ _ _) (by kernel_rfl))
theorem Aev (R:Type) (k:Nat):JS Try.prog 87 (AXV (ABK (R:=R) k) k) APh.ls APh.out (sel [1,1,1,1,1,0,1,0,0,1,0,0,1,0] (bd Try.f34)):=pj (x34S R k) (x34J (AAh k) (ABK k) (ABJ k) k) (by kernel_rfl) (A:=True) trivial (by kernel_rfl) (λ _ _=> .trans (Aey _ _ _) (by kernel_rfl))
theorem Aew (R:Type) (k:Nat):JS Try.prog 87 (AUc (AAh (R:=R) k) k) APi.ls APi.out (.loop (sel [1,1,1,1,1,0,1,0,0] (bd Try.f34))):=lj (x34S R k) (x34J (AAh k) (ABK k) (ABJ k) k) (by kernel_rfl) (A:=JS Try.prog 87 (AXV (ABK (R:=R) k) k) APh.ls APh.out (sel [1,1,1,1,1,0,1,0,0,1,0,0,1,0] (bd Try.f34))/\True) ⟨Aev R k,trivial⟩ (by kernel_rfl) (λ _ _=> by kernel_rfl) (λ _ _ _=> .trans (Aez _ _ _ _) (by kernel_rfl)) k
theorem Ae0 (R:Type) (k:Nat):∀args H K r,x34a (ACW k) args H K=some (r:R)->∃v H',Tri Try.prog 34 args H v H'/\K v H'=some r:=fj (x34S R k) (x34J (AAh k) (ABK k) (ABJ k) k) Try.func34 (by kernel_rfl) (A:=JS Try.prog 87 (AUc (AAh (R:=R) k) k) APi.ls APi.out (.loop (sel [1,1,1,1,1,0,1,0,0] (bd Try.f34)))/\JS Try.prog 87 (AXU (ABJ (R:=R) k) k) APg.ls APg.out (sel [1,1,1,1,1,1,0] (bd Try.f34))/\True) ⟨Aew R k,⟨Aeu R k,trivial⟩⟩ (by kernel_rfl) (λ _ _=> .trans (x34e _ _ _) (by kernel_rfl))
end
abbrev AJ3 (R:Type):Type:=Heap->(Oa->Oa->Nat->Nat->Option R)->(Oa->Nat->Nat->Int->Int->Option R)->Option R
abbrev AFH (R:Type):Type:=Oa->Oa->Nat->Nat->AJ3 R
abbrev ALb (R:Type):Type:=Heap->(Oa->Nat->Nat->Int->Int->Heap->Option R)->Option R
abbrev AGy (R:Type):Type:=Oa->Oa->Nat->Nat->ALb R
section
variable {R:Type} (f0:AEo R) (f1:AHX R) (f2:AGu R) (z0:AFH R)
def AHG (k:Nat):AFH R:=λ p1 q2 l3 c4 H KN KR=>
f0 p1 H λ t5=>
bif (!t5) then (KR none 0 0 0 6)
 else (hnil p1 λ p6=>
hfad 11 p6 λ p7=>
ldB H p7 λ t8=>
bif t8 then (KR none 0 0 0 6)
 else (hnil p1 λ p9=>
hfad 10 p9 λ p10=>
ldI .i64 H p10 λ n11=>
bif decide (n11≥16) then (KR none 0 0 0 6)
 else (KN p1 q2 l3 c4)))
def ADF (k:Nat):AFH R:=AHG ACh k
def AJF (k:Nat):AGy R:=λ p1 q2 l3 c4 H K=>
z0 p1 q2 l3 c4 H (λ p14 q15 l16 c17=>
f1 p14 H λ p18 H19=>
f2 p18 q15 l16 c17 H19 λ q20 l21 c22 n23 n24 H25=>
bif (n24 !=0) then (K none 0 0 0 n24 H25)
 else (hnil p18 λ p26=>
ldB H25 (pad p26 0) λ t27=>
ldL H25 (pad p26 1) λ q28 l29 c30=>
ldB H25 (pad p26 2) λ t31=>
ldB H25 (pad p26 3) λ t32=>
ldB H25 (pad p26 4) λ t33=>
ldB H25 (pad p26 5) λ t34=>
ldB H25 (pad p26 6) λ t35=>
ldL H25 (pad p26 7) λ q36 l37 c38=>
ldL H25 (pad p26 8) λ q39 l40 c41=>
ldL H25 (pad p26 9) λ q42 l43 c44=>
ldI .i64 H25 (pad p26 10) λ n45=>
ldB H25 (pad p26 11) λ t46=>
ldB H25 (pad p26 12) λ t47=>
ldL H25 (pad p26 13) λ q48 l49 c50=>
ldL H25 (pad p26 14) λ q51 l52 c53=>
hnil p14 λ p54=>
hst H25 p54 [.bool t27,.slice q28 l29 c30,.bool t31,.bool t32,.bool t33,.bool t34,.bool t35,.slice q36 l37 c38,.slice q39 l40 c41,.slice q42 l43 c44,.int .i64 n45,.bool t46,.bool t47,.slice q48 l49 c50,.slice q51 l52 c53] λ H55=>
K q20 l21 c22 n23 0 H55)) (λ q56 l57 c58 n59 n60=>
K q56 l57 c58 n59 n60 H)
def ACu (k:Nat):AGy R:=AJF (AHH k) (ACW k) (ADF k) k
def x17C:Tab R:=tcons 30 (x30a f0) <|tcons 33 (x33a f1) <|tcons 34 (x34a f2) <|λ _ _ _ _=> none
def AP3:PS:=⟨(.seq (.reg [0,1,23] []) (.cond (.seq (.reg [4,5,6] []) .leaf) .leaf)),[0,1],[.p,.l],⟨[0,1],[],[4,5,6]⟩⟩
def AaT (g:AJ3 R) (H:Heap) (K:XK R):Option R:=g H (kN .normal [0,1] [.p,.l] K H) (kN .ret [4,5,6] [.l,.n,.n] K H)
def AXr (f:AFH R):Nat->List Value->Heap->XK R->Option R:=jp AP3 AaT f
def x17J (k:Nat):JTab R:=tcons 0 (AXr z0 k) <|λ _ _ _ _=> none
def x17t:AT:=(.seq (.reg [0,1] []) (.seq (.opq 0 AP3.ls AP3.out AP3.t) (.seq (.reg [0,1,7] []) (.seq (.reg [0,4,5,6,7] []) (.seq (.seq (.reg [0,4,5,6,7,34] []) (.cond (.seq (.reg [4,5,6] []) .leaf) .leaf)) (.seq (.reg [4,5] []) (.seq (.reg [4,5,6] []) .leaf)))))))
def x17c (g:ALb R) (H:Heap) (K:Value->Heap->Option R):Option R:=g H (rH [.l,.n,.n] K)
def x17a (f:AGy R):List Value->Heap->(Value->Heap->Option R)->Option R:=jf 2 [.p,.l] x17c f
variable {f0 f1 f2 z0}
theorem Afp (k:Nat) (H:Heap) (K:XK R):jE Try.prog An 43 (x17C f0 f1 f2) (x17J z0 k) AP3 (sel [1,0] (bd Try.f17)) H K=mapT (λ g=> AaT g H K) AP3.ts (AHG f0 k):=by kernel_rfl
theorem x17e (k:Nat) (H:Heap) (K:Value->Heap->Option R):fE Try.prog An (x17C f0 f1 f2) (x17J z0 k) x17t Try.f17 [.p,.l] H K=mapT (λ g=> x17c g H K) [.p,.l] (AJF f1 f2 z0 k):=by kernel_rfl
theorem x17S (R:Type) (k:Nat):CSound Try.prog (x17C (R:=R) ACh (AHH k) (ACW k)):=AAB (AXa R k) <|AAB (Ae3 R k) <|AAB (Ae0 R k) <|AAE
theorem Afo (R:Type) (k:Nat):JS Try.prog 43 (AXr (ADF (R:=R) k) k) AP3.ls AP3.out (sel [1,0] (bd Try.f17)):=pj (x17S R k) (x17J (ADF k) k) (by kernel_rfl) (A:=True) trivial (by kernel_rfl) (λ _ _=> .trans (Afp _ _ _) (by kernel_rfl))
theorem Afq (R:Type) (k:Nat):∀args H K r,x17a (ACu k) args H K=some (r:R)->∃v H',Tri Try.prog 17 args H v H'/\K v H'=some r:=fj (x17S R k) (x17J (ADF k) k) Try.func17 (by kernel_rfl) (A:=JS Try.prog 43 (AXr (ADF (R:=R) k) k) AP3.ls AP3.out (sel [1,0] (bd Try.f17))/\True) ⟨Afo R k,trivial⟩ (by kernel_rfl) (λ _ _=> .trans (x17e _ _ _) (by kernel_rfl))
end
abbrev ALx (R:Type):Type:=Heap->(Bool->Heap->Option R)->Option R
abbrev AJO (R:Type):Type:=Oa->Nat->Nat->Oa->Nat->Nat->Bool->Bool->Bool->Bool->Bool->Oa->Nat->Nat->ALx R
section
variable {R:Type} (f0:AQ5 R) (f1:AJg R) (f2:AKk R) (f3:AMs R) (f4:AEX R) (f5:AGy R) (f6:ANK R)
def AJP (k:Nat):AJO R:=λ q1 l2 c3 q4 l5 c6 t7 t8 t9 t10 t11 q12 l13 c14 H K=>
hal H [.slice q1 l2 c3,.slice q4 l5 c6,.bool t7,.bool t8,.bool t9,.bool t10,.bool t11] λ p15 H16=>
ldL H16 (pad p15 0) λ q17 l18 c19=>
ldL H16 (pad p15 1) λ q20 l21 c22=>
ldB H16 (pad p15 2) λ t23=>
ldB H16 (pad p15 3) λ t24=>
ldB H16 (pad p15 4) λ t25=>
ldB H16 (pad p15 5) λ t26=>
ldB H16 (pad p15 6) λ t27=>
hal H16 [.int .i64 0,.slice none 0 0,.slice none 0 0,.slice none 0 0,.slice q12 l13 c14] λ p28 H29=>
f0 q17 l18 c19 q20 l21 c22 t23 t24 t25 t26 t27 p28 1 1 H29 λ t30 H31=>
bif (!t30) then (f1 λ t32=>
K t32 H31)
 else (hfad 0 p15 λ p33=>
ldL H31 p33 λ q34 l35 c36=>
hfad 1 p15 λ p37=>
ldL H31 p37 λ q38 l39 c40=>
hfad 2 p15 λ p41=>
ldB H31 (pad p41 0) λ t42=>
ldB H31 (pad p41 1) λ t43=>
ldB H31 (pad p41 2) λ t44=>
ldB H31 (pad p41 3) λ t45=>
ldB H31 (pad p41 4) λ t46=>
f2 q34 l35 c36 q38 l39 c40 t42 t43 t44 t45 t46 H31 λ p47 n48 H49=>
hfad 0 p15 λ p50=>
ldL H49 p50 λ q51 l52 c53=>
hfad 1 p15 λ p54=>
ldL H49 p54 λ q55 l56 c57=>
hfad 2 p15 λ p58=>
ldB H49 (pad p58 0) λ t59=>
ldB H49 (pad p58 1) λ t60=>
ldB H49 (pad p58 2) λ t61=>
ldB H49 (pad p58 3) λ t62=>
ldB H49 (pad p58 4) λ t63=>
f3 q51 l52 c53 q55 l56 c57 t59 t60 t61 t62 t63 H49 λ p64 n65 H66=>
f4 p47 q12 l13 c14 H66 λ q67 l68 c69 n70 n71 H72=>
f5 p64 q12 l13 c14 H72 λ q73 l74 c75 n76 n77 H78=>
bif (n71==n77) then (bif (n70==n76) then (f6 q67 l68 c69 q73 l74 c75 H78 λ t79=>
bif t79 then (f1 λ t80=>
K t80 H78)
 else (K false H78))
 else (K false H78))
 else (K false H78))
def AGc (k:Nat):AJO R:=AJP (ARm k) AFz (AGC k) (AKS k) (ABv k) (ACu k) (AMR k) k
def x4C:Tab R:=tcons 15 (x15a f0) <|tcons 9 (x9a f1) <|tcons 10 (x10a f2) <|tcons 11 (x11a f3) <|tcons 16 (x16a f4) <|tcons 17 (x17a f5) <|tcons 18 (x18a f6) <|λ _ _ _ _=> none
def x4J (k:Nat):JTab R:=λ _ _ _ _=> none
def x4t:AT:=(.seq (.reg [1,2] []) (.seq (.seq (.reg [1,2,20] []) (.cond (.seq (.reg [4] []) .leaf) .leaf)) (.seq (.reg [1,2,5] []) (.seq (.reg [1,5,7] []) (.seq (.reg [1,7,9,10,11] []) (.seq (.reg [9,10,11,12,13,14] []) (.seq (.reg [4] []) .leaf)))))))
def x4c (g:ALx R) (H:Heap) (K:Value->Heap->Option R):Option R:=g H (rH [.b] K)
def x4a (f:AJO R):List Value->Heap->(Value->Heap->Option R)->Option R:=jf 2 [(.a 7),.l,.l,.b,.b,.b,.b,.b,.l] x4c f
variable {f0 f1 f2 f3 f4 f5 f6}
theorem x4e (k:Nat) (H:Heap) (K:Value->Heap->Option R):fE Try.prog An (x4C f0 f1 f2 f3 f4 f5 f6) (x4J k) x4t Try.f4 [(.a 7),.l,.l,.b,.b,.b,.b,.b,.l] H K=mapT (λ g=> x4c g H K) [(.a 7),.l,.l,.b,.b,.b,.b,.b,.l] (AJP f0 f1 f2 f3 f4 f5 f6 k):=by kernel_rfl
theorem x4S (R:Type) (k:Nat):CSound Try.prog (x4C (R:=R) (ARm k) AFz (AGC k) (AKS k) (ABv k) (ACu k) (AMR k)):=AAB (Af2 R k) <|AAB (x9cs R k) <|AAB (AgY R k) <|AAB (AaX R k) <|AAB (Aft R k) <|AAB (Afq R k) <|AAB (Afn R k) <|AAE
theorem x4cs (R:Type) (k:Nat):∀args H K r,x4a (AGc k) args H K=some (r:R)->∃v H',Tri Try.prog 4 args H v H'/\K v H'=some r:=fj (x4S R k) (x4J k) Try.func4 (by kernel_rfl) (A:=True) trivial (by kernel_rfl) (λ _ _=> .trans (x4e _ _ _) (by kernel_rfl))
def ALy (R:Type) (k:Nat):List Value->Heap->(Value->Heap->Option R)->Option R:=x4a (AGc k)
theorem L_PktheadDecodes_cs (R:Type) (k:Nat):∀args H K r,ALy R k args H K=some r->∃v H',Tri Try.prog 4 args H v H'/\K v H'=some r:=x4cs R k
end
end Go.Proofs.Ytmanlfonppfhaaa.Sh
namespace Go.Proofs.Ytmanlfonppfhaaa.FW
variable {R:Type}
theorem AHo {H J:Heap} {b:Nat} (h:b < H.length):hblk (H++J) b=hblk H b:=by
 rw [AGD];unfold hpu;rw [if_neg (by omega)]
theorem AI7 (H:Heap) (x:Option Blk) (J:Heap):hblk (H++x::J) H.length=x:=by
 rw [AGD];unfold hpu;rw [if_pos (by simp)];simp [hblk]
def Old (N:Nat) (H H':Heap):Prop:=H.length<=H'.length/\∀b,b < N->hblk H' b=hblk H b
theorem Old.refl (N:Nat) (H:Heap):Old N H H:=⟨Nat.le_refl _,λ _ _=> rfl⟩
theorem Old.trans {N:Nat} {H1 H2 H3:Heap} (a:Old N H1 H2) (b:Old N H2 H3):Old N H1 H3:=⟨Nat.le_trans a.1 b.1,λ i hi=> (b.2 i hi).trans (a.2 i hi)⟩
theorem Old.mono {N M:Nat} {H H':Heap} (a:Old N H H') (h:M<=N):Old M H H':=⟨a.1,λ i hi=> a.2 i (Nat.lt_of_lt_of_le hi h)⟩
theorem Old.app (H J:Heap):Old H.length H (H++J):=⟨by simp,λ _ hb=> AHo hb⟩
def Sees (H:Heap) (b:Nat) (cs:List Value):Prop:=∃B,hblk H b=some B/\B.cells=cs
def Owns (H:Heap) (b:Nat) (cs:List Value) (sz:Nat):Prop:=hblk H b=some ⟨cs,false,sz⟩
theorem Owns.sees {H:Heap} {b sz:Nat} {cs:List Value} (h:Owns H b cs sz):Sees H b cs:=⟨_,h,rfl⟩
theorem Sees.lt {H:Heap} {b:Nat} {cs:List Value} (h:Sees H b cs):b < H.length:=by obtain ⟨B,h,_⟩:=h;exact AIM h
theorem Sees.ro {H:Heap} {b:Nat} {cs:List Value} (h:Sees H b cs):Sees (roH H) b cs:=by
 obtain ⟨B,h,rfl⟩:=h
 exact ⟨⟨B.cells,true,B.sz⟩,by rw [AOT,h];rfl,rfl⟩
theorem Sees.old {H H':Heap} {b N:Nat} {cs:List Value} (h:Sees H b cs) (o:Old N H H') (hb:b < N):Sees H' b cs:=by
 obtain ⟨B,h,rfl⟩:=h
 exact ⟨B,by rw [o.2 b hb];exact h,rfl⟩
theorem Owns.old {H H':Heap} {b N sz:Nat} {cs:List Value} (h:Owns H b cs sz) (o:Old N H H') (hb:b < N):Owns H' b cs sz:=by
 unfold Owns at *;rw [o.2 b hb];exact h
theorem Sees.cell {H:Heap} {b:Nat} {cs:List Value} (h:Sees H b cs) (o:Nat):hcell H b o=cs[o]? :=by
 obtain ⟨B,h,rfl⟩:=h
 unfold hcell;rw [h]
def pcell (H:Heap) (p:Option Addr):Option Value:=match p with
 |some ⟨b,o,_⟩=> hcell H b o
 |none=> none
theorem AR5 {H:Heap} {p:Option Addr} {k:IntKind} {n:Int} (h:pcell H p=some (.int k n)) (hk:ikeq k k=true) (K:Int->Option R):ldI k H p K=K n:=by
 cases p with
 |none=> cases h
 |some a=> obtain ⟨b,o,s⟩:=a;simp only [pcell] at h;simp only [ldI,h,hk,cond_true]
theorem AQY {H:Heap} {p:Option Addr} {n:Bool} (h:pcell H p=some (.bool n)) (K:Bool->Option R):ldB H p K=K n:=by
 cases p with
 |none=> cases h
 |some a=> obtain ⟨b,o,s⟩:=a;simp only [pcell] at h;simp only [ldB,h]
theorem AQa (H:Heap) (cs:List Value):∃p H',(∀(R:Type) (K:Option Addr->Heap->Option R),hal H cs K=K p H')/\p=some ⟨H.length,0,none⟩/\Owns H' H.length cs 0/\Old H.length H H'/\H'.length=H.length+1:=
 ⟨_,_,λ _ _=> rfl,rfl,AI7 H _ [],Old.app _ _,by simp⟩
def Shows (H:Heap) (q:Option Addr) (cs:List Value):Prop:=cs= []∨∃b o full,q=some ⟨b,o,none⟩/\Sees H b full/\o+cs.length<=full.length/\(full.drop o).take cs.length=cs
def Below (N:Nat) (q:Option Addr):Prop:=∀a,q=some a->a.block < N
theorem Shows.old {H H':Heap} {q:Option Addr} {N:Nat} {cs:List Value} (h:Shows H q cs) (o:Old N H H') (hb:cs= []∨Below N q):Shows H' q cs:=by
 rcases h with h|⟨b,o',full,rfl,h1,h2,h3⟩
 . exact .inl h
 . rcases hb with hb|hb
   . exact .inl hb
   . exact .inr ⟨b,o',full,rfl,h1.old o (hb _ rfl),h2,h3⟩
theorem Shows.ro {H:Heap} {q:Option Addr} {cs:List Value} (h:Shows H q cs):Shows (roH H) q cs:=by
 rcases h with h|⟨b,o',full,rfl,h1,h2,h3⟩
 . exact .inl h
 . exact .inr ⟨b,o',full,rfl,h1.ro,h2,h3⟩
theorem Sees.shows {H:Heap} {b:Nat} {cs:List Value} (h:Sees H b cs):Shows H (some ⟨b,0,none⟩) cs:= .inr ⟨b,0,cs,rfl,h,by simp,by simp⟩
theorem Shows.idx {H:Heap} {q:Option Addr} {l size:Nat} {cs:List Value} (h:Shows H q cs) (hl:l * size<=cs.length) {i:Int} (h0:0<=i) (h1:i < l) (hs:0 < size):
 ∃p,(∀(R:Type) (K:Option Addr->Option R),hidx q l i size K=K p)/\(∀j v,cs[i.toNat * size+j]? =some v->j < size->pcell H (pad p j)=some v)/\(∀v,cs[i.toNat * size]? =some v->pcell H p=some v):=by
 have hlt:i.toNat * size+size<=l * size:=by
  have:i.toNat+1<=l:=by omega
  have:=Nat.mul_le_mul_right size this
  rwa [Nat.add_mul,Nat.one_mul] at this
 rcases h with h|⟨b,o,full,rfl,h3,h4,h5⟩
 . subst h;simp at hl;omega
 . refine ⟨some ⟨b,o+i.toNat * size,none⟩,λ R K=> by simp only [hidx];rw [if_pos ⟨h0,h1⟩],λ j v hv hj=> ?_,λ v hv=> ?_⟩
   . simp only [pad,pcell,h3.cell]
     rw [←h5,List.getElem?_take,List.getElem?_drop] at hv
     split at hv
     . rw [show o+i.toNat * size+j=o+(i.toNat * size+j) from by omega];exact hv
     . cases hv
   . simp only [pcell,h3.cell]
     rw [←h5,List.getElem?_take,List.getElem?_drop] at hv
     split at hv
     . exact hv
     . cases hv
theorem Shows.hcells {H:Heap} {q:Option Addr} {cs:List Value} (h:Shows H q cs):FW.hcells H q cs.length=some cs:=by
 unfold FW.hcells
 rcases h with h|⟨b,o,full,rfl,⟨B,h3,rfl⟩,h4,h5⟩
 . subst h;rfl
 . split
   . rename_i h0;rw [List.length_eq_zero_iff.1 h0]
   . simp only [h3];rw [if_pos h4,h5]
def Bld (N size:Nat) (H:Heap) (q:Option Addr) (l c:Nat) (cs:List Value):Prop:=
 (q=none/\l=0/\c=0/\cs= [])∨∃b,q=some ⟨b,0,none⟩/\c=unk/\N<=b/\Owns H b cs size/\l * size=cs.length
theorem Bld.nil (N size:Nat) (H:Heap):Bld N size H none 0 0 []:= .inl ⟨rfl,rfl,rfl,rfl⟩
theorem Bld.shows {N size:Nat} {H:Heap} {q:Option Addr} {l c:Nat} {cs:List Value} (h:Bld N size H q l c cs):Shows H q cs/\l * size=cs.length:=by
 rcases h with ⟨rfl,rfl,rfl,rfl⟩|⟨b,rfl,_,_,h1,h2⟩
 . exact ⟨.inl rfl,by simp⟩
 . exact ⟨h1.sees.shows,h2⟩
theorem Bld.old {N M size:Nat} {H H':Heap} {q:Option Addr} {l c:Nat} {cs:List Value} (h:Bld N size H q l c cs) (o:Old M H H') (hM:H.length<=M):Bld N size H' q l c cs:=by
 rcases h with h|⟨b,h1,h2,h3,h4,h5⟩
 . exact .inl h
 . exact .inr ⟨b,h1,h2,h3,h4.old o (Nat.lt_of_lt_of_le h4.sees.lt hM),h5⟩
theorem Bld.below {N size:Nat} {H:Heap} {q:Option Addr} {l c:Nat} {cs:List Value} (h:Bld N size H q l c cs):Below H.length q:=by
 rcases h with ⟨rfl,_⟩|⟨b,rfl,_,_,h1,h2⟩
 . intro a ha;cases ha
 . intro a ha;cases ha;exact h1.sees.lt
theorem Bld.app {N size bytes:Nat} {H:Heap} {q p:Option Addr} {l c n:Nat} {cs xs:List Value} (h:Bld N size H q l c cs) (hN:N<=H.length) (hp:Shows H p xs) (hx:xs.length=n * size) (hb:(l+n) * bytes<=35184372088832) (hn:0 < n):
 ∃q' H',(∀(R:Type) (K:Option Addr->Nat->Nat->Heap->Option R),happS size bytes H q l c p n K=K q' (l+n) unk H')/\Bld N size H' q' (l+n) unk (cs++xs)/\Old N H H'/\H'.length=H.length+1:=by
 have hc:=hp.hcells
 rw [hx] at hc
 have hlen:N<=H.length:=hN
 rcases h with ⟨rfl,rfl,rfl,rfl⟩|⟨b,rfl,rfl,h3,h4,h5⟩
 . refine ⟨some ⟨H.length,0,none⟩,H++ [some ⟨xs,false,size⟩],λ R K=> ?_, .inr ⟨H.length,rfl,rfl,hlen,(show hblk _ _=_ from AI7 H (some ⟨xs,false,size⟩) []),by simp [hx]⟩,(Old.app _ _).mono hlen,by simp⟩
   unfold happS happ
   rw [hc]
   simp only
   rw [if_neg (by unfold unk;omega),if_neg (by omega),if_pos hb]
   simp [FW.hcells]
 . have hblt:=h4.sees.lt
   have h4':hblk H b=some ⟨cs,false,size⟩:=h4
   refine ⟨some ⟨H.length,0,none⟩,hset H b none++ [some ⟨cs++xs,false,size⟩],λ R K=> ?_, .inr ⟨H.length,rfl,rfl,hlen, ?_,by rw [Nat.add_mul,h5,List.length_append,hx]⟩,⟨by simp [AAX],λ i hi=> ?_⟩,by simp [AAX]⟩
   . unfold happS happ
     rw [hc]
     simp only [if_true,h4',cond_false,h5,hb,true_and,and_self]
   . have:=AI7 (hset H b none) (some ⟨cs++xs,false,size⟩) []
     rwa [AAX] at this
   . rw [AHo (by rw [AAX];omega),AEy,if_neg (by omega)]
def Cap (N size:Nat) (H:Heap) (q:Option Addr) (l c:Nat) (cs:List Value):Prop:=
 ∃b z,q=some ⟨b,0,none⟩/\c < unk/\N<=b/\Owns H b (cs++z) 0/\l * size=cs.length/\c * size=cs.length+z.length
theorem Cap.shows {N size:Nat} {H:Heap} {q:Option Addr} {l c:Nat} {cs:List Value} (h:Cap N size H q l c cs):Shows H q cs/\l * size=cs.length:=by
 obtain ⟨b,z,rfl,_,_,h1,h2,_⟩:=h
 exact ⟨.inr ⟨b,0,cs++z,rfl,h1.sees,by simp,by simp⟩,h2⟩
theorem Cap.old {N M size:Nat} {H H':Heap} {q:Option Addr} {l c:Nat} {cs:List Value} (h:Cap N size H q l c cs) (o:Old M H H') (hM:H.length<=M):Cap N size H' q l c cs:=by
 obtain ⟨b,z,h1,h2,h3,h4,h5⟩:=h
 exact ⟨b,z,h1,h2,h3,h4.old o (Nat.lt_of_lt_of_le h4.sees.lt hM),h5⟩
theorem Cap.below {N size:Nat} {H:Heap} {q:Option Addr} {l c:Nat} {cs:List Value} (h:Cap N size H q l c cs):Below H.length q:=by
 obtain ⟨b,z,rfl,_,_,h1,_⟩:=h
 intro a ha;cases ha;exact h1.sees.lt
theorem Cap.app {N size bytes:Nat} {H:Heap} {q p:Option Addr} {l c n:Nat} {cs xs:List Value} (h:Cap N size H q l c cs) (hp:Shows H p xs) (hx:xs.length=n * size) (hone:xs.all oneC=true) (hb:l+n<=c) (hn:0 < n):
 ∃H',(∀(R:Type) (K:Option Addr->Nat->Nat->Heap->Option R),happS size bytes H q l c p n K=K q (l+n) c H')/\Cap N size H' q (l+n) c (cs++xs)/\Old N H H'/\H'.length=H.length:=by
 have hc:=hp.hcells
 rw [hx] at hc
 obtain ⟨b,z,rfl,h2,h3,h4,h5,h6⟩:=h
 have h4':hblk H b=some ⟨cs++z,false,0⟩:=h4
 have hlen:cs.length+xs.length<=(cs++z).length:=by
  have:=Nat.mul_le_mul_right size hb
  rw [Nat.add_mul] at this
  rw [List.length_append];omega
 have hsp:splice (cs++z) cs.length xs=(cs++xs)++z.drop xs.length:=by
  unfold splice
  rw [List.take_left,List.drop_append,List.drop_eq_nil_of_le (by omega)]
  rw [show cs.length+xs.length - cs.length=xs.length from by omega]
  simp only [List.append_assoc,List.nil_append]
 refine ⟨hset H b (some ⟨(cs++xs)++z.drop xs.length,false,0⟩),λ R K=> ?_,⟨b,z.drop xs.length,rfl,h2,h3, ?_, ?_, ?_⟩,⟨by simp [AAX],λ i hi=> ?_⟩,by simp [AAX]⟩
 . unfold happS happ
   rw [hc]
   simp only
   rw [if_neg (by omega),if_pos hb,if_neg (by omega)]
   unfold hst pad
   simp only [h4',cond_false,Nat.zero_add,h5]
   rw [if_pos hlen,hone,cond_true,hsp]
 . unfold Owns;rw [AEy,if_pos ⟨rfl,h4.sees.lt⟩]
 . rw [Nat.add_mul,h5,List.length_append,hx]
 . rw [List.length_append,List.length_drop,h6]
   rw [List.length_append] at hlen;omega
 . rw [AEy,if_neg (by omega)]
theorem AKR {H:Heap} {b o sz:Nat} {cs vs:List Value} (h:Owns H b cs sz) (hl:o+vs.length<=cs.length) (hone:vs.all oneC=true):
 ∃H',(∀(R:Type) (K:Heap->Option R),hst H (some ⟨b,o,none⟩) vs K=K H')/\Owns H' b (splice cs o vs) sz/\H'.length=H.length/\∀i,i≠b->hblk H' i=hblk H i:=by
 have h':hblk H b=some ⟨cs,false,sz⟩:=h
 refine ⟨hset H b (some ⟨splice cs o vs,false,sz⟩),λ R K=> ?_, ?_,AAX _ _ _,λ i hi=> by rw [AEy,if_neg (λ hh=> hi hh.1)]⟩
 . simp only [hst,h',cond_false];rw [if_pos hl,hone,cond_true]
 . unfold Owns;rw [AEy,if_pos ⟨rfl,h.sees.lt⟩]
theorem AR8 {H:Heap} {b o sz:Nat} {cs:List Value} (h:Owns H b cs sz) (hl:o < cs.length) (v:Value):
 ∃H',(∀(R:Type) (K:Heap->Option R),hst1 H (some ⟨b,o,none⟩) v K=K H')/\Owns H' b (cs.set o v) sz/\H'.length=H.length/\∀i,i≠b->hblk H' i=hblk H i:=by
 have h':hblk H b=some ⟨cs,false,sz⟩:=h
 refine ⟨hset H b (some ⟨cs.set o v,false,sz⟩),λ R K=> ?_, ?_,AAX _ _ _,λ i hi=> by rw [AEy,if_neg (λ hh=> hi hh.1)]⟩
 . simp only [hst1,h',cond_false];rw [if_pos hl]
 . unfold Owns;rw [AEy,if_pos ⟨rfl,h.sees.lt⟩]
variable {R:Type}
def vcells (n:Nat) (f:Nat->Value):List Value:=(List.range n).map f
theorem ANB (n:Nat) (f:Nat->Value):(vcells n f).length=n:=by simp [vcells]
theorem ANo (n:Nat) (f:Nat->Value) {i:Nat} (h:i < n):(vcells n f)[i]? =some (f i):=by simp [vcells,h]
theorem ASL (n:Nat) (f:Nat->Value) {i:Nat} (h:i < n) (v:Value):(vcells n f).set i v=vcells n (λ j=> if j=i then v else f j):=by
 apply List.ext_getElem?
 intro j
 rw [List.getElem?_set,ANB]
 by_cases hj:j < n
 . rw [ANo n _ hj,ANo n _ hj]
   by_cases e:i=j
   . subst e;simp [h]
   . rw [if_neg e,if_neg (Ne.symm e)]
 . rw [if_neg (by omega),List.getElem?_eq_none (by rw [ANB];omega),List.getElem?_eq_none (by rw [ANB];omega)]
theorem AQ9 {n:Nat} {f g:Nat->Value} (h:∀i,i < n->f i=g i):vcells n f=vcells n g:=by
 unfold vcells
 exact List.map_congr_left λ i hi=> h i (List.mem_range.1 hi)
def But (b:Nat) (H H':Heap):Prop:=H.length<=H'.length/\∀i,i < H.length->i≠b->hblk H' i=hblk H i
theorem But.refl (b:Nat) (H:Heap):But b H H:=⟨Nat.le_refl _,λ _ _ _=> rfl⟩
theorem But.of_old {b:Nat} {H H':Heap} (o:Old H.length H H'):But b H H':=⟨o.1,λ i hi _=> o.2 i hi⟩
theorem But.trans {b:Nat} {H1 H2 H3:Heap} (x:But b H1 H2) (y:But b H2 H3):But b H1 H3:=⟨Nat.le_trans x.1 y.1,λ i hi hne=> (y.2 i (Nat.lt_of_lt_of_le hi x.1) hne).trans (x.2 i hi hne)⟩
theorem But.old {b N:Nat} {H H':Heap} (x:But b H H') (hb:N<=b) (hN:N<=H.length):Old N H H':=⟨x.1,λ i hi=> x.2 i (by omega) (by omega)⟩
theorem Owns.but {H H':Heap} {b c sz:Nat} {cs:List Value} (h:Owns H b cs sz) (o:But c H H') (hne:b≠c):Owns H' b cs sz:=by
 unfold Owns at *;rw [o.2 b (AIM h) hne];exact h
theorem Sees.but {H H':Heap} {b c:Nat} {cs:List Value} (h:Sees H b cs) (o:But c H H') (hne:b≠c):Sees H' b cs:=by
 have:=h.lt
 obtain ⟨B,h,rfl⟩:=h
 exact ⟨B,by rw [o.2 b this hne];exact h,rfl⟩
theorem Owns.lt {H:Heap} {b sz:Nat} {cs:List Value} (h:Owns H b cs sz):b < H.length:=AIM h
def OwnV (H:Heap) (b n:Nat) (f:Nat->Value):Prop:=Owns H b (vcells n f) 0
theorem OwnV.but {H H':Heap} {b c n:Nat} {f:Nat->Value} (h:OwnV H b n f) (o:But c H H') (hne:b≠c):OwnV H' b n f:=Owns.but h o hne
theorem OwnV.keep {H H':Heap} {b n:Nat} {f:Nat->Value} (h:OwnV H b n f) (o:Old H.length H H'):OwnV H' b n f:=Owns.old h o (Owns.lt h)
theorem OwnV.congr {H:Heap} {b n:Nat} {f g:Nat->Value} (h:OwnV H b n f) (e:∀i,i < n->f i=g i):OwnV H b n g:=by unfold OwnV at *;rw [←AQ9 e];exact h
theorem OwnV.cell {H:Heap} {b n:Nat} {f:Nat->Value} (h:OwnV H b n f) {i:Nat} (hi:i < n) (s:Option _):pcell H (some ⟨b,i,s⟩)=some (f i):=by
 show hcell H b i=_
 rw [h.sees.cell,ANo n f hi]
theorem OwnV.put {H:Heap} {b n:Nat} {f:Nat->Value} (h:OwnV H b n f) {i:Nat} (hi:i < n) (v:Value):
 ∃H',(∀(R:Type) (K:Heap->Option R),hst1 H (some ⟨b,i,none⟩) v K=K H')/\OwnV H' b n (λ j=> if j=i then v else f j)/\But b H H'/\H'.length=H.length:=by
 obtain ⟨H',e,o,l,s⟩:=AR8 (o:=i) h (by rw [ANB];exact hi) v
 rw [ASL n f hi] at o
 exact ⟨H',e,o,⟨by omega,λ i _ hne=> s i hne⟩,l⟩
theorem Owns.at {H:Heap} {b sz:Nat} {cs:List Value} (h:Owns H b cs sz) (i:Nat) (s:Option _):pcell H (some ⟨b,i,s⟩)=cs[i]? :=by
 show hcell H b i=_
 rw [h.sees.cell]
variable {R:Type}
theorem ATf (H:Heap) (B:Blk) (o:Nat):hcell (H++ [some B]) H.length o=B.cells[o]? :=by
 unfold hcell;rw [AI7]
theorem Ags (k:IntKind) (H:Heap) (b o:Nat) (s:Option _) (K:Int->Option R):ldI k H (some ⟨b,o,s⟩) K=match hcell H b o with|some (.int k' n)=> bif ikeq k k' then K n else none|_=> none:=rfl
theorem Agt (H:Heap) (b o:Nat) (s:Option _) (K:Bool->Option R):ldB H (some ⟨b,o,s⟩) K=match hcell H b o with|some (.bool n)=> K n|_=> none:=rfl
theorem Agq (H:Heap) (b o:Nat) (s:Option _) (K:Option Addr->Option R):ldP H (some ⟨b,o,s⟩) K=match hcell H b o with|some (.pointer n)=> K n|_=> none:=rfl
theorem Agr (H:Heap) (b o:Nat) (s:Option _) (K:Option Addr->Nat->Nat->Option R):ldL H (some ⟨b,o,s⟩) K=match hcell H b o with|some (.slice p l c)=> K p l c|_=> none:=rfl
theorem AYy (H:Heap) (cs:List Value) (sz o:Nat) (s:Option _) (vs:List Value) (K:Heap->Option R) (h1:o+vs.length<=cs.length):hst (H++ [some ⟨cs,false,sz⟩]) (some ⟨H.length,o,s⟩) vs K=bif vs.all oneC then K (H++ [some ⟨splice cs o vs,false,sz⟩]) else none:=by
 have e:hblk (H++ [some (⟨cs,false,sz⟩:Blk)]) H.length=some ⟨cs,false,sz⟩:=AI7 H _ []
 have e2:∀(H:Heap) (x y:Option Blk),hset (H++ [x]) H.length y=H++ [y]:=by
  intro H x y
  induction H with
  |nil=> rfl
  |cons z H ih=> show z::hset (H++ [x]) H.length y=_;rw [ih];rfl
 unfold hst
 simp only [e,cond_false]
 rw [if_pos h1,e2]
theorem AQU (cs vs:List Value) (h:cs.length=vs.length):splice cs 0 vs=vs:=by unfold splice;rw [Nat.zero_add,←h];simp
theorem AAI (H:Heap) (x:Option Blk):hblk (H++ [x]) H.length=x:=AI7 H x []
theorem AR9 {H J:Heap} {b:Nat} (h:b < H.length):hblk (H++J) b=hblk H b:=AHo h
theorem Bld.but {N size b:Nat} {H H':Heap} {q:Option Addr} {l c:Nat} {cs:List Value} (h:Bld N size H q l c cs) (o:But b H H') (hb:b < N):Bld N size H' q l c cs:=by
 rcases h with h|⟨b2,h1,h2,h3,h4,h5⟩
 . exact .inl h
 . exact .inr ⟨b2,h1,h2,h3,Owns.but h4 o (by omega),h5⟩
theorem Shows.but {H H':Heap} {q:Option Addr} {b:Nat} {cs:List Value} (h:Shows H q cs) (o:But b H H') (hb:∀a,q=some a->a.block≠b):Shows H' q cs:=by
 rcases h with h|⟨b2,o',full,rfl,h1,h2,h3⟩
 . exact .inl h
 . exact .inr ⟨b2,o',full,rfl,Sees.but h1 o (hb _ rfl),h2,h3⟩
theorem Owns.st {H:Heap} {b sz:Nat} {cs vs:List Value} (h:Owns H b cs sz) (hl:vs.length=cs.length) (hone:vs.all oneC=true):
 ∃H',(∀(R:Type) (K:Heap->Option R),hst H (some ⟨b,0,none⟩) vs K=K H')/\Owns H' b vs sz/\But b H H'/\H'.length=H.length:=by
 obtain ⟨H',e,o,n,s⟩:=AKR (o:=0) h (by omega) hone
 rw [AQU _ _ hl.symm] at o
 exact ⟨H',e,o,⟨by omega,λ i _ hne=> s i hne⟩,n⟩
theorem Owns.st1 {H:Heap} {b sz o:Nat} {cs:List Value} (h:Owns H b cs sz) (hl:o < cs.length) (v:Value):
 ∃H',(∀(R:Type) (K:Heap->Option R),hst1 H (some ⟨b,o,none⟩) v K=K H')/\Owns H' b (cs.set o v) sz/\But b H H'/\H'.length=H.length:=by
 obtain ⟨H',e,o,n,s⟩:=AR8 (o:=o) h hl v
 exact ⟨H',e,o,⟨by omega,λ i _ hne=> s i hne⟩,n⟩
variable {R:Type}
theorem go_i {k:IntKind} {H:Heap} {b o:Nat} {s:Option _} {K:Int->Option R} {r:Option R} {x:Int} (h:hcell H b o=some (.int k x)) (g:K x=r):ldI k H (some ⟨b,o,s⟩) K=r:=by
 rw [Ags,h];cases k <;> exact g
theorem go_b {H:Heap} {b o:Nat} {s:Option _} {K:Bool->Option R} {r:Option R} {x:Bool} (h:hcell H b o=some (.bool x)) (g:K x=r):ldB H (some ⟨b,o,s⟩) K=r:=by
 rw [Agt,h];exact g
theorem go_p {H:Heap} {b o:Nat} {s:Option _} {K:Option Addr->Option R} {r:Option R} {x:Option Addr} (h:hcell H b o=some (.pointer x)) (g:K x=r):ldP H (some ⟨b,o,s⟩) K=r:=by
 rw [Agq,h];exact g
theorem go_l {H:Heap} {b o:Nat} {s:Option _} {K:Option Addr->Nat->Nat->Option R} {r:Option R} {x:Option Addr} {l c:Nat} (h:hcell H b o=some (.slice x l c)) (g:K x l c=r):ldL H (some ⟨b,o,s⟩) K=r:=by
 rw [Agr,h];exact g
theorem AAJ {k:IntKind} {H:Heap} {b o i:Nat} {s:Option _} {K:Int->Option R} {r:Option R} {x:Int} (h:hcell H b (o+i)=some (.int k x)) (g:K x=r):ldI k H (pad (some ⟨b,o,s⟩) i) K=r:=go_i h g
theorem AAH {H:Heap} {b o i:Nat} {s:Option _} {K:Bool->Option R} {r:Option R} {x:Bool} (h:hcell H b (o+i)=some (.bool x)) (g:K x=r):ldB H (pad (some ⟨b,o,s⟩) i) K=r:=go_b h g
theorem AAw {H:Heap} {b o i:Nat} {s:Option _} {K:Option Addr->Option R} {r:Option R} {x:Option Addr} (h:hcell H b (o+i)=some (.pointer x)) (g:K x=r):ldP H (pad (some ⟨b,o,s⟩) i) K=r:=go_p h g
theorem AAY {H:Heap} {b o i:Nat} {s:Option _} {K:Option Addr->Nat->Nat->Option R} {r:Option R} {x:Option Addr} {l c:Nat} (h:hcell H b (o+i)=some (.slice x l c)) (g:K x l c=r):ldL H (pad (some ⟨b,o,s⟩) i) K=r:=go_l h g
theorem go_t {c:Bool} {A B r:Option R} (h:c=true) (g:A=r):(bif c then A else B)=r:=by rw [h];exact g
theorem go_f {c:Bool} {A B r:Option R} (h:c=false) (g:B=r):(bif c then A else B)=r:=by rw [h];exact g
theorem AAz {a:Int} {A B r:Option R} (g:B=r):(bif a !=a then A else B)=r:=by rw [bne_self_eq_false'];exact g
theorem AAx {a:Int} {A B r:Option R} (g:A=r):(bif a==a then A else B)=r:=by rw [beq_self_eq_true];exact g
theorem AAD {H H2:Heap} {cs:List Value} {K:Option Addr->Heap->Option R} {r:Option R} (q:H2=H++ [some ⟨cs,false,0⟩]) (g:K (some ⟨H.length,0,none⟩) H2=r):hal H cs K=r:=by subst q;exact g
theorem AAW {H H2:Heap} {cs vs:List Value} {K:Option Addr->Heap->Option R} {r:Option R} (q:H2=H++ [some ⟨vs,false,0⟩]) (hl:cs.length=vs.length) (ho:vs.all oneC=true) (g:K (some ⟨H.length,0,none⟩) H2=r):hal H cs (λ p H'=> hst H' p vs (λ H''=> K p H''))=r:=by
 subst q
 unfold hal
 show hst _ _ _ _=r
 rw [AYy _ _ _ _ _ _ _ (by omega),ho,AQU _ _ hl]
 exact g
theorem AAA {off b o:Nat} {s:Option _} {K:Option Addr->Option R} {r:Option R} (g:K (some ⟨b,o+off,none⟩)=r):hfad off (some ⟨b,o,s⟩) K=r:=g
theorem AAC {a:Addr} {K:Option Addr->Option R} {r:Option R} (g:K (some a)=r):hnil (some a) K=r:=g
theorem AY7 {H:Heap} {b sz o:Nat} {s:Option _} {cs:List Value} (h:Owns H b cs sz):∃H',(∀(R:Type) (K:Heap->Option R),hfrz H (some ⟨b,o,s⟩) K=K H')/\(∀i,hcell H' b i=cs[i]?)/\(∀o s,isRo H' (some ⟨b,o,s⟩)=true)/\But b H H'/\H'.length=H.length:=by
 have h':hblk H b=some ⟨cs,false,sz⟩:=h
 have hb:hblk (hset H b (some ⟨cs,true,sz⟩)) b=some ⟨cs,true,sz⟩:=by rw [AEy,if_pos ⟨rfl,h.lt⟩]
 refine ⟨hset H b (some ⟨cs,true,sz⟩),λ R K=> ?_,λ i=> ?_,λ o s=> ?_,⟨by simp [AAX],λ i hi hne=> by rw [AEy,if_neg (λ hh=> hne hh.1)]⟩,AAX _ _ _⟩
 . simp only [hfrz,h']
 . unfold hcell;rw [hb]
 . simp only [isRo,hb]
inductive D where
 |int (k:IntKind)|bool|str|nil
 |pair (a b:D)
 |slc (d:D)
def D.sz:D->Nat
 | .int _| .bool| .str| .slc _=> 1
 | .nil=> 0
 | .pair a b=> a.sz+b.sz
def D.flat:D->Bool
 | .slc _=> false
 | .pair a b=> a.flat && b.flat
 |_=> true
def Shp:D->Heap->List Value->Prop
 | .int k,_,vs=>∃n,vs= [.int k n]/\(Lit.int k n).wf=true
 | .bool,_,vs=>∃b,vs= [.bool b]
 | .str,_,vs=>∃s,vs= [.string s]/\s.size<=maxLen
 | .nil,_,vs=> vs= []
 | .pair a b,H,vs=>∃x y,vs=x++y/\Shp a H x/\Shp b H y
 | .slc d,H,vs=>∃(q:Option Addr) (c:Nat) (es:List (List Value)),vs= [.slice q es.length c]/\es.length<=c/\c<=maxLen/\(∀e∈es,Shp d H e)/\Shows H q es.flatten
theorem Shp.len:∀ {d:D} {H:Heap} {vs:List Value},Shp d H vs->vs.length=d.sz:=by
 intro d
 induction d with
 |int k=> intro H vs h;obtain ⟨n,rfl,_⟩:=h;rfl
 |bool=> intro H vs h;obtain ⟨n,rfl⟩:=h;rfl
 |str=> intro H vs h;obtain ⟨n,rfl,_⟩:=h;rfl
 |nil=> intro H vs h;have:vs= []:=h;subst this;rfl
 |pair a b iha ihb=> intro H vs h;obtain ⟨x,y,rfl,h1,h2⟩:=h;simp [D.sz,iha h1,ihb h2]
 |slc d ih=> intro H vs h;obtain ⟨q,c,es,rfl,_⟩:=h;rfl
theorem Shows.keep {H H':Heap} {q:Option Addr} {cs:List Value} (h:Shows H q cs) (o:Old H.length H H'):Shows H' q cs:=by
 rcases h with h|⟨b,o',full,rfl,h1,h2,h3⟩
 . exact .inl h
 . exact .inr ⟨b,o',full,rfl,h1.old o h1.lt,h2,h3⟩
theorem Shp.keep:∀ {d:D} {H H':Heap} {vs:List Value},Shp d H vs->Old H.length H H'->Shp d H' vs:=by
 intro d
 induction d with
 |int k=> intro H H' vs h _;exact h
 |bool=> intro H H' vs h _;exact h
 |str=> intro H H' vs h _;exact h
 |nil=> intro H H' vs h _;exact h
 |pair a b iha ihb=> intro H H' vs h o;obtain ⟨x,y,e,h1,h2⟩:=h;exact ⟨x,y,e,iha h1 o,ihb h2 o⟩
 |slc d ih=> intro H H' vs h o;obtain ⟨q,c,es,e,h1,h2,h3,h4⟩:=h;exact ⟨q,c,es,e,h1,h2,λ x hx=> ih (h3 x hx) o,h4.keep o⟩
theorem Shp.free:∀ {d:D} {H:Heap} {vs:List Value},d.flat=true->Shp d H vs->(∀H',Shp d H' vs)/\vs.all (λ v=> ptrFreeC v)=true:=by
 intro d
 induction d with
 |int k=> intro H vs _ h;obtain ⟨n,rfl,hw⟩:=h;exact ⟨λ _=> ⟨n,rfl,hw⟩,rfl⟩
 |bool=> intro H vs _ h;obtain ⟨n,rfl⟩:=h;exact ⟨λ _=> ⟨n,rfl⟩,rfl⟩
 |str=> intro H vs _ h;obtain ⟨n,rfl,hw⟩:=h;exact ⟨λ _=> ⟨n,rfl,hw⟩,rfl⟩
 |nil=> intro H vs _ h;have:vs= []:=h;subst this;exact ⟨λ _=> rfl,rfl⟩
 |pair a b iha ihb=>
  intro H vs hf h
  simp only [D.flat,Bool.and_eq_true] at hf
  obtain ⟨x,y,rfl,h1,h2⟩:=h
  have g1:=iha hf.1 h1
  have g2:=ihb hf.2 h2
  exact ⟨λ H'=> ⟨x,y,rfl,g1.1 H',g2.1 H'⟩,by rw [List.all_append,g1.2,g2.2];rfl⟩
 |slc d ih=> intro H vs hf h;cases hf
def AllRo (N:Nat) (H:Heap):Prop:=∀b B,b < N->hblk H b=some B->B.ro=true
theorem AllRo.old {N:Nat} {H H':Heap} (h:AllRo N H) (o:Old N H H'):AllRo N H':=λ b B hb hB=> h b B hb (by rw [←o.2 b hb];exact hB)
structure St (ρ:Ren) (H:Heap) (w:World):Prop where
 rel:Rel ρ (hblk H) w
 dom:Dom ρ H.length
 ro:∀b B,hblk H b=some B->B.ro=true
theorem St.nil (w:World):St (λ _=> none) [] w:=
 ⟨⟨λ b B hb=> (by simp [hblk] at hb),λ b1 B1 b2 B2 x1 d1 x2 d2 hb=> (by simp [hblk] at hb)⟩,λ _ _=> rfl,λ b B hb=> by simp [hblk] at hb⟩
theorem St.add {ρ:Ren} {H:Heap} {w:World} (h:St ρ H w) (a:Addr) (vs cs:List Value) (hw:∀i v,cs[i]? =some v->w.cell? (a.add i)=some v) (hr:LRel ρ vs cs) (hone:vs.all oneC=true):
 ∃ρ' B,Le ρ ρ'/\St ρ' (H++ [B]) w/\At ρ' H.length a.block a.off/\(vs≠ []->B=some ⟨vs,true,0⟩):=by
 have hle:Le ρ (λ b=> if b=H.length then some (a.block,a.off,0) else ρ b):=by
  intro b x hb
  show (if b=H.length then _ else _)=_
  rw [if_neg (by rintro rfl;rw [h.dom _ (Nat.le_refl _)] at hb;cases hb)];exact hb
 refine ⟨λ b=> if b=H.length then some (a.block,a.off,0) else ρ b,if vs= [] then none else some ⟨vs,true,0⟩,hle,⟨⟨λ b B hb=> ?_,λ b1 B1 b2 B2 x1 d1 x2 d2 k1 k2 hne hro=> ?_⟩,λ b hb=> ?_,λ b B hb=> ?_⟩,⟨0,by simp⟩,λ hne=> by rw [if_neg hne]⟩
 . rcases Nat.lt_or_ge b H.length with hlt|hge
   . rw [AHo hlt] at hb
     obtain ⟨b',d,m,arr,el,fr,e1,e2,e3,e4⟩:=h.rel.blk b B hb
     exact ⟨b',d,m,arr,el,fr,hle _ _ e1,e2,λ i v hv=> (by obtain ⟨y,g1,g2⟩:=e3 i v hv;exact ⟨y,g1,g2.mono hle⟩),e4⟩
   . have hlt:=AIM hb
     have:b=H.length:=by simp at hlt;omega
     subst this
     rw [AI7] at hb
     split at hb
     . cases hb
     . rename_i hne
       cases hb
       obtain ⟨c0,hc0⟩:∃c0,cs[0]? =some c0:=by
        have:0 < cs.length:=by rw [←hr.1];exact List.length_pos_iff.2 hne
        exact ⟨_,List.getElem?_eq_getElem this⟩
       have h0:=hw 0 c0 hc0
       have ha0:a.add 0=a:=rfl
       rw [ha0] at h0
       unfold World.cell? at h0
       split at h0
       . rename_i arr el fr harr
         split at h0
         . cases h0
         . rename_i hsp
           refine ⟨a.block,a.off,0,arr,el,fr,by simp,harr,λ i v hv=> ?_,λ hro=> (by cases hro),hone⟩
           obtain ⟨y,g1,g2⟩:=hr.get hv
           have hi:=hw i y g1
           refine ⟨y, ?_,g2.mono hle⟩
           by_cases hz:i=0
           . subst hz
             rw [ha0] at hi
             unfold World.cell? at hi
             rw [harr] at hi
             simp only at hi
             rw [if_neg hsp] at hi
             exact hi
           . unfold World.cell? Addr.add at hi
             rw [if_neg hz] at hi
             simp only [harr] at hi
             simpa using hi
       . cases h0
 . rcases Nat.lt_or_ge b1 H.length with hlt|hge
   . rw [AHo hlt] at k1;have:=h.ro _ _ k1;rw [this] at hro;cases hro
   . have hlt:=AIM k1
     have:b1=H.length:=by simp at hlt;omega
     subst this
     rw [AI7] at k1
     split at k1
     . cases k1
     . cases k1;cases hro
 . have:H.length+1<=b:=by simpa using hb
   show (if b=H.length then _ else _)=_
   rw [if_neg (by omega)];exact h.dom b (by omega)
 . rcases Nat.lt_or_ge b H.length with hlt|hge
   . rw [AHo hlt] at hb;exact h.ro _ _ hb
   . have hlt:=AIM hb
     have:b=H.length:=by simp at hlt;omega
     subst this
     rw [AI7] at hb
     split at hb
     . cases hb
     . cases hb;rfl
def dtF (rec:TypeId->Option D) (P:Program):List Field->Nat->Option D
 | [],_=> some .nil
 |f::fs,off=> match rec f.type,dtF rec P fs (off+P.cellsOf f.type) with
  |some d,some e=> bif Nat.beq f.offset off && Nat.beq (P.cellsOf f.type) d.sz then some (.pair d e) else none
  |_,_=> none
def dtA (d:D):Nat->D
 |0=> .nil
 |n+1=> .pair d (dtA d n)
def DT (P:Program):Nat->TypeId->Option D
 |0,_=> none
 |n+1,t=> match P.underlying t with
  |some (.int k)=> some (.int k)
  |some .bool=> some .bool
  |some .string=> some .str
  |some (.slice e)=> match DT P n e with
   |some d=> bif Nat.beq (P.cellsOf e) d.sz && !(Nat.beq d.sz 0) then some (.slc d) else none
   |none=> none
  |some (.struct fs)=> match dtF (DT P n) P fs.toList 0 with
   |some d=> bif Nat.beq (P.cellsOf t) d.sz then some d else none
   |none=> none
  |some (.array m e)=> match DT P n e with
   |some d=> bif Nat.beq (P.cellsOf e) d.sz && Nat.beq (P.cellsOf t) (m * d.sz) then some (dtA d m) else none
   |none=> none
  |_=> none
section opening
variable {P:Program} {H0:Type} {enc:TypeId×Value->H0} {w:World}
theorem AZA {n:Nat} (Q:D->List Value->Prop) (hnil:Q .nil []) (hpair:∀a b x y,Q a x->Q b y->Q (.pair a b) (x++y)) (ih:∀t d,DT P n t=some d->∀fuel cs x,DataW.trod enc P w 0 (λ _=> true) true fuel t cs=some x->Q d cs)
 {m:Nat} {cs:List Value}:∀(fs:List Field) (off:Nat) (d:D),dtF (DT P n) P fs off=some d->(∀f∈fs,∃x,DataW.trod enc P w 0 (λ _=> true) true m f.type ((cs.drop f.offset).take (P.cellsOf f.type))=some x)->Q d ((cs.drop off).take d.sz):=by
 intro fs
 induction fs with
 |nil=> intro off d h _;cases h;simpa [D.sz] using hnil
 |cons f fs ihf=>
  intro off d h hx
  simp only [dtF] at h
  split at h
  . rename_i d1 e1 h1 h2
    cases hc:Nat.beq f.offset off && Nat.beq (P.cellsOf f.type) d1.sz with
    |false=> rw [hc] at h;cases h
    |true=>
     rw [hc,cond_true] at h
     cases h
     rw [Bool.and_eq_true] at hc
     have q1:=Nat.eq_of_beq_eq_true hc.1
     have q2:=Nat.eq_of_beq_eq_true hc.2
     obtain ⟨x,hx0⟩:=hx f (by simp)
     have g1:=ih _ _ h1 _ _ _ hx0
     have g2:=ihf _ _ h2 (λ g hg=> hx g (List.mem_cons_of_mem _ hg))
     rw [q1,q2] at g1
     rw [q2] at g2
     show Q _ ((cs.drop off).take (d1.sz+e1.sz))
     rw [List.take_add,List.drop_drop]
     exact hpair _ _ _ _ g1 g2
  . cases h
theorem Aby (Q:D->List Value->Prop) (hint:∀k n,(Lit.int k n).wf=true->Q (.int k) [.int k n]) (hbool:∀b,Q .bool [.bool b]) (hstr:∀s,s.size<=maxLen->Q .str [.string s]) (hnil:Q .nil []) (hpair:∀a b x y,Q a x->Q b y->Q (.pair a b) (x++y))
 (hslc:∀n e t d fuel cs x,P.underlying t=some (.slice e)->DT P n e=some d->(∀fuel cs x,DataW.trod enc P w 0 (λ _=> true) true fuel e cs=some x->Q d cs)->P.cellsOf e=d.sz->0 < d.sz->DataW.trod enc P w 0 (λ _=> true) true fuel t cs=some x->Q (.slc d) cs):
 ∀(n:Nat) (t:TypeId) (d:D),DT P n t=some d->∀fuel cs x,DataW.trod enc P w 0 (λ _=> true) true fuel t cs=some x->Q d cs:=by
 intro n
 induction n with
 |zero=> intro t d h;cases h
 |succ n ih=>
  intro t d h fuel cs x hx
  simp only [DT] at h
  split at h
  . rename_i k hu;cases h
    obtain ⟨m,rfl,_,hw⟩:=DataW.trod_int hu hx
    exact hint k m hw
  . rename_i hu;cases h
    obtain ⟨b,rfl,_⟩:=DataW.trod_bool hu hx
    exact hbool b
  . rename_i hu;cases h
    obtain ⟨s,rfl,_,hs⟩:=DataW.trod_string hu hx
    exact hstr s hs
  . rename_i e hu
    split at h
    . rename_i d1 h1
      cases hc:Nat.beq (P.cellsOf e) d1.sz && !(Nat.beq d1.sz 0) with
      |false=> rw [hc] at h;cases h
      |true=>
       rw [hc,cond_true] at h;cases h
       simp only [Bool.and_eq_true,Bool.not_eq_true'] at hc
       refine hslc n e t d1 fuel cs x hu h1 (ih e d1 h1) (Nat.eq_of_beq_eq_true hc.1) ?_ hx
       rcases Nat.eq_zero_or_pos d1.sz with h0|h0
       . rw [h0] at hc;have:=hc.2;simp at this
       . exact h0
    . cases h
  . rename_i fs hu
    split at h
    . rename_i d1 h1
      cases hc:Nat.beq (P.cellsOf t) d1.sz with
      |false=> rw [hc] at h;cases h
      |true=>
       rw [hc,cond_true] at h;cases h
       obtain ⟨xs,m,_,_,hl,hlen,hf⟩:=DataW.trod_struct hu hx
       have:=AZA (cs:=cs) (m:=m) Q hnil hpair (λ t d h fuel cs x=> ih t d h fuel cs x) fs.toList 0 _ h1 (λ f hfm=> by
        obtain ⟨i,hi,rfl⟩:=List.mem_iff_getElem.1 hfm
        have hi':i < fs.size:=by simpa using hi
        refine ⟨xs[i]'(by omega), ?_⟩
        rw [hf i _ (by rw [Array.getElem?_eq_getElem hi'];simp),List.getElem?_eq_getElem])
       rw [List.drop_zero,List.take_of_length_le (by rw [hl,Nat.eq_of_beq_eq_true hc];exact Nat.le_refl _)] at this
       exact this
    . cases h
  . rename_i m e hu
    split at h
    . rename_i d1 h1
      cases hc:Nat.beq (P.cellsOf e) d1.sz && Nat.beq (P.cellsOf t) (m * d1.sz) with
      |false=> rw [hc] at h;cases h
      |true=>
       rw [hc,cond_true] at h;cases h
       rw [Bool.and_eq_true] at hc
       have q1:=Nat.eq_of_beq_eq_true hc.1
       have q2:=Nat.eq_of_beq_eq_true hc.2
       cases fuel with
       |zero=> simp [DataW.trod] at hx
       |succ fuel=>
        unfold DataW.trod at hx
        simp only [hu] at hx
        split at hx
        . rename_i hl
          obtain ⟨xs,hxs,_⟩:=Option.map_eq_some_iff.1 hx
          have key:∀i,i < m->Q d1 ((cs.drop (i * d1.sz)).take d1.sz):=by
           intro i hi
           have h3:=mapM_some_get hxs i i (by simp [hi])
           rw [q1] at h3
           have hlen:=mapM_some_length hxs
           rw [List.length_range] at hlen
           rw [List.getElem?_eq_getElem (by omega)] at h3
           exact ih _ _ h1 _ _ _ h3
          have all:∀j,j<=m->Q (dtA d1 j) ((cs.drop ((m - j) * d1.sz)).take (j * d1.sz)):=by
           intro j
           induction j with
           |zero=> intro _;simpa [dtA] using hnil
           |succ j ihj=>
            intro hj
            have k1:=key (m - (j+1)) (by omega)
            have k2:=ihj (by omega)
            have:=hpair _ _ _ _ k1 k2
            rw [show (j+1) * d1.sz=d1.sz+j * d1.sz from by rw [Nat.add_mul];omega,List.take_add,List.drop_drop]
            rw [show (m - j) * d1.sz=(m - (j+1)) * d1.sz+d1.sz from by rw [show m - j=(m - (j+1))+1 from by omega,Nat.add_mul];omega] at this
            exact this
          have:=all m (Nat.le_refl _)
          rw [Nat.sub_self,Nat.zero_mul,List.drop_zero,List.take_of_length_le (by rw [hl,q2];exact Nat.le_refl _)] at this
          exact this
        . simp at hx
    . cases h
  . cases h
def Opn (w:World) (d:D) (cs:List Value):Prop:=∀(ρ:Ren) (H:Heap),St ρ H w->∃ρ' J vs,Le ρ ρ'/\St ρ' (H++J) w/\LRel ρ' vs cs/\Shp d (H++J) vs/\vs.all oneC=true/\vs.all okv=true
theorem AOG {d:D} {cs:List Value} (hf:d.flat=true) (h:Shp d [] cs):Opn w d cs:=by
 intro ρ H hS
 have hfr:=h.free hf
 refine ⟨ρ, [],cs, .refl _,by simpa using hS,⟨rfl,λ i x y e1 e2=> ?_⟩,by simpa using hfr.1 H, ?_, ?_⟩
 . rw [e1] at e2;cases e2
   have:=List.all_eq_true.1 hfr.2 x (List.mem_of_getElem? e1)
   exact VRel.self (AL7 this) (AQW this) ρ
 . exact AQt hfr.2
 . exact List.all_eq_true.2 λ v hv=> AQW (List.all_eq_true.1 hfr.2 v hv)
theorem ARf {sz:Nat} (hs:0 < sz):∀(es:List (List Value)),(∀e∈es,e.length=sz)->∀j,es.flatten[j]? =(es[j / sz]?).bind (·[j % sz]?):=by
 intro es
 induction es with
 |nil=> intro _ j;simp
 |cons e es ih=>
  intro h j
  have he:=h e (by simp)
  rw [List.flatten_cons,List.getElem?_append]
  split
  . rename_i hj
    rw [he] at hj
    rw [Nat.div_eq_of_lt hj,Nat.mod_eq_of_lt hj];rfl
  . rename_i hj
    obtain ⟨i,rfl⟩:∃i,j=i+sz:=⟨j - sz,by omega⟩
    rw [he,Nat.add_sub_cancel,ih (λ x hx=> h x (List.mem_cons_of_mem _ hx)),Nat.add_div_right _ hs,Nat.add_mod_right,List.getElem?_cons_succ]
theorem AVC {d:D}:∀(css:List (List Value)),(∀cs∈css,Opn w d cs)->∀(ρ:Ren) (H:Heap),St ρ H w->∃(ρ':Ren) (J:Heap) (es:List (List Value)),Le ρ ρ'/\St ρ' (H++J) w/\es.length=css.length/\LRel ρ' es.flatten css.flatten/\(∀e∈es,Shp d (H++J) e)/\es.flatten.all oneC=true:=by
 intro css
 induction css with
 |nil=> intro _ ρ H hS;exact ⟨ρ, [], [], .refl _,by simpa using hS,rfl, .nil,(λ e he=> by cases he),rfl⟩
 |cons cs css ih=>
  intro h ρ H hS
  obtain ⟨ρ1,J1,v1,q1,q2,q3,q4,q5,q6⟩:=h cs (by simp) ρ H hS
  obtain ⟨ρ2,J2,es,r1,r2,r3,r4,r5,r6⟩:=ih (λ x hx=> h x (List.mem_cons_of_mem _ hx)) ρ1 (H++J1) q2
  refine ⟨ρ2,J1++J2,v1::es,q1.trans r1,by rw [←List.append_assoc];exact r2,by simp [r3], ?_,λ e he=> ?_, ?_⟩
  . rw [List.flatten_cons,List.flatten_cons];exact (q3.mono r1).append r4
  . rw [←List.append_assoc]
    rcases List.mem_cons.1 he with rfl|he
    . exact q4.keep (Old.app _ _)
    . exact r5 e he
  . rw [List.flatten_cons,List.all_append,q5,r6];rfl
theorem ATS {n:Nat} {e t:TypeId} {d:D} {fuel:Nat} {cs:List Value} {x:DataW H0×List MemPlace} (hu:P.underlying t=some (.slice e)) (hd:DT P n e=some d) (ho:∀fuel cs x,DataW.trod enc P w 0 (λ _=> true) true fuel e cs=some x->Opn w d cs) (hz:P.cellsOf e=d.sz) (h0:0 < d.sz)
 (hx:DataW.trod enc P w 0 (λ _=> true) true fuel t cs=some x):Opn w (.slc d) cs:=by
 intro ρ H hS
 rcases Go.Deep.open_slice hu hx with ⟨rfl,_⟩|⟨a,len,cap,m,k,D0,Pl,rfl,_,hl,hm,hmm,_,hel⟩
 . exact ⟨ρ, [], [.slice none 0 0], .refl _,by simpa using hS,LRel.cons (.nils 0 0) .nil,⟨none,0, [],rfl,Nat.le_refl _,Nat.zero_le _,(λ e he=> by cases he), .inl rfl⟩,rfl,rfl⟩
 . have hcap:m=cap:=by rw [hmm];simp
   subst hcap
   by_cases hm0:m=0
   . subst hm0
     have:len=0:=by omega
     subst this
     exact ⟨ρ, [], [.slice (some ⟨0,0,none⟩) 0 0], .refl _,by simpa using hS,LRel.cons (.slz _ _) .nil,⟨some ⟨0,0,none⟩,0, [],rfl,Nat.le_refl _,Nat.zero_le _,(λ e he=> by cases he), .inl rfl⟩,rfl,rfl⟩
   . have hspot:a.spot=none:=by
      obtain ⟨cs',h1,_⟩:=hel 0 (by omega)
      have:=(World.cells?_some h1).2.2 0 (by omega)
      rw [hz] at h1
      have hlen:=(World.cells?_some h1).2.1
      rw [Nat.zero_mul] at this
      have e0:(a.add 0).add 0=a:=rfl
      rw [e0,List.getElem?_eq_getElem (by omega)] at this
      unfold World.cell? at this
      split at this
      . split at this
        . cases this
        . rename_i hs;simpa using hs
      . cases this
     have key:∀i,i < len->∃cs':List Value,cs'.length=d.sz/\(∀r v,cs'[r]? =some v->w.cell? (a.add (i * d.sz+r))=some v)/\Opn w d cs':=by
      intro i hi
      obtain ⟨cs',h1,h2⟩:=hel i (by omega)
      refine ⟨cs',by rw [←hz];exact (World.cells?_some h1).2.1,λ r v hv=> ?_,ho _ _ _ h2⟩
      rw [hz] at h1
      have hr:r < d.sz:=by
       have:=(List.getElem?_eq_some_iff.1 hv).1
       rwa [(World.cells?_some h1).2.1] at this
      have:=(World.cells?_some h1).2.2 r hr
      rw [Go.Deep.add_add] at this
      rw [this,hv]
     obtain ⟨f,hfk⟩:=Go.Deep.choose_lt key
     have hes:∀e∈(List.range len).map f,e.length=d.sz:=by
      intro e he
      obtain ⟨i,hi,rfl⟩:=List.mem_map.1 he
      exact (hfk i (List.mem_range.1 hi)).1
     obtain ⟨ρ1,J1,es,g1,g2,g3,g4,g5,g6⟩:=AVC ((List.range len).map f) (λ e he=> by
      obtain ⟨i,hi,rfl⟩:=List.mem_map.1 he
      exact (hfk i (List.mem_range.1 hi)).2.2) ρ H hS
     obtain ⟨ρ',B,hle,hS',hat,hB⟩:=g2.add a es.flatten ((List.range len).map f).flatten (λ j v hv=> by
      rw [ARf h0 _ hes] at hv
      obtain ⟨e,he,hv⟩:=Option.bind_eq_some_iff.1 hv
      rw [List.getElem?_map] at he
      obtain ⟨i,hi,rfl⟩:=Option.map_eq_some_iff.1 he
      have hilt:j / d.sz < len:=by
       have:=(List.getElem?_eq_some_iff.1 hi).1
       simpa using this
      have hii:i=j / d.sz:=by simpa [List.getElem?_range hilt] using hi.symm
      subst hii
      have:=(hfk (j / d.sz) hilt).2.1 _ _ hv
      rwa [Nat.div_add_mod' j d.sz] at this) g4 g6
     have haddr:a=⟨a.block,a.off+0,none⟩:=by cases a;simp at hspot;subst hspot;rfl
     have hlen:es.length=len:=by rw [g3];simp
     refine ⟨ρ',J1++ [B], [.slice (some ⟨(H++J1).length,0,none⟩) len m],g1.trans hle,by rw [←List.append_assoc];exact hS',LRel.cons ?_ .nil,⟨some ⟨(H++J1).length,0,none⟩,m,es,by rw [hlen],by rw [hlen];exact hl,hm,λ e he=> ?_, ?_⟩,rfl,rfl⟩
     . rw [haddr]
       exact .slc hat (.inl rfl) hl (λ hh _=> by unfold maxLen at hm;unfold unk at hh;omega)
     . rw [←List.append_assoc];exact (g5 e he).keep (Old.app _ _)
     . by_cases hne:es.flatten= []
       . exact .inl hne
       . exact Sees.shows ⟨_,by rw [←List.append_assoc,AI7];exact hB hne,rfl⟩
theorem AVB {a b:D} {x y:List Value} (h1:Opn w a x) (h2:Opn w b y):Opn w (.pair a b) (x++y):=by
 intro ρ H hS
 obtain ⟨ρ1,J1,v1,q1,q2,q3,q4,q5,q6⟩:=h1 ρ H hS
 obtain ⟨ρ2,J2,v2,r1,r2,r3,r4,r5,r6⟩:=h2 ρ1 (H++J1) q2
 refine ⟨ρ2,J1++J2,v1++v2,q1.trans r1,by rw [←List.append_assoc];exact r2,(q3.mono r1).append r3,⟨v1,v2,rfl, ?_, ?_⟩,by rw [List.all_append,q5,r5];rfl,by rw [List.all_append,q6,r6];rfl⟩
 . rw [←List.append_assoc];exact q4.keep (Old.app _ _)
 . rw [←List.append_assoc];exact r4
theorem ANF {n:Nat} {t:TypeId} {d:D} (h:DT P n t=some d) {fuel:Nat} {cs:List Value} {x:DataW H0×List MemPlace} (hx:DataW.trod enc P w 0 (λ _=> true) true fuel t cs=some x):Opn w d cs:=
 Aby (enc:=enc) (w:=w) (λ d cs=> Opn w d cs) (λ k n hw=> AOG rfl ⟨n,rfl,hw⟩) (λ b=> AOG rfl ⟨b,rfl⟩) (λ s hs=> AOG rfl ⟨s,rfl,hs⟩) (AOG rfl rfl)
  (λ a b x y h1 h2=> AVB h1 h2) (λ n e t d fuel cs x hu hd ho hz h0 hx=> ATS hu hd ho hz h0 hx) n t d h fuel cs x hx
def isAggT (P:Program) (t:TypeId):Bool:=match P.underlying t with
 |some (.struct _)|some (.array _ _)=> true
 |_=> false
def Lies (d:D) (ag:Bool) (H:Heap) (v:Value):Prop:=if ag then∃vs,v= .agg ⟨vs⟩/\Shp d H vs else Shp d H [v]
theorem Lies.keep {d:D} {ag:Bool} {H H':Heap} {v:Value} (h:Lies d ag H v) (o:Old H.length H H'):Lies d ag H' v:=by
 unfold Lies at *
 cases ag with
 |true=> obtain ⟨vs,e,h⟩:=h;exact ⟨vs,e,h.keep o⟩
 |false=> exact Shp.keep h o
def Arg (w:World) (d:D) (ag:Bool) (v:Value):Prop:=∀(ρ:Ren) (H:Heap),St ρ H w->∃ρ' J v',Le ρ ρ'/\St ρ' (H++J) w/\VRel ρ' v' v/\Lies d ag (H++J) v'
theorem AQ1 {d:D} {v:Value} (hp:Opn w d [v]):Arg w d false v:=by
 intro ρ H hS
 obtain ⟨ρ',J,vs,h1,h2,h3,h4,_,_⟩:=hp ρ H hS
 match vs,h3.1 with
 | [v'],_=> exact ⟨ρ',J,v',h1,h2,h3.2 0 v' v rfl rfl,h4⟩
theorem AT3 {d:D} {cs:Array Value} (hp:Opn w d cs.toList):Arg w d true (.agg cs):=by
 intro ρ H hS
 obtain ⟨ρ',J,vs,h1,h2,h3,h4,_,_⟩:=hp ρ H hS
 exact ⟨ρ',J, .agg ⟨vs⟩,h1,h2, .agg (xs':=cs.toList) h3.1 h3.2,vs,rfl,h4⟩
theorem AVe {n:Nat} {t:TypeId} {d:D} (hd:DT P n t=some d) {base:Nat} {v:Value} (hv:Value.okWide P w .any base t v) {dd:DataW H0} {ps:List MemPlace} (h:DataW.Trod enc P w 0 (λ _=> true) true t v dd ps):Arg w d (isAggT P t) v:=by
 obtain ⟨fuel,hf⟩:=h
 cases n with
 |zero=> cases hd
 |succ n=>
  have hd0:=hd
  simp only [DT] at hd
  unfold isAggT
  split at hd
  . rename_i k hu
    obtain ⟨m,rfl⟩:=Go.WideShapes.okWide_int hu hv
    simp only [hu]
    exact AQ1 (ANF hd0 hf)
  . rename_i hu
    obtain ⟨m,rfl⟩:=Go.WideShapes.okWide_bool hu hv
    simp only [hu]
    exact AQ1 (ANF hd0 hf)
  . rename_i hu
    obtain ⟨m,rfl⟩:=Go.WideShapes.okWide_string hu hv
    simp only [hu]
    exact AQ1 (ANF hd0 hf)
  . rename_i e hu
    obtain ⟨a,l,c,rfl⟩:=Go.WideShapes.okWide_slice hu hv
    simp only [hu]
    exact AQ1 (ANF hd0 hf)
  all_goals first|(rename_i fs hu;simp only [hu];simp only [Value.okWide,hu] at hv;obtain ⟨cs,rfl,_,ts,_,_,hrow⟩:=hv;exact AT3 (ANF hd0 hf))|skip
  all_goals first|(rename_i m e hu;simp only [hu];simp only [Value.okWide,hu] at hv;obtain ⟨cs,rfl,_,ts,_,_,hrow⟩:=hv;exact AT3 (ANF hd0 hf))|skip
  cases hd
theorem arg_in {n:Nat} {t:TypeId} {d:D} (hd:DT P n t=some d) {ag:Bool} (ha:isAggT P t=ag) {base:Nat} {v:Value} (hv:Value.okWide P w .any base t v) {dd:DataW H0} {ps:List MemPlace} (h:DataW.Trod enc P w 0 (λ _=> true) true t v dd ps):Arg w d ag v:=ha ▸ AVe hd hv h
def AllArg (w:World):List (D×Bool)->List Value->Prop
 | [], []=> True
 |(d,ag)::ds,v::vs=> Arg w d ag v/\AllArg w ds vs
 |_,_=> False
def AllLies (H:Heap):List (D×Bool)->List Value->Prop
 | [], []=> True
 |(d,ag)::ds,v::vs=> Lies d ag H v/\AllLies H ds vs
 |_,_=> False
theorem AVL {H:Heap} {us:List Value} (h:AllLies H [] us):us= []:=by
 cases us with
 |nil=> rfl
 |cons u us=> exact h.elim
theorem ARH {d:D} {ag:Bool} {ds:List (D×Bool)} {H:Heap} {us:List Value} (h:AllLies H ((d,ag)::ds) us):∃u vs,us=u::vs/\Lies d ag H u/\AllLies H ds vs:=by
 cases us with
 |nil=> exact h.elim
 |cons u us=> exact ⟨u,us,rfl,h.1,h.2⟩
theorem AVM {d:D} {ds:List (D×Bool)} {H:Heap} {us:List Value} (h:AllLies H ((d,true)::ds) us):∃cs vs,us= .agg ⟨cs⟩::vs/\Shp d H cs/\AllLies H ds vs:=by
 obtain ⟨u,vs,rfl,h1,h2⟩:=ARH h
 obtain ⟨cs,rfl,h3⟩:=h1
 exact ⟨cs,vs,rfl,h3,h2⟩
theorem AVK {d:D} {ds:List (D×Bool)} {H:Heap} {us:List Value} (h:AllLies H ((.slc d,false)::ds) us):∃(q:Option Addr) (c:Nat) (es:List (List Value)) (vs:List Value),us= .slice q es.length c::vs/\es.length<=c/\c<=maxLen/\(∀e∈es,Shp d H e)/\Shows H q es.flatten/\AllLies H ds vs:=by
 obtain ⟨u,vs,rfl,h1,h2⟩:=ARH h
 obtain ⟨q,c,es,e,g1,g2,g3,g4⟩:=h1
 cases e
 exact ⟨q,c,es,vs,rfl,g1,g2,g3,g4,h2⟩
theorem AVf:∀(ds:List (D×Bool)) (vs:List Value),AllArg w ds vs->∀(ρ:Ren) (H:Heap),St ρ H w->∃ρ' J us,Le ρ ρ'/\St ρ' (H++J) w/\LRel ρ' us vs/\AllLies (H++J) ds us:=by
 intro ds
 induction ds with
 |nil=>
  intro vs h ρ H hS
  cases vs with
  |nil=> exact ⟨ρ, [], [], .refl _,by simpa using hS, .nil,trivial⟩
  |cons v vs=> exact h.elim
 |cons x ds ih=>
  intro vs h ρ H hS
  cases vs with
  |nil=> obtain ⟨d,ag⟩:=x;exact h.elim
  |cons v vs=>
   obtain ⟨d,ag⟩:=x
   obtain ⟨h1,h2⟩:=h
   obtain ⟨ρ1,J1,u,q1,q2,q3,q4⟩:=h1 ρ H hS
   obtain ⟨ρ2,J2,us,r1,r2,r3,r4⟩:=ih vs h2 ρ1 (H++J1) q2
   exact ⟨ρ2,J1++J2,u::us,q1.trans r1,by rw [←List.append_assoc];exact r2,LRel.cons (q3.mono r1) r3,by rw [←List.append_assoc];exact q4.keep (Old.app _ _),by rw [←List.append_assoc];exact r4⟩
theorem AYv {f:Nat} {c:(R:Type)->Nat->List Value->Heap->(Value->Heap->Option R)->Option R} (hc:∀(R:Type) (k:Nat) args H K r,c R k args H K=some r->∃v H',Tri P f args H v H'/\K v H'=some r)
 {k:Nat} (ds:List (D×Bool)) (hrun:∀(H:Heap) (us:List Value),AllRo H.length H->AllLies H ds us->c Bool k us H asB=some true) (args:List Value) (ha:AllArg w ds args):Calls P f ⟨args⟩ w λ e w'=> e= .returned (.bool true)/\Go.RowKit.Below w.heap.size w w':=by
 obtain ⟨ρ,H,us,_,hS,hA,hL⟩:=AVf ds args ha (λ _=> none) [] (St.nil w)
 obtain ⟨v,H',h1,h2⟩:=hc Bool k us _ asB true (hrun _ us (λ b B _ hb=> hS.ro b B hb) hL)
 unfold asB at h2
 split at h2
 . cases h2;exact Abn h1 hS.rel hS.dom hA hS.ro
 . cases h2
theorem law_in {f:Nat} {c:(R:Type)->Nat->List Value->Heap->(Value->Heap->Option R)->Option R} (hc:∀(R:Type) (k:Nat) args H K r,c R k args H K=some r->∃v H',Tri P f args H v H'/\K v H'=some r)
 {k:Nat} (ds:List (D×Bool)) (hrun:∀(H:Heap) (us:List Value),AllLies H ds us->c Bool k us H asB=some true) (args:List Value) (ha:AllArg w ds args):Calls P f ⟨args⟩ w λ e w'=> e= .returned (.bool true)/\Go.RowKit.Below w.heap.size w w':=
 AYv hc ds (λ H us _ h=> hrun H us h) args ha
end opening
end Go.Proofs.Ytmanlfonppfhaaa.FW
namespace Go.Proofs.Ytmanlfonppfhaaa.Sh
open Go.Proofs.Ytmanlfonppfhaaa.FW Go.IntWalk
def byt (l:List Int):List Value:=l.map (.int .u8)
def b64 (l:List Int):List Value:=l.map (.int .i64)
theorem ARh (l:List Int):(byt l).length=l.length:=by simp [byt]
theorem ARj (l:List Int):(b64 l).length=l.length:=by simp [b64]
theorem AZJ (a b:List Int):b64 (a++b)=b64 a++b64 b:=by simp [b64]
theorem w64 {n:Int} (h: -9223372036854775808<=n) (h2:n<=9223372036854775807):IntKind.i64.wrap n=n:=i64_in n ⟨h,h2⟩
theorem wu64 {n:Int} (h:0<=n) (h2:n<=18446744073709551615):IntKind.u64.wrap n=n:=u64_in n ⟨h,h2⟩
theorem or64 {R:Type} {a b:Nat} (ha:a < 2 ^ 62) (hb:b < 2 ^ 62) (K:Int->Option R):hbin .or .i64 (a:Int) (b:Int) K=K ((a|||b:Nat):Int):=by
 have e:(BitVec.ofInt 64 (a:Int)|||BitVec.ofInt 64 (b:Int)).toNat=a|||b:=by
  rw [BitVec.ofInt_natCast,BitVec.ofInt_natCast,BitVec.toNat_or,BitVec.toNat_ofNat,BitVec.toNat_ofNat,Nat.mod_eq_of_lt (by omega),Nat.mod_eq_of_lt (by omega)]
 have l:a|||b < 2 ^ 62:=Nat.or_lt_two_pow ha hb
 show K (IntKind.i64.wrap ((BitVec.ofInt 64 (a:Int)|||BitVec.ofInt 64 (b:Int)).toNat:Int))=_
 rw [e,i64_in _ ⟨by omega,by omega⟩]
theorem and64 {R:Type} {a b:Nat} (ha:a < 2 ^ 62) (hb:b < 2 ^ 62) (K:Int->Option R):hbin .and .i64 (a:Int) (b:Int) K=K ((a &&& b:Nat):Int):=by
 have e:(BitVec.ofInt 64 (a:Int) &&& BitVec.ofInt 64 (b:Int)).toNat=a &&& b:=by
  rw [BitVec.ofInt_natCast,BitVec.ofInt_natCast,BitVec.toNat_and,BitVec.toNat_ofNat,BitVec.toNat_ofNat,Nat.mod_eq_of_lt (by omega),Nat.mod_eq_of_lt (by omega)]
 have l:a &&& b<=a:=Nat.and_le_left
 show K (IntKind.i64.wrap ((BitVec.ofInt 64 (a:Int) &&& BitVec.ofInt 64 (b:Int)).toNat:Int))=_
 rw [e,i64_in _ ⟨by omega,by omega⟩]
theorem and8 {R:Type} {a b:Nat} (ha:a < 256) (hb:b < 256) (K:Int->Option R):hbin .and .u8 (a:Int) (b:Int) K=K ((a &&& b:Nat):Int):=by
 have e:(BitVec.ofInt 8 (a:Int) &&& BitVec.ofInt 8 (b:Int)).toNat=a &&& b:=by
  rw [BitVec.ofInt_natCast,BitVec.ofInt_natCast,BitVec.toNat_and,BitVec.toNat_ofNat,BitVec.toNat_ofNat,Nat.mod_eq_of_lt (by omega),Nat.mod_eq_of_lt (by omega)]
 have l:a &&& b<=a:=Nat.and_le_left
 show K (IntKind.u8.wrap ((BitVec.ofInt 8 (a:Int) &&& BitVec.ofInt 8 (b:Int)).toNat:Int))=_
 rw [e,u8_in _ ⟨by omega,by omega⟩]
theorem fdn (a n:Nat):(a:Int).fdiv (2 ^ n)=((a / 2 ^ n:Nat):Int):=by
 rw [Int.fdiv_eq_ediv_of_nonneg _ (Int.pow_nonneg (by omega)),Int.natCast_ediv,Int.natCast_pow];rfl
theorem shr64 {R:Type} {a n:Nat} (hn:n<=64) (K:Int->Option R):hbin .shr .i64 (a:Int) (IntKind.wrap .u64 (n:Int)) K=K ((a / 2 ^ n:Nat):Int):=by
 rw [wu64 (by omega) (by omega)]
 simp only [hbin]
 rw [if_neg (by omega),Int.toNat_natCast,Nat.min_eq_left (show n<=IntKind.i64.bits from hn),fdn]
theorem shr8 {R:Type} {a n:Nat} (hn:n<=8) (K:Int->Option R):hbin .shr .u8 (a:Int) (IntKind.wrap .u64 (n:Int)) K=K ((a / 2 ^ n:Nat):Int):=by
 rw [wu64 (by omega) (by omega)]
 simp only [hbin]
 rw [if_neg (by omega),Int.toNat_natCast,Nat.min_eq_left (show n<=IntKind.u8.bits from hn),fdn]
theorem pn (a n:Nat):(a:Int) * 2 ^ n=((a * 2 ^ n:Nat):Int):=by rw [Int.natCast_mul,Int.natCast_pow];rfl
theorem shl64 {R:Type} {a n:Nat} (hn:n<=64) (hl:a * 2 ^ n < 2 ^ 62) (K:Int->Option R):hbin .shl .i64 (a:Int) (IntKind.wrap .u64 (n:Int)) K=K ((a * 2 ^ n:Nat):Int):=by
 rw [wu64 (by omega) (by omega)]
 simp only [hbin]
 rw [if_neg (by omega),Int.toNat_natCast,Nat.min_eq_left (show n<=IntKind.i64.bits from hn),pn,w64 (by omega) (by omega)]
theorem shl8 {R:Type} {a n:Nat} (hn:n<=8) (hl:a * 2 ^ n < 256) (K:Int->Option R):hbin .shl .u8 (a:Int) (IntKind.wrap .u64 (n:Int)) K=K ((a * 2 ^ n:Nat):Int):=by
 rw [wu64 (by omega) (by omega)]
 simp only [hbin]
 rw [if_neg (by omega),Int.toNat_natCast,Nat.min_eq_left (show n<=IntKind.u8.bits from hn),pn,u8_in _ ⟨by omega,by omega⟩]
theorem p32 {n:Nat} (h:n<=32):2 ^ n<=2 ^ 32:=Nat.pow_le_pow_right (by omega) h
def B01 (l:List Int):Prop:=∀x∈l,x=0∨x=1
theorem B01.app {a b:List Int} (h:B01 a) (k:B01 b):B01 (a++b):=λ x hx=> by
 rcases List.mem_append.1 hx with h1|h1
 . exact h x h1
 . exact k x h1
theorem B01.one {x:Int} (h:x=0∨x=1):B01 [x]:=λ y hy=> by simp at hy;subst hy;exact h
theorem B01.left {a b:List Int} (h:B01 (a++b)):B01 a:=λ x hx=> h x (List.mem_append_left _ hx)
theorem B01.right {a b:List Int} (h:B01 (a++b)):B01 b:=λ x hx=> h x (List.mem_append_right _ hx)
def bn (x:Int):Nat:=if x=1 then 1 else 0
theorem Ab4 {x:Int} (h:x=0∨x=1):x=(bn x:Int):=by rcases h with rfl|rfl <;> rfl
theorem AZG (x:Int):bn x<=1:=by unfold bn;split <;> omega
def val (c:List Int):Nat:=c.foldl (λ v x=> 2 * v+bn x) 0
def bt (v:Nat):Nat->List Int
 |0=> []
 |n+1=> ((v / 2 ^ n % 2:Nat):Int)::bt v n
open Go.Proofs.Ytmanlfonppfhaaa.FW Go.IntWalk
def vld (w h:Int):Int:=if w < 1∨h < 1 then 2 else if w > 65536∨h > 65536∨w * h > 65536 then 5 else 0
theorem AVw {w h:Int} (h1:1<=w) (h2:w<=65536) (h3:1<=h) (h4:h<=65536):1<=w * h/\w * h<=4294967296:=by
 obtain ⟨a,rfl⟩:∃a:Nat,w=a:=⟨w.toNat,by omega⟩
 obtain ⟨b,rfl⟩:∃b:Nat,h=b:=⟨h.toNat,by omega⟩
 have e1:a * b<=65536 * 65536:=Nat.mul_le_mul (by omega) (by omega)
 have e2:1 * 1<=a * b:=Nat.mul_le_mul (by omega) (by omega)
 have e3:(a:Int) * (b:Int)=((a * b:Nat):Int):=(Int.natCast_mul a b).symm
 rw [e3];omega
theorem ARq (k:Nat) (w h:Int) (R:Type) (K:Int->Option R):AIe k w h K=K (vld w h):=by
 unfold AIe AKv AEm AId vld
 by_cases c1:w < 1
 . rw [if_pos (.inl c1),decide_eq_true c1];rfl
 by_cases c2:h < 1
 . rw [if_pos (.inr c2),decide_eq_false c1,decide_eq_true c2];rfl
 rw [if_neg (by omega),decide_eq_false c1,decide_eq_false c2]
 simp only [cond_false]
 by_cases c3:w > 65536
 . rw [if_pos (.inl c3),decide_eq_true c3];rfl
 by_cases c4:h > 65536
 . rw [if_pos (.inr (.inl c4)),decide_eq_false c3,decide_eq_true c4];rfl
 have hm:=AVw (w:=w) (h:=h) (by omega) (by omega) (by omega) (by omega)
 rw [w64 (by omega) (by omega),decide_eq_false c3,decide_eq_false c4]
 simp only [cond_false]
 by_cases c5:w * h > 65536
 . rw [if_pos (.inr (.inr c5)),decide_eq_true c5];rfl
 . rw [if_neg (by omega),decide_eq_false c5];rfl
def lvs:Nat->Nat->Nat->List (Nat×Nat)
 |0,_,_=> []
 |n+1,w,h=> (w,h)::if w=1/\h=1 then [] else lvs n ((w+1) / 2) ((h+1) / 2)
theorem AQZ {w:Nat} (h:w<=65536):IntKind.wrap .i64 (Int.tdiv (IntKind.wrap .i64 ((w:Int)+1)) 2)=(((w+1) / 2:Nat):Int):=by
 rw [w64 (n:=(w:Int)+1) (by omega) (by omega),show (w:Int)+1=((w+1:Nat):Int) from by omega]
 have:Int.tdiv ((w+1:Nat):Int) 2=(((w+1) / 2:Nat):Int):=rfl
 rw [this,w64 (by omega) (by omega)]
theorem mulw {w h:Nat} (hm:w * h<=65536):IntKind.wrap .i64 ((w:Int) * (h:Int))=((w * h:Nat):Int):=by
 rw [←Int.natCast_mul,w64 (by omega) (by omega)]
theorem AQv {w h:Nat} (h1:1<=w) (h2:1<=h) (hm:w * h<=65536):(w+1) / 2 * ((h+1) / 2)<=65536:=by
 have e1:(w+1) / 2<=w:=by omega
 have e2:(h+1) / 2<=h:=by omega
 exact Nat.le_trans (Nat.mul_le_mul e1 e2) hm
abbrev Nd:=Int×Int×Bool
def nd (n:Nd):List Value:= [.int .i64 n.1, .int .i64 n.2.1, .bool n.2.2]
def nds (n:Nat) (f:Nat->Nd):List Value:=(List.range n).flatMap λ i=> nd (f i)
def nz:Nd:=(0,0,false)
theorem AMK (n:Nat) (f:Nat->Nd):(nds n f).length=n * 3:=by
 induction n with
 |zero=> rfl
 |succ n ih=>
  unfold nds at *
  rw [List.range_succ,List.flatMap_append,List.length_append,ih]
  simp [nd];omega
theorem AR3 (n:Nat):mkCells [.int .i64 0, .int .i64 0, .bool false] n=nds n (λ _=> nz):=by
 induction n with
 |zero=> rfl
 |succ n ih=>
  have e:nds (n+1) (λ _=> nz)=nd nz++nds n (λ _=> nz):=by
   unfold nds
   rw [List.range_succ_eq_map,List.flatMap_cons]
   congr 1
   rw [List.flatMap_map]
  rw [e,←ih];rfl
structure Lv where
 w:Nat
 h:Nat
 b:Nat
 c:Nat
 z:Nat
def lvc (v:Lv):List Value:= [.int .i64 (v.w:Int), .int .i64 (v.h:Int), .slice (some ⟨v.b,0,none⟩) (v.w * v.h) v.c]
def lcs (l:List Lv):List Value:=l.flatMap lvc
theorem app3 {N:Nat} {H:Heap} {q:Oa} {l c:Nat} {cs vs:List Value} (h:Bld N 3 H q l c cs) (hN:N<=H.length) (hv:vs.length=3) (hl:l<=200):
 ∃H',(∀(R:Type) (K:Oa->Nat->Nat->Heap->Option R),happS 3 40 (H++ [some ⟨vs,false,0⟩]) q l c (some ⟨H.length,0,none⟩) 1 K=K (some ⟨H.length+1,0,none⟩) (l+1) unk H')/\Bld N 3 H' (some ⟨H.length+1,0,none⟩) (l+1) unk (cs++vs)/\H'.length=H.length+2/\∀i,i < H.length->(∀a,q=some a->a.block≠i)->hblk H' i=hblk H i:=by
 have hp:Shows (H++ [some (⟨vs,false,0⟩:Blk)]) (some ⟨H.length,0,none⟩) vs:=Sees.shows ⟨_,AAI H _,rfl⟩
 have hc:=hp.hcells
 rw [hv] at hc
 have hL:(H++ [some (⟨vs,false,0⟩:Blk)]).length=H.length+1:=by simp
 rcases h with ⟨rfl,rfl,rfl,rfl⟩|⟨b,rfl,rfl,h3,h4,h5⟩
 . refine ⟨H++ [some ⟨vs,false,0⟩]++ [some ⟨vs,false,3⟩],λ R K=> ?_, .inr ⟨H.length+1,rfl,rfl,by omega, ?_,by simp [hv]⟩,by simp,λ i hi _=> by rw [List.append_assoc];exact AHo hi⟩
   . unfold happS happ
     rw [show 1 * 3=3 from rfl,hc]
     simp only
     rw [if_neg (by unfold unk;omega),if_neg (by omega),if_pos (by omega),hL]
     rfl
   . have:=AAI (H++ [some (⟨vs,false,0⟩:Blk)]) (some ⟨vs,false,3⟩)
     rw [hL] at this
     exact this
 . have hblt:=h4.sees.lt
   have h4':hblk (H++ [some (⟨vs,false,0⟩:Blk)]) b=some ⟨cs,false,3⟩:=by rw [AHo hblt];exact h4
   refine ⟨hset (H++ [some ⟨vs,false,0⟩]) b none++ [some ⟨cs++vs,false,3⟩],λ R K=> ?_, .inr ⟨H.length+1,rfl,rfl,by omega, ?_,by rw [Nat.add_mul,h5,List.length_append,hv]⟩,by simp [AAX],λ i hi hne=> ?_⟩
   . unfold happS happ
     rw [show 1 * 3=3 from rfl,hc]
     simp only [if_true,h4',cond_false,h5,true_and,hL]
     rw [if_pos (by omega)]
   . have:=AI7 (hset (H++ [some (⟨vs,false,0⟩:Blk)]) b none) (some ⟨cs++vs,false,3⟩) []
     rwa [AAX,hL] at this
   . rw [AHo (by rw [AAX];omega),AEy,if_neg (by have:=hne _ rfl;simp only at this;omega),AHo hi]
structure Tn (N:Nat) (H:Heap) (p:Nat) (q:Oa) (c:Nat) (l:List Lv) (enc dec:Bool) (g:Nat->Nat->Nd):Prop where
 o:Owns H p [.slice q l.length c, .bool enc, .bool dec] 0
 b:Bld N 3 H q l.length c (lcs l)
 low:N<=p
 ap:∀a,q=some a->a.block≠p
 n:∀(i:Nat) (v:Lv),l[i]? =some v->Owns H v.b (nds (v.w * v.h) (g i)) v.z/\N<=v.b/\v.b≠p/\∀a,q=some a->a.block≠v.b
 d:∀(i j:Nat) (v u:Lv),l[i]? =some v->l[j]? =some u->i≠j->v.b≠u.b
theorem hmk3 {n:Nat} (H:Heap) (hn:n<=65536) (R:Type) (K:Oa->Nat->Nat->Heap->Option R):hmk [.int .i64 0, .int .i64 0, .bool false] 24 H (n:Int) (n:Int) K=K (some ⟨H.length,0,none⟩) n n (H++ [some ⟨nds n (λ _=> nz),false,0⟩]):=by
 unfold hmk
 rw [if_pos ⟨by omega,by omega,by omega,by omega⟩,←AR3]
 rfl
theorem Bld.but2 {N size b l c:Nat} {H H':Heap} {q:Oa} {cs:List Value} (h:Bld N size H q l c cs) (o:But b H H') (hb:∀a,q=some a->a.block≠b):Bld N size H' q l c cs:=by
 rcases h with h|⟨b2,rfl,h2,h3,h4,h5⟩
 . exact .inl h
 . exact .inr ⟨b2,rfl,h2,h3,Owns.but h4 o (hb _ rfl),h5⟩
theorem ATV {N p:Nat} {H:Heap} {q:Oa} {c:Nat} {l:List Lv} {e d:Bool} {g:Nat->Nat->Nd} (T:Tn N H p q c l e d g) (hN:N<=H.length) (hl:l.length<=99) (w h cap z:Nat):
 ∃H1 H2 H3 H4,H1=H++ [some (⟨nds (w * h) (g l.length),false,z⟩:Blk)]/\H2=H1++ [some (⟨lvc ⟨w,h,H.length,cap,z⟩,false,0⟩:Blk)]/\hcell H p 0=some (.slice q l.length c)/\
 (∀(R:Type) (K:Oa->Nat->Nat->Heap->Option R),happS 3 40 H2 q l.length c (some ⟨H1.length,0,none⟩) 1 K=K (some ⟨H1.length+1,0,none⟩) (l.length+1) unk H3)/\
 (∀(R:Type) (K:Heap->Option R),hst1 H3 (some ⟨p,0,none⟩) (.slice (some ⟨H1.length+1,0,none⟩) (l.length+1) unk) K=K H4)/\
 Tn N H4 p (some ⟨H1.length+1,0,none⟩) unk (l++ [⟨w,h,H.length,cap,z⟩]) e d g/\Old N H H4:=by
 obtain ⟨H1,hH1⟩:∃H1,H1=H++ [some (⟨nds (w * h) (g l.length),false,z⟩:Blk)]:=⟨_,rfl⟩
 have n1:H1.length=H.length+1:=by rw [hH1];simp
 have o1:Old H.length H H1:=hH1 ▸ Old.app _ _
 have hp:=T.o.lt
 have hB1:=T.b.old o1 (Nat.le_refl _)
 obtain ⟨H3,e3,B3,n3,s3⟩:=app3 hB1 (by omega) (vs:=lvc ⟨w,h,H.length,cap,z⟩) rfl (by omega)
 have hqb:=T.b.below
 have O3:Owns H3 p [.slice q l.length c, .bool e, .bool d] 0:=by
  unfold Owns at *;rw [s3 p (by omega) T.ap,o1.2 p hp];exact T.o
 obtain ⟨H4,e4,O4,b4,n4⟩:=Owns.st1 (o:=0) O3 (by simp) (.slice (some ⟨H1.length+1,0,none⟩) (l.length+1) unk)
 have keep:∀b cs zz,Owns H b cs zz->b≠p->(∀a,q=some a->a.block≠b)->Owns H4 b cs zz:=λ b cs zz ho h1 h2=> by
  have hb:=ho.lt
  unfold Owns at *;rw [b4.2 b (by omega) h1,s3 b (by omega) h2,o1.2 b hb];exact ho
 have Onew:Owns H4 H.length (nds (w * h) (g l.length)) z:=by
  have:Owns H1 H.length (nds (w * h) (g l.length)) z:=by rw [hH1];exact AAI H _
  unfold Owns at *;rw [b4.2 _ (by omega) (by omega),s3 _ (by omega) (λ a ha=> by have:=hqb a ha;omega)];exact this
 refine ⟨H1,_,H3,H4,hH1,rfl,T.o.sees.cell 0,e3,e4,⟨by rw [List.length_append];exact O4, ?_,T.low,(λ a ha=> by cases ha;simp only;omega),λ i v hv=> ?_,λ i j v u hv hu hij=> ?_⟩,⟨by omega,λ i hi=> ?_⟩⟩
 . have:lcs (l++ [⟨w,h,H.length,cap,z⟩])=lcs l++lvc ⟨w,h,H.length,cap,z⟩:=by simp [lcs]
   rw [this,List.length_append]
   exact Bld.but2 B3 b4 (λ a ha=> by cases ha;simp only;omega)
 . by_cases hi:i < l.length
   . rw [List.getElem?_append_left hi] at hv
     obtain ⟨g1,g2,g3,g4⟩:=T.n i v hv
     have:=g1.lt
     exact ⟨keep _ _ _ g1 g3 g4,g2,g3,λ a ha=> by cases ha;simp only;omega⟩
   . have hi2:=(List.getElem?_eq_some_iff.1 hv).1
     simp only [List.length_append,List.length_cons,List.length_nil] at hi2
     have:i=l.length:=by omega
     subst this
     rw [List.getElem?_append_right (Nat.le_refl _),Nat.sub_self] at hv
     simp at hv
     subst hv
     exact ⟨Onew,hN,by simp only;omega,λ a ha=> by cases ha;simp only;omega⟩
 . have key:∀(i j:Nat) (v u:Lv),(l++ [⟨w,h,H.length,cap,z⟩])[i]? =some v->(l++ [⟨w,h,H.length,cap,z⟩])[j]? =some u->i < j->v.b≠u.b:=by
    intro i j v u hv hu hij
    have hj2:=(List.getElem?_eq_some_iff.1 hu).1
    simp only [List.length_append,List.length_cons,List.length_nil] at hj2
    rw [List.getElem?_append_left (by omega)] at hv
    by_cases hj:j < l.length
    . rw [List.getElem?_append_left hj] at hu
      exact T.d i j v u hv hu (by omega)
    . have:j=l.length:=by omega
      subst this
      rw [List.getElem?_append_right (Nat.le_refl _),Nat.sub_self] at hu
      simp at hu
      subst hu
      have:=(T.n i v hv).1.lt
      simp only;omega
   rcases Nat.lt_or_gt_of_ne hij with h1|h1
   . exact key i j v u hv hu h1
   . exact (key j i u v hu hv h1).symm
 . rw [b4.2 i (by omega) (by have:=T.low;omega),s3 i (by omega) (λ a ha=> by
    rcases T.b with ⟨hq,_⟩|⟨b2,hq,_,h3,_⟩
    . rw [hq] at ha;cases ha
    . rw [hq] at ha;cases ha;simp only;omega),o1.2 i (by omega)]
theorem AVx {N p:Nat} {H:Heap} {q:Oa} {c:Nat} {l:List Lv} {g:Nat->Nat->Nd} (T:Tn N H p q c l false false g) (hN:N<=H.length) (hl:l.length<=99) (w h:Nat) (hwh:w * h<=65536) (hg:∀j,g l.length j=nz):
 ∃H1 H2 H3 H4,H2=H1++ [some (⟨lvc ⟨w,h,H.length,w * h,0⟩,false,0⟩:Blk)]/\hcell H p 0=some (.slice q l.length c)/\
 (∀(R:Type) (K:Oa->Nat->Nat->Heap->Option R),hmk [.int .i64 0, .int .i64 0, .bool false] 24 H ((w * h:Nat):Int) ((w * h:Nat):Int) K=K (some ⟨H.length,0,none⟩) (w * h) (w * h) H1)/\
 (∀(R:Type) (K:Oa->Nat->Nat->Heap->Option R),happS 3 40 H2 q l.length c (some ⟨H1.length,0,none⟩) 1 K=K (some ⟨H1.length+1,0,none⟩) (l.length+1) unk H3)/\
 (∀(R:Type) (K:Heap->Option R),hst1 H3 (some ⟨p,0,none⟩) (.slice (some ⟨H1.length+1,0,none⟩) (l.length+1) unk) K=K H4)/\
 Tn N H4 p (some ⟨H1.length+1,0,none⟩) unk (l++ [⟨w,h,H.length,w * h,0⟩]) false false g/\Old N H H4:=by
 obtain ⟨H1,H2,H3,H4,h1,h2,h3,h4,h5,h6,h7⟩:=ATV T hN hl w h (w * h) 0
 have he:nds (w * h) (g l.length)=nds (w * h) (λ _=> nz):=by unfold nds;congr 1;funext j;rw [hg]
 exact ⟨H1,H2,H3,H4,h2,h3,λ R K=> by rw [h1,he];exact hmk3 H hwh R K,h4,h5,h6,h7⟩
theorem Ago (k:Nat):∀(m n w h:Nat),m < n->1<=w->1<=h->w<=2 ^ m->h<=2 ^ m->m<=16->w * h<=65536->∀(N p:Nat) (H:Heap) (q:Oa) (c:Nat) (l:List Lv),Tn N H p q c l false false (λ _ _=> nz)->N<=H.length->l.length+m<=90->
 ∃H' q' c' l',(∀(R:Type) (KR:Oa->Int->Heap->Option R),ACP k KR n (w:Int) (h:Int) (some ⟨p,0,none⟩) H=KR (some ⟨p,0,none⟩) 0 H')/\Tn N H' p q' c' (l++l') false false (λ _ _=> nz)/\l'.map (λ v=> (v.w,v.h))=lvs (m+1) w h/\Old N H H':=by
 intro m
 induction m with
 |zero=>
  intro n w h hn hw hh hw2 hh2 hm hwh N p H q c l T hN hl
  obtain ⟨n,rfl⟩:∃n',n=n'+1:=⟨n - 1,by omega⟩
  simp only [Nat.pow_zero] at hw2 hh2
  obtain rfl:w=1:=by omega
  obtain rfl:h=1:=by omega
  obtain ⟨H1,H2,H3,H4,hH2,m0,e1,e3,e4,T4,o4⟩:=AVx T hN (by omega) 1 1 (by omega) (λ _=> rfl)
  refine ⟨H4,_,_, [⟨1,1,H.length,1,0⟩],λ R KR=> ?_,T4,rfl,o4⟩
  have w1:IntKind.wrap .i64 (((1:Nat):Int) * ((1:Nat):Int))=((1 * 1:Nat):Int):=mulw (by omega)
  unfold ACP AGX ADK AGW
  rw [w1]
  with_reducible repeat (first|refine (e1 _ _).trans ?_|refine (e3 _ _).trans ?_|refine (e4 _ _).trans ?_|((first|apply AAJ|apply AAH|apply AAY|apply AAw|apply go_i|apply go_b|apply go_l|apply go_p);with_unfolding_all first|exact m0|rfl)|(refine AAW hH2 ?_ ?_ ?_;with_unfolding_all rfl;with_unfolding_all rfl)|refine AAD hH2 ?_|refine AAz ?_|refine AAx ?_|refine AAA ?_|refine AAC ?_|(refine go_t ?_ ?_;with_unfolding_all (show _=true;rfl))|(refine go_f ?_ ?_;with_unfolding_all (show _=false;rfl)))
  rfl
 |succ m ih=>
  intro n w h hn hw hh hw2 hh2 hm hwh N p H q c l T hN hl
  obtain ⟨n,rfl⟩:∃n',n=n'+1:=⟨n - 1,by omega⟩
  obtain ⟨H1,H2,H3,H4,hH2,m0,e1,e3,e4,T4,o4⟩:=AVx T hN (by omega) w h hwh (λ _=> rfl)
  have w1:IntKind.wrap .i64 ((w:Int) * (h:Int))=((w * h:Nat):Int):=mulw hwh
  have p16:2 ^ (m+1)<=2 ^ 16:=Nat.pow_le_pow_right (by omega) hm
  by_cases hone:w=1/\h=1
  . obtain ⟨rfl,rfl⟩:=hone
    refine ⟨H4,_,_, [⟨1,1,H.length,1,0⟩],λ R KR=> ?_,T4,by rw [lvs,if_pos ⟨rfl,rfl⟩];rfl,o4⟩
    unfold ACP AGX ADK AGW
    rw [w1]
    with_reducible repeat (first|refine (e1 _ _).trans ?_|refine (e3 _ _).trans ?_|refine (e4 _ _).trans ?_|((first|apply AAJ|apply AAH|apply AAY|apply AAw|apply go_i|apply go_b|apply go_l|apply go_p);with_unfolding_all first|exact m0|rfl)|(refine AAW hH2 ?_ ?_ ?_;with_unfolding_all rfl;with_unfolding_all rfl)|refine AAD hH2 ?_|refine AAz ?_|refine AAx ?_|refine AAA ?_|refine AAC ?_|(refine go_t ?_ ?_;with_unfolding_all (show _=true;rfl))|(refine go_f ?_ ?_;with_unfolding_all (show _=false;rfl)))
    rfl
  . have hp:2 ^ (m+1)=2 * 2 ^ m:=Nat.pow_succ'
    have hm2:=AQv hw hh hwh
    obtain ⟨H5,q5,c5,l5,e5,T5,s5,o5⟩:=ih n ((w+1) / 2) ((h+1) / 2) (by omega) (by omega) (by omega) (by omega) (by omega) (by omega) hm2 N p H4 _ _ _ T4 (by have:=o4.1;omega) (by rw [List.length_append];simp only [List.length_cons,List.length_nil];omega)
    refine ⟨H5,q5,c5,⟨w,h,H.length,w * h,0⟩::l5,λ R KR=> ?_,by rw [List.append_assoc] at T5;exact T5,by
     show _=(w,h)::(if w=1/\h=1 then [] else lvs (m+1) ((w+1) / 2) ((h+1) / 2))
     rw [if_neg hone,List.map_cons,s5],o4.trans o5⟩
    have hw1:=AQZ (w:=w) (by omega)
    have hh1:=AQZ (w:=h) (by omega)
    unfold ACP AGX ADK AGW
    rw [w1]
    by_cases c1:w=1
    . have d1:((w:Int)==1)=true:=by rw [c1];rfl
      have d2:((h:Int)==1)=false:=by rw [beq_eq_false_iff_ne];omega
      with_reducible repeat (first|refine (e1 _ _).trans ?_|refine (e3 _ _).trans ?_|refine (e4 _ _).trans ?_|((first|apply AAJ|apply AAH|apply AAY|apply AAw|apply go_i|apply go_b|apply go_l|apply go_p);with_unfolding_all first|exact m0|rfl)|(refine AAW hH2 ?_ ?_ ?_;with_unfolding_all rfl;with_unfolding_all rfl)|refine AAD hH2 ?_|refine go_t d1 ?_|refine go_f d1 ?_|refine go_t d2 ?_|refine go_f d2 ?_|refine AAz ?_|refine AAx ?_|refine AAA ?_|refine AAC ?_|(refine go_t ?_ ?_;with_unfolding_all (show _=true;rfl))|(refine go_f ?_ ?_;with_unfolding_all (show _=false;rfl)))
      try dsimp only
      rw [hw1,hh1]
      exact e5 R KR
    . have d1:((w:Int)==1)=false:=by rw [beq_eq_false_iff_ne];omega
      with_reducible repeat (first|refine (e1 _ _).trans ?_|refine (e3 _ _).trans ?_|refine (e4 _ _).trans ?_|((first|apply AAJ|apply AAH|apply AAY|apply AAw|apply go_i|apply go_b|apply go_l|apply go_p);with_unfolding_all first|exact m0|rfl)|(refine AAW hH2 ?_ ?_ ?_;with_unfolding_all rfl;with_unfolding_all rfl)|refine AAD hH2 ?_|refine go_t d1 ?_|refine go_f d1 ?_|refine AAz ?_|refine AAx ?_|refine AAA ?_|refine AAC ?_|(refine go_t ?_ ?_;with_unfolding_all (show _=true;rfl))|(refine go_f ?_ ?_;with_unfolding_all (show _=false;rfl)))
      try dsimp only
      rw [hw1,hh1]
      exact e5 R KR
theorem Ab9 {k:Nat} (hk:100 < k) (H:Heap) (w h:Int):(vld w h≠0/\∀(R:Type) (K:Oa->Int->Heap->Option R),AG6 k w h H K=K none (vld w h) H)∨
 (vld w h=0/\∃(a b:Nat) (H':Heap) (q:Oa) (c:Nat) (l:List Lv),w=a/\h=b/\1<=a/\1<=b/\a<=65536/\b<=65536/\a * b<=65536/\(∀(R:Type) (K:Oa->Int->Heap->Option R),AG6 k w h H K=K (some ⟨H.length,0,none⟩) 0 H')/\Tn H.length H' H.length q c l false false (λ _ _=> nz)/\l.map (λ v=> (v.w,v.h))=lvs 17 a b/\Old H.length H H'):=by
 by_cases hv:vld w h=0
 . right
   refine ⟨hv, ?_⟩
   have hv2:=hv
   unfold vld at hv2
   split at hv2
   . omega
   split at hv2
   . omega
   rename_i c1 c2
   obtain ⟨a,rfl⟩:∃a:Nat,w=a:=⟨w.toNat,by omega⟩
   obtain ⟨b,rfl⟩:∃b:Nat,h=b:=⟨h.toNat,by omega⟩
   have hab:a * b<=65536:=by rw [←Int.natCast_mul] at c2;omega
   obtain ⟨H1,hH1⟩:∃H1,H1=H++ [some (⟨[.slice none 0 0, .bool false, .bool false],false,0⟩:Blk)]:=⟨_,rfl⟩
   have O1:Owns H1 H.length [.slice none 0 0, .bool false, .bool false] 0:=by rw [hH1];exact AAI H _
   have o1:Old H.length H H1:=hH1 ▸ Old.app _ _
   have T1:Tn H.length H1 H.length none 0 [] false false (λ _ _=> nz):=⟨O1,Bld.nil _ _ _,Nat.le_refl _,(λ a ha=> by cases ha),(λ i v hv=> by simp at hv),(λ i j v u hv=> by simp at hv)⟩
   obtain ⟨H2,q,c,l,e2,T2,s2,o2⟩:=Ago k 16 k a b (by omega) (by omega) (by omega) (by omega) (by omega) (by omega) hab H.length H.length H1 none 0 [] T1 o1.1 (by simp)
   refine ⟨a,b,H2,q,c,l,rfl,rfl,by omega,by omega,by omega,by omega,hab,λ R K=> ?_,T2,s2,o1.trans o2⟩
   unfold AG6 AKi
   refine (ARq _ _ _ _ _).trans ?_
   rw [hv]
   refine go_f rfl (AAD hH1 ?_)
   exact e2 _ _
 . left
   refine ⟨hv,λ R K=> ?_⟩
   have d1:(vld w h !=0)=true:=by simpa using hv
   unfold AG6 AKi
   refine (ARq _ _ _ _ _).trans ?_
   exact go_t d1 rfl
open Go.Proofs.Ytmanlfonppfhaaa.FW Go.IntWalk
theorem app1 {N bytes:Nat} {H:Heap} {q:Oa} {l c:Nat} {cs:List Value} (h:Bld N 1 H q l c cs) (hN:N<=H.length) (v:Value) (hl:(l+1) * bytes<=35184372088832):
 ∃H',(∀(R:Type) (K:Oa->Nat->Nat->Heap->Option R),happS 1 bytes (H++ [some ⟨[v],false,0⟩]) q l c (some ⟨H.length,0,none⟩) 1 K=K (some ⟨H.length+1,0,none⟩) (l+1) unk H')/\Bld N 1 H' (some ⟨H.length+1,0,none⟩) (l+1) unk (cs++ [v])/\H'.length=H.length+2/\∀i,i < H.length->(∀a,q=some a->a.block≠i)->hblk H' i=hblk H i:=by
 have hp:Shows (H++ [some (⟨[v],false,0⟩:Blk)]) (some ⟨H.length,0,none⟩) [v]:=Sees.shows ⟨_,AAI H _,rfl⟩
 have hc:=hp.hcells
 have hL:(H++ [some (⟨[v],false,0⟩:Blk)]).length=H.length+1:=by simp
 rcases h with ⟨rfl,rfl,rfl,rfl⟩|⟨b,rfl,rfl,h3,h4,h5⟩
 . refine ⟨H++ [some ⟨[v],false,0⟩]++ [some ⟨[v],false,1⟩],λ R K=> ?_, .inr ⟨H.length+1,rfl,rfl,by omega, ?_,by simp⟩,by simp,λ i hi _=> by rw [List.append_assoc];exact AHo hi⟩
   . unfold happS happ
     rw [show 1 * 1= [v].length from rfl,hc]
     simp only
     rw [if_neg (by unfold unk;omega),if_neg (by omega),if_pos (by simpa using hl),hL]
     rfl
   . have:=AAI (H++ [some (⟨[v],false,0⟩:Blk)]) (some ⟨[v],false,1⟩)
     rw [hL] at this
     exact this
 . have hblt:=h4.sees.lt
   have h4':hblk (H++ [some (⟨[v],false,0⟩:Blk)]) b=some ⟨cs,false,1⟩:=by rw [AHo hblt];exact h4
   refine ⟨hset (H++ [some ⟨[v],false,0⟩]) b none++ [some ⟨cs++ [v],false,1⟩],λ R K=> ?_, .inr ⟨H.length+1,rfl,rfl,by omega, ?_,by rw [Nat.add_mul,h5,List.length_append];rfl⟩,by simp [AAX],λ i hi hne=> ?_⟩
   . unfold happS happ
     rw [show 1 * 1= [v].length from rfl,hc]
     simp only [if_true,h4',cond_false,h5,true_and,hL]
     rw [if_pos hl]
   . have:=AI7 (hset (H++ [some (⟨[v],false,0⟩:Blk)]) b none) (some ⟨cs++ [v],false,1⟩) []
     rwa [AAX,hL] at this
   . rw [AHo (by rw [AAX];omega),AEy,if_neg (by have:=hne _ rfl;simp only at this;omega),AHo hi]
structure Stp (p:Nat) (q:Oa) (H:Heap) (q':Oa) (H':Heap):Prop where
 len:H.length<=H'.length
 old:∀i,i < H.length->i≠p->(∀a,q=some a->a.block≠i)->hblk H' i=hblk H i
 new:q'=q∨∀a,q'=some a->H.length<=a.block
theorem Stp.refl (p:Nat) (q:Oa) (H:Heap):Stp p q H q H:=⟨Nat.le_refl _,λ _ _ _ _=> rfl, .inl rfl⟩
theorem Stp.trans {p:Nat} {q q1 q2:Oa} {H H1 H2:Heap} (a:Stp p q H q1 H1) (b:Stp p q1 H1 q2 H2):Stp p q H q2 H2:=by
 refine ⟨Nat.le_trans a.len b.len,λ i hi h1 h2=> (b.old i (Nat.lt_of_lt_of_le hi a.len) h1 λ x hx=> ?_).trans (a.old i hi h1 h2), ?_⟩
 . rcases a.new with h|h
   . subst h;exact h2 x hx
   . have:=h x hx;omega
 . rcases b.new with h|h
   . subst h;exact a.new
   . exact .inr λ x hx=> Nat.le_trans a.len (h x hx)
theorem Stp.of_old {p:Nat} {q:Oa} {H H':Heap} (o:Old H.length H H'):Stp p q H q H':=⟨o.1,λ i hi _ _=> o.2 i hi, .inl rfl⟩
theorem Stp.of_but {p:Nat} {q:Oa} {H H':Heap} (o:But p H H'):Stp p q H q H':=⟨o.1,λ i hi h _=> o.2 i hi h, .inl rfl⟩
theorem Stp.below {N p:Nat} {q q':Oa} {H H':Heap} (s:Stp p q H q' H') (hp:N<=p) (hq:∀a,q=some a->N<=a.block) (hN:N<=H.length):Old N H H':=
 ⟨s.len,λ i hi=> s.old i (by omega) (by omega) λ a ha=> by have:=hq a ha;omega⟩
def Apt (p:Nat) (q:Oa) (p2:Nat) (q2:Oa):Prop:=p≠p2/\(∀a,q=some a->a.block≠p2)/\(∀a,q2=some a->a.block≠p)/\∀a b,q=some a->q2=some b->a.block≠b.block
theorem Apt.symm {p p2:Nat} {q q2:Oa} (h:Apt p q p2 q2):Apt p2 q2 p q:=⟨h.1.symm,h.2.2.1,h.2.1,λ a b ha hb=> (h.2.2.2 b a hb ha).symm⟩
theorem Apt.step {p p2:Nat} {q q2 q':Oa} {H H':Heap} (h:Apt p q p2 q2) (s:Stp p q H q' H') (h2:p2 < H.length) (h3:∀a,q2=some a->a.block < H.length):Apt p q' p2 q2:=by
 rcases s.new with e|e
 . subst e;exact h
 . exact ⟨h.1,λ a ha=> by have:=e a ha;omega,h.2.2.1,λ a b ha hb=> by have:=e a ha;have:=h3 b hb;omega⟩
theorem Owns.stp {p:Nat} {q q':Oa} {H H':Heap} (s:Stp p q H q' H') {b sz:Nat} {cs:List Value} (h:Owns H b cs sz) (h1:b≠p) (h2:∀a,q=some a->a.block≠b):Owns H' b cs sz:=by
 have:=h.lt
 unfold Owns at *;rw [s.old b this h1 h2];exact h
theorem Bld.stp {p:Nat} {q q':Oa} {H H':Heap} (s:Stp p q H q' H') {N sz l c:Nat} {q2:Oa} {cs:List Value} (h:Bld N sz H q2 l c cs) (h1:∀a,q2=some a->a.block≠p) (h2:∀a b,q=some a->q2=some b->a.block≠b.block):Bld N sz H' q2 l c cs:=by
 rcases h with h|⟨b,rfl,h3,h4,h5,h6⟩
 . exact .inl h
 . exact .inr ⟨b,rfl,h3,h4,Owns.stp s h5 (h1 _ rfl) (λ a ha=> h2 a _ ha rfl),h6⟩
structure Ur (N:Nat) (H:Heap) (p:Nat) (q:Oa) (l:List Int):Prop where
 c:∃c,Owns H p [.bool true, .slice q l.length c] 0/\Bld N 1 H q l.length c (b64 l)
 low:N<=p
 apt:∀a,q=some a->a.block≠p
theorem Ur.lt {N:Nat} {H:Heap} {p:Nat} {q:Oa} {l:List Int} (h:Ur N H p q l):p < H.length:=by obtain ⟨c,h1,_⟩:=h.c;exact h1.lt
theorem Ur.qlt {N:Nat} {H:Heap} {p:Nat} {q:Oa} {l:List Int} (h:Ur N H p q l):∀a,q=some a->a.block < H.length:=by obtain ⟨c,_,h1⟩:=h.c;exact h1.below
theorem Ur.stp {N:Nat} {H H':Heap} {p p2:Nat} {q q' q2:Oa} {l:List Int} (h:Ur N H p2 q2 l) (s:Stp p q H q' H') (a:Apt p q p2 q2):Ur N H' p2 q2 l:=by
 obtain ⟨c,h1,h2⟩:=h.c
 exact ⟨⟨c,Owns.stp s h1 a.1.symm a.2.1,Bld.stp s h2 a.2.2.1 a.2.2.2⟩,h.low,h.apt⟩
theorem Ur.add {N:Nat} {H:Heap} {p:Nat} {q:Oa} {l:List Int} (h:Ur N H p q l) (hN:N<=H.length) (x:Int) (hl:l.length < 1000000):∃c H1 H2,hcell H p 1=some (.slice q l.length c)/\
 (∀(R:Type) (K:Oa->Nat->Nat->Heap->Option R),happS 1 8 (H++ [some ⟨[.int .i64 x],false,0⟩]) q l.length c (some ⟨H.length,0,none⟩) 1 K=K (some ⟨H.length+1,0,none⟩) (l.length+1) unk H1)/\
 (∀(R:Type) (K:Heap->Option R),hst1 H1 (some ⟨p,1,none⟩) (.slice (some ⟨H.length+1,0,none⟩) (l.length+1) unk) K=K H2)/\Ur N H2 p (some ⟨H.length+1,0,none⟩) (l++ [x])/\Stp p q H (some ⟨H.length+1,0,none⟩) H2:=by
 obtain ⟨c,h1,h2⟩:=h.c
 obtain ⟨H1,e1,B1,n1,s1⟩:=app1 (bytes:=8) h2 hN (.int .i64 x) (by omega)
 have hp:=h1.lt
 have o1:Owns H1 p [.bool true, .slice q l.length c] 0:=by unfold Owns at *;rw [s1 p hp h.apt];exact h1
 obtain ⟨H2,e2,o2,b2,n2⟩:=Owns.st1 (o:=1) o1 (by simp) (.slice (some ⟨H.length+1,0,none⟩) (l.length+1) unk)
 refine ⟨c,H1,H2,by rw [h1.sees.cell];rfl,e1,e2,⟨⟨unk,by simpa using o2, ?_⟩,h.low,λ a ha=> by cases ha;simp only;omega⟩,⟨by omega,λ i hi h3 h4=> ?_, .inr λ a ha=> by cases ha;simp only;omega⟩⟩
 . rw [AZJ,List.length_append]
   exact Bld.stp (p:=p) (q:=none) (q':=none) ⟨b2.1,λ i hi h _=> b2.2 i hi h, .inl rfl⟩ B1 (λ a ha=> by cases ha;simp only;omega) (λ a b ha=> by cases ha)
 . rw [b2.2 i (by omega) h3,s1 i hi h4]
open Go.Proofs.Ytmanlfonppfhaaa.FW Go.IntWalk
def wl (a i:Nat):Nat:=(a - 1) / 2 ^ i+1
theorem AJU {a:Nat} (h:1<=a):wl a 0=a:=by unfold wl;simp;omega
theorem ANn {a:Nat} (h:1<=a) (i:Nat):wl ((a+1) / 2) i=wl a (i+1):=by
 unfold wl
 rw [show (a+1) / 2 - 1=(a - 1) / 2 from by omega,Nat.div_div_eq_div_mul,Nat.pow_succ',Nat.mul_comm]
theorem AYs:∀(n a b i:Nat) (v:Nat×Nat),1<=a->1<=b->(lvs n a b)[i]? =some v->v=(wl a i,wl b i):=by
 intro n
 induction n with
 |zero=> intro a b i v _ _ h;simp [lvs] at h
 |succ n ih=>
  intro a b i v ha hb h
  rw [lvs] at h
  cases i with
  |zero=> simp at h;rw [AJU ha,AJU hb];exact h.symm
  |succ i=>
   rw [List.getElem?_cons_succ] at h
   by_cases h1:a=1/\b=1
   . rw [if_pos h1] at h;simp at h
   . rw [if_neg h1] at h
     have:=ih _ _ i v (by omega) (by omega) h
     rw [ANn ha,ANn hb] at this;exact this
theorem AYr:∀(n a b:Nat),(lvs n a b).length<=n:=by
 intro n
 induction n with
 |zero=> intro a b;simp [lvs]
 |succ n ih=>
  intro a b
  rw [lvs]
  split
  . simp
  . have:=ih ((a+1) / 2) ((b+1) / 2);simp;omega
structure Geo (a b:Nat) (l:List Lv):Prop where
 a1:1<=a
 b1:1<=b
 ab:a * b<=65536
 am:a<=65536
 bm:b<=65536
 pos:1<=l.length
 len:l.length<=17
 lv:∀i v,l[i]? =some v->v.w=wl a i/\v.h=wl b i
theorem AV1 {a b:Nat} {l:List Lv} (a1:1<=a) (b1:1<=b) (am:a<=65536) (bm:b<=65536) (ab:a * b<=65536) (h:l.map (λ v=> (v.w,v.h))=lvs 17 a b):Geo a b l:=by
 have hl:l.length=(lvs 17 a b).length:=by rw [←h,List.length_map]
 refine ⟨a1,b1,ab,am,bm, ?_, ?_,λ i v hv=> ?_⟩
 . rw [hl,lvs];simp
 . rw [hl];exact AYr _ _ _
 . have:(lvs 17 a b)[i]? =some (v.w,v.h):=by rw [←h,List.getElem?_map,hv];rfl
   have:=AYs _ _ _ _ _ a1 b1 this
   exact ⟨congrArg Prod.fst this,congrArg Prod.snd this⟩
theorem AUw (a i:Nat):wl a i<=a - 1+1:=by unfold wl;have:=Nat.div_le_self (a - 1) (2 ^ i);omega
theorem AQ6 (a i:Nat):1<=wl a i:=Nat.le_add_left 1 _
def ix (a x y i:Nat):Nat:=y / 2 ^ i * wl a i+x / 2 ^ i
theorem AOS {a b x y:Nat} (hx:x < a) (hy:y < b) (i:Nat):ix a x y i < wl a i * wl b i:=by
 have h1:x / 2 ^ i < wl a i:=by unfold wl;have:x / 2 ^ i<=(a - 1) / 2 ^ i:=Nat.div_le_div_right (by omega);omega
 have h2:y / 2 ^ i+1<=wl b i:=by unfold wl;have:y / 2 ^ i<=(b - 1) / 2 ^ i:=Nat.div_le_div_right (by omega);omega
 have:=Nat.mul_le_mul_right (wl a i) h2
 unfold ix
 rw [Nat.add_mul] at this
 rw [Nat.mul_comm (wl a i)];omega
theorem Geo.wh {a b:Nat} {l:List Lv} (G:Geo a b l) (i:Nat):wl a i * wl b i<=65536:=by
 have h1:=AUw a i
 have h2:=AUw b i
 have:=G.a1;have:=G.b1
 exact Nat.le_trans (Nat.mul_le_mul (by omega:wl a i<=a) (by omega:wl b i<=b)) G.ab
theorem fm3 {α:Type} (f:α->List Value) (hf:∀x,(f x).length=3):∀(l:List α) (i:Nat) (x:α),l[i]? =some x->∀j,j < 3->(l.flatMap f)[i * 3+j]? =(f x)[j]? :=by
 intro l
 induction l with
 |nil=> intro i x h;simp at h
 |cons y l ih=>
  intro i x h j hj
  rw [List.flatMap_cons]
  cases i with
  |zero=> simp at h;subst h;rw [List.getElem?_append_left (by rw [hf];omega)];simp
  |succ i=>
   rw [List.getElem?_append_right (by rw [hf];omega),hf,show (i+1) * 3+j - 3=i * 3+j from by omega]
   exact ih i x (by simpa using h) j hj
theorem AQX {n i:Nat} (f:Nat->Nd) (hi:i < n) {j:Nat} (hj:j < 3):(nds n f)[i * 3+j]? =(nd (f i))[j]? :=
 fm3 (λ i=> nd (f i)) (λ _=> rfl) (List.range n) i i (by simp [hi]) j hj
def upd (f:Nat->Nd) (i:Nat) (x:Nd):Nat->Nd:=λ j=> if j=i then x else f j
theorem ANZ (f:Nat->Nd) (i:Nat) (x:Nd):upd f i x i=x:=by unfold upd;rw [if_pos rfl]
theorem AOL (f:Nat->Nd) {i j:Nat} (x:Nd) (h:j≠i):upd f i x j=f j:=by unfold upd;rw [if_neg h]
theorem ARY (n:Nat) (f:Nat->Nd) (m:Nat):(nds n f)[m]? =if m < n * 3 then (nd (f (m / 3)))[m % 3]? else none:=by
 split
 . rename_i h
   have:=AQX (n:=n) (i:=m / 3) f (by omega) (j:=m % 3) (by omega)
   rwa [show m / 3 * 3+m % 3=m from by omega] at this
 . rename_i h
   exact List.getElem?_eq_none (by rw [AMK];omega)
theorem ANH {n i:Nat} (f:Nat->Nd) (hi:i < n) (x:Nd):splice (nds n f) (i * 3) (nd x)=nds n (upd f i x):=by
 have hl:=AMK n f
 apply List.ext_getElem?
 intro m
 rw [ARY]
 unfold splice
 have h3:(nd x).length=3:=rfl
 have ht:((nds n f).take (i * 3)).length=i * 3:=by rw [List.length_take,hl];omega
 by_cases h1:m < i * 3
 . rw [List.append_assoc,List.getElem?_append_left (by omega),List.getElem?_take,if_pos h1,ARY,AOL _ _ (by omega)]
 . by_cases h2:m < i * 3+3
   . rw [List.getElem?_append_left (by rw [List.length_append,ht,h3];omega),List.getElem?_append_right (by omega),ht,if_pos (by omega),show m / 3=i from by omega,ANZ,show m - i * 3=m % 3 from by omega]
   . rw [List.getElem?_append_right (by rw [List.length_append,ht,h3];omega),List.length_append,ht,h3,List.getElem?_drop,show i * 3+3+(m - (i * 3+3))=m from by omega,ARY,AOL _ _ (by omega)]
theorem Ab7 {a b x y i:Nat} {H:Heap} {p bq:Nat} {l:List Lv} {c:Nat} {z:List Value} {v:Lv} (G:Geo a b l) (hp:Sees H p (.slice (some ⟨bq,0,none⟩) l.length c::z)) (hq:Sees H bq (lcs l)) (hv:l[i]? =some v) (hx:x < a) (hy:y < b):
 ∀(R:Type) (K:Oa->Option R),AAg (some ⟨p,0,none⟩) (i:Int) (x:Int) (y:Int) H K=K (some ⟨v.b,ix a x y i * 3,none⟩):=by
 intro R K
 have hi:i < l.length:=(List.getElem?_eq_some_iff.1 hv).1
 have hlen:=G.len
 obtain ⟨e1,e2⟩:=G.lv i v hv
 have hxm:=G.am
 have hym:=G.bm
 have hlt:=AOS hx hy i
 have hwh:=G.wh i
 have m0:hcell H p 0=some (.slice (some ⟨bq,0,none⟩) l.length c):=hp.cell 0
 have mq:∀j,j < 3->hcell H bq (i * 3+j)=(lvc v)[j]? :=λ j hj=> by rw [hq.cell];exact fm3 lvc (λ _=> rfl) l i v hv j hj
 have mq2:hcell H bq (i * 3+2)=some (.slice (some ⟨v.b,0,none⟩) (v.w * v.h) v.c):=mq 2 (by omega)
 have mq0:hcell H bq (i * 3+0)=some (.int .i64 (v.w:Int)):=mq 0 (by omega)
 have hid:hidx (R:=R) (some ⟨bq,0,none⟩) l.length (i:Int) 3=λ K=> K (some ⟨bq,i * 3,none⟩):=by
  funext K;unfold hidx;simp only;rw [if_pos ⟨by omega,by omega⟩,Int.toNat_natCast,Nat.zero_add]
 have s1:∀(K:Int->Option R),hbin .shr .i64 (y:Int) (IntKind.wrap .u64 (i:Int)) K=K ((y / 2 ^ i:Nat):Int):=λ K=> shr64 (by omega) K
 have s2:∀(K:Int->Option R),hbin .shr .i64 (x:Int) (IntKind.wrap .u64 (i:Int)) K=K ((x / 2 ^ i:Nat):Int):=λ K=> shr64 (by omega) K
 have hmul:y / 2 ^ i * wl a i<=ix a x y i:=Nat.le_add_right _ _
 have w1:IntKind.wrap .i64 (IntKind.wrap .i64 (((y / 2 ^ i:Nat):Int) * (v.w:Int))+((x / 2 ^ i:Nat):Int))=((ix a x y i:Nat):Int):=by
  have hix:ix a x y i=y / 2 ^ i * wl a i+x / 2 ^ i:=rfl
  rw [e1,←Int.natCast_mul]
  generalize y / 2 ^ i * wl a i=Y at hix hmul ⊢
  generalize x / 2 ^ i=X at hix ⊢
  rw [w64 (n:=(Y:Int)) (by omega) (by omega),w64 (by omega) (by omega)]
  omega
 have hid2:∀(K:Oa->Option R),hidx (some ⟨v.b,0,none⟩) (v.w * v.h) ((ix a x y i:Nat):Int) 3 K=K (some ⟨v.b,ix a x y i * 3,none⟩):=by
  intro K;unfold hidx;simp only;rw [if_pos ⟨by omega,by rw [e1,e2];omega⟩,Int.toNat_natCast,Nat.zero_add]
 unfold AAg AJV
 refine AAC (AAA (go_l m0 ?_))
 rw [hid]
 refine AAC (AAA (go_l mq2 ?_))
 rw [s1]
 refine AAC (AAA (go_i mq0 ?_))
 rw [s2,w1,hid2]
theorem Tn.row {N:Nat} {H:Heap} {p:Nat} {q:Oa} {c:Nat} {l:List Lv} {e d:Bool} {g:Nat->Nat->Nd} (T:Tn N H p q c l e d g) (hl:1<=l.length):∃bq,q=some ⟨bq,0,none⟩/\Owns H bq (lcs l) 3/\N<=bq:=by
 rcases T.b with ⟨_,h2,_⟩|⟨b,h1,_,h3,h4,_⟩
 . omega
 . exact ⟨b,h1,h4,h3⟩
theorem Tn.at {N:Nat} {H:Heap} {p:Nat} {q:Oa} {c:Nat} {l:List Lv} {e d:Bool} {g:Nat->Nat->Nd} (T:Tn N H p q c l e d g) {a b x y i:Nat} (G:Geo a b l) {v:Lv} (hv:l[i]? =some v) (hx:x < a) (hy:y < b):
 ∀(R:Type) (K:Oa->Option R),AAg (some ⟨p,0,none⟩) (i:Int) (x:Int) (y:Int) H K=K (some ⟨v.b,ix a x y i * 3,none⟩):=by
 obtain ⟨bq,rfl,h1,_⟩:=T.row G.pos
 exact Ab7 G T.o.sees h1.sees hv hx hy
theorem Tn.cell {N:Nat} {H:Heap} {p:Nat} {q:Oa} {c:Nat} {l:List Lv} {e d:Bool} {g:Nat->Nat->Nd} (T:Tn N H p q c l e d g) {a b:Nat} (G:Geo a b l) {v:Lv} {i:Nat} (hv:l[i]? =some v) {j:Nat} (hj:j < wl a i * wl b i) {o:Nat} (ho:o < 3):hcell H v.b (j * 3+o)=(nd (g i j))[o]? :=by
 obtain ⟨h1,_⟩:=T.n i v hv
 obtain ⟨e1,e2⟩:=G.lv i v hv
 rw [h1.sees.cell]
 exact AQX _ (by rw [e1,e2];exact hj) ho
theorem Tn.stp {N:Nat} {H H':Heap} {p:Nat} {q:Oa} {c:Nat} {l:List Lv} {e d:Bool} {g:Nat->Nat->Nd} (T:Tn N H p q c l e d g) {p2:Nat} {q2 q2':Oa} (s:Stp p2 q2 H q2' H') (h1:p2 < N) (h2:∀a,q2=some a->a.block < N):Tn N H' p q c l e d g:=by
 refine ⟨Owns.stp s T.o (by have:=T.low;omega) (λ a ha=> by have:=h2 a ha;have:=T.low;omega),Bld.stp s T.b (λ a ha=> ?_) (λ a b ha hb=> ?_),T.low,T.ap,λ i v hv=> ?_,T.d⟩
 . have:=T.b
   rcases this with ⟨rfl,_⟩|⟨b,rfl,_,h3,_⟩
   . cases ha
   . cases ha;simp only;omega
 . have:=h2 a ha
   rcases T.b with ⟨rfl,_⟩|⟨b2,rfl,_,h3,_⟩
   . cases hb
   . cases hb;simp only;omega
 . obtain ⟨g1,g2,g3,g4⟩:=T.n i v hv
   exact ⟨Owns.stp s g1 (by omega) (λ a ha=> by have:=h2 a ha;omega),g2,g3,g4⟩
theorem Tn.old {N M:Nat} {H H':Heap} {p:Nat} {q:Oa} {c:Nat} {l:List Lv} {e d:Bool} {g:Nat->Nat->Nd} (T:Tn N H p q c l e d g) (s:Old M H H') (hM:H.length<=M):Tn N H' p q c l e d g:=by
 refine ⟨Owns.old T.o (s.mono hM) T.o.lt,Bld.old T.b s hM,T.low,T.ap,λ i v hv=> ?_,T.d⟩
 obtain ⟨g1,g2,g3,g4⟩:=T.n i v hv
 exact ⟨Owns.old g1 (s.mono hM) g1.lt,g2,g3,g4⟩
end Go.Proofs.Ytmanlfonppfhaaa.Sh
