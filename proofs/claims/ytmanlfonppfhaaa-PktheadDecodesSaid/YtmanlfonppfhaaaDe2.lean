/- QsDecodes, part 2. -/
import Derived.Test.YtmanlfonppfhaaaDe1
set_option linter.unusedVariables false
set_option linter.unusedSimpArgs false
set_option maxRecDepth 100000
namespace Go.Proofs.Ytmanlfonppfhaaa.Sh
open Go.Proofs.Ytmanlfonppfhaaa.FW
abbrev ALD (R:Type):Type:=Heap->(Oa->Option R)->(Oa->Option R)->Option R
abbrev AGP (R:Type):Type:=Oa->ALD R
abbrev AMc (R:Type):Type:=Heap->(Oa->Heap->Option R)->Option R
abbrev AIK (R:Type):Type:=Oa->AMc R
section
variable {R:Type} (z0:AGP R)
def AIT (k:Nat):AGP R:=λ p1 H KN KR=>
bif p1.isNone then (KR none)
 else (hnil p1 λ p2=>
hfad 0 p2 λ p3=>
ldB H p3 λ t4=>
bif (!t4) then (KR none)
 else (KN p1))
def AEM (k:Nat):AGP R:=AIT k
def AKU (k:Nat):AIK R:=λ p1 H K=>
z0 p1 H (λ p4=>
hnil p4 λ p5=>
ldB H (pad p5 0) λ t6=>
ldI .i64 H (pad p5 1) λ n7=>
ldI .i64 H (pad p5 2) λ n8=>
ldL H (pad p5 3) λ q9 l10 c11=>
ldB H (pad p5 4) λ t12=>
ldB H (pad p5 5) λ t13=>
hal H [.bool false,.int .i64 0,.int .i64 0,.slice none 0 0,.bool false,.bool false] λ p14 H15=>
hst H15 p14 [.bool t6,.int .i64 n7,.int .i64 n8,.slice q9 l10 c11,.bool t12,.bool t13] λ H16=>
hal H16 [] λ p17 H18=>
hnil p4 λ p19=>
hfad 3 p19 λ p20=>
ldL H18 p20 λ q21 l22 c23=>
happS 3 24 H18 p17 0 0 q21 l22 λ q24 l25 c26 H27=>
hfad 3 p14 λ p28=>
hst1 H27 p28 (.slice q24 l25 c26) λ H29=>
K p14 H29) (λ p30=>
K p30 H)
def AH2 (k:Nat):AIK R:=AKU (AEM k) k
def x49C:Tab R:=λ _ _ _ _=> none
def APN:PS:=⟨(.seq (.reg [0,12] []) (.cond (.seq (.reg [2] []) .leaf) .leaf)),[0],[.p],⟨[0],[],[2]⟩⟩
def AZ2 (g:ALD R) (H:Heap) (K:XK R):Option R:=g H (kN .normal [0] [.p] K H) (kN .ret [2] [.p] K H)
def AW9 (f:AGP R):Nat->List Value->Heap->XK R->Option R:=jp APN AZ2 f
def x49J (k:Nat):JTab R:=tcons 0 (AW9 z0 k) <|λ _ _ _ _=> none
def x49t:AT:=(.seq (.reg [0] []) (.seq (.opq 0 APN.ls APN.out APN.t) (.seq (.reg [0,3] []) (.seq (.reg [3] []) (.seq (.reg [2] []) .leaf)))))
def x49c (g:AMc R) (H:Heap) (K:Value->Heap->Option R):Option R:=g H (rH [.p] K)
def x49a (f:AIK R):List Value->Heap->(Value->Heap->Option R)->Option R:=jf 1 [.p] x49c f
variable {z0}
theorem AeB (k:Nat) (H:Heap) (K:XK R):jE Try.prog An 23 (x49C) (x49J z0 k) APN (sel [1,0] (bd Try.f49)) H K=mapT (λ g=> AZ2 g H K) APN.ts (AIT k):=by kernel_rfl
theorem x49e (k:Nat) (H:Heap) (K:Value->Heap->Option R):fE Try.prog An (x49C) (x49J z0 k) x49t Try.f49 [.p] H K=mapT (λ g=> x49c g H K) [.p] (AKU z0 k):=by kernel_rfl
theorem x49S (R:Type) (k:Nat):CSound Try.prog (x49C (R:=R)):=AAE
theorem AeA (R:Type) (k:Nat):JS Try.prog 23 (AW9 (AEM (R:=R) k) k) APN.ls APN.out (sel [1,0] (bd Try.f49)):=pj (x49S R k) (x49J (AEM k) k) (by kernel_rfl) (A:=True) trivial (by kernel_rfl) (λ _ _=> .trans (AeB _ _ _) (by kernel_rfl))
theorem AeC (R:Type) (k:Nat):∀args H K r,x49a (AH2 k) args H K=some (r:R)->∃v H',Tri Try.prog 49 args H v H'/\K v H'=some r:=fj (x49S R k) (x49J (AEM k) k) Try.func49 (by kernel_rfl) (A:=JS Try.prog 23 (AW9 (AEM (R:=R) k) k) APN.ls APN.out (sel [1,0] (bd Try.f49))/\True) ⟨AeA R k,trivial⟩ (by kernel_rfl) (λ _ _=> .trans (x49e _ _ _) (by kernel_rfl))
end
abbrev AHp (R:Type):Type:=Oa->Oa->Int->Heap->Option R
abbrev AHq (R T:Type):Type:=(Oa->Oa->Heap->Option R)->T
abbrev AFg (R:Type):Type:=AHq R (Nat->AHp R)
abbrev AMC (R:Type):Type:=Heap->(Oa->Heap->Option R)->Option R
abbrev AHX (R:Type):Type:=Oa->AMC R
section
variable {R:Type} (f0:AEo R) (f1:AIK R) (z0:AFg R)
def AFh (k:Nat):AHq R (AHp R->AHp R):=λ KE0 rec p1 p2 n3 H=>
hnil p1 λ p4=>
hfad 7 p4 λ p5=>
ldL H p5 λ q6 l7 c8=>
bif decide (n3 < ((l7:Nat):Int)) then (hfad 7 p2 λ p9=>
ldL H p9 λ q10 l11 c12=>
hnil p1 λ p13=>
hfad 7 p13 λ p14=>
ldL H p14 λ q15 l16 c17=>
hidx q15 l16 n3 1 λ p18=>
ldP H p18 λ p19=>
f1 p19 (roH H) λ p20 H21=>
hal (H++H21.drop H.length) [.pointer p20] λ p22 H23=>
happS 1 8 H23 q10 l11 c12 p22 1 λ q24 l25 c26 H27=>
hfad 7 p2 λ p28=>
hst1 H27 p28 (.slice q24 l25 c26) λ H29=>
hfad 8 p2 λ p30=>
ldL H29 p30 λ q31 l32 c33=>
hnil p1 λ p34=>
hfad 8 p34 λ p35=>
ldL H29 p35 λ q36 l37 c38=>
hidx q36 l37 n3 1 λ p39=>
ldP H29 p39 λ p40=>
f1 p40 (roH H29) λ p41 H42=>
hal (H29++H42.drop H29.length) [.pointer p41] λ p43 H44=>
happS 1 8 H44 q31 l32 c33 p43 1 λ q45 l46 c47 H48=>
hfad 8 p2 λ p49=>
hst1 H48 p49 (.slice q45 l46 c47) λ H50=>
rec p1 p2 (IntKind.wrap .i64 (n3+1)) H50)
 else (KE0 p1 p2 H)
def AB4 (k:Nat):AFg R
 |KE0,0=> λ _ _ _ _=> none
 |KE0,n+1=> AFh (AH2 k) k KE0 (AB4 k KE0 n)
def AJa (k:Nat):AHX R:=λ p1 H K=>
f0 p1 H λ t2=>
bif (!t2) then (K none H)
 else (hnil p1 λ p3=>
ldB H (pad p3 0) λ t4=>
ldL H (pad p3 1) λ q5 l6 c7=>
ldB H (pad p3 2) λ t8=>
ldB H (pad p3 3) λ t9=>
ldB H (pad p3 4) λ t10=>
ldB H (pad p3 5) λ t11=>
ldB H (pad p3 6) λ t12=>
ldL H (pad p3 7) λ q13 l14 c15=>
ldL H (pad p3 8) λ q16 l17 c18=>
ldL H (pad p3 9) λ q19 l20 c21=>
ldI .i64 H (pad p3 10) λ n22=>
ldB H (pad p3 11) λ t23=>
ldB H (pad p3 12) λ t24=>
ldL H (pad p3 13) λ q25 l26 c27=>
ldL H (pad p3 14) λ q28 l29 c30=>
hal H [.bool false,.slice none 0 0,.bool false,.bool false,.bool false,.bool false,.bool false,.slice none 0 0,.slice none 0 0,.slice none 0 0,.int .i64 0,.bool false,.bool false,.slice none 0 0,.slice none 0 0] λ p31 H32=>
hst H32 p31 [.bool t4,.slice q5 l6 c7,.bool t8,.bool t9,.bool t10,.bool t11,.bool t12,.slice q13 l14 c15,.slice q16 l17 c18,.slice q19 l20 c21,.int .i64 n22,.bool t23,.bool t24,.slice q25 l26 c27,.slice q28 l29 c30] λ H33=>
hfad 7 p31 λ p34=>
hst1 H33 p34 (.slice none 0 0) λ H35=>
hfad 8 p31 λ p36=>
hst1 H35 p36 (.slice none 0 0) λ H37=>
z0 (λ p40 p41 H42=>
hal H42 [] λ p43 H44=>
hnil p40 λ p45=>
hfad 9 p45 λ p46=>
ldL H44 p46 λ q47 l48 c49=>
happS 8 64 H44 p43 0 0 q47 l48 λ q50 l51 c52 H53=>
hfad 9 p41 λ p54=>
hst1 H53 p54 (.slice q50 l51 c52) λ H55=>
K p41 H55) k p1 p31 0 H37)
def AHH (k:Nat):AHX R:=AJa ACh (AB4 k) k
def x33C:Tab R:=tcons 30 (x30a f0) <|tcons 49 (x49a f1) <|λ _ _ _ _=> none
def APj:PS:=⟨(.seq (.seq (.reg [0,3,4,19] []) (.cond .leaf .leaf)) (.seq (.node (.seq (.reg [0,3,4] (ms [0,1,0,4,12,28,0,124,252,508,1020,2047,4095,8191])) (.reg [0,3,4] (ms [0,1,0,4,12,28,0,124,252,508,1020,2047,4095,8191])))) (.reg [0,3,4] []))),[0,3,4],[.p,.p,.n],⟨[],[(0,[0,3])],[]⟩⟩
def AXW {T:Type} (g:AHq R T) (H:Heap) (K:XK R):T:=g (kH (.exit 0) [0,3] [.p,.p] K)
def AUd (f:AFg R):Nat->List Value->Heap->XK R->Option R:=jl APj (L:=AFg R) AXW pH f
def x33J (k:Nat):JTab R:=tcons 0 (AUd z0 k) <|λ _ _ _ _=> none
def x33t:AT:=(.seq (.reg [0] []) (.seq (.seq (.reg [0,7] []) (.cond (.seq (.reg [2] []) .leaf) .leaf)) (.seq (.reg [0,3] []) (.seq (.reg [0,3] []) (.seq (.reg [0,3] []) (.seq (.seq (.reg [0,3,4] []) (.node (.opq 0 APj.ls APj.out (.node APj.t)))) (.seq (.reg [3] []) (.seq (.reg [2] []) .leaf))))))))
def x33c (g:AMC R) (H:Heap) (K:Value->Heap->Option R):Option R:=g H (rH [.p] K)
def x33a (f:AHX R):List Value->Heap->(Value->Heap->Option R)->Option R:=jf 1 [.p] x33c f
variable {f0 f1 z0}
theorem Ae2 (k n:Nat) (H:Heap) (K:XK R):lE Try.prog An 55 (x33C f0 f1) (x33J z0 k) APj (sel [1,1,1,1,1,0,1,0,0] (bd Try.f33)) (AUd z0) n H K=mapT (λ g=> pH g H) APj.ts (AXW (AFh f1 k) H K (AXW z0 H K n)):=by kernel_rfl
theorem x33e (k:Nat) (H:Heap) (K:Value->Heap->Option R):fE Try.prog An (x33C f0 f1) (x33J z0 k) x33t Try.f33 [.p] H K=mapT (λ g=> x33c g H K) [.p] (AJa f0 z0 k):=by kernel_rfl
theorem x33S (R:Type) (k:Nat):CSound Try.prog (x33C (R:=R) ACh (AH2 k)):=AAB (AXa R k) <|AAB (AeC R k) <|AAE
theorem Ae1 (R:Type) (k:Nat):JS Try.prog 55 (AUd (AB4 (R:=R) k) k) APj.ls APj.out (.loop (sel [1,1,1,1,1,0,1,0,0] (bd Try.f33))):=lj (x33S R k) (x33J (AB4 k) k) (by kernel_rfl) (A:=True) trivial (by kernel_rfl) (λ _ _=> by kernel_rfl) (λ _ _ _=> .trans (Ae2 _ _ _ _) (by kernel_rfl)) k
theorem Ae3 (R:Type) (k:Nat):∀args H K r,x33a (AHH k) args H K=some (r:R)->∃v H',Tri Try.prog 33 args H v H'/\K v H'=some r:=fj (x33S R k) (x33J (AB4 k) k) Try.func33 (by kernel_rfl) (A:=JS Try.prog 55 (AUd (AB4 (R:=R) k) k) APj.ls APj.out (.loop (sel [1,1,1,1,1,0,1,0,0] (bd Try.f33)))/\True) ⟨Ae1 R k,trivial⟩ (by kernel_rfl) (λ _ _=> .trans (x33e _ _ _) (by kernel_rfl))
end
abbrev AM9 (R:Type):Type:=Heap->(Oa->Heap->Option R)->Option R
abbrev AJL (R:Type):Type:=Oa->Nat->Nat->AM9 R
section
variable {R:Type}
def AJM (k:Nat):AJL R:=λ q1 l2 c3 H K=>
hal H [] λ p4 H5=>
happS 1 1 H5 p4 0 0 q1 l2 λ q6 l7 c8 H9=>
hal H9 [.bool true,.slice q6 l7 c8,.int .i64 0,.int .i64 0] λ p10 H11=>
K p10 H11
def AGV:AJL R:=AJM 0
def x50C:Tab R:=λ _ _ _ _=> none
def x50J (k:Nat):JTab R:=λ _ _ _ _=> none
def x50t:AT:=(.seq (.reg [0] []) (.seq (.reg [2] []) .leaf))
def x50c (g:AM9 R) (H:Heap) (K:Value->Heap->Option R):Option R:=g H (rH [.p] K)
def x50a (f:AJL R):List Value->Heap->(Value->Heap->Option R)->Option R:=jf 1 [.l] x50c f
theorem x50e (k:Nat) (H:Heap) (K:Value->Heap->Option R):fE Try.prog An (x50C) (x50J k) x50t Try.f50 [.l] H K=mapT (λ g=> x50c g H K) [.l] (AJM k):=by kernel_rfl
theorem x50S (R:Type) (k:Nat):CSound Try.prog (x50C (R:=R)):=AAE
theorem Ad9 (R:Type) (k:Nat):∀args H K r,x50a (AGV) args H K=some (r:R)->∃v H',Tri Try.prog 50 args H v H'/\K v H'=some r:=fj (x50S R k) (x50J 0) Try.func50 (by kernel_rfl) (A:=True) trivial (by kernel_rfl) (λ _ _=> .trans (x50e _ _ _) (by kernel_rfl))
end
abbrev ALH (R:Type):Type:=Heap->(Oa->Option R)->(Int->Int->Option R)->Option R
abbrev AGU (R:Type):Type:=Oa->ALH R
abbrev ALE (R:Type):Type:=Heap->(Oa->Int->Bool->Option R)->Option R
abbrev AGQ (R:Type):Type:=Oa->Int->ALE R
abbrev ALF (R:Type):Type:=Heap->(Oa->Int->Option R)->(Int->Int->Option R)->Option R
abbrev AGS (R:Type):Type:=Oa->Int->ALF R
abbrev ALG (R:Type):Type:=Heap->(Oa->Heap->Option R)->(Int->Int->Heap->Option R)->Option R
abbrev AGT (R:Type):Type:=Oa->ALG R
abbrev AMd (R:Type):Type:=Heap->(Int->Int->Heap->Option R)->Option R
abbrev ACY (R:Type):Type:=Oa->AMd R
section
variable {R:Type} (z0:AGU R) (z1:AGT R) (z2:AGS R) (z3:AGQ R)
def ADJ (k:Nat):AGU R:=λ p1 H KN KR=>
bif p1.isNone then (KR 0 6)
 else (hnil p1 λ p2=>
hfad 0 p2 λ p3=>
ldB H p3 λ t4=>
bif (!t4) then (KR 0 6)
 else (KN p1))
def ABA (k:Nat):AGU R:=ADJ k
def AGR (k:Nat):AGQ R:=λ p1 n2 H KN=>
hnil p1 λ p3=>
hfad 2 p3 λ p4=>
ldI .i64 H p4 λ n5=>
bif decide (n5 > 0) then (hnil p1 λ p6=>
hfad 1 p6 λ p7=>
ldL H p7 λ q8 l9 c10=>
hnil p1 λ p11=>
hfad 2 p11 λ p12=>
ldI .i64 H p12 λ n13=>
hidx q8 l9 (IntKind.wrap .i64 (n13 - 1)) 1 λ p14=>
ldI .u8 H p14 λ n15=>
KN p1 n2 (n15==255))
 else (KN p1 n2 false)
def ABX (k:Nat):AGQ R:=AGR k
def AEW (k:Nat):AGS R:=λ p1 n2 H KN KR=>
z3 p1 n2 H (λ p6 n7 t8=>
bif t8 then (hnil p6 λ p9=>
hfad 1 p9 λ p10=>
ldL H p10 λ q11 l12 c13=>
hnil p6 λ p14=>
hfad 2 p14 λ p15=>
ldI .i64 H p15 λ n16=>
hidx q11 l12 n16 1 λ p17=>
ldI .u8 H p17 λ n18=>
bif decide (n18≥128) then (KR 0 8)
 else (KN p6 7))
 else (KN p6 n7))
def AA8 (k:Nat):AGS R:=AEW (ABX k) k
def ADI (k:Nat):AGT R:=λ p1 H KN KR=>
hnil p1 λ p2=>
hfad 3 p2 λ p3=>
ldI .i64 H p3 λ n4=>
bif (n4==0) then (hnil p1 λ p5=>
hfad 2 p5 λ p6=>
ldI .i64 H p6 λ n7=>
hnil p1 λ p8=>
hfad 1 p8 λ p9=>
ldL H p9 λ q10 l11 c12=>
bif decide (n7≥((l11:Nat):Int)) then (KR 0 7 H)
 else (z2 p1 8 H (λ p17 n18=>
hnil p17 λ p19=>
hfad 2 p19 λ p20=>
ldI .i64 H p20 λ n21=>
hnil p17 λ p22=>
hfad 2 p22 λ p23=>
hst1 H p23 (.int .i64 (IntKind.wrap .i64 (n21+1))) λ H24=>
hnil p17 λ p25=>
hfad 3 p25 λ p26=>
hst1 H24 p26 (.int .i64 n18) λ H27=>
KN p17 H27) (λ n28 n29=>
KR n28 n29 H)))
 else (KN p1 H)
def AA9 (k:Nat):AGT R:=ADI (AA8 k) k
def AEq (k:Nat):ACY R:=λ p1 H K=>
z0 p1 H (λ p5=>
z1 p5 H (λ p9 H10=>
hnil p9 λ p11=>
hfad 3 p11 λ p12=>
ldI .i64 H10 p12 λ n13=>
hnil p9 λ p14=>
hfad 3 p14 λ p15=>
hst1 H10 p15 (.int .i64 (IntKind.wrap .i64 (n13 - 1))) λ H16=>
hnil p9 λ p17=>
hfad 1 p17 λ p18=>
ldL H16 p18 λ q19 l20 c21=>
hnil p9 λ p22=>
hfad 2 p22 λ p23=>
ldI .i64 H16 p23 λ n24=>
hidx q19 l20 (IntKind.wrap .i64 (n24 - 1)) 1 λ p25=>
ldI .u8 H16 p25 λ n26=>
hnil p9 λ p27=>
hfad 3 p27 λ p28=>
ldI .i64 H16 p28 λ n29=>
hbin .shr .i64 (IntKind.wrap .i64 n26) (IntKind.wrap .u64 n29) λ n30=>
hbin .and .i64 n30 1 λ n31=>
K n31 0 H16) (λ n32 n33 H34=>
K n32 n33 H34)) (λ n35 n36=>
K n35 n36 H)
def AAk (k:Nat):ACY R:=AEq (ABA k) (AA9 k) k
def x51C:Tab R:=λ _ _ _ _=> none
def APJ:PS:=⟨(.reg [0,4,47] (ms [0,1,3,7,15,31,63,127,255,511,63,1087,3135,7231,15423,32767,65535,131071,262143])),[0,4],[.p,.n],⟨[0,4,47],[],[]⟩⟩
def AZy (g:ALE R) (H:Heap) (K:XK R):Option R:=g H (kN .normal [0,4,47] [.p,.n,.b] K H)
def AW5 (f:AGQ R):Nat->List Value->Heap->XK R->Option R:=jp APJ AZy f
def APK:PS:=⟨(.seq (.opq 3 APJ.ls APJ.out APJ.t) (.cond (.seq (.seq (.reg [0,58] (ms [0,1,3,7,0,16,48,112,255,511,1023])) (.cond (.seq (.reg [2,3] []) .leaf) .leaf)) (.reg [0,4] [])) .leaf)),[0,4],[.p,.n],⟨[0,4],[],[2,3]⟩⟩
def AZz (g:ALF R) (H:Heap) (K:XK R):Option R:=g H (kN .normal [0,4] [.p,.n] K H) (kN .ret [2,3] [.n,.n] K H)
def AW6 (f:AGS R):Nat->List Value->Heap->XK R->Option R:=jp APK AZz f
def APL:PS:=⟨(.seq (.reg [0,18] []) (.cond (.seq (.seq (.reg [0,28] (ms [0,1,3,7,0,16,48,112,240,511])) (.cond (.seq (.reg [2,3] []) .leaf) .leaf)) (.seq (.reg [0,4] []) (.seq (.opq 2 APK.ls APK.out APK.t) (.seq (.reg [0,4] []) (.reg [0] []))))) .leaf)),[0],[.p],⟨[0],[],[2,3]⟩⟩
def AZ0 (g:ALG R) (H:Heap) (K:XK R):Option R:=g H (kH .normal [0] [.p] K) (kH .ret [2,3] [.n,.n] K)
def AW7 (f:AGT R):Nat->List Value->Heap->XK R->Option R:=jp APL AZ0 f
def APM:PS:=⟨(.seq (.reg [0,13] []) (.cond (.seq (.reg [2,3] []) .leaf) .leaf)),[0],[.p],⟨[0],[],[2,3]⟩⟩
def AZ1 (g:ALH R) (H:Heap) (K:XK R):Option R:=g H (kN .normal [0] [.p] K H) (kN .ret [2,3] [.n,.n] K H)
def AW8 (f:AGU R):Nat->List Value->Heap->XK R->Option R:=jp APM AZ1 f
def x51J (k:Nat):JTab R:=tcons 0 (AW8 z0 k) <|tcons 1 (AW7 z1 k) <|tcons 2 (AW6 z2 k) <|tcons 3 (AW5 z3 k) <|λ _ _ _ _=> none
def x51t:AT:=(.seq (.reg [0] []) (.seq (.opq 0 APM.ls APM.out APM.t) (.seq (.opq 1 APL.ls APL.out APL.t) (.seq (.reg [0] []) (.seq (.reg [2,3] (ms [0,1,3,7,0,16,48,112,240,511,1023,2047,0,4096,12288,28672,61440,131071,262143,524287,1048575])) .leaf)))))
def x51c (g:AMd R) (H:Heap) (K:Value->Heap->Option R):Option R:=g H (rH [.n,.n] K)
def x51a (f:ACY R):List Value->Heap->(Value->Heap->Option R)->Option R:=jf 1 [.p] x51c f
variable {z0 z1 z2 z3}
theorem Ad5 (k:Nat) (H:Heap) (K:XK R):jE Try.prog An 96 (x51C) (x51J z0 z1 z2 z3 k) APJ (sel [1,1,0,1,0,1,1,0,0] (bd Try.f51)) H K=mapT (λ g=> AZy g H K) APJ.ts (AGR k):=by kernel_rfl
theorem Ad6 (k:Nat) (H:Heap) (K:XK R):jE Try.prog An 96 (x51C) (x51J z0 z1 z2 z3 k) APK (sel [1,1,0,1,0,1,1,0] (bd Try.f51)) H K=mapT (λ g=> AZz g H K) APK.ts (AEW z3 k):=by kernel_rfl
theorem Ad7 (k:Nat) (H:Heap) (K:XK R):jE Try.prog An 96 (x51C) (x51J z0 z1 z2 z3 k) APL (sel [1,1,0] (bd Try.f51)) H K=mapT (λ g=> AZ0 g H K) APL.ts (ADI z2 k):=by kernel_rfl
theorem Ad8 (k:Nat) (H:Heap) (K:XK R):jE Try.prog An 96 (x51C) (x51J z0 z1 z2 z3 k) APM (sel [1,0] (bd Try.f51)) H K=mapT (λ g=> AZ1 g H K) APM.ts (ADJ k):=by kernel_rfl
theorem x51e (k:Nat) (H:Heap) (K:Value->Heap->Option R):fE Try.prog An (x51C) (x51J z0 z1 z2 z3 k) x51t Try.f51 [.p] H K=mapT (λ g=> x51c g H K) [.p] (AEq z0 z1 k):=by kernel_rfl
theorem x51S (R:Type) (k:Nat):CSound Try.prog (x51C (R:=R)):=AAE
theorem Ad1 (R:Type) (k:Nat):JS Try.prog 96 (AW5 (ABX (R:=R) k) k) APJ.ls APJ.out (sel [1,1,0,1,0,1,1,0,0] (bd Try.f51)):=pj (x51S R k) (x51J (ABA k) (AA9 k) (AA8 k) (ABX k) k) (by kernel_rfl) (A:=True) trivial (by kernel_rfl) (λ _ _=> .trans (Ad5 _ _ _) (by kernel_rfl))
theorem Ad2 (R:Type) (k:Nat):JS Try.prog 96 (AW6 (AA8 (R:=R) k) k) APK.ls APK.out (sel [1,1,0,1,0,1,1,0] (bd Try.f51)):=pj (x51S R k) (x51J (ABA k) (AA9 k) (AA8 k) (ABX k) k) (by kernel_rfl) (A:=JS Try.prog 96 (AW5 (ABX (R:=R) k) k) APJ.ls APJ.out (sel [1,1,0,1,0,1,1,0,0] (bd Try.f51))/\True) ⟨Ad1 R k,trivial⟩ (by kernel_rfl) (λ _ _=> .trans (Ad6 _ _ _) (by kernel_rfl))
theorem Ad3 (R:Type) (k:Nat):JS Try.prog 96 (AW7 (AA9 (R:=R) k) k) APL.ls APL.out (sel [1,1,0] (bd Try.f51)):=pj (x51S R k) (x51J (ABA k) (AA9 k) (AA8 k) (ABX k) k) (by kernel_rfl) (A:=JS Try.prog 96 (AW6 (AA8 (R:=R) k) k) APK.ls APK.out (sel [1,1,0,1,0,1,1,0] (bd Try.f51))/\True) ⟨Ad2 R k,trivial⟩ (by kernel_rfl) (λ _ _=> .trans (Ad7 _ _ _) (by kernel_rfl))
theorem Ad4 (R:Type) (k:Nat):JS Try.prog 96 (AW8 (ABA (R:=R) k) k) APM.ls APM.out (sel [1,0] (bd Try.f51)):=pj (x51S R k) (x51J (ABA k) (AA9 k) (AA8 k) (ABX k) k) (by kernel_rfl) (A:=True) trivial (by kernel_rfl) (λ _ _=> .trans (Ad8 _ _ _) (by kernel_rfl))
theorem ASJ (R:Type) (k:Nat):∀args H K r,x51a (AAk k) args H K=some (r:R)->∃v H',Tri Try.prog 51 args H v H'/\K v H'=some r:=fj (x51S R k) (x51J (ABA k) (AA9 k) (AA8 k) (ABX k) k) Try.func51 (by kernel_rfl) (A:=JS Try.prog 96 (AW8 (ABA (R:=R) k) k) APM.ls APM.out (sel [1,0] (bd Try.f51))/\JS Try.prog 96 (AW7 (AA9 (R:=R) k) k) APL.ls APL.out (sel [1,1,0] (bd Try.f51))/\True) ⟨Ad4 R k,⟨Ad3 R k,trivial⟩⟩ (by kernel_rfl) (λ _ _=> .trans (x51e _ _ _) (by kernel_rfl))
end
abbrev AMH (R:Type):Type:=Heap->(Heap->Option R)->Option R
abbrev AEN (R:Type):Type:=Oa->Int->Int->AMH R
section
variable {R:Type}
def AJf (k:Nat):AEN R:=λ p1 n2 n3 H K=>
hnil p1 λ p4=>
hfad 2 p4 λ p5=>
hst1 H p5 (.int .i64 n2) λ H6=>
hnil p1 λ p7=>
hfad 3 p7 λ p8=>
hst1 H6 p8 (.int .i64 n3) λ H9=>
K H9
def ACT:AEN R:=AJf 0
def x96C:Tab R:=λ _ _ _ _=> none
def x96J (k:Nat):JTab R:=λ _ _ _ _=> none
def x96t:AT:=(.seq (.reg [0,2] []) (.reg [] []))
def x96c (g:AMH R) (H:Heap) (K:Value->Heap->Option R):Option R:=g H (rH [] K)
def x96a (f:AEN R):List Value->Heap->(Value->Heap->Option R)->Option R:=jf 3 [.p,.n,.n] x96c f
theorem x96e (k:Nat) (H:Heap) (K:Value->Heap->Option R):fE Try.prog An (x96C) (x96J k) x96t Try.f96 [.p,.n,.n] H K=mapT (λ g=> x96c g H K) [.p,.n,.n] (AJf k):=by kernel_rfl
theorem x96S (R:Type) (k:Nat):CSound Try.prog (x96C (R:=R)):=AAE
theorem AWB (R:Type) (k:Nat):∀args H K r,x96a (ACT) args H K=some (r:R)->∃v H',Tri Try.prog 96 args H v H'/\K v H'=some r:=fj (x96S R k) (x96J 0) Try.func96 (by kernel_rfl) (A:=True) trivial (by kernel_rfl) (λ _ _=> .trans (x96e _ _ _) (by kernel_rfl))
end
abbrev AKg (R:Type):Type:=Heap->(Oa->Int->Option R)->(Int->Int->Option R)->Option R
abbrev AFq (R:Type):Type:=Oa->Int->AKg R
abbrev AKf (R:Type):Type:=(Oa->Int->Option R)->(Int->Int->Option R)->Option R
abbrev AFp (R:Type):Type:=Oa->Int->AKf R
abbrev AHw (R:Type):Type:=Oa->Int->Int->Int->Int->Int->Heap->Option R
abbrev AHx (R T:Type):Type:=(Int->Heap->Option R)->(Int->Int->Heap->Option R)->T
abbrev AFr (R:Type):Type:=AHx R (Nat->AHw R)
abbrev AMI (R:Type):Type:=Heap->(Int->Int->Heap->Option R)->Option R
abbrev AEO (R:Type):Type:=Oa->Int->AMI R
section
variable {R:Type} (f0:ACY R) (f1:AEN R) (z0:AFq R) (z1:AFp R) (z2:AFr R)
def ADx (k:Nat):AFq R:=λ p1 n2 H KN KR=>
bif p1.isNone then (KR 0 6)
 else (hnil p1 λ p3=>
hfad 0 p3 λ p4=>
ldB H p4 λ t5=>
bif (!t5) then (KR 0 6)
 else (KN p1 n2))
def ABd (k:Nat):AFq R:=ADx k
def ADw (k:Nat):AFp R:=λ p1 n2 KN KR=>
bif decide (n2 < 0) then (KR 0 1)
 else (bif decide (n2 > 32) then (KR 0 1)
 else (KN p1 n2))
def ABc (k:Nat):AFp R:=ADw k
def ADy (k:Nat):AHx R (AHw R->AHw R):=λ KE0 KR rec p1 n2 n3 n4 n5 n6 H=>
bif decide (n6 < n2) then (f0 p1 H λ n7 n8 H9=>
bif (n8 !=0) then (f1 p1 n3 n4 H9 λ H10=>
KR 0 n8 H10)
 else (rec p1 n2 n3 n4 (IntKind.wrap .i64 ((IntKind.wrap .i64 (2 * n5))+n7)) (IntKind.wrap .i64 (n6+1)) H9))
 else (KE0 n5 H)
def AAv (k:Nat):AFr R
 |KE0,KR,0=> λ _ _ _ _ _ _ _=> none
 |KE0,KR,n+1=> ADy (AAk k) ACT k KE0 KR (AAv k KE0 KR n)
def AFy (k:Nat):AEO R:=λ p1 n2 H K=>
z0 p1 n2 H (λ p7 n8=>
z1 p7 n8 (λ p13 n14=>
hnil p13 λ p15=>
hfad 2 p15 λ p16=>
ldI .i64 H p16 λ n17=>
hnil p13 λ p18=>
hfad 3 p18 λ p19=>
ldI .i64 H p19 λ n20=>
z2 (λ n24 H25=>
K n24 0 H25) (λ n26 n27 H28=>
K n26 n27 H28) k p13 n14 n17 n20 0 0 H) (λ n29 n30=>
K n29 n30 H)) (λ n31 n32=>
K n31 n32 H)
def AB7 (k:Nat):AEO R:=AFy (ABd k) (ABc k) (AAv k) k
def x77C:Tab R:=tcons 51 (x51a f0) <|tcons 96 (x96a f1) <|λ _ _ _ _=> none
def AOx:PS:=⟨(.seq (.seq (.reg [0,1,6,7,8,9,37] []) (.cond .leaf .leaf)) (.seq (.node (.seq (.reg [0,1,6,7,8,9,10,11] []) (.seq (.seq (.reg [0,1,6,7,8,9,10,11,46] []) (.cond (.seq (.reg [11] []) (.seq (.reg [4,5] []) .leaf)) .leaf)) (.reg [0,1,6,7,8,9] [])))) (.reg [0,1,6,7,8,9] []))),[0,1,6,7,8,9],[.p,.n,.n,.n,.n,.n],⟨[],[(0,[8])],[4,5]⟩⟩
def AWg {T:Type} (g:AHx R T) (H:Heap) (K:XK R):T:=g (kH (.exit 0) [8] [.n] K) (kH .ret [4,5] [.n,.n] K)
def AUT (f:AFr R):Nat->List Value->Heap->XK R->Option R:=jl AOx (L:=AFr R) AWg pH f
def AOy:PS:=⟨(.seq (.reg [0,1,26] []) (.cond (.seq (.reg [4,5] []) .leaf) .leaf)),[0,1],[.p,.n],⟨[0,1],[],[4,5]⟩⟩
def AZd (g:AKf R) (H:Heap) (K:XK R):Option R:=g (kN .normal [0,1] [.p,.n] K H) (kN .ret [4,5] [.n,.n] K H)
def AWh (f:AFp R):Nat->List Value->Heap->XK R->Option R:=jp AOy AZd f
def AOz:PS:=⟨(.seq (.reg [0,1,20] []) (.cond (.seq (.reg [4,5] []) .leaf) .leaf)),[0,1],[.p,.n],⟨[0,1],[],[4,5]⟩⟩
def AZe (g:AKg R) (H:Heap) (K:XK R):Option R:=g H (kN .normal [0,1] [.p,.n] K H) (kN .ret [4,5] [.n,.n] K H)
def AWi (f:AFq R):Nat->List Value->Heap->XK R->Option R:=jp AOz AZe f
def x77J (k:Nat):JTab R:=tcons 0 (AWi z0 k) <|tcons 1 (AWh z1 k) <|tcons 2 (AUT z2 k) <|λ _ _ _ _=> none
def x77t:AT:=(.seq (.reg [0,1] []) (.seq (.opq 0 AOz.ls AOz.out AOz.t) (.seq (.opq 1 AOy.ls AOy.out AOy.t) (.seq (.reg [0,1,6,7] (ms [0,1,3,7,0,16,48,112,15,511])) (.seq (.reg [0,1,6,7,8] []) (.seq (.seq (.reg [0,1,6,7,8,9] []) (.node (.opq 2 AOx.ls AOx.out (.node AOx.t)))) (.seq (.reg [4,5] []) .leaf)))))))
def x77c (g:AMI R) (H:Heap) (K:Value->Heap->Option R):Option R:=g H (rH [.n,.n] K)
def x77a (f:AEO R):List Value->Heap->(Value->Heap->Option R)->Option R:=jf 2 [.p,.n] x77c f
variable {f0 f1 z0 z1 z2}
theorem Ac9 (k n:Nat) (H:Heap) (K:XK R):lE Try.prog An 57 (x77C f0 f1) (x77J z0 z1 z2 k) AOx (sel [1,1,1,1,1,0,1,0,0] (bd Try.f77)) (AUT z2) n H K=mapT (λ g=> pH g H) AOx.ts (AWg (ADy f0 f1 k) H K (AWg z2 H K n)):=by kernel_rfl
theorem AdA (k:Nat) (H:Heap) (K:XK R):jE Try.prog An 57 (x77C f0 f1) (x77J z0 z1 z2 k) AOy (sel [1,1,0] (bd Try.f77)) H K=mapT (λ g=> AZd g H K) AOy.ts (ADw k):=by kernel_rfl
theorem AdB (k:Nat) (H:Heap) (K:XK R):jE Try.prog An 57 (x77C f0 f1) (x77J z0 z1 z2 k) AOz (sel [1,0] (bd Try.f77)) H K=mapT (λ g=> AZe g H K) AOz.ts (ADx k):=by kernel_rfl
theorem x77e (k:Nat) (H:Heap) (K:Value->Heap->Option R):fE Try.prog An (x77C f0 f1) (x77J z0 z1 z2 k) x77t Try.f77 [.p,.n] H K=mapT (λ g=> x77c g H K) [.p,.n] (AFy z0 z1 z2 k):=by kernel_rfl
theorem x77S (R:Type) (k:Nat):CSound Try.prog (x77C (R:=R) (AAk k) ACT):=AAB (ASJ R k) <|AAB (AWB R k) <|AAE
theorem Ac6 (R:Type) (k:Nat):JS Try.prog 57 (AUT (AAv (R:=R) k) k) AOx.ls AOx.out (.loop (sel [1,1,1,1,1,0,1,0,0] (bd Try.f77))):=lj (x77S R k) (x77J (ABd k) (ABc k) (AAv k) k) (by kernel_rfl) (A:=True) trivial (by kernel_rfl) (λ _ _=> by kernel_rfl) (λ _ _ _=> .trans (Ac9 _ _ _ _) (by kernel_rfl)) k
theorem Ac7 (R:Type) (k:Nat):JS Try.prog 57 (AWh (ABc (R:=R) k) k) AOy.ls AOy.out (sel [1,1,0] (bd Try.f77)):=pj (x77S R k) (x77J (ABd k) (ABc k) (AAv k) k) (by kernel_rfl) (A:=True) trivial (by kernel_rfl) (λ _ _=> .trans (AdA _ _ _) (by kernel_rfl))
theorem Ac8 (R:Type) (k:Nat):JS Try.prog 57 (AWi (ABd (R:=R) k) k) AOz.ls AOz.out (sel [1,0] (bd Try.f77)):=pj (x77S R k) (x77J (ABd k) (ABc k) (AAv k) k) (by kernel_rfl) (A:=True) trivial (by kernel_rfl) (λ _ _=> .trans (AdB _ _ _) (by kernel_rfl))
theorem AWf (R:Type) (k:Nat):∀args H K r,x77a (AB7 k) args H K=some (r:R)->∃v H',Tri Try.prog 77 args H v H'/\K v H'=some r:=fj (x77S R k) (x77J (ABd k) (ABc k) (AAv k) k) Try.func77 (by kernel_rfl) (A:=JS Try.prog 57 (AWi (ABd (R:=R) k) k) AOz.ls AOz.out (sel [1,0] (bd Try.f77))/\JS Try.prog 57 (AWh (ABc (R:=R) k) k) AOy.ls AOy.out (sel [1,1,0] (bd Try.f77))/\JS Try.prog 57 (AUT (AAv (R:=R) k) k) AOx.ls AOx.out (.loop (sel [1,1,1,1,1,0,1,0,0] (bd Try.f77)))/\True) ⟨Ac8 R k,⟨Ac7 R k,⟨Ac6 R k,trivial⟩⟩⟩ (by kernel_rfl) (λ _ _=> .trans (x77e _ _ _) (by kernel_rfl))
end
abbrev AM5 (R:Type):Type:=Heap->(Bool->Option R)->Option R
abbrev AHK (R:Type):Type:=Oa->Int->Int->AM5 R
section
variable {R:Type}
def ALB (k:Nat):AHK R:=λ p1 n2 n3 H K=>
bif decide (n2≥0) then (hnil p1 λ p4=>
hfad 1 p4 λ p5=>
ldI .i64 H p5 λ n6=>
bif decide (n2 < n6) then (bif decide (n3≥0) then (hnil p1 λ p7=>
hfad 2 p7 λ p8=>
ldI .i64 H p8 λ n9=>
K (decide (n3 < n9)))
 else (K false))
 else (K false))
 else (K false)
def AGN:AHK R:=ALB 0
def x99C:Tab R:=λ _ _ _ _=> none
def x99J (k:Nat):JTab R:=λ _ _ _ _=> none
def x99t:AT:=(.seq (.reg [0,1,2] []) (.seq (.reg [6] []) .leaf))
def x99c (g:AM5 R) (H:Heap) (K:Value->Heap->Option R):Option R:=g H (rN [.b] K H)
def x99a (f:AHK R):List Value->Heap->(Value->Heap->Option R)->Option R:=jf 3 [.p,.n,.n] x99c f
theorem x99e (k:Nat) (H:Heap) (K:Value->Heap->Option R):fE Try.prog An (x99C) (x99J k) x99t Try.f99 [.p,.n,.n] H K=mapT (λ g=> x99c g H K) [.p,.n,.n] (ALB k):=by kernel_rfl
theorem x99S (R:Type) (k:Nat):CSound Try.prog (x99C (R:=R)):=AAE
theorem AZM (R:Type) (k:Nat):∀args H K r,x99a (AGN) args H K=some (r:R)->∃v H',Tri Try.prog 99 args H v H'/\K v H'=some r:=fj (x99S R k) (x99J 0) Try.func99 (by kernel_rfl) (A:=True) trivial (by kernel_rfl) (λ _ _=> .trans (x99e _ _ _) (by kernel_rfl))
end
abbrev AJI (R:Type):Type:=Int->Int->Oa->Nat->Nat->Int->Int->Int->Heap->Option R
abbrev AJJ (R T:Type):Type:=(Oa->Nat->Nat->Heap->Option R)->T
abbrev AG0 (R:Type):Type:=AJJ R (Nat->AJI R)
abbrev AM4 (R:Type):Type:=Heap->(Oa->Nat->Nat->Heap->Option R)->Option R
abbrev AJH (R:Type):Type:=Oa->Int->Int->AM4 R
section
variable {R:Type} (z0:AG0 R)
def AJK (k:Nat):AJJ R (AJI R->AJI R):=λ KR rec n1 n2 q3 l4 c5 n6 n7 n8 H=>
hal H [.int .i64 (IntKind.wrap .i64 ((IntKind.wrap .i64 (n8+(IntKind.wrap .i64 (n2 * n6))))+n1))] λ p9 H10=>
happS 1 8 H10 p9 1 1 q3 l4 λ q11 l12 c13 H14=>
bif ((IntKind.wrap .i64 (n6 * n7))==1) then (KR q11 l12 c13 H14)
 else (rec (IntKind.wrap .i64 (Int.tdiv n1 2)) (IntKind.wrap .i64 (Int.tdiv n2 2)) q11 l12 c13 (IntKind.wrap .i64 (Int.tdiv (IntKind.wrap .i64 (n6+1)) 2)) (IntKind.wrap .i64 (Int.tdiv (IntKind.wrap .i64 (n7+1)) 2)) (IntKind.wrap .i64 (n8+(IntKind.wrap .i64 (n6 * n7)))) H14)
def ACE (k:Nat):AG0 R
 |KR,0=> λ _ _ _ _ _ _ _ _ _=> none
 |KR,n+1=> AJK k KR (ACE k KR n)
def ALA (k:Nat):AJH R:=λ p1 n2 n3 H K=>
hnil p1 λ p4=>
hfad 1 p4 λ p5=>
ldI .i64 H p5 λ n6=>
hnil p1 λ p7=>
hfad 2 p7 λ p8=>
ldI .i64 H p8 λ n9=>
z0 (λ q13 l14 c15 H16=>
K q13 l14 c15 H16) k n2 n3 none 0 0 n6 n9 0 H
def AHd (k:Nat):AJH R:=ALA (ACE k) k
def AYC:Tab R:=λ _ _ _ _=> none
def ANQ:PS:=⟨(.node (.seq (.reg [1,2,7,8,9,10] []) (.seq (.seq (.reg [1,2,7,8,9,10,32] []) (.cond (.seq (.reg [6] []) .leaf) .leaf)) (.seq (.reg [1,2,7,8,9,10] []) (.reg [1,2,7,8,9,10] []))))),[1,2,7,8,9,10],[.n,.n,.l,.n,.n,.n],⟨[],[],[6]⟩⟩
def ASy {T:Type} (g:AJJ R T) (H:Heap) (K:XK R):T:=g (kH .ret [6] [.l] K)
def ARo (f:AG0 R):Nat->List Value->Heap->XK R->Option R:=jl ANQ (L:=AG0 R) ASy pH f
def AUv (k:Nat):JTab R:=tcons 0 (ARo z0 k) <|λ _ _ _ _=> none
def AgZ:AT:=(.seq (.reg [0,1,2] []) (.seq (.reg [0,1,2,7] []) (.seq (.reg [1,2,7,8,9,10] (ms [0,1,3,7,0,16,48,112,15,511,1023])) (.node (.opq 0 ANQ.ls ANQ.out (.node ANQ.t))))))
def Aaj (g:AM4 R) (H:Heap) (K:Value->Heap->Option R):Option R:=g H (rH [.l] K)
def Aak (f:AJH R):List Value->Heap->(Value->Heap->Option R)->Option R:=jf 3 [.p,.n,.n] Aaj f
variable {z0}
theorem Aah (k n:Nat) (H:Heap) (K:XK R):lE Try.prog An 49 (AYC) (AUv z0 k) ANQ (sel [1,1,1,0,0] (bd Try.f100)) (ARo z0) n H K=mapT (λ g=> pH g H) ANQ.ts (ASy (AJK k) H K (ASy z0 H K n)):=by kernel_rfl
theorem Aga (k:Nat) (H:Heap) (K:Value->Heap->Option R):fE Try.prog An (AYC) (AUv z0 k) AgZ Try.f100 [.p,.n,.n] H K=mapT (λ g=> Aaj g H K) [.p,.n,.n] (ALA z0 k):=by kernel_rfl
theorem Aal (R:Type) (k:Nat):CSound Try.prog (AYC (R:=R)):=AAE
theorem Aag (R:Type) (k:Nat):JS Try.prog 49 (ARo (ACE (R:=R) k) k) ANQ.ls ANQ.out (.loop (sel [1,1,1,0,0] (bd Try.f100))):=lj (Aal R k) (AUv (ACE k) k) (by kernel_rfl) (A:=True) trivial (by kernel_rfl) (λ _ _=> by kernel_rfl) (λ _ _ _=> .trans (Aah _ _ _ _) (by kernel_rfl)) k
theorem Aai (R:Type) (k:Nat):∀args H K r,Aak (AHd k) args H K=some (r:R)->∃v H',Tri Try.prog 100 args H v H'/\K v H'=some r:=fj (Aal R k) (AUv (ACE k) k) Try.func100 (by kernel_rfl) (A:=JS Try.prog 49 (ARo (ACE (R:=R) k) k) ANQ.ls ANQ.out (.loop (sel [1,1,1,0,0] (bd Try.f100)))/\True) ⟨Aag R k,trivial⟩ (by kernel_rfl) (λ _ _=> .trans (Aga _ _ _) (by kernel_rfl))
end
end Go.Proofs.Ytmanlfonppfhaaa.Sh
set_option maxRecDepth 100000
namespace Go.Proofs.Ytmanlfonppfhaaa.Sh
open Go.Proofs.Ytmanlfonppfhaaa.FW
abbrev AKe (R:Type):Type:=Heap->(Oa->Oa->Int->Int->Int->Option R)->(Bool->Int->Option R)->Option R
abbrev AFk (R:Type):Type:=Oa->Oa->Int->Int->Int->AKe R
abbrev AKd (R:Type):Type:=Heap->(Oa->Oa->Int->Int->Int->Option R)->(Bool->Int->Option R)->Option R
abbrev AFj (R:Type):Type:=Oa->Oa->Int->Int->Int->AKd R
abbrev AKc (R:Type):Type:=Heap->(Oa->Oa->Int->Int->Int->Oa->Nat->Nat->Int->Oa->Oa->Nat->Nat->Int->Int->Option R)->(Oa->Oa->Int->Int->Int->Oa->Nat->Nat->Int->Oa->Oa->Nat->Nat->Int->Int->Option R)->Option R
abbrev AFi (R:Type):Type:=Oa->Oa->Int->Int->Int->Oa->Nat->Nat->Int->Oa->Oa->Nat->Nat->Int->Int->AKc R
abbrev AHs (R:Type):Type:=Oa->Oa->Int->Int->Int->Oa->Nat->Nat->Int->Oa->Oa->Nat->Nat->Int->Int->Heap->Option R
abbrev AHt (R T:Type):Type:=(Oa->Oa->Int->Int->Int->Oa->Nat->Nat->Int->Oa->Oa->Nat->Nat->Int->Int->Heap->Option R)->(Bool->Int->Heap->Option R)->T
abbrev AFm (R:Type):Type:=AHt R (Nat->AHs R)
abbrev AHu (R:Type):Type:=Oa->Oa->Int->Int->Int->Oa->Nat->Nat->Int->Oa->Nat->Nat->Int->Int->Heap->Option R
abbrev AHv (R T:Type):Type:=(Oa->Int->Int->Int->Oa->Nat->Nat->Heap->Option R)->(Bool->Int->Heap->Option R)->T
abbrev AFn (R:Type):Type:=AHv R (Nat->AHu R)
abbrev AMG (R:Type):Type:=Heap->(Bool->Int->Heap->Option R)->Option R
abbrev AFx (R:Type):Type:=Oa->Oa->Int->Int->Int->AMG R
section
variable {R:Type} (f0:AEO R) (f1:AHK R) (f2:AJH R) (f3:ACY R) (z0:AFk R) (z1:AFj R) (z2:AFn R) (z3:AFm R) (z4:AFi R)
def AFl (k:Nat):AFk R:=λ p1 p2 n3 n4 n5 H KN KR=>
bif p1.isNone then (KR false 6)
 else (hnil p1 λ p6=>
hfad 0 p6 λ p7=>
ldB H p7 λ t8=>
bif (!t8) then (KR false 6)
 else (hnil p1 λ p9=>
hfad 4 p9 λ p10=>
ldB H p10 λ t11=>
bif t11 then (KR false 6)
 else (KN p1 p2 n3 n4 n5)))
def ABF (k:Nat):AFk R:=AFl k
def AHr (k:Nat):AFj R:=λ p1 p2 n3 n4 n5 H KN KR=>
f1 p1 n3 n4 H λ t6=>
bif (!t6) then (KR false 2)
 else (bif decide (n5 < 0) then (KR false 2)
 else (bif decide (n5 > 65536) then (KR false 2)
 else (KN p1 p2 n3 n4 n5)))
def ABb (k:Nat):AFj R:=AHr AGN k
def ACs (k:Nat):AFi R:=λ p1 p2 n3 n4 n5 q6 l7 c8 n9 p10 q11 l12 c13 n14 n15 H KE2 KN=>
hfad 1 p10 λ p16=>
ldI .i64 H p16 λ n17=>
bif decide (n17 < n5) then (hfad 2 p10 λ p18=>
ldB H p18 λ t19=>
bif (!t19) then (KN p1 p2 n3 n4 n5 q6 l7 c8 n9 p10 q11 l12 c13 n14 n15)
 else (KE2 p1 p2 n3 n4 n5 q6 l7 c8 n9 p10 q11 l12 c13 n14 n15))
 else (KE2 p1 p2 n3 n4 n5 q6 l7 c8 n9 p10 q11 l12 c13 n14 n15)
def AAq (k:Nat):AFi R:=ACs k
def ACt (k:Nat):AHt R (AHs R->AHs R):=λ KE2 KR rec p1 p2 n3 n4 n5 q6 l7 c8 n9 p10 q11 l12 c13 n14 n15 H=>
z4 p1 p2 n3 n4 n5 q6 l7 c8 n9 p10 q11 l12 c13 n14 n15 H (λ p46 p47 n48 n49 n50 q51 l52 c53 n54 p55 q56 l57 c58 n59 n60=>
KE2 p46 p47 n48 n49 n50 q51 l52 c53 n54 p55 q56 l57 c58 n59 n60 H) (λ p61 p62 n63 n64 n65 q66 l67 c68 n69 p70 q71 l72 c73 n74 n75=>
f3 p62 H λ n76 n77 H78=>
bif (n77 !=0) then (KR false n77 H78)
 else (bif (n76==1) then (hfad 2 p70 λ p79=>
hst1 H78 p79 (.bool true) λ H80=>
rec p61 p62 n63 n64 n65 q66 l67 c68 n69 p70 q71 l72 c73 n74 n75 H80)
 else (hfad 1 p70 λ p81=>
ldI .i64 H78 p81 λ n82=>
hfad 1 p70 λ p83=>
hst1 H78 p83 (.int .i64 (IntKind.wrap .i64 (n82+1))) λ H84=>
rec p61 p62 n63 n64 n65 q66 l67 c68 n69 p70 q71 l72 c73 n74 n75 H84)))
def AAM (k:Nat):AFm R
 |KE2,KR,0=> λ _ _ _ _ _ _ _ _ _ _ _ _ _ _ _ _=> none
 |KE2,KR,n+1=> ACt (AAk k) (AAq k) k KE2 KR (AAM k KE2 KR n)
def AFo (k:Nat):AHv R (AHu R->AHu R):=λ KE0 KR rec p1 p2 n3 n4 n5 q6 l7 c8 n9 q10 l11 c12 n13 n14 H=>
bif decide (n14 < n13) then (hidx q10 l11 n14 1 λ p15=>
ldI .i64 H p15 λ n16=>
hidx q6 l7 n16 3 λ p17=>
ldI .i64 H (pad p17 0) λ n18=>
ldI .i64 H (pad p17 1) λ n19=>
ldB H (pad p17 2) λ t20=>
hal H [.int .i64 0,.int .i64 0,.bool false] λ p21 H22=>
hst H22 p21 [.int .i64 n18,.int .i64 n19,.bool t20] λ H23=>
hfad 1 p21 λ p24=>
ldI .i64 H23 p24 λ n25=>
hfad 1 p21 λ p26=>
hst1 H23 p26 (.int .i64 (imx n25 n9)) λ H27=>
z3 (λ p45 p46 n47 n48 n49 q50 l51 c52 n53 p54 q55 l56 c57 n58 n59 H60=>
ldI .i64 H60 (pad p54 0) λ n61=>
ldI .i64 H60 (pad p54 1) λ n62=>
ldB H60 (pad p54 2) λ t63=>
hidx q50 l51 n53 3 λ p64=>
hst H60 p64 [.int .i64 n61,.int .i64 n62,.bool t63] λ H65=>
hfad 1 p54 λ p66=>
ldI .i64 H65 p66 λ n67=>
rec p45 p46 n47 n48 n49 q50 l51 c52 n67 q55 l56 c57 n58 (IntKind.wrap .i64 (n59+1)) H65) (λ t68 n69 H70=>
KR t68 n69 H70) k p1 p2 n3 n4 n5 q6 l7 c8 n16 p21 q10 l11 c12 n13 n14 H27)
 else (KE0 p1 n3 n4 n5 q6 l7 c8 H)
def AAS (k:Nat):AFn R
 |KE0,KR,0=> λ _ _ _ _ _ _ _ _ _ _ _ _ _ _ _=> none
 |KE0,KR,n+1=> AFo (AAM k) k KE0 KR (AAS k KE0 KR n)
def AHe (k:Nat):AFx R:=λ p1 p2 n3 n4 n5 H K=>
z0 p1 p2 n3 n4 n5 H (λ p13 p14 n15 n16 n17=>
f0 p14 0 H λ n18 n19 H20=>
bif (n19 !=0) then (K false 6 H20)
 else (z1 p13 p14 n15 n16 n17 H20 (λ p28 p29 n30 n31 n32=>
hal H20 [] λ p33 H34=>
hnil p28 λ p35=>
hfad 3 p35 λ p36=>
ldL H34 p36 λ q37 l38 c39=>
happS 3 24 H34 p33 0 0 q37 l38 λ q40 l41 c42 H43=>
f2 p28 n30 n31 H43 λ q44 l45 c46 H47=>
z2 (λ p57 n58 n59 n60 q61 l62 c63 H64=>
hnil p57 λ p65=>
hfad 3 p65 λ p66=>
hst1 H64 p66 (.slice q61 l62 c63) λ H67=>
hnil p57 λ p68=>
hfad 5 p68 λ p69=>
hst1 H67 p69 (.bool true) λ H70=>
hnil p57 λ p71=>
hfad 1 p71 λ p72=>
ldI .i64 H70 p72 λ n73=>
hidx q61 l62 (IntKind.wrap .i64 ((IntKind.wrap .i64 (n59 * n73))+n58)) 3 λ p74=>
ldI .i64 H70 (pad p74 0) λ n75=>
ldI .i64 H70 (pad p74 1) λ n76=>
ldB H70 (pad p74 2) λ t77=>
hal H70 [.int .i64 0,.int .i64 0,.bool false] λ p78 H79=>
hst H79 p78 [.int .i64 n75,.int .i64 n76,.bool t77] λ H80=>
hfad 2 p78 λ p81=>
ldB H80 p81 λ t82=>
bif t82 then (hfad 1 p78 λ p83=>
ldI .i64 H80 p83 λ n84=>
K (decide (n84 < n60)) 0 H80)
 else (K false 0 H80)) (λ t85 n86 H87=>
K t85 n86 H87) k p28 p29 n30 n31 n32 q40 l41 c42 0 q44 l45 c46 ((l45:Nat):Int) 0 H47) (λ t88 n89=>
K t88 n89 H20))) (λ t90 n91=>
K t90 n91 H)
def ABr (k:Nat):AFx R:=AHe (AB7 k) (AHd k) (ABF k) (ABb k) (AAS k) k
def x92C:Tab R:=tcons 77 (x77a f0) <|tcons 99 (x99a f1) <|tcons 100 (Aak f2) <|tcons 51 (x51a f3) <|λ _ _ _ _=> none
def AOn:PS:=⟨(.seq (.reg [0,1,2,3,4,14,17,18,66,67,68,89] []) (.cond .leaf .leaf)),[0,1,2,3,4,14,17,18,66,67,68],[.p,.p,.n,.n,.n,.l,.n,.p,.l,.n,.n],⟨[0,1,2,3,4,14,17,18,66,67,68],[(2,[0,1,2,3,4,14,17,18,66,67,68])],[]⟩⟩
def AZX (g:AKc R) (H:Heap) (K:XK R):Option R:=g H (kN (.exit 2) [0,1,2,3,4,14,17,18,66,67,68] [.p,.p,.n,.n,.n,.l,.n,.p,.l,.n,.n] K H) (kN .normal [0,1,2,3,4,14,17,18,66,67,68] [.p,.p,.n,.n,.n,.l,.n,.p,.l,.n,.n] K H)
def AWM (f:AFi R):Nat->List Value->Heap->XK R->Option R:=jp AOn AZX f
def AOo:PS:=⟨(.seq (.opq 4 AOn.ls AOn.out AOn.t) (.node (.seq (.reg [0,1,2,3,4,14,17,18,19,20,66,67,68] []) (.seq (.seq (.reg [0,1,2,3,4,14,17,18,19,20,66,67,68,96] []) (.cond (.seq (.reg [10,11] []) .leaf) .leaf)) (.seq (.reg [0,1,2,3,4,14,17,18,66,67,68,99] []) (.cond (.reg [0,1,2,3,4,14,17,18,66,67,68] []) (.reg [0,1,2,3,4,14,17,18,66,67,68] []))))))),[0,1,2,3,4,14,17,18,66,67,68],[.p,.p,.n,.n,.n,.l,.n,.p,.l,.n,.n],⟨[],[(2,[0,1,2,3,4,14,17,18,66,67,68])],[10,11]⟩⟩
def AWK {T:Type} (g:AHt R T) (H:Heap) (K:XK R):T:=g (kH (.exit 2) [0,1,2,3,4,14,17,18,66,67,68] [.p,.p,.n,.n,.n,.l,.n,.p,.l,.n,.n] K) (kH .ret [10,11] [.b,.n] K)
def AUA (f:AFm R):Nat->List Value->Heap->XK R->Option R:=jl AOo (L:=AFm R) AWK pH f
def AOp:PS:=⟨(.seq (.reg [0,1,2,3,4,14,15,66,67,68,69] []) (.seq (.cond .leaf .leaf) (.seq (.node (.seq (.reg [0,1,2,3,4,14,15,17,66,67,68] []) (.seq (.reg [0,1,2,3,4,14,15,17,18,66,67,68] []) (.seq (.reg [0,1,2,3,4,14,17,18,66,67,68] []) (.seq (.node (.opq 3 AOo.ls AOo.out (.node AOo.t))) (.seq (.reg [0,1,2,3,4,14,18,66,67,68] []) (.reg [0,1,2,3,4,14,15,66,67,68] []))))))) (.reg [0,1,2,3,4,14,15,66,67,68] [])))),[0,1,2,3,4,14,15,66,67,68],[.p,.p,.n,.n,.n,.l,.n,.l,.n,.n],⟨[],[(0,[0,2,3,4,14])],[10,11]⟩⟩
def AWL {T:Type} (g:AHv R T) (H:Heap) (K:XK R):T:=g (kH (.exit 0) [0,2,3,4,14] [.p,.n,.n,.n,.l] K) (kH .ret [10,11] [.b,.n] K)
def AUB (f:AFn R):Nat->List Value->Heap->XK R->Option R:=jl AOp (L:=AFn R) AWL pH f
def AOq:PS:=⟨(.seq (.reg [0,1,2,3,4,56] []) (.cond (.seq (.reg [10,11] []) .leaf) .leaf)),[0,1,2,3,4],[.p,.p,.n,.n,.n],⟨[0,1,2,3,4],[],[10,11]⟩⟩
def AZY (g:AKd R) (H:Heap) (K:XK R):Option R:=g H (kN .normal [0,1,2,3,4] [.p,.p,.n,.n,.n] K H) (kN .ret [10,11] [.b,.n] K H)
def AWN (f:AFj R):Nat->List Value->Heap->XK R->Option R:=jp AOq AZY f
def AOr:PS:=⟨(.seq (.reg [0,1,2,3,4,36] []) (.cond (.seq (.reg [10,11] []) .leaf) .leaf)),[0,1,2,3,4],[.p,.p,.n,.n,.n],⟨[0,1,2,3,4],[],[10,11]⟩⟩
def AZZ (g:AKe R) (H:Heap) (K:XK R):Option R:=g H (kN .normal [0,1,2,3,4] [.p,.p,.n,.n,.n] K H) (kN .ret [10,11] [.b,.n] K H)
def AWO (f:AFk R):Nat->List Value->Heap->XK R->Option R:=jp AOr AZZ f
def x92J (k:Nat):JTab R:=tcons 0 (AWO z0 k) <|tcons 1 (AWN z1 k) <|tcons 2 (AUB z2 k) <|tcons 3 (AUA z3 k) <|tcons 4 (AWM z4 k) <|λ _ _ _ _=> none
def x92t:AT:=(.seq (.reg [0,1,2,3,4] []) (.seq (.opq 0 AOr.ls AOr.out AOr.t) (.seq (.seq (.reg [0,1,2,3,4,13] []) (.seq (.reg [0,1,2,3,4,43] []) (.cond (.seq (.reg [10,11] []) .leaf) .leaf))) (.seq (.opq 1 AOq.ls AOq.out AOq.t) (.seq (.reg [0,1,2,3,4,14] []) (.seq (.reg [0,1,2,3,4,14,15] []) (.seq (.seq (.reg [0,1,2,3,4,14,15,66,67,68] []) (.node (.opq 2 AOp.ls AOp.out (.node AOp.t)))) (.seq (.reg [0,2,3,4,14] []) (.seq (.reg [0,2,3,4,14] []) (.seq (.reg [4,21] []) (.seq (.reg [10,11] []) .leaf)))))))))))
def x92c (g:AMG R) (H:Heap) (K:Value->Heap->Option R):Option R:=g H (rH [.b,.n] K)
def x92a (f:AFx R):List Value->Heap->(Value->Heap->Option R)->Option R:=jf 5 [.p,.p,.n,.n,.n] x92c f
variable {f0 f1 f2 f3 z0 z1 z2 z3 z4}
theorem Acj (k:Nat) (H:Heap) (K:XK R):jE Try.prog An 138 (x92C f0 f1 f2 f3) (x92J z0 z1 z2 z3 z4 k) AOn (sel [1,1,1,1,1,1,0,1,0,0,1,1,0,0,1,1,1,0,0,0,0] (bd Try.f92)) H K=mapT (λ g=> AZX g H K) AOn.ts (ACs k):=by kernel_rfl
theorem Ack (k n:Nat) (H:Heap) (K:XK R):lE Try.prog An 138 (x92C f0 f1 f2 f3) (x92J z0 z1 z2 z3 z4 k) AOo (sel [1,1,1,1,1,1,0,1,0,0,1,1,0,0,1,1,1,0,0,0] (bd Try.f92)) (AUA z3) n H K=mapT (λ g=> pH g H) AOo.ts (AWK (ACt f3 z4 k) H K (AWK z3 H K n)):=by kernel_rfl
theorem Acl (k n:Nat) (H:Heap) (K:XK R):lE Try.prog An 138 (x92C f0 f1 f2 f3) (x92J z0 z1 z2 z3 z4 k) AOp (sel [1,1,1,1,1,1,0,1,0,0] (bd Try.f92)) (AUB z2) n H K=mapT (λ g=> pH g H) AOp.ts (AWL (AFo z3 k) H K (AWL z2 H K n)):=by kernel_rfl
theorem Acm (k:Nat) (H:Heap) (K:XK R):jE Try.prog An 138 (x92C f0 f1 f2 f3) (x92J z0 z1 z2 z3 z4 k) AOq (sel [1,1,1,0] (bd Try.f92)) H K=mapT (λ g=> AZY g H K) AOq.ts (AHr f1 k):=by kernel_rfl
theorem Acn (k:Nat) (H:Heap) (K:XK R):jE Try.prog An 138 (x92C f0 f1 f2 f3) (x92J z0 z1 z2 z3 z4 k) AOr (sel [1,0] (bd Try.f92)) H K=mapT (λ g=> AZZ g H K) AOr.ts (AFl k):=by kernel_rfl
theorem x92e (k:Nat) (H:Heap) (K:Value->Heap->Option R):fE Try.prog An (x92C f0 f1 f2 f3) (x92J z0 z1 z2 z3 z4 k) x92t Try.f92 [.p,.p,.n,.n,.n] H K=mapT (λ g=> x92c g H K) [.p,.p,.n,.n,.n] (AHe f0 f2 z0 z1 z2 k):=by kernel_rfl
theorem x92S (R:Type) (k:Nat):CSound Try.prog (x92C (R:=R) (AB7 k) AGN (AHd k) (AAk k)):=AAB (AWf R k) <|AAB (AZM R k) <|AAB (Aai R k) <|AAB (ASJ R k) <|AAE
theorem Ace (R:Type) (k:Nat):JS Try.prog 138 (AWM (AAq (R:=R) k) k) AOn.ls AOn.out (sel [1,1,1,1,1,1,0,1,0,0,1,1,0,0,1,1,1,0,0,0,0] (bd Try.f92)):=pj (x92S R k) (x92J (ABF k) (ABb k) (AAS k) (AAM k) (AAq k) k) (by kernel_rfl) (A:=True) trivial (by kernel_rfl) (λ _ _=> .trans (Acj _ _ _) (by kernel_rfl))
theorem Acf (R:Type) (k:Nat):JS Try.prog 138 (AUA (AAM (R:=R) k) k) AOo.ls AOo.out (.loop (sel [1,1,1,1,1,1,0,1,0,0,1,1,0,0,1,1,1,0,0,0] (bd Try.f92))):=lj (x92S R k) (x92J (ABF k) (ABb k) (AAS k) (AAM k) (AAq k) k) (by kernel_rfl) (A:=JS Try.prog 138 (AWM (AAq (R:=R) k) k) AOn.ls AOn.out (sel [1,1,1,1,1,1,0,1,0,0,1,1,0,0,1,1,1,0,0,0,0] (bd Try.f92))/\True) ⟨Ace R k,trivial⟩ (by kernel_rfl) (λ _ _=> by kernel_rfl) (λ _ _ _=> .trans (Ack _ _ _ _) (by kernel_rfl)) k
theorem Acg (R:Type) (k:Nat):JS Try.prog 138 (AUB (AAS (R:=R) k) k) AOp.ls AOp.out (.loop (sel [1,1,1,1,1,1,0,1,0,0] (bd Try.f92))):=lj (x92S R k) (x92J (ABF k) (ABb k) (AAS k) (AAM k) (AAq k) k) (by kernel_rfl) (A:=JS Try.prog 138 (AUA (AAM (R:=R) k) k) AOo.ls AOo.out (.loop (sel [1,1,1,1,1,1,0,1,0,0,1,1,0,0,1,1,1,0,0,0] (bd Try.f92)))/\True) ⟨Acf R k,trivial⟩ (by kernel_rfl) (λ _ _=> by kernel_rfl) (λ _ _ _=> .trans (Acl _ _ _ _) (by kernel_rfl)) k
theorem Ach (R:Type) (k:Nat):JS Try.prog 138 (AWN (ABb (R:=R) k) k) AOq.ls AOq.out (sel [1,1,1,0] (bd Try.f92)):=pj (x92S R k) (x92J (ABF k) (ABb k) (AAS k) (AAM k) (AAq k) k) (by kernel_rfl) (A:=True) trivial (by kernel_rfl) (λ _ _=> .trans (Acm _ _ _) (by kernel_rfl))
theorem Aci (R:Type) (k:Nat):JS Try.prog 138 (AWO (ABF (R:=R) k) k) AOr.ls AOr.out (sel [1,0] (bd Try.f92)):=pj (x92S R k) (x92J (ABF k) (ABb k) (AAS k) (AAM k) (AAq k) k) (by kernel_rfl) (A:=True) trivial (by kernel_rfl) (λ _ _=> .trans (Acn _ _ _) (by kernel_rfl))
theorem AZW (R:Type) (k:Nat):∀args H K r,x92a (ABr k) args H K=some (r:R)->∃v H',Tri Try.prog 92 args H v H'/\K v H'=some r:=fj (x92S R k) (x92J (ABF k) (ABb k) (AAS k) (AAM k) (AAq k) k) Try.func92 (by kernel_rfl) (A:=JS Try.prog 138 (AWO (ABF (R:=R) k) k) AOr.ls AOr.out (sel [1,0] (bd Try.f92))/\JS Try.prog 138 (AWN (ABb (R:=R) k) k) AOq.ls AOq.out (sel [1,1,1,0] (bd Try.f92))/\JS Try.prog 138 (AUB (AAS (R:=R) k) k) AOp.ls AOp.out (.loop (sel [1,1,1,1,1,1,0,1,0,0] (bd Try.f92)))/\True) ⟨Aci R k,⟨Ach R k,⟨Acg R k,trivial⟩⟩⟩ (by kernel_rfl) (λ _ _=> .trans (x92e _ _ _) (by kernel_rfl))
end
abbrev ALC (R:Type):Type:=Heap->(Oa->Int->Int->Option R)->(Int->Bool->Option R)->Option R
abbrev AGO (R:Type):Type:=Oa->Int->Int->ALC R
abbrev AMb (R:Type):Type:=Heap->(Int->Bool->Option R)->Option R
abbrev AIJ (R:Type):Type:=Oa->Int->Int->AMb R
section
variable {R:Type} (f0:AHK R) (z0:AGO R)
def AIS (k:Nat):AGO R:=λ p1 n2 n3 H KN KR=>
bif p1.isNone then (KR 0 false)
 else (hnil p1 λ p4=>
hfad 0 p4 λ p5=>
ldB H p5 λ t6=>
bif (!t6) then (KR 0 false)
 else (f0 p1 n2 n3 H λ t7=>
bif (!t7) then (KR 0 false)
 else (hnil p1 λ p8=>
hfad 3 p8 λ p9=>
ldL H p9 λ q10 l11 c12=>
hnil p1 λ p13=>
hfad 1 p13 λ p14=>
ldI .i64 H p14 λ n15=>
hidx q10 l11 (IntKind.wrap .i64 ((IntKind.wrap .i64 (n3 * n15))+n2)) 3 λ p16=>
hfad 2 p16 λ p17=>
ldB H p17 λ t18=>
bif (!t18) then (KR 0 false)
 else (KN p1 n2 n3))))
def AEL (k:Nat):AGO R:=AIS AGN k
def AKT (k:Nat):AIJ R:=λ p1 n2 n3 H K=>
z0 p1 n2 n3 H (λ p9 n10 n11=>
hnil p9 λ p12=>
hfad 3 p12 λ p13=>
ldL H p13 λ q14 l15 c16=>
hnil p9 λ p17=>
hfad 1 p17 λ p18=>
ldI .i64 H p18 λ n19=>
hidx q14 l15 (IntKind.wrap .i64 ((IntKind.wrap .i64 (n11 * n19))+n10)) 3 λ p20=>
hfad 1 p20 λ p21=>
ldI .i64 H p21 λ n22=>
K n22 true) (λ n23 t24=>
K n23 t24)
def ADO (k:Nat):AIJ R:=AKT (AEL k) k
def x93C:Tab R:=tcons 99 (x99a f0) <|λ _ _ _ _=> none
def AOm:PS:=⟨(.seq (.reg [0,1,2,41] (ms [0,1,3,7,15,31,63,127,255,511,1023,1023,1023,8191,16383,32767,65535,131071,262143,524287,1048575,131071,131071,4325375,12713983,29491199,65142783,131071,266469375,536870911,1073741823,2147483647,4294967295,8589934591])) (.cond (.seq (.reg [6,7] []) .leaf) .leaf)),[0,1,2],[.p,.n,.n],⟨[0,1,2],[],[6,7]⟩⟩
def AZV (g:ALC R) (H:Heap) (K:XK R):Option R:=g H (kN .normal [0,1,2] [.p,.n,.n] K H) (kN .ret [6,7] [.n,.b] K H)
def AWJ (f:AGO R):Nat->List Value->Heap->XK R->Option R:=jp AOm AZV f
def x93J (k:Nat):JTab R:=tcons 0 (AWJ z0 k) <|λ _ _ _ _=> none
def x93t:AT:=(.seq (.reg [0,1,2] []) (.seq (.opq 0 AOm.ls AOm.out AOm.t) (.seq (.reg [6,7] (ms [0,1,3,7,0,0,32,96,224,496,0,2032,4095,8191,16383,32767,65535])) .leaf)))
def x93c (g:AMb R) (H:Heap) (K:Value->Heap->Option R):Option R:=g H (rN [.n,.b] K H)
def x93a (f:AIJ R):List Value->Heap->(Value->Heap->Option R)->Option R:=jf 3 [.p,.n,.n] x93c f
variable {f0 z0}
theorem Acb (k:Nat) (H:Heap) (K:XK R):jE Try.prog An 57 (x93C f0) (x93J z0 k) AOm (sel [1,0] (bd Try.f93)) H K=mapT (λ g=> AZV g H K) AOm.ts (AIS f0 k):=by kernel_rfl
theorem x93e (k:Nat) (H:Heap) (K:Value->Heap->Option R):fE Try.prog An (x93C f0) (x93J z0 k) x93t Try.f93 [.p,.n,.n] H K=mapT (λ g=> x93c g H K) [.p,.n,.n] (AKT z0 k):=by kernel_rfl
theorem x93S (R:Type) (k:Nat):CSound Try.prog (x93C (R:=R) AGN):=AAB (AZM R k) <|AAE
theorem Aca (R:Type) (k:Nat):JS Try.prog 57 (AWJ (AEL (R:=R) k) k) AOm.ls AOm.out (sel [1,0] (bd Try.f93)):=pj (x93S R k) (x93J (AEL k) k) (by kernel_rfl) (A:=True) trivial (by kernel_rfl) (λ _ _=> .trans (Acb _ _ _) (by kernel_rfl))
theorem Acd (R:Type) (k:Nat):∀args H K r,x93a (ADO k) args H K=some (r:R)->∃v H',Tri Try.prog 93 args H v H'/\K v H'=some r:=fj (x93S R k) (x93J (AEL k) k) Try.func93 (by kernel_rfl) (A:=JS Try.prog 57 (AWJ (AEL (R:=R) k) k) AOm.ls AOm.out (sel [1,0] (bd Try.f93))/\True) ⟨Aca R k,trivial⟩ (by kernel_rfl) (λ _ _=> .trans (x93e _ _ _) (by kernel_rfl))
end
abbrev AHj (R:Type):Type:=(Oa->Oa->Option R)->(Bool->Int->Option R)->Option R
abbrev AC6 (R:Type):Type:=Oa->Oa->Bool->Int->AHj R
abbrev AJB (R:Type):Type:=Heap->(Bool->Int->Heap->Option R)->Option R
abbrev AEF (R:Type):Type:=Oa->Oa->Int->AJB R
section
variable {R:Type} (f0:ACY R) (f1:AFx R) (f2:AIJ R) (z0:AC6 R)
def ACH (k:Nat):AC6 R:=λ p1 p2 t3 n4 KN KR=>
bif (n4 !=0) then (KR false n4)
 else (bif (!t3) then (KR false n4)
 else (KN p1 p2))
def AAf (k:Nat):AC6 R:=ACH k
def AGM (k:Nat):AEF R:=λ p1 p2 n3 H K=>
hnil p1 λ p4=>
hfad 9 p4 λ p5=>
ldL H p5 λ q6 l7 c8=>
hidx q6 l7 n3 8 λ p9=>
ldI .i64 H (pad p9 0) λ n10=>
ldI .i64 H (pad p9 1) λ n11=>
ldI .i64 H (pad p9 2) λ n12=>
ldB H (pad p9 3) λ t13=>
ldI .i64 H (pad p9 4) λ n14=>
ldI .i64 H (pad p9 5) λ n15=>
ldI .i64 H (pad p9 6) λ n16=>
ldI .i64 H (pad p9 7) λ n17=>
hal H [.int .i64 0,.int .i64 0,.int .i64 0,.bool false,.int .i64 0,.int .i64 0,.int .i64 0,.int .i64 0] λ p18 H19=>
hst H19 p18 [.int .i64 n10,.int .i64 n11,.int .i64 n12,.bool t13,.int .i64 n14,.int .i64 n15,.int .i64 n16,.int .i64 n17] λ H20=>
hfad 3 p18 λ p21=>
ldB H20 p21 λ t22=>
bif t22 then (f0 p2 H20 λ n23 n24 H25=>
K (n23==1) n24 H25)
 else (hnil p1 λ p26=>
hfad 7 p26 λ p27=>
ldL H20 p27 λ q28 l29 c30=>
hfad 0 p18 λ p31=>
ldI .i64 H20 p31 λ n32=>
hidx q28 l29 n32 1 λ p33=>
ldP H20 p33 λ p34=>
hfad 1 p18 λ p35=>
ldI .i64 H20 p35 λ n36=>
hfad 2 p18 λ p37=>
ldI .i64 H20 p37 λ n38=>
hnil p1 λ p39=>
hfad 10 p39 λ p40=>
ldI .i64 H20 p40 λ n41=>
f1 p34 p2 n36 n38 (IntKind.wrap .i64 (n41+1)) H20 λ t42 n43 H44=>
z0 p1 p18 t42 n43 (λ p49 p50=>
hnil p49 λ p51=>
hfad 7 p51 λ p52=>
ldL H44 p52 λ q53 l54 c55=>
hfad 0 p50 λ p56=>
ldI .i64 H44 p56 λ n57=>
hidx q53 l54 n57 1 λ p58=>
ldP H44 p58 λ p59=>
hfad 1 p50 λ p60=>
ldI .i64 H44 p60 λ n61=>
hfad 2 p50 λ p62=>
ldI .i64 H44 p62 λ n63=>
f2 p59 n61 n63 H44 λ n64 t65=>
hnil p49 λ p66=>
hfad 10 p66 λ p67=>
ldI .i64 H44 p67 λ n68=>
bif decide (n64 < n68) then (K false 15 H44)
 else (K true 0 H44)) (λ t69 n70=>
K t69 n70 H44))
def ABE (k:Nat):AEF R:=AGM (AAk k) (ABr k) (ADO k) (AAf k) k
def x74C:Tab R:=tcons 51 (x51a f0) <|tcons 92 (x92a f1) <|tcons 93 (x93a f2) <|λ _ _ _ _=> none
def AO1:PS:=⟨(.seq (.reg [0,8,12,59] []) (.cond (.seq (.reg [6,7] []) .leaf) .leaf)),[0,8,11,12],[.p,.p,.b,.n],⟨[0,8],[],[6,7]⟩⟩
def AZf (g:AHj R) (H:Heap) (K:XK R):Option R:=g (kN .normal [0,8] [.p,.p] K H) (kN .ret [6,7] [.b,.n] K H)
def AWk (f:AC6 R):Nat->List Value->Heap->XK R->Option R:=jp AO1 AZf f
def x74J (k:Nat):JTab R:=tcons 0 (AWk z0 k) <|λ _ _ _ _=> none
def x74t:AT:=(.seq (.reg [0,1,2] []) (.seq (.reg [0,1,8] []) (.seq (.seq (.reg [0,1,8,23] []) (.cond (.seq (.reg [9,10] []) (.seq (.reg [6,7] []) .leaf)) .leaf)) (.seq (.reg [0,8,11,12] (ms [0,1,3,7,0,16,63,127,0,0,512,0,2048,0,8192,24576,57344,122880,262143,524287,1048575,1048575,2097151,8388607])) (.seq (.opq 0 AO1.ls AO1.out AO1.t) (.seq (.seq (.reg [0,13] (ms [0,1,3,7,0,16,63,127,0,256,0,1024,4095,8191,16383,16383,32767,131071])) (.seq (.reg [82] []) (.cond (.seq (.reg [6,7] []) .leaf) .leaf))) (.seq (.reg [6,7] []) .leaf)))))))
def x74c (g:AJB R) (H:Heap) (K:Value->Heap->Option R):Option R:=g H (rH [.b,.n] K)
def x74a (f:AEF R):List Value->Heap->(Value->Heap->Option R)->Option R:=jf 3 [.p,.p,.n] x74c f
variable {f0 f1 f2 z0}
theorem AdI (k:Nat) (H:Heap) (K:XK R):jE Try.prog An 83 (x74C f0 f1 f2) (x74J z0 k) AO1 (sel [1,1,1,1,0] (bd Try.f74)) H K=mapT (λ g=> AZf g H K) AO1.ts (ACH k):=by kernel_rfl
theorem x74e (k:Nat) (H:Heap) (K:Value->Heap->Option R):fE Try.prog An (x74C f0 f1 f2) (x74J z0 k) x74t Try.f74 [.p,.p,.n] H K=mapT (λ g=> x74c g H K) [.p,.p,.n] (AGM f0 f1 f2 z0 k):=by kernel_rfl
theorem x74S (R:Type) (k:Nat):CSound Try.prog (x74C (R:=R) (AAk k) (ABr k) (ADO k)):=AAB (ASJ R k) <|AAB (AZW R k) <|AAB (Acd R k) <|AAE
theorem AdH (R:Type) (k:Nat):JS Try.prog 83 (AWk (AAf (R:=R) k) k) AO1.ls AO1.out (sel [1,1,1,1,0] (bd Try.f74)):=pj (x74S R k) (x74J (AAf k) k) (by kernel_rfl) (A:=True) trivial (by kernel_rfl) (λ _ _=> .trans (AdI _ _ _) (by kernel_rfl))
theorem AdJ (R:Type) (k:Nat):∀args H K r,x74a (ABE k) args H K=some (r:R)->∃v H',Tri Try.prog 74 args H v H'/\K v H'=some r:=fj (x74S R k) (x74J (AAf k) k) Try.func74 (by kernel_rfl) (A:=JS Try.prog 83 (AWk (AAf (R:=R) k) k) AO1.ls AO1.out (sel [1,1,1,1,0] (bd Try.f74))/\True) ⟨AdH R k,trivial⟩ (by kernel_rfl) (λ _ _=> .trans (x74e _ _ _) (by kernel_rfl))
end
abbrev AHC (R:Type):Type:=Oa->Oa->Oa->Int->Heap->Option R
abbrev AHD (R T:Type):Type:=(Heap->Option R)->(Int->Int->Heap->Option R)->T
abbrev AE8 (R:Type):Type:=AHD R (Nat->AHC R)
abbrev ALY (R:Type):Type:=Heap->(Int->Int->Heap->Option R)->Option R
abbrev AGs (R:Type):Type:=Oa->Oa->Int->Int->Int->Bool->Int->Int->Int->Int->ALY R
section
variable {R:Type} (f0:AFx R) (z0:AE8 R)
def AE9 (k:Nat):AHD R (AHC R->AHC R):=λ KE0 KR rec p1 p2 p3 n4 H=>
hnil p1 λ p5=>
hfad 1 p5 λ p6=>
ldL H p6 λ q7 l8 c9=>
hfad 0 p3 λ p10=>
ldI .i64 H p10 λ n11=>
hidx q7 l8 n11 1 λ p12=>
ldI .i64 H p12 λ n13=>
bif decide (n4<=n13) then (hnil p1 λ p14=>
hfad 8 p14 λ p15=>
ldL H p15 λ q16 l17 c18=>
hfad 0 p3 λ p19=>
ldI .i64 H p19 λ n20=>
hidx q16 l17 n20 1 λ p21=>
ldP H p21 λ p22=>
hfad 1 p3 λ p23=>
ldI .i64 H p23 λ n24=>
hfad 2 p3 λ p25=>
ldI .i64 H p25 λ n26=>
f0 p22 p2 n24 n26 n4 H λ t27 n28 H29=>
bif (n28 !=0) then (KR 0 n28 H29)
 else (bif t27 then (hnil p1 λ p30=>
hfad 1 p30 λ p31=>
ldL H29 p31 λ q32 l33 c34=>
hfad 0 p3 λ p35=>
ldI .i64 H29 p35 λ n36=>
hidx q32 l33 n36 1 λ p37=>
ldI .i64 H29 p37 λ n38=>
KR (IntKind.wrap .i64 ((IntKind.wrap .i64 (n38 - n4))+1)) 0 H29)
 else (rec p1 p2 p3 (IntKind.wrap .i64 (n4+1)) H29)))
 else (KE0 H)
def AA2 (k:Nat):AE8 R
 |KE0,KR,0=> λ _ _ _ _ _=> none
 |KE0,KR,n+1=> AE9 (ABr k) k KE0 KR (AA2 k KE0 KR n)
def AJA (k:Nat):AGs R:=λ p1 p2 n3 n4 n5 t6 n7 n8 n9 n10 H K=>
hal H [.int .i64 n3,.int .i64 n4,.int .i64 n5,.bool t6,.int .i64 n7,.int .i64 n8,.int .i64 n9,.int .i64 n10] λ p11 H12=>
z0 (λ H15=>
K 0 15 H15) (λ n16 n17 H18=>
K n16 n17 H18) k p1 p2 p11 1 H12
def AGa (k:Nat):AGs R:=AJA (AA2 k) k
def x75C:Tab R:=tcons 92 (x92a f0) <|λ _ _ _ _=> none
def AO0:PS:=⟨(.seq (.seq (.reg [0,1,5,8,20] (ms [0,0,2,6,14,0,32,126,254,511])) (.cond .leaf .leaf)) (.seq (.node (.seq (.reg [0,1,5,8,9,10] (ms [0,1,3,7,0,16,63,127,0,0,512,0,2048,0,16383,32767,65535,65535,131071,524287])) (.seq (.seq (.reg [0,1,5,8,9,10,42] []) (.cond (.seq (.reg [6,7] []) .leaf) .leaf)) (.seq (.reg [0,1,5,8,44] []) (.cond (.seq (.reg [6,7] (ms [0,1,3,7,0,16,63,127,0,511,1023,2047,4095])) .leaf) .leaf))))) (.reg [0,1,5,8] []))),[0,1,5,8],[.p,.p,.p,.n],⟨[],[(0,[])],[6,7]⟩⟩
def AWj {T:Type} (g:AHD R T) (H:Heap) (K:XK R):T:=g (kH (.exit 0) [] [] K) (kH .ret [6,7] [.n,.n] K)
def AUU (f:AE8 R):Nat->List Value->Heap->XK R->Option R:=jl AO0 (L:=AE8 R) AWj pH f
def x75J (k:Nat):JTab R:=tcons 0 (AUU z0 k) <|λ _ _ _ _=> none
def x75t:AT:=(.seq (.reg [0,1,5] []) (.seq (.seq (.reg [0,1,5,8] []) (.node (.opq 0 AO0.ls AO0.out (.node AO0.t)))) (.seq (.reg [6,7] []) .leaf)))
def x75c (g:ALY R) (H:Heap) (K:Value->Heap->Option R):Option R:=g H (rH [.n,.n] K)
def x75a (f:AGs R):List Value->Heap->(Value->Heap->Option R)->Option R:=jf 3 [.p,.p,(.a 8),.n,.n,.n,.b,.n,.n,.n,.n] x75c f
variable {f0 z0}
theorem AdF (k n:Nat) (H:Heap) (K:XK R):lE Try.prog An 56 (x75C f0) (x75J z0 k) AO0 (sel [1,0,1,0,0] (bd Try.f75)) (AUU z0) n H K=mapT (λ g=> pH g H) AO0.ts (AWj (AE9 f0 k) H K (AWj z0 H K n)):=by kernel_rfl
theorem x75e (k:Nat) (H:Heap) (K:Value->Heap->Option R):fE Try.prog An (x75C f0) (x75J z0 k) x75t Try.f75 [.p,.p,(.a 8),.n,.n,.n,.b,.n,.n,.n,.n] H K=mapT (λ g=> x75c g H K) [.p,.p,(.a 8),.n,.n,.n,.b,.n,.n,.n,.n] (AJA z0 k):=by kernel_rfl
theorem x75S (R:Type) (k:Nat):CSound Try.prog (x75C (R:=R) (ABr k)):=AAB (AZW R k) <|AAE
theorem AdE (R:Type) (k:Nat):JS Try.prog 56 (AUU (AA2 (R:=R) k) k) AO0.ls AO0.out (.loop (sel [1,0,1,0,0] (bd Try.f75))):=lj (x75S R k) (x75J (AA2 k) k) (by kernel_rfl) (A:=True) trivial (by kernel_rfl) (λ _ _=> by kernel_rfl) (λ _ _ _=> .trans (AdF _ _ _ _) (by kernel_rfl)) k
theorem AdG (R:Type) (k:Nat):∀args H K r,x75a (AGa k) args H K=some (r:R)->∃v H',Tri Try.prog 75 args H v H'/\K v H'=some r:=fj (x75S R k) (x75J (AA2 k) k) Try.func75 (by kernel_rfl) (A:=JS Try.prog 56 (AUU (AA2 (R:=R) k) k) AO0.ls AO0.out (.loop (sel [1,0,1,0,0] (bd Try.f75)))/\True) ⟨AdE R k,trivial⟩ (by kernel_rfl) (λ _ _=> .trans (x75e _ _ _) (by kernel_rfl))
end
abbrev AKA (R:Type):Type:=Heap->(Oa->Option R)->(Int->Int->Option R)->Option R
abbrev AFP (R:Type):Type:=Oa->AKA R
abbrev AJ9 (R:Type):Type:=(Oa->Int->Int->Int->Int->Int->Option R)->Option R
abbrev AFO (R:Type):Type:=Oa->Int->Int->Int->Int->Int->AJ9 R
abbrev AHN (R:Type):Type:=Oa->Int->Int->Int->Heap->Option R
abbrev AHO (R T:Type):Type:=(Oa->Int->Int->Int->Heap->Option R)->(Int->Int->Heap->Option R)->T
abbrev AFQ (R:Type):Type:=AHO R (Nat->AHN R)
abbrev ALv (R:Type):Type:=Heap->(Int->Int->Heap->Option R)->Option R
abbrev AG2 (R:Type):Type:=Oa->ALv R
section
variable {R:Type} (f0:ACY R) (f1:AEN R) (f2:AEO R) (z0:AFP R) (z1:AFQ R) (z2:AFO R)
def ADV (k:Nat):AFP R:=λ p1 H KN KR=>
bif p1.isNone then (KR 0 6)
 else (hnil p1 λ p2=>
hfad 0 p2 λ p3=>
ldB H p3 λ t4=>
bif (!t4) then (KR 0 6)
 else (KN p1))
def ABL (k:Nat):AFP R:=ADV k
def ABi (k:Nat):AFO R:=λ p1 n2 n3 n4 n5 n6 KN=>
bif (n6==0) then (bif (n5==0) then (bif (n4==31) then (KN p1 n2 n3 n4 n5 8)
 else (KN p1 n2 n3 n4 n5 n6))
 else (KN p1 n2 n3 n4 n5 n6))
 else (KN p1 n2 n3 n4 n5 n6)
def AAi (k:Nat):AFO R:=ABi k
def ABj (k:Nat):AHO R (AHN R->AHN R):=λ KE0 KR rec p1 n2 n3 n4 H=>
f0 p1 H λ n5 n6 H7=>
z2 p1 n2 n3 n4 n5 n6 (λ p14 n15 n16 n17 n18 n19=>
bif (n19 !=0) then (f1 p14 n15 n16 H7 λ H20=>
KR 0 n19 H20)
 else (bif (n18==1) then (KE0 p14 n15 n16 n17 H7)
 else (rec p14 n15 n16 (IntKind.wrap .i64 (n17+1)) H7)))
def AAR (k:Nat):AFQ R
 |KE0,KR,0=> λ _ _ _ _ _=> none
 |KE0,KR,n+1=> ABj (AAk k) ACT (AAi k) k KE0 KR (AAR k KE0 KR n)
def AFR (k:Nat):AG2 R:=λ p1 H K=>
z0 p1 H (λ p5=>
hnil p5 λ p6=>
hfad 2 p6 λ p7=>
ldI .i64 H p7 λ n8=>
hnil p5 λ p9=>
hfad 3 p9 λ p10=>
ldI .i64 H p10 λ n11=>
z1 (λ p18 n19 n20 n21 H22=>
f2 p18 n21 H22 λ n23 n24 H25=>
bif (n24 !=0) then (f1 p18 n19 n20 H25 λ H26=>
K 0 n24 H26)
 else (hbin .shl .i64 1 (IntKind.wrap .u64 n21) λ n27=>
K (IntKind.wrap .i64 (n27+n23)) 0 H25)) (λ n28 n29 H30=>
K n28 n29 H30) k p5 n8 n11 0 H) (λ n31 n32=>
K n31 n32 H)
def ADs (k:Nat):AG2 R:=AFR ACT (AB7 k) (ABL k) (AAR k) k
def x94C:Tab R:=tcons 51 (x51a f0) <|tcons 96 (x96a f1) <|tcons 77 (x77a f2) <|λ _ _ _ _=> none
def AOj:PS:=⟨(.seq (.reg [0,4,5,6,7,8,42] []) (.cond (.reg [0,4,5,6,7,8] []) .leaf)),[0,4,5,6,7,8],[.p,.n,.n,.n,.n,.n],⟨[0,4,5,6,7,8],[],[]⟩⟩
def AZT (g:AJ9 R) (H:Heap) (K:XK R):Option R:=g (kN .normal [0,4,5,6,7,8] [.p,.n,.n,.n,.n,.n] K H)
def AWH (f:AFO R):Nat->List Value->Heap->XK R->Option R:=jp AOj AZT f
def AOk:PS:=⟨(.node (.seq (.reg [0,4,5,6,7,8] []) (.seq (.opq 2 AOj.ls AOj.out AOj.t) (.seq (.seq (.reg [0,4,5,6,7,8,44] []) (.cond (.seq (.reg [8] []) (.seq (.reg [2,3] []) .leaf)) .leaf)) (.seq (.seq (.reg [0,4,5,6,51] []) (.cond .leaf .leaf)) (.reg [0,4,5,6] [])))))),[0,4,5,6],[.p,.n,.n,.n],⟨[],[(0,[0,4,5,6])],[2,3]⟩⟩
def AWG {T:Type} (g:AHO R T) (H:Heap) (K:XK R):T:=g (kH (.exit 0) [0,4,5,6] [.p,.n,.n,.n] K) (kH .ret [2,3] [.n,.n] K)
def AT9 (f:AFQ R):Nat->List Value->Heap->XK R->Option R:=jl AOk (L:=AFQ R) AWG pH f
def AOl:PS:=⟨(.seq (.reg [0,19] []) (.cond (.seq (.reg [2,3] []) .leaf) .leaf)),[0],[.p],⟨[0],[],[2,3]⟩⟩
def AZU (g:AKA R) (H:Heap) (K:XK R):Option R:=g H (kN .normal [0] [.p] K H) (kN .ret [2,3] [.n,.n] K H)
def AWI (f:AFP R):Nat->List Value->Heap->XK R->Option R:=jp AOl AZU f
def x94J (k:Nat):JTab R:=tcons 0 (AWI z0 k) <|tcons 1 (AT9 z1 k) <|tcons 2 (AWH z2 k) <|λ _ _ _ _=> none
def x94t:AT:=(.seq (.reg [0] []) (.seq (.opq 0 AOl.ls AOl.out AOl.t) (.seq (.reg [0,4,5] (ms [0,1,3,7,0,16,48,112,15,511])) (.seq (.reg [0,4,5,6] []) (.seq (.node (.opq 1 AOk.ls AOk.out (.node AOk.t))) (.seq (.reg [0,4,5,6,9,10] []) (.seq (.seq (.reg [0,4,5,6,9,10,61] []) (.cond (.seq (.reg [10] []) (.seq (.reg [2,3] []) .leaf)) .leaf)) (.seq (.reg [2,3] []) .leaf))))))))
def x94c (g:ALv R) (H:Heap) (K:Value->Heap->Option R):Option R:=g H (rH [.n,.n] K)
def x94a (f:AG2 R):List Value->Heap->(Value->Heap->Option R)->Option R:=jf 1 [.p] x94c f
variable {f0 f1 f2 z0 z1 z2}
theorem AcW (k:Nat) (H:Heap) (K:XK R):jE Try.prog An 72 (x94C f0 f1 f2) (x94J z0 z1 z2 k) AOj (sel [1,1,1,1,0,0,0,0,1,0] (bd Try.f94)) H K=mapT (λ g=> AZT g H K) AOj.ts (ABi k):=by kernel_rfl
theorem AcX (k n:Nat) (H:Heap) (K:XK R):lE Try.prog An 72 (x94C f0 f1 f2) (x94J z0 z1 z2 k) AOk (sel [1,1,1,1,0,0,0] (bd Try.f94)) (AT9 z1) n H K=mapT (λ g=> pH g H) AOk.ts (AWG (ABj f0 f1 z2 k) H K (AWG z1 H K n)):=by kernel_rfl
theorem AcY (k:Nat) (H:Heap) (K:XK R):jE Try.prog An 72 (x94C f0 f1 f2) (x94J z0 z1 z2 k) AOl (sel [1,0] (bd Try.f94)) H K=mapT (λ g=> AZU g H K) AOl.ts (ADV k):=by kernel_rfl
theorem x94e (k:Nat) (H:Heap) (K:Value->Heap->Option R):fE Try.prog An (x94C f0 f1 f2) (x94J z0 z1 z2 k) x94t Try.f94 [.p] H K=mapT (λ g=> x94c g H K) [.p] (AFR f1 f2 z0 z1 k):=by kernel_rfl
theorem x94S (R:Type) (k:Nat):CSound Try.prog (x94C (R:=R) (AAk k) ACT (AB7 k)):=AAB (ASJ R k) <|AAB (AWB R k) <|AAB (AWf R k) <|AAE
theorem AcT (R:Type) (k:Nat):JS Try.prog 72 (AWH (AAi (R:=R) k) k) AOj.ls AOj.out (sel [1,1,1,1,0,0,0,0,1,0] (bd Try.f94)):=pj (x94S R k) (x94J (ABL k) (AAR k) (AAi k) k) (by kernel_rfl) (A:=True) trivial (by kernel_rfl) (λ _ _=> .trans (AcW _ _ _) (by kernel_rfl))
theorem AcU (R:Type) (k:Nat):JS Try.prog 72 (AT9 (AAR (R:=R) k) k) AOk.ls AOk.out (.loop (sel [1,1,1,1,0,0,0] (bd Try.f94))):=lj (x94S R k) (x94J (ABL k) (AAR k) (AAi k) k) (by kernel_rfl) (A:=JS Try.prog 72 (AWH (AAi (R:=R) k) k) AOj.ls AOj.out (sel [1,1,1,1,0,0,0,0,1,0] (bd Try.f94))/\True) ⟨AcT R k,trivial⟩ (by kernel_rfl) (λ _ _=> by kernel_rfl) (λ _ _ _=> .trans (AcX _ _ _ _) (by kernel_rfl)) k
theorem AcV (R:Type) (k:Nat):JS Try.prog 72 (AWI (ABL (R:=R) k) k) AOl.ls AOl.out (sel [1,0] (bd Try.f94)):=pj (x94S R k) (x94J (ABL k) (AAR k) (AAi k) k) (by kernel_rfl) (A:=True) trivial (by kernel_rfl) (λ _ _=> .trans (AcY _ _ _) (by kernel_rfl))
theorem AcZ (R:Type) (k:Nat):∀args H K r,x94a (ADs k) args H K=some (r:R)->∃v H',Tri Try.prog 94 args H v H'/\K v H'=some r:=fj (x94S R k) (x94J (ABL k) (AAR k) (AAi k) k) Try.func94 (by kernel_rfl) (A:=JS Try.prog 72 (AWI (ABL (R:=R) k) k) AOl.ls AOl.out (sel [1,0] (bd Try.f94))/\JS Try.prog 72 (AT9 (AAR (R:=R) k) k) AOk.ls AOk.out (.loop (sel [1,1,1,1,0,0,0] (bd Try.f94)))/\True) ⟨AcV R k,⟨AcU R k,trivial⟩⟩ (by kernel_rfl) (λ _ _=> .trans (x94e _ _ _) (by kernel_rfl))
end
abbrev AJ8 (R:Type):Type:=Heap->(Oa->Int->Option R)->(Int->Int->Option R)->Option R
abbrev AFL (R:Type):Type:=Oa->Int->AJ8 R
abbrev AJ7 (R:Type):Type:=(Oa->Int->Option R)->(Int->Int->Option R)->Option R
abbrev AFK (R:Type):Type:=Oa->Int->AJ7 R
abbrev AJ6 (R:Type):Type:=(Oa->Int->Int->Int->Int->Int->Int->Option R)->Option R
abbrev AFJ (R:Type):Type:=Oa->Int->Int->Int->Int->Int->Int->AJ6 R
abbrev AHL (R:Type):Type:=Oa->Int->Int->Int->Int->Heap->Option R
abbrev AHM (R T:Type):Type:=(Int->Int->Heap->Option R)->T
abbrev AFM (R:Type):Type:=AHM R (Nat->AHL R)
abbrev ALu (R:Type):Type:=Heap->(Int->Int->Heap->Option R)->Option R
abbrev AG1 (R:Type):Type:=Oa->Int->ALu R
section
variable {R:Type} (f0:ACY R) (f1:AEN R) (z0:AFL R) (z1:AFK R) (z2:AFM R) (z3:AFJ R)
def ADU (k:Nat):AFL R:=λ p1 n2 H KN KR=>
bif p1.isNone then (KR 0 6)
 else (hnil p1 λ p3=>
hfad 0 p3 λ p4=>
ldB H p4 λ t5=>
bif (!t5) then (KR 0 6)
 else (KN p1 n2))
def AA4 (k:Nat):AFL R:=ADU k
def ADT (k:Nat):AFK R:=λ p1 n2 KN KR=>
bif decide (n2 < 0) then (KR 0 1)
 else (bif decide (n2 > 65535) then (KR 0 1)
 else (KN p1 n2))
def AA3 (k:Nat):AFK R:=ADT k
def ABg (k:Nat):AFJ R:=λ p1 n2 n3 n4 n5 n6 n7 KN=>
bif (n7==0) then (bif (n6==1) then (bif (n5==n2) then (KN p1 n2 n3 n4 n5 n6 8)
 else (KN p1 n2 n3 n4 n5 n6 n7))
 else (KN p1 n2 n3 n4 n5 n6 n7))
 else (KN p1 n2 n3 n4 n5 n6 n7)
def AAZ (k:Nat):AFJ R:=ABg k
def ABh (k:Nat):AHM R (AHL R->AHL R):=λ KR rec p1 n2 n3 n4 n5 H=>
f0 p1 H λ n6 n7 H8=>
z3 p1 n2 n3 n4 n5 n6 n7 (λ p16 n17 n18 n19 n20 n21 n22=>
bif (n22 !=0) then (f1 p16 n18 n19 H8 λ H23=>
KR 0 n22 H23)
 else (bif (n21==0) then (KR n20 0 H8)
 else (rec p16 n17 n18 n19 (IntKind.wrap .i64 (n20+1)) H8)))
def AAQ (k:Nat):AFM R
 |KR,0=> λ _ _ _ _ _ _=> none
 |KR,n+1=> ABh (AAk k) ACT (AAZ k) k KR (AAQ k KR n)
def AFN (k:Nat):AG1 R:=λ p1 n2 H K=>
z0 p1 n2 H (λ p7 n8=>
z1 p7 n8 (λ p13 n14=>
hnil p13 λ p15=>
hfad 2 p15 λ p16=>
ldI .i64 H p16 λ n17=>
hnil p13 λ p18=>
hfad 3 p18 λ p19=>
ldI .i64 H p19 λ n20=>
z2 (λ n23 n24 H25=>
K n23 n24 H25) k p13 n14 n17 n20 0 H) (λ n26 n27=>
K n26 n27 H)) (λ n28 n29=>
K n28 n29 H)
def ADr (k:Nat):AG1 R:=AFN (AA4 k) (AA3 k) (AAQ k) k
def x95C:Tab R:=tcons 51 (x51a f0) <|tcons 96 (x96a f1) <|λ _ _ _ _=> none
def AOf:PS:=⟨(.seq (.reg [0,1,6,7,8,9,10,49] []) (.cond (.reg [0,1,6,7,8,9,10] []) .leaf)),[0,1,6,7,8,9,10],[.p,.n,.n,.n,.n,.n,.n],⟨[0,1,6,7,8,9,10],[],[]⟩⟩
def AZQ (g:AJ6 R) (H:Heap) (K:XK R):Option R:=g (kN .normal [0,1,6,7,8,9,10] [.p,.n,.n,.n,.n,.n,.n] K H)
def AWD (f:AFJ R):Nat->List Value->Heap->XK R->Option R:=jp AOf AZQ f
def AOg:PS:=⟨(.node (.seq (.reg [0,1,6,7,8,9,10] []) (.seq (.opq 3 AOf.ls AOf.out AOf.t) (.seq (.seq (.reg [0,1,6,7,8,9,10,51] []) (.cond (.seq (.reg [10] []) (.seq (.reg [4,5] []) .leaf)) .leaf)) (.seq (.seq (.reg [0,1,6,7,8,58] []) (.cond (.seq (.reg [4,5] []) .leaf) .leaf)) (.reg [0,1,6,7,8] [])))))),[0,1,6,7,8],[.p,.n,.n,.n,.n],⟨[],[],[4,5]⟩⟩
def AWC {T:Type} (g:AHM R T) (H:Heap) (K:XK R):T:=g (kH .ret [4,5] [.n,.n] K)
def AT8 (f:AFM R):Nat->List Value->Heap->XK R->Option R:=jl AOg (L:=AFM R) AWC pH f
def AOh:PS:=⟨(.seq (.reg [0,1,25] []) (.cond (.seq (.reg [4,5] []) .leaf) .leaf)),[0,1],[.p,.n],⟨[0,1],[],[4,5]⟩⟩
def AZR (g:AJ7 R) (H:Heap) (K:XK R):Option R:=g (kN .normal [0,1] [.p,.n] K H) (kN .ret [4,5] [.n,.n] K H)
def AWE (f:AFK R):Nat->List Value->Heap->XK R->Option R:=jp AOh AZR f
def AOi:PS:=⟨(.seq (.reg [0,1,19] []) (.cond (.seq (.reg [4,5] []) .leaf) .leaf)),[0,1],[.p,.n],⟨[0,1],[],[4,5]⟩⟩
def AZS (g:AJ8 R) (H:Heap) (K:XK R):Option R:=g H (kN .normal [0,1] [.p,.n] K H) (kN .ret [4,5] [.n,.n] K H)
def AWF (f:AFL R):Nat->List Value->Heap->XK R->Option R:=jp AOi AZS f
def x95J (k:Nat):JTab R:=tcons 0 (AWF z0 k) <|tcons 1 (AWE z1 k) <|tcons 2 (AT8 z2 k) <|tcons 3 (AWD z3 k) <|λ _ _ _ _=> none
def x95t:AT:=(.seq (.reg [0,1] []) (.seq (.opq 0 AOi.ls AOi.out AOi.t) (.seq (.opq 1 AOh.ls AOh.out AOh.t) (.seq (.reg [0,1,6,7] (ms [0,1,3,7,0,16,48,112,15,511])) (.seq (.reg [0,1,6,7,8] []) (.node (.opq 2 AOg.ls AOg.out (.node AOg.t))))))))
def x95c (g:ALu R) (H:Heap) (K:Value->Heap->Option R):Option R:=g H (rH [.n,.n] K)
def x95a (f:AG1 R):List Value->Heap->(Value->Heap->Option R)->Option R:=jf 2 [.p,.n] x95c f
variable {f0 f1 z0 z1 z2 z3}
theorem AcO (k:Nat) (H:Heap) (K:XK R):jE Try.prog An 62 (x95C f0 f1) (x95J z0 z1 z2 z3 k) AOf (sel [1,1,1,1,1,0,0,0,1,0] (bd Try.f95)) H K=mapT (λ g=> AZQ g H K) AOf.ts (ABg k):=by kernel_rfl
theorem AcP (k n:Nat) (H:Heap) (K:XK R):lE Try.prog An 62 (x95C f0 f1) (x95J z0 z1 z2 z3 k) AOg (sel [1,1,1,1,1,0,0] (bd Try.f95)) (AT8 z2) n H K=mapT (λ g=> pH g H) AOg.ts (AWC (ABh f0 f1 z3 k) H K (AWC z2 H K n)):=by kernel_rfl
theorem AcQ (k:Nat) (H:Heap) (K:XK R):jE Try.prog An 62 (x95C f0 f1) (x95J z0 z1 z2 z3 k) AOh (sel [1,1,0] (bd Try.f95)) H K=mapT (λ g=> AZR g H K) AOh.ts (ADT k):=by kernel_rfl
theorem AcR (k:Nat) (H:Heap) (K:XK R):jE Try.prog An 62 (x95C f0 f1) (x95J z0 z1 z2 z3 k) AOi (sel [1,0] (bd Try.f95)) H K=mapT (λ g=> AZS g H K) AOi.ts (ADU k):=by kernel_rfl
theorem x95e (k:Nat) (H:Heap) (K:Value->Heap->Option R):fE Try.prog An (x95C f0 f1) (x95J z0 z1 z2 z3 k) x95t Try.f95 [.p,.n] H K=mapT (λ g=> x95c g H K) [.p,.n] (AFN z0 z1 z2 k):=by kernel_rfl
theorem x95S (R:Type) (k:Nat):CSound Try.prog (x95C (R:=R) (AAk k) ACT):=AAB (ASJ R k) <|AAB (AWB R k) <|AAE
theorem AcK (R:Type) (k:Nat):JS Try.prog 62 (AWD (AAZ (R:=R) k) k) AOf.ls AOf.out (sel [1,1,1,1,1,0,0,0,1,0] (bd Try.f95)):=pj (x95S R k) (x95J (AA4 k) (AA3 k) (AAQ k) (AAZ k) k) (by kernel_rfl) (A:=True) trivial (by kernel_rfl) (λ _ _=> .trans (AcO _ _ _) (by kernel_rfl))
theorem AcL (R:Type) (k:Nat):JS Try.prog 62 (AT8 (AAQ (R:=R) k) k) AOg.ls AOg.out (.loop (sel [1,1,1,1,1,0,0] (bd Try.f95))):=lj (x95S R k) (x95J (AA4 k) (AA3 k) (AAQ k) (AAZ k) k) (by kernel_rfl) (A:=JS Try.prog 62 (AWD (AAZ (R:=R) k) k) AOf.ls AOf.out (sel [1,1,1,1,1,0,0,0,1,0] (bd Try.f95))/\True) ⟨AcK R k,trivial⟩ (by kernel_rfl) (λ _ _=> by kernel_rfl) (λ _ _ _=> .trans (AcP _ _ _ _) (by kernel_rfl)) k
theorem AcM (R:Type) (k:Nat):JS Try.prog 62 (AWE (AA3 (R:=R) k) k) AOh.ls AOh.out (sel [1,1,0] (bd Try.f95)):=pj (x95S R k) (x95J (AA4 k) (AA3 k) (AAQ k) (AAZ k) k) (by kernel_rfl) (A:=True) trivial (by kernel_rfl) (λ _ _=> .trans (AcQ _ _ _) (by kernel_rfl))
theorem AcN (R:Type) (k:Nat):JS Try.prog 62 (AWF (AA4 (R:=R) k) k) AOi.ls AOi.out (sel [1,0] (bd Try.f95)):=pj (x95S R k) (x95J (AA4 k) (AA3 k) (AAQ k) (AAZ k) k) (by kernel_rfl) (A:=True) trivial (by kernel_rfl) (λ _ _=> .trans (AcR _ _ _) (by kernel_rfl))
theorem AcS (R:Type) (k:Nat):∀args H K r,x95a (ADr k) args H K=some (r:R)->∃v H',Tri Try.prog 95 args H v H'/\K v H'=some r:=fj (x95S R k) (x95J (AA4 k) (AA3 k) (AAQ k) (AAZ k) k) Try.func95 (by kernel_rfl) (A:=JS Try.prog 62 (AWF (AA4 (R:=R) k) k) AOi.ls AOi.out (sel [1,0] (bd Try.f95))/\JS Try.prog 62 (AWE (AA3 (R:=R) k) k) AOh.ls AOh.out (sel [1,1,0] (bd Try.f95))/\JS Try.prog 62 (AT8 (AAQ (R:=R) k) k) AOg.ls AOg.out (.loop (sel [1,1,1,1,1,0,0] (bd Try.f95)))/\True) ⟨AcN R k,⟨AcM R k,⟨AcL R k,trivial⟩⟩⟩ (by kernel_rfl) (λ _ _=> .trans (x95e _ _ _) (by kernel_rfl))
end
abbrev ALZ (R:Type):Type:=Heap->(Int->Int->Int->Heap->Option R)->Option R
abbrev AGt (R:Type):Type:=Oa->Oa->Int->Int->Int->Bool->Int->Int->Int->Int->Int->ALZ R
section
variable {R:Type} (f0:AG2 R) (f1:AG1 R)
def AFA (k:Nat):AGt R:=λ p1 p2 n3 n4 n5 t6 n7 n8 n9 n10 n11 H K=>
hal H [.int .i64 n3,.int .i64 n4,.int .i64 n5,.bool t6,.int .i64 n7,.int .i64 n8,.int .i64 n9,.int .i64 n10] λ p12 H13=>
f0 p2 H13 λ n14 n15 H16=>
bif (n15 !=0) then (K 0 0 n15 H16)
 else (hfad 5 p12 λ p17=>
ldI .i64 H16 p17 λ n18=>
bif decide (n14 > (IntKind.wrap .i64 ((IntKind.wrap .i64 ((IntKind.wrap .i64 (3 * n11)) - 2)) - n18))) then (K 0 0 15 H16)
 else (f1 p2 65535 H16 λ n19 n20 H21=>
bif (n20 !=0) then (K 0 0 n20 H21)
 else (hfad 7 p12 λ p22=>
ldI .i64 H21 p22 λ n23=>
bif decide ((IntKind.wrap .i64 (n23+n19)) > 16) then (K 0 0 15 H21)
 else (K n14 n19 0 H21))))
def ACD (k:Nat):AGt R:=AFA (ADs k) (ADr k) k
def x76C:Tab R:=tcons 94 (x94a f0) <|tcons 95 (x95a f1) <|λ _ _ _ _=> none
def x76J (k:Nat):JTab R:=λ _ _ _ _=> none
def x76t:AT:=(.seq (.reg [1,3,6] []) (.seq (.reg [1,3,6,8,10] []) (.seq (.seq (.reg [1,3,6,8,10,17] []) (.cond (.seq (.reg [8,9,10] []) .leaf) .leaf)) (.seq (.seq (.reg [1,6,8,26] []) (.cond (.seq (.reg [8,9,10] []) .leaf) .leaf)) (.seq (.reg [6,8,9,10] []) (.seq (.seq (.reg [6,8,9,10,33] []) (.cond (.seq (.reg [8,9,10] []) .leaf) .leaf)) (.seq (.seq (.reg [8,9,39] []) (.cond (.seq (.reg [8,9,10] []) .leaf) .leaf)) (.seq (.reg [8,9,10] []) .leaf))))))))
def x76c (g:ALZ R) (H:Heap) (K:Value->Heap->Option R):Option R:=g H (rH [.n,.n,.n] K)
def x76a (f:AGt R):List Value->Heap->(Value->Heap->Option R)->Option R:=jf 4 [.p,.p,(.a 8),.n,.n,.n,.b,.n,.n,.n,.n,.n] x76c f
variable {f0 f1}
theorem x76e (k:Nat) (H:Heap) (K:Value->Heap->Option R):fE Try.prog An (x76C f0 f1) (x76J k) x76t Try.f76 [.p,.p,(.a 8),.n,.n,.n,.b,.n,.n,.n,.n,.n] H K=mapT (λ g=> x76c g H K) [.p,.p,(.a 8),.n,.n,.n,.b,.n,.n,.n,.n,.n] (AFA f0 f1 k):=by kernel_rfl
theorem x76S (R:Type) (k:Nat):CSound Try.prog (x76C (R:=R) (ADs k) (ADr k)):=AAB (AcZ R k) <|AAB (AcS R k) <|AAE
theorem AdC (R:Type) (k:Nat):∀args H K r,x76a (ACD k) args H K=some (r:R)->∃v H',Tri Try.prog 76 args H v H'/\K v H'=some r:=fj (x76S R k) (x76J k) Try.func76 (by kernel_rfl) (A:=True) trivial (by kernel_rfl) (λ _ _=> .trans (x76e _ _ _) (by kernel_rfl))
end
abbrev AK4 (R:Type):Type:=Int->Int->Option R
abbrev AK5 (R T:Type):Type:=(Int->Option R)->T
abbrev AI8 (R:Type):Type:=AK5 R (Nat->AK4 R)
abbrev AN6 (R:Type):Type:=(Int->Option R)->Option R
abbrev AJ0 (R:Type):Type:=Int->AN6 R
section
variable {R:Type} (z0:AI8 R)
def AI9 (k:Nat):AK5 R (AK4 R->AK4 R):=λ KE0 rec n1 n2=>
bif decide (n1 > 0) then (rec (IntKind.wrap .i64 (Int.tdiv n1 2)) (IntKind.wrap .i64 (n2+1)))
 else (KE0 n2)
def AEE (k:Nat):AI8 R
 |KE0,0=> λ _ _=> none
 |KE0,n+1=> AI9 k KE0 (AEE k KE0 n)
def AMq (k:Nat):AJ0 R:=λ n1 K=>
z0 (λ n3=>
K n3) k n1 0
def AJZ (k:Nat):AJ0 R:=AMq (AEE k) k
def x78C:Tab R:=λ _ _ _ _=> none
def AOw:PS:=⟨(.seq (.seq (.reg [0,3,5] []) (.cond .leaf .leaf)) (.seq (.node (.reg [0,3] [])) (.reg [0,3] []))),[0,3],[.n,.n],⟨[],[(0,[3])],[]⟩⟩
def AWe {T:Type} (g:AK5 R T) (H:Heap) (K:XK R):T:=g (kN (.exit 0) [3] [.n] K H)
def AUS (f:AI8 R):Nat->List Value->Heap->XK R->Option R:=jl AOw (L:=AI8 R) AWe pN f
def x78J (k:Nat):JTab R:=tcons 0 (AUS z0 k) <|λ _ _ _ _=> none
def x78t:AT:=(.seq (.reg [0] []) (.seq (.reg [0,3] []) (.seq (.node (.opq 0 AOw.ls AOw.out (.node AOw.t))) (.seq (.reg [2] []) .leaf))))
def x78c (g:AN6 R) (H:Heap) (K:Value->Heap->Option R):Option R:=g (rN [.n] K H)
def x78a (f:AJ0 R):List Value->Heap->(Value->Heap->Option R)->Option R:=jf 1 [.n] x78c f
variable {z0}
theorem Ac5 (k n:Nat) (H:Heap) (K:XK R):lE Try.prog An 11 (x78C) (x78J z0 k) AOw (sel [1,1,0,0,0] (bd Try.f78)) (AUS z0) n H K=mapT (λ g=> pN g H) AOw.ts (AWe (AI9 k) H K (AWe z0 H K n)):=by kernel_rfl
theorem x78e (k:Nat) (H:Heap) (K:Value->Heap->Option R):fE Try.prog An (x78C) (x78J z0 k) x78t Try.f78 [.n] H K=mapT (λ g=> x78c g H K) [.n] (AMq z0 k):=by kernel_rfl
theorem x78S (R:Type) (k:Nat):CSound Try.prog (x78C (R:=R)):=AAE
theorem Ac4 (R:Type) (k:Nat):JS Try.prog 11 (AUS (AEE (R:=R) k) k) AOw.ls AOw.out (.loop (sel [1,1,0,0,0] (bd Try.f78))):=lj (x78S R k) (x78J (AEE k) k) (by kernel_rfl) (A:=True) trivial (by kernel_rfl) (λ _ _=> by kernel_rfl) (λ _ _ _=> .trans (Ac5 _ _ _ _) (by kernel_rfl)) k
theorem AZc (R:Type) (k:Nat):∀args H K r,x78a (AJZ k) args H K=some (r:R)->∃v H',Tri Try.prog 78 args H v H'/\K v H'=some r:=fj (x78S R k) (x78J (AEE k) k) Try.func78 (by kernel_rfl) (A:=JS Try.prog 11 (AUS (AEE (R:=R) k) k) AOw.ls AOw.out (.loop (sel [1,1,0,0,0] (bd Try.f78)))/\True) ⟨Ac4 R k,trivial⟩ (by kernel_rfl) (λ _ _=> .trans (x78e _ _ _) (by kernel_rfl))
end
end Go.Proofs.Ytmanlfonppfhaaa.Sh
set_option maxRecDepth 100000
namespace Go.Proofs.Ytmanlfonppfhaaa.Sh
open Go.Proofs.Ytmanlfonppfhaaa.FW
abbrev AL4 (R:Type):Type:=Heap->(Bool->Option R)->Option R
abbrev AEG (R:Type):Type:=Oa->AL4 R
section
variable {R:Type}
def AHQ (k:Nat):AEG R:=λ p1 H K=>
bif p1.isSome then (hnil p1 λ p2=>
hfad 0 p2 λ p3=>
ldL H p3 λ q4 l5 c6=>
K (decide (((l5:Nat):Int) > 0)))
 else (K false)
def AB6:AEG R:=AHQ 0
def x54C:Tab R:=λ _ _ _ _=> none
def x54J (k:Nat):JTab R:=λ _ _ _ _=> none
def x54t:AT:=(.seq (.reg [0] []) (.seq (.reg [2] []) .leaf))
def x54c (g:AL4 R) (H:Heap) (K:Value->Heap->Option R):Option R:=g H (rN [.b] K H)
def x54a (f:AEG R):List Value->Heap->(Value->Heap->Option R)->Option R:=jf 1 [.p] x54c f
theorem x54e (k:Nat) (H:Heap) (K:Value->Heap->Option R):fE Try.prog An (x54C) (x54J k) x54t Try.f54 [.p] H K=mapT (λ g=> x54c g H K) [.p] (AHQ k):=by kernel_rfl
theorem x54S (R:Type) (k:Nat):CSound Try.prog (x54C (R:=R)):=AAE
theorem AWw (R:Type) (k:Nat):∀args H K r,x54a (AB6) args H K=some (r:R)->∃v H',Tri Try.prog 54 args H v H'/\K v H'=some r:=fj (x54S R k) (x54J 0) Try.func54 (by kernel_rfl) (A:=True) trivial (by kernel_rfl) (λ _ _=> .trans (x54e _ _ _) (by kernel_rfl))
end
abbrev ALM (R:Type):Type:=Heap->(Bool->Heap->Option R)->Option R
abbrev AEr (R:Type):Type:=Oa->Int->Int->ALM R
section
variable {R:Type}
def AIg (k:Nat):AEr R:=λ p1 n2 n3 H K=>
hnil p1 λ p4=>
hfad 0 p4 λ p5=>
ldL H p5 λ q6 l7 c8=>
hidx q6 l7 0 3 λ p9=>
ldI .i64 H (pad p9 0) λ n10=>
ldI .i64 H (pad p9 1) λ n11=>
ldL H (pad p9 2) λ q12 l13 c14=>
hal H [.int .i64 0,.int .i64 0,.slice none 0 0] λ p15 H16=>
hst H16 p15 [.int .i64 n10,.int .i64 n11,.slice q12 l13 c14] λ H17=>
bif decide (n2≥0) then (bif decide (n3≥0) then (hfad 0 p15 λ p18=>
ldI .i64 H17 p18 λ n19=>
bif decide (n2 < n19) then (hfad 1 p15 λ p20=>
ldI .i64 H17 p20 λ n21=>
K (decide (n3 < n21)) H17)
 else (K false H17))
 else (K false H17))
 else (K false H17)
def ADp:AEr R:=AIg 0
def x55C:Tab R:=λ _ _ _ _=> none
def x55J (k:Nat):JTab R:=λ _ _ _ _=> none
def x55t:AT:=(.seq (.reg [0,1,2] []) (.seq (.reg [1,2,7] []) (.seq (.reg [6] []) .leaf)))
def x55c (g:ALM R) (H:Heap) (K:Value->Heap->Option R):Option R:=g H (rH [.b] K)
def x55a (f:AEr R):List Value->Heap->(Value->Heap->Option R)->Option R:=jf 3 [.p,.n,.n] x55c f
theorem x55e (k:Nat) (H:Heap) (K:Value->Heap->Option R):fE Try.prog An (x55C) (x55J k) x55t Try.f55 [.p,.n,.n] H K=mapT (λ g=> x55c g H K) [.p,.n,.n] (AIg k):=by kernel_rfl
theorem x55S (R:Type) (k:Nat):CSound Try.prog (x55C (R:=R)):=AAE
theorem AZq (R:Type) (k:Nat):∀args H K r,x55a (ADp) args H K=some (r:R)->∃v H',Tri Try.prog 55 args H v H'/\K v H'=some r:=fj (x55S R k) (x55J 0) Try.func55 (by kernel_rfl) (A:=True) trivial (by kernel_rfl) (λ _ _=> .trans (x55e _ _ _) (by kernel_rfl))
end
abbrev AL5 (R:Type):Type:=Heap->(Oa->Option R)->Option R
abbrev AEH (R:Type):Type:=Oa->Int->Int->Int->AL5 R
section
variable {R:Type}
def AJV (k:Nat):AEH R:=λ p1 n2 n3 n4 H K=>
hnil p1 λ p5=>
hfad 0 p5 λ p6=>
ldL H p6 λ q7 l8 c9=>
hidx q7 l8 n2 3 λ p10=>
hnil p10 λ p11=>
hfad 2 p11 λ p12=>
ldL H p12 λ q13 l14 c15=>
hbin .shr .i64 n4 (IntKind.wrap .u64 n2) λ n16=>
hnil p10 λ p17=>
hfad 0 p17 λ p18=>
ldI .i64 H p18 λ n19=>
hbin .shr .i64 n3 (IntKind.wrap .u64 n2) λ n20=>
hidx q13 l14 (IntKind.wrap .i64 ((IntKind.wrap .i64 (n16 * n19))+n20)) 3 λ p21=>
K p21
def AAg:AEH R:=AJV 0
def x56C:Tab R:=λ _ _ _ _=> none
def x56J (k:Nat):JTab R:=λ _ _ _ _=> none
def x56t:AT:=(.seq (.reg [0,1,2,3] []) (.seq (.reg [1,2,3,9] []) (.seq (.reg [8] (ms [0,1,3,7,0,0,32,112,0,256,768,1792,4080,0,0,16384,57344,131056,262143,524287])) .leaf)))
def x56c (g:AL5 R) (H:Heap) (K:Value->Heap->Option R):Option R:=g H (rN [.p] K H)
def x56a (f:AEH R):List Value->Heap->(Value->Heap->Option R)->Option R:=jf 4 [.p,.n,.n,.n] x56c f
theorem x56e (k:Nat) (H:Heap) (K:Value->Heap->Option R):fE Try.prog An (x56C) (x56J k) x56t Try.f56 [.p,.n,.n,.n] H K=mapT (λ g=> x56c g H K) [.p,.n,.n,.n] (AJV k):=by kernel_rfl
theorem x56S (R:Type) (k:Nat):CSound Try.prog (x56C (R:=R)):=AAE
theorem AWv (R:Type) (k:Nat):∀args H K r,x56a (AAg) args H K=some (r:R)->∃v H',Tri Try.prog 56 args H v H'/\K v H'=some r:=fj (x56S R k) (x56J 0) Try.func56 (by kernel_rfl) (A:=True) trivial (by kernel_rfl) (λ _ _=> .trans (x56e _ _ _) (by kernel_rfl))
end
abbrev AMo (R:Type):Type:=(Int->Int->Option R)->Option R
abbrev AI2 (R:Type):Type:=Int->Int->AMo R
abbrev AMn (R:Type):Type:=(Int->Int->Option R)->Option R
abbrev AI1 (R:Type):Type:=Int->Int->AMn R
abbrev AMm (R:Type):Type:=(Int->Int->Option R)->Option R
abbrev AI0 (R:Type):Type:=Int->Int->AMm R
abbrev AN4 (R:Type):Type:=(Int->Option R)->Option R
abbrev ALV (R:Type):Type:=Int->AN4 R
section
variable {R:Type} (z0:AI2 R) (z1:AI1 R) (z2:AI0 R)
def AK1 (k:Nat):AI2 R:=λ n1 n2 KN=>
bif decide (n1≥4294967296) then (KN (Int.fdiv n1 4294967296) 32)
 else (KN n1 n2)
def AE1 (k:Nat):AI2 R:=AK1 k
def AK0 (k:Nat):AI1 R:=λ n1 n2 KN=>
bif decide (n1≥65536) then (KN (Int.fdiv n1 65536) (IntKind.wrap .i64 (n2+16)))
 else (KN n1 n2)
def AE0 (k:Nat):AI1 R:=AK0 k
def AKz (k:Nat):AI0 R:=λ n1 n2 KN=>
bif decide (n1≥256) then (KN (Int.fdiv n1 256) (IntKind.wrap .i64 (n2+8)))
 else (KN n1 n2)
def AEz (k:Nat):AI0 R:=AKz k
def AMp (k:Nat):ALV R:=λ n1 K=>
z0 n1 0 (λ n4 n5=>
z1 n4 n5 (λ n8 n9=>
z2 n8 n9 (λ n12 n13=>
hidt ((ByteArray.mk #[0,1,2,2,3,3,3,3,4,4,4,4,4,4,4,4,5,5,5,5,5,5,5,5,5,5,5,5,5,5,5,5,6,6,6,6,6,6,6,6,6,6,6,6,6,6,6,6,6,6,6,6,6,6,6,6,6,6,6,6,6,6,6,6,7,7,7,7,7,7,7,7,7,7,7,7,7,7,7,7,7,7,7,7,7,7,7,7,7,7,7,7,7,7,7,7,7,7,7,7,7,7,7,7,7,7,7,7,7,7,7,7,7,7,7,7,7,7,7,7,7,7,7,7,7,7,7,7,8,8,8,8,8,8,8,8,8,8,8,8,8,8,8,8,8,8,8,8,8,8,8,8,8,8,8,8,8,8,8,8,8,8,8,8,8,8,8,8,8,8,8,8,8,8,8,8,8,8,8,8,8,8,8,8,8,8,8,8,8,8,8,8,8,8,8,8,8,8,8,8,8,8,8,8,8,8,8,8,8,8,8,8,8,8,8,8,8,8,8,8,8,8,8,8,8,8,8,8,8,8,8,8,8,8,8,8,8,8,8,8,8,8,8,8,8,8,8,8,8,8,8,8,8,8,8,8])) (IntKind.wrap .u8 n12) λ n14=>
K (IntKind.wrap .i64 (n13+(IntKind.wrap .i64 n14))))))
def ANJ (k:Nat):ALV R:=AMp (AE1 k) (AE0 k) (AEz k) k
def x98C:Tab R:=λ _ _ _ _=> none
def AOc:PS:=⟨(.seq (.reg [0,2,14] []) (.cond (.seq (.reg [0,2] []) (.reg [0,2] [])) .leaf)),[0,2],[(.i .u64),.n],⟨[0,2],[],[]⟩⟩
def AZN (g:AMm R) (H:Heap) (K:XK R):Option R:=g (kN .normal [0,2] [(.i .u64),.n] K H)
def AV8 (f:AI0 R):Nat->List Value->Heap->XK R->Option R:=jp AOc AZN f
def AOd:PS:=⟨(.seq (.reg [0,2,8] []) (.cond (.seq (.reg [0,2] []) (.reg [0,2] [])) .leaf)),[0,2],[(.i .u64),.n],⟨[0,2],[],[]⟩⟩
def AZO (g:AMn R) (H:Heap) (K:XK R):Option R:=g (kN .normal [0,2] [(.i .u64),.n] K H)
def AV9 (f:AI1 R):Nat->List Value->Heap->XK R->Option R:=jp AOd AZO f
def AOe:PS:=⟨(.seq (.reg [0,2,4] []) (.cond (.seq (.reg [0] []) (.reg [0,2] [])) .leaf)),[0,2],[(.i .u64),.n],⟨[0,2],[],[]⟩⟩
def AZP (g:AMo R) (H:Heap) (K:XK R):Option R:=g (kN .normal [0,2] [(.i .u64),.n] K H)
def AWA (f:AI2 R):Nat->List Value->Heap->XK R->Option R:=jp AOe AZP f
def x98J (k:Nat):JTab R:=tcons 0 (AWA z0 k) <|tcons 1 (AV9 z1 k) <|tcons 2 (AV8 z2 k) <|λ _ _ _ _=> none
def x98t:AT:=(.seq (.reg [0,2] []) (.seq (.opq 0 AOe.ls AOe.out AOe.t) (.seq (.opq 1 AOd.ls AOd.out AOd.t) (.seq (.opq 2 AOc.ls AOc.out AOc.t) (.seq (.reg [2] []) .leaf)))))
def x98c (g:AN4 R) (H:Heap) (K:Value->Heap->Option R):Option R:=g (rN [.n] K H)
def x98a (f:ALV R):List Value->Heap->(Value->Heap->Option R)->Option R:=jf 1 [(.i .u64)] x98c f
variable {z0 z1 z2}
theorem AcG (k:Nat) (H:Heap) (K:XK R):jE Try.prog An 25 (x98C) (x98J z0 z1 z2 k) AOc (sel [1,1,1,0] (bd Try.f98)) H K=mapT (λ g=> AZN g H K) AOc.ts (AKz k):=by kernel_rfl
theorem AcH (k:Nat) (H:Heap) (K:XK R):jE Try.prog An 25 (x98C) (x98J z0 z1 z2 k) AOd (sel [1,1,0] (bd Try.f98)) H K=mapT (λ g=> AZO g H K) AOd.ts (AK0 k):=by kernel_rfl
theorem AcI (k:Nat) (H:Heap) (K:XK R):jE Try.prog An 25 (x98C) (x98J z0 z1 z2 k) AOe (sel [1,0] (bd Try.f98)) H K=mapT (λ g=> AZP g H K) AOe.ts (AK1 k):=by kernel_rfl
theorem x98e (k:Nat) (H:Heap) (K:Value->Heap->Option R):fE Try.prog An (x98C) (x98J z0 z1 z2 k) x98t Try.f98 [(.i .u64)] H K=mapT (λ g=> x98c g H K) [(.i .u64)] (AMp z0 z1 z2 k):=by kernel_rfl
theorem x98S (R:Type) (k:Nat):CSound Try.prog (x98C (R:=R)):=AAE
theorem AcD (R:Type) (k:Nat):JS Try.prog 25 (AV8 (AEz (R:=R) k) k) AOc.ls AOc.out (sel [1,1,1,0] (bd Try.f98)):=pj (x98S R k) (x98J (AE1 k) (AE0 k) (AEz k) k) (by kernel_rfl) (A:=True) trivial (by kernel_rfl) (λ _ _=> .trans (AcG _ _ _) (by kernel_rfl))
theorem AcE (R:Type) (k:Nat):JS Try.prog 25 (AV9 (AE0 (R:=R) k) k) AOd.ls AOd.out (sel [1,1,0] (bd Try.f98)):=pj (x98S R k) (x98J (AE1 k) (AE0 k) (AEz k) k) (by kernel_rfl) (A:=True) trivial (by kernel_rfl) (λ _ _=> .trans (AcH _ _ _) (by kernel_rfl))
theorem AcF (R:Type) (k:Nat):JS Try.prog 25 (AWA (AE1 (R:=R) k) k) AOe.ls AOe.out (sel [1,0] (bd Try.f98)):=pj (x98S R k) (x98J (AE1 k) (AE0 k) (AEz k) k) (by kernel_rfl) (A:=True) trivial (by kernel_rfl) (λ _ _=> .trans (AcI _ _ _) (by kernel_rfl))
theorem AcJ (R:Type) (k:Nat):∀args H K r,x98a (ANJ k) args H K=some (r:R)->∃v H',Tri Try.prog 98 args H v H'/\K v H'=some r:=fj (x98S R k) (x98J (AE1 k) (AE0 k) (AEz k) k) Try.func98 (by kernel_rfl) (A:=JS Try.prog 25 (AWA (AE1 (R:=R) k) k) AOe.ls AOe.out (sel [1,0] (bd Try.f98))/\JS Try.prog 25 (AV9 (AE0 (R:=R) k) k) AOd.ls AOd.out (sel [1,1,0] (bd Try.f98))/\JS Try.prog 25 (AV8 (AEz (R:=R) k) k) AOc.ls AOc.out (sel [1,1,1,0] (bd Try.f98))/\True) ⟨AcF R k,⟨AcE R k,⟨AcD R k,trivial⟩⟩⟩ (by kernel_rfl) (λ _ _=> .trans (x98e _ _ _) (by kernel_rfl))
end
abbrev AQe (R:Type):Type:=(Int->Option R)->Option R
abbrev ANI (R:Type):Type:=Int->AQe R
section
variable {R:Type} (f0:ALV R)
def ANv (k:Nat):ANI R:=λ n1 K=>
f0 n1 λ n2=>
K n2
def AOJ (k:Nat):ANI R:=ANv (ANJ k) k
def x84C:Tab R:=tcons 98 (x98a f0) <|λ _ _ _ _=> none
def x84J (k:Nat):JTab R:=λ _ _ _ _=> none
def x84t:AT:=(.seq (.reg [0] []) (.seq (.cond (.seq (.reg [2] []) .leaf) .leaf) (.seq (.reg [2] []) .leaf)))
def x84c (g:AQe R) (H:Heap) (K:Value->Heap->Option R):Option R:=g (rN [.n] K H)
def x84a (f:ANI R):List Value->Heap->(Value->Heap->Option R)->Option R:=jf 1 [(.i .u64)] x84c f
variable {f0}
theorem x84e (k:Nat) (H:Heap) (K:Value->Heap->Option R):fE Try.prog An (x84C f0) (x84J k) x84t Try.f84 [(.i .u64)] H K=mapT (λ g=> x84c g H K) [(.i .u64)] (ANv f0 k):=by kernel_rfl
theorem x84S (R:Type) (k:Nat):CSound Try.prog (x84C (R:=R) (ANJ k)):=AAB (AcJ R k) <|AAE
theorem Acx (R:Type) (k:Nat):∀args H K r,x84a (AOJ k) args H K=some (r:R)->∃v H',Tri Try.prog 84 args H v H'/\K v H'=some r:=fj (x84S R k) (x84J k) Try.func84 (by kernel_rfl) (A:=True) trivial (by kernel_rfl) (λ _ _=> .trans (x84e _ _ _) (by kernel_rfl))
end
abbrev AMg (R:Type):Type:=(Int->Option R)->Option R
abbrev AG7 (R:Type):Type:=Int->AMg R
section
variable {R:Type} (f0:ANI R)
def AKw (k:Nat):AG7 R:=λ n1 K=>
f0 (IntKind.wrap .u64 n1) λ n2=>
K (IntKind.wrap .i64 (n2 - 1))
def AF8 (k:Nat):AG7 R:=AKw (AOJ k) k
def x65C:Tab R:=tcons 84 (x84a f0) <|λ _ _ _ _=> none
def x65J (k:Nat):JTab R:=λ _ _ _ _=> none
def x65t:AT:=(.seq (.reg [0] []) (.seq (.reg [2] []) .leaf))
def x65c (g:AMg R) (H:Heap) (K:Value->Heap->Option R):Option R:=g (rN [.n] K H)
def x65a (f:AG7 R):List Value->Heap->(Value->Heap->Option R)->Option R:=jf 1 [.n] x65c f
variable {f0}
theorem x65e (k:Nat) (H:Heap) (K:Value->Heap->Option R):fE Try.prog An (x65C f0) (x65J k) x65t Try.f65 [.n] H K=mapT (λ g=> x65c g H K) [.n] (AKw f0 k):=by kernel_rfl
theorem x65S (R:Type) (k:Nat):CSound Try.prog (x65C (R:=R) (AOJ k)):=AAB (Acx R k) <|AAE
theorem AZp (R:Type) (k:Nat):∀args H K r,x65a (AF8 k) args H K=some (r:R)->∃v H',Tri Try.prog 65 args H v H'/\K v H'=some r:=fj (x65S R k) (x65J k) Try.func65 (by kernel_rfl) (A:=True) trivial (by kernel_rfl) (λ _ _=> .trans (x65e _ _ _) (by kernel_rfl))
end
abbrev AG8 (R:Type):Type:=Int->Oa->Nat->Nat->Oa->Nat->Nat->Int->Int->Heap->Option R
abbrev AG9 (R T:Type):Type:=(Unit->Option R)->(Bool->Option R)->T
abbrev AEu (R:Type):Type:=AG9 R (Nat->AG8 R)
abbrev ALO (R:Type):Type:=Heap->(Bool->Option R)->Option R
abbrev AGh (R:Type):Type:=Int->Oa->Nat->Nat->Oa->Nat->Nat->ALO R
section
variable {R:Type} (f0:AG7 R) (z0:AEu R)
def AEv (k:Nat):AG9 R (AG8 R->AG8 R):=λ KE0 KR rec n1 q2 l3 c4 q5 l6 c7 n8 n9 H=>
bif decide (n9 < n8) then (hidx q5 l6 n9 1 λ p10=>
ldI .i64 H p10 λ n11=>
hidx q2 l3 n9 1 λ p12=>
ldI .i64 H p12 λ n13=>
f0 n13 λ n14=>
hbin .shl .i64 1 (IntKind.wrap .i64 (n1+n14)) λ n15=>
bif decide (n11≥n15) then (KR false)
 else (rec n1 q2 l3 c4 q5 l6 c7 n8 (IntKind.wrap .i64 (n9+1)) H))
 else (KE0 ())
def ABm (k:Nat):AEu R
 |KE0,KR,0=> λ _ _ _ _ _ _ _ _ _ _=> none
 |KE0,KR,n+1=> AEv (AF8 k) k KE0 KR (ABm k KE0 KR n)
def AIj (k:Nat):AGh R:=λ n1 q2 l3 c4 q5 l6 c7 H K=>
z0 (λ (_:Unit)=>
K true) (λ t9=>
K t9) k n1 q2 l3 c4 q5 l6 c7 ((l6:Nat):Int) 0 H
def AGY (k:Nat):AGh R:=AIj (ABm k) k
def x62C:Tab R:=tcons 65 (x65a f0) <|λ _ _ _ _=> none
def APA:PS:=⟨(.seq (.reg [0,1,9,10,11,12] []) (.seq (.cond .leaf .leaf) (.seq (.node (.seq (.reg [0,1,7,8,9,10,11] []) (.seq (.reg [0,1,9,10,11,25] []) (.cond (.seq (.reg [6] []) .leaf) .leaf)))) (.reg [0,1,9,10,11] [])))),[0,1,9,10,11],[.n,.l,.l,.n,.n],⟨[],[(0,[])],[6]⟩⟩
def AWu {T:Type} (g:AG9 R T) (H:Heap) (K:XK R):T:=g (kU (.exit 0) K H) (kN .ret [6] [.b] K H)
def AUV (f:AEu R):Nat->List Value->Heap->XK R->Option R:=jl APA (L:=AEu R) AWu pH f
def x62J (k:Nat):JTab R:=tcons 0 (AUV z0 k) <|λ _ _ _ _=> none
def x62t:AT:=(.seq (.reg [0,1,2] []) (.seq (.seq (.reg [0,1,9,10,11] []) (.node (.opq 0 APA.ls APA.out (.node APA.t)))) (.seq (.reg [6] []) .leaf)))
def x62c (g:ALO R) (H:Heap) (K:Value->Heap->Option R):Option R:=g H (rN [.b] K H)
def x62a (f:AGh R):List Value->Heap->(Value->Heap->Option R)->Option R:=jf 3 [.n,.l,.l] x62c f
variable {f0 z0}
theorem Adh (k n:Nat) (H:Heap) (K:XK R):lE Try.prog An 27 (x62C f0) (x62J z0 k) APA (sel [1,0,1,0,0] (bd Try.f62)) (AUV z0) n H K=mapT (λ g=> pH g H) APA.ts (AWu (AEv f0 k) H K (AWu z0 H K n)):=by kernel_rfl
theorem x62e (k:Nat) (H:Heap) (K:Value->Heap->Option R):fE Try.prog An (x62C f0) (x62J z0 k) x62t Try.f62 [.n,.l,.l] H K=mapT (λ g=> x62c g H K) [.n,.l,.l] (AIj z0 k):=by kernel_rfl
theorem x62S (R:Type) (k:Nat):CSound Try.prog (x62C (R:=R) (AF8 k)):=AAB (AZp R k) <|AAE
theorem Adg (R:Type) (k:Nat):JS Try.prog 27 (AUV (ABm (R:=R) k) k) APA.ls APA.out (.loop (sel [1,0,1,0,0] (bd Try.f62))):=lj (x62S R k) (x62J (ABm k) k) (by kernel_rfl) (A:=True) trivial (by kernel_rfl) (λ _ _=> by kernel_rfl) (λ _ _ _=> .trans (Adh _ _ _ _) (by kernel_rfl)) k
theorem Adi (R:Type) (k:Nat):∀args H K r,x62a (AGY k) args H K=some (r:R)->∃v H',Tri Try.prog 62 args H v H'/\K v H'=some r:=fj (x62S R k) (x62J (ABm k) k) Try.func62 (by kernel_rfl) (A:=JS Try.prog 27 (AUV (ABm (R:=R) k) k) APA.ls APA.out (.loop (sel [1,0,1,0,0] (bd Try.f62)))/\True) ⟨Adg R k,trivial⟩ (by kernel_rfl) (λ _ _=> .trans (x62e _ _ _) (by kernel_rfl))
end
abbrev AF5 (R:Type):Type:=Oa->Oa->Nat->Nat->Int->Int->Heap->Option R
abbrev AF6 (R T:Type):Type:=(Oa->Heap->Option R)->T
abbrev AD2 (R:Type):Type:=AF6 R (Nat->AF5 R)
abbrev AKW (R:Type):Type:=Heap->(Oa->Heap->Option R)->Option R
abbrev AFb (R:Type):Type:=Oa->AKW R
section
variable {R:Type} (f0:AEG R) (z0:AD2 R)
def AD3 (k:Nat):AF6 R (AF5 R->AF5 R):=λ KE0 rec p1 q2 l3 c4 n5 n6 H=>
bif decide (n6 < n5) then (hidx q2 l3 n6 3 λ p7=>
ldI .i64 H (pad p7 0) λ n8=>
ldI .i64 H (pad p7 1) λ n9=>
ldL H (pad p7 2) λ q10 l11 c12=>
hal H [.int .i64 0,.int .i64 0,.slice none 0 0] λ p13 H14=>
hst H14 p13 [.int .i64 n8,.int .i64 n9,.slice q10 l11 c12] λ H15=>
hnil p1 λ p16=>
hfad 0 p16 λ p17=>
ldL H15 p17 λ q18 l19 c20=>
hfad 0 p13 λ p21=>
ldI .i64 H15 p21 λ n22=>
hfad 1 p13 λ p23=>
ldI .i64 H15 p23 λ n24=>
hfad 2 p13 λ p25=>
ldL H15 p25 λ q26 l27 c28=>
hapnS 3 24 H15 none 0 0 q26 l27 λ q29 l30 c31 H32=>
hal H32 [.int .i64 n22,.int .i64 n24,.slice q29 l30 c31] λ p33 H34=>
happS 3 40 H34 q18 l19 c20 p33 1 λ q35 l36 c37 H38=>
hnil p1 λ p39=>
hfad 0 p39 λ p40=>
hst1 H38 p40 (.slice q35 l36 c37) λ H41=>
rec p1 q2 l3 c4 n5 (IntKind.wrap .i64 (n6+1)) H41)
 else (KE0 p1 H)
def ABB (k:Nat):AD2 R
 |KE0,0=> λ _ _ _ _ _ _ _=> none
 |KE0,n+1=> AD3 k KE0 (ABB k KE0 n)
def AHl (k:Nat):AFb R:=λ p1 H K=>
f0 p1 H λ t2=>
bif (!t2) then (K none H)
 else (hnil p1 λ p3=>
hfad 1 p3 λ p4=>
ldB H p4 λ t5=>
hnil p1 λ p6=>
hfad 2 p6 λ p7=>
ldB H p7 λ t8=>
hal H [.slice none 0 0,.bool t5,.bool t8] λ p9 H10=>
hnil p1 λ p11=>
hfad 0 p11 λ p12=>
ldL H10 p12 λ q13 l14 c15=>
z0 (λ p17 H18=>
K p17 H18) k p9 q13 l14 c15 ((l14:Nat):Int) 0 H10)
def ADa (k:Nat):AFb R:=AHl AB6 (ABB k) k
def x43C:Tab R:=tcons 54 (x54a f0) <|λ _ _ _ _=> none
def APW:PS:=⟨(.seq (.reg [3,22,23,24,25] []) (.seq (.cond .leaf .leaf) (.seq (.node (.seq (.reg [3,5,22,23,24] []) (.reg [3,22,23,24] (ms [0,0,2,6,14,0,32,0,128,0,512,1536,4064,8160,16382,32767,65535,131071])))) (.reg [3,22,23,24] [])))),[3,22,23,24],[.p,.l,.n,.n],⟨[],[(0,[3])],[]⟩⟩
def AXJ {T:Type} (g:AF6 R T) (H:Heap) (K:XK R):T:=g (kH (.exit 0) [3] [.p] K)
def AUZ (f:AD2 R):Nat->List Value->Heap->XK R->Option R:=jl APW (L:=AD2 R) AXJ pH f
def x43J (k:Nat):JTab R:=tcons 0 (AUZ z0 k) <|λ _ _ _ _=> none
def x43t:AT:=(.seq (.reg [0] []) (.seq (.seq (.reg [0,8] []) (.cond (.seq (.reg [2] []) .leaf) .leaf)) (.seq (.reg [0,3] (ms [0,1,3,7,0,16,48,112,255,511,1023])) (.seq (.seq (.reg [3,22,23,24] []) (.node (.opq 0 APW.ls APW.out (.node APW.t)))) (.seq (.reg [2] []) .leaf)))))
def x43c (g:AKW R) (H:Heap) (K:Value->Heap->Option R):Option R:=g H (rH [.p] K)
def x43a (f:AFb R):List Value->Heap->(Value->Heap->Option R)->Option R:=jf 1 [.p] x43c f
variable {f0 z0}
theorem AeY (k n:Nat) (H:Heap) (K:XK R):lE Try.prog An 47 (x43C f0) (x43J z0 k) APW (sel [1,1,1,0,1,0,0] (bd Try.f43)) (AUZ z0) n H K=mapT (λ g=> pH g H) APW.ts (AXJ (AD3 k) H K (AXJ z0 H K n)):=by kernel_rfl
theorem x43e (k:Nat) (H:Heap) (K:Value->Heap->Option R):fE Try.prog An (x43C f0) (x43J z0 k) x43t Try.f43 [.p] H K=mapT (λ g=> x43c g H K) [.p] (AHl f0 z0 k):=by kernel_rfl
theorem x43S (R:Type) (k:Nat):CSound Try.prog (x43C (R:=R) AB6):=AAB (AWw R k) <|AAE
theorem AeX (R:Type) (k:Nat):JS Try.prog 47 (AUZ (ABB (R:=R) k) k) APW.ls APW.out (.loop (sel [1,1,1,0,1,0,0] (bd Try.f43))):=lj (x43S R k) (x43J (ABB k) k) (by kernel_rfl) (A:=True) trivial (by kernel_rfl) (λ _ _=> by kernel_rfl) (λ _ _ _=> .trans (AeY _ _ _ _) (by kernel_rfl)) k
theorem AeZ (R:Type) (k:Nat):∀args H K r,x43a (ADa k) args H K=some (r:R)->∃v H',Tri Try.prog 43 args H v H'/\K v H'=some r:=fj (x43S R k) (x43J (ABB k) k) Try.func43 (by kernel_rfl) (A:=JS Try.prog 47 (AUZ (ABB (R:=R) k) k) APW.ls APW.out (.loop (sel [1,1,1,0,1,0,0] (bd Try.f43)))/\True) ⟨AeX R k,trivial⟩ (by kernel_rfl) (λ _ _=> .trans (x43e _ _ _) (by kernel_rfl))
end
end Go.Proofs.Ytmanlfonppfhaaa.Sh
set_option maxRecDepth 100000
namespace Go.Proofs.Ytmanlfonppfhaaa.Sh
open Go.Proofs.Ytmanlfonppfhaaa.FW
abbrev AIW (R:Type):Type:=Heap->(Oa->Option R)->(Oa->Option R)->Option R
abbrev ADb (R:Type):Type:=Oa->AIW R
abbrev AFu (R:Type):Type:=Oa->Oa->Nat->Nat->Int->Int->Heap->Option R
abbrev AFv (R T:Type):Type:=(Oa->Heap->Option R)->T
abbrev ADc (R:Type):Type:=AFv R (Nat->AFu R)
abbrev AJu (R:Type):Type:=Heap->(Oa->Heap->Option R)->Option R
abbrev AEw (R:Type):Type:=Oa->AJu R
section
variable {R:Type} (f0:AFb R) (z0:ADb R) (z1:ADc R)
def AFt (k:Nat):ADb R:=λ p1 H KN KR=>
bif p1.isNone then (KR none)
 else (hnil p1 λ p2=>
hfad 0 p2 λ p3=>
ldB H p3 λ t4=>
bif (!t4) then (KR none)
 else (KN p1))
def ABy (k:Nat):ADb R:=AFt k
def ADe (k:Nat):AFv R (AFu R->AFu R):=λ KE0 rec p1 q2 l3 c4 n5 n6 H=>
bif decide (n6 < n5) then (hidx q2 l3 n6 3 λ p7=>
ldI .i64 H (pad p7 0) λ n8=>
ldP H (pad p7 1) λ p9=>
ldP H (pad p7 2) λ p10=>
hal H [.int .i64 0,.pointer none,.pointer none] λ p11 H12=>
hst H12 p11 [.int .i64 n8,.pointer p9,.pointer p10] λ H13=>
hnil p1 λ p14=>
hfad 8 p14 λ p15=>
ldL H13 p15 λ q16 l17 c18=>
hfad 0 p11 λ p19=>
ldI .i64 H13 p19 λ n20=>
hfad 1 p11 λ p21=>
ldP H13 p21 λ p22=>
f0 p22 (roH H13) λ p23 H24=>
hfad 2 p11 λ p25=>
ldP (H13++H24.drop H13.length) p25 λ p26=>
f0 p26 (roH (H13++H24.drop H13.length)) λ p27 H28=>
hal ((H13++H24.drop H13.length)++H28.drop (H13++H24.drop H13.length).length) [.int .i64 n20,.pointer p23,.pointer p27] λ p29 H30=>
happS 3 24 H30 q16 l17 c18 p29 1 λ q31 l32 c33 H34=>
hnil p1 λ p35=>
hfad 8 p35 λ p36=>
hst1 H34 p36 (.slice q31 l32 c33) λ H37=>
rec p1 q2 l3 c4 n5 (IntKind.wrap .i64 (n6+1)) H37)
 else (KE0 p1 H)
def AAr (k:Nat):ADc R
 |KE0,0=> λ _ _ _ _ _ _ _=> none
 |KE0,n+1=> ADe (ADa k) k KE0 (AAr k KE0 n)
def AHB (k:Nat):AEw R:=λ p1 H K=>
z0 p1 H (λ p4=>
hnil p4 λ p5=>
hfad 1 p5 λ p6=>
ldB H p6 λ t7=>
hnil p4 λ p8=>
hfad 2 p8 λ p9=>
ldB H p9 λ t10=>
hnil p4 λ p11=>
hfad 3 p11 λ p12=>
ldB H (pad p12 0) λ t13=>
ldB H (pad p12 1) λ t14=>
ldB H (pad p12 2) λ t15=>
ldB H (pad p12 3) λ t16=>
ldB H (pad p12 4) λ t17=>
hnil p4 λ p18=>
hfad 10 p18 λ p19=>
ldI .i64 H p19 λ n20=>
hal H [.bool true,.bool t7,.bool t10,.bool t13,.bool t14,.bool t15,.bool t16,.bool t17,.slice none 0 0,.slice none 0 0,.int .i64 n20] λ p21 H22=>
hal H22 [] λ p23 H24=>
hnil p4 λ p25=>
hfad 9 p25 λ p26=>
ldL H24 p26 λ q27 l28 c29=>
happS 10 80 H24 p23 0 0 q27 l28 λ q30 l31 c32 H33=>
hnil p21 λ p34=>
hfad 9 p34 λ p35=>
hst1 H33 p35 (.slice q30 l31 c32) λ H36=>
hnil p4 λ p37=>
hfad 8 p37 λ p38=>
ldL H36 p38 λ q39 l40 c41=>
z1 (λ p43 H44=>
K p43 H44) k p21 q39 l40 c41 ((l40:Nat):Int) 0 H36) (λ p45=>
K p45 H)
def AEP (k:Nat):AEw R:=AHB (ABy k) (AAr k) k
def x27C:Tab R:=tcons 43 (x43a f0) <|λ _ _ _ _=> none
def APs:PS:=⟨(.seq (.reg [3,45,46,47,48] []) (.seq (.cond .leaf .leaf) (.seq (.node (.seq (.reg [3,5,45,46,47] []) (.reg [3,45,46,47] (ms [0,0,2,6,14,0,32,0,128,384,0,1024,3968,8160,16352,32766,65535,131071,262143])))) (.reg [3,45,46,47] [])))),[3,45,46,47],[.p,.l,.n,.n],⟨[],[(0,[3])],[]⟩⟩
def AXg {T:Type} (g:AFv R T) (H:Heap) (K:XK R):T:=g (kH (.exit 0) [3] [.p] K)
def AUh (f:ADc R):Nat->List Value->Heap->XK R->Option R:=jl APs (L:=ADc R) AXg pH f
def APt:PS:=⟨(.seq (.reg [0,14] []) (.cond (.seq (.reg [2] []) .leaf) .leaf)),[0],[.p],⟨[0],[],[2]⟩⟩
def AaN (g:AIW R) (H:Heap) (K:XK R):Option R:=g H (kN .normal [0] [.p] K H) (kN .ret [2] [.p] K H)
def AXh (f:ADb R):Nat->List Value->Heap->XK R->Option R:=jp APt AaN f
def x27J (k:Nat):JTab R:=tcons 0 (AXh z0 k) <|tcons 1 (AUh z1 k) <|λ _ _ _ _=> none
def x27t:AT:=(.seq (.reg [0] []) (.seq (.opq 0 APt.ls APt.out APt.t) (.seq (.reg [0,3] (ms [0,1,3,7,0,16,48,112,0,256,768,1792,0,4096,12288,28672,65535,131071,262143])) (.seq (.reg [0,3] []) (.seq (.seq (.reg [3,45,46,47] []) (.node (.opq 1 APs.ls APs.out (.node APs.t)))) (.seq (.reg [2] []) .leaf))))))
def x27c (g:AJu R) (H:Heap) (K:Value->Heap->Option R):Option R:=g H (rH [.p] K)
def x27a (f:AEw R):List Value->Heap->(Value->Heap->Option R)->Option R:=jf 1 [.p] x27c f
variable {f0 z0 z1}
theorem AfQ (k n:Nat) (H:Heap) (K:XK R):lE Try.prog An 71 (x27C f0) (x27J z0 z1 k) APs (sel [1,1,1,1,0,1,0,0] (bd Try.f27)) (AUh z1) n H K=mapT (λ g=> pH g H) APs.ts (AXg (ADe f0 k) H K (AXg z1 H K n)):=by kernel_rfl
theorem AfR (k:Nat) (H:Heap) (K:XK R):jE Try.prog An 71 (x27C f0) (x27J z0 z1 k) APt (sel [1,0] (bd Try.f27)) H K=mapT (λ g=> AaN g H K) APt.ts (AFt k):=by kernel_rfl
theorem x27e (k:Nat) (H:Heap) (K:Value->Heap->Option R):fE Try.prog An (x27C f0) (x27J z0 z1 k) x27t Try.f27 [.p] H K=mapT (λ g=> x27c g H K) [.p] (AHB z0 z1 k):=by kernel_rfl
theorem x27S (R:Type) (k:Nat):CSound Try.prog (x27C (R:=R) (ADa k)):=AAB (AeZ R k) <|AAE
theorem AfO (R:Type) (k:Nat):JS Try.prog 71 (AUh (AAr (R:=R) k) k) APs.ls APs.out (.loop (sel [1,1,1,1,0,1,0,0] (bd Try.f27))):=lj (x27S R k) (x27J (ABy k) (AAr k) k) (by kernel_rfl) (A:=True) trivial (by kernel_rfl) (λ _ _=> by kernel_rfl) (λ _ _ _=> .trans (AfQ _ _ _ _) (by kernel_rfl)) k
theorem AfP (R:Type) (k:Nat):JS Try.prog 71 (AXh (ABy (R:=R) k) k) APt.ls APt.out (sel [1,0] (bd Try.f27)):=pj (x27S R k) (x27J (ABy k) (AAr k) k) (by kernel_rfl) (A:=True) trivial (by kernel_rfl) (λ _ _=> .trans (AfR _ _ _) (by kernel_rfl))
theorem AfS (R:Type) (k:Nat):∀args H K r,x27a (AEP k) args H K=some (r:R)->∃v H',Tri Try.prog 27 args H v H'/\K v H'=some r:=fj (x27S R k) (x27J (ABy k) (AAr k) k) Try.func27 (by kernel_rfl) (A:=JS Try.prog 71 (AXh (ABy (R:=R) k) k) APt.ls APt.out (sel [1,0] (bd Try.f27))/\JS Try.prog 71 (AUh (AAr (R:=R) k) k) APs.ls APs.out (.loop (sel [1,1,1,1,0,1,0,0] (bd Try.f27)))/\True) ⟨AfP R k,⟨AfO R k,trivial⟩⟩ (by kernel_rfl) (λ _ _=> .trans (x27e _ _ _) (by kernel_rfl))
end
abbrev AMB (R:Type):Type:=Heap->(Oa->Heap->Option R)->Option R
abbrev AHS (R:Type):Type:=Oa->Nat->Nat->AMB R
section
variable {R:Type}
def AHT (k:Nat):AHS R:=λ q1 l2 c3 H K=>
hapnS 1 1 H none 0 0 q1 l2 λ q4 l5 c6 H7=>
hal H7 [.bool true,.slice q4 l5 c6,.int .i64 0,.int .i64 0] λ p8 H9=>
K p8 H9
def AFw:AHS R:=AHT 0
def x32C:Tab R:=λ _ _ _ _=> none
def x32J (k:Nat):JTab R:=λ _ _ _ _=> none
def x32t:AT:=(.seq (.reg [0] []) (.seq (.reg [2] []) .leaf))
def x32c (g:AMB R) (H:Heap) (K:Value->Heap->Option R):Option R:=g H (rH [.p] K)
def x32a (f:AHS R):List Value->Heap->(Value->Heap->Option R)->Option R:=jf 1 [.l] x32c f
theorem x32e (k:Nat) (H:Heap) (K:Value->Heap->Option R):fE Try.prog An (x32C) (x32J k) x32t Try.f32 [.l] H K=mapT (λ g=> x32c g H K) [.l] (AHT k):=by kernel_rfl
theorem x32S (R:Type) (k:Nat):CSound Try.prog (x32C (R:=R)):=AAE
theorem Ae4 (R:Type) (k:Nat):∀args H K r,x32a (AFw) args H K=some (r:R)->∃v H',Tri Try.prog 32 args H v H'/\K v H'=some r:=fj (x32S R k) (x32J 0) Try.func32 (by kernel_rfl) (A:=True) trivial (by kernel_rfl) (λ _ _=> .trans (x32e _ _ _) (by kernel_rfl))
end
abbrev AMA (R:Type):Type:=Heap->(Bool->Option R)->Option R
abbrev ACb (R:Type):Type:=Oa->AMA R
section
variable {R:Type}
def AJW (k:Nat):ACb R:=λ p1 H K=>
bif p1.isSome then (hnil p1 λ p2=>
hfad 0 p2 λ p3=>
ldB H p3 λ t4=>
K t4)
 else (K false)
def ABU:ACb R:=AJW 0
def x66C:Tab R:=λ _ _ _ _=> none
def x66J (k:Nat):JTab R:=λ _ _ _ _=> none
def x66t:AT:=(.seq (.reg [0] []) (.seq (.reg [2] []) .leaf))
def x66c (g:AMA R) (H:Heap) (K:Value->Heap->Option R):Option R:=g H (rN [.b] K H)
def x66a (f:ACb R):List Value->Heap->(Value->Heap->Option R)->Option R:=jf 1 [.p] x66c f
theorem x66e (k:Nat) (H:Heap) (K:Value->Heap->Option R):fE Try.prog An (x66C) (x66J k) x66t Try.f66 [.p] H K=mapT (λ g=> x66c g H K) [.p] (AJW k):=by kernel_rfl
theorem x66S (R:Type) (k:Nat):CSound Try.prog (x66C (R:=R)):=AAE
theorem ASx (R:Type) (k:Nat):∀args H K r,x66a (ABU) args H K=some (r:R)->∃v H',Tri Try.prog 66 args H v H'/\K v H'=some r:=fj (x66S R k) (x66J 0) Try.func66 (by kernel_rfl) (A:=True) trivial (by kernel_rfl) (λ _ _=> .trans (x66e _ _ _) (by kernel_rfl))
end
abbrev AJv (R:Type):Type:=Heap->(Oa->Int->Bool->Option R)->Option R
abbrev AE2 (R:Type):Type:=Oa->Int->AJv R
abbrev AJw (R:Type):Type:=Heap->(Oa->Int->Option R)->(Int->Int->Option R)->Option R
abbrev AE4 (R:Type):Type:=Oa->Int->AJw R
abbrev AJx (R:Type):Type:=Heap->(Oa->Heap->Option R)->(Int->Int->Heap->Option R)->Option R
abbrev AE5 (R:Type):Type:=Oa->AJx R
abbrev ALW (R:Type):Type:=Heap->(Int->Int->Heap->Option R)->Option R
abbrev ADl (R:Type):Type:=Oa->ALW R
section
variable {R:Type} (z0:AE5 R) (z1:AE4 R) (z2:AE2 R)
def AE3 (k:Nat):AE2 R:=λ p1 n2 H KN=>
hnil p1 λ p3=>
hfad 2 p3 λ p4=>
ldI .i64 H p4 λ n5=>
bif decide (n5 > 0) then (hnil p1 λ p6=>
hfad 1 p6 λ p7=>
ldL H p7 λ q8 l9 c10=>
hnil p1 λ p11=>
hfad 2 p11 λ p12=>
ldI .i64 H p12 λ n13=>
hidx q8 l9 (IntKind.wrap .i64 (n13 - 1)) 1 λ p14=>
ldI .u8 H p14 λ n15=>
KN p1 n2 (n15==255))
 else (KN p1 n2 false)
def ABI (k:Nat):AE2 R:=AE3 k
def ADS (k:Nat):AE4 R:=λ p1 n2 H KN KR=>
z2 p1 n2 H (λ p6 n7 t8=>
bif t8 then (hnil p6 λ p9=>
hfad 1 p9 λ p10=>
ldL H p10 λ q11 l12 c13=>
hnil p6 λ p14=>
hfad 2 p14 λ p15=>
ldI .i64 H p15 λ n16=>
hidx q11 l12 n16 1 λ p17=>
ldI .u8 H p17 λ n18=>
bif decide (n18≥128) then (KR 0 8)
 else (KN p6 7))
 else (KN p6 n7))
def AA0 (k:Nat):AE4 R:=ADS (ABI k) k
def ACd (k:Nat):AE5 R:=λ p1 H KN KR=>
hnil p1 λ p2=>
hfad 3 p2 λ p3=>
ldI .i64 H p3 λ n4=>
bif (n4==0) then (hnil p1 λ p5=>
hfad 2 p5 λ p6=>
ldI .i64 H p6 λ n7=>
hnil p1 λ p8=>
hfad 1 p8 λ p9=>
ldL H p9 λ q10 l11 c12=>
bif (n7==((l11:Nat):Int)) then (KR 0 7 H)
 else (z1 p1 8 H (λ p17 n18=>
hnil p17 λ p19=>
hfad 2 p19 λ p20=>
ldI .i64 H p20 λ n21=>
hnil p17 λ p22=>
hfad 2 p22 λ p23=>
hst1 H p23 (.int .i64 (IntKind.wrap .i64 (n21+1))) λ H24=>
hnil p17 λ p25=>
hfad 3 p25 λ p26=>
hst1 H24 p26 (.int .i64 n18) λ H27=>
KN p17 H27) (λ n28 n29=>
KR n28 n29 H)))
 else (KN p1 H)
def AA1 (k:Nat):AE5 R:=ACd (AA0 k) k
def ADm (k:Nat):ADl R:=λ p1 H K=>
z0 p1 H (λ p5 H6=>
hnil p5 λ p7=>
hfad 3 p7 λ p8=>
ldI .i64 H6 p8 λ n9=>
hnil p5 λ p10=>
hfad 3 p10 λ p11=>
hst1 H6 p11 (.int .i64 (IntKind.wrap .i64 (n9 - 1))) λ H12=>
hnil p5 λ p13=>
hfad 1 p13 λ p14=>
ldL H12 p14 λ q15 l16 c17=>
hnil p5 λ p18=>
hfad 2 p18 λ p19=>
ldI .i64 H12 p19 λ n20=>
hidx q15 l16 (IntKind.wrap .i64 (n20 - 1)) 1 λ p21=>
ldI .u8 H12 p21 λ n22=>
hnil p5 λ p23=>
hfad 3 p23 λ p24=>
ldI .i64 H12 p24 λ n25=>
hbin .shr .u8 n22 (IntKind.wrap .u64 n25) λ n26=>
hbin .and .i64 (IntKind.wrap .i64 n26) 1 λ n27=>
K n27 0 H12) (λ n28 n29 H30=>
K n28 n29 H30)
def ABT (k:Nat):ADl R:=ADm (AA1 k) k
def x67C:Tab R:=λ _ _ _ _=> none
def AO7:PS:=⟨(.reg [0,4,38] (ms [0,1,3,7,15,31,63,127,255,511,63,1087,3135,7231,15423,32767,65535,131071,262143])),[0,4],[.p,.n],⟨[0,4,38],[],[]⟩⟩
def AZm (g:AJv R) (H:Heap) (K:XK R):Option R:=g H (kN .normal [0,4,38] [.p,.n,.b] K H)
def AWr (f:AE2 R):Nat->List Value->Heap->XK R->Option R:=jp AO7 AZm f
def AO8:PS:=⟨(.seq (.opq 2 AO7.ls AO7.out AO7.t) (.cond (.seq (.seq (.reg [0,49] (ms [0,1,3,7,0,16,48,112,255,511,1023])) (.cond (.seq (.reg [2,3] []) .leaf) .leaf)) (.reg [0,4] [])) .leaf)),[0,4],[.p,.n],⟨[0,4],[],[2,3]⟩⟩
def AZn (g:AJw R) (H:Heap) (K:XK R):Option R:=g H (kN .normal [0,4] [.p,.n] K H) (kN .ret [2,3] [.n,.n] K H)
def AWs (f:AE4 R):Nat->List Value->Heap->XK R->Option R:=jp AO8 AZn f
def AO9:PS:=⟨(.seq (.reg [0,9] []) (.cond (.seq (.seq (.reg [0,19] (ms [0,1,3,7,0,16,48,112,240,511])) (.cond (.seq (.reg [2,3] []) .leaf) .leaf)) (.seq (.reg [0,4] []) (.seq (.opq 1 AO8.ls AO8.out AO8.t) (.seq (.reg [0,4] []) (.reg [0] []))))) .leaf)),[0],[.p],⟨[0],[],[2,3]⟩⟩
def AZo (g:AJx R) (H:Heap) (K:XK R):Option R:=g H (kH .normal [0] [.p] K) (kH .ret [2,3] [.n,.n] K)
def AWt (f:AE5 R):Nat->List Value->Heap->XK R->Option R:=jp AO9 AZo f
def x67J (k:Nat):JTab R:=tcons 0 (AWt z0 k) <|tcons 1 (AWs z1 k) <|tcons 2 (AWr z2 k) <|λ _ _ _ _=> none
def x67t:AT:=(.seq (.reg [0] []) (.seq (.opq 0 AO9.ls AO9.out AO9.t) (.seq (.reg [0] []) (.seq (.reg [2,3] (ms [0,1,3,7,0,16,48,112,240,511,1023,0,2048,6144,14336,30720,65535,131071,262143,524287,1048575])) .leaf))))
def x67c (g:ALW R) (H:Heap) (K:Value->Heap->Option R):Option R:=g H (rH [.n,.n] K)
def x67a (f:ADl R):List Value->Heap->(Value->Heap->Option R)->Option R:=jf 1 [.p] x67c f
variable {z0 z1 z2}
theorem Adc (k:Nat) (H:Heap) (K:XK R):jE Try.prog An 87 (x67C) (x67J z0 z1 z2 k) AO7 (sel [1,0,1,0,1,1,0,0] (bd Try.f67)) H K=mapT (λ g=> AZm g H K) AO7.ts (AE3 k):=by kernel_rfl
theorem Ade (k:Nat) (H:Heap) (K:XK R):jE Try.prog An 87 (x67C) (x67J z0 z1 z2 k) AO8 (sel [1,0,1,0,1,1,0] (bd Try.f67)) H K=mapT (λ g=> AZn g H K) AO8.ts (ADS z2 k):=by kernel_rfl
theorem Adf (k:Nat) (H:Heap) (K:XK R):jE Try.prog An 87 (x67C) (x67J z0 z1 z2 k) AO9 (sel [1,0] (bd Try.f67)) H K=mapT (λ g=> AZo g H K) AO9.ts (ACd z1 k):=by kernel_rfl
theorem x67e (k:Nat) (H:Heap) (K:Value->Heap->Option R):fE Try.prog An (x67C) (x67J z0 z1 z2 k) x67t Try.f67 [.p] H K=mapT (λ g=> x67c g H K) [.p] (ADm z0 k):=by kernel_rfl
theorem x67S (R:Type) (k:Nat):CSound Try.prog (x67C (R:=R)):=AAE
theorem AdZ (R:Type) (k:Nat):JS Try.prog 87 (AWr (ABI (R:=R) k) k) AO7.ls AO7.out (sel [1,0,1,0,1,1,0,0] (bd Try.f67)):=pj (x67S R k) (x67J (AA1 k) (AA0 k) (ABI k) k) (by kernel_rfl) (A:=True) trivial (by kernel_rfl) (λ _ _=> .trans (Adc _ _ _) (by kernel_rfl))
theorem Ada (R:Type) (k:Nat):JS Try.prog 87 (AWs (AA0 (R:=R) k) k) AO8.ls AO8.out (sel [1,0,1,0,1,1,0] (bd Try.f67)):=pj (x67S R k) (x67J (AA1 k) (AA0 k) (ABI k) k) (by kernel_rfl) (A:=JS Try.prog 87 (AWr (ABI (R:=R) k) k) AO7.ls AO7.out (sel [1,0,1,0,1,1,0,0] (bd Try.f67))/\True) ⟨AdZ R k,trivial⟩ (by kernel_rfl) (λ _ _=> .trans (Ade _ _ _) (by kernel_rfl))
theorem Adb (R:Type) (k:Nat):JS Try.prog 87 (AWt (AA1 (R:=R) k) k) AO9.ls AO9.out (sel [1,0] (bd Try.f67)):=pj (x67S R k) (x67J (AA1 k) (AA0 k) (ABI k) k) (by kernel_rfl) (A:=JS Try.prog 87 (AWs (AA0 (R:=R) k) k) AO8.ls AO8.out (sel [1,0,1,0,1,1,0] (bd Try.f67))/\True) ⟨Ada R k,trivial⟩ (by kernel_rfl) (λ _ _=> .trans (Adf _ _ _) (by kernel_rfl))
theorem AWq (R:Type) (k:Nat):∀args H K r,x67a (ABT k) args H K=some (r:R)->∃v H',Tri Try.prog 67 args H v H'/\K v H'=some r:=fj (x67S R k) (x67J (AA1 k) (AA0 k) (ABI k) k) Try.func67 (by kernel_rfl) (A:=JS Try.prog 87 (AWt (AA1 (R:=R) k) k) AO9.ls AO9.out (sel [1,0] (bd Try.f67))/\True) ⟨Adb R k,trivial⟩ (by kernel_rfl) (λ _ _=> .trans (x67e _ _ _) (by kernel_rfl))
end
abbrev ALX (R:Type):Type:=Heap->(Int->Int->Heap->Option R)->Option R
abbrev ADn (R:Type):Type:=Oa->ALX R
section
variable {R:Type} (f0:ACb R) (f1:ADl R)
def AI4 (k:Nat):ADn R:=λ p1 H K=>
f0 p1 H λ t2=>
bif (!t2) then (K 0 6 H)
 else (f1 p1 H λ n3 n4 H5=>
K n3 n4 H5)
def ACV (k:Nat):ADn R:=AI4 ABU (ABT k) k
def x45C:Tab R:=tcons 66 (x66a f0) <|tcons 67 (x67a f1) <|λ _ _ _ _=> none
def x45J (k:Nat):JTab R:=λ _ _ _ _=> none
def x45t:AT:=(.seq (.reg [0] []) (.seq (.seq (.reg [0,6] []) (.cond (.seq (.reg [2,3] []) .leaf) .leaf)) (.seq (.reg [2,3] []) .leaf)))
def x45c (g:ALX R) (H:Heap) (K:Value->Heap->Option R):Option R:=g H (rH [.n,.n] K)
def x45a (f:ADn R):List Value->Heap->(Value->Heap->Option R)->Option R:=jf 1 [.p] x45c f
variable {f0 f1}
theorem x45e (k:Nat) (H:Heap) (K:Value->Heap->Option R):fE Try.prog An (x45C f0 f1) (x45J k) x45t Try.f45 [.p] H K=mapT (λ g=> x45c g H K) [.p] (AI4 f0 f1 k):=by kernel_rfl
theorem x45S (R:Type) (k:Nat):CSound Try.prog (x45C (R:=R) ABU (ABT k)):=AAB (ASx R k) <|AAB (AWq R k) <|AAE
theorem AXH (R:Type) (k:Nat):∀args H K r,x45a (ACV k) args H K=some (r:R)->∃v H',Tri Try.prog 45 args H v H'/\K v H'=some r:=fj (x45S R k) (x45J k) Try.func45 (by kernel_rfl) (A:=True) trivial (by kernel_rfl) (λ _ _=> .trans (x45e _ _ _) (by kernel_rfl))
end
abbrev AGe (R:Type):Type:=Oa->Int->Int->Int->Heap->Option R
abbrev AGf (R T:Type):Type:=(Int->Heap->Option R)->(Int->Int->Heap->Option R)->T
abbrev AEY (R:Type):Type:=AGf R (Nat->AGe R)
abbrev AK2 (R:Type):Type:=Heap->(Int->Int->Heap->Option R)->Option R
abbrev AER (R:Type):Type:=Oa->Int->AK2 R
section
variable {R:Type} (f0:ADl R) (z0:AEY R)
def AC9 (k:Nat):AGf R (AGe R->AGe R):=λ KE0 KR rec p1 n2 n3 n4 H=>
bif decide (n4 < n3) then (f0 p1 H λ n5 n6 H7=>
bif (n6 !=0) then (KR 0 n6 H7)
 else (hbin .or .i64 (IntKind.wrap .i64 (n2 * 2)) n5 λ n8=>
rec p1 n8 n3 (IntKind.wrap .i64 (n4+1)) H7))
 else (KE0 n2 H)
def AA6 (k:Nat):AEY R
 |KE0,KR,0=> λ _ _ _ _ _=> none
 |KE0,KR,n+1=> AC9 (ABT k) k KE0 KR (AA6 k KE0 KR n)
def AIN (k:Nat):AER R:=λ p1 n2 H K=>
z0 (λ n6 H7=>
K n6 0 H7) (λ n8 n9 H10=>
K n8 n9 H10) k p1 0 n2 0 H
def ADB (k:Nat):AER R:=AIN (AA6 k) k
def x89C:Tab R:=tcons 67 (x67a f0) <|λ _ _ _ _=> none
def AOs:PS:=⟨(.seq (.reg [0,6,9,10,11] []) (.seq (.cond .leaf .leaf) (.seq (.node (.seq (.reg [0,6,7,8,9,10] []) (.seq (.seq (.reg [0,6,7,8,9,10,18] []) (.cond (.seq (.reg [4,5] []) .leaf) .leaf)) (.reg [0,6,9,10] [])))) (.reg [0,6,9,10] [])))),[0,6,9,10],[.p,.n,.n,.n],⟨[],[(0,[6])],[4,5]⟩⟩
def AWP {T:Type} (g:AGf R T) (H:Heap) (K:XK R):T:=g (kH (.exit 0) [6] [.n] K) (kH .ret [4,5] [.n,.n] K)
def AUC (f:AEY R):Nat->List Value->Heap->XK R->Option R:=jl AOs (L:=AEY R) AWP pH f
def x89J (k:Nat):JTab R:=tcons 0 (AUC z0 k) <|λ _ _ _ _=> none
def x89t:AT:=(.seq (.reg [0,1] []) (.seq (.reg [0,1,6] []) (.seq (.seq (.reg [0,6,9,10] []) (.node (.opq 0 AOs.ls AOs.out (.node AOs.t)))) (.seq (.reg [4,5] []) .leaf))))
def x89c (g:AK2 R) (H:Heap) (K:Value->Heap->Option R):Option R:=g H (rH [.n,.n] K)
def x89a (f:AER R):List Value->Heap->(Value->Heap->Option R)->Option R:=jf 2 [.p,.n] x89c f
variable {f0 z0}
theorem Acr (k n:Nat) (H:Heap) (K:XK R):lE Try.prog An 26 (x89C f0) (x89J z0 k) AOs (sel [1,1,0,1,0,0] (bd Try.f89)) (AUC z0) n H K=mapT (λ g=> pH g H) AOs.ts (AWP (AC9 f0 k) H K (AWP z0 H K n)):=by kernel_rfl
theorem x89e (k:Nat) (H:Heap) (K:Value->Heap->Option R):fE Try.prog An (x89C f0) (x89J z0 k) x89t Try.f89 [.p,.n] H K=mapT (λ g=> x89c g H K) [.p,.n] (AIN z0 k):=by kernel_rfl
theorem x89S (R:Type) (k:Nat):CSound Try.prog (x89C (R:=R) (ABT k)):=AAB (AWq R k) <|AAE
theorem Acq (R:Type) (k:Nat):JS Try.prog 26 (AUC (AA6 (R:=R) k) k) AOs.ls AOs.out (.loop (sel [1,1,0,1,0,0] (bd Try.f89))):=lj (x89S R k) (x89J (AA6 k) k) (by kernel_rfl) (A:=True) trivial (by kernel_rfl) (λ _ _=> by kernel_rfl) (λ _ _ _=> .trans (Acr _ _ _ _) (by kernel_rfl)) k
theorem AZa (R:Type) (k:Nat):∀args H K r,x89a (ADB k) args H K=some (r:R)->∃v H',Tri Try.prog 89 args H v H'/\K v H'=some r:=fj (x89S R k) (x89J (AA6 k) k) Try.func89 (by kernel_rfl) (A:=JS Try.prog 26 (AUC (AA6 (R:=R) k) k) AOs.ls AOs.out (.loop (sel [1,1,0,1,0,0] (bd Try.f89)))/\True) ⟨Acq R k,trivial⟩ (by kernel_rfl) (λ _ _=> .trans (x89e _ _ _) (by kernel_rfl))
end
abbrev AJy (R:Type):Type:=Heap->(Int->Int->Heap->Option R)->Option R
abbrev AE6 (R:Type):Type:=Oa->Oa->AJy R
section
variable {R:Type} (f0:AER R)
def AE7 (k:Nat):AE6 R:=λ p1 p2 H K=>
ldP H p1 λ p3=>
ldI .i64 H p2 λ n4=>
f0 p3 n4 H λ n5 n6 H7=>
K n5 n6 H7
def AET (k:Nat):AE6 R:=AE7 (ADB k) k
def x91C:Tab R:=tcons 89 (x89a f0) <|λ _ _ _ _=> none
def x91J (k:Nat):JTab R:=λ _ _ _ _=> none
def x91t:AT:=(.seq (.reg [0,1] []) (.seq (.reg [2,3] []) .leaf))
def x91c (g:AJy R) (H:Heap) (K:Value->Heap->Option R):Option R:=g H (rH [.n,.n] K)
def x91a (f:AE6 R):List Value->Heap->(Value->Heap->Option R)->Option R:=jf 2 [.p,.p] x91c f
variable {f0}
theorem x91e (k:Nat) (H:Heap) (K:Value->Heap->Option R):fE Try.prog An (x91C f0) (x91J k) x91t Try.f91 [.p,.p] H K=mapT (λ g=> x91c g H K) [.p,.p] (AE7 f0 k):=by kernel_rfl
theorem x91S (R:Type) (k:Nat):CSound Try.prog (x91C (R:=R) (ADB k)):=AAB (AZa R k) <|AAE
theorem Aco (R:Type) (k:Nat):∀args H K r,x91a (AET k) args H K=some (r:R)->∃v H',Tri Try.prog 91 args H v H'/\K v H'=some r:=fj (x91S R k) (x91J k) Try.func91 (by kernel_rfl) (A:=True) trivial (by kernel_rfl) (λ _ _=> .trans (x91e _ _ _) (by kernel_rfl))
end
abbrev AIY (R:Type):Type:=Heap->(Int->Int->Heap->Option R)->Option R
abbrev ADg (R:Type):Type:=Oa->Oa->Oa->AIY R
section
variable {R:Type} (f0:AE6 R)
def ADh (k:Nat):ADg R:=λ p1 p2 p3 H K=>
hnil p1 λ p4=>
hfad 2 p4 λ p5=>
ldI .i64 H p5 λ n6=>
hnil p1 λ p7=>
hfad 3 p7 λ p8=>
ldI .i64 H p8 λ n9=>
f0 p2 p3 H λ n10 n11 H12=>
bif (n11 !=0) then (hnil p1 λ p13=>
hfad 2 p13 λ p14=>
hst1 H12 p14 (.int .i64 n6) λ H15=>
hnil p1 λ p16=>
hfad 3 p16 λ p17=>
hst1 H15 p17 (.int .i64 n9) λ H18=>
K 0 n11 H18)
 else (K n10 0 H12)
def AC7 (k:Nat):ADg R:=ADh (AET k) k
def ASm:Tab R:=tcons 91 (x91a f0) <|λ _ _ _ _=> none
def ASl (k:Nat):JTab R:=λ _ _ _ _=> none
def AWR:AT:=(.seq (.reg [0,1] []) (.seq (.reg [0,1,6,7] (ms [0,1,3,7,0,16,48,112,15,511])) (.seq (.reg [0,6,7,8,9] []) (.seq (.seq (.reg [0,6,7,8,9,24] []) (.cond (.seq (.reg [9] []) (.seq (.reg [4,5] []) .leaf)) .leaf)) (.seq (.reg [4,5] []) .leaf)))))
def ASj (g:AIY R) (H:Heap) (K:Value->Heap->Option R):Option R:=g H (rH [.n,.n] K)
def ASk (f:ADg R):List Value->Heap->(Value->Heap->Option R)->Option R:=jf 2 [.p,(.f 91 2),.p,.p] ASj f
variable {f0}
theorem AWS (k:Nat) (H:Heap) (K:Value->Heap->Option R):fE Try.prog An (ASm f0) (ASl k) AWR Try.f86 [.p,(.f 91 2),.p,.p] H K=mapT (λ g=> ASj g H K) [.p,(.f 91 2),.p,.p] (ADh f0 k):=by kernel_rfl
theorem AWT (R:Type) (k:Nat):CSound Try.prog (ASm (R:=R) (AET k)):=AAB (Aco R k) <|AAE
theorem AUE (R:Type) (k:Nat):∀args H K r,ASk (AC7 k) args H K=some (r:R)->∃v H',Tri Try.prog 86 args H v H'/\K v H'=some r:=fj (AWT R k) (ASl k) Try.func86 (by kernel_rfl) (A:=True) trivial (by kernel_rfl) (λ _ _=> .trans (AWS _ _ _) (by kernel_rfl))
end
end Go.Proofs.Ytmanlfonppfhaaa.Sh
set_option maxRecDepth 100000
namespace Go.Proofs.Ytmanlfonppfhaaa.Sh
open Go.Proofs.Ytmanlfonppfhaaa.FW
abbrev AJT (R:Type):Type:=Heap->(Oa->Oa->Option R)->(Int->Int->Option R)->Option R
abbrev AEc (R:Type):Type:=Oa->Oa->AJT R
abbrev AK3 (R:Type):Type:=Heap->(Int->Int->Heap->Option R)->Option R
abbrev AES (R:Type):Type:=Oa->Int->AK3 R
section
variable {R:Type} (f0:ACb R) (f1:ADg R) (z0:AEc R)
def ACO (k:Nat):AEc R:=λ p1 p2 H KN KR=>
ldI .i64 H p2 λ n3=>
bif decide (n3 < 0) then (KR 0 1)
 else (ldI .i64 H p2 λ n4=>
bif decide (n4 > 32) then (KR 0 1)
 else (KN p1 p2))
def ABO (k:Nat):AEc R:=ACO k
def ADC (k:Nat):AES R:=λ p1 n2 H K=>
hal H [.pointer p1] λ p3 H4=>
hal H4 [.int .i64 n2] λ p5 H6=>
ldP H6 p3 λ p7=>
f0 p7 H6 λ t8=>
bif (!t8) then (K 0 6 H6)
 else (z0 p3 p5 H6 (λ p13 p14=>
ldP H6 p13 λ p15=>
f1 p15 p13 p14 H6 λ n16 n17 H18=>
K n16 n17 H18) (λ n19 n20=>
K n19 n20 H6))
def ABu (k:Nat):AES R:=ADC ABU (AC7 k) (ABO k) k
def x73C:Tab R:=tcons 66 (x66a f0) <|tcons 86 (ASk f1) <|λ _ _ _ _=> none
def AO2:PS:=⟨(.seq (.reg [2,3,14] []) (.cond (.seq (.reg [4,5] []) .leaf) .leaf)),[2,3],[.p,.p],⟨[2,3],[],[4,5]⟩⟩
def AZh (g:AJT R) (H:Heap) (K:XK R):Option R:=g H (kN .normal [2,3] [.p,.p] K H) (kN .ret [4,5] [.n,.n] K H)
def AWl (f:AEc R):Nat->List Value->Heap->XK R->Option R:=jp AO2 AZh f
def x73J (k:Nat):JTab R:=tcons 0 (AWl z0 k) <|λ _ _ _ _=> none
def x73t:AT:=(.seq (.reg [2,3] []) (.seq (.seq (.reg [2,3,8] []) (.cond (.seq (.reg [4,5] []) .leaf) .leaf)) (.seq (.opq 0 AO2.ls AO2.out AO2.t) (.seq (.reg [4,5] []) .leaf))))
def x73c (g:AK3 R) (H:Heap) (K:Value->Heap->Option R):Option R:=g H (rH [.n,.n] K)
def x73a (f:AES R):List Value->Heap->(Value->Heap->Option R)->Option R:=jf 2 [.p,.n] x73c f
variable {f0 f1 z0}
theorem AdL (k:Nat) (H:Heap) (K:XK R):jE Try.prog An 20 (x73C f0 f1) (x73J z0 k) AO2 (sel [1,1,0] (bd Try.f73)) H K=mapT (λ g=> AZh g H K) AO2.ts (ACO k):=by kernel_rfl
theorem x73e (k:Nat) (H:Heap) (K:Value->Heap->Option R):fE Try.prog An (x73C f0 f1) (x73J z0 k) x73t Try.f73 [.p,.n] H K=mapT (λ g=> x73c g H K) [.p,.n] (ADC f0 f1 z0 k):=by kernel_rfl
theorem x73S (R:Type) (k:Nat):CSound Try.prog (x73C (R:=R) ABU (AC7 k)):=AAB (ASx R k) <|AAB (AUE R k) <|AAE
theorem AdK (R:Type) (k:Nat):JS Try.prog 20 (AWl (ABO (R:=R) k) k) AO2.ls AO2.out (sel [1,1,0] (bd Try.f73)):=pj (x73S R k) (x73J (ABO k) k) (by kernel_rfl) (A:=True) trivial (by kernel_rfl) (λ _ _=> .trans (AdL _ _ _) (by kernel_rfl))
theorem AZg (R:Type) (k:Nat):∀args H K r,x73a (ABu k) args H K=some (r:R)->∃v H',Tri Try.prog 73 args H v H'/\K v H'=some r:=fj (x73S R k) (x73J (ABO k) k) Try.func73 (by kernel_rfl) (A:=JS Try.prog 20 (AWl (ABO (R:=R) k) k) AO2.ls AO2.out (sel [1,1,0] (bd Try.f73))/\True) ⟨AdK R k,trivial⟩ (by kernel_rfl) (λ _ _=> .trans (x73e _ _ _) (by kernel_rfl))
end
abbrev AIi (R:Type):Type:=Heap->(Int->Int->Heap->Option R)->Option R
abbrev AD1 (R:Type):Type:=Int->Int->Bool->Oa->AIi R
section
variable {R:Type} (f0:ADn R)
def AF4 (k:Nat):AD1 R:=λ n1 n2 t3 p4 H K=>
hal H [.int .i64 n1,.int .i64 n2,.bool t3] λ p5 H6=>
ldP H6 p4 λ p7=>
f0 p7 H6 λ n8 n9 H10=>
K n8 n9 H10
def ABe (k:Nat):AD1 R:=AF4 (ACV k) k
def x85C:Tab R:=tcons 45 (x45a f0) <|λ _ _ _ _=> none
def x85J (k:Nat):JTab R:=λ _ _ _ _=> none
def x85t:AT:=(.seq (.reg [1] []) (.seq (.reg [3,4] []) .leaf))
def x85c (g:AIi R) (H:Heap) (K:Value->Heap->Option R):Option R:=g H (rH [.n,.n] K)
def x85a (f:AD1 R):List Value->Heap->(Value->Heap->Option R)->Option R:=jf 2 [(.a 3),.n,.n,.b,.p] x85c f
variable {f0}
theorem x85e (k:Nat) (H:Heap) (K:Value->Heap->Option R):fE Try.prog An (x85C f0) (x85J k) x85t Try.f85 [(.a 3),.n,.n,.b,.p] H K=mapT (λ g=> x85c g H K) [(.a 3),.n,.n,.b,.p] (AF4 f0 k):=by kernel_rfl
theorem x85S (R:Type) (k:Nat):CSound Try.prog (x85C (R:=R) (ACV k)):=AAB (AXH R k) <|AAE
theorem Acw (R:Type) (k:Nat):∀args H K r,x85a (ABe k) args H K=some (r:R)->∃v H',Tri Try.prog 85 args H v H'/\K v H'=some r:=fj (x85S R k) (x85J k) Try.func85 (by kernel_rfl) (A:=True) trivial (by kernel_rfl) (λ _ _=> .trans (x85e _ _ _) (by kernel_rfl))
end
abbrev AHh (R:Type):Type:=Heap->(Oa->Int->Int->Int->Oa->Oa->Nat->Nat->Int->Oa->Option R)->(Oa->Int->Int->Int->Oa->Oa->Nat->Nat->Int->Oa->Option R)->Option R
abbrev ACx (R:Type):Type:=Oa->Int->Int->Int->Oa->Oa->Nat->Nat->Int->Oa->AHh R
abbrev AEf (R:Type):Type:=Oa->Int->Int->Int->Oa->Oa->Nat->Nat->Int->Oa->Heap->Option R
abbrev AEg (R T:Type):Type:=(Oa->Int->Int->Int->Oa->Oa->Nat->Nat->Int->Oa->Heap->Option R)->(Int->Heap->Option R)->T
abbrev AC0 (R:Type):Type:=AEg R (Nat->AEf R)
abbrev AEh (R:Type):Type:=Oa->Int->Int->Int->Oa->Oa->Nat->Nat->Int->Int->Heap->Option R
abbrev AEi (R T:Type):Type:=(Oa->Int->Int->Oa->Nat->Nat->Heap->Option R)->(Int->Heap->Option R)->T
abbrev AC1 (R:Type):Type:=AEi R (Nat->AEh R)
abbrev AEd (R:Type):Type:=Oa->Int->Int->Oa->Nat->Nat->Int->Int->Heap->Option R
abbrev AEe (R T:Type):Type:=(Heap->Option R)->T
abbrev ACy (R:Type):Type:=AEe R (Nat->AEd R)
abbrev AIf (R:Type):Type:=Heap->(Int->Heap->Option R)->Option R
abbrev ADz (R:Type):Type:=Oa->Int->Int->Int->Oa->AIf R
section
variable {R:Type} (f0:AEH R) (f1:AD1 R) (z0:AC1 R) (z1:AC0 R) (z2:ACx R) (z3:ACy R)
def ABk (k:Nat):ACx R:=λ p1 n2 n3 n4 p5 q6 l7 c8 n9 p10 H KE2 KN=>
hfad 1 p10 λ p11=>
ldI .i64 H p11 λ n12=>
bif decide (n12 < n4) then (hfad 2 p10 λ p13=>
ldB H p13 λ t14=>
bif (!t14) then (KN p1 n2 n3 n4 p5 q6 l7 c8 n9 p10)
 else (KE2 p1 n2 n3 n4 p5 q6 l7 c8 n9 p10))
 else (KE2 p1 n2 n3 n4 p5 q6 l7 c8 n9 p10)
def AAP (k:Nat):ACx R:=ABk k
def ABl (k:Nat):AEg R (AEf R->AEf R):=λ KE2 KR rec p1 n2 n3 n4 p5 q6 l7 c8 n9 p10 H=>
z2 p1 n2 n3 n4 p5 q6 l7 c8 n9 p10 H (λ p31 n32 n33 n34 p35 q36 l37 c38 n39 p40=>
KE2 p31 n32 n33 n34 p35 q36 l37 c38 n39 p40 H) (λ p41 n42 n43 n44 p45 q46 l47 c48 n49 p50=>
ldI .i64 H (pad p50 0) λ n51=>
ldI .i64 H (pad p50 1) λ n52=>
ldB H (pad p50 2) λ t53=>
f1 n51 n52 t53 p45 H λ n54 n55 H56=>
bif (n55 !=0) then (KR n55 H56)
 else (bif (n54==1) then (hfad 2 p50 λ p57=>
hst1 H56 p57 (.bool true) λ H58=>
rec p41 n42 n43 n44 p45 q46 l47 c48 n49 p50 H58)
 else (hfad 1 p50 λ p59=>
ldI .i64 H56 p59 λ n60=>
hfad 1 p50 λ p61=>
hst1 H56 p61 (.int .i64 (IntKind.wrap .i64 (n60+1))) λ H62=>
rec p41 n42 n43 n44 p45 q46 l47 c48 n49 p50 H62)))
def AAG (k:Nat):AC0 R
 |KE2,KR,0=> λ _ _ _ _ _ _ _ _ _ _ _=> none
 |KE2,KR,n+1=> ABl (ABe k) (AAP k) k KE2 KR (AAG k KE2 KR n)
def AC2 (k:Nat):AEi R (AEh R->AEh R):=λ KE0 KR rec p1 n2 n3 n4 p5 q6 l7 c8 n9 n10 H=>
bif decide (n10≥0) then (f0 p1 n10 n2 n3 H λ p11=>
hnil p11 λ p12=>
ldI .i64 H (pad p12 0) λ n13=>
ldI .i64 H (pad p12 1) λ n14=>
ldB H (pad p12 2) λ t15=>
hal H [.int .i64 0,.int .i64 0,.bool false] λ p16 H17=>
hst H17 p16 [.int .i64 n13,.int .i64 n14,.bool t15] λ H18=>
hfad 1 p16 λ p19=>
ldI .i64 H18 p19 λ n20=>
hfad 1 p16 λ p21=>
hst1 H18 p21 (.int .i64 (imx n20 n9)) λ H22=>
z1 (λ p34 n35 n36 n37 p38 q39 l40 c41 n42 p43 H44=>
hfad 1 p43 λ p45=>
ldI .i64 H44 p45 λ n46=>
ldI .i64 H44 (pad p43 0) λ n47=>
ldI .i64 H44 (pad p43 1) λ n48=>
ldB H44 (pad p43 2) λ t49=>
hidx q39 l40 n42 3 λ p50=>
hst H44 p50 [.int .i64 n47,.int .i64 n48,.bool t49] λ H51=>
rec p34 n35 n36 n37 p38 q39 l40 c41 n46 (IntKind.wrap .i64 (n42 - 1)) H51) (λ n52 H53=>
KR n52 H53) k p1 n2 n3 n4 p5 q6 l7 c8 n10 p16 H22)
 else (KE0 p1 n2 n3 q6 l7 c8 H)
def AAK (k:Nat):AC1 R
 |KE0,KR,0=> λ _ _ _ _ _ _ _ _ _ _ _=> none
 |KE0,KR,n+1=> AC2 AAg (AAG k) k KE0 KR (AAK k KE0 KR n)
def ACz (k:Nat):AEe R (AEd R->AEd R):=λ KE4 rec p1 n2 n3 q4 l5 c6 n7 n8 H=>
bif decide (n8 < n7) then (hidx q4 l5 n8 3 λ p9=>
ldI .i64 H (pad p9 0) λ n10=>
ldI .i64 H (pad p9 1) λ n11=>
ldB H (pad p9 2) λ t12=>
hal H [.int .i64 0,.int .i64 0,.bool false] λ p13 H14=>
hst H14 p13 [.int .i64 n10,.int .i64 n11,.bool t12] λ H15=>
f0 p1 n8 n2 n3 (roH H15) λ p16=>
ldI .i64 (H15++(roH H15).drop H15.length) (pad p13 0) λ n17=>
ldI .i64 (H15++(roH H15).drop H15.length) (pad p13 1) λ n18=>
ldB (H15++(roH H15).drop H15.length) (pad p13 2) λ t19=>
hnil p16 λ p20=>
hst (H15++(roH H15).drop H15.length) p20 [.int .i64 n17,.int .i64 n18,.bool t19] λ H21=>
rec p1 n2 n3 q4 l5 c6 n7 (IntKind.wrap .i64 (n8+1)) H21)
 else (KE4 H)
def AAN (k:Nat):ACy R
 |KE4,0=> λ _ _ _ _ _ _ _ _ _=> none
 |KE4,n+1=> ACz AAg k KE4 (AAN k KE4 n)
def AF2 (k:Nat):ADz R:=λ p1 n2 n3 n4 p5 H K=>
hnil p1 λ p6=>
hfad 0 p6 λ p7=>
ldL H p7 λ q8 l9 c10=>
hmk [.int .i64 0,.int .i64 0,.bool false] 24 H ((l9:Nat):Int) ((l9:Nat):Int) λ q11 l12 c13 H14=>
hnil p1 λ p15=>
hfad 0 p15 λ p16=>
ldL H14 p16 λ q17 l18 c19=>
z0 (λ p27 n28 n29 q30 l31 c32 H33=>
z3 (λ H34=>
K 0 H34) k p27 n28 n29 q30 l31 c32 ((l31:Nat):Int) 0 H33) (λ n35 H36=>
K n35 H36) k p1 n2 n3 n4 p5 q11 l12 c13 0 (IntKind.wrap .i64 (((l18:Nat):Int) - 1)) H14
def AB5 (k:Nat):ADz R:=AF2 (AAK k) (AAN k) k
def ANm:Tab R:=tcons 56 (x56a f0) <|tcons 85 (x85a f1) <|λ _ _ _ _=> none
def AJh:PS:=⟨(.seq (.reg [0,1,2,78,79,80,81] []) (.seq (.cond .leaf .leaf) (.seq (.node (.seq (.reg [0,1,2,17,18,78,79,80] []) (.reg [0,1,2,78,79,80] (ms [0,0,0,0,15,0,63,127])))) (.reg [0,1,2,78,79,80] [])))),[0,1,2,78,79,80],[.p,.n,.n,.l,.n,.n],⟨[],[(4,[])],[]⟩⟩
def AQj {T:Type} (g:AEe R T) (H:Heap) (K:XK R):T:=g (kH (.exit 4) [] [] K)
def AOC (f:ACy R):Nat->List Value->Heap->XK R->Option R:=jl AJh (L:=ACy R) AQj pH f
def AJi:PS:=⟨(.seq (.reg [0,1,2,3,4,11,13,14,55] []) (.cond .leaf .leaf)),[0,1,2,3,4,11,13,14],[.p,.n,.n,.n,(.f 85 1),.p,.l,.n,.p],⟨[0,1,2,3,4,11,13,14],[(2,[0,1,2,3,4,11,13,14])],[]⟩⟩
def ARn (g:AHh R) (H:Heap) (K:XK R):Option R:=g H (kN (.exit 2) [0,1,2,3,4,11,13,14] [.p,.n,.n,.n,(.f 85 1),.p,.l,.n,.p] K H) (kN .normal [0,1,2,3,4,11,13,14] [.p,.n,.n,.n,(.f 85 1),.p,.l,.n,.p] K H)
def AQm (f:ACx R):Nat->List Value->Heap->XK R->Option R:=jp AJi ARn f
def AJj:PS:=⟨(.seq (.opq 2 AJi.ls AJi.out AJi.t) (.node (.seq (.reg [0,1,2,3,4,11,13,14,15,16] []) (.seq (.seq (.reg [0,1,2,3,4,11,13,14,15,16,63] []) (.cond (.seq (.reg [10] []) .leaf) .leaf)) (.seq (.reg [0,1,2,3,4,11,13,14,66] []) (.cond (.reg [0,1,2,3,4,11,13,14] []) (.reg [0,1,2,3,4,11,13,14] []))))))),[0,1,2,3,4,11,13,14],[.p,.n,.n,.n,(.f 85 1),.p,.l,.n,.p],⟨[],[(2,[0,1,2,3,4,11,13,14])],[10]⟩⟩
def AQk {T:Type} (g:AEg R T) (H:Heap) (K:XK R):T:=g (kH (.exit 2) [0,1,2,3,4,11,13,14] [.p,.n,.n,.n,(.f 85 1),.p,.l,.n,.p] K) (kH .ret [10] [.n] K)
def AOD (f:AC0 R):Nat->List Value->Heap->XK R->Option R:=jl AJj (L:=AC0 R) AQk pH f
def AJk:PS:=⟨(.seq (.seq (.reg [0,1,2,3,4,11,12,13,32] []) (.cond .leaf .leaf)) (.seq (.node (.seq (.reg [0,1,2,3,4,11,12,13,14] []) (.seq (.reg [0,1,2,3,4,11,13,14] []) (.seq (.node (.opq 1 AJj.ls AJj.out (.node AJj.t))) (.reg [0,1,2,3,4,11,12,13] (ms [0,0,0,4,0,12,63,127])))))) (.reg [0,1,2,3,4,11,12,13] []))),[0,1,2,3,4,11,12,13],[.p,.n,.n,.n,(.f 85 1),.p,.l,.n,.n],⟨[],[(0,[0,1,2,11])],[10]⟩⟩
def AQl {T:Type} (g:AEi R T) (H:Heap) (K:XK R):T:=g (kH (.exit 0) [0,1,2,11] [.p,.n,.n,.l] K) (kH .ret [10] [.n] K)
def AOE (f:AC1 R):Nat->List Value->Heap->XK R->Option R:=jl AJk (L:=AC1 R) AQl pH f
def ALz (k:Nat):JTab R:=tcons 0 (AOE z0 k) <|tcons 1 (AOD z1 k) <|tcons 2 (AQm z2 k) <|tcons 3 (AOC z3 k) <|λ _ _ _ _=> none
def AWa:AT:=(.seq (.reg [0,1,2,3,4] []) (.seq (.reg [0,1,2,3,4,11] []) (.seq (.reg [0,1,2,3,4,11,12] []) (.seq (.seq (.reg [0,1,2,3,4,11,12,13] []) (.node (.opq 0 AJk.ls AJk.out (.node AJk.t)))) (.seq (.seq (.reg [0,1,2,78,79,80] []) (.node (.opq 3 AJh.ls AJh.out (.node AJh.t)))) (.seq (.reg [10] []) .leaf))))))
def ASv (g:AIf R) (H:Heap) (K:Value->Heap->Option R):Option R:=g H (rH [.n] K)
def ASw (f:ADz R):List Value->Heap->(Value->Heap->Option R)->Option R:=jf 5 [.p,.n,.n,.n,(.f 85 1),.p] ASv f
variable {f0 f1 z0 z1 z2 z3}
theorem AUL (k n:Nat) (H:Heap) (K:XK R):lE Try.prog An 93 (ANm f0 f1) (ALz z0 z1 z2 z3 k) AJh (sel [1,1,1,1,0,1,0,0] (bd Try.f82)) (AOC z3) n H K=mapT (λ g=> pH g H) AJh.ts (AQj (ACz f0 k) H K (AQj z3 H K n)):=by kernel_rfl
theorem AUM (k:Nat) (H:Heap) (K:XK R):jE Try.prog An 93 (ANm f0 f1) (ALz z0 z1 z2 z3 k) AJi (sel [1,1,1,0,1,0,0,1,0,0,1,1,0,0,0,0] (bd Try.f82)) H K=mapT (λ g=> ARn g H K) AJi.ts (ABk k):=by kernel_rfl
theorem AUN (k n:Nat) (H:Heap) (K:XK R):lE Try.prog An 93 (ANm f0 f1) (ALz z0 z1 z2 z3 k) AJj (sel [1,1,1,0,1,0,0,1,0,0,1,1,0,0,0] (bd Try.f82)) (AOD z1) n H K=mapT (λ g=> pH g H) AJj.ts (AQk (ABl f1 z2 k) H K (AQk z1 H K n)):=by kernel_rfl
theorem AUO (k n:Nat) (H:Heap) (K:XK R):lE Try.prog An 93 (ANm f0 f1) (ALz z0 z1 z2 z3 k) AJk (sel [1,1,1,0,1,0,0] (bd Try.f82)) (AOE z0) n H K=mapT (λ g=> pH g H) AJk.ts (AQl (AC2 f0 z1 k) H K (AQl z0 H K n)):=by kernel_rfl
theorem AWb (k:Nat) (H:Heap) (K:Value->Heap->Option R):fE Try.prog An (ANm f0 f1) (ALz z0 z1 z2 z3 k) AWa Try.f82 [.p,.n,.n,.n,(.f 85 1),.p] H K=mapT (λ g=> ASv g H K) [.p,.n,.n,.n,(.f 85 1),.p] (AF2 z0 z3 k):=by kernel_rfl
theorem AOK (R:Type) (k:Nat):CSound Try.prog (ANm (R:=R) AAg (ABe k)):=AAB (AWv R k) <|AAB (Acw R k) <|AAE
theorem AUH (R:Type) (k:Nat):JS Try.prog 93 (AOC (AAN (R:=R) k) k) AJh.ls AJh.out (.loop (sel [1,1,1,1,0,1,0,0] (bd Try.f82))):=lj (AOK R k) (ALz (AAK k) (AAG k) (AAP k) (AAN k) k) (by kernel_rfl) (A:=True) trivial (by kernel_rfl) (λ _ _=> by kernel_rfl) (λ _ _ _=> .trans (AUL _ _ _ _) (by kernel_rfl)) k
theorem AUI (R:Type) (k:Nat):JS Try.prog 93 (AQm (AAP (R:=R) k) k) AJi.ls AJi.out (sel [1,1,1,0,1,0,0,1,0,0,1,1,0,0,0,0] (bd Try.f82)):=pj (AOK R k) (ALz (AAK k) (AAG k) (AAP k) (AAN k) k) (by kernel_rfl) (A:=True) trivial (by kernel_rfl) (λ _ _=> .trans (AUM _ _ _) (by kernel_rfl))
theorem AUJ (R:Type) (k:Nat):JS Try.prog 93 (AOD (AAG (R:=R) k) k) AJj.ls AJj.out (.loop (sel [1,1,1,0,1,0,0,1,0,0,1,1,0,0,0] (bd Try.f82))):=lj (AOK R k) (ALz (AAK k) (AAG k) (AAP k) (AAN k) k) (by kernel_rfl) (A:=JS Try.prog 93 (AQm (AAP (R:=R) k) k) AJi.ls AJi.out (sel [1,1,1,0,1,0,0,1,0,0,1,1,0,0,0,0] (bd Try.f82))/\True) ⟨AUI R k,trivial⟩ (by kernel_rfl) (λ _ _=> by kernel_rfl) (λ _ _ _=> .trans (AUN _ _ _ _) (by kernel_rfl)) k
theorem AUK (R:Type) (k:Nat):JS Try.prog 93 (AOE (AAK (R:=R) k) k) AJk.ls AJk.out (.loop (sel [1,1,1,0,1,0,0] (bd Try.f82))):=lj (AOK R k) (ALz (AAK k) (AAG k) (AAP k) (AAN k) k) (by kernel_rfl) (A:=JS Try.prog 93 (AOD (AAG (R:=R) k) k) AJj.ls AJj.out (.loop (sel [1,1,1,0,1,0,0,1,0,0,1,1,0,0,0] (bd Try.f82)))/\True) ⟨AUJ R k,trivial⟩ (by kernel_rfl) (λ _ _=> by kernel_rfl) (λ _ _ _=> .trans (AUO _ _ _ _) (by kernel_rfl)) k
theorem AUP (R:Type) (k:Nat):∀args H K r,ASw (AB5 k) args H K=some (r:R)->∃v H',Tri Try.prog 82 args H v H'/\K v H'=some r:=fj (AOK R k) (ALz (AAK k) (AAG k) (AAP k) (AAN k) k) Try.func82 (by kernel_rfl) (A:=JS Try.prog 93 (AOE (AAK (R:=R) k) k) AJk.ls AJk.out (.loop (sel [1,1,1,0,1,0,0] (bd Try.f82)))/\JS Try.prog 93 (AOC (AAN (R:=R) k) k) AJh.ls AJh.out (.loop (sel [1,1,1,1,0,1,0,0] (bd Try.f82)))/\True) ⟨AUK R k,⟨AUH R k,trivial⟩⟩ (by kernel_rfl) (λ _ _=> .trans (AWb _ _ _) (by kernel_rfl))
end
abbrev AIV (R:Type):Type:=Heap->(Oa->Int->Int->Int->Oa->Option R)->(Bool->Int->Option R)->Option R
abbrev ADY (R:Type):Type:=Oa->Int->Int->Int->Oa->AIV R
abbrev AIU (R:Type):Type:=Heap->(Oa->Int->Int->Int->Oa->Heap->Option R)->(Bool->Int->Heap->Option R)->Option R
abbrev ADX (R:Type):Type:=Oa->Int->Int->Int->Oa->AIU R
abbrev AJt (R:Type):Type:=Heap->(Bool->Int->Heap->Option R)->Option R
abbrev AEs (R:Type):Type:=Oa->Oa->Int->Int->Int->AJt R
section
variable {R:Type} (f0:AEG R) (f1:AES R) (f2:AEr R) (f3:ADz R) (f4:AEH R) (z0:ADY R) (z1:ADX R)
def ADZ (k:Nat):ADY R:=λ p1 n2 n3 n4 p5 H KN KR=>
f0 p1 H λ t6=>
bif (!t6) then (KR false 6)
 else (hnil p1 λ p7=>
hfad 1 p7 λ p8=>
ldB H p8 λ t9=>
bif t9 then (KR false 6)
 else (KN p1 n2 n3 n4 p5))
def ABN (k:Nat):ADY R:=ADZ AB6 k
def AFs (k:Nat):ADX R:=λ p1 n2 n3 n4 p5 H KN KR=>
f2 p1 n2 n3 H λ t6 H7=>
bif (!t6) then (KR false 2 H7)
 else (bif decide (n4 < 0) then (KR false 2 H7)
 else (bif decide (n4 > 65536) then (KR false 2 H7)
 else (KN p1 n2 n3 n4 p5 H7)))
def ABw (k:Nat):ADX R:=AFs ADp k
def AEt (k:Nat):AEs R:=λ p1 p2 n3 n4 n5 H K=>
hal H [.pointer p2] λ p6 H7=>
z0 p1 n3 n4 n5 p6 H7 (λ p15 n16 n17 n18 p19=>
ldP H7 p19 λ p20=>
f1 p20 0 H7 λ n21 n22 H23=>
bif (n22 !=0) then (K false 6 H23)
 else (z1 p15 n16 n17 n18 p19 H23 (λ p31 n32 n33 n34 p35 H36=>
f3 p31 n32 n33 n34 p35 H36 λ n37 H38=>
bif (n37 !=0) then (K false n37 H38)
 else (hnil p31 λ p39=>
hfad 2 p39 λ p40=>
hst1 H38 p40 (.bool true) λ H41=>
f4 p31 0 n32 n33 H41 λ p42=>
hnil p42 λ p43=>
hfad 2 p43 λ p44=>
ldB H41 p44 λ t45=>
bif t45 then (hnil p42 λ p46=>
hfad 1 p46 λ p47=>
ldI .i64 H41 p47 λ n48=>
K (decide (n48 < n34)) 0 H41)
 else (K false 0 H41))) (λ t49 n50 H51=>
K t49 n50 H51))) (λ t52 n53=>
K t52 n53 H7)
def AAy (k:Nat):AEs R:=AEt (ABu k) (AB5 k) AAg (ABN k) (ABw k) k
def x68C:Tab R:=tcons 54 (x54a f0) <|tcons 73 (x73a f1) <|tcons 55 (x55a f2) <|tcons 82 (ASw f3) <|tcons 56 (x56a f4) <|λ _ _ _ _=> none
def AO5:PS:=⟨(.seq (.reg [0,2,3,4,6,44] []) (.cond (.seq (.reg [10,11] []) .leaf) .leaf)),[0,2,3,4,6],[.p,.n,.n,.n,.p],⟨[0,2,3,4,6],[],[10,11]⟩⟩
def AZk (g:AIU R) (H:Heap) (K:XK R):Option R:=g H (kH .normal [0,2,3,4,6] [.p,.n,.n,.n,.p] K) (kH .ret [10,11] [.b,.n] K)
def AWo (f:ADX R):Nat->List Value->Heap->XK R->Option R:=jp AO5 AZk f
def AO6:PS:=⟨(.seq (.reg [0,2,3,4,6,24] []) (.cond (.seq (.reg [10,11] []) .leaf) .leaf)),[0,2,3,4,6],[.p,.n,.n,.n,.p],⟨[0,2,3,4,6],[],[10,11]⟩⟩
def AZl (g:AIV R) (H:Heap) (K:XK R):Option R:=g H (kN .normal [0,2,3,4,6] [.p,.n,.n,.n,.p] K H) (kN .ret [10,11] [.b,.n] K H)
def AWp (f:ADY R):Nat->List Value->Heap->XK R->Option R:=jp AO6 AZl f
def x68J (k:Nat):JTab R:=tcons 0 (AWp z0 k) <|tcons 1 (AWo z1 k) <|λ _ _ _ _=> none
def x68t:AT:=(.seq (.reg [0,2,3,4,6] []) (.seq (.opq 0 AO6.ls AO6.out AO6.t) (.seq (.seq (.reg [0,2,3,4,6,13] []) (.seq (.reg [0,2,3,4,6,31] []) (.cond (.seq (.reg [10,11] []) .leaf) .leaf))) (.seq (.opq 1 AO5.ls AO5.out AO5.t) (.seq (.reg [0,2,3,4,14] []) (.seq (.seq (.reg [0,2,3,4,14,52] []) (.cond (.seq (.reg [10,11] []) .leaf) .leaf)) (.seq (.reg [0,2,3,4] []) (.seq (.reg [4,15] []) (.seq (.reg [10,11] []) .leaf)))))))))
def x68c (g:AJt R) (H:Heap) (K:Value->Heap->Option R):Option R:=g H (rH [.b,.n] K)
def x68a (f:AEs R):List Value->Heap->(Value->Heap->Option R)->Option R:=jf 5 [.p,.p,.n,.n,.n] x68c f
variable {f0 f1 f2 f3 f4 z0 z1}
theorem AdW (k:Nat) (H:Heap) (K:XK R):jE Try.prog An 73 (x68C f0 f1 f2 f3 f4) (x68J z0 z1 k) AO5 (sel [1,1,1,0] (bd Try.f68)) H K=mapT (λ g=> AZk g H K) AO5.ts (AFs f2 k):=by kernel_rfl
theorem AdX (k:Nat) (H:Heap) (K:XK R):jE Try.prog An 73 (x68C f0 f1 f2 f3 f4) (x68J z0 z1 k) AO6 (sel [1,0] (bd Try.f68)) H K=mapT (λ g=> AZl g H K) AO6.ts (ADZ f0 k):=by kernel_rfl
theorem x68e (k:Nat) (H:Heap) (K:Value->Heap->Option R):fE Try.prog An (x68C f0 f1 f2 f3 f4) (x68J z0 z1 k) x68t Try.f68 [.p,.p,.n,.n,.n] H K=mapT (λ g=> x68c g H K) [.p,.p,.n,.n,.n] (AEt f1 f3 f4 z0 z1 k):=by kernel_rfl
theorem x68S (R:Type) (k:Nat):CSound Try.prog (x68C (R:=R) AB6 (ABu k) ADp (AB5 k) AAg):=AAB (AWw R k) <|AAB (AZg R k) <|AAB (AZq R k) <|AAB (AUP R k) <|AAB (AWv R k) <|AAE
theorem AdU (R:Type) (k:Nat):JS Try.prog 73 (AWo (ABw (R:=R) k) k) AO5.ls AO5.out (sel [1,1,1,0] (bd Try.f68)):=pj (x68S R k) (x68J (ABN k) (ABw k) k) (by kernel_rfl) (A:=True) trivial (by kernel_rfl) (λ _ _=> .trans (AdW _ _ _) (by kernel_rfl))
theorem AdV (R:Type) (k:Nat):JS Try.prog 73 (AWp (ABN (R:=R) k) k) AO6.ls AO6.out (sel [1,0] (bd Try.f68)):=pj (x68S R k) (x68J (ABN k) (ABw k) k) (by kernel_rfl) (A:=True) trivial (by kernel_rfl) (λ _ _=> .trans (AdX _ _ _) (by kernel_rfl))
theorem AdY (R:Type) (k:Nat):∀args H K r,x68a (AAy k) args H K=some (r:R)->∃v H',Tri Try.prog 68 args H v H'/\K v H'=some r:=fj (x68S R k) (x68J (ABN k) (ABw k) k) Try.func68 (by kernel_rfl) (A:=JS Try.prog 73 (AWp (ABN (R:=R) k) k) AO6.ls AO6.out (sel [1,0] (bd Try.f68))/\JS Try.prog 73 (AWo (ABw (R:=R) k) k) AO5.ls AO5.out (sel [1,1,1,0] (bd Try.f68))/\True) ⟨AdV R k,⟨AdU R k,trivial⟩⟩ (by kernel_rfl) (λ _ _=> .trans (x68e _ _ _) (by kernel_rfl))
end
abbrev AIh (R:Type):Type:=Heap->(Oa->Int->Int->Heap->Option R)->(Int->Bool->Heap->Option R)->Option R
abbrev AD0 (R:Type):Type:=Oa->Int->Int->AIh R
abbrev AKV (R:Type):Type:=Heap->(Int->Bool->Heap->Option R)->Option R
abbrev AFa (R:Type):Type:=Oa->Int->Int->AKV R
section
variable {R:Type} (f0:AEG R) (f1:AEr R) (f2:AEH R) (z0:AD0 R)
def AF3 (k:Nat):AD0 R:=λ p1 n2 n3 H KN KR=>
f0 p1 H λ t4=>
bif (!t4) then (KR 0 false H)
 else (f1 p1 n2 n3 H λ t5 H6=>
bif (!t5) then (KR 0 false H6)
 else (f2 p1 0 n2 n3 H6 λ p7=>
hnil p7 λ p8=>
hfad 2 p8 λ p9=>
ldB H6 p9 λ t10=>
bif (!t10) then (KR 0 false H6)
 else (KN p1 n2 n3 H6)))
def ACZ (k:Nat):AD0 R:=AF3 AB6 ADp AAg k
def AHk (k:Nat):AFa R:=λ p1 n2 n3 H K=>
z0 p1 n2 n3 H (λ p9 n10 n11 H12=>
f2 p9 0 n10 n11 H12 λ p13=>
hnil p13 λ p14=>
hfad 1 p14 λ p15=>
ldI .i64 H12 p15 λ n16=>
K n16 true H12) (λ n17 t18 H19=>
K n17 t18 H19)
def ABz (k:Nat):AFa R:=AHk AAg (ACZ k) k
def x69C:Tab R:=tcons 54 (x54a f0) <|tcons 55 (x55a f1) <|tcons 56 (x56a f2) <|λ _ _ _ _=> none
def AO4:PS:=⟨(.seq (.reg [0,1,2,27] []) (.cond (.seq (.reg [6,7] []) .leaf) .leaf)),[0,1,2],[.p,.n,.n],⟨[0,1,2],[],[6,7]⟩⟩
def AZj (g:AIh R) (H:Heap) (K:XK R):Option R:=g H (kH .normal [0,1,2] [.p,.n,.n] K) (kH .ret [6,7] [.n,.b] K)
def AWn (f:AD0 R):Nat->List Value->Heap->XK R->Option R:=jp AO4 AZj f
def x69J (k:Nat):JTab R:=tcons 0 (AWn z0 k) <|λ _ _ _ _=> none
def x69t:AT:=(.seq (.reg [0,1,2] []) (.seq (.opq 0 AO4.ls AO4.out AO4.t) (.seq (.reg [6,7] []) .leaf)))
def x69c (g:AKV R) (H:Heap) (K:Value->Heap->Option R):Option R:=g H (rH [.n,.b] K)
def x69a (f:AFa R):List Value->Heap->(Value->Heap->Option R)->Option R:=jf 3 [.p,.n,.n] x69c f
variable {f0 f1 f2 z0}
theorem AdS (k:Nat) (H:Heap) (K:XK R):jE Try.prog An 35 (x69C f0 f1 f2) (x69J z0 k) AO4 (sel [1,0] (bd Try.f69)) H K=mapT (λ g=> AZj g H K) AO4.ts (AF3 f0 f1 f2 k):=by kernel_rfl
theorem x69e (k:Nat) (H:Heap) (K:Value->Heap->Option R):fE Try.prog An (x69C f0 f1 f2) (x69J z0 k) x69t Try.f69 [.p,.n,.n] H K=mapT (λ g=> x69c g H K) [.p,.n,.n] (AHk f2 z0 k):=by kernel_rfl
theorem x69S (R:Type) (k:Nat):CSound Try.prog (x69C (R:=R) AB6 ADp AAg):=AAB (AWw R k) <|AAB (AZq R k) <|AAB (AWv R k) <|AAE
theorem AdR (R:Type) (k:Nat):JS Try.prog 35 (AWn (ACZ (R:=R) k) k) AO4.ls AO4.out (sel [1,0] (bd Try.f69)):=pj (x69S R k) (x69J (ACZ k) k) (by kernel_rfl) (A:=True) trivial (by kernel_rfl) (λ _ _=> .trans (AdS _ _ _) (by kernel_rfl))
theorem AdT (R:Type) (k:Nat):∀args H K r,x69a (ABz k) args H K=some (r:R)->∃v H',Tri Try.prog 69 args H v H'/\K v H'=some r:=fj (x69S R k) (x69J (ACZ k) k) Try.func69 (by kernel_rfl) (A:=JS Try.prog 35 (AWn (ACZ (R:=R) k) k) AO4.ls AO4.out (sel [1,0] (bd Try.f69))/\True) ⟨AdR R k,trivial⟩ (by kernel_rfl) (λ _ _=> .trans (x69e _ _ _) (by kernel_rfl))
end
abbrev AF1 (R:Type):Type:=(Oa->Oa->Oa->Oa->Option R)->(Bool->Int->Option R)->Option R
abbrev ACJ (R:Type):Type:=Oa->Oa->Oa->Oa->Bool->Int->AF1 R
abbrev AF0 (R:Type):Type:=Heap->(Oa->Oa->Oa->Heap->Option R)->(Bool->Int->Heap->Option R)->Option R
abbrev ACI (R:Type):Type:=Oa->Oa->Oa->Oa->AF0 R
abbrev ADQ (R:Type):Type:=Oa->Oa->Oa->Int->Heap->Option R
abbrev ADR (R T:Type):Type:=(Heap->Option R)->(Bool->Int->Heap->Option R)->T
abbrev ACK (R:Type):Type:=ADR R (Nat->ADQ R)
abbrev AHA (R:Type):Type:=Heap->(Bool->Int->Heap->Option R)->Option R
abbrev ACk (R:Type):Type:=Oa->Oa->Oa->AHA R
section
variable {R:Type} (f0:ADn R) (f1:AEs R) (f2:AFa R) (z0:ACJ R) (z1:ACI R) (z2:ACK R)
def ABf (k:Nat):ACJ R:=λ p1 p2 p3 p4 t5 n6 KN KR=>
bif (n6 !=0) then (KR false n6)
 else (bif (!t5) then (KR false n6)
 else (KN p1 p2 p3 p4))
def AAL (k:Nat):ACJ R:=ABf k
def ADP (k:Nat):ACI R:=λ p1 p2 p3 p4 H KN KR=>
hfad 1 p4 λ p5=>
ldP H p5 λ p6=>
hnil p3 λ p7=>
hfad 1 p7 λ p8=>
ldI .i64 H p8 λ n9=>
hnil p3 λ p10=>
hfad 2 p10 λ p11=>
ldI .i64 H p11 λ n12=>
f2 p6 n9 n12 H λ n13 t14 H15=>
bif t14 then (hnil p1 λ p16=>
hfad 10 p16 λ p17=>
ldI .i64 H15 p17 λ n18=>
bif decide (n13 < n18) then (KR false 15 H15)
 else (KN p2 p3 p4 H15))
 else (KN p2 p3 p4 H15)
def AAV (k:Nat):ACI R:=ADP (ABz k) k
def ACL (k:Nat):ADR R (ADQ R->ADQ R):=λ KE0 KR rec p1 p2 p3 n4 H=>
hfad 0 p3 λ p5=>
ldI .i64 H p5 λ n6=>
bif decide (n4<=n6) then (hfad 2 p3 λ p7=>
ldP H p7 λ p8=>
hnil p2 λ p9=>
hfad 1 p9 λ p10=>
ldI .i64 H p10 λ n11=>
hnil p2 λ p12=>
hfad 2 p12 λ p13=>
ldI .i64 H p13 λ n14=>
f1 p8 p1 n11 n14 n4 H λ t15 n16 H17=>
bif (n16 !=0) then (KR false n16 H17)
 else (bif t15 then (hfad 2 p3 λ p18=>
ldP H17 p18 λ p19=>
hnil p2 λ p20=>
hfad 1 p20 λ p21=>
ldI .i64 H17 p21 λ n22=>
hnil p2 λ p23=>
hfad 2 p23 λ p24=>
ldI .i64 H17 p24 λ n25=>
f2 p19 n22 n25 H17 λ n26 t27 H28=>
hfrz H28 p3 λ H29=>
hfad 0 p3 λ p30=>
bif isRo H29 p30 then (ldI .i64 H29 p30 λ n31=>
hnil p2 λ p32=>
hfad 3 p32 λ p33=>
hst1 H29 p33 (.bool true) λ H34=>
hnil p2 λ p35=>
hfad 4 p35 λ p36=>
hst1 H34 p36 (.int .i64 (IntKind.wrap .i64 (n31 - n26))) λ H37=>
KR true 0 H37)
 else none)
 else (rec p1 p2 p3 (IntKind.wrap .i64 (n4+1)) H17)))
 else (KE0 H)
def AAF (k:Nat):ACK R
 |KE0,KR,0=> λ _ _ _ _ _=> none
 |KE0,KR,n+1=> ACL (AAy k) (ABz k) k KE0 KR (AAF k KE0 KR n)
def ACl (k:Nat):ACk R:=λ p1 p2 p3 H K=>
hnil p3 λ p4=>
hfad 3 p4 λ p5=>
ldB H p5 λ t6=>
bif t6 then (f0 p2 H λ n7 n8 H9=>
K (n7==1) n8 H9)
 else (hnil p1 λ p10=>
hfad 8 p10 λ p11=>
ldL H p11 λ q12 l13 c14=>
hnil p3 λ p15=>
hfad 0 p15 λ p16=>
ldI .i64 H p16 λ n17=>
hidx q12 l13 n17 3 λ p18=>
ldI .i64 H (pad p18 0) λ n19=>
ldP H (pad p18 1) λ p20=>
ldP H (pad p18 2) λ p21=>
hal H [.int .i64 0,.pointer none,.pointer none] λ p22 H23=>
hst H23 p22 [.int .i64 n19,.pointer p20,.pointer p21] λ H24=>
hfad 1 p22 λ p25=>
ldP H24 p25 λ p26=>
hnil p3 λ p27=>
hfad 1 p27 λ p28=>
ldI .i64 H24 p28 λ n29=>
hnil p3 λ p30=>
hfad 2 p30 λ p31=>
ldI .i64 H24 p31 λ n32=>
hnil p1 λ p33=>
hfad 10 p33 λ p34=>
ldI .i64 H24 p34 λ n35=>
f1 p26 p2 n29 n32 (IntKind.wrap .i64 (n35+1)) H24 λ t36 n37 H38=>
z0 p1 p2 p3 p22 t36 n37 (λ p45 p46 p47 p48=>
z1 p45 p46 p47 p48 H38 (λ p54 p55 p56 H57=>
z2 (λ H60=>
K false 15 H60) (λ t61 n62 H63=>
K t61 n62 H63) k p54 p55 p56 1 H57) (λ t64 n65 H66=>
K t64 n65 H66)) (λ t67 n68=>
K t67 n68 H38))
def AAj (k:Nat):ACk R:=ACl (ACV k) (AAy k) (AAL k) (AAV k) (AAF k) k
def x46C:Tab R:=tcons 45 (x45a f0) <|tcons 68 (x68a f1) <|tcons 69 (x69a f2) <|λ _ _ _ _=> none
def APS:PS:=⟨(.seq (.seq (.reg [1,2,10,15,95] []) (.cond .leaf .leaf)) (.seq (.node (.seq (.reg [1,2,10,15,16,17] (ms [0,1,0,0,8,24,56,0,128,384,896,0,4095,8191,16383,16383,32767,131071])) (.seq (.seq (.reg [1,2,10,15,16,17,115] []) (.cond (.seq (.reg [6,7] []) .leaf) .leaf)) (.seq (.reg [1,2,10,15,117] []) (.cond (.seq (.reg [2,10,18] (ms [0,1,0,4,12,28,0,64,192,448,1023,2047,4095,4095,8191,32767])) (.seq (.frz 10 (.reg [] (ms [0,0,0,4,0,28,1,65,193,511,1023,2047]))) (.seq (.reg [6,7] []) .leaf))) .leaf))))) (.reg [1,2,10,15] []))),[1,2,10,15],[.p,.p,.p,.n],⟨[],[(0,[])],[6,7]⟩⟩
def AXE {T:Type} (g:ADR R T) (H:Heap) (K:XK R):T:=g (kH (.exit 0) [] [] K) (kH .ret [6,7] [.b,.n] K)
def AUY (f:ACK R):Nat->List Value->Heap->XK R->Option R:=jl APS (L:=ACK R) AXE pH f
def APT:PS:=⟨(.seq (.reg [0,1,2,10,13,14] (ms [0,1,0,4,12,28,0,64,192,448,1023,2047,4095,4095,8191,32767])) (.seq (.reg [1,2,10,91] []) (.cond (.seq (.reg [6,7] []) .leaf) .leaf))),[0,1,2,10],[.p,.p,.p,.p],⟨[1,2,10],[],[6,7]⟩⟩
def AZ6 (g:AF0 R) (H:Heap) (K:XK R):Option R:=g H (kH .normal [1,2,10] [.p,.p,.p] K) (kH .ret [6,7] [.b,.n] K)
def AXF (f:ACI R):Nat->List Value->Heap->XK R->Option R:=jp APT AZ6 f
def APU:PS:=⟨(.seq (.reg [0,1,2,10,12,67] []) (.cond (.seq (.reg [6,7] []) .leaf) .leaf)),[0,1,2,10,11,12],[.p,.p,.p,.p,.b,.n],⟨[0,1,2,10],[],[6,7]⟩⟩
def AZ7 (g:AF1 R) (H:Heap) (K:XK R):Option R:=g (kN .normal [0,1,2,10] [.p,.p,.p,.p] K H) (kN .ret [6,7] [.b,.n] K H)
def AXG (f:ACJ R):Nat->List Value->Heap->XK R->Option R:=jp APU AZ7 f
def x46J (k:Nat):JTab R:=tcons 0 (AXG z0 k) <|tcons 1 (AXF z1 k) <|tcons 2 (AUY z2 k) <|λ _ _ _ _=> none
def x46t:AT:=(.seq (.reg [0,1,2] []) (.seq (.seq (.reg [0,1,2,23] []) (.cond (.seq (.reg [8,9] []) (.seq (.reg [6,7] []) .leaf)) .leaf)) (.seq (.reg [0,1,2,10] (ms [0,1,3,7,0,16,48,112,255,511,0,2047])) (.seq (.reg [0,1,2,10,11,12] (ms [0,1,0,0,8,24,56,0,128,384,896,0,2048,6144,14336,30720,65535,131071,262143,262143,524287,2097151])) (.seq (.opq 0 APU.ls APU.out APU.t) (.seq (.opq 1 APT.ls APT.out APT.t) (.seq (.seq (.reg [1,2,10,15] []) (.node (.opq 2 APS.ls APS.out (.node APS.t)))) (.seq (.reg [6,7] []) .leaf))))))))
def x46c (g:AHA R) (H:Heap) (K:Value->Heap->Option R):Option R:=g H (rH [.b,.n] K)
def x46a (f:ACk R):List Value->Heap->(Value->Heap->Option R)->Option R:=jf 3 [.p,.p,.p] x46c f
variable {f0 f1 f2 z0 z1 z2}
theorem AeQ (k n:Nat) (H:Heap) (K:XK R):lE Try.prog An 142 (x46C f0 f1 f2) (x46J z0 z1 z2 k) APS (sel [1,1,1,1,1,1,0,1,0,0] (bd Try.f46)) (AUY z2) n H K=mapT (λ g=> pH g H) APS.ts (AXE (ACL f1 f2 k) H K (AXE z2 H K n)):=by kernel_rfl
theorem AeR (k:Nat) (H:Heap) (K:XK R):jE Try.prog An 142 (x46C f0 f1 f2) (x46J z0 z1 z2 k) APT (sel [1,1,1,1,1,0] (bd Try.f46)) H K=mapT (λ g=> AZ6 g H K) APT.ts (ADP f2 k):=by kernel_rfl
theorem AeS (k:Nat) (H:Heap) (K:XK R):jE Try.prog An 142 (x46C f0 f1 f2) (x46J z0 z1 z2 k) APU (sel [1,1,1,1,0] (bd Try.f46)) H K=mapT (λ g=> AZ7 g H K) APU.ts (ABf k):=by kernel_rfl
theorem x46e (k:Nat) (H:Heap) (K:Value->Heap->Option R):fE Try.prog An (x46C f0 f1 f2) (x46J z0 z1 z2 k) x46t Try.f46 [.p,.p,.p] H K=mapT (λ g=> x46c g H K) [.p,.p,.p] (ACl f0 f1 z0 z1 z2 k):=by kernel_rfl
theorem x46S (R:Type) (k:Nat):CSound Try.prog (x46C (R:=R) (ACV k) (AAy k) (ABz k)):=AAB (AXH R k) <|AAB (AdY R k) <|AAB (AdT R k) <|AAE
theorem AeN (R:Type) (k:Nat):JS Try.prog 142 (AUY (AAF (R:=R) k) k) APS.ls APS.out (.loop (sel [1,1,1,1,1,1,0,1,0,0] (bd Try.f46))):=lj (x46S R k) (x46J (AAL k) (AAV k) (AAF k) k) (by kernel_rfl) (A:=True) trivial (by kernel_rfl) (λ _ _=> by kernel_rfl) (λ _ _ _=> .trans (AeQ _ _ _ _) (by kernel_rfl)) k
theorem AeO (R:Type) (k:Nat):JS Try.prog 142 (AXF (AAV (R:=R) k) k) APT.ls APT.out (sel [1,1,1,1,1,0] (bd Try.f46)):=pj (x46S R k) (x46J (AAL k) (AAV k) (AAF k) k) (by kernel_rfl) (A:=True) trivial (by kernel_rfl) (λ _ _=> .trans (AeR _ _ _) (by kernel_rfl))
theorem AeP (R:Type) (k:Nat):JS Try.prog 142 (AXG (AAL (R:=R) k) k) APU.ls APU.out (sel [1,1,1,1,0] (bd Try.f46)):=pj (x46S R k) (x46J (AAL k) (AAV k) (AAF k) k) (by kernel_rfl) (A:=True) trivial (by kernel_rfl) (λ _ _=> .trans (AeS _ _ _) (by kernel_rfl))
theorem AeT (R:Type) (k:Nat):∀args H K r,x46a (AAj k) args H K=some (r:R)->∃v H',Tri Try.prog 46 args H v H'/\K v H'=some r:=fj (x46S R k) (x46J (AAL k) (AAV k) (AAF k) k) Try.func46 (by kernel_rfl) (A:=JS Try.prog 142 (AXG (AAL (R:=R) k) k) APU.ls APU.out (sel [1,1,1,1,0] (bd Try.f46))/\JS Try.prog 142 (AXF (AAV (R:=R) k) k) APT.ls APT.out (sel [1,1,1,1,1,0] (bd Try.f46))/\JS Try.prog 142 (AUY (AAF (R:=R) k) k) APS.ls APS.out (.loop (sel [1,1,1,1,1,1,0,1,0,0] (bd Try.f46)))/\True) ⟨AeP R k,⟨AeO R k,⟨AeN R k,trivial⟩⟩⟩ (by kernel_rfl) (λ _ _=> .trans (x46e _ _ _) (by kernel_rfl))
end
abbrev AGE (R:Type):Type:=Oa->Int->Int->Int->Heap->Option R
abbrev AGF (R T:Type):Type:=(Int->Int->Heap->Option R)->T
abbrev AEA (R:Type):Type:=AGF R (Nat->AGE R)
abbrev AKY (R:Type):Type:=Heap->(Int->Int->Heap->Option R)->Option R
abbrev ADt (R:Type):Type:=Oa->Int->Int->AKY R
section
variable {R:Type} (f0:ADl R) (z0:AEA R)
def ABC (k:Nat):AGF R (AGE R->AGE R):=λ KR rec p1 n2 n3 n4 H=>
f0 p1 H λ n5 n6 H7=>
bif (n6 !=0) then (KR 0 n6 H7)
 else (bif (n5 !=n2) then (KR n4 0 H7)
 else (bif ((IntKind.wrap .i64 (n4+1))==n3) then (KR 0 8 H7)
 else (rec p1 n2 n3 (IntKind.wrap .i64 (n4+1)) H7)))
def AAU (k:Nat):AEA R
 |KR,0=> λ _ _ _ _ _=> none
 |KR,n+1=> ABC (ABT k) k KR (AAU k KR n)
def AHn (k:Nat):ADt R:=λ p1 n2 n3 H K=>
z0 (λ n6 n7 H8=>
K n6 n7 H8) k p1 n2 n3 0 H
def AB1 (k:Nat):ADt R:=AHn (AAU k) k
def x88C:Tab R:=tcons 67 (x67a f0) <|λ _ _ _ _=> none
def AOt:PS:=⟨(.node (.seq (.reg [0,1,2,8,9,10] []) (.seq (.seq (.reg [0,1,2,8,9,10,17] []) (.cond (.seq (.reg [6,7] []) .leaf) .leaf)) (.seq (.seq (.reg [0,1,2,8,21] []) (.cond (.seq (.reg [6,7] []) .leaf) .leaf)) (.seq (.reg [0,1,2,8] []) (.seq (.reg [0,1,2,8,27] []) (.cond (.seq (.reg [6,7] []) .leaf) .leaf))))))),[0,1,2,8],[.p,.n,.n,.n],⟨[],[],[6,7]⟩⟩
def AWQ {T:Type} (g:AGF R T) (H:Heap) (K:XK R):T:=g (kH .ret [6,7] [.n,.n] K)
def AUD (f:AEA R):Nat->List Value->Heap->XK R->Option R:=jl AOt (L:=AEA R) AWQ pH f
def x88J (k:Nat):JTab R:=tcons 0 (AUD z0 k) <|λ _ _ _ _=> none
def x88t:AT:=(.seq (.reg [0,1,2] []) (.seq (.reg [0,1,2,8] []) (.node (.opq 0 AOt.ls AOt.out (.node AOt.t)))))
def x88c (g:AKY R) (H:Heap) (K:Value->Heap->Option R):Option R:=g H (rH [.n,.n] K)
def x88a (f:ADt R):List Value->Heap->(Value->Heap->Option R)->Option R:=jf 3 [.p,.n,.n] x88c f
variable {f0 z0}
theorem Acu (k n:Nat) (H:Heap) (K:XK R):lE Try.prog An 28 (x88C f0) (x88J z0 k) AOt (sel [1,1,0,0] (bd Try.f88)) (AUD z0) n H K=mapT (λ g=> pH g H) AOt.ts (AWQ (ABC f0 k) H K (AWQ z0 H K n)):=by kernel_rfl
theorem x88e (k:Nat) (H:Heap) (K:Value->Heap->Option R):fE Try.prog An (x88C f0) (x88J z0 k) x88t Try.f88 [.p,.n,.n] H K=mapT (λ g=> x88c g H K) [.p,.n,.n] (AHn z0 k):=by kernel_rfl
theorem x88S (R:Type) (k:Nat):CSound Try.prog (x88C (R:=R) (ABT k)):=AAB (AWq R k) <|AAE
theorem Acs (R:Type) (k:Nat):JS Try.prog 28 (AUD (AAU (R:=R) k) k) AOt.ls AOt.out (.loop (sel [1,1,0,0] (bd Try.f88))):=lj (x88S R k) (x88J (AAU k) k) (by kernel_rfl) (A:=True) trivial (by kernel_rfl) (λ _ _=> by kernel_rfl) (λ _ _ _=> .trans (Acu _ _ _ _) (by kernel_rfl)) k
theorem AZb (R:Type) (k:Nat):∀args H K r,x88a (AB1 k) args H K=some (r:R)->∃v H',Tri Try.prog 88 args H v H'/\K v H'=some r:=fj (x88S R k) (x88J (AAU k) k) Try.func88 (by kernel_rfl) (A:=JS Try.prog 28 (AUD (AAU (R:=R) k) k) AOt.ls AOt.out (.loop (sel [1,1,0,0] (bd Try.f88)))/\True) ⟨Acs R k,trivial⟩ (by kernel_rfl) (λ _ _=> .trans (x88e _ _ _) (by kernel_rfl))
end
abbrev AJS (R:Type):Type:=Heap->(Int->Int->Heap->Option R)->Option R
abbrev AEb (R:Type):Type:=Oa->AJS R
section
variable {R:Type} (f0:ADt R) (f1:AER R)
def ADA (k:Nat):AEb R:=λ p1 H K=>
ldP H p1 λ p2=>
f0 p2 0 32 H λ n3 n4 H5=>
bif (n4 !=0) then (K 0 n4 H5)
 else (ldP H5 p1 λ p6=>
f1 p6 n3 H5 λ n7 n8 H9=>
hbin .shl .i64 1 (IntKind.wrap .u64 n3) λ n10=>
hbin .or .i64 n10 n7 λ n11=>
K n11 n8 H9)
def ACq (k:Nat):AEb R:=ADA (AB1 k) (ADB k) k
def x87C:Tab R:=tcons 88 (x88a f0) <|tcons 89 (x89a f1) <|λ _ _ _ _=> none
def x87J (k:Nat):JTab R:=λ _ _ _ _=> none
def x87t:AT:=(.seq (.reg [0] []) (.seq (.reg [0,3,4] []) (.seq (.seq (.reg [0,3,4,12] []) (.cond (.seq (.reg [1,2] []) .leaf) .leaf)) (.seq (.reg [3,4,5] []) (.seq (.reg [1,2] []) .leaf)))))
def x87c (g:AJS R) (H:Heap) (K:Value->Heap->Option R):Option R:=g H (rH [.n,.n] K)
def x87a (f:AEb R):List Value->Heap->(Value->Heap->Option R)->Option R:=jf 1 [.p] x87c f
variable {f0 f1}
theorem x87e (k:Nat) (H:Heap) (K:Value->Heap->Option R):fE Try.prog An (x87C f0 f1) (x87J k) x87t Try.f87 [.p] H K=mapT (λ g=> x87c g H K) [.p] (ADA f0 f1 k):=by kernel_rfl
theorem x87S (R:Type) (k:Nat):CSound Try.prog (x87C (R:=R) (AB1 k) (ADB k)):=AAB (AZb R k) <|AAB (AZa R k) <|AAE
theorem Acv (R:Type) (k:Nat):∀args H K r,x87a (ACq k) args H K=some (r:R)->∃v H',Tri Try.prog 87 args H v H'/\K v H'=some r:=fj (x87S R k) (x87J k) Try.func87 (by kernel_rfl) (A:=True) trivial (by kernel_rfl) (λ _ _=> .trans (x87e _ _ _) (by kernel_rfl))
end
end Go.Proofs.Ytmanlfonppfhaaa.Sh
set_option maxRecDepth 100000
namespace Go.Proofs.Ytmanlfonppfhaaa.Sh
open Go.Proofs.Ytmanlfonppfhaaa.FW
abbrev ALU (R:Type):Type:=(Int->Oa->Option R)->(Oa->Nat->Nat->Option R)->Option R
abbrev AGp (R:Type):Type:=Int->Oa->ALU R
abbrev ALT (R:Type):Type:=Heap->(Int->Oa->Oa->Nat->Nat->Int->Option R)->Option R
abbrev AGo (R:Type):Type:=Int->Oa->Oa->Nat->Nat->Int->ALT R
abbrev ALS (R:Type):Type:=Heap->(Int->Oa->Oa->Nat->Nat->Int->Option R)->Option R
abbrev AGn (R:Type):Type:=Int->Oa->Oa->Nat->Nat->Int->ALS R
abbrev ALR (R:Type):Type:=Heap->(Oa->Oa->Nat->Nat->Int->Int->Bool->Option R)->Option R
abbrev AGm (R:Type):Type:=Oa->Oa->Nat->Nat->Int->Int->ALR R
abbrev AIw (R:Type):Type:=Oa->Oa->Nat->Nat->Int->Int->Heap->Option R
abbrev AIx (R T:Type):Type:=(Oa->Nat->Nat->Heap->Option R)->T
abbrev AGr (R:Type):Type:=AIx R (Nat->AIw R)
abbrev AMl (R:Type):Type:=Heap->(Oa->Nat->Nat->Heap->Option R)->Option R
abbrev AIs (R:Type):Type:=Int->Bool->Bool->Bool->Bool->Bool->AMl R
section
variable {R:Type} (z0:AGp R) (z1:AGo R) (z2:AGn R) (z3:AGr R) (z4:AGm R)
def AGq (k:Nat):AGp R:=λ n1 p2 KN KR=>
bif decide (n1 < 1) then (KR none 0 0)
 else (bif decide (n1 > 178) then (KR none 0 0)
 else (KN n1 p2))
def ABp (k:Nat):AGp R:=AGq k
def AIv (k:Nat):AGo R:=λ n1 p2 q3 l4 c5 n6 H KN=>
hfad 0 p2 λ p7=>
ldB H p7 λ t8=>
bif t8 then (KN n1 p2 q3 l4 c5 10)
 else (KN n1 p2 q3 l4 c5 n6)
def ACB (k:Nat):AGo R:=AIv k
def AIu (k:Nat):AGn R:=λ n1 p2 q3 l4 c5 n6 H KN=>
hfad 1 p2 λ p7=>
ldB H p7 λ t8=>
bif t8 then (KN n1 p2 q3 l4 c5 1)
 else (KN n1 p2 q3 l4 c5 n6)
def ACA (k:Nat):AGn R:=AIu k
def AIt (k:Nat):AGm R:=λ p1 q2 l3 c4 n5 n6 H KN=>
hfad 0 p1 λ p7=>
ldB H p7 λ t8=>
bif t8 then (hfad 1 p1 λ p9=>
ldB H p9 λ t10=>
KN p1 q2 l3 c4 n5 n6 (!t10))
 else (KN p1 q2 l3 c4 n5 n6 false)
def AB9 (k:Nat):AGm R:=AIt k
def ADf (k:Nat):AIx R (AIw R->AIw R):=λ KE0 rec p1 q2 l3 c4 n5 n6 H=>
bif decide (n6 > 0) then (hal H [.int .i64 (imn n5 n6)] λ p7 H8=>
happS 1 8 H8 q2 l3 c4 p7 1 λ q9 l10 c11 H12=>
z4 p1 q9 l10 c11 n5 (IntKind.wrap .i64 (n6 - (imn n5 n6))) H12 (λ p20 q21 l22 c23 n24 n25 t26=>
bif t26 then (bif (n24==2) then (rec p20 q21 l22 c23 1 n25 H12)
 else (rec p20 q21 l22 c23 2 n25 H12))
 else (rec p20 q21 l22 c23 n24 n25 H12)))
 else (KE0 q2 l3 c4 H)
def ABq (k:Nat):AGr R
 |KE0,0=> λ _ _ _ _ _ _ _=> none
 |KE0,n+1=> ADf (AB9 k) k KE0 (ABq k KE0 n)
def AIy (k:Nat):AIs R:=λ n1 t2 t3 t4 t5 t6 H K=>
hal H [.bool t2,.bool t3,.bool t4,.bool t5,.bool t6] λ p7 H8=>
z0 n1 p7 (λ n14 p15=>
z1 n14 p15 none 0 0 n14 H8 (λ n22 p23 q24 l25 c26 n27=>
z2 n22 p23 q24 l25 c26 n27 H8 (λ n34 p35 q36 l37 c38 n39=>
z3 (λ q43 l44 c45 H46=>
K q43 l44 c45 H46) k p35 q36 l37 c38 n39 n34 H8))) (λ q47 l48 c49=>
K q47 l48 c49 H8)
def AHR (k:Nat):AIs R:=AIy (ABp k) (ACB k) (ACA k) (ABq k) k
def x35C:Tab R:=λ _ _ _ _=> none
def APb:PS:=⟨(.reg [3,5,6,7,39] []),[3,5,6,7],[.p,.l,.n,.n],⟨[3,5,6,7,39],[],[]⟩⟩
def AaC (g:ALR R) (H:Heap) (K:XK R):Option R:=g H (kN .normal [3,5,6,7,39] [.p,.l,.n,.n,.b] K H)
def AXP (f:AGm R):Nat->List Value->Heap->XK R->Option R:=jp APb AaC f
def APc:PS:=⟨(.seq (.seq (.reg [3,5,6,7,22] []) (.cond .leaf .leaf)) (.node (.seq (.reg [3,5,6,7,8] []) (.seq (.reg [3,5,6,7,8] []) (.seq (.reg [3,5,6,7] []) (.seq (.opq 4 APb.ls APb.out APb.t) (.cond (.seq (.reg [3,5,7,41] []) (.cond (.reg [3,5,6,7] []) (.reg [3,5,6,7] []))) .leaf))))))),[3,5,6,7],[.p,.l,.n,.n],⟨[],[(0,[5])],[]⟩⟩
def AXO {T:Type} (g:AIx R T) (H:Heap) (K:XK R):T:=g (kH (.exit 0) [5] [.l] K)
def AUb (f:AGr R):Nat->List Value->Heap->XK R->Option R:=jl APc (L:=AGr R) AXO pH f
def APd:PS:=⟨(.seq (.reg [0,3,5,6,19] []) (.cond (.reg [0,3,5,6] []) .leaf)),[0,3,5,6],[.n,.p,.l,.n],⟨[0,3,5,6],[],[]⟩⟩
def AaD (g:ALS R) (H:Heap) (K:XK R):Option R:=g H (kN .normal [0,3,5,6] [.n,.p,.l,.n] K H)
def AXQ (f:AGn R):Nat->List Value->Heap->XK R->Option R:=jp APd AaD f
def APe:PS:=⟨(.seq (.reg [0,3,5,6,17] []) (.cond (.reg [0,3,5,6] []) .leaf)),[0,3,5,6],[.n,.p,.l,.n],⟨[0,3,5,6],[],[]⟩⟩
def AaE (g:ALT R) (H:Heap) (K:XK R):Option R:=g H (kN .normal [0,3,5,6] [.n,.p,.l,.n] K H)
def AXR (f:AGo R):Nat->List Value->Heap->XK R->Option R:=jp APe AaE f
def APf:PS:=⟨(.seq (.reg [0,3,14] []) (.cond (.seq (.reg [4] []) .leaf) .leaf)),[0,3],[.n,.p],⟨[0,3],[],[4]⟩⟩
def AaF (g:ALU R) (H:Heap) (K:XK R):Option R:=g (kN .normal [0,3] [.n,.p] K H) (kN .ret [4] [.l] K H)
def AXS (f:AGp R):Nat->List Value->Heap->XK R->Option R:=jp APf AaF f
def x35J (k:Nat):JTab R:=tcons 0 (AXS z0 k) <|tcons 1 (AXR z1 k) <|tcons 2 (AXQ z2 k) <|tcons 3 (AUb z3 k) <|tcons 4 (AXP z4 k) <|λ _ _ _ _=> none
def x35t:AT:=(.seq (.reg [0,3] []) (.seq (.opq 0 APf.ls APf.out APf.t) (.seq (.reg [0,3,5] []) (.seq (.reg [0,3,5,6] []) (.seq (.opq 1 APe.ls APe.out APe.t) (.seq (.opq 2 APd.ls APd.out APd.t) (.seq (.seq (.reg [3,5,6,7] []) (.node (.opq 3 APc.ls APc.out (.node APc.t)))) (.seq (.reg [4] []) .leaf))))))))
def x35c (g:AMl R) (H:Heap) (K:Value->Heap->Option R):Option R:=g H (rH [.l] K)
def x35a (f:AIs R):List Value->Heap->(Value->Heap->Option R)->Option R:=jf 2 [.n,(.a 5),.b,.b,.b,.b,.b] x35c f
variable {z0 z1 z2 z3 z4}
theorem Aeo (k:Nat) (H:Heap) (K:XK R):jE Try.prog An 43 (x35C) (x35J z0 z1 z2 z3 z4 k) APb (sel [1,1,1,1,1,1,0,1,0,0,1,0,1,1,1,0] (bd Try.f35)) H K=mapT (λ g=> AaC g H K) APb.ts (AIt k):=by kernel_rfl
theorem Aep (k n:Nat) (H:Heap) (K:XK R):lE Try.prog An 43 (x35C) (x35J z0 z1 z2 z3 z4 k) APc (sel [1,1,1,1,1,1,0,1,0,0] (bd Try.f35)) (AUb z3) n H K=mapT (λ g=> pH g H) APc.ts (AXO (ADf z4 k) H K (AXO z3 H K n)):=by kernel_rfl
theorem Aeq (k:Nat) (H:Heap) (K:XK R):jE Try.prog An 43 (x35C) (x35J z0 z1 z2 z3 z4 k) APd (sel [1,1,1,1,1,0] (bd Try.f35)) H K=mapT (λ g=> AaD g H K) APd.ts (AIu k):=by kernel_rfl
theorem Aer (k:Nat) (H:Heap) (K:XK R):jE Try.prog An 43 (x35C) (x35J z0 z1 z2 z3 z4 k) APe (sel [1,1,1,1,0] (bd Try.f35)) H K=mapT (λ g=> AaE g H K) APe.ts (AIv k):=by kernel_rfl
theorem Aes (k:Nat) (H:Heap) (K:XK R):jE Try.prog An 43 (x35C) (x35J z0 z1 z2 z3 z4 k) APf (sel [1,0] (bd Try.f35)) H K=mapT (λ g=> AaF g H K) APf.ts (AGq k):=by kernel_rfl
theorem x35e (k:Nat) (H:Heap) (K:Value->Heap->Option R):fE Try.prog An (x35C) (x35J z0 z1 z2 z3 z4 k) x35t Try.f35 [.n,(.a 5),.b,.b,.b,.b,.b] H K=mapT (λ g=> x35c g H K) [.n,(.a 5),.b,.b,.b,.b,.b] (AIy z0 z1 z2 z3 k):=by kernel_rfl
theorem x35S (R:Type) (k:Nat):CSound Try.prog (x35C (R:=R)):=AAE
theorem Aej (R:Type) (k:Nat):JS Try.prog 43 (AXP (AB9 (R:=R) k) k) APb.ls APb.out (sel [1,1,1,1,1,1,0,1,0,0,1,0,1,1,1,0] (bd Try.f35)):=pj (x35S R k) (x35J (ABp k) (ACB k) (ACA k) (ABq k) (AB9 k) k) (by kernel_rfl) (A:=True) trivial (by kernel_rfl) (λ _ _=> .trans (Aeo _ _ _) (by kernel_rfl))
theorem Aek (R:Type) (k:Nat):JS Try.prog 43 (AUb (ABq (R:=R) k) k) APc.ls APc.out (.loop (sel [1,1,1,1,1,1,0,1,0,0] (bd Try.f35))):=lj (x35S R k) (x35J (ABp k) (ACB k) (ACA k) (ABq k) (AB9 k) k) (by kernel_rfl) (A:=JS Try.prog 43 (AXP (AB9 (R:=R) k) k) APb.ls APb.out (sel [1,1,1,1,1,1,0,1,0,0,1,0,1,1,1,0] (bd Try.f35))/\True) ⟨Aej R k,trivial⟩ (by kernel_rfl) (λ _ _=> by kernel_rfl) (λ _ _ _=> .trans (Aep _ _ _ _) (by kernel_rfl)) k
theorem Ael (R:Type) (k:Nat):JS Try.prog 43 (AXQ (ACA (R:=R) k) k) APd.ls APd.out (sel [1,1,1,1,1,0] (bd Try.f35)):=pj (x35S R k) (x35J (ABp k) (ACB k) (ACA k) (ABq k) (AB9 k) k) (by kernel_rfl) (A:=True) trivial (by kernel_rfl) (λ _ _=> .trans (Aeq _ _ _) (by kernel_rfl))
theorem Aem (R:Type) (k:Nat):JS Try.prog 43 (AXR (ACB (R:=R) k) k) APe.ls APe.out (sel [1,1,1,1,0] (bd Try.f35)):=pj (x35S R k) (x35J (ABp k) (ACB k) (ACA k) (ABq k) (AB9 k) k) (by kernel_rfl) (A:=True) trivial (by kernel_rfl) (λ _ _=> .trans (Aer _ _ _) (by kernel_rfl))
theorem Aen (R:Type) (k:Nat):JS Try.prog 43 (AXS (ABp (R:=R) k) k) APf.ls APf.out (sel [1,0] (bd Try.f35)):=pj (x35S R k) (x35J (ABp k) (ACB k) (ACA k) (ABq k) (AB9 k) k) (by kernel_rfl) (A:=True) trivial (by kernel_rfl) (λ _ _=> .trans (Aes _ _ _) (by kernel_rfl))
theorem Aet (R:Type) (k:Nat):∀args H K r,x35a (AHR k) args H K=some (r:R)->∃v H',Tri Try.prog 35 args H v H'/\K v H'=some r:=fj (x35S R k) (x35J (ABp k) (ACB k) (ACA k) (ABq k) (AB9 k) k) Try.func35 (by kernel_rfl) (A:=JS Try.prog 43 (AXS (ABp (R:=R) k) k) APf.ls APf.out (sel [1,0] (bd Try.f35))/\JS Try.prog 43 (AXR (ACB (R:=R) k) k) APe.ls APe.out (sel [1,1,1,1,0] (bd Try.f35))/\JS Try.prog 43 (AXQ (ACA (R:=R) k) k) APd.ls APd.out (sel [1,1,1,1,1,0] (bd Try.f35))/\JS Try.prog 43 (AUb (ABq (R:=R) k) k) APc.ls APc.out (.loop (sel [1,1,1,1,1,1,0,1,0,0] (bd Try.f35)))/\True) ⟨Aen R k,⟨Aem R k,⟨Ael R k,⟨Aek R k,trivial⟩⟩⟩⟩ (by kernel_rfl) (λ _ _=> .trans (x35e _ _ _) (by kernel_rfl))
end
abbrev ALQ (R:Type):Type:=(Int->Int->Oa->Option R)->(Oa->Nat->Nat->Option R)->Option R
abbrev AGk (R:Type):Type:=Int->Int->Oa->ALQ R
abbrev ALP (R:Type):Type:=Heap->(Int->Int->Oa->Nat->Nat->Int->Int->Oa->Nat->Nat->Int->Int->Heap->Option R)->Option R
abbrev AGi (R:Type):Type:=Int->Int->Oa->Nat->Nat->Int->Int->Int->Int->Oa->Nat->Nat->Int->Int->ALP R
abbrev AIo (R:Type):Type:=Int->Int->Oa->Nat->Nat->Int->Oa->Nat->Nat->Int->Int->Heap->Option R
abbrev AIp (R T:Type):Type:=(Oa->Nat->Nat->Heap->Option R)->T
abbrev AGl (R:Type):Type:=AIp R (Nat->AIo R)
abbrev AMh (R:Type):Type:=Heap->(Oa->Nat->Nat->Heap->Option R)->Option R
abbrev AIn (R:Type):Type:=Int->Int->Bool->Bool->Bool->Bool->Bool->AMh R
section
variable {R:Type} (f0:AIs R) (z0:AGk R) (z1:AGl R) (z2:AGi R)
def ACm (k:Nat):AGk R:=λ n1 n2 p3 KN KR=>
bif decide (n1 < 0) then (KR none 0 0)
 else (bif decide (n2 < 1) then (KR none 0 0)
 else (bif decide (n2 > 178) then (KR none 0 0)
 else (bif decide (n1 > (IntKind.wrap .i64 (178 - n2))) then (KR none 0 0)
 else (KN n1 n2 p3))))
def ABQ (k:Nat):AGk R:=ACm k
def AGj (k:Nat):AGi R:=λ n1 n2 q3 l4 c5 n6 n7 n8 n9 q10 l11 c12 n13 n14 H KN=>
bif decide (n8 < n9) then (hal H [.int .i64 (IntKind.wrap .i64 (n9 - n8))] λ p15 H16=>
happS 1 8 H16 q3 l4 c5 p15 1 λ q17 l18 c19 H20=>
KN n1 n2 q17 l18 c19 n6 n7 q10 l11 c12 n13 n14 H20)
 else (KN n1 n2 q3 l4 c5 n6 n7 q10 l11 c12 n13 n14 H)
def ACU (k:Nat):AGi R:=AGj k
def AEx (k:Nat):AIp R (AIo R->AIo R):=λ KE0 rec n1 n2 q3 l4 c5 n6 q7 l8 c9 n10 n11 H=>
bif decide (n11 < n10) then (hidx q7 l8 n11 1 λ p12=>
ldI .i64 H p12 λ n13=>
z2 n1 n2 q3 l4 c5 n6 n13 (imx n6 n1) (imn (IntKind.wrap .i64 (n6+n13)) (IntKind.wrap .i64 (n1+n2))) q7 l8 c9 n10 n11 H (λ n26 n27 q28 l29 c30 n31 n32 q33 l34 c35 n36 n37 H38=>
rec n26 n27 q28 l29 c30 (IntKind.wrap .i64 (n31+n32)) q33 l34 c35 n36 (IntKind.wrap .i64 (n37+1)) H38))
 else (KE0 q3 l4 c5 H)
def ABR (k:Nat):AGl R
 |KE0,0=> λ _ _ _ _ _ _ _ _ _ _ _ _=> none
 |KE0,n+1=> AEx (ACU k) k KE0 (ABR k KE0 n)
def AEQ (k:Nat):AIn R:=λ n1 n2 t3 t4 t5 t6 t7 H K=>
hal H [.bool t3,.bool t4,.bool t5,.bool t6,.bool t7] λ p8 H9=>
z0 n1 n2 p8 (λ n16 n17 p18=>
ldB H9 (pad p18 0) λ t19=>
ldB H9 (pad p18 1) λ t20=>
ldB H9 (pad p18 2) λ t21=>
ldB H9 (pad p18 3) λ t22=>
ldB H9 (pad p18 4) λ t23=>
f0 178 t19 t20 t21 t22 t23 H9 λ q24 l25 c26 H27=>
z1 (λ q31 l32 c33 H34=>
K q31 l32 c33 H34) k n16 n17 none 0 0 0 q24 l25 c26 ((l25:Nat):Int) 0 H27) (λ q35 l36 c37=>
K q35 l36 c37 H9)
def ADN (k:Nat):AIn R:=AEQ (AHR k) (ABQ k) (ABR k) k
def x20C:Tab R:=tcons 35 (x35a f0) <|λ _ _ _ _=> none
def APx:PS:=⟨(.seq (.reg [0,1,7,8,10,11,12,30,31,32,48] []) (.cond (.reg [0,1,7,8,10,30,31,32] []) .leaf)),[0,1,7,8,10,11,12,30,31,32],[.n,.n,.l,.n,.n,.n,.n,.l,.n,.n],⟨[0,1,7,8,10,30,31,32],[],[]⟩⟩
def AaQ (g:ALP R) (H:Heap) (K:XK R):Option R:=g H (kH .normal [0,1,7,8,10,30,31,32] [.n,.n,.l,.n,.n,.l,.n,.n] K)
def AXm (f:AGi R):Nat->List Value->Heap->XK R->Option R:=jp APx AaQ f
def APy:PS:=⟨(.seq (.reg [0,1,7,8,30,31,32,33] []) (.seq (.cond .leaf .leaf) (.seq (.node (.seq (.reg [0,1,7,8,10,30,31,32] []) (.seq (.reg [0,1,7,8,10,11,12,30,31,32] []) (.seq (.opq 2 APx.ls APx.out APx.t) (.reg [0,1,7,8,30,31,32] []))))) (.reg [0,1,7,8,30,31,32] [])))),[0,1,7,8,30,31,32],[.n,.n,.l,.n,.l,.n,.n],⟨[],[(0,[7])],[]⟩⟩
def AXl {T:Type} (g:AIp R T) (H:Heap) (K:XK R):T:=g (kH (.exit 0) [7] [.l] K)
def AUj (f:AGl R):Nat->List Value->Heap->XK R->Option R:=jl APy (L:=AGl R) AXl pH f
def APz:PS:=⟨(.seq (.reg [0,1,5,28] []) (.cond (.seq (.reg [6] []) .leaf) .leaf)),[0,1,5],[.n,.n,.p],⟨[0,1,5],[],[6]⟩⟩
def AaR (g:ALQ R) (H:Heap) (K:XK R):Option R:=g (kN .normal [0,1,5] [.n,.n,.p] K H) (kN .ret [6] [.l] K H)
def AXn (f:AGk R):Nat->List Value->Heap->XK R->Option R:=jp APz AaR f
def x20J (k:Nat):JTab R:=tcons 0 (AXn z0 k) <|tcons 1 (AUj z1 k) <|tcons 2 (AXm z2 k) <|λ _ _ _ _=> none
def x20t:AT:=(.seq (.reg [0,1,5] []) (.seq (.opq 0 APz.ls APz.out APz.t) (.seq (.reg [0,1,5,7] []) (.seq (.reg [0,1,5,7,8] []) (.seq (.seq (.reg [0,1,7,8,30,31,32] []) (.node (.opq 1 APy.ls APy.out (.node APy.t)))) (.seq (.reg [6] []) .leaf))))))
def x20c (g:AMh R) (H:Heap) (K:Value->Heap->Option R):Option R:=g H (rH [.l] K)
def x20a (f:AIn R):List Value->Heap->(Value->Heap->Option R)->Option R:=jf 3 [.n,.n,(.a 5),.b,.b,.b,.b,.b] x20c f
variable {f0 z0 z1 z2}
theorem Afd (k:Nat) (H:Heap) (K:XK R):jE Try.prog An 60 (x20C f0) (x20J z0 z1 z2 k) APx (sel [1,1,1,1,0,1,0,0,1,1,0,0,1,1,0] (bd Try.f20)) H K=mapT (λ g=> AaQ g H K) APx.ts (AGj k):=by kernel_rfl
theorem Afe (k n:Nat) (H:Heap) (K:XK R):lE Try.prog An 60 (x20C f0) (x20J z0 z1 z2 k) APy (sel [1,1,1,1,0,1,0,0] (bd Try.f20)) (AUj z1) n H K=mapT (λ g=> pH g H) APy.ts (AXl (AEx z2 k) H K (AXl z1 H K n)):=by kernel_rfl
theorem Aff (k:Nat) (H:Heap) (K:XK R):jE Try.prog An 60 (x20C f0) (x20J z0 z1 z2 k) APz (sel [1,0] (bd Try.f20)) H K=mapT (λ g=> AaR g H K) APz.ts (ACm k):=by kernel_rfl
theorem x20e (k:Nat) (H:Heap) (K:Value->Heap->Option R):fE Try.prog An (x20C f0) (x20J z0 z1 z2 k) x20t Try.f20 [.n,.n,(.a 5),.b,.b,.b,.b,.b] H K=mapT (λ g=> x20c g H K) [.n,.n,(.a 5),.b,.b,.b,.b,.b] (AEQ f0 z0 z1 k):=by kernel_rfl
theorem x20S (R:Type) (k:Nat):CSound Try.prog (x20C (R:=R) (AHR k)):=AAB (Aet R k) <|AAE
theorem Afa (R:Type) (k:Nat):JS Try.prog 60 (AXm (ACU (R:=R) k) k) APx.ls APx.out (sel [1,1,1,1,0,1,0,0,1,1,0,0,1,1,0] (bd Try.f20)):=pj (x20S R k) (x20J (ABQ k) (ABR k) (ACU k) k) (by kernel_rfl) (A:=True) trivial (by kernel_rfl) (λ _ _=> .trans (Afd _ _ _) (by kernel_rfl))
theorem Afb (R:Type) (k:Nat):JS Try.prog 60 (AUj (ABR (R:=R) k) k) APy.ls APy.out (.loop (sel [1,1,1,1,0,1,0,0] (bd Try.f20))):=lj (x20S R k) (x20J (ABQ k) (ABR k) (ACU k) k) (by kernel_rfl) (A:=JS Try.prog 60 (AXm (ACU (R:=R) k) k) APx.ls APx.out (sel [1,1,1,1,0,1,0,0,1,1,0,0,1,1,0] (bd Try.f20))/\True) ⟨Afa R k,trivial⟩ (by kernel_rfl) (λ _ _=> by kernel_rfl) (λ _ _ _=> .trans (Afe _ _ _ _) (by kernel_rfl)) k
theorem Afc (R:Type) (k:Nat):JS Try.prog 60 (AXn (ABQ (R:=R) k) k) APz.ls APz.out (sel [1,0] (bd Try.f20)):=pj (x20S R k) (x20J (ABQ k) (ABR k) (ACU k) k) (by kernel_rfl) (A:=True) trivial (by kernel_rfl) (λ _ _=> .trans (Aff _ _ _) (by kernel_rfl))
theorem Afg (R:Type) (k:Nat):∀args H K r,x20a (ADN k) args H K=some (r:R)->∃v H',Tri Try.prog 20 args H v H'/\K v H'=some r:=fj (x20S R k) (x20J (ABQ k) (ABR k) (ACU k) k) Try.func20 (by kernel_rfl) (A:=JS Try.prog 60 (AXn (ABQ (R:=R) k) k) APz.ls APz.out (sel [1,0] (bd Try.f20))/\JS Try.prog 60 (AUj (ABR (R:=R) k) k) APy.ls APy.out (.loop (sel [1,1,1,1,0,1,0,0] (bd Try.f20)))/\True) ⟨Afc R k,⟨Afb R k,trivial⟩⟩ (by kernel_rfl) (λ _ _=> .trans (x20e _ _ _) (by kernel_rfl))
end
end Go.Proofs.Ytmanlfonppfhaaa.Sh
set_option maxRecDepth 100000
namespace Go.Proofs.Ytmanlfonppfhaaa.Sh
open Go.Proofs.Ytmanlfonppfhaaa.FW
abbrev AIa (R:Type):Type:=Heap->(Int->Int->Heap->Option R)->Option R
abbrev ADk (R:Type):Type:=Oa->Oa->AIa R
section
variable {R:Type} (f0:AEb R)
def ACa (k:Nat):ADk R:=λ p1 p2 H K=>
hnil p1 λ p3=>
hfad 2 p3 λ p4=>
ldI .i64 H p4 λ n5=>
hnil p1 λ p6=>
hfad 3 p6 λ p7=>
ldI .i64 H p7 λ n8=>
f0 p2 H λ n9 n10 H11=>
bif (n10 !=0) then (hnil p1 λ p12=>
hfad 2 p12 λ p13=>
hst1 H11 p13 (.int .i64 n5) λ H14=>
hnil p1 λ p15=>
hfad 3 p15 λ p16=>
hst1 H14 p16 (.int .i64 n8) λ H17=>
K 0 n10 H17)
 else (K n9 0 H11)
def ACN (k:Nat):ADk R:=ACa (ACq k) k
def ASu:Tab R:=tcons 87 (x87a f0) <|λ _ _ _ _=> none
def ASt (k:Nat):JTab R:=λ _ _ _ _=> none
def AWX:AT:=(.seq (.reg [0,1] []) (.seq (.reg [0,1,6,7] (ms [0,1,3,7,0,16,48,112,15,511])) (.seq (.reg [0,6,7,8,9] []) (.seq (.seq (.reg [0,6,7,8,9,24] []) (.cond (.seq (.reg [9] []) (.seq (.reg [4,5] []) .leaf)) .leaf)) (.seq (.reg [4,5] []) .leaf)))))
def ASr (g:AIa R) (H:Heap) (K:Value->Heap->Option R):Option R:=g H (rH [.n,.n] K)
def ASs (f:ADk R):List Value->Heap->(Value->Heap->Option R)->Option R:=jf 2 [.p,(.f 87 1),.p] ASr f
variable {f0}
theorem AWY (k:Nat) (H:Heap) (K:Value->Heap->Option R):fE Try.prog An (ASu f0) (ASt k) AWX Try.f86 [.p,(.f 87 1),.p] H K=mapT (λ g=> ASr g H K) [.p,(.f 87 1),.p] (ACa f0 k):=by kernel_rfl
theorem AWZ (R:Type) (k:Nat):CSound Try.prog (ASu (R:=R) (ACq k)):=AAB (Acv R k) <|AAE
theorem AUG (R:Type) (k:Nat):∀args H K r,ASs (ACN k) args H K=some (r:R)->∃v H',Tri Try.prog 86 args H v H'/\K v H'=some r:=fj (AWZ R k) (ASt k) Try.func86 (by kernel_rfl) (A:=True) trivial (by kernel_rfl) (λ _ _=> .trans (AWY _ _ _) (by kernel_rfl))
end
abbrev AKa (R:Type):Type:=Heap->(Int->Int->Heap->Option R)->Option R
abbrev AFe (R:Type):Type:=Oa->AKa R
section
variable {R:Type} (f0:ACb R) (f1:ADk R)
def ADv (k:Nat):AFe R:=λ p1 H K=>
hal H [.pointer p1] λ p2 H3=>
ldP H3 p2 λ p4=>
f0 p4 H3 λ t5=>
bif (!t5) then (K 0 6 H3)
 else (ldP H3 p2 λ p6=>
f1 p6 p2 H3 λ n7 n8 H9=>
K n7 n8 H9)
def AB3 (k:Nat):AFe R:=ADv ABU (ACN k) k
def x70C:Tab R:=tcons 66 (x66a f0) <|tcons 86 (ASs f1) <|λ _ _ _ _=> none
def x70J (k:Nat):JTab R:=λ _ _ _ _=> none
def x70t:AT:=(.seq (.reg [1] []) (.seq (.seq (.reg [1,6] []) (.cond (.seq (.reg [2,3] []) .leaf) .leaf)) (.seq (.reg [2,3] []) .leaf)))
def x70c (g:AKa R) (H:Heap) (K:Value->Heap->Option R):Option R:=g H (rH [.n,.n] K)
def x70a (f:AFe R):List Value->Heap->(Value->Heap->Option R)->Option R:=jf 1 [.p] x70c f
variable {f0 f1}
theorem x70e (k:Nat) (H:Heap) (K:Value->Heap->Option R):fE Try.prog An (x70C f0 f1) (x70J k) x70t Try.f70 [.p] H K=mapT (λ g=> x70c g H K) [.p] (ADv f0 f1 k):=by kernel_rfl
theorem x70S (R:Type) (k:Nat):CSound Try.prog (x70C (R:=R) ABU (ACN k)):=AAB (ASx R k) <|AAB (AUG R k) <|AAE
theorem AdQ (R:Type) (k:Nat):∀args H K r,x70a (AB3 k) args H K=some (r:R)->∃v H',Tri Try.prog 70 args H v H'/\K v H'=some r:=fj (x70S R k) (x70J k) Try.func70 (by kernel_rfl) (A:=True) trivial (by kernel_rfl) (λ _ _=> .trans (x70e _ _ _) (by kernel_rfl))
end
abbrev AJR (R:Type):Type:=Heap->(Int->Int->Heap->Option R)->Option R
abbrev AEZ (R:Type):Type:=Oa->Oa->AJR R
section
variable {R:Type} (f0:ADt R)
def AEa (k:Nat):AEZ R:=λ p1 p2 H K=>
ldP H p1 λ p3=>
ldI .i64 H p2 λ n4=>
f0 p3 1 (IntKind.wrap .i64 (n4+1)) H λ n5 n6 H7=>
K n5 n6 H7
def ADu (k:Nat):AEZ R:=AEa (AB1 k) k
def x90C:Tab R:=tcons 88 (x88a f0) <|λ _ _ _ _=> none
def x90J (k:Nat):JTab R:=λ _ _ _ _=> none
def x90t:AT:=(.seq (.reg [0,1] []) (.seq (.reg [2,3] []) .leaf))
def x90c (g:AJR R) (H:Heap) (K:Value->Heap->Option R):Option R:=g H (rH [.n,.n] K)
def x90a (f:AEZ R):List Value->Heap->(Value->Heap->Option R)->Option R:=jf 2 [.p,.p] x90c f
variable {f0}
theorem x90e (k:Nat) (H:Heap) (K:Value->Heap->Option R):fE Try.prog An (x90C f0) (x90J k) x90t Try.f90 [.p,.p] H K=mapT (λ g=> x90c g H K) [.p,.p] (AEa f0 k):=by kernel_rfl
theorem x90S (R:Type) (k:Nat):CSound Try.prog (x90C (R:=R) (AB1 k)):=AAB (AZb R k) <|AAE
theorem Acp (R:Type) (k:Nat):∀args H K r,x90a (ADu k) args H K=some (r:R)->∃v H',Tri Try.prog 90 args H v H'/\K v H'=some r:=fj (x90S R k) (x90J k) Try.func90 (by kernel_rfl) (A:=True) trivial (by kernel_rfl) (λ _ _=> .trans (x90e _ _ _) (by kernel_rfl))
end
abbrev AIZ (R:Type):Type:=Heap->(Int->Int->Heap->Option R)->Option R
abbrev ADi (R:Type):Type:=Oa->Oa->Oa->AIZ R
section
variable {R:Type} (f0:AEZ R)
def ADj (k:Nat):ADi R:=λ p1 p2 p3 H K=>
hnil p1 λ p4=>
hfad 2 p4 λ p5=>
ldI .i64 H p5 λ n6=>
hnil p1 λ p7=>
hfad 3 p7 λ p8=>
ldI .i64 H p8 λ n9=>
f0 p2 p3 H λ n10 n11 H12=>
bif (n11 !=0) then (hnil p1 λ p13=>
hfad 2 p13 λ p14=>
hst1 H12 p14 (.int .i64 n6) λ H15=>
hnil p1 λ p16=>
hfad 3 p16 λ p17=>
hst1 H15 p17 (.int .i64 n9) λ H18=>
K 0 n11 H18)
 else (K n10 0 H12)
def AC8 (k:Nat):ADi R:=ADj (ADu k) k
def ASq:Tab R:=tcons 90 (x90a f0) <|λ _ _ _ _=> none
def ASp (k:Nat):JTab R:=λ _ _ _ _=> none
def AWU:AT:=(.seq (.reg [0,1] []) (.seq (.reg [0,1,6,7] (ms [0,1,3,7,0,16,48,112,15,511])) (.seq (.reg [0,6,7,8,9] []) (.seq (.seq (.reg [0,6,7,8,9,24] []) (.cond (.seq (.reg [9] []) (.seq (.reg [4,5] []) .leaf)) .leaf)) (.seq (.reg [4,5] []) .leaf)))))
def ASn (g:AIZ R) (H:Heap) (K:Value->Heap->Option R):Option R:=g H (rH [.n,.n] K)
def ASo (f:ADi R):List Value->Heap->(Value->Heap->Option R)->Option R:=jf 2 [.p,(.f 90 2),.p,.p] ASn f
variable {f0}
theorem AWV (k:Nat) (H:Heap) (K:Value->Heap->Option R):fE Try.prog An (ASq f0) (ASp k) AWU Try.f86 [.p,(.f 90 2),.p,.p] H K=mapT (λ g=> ASn g H K) [.p,(.f 90 2),.p,.p] (ADj f0 k):=by kernel_rfl
theorem AWW (R:Type) (k:Nat):CSound Try.prog (ASq (R:=R) (ADu k)):=AAB (Acp R k) <|AAE
theorem AUF (R:Type) (k:Nat):∀args H K r,ASo (AC8 k) args H K=some (r:R)->∃v H',Tri Try.prog 86 args H v H'/\K v H'=some r:=fj (AWW R k) (ASp k) Try.func86 (by kernel_rfl) (A:=True) trivial (by kernel_rfl) (λ _ _=> .trans (AWV _ _ _) (by kernel_rfl))
end
abbrev AI3 (R:Type):Type:=Heap->(Oa->Oa->Option R)->(Int->Int->Option R)->Option R
abbrev AEB (R:Type):Type:=Oa->Oa->AI3 R
abbrev AKZ (R:Type):Type:=Heap->(Int->Int->Heap->Option R)->Option R
abbrev AFd (R:Type):Type:=Oa->Int->AKZ R
section
variable {R:Type} (f0:ACb R) (f1:ADi R) (z0:AEB R)
def ACG (k:Nat):AEB R:=λ p1 p2 H KN KR=>
ldI .i64 H p2 λ n3=>
bif decide (n3 < 0) then (KR 0 1)
 else (ldI .i64 H p2 λ n4=>
bif decide (n4 > 65535) then (KR 0 1)
 else (KN p1 p2))
def ABD (k:Nat):AEB R:=ACG k
def ACp (k:Nat):AFd R:=λ p1 n2 H K=>
hal H [.pointer p1] λ p3 H4=>
hal H4 [.int .i64 n2] λ p5 H6=>
ldP H6 p3 λ p7=>
f0 p7 H6 λ t8=>
bif (!t8) then (K 0 6 H6)
 else (z0 p3 p5 H6 (λ p13 p14=>
ldP H6 p13 λ p15=>
f1 p15 p13 p14 H6 λ n16 n17 H18=>
K n16 n17 H18) (λ n19 n20=>
K n19 n20 H6))
def AB2 (k:Nat):AFd R:=ACp ABU (AC8 k) (ABD k) k
def x71C:Tab R:=tcons 66 (x66a f0) <|tcons 86 (ASo f1) <|λ _ _ _ _=> none
def AO3:PS:=⟨(.seq (.reg [2,3,14] []) (.cond (.seq (.reg [4,5] []) .leaf) .leaf)),[2,3],[.p,.p],⟨[2,3],[],[4,5]⟩⟩
def AZi (g:AI3 R) (H:Heap) (K:XK R):Option R:=g H (kN .normal [2,3] [.p,.p] K H) (kN .ret [4,5] [.n,.n] K H)
def AWm (f:AEB R):Nat->List Value->Heap->XK R->Option R:=jp AO3 AZi f
def x71J (k:Nat):JTab R:=tcons 0 (AWm z0 k) <|λ _ _ _ _=> none
def x71t:AT:=(.seq (.reg [2,3] []) (.seq (.seq (.reg [2,3,8] []) (.cond (.seq (.reg [4,5] []) .leaf) .leaf)) (.seq (.opq 0 AO3.ls AO3.out AO3.t) (.seq (.reg [4,5] []) .leaf))))
def x71c (g:AKZ R) (H:Heap) (K:Value->Heap->Option R):Option R:=g H (rH [.n,.n] K)
def x71a (f:AFd R):List Value->Heap->(Value->Heap->Option R)->Option R:=jf 2 [.p,.n] x71c f
variable {f0 f1 z0}
theorem AdO (k:Nat) (H:Heap) (K:XK R):jE Try.prog An 20 (x71C f0 f1) (x71J z0 k) AO3 (sel [1,1,0] (bd Try.f71)) H K=mapT (λ g=> AZi g H K) AO3.ts (ACG k):=by kernel_rfl
theorem x71e (k:Nat) (H:Heap) (K:Value->Heap->Option R):fE Try.prog An (x71C f0 f1) (x71J z0 k) x71t Try.f71 [.p,.n] H K=mapT (λ g=> x71c g H K) [.p,.n] (ACp f0 f1 z0 k):=by kernel_rfl
theorem x71S (R:Type) (k:Nat):CSound Try.prog (x71C (R:=R) ABU (AC8 k)):=AAB (ASx R k) <|AAB (AUF R k) <|AAE
theorem AdN (R:Type) (k:Nat):JS Try.prog 20 (AWm (ABD (R:=R) k) k) AO3.ls AO3.out (sel [1,1,0] (bd Try.f71)):=pj (x71S R k) (x71J (ABD k) k) (by kernel_rfl) (A:=True) trivial (by kernel_rfl) (λ _ _=> .trans (AdO _ _ _) (by kernel_rfl))
theorem AdP (R:Type) (k:Nat):∀args H K r,x71a (AB2 k) args H K=some (r:R)->∃v H',Tri Try.prog 71 args H v H'/\K v H'=some r:=fj (x71S R k) (x71J (ABD k) k) Try.func71 (by kernel_rfl) (A:=JS Try.prog 20 (AWm (ABD (R:=R) k) k) AO3.ls AO3.out (sel [1,1,0] (bd Try.f71))/\True) ⟨AdN R k,trivial⟩ (by kernel_rfl) (λ _ _=> .trans (x71e _ _ _) (by kernel_rfl))
end
abbrev AHz (R:Type):Type:=Heap->(Heap->Option R)->Option R
abbrev ADL (R:Type):Type:=Int->Oa->Oa->AHz R
section
variable {R:Type}
def AFX (k:Nat):ADL R:=λ n1 p2 p3 H K=>
hfad 2 p2 λ p4=>
ldL H p4 λ q5 l6 c7=>
hal H [.int .i64 n1] λ p8 H9=>
happS 1 8 H9 q5 l6 c7 p8 1 λ q10 l11 c12 H13=>
hfad 2 p2 λ p14=>
hst1 H13 p14 (.slice q10 l11 c12) λ H15=>
ldP H15 p3 λ p16=>
hnil p16 λ p17=>
hfad 6 p17 λ p18=>
ldI .i64 H15 p18 λ n19=>
hnil p16 λ p20=>
hfad 6 p20 λ p21=>
hst1 H15 p21 (.int .i64 (IntKind.wrap .i64 (n19+n1))) λ H22=>
K H22
def ACj:ADL R:=AFX 0
def x72C:Tab R:=λ _ _ _ _=> none
def x72J (k:Nat):JTab R:=λ _ _ _ _=> none
def x72t:AT:=(.seq (.reg [0,2] []) (.reg [] []))
def x72c (g:AHz R) (H:Heap) (K:Value->Heap->Option R):Option R:=g H (rH [] K)
def x72a (f:ADL R):List Value->Heap->(Value->Heap->Option R)->Option R:=jf 3 [.n,.p,.p] x72c f
theorem x72e (k:Nat) (H:Heap) (K:Value->Heap->Option R):fE Try.prog An (x72C) (x72J k) x72t Try.f72 [.n,.p,.p] H K=mapT (λ g=> x72c g H K) [.n,.p,.p] (AFX k):=by kernel_rfl
theorem x72S (R:Type) (k:Nat):CSound Try.prog (x72C (R:=R)):=AAE
theorem AdM (R:Type) (k:Nat):∀args H K r,x72a (ACj) args H K=some (r:R)->∃v H',Tri Try.prog 72 args H v H'/\K v H'=some r:=fj (x72S R k) (x72J 0) Try.func72 (by kernel_rfl) (A:=True) trivial (by kernel_rfl) (λ _ _=> .trans (x72e _ _ _) (by kernel_rfl))
end
abbrev AEk (R:Type):Type:=Oa->Oa->Oa->Oa->Int->Int->Oa->Nat->Nat->Oa->Oa->Oa->Nat->Nat->Int->Int->Heap->Option R
abbrev AEl (R T:Type):Type:=(Oa->Oa->Oa->Int->Int->Oa->Nat->Nat->Heap->Option R)->(Oa->Int->Heap->Option R)->T
abbrev AC4 (R:Type):Type:=AEl R (Nat->AEk R)
abbrev AHi (R:Type):Type:=Heap->(Oa->Oa->Oa->Int->Int->Bool->Option R)->Option R
abbrev AC3 (R:Type):Type:=Oa->Oa->Oa->Int->Int->Oa->Nat->Nat->AHi R
abbrev AIm (R:Type):Type:=Heap->(Int->Int->Oa->Nat->Nat->Int->Heap->Option R)->Option R
abbrev AD8 (R:Type):Type:=Oa->Oa->Oa->AIm R
section
variable {R:Type} (f0:AFe R) (f1:AFd R) (f2:AIn R) (f3:AG7 R) (f4:AES R) (f5:ADL R) (f6:AGh R) (z0:AC4 R) (z1:AC3 R)
def AC5 (k:Nat):AEl R (AEk R->AEk R):=λ KE0 KR rec p1 p2 p3 p4 n5 n6 q7 l8 c9 p10 p11 q12 l13 c14 n15 n16 H=>
bif decide (n16 < n15) then (hidx q12 l13 n16 1 λ p17=>
ldI .i64 H p17 λ n18=>
ldP H p2 λ p19=>
hnil p19 λ p20=>
hfad 7 p20 λ p21=>
ldI .i64 H p21 λ n22=>
f3 n18 λ n23=>
f4 p1 (IntKind.wrap .i64 ((IntKind.wrap .i64 (n22+n6))+n23)) H λ n24 n25 H26=>
bif (n25 !=0) then (ldI .i64 H26 (pad p4 0) λ n27=>
ldI .i64 H26 (pad p4 1) λ n28=>
ldL H26 (pad p4 2) λ q29 l30 c31=>
hst H26 p3 [.int .i64 n27,.int .i64 n28,.slice q29 l30 c31] λ H32=>
KR p3 n25 H32)
 else (f5 n24 p10 p11 H26 λ H33=>
rec p1 p2 p3 p4 n5 n6 q7 l8 c9 p10 p11 q12 l13 c14 n15 (IntKind.wrap .i64 (n16+1)) H33))
 else (KE0 p2 p3 p4 n5 n6 q7 l8 c9 H)
def AAO (k:Nat):AC4 R
 |KE0,KR,0=> λ _ _ _ _ _ _ _ _ _ _ _ _ _ _ _ _ _=> none
 |KE0,KR,n+1=> AC5 (AF8 k) (ABu k) ACj k KE0 KR (AAO k KE0 KR n)
def AEj (k:Nat):AC3 R:=λ p1 p2 p3 n4 n5 q6 l7 c8 H KN=>
bif decide (n5 > 0) then (ldP H p1 λ p9=>
hnil p9 λ p10=>
hfad 7 p10 λ p11=>
ldI .i64 H p11 λ n12=>
hfad 2 p3 λ p13=>
ldL H p13 λ q14 l15 c16=>
f6 (IntKind.wrap .i64 ((IntKind.wrap .i64 (n12+n5)) - 1)) q6 l7 c8 q14 l15 c16 H λ t17=>
bif t17 then (KN p1 p2 p3 n4 n5 true)
 else (ldP H p1 λ p18=>
hnil p18 λ p19=>
hfad 6 p19 λ p20=>
ldI .i64 H p20 λ n21=>
KN p1 p2 p3 n4 n5 (decide (n21 > 65535))))
 else (ldP H p1 λ p22=>
hnil p22 λ p23=>
hfad 6 p23 λ p24=>
ldI .i64 H p24 λ n25=>
KN p1 p2 p3 n4 n5 (decide (n25 > 65535)))
def AAe (k:Nat):AC3 R:=AEj (AGY k) k
def AD9 (k:Nat):AD8 R:=λ p1 p2 p3 H K=>
hal H [.pointer p3] λ p4 H5=>
hal H5 [.int .i64 0,.int .i64 0,.slice none 0 0] λ p6 H7=>
ldP H7 p4 λ p8=>
hnil p8 λ p9=>
hfad 4 p9 λ p10=>
ldI .i64 H7 p10 λ n11=>
hal H7 [.int .i64 0,.int .i64 0,.slice none 0 0] λ p12 H13=>
hst H13 p12 [.int .i64 n11,.int .i64 0,.slice none 0 0] λ H14=>
f0 p2 H14 λ n15 n16 H17=>
bif (n16 !=0) then (ldI .i64 H17 (pad p12 0) λ n18=>
ldI .i64 H17 (pad p12 1) λ n19=>
ldL H17 (pad p12 2) λ q20 l21 c22=>
hst H17 p6 [.int .i64 n18,.int .i64 n19,.slice q20 l21 c22] λ H23=>
ldI .i64 H23 (pad p6 0) λ n24=>
ldI .i64 H23 (pad p6 1) λ n25=>
ldL H23 (pad p6 2) λ q26 l27 c28=>
K n24 n25 q26 l27 c28 n16 H23)
 else (ldP H17 p4 λ p29=>
hnil p29 λ p30=>
hfad 4 p30 λ p31=>
ldI .i64 H17 p31 λ n32=>
ldP H17 p4 λ p33=>
hnil p33 λ p34=>
hfad 5 p34 λ p35=>
ldI .i64 H17 p35 λ n36=>
bif decide (n15 > (IntKind.wrap .i64 ((IntKind.wrap .i64 ((IntKind.wrap .i64 (3 * n32)) - 2)) - n36))) then (ldI .i64 H17 (pad p12 0) λ n37=>
ldI .i64 H17 (pad p12 1) λ n38=>
ldL H17 (pad p12 2) λ q39 l40 c41=>
hst H17 p6 [.int .i64 n37,.int .i64 n38,.slice q39 l40 c41] λ H42=>
ldI .i64 H42 (pad p6 0) λ n43=>
ldI .i64 H42 (pad p6 1) λ n44=>
ldL H42 (pad p6 2) λ q45 l46 c47=>
K n43 n44 q45 l46 c47 15 H42)
 else (f1 p2 65535 H17 λ n48 n49 H50=>
bif (n49 !=0) then (ldI .i64 H50 (pad p12 0) λ n51=>
ldI .i64 H50 (pad p12 1) λ n52=>
ldL H50 (pad p12 2) λ q53 l54 c55=>
hst H50 p6 [.int .i64 n51,.int .i64 n52,.slice q53 l54 c55] λ H56=>
ldI .i64 H56 (pad p6 0) λ n57=>
ldI .i64 H56 (pad p6 1) λ n58=>
ldL H56 (pad p6 2) λ q59 l60 c61=>
K n57 n58 q59 l60 c61 n49 H56)
 else (ldP H50 p4 λ p62=>
hnil p62 λ p63=>
hfad 7 p63 λ p64=>
ldI .i64 H50 p64 λ n65=>
bif decide ((IntKind.wrap .i64 (n65+n48)) > 16) then (ldI .i64 H50 (pad p12 0) λ n66=>
ldI .i64 H50 (pad p12 1) λ n67=>
ldL H50 (pad p12 2) λ q68 l69 c70=>
hst H50 p6 [.int .i64 n66,.int .i64 n67,.slice q68 l69 c70] λ H71=>
ldI .i64 H71 (pad p6 0) λ n72=>
ldI .i64 H71 (pad p6 1) λ n73=>
ldL H71 (pad p6 2) λ q74 l75 c76=>
K n72 n73 q74 l75 c76 15 H71)
 else (hfad 1 p12 λ p77=>
hst1 H50 p77 (.int .i64 n15) λ H78=>
ldP H78 p4 λ p79=>
hnil p79 λ p80=>
hfad 5 p80 λ p81=>
ldI .i64 H78 p81 λ n82=>
hnil p1 λ p83=>
hfad 3 p83 λ p84=>
ldB H78 (pad p84 0) λ t85=>
ldB H78 (pad p84 1) λ t86=>
ldB H78 (pad p84 2) λ t87=>
ldB H78 (pad p84 3) λ t88=>
ldB H78 (pad p84 4) λ t89=>
f2 n82 n15 t85 t86 t87 t88 t89 H78 λ q90 l91 c92 H93=>
z0 (λ p104 p105 p106 n107 n108 q109 l110 c111 H112=>
z1 p104 p105 p106 n107 n108 q109 l110 c111 H112 (λ p119 p120 p121 n122 n123 t124=>
bif t124 then (ldI .i64 H112 (pad p121 0) λ n125=>
ldI .i64 H112 (pad p121 1) λ n126=>
ldL H112 (pad p121 2) λ q127 l128 c129=>
hst H112 p120 [.int .i64 n125,.int .i64 n126,.slice q127 l128 c129] λ H130=>
ldI .i64 H130 (pad p120 0) λ n131=>
ldI .i64 H130 (pad p120 1) λ n132=>
ldL H130 (pad p120 2) λ q133 l134 c135=>
K n131 n132 q133 l134 c135 15 H130)
 else (ldP H112 p119 λ p136=>
hnil p136 λ p137=>
hfad 7 p137 λ p138=>
ldI .i64 H112 p138 λ n139=>
hnil p136 λ p140=>
hfad 7 p140 λ p141=>
hst1 H112 p141 (.int .i64 (IntKind.wrap .i64 (n139+n123))) λ H142=>
ldP H142 p119 λ p143=>
hnil p143 λ p144=>
hfad 5 p144 λ p145=>
ldI .i64 H142 p145 λ n146=>
hnil p143 λ p147=>
hfad 5 p147 λ p148=>
hst1 H142 p148 (.int .i64 (IntKind.wrap .i64 (n146+n122))) λ H149=>
ldI .i64 H149 (pad p121 0) λ n150=>
ldI .i64 H149 (pad p121 1) λ n151=>
ldL H149 (pad p121 2) λ q152 l153 c154=>
hst H149 p120 [.int .i64 n150,.int .i64 n151,.slice q152 l153 c154] λ H155=>
ldI .i64 H155 (pad p120 0) λ n156=>
ldI .i64 H155 (pad p120 1) λ n157=>
ldL H155 (pad p120 2) λ q158 l159 c160=>
K n156 n157 q158 l159 c160 0 H155))) (λ p161 n162 H163=>
ldI .i64 H163 (pad p161 0) λ n164=>
ldI .i64 H163 (pad p161 1) λ n165=>
ldL H163 (pad p161 2) λ q166 l167 c168=>
K n164 n165 q166 l167 c168 n162 H163) k p2 p4 p6 p12 n15 n48 q90 l91 c92 p12 p4 q90 l91 c92 ((l91:Nat):Int) 0 H93))))
def AAd (k:Nat):AD8 R:=AD9 (AB3 k) (AB2 k) (ADN k) (AAO k) (AAe k) k
def x47C:Tab R:=tcons 70 (x70a f0) <|tcons 71 (x71a f1) <|tcons 20 (x20a f2) <|tcons 65 (x65a f3) <|tcons 73 (x73a f4) <|tcons 72 (x72a f5) <|tcons 62 (x62a f6) <|λ _ _ _ _=> none
def APQ:PS:=⟨(.reg [5,6,8,9,11,125] (ms [0,1,3,7,15,31,63,7,255,511,7,7,2055,8191,16383,32767,65535,131071,262143,524287,1048575,2097151])),[5,6,8,9,11,12],[.p,.p,.p,.n,.n,.l],⟨[5,6,8,9,11,125],[],[]⟩⟩
def AZ5 (g:AHi R) (H:Heap) (K:XK R):Option R:=g H (kN .normal [5,6,8,9,11,125] [.p,.p,.p,.n,.n,.b] K H)
def AXD (f:AC3 R):Nat->List Value->Heap->XK R->Option R:=jp APQ AZ5 f
def APR:PS:=⟨(.seq (.reg [1,5,6,8,9,11,12,13,76,77,78,79] []) (.seq (.cond .leaf .leaf) (.seq (.node (.seq (.reg [1,5,6,8,9,11,12,13,15,76,77,78] []) (.seq (.reg [1,5,6,8,9,11,12,13,16,17,76,77,78] (ms [0,0,2,6,14,0,62,0,128,510,1023,2047,4095,4095,8191,32767])) (.seq (.seq (.reg [1,5,6,8,9,11,12,13,16,17,76,77,78,97] []) (.cond (.seq (.reg [6,7] []) .leaf) .leaf)) (.reg [1,5,6,8,9,11,12,13,76,77,78] []))))) (.reg [1,5,6,8,9,11,12,13,76,77,78] [])))),[1,5,6,8,9,11,12,13,76,77,78],[.p,.p,.p,.p,.n,.n,.l,(.f 72 2),.p,.p,.l,.n,.n],⟨[],[(0,[5,6,8,9,11,12])],[6,7]⟩⟩
def AXC {T:Type} (g:AEl R T) (H:Heap) (K:XK R):T:=g (kH (.exit 0) [5,6,8,9,11,12] [.p,.p,.p,.n,.n,.l] K) (kH .ret [6,7] [.p,.n] K)
def AUX (f:AC4 R):Nat->List Value->Heap->XK R->Option R:=jl APR (L:=AC4 R) AXC pH f
def x47J (k:Nat):JTab R:=tcons 0 (AUX z0 k) <|tcons 1 (AXD z1 k) <|λ _ _ _ _=> none
def x47t:AT:=(.seq (.reg [0,1,5,6] []) (.seq (.reg [0,1,5,6,8] []) (.seq (.reg [0,1,5,6,8,9,10] []) (.seq (.seq (.reg [0,1,5,6,8,9,10,29] []) (.cond (.seq (.reg [6,7] []) .leaf) .leaf)) (.seq (.seq (.reg [0,1,5,6,8,9,44] (ms [0,0,2,6,14,30,62,0,128,384,896,2046,4095])) (.cond (.seq (.reg [6,7] []) .leaf) .leaf)) (.seq (.reg [0,1,5,6,8,9,10,11] []) (.seq (.seq (.reg [0,1,5,6,8,9,10,11,52] []) (.cond (.seq (.reg [6,7] []) .leaf) .leaf)) (.seq (.seq (.reg [0,1,5,6,8,9,11,61] []) (.cond (.seq (.reg [6,7] []) .leaf) .leaf)) (.seq (.reg [0,1,5,6,8,9,11] []) (.seq (.reg [1,5,6,8,9,11,12] (ms [0,1,3,7,0,0,32,96,224,511,1023])) (.seq (.reg [1,5,6,8,9,11,12,13] []) (.seq (.seq (.reg [1,5,6,8,9,11,12,13,76,77,78] []) (.node (.opq 0 APR.ls APR.out (.node APR.t)))) (.seq (.seq (.opq 1 APQ.ls APQ.out APQ.t) (.cond (.seq (.reg [6,7] []) .leaf) .leaf)) (.seq (.reg [5,6,8,9] []) (.seq (.reg [6,8] []) (.seq (.reg [6,7] []) .leaf))))))))))))))))
def x47c (g:AIm R) (H:Heap) (K:Value->Heap->Option R):Option R:=g H (rH [(.a 3),.n,.n,.l,.n] K)
def x47a (f:AD8 R):List Value->Heap->(Value->Heap->Option R)->Option R:=jf 3 [.p,.p,.p] x47c f
variable {f0 f1 f2 f3 f4 f5 f6 z0 z1}
theorem AeK (k:Nat) (H:Heap) (K:XK R):jE Try.prog An 144 (x47C f0 f1 f2 f3 f4 f5 f6) (x47J z0 z1 k) APQ (sel [1,1,1,1,1,1,1,1,1,1,1,1,0,0] (bd Try.f47)) H K=mapT (λ g=> AZ5 g H K) APQ.ts (AEj f6 k):=by kernel_rfl
theorem AeL (k n:Nat) (H:Heap) (K:XK R):lE Try.prog An 144 (x47C f0 f1 f2 f3 f4 f5 f6) (x47J z0 z1 k) APR (sel [1,1,1,1,1,1,1,1,1,1,1,0,1,0,0] (bd Try.f47)) (AUX z0) n H K=mapT (λ g=> pH g H) APR.ts (AXC (AC5 f3 f4 f5 k) H K (AXC z0 H K n)):=by kernel_rfl
theorem x47e (k:Nat) (H:Heap) (K:Value->Heap->Option R):fE Try.prog An (x47C f0 f1 f2 f3 f4 f5 f6) (x47J z0 z1 k) x47t Try.f47 [.p,.p,.p] H K=mapT (λ g=> x47c g H K) [.p,.p,.p] (AD9 f0 f1 f2 z0 z1 k):=by kernel_rfl
theorem x47S (R:Type) (k:Nat):CSound Try.prog (x47C (R:=R) (AB3 k) (AB2 k) (ADN k) (AF8 k) (ABu k) ACj (AGY k)):=AAB (AdQ R k) <|AAB (AdP R k) <|AAB (Afg R k) <|AAB (AZp R k) <|AAB (AZg R k) <|AAB (AdM R k) <|AAB (Adi R k) <|AAE
theorem AeI (R:Type) (k:Nat):JS Try.prog 144 (AXD (AAe (R:=R) k) k) APQ.ls APQ.out (sel [1,1,1,1,1,1,1,1,1,1,1,1,0,0] (bd Try.f47)):=pj (x47S R k) (x47J (AAO k) (AAe k) k) (by kernel_rfl) (A:=True) trivial (by kernel_rfl) (λ _ _=> .trans (AeK _ _ _) (by kernel_rfl))
theorem AeJ (R:Type) (k:Nat):JS Try.prog 144 (AUX (AAO (R:=R) k) k) APR.ls APR.out (.loop (sel [1,1,1,1,1,1,1,1,1,1,1,0,1,0,0] (bd Try.f47))):=lj (x47S R k) (x47J (AAO k) (AAe k) k) (by kernel_rfl) (A:=True) trivial (by kernel_rfl) (λ _ _=> by kernel_rfl) (λ _ _ _=> .trans (AeL _ _ _ _) (by kernel_rfl)) k
theorem AeM (R:Type) (k:Nat):∀args H K r,x47a (AAd k) args H K=some (r:R)->∃v H',Tri Try.prog 47 args H v H'/\K v H'=some r:=fj (x47S R k) (x47J (AAO k) (AAe k) k) Try.func47 (by kernel_rfl) (A:=JS Try.prog 144 (AUX (AAO (R:=R) k) k) APR.ls APR.out (.loop (sel [1,1,1,1,1,1,1,1,1,1,1,0,1,0,0] (bd Try.f47)))/\JS Try.prog 144 (AXD (AAe (R:=R) k) k) APQ.ls APQ.out (sel [1,1,1,1,1,1,1,1,1,1,1,1,0,0] (bd Try.f47))/\True) ⟨AeJ R k,⟨AeI R k,trivial⟩⟩ (by kernel_rfl) (λ _ _=> .trans (x47e _ _ _) (by kernel_rfl))
end
abbrev AI5 (R:Type):Type:=Heap->(Oa->Bool->Option R)->Option R
abbrev AEC (R:Type):Type:=Oa->Int->AI5 R
abbrev AI6 (R:Type):Type:=Heap->(Oa->Heap->Option R)->(Int->Int->Heap->Option R)->Option R
abbrev AED (R:Type):Type:=Oa->Int->AI6 R
abbrev AKb (R:Type):Type:=Heap->(Int->Int->Heap->Option R)->Option R
abbrev AFf (R:Type):Type:=Oa->AKb R
section
variable {R:Type} (f0:ACb R) (z0:AED R) (z1:AEC R)
def ABn (k:Nat):AEC R:=λ p1 n2 H KN=>
hnil p1 λ p3=>
hfad 3 p3 λ p4=>
ldI .i64 H p4 λ n5=>
bif (n5==0) then (KN p1 (n2==255))
 else (KN p1 false)
def AAn (k:Nat):AEC R:=ABn k
def ABo (k:Nat):AED R:=λ p1 n2 H KN KR=>
z1 p1 n2 H (λ p5 t6=>
bif t6 then (hnil p5 λ p7=>
hfad 2 p7 λ p8=>
ldI .i64 H p8 λ n9=>
hnil p5 λ p10=>
hfad 1 p10 λ p11=>
ldL H p11 λ q12 l13 c14=>
bif (n9==((l13:Nat):Int)) then (KR 0 7 H)
 else (hnil p5 λ p15=>
hfad 1 p15 λ p16=>
ldL H p16 λ q17 l18 c19=>
hnil p5 λ p20=>
hfad 2 p20 λ p21=>
ldI .i64 H p21 λ n22=>
hidx q17 l18 n22 1 λ p23=>
ldI .u8 H p23 λ n24=>
bif (n24 !=0) then (KR 0 8 H)
 else (hnil p5 λ p25=>
hfad 2 p25 λ p26=>
ldI .i64 H p26 λ n27=>
hnil p5 λ p28=>
hfad 2 p28 λ p29=>
hst1 H p29 (.int .i64 (IntKind.wrap .i64 (n27+1))) λ H30=>
KN p5 H30)))
 else (KN p5 H))
def AAo (k:Nat):AED R:=ABo (AAn k) k
def ABP (k:Nat):AFf R:=λ p1 H K=>
f0 p1 H λ t2=>
bif (!t2) then (K 0 6 H)
 else (hnil p1 λ p3=>
hfad 2 p3 λ p4=>
ldI .i64 H p4 λ n5=>
bif (n5==0) then (K 0 0 H)
 else (hnil p1 λ p6=>
hfad 1 p6 λ p7=>
ldL H p7 λ q8 l9 c10=>
hnil p1 λ p11=>
hfad 2 p11 λ p12=>
ldI .i64 H p12 λ n13=>
hidx q8 l9 (IntKind.wrap .i64 (n13 - 1)) 1 λ p14=>
ldI .u8 H p14 λ n15=>
hnil p1 λ p16=>
hfad 3 p16 λ p17=>
ldI .i64 H p17 λ n18=>
hbin .shl .u8 1 (IntKind.wrap .u64 n18) λ n19=>
hbin .and .u8 n15 (IntKind.wrap .u8 (n19 - 1)) λ n20=>
bif (n20 !=0) then (K 0 8 H)
 else (z0 p1 n15 H (λ p24 H25=>
hnil p24 λ p26=>
hfad 3 p26 λ p27=>
hst1 H25 p27 (.int .i64 0) λ H28=>
hnil p24 λ p29=>
hfad 2 p29 λ p30=>
ldI .i64 H28 p30 λ n31=>
K n31 0 H28) (λ n32 n33 H34=>
K n32 n33 H34))))
def AAp (k:Nat):AFf R:=ABP ABU (AAo k) k
def x48C:Tab R:=tcons 66 (x66a f0) <|λ _ _ _ _=> none
def APO:PS:=⟨(.reg [0,42] []),[0,4],[.p,(.i .u8)],⟨[0,42],[],[]⟩⟩
def AZ3 (g:AI5 R) (H:Heap) (K:XK R):Option R:=g H (kN .normal [0,42] [.p,.b] K H)
def AXA (f:AEC R):Nat->List Value->Heap->XK R->Option R:=jp APO AZ3 f
def APP:PS:=⟨(.seq (.opq 1 APO.ls APO.out APO.t) (.cond (.seq (.seq (.reg [0,52] (ms [0,1,3,7,0,16,48,112,240,511])) (.cond (.seq (.reg [2,3] []) .leaf) .leaf)) (.seq (.seq (.reg [0,63] (ms [0,1,3,7,0,16,48,112,255,511,1023])) (.cond (.seq (.reg [2,3] []) .leaf) .leaf)) (.reg [0] []))) .leaf)),[0,4],[.p,(.i .u8)],⟨[0],[],[2,3]⟩⟩
def AZ4 (g:AI6 R) (H:Heap) (K:XK R):Option R:=g H (kH .normal [0] [.p] K) (kH .ret [2,3] [.n,.n] K)
def AXB (f:AED R):Nat->List Value->Heap->XK R->Option R:=jp APP AZ4 f
def x48J (k:Nat):JTab R:=tcons 0 (AXB z0 k) <|tcons 1 (AXA z1 k) <|λ _ _ _ _=> none
def x48t:AT:=(.seq (.reg [0] []) (.seq (.seq (.reg [0,7] []) (.cond (.seq (.reg [2,3] []) .leaf) .leaf)) (.seq (.seq (.reg [0,12] []) (.cond (.seq (.reg [2,3] []) .leaf) .leaf)) (.seq (.reg [0,4] (ms [0,1,3,7,0,16,48,112,240,511,1023,2047])) (.seq (.seq (.reg [0,4,33] []) (.cond (.seq (.reg [2,3] []) .leaf) .leaf)) (.seq (.opq 0 APP.ls APP.out APP.t) (.seq (.reg [0] []) (.seq (.reg [2,3] []) .leaf))))))))
def x48c (g:AKb R) (H:Heap) (K:Value->Heap->Option R):Option R:=g H (rH [.n,.n] K)
def x48a (f:AFf R):List Value->Heap->(Value->Heap->Option R)->Option R:=jf 1 [.p] x48c f
variable {f0 z0 z1}
theorem AeF (k:Nat) (H:Heap) (K:XK R):jE Try.prog An 78 (x48C f0) (x48J z0 z1 k) APO (sel [1,1,1,1,1,0,0] (bd Try.f48)) H K=mapT (λ g=> AZ3 g H K) APO.ts (ABn k):=by kernel_rfl
theorem AeG (k:Nat) (H:Heap) (K:XK R):jE Try.prog An 78 (x48C f0) (x48J z0 z1 k) APP (sel [1,1,1,1,1,0] (bd Try.f48)) H K=mapT (λ g=> AZ4 g H K) APP.ts (ABo z1 k):=by kernel_rfl
theorem x48e (k:Nat) (H:Heap) (K:Value->Heap->Option R):fE Try.prog An (x48C f0) (x48J z0 z1 k) x48t Try.f48 [.p] H K=mapT (λ g=> x48c g H K) [.p] (ABP f0 z0 k):=by kernel_rfl
theorem x48S (R:Type) (k:Nat):CSound Try.prog (x48C (R:=R) ABU):=AAB (ASx R k) <|AAE
theorem AeD (R:Type) (k:Nat):JS Try.prog 78 (AXA (AAn (R:=R) k) k) APO.ls APO.out (sel [1,1,1,1,1,0,0] (bd Try.f48)):=pj (x48S R k) (x48J (AAo k) (AAn k) k) (by kernel_rfl) (A:=True) trivial (by kernel_rfl) (λ _ _=> .trans (AeF _ _ _) (by kernel_rfl))
theorem AeE (R:Type) (k:Nat):JS Try.prog 78 (AXB (AAo (R:=R) k) k) APP.ls APP.out (sel [1,1,1,1,1,0] (bd Try.f48)):=pj (x48S R k) (x48J (AAo k) (AAn k) k) (by kernel_rfl) (A:=JS Try.prog 78 (AXA (AAn (R:=R) k) k) APO.ls APO.out (sel [1,1,1,1,1,0,0] (bd Try.f48))/\True) ⟨AeD R k,trivial⟩ (by kernel_rfl) (λ _ _=> .trans (AeG _ _ _) (by kernel_rfl))
theorem AeH (R:Type) (k:Nat):∀args H K r,x48a (AAp k) args H K=some (r:R)->∃v H',Tri Try.prog 48 args H v H'/\K v H'=some r:=fj (x48S R k) (x48J (AAo k) (AAn k) k) Try.func48 (by kernel_rfl) (A:=JS Try.prog 78 (AXB (AAo (R:=R) k) k) APP.ls APP.out (sel [1,1,1,1,1,0] (bd Try.f48))/\True) ⟨AeE R k,trivial⟩ (by kernel_rfl) (λ _ _=> .trans (x48e _ _ _) (by kernel_rfl))
end
end Go.Proofs.Ytmanlfonppfhaaa.Sh
