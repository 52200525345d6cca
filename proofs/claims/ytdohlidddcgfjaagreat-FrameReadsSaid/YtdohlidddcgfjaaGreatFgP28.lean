import Derived.Test.YtdohlidddcgfjaaGreatFgT
import Derived.Test.YtdohlidddcgfjaaGreatFgP27
set_option linter.all false
namespace Go.Proofs.YtdohlidddcgfjaaGreat
open Go Tryz
set_option maxRecDepth 100000
def aca b{R}(h:m7 b=some R):dk bt 26 [ek ((rI .u8)) b] (tT [tD ew R.1,fU R.2]):=by
 refine dX func26 J<|O<|bD fj mU J fun b1=>bo<|bC<|aN<|Z J<|bX gV J<|X (d8 (D J) hI)<|Z J<|bR h fun t u_ h=>aB J (ca J) ?_;obtain⟨r,h_,v_⟩:=og u_;have x_:=fun V=>(h_ V).1;refine aB J (fun Y=>cC agt (ab0 _ (x_ Y)) ⟨(bg J Y),aV⟩)<|aB J (nt J)<|X (iQ (D J) (fun V=>(bg J (sL V))) (fun V=>(h_ V).2) v_)<|bV h J (fun h=>?_) (fun h=>?_)
 ·exact O<|X (cI fj Gi mU J)<|be fj aq J<|bo<|bF<|ae<|cJ 2 J<|so h▸kD J J ⟨hZ fj J J J,dH J,aV⟩
 ·refine fy<|aw J<|Z J<|bX gV J<|X (ec (D J) hI)<|bR h fun y M_ h=>X (w4 gV iV J (D J) (D J) M_)<|X (cI (r:=rH dO []) (y:=(⟨y,0,false⟩:bd)) afI afS (zH SV trivial) (⟨_,_,_,_,_,J,Hd Nk J J,J,(D J),J⟩))<|ss (D J) J fun b2=>?_;refine(show RG _ _ _ _ [_,_] _ from ?_);refine aK J<|aw J<|bR h fun r1 I' h=>bc (ay (xs:=[.tmp 22]) (ts:=[Q (M b2 0)]) (jf b2 (⟨y,0,false⟩:bd) fe) _ J ags (adF b2 fe (⟨y,0,false⟩:bd) I') ⟨(D J),aV⟩ (fun _=>J)) J fun i=>?_;refine(show RG _ _ _ _ [_,_] ((23,tD ew r1.1)::_)from ?_);refine bD fj mU J fun b3=>be fj aq J<|bj 5 J<|bC<|aS<|aS<|bR h fun t1 E_ h=>?_;obtain⟨r2,r_,F_⟩:=og E_;have Q_:=fun V=>(r_ V).1;refine ga (ts:=[_,_,_,_,_,_,_,_,_,_,_,_,_,_,_,_,_,_,_,_,_]) mixed J J
   ⟨fc J J,
   ⟨eS 24 0 J J (aL (D J)),
   ⟨eS 25 1 J J (pL 2 oq J J J),
   ⟨eS 26 2 J J (aA (r:=rH dO []) (x:=r1.2) ua J J (eF jF) (.head _) (D J)),
   ⟨eS 27 3 J J (ki J),
   ⟨te 4 28 4 J J J (eQ J J J J (fun Y=>ki J)),
   ⟨iX 29 5 28 4 J J J (eQ J J J J (fun Y=>aL (bg J Y))),
   ⟨iX 30 6 28 4 J J J (eQ J J J J (fun Y=>bY (n:=1) xc J (bg J Y) J)),
   ⟨iX 31 7 28 4 J J J (eQ J J J J (fun Y=>aA (r:=rH dO []) (x:=r1.2) bH J J (eF nV) (.head _) (bg J Y))),
   ⟨te 4 28 4 J J J (eQ J J J J (fun Y=>ki J)),
   ⟨iX 33 9 28 4 J J J (eQ J J J J (fun Y=>aL (bg J Y))),
   ⟨iX 34 10 28 4 J J J (eQ J J J J (fun Y=>bY (n:=0) Id J (bg J Y) J)),
   ⟨iX 35 11 28 4 J J J (eQ J J J J (fun Y=>aA (r:=rH dO []) (x:=r1.2) wN J J (eF tS) (.head _) (bg J Y))),
   ⟨iX 36 12 28 4 J J J (eQ J J J J (fun Y=>fK gV (bg J Y))),
   ⟨AC 32 8 37 13 28 4 J J J J (eQ J J J J (fun Y=>dc (bg J Y) (bg J Y))),
   ⟨fR 28 4 38 14 J J J (zpo J J),
   ⟨eS 39 15 J J (ki J),
   ⟨te 5 40 16 J J J (eQ J J J J (fun Y=>CM fj J J)),
   ⟨iX 41 17 40 16 J J J (eQ J J J J (fun Y=>cC adV (Wr _ (Q_ Y)) ⟨(bg J Y),aV⟩)),
   ⟨iX 42 18 40 16 J J J (eQ J J J J (fun Y=>fq (bg J Y))),
   ⟨fR 40 16 43 19 J J J (iQ (D J) (fun V=>(bg J (sL V))) (fun V=>(r_ V).2) F_),
   aV⟩⟩⟩⟩⟩⟩⟩⟩⟩⟩⟩⟩⟩⟩⟩⟩⟩⟩⟩⟩⟩ ?_
  refine an<|fz h J (fun h=>?_) (fun h=>?_)
  ·exact O<|X (cI fj Gi mU J)<|bf<|be fj aq J<|bo<|bF<|ae<|cJ 2 J<|aF<|so h▸kD J J ⟨hZ fj J J J,dH J,aV⟩
  ·exact fy<|O<|eb fj J<|bf<|be fj aq J<|bo<|bF<|cJ 2 J<|aF<|so h▸kD J J ⟨hZ fj J J J,dH J,aV⟩
def adC b{R}(h:ja b=some R):dk bt 6 [ek ((rI .u8)) b] (fU R):=by
 refine dX func6 J<|O<|bo<|bC<|aN<|ej h agT acL trivial fun r h=>X (fq (D J))<|bV h J (fun h=>?_) (fun h=>?_)
 ·exact O<|bo<|bF<|ae<|so h▸aC J J
 ·refine fy<|aN<|Z J<|bX gV J<|X (d8 (D J) hI)<|bV h J (fun h=>?_) (fun h=>?_)
  ·exact O<|bo<|bF<|ae<|so h▸aC J J
  ·refine fy<|O<|iU (r:=(rI .u8)) (ys:=y6) (xs:=[]) gV iV J J J J J trivial J fun l c=>Z J<|bR h fun l1 Y_ h=>bA iV J J J J gV J J (D J) (D J) Y_ fun l2 c1=>ed<|cR 15 J<|ej h agM (acb _) ⟨(mY (D J)),aV⟩ fun r1 h=>Z J<|dJ J J<|dJ J J<|bD fj mU J fun b1=>be fj aq J<|bj 3 J<|aK J<|aw J ?_;refine ej h agL (aca _) (co J) fun r2 h=>Z J<|dJ J J<|dJ J J<|bD fj mU J fun b2=>be fj aq J<|bj 5 J<|aK J<|aN<|Z J<|Z J<|bl J<|X (LA KK (D J) (D J))<|Z J<|bR h fun t u_ h=>aB J (fun Y=>CM fj J J)<|aB J (fun Y=>CM fj J J) ?_;obtain⟨r3,h_,v_⟩:=og u_;have q_r3g:=fun V=>(h_ V).1;refine aB J (fun Y=>cC Us (Fi _ _ (q_r3g Y)) ⟨(bg J Y),(bg J Y),aV⟩)<|aB J (nt J)<|X (iQ (D J) (fun V=>(bg J (sL V))) (fun V=>(h_ V).2) v_)<|bV h J (fun h=>?_) (fun h=>?_)
   ·exact O<|bo<|bF<|ae<|aF<|so h▸aC J J
   ·refine fy<|aN<|Z J<|mV J<|bV h J (fun h=>?_) (fun h=>?_)
    ·refine O<|eb fj J<|X (cI fj Gi mU J)<|ej h Us (Fi _ _) (co J) fun r4 h=>Z J<|ac J (ca J)<|ac J (iq J)<|ac J (ov J)<|cO J J J J (fun Y=>ki J)<|cO J J J J (fun Y=>dW (bg J Y) hI)<|ac J (fun Y=>ke (bg J Y) (fun V=>(bg J (ub Y (sL V)))))<|ac J (ov J)<|cO J J J J (fun Y=>ki J)<|cO J J J J (fun Y=>dW (bg J Y) hI)<|ac J (fun Y=>ke (bg J Y) (fun V=>(bg J (ub Y (sL V)))))<|cm J<|Z J<|ac J (ca J)<|ac J (iq J)<|ac J (ca J)<|ac J (hM gV J)<|ac J (fun Y=>eC (bg J Y) hI) ?_;exact ac J (fun Y=>D7 KK (bg J Y) (bg J Y))<|cm J<|ba J<|ae<|aF<|so h▸aC J J
    ·refine fy<|O<|eb fj J<|ej h agQ (acv _) (co J) fun r5 h=>Z J<|bR h fun t1 E_ h=>ac J (fun Y=>CM fj J J) ?_;obtain⟨r6,r_,F_⟩:=og E_;have q_r6g:=fun V=>(r_ V).1;refine ac J (fun Y=>cC aeU (WC _ (q_r6g Y)) ⟨(bg J Y),aV⟩)<|ac J (ca J) ?_;obtain⟨r7,r_⟩:=og2 (fun V=>(r_ V).2);have q_r7g:=fun V=>(r_ V).1;exact ac J (fun Y=>cC acX (QC _ _ (q_r7g Y)) ⟨(bg J Y),(bg J Y),aV⟩)<|X (cw (D J) (fun V=>(bg J V)) (fun V=>(r_ V).2) F_)<|ba J<|aF<|so h▸aC J J
