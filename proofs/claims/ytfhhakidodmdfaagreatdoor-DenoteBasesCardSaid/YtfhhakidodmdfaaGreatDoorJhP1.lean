/- cX of this claim: P1. -/
import Derived.Test.YtfhhakidodmdfaaGreatDoorJhT
import Derived.Test.YtfhhakidodmdfaaGreatDoorJhP0
set_option linter.all false
namespace Go.Proofs.YtfhhakidodmdfaaGreatDoor
open Go
set_option maxRecDepth 100000

theorem DI(e:cK){R:Int}(h:qw e=some R):aN aJ 75 [tD bY e] (bu R):=by
 refine aN.of Tryz.func75 J J J fun w0 S0=>ap<|zo J (ff J)<|zo J (bO)<|al<|ae<|ap<|zo J (bn jg J J)<|bp h fun r q_r h=>zo J (ax PH (J8 _ q_r) ⟨(ht J),aP⟩)<|aB J<|zo J (eT J J)<|zo J (eT J J)<|ba J<|ba J<|al<|ap<|aB J<|zo J (cH (ht J)) ?_;refine al<|bX h J (fun h=>?_) (fun h=>?_)
 ·refine ap<|zo J (bO)<|al<|ai<|aa ?_;cases so h;exact ay J J
 ·refine cF<|ap<|zo J (bO)<|al<|ai ?_;cases so h;exact ay J J

theorem Nc(l:Option Nat)(c:Nat)(s:(List Int)){R:(List Int)}(h:lg s=some R):cy aJ 91 [mp l c s] [dJ bI 3 l c s] (fun i:OI=>mp (i.h 0).1 (i.h 0).2 R) (fun i=>[dJ bI 3 (i.h 0).1 (i.h 0).2 R]):=by
 refine cy.of Tryz.func91 J J J fun w0 S0=>ap<|bA false bI 3<|zo J (aD mZ)<|al<|ae<|ap<|aB J<|zo J (fO ed (.tail _ (.head _)) (ht J))<|zo J (dO (ht J) hI)<|al<|bX h J (fun h=>?_) (fun h=>?_)
 ·refine ap<|aB J<|ba J<|al<|ai<|aa<|aY ?_;cases so h;exact jl J (oi l c) J J (fun _ _ h=>h)
 ·refine cF<|ae<|ap<|zo J (bO)<|al<|au<|kc (.tail _ (.head _)) fun hN=>bo<|mC ?_;refine aI (cN (Z:=fun ls i=>(s.drop i=ls)∧gP s ls i=some R) (Of:=fun _ i=>[dJ bI 3 l c s]) (Gf:=fun _ i=>[(0,mp l c s),(3,bu (i:Int))]) (fun i h=>?_) (fun e tl ih i h=>?_) (s.drop (1)) 1 ⟨J,h⟩) (bh J)
  ·obtain⟨hx,h⟩:=h
   refine aw<|ae<|ap<|aB J<|aB J<|zo J (fO ed (.head _) (ht J))<|zo J (dC J J)<|al<|bm (ht J) (cx hx)<|be ?_;refine af (af (aE ?_));refine ak<|ap<|aB rfl<|ba rfl<|al<|ai ?_;cases so h;exact jl J (oi l c) J J (fun _ _ h=>h)
  ·obtain⟨hx,h⟩:=h
   refine aw<|ae<|ap<|aB J<|aB J<|zo J (fO ed (.head _) (ht J))<|zo J (dC J J)<|al<|bl (ht J) (cw hx)<|cF<|ae<|au<|ae<|bp h fun e1 q_e1 h=>?_
   refine bZ (ts:=[_,_,_,_,_,_,_,_,_,_]) mixed J J
    ⟨dp 0 J J J (cr J),
    ⟨dp 3 J J J (cr J),
    ⟨cO 16 0 17 1 J J J J (ck ed bP (.head _) (ht J) (ht J) (ci hx)),
    ⟨bH 18 2 J J J (eo (r:=bI) (i:=(i:Int)) (foff:=0) bP J J bG J (.head _) (ci hx) (ht J)),
    ⟨dp 0 J J J (cr J),
    ⟨dp 3 J J J (cr J),
    ⟨bH 21 5 J J J (eZ (ht J) hI),
    ⟨cO 20 4 22 6 J J J J (ck ed bP (.head _) (ht J) (ht J) q_e1),
    ⟨bH 23 7 J J J (eo (r:=bI) (i:=(IntKind.i64.wrap ((i:Int)-(1:Int)))) (foff:=0) bP J J bG J (.head _) q_e1 (ht J)),
    ⟨cO 19 3 24 8 J J J J (cA (ht J) (ht J)),
    aP⟩⟩⟩⟩⟩⟩⟩⟩⟩⟩ ?_
   refine ak<|bX h rfl (fun h=>?_) (fun h=>?_)
   ·refine ap<|aB J<|aB J<|bp h fun y q_y h=>zo J (jN ed bP J (.head _) (ht J) (ht J) q_y)<|je (.head _) q_y fun hv=>ba J<|al<|ae<|ap<|zo J (bO)<|al<|au<|bo ?_;refine aI (Bh (Z:=fun k1 i1 s1 k=>(y.length-i1=k1)∧fl i y k1 i1 s1 k=some R) (Of:=fun _ i1 s1 k=>[dJ bI 3 l c s1]) (Gf:=fun _ i1 s1 k=>[(0,mp l c s1),(3,bu k),(4,tV (kd 1 l c (i:Int).toNat y.length)),(5,bu (i1:Int))]) (fun i1 s1 k h=>?_) (fun k2 ih1 i1 s1 k h=>?_) (y.length-1) 1 s (i:Int) ⟨J,h⟩) (bh J)
    ·obtain⟨hx1,h⟩:=h
     refine aw<|ae<|ap<|aB J<|aB J<|zo J (wQ ed hv.1 (ht J))<|zo J (dC J J)<|al<|bm (ht J) (LO hx1)<|be ?_;refine af (af (aE ?_));refine ak<|ap<|aB rfl<|aB rfl<|bp h fun y1 q_y1 h=>zo J (jN ed bP J (.head _) (ht J) (ht J) q_y1)<|je (.head _) q_y1 fun hv1=>bp h fun cl q_cl h=>zS bP J J ed (fun _=>J) J q_y1 (ht J) (so q_cl)<|fj (sy q_y1 (so q_cl)) 0 J<|fj (sy q_y1 (so q_cl)) 54 J<|al<|ap<|aB J<|aB J<|bp h fun y2 q_y2 h=>zo J (hJ ed bP J (.head _) (ht J) (ht J) q_y2)<|qI q_y2<|ba J<|al ?_;refine ai ?_;refine aq (aa (aa (aq (aa ?_))));cases so h;exact jl J (oi l c) J J (fun _ _ h=>h)
    ·obtain⟨hx1,h⟩:=h
     refine aw<|ae<|ap<|aB J<|aB J<|zo J (wQ ed hv.1 (ht J))<|zo J (dC J J)<|al<|bl (ht J) (LN hx1)<|cF<|ae<|au<|ae<|bp h fun e3 q_e3 h=>bp h fun e4 q_e4 h=>?_
     refine bZ (ts:=[_,_,_,_,_,_,_,_,_,_]) mixed J J
      ⟨dp 4 J J J (cr J),
      ⟨dp 5 J J J (cr J),
      ⟨cO 35 0 36 1 J J J J (jp ed bP J (.head _) (nv q_y) (ht J) (ht J) q_e3),
      ⟨bH 37 2 J J J (eo (r:=bI) (i:=((i:Int)+(i1:Int))) (foff:=0) bP J J bG J (.head _) (lU q_e3).2.2 (ht J)),
      ⟨dp 4 J J J (cr J),
      ⟨dp 5 J J J (cr J),
      ⟨bH 40 5 J J J (eZ (ht J) hI),
      ⟨cO 39 4 41 6 J J J J (jp ed bP J (.head _) (nv q_y) (ht J) (ht J) q_e4),
      ⟨bH 42 7 J J J (eo (r:=bI) (i:=((i:Int)+(IntKind.i64.wrap ((i1:Int)-(1:Int))))) (foff:=0) bP J J bG J (.head _) (lU q_e4).2.2 (ht J)),
      ⟨cO 38 3 43 8 J J J J (dc (ht J) (ht J)),
      aP⟩⟩⟩⟩⟩⟩⟩⟩⟩⟩ ?_
     refine ak<|bX h rfl (fun h=>?_) (fun h=>?_)
     ·refine ap<|aB J<|aB J<|aB J<|aB J<|bp h fun e5 q_e5 h=>zo J (jp ed bP J (.head _) (nv q_y) (ht J) (ht J) q_e5)<|zo J (eo (r:=bI) (i:=((i:Int)+(i1:Int))) (foff:=0) bP J J bG J (.head _) (lU q_e5).2.2 (ht J))<|bp h fun e6 q_e6 h=>zo J (ck ed bP (.head _) (ht J) (ht J) q_e6)<|bp h fun st q_st h=>nD bP J am J q_e6 (so q_st) (ht J) (ht J)<|fj (iS (so q_st)) 0 J<|fj (iS (so q_st)) 45 J<|al<|an<|aB J<|zo J (fF (ht J) hI)<|ba J<|aL<|aj<|ak ?_;refine an<|aB J<|zo J (sj (GB hx1 (Ih hv.2)) (ht J) hI)<|ba J<|aL ?_;exact aT (aI (ih1 (i1+1) st (IntKind.i64.wrap (k+(1:Int))) ⟨GA hx1,h⟩) (bh J))
     ·refine bi<|aj<|ak<|an<|aB rfl<|zo rfl (sj (GB hx1 (Ih hv.2)) (ht rfl) hI)<|ba rfl<|aL ?_;exact aT (aI (ih1 (i1+1) s1 k ⟨GA hx1,h⟩) (bh J))
   ·refine bi<|aj<|ak<|an<|aB rfl<|zo rfl (iq (bW hx hN) rfl)<|ba rfl<|aL ?_;exact aT (aI (ih (i+1) ⟨bV hx,h⟩) (bh J))

theorem Cd(e:cK){R:(List Int)}(h:vy e=some R):d4 aJ 181 [tD bY e] false bI 3 R:=by
 refine d4.of Tryz.func181 J J J fun w0 S0=>ap<|zo J (ff J)<|bA false bI 3<|zo J (aD mZ)<|al<|ae<|ap<|zo J (bn jg J J)<|bp h fun r q_r h=>zo J (ax MD (DI _ q_r) ⟨(ht J),aP⟩)<|zo J (pt J)<|al<|bX h J (fun h=>?_) (fun h=>?_)
 ·refine ap<|bA false bI 3<|zo J (aD mZ)<|al<|ai<|aa ?_;cases so h;exact d7 J J
 ·refine cF<|ap<|bA false bI 3<|zo J (aD mZ)<|al<|ae<|ap<|zo J (bS m3 j9 J J)<|zo J (bn wD J J)<|zo J (eH t7 J)<|zo J (br hI)<|al<|au<|aU (k:=10) J fun hN=>bo<|fA<|mC ?_;refine aI (gb (Z:=fun ls i out l c=>(e.Nodes.drop i=ls)∧nl ls out=some R) (Of:=fun _ i out l c=>[dJ bI 3 l c out]) (Gf:=fun _ i out l c=>[(3,mp l c out),(10,bK (bD) e.Nodes),(11,fC e.Nodes),(12,bu (i:Int))]) (fun i out l c h=>?_) (fun e1 tl ih i out l c h=>?_) e.Nodes 0 nL none 0 ⟨J,h⟩) (bh J)
  ·obtain⟨hx,h⟩:=h
   refine aw<|ap<|zo J (dC J J)<|al<|ae<|bm (ht J) (cx hx)<|be ?_;refine af (af (aE ?_));refine ak<|ap<|aB rfl<|bp h fun u7 q_srt h=>?_;refine HI (n:=out.length) (ys:=u7) Bb ?_ Qx ?_ ?_ ?_ ?_ ?_
   ·rfl
   ·exact q_srt
   ·exact(ht J)
   ·rfl
   ·rfl
   intro hl
   refine ky hl 3 J<|ky hl 25 J<|al<|ap<|aB J<|bp h fun r1 q_r1 h=>uY [dJ bI 3 l c u7] _ J Qw (Nc l c _ q_r1) ⟨(ht J),aP⟩ J fun i1=>?_;refine(show RG _ _ _ _ [dJ bI 3 (i1.h 0).1 (i1.h 0).2 r1] ((28,mp (i1.h 0).1 (i1.h 0).2 r1)::_)from ?_);refine ba J<|al<|ai ?_;cases so h;exact d7 J J
  ·obtain⟨hx,h⟩:=h
   refine aw<|ap<|zo J (dC J J)<|al<|ae<|bl (ht J) (cw hx)<|cF<|ae<|au<|ap<|zo J (gw t7 mE J J J (ci hx))<|zo J (bn mE J J)<|aV (r:=bD) (x:=HY) mE (fun _=>ra _) J fun b=>av mE J am J (ht J) (ht J)<|aS 5 J<|al<|ap<|zo J (bS lr fc J J) ?_;refine zo J (bn bP J J)<|zo J (io J)<|al<|bX h J (fun h=>?_) (fun h=>?_)
   ·refine an<|aB J<|zo J (bS tA kP J J)<|zo J (bn bP J J)<|zo J (aR (r:=bI) (ys:=[e1.Col]) (xs:=[.tmp 21]) ed bP J J J J J ⟨(ht J),aP⟩)<|bp h fun out1 q_out1 h=>cg bP J J J J ed J J (ht J) (ht J) q_out1 fun l2 c2=>ba J<|aL<|aj<|ak<|an<|zo rfl (iq (bW hx hN) rfl)<|aB rfl<|aL ?_;exact aT (aI (ih (i+1) out1 l2 c2 ⟨bV hx,h⟩) (bh J))
   ·refine bi<|aj<|ak<|an<|zo rfl (iq (bW hx hN) rfl)<|aB rfl<|aL ?_;exact aT (aI (ih (i+1) out l c ⟨bV hx,h⟩) (bh J))
theorem AR(s:(List Int)){R:(List Int)}(h:cR s=some R):d4 aJ 73 [iA s] false bI 3 R:=by
 refine d4.of Tryz.func73 J J J fun w0 S0=>ap<|bA false bI 3<|zo J (aD mZ)<|al<|ae<|ap<|aB J<|oz ed (ht J) J fun isnil hisnil=>al<|kE (ht J) (fun hc=>?_) (fun hc=>?_)
 ·have hx:=hisnil hc
  have h:some nL=some R:=by simpa [cR,k5,hx] using h
  refine ap<|bA false bI 3<|zo J (aD mZ)<|al<|ai<|aa ?_;cases so h;exact d7 J J
 ·refine cF<|ap<|fJ (r:=bI) (ys:=nL) (xs:=[]) ed bP J J J J J trivial J fun l c=>aB J<|bp h fun x q_x h=>cg bP J J J J ed J J (ht J) (ht J) q_x fun l1 c1=>ba J<|al<|ai ?_;cases so h;exact d7 J J
theorem GT(s:(List Int)){R:(List Int)}(h:cR s=some R):aN aJ 73 [iA s] (iA R):=(AR _ h).spec

theorem Nf{l:Option Nat}{c:Nat}{xs s:List Int}{lo:Int}{R:List Int}(hs:dx xs lo (xs.length:Int)=some s)(h:cR s=some R):cy aJ 73 [tV (kd 1 l c lo.toNat s.length)] [dJ bI 3 l c xs] (fun i:OI=>mp (i.h 0).1 (i.h 0).2 R) (fun i=>[dJ bI 3 (i.h 0).1 (i.h 0).2 R,dJ bI 3 l c xs]):=by
 refine cy.of Tryz.func73 J J J fun w0 S0=>ap<|zo J (aD mZ)<|al<|ae<|ap<|aB J<|zQ (r:=bI) ed (.head _) hs (ht J) J fun isnil hisnil=>al<|kE (ht J) (fun hc=>?_) (fun hc=>?_)
 ·have hx:=hisnil hc
  have h:some nL=some R:=by simpa [cR,k5,hx] using h
  refine ap<|bA false bI 3<|zo J (aD mZ)<|al<|ai<|aa ?_;cases so h;exact jl J (oi none 0) J J (fun _ _ h=>h)
 ·refine cF<|ap<|fJ (r:=bI) (ys:=nL) (xs:=[]) ed bP J J J J J trivial J fun l1 c1=>aB J<|bp h fun x q_x h=>yw bP J J J J ed J J (ht J) (.tail _ (.head _)) hs (ht J) q_x fun l2 c2=>ba J<|al<|ai ?_;cases so h;exact jl J (oi l2 c2) J J (fun _ _ h=>h)

theorem Mf(b:Nat)(l:Option Nat)(c:Nat)(stack:(List Int))(k:Int){R:(List Int)×(List Int)}(h:qP stack k=some R):cy aJ 366 [bu k,tV (aO b 0)] [bx rV 39 b (aQ l c stack.length),dJ bI 3 l c stack] (fun i:OI=>iA R.1) (fun i=>[bx rV 39 b (aQ (i.h 0).1 (i.h 0).2 R.2.length),dJ bI 3 (i.h 0).1 (i.h 0).2 R.2]):=by
 refine cy.of Tryz.func366 J J J fun w0 S0=>ap<|zo J (aD (show aH _ _ _ rd from gr))<|al<|ap<|zo J (eN c0 (.head _) (ht J))<|zo J (eN c0 (.head _) (ht J))<|zo J (fO ed (.tail _ (.head _)) (ht J))<|aB J<|zo J (eZ (ht J) (ht J))<|bp h fun y q_y h=>zo J (jN ed bP J (.tail _ (.head _)) (ht J) (ht J) q_y)<|je (.tail _ (.head _)) q_y fun hv=>bz<|bp h fun r q_r h=>uY [dJ bI 3 l c stack] _ J Ho (Nf q_y q_r) ⟨(ht J),aP⟩ J fun i=>?_;refine(show RG _ _ _ _ [dJ bI 3 (i.h 0).1 (i.h 0).2 r,dJ bI 3 l c stack,bx rV 39 b (aQ l c stack.length)] _ from ?_);refine ba J<|al<|ap<|zo J (eN c0 (.tail _ (.tail _ (.head _))) (ht J))<|zo J (eN c0 (.tail _ (.tail _ (.head _))) (ht J))<|zo J (fO ed (.tail _ (.head _)) (ht J))<|aB J<|zo J (eZ (ht J) (ht J))<|bp h fun y1 q_y1 h=>zo J (hJ ed bP J (.tail _ (.head _)) (ht J) (ht J) q_y1)<|bz<|qI q_y1<|eO<|av c0 J am J (ht J) (GJ (ht J))<|al<|ap<|aB J<|ba J<|al ?_;refine ai<|aK<|fQ<|ce 3 J<|ce 11 J<|ce 4 J<|ce 18 J<|fR 3 J<|aY<|bt<|bt ?_;cases so h;exact jl J (oi l c) J J (fun _ _ h=>h)

theorem IE(e:cK)(do1:(cu→(List Int)→Option (Int×Int))){R:Int×Int}(h:sY e do1=some R):aN aJ 345 [tD bY e,(cB aJ HX HW (fun(x:cu×(List Int))=>do1 x.1 x.2))] (tT [bu R.1,bu R.2]):=by
 refine aN.of Tryz.func345 J J J fun w0 S0=>ap<|zo J (ff J)<|zo J (bO)<|zo J (bO)<|al<|CC<|ap<|bA false bI 3<|aV (x:=aQ none 0 0) c0 (fun _=>xO) J fun b=>al<|ap<|zo J (bO)<|al<|ap<|zo J (BX (cts:=[tV (aO b 0)]) (caps:=[.tmp 6]) ⟨(ht J),aP⟩)<|ba J ?_;refine al<|ap<|zo J (bO)<|al<|ae<|CD<|ak<|ae<|ap<|zo rfl (bS m3 j9 rfl rfl)<|zo rfl (bn wD rfl rfl)<|zo rfl (eH t7 rfl)<|zo rfl (br hI)<|al ?_;refine zY (Z:=fun bad stack l c=>mb bad stack=some R) (Of:=fun bad stack l c=>[bx rV 39 b (aQ l c stack.length),dJ bI 3 l c stack]) (Gf:=fun bad stack l c=>[(6,tV (aO b 0)),(7,bu 0),(9,bu bad)]) (fun bad stack l c h=>?_) (fun K=>?_)
 ·skip
  refine ak<|ae<|ap<|aB rfl<|zo rfl (pt rfl)<|al<|bX h rfl (fun h=>?_) (fun h=>?_)
  ·refine ap<|aB J<|aB J<|ba J<|ba J<|al<|ai ?_;refine aa (sG ?_);refine aY<|aY ?_;cases so h;exact ca J J J
  ·refine cF<|ap<|zo J (eN c0 (.head _) (ht J))<|bp h fun e1 q_e1 h=>zo J (ck ed bP (.tail _ (.head _)) (ht J) hI q_e1)<|zo J (eo (r:=bI) (i:=(0:Int)) (foff:=0) bP J J bG J (.tail _ (.head _)) q_e1 (ht J))<|ba J<|zo J (bO)<|al<|ai<|sG<|aY<|aY ?_;cases so h;exact ca J J J
 ·skip
  refine aU (k:=16) J fun hN=>bo ?_;refine aI (oG (Z:=fun ls i bad1 stack1 l1 c1=>(e.Nodes.drop i=ls)∧ma do1 ls bad1 stack1=some R) (Of:=fun _ i bad1 stack1 l1 c1=>[bx rV 39 b (aQ l1 c1 stack1.length),dJ bI 3 l1 c1 stack1]) (Gf:=fun _ i bad1 stack1 l1 c1=>[(1,(cB aJ HX HW (fun(x:cu×(List Int))=>do1 x.1 x.2))),(6,tV (aO b 0)),(7,bu 0),(8,tC 366 [tV (aO b 0)]),(9,bu bad1),(16,bK (bD) e.Nodes),(17,fC e.Nodes),(18,bu (i:Int))]) (fun i bad1 stack1 l1 c1 h=>?_) (fun e2 tl ih i bad1 stack1 l1 c1 h=>?_) e.Nodes 0 (0:Int) nL none 0 ⟨J,h⟩) (bh J)
  ·obtain⟨hx,h⟩:=h
   refine aw<|ap<|zo J (dC J J)<|al<|ae<|bm (ht J) (cx hx)<|be ?_;refine af (af (aE ?_));exact cn (K bad1 stack1 l1 c1 h) (bh J)
  ·obtain⟨hx,h⟩:=h
   refine aw<|ap<|zo J (dC J J)<|al<|ae<|bl (ht J) (cw hx)<|cF<|ae<|au<|ap<|zo J (gw t7 mE J J J (ci hx))<|zo J (bn mE J J)<|aV (r:=bD) (x:=HY) mE (fun _=>ra _) J fun b1=>av mE J am J (ht J) (ht J)<|aS 11 J<|al<|ae<|bp h fun r q_r h=>bp h fun r1 q_r1 h=>?_
   obtain⟨r2,q_r2,h⟩:=bs h
   refine kA 12 [tc ((cB aJ HX HW (fun(x:cu×(List Int))=>do1 x.1 x.2))),tc (tD bD e2),tc (tC 366 [tV (aO b 0)]),tc (bv bI e2.Tag),tc (bu e2.Tag),tc (bu r),tc (iA r1.1),tc (tT [bu r2.1,bu r2.2]),tc (tT [bu r2.1,bu r2.2]),tc (bu r2.1),tc (bu r2.2),tc (bu r2.1)] [false,false,false,false,false,false,true,false,false,false,false,false] [fun _=>[bx rV 39 b (aQ l1 c1 stack1.length),dJ bI 3 l1 c1 stack1],fun sg=>[bx rV 39 b (aQ ((sg 6).h 0).1 ((sg 6).h 0).2 r1.2.length),dJ bI 3 ((sg 6).h 0).1 ((sg 6).h 0).2 r1.2]] J mixed J J J J J
    ⟨⟨[⟨1,fun _=>(cB aJ Lk Li (fun(x:cu×(List Int))=>do1 x.1 x.2)),none⟩],_,0,1,J,⟨(fun _=>J),aP⟩,J,J,J,J,J,fun _ sg _ _=>aA J (cr J)⟩,
    ⟨⟨[⟨11,fun _=>bv bD e2,none⟩],_,0,1,J,⟨(fun _=>J),aP⟩,J,J,J,J,J,fun _ sg _ _=>aA J (bn mE J J)⟩,
    ⟨⟨[⟨8,fun _=>tC 366 [tV (aO b 0)],none⟩],_,0,0,J,⟨(fun _=>J),aP⟩,J,J,J,J,J,fun _ sg _ _=>aA J (cr J)⟩,
    ⟨⟨[⟨11,fun _=>bv bD e2,none⟩],_,0,0,J,⟨(fun _=>J),aP⟩,J,J,J,J,J,fun _ sg _ _=>aA J (bS lr fc J J)⟩,
    ⟨⟨[⟨26,fun _=>bv bI e2.Tag,some 3⟩],_,0,0,J,⟨(fun _=>J),aP⟩,J,J,J,J,J,fun _ sg _ _=>aA J (bn bP J J)⟩,
    ⟨⟨[⟨27,fun _=>tD bI e2.Tag,some 4⟩],_,0,0,J,⟨(fun _=>J),aP⟩,J,J,J,J,J,fun _ sg _ _=>aA J (ax ET (wX _ q_r) ⟨(ht J),aP⟩)⟩,
    ⟨⟨[⟨25,fun _=>tC 366 [tV (aO b 0)],some 2⟩,⟨28,fun _=>tD bI r,some 5⟩],_,J,⟨(fun _=>J),(fun _=>J),aP⟩,J,J,J,fun sg=>dA J (EffOK.fr1 (EffOK.fr1 (vA (xs:=[.tmp 28]) (ts:=[tD bI r]) (cts:=[tV (aO b 0)]) [bx rV 39 b (aQ l1 c1 stack1.length),dJ bI 3 l1 c1 stack1] _ J NB (Mf b l1 c1 _ _ q_r1) (ht J) ⟨(ht J),aP⟩ (fun _=>J))))⟩,
    ⟨⟨[⟨23,fun _=>(cB aJ Lk Li (fun(x:cu×(List Int))=>do1 x.1 x.2)),some 0⟩,⟨24,fun _=>tD bD e2,some 1⟩,⟨29,fun _=>tD rb r1.1,some 6⟩],_,1,1,J,⟨(fun _=>J),(fun _=>J),(fun _=>J),aP⟩,J,J,J,J,J,fun _ sg _ _=>aA J (dz (args:=Lk) (res:=Li) (f:=(fun(x:cu×(List Int))=>do1 x.1 x.2)) (x:=((e2,r1.1):cu×(List Int))) (ht J) q_r2 ⟨(ht J),(ht J),aP⟩)⟩,
    ⟨⟨[⟨30,fun _=>tT [tD bI r2.1,tD bI r2.2],some 7⟩],_,1,1,J,⟨(fun _=>J),aP⟩,J,J,J,J,J,fun _ sg _ _=>aA J (cr J)⟩,
    ⟨⟨[⟨22,fun _=>tT [tD bI r2.1,tD bI r2.2],some 8⟩],_,1,1,J,⟨(fun _=>J),aP⟩,J,J,J,J,J,fun _ sg _ _=>aA J (eT J J)⟩,
    ⟨⟨[⟨22,fun _=>tT [tD bI r2.1,tD bI r2.2],some 8⟩],_,1,1,J,⟨(fun _=>J),aP⟩,J,J,J,J,J,fun _ sg _ _=>aA J (eT J J)⟩,
    ⟨⟨[⟨31,fun _=>tD bI r2.1,some 9⟩],_,1,1,J,⟨(fun _=>J),aP⟩,J,J,J,J,J,fun _ sg _ _=>aA J (pe J)⟩,
    aP⟩⟩⟩⟩⟩⟩⟩⟩⟩⟩⟩⟩ (fun sg=>?_)
   refine(show RG _ _ _ _ [bx rV 39 b (aQ ((sg 6).h 0).1 ((sg 6).h 0).2 r1.2.length),dJ bI 3 ((sg 6).h 0).1 ((sg 6).h 0).2 r1.2] _ from ?_);refine ba J<|al<|ae<|ap<|aB J<|zo J (pt J)<|al<|bX h J (fun h=>?_) (fun h=>?_)
   ·refine ap<|aB J<|ba J<|al<|be ?_;refine af (bN J (af (af (aE ?_))));exact cn (K r2.2 r1.2 ((sg 6).h 0).1 ((sg 6).h 0).2 h) (bh J)
   ·refine cF<|an<|zo J (eN c0 (.head _) (ht J))<|aB J<|zo J (aR (r:=bI) (ys:=[r2.1]) (xs:=[.tmp 37]) ed bP J J J J J ⟨(ht J),aP⟩)<|bz<|bp h fun l2 q_l2 h=>cg bP J J J J ed J J (ht J) (ht J) q_l2 fun l3 c2=>bz<|av c0 J am J (ht J) (GJ (ht J))<|aL<|aj<|ak<|an<|zo rfl (iq (bW hx hN) rfl)<|aB rfl<|aL ?_;exact aT (aI (ih (i+1) bad1 l2 l3 c2 ⟨bV hx,h⟩) (bh J))

theorem J9(tag:Int){R:Bool}(h:qQ tag=some R):aN aJ 123 [bu tag] (er R):=by
 refine aN.of Tryz.func123 J J J fun w0 S0=>ap<|zo J (ef)<|al<|ap<|aB J<|zo J (io J)<|aB J<|dv J J (fun hg=>cr J)<|dv J J (fun hg=>dU (bk J hg) hI)<|dv J J (fun hg=>br (bk J hg))<|ga J J J J (fun hg=>cr J)<|ga J J J J (fun hg=>gH (bk J hg) hI)<|dv J J (fun hg=>kL (bk J hg) (fun hb=>(bk J (q5 hg hb))))<|zo J (qY J J)<|ba J<|al<|ai ?_;cases so h;exact ay J J

theorem ID(kinds:(List Int))(n:cu)(l:(List Int)){R:Int×Int}(h:rQ kinds n l=some R):aN aJ 346 [tD bD n,iA l,bv jG kinds] (tT [bu R.1,bu R.2]):=by
 refine aN.of Tryz.func346 J J J fun w0 S0=>ap<|zo J (ff J)<|zo J (bO)<|zo J (bO)<|al<|ap<|zo J (bO)<|al<|ae<|ap<|aB J<|zo J (eH ed J)<|zo J (br hI)<|al<|au<|aU (k:=12) J fun hN=>bo ?_;refine aI (jk (Z:=fun ls i own=>(l.drop i=ls)∧jU kinds n ls own=some R) (Of:=fun _ i own=>[]) (Gf:=fun _ i own=>[(2,bv jG kinds),(3,bv bD n),(7,bu own),(12,iA l),(13,fC l),(14,bu (i:Int))]) (fun i own h=>?_) (fun e tl ih i own h=>?_) l 0 (0:Int) ⟨J,h⟩) (bh J)
 ·obtain⟨hx,h⟩:=h
  refine aw<|ap<|zo J (dC J J)<|al<|ae<|bm (ht J) (cx hx)<|be ?_;refine af (af (aE ?_));refine ak<|ap<|aB rfl<|ba rfl<|al<|ap<|zo rfl (bO)<|al<|ae<|au<|ap<|zo rfl (bS lr fc rfl rfl)<|zo rfl (bn bP rfl rfl)<|zo rfl (io rfl)<|ba rfl<|al<|bX h rfl (fun h=>?_) (fun h=>?_)
  ·refine ap<|zo J (bS yg n9 J J)<|zo J (bS em bU J J)<|zo J (bn bP J J)<|ba J<|zo J (bO)<|al<|ai ?_;refine aq (aa ?_);cases so h;exact ca J J J
  ·refine ap<|zo J (bS lr fc J J)<|zo J (bn bP J J)<|zo J (io J)<|ba J<|al<|bX h J (fun h=>?_) (fun h=>?_)
   ·refine ap<|zo J (bn c0 J J)<|zo J (bS tA kP J J)<|zo J (bn bP J J)<|bp h fun e1 q_e1 h=>zo J (gw ed bP J J J q_e1)<|zo J (bn bP J J)<|ba J<|zo J (bO)<|al<|ai ?_;refine aq (aa ?_);cases so h;exact ca J J J
   ·refine ap<|zo J (bS lr fc J J)<|zo J (bn bP J J)<|bp h fun r q_r h=>zo J (ax PJ (J9 _ q_r) ⟨(ht J),aP⟩)<|ba J<|al<|bX h J (fun h=>?_) (fun h=>?_)
    ·refine an<|zo J (bO)<|zo J (bO)<|aL<|aj<|ak<|ae<|ap<|aB rfl<|zo rfl (io rfl)<|aB rfl<|dv rfl rfl (fun hg=>cr J)<|dv J J (fun hg=>dc (bk J hg) hI)<|dv J J (fun hg=>br (bk J hg))<|ga J J J J (fun hg=>cr J)<|ga J J J J (fun hg=>cr J)<|ga J J J J (fun hg=>dc (bk J hg) (bk J hg))<|dv J J (fun hg=>kL (bk J hg) (fun hb=>(bk J (q5 hg hb))))<|zo J (qY J J)<|al<|bX h J (fun h=>?_) (fun h=>?_)
     ·refine ap<|zo J (bO)<|zo J (bO)<|al<|ai<|aa ?_;cases so h;exact ca J J J
     ·refine cF<|ap<|aB J<|ba J<|zo J (bO)<|al<|ai ?_;cases so h;exact ca J J J
    ·refine ap<|zo J (bS lr fc J J)<|zo J (bn bP J J)<|zo J (io J)<|aB J<|dv J J (fun hg=>bS lr fc J J)<|dv J J (fun hg=>bj bP J J (bk J hg))<|dv J J (fun hg=>cA (bk J hg) hI)<|zo J (qY J J)<|aB J<|dv J J (fun hg=>bS lr fc J J)<|dv J J (fun hg=>bj bP J J (bk J hg))<|dv J J (fun hg=>cA (bk J hg) hI)<|zo J (qY J J)<|ba J<|al<|bX h J (fun h=>?_) (fun h=>?_)
     ·refine an<|zo J (bO)<|aL<|aj<|ak<|ae<|ap<|aB rfl<|zo rfl (io rfl)<|aB rfl<|dv rfl rfl (fun hg=>cr J)<|dv J J (fun hg=>dc (bk J hg) hI)<|dv J J (fun hg=>br (bk J hg))<|ga J J J J (fun hg=>cr J)<|ga J J J J (fun hg=>cr J)<|ga J J J J (fun hg=>dc (bk J hg) (bk J hg))<|dv J J (fun hg=>kL (bk J hg) (fun hb=>(bk J (q5 hg hb))))<|zo J (qY J J)<|al<|bX h J (fun h=>?_) (fun h=>?_)
      ·refine ap<|zo J (bO)<|zo J (bO)<|al<|ai<|aa ?_;cases so h;exact ca J J J
      ·refine cF<|ap<|aB J<|ba J<|zo J (bO)<|al<|ai ?_;cases so h;exact ca J J J
     ·refine bi<|aj<|ak<|ae<|ap<|aB rfl<|zo rfl (io rfl)<|aB rfl<|dv rfl rfl (fun hg=>cr J)<|dv J J (fun hg=>dc (bk J hg) hI)<|dv J J (fun hg=>br (bk J hg))<|ga J J J J (fun hg=>cr J)<|ga J J J J (fun hg=>cr J)<|ga J J J J (fun hg=>dc (bk J hg) (bk J hg))<|dv J J (fun hg=>kL (bk J hg) (fun hb=>(bk J (q5 hg hb))))<|zo J (qY J J)<|al<|bX h J (fun h=>?_) (fun h=>?_)
      ·refine ap<|zo J (bO)<|zo J (bO)<|al<|ai<|aa ?_;cases so h;exact ca J J J
      ·refine cF<|ap<|aB J<|ba J<|zo J (bO)<|al<|ai ?_;cases so h;exact ca J J J
 ·obtain⟨hx,h⟩:=h
  refine aw<|ap<|zo J (dC J J)<|al<|ae<|bl (ht J) (cw hx)<|cF<|ae<|au<|ap<|zo J (gw ed bP J J J (ci hx))<|zo J (bn bP J J)<|ba J<|al<|au<|ap<|aB J<|zo J (io J) ?_;refine aB J<|dv J J (fun hg=>cr J)<|dv J J (fun hg=>cr J)<|dv J J (fun hg=>cA (bk J hg) (bk J hg))<|zo J (qY J J)<|ba J<|al<|bX h J (fun h=>?_) (fun h=>?_)
  ·refine bi<|aj<|aj<|ak<|an<|zo rfl (iq (bW hx hN) rfl)<|aB rfl<|aL ?_;exact aT (aI (ih (i+1) own ⟨bV hx,h⟩) (bh J))
  ·refine ap<|aB J<|zo J (io J)<|ba J<|al<|bX h J (fun h=>?_) (fun h=>?_)
   ·refine an<|aB J<|ba J<|aL<|aj<|aj<|ak<|an<|zo rfl (iq (bW hx hN) rfl)<|aB rfl<|aL ?_;exact aT (aI (ih (i+1) e ⟨bV hx,h⟩) (bh J))
   ·refine an<|zo J (bO)<|aL<|aj<|aj<|ak<|an<|zo rfl (iq (bW hx hN) rfl)<|aB rfl<|aL ?_;exact aT (aI (ih (i+1) pX ⟨bV hx,h⟩) (bh J))

theorem AV(e:cK)(kinds:(List Int)){R:Int×Int}(h:sv e kinds=some R):aN aJ 285 [tD bY e,iA kinds] (tT [bu R.1,bu R.2]):=by
 refine aN.of Tryz.func285 J J J fun w0 S0=>ap<|zo J (ff J)<|zo J (ff J)<|zo J (bO)<|zo J (bO)<|al<|ae<|ap<|zo J (bn jg J J)<|bp h fun r q_r h=>zo J (ax MD (DI _ q_r) ⟨(ht J),aP⟩)<|ba J<|al<|ap<|aB J<|zo J (pt J)<|al ?_;refine bX h J (fun h=>?_) (fun h=>?_)
 ·refine ap<|aB J<|zo J (bO)<|ba J<|al<|ai<|aa ?_;cases so h;exact ca J J J
 ·refine cF<|ae<|ap<|zo J (bn c0 J J)<|zo J (eH ed J)<|zo J (br hI)<|al<|au<|aU (k:=16) J fun hN=>bo ?_;refine aI (cN (Z:=fun ls i=>(kinds.drop i=ls)∧qu e kinds ls=some R) (Of:=fun _ i=>[]) (Gf:=fun _ i=>[(2,bv bY e),(3,bv jG kinds),(16,iA kinds),(17,fC kinds),(18,bu (i:Int))]) (fun i h=>?_) (fun e1 tl ih i h=>?_) kinds 0 ⟨J,h⟩) (bh J)
  ·obtain⟨hx,h⟩:=h
   refine aw<|ap<|zo J (dC J J)<|al<|ae<|bm (ht J) (cx hx)<|be ?_;refine af (af (aE ?_));refine ak<|ae<|ap<|zo rfl (bn jg rfl rfl)<|bp h fun r1 q_r1 h=>fe KY (Cd _ q_r1) ⟨(ht J),aP⟩ J fun l c=>zo J (fO ed (.head _) (ht J))<|zo J (br hI)<|al<|au<|kc (.head _) fun hN1=>bo ?_;refine aI (cN (Z:=fun ls1 i1=>(r1.drop i1=ls1)∧qt e kinds ls1=some R) (Of:=fun _ i1=>[dJ bI 3 l c r1]) (Gf:=fun _ i1=>[(2,bv bY e),(3,bv jG kinds),(30,mp l c r1),(31,fC r1),(32,bu (i1:Int))]) (fun i1 h=>?_) (fun e2 tl1 ih1 i1 h=>?_) r1 0 ⟨J,h⟩) (bh J)
   ·obtain⟨hx1,h⟩:=h
    refine aw<|ap<|zo J (dC J J)<|al<|ae<|bm (ht J) (cx hx1)<|be ?_;refine af (af (aE ?_));refine ak<|ap<|zo rfl (bn jg rfl rfl)<|zo rfl ((show bB _ _ _ _ ((cB aJ HX HW (fun(x:cu×(List Int))=>(rQ kinds) x.1 x.2)))from eB (cts:=[bv jG kinds]) (caps:=[.tmp 3]) NJ ⟨(ht J),aP⟩ (fun x y h=>ID _ _ _ h)))<|bp h fun r2 q_r2 h=>zo J (ax NK (IE _ _ q_r2) ⟨(ht J),(ht J),aP⟩)<|zo J (eT J J)<|zo J (eT J J)<|ba J<|ba J<|al<|ai<|aY ?_;cases so h;exact ca J J J
   ·obtain⟨hx1,h⟩:=h
    refine aw<|ap<|zo J (dC J J)<|al<|ae<|bl (ht J) (cw hx1)<|cF<|ae<|au<|ap<|zo J (ck ed bP (.head _) (ht J) (ht J) (ci hx1))<|zo J (eo (r:=bI) (i:=(i1:Int)) (foff:=0) bP J J bG J (.head _) (ci hx1) (ht J))<|ba J<|al<|ap<|aB J<|zo J (bn c0 J J)<|zo J (eH ed J) ?_;refine zo J (dU (ht J) (ht J))<|al<|bX h J (fun h=>?_) (fun h=>?_)
    ·refine ap<|zo J (bO)<|zo J (bO)<|al<|ai ?_;refine aq (aa (aa (aq (aa ?_))));refine aY ?_;cases so h;exact ca J J J
    ·refine bi<|aj<|ak<|an<|zo rfl (iq (bW hx1 hN1) rfl)<|aB rfl<|aL ?_;exact aT (aI (ih1 (i1+1) ⟨bV hx1,h⟩) (bh J))
  ·obtain⟨hx,h⟩:=h
   refine aw<|ap<|zo J (dC J J)<|al<|ae<|bl (ht J) (cw hx)<|cF<|ae<|au<|ap<|zo J (gw ed bP J J J (ci hx))<|zo J (bn bP J J)<|ba J<|al<|ap<|aB J<|zo J (dO (ht J) hI)<|aB J ?_;refine dv J J (fun hg=>cr J)<|dv J J (fun hg=>eb (bk J hg) hI)<|zo J (qY J J)<|al<|bX h J (fun h=>?_) (fun h=>?_)
   ·refine ap<|zo J (bO)<|zo J (bO)<|al<|ai ?_;refine aq (aa (aa (aq (aa ?_))));cases so h;exact ca J J J
   ·refine bi<|aj<|ak<|an<|zo rfl (iq (bW hx hN) rfl)<|aB rfl<|aL ?_;exact aT (aI (ih (i+1) ⟨bV hx,h⟩) (bh J))

end Go.Proofs.YtfhhakidodmdfaaGreatDoor

