import Derived.Test.YtadeokalnbmppaaGreatDoorReT
import Derived.Test.YtadeokalnbmppaaGreatDoorReP0
set_option linter.all false
namespace Go.Proofs.YtadeokalnbmppaaGreatDoor
open Go IntKind Tryz EffOK
set_option maxRecDepth 100000
def GD e{R}(h:sv e=some R):cN aL 144 [tD cg e] (bX R):=by
 refine dL func144 J<|aV<|cR J<|cM<|bA<|bc<|cx jM J<|eG h ZD (RQ _) (cA J) fun r h=>aQ J<|dq J J<|dq J J<|fX J<|aU J<|aB J<|M (gz (Y J)) ?_;refine cD h J (fun h=>?_) (fun h=>?_)
 ·exact aV<|jK<|ai<|so h▸aD J J
 ·exact kp<|aV<|jK<|so h▸aD J J
def abC(l:Option Nat)(c:Nat) s{R}(h:mV s=some R):dj aL 191 [s5 l c s] [fa bY 3 l c s] (fun i:OI=>s5 (i.h 0).1 (i.h 0).2 R) (fun i=>[fa bY 3 (i.h 0).1 (i.h 0).2 R]):=by
 refine dj.of func191 J J J fun w0 S0=>aV<|cr false bY 3<|M (bL xq)<|bA<|bc<|aQ J<|M (iF dI (.tail _ (.head _)) (Y J))<|M (gA (Y J) hI)<|cD h J (fun h=>?_) (fun h=>?_)
 ·exact aB J<|bz J<|ai<|aJ<|so h▸fm J (oi l c) J J (fun _ _ h=>h)
 ·refine kp<|bc<|cM<|bA<|am<|oB (.tail _ (.head _)) fun hN=>bE<|r0 ?_;refine aE (fj (h3:=fun ls i=>(s.drop i=ls)/\gN s ls i=some R) (Of:=fun _ i=>[fa bY 3 l c s]) (Gf:=fun _ i=>[(0,s5 l c s),(3,bX (i:Int))]) (fun i h=>?_) (fun e tl ih i h=>?_) (s.drop (1)) 1 ⟨J,h⟩) (aX J)
  ·obtain⟨I,h⟩:=h;exact lI<|bc<|aQ J<|aQ J<|M (iF dI (.head _) (Y J))<|GO J<|bA<|wU (Y J) (Zx I)<|iN<|aN<|aN<|dY<|ax<|aB J<|bz J<|so h▸fm J (oi l c) J J (fun _ _ h=>h)
  ·obtain⟨I,h⟩:=h;refine lI<|bc<|aQ J<|aQ J<|M (iF dI (.head _) (Y J))<|GO J<|bA<|wT (Y J) (Wh I)<|kp<|aw<|am<|aw<|cy h fun e1 s_ h=>?_;refine eE (ts:=[_,_,_,_,_,_,_,_,_,_]) mixed J J
    ⟨fg J J,
    ⟨fg J J,
    ⟨eQ 16 0 17 1 J J J (c9 dI bN (.head _) (Y J) (Y J) (dE I)),
    ⟨dy 18 2 J J (il (r:=bY) (i:=(i:Int)) (J_:=0) bN J J bC J (.head _) (dE I) (Y J)),
    ⟨fg J J,
    ⟨fg J J,
    ⟨dy 21 5 J J (ij (Y J) hI),
    ⟨eQ 20 4 22 6 J J J (c9 dI bN (.head _) (Y J) (Y J) s_),
    ⟨dy 23 7 J J (il (r:=bY) (i:=(i64.wrap ((i:Int)-1))) (J_:=0) bN J J bC J (.head _) s_ (Y J)),
    ⟨eQ 19 3 24 8 J J J (fc (Y J) (Y J)),
    aW⟩⟩⟩⟩⟩⟩⟩⟩⟩⟩ ?_
   refine ax<|oS h J (fun h=>?_) (fun h=>?_)
   ·refine aB J<|aQ J<|cy h fun y q_y h=>M (qN dI bN J (.head _) (Y J) (Y J) q_y)<|rh (.head _) q_y fun hv=>aU J<|bc<|cM<|bA<|am<|bE ?_;refine aE (Sj (h3:=fun k1 i1 s1 k=>(y.length-i1=k1)/\fG i y k1 i1 s1 k=some R) (Of:=fun _ i1 s1 k=>[fa bY 3 l c s1]) (Gf:=fun _ i1 s1 k=>[(0,s5 l c s1),(3,bX k),(4,tV (o4 1 l c (i:Int).toNat y.length)),(5,bX (i1:Int))]) (fun i1 s1 k h=>?_) (fun k2 ih1 i1 s1 k h=>?_) (y.length-1) 1 s (i:Int) ⟨J,h⟩) (aX J)
    ·obtain⟨m_,h⟩:=h;refine lI<|bc<|aQ J<|aQ J<|M (Ro dI hv.1 (Y J))<|GO J<|bA<|wU (Y J) (aaJ m_)<|iN<|aN<|aN<|dY<|ax<|aB J<|aQ J<|cy h fun y1 q_y1 h=>M (qN dI bN J (.head _) (Y J) (Y J) q_y1)<|rh (.head _) q_y1 fun hv1=>cy h fun cl q_cl h=>?_;exact Ue bN J J dI (fun _=>J) J q_y1 (Y J) (so q_cl)<|ir (JT q_y1 (so q_cl)) 0 J<|ir (JT q_y1 (so q_cl)) 54 J<|bA<|aB J<|aQ J<|cy h fun y2 q_y2 h=>M (qO dI bN J (.head _) (Y J) (Y J) q_y2)<|H5 q_y2<|bz J<|dB<|ai<|dB<|so h▸fm J (oi l c) J J (fun _ _ h=>h)
    ·obtain⟨m_,h⟩:=h;refine lI<|bc<|aQ J<|aQ J<|M (Ro dI hv.1 (Y J))<|GO J<|bA<|wT (Y J) (aaI m_)<|kp<|aw<|am<|aw<|cy h fun e3 P_ h=>cy h fun e4 q_e4 h=>?_;refine eE (ts:=[_,_,_,_,_,_,_,_,_,_]) mixed J J
      ⟨fg J J,
      ⟨fg J J,
      ⟨eQ 35 0 36 1 J J J (xJ dI bN J (.head _) (El q_y) (Y J) (Y J) P_),
      ⟨dy 37 2 J J (il (r:=bY) (i:=((i:Int)+(i1:Int))) (J_:=0) bN J J bC J (.head _) (Be P_).2.2 (Y J)),
      ⟨fg J J,
      ⟨fg J J,
      ⟨dy 40 5 J J (ij (Y J) hI),
      ⟨eQ 39 4 41 6 J J J (xJ dI bN J (.head _) (El q_y) (Y J) (Y J) q_e4),
      ⟨dy 42 7 J J (il (r:=bY) (i:=((i:Int)+(i64.wrap ((i1:Int)-1)))) (J_:=0) bN J J bC J (.head _) (Be q_e4).2.2 (Y J)),
      ⟨eQ 38 3 43 8 J J J (jV (Y J) (Y J)),
      aW⟩⟩⟩⟩⟩⟩⟩⟩⟩⟩ ?_
     refine ax<|oS h J (fun h=>?_) (fun h=>?_)
     ·refine aB J<|aQ J<|aQ J<|aQ J<|cy h fun e5 q_e5 h=>M (xJ dI bN J (.head _) (El q_y) (Y J) (Y J) q_e5)<|M (il (r:=bY) (i:=((i:Int)+(i1:Int))) (J_:=0) bN J J bC J (.head _) (Be q_e5).2.2 (Y J))<|cy h fun e6 q_e6 h=>M (c9 dI bN (.head _) (Y J) (Y J) q_e6)<|cy h fun st R_ h=>pw bN J ae J q_e6 (so R_) (Y J) (Y J)<|ir (gS (so R_)) 0 J<|ir (gS (so R_)) 45 J<|bA<|au<|aQ J<|M (nT (Y J) hI)<|fX J<|bm<|bf<|ax ?_;refine au<|aQ J<|M (Bb (Vj m_ (acR hv.2)) (Y J) hI)<|fX J<|bm ?_;exact aT (aE (ih1 (i1+1) st (i64.wrap (k+1)) ⟨Vi m_,h⟩) (aX J))
     ·refine bl<|bf<|ax<|au<|aQ J<|M (Bb (Vj m_ (acR hv.2)) (Y J) hI)<|fX J<|bm ?_;exact aT (aE (ih1 (i1+1) s1 k ⟨Vi m_,h⟩) (aX J))
   ·refine bl<|aco I hN J ?_;exact aT (aE (ih (i+1) ⟨cV I,h⟩) (aX J))
def V2 e{R}(h:yp e=some R):mi aL 177 [tD cg e] false bY 3 R:=by
 refine mi.of func177 J J J fun w0 S0=>aV<|cR J<|cr false bY 3<|M (bL xq)<|bA<|bc<|cx jM J<|eG h R1 (GD _) (cA J) fun r h=>mn J<|cD h J (fun h=>?_) (fun h=>?_)
 ·exact aV<|cr false bY 3<|M (bL xq)<|bO<|ai<|so h▸lR J J
 ·refine kp<|aV<|cr false bY 3<|M (bL xq)<|bA<|bc<|bg gI dF pC J<|cm oD J<|M (bH hI)<|bA<|am<|aR (k:=10) J fun hN=>bE<|gE<|r0 ?_;refine aE (qb (h3:=fun ls i out l c=>(e.u'.drop i=ls)/\pU ls out=some R) (Of:=fun _ i out l c=>[fa bY 3 l c out]) (Gf:=fun _ i out l c=>[(3,s5 l c out),(10,fI (bJ) e.u'),(11,jg e.u'),(12,bX (i:Int))]) (fun i out l c h=>?_) (fun e1 tl ih i out l c h=>?_) e.u' 0 vH none 0 ⟨J,h⟩) (aX J)
  ·obtain⟨I,h⟩:=h;refine dH I J<|ax<|aB J<|cy h fun srt q_srt h=>?_;refine Wy (n:=out.length) (ys:=srt) IJ ?_ adG ?_ ?_ ?_ ?_ ?_
   ·rfl
   ·exact q_srt
   ·exact(Y J)
   ·rfl
   ·rfl
   intro hl;refine Oa hl 3 J<|Oa hl 25 J<|bA<|aB J<|cy h fun r1 Y_ h=>Og [fa bY 3 l c srt] _ J adF (abC l c _ Y_) ⟨(Y J),aW⟩ J fun i1=>?_;refine(show RG _ _ _ _ [_] ((28,s5 (i1.h 0).1 (i1.h 0).2 r1)::_)from ?_);exact bz J<|so h▸lR J J
  ·obtain⟨I,h⟩:=h;refine dG I J<|aw<|am<|aV<|dN oD hM J (dE I)<|aO hM tf J fun b=>bv hM ae J<|aH 5 J<|bA<|aV<|qx ow je J ?_;refine cx bN J<|cz J<|cD h J (fun h=>?_) (fun h=>?_)
   ·refine au<|aQ J<|bg rY mL bN J<|M (aI (r:=bY) (ys:=[e1.y_]) (xs:=[.tmp 21]) dI bN J J J J J ⟨(Y J),aW⟩)<|cy h fun g_ q_out1 h=>ea bN J J J J dI J J (Y J) (Y J) q_out1 fun l2 c2=>fX J<|bm<|dg I hN J ?_;exact aT (aE (ih (i+1) g_ l2 c2 ⟨cV I,h⟩) (aX J))
   ·refine bl<|dg I hN J ?_;exact aT (aE (ih (i+1) out l c ⟨cV I,h⟩) (aX J))
def xv s{R}(h:bU s=some R):mi aL 27 [gM s] false bY 3 R:=by
 refine mi.of func27 J J J fun w0 S0=>aV<|cr false bY 3<|M (bL xq)<|bA<|bc<|aQ J<|yy dI (Y J) J fun isnil hisnil=>bA<|qC (Y J) (fun hc=>?_) (fun hc=>?_)
 ·have I:=hisnil hc;have h:some vH=some R:=by simpa [bU,nH,I] using h
  exact aV<|cr false bY 3<|M (bL xq)<|bO<|ai<|so h▸lR J J
 ·exact kp<|aV<|pF (r:=bY) (ys:=vH) (xs:=[]) dI bN J J J J J trivial J fun l c=>aQ J<|cy h fun x q_x h=>ea bN J J J J dI J J (Y J) (Y J) q_x fun l1 c1=>bz J<|so h▸lR J J
def Ln s{R}(h:bU s=some R):cN aL 27 [gM s] (gM R):=(xv _ h).spec
def adl{l:Option Nat}{c:Nat}{xs s:List Int}{lo:Int}{R}(hs:fz xs lo (xs.length:Int)=some s)(h:bU s=some R):dj aL 27 [tV (o4 1 l c lo.toNat s.length)] [fa bY 3 l c xs] (fun i:OI=>s5 (i.h 0).1 (i.h 0).2 R) (fun i=>[fa bY 3 (i.h 0).1 (i.h 0).2 R,fa bY 3 l c xs]):=by
 refine dj.of func27 J J J fun w0 S0=>aV<|M (bL xq)<|bA<|bc<|aQ J<|Uc (r:=bY) dI (.head _) hs (Y J) J fun isnil hisnil=>bA<|qC (Y J) (fun hc=>?_) (fun hc=>?_)
 ·have I:=hisnil hc;have h:some vH=some R:=by simpa [bU,nH,I] using h
  exact aV<|cr false bY 3<|M (bL xq)<|bO<|ai<|so h▸fm J (oi none 0) J J (fun _ _ h=>h)
 ·exact kp<|aV<|pF (r:=bY) (ys:=vH) (xs:=[]) dI bN J J J J J trivial J fun l1 c1=>aQ J<|cy h fun x q_x h=>QE bN J J J J dI J J (Y J) (.tail _ (.head _)) hs (Y J) q_x fun l2 c2=>bz J<|so h▸fm J (oi l2 c2) J J (fun _ _ h=>h)
def abB(b:Nat)(l:Option Nat)(c:Nat) stack k{R}(h:rZ stack k=some R):dj aL 192 [bX k,tV (an b 0)] [bx rV 40 b (ak l c stack.length),fa bY 3 l c stack] (fun i:OI=>gM R.1) (fun i=>[bx rV 40 b (ak (i.h 0).1 (i.h 0).2 R.2.length),fa bY 3 (i.h 0).1 (i.h 0).2 R.2]):=by
 refine dj.of func192 J J J fun w0 S0=>aV<|lU bY<|bA<|aV<|M (u9 bK (.head _) (Y J))<|M (u9 bK (.head _) (Y J))<|M (iF dI (.tail _ (.head _)) (Y J))<|aQ J<|M (ij (Y J) (Y J))<|cy h fun y q_y h=>M (qN dI bN J (.tail _ (.head _)) (Y J) (Y J) q_y)<|rh (.tail _ (.head _)) q_y fun hv=>bM<|cy h fun r F_ h=>Og [fa bY 3 l c stack] _ J Ge (adl q_y F_) ⟨(Y J),aW⟩ J fun i=>?_;refine(show RG _ _ _ _ [_,_,_] _ from ?_);refine aU J<|aV<|M (u9 bK (.tail _ (.tail _ (.head _))) (Y J))<|M (u9 bK (.tail _ (.tail _ (.head _))) (Y J))<|M (iF dI (.tail _ (.head _)) (Y J))<|aQ J<|M (ij (Y J) (Y J))<|cy h fun y1 q_y1 h=>M (qO dI bN J (.tail _ (.head _)) (Y J) (Y J) q_y1)<|bM<|H5 q_y1<|gi<|dZ bK J ae J (Y J) (Ih (Y J))<|bA<|aB J<|aU J ?_;exact kM<|ah<|gQ<|d6 3 J<|d6 11 J<|d6 4 J<|d6 18 J<|n6 3 J<|aJ<|bj<|bj<|so h▸fm J (oi l c) J J (fun _ _ h=>h)
def X9 e do1{R}(h:rL e do1=some R):cN aL 178 [tD cg e,(iM aL WY WX (fun(x:bw×(List Int))=>do1 x.1 x.2))] (tT [bX R.1,bX R.2]):=by
 refine dL func178 J<|aV<|cR J<|cM<|cM<|bA<|Ic<|aV<|cr false bY 3<|aO (x:=ak none 0 0) bK (fun _=>U3) J fun b=>bA<|aV<|cM<|bA<|aV<|M (Ve (cts:=[tV (an b 0)]) (L_:=[.tmp 6]) ⟨(Y J),aW⟩)<|fX J ?_;refine bA<|aV<|cM<|bA<|aw<|Id<|ax<|bc<|bg gI dF pC J<|cm oD J<|M (bH hI)<|bA ?_;refine Uo (h3:=fun bad stack l c=>po bad stack=some R) (Of:=fun bad stack l c=>[bx rV 40 b (ak l c stack.length),fa bY 3 l c stack]) (Gf:=fun bad stack l c=>[(6,tV (an b 0)),(7,bX 0),(9,bX bad)]) (fun bad stack l c h=>?_) (fun hb=>?_)
 ·skip;refine ax<|bc<|aQ J<|mn J<|cD h J (fun h=>?_) (fun h=>?_)
  ·exact aB J<|aQ J<|fX J<|bz J<|ai<|sW<|aJ<|aJ<|so h▸ff J J J
  ·exact kp<|aV<|M (u9 bK (.head _) (Y J))<|cy h fun e1 s_ h=>M (c9 dI bN (.tail _ (.head _)) (Y J) hI s_)<|M (il (r:=bY) (i:=0) (J_:=0) bN J J bC J (.tail _ (.head _)) s_ (Y J))<|fX J<|jK<|sW<|aJ<|aJ<|so h▸ff J J J
 ·skip;refine aR (k:=16) J fun hN=>bE ?_;refine aE (yB (h3:=fun ls i bad1 stack1 l1 c1=>(e.u'.drop i=ls)/\kj do1 ls bad1 stack1=some R) (Of:=fun _ i bad1 stack1 l1 c1=>[bx rV 40 b (ak l1 c1 stack1.length),fa bY 3 l1 c1 stack1]) (Gf:=fun _ i bad1 stack1 l1 c1=>[(1,(iM aL WY WX (fun(x:bw×(List Int))=>do1 x.1 x.2))),(6,tV (an b 0)),(7,bX 0),(8,tC 192 [tV (an b 0)]),(9,bX bad1),(16,fI (bJ) e.u'),(17,jg e.u'),(18,bX (i:Int))]) (fun i bad1 stack1 l1 c1 h=>?_) (fun e2 tl ih i bad1 stack1 l1 c1 h=>?_) e.u' 0 0 vH none 0 ⟨J,h⟩) (aX J)
  ·obtain⟨I,h⟩:=h;refine dH I J ?_;exact bQ (hb bad1 stack1 l1 c1 h) (aX J)
  ·obtain⟨I,h⟩:=h;refine dG I J<|aw<|am<|aV<|dN oD hM J (dE I)<|aO hM tf J fun b1=>bv hM ae J<|aH 11 J<|bA<|aw<|cy h fun r F_ h=>cy h fun r1 Y_ h=>?_;refine cy h fun r2 q_r2 h=>?_;refine lw 12 [tc ((iM aL WY WX (fun(x:bw×(List Int))=>do1 x.1 x.2))),tc (tD bJ e2),tc (tC 192 [tV (an b 0)]),tc (aY bY e2.Tag),tc (bX e2.Tag),tc (bX r),tc (gM r1.1),tc (tT [bX r2.1,bX r2.2]),tc (tT [bX r2.1,bX r2.2]),tc (bX r2.1),tc (bX r2.2),tc (bX r2.1)] [false,false,false,false,false,false,true,false,false,false,false,false] [fun _=>[bx rV 40 b (ak l1 c1 stack1.length),fa bY 3 l1 c1 stack1],fun sg=>[bx rV 40 b (ak ((sg 6).h 0).1 ((sg 6).h 0).2 r1.2.length),fa bY 3 ((sg 6).h 0).1 ((sg 6).h 0).2 r1.2]] J mixed J J J J J
    ⟨⟨[⟨1,fun _=>(iM aL Z3 Z0 (fun(x:bw×(List Int))=>do1 x.1 x.2)),none⟩],_,0,1,J,⟨(fun _=>J),aW⟩,J,J,J,J,J,fun _ sg _ _=>aa J (kR J)⟩,
    ⟨⟨[⟨11,fun _=>aY bJ e2,none⟩],_,0,1,J,⟨(fun _=>J),aW⟩,J,J,J,J,J,fun _ sg _ _=>aa J (m9 hM J J)⟩,
    ⟨⟨[⟨8,fun _=>tC 192 [tV (an b 0)],none⟩],_,0,0,J,⟨(fun _=>J),aW⟩,J,J,J,J,J,fun _ sg _ _=>aa J (kR J)⟩,
    ⟨⟨[⟨11,fun _=>aY bJ e2,none⟩],_,0,0,J,⟨(fun _=>J),aW⟩,J,J,J,J,J,fun _ sg _ _=>aa J (mj ow je J J)⟩,
    ⟨⟨[⟨26,fun _=>aY bY e2.Tag,some 3⟩],_,0,0,J,⟨(fun _=>J),aW⟩,J,J,J,J,J,fun _ sg _ _=>aa J (m9 bN J J)⟩,
    ⟨⟨[⟨27,fun _=>tD bY e2.Tag,some 4⟩],_,0,0,J,⟨(fun _=>J),aW⟩,J,J,J,J,J,fun _ sg _ _=>aa J (cq Zy (RK _ F_) ⟨(Y J),aW⟩)⟩,
    ⟨⟨[⟨25,fun _=>tC 192 [tV (an b 0)],some 2⟩,⟨28,fun _=>tD bY r,some 5⟩],_,J,⟨(fun _=>J),(fun _=>J),aW⟩,J,J,J,fun sg=>cL J (fr1 (fr1 (TT (xs:=[.tmp 28]) (ts:=[tD bY r]) (cts:=[tV (an b 0)]) [bx rV 40 b (ak l1 c1 stack1.length),fa bY 3 l1 c1 stack1] _ J adE (abB b l1 c1 _ _ Y_) (Y J) ⟨(Y J),aW⟩ (fun _=>J))))⟩,
    ⟨⟨[⟨23,fun _=>(iM aL Z3 Z0 (fun(x:bw×(List Int))=>do1 x.1 x.2)),some 0⟩,⟨24,fun _=>tD bJ e2,some 1⟩,⟨29,fun _=>tD oQ r1.1,some 6⟩],_,1,1,J,⟨(fun _=>J),(fun _=>J),(fun _=>J),aW⟩,J,J,J,J,J,fun _ sg _ _=>aa J (kE (args:=Z3) (res:=Z0) (f:=(fun(x:bw×(List Int))=>do1 x.1 x.2)) (x:=((e2,r1.1):bw×(List Int))) (Y J) q_r2 ⟨(Y J),(Y J),aW⟩)⟩,
    ⟨⟨[⟨30,fun _=>tT [tD bY r2.1,tD bY r2.2],some 7⟩],_,1,1,J,⟨(fun _=>J),aW⟩,J,J,J,J,J,fun _ sg _ _=>aa J (kR J)⟩,
    ⟨⟨[⟨22,fun _=>tT [tD bY r2.1,tD bY r2.2],some 8⟩],_,1,1,J,⟨(fun _=>J),aW⟩,J,J,J,J,J,fun _ sg _ _=>aa J (Sw J J)⟩,
    ⟨⟨[⟨22,fun _=>tT [tD bY r2.1,tD bY r2.2],some 8⟩],_,1,1,J,⟨(fun _=>J),aW⟩,J,J,J,J,J,fun _ sg _ _=>aa J (Sw J J)⟩,
    ⟨⟨[⟨31,fun _=>tD bY r2.1,some 9⟩],_,1,1,J,⟨(fun _=>J),aW⟩,J,J,J,J,J,fun _ sg _ _=>aa J (yO J)⟩,
    aW⟩⟩⟩⟩⟩⟩⟩⟩⟩⟩⟩⟩ (fun sg=>?_)
   refine(show RG _ _ _ _ [_,_] _ from ?_);refine aU J<|bc<|aQ J<|mn J<|cD h J (fun h=>?_) (fun h=>?_)
   ·refine aB J<|aU J<|iN<|aN<|cI J<|aN<|aN<|dY ?_;exact bQ (hb r2.2 r1.2 ((sg 6).h 0).1 ((sg 6).h 0).2 h) (aX J)
   ·refine kp<|au<|M (u9 bK (.head _) (Y J))<|aQ J<|M (aI (r:=bY) (ys:=[r2.1]) (xs:=[.tmp 37]) dI bN J J J J J ⟨(Y J),aW⟩)<|bM<|cy h fun l2 q_l2 h=>ea bN J J J J dI J J (Y J) (Y J) q_l2 fun l3 c2=>bM<|dZ bK J ae J (Y J) (Ih (Y J))<|bm<|dg I hN J ?_;exact aT (aE (ih (i+1) bad1 l2 l3 c2 ⟨cV I,h⟩) (aX J))
def RR tag{R}(h:vv tag=some R):cN aL 147 [bX tag] (gp R):=by
 exact dL func147 J<|aV<|bn<|bA<|aB J<|cz J<|aQ J<|aC J (cY J)<|aC J (fun H=>eT (br J H) hI)<|aC J (t8 J)<|lr J J J J (fun H=>kR J)<|lr J J J J (fun H=>kZ (br J H) hI)<|aC J (fun H=>sl (br J H) (fun K=>(br J (wY H K))))<|fV J<|bz J<|so h▸aD J J
def X8 j' n l{R}(h:mh j' n l=some R):cN aL 179 [tD bJ n,gM l,aY gG j'] (tT [bX R.1,bX R.2]):=by
 refine dL func179 J<|aV<|cR J<|cM<|cM<|bA<|aV<|cM<|bA<|bc<|aQ J<|cm dI J<|M (bH hI)<|bA<|am<|aR (k:=12) J fun hN=>bE ?_;refine aE (qc (h3:=fun ls i own=>(l.drop i=ls)/\pq j' n ls own=some R) (Of:=fun _ i own=>[]) (Gf:=fun _ i own=>[(2,aY gG j'),(3,aY bJ n),(7,bX own),(12,gM l),(13,jg l),(14,bX (i:Int))]) (fun i own h=>?_) (fun e tl ih i own h=>?_) l 0 0 ⟨J,h⟩) (aX J)
 ·obtain⟨I,h⟩:=h;refine dH I J<|ax<|aB J<|aU J<|aV<|cM<|bA ?_;refine aw<|am<|aV<|bg ow je bN J<|cz J<|aU J<|oS h J (fun h=>?_) (fun h=>?_)
  ·exact aV<|qx Dy wJ J<|bg Bh zj bN J<|fX J<|jK<|dB<|so h▸ff J J J
  ·refine aV<|bg ow je bN J<|cz J<|aU J<|oS h J (fun h=>?_) (fun h=>?_)
   ·exact aV<|cx bK J<|bg rY mL bN J<|cy h fun e1 s_ h=>dN dI bN J s_<|fX J<|jK<|dB<|so h▸ff J J J
   ·refine aV<|bg ow je bN J<|eG h ZE (RR _) (cA J) fun r h=>aU J<|oS h J (fun h=>?_) (fun h=>?_)
    ·refine au<|cM<|cM<|bm<|bf<|ax<|bc<|aQ J<|cz J<|aQ J<|aC J (cY J)<|aC J (uV J)<|aC J (t8 J)<|lr J J J J (fun H=>kR J)<|lr J J J J (fun H=>kR J)<|lr J J J J (fun H=>jV (br J H) (br J H))<|aC J (fun H=>sl (br J H) (fun K=>(br J (wY H K))))<|fV J<|cD h J (fun h=>?_) (fun h=>?_)
     ·exact aV<|cM<|jK<|ai<|so h▸ff J J J
     ·exact kp<|aB J<|fX J<|jK<|so h▸ff J J J
    ·refine aV<|bg ow je bN J<|cz J<|aQ J<|aC J (cZ ow je J J)<|aC J (cG bN J J)<|aC J (iu J)<|fV J<|aQ J<|aC J (cZ ow je J J)<|aC J (cG bN J J)<|aC J (iu J)<|fV J<|aU J<|oS h J (fun h=>?_) (fun h=>?_)
     ·refine au<|cM<|bm<|bf<|ax<|bc<|aQ J<|cz J<|aQ J<|aC J (cY J)<|aC J (uV J)<|aC J (t8 J)<|lr J J J J (fun H=>kR J)<|lr J J J J (fun H=>kR J)<|lr J J J J (fun H=>jV (br J H) (br J H))<|aC J (fun H=>sl (br J H) (fun K=>(br J (wY H K))))<|fV J<|cD h J (fun h=>?_) (fun h=>?_)
      ·exact aV<|cM<|jK<|ai<|so h▸ff J J J
      ·exact kp<|aB J<|fX J<|jK<|so h▸ff J J J
     ·refine bl<|bf<|ax<|bc<|aQ J<|cz J<|aQ J<|aC J (cY J)<|aC J (uV J)<|aC J (t8 J)<|lr J J J J (fun H=>kR J)<|lr J J J J (fun H=>kR J)<|lr J J J J (fun H=>jV (br J H) (br J H))<|aC J (fun H=>sl (br J H) (fun K=>(br J (wY H K))))<|fV J<|cD h J (fun h=>?_) (fun h=>?_)
      ·exact aV<|cM<|jK<|ai<|so h▸ff J J J
      ·exact kp<|aB J<|fX J<|jK<|so h▸ff J J J
 ·obtain⟨I,h⟩:=h;refine dG I J<|aw<|am<|aV<|dN dI bN J (dE I)<|aU J<|am<|aB J<|cz J ?_;refine aQ J<|aC J (cY J)<|aC J (cY J)<|aC J (fun H=>fc (br J H) (br J H))<|fV J<|aU J<|oS h J (fun h=>?_) (fun h=>?_)
  ·refine bl<|bf<|dg I hN J ?_;exact aT (aE (ih (i+1) own ⟨cV I,h⟩) (aX J))
  ·refine aB J<|cz J<|aU J<|oS h J (fun h=>?_) (fun h=>?_)
   ·refine au<|aQ J<|fX J<|bm<|bf<|dg I hN J ?_;exact aT (aE (ih (i+1) e ⟨cV I,h⟩) (aX J))
   ·refine au<|cM<|bm<|bf<|dg I hN J ?_;exact aT (aE (ih (i+1) CU ⟨cV I,h⟩) (aX J))
def zq e j'{R}(h:nm e j'=some R):cN aL 155 [tD cg e,gM j'] (tT [bX R.1,bX R.2]):=by
 refine dL func155 J<|aV<|cR J<|cR J<|cM<|cM<|bA<|bc<|cx jM J<|eG h R1 (GD _) (cA J) fun r h=>aU J<|aB J<|mn J<|bA ?_;refine oS h J (fun h=>?_) (fun h=>?_)
 ·exact aB J<|cM<|bz J<|ai<|so h▸ff J J J
 ·refine kp<|bc<|cx bK J<|cm dI J<|M (bH hI)<|bA<|am<|aR (k:=16) J fun hN=>bE ?_;refine aE (fj (h3:=fun ls i=>(j'.drop i=ls)/\tN e j' ls=some R) (Of:=fun _ i=>[]) (Gf:=fun _ i=>[(2,aY cg e),(3,aY gG j'),(16,gM j'),(17,jg j'),(18,bX (i:Int))]) (fun i h=>?_) (fun e1 tl ih i h=>?_) j' 0 ⟨J,h⟩) (aX J)
  ·obtain⟨I,h⟩:=h;refine dH I J<|ax<|bc<|cx jM J<|t7 h adM (V2 _) (cA J) fun r1 h l c=>M (iF dI (.head _) (Y J))<|M (bH hI)<|bA<|am ?_;refine oB (.head _) fun hN1=>bE ?_;refine aE (fj (h3:=fun ls1 i1=>(r1.drop i1=ls1)/\pT e j' ls1=some R) (Of:=fun _ i1=>[fa bY 3 l c r1]) (Gf:=fun _ i1=>[(2,aY cg e),(3,aY gG j'),(30,s5 l c r1),(31,jg r1),(32,bX (i1:Int))]) (fun i1 h=>?_) (fun e2 tl1 ih1 i1 h=>?_) r1 0 ⟨J,h⟩) (aX J)
   ·obtain⟨m_,h⟩:=h;refine dH m_ J<|ax<|aV<|cx jM J<|M ((show ck _ _ _ _ ((iM aL WY WX (fun(x:bw×(List Int))=>(mh j') x.1 x.2)))from kW (cts:=[aY gG j']) (L_:=[.tmp 3]) adK ⟨(Y J),aW⟩ (fun x y h=>X8 _ _ _ h)))<|eG h adL (X9 _ _) (cA J) fun r2 h=>dq J J<|dq J J<|fX J<|fX J<|bm ?_;exact ax<|kM<|aJ<|so h▸ff J J J
   ·obtain⟨m_,h⟩:=h;refine dG m_ J<|aw<|am<|aV<|M (c9 dI bN (.head _) (Y J) (Y J) (dE m_))<|M (il (r:=bY) (i:=(i1:Int)) (J_:=0) bN J J bC J (.head _) (dE m_) (Y J))<|aU J<|aB J<|cx bK J<|cm dI J ?_;refine M (eT (Y J) (Y J))<|cD h J (fun h=>?_) (fun h=>?_)
    ·exact aV<|cM<|jK<|dB<|ai<|dB<|aJ<|so h▸ff J J J
    ·refine bl<|dg m_ hN1 J ?_;exact aT (aE (ih1 (i1+1) ⟨cV m_,h⟩) (aX J))
  ·obtain⟨I,h⟩:=h;refine dG I J<|aw<|am<|aV<|dN dI bN J (dE I)<|aU J<|aB J<|M (gA (Y J) hI)<|aQ J ?_;refine aC J (cY J)<|aC J (fun H=>fR (br J H) hI)<|fV J<|cD h J (fun h=>?_) (fun h=>?_)
   ·exact aV<|cM<|jK<|dB<|ai<|dB<|so h▸ff J J J
   ·refine bl<|dg I hN J ?_;exact aT (aE (ih (i+1) ⟨cV I,h⟩) (aX J))
