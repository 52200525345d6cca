/- bT of this claim: P0. -/
import Derived.Test.YtdohlidddcgfjaaGreatFdT
import Derived.Test.YtdohlidddcgfjaaGreatFdF
set_option linter.all false
namespace Go.Proofs.YtdohlidddcgfjaaGreat
open Go
abbrev ig:=(⟨(0:Int),(0:Int),(0:Int),[]⟩:am)
abbrev wX:=(⟨[],false,(0:Int)⟩:bI)
abbrev q8:=(⟨(0:Int),(0:Int),(0:Int),(0:Int),wX⟩:aI)
abbrev cz:=rH im []
abbrev bP:=rI .i64
abbrev O4:=fun(mc:aU) (mx:aa)=>(fe mc mx).map fun mr=>((),mr)
abbrev WM:=fun(mc:aU) (mx:aa)=>(iK mc mx).map fun mr=>((),mr)
abbrev WO:=fun(mc:aU) (mx:aa)=>(gH mc mx).map fun mr=>((),mr)
abbrev Hz:=fun(mc:aU) (mx:aa)=>(d6 mc mx).map fun mr=>((),mr)
abbrev WP:=fun(mc:aU) (mx:aa)=>(gp mc mx).map fun mr=>((),mr)
abbrev WN:=fun(mc:aU) (mx:aa)=>(ib mc mx).map fun mr=>((),mr)
abbrev zk4:=gw (gw (gw (gw (gw (gw (gw (gw (gw ([]:List (Int×(aU->aa->Option (Unit×aU)))) (1:Int) O4) (9:Int) O4) (2:Int) WM) (3:Int) WO) (4:Int) Hz) (10:Int) Hz) (11:Int) Hz) (5:Int) WP) (8:Int) WN
abbrev pN:=fun(x:Bool)=>gI x
abbrev mQ:=(⟨[]⟩:aP)
abbrev Gc:=(⟨[],(0:Int),(0:Int),[]⟩:di)
abbrev DN:=fun(x:aa)=>[tD bl x]
abbrev u5:=(⟨[]⟩:cT)
abbrev QU:=fun(x:aa×aa)=>[tD bl x.1,tD bl x.2]
abbrev s9:=fun(x:Unit)=>tT []
abbrev Hy:=(⟨(0:Int),(0:Int),(0:Int),(0:Int),ig⟩:ap)
abbrev me:=fW be
abbrev Aw:=fun(x:Bool)=>tD rB x
abbrev TP:=(⟨(0:Int),(0:Int),(0:Int),(0:Int),[],false,mQ,[],[],[],[],(0:Int)⟩:aa)
noncomputable abbrev QT:=lF aY QU pN (fun(x:aa×aa)=>oh x.1 x.2)
abbrev ss:=([]:List Int)
abbrev nT:=rI .u32
abbrev md:=rI .u64
abbrev TO:=(⟨(0:Int),(0:Int)⟩:lZ)
abbrev TN:=fun(x:di×di)=>[tD cG x.1,tD cG x.2]
abbrev TM:=fun(x:ap×(List Int))=>[tD bD x.1,pi x.2]
abbrev TL:=fun(x:eS×eS)=>[tD fI x.1,tD fI x.2]
abbrev Jm:=fun(x:Int)=>[bC x]
abbrev QS:=fun(x:am)=>[tD be x]
abbrev zu:=fW bP
abbrev WL:=fun(x:ap×(List Int))=>[tD bD x.1,tD zu x.2]
abbrev TK:=fun(x:Int×Int)=>tT [bC x.1,bC x.2]
abbrev QR:=fun(x:kg)=>[tD iA x]
abbrev WK:=fun(x:aP×aP)=>[tD cU x.1,tD cU x.2]
abbrev FB:=nF nT 256
abbrev QQ:=fun(x:Int)=>[tD bP x]
abbrev WJ:=fun(x:Int×Int)=>tT [tD bP x.1,tD bP x.2]
abbrev Hx:=au none 0 0
abbrev WI:=2^(min (Int.toNat (8:Int)) IntKind.u32.bits)
abbrev WH:=fun(x:(List am))=>[d8 (be) x]
abbrev C0:=(-1:Int)
abbrev Jl:=fW (rI .u8)
abbrev TJ:=(⟨TO,[]⟩:af)
abbrev WG:=fun(x:Int)=>nt x
abbrev Hw:=rI .u16
abbrev O3:=(81,tT [])
set_option maxRecDepth 100000

def Vs{R}(h:BJ=some R):dJ aY 112 [] (tD FB R):=by
 refine eX Tryz.func112 J<|a8<|bw (r:=FB) (x:=(List.replicate 256 (0:Int))) Gl (fun _=>Bp (r:=nT) 256 (fun _=>J) _) J fun b=>br<|a8<|bM h fun e q_e h=>s (jF Hs qY (.head _) (D J) hI q_e)<|bM h fun ar q_ar h=>yM qY J q_e (so q_ar) (D J) hI<|br<|bm<|cM<|br<|aA<|bN ?_;refine aV (Dy (tV:=fun n1 n out=>sC n1 n out=some R) (Of:=fun n out=>[Q FB 152 b out]) (Gf:=fun n out=>[(0,Z (M b 0)),(1,bC n)]) (fun n out h=>nn h) (fun n1 ih n out h=>?_) fh (64:Int) ar h) (bo J);refine eu<|bm<|aS J<|s (ge (D J) hI)<|cZ h J (fun h=>?_) (fun h=>?_)
 ·refine jg<|aT<|aA<|aB J<|s (EA hI (D J))<|bM h fun e1 q_e1 h=>s (jF Hs qY (.head _) (D J) (D J) q_e1)<|s (AS qY J J (.head _) q_e1 (D J))<|aZ J<|aB J<|aS J<|s (BW (D J) hI (by decide))<|bM h fun e2 q_e2 h=>s (jF Hs qY (.head _) (D J) (D J) q_e2)<|bM h fun ar1 q_ar1 h=>yM qY J q_e2 (so q_ar1) (D J) (D J)<|aX ?_;refine aG<|aB J<|s (Xu (D J) hI)<|bW J<|cZ h J (fun h=>?_) (fun h=>?_)
  ·refine aw<|aS J<|bM h fun e3 q_e3 h=>s (jF Hs qY (.head _) (D J) (D J) q_e3)<|s (AS qY J J (.head _) q_e3 (D J))<|s (Ig (D J) hI)<|s (jF Hs qY (.head _) (D J) (D J) q_e3)<|bM h fun ar2 q_ar2 h=>yM qY J q_e3 (so q_ar2) (D J) (D J)<|aX<|aF<|aG<|aw<|aS J<|s (RW (D J) hI (by decide))<|hE J<|aX ?_;exact bj (aV (ih (IntKind.i64.wrap ((n).tdiv (2:Int))) ar2 h) (bo J))
  ·refine bE<|aF<|aG<|aw<|aS J<|s (RW (D J) hI (by decide))<|hE J<|aX ?_;exact bj (aV (ih (IntKind.i64.wrap ((n).tdiv (2:Int))) ar1 h) (bo J))
 ·refine dB<|aq<|aq<|bV<|aG<|bm<|cM<|br<|aA<|bN ?_;refine aV (Dy (tV:=fun n3 n2 out1=>sy n3 n2 out1=some R) (Of:=fun n2 out1=>[Q FB 152 b out1]) (Gf:=fun n2 out1=>[(0,Z (M b 0)),(3,bC n2)]) (fun n2 out1 h=>nn h) (fun n3 ih1 n2 out1 h=>?_) fh (2:Int) out h) (bo J);refine eu<|bm<|aS J<|s (iZ (D J) hI)<|cZ h J (fun h=>?_) (fun h=>?_)
  ·refine jg<|aT<|aA<|aB J<|s (bQ hI)<|br<|aA<|bN ?_;refine aV (Dy (tV:=fun n4 x out2=>vK (sy n3) n2 n4 x out2=some R) (Of:=fun x out2=>[Q FB 152 b out2]) (Gf:=fun x out2=>[(0,Z (M b 0)),(3,bC n2),(30,bC n2),(31,bC x)]) (fun x out2 h=>nn h) (fun n4 ih2 x out2 h=>?_) fh (0:Int) out1 h) (bo J);refine eu<|a8<|nX J<|br<|aT<|jz h J (fun h=>?_) (fun h=>?_)
   ·refine jg<|aT<|aA<|aB J<|aZ J<|bM h fun e4 q_e4 h=>bM h fun e5 q_e5 h=>bM h fun e6 q_e6 h=>?_
    refine se 11 (ts:=[bC n2,bC x,bC (IntKind.i64.wrap (n2+x)),bC n2,Z (M b (n2.toNat*1)),tD nT e4,bC x,Z (M b (x.toNat*1)),tD nT e5,tD nT (qR .xor .u32 e4 e5),Z (M b ((IntKind.i64.wrap (n2+x)).toNat*1))]) mixed J J J
     ⟨iy J J,
     ⟨iy J J,
     ⟨kx 34 0 35 1 J J J (fS (D J) (D J)),
     ⟨iy J J,
     ⟨TQ 0 37 3 J J J (jF Hs qY (.head _) (D J) (D J) q_e4),
     ⟨gk 38 4 J J (AS qY J J (.head _) q_e4 (D J)),
     ⟨iy J J,
     ⟨TQ 0 40 6 J J J (jF Hs qY (.head _) (D J) (D J) q_e5),
     ⟨gk 41 7 J J (AS qY J J (.head _) q_e5 (D J)),
     ⟨kx 39 5 42 8 J J J (Ig (D J) (D J)),
     ⟨TQ 0 36 2 J J J (jF Hs qY (.head _) (D J) (D J) q_e6),
     aM⟩⟩⟩⟩⟩⟩⟩⟩⟩⟩⟩ ?_
    refine bM h fun ar3 q_ar3 h=>yM qY J q_e6 (so q_ar3) (D J) (D J)<|aX<|aF<|aG<|aw<|s (fS (D J) hI)<|aS J<|aX ?_;exact bj (aV (ih2 (IntKind.i64.wrap (x+(1:Int))) ar3 h) (bo J))
   ·refine dB<|aq<|aq<|bV<|aF<|aG<|aw<|aS J<|s (EA (D J) hI)<|hE J<|aX ?_;exact bj (aV (ih1 (IntKind.i64.wrap (n2*(2:Int))) out2 h) (bo J))
  ·exact dB<|aq<|aq<|bV<|aG<|a8<|s (aE Gl J J bp (.head _) (D J))<|bv Gl ax J<|bS<|fG 0 J<|so h▸Lk J Gl J J J

def Yz(b:Nat) register wJ c{R}(h:ud register wJ c=some R):bk aY 113 [tD (rI .u8) c,Z (M b 0),df FB wJ] [Q nT 25 b register] (fun i:OI=>tT []) (fun i=>[Q nT 25 b R]):=by
 refine bk.of Tryz.func113 J J J fun w0 S0=>bM h fun e q_e h=>?_
 refine se 9 (ts:=[tD nT register,tD nT ((register).fdiv WI),tD nT register,tD (rI .u8) (IntKind.u8.wrap register),tD (rI .u8) c,tD (rI .u8) (qR .xor .u8 (IntKind.u8.wrap register) c),df nT e,tD nT e,tD nT (qR .xor .u32 ((register).fdiv WI) e)]) mixed J J J
  ⟨Lr 1 J J (aE qY J J bp (.head _) (D J)),
  ⟨gk 4 0 J J (BW (D J) hI (by decide)),
  ⟨Lr 1 J J (aE qY J J bp (.head _) (D J)),
  ⟨gk 6 2 J J (fE DI uZ (D J)),
  ⟨iy J J,
  ⟨kx 7 3 8 4 J J J (Ig (D J) (D J)),
  ⟨TQ 2 9 5 J J J (FO Hs qY J (D J) (D J) q_e),
  ⟨u7 6 qY J J,
  ⟨kx 5 1 11 7 J J J (Ig (D J) (D J)),
  aM⟩⟩⟩⟩⟩⟩⟩⟩⟩ ?_
 exact bv qY ax J<|aX<|so h▸eN J (oi none 0) J J

def XX b{R}(h:yp b=some R):dJ aY 54 [d8 ((rI .u8)) b] (tD nT R):=by
 refine eX Tryz.func54 J<|a8<|cM<|br<|a8<|iw h abW Vs trivial fun r h=>bw (r:=FB) (x:=(List.replicate 256 (0:Int))) Gl (fun _=>Bp (r:=nT) 256 (fun _=>J) _) J fun b1=>bv Gl ax J<|bf 3 J<|br<|a8<|bw (r:=nT) (x:=(0:Int)) qY (fun _=>J) J fun b2=>ed qY J ax J (D J) hI<|br<|a8<|s (vk (cts:=[Z (M b2 0),df FB r]) (caps:=[.tmp 4,.tmp 3]) ⟨(D J),(D J),aM⟩) ?_;refine aZ J<|bm<|aS J<|cw iY J<|s (bQ hI)<|br<|aA<|bt (k:=10) J fun hN=>bN ?_;refine aV (yj (tV:=fun ls i register=>(b.drop i=ls)/\oO r ls register=some R) (Of:=fun _ i register=>[Q nT 25 b2 register]) (Gf:=fun _ i register=>[(4,Z (M b2 0)),(5,tC 113 [Z (M b2 0),df FB r]),(10,d8 ((rI .u8)) b),(11,nz b),(12,bC (i:Int))]) (fun i register h=>?_) (fun e tl ih i register h=>?_) b 0 (4294967295:Int) ⟨J,h⟩) (bo J)
 ·obtain⟨V,h⟩:=h
  exact fm V J<|aG<|a8<|s (aE qY J J bp (.head _) (D J))<|s (Xt (D J))<|bq J<|ba<|so h▸aN J J
 ·obtain⟨V,h⟩:=h
  refine fj V J<|aT<|aA<|a8<|fQ iY tW J (eF V)<|aZ J<|aw<|aS J<|aS J<|bM h fun r1 q_r1 h=>aL (sY (xs:=[.tmp 17]) (ts:=[tD (rI .u8) e]) (cts:=[Z (M b2 0),df FB r]) (post:=fun i=>[Q nT 25 b2 r1]) [Q nT 25 b2 register] [] J abV (Yz b2 _ _ _ q_r1) (D J) ⟨(D J),aM⟩ (fun _=>J)) J fun i1=>?_;refine(show RG _ _ _ _ [_] _ from ?_);refine aX<|dW V hN J ?_;exact bj (aV (ih (i+1) r1 ⟨dQ V,h⟩) (bo J))

def On b{R}(h:oH b=some R):jy aY 55 [d8 ((rI .u8)) b] false (rI .u8) 5 R:=by
 refine jy.of Tryz.func55 J J J fun w0 S0=>a8<|cS false (rI .u8) 5<|s (cg w3)<|br<|bm<|aS J<|K0 iY (D J) J fun isnil hisnil=>br<|qV (D J) (fun hc=>?_) (fun hc=>?_)
 ·have V:=hisnil hc
  have h:some ss=some R:=by simpa [oH,app,V] using h
  exact a8<|cS false (rI .u8) 5<|s (cg w3)<|bS<|av<|so h▸m6 J J
 ·exact jg<|a8<|sb (r:=(rI .u8)) (ys:=ss) (xs:=[]) iY tW J J J J J trivial J fun l c=>aS J<|bM h fun x q_x h=>dl tW J J J J iY J J (D J) (D J) q_x fun l1 c1=>bq J<|so h▸m6 J J
def Oo b{R}(h:nY b=some R):jy aY 27 [d8 ((rI .u8)) b] false (rI .u8) 5 R:=by
 refine jy.of Tryz.func27 J J J fun w0 S0=>a8<|cS false (rI .u8) 5<|s (cg w3)<|br<|aB J<|iw h acI (XX _) (ea J) fun r h=>aZ J<|aB J<|u6 h aaA (On _) (ea J) fun r1 h l c=>aZ J<|aT ?_;refine a8<|s (bQ hI)<|br<|aA<|bN<|gE<|sO ?_;refine aV (OV (tV:=fun k i out l1 c1 n=>(4-i=k)/\nj k out n=some R) (Of:=fun _ i out l1 c1 n=>[dk (rI .u8) 5 l1 c1 out]) (Gf:=fun _ i out l1 c1 n=>[(3,tD nT n),(4,rL l1 c1 out),(9,bC (i:Int))]) (fun i out l1 c1 n h=>?_) (fun k1 ih i out l1 c1 n h=>?_) 4 0 r1 l c r ⟨J,h⟩) (bo J)
 ·obtain⟨V,h⟩:=h
  exact eu<|a8<|s (iZ (D J) hI)<|br<|aT<|Bz (D J) (ZU V)<|dB<|aq<|aq<|bV<|aG<|aB J<|bq J<|so h▸m6 J J
 ·obtain⟨V,h⟩:=h
  refine eu<|a8<|s (iZ (D J) hI)<|br<|aT<|By (D J) (ZT V)<|jg<|aT<|aA<|aB J<|aS J<|s (fE DI uZ (D J))<|s (bc (r:=(rI .u8)) (ys:=[(IntKind.u8.wrap n)]) (xs:=[.tmp 13]) iY tW J J J J J ⟨(D J),aM⟩)<|bM h fun out1 q_out1 h=>dl tW J J J J iY J J (D J) (D J) q_out1 fun l2 c2=>aZ J<|aw ?_;refine aS J<|s (BW (D J) hI (by decide))<|hE J<|aX<|aF<|aG<|aw<|s (Dl (Xy V (by decide)) (D J) hI)<|aS J<|aX ?_;exact bj (aV (ih (i+1) out1 l2 c2 ((n).fdiv WI) ⟨Xx V,h⟩) (bo J))
def XW n{R}(h:nt n=some R):dJ aY 56 [bC n] (gI R):=by
 exact eX Tryz.func56 J<|a8<|bA<|br<|aB J<|s (iJ (D J) hI)<|aS J<|ai J (du J)<|ai J (fun H=>g9 (bL J H) hI)<|c8 J<|bq J<|so h▸aN J J

def SE s1 s2 eq{R}(h:cn s1 s2 eq=some R):dJ aY 62 [d8 (me) s1,d8 (me) s2,(lF aY (fun(x:(List am)×(List am))=>[d8 (be) x.1,d8 (be) x.2]) pN (fun(x:(List am)×(List am))=>eq x.1 x.2))] (gI R):=by
 refine eX Tryz.func62 J<|a8<|bA<|br<|bm<|aS J<|cw u4 J<|aS J<|cw u4 J<|s (kD (D J) (D J))<|cZ h J (fun h=>?_) (fun h=>?_)
 ·exact a8<|bA<|bS<|av<|so h▸aN J J
 ·refine jg<|bm<|aS J<|cw u4 J<|s (bQ hI)<|br<|aA<|bt (k:=15) J fun hN=>bN ?_;refine aV (fv (tV:=fun ls i=>(s1.drop i=ls)/\b8 s2 eq ls i=some R) (Of:=fun _ i=>[]) (Gf:=fun _ i=>[(1,d8 (me) s2),(2,(lF aY (fun(x:(List am)×(List am))=>[d8 (be) x.1,d8 (be) x.2]) pN (fun(x:(List am)×(List am))=>eq x.1 x.2))),(15,d8 (me) s1),(16,nz s1),(17,bC (i:Int))]) (fun i h=>?_) (fun e tl ih i h=>?_) s1 0 ⟨J,h⟩) (bo J)
  ·obtain⟨V,h⟩:=h
   exact fm V J<|aG<|a8<|bA<|bS<|so h▸aN J J
  ·obtain⟨V,h⟩:=h
   refine fj V J<|aT<|aA<|aB J<|fQ u4 Cy J (eF V)<|hE J<|aZ J<|aB J ?_;refine aS J<|bM h fun e1 q_e1 h=>fQ u4 Cy J q_e1<|aZ J<|aB J<|aS J<|aS J<|bM h fun r q_r h=>s (lH (args:=(fun(x:(List am)×(List am))=>[tD me x.1,tD me x.2])) (res:=Aw) (f:=(fun(x:(List am)×(List am))=>eq x.1 x.2)) (x:=((e,e1):(List am)×(List am))) (D J) q_r ⟨(D J),(D J),aM⟩)<|s (gG (D J))<|cZ h J (fun h=>?_) (fun h=>?_)
   ·exact a8<|bA<|bS<|ei<|av<|ei<|so h▸aN J J
   ·refine bE<|dW V hN J ?_;exact bj (aV (ih (i+1) ⟨dQ V,h⟩) (bo J))

def SD s1 s2{R}(h:dR s1 s2=some R):dJ aY 64 [d8 (be) s1,d8 (be) s2] (gI R):=by
 refine eX Tryz.func64 J<|a8<|bA<|br<|bm<|aS J<|cw Aj J<|aS J<|cw Aj J<|s (kD (D J) (D J))<|cZ h J (fun h=>?_) (fun h=>?_)
 ·exact a8<|bA<|bS<|av<|so h▸aN J J
 ·refine jg<|bm<|aS J<|cw Aj J<|s (bQ hI)<|br<|aA<|bt (k:=11) J fun hN=>bN ?_;refine aV (fv (tV:=fun ls i=>(s1.drop i=ls)/\dC s2 ls i=some R) (Of:=fun _ i=>[]) (Gf:=fun _ i=>[(0,d8 (be) s1),(1,d8 (be) s2),(12,nz s1),(13,bC (i:Int))]) (fun i h=>?_) (fun e tl ih i h=>?_) s1 0 ⟨J,h⟩) (bo J)
  ·obtain⟨V,h⟩:=h
   exact fm V J<|aG<|a8<|bA<|bS<|so h▸aN J J
  ·obtain⟨V,h⟩:=h
   refine fj V J<|aT<|aA<|aB J<|aZ J<|aT<|bM h fun e1 q_e1 h=>?_
   refine kM (ts:=[_,_,_,_,_,_,_,_,_]) mixed J J
    ⟨iy J J,
    ⟨iy J J,
    ⟨kx 16 0 17 1 J J J (Nt Aj dd J J J (eF V)),
    ⟨u7 2 dd J J,
    ⟨iy J J,
    ⟨iy J J,
    ⟨kx 20 4 21 5 J J J (Nt Aj dd J J J q_e1),
    ⟨u7 6 dd J J,
    ⟨kx 19 3 23 7 J J J (yC Oy (D J) (D J)),
    aM⟩⟩⟩⟩⟩⟩⟩⟩⟩ ?_
   refine aG<|jz h J (fun h=>?_) (fun h=>?_)
   ·exact a8<|bA<|bS<|ei<|av<|ei<|so h▸aN J J
   ·refine bE<|dW V hN J ?_;exact bj (aV (ih (i+1) ⟨dQ V,h⟩) (bo J))

def XT p y{R}(h:pU p y=some R):dJ aY 63 [d8 (be) p,d8 (be) y] (gI R):=by
 exact eX Tryz.func63 J<|a8<|bA<|br<|aB J<|aS J<|iw h aay (SD _ _) (ea J) fun r h=>bq J<|so h▸aN J J

def X2 a1 b{R}(h:o0 a1 b=some R):dJ aY 31 [tD cx a1,tD cx b] (gI R):=by
 refine eX Tryz.func31 J<|a8<|eZ J<|eZ J<|bA<|br<|a8<|rP oG ft J<|bG wl oE HM J<|rP oG ft J<|bG wl oE HM J<|iw h aaz (SE _ _ _) ⟨(D J),(D J),(Sp acD fun x y h=>XT _ _ h),aM⟩ fun r h=>aZ J<|a8<|rP E1 rZ J ?_;refine fi b9 J<|bG E1 rZ b9 J<|s (d9 (D J) (D J))<|aS J<|ai J (cj Ix ux J J)<|ai J (ce qY J J)<|ai J (cj Ix ux J J)<|ai J (ce qY J J)<|ai J (fun H=>d9 (bL J H) (bL J H))<|c8 J<|aS J<|ai J (cj zX oy J J)<|ai J (ce pt J J)<|ai J (cj zX oy J J)<|ai J (ce pt J J)<|ai J (fun H=>d9 (bL J H) (bL J H))<|c8 J<|aS J<|ai J (cj zW qj J J)<|ai J (ce pt J J)<|ai J (cj zW qj J J)<|ai J (ce pt J J)<|ai J (fun H=>d9 (bL J H) (bL J H)) ?_;refine c8 J<|aS J<|ai J (cj oG ft J J)<|ai J (fun H=>gB wk J oD J (bL J H))<|ai J (ce Ad J J)<|ai J (cj oG ft J J)<|ai J (fun H=>gB wk J oD J (bL J H))<|ai J (ce Ad J J)<|ai J (fun H=>Dm Ga (bL J H) (bL J H))<|c8 J<|aS J<|ai J (cj oG ft J J)<|ai J (fun H=>gB xX J pW J (bL J H))<|ai J (ce pt J J)<|ai J (cj oG ft J J)<|ai J (fun H=>gB xX J pW J (bL J H))<|ai J (ce pt J J)<|ai J (fun H=>d9 (bL J H) (bL J H))<|c8 J<|aS J<|ai J (du J)<|c8 J<|hE J<|aX ?_;exact aG<|qU<|so h▸aN J J

def MG s1 s2{R}(h:il s1 s2=some R):dJ aY 66 [pi s1,pi s2] (gI R):=by
 refine eX Tryz.func66 J<|a8<|bA<|br<|bm<|aS J<|cw fx J<|aS J<|cw fx J<|s (kD (D J) (D J))<|cZ h J (fun h=>?_) (fun h=>?_)
 ·exact a8<|bA<|bS<|av<|so h▸aN J J
 ·refine jg<|bm<|aS J<|cw fx J<|s (bQ hI)<|br<|aA<|bt (k:=11) J fun hN=>bN ?_;refine aV (fv (tV:=fun ls i=>(s1.drop i=ls)/\jY s2 ls i=some R) (Of:=fun _ i=>[]) (Gf:=fun _ i=>[(0,pi s1),(1,pi s2),(12,nz s1),(13,bC (i:Int))]) (fun i h=>?_) (fun e tl ih i h=>?_) s1 0 ⟨J,h⟩) (bo J)
  ·obtain⟨V,h⟩:=h
   exact fm V J<|aG<|a8<|bA<|bS<|so h▸aN J J
  ·obtain⟨V,h⟩:=h
   refine fj V J<|aT<|aA<|aB J<|aZ J<|aT<|bM h fun e1 q_e1 h=>?_
   refine kM (ts:=[_,_,_,_,_,_,_,_,_]) mixed J J
    ⟨iy J J,
    ⟨iy J J,
    ⟨kx 16 0 17 1 J J J (Nt fx b9 J J J (eF V)),
    ⟨u7 2 b9 J J,
    ⟨iy J J,
    ⟨iy J J,
    ⟨kx 20 4 21 5 J J J (Nt fx b9 J J J q_e1),
    ⟨u7 6 b9 J J,
    ⟨kx 19 3 23 7 J J J (kD (D J) (D J)),
    aM⟩⟩⟩⟩⟩⟩⟩⟩⟩ ?_
   refine aG<|jz h J (fun h=>?_) (fun h=>?_)
   ·exact a8<|bA<|bS<|ei<|av<|ei<|so h▸aN J J
   ·refine bE<|dW V hN J ?_;exact bj (aV (ih (i+1) ⟨dQ V,h⟩) (bo J))

def XR s1 s2{R}(h:hM s1 s2=some R):dJ aY 67 [d8 (iA) s1,d8 (iA) s2] (gI R):=by
 refine eX Tryz.func67 J<|a8<|bA<|br<|bm<|aS J<|cw yT J<|aS J<|cw yT J<|s (kD (D J) (D J))<|cZ h J (fun h=>?_) (fun h=>?_)
 ·exact a8<|bA<|bS<|av<|so h▸aN J J
 ·refine jg<|bm<|aS J<|cw yT J<|s (bQ hI)<|br<|aA<|bt (k:=11) J fun hN=>bN ?_;refine aV (fv (tV:=fun ls i=>(s1.drop i=ls)/\gj s2 ls i=some R) (Of:=fun _ i=>[]) (Gf:=fun _ i=>[(0,d8 (iA) s1),(1,d8 (iA) s2),(12,nz s1),(13,bC (i:Int))]) (fun i h=>?_) (fun e tl ih i h=>?_) s1 0 ⟨J,h⟩) (bo J)
  ·obtain⟨V,h⟩:=h
   exact fm V J<|aG<|a8<|bA<|bS<|so h▸aN J J
  ·obtain⟨V,h⟩:=h
   refine fj V J<|aT<|aA<|aB J<|aZ J<|aT<|bM h fun e1 q_e1 h=>?_
   refine kM (ts:=[_,_,_,_,_,_,_,_,_]) mixed J J
    ⟨iy J J,
    ⟨iy J J,
    ⟨kx 16 0 17 1 J J J (Nt yT td J J J (eF V)),
    ⟨u7 2 td J J,
    ⟨iy J J,
    ⟨iy J J,
    ⟨kx 20 4 21 5 J J J (Nt yT td J J J q_e1),
    ⟨u7 6 td J J,
    ⟨kx 19 3 23 7 J J J (yC aaq (D J) (D J)),
    aM⟩⟩⟩⟩⟩⟩⟩⟩⟩ ?_
   refine aG<|jz h J (fun h=>?_) (fun h=>?_)
   ·exact a8<|bA<|bS<|ei<|av<|ei<|so h▸aN J J
   ·refine bE<|dW V hN J ?_;exact bj (aV (ih (i+1) ⟨dQ V,h⟩) (bo J))

def Vn s1 s2{R}(h:fV s1 s2=some R):dJ aY 119 [d8 (bD) s1,d8 (bD) s2] (gI R):=by
 refine eX Tryz.func119 J<|a8<|bA<|br<|bm<|aS J<|cw sq J<|aS J<|cw sq J<|s (kD (D J) (D J))<|cZ h J (fun h=>?_) (fun h=>?_)
 ·exact a8<|bA<|bS<|av<|so h▸aN J J
 ·refine jg<|bm<|aS J<|cw sq J<|s (bQ hI)<|br<|aA<|bt (k:=11) J fun hN=>bN ?_;refine aV (fv (tV:=fun ls i=>(s1.drop i=ls)/\fa s2 ls i=some R) (Of:=fun _ i=>[]) (Gf:=fun _ i=>[(0,d8 (bD) s1),(1,d8 (bD) s2),(12,nz s1),(13,bC (i:Int))]) (fun i h=>?_) (fun e tl ih i h=>?_) s1 0 ⟨J,h⟩) (bo J)
  ·obtain⟨V,h⟩:=h
   exact fm V J<|aG<|a8<|bA<|bS<|so h▸aN J J
  ·obtain⟨V,h⟩:=h
   refine fj V J<|aT<|aA<|aB J<|aZ J<|aT<|bM h fun e1 q_e1 h=>?_
   refine kM (ts:=[_,_,_,_,_,_,_,_,_]) mixed J J
    ⟨iy J J,
    ⟨iy J J,
    ⟨kx 16 0 17 1 J J J (Nt sq jx J J J (eF V)),
    ⟨u7 2 jx J J,
    ⟨iy J J,
    ⟨iy J J,
    ⟨kx 20 4 21 5 J J J (Nt sq jx J J J q_e1),
    ⟨u7 6 jx J J,
    ⟨kx 19 3 23 7 J J J (yC aap (D J) (D J)),
    aM⟩⟩⟩⟩⟩⟩⟩⟩⟩ ?_
   refine aG<|jz h J (fun h=>?_) (fun h=>?_)
   ·exact a8<|bA<|bS<|ei<|av<|ei<|so h▸aN J J
   ·refine bE<|dW V hN J ?_;exact bj (aV (ih (i+1) ⟨dQ V,h⟩) (bo J))

def MF a1 b{R}(h:sX a1 b=some R):dJ aY 69 [tD cU a1,tD cU b] (gI R):=by
 exact eX Tryz.func69 J<|a8<|eZ J<|eZ J<|bA<|br<|a8<|bG rq kS BG J<|bG rq kS BG J<|iw h abR (Vn _ _) (ea J) fun r h=>bq J<|so h▸aN J J

def XQ p q{R}(h:py p q=some R):dJ aY 68 [tD fI p,tD fI q] (gI R):=by
 refine eX Tryz.func68 J<|a8<|eZ J<|eZ J<|bA<|br<|a8<|bG pc mJ b9 J<|bG pc mJ b9 J<|s (d9 (D J) (D J))<|aS J<|bM h fun t q_t h=>ai J (cj sJ qN J J)<|ai J (ce kY J J)<|ai J (cj sJ qN J J)<|ai J (ce kY J J) ?_
 obtain⟨r,h1t,h0t⟩:=og q_t
 have q_rg:=fun K=>(h1t K).1
 exact ai J (fun H=>db YJ (MF _ _ (q_rg H)) ⟨(bL J H),(bL J H),aM⟩)<|s (de (D J) (fun K=>(bL J K)) (fun K=>(h1t K).2) h0t)<|bq J<|so h▸aN J J

def XP s1 s2 eq{R}(h:dp s1 s2 eq=some R):dJ aY 70 [d8 (fI) s1,d8 (fI) s2,(lF aY TL pN (fun(x:eS×eS)=>eq x.1 x.2))] (gI R):=by
 refine eX Tryz.func70 J<|a8<|bA<|br<|bm<|aS J<|cw qr J<|aS J<|cw qr J<|s (kD (D J) (D J))<|cZ h J (fun h=>?_) (fun h=>?_)
 ·exact a8<|bA<|bS<|av<|so h▸aN J J
 ·refine jg<|bm<|aS J<|cw qr J<|s (bQ hI)<|br<|aA<|bt (k:=15) J fun hN=>bN ?_;refine aV (fv (tV:=fun ls i=>(s1.drop i=ls)/\da s2 eq ls i=some R) (Of:=fun _ i=>[]) (Gf:=fun _ i=>[(1,d8 (fI) s2),(2,(lF aY TL pN (fun(x:eS×eS)=>eq x.1 x.2))),(15,d8 (fI) s1),(16,nz s1),(17,bC (i:Int))]) (fun i h=>?_) (fun e tl ih i h=>?_) s1 0 ⟨J,h⟩) (bo J)
  ·obtain⟨V,h⟩:=h
   exact fm V J<|aG<|a8<|bA<|bS<|so h▸aN J J
  ·obtain⟨V,h⟩:=h
   refine fj V J<|aT<|aA<|aB J<|fQ qr kN J (eF V)<|bw kN uI J fun b=>hE J<|bv kN ax J<|bf 8 J<|br<|aT ?_;refine aw<|aS J<|aS J<|bM h fun e1 q_e1 h=>fQ qr kN J q_e1<|bw kN uI J fun b1=>bv kN ax J<|bf 9 J<|br<|aB J<|fi kN J<|fi kN J<|bM h fun r q_r h=>s (lH (args:=TL) (res:=Aw) (f:=(fun(x:eS×eS)=>eq x.1 x.2)) (x:=((e,e1):eS×eS)) (D J) q_r ⟨(D J),(D J),aM⟩)<|s (gG (D J))<|cZ h J (fun h=>?_) (fun h=>?_)
   ·exact a8<|bA<|bS<|ei<|av<|ei<|so h▸aN J J
   ·refine bE<|dW V hN J ?_;exact bj (aV (ih (i+1) ⟨dQ V,h⟩) (bo J))

end Go.Proofs.YtdohlidddcgfjaaGreat

