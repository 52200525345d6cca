/- eJ of this claim: P1. -/
import Derived.Test.YtpgjgkdpeagjbaaGreatDoorJaT
import Derived.Test.YtpgjgkdpeagjbaaGreatDoorJaP0
set_option linter.all false
namespace Go.Proofs.YtpgjgkdpeagjbaaGreatDoor
open Go
set_option maxRecDepth 100000

def QH e{R}(h:uc e=some R):bY aU 92 [tD cm e] (bD R):=by
 refine co Tryz.func92 J<|Z<|bO J<|bh<|bB<|aE<|bn jk J<|bS h afk (Zd _) (bj J) fun r h=>Q J<|bv J J<|bv J J<|dC J<|aC J<|ax J<|T (dY (Y J)) ?_;refine bE h J (fun h=>?_) (fun h=>?_)
 ·exact Z<|cd<|af<|so h▸av J J
 ·exact dZ<|Z<|cd<|so h▸av J J

def act(l:Option Nat)(c:Nat) s{R}(h:lV s=some R):ea aU 147 [my l c s] [ff cI 3 l c s] (fun i:OI=>my (i.h 0).1 (i.h 0).2 R) (fun i=>[ff cI 3 (i.h 0).1 (i.h 0).2 R]):=by
 refine ea.of Tryz.func147 J J J fun w0 S0=>Z<|bQ false cI 3<|T (bp qa)<|bB<|aE<|Q J<|T (fO fz (.tail _ (.head _)) (Y J))<|T (du (Y J) hI)<|bE h J (fun h=>?_) (fun h=>?_)
 ·exact ax J<|aM J<|af<|aG<|so h▸pt J (oi l c) J J (fun _ _ h=>h)
 ·refine dZ<|aE<|bh<|bB<|am<|o7 (.tail _ (.head _)) fun hN=>bA<|mI ?_;refine aD (eI (aF:=fun ls i=>(s.drop i=ls)/\gz s ls i=some R) (Of:=fun _ i=>[ff cI 3 l c s]) (Gf:=fun _ i=>[(0,my l c s),(3,bD (i:Int))]) (fun i h=>?_) (fun e tl ih i h=>?_) (s.drop (1)) 1 ⟨J,h⟩) (bf J)
  ·obtain⟨V,h⟩:=h
   exact cU<|aE<|Q J<|Q J<|T (fO fz (.head _) (Y J))<|kw J<|bB<|pr (Y J) (KG V)<|d7<|aH<|aH<|cF<|ap<|ax J<|aM J<|so h▸pt J (oi l c) J J (fun _ _ h=>h)
  ·obtain⟨V,h⟩:=h
   refine cU<|aE<|Q J<|Q J<|T (fO fz (.head _) (Y J))<|kw J<|bB<|pq (Y J) (Iy V)<|dZ<|aA<|am<|aA<|ci h fun e1 q_e1 h=>?_
   refine iQ (ts:=[_,_,_,_,_,_,_,_,_,_]) mixed J J
    ⟨dc J J,
    ⟨dc J J,
    ⟨cM 16 0 17 1 J J J (cn fz cj (.head _) (Y J) (Y J) (cD V)),
    ⟨cT 18 2 J J (eE (r:=cI) (i:=(i:Int)) (foff:=0) cj J J bz J (.head _) (cD V) (Y J)),
    ⟨dc J J,
    ⟨dc J J,
    ⟨cT 21 5 J J (dX (Y J) hI),
    ⟨cM 20 4 22 6 J J J (cn fz cj (.head _) (Y J) (Y J) q_e1),
    ⟨cT 23 7 J J (eE (r:=cI) (i:=(IntKind.i64.wrap ((i:Int)-(1:Int)))) (foff:=0) cj J J bz J (.head _) q_e1 (Y J)),
    ⟨cM 19 3 24 8 J J J (iK (Y J) (Y J)),
    O⟩⟩⟩⟩⟩⟩⟩⟩⟩⟩ ?_
   refine ap<|gp h J (fun h=>?_) (fun h=>?_)
   ·refine ax J<|Q J<|ci h fun y q_y h=>T (qq fz cj J (.head _) (Y J) (Y J) q_y)<|o5 (.head _) q_y fun hv=>aC J<|aE<|bh<|bB<|am<|bA ?_;refine aD (Ez (aF:=fun k1 i1 s1 k=>(y.length-i1=k1)/\fI i y k1 i1 s1 k=some R) (Of:=fun _ i1 s1 k=>[ff cI 3 l c s1]) (Gf:=fun _ i1 s1 k=>[(0,my l c s1),(3,bD k),(4,tV (qU 1 l c (i:Int).toNat y.length)),(5,bD (i1:Int))]) (fun i1 s1 k h=>?_) (fun k2 ih1 i1 s1 k h=>?_) (y.length-1) 1 s (i:Int) ⟨J,h⟩) (bf J)
    ·obtain⟨hx1,h⟩:=h
     refine cU<|aE<|Q J<|Q J<|T (Gx fz hv.1 (Y J))<|kw J<|bB<|pr (Y J) (TK hx1)<|d7<|aH<|aH<|cF<|ap<|ax J<|Q J<|ci h fun y1 q_y1 h=>T (qq fz cj J (.head _) (Y J) (Y J) q_y1)<|o5 (.head _) q_y1 fun hv1=>ci h fun cl q_cl h=>?_;exact KQ cj J J fz (fun _=>J) J q_y1 (Y J) (so q_cl)<|g9 (Bv q_y1 (so q_cl)) 0 J<|g9 (Bv q_y1 (so q_cl)) 54 J<|bB<|ax J<|Q J<|ci h fun y2 q_y2 h=>T (mj fz cj J (.head _) (Y J) (Y J) q_y2)<|xJ q_y2<|aM J<|bT<|af<|bT<|so h▸pt J (oi l c) J J (fun _ _ h=>h)
    ·obtain⟨hx1,h⟩:=h
     refine cU<|aE<|Q J<|Q J<|T (Gx fz hv.1 (Y J))<|kw J<|bB<|pq (Y J) (TJ hx1)<|dZ<|aA<|am<|aA<|ci h fun e3 q_e3 h=>ci h fun e4 q_e4 h=>?_
     refine iQ (ts:=[_,_,_,_,_,_,_,_,_,_]) mixed J J
      ⟨dc J J,
      ⟨dc J J,
      ⟨cM 35 0 36 1 J J J (pG fz cj J (.head _) (vN q_y) (Y J) (Y J) q_e3),
      ⟨cT 37 2 J J (eE (r:=cI) (i:=((i:Int)+(i1:Int))) (foff:=0) cj J J bz J (.head _) (t6 q_e3).2.2 (Y J)),
      ⟨dc J J,
      ⟨dc J J,
      ⟨cT 40 5 J J (dX (Y J) hI),
      ⟨cM 39 4 41 6 J J J (pG fz cj J (.head _) (vN q_y) (Y J) (Y J) q_e4),
      ⟨cT 42 7 J J (eE (r:=cI) (i:=((i:Int)+(IntKind.i64.wrap ((i1:Int)-(1:Int))))) (foff:=0) cj J J bz J (.head _) (t6 q_e4).2.2 (Y J)),
      ⟨cM 38 3 43 8 J J J (d6 (Y J) (Y J)),
      O⟩⟩⟩⟩⟩⟩⟩⟩⟩⟩ ?_
     refine ap<|gp h J (fun h=>?_) (fun h=>?_)
     ·refine ax J<|Q J<|Q J<|Q J<|ci h fun e5 q_e5 h=>T (pG fz cj J (.head _) (vN q_y) (Y J) (Y J) q_e5)<|T (eE (r:=cI) (i:=((i:Int)+(i1:Int))) (foff:=0) cj J J bz J (.head _) (t6 q_e5).2.2 (Y J))<|ci h fun e6 q_e6 h=>T (cn fz cj (.head _) (Y J) (Y J) q_e6)<|ci h fun st q_st h=>sD cj J ah J q_e6 (so q_st) (Y J) (Y J)<|g9 (li (so q_st)) 0 J<|g9 (li (so q_st)) 45 J<|bB<|au<|Q J<|T (eG (Y J) hI)<|dC J<|aY<|ay<|ap ?_;refine au<|Q J<|T (ut (Ma hx1 (XK hv.2)) (Y J) hI)<|dC J<|aY ?_;exact aR (aD (ih1 (i1+1) st (IntKind.i64.wrap (k+(1:Int))) ⟨L0 hx1,h⟩) (bf J))
     ·refine bc<|ay<|ap<|au<|Q J<|T (ut (Ma hx1 (XK hv.2)) (Y J) hI)<|dC J<|aY ?_;exact aR (aD (ih1 (i1+1) s1 k ⟨L0 hx1,h⟩) (bf J))
   ·refine bc<|lH V hN J ?_;exact aR (aD (ih (i+1) ⟨cH V,h⟩) (bf J))

def R0 e{R}(h:vW e=some R):fR aU 93 [tD cm e] false cI 3 R:=by
 refine fR.of Tryz.func93 J J J fun w0 S0=>Z<|bO J<|bQ false cI 3<|T (bp qa)<|bB<|aE<|bn jk J<|bS h acN (QH _) (bj J) fun r h=>eN J<|bE h J (fun h=>?_) (fun h=>?_)
 ·exact Z<|bQ false cI 3<|T (bp qa)<|cK<|af<|so h▸fY J J
 ·refine dZ<|Z<|bQ false cI 3<|T (bp qa)<|bB<|aE<|bg la gj uD J<|ck qC J<|T (cv hI)<|bB<|am<|aZ (k:=10) J fun hN=>bA<|fh<|mI ?_;refine aD (iR (aF:=fun ls i out l c=>(e.Nodes.drop i=ls)/\oU ls out=some R) (Of:=fun _ i out l c=>[ff cI 3 l c out]) (Gf:=fun _ i out l c=>[(3,my l c out),(10,cr (cx) e.Nodes),(11,kP e.Nodes),(12,bD (i:Int))]) (fun i out l c h=>?_) (fun e1 tl ih i out l c h=>?_) e.Nodes 0 BL none 0 ⟨J,h⟩) (bf J)
  ·obtain⟨V,h⟩:=h
   refine eY V J<|ap<|ax J<|ci h fun u9 q_srt h=>?_;refine WI (n:=out.length) (ys:=u9) JC ?_ afj ?_ ?_ ?_ ?_ ?_
   ·rfl
   ·exact q_srt
   ·exact(Y J)
   ·rfl
   ·rfl
   intro hl
   refine rt hl 3 J<|rt hl 25 J<|bB<|ax J<|ci h fun r1 q_r1 h=>Ex [ff cI 3 l c u9] _ J afi (act l c _ q_r1) ⟨(Y J),O⟩ J fun i1=>?_;refine(show RG _ _ _ _ [_] ((28,my (i1.h 0).1 (i1.h 0).2 r1)::_)from ?_);exact aM J<|so h▸fY J J
  ·obtain⟨V,h⟩:=h
   refine eX V J<|aA<|am<|Z<|cW qC nw J (cD V)<|aQ nw qc J fun b=>be nw ah J<|aV 5 J<|bB<|Z<|wV lX fc J ?_;refine bn cj J<|bP J<|bE h J (fun h=>?_) (fun h=>?_)
   ·refine au<|Q J<|bg qW i6 cj J<|T (aI (r:=cI) (ys:=[e1.Col]) (xs:=[.tmp 21]) fz cj J J J J J ⟨(Y J),O⟩)<|ci h fun out1 q_out1 h=>bW cj J J J J fz J J (Y J) (Y J) q_out1 fun l2 c2=>dC J<|aY<|dR V hN J ?_;exact aR (aD (ih (i+1) out1 l2 c2 ⟨cH V,h⟩) (bf J))
   ·refine bc<|dR V hN J ?_;exact aR (aD (ih (i+1) out l c ⟨cH V,h⟩) (bf J))
def Mq s{R}(h:dw s=some R):fR aU 55 [kq s] false cI 3 R:=by
 refine fR.of Tryz.func55 J J J fun w0 S0=>Z<|bQ false cI 3<|T (bp qa)<|bB<|aE<|Q J<|wI fz (Y J) J fun isnil hisnil=>bB<|rJ (Y J) (fun hc=>?_) (fun hc=>?_)
 ·have V:=hisnil hc
  have h:some BL=some R:=by simpa [dw,app,V] using h
  exact Z<|bQ false cI 3<|T (bp qa)<|cK<|af<|so h▸fY J J
 ·exact dZ<|Z<|mo (r:=cI) (ys:=BL) (xs:=[]) fz cj J J J J J trivial J fun l c=>Q J<|ci h fun x q_x h=>bW cj J J J J fz J J (Y J) (Y J) q_x fun l1 c1=>aM J<|so h▸fY J J
def VL s{R}(h:dw s=some R):bY aU 55 [kq s] (kq R):=(Mq _ h).spec

def adN{l:Option Nat}{c:Nat}{xs s:List Int}{lo:Int}{R}(hs:eS xs lo (xs.length:Int)=some s)(h:dw s=some R):ea aU 55 [tV (qU 1 l c lo.toNat s.length)] [ff cI 3 l c xs] (fun i:OI=>my (i.h 0).1 (i.h 0).2 R) (fun i=>[ff cI 3 (i.h 0).1 (i.h 0).2 R,ff cI 3 l c xs]):=by
 refine ea.of Tryz.func55 J J J fun w0 S0=>Z<|T (bp qa)<|bB<|aE<|Q J<|KO (r:=cI) fz (.head _) hs (Y J) J fun isnil hisnil=>bB<|rJ (Y J) (fun hc=>?_) (fun hc=>?_)
 ·have V:=hisnil hc
  have h:some BL=some R:=by simpa [dw,app,V] using h
  exact Z<|bQ false cI 3<|T (bp qa)<|cK<|af<|so h▸pt J (oi none 0) J J (fun _ _ h=>h)
 ·exact dZ<|Z<|mo (r:=cI) (ys:=BL) (xs:=[]) fz cj J J J J J trivial J fun l1 c1=>Q J<|ci h fun x q_x h=>IV cj J J J J fz J J (Y J) (.tail _ (.head _)) hs (Y J) q_x fun l2 c2=>aM J<|so h▸pt J (oi l2 c2) J J (fun _ _ h=>h)

def acm(b:Nat)(l:Option Nat)(c:Nat) stack k{R}(h:rF stack k=some R):ea aU 281 [bD k,tV (ba b 0)] [bx rV 39 b (bw l c stack.length),ff cI 3 l c stack] (fun i:OI=>kq R.1) (fun i=>[bx rV 39 b (bw (i.h 0).1 (i.h 0).2 R.2.length),ff cI 3 (i.h 0).1 (i.h 0).2 R.2]):=by
 refine ea.of Tryz.func281 J J J fun w0 S0=>Z<|dO cI<|bB<|Z<|T (jA eQ (.head _) (Y J))<|T (jA eQ (.head _) (Y J))<|T (fO fz (.tail _ (.head _)) (Y J))<|Q J<|T (dX (Y J) (Y J))<|ci h fun y q_y h=>T (qq fz cj J (.tail _ (.head _)) (Y J) (Y J) q_y)<|o5 (.tail _ (.head _)) q_y fun hv=>bu<|ci h fun r q_r h=>Ex [ff cI 3 l c stack] _ J Wh (adN q_y q_r) ⟨(Y J),O⟩ J fun i=>?_;refine(show RG _ _ _ _ [_,_,_] _ from ?_);refine aC J<|Z<|T (jA eQ (.tail _ (.tail _ (.head _))) (Y J))<|T (jA eQ (.tail _ (.tail _ (.head _))) (Y J))<|T (fO fz (.tail _ (.head _)) (Y J))<|Q J<|T (dX (Y J) (Y J))<|ci h fun y1 q_y1 h=>T (mj fz cj J (.tail _ (.head _)) (Y J) (Y J) q_y1)<|bu<|xJ q_y1<|gk<|dA eQ J ah J (Y J) (Uz (Y J))<|bB<|ax J<|aC J ?_;exact fD<|aP<|dU<|bN 3 J<|bN 11 J<|bN 4 J<|bN 18 J<|dQ 3 J<|aG<|bK<|bK<|so h▸pt J (oi l c) J J (fun _ _ h=>h)

def Yq e do1{R}(h:rp e do1=some R):bY aU 244 [tD cm e,(fL aU Xf Xe (fun(x:bZ×(List Int))=>do1 x.1 x.2))] (tT [bD R.1,bD R.2]):=by
 refine co Tryz.func244 J<|Z<|bO J<|bh<|bh<|bB<|Pw<|Z<|bQ false cI 3<|aQ (x:=bw none 0 0) eQ (fun _=>HJ) J fun b=>bB<|Z<|bh<|bB<|Z<|T (Og (cts:=[tV (ba b 0)]) (caps:=[.tmp 6]) ⟨(Y J),O⟩)<|dC J ?_;refine bB<|Z<|bh<|bB<|aA<|Px<|ap<|aE<|bg la gj uD J<|ck qC J<|T (cv hI)<|bB ?_;refine KZ (aF:=fun bad stack l c=>n8 bad stack=some R) (Of:=fun bad stack l c=>[bx rV 39 b (bw l c stack.length),ff cI 3 l c stack]) (Gf:=fun bad stack l c=>[(6,tV (ba b 0)),(7,bD 0),(9,bD bad)]) (fun bad stack l c h=>?_) (fun h2=>?_)
 ·skip
  refine ap<|aE<|Q J<|eN J<|bE h J (fun h=>?_) (fun h=>?_)
  ·exact ax J<|Q J<|dC J<|aM J<|af<|BD<|aG<|aG<|so h▸bH J J J
  ·exact dZ<|Z<|T (jA eQ (.head _) (Y J))<|ci h fun e1 q_e1 h=>T (cn fz cj (.tail _ (.head _)) (Y J) hI q_e1)<|T (eE (r:=cI) (i:=(0:Int)) (foff:=0) cj J J bz J (.tail _ (.head _)) q_e1 (Y J))<|dC J<|cd<|BD<|aG<|aG<|so h▸bH J J J
 ·skip
  refine aZ (k:=16) J fun hN=>bA ?_;refine aD (lQ (aF:=fun ls i bad1 stack1 l1 c1=>(e.Nodes.drop i=ls)/\jC do1 ls bad1 stack1=some R) (Of:=fun _ i bad1 stack1 l1 c1=>[bx rV 39 b (bw l1 c1 stack1.length),ff cI 3 l1 c1 stack1]) (Gf:=fun _ i bad1 stack1 l1 c1=>[(1,(fL aU Xf Xe (fun(x:bZ×(List Int))=>do1 x.1 x.2))),(6,tV (ba b 0)),(7,bD 0),(8,tC 281 [tV (ba b 0)]),(9,bD bad1),(16,cr (cx) e.Nodes),(17,kP e.Nodes),(18,bD (i:Int))]) (fun i bad1 stack1 l1 c1 h=>?_) (fun e2 tl ih i bad1 stack1 l1 c1 h=>?_) e.Nodes 0 (0:Int) BL none 0 ⟨J,h⟩) (bf J)
  ·obtain⟨V,h⟩:=h
   refine eY V J ?_;exact ce (h2 bad1 stack1 l1 c1 h) (bf J)
  ·obtain⟨V,h⟩:=h
   refine eX V J<|aA<|am<|Z<|cW qC nw J (cD V)<|aQ nw qc J fun b1=>be nw ah J<|aV 11 J<|bB<|aA<|ci h fun r q_r h=>ci h fun r1 q_r1 h=>?_;refine ci h fun r2 q_r2 h=>?_
   refine lS 12 [tc ((fL aU Xf Xe (fun(x:bZ×(List Int))=>do1 x.1 x.2))),tc (tD cx e2),tc (tC 281 [tV (ba b 0)]),tc (bF cI e2.Tag),tc (bD e2.Tag),tc (bD r),tc (kq r1.1),tc (tT [bD r2.1,bD r2.2]),tc (tT [bD r2.1,bD r2.2]),tc (bD r2.1),tc (bD r2.2),tc (bD r2.1)] [false,false,false,false,false,false,true,false,false,false,false,false] [([],fun _=>[bx rV 39 b (bw l1 c1 stack1.length),ff cI 3 l1 c1 stack1]),([6],fun sg=>[bx rV 39 b (bw ((sg 6).h 0).1 ((sg 6).h 0).2 r1.2.length),ff cI 3 ((sg 6).h 0).1 ((sg 6).h 0).2 r1.2])] (fun _=>J) mixed J J J J
    ⟨⟨[⟨1,fun _=>(fL aU aa4 aa2 (fun(x:bZ×(List Int))=>do1 x.1 x.2)),none⟩],_,[[],[6]],J,⟨(fun _=>J),O⟩,J,J,J,J,J,⟨fun sg=>ai J (gL J),fun sg=>ai J (gL J),O⟩⟩,
    ⟨⟨[⟨11,fun _=>bF cx e2,none⟩],_,[[],[6]],J,⟨(fun _=>J),O⟩,J,J,J,J,J,⟨fun sg=>ai J (nE nw J J),fun sg=>ai J (nE nw J J),O⟩⟩,
    ⟨⟨[⟨8,fun _=>tC 281 [tV (ba b 0)],none⟩],_,[[]],J,⟨(fun _=>J),O⟩,J,J,J,J,J,⟨fun sg=>ai J (gL J),O⟩⟩,
    ⟨⟨[⟨11,fun _=>bF cx e2,none⟩],_,[[]],J,⟨(fun _=>J),O⟩,J,J,J,J,J,⟨fun sg=>ai J (ic lX fc J J),O⟩⟩,
    ⟨⟨[⟨26,fun _=>bF cI e2.Tag,some 3⟩],_,[[]],J,⟨(fun _=>J),O⟩,J,J,J,J,J,⟨fun sg=>ai J (nE cj J J),O⟩⟩,
    ⟨⟨[⟨27,fun _=>tD cI e2.Tag,some 4⟩],_,[[]],J,⟨(fun _=>J),O⟩,J,J,J,J,J,⟨fun sg=>ai J (bo SW (GK _ q_r) ⟨(Y J),O⟩),O⟩⟩,
    ⟨⟨[⟨25,fun _=>tC 281 [tV (ba b 0)],some 2⟩,⟨28,fun _=>tD cI r,some 5⟩],_,[([],[6])],J,⟨(fun _=>J),(fun _=>J),O⟩,J,J,J,J,J,⟨fun sg=>dS J (EffOK.fr1 (EffOK.fr1 (E8 (xs:=[.tmp 28]) (ts:=[tD cI r]) (cts:=[tV (ba b 0)]) [bx rV 39 b (bw l1 c1 stack1.length),ff cI 3 l1 c1 stack1] _ J aei (acm b l1 c1 _ _ q_r1) (Y J) ⟨(Y J),O⟩ (fun _=>J)))),O⟩⟩,
    ⟨⟨[⟨23,fun _=>(fL aU aa4 aa2 (fun(x:bZ×(List Int))=>do1 x.1 x.2)),some 0⟩,⟨24,fun _=>tD cx e2,some 1⟩,⟨29,fun _=>tD Ak r1.1,some 6⟩],_,[[6]],J,⟨(fun _=>J),(fun _=>J),(fun _=>J),O⟩,J,J,J,J,J,⟨fun sg=>ai J (jV (args:=aa4) (res:=aa2) (f:=(fun(x:bZ×(List Int))=>do1 x.1 x.2)) (x:=((e2,r1.1):bZ×(List Int))) (Y J) q_r2 ⟨(Y J),(Y J),O⟩),O⟩⟩,
    ⟨⟨[⟨30,fun _=>tT [tD cI r2.1,tD cI r2.2],some 7⟩],_,[[6]],J,⟨(fun _=>J),O⟩,J,J,J,J,J,⟨fun sg=>ai J (gL J),O⟩⟩,
    ⟨⟨[⟨22,fun _=>tT [tD cI r2.1,tD cI r2.2],some 8⟩],_,[[6]],J,⟨(fun _=>J),O⟩,J,J,J,J,J,⟨fun sg=>ai J (vo J J),O⟩⟩,
    ⟨⟨[⟨22,fun _=>tT [tD cI r2.1,tD cI r2.2],some 8⟩],_,[[6]],J,⟨(fun _=>J),O⟩,J,J,J,J,J,⟨fun sg=>ai J (vo J J),O⟩⟩,
    ⟨⟨[⟨31,fun _=>tD cI r2.1,some 9⟩],_,[[6]],J,⟨(fun _=>J),O⟩,J,J,J,J,J,⟨fun sg=>ai J (sE J),O⟩⟩,
    O⟩⟩⟩⟩⟩⟩⟩⟩⟩⟩⟩⟩ (fun sg=>?_)
   refine(show RG _ _ _ _ [_,_] _ from ?_);refine aC J<|aE<|Q J<|eN J<|bE h J (fun h=>?_) (fun h=>?_)
   ·refine ax J<|aC J<|d7<|aH<|dd J<|aH<|aH<|cF ?_;exact ce (h2 r2.2 r1.2 ((sg 6).h 0).1 ((sg 6).h 0).2 h) (bf J)
   ·refine dZ<|au<|T (jA eQ (.head _) (Y J))<|Q J<|T (aI (r:=cI) (ys:=[r2.1]) (xs:=[.tmp 37]) fz cj J J J J J ⟨(Y J),O⟩)<|bu<|ci h fun l2 q_l2 h=>bW cj J J J J fz J J (Y J) (Y J) q_l2 fun l3 c2=>bu<|dA eQ J ah J (Y J) (Uz (Y J))<|aY<|dR V hN J ?_;exact aR (aD (ih (i+1) bad1 l2 l3 c2 ⟨cH V,h⟩) (bf J))

def Yo tag{R}(h:zM tag=some R):bY aU 246 [bD tag] (gM R):=by
 exact co Tryz.func246 J<|Z<|ca<|bB<|ax J<|bP J<|Q J<|aO J (cG J)<|aO J (fun H=>eF (bG J H) hI)<|aO J (mJ J)<|cB J J J J (fun H=>gL J)<|cB J J J J (fun H=>jm (bG J H) hI)<|aO J (fun H=>gG (bG J H) (fun M=>(bG J (nC H M))))<|fj J<|aM J<|so h▸av J J

def Yp kinds n l{R}(h:lb kinds n l=some R):bY aU 245 [tD cx n,kq l,bF sH kinds] (tT [bD R.1,bD R.2]):=by
 refine co Tryz.func245 J<|Z<|bO J<|bh<|bh<|bB<|Z<|bh<|bB<|aE<|Q J<|ck fz J<|T (cv hI)<|bB<|am<|aZ (k:=12) J fun hN=>bA ?_;refine aD (ol (aF:=fun ls i own=>(l.drop i=ls)/\oa kinds n ls own=some R) (Of:=fun _ i own=>[]) (Gf:=fun _ i own=>[(2,bF sH kinds),(3,bF cx n),(7,bD own),(12,kq l),(13,kP l),(14,bD (i:Int))]) (fun i own h=>?_) (fun e tl ih i own h=>?_) l 0 (0:Int) ⟨J,h⟩) (bf J)
 ·obtain⟨V,h⟩:=h
  refine eY V J<|ap<|ax J<|aC J<|Z<|bh<|bB ?_;refine aA<|am<|Z<|bg lX fc cj J<|bP J<|aC J<|gp h J (fun h=>?_) (fun h=>?_)
  ·exact Z<|wV wB mE J<|bg cY bC cj J<|dC J<|cd<|bT<|so h▸bH J J J
  ·refine Z<|bg lX fc cj J<|bP J<|aC J<|gp h J (fun h=>?_) (fun h=>?_)
   ·exact Z<|bn eQ J<|bg qW i6 cj J<|ci h fun e1 q_e1 h=>cW fz cj J q_e1<|dC J<|cd<|bT<|so h▸bH J J J
   ·refine Z<|bg lX fc cj J<|bS h aes (Yo _) (bj J) fun r h=>aC J<|gp h J (fun h=>?_) (fun h=>?_)
    ·refine au<|bh<|bh<|aY<|ay<|ap<|aE<|Q J<|bP J<|Q J<|aO J (cG J)<|aO J (sK J)<|aO J (mJ J)<|cB J J J J (fun H=>gL J)<|cB J J J J (fun H=>gL J)<|cB J J J J (fun H=>d6 (bG J H) (bG J H))<|aO J (fun H=>gG (bG J H) (fun M=>(bG J (nC H M))))<|fj J<|bE h J (fun h=>?_) (fun h=>?_)
     ·exact Z<|bh<|cd<|af<|so h▸bH J J J
     ·exact dZ<|ax J<|dC J<|cd<|so h▸bH J J J
    ·refine Z<|bg lX fc cj J<|bP J<|Q J<|aO J (cZ lX fc J J)<|aO J (cN cj J J)<|aO J (fV J)<|fj J<|Q J<|aO J (cZ lX fc J J)<|aO J (cN cj J J)<|aO J (fV J)<|fj J<|aC J<|gp h J (fun h=>?_) (fun h=>?_)
     ·refine au<|bh<|aY<|ay<|ap<|aE<|Q J<|bP J<|Q J<|aO J (cG J)<|aO J (sK J)<|aO J (mJ J)<|cB J J J J (fun H=>gL J)<|cB J J J J (fun H=>gL J)<|cB J J J J (fun H=>d6 (bG J H) (bG J H))<|aO J (fun H=>gG (bG J H) (fun M=>(bG J (nC H M))))<|fj J<|bE h J (fun h=>?_) (fun h=>?_)
      ·exact Z<|bh<|cd<|af<|so h▸bH J J J
      ·exact dZ<|ax J<|dC J<|cd<|so h▸bH J J J
     ·refine bc<|ay<|ap<|aE<|Q J<|bP J<|Q J<|aO J (cG J)<|aO J (sK J)<|aO J (mJ J)<|cB J J J J (fun H=>gL J)<|cB J J J J (fun H=>gL J)<|cB J J J J (fun H=>d6 (bG J H) (bG J H))<|aO J (fun H=>gG (bG J H) (fun M=>(bG J (nC H M))))<|fj J<|bE h J (fun h=>?_) (fun h=>?_)
      ·exact Z<|bh<|cd<|af<|so h▸bH J J J
      ·exact dZ<|ax J<|dC J<|cd<|so h▸bH J J J
 ·obtain⟨V,h⟩:=h
  refine eX V J<|aA<|am<|Z<|cW fz cj J (cD V)<|aC J<|am<|ax J<|bP J ?_;refine Q J<|aO J (cG J)<|aO J (cG J)<|aO J (fun H=>iK (bG J H) (bG J H))<|fj J<|aC J<|gp h J (fun h=>?_) (fun h=>?_)
  ·refine bc<|ay<|dR V hN J ?_;exact aR (aD (ih (i+1) own ⟨cH V,h⟩) (bf J))
  ·refine ax J<|bP J<|aC J<|gp h J (fun h=>?_) (fun h=>?_)
   ·refine au<|Q J<|dC J<|aY<|ay<|dR V hN J ?_;exact aR (aD (ih (i+1) e ⟨cH V,h⟩) (bf J))
   ·refine au<|bh<|aY<|ay<|dR V hN J ?_;exact aR (aD (ih (i+1) yM ⟨cH V,h⟩) (bf J))

def Mz e kinds{R}(h:vU e kinds=some R):bY aU 182 [tD cm e,kq kinds] (tT [bD R.1,bD R.2]):=by
 refine co Tryz.func182 J<|Z<|bO J<|bO J<|bh<|bh<|bB<|aE<|bn jk J<|bS h acN (QH _) (bj J) fun r h=>aC J<|ax J<|eN J<|bB ?_;refine gp h J (fun h=>?_) (fun h=>?_)
 ·exact ax J<|bh<|aM J<|af<|so h▸bH J J J
 ·refine dZ<|aE<|bn eQ J<|ck fz J<|T (cv hI)<|bB<|am<|aZ (k:=16) J fun hN=>bA ?_;refine aD (eI (aF:=fun ls i=>(kinds.drop i=ls)/\td e kinds ls=some R) (Of:=fun _ i=>[]) (Gf:=fun _ i=>[(2,bF cm e),(3,bF sH kinds),(16,kq kinds),(17,kP kinds),(18,bD (i:Int))]) (fun i h=>?_) (fun e1 tl ih i h=>?_) kinds 0 ⟨J,h⟩) (bf J)
  ·obtain⟨V,h⟩:=h
   refine eY V J<|ap<|aE<|bn jk J<|lI h ad7 (R0 _) (bj J) fun r1 h l c=>T (fO fz (.head _) (Y J))<|T (cv hI)<|bB<|am ?_;refine o7 (.head _) fun hN1=>bA ?_;refine aD (eI (aF:=fun ls1 i1=>(r1.drop i1=ls1)/\oT e kinds ls1=some R) (Of:=fun _ i1=>[ff cI 3 l c r1]) (Gf:=fun _ i1=>[(2,bF cm e),(3,bF sH kinds),(30,my l c r1),(31,kP r1),(32,bD (i1:Int))]) (fun i1 h=>?_) (fun e2 tl1 ih1 i1 h=>?_) r1 0 ⟨J,h⟩) (bf J)
   ·obtain⟨hx1,h⟩:=h
    refine eY hx1 J<|ap<|Z<|bn jk J<|T ((show cz _ _ _ _ ((fL aU Xf Xe (fun(x:bZ×(List Int))=>(lb kinds) x.1 x.2)))from kg (cts:=[bF sH kinds]) (caps:=[.tmp 3]) aet ⟨(Y J),O⟩ (fun x y h=>Yp _ _ _ h)))<|bS h aeu (Yq _ _) (bj J) fun r2 h=>bv J J<|bv J J<|dC J<|dC J<|aY ?_;exact ap<|fD<|aG<|so h▸bH J J J
   ·obtain⟨hx1,h⟩:=h
    refine eX hx1 J<|aA<|am<|Z<|T (cn fz cj (.head _) (Y J) (Y J) (cD hx1))<|T (eE (r:=cI) (i:=(i1:Int)) (foff:=0) cj J J bz J (.head _) (cD hx1) (Y J))<|aC J<|ax J<|bn eQ J<|ck fz J ?_;refine T (eF (Y J) (Y J))<|bE h J (fun h=>?_) (fun h=>?_)
    ·exact Z<|bh<|cd<|bT<|af<|bT<|aG<|so h▸bH J J J
    ·refine bc<|dR hx1 hN1 J ?_;exact aR (aD (ih1 (i1+1) ⟨cH hx1,h⟩) (bf J))
  ·obtain⟨V,h⟩:=h
   refine eX V J<|aA<|am<|Z<|cW fz cj J (cD V)<|aC J<|ax J<|T (du (Y J) hI)<|Q J ?_;refine aO J (cG J)<|aO J (fun H=>dy (bG J H) hI)<|fj J<|bE h J (fun h=>?_) (fun h=>?_)
   ·exact Z<|bh<|cd<|bT<|af<|bT<|so h▸bH J J J
   ·refine bc<|dR V hN J ?_;exact aR (aD (ih (i+1) ⟨cH V,h⟩) (bf J))

end Go.Proofs.YtpgjgkdpeagjbaaGreatDoor

