/- eJ of this claim: P19. -/
import Derived.Test.YtpgjgkdpeagjbaaGreatDoorJaT
import Derived.Test.YtpgjgkdpeagjbaaGreatDoorJaP18
set_option linter.all false
namespace Go.Proofs.YtpgjgkdpeagjbaaGreatDoor
open Go
set_option maxRecDepth 100000

def zp e r{R}(h:qm e r=some R):bY aU 111 [tD cm e,cr (ae) r] (tT [tD ae R.1,bD R.2]):=by
 refine co Tryz.func111 J<|Z<|bO J<|aQ an aL J fun b=>bh<|bB<|aE<|bn jk J<|bS h aaI (Sq _) (bj J) fun r1 h=>T (dY (Y J))<|bE h J (fun h=>?_) (fun h=>?_)
 ·exact Z<|T (bM an jg aL J)<|be an ah J<|cd<|af<|aB 4 J<|so h▸bq J J ⟨aT an J J J,aN J,O⟩
 ·refine dZ<|aE<|bg la gj uD J<|ck qC J<|T (cv hI)<|bB<|am<|aZ (k:=20) J fun hN=>bA ?_;refine aD (ol (aF:=fun ls i x=>(e.Nodes.drop i=ls)/\rf e r ls x=some R) (Of:=fun _ i x=>[bx ae 57 b x]) (Gf:=fun _ i x=>[(1,cr (ae) r),(2,bF cm e),(4,tV (ba b 0)),(20,cr (cx) e.Nodes),(21,kP e.Nodes),(22,bD (i:Int))]) (fun i x h=>?_) (fun e1 tl ih i x h=>?_) e.Nodes 0 vn ⟨J,h⟩) (bf J)
  ·obtain⟨V,h⟩:=h
   refine eY V J<|ap<|Z<|bQ false ae 57<|T (bp qa)<|bB<|aE<|bg la gj uD J ?_;refine ck qC J<|T (cv hI)<|bB<|am<|aZ (k:=48) J fun hN1=>bA ?_;refine aD (lQ (aF:=fun ls1 i1 own l c x1=>(e.Nodes.drop i1=ls1)/\dM r ls1 own x1=some R) (Of:=fun _ i1 own l c x1=>[ff ae 57 l c own,bx ae 57 b x1]) (Gf:=fun _ i1 own l c x1=>[(1,cr (ae) r),(4,tV (ba b 0)),(8,my l c own),(48,cr (cx) e.Nodes),(49,kP e.Nodes),(50,bD (i1:Int))]) (fun i1 own l c x1 h=>?_) (fun e2 tl1 ih1 i1 own l c x1 h=>?_) e.Nodes 0 EH none 0 x ⟨J,h⟩) (bf J)
   ·obtain⟨hx1,h⟩:=h
    refine eY hx1 J<|ap<|ax J<|Q J<|T (fO jE (.head _) (Y J))<|T (dX (Y J) hI)<|ci h fun e3 q_e3 h=>T (cn jE an (.head _) (Y J) (Y J) q_e3)<|T (eE (r:=ae) (i:=(IntKind.i64.wrap ((own.length:Int)-(1:Int)))) (foff:=0) an J J bz J (.head _) q_e3 (Y J))<|bu<|be an ah J ?_;exact cd<|aB 4 J<|aG<|so h▸bq J J ⟨aT an J J J,aN J,O⟩
   ·obtain⟨hx1,h⟩:=h
    refine eX hx1 J<|aA<|am<|Z<|cW qC nw J (cD hx1)<|aQ nw qc J fun b1=>be nw ah J<|aV 10 J<|bB<|Z<|wV lX fc J ?_;refine bn cj J<|bB<|am<|Z<|bP J<|aC J<|gp h J (fun h=>?_) (fun h=>?_)
    ·refine au<|Q J<|bg wB mE an J<|T (aI (r:=ae) (ys:=[e2.Value]) (xs:=[.tmp 93]) jE an J J J J J ⟨(Y J),O⟩)<|ci h fun own1 q_own1 h=>bW an J J J J jE J J (Y J) (Y J) q_own1 fun l1 c1=>dC J<|aY<|ay<|dR hx1 hN1 J ?_;exact aR (aD (ih1 (i1+1) own1 l1 c1 x1 ⟨cH hx1,h⟩) (bf J))
    ·refine Z<|bP J<|aC J<|gp h J (fun h=>?_) (fun h=>?_)
     ·refine au<|Q J<|Q J<|bg qW i6 cj J<|ci h fun e4 q_e4 h=>cW nD an J q_e4<|T (aI (r:=ae) (ys:=[e4]) (xs:=[.tmp 103]) jE an J J J J J ⟨(Y J),O⟩)<|ci h fun own2 q_own2 h=>bW an J J J J jE J J (Y J) (Y J) q_own2 fun l2 c2=>dC J<|aY<|ay<|dR hx1 hN1 J ?_;exact aR (aD (ih1 (i1+1) own2 l2 c2 x1 ⟨cH hx1,h⟩) (bf J))
     ·refine ax J<|bg E5 ua cj J<|ci h fun e5 q_e5 h=>T (cn jE an (.head _) (Y J) (Y J) q_e5)<|T (eE (r:=ae) (i:=e2.L) (foff:=0) an J J bz J (.head _) q_e5 (Y J))<|T (bM an jg aL J)<|aQ an aL J fun b2=>aQ an aL J fun b3=>bu<|be an ah J<|aV 11 J<|be an ah J<|bB ?_;refine fi (aF:=fun b4=>rh (dM r tl1) e2 own x1 e5 b4=some R) (Of:=fun b4=>[ff ae 57 l c own,bx ae 57 b x1,bx ae 57 b3 b4]) (Gf:=fun b4=>[(1,cr (ae) r),(4,tV (ba b 0)),(8,my l c own),(10,bF cx e2),(11,bF ae e5),(12,tV (ba b3 0)),(48,cr (cx) e.Nodes),(49,kP e.Nodes),(50,bD (i1:Int))]) (fun b4 h=>?_) (fun h2=>?_)
      ·skip
       refine Z<|bg lX fc cj J<|bn an J<|T (bR an J J bz (.tail _ (.tail _ (.head _))) (Y J))<|bS h ae5 (Y1 _ _ _) (bj J) fun r2 h=>Q J<|bv J J<|bv J J<|aQ an aL J fun b5=>be an ah J<|aV 13 J<|aC J<|aE<|Q J<|bP J<|bB ?_;refine gp h J (fun h=>?_) (fun h=>?_)
       ·exact Z<|T (bM an jg aL J)<|Q J<|bu<|be an ah J<|aM J<|af<|lq<|bT<|af<|bT<|aB 4 J<|aG<|aG<|so h▸bq J J ⟨aT an J J J,aN J,O⟩
       ·refine dZ<|aE<|Q J<|eN J<|bE h J (fun h=>?_) (fun h=>?_)
        ·exact Z<|T (bM an jg aL J)<|bu<|be an ah J<|cd<|af<|lq<|bT<|af<|bT<|aB 4 J<|aG<|aG<|so h▸bq J J ⟨aT an J J J,aN J,O⟩
        ·refine dZ<|au<|Q J<|bn an J<|T (aI (r:=ae) (ys:=[r2.1]) (xs:=[.tmp 86]) jE an J J J J J ⟨(Y J),O⟩)<|ci h fun own3 q_own3 h=>bW an J J J J jE J J (Y J) (Y J) q_own3 fun l3 c3=>dC J<|aY<|ay<|dR hx1 hN1 J<|aP<|aG ?_;exact aR (aD (ih1 (i1+1) own3 l3 c3 x1 ⟨cH hx1,h⟩) (bf J))
      ·skip
       refine Z<|bg AV qr cj J<|T (eF (Y J) hI)<|bE h J (fun h=>?_) (fun h=>?_)
       ·refine au<|Q J<|bg AV qr cj J<|ci h fun e6 q_e6 h=>T (cn jE an (.tail _ (.head _)) (Y J) (Y J) q_e6)<|T (eE (r:=ae) (i:=e2.R) (foff:=0) an J J bz J (.tail _ (.head _)) q_e6 (Y J))<|be an ah J<|aY<|aP<|aP ?_;exact ce (h2 e6 h) (bf J)
       ·refine bc<|aP<|aP ?_;exact ce (h2 vn h) (bf J)
  ·obtain⟨V,h⟩:=h
   refine eX V J<|aA<|am<|Z<|cW qC nw J (cD V)<|aQ nw qc J fun b6=>be nw ah J<|aV 7 J<|bB<|Z<|wV lX fc J ?_;refine bn cj J<|bP J<|Q J<|ci h fun t q_t h=>aw J (cZ qW i6 J J)<|aw J (cN cj J J)<|aw J (cG J)<|aw J (jJ nD J)<|aw J (fun H=>eF (bG J H) (bG J H))<|aw J (mJ J) ?_
   obtain⟨t1,h1t,h0t⟩:=og q_t
   have q_t1g:=fun M=>(h1t M).1
   refine dB J J J J (fun H=>gL J)<|dB J J J J (fun H=>ic qW i6 J J)<|dB J J J J (fun H=>cJ cj J J (bG J H)) ?_
   obtain⟨e7,h1t1,h0t1⟩:=og3 q_t1g
   have q_e7g:=fun M=>(h1t1 M).1
   refine dB J J J J (fun H=>bm nD an J (bG J H) (bG J H) (q_e7g H))<|dB J J J J (fun H=>cJ an J J (bG J H)) ?_
   obtain⟨r3,h1t1⟩:=RI (fun M=>(h1t1 M).2)
   have q_r3g:=fun M=>(h1t1 M).1
   refine dB J J J J (fun H=>bo KL (Bs _ (q_r3g H)) ⟨(bG J H),O⟩)<|dB J J J J (fun H=>dY (bG J H))<|aw J (fun H=>eC (bG J H) (fun M=>(bG J (nC H (pQ M)))) (fun M=>(h1t1 (nC H M)).2) (fun M=>h0t1 H M))<|T (cQ (Y J) (fun M=>(bG J M)) (fun M=>(h1t M).2) h0t)<|bE h J (fun h=>?_) (fun h=>?_)
   ·exact Z<|T (bM an jg aL J)<|be an ah J<|cd<|bT<|af<|bT<|aB 4 J<|so h▸bq J J ⟨aT an J J J,aN J,O⟩
   ·refine bc<|dR V hN J ?_;exact aR (aD (ih (i+1) x ⟨cH V,h⟩) (bf J))

def SB v{R}(h:y8 v=some R):bY aU 112 [tD ae v] (gM R):=by
 exact co Tryz.func112 J<|Z<|bO J<|ca<|bB<|Z<|bg cY bC cj J<|bP J<|Q J<|aw J (cZ fC cE J J)<|aw J (cN wd J J)<|aw J (fV J)<|dv J<|aM J<|so h▸av J J

def VX n{R}(h:uH n=some R):fR aU 113 [bD n] false ae 57 R:=by
 refine fR.of Tryz.func113 J J J fun w0 S0=>Z<|bQ false ae 57<|T (bp qa)<|bB<|Z<|bQ false ae 57<|T (bp qa)<|bB<|aE<|bh<|bB<|am<|bA<|fh<|mI ?_;refine aD (zA (aF:=fun n1 out l c i=>qj n n1 out i=some R) (Of:=fun out l c i=>[ff ae 57 l c out]) (Gf:=fun out l c i=>[(0,bD n),(3,my l c out),(4,bD i)]) (fun out l c i h=>nn h) (fun n1 ih out l c i h=>?_) fm EH none 0 (0:Int) h) (bf J);refine cU<|aE<|Q J<|Q J<|kw J<|bE h J (fun h=>?_) (fun h=>?_)
 ·refine dZ<|aA<|am<|au<|Q J<|T (bM an jg aL J)<|T (aI (r:=ae) (ys:=[vn]) (xs:=[.tmp 11]) nD an J J J J J ⟨(Y J),O⟩)<|ci h fun out1 q_out1 h=>bW an J J J J nD J J (Y J) (Y J) q_out1 fun l1 c1=>dC J<|aY<|ay<|ap<|au<|Q J<|T (eG (Y J) hI)<|dC J<|aY ?_;exact aR (aD (ih out1 l1 c1 (IntKind.i64.wrap (i+(1:Int))) h) (bf J))
 ·exact d7<|aH<|aH<|cF<|ap<|ax J<|aM J<|so h▸fY J J
def Zq n{R}(h:uH n=some R):bY aU 113 [bD n] (cr (ae) R):=(VX _ h).spec

def ab4 a1 b width on left{R}(h:y9 a1 b width on left=some R):bY aU 63 [cr (cu) a1,cr (cu) b,bD width,tD cm on,gM left] (tT [cr (cu) R.1,bD R.2]):=by
 refine co Tryz.func63 J<|Z<|bO J<|dO (cu)<|bh<|bB<|aE<|Q J<|ck eK J<|Q J<|ck eK J<|T (xF (Y J) (Y J))<|T (dy (Y J) hI)<|bE h J (fun h=>?_) (fun h=>?_)
 ·exact Z<|dO (cu)<|cd<|af<|so h▸bH J J J
 ·refine dZ<|Z<|bQ false cu 54<|T (bp qa)<|bB<|Z<|bh<|bB<|aE<|bh<|bB<|am<|aZ (k:=0) J fun hN=>bA ?_;refine aD (lQ (aF:=fun ls i out l c fault=>(a1.drop i=ls)/\mf b width on left ls out fault=some R) (Of:=fun _ i out l c fault=>[ff cu 54 l c out]) (Gf:=fun _ i out l c fault=>[(0,cr (cu) a1),(1,cr (cu) b),(2,bD width),(4,gM left),(8,bF cm on),(12,my l c out),(13,bD fault),(14,bD (i:Int))]) (fun i out l c fault h=>?_) (fun e tl ih i out l c fault h=>?_) a1 0 yN none 0 (0:Int) ⟨J,h⟩) (bf J)
  ·obtain⟨V,h⟩:=h
   refine pW eK V J<|ap<|ax J<|Q J<|dC J<|aC J ?_;exact fD<|dU<|bN 12 J<|bN 76 J<|bN 10 J<|dQ 10 J<|aG<|so h▸bH J J J
  ·obtain⟨V,h⟩:=h
   refine pV eK V J<|aA<|am<|Z<|ca<|bB<|aE<|bh ?_;refine bB<|am<|aZ (k:=1) J fun hN1=>bA ?_;refine aD (yB (aF:=fun ls1 i1 out1 l1 c1 fault1 found=>(b.drop i1=ls1)/\kS width on left (mf b width on left tl) e ls1 out1 fault1 found=some R) (Of:=fun _ i1 out1 l1 c1 fault1 found=>[ff cu 54 l1 c1 out1]) (Gf:=fun _ i1 out1 l1 c1 fault1 found=>[(0,cr (cu) a1),(1,cr (cu) b),(2,bD width),(4,gM left),(8,bF cm on),(12,my l1 c1 out1),(13,bD fault1),(14,bD (i:Int)),(15,gM found),(16,bD (i1:Int))]) (fun i1 out1 l1 c1 fault1 found h=>?_) (fun e1 tl1 ih1 i1 out1 l1 c1 fault1 found h=>?_) b 0 out l c fault false ⟨J,h⟩) (bf J)
   ·obtain⟨hx1,h⟩:=h
    refine pW eK hx1 J<|ap<|ax J<|Q J<|aw J (cG J)<|aw J (nI J)<|dv J<|aY ?_;refine ap<|gp h J (fun h=>?_) (fun h=>?_)
    ·refine ci h fun r q_r h=>ci h fun r1 q_r1 h=>?_
     refine BN 9 (ts:=[my l1 c1 out1,cr (cu) a1,bD (i:Int),bF cu e,cr (ae) e,bD width,cr (ae) r,cr (ae) r1,cr (cu) ([r1])]) mixed J J J
      ⟨dc J J,
      ⟨dc J J,
      ⟨dc J J,
      ⟨cM 67 1 68 2 J J J (zW eK cP J J J (cD V)),
      ⟨dh 3 cP J J,
      ⟨dc J J,
      ⟨cT 71 5 J J (bo afI (Zq _ q_r) ⟨(Y J),O⟩),
      ⟨cM 70 4 72 6 J J J (bo ZG (VR _ _ q_r1) ⟨(Y J),(Y J),O⟩),
      ⟨cT 73 7 J J (aI (r:=cu) (ys:=[r1]) (xs:=[.tmp 73]) eK cP J J J J J ⟨(Y J),O⟩),
      O⟩⟩⟩⟩⟩⟩⟩⟩⟩ ?_
     refine ci h fun out2 q_out2 h=>bW cP J J J J eK J J (Y J) (Y J) q_out2 fun l2 c2=>dC J<|aY<|lH V hN J ?_;exact aR (aD (ih (i+1) out2 l2 c2 fault1 ⟨cH V,h⟩) (bf J))
    ·refine bc<|lH V hN J ?_;exact aR (aD (ih (i+1) out1 l1 c1 fault1 ⟨cH V,h⟩) (bf J))
   ·obtain⟨hx1,h⟩:=h
    refine pV eK hx1 J<|aA<|am<|aA<|ci h fun r2 q_r2 h=>?_
    refine iQ (ts:=[_,_,_,_,_,_,_,_,_,_]) mixed J J
     ⟨dc J J,
     ⟨dc J J,
     ⟨cM 38 0 39 1 J J J (zW eK cP J J J (cD V)),
     ⟨dh 2 cP J J,
     ⟨dc J J,
     ⟨dc J J,
     ⟨cM 42 4 43 5 J J J (zW eK cP J J J (cD hx1)),
     ⟨dh 6 cP J J,
     ⟨cM 41 3 45 7 J J J (bo ZG (VR _ _ q_r2) ⟨(Y J),(Y J),O⟩),
     ⟨cT 46 8 J J (sE J),
     O⟩⟩⟩⟩⟩⟩⟩⟩⟩⟩ ?_
    refine ap<|Z<|bn jk J<|Q J<|bS h IJ (zp _ _) (bj J) fun r3 h=>Q J<|bv J J<|bv J J<|aQ an aL J fun b1=>be an ah J<|aV 18 J<|aC J ?_;refine fi (aF:=fun fault2=>ra (kS width on left (mf b width on left tl) e tl1) out1 found r2 r3 fault2=some R) (Of:=fun fault2=>[ff cu 54 l1 c1 out1]) (Gf:=fun fault2=>[(0,cr (cu) a1),(1,cr (cu) b),(2,bD width),(4,gM left),(8,bF cm on),(12,my l1 c1 out1),(13,bD fault2),(14,bD (i:Int)),(15,gM found),(16,bD (i1:Int)),(17,cr (ae) r2),(18,bF ae r3.1)]) (fun fault2 h=>?_) (fun h2=>?_)
    ·skip
     refine Z<|bn an J<|bS h aaS (SB _) (bj J) fun r4 h=>bE h J (fun h=>?_) (fun h=>?_)
     ·refine Z<|ca<|bB<|au<|Q J<|Q J<|T (aI (r:=cu) (ys:=[r2]) (xs:=[.tmp 58]) eK cP J J J J J ⟨(Y J),O⟩)<|ci h fun out3 q_out3 h=>bW cP J J J J eK J J (Y J) (Y J) q_out3 fun l3 c3=>dC J<|aY<|lH hx1 hN1 J ?_;exact aR (aD (ih1 (i1+1) out3 l3 c3 fault2 true ⟨cH hx1,h⟩) (bf J))
     ·refine bc<|lH hx1 hN1 J ?_;exact aR (aD (ih1 (i1+1) out1 l1 c1 fault2 found ⟨cH hx1,h⟩) (bf J))
    ·skip
     refine ax J<|eN J<|bE h J (fun h=>?_) (fun h=>?_)
     ·refine au<|bh<|aY ?_;exact ce (h2 (140:Int) h) (bf J)
     ·refine bc ?_;exact ce (h2 fault1 h) (bf J)

def ab3 a1 on{R}(h:za a1 on=some R):bY aU 64 [cr (cu) a1,tD cm on] (tT [cr (cu) R.1,bD R.2]):=by
 refine co Tryz.func64 J<|Z<|bO J<|dO (cu)<|bh<|bB<|Z<|bQ false cu 54<|T (bp qa)<|bB<|Z<|bh<|bB<|aE<|bh<|aY ?_;refine ap<|am<|aZ (k:=0) J fun hN=>bA ?_;refine aD (lQ (aF:=fun ls i out l c fault=>(a1.drop i=ls)/\jj on ls out fault=some R) (Of:=fun _ i out l c fault=>[ff cu 54 l c out]) (Gf:=fun _ i out l c fault=>[(0,cr (cu) a1),(3,bF cm on),(6,my l c out),(7,bD fault),(8,bD (i:Int))]) (fun i out l c fault h=>?_) (fun e tl ih i out l c fault h=>?_) a1 0 yN none 0 (0:Int) ⟨J,h⟩) (bf J)
 ·obtain⟨V,h⟩:=h
  refine pW eK V J<|ap<|ax J<|Q J<|dC J<|aC J ?_;exact fD<|dU<|bN 6 J<|bN 37 J<|bN 4 J<|dQ 4 J<|aG<|so h▸bH J J J
 ·obtain⟨V,h⟩:=h
  refine pV eK V J<|aA<|am<|aA<|ci h fun r q_r h=>?_
  refine lS 11 [tc (tD cm on),tc (cr (cu) a1),tc (bD (i:Int)),tc (bF cu e),tc (cr (ae) e),tc (tT [tD ae r.1,bD r.2]),tc (tT [tD ae r.1,bD r.2]),tc (tD ae r.1),tc (bD r.2),([9],fun s=>tV (ba ((s.getD 0 sF).h 0).2 0)),tc (Ap)] [false,false,false,false,false,false,false,false,false,true,true] [([],fun _=>[ff cu 54 l c out]),([9],fun sg=>[bx ae 57 ((sg 9).h 0).2 vn,ff cu 54 l c out]),([9,10],fun sg=>[bx ae 57 ((sg 9).h 0).2 r.1,ff cu 54 l c out])] (fun _=>J) mixed J J J J
   ⟨⟨[⟨3,fun _=>bF cm on,none⟩],_,[[],[9]],J,⟨(fun _=>J),O⟩,J,J,J,J,J,⟨fun sg=>ai J (nE jk J J),fun sg=>ai J (nE jk J J),O⟩⟩,
   ⟨⟨[⟨0,fun _=>tD ei a1,none⟩],_,[[],[9]],J,⟨(fun _=>J),O⟩,J,J,J,J,J,⟨fun sg=>ai J (gL J),fun sg=>ai J (gL J),O⟩⟩,
   ⟨⟨[⟨8,fun _=>tD cI (i:Int),none⟩],_,[[],[9]],J,⟨(fun _=>J),O⟩,J,J,J,J,J,⟨fun sg=>ai J (gL J),fun sg=>ai J (gL J),O⟩⟩,
   ⟨⟨[⟨19,fun _=>tD ei a1,some 1⟩,⟨20,fun _=>tD cI (i:Int),some 2⟩],_,[[],[9]],J,⟨(fun _=>J),(fun _=>J),O⟩,J,J,J,J,J,⟨fun sg=>ai J (zW eK cP J J J (cD V)),fun sg=>ai J (zW eK cP J J J (cD V)),O⟩⟩,
   ⟨⟨[⟨21,fun _=>bF cu e,some 3⟩],_,[[],[9]],J,⟨(fun _=>J),O⟩,J,J,J,J,J,⟨fun sg=>ai J (nE cP J J),fun sg=>ai J (nE cP J J),O⟩⟩,
   ⟨⟨[⟨18,fun _=>tD cm on,some 0⟩,⟨22,fun _=>tD cu e,some 4⟩],_,[[],[9]],J,⟨(fun _=>J),(fun _=>J),O⟩,J,J,J,J,J,⟨fun sg=>ai J (bo IJ (zp _ _ q_r) ⟨(Y J),(Y J),O⟩),fun sg=>ai J (bo IJ (zp _ _ q_r) ⟨(Y J),(Y J),O⟩),O⟩⟩,
   ⟨⟨[⟨23,fun _=>tT [tD ae r.1,tD cI r.2],some 5⟩],_,[[],[9]],J,⟨(fun _=>J),O⟩,J,J,J,J,J,⟨fun sg=>ai J (gL J),fun sg=>ai J (gL J),O⟩⟩,
   ⟨⟨[⟨17,fun _=>tT [tD ae r.1,tD cI r.2],some 6⟩],_,[[],[9]],J,⟨(fun _=>J),O⟩,J,J,J,J,J,⟨fun sg=>ai J (vo J J),fun sg=>ai J (vo J J),O⟩⟩,
   ⟨⟨[⟨17,fun _=>tT [tD ae r.1,tD cI r.2],some 6⟩],_,[[],[9],[9,10]],J,⟨(fun _=>J),O⟩,J,J,J,J,J,⟨fun sg=>ai J (vo J J),fun sg=>ai J (vo J J),fun sg=>ai J (vo J J),O⟩⟩,
   ⟨⟨[],_,[([],[9])],J,O,J,J,J,J,J,⟨fun sg=>dS J (sx an aL),O⟩⟩,
   ⟨⟨[⟨9,fun sg=>tV (ba ((sg 9).h 0).2 0),some 9⟩,⟨24,fun _=>tD ae r.1,some 7⟩],_,[([9],[9,10])],J,⟨(fun _=>J),(fun _=>J),O⟩,J,J,J,J,J,⟨fun sg=>dS J (lC an J (oE ah) J (Y J) (Y J)),O⟩⟩,
   O⟩⟩⟩⟩⟩⟩⟩⟩⟩⟩⟩ (fun sg=>?_)
  refine(show RG _ _ _ _ [_,_] _ from ?_);refine aV 9 J<|aC J ?_;refine fi (aF:=fun fault1=>pc (jj on tl) e out r fault1=some R) (Of:=fun fault1=>[ff cu 54 l c out]) (Gf:=fun fault1=>[(0,cr (cu) a1),(3,bF cm on),(6,my l c out),(7,bD fault1),(8,bD (i:Int)),(9,bF ae r.1)]) (fun fault1 h=>?_) (fun h2=>?_)
  ·skip
   refine Z<|bn an J<|bS h aaS (SB _) (bj J) fun r1 h=>bE h J (fun h=>?_) (fun h=>?_)
   ·refine au<|Q J<|Q J<|Q J<|cW eK cP J (cD V)<|T (aI (r:=cu) (ys:=[e]) (xs:=[.tmp 34]) eK cP J J J J J ⟨(Y J),O⟩)<|ci h fun out1 q_out1 h=>bW cP J J J J eK J J (Y J) (Y J) q_out1 fun l1 c1=>dC J<|aY<|lH V hN J ?_;exact aR (aD (ih (i+1) out1 l1 c1 fault1 ⟨cH V,h⟩) (bf J))
   ·refine bc<|lH V hN J ?_;exact aR (aD (ih (i+1) out l c fault1 ⟨cH V,h⟩) (bf J))
  ·skip
   refine ax J<|eN J<|bE h J (fun h=>?_) (fun h=>?_)
   ·refine au<|bh<|aY ?_;exact ce (h2 (140:Int) h) (bf J)
   ·refine bc ?_;exact ce (h2 fault h) (bf J)

def Sz l{R}(h:sW l=some R):bY aU 116 [cr (cu) l] (cr (cu) R):=by
 refine co Tryz.func116 J<|Z<|dO (cu)<|bB<|Z<|dO (cu)<|bB<|aE<|bh<|bB<|am<|aZ (k:=0) J fun hN=>bA ?_;refine aD (ol (aF:=fun ls i out=>(l.drop i=ls)/\ke ls out=some R) (Of:=fun _ i out=>[]) (Gf:=fun _ i out=>[(0,cr (cu) l),(3,cr (cu) out),(4,bD (i:Int))]) (fun i out h=>?_) (fun e tl ih i out h=>?_) l 0 ([]) ⟨J,h⟩) (bf J)
 ·obtain⟨V,h⟩:=h
  exact pW eK V J<|ap<|ax J<|aM J<|so h▸av J J
 ·obtain⟨V,h⟩:=h
  refine pV eK V J<|aA<|am<|Z<|bQ false cu 54<|T (bp qa)<|bB<|Z<|ca ?_;refine bB<|aE<|bh<|bB<|am<|aZ (k:=3) J fun hN1=>bA ?_;refine aD (lQ (aF:=fun ls1 i1 next l1 c done=>(out.drop i1=ls1)/\iA (ke tl) e ls1 next done=some R) (Of:=fun _ i1 next l1 c done=>[ff cu 54 l1 c next]) (Gf:=fun _ i1 next l1 c done=>[(0,cr (cu) l),(3,cr (cu) out),(4,bD (i:Int)),(5,my l1 c next),(6,gM done),(7,bD (i1:Int))]) (fun i1 next l1 c done h=>?_) (fun e1 tl1 ih1 i1 next l1 c done h=>?_) out 0 yN none 0 false ⟨J,h⟩) (bf J)
  ·obtain⟨hx1,h⟩:=h
   refine pW eK hx1 J<|ap ?_;refine vY (aF:=fun next1 l2 c1=>pg (ke tl) next1=some R) (Of:=fun next1 l2 c1=>[ff cu 54 l2 c1 next1]) (Gf:=fun next1 l2 c1=>[(0,cr (cu) l),(4,bD (i:Int)),(5,my l2 c1 next1)]) (fun next1 l2 c1 h=>?_) (fun h2=>?_)
   ·skip
    refine au<|Q J<|dC J<|aY<|lH V hN J<|dU<|bN 5 J<|bN 57 J<|bN 3 J<|dQ 3 J<|aG ?_;exact aR (aD (ih (i+1) next1 ⟨cH V,h⟩) (bf J))
   ·skip
    refine ax J<|T (dY (Y J))<|bE h J (fun h=>?_) (fun h=>?_)
    ·refine au<|Q J<|Q J<|Q J<|cW eK cP J (cD V)<|T (aI (r:=cu) (ys:=[e]) (xs:=[.tmp 54]) eK cP J J J J J ⟨(Y J),O⟩)<|ci h fun next2 q_next2 h=>bW cP J J J J eK J J (Y J) (Y J) q_next2 fun l3 c2=>dC J<|aY ?_;exact ce (h2 next2 l3 c2 h) (bf J)
    ·refine bc ?_;exact ce (h2 next l1 c h) (bf rfl)
  ·obtain⟨hx1,h⟩:=h
   refine pV eK hx1 J<|aA<|am ?_;refine Up (aF:=fun next3 l4 c3 done1=>pf (iA (ke tl) e tl1) e1 next3 done1=some R) (Of:=fun next3 l4 c3 done1=>[ff cu 54 l4 c3 next3]) (Gf:=fun next3 l4 c3 done1=>[(0,cr (cu) l),(3,cr (cu) out),(4,bD (i:Int)),(5,my l4 c3 next3),(6,gM done1),(7,bD (i1:Int))]) (fun next3 l4 c3 done1 h=>?_) (fun K1=>?_)
   ·skip
    refine au<|Q J<|Q J<|Q J<|cW eK cP J (cD hx1)<|T (aI (r:=cu) (ys:=[e1]) (xs:=[.tmp 45]) eK cP J J J J J ⟨(Y J),O⟩)<|ci h fun next4 q_next4 h=>bW cP J J J J eK J J (Y J) (Y J) q_next4 fun l5 c4=>dC J<|aY<|lH hx1 hN1 J ?_;exact aR (aD (ih1 (i1+1) next4 l5 c4 done1 ⟨cH hx1,h⟩) (bf J))
   ·skip
    refine aA<|ci h fun t q_t h=>?_
    obtain⟨r,h1t,h0t⟩:=og q_t
    have q_rg:=fun M=>(h1t M).1
    refine iQ (ts:=[_,_,_,_,_,_,_,_,_,_,_,_,_,_]) mixed J J
     ⟨dc J J,
     ⟨cT 20 0 J J (dY (Y J)),
     ⟨cT 21 1 J J (gL J),
     ⟨jF 0 22 2 J J J (bU J J J J (fun H=>gL J)),
     ⟨jF 4 22 2 J J J (bU J J J J (fun H=>gL J)),
     ⟨lZ 23 3 24 4 22 2 J J J J (bU J J J J (fun H=>bm eK cP J (bG J H) (bG J H) (cD V))),
     ⟨fq 25 5 22 2 J J J (bU J J J J (fun H=>cJ cP J J (bG J H))),
     ⟨jF 3 22 2 J J J (bU J J J J (fun H=>gL J)),
     ⟨jF 7 22 2 J J J (bU J J J J (fun H=>gL J)),
     ⟨lZ 27 7 28 8 22 2 J J J J (bU J J J J (fun H=>bm eK cP J (bG J H) (bG J H) (cD hx1))),
     ⟨fq 29 9 22 2 J J J (bU J J J J (fun H=>cJ cP J J (bG J H))),
     ⟨lZ 26 6 30 10 22 2 J J J J (bU J J J J (fun H=>bo Wi (Is _ _ (q_rg H)) ⟨(bG J H),(bG J H),O⟩)),
     ⟨fq 31 11 22 2 J J J (bU J J J J (fun H=>du (bG J H) hI)),
     ⟨cM 22 2 32 12 J J J (cQ (Y J) (fun M=>(bG J M)) (fun M=>(h1t M).2) h0t),
     O⟩⟩⟩⟩⟩⟩⟩⟩⟩⟩⟩⟩⟩⟩ ?_
    refine ap<|gp h J (fun h=>?_) (fun h=>?_)
    ·refine ax J<|Q J<|Q J<|cW eK cP J (cD V)<|T (aI (r:=cu) (ys:=[e]) (xs:=[.tmp 38]) eK cP J J J J J ⟨(Y J),O⟩)<|ci h fun next5 q_next5 h=>bW cP J J J J eK J J (Y J) (Y J) q_next5 fun l6 c5=>aC J<|au<|ca<|aY ?_;exact ce (K1 next5 l6 c5 true h) (bf J)
    ·refine bc ?_;exact ce (K1 next l1 c done h) (bf rfl)

end Go.Proofs.YtpgjgkdpeagjbaaGreatDoor

