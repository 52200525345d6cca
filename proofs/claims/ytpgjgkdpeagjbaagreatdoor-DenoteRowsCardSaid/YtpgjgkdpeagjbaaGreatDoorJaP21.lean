/- eJ of this claim: P21. -/
import Derived.Test.YtpgjgkdpeagjbaaGreatDoorJaT
import Derived.Test.YtpgjgkdpeagjbaaGreatDoorJaP20
set_option linter.all false
namespace Go.Proofs.YtpgjgkdpeagjbaaGreatDoor
open Go
set_option maxRecDepth 100000

def ab2 a1 keys aggs{R}(h:w7 a1 keys aggs=some R):bY aU 65 [cr (cu) a1,kq keys,cr (eM) aggs] (tT [cr (cu) R.1,bD R.2]):=by
 refine co Tryz.func65 J<|Z<|dO (cu)<|bh<|bB<|ax J<|Q J<|lI h afH (VW _ _) (bj J) fun r h l c=>aC J ?_;refine fi (aF:=fun groups=>nP aggs groups=some R) (Of:=fun groups=>[]) (Gf:=fun groups=>[(2,cr (eM) aggs),(8,cr (dF) groups)]) (fun groups h=>?_) (fun h2=>?_)
 ·skip
  refine Z<|bQ false cu 54<|T (bp qa)<|bB<|Z<|bh<|bB<|aE<|bh<|bB<|am<|aZ (k:=8) J fun hN=>bA ?_;refine aD (lQ (aF:=fun ls i out l1 c1 fault=>(groups.drop i=ls)/\jP aggs ls out fault=some R) (Of:=fun _ i out l1 c1 fault=>[ff cu 54 l1 c1 out]) (Gf:=fun _ i out l1 c1 fault=>[(2,cr (eM) aggs),(8,cr (dF) groups),(9,my l1 c1 out),(10,bD fault),(11,bD (i:Int))]) (fun i out l1 c1 fault h=>?_) (fun e tl ih i out l1 c1 fault h=>?_) groups 0 yN none 0 (0:Int) ⟨J,h⟩) (bf J)
  ·obtain⟨V,h⟩:=h
   refine pW Cu V J<|ap<|ax J<|Q J<|dC J<|aC J ?_;exact fD<|dU<|bN 9 J<|bN 70 J<|bN 6 J<|dQ 6 J<|aG<|so h▸bH J J J
  ·obtain⟨V,h⟩:=h
   refine pV Cu V J<|aA<|am<|ax J<|Q J<|Dt Cu BO J (cD V)<|bg VH Ie cP J<|lI h ZG (Mx _ _) ⟨(Y J),zh,O⟩ fun r1 h l2 c2=>?_;refine aC J<|aE<|bh<|bB<|am<|aZ (k:=2) J fun hN1=>bA<|fh ?_;refine aD (lQ (aF:=fun ls1 i1 x l3 c3 fault1=>(aggs.drop i1=ls1)/\jO (jP aggs tl) e out ls1 x fault1=some R) (Of:=fun _ i1 x l3 c3 fault1=>[ff cu 54 l1 c1 out,ff ae 57 l3 c3 x]) (Gf:=fun _ i1 x l3 c3 fault1=>[(2,cr (eM) aggs),(8,cr (dF) groups),(9,my l1 c1 out),(10,bD fault1),(11,bD (i:Int)),(12,my l3 c3 x),(13,bD (i1:Int))]) (fun i1 x l3 c3 fault1 h=>?_) (fun e1 tl1 ih1 i1 x l3 c3 fault1 h=>?_) aggs 0 r1 l2 c2 fault ⟨J,h⟩) (bf J)
   ·obtain⟨hx1,h⟩:=h
    refine pW uz hx1 J<|ap<|au<|Q J<|Q J<|bu<|gm<|dn 12 J<|dn 67 J<|T (aI (r:=cu) (ys:=[x]) (xs:=[.tmp 67]) eK cP J J J J J ⟨(km (Y J)),O⟩) ?_;refine bu<|ci h fun out1 q_out1 h=>bW cP J J J J eK J J (Y J) (Y J) q_out1 fun l4 c4=>dC J<|aY<|lH V hN J<|bK<|aG ?_;exact aR (aD (ih (i+1) out1 l4 c4 fault1 ⟨cH V,h⟩) (bf J))
   ·obtain⟨hx1,h⟩:=h
    refine pV uz hx1 J<|aA<|am<|aA<|ci h fun r2 q_r2 h=>?_
    refine lS 15 [tc (cr (eM) aggs),tc (bD (i1:Int)),tc (bF eM e1),tc (tD eM e1),tc (cr (dF) groups),tc (bD (i:Int)),tc (bF dF e),tc (bF ei e.Rows),tc (cr (cu) e.Rows),tc (tT [tD ae r2.1,bD r2.2]),tc (tT [tD ae r2.1,bD r2.2]),tc (tD ae r2.1),tc (bD r2.2),([13],fun s=>tV (ba ((s.getD 0 sF).h 0).2 0)),tc (Ap)] [false,false,false,false,false,false,false,false,false,false,false,false,false,true,true] [([],fun _=>[ff cu 54 l1 c1 out,ff ae 57 l3 c3 x]),([13],fun sg=>[bx ae 57 ((sg 13).h 0).2 vn,ff cu 54 l1 c1 out,ff ae 57 l3 c3 x]),([13,14],fun sg=>[bx ae 57 ((sg 13).h 0).2 r2.1,ff cu 54 l1 c1 out,ff ae 57 l3 c3 x])] (fun _=>J) mixed J J J J
     ⟨⟨[⟨2,fun _=>tD (f9 eM) aggs,none⟩],_,[[],[13]],J,⟨(fun _=>J),O⟩,J,J,J,J,J,⟨fun sg=>ai J (gL J),fun sg=>ai J (gL J),O⟩⟩,
     ⟨⟨[⟨13,fun _=>tD cI (i1:Int),none⟩],_,[[],[13]],J,⟨(fun _=>J),O⟩,J,J,J,J,J,⟨fun sg=>ai J (gL J),fun sg=>ai J (gL J),O⟩⟩,
     ⟨⟨[⟨48,fun _=>tD (f9 eM) aggs,some 0⟩,⟨49,fun _=>tD cI (i1:Int),some 1⟩],_,[[],[13]],J,⟨(fun _=>J),(fun _=>J),O⟩,J,J,J,J,J,⟨fun sg=>ai J (zW uz vu J J J (cD hx1)),fun sg=>ai J (zW uz vu J J J (cD hx1)),O⟩⟩,
     ⟨⟨[⟨50,fun _=>bF eM e1,some 2⟩],_,[[],[13]],J,⟨(fun _=>J),O⟩,J,J,J,J,J,⟨fun sg=>ai J (nE vu J J),fun sg=>ai J (nE vu J J),O⟩⟩,
     ⟨⟨[⟨8,fun _=>tD (f9 dF) groups,none⟩],_,[[],[13]],J,⟨(fun _=>J),O⟩,J,J,J,J,J,⟨fun sg=>ai J (gL J),fun sg=>ai J (gL J),O⟩⟩,
     ⟨⟨[⟨11,fun _=>tD cI (i:Int),none⟩],_,[[],[13]],J,⟨(fun _=>J),O⟩,J,J,J,J,J,⟨fun sg=>ai J (gL J),fun sg=>ai J (gL J),O⟩⟩,
     ⟨⟨[⟨52,fun _=>tD (f9 dF) groups,some 4⟩,⟨53,fun _=>tD cI (i:Int),some 5⟩],_,[[],[13]],J,⟨(fun _=>J),(fun _=>J),O⟩,J,J,J,J,J,⟨fun sg=>ai J (zW Cu BO J J J (cD V)),fun sg=>ai J (zW Cu BO J J J (cD V)),O⟩⟩,
     ⟨⟨[⟨54,fun _=>bF dF e,some 6⟩],_,[[],[13]],J,⟨(fun _=>J),O⟩,J,J,J,J,J,⟨fun sg=>ai J (ic QF CW J J),fun sg=>ai J (ic QF CW J J),O⟩⟩,
     ⟨⟨[⟨55,fun _=>bF ei e.Rows,some 7⟩],_,[[],[13]],J,⟨(fun _=>J),O⟩,J,J,J,J,J,⟨fun sg=>ai J (nE gb J J),fun sg=>ai J (nE gb J J),O⟩⟩,
     ⟨⟨[⟨51,fun _=>tD eM e1,some 3⟩,⟨56,fun _=>tD ei e.Rows,some 8⟩],_,[[],[13]],J,⟨(fun _=>J),(fun _=>J),O⟩,J,J,J,J,J,⟨fun sg=>ai J (bo aaR (SA _ _ q_r2) ⟨(Y J),(Y J),O⟩),fun sg=>ai J (bo aaR (SA _ _ q_r2) ⟨(Y J),(Y J),O⟩),O⟩⟩,
     ⟨⟨[⟨57,fun _=>tT [tD ae r2.1,tD cI r2.2],some 9⟩],_,[[],[13]],J,⟨(fun _=>J),O⟩,J,J,J,J,J,⟨fun sg=>ai J (gL J),fun sg=>ai J (gL J),O⟩⟩,
     ⟨⟨[⟨47,fun _=>tT [tD ae r2.1,tD cI r2.2],some 10⟩],_,[[],[13]],J,⟨(fun _=>J),O⟩,J,J,J,J,J,⟨fun sg=>ai J (vo J J),fun sg=>ai J (vo J J),O⟩⟩,
     ⟨⟨[⟨47,fun _=>tT [tD ae r2.1,tD cI r2.2],some 10⟩],_,[[],[13],[13,14]],J,⟨(fun _=>J),O⟩,J,J,J,J,J,⟨fun sg=>ai J (vo J J),fun sg=>ai J (vo J J),fun sg=>ai J (vo J J),O⟩⟩,
     ⟨⟨[],_,[([],[13])],J,O,J,J,J,J,J,⟨fun sg=>dS J (sx an aL),O⟩⟩,
     ⟨⟨[⟨14,fun sg=>tV (ba ((sg 13).h 0).2 0),some 13⟩,⟨58,fun _=>tD ae r2.1,some 11⟩],_,[([13],[13,14])],J,⟨(fun _=>J),(fun _=>J),O⟩,J,J,J,J,J,⟨fun sg=>dS J (lC an J (oE ah) J (Y J) (Y J)),O⟩⟩,
     O⟩⟩⟩⟩⟩⟩⟩⟩⟩⟩⟩⟩⟩⟩⟩ (fun sg=>?_)
    refine(show RG _ _ _ _ [_,_,_] _ from ?_);refine aV 14 J<|aC J ?_;refine fi (aF:=fun fault2=>qk (jO (jP aggs tl) e out tl1) x r2 fault2=some R) (Of:=fun fault2=>[ff cu 54 l1 c1 out,ff ae 57 l3 c3 x]) (Gf:=fun fault2=>[(2,cr (eM) aggs),(8,cr (dF) groups),(9,my l1 c1 out),(10,bD fault2),(11,bD (i:Int)),(12,my l3 c3 x),(13,bD (i1:Int)),(14,bF ae r2.1)]) (fun fault2 h=>?_) (fun K1=>?_)
    ·skip
     refine au<|Q J<|bn an J<|T (aI (r:=ae) (ys:=[r2.1]) (xs:=[.tmp 63]) nD an J J J J J ⟨(Y J),O⟩)<|bu<|ci h fun x1 q_x1 h=>bW an J J J J nD J J (Y J) (Y J) q_x1 fun l5 c5=>dC J<|aY<|lH hx1 hN1 J<|bK ?_;exact aR (aD (ih1 (i1+1) x1 l5 c5 fault2 ⟨cH hx1,h⟩) (bf J))
    ·skip
     refine ax J<|eN J<|bE h J (fun h=>?_) (fun h=>?_)
     ·refine au<|bh<|aY ?_;exact ce (K1 (140:Int) h) (bf J)
     ·refine bc ?_;exact ce (K1 fault1 h) (bf J)
 ·skip
  refine ax J<|ck fz J<|bP J<|Q J<|aw J (cG J)<|aw J (fun H=>fO Cu (.head _) (bG J H))<|aw J (fV J)<|dv J<|bE h J (fun h=>?_) (fun h=>?_)
  ·refine au<|T (bM BO XY Aj J)<|T (aI (r:=dF) (ys:=[Xc]) (xs:=[.tmp 27]) Cu BO J J J J J ⟨(Y J),O⟩)<|dC J<|aY<|aG ?_;exact ce (h2 ([Xc]) h) (bf J)
  ·refine bc<|dU<|bN 18 J<|bN 8 J<|dQ 8 J<|aG ?_;exact ce (h2 r h) (bf J)

def ab1 a1 items{R}(h:xC a1 items=some R):bY aU 66 [cr (cu) a1,cr (cm) items] (tT [cr (cu) R.1,bD R.2]):=by
 refine co Tryz.func66 J<|Z<|dO (cu)<|bh<|bB<|Z<|bQ false cu 54<|T (bp qa)<|bB<|Z<|bh<|bB<|aE<|bh<|bB ?_;refine am<|aZ (k:=0) J fun hN=>bA ?_;refine aD (lQ (aF:=fun ls i out l c fault=>(a1.drop i=ls)/\jx items ls out fault=some R) (Of:=fun _ i out l c fault=>[ff cu 54 l c out]) (Gf:=fun _ i out l c fault=>[(0,cr (cu) a1),(1,cr (cm) items),(6,my l c out),(7,bD fault),(8,bD (i:Int))]) (fun i out l c fault h=>?_) (fun e tl ih i out l c fault h=>?_) a1 0 yN none 0 (0:Int) ⟨J,h⟩) (bf J)
 ·obtain⟨V,h⟩:=h
  refine pW eK V J<|ap<|ax J<|Q J<|dC J<|aC J ?_;exact fD<|dU<|bN 6 J<|bN 47 J<|bN 4 J<|dQ 4 J<|aG<|so h▸bH J J J
 ·obtain⟨V,h⟩:=h
  refine pV eK V J<|aA<|am<|Z<|bQ false ae 57<|T (bp qa)<|bB<|aE ?_;refine bh<|bB<|am<|aZ (k:=1) J fun hN1=>bA<|fh ?_;refine aD (lQ (aF:=fun ls1 i1 x l1 c1 fault1=>(items.drop i1=ls1)/\iJ (jx items tl) e out ls1 x fault1=some R) (Of:=fun _ i1 x l1 c1 fault1=>[ff cu 54 l c out,ff ae 57 l1 c1 x]) (Gf:=fun _ i1 x l1 c1 fault1=>[(0,cr (cu) a1),(1,cr (cm) items),(6,my l c out),(7,bD fault1),(8,bD (i:Int)),(9,my l1 c1 x),(10,bD (i1:Int))]) (fun i1 x l1 c1 fault1 h=>?_) (fun e1 tl1 ih1 i1 x l1 c1 fault1 h=>?_) items 0 EH none 0 fault ⟨J,h⟩) (bf J)
  ·obtain⟨hx1,h⟩:=h
   refine pW vk hx1 J<|ap<|au<|Q J<|Q J<|bu<|gm<|dn 9 J<|dn 44 J<|T (aI (r:=cu) (ys:=[x]) (xs:=[.tmp 44]) eK cP J J J J J ⟨(km (Y J)),O⟩) ?_;refine bu<|ci h fun out1 q_out1 h=>bW cP J J J J eK J J (Y J) (Y J) q_out1 fun l2 c2=>dC J<|aY<|lH V hN J<|bK<|aG ?_;exact aR (aD (ih (i+1) out1 l2 c2 fault1 ⟨cH V,h⟩) (bf J))
  ·obtain⟨hx1,h⟩:=h
   refine pV vk hx1 J<|aA<|am<|aA<|ci h fun r q_r h=>?_
   refine lS 14 [tc (cr (cm) items),tc (bD (i1:Int)),tc (bF cm e1),tc (tD cm e1),tc (cr (cu) a1),tc (bD (i:Int)),tc (bF cu e),tc (cr (ae) e),tc (tT [tD ae r.1,bD r.2]),tc (tT [tD ae r.1,bD r.2]),tc (tD ae r.1),tc (bD r.2),([12],fun s=>tV (ba ((s.getD 0 sF).h 0).2 0)),tc (Ap)] [false,false,false,false,false,false,false,false,false,false,false,false,true,true] [([],fun _=>[ff cu 54 l c out,ff ae 57 l1 c1 x]),([12],fun sg=>[bx ae 57 ((sg 12).h 0).2 vn,ff cu 54 l c out,ff ae 57 l1 c1 x]),([12,13],fun sg=>[bx ae 57 ((sg 12).h 0).2 r.1,ff cu 54 l c out,ff ae 57 l1 c1 x])] (fun _=>J) mixed J J J J
    ⟨⟨[⟨1,fun _=>tD (f9 cm) items,none⟩],_,[[],[12]],J,⟨(fun _=>J),O⟩,J,J,J,J,J,⟨fun sg=>ai J (gL J),fun sg=>ai J (gL J),O⟩⟩,
    ⟨⟨[⟨10,fun _=>tD cI (i1:Int),none⟩],_,[[],[12]],J,⟨(fun _=>J),O⟩,J,J,J,J,J,⟨fun sg=>ai J (gL J),fun sg=>ai J (gL J),O⟩⟩,
    ⟨⟨[⟨26,fun _=>tD (f9 cm) items,some 0⟩,⟨27,fun _=>tD cI (i1:Int),some 1⟩],_,[[],[12]],J,⟨(fun _=>J),(fun _=>J),O⟩,J,J,J,J,J,⟨fun sg=>ai J (zW vk jk J J J (cD hx1)),fun sg=>ai J (zW vk jk J J J (cD hx1)),O⟩⟩,
    ⟨⟨[⟨28,fun _=>bF cm e1,some 2⟩],_,[[],[12]],J,⟨(fun _=>J),O⟩,J,J,J,J,J,⟨fun sg=>ai J (nE jk J J),fun sg=>ai J (nE jk J J),O⟩⟩,
    ⟨⟨[⟨0,fun _=>tD ei a1,none⟩],_,[[],[12]],J,⟨(fun _=>J),O⟩,J,J,J,J,J,⟨fun sg=>ai J (gL J),fun sg=>ai J (gL J),O⟩⟩,
    ⟨⟨[⟨8,fun _=>tD cI (i:Int),none⟩],_,[[],[12]],J,⟨(fun _=>J),O⟩,J,J,J,J,J,⟨fun sg=>ai J (gL J),fun sg=>ai J (gL J),O⟩⟩,
    ⟨⟨[⟨30,fun _=>tD ei a1,some 4⟩,⟨31,fun _=>tD cI (i:Int),some 5⟩],_,[[],[12]],J,⟨(fun _=>J),(fun _=>J),O⟩,J,J,J,J,J,⟨fun sg=>ai J (zW eK cP J J J (cD V)),fun sg=>ai J (zW eK cP J J J (cD V)),O⟩⟩,
    ⟨⟨[⟨32,fun _=>bF cu e,some 6⟩],_,[[],[12]],J,⟨(fun _=>J),O⟩,J,J,J,J,J,⟨fun sg=>ai J (nE cP J J),fun sg=>ai J (nE cP J J),O⟩⟩,
    ⟨⟨[⟨29,fun _=>tD cm e1,some 3⟩,⟨33,fun _=>tD cu e,some 7⟩],_,[[],[12]],J,⟨(fun _=>J),(fun _=>J),O⟩,J,J,J,J,J,⟨fun sg=>ai J (bo IJ (zp _ _ q_r) ⟨(Y J),(Y J),O⟩),fun sg=>ai J (bo IJ (zp _ _ q_r) ⟨(Y J),(Y J),O⟩),O⟩⟩,
    ⟨⟨[⟨34,fun _=>tT [tD ae r.1,tD cI r.2],some 8⟩],_,[[],[12]],J,⟨(fun _=>J),O⟩,J,J,J,J,J,⟨fun sg=>ai J (gL J),fun sg=>ai J (gL J),O⟩⟩,
    ⟨⟨[⟨25,fun _=>tT [tD ae r.1,tD cI r.2],some 9⟩],_,[[],[12]],J,⟨(fun _=>J),O⟩,J,J,J,J,J,⟨fun sg=>ai J (vo J J),fun sg=>ai J (vo J J),O⟩⟩,
    ⟨⟨[⟨25,fun _=>tT [tD ae r.1,tD cI r.2],some 9⟩],_,[[],[12],[12,13]],J,⟨(fun _=>J),O⟩,J,J,J,J,J,⟨fun sg=>ai J (vo J J),fun sg=>ai J (vo J J),fun sg=>ai J (vo J J),O⟩⟩,
    ⟨⟨[],_,[([],[12])],J,O,J,J,J,J,J,⟨fun sg=>dS J (sx an aL),O⟩⟩,
    ⟨⟨[⟨11,fun sg=>tV (ba ((sg 12).h 0).2 0),some 12⟩,⟨35,fun _=>tD ae r.1,some 10⟩],_,[([12],[12,13])],J,⟨(fun _=>J),(fun _=>J),O⟩,J,J,J,J,J,⟨fun sg=>dS J (lC an J (oE ah) J (Y J) (Y J)),O⟩⟩,
    O⟩⟩⟩⟩⟩⟩⟩⟩⟩⟩⟩⟩⟩⟩ (fun sg=>?_)
   refine(show RG _ _ _ _ [_,_,_] _ from ?_);refine aV 11 J<|aC J ?_;refine fi (aF:=fun fault2=>nO (iJ (jx items tl) e out tl1) x r fault2=some R) (Of:=fun fault2=>[ff cu 54 l c out,ff ae 57 l1 c1 x]) (Gf:=fun fault2=>[(0,cr (cu) a1),(1,cr (cm) items),(6,my l c out),(7,bD fault2),(8,bD (i:Int)),(9,my l1 c1 x),(10,bD (i1:Int)),(11,bF ae r.1)]) (fun fault2 h=>?_) (fun h2=>?_)
   ·skip
    refine au<|Q J<|bn an J<|T (aI (r:=ae) (ys:=[r.1]) (xs:=[.tmp 40]) nD an J J J J J ⟨(Y J),O⟩)<|bu<|ci h fun x1 q_x1 h=>bW an J J J J nD J J (Y J) (Y J) q_x1 fun l3 c3=>dC J<|aY<|lH hx1 hN1 J<|bK ?_;exact aR (aD (ih1 (i1+1) x1 l3 c3 fault2 ⟨cH hx1,h⟩) (bf J))
   ·skip
    refine ax J<|eN J<|bE h J (fun h=>?_) (fun h=>?_)
    ·refine au<|bh<|aY ?_;exact ce (h2 (140:Int) h) (bf J)
    ·refine bc ?_;exact ce (h2 fault1 h) (bf J)

def Zp a1 b order{R}(h:uI a1 b order=some R):bY aU 117 [cr (ae) a1,cr (ae) b,cr (gU) order] (gM R):=by
 refine co Tryz.func117 J<|Z<|ca<|bB<|aE<|bh<|bB<|am<|aZ (k:=2) J fun hN=>bA ?_;refine aD (eI (aF:=fun ls i=>(order.drop i=ls)/\kX a1 b ls=some R) (Of:=fun _ i=>[]) (Gf:=fun _ i=>[(0,cr (ae) a1),(1,cr (ae) b),(2,cr (gU) order),(7,bD (i:Int))]) (fun i h=>?_) (fun e tl ih i h=>?_) order 0 ⟨J,h⟩) (bf J)
 ·obtain⟨V,h⟩:=h
  refine pW xu V J<|ap<|ax J<|Q J<|bS h Wi (Is _ _) (bj J) fun r h=>T (du (Y J) hI)<|dC J ?_;exact cK<|so h▸av J J
 ·obtain⟨V,h⟩:=h
  refine pV xu V J<|aA<|am<|aA<|ci h fun e1 q_e1 h=>ci h fun e2 q_e2 h=>ci h fun r1 q_r1 h=>?_
  refine iQ (ts:=[_,_,_,_,_,_,_,_,_,_,_,_,_,_,_,_,_,_]) mixed J J
   ⟨dc J J,
   ⟨dc J J,
   ⟨dc J J,
   ⟨cM 16 1 17 2 J J J (zW xu zF J J J (cD V)),
   ⟨cT 18 3 J J (ic xm uS J J),
   ⟨dh 4 cj J J,
   ⟨cM 15 0 20 5 J J J (zW nD an J J J q_e1),
   ⟨dh 6 an J J,
   ⟨dc J J,
   ⟨dc J J,
   ⟨dc J J,
   ⟨cM 24 9 25 10 J J J (zW xu zF J J J (cD V)),
   ⟨cT 26 11 J J (ic xm uS J J),
   ⟨dh 12 cj J J,
   ⟨cM 23 8 28 13 J J J (zW nD an J J J q_e2),
   ⟨dh 14 an J J,
   ⟨cM 22 7 30 15 J J J (bo ZE (Mp _ _ q_r1) ⟨(Y J),(Y J),O⟩),
   ⟨cT 31 16 J J (sE J),
   O⟩⟩⟩⟩⟩⟩⟩⟩⟩⟩⟩⟩⟩⟩⟩⟩⟩⟩ ?_
  refine ap ?_;refine fi (aF:=fun n=>ql (kX a1 b tl) n=some R) (Of:=fun n=>[]) (Gf:=fun n=>[(0,cr (ae) a1),(1,cr (ae) b),(2,cr (gU) order),(7,bD (i:Int)),(8,bD n)]) (fun n h=>?_) (fun h2=>?_)
  ·skip
   refine ax J<|eN J<|bE h J (fun h=>?_) (fun h=>?_)
   ·exact ax J<|T (du (Y J) hI)<|aM J<|bT<|af<|bT<|so h▸av J J
   ·refine bc<|lH V hN J ?_;exact aR (aD (ih (i+1) ⟨cH V,h⟩) (bf J))
  ·skip
   refine ax J<|Q J<|Dt xu zF J (cD V)<|bg RZ OR zZ J<|bE h J (fun h=>?_) (fun h=>?_)
   ·refine au<|Q J<|T (dX hI (Y J))<|dC J<|aY ?_;exact ce (h2 (IntKind.i64.wrap ((0:Int)-r1)) h) (bf J)
   ·refine bc ?_;exact ce (h2 r1 h) (bf J)

def vF l order limit{R}(h:jN l order limit=some R):fR aU 68 [cr (cu) l,cr (gU) order,bD limit] false cu 54 R:=by
 refine fR.of Tryz.func68 J J J fun w0 S0=>Z<|bQ false cu 54<|T (bp qa)<|bB<|Z<|bQ false cu 54<|T (bp qa)<|bB<|aE<|bh<|bB<|am<|aZ (k:=0) J fun hN=>bA<|fh<|mI ?_;refine aD (iR (aF:=fun ls i out l1 c=>(l.drop i=ls)/\me order limit ls out=some R) (Of:=fun _ i out l1 c=>[ff cu 54 l1 c out]) (Gf:=fun _ i out l1 c=>[(0,cr (cu) l),(1,cr (gU) order),(2,bD limit),(7,my l1 c out),(8,bD (i:Int))]) (fun i out l1 c h=>?_) (fun e tl ih i out l1 c h=>?_) l 0 yN none 0 ⟨J,h⟩) (bf J)
 ·obtain⟨V,h⟩:=h
  refine pW eK V J<|ap<|aE<|Q J<|T (eF (Y J) hI)<|Q J<|aw J (cG J)<|aw J (cG J) ?_;refine aw J (fun H=>fO eK (.head _) (bG J H))<|aw J (fun H=>du (bG J H) (bG J H))<|dv J<|bE h J (fun h=>?_) (fun h=>?_)
  ·exact ax J<|Q J<|ci h fun y q_y h=>T (mj eK cP J (.head _) (Y J) (Y J) q_y)<|xJ q_y<|aM J<|af<|so h▸fY J J
  ·exact dZ<|ax J<|aM J<|so h▸fY J J
 ·obtain⟨V,h⟩:=h
  refine pV eK V J<|aA<|am<|Z<|bh<|bB<|aA<|am<|bA ?_;refine aD (zB (aF:=fun n at1=>q7 order (me order limit tl) e out n at1=some R) (Of:=fun at1=>[ff cu 54 l1 c out]) (Gf:=fun at1=>[(0,cr (cu) l),(1,cr (gU) order),(2,bD limit),(7,my l1 c out),(8,bD (i:Int)),(9,bD at1)]) (fun at1 h=>nn h) (fun n ih1 at1 h=>?_) fm (0:Int) h) (bf J);refine cU<|aA<|aA<|ci h fun t q_t h=>?_
  obtain⟨e1,h1t,h0t⟩:=og q_t
  have q_e1g:=fun M=>(h1t M).1
  obtain⟨r,h1t⟩:=RI (fun M=>(h1t M).2)
  have q_rg:=fun M=>(h1t M).1
  refine iQ (ts:=[_,_,_,_,_,_,_,_,_,_,_,_,_,_,_,_,_]) mixed J J
   ⟨dc J J,
   ⟨dc J J,
   ⟨cT 18 1 J J (fO eK (.head _) (Y J)),
   ⟨cM 17 0 19 2 J J J (zlt J J),
   ⟨cT 20 3 J J (gL J),
   ⟨jF 0 21 4 J J J (bU J J J J (fun H=>gL J)),
   ⟨jF 8 21 4 J J J (bU J J J J (fun H=>gL J)),
   ⟨lZ 22 5 23 6 21 4 J J J J (bU J J J J (fun H=>bm eK cP J (bG J H) (bG J H) (cD V))),
   ⟨fq 24 7 21 4 J J J (bU J J J J (fun H=>cJ cP J J (bG J H))),
   ⟨jF 7 21 4 J J J (bU J J J J (fun H=>gL J)),
   ⟨jF 9 21 4 J J J (bU J J J J (fun H=>gL J)),
   ⟨lZ 26 9 27 10 21 4 J J J J (bU J J J J (fun H=>cn eK cP (.head _) (bG J H) (bG J H) (q_e1g H))),
   ⟨fq 28 11 21 4 J J J (bU J J J J (fun H=>eE (r:=cu) (i:=at1) (foff:=0) cP J J bz J (.head _) (q_e1g H) (bG J H))),
   ⟨jF 1 21 4 J J J (bU J J J J (fun H=>gL J)),
   ⟨⟨[⟨25,_,some 8⟩,⟨29,_,some 12⟩,⟨30,_,some 13⟩,⟨21,_,some 4⟩],_,J,⟨J,J,J,J,O⟩,J,J,bU J J J J (fun H=>bo afG (Zp _ _ _ (q_rg H)) ⟨(bG J H),(bG J H),(bG J H),O⟩)⟩,
   ⟨fq 31 14 21 4 J J J (bU J J J J (fun H=>dY (bG J H))),
   ⟨cM 21 4 32 15 J J J (cQ (Y J) (fun M=>(bG J M)) (fun M=>(h1t M).2) h0t),
   O⟩⟩⟩⟩⟩⟩⟩⟩⟩⟩⟩⟩⟩⟩⟩⟩⟩ ?_
  refine ap<|gp h J (fun h=>?_) (fun h=>?_)
  ·refine dZ<|am<|au<|Q J<|T (eG (Y J) hI)<|dC J<|aY<|ay ?_;exact aR (aD (ih1 (IntKind.i64.wrap (at1+(1:Int))) h) (bf J))
  ·refine d7<|aH<|aH<|cF<|ap<|ax J<|T (aI (r:=cu) (ys:=[[]]) (xs:=[.const (.slice none 0 0)]) eK cP J J J J J ⟨zh,O⟩)<|ci h fun out1 q_out1 h=>bW cP J J J J eK J J (Y J) (Y J) q_out1 fun l2 c1=>aC J<|aE<|Q J<|T (fO eK (.head _) (Y J))<|T (dX (Y J) hI)<|aC J<|am ?_;refine bA ?_;refine aD (GO (aF:=fun n1 out2 k=>pC (me order limit tl) e at1 n1 out2 k=some R) (Of:=fun out2 k=>[ff cu 54 l2 c1 out2]) (Gf:=fun out2 k=>[(0,cr (cu) l),(1,cr (gU) order),(2,bD limit),(7,my l2 c1 out2),(8,bD (i:Int)),(9,bD at1),(10,bD k)]) (fun out2 k h=>nn h) (fun n1 ih2 out2 k h=>?_) fm out1 (IntKind.i64.wrap ((out1.length:Int)-(1:Int))) h) (bf J);refine cU<|aE<|Q J<|Q J<|T (dy (Y J) (Y J))<|bE h J (fun h=>?_) (fun h=>?_)
   ·refine dZ<|aA<|am<|au<|Q J<|Q J<|Q J<|Q J<|T (dX (Y J) hI)<|ci h fun e2 q_e2 h=>T (cn eK cP (.head _) (Y J) (Y J) q_e2)<|T (eE (r:=cu) (i:=(IntKind.i64.wrap (k-(1:Int)))) (foff:=0) cP J J bz J (.head _) q_e2 (Y J))<|ci h fun e3 q_e3 h=>T (cn eK cP (.head _) (Y J) (Y J) q_e3)<|ci h fun st q_st h=>sD cP J ah J q_e3 (so q_st) (Y J) (Y J)<|g9 (li (so q_st)) 7 J<|g9 (li (so q_st)) 47 J<|g9 (li (so q_st)) 49 J<|aY<|ay<|ap<|au ?_;refine Q J<|T (dX (Y J) hI)<|dC J<|aY ?_;exact aR (aD (ih2 st (IntKind.i64.wrap (k-(1:Int))) h) (bf J))
   ·refine d7<|aH<|aH<|cF<|ap<|au<|Q J<|Q J<|Q J<|Q J<|cW eK cP J (cD V)<|ci h fun e4 q_e4 h=>T (cn eK cP (.head _) (Y J) (Y J) q_e4)<|ci h fun st1 q_st1 h=>sD cP J ah J q_e4 (so q_st1) (Y J) (Y J)<|g9 (li (so q_st1)) 7 J<|g9 (li (so q_st1)) 55 J<|aY<|ay<|ap<|au<|Q J<|T (zin (KF V hN) J) ?_;refine dC J<|aY ?_;exact aR (aD (ih (i+1) st1 l2 c1 ⟨cH V,h⟩) (bf J))
def ace n base a1 b width{R}(h:y7 n base a1 b width=some R):bY aU 39 [tD aW n,tD fX base,cr (cu) a1,cr (cu) b,bD width] (tT [cr (cu) R.1,bD R.2]):=by
 refine co Tryz.func39 J<|Z<|bO J<|bO J<|dO (cu)<|bh<|bB<|Z<|bQ false cu 54<|T (bp qa)<|bB<|Z<|bh<|bB<|aE<|wV oN gJ J ?_;refine bn cj J<|bB<|am<|Z<|bP J<|aC J<|gp h J (fun h=>?_) (fun h=>?_)
 ·refine au<|bg oO jB q6 J<|bg qX jp cj J<|ci h fun e q_e h=>cW lr gb J q_e<|dC J<|aY<|ay<|ap<|aE<|Q J<|eN J<|bE h J (fun h=>?_) (fun h=>?_)
  ·exact ax J<|dO (cu)<|aM J<|af<|aG<|so h▸bH J J J
  ·refine dZ<|aE<|Q J<|ck eK J<|T (dy (Y J) hI)<|bE h J (fun h=>?_) (fun h=>?_)
   ·exact Z<|dO (cu)<|cd<|af<|aG<|so h▸bH J J J
   ·exact dZ<|ax J<|lI h MN (vF _ _ _) ⟨(Y J),zh,hI,O⟩ fun r h l c=>dC J<|cd<|dU<|bN 10 J<|bN 92 J<|dQ 10 J<|aG<|aG<|so h▸bH J J J
 ·refine Z<|bP J<|aC J<|gp h J (fun h=>?_) (fun h=>?_)
  ·refine au<|Q J<|Q J<|Q J<|bg rZ kK jk J<|bg Il zl zZ J<|bS h agF (ab4 _ _ _ _ _) (bj J) fun r1 h=>Q J<|bv J J<|bv J J<|dC J<|dC J<|aY<|ay<|ap<|aE<|Q J<|eN J<|aY ?_;refine ap<|gp h J (fun h=>?_) (fun h=>?_)
   ·exact ax J<|dO (cu)<|aM J<|af<|aG<|so h▸bH J J J
   ·refine dZ<|aE<|Q J<|ck eK J<|T (dy (Y J) hI)<|bE h J (fun h=>?_) (fun h=>?_)
    ·exact Z<|dO (cu)<|cd<|af<|aG<|so h▸bH J J J
    ·exact dZ<|ax J<|lI h MN (vF _ _ _) ⟨(Y J),zh,hI,O⟩ fun r2 h l1 c1=>dC J<|cd<|dU<|bN 10 J<|bN 92 J<|dQ 10 J<|aG<|aG<|so h▸bH J J J
  ·refine Z<|bP J<|aC J<|gp h J (fun h=>?_) (fun h=>?_)
   ·refine au<|Q J<|bg rZ kK jk J<|bS h agE (ab3 _ _) (bj J) fun r3 h=>Q J<|bv J J<|bv J J<|dC J<|dC J<|aY<|ay<|ap<|aE<|Q J<|eN J<|bE h J (fun h=>?_) (fun h=>?_)
    ·exact ax J<|dO (cu)<|aM J<|af<|aG<|so h▸bH J J J
    ·refine dZ<|aE<|Q J<|ck eK J<|T (dy (Y J) hI)<|bE h J (fun h=>?_) (fun h=>?_)
     ·exact Z<|dO (cu)<|cd<|af<|aG<|so h▸bH J J J
     ·exact dZ<|ax J<|lI h MN (vF _ _ _) ⟨(Y J),zh,hI,O⟩ fun r4 h l2 c2=>dC J<|cd<|dU<|bN 10 J<|bN 92 J<|dQ 10 J<|aG<|aG<|so h▸bH J J J
   ·refine Z<|bP J<|aC J<|gp h J (fun h=>?_) (fun h=>?_)
    ·refine au<|Q J<|bg pT iY eQ J<|bg oM kJ zY J<|bS h agD (ab2 _ _ _) (bj J) fun r5 h=>Q J<|bv J J<|bv J J<|dC J<|dC J<|aY<|ay<|ap<|aE<|Q J<|eN J<|bE h J (fun h=>?_) (fun h=>?_)
     ·exact ax J<|dO (cu)<|aM J<|af<|aG<|so h▸bH J J J
     ·refine dZ<|aE<|Q J<|ck eK J<|T (dy (Y J) hI)<|bE h J (fun h=>?_) (fun h=>?_)
      ·exact Z<|dO (cu)<|cd<|af<|aG<|so h▸bH J J J
      ·exact dZ<|ax J<|lI h MN (vF _ _ _) ⟨(Y J),zh,hI,O⟩ fun r6 h l3 c3=>dC J<|cd<|dU<|bN 10 J<|bN 92 J<|dQ 10 J<|aG<|aG<|so h▸bH J J J
    ·refine Z<|bP J<|aC J<|gp h J (fun h=>?_) (fun h=>?_)
     ·refine au<|Q J<|bg pS kI zX J<|bS h agC (ab1 _ _) (bj J) fun r7 h=>Q J<|bv J J<|bv J J<|dC J<|dC J<|aY<|ay<|ap<|aE<|Q J<|eN J<|bE h J (fun h=>?_) (fun h=>?_)
      ·exact ax J<|dO (cu)<|aM J<|af<|aG<|so h▸bH J J J
      ·refine dZ<|aE<|Q J<|ck eK J<|T (dy (Y J) hI)<|bE h J (fun h=>?_) (fun h=>?_)
       ·exact Z<|dO (cu)<|cd<|af<|aG<|so h▸bH J J J
       ·exact dZ<|ax J<|lI h MN (vF _ _ _) ⟨(Y J),zh,hI,O⟩ fun r8 h l4 c4=>dC J<|cd<|dU<|bN 10 J<|bN 92 J<|dQ 10 J<|aG<|aG<|so h▸bH J J J
     ·refine Z<|bP J<|aC J<|gp h J (fun h=>?_) (fun h=>?_)
      ·refine au<|Q J<|lI h aea (R2 _) (bj J) fun r9 h l5 c5=>dC J<|aY<|ay<|ap<|aE<|Q J<|eN J<|bE h J (fun h=>?_) (fun h=>?_)
       ·exact ax J<|dO (cu)<|aM J<|af<|aG<|aG<|so h▸bH J J J
       ·refine dZ<|aE<|Q J<|T (fO eK (.head _) (Y J))<|T (dy (Y J) hI)<|bE h J (fun h=>?_) (fun h=>?_)
        ·exact Z<|dO (cu)<|cd<|af<|aG<|aG<|so h▸bH J J J
        ·exact dZ<|ax J<|gm<|dn 12 J<|dn 69 J<|dn 88 J<|dn 91 J<|lI h MN (vF _ _ _) ⟨(km (Y J)),zh,hI,O⟩ fun r10 h l6 c6=>dC J<|cd<|dU<|bN 10 J<|bN 92 J<|dQ 10 J<|aG<|aG<|aG<|so h▸bH J J J
      ·refine Z<|bP J<|aC J<|gp h J (fun h=>?_) (fun h=>?_)
       ·refine au<|Q J<|Q J<|ci h fun l7 q_l7 h=>bW cP J J J J eK J J (Y J) (Y J) q_l7 fun l8 c7=>Q J<|ci h fun out q_out h=>bW cP J J J J eK J J (Y J) (Y J) q_out fun l9 c8=>dC J<|aY<|ay<|ap<|aE<|Q J<|eN J<|bE h J (fun h=>?_) (fun h=>?_)
        ·exact ax J<|dO (cu)<|aM J<|af<|aG<|so h▸bH J J J
        ·refine dZ<|aE<|Q J<|T (fO eK (.head _) (Y J))<|T (dy (Y J) hI)<|bE h J (fun h=>?_) (fun h=>?_)
         ·exact Z<|dO (cu)<|cd<|af<|aG<|so h▸bH J J J
         ·exact dZ<|ax J<|gm<|dn 76 J<|dn 12 J<|dn 88 J<|dn 91 J<|lI h MN (vF _ _ _) ⟨(km (Y J)),zh,hI,O⟩ fun r11 h l10 c9=>dC J<|cd<|dU<|bN 10 J<|bN 92 J<|dQ 10 J<|aG<|aG<|so h▸bH J J J
       ·refine Z<|bP J<|aC J<|gp h J (fun h=>?_) (fun h=>?_)
        ·exact ax J<|bg pX kh Cy J<|bg vE oy cj J<|lI h MN (vF _ _ _) (bj J) fun r12 h l11 c10=>dC J<|cd<|bT<|dU<|bN 10 J<|bN 84 J<|dQ 10 J<|aG<|aG<|so h▸bH J J J
        ·refine bc<|ay<|ap<|aE<|Q J<|eN J<|bE h J (fun h=>?_) (fun h=>?_)
         ·exact ax J<|dO (cu)<|aM J<|af<|aG<|so h▸bH J J J
         ·refine dZ<|aE<|Q J<|T (fO eK (.head _) (Y J))<|T (dy (Y J) hI)<|bE h J (fun h=>?_) (fun h=>?_)
          ·exact Z<|dO (cu)<|cd<|af<|aG<|so h▸bH J J J
          ·exact dZ<|ax J<|gm<|dn 12 J<|dn 88 J<|dn 91 J<|lI h MN (vF _ _ _) ⟨(km (Y J)),zh,hI,O⟩ fun r13 h l12 c11=>dC J<|cd<|dU<|bN 10 J<|bN 92 J<|dQ 10 J<|aG<|aG<|so h▸bH J J J

end Go.Proofs.YtpgjgkdpeagjbaaGreatDoor

