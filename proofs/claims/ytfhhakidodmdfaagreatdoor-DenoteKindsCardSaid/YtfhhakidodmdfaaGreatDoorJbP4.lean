/- db of this claim: P4. -/
import Derived.Test.YtfhhakidodmdfaaGreatDoorJbT
import Derived.Test.YtfhhakidodmdfaaGreatDoorJbP3
set_option linter.all false
namespace Go.Proofs.YtfhhakidodmdfaaGreatDoor
open Go
set_option maxRecDepth 100000

theorem R1(b:Nat)(ix:OI)(c:aE){R:OW (Int×Bool) aE}(h:pY c=some R):Bk aO 126 [tV (aP b 0)] (dB b c ix) (fun(x:Int×Bool)=>[bM x.1,ig x.2]) R (dB b):=by
 refine Bk.of Tryz.func126 J J J fun w0 S0=>?_;refine(show CG _ _ _ [bx (rH bk [(1,aR (ix.h 0).1 (ix.h 0).2 c.kinds.length),(2,aR (ix.h 1).1 (ix.h 1).2 c.first.length)]) 115 b c,dV nw 39 (ix.h 0).1 (ix.h 0).2 c.kinds,dV bX 3 (ix.h 1).1 (ix.h 1).2 c.first] _ from ?_);refine au<|zo J (TH (fun _ _ h=>by rw [show _=_ from h];rfl) (ht J))<|zo J (aL hV)<|aq<|au<|hX<|hX<|hX<|IM (O1:=dB b c ix) (cts:=[bO (rT (tV (aP b 0))) ()]) (caps:=[.tmp 1]) J aa9 (RR b ix c) ⟨(ht J),aT⟩ J fun v fp=>bp J<|aq<|ak ?_;cases so h;exact Qh J J

theorem MD(l:bN){R:aE×Int×Bool}(h:o7 l=some R):aU aO 72 [tD cZ l] (tT [bO bk R.1,bM R.2.1,ig R.2.2]):=by
 refine KU Tryz.func72 J J J fun w0 S0=>au<|zo J (je J)<|aZ (r:=rV) (x:= .pointer none) kK (fun _=>⟨J,J⟩) J fun b=>aZ (r:=bX) (x:=(0:Int)) cr (fun _=>J) J fun b1=>aZ (r:=rB) (x:=false) Ji (fun _=>J) J fun b2=>aq<|au<|zo J (bB oW J J)<|zo J (ck (r:=rH bk [(1,.slice none 0 0),(2,.slice none 0 0)]) (y:=(⟨l,[],[]⟩:aE)) Zh ZJ (zH Lq ⟨J,J,aT⟩) (⟨_,_,_,_,_,J,V7 HG J J,J,(ht J),J⟩))<|ym (ht J) J fun b3=>bQ true nw 39<|bQ true bX 3 ?_;refine(show RG _ _ _ _ [dV bX 3 none 0 uL,dV nw 39 none 0 OZ,bx (rH bk [(1,aR none 0 OZ.length),(2,aR none 0 uL.length)]) 115 b3 (⟨l,[],[]⟩:aE),bx rB 4 b2 false,bx bX 3 b1 (0:Int),bx rV 109 b (.pointer none)] _ from ?_);refine aZ (r:=rV) (x:= .pointer none) kK (fun _=>⟨J,J⟩) J fun b4=>uj (mI kK J (zq an) J (ht J) (hW (ht J) J)) fun i=>?_;refine(show RG _ _ _ _ [bx rV 109 b4 (aP b3 0),dV bX 3 none 0 uL,dV nw 39 none 0 OZ,bx (rH bk [(1,aR none 0 OZ.length),(2,aR none 0 uL.length)]) 115 b3 (⟨l,[],[]⟩:aE),bx rB 4 b2 false,bx bX 3 b1 (0:Int),bx rV 109 b (.pointer none)] _ from ?_);refine aq<|au<|zo J (cW qG kz J J)<|zo J (bB BD J J)<|zo J (iM uF J)<|bp J<|aq<|ah<|au<|aF J<|zo J (gJ (ht J) hI)<|aF J<|gD J J (fun hg=>dA J)<|gD J J (fun hg=>gu (bK J hg) hI)<|zo J (yO J J)<|aq<|c9 h J (fun h=>?_) (fun h=>?_)
 ·refine au<|zo J (s0 kK (.head _) (ht J))<|uj (EffOK.fr6 (mI kK J (zq an) J (ht J) (hW (ht J) J))) fun i1=>?_;refine(show RG _ _ _ _ [bx rV 109 b (aP b3 0),bx rV 109 b4 (aP b3 0),dV bX 3 none 0 uL,dV nw 39 none 0 OZ,bx (rH bk [(1,aR none 0 OZ.length),(2,aR none 0 uL.length)]) 115 b3 (⟨l,[],[]⟩:aE),bx rB 4 b2 false,bx bX 3 b1 (0:Int)] _ from ?_);refine yk<|ax cr J an J (ht J) hI<|yk<|ax Ji J an J (ht J) hB<|aq<|ak<|ae<|vp<|Ck<|Aa 11 J<|aK<|bn 2 J<|bF<|bn 3 J<|bn 4 J<|bm<|bm<|bm<|rz ?_;cases so h;exact bR (ts:=[bO bk (⟨l,[],[]⟩:aE),bM 0,ig false]) (rvs:=[.cell 2 109,.cell 3 3,.cell 4 4]) J J ⟨BK (j:=11) kK J J,bt cr J J J,bt Ji J J J,aT⟩
 ·refine dS<|ah<|au<|zo J (s0 kK (.head _) (ht J))<|bL<|hX<|qL<|bC h fun it q_it h=>MY (dB b3 (⟨l,[],[]⟩:aE) (Wa [(none,0),(none,0)])) _ J abH (R1 b3 (Wa [(none,0),(none,0)]) (⟨l,[],[]⟩:aE) q_it) ⟨(ht J),aT⟩ J fun v fp=>aq<|ay<|bC h fun r q_r h=>?_;refine Hg (fun(ix:Bool×Int×Bool)=>[bx rV 109 b4 (aP b3 0),bx rB 4 b2 ix.1,bx bX 3 b1 ix.2.1,bx rV 109 b (bif ix.2.2 then aP b3 0 else .pointer none)]) (fun(ix:Bool×Int×Bool)=>(ix.1,ix.2.1,ix.2.2)) (fun _=> .ret) J (ht J) (false,(0:Int),false) J q_r (fun _=>J) J (fun ix x r1 h lp rec1 _ _ _=>?_) (fun i2 j hi bd=>⟨fun hj=>?_,fun _ hj=>?_⟩)
  ·obtain⟨x1,x2,p⟩:=ix
   replace h:oG x x1 x2 p=some r1:=h
   refine(show CG _ _ _ [re lp rec1 .ready none,bx rV 109 b4 (aP b3 0),bx rB 4 b2 x1,bx bX 3 b1 x2,bx rV 109 b (bif p then aP b3 0 else .pointer none)] _ from ?_);refine FD (G' :=[(0,tD cZ l),(1,bO cZ l),(2,tV (aP b 0)),(3,tV (aP b1 0)),(4,tV (aP b2 0)),(5,tV (aP b4 0)),(6,jk l.Nodes),(9,tD cZ l),(10,tD (rH bk [(1,.slice none 0 0),(2,.slice none 0 0)]) (⟨l,[],[]⟩:aE)),(11,tV (aP b3 0)),(12,bO (fW aI) l.Nodes),(13,ca (aI) l.Nodes),(14,jk l.Nodes),(15,jk l.Nodes),(16,ig (decide ((l.Nodes.length:Int)<(1:Int)))),(17,ig (decide ((l.Nodes.length:Int)<(1:Int)))),(18,oX (!(decide ((l.Nodes.length:Int)<(1:Int)))) (jk l.Nodes)),(19,oX (!(decide ((l.Nodes.length:Int)<(1:Int)))) (ig (decide ((60:Int)<(l.Nodes.length:Int))))),(20,ig ((decide ((l.Nodes.length:Int)<(1:Int)))||(decide ((60:Int)<(l.Nodes.length:Int))))),(22,tV (aP b3 0)),(24,bM x.1),(25,ig x.2)]) ?_ ⟨J,J,J,J,J,J,J,J,J,J,J,J,J,J,J,J,J,J,J,J,J,J,aT⟩;refine au<|bp J<|aq<|av<|bp J<|aQ<|Hl<|ay<|au<|aF J<|zo J (fS (ht J))<|aq<|c9 h J (fun h=>?_) (fun h=>?_)
   ·refine au<|zo J (s0 kK (.tail _ (.head _)) (ht J))<|aF J<|uj (EffOK.fr4 (mI kK J (zq an) J (ht J) (hW (ht J) J))) fun i3=>?_;refine(show RG _ _ _ _ [bx rV 109 b (aP b3 0),re lp rec1 .busy none,bx rV 109 b4 (aP b3 0),bx rB 4 b2 x1,bx bX 3 b1 x2] _ from ?_);refine yl<|ax cr J an J (ht J) (ht J)<|yl<|ax Ji J an J (ht J) hB<|aq<|ak<|aA<|aK<|aK<|aK<|fq<|fq ?_;cases so h;exact Br 0 J (false,x.1,true) J J
   ·refine bA<|ap ?_;cases so h;exact wh (x1,x2,p) J J
  ·skip
   obtain⟨x3,x4,p1⟩:=i2
   obtain rfl:x3=r.1.2.1:=congrArg (fun q:Bool×Int×Bool=>q.1) hi
   obtain rfl:x4=r.1.2.2.1:=congrArg (fun q:Bool×Int×Bool=>q.2.1) hi
   obtain rfl:p1=r.1.2.2.2:=congrArg (fun q:Bool×Int×Bool=>q.2.2) hi
   have h:=ct h (by rw [hj];rfl);refine(show AT _ _ _ [Ba bd,bx (rH bk [(1,aR (j.h 0).1 (j.h 0).2 r.2.kinds.length),(2,aR (j.h 1).1 (j.h 1).2 r.2.first.length)]) 115 b3 r.2,dV nw 39 (j.h 0).1 (j.h 0).2 r.2.kinds,dV bX 3 (j.h 1).1 (j.h 1).2 r.2.first,bx rV 109 b4 (aP b3 0),bx rB 4 b2 r.1.2.1,bx bX 3 b1 r.1.2.2.1,bx rV 109 b (bif r.1.2.2.2 then aP b3 0 else .pointer none)] _ from ?_);refine cO (G' :=[(0,tD cZ l),(1,bO cZ l),(2,tV (aP b 0)),(3,tV (aP b1 0)),(4,tV (aP b2 0)),(5,tV (aP b4 0)),(6,jk l.Nodes),(9,tD cZ l),(10,tD (rH bk [(1,.slice none 0 0),(2,.slice none 0 0)]) (⟨l,[],[]⟩:aE)),(11,tV (aP b3 0)),(12,bO (fW aI) l.Nodes),(13,ca (aI) l.Nodes),(14,jk l.Nodes),(15,jk l.Nodes),(16,ig (decide ((l.Nodes.length:Int)<(1:Int)))),(17,ig (decide ((l.Nodes.length:Int)<(1:Int)))),(18,oX (!(decide ((l.Nodes.length:Int)<(1:Int)))) (jk l.Nodes)),(19,oX (!(decide ((l.Nodes.length:Int)<(1:Int)))) (ig (decide ((60:Int)<(l.Nodes.length:Int))))),(20,ig ((decide ((l.Nodes.length:Int)<(1:Int)))||(decide ((60:Int)<(l.Nodes.length:Int))))),(22,tV (aP b3 0))]) ?_ ⟨J,J,J,J,J,J,J,J,J,J,J,J,J,J,J,J,J,J,J,J,aT⟩;refine ap<|aw<|ah<|bC h fun e q_e h=>?_
   refine oM 14 [tc (tV (aP b3 0)),tc (jk l.Nodes),tc (bM (IntKind.i64.wrap ((l.Nodes.length:Int)-(1:Int)))),tc (tV (aP b3 0)),tc (tV (aP b3 0)),tc (tV (aP b3 2)),tc (tO bX (j.h 1).1 (j.h 1).2 r.2.first),tc (jk l.Nodes),tc (bM (IntKind.i64.wrap ((l.Nodes.length:Int)-(1:Int)))),tc (bO bX e),tc (bM e),tc (ig (e==(0:Int))),tc (C3),tc (C3)] [false,false,false,false,false,false,false,false,false,false,false,false,true,true] [fun _=>[Ba bd,bx (rH bk [(1,aR (j.h 0).1 (j.h 0).2 r.2.kinds.length),(2,aR (j.h 1).1 (j.h 1).2 r.2.first.length)]) 115 b3 r.2,dV nw 39 (j.h 0).1 (j.h 0).2 r.2.kinds,dV bX 3 (j.h 1).1 (j.h 1).2 r.2.first,bx rV 109 b4 (aP b3 0),bx rB 4 b2 r.1.2.1,bx bX 3 b1 r.1.2.2.1,bx rV 109 b (bif r.1.2.2.2 then aP b3 0 else .pointer none)],fun sg=>[bx rV 109 b (aP b3 0),Ba bd,bx (rH bk [(1,aR (j.h 0).1 (j.h 0).2 r.2.kinds.length),(2,aR (j.h 1).1 (j.h 1).2 r.2.first.length)]) 115 b3 r.2,dV nw 39 (j.h 0).1 (j.h 0).2 r.2.kinds,dV bX 3 (j.h 1).1 (j.h 1).2 r.2.first,bx rV 109 b4 (aP b3 0),bx rB 4 b2 r.1.2.1,bx bX 3 b1 r.1.2.2.1],fun sg=>[bx bX 3 b1 (IntKind.i64.wrap ((l.Nodes.length:Int)-(1:Int))),bx rV 109 b (aP b3 0),Ba bd,bx (rH bk [(1,aR (j.h 0).1 (j.h 0).2 r.2.kinds.length),(2,aR (j.h 1).1 (j.h 1).2 r.2.first.length)]) 115 b3 r.2,dV nw 39 (j.h 0).1 (j.h 0).2 r.2.kinds,dV bX 3 (j.h 1).1 (j.h 1).2 r.2.first,bx rV 109 b4 (aP b3 0),bx rB 4 b2 r.1.2.1]] J mixed J J J J J
    ⟨⟨[⟨5,fun _=>tV (aP b4 0),none⟩],_,0,0,J,⟨(fun _=>J),aT⟩,J,J,J,J,J,zj (fun sg=>aB J (s0 kK (.tail _ (.tail _ (.tail _ (.tail _ (.head _))))) (ht J)))⟩,
    ⟨⟨[⟨6,fun _=>tD bX (l.Nodes.length:Int),none⟩],_,0,1,J,⟨(fun _=>J),aT⟩,J,J,J,J,J,fun _ sg _ _=>aB J (dA J)⟩,
    ⟨⟨[⟨31,fun _=>tD bX (l.Nodes.length:Int),some 1⟩],_,0,1,J,⟨(fun _=>J),aT⟩,J,J,J,J,J,fun _ sg _ _=>aB J (jp (ht J) hI)⟩,
    ⟨⟨[⟨5,fun _=>tV (aP b4 0),none⟩],_,0,2,J,⟨(fun _=>J),aT⟩,J,J,J,J,J,FK (fun sg=>aB J (s0 kK (.tail _ (.tail _ (.tail _ (.tail _ (.head _))))) (ht J))) (FK (fun sg=>aB J (s0 kK (.tail _ (.tail _ (.tail _ (.tail _ (.tail _ (.head _)))))) (ht J))) (zj (fun sg=>aB J (s0 kK (.tail _ (.tail _ (.tail _ (.tail _ (.tail _ (.tail _ (.head _))))))) (ht J)))))⟩,
    ⟨⟨[⟨33,fun _=>tV (aP b3 0),some 3⟩],_,0,2,J,⟨(fun _=>J),aT⟩,J,J,J,J,J,fun _ sg _ _=>aB J (dE (ht J))⟩,
    ⟨⟨[⟨34,fun _=>tV (aP b3 0),some 4⟩],_,0,2,J,⟨(fun _=>J),aT⟩,J,J,J,J,J,fun _ sg _ _=>aB J (kP 2 uc J J J)⟩,
    ⟨⟨[⟨35,fun _=>tV (aP b3 2),some 5⟩],_,0,2,J,⟨(fun _=>J),aT⟩,J,J,J,J,J,FK (fun sg=>aB J (df d9 J (.tail _ (.head _)) (.tail _ (.tail _ (.tail _ (.head _)))) (ht J))) (FK (fun sg=>aB J (df d9 J (.tail _ (.tail _ (.head _))) (.tail _ (.tail _ (.tail _ (.tail _ (.head _))))) (ht J))) (zj (fun sg=>aB J (df d9 J (.tail _ (.tail _ (.tail _ (.head _)))) (.tail _ (.tail _ (.tail _ (.tail _ (.tail _ (.head _)))))) (ht J)))))⟩,
    ⟨⟨[⟨6,fun _=>tD bX (l.Nodes.length:Int),none⟩],_,0,2,J,⟨(fun _=>J),aT⟩,J,J,J,J,J,fun _ sg _ _=>aB J (dA J)⟩,
    ⟨⟨[⟨37,fun _=>tD bX (l.Nodes.length:Int),some 7⟩],_,0,2,J,⟨(fun _=>J),aT⟩,J,J,J,J,J,fun _ sg _ _=>aB J (jp (ht J) hI)⟩,
    ⟨⟨[⟨36,fun _=>tO bX (j.h 1).1 (j.h 1).2 r.2.first,some 6⟩,⟨38,fun _=>tD bX (IntKind.i64.wrap ((l.Nodes.length:Int)-(1:Int))),some 8⟩],_,0,2,J,⟨(fun _=>J),(fun _=>J),aT⟩,J,J,J,J,J,fun _ sg _ _=>aB J (bq gM cr J (lk (ht J)) (ht J) q_e)⟩,
    ⟨⟨[⟨39,fun _=>bO bX e,some 9⟩],_,0,2,J,⟨(fun _=>J),aT⟩,J,J,J,J,J,fun _ sg _ _=>aB J (bB cr J J)⟩,
    ⟨⟨[⟨40,fun _=>tD bX e,some 10⟩],_,0,2,J,⟨(fun _=>J),aT⟩,J,J,J,J,J,fun _ sg _ _=>aB J (np J)⟩,
    ⟨⟨[⟨2,fun _=>tV (aP b 0),none⟩,⟨30,fun _=>tV (aP b3 0),some 0⟩],_,J,⟨(fun _=>J),(fun _=>J),aT⟩,J,J,J,fun sg=>eC J (EffOK.fr7 (mI kK J (zq an) J (ht J) (hW (ht J) J)))⟩,
    ⟨⟨[⟨3,fun _=>tV (aP b1 0),none⟩,⟨32,fun _=>tD bX (IntKind.i64.wrap ((l.Nodes.length:Int)-(1:Int))),some 2⟩],_,J,⟨(fun _=>J),(fun _=>J),aT⟩,J,J,J,fun sg=>eC J (EffOK.fr7 (mI cr J (zq an) J (ht J) (ht J)))⟩,
    aT⟩⟩⟩⟩⟩⟩⟩⟩⟩⟩⟩⟩⟩⟩ (fun sg=>?_)
   refine(show RG _ _ _ _ [bx bX 3 b1 (IntKind.i64.wrap ((l.Nodes.length:Int)-(1:Int))),bx rV 109 b (aP b3 0),Ba bd,bx (rH bk [(1,aR (j.h 0).1 (j.h 0).2 r.2.kinds.length),(2,aR (j.h 1).1 (j.h 1).2 r.2.first.length)]) 115 b3 r.2,dV nw 39 (j.h 0).1 (j.h 0).2 r.2.kinds,dV bX 3 (j.h 1).1 (j.h 1).2 r.2.first,bx rV 109 b4 (aP b3 0),bx rB 4 b2 r.1.2.1] _ from ?_);refine PX<|ax Ji J an J (ht J) (ht J)<|aq<|ak<|fq<|Ck<|Aa 11 J<|aK<|bn 2 J<|bF<|bn 3 J<|bn 4 J<|bF<|bm<|bF<|bm<|bF<|bm<|Bq<|rz ?_;cases so h;exact bR (ts:=[bO bk r.2,bM (IntKind.i64.wrap ((l.Nodes.length:Int)-(1:Int))),ig (e==(0:Int))]) (rvs:=[.cell 2 109,.cell 3 3,.cell 4 4]) J J ⟨BK (j:=11) kK J J,bt cr J J J,bt Ji J J J,aT⟩
  ·skip
   obtain⟨x5,x6,p2⟩:=i2
   obtain rfl:x5=r.1.2.1:=congrArg (fun q:Bool×Int×Bool=>q.1) hi
   obtain rfl:x6=r.1.2.2.1:=congrArg (fun q:Bool×Int×Bool=>q.2.1) hi
   obtain rfl:p2=r.1.2.2.2:=congrArg (fun q:Bool×Int×Bool=>q.2.2) hi
   have h:=cf h (by rw [hj];rfl);refine(show CG _ _ _ [Ba bd,bx (rH bk [(1,aR (j.h 0).1 (j.h 0).2 r.2.kinds.length),(2,aR (j.h 1).1 (j.h 1).2 r.2.first.length)]) 115 b3 r.2,dV nw 39 (j.h 0).1 (j.h 0).2 r.2.kinds,dV bX 3 (j.h 1).1 (j.h 1).2 r.2.first,bx rV 109 b4 (aP b3 0),bx rB 4 b2 r.1.2.1,bx bX 3 b1 r.1.2.2.1,bx rV 109 b (bif r.1.2.2.2 then aP b3 0 else .pointer none)] _ from ?_);refine FD (G' :=[(0,tD cZ l),(1,bO cZ l),(2,tV (aP b 0)),(3,tV (aP b1 0)),(4,tV (aP b2 0)),(5,tV (aP b4 0)),(6,jk l.Nodes),(9,tD cZ l),(10,tD (rH bk [(1,.slice none 0 0),(2,.slice none 0 0)]) (⟨l,[],[]⟩:aE)),(11,tV (aP b3 0)),(12,bO (fW aI) l.Nodes),(13,ca (aI) l.Nodes),(14,jk l.Nodes),(15,jk l.Nodes),(16,ig (decide ((l.Nodes.length:Int)<(1:Int)))),(17,ig (decide ((l.Nodes.length:Int)<(1:Int)))),(18,oX (!(decide ((l.Nodes.length:Int)<(1:Int)))) (jk l.Nodes)),(19,oX (!(decide ((l.Nodes.length:Int)<(1:Int)))) (ig (decide ((60:Int)<(l.Nodes.length:Int))))),(20,ig ((decide ((l.Nodes.length:Int)<(1:Int)))||(decide ((60:Int)<(l.Nodes.length:Int))))),(22,tV (aP b3 0))]) ?_ ⟨J,J,J,J,J,J,J,J,J,J,J,J,J,J,J,J,J,J,J,J,aT⟩;refine ak ?_;refine aA (ae ?_);refine bC h fun u q_u h=>ST (O' :=[Ba bd,bx (rH bk [(1,aR (j.h 0).1 (j.h 0).2 r.2.kinds.length),(2,aR (j.h 1).1 (j.h 1).2 r.2.first.length)]) 115 b3 r.2,dV nw 39 (j.h 0).1 (j.h 0).2 r.2.kinds,dV bX 3 (j.h 1).1 (j.h 1).2 r.2.first,bx rV 109 b4 (aP b3 0),bx rB 4 b2 r.1.2.1,bx bX 3 b1 r.1.2.2.1,bx rV 109 b (aP b3 0)]) (by rw [show r.1.2.2.2=true from Rm q_u];rfl)<|bF<|Ck<|Aa 11 J<|vp<|bn 2 J<|Hk<|bn 3 J<|fq<|bn 4 J<|bF<|bm<|bF<|bm<|bF<|bm<|Bq<|rz ?_;cases so h;exact bR (ts:=[bO bk r.2,bM r.1.2.2.1,ig r.1.2.1]) (rvs:=[.cell 2 109,.cell 3 3,.cell 4 4]) J J ⟨BK (j:=11) kK J J,bt cr J J J,bt Ji J J J,aT⟩

theorem ME(l:bN){R:Int×Int}(h:pu l=some R):aU aO 50 [tD cZ l] (tT [bM R.1,bM R.2]):=by
 refine aU.of Tryz.func50 J J J fun w0 S0=>au<|zo J (je J)<|zo J (cw)<|zo J (cw)<|aq<|au<|zo J (bB oW J J)<|bC h fun r q_r h=>zo J (aD YG (MD _ q_r) ⟨(ht J),aT⟩)<|aF J<|zo J (hY J J)<|zo J (hY J J)<|zo J (hY J J)<|bp J<|bp J<|bp J<|aq<|ah<|ah ?_;refine av<|aF J<|zo J (fS (ht J))<|aq<|c9 h J (fun h=>?_) (fun h=>?_)
 ·refine au<|aF J<|bp J<|zo J (cw)<|aq<|ak<|ae ?_;cases so h;exact cJ J J J
 ·refine dS<|au<|zo J (cw)<|zo J (cw)<|aq<|ak ?_;cases so h;exact cJ J J J

theorem X7(rows:(List (List ac)))(kinds:(List Int)){R:Bool}(h:rn rows kinds=some R):aU aO 61 [ca (dj) rows,lW kinds] (ig R):=by
 refine aU.of Tryz.func61 J J J fun w0 S0=>au<|zo J (jj)<|aq<|ah<|au<|aF J<|zo J (iM jW J)<|zo J (gu (ht J) hI)<|aq<|c9 h J (fun h=>?_) (fun h=>?_)
 ·refine au<|zo J (jj)<|aq<|ak<|ae ?_;cases so h;exact aG J J
 ·refine dS<|ah<|au<|aF J<|zo J (iM jW J)<|zo J (bD hI)<|aq<|ay<|ba (k:=12) J fun hN=>bI ?_;refine aS (dQ (Z:=fun ls i=>(rows.drop i=ls)∧lU kinds ls=some R) (Of:=fun _ i=>[]) (Gf:=fun _ i=>[(1,lW kinds),(12,ca (dj) rows),(13,jk rows),(14,bM (i:Int))]) (fun i h=>?_) (fun e tl ih i h=>?_) rows 0 ⟨J,h⟩) (bv J)
  ·obtain⟨hx,h⟩:=h
   refine aC<|au<|zo J (fD J J)<|aq<|ah<|bz (ht J) (di hx)<|bu ?_;refine ai (ai (aN ?_));refine aw<|au<|zo rfl (jj)<|aq<|ak ?_;cases so h;exact aG J J
  ·obtain⟨hx,h⟩:=h
   refine aC<|au<|zo J (fD J J)<|aq<|ah<|bw (ht J) (dg hx)<|dS<|ah<|ay<|au<|zo J (lX jW d3 J J J (cS hx))<|zo J (bB d3 J J)<|bp J<|aq<|ah<|au<|aF J<|zo J (iM iK J) ?_;refine aF J<|zo J (iM gM J)<|zo J (fj (ht J) (ht J))<|aq<|c9 h J (fun h=>?_) (fun h=>?_)
   ·refine au<|zo J (jj)<|aq<|ak ?_;refine ae (aA (ae (ae (aA (ae ?_)))));cases so h;exact aG J J
   ·refine dS<|au<|aF J<|zo J (iM iK J)<|zo J (bD hI)<|aq<|ay<|ba (k:=23) J fun hN1=>bI ?_;refine aS (dQ (Z:=fun ls1 i1=>(e.drop i1=ls1)∧lT kinds (lU kinds tl) ls1 i1=some R) (Of:=fun _ i1=>[]) (Gf:=fun _ i1=>[(1,lW kinds),(12,ca (dj) rows),(13,jk rows),(14,bM (i:Int)),(23,ca (af) e),(24,jk e),(25,bM (i1:Int))]) (fun i1 h=>?_) (fun e1 tl1 ih1 i1 h=>?_) e 0 ⟨J,h⟩) (bv J)
    ·obtain⟨hx1,h⟩:=h
     refine aC<|au<|zo J (fD J J)<|aq<|ah<|bz (ht J) (di hx1)<|bu ?_;refine ai (ai (aN ?_));refine ap<|aw<|av<|zo rfl (lY (cA hx hN) rfl)<|aF rfl<|aQ ?_;exact bf (aS (ih (i+1) ⟨cz hx,h⟩) (bv J))
    ·obtain⟨hx1,h⟩:=h
     refine aC<|au<|zo J (fD J J)<|aq<|ah<|bw (ht J) (dg hx1)<|dS<|ah<|ay<|au<|aF J<|zo J (lX iK aH J J J (cS hx1))<|zo J (bB aH J J)<|aZ (r:=af) (x:=ie) aH (fun _=>bh _) J fun b=>bp J<|ax aH J an J (ht J) (ht J)<|aW 8 J<|aq<|ah ?_;refine bC h fun r q_r h=>bC h fun t q_t h=>?_
     obtain⟨t1,h1t,h0t⟩:=og q_t
     have q_t1g:=fun hb=>(h1t hb).1
     obtain⟨e2,h1t1,h0t1⟩:=og3 q_t1g
     have q_e2g:=fun hb=>(h1t1 hb).1
     refine cU (ts:=[_,_,_,_,_,_,_,_,_,_,_,_,_,_,_,_,_]) mixed J J
      ⟨fd 8 J J J (bB aH J J),
      ⟨bW 30 0 J J J (aD KP (A2 _ q_r) ⟨(ht J),aT⟩),
      ⟨bW 31 1 J J J (tJ J),
      ⟨bW 32 2 J J J (dA J),
      ⟨q5 8 33 3 J J J J (kM J J J J (fun hg=>cW gK cy J J)),
      ⟨lh 34 4 33 3 J J J J (kM J J J J (fun hg=>bJ cr J J (bK J hg))),
      ⟨lh 35 5 33 3 J J J J (kM J J J J (fun hg=>fj (bK J hg) hI)),
      ⟨lh 36 6 33 3 J J J J (kM J J J J (fun hg=>bD (bK J hg))),
      ⟨q5 8 37 7 J J J J (wg J J J J (fun hg=>cW gK cy J J)),
      ⟨lh 38 8 37 7 J J J J (wg J J J J (fun hg=>bJ cr J J (bK J hg))),
      ⟨q5 1 37 7 J J J J (wg J J J J (fun hg=>dA J)),
      ⟨q5 7 37 7 J J J J (wg J J J J (fun hg=>dA J)),
      ⟨tK 40 10 41 11 37 7 J J J J J (wg J J J J (fun hg=>bq gM cr J (bK J hg) (bK J hg) (q_e2g hg))),
      ⟨lh 42 12 37 7 J J J J (wg J J J J (fun hg=>bJ cr J J (bK J hg))),
      ⟨tK 39 9 43 13 37 7 J J J J J (wg J J J J (fun hg=>fj (bK J hg) (bK J hg))),
      ⟨tK 37 7 44 14 33 3 J J J J J (kM J J J J (fun hg=>d4 (bK J hg) (fun hb=>(bK J (Bi hg hb))) (fun hb=>(h1t1 (Bi hg hb)).2) (fun hb=>h0t1 hg hb))),
      ⟨d8 33 3 45 15 J J J J (ir (ht J) (fun hb=>(bK J (wv hb))) (fun hb=>(h1t hb).2) h0t),
      aT⟩⟩⟩⟩⟩⟩⟩⟩⟩⟩⟩⟩⟩⟩⟩⟩⟩ ?_
     refine aw<|c9 h rfl (fun h=>?_) (fun h=>?_)
     ·refine au<|zo J (jj)<|aq<|ak ?_;refine aA (ae (ae (aA (aA (ae (ae (aA (ae ?_))))))));cases so h;exact aG J J
     ·refine bA<|ap<|aw<|av<|zo rfl (lY (cA hx1 hN1) rfl)<|aF rfl<|aQ ?_;exact bf (aS (ih1 (i1+1) ⟨cz hx1,h⟩) (bv J))

theorem Yr(l:bN)(b:eD){R:Bool}(h:ug l b=some R):aU aO 16 [tD cZ l,tD kG b] (ig R):=by
 refine aU.of Tryz.func16 J J J fun w0 S0=>au<|zo J (je J)<|zo J (je J)<|zo J (jj)<|aq<|ah<|au<|zo J (bB oW J J)<|bC h fun r q_r h=>zo J (aD YH (ME _ q_r) ⟨(ht J),aT⟩)<|aF J<|zo J (hY J J)<|zo J (hY J J)<|bp J<|bp J<|aq<|au<|aF J ?_;refine zo J (tJ J)<|aq<|c9 h J (fun h=>?_) (fun h=>?_)
 ·refine au<|zo J (jj)<|aq<|ak<|ae ?_;cases so h;exact aG J J
 ·refine dS<|ah<|au<|zo J (cW qG kz J J)<|zo J (bB BD J J)<|zo J (iM uF J)<|zo J (bD hI)<|aq<|ay<|ba (k:=17) J fun hN=>bI ?_;refine aS (dQ (Z:=fun ls i=>(l.Nodes.drop i=ls)∧nY b ls=some R) (Of:=fun _ i=>[]) (Gf:=fun _ i=>[(3,bO kG b),(17,ca (aI) l.Nodes),(18,jk l.Nodes),(19,bM (i:Int))]) (fun i h=>?_) (fun e tl ih i h=>?_) l.Nodes 0 ⟨J,h⟩) (bv J)
  ·obtain⟨hx,h⟩:=h
   refine aC<|au<|zo J (fD J J)<|aq<|ah<|bz (ht J) (di hx)<|bu ?_;refine ai (ai (aN ?_));refine aw<|au<|zo rfl (jj)<|aq<|ak ?_;cases so h;exact aG J J
  ·obtain⟨hx,h⟩:=h
   refine aC<|au<|zo J (fD J J)<|aq<|ah<|bw (ht J) (dg hx)<|dS<|ah<|ay<|au<|zo J (lX uF gN J J J (cS hx))<|zo J (bB gN J J)<|aZ (r:=aI) (x:=Ho) gN (fun _=>ny _) J fun b1=>ax gN J an J (ht J) (ht J)<|aW 8 J<|aq<|ah<|bC h fun t q_t h=>?_
   obtain⟨t1,h1t,h0t⟩:=og q_t
   have q_t1g:=fun hb=>(h1t hb).1
   obtain⟨e1,h1t1,h0t1⟩:=og3 q_t1g
   have q_e1g:=fun hb=>(h1t1 hb).1
   obtain⟨r1,h1t1⟩:=XF (fun hb=>(h1t1 hb).2)
   have q_r1g:=fun hb=>(h1t1 hb).1
   refine cU (ts:=[_,_,_,_,_,_,_,_,_,_,_,_,_,_,_,_,_,_,_,_,_,_,_]) mixed J J
    ⟨fd 8 J J J (cW zI o8 J J),
    ⟨bW 23 0 J J J (bB cr J J),
    ⟨bW 24 1 J J J (np J),
    ⟨bW 25 2 J J J (dA J),
    ⟨q5 8 26 3 J J J J (dY J J J J (fun hg=>cW uC mC J J)),
    ⟨lh 27 4 26 3 J J J J (dY J J J J (fun hg=>bJ cr J J (bK J hg))),
    ⟨q5 3 26 3 J J J J (dY J J J J (fun hg=>cW zK qE J J)),
    ⟨lh 29 6 26 3 J J J J (dY J J J J (fun hg=>bJ uP J J (bK J hg))),
    ⟨lh 30 7 26 3 J J J J (dY J J J J (fun hg=>dO ot (bK J hg))),
    ⟨tK 28 5 31 8 26 3 J J J J J (dY J J J J (fun hg=>iu (bK J hg) (bK J hg))),
    ⟨lh 32 9 26 3 J J J J (dY J J J J (fun hg=>bD (bK J hg))),
    ⟨q5 3 33 10 J J J J (qX J J J J (fun hg=>cW zK qE J J)),
    ⟨lh 34 11 33 10 J J J J (qX J J J J (fun hg=>bJ uP J J (bK J hg))),
    ⟨q5 8 33 10 J J J J (qX J J J J (fun hg=>cW uC mC J J)),
    ⟨lh 36 13 33 10 J J J J (qX J J J J (fun hg=>bJ cr J J (bK J hg))),
    ⟨tK 35 12 37 14 33 10 J J J J J (qX J J J J (fun hg=>bq ot gF J (bK J hg) (bK J hg) (q_e1g hg))),
    ⟨lh 38 15 33 10 J J J J (qX J J J J (fun hg=>bJ gF J J (bK J hg))),
    ⟨q5 8 33 10 J J J J (qX J J J J (fun hg=>cW uB nS J J)),
    ⟨lh 40 17 33 10 J J J J (qX J J J J (fun hg=>bJ d9 J J (bK J hg))),
    ⟨tK 39 16 41 18 33 10 J J J J J (qX J J J J (fun hg=>aD act (X7 _ _ (q_r1g hg)) ⟨(bK J hg),(bK J hg),aT⟩)),
    ⟨lh 42 19 33 10 J J J J (qX J J J J (fun hg=>fS (bK J hg))),
    ⟨tK 33 10 43 20 26 3 J J J J J (dY J J J J (fun hg=>ir (bK J hg) (fun hb=>(bK J (Bi hg (wv hb)))) (fun hb=>(h1t1 (Bi hg hb)).2) (fun hb=>h0t1 hg hb))),
    ⟨d8 26 3 44 21 J J J J (d4 (ht J) (fun hb=>(bK J hb)) (fun hb=>(h1t hb).2) h0t),
    aT⟩⟩⟩⟩⟩⟩⟩⟩⟩⟩⟩⟩⟩⟩⟩⟩⟩⟩⟩⟩⟩⟩⟩ ?_
   refine aw<|c9 h rfl (fun h=>?_) (fun h=>?_)
   ·refine au<|zo J (jj)<|aq<|ak ?_;refine aA (ae (ae (aA (ae ?_))));cases so h;exact aG J J
   ·refine bA<|ap<|aw<|av<|zo rfl (lY (cA hx hN) rfl)<|aF rfl<|aQ ?_;exact bf (aS (ih (i+1) ⟨cz hx,h⟩) (bv J))

theorem RQ(l:bN){R:(List Int)×Int}(h:pt l=some R):aU aO 23 [tD cZ l] (tT [lW R.1,bM R.2]):=by
 refine aU.of Tryz.func23 J J J fun w0 S0=>au<|zo J (je J)<|zo J (aL (show aJ _ _ _ wN from j9))<|zo J (cw)<|aq<|au<|zo J (bB oW J J)<|bC h fun r q_r h=>zo J (aD YG (MD _ q_r) ⟨(ht J),aT⟩)<|aF J<|zo J (hY J J)<|zo J (hY J J)<|zo J (hY J J)<|bp J<|bp J<|bp J<|aq<|ah<|ah ?_;refine av<|aF J<|zo J (fS (ht J))<|aq<|c9 h J (fun h=>?_) (fun h=>?_)
 ·refine au<|zo J (aL (show aJ _ _ _ wN from j9))<|zo J (cw)<|aq<|ak<|ae ?_;cases so h;exact cJ J J J
 ·refine dS<|au<|aF J<|zo J (H2 (ht J))<|zo J (cW nt Ii J J)<|zo J (bB sN J J)<|aF J<|bC h fun e q_e h=>zo J (lX vv d9 J J J q_e)<|zo J (bB d9 J J)<|bC h fun r1 q_r1 h=>iR Sh (Ip _ q_r1) ⟨(ht J),aT⟩ J fun l1 c=>bp J<|zo J (cw)<|aq<|ak<|jA<|cB 2 J<|cB 22 J<|jB 2 J<|bm ?_;cases so h;exact cJ J J J

theorem ZT(b:Nat)(ix:OI)(r:cT)(n:am){R:(List (List ac))×Int}(h:kS r n=some R):c0 aO 51 [tV (aP b 0),tD aI n] (jq b r ix) (fun _:OI=>tT [ca (dj) R.1,bM R.2]) (fun _=>(jq b r ix)):=by
 refine c0.of Tryz.func51 J J J fun w0 S0=>?_;refine(show CG _ _ _ [bx (rH ee [(1,aR (ix.h 0).1 (ix.h 0).2 r.rows.length),(2,aR (ix.h 1).1 (ix.h 1).2 r.width.length)]) 96 b r,dV dT 32 (ix.h 0).1 (ix.h 0).2 r.rows,dV bX 3 (ix.h 1).1 (ix.h 1).2 r.width] _ from ?_);refine au<|zo J (je J)<|zo J (aL (show aJ _ _ _ vA from j9))<|zo J (cw)<|aq<|ah<|bC h fun e q_e h=>?_
 refine cU (ts:=[_,_,_,_,_,_,_,_,_,_,_]) mixed J J
  ⟨fd 0 J J J (dA J),
  ⟨bW 6 0 J J J (dE (ht J)),
  ⟨bW 7 1 J J J (kP 0 XU J J J),
  ⟨bW 8 2 J J J (kP 0 zK J J J),
  ⟨bW 9 3 J J J (cd (r:=rH ee [(1,aR (ix.h 0).1 (ix.h 0).2 r.rows.length),(2,aR (ix.h 1).1 (ix.h 1).2 r.width.length)]) (x:=r) uP J J (T7 (vb RB qE)) (.head _) (ht J)),
  ⟨fd 3 J J J (cW uC mC J J),
  ⟨bW 11 5 J J J (bB cr J J),
  ⟨d8 10 4 12 6 J J J J (lX ot gF J J J q_e),
  ⟨bW 13 7 J J J (bB gF J J),
  ⟨bW 14 8 J J J (uM J),
  ⟨O4 J J (cw),
  aT⟩⟩⟩⟩⟩⟩⟩⟩⟩⟩⟩ ?_
 refine aw<|ak<|aK<|aK<|aK ?_;cases so h;exact d7 (ts:=[ca (dj) e,bM 0]) (rvs:=[.tmp 4,.tmp 5]) J J ⟨bc J,bc J,aT⟩ pE J J

theorem RY(n:Int){R:(List ac)}(h:gz n=some R):f9 aO 172 [tV (.slice none 0 0),bM n] false af 46 R:=by
 refine f9.of Tryz.func172 J J J fun w0 S0=>au<|bQ false af 46<|zo J (aL s9)<|aq ?_;refine vo (Z:=io n=some R) (Of:=[]) (Gf:=[(0,tV (.slice none 0 0)),(1,bM n)]) (fun h=>?_) (fun K=>?_)
 ·skip
  refine yo (Z:=fun s l c=>im s=some R) (Of:=fun s l c=>[fx af 46 l c s]) (Gf:=fun s l c=>[(0,rL l c s)]) (fun s l c h=>?_) (fun K1=>?_)
  ·skip
   refine au<|aF J<|bp J<|aq<|ak ?_;cases so h;exact gm J J
  ·skip
   refine au<|aF J<|aF J<|zo J (sx iK (ht J))<|aF J<|zo J (sw iK (ht J))<|zo J (jp (ht J) (ht J))<|zo J (jp (ht J) (ht J))<|bp J<|aq<|au<|aF J<|zo J (gu (ht J) hI)<|aq<|c9 h J (fun h=>?_) (fun h=>?_)
   ·refine av<|aF J<|aF J<|zo J (sx iK (ht J))<|zo J (xf iK aH (ht J) (ht J))<|aF J<|bC h fun u q_u h=>bC h fun mk q_mk h=>zU (xr (r:=af) (x:=ie) aH J J J J iK kW (fun _=>bh _) (ht J) (ht J) (ET q_u) q_mk) J fun i=>aF J<|zo J (sw iK (ht J))<|bC h fun y q_y h=>zo J (k7 iK aH J (.head _) (ht J) (ht J) q_y)<|we q_y<|bp J<|aQ ?_;exact cO (K1 y (i.h 0).1 (i.h 0).2 h) (bv J)
   ·refine bA<|FF false af 46 ?_;exact cO (K1 Hq none 0 h) (bv J)
 ·skip
  refine au<|aF J<|zo J (gJ (ht J) hI)<|aq<|c9 h J (fun h=>?_) (fun h=>?_)
  ·refine av ?_;exact(nn h).elim
  ·refine bA<|bm ?_;exact cO (K h) (bv J)
theorem KF(slices:(List (List ac))){R:(List ac)}(h:dy slices=some R):f9 aO 104 [ca (dj) slices] false af 46 R:=by
 refine f9.of Tryz.func104 J J J fun w0 S0=>au<|bQ false af 46<|zo J (aL s9)<|aq<|au<|zo J (cw)<|aq<|ah<|au<|aF J<|zo J (iM jW J)<|zo J (bD hI)<|aq<|ay<|ba (k:=9) J fun hN=>bI<|qY ?_;refine aS (n7 (Z:=fun ls i size=>(slices.drop i=ls)∧eV slices ls size=some R) (Of:=fun _ i size=>[]) (Gf:=fun _ i size=>[(0,ca (dj) slices),(3,bM size),(9,ca (dj) slices),(10,jk slices),(11,bM (i:Int))]) (fun i size h=>?_) (fun e tl ih i size h=>?_) slices 0 (0:Int) ⟨J,h⟩) (bv J)
 ·obtain⟨hx,h⟩:=h
  refine aC<|au<|zo J (fD J J)<|aq<|ah<|bz (ht J) (di hx)<|bu ?_;refine ai (ai (aN ?_));refine aw<|au<|aF rfl<|bC h fun r q_r h=>iR abo (RY _ q_r) ⟨hV,(ht J),aT⟩ J fun l c=>bp J<|aq<|ah<|au<|aF J<|zo J (iM jW J)<|zo J (bD hI)<|aq<|ay<|ba (k:=25) J fun hN1=>bI ?_;refine aS (kE (Z:=fun ls1 i1 newslice l1 c1=>(slices.drop i1=ls1)∧eU ls1 newslice=some R) (Of:=fun _ i1 newslice l1 c1=>[fx af 46 l1 c1 newslice]) (Gf:=fun _ i1 newslice l1 c1=>[(6,rL l1 c1 newslice),(25,ca (dj) slices),(26,jk slices),(27,bM (i1:Int))]) (fun i1 newslice l1 c1 h=>?_) (fun e1 tl1 ih1 i1 newslice l1 c1 h=>?_) slices 0 r l c ⟨J,h⟩) (bv J)
  ·obtain⟨hx1,h⟩:=h
   refine aC<|au<|zo J (fD J J)<|aq<|ah<|bz (ht J) (di hx1)<|bu ?_;refine ai (ai (aN ?_));refine aw<|au<|aF rfl<|bp rfl<|aq<|ak ?_;cases so h;exact gm J J
  ·obtain⟨hx1,h⟩:=h
   refine aC<|au<|zo J (fD J J)<|aq<|ah<|bw (ht J) (dg hx1)<|dS<|ah<|ay<|au<|zo J (lX jW d3 J J J (cS hx1))<|zo J (bB d3 J J)<|bp J<|aq<|av<|aF J<|aF J<|bC h fun newslice1 q_newslice1 h=>cV aH J J J J iK J J (ht J) (ht J) q_newslice1 fun l2 c2=>?_;refine bp J<|aQ<|ap<|aw<|av<|zo rfl (lY (cA hx1 hN1) rfl)<|aF rfl<|aQ ?_;exact bf (aS (ih1 (i1+1) newslice1 l2 c2 ⟨cz hx1,h⟩) (bv J))
 ·obtain⟨hx,h⟩:=h
  refine aC<|au<|zo J (fD J J)<|aq<|ah<|bw (ht J) (dg hx)<|dS<|ah<|ay<|au<|zo J (lX jW d3 J J J (cS hx))<|zo J (bB d3 J J)<|bp J<|aq<|au<|aF J<|aF J<|zo J (iM iK J) ?_;refine zo J (nO (ht J) (ht J))<|bp J<|aq<|au<|aF J<|zo J (gJ (ht J) hI)<|aq<|c9 h J (fun h=>?_) (fun h=>?_)
  ·refine av ?_;exact(nn h).elim
  ·refine bA<|ap<|aw<|av<|zo rfl (lY (cA hx hN) rfl)<|aF rfl<|aQ ?_;exact bf (aS (ih (i+1) (IntKind.i64.wrap (size+(e.length:Int))) ⟨cz hx,h⟩) (bv J))
theorem Vz(slices:(List (List ac))){R:(List ac)}(h:dy slices=some R):aU aO 104 [ca (dj) slices] (ca (af) R):=(KF _ h).spec

end Go.Proofs.YtfhhakidodmdfaaGreatDoor

