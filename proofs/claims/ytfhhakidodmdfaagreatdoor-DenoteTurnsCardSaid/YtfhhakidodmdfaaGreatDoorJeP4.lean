/- cT of this claim: P4. -/
import Derived.Test.YtfhhakidodmdfaaGreatDoorJeT
import Derived.Test.YtfhhakidodmdfaaGreatDoorJeP3
set_option linter.all false
namespace Go.Proofs.YtfhhakidodmdfaaGreatDoor
open Go
set_option maxRecDepth 100000

theorem R0(b:Nat)(ix:OI)(c:aC){R:O6 (Int×Bool) aC}(h:pR c=some R):Bk aR 126 [tV (aP b 0)] (dC b c ix) (fun(x:Int×Bool)=>[bI x.1,iz x.2]) R (dC b):=by
 refine Bk.of Tryz.func126 J J J fun w0 S0=>?_;refine(show CG _ _ _ [bx (rH bk [(1,aO (ix.h 0).1 (ix.h 0).2 c.kinds.length),(2,aO (ix.h 1).1 (ix.h 1).2 c.first.length)]) 115 b c,dS ny 39 (ix.h 0).1 (ix.h 0).2 c.kinds,dS bT 3 (ix.h 1).1 (ix.h 1).2 c.first] _ from ?_);refine aw<|zo J (TH (fun _ _ h=>by rw [show _=_ from h];rfl) (ht J))<|zo J (aK hV)<|au<|aw<|fK<|fK<|fK<|IT (O1:=dC b c ix) (cts:=[bM (rT (tV (aP b 0))) ()]) (caps:=[.tmp 1]) J aa5 (RR b ix c) ⟨(ht J),aS⟩ J fun v fp=>bo J<|au<|am ?_;cases so h;exact Qo J J

theorem MM(l:bE){R:aC×Int×Bool}(h:o7 l=some R):aV aR 72 [tD cD l] (tT [bM bk R.1,bI R.2.1,iz R.2.2]):=by
 refine Lc Tryz.func72 J J J fun w0 S0=>aw<|zo J (js J)<|aY (r:=rV) (x:= .pointer none) kF (fun _=>⟨J,J⟩) J fun b=>aY (r:=bT) (x:=(0:Int)) cu (fun _=>J) J fun b1=>aY (r:=rB) (x:=false) Jq (fun _=>J) J fun b2=>au<|aw<|zo J (bC oX J J)<|zo J (cn (r:=rH bk [(1,.slice none 0 0),(2,.slice none 0 0)]) (y:=(⟨l,[],[]⟩:aC)) Ze ZG (zH LA ⟨J,J,aS⟩) (⟨_,_,_,_,_,J,V3 HO J J,J,(ht J),J⟩))<|yx (ht J) J fun b3=>bL true ny 39<|bL true bT 3 ?_;refine(show RG _ _ _ _ [dS bT 3 none 0 uq,dS ny 39 none 0 Pa,bx (rH bk [(1,aO none 0 Pa.length),(2,aO none 0 uq.length)]) 115 b3 (⟨l,[],[]⟩:aC),bx rB 4 b2 false,bx bT 3 b1 (0:Int),bx rV 109 b (.pointer none)] _ from ?_);refine aY (r:=rV) (x:= .pointer none) kF (fun _=>⟨J,J⟩) J fun b4=>wd (nW kF J (zu an) J (ht J) (hW (ht J) J)) fun i=>?_;refine(show RG _ _ _ _ [bx rV 109 b4 (aP b3 0),dS bT 3 none 0 uq,dS ny 39 none 0 Pa,bx (rH bk [(1,aO none 0 Pa.length),(2,aO none 0 uq.length)]) 115 b3 (⟨l,[],[]⟩:aC),bx rB 4 b2 false,bx bT 3 b1 (0:Int),bx rV 109 b (.pointer none)] _ from ?_);refine au<|aw<|zo J (de qz kj J J)<|zo J (bC BB J J)<|zo J (iJ uF J)<|bo J<|au<|ah<|aw<|aF J<|zo J (gD (ht J) hI)<|aF J<|gY J J (fun hg=>dv J)<|gY J J (fun hg=>gm (bP J hg) hI)<|zo J (yE J J)<|au<|dd h J (fun h=>?_) (fun h=>?_)
 ·refine aw<|zo J (sZ kF (.head _) (ht J))<|wd (EffOK.fr6 (nW kF J (zu an) J (ht J) (hW (ht J) J))) fun i1=>?_;refine(show RG _ _ _ _ [bx rV 109 b (aP b3 0),bx rV 109 b4 (aP b3 0),dS bT 3 none 0 uq,dS ny 39 none 0 Pa,bx (rH bk [(1,aO none 0 Pa.length),(2,aO none 0 uq.length)]) 115 b3 (⟨l,[],[]⟩:aC),bx rB 4 b2 false,bx bT 3 b1 (0:Int)] _ from ?_);refine yu<|ax cu J an J (ht J) hI<|yu<|ax Jq J an J (ht J) hB<|au<|am<|ae<|vq<|Ci<|z8 11 J<|aJ<|bn 2 J<|bv<|bn 3 J<|bn 4 J<|be<|be<|be<|rl ?_;cases so h;exact bS (ts:=[bM bk (⟨l,[],[]⟩:aC),bI 0,iz false]) (rvs:=[.cell 2 109,.cell 3 3,.cell 4 4]) J J ⟨BG (j:=11) kF J J,br cu J J J,br Jq J J J,aS⟩
 ·refine dU<|ah<|aw<|zo J (sZ kF (.head _) (ht J))<|bH<|fK<|ov<|bB h fun it q_it h=>Ni (dC b3 (⟨l,[],[]⟩:aC) (V6 [(none,0),(none,0)])) _ J abB (R0 b3 (V6 [(none,0),(none,0)]) (⟨l,[],[]⟩:aC) q_it) ⟨(ht J),aS⟩ J fun v fp=>au<|aA<|bB h fun r q_r h=>?_;refine Hn (fun(ix:Bool×Int×Bool)=>[bx rV 109 b4 (aP b3 0),bx rB 4 b2 ix.1,bx bT 3 b1 ix.2.1,bx rV 109 b (bif ix.2.2 then aP b3 0 else .pointer none)]) (fun(ix:Bool×Int×Bool)=>(ix.1,ix.2.1,ix.2.2)) (fun _=> .ret) J (ht J) (false,(0:Int),false) J q_r (fun _=>J) J (fun ix x r1 h lp rec1 _ _ _=>?_) (fun i2 j hi bd=>⟨fun hj=>?_,fun _ hj=>?_⟩)
  ·obtain⟨x1,x2,p⟩:=ix
   replace h:oJ x x1 x2 p=some r1:=h
   refine(show CG _ _ _ [q7 lp rec1 .ready none,bx rV 109 b4 (aP b3 0),bx rB 4 b2 x1,bx bT 3 b1 x2,bx rV 109 b (bif p then aP b3 0 else .pointer none)] _ from ?_);refine FF (G' :=[(0,tD cD l),(1,bM cD l),(2,tV (aP b 0)),(3,tV (aP b1 0)),(4,tV (aP b2 0)),(5,tV (aP b4 0)),(6,jr l.Nodes),(9,tD cD l),(10,tD (rH bk [(1,.slice none 0 0),(2,.slice none 0 0)]) (⟨l,[],[]⟩:aC)),(11,tV (aP b3 0)),(12,bM (fH aI) l.Nodes),(13,bZ (aI) l.Nodes),(14,jr l.Nodes),(15,jr l.Nodes),(16,iz (decide ((l.Nodes.length:Int)<(1:Int)))),(17,iz (decide ((l.Nodes.length:Int)<(1:Int)))),(18,oY (!(decide ((l.Nodes.length:Int)<(1:Int)))) (jr l.Nodes)),(19,oY (!(decide ((l.Nodes.length:Int)<(1:Int)))) (iz (decide ((60:Int)<(l.Nodes.length:Int))))),(20,iz ((decide ((l.Nodes.length:Int)<(1:Int)))||(decide ((60:Int)<(l.Nodes.length:Int))))),(22,tV (aP b3 0)),(24,bI x.1),(25,iz x.2)]) ?_ ⟨J,J,J,J,J,J,J,J,J,J,J,J,J,J,J,J,J,J,J,J,J,J,aS⟩;refine aw<|bo J<|au<|aq<|bo J<|aQ<|Hs<|aA<|aw<|aF J<|zo J (gg (ht J))<|au<|dd h J (fun h=>?_) (fun h=>?_)
   ·refine aw<|zo J (sZ kF (.tail _ (.head _)) (ht J))<|aF J<|wd (EffOK.fr4 (nW kF J (zu an) J (ht J) (hW (ht J) J))) fun i3=>?_;refine(show RG _ _ _ _ [bx rV 109 b (aP b3 0),q7 lp rec1 .busy none,bx rV 109 b4 (aP b3 0),bx rB 4 b2 x1,bx bT 3 b1 x2] _ from ?_);refine yw<|ax cu J an J (ht J) (ht J)<|yw<|ax Jq J an J (ht J) hB<|au<|am<|aD<|aJ<|aJ<|aJ<|fe<|fe ?_;cases so h;exact Bq 0 J (false,x.1,true) J J
   ·refine bA<|ap ?_;cases so h;exact wh (x1,x2,p) J J
  ·skip
   obtain⟨x3,x4,p1⟩:=i2
   obtain rfl:x3=r.1.2.1:=congrArg (fun q:Bool×Int×Bool=>q.1) hi
   obtain rfl:x4=r.1.2.2.1:=congrArg (fun q:Bool×Int×Bool=>q.2.1) hi
   obtain rfl:p1=r.1.2.2.2:=congrArg (fun q:Bool×Int×Bool=>q.2.2) hi
   have h:=ct h (by rw [hj];rfl);refine(show AT _ _ _ [Ba bd,bx (rH bk [(1,aO (j.h 0).1 (j.h 0).2 r.2.kinds.length),(2,aO (j.h 1).1 (j.h 1).2 r.2.first.length)]) 115 b3 r.2,dS ny 39 (j.h 0).1 (j.h 0).2 r.2.kinds,dS bT 3 (j.h 1).1 (j.h 1).2 r.2.first,bx rV 109 b4 (aP b3 0),bx rB 4 b2 r.1.2.1,bx bT 3 b1 r.1.2.2.1,bx rV 109 b (bif r.1.2.2.2 then aP b3 0 else .pointer none)] _ from ?_);refine cC (G' :=[(0,tD cD l),(1,bM cD l),(2,tV (aP b 0)),(3,tV (aP b1 0)),(4,tV (aP b2 0)),(5,tV (aP b4 0)),(6,jr l.Nodes),(9,tD cD l),(10,tD (rH bk [(1,.slice none 0 0),(2,.slice none 0 0)]) (⟨l,[],[]⟩:aC)),(11,tV (aP b3 0)),(12,bM (fH aI) l.Nodes),(13,bZ (aI) l.Nodes),(14,jr l.Nodes),(15,jr l.Nodes),(16,iz (decide ((l.Nodes.length:Int)<(1:Int)))),(17,iz (decide ((l.Nodes.length:Int)<(1:Int)))),(18,oY (!(decide ((l.Nodes.length:Int)<(1:Int)))) (jr l.Nodes)),(19,oY (!(decide ((l.Nodes.length:Int)<(1:Int)))) (iz (decide ((60:Int)<(l.Nodes.length:Int))))),(20,iz ((decide ((l.Nodes.length:Int)<(1:Int)))||(decide ((60:Int)<(l.Nodes.length:Int))))),(22,tV (aP b3 0))]) ?_ ⟨J,J,J,J,J,J,J,J,J,J,J,J,J,J,J,J,J,J,J,J,aS⟩;refine ap<|av<|ah<|bB h fun e q_e h=>?_
   refine oc 14 [tc (tV (aP b3 0)),tc (jr l.Nodes),tc (bI (IntKind.i64.wrap ((l.Nodes.length:Int)-(1:Int)))),tc (tV (aP b3 0)),tc (tV (aP b3 0)),tc (tV (aP b3 2)),tc (tO bT (j.h 1).1 (j.h 1).2 r.2.first),tc (jr l.Nodes),tc (bI (IntKind.i64.wrap ((l.Nodes.length:Int)-(1:Int)))),tc (bM bT e),tc (bI e),tc (iz (e==(0:Int))),tc (C0),tc (C0)] [false,false,false,false,false,false,false,false,false,false,false,false,true,true] [fun _=>[Ba bd,bx (rH bk [(1,aO (j.h 0).1 (j.h 0).2 r.2.kinds.length),(2,aO (j.h 1).1 (j.h 1).2 r.2.first.length)]) 115 b3 r.2,dS ny 39 (j.h 0).1 (j.h 0).2 r.2.kinds,dS bT 3 (j.h 1).1 (j.h 1).2 r.2.first,bx rV 109 b4 (aP b3 0),bx rB 4 b2 r.1.2.1,bx bT 3 b1 r.1.2.2.1,bx rV 109 b (bif r.1.2.2.2 then aP b3 0 else .pointer none)],fun sg=>[bx rV 109 b (aP b3 0),Ba bd,bx (rH bk [(1,aO (j.h 0).1 (j.h 0).2 r.2.kinds.length),(2,aO (j.h 1).1 (j.h 1).2 r.2.first.length)]) 115 b3 r.2,dS ny 39 (j.h 0).1 (j.h 0).2 r.2.kinds,dS bT 3 (j.h 1).1 (j.h 1).2 r.2.first,bx rV 109 b4 (aP b3 0),bx rB 4 b2 r.1.2.1,bx bT 3 b1 r.1.2.2.1],fun sg=>[bx bT 3 b1 (IntKind.i64.wrap ((l.Nodes.length:Int)-(1:Int))),bx rV 109 b (aP b3 0),Ba bd,bx (rH bk [(1,aO (j.h 0).1 (j.h 0).2 r.2.kinds.length),(2,aO (j.h 1).1 (j.h 1).2 r.2.first.length)]) 115 b3 r.2,dS ny 39 (j.h 0).1 (j.h 0).2 r.2.kinds,dS bT 3 (j.h 1).1 (j.h 1).2 r.2.first,bx rV 109 b4 (aP b3 0),bx rB 4 b2 r.1.2.1]] J mixed J J J J J
    ⟨⟨[⟨5,fun _=>tV (aP b4 0),none⟩],_,0,0,J,⟨(fun _=>J),aS⟩,J,J,J,J,J,zp (fun sg=>ay J (sZ kF (.tail _ (.tail _ (.tail _ (.tail _ (.head _))))) (ht J)))⟩,
    ⟨⟨[⟨6,fun _=>tD bT (l.Nodes.length:Int),none⟩],_,0,1,J,⟨(fun _=>J),aS⟩,J,J,J,J,J,fun _ sg _ _=>ay J (dv J)⟩,
    ⟨⟨[⟨31,fun _=>tD bT (l.Nodes.length:Int),some 1⟩],_,0,1,J,⟨(fun _=>J),aS⟩,J,J,J,J,J,fun _ sg _ _=>ay J (jf (ht J) hI)⟩,
    ⟨⟨[⟨5,fun _=>tV (aP b4 0),none⟩],_,0,2,J,⟨(fun _=>J),aS⟩,J,J,J,J,J,FM (fun sg=>ay J (sZ kF (.tail _ (.tail _ (.tail _ (.tail _ (.head _))))) (ht J))) (FM (fun sg=>ay J (sZ kF (.tail _ (.tail _ (.tail _ (.tail _ (.tail _ (.head _)))))) (ht J))) (zp (fun sg=>ay J (sZ kF (.tail _ (.tail _ (.tail _ (.tail _ (.tail _ (.tail _ (.head _))))))) (ht J)))))⟩,
    ⟨⟨[⟨33,fun _=>tV (aP b3 0),some 3⟩],_,0,2,J,⟨(fun _=>J),aS⟩,J,J,J,J,J,fun _ sg _ _=>ay J (dD (ht J))⟩,
    ⟨⟨[⟨34,fun _=>tV (aP b3 0),some 4⟩],_,0,2,J,⟨(fun _=>J),aS⟩,J,J,J,J,J,fun _ sg _ _=>ay J (kp 2 ud J J J)⟩,
    ⟨⟨[⟨35,fun _=>tV (aP b3 2),some 5⟩],_,0,2,J,⟨(fun _=>J),aS⟩,J,J,J,J,J,FM (fun sg=>ay J (dh d7 J (.tail _ (.head _)) (.tail _ (.tail _ (.tail _ (.head _)))) (ht J))) (FM (fun sg=>ay J (dh d7 J (.tail _ (.tail _ (.head _))) (.tail _ (.tail _ (.tail _ (.tail _ (.head _))))) (ht J))) (zp (fun sg=>ay J (dh d7 J (.tail _ (.tail _ (.tail _ (.head _)))) (.tail _ (.tail _ (.tail _ (.tail _ (.tail _ (.head _)))))) (ht J)))))⟩,
    ⟨⟨[⟨6,fun _=>tD bT (l.Nodes.length:Int),none⟩],_,0,2,J,⟨(fun _=>J),aS⟩,J,J,J,J,J,fun _ sg _ _=>ay J (dv J)⟩,
    ⟨⟨[⟨37,fun _=>tD bT (l.Nodes.length:Int),some 7⟩],_,0,2,J,⟨(fun _=>J),aS⟩,J,J,J,J,J,fun _ sg _ _=>ay J (jf (ht J) hI)⟩,
    ⟨⟨[⟨36,fun _=>tO bT (j.h 1).1 (j.h 1).2 r.2.first,some 6⟩,⟨38,fun _=>tD bT (IntKind.i64.wrap ((l.Nodes.length:Int)-(1:Int))),some 8⟩],_,0,2,J,⟨(fun _=>J),(fun _=>J),aS⟩,J,J,J,J,J,fun _ sg _ _=>ay J (bp gF cu J (kT (ht J)) (ht J) q_e)⟩,
    ⟨⟨[⟨39,fun _=>bM bT e,some 9⟩],_,0,2,J,⟨(fun _=>J),aS⟩,J,J,J,J,J,fun _ sg _ _=>ay J (bC cu J J)⟩,
    ⟨⟨[⟨40,fun _=>tD bT e,some 10⟩],_,0,2,J,⟨(fun _=>J),aS⟩,J,J,J,J,J,fun _ sg _ _=>ay J (nr J)⟩,
    ⟨⟨[⟨2,fun _=>tV (aP b 0),none⟩,⟨30,fun _=>tV (aP b3 0),some 0⟩],_,J,⟨(fun _=>J),(fun _=>J),aS⟩,J,J,J,fun sg=>d8 J (EffOK.fr7 (nW kF J (zu an) J (ht J) (hW (ht J) J)))⟩,
    ⟨⟨[⟨3,fun _=>tV (aP b1 0),none⟩,⟨32,fun _=>tD bT (IntKind.i64.wrap ((l.Nodes.length:Int)-(1:Int))),some 2⟩],_,J,⟨(fun _=>J),(fun _=>J),aS⟩,J,J,J,fun sg=>d8 J (EffOK.fr7 (nW cu J (zu an) J (ht J) (ht J)))⟩,
    aS⟩⟩⟩⟩⟩⟩⟩⟩⟩⟩⟩⟩⟩⟩ (fun sg=>?_)
   refine(show RG _ _ _ _ [bx bT 3 b1 (IntKind.i64.wrap ((l.Nodes.length:Int)-(1:Int))),bx rV 109 b (aP b3 0),Ba bd,bx (rH bk [(1,aO (j.h 0).1 (j.h 0).2 r.2.kinds.length),(2,aO (j.h 1).1 (j.h 1).2 r.2.first.length)]) 115 b3 r.2,dS ny 39 (j.h 0).1 (j.h 0).2 r.2.kinds,dS bT 3 (j.h 1).1 (j.h 1).2 r.2.first,bx rV 109 b4 (aP b3 0),bx rB 4 b2 r.1.2.1] _ from ?_);refine Qd<|ax Jq J an J (ht J) (ht J)<|au<|am<|fe<|Ci<|z8 11 J<|aJ<|bn 2 J<|bv<|bn 3 J<|bn 4 J<|bv<|be<|bv<|be<|bv<|be<|Bp<|rl ?_;cases so h;exact bS (ts:=[bM bk r.2,bI (IntKind.i64.wrap ((l.Nodes.length:Int)-(1:Int))),iz (e==(0:Int))]) (rvs:=[.cell 2 109,.cell 3 3,.cell 4 4]) J J ⟨BG (j:=11) kF J J,br cu J J J,br Jq J J J,aS⟩
  ·skip
   obtain⟨x5,x6,p2⟩:=i2
   obtain rfl:x5=r.1.2.1:=congrArg (fun q:Bool×Int×Bool=>q.1) hi
   obtain rfl:x6=r.1.2.2.1:=congrArg (fun q:Bool×Int×Bool=>q.2.1) hi
   obtain rfl:p2=r.1.2.2.2:=congrArg (fun q:Bool×Int×Bool=>q.2.2) hi
   have h:=cf h (by rw [hj];rfl);refine(show CG _ _ _ [Ba bd,bx (rH bk [(1,aO (j.h 0).1 (j.h 0).2 r.2.kinds.length),(2,aO (j.h 1).1 (j.h 1).2 r.2.first.length)]) 115 b3 r.2,dS ny 39 (j.h 0).1 (j.h 0).2 r.2.kinds,dS bT 3 (j.h 1).1 (j.h 1).2 r.2.first,bx rV 109 b4 (aP b3 0),bx rB 4 b2 r.1.2.1,bx bT 3 b1 r.1.2.2.1,bx rV 109 b (bif r.1.2.2.2 then aP b3 0 else .pointer none)] _ from ?_);refine FF (G' :=[(0,tD cD l),(1,bM cD l),(2,tV (aP b 0)),(3,tV (aP b1 0)),(4,tV (aP b2 0)),(5,tV (aP b4 0)),(6,jr l.Nodes),(9,tD cD l),(10,tD (rH bk [(1,.slice none 0 0),(2,.slice none 0 0)]) (⟨l,[],[]⟩:aC)),(11,tV (aP b3 0)),(12,bM (fH aI) l.Nodes),(13,bZ (aI) l.Nodes),(14,jr l.Nodes),(15,jr l.Nodes),(16,iz (decide ((l.Nodes.length:Int)<(1:Int)))),(17,iz (decide ((l.Nodes.length:Int)<(1:Int)))),(18,oY (!(decide ((l.Nodes.length:Int)<(1:Int)))) (jr l.Nodes)),(19,oY (!(decide ((l.Nodes.length:Int)<(1:Int)))) (iz (decide ((60:Int)<(l.Nodes.length:Int))))),(20,iz ((decide ((l.Nodes.length:Int)<(1:Int)))||(decide ((60:Int)<(l.Nodes.length:Int))))),(22,tV (aP b3 0))]) ?_ ⟨J,J,J,J,J,J,J,J,J,J,J,J,J,J,J,J,J,J,J,J,aS⟩;refine am ?_;refine aD (ae ?_);refine bB h fun u q_u h=>SS (O' :=[Ba bd,bx (rH bk [(1,aO (j.h 0).1 (j.h 0).2 r.2.kinds.length),(2,aO (j.h 1).1 (j.h 1).2 r.2.first.length)]) 115 b3 r.2,dS ny 39 (j.h 0).1 (j.h 0).2 r.2.kinds,dS bT 3 (j.h 1).1 (j.h 1).2 r.2.first,bx rV 109 b4 (aP b3 0),bx rB 4 b2 r.1.2.1,bx bT 3 b1 r.1.2.2.1,bx rV 109 b (aP b3 0)]) (by rw [show r.1.2.2.2=true from Rq q_u];rfl)<|bv<|Ci<|z8 11 J<|vq<|bn 2 J<|Hr<|bn 3 J<|fe<|bn 4 J<|bv<|be<|bv<|be<|bv<|be<|Bp<|rl ?_;cases so h;exact bS (ts:=[bM bk r.2,bI r.1.2.2.1,iz r.1.2.1]) (rvs:=[.cell 2 109,.cell 3 3,.cell 4 4]) J J ⟨BG (j:=11) kF J J,br cu J J J,br Jq J J J,aS⟩

theorem MN(l:bE){R:Int×Int}(h:pn l=some R):aV aR 50 [tD cD l] (tT [bI R.1,bI R.2]):=by
 refine aV.of Tryz.func50 J J J fun w0 S0=>aw<|zo J (js J)<|zo J (cF)<|zo J (cF)<|au<|aw<|zo J (bC oX J J)<|bB h fun r q_r h=>zo J (aE YB (MM _ q_r) ⟨(ht J),aS⟩)<|aF J<|zo J (gV J J)<|zo J (gV J J)<|zo J (gV J J)<|bo J<|bo J<|bo J<|au<|ah<|ah ?_;refine aq<|aF J<|zo J (gg (ht J))<|au<|dd h J (fun h=>?_) (fun h=>?_)
 ·refine aw<|aF J<|bo J<|zo J (cF)<|au<|am<|ae ?_;cases so h;exact cN J J J
 ·refine dU<|aw<|zo J (cF)<|zo J (cF)<|au<|am ?_;cases so h;exact cN J J J

theorem XZ(rows:(List (List ac)))(kinds:(List Int)){R:Bool}(h:rf rows kinds=some R):aV aR 61 [bZ (cV) rows,mh kinds] (iz R):=by
 refine aV.of Tryz.func61 J J J fun w0 S0=>aw<|zo J (jS)<|au<|ah<|aw<|aF J<|zo J (iJ ja J)<|zo J (gm (ht J) hI)<|au<|dd h J (fun h=>?_) (fun h=>?_)
 ·refine aw<|zo J (jS)<|au<|am<|ae ?_;cases so h;exact aL J J
 ·refine dU<|ah<|aw<|aF J<|zo J (iJ ja J)<|zo J (bG hI)<|au<|aA<|bc (k:=12) J fun hN=>bJ ?_;refine aT (eI (Z:=fun ls i=>(rows.drop i=ls)∧lV kinds ls=some R) (Of:=fun _ i=>[]) (Gf:=fun _ i=>[(1,mh kinds),(12,bZ (cV) rows),(13,jr rows),(14,bI (i:Int))]) (fun i h=>?_) (fun e tl ih i h=>?_) rows 0 ⟨J,h⟩) (bt J)
  ·obtain⟨hx,h⟩:=h
   refine aB<|aw<|zo J (fL J J)<|au<|ah<|bz (ht J) (du hx)<|bu ?_;refine ai (ai (aN ?_));refine av<|aw<|zo rfl (jS)<|au<|am ?_;cases so h;exact aL J J
  ·obtain⟨hx,h⟩:=h
   refine aB<|aw<|zo J (fL J J)<|au<|ah<|bw (ht J) (dl hx)<|dU<|ah<|aA<|aw<|zo J (ml ja dL J J J (cX hx))<|zo J (bC dL J J)<|bo J<|au<|ah<|aw<|aF J<|zo J (iJ iX J) ?_;refine aF J<|zo J (iJ gF J)<|zo J (fM (ht J) (ht J))<|au<|dd h J (fun h=>?_) (fun h=>?_)
   ·refine aw<|zo J (jS)<|au<|am ?_;refine ae (aD (ae (ae (aD (ae ?_)))));cases so h;exact aL J J
   ·refine dU<|aw<|aF J<|zo J (iJ iX J)<|zo J (bG hI)<|au<|aA<|bc (k:=23) J fun hN1=>bJ ?_;refine aT (eI (Z:=fun ls1 i1=>(e.drop i1=ls1)∧lU kinds (lV kinds tl) ls1 i1=some R) (Of:=fun _ i1=>[]) (Gf:=fun _ i1=>[(1,mh kinds),(12,bZ (cV) rows),(13,jr rows),(14,bI (i:Int)),(23,bZ (af) e),(24,jr e),(25,bI (i1:Int))]) (fun i1 h=>?_) (fun e1 tl1 ih1 i1 h=>?_) e 0 ⟨J,h⟩) (bt J)
    ·obtain⟨hx1,h⟩:=h
     refine aB<|aw<|zo J (fL J J)<|au<|ah<|bz (ht J) (du hx1)<|bu ?_;refine ai (ai (aN ?_));refine ap<|av<|aq<|zo rfl (lZ (cL hx hN) rfl)<|aF rfl<|aQ ?_;exact bg (aT (ih (i+1) ⟨cK hx,h⟩) (bt J))
    ·obtain⟨hx1,h⟩:=h
     refine aB<|aw<|zo J (fL J J)<|au<|ah<|bw (ht J) (dl hx1)<|dU<|ah<|aA<|aw<|aF J<|zo J (ml iX aG J J J (cX hx1))<|zo J (bC aG J J)<|aY (r:=af) (x:=hJ) aG (fun _=>bh _) J fun b=>bo J<|ax aG J an J (ht J) (ht J)<|aW 8 J<|au<|ah ?_;refine bB h fun r q_r h=>bB h fun t q_t h=>?_
     obtain⟨t1,h1t,h0t⟩:=og q_t
     have q_t1g:=fun hb=>(h1t hb).1
     obtain⟨e2,h1t1,h0t1⟩:=og3 q_t1g
     have q_e2g:=fun hb=>(h1t1 hb).1
     refine dc (ts:=[_,_,_,_,_,_,_,_,_,_,_,_,_,_,_,_,_]) mixed J J
      ⟨fb 8 J J J (bC aG J J),
      ⟨ca 30 0 J J J (aE KY (A2 _ q_r) ⟨(ht J),aS⟩),
      ⟨ca 31 1 J J J (uL J),
      ⟨ca 32 2 J J J (dv J),
      ⟨sG 8 33 3 J J J J (kH J J J J (fun hg=>de gZ cS J J)),
      ⟨lB 34 4 33 3 J J J J (kH J J J J (fun hg=>bO cu J J (bP J hg))),
      ⟨lB 35 5 33 3 J J J J (kH J J J J (fun hg=>fM (bP J hg) hI)),
      ⟨lB 36 6 33 3 J J J J (kH J J J J (fun hg=>bG (bP J hg))),
      ⟨sG 8 37 7 J J J J (wg J J J J (fun hg=>de gZ cS J J)),
      ⟨lB 38 8 37 7 J J J J (wg J J J J (fun hg=>bO cu J J (bP J hg))),
      ⟨sG 1 37 7 J J J J (wg J J J J (fun hg=>dv J)),
      ⟨sG 7 37 7 J J J J (wg J J J J (fun hg=>dv J)),
      ⟨wj 40 10 41 11 37 7 J J J J J (wg J J J J (fun hg=>bp gF cu J (bP J hg) (bP J hg) (q_e2g hg))),
      ⟨lB 42 12 37 7 J J J J (wg J J J J (fun hg=>bO cu J J (bP J hg))),
      ⟨wj 39 9 43 13 37 7 J J J J J (wg J J J J (fun hg=>fM (bP J hg) (bP J hg))),
      ⟨wj 37 7 44 14 33 3 J J J J J (kH J J J J (fun hg=>ff (bP J hg) (fun hb=>(bP J (C8 hg hb))) (fun hb=>(h1t1 (C8 hg hb)).2) (fun hb=>h0t1 hg hb))),
      ⟨d6 33 3 45 15 J J J J (lk (ht J) (fun hb=>(bP J (AL hb))) (fun hb=>(h1t hb).2) h0t),
      aS⟩⟩⟩⟩⟩⟩⟩⟩⟩⟩⟩⟩⟩⟩⟩⟩⟩ ?_
     refine av<|dd h rfl (fun h=>?_) (fun h=>?_)
     ·refine aw<|zo J (jS)<|au<|am ?_;refine aD (ae (ae (aD (aD (ae (ae (aD (ae ?_))))))));cases so h;exact aL J J
     ·refine bA<|ap<|av<|aq<|zo rfl (lZ (cL hx1 hN1) rfl)<|aF rfl<|aQ ?_;exact bg (aT (ih1 (i1+1) ⟨cK hx1,h⟩) (bt J))

theorem Yk(l:bE)(b:cB){R:Bool}(h:uh l b=some R):aV aR 16 [tD cD l,tD i6 b] (iz R):=by
 refine aV.of Tryz.func16 J J J fun w0 S0=>aw<|zo J (js J)<|zo J (js J)<|zo J (jS)<|au<|ah<|aw<|zo J (bC oX J J)<|bB h fun r q_r h=>zo J (aE YC (MN _ q_r) ⟨(ht J),aS⟩)<|aF J<|zo J (gV J J)<|zo J (gV J J)<|bo J<|bo J<|au<|aw<|aF J ?_;refine zo J (uL J)<|au<|dd h J (fun h=>?_) (fun h=>?_)
 ·refine aw<|zo J (jS)<|au<|am<|ae ?_;cases so h;exact aL J J
 ·refine dU<|ah<|aw<|zo J (de qz kj J J)<|zo J (bC BB J J)<|zo J (iJ uF J)<|zo J (bG hI)<|au<|aA<|bc (k:=17) J fun hN=>bJ ?_;refine aT (eI (Z:=fun ls i=>(l.Nodes.drop i=ls)∧n8 b ls=some R) (Of:=fun _ i=>[]) (Gf:=fun _ i=>[(3,bM i6 b),(17,bZ (aI) l.Nodes),(18,jr l.Nodes),(19,bI (i:Int))]) (fun i h=>?_) (fun e tl ih i h=>?_) l.Nodes 0 ⟨J,h⟩) (bt J)
  ·obtain⟨hx,h⟩:=h
   refine aB<|aw<|zo J (fL J J)<|au<|ah<|bz (ht J) (du hx)<|bu ?_;refine ai (ai (aN ?_));refine av<|aw<|zo rfl (jS)<|au<|am ?_;cases so h;exact aL J J
  ·obtain⟨hx,h⟩:=h
   refine aB<|aw<|zo J (fL J J)<|au<|ah<|bw (ht J) (dl hx)<|dU<|ah<|aA<|aw<|zo J (ml uF gG J J J (cX hx))<|zo J (bC gG J J)<|aY (r:=aI) (x:=Hu) gG (fun _=>nC _) J fun b1=>ax gG J an J (ht J) (ht J)<|aW 8 J<|au<|ah<|bB h fun t q_t h=>?_
   obtain⟨t1,h1t,h0t⟩:=og q_t
   have q_t1g:=fun hb=>(h1t hb).1
   obtain⟨e1,h1t1,h0t1⟩:=og3 q_t1g
   have q_e1g:=fun hb=>(h1t1 hb).1
   obtain⟨r1,h1t1⟩:=XA (fun hb=>(h1t1 hb).2)
   have q_r1g:=fun hb=>(h1t1 hb).1
   refine dc (ts:=[_,_,_,_,_,_,_,_,_,_,_,_,_,_,_,_,_,_,_,_,_,_,_]) mixed J J
    ⟨fb 8 J J J (de xx nU J J),
    ⟨ca 23 0 J J J (bC cu J J),
    ⟨ca 24 1 J J J (nr J),
    ⟨ca 25 2 J J J (dv J),
    ⟨sG 8 26 3 J J J J (fa J J J J (fun hg=>de te ln J J)),
    ⟨lB 27 4 26 3 J J J J (fa J J J J (fun hg=>bO cu J J (bP J hg))),
    ⟨sG 3 26 3 J J J J (fa J J J J (fun hg=>de ru pp J J)),
    ⟨lB 29 6 26 3 J J J J (fa J J J J (fun hg=>bO ro J J (bP J hg))),
    ⟨lB 30 7 26 3 J J J J (fa J J J J (fun hg=>dQ mj (bP J hg))),
    ⟨wj 28 5 31 8 26 3 J J J J J (fa J J J J (fun hg=>jg (bP J hg) (bP J hg))),
    ⟨lB 32 9 26 3 J J J J (fa J J J J (fun hg=>bG (bP J hg))),
    ⟨sG 3 33 10 J J J J (qR J J J J (fun hg=>de ru pp J J)),
    ⟨lB 34 11 33 10 J J J J (qR J J J J (fun hg=>bO ro J J (bP J hg))),
    ⟨sG 8 33 10 J J J J (qR J J J J (fun hg=>de te ln J J)),
    ⟨lB 36 13 33 10 J J J J (qR J J J J (fun hg=>bO cu J J (bP J hg))),
    ⟨wj 35 12 37 14 33 10 J J J J J (qR J J J J (fun hg=>bp mj fN J (bP J hg) (bP J hg) (q_e1g hg))),
    ⟨lB 38 15 33 10 J J J J (qR J J J J (fun hg=>bO fN J J (bP J hg))),
    ⟨sG 8 33 10 J J J J (qR J J J J (fun hg=>de uC nT J J)),
    ⟨lB 40 17 33 10 J J J J (qR J J J J (fun hg=>bO d7 J J (bP J hg))),
    ⟨wj 39 16 41 18 33 10 J J J J J (qR J J J J (fun hg=>aE ace (XZ _ _ (q_r1g hg)) ⟨(bP J hg),(bP J hg),aS⟩)),
    ⟨lB 42 19 33 10 J J J J (qR J J J J (fun hg=>gg (bP J hg))),
    ⟨wj 33 10 43 20 26 3 J J J J J (fa J J J J (fun hg=>lk (bP J hg) (fun hb=>(bP J (C8 hg (AL hb)))) (fun hb=>(h1t1 (C8 hg hb)).2) (fun hb=>h0t1 hg hb))),
    ⟨d6 26 3 44 21 J J J J (ff (ht J) (fun hb=>(bP J hb)) (fun hb=>(h1t hb).2) h0t),
    aS⟩⟩⟩⟩⟩⟩⟩⟩⟩⟩⟩⟩⟩⟩⟩⟩⟩⟩⟩⟩⟩⟩⟩ ?_
   refine av<|dd h rfl (fun h=>?_) (fun h=>?_)
   ·refine aw<|zo J (jS)<|au<|am ?_;refine aD (ae (ae (aD (ae ?_))));cases so h;exact aL J J
   ·refine bA<|ap<|av<|aq<|zo rfl (lZ (cL hx hN) rfl)<|aF rfl<|aQ ?_;exact bg (aT (ih (i+1) ⟨cK hx,h⟩) (bt J))

theorem X9(l:bE){R:(List Int)×Int}(h:ra l=some R):aV aR 23 [tD cD l] (tT [mh R.1,bI R.2]):=by
 refine aV.of Tryz.func23 J J J fun w0 S0=>aw<|zo J (js J)<|zo J (aK (show aH _ _ _ wU from jO))<|zo J (cF)<|au<|aw<|zo J (bC oX J J)<|bB h fun r q_r h=>zo J (aE YB (MM _ q_r) ⟨(ht J),aS⟩)<|aF J<|zo J (gV J J)<|zo J (gV J J)<|zo J (gV J J)<|bo J<|bo J<|bo J<|au<|ah<|ah ?_;refine aq<|aF J<|zo J (gg (ht J))<|au<|dd h J (fun h=>?_) (fun h=>?_)
 ·refine aw<|zo J (aK (show aH _ _ _ wU from jO))<|zo J (cF)<|au<|am<|ae ?_;cases so h;exact cN J J J
 ·refine dU<|aw<|aF J<|zo J (H8 (ht J))<|zo J (de nw Iq J J)<|zo J (bC sK J J)<|aF J<|bB h fun e q_e h=>zo J (ml vv d7 J J J q_e)<|zo J (bC d7 J J)<|bB h fun r1 q_r1 h=>il Sd (Iw _ q_r1) ⟨(ht J),aS⟩ J fun l1 c=>bo J<|zo J (cF)<|au<|am<|jv<|cE 2 J<|cE 22 J<|jw 2 J<|be ?_;cases so h;exact cN J J J

theorem ZQ(b:Nat)(ix:OI)(r:cW)(n:ak){R:(List (List ac))×Int}(h:kM r n=some R):c0 aR 51 [tV (aP b 0),tD aI n] (jh b r ix) (fun _:OI=>tT [bZ (cV) R.1,bI R.2]) (fun _=>(jh b r ix)):=by
 refine c0.of Tryz.func51 J J J fun w0 S0=>?_;refine(show CG _ _ _ [bx (rH ea [(1,aO (ix.h 0).1 (ix.h 0).2 r.rows.length),(2,aO (ix.h 1).1 (ix.h 1).2 r.width.length)]) 96 b r,dS c9 32 (ix.h 0).1 (ix.h 0).2 r.rows,dS bT 3 (ix.h 1).1 (ix.h 1).2 r.width] _ from ?_);refine aw<|zo J (js J)<|zo J (aK (show aH _ _ _ vz from jO))<|zo J (cF)<|au<|ah<|bB h fun e q_e h=>?_
 refine dc (ts:=[_,_,_,_,_,_,_,_,_,_,_]) mixed J J
  ⟨fb 0 J J J (dv J),
  ⟨ca 6 0 J J J (dD (ht J)),
  ⟨ca 7 1 J J J (kp 0 XP J J J),
  ⟨ca 8 2 J J J (kp 0 ru J J J),
  ⟨ca 9 3 J J J (ce (r:=rH ea [(1,aO (ix.h 0).1 (ix.h 0).2 r.rows.length),(2,aO (ix.h 1).1 (ix.h 1).2 r.width.length)]) (x:=r) ro J J (T5 (ve RD pp)) (.head _) (ht J)),
  ⟨fb 3 J J J (de te ln J J),
  ⟨ca 11 5 J J J (bC cu J J),
  ⟨d6 10 4 12 6 J J J J (ml mj fN J J J q_e),
  ⟨ca 13 7 J J J (bC fN J J),
  ⟨ca 14 8 J J J (uM J),
  ⟨Pb J J (cF),
  aS⟩⟩⟩⟩⟩⟩⟩⟩⟩⟩⟩ ?_
 refine av<|am<|aJ<|aJ<|aJ ?_;cases so h;exact d5 (ts:=[bZ (cV) e,bI 0]) (rvs:=[.tmp 4,.tmp 5]) J J ⟨aZ J,aZ J,aS⟩ oU J J

theorem RY(n:Int){R:(List ac)}(h:gu n=some R):fJ aR 172 [tV (.slice none 0 0),bI n] false af 46 R:=by
 refine fJ.of Tryz.func172 J J J fun w0 S0=>aw<|bL false af 46<|zo J (aK rr)<|au ?_;refine vp (Z:=hY n=some R) (Of:=[]) (Gf:=[(0,tV (.slice none 0 0)),(1,bI n)]) (fun h=>?_) (fun K=>?_)
 ·skip
  refine yz (Z:=fun s l c=>hX s=some R) (Of:=fun s l c=>[eH af 46 l c s]) (Gf:=fun s l c=>[(0,qS l c s)]) (fun s l c h=>?_) (fun K1=>?_)
  ·skip
   refine aw<|aF J<|bo J<|au<|am ?_;cases so h;exact fE J J
  ·skip
   refine aw<|aF J<|aF J<|zo J (sq iX (ht J))<|aF J<|zo J (sn iX (ht J))<|zo J (jf (ht J) (ht J))<|zo J (jf (ht J) (ht J))<|bo J<|au<|aw<|aF J<|zo J (gm (ht J) hI)<|au<|dd h J (fun h=>?_) (fun h=>?_)
   ·refine aq<|aF J<|aF J<|zo J (sq iX (ht J))<|zo J (xn iX aG (ht J) (ht J))<|aF J<|bB h fun u q_u h=>bB h fun mk q_mk h=>zS (xA (r:=af) (x:=hJ) aG J J J J iX kC (fun _=>bh _) (ht J) (ht J) (EU q_u) q_mk) J fun i=>aF J<|zo J (sn iX (ht J))<|bB h fun y q_y h=>zo J (kX iX aG J (.head _) (ht J) (ht J) q_y)<|we q_y<|bo J<|aQ ?_;exact cC (K1 y (i.h 0).1 (i.h 0).2 h) (bt J)
   ·refine bA<|FH false af 46 ?_;exact cC (K1 Hw none 0 h) (bt J)
 ·skip
  refine aw<|aF J<|zo J (gD (ht J) hI)<|au<|dd h J (fun h=>?_) (fun h=>?_)
  ·refine aq ?_;exact(nn h).elim
  ·refine bA<|be ?_;exact cC (K h) (bt J)
theorem KO(slices:(List (List ac))){R:(List ac)}(h:dB slices=some R):fJ aR 104 [bZ (cV) slices] false af 46 R:=by
 refine fJ.of Tryz.func104 J J J fun w0 S0=>aw<|bL false af 46<|zo J (aK rr)<|au<|aw<|zo J (cF)<|au<|ah<|aw<|aF J<|zo J (iJ ja J)<|zo J (bG hI)<|au<|aA<|bc (k:=9) J fun hN=>bJ<|oR ?_;refine aT (oa (Z:=fun ls i size=>(slices.drop i=ls)∧eP slices ls size=some R) (Of:=fun _ i size=>[]) (Gf:=fun _ i size=>[(0,bZ (cV) slices),(3,bI size),(9,bZ (cV) slices),(10,jr slices),(11,bI (i:Int))]) (fun i size h=>?_) (fun e tl ih i size h=>?_) slices 0 (0:Int) ⟨J,h⟩) (bt J)
 ·obtain⟨hx,h⟩:=h
  refine aB<|aw<|zo J (fL J J)<|au<|ah<|bz (ht J) (du hx)<|bu ?_;refine ai (ai (aN ?_));refine av<|aw<|aF rfl<|bB h fun r q_r h=>il abj (RY _ q_r) ⟨hV,(ht J),aS⟩ J fun l c=>bo J<|au<|ah<|aw<|aF J<|zo J (iJ ja J)<|zo J (bG hI)<|au<|aA<|bc (k:=25) J fun hN1=>bJ ?_;refine aT (jq (Z:=fun ls1 i1 newslice l1 c1=>(slices.drop i1=ls1)∧eO ls1 newslice=some R) (Of:=fun _ i1 newslice l1 c1=>[eH af 46 l1 c1 newslice]) (Gf:=fun _ i1 newslice l1 c1=>[(6,qS l1 c1 newslice),(25,bZ (cV) slices),(26,jr slices),(27,bI (i1:Int))]) (fun i1 newslice l1 c1 h=>?_) (fun e1 tl1 ih1 i1 newslice l1 c1 h=>?_) slices 0 r l c ⟨J,h⟩) (bt J)
  ·obtain⟨hx1,h⟩:=h
   refine aB<|aw<|zo J (fL J J)<|au<|ah<|bz (ht J) (du hx1)<|bu ?_;refine ai (ai (aN ?_));refine av<|aw<|aF rfl<|bo rfl<|au<|am ?_;cases so h;exact fE J J
  ·obtain⟨hx1,h⟩:=h
   refine aB<|aw<|zo J (fL J J)<|au<|ah<|bw (ht J) (dl hx1)<|dU<|ah<|aA<|aw<|zo J (ml ja dL J J J (cX hx1))<|zo J (bC dL J J)<|bo J<|au<|aq<|aF J<|aF J<|bB h fun newslice1 q_newslice1 h=>cO aG J J J J iX J J (ht J) (ht J) q_newslice1 fun l2 c2=>?_;refine bo J<|aQ<|ap<|av<|aq<|zo rfl (lZ (cL hx1 hN1) rfl)<|aF rfl<|aQ ?_;exact bg (aT (ih1 (i1+1) newslice1 l2 c2 ⟨cK hx1,h⟩) (bt J))
 ·obtain⟨hx,h⟩:=h
  refine aB<|aw<|zo J (fL J J)<|au<|ah<|bw (ht J) (dl hx)<|dU<|ah<|aA<|aw<|zo J (ml ja dL J J J (cX hx))<|zo J (bC dL J J)<|bo J<|au<|aw<|aF J<|aF J<|zo J (iJ iX J) ?_;refine zo J (nO (ht J) (ht J))<|bo J<|au<|aw<|aF J<|zo J (gD (ht J) hI)<|au<|dd h J (fun h=>?_) (fun h=>?_)
  ·refine aq ?_;exact(nn h).elim
  ·refine bA<|ap<|av<|aq<|zo rfl (lZ (cL hx hN) rfl)<|aF rfl<|aQ ?_;exact bg (aT (ih (i+1) (IntKind.i64.wrap (size+(e.length:Int))) ⟨cK hx,h⟩) (bt J))
theorem Vu(slices:(List (List ac))){R:(List ac)}(h:dB slices=some R):aV aR 104 [bZ (cV) slices] (bZ (af) R):=(KO _ h).spec

end Go.Proofs.YtfhhakidodmdfaaGreatDoor

