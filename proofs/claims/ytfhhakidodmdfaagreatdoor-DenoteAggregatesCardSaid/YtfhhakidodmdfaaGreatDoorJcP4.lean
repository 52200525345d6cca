/- di of this claim: P4. -/
import Derived.Test.YtfhhakidodmdfaaGreatDoorJcT
import Derived.Test.YtfhhakidodmdfaaGreatDoorJcP3
set_option linter.all false
namespace Go.Proofs.YtfhhakidodmdfaaGreatDoor
open Go
set_option maxRecDepth 100000

theorem SE(b:Nat)(ix:OI)(c:aI){R:PE (Int×Bool) aI}(h:qr c=some R):BN aU 126 [tV (aS b 0)] (dN b c ix) (fun(x:Int×Bool)=>[bM x.1,hJ x.2]) R (dN b):=by
 refine BN.of Tryz.func126 J J J fun w0 S0=>?_;refine(show CG _ _ _ [bx (rH bz [(1,bc (ix.h 0).1 (ix.h 0).2 c.kinds.length),(2,bc (ix.h 1).1 (ix.h 1).2 c.first.length)]) 115 b c,ez nQ 39 (ix.h 0).1 (ix.h 0).2 c.kinds,ez cj 3 (ix.h 1).1 (ix.h 1).2 c.first] _ from ?_);refine av<|zo J (Ui (fun _ _ h=>by rw [show _=_ from h];rfl) (ht J))<|zo J (aT hV)<|aq<|av<|gj<|gj<|gj<|Jj (O1:=dN b c ix) (cts:=[bN (rT (tV (aS b 0))) ()]) (caps:=[.tmp 1]) J abR (Sv b ix c) ⟨(ht J),aL⟩ J fun v fp=>bg J<|aq<|aj ?_;cases so h;exact QV J J

theorem Nm(l:cm){R:aI×Int×Bool}(h:px l=some R):aR aU 72 [tD dW l] (tT [bN bz R.1,bM R.2.1,hJ R.2.2]):=by
 refine LB Tryz.func72 J J J fun w0 S0=>av<|zo J (gi J)<|aP (r:=rV) (x:= .pointer none) k6 (fun _=>⟨J,J⟩) J fun b=>aP (r:=cj) (x:=(0:Int)) cg (fun _=>J) J fun b1=>aP (r:=rB) (x:=false) yy (fun _=>J) J fun b2=>aq<|av<|zo J (bh rP J J)<|zo J (bB (r:=rH bz [(1,.slice none 0 0),(2,.slice none 0 0)]) (y:=(⟨l,[],[]⟩:aI)) ZQ aah (zH Mb ⟨J,J,aL⟩) (⟨_,_,_,_,_,J,WM H4 J J,J,(ht J),J⟩))<|s6 (ht J) J fun b3=>ca true nQ 39<|ca true cj 3 ?_;refine(show RG _ _ _ _ [ez cj 3 none 0 vn,ez nQ 39 none 0 PI,bx (rH bz [(1,bc none 0 PI.length),(2,bc none 0 vn.length)]) 115 b3 (⟨l,[],[]⟩:aI),bx rB 4 b2 false,bx cj 3 b1 (0:Int),bx rV 109 b (.pointer none)] _ from ?_);refine aP (r:=rV) (x:= .pointer none) k6 (fun _=>⟨J,J⟩) J fun b4=>nd (mZ k6 J (oS ai) J (ht J) (hW (ht J) J)) fun i=>?_;refine(show RG _ _ _ _ [bx rV 109 b4 (aS b3 0),ez cj 3 none 0 vn,ez nQ 39 none 0 PI,bx (rH bz [(1,bc none 0 PI.length),(2,bc none 0 vn.length)]) 115 b3 (⟨l,[],[]⟩:aI),bx rB 4 b2 false,bx cj 3 b1 (0:Int),bx rV 109 b (.pointer none)] _ from ?_);refine aq<|av<|zo J (bX vd od J J)<|zo J (bh F5 J J)<|zo J (jw AJ J)<|bg J<|aq<|ah<|av<|aE J<|zo J (dJ (ht J) hI)<|aE J<|dD J J (fun hg=>cX J)<|dD J J (fun hg=>iz (bm J hg) hI)<|zo J (uo J J)<|aq<|ce h J (fun h=>?_) (fun h=>?_)
 ·refine av<|zo J (tQ k6 (.head _) (ht J))<|nd (EffOK.fr6 (mZ k6 J (oS ai) J (ht J) (hW (ht J) J))) fun i1=>?_;refine(show RG _ _ _ _ [bx rV 109 b (aS b3 0),bx rV 109 b4 (aS b3 0),ez cj 3 none 0 vn,ez nQ 39 none 0 PI,bx (rH bz [(1,bc none 0 PI.length),(2,bc none 0 vn.length)]) 115 b3 (⟨l,[],[]⟩:aI),bx rB 4 b2 false,bx cj 3 b1 (0:Int)] _ from ?_);refine y5<|am cg J ai J (ht J) hI<|y5<|am yy J ai J (ht J) hB<|aq<|aj<|ae<|vX<|CL<|AD 11 J<|aM<|aF 2 J<|bI<|aF 3 J<|aF 4 J<|aZ<|aZ<|aZ<|sv ?_;cases so h;exact be (ts:=[bN bz (⟨l,[],[]⟩:aI),bM 0,hJ false]) (rvs:=[.cell 2 109,.cell 3 3,.cell 4 4]) J J ⟨Cb (j:=11) k6 J J,aN cg J J J,aN yy J J J,aL⟩
 ·refine df<|ah<|av<|zo J (tQ k6 (.head _) (ht J))<|bq<|gj<|oM<|bo h fun it q_it h=>NH (dN b3 (⟨l,[],[]⟩:aI) (WQ [(none,0),(none,0)])) _ J act (SE b3 (WQ [(none,0),(none,0)]) (⟨l,[],[]⟩:aI) q_it) ⟨(ht J),aL⟩ J fun v fp=>aq<|aC<|bo h fun r q_r h=>?_;refine HF (fun(ix:Bool×Int×Bool)=>[bx rV 109 b4 (aS b3 0),bx rB 4 b2 ix.1,bx cj 3 b1 ix.2.1,bx rV 109 b (bif ix.2.2 then aS b3 0 else .pointer none)]) (fun(ix:Bool×Int×Bool)=>(ix.1,ix.2.1,ix.2.2)) (fun _=> .ret) J (ht J) (false,(0:Int),false) J q_r (fun _=>J) J (fun ix x r1 h lp rec1 _ _ _=>?_) (fun i2 j hi bd=>⟨fun hj=>?_,fun _ hj=>?_⟩)
  ·obtain⟨x1,x2,p⟩:=ix
   replace h:o4 x x1 x2 p=some r1:=h
   refine(show CG _ _ _ [r0 lp rec1 .ready none,bx rV 109 b4 (aS b3 0),bx rB 4 b2 x1,bx cj 3 b1 x2,bx rV 109 b (bif p then aS b3 0 else .pointer none)] _ from ?_);refine FS (G' :=[(0,tD dW l),(1,bN dW l),(2,tV (aS b 0)),(3,tV (aS b1 0)),(4,tV (aS b2 0)),(5,tV (aS b4 0)),(6,ky l.Nodes),(9,tD dW l),(10,tD (rH bz [(1,.slice none 0 0),(2,.slice none 0 0)]) (⟨l,[],[]⟩:aI)),(11,tV (aS b3 0)),(12,bN (ik aW) l.Nodes),(13,cq (aW) l.Nodes),(14,ky l.Nodes),(15,ky l.Nodes),(16,hJ (decide ((l.Nodes.length:Int)<(1:Int)))),(17,hJ (decide ((l.Nodes.length:Int)<(1:Int)))),(18,po (!(decide ((l.Nodes.length:Int)<(1:Int)))) (ky l.Nodes)),(19,po (!(decide ((l.Nodes.length:Int)<(1:Int)))) (hJ (decide ((60:Int)<(l.Nodes.length:Int))))),(20,hJ ((decide ((l.Nodes.length:Int)<(1:Int)))||(decide ((60:Int)<(l.Nodes.length:Int))))),(22,tV (aS b3 0)),(24,bM x.1),(25,hJ x.2)]) ?_ ⟨J,J,J,J,J,J,J,J,J,J,J,J,J,J,J,J,J,J,J,J,J,J,aL⟩;refine av<|bg J<|aq<|aA<|bg J<|aQ<|HK<|aC<|av<|aE J<|zo J (cx (ht J))<|aq<|ce h J (fun h=>?_) (fun h=>?_)
   ·refine av<|zo J (tQ k6 (.tail _ (.head _)) (ht J))<|aE J<|nd (EffOK.fr4 (mZ k6 J (oS ai) J (ht J) (hW (ht J) J))) fun i3=>?_;refine(show RG _ _ _ _ [bx rV 109 b (aS b3 0),r0 lp rec1 .busy none,bx rV 109 b4 (aS b3 0),bx rB 4 b2 x1,bx cj 3 b1 x2] _ from ?_);refine y6<|am cg J ai J (ht J) (ht J)<|y6<|am yy J ai J (ht J) hB<|aq<|aj<|aB<|aM<|aM<|aM<|fR<|fR ?_;cases so h;exact BW 0 J (false,x.1,true) J J
   ·refine bA<|aw ?_;cases so h;exact wV (x1,x2,p) J J
  ·skip
   obtain⟨x3,x4,p1⟩:=i2
   obtain rfl:x3=r.1.2.1:=congrArg (fun q:Bool×Int×Bool=>q.1) hi
   obtain rfl:x4=r.1.2.2.1:=congrArg (fun q:Bool×Int×Bool=>q.2.1) hi
   obtain rfl:p1=r.1.2.2.2:=congrArg (fun q:Bool×Int×Bool=>q.2.2) hi
   have h:=ct h (by rw [hj];rfl);refine(show AT _ _ _ [BF bd,bx (rH bz [(1,bc (j.h 0).1 (j.h 0).2 r.2.kinds.length),(2,bc (j.h 1).1 (j.h 1).2 r.2.first.length)]) 115 b3 r.2,ez nQ 39 (j.h 0).1 (j.h 0).2 r.2.kinds,ez cj 3 (j.h 1).1 (j.h 1).2 r.2.first,bx rV 109 b4 (aS b3 0),bx rB 4 b2 r.1.2.1,bx cj 3 b1 r.1.2.2.1,bx rV 109 b (bif r.1.2.2.2 then aS b3 0 else .pointer none)] _ from ?_);refine ci (G' :=[(0,tD dW l),(1,bN dW l),(2,tV (aS b 0)),(3,tV (aS b1 0)),(4,tV (aS b2 0)),(5,tV (aS b4 0)),(6,ky l.Nodes),(9,tD dW l),(10,tD (rH bz [(1,.slice none 0 0),(2,.slice none 0 0)]) (⟨l,[],[]⟩:aI)),(11,tV (aS b3 0)),(12,bN (ik aW) l.Nodes),(13,cq (aW) l.Nodes),(14,ky l.Nodes),(15,ky l.Nodes),(16,hJ (decide ((l.Nodes.length:Int)<(1:Int)))),(17,hJ (decide ((l.Nodes.length:Int)<(1:Int)))),(18,po (!(decide ((l.Nodes.length:Int)<(1:Int)))) (ky l.Nodes)),(19,po (!(decide ((l.Nodes.length:Int)<(1:Int)))) (hJ (decide ((60:Int)<(l.Nodes.length:Int))))),(20,hJ ((decide ((l.Nodes.length:Int)<(1:Int)))||(decide ((60:Int)<(l.Nodes.length:Int))))),(22,tV (aS b3 0))]) ?_ ⟨J,J,J,J,J,J,J,J,J,J,J,J,J,J,J,J,J,J,J,J,aL⟩;refine aw<|ax<|ah<|bo h fun e q_e h=>?_
   refine oy 14 [tc (tV (aS b3 0)),tc (ky l.Nodes),tc (bM (IntKind.i64.wrap ((l.Nodes.length:Int)-(1:Int)))),tc (tV (aS b3 0)),tc (tV (aS b3 0)),tc (tV (aS b3 2)),tc (tO cj (j.h 1).1 (j.h 1).2 r.2.first),tc (ky l.Nodes),tc (bM (IntKind.i64.wrap ((l.Nodes.length:Int)-(1:Int)))),tc (bN cj e),tc (bM e),tc (hJ (e==(0:Int))),tc (AX),tc (AX)] [false,false,false,false,false,false,false,false,false,false,false,false,true,true] [fun _=>[BF bd,bx (rH bz [(1,bc (j.h 0).1 (j.h 0).2 r.2.kinds.length),(2,bc (j.h 1).1 (j.h 1).2 r.2.first.length)]) 115 b3 r.2,ez nQ 39 (j.h 0).1 (j.h 0).2 r.2.kinds,ez cj 3 (j.h 1).1 (j.h 1).2 r.2.first,bx rV 109 b4 (aS b3 0),bx rB 4 b2 r.1.2.1,bx cj 3 b1 r.1.2.2.1,bx rV 109 b (bif r.1.2.2.2 then aS b3 0 else .pointer none)],fun sg=>[bx rV 109 b (aS b3 0),BF bd,bx (rH bz [(1,bc (j.h 0).1 (j.h 0).2 r.2.kinds.length),(2,bc (j.h 1).1 (j.h 1).2 r.2.first.length)]) 115 b3 r.2,ez nQ 39 (j.h 0).1 (j.h 0).2 r.2.kinds,ez cj 3 (j.h 1).1 (j.h 1).2 r.2.first,bx rV 109 b4 (aS b3 0),bx rB 4 b2 r.1.2.1,bx cj 3 b1 r.1.2.2.1],fun sg=>[bx cj 3 b1 (IntKind.i64.wrap ((l.Nodes.length:Int)-(1:Int))),bx rV 109 b (aS b3 0),BF bd,bx (rH bz [(1,bc (j.h 0).1 (j.h 0).2 r.2.kinds.length),(2,bc (j.h 1).1 (j.h 1).2 r.2.first.length)]) 115 b3 r.2,ez nQ 39 (j.h 0).1 (j.h 0).2 r.2.kinds,ez cj 3 (j.h 1).1 (j.h 1).2 r.2.first,bx rV 109 b4 (aS b3 0),bx rB 4 b2 r.1.2.1]] J mixed J J J J J
    ⟨⟨[⟨5,fun _=>tV (aS b4 0),none⟩],_,0,0,J,⟨(fun _=>J),aL⟩,J,J,J,J,J,z7 (fun sg=>aD J (tQ k6 (.tail _ (.tail _ (.tail _ (.tail _ (.head _))))) (ht J)))⟩,
    ⟨⟨[⟨6,fun _=>tD cj (l.Nodes.length:Int),none⟩],_,0,1,J,⟨(fun _=>J),aL⟩,J,J,J,J,J,fun _ sg _ _=>aD J (cX J)⟩,
    ⟨⟨[⟨31,fun _=>tD cj (l.Nodes.length:Int),some 1⟩],_,0,1,J,⟨(fun _=>J),aL⟩,J,J,J,J,J,fun _ sg _ _=>aD J (ft (ht J) hI)⟩,
    ⟨⟨[⟨5,fun _=>tV (aS b4 0),none⟩],_,0,2,J,⟨(fun _=>J),aL⟩,J,J,J,J,J,F3 (fun sg=>aD J (tQ k6 (.tail _ (.tail _ (.tail _ (.tail _ (.head _))))) (ht J))) (F3 (fun sg=>aD J (tQ k6 (.tail _ (.tail _ (.tail _ (.tail _ (.tail _ (.head _)))))) (ht J))) (z7 (fun sg=>aD J (tQ k6 (.tail _ (.tail _ (.tail _ (.tail _ (.tail _ (.tail _ (.head _))))))) (ht J)))))⟩,
    ⟨⟨[⟨33,fun _=>tV (aS b3 0),some 3⟩],_,0,2,J,⟨(fun _=>J),aL⟩,J,J,J,J,J,fun _ sg _ _=>aD J (dQ (ht J))⟩,
    ⟨⟨[⟨34,fun _=>tV (aS b3 0),some 4⟩],_,0,2,J,⟨(fun _=>J),aL⟩,J,J,J,J,J,fun _ sg _ _=>aD J (je 2 uO J J J)⟩,
    ⟨⟨[⟨35,fun _=>tV (aS b3 2),some 5⟩],_,0,2,J,⟨(fun _=>J),aL⟩,J,J,J,J,J,F3 (fun sg=>aD J (dx eQ J (.tail _ (.head _)) (.tail _ (.tail _ (.tail _ (.head _)))) (ht J))) (F3 (fun sg=>aD J (dx eQ J (.tail _ (.tail _ (.head _))) (.tail _ (.tail _ (.tail _ (.tail _ (.head _))))) (ht J))) (z7 (fun sg=>aD J (dx eQ J (.tail _ (.tail _ (.tail _ (.head _)))) (.tail _ (.tail _ (.tail _ (.tail _ (.tail _ (.head _)))))) (ht J)))))⟩,
    ⟨⟨[⟨6,fun _=>tD cj (l.Nodes.length:Int),none⟩],_,0,2,J,⟨(fun _=>J),aL⟩,J,J,J,J,J,fun _ sg _ _=>aD J (cX J)⟩,
    ⟨⟨[⟨37,fun _=>tD cj (l.Nodes.length:Int),some 7⟩],_,0,2,J,⟨(fun _=>J),aL⟩,J,J,J,J,J,fun _ sg _ _=>aD J (ft (ht J) hI)⟩,
    ⟨⟨[⟨36,fun _=>tO cj (j.h 1).1 (j.h 1).2 r.2.first,some 6⟩,⟨38,fun _=>tD cj (IntKind.i64.wrap ((l.Nodes.length:Int)-(1:Int))),some 8⟩],_,0,2,J,⟨(fun _=>J),(fun _=>J),aL⟩,J,J,J,J,J,fun _ sg _ _=>aD J (bF iv cg J (lJ (ht J)) (ht J) q_e)⟩,
    ⟨⟨[⟨39,fun _=>bN cj e,some 9⟩],_,0,2,J,⟨(fun _=>J),aL⟩,J,J,J,J,J,fun _ sg _ _=>aD J (bh cg J J)⟩,
    ⟨⟨[⟨40,fun _=>tD cj e,some 10⟩],_,0,2,J,⟨(fun _=>J),aL⟩,J,J,J,J,J,fun _ sg _ _=>aD J (hM J)⟩,
    ⟨⟨[⟨2,fun _=>tV (aS b 0),none⟩,⟨30,fun _=>tV (aS b3 0),some 0⟩],_,J,⟨(fun _=>J),(fun _=>J),aL⟩,J,J,J,fun sg=>eF J (EffOK.fr7 (mZ k6 J (oS ai) J (ht J) (hW (ht J) J)))⟩,
    ⟨⟨[⟨3,fun _=>tV (aS b1 0),none⟩,⟨32,fun _=>tD cj (IntKind.i64.wrap ((l.Nodes.length:Int)-(1:Int))),some 2⟩],_,J,⟨(fun _=>J),(fun _=>J),aL⟩,J,J,J,fun sg=>eF J (EffOK.fr7 (mZ cg J (oS ai) J (ht J) (ht J)))⟩,
    aL⟩⟩⟩⟩⟩⟩⟩⟩⟩⟩⟩⟩⟩⟩ (fun sg=>?_)
   refine(show RG _ _ _ _ [bx cj 3 b1 (IntKind.i64.wrap ((l.Nodes.length:Int)-(1:Int))),bx rV 109 b (aS b3 0),BF bd,bx (rH bz [(1,bc (j.h 0).1 (j.h 0).2 r.2.kinds.length),(2,bc (j.h 1).1 (j.h 1).2 r.2.first.length)]) 115 b3 r.2,ez nQ 39 (j.h 0).1 (j.h 0).2 r.2.kinds,ez cj 3 (j.h 1).1 (j.h 1).2 r.2.first,bx rV 109 b4 (aS b3 0),bx rB 4 b2 r.1.2.1] _ from ?_);refine QK<|am yy J ai J (ht J) (ht J)<|aq<|aj<|fR<|CL<|AD 11 J<|aM<|aF 2 J<|bI<|aF 3 J<|aF 4 J<|bI<|aZ<|bI<|aZ<|bI<|aZ<|BV<|sv ?_;cases so h;exact be (ts:=[bN bz r.2,bM (IntKind.i64.wrap ((l.Nodes.length:Int)-(1:Int))),hJ (e==(0:Int))]) (rvs:=[.cell 2 109,.cell 3 3,.cell 4 4]) J J ⟨Cb (j:=11) k6 J J,aN cg J J J,aN yy J J J,aL⟩
  ·skip
   obtain⟨x5,x6,p2⟩:=i2
   obtain rfl:x5=r.1.2.1:=congrArg (fun q:Bool×Int×Bool=>q.1) hi
   obtain rfl:x6=r.1.2.2.1:=congrArg (fun q:Bool×Int×Bool=>q.2.1) hi
   obtain rfl:p2=r.1.2.2.2:=congrArg (fun q:Bool×Int×Bool=>q.2.2) hi
   have h:=cf h (by rw [hj];rfl);refine(show CG _ _ _ [BF bd,bx (rH bz [(1,bc (j.h 0).1 (j.h 0).2 r.2.kinds.length),(2,bc (j.h 1).1 (j.h 1).2 r.2.first.length)]) 115 b3 r.2,ez nQ 39 (j.h 0).1 (j.h 0).2 r.2.kinds,ez cj 3 (j.h 1).1 (j.h 1).2 r.2.first,bx rV 109 b4 (aS b3 0),bx rB 4 b2 r.1.2.1,bx cj 3 b1 r.1.2.2.1,bx rV 109 b (bif r.1.2.2.2 then aS b3 0 else .pointer none)] _ from ?_);refine FS (G' :=[(0,tD dW l),(1,bN dW l),(2,tV (aS b 0)),(3,tV (aS b1 0)),(4,tV (aS b2 0)),(5,tV (aS b4 0)),(6,ky l.Nodes),(9,tD dW l),(10,tD (rH bz [(1,.slice none 0 0),(2,.slice none 0 0)]) (⟨l,[],[]⟩:aI)),(11,tV (aS b3 0)),(12,bN (ik aW) l.Nodes),(13,cq (aW) l.Nodes),(14,ky l.Nodes),(15,ky l.Nodes),(16,hJ (decide ((l.Nodes.length:Int)<(1:Int)))),(17,hJ (decide ((l.Nodes.length:Int)<(1:Int)))),(18,po (!(decide ((l.Nodes.length:Int)<(1:Int)))) (ky l.Nodes)),(19,po (!(decide ((l.Nodes.length:Int)<(1:Int)))) (hJ (decide ((60:Int)<(l.Nodes.length:Int))))),(20,hJ ((decide ((l.Nodes.length:Int)<(1:Int)))||(decide ((60:Int)<(l.Nodes.length:Int))))),(22,tV (aS b3 0))]) ?_ ⟨J,J,J,J,J,J,J,J,J,J,J,J,J,J,J,J,J,J,J,J,aL⟩;refine aj ?_;refine aB (ae ?_);refine bo h fun u q_u h=>TB (O' :=[BF bd,bx (rH bz [(1,bc (j.h 0).1 (j.h 0).2 r.2.kinds.length),(2,bc (j.h 1).1 (j.h 1).2 r.2.first.length)]) 115 b3 r.2,ez nQ 39 (j.h 0).1 (j.h 0).2 r.2.kinds,ez cj 3 (j.h 1).1 (j.h 1).2 r.2.first,bx rV 109 b4 (aS b3 0),bx rB 4 b2 r.1.2.1,bx cj 3 b1 r.1.2.2.1,bx rV 109 b (aS b3 0)]) (by rw [show r.1.2.2.2=true from RV q_u];rfl)<|bI<|CL<|AD 11 J<|vX<|aF 2 J<|HJ<|aF 3 J<|fR<|aF 4 J<|bI<|aZ<|bI<|aZ<|bI<|aZ<|BV<|sv ?_;cases so h;exact be (ts:=[bN bz r.2,bM r.1.2.2.1,hJ r.1.2.1]) (rvs:=[.cell 2 109,.cell 3 3,.cell 4 4]) J J ⟨Cb (j:=11) k6 J J,aN cg J J J,aN yy J J J,aL⟩

theorem Sn(l:cm){R:Int×Int}(h:sf l=some R):aR aU 50 [tD dW l] (tT [bM R.1,bM R.2]):=by
 refine aR.of Tryz.func50 J J J fun w0 S0=>av<|zo J (gi J)<|zo J (bW)<|zo J (bW)<|aq<|av<|zo J (bh rP J J)<|bo h fun r q_r h=>zo J (ap Zr (Nm _ q_r) ⟨(ht J),aL⟩)<|aE J<|zo J (dX J J)<|zo J (dX J J)<|zo J (dX J J)<|bg J<|bg J<|bg J<|aq<|ah<|ah ?_;refine aA<|aE J<|zo J (cx (ht J))<|aq<|ce h J (fun h=>?_) (fun h=>?_)
 ·refine av<|aE J<|bg J<|zo J (bW)<|aq<|aj<|ae ?_;cases so h;exact cW J J J
 ·refine df<|av<|zo J (bW)<|zo J (bW)<|aq<|aj ?_;cases so h;exact cW J J J

theorem YO(rows:(List (List ac)))(kinds:(List Int)){R:Bool}(h:sl rows kinds=some R):aR aU 61 [cq (dg) rows,mH kinds] (hJ R):=by
 refine aR.of Tryz.func61 J J J fun w0 S0=>av<|zo J (jU)<|aq<|ah<|av<|aE J<|zo J (jw jN J)<|zo J (iz (ht J) hI)<|aq<|ce h J (fun h=>?_) (fun h=>?_)
 ·refine av<|zo J (jU)<|aq<|aj<|ae ?_;cases so h;exact aH J J
 ·refine df<|ah<|av<|aE J<|zo J (jw jN J)<|zo J (bJ hI)<|aq<|aC<|bp (k:=12) J fun hN=>bQ ?_;refine ba (fK (Z:=fun ls i=>(rows.drop i=ls)∧mv kinds ls=some R) (Of:=fun _ i=>[]) (Gf:=fun _ i=>[(1,mH kinds),(12,cq (dg) rows),(13,ky rows),(14,bM (i:Int))]) (fun i h=>?_) (fun e tl ih i h=>?_) rows 0 ⟨J,h⟩) (bD J)
  ·obtain⟨hx,h⟩:=h
   refine aG<|av<|zo J (fY J J)<|aq<|ah<|bL (ht J) (dO hx)<|bG ?_;refine ak (ak (aV ?_));refine ax<|av<|zo rfl (jU)<|aq<|aj ?_;cases so h;exact aH J J
  ·obtain⟨hx,h⟩:=h
   refine aG<|av<|zo J (fY J J)<|aq<|ah<|bK (ht J) (dL hx)<|df<|ah<|aC<|av<|zo J (ne jN eg J J J (dA hx))<|zo J (bh eg J J)<|bg J<|aq<|ah<|av<|aE J<|zo J (jw iw J) ?_;refine aE J<|zo J (jw iv J)<|zo J (c9 (ht J) (ht J))<|aq<|ce h J (fun h=>?_) (fun h=>?_)
   ·refine av<|zo J (jU)<|aq<|aj ?_;refine ae (aB (ae (ae (aB (ae ?_)))));cases so h;exact aH J J
   ·refine df<|av<|aE J<|zo J (jw iw J)<|zo J (bJ hI)<|aq<|aC<|bp (k:=23) J fun hN1=>bQ ?_;refine ba (fK (Z:=fun ls1 i1=>(e.drop i1=ls1)∧mu kinds (mv kinds tl) ls1 i1=some R) (Of:=fun _ i1=>[]) (Gf:=fun _ i1=>[(1,mH kinds),(12,cq (dg) rows),(13,ky rows),(14,bM (i:Int)),(23,cq (af) e),(24,ky e),(25,bM (i1:Int))]) (fun i1 h=>?_) (fun e1 tl1 ih1 i1 h=>?_) e 0 ⟨J,h⟩) (bD J)
    ·obtain⟨hx1,h⟩:=h
     refine aG<|av<|zo J (fY J J)<|aq<|ah<|bL (ht J) (dO hx1)<|bG ?_;refine ak (ak (aV ?_));refine aw<|ax<|aA<|zo rfl (nf (dd hx hN) rfl)<|aE rfl<|aQ ?_;exact bn (ba (ih (i+1) ⟨dc hx,h⟩) (bD J))
    ·obtain⟨hx1,h⟩:=h
     refine aG<|av<|zo J (fY J J)<|aq<|ah<|bK (ht J) (dL hx1)<|df<|ah<|aC<|av<|aE J<|zo J (ne iw au J J J (dA hx1))<|zo J (bh au J J)<|aP (r:=af) (x:=d3) au (fun _=>aJ _) J fun b=>bg J<|am au J ai J (ht J) (ht J)<|aY 8 J<|aq<|ah ?_;refine bo h fun r q_r h=>bo h fun t q_t h=>?_
     obtain⟨t1,h1t,h0t⟩:=og q_t
     have q_t1g:=fun hb=>(h1t hb).1
     obtain⟨e2,h1t1,h0t1⟩:=ZZ q_t1g
     have q_e2g:=fun hb=>(h1t1 hb).1
     refine cD (ts:=[_,_,_,_,_,_,_,_,_,_,_,_,_,_,_,_,_]) mixed J J
      ⟨dB 8 J J J (bh au J J),
      ⟨bT 30 0 J J J (ap Lw (Bu _ q_r) ⟨(ht J),aL⟩),
      ⟨bT 31 1 J J J (sx J),
      ⟨bT 32 2 J J J (cX J),
      ⟨qR 8 33 3 J J J J (la J J J J (fun hg=>bX cz br J J)),
      ⟨kj 34 4 33 3 J J J J (la J J J J (fun hg=>bj cg J J (bm J hg))),
      ⟨kj 35 5 33 3 J J J J (la J J J J (fun hg=>c9 (bm J hg) hI)),
      ⟨kj 36 6 33 3 J J J J (la J J J J (fun hg=>bJ (bm J hg))),
      ⟨qR 8 37 7 J J J J (wU J J J J (fun hg=>bX cz br J J)),
      ⟨kj 38 8 37 7 J J J J (wU J J J J (fun hg=>bj cg J J (bm J hg))),
      ⟨qR 1 37 7 J J J J (wU J J J J (fun hg=>cX J)),
      ⟨qR 7 37 7 J J J J (wU J J J J (fun hg=>cX J)),
      ⟨uw 40 10 41 11 37 7 J J J J J (wU J J J J (fun hg=>bF iv cg J (bm J hg) (bm J hg) (q_e2g hg))),
      ⟨kj 42 12 37 7 J J J J (wU J J J J (fun hg=>bj cg J J (bm J hg))),
      ⟨uw 39 9 43 13 37 7 J J J J J (wU J J J J (fun hg=>c9 (bm J hg) (bm J hg))),
      ⟨uw 37 7 44 14 33 3 J J J J J (la J J J J (fun hg=>cH (bm J hg) (fun hb=>(bm J (qD hg hb))) (fun hb=>(h1t1 (qD hg hb)).2) (fun hb=>h0t1 hg hb))),
      ⟨cK 33 3 45 15 J J J J (eO (ht J) (fun hb=>(bm J (qo hb))) (fun hb=>(h1t hb).2) h0t),
      aL⟩⟩⟩⟩⟩⟩⟩⟩⟩⟩⟩⟩⟩⟩⟩⟩⟩ ?_
     refine ax<|ce h rfl (fun h=>?_) (fun h=>?_)
     ·refine av<|zo J (jU)<|aq<|aj ?_;refine aB (ae (ae (aB (aB (ae (ae (aB (ae ?_))))))));cases so h;exact aH J J
     ·refine bA<|aw<|ax<|aA<|zo rfl (nf (dd hx1 hN1) rfl)<|aE rfl<|aQ ?_;exact bn (ba (ih1 (i1+1) ⟨dc hx1,h⟩) (bD J))

theorem Zd(l:cm)(b:kH){R:Bool}(h:uR l b=some R):aR aU 16 [tD dW l,tD qh b] (hJ R):=by
 refine aR.of Tryz.func16 J J J fun w0 S0=>av<|zo J (gi J)<|zo J (gi J)<|zo J (jU)<|aq<|ah<|av<|zo J (bh rP J J)<|bo h fun r q_r h=>zo J (ap aaG (Sn _ q_r) ⟨(ht J),aL⟩)<|aE J<|zo J (dX J J)<|zo J (dX J J)<|bg J<|bg J<|aq<|av<|aE J ?_;refine zo J (sx J)<|aq<|ce h J (fun h=>?_) (fun h=>?_)
 ·refine av<|zo J (jU)<|aq<|aj<|ae ?_;cases so h;exact aH J J
 ·refine df<|ah<|av<|zo J (bX vd od J J)<|zo J (bh F5 J J)<|zo J (jw AJ J)<|zo J (bJ hI)<|aq<|aC<|bp (k:=17) J fun hN=>bQ ?_;refine ba (fK (Z:=fun ls i=>(l.Nodes.drop i=ls)∧ov b ls=some R) (Of:=fun _ i=>[]) (Gf:=fun _ i=>[(3,bN qh b),(17,cq (aW) l.Nodes),(18,ky l.Nodes),(19,bM (i:Int))]) (fun i h=>?_) (fun e tl ih i h=>?_) l.Nodes 0 ⟨J,h⟩) (bD J)
  ·obtain⟨hx,h⟩:=h
   refine aG<|av<|zo J (fY J J)<|aq<|ah<|bL (ht J) (dO hx)<|bG ?_;refine ak (ak (aV ?_));refine ax<|av<|zo rfl (jU)<|aq<|aj ?_;cases so h;exact aH J J
  ·obtain⟨hx,h⟩:=h
   refine aG<|av<|zo J (fY J J)<|aq<|ah<|bK (ht J) (dL hx)<|df<|ah<|aC<|av<|zo J (ne AJ jj J J J (dA hx))<|zo J (bh jj J J)<|aP (r:=aW) (x:=Jz) jj (fun _=>p9 _) J fun b1=>am jj J ai J (ht J) (ht J)<|aY 8 J<|aq<|ah<|bo h fun t q_t h=>?_
   obtain⟨t1,h1t,h0t⟩:=og q_t
   have q_t1g:=fun hb=>(h1t hb).1
   obtain⟨e1,h1t1,h0t1⟩:=ZZ q_t1g
   have q_e1g:=fun hb=>(h1t1 hb).1
   obtain⟨r1,h1t1⟩:=WR (fun hb=>(h1t1 hb).2)
   have q_r1g:=fun hb=>(h1t1 hb).1
   refine cD (ts:=[_,_,_,_,_,_,_,_,_,_,_,_,_,_,_,_,_,_,_,_,_,_,_]) mixed J J
    ⟨dB 8 J J J (bX Cp rj J J),
    ⟨bT 23 0 J J J (bh cg J J),
    ⟨bT 24 1 J J J (hM J),
    ⟨bT 25 2 J J J (cX J),
    ⟨qR 8 26 3 J J J J (dC J J J J (fun hg=>bX Ao ri J J)),
    ⟨kj 27 4 26 3 J J J J (dC J J J J (fun hg=>bj cg J J (bm J hg))),
    ⟨qR 3 26 3 J J J J (dC J J J J (fun hg=>bX Nj Cm J J)),
    ⟨kj 29 6 26 3 J J J J (dC J J J J (fun hg=>bj zf J J (bm J hg))),
    ⟨kj 30 7 26 3 J J J J (dC J J J J (fun hg=>dK qP (bm J hg))),
    ⟨uw 28 5 31 8 26 3 J J J J J (dC J J J J (fun hg=>gh (bm J hg) (bm J hg))),
    ⟨kj 32 9 26 3 J J J J (dC J J J J (fun hg=>bJ (bm J hg))),
    ⟨qR 3 33 10 J J J J (rK J J J J (fun hg=>bX Nj Cm J J)),
    ⟨kj 34 11 33 10 J J J J (rK J J J J (fun hg=>bj zf J J (bm J hg))),
    ⟨qR 8 33 10 J J J J (rK J J J J (fun hg=>bX Ao ri J J)),
    ⟨kj 36 13 33 10 J J J J (rK J J J J (fun hg=>bj cg J J (bm J hg))),
    ⟨uw 35 12 37 14 33 10 J J J J J (rK J J J J (fun hg=>bF qP iy J (bm J hg) (bm J hg) (q_e1g hg))),
    ⟨kj 38 15 33 10 J J J J (rK J J J J (fun hg=>bj iy J J (bm J hg))),
    ⟨qR 8 33 10 J J J J (rK J J J J (fun hg=>bX wD pC J J)),
    ⟨kj 40 17 33 10 J J J J (rK J J J J (fun hg=>bj eQ J J (bm J hg))),
    ⟨uw 39 16 41 18 33 10 J J J J J (rK J J J J (fun hg=>ap ade (YO _ _ (q_r1g hg)) ⟨(bm J hg),(bm J hg),aL⟩)),
    ⟨kj 42 19 33 10 J J J J (rK J J J J (fun hg=>cx (bm J hg))),
    ⟨uw 33 10 43 20 26 3 J J J J J (dC J J J J (fun hg=>eO (bm J hg) (fun hb=>(bm J (qD hg (qo hb)))) (fun hb=>(h1t1 (qD hg hb)).2) (fun hb=>h0t1 hg hb))),
    ⟨cK 26 3 44 21 J J J J (cH (ht J) (fun hb=>(bm J hb)) (fun hb=>(h1t hb).2) h0t),
    aL⟩⟩⟩⟩⟩⟩⟩⟩⟩⟩⟩⟩⟩⟩⟩⟩⟩⟩⟩⟩⟩⟩⟩ ?_
   refine ax<|ce h rfl (fun h=>?_) (fun h=>?_)
   ·refine av<|zo J (jU)<|aq<|aj ?_;refine aB (ae (ae (aB (ae ?_))));cases so h;exact aH J J
   ·refine bA<|aw<|ax<|aA<|zo rfl (nf (dd hx hN) rfl)<|aE rfl<|aQ ?_;exact bn (ba (ih (i+1) ⟨dc hx,h⟩) (bD J))

theorem Y1(l:cm){R:(List Int)×Int}(h:se l=some R):aR aU 23 [tD dW l] (tT [mH R.1,bM R.2]):=by
 refine aR.of Tryz.func23 J J J fun w0 S0=>av<|zo J (gi J)<|zo J (aT (show aO _ _ _ xB from kJ))<|zo J (bW)<|aq<|av<|zo J (bh rP J J)<|bo h fun r q_r h=>zo J (ap Zr (Nm _ q_r) ⟨(ht J),aL⟩)<|aE J<|zo J (dX J J)<|zo J (dX J J)<|zo J (dX J J)<|bg J<|bg J<|bg J<|aq<|ah<|ah ?_;refine aA<|aE J<|zo J (cx (ht J))<|aq<|ce h J (fun h=>?_) (fun h=>?_)
 ·refine av<|zo J (aT (show aO _ _ _ xB from kJ))<|zo J (bW)<|aq<|aj<|ae ?_;cases so h;exact cW J J J
 ·refine df<|av<|aE J<|zo J (Ip (ht J))<|zo J (bX nN IK J J)<|zo J (bh tF J J)<|aE J<|bo h fun e q_e h=>zo J (ne wa eQ J J J q_e)<|zo J (bh eQ J J)<|bo h fun r1 q_r1 h=>jh SS (IS _ q_r1) ⟨(ht J),aL⟩ J fun l1 c=>bg J<|zo J (bW)<|aq<|aj<|jS<|cP 2 J<|cP 22 J<|jT 2 J<|aZ ?_;cases so h;exact cW J J J

theorem aat(b:Nat)(ix:OI)(r:dh)(n:ay){R:(List (List ac))×Int}(h:lg r n=some R):dl aU 51 [tV (aS b 0),tD aW n] (jE b r ix) (fun _:OI=>tT [cq (dg) R.1,bM R.2]) (fun _=>(jE b r ix)):=by
 refine dl.of Tryz.func51 J J J fun w0 S0=>?_;refine(show CG _ _ _ [bx (rH eS [(1,bc (ix.h 0).1 (ix.h 0).2 r.rows.length),(2,bc (ix.h 1).1 (ix.h 1).2 r.width.length)]) 96 b r,ez ee 32 (ix.h 0).1 (ix.h 0).2 r.rows,ez cj 3 (ix.h 1).1 (ix.h 1).2 r.width] _ from ?_);refine av<|zo J (gi J)<|zo J (aT (show aO _ _ _ we from kJ))<|zo J (bW)<|aq<|ah<|bo h fun e q_e h=>?_
 refine cD (ts:=[_,_,_,_,_,_,_,_,_,_,_]) mixed J J
  ⟨dB 0 J J J (cX J),
  ⟨bT 6 0 J J J (dQ (ht J)),
  ⟨bT 7 1 J J J (je 0 YD J J J),
  ⟨bT 8 2 J J J (je 0 Nj J J J),
  ⟨bT 9 3 J J J (bE (r:=rH eS [(1,bc (ix.h 0).1 (ix.h 0).2 r.rows.length),(2,bc (ix.h 1).1 (ix.h 1).2 r.width.length)]) (x:=r) zf J J (Uz (vJ R9 Cm)) (.head _) (ht J)),
  ⟨dB 3 J J J (bX Ao ri J J),
  ⟨bT 11 5 J J J (bh cg J J),
  ⟨cK 10 4 12 6 J J J J (ne qP iy J J J q_e),
  ⟨bT 13 7 J J J (bh iy J J),
  ⟨bT 14 8 J J J (rN J),
  ⟨NX J J (bW),
  aL⟩⟩⟩⟩⟩⟩⟩⟩⟩⟩⟩ ?_
 refine ax<|aj<|aM<|aM<|aM ?_;cases so h;exact eN (ts:=[cq (dg) e,bM 0]) (rvs:=[.tmp 4,.tmp 5]) J J ⟨aK J,aK J,aL⟩ pj J J

theorem SC(n:Int){R:(List ac)}(h:gT n=some R):gA aU 172 [tV (.slice none 0 0),bM n] false af 46 R:=by
 refine gA.of Tryz.func172 J J J fun w0 S0=>av<|ca false af 46<|zo J (aT tg)<|aq ?_;refine vW (Z:=iG n=some R) (Of:=[]) (Gf:=[(0,tV (.slice none 0 0)),(1,bM n)]) (fun h=>?_) (fun K=>?_)
 ·skip
  refine vV (Z:=fun s l c=>iF s=some R) (Of:=fun s l c=>[fL af 46 l c s]) (Gf:=fun s l c=>[(0,sw l c s)]) (fun s l c h=>?_) (fun K1=>?_)
  ·skip
   refine av<|aE J<|bg J<|aq<|aj ?_;cases so h;exact gK J J
  ·skip
   refine av<|aE J<|aE J<|zo J (tf iw (ht J))<|aE J<|zo J (te iw (ht J))<|zo J (ft (ht J) (ht J))<|zo J (ft (ht J) (ht J))<|bg J<|aq<|av<|aE J<|zo J (iz (ht J) hI)<|aq<|ce h J (fun h=>?_) (fun h=>?_)
   ·refine aA<|aE J<|aE J<|zo J (tf iw (ht J))<|zo J (xU iw au (ht J) (ht J))<|aE J<|bo h fun u q_u h=>bo h fun mk q_mk h=>Av (yh (r:=af) (x:=d3) au J J J J iw lj (fun _=>aJ _) (ht J) (ht J) (E9 q_u) q_mk) J fun i=>aE J<|zo J (te iw (ht J))<|bo h fun y q_y h=>zo J (lx iw au J (.head _) (ht J) (ht J) q_y)<|wT q_y<|bg J<|aQ ?_;exact ci (K1 y (i.h 0).1 (i.h 0).2 h) (bD J)
   ·refine bA<|FU false af 46 ?_;exact ci (K1 F2 none 0 h) (bD J)
 ·skip
  refine av<|aE J<|zo J (dJ (ht J) hI)<|aq<|ce h J (fun h=>?_) (fun h=>?_)
  ·refine aA ?_;exact(nn h).elim
  ·refine bA<|aZ ?_;exact ci (K h) (bD J)
theorem Lh(slices:(List (List ac))){R:(List ac)}(h:dM slices=some R):gA aU 104 [cq (dg) slices] false af 46 R:=by
 refine gA.of Tryz.func104 J J J fun w0 S0=>av<|ca false af 46<|zo J (aT tg)<|aq<|av<|zo J (bW)<|aq<|ah<|av<|aE J<|zo J (jw jN J)<|zo J (bJ hI)<|aq<|aC<|bp (k:=9) J fun hN=>bQ<|rL ?_;refine ba (ox (Z:=fun ls i size=>(slices.drop i=ls)∧fm slices ls size=some R) (Of:=fun _ i size=>[]) (Gf:=fun _ i size=>[(0,cq (dg) slices),(3,bM size),(9,cq (dg) slices),(10,ky slices),(11,bM (i:Int))]) (fun i size h=>?_) (fun e tl ih i size h=>?_) slices 0 (0:Int) ⟨J,h⟩) (bD J)
 ·obtain⟨hx,h⟩:=h
  refine aG<|av<|zo J (fY J J)<|aq<|ah<|bL (ht J) (dO hx)<|bG ?_;refine ak (ak (aV ?_));refine ax<|av<|aE rfl<|bo h fun r q_r h=>jh ab5 (SC _ q_r) ⟨hV,(ht J),aL⟩ J fun l c=>bg J<|aq<|ah<|av<|aE J<|zo J (jw jN J)<|zo J (bJ hI)<|aq<|aC<|bp (k:=25) J fun hN1=>bQ ?_;refine ba (kX (Z:=fun ls1 i1 newslice l1 c1=>(slices.drop i1=ls1)∧fk ls1 newslice=some R) (Of:=fun _ i1 newslice l1 c1=>[fL af 46 l1 c1 newslice]) (Gf:=fun _ i1 newslice l1 c1=>[(6,sw l1 c1 newslice),(25,cq (dg) slices),(26,ky slices),(27,bM (i1:Int))]) (fun i1 newslice l1 c1 h=>?_) (fun e1 tl1 ih1 i1 newslice l1 c1 h=>?_) slices 0 r l c ⟨J,h⟩) (bD J)
  ·obtain⟨hx1,h⟩:=h
   refine aG<|av<|zo J (fY J J)<|aq<|ah<|bL (ht J) (dO hx1)<|bG ?_;refine ak (ak (aV ?_));refine ax<|av<|aE rfl<|bg rfl<|aq<|aj ?_;cases so h;exact gK J J
  ·obtain⟨hx1,h⟩:=h
   refine aG<|av<|zo J (fY J J)<|aq<|ah<|bK (ht J) (dL hx1)<|df<|ah<|aC<|av<|zo J (ne jN eg J J J (dA hx1))<|zo J (bh eg J J)<|bg J<|aq<|aA<|aE J<|aE J<|bo h fun newslice1 q_newslice1 h=>cV au J J J J iw J J (ht J) (ht J) q_newslice1 fun l2 c2=>?_;refine bg J<|aQ<|aw<|ax<|aA<|zo rfl (nf (dd hx1 hN1) rfl)<|aE rfl<|aQ ?_;exact bn (ba (ih1 (i1+1) newslice1 l2 c2 ⟨dc hx1,h⟩) (bD J))
 ·obtain⟨hx,h⟩:=h
  refine aG<|av<|zo J (fY J J)<|aq<|ah<|bK (ht J) (dL hx)<|df<|ah<|aC<|av<|zo J (ne jN eg J J J (dA hx))<|zo J (bh eg J J)<|bg J<|aq<|av<|aE J<|aE J<|zo J (jw iw J) ?_;refine zo J (fV (ht J) (ht J))<|bg J<|aq<|av<|aE J<|zo J (dJ (ht J) hI)<|aq<|ce h J (fun h=>?_) (fun h=>?_)
  ·refine aA ?_;exact(nn h).elim
  ·refine bA<|aw<|ax<|aA<|zo rfl (nf (dd hx hN) rfl)<|aE rfl<|aQ ?_;exact bn (ba (ih (i+1) (IntKind.i64.wrap (size+(e.length:Int))) ⟨dc hx,h⟩) (bD J))
theorem Wb(slices:(List (List ac))){R:(List ac)}(h:dM slices=some R):aR aU 104 [cq (dg) slices] (cq (af) R):=(Lh _ h).spec

end Go.Proofs.YtfhhakidodmdfaaGreatDoor

