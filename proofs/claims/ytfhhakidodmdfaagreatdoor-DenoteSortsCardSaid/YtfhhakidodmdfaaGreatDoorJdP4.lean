/- da of this claim: P4. -/
import Derived.Test.YtfhhakidodmdfaaGreatDoorJdT
import Derived.Test.YtfhhakidodmdfaaGreatDoorJdP3
set_option linter.all false
namespace Go.Proofs.YtfhhakidodmdfaaGreatDoor
open Go
set_option maxRecDepth 100000

theorem RU(b:Nat)(ix:OI)(c:aE){R:OS (Int×Bool) aE}(h:pI c=some R):Bc aO 126 [tV (aP b 0)] (dE b c ix) (fun(x:Int×Bool)=>[bH x.1,gY x.2]) R (dE b):=by
 refine Bc.of Tryz.func126 J J J fun w0 S0=>?_;refine(show CG _ _ _ [bx (rH bj [(1,aS (ix.h 0).1 (ix.h 0).2 c.kinds.length),(2,aS (ix.h 1).1 (ix.h 1).2 c.first.length)]) 115 b c,d5 nj 39 (ix.h 0).1 (ix.h 0).2 c.kinds,d5 bY 3 (ix.h 1).1 (ix.h 1).2 c.first] _ from ?_);refine au<|zo J (Tt (fun _ _ h=>by rw [show _=_ from h];rfl) (ht J))<|zo J (aJ hV)<|aq<|au<|gX<|gX<|gX<|IA (O1:=dE b c ix) (cts:=[bK (rT (tV (aP b 0))) ()]) (caps:=[.tmp 1]) J aaK (RL b ix c) ⟨(ht J),aR⟩ J fun v fp=>bm J<|aq<|ak ?_;cases so h;exact Qb J J

theorem MC(l:bU){R:aE×Int×Bool}(h:oS l=some R):aU aO 72 [tD dO l] (tT [bK bj R.1,bH R.2.1,gY R.2.2]):=by
 refine KJ Tryz.func72 J J J fun w0 S0=>au<|zo J (jw J)<|bc (r:=rV) (x:= .pointer none) kD (fun _=>⟨J,J⟩) J fun b=>bc (r:=bY) (x:=(0:Int)) cv (fun _=>J) J fun b1=>bc (r:=rB) (x:=false) IF (fun _=>J) J fun b2=>aq<|au<|zo J (bB qQ J J)<|zo J (ci (r:=rH bj [(1,.slice none 0 0),(2,.slice none 0 0)]) (y:=(⟨l,[],[]⟩:aE)) YM Ze (zH Lj ⟨J,J,aR⟩) (⟨_,_,_,_,_,J,VT Hs J J,J,(ht J),J⟩))<|yi (ht J) J fun b3=>bN true nj 39<|bN true bY 3 ?_;refine(show RG _ _ _ _ [d5 bY 3 none 0 uI,d5 nj 39 none 0 OV,bx (rH bj [(1,aS none 0 OV.length),(2,aS none 0 uI.length)]) 115 b3 (⟨l,[],[]⟩:aE),bx rB 4 b2 false,bx bY 3 b1 (0:Int),bx rV 109 b (.pointer none)] _ from ?_);refine bc (r:=rV) (x:= .pointer none) kD (fun _=>⟨J,J⟩) J fun b4=>v7 (nI kD J (zj an) J (ht J) (hW (ht J) J)) fun i=>?_;refine(show RG _ _ _ _ [bx rV 109 b4 (aP b3 0),d5 bY 3 none 0 uI,d5 nj 39 none 0 OV,bx (rH bj [(1,aS none 0 OV.length),(2,aS none 0 uI.length)]) 115 b3 (⟨l,[],[]⟩:aE),bx rB 4 b2 false,bx bY 3 b1 (0:Int),bx rV 109 b (.pointer none)] _ from ?_);refine aq<|au<|zo J (cY uw nF J J)<|zo J (bB Fw J J)<|zo J (iw z7 J)<|bm J<|aq<|ah<|au<|aF J<|zo J (fa (ht J) hI)<|aF J<|gI J J (fun hg=>cD J)<|gI J J (fun hg=>jm (bD J hg) hI)<|zo J (yr J J)<|aq<|cU h J (fun h=>?_) (fun h=>?_)
 ·refine au<|zo J (sQ kD (.head _) (ht J))<|v7 (EffOK.fr6 (nI kD J (zj an) J (ht J) (hW (ht J) J))) fun i1=>?_;refine(show RG _ _ _ _ [bx rV 109 b (aP b3 0),bx rV 109 b4 (aP b3 0),d5 bY 3 none 0 uI,d5 nj 39 none 0 OV,bx (rH bj [(1,aS none 0 OV.length),(2,aS none 0 uI.length)]) 115 b3 (⟨l,[],[]⟩:aE),bx rB 4 b2 false,bx bY 3 b1 (0:Int)] _ from ?_);refine yg<|ax cv J an J (ht J) hI<|yg<|ax IF J an J (ht J) hB<|aq<|ak<|ae<|vm<|Ca<|zW 11 J<|aK<|bn 2 J<|bE<|bn 3 J<|bn 4 J<|bk<|bk<|bk<|rj ?_;cases so h;exact bS (ts:=[bK bj (⟨l,[],[]⟩:aE),bH 0,gY false]) (rvs:=[.cell 2 109,.cell 3 3,.cell 4 4]) J J ⟨BA (j:=11) kD J J,br cv J J J,br IF J J J,aR⟩
 ·refine dR<|ah<|au<|zo J (sQ kD (.head _) (ht J))<|bI<|gX<|qz<|bv h fun it q_it h=>MT (dE b3 (⟨l,[],[]⟩:aE) (VW [(none,0),(none,0)])) _ J abj (RU b3 (VW [(none,0),(none,0)]) (⟨l,[],[]⟩:aE) q_it) ⟨(ht J),aR⟩ J fun v fp=>aq<|ay<|bv h fun r q_r h=>?_;refine G5 (fun(ix:Bool×Int×Bool)=>[bx rV 109 b4 (aP b3 0),bx rB 4 b2 ix.1,bx bY 3 b1 ix.2.1,bx rV 109 b (bif ix.2.2 then aP b3 0 else .pointer none)]) (fun(ix:Bool×Int×Bool)=>(ix.1,ix.2.1,ix.2.2)) (fun _=> .ret) J (ht J) (false,(0:Int),false) J q_r (fun _=>J) J (fun ix x r1 h lp rec1 _ _ _=>?_) (fun i2 j hi bd=>⟨fun hj=>?_,fun _ hj=>?_⟩)
  ·obtain⟨x1,x2,p⟩:=ix
   replace h:ov x x1 x2 p=some r1:=h
   refine(show CG _ _ _ [qX lp rec1 .ready none,bx rV 109 b4 (aP b3 0),bx rB 4 b2 x1,bx bY 3 b1 x2,bx rV 109 b (bif p then aP b3 0 else .pointer none)] _ from ?_);refine Fg (G' :=[(0,tD dO l),(1,bK dO l),(2,tV (aP b 0)),(3,tV (aP b1 0)),(4,tV (aP b2 0)),(5,tV (aP b4 0)),(6,kg l.Nodes),(9,tD dO l),(10,tD (rH bj [(1,.slice none 0 0),(2,.slice none 0 0)]) (⟨l,[],[]⟩:aE)),(11,tV (aP b3 0)),(12,bK (hM aL) l.Nodes),(13,bR (aL) l.Nodes),(14,kg l.Nodes),(15,kg l.Nodes),(16,gY (decide ((l.Nodes.length:Int)<(1:Int)))),(17,gY (decide ((l.Nodes.length:Int)<(1:Int)))),(18,oK (!(decide ((l.Nodes.length:Int)<(1:Int)))) (kg l.Nodes)),(19,oK (!(decide ((l.Nodes.length:Int)<(1:Int)))) (gY (decide ((60:Int)<(l.Nodes.length:Int))))),(20,gY ((decide ((l.Nodes.length:Int)<(1:Int)))||(decide ((60:Int)<(l.Nodes.length:Int))))),(22,tV (aP b3 0)),(24,bH x.1),(25,gY x.2)]) ?_ ⟨J,J,J,J,J,J,J,J,J,J,J,J,J,J,J,J,J,J,J,J,J,J,aR⟩;refine au<|bm J<|aq<|aw<|bm J<|aQ<|Ha<|ay<|au<|aF J<|zo J (ei (ht J))<|aq<|cU h J (fun h=>?_) (fun h=>?_)
   ·refine au<|zo J (sQ kD (.tail _ (.head _)) (ht J))<|aF J<|v7 (EffOK.fr4 (nI kD J (zj an) J (ht J) (hW (ht J) J))) fun i3=>?_;refine(show RG _ _ _ _ [bx rV 109 b (aP b3 0),qX lp rec1 .busy none,bx rV 109 b4 (aP b3 0),bx rB 4 b2 x1,bx bY 3 b1 x2] _ from ?_);refine yh<|ax cv J an J (ht J) (ht J)<|yh<|ax IF J an J (ht J) hB<|aq<|ak<|aD<|aK<|aK<|aK<|fz<|fz ?_;cases so h;exact Bk 0 J (false,x.1,true) J J
   ·refine bw<|ap ?_;cases so h;exact wb (x1,x2,p) J J
  ·skip
   obtain⟨x3,x4,p1⟩:=i2
   obtain rfl:x3=r.1.2.1:=congrArg (fun q:Bool×Int×Bool=>q.1) hi
   obtain rfl:x4=r.1.2.2.1:=congrArg (fun q:Bool×Int×Bool=>q.2.1) hi
   obtain rfl:p1=r.1.2.2.2:=congrArg (fun q:Bool×Int×Bool=>q.2.2) hi
   have h:=ct h (by rw [hj];rfl);refine(show AT _ _ _ [A4 bd,bx (rH bj [(1,aS (j.h 0).1 (j.h 0).2 r.2.kinds.length),(2,aS (j.h 1).1 (j.h 1).2 r.2.first.length)]) 115 b3 r.2,d5 nj 39 (j.h 0).1 (j.h 0).2 r.2.kinds,d5 bY 3 (j.h 1).1 (j.h 1).2 r.2.first,bx rV 109 b4 (aP b3 0),bx rB 4 b2 r.1.2.1,bx bY 3 b1 r.1.2.2.1,bx rV 109 b (bif r.1.2.2.2 then aP b3 0 else .pointer none)] _ from ?_);refine cM (G' :=[(0,tD dO l),(1,bK dO l),(2,tV (aP b 0)),(3,tV (aP b1 0)),(4,tV (aP b2 0)),(5,tV (aP b4 0)),(6,kg l.Nodes),(9,tD dO l),(10,tD (rH bj [(1,.slice none 0 0),(2,.slice none 0 0)]) (⟨l,[],[]⟩:aE)),(11,tV (aP b3 0)),(12,bK (hM aL) l.Nodes),(13,bR (aL) l.Nodes),(14,kg l.Nodes),(15,kg l.Nodes),(16,gY (decide ((l.Nodes.length:Int)<(1:Int)))),(17,gY (decide ((l.Nodes.length:Int)<(1:Int)))),(18,oK (!(decide ((l.Nodes.length:Int)<(1:Int)))) (kg l.Nodes)),(19,oK (!(decide ((l.Nodes.length:Int)<(1:Int)))) (gY (decide ((60:Int)<(l.Nodes.length:Int))))),(20,gY ((decide ((l.Nodes.length:Int)<(1:Int)))||(decide ((60:Int)<(l.Nodes.length:Int))))),(22,tV (aP b3 0))]) ?_ ⟨J,J,J,J,J,J,J,J,J,J,J,J,J,J,J,J,J,J,J,J,aR⟩;refine ap<|av<|ah<|bv h fun e q_e h=>?_
   refine oA 14 [tc (tV (aP b3 0)),tc (kg l.Nodes),tc (bH (IntKind.i64.wrap ((l.Nodes.length:Int)-(1:Int)))),tc (tV (aP b3 0)),tc (tV (aP b3 0)),tc (tV (aP b3 2)),tc (tO bY (j.h 1).1 (j.h 1).2 r.2.first),tc (kg l.Nodes),tc (bH (IntKind.i64.wrap ((l.Nodes.length:Int)-(1:Int)))),tc (bK bY e),tc (bH e),tc (gY (e==(0:Int))),tc (CU),tc (CU)] [false,false,false,false,false,false,false,false,false,false,false,false,true,true] [fun _=>[A4 bd,bx (rH bj [(1,aS (j.h 0).1 (j.h 0).2 r.2.kinds.length),(2,aS (j.h 1).1 (j.h 1).2 r.2.first.length)]) 115 b3 r.2,d5 nj 39 (j.h 0).1 (j.h 0).2 r.2.kinds,d5 bY 3 (j.h 1).1 (j.h 1).2 r.2.first,bx rV 109 b4 (aP b3 0),bx rB 4 b2 r.1.2.1,bx bY 3 b1 r.1.2.2.1,bx rV 109 b (bif r.1.2.2.2 then aP b3 0 else .pointer none)],fun sg=>[bx rV 109 b (aP b3 0),A4 bd,bx (rH bj [(1,aS (j.h 0).1 (j.h 0).2 r.2.kinds.length),(2,aS (j.h 1).1 (j.h 1).2 r.2.first.length)]) 115 b3 r.2,d5 nj 39 (j.h 0).1 (j.h 0).2 r.2.kinds,d5 bY 3 (j.h 1).1 (j.h 1).2 r.2.first,bx rV 109 b4 (aP b3 0),bx rB 4 b2 r.1.2.1,bx bY 3 b1 r.1.2.2.1],fun sg=>[bx bY 3 b1 (IntKind.i64.wrap ((l.Nodes.length:Int)-(1:Int))),bx rV 109 b (aP b3 0),A4 bd,bx (rH bj [(1,aS (j.h 0).1 (j.h 0).2 r.2.kinds.length),(2,aS (j.h 1).1 (j.h 1).2 r.2.first.length)]) 115 b3 r.2,d5 nj 39 (j.h 0).1 (j.h 0).2 r.2.kinds,d5 bY 3 (j.h 1).1 (j.h 1).2 r.2.first,bx rV 109 b4 (aP b3 0),bx rB 4 b2 r.1.2.1]] J mixed J J J J J
    ⟨⟨[⟨5,fun _=>tV (aP b4 0),none⟩],_,0,0,J,⟨(fun _=>J),aR⟩,J,J,J,J,J,ze (fun sg=>aB J (sQ kD (.tail _ (.tail _ (.tail _ (.tail _ (.head _))))) (ht J)))⟩,
    ⟨⟨[⟨6,fun _=>tD bY (l.Nodes.length:Int),none⟩],_,0,1,J,⟨(fun _=>J),aR⟩,J,J,J,J,J,fun _ sg _ _=>aB J (cD J)⟩,
    ⟨⟨[⟨31,fun _=>tD bY (l.Nodes.length:Int),some 1⟩],_,0,1,J,⟨(fun _=>J),aR⟩,J,J,J,J,J,fun _ sg _ _=>aB J (gK (ht J) hI)⟩,
    ⟨⟨[⟨5,fun _=>tV (aP b4 0),none⟩],_,0,2,J,⟨(fun _=>J),aR⟩,J,J,J,J,J,Fu (fun sg=>aB J (sQ kD (.tail _ (.tail _ (.tail _ (.tail _ (.head _))))) (ht J))) (Fu (fun sg=>aB J (sQ kD (.tail _ (.tail _ (.tail _ (.tail _ (.tail _ (.head _)))))) (ht J))) (ze (fun sg=>aB J (sQ kD (.tail _ (.tail _ (.tail _ (.tail _ (.tail _ (.tail _ (.head _))))))) (ht J)))))⟩,
    ⟨⟨[⟨33,fun _=>tV (aP b3 0),some 3⟩],_,0,2,J,⟨(fun _=>J),aR⟩,J,J,J,J,J,fun _ sg _ _=>aB J (dG (ht J))⟩,
    ⟨⟨[⟨34,fun _=>tV (aP b3 0),some 4⟩],_,0,2,J,⟨(fun _=>J),aR⟩,J,J,J,J,J,fun _ sg _ _=>aB J (kG 2 tZ J J J)⟩,
    ⟨⟨[⟨35,fun _=>tV (aP b3 2),some 5⟩],_,0,2,J,⟨(fun _=>J),aR⟩,J,J,J,J,J,Fu (fun sg=>aB J (di eC J (.tail _ (.head _)) (.tail _ (.tail _ (.tail _ (.head _)))) (ht J))) (Fu (fun sg=>aB J (di eC J (.tail _ (.tail _ (.head _))) (.tail _ (.tail _ (.tail _ (.tail _ (.head _))))) (ht J))) (ze (fun sg=>aB J (di eC J (.tail _ (.tail _ (.tail _ (.head _)))) (.tail _ (.tail _ (.tail _ (.tail _ (.tail _ (.head _)))))) (ht J)))))⟩,
    ⟨⟨[⟨6,fun _=>tD bY (l.Nodes.length:Int),none⟩],_,0,2,J,⟨(fun _=>J),aR⟩,J,J,J,J,J,fun _ sg _ _=>aB J (cD J)⟩,
    ⟨⟨[⟨37,fun _=>tD bY (l.Nodes.length:Int),some 7⟩],_,0,2,J,⟨(fun _=>J),aR⟩,J,J,J,J,J,fun _ sg _ _=>aB J (gK (ht J) hI)⟩,
    ⟨⟨[⟨36,fun _=>tO bY (j.h 1).1 (j.h 1).2 r.2.first,some 6⟩,⟨38,fun _=>tD bY (IntKind.i64.wrap ((l.Nodes.length:Int)-(1:Int))),some 8⟩],_,0,2,J,⟨(fun _=>J),(fun _=>J),aR⟩,J,J,J,J,J,fun _ sg _ _=>aB J (bp g9 cv J (k7 (ht J)) (ht J) q_e)⟩,
    ⟨⟨[⟨39,fun _=>bK bY e,some 9⟩],_,0,2,J,⟨(fun _=>J),aR⟩,J,J,J,J,J,fun _ sg _ _=>aB J (bB cv J J)⟩,
    ⟨⟨[⟨40,fun _=>tD bY e,some 10⟩],_,0,2,J,⟨(fun _=>J),aR⟩,J,J,J,J,J,fun _ sg _ _=>aB J (lU J)⟩,
    ⟨⟨[⟨2,fun _=>tV (aP b 0),none⟩,⟨30,fun _=>tV (aP b3 0),some 0⟩],_,J,⟨(fun _=>J),(fun _=>J),aR⟩,J,J,J,fun sg=>eI J (EffOK.fr7 (nI kD J (zj an) J (ht J) (hW (ht J) J)))⟩,
    ⟨⟨[⟨3,fun _=>tV (aP b1 0),none⟩,⟨32,fun _=>tD bY (IntKind.i64.wrap ((l.Nodes.length:Int)-(1:Int))),some 2⟩],_,J,⟨(fun _=>J),(fun _=>J),aR⟩,J,J,J,fun sg=>eI J (EffOK.fr7 (nI cv J (zj an) J (ht J) (ht J)))⟩,
    aR⟩⟩⟩⟩⟩⟩⟩⟩⟩⟩⟩⟩⟩⟩ (fun sg=>?_)
   refine(show RG _ _ _ _ [bx bY 3 b1 (IntKind.i64.wrap ((l.Nodes.length:Int)-(1:Int))),bx rV 109 b (aP b3 0),A4 bd,bx (rH bj [(1,aS (j.h 0).1 (j.h 0).2 r.2.kinds.length),(2,aS (j.h 1).1 (j.h 1).2 r.2.first.length)]) 115 b3 r.2,d5 nj 39 (j.h 0).1 (j.h 0).2 r.2.kinds,d5 bY 3 (j.h 1).1 (j.h 1).2 r.2.first,bx rV 109 b4 (aP b3 0),bx rB 4 b2 r.1.2.1] _ from ?_);refine PR<|ax IF J an J (ht J) (ht J)<|aq<|ak<|fz<|Ca<|zW 11 J<|aK<|bn 2 J<|bE<|bn 3 J<|bn 4 J<|bE<|bk<|bE<|bk<|bE<|bk<|Bj<|rj ?_;cases so h;exact bS (ts:=[bK bj r.2,bH (IntKind.i64.wrap ((l.Nodes.length:Int)-(1:Int))),gY (e==(0:Int))]) (rvs:=[.cell 2 109,.cell 3 3,.cell 4 4]) J J ⟨BA (j:=11) kD J J,br cv J J J,br IF J J J,aR⟩
  ·skip
   obtain⟨x5,x6,p2⟩:=i2
   obtain rfl:x5=r.1.2.1:=congrArg (fun q:Bool×Int×Bool=>q.1) hi
   obtain rfl:x6=r.1.2.2.1:=congrArg (fun q:Bool×Int×Bool=>q.2.1) hi
   obtain rfl:p2=r.1.2.2.2:=congrArg (fun q:Bool×Int×Bool=>q.2.2) hi
   have h:=cf h (by rw [hj];rfl);refine(show CG _ _ _ [A4 bd,bx (rH bj [(1,aS (j.h 0).1 (j.h 0).2 r.2.kinds.length),(2,aS (j.h 1).1 (j.h 1).2 r.2.first.length)]) 115 b3 r.2,d5 nj 39 (j.h 0).1 (j.h 0).2 r.2.kinds,d5 bY 3 (j.h 1).1 (j.h 1).2 r.2.first,bx rV 109 b4 (aP b3 0),bx rB 4 b2 r.1.2.1,bx bY 3 b1 r.1.2.2.1,bx rV 109 b (bif r.1.2.2.2 then aP b3 0 else .pointer none)] _ from ?_);refine Fg (G' :=[(0,tD dO l),(1,bK dO l),(2,tV (aP b 0)),(3,tV (aP b1 0)),(4,tV (aP b2 0)),(5,tV (aP b4 0)),(6,kg l.Nodes),(9,tD dO l),(10,tD (rH bj [(1,.slice none 0 0),(2,.slice none 0 0)]) (⟨l,[],[]⟩:aE)),(11,tV (aP b3 0)),(12,bK (hM aL) l.Nodes),(13,bR (aL) l.Nodes),(14,kg l.Nodes),(15,kg l.Nodes),(16,gY (decide ((l.Nodes.length:Int)<(1:Int)))),(17,gY (decide ((l.Nodes.length:Int)<(1:Int)))),(18,oK (!(decide ((l.Nodes.length:Int)<(1:Int)))) (kg l.Nodes)),(19,oK (!(decide ((l.Nodes.length:Int)<(1:Int)))) (gY (decide ((60:Int)<(l.Nodes.length:Int))))),(20,gY ((decide ((l.Nodes.length:Int)<(1:Int)))||(decide ((60:Int)<(l.Nodes.length:Int))))),(22,tV (aP b3 0))]) ?_ ⟨J,J,J,J,J,J,J,J,J,J,J,J,J,J,J,J,J,J,J,J,aR⟩;refine ak ?_;refine aD (ae ?_);refine bv h fun u q_u h=>SO (O' :=[A4 bd,bx (rH bj [(1,aS (j.h 0).1 (j.h 0).2 r.2.kinds.length),(2,aS (j.h 1).1 (j.h 1).2 r.2.first.length)]) 115 b3 r.2,d5 nj 39 (j.h 0).1 (j.h 0).2 r.2.kinds,d5 bY 3 (j.h 1).1 (j.h 1).2 r.2.first,bx rV 109 b4 (aP b3 0),bx rB 4 b2 r.1.2.1,bx bY 3 b1 r.1.2.2.1,bx rV 109 b (aP b3 0)]) (by rw [show r.1.2.2.2=true from Rb q_u];rfl)<|bE<|Ca<|zW 11 J<|vm<|bn 2 J<|G9<|bn 3 J<|fz<|bn 4 J<|bE<|bk<|bE<|bk<|bE<|bk<|Bj<|rj ?_;cases so h;exact bS (ts:=[bK bj r.2,bH r.1.2.2.1,gY r.1.2.1]) (rvs:=[.cell 2 109,.cell 3 3,.cell 4 4]) J J ⟨BA (j:=11) kD J J,br cv J J J,br IF J J J,aR⟩

theorem RD(l:bU){R:Int×Int}(h:q6 l=some R):aU aO 50 [tD dO l] (tT [bH R.1,bH R.2]):=by
 refine aU.of Tryz.func50 J J J fun w0 S0=>au<|zo J (jw J)<|zo J (cq)<|zo J (cq)<|aq<|au<|zo J (bB qQ J J)<|bv h fun r q_r h=>zo J (aA Yo (MC _ q_r) ⟨(ht J),aR⟩)<|aF J<|zo J (hZ J J)<|zo J (hZ J J)<|zo J (hZ J J)<|bm J<|bm J<|bm J<|aq<|ah<|ah ?_;refine aw<|aF J<|zo J (ei (ht J))<|aq<|cU h J (fun h=>?_) (fun h=>?_)
 ·refine au<|aF J<|bm J<|zo J (cq)<|aq<|ak<|ae ?_;cases so h;exact cC J J J
 ·refine dR<|au<|zo J (cq)<|zo J (cq)<|aq<|ak ?_;cases so h;exact cC J J J

theorem XI(rows:(List (List ac)))(kinds:(List Int)){R:Bool}(h:ra rows kinds=some R):aU aO 61 [bR (cK) rows,mf kinds] (gY R):=by
 refine aU.of Tryz.func61 J J J fun w0 S0=>au<|zo J (jE)<|aq<|ah<|au<|aF J<|zo J (iw gR J)<|zo J (jm (ht J) hI)<|aq<|cU h J (fun h=>?_) (fun h=>?_)
 ·refine au<|zo J (jE)<|aq<|ak<|ae ?_;cases so h;exact aG J J
 ·refine dR<|ah<|au<|aF J<|zo J (iw gR J)<|zo J (bJ hI)<|aq<|ay<|ba (k:=12) J fun hN=>bG ?_;refine aT (eH (Z:=fun ls i=>(rows.drop i=ls)∧lS kinds ls=some R) (Of:=fun _ i=>[]) (Gf:=fun _ i=>[(1,mf kinds),(12,bR (cK) rows),(13,kg rows),(14,bH (i:Int))]) (fun i h=>?_) (fun e tl ih i h=>?_) rows 0 ⟨J,h⟩) (bt J)
  ·obtain⟨hx,h⟩:=h
   refine aC<|au<|zo J (fG J J)<|aq<|ah<|bA (ht J) (dC hx)<|bu ?_;refine ai (ai (aN ?_));refine av<|au<|zo rfl (jE)<|aq<|ak ?_;cases so h;exact aG J J
  ·obtain⟨hx,h⟩:=h
   refine aC<|au<|zo J (fG J J)<|aq<|ah<|bz (ht J) (du hx)<|dR<|ah<|ay<|au<|zo J (lq gR cO J J J (cW hx))<|zo J (bB cO J J)<|bm J<|aq<|ah<|au<|aF J<|zo J (iw gc J) ?_;refine aF J<|zo J (iw g9 J)<|zo J (eZ (ht J) (ht J))<|aq<|cU h J (fun h=>?_) (fun h=>?_)
   ·refine au<|zo J (jE)<|aq<|ak ?_;refine ae (aD (ae (ae (aD (ae ?_)))));cases so h;exact aG J J
   ·refine dR<|au<|aF J<|zo J (iw gc J)<|zo J (bJ hI)<|aq<|ay<|ba (k:=23) J fun hN1=>bG ?_;refine aT (eH (Z:=fun ls1 i1=>(e.drop i1=ls1)∧lR kinds (lS kinds tl) ls1 i1=some R) (Of:=fun _ i1=>[]) (Gf:=fun _ i1=>[(1,mf kinds),(12,bR (cK) rows),(13,kg rows),(14,bH (i:Int)),(23,bR (af) e),(24,kg e),(25,bH (i1:Int))]) (fun i1 h=>?_) (fun e1 tl1 ih1 i1 h=>?_) e 0 ⟨J,h⟩) (bt J)
    ·obtain⟨hx1,h⟩:=h
     refine aC<|au<|zo J (fG J J)<|aq<|ah<|bA (ht J) (dC hx1)<|bu ?_;refine ai (ai (aN ?_));refine ap<|av<|aw<|zo rfl (mI (cQ hx hN) rfl)<|aF rfl<|aQ ?_;exact bg (aT (ih (i+1) ⟨cP hx,h⟩) (bt J))
    ·obtain⟨hx1,h⟩:=h
     refine aC<|au<|zo J (fG J J)<|aq<|ah<|bz (ht J) (du hx1)<|dR<|ah<|ay<|au<|aF J<|zo J (lq gc aH J J J (cW hx1))<|zo J (bB aH J J)<|bc (r:=af) (x:=hX) aH (fun _=>bf _) J fun b=>bm J<|ax aH J an J (ht J) (ht J)<|aZ 8 J<|aq<|ah ?_;refine bv h fun r q_r h=>bv h fun t q_t h=>?_
     obtain⟨t1,h1t,h0t⟩:=og q_t
     have q_t1g:=fun hb=>(h1t hb).1
     obtain⟨e2,h1t1,h0t1⟩:=og3 q_t1g
     have q_e2g:=fun hb=>(h1t1 hb).1
     refine cJ (ts:=[_,_,_,_,_,_,_,_,_,_,_,_,_,_,_,_,_]) mixed J J
      ⟨ep 8 J J J (bB aH J J),
      ⟨bT 30 0 J J J (aA KE (AV _ q_r) ⟨(ht J),aR⟩),
      ⟨bT 31 1 J J J (tE J),
      ⟨bT 32 2 J J J (cD J),
      ⟨pZ 8 33 3 J J J J (kF J J J J (fun hg=>cY fR cg J J)),
      ⟨kO 34 4 33 3 J J J J (kF J J J J (fun hg=>bM cv J J (bD J hg))),
      ⟨kO 35 5 33 3 J J J J (kF J J J J (fun hg=>eZ (bD J hg) hI)),
      ⟨kO 36 6 33 3 J J J J (kF J J J J (fun hg=>bJ (bD J hg))),
      ⟨pZ 8 37 7 J J J J (wa J J J J (fun hg=>cY fR cg J J)),
      ⟨kO 38 8 37 7 J J J J (wa J J J J (fun hg=>bM cv J J (bD J hg))),
      ⟨pZ 1 37 7 J J J J (wa J J J J (fun hg=>cD J)),
      ⟨pZ 7 37 7 J J J J (wa J J J J (fun hg=>cD J)),
      ⟨tF 40 10 41 11 37 7 J J J J J (wa J J J J (fun hg=>bp g9 cv J (bD J hg) (bD J hg) (q_e2g hg))),
      ⟨kO 42 12 37 7 J J J J (wa J J J J (fun hg=>bM cv J J (bD J hg))),
      ⟨tF 39 9 43 13 37 7 J J J J J (wa J J J J (fun hg=>eZ (bD J hg) (bD J hg))),
      ⟨tF 37 7 44 14 33 3 J J J J J (kF J J J J (fun hg=>dP (bD J hg) (fun hb=>(bD J (B3 hg hb))) (fun hb=>(h1t1 (B3 hg hb)).2) (fun hb=>h0t1 hg hb))),
      ⟨dv 33 3 45 15 J J J J (ko (ht J) (fun hb=>(bD J (yA hb))) (fun hb=>(h1t hb).2) h0t),
      aR⟩⟩⟩⟩⟩⟩⟩⟩⟩⟩⟩⟩⟩⟩⟩⟩⟩ ?_
     refine av<|cU h rfl (fun h=>?_) (fun h=>?_)
     ·refine au<|zo J (jE)<|aq<|ak ?_;refine aD (ae (ae (aD (aD (ae (ae (aD (ae ?_))))))));cases so h;exact aG J J
     ·refine bw<|ap<|av<|aw<|zo rfl (mI (cQ hx1 hN1) rfl)<|aF rfl<|aQ ?_;exact bg (aT (ih1 (i1+1) ⟨cP hx1,h⟩) (bt J))

theorem X9(l:bU)(b:iJ){R:Bool}(h:ua l b=some R):aU aO 16 [tD dO l,tD py b] (gY R):=by
 refine aU.of Tryz.func16 J J J fun w0 S0=>au<|zo J (jw J)<|zo J (jw J)<|zo J (jE)<|aq<|ah<|au<|zo J (bB qQ J J)<|bv h fun r q_r h=>zo J (aA ZE (RD _ q_r) ⟨(ht J),aR⟩)<|aF J<|zo J (hZ J J)<|zo J (hZ J J)<|bm J<|bm J<|aq<|au<|aF J ?_;refine zo J (tE J)<|aq<|cU h J (fun h=>?_) (fun h=>?_)
 ·refine au<|zo J (jE)<|aq<|ak<|ae ?_;cases so h;exact aG J J
 ·refine dR<|ah<|au<|zo J (cY uw nF J J)<|zo J (bB Fw J J)<|zo J (iw z7 J)<|zo J (bJ hI)<|aq<|ay<|ba (k:=17) J fun hN=>bG ?_;refine aT (eH (Z:=fun ls i=>(l.Nodes.drop i=ls)∧nM b ls=some R) (Of:=fun _ i=>[]) (Gf:=fun _ i=>[(3,bK py b),(17,bR (aL) l.Nodes),(18,kg l.Nodes),(19,bH (i:Int))]) (fun i h=>?_) (fun e tl ih i h=>?_) l.Nodes 0 ⟨J,h⟩) (bt J)
  ·obtain⟨hx,h⟩:=h
   refine aC<|au<|zo J (fG J J)<|aq<|ah<|bA (ht J) (dC hx)<|bu ?_;refine ai (ai (aN ?_));refine av<|au<|zo rfl (jE)<|aq<|ak ?_;cases so h;exact aG J J
  ·obtain⟨hx,h⟩:=h
   refine aC<|au<|zo J (fG J J)<|aq<|ah<|bz (ht J) (du hx)<|dR<|ah<|ay<|au<|zo J (lq z7 iQ J J J (cW hx))<|zo J (bB iQ J J)<|bc (r:=aL) (x:=IS) iQ (fun _=>pq _) J fun b1=>ax iQ J an J (ht J) (ht J)<|aZ 8 J<|aq<|ah<|bv h fun t q_t h=>?_
   obtain⟨t1,h1t,h0t⟩:=og q_t
   have q_t1g:=fun hb=>(h1t hb).1
   obtain⟨e1,h1t1,h0t1⟩:=og3 q_t1g
   have q_e1g:=fun hb=>(h1t1 hb).1
   obtain⟨r1,h1t1⟩:=Tv (fun hb=>(h1t1 hb).2)
   have q_r1g:=fun hb=>(h1t1 hb).1
   refine cJ (ts:=[_,_,_,_,_,_,_,_,_,_,_,_,_,_,_,_,_,_,_,_,_,_,_]) mixed J J
    ⟨ep 8 J J J (cY BO qp J J),
    ⟨bT 23 0 J J J (bB cv J J),
    ⟨bT 24 1 J J J (lU J),
    ⟨bT 25 2 J J J (cD J),
    ⟨pZ 8 26 3 J J J J (dJ J J J J (fun hg=>cY zC qo J J)),
    ⟨kO 27 4 26 3 J J J J (dJ J J J J (fun hg=>bM cv J J (bD J hg))),
    ⟨pZ 3 26 3 J J J J (dJ J J J J (fun hg=>cY Mw BM J J)),
    ⟨kO 29 6 26 3 J J J J (dJ J J J J (fun hg=>bM yw J J (bD J hg))),
    ⟨kO 30 7 26 3 J J J J (dJ J J J J (fun hg=>dW p8 (bD J hg))),
    ⟨tF 28 5 31 8 26 3 J J J J J (dJ J J J J (fun hg=>hT (bD J hg) (bD J hg))),
    ⟨kO 32 9 26 3 J J J J (dJ J J J J (fun hg=>bJ (bD J hg))),
    ⟨pZ 3 33 10 J J J J (qL J J J J (fun hg=>cY Mw BM J J)),
    ⟨kO 34 11 33 10 J J J J (qL J J J J (fun hg=>bM yw J J (bD J hg))),
    ⟨pZ 8 33 10 J J J J (qL J J J J (fun hg=>cY zC qo J J)),
    ⟨kO 36 13 33 10 J J J J (qL J J J J (fun hg=>bM cv J J (bD J hg))),
    ⟨tF 35 12 37 14 33 10 J J J J J (qL J J J J (fun hg=>bp p8 hJ J (bD J hg) (bD J hg) (q_e1g hg))),
    ⟨kO 38 15 33 10 J J J J (qL J J J J (fun hg=>bM hJ J J (bD J hg))),
    ⟨pZ 8 33 10 J J J J (qL J J J J (fun hg=>cY vO oV J J)),
    ⟨kO 40 17 33 10 J J J J (qL J J J J (fun hg=>bM eC J J (bD J hg))),
    ⟨tF 39 16 41 18 33 10 J J J J J (qL J J J J (fun hg=>aA abZ (XI _ _ (q_r1g hg)) ⟨(bD J hg),(bD J hg),aR⟩)),
    ⟨kO 42 19 33 10 J J J J (qL J J J J (fun hg=>ei (bD J hg))),
    ⟨tF 33 10 43 20 26 3 J J J J J (dJ J J J J (fun hg=>ko (bD J hg) (fun hb=>(bD J (B3 hg (yA hb)))) (fun hb=>(h1t1 (B3 hg hb)).2) (fun hb=>h0t1 hg hb))),
    ⟨dv 26 3 44 21 J J J J (dP (ht J) (fun hb=>(bD J hb)) (fun hb=>(h1t hb).2) h0t),
    aR⟩⟩⟩⟩⟩⟩⟩⟩⟩⟩⟩⟩⟩⟩⟩⟩⟩⟩⟩⟩⟩⟩⟩ ?_
   refine av<|cU h rfl (fun h=>?_) (fun h=>?_)
   ·refine au<|zo J (jE)<|aq<|ak ?_;refine aD (ae (ae (aD (ae ?_))));cases so h;exact aG J J
   ·refine bw<|ap<|av<|aw<|zo rfl (mI (cQ hx hN) rfl)<|aF rfl<|aQ ?_;exact bg (aT (ih (i+1) ⟨cP hx,h⟩) (bt J))

theorem XX(l:bU){R:(List Int)×Int}(h:q5 l=some R):aU aO 23 [tD dO l] (tT [mf R.1,bH R.2]):=by
 refine aU.of Tryz.func23 J J J fun w0 S0=>au<|zo J (jw J)<|zo J (aJ (show aI _ _ _ wO from jA))<|zo J (cq)<|aq<|au<|zo J (bB qQ J J)<|bv h fun r q_r h=>zo J (aA Yo (MC _ q_r) ⟨(ht J),aR⟩)<|aF J<|zo J (hZ J J)<|zo J (hZ J J)<|zo J (hZ J J)<|bm J<|bm J<|bm J<|aq<|ah<|ah ?_;refine aw<|aF J<|zo J (ei (ht J))<|aq<|cU h J (fun h=>?_) (fun h=>?_)
 ·refine au<|zo J (aJ (show aI _ _ _ wO from jA))<|zo J (cq)<|aq<|ak<|ae ?_;cases so h;exact cC J J J
 ·refine dR<|au<|aF J<|zo J (HM (ht J))<|zo J (cY nf H5 J J)<|zo J (bB sD J J)<|aF J<|bv h fun e q_e h=>zo J (lq vo eC J J J q_e)<|zo J (bB eC J J)<|bv h fun r1 q_r1 h=>iv R8 (Ia _ q_r1) ⟨(ht J),aR⟩ J fun l1 c=>bm J<|zo J (cq)<|aq<|ak<|jb<|cw 2 J<|cw 22 J<|jd 2 J<|bk ?_;cases so h;exact cC J J J

theorem Zp(b:Nat)(ix:OI)(r:cX)(n:am){R:(List (List ac))×Int}(h:kJ r n=some R):c9 aO 51 [tV (aP b 0),tD aL n] (jn b r ix) (fun _:OI=>tT [bR (cK) R.1,bH R.2]) (fun _=>(jn b r ix)):=by
 refine c9.of Tryz.func51 J J J fun w0 S0=>?_;refine(show CG _ _ _ [bx (rH eD [(1,aS (ix.h 0).1 (ix.h 0).2 r.rows.length),(2,aS (ix.h 1).1 (ix.h 1).2 r.width.length)]) 96 b r,d5 d7 32 (ix.h 0).1 (ix.h 0).2 r.rows,d5 bY 3 (ix.h 1).1 (ix.h 1).2 r.width] _ from ?_);refine au<|zo J (jw J)<|zo J (aJ (show aI _ _ _ uj from jA))<|zo J (cq)<|aq<|ah<|bv h fun e q_e h=>?_
 refine cJ (ts:=[_,_,_,_,_,_,_,_,_,_,_]) mixed J J
  ⟨ep 0 J J J (cD J),
  ⟨bT 6 0 J J J (dG (ht J)),
  ⟨bT 7 1 J J J (kG 0 XA J J J),
  ⟨bT 8 2 J J J (kG 0 Mw J J J),
  ⟨bT 9 3 J J J (cd (r:=rH eD [(1,aS (ix.h 0).1 (ix.h 0).2 r.rows.length),(2,aS (ix.h 1).1 (ix.h 1).2 r.width.length)]) (x:=r) yw J J (TR (u8 Ro BM)) (.head _) (ht J)),
  ⟨ep 3 J J J (cY zC qo J J),
  ⟨bT 11 5 J J J (bB cv J J),
  ⟨dv 10 4 12 6 J J J J (lq p8 hJ J J J q_e),
  ⟨bT 13 7 J J J (bB hJ J J),
  ⟨bT 14 8 J J J (tA J),
  ⟨OX J J (cq),
  aR⟩⟩⟩⟩⟩⟩⟩⟩⟩⟩⟩ ?_
 refine av<|ak<|aK<|aK<|aK ?_;cases so h;exact eg (ts:=[bR (cK) e,bH 0]) (rvs:=[.tmp 4,.tmp 5]) J J ⟨aX J,aX J,aR⟩ pm J J

theorem RS(n:Int){R:(List ac)}(h:gA n=some R):fT aO 172 [tV (.slice none 0 0),bH n] false af 46 R:=by
 refine fT.of Tryz.func172 J J J fun w0 S0=>au<|bN false af 46<|zo J (aJ rY)<|aq ?_;refine vl (Z:=ik n=some R) (Of:=[]) (Gf:=[(0,tV (.slice none 0 0)),(1,bH n)]) (fun h=>?_) (fun K=>?_)
 ·skip
  refine yk (Z:=fun s l c=>ij s=some R) (Of:=fun s l c=>[fq af 46 l c s]) (Gf:=fun s l c=>[(0,qM l c s)]) (fun s l c h=>?_) (fun K1=>?_)
  ·skip
   refine au<|aF J<|bm J<|aq<|ak ?_;cases so h;exact fQ J J
  ·skip
   refine au<|aF J<|aF J<|zo J (sk gc (ht J))<|aF J<|zo J (sj gc (ht J))<|zo J (gK (ht J) (ht J))<|zo J (gK (ht J) (ht J))<|bm J<|aq<|au<|aF J<|zo J (jm (ht J) hI)<|aq<|cU h J (fun h=>?_) (fun h=>?_)
   ·refine aw<|aF J<|aF J<|zo J (sk gc (ht J))<|zo J (xd gc aH (ht J) (ht J))<|aF J<|bv h fun u q_u h=>bv h fun mk q_mk h=>zN (xm (r:=af) (x:=hX) aH J J J J gc kM (fun _=>bf _) (ht J) (ht J) (EB q_u) q_mk) J fun i=>aF J<|zo J (sj gc (ht J))<|bv h fun y q_y h=>zo J (jY gc aH J (.head _) (ht J) (ht J) q_y)<|uy q_y<|bm J<|aQ ?_;exact cM (K1 y (i.h 0).1 (i.h 0).2 h) (bt J)
   ·refine bw<|Fi false af 46 ?_;exact cM (K1 Hf none 0 h) (bt J)
 ·skip
  refine au<|aF J<|zo J (fa (ht J) hI)<|aq<|cU h J (fun h=>?_) (fun h=>?_)
  ·refine aw ?_;exact(nn h).elim
  ·refine bw<|bk ?_;exact cM (K h) (bt J)
theorem Ks(slices:(List (List ac))){R:(List ac)}(h:dD slices=some R):fT aO 104 [bR (cK) slices] false af 46 R:=by
 refine fT.of Tryz.func104 J J J fun w0 S0=>au<|bN false af 46<|zo J (aJ rY)<|aq<|au<|zo J (cq)<|aq<|ah<|au<|aF J<|zo J (iw gR J)<|zo J (bJ hI)<|aq<|ay<|ba (k:=9) J fun hN=>bG<|pU ?_;refine aT (nO (Z:=fun ls i size=>(slices.drop i=ls)∧eX slices ls size=some R) (Of:=fun _ i size=>[]) (Gf:=fun _ i size=>[(0,bR (cK) slices),(3,bH size),(9,bR (cK) slices),(10,kg slices),(11,bH (i:Int))]) (fun i size h=>?_) (fun e tl ih i size h=>?_) slices 0 (0:Int) ⟨J,h⟩) (bt J)
 ·obtain⟨hx,h⟩:=h
  refine aC<|au<|zo J (fG J J)<|aq<|ah<|bA (ht J) (dC hx)<|bu ?_;refine ai (ai (aN ?_));refine av<|au<|aF rfl<|bv h fun r q_r h=>iv aaY (RS _ q_r) ⟨hV,(ht J),aR⟩ J fun l c=>bm J<|aq<|ah<|au<|aF J<|zo J (iw gR J)<|zo J (bJ hI)<|aq<|ay<|ba (k:=25) J fun hN1=>bG ?_;refine aT (jL (Z:=fun ls1 i1 newslice l1 c1=>(slices.drop i1=ls1)∧eW ls1 newslice=some R) (Of:=fun _ i1 newslice l1 c1=>[fq af 46 l1 c1 newslice]) (Gf:=fun _ i1 newslice l1 c1=>[(6,qM l1 c1 newslice),(25,bR (cK) slices),(26,kg slices),(27,bH (i1:Int))]) (fun i1 newslice l1 c1 h=>?_) (fun e1 tl1 ih1 i1 newslice l1 c1 h=>?_) slices 0 r l c ⟨J,h⟩) (bt J)
  ·obtain⟨hx1,h⟩:=h
   refine aC<|au<|zo J (fG J J)<|aq<|ah<|bA (ht J) (dC hx1)<|bu ?_;refine ai (ai (aN ?_));refine av<|au<|aF rfl<|bm rfl<|aq<|ak ?_;cases so h;exact fQ J J
  ·obtain⟨hx1,h⟩:=h
   refine aC<|au<|zo J (fG J J)<|aq<|ah<|bz (ht J) (du hx1)<|dR<|ah<|ay<|au<|zo J (lq gR cO J J J (cW hx1))<|zo J (bB cO J J)<|bm J<|aq<|aw<|aF J<|aF J<|bv h fun newslice1 q_newslice1 h=>cT aH J J J J gc J J (ht J) (ht J) q_newslice1 fun l2 c2=>?_;refine bm J<|aQ<|ap<|av<|aw<|zo rfl (mI (cQ hx1 hN1) rfl)<|aF rfl<|aQ ?_;exact bg (aT (ih1 (i1+1) newslice1 l2 c2 ⟨cP hx1,h⟩) (bt J))
 ·obtain⟨hx,h⟩:=h
  refine aC<|au<|zo J (fG J J)<|aq<|ah<|bz (ht J) (du hx)<|dR<|ah<|ay<|au<|zo J (lq gR cO J J J (cW hx))<|zo J (bB cO J J)<|bm J<|aq<|au<|aF J<|aF J<|zo J (iw gc J) ?_;refine zo J (nc (ht J) (ht J))<|bm J<|aq<|au<|aF J<|zo J (fa (ht J) hI)<|aq<|cU h J (fun h=>?_) (fun h=>?_)
  ·refine aw ?_;exact(nn h).elim
  ·refine bw<|ap<|av<|aw<|zo rfl (mI (cQ hx hN) rfl)<|aF rfl<|aQ ?_;exact bg (aT (ih (i+1) (IntKind.i64.wrap (size+(e.length:Int))) ⟨cP hx,h⟩) (bt J))
theorem Vm(slices:(List (List ac))){R:(List ac)}(h:dD slices=some R):aU aO 104 [bR (cK) slices] (bR (af) R):=(Ks _ h).spec

end Go.Proofs.YtfhhakidodmdfaaGreatDoor

