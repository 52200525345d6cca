/- db of this claim: P4. -/
import Derived.Test.YtbmmihfagmchaaaGreatRaT
import Derived.Test.YtbmmihfagmchaaaGreatRaP3
set_option linter.all false
namespace Go.Proofs.YtbmmihfagmchaaaGreat
open Go
set_option maxRecDepth 100000

def Ee(b:Nat)(ix:OI) c{R}(h:nC c=some R):rO bf 71 [tV (aq b 0)] (cS b c ix) (fun(x:Int×Bool)=>[bX x.1,ec x.2]) R (cS b):=by
 refine rO.of Tryz.func71 J J J fun w0 S0=>?_;refine(show CG _ _ _ [bx (rH aZ [(1,aM (ix.h 0).1 (ix.h 0).2 c.kinds.length),(2,aM (ix.h 1).1 (ix.h 1).2 c.first.length)]) 102 b c,tip lK 23 (ix.h 0).1 (ix.h 0).2 c.kinds,tip ce 3 (ix.h 1).1 (ix.h 1).2 c.first] _ from ?_);exact T<|K (D6 (fun _ _ h=>by rw [show _=_ from h];rfl) (D J))<|K (bF hV)<|bO<|T<|cn<|cn<|cn<|xu (O1:=cS b c ix) (cts:=[bp (rT (tV (aq b 0))) ()]) (caps:=[.tmp 1]) J IN (Ed b ix c) ⟨(D J),aX⟩ J fun v fp=>bt J<|so h▸B0 J J

def zP l{R}(h:oM l=some R):cj bf 43 [X aE l] (tT [bp aZ R.1,bX R.2.1,ec R.2.2]):=by
 refine Do Tryz.func43 J J J fun w0 S0=>T<|cA J<|av (r:=rV) (x:= .pointer none) kD (fun _=>⟨J,J⟩) J fun b=>av (r:=ce) (x:=(0:Int)) bR (fun _=>J) J fun b1=>av (r:=rB) (x:=false) Ci (fun _=>J) J fun b2=>bO<|T<|bn cV J<|K (bz (r:=rH aZ [(1,.slice none 0 0),(2,.slice none 0 0)]) (y:=(⟨l,[],[]⟩:aw)) G0 G7 (zH zc ⟨J,J,aX⟩) (⟨_,_,_,_,_,J,G2 wI J J,J,(D J),J⟩))<|nO (D J) J fun b3=>bE true lK 23<|bE true ce 3 ?_;refine(show RG _ _ _ _ [_,_,_,_,_,_] _ from ?_);refine av (r:=rV) (x:= .pointer none) kD (fun _=>⟨J,J⟩) J fun b4=>qe (eQ kD J (lZ aa) J (D J) (hW (D J) J)) fun i=>?_;refine(show RG _ _ _ _ [_,_,_,_,_,_,_] _ from ?_);refine bO<|T<|bw fv dT lY J<|cM kZ J<|aP J<|ba<|bg J<|K (eO (D J) hI)<|bg J<|aV J (cB J)<|aV J (fun Z=>mf (ca J Z) hI)<|fg J<|cw h J (fun h=>?_) (fun h=>?_)
 ·refine T<|K (mY kD (.head _) (D J))<|qe (EffOK.fr6 (eQ kD J (lZ aa) J (D J) (hW (D J) J))) fun i1=>?_;refine(show RG _ _ _ _ [_,_,_,_,_,_,_] _ from ?_);exact wn<|cy bR J aa J (D J) hI<|wn<|cy Ci J aa J (D J) hB<|cU<|ak<|wt<|sK<|q4 11 J<|aA<|aG 2 J<|bm<|aG 3 J<|aG 4 J<|aH<|aH<|aH<|vb<|so h▸bv (ts:=[bp aZ (⟨l,[],[]⟩:aw),bX 0,ec false]) (rvs:=[.cell 2 96,.cell 3 3,.cell 4 4]) J J ⟨sr (j:=11) kD J J,bb bR J J J,bb Ci J J J,aX⟩
 ·refine gg<|ba<|K (mY kD (.head _) (D J))<|aU<|cn<|cT<|cq h fun it q_it h=>Ah (cS b3 (⟨l,[],[]⟩:aw) (FO [(none,0),(none,0)])) _ J IY (Ee b3 (FO [(none,0),(none,0)]) (⟨l,[],[]⟩:aw) q_it) ⟨(D J),aX⟩ J fun v fp=>bO<|am<|cq h fun r q_r h=>?_;refine BV (fun(ix:Bool×Int×Bool)=>[bx rV 96 b4 (aq b3 0),bx rB 4 b2 ix.1,bx ce 3 b1 ix.2.1,bx rV 96 b (bif ix.2.2 then aq b3 0 else .pointer none)]) (fun(ix:Bool×Int×Bool)=>(ix.1,ix.2.1,ix.2.2)) (fun _=> .ret) J (D J) (false,(0:Int),false) J q_r (fun _=>J) J (fun ix x r1 h lp rec1 _ _ _=>?_) (fun i2 j hi bd=>⟨fun hj=>?_,fun _ hj=>?_⟩)
  ·obtain⟨x1,x2,p⟩:=ix
   replace h:qr x x1 x2 p=some r1:=h
   refine(show CG _ _ _ [mU lp rec1 .ready none,bx rV 96 b4 (aq b3 0),bx rB 4 b2 x1,bx ce 3 b1 x2,bx rV 96 b (bif p then aq b3 0 else .pointer none)] _ from ?_);refine Dv (G' :=[(0,X aE l),(1,bp aE l),(2,tV (aq b 0)),(3,tV (aq b1 0)),(4,tV (aq b2 0)),(5,tV (aq b4 0)),(6,f6 l.Nodes),(9,X aE l),(10,X (rH aZ [(1,.slice none 0 0),(2,.slice none 0 0)]) (⟨l,[],[]⟩:aw)),(11,tV (aq b3 0)),(12,bp vl l.Nodes),(13,eE (ap) l.Nodes),(14,f6 l.Nodes),(15,f6 l.Nodes),(16,ec (decide ((l.Nodes.length:Int)<(1:Int)))),(17,ec (decide ((l.Nodes.length:Int)<(1:Int)))),(18,iI (!(decide ((l.Nodes.length:Int)<(1:Int)))) (f6 l.Nodes)),(19,iI (!(decide ((l.Nodes.length:Int)<(1:Int)))) (ec (decide ((60:Int)<(l.Nodes.length:Int))))),(20,ec ((decide ((l.Nodes.length:Int)<(1:Int)))||(decide ((60:Int)<(l.Nodes.length:Int))))),(22,tV (aq b3 0)),(24,bX x.1),(25,ec x.2)]) ?_ ⟨J,J,J,J,J,J,J,J,J,J,J,J,J,J,J,J,J,J,J,J,J,J,aX⟩;refine T<|aP J<|aC<|f9 J<|bc<|B4<|am<|aW J<|K (fV (D J))<|cw h J (fun h=>?_) (fun h=>?_)
   ·refine T<|K (mY kD (.tail _ (.head _)) (D J))<|bg J<|qe (EffOK.fr4 (eQ kD J (lZ aa) J (D J) (hW (D J) J))) fun i3=>?_;refine(show RG _ _ _ _ [_,_,_,_,_] _ from ?_);exact kw<|aR bR aa J<|kw<|cy Ci J aa J (D J) hB<|cU<|jG<|aA<|aA<|aA<|ci<|ci<|so h▸xx 0 J (false,x.1,true) J J
   ·exact bH<|aO<|so h▸xz (x1,x2,p) J J
  ·skip
   obtain⟨x3,x4,p1⟩:=i2
   obtain rfl:x3=r.1.2.1:=congrArg (fun q:Bool×Int×Bool=>q.1) hi
   obtain rfl:x4=r.1.2.2.1:=congrArg (fun q:Bool×Int×Bool=>q.2.1) hi
   obtain rfl:p1=r.1.2.2.2:=congrArg (fun q:Bool×Int×Bool=>q.2.2) hi
   have h:=ct h (by rw [hj];rfl);refine(show AT _ _ _ [zX bd,bx (rH aZ [(1,aM (j.h 0).1 (j.h 0).2 r.2.kinds.length),(2,aM (j.h 1).1 (j.h 1).2 r.2.first.length)]) 102 b3 r.2,tip lK 23 (j.h 0).1 (j.h 0).2 r.2.kinds,tip ce 3 (j.h 1).1 (j.h 1).2 r.2.first,bx rV 96 b4 (aq b3 0),bx rB 4 b2 r.1.2.1,bx ce 3 b1 r.1.2.2.1,bx rV 96 b (bif r.1.2.2.2 then aq b3 0 else .pointer none)] _ from ?_);refine bY (G' :=[(0,X aE l),(1,bp aE l),(2,tV (aq b 0)),(3,tV (aq b1 0)),(4,tV (aq b2 0)),(5,tV (aq b4 0)),(6,f6 l.Nodes),(9,X aE l),(10,X (rH aZ [(1,.slice none 0 0),(2,.slice none 0 0)]) (⟨l,[],[]⟩:aw)),(11,tV (aq b3 0)),(12,bp vl l.Nodes),(13,eE (ap) l.Nodes),(14,f6 l.Nodes),(15,f6 l.Nodes),(16,ec (decide ((l.Nodes.length:Int)<(1:Int)))),(17,ec (decide ((l.Nodes.length:Int)<(1:Int)))),(18,iI (!(decide ((l.Nodes.length:Int)<(1:Int)))) (f6 l.Nodes)),(19,iI (!(decide ((l.Nodes.length:Int)<(1:Int)))) (ec (decide ((60:Int)<(l.Nodes.length:Int))))),(20,ec ((decide ((l.Nodes.length:Int)<(1:Int)))||(decide ((60:Int)<(l.Nodes.length:Int))))),(22,tV (aq b3 0))]) ?_ ⟨J,J,J,J,J,J,J,J,J,J,J,J,J,J,J,J,J,J,J,J,aX⟩;refine aO<|au<|aF<|cq h fun e q_e h=>?_
   refine gw 14 [tc (tV (aq b3 0)),tc (f6 l.Nodes),tc (bX (IntKind.i64.wrap ((l.Nodes.length:Int)-(1:Int)))),tc (tV (aq b3 0)),tc (tV (aq b3 0)),tc (tV (aq b3 2)),tc (tO ce (j.h 1).1 (j.h 1).2 r.2.first),tc (f6 l.Nodes),tc (bX (IntKind.i64.wrap ((l.Nodes.length:Int)-(1:Int)))),tc (bp ce e),tc (bX e),tc (ec (e==(0:Int))),tc (qF),tc (qF)] [false,false,false,false,false,false,false,false,false,false,false,false,true,true] [fun _=>[zX bd,bx (rH aZ [(1,aM (j.h 0).1 (j.h 0).2 r.2.kinds.length),(2,aM (j.h 1).1 (j.h 1).2 r.2.first.length)]) 102 b3 r.2,tip lK 23 (j.h 0).1 (j.h 0).2 r.2.kinds,tip ce 3 (j.h 1).1 (j.h 1).2 r.2.first,bx rV 96 b4 (aq b3 0),bx rB 4 b2 r.1.2.1,bx ce 3 b1 r.1.2.2.1,bx rV 96 b (bif r.1.2.2.2 then aq b3 0 else .pointer none)],fun sg=>[bx rV 96 b (aq b3 0),zX bd,bx (rH aZ [(1,aM (j.h 0).1 (j.h 0).2 r.2.kinds.length),(2,aM (j.h 1).1 (j.h 1).2 r.2.first.length)]) 102 b3 r.2,tip lK 23 (j.h 0).1 (j.h 0).2 r.2.kinds,tip ce 3 (j.h 1).1 (j.h 1).2 r.2.first,bx rV 96 b4 (aq b3 0),bx rB 4 b2 r.1.2.1,bx ce 3 b1 r.1.2.2.1],fun sg=>[bx ce 3 b1 (IntKind.i64.wrap ((l.Nodes.length:Int)-(1:Int))),bx rV 96 b (aq b3 0),zX bd,bx (rH aZ [(1,aM (j.h 0).1 (j.h 0).2 r.2.kinds.length),(2,aM (j.h 1).1 (j.h 1).2 r.2.first.length)]) 102 b3 r.2,tip lK 23 (j.h 0).1 (j.h 0).2 r.2.kinds,tip ce 3 (j.h 1).1 (j.h 1).2 r.2.first,bx rV 96 b4 (aq b3 0),bx rB 4 b2 r.1.2.1]] J mixed J J J J J
    ⟨⟨[⟨5,fun _=>tV (aq b4 0),none⟩],_,0,0,J,⟨(fun _=>J),aX⟩,J,J,J,J,J,qD (fun sg=>ac J (mY kD (.tail _ (.tail _ (.tail _ (.tail _ (.head _))))) (D J)))⟩,
    ⟨⟨[⟨6,fun _=>X ce (l.Nodes.length:Int),none⟩],_,0,1,J,⟨(fun _=>J),aX⟩,J,J,J,J,J,fun _ sg _ _=>ac J (jJ J)⟩,
    ⟨⟨[⟨31,fun _=>X ce (l.Nodes.length:Int),some 1⟩],_,0,1,J,⟨(fun _=>J),aX⟩,J,J,J,J,J,fun _ sg _ _=>ac J (cY (D J) hI)⟩,
    ⟨⟨[⟨5,fun _=>tV (aq b4 0),none⟩],_,0,2,J,⟨(fun _=>J),aX⟩,J,J,J,J,J,vn (fun sg=>ac J (mY kD (.tail _ (.tail _ (.tail _ (.tail _ (.head _))))) (D J))) (vn (fun sg=>ac J (mY kD (.tail _ (.tail _ (.tail _ (.tail _ (.tail _ (.head _)))))) (D J))) (qD (fun sg=>ac J (mY kD (.tail _ (.tail _ (.tail _ (.tail _ (.tail _ (.tail _ (.head _))))))) (D J)))))⟩,
    ⟨⟨[⟨33,fun _=>tV (aq b3 0),some 3⟩],_,0,2,J,⟨(fun _=>J),aX⟩,J,J,J,J,J,fun _ sg _ _=>ac J (eK (D J))⟩,
    ⟨⟨[⟨34,fun _=>tV (aq b3 0),some 4⟩],_,0,2,J,⟨(fun _=>J),aX⟩,J,J,J,J,J,fun _ sg _ _=>ac J (pr 2 nK J J J)⟩,
    ⟨⟨[⟨35,fun _=>tV (aq b3 2),some 5⟩],_,0,2,J,⟨(fun _=>J),aX⟩,J,J,J,J,J,vn (fun sg=>ac J (eg dJ J (.tail _ (.head _)) (.tail _ (.tail _ (.tail _ (.head _)))) (D J))) (vn (fun sg=>ac J (eg dJ J (.tail _ (.tail _ (.head _))) (.tail _ (.tail _ (.tail _ (.tail _ (.head _))))) (D J))) (qD (fun sg=>ac J (eg dJ J (.tail _ (.tail _ (.tail _ (.head _)))) (.tail _ (.tail _ (.tail _ (.tail _ (.tail _ (.head _)))))) (D J)))))⟩,
    ⟨⟨[⟨6,fun _=>X ce (l.Nodes.length:Int),none⟩],_,0,2,J,⟨(fun _=>J),aX⟩,J,J,J,J,J,fun _ sg _ _=>ac J (jJ J)⟩,
    ⟨⟨[⟨37,fun _=>X ce (l.Nodes.length:Int),some 7⟩],_,0,2,J,⟨(fun _=>J),aX⟩,J,J,J,J,J,fun _ sg _ _=>ac J (cY (D J) hI)⟩,
    ⟨⟨[⟨36,fun _=>tO ce (j.h 1).1 (j.h 1).2 r.2.first,some 6⟩,⟨38,fun _=>X ce (IntKind.i64.wrap ((l.Nodes.length:Int)-(1:Int))),some 8⟩],_,0,2,J,⟨(fun _=>J),(fun _=>J),aX⟩,J,J,J,J,J,fun _ sg _ _=>ac J (bj ed bR J (i7 (D J)) (D J) q_e)⟩,
    ⟨⟨[⟨39,fun _=>bp ce e,some 9⟩],_,0,2,J,⟨(fun _=>J),aX⟩,J,J,J,J,J,fun _ sg _ _=>ac J (lc bR J J)⟩,
    ⟨⟨[⟨40,fun _=>X ce e,some 10⟩],_,0,2,J,⟨(fun _=>J),aX⟩,J,J,J,J,J,fun _ sg _ _=>ac J (GJ J)⟩,
    ⟨⟨[⟨2,fun _=>tV (aq b 0),none⟩,⟨30,fun _=>tV (aq b3 0),some 0⟩],_,J,⟨(fun _=>J),(fun _=>J),aX⟩,J,J,J,fun sg=>ck J (EffOK.fr7 (eQ kD J (lZ aa) J (D J) (hW (D J) J)))⟩,
    ⟨⟨[⟨3,fun _=>tV (aq b1 0),none⟩,⟨32,fun _=>X ce (IntKind.i64.wrap ((l.Nodes.length:Int)-(1:Int))),some 2⟩],_,J,⟨(fun _=>J),(fun _=>J),aX⟩,J,J,J,fun sg=>ck J (EffOK.fr7 (eQ bR J (lZ aa) J (D J) (D J)))⟩,
    aX⟩⟩⟩⟩⟩⟩⟩⟩⟩⟩⟩⟩⟩⟩ (fun sg=>?_)
   refine(show RG _ _ _ _ [_,_,_,_,_,_,_,_] _ from ?_);exact BL<|aR Ci aa J<|cU<|ci<|sK<|q4 11 J<|aA<|aG 2 J<|bm<|aG 3 J<|aG 4 J<|bm<|aH<|bm<|aH<|bm<|aH<|AV<|vb<|so h▸bv (ts:=[bp aZ r.2,bX (IntKind.i64.wrap ((l.Nodes.length:Int)-(1:Int))),ec (e==(0:Int))]) (rvs:=[.cell 2 96,.cell 3 3,.cell 4 4]) J J ⟨sr (j:=11) kD J J,bb bR J J J,bb Ci J J J,aX⟩
  ·skip
   obtain⟨x5,x6,p2⟩:=i2
   obtain rfl:x5=r.1.2.1:=congrArg (fun q:Bool×Int×Bool=>q.1) hi
   obtain rfl:x6=r.1.2.2.1:=congrArg (fun q:Bool×Int×Bool=>q.2.1) hi
   obtain rfl:p2=r.1.2.2.2:=congrArg (fun q:Bool×Int×Bool=>q.2.2) hi
   have h:=cf h (by rw [hj];rfl);refine(show CG _ _ _ [zX bd,bx (rH aZ [(1,aM (j.h 0).1 (j.h 0).2 r.2.kinds.length),(2,aM (j.h 1).1 (j.h 1).2 r.2.first.length)]) 102 b3 r.2,tip lK 23 (j.h 0).1 (j.h 0).2 r.2.kinds,tip ce 3 (j.h 1).1 (j.h 1).2 r.2.first,bx rV 96 b4 (aq b3 0),bx rB 4 b2 r.1.2.1,bx ce 3 b1 r.1.2.2.1,bx rV 96 b (bif r.1.2.2.2 then aq b3 0 else .pointer none)] _ from ?_);refine Dv (G' :=[(0,X aE l),(1,bp aE l),(2,tV (aq b 0)),(3,tV (aq b1 0)),(4,tV (aq b2 0)),(5,tV (aq b4 0)),(6,f6 l.Nodes),(9,X aE l),(10,X (rH aZ [(1,.slice none 0 0),(2,.slice none 0 0)]) (⟨l,[],[]⟩:aw)),(11,tV (aq b3 0)),(12,bp vl l.Nodes),(13,eE (ap) l.Nodes),(14,f6 l.Nodes),(15,f6 l.Nodes),(16,ec (decide ((l.Nodes.length:Int)<(1:Int)))),(17,ec (decide ((l.Nodes.length:Int)<(1:Int)))),(18,iI (!(decide ((l.Nodes.length:Int)<(1:Int)))) (f6 l.Nodes)),(19,iI (!(decide ((l.Nodes.length:Int)<(1:Int)))) (ec (decide ((60:Int)<(l.Nodes.length:Int))))),(20,ec ((decide ((l.Nodes.length:Int)<(1:Int)))||(decide ((60:Int)<(l.Nodes.length:Int))))),(22,tV (aq b3 0))]) ?_ ⟨J,J,J,J,J,J,J,J,J,J,J,J,J,J,J,J,J,J,J,J,aX⟩;exact hJ<|cZ<|cq h fun u q_u h=>DA (O' :=[zX bd,bx (rH aZ [(1,aM (j.h 0).1 (j.h 0).2 r.2.kinds.length),(2,aM (j.h 1).1 (j.h 1).2 r.2.first.length)]) 102 b3 r.2,tip lK 23 (j.h 0).1 (j.h 0).2 r.2.kinds,tip ce 3 (j.h 1).1 (j.h 1).2 r.2.first,bx rV 96 b4 (aq b3 0),bx rB 4 b2 r.1.2.1,bx ce 3 b1 r.1.2.2.1,bx rV 96 b (aq b3 0)]) (by rw [show r.1.2.2.2=true from CI q_u];rfl)<|bm<|sK<|q4 11 J<|wt<|aG 2 J<|B3<|aG 3 J<|ci<|aG 4 J<|bm<|aH<|bm<|aH<|bm<|aH<|AV<|vb<|so h▸bv (ts:=[bp aZ r.2,bX r.1.2.2.1,ec r.1.2.1]) (rvs:=[.cell 2 96,.cell 3 3,.cell 4 4]) J J ⟨sr (j:=11) kD J J,bb bR J J J,bb Ci J J J,aX⟩

def xe l{R}(h:lS l=some R):cj bf 35 [X aE l] (tT [bX R.1,bX R.2]):=by
 refine de Tryz.func35 J<|T<|cA J<|cx<|cx<|bO<|T<|bn cV J<|da h Gy (zP _) (bQ J) fun r h=>bg J<|bM J J<|bM J J<|bM J J<|f9 J<|f9 J<|aP J<|aF<|aF ?_;refine aC<|bg J<|K (fV (D J))<|cw h J (fun h=>?_) (fun h=>?_)
 ·exact aW J<|f9 J<|dh<|ak<|so h▸dE J J J
 ·exact gg<|T<|cx<|dh<|so h▸dE J J J

def p9 s{R}(h:bh s=some R):ev bf 81 [eE (ai) s] false ai 63 R:=by
 refine ev.of Tryz.func81 J J J fun w0 S0=>T<|bE false ai 63<|K (bF pl)<|bO<|ba<|bg J<|pR hM (D J) J fun isnil hisnil=>bO<|lJ (D J) (fun hc=>?_) (fun hc=>?_)
 ·have I:=hisnil hc
  have h:some xJ=some R:=by simpa [bh,kF,I] using h
  exact T<|bE false ai 63<|K (bF pl)<|cU<|ak<|so h▸f8 J J
 ·exact gg<|T<|eJ (r:=ai) (ys:=xJ) (xs:=[]) hM cO J J J J J trivial J fun l c=>bg J<|cq h fun x q_x h=>dd cO J J J J hM J J (D J) (D J) q_x fun l1 c1=>bt J<|so h▸f8 J J
def CP s{R}(h:bh s=some R):cj bf 81 [eE (ai) s] (eE (ai) R):=(p9 _ h).spec

def C6 s{R}(h:d5 s=some R):ev bf 116 [eE (gT) s] false gT 81 R:=by
 refine ev.of Tryz.func116 J J J fun w0 S0=>T<|bE false gT 81<|K (bF pl)<|bO<|ba<|bg J<|pR y9 (D J) J fun isnil hisnil=>bO<|lJ (D J) (fun hc=>?_) (fun hc=>?_)
 ·have I:=hisnil hc
  have h:some ([]:List ne)=some R:=by simpa [d5,kF,I] using h
  exact T<|bE false gT 81<|K (bF pl)<|cU<|ak<|so h▸f8 J J
 ·exact gg<|T<|eJ (r:=gT) (ys:=([]:List ne)) (xs:=[]) y9 DY J J J J J trivial J fun l c=>bg J<|cq h fun x q_x h=>dd DY J J J J y9 J J (D J) (D J) q_x fun l1 c1=>bt J<|so h▸f8 J J
def EJ s{R}(h:d5 s=some R):cj bf 116 [eE (gT) s] (eE (gT) R):=(C6 _ h).spec

def C5 s{R}(h:fj s=some R):ev bf 117 [eE (fm) s] false fm 77 R:=by
 refine ev.of Tryz.func117 J J J fun w0 S0=>T<|bE false fm 77<|K (bF pl)<|bO<|ba<|bg J<|pR tJ (D J) J fun isnil hisnil=>bO<|lJ (D J) (fun hc=>?_) (fun hc=>?_)
 ·have I:=hisnil hc
  have h:some ([]:List sI)=some R:=by simpa [fj,kF,I] using h
  exact T<|bE false fm 77<|K (bF pl)<|cU<|ak<|so h▸f8 J J
 ·exact gg<|T<|eJ (r:=fm) (ys:=([]:List sI)) (xs:=[]) tJ xQ J J J J J trivial J fun l c=>bg J<|cq h fun x q_x h=>dd xQ J J J J tJ J J (D J) (D J) q_x fun l1 c1=>bt J<|so h▸f8 J J
def C4 s{R}(h:cL s=some R):ev bf 118 [eE (hf) s] false hf 27 R:=by
 refine ev.of Tryz.func118 J J J fun w0 S0=>T<|bE false hf 27<|K (bF pl)<|bO<|ba<|bg J<|pR gx (D J) J fun isnil hisnil=>bO<|lJ (D J) (fun hc=>?_) (fun hc=>?_)
 ·have I:=hisnil hc
  have h:some nS=some R:=by simpa [cL,kF,I] using h
  exact T<|bE false hf 27<|K (bF pl)<|cU<|ak<|so h▸f8 J J
 ·exact gg<|T<|eJ (r:=hf) (ys:=nS) (xs:=[]) gx aL J J J J J trivial J fun l c=>bg J<|cq h fun x q_x h=>dd aL J J J J gx J J (D J) (D J) q_x fun l1 c1=>bt J<|so h▸f8 J J
def Gn{l:Option Nat}{c:Nat}{xs s:List af}{lo:Int}{R}(hs:cW xs lo (xs.length:Int)=some s)(h:cL s=some R):df bf 118 [tV (jU 1 l c lo.toNat s.length)] [dX hf 27 l c xs] (fun i:OI=>n9 (i.h 0).1 (i.h 0).2 R) (fun i=>[dX hf 27 (i.h 0).1 (i.h 0).2 R,dX hf 27 l c xs]):=by
 refine df.of Tryz.func118 J J J fun w0 S0=>T<|K (bF pl)<|bO<|ba<|bg J<|wm (r:=hf) gx (.head _) hs (D J) J fun isnil hisnil=>bO<|lJ (D J) (fun hc=>?_) (fun hc=>?_)
 ·have I:=hisnil hc
  have h:some nS=some R:=by simpa [cL,kF,I] using h
  exact T<|bE false hf 27<|K (bF pl)<|cU<|ak<|so h▸j9 J (oi none 0) J J (fun _ _ h=>h)
 ·exact gg<|T<|eJ (r:=hf) (ys:=nS) (xs:=[]) gx aL J J J J J trivial J fun l1 c1=>bg J<|cq h fun x q_x h=>u3 aL J J J J gx J J (D J) (.tail _ (.head _)) hs (D J) q_x fun l2 c2=>bt J<|so h▸j9 J (oi l2 c2) J J (fun _ _ h=>h)

def zN n by1{R}(h:mF n by1=some R):cj bf 85 [X ap n,bX by1] (X ap R):=by
 refine de Tryz.func85 J<|T<|nO (D J) J fun b=>av dK fP J fun b1=>bO ?_;refine eT (hg:=fun n1=>mj by1 n1=some R) (Of:=fun n1=>[bx ap 55 b n1,bx ap 55 b1 vm]) (Gf:=fun n1=>[(1,bX by1),(2,tV (aq b 0)),(4,tV (aq b1 0))]) (fun n1 h=>?_) (fun ae=>?_)
 ·skip
  refine eT (hg:=fun n2=>mi n2=some R) (Of:=fun n2=>[bx ap 55 b n2,bx ap 55 b1 vm]) (Gf:=fun n2=>[(2,tV (aq b 0)),(4,tV (aq b1 0))]) (fun n2 h=>?_) (fun K1=>?_)
  ·skip
   refine aF<|cq h fun r q_r h=>cq h fun r1 q_r1 h=>cq h fun r2 q_r2 h=>?_
   refine jr 10 (ts:=[tV (aq b 4),jT n2.Kinds,jT r,tV (aq b 7),jT n2.Keys,jT r1,tV (aq b 10),eE (gT) n2.Order,eE (gT) r2,tV (aq b 4)]) mixed J J J
    ⟨lV 2 J J (pr 4 pM J J J),
    ⟨dg 23 0 J J (be dJ J J lu (.head _) (D J)),
    ⟨dg 24 1 J J (cg Dh (CU _ q_r) ⟨(D J),aX⟩),
    ⟨lV 2 J J (pr 7 oT J J J),
    ⟨dg 26 3 J J (be dJ J J kl (.head _) (D J)),
    ⟨dg 27 4 J J (cg Dh (CU _ q_r1) ⟨(D J),aX⟩),
    ⟨lV 2 J J (pr 10 p8 J J J),
    ⟨dg 29 6 J J (be Be J J nJ (.head _) (D J)),
    ⟨dg 30 7 J J (cg H5 (EJ _ q_r2) ⟨(D J),aX⟩),
    ⟨lV 2 J J (pr 4 pM J J J),
    aX⟩⟩⟩⟩⟩⟩⟩⟩⟩⟩ ?_
   refine aR dJ oD J<|bD 7 oT J<|aR dJ uk J<|bD 10 p8 J<|aR Be sR J<|bO<|T<|bD 6 jS J<|bD 6 bZ J<|K (be ee J J (iv eq bL) (.head _) (D J))<|mM h Ab (p9 _) (bQ J) fun r3 h l c=>bD 6 jS J<|bD 6 bZ J<|fi<|jp 38 J<|aU<|cy ee J (sh eq je mI) J (D J) (i7 (D J))<|bO<|aF<|cq h fun r4 q_r4 h=>?_;refine cq h fun r5 q_r5 h=>?_
   refine gw 7 [tc (tV (aq b 8)),tc (eE (fm) (({(an.mk n2.Op n2.A n2.B n2.Table r n2.Left n2.Cond r1 n2.Aggs n2.Items r2 n2.Limit)with Cond:=({(an.mk n2.Op n2.A n2.B n2.Table r n2.Left n2.Cond r1 n2.Aggs n2.Items r2 n2.Limit).Cond with Nodes:=r3}:af)}:an).Aggs)),([2],fun s=>tV (aM ((s.getD 0 nh).h 0).1 ((s.getD 0 nh).h 0).2 r4.length)),tc (tV (aq b 9)),tc (eE (hf) (({(an.mk n2.Op n2.A n2.B n2.Table r n2.Left n2.Cond r1 n2.Aggs n2.Items r2 n2.Limit)with Cond:=({(an.mk n2.Op n2.A n2.B n2.Table r n2.Left n2.Cond r1 n2.Aggs n2.Items r2 n2.Limit).Cond with Nodes:=r3}:af)}:an).Items)),([5],fun s=>tV (aM ((s.getD 0 nh).h 0).1 ((s.getD 0 nh).h 0).2 r5.length)),tc (tV (aq b 8))] [false,false,true,false,false,true,false] [fun _=>[bx ap 55 b ({(an.mk n2.Op n2.A n2.B n2.Table r n2.Left n2.Cond r1 n2.Aggs n2.Items r2 n2.Limit)with Cond:=({(an.mk n2.Op n2.A n2.B n2.Table r n2.Left n2.Cond r1 n2.Aggs n2.Items r2 n2.Limit).Cond with Nodes:=r3}:af)}:an),tip ai 63 l c r3,bx ap 55 b1 vm],fun sg=>[dX fm 77 ((sg 2).h 0).1 ((sg 2).h 0).2 r4,bx ap 55 b ({(an.mk n2.Op n2.A n2.B n2.Table r n2.Left n2.Cond r1 n2.Aggs n2.Items r2 n2.Limit)with Cond:=({(an.mk n2.Op n2.A n2.B n2.Table r n2.Left n2.Cond r1 n2.Aggs n2.Items r2 n2.Limit).Cond with Nodes:=r3}:af)}:an),tip ai 63 l c r3,bx ap 55 b1 vm],fun sg=>[dX hf 27 ((sg 5).h 0).1 ((sg 5).h 0).2 r5,dX fm 77 ((sg 2).h 0).1 ((sg 2).h 0).2 r4,bx ap 55 b ({(an.mk n2.Op n2.A n2.B n2.Table r n2.Left n2.Cond r1 n2.Aggs n2.Items r2 n2.Limit)with Cond:=({(an.mk n2.Op n2.A n2.B n2.Table r n2.Left n2.Cond r1 n2.Aggs n2.Items r2 n2.Limit).Cond with Nodes:=r3}:af)}:an),tip ai 63 l c r3,bx ap 55 b1 vm]] J mixed J J J J J
    ⟨⟨[⟨2,fun _=>tV (aq b 0),none⟩],_,0,0,J,⟨(fun _=>J),aX⟩,J,J,J,J,J,fun _ sg _ _=>ac J (pr 8 n7 J J J)⟩,
    ⟨⟨[⟨41,fun _=>tV (aq b 8),some 0⟩],_,0,0,J,⟨(fun _=>J),aX⟩,J,J,J,J,J,qD (fun sg=>ac J (be vo J J m7 (.head _) (D J)))⟩,
    ⟨⟨[⟨42,fun _=>X (eY fm) (({(an.mk n2.Op n2.A n2.B n2.Table r n2.Left n2.Cond r1 n2.Aggs n2.Items r2 n2.Limit)with Cond:=({(an.mk n2.Op n2.A n2.B n2.Table r n2.Left n2.Cond r1 n2.Aggs n2.Items r2 n2.Limit).Cond with Nodes:=r3}:af)}:an).Aggs),some 1⟩],_,J,⟨(fun _=>J),aX⟩,J,J,J,fun sg=>ck J (wi (xs:=[.tmp 42]) (ts:=[X (eY fm) (({(an.mk n2.Op n2.A n2.B n2.Table r n2.Left n2.Cond r1 n2.Aggs n2.Items r2 n2.Limit)with Cond:=({(an.mk n2.Op n2.A n2.B n2.Table r n2.Left n2.Cond r1 n2.Aggs n2.Items r2 n2.Limit).Cond with Nodes:=r3}:af)}:an).Aggs)]) H4 (C5 _ q_r4) ⟨(D J),aX⟩)⟩,
    ⟨⟨[⟨2,fun _=>tV (aq b 0),none⟩],_,0,1,J,⟨(fun _=>J),aX⟩,J,J,J,J,J,fun _ sg _ _=>ac J (pr 9 kO J J J)⟩,
    ⟨⟨[⟨44,fun _=>tV (aq b 9),some 3⟩],_,0,1,J,⟨(fun _=>J),aX⟩,J,J,J,J,J,vn (fun sg=>ac J (be dC J J gF (.head _) (D J))) (qD (fun sg=>ac J (be dC J J gF (.tail _ (.head _)) (D J))))⟩,
    ⟨⟨[⟨45,fun _=>X rd (({(an.mk n2.Op n2.A n2.B n2.Table r n2.Left n2.Cond r1 n2.Aggs n2.Items r2 n2.Limit)with Cond:=({(an.mk n2.Op n2.A n2.B n2.Table r n2.Left n2.Cond r1 n2.Aggs n2.Items r2 n2.Limit).Cond with Nodes:=r3}:af)}:an).Items),some 4⟩],_,J,⟨(fun _=>J),aX⟩,J,J,J,fun sg=>ck J (wi (xs:=[.tmp 45]) (ts:=[X rd (({(an.mk n2.Op n2.A n2.B n2.Table r n2.Left n2.Cond r1 n2.Aggs n2.Items r2 n2.Limit)with Cond:=({(an.mk n2.Op n2.A n2.B n2.Table r n2.Left n2.Cond r1 n2.Aggs n2.Items r2 n2.Limit).Cond with Nodes:=r3}:af)}:an).Items)]) Fn (C4 _ q_r5) ⟨(D J),aX⟩)⟩,
    ⟨⟨[⟨2,fun _=>tV (aq b 0),none⟩],_,1,2,J,⟨(fun _=>J),aX⟩,J,J,J,J,J,fun _ sg _ _=>ac J (pr 8 n7 J J J)⟩,
    aX⟩⟩⟩⟩⟩⟩⟩ (fun sg=>?_)
   refine(show RG _ _ _ _ [_,_,_,_,_] _ from ?_);refine cn<|c8 vo J (qG _ _) J (D J) (uH (D J))<|bD 9 kO J<|c8 dC J (oA _ _ _) J (D J) (uH (D J))<|bO<|ba<|bD 8 n7 J<|K (eP vo m3 (.head _) J (D J))<|K (dD tJ (.tail _ (.tail _ (.head _))) (D J))<|K (bS hI)<|bO<|am<|d7 (.tail _ (.tail _ (.head _))) fun hN=>bP<|fO<|jD<|cr<|dp<|dp<|fO ?_;refine aN (gv (hg:=fun ls i n3=>(r4.drop i=ls)/\mh ls i n3=some R) (Of:=fun _ i n3=>[bx ap 55 b1 vm,bx go 55 b (jw n3 (aM ((sg 2).h 0).1 ((sg 2).h 0).2 n3.Aggs.length) (aM ((sg 5).h 0).1 ((sg 5).h 0).2 n3.Items.length)),dX fm 77 ((sg 2).h 0).1 ((sg 2).h 0).2 n3.Aggs,dX hf 27 ((sg 5).h 0).1 ((sg 5).h 0).2 n3.Items]) (Gf:=fun _ i n3=>[(2,tV (aq b 0)),(4,tV (aq b1 0)),(51,f6 r4),(52,bX (i:Int))]) (fun i n3 h=>?_) (fun e tl ih i n3 h=>?_) r4 0 ({({({(an.mk n2.Op n2.A n2.B n2.Table r n2.Left n2.Cond r1 n2.Aggs n2.Items r2 n2.Limit)with Cond:=({(an.mk n2.Op n2.A n2.B n2.Table r n2.Left n2.Cond r1 n2.Aggs n2.Items r2 n2.Limit).Cond with Nodes:=r3}:af)}:an)with Aggs:=r4}:an)with Items:=r5}:an) ⟨J,h⟩) (bk J)
   ·obtain⟨I,h⟩:=h
    refine dt I J<|au<|ba<|bD 9 kO J<|K (eP dC m2 (.tail _ (.head _)) J (D J))<|K (dD gx (.tail _ (.tail _ (.tail _ (.head _)))) (D J))<|K (bS hI)<|bO<|am<|d7 (.tail _ (.tail _ (.tail _ (.head _)))) fun hN1=>?_;refine bP ?_;refine aN (gv (hg:=fun ls1 i1 n4=>(n3.Items.drop i1=ls1)/\mg ls1 i1 n4=some R) (Of:=fun _ i1 n4=>[bx ap 55 b1 vm,bx go 55 b (jw n4 (aM ((sg 2).h 0).1 ((sg 2).h 0).2 n4.Aggs.length) (aM ((sg 5).h 0).1 ((sg 5).h 0).2 n4.Items.length)),dX fm 77 ((sg 2).h 0).1 ((sg 2).h 0).2 n4.Aggs,dX hf 27 ((sg 5).h 0).1 ((sg 5).h 0).2 n4.Items]) (Gf:=fun _ i1 n4=>[(2,tV (aq b 0)),(4,tV (aq b1 0)),(72,f6 n3.Items),(73,bX (i1:Int))]) (fun i1 n4 h=>?_) (fun e1 tl1 ih1 i1 n4 h=>?_) n3.Items 0 n3 ⟨J,h⟩) (bk J)
    ·obtain⟨hx1,h⟩:=h
     refine dt hx1 J<|au<|T<|cn<|fi<|cT<|fi<|K (fq (q:=ap) (y:=n4) dK J J J J (.tail _ (.tail _ (.tail _ (.head _)))) (fun _ _ _ ho h=>rG (hZ ho (.tail _ (.head _))) (hZ ho (.head _)) h) (D J))<|cn<|aR dK aa J<|aB 4 J<|bc ?_;exact au<|hJ<|aH<|aH<|aH<|so h▸eD J dK J J J
    ·obtain⟨hx1,h⟩:=h
     refine dr hx1 J<|aF<|am<|aW J<|aP J<|cq h fun e2 q_e2 h=>cq h fun r6 q_r6 h=>?_
     refine jr 12 (ts:=[tV (aq b 9),tV (aM ((sg 5).h 0).1 ((sg 5).h 0).2 n4.Items.length),bX (i1:Int),tV (aq b 9),tV (aM ((sg 5).h 0).1 ((sg 5).h 0).2 n4.Items.length),bX (i1:Int),tV (gu ((sg 5).h 0).1 ((i1:Int).toNat*1+0)),tV (gu ((sg 5).h 0).1 ((i1:Int).toNat*1+0)),eE (ai) e2.Nodes,eE (ai) r6,tV (gu ((sg 5).h 0).1 ((i1:Int).toNat*1+0)),tV (gu ((sg 5).h 0).1 ((i1:Int).toNat*1+0))]) mixed J J J
      ⟨lV 2 J J (pr 9 kO J J J),
      ⟨dg 76 0 J J (eP dC m2 (.tail _ (.head _)) J (D J)),
      ⟨gK J J,
      ⟨lV 2 J J (pr 9 kO J J J),
      ⟨dg 79 3 J J (eP dC m2 (.tail _ (.head _)) J (D J)),
      ⟨gK J J,
      ⟨eI 80 4 81 5 J J J (bI gx aL (.tail _ (.tail _ (.tail _ (.head _)))) (D J) (D J) q_e2),
      ⟨dg 82 6 J J (cd (o:=(i1:Int).toNat*1+0) (n:=(i1:Int).toNat*1+0) bZ J (.tail _ (.tail _ (.tail _ (.head _)))) q_e2 (D J) J),
      ⟨dg 83 7 J J (cD (r:=hf) (i:=(i1:Int)) (foff:=0) ee J J bL J (.tail _ (.tail _ (.tail _ (.head _)))) q_e2 (D J)),
      ⟨dg 84 8 J J (cg Ab (CP _ q_r6) ⟨(D J),aX⟩),
      ⟨eI 77 1 78 2 J J J (bI gx aL (.tail _ (.tail _ (.tail _ (.head _)))) (D J) (D J) q_e2),
      ⟨dg 86 10 J J (cd (o:=(i1:Int).toNat*1+0) (n:=(i1:Int).toNat*1+0) bZ J (.tail _ (.tail _ (.tail _ (.head _)))) q_e2 (D J) J),
      aX⟩⟩⟩⟩⟩⟩⟩⟩⟩⟩⟩⟩ ?_
     refine cT<|cq h fun st q_st h=>jA ee J mI J q_e2 (so q_st) (D J) (D J)<|eS (dM (so q_st)) 77 J<|eS (dM (so q_st)) 80 J<|na (O' :=[dX hf 27 ((sg 5).h 0).1 ((sg 5).h 0).2 st,bx ap 55 b1 vm,bx go 55 b (jw n4 (aM ((sg 2).h 0).1 ((sg 2).h 0).2 n4.Aggs.length) (aM ((sg 5).h 0).1 ((sg 5).h 0).2 st.length)),dX fm 77 ((sg 2).h 0).1 ((sg 2).h 0).2 n4.Aggs]) (by first|(rw [dM (so q_st)];done)|(rw [dM (so q_st)];exact J)|exact J)<|bc<|cP hx1 hN1 J<|bq<|bq<|bq ?_;exact aY (aN (ih1 (i1+1) ({n4 with Items:=st}:an) ⟨cI hx1,h⟩) (bk J))
   ·obtain⟨I,h⟩:=h
    refine dr I J<|aF<|am<|aW J<|aP J<|cq h fun e3 q_e3 h=>cq h fun r7 q_r7 h=>?_
    refine jr 14 (ts:=[tV (aq b 8),tV (aM ((sg 2).h 0).1 ((sg 2).h 0).2 n3.Aggs.length),bX (i:Int),tV (aq b 8),tV (aM ((sg 2).h 0).1 ((sg 2).h 0).2 n3.Aggs.length),bX (i:Int),tV (gu ((sg 2).h 0).1 ((i:Int).toNat*2+0)),tV (gu ((sg 2).h 0).1 ((i:Int).toNat*2+1)),tV (gu ((sg 2).h 0).1 ((i:Int).toNat*2+1)),eE (ai) e3.Arg.Nodes,eE (ai) r7,tV (gu ((sg 2).h 0).1 ((i:Int).toNat*2+0)),tV (gu ((sg 2).h 0).1 ((i:Int).toNat*2+1)),tV (gu ((sg 2).h 0).1 ((i:Int).toNat*2+1))]) mixed J J J
     ⟨lV 2 J J (pr 8 n7 J J J),
     ⟨dg 55 0 J J (eP vo m3 (.tail _ (.head _)) J (D J)),
     ⟨gK J J,
     ⟨lV 2 J J (pr 8 n7 J J J),
     ⟨dg 58 3 J J (eP vo m3 (.tail _ (.head _)) J (D J)),
     ⟨gK J J,
     ⟨eI 59 4 60 5 J J J (bI tJ xQ (.tail _ (.tail _ (.head _))) (D J) (D J) q_e3),
     ⟨dg 61 6 J J (cd (o:=(i:Int).toNat*2+0) (n:=(i:Int).toNat*2+1) wZ J (.tail _ (.tail _ (.head _))) q_e3 (D J) J),
     ⟨dg 62 7 J J (cd (o:=(i:Int).toNat*2+1) (n:=(i:Int).toNat*2+1) bZ J (.tail _ (.tail _ (.head _))) q_e3 (D J) J),
     ⟨dg 63 8 J J (cD (r:=fm) (i:=(i:Int)) (foff:=1) ee J J (iv rE bL) J (.tail _ (.tail _ (.head _))) q_e3 (D J)),
     ⟨dg 64 9 J J (cg Ab (CP _ q_r7) ⟨(D J),aX⟩),
     ⟨eI 56 1 57 2 J J J (bI tJ xQ (.tail _ (.tail _ (.head _))) (D J) (D J) q_e3),
     ⟨dg 66 11 J J (cd (o:=(i:Int).toNat*2+0) (n:=(i:Int).toNat*2+1) wZ J (.tail _ (.tail _ (.head _))) q_e3 (D J) J),
     ⟨dg 67 12 J J (cd (o:=(i:Int).toNat*2+1) (n:=(i:Int).toNat*2+1) bZ J (.tail _ (.tail _ (.head _))) q_e3 (D J) J),
     aX⟩⟩⟩⟩⟩⟩⟩⟩⟩⟩⟩⟩⟩⟩ ?_
    refine cn<|cq h fun st1 q_st1 h=>jA ee J (sh rE Cl mI) J q_e3 (so q_st1) (D J) (D J)<|eS (dM (so q_st1)) 56 J<|eS (dM (so q_st1)) 59 J<|na (O' :=[dX fm 77 ((sg 2).h 0).1 ((sg 2).h 0).2 st1,bx ap 55 b1 vm,bx go 55 b (jw n3 (aM ((sg 2).h 0).1 ((sg 2).h 0).2 st1.length) (aM ((sg 5).h 0).1 ((sg 5).h 0).2 n3.Items.length)),dX hf 27 ((sg 5).h 0).1 ((sg 5).h 0).2 n3.Items]) (by first|(rw [dM (so q_st1)];done)|(rw [dM (so q_st1)];exact J)|exact J)<|bc<|cP I hN J<|bq<|bm<|bq<|bq ?_;exact aY (aN (ih (i+1) ({n3 with Aggs:=st1}:an) ⟨cI I,h⟩) (bk J))
  ·skip
   refine T<|bD 2 mo J<|K (be bR J J io (.head _) (D J))<|K (dB (D J) hI)<|cw h J (fun h=>?_) (fun h=>?_)
   ·refine aC<|bD 2 mo J<|K (be bR J J io (.head _) (D J))<|bg J<|K (eh (D J) (D J))<|bD 2 mo J<|aR bR kc J<|bc ?_;exact bY (K1 (an.mk n1.Op n1.A (IntKind.i64.wrap (n1.B+by1)) n1.Table n1.Kinds n1.Left n1.Cond n1.Keys n1.Aggs n1.Items n1.Order n1.Limit) h) (bk J)
   ·refine bH ?_;exact bY (K1 n1 h) (bk J)
 ·skip
  refine T<|bD 1 g9 J<|K (be bR J J dI (.tail _ (.head _)) (D J))<|K (dB (D J) hI)<|cw h J (fun h=>?_) (fun h=>?_)
  ·refine aC<|bD 1 g9 J<|K (be bR J J dI (.tail _ (.head _)) (D J))<|bg J<|K (eh (D J) (D J))<|bD 1 g9 J<|aU<|aR bR kd J<|bc ?_;exact bY (ae (an.mk n.Op (IntKind.i64.wrap (n.A+by1)) n.B n.Table n.Kinds n.Left n.Cond n.Keys n.Aggs n.Items n.Order n.Limit) h) (bk J)
  ·refine bH<|bm ?_;exact bY (ae n h) (bk J)

end Go.Proofs.YtbmmihfagmchaaaGreat

