/- eJ of this claim: P4. -/
import Derived.Test.YtpgjgkdpeagjbaaGreatDoorJaT
import Derived.Test.YtpgjgkdpeagjbaaGreatDoorJaP3
set_option linter.all false
namespace Go.Proofs.YtpgjgkdpeagjbaaGreatDoor
open Go
set_option maxRecDepth 100000

def X6(b:Nat)(ix:OI) c{R}(h:s6 c=some R):Ev aU 69 [tV (ba b 0)] (fJ b c ix) (fun(x:Int×Bool)=>[bD x.1,gM x.2]) R (fJ b):=by
 refine Ev.of Tryz.func69 J J J fun w0 S0=>?_;refine(show CG _ _ _ [bx (rH cg [(1,bw (ix.h 0).1 (ix.h 0).2 c.kinds.length),(2,bw (ix.h 1).1 (ix.h 1).2 c.first.length)]) 108 b c,gO sH 39 (ix.h 0).1 (ix.h 0).2 c.kinds,gO cI 3 (ix.h 1).1 (ix.h 1).2 c.first] _ from ?_);exact Z<|T (XH (fun _ _ h=>by rw [show _=_ from h];rfl) (Y J))<|T (bp hV)<|bB<|Z<|gk<|gk<|gk<|MT (O1:=fJ b c ix) (cts:=[bF (rT (tV (ba b 0))) ()]) (caps:=[.tmp 1]) J afF (VV b ix c) ⟨(Y J),O⟩ J fun v fp=>aM J<|so h▸Uv J J

def QM l{R}(h:rX l=some R):bY aU 41 [tD cX l] (tT [bF cg R.1,bD R.2.1,gM R.2.2]):=by
 refine Ph Tryz.func41 J J J fun w0 S0=>Z<|bO J<|aQ (r:=rV) (x:= .pointer none) q5 (fun _=>⟨J,J⟩) J fun b=>aQ (r:=cI) (x:=(0:Int)) cj (fun _=>J) J fun b1=>aQ (r:=rB) (x:=false) zZ (fun _=>J) J fun b2=>bB<|Z<|bn ny J<|T (bM (r:=rH cg [(1,.slice none 0 0),(2,.slice none 0 0)]) (y:=(⟨l,[],[]⟩:aX)) adm adI (zH PH ⟨J,J,O⟩) (⟨_,_,_,_,_,J,aaa Ls J J,J,(Y J),J⟩))<|vI (Y J) J fun b3=>bQ true sH 39<|bQ true cI 3 ?_;refine(show RG _ _ _ _ [_,_,_,_,_,_] _ from ?_);refine aQ (r:=rV) (x:= .pointer none) q5 (fun _=>⟨J,J⟩) J fun b4=>o6 (lC q5 J (oE ah) J (Y J) (hW (Y J) J)) fun i=>?_;refine(show RG _ _ _ _ [_,_,_,_,_,_,_] _ from ?_);refine bB<|Z<|bg mM gi wR J<|ck tm J<|aC J<|aE<|Q J<|T (du (Y J) hI)<|Q J<|aO J (cG J)<|aO J (fun H=>dy (bG J H) hI)<|fj J<|bE h J (fun h=>?_) (fun h=>?_)
 ·refine Z<|T (wq q5 (.head _) (Y J))<|o6 (EffOK.fr6 (lC q5 J (oE ah) J (Y J) (hW (Y J) J))) fun i1=>?_;refine(show RG _ _ _ _ [_,_,_,_,_,_,_] _ from ?_);exact Bz<|dA cj J ah J (Y J) hI<|Bz<|dA zZ J ah J (Y J) hB<|cK<|af<|yG<|Ft<|Db 11 J<|aP<|aB 2 J<|bK<|aB 3 J<|aB 4 J<|aG<|aG<|aG<|uY<|so h▸bq (ts:=[bF cg (⟨l,[],[]⟩:aX),bD 0,gM false]) (rvs:=[.cell 2 83,.cell 3 3,.cell 4 4]) J J ⟨EQ (j:=11) q5 J J,aT cj J J J,aT zZ J J J,O⟩
 ·refine dZ<|aE<|T (wq q5 (.head _) (Y J))<|bu<|gk<|oj<|ci h fun it q_it h=>Q4 (fJ b3 (⟨l,[],[]⟩:aX) (oiL [(none,0),(none,0)])) _ J agB (X6 b3 (oiL [(none,0),(none,0)]) (⟨l,[],[]⟩:aX) q_it) ⟨(Y J),O⟩ J fun v fp=>bB<|am<|ci h fun r q_r h=>?_;refine KY (fun(ix:Bool×Int×Bool)=>[bx rV 83 b4 (ba b3 0),bx rB 4 b2 ix.1,bx cI 3 b1 ix.2.1,bx rV 83 b (bif ix.2.2 then ba b3 0 else .pointer none)]) (fun(ix:Bool×Int×Bool)=>(ix.1,ix.2.1,ix.2.2)) (fun _=> .ret) J (Y J) (false,(0:Int),false) J q_r (fun _=>J) J (fun ix x r1 h lp rec1 _ _ _=>?_) (fun i2 j hi bd=>⟨fun hj=>?_,fun _ hj=>?_⟩)
  ·obtain⟨x1,x2,p⟩:=ix
   replace h:rn x x1 x2 p=some r1:=h
   refine(show CG _ _ _ [vb lp rec1 .ready none,bx rV 83 b4 (ba b3 0),bx rB 4 b2 x1,bx cI 3 b1 x2,bx rV 83 b (bif p then ba b3 0 else .pointer none)] _ from ?_);refine I9 (G' :=[(0,tD cX l),(1,bF cX l),(2,tV (ba b 0)),(3,tV (ba b1 0)),(4,tV (ba b2 0)),(5,tV (ba b4 0)),(6,kP l.Nodes),(9,tD cX l),(10,tD (rH cg [(1,.slice none 0 0),(2,.slice none 0 0)]) (⟨l,[],[]⟩:aX)),(11,tV (ba b3 0)),(12,bF (f9 aW) l.Nodes),(13,cr (aW) l.Nodes),(14,kP l.Nodes),(15,kP l.Nodes),(16,gM (decide ((l.Nodes.length:Int)<(1:Int)))),(17,gM (decide ((l.Nodes.length:Int)<(1:Int)))),(18,nK (!(decide ((l.Nodes.length:Int)<(1:Int)))) (kP l.Nodes)),(19,nK (!(decide ((l.Nodes.length:Int)<(1:Int)))) (gM (decide ((60:Int)<(l.Nodes.length:Int))))),(20,gM ((decide ((l.Nodes.length:Int)<(1:Int)))||(decide ((60:Int)<(l.Nodes.length:Int))))),(22,tV (ba b3 0)),(24,bD x.1),(25,gM x.2)]) ?_ ⟨J,J,J,J,J,J,J,J,J,J,J,J,J,J,J,J,J,J,J,J,J,J,O⟩;refine Z<|aC J<|au<|dC J<|aY<|Lb<|am<|ax J<|T (dY (Y J))<|bE h J (fun h=>?_) (fun h=>?_)
   ·refine Z<|T (wq q5 (.tail _ (.head _)) (Y J))<|Q J<|o6 (EffOK.fr4 (lC q5 J (oE ah) J (Y J) (hW (Y J) J))) fun i3=>?_;refine(show RG _ _ _ _ [_,_,_,_,_] _ from ?_);exact BB<|be cj ah J<|BB<|dA zZ J ah J (Y J) hB<|cK<|lq<|aP<|aP<|aP<|hJ<|hJ<|so h▸EC 0 J (false,x.1,true) J J
   ·exact bc<|ay<|so h▸zC (x1,x2,p) J J
  ·skip
   obtain⟨x3,x4,p1⟩:=i2
   obtain rfl:x3=r.1.2.1:=congrArg (fun q:Bool×Int×Bool=>q.1) hi
   obtain rfl:x4=r.1.2.2.1:=congrArg (fun q:Bool×Int×Bool=>q.2.1) hi
   obtain rfl:p1=r.1.2.2.2:=congrArg (fun q:Bool×Int×Bool=>q.2.2) hi
   have h:=ct h (by rw [hj];rfl);refine(show AT _ _ _ [E9 bd,bx (rH cg [(1,bw (j.h 0).1 (j.h 0).2 r.2.kinds.length),(2,bw (j.h 1).1 (j.h 1).2 r.2.first.length)]) 108 b3 r.2,gO sH 39 (j.h 0).1 (j.h 0).2 r.2.kinds,gO cI 3 (j.h 1).1 (j.h 1).2 r.2.first,bx rV 83 b4 (ba b3 0),bx rB 4 b2 r.1.2.1,bx cI 3 b1 r.1.2.2.1,bx rV 83 b (bif r.1.2.2.2 then ba b3 0 else .pointer none)] _ from ?_);refine ce (G' :=[(0,tD cX l),(1,bF cX l),(2,tV (ba b 0)),(3,tV (ba b1 0)),(4,tV (ba b2 0)),(5,tV (ba b4 0)),(6,kP l.Nodes),(9,tD cX l),(10,tD (rH cg [(1,.slice none 0 0),(2,.slice none 0 0)]) (⟨l,[],[]⟩:aX)),(11,tV (ba b3 0)),(12,bF (f9 aW) l.Nodes),(13,cr (aW) l.Nodes),(14,kP l.Nodes),(15,kP l.Nodes),(16,gM (decide ((l.Nodes.length:Int)<(1:Int)))),(17,gM (decide ((l.Nodes.length:Int)<(1:Int)))),(18,nK (!(decide ((l.Nodes.length:Int)<(1:Int)))) (kP l.Nodes)),(19,nK (!(decide ((l.Nodes.length:Int)<(1:Int)))) (gM (decide ((60:Int)<(l.Nodes.length:Int))))),(20,gM ((decide ((l.Nodes.length:Int)<(1:Int)))||(decide ((60:Int)<(l.Nodes.length:Int))))),(22,tV (ba b3 0))]) ?_ ⟨J,J,J,J,J,J,J,J,J,J,J,J,J,J,J,J,J,J,J,J,O⟩;refine ay<|ap<|aA<|ci h fun e q_e h=>?_
   refine lS 14 [tc (tV (ba b3 0)),tc (kP l.Nodes),tc (bD (IntKind.i64.wrap ((l.Nodes.length:Int)-(1:Int)))),tc (tV (ba b3 0)),tc (tV (ba b3 0)),tc (tV (ba b3 2)),tc (tO cI (j.h 1).1 (j.h 1).2 r.2.first),tc (kP l.Nodes),tc (bD (IntKind.i64.wrap ((l.Nodes.length:Int)-(1:Int)))),tc (bF cI e),tc (bD e),tc (gM (e==(0:Int))),tc (Ap),tc (Ap)] [false,false,false,false,false,false,false,false,false,false,false,false,true,true] [([],fun _=>[E9 bd,bx (rH cg [(1,bw (j.h 0).1 (j.h 0).2 r.2.kinds.length),(2,bw (j.h 1).1 (j.h 1).2 r.2.first.length)]) 108 b3 r.2,gO sH 39 (j.h 0).1 (j.h 0).2 r.2.kinds,gO cI 3 (j.h 1).1 (j.h 1).2 r.2.first,bx rV 83 b4 (ba b3 0),bx rB 4 b2 r.1.2.1,bx cI 3 b1 r.1.2.2.1,bx rV 83 b (bif r.1.2.2.2 then ba b3 0 else .pointer none)]),([12],fun sg=>[bx rV 83 b (ba b3 0),E9 bd,bx (rH cg [(1,bw (j.h 0).1 (j.h 0).2 r.2.kinds.length),(2,bw (j.h 1).1 (j.h 1).2 r.2.first.length)]) 108 b3 r.2,gO sH 39 (j.h 0).1 (j.h 0).2 r.2.kinds,gO cI 3 (j.h 1).1 (j.h 1).2 r.2.first,bx rV 83 b4 (ba b3 0),bx rB 4 b2 r.1.2.1,bx cI 3 b1 r.1.2.2.1]),([12,13],fun sg=>[bx cI 3 b1 (IntKind.i64.wrap ((l.Nodes.length:Int)-(1:Int))),bx rV 83 b (ba b3 0),E9 bd,bx (rH cg [(1,bw (j.h 0).1 (j.h 0).2 r.2.kinds.length),(2,bw (j.h 1).1 (j.h 1).2 r.2.first.length)]) 108 b3 r.2,gO sH 39 (j.h 0).1 (j.h 0).2 r.2.kinds,gO cI 3 (j.h 1).1 (j.h 1).2 r.2.first,bx rV 83 b4 (ba b3 0),bx rB 4 b2 r.1.2.1])] (fun _=>J) mixed J J J J
    ⟨⟨[⟨5,fun _=>tV (ba b4 0),none⟩],_,[[]],J,⟨(fun _=>J),O⟩,J,J,J,J,J,⟨fun sg=>ai J (wq q5 (.tail _ (.tail _ (.tail _ (.tail _ (.head _))))) (Y J)),O⟩⟩,
    ⟨⟨[⟨6,fun _=>tD cI (l.Nodes.length:Int),none⟩],_,[[],[12]],J,⟨(fun _=>J),O⟩,J,J,J,J,J,⟨fun sg=>ai J (gL J),fun sg=>ai J (gL J),O⟩⟩,
    ⟨⟨[⟨31,fun _=>tD cI (l.Nodes.length:Int),some 1⟩],_,[[],[12]],J,⟨(fun _=>J),O⟩,J,J,J,J,J,⟨fun sg=>ai J (dX (Y J) hI),fun sg=>ai J (dX (Y J) hI),O⟩⟩,
    ⟨⟨[⟨5,fun _=>tV (ba b4 0),none⟩],_,[[],[12],[12,13]],J,⟨(fun _=>J),O⟩,J,J,J,J,J,⟨fun sg=>ai J (wq q5 (.tail _ (.tail _ (.tail _ (.tail _ (.head _))))) (Y J)),fun sg=>ai J (wq q5 (.tail _ (.tail _ (.tail _ (.tail _ (.tail _ (.head _)))))) (Y J)),fun sg=>ai J (wq q5 (.tail _ (.tail _ (.tail _ (.tail _ (.tail _ (.tail _ (.head _))))))) (Y J)),O⟩⟩,
    ⟨⟨[⟨33,fun _=>tV (ba b3 0),some 3⟩],_,[[],[12],[12,13]],J,⟨(fun _=>J),O⟩,J,J,J,J,J,⟨fun sg=>ai J (ee (Y J)),fun sg=>ai J (ee (Y J)),fun sg=>ai J (ee (Y J)),O⟩⟩,
    ⟨⟨[⟨34,fun _=>tV (ba b3 0),some 4⟩],_,[[],[12],[12,13]],J,⟨(fun _=>J),O⟩,J,J,J,J,J,⟨fun sg=>ai J (tp 2 uv J J J),fun sg=>ai J (tp 2 uv J J J),fun sg=>ai J (tp 2 uv J J J),O⟩⟩,
    ⟨⟨[⟨35,fun _=>tV (ba b3 2),some 5⟩],_,[[],[12],[12,13]],J,⟨(fun _=>J),O⟩,J,J,J,J,J,⟨fun sg=>ai J (eD eQ J (.tail _ (.head _)) (.tail _ (.tail _ (.tail _ (.head _)))) (Y J)),fun sg=>ai J (eD eQ J (.tail _ (.tail _ (.head _))) (.tail _ (.tail _ (.tail _ (.tail _ (.head _))))) (Y J)),fun sg=>ai J (eD eQ J (.tail _ (.tail _ (.tail _ (.head _)))) (.tail _ (.tail _ (.tail _ (.tail _ (.tail _ (.head _)))))) (Y J)),O⟩⟩,
    ⟨⟨[⟨6,fun _=>tD cI (l.Nodes.length:Int),none⟩],_,[[],[12],[12,13]],J,⟨(fun _=>J),O⟩,J,J,J,J,J,⟨fun sg=>ai J (gL J),fun sg=>ai J (gL J),fun sg=>ai J (gL J),O⟩⟩,
    ⟨⟨[⟨37,fun _=>tD cI (l.Nodes.length:Int),some 7⟩],_,[[],[12],[12,13]],J,⟨(fun _=>J),O⟩,J,J,J,J,J,⟨fun sg=>ai J (dX (Y J) hI),fun sg=>ai J (dX (Y J) hI),fun sg=>ai J (dX (Y J) hI),O⟩⟩,
    ⟨⟨[⟨36,fun _=>tO cI (j.h 1).1 (j.h 1).2 r.2.first,some 6⟩,⟨38,fun _=>tD cI (IntKind.i64.wrap ((l.Nodes.length:Int)-(1:Int))),some 8⟩],_,[[],[12],[12,13]],J,⟨(fun _=>J),(fun _=>J),O⟩,J,J,J,J,J,⟨fun sg=>ai J (bm fz cj J (km (Y J)) (Y J) q_e),fun sg=>ai J (bm fz cj J (km (Y J)) (Y J) q_e),fun sg=>ai J (bm fz cj J (km (Y J)) (Y J) q_e),O⟩⟩,
    ⟨⟨[⟨39,fun _=>bF cI e,some 9⟩],_,[[],[12],[12,13]],J,⟨(fun _=>J),O⟩,J,J,J,J,J,⟨fun sg=>ai J (nE cj J J),fun sg=>ai J (nE cj J J),fun sg=>ai J (nE cj J J),O⟩⟩,
    ⟨⟨[⟨40,fun _=>tD cI e,some 10⟩],_,[[],[12],[12,13]],J,⟨(fun _=>J),O⟩,J,J,J,J,J,⟨fun sg=>ai J (Uy J),fun sg=>ai J (Uy J),fun sg=>ai J (Uy J),O⟩⟩,
    ⟨⟨[⟨2,fun _=>tV (ba b 0),none⟩,⟨30,fun _=>tV (ba b3 0),some 0⟩],_,[([],[12])],J,⟨(fun _=>J),(fun _=>J),O⟩,J,J,J,J,J,⟨fun sg=>dS J (EffOK.fr7 (lC q5 J (oE ah) J (Y J) (hW (Y J) J))),O⟩⟩,
    ⟨⟨[⟨3,fun _=>tV (ba b1 0),none⟩,⟨32,fun _=>tD cI (IntKind.i64.wrap ((l.Nodes.length:Int)-(1:Int))),some 2⟩],_,[([12],[12,13])],J,⟨(fun _=>J),(fun _=>J),O⟩,J,J,J,J,J,⟨fun sg=>dS J (EffOK.fr7 (lC cj J (oE ah) J (Y J) (Y J))),O⟩⟩,
    O⟩⟩⟩⟩⟩⟩⟩⟩⟩⟩⟩⟩⟩⟩ (fun sg=>?_)
   refine(show RG _ _ _ _ [_,_,_,_,_,_,_,_] _ from ?_);exact Ui<|be zZ ah J<|cK<|hJ<|Ft<|Db 11 J<|aP<|aB 2 J<|bK<|aB 3 J<|aB 4 J<|bK<|aG<|bK<|aG<|bK<|aG<|EB<|uY<|so h▸bq (ts:=[bF cg r.2,bD (IntKind.i64.wrap ((l.Nodes.length:Int)-(1:Int))),gM (e==(0:Int))]) (rvs:=[.cell 2 83,.cell 3 3,.cell 4 4]) J J ⟨EQ (j:=11) q5 J J,aT cj J J J,aT zZ J J J,O⟩
  ·skip
   obtain⟨x5,x6,p2⟩:=i2
   obtain rfl:x5=r.1.2.1:=congrArg (fun q:Bool×Int×Bool=>q.1) hi
   obtain rfl:x6=r.1.2.2.1:=congrArg (fun q:Bool×Int×Bool=>q.2.1) hi
   obtain rfl:p2=r.1.2.2.2:=congrArg (fun q:Bool×Int×Bool=>q.2.2) hi
   have h:=cf h (by rw [hj];rfl);refine(show CG _ _ _ [E9 bd,bx (rH cg [(1,bw (j.h 0).1 (j.h 0).2 r.2.kinds.length),(2,bw (j.h 1).1 (j.h 1).2 r.2.first.length)]) 108 b3 r.2,gO sH 39 (j.h 0).1 (j.h 0).2 r.2.kinds,gO cI 3 (j.h 1).1 (j.h 1).2 r.2.first,bx rV 83 b4 (ba b3 0),bx rB 4 b2 r.1.2.1,bx cI 3 b1 r.1.2.2.1,bx rV 83 b (bif r.1.2.2.2 then ba b3 0 else .pointer none)] _ from ?_);refine I9 (G' :=[(0,tD cX l),(1,bF cX l),(2,tV (ba b 0)),(3,tV (ba b1 0)),(4,tV (ba b2 0)),(5,tV (ba b4 0)),(6,kP l.Nodes),(9,tD cX l),(10,tD (rH cg [(1,.slice none 0 0),(2,.slice none 0 0)]) (⟨l,[],[]⟩:aX)),(11,tV (ba b3 0)),(12,bF (f9 aW) l.Nodes),(13,cr (aW) l.Nodes),(14,kP l.Nodes),(15,kP l.Nodes),(16,gM (decide ((l.Nodes.length:Int)<(1:Int)))),(17,gM (decide ((l.Nodes.length:Int)<(1:Int)))),(18,nK (!(decide ((l.Nodes.length:Int)<(1:Int)))) (kP l.Nodes)),(19,nK (!(decide ((l.Nodes.length:Int)<(1:Int)))) (gM (decide ((60:Int)<(l.Nodes.length:Int))))),(20,gM ((decide ((l.Nodes.length:Int)<(1:Int)))||(decide ((60:Int)<(l.Nodes.length:Int))))),(22,tV (ba b3 0))]) ?_ ⟨J,J,J,J,J,J,J,J,J,J,J,J,J,J,J,J,J,J,J,J,O⟩;exact fD<|bT<|ci h fun u q_u h=>WV (O' :=[E9 bd,bx (rH cg [(1,bw (j.h 0).1 (j.h 0).2 r.2.kinds.length),(2,bw (j.h 1).1 (j.h 1).2 r.2.first.length)]) 108 b3 r.2,gO sH 39 (j.h 0).1 (j.h 0).2 r.2.kinds,gO cI 3 (j.h 1).1 (j.h 1).2 r.2.first,bx rV 83 b4 (ba b3 0),bx rB 4 b2 r.1.2.1,bx cI 3 b1 r.1.2.2.1,bx rV 83 b (ba b3 0)]) (by rw [show r.1.2.2.2=true from Vv q_u];rfl)<|bK<|Ft<|Db 11 J<|yG<|aB 2 J<|La<|aB 3 J<|hJ<|aB 4 J<|bK<|aG<|bK<|aG<|bK<|aG<|EB<|uY<|so h▸bq (ts:=[bF cg r.2,bD r.1.2.2.1,gM r.1.2.1]) (rvs:=[.cell 2 83,.cell 3 3,.cell 4 4]) J J ⟨EQ (j:=11) q5 J J,aT cj J J J,aT zZ J J J,O⟩

def VQ l{R}(h:uP l=some R):bY aU 21 [tD cX l] (tT [bD R.1,bD R.2]):=by
 refine co Tryz.func21 J<|Z<|bO J<|bh<|bh<|bB<|Z<|bn ny J<|bS h acU (QM _) (bj J) fun r h=>Q J<|bv J J<|bv J J<|bv J J<|dC J<|dC J<|aC J<|aA<|aA ?_;refine au<|Q J<|T (dY (Y J))<|bE h J (fun h=>?_) (fun h=>?_)
 ·exact ax J<|dC J<|cd<|af<|so h▸bH J J J
 ·exact dZ<|Z<|bh<|cd<|so h▸bH J J J

def aci rows kinds{R}(h:uT rows kinds=some R):bY aU 33 [cr (cu) rows,kq kinds] (gM R):=by
 refine co Tryz.func33 J<|Z<|ca<|bB<|aE<|Q J<|ck eK J<|T (dy (Y J) hI)<|bE h J (fun h=>?_) (fun h=>?_)
 ·exact Z<|ca<|cK<|af<|so h▸av J J
 ·refine dZ<|aE<|Q J<|ck eK J<|T (cv hI)<|bB<|am<|aZ (k:=12) J fun hN=>bA ?_;refine aD (eI (aF:=fun ls i=>(rows.drop i=ls)/\oe kinds ls=some R) (Of:=fun _ i=>[]) (Gf:=fun _ i=>[(1,kq kinds),(12,cr (cu) rows),(13,kP rows),(14,bD (i:Int))]) (fun i h=>?_) (fun e tl ih i h=>?_) rows 0 ⟨J,h⟩) (bf J)
  ·obtain⟨V,h⟩:=h
   exact eY V J<|ap<|Z<|ca<|cK<|so h▸av J J
  ·obtain⟨V,h⟩:=h
   refine eX V J<|aA<|am<|Z<|cW eK cP J (cD V)<|aC J<|aE<|Q J<|ck nD J ?_;refine Q J<|ck fz J<|T (d6 (Y J) (Y J))<|bE h J (fun h=>?_) (fun h=>?_)
   ·exact Z<|ca<|cK<|af<|bT<|af<|bT<|so h▸av J J
   ·refine dZ<|ax J<|ck nD J<|T (cv hI)<|bB<|am<|aZ (k:=23) J fun hN1=>bA ?_;refine aD (eI (aF:=fun ls1 i1=>(e.drop i1=ls1)/\od kinds (oe kinds tl) ls1 i1=some R) (Of:=fun _ i1=>[]) (Gf:=fun _ i1=>[(1,kq kinds),(12,cr (cu) rows),(13,kP rows),(14,bD (i:Int)),(23,cr (ae) e),(24,kP e),(25,bD (i1:Int))]) (fun i1 h=>?_) (fun e1 tl1 ih1 i1 h=>?_) e 0 ⟨J,h⟩) (bf J)
    ·obtain⟨hx1,h⟩:=h
     refine eY hx1 J<|dR V hN J ?_;exact aR (aD (ih (i+1) ⟨cH V,h⟩) (bf J))
    ·obtain⟨hx1,h⟩:=h
     refine eX hx1 J<|aA<|am<|ax J<|cW nD an J (cD hx1)<|aQ an aL J fun b=>dC J<|be an ah J<|aV 8 J<|bB<|aA ?_;refine ci h fun r q_r h=>ci h fun t q_t h=>?_
     obtain⟨t1,h1t,h0t⟩:=og q_t
     have q_t1g:=fun M=>(h1t M).1
     obtain⟨e2,h1t1,h0t1⟩:=og3 q_t1g
     have q_e2g:=fun M=>(h1t1 M).1
     refine iQ (ts:=[_,_,_,_,_,_,_,_,_,_,_,_,_,_,_,_,_]) mixed J J
      ⟨jH 8 J J (nE an J J),
      ⟨cT 30 0 J J (bo Wg (Ir _ q_r) ⟨(Y J),O⟩),
      ⟨cT 31 1 J J (zni J),
      ⟨cT 32 2 J J (gL J),
      ⟨jF 8 33 3 J J J (gV J J J J (fun H=>ic cY bC J J)),
      ⟨fq 34 4 33 3 J J J (gV J J J J (fun H=>cJ cj J J (bG J H))),
      ⟨fq 35 5 33 3 J J J (gV J J J J (fun H=>d6 (bG J H) hI)),
      ⟨fq 36 6 33 3 J J J (gV J J J J (fun H=>cv (bG J H))),
      ⟨jF 8 37 7 J J J (pZ J J J J (fun H=>ic cY bC J J)),
      ⟨fq 38 8 37 7 J J J (pZ J J J J (fun H=>cJ cj J J (bG J H))),
      ⟨jF 1 37 7 J J J (pZ J J J J (fun H=>gL J)),
      ⟨jF 7 37 7 J J J (pZ J J J J (fun H=>gL J)),
      ⟨lZ 40 10 41 11 37 7 J J J J (pZ J J J J (fun H=>bm fz cj J (bG J H) (bG J H) (q_e2g H))),
      ⟨fq 42 12 37 7 J J J (pZ J J J J (fun H=>cJ cj J J (bG J H))),
      ⟨lZ 39 9 43 13 37 7 J J J J (pZ J J J J (fun H=>d6 (bG J H) (bG J H))),
      ⟨lZ 37 7 44 14 33 3 J J J J (gV J J J J (fun H=>cQ (bG J H) (fun M=>(bG J (nC H M))) (fun M=>(h1t1 (nC H M)).2) (fun M=>h0t1 H M))),
      ⟨cM 33 3 45 15 J J J (eC (Y J) (fun M=>(bG J (pQ M))) (fun M=>(h1t M).2) h0t),
      O⟩⟩⟩⟩⟩⟩⟩⟩⟩⟩⟩⟩⟩⟩⟩⟩⟩ ?_
     refine ap<|gp h J (fun h=>?_) (fun h=>?_)
     ·exact Z<|ca<|cK<|bT<|af<|lq<|bT<|af<|bT<|so h▸av J J
     ·refine bc<|dR hx1 hN1 J ?_;exact aR (aD (ih1 (i1+1) ⟨cH hx1,h⟩) (bf J))

def aaj l b{R}(h:qA l b=some R):bY aU 9 [tD cX l,tD fX b] (gM R):=by
 refine co Tryz.func9 J<|Z<|bO J<|bO J<|ca<|bB<|aE<|bn ny J<|bS h aeM (VQ _) (bj J) fun r h=>Q J<|bv J J<|bv J J<|dC J<|aC J<|ax J ?_;refine eN J<|bE h J (fun h=>?_) (fun h=>?_)
 ·exact Z<|ca<|cK<|af<|so h▸av J J
 ·refine dZ<|aE<|bg mM gi wR J<|ck tm J<|T (cv hI)<|bB<|am<|aZ (k:=17) J fun hN=>bA ?_;refine aD (eI (aF:=fun ls i=>(l.Nodes.drop i=ls)/\qz b ls=some R) (Of:=fun _ i=>[]) (Gf:=fun _ i=>[(3,bF fX b),(17,cr (aW) l.Nodes),(18,kP l.Nodes),(19,bD (i:Int))]) (fun i h=>?_) (fun e tl ih i h=>?_) l.Nodes 0 ⟨J,h⟩) (bf J)
  ·obtain⟨V,h⟩:=h
   exact eY V J<|ap<|Z<|ca<|cK<|so h▸av J J
  ·obtain⟨V,h⟩:=h
   refine eX V J<|aA<|am<|Z<|cW tm iE J (cD V)<|aQ iE mS J fun b1=>be iE ah J<|aV 8 J<|bB<|aA<|ci h fun t q_t h=>?_
   obtain⟨t1,h1t,h0t⟩:=og q_t
   have q_t1g:=fun M=>(h1t M).1
   obtain⟨e1,h1t1,h0t1⟩:=og3 q_t1g
   have q_e1g:=fun M=>(h1t1 M).1
   obtain⟨r1,h1t1⟩:=RI (fun M=>(h1t1 M).2)
   have q_r1g:=fun M=>(h1t1 M).1
   refine iQ (ts:=[_,_,_,_,_,_,_,_,_,_,_,_,_,_,_,_,_,_,_,_,_,_,_]) mixed J J
    ⟨jH 8 J J (ic oN gJ J J),
    ⟨dh 0 cj J J,
    ⟨cT 24 1 J J (Uy J),
    ⟨cT 25 2 J J (gL J),
    ⟨jF 8 26 3 J J J (bU J J J J (fun H=>ic qX jp J J)),
    ⟨fq 27 4 26 3 J J J (bU J J J J (fun H=>cJ cj J J (bG J H))),
    ⟨jF 3 26 3 J J J (bU J J J J (fun H=>ic oO jB J J)),
    ⟨fq 29 6 26 3 J J J (bU J J J J (fun H=>cJ q6 J J (bG J H))),
    ⟨fq 30 7 26 3 J J J (bU J J J J (fun H=>kZ lr (bG J H))),
    ⟨lZ 28 5 31 8 26 3 J J J J (bU J J J J (fun H=>eF (bG J H) (bG J H))),
    ⟨fq 32 9 26 3 J J J (bU J J J J (fun H=>cv (bG J H))),
    ⟨jF 3 33 10 J J J (ln J J J J (fun H=>ic oO jB J J)),
    ⟨fq 34 11 33 10 J J J (ln J J J J (fun H=>cJ q6 J J (bG J H))),
    ⟨jF 8 33 10 J J J (ln J J J J (fun H=>ic qX jp J J)),
    ⟨fq 36 13 33 10 J J J (ln J J J J (fun H=>cJ cj J J (bG J H))),
    ⟨lZ 35 12 37 14 33 10 J J J J (ln J J J J (fun H=>bm lr gb J (bG J H) (bG J H) (q_e1g H))),
    ⟨fq 38 15 33 10 J J J (ln J J J J (fun H=>cJ gb J J (bG J H))),
    ⟨jF 8 33 10 J J J (ln J J J J (fun H=>ic pU iZ J J)),
    ⟨fq 40 17 33 10 J J J (ln J J J J (fun H=>cJ eQ J J (bG J H))),
    ⟨lZ 39 16 41 18 33 10 J J J J (ln J J J J (fun H=>bo agV (aci _ _ (q_r1g H)) ⟨(bG J H),(bG J H),O⟩)),
    ⟨fq 42 19 33 10 J J J (ln J J J J (fun H=>dY (bG J H))),
    ⟨lZ 33 10 43 20 26 3 J J J J (bU J J J J (fun H=>eC (bG J H) (fun M=>(bG J (nC H (pQ M)))) (fun M=>(h1t1 (nC H M)).2) (fun M=>h0t1 H M))),
    ⟨cM 26 3 44 21 J J J (cQ (Y J) (fun M=>(bG J M)) (fun M=>(h1t M).2) h0t),
    O⟩⟩⟩⟩⟩⟩⟩⟩⟩⟩⟩⟩⟩⟩⟩⟩⟩⟩⟩⟩⟩⟩⟩ ?_
   refine ap<|gp h J (fun h=>?_) (fun h=>?_)
   ·exact Z<|ca<|cK<|bT<|af<|bT<|so h▸av J J
   ·refine bc<|dR V hN J ?_;exact aR (aD (ih (i+1) ⟨cH V,h⟩) (bf J))

def adX(b:Nat)(ix:OI) r n{R}(h:mO r n=some R):ea aU 22 [tV (ba b 0),tD aW n] (lM b r ix) (fun _:OI=>tT [cr (cu) R.1,bD R.2]) (fun _=>(lM b r ix)):=by
 refine ea.of Tryz.func22 J J J fun w0 S0=>?_;refine(show CG _ _ _ [bx (rH hX [(1,bw (ix.h 0).1 (ix.h 0).2 r.rows.length),(2,bw (ix.h 1).1 (ix.h 1).2 r.width.length)]) 65 b r,gO ei 32 (ix.h 0).1 (ix.h 0).2 r.rows,gO cI 3 (ix.h 1).1 (ix.h 1).2 r.width] _ from ?_);refine Z<|bO J<|dO (cu)<|bh<|bB<|aA<|ci h fun e q_e h=>?_
 refine iQ (ts:=[_,_,_,_,_,_,_,_,_,_,_]) mixed J J
  ⟨dc J J,
  ⟨cT 6 0 J J (ee (Y J)),
  ⟨cT 7 1 J J (tp 0 abL J J J),
  ⟨cT 8 2 J J (tp 0 oO J J J),
  ⟨cT 9 3 J J (bR (r:=rH hX [(1,bw (ix.h 0).1 (ix.h 0).2 r.rows.length),(2,bw (ix.h 1).1 (ix.h 1).2 r.width.length)]) (x:=r) q6 J J (XZ (yq VF jB)) (.head _) (Y J)),
  ⟨jH 3 J J (ic qX jp J J),
  ⟨dh 5 cj J J,
  ⟨cM 10 4 12 6 J J J (zW lr gb J J J q_e),
  ⟨dh 7 gb J J,
  ⟨cT 14 8 J J (sE J),
  ⟨PI J (Z2),
  O⟩⟩⟩⟩⟩⟩⟩⟩⟩⟩⟩ ?_
 exact ap<|fD<|aP<|aP<|aP<|so h▸fS (ts:=[cr (cu) e,bD 0]) (rvs:=[.tmp 4,.tmp 5]) J J ⟨aN J,aN J,O⟩ sF J J

def X5 n{R}(h:i8 n=some R):fR aU 72 [tV (.slice none 0 0),bD n] false ae 57 R:=by
 refine fR.of Tryz.func72 J J J fun w0 S0=>Z<|bQ false ae 57<|T (bp qa)<|bB ?_;refine yF (aF:=jM n=some R) (Of:=[]) (Gf:=[(0,tV (.slice none 0 0)),(1,bD n)]) (fun h=>?_) (fun h2=>?_)
 ·skip
  refine vY (aF:=fun s l c=>jL s=some R) (Of:=fun s l c=>[ff ae 57 l c s]) (Gf:=fun s l c=>[(0,my l c s)]) (fun s l c h=>?_) (fun K1=>?_)
  ·skip
   exact ax J<|aM J<|so h▸fY J J
  ·skip
   refine ax J<|Q J<|T (vS nD (Y J))<|Q J<|T (vR nD (Y J))<|T (dX (Y J) (Y J))<|T (dX (Y J) (Y J))<|aC J<|ax J<|T (dy (Y J) hI)<|bE h J (fun h=>?_) (fun h=>?_)
   ·refine au<|Q J<|Q J<|T (vS nD (Y J))<|T (AI nD an (Y J) (Y J))<|Q J<|ci h fun u q_u h=>ci h fun mk q_mk h=>C3 (AX (r:=ae) (x:=vn) an J J J J nD mK (fun _=>aL _) (Y J) (Y J) (Ib q_u) q_mk) J fun i=>Q J<|T (vR nD (Y J))<|ci h fun y q_y h=>T (mj nD an J (.head _) (Y J) (Y J) q_y)<|xJ q_y<|dC J<|aY ?_;exact ce (K1 y (i.h 0).1 (i.h 0).2 h) (bf J)
   ·refine bc<|Ja false ae 57 ?_;exact ce (K1 EH none 0 h) (bf J)
 ·skip
  refine ax J<|T (du (Y J) hI)<|bE h J (fun h=>?_) (fun h=>?_)
  ·refine au ?_;exact(nn h).elim
  ·refine bc<|aG ?_;exact ce (h2 h) (bf J)
def R5 slices{R}(h:eW slices=some R):fR aU 44 [cr (cu) slices] false ae 57 R:=by
 refine fR.of Tryz.func44 J J J fun w0 S0=>Z<|bQ false ae 57<|T (bp qa)<|bB<|Z<|bh<|bB<|aE<|Q J<|ck eK J<|T (cv hI)<|bB<|am<|aZ (k:=9) J fun hN=>bA<|mI ?_;refine aD (ol (aF:=fun ls i size=>(slices.drop i=ls)/\gD slices ls size=some R) (Of:=fun _ i size=>[]) (Gf:=fun _ i size=>[(0,cr (cu) slices),(3,bD size),(9,cr (cu) slices),(10,kP slices),(11,bD (i:Int))]) (fun i size h=>?_) (fun e tl ih i size h=>?_) slices 0 (0:Int) ⟨J,h⟩) (bf J)
 ·obtain⟨V,h⟩:=h
  refine eY V J<|ap<|ax J<|lI h agy (X5 _) ⟨hV,(Y J),O⟩ fun r h l c=>aC J<|aE ?_;refine Q J<|ck eK J<|T (cv hI)<|bB<|am<|aZ (k:=25) J fun hN1=>bA ?_;refine aD (iR (aF:=fun ls1 i1 newslice l1 c1=>(slices.drop i1=ls1)/\gC ls1 newslice=some R) (Of:=fun _ i1 newslice l1 c1=>[ff ae 57 l1 c1 newslice]) (Gf:=fun _ i1 newslice l1 c1=>[(6,my l1 c1 newslice),(25,cr (cu) slices),(26,kP slices),(27,bD (i1:Int))]) (fun i1 newslice l1 c1 h=>?_) (fun e1 tl1 ih1 i1 newslice l1 c1 h=>?_) slices 0 r l c ⟨J,h⟩) (bf J)
  ·obtain⟨hx1,h⟩:=h
   exact eY hx1 J<|ap<|ax J<|aM J<|so h▸fY J J
  ·obtain⟨hx1,h⟩:=h
   refine eX hx1 J<|aA<|am<|Z<|cW eK cP J (cD hx1)<|aC J<|au<|Q J<|Q J<|ci h fun newslice1 q_newslice1 h=>bW an J J J J nD J J (Y J) (Y J) q_newslice1 fun l2 c2=>?_;refine dC J<|aY<|dR hx1 hN1 J ?_;exact aR (aD (ih1 (i1+1) newslice1 l2 c2 ⟨cH hx1,h⟩) (bf J))
 ·obtain⟨V,h⟩:=h
  refine eX V J<|aA<|am<|Z<|cW eK cP J (cD V)<|aC J<|ax J<|Q J<|ck nD J ?_;refine T (eG (Y J) (Y J))<|aC J<|ax J<|T (du (Y J) hI)<|bE h J (fun h=>?_) (fun h=>?_)
  ·refine au ?_;exact(nn h).elim
  ·refine bc<|dR V hN J ?_;exact aR (aD (ih (i+1) (IntKind.i64.wrap (size+(e.length:Int))) ⟨cH V,h⟩) (bf J))
def acd slices{R}(h:eW slices=some R):bY aU 44 [cr (cu) slices] (cr (ae) R):=(R5 _ h).spec

def ab0(a1:(List (List ac)))(b:(List (List ac))):C8 aU 70 (fun(x:Int×(List ac))=>[bD x.1,cr (ae) x.2]) (fun _=>oc a1 b) [] [bF ei a1,bF ei b]:=by
 refine C8.of Tryz.func70 J J J fun Sg yld s R h h1 yv hy e he w0 S0 B hB=>?_
 replace h:oc a1 b yld s=some R:=h
 refine Z<|bn gb J<|ck eK J<|T (cv hI)<|bB<|am<|aZ (k:=8) J fun hN=>bA ?_;refine aD (yC (aF:=fun ls i e1 s1=>(a1.drop i=ls)/\h1 s1 e1/\fk b yld ls i s1=some R) (Of:=fun _ i e1 s1=>[e1]) (Gf:=fun _ i e1 s1=>[(0,tV yv),(2,bF ei b),(8,cr (cu) a1),(9,kP a1),(10,bD (i:Int))]) (fun i e1 s1 h=>?_) (fun e2 tl ih i e1 s1 h=>?_) a1 0 e s ⟨J,⟨he,h⟩⟩) (bf J)
 ·obtain⟨V,h⟩:=h
  obtain⟨he1,h⟩:=h
  exact eY V J<|so h▸PC J he1 hB trivial
 ·obtain⟨V,h⟩:=h
  obtain⟨he1,h⟩:=h
  refine eX V J<|aA<|am<|ax J<|cW eK cP J (cD V)<|dC J<|aC J<|Z<|bn gb J ?_;refine ck eK J<|T (cv hI)<|bB<|am<|aZ (k:=15) J fun hN1=>bA ?_;refine aD (yC (aF:=fun ls1 i1 e3 s2=>(b.drop i1=ls1)/\h1 s2 e3/\il yld (fk b yld tl) i e2 ls1 s2=some R) (Of:=fun _ i1 e3 s2=>[e3]) (Gf:=fun _ i1 e3 s2=>[(0,tV yv),(2,bF ei b),(4,bD (i:Int)),(5,cr (ae) e2),(8,cr (cu) a1),(9,kP a1),(10,bD (i:Int)),(15,cr (cu) b),(16,kP b),(17,bD (i1:Int))]) (fun i1 e3 s2 h=>?_) (fun e4 tl1 ih1 i1 e3 s2 h=>?_) b 0 e1 s1 ⟨J,⟨he1,h⟩⟩) (bf J)
  ·obtain⟨hx1,h⟩:=h
   obtain⟨he2,h⟩:=h
   refine eY hx1 J<|dR V hN J ?_;exact aR (aD (ih (i+1) e3 s2 ⟨cH V,⟨he2,h⟩⟩) (bf J))
  ·obtain⟨hx1,h⟩:=h
   obtain⟨he2,h⟩:=h
   refine eX hx1 J<|aA<|am<|Z<|cW eK cP J (cD hx1)<|aC J<|ax J<|Q J<|Q J ?_;refine Q J<|T (aI (r:=cu) (ys:=[e2,e4]) (xs:=[.tmp 23,.tmp 24]) eK cP J J J J J ⟨(Y J),(Y J),O⟩)<|lI h aec (R5 _) (bj J) fun r h l c=>gm<|dn 26 J<|bu<|ci h fun r1 q_r1 h=>IS hy he2 q_r1 (Y J) ⟨(Y J),(km (Y J)),O⟩ J fun e5 he3=>T (dY (Y J))<|bE h J (fun h=>?_) (fun h=>?_)
   ·exact fD<|bT<|af<|lq<|bT<|af<|lq<|bK<|aG<|so h▸MY J he3 hB trivial
   ·refine bc<|dR hx1 hN1 J<|bK<|aG ?_;exact aR (aD (ih1 (i1+1) e5 r1.2 ⟨cH hx1,⟨he3,h⟩⟩) (bf J))

end Go.Proofs.YtpgjgkdpeagjbaaGreatDoor

