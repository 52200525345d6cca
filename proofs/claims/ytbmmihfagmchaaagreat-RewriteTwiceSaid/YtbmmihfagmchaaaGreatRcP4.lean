/- cW of this claim: P4. -/
import Derived.Test.YtbmmihfagmchaaaGreatRcT
import Derived.Test.YtbmmihfagmchaaaGreatRcP3
set_option linter.all false
namespace Go.Proofs.YtbmmihfagmchaaaGreat
open Go
set_option maxRecDepth 100000

def Mg(b:Nat)(ix:OI) c{R}(h:oa c=some R):xp bh 71 [tV (ax b 0)] (dL b c ix) (fun(x:Int×Bool)=>[cE x.1,gC x.2]) R (dL b):=by
 refine xp.of Tryz.func71 M M M fun w0 S0=>?_;refine(show CG _ _ _ [bx (rH bc [(1,aL (ix.h 0).1 (ix.h 0).2 c.kinds.length),(2,aL (ix.h 1).1 (ix.h 1).2 c.first.length)]) 102 b c,hX px 23 (ix.h 0).1 (ix.h 0).2 c.kinds,hX cN 3 (ix.h 1).1 (ix.h 1).2 c.first] _ from ?_);exact aV<|K (LR (fun _ _ h=>by rw [show _=_ from h];rfl) (D M))<|K (bF hV)<|cb<|aV<|dy<|dy<|dy<|Dv (O1:=dL b c ix) (cts:=[bC (rT (tV (ax b 0))) ()]) (caps:=[.tmp 1]) M Sf (Mf b ix c) ⟨(D M),aR⟩ M fun v fp=>bG M<|so h▸I7 M M

def Gw l{R}(h:lY l=some R):cK bh 43 [H ay l] (tT [bC bc R.1,cE R.2.1,gC R.2.2]):=by
 refine K0 Tryz.func43 M M M fun w0 S0=>aV<|dh M<|aA (r:=rV) (x:= .pointer none) nO (fun _=>⟨M,M⟩) M fun b=>aA (r:=cN) (x:=(0:Int)) ck (fun _=>M) M fun b1=>aA (r:=rB) (x:=false) G8 (fun _=>M) M fun b2=>cb<|aV<|bw cQ M<|K (bR (r:=rH bc [(1,.slice none 0 0),(2,.slice none 0 0)]) (y:=(⟨l,[],[]⟩:au)) Qf Qu (zH Fx ⟨M,M,aR⟩) (⟨_,_,_,_,_,M,Qi CP M M,M,(D M),M⟩))<|rN (D M) M fun b3=>bL true px 23<|bL true cN 3 ?_;refine(show RG _ _ _ _ [_,_,_,_,_,_] _ from ?_);refine aA (r:=rV) (x:= .pointer none) nO (fun _=>⟨M,M⟩) M fun b4=>vg (ii nO M (pV ac) M (D M) (hW (D M) M)) fun i=>?_;refine(show RG _ _ _ _ [_,_,_,_,_,_,_] _ from ?_);refine cb<|aV<|bP gq eg nk M<|cA jW M<|aY M<|bl<|bu M<|K (mL (D M) hI)<|bu M<|cw M (fV M)<|cw M (fun T=>uy (df M T) hI)<|nv M<|dv h M (fun h=>?_) (fun h=>?_)
 ·refine aV<|K (qX nO (.head _) (D M))<|vg (EffOK.fr6 (ii nO M (pV ac) M (D M) (hW (D M) M))) fun i1=>?_;refine(show RG _ _ _ _ [_,_,_,_,_,_,_] _ from ?_);exact Cq<|dd ck M ac M (D M) hI<|Cq<|dd G8 M ac M (D M) hB<|da<|an<|Cx<|yp<|wA 11 M<|aJ<|aK 2 M<|bq<|aK 3 M<|aK 4 M<|aN<|aN<|aN<|Bf<|so h▸bI (ts:=[bC bc (⟨l,[],[]⟩:au),cE 0,gC false]) (rvs:=[.cell 2 96,.cell 3 3,.cell 4 4]) M M ⟨xP (j:=11) nO M M,bf ck M M M,bf G8 M M M,aR⟩
 ·refine kF<|bl<|K (qX nO (.head _) (D M))<|aT<|dy<|ek<|cC h fun it q_it h=>GT (dL b3 (⟨l,[],[]⟩:au) (Ov [(none,0),(none,0)])) _ M Sq (Mg b3 (Ov [(none,0),(none,0)]) (⟨l,[],[]⟩:au) q_it) ⟨(D M),aR⟩ M fun v fp=>cb<|av<|cC h fun r q_r h=>?_;refine I3 (fun(ix:Bool×Int×Bool)=>[bx rV 96 b4 (ax b3 0),bx rB 4 b2 ix.1,bx cN 3 b1 ix.2.1,bx rV 96 b (bif ix.2.2 then ax b3 0 else .pointer none)]) (fun(ix:Bool×Int×Bool)=>(ix.1,ix.2.1,ix.2.2)) (fun _=> .ret) M (D M) (false,(0:Int),false) M q_r (fun _=>M) M (fun ix x r1 h lp rec1 _ _ _=>?_) (fun i2 j hi bd=>⟨fun hj=>?_,fun _ hj=>?_⟩)
  ·obtain⟨x1,x2,p⟩:=ix
   replace h:m4 x x1 x2 p=some r1:=h
   refine(show CG _ _ _ [qQ lp rec1 .ready none,bx rV 96 b4 (ax b3 0),bx rB 4 b2 x1,bx cN 3 b1 x2,bx rV 96 b (bif p then ax b3 0 else .pointer none)] _ from ?_);refine Lb (G' :=[(0,H ay l),(1,bC ay l),(2,tV (ax b 0)),(3,tV (ax b1 0)),(4,tV (ax b2 0)),(5,tV (ax b4 0)),(6,jw l.Nodes),(9,H ay l),(10,H (rH bc [(1,.slice none 0 0),(2,.slice none 0 0)]) (⟨l,[],[]⟩:au)),(11,tV (ax b3 0)),(12,bC Bs l.Nodes),(13,gk (ak) l.Nodes),(14,jw l.Nodes),(15,jw l.Nodes),(16,gC (decide ((l.Nodes.length:Int)<(1:Int)))),(17,gC (decide ((l.Nodes.length:Int)<(1:Int)))),(18,lC (!(decide ((l.Nodes.length:Int)<(1:Int)))) (jw l.Nodes)),(19,lC (!(decide ((l.Nodes.length:Int)<(1:Int)))) (gC (decide ((60:Int)<(l.Nodes.length:Int))))),(20,gC ((decide ((l.Nodes.length:Int)<(1:Int)))||(decide ((60:Int)<(l.Nodes.length:Int))))),(22,tV (ax b3 0)),(24,cE x.1),(25,gC x.2)]) ?_ ⟨M,M,M,M,M,M,M,M,M,M,M,M,M,M,M,M,M,M,M,M,M,M,aR⟩;refine aV<|aY M<|aG<|jy M<|bt<|I9<|av<|aZ M<|K (iY (D M))<|dv h M (fun h=>?_) (fun h=>?_)
   ·refine aV<|K (qX nO (.tail _ (.head _)) (D M))<|bu M<|vg (EffOK.fr4 (ii nO M (pV ac) M (D M) (hW (D M) M))) fun i3=>?_;refine(show RG _ _ _ _ [_,_,_,_,_] _ from ?_);exact mG<|aO ck ac M<|mG<|dd G8 M ac M (D M) hB<|da<|yo<|aJ<|aJ<|aJ<|cH<|cH<|so h▸DA 0 M (false,x.1,true) M M
   ·exact cc<|bj<|so h▸DB (x1,x2,p) M M
  ·skip
   obtain⟨x3,x4,p1⟩:=i2
   obtain rfl:x3=r.1.2.1:=congrArg (fun q:Bool×Int×Bool=>q.1) hi
   obtain rfl:x4=r.1.2.2.1:=congrArg (fun q:Bool×Int×Bool=>q.2.1) hi
   obtain rfl:p1=r.1.2.2.2:=congrArg (fun q:Bool×Int×Bool=>q.2.2) hi
   have h:=ct h (by rw [hj];rfl);refine(show AT _ _ _ [GD bd,bx (rH bc [(1,aL (j.h 0).1 (j.h 0).2 r.2.kinds.length),(2,aL (j.h 1).1 (j.h 1).2 r.2.first.length)]) 102 b3 r.2,hX px 23 (j.h 0).1 (j.h 0).2 r.2.kinds,hX cN 3 (j.h 1).1 (j.h 1).2 r.2.first,bx rV 96 b4 (ax b3 0),bx rB 4 b2 r.1.2.1,bx cN 3 b1 r.1.2.2.1,bx rV 96 b (bif r.1.2.2.2 then ax b3 0 else .pointer none)] _ from ?_);refine c9 (G' :=[(0,H ay l),(1,bC ay l),(2,tV (ax b 0)),(3,tV (ax b1 0)),(4,tV (ax b2 0)),(5,tV (ax b4 0)),(6,jw l.Nodes),(9,H ay l),(10,H (rH bc [(1,.slice none 0 0),(2,.slice none 0 0)]) (⟨l,[],[]⟩:au)),(11,tV (ax b3 0)),(12,bC Bs l.Nodes),(13,gk (ak) l.Nodes),(14,jw l.Nodes),(15,jw l.Nodes),(16,gC (decide ((l.Nodes.length:Int)<(1:Int)))),(17,gC (decide ((l.Nodes.length:Int)<(1:Int)))),(18,lC (!(decide ((l.Nodes.length:Int)<(1:Int)))) (jw l.Nodes)),(19,lC (!(decide ((l.Nodes.length:Int)<(1:Int)))) (gC (decide ((60:Int)<(l.Nodes.length:Int))))),(20,gC ((decide ((l.Nodes.length:Int)<(1:Int)))||(decide ((60:Int)<(l.Nodes.length:Int))))),(22,tV (ax b3 0))]) ?_ ⟨M,M,M,M,M,M,M,M,M,M,M,M,M,M,M,M,M,M,M,M,aR⟩;refine bj<|aB<|aI<|cC h fun e q_e h=>?_
   refine jN 14 [tc (tV (ax b3 0)),tc (jw l.Nodes),tc (cE (IntKind.i64.wrap ((l.Nodes.length:Int)-(1:Int)))),tc (tV (ax b3 0)),tc (tV (ax b3 0)),tc (tV (ax b3 2)),tc (tO cN (j.h 1).1 (j.h 1).2 r.2.first),tc (jw l.Nodes),tc (cE (IntKind.i64.wrap ((l.Nodes.length:Int)-(1:Int)))),tc (bC cN e),tc (cE e),tc (gC (e==(0:Int))),tc (vR),tc (vR)] [false,false,false,false,false,false,false,false,false,false,false,false,true,true] [fun _=>[GD bd,bx (rH bc [(1,aL (j.h 0).1 (j.h 0).2 r.2.kinds.length),(2,aL (j.h 1).1 (j.h 1).2 r.2.first.length)]) 102 b3 r.2,hX px 23 (j.h 0).1 (j.h 0).2 r.2.kinds,hX cN 3 (j.h 1).1 (j.h 1).2 r.2.first,bx rV 96 b4 (ax b3 0),bx rB 4 b2 r.1.2.1,bx cN 3 b1 r.1.2.2.1,bx rV 96 b (bif r.1.2.2.2 then ax b3 0 else .pointer none)],fun sg=>[bx rV 96 b (ax b3 0),GD bd,bx (rH bc [(1,aL (j.h 0).1 (j.h 0).2 r.2.kinds.length),(2,aL (j.h 1).1 (j.h 1).2 r.2.first.length)]) 102 b3 r.2,hX px 23 (j.h 0).1 (j.h 0).2 r.2.kinds,hX cN 3 (j.h 1).1 (j.h 1).2 r.2.first,bx rV 96 b4 (ax b3 0),bx rB 4 b2 r.1.2.1,bx cN 3 b1 r.1.2.2.1],fun sg=>[bx cN 3 b1 (IntKind.i64.wrap ((l.Nodes.length:Int)-(1:Int))),bx rV 96 b (ax b3 0),GD bd,bx (rH bc [(1,aL (j.h 0).1 (j.h 0).2 r.2.kinds.length),(2,aL (j.h 1).1 (j.h 1).2 r.2.first.length)]) 102 b3 r.2,hX px 23 (j.h 0).1 (j.h 0).2 r.2.kinds,hX cN 3 (j.h 1).1 (j.h 1).2 r.2.first,bx rV 96 b4 (ax b3 0),bx rB 4 b2 r.1.2.1]] M mixed M M M M M
    ⟨⟨[⟨5,fun _=>tV (ax b4 0),none⟩],_,0,0,M,⟨(fun _=>M),aR⟩,M,M,M,M,M,sw (fun sg=>ae M (qX nO (.tail _ (.tail _ (.tail _ (.tail _ (.head _))))) (D M)))⟩,
    ⟨⟨[⟨6,fun _=>H cN (l.Nodes.length:Int),none⟩],_,0,1,M,⟨(fun _=>M),aR⟩,M,M,M,M,M,fun _ sg _ _=>ae M (nb M)⟩,
    ⟨⟨[⟨31,fun _=>H cN (l.Nodes.length:Int),some 1⟩],_,0,1,M,⟨(fun _=>M),aR⟩,M,M,M,M,M,fun _ sg _ _=>ae M (gc (D M) hI)⟩,
    ⟨⟨[⟨5,fun _=>tV (ax b4 0),none⟩],_,0,2,M,⟨(fun _=>M),aR⟩,M,M,M,M,M,xE (fun sg=>ae M (qX nO (.tail _ (.tail _ (.tail _ (.tail _ (.head _))))) (D M))) (xE (fun sg=>ae M (qX nO (.tail _ (.tail _ (.tail _ (.tail _ (.tail _ (.head _)))))) (D M))) (sw (fun sg=>ae M (qX nO (.tail _ (.tail _ (.tail _ (.tail _ (.tail _ (.tail _ (.head _))))))) (D M)))))⟩,
    ⟨⟨[⟨33,fun _=>tV (ax b3 0),some 3⟩],_,0,2,M,⟨(fun _=>M),aR⟩,M,M,M,M,M,fun _ sg _ _=>ae M (gY (D M))⟩,
    ⟨⟨[⟨34,fun _=>tV (ax b3 0),some 4⟩],_,0,2,M,⟨(fun _=>M),aR⟩,M,M,M,M,M,fun _ sg _ _=>ae M (rW 2 rG M M M)⟩,
    ⟨⟨[⟨35,fun _=>tV (ax b3 2),some 5⟩],_,0,2,M,⟨(fun _=>M),aR⟩,M,M,M,M,M,xE (fun sg=>ae M (gy eK M (.tail _ (.head _)) (.tail _ (.tail _ (.tail _ (.head _)))) (D M))) (xE (fun sg=>ae M (gy eK M (.tail _ (.tail _ (.head _))) (.tail _ (.tail _ (.tail _ (.tail _ (.head _))))) (D M))) (sw (fun sg=>ae M (gy eK M (.tail _ (.tail _ (.tail _ (.head _)))) (.tail _ (.tail _ (.tail _ (.tail _ (.tail _ (.head _)))))) (D M)))))⟩,
    ⟨⟨[⟨6,fun _=>H cN (l.Nodes.length:Int),none⟩],_,0,2,M,⟨(fun _=>M),aR⟩,M,M,M,M,M,fun _ sg _ _=>ae M (nb M)⟩,
    ⟨⟨[⟨37,fun _=>H cN (l.Nodes.length:Int),some 7⟩],_,0,2,M,⟨(fun _=>M),aR⟩,M,M,M,M,M,fun _ sg _ _=>ae M (gc (D M) hI)⟩,
    ⟨⟨[⟨36,fun _=>tO cN (j.h 1).1 (j.h 1).2 r.2.first,some 6⟩,⟨38,fun _=>H cN (IntKind.i64.wrap ((l.Nodes.length:Int)-(1:Int))),some 8⟩],_,0,2,M,⟨(fun _=>M),(fun _=>M),aR⟩,M,M,M,M,M,fun _ sg _ _=>ae M (bp gr ck M (mK (D M)) (D M) q_e)⟩,
    ⟨⟨[⟨39,fun _=>bC cN e,some 9⟩],_,0,2,M,⟨(fun _=>M),aR⟩,M,M,M,M,M,fun _ sg _ _=>ae M (pe ck M M)⟩,
    ⟨⟨[⟨40,fun _=>H cN e,some 10⟩],_,0,2,M,⟨(fun _=>M),aR⟩,M,M,M,M,M,fun _ sg _ _=>ae M (PD M)⟩,
    ⟨⟨[⟨2,fun _=>tV (ax b 0),none⟩,⟨30,fun _=>tV (ax b3 0),some 0⟩],_,M,⟨(fun _=>M),(fun _=>M),aR⟩,M,M,M,fun sg=>cD M (EffOK.fr7 (ii nO M (pV ac) M (D M) (hW (D M) M)))⟩,
    ⟨⟨[⟨3,fun _=>tV (ax b1 0),none⟩,⟨32,fun _=>H cN (IntKind.i64.wrap ((l.Nodes.length:Int)-(1:Int))),some 2⟩],_,M,⟨(fun _=>M),(fun _=>M),aR⟩,M,M,M,fun sg=>cD M (EffOK.fr7 (ii ck M (pV ac) M (D M) (D M)))⟩,
    aR⟩⟩⟩⟩⟩⟩⟩⟩⟩⟩⟩⟩⟩⟩ (fun sg=>?_)
   refine(show RG _ _ _ _ [_,_,_,_,_,_,_,_] _ from ?_);exact IU<|aO G8 ac M<|da<|cH<|yp<|wA 11 M<|aJ<|aK 2 M<|bq<|aK 3 M<|aK 4 M<|bq<|aN<|bq<|aN<|bq<|aN<|HV<|Bf<|so h▸bI (ts:=[bC bc r.2,cE (IntKind.i64.wrap ((l.Nodes.length:Int)-(1:Int))),gC (e==(0:Int))]) (rvs:=[.cell 2 96,.cell 3 3,.cell 4 4]) M M ⟨xP (j:=11) nO M M,bf ck M M M,bf G8 M M M,aR⟩
  ·skip
   obtain⟨x5,x6,p2⟩:=i2
   obtain rfl:x5=r.1.2.1:=congrArg (fun q:Bool×Int×Bool=>q.1) hi
   obtain rfl:x6=r.1.2.2.1:=congrArg (fun q:Bool×Int×Bool=>q.2.1) hi
   obtain rfl:p2=r.1.2.2.2:=congrArg (fun q:Bool×Int×Bool=>q.2.2) hi
   have h:=cf h (by rw [hj];rfl);refine(show CG _ _ _ [GD bd,bx (rH bc [(1,aL (j.h 0).1 (j.h 0).2 r.2.kinds.length),(2,aL (j.h 1).1 (j.h 1).2 r.2.first.length)]) 102 b3 r.2,hX px 23 (j.h 0).1 (j.h 0).2 r.2.kinds,hX cN 3 (j.h 1).1 (j.h 1).2 r.2.first,bx rV 96 b4 (ax b3 0),bx rB 4 b2 r.1.2.1,bx cN 3 b1 r.1.2.2.1,bx rV 96 b (bif r.1.2.2.2 then ax b3 0 else .pointer none)] _ from ?_);refine Lb (G' :=[(0,H ay l),(1,bC ay l),(2,tV (ax b 0)),(3,tV (ax b1 0)),(4,tV (ax b2 0)),(5,tV (ax b4 0)),(6,jw l.Nodes),(9,H ay l),(10,H (rH bc [(1,.slice none 0 0),(2,.slice none 0 0)]) (⟨l,[],[]⟩:au)),(11,tV (ax b3 0)),(12,bC Bs l.Nodes),(13,gk (ak) l.Nodes),(14,jw l.Nodes),(15,jw l.Nodes),(16,gC (decide ((l.Nodes.length:Int)<(1:Int)))),(17,gC (decide ((l.Nodes.length:Int)<(1:Int)))),(18,lC (!(decide ((l.Nodes.length:Int)<(1:Int)))) (jw l.Nodes)),(19,lC (!(decide ((l.Nodes.length:Int)<(1:Int)))) (gC (decide ((60:Int)<(l.Nodes.length:Int))))),(20,gC ((decide ((l.Nodes.length:Int)<(1:Int)))||(decide ((60:Int)<(l.Nodes.length:Int))))),(22,tV (ax b3 0))]) ?_ ⟨M,M,M,M,M,M,M,M,M,M,M,M,M,M,M,M,M,M,M,M,aR⟩;exact mo<|eN<|cC h fun u q_u h=>Lf (O' :=[GD bd,bx (rH bc [(1,aL (j.h 0).1 (j.h 0).2 r.2.kinds.length),(2,aL (j.h 1).1 (j.h 1).2 r.2.first.length)]) 102 b3 r.2,hX px 23 (j.h 0).1 (j.h 0).2 r.2.kinds,hX cN 3 (j.h 1).1 (j.h 1).2 r.2.first,bx rV 96 b4 (ax b3 0),bx rB 4 b2 r.1.2.1,bx cN 3 b1 r.1.2.2.1,bx rV 96 b (ax b3 0)]) (by rw [show r.1.2.2.2=true from J3 q_u];rfl)<|bq<|yp<|wA 11 M<|Cx<|aK 2 M<|kE<|aK 3 M<|cH<|aK 4 M<|bq<|aN<|bq<|aN<|bq<|aN<|HV<|Bf<|so h▸bI (ts:=[bC bc r.2,cE r.1.2.2.1,gC r.1.2.1]) (rvs:=[.cell 2 96,.cell 3 3,.cell 4 4]) M M ⟨xP (j:=11) nO M M,bf ck M M M,bf G8 M M M,aR⟩

def De l{R}(h:kG l=some R):cK bh 35 [H ay l] (tT [cE R.1,cE R.2]):=by
 refine ep Tryz.func35 M<|aV<|dh M<|dj<|dj<|cb<|aV<|bw cQ M<|eu h Ps (Gw _) (co M) fun r h=>bu M<|bZ M M<|bZ M M<|bZ M M<|jy M<|jy M<|aY M<|aI<|aI ?_;refine aG<|bu M<|K (iY (D M))<|dv h M (fun h=>?_) (fun h=>?_)
 ·exact aZ M<|jy M<|fY<|an<|so h▸fm M M M
 ·exact kF<|aV<|dj<|fY<|so h▸fm M M M

def u9 s{R}(h:aX s=some R):gP bh 81 [gk (ap) s] false ap 63 R:=by
 refine gP.of Tryz.func81 M M M fun w0 S0=>aV<|bL false ap 63<|K (bF tK)<|cb<|bl<|bu M<|uM na (D M) M fun isnil hisnil=>cb<|pw (D M) (fun hc=>?_) (fun hc=>?_)
 ·have I:=hisnil hc
  have h:some CI=some R:=by simpa [aX,jT,I] using h
  exact aV<|bL false ap 63<|K (bF tK)<|da<|an<|so h▸hG M M
 ·exact kF<|aV<|fC (r:=ap) (ys:=CI) (xs:=[]) na fc M M M M M trivial M fun l c=>bu M<|cC h fun x q_x h=>dE fc M M M M na M M (D M) (D M) q_x fun l1 c1=>bG M<|so h▸hG M M
def Kl s{R}(h:aX s=some R):cK bh 81 [gk (ap) s] (gk (ap) R):=(u9 _ h).spec

def KD s{R}(h:dM s=some R):gP bh 116 [gk (eQ) s] false eQ 81 R:=by
 refine gP.of Tryz.func116 M M M fun w0 S0=>aV<|bL false eQ 81<|K (bF tK)<|cb<|bl<|bu M<|uM t7 (D M) M fun isnil hisnil=>cb<|pw (D M) (fun hc=>?_) (fun hc=>?_)
 ·have I:=hisnil hc
  have h:some ([]:List jU)=some R:=by simpa [dM,jT,I] using h
  exact aV<|bL false eQ 81<|K (bF tK)<|da<|an<|so h▸hG M M
 ·exact kF<|aV<|fC (r:=eQ) (ys:=([]:List jU)) (xs:=[]) t7 zQ M M M M M trivial M fun l c=>bu M<|cC h fun x q_x h=>dE zQ M M M M t7 M M (D M) (D M) q_x fun l1 c1=>bG M<|so h▸hG M M
def ML s{R}(h:dM s=some R):cK bh 116 [gk (eQ) s] (gk (eQ) R):=(KD _ h).spec

def KC s{R}(h:eP s=some R):gP bh 117 [gk (dl) s] false dl 77 R:=by
 refine gP.of Tryz.func117 M M M fun w0 S0=>aV<|bL false dl 77<|K (bF tK)<|cb<|bl<|bu M<|uM qc (D M) M fun isnil hisnil=>cb<|pw (D M) (fun hc=>?_) (fun hc=>?_)
 ·have I:=hisnil hc
  have h:some Lm=some R:=by simpa [eP,jT,I] using h
  exact aV<|bL false dl 77<|K (bF tK)<|da<|an<|so h▸hG M M
 ·exact kF<|aV<|fC (r:=dl) (ys:=Lm) (xs:=[]) qc qf M M M M M trivial M fun l c=>bu M<|cC h fun x q_x h=>dE qf M M M M qc M M (D M) (D M) q_x fun l1 c1=>bG M<|so h▸hG M M
def KB s{R}(h:ce s=some R):gP bh 118 [gk (af) s] false af 27 R:=by
 refine gP.of Tryz.func118 M M M fun w0 S0=>aV<|bL false af 27<|K (bF tK)<|cb<|bl<|bu M<|uM kX (D M) M fun isnil hisnil=>cb<|pw (D M) (fun hc=>?_) (fun hc=>?_)
 ·have I:=hisnil hc
  have h:some vP=some R:=by simpa [ce,jT,I] using h
  exact aV<|bL false af 27<|K (bF tK)<|da<|an<|so h▸hG M M
 ·exact kF<|aV<|fC (r:=af) (ys:=vP) (xs:=[]) kX aU M M M M M trivial M fun l c=>bu M<|cC h fun x q_x h=>dE aU M M M M kX M M (D M) (D M) q_x fun l1 c1=>bG M<|so h▸hG M M
def Pj{l:Option Nat}{c:Nat}{xs s:List ai}{lo:Int}{R}(hs:dk xs lo (xs.length:Int)=some s)(h:ce s=some R):fz bh 118 [tV (mR 1 l c lo.toNat s.length)] [fD af 27 l c xs] (fun i:OI=>tB (i.h 0).1 (i.h 0).2 R) (fun i=>[fD af 27 (i.h 0).1 (i.h 0).2 R,fD af 27 l c xs]):=by
 refine fz.of Tryz.func118 M M M fun w0 S0=>aV<|K (bF tK)<|cb<|bl<|bu M<|Cp (r:=af) kX (.head _) hs (D M) M fun isnil hisnil=>cb<|pw (D M) (fun hc=>?_) (fun hc=>?_)
 ·have I:=hisnil hc
  have h:some vP=some R:=by simpa [ce,jT,I] using h
  exact aV<|bL false af 27<|K (bF tK)<|da<|an<|so h▸m9 M (oi none 0) M M (fun _ _ h=>h)
 ·exact kF<|aV<|fC (r:=af) (ys:=vP) (xs:=[]) kX aU M M M M M trivial M fun l1 c1=>bu M<|cC h fun x q_x h=>A2 aU M M M M kX M M (D M) (.tail _ (.head _)) hs (D M) q_x fun l2 c2=>bG M<|so h▸m9 M (oi l2 c2) M M (fun _ _ h=>h)

def Gt n by1{R}(h:mA n by1=some R):cK bh 85 [H ak n,cE by1] (H ak R):=by
 refine ep Tryz.func85 M<|aV<|rN (D M) M fun b=>aA dV iA M fun b1=>cb ?_;refine jd (h3:=fun n1=>nd by1 n1=some R) (Of:=fun n1=>[bx ak 55 b n1,bx ak 55 b1 Jm]) (Gf:=fun n1=>[(1,cE by1),(2,tV (ax b 0)),(4,tV (ax b1 0))]) (fun n1 h=>?_) (fun ah=>?_)
 ·skip
  refine jd (h3:=fun n2=>lc n2=some R) (Of:=fun n2=>[bx ak 55 b n2,bx ak 55 b1 Jm]) (Gf:=fun n2=>[(2,tV (ax b 0)),(4,tV (ax b1 0))]) (fun n2 h=>?_) (fun K1=>?_)
  ·skip
   refine aI<|cC h fun r q_r h=>cC h fun r1 q_r1 h=>cC h fun r2 q_r2 h=>?_
   refine kD 10 (ts:=[tV (ax b 4),lO n2.Kinds,lO r,tV (ax b 7),lO n2.Keys,lO r1,tV (ax b 10),gk (eQ) n2.Order,gk (eQ) r2,tV (ax b 4)]) mixed M M M
    ⟨qd 2 M M (rW 4 pY M M M),
    ⟨fb 23 0 M M (be eK M M kR (.head _) (D M)),
    ⟨fb 24 1 M M (cm KQ (Kq _ q_r) ⟨(D M),aR⟩),
    ⟨qd 2 M M (rW 7 o0 M M M),
    ⟨fb 26 3 M M (be eK M M jR (.head _) (D M)),
    ⟨fb 27 4 M M (cm KQ (Kq _ q_r1) ⟨(D M),aR⟩),
    ⟨qd 2 M M (rW 10 po M M M),
    ⟨fb 29 6 M M (be y4 M M jK (.head _) (D M)),
    ⟨fb 30 7 M M (cm Rs (ML _ q_r2) ⟨(D M),aR⟩),
    ⟨qd 2 M M (rW 4 pY M M M),
    aR⟩⟩⟩⟩⟩⟩⟩⟩⟩⟩ ?_
   refine aO eK qM M<|bJ 7 o0 M<|aO eK vX M<|bJ 10 po M<|aO y4 yC M<|cb<|aV<|bJ 6 ki M<|bJ 6 dq M<|K (be iU M M (lg fT cG) (.head _) (D M))<|ri h GK (u9 _) (co M) fun r3 h l c=>bJ 6 ki M<|bJ 6 dq M<|ik<|m7 38 M<|aT<|dd iU M (xJ fT lR qv) M (D M) (mK (D M))<|cb<|aI<|cC h fun r4 q_r4 h=>?_;refine cC h fun r5 q_r5 h=>?_
   refine jN 7 [tc (tV (ax b 8)),tc (gk (dl) (({(aa.mk n2.Op n2.A n2.B n2.Table r n2.Left n2.Cond r1 n2.Aggs n2.Items r2 n2.Limit)with Cond:=({(aa.mk n2.Op n2.A n2.B n2.Table r n2.Left n2.Cond r1 n2.Aggs n2.Items r2 n2.Limit).Cond with Nodes:=r3}:ai)}:aa).Aggs)),([2],fun s=>tV (aL ((s.getD 0 qt).h 0).1 ((s.getD 0 qt).h 0).2 r4.length)),tc (tV (ax b 9)),tc (gk (af) (({(aa.mk n2.Op n2.A n2.B n2.Table r n2.Left n2.Cond r1 n2.Aggs n2.Items r2 n2.Limit)with Cond:=({(aa.mk n2.Op n2.A n2.B n2.Table r n2.Left n2.Cond r1 n2.Aggs n2.Items r2 n2.Limit).Cond with Nodes:=r3}:ai)}:aa).Items)),([5],fun s=>tV (aL ((s.getD 0 qt).h 0).1 ((s.getD 0 qt).h 0).2 r5.length)),tc (tV (ax b 8))] [false,false,true,false,false,true,false] [fun _=>[bx ak 55 b ({(aa.mk n2.Op n2.A n2.B n2.Table r n2.Left n2.Cond r1 n2.Aggs n2.Items r2 n2.Limit)with Cond:=({(aa.mk n2.Op n2.A n2.B n2.Table r n2.Left n2.Cond r1 n2.Aggs n2.Items r2 n2.Limit).Cond with Nodes:=r3}:ai)}:aa),hX ap 63 l c r3,bx ak 55 b1 Jm],fun sg=>[fD dl 77 ((sg 2).h 0).1 ((sg 2).h 0).2 r4,bx ak 55 b ({(aa.mk n2.Op n2.A n2.B n2.Table r n2.Left n2.Cond r1 n2.Aggs n2.Items r2 n2.Limit)with Cond:=({(aa.mk n2.Op n2.A n2.B n2.Table r n2.Left n2.Cond r1 n2.Aggs n2.Items r2 n2.Limit).Cond with Nodes:=r3}:ai)}:aa),hX ap 63 l c r3,bx ak 55 b1 Jm],fun sg=>[fD af 27 ((sg 5).h 0).1 ((sg 5).h 0).2 r5,fD dl 77 ((sg 2).h 0).1 ((sg 2).h 0).2 r4,bx ak 55 b ({(aa.mk n2.Op n2.A n2.B n2.Table r n2.Left n2.Cond r1 n2.Aggs n2.Items r2 n2.Limit)with Cond:=({(aa.mk n2.Op n2.A n2.B n2.Table r n2.Left n2.Cond r1 n2.Aggs n2.Items r2 n2.Limit).Cond with Nodes:=r3}:ai)}:aa),hX ap 63 l c r3,bx ak 55 b1 Jm]] M mixed M M M M M
    ⟨⟨[⟨2,fun _=>tV (ax b 0),none⟩],_,0,0,M,⟨(fun _=>M),aR⟩,M,M,M,M,M,fun _ sg _ _=>ae M (rW 8 mO M M M)⟩,
    ⟨⟨[⟨41,fun _=>tV (ax b 8),some 0⟩],_,0,0,M,⟨(fun _=>M),aR⟩,M,M,M,M,M,sw (fun sg=>ae M (be vk M M md (.head _) (D M)))⟩,
    ⟨⟨[⟨42,fun _=>H (gJ dl) (({(aa.mk n2.Op n2.A n2.B n2.Table r n2.Left n2.Cond r1 n2.Aggs n2.Items r2 n2.Limit)with Cond:=({(aa.mk n2.Op n2.A n2.B n2.Table r n2.Left n2.Cond r1 n2.Aggs n2.Items r2 n2.Limit).Cond with Nodes:=r3}:ai)}:aa).Aggs),some 1⟩],_,M,⟨(fun _=>M),aR⟩,M,M,M,fun sg=>cD M (vc (xs:=[.tmp 42]) (ts:=[H (gJ dl) (({(aa.mk n2.Op n2.A n2.B n2.Table r n2.Left n2.Cond r1 n2.Aggs n2.Items r2 n2.Limit)with Cond:=({(aa.mk n2.Op n2.A n2.B n2.Table r n2.Left n2.Cond r1 n2.Aggs n2.Items r2 n2.Limit).Cond with Nodes:=r3}:ai)}:aa).Aggs)]) Rr (KC _ q_r4) ⟨(D M),aR⟩)⟩,
    ⟨⟨[⟨2,fun _=>tV (ax b 0),none⟩],_,0,1,M,⟨(fun _=>M),aR⟩,M,M,M,M,M,fun _ sg _ _=>ae M (rW 9 kh M M M)⟩,
    ⟨⟨[⟨44,fun _=>tV (ax b 9),some 3⟩],_,0,1,M,⟨(fun _=>M),aR⟩,M,M,M,M,M,xE (fun sg=>ae M (be hZ M M gM (.head _) (D M))) (sw (fun sg=>ae M (be hZ M M gM (.tail _ (.head _)) (D M))))⟩,
    ⟨⟨[⟨45,fun _=>H vO (({(aa.mk n2.Op n2.A n2.B n2.Table r n2.Left n2.Cond r1 n2.Aggs n2.Items r2 n2.Limit)with Cond:=({(aa.mk n2.Op n2.A n2.B n2.Table r n2.Left n2.Cond r1 n2.Aggs n2.Items r2 n2.Limit).Cond with Nodes:=r3}:ai)}:aa).Items),some 4⟩],_,M,⟨(fun _=>M),aR⟩,M,M,M,fun sg=>cD M (vc (xs:=[.tmp 45]) (ts:=[H vO (({(aa.mk n2.Op n2.A n2.B n2.Table r n2.Left n2.Cond r1 n2.Aggs n2.Items r2 n2.Limit)with Cond:=({(aa.mk n2.Op n2.A n2.B n2.Table r n2.Left n2.Cond r1 n2.Aggs n2.Items r2 n2.Limit).Cond with Nodes:=r3}:ai)}:aa).Items)]) NR (KB _ q_r5) ⟨(D M),aR⟩)⟩,
    ⟨⟨[⟨2,fun _=>tV (ax b 0),none⟩],_,1,2,M,⟨(fun _=>M),aR⟩,M,M,M,M,M,fun _ sg _ _=>ae M (rW 8 mO M M M)⟩,
    aR⟩⟩⟩⟩⟩⟩⟩ (fun sg=>?_)
   refine(show RG _ _ _ _ [_,_,_,_,_] _ from ?_);refine dy<|ei vk M (qK _ _) M (D M) (BC (D M))<|bJ 9 kh M<|ei hZ M (nU _ _ _) M (D M) (BC (D M))<|cb<|bl<|bJ 8 mO M<|K (fI vk mb (.head _) M (D M))<|K (fj qc (.tail _ (.tail _ (.head _))) (D M))<|K (ci hI)<|cb<|av<|gj (.tail _ (.tail _ (.head _))) fun hN=>cd<|kC<|pu<|dn<|fi<|fi<|kC ?_;refine aP (jp (h3:=fun ls i n3=>(r4.drop i=ls)/\k7 ls i n3=some R) (Of:=fun _ i n3=>[bx ak 55 b1 Jm,bx dC 55 b (fJ n3 (aL ((sg 2).h 0).1 ((sg 2).h 0).2 n3.Aggs.length) (aL ((sg 5).h 0).1 ((sg 5).h 0).2 n3.Items.length)),fD dl 77 ((sg 2).h 0).1 ((sg 2).h 0).2 n3.Aggs,fD af 27 ((sg 5).h 0).1 ((sg 5).h 0).2 n3.Items]) (Gf:=fun _ i n3=>[(2,tV (ax b 0)),(4,tV (ax b1 0)),(51,jw r4),(52,cE (i:Int))]) (fun i n3 h=>?_) (fun e tl ih i n3 h=>?_) r4 0 ({({({(aa.mk n2.Op n2.A n2.B n2.Table r n2.Left n2.Cond r1 n2.Aggs n2.Items r2 n2.Limit)with Cond:=({(aa.mk n2.Op n2.A n2.B n2.Table r n2.Left n2.Cond r1 n2.Aggs n2.Items r2 n2.Limit).Cond with Nodes:=r3}:ai)}:aa)with Aggs:=r4}:aa)with Items:=r5}:aa) ⟨M,h⟩) (bv M)
   ·obtain⟨I,h⟩:=h
    refine fa I M<|aB<|bl<|bJ 9 kh M<|K (fI hZ ma (.tail _ (.head _)) M (D M))<|K (fj kX (.tail _ (.tail _ (.tail _ (.head _)))) (D M))<|K (ci hI)<|cb<|av<|gj (.tail _ (.tail _ (.tail _ (.head _)))) fun hN1=>?_;refine cd ?_;refine aP (jp (h3:=fun ls1 i1 n4=>(n3.Items.drop i1=ls1)/\k6 ls1 i1 n4=some R) (Of:=fun _ i1 n4=>[bx ak 55 b1 Jm,bx dC 55 b (fJ n4 (aL ((sg 2).h 0).1 ((sg 2).h 0).2 n4.Aggs.length) (aL ((sg 5).h 0).1 ((sg 5).h 0).2 n4.Items.length)),fD dl 77 ((sg 2).h 0).1 ((sg 2).h 0).2 n4.Aggs,fD af 27 ((sg 5).h 0).1 ((sg 5).h 0).2 n4.Items]) (Gf:=fun _ i1 n4=>[(2,tV (ax b 0)),(4,tV (ax b1 0)),(72,jw n3.Items),(73,cE (i1:Int))]) (fun i1 n4 h=>?_) (fun e1 tl1 ih1 i1 n4 h=>?_) n3.Items 0 n3 ⟨M,h⟩) (bv M)
    ·obtain⟨hx1,h⟩:=h
     refine fa hx1 M<|aB<|aV<|dy<|ik<|ek<|ik<|K (iQ (q:=ak) (y:=n4) dV M M M M (.tail _ (.tail _ (.tail _ (.head _)))) (fun _ _ _ ho h=>rK (j4 ho (.tail _ (.head _))) (j4 ho (.head _)) h) (D M))<|dy<|aO dV ac M<|aD 4 M<|bt ?_;exact aB<|mo<|aN<|aN<|aN<|so h▸gR M dV M M M
    ·obtain⟨hx1,h⟩:=h
     refine eZ hx1 M<|aI<|av<|aZ M<|aY M<|cC h fun e2 q_e2 h=>cC h fun r6 q_r6 h=>?_
     refine kD 12 (ts:=[tV (ax b 9),tV (aL ((sg 5).h 0).1 ((sg 5).h 0).2 n4.Items.length),cE (i1:Int),tV (ax b 9),tV (aL ((sg 5).h 0).1 ((sg 5).h 0).2 n4.Items.length),cE (i1:Int),tV (jn ((sg 5).h 0).1 ((i1:Int).toNat*1+0)),tV (jn ((sg 5).h 0).1 ((i1:Int).toNat*1+0)),gk (ap) e2.Nodes,gk (ap) r6,tV (jn ((sg 5).h 0).1 ((i1:Int).toNat*1+0)),tV (jn ((sg 5).h 0).1 ((i1:Int).toNat*1+0))]) mixed M M M
      ⟨qd 2 M M (rW 9 kh M M M),
      ⟨fb 76 0 M M (fI hZ ma (.tail _ (.head _)) M (D M)),
      ⟨iJ M M,
      ⟨qd 2 M M (rW 9 kh M M M),
      ⟨fb 79 3 M M (fI hZ ma (.tail _ (.head _)) M (D M)),
      ⟨iJ M M,
      ⟨gg 80 4 81 5 M M M (bX kX aU (.tail _ (.tail _ (.tail _ (.head _)))) (D M) (D M) q_e2),
      ⟨fb 82 6 M M (cM (o:=(i1:Int).toNat*1+0) (n:=(i1:Int).toNat*1+0) dq M (.tail _ (.tail _ (.tail _ (.head _)))) q_e2 (D M) M),
      ⟨fb 83 7 M M (dm (r:=af) (i:=(i1:Int)) (foff:=0) iU M M cG M (.tail _ (.tail _ (.tail _ (.head _)))) q_e2 (D M)),
      ⟨fb 84 8 M M (cm GK (Kl _ q_r6) ⟨(D M),aR⟩),
      ⟨gg 77 1 78 2 M M M (bX kX aU (.tail _ (.tail _ (.tail _ (.head _)))) (D M) (D M) q_e2),
      ⟨fb 86 10 M M (cM (o:=(i1:Int).toNat*1+0) (n:=(i1:Int).toNat*1+0) dq M (.tail _ (.tail _ (.tail _ (.head _)))) q_e2 (D M) M),
      aR⟩⟩⟩⟩⟩⟩⟩⟩⟩⟩⟩⟩ ?_
     refine ek<|cC h fun st q_st h=>ku iU M qv M q_e2 (so q_st) (D M) (D M)<|gA (d8 (so q_st)) 77 M<|gA (d8 (so q_st)) 80 M<|oD (O' :=[fD af 27 ((sg 5).h 0).1 ((sg 5).h 0).2 st,bx ak 55 b1 Jm,bx dC 55 b (fJ n4 (aL ((sg 2).h 0).1 ((sg 2).h 0).2 n4.Aggs.length) (aL ((sg 5).h 0).1 ((sg 5).h 0).2 st.length)),fD dl 77 ((sg 2).h 0).1 ((sg 2).h 0).2 n4.Aggs]) (by first|(rw [d8 (so q_st)];done)|(rw [d8 (so q_st)];exact M)|exact M)<|bt<|dU hx1 hN1 M<|cy<|cy<|cy ?_;exact bg (aP (ih1 (i1+1) ({n4 with Items:=st}:aa) ⟨dH hx1,h⟩) (bv M))
   ·obtain⟨I,h⟩:=h
    refine eZ I M<|aI<|av<|aZ M<|aY M<|cC h fun e3 q_e3 h=>cC h fun r7 q_r7 h=>?_
    refine kD 14 (ts:=[tV (ax b 8),tV (aL ((sg 2).h 0).1 ((sg 2).h 0).2 n3.Aggs.length),cE (i:Int),tV (ax b 8),tV (aL ((sg 2).h 0).1 ((sg 2).h 0).2 n3.Aggs.length),cE (i:Int),tV (jn ((sg 2).h 0).1 ((i:Int).toNat*2+0)),tV (jn ((sg 2).h 0).1 ((i:Int).toNat*2+1)),tV (jn ((sg 2).h 0).1 ((i:Int).toNat*2+1)),gk (ap) e3.Arg.Nodes,gk (ap) r7,tV (jn ((sg 2).h 0).1 ((i:Int).toNat*2+0)),tV (jn ((sg 2).h 0).1 ((i:Int).toNat*2+1)),tV (jn ((sg 2).h 0).1 ((i:Int).toNat*2+1))]) mixed M M M
     ⟨qd 2 M M (rW 8 mO M M M),
     ⟨fb 55 0 M M (fI vk mb (.tail _ (.head _)) M (D M)),
     ⟨iJ M M,
     ⟨qd 2 M M (rW 8 mO M M M),
     ⟨fb 58 3 M M (fI vk mb (.tail _ (.head _)) M (D M)),
     ⟨iJ M M,
     ⟨gg 59 4 60 5 M M M (bX qc qf (.tail _ (.tail _ (.head _))) (D M) (D M) q_e3),
     ⟨fb 61 6 M M (cM (o:=(i:Int).toNat*2+0) (n:=(i:Int).toNat*2+1) uI M (.tail _ (.tail _ (.head _))) q_e3 (D M) M),
     ⟨fb 62 7 M M (cM (o:=(i:Int).toNat*2+1) (n:=(i:Int).toNat*2+1) dq M (.tail _ (.tail _ (.head _))) q_e3 (D M) M),
     ⟨fb 63 8 M M (dm (r:=dl) (i:=(i:Int)) (foff:=1) iU M M (lg q9 cG) M (.tail _ (.tail _ (.head _))) q_e3 (D M)),
     ⟨fb 64 9 M M (cm GK (Kl _ q_r7) ⟨(D M),aR⟩),
     ⟨gg 56 1 57 2 M M M (bX qc qf (.tail _ (.tail _ (.head _))) (D M) (D M) q_e3),
     ⟨fb 66 11 M M (cM (o:=(i:Int).toNat*2+0) (n:=(i:Int).toNat*2+1) uI M (.tail _ (.tail _ (.head _))) q_e3 (D M) M),
     ⟨fb 67 12 M M (cM (o:=(i:Int).toNat*2+1) (n:=(i:Int).toNat*2+1) dq M (.tail _ (.tail _ (.head _))) q_e3 (D M) M),
     aR⟩⟩⟩⟩⟩⟩⟩⟩⟩⟩⟩⟩⟩⟩ ?_
    refine dy<|cC h fun st1 q_st1 h=>ku iU M (xJ q9 D2 qv) M q_e3 (so q_st1) (D M) (D M)<|gA (d8 (so q_st1)) 56 M<|gA (d8 (so q_st1)) 59 M<|oD (O' :=[fD dl 77 ((sg 2).h 0).1 ((sg 2).h 0).2 st1,bx ak 55 b1 Jm,bx dC 55 b (fJ n3 (aL ((sg 2).h 0).1 ((sg 2).h 0).2 st1.length) (aL ((sg 5).h 0).1 ((sg 5).h 0).2 n3.Items.length)),fD af 27 ((sg 5).h 0).1 ((sg 5).h 0).2 n3.Items]) (by first|(rw [d8 (so q_st1)];done)|(rw [d8 (so q_st1)];exact M)|exact M)<|bt<|dU I hN M<|cy<|bq<|cy<|cy ?_;exact bg (aP (ih (i+1) ({n3 with Aggs:=st1}:aa) ⟨dH I,h⟩) (bv M))
  ·skip
   refine aV<|bJ 2 ol M<|K (be ck M M jk (.head _) (D M))<|K (gX (D M) hI)<|dv h M (fun h=>?_) (fun h=>?_)
   ·refine aG<|bJ 2 ol M<|K (be ck M M jk (.head _) (D M))<|bu M<|K (lD (D M) (D M))<|bJ 2 ol M<|aO ck nl M<|bt ?_;exact c9 (K1 (aa.mk n1.Op n1.A (IntKind.i64.wrap (n1.B+by1)) n1.Table n1.Kinds n1.Left n1.Cond n1.Keys n1.Aggs n1.Items n1.Order n1.Limit) h) (bv M)
   ·refine cc ?_;exact c9 (K1 n1 h) (bv M)
 ·skip
  refine aV<|bJ 1 jz M<|K (be ck M M eG (.tail _ (.head _)) (D M))<|K (gX (D M) hI)<|dv h M (fun h=>?_) (fun h=>?_)
  ·refine aG<|bJ 1 jz M<|K (be ck M M eG (.tail _ (.head _)) (D M))<|bu M<|K (lD (D M) (D M))<|bJ 1 jz M<|aT<|aO ck nm M<|bt ?_;exact c9 (ah (aa.mk n.Op (IntKind.i64.wrap (n.A+by1)) n.B n.Table n.Kinds n.Left n.Cond n.Keys n.Aggs n.Items n.Order n.Limit) h) (bv M)
  ·refine cc<|bq ?_;exact c9 (ah n h) (bv M)

end Go.Proofs.YtbmmihfagmchaaaGreat

