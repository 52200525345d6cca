/- cP of this claim: P4. -/
import Derived.Test.YtbmmihfagmchaaaGreatRbT
import Derived.Test.YtbmmihfagmchaaaGreatRbP3
set_option linter.all false
namespace Go.Proofs.YtbmmihfagmchaaaGreat
open Go
set_option maxRecDepth 100000

def Mj(b:Nat)(ix:OI) c{R}(h:n6 c=some R):xh bk 71 [tV (ax b 0)] (dB b c ix) (fun(x:Int×Bool)=>[cA x.1,gM x.2]) R (dB b):=by
 refine xh.of Tryz.func71 M M M fun w0 S0=>?_;refine(show CG _ _ _ [bx (rH aZ [(1,aK (ix.h 0).1 (ix.h 0).2 c.kinds.length),(2,aK (ix.h 1).1 (ix.h 1).2 c.first.length)]) 102 b c,gT pm 23 (ix.h 0).1 (ix.h 0).2 c.kinds,gT cB 3 (ix.h 1).1 (ix.h 1).2 c.first] _ from ?_);exact aV<|K (LU (fun _ _ h=>by rw [show _=_ from h];rfl) (D M))<|K (bz hV)<|cb<|aV<|dl<|dl<|dl<|Dm (O1:=dB b c ix) (cts:=[bw (rT (tV (ax b 0))) ()]) (caps:=[.tmp 1]) M Sc (Mi b ix c) ⟨(D M),aQ⟩ M fun v fp=>bF M<|so h▸I2 M M

def Gq l{R}(h:lT l=some R):cI bk 43 [H ay l] (tT [bw aZ R.1,cA R.2.1,gM R.2.2]):=by
 refine K8 Tryz.func43 M M M fun w0 S0=>aV<|dn M<|aC (r:=rV) (x:= .pointer none) nH (fun _=>⟨M,M⟩) M fun b=>aC (r:=cB) (x:=(0:Int)) cn (fun _=>M) M fun b1=>aC (r:=rB) (x:=false) Jn (fun _=>M) M fun b2=>cb<|aV<|bA cJ M<|K (bP (r:=rH aZ [(1,.slice none 0 0),(2,.slice none 0 0)]) (y:=(⟨l,[],[]⟩:aq)) Qc Qs (zH Ft ⟨M,M,aQ⟩) (⟨_,_,_,_,_,M,Qf CH M M,M,(D M),M⟩))<|rz (D M) M fun b3=>bC true pm 23<|bC true cB 3 ?_;refine(show RG _ _ _ _ [_,_,_,_,_,_] _ from ?_);refine aC (r:=rV) (x:= .pointer none) nH (fun _=>⟨M,M⟩) M fun b4=>tm (gD nH M (pQ ae) M (D M) (hW (D M) M)) fun i=>?_;refine(show RG _ _ _ _ [_,_,_,_,_,_,_] _ from ?_);refine cb<|aV<|ca fY d5 na M<|c9 jR M<|aT M<|bm<|bu M<|K (mE (D M) hI)<|bu M<|bL M (fL M)<|bL M (fun T=>s4 (dp M T) hI)<|mI M<|dq h M (fun h=>?_) (fun h=>?_)
 ·refine aV<|K (qO nH (.head _) (D M))<|tm (EffOK.fr6 (gD nH M (pQ ae) M (D M) (hW (D M) M))) fun i1=>?_;refine(show RG _ _ _ _ [_,_,_,_,_,_,_] _ from ?_);exact Ck<|cW cn M ae M (D M) hI<|Ck<|cW Jn M ae M (D M) hB<|dG<|au<|Cq<|yk<|wo 11 M<|aH<|aI 2 M<|bp<|aI 3 M<|aI 4 M<|aM<|aM<|aM<|A9<|so h▸bH (ts:=[bw aZ (⟨l,[],[]⟩:aq),cA 0,gM false]) (rvs:=[.cell 2 96,.cell 3 3,.cell 4 4]) M M ⟨xI (j:=11) nH M M,bg cn M M M,bg Jn M M M,aQ⟩
 ·refine ko<|bm<|K (qO nH (.head _) (D M))<|aS<|dl<|d7<|cy h fun it q_it h=>GO (dB b3 (⟨l,[],[]⟩:aq) (Oy [(none,0),(none,0)])) _ M So (Mj b3 (Oy [(none,0),(none,0)]) (⟨l,[],[]⟩:aq) q_it) ⟨(D M),aQ⟩ M fun v fp=>cb<|av<|cy h fun r q_r h=>?_;refine IY (fun(ix:Bool×Int×Bool)=>[bx rV 96 b4 (ax b3 0),bx rB 4 b2 ix.1,bx cB 3 b1 ix.2.1,bx rV 96 b (bif ix.2.2 then ax b3 0 else .pointer none)]) (fun(ix:Bool×Int×Bool)=>(ix.1,ix.2.1,ix.2.2)) (fun _=> .ret) M (D M) (false,(0:Int),false) M q_r (fun _=>M) M (fun ix x r1 h lp rec1 _ _ _=>?_) (fun i2 j hi bd=>⟨fun hj=>?_,fun _ hj=>?_⟩)
  ·obtain⟨x1,x2,p⟩:=ix
   replace h:mS x x1 x2 p=some r1:=h
   refine(show CG _ _ _ [qI lp rec1 .ready none,bx rV 96 b4 (ax b3 0),bx rB 4 b2 x1,bx cB 3 b1 x2,bx rV 96 b (bif p then ax b3 0 else .pointer none)] _ from ?_);refine Lf (G' :=[(0,H ay l),(1,bw ay l),(2,tV (ax b 0)),(3,tV (ax b1 0)),(4,tV (ax b2 0)),(5,tV (ax b4 0)),(6,jq l.Nodes),(9,H ay l),(10,H (rH aZ [(1,.slice none 0 0),(2,.slice none 0 0)]) (⟨l,[],[]⟩:aq)),(11,tV (ax b3 0)),(12,bw Bl l.Nodes),(13,gP (ak) l.Nodes),(14,jq l.Nodes),(15,jq l.Nodes),(16,gM (decide ((l.Nodes.length:Int)<(1:Int)))),(17,gM (decide ((l.Nodes.length:Int)<(1:Int)))),(18,ln (!(decide ((l.Nodes.length:Int)<(1:Int)))) (jq l.Nodes)),(19,ln (!(decide ((l.Nodes.length:Int)<(1:Int)))) (gM (decide ((60:Int)<(l.Nodes.length:Int))))),(20,gM ((decide ((l.Nodes.length:Int)<(1:Int)))||(decide ((60:Int)<(l.Nodes.length:Int))))),(22,tV (ax b3 0)),(24,cA x.1),(25,gM x.2)]) ?_ ⟨M,M,M,M,M,M,M,M,M,M,M,M,M,M,M,M,M,M,M,M,M,M,aQ⟩;refine aV<|aT M<|aG<|jm M<|bq<|I4<|av<|aY M<|K (jn (D M))<|dq h M (fun h=>?_) (fun h=>?_)
   ·refine aV<|K (qO nH (.tail _ (.head _)) (D M))<|bu M<|tm (EffOK.fr4 (gD nH M (pQ ae) M (D M) (hW (D M) M))) fun i3=>?_;refine(show RG _ _ _ _ [_,_,_,_,_] _ from ?_);exact mz<|aO cn ae M<|mz<|cW Jn M ae M (D M) hB<|dG<|yj<|aH<|aH<|aH<|cz<|cz<|so h▸Dt 0 M (false,x.1,true) M M
   ·exact cg<|bh<|so h▸Du (x1,x2,p) M M
  ·skip
   obtain⟨x3,x4,p1⟩:=i2
   obtain rfl:x3=r.1.2.1:=congrArg (fun q:Bool×Int×Bool=>q.1) hi
   obtain rfl:x4=r.1.2.2.1:=congrArg (fun q:Bool×Int×Bool=>q.2.1) hi
   obtain rfl:p1=r.1.2.2.2:=congrArg (fun q:Bool×Int×Bool=>q.2.2) hi
   have h:=ct h (by rw [hj];rfl);refine(show AT _ _ _ [Gx bd,bx (rH aZ [(1,aK (j.h 0).1 (j.h 0).2 r.2.kinds.length),(2,aK (j.h 1).1 (j.h 1).2 r.2.first.length)]) 102 b3 r.2,gT pm 23 (j.h 0).1 (j.h 0).2 r.2.kinds,gT cB 3 (j.h 1).1 (j.h 1).2 r.2.first,bx rV 96 b4 (ax b3 0),bx rB 4 b2 r.1.2.1,bx cB 3 b1 r.1.2.2.1,bx rV 96 b (bif r.1.2.2.2 then ax b3 0 else .pointer none)] _ from ?_);refine cT (G' :=[(0,H ay l),(1,bw ay l),(2,tV (ax b 0)),(3,tV (ax b1 0)),(4,tV (ax b2 0)),(5,tV (ax b4 0)),(6,jq l.Nodes),(9,H ay l),(10,H (rH aZ [(1,.slice none 0 0),(2,.slice none 0 0)]) (⟨l,[],[]⟩:aq)),(11,tV (ax b3 0)),(12,bw Bl l.Nodes),(13,gP (ak) l.Nodes),(14,jq l.Nodes),(15,jq l.Nodes),(16,gM (decide ((l.Nodes.length:Int)<(1:Int)))),(17,gM (decide ((l.Nodes.length:Int)<(1:Int)))),(18,ln (!(decide ((l.Nodes.length:Int)<(1:Int)))) (jq l.Nodes)),(19,ln (!(decide ((l.Nodes.length:Int)<(1:Int)))) (gM (decide ((60:Int)<(l.Nodes.length:Int))))),(20,gM ((decide ((l.Nodes.length:Int)<(1:Int)))||(decide ((60:Int)<(l.Nodes.length:Int))))),(22,tV (ax b3 0))]) ?_ ⟨M,M,M,M,M,M,M,M,M,M,M,M,M,M,M,M,M,M,M,M,aQ⟩;refine bh<|aB<|aJ<|cy h fun e q_e h=>?_
   refine jC 14 [tc (tV (ax b3 0)),tc (jq l.Nodes),tc (cA (IntKind.i64.wrap ((l.Nodes.length:Int)-(1:Int)))),tc (tV (ax b3 0)),tc (tV (ax b3 0)),tc (tV (ax b3 2)),tc (tO cB (j.h 1).1 (j.h 1).2 r.2.first),tc (jq l.Nodes),tc (cA (IntKind.i64.wrap ((l.Nodes.length:Int)-(1:Int)))),tc (bw cB e),tc (cA e),tc (gM (e==(0:Int))),tc (vF),tc (vF)] [false,false,false,false,false,false,false,false,false,false,false,false,true,true] [fun _=>[Gx bd,bx (rH aZ [(1,aK (j.h 0).1 (j.h 0).2 r.2.kinds.length),(2,aK (j.h 1).1 (j.h 1).2 r.2.first.length)]) 102 b3 r.2,gT pm 23 (j.h 0).1 (j.h 0).2 r.2.kinds,gT cB 3 (j.h 1).1 (j.h 1).2 r.2.first,bx rV 96 b4 (ax b3 0),bx rB 4 b2 r.1.2.1,bx cB 3 b1 r.1.2.2.1,bx rV 96 b (bif r.1.2.2.2 then ax b3 0 else .pointer none)],fun sg=>[bx rV 96 b (ax b3 0),Gx bd,bx (rH aZ [(1,aK (j.h 0).1 (j.h 0).2 r.2.kinds.length),(2,aK (j.h 1).1 (j.h 1).2 r.2.first.length)]) 102 b3 r.2,gT pm 23 (j.h 0).1 (j.h 0).2 r.2.kinds,gT cB 3 (j.h 1).1 (j.h 1).2 r.2.first,bx rV 96 b4 (ax b3 0),bx rB 4 b2 r.1.2.1,bx cB 3 b1 r.1.2.2.1],fun sg=>[bx cB 3 b1 (IntKind.i64.wrap ((l.Nodes.length:Int)-(1:Int))),bx rV 96 b (ax b3 0),Gx bd,bx (rH aZ [(1,aK (j.h 0).1 (j.h 0).2 r.2.kinds.length),(2,aK (j.h 1).1 (j.h 1).2 r.2.first.length)]) 102 b3 r.2,gT pm 23 (j.h 0).1 (j.h 0).2 r.2.kinds,gT cB 3 (j.h 1).1 (j.h 1).2 r.2.first,bx rV 96 b4 (ax b3 0),bx rB 4 b2 r.1.2.1]] M mixed M M M M M
    ⟨⟨[⟨5,fun _=>tV (ax b4 0),none⟩],_,0,0,M,⟨(fun _=>M),aQ⟩,M,M,M,M,M,si (fun sg=>ac M (qO nH (.tail _ (.tail _ (.tail _ (.tail _ (.head _))))) (D M)))⟩,
    ⟨⟨[⟨6,fun _=>H cB (l.Nodes.length:Int),none⟩],_,0,1,M,⟨(fun _=>M),aQ⟩,M,M,M,M,M,fun _ sg _ _=>ac M (m0 M)⟩,
    ⟨⟨[⟨31,fun _=>H cB (l.Nodes.length:Int),some 1⟩],_,0,1,M,⟨(fun _=>M),aQ⟩,M,M,M,M,M,fun _ sg _ _=>ac M (fN (D M) hI)⟩,
    ⟨⟨[⟨5,fun _=>tV (ax b4 0),none⟩],_,0,2,M,⟨(fun _=>M),aQ⟩,M,M,M,M,M,xy (fun sg=>ac M (qO nH (.tail _ (.tail _ (.tail _ (.tail _ (.head _))))) (D M))) (xy (fun sg=>ac M (qO nH (.tail _ (.tail _ (.tail _ (.tail _ (.tail _ (.head _)))))) (D M))) (si (fun sg=>ac M (qO nH (.tail _ (.tail _ (.tail _ (.tail _ (.tail _ (.tail _ (.head _))))))) (D M)))))⟩,
    ⟨⟨[⟨33,fun _=>tV (ax b3 0),some 3⟩],_,0,2,M,⟨(fun _=>M),aQ⟩,M,M,M,M,M,fun _ sg _ _=>ac M (gN (D M))⟩,
    ⟨⟨[⟨34,fun _=>tV (ax b3 0),some 4⟩],_,0,2,M,⟨(fun _=>M),aQ⟩,M,M,M,M,M,fun _ sg _ _=>ac M (rJ 2 ro M M M)⟩,
    ⟨⟨[⟨35,fun _=>tV (ax b3 2),some 5⟩],_,0,2,M,⟨(fun _=>M),aQ⟩,M,M,M,M,M,xy (fun sg=>ac M (gh eM M (.tail _ (.head _)) (.tail _ (.tail _ (.tail _ (.head _)))) (D M))) (xy (fun sg=>ac M (gh eM M (.tail _ (.tail _ (.head _))) (.tail _ (.tail _ (.tail _ (.tail _ (.head _))))) (D M))) (si (fun sg=>ac M (gh eM M (.tail _ (.tail _ (.tail _ (.head _)))) (.tail _ (.tail _ (.tail _ (.tail _ (.tail _ (.head _)))))) (D M)))))⟩,
    ⟨⟨[⟨6,fun _=>H cB (l.Nodes.length:Int),none⟩],_,0,2,M,⟨(fun _=>M),aQ⟩,M,M,M,M,M,fun _ sg _ _=>ac M (m0 M)⟩,
    ⟨⟨[⟨37,fun _=>H cB (l.Nodes.length:Int),some 7⟩],_,0,2,M,⟨(fun _=>M),aQ⟩,M,M,M,M,M,fun _ sg _ _=>ac M (fN (D M) hI)⟩,
    ⟨⟨[⟨36,fun _=>tO cB (j.h 1).1 (j.h 1).2 r.2.first,some 6⟩,⟨38,fun _=>H cB (IntKind.i64.wrap ((l.Nodes.length:Int)-(1:Int))),some 8⟩],_,0,2,M,⟨(fun _=>M),(fun _=>M),aQ⟩,M,M,M,M,M,fun _ sg _ _=>ac M (bn fS cn M (mD (D M)) (D M) q_e)⟩,
    ⟨⟨[⟨39,fun _=>bw cB e,some 9⟩],_,0,2,M,⟨(fun _=>M),aQ⟩,M,M,M,M,M,fun _ sg _ _=>ac M (oI cn M M)⟩,
    ⟨⟨[⟨40,fun _=>H cB e,some 10⟩],_,0,2,M,⟨(fun _=>M),aQ⟩,M,M,M,M,M,fun _ sg _ _=>ac M (PA M)⟩,
    ⟨⟨[⟨2,fun _=>tV (ax b 0),none⟩,⟨30,fun _=>tV (ax b3 0),some 0⟩],_,M,⟨(fun _=>M),(fun _=>M),aQ⟩,M,M,M,fun sg=>cx M (EffOK.fr7 (gD nH M (pQ ae) M (D M) (hW (D M) M)))⟩,
    ⟨⟨[⟨3,fun _=>tV (ax b1 0),none⟩,⟨32,fun _=>H cB (IntKind.i64.wrap ((l.Nodes.length:Int)-(1:Int))),some 2⟩],_,M,⟨(fun _=>M),(fun _=>M),aQ⟩,M,M,M,fun sg=>cx M (EffOK.fr7 (gD cn M (pQ ae) M (D M) (D M)))⟩,
    aQ⟩⟩⟩⟩⟩⟩⟩⟩⟩⟩⟩⟩⟩⟩ (fun sg=>?_)
   refine(show RG _ _ _ _ [_,_,_,_,_,_,_,_] _ from ?_);exact IP<|aO Jn ae M<|dG<|cz<|yk<|wo 11 M<|aH<|aI 2 M<|bp<|aI 3 M<|aI 4 M<|bp<|aM<|bp<|aM<|bp<|aM<|HP<|A9<|so h▸bH (ts:=[bw aZ r.2,cA (IntKind.i64.wrap ((l.Nodes.length:Int)-(1:Int))),gM (e==(0:Int))]) (rvs:=[.cell 2 96,.cell 3 3,.cell 4 4]) M M ⟨xI (j:=11) nH M M,bg cn M M M,bg Jn M M M,aQ⟩
  ·skip
   obtain⟨x5,x6,p2⟩:=i2
   obtain rfl:x5=r.1.2.1:=congrArg (fun q:Bool×Int×Bool=>q.1) hi
   obtain rfl:x6=r.1.2.2.1:=congrArg (fun q:Bool×Int×Bool=>q.2.1) hi
   obtain rfl:p2=r.1.2.2.2:=congrArg (fun q:Bool×Int×Bool=>q.2.2) hi
   have h:=cf h (by rw [hj];rfl);refine(show CG _ _ _ [Gx bd,bx (rH aZ [(1,aK (j.h 0).1 (j.h 0).2 r.2.kinds.length),(2,aK (j.h 1).1 (j.h 1).2 r.2.first.length)]) 102 b3 r.2,gT pm 23 (j.h 0).1 (j.h 0).2 r.2.kinds,gT cB 3 (j.h 1).1 (j.h 1).2 r.2.first,bx rV 96 b4 (ax b3 0),bx rB 4 b2 r.1.2.1,bx cB 3 b1 r.1.2.2.1,bx rV 96 b (bif r.1.2.2.2 then ax b3 0 else .pointer none)] _ from ?_);refine Lf (G' :=[(0,H ay l),(1,bw ay l),(2,tV (ax b 0)),(3,tV (ax b1 0)),(4,tV (ax b2 0)),(5,tV (ax b4 0)),(6,jq l.Nodes),(9,H ay l),(10,H (rH aZ [(1,.slice none 0 0),(2,.slice none 0 0)]) (⟨l,[],[]⟩:aq)),(11,tV (ax b3 0)),(12,bw Bl l.Nodes),(13,gP (ak) l.Nodes),(14,jq l.Nodes),(15,jq l.Nodes),(16,gM (decide ((l.Nodes.length:Int)<(1:Int)))),(17,gM (decide ((l.Nodes.length:Int)<(1:Int)))),(18,ln (!(decide ((l.Nodes.length:Int)<(1:Int)))) (jq l.Nodes)),(19,ln (!(decide ((l.Nodes.length:Int)<(1:Int)))) (gM (decide ((60:Int)<(l.Nodes.length:Int))))),(20,gM ((decide ((l.Nodes.length:Int)<(1:Int)))||(decide ((60:Int)<(l.Nodes.length:Int))))),(22,tV (ax b3 0))]) ?_ ⟨M,M,M,M,M,M,M,M,M,M,M,M,M,M,M,M,M,M,M,M,aQ⟩;exact lz<|eX<|cy h fun u q_u h=>Lj (O' :=[Gx bd,bx (rH aZ [(1,aK (j.h 0).1 (j.h 0).2 r.2.kinds.length),(2,aK (j.h 1).1 (j.h 1).2 r.2.first.length)]) 102 b3 r.2,gT pm 23 (j.h 0).1 (j.h 0).2 r.2.kinds,gT cB 3 (j.h 1).1 (j.h 1).2 r.2.first,bx rV 96 b4 (ax b3 0),bx rB 4 b2 r.1.2.1,bx cB 3 b1 r.1.2.2.1,bx rV 96 b (ax b3 0)]) (by rw [show r.1.2.2.2=true from J6 q_u];rfl)<|bp<|yk<|wo 11 M<|Cq<|aI 2 M<|ki<|aI 3 M<|cz<|aI 4 M<|bp<|aM<|bp<|aM<|bp<|aM<|HP<|A9<|so h▸bH (ts:=[bw aZ r.2,cA r.1.2.2.1,gM r.1.2.1]) (rvs:=[.cell 2 96,.cell 3 3,.cell 4 4]) M M ⟨xI (j:=11) nH M M,bg cn M M M,bg Jn M M M,aQ⟩

def xY l{R}(h:iS l=some R):cI bk 35 [H ay l] (tT [cA R.1,cA R.2]):=by
 refine eC Tryz.func35 M<|aV<|dn M<|da<|da<|cb<|aV<|bA cJ M<|eg h Pp (Gq _) (cm M) fun r h=>bu M<|bS M M<|bS M M<|bS M M<|jm M<|jm M<|aT M<|aJ<|aJ ?_;refine aG<|bu M<|K (jn (D M))<|dq h M (fun h=>?_) (fun h=>?_)
 ·exact aY M<|jm M<|fK<|au<|so h▸eW M M M
 ·exact ko<|aV<|da<|fK<|so h▸eW M M M

def uV s{R}(h:aU s=some R):gk bk 81 [gP (ap) s] false ap 63 R:=by
 refine gk.of Tryz.func81 M M M fun w0 S0=>aV<|bC false ap 63<|K (bz sD)<|cb<|bm<|bu M<|uB gp (D M) M fun isnil hisnil=>cb<|pl (D M) (fun hc=>?_) (fun hc=>?_)
 ·have I:=hisnil hc
  have h:some Cz=some R:=by simpa [aU,jp,I] using h
  exact aV<|bC false ap 63<|K (bz sD)<|dG<|au<|so h▸gn M M
 ·exact ko<|aV<|fh (r:=ap) (ys:=Cz) (xs:=[]) gp eY M M M M M trivial M fun l c=>bu M<|cy h fun x q_x h=>dm eY M M M M gp M M (D M) (D M) q_x fun l1 c1=>bF M<|so h▸gn M M
def Kn s{R}(h:aU s=some R):cI bk 81 [gP (ap) s] (gP (ap) R):=(uV _ h).spec

def KI s{R}(h:dD s=some R):gk bk 116 [gP (fU) s] false fU 81 R:=by
 refine gk.of Tryz.func116 M M M fun w0 S0=>aV<|bC false fU 81<|K (bz sD)<|cb<|bm<|bu M<|uB yY (D M) M fun isnil hisnil=>cb<|pl (D M) (fun hc=>?_) (fun hc=>?_)
 ·have I:=hisnil hc
  have h:some ([]:List ly)=some R:=by simpa [dD,jp,I] using h
  exact aV<|bC false fU 81<|K (bz sD)<|dG<|au<|so h▸gn M M
 ·exact ko<|aV<|fh (r:=fU) (ys:=([]:List ly)) (xs:=[]) yY FE M M M M M trivial M fun l c=>bu M<|cy h fun x q_x h=>dm FE M M M M yY M M (D M) (D M) q_x fun l1 c1=>bF M<|so h▸gn M M
def MP s{R}(h:dD s=some R):cI bk 116 [gP (fU) s] (gP (fU) R):=(KI _ h).spec

def KH s{R}(h:eD s=some R):gk bk 117 [gP (dt) s] false dt 77 R:=by
 refine gk.of Tryz.func117 M M M fun w0 S0=>aV<|bC false dt 77<|K (bz sD)<|cb<|bm<|bu M<|uB rE (D M) M fun isnil hisnil=>cb<|pl (D M) (fun hc=>?_) (fun hc=>?_)
 ·have I:=hisnil hc
  have h:some Lr=some R:=by simpa [eD,jp,I] using h
  exact aV<|bC false dt 77<|K (bz sD)<|dG<|au<|so h▸gn M M
 ·exact ko<|aV<|fh (r:=dt) (ys:=Lr) (xs:=[]) rE tF M M M M M trivial M fun l c=>bu M<|cy h fun x q_x h=>dm tF M M M M rE M M (D M) (D M) q_x fun l1 c1=>bF M<|so h▸gn M M
def KG s{R}(h:cc s=some R):gk bk 118 [gP (ah) s] false ah 27 R:=by
 refine gk.of Tryz.func118 M M M fun w0 S0=>aV<|bC false ah 27<|K (bz sD)<|cb<|bm<|bu M<|uB lJ (D M) M fun isnil hisnil=>cb<|pl (D M) (fun hc=>?_) (fun hc=>?_)
 ·have I:=hisnil hc
  have h:some vB=some R:=by simpa [cc,jp,I] using h
  exact aV<|bC false ah 27<|K (bz sD)<|dG<|au<|so h▸gn M M
 ·exact ko<|aV<|fh (r:=ah) (ys:=vB) (xs:=[]) lJ aX M M M M M trivial M fun l c=>bu M<|cy h fun x q_x h=>dm aX M M M M lJ M M (D M) (D M) q_x fun l1 c1=>bF M<|so h▸gn M M
def Pi{l:Option Nat}{c:Nat}{xs s:List ai}{lo:Int}{R}(hs:db xs lo (xs.length:Int)=some s)(h:cc s=some R):fg bk 118 [tV (mJ 1 l c lo.toNat s.length)] [fi ah 27 l c xs] (fun i:OI=>sO (i.h 0).1 (i.h 0).2 R) (fun i=>[fi ah 27 (i.h 0).1 (i.h 0).2 R,fi ah 27 l c xs]):=by
 refine fg.of Tryz.func118 M M M fun w0 S0=>aV<|K (bz sD)<|cb<|bm<|bu M<|Cj (r:=ah) lJ (.head _) hs (D M) M fun isnil hisnil=>cb<|pl (D M) (fun hc=>?_) (fun hc=>?_)
 ·have I:=hisnil hc
  have h:some vB=some R:=by simpa [cc,jp,I] using h
  exact aV<|bC false ah 27<|K (bz sD)<|dG<|au<|so h▸mY M (oi none 0) M M (fun _ _ h=>h)
 ·exact ko<|aV<|fh (r:=ah) (ys:=vB) (xs:=[]) lJ aX M M M M M trivial M fun l1 c1=>bu M<|cy h fun x q_x h=>AX aX M M M M lJ M M (D M) (.tail _ (.head _)) hs (D M) q_x fun l2 c2=>bF M<|so h▸mY M (oi l2 c2) M M (fun _ _ h=>h)

def Gp n by1{R}(h:mp n by1=some R):cI bk 85 [H ak n,cA by1] (H ak R):=by
 refine eC Tryz.func85 M<|aV<|rz (D M) M fun b=>aC dR io M fun b1=>cb ?_;refine iZ (h3:=fun n1=>m5 by1 n1=some R) (Of:=fun n1=>[bx ak 55 b n1,bx ak 55 b1 Jg]) (Gf:=fun n1=>[(1,cA by1),(2,tV (ax b 0)),(4,tV (ax b1 0))]) (fun n1 h=>?_) (fun af=>?_)
 ·skip
  refine iZ (h3:=fun n2=>kV n2=some R) (Of:=fun n2=>[bx ak 55 b n2,bx ak 55 b1 Jg]) (Gf:=fun n2=>[(2,tV (ax b 0)),(4,tV (ax b1 0))]) (fun n2 h=>?_) (fun K1=>?_)
  ·skip
   refine aJ<|cy h fun r q_r h=>cy h fun r1 q_r1 h=>cy h fun r2 q_r2 h=>?_
   refine kh 10 (ts:=[tV (ax b 4),lI n2.Kinds,lI r,tV (ax b 7),lI n2.Keys,lI r1,tV (ax b 10),gP (fU) n2.Order,gP (fU) r2,tV (ax b 4)]) mixed M M M
    ⟨pN 2 M M (rJ 4 rX M M M),
    ⟨eH 23 0 M M (bf eM M M ni (.head _) (D M)),
    ⟨eH 24 1 M M (ce KV (Kt _ q_r) ⟨(D M),aQ⟩),
    ⟨pN 2 M M (rJ 7 qT M M M),
    ⟨eH 26 3 M M (bf eM M M lY (.head _) (D M)),
    ⟨eH 27 4 M M (ce KV (Kt _ q_r1) ⟨(D M),aQ⟩),
    ⟨pN 2 M M (rJ 10 rn M M M),
    ⟨eH 29 6 M M (bf Bn M M lZ (.head _) (D M)),
    ⟨eH 30 7 M M (ce Rr (MP _ q_r2) ⟨(D M),aQ⟩),
    ⟨pN 2 M M (rJ 4 rX M M M),
    aQ⟩⟩⟩⟩⟩⟩⟩⟩⟩⟩ ?_
   refine aO eM qC M<|bI 7 qT M<|aO eM vL M<|bI 10 rn M<|aO Bn yB M<|cb<|aV<|bI 6 kN M<|bI 6 dk M<|K (bf iY M M (kW fW cE) (.head _) (D M))<|q5 h GE (uV _) (cm M) fun r3 h l c=>bI 6 kN M<|bI 6 dk M<|hD<|mW 38 M<|aS<|cW iY M (xD fW lN qi) M (D M) (mD (D M))<|cb<|aJ<|cy h fun r4 q_r4 h=>?_;refine cy h fun r5 q_r5 h=>?_
   refine jC 7 [tc (tV (ax b 8)),tc (gP (dt) (({(aa.mk n2.Op n2.A n2.B n2.Table r n2.Left n2.Cond r1 n2.Aggs n2.Items r2 n2.Limit)with Cond:=({(aa.mk n2.Op n2.A n2.B n2.Table r n2.Left n2.Cond r1 n2.Aggs n2.Items r2 n2.Limit).Cond with Nodes:=r3}:ai)}:aa).Aggs)),([2],fun s=>tV (aK ((s.getD 0 qg).h 0).1 ((s.getD 0 qg).h 0).2 r4.length)),tc (tV (ax b 9)),tc (gP (ah) (({(aa.mk n2.Op n2.A n2.B n2.Table r n2.Left n2.Cond r1 n2.Aggs n2.Items r2 n2.Limit)with Cond:=({(aa.mk n2.Op n2.A n2.B n2.Table r n2.Left n2.Cond r1 n2.Aggs n2.Items r2 n2.Limit).Cond with Nodes:=r3}:ai)}:aa).Items)),([5],fun s=>tV (aK ((s.getD 0 qg).h 0).1 ((s.getD 0 qg).h 0).2 r5.length)),tc (tV (ax b 8))] [false,false,true,false,false,true,false] [fun _=>[bx ak 55 b ({(aa.mk n2.Op n2.A n2.B n2.Table r n2.Left n2.Cond r1 n2.Aggs n2.Items r2 n2.Limit)with Cond:=({(aa.mk n2.Op n2.A n2.B n2.Table r n2.Left n2.Cond r1 n2.Aggs n2.Items r2 n2.Limit).Cond with Nodes:=r3}:ai)}:aa),gT ap 63 l c r3,bx ak 55 b1 Jg],fun sg=>[fi dt 77 ((sg 2).h 0).1 ((sg 2).h 0).2 r4,bx ak 55 b ({(aa.mk n2.Op n2.A n2.B n2.Table r n2.Left n2.Cond r1 n2.Aggs n2.Items r2 n2.Limit)with Cond:=({(aa.mk n2.Op n2.A n2.B n2.Table r n2.Left n2.Cond r1 n2.Aggs n2.Items r2 n2.Limit).Cond with Nodes:=r3}:ai)}:aa),gT ap 63 l c r3,bx ak 55 b1 Jg],fun sg=>[fi ah 27 ((sg 5).h 0).1 ((sg 5).h 0).2 r5,fi dt 77 ((sg 2).h 0).1 ((sg 2).h 0).2 r4,bx ak 55 b ({(aa.mk n2.Op n2.A n2.B n2.Table r n2.Left n2.Cond r1 n2.Aggs n2.Items r2 n2.Limit)with Cond:=({(aa.mk n2.Op n2.A n2.B n2.Table r n2.Left n2.Cond r1 n2.Aggs n2.Items r2 n2.Limit).Cond with Nodes:=r3}:ai)}:aa),gT ap 63 l c r3,bx ak 55 b1 Jg]] M mixed M M M M M
    ⟨⟨[⟨2,fun _=>tV (ax b 0),none⟩],_,0,0,M,⟨(fun _=>M),aQ⟩,M,M,M,M,M,fun _ sg _ _=>ac M (rJ 8 nj M M M)⟩,
    ⟨⟨[⟨41,fun _=>tV (ax b 8),some 0⟩],_,0,0,M,⟨(fun _=>M),aQ⟩,M,M,M,M,M,si (fun sg=>ac M (bf vE M M nh (.head _) (D M)))⟩,
    ⟨⟨[⟨42,fun _=>H (gy dt) (({(aa.mk n2.Op n2.A n2.B n2.Table r n2.Left n2.Cond r1 n2.Aggs n2.Items r2 n2.Limit)with Cond:=({(aa.mk n2.Op n2.A n2.B n2.Table r n2.Left n2.Cond r1 n2.Aggs n2.Items r2 n2.Limit).Cond with Nodes:=r3}:ai)}:aa).Aggs),some 1⟩],_,M,⟨(fun _=>M),aQ⟩,M,M,M,fun sg=>cx M (uY (xs:=[.tmp 42]) (ts:=[H (gy dt) (({(aa.mk n2.Op n2.A n2.B n2.Table r n2.Left n2.Cond r1 n2.Aggs n2.Items r2 n2.Limit)with Cond:=({(aa.mk n2.Op n2.A n2.B n2.Table r n2.Left n2.Cond r1 n2.Aggs n2.Items r2 n2.Limit).Cond with Nodes:=r3}:ai)}:aa).Aggs)]) Rq (KH _ q_r4) ⟨(D M),aQ⟩)⟩,
    ⟨⟨[⟨2,fun _=>tV (ax b 0),none⟩],_,0,1,M,⟨(fun _=>M),aQ⟩,M,M,M,M,M,fun _ sg _ _=>ac M (rJ 9 kM M M M)⟩,
    ⟨⟨[⟨44,fun _=>tV (ax b 9),some 3⟩],_,0,1,M,⟨(fun _=>M),aQ⟩,M,M,M,M,M,xy (fun sg=>ac M (bf hU M M gX (.head _) (D M))) (si (fun sg=>ac M (bf hU M M gX (.tail _ (.head _)) (D M))))⟩,
    ⟨⟨[⟨45,fun _=>H vA (({(aa.mk n2.Op n2.A n2.B n2.Table r n2.Left n2.Cond r1 n2.Aggs n2.Items r2 n2.Limit)with Cond:=({(aa.mk n2.Op n2.A n2.B n2.Table r n2.Left n2.Cond r1 n2.Aggs n2.Items r2 n2.Limit).Cond with Nodes:=r3}:ai)}:aa).Items),some 4⟩],_,M,⟨(fun _=>M),aQ⟩,M,M,M,fun sg=>cx M (uY (xs:=[.tmp 45]) (ts:=[H vA (({(aa.mk n2.Op n2.A n2.B n2.Table r n2.Left n2.Cond r1 n2.Aggs n2.Items r2 n2.Limit)with Cond:=({(aa.mk n2.Op n2.A n2.B n2.Table r n2.Left n2.Cond r1 n2.Aggs n2.Items r2 n2.Limit).Cond with Nodes:=r3}:ai)}:aa).Items)]) NY (KG _ q_r5) ⟨(D M),aQ⟩)⟩,
    ⟨⟨[⟨2,fun _=>tV (ax b 0),none⟩],_,1,2,M,⟨(fun _=>M),aQ⟩,M,M,M,M,M,fun _ sg _ _=>ac M (rJ 8 nj M M M)⟩,
    aQ⟩⟩⟩⟩⟩⟩⟩ (fun sg=>?_)
   refine(show RG _ _ _ _ [_,_,_,_,_] _ from ?_);refine dl<|d6 vE M (qA _ _) M (D M) (Bx (D M))<|bI 9 kM M<|d6 hU M (nO _ _ _) M (D M) (Bx (D M))<|cb<|bm<|bI 8 nj M<|K (fq vE lX (.head _) M (D M))<|K (eU rE (.tail _ (.tail _ (.head _))) (D M))<|K (cj hI)<|cb<|av<|fR (.tail _ (.tail _ (.head _))) fun hN=>ci<|kg<|oz<|cX<|eT<|eT<|kg ?_;refine aN (jh (h3:=fun ls i n3=>(r4.drop i=ls)/\kU ls i n3=some R) (Of:=fun _ i n3=>[bx ak 55 b1 Jg,bx dv 55 b (ft n3 (aK ((sg 2).h 0).1 ((sg 2).h 0).2 n3.Aggs.length) (aK ((sg 5).h 0).1 ((sg 5).h 0).2 n3.Items.length)),fi dt 77 ((sg 2).h 0).1 ((sg 2).h 0).2 n3.Aggs,fi ah 27 ((sg 5).h 0).1 ((sg 5).h 0).2 n3.Items]) (Gf:=fun _ i n3=>[(2,tV (ax b 0)),(4,tV (ax b1 0)),(51,jq r4),(52,cA (i:Int))]) (fun i n3 h=>?_) (fun e tl ih i n3 h=>?_) r4 0 ({({({(aa.mk n2.Op n2.A n2.B n2.Table r n2.Left n2.Cond r1 n2.Aggs n2.Items r2 n2.Limit)with Cond:=({(aa.mk n2.Op n2.A n2.B n2.Table r n2.Left n2.Cond r1 n2.Aggs n2.Items r2 n2.Limit).Cond with Nodes:=r3}:ai)}:aa)with Aggs:=r4}:aa)with Items:=r5}:aa) ⟨M,h⟩) (bv M)
   ·obtain⟨I,h⟩:=h
    refine eQ I M<|aB<|bm<|bI 9 kM M<|K (fq hU lW (.tail _ (.head _)) M (D M))<|K (eU lJ (.tail _ (.tail _ (.tail _ (.head _)))) (D M))<|K (cj hI)<|cb<|av<|fR (.tail _ (.tail _ (.tail _ (.head _)))) fun hN1=>?_;refine ci ?_;refine aN (jh (h3:=fun ls1 i1 n4=>(n3.Items.drop i1=ls1)/\kT ls1 i1 n4=some R) (Of:=fun _ i1 n4=>[bx ak 55 b1 Jg,bx dv 55 b (ft n4 (aK ((sg 2).h 0).1 ((sg 2).h 0).2 n4.Aggs.length) (aK ((sg 5).h 0).1 ((sg 5).h 0).2 n4.Items.length)),fi dt 77 ((sg 2).h 0).1 ((sg 2).h 0).2 n4.Aggs,fi ah 27 ((sg 5).h 0).1 ((sg 5).h 0).2 n4.Items]) (Gf:=fun _ i1 n4=>[(2,tV (ax b 0)),(4,tV (ax b1 0)),(72,jq n3.Items),(73,cA (i1:Int))]) (fun i1 n4 h=>?_) (fun e1 tl1 ih1 i1 n4 h=>?_) n3.Items 0 n3 ⟨M,h⟩) (bv M)
    ·obtain⟨hx1,h⟩:=h
     refine eQ hx1 M<|aB<|aV<|dl<|hD<|d7<|hD<|K (iI (q:=ak) (y:=n4) dR M M M M (.tail _ (.tail _ (.tail _ (.head _)))) (fun _ _ _ ho h=>ru (jO ho (.tail _ (.head _))) (jO ho (.head _)) h) (D M))<|dl<|aO dR ae M<|aD 4 M<|bq ?_;exact aB<|lz<|aM<|aM<|aM<|so h▸gE M dR M M M
    ·obtain⟨hx1,h⟩:=h
     refine eP hx1 M<|aJ<|av<|aY M<|aT M<|cy h fun e2 q_e2 h=>cy h fun r6 q_r6 h=>?_
     refine kh 12 (ts:=[tV (ax b 9),tV (aK ((sg 5).h 0).1 ((sg 5).h 0).2 n4.Items.length),cA (i1:Int),tV (ax b 9),tV (aK ((sg 5).h 0).1 ((sg 5).h 0).2 n4.Items.length),cA (i1:Int),tV (jf ((sg 5).h 0).1 ((i1:Int).toNat*1+0)),tV (jf ((sg 5).h 0).1 ((i1:Int).toNat*1+0)),gP (ap) e2.Nodes,gP (ap) r6,tV (jf ((sg 5).h 0).1 ((i1:Int).toNat*1+0)),tV (jf ((sg 5).h 0).1 ((i1:Int).toNat*1+0))]) mixed M M M
      ⟨pN 2 M M (rJ 9 kM M M M),
      ⟨eH 76 0 M M (fq hU lW (.tail _ (.head _)) M (D M)),
      ⟨jt M M,
      ⟨pN 2 M M (rJ 9 kM M M M),
      ⟨eH 79 3 M M (fq hU lW (.tail _ (.head _)) M (D M)),
      ⟨jt M M,
      ⟨gr 80 4 81 5 M M M (bW lJ aX (.tail _ (.tail _ (.tail _ (.head _)))) (D M) (D M) q_e2),
      ⟨eH 82 6 M M (cD (o:=(i1:Int).toNat*1+0) (n:=(i1:Int).toNat*1+0) dk M (.tail _ (.tail _ (.tail _ (.head _)))) q_e2 (D M) M),
      ⟨eH 83 7 M M (dd (r:=ah) (i:=(i1:Int)) (foff:=0) iY M M cE M (.tail _ (.tail _ (.tail _ (.head _)))) q_e2 (D M)),
      ⟨eH 84 8 M M (ce GE (Kn _ q_r6) ⟨(D M),aQ⟩),
      ⟨gr 77 1 78 2 M M M (bW lJ aX (.tail _ (.tail _ (.tail _ (.head _)))) (D M) (D M) q_e2),
      ⟨eH 86 10 M M (cD (o:=(i1:Int).toNat*1+0) (n:=(i1:Int).toNat*1+0) dk M (.tail _ (.tail _ (.tail _ (.head _)))) q_e2 (D M) M),
      aQ⟩⟩⟩⟩⟩⟩⟩⟩⟩⟩⟩⟩ ?_
     refine d7<|cy h fun st q_st h=>ke iY M qi M q_e2 (so q_st) (D M) (D M)<|gm (dU (so q_st)) 77 M<|gm (dU (so q_st)) 80 M<|oy (O' :=[fi ah 27 ((sg 5).h 0).1 ((sg 5).h 0).2 st,bx ak 55 b1 Jg,bx dv 55 b (ft n4 (aK ((sg 2).h 0).1 ((sg 2).h 0).2 n4.Aggs.length) (aK ((sg 5).h 0).1 ((sg 5).h 0).2 st.length)),fi dt 77 ((sg 2).h 0).1 ((sg 2).h 0).2 n4.Aggs]) (by first|(rw [dU (so q_st)];done)|(rw [dU (so q_st)];exact M)|exact M)<|bq<|dQ hx1 hN1 M<|cr<|cr<|cr ?_;exact bj (aN (ih1 (i1+1) ({n4 with Items:=st}:aa) ⟨dC hx1,h⟩) (bv M))
   ·obtain⟨I,h⟩:=h
    refine eP I M<|aJ<|av<|aY M<|aT M<|cy h fun e3 q_e3 h=>cy h fun r7 q_r7 h=>?_
    refine kh 14 (ts:=[tV (ax b 8),tV (aK ((sg 2).h 0).1 ((sg 2).h 0).2 n3.Aggs.length),cA (i:Int),tV (ax b 8),tV (aK ((sg 2).h 0).1 ((sg 2).h 0).2 n3.Aggs.length),cA (i:Int),tV (jf ((sg 2).h 0).1 ((i:Int).toNat*2+0)),tV (jf ((sg 2).h 0).1 ((i:Int).toNat*2+1)),tV (jf ((sg 2).h 0).1 ((i:Int).toNat*2+1)),gP (ap) e3.Arg.Nodes,gP (ap) r7,tV (jf ((sg 2).h 0).1 ((i:Int).toNat*2+0)),tV (jf ((sg 2).h 0).1 ((i:Int).toNat*2+1)),tV (jf ((sg 2).h 0).1 ((i:Int).toNat*2+1))]) mixed M M M
     ⟨pN 2 M M (rJ 8 nj M M M),
     ⟨eH 55 0 M M (fq vE lX (.tail _ (.head _)) M (D M)),
     ⟨jt M M,
     ⟨pN 2 M M (rJ 8 nj M M M),
     ⟨eH 58 3 M M (fq vE lX (.tail _ (.head _)) M (D M)),
     ⟨jt M M,
     ⟨gr 59 4 60 5 M M M (bW rE tF (.tail _ (.tail _ (.head _))) (D M) (D M) q_e3),
     ⟨eH 61 6 M M (cD (o:=(i:Int).toNat*2+0) (n:=(i:Int).toNat*2+1) we M (.tail _ (.tail _ (.head _))) q_e3 (D M) M),
     ⟨eH 62 7 M M (cD (o:=(i:Int).toNat*2+1) (n:=(i:Int).toNat*2+1) dk M (.tail _ (.tail _ (.head _))) q_e3 (D M) M),
     ⟨eH 63 8 M M (dd (r:=dt) (i:=(i:Int)) (foff:=1) iY M M (kW sF cE) M (.tail _ (.tail _ (.head _))) q_e3 (D M)),
     ⟨eH 64 9 M M (ce GE (Kn _ q_r7) ⟨(D M),aQ⟩),
     ⟨gr 56 1 57 2 M M M (bW rE tF (.tail _ (.tail _ (.head _))) (D M) (D M) q_e3),
     ⟨eH 66 11 M M (cD (o:=(i:Int).toNat*2+0) (n:=(i:Int).toNat*2+1) we M (.tail _ (.tail _ (.head _))) q_e3 (D M) M),
     ⟨eH 67 12 M M (cD (o:=(i:Int).toNat*2+1) (n:=(i:Int).toNat*2+1) dk M (.tail _ (.tail _ (.head _))) q_e3 (D M) M),
     aQ⟩⟩⟩⟩⟩⟩⟩⟩⟩⟩⟩⟩⟩⟩ ?_
    refine dl<|cy h fun st1 q_st1 h=>ke iY M (xD sF DX qi) M q_e3 (so q_st1) (D M) (D M)<|gm (dU (so q_st1)) 56 M<|gm (dU (so q_st1)) 59 M<|oy (O' :=[fi dt 77 ((sg 2).h 0).1 ((sg 2).h 0).2 st1,bx ak 55 b1 Jg,bx dv 55 b (ft n3 (aK ((sg 2).h 0).1 ((sg 2).h 0).2 st1.length) (aK ((sg 5).h 0).1 ((sg 5).h 0).2 n3.Items.length)),fi ah 27 ((sg 5).h 0).1 ((sg 5).h 0).2 n3.Items]) (by first|(rw [dU (so q_st1)];done)|(rw [dU (so q_st1)];exact M)|exact M)<|bq<|dQ I hN M<|cr<|bp<|cr<|cr ?_;exact bj (aN (ih (i+1) ({n3 with Aggs:=st1}:aa) ⟨dC I,h⟩) (bv M))
  ·skip
   refine aV<|bI 2 pT M<|K (bf cn M M kG (.head _) (D M))<|K (gz (D M) hI)<|dq h M (fun h=>?_) (fun h=>?_)
   ·refine aG<|bI 2 pT M<|K (bf cn M M kG (.head _) (D M))<|bu M<|K (lr (D M) (D M))<|bI 2 pT M<|aO cn nb M<|bq ?_;exact cT (K1 (aa.mk n1.Op n1.A (IntKind.i64.wrap (n1.B+by1)) n1.Table n1.Kinds n1.Left n1.Cond n1.Keys n1.Aggs n1.Items n1.Order n1.Limit) h) (bv M)
   ·refine cg ?_;exact cT (K1 n1 h) (bv M)
 ·skip
  refine aV<|bI 1 j6 M<|K (bf cn M M fe (.tail _ (.head _)) (D M))<|K (gz (D M) hI)<|dq h M (fun h=>?_) (fun h=>?_)
  ·refine aG<|bI 1 j6 M<|K (bf cn M M fe (.tail _ (.head _)) (D M))<|bu M<|K (lr (D M) (D M))<|bI 1 j6 M<|aS<|aO cn nc M<|bq ?_;exact cT (af (aa.mk n.Op (IntKind.i64.wrap (n.A+by1)) n.B n.Table n.Kinds n.Left n.Cond n.Keys n.Aggs n.Items n.Order n.Limit) h) (bv M)
  ·refine cg<|bp ?_;exact cT (af n h) (bv M)

end Go.Proofs.YtbmmihfagmchaaaGreat

