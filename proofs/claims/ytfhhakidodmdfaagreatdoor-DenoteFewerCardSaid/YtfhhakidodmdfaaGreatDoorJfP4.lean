/- cU of this claim: P4. -/
import Derived.Test.YtfhhakidodmdfaaGreatDoorJfT
import Derived.Test.YtfhhakidodmdfaaGreatDoorJfP3
set_option linter.all false
namespace Go.Proofs.YtfhhakidodmdfaaGreatDoor
open Go
set_option maxRecDepth 100000

theorem S5(b:Nat)(ix:OI)(c:aE){R:PZ (Int×Bool) aE}(h:qp c=some R):B5 aQ 126 [tV (aO b 0)] (dD b c ix) (fun(x:Int×Bool)=>[bN x.1,iO x.2]) R (dD b):=by
 refine B5.of Tryz.func126 J J J fun w0 S0=>?_;refine(show CG _ _ _ [bx (rH bn [(1,aT (ix.h 0).1 (ix.h 0).2 c.kinds.length),(2,aT (ix.h 1).1 (ix.h 1).2 c.first.length)]) 115 b c,dW od 39 (ix.h 0).1 (ix.h 0).2 c.kinds,dW ca 3 (ix.h 1).1 (ix.h 1).2 c.first] _ from ?_);refine aw<|zo J (UN (fun _ _ h=>by rw [show _=_ from h];rfl) (ht J))<|zo J (aM hV)<|av<|aw<|il<|il<|il<|JG (O1:=dD b c ix) (cts:=[bM (rT (tV (aO b 0))) ()]) (caps:=[.tmp 1]) J ab4 (ST b ix c) ⟨(ht J),aS⟩ J fun v fp=>bq J<|av<|am ?_;cases so h;exact Rk J J

theorem NX(l:bc){R:aE×Int×Bool}(h:pI l=some R):aW aQ 72 [tD bS l] (tT [bM bn R.1,bN R.2.1,iO R.2.2]):=by
 refine Md Tryz.func72 J J J fun w0 S0=>aw<|zo J (js J)<|aX (r:=rV) (x:= .pointer none) lc (fun _=>⟨J,J⟩) J fun b=>aX (r:=ca) (x:=(0:Int)) cr (fun _=>J) J fun b1=>aX (r:=rB) (x:=false) Km (fun _=>J) J fun b2=>av<|aw<|zo J (bC hY J J)<|zo J (bY (r:=rH bn [(1,.slice none 0 0),(2,.slice none 0 0)]) (y:=(⟨l,[],[]⟩:aE)) aag aaE (zH MB ⟨J,J,aS⟩) (⟨_,_,_,_,_,J,Xk Iz J J,J,(ht J),J⟩))<|xd (ht J) J fun b3=>bP true od 39<|bP true ca 3 ?_;refine(show RG _ _ _ _ [dW ca 3 none 0 vw,dW od 39 none 0 Qc,bx (rH bn [(1,aT none 0 Qc.length),(2,aT none 0 vw.length)]) 115 b3 (⟨l,[],[]⟩:aE),bx rB 4 b2 false,bx ca 3 b1 (0:Int),bx rV 109 b (.pointer none)] _ from ?_);refine aX (r:=rV) (x:= .pointer none) lc (fun _=>⟨J,J⟩) J fun b4=>xb (oG lc J (Au an) J (ht J) (hW (ht J) J)) fun i=>?_;refine(show RG _ _ _ _ [bx rV 109 b4 (aO b3 0),dW ca 3 none 0 vw,dW od 39 none 0 Qc,bx (rH bn [(1,aT none 0 Qc.length),(2,aT none 0 vw.length)]) 115 b3 (⟨l,[],[]⟩:aE),bx rB 4 b2 false,bx ca 3 b1 (0:Int),bx rV 109 b (.pointer none)] _ from ?_);refine av<|aw<|zo J (c9 kW iL J J)<|zo J (bC tH J J)<|zo J (i7 p6 J)<|bq J<|av<|ah<|aw<|aG J<|zo J (gx (ht J) hI)<|aG J<|eG J J (fun hg=>de J)<|eG J J (fun hg=>fU (bG J hg) hI)<|zo J (xf J J)<|av<|c0 h J (fun h=>?_) (fun h=>?_)
 ·refine aw<|zo J (tZ lc (.head _) (ht J))<|xb (EffOK.fr6 (oG lc J (Au an) J (ht J) (hW (ht J) J))) fun i1=>?_;refine(show RG _ _ _ _ [bx rV 109 b (aO b3 0),bx rV 109 b4 (aO b3 0),dW ca 3 none 0 vw,dW od 39 none 0 Qc,bx (rH bn [(1,aT none 0 Qc.length),(2,aT none 0 vw.length)]) 115 b3 (⟨l,[],[]⟩:aE),bx rB 4 b2 false,bx ca 3 b1 (0:Int)] _ from ?_);refine zr<|aq cr J an J (ht J) hI<|zr<|aq Km J an J (ht J) hB<|av<|am<|ae<|wi<|C4<|AY 11 J<|aL<|bj 2 J<|bD<|bj 3 J<|bj 4 J<|bf<|bf<|bf<|ss ?_;cases so h;exact bQ (ts:=[bM bn (⟨l,[],[]⟩:aE),bN 0,iO false]) (rvs:=[.cell 2 109,.cell 3 3,.cell 4 4]) J J ⟨Cr (j:=11) lc J J,bt cr J J J,bt Km J J J,aS⟩
 ·refine dP<|ah<|aw<|zo J (tZ lc (.head _) (ht J))<|bH<|il<|kI<|bB h fun it q_it h=>Ok (dD b3 (⟨l,[],[]⟩:aE) (Xm [(none,0),(none,0)])) _ J acD (S5 b3 (Xm [(none,0),(none,0)]) (⟨l,[],[]⟩:aE) q_it) ⟨(ht J),aS⟩ J fun v fp=>av<|ay<|bB h fun r q_r h=>?_;refine H5 (fun(ix:Bool×Int×Bool)=>[bx rV 109 b4 (aO b3 0),bx rB 4 b2 ix.1,bx ca 3 b1 ix.2.1,bx rV 109 b (bif ix.2.2 then aO b3 0 else .pointer none)]) (fun(ix:Bool×Int×Bool)=>(ix.1,ix.2.1,ix.2.2)) (fun _=> .ret) J (ht J) (false,(0:Int),false) J q_r (fun _=>J) J (fun ix x r1 h lp rec1 _ _ _=>?_) (fun i2 j hi bd=>⟨fun hj=>?_,fun _ hj=>?_⟩)
  ·obtain⟨x1,x2,p⟩:=ix
   replace h:pg x x1 x2 p=some r1:=h
   refine(show CG _ _ _ [sa lp rec1 .ready none,bx rV 109 b4 (aO b3 0),bx rB 4 b2 x1,bx ca 3 b1 x2,bx rV 109 b (bif p then aO b3 0 else .pointer none)] _ from ?_);refine Gq (G' :=[(0,tD bS l),(1,bM bS l),(2,tV (aO b 0)),(3,tV (aO b1 0)),(4,tV (aO b2 0)),(5,tV (aO b4 0)),(6,jr l.Nodes),(9,tD bS l),(10,tD (rH bn [(1,.slice none 0 0),(2,.slice none 0 0)]) (⟨l,[],[]⟩:aE)),(11,tV (aO b3 0)),(12,bM (gi aF) l.Nodes),(13,bW (aF) l.Nodes),(14,jr l.Nodes),(15,jr l.Nodes),(16,iO (decide ((l.Nodes.length:Int)<(1:Int)))),(17,iO (decide ((l.Nodes.length:Int)<(1:Int)))),(18,pz (!(decide ((l.Nodes.length:Int)<(1:Int)))) (jr l.Nodes)),(19,pz (!(decide ((l.Nodes.length:Int)<(1:Int)))) (iO (decide ((60:Int)<(l.Nodes.length:Int))))),(20,iO ((decide ((l.Nodes.length:Int)<(1:Int)))||(decide ((60:Int)<(l.Nodes.length:Int))))),(22,tV (aO b3 0)),(24,bN x.1),(25,iO x.2)]) ?_ ⟨J,J,J,J,J,J,J,J,J,J,J,J,J,J,J,J,J,J,J,J,J,J,aS⟩;refine aw<|bq J<|av<|au<|bq J<|aP<|Ia<|ay<|aw<|aG J<|zo J (fj (ht J))<|av<|c0 h J (fun h=>?_) (fun h=>?_)
   ·refine aw<|zo J (tZ lc (.tail _ (.head _)) (ht J))<|aG J<|xb (EffOK.fr4 (oG lc J (Au an) J (ht J) (hW (ht J) J))) fun i3=>?_;refine(show RG _ _ _ _ [bx rV 109 b (aO b3 0),sa lp rec1 .busy none,bx rV 109 b4 (aO b3 0),bx rB 4 b2 x1,bx ca 3 b1 x2] _ from ?_);refine zt<|aq cr J an J (ht J) (ht J)<|zt<|aq Km J an J (ht J) hB<|av<|am<|aD<|aL<|aL<|aL<|fC<|fC ?_;cases so h;exact Cc 0 J (false,x.1,true) J J
   ·refine bA<|ap ?_;cases so h;exact xe (x1,x2,p) J J
  ·skip
   obtain⟨x3,x4,p1⟩:=i2
   obtain rfl:x3=r.1.2.1:=congrArg (fun q:Bool×Int×Bool=>q.1) hi
   obtain rfl:x4=r.1.2.2.1:=congrArg (fun q:Bool×Int×Bool=>q.2.1) hi
   obtain rfl:p1=r.1.2.2.2:=congrArg (fun q:Bool×Int×Bool=>q.2.2) hi
   have h:=ct h (by rw [hj];rfl);refine(show AT _ _ _ [BU bd,bx (rH bn [(1,aT (j.h 0).1 (j.h 0).2 r.2.kinds.length),(2,aT (j.h 1).1 (j.h 1).2 r.2.first.length)]) 115 b3 r.2,dW od 39 (j.h 0).1 (j.h 0).2 r.2.kinds,dW ca 3 (j.h 1).1 (j.h 1).2 r.2.first,bx rV 109 b4 (aO b3 0),bx rB 4 b2 r.1.2.1,bx ca 3 b1 r.1.2.2.1,bx rV 109 b (bif r.1.2.2.2 then aO b3 0 else .pointer none)] _ from ?_);refine cF (G' :=[(0,tD bS l),(1,bM bS l),(2,tV (aO b 0)),(3,tV (aO b1 0)),(4,tV (aO b2 0)),(5,tV (aO b4 0)),(6,jr l.Nodes),(9,tD bS l),(10,tD (rH bn [(1,.slice none 0 0),(2,.slice none 0 0)]) (⟨l,[],[]⟩:aE)),(11,tV (aO b3 0)),(12,bM (gi aF) l.Nodes),(13,bW (aF) l.Nodes),(14,jr l.Nodes),(15,jr l.Nodes),(16,iO (decide ((l.Nodes.length:Int)<(1:Int)))),(17,iO (decide ((l.Nodes.length:Int)<(1:Int)))),(18,pz (!(decide ((l.Nodes.length:Int)<(1:Int)))) (jr l.Nodes)),(19,pz (!(decide ((l.Nodes.length:Int)<(1:Int)))) (iO (decide ((60:Int)<(l.Nodes.length:Int))))),(20,iO ((decide ((l.Nodes.length:Int)<(1:Int)))||(decide ((60:Int)<(l.Nodes.length:Int))))),(22,tV (aO b3 0))]) ?_ ⟨J,J,J,J,J,J,J,J,J,J,J,J,J,J,J,J,J,J,J,J,aS⟩;refine ap<|ax<|ah<|bB h fun e q_e h=>?_
   refine pn 14 [tc (tV (aO b3 0)),tc (jr l.Nodes),tc (bN (IntKind.i64.wrap ((l.Nodes.length:Int)-(1:Int)))),tc (tV (aO b3 0)),tc (tV (aO b3 0)),tc (tV (aO b3 2)),tc (tO ca (j.h 1).1 (j.h 1).2 r.2.first),tc (jr l.Nodes),tc (bN (IntKind.i64.wrap ((l.Nodes.length:Int)-(1:Int)))),tc (bM ca e),tc (bN e),tc (iO (e==(0:Int))),tc (DW),tc (DW)] [false,false,false,false,false,false,false,false,false,false,false,false,true,true] [fun _=>[BU bd,bx (rH bn [(1,aT (j.h 0).1 (j.h 0).2 r.2.kinds.length),(2,aT (j.h 1).1 (j.h 1).2 r.2.first.length)]) 115 b3 r.2,dW od 39 (j.h 0).1 (j.h 0).2 r.2.kinds,dW ca 3 (j.h 1).1 (j.h 1).2 r.2.first,bx rV 109 b4 (aO b3 0),bx rB 4 b2 r.1.2.1,bx ca 3 b1 r.1.2.2.1,bx rV 109 b (bif r.1.2.2.2 then aO b3 0 else .pointer none)],fun sg=>[bx rV 109 b (aO b3 0),BU bd,bx (rH bn [(1,aT (j.h 0).1 (j.h 0).2 r.2.kinds.length),(2,aT (j.h 1).1 (j.h 1).2 r.2.first.length)]) 115 b3 r.2,dW od 39 (j.h 0).1 (j.h 0).2 r.2.kinds,dW ca 3 (j.h 1).1 (j.h 1).2 r.2.first,bx rV 109 b4 (aO b3 0),bx rB 4 b2 r.1.2.1,bx ca 3 b1 r.1.2.2.1],fun sg=>[bx ca 3 b1 (IntKind.i64.wrap ((l.Nodes.length:Int)-(1:Int))),bx rV 109 b (aO b3 0),BU bd,bx (rH bn [(1,aT (j.h 0).1 (j.h 0).2 r.2.kinds.length),(2,aT (j.h 1).1 (j.h 1).2 r.2.first.length)]) 115 b3 r.2,dW od 39 (j.h 0).1 (j.h 0).2 r.2.kinds,dW ca 3 (j.h 1).1 (j.h 1).2 r.2.first,bx rV 109 b4 (aO b3 0),bx rB 4 b2 r.1.2.1]] J mixed J J J J J
    ⟨⟨[⟨5,fun _=>tV (aO b4 0),none⟩],_,0,0,J,⟨(fun _=>J),aS⟩,J,J,J,J,J,Ar (fun sg=>aC J (tZ lc (.tail _ (.tail _ (.tail _ (.tail _ (.head _))))) (ht J)))⟩,
    ⟨⟨[⟨6,fun _=>tD ca (l.Nodes.length:Int),none⟩],_,0,1,J,⟨(fun _=>J),aS⟩,J,J,J,J,J,fun _ sg _ _=>aC J (de J)⟩,
    ⟨⟨[⟨31,fun _=>tD ca (l.Nodes.length:Int),some 1⟩],_,0,1,J,⟨(fun _=>J),aS⟩,J,J,J,J,J,fun _ sg _ _=>aC J (iq (ht J) hI)⟩,
    ⟨⟨[⟨5,fun _=>tV (aO b4 0),none⟩],_,0,2,J,⟨(fun _=>J),aS⟩,J,J,J,J,J,Gv (fun sg=>aC J (tZ lc (.tail _ (.tail _ (.tail _ (.tail _ (.head _))))) (ht J))) (Gv (fun sg=>aC J (tZ lc (.tail _ (.tail _ (.tail _ (.tail _ (.tail _ (.head _)))))) (ht J))) (Ar (fun sg=>aC J (tZ lc (.tail _ (.tail _ (.tail _ (.tail _ (.tail _ (.tail _ (.head _))))))) (ht J)))))⟩,
    ⟨⟨[⟨33,fun _=>tV (aO b3 0),some 3⟩],_,0,2,J,⟨(fun _=>J),aS⟩,J,J,J,J,J,fun _ sg _ _=>aC J (dF (ht J))⟩,
    ⟨⟨[⟨34,fun _=>tV (aO b3 0),some 4⟩],_,0,2,J,⟨(fun _=>J),aS⟩,J,J,J,J,J,fun _ sg _ _=>aC J (jY 2 uW J J J)⟩,
    ⟨⟨[⟨35,fun _=>tV (aO b3 2),some 5⟩],_,0,2,J,⟨(fun _=>J),aS⟩,J,J,J,J,J,Gv (fun sg=>aC J (dl ea J (.tail _ (.head _)) (.tail _ (.tail _ (.tail _ (.head _)))) (ht J))) (Gv (fun sg=>aC J (dl ea J (.tail _ (.tail _ (.head _))) (.tail _ (.tail _ (.tail _ (.tail _ (.head _))))) (ht J))) (Ar (fun sg=>aC J (dl ea J (.tail _ (.tail _ (.tail _ (.head _)))) (.tail _ (.tail _ (.tail _ (.tail _ (.tail _ (.head _)))))) (ht J)))))⟩,
    ⟨⟨[⟨6,fun _=>tD ca (l.Nodes.length:Int),none⟩],_,0,2,J,⟨(fun _=>J),aS⟩,J,J,J,J,J,fun _ sg _ _=>aC J (de J)⟩,
    ⟨⟨[⟨37,fun _=>tD ca (l.Nodes.length:Int),some 7⟩],_,0,2,J,⟨(fun _=>J),aS⟩,J,J,J,J,J,fun _ sg _ _=>aC J (iq (ht J) hI)⟩,
    ⟨⟨[⟨36,fun _=>tO ca (j.h 1).1 (j.h 1).2 r.2.first,some 6⟩,⟨38,fun _=>tD ca (IntKind.i64.wrap ((l.Nodes.length:Int)-(1:Int))),some 8⟩],_,0,2,J,⟨(fun _=>J),(fun _=>J),aS⟩,J,J,J,J,J,fun _ sg _ _=>aC J (br hX cr J (lb (ht J)) (ht J) q_e)⟩,
    ⟨⟨[⟨39,fun _=>bM ca e,some 9⟩],_,0,2,J,⟨(fun _=>J),aS⟩,J,J,J,J,J,fun _ sg _ _=>aC J (bC cr J J)⟩,
    ⟨⟨[⟨40,fun _=>tD ca e,some 10⟩],_,0,2,J,⟨(fun _=>J),aS⟩,J,J,J,J,J,fun _ sg _ _=>aC J (nX J)⟩,
    ⟨⟨[⟨2,fun _=>tV (aO b 0),none⟩,⟨30,fun _=>tV (aO b3 0),some 0⟩],_,J,⟨(fun _=>J),(fun _=>J),aS⟩,J,J,J,fun sg=>eC J (EffOK.fr7 (oG lc J (Au an) J (ht J) (hW (ht J) J)))⟩,
    ⟨⟨[⟨3,fun _=>tV (aO b1 0),none⟩,⟨32,fun _=>tD ca (IntKind.i64.wrap ((l.Nodes.length:Int)-(1:Int))),some 2⟩],_,J,⟨(fun _=>J),(fun _=>J),aS⟩,J,J,J,fun sg=>eC J (EffOK.fr7 (oG cr J (Au an) J (ht J) (ht J)))⟩,
    aS⟩⟩⟩⟩⟩⟩⟩⟩⟩⟩⟩⟩⟩⟩ (fun sg=>?_)
   refine(show RG _ _ _ _ [bx ca 3 b1 (IntKind.i64.wrap ((l.Nodes.length:Int)-(1:Int))),bx rV 109 b (aO b3 0),BU bd,bx (rH bn [(1,aT (j.h 0).1 (j.h 0).2 r.2.kinds.length),(2,aT (j.h 1).1 (j.h 1).2 r.2.first.length)]) 115 b3 r.2,dW od 39 (j.h 0).1 (j.h 0).2 r.2.kinds,dW ca 3 (j.h 1).1 (j.h 1).2 r.2.first,bx rV 109 b4 (aO b3 0),bx rB 4 b2 r.1.2.1] _ from ?_);refine Ra<|aq Km J an J (ht J) (ht J)<|av<|am<|fC<|C4<|AY 11 J<|aL<|bj 2 J<|bD<|bj 3 J<|bj 4 J<|bD<|bf<|bD<|bf<|bD<|bf<|Cb<|ss ?_;cases so h;exact bQ (ts:=[bM bn r.2,bN (IntKind.i64.wrap ((l.Nodes.length:Int)-(1:Int))),iO (e==(0:Int))]) (rvs:=[.cell 2 109,.cell 3 3,.cell 4 4]) J J ⟨Cr (j:=11) lc J J,bt cr J J J,bt Km J J J,aS⟩
  ·skip
   obtain⟨x5,x6,p2⟩:=i2
   obtain rfl:x5=r.1.2.1:=congrArg (fun q:Bool×Int×Bool=>q.1) hi
   obtain rfl:x6=r.1.2.2.1:=congrArg (fun q:Bool×Int×Bool=>q.2.1) hi
   obtain rfl:p2=r.1.2.2.2:=congrArg (fun q:Bool×Int×Bool=>q.2.2) hi
   have h:=cf h (by rw [hj];rfl);refine(show CG _ _ _ [BU bd,bx (rH bn [(1,aT (j.h 0).1 (j.h 0).2 r.2.kinds.length),(2,aT (j.h 1).1 (j.h 1).2 r.2.first.length)]) 115 b3 r.2,dW od 39 (j.h 0).1 (j.h 0).2 r.2.kinds,dW ca 3 (j.h 1).1 (j.h 1).2 r.2.first,bx rV 109 b4 (aO b3 0),bx rB 4 b2 r.1.2.1,bx ca 3 b1 r.1.2.2.1,bx rV 109 b (bif r.1.2.2.2 then aO b3 0 else .pointer none)] _ from ?_);refine Gq (G' :=[(0,tD bS l),(1,bM bS l),(2,tV (aO b 0)),(3,tV (aO b1 0)),(4,tV (aO b2 0)),(5,tV (aO b4 0)),(6,jr l.Nodes),(9,tD bS l),(10,tD (rH bn [(1,.slice none 0 0),(2,.slice none 0 0)]) (⟨l,[],[]⟩:aE)),(11,tV (aO b3 0)),(12,bM (gi aF) l.Nodes),(13,bW (aF) l.Nodes),(14,jr l.Nodes),(15,jr l.Nodes),(16,iO (decide ((l.Nodes.length:Int)<(1:Int)))),(17,iO (decide ((l.Nodes.length:Int)<(1:Int)))),(18,pz (!(decide ((l.Nodes.length:Int)<(1:Int)))) (jr l.Nodes)),(19,pz (!(decide ((l.Nodes.length:Int)<(1:Int)))) (iO (decide ((60:Int)<(l.Nodes.length:Int))))),(20,iO ((decide ((l.Nodes.length:Int)<(1:Int)))||(decide ((60:Int)<(l.Nodes.length:Int))))),(22,tV (aO b3 0))]) ?_ ⟨J,J,J,J,J,J,J,J,J,J,J,J,J,J,J,J,J,J,J,J,aS⟩;refine am ?_;refine aD (ae ?_);refine bB h fun u q_u h=>T4 (O' :=[BU bd,bx (rH bn [(1,aT (j.h 0).1 (j.h 0).2 r.2.kinds.length),(2,aT (j.h 1).1 (j.h 1).2 r.2.first.length)]) 115 b3 r.2,dW od 39 (j.h 0).1 (j.h 0).2 r.2.kinds,dW ca 3 (j.h 1).1 (j.h 1).2 r.2.first,bx rV 109 b4 (aO b3 0),bx rB 4 b2 r.1.2.1,bx ca 3 b1 r.1.2.2.1,bx rV 109 b (aO b3 0)]) (by rw [show r.1.2.2.2=true from So q_u];rfl)<|bD<|C4<|AY 11 J<|wi<|bj 2 J<|H9<|bj 3 J<|fC<|bj 4 J<|bD<|bf<|bD<|bf<|bD<|bf<|Cb<|ss ?_;cases so h;exact bQ (ts:=[bM bn r.2,bN r.1.2.2.1,iO r.1.2.1]) (rvs:=[.cell 2 109,.cell 3 3,.cell 4 4]) J J ⟨Cr (j:=11) lc J J,bt cr J J J,bt Km J J J,aS⟩

theorem Jh(l:bc){R:Int×Int}(h:mG l=some R):aW aQ 50 [tD bS l] (tT [bN R.1,bN R.2]):=by
 refine aW.of Tryz.func50 J J J fun w0 S0=>aw<|zo J (js J)<|zo J (cy)<|zo J (cy)<|av<|aw<|zo J (bC hY J J)<|bB h fun r q_r h=>zo J (aB ZF (NX _ q_r) ⟨(ht J),aS⟩)<|aG J<|zo J (gE J J)<|zo J (gE J J)<|zo J (gE J J)<|bq J<|bq J<|bq J<|av<|ah<|ah ?_;refine au<|aG J<|zo J (fj (ht J))<|av<|c0 h J (fun h=>?_) (fun h=>?_)
 ·refine aw<|aG J<|bq J<|zo J (cy)<|av<|am<|ae ?_;cases so h;exact cP J J J
 ·refine dP<|aw<|zo J (cy)<|zo J (cy)<|av<|am ?_;cases so h;exact cP J J J

theorem Y3(rows:(List (List ac)))(kinds:(List Int)){R:Bool}(h:sj rows kinds=some R):aW aQ 61 [bW (cR) rows,mK kinds] (iO R):=by
 refine aW.of Tryz.func61 J J J fun w0 S0=>aw<|zo J (jy)<|av<|ah<|aw<|aG J<|zo J (i7 i9 J)<|zo J (fU (ht J) hI)<|av<|c0 h J (fun h=>?_) (fun h=>?_)
 ·refine aw<|zo J (jy)<|av<|am<|ae ?_;cases so h;exact aH J J
 ·refine dP<|ah<|aw<|aG J<|zo J (i7 i9 J)<|zo J (bE hI)<|av<|ay<|ba (k:=12) J fun hN=>bL ?_;refine aR (d7 (Z:=fun ls i=>(rows.drop i=ls)∧mv kinds ls=some R) (Of:=fun _ i=>[]) (Gf:=fun _ i=>[(1,mK kinds),(12,bW (cR) rows),(13,jr rows),(14,bN (i:Int))]) (fun i h=>?_) (fun e tl ih i h=>?_) rows 0 ⟨J,h⟩) (bu J)
  ·obtain⟨hx,h⟩:=h
   refine aA<|aw<|zo J (fF J J)<|av<|ah<|bz (ht J) (dm hx)<|bv ?_;refine ai (ai (aN ?_));refine ax<|aw<|zo rfl (jy)<|av<|am ?_;cases so h;exact aH J J
  ·obtain⟨hx,h⟩:=h
   refine aA<|aw<|zo J (fF J J)<|av<|ah<|bw (ht J) (dg hx)<|dP<|ah<|ay<|aw<|zo J (mz i9 dy J J J (cT hx))<|zo J (bC dy J J)<|bq J<|av<|ah<|aw<|aG J<|zo J (i7 jf J) ?_;refine aG J<|zo J (i7 hX J)<|zo J (ft (ht J) (ht J))<|av<|c0 h J (fun h=>?_) (fun h=>?_)
   ·refine aw<|zo J (jy)<|av<|am ?_;refine ae (aD (ae (ae (aD (ae ?_)))));cases so h;exact aH J J
   ·refine dP<|aw<|aG J<|zo J (i7 jf J)<|zo J (bE hI)<|av<|ay<|ba (k:=23) J fun hN1=>bL ?_;refine aR (d7 (Z:=fun ls1 i1=>(e.drop i1=ls1)∧mu kinds (mv kinds tl) ls1 i1=some R) (Of:=fun _ i1=>[]) (Gf:=fun _ i1=>[(1,mK kinds),(12,bW (cR) rows),(13,jr rows),(14,bN (i:Int)),(23,bW (af) e),(24,jr e),(25,bN (i1:Int))]) (fun i1 h=>?_) (fun e1 tl1 ih1 i1 h=>?_) e 0 ⟨J,h⟩) (bu J)
    ·obtain⟨hx1,h⟩:=h
     refine aA<|aw<|zo J (fF J J)<|av<|ah<|bz (ht J) (dm hx1)<|bv ?_;refine ai (ai (aN ?_));refine ap<|ax<|au<|zo rfl (lT (cx hx hN) rfl)<|aG rfl<|aP ?_;exact bg (aR (ih (i+1) ⟨cw hx,h⟩) (bu J))
    ·obtain⟨hx1,h⟩:=h
     refine aA<|aw<|zo J (fF J J)<|av<|ah<|bw (ht J) (dg hx1)<|dP<|ah<|ay<|aw<|aG J<|zo J (mz jf aI J J J (cT hx1))<|zo J (bC aI J J)<|aX (r:=af) (x:=iy) aI (fun _=>bk _) J fun b=>bq J<|aq aI J an J (ht J) (ht J)<|aV 8 J<|av<|ah ?_;refine bB h fun r q_r h=>bB h fun t q_t h=>?_
     obtain⟨t1,h1t,h0t⟩:=og q_t
     have q_t1g:=fun hb=>(h1t hb).1
     obtain⟨e2,h1t1,h0t1⟩:=og3 q_t1g
     have q_e2g:=fun hb=>(h1t1 hb).1
     refine da (ts:=[_,_,_,_,_,_,_,_,_,_,_,_,_,_,_,_,_]) mixed J J
      ⟨eH 8 J J J (bC aI J J),
      ⟨bZ 30 0 J J J (aB LZ (BL _ q_r) ⟨(ht J),aS⟩),
      ⟨bZ 31 1 J J J (s8 J),
      ⟨bZ 32 2 J J J (de J),
      ⟨qN 8 33 3 J J J J (jN J J J J (fun hg=>c9 iu cS J J)),
      ⟨k7 34 4 33 3 J J J J (jN J J J J (fun hg=>bI cr J J (bG J hg))),
      ⟨k7 35 5 33 3 J J J J (jN J J J J (fun hg=>ft (bG J hg) hI)),
      ⟨k7 36 6 33 3 J J J J (jN J J J J (fun hg=>bE (bG J hg))),
      ⟨qN 8 37 7 J J J J (lX J J J J (fun hg=>c9 iu cS J J)),
      ⟨k7 38 8 37 7 J J J J (lX J J J J (fun hg=>bI cr J J (bG J hg))),
      ⟨qN 1 37 7 J J J J (lX J J J J (fun hg=>de J)),
      ⟨qN 7 37 7 J J J J (lX J J J J (fun hg=>de J)),
      ⟨uF 40 10 41 11 37 7 J J J J J (lX J J J J (fun hg=>br hX cr J (bG J hg) (bG J hg) (q_e2g hg))),
      ⟨k7 42 12 37 7 J J J J (lX J J J J (fun hg=>bI cr J J (bG J hg))),
      ⟨uF 39 9 43 13 37 7 J J J J J (lX J J J J (fun hg=>ft (bG J hg) (bG J hg))),
      ⟨uF 37 7 44 14 33 3 J J J J J (jN J J J J (fun hg=>eT (bG J hg) (fun hb=>(bG J (B3 hg hb))) (fun hb=>(h1t1 (B3 hg hb)).2) (fun hb=>h0t1 hg hb))),
      ⟨d3 33 3 45 15 J J J J (gZ (ht J) (fun hb=>(bG J (wK hb))) (fun hb=>(h1t hb).2) h0t),
      aS⟩⟩⟩⟩⟩⟩⟩⟩⟩⟩⟩⟩⟩⟩⟩⟩⟩ ?_
     refine ax<|c0 h rfl (fun h=>?_) (fun h=>?_)
     ·refine aw<|zo J (jy)<|av<|am ?_;refine aD (ae (ae (aD (aD (ae (ae (aD (ae ?_))))))));cases so h;exact aH J J
     ·refine bA<|ap<|ax<|au<|zo rfl (lT (cx hx1 hN1) rfl)<|aG rfl<|aP ?_;exact bg (aR (ih1 (i1+1) ⟨cw hx1,h⟩) (bu J))

theorem Zp(l:bc)(b:dv){R:Bool}(h:u0 l b=some R):aW aQ 16 [tD bS l,tD jv b] (iO R):=by
 refine aW.of Tryz.func16 J J J fun w0 S0=>aw<|zo J (js J)<|zo J (js J)<|zo J (jy)<|av<|ah<|aw<|zo J (bC hY J J)<|bB h fun r q_r h=>zo J (aB WK (Jh _ q_r) ⟨(ht J),aS⟩)<|aG J<|zo J (gE J J)<|zo J (gE J J)<|bq J<|bq J<|av<|aw<|aG J ?_;refine zo J (s8 J)<|av<|c0 h J (fun h=>?_) (fun h=>?_)
 ·refine aw<|zo J (jy)<|av<|am<|ae ?_;cases so h;exact aH J J
 ·refine dP<|ah<|aw<|zo J (c9 kW iL J J)<|zo J (bC tH J J)<|zo J (i7 p6 J)<|zo J (bE hI)<|av<|ay<|ba (k:=17) J fun hN=>bL ?_;refine aR (d7 (Z:=fun ls i=>(l.Nodes.drop i=ls)∧oK b ls=some R) (Of:=fun _ i=>[]) (Gf:=fun _ i=>[(3,bM jv b),(17,bW (aF) l.Nodes),(18,jr l.Nodes),(19,bN (i:Int))]) (fun i h=>?_) (fun e tl ih i h=>?_) l.Nodes 0 ⟨J,h⟩) (bu J)
  ·obtain⟨hx,h⟩:=h
   refine aA<|aw<|zo J (fF J J)<|av<|ah<|bz (ht J) (dm hx)<|bv ?_;refine ai (ai (aN ?_));refine ax<|aw<|zo rfl (jy)<|av<|am ?_;cases so h;exact aH J J
  ·obtain⟨hx,h⟩:=h
   refine aA<|aw<|zo J (fF J J)<|av<|ah<|bw (ht J) (dg hx)<|dP<|ah<|ay<|aw<|zo J (mz p6 fL J J J (cT hx))<|zo J (bC fL J J)<|aX (r:=aF) (x:=Id) fL (fun _=>ln _) J fun b1=>aq fL J an J (ht J) (ht J)<|aV 8 J<|av<|ah<|bB h fun t q_t h=>?_
   obtain⟨t1,h1t,h0t⟩:=og q_t
   have q_t1g:=fun hb=>(h1t hb).1
   obtain⟨e1,h1t1,h0t1⟩:=og3 q_t1g
   have q_e1g:=fun hb=>(h1t1 hb).1
   obtain⟨r1,h1t1⟩:=Xn (fun hb=>(h1t1 hb).2)
   have q_r1g:=fun hb=>(h1t1 hb).1
   refine da (ts:=[_,_,_,_,_,_,_,_,_,_,_,_,_,_,_,_,_,_,_,_,_,_,_]) mixed J J
    ⟨eH 8 J J J (c9 yB oE J J),
    ⟨bZ 23 0 J J J (bC cr J J),
    ⟨bZ 24 1 J J J (nX J),
    ⟨bZ 25 2 J J J (de J),
    ⟨qN 8 26 3 J J J J (fm J J J J (fun hg=>c9 vj m7 J J)),
    ⟨k7 27 4 26 3 J J J J (fm J J J J (fun hg=>bI cr J J (bG J hg))),
    ⟨qN 3 26 3 J J J J (fm J J J J (fun hg=>c9 AH ri J J)),
    ⟨k7 29 6 26 3 J J J J (fm J J J J (fun hg=>bI vB J J (bG J hg))),
    ⟨k7 30 7 26 3 J J J J (fm J J J J (fun hg=>cC o3 (bG J hg))),
    ⟨uF 28 5 31 8 26 3 J J J J J (fm J J J J (fun hg=>ir (bG J hg) (bG J hg))),
    ⟨k7 32 9 26 3 J J J J (fm J J J J (fun hg=>bE (bG J hg))),
    ⟨qN 3 33 10 J J J J (rK J J J J (fun hg=>c9 AH ri J J)),
    ⟨k7 34 11 33 10 J J J J (rK J J J J (fun hg=>bI vB J J (bG J hg))),
    ⟨qN 8 33 10 J J J J (rK J J J J (fun hg=>c9 vj m7 J J)),
    ⟨k7 36 13 33 10 J J J J (rK J J J J (fun hg=>bI cr J J (bG J hg))),
    ⟨uF 35 12 37 14 33 10 J J J J J (rK J J J J (fun hg=>br o3 gU J (bG J hg) (bG J hg) (q_e1g hg))),
    ⟨k7 38 15 33 10 J J J J (rK J J J J (fun hg=>bI gU J J (bG J hg))),
    ⟨qN 8 33 10 J J J J (rK J J J J (fun hg=>c9 vi oC J J)),
    ⟨k7 40 17 33 10 J J J J (rK J J J J (fun hg=>bI ea J J (bG J hg))),
    ⟨uF 39 16 41 18 33 10 J J J J J (rK J J J J (fun hg=>aB adl (Y3 _ _ (q_r1g hg)) ⟨(bG J hg),(bG J hg),aS⟩)),
    ⟨k7 42 19 33 10 J J J J (rK J J J J (fun hg=>fj (bG J hg))),
    ⟨uF 33 10 43 20 26 3 J J J J J (fm J J J J (fun hg=>gZ (bG J hg) (fun hb=>(bG J (B3 hg (wK hb)))) (fun hb=>(h1t1 (B3 hg hb)).2) (fun hb=>h0t1 hg hb))),
    ⟨d3 26 3 44 21 J J J J (eT (ht J) (fun hb=>(bG J hb)) (fun hb=>(h1t hb).2) h0t),
    aS⟩⟩⟩⟩⟩⟩⟩⟩⟩⟩⟩⟩⟩⟩⟩⟩⟩⟩⟩⟩⟩⟩⟩ ?_
   refine ax<|c0 h rfl (fun h=>?_) (fun h=>?_)
   ·refine aw<|zo J (jy)<|av<|am ?_;refine aD (ae (ae (aD (ae ?_))));cases so h;exact aH J J
   ·refine bA<|ap<|ax<|au<|zo rfl (lT (cx hx hN) rfl)<|aG rfl<|aP ?_;exact bg (aR (ih (i+1) ⟨cw hx,h⟩) (bu J))

theorem Ze(l:bc){R:(List Int)×Int}(h:sd l=some R):aW aQ 23 [tD bS l] (tT [mK R.1,bN R.2]):=by
 refine aW.of Tryz.func23 J J J fun w0 S0=>aw<|zo J (js J)<|zo J (aM (show aJ _ _ _ xS from kE))<|zo J (cy)<|av<|aw<|zo J (bC hY J J)<|bB h fun r q_r h=>zo J (aB ZF (NX _ q_r) ⟨(ht J),aS⟩)<|aG J<|zo J (gE J J)<|zo J (gE J J)<|zo J (gE J J)<|bq J<|bq J<|bq J<|av<|ah<|ah ?_;refine au<|aG J<|zo J (fj (ht J))<|av<|c0 h J (fun h=>?_) (fun h=>?_)
 ·refine aw<|zo J (aM (show aJ _ _ _ xS from kE))<|zo J (cy)<|av<|am<|ae ?_;cases so h;exact cP J J J
 ·refine dP<|aw<|aG J<|zo J (IU (ht J))<|zo J (c9 n8 Jb J J)<|zo J (bC tI J J)<|aG J<|bB h fun e q_e h=>zo J (mz wm ea J J J q_e)<|zo J (bC ea J J)<|bB h fun r1 q_r1 h=>jd Ti (Jg _ q_r1) ⟨(ht J),aS⟩ J fun l1 c=>bq J<|zo J (cy)<|av<|am<|jQ<|cG 2 J<|cG 22 J<|jR 2 J<|bf ?_;cases so h;exact cP J J J

theorem aaP(b:Nat)(ix:OI)(r:cZ)(n:aj){R:(List (List ac))×Int}(h:lh r n=some R):dd aQ 51 [tV (aO b 0),tD aF n] (jC b r ix) (fun _:OI=>tT [bW (cR) R.1,bN R.2]) (fun _=>(jC b r ix)):=by
 refine dd.of Tryz.func51 J J J fun w0 S0=>?_;refine(show CG _ _ _ [bx (rH ee [(1,aT (ix.h 0).1 (ix.h 0).2 r.rows.length),(2,aT (ix.h 1).1 (ix.h 1).2 r.width.length)]) 96 b r,dW dU 32 (ix.h 0).1 (ix.h 0).2 r.rows,dW ca 3 (ix.h 1).1 (ix.h 1).2 r.width] _ from ?_);refine aw<|zo J (js J)<|zo J (aM (show aJ _ _ _ wq from kE))<|zo J (cy)<|av<|ah<|bB h fun e q_e h=>?_
 refine da (ts:=[_,_,_,_,_,_,_,_,_,_,_]) mixed J J
  ⟨eH 0 J J J (de J),
  ⟨bZ 6 0 J J J (dF (ht J)),
  ⟨bZ 7 1 J J J (jY 0 YT J J J),
  ⟨bZ 8 2 J J J (jY 0 AH J J J),
  ⟨bZ 9 3 J J J (ce (r:=rH ee [(1,aT (ix.h 0).1 (ix.h 0).2 r.rows.length),(2,aT (ix.h 1).1 (ix.h 1).2 r.width.length)]) (x:=r) vB J J (U8 (vS SF ri)) (.head _) (ht J)),
  ⟨eH 3 J J J (c9 vj m7 J J),
  ⟨bZ 11 5 J J J (bC cr J J),
  ⟨d3 10 4 12 6 J J J J (mz o3 gU J J J q_e),
  ⟨bZ 13 7 J J J (bC gU J J),
  ⟨bZ 14 8 J J J (vx J),
  ⟨Qg J J (cy),
  aS⟩⟩⟩⟩⟩⟩⟩⟩⟩⟩⟩ ?_
 refine ax<|am<|aL<|aL<|aL ?_;cases so h;exact d8 (ts:=[bW (cR) e,bN 0]) (rvs:=[.tmp 4,.tmp 5]) J J ⟨aZ J,aZ J,aS⟩ p7 J J

theorem S3(n:Int){R:(List ac)}(h:gM n=some R):gp aQ 172 [tV (.slice none 0 0),bN n] false af 46 R:=by
 refine gp.of Tryz.func172 J J J fun w0 S0=>aw<|bP false af 46<|zo J (aM ud)<|av ?_;refine tz (Z:=iG n=some R) (Of:=[]) (Gf:=[(0,tV (.slice none 0 0)),(1,bN n)]) (fun h=>?_) (fun K=>?_)
 ·skip
  refine zw (Z:=fun s l c=>iF s=some R) (Of:=fun s l c=>[fE af 46 l c s]) (Gf:=fun s l c=>[(0,sH l c s)]) (fun s l c h=>?_) (fun K1=>?_)
  ·skip
   refine aw<|aG J<|bq J<|av<|am ?_;cases so h;exact gC J J
  ·skip
   refine aw<|aG J<|aG J<|zo J (th jf (ht J))<|aG J<|zo J (tg jf (ht J))<|zo J (iq (ht J) (ht J))<|zo J (iq (ht J) (ht J))<|bq J<|av<|aw<|aG J<|zo J (fU (ht J) hI)<|av<|c0 h J (fun h=>?_) (fun h=>?_)
   ·refine au<|aG J<|aG J<|zo J (th jf (ht J))<|zo J (yo jf aI (ht J) (ht J))<|aG J<|bB h fun u q_u h=>bB h fun mk q_mk h=>AP (yE (r:=af) (x:=iy) aI J J J J jf lk (fun _=>bk _) (ht J) (ht J) (FK q_u) q_mk) J fun i=>aG J<|zo J (tg jf (ht J))<|bB h fun y q_y h=>zo J (ly jf aI J (.head _) (ht J) (ht J) q_y)<|xc q_y<|bq J<|aP ?_;exact cF (K1 y (i.h 0).1 (i.h 0).2 h) (bu J)
   ·refine bA<|Gr false af 46 ?_;exact cF (K1 If none 0 h) (bu J)
 ·skip
  refine aw<|aG J<|zo J (gx (ht J) hI)<|av<|c0 h J (fun h=>?_) (fun h=>?_)
  ·refine au ?_;exact(nn h).elim
  ·refine bA<|bf ?_;exact cF (K h) (bu J)
theorem LL(slices:(List (List ac))){R:(List ac)}(h:dC slices=some R):gp aQ 104 [bW (cR) slices] false af 46 R:=by
 refine gp.of Tryz.func104 J J J fun w0 S0=>aw<|bP false af 46<|zo J (aM ud)<|av<|aw<|zo J (cy)<|av<|ah<|aw<|aG J<|zo J (i7 i9 J)<|zo J (bE hI)<|av<|ay<|ba (k:=9) J fun hN=>bL<|rL ?_;refine aR (nE (Z:=fun ls i size=>(slices.drop i=ls)∧fa slices ls size=some R) (Of:=fun _ i size=>[]) (Gf:=fun _ i size=>[(0,bW (cR) slices),(3,bN size),(9,bW (cR) slices),(10,jr slices),(11,bN (i:Int))]) (fun i size h=>?_) (fun e tl ih i size h=>?_) slices 0 (0:Int) ⟨J,h⟩) (bu J)
 ·obtain⟨hx,h⟩:=h
  refine aA<|aw<|zo J (fF J J)<|av<|ah<|bz (ht J) (dm hx)<|bv ?_;refine ai (ai (aN ?_));refine ax<|aw<|aG rfl<|bB h fun r q_r h=>jd aci (S3 _ q_r) ⟨hV,(ht J),aS⟩ J fun l c=>bq J<|av<|ah<|aw<|aG J<|zo J (i7 i9 J)<|zo J (bE hI)<|av<|ay<|ba (k:=25) J fun hN1=>bL ?_;refine aR (j8 (Z:=fun ls1 i1 newslice l1 c1=>(slices.drop i1=ls1)∧eZ ls1 newslice=some R) (Of:=fun _ i1 newslice l1 c1=>[fE af 46 l1 c1 newslice]) (Gf:=fun _ i1 newslice l1 c1=>[(6,sH l1 c1 newslice),(25,bW (cR) slices),(26,jr slices),(27,bN (i1:Int))]) (fun i1 newslice l1 c1 h=>?_) (fun e1 tl1 ih1 i1 newslice l1 c1 h=>?_) slices 0 r l c ⟨J,h⟩) (bu J)
  ·obtain⟨hx1,h⟩:=h
   refine aA<|aw<|zo J (fF J J)<|av<|ah<|bz (ht J) (dm hx1)<|bv ?_;refine ai (ai (aN ?_));refine ax<|aw<|aG rfl<|bq rfl<|av<|am ?_;cases so h;exact gC J J
  ·obtain⟨hx1,h⟩:=h
   refine aA<|aw<|zo J (fF J J)<|av<|ah<|bw (ht J) (dg hx1)<|dP<|ah<|ay<|aw<|zo J (mz i9 dy J J J (cT hx1))<|zo J (bC dy J J)<|bq J<|av<|au<|aG J<|aG J<|bB h fun newslice1 q_newslice1 h=>db aI J J J J jf J J (ht J) (ht J) q_newslice1 fun l2 c2=>?_;refine bq J<|aP<|ap<|ax<|au<|zo rfl (lT (cx hx1 hN1) rfl)<|aG rfl<|aP ?_;exact bg (aR (ih1 (i1+1) newslice1 l2 c2 ⟨cw hx1,h⟩) (bu J))
 ·obtain⟨hx,h⟩:=h
  refine aA<|aw<|zo J (fF J J)<|av<|ah<|bw (ht J) (dg hx)<|dP<|ah<|ay<|aw<|zo J (mz i9 dy J J J (cT hx))<|zo J (bC dy J J)<|bq J<|av<|aw<|aG J<|aG J<|zo J (i7 jf J) ?_;refine zo J (nY (ht J) (ht J))<|bq J<|av<|aw<|aG J<|zo J (gx (ht J) hI)<|av<|c0 h J (fun h=>?_) (fun h=>?_)
  ·refine au ?_;exact(nn h).elim
  ·refine bA<|ap<|ax<|au<|zo rfl (lT (cx hx hN) rfl)<|aG rfl<|aP ?_;exact bg (aR (ih (i+1) (IntKind.i64.wrap (size+(e.length:Int))) ⟨cw hx,h⟩) (bu J))
theorem Wy(slices:(List (List ac))){R:(List ac)}(h:dC slices=some R):aW aQ 104 [bW (cR) slices] (bW (af) R):=(LL _ h).spec

end Go.Proofs.YtfhhakidodmdfaaGreatDoor

