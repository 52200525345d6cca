/- cX of this claim: P4. -/
import Derived.Test.YtfhhakidodmdfaaGreatDoorJhT
import Derived.Test.YtfhhakidodmdfaaGreatDoorJhP3
set_option linter.all false
namespace Go.Proofs.YtfhhakidodmdfaaGreatDoor
open Go
set_option maxRecDepth 100000

theorem Hb(b:Nat)(ix:OI)(c:aF){R:E5 (Int×Bool) aF}(h:oU c=some R):uX aJ 126 [tV (aO b 0)] (cP b c ix) (fun(x:Int×Bool)=>[bu x.1,er x.2]) R (cP b):=by
 refine uX.of Tryz.func126 J J J fun w0 S0=>?_;refine(show CG _ _ _ [bx (rH bc [(1,aQ (ix.h 0).1 (ix.h 0).2 c.kinds.length),(2,aQ (ix.h 1).1 (ix.h 1).2 c.first.length)]) 115 b c,db jG 39 (ix.h 0).1 (ix.h 0).2 c.kinds,db bI 3 (ix.h 1).1 (ix.h 1).2 c.first] _ from ?_);refine ap<|zo J (Ie (fun _ _ h=>by rw [show _=_ from h];rfl) (ht J))<|zo J (aD hV)<|al<|ap<|eO<|eO<|eO<|Bf (O1:=cP b c ix) (cts:=[bv (rT (tV (aO b 0))) ()]) (caps:=[.tmp 1]) J O6 (G2 b ix c) ⟨(ht J),aP⟩ J fun v fp=>ba J<|al<|ai ?_;cases so h;exact F2 J J

theorem DK(l:dM){R:aF×Int×Bool}(h:qe l=some R):aN aJ 72 [tD cT l] (tT [bv bc R.1,bu R.2.1,er R.2.2]):=by
 refine Cs Tryz.func72 J J J fun w0 S0=>ap<|zo J (ff J)<|aV (r:=rV) (x:= .pointer none) gN (fun _=>⟨J,J⟩) J fun b=>aV (r:=bI) (x:=(0:Int)) bP (fun _=>J) J fun b1=>aV (r:=rB) (x:=false) BC (fun _=>J) J fun b2=>al<|ap<|zo J (bn mF J J)<|zo J (bM (r:=rH bc [(1,.slice none 0 0),(2,.slice none 0 0)]) (y:=(⟨l,[],[]⟩:aF)) M1 M9 (zH CR ⟨J,J,aP⟩) (⟨_,_,_,_,_,J,Ky Au J J,J,(ht J),J⟩))<|sD (ht J) J fun b3=>bA true jG 39<|bA true bI 3 ?_;refine(show RG _ _ _ _ [db bI 3 none 0 nL,db jG 39 none 0 Ff,bx (rH bc [(1,aQ none 0 Ff.length),(2,aQ none 0 nL.length)]) 115 b3 (⟨l,[],[]⟩:aF),bx rB 4 b2 false,bx bI 3 b1 (0:Int),bx rV 109 b (.pointer none)] _ from ?_);refine aV (r:=rV) (x:= .pointer none) gN (fun _=>⟨J,J⟩) J fun b4=>qH (jV gN J (te am) J (ht J) (hW (ht J) J)) fun i=>?_;refine(show RG _ _ _ _ [bx rV 109 b4 (aO b3 0),db bI 3 none 0 nL,db jG 39 none 0 Ff,bx (rH bc [(1,aQ none 0 Ff.length),(2,aQ none 0 nL.length)]) 115 b3 (⟨l,[],[]⟩:aF),bx rB 4 b2 false,bx bI 3 b1 (0:Int),bx rV 109 b (.pointer none)] _ from ?_);refine al<|ap<|zo J (bS pm jS J J)<|zo J (bn yL J J)<|zo J (eH t6 J)<|ba J<|al<|ae<|ap<|aB J<|zo J (dO (ht J) hI)<|aB J<|dv J J (fun hg=>cr J)<|dv J J (fun hg=>eb (bk J hg) hI)<|zo J (qY J J)<|al<|bX h J (fun h=>?_) (fun h=>?_)
 ·refine ap<|zo J (nW gN (.head _) (ht J))<|qH (EffOK.fr6 (jV gN J (te am) J (ht J) (hW (ht J) J))) fun i1=>?_;refine(show RG _ _ _ _ [bx rV 109 b (aO b3 0),bx rV 109 b4 (aO b3 0),db bI 3 none 0 nL,db jG 39 none 0 Ff,bx (rH bc [(1,aQ none 0 Ff.length),(2,aQ none 0 nL.length)]) 115 b3 (⟨l,[],[]⟩:aF),bx rB 4 b2 false,bx bI 3 b1 (0:Int)] _ from ?_);refine sB<|av bP J am J (ht J) hI<|sB<|av BC J am J (ht J) hB<|al<|ai<|aa<|pT<|vP<|tW 11 J<|aK<|bg 2 J<|bt<|bg 3 J<|bg 4 J<|aY<|aY<|aY<|mR ?_;cases so h;exact bF (ts:=[bv bc (⟨l,[],[]⟩:aF),bu 0,er false]) (rvs:=[.cell 2 109,.cell 3 3,.cell 4 4]) J J ⟨vm (j:=11) gN J J,bq bP J J J,bq BC J J J,aP⟩
 ·refine cF<|ae<|ap<|zo J (nW gN (.head _) (ht J))<|bz<|eO<|mn<|bp h fun it q_it h=>D2 (cP b3 (⟨l,[],[]⟩:aF) (KB [(none,0),(none,0)])) _ J PI (Hb b3 (KB [(none,0),(none,0)]) (⟨l,[],[]⟩:aF) q_it) ⟨(ht J),aP⟩ J fun v fp=>al<|au<|bp h fun r q_r h=>?_;refine zX (fun(ix:Bool×Int×Bool)=>[bx rV 109 b4 (aO b3 0),bx rB 4 b2 ix.1,bx bI 3 b1 ix.2.1,bx rV 109 b (bif ix.2.2 then aO b3 0 else .pointer none)]) (fun(ix:Bool×Int×Bool)=>(ix.1,ix.2.1,ix.2.2)) (fun _=> .ret) J (ht J) (false,(0:Int),false) J q_r (fun _=>J) J (fun ix x r1 h lp rec1 _ _ _=>?_) (fun i2 j hi bd=>⟨fun hj=>?_,fun _ hj=>?_⟩)
  ·obtain⟨x1,x2,p⟩:=ix
   replace h:sW x x1 x2 p=some r1:=h
   refine(show CG _ _ _ [mI lp rec1 .ready none,bx rV 109 b4 (aO b3 0),bx rB 4 b2 x1,bx bI 3 b1 x2,bx rV 109 b (bif p then aO b3 0 else .pointer none)] _ from ?_);refine yA (G' :=[(0,tD cT l),(1,bv cT l),(2,tV (aO b 0)),(3,tV (aO b1 0)),(4,tV (aO b2 0)),(5,tV (aO b4 0)),(6,fC l.Nodes),(9,tD cT l),(10,tD (rH bc [(1,.slice none 0 0),(2,.slice none 0 0)]) (⟨l,[],[]⟩:aF)),(11,tV (aO b3 0)),(12,bv (ea aM) l.Nodes),(13,bK (aM) l.Nodes),(14,fC l.Nodes),(15,fC l.Nodes),(16,er (decide ((l.Nodes.length:Int)<(1:Int)))),(17,er (decide ((l.Nodes.length:Int)<(1:Int)))),(18,kI (!(decide ((l.Nodes.length:Int)<(1:Int)))) (fC l.Nodes)),(19,kI (!(decide ((l.Nodes.length:Int)<(1:Int)))) (er (decide ((60:Int)<(l.Nodes.length:Int))))),(20,er ((decide ((l.Nodes.length:Int)<(1:Int)))||(decide ((60:Int)<(l.Nodes.length:Int))))),(22,tV (aO b3 0)),(24,bu x.1),(25,er x.2)]) ?_ ⟨J,J,J,J,J,J,J,J,J,J,J,J,J,J,J,J,J,J,J,J,J,J,aP⟩;refine ap<|ba J<|al<|an<|ba J<|aL<|z8<|au<|ap<|aB J<|zo J (cH (ht J))<|al<|bX h J (fun h=>?_) (fun h=>?_)
   ·refine ap<|zo J (nW gN (.tail _ (.head _)) (ht J))<|aB J<|qH (EffOK.fr4 (jV gN J (te am) J (ht J) (hW (ht J) J))) fun i3=>?_;refine(show RG _ _ _ _ [bx rV 109 b (aO b3 0),mI lp rec1 .busy none,bx rV 109 b4 (aO b3 0),bx rB 4 b2 x1,bx bI 3 b1 x2] _ from ?_);refine sC<|av bP J am J (ht J) (ht J)<|sC<|av BC J am J (ht J) hB<|al<|ai<|aq<|aK<|aK<|aK<|dT<|dT ?_;cases so h;exact u6 0 J (false,x.1,true) J J
   ·refine bi<|aj ?_;cases so h;exact qJ (x1,x2,p) J J
  ·skip
   obtain⟨x3,x4,p1⟩:=i2
   obtain rfl:x3=r.1.2.1:=congrArg (fun q:Bool×Int×Bool=>q.1) hi
   obtain rfl:x4=r.1.2.2.1:=congrArg (fun q:Bool×Int×Bool=>q.2.1) hi
   obtain rfl:p1=r.1.2.2.2:=congrArg (fun q:Bool×Int×Bool=>q.2.2) hi
   have h:=ct h (by rw [hj];rfl);refine(show AT _ _ _ [uO bd,bx (rH bc [(1,aQ (j.h 0).1 (j.h 0).2 r.2.kinds.length),(2,aQ (j.h 1).1 (j.h 1).2 r.2.first.length)]) 115 b3 r.2,db jG 39 (j.h 0).1 (j.h 0).2 r.2.kinds,db bI 3 (j.h 1).1 (j.h 1).2 r.2.first,bx rV 109 b4 (aO b3 0),bx rB 4 b2 r.1.2.1,bx bI 3 b1 r.1.2.2.1,bx rV 109 b (bif r.1.2.2.2 then aO b3 0 else .pointer none)] _ from ?_);refine cn (G' :=[(0,tD cT l),(1,bv cT l),(2,tV (aO b 0)),(3,tV (aO b1 0)),(4,tV (aO b2 0)),(5,tV (aO b4 0)),(6,fC l.Nodes),(9,tD cT l),(10,tD (rH bc [(1,.slice none 0 0),(2,.slice none 0 0)]) (⟨l,[],[]⟩:aF)),(11,tV (aO b3 0)),(12,bv (ea aM) l.Nodes),(13,bK (aM) l.Nodes),(14,fC l.Nodes),(15,fC l.Nodes),(16,er (decide ((l.Nodes.length:Int)<(1:Int)))),(17,er (decide ((l.Nodes.length:Int)<(1:Int)))),(18,kI (!(decide ((l.Nodes.length:Int)<(1:Int)))) (fC l.Nodes)),(19,kI (!(decide ((l.Nodes.length:Int)<(1:Int)))) (er (decide ((60:Int)<(l.Nodes.length:Int))))),(20,er ((decide ((l.Nodes.length:Int)<(1:Int)))||(decide ((60:Int)<(l.Nodes.length:Int))))),(22,tV (aO b3 0))]) ?_ ⟨J,J,J,J,J,J,J,J,J,J,J,J,J,J,J,J,J,J,J,J,aP⟩;refine aj<|ak<|ae<|bp h fun e q_e h=>?_
   refine kA 14 [tc (tV (aO b3 0)),tc (fC l.Nodes),tc (bu (IntKind.i64.wrap ((l.Nodes.length:Int)-(1:Int)))),tc (tV (aO b3 0)),tc (tV (aO b3 0)),tc (tV (aO b3 2)),tc (tO bI (j.h 1).1 (j.h 1).2 r.2.first),tc (fC l.Nodes),tc (bu (IntKind.i64.wrap ((l.Nodes.length:Int)-(1:Int)))),tc (bv bI e),tc (bu e),tc (er (e==(0:Int))),tc (wE),tc (wE)] [false,false,false,false,false,false,false,false,false,false,false,false,true,true] [fun _=>[uO bd,bx (rH bc [(1,aQ (j.h 0).1 (j.h 0).2 r.2.kinds.length),(2,aQ (j.h 1).1 (j.h 1).2 r.2.first.length)]) 115 b3 r.2,db jG 39 (j.h 0).1 (j.h 0).2 r.2.kinds,db bI 3 (j.h 1).1 (j.h 1).2 r.2.first,bx rV 109 b4 (aO b3 0),bx rB 4 b2 r.1.2.1,bx bI 3 b1 r.1.2.2.1,bx rV 109 b (bif r.1.2.2.2 then aO b3 0 else .pointer none)],fun sg=>[bx rV 109 b (aO b3 0),uO bd,bx (rH bc [(1,aQ (j.h 0).1 (j.h 0).2 r.2.kinds.length),(2,aQ (j.h 1).1 (j.h 1).2 r.2.first.length)]) 115 b3 r.2,db jG 39 (j.h 0).1 (j.h 0).2 r.2.kinds,db bI 3 (j.h 1).1 (j.h 1).2 r.2.first,bx rV 109 b4 (aO b3 0),bx rB 4 b2 r.1.2.1,bx bI 3 b1 r.1.2.2.1],fun sg=>[bx bI 3 b1 (IntKind.i64.wrap ((l.Nodes.length:Int)-(1:Int))),bx rV 109 b (aO b3 0),uO bd,bx (rH bc [(1,aQ (j.h 0).1 (j.h 0).2 r.2.kinds.length),(2,aQ (j.h 1).1 (j.h 1).2 r.2.first.length)]) 115 b3 r.2,db jG 39 (j.h 0).1 (j.h 0).2 r.2.kinds,db bI 3 (j.h 1).1 (j.h 1).2 r.2.first,bx rV 109 b4 (aO b3 0),bx rB 4 b2 r.1.2.1]] J mixed J J J J J
    ⟨⟨[⟨5,fun _=>tV (aO b4 0),none⟩],_,0,0,J,⟨(fun _=>J),aP⟩,J,J,J,J,J,s9 (fun sg=>aA J (nW gN (.tail _ (.tail _ (.tail _ (.tail _ (.head _))))) (ht J)))⟩,
    ⟨⟨[⟨6,fun _=>tD bI (l.Nodes.length:Int),none⟩],_,0,1,J,⟨(fun _=>J),aP⟩,J,J,J,J,J,fun _ sg _ _=>aA J (cr J)⟩,
    ⟨⟨[⟨31,fun _=>tD bI (l.Nodes.length:Int),some 1⟩],_,0,1,J,⟨(fun _=>J),aP⟩,J,J,J,J,J,fun _ sg _ _=>aA J (eZ (ht J) hI)⟩,
    ⟨⟨[⟨5,fun _=>tV (aO b4 0),none⟩],_,0,2,J,⟨(fun _=>J),aP⟩,J,J,J,J,J,yI (fun sg=>aA J (nW gN (.tail _ (.tail _ (.tail _ (.tail _ (.head _))))) (ht J))) (yI (fun sg=>aA J (nW gN (.tail _ (.tail _ (.tail _ (.tail _ (.tail _ (.head _)))))) (ht J))) (s9 (fun sg=>aA J (nW gN (.tail _ (.tail _ (.tail _ (.tail _ (.tail _ (.tail _ (.head _))))))) (ht J)))))⟩,
    ⟨⟨[⟨33,fun _=>tV (aO b3 0),some 3⟩],_,0,2,J,⟨(fun _=>J),aP⟩,J,J,J,J,J,fun _ sg _ _=>aA J (cQ (ht J))⟩,
    ⟨⟨[⟨34,fun _=>tV (aO b3 0),some 4⟩],_,0,2,J,⟨(fun _=>J),aP⟩,J,J,J,J,J,fun _ sg _ _=>aA J (gQ 2 o4 J J J)⟩,
    ⟨⟨[⟨35,fun _=>tV (aO b3 2),some 5⟩],_,0,2,J,⟨(fun _=>J),aP⟩,J,J,J,J,J,yI (fun sg=>aA J (cC c0 J (.tail _ (.head _)) (.tail _ (.tail _ (.tail _ (.head _)))) (ht J))) (yI (fun sg=>aA J (cC c0 J (.tail _ (.tail _ (.head _))) (.tail _ (.tail _ (.tail _ (.tail _ (.head _))))) (ht J))) (s9 (fun sg=>aA J (cC c0 J (.tail _ (.tail _ (.tail _ (.head _)))) (.tail _ (.tail _ (.tail _ (.tail _ (.tail _ (.head _)))))) (ht J)))))⟩,
    ⟨⟨[⟨6,fun _=>tD bI (l.Nodes.length:Int),none⟩],_,0,2,J,⟨(fun _=>J),aP⟩,J,J,J,J,J,fun _ sg _ _=>aA J (cr J)⟩,
    ⟨⟨[⟨37,fun _=>tD bI (l.Nodes.length:Int),some 7⟩],_,0,2,J,⟨(fun _=>J),aP⟩,J,J,J,J,J,fun _ sg _ _=>aA J (eZ (ht J) hI)⟩,
    ⟨⟨[⟨36,fun _=>tO bI (j.h 1).1 (j.h 1).2 r.2.first,some 6⟩,⟨38,fun _=>tD bI (IntKind.i64.wrap ((l.Nodes.length:Int)-(1:Int))),some 8⟩],_,0,2,J,⟨(fun _=>J),(fun _=>J),aP⟩,J,J,J,J,J,fun _ sg _ _=>aA J (bf ed bP J (gz (ht J)) (ht J) q_e)⟩,
    ⟨⟨[⟨39,fun _=>bv bI e,some 9⟩],_,0,2,J,⟨(fun _=>J),aP⟩,J,J,J,J,J,fun _ sg _ _=>aA J (bn bP J J)⟩,
    ⟨⟨[⟨40,fun _=>tD bI e,some 10⟩],_,0,2,J,⟨(fun _=>J),aP⟩,J,J,J,J,J,fun _ sg _ _=>aA J (io J)⟩,
    ⟨⟨[⟨2,fun _=>tV (aO b 0),none⟩,⟨30,fun _=>tV (aO b3 0),some 0⟩],_,J,⟨(fun _=>J),(fun _=>J),aP⟩,J,J,J,fun sg=>dA J (EffOK.fr7 (jV gN J (te am) J (ht J) (hW (ht J) J)))⟩,
    ⟨⟨[⟨3,fun _=>tV (aO b1 0),none⟩,⟨32,fun _=>tD bI (IntKind.i64.wrap ((l.Nodes.length:Int)-(1:Int))),some 2⟩],_,J,⟨(fun _=>J),(fun _=>J),aP⟩,J,J,J,fun sg=>dA J (EffOK.fr7 (jV bP J (te am) J (ht J) (ht J)))⟩,
    aP⟩⟩⟩⟩⟩⟩⟩⟩⟩⟩⟩⟩⟩⟩ (fun sg=>?_)
   refine(show RG _ _ _ _ [bx bI 3 b1 (IntKind.i64.wrap ((l.Nodes.length:Int)-(1:Int))),bx rV 109 b (aO b3 0),uO bd,bx (rH bc [(1,aQ (j.h 0).1 (j.h 0).2 r.2.kinds.length),(2,aQ (j.h 1).1 (j.h 1).2 r.2.first.length)]) 115 b3 r.2,db jG 39 (j.h 0).1 (j.h 0).2 r.2.kinds,db bI 3 (j.h 1).1 (j.h 1).2 r.2.first,bx rV 109 b4 (aO b3 0),bx rB 4 b2 r.1.2.1] _ from ?_);refine FV<|av BC J am J (ht J) (ht J)<|al<|ai<|dT<|vP<|tW 11 J<|aK<|bg 2 J<|bt<|bg 3 J<|bg 4 J<|bt<|aY<|bt<|aY<|bt<|aY<|u5<|mR ?_;cases so h;exact bF (ts:=[bv bc r.2,bu (IntKind.i64.wrap ((l.Nodes.length:Int)-(1:Int))),er (e==(0:Int))]) (rvs:=[.cell 2 109,.cell 3 3,.cell 4 4]) J J ⟨vm (j:=11) gN J J,bq bP J J J,bq BC J J J,aP⟩
  ·skip
   obtain⟨x5,x6,p2⟩:=i2
   obtain rfl:x5=r.1.2.1:=congrArg (fun q:Bool×Int×Bool=>q.1) hi
   obtain rfl:x6=r.1.2.2.1:=congrArg (fun q:Bool×Int×Bool=>q.2.1) hi
   obtain rfl:p2=r.1.2.2.2:=congrArg (fun q:Bool×Int×Bool=>q.2.2) hi
   have h:=cf h (by rw [hj];rfl);refine(show CG _ _ _ [uO bd,bx (rH bc [(1,aQ (j.h 0).1 (j.h 0).2 r.2.kinds.length),(2,aQ (j.h 1).1 (j.h 1).2 r.2.first.length)]) 115 b3 r.2,db jG 39 (j.h 0).1 (j.h 0).2 r.2.kinds,db bI 3 (j.h 1).1 (j.h 1).2 r.2.first,bx rV 109 b4 (aO b3 0),bx rB 4 b2 r.1.2.1,bx bI 3 b1 r.1.2.2.1,bx rV 109 b (bif r.1.2.2.2 then aO b3 0 else .pointer none)] _ from ?_);refine yA (G' :=[(0,tD cT l),(1,bv cT l),(2,tV (aO b 0)),(3,tV (aO b1 0)),(4,tV (aO b2 0)),(5,tV (aO b4 0)),(6,fC l.Nodes),(9,tD cT l),(10,tD (rH bc [(1,.slice none 0 0),(2,.slice none 0 0)]) (⟨l,[],[]⟩:aF)),(11,tV (aO b3 0)),(12,bv (ea aM) l.Nodes),(13,bK (aM) l.Nodes),(14,fC l.Nodes),(15,fC l.Nodes),(16,er (decide ((l.Nodes.length:Int)<(1:Int)))),(17,er (decide ((l.Nodes.length:Int)<(1:Int)))),(18,kI (!(decide ((l.Nodes.length:Int)<(1:Int)))) (fC l.Nodes)),(19,kI (!(decide ((l.Nodes.length:Int)<(1:Int)))) (er (decide ((60:Int)<(l.Nodes.length:Int))))),(20,er ((decide ((l.Nodes.length:Int)<(1:Int)))||(decide ((60:Int)<(l.Nodes.length:Int))))),(22,tV (aO b3 0))]) ?_ ⟨J,J,J,J,J,J,J,J,J,J,J,J,J,J,J,J,J,J,J,J,aP⟩;refine ai ?_;refine aq (aa ?_);refine bp h fun u q_u h=>HP (O' :=[uO bd,bx (rH bc [(1,aQ (j.h 0).1 (j.h 0).2 r.2.kinds.length),(2,aQ (j.h 1).1 (j.h 1).2 r.2.first.length)]) 115 b3 r.2,db jG 39 (j.h 0).1 (j.h 0).2 r.2.kinds,db bI 3 (j.h 1).1 (j.h 1).2 r.2.first,bx rV 109 b4 (aO b3 0),bx rB 4 b2 r.1.2.1,bx bI 3 b1 r.1.2.2.1,bx rV 109 b (aO b3 0)]) (by rw [show r.1.2.2.2=true from GD q_u];rfl)<|bt<|vP<|tW 11 J<|pT<|bg 2 J<|z7<|bg 3 J<|dT<|bg 4 J<|bt<|aY<|bt<|aY<|bt<|aY<|u5<|mR ?_;cases so h;exact bF (ts:=[bv bc r.2,bu r.1.2.2.1,er r.1.2.1]) (rvs:=[.cell 2 109,.cell 3 3,.cell 4 4]) J J ⟨vm (j:=11) gN J J,bq bP J J J,bq BC J J J,aP⟩

theorem GV(l:dM){R:Int×Int}(h:rG l=some R):aN aJ 50 [tD cT l] (tT [bu R.1,bu R.2]):=by
 refine aN.of Tryz.func50 J J J fun w0 S0=>ap<|zo J (ff J)<|zo J (bO)<|zo J (bO)<|al<|ap<|zo J (bn mF J J)<|bp h fun r q_r h=>zo J (ax ME (DK _ q_r) ⟨(ht J),aP⟩)<|aB J<|zo J (eT J J)<|zo J (eT J J)<|zo J (eT J J)<|ba J<|ba J<|ba J<|al<|ae<|ae ?_;refine an<|aB J<|zo J (cH (ht J))<|al<|bX h J (fun h=>?_) (fun h=>?_)
 ·refine ap<|aB J<|ba J<|zo J (bO)<|al<|ai<|aa ?_;cases so h;exact ca J J J
 ·refine cF<|ap<|zo J (bO)<|zo J (bO)<|al<|ai ?_;cases so h;exact ca J J J

theorem GU(rows:(List (List M)))(kinds:(List Int)){R:Bool}(h:mN rows kinds=some R):aN aJ 61 [bK (cE) rows,iA kinds] (er R):=by
 refine aN.of Tryz.func61 J J J fun w0 S0=>ap<|zo J (ef)<|al<|ae<|ap<|aB J<|zo J (eH ge J)<|zo J (eb (ht J) hI)<|al<|bX h J (fun h=>?_) (fun h=>?_)
 ·refine ap<|zo J (ef)<|al<|ai<|aa ?_;cases so h;exact ay J J
 ·refine cF<|ae<|ap<|aB J<|zo J (eH ge J)<|zo J (br hI)<|al<|au<|aU (k:=12) J fun hN=>bo ?_;refine aI (cN (Z:=fun ls i=>(rows.drop i=ls)∧iK kinds ls=some R) (Of:=fun _ i=>[]) (Gf:=fun _ i=>[(1,iA kinds),(12,bK (cE) rows),(13,fC rows),(14,bu (i:Int))]) (fun i h=>?_) (fun e tl ih i h=>?_) rows 0 ⟨J,h⟩) (bh J)
  ·obtain⟨hx,h⟩:=h
   refine aw<|ap<|zo J (dC J J)<|al<|ae<|bm (ht J) (cx hx)<|be ?_;refine af (af (aE ?_));refine ak<|ap<|zo rfl (ef)<|al<|ai ?_;cases so h;exact ay J J
  ·obtain⟨hx,h⟩:=h
   refine aw<|ap<|zo J (dC J J)<|al<|ae<|bl (ht J) (cw hx)<|cF<|ae<|au<|ap<|zo J (gw ge dd J J J (ci hx))<|zo J (bn dd J J)<|ba J<|al<|ae<|ap<|aB J<|zo J (eH lG J) ?_;refine aB J<|zo J (eH ed J)<|zo J (dc (ht J) (ht J))<|al<|bX h J (fun h=>?_) (fun h=>?_)
   ·refine ap<|zo J (ef)<|al<|ai ?_;refine aa (aq (aa (aa (aq (aa ?_)))));cases so h;exact ay J J
   ·refine cF<|ap<|aB J<|zo J (eH lG J)<|zo J (br hI)<|al<|au<|aU (k:=23) J fun hN1=>bo ?_;refine aI (cN (Z:=fun ls1 i1=>(e.drop i1=ls1)∧iJ kinds (iK kinds tl) ls1 i1=some R) (Of:=fun _ i1=>[]) (Gf:=fun _ i1=>[(1,iA kinds),(12,bK (cE) rows),(13,fC rows),(14,bu (i:Int)),(23,bK (ac) e),(24,fC e),(25,bu (i1:Int))]) (fun i1 h=>?_) (fun e1 tl1 ih1 i1 h=>?_) e 0 ⟨J,h⟩) (bh J)
    ·obtain⟨hx1,h⟩:=h
     refine aw<|ap<|zo J (dC J J)<|al<|ae<|bm (ht J) (cx hx1)<|be ?_;refine af (af (aE ?_));refine aj<|ak<|an<|zo rfl (iq (bW hx hN) rfl)<|aB rfl<|aL ?_;exact aT (aI (ih (i+1) ⟨bV hx,h⟩) (bh J))
    ·obtain⟨hx1,h⟩:=h
     refine aw<|ap<|zo J (dC J J)<|al<|ae<|bl (ht J) (cw hx1)<|cF<|ae<|au<|ap<|aB J<|zo J (gw lG aG J J J (ci hx1))<|zo J (bn aG J J)<|aV (r:=ac) (x:=eS) aG (fun _=>aZ _) J fun b=>ba J<|av aG J am J (ht J) (ht J)<|aS 8 J<|al<|ae ?_;refine bp h fun r q_r h=>bp h fun t q_t h=>?_
     obtain⟨t1,h1t,h0t⟩:=og q_t
     have q_t1g:=fun hb=>(h1t hb).1
     obtain⟨e2,h1t1,h0t1⟩:=PU q_t1g
     have q_e2g:=fun hb=>(h1t1 hb).1
     refine bZ (ts:=[_,_,_,_,_,_,_,_,_,_,_,_,_,_,_,_,_]) mixed J J
      ⟨dp 8 J J J (bn aG J J),
      ⟨bH 30 0 J J J (ax Cm (uK _ q_r) ⟨(ht J),aP⟩),
      ⟨bH 31 1 J J J (pt J),
      ⟨bH 32 2 J J J (cr J),
      ⟨jI 8 33 3 J J J J (dG J J J J (fun hg=>bS em bU J J)),
      ⟨fk 34 4 33 3 J J J J (dG J J J J (fun hg=>bj bP J J (bk J hg))),
      ⟨fk 35 5 33 3 J J J J (dG J J J J (fun hg=>dc (bk J hg) hI)),
      ⟨fk 36 6 33 3 J J J J (dG J J J J (fun hg=>br (bk J hg))),
      ⟨jI 8 37 7 J J J J (eC J J J J (fun hg=>bS em bU J J)),
      ⟨fk 38 8 37 7 J J J J (eC J J J J (fun hg=>bj bP J J (bk J hg))),
      ⟨jI 1 37 7 J J J J (eC J J J J (fun hg=>cr J)),
      ⟨jI 7 37 7 J J J J (eC J J J J (fun hg=>cr J)),
      ⟨kr 40 10 41 11 37 7 J J J J J (eC J J J J (fun hg=>bf ed bP J (bk J hg) (bk J hg) (q_e2g hg))),
      ⟨fk 42 12 37 7 J J J J (eC J J J J (fun hg=>bj bP J J (bk J hg))),
      ⟨kr 39 9 43 13 37 7 J J J J J (eC J J J J (fun hg=>dc (bk J hg) (bk J hg))),
      ⟨kr 37 7 44 14 33 3 J J J J J (dG J J J J (fun hg=>cJ (bk J hg) (fun hb=>(bk J (q5 hg hb))) (fun hb=>(h1t1 (q5 hg hb)).2) (fun hb=>h0t1 hg hb))),
      ⟨cO 33 3 45 15 J J J J (dy (ht J) (fun hb=>(bk J (mU hb))) (fun hb=>(h1t hb).2) h0t),
      aP⟩⟩⟩⟩⟩⟩⟩⟩⟩⟩⟩⟩⟩⟩⟩⟩⟩ ?_
     refine ak<|bX h rfl (fun h=>?_) (fun h=>?_)
     ·refine ap<|zo J (ef)<|al<|ai ?_;refine aq (aa (aa (aq (aq (aa (aa (aq (aa ?_))))))));cases so h;exact ay J J
     ·refine bi<|aj<|ak<|an<|zo rfl (iq (bW hx1 hN1) rfl)<|aB rfl<|aL ?_;exact aT (aI (ih1 (i1+1) ⟨bV hx1,h⟩) (bh J))

theorem Mt(l:dM)(b:eU){R:Bool}(h:wm l b=some R):aN aJ 16 [tD cT l,tD fN b] (er R):=by
 refine aN.of Tryz.func16 J J J fun w0 S0=>ap<|zo J (ff J)<|zo J (ff J)<|zo J (ef)<|al<|ae<|ap<|zo J (bn mF J J)<|bp h fun r q_r h=>zo J (ax Nv (GV _ q_r) ⟨(ht J),aP⟩)<|aB J<|zo J (eT J J)<|zo J (eT J J)<|ba J<|ba J<|al<|ap<|aB J ?_;refine zo J (pt J)<|al<|bX h J (fun h=>?_) (fun h=>?_)
 ·refine ap<|zo J (ef)<|al<|ai<|aa ?_;cases so h;exact ay J J
 ·refine cF<|ae<|ap<|zo J (bS pm jS J J)<|zo J (bn yL J J)<|zo J (eH t6 J)<|zo J (br hI)<|al<|au<|aU (k:=17) J fun hN=>bo ?_;refine aI (cN (Z:=fun ls i=>(l.Nodes.drop i=ls)∧ov b ls=some R) (Of:=fun _ i=>[]) (Gf:=fun _ i=>[(3,bv fN b),(17,bK (aM) l.Nodes),(18,fC l.Nodes),(19,bu (i:Int))]) (fun i h=>?_) (fun e tl ih i h=>?_) l.Nodes 0 ⟨J,h⟩) (bh J)
  ·obtain⟨hx,h⟩:=h
   refine aw<|ap<|zo J (dC J J)<|al<|ae<|bm (ht J) (cx hx)<|be ?_;refine af (af (aE ?_));refine ak<|ap<|zo rfl (ef)<|al<|ai ?_;cases so h;exact ay J J
  ·obtain⟨hx,h⟩:=h
   refine aw<|ap<|zo J (dC J J)<|al<|ae<|bl (ht J) (cw hx)<|cF<|ae<|au<|ap<|zo J (gw t6 fu J J J (ci hx))<|zo J (bn fu J J)<|aV (r:=aM) (x:=Bu) fu (fun _=>k6 _) J fun b1=>av fu J am J (ht J) (ht J)<|aS 8 J<|al<|ae<|bp h fun t q_t h=>?_
   obtain⟨t1,h1t,h0t⟩:=og q_t
   have q_t1g:=fun hb=>(h1t hb).1
   obtain⟨e1,h1t1,h0t1⟩:=PU q_t1g
   have q_e1g:=fun hb=>(h1t1 hb).1
   obtain⟨r1,h1t1⟩:=Ep (fun hb=>(h1t1 hb).2)
   have q_r1g:=fun hb=>(h1t1 hb).1
   refine bZ (ts:=[_,_,_,_,_,_,_,_,_,_,_,_,_,_,_,_,_,_,_,_,_,_,_]) mixed J J
    ⟨dp 8 J J J (bS vw lZ J J),
    ⟨bH 23 0 J J J (bn bP J J),
    ⟨bH 24 1 J J J (io J),
    ⟨bH 25 2 J J J (cr J),
    ⟨jI 8 26 3 J J J J (dP J J J J (fun hg=>bS tB lY J J)),
    ⟨fk 27 4 26 3 J J J J (dP J J J J (fun hg=>bj bP J J (bk J hg))),
    ⟨jI 3 26 3 J J J J (dP J J J J (fun hg=>bS qo ka J J)),
    ⟨fk 29 6 26 3 J J J J (dP J J J J (fun hg=>bj oL J J (bk J hg))),
    ⟨fk 30 7 26 3 J J J J (dP J J J J (fun hg=>cD jH (bk J hg))),
    ⟨kr 28 5 31 8 26 3 J J J J J (dP J J J J (fun hg=>dU (bk J hg) (bk J hg))),
    ⟨fk 32 9 26 3 J J J J (dP J J J J (fun hg=>br (bk J hg))),
    ⟨jI 3 33 10 J J J J (mB J J J J (fun hg=>bS qo ka J J)),
    ⟨fk 34 11 33 10 J J J J (mB J J J J (fun hg=>bj oL J J (bk J hg))),
    ⟨jI 8 33 10 J J J J (mB J J J J (fun hg=>bS tB lY J J)),
    ⟨fk 36 13 33 10 J J J J (mB J J J J (fun hg=>bj bP J J (bk J hg))),
    ⟨kr 35 12 37 14 33 10 J J J J J (mB J J J J (fun hg=>bf jH eu J (bk J hg) (bk J hg) (q_e1g hg))),
    ⟨fk 38 15 33 10 J J J J (mB J J J J (fun hg=>bj eu J J (bk J hg))),
    ⟨jI 8 33 10 J J J J (mB J J J J (fun hg=>bS ql kO J J)),
    ⟨fk 40 17 33 10 J J J J (mB J J J J (fun hg=>bj c0 J J (bk J hg))),
    ⟨kr 39 16 41 18 33 10 J J J J J (mB J J J J (fun hg=>ax Nu (GU _ _ (q_r1g hg)) ⟨(bk J hg),(bk J hg),aP⟩)),
    ⟨fk 42 19 33 10 J J J J (mB J J J J (fun hg=>cH (bk J hg))),
    ⟨kr 33 10 43 20 26 3 J J J J J (dP J J J J (fun hg=>dy (bk J hg) (fun hb=>(bk J (q5 hg (mU hb)))) (fun hb=>(h1t1 (q5 hg hb)).2) (fun hb=>h0t1 hg hb))),
    ⟨cO 26 3 44 21 J J J J (cJ (ht J) (fun hb=>(bk J hb)) (fun hb=>(h1t hb).2) h0t),
    aP⟩⟩⟩⟩⟩⟩⟩⟩⟩⟩⟩⟩⟩⟩⟩⟩⟩⟩⟩⟩⟩⟩⟩ ?_
   refine ak<|bX h rfl (fun h=>?_) (fun h=>?_)
   ·refine ap<|zo J (ef)<|al<|ai ?_;refine aq (aa (aa (aq (aa ?_))));cases so h;exact ay J J
   ·refine bi<|aj<|ak<|an<|zo rfl (iq (bW hx hN) rfl)<|aB rfl<|aL ?_;exact aT (aI (ih (i+1) ⟨bV hx,h⟩) (bh J))

theorem Mi(l:dM){R:(List Int)×Int}(h:v6 l=some R):aN aJ 23 [tD cT l] (tT [iA R.1,bu R.2]):=by
 refine aN.of Tryz.func23 J J J fun w0 S0=>ap<|zo J (ff J)<|zo J (aD (show aH _ _ _ rd from gr))<|zo J (bO)<|al<|ap<|zo J (bn mF J J)<|bp h fun r q_r h=>zo J (ax ME (DK _ q_r) ⟨(ht J),aP⟩)<|aB J<|zo J (eT J J)<|zo J (eT J J)<|zo J (eT J J)<|ba J<|ba J<|ba J<|al<|ae<|ae ?_;refine an<|aB J<|zo J (cH (ht J))<|al<|bX h J (fun h=>?_) (fun h=>?_)
 ·refine ap<|zo J (aD (show aH _ _ _ rd from gr))<|zo J (bO)<|al<|ai<|aa ?_;cases so h;exact ca J J J
 ·refine cF<|ap<|aB J<|zo J (AA (ht J))<|zo J (bS jB AN J J)<|zo J (bn nQ J J)<|aB J<|bp h fun e q_e h=>zo J (gw pV c0 J J J q_e)<|zo J (bn c0 J J)<|bp h fun r1 q_r1 h=>fe Ho (AR _ q_r1) ⟨(ht J),aP⟩ J fun l1 c=>ba J<|zo J (bO)<|al<|ai<|fQ<|ce 2 J<|ce 22 J<|fR 2 J<|aY ?_;cases so h;exact ca J J J

theorem Nn(b:Nat)(ix:OI)(r:cU)(n:aC){R:(List (List M))×Int}(h:m4 r n=some R):cy aJ 51 [tV (aO b 0),tD aM n] (fG b r ix) (fun _:OI=>tT [bK (cE) R.1,bu R.2]) (fun _=>(fG b r ix)):=by
 refine cy.of Tryz.func51 J J J fun w0 S0=>?_;refine(show CG _ _ _ [bx (rH dn [(1,aQ (ix.h 0).1 (ix.h 0).2 r.rows.length),(2,aQ (ix.h 1).1 (ix.h 1).2 r.width.length)]) 96 b r,db da 32 (ix.h 0).1 (ix.h 0).2 r.rows,db bI 3 (ix.h 1).1 (ix.h 1).2 r.width] _ from ?_);refine ap<|zo J (ff J)<|zo J (aD (show aH _ _ _ pY from gr))<|zo J (bO)<|al<|ae<|bp h fun e q_e h=>?_
 refine bZ (ts:=[_,_,_,_,_,_,_,_,_,_,_]) mixed J J
  ⟨dp 0 J J J (cr J),
  ⟨bH 6 0 J J J (cQ (ht J)),
  ⟨bH 7 1 J J J (gQ 0 LW J J J),
  ⟨bH 8 2 J J J (gQ 0 qo J J J),
  ⟨bH 9 3 J J J (bL (r:=rH dn [(1,aQ (ix.h 0).1 (ix.h 0).2 r.rows.length),(2,aQ (ix.h 1).1 (ix.h 1).2 r.width.length)]) (x:=r) oL J J (Im (pM GN ka)) (.head _) (ht J)),
  ⟨dp 3 J J J (bS tB lY J J),
  ⟨bH 11 5 J J J (bn bP J J),
  ⟨cO 10 4 12 6 J J J J (gw jH eu J J J q_e),
  ⟨bH 13 7 J J J (bn eu J J),
  ⟨bH 14 8 J J J (pe J),
  ⟨Fg J J (bO),
  aP⟩⟩⟩⟩⟩⟩⟩⟩⟩⟩⟩ ?_
 refine ak<|ai<|aK<|aK<|aK ?_;cases so h;exact df (ts:=[bK (cE) e,bu 0]) (rvs:=[.tmp 4,.tmp 5]) J J ⟨aW J,aW J,aP⟩ kY J J

theorem G9(n:Int){R:(List M)}(h:iQ n=some R):d4 aJ 172 [tV (.slice none 0 0),bu n] false ac 46 R:=by
 refine d4.of Tryz.func172 J J J fun w0 S0=>ap<|bA false ac 46<|zo J (aD mZ)<|al ?_;refine pS (Z:=gY n=some R) (Of:=[]) (Gf:=[(0,tV (.slice none 0 0)),(1,bu n)]) (fun h=>?_) (fun K=>?_)
 ·skip
  refine sF (Z:=fun s l c=>eV s=some R) (Of:=fun s l c=>[dJ ac 46 l c s]) (Gf:=fun s l c=>[(0,mp l c s)]) (fun s l c h=>?_) (fun K1=>?_)
  ·skip
   refine ap<|aB J<|ba J<|al<|ai ?_;cases so h;exact d7 J J
  ·skip
   refine ap<|aB J<|aB J<|zo J (nB lG (ht J))<|aB J<|zo J (ny lG (ht J))<|zo J (eZ (ht J) (ht J))<|zo J (eZ (ht J) (ht J))<|ba J<|al<|ap<|aB J<|zo J (eb (ht J) hI)<|al<|bX h J (fun h=>?_) (fun h=>?_)
   ·refine an<|aB J<|aB J<|zo J (nB lG (ht J))<|zo J (rD lG aG (ht J) (ht J))<|aB J<|bp h fun u q_u h=>bp h fun mk q_mk h=>tP (rW (r:=ac) (x:=eS) aG J J J J lG nE (fun _=>aZ _) (ht J) (ht J) (xZ q_u) q_mk) J fun i=>aB J<|zo J (ny lG (ht J))<|bp h fun y q_y h=>zo J (hJ lG aG J (.head _) (ht J) (ht J) q_y)<|qI q_y<|ba J<|aL ?_;exact cn (K1 y (i.h 0).1 (i.h 0).2 h) (bh J)
   ·refine bi<|yB false ac 46 ?_;exact cn (K1 Aj none 0 h) (bh J)
 ·skip
  refine ap<|aB J<|zo J (dO (ht J) hI)<|al<|bX h J (fun h=>?_) (fun h=>?_)
  ·refine an ?_;exact(nn h).elim
  ·refine bi<|aY ?_;exact cn (K h) (bh J)
theorem Cg(slices:(List (List M))){R:(List M)}(h:d5 slices=some R):d4 aJ 104 [bK (cE) slices] false ac 46 R:=by
 refine d4.of Tryz.func104 J J J fun w0 S0=>ap<|bA false ac 46<|zo J (aD mZ)<|al<|ap<|zo J (bO)<|al<|ae<|ap<|aB J<|zo J (eH ge J)<|zo J (br hI)<|al<|au<|aU (k:=9) J fun hN=>bo<|mC ?_;refine aI (jk (Z:=fun ls i size=>(slices.drop i=ls)∧eJ slices ls size=some R) (Of:=fun _ i size=>[]) (Gf:=fun _ i size=>[(0,bK (cE) slices),(3,bu size),(9,bK (cE) slices),(10,fC slices),(11,bu (i:Int))]) (fun i size h=>?_) (fun e tl ih i size h=>?_) slices 0 (0:Int) ⟨J,h⟩) (bh J)
 ·obtain⟨hx,h⟩:=h
  refine aw<|ap<|zo J (dC J J)<|al<|ae<|bm (ht J) (cx hx)<|be ?_;refine af (af (aE ?_));refine ak<|ap<|aB rfl<|bp h fun r q_r h=>fe Pk (G9 _ q_r) ⟨hV,(ht J),aP⟩ J fun l c=>ba J<|al<|ae<|ap<|aB J<|zo J (eH ge J)<|zo J (br hI)<|al<|au<|aU (k:=25) J fun hN1=>bo ?_;refine aI (gb (Z:=fun ls1 i1 newslice l1 c1=>(slices.drop i1=ls1)∧eI ls1 newslice=some R) (Of:=fun _ i1 newslice l1 c1=>[dJ ac 46 l1 c1 newslice]) (Gf:=fun _ i1 newslice l1 c1=>[(6,mp l1 c1 newslice),(25,bK (cE) slices),(26,fC slices),(27,bu (i1:Int))]) (fun i1 newslice l1 c1 h=>?_) (fun e1 tl1 ih1 i1 newslice l1 c1 h=>?_) slices 0 r l c ⟨J,h⟩) (bh J)
  ·obtain⟨hx1,h⟩:=h
   refine aw<|ap<|zo J (dC J J)<|al<|ae<|bm (ht J) (cx hx1)<|be ?_;refine af (af (aE ?_));refine ak<|ap<|aB rfl<|ba rfl<|al<|ai ?_;cases so h;exact d7 J J
  ·obtain⟨hx1,h⟩:=h
   refine aw<|ap<|zo J (dC J J)<|al<|ae<|bl (ht J) (cw hx1)<|cF<|ae<|au<|ap<|zo J (gw ge dd J J J (ci hx1))<|zo J (bn dd J J)<|ba J<|al<|an<|aB J<|aB J<|bp h fun newslice1 q_newslice1 h=>cg aG J J J J lG J J (ht J) (ht J) q_newslice1 fun l2 c2=>?_;refine ba J<|aL<|aj<|ak<|an<|zo rfl (iq (bW hx1 hN1) rfl)<|aB rfl<|aL ?_;exact aT (aI (ih1 (i1+1) newslice1 l2 c2 ⟨bV hx1,h⟩) (bh J))
 ·obtain⟨hx,h⟩:=h
  refine aw<|ap<|zo J (dC J J)<|al<|ae<|bl (ht J) (cw hx)<|cF<|ae<|au<|ap<|zo J (gw ge dd J J J (ci hx))<|zo J (bn dd J J)<|ba J<|al<|ap<|aB J<|aB J<|zo J (eH lG J) ?_;refine zo J (fF (ht J) (ht J))<|ba J<|al<|ap<|aB J<|zo J (dO (ht J) hI)<|al<|bX h J (fun h=>?_) (fun h=>?_)
  ·refine an ?_;exact(nn h).elim
  ·refine bi<|aj<|ak<|an<|zo rfl (iq (bW hx hN) rfl)<|aB rfl<|aL ?_;exact aT (aI (ih (i+1) (IntKind.i64.wrap (size+(e.length:Int))) ⟨bV hx,h⟩) (bh J))
theorem Kd(slices:(List (List M))){R:(List M)}(h:d5 slices=some R):aN aJ 104 [bK (cE) slices] (bK (ac) R):=(Cg _ h).spec

end Go.Proofs.YtfhhakidodmdfaaGreatDoor

