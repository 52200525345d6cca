/- cN of this claim: P4. -/
import Derived.Test.YtnmjbolollcokaaGreatDoorRaT
import Derived.Test.YtnmjbolollcokaaGreatDoorRaP3
set_option linter.all false
namespace Go.Proofs.YtnmjbolollcokaaGreatDoor
open Go
set_option maxRecDepth 100000

theorem GB(b:Nat)(ix:OI)(c:aB){R:Db (Int×Bool) aB}(h:nN c=some R):tp aX 93 [tV (aE b 0)] (cE b c ix) (fun(x:Int×Bool)=>[bK x.1,eD x.2]) R (cE b):=by
 refine tp.of Tryz.func93 J J J fun w0 S0=>?_;refine(show CG _ _ _ [bx (rH aZ [(1,aC (ix.h 0).1 (ix.h 0).2 c.kinds.length),(2,aC (ix.h 1).1 (ix.h 1).2 c.first.length)]) 123 b c,bV dK 42 (ix.h 0).1 (ix.h 0).2 c.kinds,bV bR 3 (ix.h 1).1 (ix.h 1).2 c.first] _ from ?_);refine ay<|zo J (Gp (fun _ _ h=>by rw [show _=_ from h];rfl) (ht J))<|zo J (aP hV)<|aw<|ay<|du<|du<|du<|zz (O1:=cE b c ix) (cts:=[bl (rT (tV (aE b 0))) ()]) (caps:=[.tmp 1]) J LB (Fq b ix c) ⟨(ht J),aV⟩ J fun v fp=>bB J<|aw<|ap ?_;cases so h;exact Ep J J

theorem B4(l:cI){R:aB×Int×Bool}(h:pn l=some R):bo aX 55 [tD cv l] (tT [bl aZ R.1,bK R.2.1,eD R.2.2]):=by
 refine wF Tryz.func55 J J J fun w0 S0=>ay<|zo J (gP J)<|bj (r:=rV) (x:= .pointer none) fU (fun _=>⟨J,J⟩) J fun b=>bj (r:=bR) (x:=(0:Int)) bD (fun _=>J) J fun b1=>bj (r:=rB) (x:=false) Cv (fun _=>J) J fun b2=>aw<|ay<|zo J (bq lV J J)<|zo J (cr (r:=rH aZ [(1,.slice none 0 0),(2,.slice none 0 0)]) (y:=(⟨l,[],[]⟩:aB)) Ka Km (zH Bj ⟨J,J,aV⟩) (⟨_,_,_,_,_,J,EM yP J J,J,(ht J),J⟩))<|n7 (ht J) J fun b3=>bM true dK 42<|bM true bR 3 ?_;refine(show RG _ _ _ _ [bV bR 3 none 0 mE,bV dK 42 none 0 zT,bx (rH aZ [(1,aC none 0 zT.length),(2,aC none 0 mE.length)]) 123 b3 (⟨l,[],[]⟩:aB),bx rB 4 b2 false,bx bR 3 b1 (0:Int),bx rV 118 b (.pointer none)] _ from ?_);refine bj (r:=rV) (x:= .pointer none) fU (fun _=>⟨J,J⟩) J fun b4=>n6 (iC fU J (o5 al) J (ht J) (hW (ht J) J)) fun i=>?_;refine(show RG _ _ _ _ [bx rV 118 b4 (aE b3 0),bV bR 3 none 0 mE,bV dK 42 none 0 zT,bx (rH aZ [(1,aC none 0 zT.length),(2,aC none 0 mE.length)]) 123 b3 (⟨l,[],[]⟩:aB),bx rB 4 b2 false,bx bR 3 b1 (0:Int),bx rV 118 b (.pointer none)] _ from ?_);refine aw<|ay<|zo J (cc mt gK J J)<|zo J (bq kE J J)<|zo J (fV oz J)<|bB J<|aw<|ae<|ay<|aG J<|zo J (eg (ht J) hI)<|aG J<|cR J J (fun hg=>cn J)<|cR J J (fun hg=>fq (bc J hg) hI)<|zo J (oB J J)<|aw<|db h J (fun h=>?_) (fun h=>?_)
 ·refine ay<|zo J (m4 fU (.head _) (ht J))<|n6 (EffOK.fr6 (iC fU J (o5 al) J (ht J) (hW (ht J) J))) fun i1=>?_;refine(show RG _ _ _ _ [bx rV 118 b (aE b3 0),bx rV 118 b4 (aE b3 0),bV bR 3 none 0 mE,bV dK 42 none 0 zT,bx (rH aZ [(1,aC none 0 zT.length),(2,aC none 0 mE.length)]) 123 b3 (⟨l,[],[]⟩:aB),bx rB 4 b2 false,bx bR 3 b1 (0:Int)] _ from ?_);refine uq<|au bD J al J (ht J) hI<|uq<|au Cv J al J (ht J) hB<|aw<|ap<|M<|eX<|ux<|su 11 J<|av<|bS 2 J<|bU<|bS 3 J<|bS 4 J<|ba<|ba<|ba<|oO ?_;cases so h;exact jQ (ts:=[bl aZ (⟨l,[],[]⟩:aB),bK 0,eD false]) (rvs:=[.cell 2 118,.cell 3 3,.cell 4 4]) J J ⟨tU (j:=11) fU J J,d7 bD J J J,d7 Cv J J J,aV⟩
 ·refine dB<|ae<|ay<|zo J (m4 fU (.head _) (ht J))<|bQ<|du<|cY<|bG h fun it q_it h=>Cl (cE b3 (⟨l,[],[]⟩:aB) (BO [(none,0),(none,0)])) _ J Mr (GB b3 (BO [(none,0),(none,0)]) (⟨l,[],[]⟩:aB) q_it) ⟨(ht J),aV⟩ J fun v fp=>aw<|ax<|bG h fun r q_r h=>?_;refine yf (fun(ix:Bool×Int×Bool)=>[bx rV 118 b4 (aE b3 0),bx rB 4 b2 ix.1,bx bR 3 b1 ix.2.1,bx rV 118 b (bif ix.2.2 then aE b3 0 else .pointer none)]) (fun(ix:Bool×Int×Bool)=>(ix.1,ix.2.1,ix.2.2)) (fun _=> .ret) J (ht J) (false,(0:Int),false) J q_r (fun _=>J) J (fun ix x r1 h lp rec1 _ _ _=>?_) (fun i2 j hi bd=>⟨fun hj=>?_,fun _ hj=>?_⟩)
  ·obtain⟨x1,x2,p⟩:=ix
   replace h:rE x x1 x2 p=some r1:=h
   refine(show CG _ _ _ [mi lp rec1 .ready none,bx rV 118 b4 (aE b3 0),bx rB 4 b2 x1,bx bR 3 b1 x2,bx rV 118 b (bif p then aE b3 0 else .pointer none)] _ from ?_);refine wQ (G' :=[(0,tD cv l),(1,bl cv l),(2,tV (aE b 0)),(3,tV (aE b1 0)),(4,tV (aE b2 0)),(5,tV (aE b4 0)),(6,f7 l.Nodes),(9,tD cv l),(10,tD (rH aZ [(1,.slice none 0 0),(2,.slice none 0 0)]) (⟨l,[],[]⟩:aB)),(11,tV (aE b3 0)),(12,bl wW l.Nodes),(13,dS (aj) l.Nodes),(14,f7 l.Nodes),(15,f7 l.Nodes),(16,eD (decide ((l.Nodes.length:Int)<(1:Int)))),(17,eD (decide ((l.Nodes.length:Int)<(1:Int)))),(18,kO (!(decide ((l.Nodes.length:Int)<(1:Int)))) (f7 l.Nodes)),(19,kO (!(decide ((l.Nodes.length:Int)<(1:Int)))) (eD (decide ((60:Int)<(l.Nodes.length:Int))))),(20,eD ((decide ((l.Nodes.length:Int)<(1:Int)))||(decide ((60:Int)<(l.Nodes.length:Int))))),(22,tV (aE b3 0)),(24,bK x.1),(25,eD x.2)]) ?_ ⟨J,J,J,J,J,J,J,J,J,J,J,J,J,J,J,J,J,J,J,J,J,J,aV⟩;refine ay<|bB J<|aw<|am<|bB J<|aQ<|yl<|ax<|ay<|aG J<|zo J (dy (ht J))<|aw<|db h J (fun h=>?_) (fun h=>?_)
   ·refine ay<|zo J (m4 fU (.tail _ (.head _)) (ht J))<|aG J<|n6 (EffOK.fr4 (iC fU J (o5 al) J (ht J) (hW (ht J) J))) fun i3=>?_;refine(show RG _ _ _ _ [bx rV 118 b (aE b3 0),mi lp rec1 .busy none,bx rV 118 b4 (aE b3 0),bx rB 4 b2 x1,bx bR 3 b1 x2] _ from ?_);refine eW<|au bD J al J (ht J) (ht J)<|eW<|au Cv J al J (ht J) hB<|aw<|ap<|aH<|av<|av<|av<|cu<|cu ?_;cases so h;exact tA 0 J (false,x.1,true) J J
   ·refine bE<|an ?_;cases so h;exact zE (x1,x2,p) J J
  ·skip
   obtain⟨x3,x4,p1⟩:=i2
   obtain rfl:x3=r.1.2.1:=congrArg (fun q:Bool×Int×Bool=>q.1) hi
   obtain rfl:x4=r.1.2.2.1:=congrArg (fun q:Bool×Int×Bool=>q.2.1) hi
   obtain rfl:p1=r.1.2.2.2:=congrArg (fun q:Bool×Int×Bool=>q.2.2) hi
   have h:=ct h (by rw [hj];rfl);refine(show AT _ _ _ [ve bd,bx (rH aZ [(1,aC (j.h 0).1 (j.h 0).2 r.2.kinds.length),(2,aC (j.h 1).1 (j.h 1).2 r.2.first.length)]) 123 b3 r.2,bV dK 42 (j.h 0).1 (j.h 0).2 r.2.kinds,bV bR 3 (j.h 1).1 (j.h 1).2 r.2.first,bx rV 118 b4 (aE b3 0),bx rB 4 b2 r.1.2.1,bx bR 3 b1 r.1.2.2.1,bx rV 118 b (bif r.1.2.2.2 then aE b3 0 else .pointer none)] _ from ?_);refine ce (G' :=[(0,tD cv l),(1,bl cv l),(2,tV (aE b 0)),(3,tV (aE b1 0)),(4,tV (aE b2 0)),(5,tV (aE b4 0)),(6,f7 l.Nodes),(9,tD cv l),(10,tD (rH aZ [(1,.slice none 0 0),(2,.slice none 0 0)]) (⟨l,[],[]⟩:aB)),(11,tV (aE b3 0)),(12,bl wW l.Nodes),(13,dS (aj) l.Nodes),(14,f7 l.Nodes),(15,f7 l.Nodes),(16,eD (decide ((l.Nodes.length:Int)<(1:Int)))),(17,eD (decide ((l.Nodes.length:Int)<(1:Int)))),(18,kO (!(decide ((l.Nodes.length:Int)<(1:Int)))) (f7 l.Nodes)),(19,kO (!(decide ((l.Nodes.length:Int)<(1:Int)))) (eD (decide ((60:Int)<(l.Nodes.length:Int))))),(20,eD ((decide ((l.Nodes.length:Int)<(1:Int)))||(decide ((60:Int)<(l.Nodes.length:Int))))),(22,tV (aE b3 0))]) ?_ ⟨J,J,J,J,J,J,J,J,J,J,J,J,J,J,J,J,J,J,J,J,aV⟩;refine an<|aq<|ae<|bG h fun e q_e h=>?_
   refine gA 14 [tc (tV (aE b3 0)),tc (f7 l.Nodes),tc (bK (IntKind.i64.wrap ((l.Nodes.length:Int)-(1:Int)))),tc (tV (aE b3 0)),tc (tV (aE b3 0)),tc (tV (aE b3 2)),tc (tO bR (j.h 1).1 (j.h 1).2 r.2.first),tc (f7 l.Nodes),tc (bK (IntKind.i64.wrap ((l.Nodes.length:Int)-(1:Int)))),tc (bl bR e),tc (bK e),tc (eD (e==(0:Int))),tc (tL),tc (tL)] [false,false,false,false,false,false,false,false,false,false,false,false,true,true] [fun _=>[ve bd,bx (rH aZ [(1,aC (j.h 0).1 (j.h 0).2 r.2.kinds.length),(2,aC (j.h 1).1 (j.h 1).2 r.2.first.length)]) 123 b3 r.2,bV dK 42 (j.h 0).1 (j.h 0).2 r.2.kinds,bV bR 3 (j.h 1).1 (j.h 1).2 r.2.first,bx rV 118 b4 (aE b3 0),bx rB 4 b2 r.1.2.1,bx bR 3 b1 r.1.2.2.1,bx rV 118 b (bif r.1.2.2.2 then aE b3 0 else .pointer none)],fun sg=>[bx rV 118 b (aE b3 0),ve bd,bx (rH aZ [(1,aC (j.h 0).1 (j.h 0).2 r.2.kinds.length),(2,aC (j.h 1).1 (j.h 1).2 r.2.first.length)]) 123 b3 r.2,bV dK 42 (j.h 0).1 (j.h 0).2 r.2.kinds,bV bR 3 (j.h 1).1 (j.h 1).2 r.2.first,bx rV 118 b4 (aE b3 0),bx rB 4 b2 r.1.2.1,bx bR 3 b1 r.1.2.2.1],fun sg=>[bx bR 3 b1 (IntKind.i64.wrap ((l.Nodes.length:Int)-(1:Int))),bx rV 118 b (aE b3 0),ve bd,bx (rH aZ [(1,aC (j.h 0).1 (j.h 0).2 r.2.kinds.length),(2,aC (j.h 1).1 (j.h 1).2 r.2.first.length)]) 123 b3 r.2,bV dK 42 (j.h 0).1 (j.h 0).2 r.2.kinds,bV bR 3 (j.h 1).1 (j.h 1).2 r.2.first,bx rV 118 b4 (aE b3 0),bx rB 4 b2 r.1.2.1]] J mixed J J J J J
    ⟨⟨[⟨5,fun _=>tV (aE b4 0),none⟩],_,0,0,J,⟨(fun _=>J),aV⟩,J,J,J,J,J,sC (fun sg=>af J (m4 fU (.tail _ (.tail _ (.tail _ (.tail _ (.head _))))) (ht J)))⟩,
    ⟨⟨[⟨6,fun _=>tD bR (l.Nodes.length:Int),none⟩],_,0,1,J,⟨(fun _=>J),aV⟩,J,J,J,J,J,fun _ sg _ _=>af J (cn J)⟩,
    ⟨⟨[⟨31,fun _=>tD bR (l.Nodes.length:Int),some 1⟩],_,0,1,J,⟨(fun _=>J),aV⟩,J,J,J,J,J,fun _ sg _ _=>af J (fb (ht J) hI)⟩,
    ⟨⟨[⟨5,fun _=>tV (aE b4 0),none⟩],_,0,2,J,⟨(fun _=>J),aV⟩,J,J,J,J,J,yC (fun sg=>af J (m4 fU (.tail _ (.tail _ (.tail _ (.tail _ (.head _))))) (ht J))) (yC (fun sg=>af J (m4 fU (.tail _ (.tail _ (.tail _ (.tail _ (.tail _ (.head _)))))) (ht J))) (sC (fun sg=>af J (m4 fU (.tail _ (.tail _ (.tail _ (.tail _ (.tail _ (.tail _ (.head _))))))) (ht J)))))⟩,
    ⟨⟨[⟨33,fun _=>tV (aE b3 0),some 3⟩],_,0,2,J,⟨(fun _=>J),aV⟩,J,J,J,J,J,fun _ sg _ _=>af J (cU (ht J))⟩,
    ⟨⟨[⟨34,fun _=>tV (aE b3 0),some 4⟩],_,0,2,J,⟨(fun _=>J),aV⟩,J,J,J,J,J,fun _ sg _ _=>af J (d3 2 nU J J J)⟩,
    ⟨⟨[⟨35,fun _=>tV (aE b3 2),some 5⟩],_,0,2,J,⟨(fun _=>J),aV⟩,J,J,J,J,J,yC (fun sg=>af J (c8 cy J (.tail _ (.head _)) (.tail _ (.tail _ (.tail _ (.head _)))) (ht J))) (yC (fun sg=>af J (c8 cy J (.tail _ (.tail _ (.head _))) (.tail _ (.tail _ (.tail _ (.tail _ (.head _))))) (ht J))) (sC (fun sg=>af J (c8 cy J (.tail _ (.tail _ (.tail _ (.head _)))) (.tail _ (.tail _ (.tail _ (.tail _ (.tail _ (.head _)))))) (ht J)))))⟩,
    ⟨⟨[⟨6,fun _=>tD bR (l.Nodes.length:Int),none⟩],_,0,2,J,⟨(fun _=>J),aV⟩,J,J,J,J,J,fun _ sg _ _=>af J (cn J)⟩,
    ⟨⟨[⟨37,fun _=>tD bR (l.Nodes.length:Int),some 7⟩],_,0,2,J,⟨(fun _=>J),aV⟩,J,J,J,J,J,fun _ sg _ _=>af J (fb (ht J) hI)⟩,
    ⟨⟨[⟨36,fun _=>tO bR (j.h 1).1 (j.h 1).2 r.2.first,some 6⟩,⟨38,fun _=>tD bR (IntKind.i64.wrap ((l.Nodes.length:Int)-(1:Int))),some 8⟩],_,0,2,J,⟨(fun _=>J),(fun _=>J),aV⟩,J,J,J,J,J,fun _ sg _ _=>af J (aO cW bD J (iR (ht J)) (ht J) q_e)⟩,
    ⟨⟨[⟨39,fun _=>bl bR e,some 9⟩],_,0,2,J,⟨(fun _=>J),aV⟩,J,J,J,J,J,fun _ sg _ _=>af J (bq bD J J)⟩,
    ⟨⟨[⟨40,fun _=>tD bR e,some 10⟩],_,0,2,J,⟨(fun _=>J),aV⟩,J,J,J,J,J,fun _ sg _ _=>af J (jS J)⟩,
    ⟨⟨[⟨2,fun _=>tV (aE b 0),none⟩,⟨30,fun _=>tV (aE b3 0),some 0⟩],_,J,⟨(fun _=>J),(fun _=>J),aV⟩,J,J,J,fun sg=>bZ J (EffOK.fr7 (iC fU J (o5 al) J (ht J) (hW (ht J) J)))⟩,
    ⟨⟨[⟨3,fun _=>tV (aE b1 0),none⟩,⟨32,fun _=>tD bR (IntKind.i64.wrap ((l.Nodes.length:Int)-(1:Int))),some 2⟩],_,J,⟨(fun _=>J),(fun _=>J),aV⟩,J,J,J,fun sg=>bZ J (EffOK.fr7 (iC bD J (o5 al) J (ht J) (ht J)))⟩,
    aV⟩⟩⟩⟩⟩⟩⟩⟩⟩⟩⟩⟩⟩⟩ (fun sg=>?_)
   refine(show RG _ _ _ _ [bx bR 3 b1 (IntKind.i64.wrap ((l.Nodes.length:Int)-(1:Int))),bx rV 118 b (aE b3 0),ve bd,bx (rH aZ [(1,aC (j.h 0).1 (j.h 0).2 r.2.kinds.length),(2,aC (j.h 1).1 (j.h 1).2 r.2.first.length)]) 123 b3 r.2,bV dK 42 (j.h 0).1 (j.h 0).2 r.2.kinds,bV bR 3 (j.h 1).1 (j.h 1).2 r.2.first,bx rV 118 b4 (aE b3 0),bx rB 4 b2 r.1.2.1] _ from ?_);refine Ee<|au Cv J al J (ht J) (ht J)<|aw<|ap<|cu<|ux<|su 11 J<|av<|bS 2 J<|bU<|bS 3 J<|bS 4 J<|bU<|ba<|bU<|ba<|bU<|ba<|tz<|oO ?_;cases so h;exact jQ (ts:=[bl aZ r.2,bK (IntKind.i64.wrap ((l.Nodes.length:Int)-(1:Int))),eD (e==(0:Int))]) (rvs:=[.cell 2 118,.cell 3 3,.cell 4 4]) J J ⟨tU (j:=11) fU J J,d7 bD J J J,d7 Cv J J J,aV⟩
  ·skip
   obtain⟨x5,x6,p2⟩:=i2
   obtain rfl:x5=r.1.2.1:=congrArg (fun q:Bool×Int×Bool=>q.1) hi
   obtain rfl:x6=r.1.2.2.1:=congrArg (fun q:Bool×Int×Bool=>q.2.1) hi
   obtain rfl:p2=r.1.2.2.2:=congrArg (fun q:Bool×Int×Bool=>q.2.2) hi
   have h:=cf h (by rw [hj];rfl);refine(show CG _ _ _ [ve bd,bx (rH aZ [(1,aC (j.h 0).1 (j.h 0).2 r.2.kinds.length),(2,aC (j.h 1).1 (j.h 1).2 r.2.first.length)]) 123 b3 r.2,bV dK 42 (j.h 0).1 (j.h 0).2 r.2.kinds,bV bR 3 (j.h 1).1 (j.h 1).2 r.2.first,bx rV 118 b4 (aE b3 0),bx rB 4 b2 r.1.2.1,bx bR 3 b1 r.1.2.2.1,bx rV 118 b (bif r.1.2.2.2 then aE b3 0 else .pointer none)] _ from ?_);refine wQ (G' :=[(0,tD cv l),(1,bl cv l),(2,tV (aE b 0)),(3,tV (aE b1 0)),(4,tV (aE b2 0)),(5,tV (aE b4 0)),(6,f7 l.Nodes),(9,tD cv l),(10,tD (rH aZ [(1,.slice none 0 0),(2,.slice none 0 0)]) (⟨l,[],[]⟩:aB)),(11,tV (aE b3 0)),(12,bl wW l.Nodes),(13,dS (aj) l.Nodes),(14,f7 l.Nodes),(15,f7 l.Nodes),(16,eD (decide ((l.Nodes.length:Int)<(1:Int)))),(17,eD (decide ((l.Nodes.length:Int)<(1:Int)))),(18,kO (!(decide ((l.Nodes.length:Int)<(1:Int)))) (f7 l.Nodes)),(19,kO (!(decide ((l.Nodes.length:Int)<(1:Int)))) (eD (decide ((60:Int)<(l.Nodes.length:Int))))),(20,eD ((decide ((l.Nodes.length:Int)<(1:Int)))||(decide ((60:Int)<(l.Nodes.length:Int))))),(22,tV (aE b3 0))]) ?_ ⟨J,J,J,J,J,J,J,J,J,J,J,J,J,J,J,J,J,J,J,J,aV⟩;refine ap ?_;refine aH (M ?_);refine bG h fun u q_u h=>FY (O' :=[ve bd,bx (rH aZ [(1,aC (j.h 0).1 (j.h 0).2 r.2.kinds.length),(2,aC (j.h 1).1 (j.h 1).2 r.2.first.length)]) 123 b3 r.2,bV dK 42 (j.h 0).1 (j.h 0).2 r.2.kinds,bV bR 3 (j.h 1).1 (j.h 1).2 r.2.first,bx rV 118 b4 (aE b3 0),bx rB 4 b2 r.1.2.1,bx bR 3 b1 r.1.2.2.1,bx rV 118 b (aE b3 0)]) (by rw [show r.1.2.2.2=true from E7 q_u];rfl)<|bU<|ux<|su 11 J<|eX<|bS 2 J<|cg<|bS 3 J<|cu<|bS 4 J<|bU<|ba<|bU<|ba<|bU<|ba<|tz<|oO ?_;cases so h;exact jQ (ts:=[bl aZ r.2,bK r.1.2.2.1,eD r.1.2.1]) (rvs:=[.cell 2 118,.cell 3 3,.cell 4 4]) J J ⟨tU (j:=11) fU J J,d7 bD J J J,d7 Cv J J J,aV⟩

theorem Ja(l:cI){R:(List Int)×Int}(h:uK l=some R):bo aX 27 [tD cv l] (tT [dE R.1,bK R.2]):=by
 refine bo.of Tryz.func27 J J J fun w0 S0=>ay<|zo J (gP J)<|zo J (aP (show aL _ _ _ ln from hP))<|zo J (dW)<|aw<|ay<|zo J (bq lV J J)<|bG h fun r q_r h=>zo J (aF JA (B4 _ q_r) ⟨(ht J),aV⟩)<|aG J<|zo J (jf J J)<|zo J (jf J J)<|zo J (jf J J)<|bB J<|bB J<|bB J<|aw<|ae<|ae ?_;refine am<|aG J<|zo J (dy (ht J))<|aw<|db h J (fun h=>?_) (fun h=>?_)
 ·refine ay<|zo J (aP (show aL _ _ _ ln from hP))<|zo J (dW)<|aw<|ap<|M ?_;cases so h;exact cw J J J
 ·refine dB<|ay<|aG J<|zo J (yX (ht J))<|zo J (cc i9 zg J J)<|zo J (bq p4 J J)<|aG J<|bG h fun e q_e h=>zo J (jA nw cy J J J q_e)<|zo J (bq cy J J)<|bG h fun r1 q_r1 h=>hY AN (vv _ q_r1) ⟨(ht J),aV⟩ J fun l1 c=>bB J<|zo J (dW)<|aw<|ap<|gh<|cB 2 J<|cB 22 J<|ia 2 J<|ba ?_;cases so h;exact cw J J J

theorem I8(l:cI){R:Int×Int}(h:uL l=some R):bo aX 31 [tD cv l] (tT [bK R.1,bK R.2]):=by
 refine bo.of Tryz.func31 J J J fun w0 S0=>ay<|zo J (gP J)<|zo J (dW)<|zo J (dW)<|aw<|ay<|zo J (bq lV J J)<|bG h fun r q_r h=>zo J (aF JA (B4 _ q_r) ⟨(ht J),aV⟩)<|aG J<|zo J (jf J J)<|zo J (jf J J)<|zo J (jf J J)<|bB J<|bB J<|bB J<|aw<|ae<|ae ?_;refine am<|aG J<|zo J (dy (ht J))<|aw<|db h J (fun h=>?_) (fun h=>?_)
 ·refine ay<|aG J<|bB J<|zo J (dW)<|aw<|ap<|M ?_;cases so h;exact cw J J J
 ·refine dB<|ay<|zo J (dW)<|zo J (dW)<|aw<|ap ?_;cases so h;exact cw J J J

theorem CT(c:Int){R:Bool}(h:ue c=some R):bo aX 172 [tD (rI .i32) c] (eD R):=by
 refine bo.of Tryz.func172 J J J fun w0 S0=>ay<|zo J (eL)<|aw<|ay<|aG J<|zo J (dm (ht J) hI)<|aG J<|cb J J (fun hg=>cn J)<|cb J J (fun hg=>io (bc J hg) hI)<|zo J (kG J J)<|bB J<|aw<|ap ?_;cases so h;exact aU J J

theorem GI(s:(List jy))(v:jy){R:Int}(h:ji s v=some R):bo aX 243 [dS (rS) s,tD rS v] (bK R):=by
 refine bo.of Tryz.func243 J J J fun w0 S0=>ay<|zo J (dW)<|aw<|ae<|ay<|aG J<|zo J (fV Tryz.underlying254 J)<|zo J (bv hI)<|aw<|ax<|bh (k:=6) J fun hN=>bF ?_;refine aT (dH (Z:=fun ls i=>(s.drop i=ls)∧eM v ls i=some R) (Of:=fun _ i=>[]) (Gf:=fun _ i=>[(0,dS (rS) s),(1,tD rS v),(7,f7 s),(8,bK (i:Int))]) (fun i h=>?_) (fun e tl ih i h=>?_) s 0 ⟨J,h⟩) (bn J)
 ·obtain⟨hx,h⟩:=h
  refine aA<|ay<|zo J (em J J)<|aw<|ae<|bz (ht J) (da hx)<|bk ?_;refine ac (ac (aM ?_));refine aq<|ay<|zo rfl (dW)<|aw<|ap ?_;cases so h;exact aU J J
 ·obtain⟨hx,h⟩:=h
  refine aA<|ay<|zo J (em J J)<|aw<|ae<|bw (ht J) (c9 hx)<|dB<|ae<|ax<|ay<|aG J<|bB J<|aw<|ay<|aG J<|aG J<|aG J<|zo J (jA Tryz.underlying254 Dr J J J (cV hx)) ?_;refine zo J (bq Dr J J)<|zo J (vo (ht J) (ht J))<|aw<|db h J (fun h=>?_) (fun h=>?_)
  ·refine ay<|aG J<|bB J<|aw<|ap ?_;refine aH (M (M (aH (M ?_))));cases so h;exact aU J J
  ·refine bE<|an<|aq<|am<|zo rfl (jY (cG hx hN) rfl)<|aG rfl<|aQ ?_;exact bf (aT (ih (i+1) ⟨cF hx,h⟩) (bn J))

theorem GR(s:(List jy))(v:jy){R:Bool}(h:ig s v=some R):bo aX 218 [dS (rS) s,tD rS v] (eD R):=by
 refine bo.of Tryz.func218 J J J fun w0 S0=>ay<|zo J (eL)<|aw<|ay<|aG J<|aG J<|bG h fun r q_r h=>zo J (aF KM (GI _ _ q_r) ⟨(ht J),(ht J),aV⟩)<|zo J (dm (ht J) hI)<|bB J<|aw<|ap ?_;cases so h;exact aU J J

theorem Ha(s:jy){R:Bool}(h:wn s=some R):bo aX 173 [tD rS s] (eD R):=by
 refine bo.of Tryz.func173 J J J fun w0 S0=>ay<|zo J (eL)<|aw<|ay<|zo J (ye (r:=oF rS 28) (x:=Mc) gm1 gr1 (DH Tryz.underlying255 Dr J HD))<|aG J<|bG h fun r q_r h=>zo J (aF KX (GR _ _ q_r) ⟨(ht J),(ht J),aV⟩)<|bB J<|aw<|ap ?_;cases so h;exact aU J J

theorem G9(s:jy){R:jy}(h:mh s=some R):bo aX 174 [tD rS s] (tD rS R):=by
 unfold mh at h
 split at h
 ·rename_i hl
  cases h
  refine AR fun w hw=>?_
  have:=Any.strings_ToUpper_any ox upX ⟨s.toArray⟩ w (by rw [C0];exact hl) hw.1 hw.2
  simp only [List.toList_toArray]at this
  exact this
 ·cases h

theorem G8(c:Int){R:Bool}(h:xO c=some R):bo aX 175 [tD (rI .i32) c] (eD R):=by
 refine bo.of Tryz.func175 J J J fun w0 S0=>ay<|zo J (eL)<|aw<|ay<|aG J<|zo J (dm (ht J) hI)<|aG J<|cb J J (fun hg=>cn J)<|cb J J (fun hg=>io (bc J hg) hI)<|zo J (kG J J)<|bB J<|aw<|ap ?_;cases so h;exact aU J J

theorem B2(s:jy){R:Bool}(h:pp s=some R):bo aX 96 [tD rS s] (eD R):=by
 refine bo.of Tryz.func96 J J J fun w0 S0=>ay<|zo J (eL)<|aw<|ae<|ay<|aG J<|zo J (vo (ht J) hS)<|aG J<|cR J J (fun hg=>cn J)<|cR J J (fun hg=>y0 pQ (bc J hg))<|cR J J (fun hg=>fq (bc J hg) hI)<|zo J (oB J J)<|aG J<|bG h fun t q_t h=>cR J J (fun hg=>cn J) ?_
 obtain⟨b,h1t,h0t⟩:=og q_t
 have q_bg:=fun hb=>(h1t hb).1
 refine cR J J (fun hg=>DM pQ (bc J hg) hI (q_bg hg))<|cR J J (fun hg=>Gn Tryz.underlying5 Tryz.underlying21 (bc J hg)) ?_
 obtain⟨r,h1t⟩:=Gr (fun hb=>(h1t hb).2)
 have q_rg:=fun hb=>(h1t hb).1
 refine cR J J (fun hg=>aF HJ (CT _ (q_rg hg)) ⟨(bc J hg),aV⟩)<|cR J J (fun hg=>dy (bc J hg))<|zo J (dx (ht J) (fun hb=>(bc J (mj hb))) (fun hb=>(h1t hb).2) h0t)<|aG J<|bG h fun t1 q_t1 h=>cR J J (fun hg=>cn J) ?_
 obtain⟨r1,h1t1,h0t1⟩:=og q_t1
 have q_r1g:=fun hb=>(h1t1 hb).1
 refine cR J J (fun hg=>aF Ln (G9 _ (q_r1g hg)) ⟨(bc J hg),aV⟩) ?_
 obtain⟨r2,h1t1⟩:=Gr (fun hb=>(h1t1 hb).2)
 have q_r2g:=fun hb=>(h1t1 hb).1
 refine cR J J (fun hg=>aF Lo (Ha _ (q_r2g hg)) ⟨(bc J hg),aV⟩)<|zo J (dx (ht J) (fun hb=>(bc J (mj hb))) (fun hb=>(h1t1 hb).2) h0t1)<|aw<|db h J (fun h=>?_) (fun h=>?_)
 ·refine ay<|zo J (eL)<|aw<|ap<|M ?_;cases so h;exact aU J J
 ·refine dB<|ae<|ay<|aG J<|AU pQ (ht J) J fun rg=>aw<|ax<|bF ?_;refine aT (JK (β:=Int×Int) (Z:=fun ls=>oq ls=some R) (Of:=fun ls=>[wY rg s ls]) (Gf:=[(25,tV (aE rg 0))]) (fun ls h ih=>?_) (EO s) h) (bn J);refine aA<|ay ?_;refine Ck (ht J) J (fun hl=>?_) (fun e tl hk=>?_)
  ·subst hl
   refine zo J (y4 (ht J))<|aw<|ae<|bz (ht J) J<|bk ?_;refine ac (ac (aM ?_));refine aq<|ay<|zo rfl (eL)<|aw<|ap<|ba ?_;cases so h;exact aU J J
  ·subst hk
   refine zo J (rD (i:=0) J (ht J))<|aw<|ae<|bw (ht J) J<|dB<|ax<|ay<|zo J (rD (i:=2) J (ht J))<|bB J<|aw<|ay<|aG J<|bG h fun r3 q_r3 h=>zo J (aF Lm (G8 _ q_r3) ⟨(ht J),aV⟩)<|zo J (dy (ht J))<|aG J<|bG h fun t2 q_t2 h=>cb J J (fun hg=>cn J) ?_
   obtain⟨r4,h1t2,h0t2⟩:=og q_t2
   have q_r4g:=fun hb=>(h1t2 hb).1
   refine cb J J (fun hg=>aF HJ (CT _ (q_r4g hg)) ⟨(bc J hg),aV⟩)<|cb J J (fun hg=>dy (bc J hg))<|zo J (dj (ht J) (fun hb=>(bc J hb)) (fun hb=>(h1t2 hb).2) h0t2)<|aG J<|cb J J (fun hg=>cn J)<|cb J J (fun hg=>cK (bc J hg) hI)<|zo J (kG J J)<|aw<|db h J (fun h=>?_) (fun h=>?_)
   ·refine ay<|zo J (eL)<|aw<|ap ?_;refine aH (M (aH (M ?_)));refine ba ?_;cases so h;exact aU J J
   ·refine bE<|an ?_;exact bf (aT (ih tl (by simp) h) (bn J))

theorem GQ(s:(List bX))(f:(bX→Option Bool)){R:Int}(h:eN s f=some R):bo aX 225 [dS (cX) s,(eS aX u6 kb (fun(x:bX)=>f x))] (bK R):=by
 refine bo.of Tryz.func225 J J J fun w0 S0=>ay<|zo J (dW)<|aw<|ae<|ay<|aG J<|zo J (fV tF J)<|zo J (bv hI)<|aw<|ax<|bh (k:=6) J fun hN=>bF ?_;refine aT (dH (Z:=fun ls i=>(s.drop i=ls)∧dq f ls i=some R) (Of:=fun _ i=>[]) (Gf:=fun _ i=>[(0,dS (cX) s),(1,(eS aX u6 kb (fun(x:bX)=>f x))),(7,f7 s),(8,bK (i:Int))]) (fun i h=>?_) (fun e tl ih i h=>?_) s 0 ⟨J,h⟩) (bn J)
 ·obtain⟨hx,h⟩:=h
  refine aA<|ay<|zo J (em J J)<|aw<|ae<|bz (ht J) (da hx)<|bk ?_;refine ac (ac (aM ?_));refine aq<|ay<|zo rfl (dW)<|aw<|ap ?_;cases so h;exact aU J J
 ·obtain⟨hx,h⟩:=h
  refine aA<|ay<|zo J (em J J)<|aw<|ae<|bw (ht J) (c9 hx)<|dB<|ae<|ax<|ay<|aG J<|bB J<|aw<|ay<|aG J<|aG J<|aG J<|zo J (jA tF nA J J J (cV hx)) ?_;refine zo J (bq nA J J)<|bG h fun r q_r h=>zo J (gu (args:=u6) (res:=Bm) (f:=(fun(x:bX)=>f x)) (x:=((e):bX)) (ht J) q_r ⟨(ht J),aV⟩)<|aw<|db h J (fun h=>?_) (fun h=>?_)
  ·refine ay<|aG J<|bB J<|aw<|ap ?_;refine aH (M (M (aH (M ?_))));cases so h;exact aU J J
  ·refine bE<|an<|aq<|am<|zo rfl (jY (cG hx hN) rfl)<|aG rfl<|aQ ?_;exact bf (aT (ih (i+1) ⟨cF hx,h⟩) (bn J))

theorem GP(of:(bX→Option jy))(name:jy)(p:bX){R:Bool}(h:fY of name p=some R):bo aX 226 [tD cX p,bl (rT ((eS aX u6 rn (fun(x:bX)=>of x)))) (),bl rS name] (eD R):=by
 refine bo.of Tryz.func226 J J J fun w0 S0=>ay<|zo J (gP J)<|zo J (eL)<|aw<|ae<|bG h fun r q_r h=>?_
 refine ec (ts:=[_,_,_,_,_,_]) mixed J J
  ⟨dT 1 J J J (sQ J8 (ht J)),
  ⟨dT 3 J J J (bq nA J J),
  ⟨dL 5 0 6 1 J J J J (gu (args:=u6) (res:=rn) (f:=(fun(x:bX)=>of x)) (x:=((p):bX)) (ht J) q_r ⟨(ht J),aV⟩),
  ⟨dT 2 J J J (bq Dr J J),
  ⟨dL 7 2 8 3 J J J J (vo (ht J) (ht J)),
  ⟨cP 9 4 J J J (tK J),
  aV⟩⟩⟩⟩⟩⟩ ?_
 refine aq<|ap ?_;cases so h;exact aU J J

theorem G7(l:(List bX))(of:(bX→Option jy))(name:jy){R:Int×Bool}(h:kA l of name=some R):bo aX 176 [dS (cX) l,(eS aX u6 rn (fun(x:bX)=>of x)),tD rS name] (tT [bK R.1,eD R.2]):=by
 refine bo.of Tryz.func176 J J J fun w0 S0=>ay<|zo J (y5 (ht J))<|zo J (gP J)<|zo J (dW)<|zo J (eL)<|aw<|ay<|aG J<|zo J ((show bN _ _ _ _ ((eS aX u6 kb (fun(x:bX)=>(fY of name) x)))from jo (cts:=[bl (rT ((eS aX u6 rn (fun(x:bX)=>of x)))) (),bl rS name]) (caps:=[.tmp 4,.tmp 5]) KV ⟨(ht J),(ht J),aV⟩ (fun x y h=>GP _ _ _ h)))<|bG h fun r q_r h=>zo J (aF KW (GQ _ _ q_r) ⟨(ht J),(ht J),aV⟩)<|bB J<|aw<|ay<|aG J<|zo J (yZ (ht J) hI)<|aG J<|zo J (dm (ht J) hI) ?_;refine bB J<|bB J<|aw<|ap ?_;cases so h;exact cw J J J

theorem IR(l:(List bX))(of:(bX→Option jy)){R:Bool}(h:kz l of=some R):bo aX 97 [dS (cX) l,(eS aX u6 rn (fun(x:bX)=>of x))] (eD R):=by
 refine bo.of Tryz.func97 J J J fun w0 S0=>ay<|zo J (eL)<|aw<|ae<|ay<|aG J<|zo J (fV tF J)<|zo J (bv hI)<|aw<|ax<|bh (k:=9) J fun hN=>bF ?_;refine aT (dH (Z:=fun ls i=>(l.drop i=ls)∧fN l of ls i=some R) (Of:=fun _ i=>[]) (Gf:=fun _ i=>[(0,dS (cX) l),(1,(eS aX u6 rn (fun(x:bX)=>of x))),(9,dS (cX) l),(10,f7 l),(11,bK (i:Int))]) (fun i h=>?_) (fun e tl ih i h=>?_) l 0 ⟨J,h⟩) (bn J)
 ·obtain⟨hx,h⟩:=h
  refine aA<|ay<|zo J (em J J)<|aw<|ae<|bz (ht J) (da hx)<|bk ?_;refine ac (ac (aM ?_));refine aq<|ay<|zo rfl (eL)<|aw<|ap ?_;cases so h;exact aU J J
 ·obtain⟨hx,h⟩:=h
  refine aA<|ay<|zo J (em J J)<|aw<|ae<|bw (ht J) (c9 hx)<|dB<|ae<|ax<|ay<|aG J<|zo J (jA tF nA J J J (cV hx))<|zo J (bq nA J J)<|bj (r:=cX) (x:=HT) nA (fun _=>mO _) J fun b=>bB J<|au nA J al J (ht J) (ht J)<|bg 6 J<|aw<|ae ?_;refine am<|aG J<|aG J<|aG J<|zo J (bq nA J J)<|bG h fun r q_r h=>zo J (gu (args:=u6) (res:=rn) (f:=(fun(x:bX)=>of x)) (x:=((e):bX)) (ht J) q_r ⟨(ht J),aV⟩)<|bG h fun r1 q_r1 h=>zo J (aF Ll (G7 _ _ _ q_r1) ⟨(ht J),(ht J),(ht J),aV⟩)<|aG J<|zo J (jf J J)<|zo J (jf J J)<|bB J<|bB J<|aw<|ay<|aG J<|aG J<|zo J (cK (ht J) (ht J))<|aG J<|bG h fun t q_t h=>cR J J (fun hg=>cn J) ?_;refine cR J J (fun hg=>bq nA J J) ?_
  obtain⟨r2,h1t,h0t⟩:=og q_t
  have q_r2g:=fun hb=>(h1t hb).1
  refine cR J J (fun hg=>gu (args:=u6) (res:=rn) (f:=(fun(x:bX)=>of x)) (x:=((e):bX)) (bc J hg) (q_r2g hg) ⟨(bc J hg),aV⟩) ?_
  obtain⟨r3,h1t⟩:=Gr (fun hb=>(h1t hb).2)
  have q_r3g:=fun hb=>(h1t hb).1
  refine cR J J (fun hg=>aF Jx (B2 _ (q_r3g hg)) ⟨(bc J hg),aV⟩)<|cR J J (fun hg=>dy (bc J hg))<|zo J (dx (ht J) (fun hb=>(bc J (mj hb))) (fun hb=>(h1t hb).2) h0t)<|aw<|db h J (fun h=>?_) (fun h=>?_)
  ·refine ay<|zo J (eL)<|aw<|ap ?_;refine aH (M (M (aH (M ?_))));cases so h;exact aU J J
  ·refine bE<|an<|aq<|am<|zo rfl (jY (cG hx hN) rfl)<|aG rfl<|aQ ?_;exact bf (aT (ih (i+1) ⟨cF hx,h⟩) (bn J))

theorem IQ(c:bX){R:jy}(h:nj c=some R):bo aX 98 [tD cX c] (tD rS R):=by
 refine bo.of Tryz.func98 J J J fun w0 S0=>ay<|zo J (gP J)<|zo J (aP hS)<|aw<|ay<|zo J (cc IM AG J J)<|zo J (bq Dr J J)<|bB J<|aw<|ap ?_;cases so h;exact aU J J

theorem IP(kind:Int){R:jy}(h:tm kind=some R):bo aX 99 [bK kind] (tD rS R):=by
 refine bo.of Tryz.func99 J J J fun w0 S0=>ay<|zo J (aP hS)<|aw<|ae<|ay<|zo J (ye (r:=(oF o9 3)) (x:=LU) gm0 gr0 (be J6 J J HD))<|zo J (bv hI)<|aw<|ax<|bF ?_;refine aT (C8 (Z:=fun k i=>(3-i=k)∧mv kind k i=some R) (Of:=fun _ i=>[]) (Gf:=fun _ i=>[(0,bK kind),(5,tD (oF o9 3) LU),(6,bK (i:Int))]) (fun i h=>?_) (fun k1 ih i h=>?_) 3 0 ⟨J,h⟩) (bn J)
 ·obtain⟨hx,h⟩:=h
  refine aA<|ay<|zo J (eg (ht J) hI)<|aw<|ae<|bz (ht J) (Iz hx)<|bk ?_;refine ac (ac (aM ?_));refine aq<|ay<|zo rfl (aP hS)<|aw<|ap ?_;cases so h;exact aU J J
 ·obtain⟨hx,h⟩:=h
  refine aA<|ay<|zo J (eg (ht J) hI)<|aw<|ae<|bw (ht J) (Iy hx)<|dB<|ae<|ax<|ay<|bG h fun e1 q_e1 h=>zo J (xH Tryz.underlying233 EG J J (ht J) (ht J) q_e1)<|bj (r:=o9) (x:=(⟨[],(0:Int)⟩:wP)) EG (fun _=>F6 _) J fun b=>au EG J al J (ht J) (ht J)<|bg 4 J<|aw<|ay<|zo J (cc Gy DZ J J) ?_;refine zo J (bq bD J J)<|aG J<|zo J (bW (ht J) (ht J))<|aw<|db h J (fun h=>?_) (fun h=>?_)
  ·refine ay<|zo J (cc Gz D0 J J)<|zo J (bq Dr J J)<|bB J<|aw<|ap ?_;refine aH (M (M (aH (M ?_))));cases so h;exact aU J J
  ·refine bE<|an<|aq<|am<|zo rfl (rd (E4 hx (by decide)) (ht rfl) hI)<|aG rfl<|aQ ?_;exact bf (aT (ih (i+1) ⟨E3 hx,h⟩) (bn J))

theorem IY(t:ci){R:Int}(h:nk t=some R):bo aX 59 [tD c0 t] (bK R):=by
 refine bo.of Tryz.func59 J J J fun w0 S0=>ay<|zo J (gP J)<|zo J (dW)<|aw<|ay<|zo J (cc Fe wo J J)<|zo J (bq Dr J J)<|bG h fun r q_r h=>zo J (aF Jx (B2 _ q_r) ⟨(ht J),aV⟩)<|aG J<|cb J J (fun hg=>cc ui lG J J)<|cb J J (fun hg=>be Dt J J (bc J hg))<|cb J J (fun hg=>bY tF (bc J hg))<|cb J J (fun hg=>dm (bc J hg) hI)<|zo J (kG J J)<|aG J<|cb J J (fun hg=>cc ui lG J J)<|cb J J (fun hg=>be Dt J J (bc J hg))<|cb J J (fun hg=>bY tF (bc J hg))<|cb J J (fun hg=>io (bc J hg) hI) ?_;refine zo J (kG J J)<|aG J<|bG h fun t1 q_t1 h=>cb J J (fun hg=>cc ui lG J J)<|cb J J (fun hg=>be Dt J J (bc J hg)) ?_
 obtain⟨r1,h1t1,h0t1⟩:=og q_t1
 have q_r1g:=fun hb=>(h1t1 hb).1
 refine cb J J (fun hg=>aF Mq (IR _ _ (q_r1g hg)) ⟨(bc J hg),(ID Mp fun x y h=>IQ _ h),aV⟩)<|zo J (dj (ht J) (fun hb=>(bc J hb)) (fun hb=>(h1t1 hb).2) h0t1)<|bB J<|aw<|ae<|ay<|zo J (cc ui lG J J)<|zo J (bq Dt J J)<|zo J (fV tF J)<|zo J (bv hI)<|aw<|ax<|bh (k:=29) J fun hN=>bF ?_;refine aT (j7 (Z:=fun ls i ok=>(t.Columns.drop i=ls)∧i7 t ls ok=some R) (Of:=fun _ i ok=>[]) (Gf:=fun _ i ok=>[(1,bl c0 t),(3,eD ok),(29,dS (cX) t.Columns),(30,f7 t.Columns),(31,bK (i:Int))]) (fun i ok h=>?_) (fun e tl ih i ok h=>?_) t.Columns 0 t1 ⟨J,h⟩) (bn J)
 ·obtain⟨hx,h⟩:=h
  refine aA<|ay<|zo J (em J J)<|aw<|ae<|bz (ht J) (da hx)<|bk ?_;refine ac (ac (aM ?_));refine aq<|ae<|ay<|zo rfl (cc BW sk rfl rfl)<|zo rfl (bq cy rfl rfl)<|zo rfl (fV cW rfl)<|zo rfl (bv hI)<|aw<|ax<|bh (k:=44) J fun hN1=>bF ?_;refine aT (j7 (Z:=fun ls1 i1 ok1=>(t.Keys.drop i1=ls1)∧iZ t ls1 i1 ok1=some R) (Of:=fun _ i1 ok1=>[]) (Gf:=fun _ i1 ok1=>[(1,bl c0 t),(3,eD ok1),(44,dE t.Keys),(45,f7 t.Keys),(46,bK (i1:Int))]) (fun i1 ok1 h=>?_) (fun e1 tl1 ih1 i1 ok1 h=>?_) t.Keys 0 ok ⟨J,h⟩) (bn J)
  ·obtain⟨hx1,h⟩:=h
   refine aA<|ay<|zo J (em J J)<|aw<|ae<|bz (ht J) (da hx1)<|bk ?_;refine ac (ac (aM ?_));refine aq<|ae<|ay<|aG rfl<|zo rfl (dy (ht rfl))<|aw<|db h rfl (fun h=>?_) (fun h=>?_)
   ·refine ay<|zo J (dW)<|aw<|ap<|M ?_;cases so h;exact aU J J
   ·refine dB<|ay<|zo J (dW)<|aw<|ap ?_;cases so h;exact aU J J
  ·obtain⟨hx1,h⟩:=h
   refine aA<|ay<|zo J (em J J)<|aw<|ae<|bw (ht J) (c9 hx1)<|dB<|ae<|ax<|ay<|aG J<|zo J (jA cW bD J J J (cV hx1))<|zo J (bq bD J J)<|bB J<|bB J<|aw<|am<|aG J<|aG J ?_;refine cb J J (fun hg=>cn J)<|cb J J (fun hg=>dm (bc J hg) hI)<|zo J (kG J J)<|aG J<|cb J J (fun hg=>cn J)<|cb J J (fun hg=>cc ui lG J J)<|cb J J (fun hg=>be Dt J J (bc J hg))<|cb J J (fun hg=>bY tF (bc J hg))<|cb J J (fun hg=>eg (bc J hg) (bc J hg))<|zo J (kG J J)<|aG J<|bG h fun t2 q_t2 h=>cb J J (fun hg=>cn J)<|cb J J (fun hg=>bW (bc J hg) hI)<|cb J J (fun hg=>bv (bc J hg)) ?_
   obtain⟨t3,h1t2,h0t2⟩:=og q_t2
   have q_t3g:=fun hb=>(h1t2 hb).1
   refine cH J J J J (fun hg=>cc BW sk J J)<|cH J J J J (fun hg=>be cy J J (bc J hg))<|cH J J J J (fun hg=>cn J)<|cH J J J J (fun hg=>fb (bc J hg) hI) ?_
   obtain⟨e2,h1t3,h0t3⟩:=Kd q_t3g
   have q_e2g:=fun hb=>(h1t3 hb).1
   refine cH J J J J (fun hg=>aO cW bD J (bc J hg) (bc J hg) (q_e2g hg))<|cH J J J J (fun hg=>be bD J J (bc J hg))<|cH J J J J (fun hg=>cn J)<|cH J J J J (fun hg=>eg (bc J hg) (bc J hg))<|cb J J (fun hg=>dx (bc J hg) (fun hb=>(bc J (nC hg (mj hb)))) (fun hb=>(h1t3 (nC hg hb)).2) (fun hb=>h0t3 hg hb))<|zo J (dj (ht J) (fun hb=>(bc J hb)) (fun hb=>(h1t2 hb).2) h0t2)<|bB J<|aQ<|an<|aq<|am<|zo rfl (jY (cG hx1 hN1) rfl)<|aG rfl<|aQ ?_;exact bf (aT (ih1 (i1+1) t2 ⟨cF hx1,h⟩) (bn J))
 ·obtain⟨hx,h⟩:=h
  refine aA<|ay<|zo J (em J J)<|aw<|ae<|bw (ht J) (c9 hx)<|dB<|ae<|ax<|ay<|zo J (jA tF nA J J J (cV hx))<|zo J (bq nA J J)<|bj (r:=cX) (x:=HT) nA (fun _=>mO _) J fun b=>au nA J al J (ht J) (ht J)<|bg 5 J<|aw<|am<|aG J<|aG J ?_;refine bG h fun t4 q_t4 h=>cb J J (fun hg=>cc Fc uO J J)<|cb J J (fun hg=>be bD J J (bc J hg)) ?_
  obtain⟨r2,h1t4,h0t4⟩:=og q_t4
  have q_r2g:=fun hb=>(h1t4 hb).1
  refine cb J J (fun hg=>aF Mo (IP _ (q_r2g hg)) ⟨(bc J hg),aV⟩)<|cb J J (fun hg=>Gl (bc J hg) hS)<|zo J (dj (ht J) (fun hb=>(bc J hb)) (fun hb=>(h1t4 hb).2) h0t4)<|bB J<|aQ<|an<|aq<|am<|zo rfl (jY (cG hx hN) rfl)<|aG rfl<|aQ ?_;exact bf (aT (ih (i+1) t4 ⟨cF hx,h⟩) (bn J))

end Go.Proofs.YtnmjbolollcokaaGreatDoor

