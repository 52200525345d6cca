/- cR of this claim: P4. -/
import Derived.Test.YtnmjbolollcokaaGreatDoorRcT
import Derived.Test.YtnmjbolollcokaaGreatDoorRcP3
set_option linter.all false
namespace Go.Proofs.YtnmjbolollcokaaGreatDoor
open Go
set_option maxRecDepth 100000

theorem Ps(b:Nat)(ix:OI)(c:aq){R:KN (Int×Bool) aq}(h:oG c=some R):zm bc 93 [tV (aE b 0)] (dc b c ix) (fun(x:Int×Bool)=>[cm x.1,gX x.2]) R (dc b):=by
 refine zm.of Tryz.func93 J J J fun w0 S0=>?_;refine(show CG _ _ _ [bx (rH aZ [(1,aD (ix.h 0).1 (ix.h 0).2 c.kinds.length),(2,aD (ix.h 1).1 (ix.h 1).2 c.first.length)]) 123 b c,cv fk 42 (ix.h 0).1 (ix.h 0).2 c.kinds,cv cn 3 (ix.h 1).1 (ix.h 1).2 c.first] _ from ?_);refine aA<|zo J (Pe (fun _ _ h=>by rw [show _=_ from h];rfl) (ht J))<|zo J (aS hV)<|ax<|aA<|eI<|eI<|eI<|FY (O1:=dc b c ix) (cts:=[bw (rT (tV (aE b 0))) ()]) (caps:=[.tmp 1]) J UW (NV b ix c) ⟨(ht J),aV⟩ J fun v fp=>bN J<|ax<|av ?_;cases so h;exact Mp J J

theorem Ji(l:bK){R:aq×Int×Bool}(h:lg l=some R):bA bc 55 [tD cH l] (tT [bw aZ R.1,cm R.2.1,gX R.2.2]):=by
 refine CL Tryz.func55 J J J fun w0 S0=>aA<|zo J (l9 J)<|bh (r:=rV) (x:= .pointer none) jC (fun _=>⟨J,J⟩) J fun b=>bh (r:=cn) (x:=(0:Int)) ce (fun _=>J) J fun b1=>bh (r:=rB) (x:=false) JS (fun _=>J) J fun b2=>ax<|aA<|zo J (bH pc J J)<|zo J (c0 (r:=rH aZ [(1,.slice none 0 0),(2,.slice none 0 0)]) (y:=(⟨l,[],[]⟩:aq)) Tv TL (zH Id ⟨J,J,aV⟩) (⟨_,_,_,_,_,J,MO E3 J J,J,(ht J),J⟩))<|sO (ht J) J fun b3=>cj true fk 42<|cj true cn 3 ?_;refine(show RG _ _ _ _ [cv cn 3 none 0 ra,cv fk 42 none 0 Gj,bx (rH aZ [(1,aD none 0 Gj.length),(2,aD none 0 ra.length)]) 123 b3 (⟨l,[],[]⟩:aq),bx rB 4 b2 false,bx cn 3 b1 (0:Int),bx rV 118 b (.pointer none)] _ from ?_);refine bh (r:=rV) (x:= .pointer none) jC (fun _=>⟨J,J⟩) J fun b4=>sN (ln jC J (ui aj) J (ht J) (hW (ht J) J)) fun i=>?_;refine(show RG _ _ _ _ [bx rV 118 b4 (aE b3 0),cv cn 3 none 0 ra,cv fk 42 none 0 Gj,bx (rH aZ [(1,aD none 0 Gj.length),(2,aD none 0 ra.length)]) 123 b3 (⟨l,[],[]⟩:aq),bx rB 4 b2 false,bx cn 3 b1 (0:Int),bx rV 118 b (.pointer none)] _ from ?_);refine ax<|aA<|zo J (cQ pz js J J)<|zo J (bH pe J J)<|zo J (lx ly J)<|bN J<|ax<|af<|aA<|aJ J<|zo J (iA (ht J) hI)<|aJ J<|dQ J J (fun hg=>dw J)<|dQ J J (fun hg=>gU (bB J hg) hI)<|zo J (ua J J)<|ax<|eE h J (fun h=>?_) (fun h=>?_)
 ·refine aA<|zo J (rr jC (.head _) (ht J))<|sN (EffOK.fr6 (ln jC J (ui aj) J (ht J) (hW (ht J) J))) fun i1=>?_;refine(show RG _ _ _ _ [bx rV 118 b (aE b3 0),bx rV 118 b4 (aE b3 0),cv cn 3 none 0 ra,cv fk 42 none 0 Gj,bx (rH aZ [(1,aD none 0 Gj.length),(2,aD none 0 ra.length)]) 123 b3 (⟨l,[],[]⟩:aq),bx rB 4 b2 false,bx cn 3 b1 (0:Int)] _ from ?_);refine Af<|ap ce J aj J (ht J) hI<|Af<|ap JS J aj J (ht J) hB<|ax<|av<|aa<|iu<|Ak<|ya 11 J<|au<|ck 2 J<|cu<|ck 3 J<|ck 4 J<|bb<|bb<|bb<|tY ?_;cases so h;exact mO (ts:=[bw aZ (⟨l,[],[]⟩:aq),cm 0,gX false]) (rvs:=[.cell 2 118,.cell 3 3,.cell 4 4]) J J ⟨zQ (j:=11) jC J J,gb ce J J J,gb JS J J J,aV⟩
 ·refine fO<|af<|aA<|zo J (rr jC (.head _) (ht J))<|cb<|eI<|dI<|bT h fun it q_it h=>JC (dc b3 (⟨l,[],[]⟩:aq) (I3 [(none,0),(none,0)])) _ J VP (Ps b3 (I3 [(none,0),(none,0)]) (⟨l,[],[]⟩:aq) q_it) ⟨(ht J),aV⟩ J fun v fp=>ax<|aB<|bT h fun r q_r h=>?_;refine ED (fun(ix:Bool×Int×Bool)=>[bx rV 118 b4 (aE b3 0),bx rB 4 b2 ix.1,bx cn 3 b1 ix.2.1,bx rV 118 b (bif ix.2.2 then aE b3 0 else .pointer none)]) (fun(ix:Bool×Int×Bool)=>(ix.1,ix.2.1,ix.2.2)) (fun _=> .ret) J (ht J) (false,(0:Int),false) J q_r (fun _=>J) J (fun ix x r1 h lp rec1 _ _ _=>?_) (fun i2 j hi bd=>⟨fun hj=>?_,fun _ hj=>?_⟩)
  ·obtain⟨x1,x2,p⟩:=ix
   replace h:m5 x x1 x2 p=some r1:=h
   refine(show CG _ _ _ [qv lp rec1 .ready none,bx rV 118 b4 (aE b3 0),bx rB 4 b2 x1,bx cn 3 b1 x2,bx rV 118 b (bif p then aE b3 0 else .pointer none)] _ from ?_);refine CV (G' :=[(0,tD cH l),(1,bw cH l),(2,tV (aE b 0)),(3,tV (aE b1 0)),(4,tV (aE b2 0)),(5,tV (aE b4 0)),(6,jB l.Nodes),(9,tD cH l),(10,tD (rH aZ [(1,.slice none 0 0),(2,.slice none 0 0)]) (⟨l,[],[]⟩:aq)),(11,tV (aE b3 0)),(12,bw C1 l.Nodes),(13,fZ (ai) l.Nodes),(14,jB l.Nodes),(15,jB l.Nodes),(16,gX (decide ((l.Nodes.length:Int)<(1:Int)))),(17,gX (decide ((l.Nodes.length:Int)<(1:Int)))),(18,pf (!(decide ((l.Nodes.length:Int)<(1:Int)))) (jB l.Nodes)),(19,pf (!(decide ((l.Nodes.length:Int)<(1:Int)))) (gX (decide ((60:Int)<(l.Nodes.length:Int))))),(20,gX ((decide ((l.Nodes.length:Int)<(1:Int)))||(decide ((60:Int)<(l.Nodes.length:Int))))),(22,tV (aE b3 0)),(24,cm x.1),(25,gX x.2)]) ?_ ⟨J,J,J,J,J,J,J,J,J,J,J,J,J,J,J,J,J,J,J,J,J,J,aV⟩;refine aA<|bN J<|ax<|am<|bN J<|aR<|EJ<|aB<|aA<|aJ J<|zo J (gj (ht J))<|ax<|eE h J (fun h=>?_) (fun h=>?_)
   ·refine aA<|zo J (rr jC (.tail _ (.head _)) (ht J))<|aJ J<|sN (EffOK.fr4 (ln jC J (ui aj) J (ht J) (hW (ht J) J))) fun i3=>?_;refine(show RG _ _ _ _ [bx rV 118 b (aE b3 0),qv lp rec1 .busy none,bx rV 118 b4 (aE b3 0),bx rB 4 b2 x1,bx cn 3 b1 x2] _ from ?_);refine io<|ap ce J aj J (ht J) (ht J)<|io<|ap JS J aj J (ht J) hB<|ax<|av<|aF<|au<|au<|au<|cL<|cL ?_;cases so h;exact zw 0 J (false,x.1,true) J J
   ·refine bO<|an ?_;cases so h;exact F3 (x1,x2,p) J J
  ·skip
   obtain⟨x3,x4,p1⟩:=i2
   obtain rfl:x3=r.1.2.1:=congrArg (fun q:Bool×Int×Bool=>q.1) hi
   obtain rfl:x4=r.1.2.2.1:=congrArg (fun q:Bool×Int×Bool=>q.2.1) hi
   obtain rfl:p1=r.1.2.2.2:=congrArg (fun q:Bool×Int×Bool=>q.2.2) hi
   have h:=ct h (by rw [hj];rfl);refine(show AT _ _ _ [Bg bd,bx (rH aZ [(1,aD (j.h 0).1 (j.h 0).2 r.2.kinds.length),(2,aD (j.h 1).1 (j.h 1).2 r.2.first.length)]) 123 b3 r.2,cv fk 42 (j.h 0).1 (j.h 0).2 r.2.kinds,cv cn 3 (j.h 1).1 (j.h 1).2 r.2.first,bx rV 118 b4 (aE b3 0),bx rB 4 b2 r.1.2.1,bx cn 3 b1 r.1.2.2.1,bx rV 118 b (bif r.1.2.2.2 then aE b3 0 else .pointer none)] _ from ?_);refine cE (G' :=[(0,tD cH l),(1,bw cH l),(2,tV (aE b 0)),(3,tV (aE b1 0)),(4,tV (aE b2 0)),(5,tV (aE b4 0)),(6,jB l.Nodes),(9,tD cH l),(10,tD (rH aZ [(1,.slice none 0 0),(2,.slice none 0 0)]) (⟨l,[],[]⟩:aq)),(11,tV (aE b3 0)),(12,bw C1 l.Nodes),(13,fZ (ai) l.Nodes),(14,jB l.Nodes),(15,jB l.Nodes),(16,gX (decide ((l.Nodes.length:Int)<(1:Int)))),(17,gX (decide ((l.Nodes.length:Int)<(1:Int)))),(18,pf (!(decide ((l.Nodes.length:Int)<(1:Int)))) (jB l.Nodes)),(19,pf (!(decide ((l.Nodes.length:Int)<(1:Int)))) (gX (decide ((60:Int)<(l.Nodes.length:Int))))),(20,gX ((decide ((l.Nodes.length:Int)<(1:Int)))||(decide ((60:Int)<(l.Nodes.length:Int))))),(22,tV (aE b3 0))]) ?_ ⟨J,J,J,J,J,J,J,J,J,J,J,J,J,J,J,J,J,J,J,J,aV⟩;refine an<|aw<|af<|bT h fun e q_e h=>?_
   refine j6 14 [tc (tV (aE b3 0)),tc (jB l.Nodes),tc (cm (IntKind.i64.wrap ((l.Nodes.length:Int)-(1:Int)))),tc (tV (aE b3 0)),tc (tV (aE b3 0)),tc (tV (aE b3 2)),tc (tO cn (j.h 1).1 (j.h 1).2 r.2.first),tc (jB l.Nodes),tc (cm (IntKind.i64.wrap ((l.Nodes.length:Int)-(1:Int)))),tc (bw cn e),tc (cm e),tc (gX (e==(0:Int))),tc (zJ),tc (zJ)] [false,false,false,false,false,false,false,false,false,false,false,false,true,true] [fun _=>[Bg bd,bx (rH aZ [(1,aD (j.h 0).1 (j.h 0).2 r.2.kinds.length),(2,aD (j.h 1).1 (j.h 1).2 r.2.first.length)]) 123 b3 r.2,cv fk 42 (j.h 0).1 (j.h 0).2 r.2.kinds,cv cn 3 (j.h 1).1 (j.h 1).2 r.2.first,bx rV 118 b4 (aE b3 0),bx rB 4 b2 r.1.2.1,bx cn 3 b1 r.1.2.2.1,bx rV 118 b (bif r.1.2.2.2 then aE b3 0 else .pointer none)],fun sg=>[bx rV 118 b (aE b3 0),Bg bd,bx (rH aZ [(1,aD (j.h 0).1 (j.h 0).2 r.2.kinds.length),(2,aD (j.h 1).1 (j.h 1).2 r.2.first.length)]) 123 b3 r.2,cv fk 42 (j.h 0).1 (j.h 0).2 r.2.kinds,cv cn 3 (j.h 1).1 (j.h 1).2 r.2.first,bx rV 118 b4 (aE b3 0),bx rB 4 b2 r.1.2.1,bx cn 3 b1 r.1.2.2.1],fun sg=>[bx cn 3 b1 (IntKind.i64.wrap ((l.Nodes.length:Int)-(1:Int))),bx rV 118 b (aE b3 0),Bg bd,bx (rH aZ [(1,aD (j.h 0).1 (j.h 0).2 r.2.kinds.length),(2,aD (j.h 1).1 (j.h 1).2 r.2.first.length)]) 123 b3 r.2,cv fk 42 (j.h 0).1 (j.h 0).2 r.2.kinds,cv cn 3 (j.h 1).1 (j.h 1).2 r.2.first,bx rV 118 b4 (aE b3 0),bx rB 4 b2 r.1.2.1]] J mixed J J J J J
    ⟨⟨[⟨5,fun _=>tV (aE b4 0),none⟩],_,0,0,J,⟨(fun _=>J),aV⟩,J,J,J,J,J,yo (fun sg=>ae J (rr jC (.tail _ (.tail _ (.tail _ (.tail _ (.head _))))) (ht J)))⟩,
    ⟨⟨[⟨6,fun _=>tD cn (l.Nodes.length:Int),none⟩],_,0,1,J,⟨(fun _=>J),aV⟩,J,J,J,J,J,fun _ sg _ _=>ae J (dw J)⟩,
    ⟨⟨[⟨31,fun _=>tD cn (l.Nodes.length:Int),some 1⟩],_,0,1,J,⟨(fun _=>J),aV⟩,J,J,J,J,J,fun _ sg _ _=>ae J (ib (ht J) hI)⟩,
    ⟨⟨[⟨5,fun _=>tV (aE b4 0),none⟩],_,0,2,J,⟨(fun _=>J),aV⟩,J,J,J,J,J,EP (fun sg=>ae J (rr jC (.tail _ (.tail _ (.tail _ (.tail _ (.head _))))) (ht J))) (EP (fun sg=>ae J (rr jC (.tail _ (.tail _ (.tail _ (.tail _ (.tail _ (.head _)))))) (ht J))) (yo (fun sg=>ae J (rr jC (.tail _ (.tail _ (.tail _ (.tail _ (.tail _ (.tail _ (.head _))))))) (ht J)))))⟩,
    ⟨⟨[⟨33,fun _=>tV (aE b3 0),some 3⟩],_,0,2,J,⟨(fun _=>J),aV⟩,J,J,J,J,J,fun _ sg _ _=>ae J (dD (ht J))⟩,
    ⟨⟨[⟨34,fun _=>tV (aE b3 0),some 4⟩],_,0,2,J,⟨(fun _=>J),aV⟩,J,J,J,J,J,fun _ sg _ _=>ae J (fX 2 sG J J J)⟩,
    ⟨⟨[⟨35,fun _=>tV (aE b3 2),some 5⟩],_,0,2,J,⟨(fun _=>J),aV⟩,J,J,J,J,J,EP (fun sg=>ae J (dL cS J (.tail _ (.head _)) (.tail _ (.tail _ (.tail _ (.head _)))) (ht J))) (EP (fun sg=>ae J (dL cS J (.tail _ (.tail _ (.head _))) (.tail _ (.tail _ (.tail _ (.tail _ (.head _))))) (ht J))) (yo (fun sg=>ae J (dL cS J (.tail _ (.tail _ (.tail _ (.head _)))) (.tail _ (.tail _ (.tail _ (.tail _ (.tail _ (.head _)))))) (ht J)))))⟩,
    ⟨⟨[⟨6,fun _=>tD cn (l.Nodes.length:Int),none⟩],_,0,2,J,⟨(fun _=>J),aV⟩,J,J,J,J,J,fun _ sg _ _=>ae J (dw J)⟩,
    ⟨⟨[⟨37,fun _=>tD cn (l.Nodes.length:Int),some 7⟩],_,0,2,J,⟨(fun _=>J),aV⟩,J,J,J,J,J,fun _ sg _ _=>ae J (ib (ht J) hI)⟩,
    ⟨⟨[⟨36,fun _=>tO cn (j.h 1).1 (j.h 1).2 r.2.first,some 6⟩,⟨38,fun _=>tD cn (IntKind.i64.wrap ((l.Nodes.length:Int)-(1:Int))),some 8⟩],_,0,2,J,⟨(fun _=>J),(fun _=>J),aV⟩,J,J,J,J,J,fun _ sg _ _=>ae J (aO d8 ce J (ma (ht J)) (ht J) q_e)⟩,
    ⟨⟨[⟨39,fun _=>bw cn e,some 9⟩],_,0,2,J,⟨(fun _=>J),aV⟩,J,J,J,J,J,fun _ sg _ _=>ae J (bH ce J J)⟩,
    ⟨⟨[⟨40,fun _=>tD cn e,some 10⟩],_,0,2,J,⟨(fun _=>J),aV⟩,J,J,J,J,J,fun _ sg _ _=>ae J (mU J)⟩,
    ⟨⟨[⟨2,fun _=>tV (aE b 0),none⟩,⟨30,fun _=>tV (aE b3 0),some 0⟩],_,J,⟨(fun _=>J),(fun _=>J),aV⟩,J,J,J,fun sg=>cy J (EffOK.fr7 (ln jC J (ui aj) J (ht J) (hW (ht J) J)))⟩,
    ⟨⟨[⟨3,fun _=>tV (aE b1 0),none⟩,⟨32,fun _=>tD cn (IntKind.i64.wrap ((l.Nodes.length:Int)-(1:Int))),some 2⟩],_,J,⟨(fun _=>J),(fun _=>J),aV⟩,J,J,J,fun sg=>cy J (EffOK.fr7 (ln ce J (ui aj) J (ht J) (ht J)))⟩,
    aV⟩⟩⟩⟩⟩⟩⟩⟩⟩⟩⟩⟩⟩⟩ (fun sg=>?_)
   refine(show RG _ _ _ _ [bx cn 3 b1 (IntKind.i64.wrap ((l.Nodes.length:Int)-(1:Int))),bx rV 118 b (aE b3 0),Bg bd,bx (rH aZ [(1,aD (j.h 0).1 (j.h 0).2 r.2.kinds.length),(2,aD (j.h 1).1 (j.h 1).2 r.2.first.length)]) 123 b3 r.2,cv fk 42 (j.h 0).1 (j.h 0).2 r.2.kinds,cv cn 3 (j.h 1).1 (j.h 1).2 r.2.first,bx rV 118 b4 (aE b3 0),bx rB 4 b2 r.1.2.1] _ from ?_);refine Mg<|ap JS J aj J (ht J) (ht J)<|ax<|av<|cL<|Ak<|ya 11 J<|au<|ck 2 J<|cu<|ck 3 J<|ck 4 J<|cu<|bb<|cu<|bb<|cu<|bb<|zu<|tY ?_;cases so h;exact mO (ts:=[bw aZ r.2,cm (IntKind.i64.wrap ((l.Nodes.length:Int)-(1:Int))),gX (e==(0:Int))]) (rvs:=[.cell 2 118,.cell 3 3,.cell 4 4]) J J ⟨zQ (j:=11) jC J J,gb ce J J J,gb JS J J J,aV⟩
  ·skip
   obtain⟨x5,x6,p2⟩:=i2
   obtain rfl:x5=r.1.2.1:=congrArg (fun q:Bool×Int×Bool=>q.1) hi
   obtain rfl:x6=r.1.2.2.1:=congrArg (fun q:Bool×Int×Bool=>q.2.1) hi
   obtain rfl:p2=r.1.2.2.2:=congrArg (fun q:Bool×Int×Bool=>q.2.2) hi
   have h:=cf h (by rw [hj];rfl);refine(show CG _ _ _ [Bg bd,bx (rH aZ [(1,aD (j.h 0).1 (j.h 0).2 r.2.kinds.length),(2,aD (j.h 1).1 (j.h 1).2 r.2.first.length)]) 123 b3 r.2,cv fk 42 (j.h 0).1 (j.h 0).2 r.2.kinds,cv cn 3 (j.h 1).1 (j.h 1).2 r.2.first,bx rV 118 b4 (aE b3 0),bx rB 4 b2 r.1.2.1,bx cn 3 b1 r.1.2.2.1,bx rV 118 b (bif r.1.2.2.2 then aE b3 0 else .pointer none)] _ from ?_);refine CV (G' :=[(0,tD cH l),(1,bw cH l),(2,tV (aE b 0)),(3,tV (aE b1 0)),(4,tV (aE b2 0)),(5,tV (aE b4 0)),(6,jB l.Nodes),(9,tD cH l),(10,tD (rH aZ [(1,.slice none 0 0),(2,.slice none 0 0)]) (⟨l,[],[]⟩:aq)),(11,tV (aE b3 0)),(12,bw C1 l.Nodes),(13,fZ (ai) l.Nodes),(14,jB l.Nodes),(15,jB l.Nodes),(16,gX (decide ((l.Nodes.length:Int)<(1:Int)))),(17,gX (decide ((l.Nodes.length:Int)<(1:Int)))),(18,pf (!(decide ((l.Nodes.length:Int)<(1:Int)))) (jB l.Nodes)),(19,pf (!(decide ((l.Nodes.length:Int)<(1:Int)))) (gX (decide ((60:Int)<(l.Nodes.length:Int))))),(20,gX ((decide ((l.Nodes.length:Int)<(1:Int)))||(decide ((60:Int)<(l.Nodes.length:Int))))),(22,tV (aE b3 0))]) ?_ ⟨J,J,J,J,J,J,J,J,J,J,J,J,J,J,J,J,J,J,J,J,aV⟩;refine av ?_;refine aF (aa ?_);refine bT h fun u q_u h=>OD (O' :=[Bg bd,bx (rH aZ [(1,aD (j.h 0).1 (j.h 0).2 r.2.kinds.length),(2,aD (j.h 1).1 (j.h 1).2 r.2.first.length)]) 123 b3 r.2,cv fk 42 (j.h 0).1 (j.h 0).2 r.2.kinds,cv cn 3 (j.h 1).1 (j.h 1).2 r.2.first,bx rV 118 b4 (aE b3 0),bx rB 4 b2 r.1.2.1,bx cn 3 b1 r.1.2.2.1,bx rV 118 b (aE b3 0)]) (by rw [show r.1.2.2.2=true from Nw q_u];rfl)<|cu<|Ak<|ya 11 J<|iu<|ck 2 J<|cD<|ck 3 J<|cL<|ck 4 J<|cu<|bb<|cu<|bb<|cu<|bb<|zu<|tY ?_;cases so h;exact mO (ts:=[bw aZ r.2,cm r.1.2.2.1,gX r.1.2.1]) (rvs:=[.cell 2 118,.cell 3 3,.cell 4 4]) J J ⟨zQ (j:=11) jC J J,gb ce J J J,gb JS J J J,aV⟩

theorem Sq(l:bK){R:(List Int)×Int}(h:qk l=some R):bA bc 27 [tD cH l] (tT [fP R.1,cm R.2]):=by
 refine bA.of Tryz.func27 J J J fun w0 S0=>aA<|zo J (l9 J)<|zo J (aS (show aK _ _ _ o8 from lU))<|zo J (gv)<|ax<|aA<|zo J (bH pc J J)<|bT h fun r q_r h=>zo J (aL SQ (Ji _ q_r) ⟨(ht J),aV⟩)<|aJ J<|zo J (mA J J)<|zo J (mA J J)<|zo J (mA J J)<|bN J<|bN J<|bN J<|ax<|af<|af ?_;refine am<|aJ J<|zo J (gj (ht J))<|ax<|eE h J (fun h=>?_) (fun h=>?_)
 ·refine aA<|zo J (aS (show aK _ _ _ o8 from lU))<|zo J (gv)<|ax<|av<|aa ?_;cases so h;exact df J J J
 ·refine fO<|aA<|aJ J<|zo J (Fg (ht J))<|zo J (cQ lX Fy J J)<|zo J (bH u5 J J)<|aJ J<|bT h fun e q_e h=>zo J (nY rW cS J J J q_e)<|zo J (bH cS J J)<|bT h fun r1 q_r1 h=>lF HM (Bz _ q_r1) ⟨(ht J),aV⟩ J fun l1 c=>bN J<|zo J (gv)<|ax<|av<|jL<|da 2 J<|da 22 J<|kU 2 J<|bb ?_;cases so h;exact df J J J

theorem So(l:bK){R:Int×Int}(h:sx l=some R):bA bc 31 [tD cH l] (tT [cm R.1,cm R.2]):=by
 refine bA.of Tryz.func31 J J J fun w0 S0=>aA<|zo J (l9 J)<|zo J (gv)<|zo J (gv)<|ax<|aA<|zo J (bH pc J J)<|bT h fun r q_r h=>zo J (aL SQ (Ji _ q_r) ⟨(ht J),aV⟩)<|aJ J<|zo J (mA J J)<|zo J (mA J J)<|zo J (mA J J)<|bN J<|bN J<|bN J<|ax<|af<|af ?_;refine am<|aJ J<|zo J (gj (ht J))<|ax<|eE h J (fun h=>?_) (fun h=>?_)
 ·refine aA<|aJ J<|bN J<|zo J (gv)<|ax<|av<|aa ?_;cases so h;exact df J J J
 ·refine fO<|aA<|zo J (gv)<|zo J (gv)<|ax<|av ?_;cases so h;exact df J J J

theorem Kn(c:Int){R:Bool}(h:tK c=some R):bA bc 172 [tD (rI .i32) c] (gX R):=by
 refine bA.of Tryz.func172 J J J fun w0 S0=>aA<|zo J (iO)<|ax<|aA<|aJ J<|zo J (fF (ht J) hI)<|aJ J<|cP J J (fun hg=>dw J)<|cP J J (fun hg=>lT (bB J hg) hI)<|zo J (r0 J J)<|bN J<|ax<|av ?_;cases so h;exact ba J J

theorem Py(s:(List gV))(v:gV){R:Int}(h:jh s v=some R):bA bc 243 [fZ (rS) s,tD rS v] (cm R):=by
 refine bA.of Tryz.func243 J J J fun w0 S0=>aA<|zo J (gv)<|ax<|af<|aA<|aJ J<|zo J (lx Tryz.underlying254 J)<|zo J (bJ hI)<|ax<|aB<|bl (k:=6) J fun hN=>bU ?_;refine aW (fM (Z:=fun ls i=>(s.drop i=ls)∧d9 v ls i=some R) (Of:=fun _ i=>[]) (Gf:=fun _ i=>[(0,fZ (rS) s),(1,tD rS v),(7,jB s),(8,cm (i:Int))]) (fun i h=>?_) (fun e tl ih i h=>?_) s 0 ⟨J,h⟩) (bu J)
 ·obtain⟨hx,h⟩:=h
  refine aC<|aA<|zo J (gP J J)<|ax<|af<|bF (ht J) (d5 hx)<|bt ?_;refine ac (ac (aN ?_));refine aw<|aA<|zo rfl (gv)<|ax<|av ?_;cases so h;exact ba J J
 ·obtain⟨hx,h⟩:=h
  refine aC<|aA<|zo J (gP J J)<|ax<|af<|bE (ht J) (dZ hx)<|fO<|af<|aB<|aA<|aJ J<|bN J<|ax<|aA<|aJ J<|aJ J<|aJ J<|zo J (nY Tryz.underlying254 Io J J J (d4 hx)) ?_;refine zo J (bH Io J J)<|zo J (Bu (ht J) (ht J))<|ax<|eE h J (fun h=>?_) (fun h=>?_)
  ·refine aA<|aJ J<|bN J<|ax<|av ?_;refine aF (aa (aa (aF (aa ?_))));cases so h;exact ba J J
  ·refine bO<|an<|aw<|am<|zo rfl (nF (dv hx hN) rfl)<|aJ rfl<|aR ?_;exact bj (aW (ih (i+1) ⟨du hx,h⟩) (bu J))

theorem PH(s:(List gV))(v:gV){R:Bool}(h:hY s v=some R):bA bc 218 [fZ (rS) s,tD rS v] (gX R):=by
 refine bA.of Tryz.func218 J J J fun w0 S0=>aA<|zo J (iO)<|ax<|aA<|aJ J<|aJ J<|bT h fun r q_r h=>zo J (aL Ug (Py _ _ q_r) ⟨(ht J),(ht J),aV⟩)<|zo J (fF (ht J) hI)<|bN J<|ax<|av ?_;cases so h;exact ba J J

theorem PZ(s:gV){R:Bool}(h:uC s=some R):bA bc 173 [tD rS s] (gX R):=by
 refine bA.of Tryz.func173 J J J fun w0 S0=>aA<|zo J (iO)<|ax<|aA<|zo J (EB (r:=s5 rS 28) (x:=TG) gm1 gr1 (Ls Tryz.underlying255 Io J QL))<|aJ J<|bT h fun r q_r h=>zo J (aL Ur (PH _ _ q_r) ⟨(ht J),(ht J),aV⟩)<|bN J<|ax<|av ?_;cases so h;exact ba J J

theorem PY(s:gV){R:gV}(h:iw s=some R):bA bc 174 [tD rS s] (tD rS R):=by
 unfold iw at h
 split at h
 ·rename_i hl
  cases h
  refine HR fun w hw=>?_
  have:=Any.strings_ToUpper_any th upX ⟨s.toArray⟩ w (by rw [Kz];exact hl) hw.1 hw.2
  simp only [List.toList_toArray]at this
  exact this
 ·cases h

theorem PX(c:Int){R:Bool}(h:wC c=some R):bA bc 175 [tD (rI .i32) c] (gX R):=by
 refine bA.of Tryz.func175 J J J fun w0 S0=>aA<|zo J (iO)<|ax<|aA<|aJ J<|zo J (fF (ht J) hI)<|aJ J<|cP J J (fun hg=>dw J)<|cP J J (fun hg=>lT (bB J hg) hI)<|zo J (r0 J J)<|bN J<|ax<|av ?_;cases so h;exact ba J J

theorem Jg(s:gV){R:Bool}(h:px s=some R):bA bc 96 [tD rS s] (gX R):=by
 refine bA.of Tryz.func96 J J J fun w0 S0=>aA<|zo J (iO)<|ax<|af<|aA<|aJ J<|zo J (Bu (ht J) hS)<|aJ J<|dQ J J (fun hg=>dw J)<|dQ J J (fun hg=>yM kV (bB J hg))<|dQ J J (fun hg=>gU (bB J hg) hI)<|zo J (ua J J)<|aJ J<|bT h fun t q_t h=>dQ J J (fun hg=>dw J) ?_
 obtain⟨b,h1t,h0t⟩:=og q_t
 have q_bg:=fun hb=>(h1t hb).1
 refine dQ J J (fun hg=>Lw kV (bB J hg) hI (q_bg hg))<|dQ J J (fun hg=>Pd Tryz.underlying5 Tryz.underlying21 (bB J hg)) ?_
 obtain⟨r,h1t⟩:=SZ (fun hb=>(h1t hb).2)
 have q_rg:=fun hb=>(h1t hb).1
 refine dQ J J (fun hg=>aL QR (Kn _ (q_rg hg)) ⟨(bB J hg),aV⟩)<|dQ J J (fun hg=>gj (bB J hg))<|zo J (gT (ht J) (fun hb=>(bB J (vN hb))) (fun hb=>(h1t hb).2) h0t)<|aJ J<|bT h fun t1 q_t1 h=>dQ J J (fun hg=>dw J) ?_
 obtain⟨r1,h1t1,h0t1⟩:=og q_t1
 have q_r1g:=fun hb=>(h1t1 hb).1
 refine dQ J J (fun hg=>aL UJ (PY _ (q_r1g hg)) ⟨(bB J hg),aV⟩) ?_
 obtain⟨r2,h1t1⟩:=SZ (fun hb=>(h1t1 hb).2)
 have q_r2g:=fun hb=>(h1t1 hb).1
 refine dQ J J (fun hg=>aL UK (PZ _ (q_r2g hg)) ⟨(bB J hg),aV⟩)<|zo J (gT (ht J) (fun hb=>(bB J (vN hb))) (fun hb=>(h1t1 hb).2) h0t1)<|ax<|eE h J (fun h=>?_) (fun h=>?_)
 ·refine aA<|zo J (iO)<|ax<|av<|aa ?_;cases so h;exact ba J J
 ·refine fO<|af<|aA<|aJ J<|HT kV (ht J) J fun rg=>ax<|aB<|bU ?_;refine aW (SW (β:=Int×Int) (Z:=fun ls=>m6 ls=some R) (Of:=fun ls=>[C5 rg s ls]) (Gf:=[(25,tV (aE rg 0))]) (fun ls h ih=>?_) (GK s) h) (bu J);refine aC<|aA ?_;refine JB (ht J) J (fun hl=>?_) (fun e tl hk=>?_)
  ·subst hl
   refine zo J (Fi (ht J))<|ax<|af<|bF (ht J) J<|bt ?_;refine ac (ac (aN ?_));refine aw<|aA<|zo rfl (iO)<|ax<|av<|bb ?_;cases so h;exact ba J J
  ·subst hk
   refine zo J (xa (i:=0) J (ht J))<|ax<|af<|bE (ht J) J<|fO<|aB<|aA<|zo J (xa (i:=2) J (ht J))<|bN J<|ax<|aA<|aJ J<|bT h fun r3 q_r3 h=>zo J (aL UI (PX _ q_r3) ⟨(ht J),aV⟩)<|zo J (gj (ht J))<|aJ J<|bT h fun t2 q_t2 h=>cP J J (fun hg=>dw J) ?_
   obtain⟨r4,h1t2,h0t2⟩:=og q_t2
   have q_r4g:=fun hb=>(h1t2 hb).1
   refine cP J J (fun hg=>aL QR (Kn _ (q_r4g hg)) ⟨(bB J hg),aV⟩)<|cP J J (fun hg=>gj (bB J hg))<|zo J (fe (ht J) (fun hb=>(bB J hb)) (fun hb=>(h1t2 hb).2) h0t2)<|aJ J<|cP J J (fun hg=>dw J)<|cP J J (fun hg=>fE (bB J hg) hI)<|zo J (r0 J J)<|ax<|eE h J (fun h=>?_) (fun h=>?_)
   ·refine aA<|zo J (iO)<|ax<|av ?_;refine aF (aa (aF (aa ?_)));refine bb ?_;cases so h;exact ba J J
   ·refine bO<|an ?_;exact bj (aW (ih tl (by simp) h) (bu J))

theorem PG(s:(List bn))(f:(bn→Option Bool)){R:Int}(h:eV s f=some R):bA bc 225 [fZ (dk) s,(iH bc A6 n9 (fun(x:bn)=>f x))] (cm R):=by
 refine bA.of Tryz.func225 J J J fun w0 S0=>aA<|zo J (gv)<|ax<|af<|aA<|aJ J<|zo J (lx vd J)<|zo J (bJ hI)<|ax<|aB<|bl (k:=6) J fun hN=>bU ?_;refine aW (fM (Z:=fun ls i=>(s.drop i=ls)∧cq f ls i=some R) (Of:=fun _ i=>[]) (Gf:=fun _ i=>[(0,fZ (dk) s),(1,(iH bc A6 n9 (fun(x:bn)=>f x))),(7,jB s),(8,cm (i:Int))]) (fun i h=>?_) (fun e tl ih i h=>?_) s 0 ⟨J,h⟩) (bu J)
 ·obtain⟨hx,h⟩:=h
  refine aC<|aA<|zo J (gP J J)<|ax<|af<|bF (ht J) (d5 hx)<|bt ?_;refine ac (ac (aN ?_));refine aw<|aA<|zo rfl (gv)<|ax<|av ?_;cases so h;exact ba J J
 ·obtain⟨hx,h⟩:=h
  refine aC<|aA<|zo J (gP J J)<|ax<|af<|bE (ht J) (dZ hx)<|fO<|af<|aB<|aA<|aJ J<|bN J<|ax<|aA<|aJ J<|aJ J<|aJ J<|zo J (nY vd pY J J J (d4 hx)) ?_;refine zo J (bH pY J J)<|bT h fun r q_r h=>zo J (jV (args:=A6) (res:=If) (f:=(fun(x:bn)=>f x)) (x:=((e):bn)) (ht J) q_r ⟨(ht J),aV⟩)<|ax<|eE h J (fun h=>?_) (fun h=>?_)
  ·refine aA<|aJ J<|bN J<|ax<|av ?_;refine aF (aa (aa (aF (aa ?_))));cases so h;exact ba J J
  ·refine bO<|an<|aw<|am<|zo rfl (nF (dv hx hN) rfl)<|aJ rfl<|aR ?_;exact bj (aW (ih (i+1) ⟨du hx,h⟩) (bu J))

theorem PF(of:(bn→Option gV))(name:gV)(p:bn){R:Bool}(h:ef of name p=some R):bA bc 226 [tD dk p,bw (rT ((iH bc A6 wP (fun(x:bn)=>of x)))) (),bw rS name] (gX R):=by
 refine bA.of Tryz.func226 J J J fun w0 S0=>aA<|zo J (l9 J)<|zo J (iO)<|ax<|af<|bT h fun r q_r h=>?_
 refine iq (ts:=[_,_,_,_,_,_]) mixed J J
  ⟨gK 1 J J J (yL Ts (ht J)),
  ⟨gK 3 J J J (bH pY J J),
  ⟨gL 5 0 6 1 J J J J (jV (args:=A6) (res:=wP) (f:=(fun(x:bn)=>of x)) (x:=((p):bn)) (ht J) q_r ⟨(ht J),aV⟩),
  ⟨gK 2 J J J (bH Io J J),
  ⟨gL 7 2 8 3 J J J J (Bu (ht J) (ht J)),
  ⟨dR 9 4 J J J (BQ J),
  aV⟩⟩⟩⟩⟩⟩ ?_
 refine aw<|av ?_;cases so h;exact ba J J

theorem PW(l:(List bn))(of:(bn→Option gV))(name:gV){R:Int×Bool}(h:il l of name=some R):bA bc 176 [fZ (dk) l,(iH bc A6 wP (fun(x:bn)=>of x)),tD rS name] (tT [cm R.1,gX R.2]):=by
 refine bA.of Tryz.func176 J J J fun w0 S0=>aA<|zo J (Fj (ht J))<|zo J (l9 J)<|zo J (gv)<|zo J (iO)<|ax<|aA<|aJ J<|zo J ((show bW _ _ _ _ ((iH bc A6 n9 (fun(x:bn)=>(ef of name) x)))from qg (cts:=[bw (rT ((iH bc A6 wP (fun(x:bn)=>of x)))) (),bw rS name]) (caps:=[.tmp 4,.tmp 5]) Up ⟨(ht J),(ht J),aV⟩ (fun x y h=>PF _ _ _ h)))<|bT h fun r q_r h=>zo J (aL Uq (PG _ _ q_r) ⟨(ht J),(ht J),aV⟩)<|bN J<|ax<|aA<|aJ J<|zo J (Fh (ht J) hI)<|aJ J<|zo J (fF (ht J) hI) ?_;refine bN J<|bN J<|ax<|av ?_;cases so h;exact df J J J

theorem R6(l:(List bn))(of:(bn→Option gV)){R:Bool}(h:kQ l of=some R):bA bc 97 [fZ (dk) l,(iH bc A6 wP (fun(x:bn)=>of x))] (gX R):=by
 refine bA.of Tryz.func97 J J J fun w0 S0=>aA<|zo J (iO)<|ax<|af<|aA<|aJ J<|zo J (lx vd J)<|zo J (bJ hI)<|ax<|aB<|bl (k:=9) J fun hN=>bU ?_;refine aW (fM (Z:=fun ls i=>(l.drop i=ls)∧fh l of ls i=some R) (Of:=fun _ i=>[]) (Gf:=fun _ i=>[(0,fZ (dk) l),(1,(iH bc A6 wP (fun(x:bn)=>of x))),(9,fZ (dk) l),(10,jB l),(11,cm (i:Int))]) (fun i h=>?_) (fun e tl ih i h=>?_) l 0 ⟨J,h⟩) (bu J)
 ·obtain⟨hx,h⟩:=h
  refine aC<|aA<|zo J (gP J J)<|ax<|af<|bF (ht J) (d5 hx)<|bt ?_;refine ac (ac (aN ?_));refine aw<|aA<|zo rfl (iO)<|ax<|av ?_;cases so h;exact ba J J
 ·obtain⟨hx,h⟩:=h
  refine aC<|aA<|zo J (gP J J)<|ax<|af<|bE (ht J) (dZ hx)<|fO<|af<|aB<|aA<|aJ J<|zo J (nY vd pY J J J (d4 hx))<|zo J (bH pY J J)<|bh (r:=dk) (x:=OO) pY (fun _=>o6 _) J fun b=>bN J<|ap pY J aj J (ht J) (ht J)<|bf 6 J<|ax<|af ?_;refine am<|aJ J<|aJ J<|aJ J<|zo J (bH pY J J)<|bT h fun r q_r h=>zo J (jV (args:=A6) (res:=wP) (f:=(fun(x:bn)=>of x)) (x:=((e):bn)) (ht J) q_r ⟨(ht J),aV⟩)<|bT h fun r1 q_r1 h=>zo J (aL UH (PW _ _ _ q_r1) ⟨(ht J),(ht J),(ht J),aV⟩)<|aJ J<|zo J (mA J J)<|zo J (mA J J)<|bN J<|bN J<|ax<|aA<|aJ J<|aJ J<|zo J (fE (ht J) (ht J))<|aJ J<|bT h fun t q_t h=>dQ J J (fun hg=>dw J) ?_;refine dQ J J (fun hg=>bH pY J J) ?_
  obtain⟨r2,h1t,h0t⟩:=og q_t
  have q_r2g:=fun hb=>(h1t hb).1
  refine dQ J J (fun hg=>jV (args:=A6) (res:=wP) (f:=(fun(x:bn)=>of x)) (x:=((e):bn)) (bB J hg) (q_r2g hg) ⟨(bB J hg),aV⟩) ?_
  obtain⟨r3,h1t⟩:=SZ (fun hb=>(h1t hb).2)
  have q_r3g:=fun hb=>(h1t hb).1
  refine dQ J J (fun hg=>aL SN (Jg _ (q_r3g hg)) ⟨(bB J hg),aV⟩)<|dQ J J (fun hg=>gj (bB J hg))<|zo J (gT (ht J) (fun hb=>(bB J (vN hb))) (fun hb=>(h1t hb).2) h0t)<|ax<|eE h J (fun h=>?_) (fun h=>?_)
  ·refine aA<|zo J (iO)<|ax<|av ?_;refine aF (aa (aa (aF (aa ?_))));cases so h;exact ba J J
  ·refine bO<|an<|aw<|am<|zo rfl (nF (dv hx hN) rfl)<|aJ rfl<|aR ?_;exact bj (aW (ih (i+1) ⟨du hx,h⟩) (bu J))

theorem R5(c:bn){R:gV}(h:ep c=some R):bA bc 98 [tD dk c] (tD rS R):=by
 refine bA.of Tryz.func98 J J J fun w0 S0=>aA<|zo J (l9 J)<|zo J (aS hS)<|ax<|aA<|zo J (cQ NM AO J J)<|zo J (bH Io J J)<|bN J<|ax<|av ?_;cases so h;exact ba J J

theorem R4(kind:Int){R:gV}(h:qT kind=some R):bA bc 99 [cm kind] (tD rS R):=by
 refine bA.of Tryz.func99 J J J fun w0 S0=>aA<|zo J (aS hS)<|ax<|af<|aA<|zo J (EB (r:=(s5 ul 3)) (x:=RT) gm0 gr0 (bD Tp J J QL))<|zo J (bJ hI)<|ax<|aB<|bU ?_;refine aW (KK (Z:=fun k i=>(3-i=k)∧iB kind k i=some R) (Of:=fun _ i=>[]) (Gf:=fun _ i=>[(0,cm kind),(5,tD (s5 ul 3) RT),(6,cm (i:Int))]) (fun i h=>?_) (fun k1 ih i h=>?_) 3 0 ⟨J,h⟩) (bu J)
 ·obtain⟨hx,h⟩:=h
  refine aC<|aA<|zo J (iA (ht J) hI)<|ax<|af<|bF (ht J) (RN hx)<|bt ?_;refine ac (ac (aN ?_));refine aw<|aA<|zo rfl (aS hS)<|ax<|av ?_;cases so h;exact ba J J
 ·obtain⟨hx,h⟩:=h
  refine aC<|aA<|zo J (iA (ht J) hI)<|ax<|af<|bE (ht J) (RM hx)<|fO<|af<|aB<|aA<|bT h fun e1 q_e1 h=>zo J (D8 Tryz.underlying233 ME J J (ht J) (ht J) q_e1)<|bh (r:=ul) (x:=(⟨[],(0:Int)⟩:CU)) ME (fun _=>OM _) J fun b=>ap ME J aj J (ht J) (ht J)<|bf 4 J<|ax<|aA<|zo J (cQ Pp LL J J) ?_;refine zo J (bH ce J J)<|aJ J<|zo J (cO (ht J) (ht J))<|ax<|eE h J (fun h=>?_) (fun h=>?_)
  ·refine aA<|zo J (cQ Pq LM J J)<|zo J (bH Io J J)<|bN J<|ax<|av ?_;refine aF (aa (aa (aF (aa ?_))));cases so h;exact ba J J
  ·refine bO<|an<|aw<|am<|zo rfl (wA (Nl hx (by decide)) (ht rfl) hI)<|aJ rfl<|aR ?_;exact bj (aW (ih (i+1) ⟨Nk hx,h⟩) (bu J))

theorem Sd(t:br){R:Int}(h:lr t=some R):bA bc 59 [tD di t] (cm R):=by
 refine bA.of Tryz.func59 J J J fun w0 S0=>aA<|zo J (l9 J)<|zo J (gv)<|ax<|aA<|zo J (cQ Je xP J J)<|zo J (bH Io J J)<|bT h fun r q_r h=>zo J (aL SN (Jg _ q_r) ⟨(ht J),aV⟩)<|aJ J<|cP J J (fun hg=>cQ vW mp J J)<|cP J J (fun hg=>bD Gr J J (bB J hg))<|cP J J (fun hg=>cA vd (bB J hg))<|cP J J (fun hg=>fF (bB J hg) hI)<|zo J (r0 J J)<|aJ J<|cP J J (fun hg=>cQ vW mp J J)<|cP J J (fun hg=>bD Gr J J (bB J hg))<|cP J J (fun hg=>cA vd (bB J hg))<|cP J J (fun hg=>lT (bB J hg) hI) ?_;refine zo J (r0 J J)<|aJ J<|bT h fun t1 q_t1 h=>cP J J (fun hg=>cQ vW mp J J)<|cP J J (fun hg=>bD Gr J J (bB J hg)) ?_
 obtain⟨r1,h1t1,h0t1⟩:=og q_t1
 have q_r1g:=fun hb=>(h1t1 hb).1
 refine cP J J (fun hg=>aL VO (R6 _ _ (q_r1g hg)) ⟨(bB J hg),(RS VN fun x y h=>R5 _ h),aV⟩)<|zo J (fe (ht J) (fun hb=>(bB J hb)) (fun hb=>(h1t1 hb).2) h0t1)<|bN J<|ax<|af<|aA<|zo J (cQ vW mp J J)<|zo J (bH Gr J J)<|zo J (lx vd J)<|zo J (bJ hI)<|ax<|aB<|bl (k:=29) J fun hN=>bU ?_;refine aW (nd (Z:=fun ls i ok=>(t.Columns.drop i=ls)∧ga t ls ok=some R) (Of:=fun _ i ok=>[]) (Gf:=fun _ i ok=>[(1,bw di t),(3,gX ok),(29,fZ (dk) t.Columns),(30,jB t.Columns),(31,cm (i:Int))]) (fun i ok h=>?_) (fun e tl ih i ok h=>?_) t.Columns 0 t1 ⟨J,h⟩) (bu J)
 ·obtain⟨hx,h⟩:=h
  refine aC<|aA<|zo J (gP J J)<|ax<|af<|bF (ht J) (d5 hx)<|bt ?_;refine ac (ac (aN ?_));refine aw<|af<|aA<|zo rfl (cQ Fz uJ rfl rfl)<|zo rfl (bH cS rfl rfl)<|zo rfl (lx d8 rfl)<|zo rfl (bJ hI)<|ax<|aB<|bl (k:=44) J fun hN1=>bU ?_;refine aW (nd (Z:=fun ls1 i1 ok1=>(t.Keys.drop i1=ls1)∧eN t ls1 i1 ok1=some R) (Of:=fun _ i1 ok1=>[]) (Gf:=fun _ i1 ok1=>[(1,bw di t),(3,gX ok1),(44,fP t.Keys),(45,jB t.Keys),(46,cm (i1:Int))]) (fun i1 ok1 h=>?_) (fun e1 tl1 ih1 i1 ok1 h=>?_) t.Keys 0 ok ⟨J,h⟩) (bu J)
  ·obtain⟨hx1,h⟩:=h
   refine aC<|aA<|zo J (gP J J)<|ax<|af<|bF (ht J) (d5 hx1)<|bt ?_;refine ac (ac (aN ?_));refine aw<|af<|aA<|aJ rfl<|zo rfl (gj (ht rfl))<|ax<|eE h rfl (fun h=>?_) (fun h=>?_)
   ·refine aA<|zo J (gv)<|ax<|av<|aa ?_;cases so h;exact ba J J
   ·refine fO<|aA<|zo J (gv)<|ax<|av ?_;cases so h;exact ba J J
  ·obtain⟨hx1,h⟩:=h
   refine aC<|aA<|zo J (gP J J)<|ax<|af<|bE (ht J) (dZ hx1)<|fO<|af<|aB<|aA<|aJ J<|zo J (nY d8 ce J J J (d4 hx1))<|zo J (bH ce J J)<|bN J<|bN J<|ax<|am<|aJ J<|aJ J ?_;refine cP J J (fun hg=>dw J)<|cP J J (fun hg=>fF (bB J hg) hI)<|zo J (r0 J J)<|aJ J<|cP J J (fun hg=>dw J)<|cP J J (fun hg=>cQ vW mp J J)<|cP J J (fun hg=>bD Gr J J (bB J hg))<|cP J J (fun hg=>cA vd (bB J hg))<|cP J J (fun hg=>iA (bB J hg) (bB J hg))<|zo J (r0 J J)<|aJ J<|bT h fun t2 q_t2 h=>cP J J (fun hg=>dw J)<|cP J J (fun hg=>cO (bB J hg) hI)<|cP J J (fun hg=>bJ (bB J hg)) ?_
   obtain⟨t3,h1t2,h0t2⟩:=og q_t2
   have q_t3g:=fun hb=>(h1t2 hb).1
   refine j5 J J J J (fun hg=>cQ Fz uJ J J)<|j5 J J J J (fun hg=>bD cS J J (bB J hg))<|j5 J J J J (fun hg=>dw J)<|j5 J J J J (fun hg=>ib (bB J hg) hI) ?_
   obtain⟨e2,h1t3,h0t3⟩:=og3 q_t3g
   have q_e2g:=fun hb=>(h1t3 hb).1
   refine j5 J J J J (fun hg=>aO d8 ce J (bB J hg) (bB J hg) (q_e2g hg))<|j5 J J J J (fun hg=>bD ce J J (bB J hg))<|j5 J J J J (fun hg=>dw J)<|j5 J J J J (fun hg=>iA (bB J hg) (bB J hg))<|cP J J (fun hg=>gT (bB J hg) (fun hb=>(bB J (Dl hg (vN hb)))) (fun hb=>(h1t3 (Dl hg hb)).2) (fun hb=>h0t3 hg hb))<|zo J (fe (ht J) (fun hb=>(bB J hb)) (fun hb=>(h1t2 hb).2) h0t2)<|bN J<|aR<|an<|aw<|am<|zo rfl (nF (dv hx1 hN1) rfl)<|aJ rfl<|aR ?_;exact bj (aW (ih1 (i1+1) t2 ⟨du hx1,h⟩) (bu J))
 ·obtain⟨hx,h⟩:=h
  refine aC<|aA<|zo J (gP J J)<|ax<|af<|bE (ht J) (dZ hx)<|fO<|af<|aB<|aA<|zo J (nY vd pY J J J (d4 hx))<|zo J (bH pY J J)<|bh (r:=dk) (x:=OO) pY (fun _=>o6 _) J fun b=>ap pY J aj J (ht J) (ht J)<|bf 5 J<|ax<|am<|aJ J<|aJ J ?_;refine bT h fun t4 q_t4 h=>cP J J (fun hg=>cQ NL AN J J)<|cP J J (fun hg=>bD ce J J (bB J hg)) ?_
  obtain⟨r2,h1t4,h0t4⟩:=og q_t4
  have q_r2g:=fun hb=>(h1t4 hb).1
  refine cP J J (fun hg=>aL VM (R4 _ (q_r2g hg)) ⟨(bB J hg),aV⟩)<|cP J J (fun hg=>Pa (bB J hg) hS)<|zo J (fe (ht J) (fun hb=>(bB J hb)) (fun hb=>(h1t4 hb).2) h0t4)<|bN J<|aR<|an<|aw<|am<|zo rfl (nF (dv hx hN) rfl)<|aJ rfl<|aR ?_;exact bj (aW (ih (i+1) t4 ⟨du hx,h⟩) (bu J))

end Go.Proofs.YtnmjbolollcokaaGreatDoor

