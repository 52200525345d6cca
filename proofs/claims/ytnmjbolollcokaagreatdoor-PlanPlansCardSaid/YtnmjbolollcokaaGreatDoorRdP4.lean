/- dr of this claim: P4. -/
import Derived.Test.YtnmjbolollcokaaGreatDoorRdT
import Derived.Test.YtnmjbolollcokaaGreatDoorRdP3
set_option linter.all false
namespace Go.Proofs.YtnmjbolollcokaaGreatDoor
open Go
set_option maxRecDepth 100000

theorem Q5(b:Nat)(ix:OI)(c:aG){R:Mo (Int×Bool) aG}(h:qL c=some R):A1 bl 93 [tV (aM b 0)] (d4 b c ix) (fun(x:Int×Bool)=>[cb x.1,gq x.2]) R (d4 b):=by
 refine A1.of Tryz.func93 J J J fun w0 S0=>?_;refine(show CG _ _ _ [bx (rH bv [(1,aV (ix.h 0).1 (ix.h 0).2 c.kinds.length),(2,aV (ix.h 1).1 (ix.h 1).2 c.first.length)]) 123 b c,tip gG 42 (ix.h 0).1 (ix.h 0).2 c.kinds,tip cx 3 (ix.h 1).1 (ix.h 1).2 c.first] _ from ?_);refine aw<|zo J (QT (fun _ _ h=>by rw [show _=_ from h];rfl) (ht J))<|zo J (aU hV)<|au<|aw<|c0<|c0<|c0<|Hy (O1:=d4 b c ix) (cts:=[bt (rT (tV (aM b 0))) ()]) (caps:=[.tmp 1]) J Xy (Py b ix c) ⟨(ht J),aT⟩ J fun v fp=>bu J<|au<|ak ?_;cases so h;exact NY J J

theorem Ky(l:bR){R:aG×Int×Bool}(h:nm l=some R):bo bl 55 [tD ck l] (tT [bt bv R.1,cb R.2.1,gq R.2.2]):=by
 refine Et Tryz.func55 J J J fun w0 S0=>aw<|zo J (jt J)<|bj (r:=rV) (x:= .pointer none) lv (fun _=>⟨J,J⟩) J fun b=>bj (r:=cx) (x:=(0:Int)) bA (fun _=>J) J fun b1=>bj (r:=rB) (x:=false) yK (fun _=>J) J fun b2=>au<|aw<|zo J (bm lx J J)<|zo J (cm (r:=rH bv [(1,.slice none 0 0),(2,.slice none 0 0)]) (y:=(⟨l,[],[]⟩:aG)) VM VY (zH JH ⟨J,J,aT⟩) (⟨_,_,_,_,_,J,Oy GH J J,J,(ht J),J⟩))<|kO (ht J) J fun b3=>cd true gG 42<|cd true cx 3 ?_;refine(show RG _ _ _ _ [tip cx 3 none 0 oq,tip gG 42 none 0 HP,bx (rH bv [(1,aV none 0 HP.length),(2,aV none 0 oq.length)]) 123 b3 (⟨l,[],[]⟩:aG),bx rB 4 b2 false,bx cx 3 b1 (0:Int),bx rV 118 b (.pointer none)] _ from ?_);refine bj (r:=rV) (x:= .pointer none) lv (fun _=>⟨J,J⟩) J fun b4=>u7 (mw lv J (ve aj) J (ht J) (hW (ht J) J)) fun i=>?_;refine(show RG _ _ _ _ [bx rV 118 b4 (aM b3 0),tip cx 3 none 0 oq,tip gG 42 none 0 HP,bx (rH bv [(1,aV none 0 HP.length),(2,aV none 0 oq.length)]) 123 b3 (⟨l,[],[]⟩:aG),bx rB 4 b2 false,bx cx 3 b1 (0:Int),bx rV 118 b (.pointer none)] _ from ?_);refine au<|aw<|zo J (bD jn dM J J)<|zo J (bm iB J J)<|zo J (fW om J)<|bu J<|au<|ac<|aw<|aE J<|zo J (eO (ht J) hI)<|aE J<|ci J J (fun hg=>cG J)<|ci J J (fun hg=>d5 (aS J hg) hI)<|zo J (nW J J)<|au<|cE h J (fun h=>?_) (fun h=>?_)
 ·refine aw<|zo J (ue lv (.head _) (ht J))<|u7 (EffOK.fr6 (mw lv J (ve aj) J (ht J) (hW (ht J) J))) fun i1=>?_;refine(show RG _ _ _ _ [bx rV 118 b (aM b3 0),bx rV 118 b4 (aM b3 0),tip cx 3 none 0 oq,tip gG 42 none 0 HP,bx (rH bv [(1,aV none 0 HP.length),(2,aV none 0 oq.length)]) 123 b3 (⟨l,[],[]⟩:aG),bx rB 4 b2 false,bx cx 3 b1 (0:Int)] _ from ?_);refine BR<|ai bA J aj J (ht J) hI<|BR<|ai yK J aj J (ht J) hB<|au<|ak<|M<|j9<|BW<|zT 11 J<|aD<|bH 2 J<|bE<|bH 3 J<|bH 4 J<|aL<|aL<|aL<|vP ?_;cases so h;exact kP (ts:=[bt bv (⟨l,[],[]⟩:aG),cb 0,gq false]) (rvs:=[.cell 2 118,.cell 3 3,.cell 4 4]) J J ⟨Bu (j:=11) lv J J,fh bA J J J,fh yK J J J,aT⟩
 ·refine dz<|ac<|aw<|zo J (ue lv (.head _) (ht J))<|bL<|c0<|dC<|bz h fun it q_it h=>KO (d4 b3 (⟨l,[],[]⟩:aG) (Km [(none,0),(none,0)])) _ J Yq (Q5 b3 (Km [(none,0),(none,0)]) (⟨l,[],[]⟩:aG) q_it) ⟨(ht J),aT⟩ J fun v fp=>au<|ax<|bz h fun r q_r h=>?_;refine Gm (fun(ix:Bool×Int×Bool)=>[bx rV 118 b4 (aM b3 0),bx rB 4 b2 ix.1,bx cx 3 b1 ix.2.1,bx rV 118 b (bif ix.2.2 then aM b3 0 else .pointer none)]) (fun(ix:Bool×Int×Bool)=>(ix.1,ix.2.1,ix.2.2)) (fun _=> .ret) J (ht J) (false,(0:Int),false) J q_r (fun _=>J) J (fun ix x r1 h lp rec1 _ _ _=>?_) (fun i2 j hi bd=>⟨fun hj=>?_,fun _ hj=>?_⟩)
  ·obtain⟨x1,x2,p⟩:=ix
   replace h:pG x x1 x2 p=some r1:=h
   refine(show CG _ _ _ [sS lp rec1 .ready none,bx rV 118 b4 (aM b3 0),bx rB 4 b2 x1,bx cx 3 b1 x2,bx rV 118 b (bif p then aM b3 0 else .pointer none)] _ from ?_);refine EE (G' :=[(0,tD ck l),(1,bt ck l),(2,tV (aM b 0)),(3,tV (aM b1 0)),(4,tV (aM b2 0)),(5,tV (aM b4 0)),(6,jV l.Nodes),(9,tD ck l),(10,tD (rH bv [(1,.slice none 0 0),(2,.slice none 0 0)]) (⟨l,[],[]⟩:aG)),(11,tV (aM b3 0)),(12,bt xf l.Nodes),(13,fc (ah) l.Nodes),(14,jV l.Nodes),(15,jV l.Nodes),(16,gq (decide ((l.Nodes.length:Int)<(1:Int)))),(17,gq (decide ((l.Nodes.length:Int)<(1:Int)))),(18,qw (!(decide ((l.Nodes.length:Int)<(1:Int)))) (jV l.Nodes)),(19,qw (!(decide ((l.Nodes.length:Int)<(1:Int)))) (gq (decide ((60:Int)<(l.Nodes.length:Int))))),(20,gq ((decide ((l.Nodes.length:Int)<(1:Int)))||(decide ((60:Int)<(l.Nodes.length:Int))))),(22,tV (aM b3 0)),(24,cb x.1),(25,gq x.2)]) ?_ ⟨J,J,J,J,J,J,J,J,J,J,J,J,J,J,J,J,J,J,J,J,J,J,aT⟩;refine aw<|bu J<|au<|am<|bu J<|aJ<|Gs<|ax<|aw<|aE J<|zo J (dh (ht J))<|au<|cE h J (fun h=>?_) (fun h=>?_)
   ·refine aw<|zo J (ue lv (.tail _ (.head _)) (ht J))<|aE J<|u7 (EffOK.fr4 (mw lv J (ve aj) J (ht J) (hW (ht J) J))) fun i3=>?_;refine(show RG _ _ _ _ [bx rV 118 b (aM b3 0),sS lp rec1 .busy none,bx rV 118 b4 (aM b3 0),bx rB 4 b2 x1,bx cx 3 b1 x2] _ from ?_);refine jD<|ai bA J aj J (ht J) (ht J)<|jD<|ai yK J aj J (ht J) hB<|au<|ak<|ay<|aD<|aD<|aD<|dq<|dq ?_;cases so h;exact A8 0 J (false,x.1,true) J J
   ·refine bk<|an ?_;cases so h;exact HC (x1,x2,p) J J
  ·skip
   obtain⟨x3,x4,p1⟩:=i2
   obtain rfl:x3=r.1.2.1:=congrArg (fun q:Bool×Int×Bool=>q.1) hi
   obtain rfl:x4=r.1.2.2.1:=congrArg (fun q:Bool×Int×Bool=>q.2.1) hi
   obtain rfl:p1=r.1.2.2.2:=congrArg (fun q:Bool×Int×Bool=>q.2.2) hi
   have h:=ct h (by rw [hj];rfl);refine(show AT _ _ _ [CP bd,bx (rH bv [(1,aV (j.h 0).1 (j.h 0).2 r.2.kinds.length),(2,aV (j.h 1).1 (j.h 1).2 r.2.first.length)]) 123 b3 r.2,tip gG 42 (j.h 0).1 (j.h 0).2 r.2.kinds,tip cx 3 (j.h 1).1 (j.h 1).2 r.2.first,bx rV 118 b4 (aM b3 0),bx rB 4 b2 r.1.2.1,bx cx 3 b1 r.1.2.2.1,bx rV 118 b (bif r.1.2.2.2 then aM b3 0 else .pointer none)] _ from ?_);refine bJ (G' :=[(0,tD ck l),(1,bt ck l),(2,tV (aM b 0)),(3,tV (aM b1 0)),(4,tV (aM b2 0)),(5,tV (aM b4 0)),(6,jV l.Nodes),(9,tD ck l),(10,tD (rH bv [(1,.slice none 0 0),(2,.slice none 0 0)]) (⟨l,[],[]⟩:aG)),(11,tV (aM b3 0)),(12,bt xf l.Nodes),(13,fc (ah) l.Nodes),(14,jV l.Nodes),(15,jV l.Nodes),(16,gq (decide ((l.Nodes.length:Int)<(1:Int)))),(17,gq (decide ((l.Nodes.length:Int)<(1:Int)))),(18,qw (!(decide ((l.Nodes.length:Int)<(1:Int)))) (jV l.Nodes)),(19,qw (!(decide ((l.Nodes.length:Int)<(1:Int)))) (gq (decide ((60:Int)<(l.Nodes.length:Int))))),(20,gq ((decide ((l.Nodes.length:Int)<(1:Int)))||(decide ((60:Int)<(l.Nodes.length:Int))))),(22,tV (aM b3 0))]) ?_ ⟨J,J,J,J,J,J,J,J,J,J,J,J,J,J,J,J,J,J,J,J,aT⟩;refine an<|aq<|ac<|bz h fun e q_e h=>?_
   refine iK 14 [tc (tV (aM b3 0)),tc (jV l.Nodes),tc (cb (IntKind.i64.wrap ((l.Nodes.length:Int)-(1:Int)))),tc (tV (aM b3 0)),tc (tV (aM b3 0)),tc (tV (aM b3 2)),tc (tO cx (j.h 1).1 (j.h 1).2 r.2.first),tc (jV l.Nodes),tc (cb (IntKind.i64.wrap ((l.Nodes.length:Int)-(1:Int)))),tc (bt cx e),tc (cb e),tc (gq (e==(0:Int))),tc (Af),tc (Af)] [false,false,false,false,false,false,false,false,false,false,false,false,true,true] [fun _=>[CP bd,bx (rH bv [(1,aV (j.h 0).1 (j.h 0).2 r.2.kinds.length),(2,aV (j.h 1).1 (j.h 1).2 r.2.first.length)]) 123 b3 r.2,tip gG 42 (j.h 0).1 (j.h 0).2 r.2.kinds,tip cx 3 (j.h 1).1 (j.h 1).2 r.2.first,bx rV 118 b4 (aM b3 0),bx rB 4 b2 r.1.2.1,bx cx 3 b1 r.1.2.2.1,bx rV 118 b (bif r.1.2.2.2 then aM b3 0 else .pointer none)],fun sg=>[bx rV 118 b (aM b3 0),CP bd,bx (rH bv [(1,aV (j.h 0).1 (j.h 0).2 r.2.kinds.length),(2,aV (j.h 1).1 (j.h 1).2 r.2.first.length)]) 123 b3 r.2,tip gG 42 (j.h 0).1 (j.h 0).2 r.2.kinds,tip cx 3 (j.h 1).1 (j.h 1).2 r.2.first,bx rV 118 b4 (aM b3 0),bx rB 4 b2 r.1.2.1,bx cx 3 b1 r.1.2.2.1],fun sg=>[bx cx 3 b1 (IntKind.i64.wrap ((l.Nodes.length:Int)-(1:Int))),bx rV 118 b (aM b3 0),CP bd,bx (rH bv [(1,aV (j.h 0).1 (j.h 0).2 r.2.kinds.length),(2,aV (j.h 1).1 (j.h 1).2 r.2.first.length)]) 123 b3 r.2,tip gG 42 (j.h 0).1 (j.h 0).2 r.2.kinds,tip cx 3 (j.h 1).1 (j.h 1).2 r.2.first,bx rV 118 b4 (aM b3 0),bx rB 4 b2 r.1.2.1]] J mixed J J J J J
    ⟨⟨[⟨5,fun _=>tV (aM b4 0),none⟩],_,0,0,J,⟨(fun _=>J),aT⟩,J,J,J,J,J,tU (fun sg=>aa J (ue lv (.tail _ (.tail _ (.tail _ (.tail _ (.head _))))) (ht J)))⟩,
    ⟨⟨[⟨6,fun _=>tD cx (l.Nodes.length:Int),none⟩],_,0,1,J,⟨(fun _=>J),aT⟩,J,J,J,J,J,fun _ sg _ _=>aa J (cG J)⟩,
    ⟨⟨[⟨31,fun _=>tD cx (l.Nodes.length:Int),some 1⟩],_,0,1,J,⟨(fun _=>J),aT⟩,J,J,J,J,J,fun _ sg _ _=>aa J (dL (ht J) hI)⟩,
    ⟨⟨[⟨5,fun _=>tV (aM b4 0),none⟩],_,0,2,J,⟨(fun _=>J),aT⟩,J,J,J,J,J,vV (fun sg=>aa J (ue lv (.tail _ (.tail _ (.tail _ (.tail _ (.head _))))) (ht J))) (vV (fun sg=>aa J (ue lv (.tail _ (.tail _ (.tail _ (.tail _ (.tail _ (.head _)))))) (ht J))) (tU (fun sg=>aa J (ue lv (.tail _ (.tail _ (.tail _ (.tail _ (.tail _ (.tail _ (.head _))))))) (ht J)))))⟩,
    ⟨⟨[⟨33,fun _=>tV (aM b3 0),some 3⟩],_,0,2,J,⟨(fun _=>J),aT⟩,J,J,J,J,J,fun _ sg _ _=>aa J (eJ (ht J))⟩,
    ⟨⟨[⟨34,fun _=>tV (aM b3 0),some 4⟩],_,0,2,J,⟨(fun _=>J),aT⟩,J,J,J,J,J,fun _ sg _ _=>aa J (dy 2 uZ J J J)⟩,
    ⟨⟨[⟨35,fun _=>tV (aM b3 2),some 5⟩],_,0,2,J,⟨(fun _=>J),aT⟩,J,J,J,J,J,vV (fun sg=>aa J (eY cD J (.tail _ (.head _)) (.tail _ (.tail _ (.tail _ (.head _)))) (ht J))) (vV (fun sg=>aa J (eY cD J (.tail _ (.tail _ (.head _))) (.tail _ (.tail _ (.tail _ (.tail _ (.head _))))) (ht J))) (tU (fun sg=>aa J (eY cD J (.tail _ (.tail _ (.tail _ (.head _)))) (.tail _ (.tail _ (.tail _ (.tail _ (.tail _ (.head _)))))) (ht J)))))⟩,
    ⟨⟨[⟨6,fun _=>tD cx (l.Nodes.length:Int),none⟩],_,0,2,J,⟨(fun _=>J),aT⟩,J,J,J,J,J,fun _ sg _ _=>aa J (cG J)⟩,
    ⟨⟨[⟨37,fun _=>tD cx (l.Nodes.length:Int),some 7⟩],_,0,2,J,⟨(fun _=>J),aT⟩,J,J,J,J,J,fun _ sg _ _=>aa J (dL (ht J) hI)⟩,
    ⟨⟨[⟨36,fun _=>tO cx (j.h 1).1 (j.h 1).2 r.2.first,some 6⟩,⟨38,fun _=>tD cx (IntKind.i64.wrap ((l.Nodes.length:Int)-(1:Int))),some 8⟩],_,0,2,J,⟨(fun _=>J),(fun _=>J),aT⟩,J,J,J,J,J,fun _ sg _ _=>aa J (aQ dc bA J (kT (ht J)) (ht J) q_e)⟩,
    ⟨⟨[⟨39,fun _=>bt cx e,some 9⟩],_,0,2,J,⟨(fun _=>J),aT⟩,J,J,J,J,J,fun _ sg _ _=>aa J (bm bA J J)⟩,
    ⟨⟨[⟨40,fun _=>tD cx e,some 10⟩],_,0,2,J,⟨(fun _=>J),aT⟩,J,J,J,J,J,fun _ sg _ _=>aa J (iz J)⟩,
    ⟨⟨[⟨2,fun _=>tV (aM b 0),none⟩,⟨30,fun _=>tV (aM b3 0),some 0⟩],_,J,⟨(fun _=>J),(fun _=>J),aT⟩,J,J,J,fun sg=>bN J (EffOK.fr7 (mw lv J (ve aj) J (ht J) (hW (ht J) J)))⟩,
    ⟨⟨[⟨3,fun _=>tV (aM b1 0),none⟩,⟨32,fun _=>tD cx (IntKind.i64.wrap ((l.Nodes.length:Int)-(1:Int))),some 2⟩],_,J,⟨(fun _=>J),(fun _=>J),aT⟩,J,J,J,fun sg=>bN J (EffOK.fr7 (mw bA J (ve aj) J (ht J) (ht J)))⟩,
    aT⟩⟩⟩⟩⟩⟩⟩⟩⟩⟩⟩⟩⟩⟩ (fun sg=>?_)
   refine(show RG _ _ _ _ [bx cx 3 b1 (IntKind.i64.wrap ((l.Nodes.length:Int)-(1:Int))),bx rV 118 b (aM b3 0),CP bd,bx (rH bv [(1,aV (j.h 0).1 (j.h 0).2 r.2.kinds.length),(2,aV (j.h 1).1 (j.h 1).2 r.2.first.length)]) 123 b3 r.2,tip gG 42 (j.h 0).1 (j.h 0).2 r.2.kinds,tip cx 3 (j.h 1).1 (j.h 1).2 r.2.first,bx rV 118 b4 (aM b3 0),bx rB 4 b2 r.1.2.1] _ from ?_);refine NO<|ai yK J aj J (ht J) (ht J)<|au<|ak<|dq<|BW<|zT 11 J<|aD<|bH 2 J<|bE<|bH 3 J<|bH 4 J<|bE<|aL<|bE<|aL<|bE<|aL<|A7<|vP ?_;cases so h;exact kP (ts:=[bt bv r.2,cb (IntKind.i64.wrap ((l.Nodes.length:Int)-(1:Int))),gq (e==(0:Int))]) (rvs:=[.cell 2 118,.cell 3 3,.cell 4 4]) J J ⟨Bu (j:=11) lv J J,fh bA J J J,fh yK J J J,aT⟩
  ·skip
   obtain⟨x5,x6,p2⟩:=i2
   obtain rfl:x5=r.1.2.1:=congrArg (fun q:Bool×Int×Bool=>q.1) hi
   obtain rfl:x6=r.1.2.2.1:=congrArg (fun q:Bool×Int×Bool=>q.2.1) hi
   obtain rfl:p2=r.1.2.2.2:=congrArg (fun q:Bool×Int×Bool=>q.2.2) hi
   have h:=cf h (by rw [hj];rfl);refine(show CG _ _ _ [CP bd,bx (rH bv [(1,aV (j.h 0).1 (j.h 0).2 r.2.kinds.length),(2,aV (j.h 1).1 (j.h 1).2 r.2.first.length)]) 123 b3 r.2,tip gG 42 (j.h 0).1 (j.h 0).2 r.2.kinds,tip cx 3 (j.h 1).1 (j.h 1).2 r.2.first,bx rV 118 b4 (aM b3 0),bx rB 4 b2 r.1.2.1,bx cx 3 b1 r.1.2.2.1,bx rV 118 b (bif r.1.2.2.2 then aM b3 0 else .pointer none)] _ from ?_);refine EE (G' :=[(0,tD ck l),(1,bt ck l),(2,tV (aM b 0)),(3,tV (aM b1 0)),(4,tV (aM b2 0)),(5,tV (aM b4 0)),(6,jV l.Nodes),(9,tD ck l),(10,tD (rH bv [(1,.slice none 0 0),(2,.slice none 0 0)]) (⟨l,[],[]⟩:aG)),(11,tV (aM b3 0)),(12,bt xf l.Nodes),(13,fc (ah) l.Nodes),(14,jV l.Nodes),(15,jV l.Nodes),(16,gq (decide ((l.Nodes.length:Int)<(1:Int)))),(17,gq (decide ((l.Nodes.length:Int)<(1:Int)))),(18,qw (!(decide ((l.Nodes.length:Int)<(1:Int)))) (jV l.Nodes)),(19,qw (!(decide ((l.Nodes.length:Int)<(1:Int)))) (gq (decide ((60:Int)<(l.Nodes.length:Int))))),(20,gq ((decide ((l.Nodes.length:Int)<(1:Int)))||(decide ((60:Int)<(l.Nodes.length:Int))))),(22,tV (aM b3 0))]) ?_ ⟨J,J,J,J,J,J,J,J,J,J,J,J,J,J,J,J,J,J,J,J,aT⟩;refine ak ?_;refine ay (M ?_);refine bz h fun u q_u h=>Qr (O' :=[CP bd,bx (rH bv [(1,aV (j.h 0).1 (j.h 0).2 r.2.kinds.length),(2,aV (j.h 1).1 (j.h 1).2 r.2.first.length)]) 123 b3 r.2,tip gG 42 (j.h 0).1 (j.h 0).2 r.2.kinds,tip cx 3 (j.h 1).1 (j.h 1).2 r.2.first,bx rV 118 b4 (aM b3 0),bx rB 4 b2 r.1.2.1,bx cx 3 b1 r.1.2.2.1,bx rV 118 b (aM b3 0)]) (by rw [show r.1.2.2.2=true from O7 q_u];rfl)<|bE<|BW<|zT 11 J<|j9<|bH 2 J<|cq<|bH 3 J<|dq<|bH 4 J<|bE<|aL<|bE<|aL<|bE<|aL<|A7<|vP ?_;cases so h;exact kP (ts:=[bt bv r.2,cb r.1.2.2.1,gq r.1.2.1]) (rvs:=[.cell 2 118,.cell 3 3,.cell 4 4]) J J ⟨Bu (j:=11) lv J J,fh bA J J J,fh yK J J J,aT⟩

theorem UJ(l:bR){R:(List Int)×Int}(h:sE l=some R):bo bl 27 [tD ck l] (tT [dI R.1,cb R.2]):=by
 refine bo.of Tryz.func27 J J J fun w0 S0=>aw<|zo J (jt J)<|zo J (aU (show aZ _ _ _ mJ from jr))<|zo J (dB)<|au<|aw<|zo J (bm lx J J)<|bz h fun r q_r h=>zo J (aC Vg (Ky _ q_r) ⟨(ht J),aT⟩)<|aE J<|zo J (kG J J)<|zo J (kG J J)<|zo J (kG J J)<|bu J<|bu J<|bu J<|au<|ac<|ac ?_;refine am<|aE J<|zo J (dh (ht J))<|au<|cE h J (fun h=>?_) (fun h=>?_)
 ·refine aw<|zo J (aU (show aZ _ _ _ mJ from jr))<|zo J (dB)<|au<|ak<|M ?_;cases so h;exact co J J J
 ·refine dz<|aw<|aE J<|zo J (GT (ht J))<|zo J (bD oc G9 J J)<|zo J (bm wW J J)<|aE J<|bz h fun e q_e h=>zo J (iQ uw cD J J J q_e)<|zo J (bm cD J J)<|bz h fun r1 q_r1 h=>lY Je (C7 _ q_r1) ⟨(ht J),aT⟩ J fun l1 c=>bu J<|zo J (dB)<|au<|ak<|gV<|cC 2 J<|cC 22 J<|ik 2 J<|aL ?_;cases so h;exact co J J J

theorem UH(l:bR){R:Int×Int}(h:uR l=some R):bo bl 31 [tD ck l] (tT [cb R.1,cb R.2]):=by
 refine bo.of Tryz.func31 J J J fun w0 S0=>aw<|zo J (jt J)<|zo J (dB)<|zo J (dB)<|au<|aw<|zo J (bm lx J J)<|bz h fun r q_r h=>zo J (aC Vg (Ky _ q_r) ⟨(ht J),aT⟩)<|aE J<|zo J (kG J J)<|zo J (kG J J)<|zo J (kG J J)<|bu J<|bu J<|bu J<|au<|ac<|ac ?_;refine am<|aE J<|zo J (dh (ht J))<|au<|cE h J (fun h=>?_) (fun h=>?_)
 ·refine aw<|aE J<|bu J<|zo J (dB)<|au<|ak<|M ?_;cases so h;exact co J J J
 ·refine dz<|aw<|zo J (dB)<|zo J (dB)<|au<|ak ?_;cases so h;exact co J J J

theorem LI(c:Int){R:Bool}(h:vD c=some R):bo bl 172 [tD (rI .i32) c] (gq R):=by
 refine bo.of Tryz.func172 J J J fun w0 S0=>aw<|zo J (ez)<|au<|aw<|aE J<|zo J (cU (ht J) hI)<|aE J<|bX J J (fun hg=>cG J)<|bX J J (fun hg=>g9 (aS J hg) hI)<|zo J (mI J J)<|bu J<|au<|ak ?_;cases so h;exact aF J J

theorem Ri(s:(List jb))(v:jb){R:Int}(h:k6 s v=some R):bo bl 243 [fc (rS) s,tD rS v] (cb R):=by
 refine bo.of Tryz.func243 J J J fun w0 S0=>aw<|zo J (dB)<|au<|ac<|aw<|aE J<|zo J (fW Fe J)<|zo J (bQ hI)<|au<|ax<|br (k:=6) J fun hN=>bB ?_;refine aP (em (Z:=fun ls i=>(s.drop i=ls)∧fE v ls i=some R) (Of:=fun _ i=>[]) (Gf:=fun _ i=>[(0,fc (rS) s),(1,tD rS v),(7,jV s),(8,cb (i:Int))]) (fun i h=>?_) (fun e tl ih i h=>?_) s 0 ⟨J,h⟩) (bg J)
 ·obtain⟨hx,h⟩:=h
  refine aB<|aw<|zo J (ft J J)<|au<|ac<|bP (ht J) (dU hx)<|bp ?_;refine ae (ae (aK ?_));refine aq<|aw<|zo rfl (dB)<|au<|ak ?_;cases so h;exact aF J J
 ·obtain⟨hx,h⟩:=h
  refine aB<|aw<|zo J (ft J J)<|au<|ac<|bO (ht J) (dN hx)<|dz<|ac<|ax<|aw<|aE J<|bu J<|au<|aw<|aE J<|aE J<|aE J<|zo J (iQ Fe A9 J J J (dO hx)) ?_;refine zo J (bm A9 J J)<|zo J (qI (ht J) (ht J))<|au<|cE h J (fun h=>?_) (fun h=>?_)
  ·refine aw<|aE J<|bu J<|au<|ak ?_;refine ay (M (M (ay (M ?_))));cases so h;exact aF J J
  ·refine bk<|an<|aq<|am<|zo rfl (nh (dm hx hN) rfl)<|aE rfl<|aJ ?_;exact be (aP (ih (i+1) ⟨dl hx,h⟩) (bg J))

theorem Rx(s:(List jb))(v:jb){R:Bool}(h:jM s v=some R):bo bl 218 [fc (rS) s,tD rS v] (gq R):=by
 refine bo.of Tryz.func218 J J J fun w0 S0=>aw<|zo J (ez)<|au<|aw<|aE J<|aE J<|bz h fun r q_r h=>zo J (aC Wv (Ri _ _ q_r) ⟨(ht J),(ht J),aT⟩)<|zo J (cU (ht J) hI)<|bu J<|au<|ak ?_;cases so h;exact aF J J

theorem RY(s:jb){R:Bool}(h:wq s=some R):bo bl 173 [tD rS s] (gq R):=by
 refine bo.of Tryz.func173 J J J fun w0 S0=>aw<|zo J (ez)<|au<|aw<|zo J (Gj (r:=vh rS 28) (x:=VW) gm1 gr1 (MX Tryz.underlying255 A9 J SM))<|aE J<|bz h fun r q_r h=>zo J (aC WM (Rx _ _ q_r) ⟨(ht J),(ht J),aT⟩)<|bu J<|au<|ak ?_;cases so h;exact aF J J

theorem RX(s:jb){R:jb}(h:kg s=some R):bo bl 174 [tD rS s] (tD rS R):=by
 unfold kg at h
 split at h
 ·rename_i hl
  cases h
  refine Jk fun w hw=>?_
  have:=Any.strings_ToUpper_any vq upX ⟨s.toArray⟩ w (by rw [Ma];exact hl) hw.1 hw.2
  simp only [List.toList_toArray]at this
  exact this
 ·cases h

theorem RW(c:Int){R:Bool}(h:yx c=some R):bo bl 175 [tD (rI .i32) c] (gq R):=by
 refine bo.of Tryz.func175 J J J fun w0 S0=>aw<|zo J (ez)<|au<|aw<|aE J<|zo J (cU (ht J) hI)<|aE J<|bX J J (fun hg=>cG J)<|bX J J (fun hg=>g9 (aS J hg) hI)<|zo J (mI J J)<|bu J<|au<|ak ?_;cases so h;exact aF J J

theorem Kw(s:jb){R:Bool}(h:ro s=some R):bo bl 96 [tD rS s] (gq R):=by
 refine bo.of Tryz.func96 J J J fun w0 S0=>aw<|zo J (ez)<|au<|ac<|aw<|aE J<|zo J (qI (ht J) hS)<|aE J<|ci J J (fun hg=>cG J)<|ci J J (fun hg=>rP kf (aS J hg))<|ci J J (fun hg=>d5 (aS J hg) hI)<|zo J (nW J J)<|aE J<|bz h fun t q_t h=>ci J J (fun hg=>cG J) ?_
 obtain⟨b,h1t,h0t⟩:=og q_t
 have q_bg:=fun hb=>(h1t hb).1
 refine ci J J (fun hg=>tL kf (aS J hg) hI (q_bg hg))<|ci J J (fun hg=>QS N4 Tryz.underlying21 (aS J hg)) ?_
 obtain⟨r,h1t⟩:=OR (fun hb=>(h1t hb).2)
 have q_rg:=fun hb=>(h1t hb).1
 refine ci J J (fun hg=>aC SU (LI _ (q_rg hg)) ⟨(aS J hg),aT⟩)<|ci J J (fun hg=>dh (aS J hg))<|zo J (dj (ht J) (fun hb=>(aS J (nZ hb))) (fun hb=>(h1t hb).2) h0t)<|aE J<|bz h fun t1 q_t1 h=>ci J J (fun hg=>cG J) ?_
 obtain⟨r1,h1t1,h0t1⟩:=og q_t1
 have q_r1g:=fun hb=>(h1t1 hb).1
 refine ci J J (fun hg=>aC Xl (RX _ (q_r1g hg)) ⟨(aS J hg),aT⟩) ?_
 obtain⟨r2,h1t1⟩:=OR (fun hb=>(h1t1 hb).2)
 have q_r2g:=fun hb=>(h1t1 hb).1
 refine ci J J (fun hg=>aC Xm (RY _ (q_r2g hg)) ⟨(aS J hg),aT⟩)<|zo J (dj (ht J) (fun hb=>(aS J (nZ hb))) (fun hb=>(h1t1 hb).2) h0t1)<|au<|cE h J (fun h=>?_) (fun h=>?_)
 ·refine aw<|zo J (ez)<|au<|ak<|M ?_;cases so h;exact aF J J
 ·refine dz<|ac<|aw<|aE J<|Jo kf (ht J) J fun rg=>au<|ax<|bB ?_;refine aP (Vl (β:=Int×Int) (Z:=fun ls=>pH ls=some R) (Of:=fun ls=>[EL rg s ls]) (Gf:=[(25,tV (aM rg 0))]) (fun ls h ih=>?_) (Ic s) h) (bg J);refine aB<|aw ?_;refine KN (ht J) J (fun hl=>?_) (fun e tl hk=>?_)
  ·subst hl
   refine zo J (GV (ht J))<|au<|ac<|bP (ht J) J<|bp ?_;refine ae (ae (aK ?_));refine aq<|aw<|zo rfl (ez)<|au<|ak<|aL ?_;cases so h;exact aF J J
  ·subst hk
   refine zo J (y4 (i:=0) J (ht J))<|au<|ac<|bO (ht J) J<|dz<|ax<|aw<|zo J (y4 (i:=2) J (ht J))<|bu J<|au<|aw<|aE J<|bz h fun r3 q_r3 h=>zo J (aC Xk (RW _ q_r3) ⟨(ht J),aT⟩)<|zo J (dh (ht J))<|aE J<|bz h fun t2 q_t2 h=>bX J J (fun hg=>cG J) ?_
   obtain⟨r4,h1t2,h0t2⟩:=og q_t2
   have q_r4g:=fun hb=>(h1t2 hb).1
   refine bX J J (fun hg=>aC SU (LI _ (q_r4g hg)) ⟨(aS J hg),aT⟩)<|bX J J (fun hg=>dh (aS J hg))<|zo J (cS (ht J) (fun hb=>(aS J hb)) (fun hb=>(h1t2 hb).2) h0t2)<|aE J<|bX J J (fun hg=>cG J)<|bX J J (fun hg=>cF (aS J hg) hI)<|zo J (mI J J)<|au<|cE h J (fun h=>?_) (fun h=>?_)
   ·refine aw<|zo J (ez)<|au<|ak ?_;refine ay (M (ay (M ?_)));refine aL ?_;cases so h;exact aF J J
   ·refine bk<|an ?_;exact be (aP (ih tl (by simp) h) (bg J))

theorem Rw(s:(List bT))(f:(bT→Option Bool)){R:Int}(h:gw s f=some R):bo bl 225 [fc (dR) s,(kz bl CC qr (fun(x:bT)=>f x))] (cb R):=by
 refine bo.of Tryz.func225 J J J fun w0 S0=>aw<|zo J (dB)<|au<|ac<|aw<|aE J<|zo J (fW sO J)<|zo J (bQ hI)<|au<|ax<|br (k:=6) J fun hN=>bB ?_;refine aP (em (Z:=fun ls i=>(s.drop i=ls)∧cW f ls i=some R) (Of:=fun _ i=>[]) (Gf:=fun _ i=>[(0,fc (dR) s),(1,(kz bl CC qr (fun(x:bT)=>f x))),(7,jV s),(8,cb (i:Int))]) (fun i h=>?_) (fun e tl ih i h=>?_) s 0 ⟨J,h⟩) (bg J)
 ·obtain⟨hx,h⟩:=h
  refine aB<|aw<|zo J (ft J J)<|au<|ac<|bP (ht J) (dU hx)<|bp ?_;refine ae (ae (aK ?_));refine aq<|aw<|zo rfl (dB)<|au<|ak ?_;cases so h;exact aF J J
 ·obtain⟨hx,h⟩:=h
  refine aB<|aw<|zo J (ft J J)<|au<|ac<|bO (ht J) (dN hx)<|dz<|ac<|ax<|aw<|aE J<|bu J<|au<|aw<|aE J<|aE J<|aE J<|zo J (iQ sO pq J J J (dO hx)) ?_;refine zo J (bm pq J J)<|bz h fun r q_r h=>zo J (lS (args:=CC) (res:=JI) (f:=(fun(x:bT)=>f x)) (x:=((e):bT)) (ht J) q_r ⟨(ht J),aT⟩)<|au<|cE h J (fun h=>?_) (fun h=>?_)
  ·refine aw<|aE J<|bu J<|au<|ak ?_;refine ay (M (M (ay (M ?_))));cases so h;exact aF J J
  ·refine bk<|an<|aq<|am<|zo rfl (nh (dm hx hN) rfl)<|aE rfl<|aJ ?_;exact be (aP (ih (i+1) ⟨dl hx,h⟩) (bg J))

theorem Rv(of:(bT→Option jb))(name:jb)(p:bT){R:Bool}(h:fI of name p=some R):bo bl 226 [tD dR p,bt (rT ((kz bl CC yI (fun(x:bT)=>of x)))) (),bt rS name] (gq R):=by
 refine bo.of Tryz.func226 J J J fun w0 S0=>aw<|zo J (jt J)<|zo J (ez)<|au<|ac<|bz h fun r q_r h=>?_
 refine eu (ts:=[_,_,_,_,_,_]) mixed J J
  ⟨ef 1 J J J (Ay VK (ht J)),
  ⟨ef 3 J J J (bm pq J J),
  ⟨dG 5 0 6 1 J J J J (lS (args:=CC) (res:=yI) (f:=(fun(x:bT)=>of x)) (x:=((p):bT)) (ht J) q_r ⟨(ht J),aT⟩),
  ⟨ef 2 J J J (bm A9 J J),
  ⟨dG 7 2 8 3 J J J J (qI (ht J) (ht J)),
  ⟨cT 9 4 J J J (zm J),
  aT⟩⟩⟩⟩⟩⟩ ?_
 refine aq<|ak ?_;cases so h;exact aF J J

theorem RV(l:(List bT))(of:(bT→Option jb))(name:jb){R:Int×Bool}(h:j8 l of name=some R):bo bl 176 [fc (dR) l,(kz bl CC yI (fun(x:bT)=>of x)),tD rS name] (tT [cb R.1,gq R.2]):=by
 refine bo.of Tryz.func176 J J J fun w0 S0=>aw<|zo J (GW (ht J))<|zo J (jt J)<|zo J (dB)<|zo J (ez)<|au<|aw<|aE J<|zo J ((show cH _ _ _ _ ((kz bl CC qr (fun(x:bT)=>(fI of name) x)))from sx (cts:=[bt (rT ((kz bl CC yI (fun(x:bT)=>of x)))) (),bt rS name]) (caps:=[.tmp 4,.tmp 5]) WK ⟨(ht J),(ht J),aT⟩ (fun x y h=>Rv _ _ _ h)))<|bz h fun r q_r h=>zo J (aC WL (Rw _ _ q_r) ⟨(ht J),(ht J),aT⟩)<|bu J<|au<|aw<|aE J<|zo J (GU (ht J) hI)<|aE J<|zo J (cU (ht J) hI) ?_;refine bu J<|bu J<|au<|ak ?_;cases so h;exact co J J J

theorem Ug(l:(List bT))(of:(bT→Option jb)){R:Bool}(h:m5 l of=some R):bo bl 97 [fc (dR) l,(kz bl CC yI (fun(x:bT)=>of x))] (gq R):=by
 refine bo.of Tryz.func97 J J J fun w0 S0=>aw<|zo J (ez)<|au<|ac<|aw<|aE J<|zo J (fW sO J)<|zo J (bQ hI)<|au<|ax<|br (k:=9) J fun hN=>bB ?_;refine aP (em (Z:=fun ls i=>(l.drop i=ls)∧gE l of ls i=some R) (Of:=fun _ i=>[]) (Gf:=fun _ i=>[(0,fc (dR) l),(1,(kz bl CC yI (fun(x:bT)=>of x))),(9,fc (dR) l),(10,jV l),(11,cb (i:Int))]) (fun i h=>?_) (fun e tl ih i h=>?_) l 0 ⟨J,h⟩) (bg J)
 ·obtain⟨hx,h⟩:=h
  refine aB<|aw<|zo J (ft J J)<|au<|ac<|bP (ht J) (dU hx)<|bp ?_;refine ae (ae (aK ?_));refine aq<|aw<|zo rfl (ez)<|au<|ak ?_;cases so h;exact aF J J
 ·obtain⟨hx,h⟩:=h
  refine aB<|aw<|zo J (ft J J)<|au<|ac<|bO (ht J) (dN hx)<|dz<|ac<|ax<|aw<|aE J<|zo J (iQ sO pq J J J (dO hx))<|zo J (bm pq J J)<|bj (r:=dR) (x:=N8) pq (fun _=>qa _) J fun b=>bu J<|ai pq J aj J (ht J) (ht J)<|bh 6 J<|au<|ac ?_;refine am<|aE J<|aE J<|aE J<|zo J (bm pq J J)<|bz h fun r q_r h=>zo J (lS (args:=CC) (res:=yI) (f:=(fun(x:bT)=>of x)) (x:=((e):bT)) (ht J) q_r ⟨(ht J),aT⟩)<|bz h fun r1 q_r1 h=>zo J (aC Xj (RV _ _ _ q_r1) ⟨(ht J),(ht J),(ht J),aT⟩)<|aE J<|zo J (kG J J)<|zo J (kG J J)<|bu J<|bu J<|au<|aw<|aE J<|aE J<|zo J (cF (ht J) (ht J))<|aE J<|bz h fun t q_t h=>ci J J (fun hg=>cG J) ?_;refine ci J J (fun hg=>bm pq J J) ?_
  obtain⟨r2,h1t,h0t⟩:=og q_t
  have q_r2g:=fun hb=>(h1t hb).1
  refine ci J J (fun hg=>lS (args:=CC) (res:=yI) (f:=(fun(x:bT)=>of x)) (x:=((e):bT)) (aS J hg) (q_r2g hg) ⟨(aS J hg),aT⟩) ?_
  obtain⟨r3,h1t⟩:=OR (fun hb=>(h1t hb).2)
  have q_r3g:=fun hb=>(h1t hb).1
  refine ci J J (fun hg=>aC Vd (Kw _ (q_r3g hg)) ⟨(aS J hg),aT⟩)<|ci J J (fun hg=>dh (aS J hg))<|zo J (dj (ht J) (fun hb=>(aS J (nZ hb))) (fun hb=>(h1t hb).2) h0t)<|au<|cE h J (fun h=>?_) (fun h=>?_)
  ·refine aw<|zo J (ez)<|au<|ak ?_;refine ay (M (M (ay (M ?_))));cases so h;exact aF J J
  ·refine bk<|an<|aq<|am<|zo rfl (nh (dm hx hN) rfl)<|aE rfl<|aJ ?_;exact be (aP (ih (i+1) ⟨dl hx,h⟩) (bg J))

theorem Uf(c:bT){R:jb}(h:fO c=some R):bo bl 98 [tD dR c] (tD rS R):=by
 refine bo.of Tryz.func98 J J J fun w0 S0=>aw<|zo J (jt J)<|zo J (aU hS)<|au<|aw<|zo J (bD Ef sI J J)<|zo J (bm A9 J J)<|bu J<|au<|ak ?_;cases so h;exact aF J J

theorem Ue(kind:Int){R:jb}(h:tE kind=some R):bo bl 99 [cb kind] (tD rS R):=by
 refine bo.of Tryz.func99 J J J fun w0 S0=>aw<|zo J (aU hS)<|au<|ac<|aw<|zo J (Gj (r:=(vh wa 3)) (x:=T5) gm0 gr0 (aI VJ J J SM))<|zo J (bQ hI)<|au<|ax<|bB ?_;refine aP (Mk (Z:=fun k i=>(3-i=k)∧kp kind k i=some R) (Of:=fun _ i=>[]) (Gf:=fun _ i=>[(0,cb kind),(5,tD (vh wa 3) T5),(6,cb (i:Int))]) (fun i h=>?_) (fun k1 ih i h=>?_) 3 0 ⟨J,h⟩) (bg J)
 ·obtain⟨hx,h⟩:=h
  refine aB<|aw<|zo J (eO (ht J) hI)<|au<|ac<|bP (ht J) (TW hx)<|bp ?_;refine ae (ae (aK ?_));refine aq<|aw<|zo rfl (aU hS)<|au<|ak ?_;cases so h;exact aF J J
 ·obtain⟨hx,h⟩:=h
  refine aB<|aw<|zo J (eO (ht J) hI)<|au<|ac<|bO (ht J) (TV hx)<|dz<|ac<|ax<|aw<|bz h fun e1 q_e1 h=>zo J (FN Tryz.underlying233 Ol J J (ht J) (ht J) q_e1)<|bj (r:=wa) (x:=(⟨[],(0:Int)⟩:ED)) Ol (fun _=>Qw _) J fun b=>ai Ol J aj J (ht J) (ht J)<|bh 4 J<|au<|aw<|zo J (bD Q3 Np J J) ?_;refine zo J (bm bA J J)<|aE J<|zo J (cw (ht J) (ht J))<|au<|cE h J (fun h=>?_) (fun h=>?_)
  ·refine aw<|zo J (bD Q4 Nq J J)<|zo J (bm A9 J J)<|bu J<|au<|ak ?_;refine ay (M (M (ay (M ?_))));cases so h;exact aF J J
  ·refine bk<|an<|aq<|am<|zo rfl (yu (OT hx (by decide)) (ht rfl) hI)<|aE rfl<|aJ ?_;exact be (aP (ih (i+1) ⟨OS hx,h⟩) (bg J))

theorem Ur(t:ca){R:Int}(h:nv t=some R):bo bl 59 [tD di t] (cb R):=by
 refine bo.of Tryz.func59 J J J fun w0 S0=>aw<|zo J (jt J)<|zo J (dB)<|au<|aw<|zo J (bD BH rr J J)<|zo J (bm A9 J J)<|bz h fun r q_r h=>zo J (aC Vd (Kw _ q_r) ⟨(ht J),aT⟩)<|aE J<|bX J J (fun hg=>bD pn hY J J)<|bX J J (fun hg=>aI yJ J J (aS J hg))<|bX J J (fun hg=>bU sO (aS J hg))<|bX J J (fun hg=>cU (aS J hg) hI)<|zo J (mI J J)<|aE J<|bX J J (fun hg=>bD pn hY J J)<|bX J J (fun hg=>aI yJ J J (aS J hg))<|bX J J (fun hg=>bU sO (aS J hg))<|bX J J (fun hg=>g9 (aS J hg) hI) ?_;refine zo J (mI J J)<|aE J<|bz h fun t1 q_t1 h=>bX J J (fun hg=>bD pn hY J J)<|bX J J (fun hg=>aI yJ J J (aS J hg)) ?_
 obtain⟨r1,h1t1,h0t1⟩:=og q_t1
 have q_r1g:=fun hb=>(h1t1 hb).1
 refine bX J J (fun hg=>aC Yp (Ug _ _ (q_r1g hg)) ⟨(aS J hg),(T4 Yo fun x y h=>Uf _ h),aT⟩)<|zo J (cS (ht J) (fun hb=>(aS J hb)) (fun hb=>(h1t1 hb).2) h0t1)<|bu J<|au<|ac<|aw<|zo J (bD pn hY J J)<|zo J (bm yJ J J)<|zo J (fW sO J)<|zo J (bQ hI)<|au<|ax<|br (k:=29) J fun hN=>bB ?_;refine aP (pN (Z:=fun ls i ok=>(t.Columns.drop i=ls)∧ij t ls ok=some R) (Of:=fun _ i ok=>[]) (Gf:=fun _ i ok=>[(1,bt di t),(3,gq ok),(29,fc (dR) t.Columns),(30,jV t.Columns),(31,cb (i:Int))]) (fun i ok h=>?_) (fun e tl ih i ok h=>?_) t.Columns 0 t1 ⟨J,h⟩) (bg J)
 ·obtain⟨hx,h⟩:=h
  refine aB<|aw<|zo J (ft J J)<|au<|ac<|bP (ht J) (dU hx)<|bp ?_;refine ae (ae (aK ?_));refine aq<|ac<|aw<|zo rfl (bD vo mq rfl rfl)<|zo rfl (bm cD rfl rfl)<|zo rfl (fW dc rfl)<|zo rfl (bQ hI)<|au<|ax<|br (k:=44) J fun hN1=>bB ?_;refine aP (pN (Z:=fun ls1 i1 ok1=>(t.Keys.drop i1=ls1)∧gh t ls1 i1 ok1=some R) (Of:=fun _ i1 ok1=>[]) (Gf:=fun _ i1 ok1=>[(1,bt di t),(3,gq ok1),(44,dI t.Keys),(45,jV t.Keys),(46,cb (i1:Int))]) (fun i1 ok1 h=>?_) (fun e1 tl1 ih1 i1 ok1 h=>?_) t.Keys 0 ok ⟨J,h⟩) (bg J)
  ·obtain⟨hx1,h⟩:=h
   refine aB<|aw<|zo J (ft J J)<|au<|ac<|bP (ht J) (dU hx1)<|bp ?_;refine ae (ae (aK ?_));refine aq<|ac<|aw<|aE rfl<|zo rfl (dh (ht rfl))<|au<|cE h rfl (fun h=>?_) (fun h=>?_)
   ·refine aw<|zo J (dB)<|au<|ak<|M ?_;cases so h;exact aF J J
   ·refine dz<|aw<|zo J (dB)<|au<|ak ?_;cases so h;exact aF J J
  ·obtain⟨hx1,h⟩:=h
   refine aB<|aw<|zo J (ft J J)<|au<|ac<|bO (ht J) (dN hx1)<|dz<|ac<|ax<|aw<|aE J<|zo J (iQ dc bA J J J (dO hx1))<|zo J (bm bA J J)<|bu J<|bu J<|au<|am<|aE J<|aE J ?_;refine bX J J (fun hg=>cG J)<|bX J J (fun hg=>cU (aS J hg) hI)<|zo J (mI J J)<|aE J<|bX J J (fun hg=>cG J)<|bX J J (fun hg=>bD pn hY J J)<|bX J J (fun hg=>aI yJ J J (aS J hg))<|bX J J (fun hg=>bU sO (aS J hg))<|bX J J (fun hg=>eO (aS J hg) (aS J hg))<|zo J (mI J J)<|aE J<|bz h fun t2 q_t2 h=>bX J J (fun hg=>cG J)<|bX J J (fun hg=>cw (aS J hg) hI)<|bX J J (fun hg=>bQ (aS J hg)) ?_
   obtain⟨t3,h1t2,h0t2⟩:=og q_t2
   have q_t3g:=fun hb=>(h1t2 hb).1
   refine ee J J J J (fun hg=>bD vo mq J J)<|ee J J J J (fun hg=>aI cD J J (aS J hg))<|ee J J J J (fun hg=>cG J)<|ee J J J J (fun hg=>dL (aS J hg) hI) ?_
   obtain⟨e2,h1t3,h0t3⟩:=X7 q_t3g
   have q_e2g:=fun hb=>(h1t3 hb).1
   refine ee J J J J (fun hg=>aQ dc bA J (aS J hg) (aS J hg) (q_e2g hg))<|ee J J J J (fun hg=>aI bA J J (aS J hg))<|ee J J J J (fun hg=>cG J)<|ee J J J J (fun hg=>eO (aS J hg) (aS J hg))<|bX J J (fun hg=>dj (aS J hg) (fun hb=>(aS J (tF hg (nZ hb)))) (fun hb=>(h1t3 (tF hg hb)).2) (fun hb=>h0t3 hg hb))<|zo J (cS (ht J) (fun hb=>(aS J hb)) (fun hb=>(h1t2 hb).2) h0t2)<|bu J<|aJ<|an<|aq<|am<|zo rfl (nh (dm hx1 hN1) rfl)<|aE rfl<|aJ ?_;exact be (aP (ih1 (i1+1) t2 ⟨dl hx1,h⟩) (bg J))
 ·obtain⟨hx,h⟩:=h
  refine aB<|aw<|zo J (ft J J)<|au<|ac<|bO (ht J) (dN hx)<|dz<|ac<|ax<|aw<|zo J (iQ sO pq J J J (dO hx))<|zo J (bm pq J J)<|bj (r:=dR) (x:=N8) pq (fun _=>qa _) J fun b=>ai pq J aj J (ht J) (ht J)<|bh 5 J<|au<|am<|aE J<|aE J ?_;refine bz h fun t4 q_t4 h=>bX J J (fun hg=>bD Ha uY J J)<|bX J J (fun hg=>aI bA J J (aS J hg)) ?_
  obtain⟨r2,h1t4,h0t4⟩:=og q_t4
  have q_r2g:=fun hb=>(h1t4 hb).1
  refine bX J J (fun hg=>aC Yn (Ue _ (q_r2g hg)) ⟨(aS J hg),aT⟩)<|bX J J (fun hg=>QQ (aS J hg) hS)<|zo J (cS (ht J) (fun hb=>(aS J hb)) (fun hb=>(h1t4 hb).2) h0t4)<|bu J<|aJ<|an<|aq<|am<|zo rfl (nh (dm hx hN) rfl)<|aE rfl<|aJ ?_;exact be (aP (ih (i+1) t4 ⟨dl hx,h⟩) (bg J))

end Go.Proofs.YtnmjbolollcokaaGreatDoor

