/- cJ of this claim: P4. -/
import Derived.Test.YtnmjbolollcokaaGreatDoorRbT
import Derived.Test.YtnmjbolollcokaaGreatDoorRbP3
set_option linter.all false
namespace Go.Proofs.YtnmjbolollcokaaGreatDoor
open Go
set_option maxRecDepth 100000

theorem GH(b:Nat)(ix:OI)(c:aB){R:Da (Int×Bool) aB}(h:ny c=some R):sZ ba 93 [tV (aF b 0)] (cD b c ix) (fun(x:Int×Bool)=>[bD x.1,eH x.2]) R (cD b):=by
 refine sZ.of Tryz.func93 J J J fun w0 S0=>?_;refine(show CG _ _ _ [bx (rH aZ [(1,aC (ix.h 0).1 (ix.h 0).2 c.kinds.length),(2,aC (ix.h 1).1 (ix.h 1).2 c.first.length)]) 123 b c,bV dG 42 (ix.h 0).1 (ix.h 0).2 c.kinds,bV bM 3 (ix.h 1).1 (ix.h 1).2 c.first] _ from ?_);refine ay<|zo J (Gx (fun _ _ h=>by rw [show _=_ from h];rfl) (ht J))<|zo J (aP hV)<|aw<|ay<|dr<|dr<|dr<|zx (O1:=cD b c ix) (cts:=[bj (rT (tV (aF b 0))) ()]) (caps:=[.tmp 1]) J LB (Fx b ix c) ⟨(ht J),aT⟩ J fun v fp=>bC J<|aw<|aq ?_;cases so h;exact Es J J

theorem B6(l:cF){R:aB×Int×Bool}(h:o6 l=some R):bn ba 55 [tD cq l] (tT [bj aZ R.1,bD R.2.1,eH R.2.2]):=by
 refine ww Tryz.func55 J J J fun w0 S0=>ay<|zo J (gY J)<|bg (r:=rV) (x:= .pointer none) fQ (fun _=>⟨J,J⟩) J fun b=>bg (r:=bM) (x:=(0:Int)) bK (fun _=>J) J fun b1=>bg (r:=rB) (x:=false) Cw (fun _=>J) J fun b2=>aw<|ay<|zo J (bz lD J J)<|zo J (cy (r:=rH aZ [(1,.slice none 0 0),(2,.slice none 0 0)]) (y:=(⟨l,[],[]⟩:aB)) Kc Kn (zH Bk ⟨J,J,aT⟩) (⟨_,_,_,_,_,J,EU yL J J,J,(ht J),J⟩))<|nL (ht J) J fun b3=>bQ true dG 42<|bQ true bM 3 ?_;refine(show RG _ _ _ _ [bV bM 3 none 0 my,bV dG 42 none 0 zM,bx (rH aZ [(1,aC none 0 zM.length),(2,aC none 0 my.length)]) 123 b3 (⟨l,[],[]⟩:aB),bx rB 4 b2 false,bx bM 3 b1 (0:Int),bx rV 118 b (.pointer none)] _ from ?_);refine bg (r:=rV) (x:= .pointer none) fQ (fun _=>⟨J,J⟩) J fun b4=>lz (ig fQ J (oK aj) J (ht J) (hW (ht J) J)) fun i=>?_;refine(show RG _ _ _ _ [bx rV 118 b4 (aF b3 0),bV bM 3 none 0 my,bV dG 42 none 0 zM,bx (rH aZ [(1,aC none 0 zM.length),(2,aC none 0 my.length)]) 123 b3 (⟨l,[],[]⟩:aB),bx rB 4 b2 false,bx bM 3 b1 (0:Int),bx rV 118 b (.pointer none)] _ from ?_);refine aw<|ay<|zo J (cr l8 gv J J)<|zo J (bz k5 J J)<|zo J (gV iq J)<|bC J<|aw<|af<|ay<|aH J<|zo J (eW (ht J) hI)<|aH J<|cZ J J (fun hg=>cL J)<|cZ J J (fun hg=>eX (bq J hg) hI)<|zo J (oB J J)<|aw<|dn h J (fun h=>?_) (fun h=>?_)
 ·refine ay<|zo J (mM fQ (.head _) (ht J))<|lz (EffOK.fr6 (ig fQ J (oK aj) J (ht J) (hW (ht J) J))) fun i1=>?_;refine(show RG _ _ _ _ [bx rV 118 b (aF b3 0),bx rV 118 b4 (aF b3 0),bV bM 3 none 0 my,bV dG 42 none 0 zM,bx (rH aZ [(1,aC none 0 zM.length),(2,aC none 0 my.length)]) 123 b3 (⟨l,[],[]⟩:aB),bx rB 4 b2 false,bx bM 3 b1 (0:Int)] _ from ?_);refine tZ<|ap bK J aj J (ht J) hI<|tZ<|ap Cw J aj J (ht J) hB<|aw<|aq<|M<|eT<|ua<|sa 11 J<|au<|bR 2 J<|bU<|bR 3 J<|bR 4 J<|aU<|aU<|aU<|oz ?_;cases so h;exact jE (ts:=[bj aZ (⟨l,[],[]⟩:aB),bD 0,eH false]) (rvs:=[.cell 2 118,.cell 3 3,.cell 4 4]) J J ⟨tw (j:=11) fQ J J,d4 bK J J J,d4 Cw J J J,aT⟩
 ·refine dJ<|af<|ay<|zo J (mM fQ (.head _) (ht J))<|bN<|dr<|cS<|bI h fun it q_it h=>Cj (cD b3 (⟨l,[],[]⟩:aB) (BQ [(none,0),(none,0)])) _ J Mt (GH b3 (BQ [(none,0),(none,0)]) (⟨l,[],[]⟩:aB) q_it) ⟨(ht J),aT⟩ J fun v fp=>aw<|ax<|bI h fun r q_r h=>?_;refine yd (fun(ix:Bool×Int×Bool)=>[bx rV 118 b4 (aF b3 0),bx rB 4 b2 ix.1,bx bM 3 b1 ix.2.1,bx rV 118 b (bif ix.2.2 then aF b3 0 else .pointer none)]) (fun(ix:Bool×Int×Bool)=>(ix.1,ix.2.1,ix.2.2)) (fun _=> .ret) J (ht J) (false,(0:Int),false) J q_r (fun _=>J) J (fun ix x r1 h lp rec1 _ _ _=>?_) (fun i2 j hi bd=>⟨fun hj=>?_,fun _ hj=>?_⟩)
  ·obtain⟨x1,x2,p⟩:=ix
   replace h:rl x x1 x2 p=some r1:=h
   refine(show CG _ _ _ [lT lp rec1 .ready none,bx rV 118 b4 (aF b3 0),bx rB 4 b2 x1,bx bM 3 b1 x2,bx rV 118 b (bif p then aF b3 0 else .pointer none)] _ from ?_);refine wE (G' :=[(0,tD cq l),(1,bj cq l),(2,tV (aF b 0)),(3,tV (aF b1 0)),(4,tV (aF b2 0)),(5,tV (aF b4 0)),(6,fD l.Nodes),(9,tD cq l),(10,tD (rH aZ [(1,.slice none 0 0),(2,.slice none 0 0)]) (⟨l,[],[]⟩:aB)),(11,tV (aF b3 0)),(12,bj wN l.Nodes),(13,dH (ak) l.Nodes),(14,fD l.Nodes),(15,fD l.Nodes),(16,eH (decide ((l.Nodes.length:Int)<(1:Int)))),(17,eH (decide ((l.Nodes.length:Int)<(1:Int)))),(18,k6 (!(decide ((l.Nodes.length:Int)<(1:Int)))) (fD l.Nodes)),(19,k6 (!(decide ((l.Nodes.length:Int)<(1:Int)))) (eH (decide ((60:Int)<(l.Nodes.length:Int))))),(20,eH ((decide ((l.Nodes.length:Int)<(1:Int)))||(decide ((60:Int)<(l.Nodes.length:Int))))),(22,tV (aF b3 0)),(24,bD x.1),(25,eH x.2)]) ?_ ⟨J,J,J,J,J,J,J,J,J,J,J,J,J,J,J,J,J,J,J,J,J,J,aT⟩;refine ay<|bC J<|aw<|am<|bC J<|aQ<|yj<|ax<|ay<|aH J<|zo J (d8 (ht J))<|aw<|dn h J (fun h=>?_) (fun h=>?_)
   ·refine ay<|zo J (mM fQ (.tail _ (.head _)) (ht J))<|aH J<|lz (EffOK.fr4 (ig fQ J (oK aj) J (ht J) (hW (ht J) J))) fun i3=>?_;refine(show RG _ _ _ _ [bx rV 118 b (aF b3 0),lT lp rec1 .busy none,bx rV 118 b4 (aF b3 0),bx rB 4 b2 x1,bx bM 3 b1 x2] _ from ?_);refine eQ<|ap bK J aj J (ht J) (ht J)<|eQ<|ap Cw J aj J (ht J) hB<|aw<|aq<|aD<|au<|au<|au<|cn<|cn ?_;cases so h;exact s9 0 J (false,x.1,true) J J
   ·refine bE<|an ?_;cases so h;exact zC (x1,x2,p) J J
  ·skip
   obtain⟨x3,x4,p1⟩:=i2
   obtain rfl:x3=r.1.2.1:=congrArg (fun q:Bool×Int×Bool=>q.1) hi
   obtain rfl:x4=r.1.2.2.1:=congrArg (fun q:Bool×Int×Bool=>q.2.1) hi
   obtain rfl:p1=r.1.2.2.2:=congrArg (fun q:Bool×Int×Bool=>q.2.2) hi
   have h:=ct h (by rw [hj];rfl);refine(show AT _ _ _ [u3 bd,bx (rH aZ [(1,aC (j.h 0).1 (j.h 0).2 r.2.kinds.length),(2,aC (j.h 1).1 (j.h 1).2 r.2.first.length)]) 123 b3 r.2,bV dG 42 (j.h 0).1 (j.h 0).2 r.2.kinds,bV bM 3 (j.h 1).1 (j.h 1).2 r.2.first,bx rV 118 b4 (aF b3 0),bx rB 4 b2 r.1.2.1,bx bM 3 b1 r.1.2.2.1,bx rV 118 b (bif r.1.2.2.2 then aF b3 0 else .pointer none)] _ from ?_);refine cd (G' :=[(0,tD cq l),(1,bj cq l),(2,tV (aF b 0)),(3,tV (aF b1 0)),(4,tV (aF b2 0)),(5,tV (aF b4 0)),(6,fD l.Nodes),(9,tD cq l),(10,tD (rH aZ [(1,.slice none 0 0),(2,.slice none 0 0)]) (⟨l,[],[]⟩:aB)),(11,tV (aF b3 0)),(12,bj wN l.Nodes),(13,dH (ak) l.Nodes),(14,fD l.Nodes),(15,fD l.Nodes),(16,eH (decide ((l.Nodes.length:Int)<(1:Int)))),(17,eH (decide ((l.Nodes.length:Int)<(1:Int)))),(18,k6 (!(decide ((l.Nodes.length:Int)<(1:Int)))) (fD l.Nodes)),(19,k6 (!(decide ((l.Nodes.length:Int)<(1:Int)))) (eH (decide ((60:Int)<(l.Nodes.length:Int))))),(20,eH ((decide ((l.Nodes.length:Int)<(1:Int)))||(decide ((60:Int)<(l.Nodes.length:Int))))),(22,tV (aF b3 0))]) ?_ ⟨J,J,J,J,J,J,J,J,J,J,J,J,J,J,J,J,J,J,J,J,aT⟩;refine an<|av<|af<|bI h fun e q_e h=>?_
   refine fg 14 [tc (tV (aF b3 0)),tc (fD l.Nodes),tc (bD (IntKind.i64.wrap ((l.Nodes.length:Int)-(1:Int)))),tc (tV (aF b3 0)),tc (tV (aF b3 0)),tc (tV (aF b3 2)),tc (tO bM (j.h 1).1 (j.h 1).2 r.2.first),tc (fD l.Nodes),tc (bD (IntKind.i64.wrap ((l.Nodes.length:Int)-(1:Int)))),tc (bj bM e),tc (bD e),tc (eH (e==(0:Int))),tc (sj),tc (sj)] [false,false,false,false,false,false,false,false,false,false,false,false,true,true] [fun _=>[u3 bd,bx (rH aZ [(1,aC (j.h 0).1 (j.h 0).2 r.2.kinds.length),(2,aC (j.h 1).1 (j.h 1).2 r.2.first.length)]) 123 b3 r.2,bV dG 42 (j.h 0).1 (j.h 0).2 r.2.kinds,bV bM 3 (j.h 1).1 (j.h 1).2 r.2.first,bx rV 118 b4 (aF b3 0),bx rB 4 b2 r.1.2.1,bx bM 3 b1 r.1.2.2.1,bx rV 118 b (bif r.1.2.2.2 then aF b3 0 else .pointer none)],fun sg=>[bx rV 118 b (aF b3 0),u3 bd,bx (rH aZ [(1,aC (j.h 0).1 (j.h 0).2 r.2.kinds.length),(2,aC (j.h 1).1 (j.h 1).2 r.2.first.length)]) 123 b3 r.2,bV dG 42 (j.h 0).1 (j.h 0).2 r.2.kinds,bV bM 3 (j.h 1).1 (j.h 1).2 r.2.first,bx rV 118 b4 (aF b3 0),bx rB 4 b2 r.1.2.1,bx bM 3 b1 r.1.2.2.1],fun sg=>[bx bM 3 b1 (IntKind.i64.wrap ((l.Nodes.length:Int)-(1:Int))),bx rV 118 b (aF b3 0),u3 bd,bx (rH aZ [(1,aC (j.h 0).1 (j.h 0).2 r.2.kinds.length),(2,aC (j.h 1).1 (j.h 1).2 r.2.first.length)]) 123 b3 r.2,bV dG 42 (j.h 0).1 (j.h 0).2 r.2.kinds,bV bM 3 (j.h 1).1 (j.h 1).2 r.2.first,bx rV 118 b4 (aF b3 0),bx rB 4 b2 r.1.2.1]] J mixed J J J J J
    ⟨⟨[⟨5,fun _=>tV (aF b4 0),none⟩],_,0,0,J,⟨(fun _=>J),aT⟩,J,J,J,J,J,qY (fun sg=>ae J (mM fQ (.tail _ (.tail _ (.tail _ (.tail _ (.head _))))) (ht J)))⟩,
    ⟨⟨[⟨6,fun _=>tD bM (l.Nodes.length:Int),none⟩],_,0,1,J,⟨(fun _=>J),aT⟩,J,J,J,J,J,fun _ sg _ _=>ae J (cL J)⟩,
    ⟨⟨[⟨31,fun _=>tD bM (l.Nodes.length:Int),some 1⟩],_,0,1,J,⟨(fun _=>J),aT⟩,J,J,J,J,J,fun _ sg _ _=>ae J (eV (ht J) hI)⟩,
    ⟨⟨[⟨5,fun _=>tV (aF b4 0),none⟩],_,0,2,J,⟨(fun _=>J),aT⟩,J,J,J,J,J,vC (fun sg=>ae J (mM fQ (.tail _ (.tail _ (.tail _ (.tail _ (.head _))))) (ht J))) (vC (fun sg=>ae J (mM fQ (.tail _ (.tail _ (.tail _ (.tail _ (.tail _ (.head _)))))) (ht J))) (qY (fun sg=>ae J (mM fQ (.tail _ (.tail _ (.tail _ (.tail _ (.tail _ (.tail _ (.head _))))))) (ht J)))))⟩,
    ⟨⟨[⟨33,fun _=>tV (aF b3 0),some 3⟩],_,0,2,J,⟨(fun _=>J),aT⟩,J,J,J,J,J,fun _ sg _ _=>ae J (cN (ht J))⟩,
    ⟨⟨[⟨34,fun _=>tV (aF b3 0),some 4⟩],_,0,2,J,⟨(fun _=>J),aT⟩,J,J,J,J,J,fun _ sg _ _=>ae J (dY 2 nD J J J)⟩,
    ⟨⟨[⟨35,fun _=>tV (aF b3 2),some 5⟩],_,0,2,J,⟨(fun _=>J),aT⟩,J,J,J,J,J,vC (fun sg=>ae J (cX cu J (.tail _ (.head _)) (.tail _ (.tail _ (.tail _ (.head _)))) (ht J))) (vC (fun sg=>ae J (cX cu J (.tail _ (.tail _ (.head _))) (.tail _ (.tail _ (.tail _ (.tail _ (.head _))))) (ht J))) (qY (fun sg=>ae J (cX cu J (.tail _ (.tail _ (.tail _ (.head _)))) (.tail _ (.tail _ (.tail _ (.tail _ (.tail _ (.head _)))))) (ht J)))))⟩,
    ⟨⟨[⟨6,fun _=>tD bM (l.Nodes.length:Int),none⟩],_,0,2,J,⟨(fun _=>J),aT⟩,J,J,J,J,J,fun _ sg _ _=>ae J (cL J)⟩,
    ⟨⟨[⟨37,fun _=>tD bM (l.Nodes.length:Int),some 7⟩],_,0,2,J,⟨(fun _=>J),aT⟩,J,J,J,J,J,fun _ sg _ _=>ae J (eV (ht J) hI)⟩,
    ⟨⟨[⟨36,fun _=>tO bM (j.h 1).1 (j.h 1).2 r.2.first,some 6⟩,⟨38,fun _=>tD bM (IntKind.i64.wrap ((l.Nodes.length:Int)-(1:Int))),some 8⟩],_,0,2,J,⟨(fun _=>J),(fun _=>J),aT⟩,J,J,J,J,J,fun _ sg _ _=>ae J (aO dm bK J (iW (ht J)) (ht J) q_e)⟩,
    ⟨⟨[⟨39,fun _=>bj bM e,some 9⟩],_,0,2,J,⟨(fun _=>J),aT⟩,J,J,J,J,J,fun _ sg _ _=>ae J (bz bK J J)⟩,
    ⟨⟨[⟨40,fun _=>tD bM e,some 10⟩],_,0,2,J,⟨(fun _=>J),aT⟩,J,J,J,J,J,fun _ sg _ _=>ae J (jR J)⟩,
    ⟨⟨[⟨2,fun _=>tV (aF b 0),none⟩,⟨30,fun _=>tV (aF b3 0),some 0⟩],_,J,⟨(fun _=>J),(fun _=>J),aT⟩,J,J,J,fun sg=>bS J (EffOK.fr7 (ig fQ J (oK aj) J (ht J) (hW (ht J) J)))⟩,
    ⟨⟨[⟨3,fun _=>tV (aF b1 0),none⟩,⟨32,fun _=>tD bM (IntKind.i64.wrap ((l.Nodes.length:Int)-(1:Int))),some 2⟩],_,J,⟨(fun _=>J),(fun _=>J),aT⟩,J,J,J,fun sg=>bS J (EffOK.fr7 (ig bK J (oK aj) J (ht J) (ht J)))⟩,
    aT⟩⟩⟩⟩⟩⟩⟩⟩⟩⟩⟩⟩⟩⟩ (fun sg=>?_)
   refine(show RG _ _ _ _ [bx bM 3 b1 (IntKind.i64.wrap ((l.Nodes.length:Int)-(1:Int))),bx rV 118 b (aF b3 0),u3 bd,bx (rH aZ [(1,aC (j.h 0).1 (j.h 0).2 r.2.kinds.length),(2,aC (j.h 1).1 (j.h 1).2 r.2.first.length)]) 123 b3 r.2,bV dG 42 (j.h 0).1 (j.h 0).2 r.2.kinds,bV bM 3 (j.h 1).1 (j.h 1).2 r.2.first,bx rV 118 b4 (aF b3 0),bx rB 4 b2 r.1.2.1] _ from ?_);refine Eg<|ap Cw J aj J (ht J) (ht J)<|aw<|aq<|cn<|ua<|sa 11 J<|au<|bR 2 J<|bU<|bR 3 J<|bR 4 J<|bU<|aU<|bU<|aU<|bU<|aU<|s8<|oz ?_;cases so h;exact jE (ts:=[bj aZ r.2,bD (IntKind.i64.wrap ((l.Nodes.length:Int)-(1:Int))),eH (e==(0:Int))]) (rvs:=[.cell 2 118,.cell 3 3,.cell 4 4]) J J ⟨tw (j:=11) fQ J J,d4 bK J J J,d4 Cw J J J,aT⟩
  ·skip
   obtain⟨x5,x6,p2⟩:=i2
   obtain rfl:x5=r.1.2.1:=congrArg (fun q:Bool×Int×Bool=>q.1) hi
   obtain rfl:x6=r.1.2.2.1:=congrArg (fun q:Bool×Int×Bool=>q.2.1) hi
   obtain rfl:p2=r.1.2.2.2:=congrArg (fun q:Bool×Int×Bool=>q.2.2) hi
   have h:=cf h (by rw [hj];rfl);refine(show CG _ _ _ [u3 bd,bx (rH aZ [(1,aC (j.h 0).1 (j.h 0).2 r.2.kinds.length),(2,aC (j.h 1).1 (j.h 1).2 r.2.first.length)]) 123 b3 r.2,bV dG 42 (j.h 0).1 (j.h 0).2 r.2.kinds,bV bM 3 (j.h 1).1 (j.h 1).2 r.2.first,bx rV 118 b4 (aF b3 0),bx rB 4 b2 r.1.2.1,bx bM 3 b1 r.1.2.2.1,bx rV 118 b (bif r.1.2.2.2 then aF b3 0 else .pointer none)] _ from ?_);refine wE (G' :=[(0,tD cq l),(1,bj cq l),(2,tV (aF b 0)),(3,tV (aF b1 0)),(4,tV (aF b2 0)),(5,tV (aF b4 0)),(6,fD l.Nodes),(9,tD cq l),(10,tD (rH aZ [(1,.slice none 0 0),(2,.slice none 0 0)]) (⟨l,[],[]⟩:aB)),(11,tV (aF b3 0)),(12,bj wN l.Nodes),(13,dH (ak) l.Nodes),(14,fD l.Nodes),(15,fD l.Nodes),(16,eH (decide ((l.Nodes.length:Int)<(1:Int)))),(17,eH (decide ((l.Nodes.length:Int)<(1:Int)))),(18,k6 (!(decide ((l.Nodes.length:Int)<(1:Int)))) (fD l.Nodes)),(19,k6 (!(decide ((l.Nodes.length:Int)<(1:Int)))) (eH (decide ((60:Int)<(l.Nodes.length:Int))))),(20,eH ((decide ((l.Nodes.length:Int)<(1:Int)))||(decide ((60:Int)<(l.Nodes.length:Int))))),(22,tV (aF b3 0))]) ?_ ⟨J,J,J,J,J,J,J,J,J,J,J,J,J,J,J,J,J,J,J,J,aT⟩;refine aq ?_;refine aD (M ?_);refine bI h fun u q_u h=>F6 (O' :=[u3 bd,bx (rH aZ [(1,aC (j.h 0).1 (j.h 0).2 r.2.kinds.length),(2,aC (j.h 1).1 (j.h 1).2 r.2.first.length)]) 123 b3 r.2,bV dG 42 (j.h 0).1 (j.h 0).2 r.2.kinds,bV bM 3 (j.h 1).1 (j.h 1).2 r.2.first,bx rV 118 b4 (aF b3 0),bx rB 4 b2 r.1.2.1,bx bM 3 b1 r.1.2.2.1,bx rV 118 b (aF b3 0)]) (by rw [show r.1.2.2.2=true from Ff q_u];rfl)<|bU<|ua<|sa 11 J<|eT<|bR 2 J<|cb<|bR 3 J<|cn<|bR 4 J<|bU<|aU<|bU<|aU<|bU<|aU<|s8<|oz ?_;cases so h;exact jE (ts:=[bj aZ r.2,bD r.1.2.2.1,eH r.1.2.1]) (rvs:=[.cell 2 118,.cell 3 3,.cell 4 4]) J J ⟨tw (j:=11) fQ J J,d4 bK J J J,d4 Cw J J J,aT⟩

theorem Ji(l:cF){R:(List Int)×Int}(h:uv l=some R):bn ba 27 [tD cq l] (tT [dX R.1,bD R.2]):=by
 refine bn.of Tryz.func27 J J J fun w0 S0=>ay<|zo J (gY J)<|zo J (aP (show aG _ _ _ lQ from ib))<|zo J (d9)<|aw<|ay<|zo J (bz lD J J)<|bI h fun r q_r h=>zo J (aK JG (B6 _ q_r) ⟨(ht J),aT⟩)<|aH J<|zo J (iU J J)<|zo J (iU J J)<|zo J (iU J J)<|bC J<|bC J<|bC J<|aw<|af<|af ?_;refine am<|aH J<|zo J (d8 (ht J))<|aw<|dn h J (fun h=>?_) (fun h=>?_)
 ·refine ay<|zo J (aP (show aG _ _ _ lQ from ib))<|zo J (d9)<|aw<|aq<|M ?_;cases so h;exact cv J J J
 ·refine dJ<|ay<|aH J<|zo J (yT (ht J))<|zo J (cr iQ zc J J)<|zo J (bz pE J J)<|aH J<|bI h fun e q_e h=>zo J (km ne cu J J J q_e)<|zo J (bz cu J J)<|bI h fun r1 q_r1 h=>iu AO (vk _ q_r1) ⟨(ht J),aT⟩ J fun l1 c=>bC J<|zo J (d9)<|aw<|aq<|fY<|cB 2 J<|cB 22 J<|gS 2 J<|aU ?_;cases so h;exact cv J J J

theorem Jg(l:cF){R:Int×Int}(h:uw l=some R):bn ba 31 [tD cq l] (tT [bD R.1,bD R.2]):=by
 refine bn.of Tryz.func31 J J J fun w0 S0=>ay<|zo J (gY J)<|zo J (d9)<|zo J (d9)<|aw<|ay<|zo J (bz lD J J)<|bI h fun r q_r h=>zo J (aK JG (B6 _ q_r) ⟨(ht J),aT⟩)<|aH J<|zo J (iU J J)<|zo J (iU J J)<|zo J (iU J J)<|bC J<|bC J<|bC J<|aw<|af<|af ?_;refine am<|aH J<|zo J (d8 (ht J))<|aw<|dn h J (fun h=>?_) (fun h=>?_)
 ·refine ay<|aH J<|bC J<|zo J (d9)<|aw<|aq<|M ?_;cases so h;exact cv J J J
 ·refine dJ<|ay<|zo J (d9)<|zo J (d9)<|aw<|aq ?_;cases so h;exact cv J J J

theorem CT(c:Int){R:Bool}(h:tJ c=some R):bn ba 172 [tD (rI .i32) c] (eH R):=by
 refine bn.of Tryz.func172 J J J fun w0 S0=>ay<|zo J (eZ)<|aw<|ay<|aH J<|zo J (dN (ht J) hI)<|aH J<|co J J (fun hg=>cL J)<|co J J (fun hg=>je (bq J hg) hI)<|zo J (mv J J)<|bC J<|aw<|aq ?_;cases so h;exact aW J J

theorem GN(s:(List jn))(v:jn){R:Int}(h:i8 s v=some R):bn ba 243 [dH (rS) s,tD rS v] (bD R):=by
 refine bn.of Tryz.func243 J J J fun w0 S0=>ay<|zo J (d9)<|aw<|af<|ay<|aH J<|zo J (gV Tryz.underlying254 J)<|zo J (bA hI)<|aw<|ax<|bf (k:=6) J fun hN=>bF ?_;refine aS (dS (Z:=fun ls i=>(s.drop i=ls)∧eI v ls i=some R) (Of:=fun _ i=>[]) (Gf:=fun _ i=>[(0,dH (rS) s),(1,tD rS v),(7,fD s),(8,bD (i:Int))]) (fun i h=>?_) (fun e tl ih i h=>?_) s 0 ⟨J,h⟩) (bl J)
 ·obtain⟨hx,h⟩:=h
  refine aA<|ay<|zo J (ej J J)<|aw<|af<|bu (ht J) (c8 hx)<|bk ?_;refine ac (ac (aM ?_));refine av<|ay<|zo rfl (d9)<|aw<|aq ?_;cases so h;exact aW J J
 ·obtain⟨hx,h⟩:=h
  refine aA<|ay<|zo J (ej J J)<|aw<|af<|bt (ht J) (cY hx)<|dJ<|af<|ax<|ay<|aH J<|bC J<|aw<|ay<|aH J<|aH J<|aH J<|zo J (km Tryz.underlying254 Dp J J J (c0 hx)) ?_;refine zo J (bz Dp J J)<|zo J (vf (ht J) (ht J))<|aw<|dn h J (fun h=>?_) (fun h=>?_)
  ·refine ay<|aH J<|bC J<|aw<|aq ?_;refine aD (M (M (aD (M ?_))));cases so h;exact aW J J
  ·refine bE<|an<|av<|am<|zo rfl (jQ (cI hx hN) rfl)<|aH rfl<|aQ ?_;exact be (aS (ih (i+1) ⟨cH hx,h⟩) (bl J))

theorem GX(s:(List jn))(v:jn){R:Bool}(h:gW s v=some R):bn ba 218 [dH (rS) s,tD rS v] (eH R):=by
 refine bn.of Tryz.func218 J J J fun w0 S0=>ay<|zo J (eZ)<|aw<|ay<|aH J<|aH J<|bI h fun r q_r h=>zo J (aK KN (GN _ _ q_r) ⟨(ht J),(ht J),aT⟩)<|zo J (dN (ht J) hI)<|bC J<|aw<|aq ?_;cases so h;exact aW J J

theorem Hf(s:jn){R:Bool}(h:we s=some R):bn ba 173 [tD rS s] (eH R):=by
 refine bn.of Tryz.func173 J J J fun w0 S0=>ay<|zo J (eZ)<|aw<|ay<|zo J (yc (r:=ol rS 28) (x:=Md) gm1 gr1 (DF Tryz.underlying255 Dp J HK))<|aH J<|bI h fun r q_r h=>zo J (aK KY (GX _ _ q_r) ⟨(ht J),(ht J),aT⟩)<|bC J<|aw<|aq ?_;cases so h;exact aW J J

theorem He(s:jn){R:jn}(h:lS s=some R):bn ba 174 [tD rS s] (tD rS R):=by
 unfold lS at h
 split at h
 ·rename_i hl
  cases h
  refine AV fun w hw=>?_
  have:=Any.strings_ToUpper_any n7 upX ⟨s.toArray⟩ w (by rw [C0];exact hl) hw.1 hw.2
  simp only [List.toList_toArray]at this
  exact this
 ·cases h

theorem Hd(c:Int){R:Bool}(h:xM c=some R):bn ba 175 [tD (rI .i32) c] (eH R):=by
 refine bn.of Tryz.func175 J J J fun w0 S0=>ay<|zo J (eZ)<|aw<|ay<|aH J<|zo J (dN (ht J) hI)<|aH J<|co J J (fun hg=>cL J)<|co J J (fun hg=>je (bq J hg) hI)<|zo J (mv J J)<|bC J<|aw<|aq ?_;cases so h;exact aW J J

theorem B4(s:jn){R:Bool}(h:o8 s=some R):bn ba 96 [tD rS s] (eH R):=by
 refine bn.of Tryz.func96 J J J fun w0 S0=>ay<|zo J (eZ)<|aw<|af<|ay<|aH J<|zo J (vf (ht J) hS)<|aH J<|cZ J J (fun hg=>cL J)<|cZ J J (fun hg=>yU ip (bq J hg))<|cZ J J (fun hg=>eX (bq J hg) hI)<|zo J (oB J J)<|aH J<|bI h fun t q_t h=>cZ J J (fun hg=>cL J) ?_
 obtain⟨b,h1t,h0t⟩:=og q_t
 have q_bg:=fun hb=>(h1t hb).1
 refine cZ J J (fun hg=>DK ip (bq J hg) hI (q_bg hg))<|cZ J J (fun hg=>Gw Tryz.underlying5 Tryz.underlying21 (bq J hg)) ?_
 obtain⟨r,h1t⟩:=JP (fun hb=>(h1t hb).2)
 have q_rg:=fun hb=>(h1t hb).1
 refine cZ J J (fun hg=>aK HR (CT _ (q_rg hg)) ⟨(bq J hg),aT⟩)<|cZ J J (fun hg=>d8 (bq J hg))<|zo J (ez (ht J) (fun hb=>(bq J (pG hb))) (fun hb=>(h1t hb).2) h0t)<|aH J<|bI h fun t1 q_t1 h=>cZ J J (fun hg=>cL J) ?_
 obtain⟨r1,h1t1,h0t1⟩:=og q_t1
 have q_r1g:=fun hb=>(h1t1 hb).1
 refine cZ J J (fun hg=>aK Ln (He _ (q_r1g hg)) ⟨(bq J hg),aT⟩) ?_
 obtain⟨r2,h1t1⟩:=JP (fun hb=>(h1t1 hb).2)
 have q_r2g:=fun hb=>(h1t1 hb).1
 refine cZ J J (fun hg=>aK Lo (Hf _ (q_r2g hg)) ⟨(bq J hg),aT⟩)<|zo J (ez (ht J) (fun hb=>(bq J (pG hb))) (fun hb=>(h1t1 hb).2) h0t1)<|aw<|dn h J (fun h=>?_) (fun h=>?_)
 ·refine ay<|zo J (eZ)<|aw<|aq<|M ?_;cases so h;exact aW J J
 ·refine dJ<|af<|ay<|aH J<|AX ip (ht J) J fun rg=>aw<|ax<|bF ?_;refine aS (JM (β:=Int×Int) (Z:=fun ls=>nX ls=some R) (Of:=fun ls=>[wQ rg s ls]) (Gf:=[(25,tV (aF rg 0))]) (fun ls h ih=>?_) (EW s) h) (bl J);refine aA<|ay ?_;refine Ci (ht J) J (fun hl=>?_) (fun e tl hk=>?_)
  ·subst hl
   refine zo J (yV (ht J))<|aw<|af<|bu (ht J) J<|bk ?_;refine ac (ac (aM ?_));refine av<|ay<|zo rfl (eZ)<|aw<|aq<|aU ?_;cases so h;exact aW J J
  ·subst hk
   refine zo J (rk (i:=0) J (ht J))<|aw<|af<|bt (ht J) J<|dJ<|ax<|ay<|zo J (rk (i:=2) J (ht J))<|bC J<|aw<|ay<|aH J<|bI h fun r3 q_r3 h=>zo J (aK Lm (Hd _ q_r3) ⟨(ht J),aT⟩)<|zo J (d8 (ht J))<|aH J<|bI h fun t2 q_t2 h=>co J J (fun hg=>cL J) ?_
   obtain⟨r4,h1t2,h0t2⟩:=og q_t2
   have q_r4g:=fun hb=>(h1t2 hb).1
   refine co J J (fun hg=>aK HR (CT _ (q_r4g hg)) ⟨(bq J hg),aT⟩)<|co J J (fun hg=>d8 (bq J hg))<|zo J (dZ (ht J) (fun hb=>(bq J hb)) (fun hb=>(h1t2 hb).2) h0t2)<|aH J<|co J J (fun hg=>cL J)<|co J J (fun hg=>dq (bq J hg) hI)<|zo J (mv J J)<|aw<|dn h J (fun h=>?_) (fun h=>?_)
   ·refine ay<|zo J (eZ)<|aw<|aq ?_;refine aD (M (aD (M ?_)));refine aU ?_;cases so h;exact aW J J
   ·refine bE<|an ?_;exact be (aS (ih tl (by simp) h) (bl J))

theorem GW(s:(List bX))(f:(bX→Option Bool)){R:Int}(h:eJ s f=some R):bn ba 225 [dH (cR) s,(eN ba uU jX (fun(x:bX)=>f x))] (bD R):=by
 refine bn.of Tryz.func225 J J J fun w0 S0=>ay<|zo J (d9)<|aw<|af<|ay<|aH J<|zo J (gV tg J)<|zo J (bA hI)<|aw<|ax<|bf (k:=6) J fun hN=>bF ?_;refine aS (dS (Z:=fun ls i=>(s.drop i=ls)∧dp f ls i=some R) (Of:=fun _ i=>[]) (Gf:=fun _ i=>[(0,dH (cR) s),(1,(eN ba uU jX (fun(x:bX)=>f x))),(7,fD s),(8,bD (i:Int))]) (fun i h=>?_) (fun e tl ih i h=>?_) s 0 ⟨J,h⟩) (bl J)
 ·obtain⟨hx,h⟩:=h
  refine aA<|ay<|zo J (ej J J)<|aw<|af<|bu (ht J) (c8 hx)<|bk ?_;refine ac (ac (aM ?_));refine av<|ay<|zo rfl (d9)<|aw<|aq ?_;cases so h;exact aW J J
 ·obtain⟨hx,h⟩:=h
  refine aA<|ay<|zo J (ej J J)<|aw<|af<|bt (ht J) (cY hx)<|dJ<|af<|ax<|ay<|aH J<|bC J<|aw<|ay<|aH J<|aH J<|aH J<|zo J (km tg nh J J J (c0 hx)) ?_;refine zo J (bz nh J J)<|bI h fun r q_r h=>zo J (gc (args:=uU) (res:=Bn) (f:=(fun(x:bX)=>f x)) (x:=((e):bX)) (ht J) q_r ⟨(ht J),aT⟩)<|aw<|dn h J (fun h=>?_) (fun h=>?_)
  ·refine ay<|aH J<|bC J<|aw<|aq ?_;refine aD (M (M (aD (M ?_))));cases so h;exact aW J J
  ·refine bE<|an<|av<|am<|zo rfl (jQ (cI hx hN) rfl)<|aH rfl<|aQ ?_;exact be (aS (ih (i+1) ⟨cH hx,h⟩) (bl J))

theorem GV(of:(bX→Option jn))(name:jn)(p:bX){R:Bool}(h:fT of name p=some R):bn ba 226 [tD cR p,bj (rT ((eN ba uU qX (fun(x:bX)=>of x)))) (),bj rS name] (eH R):=by
 refine bn.of Tryz.func226 J J J fun w0 S0=>ay<|zo J (gY J)<|zo J (eZ)<|aw<|af<|bI h fun r q_r h=>?_
 refine eR (ts:=[_,_,_,_,_,_]) mixed J J
  ⟨ek 1 J J J (sx Ka (ht J)),
  ⟨ek 3 J J J (bz nh J J),
  ⟨eo 5 0 6 1 J J J J (gc (args:=uU) (res:=qX) (f:=(fun(x:bX)=>of x)) (x:=((p):bX)) (ht J) q_r ⟨(ht J),aT⟩),
  ⟨ek 2 J J J (bz Dp J J),
  ⟨eo 7 2 8 3 J J J J (vf (ht J) (ht J)),
  ⟨c9 9 4 J J J (vB J),
  aT⟩⟩⟩⟩⟩⟩ ?_
 refine av<|aq ?_;cases so h;exact aW J J

theorem Hc(l:(List bX))(of:(bX→Option jn))(name:jn){R:Int×Bool}(h:kg l of name=some R):bn ba 176 [dH (cR) l,(eN ba uU qX (fun(x:bX)=>of x)),tD rS name] (tT [bD R.1,eH R.2]):=by
 refine bn.of Tryz.func176 J J J fun w0 S0=>ay<|zo J (yW (ht J))<|zo J (gY J)<|zo J (d9)<|zo J (eZ)<|aw<|ay<|aH J<|zo J ((show bH _ _ _ _ ((eN ba uU jX (fun(x:bX)=>(fT of name) x)))from jd (cts:=[bj (rT ((eN ba uU qX (fun(x:bX)=>of x)))) (),bj rS name]) (caps:=[.tmp 4,.tmp 5]) KW ⟨(ht J),(ht J),aT⟩ (fun x y h=>GV _ _ _ h)))<|bI h fun r q_r h=>zo J (aK KX (GW _ _ q_r) ⟨(ht J),(ht J),aT⟩)<|bC J<|aw<|ay<|aH J<|zo J (ve (ht J) hI)<|aH J<|zo J (dN (ht J) hI) ?_;refine bC J<|bC J<|aw<|aq ?_;cases so h;exact cv J J J

theorem IZ(l:(List bX))(of:(bX→Option jn)){R:Bool}(h:kf l of=some R):bn ba 97 [dH (cR) l,(eN ba uU qX (fun(x:bX)=>of x))] (eH R):=by
 refine bn.of Tryz.func97 J J J fun w0 S0=>ay<|zo J (eZ)<|aw<|af<|ay<|aH J<|zo J (gV tg J)<|zo J (bA hI)<|aw<|ax<|bf (k:=9) J fun hN=>bF ?_;refine aS (dS (Z:=fun ls i=>(l.drop i=ls)∧fL l of ls i=some R) (Of:=fun _ i=>[]) (Gf:=fun _ i=>[(0,dH (cR) l),(1,(eN ba uU qX (fun(x:bX)=>of x))),(9,dH (cR) l),(10,fD l),(11,bD (i:Int))]) (fun i h=>?_) (fun e tl ih i h=>?_) l 0 ⟨J,h⟩) (bl J)
 ·obtain⟨hx,h⟩:=h
  refine aA<|ay<|zo J (ej J J)<|aw<|af<|bu (ht J) (c8 hx)<|bk ?_;refine ac (ac (aM ?_));refine av<|ay<|zo rfl (eZ)<|aw<|aq ?_;cases so h;exact aW J J
 ·obtain⟨hx,h⟩:=h
  refine aA<|ay<|zo J (ej J J)<|aw<|af<|bt (ht J) (cY hx)<|dJ<|af<|ax<|ay<|aH J<|zo J (km tg nh J J J (c0 hx))<|zo J (bz nh J J)<|bg (r:=cR) (x:=H1) nh (fun _=>mp _) J fun b=>bC J<|ap nh J aj J (ht J) (ht J)<|bc 6 J<|aw<|af ?_;refine am<|aH J<|aH J<|aH J<|zo J (bz nh J J)<|bI h fun r q_r h=>zo J (gc (args:=uU) (res:=qX) (f:=(fun(x:bX)=>of x)) (x:=((e):bX)) (ht J) q_r ⟨(ht J),aT⟩)<|bI h fun r1 q_r1 h=>zo J (aK Ll (Hc _ _ _ q_r1) ⟨(ht J),(ht J),(ht J),aT⟩)<|aH J<|zo J (iU J J)<|zo J (iU J J)<|bC J<|bC J<|aw<|ay<|aH J<|aH J<|zo J (dq (ht J) (ht J))<|aH J<|bI h fun t q_t h=>cZ J J (fun hg=>cL J) ?_;refine cZ J J (fun hg=>bz nh J J) ?_
  obtain⟨r2,h1t,h0t⟩:=og q_t
  have q_r2g:=fun hb=>(h1t hb).1
  refine cZ J J (fun hg=>gc (args:=uU) (res:=qX) (f:=(fun(x:bX)=>of x)) (x:=((e):bX)) (bq J hg) (q_r2g hg) ⟨(bq J hg),aT⟩) ?_
  obtain⟨r3,h1t⟩:=JP (fun hb=>(h1t hb).2)
  have q_r3g:=fun hb=>(h1t hb).1
  refine cZ J J (fun hg=>aK JD (B4 _ (q_r3g hg)) ⟨(bq J hg),aT⟩)<|cZ J J (fun hg=>d8 (bq J hg))<|zo J (ez (ht J) (fun hb=>(bq J (pG hb))) (fun hb=>(h1t hb).2) h0t)<|aw<|dn h J (fun h=>?_) (fun h=>?_)
  ·refine ay<|zo J (eZ)<|aw<|aq ?_;refine aD (M (M (aD (M ?_))));cases so h;exact aW J J
  ·refine bE<|an<|av<|am<|zo rfl (jQ (cI hx hN) rfl)<|aH rfl<|aQ ?_;exact be (aS (ih (i+1) ⟨cH hx,h⟩) (bl J))

theorem IY(c:bX){R:jn}(h:mZ c=some R):bn ba 98 [tD cR c] (tD rS R):=by
 refine bn.of Tryz.func98 J J J fun w0 S0=>ay<|zo J (gY J)<|zo J (aP hS)<|aw<|ay<|zo J (cr IU AH J J)<|zo J (bz Dp J J)<|bC J<|aw<|aq ?_;cases so h;exact aW J J

theorem IX(kind:Int){R:jn}(h:sX kind=some R):bn ba 99 [bD kind] (tD rS R):=by
 refine bn.of Tryz.func99 J J J fun w0 S0=>ay<|zo J (aP hS)<|aw<|af<|ay<|zo J (yc (r:=(ol oO 3)) (x:=LU) gm0 gr0 (bp J8 J J HK))<|zo J (bA hI)<|aw<|ax<|bF ?_;refine aS (C7 (Z:=fun k i=>(3-i=k)∧ma kind k i=some R) (Of:=fun _ i=>[]) (Gf:=fun _ i=>[(0,bD kind),(5,tD (ol oO 3) LU),(6,bD (i:Int))]) (fun i h=>?_) (fun k1 ih i h=>?_) 3 0 ⟨J,h⟩) (bl J)
 ·obtain⟨hx,h⟩:=h
  refine aA<|ay<|zo J (eW (ht J) hI)<|aw<|af<|bu (ht J) (IH hx)<|bk ?_;refine ac (ac (aM ?_));refine av<|ay<|zo rfl (aP hS)<|aw<|aq ?_;cases so h;exact aW J J
 ·obtain⟨hx,h⟩:=h
  refine aA<|ay<|zo J (eW (ht J) hI)<|aw<|af<|bt (ht J) (IG hx)<|dJ<|af<|ax<|ay<|bI h fun e1 q_e1 h=>zo J (xE Tryz.underlying233 EK J J (ht J) (ht J) q_e1)<|bg (r:=oO) (x:=(⟨[],(0:Int)⟩:wD)) EK (fun _=>Gd _) J fun b=>ap EK J aj J (ht J) (ht J)<|bc 4 J<|aw<|ay<|zo J (cr GE DW J J) ?_;refine zo J (bz bK J J)<|aH J<|zo J (cj (ht J) (ht J))<|aw<|dn h J (fun h=>?_) (fun h=>?_)
  ·refine ay<|zo J (cr GF DX J J)<|zo J (bz Dp J J)<|bC J<|aw<|aq ?_;refine aD (M (M (aD (M ?_))));cases so h;exact aW J J
  ·refine bE<|an<|av<|am<|zo rfl (qN (Fb hx (by decide)) (ht rfl) hI)<|aH rfl<|aQ ?_;exact be (aS (ih (i+1) ⟨Fa hx,h⟩) (bl J))

theorem I6(t:cc){R:Int}(h:m3 t=some R):bn ba 59 [tD cW t] (bD R):=by
 refine bn.of Tryz.func59 J J J fun w0 S0=>ay<|zo J (gY J)<|zo J (d9)<|aw<|ay<|zo J (cr Fk wg J J)<|zo J (bz Dp J J)<|bI h fun r q_r h=>zo J (aK JD (B4 _ q_r) ⟨(ht J),aT⟩)<|aH J<|co J J (fun hg=>cr tN lj J J)<|co J J (fun hg=>bp Dq J J (bq J hg))<|co J J (fun hg=>ca tg (bq J hg))<|co J J (fun hg=>dN (bq J hg) hI)<|zo J (mv J J)<|aH J<|co J J (fun hg=>cr tN lj J J)<|co J J (fun hg=>bp Dq J J (bq J hg))<|co J J (fun hg=>ca tg (bq J hg))<|co J J (fun hg=>je (bq J hg) hI) ?_;refine zo J (mv J J)<|aH J<|bI h fun t1 q_t1 h=>co J J (fun hg=>cr tN lj J J)<|co J J (fun hg=>bp Dq J J (bq J hg)) ?_
 obtain⟨r1,h1t1,h0t1⟩:=og q_t1
 have q_r1g:=fun hb=>(h1t1 hb).1
 refine co J J (fun hg=>aK Ms (IZ _ _ (q_r1g hg)) ⟨(bq J hg),(IK Mr fun x y h=>IY _ h),aT⟩)<|zo J (dZ (ht J) (fun hb=>(bq J hb)) (fun hb=>(h1t1 hb).2) h0t1)<|bC J<|aw<|af<|ay<|zo J (cr tN lj J J)<|zo J (bz Dq J J)<|zo J (gV tg J)<|zo J (bA hI)<|aw<|ax<|bf (k:=29) J fun hN=>bF ?_;refine aS (iv (Z:=fun ls i ok=>(t.Columns.drop i=ls)∧iO t ls ok=some R) (Of:=fun _ i ok=>[]) (Gf:=fun _ i ok=>[(1,bj cW t),(3,eH ok),(29,dH (cR) t.Columns),(30,fD t.Columns),(31,bD (i:Int))]) (fun i ok h=>?_) (fun e tl ih i ok h=>?_) t.Columns 0 t1 ⟨J,h⟩) (bl J)
 ·obtain⟨hx,h⟩:=h
  refine aA<|ay<|zo J (ej J J)<|aw<|af<|bu (ht J) (c8 hx)<|bk ?_;refine ac (ac (aM ?_));refine av<|af<|ay<|zo rfl (cr B0 rQ rfl rfl)<|zo rfl (bz cu rfl rfl)<|zo rfl (gV dm rfl)<|zo rfl (bA hI)<|aw<|ax<|bf (k:=44) J fun hN1=>bF ?_;refine aS (iv (Z:=fun ls1 i1 ok1=>(t.Keys.drop i1=ls1)∧iN t ls1 i1 ok1=some R) (Of:=fun _ i1 ok1=>[]) (Gf:=fun _ i1 ok1=>[(1,bj cW t),(3,eH ok1),(44,dX t.Keys),(45,fD t.Keys),(46,bD (i1:Int))]) (fun i1 ok1 h=>?_) (fun e1 tl1 ih1 i1 ok1 h=>?_) t.Keys 0 ok ⟨J,h⟩) (bl J)
  ·obtain⟨hx1,h⟩:=h
   refine aA<|ay<|zo J (ej J J)<|aw<|af<|bu (ht J) (c8 hx1)<|bk ?_;refine ac (ac (aM ?_));refine av<|af<|ay<|aH rfl<|zo rfl (d8 (ht rfl))<|aw<|dn h rfl (fun h=>?_) (fun h=>?_)
   ·refine ay<|zo J (d9)<|aw<|aq<|M ?_;cases so h;exact aW J J
   ·refine dJ<|ay<|zo J (d9)<|aw<|aq ?_;cases so h;exact aW J J
  ·obtain⟨hx1,h⟩:=h
   refine aA<|ay<|zo J (ej J J)<|aw<|af<|bt (ht J) (cY hx1)<|dJ<|af<|ax<|ay<|aH J<|zo J (km dm bK J J J (c0 hx1))<|zo J (bz bK J J)<|bC J<|bC J<|aw<|am<|aH J<|aH J ?_;refine co J J (fun hg=>cL J)<|co J J (fun hg=>dN (bq J hg) hI)<|zo J (mv J J)<|aH J<|co J J (fun hg=>cL J)<|co J J (fun hg=>cr tN lj J J)<|co J J (fun hg=>bp Dq J J (bq J hg))<|co J J (fun hg=>ca tg (bq J hg))<|co J J (fun hg=>eW (bq J hg) (bq J hg))<|zo J (mv J J)<|aH J<|bI h fun t2 q_t2 h=>co J J (fun hg=>cL J)<|co J J (fun hg=>cj (bq J hg) hI)<|co J J (fun hg=>bA (bq J hg)) ?_
   obtain⟨t3,h1t2,h0t2⟩:=og q_t2
   have q_t3g:=fun hb=>(h1t2 hb).1
   refine ep J J J J (fun hg=>cr B0 rQ J J)<|ep J J J J (fun hg=>bp cu J J (bq J hg))<|ep J J J J (fun hg=>cL J)<|ep J J J J (fun hg=>eV (bq J hg) hI) ?_
   obtain⟨e2,h1t3,h0t3⟩:=og3 q_t3g
   have q_e2g:=fun hb=>(h1t3 hb).1
   refine ep J J J J (fun hg=>aO dm bK J (bq J hg) (bq J hg) (q_e2g hg))<|ep J J J J (fun hg=>bp bK J J (bq J hg))<|ep J J J J (fun hg=>cL J)<|ep J J J J (fun hg=>eW (bq J hg) (bq J hg))<|co J J (fun hg=>ez (bq J hg) (fun hb=>(bq J (w9 hg (pG hb)))) (fun hb=>(h1t3 (w9 hg hb)).2) (fun hb=>h0t3 hg hb))<|zo J (dZ (ht J) (fun hb=>(bq J hb)) (fun hb=>(h1t2 hb).2) h0t2)<|bC J<|aQ<|an<|av<|am<|zo rfl (jQ (cI hx1 hN1) rfl)<|aH rfl<|aQ ?_;exact be (aS (ih1 (i1+1) t2 ⟨cH hx1,h⟩) (bl J))
 ·obtain⟨hx,h⟩:=h
  refine aA<|ay<|zo J (ej J J)<|aw<|af<|bt (ht J) (cY hx)<|dJ<|af<|ax<|ay<|zo J (km tg nh J J J (c0 hx))<|zo J (bz nh J J)<|bg (r:=cR) (x:=H1) nh (fun _=>mp _) J fun b=>ap nh J aj J (ht J) (ht J)<|bc 5 J<|aw<|am<|aH J<|aH J ?_;refine bI h fun t4 q_t4 h=>co J J (fun hg=>cr Fj uz J J)<|co J J (fun hg=>bp bK J J (bq J hg)) ?_
  obtain⟨r2,h1t4,h0t4⟩:=og q_t4
  have q_r2g:=fun hb=>(h1t4 hb).1
  refine co J J (fun hg=>aK Mq (IX _ (q_r2g hg)) ⟨(bq J hg),aT⟩)<|co J J (fun hg=>Gu (bq J hg) hS)<|zo J (dZ (ht J) (fun hb=>(bq J hb)) (fun hb=>(h1t4 hb).2) h0t4)<|bC J<|aQ<|an<|av<|am<|zo rfl (jQ (cI hx hN) rfl)<|aH rfl<|aQ ?_;exact be (aS (ih (i+1) t4 ⟨cH hx,h⟩) (bl J))

end Go.Proofs.YtnmjbolollcokaaGreatDoor

