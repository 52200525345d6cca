/- cP of this claim: P4. -/
import Derived.Test.YtfhhakidodmdfaaGreatDoorJgT
import Derived.Test.YtfhhakidodmdfaaGreatDoorJgP3
set_option linter.all false
namespace Go.Proofs.YtfhhakidodmdfaaGreatDoor
open Go
set_option maxRecDepth 100000

theorem Sm(b:Nat)(ix:OI)(c:aE){R:Pr (Int×Bool) aE}(h:qg c=some R):BL aQ 126 [tV (aN b 0)] (dw b c ix) (fun(x:Int×Bool)=>[bM x.1,iR x.2]) R (dw b):=by
 refine BL.of Tryz.func126 J J J fun w0 S0=>?_;refine(show CG _ _ _ [bx (rH bn [(1,aR (ix.h 0).1 (ix.h 0).2 c.kinds.length),(2,aR (ix.h 1).1 (ix.h 1).2 c.first.length)]) 115 b c,dT nP 39 (ix.h 0).1 (ix.h 0).2 c.kinds,dT cd 3 (ix.h 1).1 (ix.h 1).2 c.first] _ from ?_);refine aw<|zo J (Ub (fun _ _ h=>by rw [show _=_ from h];rfl) (ht J))<|zo J (aM hV)<|av<|aw<|hT<|hT<|hT<|Ji (O1:=dw b c ix) (cts:=[bK (rT (tV (aN b 0))) ()]) (caps:=[.tmp 1]) J abx (Sb b ix c) ⟨(ht J),aT⟩ J fun v fp=>bp J<|av<|am ?_;cases so h;exact QF J J

theorem Ng(l:bc){R:aE×Int×Bool}(h:px l=some R):aX aQ 72 [tD bP l] (tT [bK bn R.1,bM R.2.1,iR R.2.2]):=by
 refine Lu Tryz.func72 J J J fun w0 S0=>aw<|zo J (jm J)<|aW (r:=rV) (x:= .pointer none) kP (fun _=>⟨J,J⟩) J fun b=>aW (r:=cd) (x:=(0:Int)) cx (fun _=>J) J fun b1=>aW (r:=rB) (x:=false) H4 (fun _=>J) J fun b2=>av<|aw<|zo J (bB hY J J)<|zo J (bU (r:=rH bn [(1,.slice none 0 0),(2,.slice none 0 0)]) (y:=(⟨l,[],[]⟩:aE)) ZG Z7 (zH LS ⟨J,J,aT⟩) (⟨_,_,_,_,_,J,Wu Ib J J,J,(ht J),J⟩))<|wE (ht J) J fun b3=>bQ true nP 39<|bQ true cd 3 ?_;refine(show RG _ _ _ _ [dT cd 3 none 0 u7,dT nP 39 none 0 Pu,bx (rH bn [(1,aR none 0 Pu.length),(2,aR none 0 u7.length)]) 115 b3 (⟨l,[],[]⟩:aE),bx rB 4 b2 false,bx cd 3 b1 (0:Int),bx rV 109 b (.pointer none)] _ from ?_);refine aW (r:=rV) (x:= .pointer none) kP (fun _=>⟨J,J⟩) J fun b4=>wC (oq kP J (zX an) J (ht J) (hW (ht J) J)) fun i=>?_;refine(show RG _ _ _ _ [bx rV 109 b4 (aN b3 0),dT cd 3 none 0 u7,dT nP 39 none 0 Pu,bx (rH bn [(1,aR none 0 Pu.length),(2,aR none 0 u7.length)]) 115 b3 (⟨l,[],[]⟩:aE),bx rB 4 b2 false,bx cd 3 b1 (0:Int),bx rV 109 b (.pointer none)] _ from ?_);refine av<|aw<|zo J (df lZ kH J J)<|zo J (bB vc J J)<|zo J (jg qE J)<|bp J<|av<|ah<|aw<|aG J<|zo J (gi (ht J) hI)<|aG J<|gz J J (fun hg=>dl J)<|gz J J (fun hg=>gv (bN J hg) hI)<|zo J (xo J J)<|av<|cU h J (fun h=>?_) (fun h=>?_)
 ·refine aw<|zo J (tA kP (.head _) (ht J))<|wC (EffOK.fr6 (oq kP J (zX an) J (ht J) (hW (ht J) J))) fun i1=>?_;refine(show RG _ _ _ _ [bx rV 109 b (aN b3 0),bx rV 109 b4 (aN b3 0),dT cd 3 none 0 u7,dT nP 39 none 0 Pu,bx (rH bn [(1,aR none 0 Pu.length),(2,aR none 0 u7.length)]) 115 b3 (⟨l,[],[]⟩:aE),bx rB 4 b2 false,bx cd 3 b1 (0:Int)] _ from ?_);refine yU<|ap cx J an J (ht J) hI<|yU<|ap H4 J an J (ht J) hB<|av<|am<|ae<|vI<|CK<|AA 11 J<|aK<|bk 2 J<|bD<|bk 3 J<|bk 4 J<|ba<|ba<|ba<|rP ?_;cases so h;exact bR (ts:=[bK bn (⟨l,[],[]⟩:aE),bM 0,iR false]) (rvs:=[.cell 2 109,.cell 3 3,.cell 4 4]) J J ⟨Ca (j:=11) kP J J,bq cx J J J,bq H4 J J J,aT⟩
 ·refine dS<|ah<|aw<|zo J (tA kP (.head _) (ht J))<|bF<|hT<|kq<|bC h fun it q_it h=>Ny (dw b3 (⟨l,[],[]⟩:aE) (Wx [(none,0),(none,0)])) _ J ab3 (Sm b3 (Wx [(none,0),(none,0)]) (⟨l,[],[]⟩:aE) q_it) ⟨(ht J),aT⟩ J fun v fp=>av<|aA<|bC h fun r q_r h=>?_;refine HF (fun(ix:Bool×Int×Bool)=>[bx rV 109 b4 (aN b3 0),bx rB 4 b2 ix.1,bx cd 3 b1 ix.2.1,bx rV 109 b (bif ix.2.2 then aN b3 0 else .pointer none)]) (fun(ix:Bool×Int×Bool)=>(ix.1,ix.2.1,ix.2.2)) (fun _=> .ret) J (ht J) (false,(0:Int),false) J q_r (fun _=>J) J (fun ix x r1 h lp rec1 _ _ _=>?_) (fun i2 j hi bd=>⟨fun hj=>?_,fun _ hj=>?_⟩)
  ·obtain⟨x1,x2,p⟩:=ix
   replace h:o3 x x1 x2 p=some r1:=h
   refine(show CG _ _ _ [rC lp rec1 .ready none,bx rV 109 b4 (aN b3 0),bx rB 4 b2 x1,bx cd 3 b1 x2,bx rV 109 b (bif p then aN b3 0 else .pointer none)] _ from ?_);refine FZ (G' :=[(0,tD bP l),(1,bK bP l),(2,tV (aN b 0)),(3,tV (aN b1 0)),(4,tV (aN b2 0)),(5,tV (aN b4 0)),(6,jz l.Nodes),(9,tD bP l),(10,tD (rH bn [(1,.slice none 0 0),(2,.slice none 0 0)]) (⟨l,[],[]⟩:aE)),(11,tV (aN b3 0)),(12,bK (fV aF) l.Nodes),(13,ca (aF) l.Nodes),(14,jz l.Nodes),(15,jz l.Nodes),(16,iR (decide ((l.Nodes.length:Int)<(1:Int)))),(17,iR (decide ((l.Nodes.length:Int)<(1:Int)))),(18,po (!(decide ((l.Nodes.length:Int)<(1:Int)))) (jz l.Nodes)),(19,po (!(decide ((l.Nodes.length:Int)<(1:Int)))) (iR (decide ((60:Int)<(l.Nodes.length:Int))))),(20,iR ((decide ((l.Nodes.length:Int)<(1:Int)))||(decide ((60:Int)<(l.Nodes.length:Int))))),(22,tV (aN b3 0)),(24,bM x.1),(25,iR x.2)]) ?_ ⟨J,J,J,J,J,J,J,J,J,J,J,J,J,J,J,J,J,J,J,J,J,J,aT⟩;refine aw<|bp J<|av<|au<|bp J<|aP<|HM<|aA<|aw<|aG J<|zo J (gh (ht J))<|av<|cU h J (fun h=>?_) (fun h=>?_)
   ·refine aw<|zo J (tA kP (.tail _ (.head _)) (ht J))<|aG J<|wC (EffOK.fr4 (oq kP J (zX an) J (ht J) (hW (ht J) J))) fun i3=>?_;refine(show RG _ _ _ _ [bx rV 109 b (aN b3 0),rC lp rec1 .busy none,bx rV 109 b4 (aN b3 0),bx rB 4 b2 x1,bx cd 3 b1 x2] _ from ?_);refine yV<|ap cx J an J (ht J) (ht J)<|yV<|ap H4 J an J (ht J) hB<|av<|am<|aD<|aK<|aK<|aK<|fh<|fh ?_;cases so h;exact BT 0 J (false,x.1,true) J J
   ·refine bA<|aq ?_;cases so h;exact wG (x1,x2,p) J J
  ·skip
   obtain⟨x3,x4,p1⟩:=i2
   obtain rfl:x3=r.1.2.1:=congrArg (fun q:Bool×Int×Bool=>q.1) hi
   obtain rfl:x4=r.1.2.2.1:=congrArg (fun q:Bool×Int×Bool=>q.2.1) hi
   obtain rfl:p1=r.1.2.2.2:=congrArg (fun q:Bool×Int×Bool=>q.2.2) hi
   have h:=ct h (by rw [hj];rfl);refine(show AT _ _ _ [BC bd,bx (rH bn [(1,aR (j.h 0).1 (j.h 0).2 r.2.kinds.length),(2,aR (j.h 1).1 (j.h 1).2 r.2.first.length)]) 115 b3 r.2,dT nP 39 (j.h 0).1 (j.h 0).2 r.2.kinds,dT cd 3 (j.h 1).1 (j.h 1).2 r.2.first,bx rV 109 b4 (aN b3 0),bx rB 4 b2 r.1.2.1,bx cd 3 b1 r.1.2.2.1,bx rV 109 b (bif r.1.2.2.2 then aN b3 0 else .pointer none)] _ from ?_);refine cw (G' :=[(0,tD bP l),(1,bK bP l),(2,tV (aN b 0)),(3,tV (aN b1 0)),(4,tV (aN b2 0)),(5,tV (aN b4 0)),(6,jz l.Nodes),(9,tD bP l),(10,tD (rH bn [(1,.slice none 0 0),(2,.slice none 0 0)]) (⟨l,[],[]⟩:aE)),(11,tV (aN b3 0)),(12,bK (fV aF) l.Nodes),(13,ca (aF) l.Nodes),(14,jz l.Nodes),(15,jz l.Nodes),(16,iR (decide ((l.Nodes.length:Int)<(1:Int)))),(17,iR (decide ((l.Nodes.length:Int)<(1:Int)))),(18,po (!(decide ((l.Nodes.length:Int)<(1:Int)))) (jz l.Nodes)),(19,po (!(decide ((l.Nodes.length:Int)<(1:Int)))) (iR (decide ((60:Int)<(l.Nodes.length:Int))))),(20,iR ((decide ((l.Nodes.length:Int)<(1:Int)))||(decide ((60:Int)<(l.Nodes.length:Int))))),(22,tV (aN b3 0))]) ?_ ⟨J,J,J,J,J,J,J,J,J,J,J,J,J,J,J,J,J,J,J,J,aT⟩;refine aq<|ax<|ah<|bC h fun e q_e h=>?_
   refine o9 14 [tc (tV (aN b3 0)),tc (jz l.Nodes),tc (bM (IntKind.i64.wrap ((l.Nodes.length:Int)-(1:Int)))),tc (tV (aN b3 0)),tc (tV (aN b3 0)),tc (tV (aN b3 2)),tc (tO cd (j.h 1).1 (j.h 1).2 r.2.first),tc (jz l.Nodes),tc (bM (IntKind.i64.wrap ((l.Nodes.length:Int)-(1:Int)))),tc (bK cd e),tc (bM e),tc (iR (e==(0:Int))),tc (Dq),tc (Dq)] [false,false,false,false,false,false,false,false,false,false,false,false,true,true] [fun _=>[BC bd,bx (rH bn [(1,aR (j.h 0).1 (j.h 0).2 r.2.kinds.length),(2,aR (j.h 1).1 (j.h 1).2 r.2.first.length)]) 115 b3 r.2,dT nP 39 (j.h 0).1 (j.h 0).2 r.2.kinds,dT cd 3 (j.h 1).1 (j.h 1).2 r.2.first,bx rV 109 b4 (aN b3 0),bx rB 4 b2 r.1.2.1,bx cd 3 b1 r.1.2.2.1,bx rV 109 b (bif r.1.2.2.2 then aN b3 0 else .pointer none)],fun sg=>[bx rV 109 b (aN b3 0),BC bd,bx (rH bn [(1,aR (j.h 0).1 (j.h 0).2 r.2.kinds.length),(2,aR (j.h 1).1 (j.h 1).2 r.2.first.length)]) 115 b3 r.2,dT nP 39 (j.h 0).1 (j.h 0).2 r.2.kinds,dT cd 3 (j.h 1).1 (j.h 1).2 r.2.first,bx rV 109 b4 (aN b3 0),bx rB 4 b2 r.1.2.1,bx cd 3 b1 r.1.2.2.1],fun sg=>[bx cd 3 b1 (IntKind.i64.wrap ((l.Nodes.length:Int)-(1:Int))),bx rV 109 b (aN b3 0),BC bd,bx (rH bn [(1,aR (j.h 0).1 (j.h 0).2 r.2.kinds.length),(2,aR (j.h 1).1 (j.h 1).2 r.2.first.length)]) 115 b3 r.2,dT nP 39 (j.h 0).1 (j.h 0).2 r.2.kinds,dT cd 3 (j.h 1).1 (j.h 1).2 r.2.first,bx rV 109 b4 (aN b3 0),bx rB 4 b2 r.1.2.1]] J mixed J J J J J
    ⟨⟨[⟨5,fun _=>tV (aN b4 0),none⟩],_,0,0,J,⟨(fun _=>J),aT⟩,J,J,J,J,J,zS (fun sg=>ay J (tA kP (.tail _ (.tail _ (.tail _ (.tail _ (.head _))))) (ht J)))⟩,
    ⟨⟨[⟨6,fun _=>tD cd (l.Nodes.length:Int),none⟩],_,0,1,J,⟨(fun _=>J),aT⟩,J,J,J,J,J,fun _ sg _ _=>ay J (dl J)⟩,
    ⟨⟨[⟨31,fun _=>tD cd (l.Nodes.length:Int),some 1⟩],_,0,1,J,⟨(fun _=>J),aT⟩,J,J,J,J,J,fun _ sg _ _=>ay J (iQ (ht J) hI)⟩,
    ⟨⟨[⟨5,fun _=>tV (aN b4 0),none⟩],_,0,2,J,⟨(fun _=>J),aT⟩,J,J,J,J,J,F6 (fun sg=>ay J (tA kP (.tail _ (.tail _ (.tail _ (.tail _ (.head _))))) (ht J))) (F6 (fun sg=>ay J (tA kP (.tail _ (.tail _ (.tail _ (.tail _ (.tail _ (.head _)))))) (ht J))) (zS (fun sg=>ay J (tA kP (.tail _ (.tail _ (.tail _ (.tail _ (.tail _ (.tail _ (.head _))))))) (ht J)))))⟩,
    ⟨⟨[⟨33,fun _=>tV (aN b3 0),some 3⟩],_,0,2,J,⟨(fun _=>J),aT⟩,J,J,J,J,J,fun _ sg _ _=>ay J (dB (ht J))⟩,
    ⟨⟨[⟨34,fun _=>tV (aN b3 0),some 4⟩],_,0,2,J,⟨(fun _=>J),aT⟩,J,J,J,J,J,fun _ sg _ _=>ay J (jN 2 uD J J J)⟩,
    ⟨⟨[⟨35,fun _=>tV (aN b3 2),some 5⟩],_,0,2,J,⟨(fun _=>J),aT⟩,J,J,J,J,J,F6 (fun sg=>ay J (dd d9 J (.tail _ (.head _)) (.tail _ (.tail _ (.tail _ (.head _)))) (ht J))) (F6 (fun sg=>ay J (dd d9 J (.tail _ (.tail _ (.head _))) (.tail _ (.tail _ (.tail _ (.tail _ (.head _))))) (ht J))) (zS (fun sg=>ay J (dd d9 J (.tail _ (.tail _ (.tail _ (.head _)))) (.tail _ (.tail _ (.tail _ (.tail _ (.tail _ (.head _)))))) (ht J)))))⟩,
    ⟨⟨[⟨6,fun _=>tD cd (l.Nodes.length:Int),none⟩],_,0,2,J,⟨(fun _=>J),aT⟩,J,J,J,J,J,fun _ sg _ _=>ay J (dl J)⟩,
    ⟨⟨[⟨37,fun _=>tD cd (l.Nodes.length:Int),some 7⟩],_,0,2,J,⟨(fun _=>J),aT⟩,J,J,J,J,J,fun _ sg _ _=>ay J (iQ (ht J) hI)⟩,
    ⟨⟨[⟨36,fun _=>tO cd (j.h 1).1 (j.h 1).2 r.2.first,some 6⟩,⟨38,fun _=>tD cd (IntKind.i64.wrap ((l.Nodes.length:Int)-(1:Int))),some 8⟩],_,0,2,J,⟨(fun _=>J),(fun _=>J),aT⟩,J,J,J,J,J,fun _ sg _ _=>ay J (br gT cx J (kz (ht J)) (ht J) q_e)⟩,
    ⟨⟨[⟨39,fun _=>bK cd e,some 9⟩],_,0,2,J,⟨(fun _=>J),aT⟩,J,J,J,J,J,fun _ sg _ _=>ay J (bB cx J J)⟩,
    ⟨⟨[⟨40,fun _=>tD cd e,some 10⟩],_,0,2,J,⟨(fun _=>J),aT⟩,J,J,J,J,J,fun _ sg _ _=>ay J (nI J)⟩,
    ⟨⟨[⟨2,fun _=>tV (aN b 0),none⟩,⟨30,fun _=>tV (aN b3 0),some 0⟩],_,J,⟨(fun _=>J),(fun _=>J),aT⟩,J,J,J,fun sg=>ei J (EffOK.fr7 (oq kP J (zX an) J (ht J) (hW (ht J) J)))⟩,
    ⟨⟨[⟨3,fun _=>tV (aN b1 0),none⟩,⟨32,fun _=>tD cd (IntKind.i64.wrap ((l.Nodes.length:Int)-(1:Int))),some 2⟩],_,J,⟨(fun _=>J),(fun _=>J),aT⟩,J,J,J,fun sg=>ei J (EffOK.fr7 (oq cx J (zX an) J (ht J) (ht J)))⟩,
    aT⟩⟩⟩⟩⟩⟩⟩⟩⟩⟩⟩⟩⟩⟩ (fun sg=>?_)
   refine(show RG _ _ _ _ [bx cd 3 b1 (IntKind.i64.wrap ((l.Nodes.length:Int)-(1:Int))),bx rV 109 b (aN b3 0),BC bd,bx (rH bn [(1,aR (j.h 0).1 (j.h 0).2 r.2.kinds.length),(2,aR (j.h 1).1 (j.h 1).2 r.2.first.length)]) 115 b3 r.2,dT nP 39 (j.h 0).1 (j.h 0).2 r.2.kinds,dT cd 3 (j.h 1).1 (j.h 1).2 r.2.first,bx rV 109 b4 (aN b3 0),bx rB 4 b2 r.1.2.1] _ from ?_);refine Qw<|ap H4 J an J (ht J) (ht J)<|av<|am<|fh<|CK<|AA 11 J<|aK<|bk 2 J<|bD<|bk 3 J<|bk 4 J<|bD<|ba<|bD<|ba<|bD<|ba<|BS<|rP ?_;cases so h;exact bR (ts:=[bK bn r.2,bM (IntKind.i64.wrap ((l.Nodes.length:Int)-(1:Int))),iR (e==(0:Int))]) (rvs:=[.cell 2 109,.cell 3 3,.cell 4 4]) J J ⟨Ca (j:=11) kP J J,bq cx J J J,bq H4 J J J,aT⟩
  ·skip
   obtain⟨x5,x6,p2⟩:=i2
   obtain rfl:x5=r.1.2.1:=congrArg (fun q:Bool×Int×Bool=>q.1) hi
   obtain rfl:x6=r.1.2.2.1:=congrArg (fun q:Bool×Int×Bool=>q.2.1) hi
   obtain rfl:p2=r.1.2.2.2:=congrArg (fun q:Bool×Int×Bool=>q.2.2) hi
   have h:=cf h (by rw [hj];rfl);refine(show CG _ _ _ [BC bd,bx (rH bn [(1,aR (j.h 0).1 (j.h 0).2 r.2.kinds.length),(2,aR (j.h 1).1 (j.h 1).2 r.2.first.length)]) 115 b3 r.2,dT nP 39 (j.h 0).1 (j.h 0).2 r.2.kinds,dT cd 3 (j.h 1).1 (j.h 1).2 r.2.first,bx rV 109 b4 (aN b3 0),bx rB 4 b2 r.1.2.1,bx cd 3 b1 r.1.2.2.1,bx rV 109 b (bif r.1.2.2.2 then aN b3 0 else .pointer none)] _ from ?_);refine FZ (G' :=[(0,tD bP l),(1,bK bP l),(2,tV (aN b 0)),(3,tV (aN b1 0)),(4,tV (aN b2 0)),(5,tV (aN b4 0)),(6,jz l.Nodes),(9,tD bP l),(10,tD (rH bn [(1,.slice none 0 0),(2,.slice none 0 0)]) (⟨l,[],[]⟩:aE)),(11,tV (aN b3 0)),(12,bK (fV aF) l.Nodes),(13,ca (aF) l.Nodes),(14,jz l.Nodes),(15,jz l.Nodes),(16,iR (decide ((l.Nodes.length:Int)<(1:Int)))),(17,iR (decide ((l.Nodes.length:Int)<(1:Int)))),(18,po (!(decide ((l.Nodes.length:Int)<(1:Int)))) (jz l.Nodes)),(19,po (!(decide ((l.Nodes.length:Int)<(1:Int)))) (iR (decide ((60:Int)<(l.Nodes.length:Int))))),(20,iR ((decide ((l.Nodes.length:Int)<(1:Int)))||(decide ((60:Int)<(l.Nodes.length:Int))))),(22,tV (aN b3 0))]) ?_ ⟨J,J,J,J,J,J,J,J,J,J,J,J,J,J,J,J,J,J,J,J,aT⟩;refine am ?_;refine aD (ae ?_);refine bC h fun u q_u h=>Ti (O' :=[BC bd,bx (rH bn [(1,aR (j.h 0).1 (j.h 0).2 r.2.kinds.length),(2,aR (j.h 1).1 (j.h 1).2 r.2.first.length)]) 115 b3 r.2,dT nP 39 (j.h 0).1 (j.h 0).2 r.2.kinds,dT cd 3 (j.h 1).1 (j.h 1).2 r.2.first,bx rV 109 b4 (aN b3 0),bx rB 4 b2 r.1.2.1,bx cd 3 b1 r.1.2.2.1,bx rV 109 b (aN b3 0)]) (by rw [show r.1.2.2.2=true from RH q_u];rfl)<|bD<|CK<|AA 11 J<|vI<|bk 2 J<|HK<|bk 3 J<|fh<|bk 4 J<|bD<|ba<|bD<|ba<|bD<|ba<|BS<|rP ?_;cases so h;exact bR (ts:=[bK bn r.2,bM r.1.2.2.1,iR r.1.2.1]) (rvs:=[.cell 2 109,.cell 3 3,.cell 4 4]) J J ⟨Ca (j:=11) kP J J,bq cx J J J,bq H4 J J J,aT⟩

theorem IU(l:bc){R:Int×Int}(h:mp l=some R):aX aQ 50 [tD bP l] (tT [bM R.1,bM R.2]):=by
 refine aX.of Tryz.func50 J J J fun w0 S0=>aw<|zo J (jm J)<|zo J (cD)<|zo J (cD)<|av<|aw<|zo J (bB hY J J)<|bC h fun r q_r h=>zo J (aC Y7 (Ng _ q_r) ⟨(ht J),aT⟩)<|aG J<|zo J (gp J J)<|zo J (gp J J)<|zo J (gp J J)<|bp J<|bp J<|bp J<|av<|ah<|ah ?_;refine au<|aG J<|zo J (gh (ht J))<|av<|cU h J (fun h=>?_) (fun h=>?_)
 ·refine aw<|aG J<|bp J<|zo J (cD)<|av<|am<|ae ?_;cases so h;exact cC J J J
 ·refine dS<|aw<|zo J (cD)<|zo J (cD)<|av<|am ?_;cases so h;exact cC J J J

theorem Yv(rows:(List (List ac)))(kinds:(List Int)){R:Bool}(h:rJ rows kinds=some R):aX aQ 61 [ca (cY) rows,mv kinds] (iR R):=by
 refine aX.of Tryz.func61 J J J fun w0 S0=>aw<|zo J (jL)<|av<|ah<|aw<|aG J<|zo J (jg jF J)<|zo J (gv (ht J) hI)<|av<|cU h J (fun h=>?_) (fun h=>?_)
 ·refine aw<|zo J (jL)<|av<|am<|ae ?_;cases so h;exact aJ J J
 ·refine dS<|ah<|aw<|aG J<|zo J (jg jF J)<|zo J (bI hI)<|av<|aA<|be (k:=12) J fun hN=>bL ?_;refine aU (eI (Z:=fun ls i=>(rows.drop i=ls)∧mg kinds ls=some R) (Of:=fun _ i=>[]) (Gf:=fun _ i=>[(1,mv kinds),(12,ca (cY) rows),(13,jz rows),(14,bM (i:Int))]) (fun i h=>?_) (fun e tl ih i h=>?_) rows 0 ⟨J,h⟩) (bu J)
  ·obtain⟨hx,h⟩:=h
   refine aB<|aw<|zo J (fM J J)<|av<|ah<|bz (ht J) (du hx)<|bv ?_;refine ai (ai (aO ?_));refine ax<|aw<|zo rfl (jL)<|av<|am ?_;cases so h;exact aJ J J
  ·obtain⟨hx,h⟩:=h
   refine aB<|aw<|zo J (fM J J)<|av<|ah<|bw (ht J) (di hx)<|dS<|ah<|aA<|aw<|zo J (my jF dW J J J (da hx))<|zo J (bB dW J J)<|bp J<|av<|ah<|aw<|aG J<|zo J (jg jh J) ?_;refine aG J<|zo J (jg gT J)<|zo J (fe (ht J) (ht J))<|av<|cU h J (fun h=>?_) (fun h=>?_)
   ·refine aw<|zo J (jL)<|av<|am ?_;refine ae (aD (ae (ae (aD (ae ?_)))));cases so h;exact aJ J J
   ·refine dS<|aw<|aG J<|zo J (jg jh J)<|zo J (bI hI)<|av<|aA<|be (k:=23) J fun hN1=>bL ?_;refine aU (eI (Z:=fun ls1 i1=>(e.drop i1=ls1)∧mf kinds (mg kinds tl) ls1 i1=some R) (Of:=fun _ i1=>[]) (Gf:=fun _ i1=>[(1,mv kinds),(12,ca (cY) rows),(13,jz rows),(14,bM (i:Int)),(23,ca (af) e),(24,jz e),(25,bM (i1:Int))]) (fun i1 h=>?_) (fun e1 tl1 ih1 i1 h=>?_) e 0 ⟨J,h⟩) (bu J)
    ·obtain⟨hx1,h⟩:=h
     refine aB<|aw<|zo J (fM J J)<|av<|ah<|bz (ht J) (du hx1)<|bv ?_;refine ai (ai (aO ?_));refine aq<|ax<|au<|zo rfl (mz (cM hx hN) rfl)<|aG rfl<|aP ?_;exact bm (aU (ih (i+1) ⟨cL hx,h⟩) (bu J))
    ·obtain⟨hx1,h⟩:=h
     refine aB<|aw<|zo J (fM J J)<|av<|ah<|bw (ht J) (di hx1)<|dS<|ah<|aA<|aw<|aG J<|zo J (my jh aH J J J (da hx1))<|zo J (bB aH J J)<|aW (r:=af) (x:=ig) aH (fun _=>bj _) J fun b=>bp J<|ap aH J an J (ht J) (ht J)<|aV 8 J<|av<|ah ?_;refine bC h fun r q_r h=>bC h fun t q_t h=>?_
     obtain⟨t1,h1t,h0t⟩:=og q_t
     have q_t1g:=fun hb=>(h1t hb).1
     obtain⟨e2,h1t1,h0t1⟩:=og3 q_t1g
     have q_e2g:=fun hb=>(h1t1 hb).1
     refine c9 (ts:=[_,_,_,_,_,_,_,_,_,_,_,_,_,_,_,_,_]) mixed J J
      ⟨eM 8 J J J (bB aH J J),
      ⟨bY 30 0 J J J (aC Lo (Bu _ q_r) ⟨(ht J),aT⟩),
      ⟨bY 31 1 J J J (s4 J),
      ⟨bY 32 2 J J J (dl J),
      ⟨s7 8 33 3 J J J J (kR J J J J (fun hg=>df hZ cQ J J)),
      ⟨lL 34 4 33 3 J J J J (kR J J J J (fun hg=>bO cx J J (bN J hg))),
      ⟨lL 35 5 33 3 J J J J (kR J J J J (fun hg=>fe (bN J hg) hI)),
      ⟨lL 36 6 33 3 J J J J (kR J J J J (fun hg=>bI (bN J hg))),
      ⟨s7 8 37 7 J J J J (wF J J J J (fun hg=>df hZ cQ J J)),
      ⟨lL 38 8 37 7 J J J J (wF J J J J (fun hg=>bO cx J J (bN J hg))),
      ⟨s7 1 37 7 J J J J (wF J J J J (fun hg=>dl J)),
      ⟨s7 7 37 7 J J J J (wF J J J J (fun hg=>dl J)),
      ⟨wI 40 10 41 11 37 7 J J J J J (wF J J J J (fun hg=>br gT cx J (bN J hg) (bN J hg) (q_e2g hg))),
      ⟨lL 42 12 37 7 J J J J (wF J J J J (fun hg=>bO cx J J (bN J hg))),
      ⟨wI 39 9 43 13 37 7 J J J J J (wF J J J J (fun hg=>fe (bN J hg) (bN J hg))),
      ⟨wI 37 7 44 14 33 3 J J J J J (kR J J J J (fun hg=>fQ (bN J hg) (fun hb=>(bN J (Dx hg hb))) (fun hb=>(h1t1 (Dx hg hb)).2) (fun hb=>h0t1 hg hb))),
      ⟨d8 33 3 45 15 J J J J (kG (ht J) (fun hb=>(bN J (Ae hb))) (fun hb=>(h1t hb).2) h0t),
      aT⟩⟩⟩⟩⟩⟩⟩⟩⟩⟩⟩⟩⟩⟩⟩⟩⟩ ?_
     refine ax<|cU h rfl (fun h=>?_) (fun h=>?_)
     ·refine aw<|zo J (jL)<|av<|am ?_;refine aD (ae (ae (aD (aD (ae (ae (aD (ae ?_))))))));cases so h;exact aJ J J
     ·refine bA<|aq<|ax<|au<|zo rfl (mz (cM hx1 hN1) rfl)<|aG rfl<|aP ?_;exact bm (aU (ih1 (i1+1) ⟨cL hx1,h⟩) (bu J))

theorem YQ(l:bc)(b:dx){R:Bool}(h:uH l b=some R):aX aQ 16 [tD bP l,tD iS b] (iR R):=by
 refine aX.of Tryz.func16 J J J fun w0 S0=>aw<|zo J (jm J)<|zo J (jm J)<|zo J (jL)<|av<|ah<|aw<|zo J (bB hY J J)<|bC h fun r q_r h=>zo J (aC V5 (IU _ q_r) ⟨(ht J),aT⟩)<|aG J<|zo J (gp J J)<|zo J (gp J J)<|bp J<|bp J<|av<|aw<|aG J ?_;refine zo J (s4 J)<|av<|cU h J (fun h=>?_) (fun h=>?_)
 ·refine aw<|zo J (jL)<|av<|am<|ae ?_;cases so h;exact aJ J J
 ·refine dS<|ah<|aw<|zo J (df lZ kH J J)<|zo J (bB vc J J)<|zo J (jg qE J)<|zo J (bI hI)<|av<|aA<|be (k:=17) J fun hN=>bL ?_;refine aU (eI (Z:=fun ls i=>(l.Nodes.drop i=ls)∧ox b ls=some R) (Of:=fun _ i=>[]) (Gf:=fun _ i=>[(3,bK iS b),(17,ca (aF) l.Nodes),(18,jz l.Nodes),(19,bM (i:Int))]) (fun i h=>?_) (fun e tl ih i h=>?_) l.Nodes 0 ⟨J,h⟩) (bu J)
  ·obtain⟨hx,h⟩:=h
   refine aB<|aw<|zo J (fM J J)<|av<|ah<|bz (ht J) (du hx)<|bv ?_;refine ai (ai (aO ?_));refine ax<|aw<|zo rfl (jL)<|av<|am ?_;cases so h;exact aJ J J
  ·obtain⟨hx,h⟩:=h
   refine aB<|aw<|zo J (fM J J)<|av<|ah<|bw (ht J) (di hx)<|dS<|ah<|aA<|aw<|zo J (my qE fK J J J (da hx))<|zo J (bB fK J J)<|aW (r:=aF) (x:=HO) fK (fun _=>lK _) J fun b1=>ap fK J an J (ht J) (ht J)<|aV 8 J<|av<|ah<|bC h fun t q_t h=>?_
   obtain⟨t1,h1t,h0t⟩:=og q_t
   have q_t1g:=fun hb=>(h1t hb).1
   obtain⟨e1,h1t1,h0t1⟩:=og3 q_t1g
   have q_e1g:=fun hb=>(h1t1 hb).1
   obtain⟨r1,h1t1⟩:=X4 (fun hb=>(h1t1 hb).2)
   have q_r1g:=fun hb=>(h1t1 hb).1
   refine c9 (ts:=[_,_,_,_,_,_,_,_,_,_,_,_,_,_,_,_,_,_,_,_,_,_,_]) mixed J J
    ⟨eM 8 J J J (df Ah py J J),
    ⟨bY 23 0 J J J (bB cx J J),
    ⟨bY 24 1 J J J (nI J),
    ⟨bY 25 2 J J J (dl J),
    ⟨s7 8 26 3 J J J J (fd J J J J (fun hg=>df uX mR J J)),
    ⟨lL 27 4 26 3 J J J J (fd J J J J (fun hg=>bO cx J J (bN J hg))),
    ⟨s7 3 26 3 J J J J (fd J J J J (fun hg=>df Aj qU J J)),
    ⟨lL 29 6 26 3 J J J J (fd J J J J (fun hg=>bO vb J J (bN J hg))),
    ⟨lL 30 7 26 3 J J J J (fd J J J J (fun hg=>cW oA (bN J hg))),
    ⟨wI 28 5 31 8 26 3 J J J J J (fd J J J J (fun hg=>jq (bN J hg) (bN J hg))),
    ⟨lL 32 9 26 3 J J J J (fd J J J J (fun hg=>bI (bN J hg))),
    ⟨s7 3 33 10 J J J J (rl J J J J (fun hg=>df Aj qU J J)),
    ⟨lL 34 11 33 10 J J J J (rl J J J J (fun hg=>bO vb J J (bN J hg))),
    ⟨s7 8 33 10 J J J J (rl J J J J (fun hg=>df uX mR J J)),
    ⟨lL 36 13 33 10 J J J J (rl J J J J (fun hg=>bO cx J J (bN J hg))),
    ⟨wI 35 12 37 14 33 10 J J J J J (rl J J J J (fun hg=>br oA gF J (bN J hg) (bN J hg) (q_e1g hg))),
    ⟨lL 38 15 33 10 J J J J (rl J J J J (fun hg=>bO gF J J (bN J hg))),
    ⟨s7 8 33 10 J J J J (rl J J J J (fun hg=>df uW om J J)),
    ⟨lL 40 17 33 10 J J J J (rl J J J J (fun hg=>bO d9 J J (bN J hg))),
    ⟨wI 39 16 41 18 33 10 J J J J J (rl J J J J (fun hg=>aC acK (Yv _ _ (q_r1g hg)) ⟨(bN J hg),(bN J hg),aT⟩)),
    ⟨lL 42 19 33 10 J J J J (rl J J J J (fun hg=>gh (bN J hg))),
    ⟨wI 33 10 43 20 26 3 J J J J J (fd J J J J (fun hg=>kG (bN J hg) (fun hb=>(bN J (Dx hg (Ae hb)))) (fun hb=>(h1t1 (Dx hg hb)).2) (fun hb=>h0t1 hg hb))),
    ⟨d8 26 3 44 21 J J J J (fQ (ht J) (fun hb=>(bN J hb)) (fun hb=>(h1t hb).2) h0t),
    aT⟩⟩⟩⟩⟩⟩⟩⟩⟩⟩⟩⟩⟩⟩⟩⟩⟩⟩⟩⟩⟩⟩⟩ ?_
   refine ax<|cU h rfl (fun h=>?_) (fun h=>?_)
   ·refine aw<|zo J (jL)<|av<|am ?_;refine aD (ae (ae (aD (ae ?_))));cases so h;exact aJ J J
   ·refine bA<|aq<|ax<|au<|zo rfl (mz (cM hx hN) rfl)<|aG rfl<|aP ?_;exact bm (aU (ih (i+1) ⟨cL hx,h⟩) (bu J))

theorem YF(l:bc){R:(List Int)×Int}(h:rE l=some R):aX aQ 23 [tD bP l] (tT [mv R.1,bM R.2]):=by
 refine aX.of Tryz.func23 J J J fun w0 S0=>aw<|zo J (jm J)<|zo J (aM (show aI _ _ _ xq from jQ))<|zo J (cD)<|av<|aw<|zo J (bB hY J J)<|bC h fun r q_r h=>zo J (aC Y7 (Ng _ q_r) ⟨(ht J),aT⟩)<|aG J<|zo J (gp J J)<|zo J (gp J J)<|zo J (gp J J)<|bp J<|bp J<|bp J<|av<|ah<|ah ?_;refine au<|aG J<|zo J (gh (ht J))<|av<|cU h J (fun h=>?_) (fun h=>?_)
 ·refine aw<|zo J (aM (show aI _ _ _ xq from jQ))<|zo J (cD)<|av<|am<|ae ?_;cases so h;exact cC J J J
 ·refine dS<|aw<|aG J<|zo J (Iw (ht J))<|zo J (df nM IL J J)<|zo J (bB ta J J)<|aG J<|bC h fun e q_e h=>zo J (my vQ d9 J J J q_e)<|zo J (bB d9 J J)<|bC h fun r1 q_r1 h=>iy SC (IT _ q_r1) ⟨(ht J),aT⟩ J fun l1 c=>bp J<|zo J (cD)<|av<|am<|jD<|cE 2 J<|cE 22 J<|jE 2 J<|ba ?_;cases so h;exact cC J J J

theorem aai(b:Nat)(ix:OI)(r:cS)(n:aj){R:(List (List ac))×Int}(h:kU r n=some R):cX aQ 51 [tV (aN b 0),tD aF n] (jr b r ix) (fun _:OI=>tT [ca (cY) R.1,bM R.2]) (fun _=>(jr b r ix)):=by
 refine cX.of Tryz.func51 J J J fun w0 S0=>?_;refine(show CG _ _ _ [bx (rH ea [(1,aR (ix.h 0).1 (ix.h 0).2 r.rows.length),(2,aR (ix.h 1).1 (ix.h 1).2 r.width.length)]) 96 b r,dT dO 32 (ix.h 0).1 (ix.h 0).2 r.rows,dT cd 3 (ix.h 1).1 (ix.h 1).2 r.width] _ from ?_);refine aw<|zo J (jm J)<|zo J (aM (show aI _ _ _ uN from jQ))<|zo J (cD)<|av<|ah<|bC h fun e q_e h=>?_
 refine c9 (ts:=[_,_,_,_,_,_,_,_,_,_,_]) mixed J J
  ⟨eM 0 J J J (dl J),
  ⟨bY 6 0 J J J (dB (ht J)),
  ⟨bY 7 1 J J J (jN 0 Yl J J J),
  ⟨bY 8 2 J J J (jN 0 Aj J J J),
  ⟨bY 9 3 J J J (cg (r:=rH ea [(1,aR (ix.h 0).1 (ix.h 0).2 r.rows.length),(2,aR (ix.h 1).1 (ix.h 1).2 r.width.length)]) (x:=r) vb J J (Uw (vw RW qU)) (.head _) (ht J)),
  ⟨eM 3 J J J (df uX mR J J),
  ⟨bY 11 5 J J J (bB cx J J),
  ⟨d8 10 4 12 6 J J J J (my oA gF J J J q_e),
  ⟨bY 13 7 J J J (bB gF J J),
  ⟨bY 14 8 J J J (u8 J),
  ⟨Pv J J (cD),
  aT⟩⟩⟩⟩⟩⟩⟩⟩⟩⟩⟩ ?_
 refine ax<|am<|aK<|aK<|aK ?_;cases so h;exact d6 (ts:=[ca (cY) e,bM 0]) (rvs:=[.tmp 4,.tmp 5]) J J ⟨aZ J,aZ J,aT⟩ pS J J

theorem Sk(n:Int){R:(List ac)}(h:gB n=some R):fZ aQ 172 [tV (.slice none 0 0),bM n] false af 46 R:=by
 refine fZ.of Tryz.func172 J J J fun w0 S0=>aw<|bQ false af 46<|zo J (aM tJ)<|av ?_;refine sX (Z:=io n=some R) (Of:=[]) (Gf:=[(0,tV (.slice none 0 0)),(1,bM n)]) (fun h=>?_) (fun K=>?_)
 ·skip
  refine yX (Z:=fun s l c=>im s=some R) (Of:=fun s l c=>[fj af 46 l c s]) (Gf:=fun s l c=>[(0,sb l c s)]) (fun s l c h=>?_) (fun K1=>?_)
  ·skip
   refine aw<|aG J<|bp J<|av<|am ?_;cases so h;exact gn J J
  ·skip
   refine aw<|aG J<|aG J<|zo J (sQ jh (ht J))<|aG J<|zo J (sP jh (ht J))<|zo J (iQ (ht J) (ht J))<|zo J (iQ (ht J) (ht J))<|bp J<|av<|aw<|aG J<|zo J (gv (ht J) hI)<|av<|cU h J (fun h=>?_) (fun h=>?_)
   ·refine au<|aG J<|aG J<|zo J (sQ jh (ht J))<|zo J (xM jh aH (ht J) (ht J))<|aG J<|bC h fun u q_u h=>bC h fun mk q_mk h=>Ar (xZ (r:=af) (x:=ig) aH J J J J jh kY (fun _=>bj _) (ht J) (ht J) (Fg q_u) q_mk) J fun i=>aG J<|zo J (sP jh (ht J))<|bC h fun y q_y h=>zo J (lh jh aH J (.head _) (ht J) (ht J) q_y)<|wD q_y<|bp J<|aP ?_;exact cw (K1 y (i.h 0).1 (i.h 0).2 h) (bu J)
   ·refine bA<|F1 false af 46 ?_;exact cw (K1 HQ none 0 h) (bu J)
 ·skip
  refine aw<|aG J<|zo J (gi (ht J) hI)<|av<|cU h J (fun h=>?_) (fun h=>?_)
  ·refine au ?_;exact(nn h).elim
  ·refine bA<|ba ?_;exact cw (K h) (bu J)
theorem Le(slices:(List (List ac))){R:(List ac)}(h:dv slices=some R):fZ aQ 104 [ca (cY) slices] false af 46 R:=by
 refine fZ.of Tryz.func104 J J J fun w0 S0=>aw<|bQ false af 46<|zo J (aM tJ)<|av<|aw<|zo J (cD)<|av<|ah<|aw<|aG J<|zo J (jg jF J)<|zo J (bI hI)<|av<|aA<|be (k:=9) J fun hN=>bL<|rm ?_;refine aU (oz (Z:=fun ls i size=>(slices.drop i=ls)∧eQ slices ls size=some R) (Of:=fun _ i size=>[]) (Gf:=fun _ i size=>[(0,ca (cY) slices),(3,bM size),(9,ca (cY) slices),(10,jz slices),(11,bM (i:Int))]) (fun i size h=>?_) (fun e tl ih i size h=>?_) slices 0 (0:Int) ⟨J,h⟩) (bu J)
 ·obtain⟨hx,h⟩:=h
  refine aB<|aw<|zo J (fM J J)<|av<|ah<|bz (ht J) (du hx)<|bv ?_;refine ai (ai (aO ?_));refine ax<|aw<|aG rfl<|bC h fun r q_r h=>iy abL (Sk _ q_r) ⟨hV,(ht J),aT⟩ J fun l c=>bp J<|av<|ah<|aw<|aG J<|zo J (jg jF J)<|zo J (bI hI)<|av<|aA<|be (k:=25) J fun hN1=>bL ?_;refine aU (jW (Z:=fun ls1 i1 newslice l1 c1=>(slices.drop i1=ls1)∧eP ls1 newslice=some R) (Of:=fun _ i1 newslice l1 c1=>[fj af 46 l1 c1 newslice]) (Gf:=fun _ i1 newslice l1 c1=>[(6,sb l1 c1 newslice),(25,ca (cY) slices),(26,jz slices),(27,bM (i1:Int))]) (fun i1 newslice l1 c1 h=>?_) (fun e1 tl1 ih1 i1 newslice l1 c1 h=>?_) slices 0 r l c ⟨J,h⟩) (bu J)
  ·obtain⟨hx1,h⟩:=h
   refine aB<|aw<|zo J (fM J J)<|av<|ah<|bz (ht J) (du hx1)<|bv ?_;refine ai (ai (aO ?_));refine ax<|aw<|aG rfl<|bp rfl<|av<|am ?_;cases so h;exact gn J J
  ·obtain⟨hx1,h⟩:=h
   refine aB<|aw<|zo J (fM J J)<|av<|ah<|bw (ht J) (di hx1)<|dS<|ah<|aA<|aw<|zo J (my jF dW J J J (da hx1))<|zo J (bB dW J J)<|bp J<|av<|au<|aG J<|aG J<|bC h fun newslice1 q_newslice1 h=>cT aH J J J J jh J J (ht J) (ht J) q_newslice1 fun l2 c2=>?_;refine bp J<|aP<|aq<|ax<|au<|zo rfl (mz (cM hx1 hN1) rfl)<|aG rfl<|aP ?_;exact bm (aU (ih1 (i1+1) newslice1 l2 c2 ⟨cL hx1,h⟩) (bu J))
 ·obtain⟨hx,h⟩:=h
  refine aB<|aw<|zo J (fM J J)<|av<|ah<|bw (ht J) (di hx)<|dS<|ah<|aA<|aw<|zo J (my jF dW J J J (da hx))<|zo J (bB dW J J)<|bp J<|av<|aw<|aG J<|aG J<|zo J (jg jh J) ?_;refine zo J (oa (ht J) (ht J))<|bp J<|av<|aw<|aG J<|zo J (gi (ht J) hI)<|av<|cU h J (fun h=>?_) (fun h=>?_)
  ·refine au ?_;exact(nn h).elim
  ·refine bA<|aq<|ax<|au<|zo rfl (mz (cM hx hN) rfl)<|aG rfl<|aP ?_;exact bm (aU (ih (i+1) (IntKind.i64.wrap (size+(e.length:Int))) ⟨cL hx,h⟩) (bu J))
theorem VS(slices:(List (List ac))){R:(List ac)}(h:dv slices=some R):aX aQ 104 [ca (cY) slices] (ca (af) R):=(Le _ h).spec

end Go.Proofs.YtfhhakidodmdfaaGreatDoor

