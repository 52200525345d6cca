/- cG of this claim: P8. -/
import Derived.Test.YtmogpgcfognefaaGreatDoorNaT
import Derived.Test.YtmogpgcfognefaaGreatDoorNaP7
set_option linter.all false
namespace Go.Proofs.YtmogpgcfognefaaGreatDoor
open Go
set_option maxRecDepth 100000

theorem EI(p:(Option bI))(frag:Int){R:(List bu)}(h:iv p frag=some R):fc aP 42 [tD mX p,ce frag] false bP 55 R:=by
 refine fc.of Tryz.func42 J J J fun w0 S0=>au<|cm false bP 55<|zo J (ba q6)<|ap<|au<|aA J<|bO h fun p1 q_p1 h=>zo J (ed (ht J) q_p1)<|zo J (cc nr gv J J)<|zo J (cc iF eo J J)<|zo J (bC oM J J)<|aA J<|bO h fun e q_e h=>zo J (ka lP io J J J q_e)<|zo J (bC io J J)<|aZ (r:=bY) (x:=yC) io (fun _=>nj _) J fun b=>aC io J aw J (ht J) (ht J)<|aU 5 J<|ap ?_;refine au<|cm false bP 55<|zo J (ba q6)<|ap<|au<|bO h fun r q_r h=>zo J (aL PO (LS q_r) trivial)<|bv J<|ap<|ae<|au<|zo J (cc nd iN J J)<|zo J (bC rW J J)<|zo J (jk mp J)<|zo J (bj hI)<|ap<|av<|aX (k:=22) J fun hN=>?_;refine bK<|dM<|pc ?_;refine aM (pL (Z:=fun ls i out l c=>(e.Nodes.drop i=ls)∧cC p e r ls out=some R) (Of:=fun _ i out l c=>[cu bP 55 l c out]) (Gf:=fun _ i out l c=>[(0,tD mX p),(5,bz bY e),(6,oc l c out),(7,Ii (fun y:((Option cq)→Option bu)=>yH aP Aj Ah (fun(x:(Option cq))=>y x)) Ai r),(22,fE (aE) e.Nodes),(23,je e.Nodes),(24,ce (i:Int))]) (fun i out l c h=>?_) (fun e1 tl ih i out l c h=>?_) e.Nodes 0 ([]:List bu) none 0 ⟨J,h⟩) (bh J)
 ·obtain⟨hx,h⟩:=h
  refine aq<|au<|zo J (fx J J)<|ap<|ae<|br (ht J) (dp hx)<|bk ?_;refine ac (ac (aG ?_));refine an<|au<|aA rfl<|bv rfl<|ap<|am ?_;cases so h;exact gy J J
 ·obtain⟨hx,h⟩:=h
  refine aq<|au<|zo J (fx J J)<|ap<|ae<|bq (ht J) (dh hx)<|eK<|ae<|av<|au<|zo J (ka mp eu J J J (dy hx))<|zo J (bC eu J J)<|aZ (r:=aE) (x:=Bh) eu (fun _=>fF _) J fun b1=>aC eu J aw J (ht J) (ht J)<|aU 9 J<|ap<|au<|aA J ?_;refine zo J (bC eu J J)<|zo J (cY (y:=(⟨p,e1,wn,wn⟩:cq)) MU Nh Ij (⟨_,_,_,_,_,J,FH,J,(ht J),⟨_,_,_,_,_,J,FG,J,(ht J),J⟩⟩))<|wF (ht J) J fun b2=>bv J<|ap ?_;refine gj (Z:=fun x=>eU e r (cC p e r tl) e1 out x=some R) (Of:=fun x=>[cu bP 55 l c out,bx jn 170 b2 x]) (Gf:=fun x=>[(0,tD mX p),(5,bz bY e),(6,oc l c out),(7,Ii (fun y:((Option cq)→Option bu)=>yH aP Aj Ah (fun(x:(Option cq))=>y x)) Ai r),(9,bz aE e1),(10,tV (aD b2 0)),(22,fE (aE) e.Nodes),(23,je e.Nodes),(24,ce (i:Int))]) (fun x h=>?_) (fun K=>?_)
  ·skip
   refine gj (Z:=fun x1=>f9 e r (cC p e r tl) e1 out x1=some R) (Of:=fun x1=>[cu bP 55 l c out,bx jn 170 b2 x1]) (Gf:=fun x1=>[(0,tD mX p),(5,bz bY e),(6,oc l c out),(7,Ii (fun y:((Option cq)→Option bu)=>yH aP Aj Ah (fun(x:(Option cq))=>y x)) Ai r),(9,bz aE e1),(10,tV (aD b2 0)),(22,fE (aE) e.Nodes),(23,je e.Nodes),(24,ce (i:Int))]) (fun x1 h=>?_) (fun K1=>?_)
   ·skip
    refine au<|zo J (cY (y:=(⟨(4:Int),[]⟩:bu)) er B9 gK (⟨_,_,_,_,_,J,ma,J,hI,J⟩))<|aZ (r:=bP) (x:=wn) er (fun _=>gK _) J fun b3=>aC er J aw J (ht J) (ht J)<|ap ?_;refine gj (Z:=fun x2=>f8 (cC p e r tl) out x2=some R) (Of:=fun x2=>[cu bP 55 l c out,bx bP 55 b3 x2]) (Gf:=fun x2=>[(0,tD mX p),(5,bz bY e),(6,oc l c out),(7,Ii (fun y:((Option cq)→Option bu)=>yH aP Aj Ah (fun(x:(Option cq))=>y x)) Ai r),(11,tV (aD b3 0)),(22,fE (aE) e.Nodes),(23,je e.Nodes),(24,ce (i:Int))]) (fun x2 h=>?_) (fun K2=>?_)
    ·skip
     refine ak<|aA J<|zo J (aT er J J cH (.tail _ (.head _)) (ht J))<|zo J (bX (r:=bP) (ys:=[x2]) (xs:=[.tmp 65]) rQ er J J J J J ⟨(ht J),aY⟩)<|bO h fun out1 q_out1 h=>dk er J J J J rQ J J (ht J) (ht J) q_out1 fun l1 c1=>bv J<|aK<|al<|an<|ak<|zo rfl (lb (cL hx hN) rfl)<|aA rfl<|aK<|bf<|bl ?_;exact aW (aM (ih (i+1) out1 l1 c1 ⟨cK hx,h⟩) (bh J))
    ·skip
     refine au<|zo J (cc sZ na J J)<|zo J (bC bL J J)<|zo J (kc J)<|ap<|dN h J (fun h=>?_) (fun h=>?_)
     ·refine ak<|aA J<|zo J (cc hJ cV J J)<|zo J (bC bL J J)<|zo J (vz (γ:=(fun y:((Option cq)→Option bu)=>yH aP Aj Ah (fun(x:(Option cq))=>y x))) (z:=(fun _=>none)) vY (fv kL) Mv (fun _=>IB) (ht J) (n6 (ht J)))<|aA J<|jJ<|aU 62 J<|Kk 62 J<|bO h fun r1 q_r1 h=>zo J (F1 (args:=Aj) (res:=Ah) (f:=(fun(x:(Option cq))=>((kE r e1.Op).getD (fun _=>none)) x)) (x:=(((some x1)):(Option cq))) (ht J) q_r1 ⟨(ht J),aY⟩)<|aC er J aw J (ht J) (ht J)<|aK<|bf ?_;exact cg (K2 r1 h) (bh J)
     ·refine bD<|aI<|bl<|bf ?_;exact cg (K2 (⟨(4:Int),[]⟩:bu) h) (bh J)
   ·skip
    refine au<|zo J (cc u4 m9 J J)<|zo J (bC bL J J)<|zo J (ek (ht J) hI)<|ap<|dN h J (fun h=>?_) (fun h=>?_)
    ·refine ak<|aA J<|aA J<|zo J (cc u4 m9 J J)<|zo J (bC bL J J)<|bO h fun e2 q_e2 h=>zo J (cw rQ er (.head _) (ht J) (ht J) q_e2)<|zo J (dJ (r:=bP) (i:=e1.B) (foff:=0) er J J cH J (.head _) q_e2 (ht J))<|zo J (aS (ht J))<|zo J (eY 15 AQ J J J)<|bM<|aC er J FE J (ht J) (ht J)<|aK<|bf ?_;exact cg (K1 (cq.mk x.checker x.n x.a_ e2) h) (bh J)
    ·refine bD ?_;exact cg (K1 x h) (bh J)
  ·skip
   refine au<|zo J (cc rb k7 J J)<|zo J (bC bL J J)<|zo J (ek (ht J) hI)<|ap<|dN h J (fun h=>?_) (fun h=>?_)
   ·refine ak<|aA J<|aA J<|zo J (cc rb k7 J J)<|zo J (bC bL J J)<|bO h fun e3 q_e3 h=>zo J (cw rQ er (.tail _ (.head _)) (ht J) (ht J) q_e3)<|zo J (dJ (r:=bP) (i:=e1.A) (foff:=0) er J J cH J (.tail _ (.head _)) q_e3 (ht J))<|zo J (aS (ht J))<|zo J (eY 13 qh J J J)<|aC er J FF J (ht J) (ht J)<|aK<|bf ?_;exact cg (K (cq.mk (⟨p,e1,wn,wn⟩:cq).checker (⟨p,e1,wn,wn⟩:cq).n e3 (⟨p,e1,wn,wn⟩:cq).b) h) (bh J)
   ·refine bD<|bf ?_;exact cg (K (⟨p,e1,wn,wn⟩:cq) h) (bh J)
theorem DE(p:cZ)(from1:Int){R:Int×Int×Bool}(h:me p from1=some R):bg aP 15 [tD cb p,ce from1] (tT [ce R.1,ce R.2.1,gU R.2.2]):=by
 refine Cu Tryz.func15 J J J fun w0 S0=>au<|zo J (ms J)<|aZ (r:=bW) (x:=(0:Int)) bL (fun _=>J) J fun b=>aZ (r:=bW) (x:=(0:Int)) bL (fun _=>J) J fun b1=>aZ (r:=rB) (x:=false) GZ (fun _=>J) J fun b2=>ap<|ae<|au<|zo J (bC lg J J)<|aA J<|bO h fun it q_it h=>zV NJ (EH _ _ q_it) ⟨(ht J),(ht J),aY⟩ J fun v fp=>ap<|av<|bO h fun r q_r h=>Mn ?_;refine GD (fun(i:Bool×Int×Int)=>[bx rB 4 b2 i.1,bx bW 3 b1 i.2.1,bx bW 3 b i.2.2]) (fun(i:Bool×Int×Int)=>(i.1,i.2.1,i.2.2)) (fun _=> .ret) J (ht J) (false,(0:Int),(0:Int)) J q_r (fun _=>J) J (fun i x r1 h lp rec1 _ _ _=>?_) (fun i j hi bd=>⟨fun hj=>?_,fun _ hj=>?_⟩)
 ·obtain⟨x1,x2,x3⟩:=i
  replace h:qY x x1 x2 x3=some r1:=h
  refine(show CG _ _ _ [oN lp rec1 .ready none,bx rB 4 b2 x1,bx bW 3 b1 x2,bx bW 3 b x3] _ from ?_);refine D2 (G' :=[(0,tD cb p),(1,ce from1),(2,bz cb p),(4,tV (aD b 0)),(5,tV (aD b1 0)),(6,tV (aD b2 0)),(9,tD cb p),(10,ce from1),(12,ce x.1),(13,ce x.2)]) ?_ ⟨J,J,J,J,J,J,J,J,J,J,aY⟩;refine au<|bv J<|ap<|ak<|bv J<|aK<|GK<|av<|au<|aA J<|aA J<|eJ<|aC bL J aw J (ht J) (ht J)<|eJ<|aC bL J aw J (ht J) (ht J)<|eJ<|aC GZ J aw J (ht J) hB<|ap<|am<|aB ?_;refine aI<|aI<|aI<|bn ?_;cases so h;exact Bf 0 J (true,x.2,x.1) J J
 ·skip
  obtain⟨x4,x5,x6⟩:=i
  obtain rfl:x4=r.1.2.1:=congrArg (fun q:Bool×Int×Int=>q.1) hi
  obtain rfl:x5=r.1.2.2.1:=congrArg (fun q:Bool×Int×Int=>q.2.1) hi
  obtain rfl:x6=r.1.2.2.2:=congrArg (fun q:Bool×Int×Int=>q.2.2) hi
  have h:=ct h (by rw [hj];rfl);refine(show AT _ _ _ [Bi bd,bx rB 4 b2 r.1.2.1,bx bW 3 b1 r.1.2.2.1,bx bW 3 b r.1.2.2.2] _ from ?_);refine cg (G' :=[(0,tD cb p),(1,ce from1),(2,bz cb p),(4,tV (aD b 0)),(5,tV (aD b1 0)),(6,tV (aD b2 0)),(9,tD cb p),(10,ce from1)]) ?_ ⟨J,J,J,J,J,J,J,J,aY⟩;refine al<|an<|au<|eJ<|aC bL rfl aw rfl (ht rfl) hI<|eJ<|aC bL rfl aw rfl (ht rfl) hI<|eJ<|aC GZ rfl aw rfl (ht rfl) hB<|ap<|am<|aI<|dW 4 rfl<|bf<|dW 5 rfl<|dW 6 rfl<|wG<|rt ?_;cases so h;exact Bg (ts:=[ce 0,ce 0,gU false]) (rvs:=[.cell 4 3,.cell 5 3,.cell 6 4]) J J ⟨nz bL J J J,nz bL J J J,nz GZ J J J,aY⟩
 ·skip
  obtain⟨x7,x8,x9⟩:=i
  obtain rfl:x7=r.1.2.1:=congrArg (fun q:Bool×Int×Int=>q.1) hi
  obtain rfl:x8=r.1.2.2.1:=congrArg (fun q:Bool×Int×Int=>q.2.1) hi
  obtain rfl:x9=r.1.2.2.2:=congrArg (fun q:Bool×Int×Int=>q.2.2) hi
  have h:=cf h (by rw [hj];rfl);refine(show CG _ _ _ [Bi bd,bx rB 4 b2 r.1.2.1,bx bW 3 b1 r.1.2.2.1,bx bW 3 b r.1.2.2.2] _ from ?_);refine D2 (G' :=[(0,tD cb p),(1,ce from1),(2,bz cb p),(4,tV (aD b 0)),(5,tV (aD b1 0)),(6,tV (aD b2 0)),(9,tD cb p),(10,ce from1)]) ?_ ⟨J,J,J,J,J,J,J,J,aY⟩;refine am ?_;refine aB (aa ?_);refine bn<|dW 4 J<|aI<|dW 5 J<|bf<|dW 6 J<|wG<|rt ?_;cases so h;exact Bg (ts:=[ce r.1.2.2.2,ce r.1.2.2.1,gU r.1.2.1]) (rvs:=[.cell 4 3,.cell 5 3,.cell 6 4]) J J ⟨nz bL J J J,nz bL J J J,nz GZ J J J,aY⟩

theorem JI(place:Int)(n:aF){R:Bool}(h:lr place n=some R):bg aP 151 [tD aE n,bz bW place] (gU R):=by
 refine bg.of Tryz.func151 J J J fun w0 S0=>au<|zo J (ms J)<|zo J (fC)<|ap<|au<|zo J (cc rb k7 J J)<|zo J (bC bL J J)<|zo J (bC bL J J)<|zo J (bG (ht J) (ht J))<|aA J<|cQ J J (fun hg=>cc u4 m9 J J)<|cQ J J (fun hg=>aO bL J J (aJ J hg))<|cQ J J (fun hg=>bC bL J J)<|cQ J J (fun hg=>bG (aJ J hg) (aJ J hg))<|zo J (pr J J)<|bv J<|ap<|am ?_;cases so h;exact aH J J

theorem HD(p:(Option bI))(frag:Int){R:aF}(h:mF p frag=some R):bg aP 76 [tD mX p,ce frag] (tD aE R):=by
 refine bg.of Tryz.func76 J J J fun w0 S0=>au<|aZ (r:=aE) (x:=Bh) eu (fun _=>fF _) J fun b=>ap<|au<|aA J<|bO h fun p1 q_p1 h=>zo J (ed (ht J) q_p1)<|zo J (cc nr gv J J)<|zo J (bC lg J J)<|aA J<|bO h fun r q_r h=>zo J (aL Mj (DE _ _ q_r) ⟨(ht J),(ht J),aY⟩)<|aA J<|zo J (lA J J)<|zo J (lA J J)<|zo J (lA J J)<|aZ (r:=bW) (x:=(0:Int)) bL (fun _=>J) J fun b1=>bv J<|aC bL J aw J (ht J) (ht J)<|aU 6 J ?_;refine bv J<|ap<|ae<|au<|aA J<|zo J (d9 (ht J))<|ap<|dN h J (fun h=>?_) (fun h=>?_)
 ·refine au<|zo J (cY (y:=Bh) eu Hy fF (J))<|aC eu J aw J (ht J) (ht J)<|ap<|am<|aa<|dW 4 J ?_;cases so h;exact fP J eu J J J
 ·refine eK<|au<|aA J<|bO h fun p2 q_p2 h=>zo J (ed (ht J) q_p2)<|zo J (cc nr gv J J)<|zo J (cc iF eo J J)<|zo J (bC oM J J)<|aA J<|bO h fun e q_e h=>zo J (ka lP io J J J q_e)<|zo J (cc nd iN J J)<|zo J (bC rW J J)<|zo J ((show bU _ _ _ _ ((fH aP Fo lZ (fun(x:aF)=>(lr r.2.1) x)))from hY (cts:=[bz bW r.2.1]) (caps:=[.tmp 6]) Ow ⟨(ht J),aY⟩ (fun x y h=>JI _ _ h)))<|bO h fun r1 q_r1 h=>zo J (aL KK (EP _ _ q_r1) ⟨(ht J),(ht J),aY⟩)<|bv J<|ap<|ae<|au ?_;refine aA J<|zo J (fz (ht J) hI)<|ap<|dN h J (fun h=>?_) (fun h=>?_)
  ·refine au<|zo J (cY (y:=Bh) eu Hy fF (J))<|aC eu J aw J (ht J) (ht J)<|ap<|am<|aa<|dW 4 J ?_;cases so h;exact fP J eu J J J
  ·refine eK<|au<|aA J<|bO h fun p3 q_p3 h=>zo J (ed (ht J) q_p3)<|zo J (cc nr gv J J)<|zo J (cc iF eo J J)<|zo J (bC oM J J)<|aA J<|bO h fun e1 q_e1 h=>zo J (ka lP io J J J q_e1)<|zo J (cc nd iN J J)<|zo J (bC rW J J)<|aA J<|bO h fun e2 q_e2 h=>zo J (ka mp eu J J J q_e2)<|zo J (bC eu J J)<|aC eu J aw J (ht J) (ht J)<|ap<|am<|dW 4 J ?_;cases so h;exact fP J eu J J J

theorem LR(s1:(List gc))(s2:(List gc))(eq:(gc→gc→Option Bool)){R:Bool}(h:eL s1 s2 eq=some R):bg aP 77 [fE (cS) s1,fE (cS) s2,(fH aP K7 lZ (fun(x:gc×gc)=>eq x.1 x.2))] (gU R):=by
 refine bg.of Tryz.func77 J J J fun w0 S0=>au<|zo J (fC)<|ap<|ae<|au<|aA J<|zo J (jk mS J)<|aA J<|zo J (jk mS J)<|zo J (dn (ht J) (ht J))<|ap<|dN h J (fun h=>?_) (fun h=>?_)
 ·refine au<|zo J (fC)<|ap<|am<|aa ?_;cases so h;exact aH J J
 ·refine eK<|ae<|au<|aA J<|zo J (jk mS J)<|zo J (bj hI)<|ap<|av<|aX (k:=15) J fun hN=>bK ?_;refine aM (eh (Z:=fun ls i=>(s1.drop i=ls)∧cX s2 eq ls i=some R) (Of:=fun _ i=>[]) (Gf:=fun _ i=>[(1,fE (cS) s2),(2,(fH aP K7 lZ (fun(x:gc×gc)=>eq x.1 x.2))),(15,fE (cS) s1),(16,je s1),(17,ce (i:Int))]) (fun i h=>?_) (fun e tl ih i h=>?_) s1 0 ⟨J,h⟩) (bh J)
  ·obtain⟨hx,h⟩:=h
   refine aq<|au<|zo J (fx J J)<|ap<|ae<|br (ht J) (dp hx)<|bk ?_;refine ac (ac (aG ?_));refine an<|au<|zo rfl (fC)<|ap<|am ?_;cases so h;exact aH J J
  ·obtain⟨hx,h⟩:=h
   refine aq<|au<|zo J (fx J J)<|ap<|ae<|bq (ht J) (dh hx)<|eK<|ae<|av<|au<|aA J<|zo J (ka mS gL J J J (dy hx))<|zo J (bC gL J J)<|aZ (r:=cS) (x:=CV) gL (fun _=>sC _) J fun b=>bv J<|aC gL J aw J (ht J) (ht J)<|aU 8 J<|ap<|ae ?_;refine ak<|aA J<|aA J<|bO h fun e1 q_e1 h=>zo J (ka mS gL J J J q_e1)<|zo J (bC gL J J)<|aZ (r:=cS) (x:=CV) gL (fun _=>sC _) J fun b1=>aC gL J aw J (ht J) (ht J)<|aU 9 J<|ap<|au<|aA J<|zo J (bC gL J J)<|zo J (bC gL J J)<|bO h fun r q_r h=>zo J (gF (args:=K7) (res:=yB) (f:=(fun(x:gc×gc)=>eq x.1 x.2)) (x:=((e,e1):gc×gc)) (ht J) q_r ⟨(ht J),(ht J),aY⟩)<|zo J (d9 (ht J))<|ap<|dN h J (fun h=>?_) (fun h=>?_)
   ·refine au<|zo J (fC)<|ap<|am ?_;refine aB (aa (aa (aB (aa ?_))));cases so h;exact aH J J
   ·refine bD<|al<|an<|ak<|zo rfl (lb (cL hx hN) rfl)<|aA rfl<|aK ?_;exact aW (aM (ih (i+1) ⟨cK hx,h⟩) (bh J))

theorem LQ(p:gc)(y:gc){R:Bool}(h:nE p y=some R):bg aP 78 [tD cS p,tD cS y] (gU R):=by
 refine bg.of Tryz.func78 J J J fun w0 S0=>au<|zo J (ms J)<|zo J (ms J)<|zo J (fC)<|ap<|au<|zo J (cc lM kj J J)<|zo J (bC bL J J)<|zo J (cc lM kj J J)<|zo J (bC bL J J)<|zo J (bG (ht J) (ht J))<|bv J<|ap<|am ?_;cases so h;exact aH J J

theorem Je(s:(List bt))(f:(bt→Option Bool)){R:Int}(h:gW s f=some R):bg aP 250 [fE (aR) s,(fH aP Ir lZ (fun(x:bt)=>f x))] (ce R):=by
 refine bg.of Tryz.func250 J J J fun w0 S0=>au<|zo J (fi)<|ap<|ae<|au<|aA J<|zo J (jk ju J)<|zo J (bj hI)<|ap<|av<|aX (k:=6) J fun hN=>bK ?_;refine aM (eh (Z:=fun ls i=>(s.drop i=ls)∧ei f ls i=some R) (Of:=fun _ i=>[]) (Gf:=fun _ i=>[(0,fE (aR) s),(1,(fH aP Ir lZ (fun(x:bt)=>f x))),(7,je s),(8,ce (i:Int))]) (fun i h=>?_) (fun e tl ih i h=>?_) s 0 ⟨J,h⟩) (bh J)
 ·obtain⟨hx,h⟩:=h
  refine aq<|au<|zo J (fx J J)<|ap<|ae<|br (ht J) (dp hx)<|bk ?_;refine ac (ac (aG ?_));refine an<|au<|zo rfl (fi)<|ap<|am ?_;cases so h;exact aH J J
 ·obtain⟨hx,h⟩:=h
  refine aq<|au<|zo J (fx J J)<|ap<|ae<|bq (ht J) (dh hx)<|eK<|ae<|av<|au<|aA J<|bv J<|ap<|au<|aA J<|aA J<|aA J<|zo J (ka ju dB J J J (dy hx)) ?_;refine zo J (bC dB J J)<|bO h fun r q_r h=>zo J (gF (args:=Ir) (res:=yB) (f:=(fun(x:bt)=>f x)) (x:=((e):bt)) (ht J) q_r ⟨(ht J),aY⟩)<|ap<|dN h J (fun h=>?_) (fun h=>?_)
  ·refine au<|aA J<|bv J<|ap<|am ?_;refine aB (aa (aa (aB (aa ?_))));cases so h;exact aH J J
  ·refine bD<|al<|an<|ak<|zo rfl (lb (cL hx hN) rfl)<|aA rfl<|aK ?_;exact aW (aM (ih (i+1) ⟨cK hx,h⟩) (bh J))

theorem Jo(s:(List bt))(f:(bt→Option Bool)){R:Bool}(h:gk s f=some R):bg aP 211 [fE (aR) s,(fH aP Ir lZ (fun(x:bt)=>f x))] (gU R):=by
 refine bg.of Tryz.func211 J J J fun w0 S0=>au<|zo J (fC)<|ap<|au<|aA J<|aA J<|bO h fun r q_r h=>zo J (aL NQ (Je _ _ q_r) ⟨(ht J),(ht J),aY⟩)<|zo J (ek (ht J) hI)<|bv J<|ap<|am ?_;cases so h;exact aH J J

theorem Jn(n:bt){R:Bool}(h:vH n=some R):bg aP 212 [tD aR n] (gU R):=by
 refine bg.of Tryz.func212 J J J fun w0 S0=>au<|zo J (ms J)<|zo J (fC)<|ap<|au<|zo J (cc jt eO J J)<|zo J (bC bL J J)<|bO h fun r q_r h=>zo J (aL KF (EK _ q_r) ⟨(ht J),aY⟩)<|bv J<|ap<|am ?_;cases so h;exact aH J J

theorem JH(e:bo){R:Bool}(h:zI e=some R):bg aP 152 [tD be e] (gU R):=by
 refine bg.of Tryz.func152 J J J fun w0 S0=>au<|zo J (ms J)<|zo J (fC)<|ap<|au<|zo J (bC gn J J)<|bO h fun r q_r h=>zo J (aL Kf (AU _ q_r) ⟨(ht J),aY⟩)<|zo J (kc J)<|aA J<|bO h fun t q_t h=>bE J J (fun hg=>cc fB dc J J)<|bE J J (fun hg=>aO mt J J (aJ J hg)) ?_
 obtain⟨r1,h1t,h0t⟩:=og q_t
 have q_r1g:=fun hb=>(h1t hb).1
 refine bE J J (fun hg=>aL N3 (Jo _ _ (q_r1g hg)) ⟨(aJ J hg),(AM N2 fun x y h=>Jn _ h),aY⟩)<|bE J J (fun hg=>d9 (aJ J hg))<|zo J (dm (ht J) (fun hb=>(aJ J hb)) (fun hb=>(h1t hb).2) h0t)<|bv J<|ap<|am ?_;cases so h;exact aH J J

theorem HF(s:(List bt)){R:(List bt)}(h:fJ s=some R):fc aP 214 [fE (aR) s] false aR 149 R:=by
 refine fc.of Tryz.func214 J J J fun w0 S0=>au<|cm false aR 149<|zo J (ba q6)<|ap<|ae<|au<|aA J<|Cz ju (ht J) J fun isnil hisnil=>ap<|nv (ht J) (fun hc=>?_) (fun hc=>?_)
 ·have hx:=hisnil hc
  have h:some GT=some R:=by simpa [fJ,nS,hx] using h
  refine au<|cm false aR 149<|zo J (ba q6)<|ap<|am<|aa ?_;cases so h;exact gy J J
 ·refine eK<|au<|fu (r:=aR) (ys:=GT) (xs:=[]) ju dB J J J J J trivial J fun l c=>aA J<|bO h fun x q_x h=>dk dB J J J J ju J J (ht J) (ht J) q_x fun l1 c1=>bv J<|ap<|am ?_;cases so h;exact gy J J
theorem HI(e:bo){R:(List bo)}(h:zK e=some R):fc aP 153 [tD be e] false be 45 R:=by
 refine fc.of Tryz.func153 J J J fun w0 S0=>au<|zo J (ms J)<|cm false be 45<|zo J (ba q6)<|ap<|au<|zo J (bC gn J J)<|bO h fun r q_r h=>zo J (aL KO (ET _ q_r) ⟨(ht J),aY⟩)<|aA J<|zo J (lA J J)<|zo J (lA J J)<|bv J<|bv J<|ap<|ae<|au<|aA J ?_;refine zo J (d9 (ht J))<|ap<|dN h J (fun h=>?_) (fun h=>?_)
 ·refine au<|cm false be 45<|zo J (ba q6)<|ap<|am<|aa ?_;cases so h;exact gy J J
 ·refine eK<|au<|cm false be 45<|zo J (ba q6)<|ap<|au<|zo J (cc fB dc J J)<|zo J (bC mt J J)<|zo J (jk ju J)<|zo J (gE (ht J) hI)<|fu (r:=bW) (ys:=[(IntKind.i64.wrap ((e.Nodes.length:Int)-(1:Int)))]) (xs:=[.tmp 23]) dr bL J J J J J ⟨(ht J),aY⟩ J fun l c=>bv J<|ap<|ae<|av<|bK<|kz<|pc<|dM ?_;refine aM (Fb (Z:=fun n out l1 c1 open1 l2 c2=>j6 e r n out open1=some R) (Of:=fun out l1 c1 open1 l2 c2=>[cu be 45 l1 c1 out,cu bW 3 l2 c2 open1]) (Gf:=fun out l1 c1 open1 l2 c2=>[(1,bz be e),(3,lx r.1),(5,oc l1 c1 out),(6,oc l2 c2 open1)]) (fun out l1 c1 open1 l2 c2 h=>nn h) (fun n ih out l1 c1 open1 l2 c2 h=>?_) OX Im none 0 ([(IntKind.i64.wrap ((e.Nodes.length:Int)-(1:Int)))]) l c h) (bh J);refine aq<|ae<|au<|aA J<|zo J (ee dr (.tail _ (.head _)) (ht J))<|zo J (gZ (ht J) hI)<|ap<|dN h J (fun h=>?_) (fun h=>?_)
  ·refine eK ?_;refine z6 (Z:=fun out1 l3 c3 open2 l4 c4=>ql (j6 e r n) out1 open2=some R) (Of:=fun out1 l3 c3 open2 l4 c4=>[cu be 45 l3 c3 out1,cu bW 3 l4 c4 open2]) (Gf:=fun out1 l3 c3 open2 l4 c4=>[(1,bz be e),(3,lx r.1),(5,oc l3 c3 out1),(6,oc l4 c4 open2)]) (fun out1 l3 c3 open2 l4 c4 h=>?_) (fun K=>?_)
   ·skip
    exact aW (aM (ih out1 l3 c3 open2 l4 c4 h) (bh J))
   ·skip
    refine au<|aA J<|aA J<|zo J (ee dr (.tail _ (.head _)) (ht J))<|zo J (gE (ht J) hI)<|bO h fun e1 q_e1 h=>zo J (cw dr bL (.tail _ (.head _)) (ht J) (ht J) q_e1)<|zo J (dJ (r:=bW) (i:=(IntKind.i64.wrap ((open1.length:Int)-(1:Int)))) (foff:=0) bL J J cH J (.tail _ (.head _)) q_e1 (ht J))<|bv J<|ap<|au<|aA J<|aA J<|zo J (ee dr (.tail _ (.head _)) (ht J))<|zo J (gE (ht J) hI)<|bO h fun y q_y h=>zo J (kT dr bL J (.tail _ (.head _)) (ht J) (ht J) q_y)<|bM<|yi q_y<|bv J<|aK ?_;refine an<|au<|zo rfl (cc fB dc rfl rfl)<|zo rfl (bC mt rfl rfl)<|aA rfl<|bO h fun e2 q_e2 h=>zo J (ka ju dB J J J q_e2)<|zo J (bC dB J J)<|aZ (r:=aR) (x:=CM) dB (fun _=>nw _) J fun b=>aC dB J aw J (ht J) (ht J)<|aU 8 J<|ap<|ae<|au<|zo J (cc jt eO J J)<|zo J (bC bL J J)<|zo J (kc J)<|ap<|dN h J (fun h=>?_) (fun h=>?_)
    ·refine au<|aA J<|zo J (cc tZ qe J J)<|zo J (bC bL J J)<|zo J (cc t6 qf J J)<|zo J (bC bL J J)<|zo J (bX (r:=bW) (ys:=[e2.R,e2.L]) (xs:=[.tmp 49,.tmp 51]) dr bL J J J J J ⟨(ht J),(ht J),aY⟩)<|bO h fun open3 q_open3 h=>dk bL J J J J dr J J (ht J) (ht J) q_open3 fun l5 c5=>bv J<|ap<|bk ?_;refine ac (aG ?_);refine bf ?_;exact cg (K out l1 c1 open3 l5 c5 h) (bh J)
    ·refine eK<|au<|aA J<|aA J<|bO h fun e3 q_e3 h=>zo J (ka dr bL J J J q_e3)<|zo J (bC bL J J)<|bv J<|ap<|au<|zo J (cc fB dc J J)<|zo J (bC mt J J)<|aA J<|aA J<|zo J (nO (ht J) hI)<|bO h fun y1 q_y1 h=>zo J (FX ju dB J (ht J) (ht J) (ht J) q_y1)<|bO h fun r1 q_r1 h=>jb N1 (HF _ q_r1) ⟨(ht J),aY⟩ J fun l6 c6=>zo J (cY (y:=iL (⟨r1⟩:bo) (ai l6 c6 r1.length)) gn Nb ru (⟨_,_,_,_,_,J,vo,J,(zy (ht J)),J⟩)) ?_;refine cm false aR 149<|aZ (r:=iH) (x:=iL uF (ai none 0 (GT.length))) gn ru J fun b1=>dV gn J (kl J) J (ht J) (ht J)<|bM<|rN<|ap<|ae<|au<|zo J (eY 0 fB J J J)<|zo J (dw mt o4 (.head _) J (ht J))<|zo J (ee ju (.tail _ (.head _)) (ht J))<|zo J (bj hI)<|ap<|av<|gx (.tail _ (.head _)) fun hN=>bK<|dM<|dM<|kz<|ep ?_;refine aM (jd (Z:=fun ls i part=>(r1.drop i=ls)∧mL (j6 e r n) out y e3 ls i part=some R) (Of:=fun _ i part=>[cu be 45 l1 c1 out,cu bW 3 l2 c2 y,bx iH 45 b1 (iL part (ai l6 c6 part.Nodes.length)),cu aR 149 l6 c6 part.Nodes]) (Gf:=fun _ i part=>[(1,bz be e),(3,lx r.1),(5,oc l1 c1 out),(6,oc l2 c2 y),(9,ce e3),(10,tV (aD b1 0)),(68,je r1),(69,ce (i:Int))]) (fun i part h=>?_) (fun e4 tl ih1 i part h=>?_) r1 0 ({(⟨r1⟩:bo)with Nodes:=r1}:bo) ⟨J,h⟩) (bh J)
     ·obtain⟨hx,h⟩:=h
      refine aq<|au<|zo J (fx J J)<|ap<|ae<|br (ht J) (dp hx)<|bk ?_;refine ac (ac (aG ?_));refine an<|ak<|aA rfl<|eJ<|kx<|zo rfl (oE (q:=be) (y:=part) gn J J J J (.tail _ (.tail _ (.tail _ (.head _)))) (fun _ _ _ ho h=>rl (iE ho (.head _)) h) (ht J))<|zo J (bX (r:=be) (ys:=[part]) (xs:=[.tmp 104]) qL gn J J J J J ⟨(ht J),aY⟩)<|bM<|bO h fun out2 q_out2 h=>dk gn J J J J qL J J (ht J) (ht J) q_out2 fun l7 c7=>bv J<|aK<|al<|bf<|bl<|aI<|bl ?_;exact cg (K out2 l7 c7 y l2 c2 h) (bh J)
     ·obtain⟨hx,h⟩:=h
      refine aq<|au<|zo J (fx J J)<|ap<|ae<|bq (ht J) (dh hx)<|eK<|ae<|av<|au<|aA J<|bv J<|ap<|au<|zo J (eY 0 fB J J J)<|zo J (dw mt o4 (.tail _ (.tail _ (.head _))) J (ht J))<|aA J<|bO h fun e5 q_e5 h=>?_;refine zo J (cw ju dB (.tail _ (.tail _ (.tail _ (.head _)))) (ht J) (ht J) q_e5)<|bv J<|ap ?_;refine gj (Z:=fun part1=>qk e3 (mL (j6 e r n) out y e3 tl) i part1=some R) (Of:=fun part1=>[cu be 45 l1 c1 out,cu bW 3 l2 c2 y,bx iH 45 b1 (iL part1 (ai l6 c6 part1.Nodes.length)),cu aR 149 l6 c6 part1.Nodes]) (Gf:=fun part1=>[(1,bz be e),(3,lx r.1),(5,oc l1 c1 out),(6,oc l2 c2 y),(9,ce e3),(10,tV (aD b1 0)),(12,tV (iG l6 ((i:Int).toNat*8+0))),(68,je r1),(69,ce (i:Int))]) (fun part1 h=>?_) (fun K1=>?_)
      ·skip
       refine au<|aA J<|bO h fun e6 q_e6 h=>zo J (n5 (.tail _ (.tail _ (.tail _ (.head _)))) q_e6 (ht J))<|zo J (eW (o:=(i:Int).toNat*8+0) (n:=(i:Int).toNat*8+2) tZ J (.tail _ (.tail _ (.tail _ (.head _)))) q_e6 (ht J) J)<|zo J (dJ (r:=aR) (i:=(i:Int)) (foff:=2) bL J J qe J (.tail _ (.tail _ (.tail _ (.head _)))) q_e6 (ht J))<|zo J (ek (ht J) hI)<|ap<|dN h J (fun h=>?_) (fun h=>?_)
       ·refine ak<|aA J<|zo J (n5 (.tail _ (.tail _ (.tail _ (.head _)))) q_e6 (ht J))<|zo J (eW (o:=(i:Int).toNat*8+0) (n:=(i:Int).toNat*8+2) tZ J (.tail _ (.tail _ (.tail _ (.head _)))) q_e6 (ht J) J)<|zo J (dJ (r:=aR) (i:=(i:Int)) (foff:=2) bL J J qe J (.tail _ (.tail _ (.tail _ (.head _)))) q_e6 (ht J))<|aA J<|zo J (gE (ht J) (ht J))<|zo J (n5 (.tail _ (.tail _ (.tail _ (.head _)))) q_e6 (ht J))<|zo J (eW (o:=(i:Int).toNat*8+0) (n:=(i:Int).toNat*8+2) tZ J (.tail _ (.tail _ (.tail _ (.head _)))) q_e6 (ht J) J)<|eJ<|bO h fun st q_st h=>jI bL J C8 J q_e6 (so q_st) (ht J) (ht J)<|lH (O' :=[cu aR 149 l6 c6 st,cu be 45 l1 c1 out,cu bW 3 l2 c2 y,bx iH 45 b1 (iL part1 (ai l6 c6 st.length))]) (by rw [fW (so q_st)])<|aK<|al<|an<|ak<|zo rfl (lb (cL hx hN) rfl)<|aA rfl<|aK<|bn<|bn<|bn ?_;exact aW (aM (ih1 (i+1) ({part1 with Nodes:=st}:bo) ⟨cK hx,h⟩) (bh J))
       ·refine bD<|al<|an<|ak<|zo rfl (lb (cL hx hN) rfl)<|aA rfl<|aK ?_;exact aW (aM (ih1 (i+1) part1 ⟨cK hx,h⟩) (bh J))
      ·skip
       refine au<|aA J<|zo J (n5 (.tail _ (.tail _ (.tail _ (.head _)))) q_e5 (ht J))<|zo J (eW (o:=(i:Int).toNat*8+0) (n:=(i:Int).toNat*8+1) t6 J (.tail _ (.tail _ (.tail _ (.head _)))) q_e5 (ht J) J)<|zo J (dJ (r:=aR) (i:=(i:Int)) (foff:=1) bL J J qf J (.tail _ (.tail _ (.tail _ (.head _)))) q_e5 (ht J))<|zo J (ek (ht J) hI)<|ap<|dN h J (fun h=>?_) (fun h=>?_)
       ·refine ak<|aA J<|zo J (n5 (.tail _ (.tail _ (.tail _ (.head _)))) q_e5 (ht J))<|zo J (eW (o:=(i:Int).toNat*8+0) (n:=(i:Int).toNat*8+1) t6 J (.tail _ (.tail _ (.tail _ (.head _)))) q_e5 (ht J) J)<|zo J (dJ (r:=aR) (i:=(i:Int)) (foff:=1) bL J J qf J (.tail _ (.tail _ (.tail _ (.head _)))) q_e5 (ht J))<|aA J<|zo J (gE (ht J) (ht J))<|zo J (n5 (.tail _ (.tail _ (.tail _ (.head _)))) q_e5 (ht J))<|zo J (eW (o:=(i:Int).toNat*8+0) (n:=(i:Int).toNat*8+1) t6 J (.tail _ (.tail _ (.tail _ (.head _)))) q_e5 (ht J) J)<|eJ<|bO h fun st1 q_st1 h=>jI bL J C9 J q_e5 (so q_st1) (ht J) (ht J)<|ig (fW (so q_st1)) 73 J<|lH (O' :=[cu aR 149 l6 c6 st1,cu be 45 l1 c1 out,cu bW 3 l2 c2 y,bx iH 45 b1 (iL part (ai l6 c6 st1.length))]) (by rw [fW (so q_st1)])<|aK<|bn<|bn<|bn ?_;exact cg (K1 ({part with Nodes:=st1}:bo) h) (bh J)
       ·refine bD ?_;exact cg (K1 part h) (bh J)
  ·refine bk ?_;refine ac (ac (aG ?_));refine an<|au<|aA rfl<|bv rfl<|ap<|am ?_;cases so h;exact gy J J
end Go.Proofs.YtmogpgcfognefaaGreatDoor

