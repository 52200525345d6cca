/- cd of this claim: P8. -/
import Derived.Test.YtmogpgcfognefaaGreatDoorNcT
import Derived.Test.YtmogpgcfognefaaGreatDoorNcP7
set_option linter.all false
namespace Go.Proofs.YtmogpgcfognefaaGreatDoor
open Go
set_option maxRecDepth 100000

theorem FK(p:(Option bN))(frag:Int){R:(List bB)}(h:jy p frag=some R):io aM 42 [tD mF p,bQ frag] false bJ 55 R:=by
 refine io.of Tryz.func42 J J J fun w0 S0=>au<|ci false bJ 55<|zo J (a8 rQ)<|ap<|au<|ax J<|bF h fun p1 q_p1 h=>zo J (dY (ht J) q_p1)<|zo J (bY nc gb J J)<|zo J (bY lB fT J J)<|zo J (bw tt J J)<|ax J<|bF h fun e q_e h=>zo J (im pK jI J J J q_e)<|zo J (bw jI J J)<|bc (r:=cr) (x:=A9) jI (fun _=>lU _) J fun b=>aE jI J ay J (ht J) (ht J)<|aV 5 J<|ap ?_;refine au<|ci false bJ 55<|zo J (a8 rQ)<|ap<|au<|bF h fun r q_r h=>zo J (aJ R5 (NA q_r) trivial)<|bo J<|ap<|ae<|au<|zo J (bY qK kO J J)<|zo J (bw wI J J)<|zo J (gJ n9 J)<|zo J (bg hI)<|ap<|av<|aP (k:=22) J fun hN=>?_;refine bu<|fe<|nd ?_;refine aG (ld (Z:=fun ls i out l c=>(e.Nodes.drop i=ls)∧dr p e r ls out=some R) (Of:=fun _ i out l c=>[cC bJ 55 l c out]) (Gf:=fun _ i out l c=>[(0,tD mF p),(5,bp cr e),(6,nJ l c out),(7,Jz (fun y:((Option cq)→Option bB)=>zt aM A8 A6 (fun(x:(Option cq))=>y x)) A7 r),(22,d6 (aS) e.Nodes),(23,gR e.Nodes),(24,bQ (i:Int))]) (fun i out l c h=>?_) (fun e1 tl ih i out l c h=>?_) e.Nodes 0 ([]:List bB) none 0 ⟨J,h⟩) (aX J)
 ·obtain⟨hx,h⟩:=h
  refine aq<|au<|zo J (eD J J)<|ap<|ae<|bn (ht J) (cW hx)<|aY ?_;refine ac (ac (aC ?_));refine am<|au<|ax rfl<|bo rfl<|ap<|al ?_;cases so h;exact iT J J
 ·obtain⟨hx,h⟩:=h
  refine aq<|au<|zo J (eD J J)<|ap<|ae<|bm (ht J) (cR hx)<|dz<|ae<|av<|au<|zo J (im n9 eM J J J (cS hx))<|zo J (bw eM J J)<|bc (r:=aS) (x:=Ck) eM (fun _=>eK _) J fun b1=>aE eM J ay J (ht J) (ht J)<|aV 9 J<|ap<|au<|ax J ?_;refine zo J (bw eM J J)<|zo J (cE (y:=(⟨p,e1,xq,xq⟩:cq)) OM Pa JB (⟨_,_,_,_,_,J,GM,J,(ht J),⟨_,_,_,_,_,J,GL,J,(ht J),J⟩⟩))<|xd (ht J) J fun b2=>bo J<|ap ?_;refine fX (Z:=fun x=>j6 e r (dr p e r tl) e1 out x=some R) (Of:=fun x=>[cC bJ 55 l c out,bx iP 170 b2 x]) (Gf:=fun x=>[(0,tD mF p),(5,bp cr e),(6,nJ l c out),(7,Jz (fun y:((Option cq)→Option bB)=>zt aM A8 A6 (fun(x:(Option cq))=>y x)) A7 r),(9,bp aS e1),(10,tV (aF b2 0)),(22,d6 (aS) e.Nodes),(23,gR e.Nodes),(24,bQ (i:Int))]) (fun x h=>?_) (fun K=>?_)
  ·skip
   refine fX (Z:=fun x1=>j5 e r (dr p e r tl) e1 out x1=some R) (Of:=fun x1=>[cC bJ 55 l c out,bx iP 170 b2 x1]) (Gf:=fun x1=>[(0,tD mF p),(5,bp cr e),(6,nJ l c out),(7,Jz (fun y:((Option cq)→Option bB)=>zt aM A8 A6 (fun(x:(Option cq))=>y x)) A7 r),(9,bp aS e1),(10,tV (aF b2 0)),(22,d6 (aS) e.Nodes),(23,gR e.Nodes),(24,bQ (i:Int))]) (fun x1 h=>?_) (fun K1=>?_)
   ·skip
    refine au<|zo J (cE (y:=(⟨(4:Int),[]⟩:bB)) ec C7 gK (⟨_,_,_,_,_,J,lG,J,hI,J⟩))<|bc (r:=bJ) (x:=xq) ec (fun _=>gK _) J fun b3=>aE ec J ay J (ht J) (ht J)<|ap ?_;refine fX (Z:=fun x2=>ij (dr p e r tl) out x2=some R) (Of:=fun x2=>[cC bJ 55 l c out,bx bJ 55 b3 x2]) (Gf:=fun x2=>[(0,tD mF p),(5,bp cr e),(6,nJ l c out),(7,Jz (fun y:((Option cq)→Option bB)=>zt aM A8 A6 (fun(x:(Option cq))=>y x)) A7 r),(11,tV (aF b3 0)),(22,d6 (aS) e.Nodes),(23,gR e.Nodes),(24,bQ (i:Int))]) (fun x2 h=>?_) (fun K2=>?_)
    ·skip
     refine ai<|ax J<|zo J (bk ec J J cO (.tail _ (.head _)) (ht J))<|zo J (ba (r:=bJ) (ys:=[x2]) (xs:=[.tmp 65]) sL ec J J J J J ⟨(ht J),be⟩)<|bF h fun out1 q_out1 h=>dv ec J J J J sL J J (ht J) (ht J) q_out1 fun l1 c1=>bo J<|aH<|ak<|am<|ai<|zo rfl (jN (cy hx hN) rfl)<|ax rfl<|aH<|br<|bv ?_;exact aO (aG (ih (i+1) out1 l1 c1 ⟨cx hx,h⟩) (aX J))
    ·skip
     refine au<|zo J (bY tN mU J J)<|zo J (bw bK J J)<|zo J (jk J)<|ap<|dh h J (fun h=>?_) (fun h=>?_)
     ·refine ai<|ax J<|zo J (bY gN cT J J)<|zo J (bw bK J J)<|zo J (wd (γ:=(fun y:((Option cq)→Option bB)=>zt aM A8 A6 (fun(x:(Option cq))=>y x))) (z:=(fun _=>none)) wC (ff iF) Oq (fun _=>JU) (ht J) (nU (ht J)))<|ax J<|p9<|aV 62 J<|LU 62 J<|bF h fun r1 q_r1 h=>zo J (G5 (args:=A8) (res:=A6) (f:=(fun(x:(Option cq))=>((oW r e1.Op).getD (fun _=>none)) x)) (x:=(((some x1)):(Option cq))) (ht J) q_r1 ⟨(ht J),be⟩)<|aE ec J ay J (ht J) (ht J)<|aH<|br ?_;exact bX (K2 r1 h) (aX J)
     ·refine bt<|aK<|bv<|br ?_;exact bX (K2 (⟨(4:Int),[]⟩:bB) h) (aX J)
   ·skip
    refine au<|zo J (bY vG mT J J)<|zo J (bw bK J J)<|zo J (dG (ht J) hI)<|ap<|dh h J (fun h=>?_) (fun h=>?_)
    ·refine ai<|ax J<|ax J<|zo J (bY vG mT J J)<|zo J (bw bK J J)<|bF h fun e2 q_e2 h=>zo J (cH sL ec (.head _) (ht J) (ht J) q_e2)<|zo J (ew (r:=bJ) (i:=e1.B) (foff:=0) ec J J cO J (.head _) q_e2 (ht J))<|zo J (aR (ht J))<|zo J (gq 15 BF J J J)<|ca<|aE ec J GJ J (ht J) (ht J)<|aH<|br ?_;exact bX (K1 (cq.mk x.checker x.n x.a_ e2) h) (aX J)
    ·refine bt ?_;exact bX (K1 x h) (aX J)
  ·skip
   refine au<|zo J (bY rX ky J J)<|zo J (bw bK J J)<|zo J (dG (ht J) hI)<|ap<|dh h J (fun h=>?_) (fun h=>?_)
   ·refine ai<|ax J<|ax J<|zo J (bY rX ky J J)<|zo J (bw bK J J)<|bF h fun e3 q_e3 h=>zo J (cH sL ec (.tail _ (.head _)) (ht J) (ht J) q_e3)<|zo J (ew (r:=bJ) (i:=e1.A) (foff:=0) ec J J cO J (.tail _ (.head _)) q_e3 (ht J))<|zo J (aR (ht J))<|zo J (gq 13 qL J J J)<|aE ec J GK J (ht J) (ht J)<|aH<|br ?_;exact bX (K (cq.mk (⟨p,e1,xq,xq⟩:cq).checker (⟨p,e1,xq,xq⟩:cq).n e3 (⟨p,e1,xq,xq⟩:cq).b) h) (aX J)
   ·refine bt<|br ?_;exact bX (K (⟨p,e1,xq,xq⟩:cq) h) (aX J)
theorem IU(p:eC)(from1:Int){R:Int×Int×Bool}(h:rM p from1=some R):aW aM 15 [tD df p,bQ from1] (tT [bQ R.1,bQ R.2.1,gu R.2.2]):=by
 refine Dq Tryz.func15 J J J fun w0 S0=>au<|zo J (kZ J)<|bc (r:=bV) (x:=(0:Int)) bK (fun _=>J) J fun b=>bc (r:=bV) (x:=(0:Int)) bK (fun _=>J) J fun b1=>bc (r:=rB) (x:=false) H5 (fun _=>J) J fun b2=>ap<|ae<|au<|zo J (bw px J J)<|ax J<|bF h fun it q_it h=>AP PB (FJ _ _ q_it) ⟨(ht J),(ht J),be⟩ J fun v fp=>ap<|av<|bF h fun r q_r h=>Od ?_;refine HD (fun(i:Bool×Int×Int)=>[bx rB 4 b2 i.1,bx bV 3 b1 i.2.1,bx bV 3 b i.2.2]) (fun(i:Bool×Int×Int)=>(i.1,i.2.1,i.2.2)) (fun _=> .ret) J (ht J) (false,(0:Int),(0:Int)) J q_r (fun _=>J) J (fun i x r1 h lp rec1 _ _ _=>?_) (fun i j hi bd=>⟨fun hj=>?_,fun _ hj=>?_⟩)
 ·obtain⟨x1,x2,x3⟩:=i
  replace h:rL x x1 x2 x3=some r1:=h
  refine(show CG _ _ _ [oV lp rec1 .ready none,bx rB 4 b2 x1,bx bV 3 b1 x2,bx bV 3 b x3] _ from ?_);refine E3 (G' :=[(0,tD df p),(1,bQ from1),(2,bp df p),(4,tV (aF b 0)),(5,tV (aF b1 0)),(6,tV (aF b2 0)),(9,tD df p),(10,bQ from1),(12,bQ x.1),(13,bQ x.2)]) ?_ ⟨J,J,J,J,J,J,J,J,J,J,be⟩;refine au<|bo J<|ap<|ai<|bo J<|aH<|HM<|av<|au<|ax J<|ax J<|fW<|aE bK J ay J (ht J) (ht J)<|fW<|aE bK J ay J (ht J) (ht J)<|fW<|aE H5 J ay J (ht J) hB<|ap<|al<|aA ?_;refine aK<|aK<|aK<|bA ?_;cases so h;exact B8 0 J (true,x.2,x.1) J J
 ·skip
  obtain⟨x4,x5,x6⟩:=i
  obtain rfl:x4=r.1.2.1:=congrArg (fun q:Bool×Int×Int=>q.1) hi
  obtain rfl:x5=r.1.2.2.1:=congrArg (fun q:Bool×Int×Int=>q.2.1) hi
  obtain rfl:x6=r.1.2.2.2:=congrArg (fun q:Bool×Int×Int=>q.2.2) hi
  have h:=ct h (by rw [hj];rfl);refine(show AT _ _ _ [Cb bd,bx rB 4 b2 r.1.2.1,bx bV 3 b1 r.1.2.2.1,bx bV 3 b r.1.2.2.2] _ from ?_);refine bX (G' :=[(0,tD df p),(1,bQ from1),(2,bp df p),(4,tV (aF b 0)),(5,tV (aF b1 0)),(6,tV (aF b2 0)),(9,tD df p),(10,bQ from1)]) ?_ ⟨J,J,J,J,J,J,J,J,be⟩;refine ak<|am<|au<|fW<|aE bK rfl ay rfl (ht rfl) hI<|fW<|aE bK rfl ay rfl (ht rfl) hI<|fW<|aE H5 rfl ay rfl (ht rfl) hB<|ap<|al<|aK<|dw 4 rfl<|br<|dw 5 rfl<|dw 6 rfl<|xg<|sh ?_;cases so h;exact B9 (ts:=[bQ 0,bQ 0,gu false]) (rvs:=[.cell 4 3,.cell 5 3,.cell 6 4]) J J ⟨nl bK J J J,nl bK J J J,nl H5 J J J,be⟩
 ·skip
  obtain⟨x7,x8,x9⟩:=i
  obtain rfl:x7=r.1.2.1:=congrArg (fun q:Bool×Int×Int=>q.1) hi
  obtain rfl:x8=r.1.2.2.1:=congrArg (fun q:Bool×Int×Int=>q.2.1) hi
  obtain rfl:x9=r.1.2.2.2:=congrArg (fun q:Bool×Int×Int=>q.2.2) hi
  have h:=cf h (by rw [hj];rfl);refine(show CG _ _ _ [Cb bd,bx rB 4 b2 r.1.2.1,bx bV 3 b1 r.1.2.2.1,bx bV 3 b r.1.2.2.2] _ from ?_);refine E3 (G' :=[(0,tD df p),(1,bQ from1),(2,bp df p),(4,tV (aF b 0)),(5,tV (aF b1 0)),(6,tV (aF b2 0)),(9,tD df p),(10,bQ from1)]) ?_ ⟨J,J,J,J,J,J,J,J,be⟩;refine al ?_;refine aA (aa ?_);refine bA<|dw 4 J<|aK<|dw 5 J<|br<|dw 6 J<|xg<|sh ?_;cases so h;exact B9 (ts:=[bQ r.1.2.2.2,bQ r.1.2.2.1,gu r.1.2.1]) (rvs:=[.cell 4 3,.cell 5 3,.cell 6 4]) J J ⟨nl bK J J J,nl bK J J J,nl H5 J J J,be⟩

theorem Ll(place:Int)(n:aZ){R:Bool}(h:kY place n=some R):aW aM 151 [tD aS n,bp bV place] (gu R):=by
 refine aW.of Tryz.func151 J J J fun w0 S0=>au<|zo J (kZ J)<|zo J (eL)<|ap<|au<|zo J (bY rX ky J J)<|zo J (bw bK J J)<|zo J (bw bK J J)<|zo J (bD (ht J) (ht J))<|ax J<|cw J J (fun hg=>bY vG mT J J)<|cw J J (fun hg=>aL bK J J (aI J hg))<|cw J J (fun hg=>bw bK J J)<|cw J J (fun hg=>bD (aI J hg) (aI J hg))<|zo J (oQ J J)<|bo J<|ap<|al ?_;cases so h;exact aB J J

theorem IQ(p:(Option bN))(frag:Int){R:aZ}(h:me p frag=some R):aW aM 76 [tD mF p,bQ frag] (tD aS R):=by
 refine aW.of Tryz.func76 J J J fun w0 S0=>au<|bc (r:=aS) (x:=Ck) eM (fun _=>eK _) J fun b=>ap<|au<|ax J<|bF h fun p1 q_p1 h=>zo J (dY (ht J) q_p1)<|zo J (bY nc gb J J)<|zo J (bw px J J)<|ax J<|bF h fun r q_r h=>zo J (aJ QC (IU _ _ q_r) ⟨(ht J),(ht J),be⟩)<|ax J<|zo J (lg J J)<|zo J (lg J J)<|zo J (lg J J)<|bc (r:=bV) (x:=(0:Int)) bK (fun _=>J) J fun b1=>bo J<|aE bK J ay J (ht J) (ht J)<|aV 6 J ?_;refine bo J<|ap<|ae<|au<|ax J<|zo J (dn (ht J))<|ap<|dh h J (fun h=>?_) (fun h=>?_)
 ·refine au<|zo J (cE (y:=Ck) eM EB eK (J))<|aE eM J ay J (ht J) (ht J)<|ap<|al<|aa<|dw 4 J ?_;cases so h;exact fz J eM J J J
 ·refine dz<|au<|ax J<|bF h fun p2 q_p2 h=>zo J (dY (ht J) q_p2)<|zo J (bY nc gb J J)<|zo J (bY lB fT J J)<|zo J (bw tt J J)<|ax J<|bF h fun e q_e h=>zo J (im pK jI J J J q_e)<|zo J (bY qK kO J J)<|zo J (bw wI J J)<|zo J ((show bL _ _ _ _ ((eN aM Gs kS (fun(x:aZ)=>(kY r.2.1) x)))from gk (cts:=[bp bV r.2.1]) (caps:=[.tmp 6]) QB ⟨(ht J),be⟩ (fun x y h=>Ll _ _ h)))<|bF h fun r1 q_r1 h=>zo J (aJ Ms (FR _ _ q_r1) ⟨(ht J),(ht J),be⟩)<|bo J<|ap<|ae<|au ?_;refine ax J<|zo J (ep (ht J) hI)<|ap<|dh h J (fun h=>?_) (fun h=>?_)
  ·refine au<|zo J (cE (y:=Ck) eM EB eK (J))<|aE eM J ay J (ht J) (ht J)<|ap<|al<|aa<|dw 4 J ?_;cases so h;exact fz J eM J J J
  ·refine dz<|au<|ax J<|bF h fun p3 q_p3 h=>zo J (dY (ht J) q_p3)<|zo J (bY nc gb J J)<|zo J (bY lB fT J J)<|zo J (bw tt J J)<|ax J<|bF h fun e1 q_e1 h=>zo J (im pK jI J J J q_e1)<|zo J (bY qK kO J J)<|zo J (bw wI J J)<|ax J<|bF h fun e2 q_e2 h=>zo J (im n9 eM J J J q_e2)<|zo J (bw eM J J)<|aE eM J ay J (ht J) (ht J)<|ap<|al<|dw 4 J ?_;cases so h;exact fz J eM J J J

theorem Nz(s1:(List jn))(s2:(List jn))(eq:(jn→jn→Option Bool)){R:Bool}(h:ev s1 s2 eq=some R):aW aM 77 [d6 (fu) s1,d6 (fu) s2,(eN aM MK kS (fun(x:jn×jn)=>eq x.1 x.2))] (gu R):=by
 refine aW.of Tryz.func77 J J J fun w0 S0=>au<|zo J (eL)<|ap<|ae<|au<|ax J<|zo J (gJ pJ J)<|ax J<|zo J (gJ pJ J)<|zo J (cZ (ht J) (ht J))<|ap<|dh h J (fun h=>?_) (fun h=>?_)
 ·refine au<|zo J (eL)<|ap<|al<|aa ?_;cases so h;exact aB J J
 ·refine dz<|ae<|au<|ax J<|zo J (gJ pJ J)<|zo J (bg hI)<|ap<|av<|aP (k:=15) J fun hN=>bu ?_;refine aG (dk (Z:=fun ls i=>(s1.drop i=ls)∧cY s2 eq ls i=some R) (Of:=fun _ i=>[]) (Gf:=fun _ i=>[(1,d6 (fu) s2),(2,(eN aM MK kS (fun(x:jn×jn)=>eq x.1 x.2))),(15,d6 (fu) s1),(16,gR s1),(17,bQ (i:Int))]) (fun i h=>?_) (fun e tl ih i h=>?_) s1 0 ⟨J,h⟩) (aX J)
  ·obtain⟨hx,h⟩:=h
   refine aq<|au<|zo J (eD J J)<|ap<|ae<|bn (ht J) (cW hx)<|aY ?_;refine ac (ac (aC ?_));refine am<|au<|zo rfl (eL)<|ap<|al ?_;cases so h;exact aB J J
  ·obtain⟨hx,h⟩:=h
   refine aq<|au<|zo J (eD J J)<|ap<|ae<|bm (ht J) (cR hx)<|dz<|ae<|av<|au<|ax J<|zo J (im pJ jo J J J (cS hx))<|zo J (bw jo J J)<|bc (r:=fu) (x:=Gq) jo (fun _=>vj _) J fun b=>bo J<|aE jo J ay J (ht J) (ht J)<|aV 8 J<|ap<|ae ?_;refine ai<|ax J<|ax J<|bF h fun e1 q_e1 h=>zo J (im pJ jo J J J q_e1)<|zo J (bw jo J J)<|bc (r:=fu) (x:=Gq) jo (fun _=>vj _) J fun b1=>aE jo J ay J (ht J) (ht J)<|aV 9 J<|ap<|au<|ax J<|zo J (bw jo J J)<|zo J (bw jo J J)<|bF h fun r q_r h=>zo J (fK (args:=MK) (res:=xu) (f:=(fun(x:jn×jn)=>eq x.1 x.2)) (x:=((e,e1):jn×jn)) (ht J) q_r ⟨(ht J),(ht J),be⟩)<|zo J (dn (ht J))<|ap<|dh h J (fun h=>?_) (fun h=>?_)
   ·refine au<|zo J (eL)<|ap<|al ?_;refine aA (aa (aa (aA (aa ?_))));cases so h;exact aB J J
   ·refine bt<|ak<|am<|ai<|zo rfl (jN (cy hx hN) rfl)<|ax rfl<|aH ?_;exact aO (aG (ih (i+1) ⟨cx hx,h⟩) (aX J))

theorem Ny(p:jn)(y:jn){R:Bool}(h:nr p y=some R):aW aM 78 [tD fu p,tD fu y] (gu R):=by
 refine aW.of Tryz.func78 J J J fun w0 S0=>au<|zo J (kZ J)<|zo J (kZ J)<|zo J (eL)<|ap<|au<|zo J (bY lj jM J J)<|zo J (bw bK J J)<|zo J (bY lj jM J J)<|zo J (bw bK J J)<|zo J (bD (ht J) (ht J))<|bo J<|ap<|al ?_;cases so h;exact aB J J

theorem Kx(s:(List bH))(f:(bH→Option Bool)){R:Int}(h:gH s f=some R):aW aM 250 [d6 (bh) s,(eN aM JJ kS (fun(x:bH)=>f x))] (bQ R):=by
 refine aW.of Tryz.func250 J J J fun w0 S0=>au<|zo J (dA)<|ap<|ae<|au<|ax J<|zo J (gJ kE J)<|zo J (bg hI)<|ap<|av<|aP (k:=6) J fun hN=>bu ?_;refine aG (dk (Z:=fun ls i=>(s.drop i=ls)∧d7 f ls i=some R) (Of:=fun _ i=>[]) (Gf:=fun _ i=>[(0,d6 (bh) s),(1,(eN aM JJ kS (fun(x:bH)=>f x))),(7,gR s),(8,bQ (i:Int))]) (fun i h=>?_) (fun e tl ih i h=>?_) s 0 ⟨J,h⟩) (aX J)
 ·obtain⟨hx,h⟩:=h
  refine aq<|au<|zo J (eD J J)<|ap<|ae<|bn (ht J) (cW hx)<|aY ?_;refine ac (ac (aC ?_));refine am<|au<|zo rfl (dA)<|ap<|al ?_;cases so h;exact aB J J
 ·obtain⟨hx,h⟩:=h
  refine aq<|au<|zo J (eD J J)<|ap<|ae<|bm (ht J) (cR hx)<|dz<|ae<|av<|au<|ax J<|bo J<|ap<|au<|ax J<|ax J<|ax J<|zo J (im kE dK J J J (cS hx)) ?_;refine zo J (bw dK J J)<|bF h fun r q_r h=>zo J (fK (args:=JJ) (res:=xu) (f:=(fun(x:bH)=>f x)) (x:=((e):bH)) (ht J) q_r ⟨(ht J),be⟩)<|ap<|dh h J (fun h=>?_) (fun h=>?_)
  ·refine au<|ax J<|bo J<|ap<|al ?_;refine aA (aa (aa (aA (aa ?_))));cases so h;exact aB J J
  ·refine bt<|ak<|am<|ai<|zo rfl (jN (cy hx hN) rfl)<|ax rfl<|aH ?_;exact aO (aG (ih (i+1) ⟨cx hx,h⟩) (aX J))

theorem KJ(s:(List bH))(f:(bH→Option Bool)){R:Bool}(h:fY s f=some R):aW aM 211 [d6 (bh) s,(eN aM JJ kS (fun(x:bH)=>f x))] (gu R):=by
 refine aW.of Tryz.func211 J J J fun w0 S0=>au<|zo J (eL)<|ap<|au<|ax J<|ax J<|bF h fun r q_r h=>zo J (aJ PM (Kx _ _ q_r) ⟨(ht J),(ht J),be⟩)<|zo J (dG (ht J) hI)<|bo J<|ap<|al ?_;cases so h;exact aB J J

theorem KI(n:bH){R:Bool}(h:wk n=some R):aW aM 212 [tD bh n] (gu R):=by
 refine aW.of Tryz.func212 J J J fun w0 S0=>au<|zo J (kZ J)<|zo J (eL)<|ap<|au<|zo J (bY iS eE J J)<|zo J (bw bK J J)<|bF h fun r q_r h=>zo J (aJ Mn (FM _ q_r) ⟨(ht J),be⟩)<|bo J<|ap<|al ?_;cases so h;exact aB J J

theorem Lk(e:bT){R:Bool}(h:AC e=some R):aW aM 152 [tD cm e] (gu R):=by
 refine aW.of Tryz.func152 J J J fun w0 S0=>au<|zo J (kZ J)<|zo J (eL)<|ap<|au<|zo J (bw kV J J)<|bF h fun r q_r h=>zo J (aJ LQ (BI _ q_r) ⟨(ht J),be⟩)<|zo J (jk J)<|ax J<|bF h fun t q_t h=>bC J J (fun hg=>bY fV dj J J)<|bC J J (fun hg=>aL mJ J J (aI J hg)) ?_
 obtain⟨r1,h1t,h0t⟩:=og q_t
 have q_r1g:=fun hb=>(h1t hb).1
 refine bC J J (fun hg=>aJ Qa (KJ _ _ (q_r1g hg)) ⟨(aI J hg),(zM PZ fun x y h=>KI _ h),be⟩)<|bC J J (fun hg=>dn (aI J hg))<|zo J (cV (ht J) (fun hb=>(aI J hb)) (fun hb=>(h1t hb).2) h0t)<|bo J<|ap<|al ?_;cases so h;exact aB J J

theorem IT(s:(List bH)){R:(List bH)}(h:fm s=some R):io aM 214 [d6 (bh) s] false bh 149 R:=by
 refine io.of Tryz.func214 J J J fun w0 S0=>au<|ci false bh 149<|zo J (a8 rQ)<|ap<|ae<|au<|ax J<|Dx kE (ht J) J fun isnil hisnil=>ap<|ne (ht J) (fun hc=>?_) (fun hc=>?_)
 ·have hx:=hisnil hc
  have h:some ([]:List bH)=some R:=by simpa [fm,mC,hx] using h
  refine au<|ci false bh 149<|zo J (a8 rQ)<|ap<|al<|aa ?_;cases so h;exact iT J J
 ·refine dz<|au<|jq (r:=bh) (ys:=([]:List bH)) (xs:=[]) kE dK J J J J J trivial J fun l c=>ax J<|bF h fun x q_x h=>dv dK J J J J kE J J (ht J) (ht J) q_x fun l1 c1=>bo J<|ap<|al ?_;cases so h;exact iT J J
theorem IW(e:bT){R:(List bT)}(h:AE e=some R):io aM 153 [tD cm e] false cm 45 R:=by
 refine io.of Tryz.func153 J J J fun w0 S0=>au<|zo J (kZ J)<|ci false cm 45<|zo J (a8 rQ)<|ap<|au<|zo J (bw kV J J)<|bF h fun r q_r h=>zo J (aJ Mw (FV _ q_r) ⟨(ht J),be⟩)<|ax J<|zo J (lg J J)<|zo J (lg J J)<|bo J<|bo J<|ap<|ae<|au<|ax J ?_;refine zo J (dn (ht J))<|ap<|dh h J (fun h=>?_) (fun h=>?_)
 ·refine au<|ci false cm 45<|zo J (a8 rQ)<|ap<|al<|aa ?_;cases so h;exact iT J J
 ·refine dz<|au<|ci false cm 45<|zo J (a8 rQ)<|ap<|au<|zo J (bY fV dj J J)<|zo J (bw mJ J J)<|zo J (gJ kE J)<|zo J (gj (ht J) hI)<|jq (r:=bV) (ys:=[(IntKind.i64.wrap ((e.Nodes.length:Int)-(1:Int)))]) (xs:=[.tmp 23]) dd bK J J J J J ⟨(ht J),be⟩ J fun l c=>bo J<|ap<|ae<|av<|bu<|n8<|nd<|fe ?_;refine aG (Gg (Z:=fun n out l1 c1 open1 l2 c2=>jC e r n out open1=some R) (Of:=fun out l1 c1 open1 l2 c2=>[cC cm 45 l1 c1 out,cC bV 3 l2 c2 open1]) (Gf:=fun out l1 c1 open1 l2 c2=>[(1,bp cm e),(3,kC r.1),(5,nJ l1 c1 out),(6,nJ l2 c2 open1)]) (fun out l1 c1 open1 l2 c2 h=>nn h) (fun n ih out l1 c1 open1 l2 c2 h=>?_) sP ([]:List bT) none 0 ([(IntKind.i64.wrap ((e.Nodes.length:Int)-(1:Int)))]) l c h) (aX J);refine aq<|ae<|au<|ax J<|zo J (eT dd (.tail _ (.head _)) (ht J))<|zo J (fG (ht J) hI)<|ap<|dh h J (fun h=>?_) (fun h=>?_)
  ·refine dz ?_;refine AV (Z:=fun out1 l3 c3 open2 l4 c4=>qO (jC e r n) out1 open2=some R) (Of:=fun out1 l3 c3 open2 l4 c4=>[cC cm 45 l3 c3 out1,cC bV 3 l4 c4 open2]) (Gf:=fun out1 l3 c3 open2 l4 c4=>[(1,bp cm e),(3,kC r.1),(5,nJ l3 c3 out1),(6,nJ l4 c4 open2)]) (fun out1 l3 c3 open2 l4 c4 h=>?_) (fun K=>?_)
   ·skip
    exact aO (aG (ih out1 l3 c3 open2 l4 c4 h) (aX J))
   ·skip
    refine au<|ax J<|ax J<|zo J (eT dd (.tail _ (.head _)) (ht J))<|zo J (gj (ht J) hI)<|bF h fun e1 q_e1 h=>zo J (cH dd bK (.tail _ (.head _)) (ht J) (ht J) q_e1)<|zo J (ew (r:=bV) (i:=(IntKind.i64.wrap ((open1.length:Int)-(1:Int)))) (foff:=0) bK J J cO J (.tail _ (.head _)) q_e1 (ht J))<|bo J<|ap<|au<|ax J<|ax J<|zo J (eT dd (.tail _ (.head _)) (ht J))<|zo J (gj (ht J) hI)<|bF h fun y q_y h=>zo J (kq dd bK J (.tail _ (.head _)) (ht J) (ht J) q_y)<|ca<|y5 q_y<|bo J<|aH ?_;refine am<|au<|zo rfl (bY fV dj rfl rfl)<|zo rfl (bw mJ rfl rfl)<|ax rfl<|bF h fun e2 q_e2 h=>zo J (im kE dK J J J q_e2)<|zo J (bw dK J J)<|bc (r:=bh) (x:=DH) dK (fun _=>nh _) J fun b=>aE dK J ay J (ht J) (ht J)<|aV 8 J<|ap<|ae<|au<|zo J (bY iS eE J J)<|zo J (bw bK J J)<|zo J (jk J)<|ap<|dh h J (fun h=>?_) (fun h=>?_)
    ·refine au<|ax J<|zo J (bY uN qH J J)<|zo J (bw bK J J)<|zo J (bY uO qI J J)<|zo J (bw bK J J)<|zo J (ba (r:=bV) (ys:=[e2.R,e2.L]) (xs:=[.tmp 49,.tmp 51]) dd bK J J J J J ⟨(ht J),(ht J),be⟩)<|bF h fun open3 q_open3 h=>dv bK J J J J dd J J (ht J) (ht J) q_open3 fun l5 c5=>bo J<|ap<|aY ?_;refine ac (aC ?_);refine br ?_;exact bX (K out l1 c1 open3 l5 c5 h) (aX J)
    ·refine dz<|au<|ax J<|ax J<|bF h fun e3 q_e3 h=>zo J (im dd bK J J J q_e3)<|zo J (bw bK J J)<|bo J<|ap<|au<|zo J (bY fV dj J J)<|zo J (bw mJ J J)<|ax J<|ax J<|zo J (kw (ht J) hI)<|bF h fun y1 q_y1 h=>zo J (G1 kE dK J (ht J) (ht J) (ht J) q_y1)<|bF h fun r1 q_r1 h=>jj PY (IT _ q_r1) ⟨(ht J),be⟩ J fun l6 c6=>zo J (cE (y:=lK (⟨r1⟩:bT) (an l6 c6 r1.length)) kV RE zY (⟨_,_,_,_,_,J,Cw,J,(DL (ht J)),J⟩)) ?_;refine ci false bh 149<|bc (r:=kI) (x:=lK tm (an none 0 (([]:List bH).length))) kV zY J fun b1=>fy kV J (pO J) J (ht J) (ht J)<|ca<|F8<|ap<|ae<|au<|zo J (gq 0 fV J J J)<|zo J (fC mJ wi (.head _) J (ht J))<|zo J (eT kE (.tail _ (.head _)) (ht J))<|zo J (bg hI)<|ap<|av<|kQ (.tail _ (.head _)) fun hN=>bu<|fe<|fe<|n8<|er ?_;refine aG (kB (Z:=fun ls i part=>(r1.drop i=ls)∧mj (jC e r n) out y e3 ls i part=some R) (Of:=fun _ i part=>[cC cm 45 l1 c1 out,cC bV 3 l2 c2 y,bx kI 45 b1 (lK part (an l6 c6 part.Nodes.length)),cC bh 149 l6 c6 part.Nodes]) (Gf:=fun _ i part=>[(1,bp cm e),(3,kC r.1),(5,nJ l1 c1 out),(6,nJ l2 c2 y),(9,bQ e3),(10,tV (aF b1 0)),(68,gR r1),(69,bQ (i:Int))]) (fun i part h=>?_) (fun e4 tl ih1 i part h=>?_) r1 0 ({(⟨r1⟩:bT)with Nodes:=r1}:bT) ⟨J,h⟩) (aX J)
     ·obtain⟨hx,h⟩:=h
      refine aq<|au<|zo J (eD J J)<|ap<|ae<|bn (ht J) (cW hx)<|aY ?_;refine ac (ac (aC ?_));refine am<|ai<|ax rfl<|fW<|m3<|zo rfl (yj (q:=cm) (y:=part) kV J J J J (.tail _ (.tail _ (.tail _ (.head _)))) (fun _ _ _ ho h=>yU (kc ho (.head _)) h) (ht J))<|zo J (ba (r:=cm) (ys:=[part]) (xs:=[.tmp 104]) A2 kV J J J J J ⟨(ht J),be⟩)<|ca<|bF h fun out2 q_out2 h=>dv kV J J J J A2 J J (ht J) (ht J) q_out2 fun l7 c7=>bo J<|aH<|ak<|br<|bv<|aK<|bv ?_;exact bX (K out2 l7 c7 y l2 c2 h) (aX J)
     ·obtain⟨hx,h⟩:=h
      refine aq<|au<|zo J (eD J J)<|ap<|ae<|bm (ht J) (cR hx)<|dz<|ae<|av<|au<|ax J<|bo J<|ap<|au<|zo J (gq 0 fV J J J)<|zo J (fC mJ wi (.tail _ (.tail _ (.head _))) J (ht J))<|ax J<|bF h fun e5 q_e5 h=>?_;refine zo J (cH kE dK (.tail _ (.tail _ (.tail _ (.head _)))) (ht J) (ht J) q_e5)<|bo J<|ap ?_;refine fX (Z:=fun part1=>qN e3 (mj (jC e r n) out y e3 tl) i part1=some R) (Of:=fun part1=>[cC cm 45 l1 c1 out,cC bV 3 l2 c2 y,bx kI 45 b1 (lK part1 (an l6 c6 part1.Nodes.length)),cC bh 149 l6 c6 part1.Nodes]) (Gf:=fun part1=>[(1,bp cm e),(3,kC r.1),(5,nJ l1 c1 out),(6,nJ l2 c2 y),(9,bQ e3),(10,tV (aF b1 0)),(12,tV (iJ l6 ((i:Int).toNat*8+0))),(68,gR r1),(69,bQ (i:Int))]) (fun part1 h=>?_) (fun K1=>?_)
      ·skip
       refine au<|ax J<|bF h fun e6 q_e6 h=>zo J (sy (.tail _ (.tail _ (.tail _ (.head _)))) q_e6 (ht J))<|zo J (eO (o:=(i:Int).toNat*8+0) (n:=(i:Int).toNat*8+2) uN J (.tail _ (.tail _ (.tail _ (.head _)))) q_e6 (ht J) J)<|zo J (ew (r:=bh) (i:=(i:Int)) (foff:=2) bK J J qH J (.tail _ (.tail _ (.tail _ (.head _)))) q_e6 (ht J))<|zo J (dG (ht J) hI)<|ap<|dh h J (fun h=>?_) (fun h=>?_)
       ·refine ai<|ax J<|zo J (sy (.tail _ (.tail _ (.tail _ (.head _)))) q_e6 (ht J))<|zo J (eO (o:=(i:Int).toNat*8+0) (n:=(i:Int).toNat*8+2) uN J (.tail _ (.tail _ (.tail _ (.head _)))) q_e6 (ht J) J)<|zo J (ew (r:=bh) (i:=(i:Int)) (foff:=2) bK J J qH J (.tail _ (.tail _ (.tail _ (.head _)))) q_e6 (ht J))<|ax J<|zo J (gj (ht J) (ht J))<|zo J (sy (.tail _ (.tail _ (.tail _ (.head _)))) q_e6 (ht J))<|zo J (eO (o:=(i:Int).toNat*8+0) (n:=(i:Int).toNat*8+2) uN J (.tail _ (.tail _ (.tail _ (.head _)))) q_e6 (ht J) J)<|fW<|bF h fun st q_st h=>m2 bK J D8 J q_e6 (so q_st) (ht J) (ht J)<|qa (O' :=[cC bh 149 l6 c6 st,cC cm 45 l1 c1 out,cC bV 3 l2 c2 y,bx kI 45 b1 (lK part1 (an l6 c6 st.length))]) (by rw [iO (so q_st)])<|aH<|ak<|am<|ai<|zo rfl (jN (cy hx hN) rfl)<|ax rfl<|aH<|bA<|bA<|bA ?_;exact aO (aG (ih1 (i+1) ({part1 with Nodes:=st}:bT) ⟨cx hx,h⟩) (aX J))
       ·refine bt<|ak<|am<|ai<|zo rfl (jN (cy hx hN) rfl)<|ax rfl<|aH ?_;exact aO (aG (ih1 (i+1) part1 ⟨cx hx,h⟩) (aX J))
      ·skip
       refine au<|ax J<|zo J (sy (.tail _ (.tail _ (.tail _ (.head _)))) q_e5 (ht J))<|zo J (eO (o:=(i:Int).toNat*8+0) (n:=(i:Int).toNat*8+1) uO J (.tail _ (.tail _ (.tail _ (.head _)))) q_e5 (ht J) J)<|zo J (ew (r:=bh) (i:=(i:Int)) (foff:=1) bK J J qI J (.tail _ (.tail _ (.tail _ (.head _)))) q_e5 (ht J))<|zo J (dG (ht J) hI)<|ap<|dh h J (fun h=>?_) (fun h=>?_)
       ·refine ai<|ax J<|zo J (sy (.tail _ (.tail _ (.tail _ (.head _)))) q_e5 (ht J))<|zo J (eO (o:=(i:Int).toNat*8+0) (n:=(i:Int).toNat*8+1) uO J (.tail _ (.tail _ (.tail _ (.head _)))) q_e5 (ht J) J)<|zo J (ew (r:=bh) (i:=(i:Int)) (foff:=1) bK J J qI J (.tail _ (.tail _ (.tail _ (.head _)))) q_e5 (ht J))<|ax J<|zo J (gj (ht J) (ht J))<|zo J (sy (.tail _ (.tail _ (.tail _ (.head _)))) q_e5 (ht J))<|zo J (eO (o:=(i:Int).toNat*8+0) (n:=(i:Int).toNat*8+1) uO J (.tail _ (.tail _ (.tail _ (.head _)))) q_e5 (ht J) J)<|fW<|bF h fun st1 q_st1 h=>m2 bK J D9 J q_e5 (so q_st1) (ht J) (ht J)<|ji (iO (so q_st1)) 73 J<|qa (O' :=[cC bh 149 l6 c6 st1,cC cm 45 l1 c1 out,cC bV 3 l2 c2 y,bx kI 45 b1 (lK part (an l6 c6 st1.length))]) (by rw [iO (so q_st1)])<|aH<|bA<|bA<|bA ?_;exact bX (K1 ({part with Nodes:=st1}:bT) h) (aX J)
       ·refine bt ?_;exact bX (K1 part h) (aX J)
  ·refine aY ?_;refine ac (ac (aC ?_));refine am<|au<|ax rfl<|bo rfl<|ap<|al ?_;cases so h;exact iT J J
end Go.Proofs.YtmogpgcfognefaaGreatDoor

