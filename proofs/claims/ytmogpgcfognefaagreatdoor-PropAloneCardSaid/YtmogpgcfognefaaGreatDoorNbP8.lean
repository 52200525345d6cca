/- cF of this claim: P8. -/
import Derived.Test.YtmogpgcfognefaaGreatDoorNbT
import Derived.Test.YtmogpgcfognefaaGreatDoorNbP7
set_option linter.all false
namespace Go.Proofs.YtmogpgcfognefaaGreatDoor
open Go
set_option maxRecDepth 100000

theorem Et(p:(Option bH))(frag:Int){R:(List bp)}(h:fb p frag=some R):fx aP 42 [tD mV p,cd frag] false bN 55 R:=by
 refine fx.of Tryz.func42 J J J fun w0 S0=>aq<|ci false bN 55<|zo J (aZ q5)<|ap<|aq<|aA J<|bP h fun p1 q_p1 h=>zo J (ec (ht J) q_p1)<|zo J (bZ nh gr J J)<|zo J (bZ lT gc J J)<|zo J (bE sH J J)<|aA J<|bP h fun e q_e h=>zo J (j8 o9 je J J J q_e)<|zo J (bE je J J)<|aX (r:=cn) (x:=yj) je (fun _=>lD _) J fun b=>aC je J ax J (ht J) (ht J)<|aT 5 J<|ap ?_;refine aq<|ci false bN 55<|zo J (aZ q5)<|ap<|aq<|bP h fun r q_r h=>zo J (aO Ps (LA q_r) trivial)<|bu J<|ap<|ae<|aq<|zo J (bZ m7 ig J J)<|zo J (bE rX J J)<|zo J (jL la J)<|zo J (bj hI)<|ap<|av<|aY (k:=22) J fun hN=>?_;refine bO<|dV<|nk ?_;refine aM (oD (Z:=fun ls i out l c=>(e.Nodes.drop i=ls)∧cC p e r ls out=some R) (Of:=fun _ i out l c=>[cr bN 55 l c out]) (Gf:=fun _ i out l c=>[(0,tD mV p),(5,bB cn e),(6,n6 l c out),(7,HU (fun y:((Option co)→Option bp)=>yo aP zR zP (fun(x:(Option co))=>y x)) zQ r),(22,fX (aE) e.Nodes),(23,jt e.Nodes),(24,cd (i:Int))]) (fun i out l c h=>?_) (fun e1 tl ih i out l c h=>?_) e.Nodes 0 ([]:List bp) none 0 ⟨J,h⟩) (bh J)
 ·obtain⟨hx,h⟩:=h
  refine au<|aq<|zo J (fM J J)<|ap<|ae<|bt (ht J) (du hx)<|bn ?_;refine ac (ac (aG ?_));refine an<|aq<|aA rfl<|bu rfl<|ap<|am ?_;cases so h;exact gN J J
 ·obtain⟨hx,h⟩:=h
  refine au<|aq<|zo J (fM J J)<|ap<|ae<|br (ht J) (dn hx)<|eK<|ae<|av<|aq<|zo J (j8 la d3 J J J (dB hx))<|zo J (bE d3 J J)<|aX (r:=aE) (x:=AW) d3 (fun _=>fh _) J fun b1=>aC d3 J ax J (ht J) (ht J)<|aT 9 J<|ap<|aq<|aA J ?_;refine zo J (bE d3 J J)<|zo J (cJ (y:=(⟨p,e1,vZ,vZ⟩:co)) MA MT HW (⟨_,_,_,_,_,J,Fn,J,(ht J),⟨_,_,_,_,_,J,Fm,J,(ht J),J⟩⟩))<|wn (ht J) J fun b2=>bu J<|ap ?_;refine ge (Z:=fun x=>eQ e r (cC p e r tl) e1 out x=some R) (Of:=fun x=>[cr bN 55 l c out,bx jm 170 b2 x]) (Gf:=fun x=>[(0,tD mV p),(5,bB cn e),(6,n6 l c out),(7,HU (fun y:((Option co)→Option bp)=>yo aP zR zP (fun(x:(Option co))=>y x)) zQ r),(9,bB aE e1),(10,tV (aD b2 0)),(22,fX (aE) e.Nodes),(23,jt e.Nodes),(24,cd (i:Int))]) (fun x h=>?_) (fun K=>?_)
  ·skip
   refine ge (Z:=fun x1=>f6 e r (cC p e r tl) e1 out x1=some R) (Of:=fun x1=>[cr bN 55 l c out,bx jm 170 b2 x1]) (Gf:=fun x1=>[(0,tD mV p),(5,bB cn e),(6,n6 l c out),(7,HU (fun y:((Option co)→Option bp)=>yo aP zR zP (fun(x:(Option co))=>y x)) zQ r),(9,bB aE e1),(10,tV (aD b2 0)),(22,fX (aE) e.Nodes),(23,jt e.Nodes),(24,cd (i:Int))]) (fun x1 h=>?_) (fun K1=>?_)
   ·skip
    refine aq<|zo J (cJ (y:=(⟨(4:Int),[]⟩:bp)) ek BL gI (⟨_,_,_,_,_,J,l0,J,hI,J⟩))<|aX (r:=bN) (x:=vZ) ek (fun _=>gI _) J fun b3=>aC ek J ax J (ht J) (ht J)<|ap ?_;refine ge (Z:=fun x2=>fZ (cC p e r tl) out x2=some R) (Of:=fun x2=>[cr bN 55 l c out,bx bN 55 b3 x2]) (Gf:=fun x2=>[(0,tD mV p),(5,bB cn e),(6,n6 l c out),(7,HU (fun y:((Option co)→Option bp)=>yo aP zR zP (fun(x:(Option co))=>y x)) zQ r),(11,tV (aD b3 0)),(22,fX (aE) e.Nodes),(23,jt e.Nodes),(24,cd (i:Int))]) (fun x2 h=>?_) (fun K2=>?_)
    ·skip
     refine ak<|aA J<|zo J (aV ek J J cV (.tail _ (.head _)) (ht J))<|zo J (bF (r:=bN) (ys:=[x2]) (xs:=[.tmp 65]) rU ek J J J J J ⟨(ht J),be⟩)<|bP h fun out1 q_out1 h=>dj ek J J J J rU J J (ht J) (ht J) q_out1 fun l1 c1=>bu J<|aK<|al<|an<|ak<|zo rfl (lk (cQ hx hN) rfl)<|aA rfl<|aK<|bf<|bw ?_;exact aW (aM (ih (i+1) out1 l1 c1 ⟨cP hx,h⟩) (bh J))
    ·skip
     refine aq<|zo J (bZ sW m5 J J)<|zo J (bE bJ J J)<|zo J (j6 J)<|ap<|dQ h J (fun h=>?_) (fun h=>?_)
     ·refine ak<|aA J<|zo J (bZ gD cK J J)<|zo J (bE bJ J J)<|zo J (vl (γ:=(fun y:((Option co)→Option bp)=>yo aP zR zP (fun(x:(Option co))=>y x))) (z:=(fun _=>none)) vI (ft k7) Me (fun _=>If) (ht J) (nX (ht J)))<|aA J<|kw<|aT 62 J<|J2 62 J<|bP h fun r1 q_r1 h=>zo J (FH (args:=zR) (res:=zP) (f:=(fun(x:(Option co))=>((nW r e1.Op).getD (fun _=>none)) x)) (x:=(((some x1)):(Option co))) (ht J) q_r1 ⟨(ht J),be⟩)<|aC ek J ax J (ht J) (ht J)<|aK<|bf ?_;exact cb (K2 r1 h) (bh J)
     ·refine bC<|aJ<|bw<|bf ?_;exact cb (K2 (⟨(4:Int),[]⟩:bp) h) (bh J)
   ·skip
    refine aq<|zo J (bZ uW m4 J J)<|zo J (bE bJ J J)<|zo J (ev (ht J) hI)<|ap<|dQ h J (fun h=>?_) (fun h=>?_)
    ·refine ak<|aA J<|aA J<|zo J (bZ uW m4 J J)<|zo J (bE bJ J J)<|bP h fun e2 q_e2 h=>zo J (cz rU ek (.head _) (ht J) (ht J) q_e2)<|zo J (dR (r:=bN) (i:=e1.B) (foff:=0) ek J J cV J (.head _) q_e2 (ht J))<|zo J (aR (ht J))<|zo J (fq 15 Ax J J J)<|bT<|aC ek J Fk J (ht J) (ht J)<|aK<|bf ?_;exact cb (K1 (co.mk x.checker x.n x.a_ e2) h) (bh J)
    ·refine bC ?_;exact cb (K1 x h) (bh J)
  ·skip
   refine aq<|zo J (bZ rb kY J J)<|zo J (bE bJ J J)<|zo J (ev (ht J) hI)<|ap<|dQ h J (fun h=>?_) (fun h=>?_)
   ·refine ak<|aA J<|aA J<|zo J (bZ rb kY J J)<|zo J (bE bJ J J)<|bP h fun e3 q_e3 h=>zo J (cz rU ek (.tail _ (.head _)) (ht J) (ht J) q_e3)<|zo J (dR (r:=bN) (i:=e1.A) (foff:=0) ek J J cV J (.tail _ (.head _)) q_e3 (ht J))<|zo J (aR (ht J))<|zo J (fq 13 qj J J J)<|aC ek J Fl J (ht J) (ht J)<|aK<|bf ?_;exact cb (K (co.mk (⟨p,e1,vZ,vZ⟩:co).checker (⟨p,e1,vZ,vZ⟩:co).n e3 (⟨p,e1,vZ,vZ⟩:co).b) h) (bh J)
   ·refine bC<|bf ?_;exact cb (K (⟨p,e1,vZ,vZ⟩:co) h) (bh J)
theorem Hk(p:eM)(from1:Int){R:Int×Int×Bool}(h:ny p from1=some R):bg aP 15 [tD dk p,cd from1] (tT [cd R.1,cd R.2.1,ij R.2.2]):=by
 refine Cc Tryz.func15 J J J fun w0 S0=>aq<|zo J (mp J)<|aX (r:=bU) (x:=(0:Int)) bJ (fun _=>J) J fun b=>aX (r:=bU) (x:=(0:Int)) bJ (fun _=>J) J fun b1=>aX (r:=rB) (x:=false) GF (fun _=>J) J fun b2=>ap<|ae<|aq<|zo J (bE nR J J)<|aA J<|bP h fun it q_it h=>zA Nn (Es _ _ q_it) ⟨(ht J),(ht J),be⟩ J fun v fp=>ap<|av<|bP h fun r q_r h=>L6 ?_;refine Gi (fun(i:Bool×Int×Int)=>[bx rB 4 b2 i.1,bx bU 3 b1 i.2.1,bx bU 3 b i.2.2]) (fun(i:Bool×Int×Int)=>(i.1,i.2.1,i.2.2)) (fun _=> .ret) J (ht J) (false,(0:Int),(0:Int)) J q_r (fun _=>J) J (fun i x r1 h lp rec1 _ _ _=>?_) (fun i j hi bd=>⟨fun hj=>?_,fun _ hj=>?_⟩)
 ·obtain⟨x1,x2,x3⟩:=i
  replace h:qX x x1 x2 x3=some r1:=h
  refine(show CG _ _ _ [oH lp rec1 .ready none,bx rB 4 b2 x1,bx bU 3 b1 x2,bx bU 3 b x3] _ from ?_);refine DM (G' :=[(0,tD dk p),(1,cd from1),(2,bB dk p),(4,tV (aD b 0)),(5,tV (aD b1 0)),(6,tV (aD b2 0)),(9,tD dk p),(10,cd from1),(12,cd x.1),(13,cd x.2)]) ?_ ⟨J,J,J,J,J,J,J,J,J,J,be⟩;refine aq<|bu J<|ap<|ak<|bu J<|aK<|Gq<|av<|aq<|aA J<|aA J<|eT<|aC bJ J ax J (ht J) (ht J)<|eT<|aC bJ J ax J (ht J) (ht J)<|eT<|aC GF J ax J (ht J) hB<|ap<|am<|aF ?_;refine aJ<|aJ<|aJ<|bm ?_;cases so h;exact AU 0 J (true,x.2,x.1) J J
 ·skip
  obtain⟨x4,x5,x6⟩:=i
  obtain rfl:x4=r.1.2.1:=congrArg (fun q:Bool×Int×Int=>q.1) hi
  obtain rfl:x5=r.1.2.2.1:=congrArg (fun q:Bool×Int×Int=>q.2.1) hi
  obtain rfl:x6=r.1.2.2.2:=congrArg (fun q:Bool×Int×Int=>q.2.2) hi
  have h:=ct h (by rw [hj];rfl);refine(show AT _ _ _ [AX bd,bx rB 4 b2 r.1.2.1,bx bU 3 b1 r.1.2.2.1,bx bU 3 b r.1.2.2.2] _ from ?_);refine cb (G' :=[(0,tD dk p),(1,cd from1),(2,bB dk p),(4,tV (aD b 0)),(5,tV (aD b1 0)),(6,tV (aD b2 0)),(9,tD dk p),(10,cd from1)]) ?_ ⟨J,J,J,J,J,J,J,J,be⟩;refine al<|an<|aq<|eT<|aC bJ rfl ax rfl (ht rfl) hI<|eT<|aC bJ rfl ax rfl (ht rfl) hI<|eT<|aC GF rfl ax rfl (ht rfl) hB<|ap<|am<|aJ<|dP 4 rfl<|bf<|dP 5 rfl<|dP 6 rfl<|wo<|ru ?_;cases so h;exact AV (ts:=[cd 0,cd 0,ij false]) (rvs:=[.cell 4 3,.cell 5 3,.cell 6 4]) J J ⟨nr bJ J J J,nr bJ J J J,nr GF J J J,be⟩
 ·skip
  obtain⟨x7,x8,x9⟩:=i
  obtain rfl:x7=r.1.2.1:=congrArg (fun q:Bool×Int×Int=>q.1) hi
  obtain rfl:x8=r.1.2.2.1:=congrArg (fun q:Bool×Int×Int=>q.2.1) hi
  obtain rfl:x9=r.1.2.2.2:=congrArg (fun q:Bool×Int×Int=>q.2.2) hi
  have h:=cf h (by rw [hj];rfl);refine(show CG _ _ _ [AX bd,bx rB 4 b2 r.1.2.1,bx bU 3 b1 r.1.2.2.1,bx bU 3 b r.1.2.2.2] _ from ?_);refine DM (G' :=[(0,tD dk p),(1,cd from1),(2,bB dk p),(4,tV (aD b 0)),(5,tV (aD b1 0)),(6,tV (aD b2 0)),(9,tD dk p),(10,cd from1)]) ?_ ⟨J,J,J,J,J,J,J,J,be⟩;refine am ?_;refine aF (aa ?_);refine bm<|dP 4 J<|aJ<|dP 5 J<|bf<|dP 6 J<|wo<|ru ?_;cases so h;exact AV (ts:=[cd r.1.2.2.2,cd r.1.2.2.1,ij r.1.2.1]) (rvs:=[.cell 4 3,.cell 5 3,.cell 6 4]) J J ⟨nr bJ J J J,nr bJ J J J,nr GF J J J,be⟩

theorem Jq(place:Int)(n:aB){R:Bool}(h:lm place n=some R):bg aP 151 [tD aE n,bB bU place] (ij R):=by
 refine bg.of Tryz.func151 J J J fun w0 S0=>aq<|zo J (mp J)<|zo J (fP)<|ap<|aq<|zo J (bZ rb kY J J)<|zo J (bE bJ J J)<|zo J (bE bJ J J)<|zo J (bv (ht J) (ht J))<|aA J<|cD J J (fun hg=>bZ uW m4 J J)<|cD J J (fun hg=>aL bJ J J (aI J hg))<|cD J J (fun hg=>bE bJ J J)<|cD J J (fun hg=>bv (aI J hg) (aI J hg))<|zo J (pn J J)<|bu J<|ap<|am ?_;cases so h;exact aH J J

theorem Hh(p:(Option bH))(frag:Int){R:aB}(h:iS p frag=some R):bg aP 76 [tD mV p,cd frag] (tD aE R):=by
 refine bg.of Tryz.func76 J J J fun w0 S0=>aq<|aX (r:=aE) (x:=AW) d3 (fun _=>fh _) J fun b=>ap<|aq<|aA J<|bP h fun p1 q_p1 h=>zo J (ec (ht J) q_p1)<|zo J (bZ nh gr J J)<|zo J (bE nR J J)<|aA J<|bP h fun r q_r h=>zo J (aO N5 (Hk _ _ q_r) ⟨(ht J),(ht J),be⟩)<|aA J<|zo J (lv J J)<|zo J (lv J J)<|zo J (lv J J)<|aX (r:=bU) (x:=(0:Int)) bJ (fun _=>J) J fun b1=>bu J<|aC bJ J ax J (ht J) (ht J)<|aT 6 J ?_;refine bu J<|ap<|ae<|aq<|aA J<|zo J (d7 (ht J))<|ap<|dQ h J (fun h=>?_) (fun h=>?_)
 ·refine aq<|zo J (cJ (y:=AW) d3 FS fh (J))<|aC d3 J ax J (ht J) (ht J)<|ap<|am<|aa<|dP 4 J ?_;cases so h;exact f8 J d3 J J J
 ·refine eK<|aq<|aA J<|bP h fun p2 q_p2 h=>zo J (ec (ht J) q_p2)<|zo J (bZ nh gr J J)<|zo J (bZ lT gc J J)<|zo J (bE sH J J)<|aA J<|bP h fun e q_e h=>zo J (j8 o9 je J J J q_e)<|zo J (bZ m7 ig J J)<|zo J (bE rX J J)<|zo J ((show bS _ _ _ _ ((fC aP E5 lX (fun(x:aB)=>(lm r.2.1) x)))from hZ (cts:=[bB bU r.2.1]) (caps:=[.tmp 6]) N4 ⟨(ht J),be⟩ (fun x y h=>Jq _ _ h)))<|bP h fun r1 q_r1 h=>zo J (aO Kv (EA _ _ q_r1) ⟨(ht J),(ht J),be⟩)<|bu J<|ap<|ae<|aq ?_;refine aA J<|zo J (fH (ht J) hI)<|ap<|dQ h J (fun h=>?_) (fun h=>?_)
  ·refine aq<|zo J (cJ (y:=AW) d3 FS fh (J))<|aC d3 J ax J (ht J) (ht J)<|ap<|am<|aa<|dP 4 J ?_;cases so h;exact f8 J d3 J J J
  ·refine eK<|aq<|aA J<|bP h fun p3 q_p3 h=>zo J (ec (ht J) q_p3)<|zo J (bZ nh gr J J)<|zo J (bZ lT gc J J)<|zo J (bE sH J J)<|aA J<|bP h fun e1 q_e1 h=>zo J (j8 o9 je J J J q_e1)<|zo J (bZ m7 ig J J)<|zo J (bE rX J J)<|aA J<|bP h fun e2 q_e2 h=>zo J (j8 la d3 J J J q_e2)<|zo J (bE d3 J J)<|aC d3 J ax J (ht J) (ht J)<|ap<|am<|dP 4 J ?_;cases so h;exact f8 J d3 J J J

theorem Lz(s1:(List fU))(s2:(List fU))(eq:(fU→fU→Option Bool)){R:Bool}(h:cA s1 s2 eq=some R):bg aP 77 [fX (cT) s1,fX (cT) s2,(fC aP KL lX (fun(x:fU×fU)=>eq x.1 x.2))] (ij R):=by
 refine bg.of Tryz.func77 J J J fun w0 S0=>aq<|zo J (fP)<|ap<|ae<|aq<|aA J<|zo J (jL mO J)<|aA J<|zo J (jL mO J)<|zo J (dd (ht J) (ht J))<|ap<|dQ h J (fun h=>?_) (fun h=>?_)
 ·refine aq<|zo J (fP)<|ap<|am<|aa ?_;cases so h;exact aH J J
 ·refine eK<|ae<|aq<|aA J<|zo J (jL mO J)<|zo J (bj hI)<|ap<|av<|aY (k:=15) J fun hN=>bO ?_;refine aM (eC (Z:=fun ls i=>(s1.drop i=ls)∧cY s2 eq ls i=some R) (Of:=fun _ i=>[]) (Gf:=fun _ i=>[(1,fX (cT) s2),(2,(fC aP KL lX (fun(x:fU×fU)=>eq x.1 x.2))),(15,fX (cT) s1),(16,jt s1),(17,cd (i:Int))]) (fun i h=>?_) (fun e tl ih i h=>?_) s1 0 ⟨J,h⟩) (bh J)
  ·obtain⟨hx,h⟩:=h
   refine au<|aq<|zo J (fM J J)<|ap<|ae<|bt (ht J) (du hx)<|bn ?_;refine ac (ac (aG ?_));refine an<|aq<|zo rfl (fP)<|ap<|am ?_;cases so h;exact aH J J
  ·obtain⟨hx,h⟩:=h
   refine au<|aq<|zo J (fM J J)<|ap<|ae<|br (ht J) (dn hx)<|eK<|ae<|av<|aq<|aA J<|zo J (j8 mO gJ J J J (dB hx))<|zo J (bE gJ J J)<|aX (r:=cT) (x:=CB) gJ (fun _=>sD _) J fun b=>bu J<|aC gJ J ax J (ht J) (ht J)<|aT 8 J<|ap<|ae ?_;refine ak<|aA J<|aA J<|bP h fun e1 q_e1 h=>zo J (j8 mO gJ J J J q_e1)<|zo J (bE gJ J J)<|aX (r:=cT) (x:=CB) gJ (fun _=>sD _) J fun b1=>aC gJ J ax J (ht J) (ht J)<|aT 9 J<|ap<|aq<|aA J<|zo J (bE gJ J J)<|zo J (bE gJ J J)<|bP h fun r q_r h=>zo J (gz (args:=KL) (res:=yi) (f:=(fun(x:fU×fU)=>eq x.1 x.2)) (x:=((e,e1):fU×fU)) (ht J) q_r ⟨(ht J),(ht J),be⟩)<|zo J (d7 (ht J))<|ap<|dQ h J (fun h=>?_) (fun h=>?_)
   ·refine aq<|zo J (fP)<|ap<|am ?_;refine aF (aa (aa (aF (aa ?_))));cases so h;exact aH J J
   ·refine bC<|al<|an<|ak<|zo rfl (lk (cQ hx hN) rfl)<|aA rfl<|aK ?_;exact aW (aM (ih (i+1) ⟨cP hx,h⟩) (bh J))

theorem Ly(p:fU)(y:fU){R:Bool}(h:kL p y=some R):bg aP 78 [tD cT p,tD cT y] (ij R):=by
 refine bg.of Tryz.func78 J J J fun w0 S0=>aq<|zo J (mp J)<|zo J (mp J)<|zo J (fP)<|ap<|aq<|zo J (bZ lF kh J J)<|zo J (bE bJ J J)<|zo J (bZ lF kh J J)<|zo J (bE bJ J J)<|zo J (bv (ht J) (ht J))<|bu J<|ap<|am ?_;cases so h;exact aH J J

theorem IW(s:(List bq))(f:(bq→Option Bool)){R:Int}(h:gV s f=some R):bg aP 250 [fX (aQ) s,(fC aP H6 lX (fun(x:bq)=>f x))] (cd R):=by
 refine bg.of Tryz.func250 J J J fun w0 S0=>aq<|zo J (fg)<|ap<|ae<|aq<|aA J<|zo J (jL jv J)<|zo J (bj hI)<|ap<|av<|aY (k:=6) J fun hN=>bO ?_;refine aM (eC (Z:=fun ls i=>(s.drop i=ls)∧eg f ls i=some R) (Of:=fun _ i=>[]) (Gf:=fun _ i=>[(0,fX (aQ) s),(1,(fC aP H6 lX (fun(x:bq)=>f x))),(7,jt s),(8,cd (i:Int))]) (fun i h=>?_) (fun e tl ih i h=>?_) s 0 ⟨J,h⟩) (bh J)
 ·obtain⟨hx,h⟩:=h
  refine au<|aq<|zo J (fM J J)<|ap<|ae<|bt (ht J) (du hx)<|bn ?_;refine ac (ac (aG ?_));refine an<|aq<|zo rfl (fg)<|ap<|am ?_;cases so h;exact aH J J
 ·obtain⟨hx,h⟩:=h
  refine au<|aq<|zo J (fM J J)<|ap<|ae<|br (ht J) (dn hx)<|eK<|ae<|av<|aq<|aA J<|bu J<|ap<|aq<|aA J<|aA J<|aA J<|zo J (j8 jv dy J J J (dB hx)) ?_;refine zo J (bE dy J J)<|bP h fun r q_r h=>zo J (gz (args:=H6) (res:=yi) (f:=(fun(x:bq)=>f x)) (x:=((e):bq)) (ht J) q_r ⟨(ht J),be⟩)<|ap<|dQ h J (fun h=>?_) (fun h=>?_)
  ·refine aq<|aA J<|bu J<|ap<|am ?_;refine aF (aa (aa (aF (aa ?_))));cases so h;exact aH J J
  ·refine bC<|al<|an<|ak<|zo rfl (lk (cQ hx hN) rfl)<|aA rfl<|aK ?_;exact aW (aM (ih (i+1) ⟨cP hx,h⟩) (bh J))

theorem I6(s:(List bq))(f:(bq→Option Bool)){R:Bool}(h:gh s f=some R):bg aP 211 [fX (aQ) s,(fC aP H6 lX (fun(x:bq)=>f x))] (ij R):=by
 refine bg.of Tryz.func211 J J J fun w0 S0=>aq<|zo J (fP)<|ap<|aq<|aA J<|aA J<|bP h fun r q_r h=>zo J (aO Nu (IW _ _ q_r) ⟨(ht J),(ht J),be⟩)<|zo J (ev (ht J) hI)<|bu J<|ap<|am ?_;cases so h;exact aH J J

theorem I5(n:bq){R:Bool}(h:vt n=some R):bg aP 212 [tD aQ n] (ij R):=by
 refine bg.of Tryz.func212 J J J fun w0 S0=>aq<|zo J (mp J)<|zo J (fP)<|ap<|aq<|zo J (bZ js eI J J)<|zo J (bE bJ J J)<|bP h fun r q_r h=>zo J (aO Kq (Ev _ q_r) ⟨(ht J),be⟩)<|bu J<|ap<|am ?_;cases so h;exact aH J J

theorem Jp(e:bk){R:Bool}(h:zj e=some R):bg aP 152 [tD bc e] (ij R):=by
 refine bg.of Tryz.func152 J J J fun w0 S0=>aq<|zo J (mp J)<|zo J (fP)<|ap<|aq<|zo J (bE gj J J)<|bP h fun r q_r h=>zo J (aO JX (AA _ q_r) ⟨(ht J),be⟩)<|zo J (j6 J)<|aA J<|bP h fun t q_t h=>bD J J (fun hg=>bZ fv c9 J J)<|bD J J (fun hg=>aL mo J J (aI J hg)) ?_
 obtain⟨r1,h1t,h0t⟩:=og q_t
 have q_r1g:=fun hb=>(h1t hb).1
 refine bD J J (fun hg=>aO NI (I6 _ _ (q_r1g hg)) ⟨(aI J hg),(Ar NH fun x y h=>I5 _ h),be⟩)<|bD J J (fun hg=>d7 (aI J hg))<|zo J (dv (ht J) (fun hb=>(aI J hb)) (fun hb=>(h1t hb).2) h0t)<|bu J<|ap<|am ?_;cases so h;exact aH J J

theorem Hj(s:(List bq)){R:(List bq)}(h:fE s=some R):fx aP 214 [fX (aQ) s] false aQ 149 R:=by
 refine fx.of Tryz.func214 J J J fun w0 S0=>aq<|ci false aQ 149<|zo J (aZ q5)<|ap<|ae<|aq<|aA J<|Ci jv (ht J) J fun isnil hisnil=>ap<|nl (ht J) (fun hc=>?_) (fun hc=>?_)
 ·have hx:=hisnil hc
  have h:some Gy=some R:=by simpa [fE,nK,hx] using h
  refine aq<|ci false aQ 149<|zo J (aZ q5)<|ap<|am<|aa ?_;cases so h;exact gN J J
 ·refine eK<|aq<|fR (r:=aQ) (ys:=Gy) (xs:=[]) jv dy J J J J J trivial J fun l c=>aA J<|bP h fun x q_x h=>dj dy J J J J jv J J (ht J) (ht J) q_x fun l1 c1=>bu J<|ap<|am ?_;cases so h;exact gN J J
theorem Hm(e:bk){R:(List bk)}(h:zl e=some R):fx aP 153 [tD bc e] false bc 45 R:=by
 refine fx.of Tryz.func153 J J J fun w0 S0=>aq<|zo J (mp J)<|ci false bc 45<|zo J (aZ q5)<|ap<|aq<|zo J (bE gj J J)<|bP h fun r q_r h=>zo J (aO Kz (EE _ q_r) ⟨(ht J),be⟩)<|aA J<|zo J (lv J J)<|zo J (lv J J)<|bu J<|bu J<|ap<|ae<|aq<|aA J ?_;refine zo J (d7 (ht J))<|ap<|dQ h J (fun h=>?_) (fun h=>?_)
 ·refine aq<|ci false bc 45<|zo J (aZ q5)<|ap<|am<|aa ?_;cases so h;exact gN J J
 ·refine eK<|aq<|ci false bc 45<|zo J (aZ q5)<|ap<|aq<|zo J (bZ fv c9 J J)<|zo J (bE mo J J)<|zo J (jL jv J)<|zo J (gy (ht J) hI)<|fR (r:=bU) (ys:=[(IntKind.i64.wrap ((e.Nodes.length:Int)-(1:Int)))]) (xs:=[.tmp 23]) dp bJ J J J J J ⟨(ht J),be⟩ J fun l c=>bu J<|ap<|ae<|av<|bO<|lj<|nk<|dV ?_;refine aM (ET (Z:=fun n out l1 c1 open1 l2 c2=>jZ e r n out open1=some R) (Of:=fun out l1 c1 open1 l2 c2=>[cr bc 45 l1 c1 out,cr bU 3 l2 c2 open1]) (Gf:=fun out l1 c1 open1 l2 c2=>[(1,bB bc e),(3,lW r.1),(5,n6 l1 c1 out),(6,n6 l2 c2 open1)]) (fun out l1 c1 open1 l2 c2 h=>nn h) (fun n ih out l1 c1 open1 l2 c2 h=>?_) OA H0 none 0 ([(IntKind.i64.wrap ((e.Nodes.length:Int)-(1:Int)))]) l c h) (bh J);refine au<|ae<|aq<|aA J<|zo J (em dp (.tail _ (.head _)) (ht J))<|zo J (iu (ht J) hI)<|ap<|dQ h J (fun h=>?_) (fun h=>?_)
  ·refine eK ?_;refine zF (Z:=fun out1 l3 c3 open2 l4 c4=>qn (jZ e r n) out1 open2=some R) (Of:=fun out1 l3 c3 open2 l4 c4=>[cr bc 45 l3 c3 out1,cr bU 3 l4 c4 open2]) (Gf:=fun out1 l3 c3 open2 l4 c4=>[(1,bB bc e),(3,lW r.1),(5,n6 l3 c3 out1),(6,n6 l4 c4 open2)]) (fun out1 l3 c3 open2 l4 c4 h=>?_) (fun K=>?_)
   ·skip
    exact aW (aM (ih out1 l3 c3 open2 l4 c4 h) (bh J))
   ·skip
    refine aq<|aA J<|aA J<|zo J (em dp (.tail _ (.head _)) (ht J))<|zo J (gy (ht J) hI)<|bP h fun e1 q_e1 h=>zo J (cz dp bJ (.tail _ (.head _)) (ht J) (ht J) q_e1)<|zo J (dR (r:=bU) (i:=(IntKind.i64.wrap ((open1.length:Int)-(1:Int)))) (foff:=0) bJ J J cV J (.tail _ (.head _)) q_e1 (ht J))<|bu J<|ap<|aq<|aA J<|aA J<|zo J (em dp (.tail _ (.head _)) (ht J))<|zo J (gy (ht J) hI)<|bP h fun y q_y h=>zo J (kP dp bJ J (.tail _ (.head _)) (ht J) (ht J) q_y)<|bT<|xQ q_y<|bu J<|aK ?_;refine an<|aq<|zo rfl (bZ fv c9 rfl rfl)<|zo rfl (bE mo rfl rfl)<|aA rfl<|bP h fun e2 q_e2 h=>zo J (j8 jv dy J J J q_e2)<|zo J (bE dy J J)<|aX (r:=aQ) (x:=Cu) dy (fun _=>np _) J fun b=>aC dy J ax J (ht J) (ht J)<|aT 8 J<|ap<|ae<|aq<|zo J (bZ js eI J J)<|zo J (bE bJ J J)<|zo J (j6 J)<|ap<|dQ h J (fun h=>?_) (fun h=>?_)
    ·refine aq<|aA J<|zo J (bZ tW qf J J)<|zo J (bE bJ J J)<|zo J (bZ tX qg J J)<|zo J (bE bJ J J)<|zo J (bF (r:=bU) (ys:=[e2.R,e2.L]) (xs:=[.tmp 49,.tmp 51]) dp bJ J J J J J ⟨(ht J),(ht J),be⟩)<|bP h fun open3 q_open3 h=>dj bJ J J J J dp J J (ht J) (ht J) q_open3 fun l5 c5=>bu J<|ap<|bn ?_;refine ac (aG ?_);refine bf ?_;exact cb (K out l1 c1 open3 l5 c5 h) (bh J)
    ·refine eK<|aq<|aA J<|aA J<|bP h fun e3 q_e3 h=>zo J (j8 dp bJ J J J q_e3)<|zo J (bE bJ J J)<|bu J<|ap<|aq<|zo J (bZ fv c9 J J)<|zo J (bE mo J J)<|aA J<|aA J<|zo J (nF (ht J) hI)<|bP h fun y1 q_y1 h=>zo J (FD jv dy J (ht J) (ht J) (ht J) q_y1)<|bP h fun r1 q_r1 h=>jb NF (Hj _ q_r1) ⟨(ht J),be⟩ J fun l6 c6=>zo J (cJ (y:=iK (⟨r1⟩:bk) (ai l6 c6 r1.length)) gj MQ rx (⟨_,_,_,_,_,J,vf,J,(Aq (ht J)),J⟩)) ?_;refine ci false aQ 149<|aX (r:=iF) (x:=iK qG (ai none 0 (Gy.length))) gj rx J fun b1=>d9 gj J (lb J) J (ht J) (ht J)<|bT<|uh<|ap<|ae<|aq<|zo J (fq 0 fv J J J)<|zo J (dG mo oY (.head _) J (ht J))<|zo J (em jv (.tail _ (.head _)) (ht J))<|zo J (bj hI)<|ap<|av<|hU (.tail _ (.head _)) fun hN=>bO<|dV<|dV<|lj<|ej ?_;refine aM (ki (Z:=fun ls i part=>(r1.drop i=ls)∧mE (jZ e r n) out y e3 ls i part=some R) (Of:=fun _ i part=>[cr bc 45 l1 c1 out,cr bU 3 l2 c2 y,bx iF 45 b1 (iK part (ai l6 c6 part.Nodes.length)),cr aQ 149 l6 c6 part.Nodes]) (Gf:=fun _ i part=>[(1,bB bc e),(3,lW r.1),(5,n6 l1 c1 out),(6,n6 l2 c2 y),(9,cd e3),(10,tV (aD b1 0)),(68,jt r1),(69,cd (i:Int))]) (fun i part h=>?_) (fun e4 tl ih1 i part h=>?_) r1 0 ({(⟨r1⟩:bk)with Nodes:=r1}:bk) ⟨J,h⟩) (bh J)
     ·obtain⟨hx,h⟩:=h
      refine au<|aq<|zo J (fM J J)<|ap<|ae<|bt (ht J) (du hx)<|bn ?_;refine ac (ac (aG ?_));refine an<|ak<|aA rfl<|eT<|jI<|zo rfl (p7 (q:=bc) (y:=part) gj J J J J (.tail _ (.tail _ (.tail _ (.head _)))) (fun _ _ _ ho h=>rl (iT ho (.head _)) h) (ht J))<|zo J (bF (r:=bc) (ys:=[part]) (xs:=[.tmp 104]) qL gj J J J J J ⟨(ht J),be⟩)<|bT<|bP h fun out2 q_out2 h=>dj gj J J J J qL J J (ht J) (ht J) q_out2 fun l7 c7=>bu J<|aK<|al<|bf<|bw<|aJ<|bw ?_;exact cb (K out2 l7 c7 y l2 c2 h) (bh J)
     ·obtain⟨hx,h⟩:=h
      refine au<|aq<|zo J (fM J J)<|ap<|ae<|br (ht J) (dn hx)<|eK<|ae<|av<|aq<|aA J<|bu J<|ap<|aq<|zo J (fq 0 fv J J J)<|zo J (dG mo oY (.tail _ (.tail _ (.head _))) J (ht J))<|aA J<|bP h fun e5 q_e5 h=>?_;refine zo J (cz jv dy (.tail _ (.tail _ (.tail _ (.head _)))) (ht J) (ht J) q_e5)<|bu J<|ap ?_;refine ge (Z:=fun part1=>qm e3 (mE (jZ e r n) out y e3 tl) i part1=some R) (Of:=fun part1=>[cr bc 45 l1 c1 out,cr bU 3 l2 c2 y,bx iF 45 b1 (iK part1 (ai l6 c6 part1.Nodes.length)),cr aQ 149 l6 c6 part1.Nodes]) (Gf:=fun part1=>[(1,bB bc e),(3,lW r.1),(5,n6 l1 c1 out),(6,n6 l2 c2 y),(9,cd e3),(10,tV (aD b1 0)),(12,tV (iE l6 ((i:Int).toNat*8+0))),(68,jt r1),(69,cd (i:Int))]) (fun part1 h=>?_) (fun K1=>?_)
      ·skip
       refine aq<|aA J<|bP h fun e6 q_e6 h=>zo J (nV (.tail _ (.tail _ (.tail _ (.head _)))) q_e6 (ht J))<|zo J (eU (o:=(i:Int).toNat*8+0) (n:=(i:Int).toNat*8+2) tW J (.tail _ (.tail _ (.tail _ (.head _)))) q_e6 (ht J) J)<|zo J (dR (r:=aQ) (i:=(i:Int)) (foff:=2) bJ J J qf J (.tail _ (.tail _ (.tail _ (.head _)))) q_e6 (ht J))<|zo J (ev (ht J) hI)<|ap<|dQ h J (fun h=>?_) (fun h=>?_)
       ·refine ak<|aA J<|zo J (nV (.tail _ (.tail _ (.tail _ (.head _)))) q_e6 (ht J))<|zo J (eU (o:=(i:Int).toNat*8+0) (n:=(i:Int).toNat*8+2) tW J (.tail _ (.tail _ (.tail _ (.head _)))) q_e6 (ht J) J)<|zo J (dR (r:=aQ) (i:=(i:Int)) (foff:=2) bJ J J qf J (.tail _ (.tail _ (.tail _ (.head _)))) q_e6 (ht J))<|aA J<|zo J (gy (ht J) (ht J))<|zo J (nV (.tail _ (.tail _ (.tail _ (.head _)))) q_e6 (ht J))<|zo J (eU (o:=(i:Int).toNat*8+0) (n:=(i:Int).toNat*8+2) tW J (.tail _ (.tail _ (.tail _ (.head _)))) q_e6 (ht J) J)<|eT<|bP h fun st q_st h=>ku bJ J CS J q_e6 (so q_st) (ht J) (ht J)<|mI (O' :=[cr aQ 149 l6 c6 st,cr bc 45 l1 c1 out,cr bU 3 l2 c2 y,bx iF 45 b1 (iK part1 (ai l6 c6 st.length))]) (by rw [gK (so q_st)])<|aK<|al<|an<|ak<|zo rfl (lk (cQ hx hN) rfl)<|aA rfl<|aK<|bm<|bm<|bm ?_;exact aW (aM (ih1 (i+1) ({part1 with Nodes:=st}:bk) ⟨cP hx,h⟩) (bh J))
       ·refine bC<|al<|an<|ak<|zo rfl (lk (cQ hx hN) rfl)<|aA rfl<|aK ?_;exact aW (aM (ih1 (i+1) part1 ⟨cP hx,h⟩) (bh J))
      ·skip
       refine aq<|aA J<|zo J (nV (.tail _ (.tail _ (.tail _ (.head _)))) q_e5 (ht J))<|zo J (eU (o:=(i:Int).toNat*8+0) (n:=(i:Int).toNat*8+1) tX J (.tail _ (.tail _ (.tail _ (.head _)))) q_e5 (ht J) J)<|zo J (dR (r:=aQ) (i:=(i:Int)) (foff:=1) bJ J J qg J (.tail _ (.tail _ (.tail _ (.head _)))) q_e5 (ht J))<|zo J (ev (ht J) hI)<|ap<|dQ h J (fun h=>?_) (fun h=>?_)
       ·refine ak<|aA J<|zo J (nV (.tail _ (.tail _ (.tail _ (.head _)))) q_e5 (ht J))<|zo J (eU (o:=(i:Int).toNat*8+0) (n:=(i:Int).toNat*8+1) tX J (.tail _ (.tail _ (.tail _ (.head _)))) q_e5 (ht J) J)<|zo J (dR (r:=aQ) (i:=(i:Int)) (foff:=1) bJ J J qg J (.tail _ (.tail _ (.tail _ (.head _)))) q_e5 (ht J))<|aA J<|zo J (gy (ht J) (ht J))<|zo J (nV (.tail _ (.tail _ (.tail _ (.head _)))) q_e5 (ht J))<|zo J (eU (o:=(i:Int).toNat*8+0) (n:=(i:Int).toNat*8+1) tX J (.tail _ (.tail _ (.tail _ (.head _)))) q_e5 (ht J) J)<|eT<|bP h fun st1 q_st1 h=>ku bJ J CT J q_e5 (so q_st1) (ht J) (ht J)<|iM (gK (so q_st1)) 73 J<|mI (O' :=[cr aQ 149 l6 c6 st1,cr bc 45 l1 c1 out,cr bU 3 l2 c2 y,bx iF 45 b1 (iK part (ai l6 c6 st1.length))]) (by rw [gK (so q_st1)])<|aK<|bm<|bm<|bm ?_;exact cb (K1 ({part with Nodes:=st1}:bk) h) (bh J)
       ·refine bC ?_;exact cb (K1 part h) (bh J)
  ·refine bn ?_;refine ac (ac (aG ?_));refine an<|aq<|aA rfl<|bu rfl<|ap<|am ?_;cases so h;exact gN J J
end Go.Proofs.YtmogpgcfognefaaGreatDoor

