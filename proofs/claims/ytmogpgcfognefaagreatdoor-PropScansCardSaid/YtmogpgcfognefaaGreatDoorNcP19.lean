/- cd of this claim: P19. -/
import Derived.Test.YtmogpgcfognefaaGreatDoorNcT
import Derived.Test.YtmogpgcfognefaaGreatDoorNcP18
set_option linter.all false
namespace Go.Proofs.YtmogpgcfognefaaGreatDoor
open Go
set_option maxRecDepth 100000

theorem NR(l:(List aZ))(kinds:(List Int)){R:eC}(h:s5 l kinds=some R):aW aM 24 [d6 (aS) l,kC kinds] (tD df R):=by
 refine aW.of Tryz.func24 J J J fun w0 S0=>au<|bc (r:=df) (x:=JF) px (fun _=>qi _) J fun b=>ap<|au<|ax J<|zo J (cE (y:=(⟨l,(1:Int),(3:Int),[]⟩:dc)) jI Kf lU (⟨_,_,_,_,_,J,sl,J,hI,⟨_,_,_,_,_,J,sk,J,hI,⟨_,_,_,_,_,J,sm,J,(ht J),J⟩⟩⟩))<|ax J<|zo J (cE (y:=(⟨(9:Int),my,my,(0:Int),kinds,false,tm,[],[],[],[],(0:Int)⟩:aZ)) eM EB eK (⟨_,_,_,_,_,J,ot,J,hI,⟨_,_,_,_,_,J,oq,J,hI,⟨_,_,_,_,_,J,oo,J,hI,⟨_,_,_,_,_,J,qp,J,(ht J),J⟩⟩⟩⟩))<|zo J (ba (r:=aS) (ys:=[(⟨(9:Int),my,my,(0:Int),kinds,false,tm,[],[],[],[],(0:Int)⟩:aZ)]) (xs:=[.tmp 8]) n9 eM J J J J J ⟨(ht J),be⟩)<|zo J (cE (y:=(⟨[(⟨(9:Int),my,my,(0:Int),kinds,false,tm,[],[],[],[],(0:Int)⟩:aZ)],(2:Int),(4:Int),[]⟩:dc)) jI Kf lU (⟨_,_,_,_,_,J,sl,J,hI,⟨_,_,_,_,_,J,sk,J,hI,⟨_,_,_,_,_,J,sm,J,(ht J),J⟩⟩⟩))<|zo J (ba (r:=cr) (ys:=[(⟨l,(1:Int),(3:Int),[]⟩:dc),(⟨[(⟨(9:Int),my,my,(0:Int),kinds,false,tm,[],[],[],[],(0:Int)⟩:aZ)],(2:Int),(4:Int),[]⟩:dc)]) (xs:=[.tmp 6,.tmp 10]) pK jI J J J J J ⟨(ht J),(ht J),be⟩)<|zo J (cE (y:=(⟨[(⟨l,(1:Int),(3:Int),[]⟩:dc),(⟨[(⟨(9:Int),my,my,(0:Int),kinds,false,tm,[],[],[],[],(0:Int)⟩:aZ)],(2:Int),(4:Int),[]⟩:dc)]⟩:eC)) px Nn qi (⟨_,_,_,_,_,J,Ae,J,(ht J),J⟩))<|aE px J ay J (ht J) (ht J)<|aV 4 J<|ap<|al ?_;cases so h;exact fz J px J J J

theorem Kv(l:(List aQ))(most:Int){R:(List aQ)}(h:iQ l most=some R):io aM 25 [d6 (bf) l,bQ most] false bf 82 R:=by
 refine io.of Tryz.func25 J J J fun w0 S0=>au<|ci false bf 82<|zo J (a8 rQ)<|ap<|au<|jq (r:=bf) (ys:=([]:List aQ)) (xs:=[]) Tryz.underlying77 kF J J J J J trivial J fun l1 c=>ax J<|ax J<|zo J (gJ Tryz.underlying77 J)<|ax J<|zo J (qA (ht J) (ht J))<|bF h fun y q_y h=>zo J (qz Tryz.underlying77 kF J (ht J) (ht J) q_y)<|bF h fun x q_x h=>dv kF J J J J Tryz.underlying77 J J (ht J) (ht J) q_x fun l2 c1=>bo J<|ap<|al ?_;cases so h;exact iT J J
theorem KX(rows:(List (List aQ)))(kinds:(List Int)){R:Bool}(h:pj rows kinds=some R):aW aM 175 [d6 (od) rows,kC kinds] (gu R):=by
 refine aW.of Tryz.func175 J J J fun w0 S0=>au<|zo J (eL)<|ap<|ae<|au<|ax J<|zo J (gJ vg J)<|zo J (fG (ht J) hI)<|ap<|dh h J (fun h=>?_) (fun h=>?_)
 ·refine au<|zo J (eL)<|ap<|al<|aa ?_;cases so h;exact aB J J
 ·refine dz<|ae<|au<|ax J<|zo J (gJ vg J)<|zo J (bg hI)<|ap<|av<|aP (k:=12) J fun hN=>bu ?_;refine aG (dk (Z:=fun ls i=>(rows.drop i=ls)∧jg kinds ls=some R) (Of:=fun _ i=>[]) (Gf:=fun _ i=>[(1,kC kinds),(12,d6 (od) rows),(13,gR rows),(14,bQ (i:Int))]) (fun i h=>?_) (fun e tl ih i h=>?_) rows 0 ⟨J,h⟩) (aX J)
  ·obtain⟨hx,h⟩:=h
   refine aq<|au<|zo J (eD J J)<|ap<|ae<|bn (ht J) (cW hx)<|aY ?_;refine ac (ac (aC ?_));refine am<|au<|zo rfl (eL)<|ap<|al ?_;cases so h;exact aB J J
  ·obtain⟨hx,h⟩:=h
   refine aq<|au<|zo J (eD J J)<|ap<|ae<|bm (ht J) (cR hx)<|dz<|ae<|av<|au<|zo J (im vg xC J J J (cS hx))<|zo J (bw xC J J)<|bo J<|ap<|ae<|au<|ax J<|zo J (gJ rn J) ?_;refine ax J<|zo J (gJ dd J)<|zo J (cZ (ht J) (ht J))<|ap<|dh h J (fun h=>?_) (fun h=>?_)
   ·refine au<|zo J (eL)<|ap<|al ?_;refine aa (aA (aa (aa (aA (aa ?_)))));cases so h;exact aB J J
   ·refine dz<|au<|ax J<|zo J (gJ rn J)<|zo J (bg hI)<|ap<|av<|aP (k:=23) J fun hN1=>bu ?_;refine aG (dk (Z:=fun ls1 i1=>(e.drop i1=ls1)∧jf kinds (jg kinds tl) ls1 i1=some R) (Of:=fun _ i1=>[]) (Gf:=fun _ i1=>[(1,kC kinds),(12,d6 (od) rows),(13,gR rows),(14,bQ (i:Int)),(23,d6 (bf) e),(24,gR e),(25,bQ (i1:Int))]) (fun i1 h=>?_) (fun e1 tl1 ih1 i1 h=>?_) e 0 ⟨J,h⟩) (aX J)
    ·obtain⟨hx1,h⟩:=h
     refine aq<|au<|zo J (eD J J)<|ap<|ae<|bn (ht J) (cW hx1)<|aY ?_;refine ac (ac (aC ?_));refine ak<|am<|ai<|zo rfl (jN (cy hx hN) rfl)<|ax rfl<|aH ?_;exact aO (aG (ih (i+1) ⟨cx hx,h⟩) (aX J))
    ·obtain⟨hx1,h⟩:=h
     refine aq<|au<|zo J (eD J J)<|ap<|ae<|bm (ht J) (cR hx1)<|dz<|ae<|av<|au<|ax J<|zo J (im rn kF J J J (cS hx1))<|zo J (bw kF J J)<|bc (r:=bf) (x:=xv) kF (fun _=>oc _) J fun b=>bo J<|aE kF J ay J (ht J) (ht J)<|aV 8 J<|ap<|ae ?_;refine bF h fun r q_r h=>bF h fun t q_t h=>?_
     obtain⟨t1,h1t,h0t⟩:=og q_t
     have q_t1g:=fun hb=>(h1t hb).1
     obtain⟨e2,h1t1,h0t1⟩:=Rq q_t1g
     have q_e2g:=fun hb=>(h1t1 hb).1
     refine eb (ts:=[_,_,_,_,_,_,_,_,_,_,_,_,_,_,_,_,_]) mixed J J
      ⟨gF 8 J J J (bw kF J J),
      ⟨cL 30 0 J J J (aJ Jc (BL _ q_r) ⟨(ht J),be⟩),
      ⟨cL 31 1 J J J (qZ J),
      ⟨cL 32 2 J J J (cz J),
      ⟨mH 8 33 3 J J J J (eY J J J J (fun hg=>bY qJ lA J J)),
      ⟨fj 34 4 33 3 J J J J (eY J J J J (fun hg=>aL bK J J (aI J hg))),
      ⟨fj 35 5 33 3 J J J J (eY J J J J (fun hg=>cZ (aI J hg) hI)),
      ⟨fj 36 6 33 3 J J J J (eY J J J J (fun hg=>bg (aI J hg))),
      ⟨mH 8 37 7 J J J J (qW J J J J (fun hg=>bY qJ lA J J)),
      ⟨fj 38 8 37 7 J J J J (qW J J J J (fun hg=>aL bK J J (aI J hg))),
      ⟨mH 1 37 7 J J J J (qW J J J J (fun hg=>cz J)),
      ⟨mH 7 37 7 J J J J (qW J J J J (fun hg=>cz J)),
      ⟨pL 40 10 41 11 37 7 J J J J J (qW J J J J (fun hg=>b9 dd bK J (aI J hg) (aI J hg) (q_e2g hg))),
      ⟨fj 42 12 37 7 J J J J (qW J J J J (fun hg=>aL bK J J (aI J hg))),
      ⟨pL 39 9 43 13 37 7 J J J J J (qW J J J J (fun hg=>cZ (aI J hg) (aI J hg))),
      ⟨pL 37 7 44 14 33 3 J J J J J (eY J J J J (fun hg=>cV (aI J hg) (fun hb=>(aI J (pF hg hb))) (fun hb=>(h1t1 (pF hg hb)).2) (fun hb=>h0t1 hg hb))),
      ⟨eu 33 3 45 15 J J J J (dV (ht J) (fun hb=>(aI J (mz hb))) (fun hb=>(h1t hb).2) h0t),
      be⟩⟩⟩⟩⟩⟩⟩⟩⟩⟩⟩⟩⟩⟩⟩⟩⟩ ?_
     refine am<|dh h rfl (fun h=>?_) (fun h=>?_)
     ·refine au<|zo J (eL)<|ap<|al ?_;refine aA (aa (aa (aA (aA (aa (aa (aA (aa ?_))))))));cases so h;exact aB J J
     ·refine bt<|ak<|am<|ai<|zo rfl (jN (cy hx1 hN1) rfl)<|ax rfl<|aH ?_;exact aO (aG (ih1 (i1+1) ⟨cx hx1,h⟩) (aX J))

theorem Lx(c:aT)(b:pq){R:Int}(h:kP c b=some R):aW aM 110 [tD bP c,tD sn b] (bQ R):=by
 refine aW.of Tryz.func110 J J J fun w0 S0=>au<|zo J (kZ J)<|zo J (kZ J)<|zo J (dA)<|ap<|ae<|au<|zo J (bw kl J J)<|bF h fun r q_r h=>zo J (aJ N5 (EJ _ q_r) ⟨(ht J),be⟩)<|bo J<|ap<|au<|ax J<|zo J (qZ J)<|ap<|dh h J (fun h=>?_) (fun h=>?_)
 ·refine au<|ax J<|bo J<|ap<|al<|aa ?_;cases so h;exact aB J J
 ·refine dz<|ae<|au<|zo J (bY FG AB J J)<|zo J (bw L9 J J)<|zo J (gJ zV J)<|zo J (bY j7 dH J J)<|zo J (bw ql J J)<|zo J (gJ mw J)<|zo J (cZ (ht J) (ht J))<|ap<|dh h J (fun h=>?_) (fun h=>?_)
  ·refine au<|zo J (dA)<|ap<|al<|aa ?_;cases so h;exact aB J J
  ·refine dz<|ae<|au<|zo J (bY j7 dH J J)<|zo J (bw ql J J)<|zo J (gJ mw J)<|zo J (bg hI)<|ap<|av<|aP (k:=24) J fun hN=>bu ?_;refine aG (dk (Z:=fun ls i=>(c.Tables.drop i=ls)∧eF b ls i=some R) (Of:=fun _ i=>[]) (Gf:=fun _ i=>[(3,bp sn b),(24,d6 (bU) c.Tables),(25,gR c.Tables),(26,bQ (i:Int))]) (fun i h=>?_) (fun e tl ih i h=>?_) c.Tables 0 ⟨J,h⟩) (aX J)
   ·obtain⟨hx,h⟩:=h
    refine aq<|au<|zo J (eD J J)<|ap<|ae<|bn (ht J) (cW hx)<|aY ?_;refine ac (ac (aC ?_));refine am<|au<|zo rfl (dA)<|ap<|al ?_;cases so h;exact aB J J
   ·obtain⟨hx,h⟩:=h
    refine aq<|au<|zo J (eD J J)<|ap<|ae<|bm (ht J) (cR hx)<|dz<|ae<|av<|au<|ax J<|zo J (im mw kG J J J (cS hx))<|zo J (bw kG J J)<|bc (r:=bU) (x:=ME) kG (fun _=>uc _) J fun b1=>bo J<|aE kG J ay J (ht J) (ht J)<|aV 7 J<|ap<|ae ?_;refine ai<|ci false bV 3<|zo J (a8 rQ)<|ap<|ae<|au<|zo J (bY pD jz J J)<|zo J (bw zr J J)<|zo J (gJ pw J)<|zo J (bg hI)<|ap<|av<|aP (k:=32) J fun hN1=>bu ?_;refine aG (ld (Z:=fun ls1 i1 kinds l c1=>(e.Columns.drop i1=ls1)∧fD b (eF b tl) i ls1 kinds=some R) (Of:=fun _ i1 kinds l c1=>[cC bV 3 l c1 kinds]) (Gf:=fun _ i1 kinds l c1=>[(3,bp sn b),(6,bQ (i:Int)),(8,nJ l c1 kinds),(24,d6 (bU) c.Tables),(25,gR c.Tables),(26,bQ (i:Int)),(32,d6 (bO) e.Columns),(33,gR e.Columns),(34,bQ (i1:Int))]) (fun i1 kinds l c1 h=>?_) (fun e1 tl1 ih1 i1 kinds l c1 h=>?_) e.Columns 0 lS none 0 ⟨J,h⟩) (aX J)
    ·obtain⟨hx1,h⟩:=h
     refine aq<|au<|zo J (eD J J)<|ap<|ae<|bn (ht J) (cW hx1)<|aY ?_;refine ac (ac (aC ?_));refine am<|au<|zo rfl (bY FG AB rfl rfl)<|zo rfl (bw L9 rfl rfl)<|ax rfl<|bF h fun e2 q_e2 h=>zo J (im zV Gz J J J q_e2)<|zo J (bw Gz J J)<|ax J<|m3<|oN 8 J<|oN 49 J<|bF h fun r1 q_r1 h=>zo J (aJ Qn (KX _ _ q_r1) ⟨(ht J),(rx (ht J)),be⟩)<|zo J (dn (ht J))<|ap<|dh h J (fun h=>?_) (fun h=>?_)
     ·refine au<|zo J (dA)<|ap<|al ?_;refine aA (aa (aa (aA (aa ?_))));refine bv ?_;cases so h;exact aB J J
     ·refine bt<|ak<|am<|ai<|zo rfl (jN (cy hx hN) rfl)<|ax rfl<|aH<|bv ?_;exact aO (aG (ih (i+1) ⟨cx hx,h⟩) (aX J))
    ·obtain⟨hx1,h⟩:=h
     refine aq<|au<|zo J (eD J J)<|ap<|ae<|bm (ht J) (cR hx1)<|dz<|ae<|av<|au<|zo J (im pw k5 J J J (cS hx1))<|zo J (bw k5 J J)<|bc (r:=bO) (x:=HV) k5 (fun _=>mE _) J fun b2=>aE k5 J ay J (ht J) (ht J)<|aV 10 J<|ap<|ai<|ax J<|zo J (bY BD pe J J) ?_;refine zo J (bw bK J J)<|zo J (ba (r:=bV) (ys:=[e1.Kind]) (xs:=[.tmp 40]) dd bK J J J J J ⟨(ht J),be⟩)<|bF h fun kinds1 q_kinds1 h=>dv bK J J J J dd J J (ht J) (ht J) q_kinds1 fun l1 c2=>bo J<|aH<|ak<|am<|ai<|zo rfl (jN (cy hx1 hN1) rfl)<|ax rfl<|aH ?_;exact aO (aG (ih1 (i1+1) kinds1 l1 c2 ⟨cx hx1,h⟩) (aX J))

theorem NJ(t:bj)(r:(List aQ)){R:Bool}(h:qy t r=some R):aW aM 60 [tD bU t,d6 (bf) r] (gu R):=by
 refine aW.of Tryz.func60 J J J fun w0 S0=>au<|zo J (kZ J)<|zo J (eL)<|ap<|au<|zo J (bw kG J J)<|zo J (ba (r:=bU) (ys:=[t]) (xs:=[.tmp 6]) mw kG J J J J J ⟨(ht J),be⟩)<|zo J (cE (y:=(⟨[t]⟩:aT)) kl No jt (⟨_,_,_,_,_,J,uh,J,(ht J),J⟩))<|bc (r:=bP) (x:=vk) kl (fun _=>jt _) J fun b=>aE kl J ay J (ht J) (ht J)<|aV 5 J<|ap<|au<|zo J (bw kl J J)<|ax J<|zo J (ba (r:=od) (ys:=[r]) (xs:=[.tmp 10]) vg xC J J J J J ⟨(ht J),be⟩)<|zo J (ba (r:=(dR od)) (ys:=[[r]]) (xs:=[.tmp 11]) zV Gz J J J J J ⟨(ht J),be⟩)<|zo J (cE (y:=(⟨[[r]]⟩:pq)) OK O9 JE (⟨_,_,_,_,_,J,GR,J,(ht J),J⟩)) ?_;refine bF h fun r1 q_r1 h=>zo J (aJ QS (Lx _ _ q_r1) ⟨(ht J),(ht J),be⟩)<|zo J (jk J)<|bo J<|ap<|al ?_;cases so h;exact aB J J

theorem Ks(v:aQ){R:Bool}(h:nk v=some R):aW aM 265 [tD bf v] (gu R):=by
 refine aW.of Tryz.func265 J J J fun w0 S0=>au<|zo J (kZ J)<|zo J (eL)<|ap<|au<|zo J (bw kF J J)<|bF h fun r q_r h=>zo J (aJ Jc (BL _ q_r) ⟨(ht J),be⟩)<|zo J (qZ J)<|bo J<|ap<|al ?_;cases so h;exact aB J J

theorem Kp(s:(List aQ))(f:(aQ→Option Bool)){R:Int}(h:gX s f=some R):aW aM 287 [d6 (bf) s,(eN aM HX kS (fun(x:aQ)=>f x))] (bQ R):=by
 refine aW.of Tryz.func287 J J J fun w0 S0=>au<|zo J (dA)<|ap<|ae<|au<|ax J<|zo J (gJ rn J)<|zo J (bg hI)<|ap<|av<|aP (k:=6) J fun hN=>bu ?_;refine aG (dk (Z:=fun ls i=>(s.drop i=ls)∧cj f ls i=some R) (Of:=fun _ i=>[]) (Gf:=fun _ i=>[(0,d6 (bf) s),(1,(eN aM HX kS (fun(x:aQ)=>f x))),(7,gR s),(8,bQ (i:Int))]) (fun i h=>?_) (fun e tl ih i h=>?_) s 0 ⟨J,h⟩) (aX J)
 ·obtain⟨hx,h⟩:=h
  refine aq<|au<|zo J (eD J J)<|ap<|ae<|bn (ht J) (cW hx)<|aY ?_;refine ac (ac (aC ?_));refine am<|au<|zo rfl (dA)<|ap<|al ?_;cases so h;exact aB J J
 ·obtain⟨hx,h⟩:=h
  refine aq<|au<|zo J (eD J J)<|ap<|ae<|bm (ht J) (cR hx)<|dz<|ae<|av<|au<|ax J<|bo J<|ap<|au<|ax J<|ax J<|ax J<|zo J (im rn kF J J J (cS hx)) ?_;refine zo J (bw kF J J)<|bF h fun r q_r h=>zo J (fK (args:=HX) (res:=xu) (f:=(fun(x:aQ)=>f x)) (x:=((e):aQ)) (ht J) q_r ⟨(ht J),be⟩)<|ap<|dh h J (fun h=>?_) (fun h=>?_)
  ·refine au<|ax J<|bo J<|ap<|al ?_;refine aA (aa (aa (aA (aa ?_))));cases so h;exact aB J J
  ·refine bt<|ak<|am<|ai<|zo rfl (jN (cy hx hN) rfl)<|ax rfl<|aH ?_;exact aO (aG (ih (i+1) ⟨cx hx,h⟩) (aX J))

theorem Kr(s:(List aQ))(f:(aQ→Option Bool)){R:Bool}(h:ek s f=some R):aW aM 266 [d6 (bf) s,(eN aM HX kS (fun(x:aQ)=>f x))] (gu R):=by
 refine aW.of Tryz.func266 J J J fun w0 S0=>au<|zo J (eL)<|ap<|au<|ax J<|ax J<|bF h fun r q_r h=>zo J (aJ PD (Kp _ _ q_r) ⟨(ht J),(ht J),be⟩)<|zo J (dG (ht J) hI)<|bo J<|ap<|al ?_;cases so h;exact aB J J

theorem Kz(r:(List aQ)){R:Bool}(h:sq r=some R):aW aM 232 [d6 (bf) r] (gu R):=by
 refine aW.of Tryz.func232 J J J fun w0 S0=>au<|zo J (eL)<|ap<|au<|zo J (a8 (show aw _ _ _ ((eN aM HX kS (fun(x:aQ)=>nk x)))from(zM PH fun x y h=>Ks _ h)))<|ap<|au<|ax J<|zo J (gJ rn J)<|zo J (hU (ht J) hI)<|ax J<|bF h fun t q_t h=>bC J J (fun hg=>cz J)<|bC J J (fun hg=>cz J) ?_
 obtain⟨r1,h1t,h0t⟩:=og q_t
 have q_r1g:=fun hb=>(h1t hb).1
 refine bC J J (fun hg=>aJ PG (Kr _ _ (q_r1g hg)) ⟨(aI J hg),(aI J hg),be⟩)<|bC J J (fun hg=>dn (aI J hg))<|zo J (cV (ht J) (fun hb=>(aI J hb)) (fun hb=>(h1t hb).2) h0t)<|bo J<|ap<|al ?_;cases so h;exact aB J J

theorem KW(l:(List (List (List aQ)))){R:Int}(h:vx l=some R):aW aM 176 [d6 ((dR od)) l] (bQ R):=by
 refine aW.of Tryz.func176 J J J fun w0 S0=>au<|zo J (dA)<|ap<|au<|zo J (dA)<|ap<|ae<|au<|ax J<|zo J (gJ zV J)<|zo J (bg hI)<|ap<|av<|aP (k:=8) J fun hN=>bu ?_;refine aG (kB (Z:=fun ls i n=>(l.drop i=ls)∧iz ls n=some R) (Of:=fun _ i n=>[]) (Gf:=fun _ i n=>[(3,bQ n),(8,d6 ((dR od)) l),(9,gR l),(10,bQ (i:Int))]) (fun i n h=>?_) (fun e tl ih i n h=>?_) l 0 (0:Int) ⟨J,h⟩) (aX J)
 ·obtain⟨hx,h⟩:=h
  refine aq<|au<|zo J (eD J J)<|ap<|ae<|bn (ht J) (cW hx)<|aY ?_;refine ac (ac (aC ?_));refine am<|ae<|au<|ax rfl<|zo rfl (fG (ht rfl) hI)<|ap<|dh h rfl (fun h=>?_) (fun h=>?_)
  ·refine au<|zo J (dA)<|ap<|al<|aa ?_;cases so h;exact aB J J
  ·refine dz<|au<|zo J (dA)<|ap<|al ?_;cases so h;exact aB J J
 ·obtain⟨hx,h⟩:=h
  refine aq<|au<|zo J (eD J J)<|ap<|ae<|bm (ht J) (cR hx)<|dz<|ae<|av<|au<|zo J (im zV Gz J J J (cS hx))<|zo J (bw Gz J J)<|bo J<|ap<|ae<|au<|ax J<|zo J (gJ vg J) ?_;refine zo J (bg hI)<|ap<|av<|aP (k:=14) J fun hN1=>bu ?_;refine aG (dk (Z:=fun ls1 i1=>(e.drop i1=ls1)∧lY (iz tl) e n ls1=some R) (Of:=fun _ i1=>[]) (Gf:=fun _ i1=>[(3,bQ n),(5,d6 (od) e),(8,d6 ((dR od)) l),(9,gR l),(10,bQ (i:Int)),(14,d6 (od) e),(15,gR e),(16,bQ (i1:Int))]) (fun i1 h=>?_) (fun e1 tl1 ih1 i1 h=>?_) e 0 ⟨J,h⟩) (aX J)
  ·obtain⟨hx1,h⟩:=h
   refine aq<|au<|zo J (eD J J)<|ap<|ae<|bn (ht J) (cW hx1)<|aY ?_;refine ac (ac (aC ?_));refine am<|ai<|ax rfl<|ax rfl<|zo rfl (gJ vg rfl)<|zo rfl (wU (ht rfl) (ht rfl))<|bo rfl<|aH<|ak<|am<|ai<|zo rfl (jN (cy hx hN) rfl)<|ax rfl<|aH ?_;exact aO (aG (ih (i+1) (max n (e.length:Int)) ⟨cx hx,h⟩) (aX J))
  ·obtain⟨hx1,h⟩:=h
   refine aq<|au<|zo J (eD J J)<|ap<|ae<|bm (ht J) (cR hx1)<|dz<|ae<|av<|au<|zo J (im vg xC J J J (cS hx1))<|zo J (bw xC J J)<|bo J<|ap<|au<|ax J<|bF h fun r q_r h=>zo J (aJ PO (Kz _ q_r) ⟨(ht J),be⟩) ?_;refine zo J (dn (ht J))<|ap<|dh h J (fun h=>?_) (fun h=>?_)
   ·refine au<|zo J (dA)<|ap<|al ?_;refine aA (aa (aa (aA (aa (aA (aa (aa (aA (aa ?_)))))))));cases so h;exact aB J J
   ·refine bt<|ak<|am<|ai<|zo rfl (jN (cy hx1 hN1) rfl)<|ax rfl<|aH ?_;exact aO (aG (ih1 (i1+1) ⟨cx hx1,h⟩) (aX J))

theorem KV(c:Int){R:Bool}(h:o5 c=some R):aW aM 177 [bQ c] (gu R):=by
 refine aW.of Tryz.func177 J J J fun w0 S0=>au<|zo J (eL)<|ap<|au<|ax J<|zo J (ep (ht J) hI)<|bo J<|ap<|al ?_;cases so h;exact aB J J

theorem Ky(r:(List aQ))(c:Int){R:Bool}(h:sr r c=some R):aW aM 233 [bQ c,bp od r] (gu R):=by
 refine aW.of Tryz.func233 J J J fun w0 S0=>au<|zo J (eL)<|ap<|au<|ax J<|zo J (ep (ht J) hI)<|ax J<|cw J J (fun hg=>cz J)<|cw J J (fun hg=>bw xC J J)<|cw J J (fun hg=>bR rn (aI J hg))<|cw J J (fun hg=>dG (aI J hg) (aI J hg))<|zo J (oQ J J)<|bo J<|ap<|al ?_;cases so h;exact aB J J

theorem KU(r:(List aQ))(columns:(List Int)){R:Bool}(h:wR r columns=some R):aW aM 178 [d6 (bf) r,kC columns] (gu R):=by
 refine aW.of Tryz.func178 J J J fun w0 S0=>au<|zo J (kZ J)<|zo J (eL)<|ap<|au<|zo J ((show bL _ _ _ _ ((eN aM xr kS (fun(x:Int)=>(sr r) x)))from gk (cts:=[bp od r]) (caps:=[.tmp 2]) PN ⟨(ht J),be⟩ (fun x y h=>Ky _ _ h)))<|bo J<|ap<|au<|ax J<|zo J (gJ dd J)<|zo J (hU (ht J) hI)<|ax J<|bF h fun t q_t h=>bC J J (fun hg=>cz J)<|bC J J (fun hg=>cz J) ?_
 obtain⟨r1,h1t,h0t⟩:=og q_t
 have q_r1g:=fun hb=>(h1t hb).1
 refine bC J J (fun hg=>aJ AM (sG _ _ (q_r1g hg)) ⟨(aI J hg),(aI J hg),be⟩)<|bC J J (fun hg=>dn (aI J hg))<|zo J (cV (ht J) (fun hb=>(aI J hb)) (fun hb=>(h1t hb).2) h0t)<|bo J<|ap<|al ?_;cases so h;exact aB J J

theorem Lw(l:(List (List aQ)))(columns:(List Int)){R:Int}(h:ss l columns=some R):aW aM 111 [d6 (od) l,kC columns] (bQ R):=by
 refine aW.of Tryz.func111 J J J fun w0 S0=>au<|zo J (dA)<|ap<|ae<|au<|ax J<|zo J (ba (r:=(dR od)) (ys:=[l]) (xs:=[.tmp 9]) zV Gz J J J J J ⟨(ht J),be⟩)<|bF h fun r q_r h=>zo J (aJ Qm (KW _ q_r) ⟨(ht J),be⟩)<|bo J<|ap<|au<|ax J<|zo J (qZ J)<|ap<|dh h J (fun h=>?_) (fun h=>?_)
 ·refine au<|ax J<|bo J<|ap<|al<|aa ?_;cases so h;exact aB J J
 ·refine dz<|au<|zo J (a8 (show aw _ _ _ ((eN aM xr kS (fun(x:Int)=>o5 x)))from(zM Ql fun x y h=>KV _ h)))<|ap<|ae<|au<|ax J<|zo J (gJ dd J)<|zo J (fG (ht J) hI)<|ax J<|bF h fun t q_t h=>cw J J (fun hg=>cz J)<|cw J J (fun hg=>cz J) ?_
  obtain⟨r1,h1t,h0t⟩:=og q_t
  have q_r1g:=fun hb=>(h1t hb).1
  refine cw J J (fun hg=>aJ AM (sG _ _ (q_r1g hg)) ⟨(aI J hg),(aI J hg),be⟩)<|zo J (dV (ht J) (fun hb=>(aI J (mz hb))) (fun hb=>(h1t hb).2) h0t)<|ap<|dh h J (fun h=>?_) (fun h=>?_)
  ·refine au<|zo J (dA)<|ap<|al<|aa ?_;cases so h;exact aB J J
  ·refine dz<|ae<|au<|ax J<|zo J (gJ vg J)<|zo J (bg hI)<|ap<|av<|aP (k:=23) J fun hN=>bu ?_;refine aG (dk (Z:=fun ls i=>(l.drop i=ls)∧nT columns ls=some R) (Of:=fun _ i=>[]) (Gf:=fun _ i=>[(1,kC columns),(23,d6 (od) l),(24,gR l),(25,bQ (i:Int))]) (fun i h=>?_) (fun e tl ih i h=>?_) l 0 ⟨J,h⟩) (aX J)
   ·obtain⟨hx,h⟩:=h
    refine aq<|au<|zo J (eD J J)<|ap<|ae<|bn (ht J) (cW hx)<|aY ?_;refine ac (ac (aC ?_));refine am<|au<|zo rfl (dA)<|ap<|al ?_;cases so h;exact aB J J
   ·obtain⟨hx,h⟩:=h
    refine aq<|au<|zo J (eD J J)<|ap<|ae<|bm (ht J) (cR hx)<|dz<|ae<|av<|au<|zo J (im vg xC J J J (cS hx))<|zo J (bw xC J J)<|bo J<|ap<|au<|ax J<|ax J<|bF h fun r2 q_r2 h=>?_;refine zo J (aJ Qk (KU _ _ q_r2) ⟨(ht J),(ht J),be⟩)<|zo J (dn (ht J))<|ap<|dh h J (fun h=>?_) (fun h=>?_)
    ·refine au<|zo J (dA)<|ap<|al ?_;refine aA (aa (aa (aA (aa ?_))));cases so h;exact aB J J
    ·refine bt<|ak<|am<|ai<|zo rfl (jN (cy hx hN) rfl)<|ax rfl<|aH ?_;exact aO (aG (ih (i+1) ⟨cx hx,h⟩) (aX J))

theorem IZ(r:(List aQ))(columns:(List Int)){R:(List aQ)}(h:uk r columns=some R):io aM 112 [d6 (bf) r,kC columns] false bf 82 R:=by
 refine io.of Tryz.func112 J J J fun w0 S0=>au<|ci false bf 82<|zo J (a8 rQ)<|ap<|au<|ci false bf 82<|zo J (a8 rQ)<|ap<|ae<|au<|ax J<|zo J (gJ dd J)<|zo J (bg hI)<|ap<|av<|aP (k:=8) J fun hN=>bu ?_;refine fe<|nd ?_;refine aG (ld (Z:=fun ls i out l c=>(columns.drop i=ls)∧nj r ls out=some R) (Of:=fun _ i out l c=>[cC bf 82 l c out]) (Gf:=fun _ i out l c=>[(0,d6 (bf) r),(5,nJ l c out),(8,kC columns),(9,gR columns),(10,bQ (i:Int))]) (fun i out l c h=>?_) (fun e tl ih i out l c h=>?_) columns 0 ([]:List aQ) none 0 ⟨J,h⟩) (aX J)
 ·obtain⟨hx,h⟩:=h
  refine aq<|au<|zo J (eD J J)<|ap<|ae<|bn (ht J) (cW hx)<|aY ?_;refine ac (ac (aC ?_));refine am<|au<|ax rfl<|bo rfl<|ap<|al ?_;cases so h;exact iT J J
 ·obtain⟨hx,h⟩:=h
  refine aq<|au<|zo J (eD J J)<|ap<|ae<|bm (ht J) (cR hx)<|dz<|ae<|av<|au<|zo J (im dd bK J J J (cS hx))<|zo J (bw bK J J)<|bo J<|ap<|ai<|ax J<|ax J<|ax J<|bF h fun e1 q_e1 h=>?_;refine zo J (im rn kF J J J q_e1)<|zo J (bw kF J J)<|zo J (ba (r:=bf) (ys:=[e1]) (xs:=[.tmp 18]) rn kF J J J J J ⟨(ht J),be⟩)<|bF h fun out1 q_out1 h=>dv kF J J J J rn J J (ht J) (ht J) q_out1 fun l1 c1=>bo J<|aH<|ak<|am<|ai<|zo rfl (jN (cy hx hN) rfl)<|ax rfl<|aH ?_;exact aO (aG (ih (i+1) out1 l1 c1 ⟨cx hx,h⟩) (aX J))
theorem NH(r:(List aQ))(columns:(List Int)){R:(List aQ)×Int}(h:xT r columns=some R):aW aM 62 [d6 (bf) r,kC columns] (tT [d6 (bf) R.1,bQ R.2]):=by
 refine aW.of Tryz.func62 J J J fun w0 S0=>au<|zo J (a8 (show aw _ _ _ (d6 (bf) ([]))from tI))<|zo J (dA)<|ap<|ae<|au<|ax J<|zo J (ba (r:=od) (ys:=[r]) (xs:=[.tmp 7]) vg xC J J J J J ⟨(ht J),be⟩)<|ax J<|bF h fun r1 q_r1 h=>zo J (aJ QR (Lw _ _ q_r1) ⟨(ht J),(ht J),be⟩)<|bo J<|ap<|au<|ax J<|zo J (qZ J)<|ap ?_;refine dh h J (fun h=>?_) (fun h=>?_)
 ·refine au<|ax J<|zo J (a8 (show aw _ _ _ (d6 (bf) ([]))from tI))<|bo J<|ap<|al<|aa ?_;cases so h;exact d5 J J J
 ·refine dz<|au<|ax J<|ax J<|bF h fun r2 q_r2 h=>jj QQ (IZ _ _ q_r2) ⟨(ht J),(ht J),be⟩ J fun l c=>bo J<|zo J (dA)<|ap<|al<|gy<|ii 4 J<|ii 16 J<|qe 4 J<|bv ?_;cases so h;exact d5 J J J

theorem IY(l:Option Nat)(c:Nat)(b:(List Int))(n:Int){R:(List Int)}(h:qr b n=some R):eV aM 113 [nJ l c b,tD Cj n] [fA (rI .u8) 5 l c b] (fun i:OI=>tO (rI .u8) (i.h 0).1 (i.h 0).2 R) (fun i=>[fA (rI .u8) 5 (i.h 0).1 (i.h 0).2 R]):=by
 refine eV.of Tryz.func113 J J J fun w0 S0=>DE 0 J<|au<|ci false (rI .u8) 5<|zo J (a8 rQ)<|ap<|ae<|au<|zo J (dA)<|ap<|av<|bu<|nd ?_;refine aG (Gh (Z:=fun n1 b1 l1 c1 i=>jO n n1 b1 i=some R) (Of:=fun b1 l1 c1 i=>[fA (rI .u8) 5 l1 c1 b1]) (Gf:=fun b1 l1 c1 i=>[(0,tO (rI .u8) l1 c1 b1),(1,tD Cj n),(5,bQ i)]) (fun b1 l1 c1 i h=>nn h) (fun n1 ih b1 l1 c1 i h=>?_) sP b l c (56:Int) h) (aX J);refine aq<|ae<|au<|ax J<|zo J (dG (ht J) hI)<|ap<|dh h J (fun h=>?_) (fun h=>?_)
 ·refine dz<|ae<|av<|ai<|ax J<|ax J<|ax J<|bF h fun u q_u h=>zo J (Eo (ht J) (ht J) (IK q_u))<|zo J (kL E7 Gm (ht J))<|zo J (ba (r:=(rI .u8)) (ys:=[(IntKind.u8.wrap ((n).fdiv (2^(min (Int.toNat i) IntKind.u64.bits))))]) (xs:=[.tmp 14]) A4 JS J J J J J ⟨(ht J),be⟩)<|bF h fun b2 q_b2 h=>tU JS J J J J A4 J J (ht J) (ht J) q_b2 fun l2 c2=>bo J<|aH<|ak<|am<|ai<|ax rfl<|zo rfl (gj (ht rfl) hI)<|bo rfl<|aH ?_;exact aO (aG (ih b2 l2 c2 (IntKind.i64.wrap (i-(8:Int))) h) (aX J))
 ·refine aY ?_;refine ac (ac (aC ?_));refine am<|au<|ax rfl<|bo rfl<|ap<|al ?_;cases so h;exact cX J (oi l1 c1) J J (fun _ _ h=>h)

theorem KT{R:(List Int)}(h:vn=some R):aW aM 179 [] (tD zn R):=by
 refine aW.of Tryz.func179 J J J fun w0 S0=>au<|bc (r:=zn) (x:=(List.replicate 256 (0:Int))) zZ (fun _=>uZ (r:=oU) 256 (fun _=>J) _) J fun b=>ap<|au<|bF h fun e q_e h=>zo J (f9 A3 nO (.head _) (ht J) hI q_e)<|bF h fun ar q_ar h=>sI nO J q_e (so q_ar) (ht J) hI<|ap<|ae<|au<|zo J (dA)<|ap<|av<|bu ?_;refine aG (xe (Z:=fun n1 n out=>nQ n1 n out=some R) (Of:=fun n out=>[bx zn 238 b out]) (Gf:=fun n out=>[(0,tV (aF b 0)),(1,bQ n)]) (fun n out h=>nn h) (fun n1 ih n out h=>?_) sP (64:Int) ar h) (aX J);refine aq<|ae<|au<|ax J<|zo J (fG (ht J) hI)<|ap<|dh h J (fun h=>?_) (fun h=>?_)
 ·refine dz<|ae<|av<|au<|ax J<|zo J (Ir hI (ht J))<|bF h fun e1 q_e1 h=>zo J (f9 A3 nO (.head _) (ht J) (ht J) q_e1)<|zo J (ux nO J J (.head _) q_e1 (ht J))<|bo J<|ap<|au<|ax J<|ax J<|zo J (Eo (ht J) hI (by decide))<|bF h fun e2 q_e2 h=>zo J (f9 A3 nO (.head _) (ht J) (ht J) q_e2)<|bF h fun ar1 q_ar1 h=>sI nO J q_e2 (so q_ar1) (ht J) (ht J)<|aH ?_;refine am<|au<|ax rfl<|zo rfl (M5 (ht rfl) hI)<|zo rfl (jk rfl)<|ap<|dh h rfl (fun h=>?_) (fun h=>?_)
  ·refine ai<|ax J<|bF h fun e3 q_e3 h=>zo J (f9 A3 nO (.head _) (ht J) (ht J) q_e3)<|zo J (ux nO J J (.head _) q_e3 (ht J))<|zo J (Bq (ht J) hI)<|zo J (f9 A3 nO (.head _) (ht J) (ht J) q_e3)<|bF h fun ar2 q_ar2 h=>sI nO J q_e3 (so q_ar2) (ht J) (ht J)<|aH<|ak<|am<|ai<|ax rfl<|zo rfl (Iq (ht rfl) hI (by decide))<|bo rfl<|aH ?_;exact aO (aG (ih (IntKind.i64.wrap ((n).tdiv (2:Int))) ar2 h) (aX J))
  ·refine bt<|ak<|am<|ai<|ax rfl<|zo rfl (Iq (ht rfl) hI (by decide))<|bo rfl<|aH ?_;exact aO (aG (ih (IntKind.i64.wrap ((n).tdiv (2:Int))) ar1 h) (aX J))
 ·refine aY ?_;refine ac (ac (aC ?_));refine am<|ae<|au<|zo rfl (dA)<|ap<|av<|bu ?_;refine aG (xe (Z:=fun n3 n2 out1=>nP n3 n2 out1=some R) (Of:=fun n2 out1=>[bx zn 238 b out1]) (Gf:=fun n2 out1=>[(0,tV (aF b 0)),(3,bQ n2)]) (fun n2 out1 h=>nn h) (fun n3 ih1 n2 out1 h=>?_) sP (2:Int) out h) (aX J);refine aq<|ae<|au<|ax J<|zo J (ep (ht J) hI)<|ap<|dh h J (fun h=>?_) (fun h=>?_)
  ·refine dz<|ae<|av<|au<|ax J<|zo J (bg hI)<|ap<|av<|bu ?_;refine aG (xe (Z:=fun n4 x out2=>qn (nP n3) n2 n4 x out2=some R) (Of:=fun x out2=>[bx zn 238 b out2]) (Gf:=fun x out2=>[(0,tV (aF b 0)),(3,bQ n2),(30,bQ n2),(31,bQ x)]) (fun x out2 h=>nn h) (fun n4 ih2 x out2 h=>?_) sP (0:Int) out1 h) (aX J);refine aq<|au<|zo J (eD J J)<|ap<|ae<|dh h J (fun h=>?_) (fun h=>?_)
   ·refine dz<|ae<|av<|au<|ax J<|bo J<|ap<|bF h fun e4 q_e4 h=>bF h fun e5 q_e5 h=>bF h fun e6 q_e6 h=>?_
    refine oP 11 (ts:=[bQ n2,bQ x,bQ (IntKind.i64.wrap (n2+x)),bQ n2,tV (aF b (n2.toNat*1)),tD oU e4,bQ x,tV (aF b (x.toNat*1)),tD oU e5,tD oU (mp .xor .u32 e4 e5),tV (aF b ((IntKind.i64.wrap (n2+x)).toNat*1))]) mixed J J J
     ⟨gF 3 J J J (cz J),
     ⟨gF 4 J J J (cz J),
     ⟨eu 34 0 35 1 J J J J (kw (ht J) (ht J)),
     ⟨gF 3 J J J (cz J),
     ⟨JM 0 37 3 J J J J (f9 A3 nO (.head _) (ht J) (ht J) q_e4),
     ⟨cL 38 4 J J J (ux nO J J (.head _) q_e4 (ht J)),
     ⟨gF 4 J J J (cz J),
     ⟨JM 0 40 6 J J J J (f9 A3 nO (.head _) (ht J) (ht J) q_e5),
     ⟨cL 41 7 J J J (ux nO J J (.head _) q_e5 (ht J)),
     ⟨eu 39 5 42 8 J J J J (Bq (ht J) (ht J)),
     ⟨JM 0 36 2 J J J J (f9 A3 nO (.head _) (ht J) (ht J) q_e6),
     be⟩⟩⟩⟩⟩⟩⟩⟩⟩⟩⟩ ?_
    refine bF h fun ar3 q_ar3 h=>sI nO J q_e6 (so q_ar3) (ht J) (ht J)<|aH<|ak<|am<|ai<|zo rfl (kw (ht rfl) hI)<|ax rfl<|aH ?_;exact aO (aG (ih2 (IntKind.i64.wrap (x+(1:Int))) ar3 h) (aX J))
   ·refine aY ?_;refine ac (ac (aC ?_));refine ak<|am<|ai<|ax rfl<|zo rfl (Ir (ht rfl) hI)<|bo rfl<|aH ?_;exact aO (aG (ih1 (IntKind.i64.wrap (n2*(2:Int))) out2 h) (aX J))
  ·refine aY ?_;refine ac (ac (aC ?_));refine am<|au<|zo rfl (bk zZ rfl rfl cO (.head _) (ht rfl))<|aE zZ rfl ay rfl (ht rfl) (ht rfl)<|ap<|al<|dw 0 rfl ?_;cases so h;exact fz J zZ J J J

end Go.Proofs.YtmogpgcfognefaaGreatDoor

