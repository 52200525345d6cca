/- cd of this claim: P6. -/
import Derived.Test.YtmogpgcfognefaaGreatDoorNcT
import Derived.Test.YtmogpgcfognefaaGreatDoorNcP5
set_option linter.all false
namespace Go.Proofs.YtmogpgcfognefaaGreatDoor
open Go
set_option maxRecDepth 100000

theorem LA(s:(List bj))(f:(bj→Option Bool)){R:Bool}(h:d8 s f=some R):aW aM 107 [d6 (bU) s,(eN aM Fc kS (fun(x:bj)=>f x))] (gu R):=by
 refine aW.of Tryz.func107 J J J fun w0 S0=>au<|zo J (eL)<|ap<|au<|ax J<|ax J<|bF h fun r q_r h=>zo J (aJ Mp (FO _ _ q_r) ⟨(ht J),(ht J),be⟩)<|zo J (dG (ht J) hI)<|bo J<|ap<|al ?_;cases so h;exact aB J J

theorem KA(of:(bj→Option gQ))(name:gQ)(p:bj){R:Bool}(h:dM of name p=some R):aW aM 231 [tD bU p,bp (rT ((eN aM Fc sN (fun(x:bj)=>of x)))) (),bp rS name] (gu R):=by
 refine aW.of Tryz.func231 J J J fun w0 S0=>au<|zo J (kZ J)<|zo J (eL)<|ap<|ae<|bF h fun r q_r h=>?_
 refine eb (ts:=[_,_,_,_,_,_]) mixed J J
  ⟨gF 1 J J J (yk OL (ht J)),
  ⟨gF 3 J J J (bw kG J J),
  ⟨eu 5 0 6 1 J J J J (fK (args:=Fc) (res:=sN) (f:=(fun(x:bj)=>of x)) (x:=((p):bj)) (ht J) q_r ⟨(ht J),be⟩),
  ⟨gF 2 J J J (bw Cr J J),
  ⟨eu 7 2 8 3 J J J J (wW (ht J) (ht J)),
  ⟨cL 9 4 J J J (xx J),
  be⟩⟩⟩⟩⟩⟩ ?_
 refine am<|al ?_;cases so h;exact aB J J

theorem KY(l:(List bj))(of:(bj→Option gQ))(name:gQ){R:Int×Bool}(h:gO l of name=some R):aW aM 174 [d6 (bU) l,(eN aM Fc sN (fun(x:bj)=>of x)),tD rS name] (tT [bQ R.1,gu R.2]):=by
 refine aW.of Tryz.func174 J J J fun w0 S0=>au<|zo J (Fy (ht J))<|zo J (kZ J)<|zo J (dA)<|zo J (eL)<|ap<|au<|ax J<|zo J ((show bL _ _ _ _ ((eN aM Fc kS (fun(x:bj)=>(dM of name) x)))from gk (cts:=[bp (rT ((eN aM Fc sN (fun(x:bj)=>of x)))) (),bp rS name]) (caps:=[.tmp 4,.tmp 5]) PP ⟨(ht J),(ht J),be⟩ (fun x y h=>KA _ _ _ h)))<|bF h fun r q_r h=>zo J (aJ Mp (FO _ _ q_r) ⟨(ht J),(ht J),be⟩)<|bo J<|ap<|au<|ax J<|zo J (wU (ht J) hI)<|ax J<|zo J (dG (ht J) hI) ?_;refine bo J<|bo J<|ap<|al ?_;cases so h;exact d5 J J J

theorem Lz(l:(List bj))(of:(bj→Option gQ)){R:Bool}(h:jD l of=some R):aW aM 108 [d6 (bU) l,(eN aM Fc sN (fun(x:bj)=>of x))] (gu R):=by
 refine aW.of Tryz.func108 J J J fun w0 S0=>au<|zo J (eL)<|ap<|ae<|au<|ax J<|zo J (gJ mw J)<|zo J (bg hI)<|ap<|av<|aP (k:=9) J fun hN=>bu ?_;refine aG (dk (Z:=fun ls i=>(l.drop i=ls)∧ez l of ls i=some R) (Of:=fun _ i=>[]) (Gf:=fun _ i=>[(0,d6 (bU) l),(1,(eN aM Fc sN (fun(x:bj)=>of x))),(9,d6 (bU) l),(10,gR l),(11,bQ (i:Int))]) (fun i h=>?_) (fun e tl ih i h=>?_) l 0 ⟨J,h⟩) (aX J)
 ·obtain⟨hx,h⟩:=h
  refine aq<|au<|zo J (eD J J)<|ap<|ae<|bn (ht J) (cW hx)<|aY ?_;refine ac (ac (aC ?_));refine am<|au<|zo rfl (eL)<|ap<|al ?_;cases so h;exact aB J J
 ·obtain⟨hx,h⟩:=h
  refine aq<|au<|zo J (eD J J)<|ap<|ae<|bm (ht J) (cR hx)<|dz<|ae<|av<|au<|ax J<|zo J (im mw kG J J J (cS hx))<|zo J (bw kG J J)<|bc (r:=bU) (x:=ME) kG (fun _=>uc _) J fun b=>bo J<|aE kG J ay J (ht J) (ht J)<|aV 6 J<|ap<|ae ?_;refine ai<|ax J<|ax J<|ax J<|zo J (bw kG J J)<|bF h fun r q_r h=>zo J (fK (args:=Fc) (res:=sN) (f:=(fun(x:bj)=>of x)) (x:=((e):bj)) (ht J) q_r ⟨(ht J),be⟩)<|bF h fun r1 q_r1 h=>zo J (aJ Qo (KY _ _ _ q_r1) ⟨(ht J),(ht J),(ht J),be⟩)<|ax J<|zo J (lg J J)<|zo J (lg J J)<|bo J<|bo J<|ap<|au<|ax J<|ax J<|zo J (cZ (ht J) (ht J))<|ax J<|bF h fun t q_t h=>cw J J (fun hg=>cz J) ?_;refine cw J J (fun hg=>bw kG J J) ?_
  obtain⟨r2,h1t,h0t⟩:=og q_t
  have q_r2g:=fun hb=>(h1t hb).1
  refine cw J J (fun hg=>fK (args:=Fc) (res:=sN) (f:=(fun(x:bj)=>of x)) (x:=((e):bj)) (aI J hg) (q_r2g hg) ⟨(aI J hg),be⟩) ?_
  obtain⟨r3,h1t⟩:=J6 (fun hb=>(h1t hb).2)
  have q_r3g:=fun hb=>(h1t hb).1
  refine cw J J (fun hg=>aJ Ja (BJ _ (q_r3g hg)) ⟨(aI J hg),be⟩)<|cw J J (fun hg=>dn (aI J hg))<|zo J (dV (ht J) (fun hb=>(aI J (mz hb))) (fun hb=>(h1t hb).2) h0t)<|ap<|dh h J (fun h=>?_) (fun h=>?_)
  ·refine au<|zo J (eL)<|ap<|al ?_;refine aA (aa (aa (aA (aa ?_))));cases so h;exact aB J J
  ·refine bt<|ak<|am<|ai<|zo rfl (jN (cy hx hN) rfl)<|ax rfl<|aH ?_;exact aO (aG (ih (i+1) ⟨cx hx,h⟩) (aX J))

theorem Ly(t:bj){R:gQ}(h:d3 t=some R):aW aM 109 [tD bU t] (tD rS R):=by
 refine aW.of Tryz.func109 J J J fun w0 S0=>au<|zo J (kZ J)<|zo J (a8 hS)<|ap<|au<|zo J (bY IN yB J J)<|zo J (bw Cr J J)<|bo J<|ap<|al ?_;cases so h;exact aB J J

theorem EJ(c:aT){R:Int}(h:jW c=some R):aW aM 59 [tD bP c] (bQ R):=by
 refine aW.of Tryz.func59 J J J fun w0 S0=>au<|zo J (kZ J)<|zo J (dA)<|ap<|au<|zo J (a8 (show aw _ _ _ ((eN aM Fc kS (fun(x:bj)=>iu x)))from(zM QX fun x y h=>LC _ h)))<|ap<|ae<|au<|zo J (bY j7 dH J J)<|zo J (bw ql J J)<|zo J (gJ mw J)<|zo J (fG (ht J) hI)<|ax J<|bF h fun t q_t h=>cw J J (fun hg=>bY j7 dH J J)<|cw J J (fun hg=>aL ql J J (aI J hg))<|cw J J (fun hg=>cz J) ?_
 obtain⟨r,h1t,h0t⟩:=og q_t
 have q_rg:=fun hb=>(h1t hb).1
 refine cw J J (fun hg=>aJ QV (LA _ _ (q_rg hg)) ⟨(aI J hg),(aI J hg),be⟩)<|zo J (dV (ht J) (fun hb=>(aI J (mz hb))) (fun hb=>(h1t hb).2) h0t)<|ax J<|bF h fun t1 q_t1 h=>cw J J (fun hg=>bY j7 dH J J)<|cw J J (fun hg=>aL ql J J (aI J hg)) ?_
 obtain⟨r1,h1t1,h0t1⟩:=og q_t1
 have q_r1g:=fun hb=>(h1t1 hb).1
 refine cw J J (fun hg=>aJ QU (Lz _ _ (q_r1g hg)) ⟨(aI J hg),(zM QT fun x y h=>Ly _ h),be⟩)<|cw J J (fun hg=>dn (aI J hg))<|zo J (dV (ht J) (fun hb=>(aI J (mz hb))) (fun hb=>(h1t1 hb).2) h0t1)<|ap<|dh h J (fun h=>?_) (fun h=>?_)
 ·refine au<|zo J (dA)<|ap<|al<|aa ?_;cases so h;exact aB J J
 ·refine dz<|au<|zo J (dA)<|ap<|al ?_;cases so h;exact aB J J

theorem Lu(root:(List Int))(c:Int){R:Bool}(h:dQ root c=some R):aW aM 137 [bQ c,bp gr root] (gu R):=by
 refine aW.of Tryz.func137 J J J fun w0 S0=>au<|zo J (eL)<|ap<|au<|ax J<|zo J (ep (ht J) hI)<|ax J<|cw J J (fun hg=>cz J)<|cw J J (fun hg=>bw bZ J J)<|cw J J (fun hg=>bR dd (aI J hg))<|cw J J (fun hg=>dG (aI J hg) (aI J hg))<|zo J (oQ J J)<|ax J<|bF h fun t q_t h=>cw J J (fun hg=>bw bZ J J)<|cw J J (fun hg=>cz J) ?_
 obtain⟨e,h1t,h0t⟩:=og q_t
 have q_eg:=fun hb=>(h1t hb).1
 refine cw J J (fun hg=>b9 dd bK J (aI J hg) (aI J hg) (q_eg hg))<|cw J J (fun hg=>aL bK J J (aI J hg))<|cw J J (fun hg=>bD (aI J hg) hI)<|zo J (dV (ht J) (fun hb=>(aI J (mz hb))) (fun hb=>(h1t hb).2) h0t)<|bo J<|ap<|al ?_;cases so h;exact aB J J

theorem FR(s:(List aZ))(f:(aZ→Option Bool)){R:Int}(h:du s f=some R):aW aM 150 [d6 (aS) s,(eN aM Gs kS (fun(x:aZ)=>f x))] (bQ R):=by
 refine aW.of Tryz.func150 J J J fun w0 S0=>au<|zo J (dA)<|ap<|ae<|au<|ax J<|zo J (gJ n9 J)<|zo J (bg hI)<|ap<|av<|aP (k:=6) J fun hN=>bu ?_;refine aG (dk (Z:=fun ls i=>(s.drop i=ls)∧cD f ls i=some R) (Of:=fun _ i=>[]) (Gf:=fun _ i=>[(0,d6 (aS) s),(1,(eN aM Gs kS (fun(x:aZ)=>f x))),(7,gR s),(8,bQ (i:Int))]) (fun i h=>?_) (fun e tl ih i h=>?_) s 0 ⟨J,h⟩) (aX J)
 ·obtain⟨hx,h⟩:=h
  refine aq<|au<|zo J (eD J J)<|ap<|ae<|bn (ht J) (cW hx)<|aY ?_;refine ac (ac (aC ?_));refine am<|au<|zo rfl (dA)<|ap<|al ?_;cases so h;exact aB J J
 ·obtain⟨hx,h⟩:=h
  refine aq<|au<|zo J (eD J J)<|ap<|ae<|bm (ht J) (cR hx)<|dz<|ae<|av<|au<|ax J<|bo J<|ap<|au<|ax J<|ax J<|ax J<|zo J (im n9 eM J J J (cS hx)) ?_;refine zo J (bw eM J J)<|bF h fun r q_r h=>zo J (fK (args:=Gs) (res:=xu) (f:=(fun(x:aZ)=>f x)) (x:=((e):aZ)) (ht J) q_r ⟨(ht J),be⟩)<|ap<|dh h J (fun h=>?_) (fun h=>?_)
  ·refine au<|ax J<|bo J<|ap<|al ?_;refine aA (aa (aa (aA (aa ?_))));cases so h;exact aB J J
  ·refine bt<|ak<|am<|ai<|zo rfl (jN (cy hx hN) rfl)<|ax rfl<|aH ?_;exact aO (aG (ih (i+1) ⟨cx hx,h⟩) (aX J))

theorem Lt(s:(List aZ))(f:(aZ→Option Bool)){R:Bool}(h:de s f=some R):aW aM 138 [d6 (aS) s,(eN aM Gs kS (fun(x:aZ)=>f x))] (gu R):=by
 refine aW.of Tryz.func138 J J J fun w0 S0=>au<|zo J (eL)<|ap<|au<|ax J<|ax J<|bF h fun r q_r h=>zo J (aJ Ms (FR _ _ q_r) ⟨(ht J),(ht J),be⟩)<|zo J (dG (ht J) hI)<|bo J<|ap<|al ?_;cases so h;exact aB J J

theorem Lr(s1:(List Int))(s2:(List aU))(eq:(Int→aU→Option Bool)){R:Bool}(h:cF s1 s2 eq=some R):aW aM 140 [kC s1,d6 (bO) s2,(eN aM (fun(x:Int×aU)=>[bQ x.1,tD bO x.2]) kS (fun(x:Int×aU)=>eq x.1 x.2))] (gu R):=by
 refine aW.of Tryz.func140 J J J fun w0 S0=>au<|zo J (eL)<|ap<|ae<|au<|ax J<|zo J (gJ dd J)<|ax J<|zo J (gJ pw J)<|zo J (cZ (ht J) (ht J))<|ap<|dh h J (fun h=>?_) (fun h=>?_)
 ·refine au<|zo J (eL)<|ap<|al<|aa ?_;cases so h;exact aB J J
 ·refine dz<|ae<|au<|ax J<|zo J (gJ dd J)<|zo J (bg hI)<|ap<|av<|aP (k:=15) J fun hN=>bu ?_;refine aG (dk (Z:=fun ls i=>(s1.drop i=ls)∧b7 s2 eq ls i=some R) (Of:=fun _ i=>[]) (Gf:=fun _ i=>[(1,d6 (bO) s2),(2,(eN aM (fun(x:Int×aU)=>[bQ x.1,tD bO x.2]) kS (fun(x:Int×aU)=>eq x.1 x.2))),(15,kC s1),(16,gR s1),(17,bQ (i:Int))]) (fun i h=>?_) (fun e tl ih i h=>?_) s1 0 ⟨J,h⟩) (aX J)
  ·obtain⟨hx,h⟩:=h
   refine aq<|au<|zo J (eD J J)<|ap<|ae<|bn (ht J) (cW hx)<|aY ?_;refine ac (ac (aC ?_));refine am<|au<|zo rfl (eL)<|ap<|al ?_;cases so h;exact aB J J
  ·obtain⟨hx,h⟩:=h
   refine aq<|au<|zo J (eD J J)<|ap<|ae<|bm (ht J) (cR hx)<|dz<|ae<|av<|au<|ax J<|zo J (im dd bK J J J (cS hx))<|zo J (bw bK J J)<|bo J<|bo J<|ap<|au<|ax J ?_;refine ax J<|bF h fun e1 q_e1 h=>zo J (im pw k5 J J J q_e1)<|zo J (bw k5 J J)<|bc (r:=bO) (x:=HV) k5 (fun _=>mE _) J fun b=>aE k5 J ay J (ht J) (ht J)<|aV 9 J<|ap<|au<|ax J<|ax J<|zo J (bw k5 J J)<|bF h fun r q_r h=>zo J (fK (args:=(fun(x:Int×aU)=>[tD bV x.1,tD bO x.2])) (res:=xu) (f:=(fun(x:Int×aU)=>eq x.1 x.2)) (x:=((e,e1):Int×aU)) (ht J) q_r ⟨(ht J),(ht J),be⟩)<|zo J (dn (ht J))<|ap<|dh h J (fun h=>?_) (fun h=>?_)
   ·refine au<|zo J (eL)<|ap<|al ?_;refine aA (aa (aa (aA (aa ?_))));cases so h;exact aB J J
   ·refine bt<|ak<|am<|ai<|zo rfl (jN (cy hx hN) rfl)<|ax rfl<|aH ?_;exact aO (aG (ih (i+1) ⟨cx hx,h⟩) (aX J))

theorem Lq(k:Int)(c:aU){R:Bool}(h:il k c=some R):aW aM 141 [bQ k,tD bO c] (gu R):=by
 refine aW.of Tryz.func141 J J J fun w0 S0=>au<|zo J (kZ J)<|zo J (eL)<|ap<|au<|ax J<|zo J (bY BD pe J J)<|zo J (bw bK J J)<|zo J (bD (ht J) (ht J))<|bo J<|ap<|al ?_;cases so h;exact aB J J

theorem Ls(f:dc)(p:(Option bN))(n:aZ){R:Bool}(h:dP f p n=some R):aW aM 139 [tD aS n,bp cr f,bp mF p] (gu R):=by
 refine aW.of Tryz.func139 J J J fun w0 S0=>au<|zo J (kZ J)<|zo J (eL)<|ap<|ae<|au<|zo J (bY gN cT J J)<|zo J (bw bK J J)<|zo J (qZ J)<|ap<|dh h J (fun h=>?_) (fun h=>?_)
 ·refine au<|zo J (eL)<|ap<|al<|aa ?_;cases so h;exact aB J J
 ·refine dz<|ae<|ae<|bF h fun t q_t h=>?_
  obtain⟨p1,h1t,h0t⟩:=og q_t
  have q_p1g:=fun hb=>(h1t hb).1
  refine eb (ts:=[_,_,_,_,_,_,_,_,_,_,_,_,_,_]) mixed J J
   ⟨gF 1 J J J (bY tN mU J J),
   ⟨cL 8 0 J J J (bw bK J J),
   ⟨cL 9 1 J J J (qZ J),
   ⟨cL 10 2 J J J (cz J),
   ⟨mH 3 11 3 J J J J (eY J J J J (fun hg=>bY nE gC J J)),
   ⟨fj 12 4 11 3 J J J J (eY J J J J (fun hg=>aL bK J J (aI J hg))),
   ⟨mH 2 11 3 J J J J (eY J J J J (fun hg=>bw sU J J)),
   ⟨fj 14 6 11 3 J J J J (eY J J J J (fun hg=>dY (aI J hg) (q_p1g hg))),
   ⟨fj 15 7 11 3 J J J J (eY J J J J (fun hg=>cI BG J qE J (aI J hg))),
   ⟨fj 16 8 11 3 J J J J (eY J J J J (fun hg=>cI j7 J dH J (aI J hg))),
   ⟨fj 17 9 11 3 J J J J (eY J J J J (fun hg=>aL ql J J (aI J hg))),
   ⟨fj 18 10 11 3 J J J J (eY J J J J (fun hg=>bR mw (aI J hg))),
   ⟨pL 13 5 19 11 11 3 J J J J J (eY J J J J (fun hg=>dG (aI J hg) (aI J hg))),
   ⟨eu 11 3 20 12 J J J J (dV (ht J) (fun hb=>(aI J (mz hb))) (fun hb=>(h1t hb).2) h0t),
   be⟩⟩⟩⟩⟩⟩⟩⟩⟩⟩⟩⟩⟩⟩ ?_
  refine am<|dh h rfl (fun h=>?_) (fun h=>?_)
  ·refine au<|zo J (eL)<|ap<|al<|aa ?_;cases so h;exact aB J J
  ·refine dz<|ae<|bF h fun p2 q_p2 h=>bF h fun e q_e h=>bF h fun r q_r h=>?_
   refine eb (ts:=[_,_,_,_,_,_,_,_,_,_,_,_,_,_,_]) mixed J J
    ⟨gF 3 J J J (bY oK ib J J),
    ⟨cL 22 0 J J J (bw bZ J J),
    ⟨gF 2 J J J (bw sU J J),
    ⟨cL 24 2 J J J (dY (ht J) q_p2),
    ⟨cL 25 3 J J J (bY BG qE J J),
    ⟨cL 26 4 J J J (bY j7 dH J J),
    ⟨cL 27 5 J J J (bw ql J J),
    ⟨gF 3 J J J (bY nE gC J J),
    ⟨cL 29 7 J J J (bw bK J J),
    ⟨eu 28 6 30 8 J J J J (im mw kG J J J q_e),
    ⟨cL 31 9 J J J (bY pD jz J J),
    ⟨cL 32 10 J J J (bw zr J J),
    ⟨eu 23 1 33 11 J J J J (aJ QI (Lr _ _ _ q_r) ⟨(ht J),(ht J),(zM QH fun x y h=>Lq _ _ h),be⟩),
    ⟨cL 34 12 J J J (dn (ht J)),
    ⟨cL 35 13 J J J (xx J),
    be⟩⟩⟩⟩⟩⟩⟩⟩⟩⟩⟩⟩⟩⟩⟩ ?_
   refine am<|al ?_;cases so h;exact aB J J

theorem NC(p:(Option bN))(f:dc)(root:(List Int)){R:Bool}(h:kb p f root=some R):aW aM 73 [tD mF p,tD cr f,kC root] (gu R):=by
 refine aW.of Tryz.func73 J J J fun w0 S0=>au<|zo J (kZ J)<|zo J (kZ J)<|zo J (kZ J)<|zo J (eL)<|ap<|ae<|au<|zo J (bY tN mU J J)<|zo J (bw bK J J)<|zo J (qZ J)<|ax J<|bC J J (fun hg=>bY tN mU J J)<|bC J J (fun hg=>aL bK J J (aI J hg))<|bC J J (fun hg=>cZ (aI J hg) hI)<|zo J (ki J J)<|ax J<|cw J J (fun hg=>bY rY lN J J)<|cw J J (fun hg=>aL bK J J (aI J hg))<|cw J J (fun hg=>ep (aI J hg) hI) ?_;refine zo J (oQ J J)<|ax J<|cw J J (fun hg=>bY rY lN J J)<|cw J J (fun hg=>aL bK J J (aI J hg))<|cw J J (fun hg=>fG (aI J hg) hI)<|zo J (oQ J J)<|ax J<|cw J J (fun hg=>bY rY lN J J)<|cw J J (fun hg=>aL bK J J (aI J hg))<|cw J J (fun hg=>bD (aI J hg) hI)<|cw J J (fun hg=>bY BE sF J J)<|cw J J (fun hg=>aL bZ J J (aI J hg))<|cw J J (fun hg=>bR dd (aI J hg))<|cw J J (fun hg=>fG (aI J hg) hI)<|cw J J (fun hg=>J3 HS (aI J hg) (aI J hg))<|zo J (oQ J J)<|ax J<|cw J J (fun hg=>bY BE sF J J)<|cw J J (fun hg=>aL bZ J J (aI J hg))<|cw J J (fun hg=>bR dd (aI J hg))<|cw J J (fun hg=>fG (aI J hg) hI)<|zo J (oQ J J)<|ap ?_;refine dh h J (fun h=>?_) (fun h=>?_)
 ·refine au<|zo J (eL)<|ap<|al<|aa ?_;cases so h;exact aB J J
 ·refine dz<|ae<|au<|zo J (bY BE sF J J)<|zo J (bw bZ J J)<|zo J ((show bL _ _ _ _ ((eN aM xr kS (fun(x:Int)=>(dQ root) x)))from gk (cts:=[bp gr root]) (caps:=[.tmp 5]) QL ⟨(ht J),be⟩ (fun x y h=>Lu _ _ h)))<|bF h fun r q_r h=>zo J (aJ AM (sG _ _ q_r) ⟨(ht J),(ht J),be⟩)<|ap<|dh h J (fun h=>?_) (fun h=>?_)
  ·refine au<|zo J (eL)<|ap<|al<|aa ?_;cases so h;exact aB J J
  ·refine dz<|au<|zo J (bY qK kO J J)<|zo J (bw wI J J)<|zo J ((show bL _ _ _ _ ((eN aM Gs kS (fun(x:aZ)=>(dP f p) x)))from gk (cts:=[bp cr f,bp mF p]) (caps:=[.tmp 4,.tmp 3]) QJ ⟨(ht J),(ht J),be⟩ (fun x y h=>Ls _ _ _ h)))<|bF h fun r1 q_r1 h=>zo J (aJ QK (Lt _ _ q_r1) ⟨(ht J),(ht J),be⟩)<|zo J (dn (ht J))<|bo J<|ap<|al ?_;cases so h;exact aB J J

theorem Nu(p:eC)(from1:Int):zc aM 82 (fun(x:Int×Int)=>[bQ x.1,bQ x.2]) (fun _=>pz p from1) [] [bp df p,bp bV from1]:=by
 refine zc.of Tryz.func82 J J J fun Sg yld s R h I yv hy e he w0 S0 B hB=>?_
 replace h:pz p from1 yld s=some R:=h
 refine au<|zo J (bY lB fT J J)<|zo J (bw tt J J)<|zo J (gJ pK J)<|zo J (bg hI)<|ap<|av<|aP (k:=9) J fun hN=>bu ?_;refine aG (oO (Z:=fun ls i e1 s1=>(p.Frags.drop i=ls)∧I s1 e1∧gU from1 yld ls i s1=some R) (Of:=fun _ i e1 s1=>[e1]) (Gf:=fun _ i e1 s1=>[(0,tV yv),(2,bp bV from1),(9,d6 (cr) p.Frags),(10,gR p.Frags),(11,bQ (i:Int))]) (fun i e1 s1 h=>?_) (fun e2 tl ih i e1 s1 h=>?_) p.Frags 0 e s ⟨J,⟨he,h⟩⟩) (aX J)
 ·obtain⟨hx,h⟩:=h
  obtain⟨he1,h⟩:=h
  refine aq<|au<|zo J (eD J J)<|ap<|ae<|bn (ht J) (cW hx)<|aY ?_;refine ac (ac (aC ?_));cases so h;exact Jv J he1 hB trivial
 ·obtain⟨hx,h⟩:=h
  obtain⟨he1,h⟩:=h
  refine aq<|au<|zo J (eD J J)<|ap<|ae<|bm (ht J) (cR hx)<|dz<|ae<|av<|au<|ax J<|zo J (im pK jI J J J (cS hx))<|zo J (bw jI J J)<|bc (r:=cr) (x:=A9) jI (fun _=>lU _) J fun b=>bo J<|aE jI J ay J (ht J) (ht J)<|aV 5 J<|ap<|ae ?_;refine ai<|zo J (bY qK kO J J)<|zo J (bw wI J J)<|zo J (gJ n9 J)<|zo J (bg hI)<|ap<|av<|aP (k:=17) J fun hN1=>bu ?_;refine aG (oO (Z:=fun ls1 i1 e3 s2=>(e2.Nodes.drop i1=ls1)∧I s2 e3∧gT from1 yld (gU from1 yld tl) i ls1 i1 s2=some R) (Of:=fun _ i1 e3 s2=>[e3]) (Gf:=fun _ i1 e3 s2=>[(0,tV yv),(2,bp bV from1),(4,bQ (i:Int)),(9,d6 (cr) p.Frags),(10,gR p.Frags),(11,bQ (i:Int)),(17,d6 (aS) e2.Nodes),(18,gR e2.Nodes),(19,bQ (i1:Int))]) (fun i1 e3 s2 h=>?_) (fun e4 tl1 ih1 i1 e3 s2 h=>?_) e2.Nodes 0 e1 s1 ⟨J,⟨he1,h⟩⟩) (aX J)
  ·obtain⟨hx1,h⟩:=h
   obtain⟨he2,h⟩:=h
   refine aq<|au<|zo J (eD J J)<|ap<|ae<|bn (ht J) (cW hx1)<|aY ?_;refine ac (ac (aC ?_));refine ak<|am<|ai<|zo rfl (jN (cy hx hN) rfl)<|ax rfl<|aH ?_;exact aO (aG (ih (i+1) e3 s2 ⟨cx hx,⟨he2,h⟩⟩) (aX J))
  ·obtain⟨hx1,h⟩:=h
   obtain⟨he2,h⟩:=h
   refine aq<|au<|zo J (eD J J)<|ap<|ae<|bm (ht J) (cR hx1)<|dz<|ae<|av<|au<|ax J<|zo J (im n9 eM J J J (cS hx1))<|zo J (bw eM J J)<|bc (r:=aS) (x:=Ck) eM (fun _=>eK _) J fun b1=>bo J<|aE eM J ay J (ht J) (ht J)<|aV 7 J<|ap<|ae ?_;refine ai<|zo J (bY gN cT J J)<|zo J (bw bK J J)<|zo J (jk J)<|ax J<|bC J J (fun hg=>bY nE gC J J)<|bC J J (fun hg=>aL bK J J (aI J hg))<|bC J J (fun hg=>bw bK J J)<|bC J J (fun hg=>bD (aI J hg) (aI J hg))<|zo J (ki J J)<|ax J ?_;refine Dr ((e4.Op==(9:Int))&&(e4.Table==from1)) (fun hg=>?_) (fun hg=>?_)
   ·have h:=ct h hg;refine u4 J J J hg<|ax J<|u4 J J J hg<|ax J<|u4 J J J hg<|ax J<|u4 J J J hg<|bF h fun r q_r h=>Jk hy he2 q_r (ht J) ⟨(ht J),(ht J),be⟩ J fun e5 he3=>u4 J J J hg<|zo J (dn (ht J))<|zo J (vB (ht J) hg (ht J))<|ap<|dh h J (fun h=>?_) (fun h=>?_)
    ·refine al ?_;refine aA (aa (aa (aA (aA (aa (aa (aA ?_)))))));cases so h;exact Gl J he3 hB trivial
    ·refine bt<|ak<|am<|ai<|zo rfl (jN (cy hx1 hN1) rfl)<|ax rfl<|aH ?_;exact aO (aG (ih1 (i1+1) e5 r.2 ⟨cx hx1,⟨he3,h⟩⟩) (aX J))
   ·have h:=cf h hg;refine lD J J J hg J<|lD J J J hg J<|lD J J J hg J<|lD J J J hg J<|lD J J J hg J<|zo J (Aj (ht J) hg Rw)<|ap<|ne (ht J) (fun hc=>?_) (fun hc=>?_)
    ·cases hc
    ·refine bt<|ak<|am<|ai<|zo rfl (jN (cy hx1 hN1) rfl)<|ax rfl<|aH ?_;exact aO (aG (ih1 (i1+1) e3 s2 ⟨cx hx1,⟨he2,h⟩⟩) (aX J))

theorem FJ(p:eC)(from1:Int){R:It (Int×Int)}(h:nq p from1=some R):yZ aM 45 [tD df p,bQ from1] (fun(x:Int×Int)=>[bQ x.1,bQ x.2]) R:=by
 refine yZ.of Tryz.func45 J J J fun w0 S0=>au<|zo J (kZ J)<|zo J (kZ J)<|zo J (a8 hV)<|ap<|au<|Dw (O1:=[]) (cts:=[bp df p,bp bV from1]) (caps:=[.tmp 2,.tmp 3]) J RW (Nu p from1) ⟨(ht J),(ht J),be⟩ J fun v fp=>bo J<|ap<|al ?_;cases so h;exact Ju J J

theorem FT(s1:(List Int))(s2:(List Int)){R:Bool}(h:ee s1 s2=some R):aW aM 142 [kC s1,kC s2] (gu R):=by
 refine aW.of Tryz.func142 J J J fun w0 S0=>au<|zo J (eL)<|ap<|ae<|au<|ax J<|zo J (gJ dd J)<|ax J<|zo J (gJ dd J)<|zo J (cZ (ht J) (ht J))<|ap<|dh h J (fun h=>?_) (fun h=>?_)
 ·refine au<|zo J (eL)<|ap<|al<|aa ?_;cases so h;exact aB J J
 ·refine dz<|ae<|au<|ax J<|zo J (gJ dd J)<|zo J (bg hI)<|ap<|av<|aP (k:=11) J fun hN=>bu ?_;refine aG (dk (Z:=fun ls i=>(s1.drop i=ls)∧d9 s2 ls i=some R) (Of:=fun _ i=>[]) (Gf:=fun _ i=>[(0,kC s1),(1,kC s2),(12,gR s1),(13,bQ (i:Int))]) (fun i h=>?_) (fun e tl ih i h=>?_) s1 0 ⟨J,h⟩) (aX J)
  ·obtain⟨hx,h⟩:=h
   refine aq<|au<|zo J (eD J J)<|ap<|ae<|bn (ht J) (cW hx)<|aY ?_;refine ac (ac (aC ?_));refine am<|au<|zo rfl (eL)<|ap<|al ?_;cases so h;exact aB J J
  ·obtain⟨hx,h⟩:=h
   refine aq<|au<|zo J (eD J J)<|ap<|ae<|bm (ht J) (cR hx)<|dz<|ae<|av<|au<|ax J<|bo J<|ap<|ae<|bF h fun e1 q_e1 h=>?_
   refine eb (ts:=[_,_,_,_,_,_,_,_,_]) mixed J J
    ⟨gF 0 J J J (cz J),
    ⟨gF 5 J J J (cz J),
    ⟨eu 16 0 17 1 J J J J (im dd bK J J J (cS hx)),
    ⟨cL 18 2 J J J (bw bK J J),
    ⟨gF 1 J J J (cz J),
    ⟨gF 5 J J J (cz J),
    ⟨eu 20 4 21 5 J J J J (im dd bK J J J q_e1),
    ⟨cL 22 6 J J J (bw bK J J),
    ⟨eu 19 3 23 7 J J J J (cZ (ht J) (ht J)),
    be⟩⟩⟩⟩⟩⟩⟩⟩⟩ ?_
   refine am<|dh h rfl (fun h=>?_) (fun h=>?_)
   ·refine au<|zo J (eL)<|ap<|al ?_;refine aA (aa (aa (aA (aa ?_))));cases so h;exact aB J J
   ·refine bt<|ak<|am<|ai<|zo rfl (jN (cy hx hN) rfl)<|ax rfl<|aH ?_;exact aO (aG (ih (i+1) ⟨cx hx,h⟩) (aX J))

theorem FS(p:(Option bN))(frag:Int){R:(List Int)}(h:cB p frag=some R):aW aM 143 [tD mF p,bQ frag] (kC R):=by
 refine aW.of Tryz.func143 J J J fun w0 S0=>au<|zo J (a8 (show aw _ _ _ (kC ([]))from tI))<|ap<|au<|ax J<|bF h fun p1 q_p1 h=>zo J (dY (ht J) q_p1)<|zo J (bY wZ uK J J)<|zo J (bw Fj J J)<|ax J<|bF h fun e q_e h=>zo J (im Tryz.underlying161 zq J J J q_e)<|zo J (bw zq J J)<|bo J<|ap<|au<|ax J<|ax J ?_;refine zo J (gJ ro J)<|zo J (gj (ht J) hI)<|bF h fun e1 q_e1 h=>zo J (im ro bZ J J J q_e1)<|zo J (bw bZ J J)<|bo J<|ap<|al ?_;cases so h;exact aB J J

theorem NB(p:(Option bN))(at1:Int){R:Bool}(h:fR p at1=some R):aW aM 74 [tD mF p,bQ at1] (gu R):=by
 refine Dq Tryz.func74 J J J fun w0 S0=>au<|zo J (kZ J)<|zo J (eL)<|ap<|au<|zo J (bw sU J J)<|bF h fun p1 q_p1 h=>zo J (dY (ht J) q_p1)<|zo J (bY nc gb J J)<|zo J (bY lB fT J J)<|zo J (bw tt J J)<|ax J<|bF h fun e q_e h=>zo J (im pK jI J J J q_e)<|zo J (bw jI J J)<|bc (r:=cr) (x:=A9) jI (fun _=>lU _) J fun b=>aE jI J ay J (ht J) (ht J)<|aV 5 J<|ap ?_;refine ae<|au<|zo J (bY qK kO J J)<|zo J (bw wI J J)<|zo J (gJ n9 J)<|zo J (bg hI)<|ap<|av<|aP (k:=20) J fun hN=>bu ?_;refine aG (dk (Z:=fun ls i=>(e.Nodes.drop i=ls)∧dS p at1 e ls=some R) (Of:=fun _ i=>[]) (Gf:=fun _ i=>[(1,bQ at1),(2,bp mF p),(5,bp cr e),(20,d6 (aS) e.Nodes),(21,gR e.Nodes),(22,bQ (i:Int))]) (fun i h=>?_) (fun e1 tl ih i h=>?_) e.Nodes 0 ⟨J,h⟩) (aX J)
 ·obtain⟨hx,h⟩:=h
  refine aq<|au<|zo J (eD J J)<|ap<|ae<|bn (ht J) (cW hx)<|aY ?_;refine ac (ac (aC ?_));refine am<|au<|bc (r:=bV) (x:=(0:Int)) bK (fun _=>J) J fun b1=>bc (r:=rB) (x:=false) H5 (fun _=>J) J fun b2=>ca<|aE bK J ay J (ht J) hI<|ca<|aE H5 J ay J (ht J) hB<|ap<|ae<|au<|zo J (bw sU J J)<|bF h fun p2 q_p2 h=>zo J (dY (ht J) q_p2)<|zo J (bY nc gb J J)<|zo J (bw px J J)<|ax J<|bF h fun it q_it h=>AP PB (FJ _ _ q_it) ⟨(ht J),(ht J),be⟩ J fun v fp=>ap ?_;refine av<|bF h fun s q_s h=>?_;refine HE (fun(i:Bool×Int)=>[bx rB 4 b2 i.1,bx bV 3 b1 i.2]) (fun(i:Bool×Int)=>(i.1,i.2)) J (ht J) (false,(0:Int)) J q_s (fun _=>J) J (fun i x s2 h lp rec1 _ _ _=>?_) (fun i hi bd=>?_)
  ·obtain⟨one,many⟩:=i
   replace h:dU p x one many=some s2:=h
   refine(show CG _ _ _ [qu lp rec1 .ready,bx rB 4 b2 one,bx bV 3 b1 many] _ from ?_);refine E3 (G' :=[(1,bQ at1),(2,bp mF p),(5,bp cr e),(8,tV (aF b1 0)),(9,tV (aF b2 0)),(20,d6 (aS) e.Nodes),(21,gR e.Nodes),(22,bQ (i:Int)),(23,gu (decide ((i:Int)<(e.Nodes.length:Int)))),(46,tD mF p),(47,bp eW p2),(48,bp df p2.Plan),(49,tD df p2.Plan),(50,bQ at1),(52,bQ x.1),(53,bQ x.2)]) ?_ ⟨J,J,J,J,J,J,J,J,J,J,J,J,J,J,J,J,be⟩;refine ai<|bo J<|aH<|Jx<|av<|au<|zo J (bk bK J J cO (.tail _ (.tail _ (.head _))) (ht J))<|zo J (kw (ht J) hI)<|p9<|aE bK J ay J (ht J) (ht J)<|ap<|ai<|zo J (bw sU J J)<|bF h fun p3 q_p3 h=>zo J (dY (ht J) q_p3)<|zo J (bY nc gb J J)<|zo J (bY lB fT J J)<|zo J (bw tt J J)<|ax J<|bF h fun e2 q_e2 h=>zo J (im pK jI J J J q_e2)<|zo J (bY tN mU J J) ?_;refine zo J (bw bK J J)<|zo J (jk J)<|p9<|aE H5 J ay J (ht J) (ht J)<|aH<|ak<|br<|br<|aK ?_;exact DG ((e2.At==(2:Int)),(IntKind.i64.wrap (many+(1:Int)))) (so h) J
  ·skip
   obtain⟨x1,x2⟩:=i
   have hi:(x1,x2)=s:=hi
   subst hi
   dsimp only at h
   refine(show AT _ _ _ [Cb bd,bx rB 4 b2 x1,bx bV 3 b1 x2] _ from ?_);refine bX (G' :=[(1,bQ at1),(2,bp mF p),(5,bp cr e),(8,tV (aF b1 0)),(9,tV (aF b2 0)),(20,d6 (aS) e.Nodes),(21,gR e.Nodes),(22,bQ (i:Int)),(23,gu (decide ((i:Int)<(e.Nodes.length:Int)))),(46,tD mF p),(47,bp eW p2),(48,bp df p2.Plan),(49,tD df p2.Plan),(50,bQ at1)]) ?_ ⟨J,J,J,J,J,J,J,J,J,J,J,J,J,J,be⟩;refine ak<|am<|ae<|au<|ax rfl<|zo rfl (bw sU rfl rfl)<|bF h fun p4 q_p4 h=>zo J (dY (ht J) q_p4)<|zo J (bY nc gb J J)<|zo J (bY lB fT J J)<|zo J (bw tt J J)<|zo J (gJ pK J)<|zo J (gj (ht J) hI)<|zo J (bD (ht J) (ht J))<|ap<|dh h J (fun h=>?_) (fun h=>?_)
   ·refine au<|zo J (bY rY lN J J)<|zo J (bw bK J J)<|zo J (jk J)<|ax J<|bC J J (fun hg=>bY tN mU J J)<|bC J J (fun hg=>aL bK J J (aI J hg))<|bC J J (fun hg=>bD (aI J hg) hI)<|zo J (ki J J)<|ax J<|bC J J (fun hg=>bk bK J J cO (.tail _ (.tail _ (.head _))) (ht J))<|bC J J (fun hg=>bD (aI J hg) hI)<|zo J (ki J J)<|ax J<|bF h fun t q_t h=>bC J J (fun hg=>bw sU J J)<|bC J J (fun hg=>cz J) ?_
    obtain⟨r,h1t,h0t⟩:=og q_t
    have q_rg:=fun hb=>(h1t hb).1
    refine bC J J (fun hg=>aJ Mt (FS _ _ (q_rg hg)) ⟨(aI J hg),(aI J hg),be⟩) ?_
    obtain⟨r1,h1t⟩:=J6 (fun hb=>(h1t hb).2)
    have q_r1g:=fun hb=>(h1t hb).1
    refine bC J J (fun hg=>aJ N4 (EI _ _ (q_r1g hg)) ⟨(aI J hg),hI,be⟩)<|bC J J (fun hg=>dn (aI J hg))<|zo J (cV (ht J) (fun hb=>(aI J hb)) (fun hb=>(h1t hb).2) h0t)<|bo J<|ap<|al<|aa<|br<|bv<|br<|bv<|xg<|sh ?_;cases so h;exact aB J J
   ·refine dz<|au<|zo J (bY rY lN J J)<|zo J (bw bK J J)<|zo J (qZ J)<|ax J<|bC J J (fun hg=>bk bK J J cO (.tail _ (.tail _ (.head _))) (ht J))<|bC J J (fun hg=>bD (aI J hg) hI)<|zo J (ki J J)<|ax J<|bC J J (fun hg=>bY rY lN J J)<|bC J J (fun hg=>aL bK J J (aI J hg))<|bC J J (fun hg=>bD (aI J hg) hI)<|bC J J (fun hg=>bk H5 J J cO (.tail _ (.head _)) (ht J))<|bC J J (fun hg=>J4 HS (aI J hg) (aI J hg))<|zo J (ki J J)<|bo J<|ap<|al<|br<|bv ?_;refine br<|bv<|xg<|sh ?_;cases so h;exact aB J J
 ·obtain⟨hx,h⟩:=h
  refine aq<|au<|zo J (eD J J)<|ap<|ae<|bm (ht J) (cR hx)<|dz<|ae<|av<|au<|zo J (im n9 eM J J J (cS hx))<|zo J (bw eM J J)<|bc (r:=aS) (x:=Ck) eM (fun _=>eK _) J fun b3=>aE eM J ay J (ht J) (ht J)<|aV 7 J<|ap<|ae<|bF h fun t1 q_t1 h=>?_
  obtain⟨t2,h1t1,h0t1⟩:=og q_t1
  have q_t2g:=fun hb=>(h1t1 hb).1
  obtain⟨r2,h1t2,h0t2⟩:=Rq q_t2g
  have q_r2g:=fun hb=>(h1t2 hb).1
  obtain⟨r3,h1t2⟩:=J6 (fun hb=>(h1t2 hb).2)
  have q_r3g:=fun hb=>(h1t2 hb).1
  refine eb (ts:=[_,_,_,_,_,_,_,_,_,_,_,_,_,_,_,_,_,_,_]) mixed J J
   ⟨gF 7 J J J (bY gN cT J J),
   ⟨cL 26 0 J J J (bw bK J J),
   ⟨cL 27 1 J J J (jk J),
   ⟨cL 28 2 J J J (cz J),
   ⟨mH 7 29 3 J J J J (cK J J J J (fun hg=>bY nE gC J J)),
   ⟨fj 30 4 29 3 J J J J (cK J J J J (fun hg=>aL bK J J (aI J hg))),
   ⟨mH 1 29 3 J J J J (cK J J J J (fun hg=>cz J)),
   ⟨pL 31 5 32 6 29 3 J J J J J (cK J J J J (fun hg=>dG (aI J hg) (aI J hg))),
   ⟨fj 33 7 29 3 J J J J (cK J J J J (fun hg=>bg (aI J hg))),
   ⟨mH 7 34 8 J J J J (po J J J J (fun hg=>bY oK ib J J)),
   ⟨fj 35 9 34 8 J J J J (po J J J J (fun hg=>aL bZ J J (aI J hg))),
   ⟨mH 2 34 8 J J J J (po J J J J (fun hg=>bw sU J J)),
   ⟨mH 7 34 8 J J J J (po J J J J (fun hg=>bY nE gC J J)),
   ⟨fj 38 12 34 8 J J J J (po J J J J (fun hg=>aL bK J J (aI J hg))),
   ⟨pL 37 11 39 13 34 8 J J J J J (po J J J J (fun hg=>aJ Mt (FS _ _ (q_r2g hg)) ⟨(aI J hg),(aI J hg),be⟩)),
   ⟨pL 36 10 40 14 34 8 J J J J J (po J J J J (fun hg=>aJ Mu (FT _ _ (q_r3g hg)) ⟨(aI J hg),(aI J hg),be⟩)),
   ⟨fj 41 15 34 8 J J J J (po J J J J (fun hg=>dn (aI J hg))),
   ⟨pL 34 8 42 16 29 3 J J J J J (cK J J J J (fun hg=>dV (aI J hg) (fun hb=>(aI J (pF hg (mz hb)))) (fun hb=>(h1t2 (pF hg hb)).2) (fun hb=>h0t2 hg hb))),
   ⟨eu 29 3 43 17 J J J J (cV (ht J) (fun hb=>(aI J hb)) (fun hb=>(h1t1 hb).2) h0t1),
   be⟩⟩⟩⟩⟩⟩⟩⟩⟩⟩⟩⟩⟩⟩⟩⟩⟩⟩⟩ ?_
  refine am<|dh h rfl (fun h=>?_) (fun h=>?_)
  ·refine au<|zo J (eL)<|ap<|al ?_;refine aA (aa (aa (aA (aa ?_))));refine sh ?_;cases so h;exact aB J J
  ·refine bt<|ak<|am<|ai<|zo rfl (jN (cy hx hN) rfl)<|ax rfl<|aH ?_;exact aO (aG (ih (i+1) ⟨cx hx,h⟩) (aX J))

end Go.Proofs.YtmogpgcfognefaaGreatDoor

