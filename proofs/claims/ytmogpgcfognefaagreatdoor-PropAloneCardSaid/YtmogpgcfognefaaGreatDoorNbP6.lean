/- cF of this claim: P6. -/
import Derived.Test.YtmogpgcfognefaaGreatDoorNbT
import Derived.Test.YtmogpgcfognefaaGreatDoorNbP5
set_option linter.all false
namespace Go.Proofs.YtmogpgcfognefaaGreatDoor
open Go
set_option maxRecDepth 100000

theorem JE(s:(List bo))(f:(bo→Option Bool)){R:Bool}(h:eh s f=some R):bg aP 107 [fX (cg) s,(fC aP DX lX (fun(x:bo)=>f x))] (ij R):=by
 refine bg.of Tryz.func107 J J J fun w0 S0=>aq<|zo J (fP)<|ap<|aq<|aA J<|aA J<|bP h fun r q_r h=>zo J (aO Ks (Ex _ _ q_r) ⟨(ht J),(ht J),be⟩)<|zo J (ev (ht J) hI)<|bu J<|ap<|am ?_;cases so h;exact aH J J

theorem IX(of:(bo→Option ji))(name:ji)(p:bo){R:Bool}(h:dU of name p=some R):bg aP 231 [tD cg p,bB (rT ((fC aP DX rW (fun(x:bo)=>of x)))) (),bB rS name] (ij R):=by
 refine bg.of Tryz.func231 J J J fun w0 S0=>aq<|zo J (mp J)<|zo J (fP)<|ap<|ae<|bP h fun r q_r h=>?_
 refine eN (ts:=[_,_,_,_,_,_]) mixed J J
  ⟨iD 1 J J J (xh Mz (ht J)),
  ⟨iD 3 J J J (bE nQ J J),
  ⟨fB 5 0 6 1 J J J J (gz (args:=DX) (res:=rW) (f:=(fun(x:bo)=>of x)) (x:=((p):bo)) (ht J) q_r ⟨(ht J),be⟩),
  ⟨iD 2 J J J (bE CI J J),
  ⟨fB 7 2 8 3 J J J J (wc (ht J) (ht J)),
  ⟨cR 9 4 J J J (yk J),
  be⟩⟩⟩⟩⟩⟩ ?_
 refine an<|am ?_;cases so h;exact aH J J

theorem Je(l:(List bo))(of:(bo→Option ji))(name:ji){R:Int×Bool}(h:hJ l of name=some R):bg aP 174 [fX (cg) l,(fC aP DX rW (fun(x:bo)=>of x)),tD rS name] (tT [cd R.1,ij R.2]):=by
 refine bg.of Tryz.func174 J J J fun w0 S0=>aq<|zo J (Eh (ht J))<|zo J (mp J)<|zo J (fg)<|zo J (fP)<|ap<|aq<|aA J<|zo J ((show bS _ _ _ _ ((fC aP DX lX (fun(x:bo)=>(dU of name) x)))from hZ (cts:=[bB (rT ((fC aP DX rW (fun(x:bo)=>of x)))) (),bB rS name]) (caps:=[.tmp 4,.tmp 5]) Nv ⟨(ht J),(ht J),be⟩ (fun x y h=>IX _ _ _ h)))<|bP h fun r q_r h=>zo J (aO Ks (Ex _ _ q_r) ⟨(ht J),(ht J),be⟩)<|bu J<|ap<|aq<|aA J<|zo J (Ai (ht J) hI)<|aA J<|zo J (ev (ht J) hI) ?_;refine bu J<|bu J<|ap<|am ?_;cases so h;exact fW J J J

theorem JD(l:(List bo))(of:(bo→Option ji)){R:Bool}(h:j3 l of=some R):bg aP 108 [fX (cg) l,(fC aP DX rW (fun(x:bo)=>of x))] (ij R):=by
 refine bg.of Tryz.func108 J J J fun w0 S0=>aq<|zo J (fP)<|ap<|ae<|aq<|aA J<|zo J (jL pq J)<|zo J (bj hI)<|ap<|av<|aY (k:=9) J fun hN=>bO ?_;refine aM (eC (Z:=fun ls i=>(l.drop i=ls)∧eG l of ls i=some R) (Of:=fun _ i=>[]) (Gf:=fun _ i=>[(0,fX (cg) l),(1,(fC aP DX rW (fun(x:bo)=>of x))),(9,fX (cg) l),(10,jt l),(11,cd (i:Int))]) (fun i h=>?_) (fun e tl ih i h=>?_) l 0 ⟨J,h⟩) (bh J)
 ·obtain⟨hx,h⟩:=h
  refine au<|aq<|zo J (fM J J)<|ap<|ae<|bt (ht J) (du hx)<|bn ?_;refine ac (ac (aG ?_));refine an<|aq<|zo rfl (fP)<|ap<|am ?_;cases so h;exact aH J J
 ·obtain⟨hx,h⟩:=h
  refine au<|aq<|zo J (fM J J)<|ap<|ae<|br (ht J) (dn hx)<|eK<|ae<|av<|aq<|aA J<|zo J (j8 pq nQ J J J (dB hx))<|zo J (bE nQ J J)<|aX (r:=cg) (x:=(⟨[],[],[]⟩:bo)) nQ (fun _=>wx _) J fun b=>bu J<|aC nQ J ax J (ht J) (ht J)<|aT 6 J<|ap<|ae ?_;refine ak<|aA J<|aA J<|aA J<|zo J (bE nQ J J)<|bP h fun r q_r h=>zo J (gz (args:=DX) (res:=rW) (f:=(fun(x:bo)=>of x)) (x:=((e):bo)) (ht J) q_r ⟨(ht J),be⟩)<|bP h fun r1 q_r1 h=>zo J (aO NQ (Je _ _ _ q_r1) ⟨(ht J),(ht J),(ht J),be⟩)<|aA J<|zo J (lv J J)<|zo J (lv J J)<|bu J<|bu J<|ap<|aq<|aA J<|aA J<|zo J (dd (ht J) (ht J))<|aA J<|bP h fun t q_t h=>cD J J (fun hg=>cN J) ?_;refine cD J J (fun hg=>bE nQ J J) ?_
  obtain⟨r2,h1t,h0t⟩:=og q_t
  have q_r2g:=fun hb=>(h1t hb).1
  refine cD J J (fun hg=>gz (args:=DX) (res:=rW) (f:=(fun(x:bo)=>of x)) (x:=((e):bo)) (aI J hg) (q_r2g hg) ⟨(aI J hg),be⟩) ?_
  obtain⟨r3,h1t⟩:=Kf (fun hb=>(h1t hb).2)
  have q_r3g:=fun hb=>(h1t hb).1
  refine cD J J (fun hg=>aO Hz (AB _ (q_r3g hg)) ⟨(aI J hg),be⟩)<|cD J J (fun hg=>d7 (aI J hg))<|zo J (eH (ht J) (fun hb=>(aI J (mR hb))) (fun hb=>(h1t hb).2) h0t)<|ap<|dQ h J (fun h=>?_) (fun h=>?_)
  ·refine aq<|zo J (fP)<|ap<|am ?_;refine aF (aa (aa (aF (aa ?_))));cases so h;exact aH J J
  ·refine bC<|al<|an<|ak<|zo rfl (lk (cQ hx hN) rfl)<|aA rfl<|aK ?_;exact aW (aM (ih (i+1) ⟨cP hx,h⟩) (bh J))

theorem JC(t:bo){R:ji}(h:ee t=some R):bg aP 109 [tD cg t] (tD rS R):=by
 refine bg.of Tryz.func109 J J J fun w0 S0=>aq<|zo J (mp J)<|zo J (aZ hS)<|ap<|aq<|zo J (bZ Hf xw J J)<|zo J (bE CI J J)<|bu J<|ap<|am ?_;cases so h;exact aH J J

theorem LE(c:bz){R:Int}(h:ni c=some R):bg aP 59 [tD ck c] (cd R):=by
 refine bg.of Tryz.func59 J J J fun w0 S0=>aq<|zo J (mp J)<|zo J (fg)<|ap<|aq<|zo J (aZ (show ay _ _ _ ((fC aP DX lX (fun(x:bo)=>iL x)))from(Ar Ov fun x y h=>JG _ h)))<|ap<|ae<|aq<|zo J (bZ nI hG J J)<|zo J (bE uz J J)<|zo J (jL pq J)<|zo J (iu (ht J) hI)<|aA J<|bP h fun t q_t h=>cD J J (fun hg=>bZ nI hG J J)<|cD J J (fun hg=>aL uz J J (aI J hg))<|cD J J (fun hg=>cN J) ?_
 obtain⟨r,h1t,h0t⟩:=og q_t
 have q_rg:=fun hb=>(h1t hb).1
 refine cD J J (fun hg=>aO Ot (JE _ _ (q_rg hg)) ⟨(aI J hg),(aI J hg),be⟩)<|zo J (eH (ht J) (fun hb=>(aI J (mR hb))) (fun hb=>(h1t hb).2) h0t)<|aA J<|bP h fun t1 q_t1 h=>cD J J (fun hg=>bZ nI hG J J)<|cD J J (fun hg=>aL uz J J (aI J hg)) ?_
 obtain⟨r1,h1t1,h0t1⟩:=og q_t1
 have q_r1g:=fun hb=>(h1t1 hb).1
 refine cD J J (fun hg=>aO Oq (JD _ _ (q_r1g hg)) ⟨(aI J hg),(Ar Oo fun x y h=>JC _ h),be⟩)<|cD J J (fun hg=>d7 (aI J hg))<|zo J (eH (ht J) (fun hb=>(aI J (mR hb))) (fun hb=>(h1t1 hb).2) h0t1)<|ap<|dQ h J (fun h=>?_) (fun h=>?_)
 ·refine aq<|zo J (fg)<|ap<|am<|aa ?_;cases so h;exact aH J J
 ·refine eK<|aq<|zo J (fg)<|ap<|am ?_;cases so h;exact aH J J

theorem Jz(root:(List Int))(c:Int){R:Bool}(h:dZ root c=some R):bg aP 137 [cd c,bB gH root] (ij R):=by
 refine bg.of Tryz.func137 J J J fun w0 S0=>aq<|zo J (fP)<|ap<|aq<|aA J<|zo J (fH (ht J) hI)<|aA J<|cD J J (fun hg=>cN J)<|cD J J (fun hg=>bE bV J J)<|cD J J (fun hg=>bI dp (aI J hg))<|cD J J (fun hg=>ev (aI J hg) (aI J hg))<|zo J (pn J J)<|aA J<|bP h fun t q_t h=>cD J J (fun hg=>bE bV J J)<|cD J J (fun hg=>cN J) ?_
 obtain⟨e,h1t,h0t⟩:=og q_t
 have q_eg:=fun hb=>(h1t hb).1
 refine cD J J (fun hg=>cq dp bJ J (aI J hg) (aI J hg) (q_eg hg))<|cD J J (fun hg=>aL bJ J J (aI J hg))<|cD J J (fun hg=>bv (aI J hg) hI)<|zo J (eH (ht J) (fun hb=>(aI J (mR hb))) (fun hb=>(h1t hb).2) h0t)<|bu J<|ap<|am ?_;cases so h;exact aH J J

theorem EA(s:(List aB))(f:(aB→Option Bool)){R:Int}(h:dw s f=some R):bg aP 150 [fX (aE) s,(fC aP E5 lX (fun(x:aB)=>f x))] (cd R):=by
 refine bg.of Tryz.func150 J J J fun w0 S0=>aq<|zo J (fg)<|ap<|ae<|aq<|aA J<|zo J (jL la J)<|zo J (bj hI)<|ap<|av<|aY (k:=6) J fun hN=>bO ?_;refine aM (eC (Z:=fun ls i=>(s.drop i=ls)∧cE f ls i=some R) (Of:=fun _ i=>[]) (Gf:=fun _ i=>[(0,fX (aE) s),(1,(fC aP E5 lX (fun(x:aB)=>f x))),(7,jt s),(8,cd (i:Int))]) (fun i h=>?_) (fun e tl ih i h=>?_) s 0 ⟨J,h⟩) (bh J)
 ·obtain⟨hx,h⟩:=h
  refine au<|aq<|zo J (fM J J)<|ap<|ae<|bt (ht J) (du hx)<|bn ?_;refine ac (ac (aG ?_));refine an<|aq<|zo rfl (fg)<|ap<|am ?_;cases so h;exact aH J J
 ·obtain⟨hx,h⟩:=h
  refine au<|aq<|zo J (fM J J)<|ap<|ae<|br (ht J) (dn hx)<|eK<|ae<|av<|aq<|aA J<|bu J<|ap<|aq<|aA J<|aA J<|aA J<|zo J (j8 la d3 J J J (dB hx)) ?_;refine zo J (bE d3 J J)<|bP h fun r q_r h=>zo J (gz (args:=E5) (res:=yi) (f:=(fun(x:aB)=>f x)) (x:=((e):aB)) (ht J) q_r ⟨(ht J),be⟩)<|ap<|dQ h J (fun h=>?_) (fun h=>?_)
  ·refine aq<|aA J<|bu J<|ap<|am ?_;refine aF (aa (aa (aF (aa ?_))));cases so h;exact aH J J
  ·refine bC<|al<|an<|ak<|zo rfl (lk (cQ hx hN) rfl)<|aA rfl<|aK ?_;exact aW (aM (ih (i+1) ⟨cP hx,h⟩) (bh J))

theorem Jy(s:(List aB))(f:(aB→Option Bool)){R:Bool}(h:dc s f=some R):bg aP 138 [fX (aE) s,(fC aP E5 lX (fun(x:aB)=>f x))] (ij R):=by
 refine bg.of Tryz.func138 J J J fun w0 S0=>aq<|zo J (fP)<|ap<|aq<|aA J<|aA J<|bP h fun r q_r h=>zo J (aO Kv (EA _ _ q_r) ⟨(ht J),(ht J),be⟩)<|zo J (ev (ht J) hI)<|bu J<|ap<|am ?_;cases so h;exact aH J J

theorem Jw(s1:(List Int))(s2:(List aU))(eq:(Int→aU→Option Bool)){R:Bool}(h:cG s1 s2 eq=some R):bg aP 140 [lW s1,fX (bR) s2,(fC aP (fun(x:Int×aU)=>[cd x.1,tD bR x.2]) lX (fun(x:Int×aU)=>eq x.1 x.2))] (ij R):=by
 refine bg.of Tryz.func140 J J J fun w0 S0=>aq<|zo J (fP)<|ap<|ae<|aq<|aA J<|zo J (jL dp J)<|aA J<|zo J (jL pN J)<|zo J (dd (ht J) (ht J))<|ap<|dQ h J (fun h=>?_) (fun h=>?_)
 ·refine aq<|zo J (fP)<|ap<|am<|aa ?_;cases so h;exact aH J J
 ·refine eK<|ae<|aq<|aA J<|zo J (jL dp J)<|zo J (bj hI)<|ap<|av<|aY (k:=15) J fun hN=>bO ?_;refine aM (eC (Z:=fun ls i=>(s1.drop i=ls)∧ca s2 eq ls i=some R) (Of:=fun _ i=>[]) (Gf:=fun _ i=>[(1,fX (bR) s2),(2,(fC aP (fun(x:Int×aU)=>[cd x.1,tD bR x.2]) lX (fun(x:Int×aU)=>eq x.1 x.2))),(15,lW s1),(16,jt s1),(17,cd (i:Int))]) (fun i h=>?_) (fun e tl ih i h=>?_) s1 0 ⟨J,h⟩) (bh J)
  ·obtain⟨hx,h⟩:=h
   refine au<|aq<|zo J (fM J J)<|ap<|ae<|bt (ht J) (du hx)<|bn ?_;refine ac (ac (aG ?_));refine an<|aq<|zo rfl (fP)<|ap<|am ?_;cases so h;exact aH J J
  ·obtain⟨hx,h⟩:=h
   refine au<|aq<|zo J (fM J J)<|ap<|ae<|br (ht J) (dn hx)<|eK<|ae<|av<|aq<|aA J<|zo J (j8 dp bJ J J J (dB hx))<|zo J (bE bJ J J)<|bu J<|bu J<|ap<|aq<|aA J ?_;refine aA J<|bP h fun e1 q_e1 h=>zo J (j8 pN mQ J J J q_e1)<|zo J (bE mQ J J)<|aX (r:=bR) (x:=H4) mQ (fun _=>n7 _) J fun b=>aC mQ J ax J (ht J) (ht J)<|aT 9 J<|ap<|aq<|aA J<|aA J<|zo J (bE mQ J J)<|bP h fun r q_r h=>zo J (gz (args:=(fun(x:Int×aU)=>[tD bU x.1,tD bR x.2])) (res:=yi) (f:=(fun(x:Int×aU)=>eq x.1 x.2)) (x:=((e,e1):Int×aU)) (ht J) q_r ⟨(ht J),(ht J),be⟩)<|zo J (d7 (ht J))<|ap<|dQ h J (fun h=>?_) (fun h=>?_)
   ·refine aq<|zo J (fP)<|ap<|am ?_;refine aF (aa (aa (aF (aa ?_))));cases so h;exact aH J J
   ·refine bC<|al<|an<|ak<|zo rfl (lk (cQ hx hN) rfl)<|aA rfl<|aK ?_;exact aW (aM (ih (i+1) ⟨cP hx,h⟩) (bh J))

theorem Jv(k:Int)(c:aU){R:Bool}(h:iC k c=some R):bg aP 141 [cd k,tD bR c] (ij R):=by
 refine bg.of Tryz.func141 J J J fun w0 S0=>aq<|zo J (mp J)<|zo J (fP)<|ap<|aq<|aA J<|zo J (bZ Dk q9 J J)<|zo J (bE bJ J J)<|zo J (bv (ht J) (ht J))<|bu J<|ap<|am ?_;cases so h;exact aH J J

theorem Jx(f:cU)(p:(Option bH))(n:aB){R:Bool}(h:dY f p n=some R):bg aP 139 [tD aE n,bB cn f,bB mV p] (ij R):=by
 refine bg.of Tryz.func139 J J J fun w0 S0=>aq<|zo J (mp J)<|zo J (fP)<|ap<|ae<|aq<|zo J (bZ gD cK J J)<|zo J (bE bJ J J)<|zo J (s3 J)<|ap<|dQ h J (fun h=>?_) (fun h=>?_)
 ·refine aq<|zo J (fP)<|ap<|am<|aa ?_;cases so h;exact aH J J
 ·refine eK<|ae<|ae<|bP h fun t q_t h=>?_
  obtain⟨p1,h1t,h0t⟩:=og q_t
  have q_p1g:=fun hb=>(h1t hb).1
  refine eN (ts:=[_,_,_,_,_,_,_,_,_,_,_,_,_,_]) mixed J J
   ⟨iD 1 J J J (bZ sW m5 J J),
   ⟨cR 8 0 J J J (bE bJ J J),
   ⟨cR 9 1 J J J (s3 J),
   ⟨cR 10 2 J J J (cN J),
   ⟨oe 3 11 3 J J J J (gG J J J J (fun hg=>bZ nH gR J J)),
   ⟨gi 12 4 11 3 J J J J (gG J J J J (fun hg=>aL bJ J J (aI J hg))),
   ⟨oe 2 11 3 J J J J (gG J J J J (fun hg=>bE se J J)),
   ⟨gi 14 6 11 3 J J J J (gG J J J J (fun hg=>ec (aI J hg) (q_p1g hg))),
   ⟨gi 15 7 11 3 J J J J (gG J J J J (fun hg=>cB Ay J qb J (aI J hg))),
   ⟨gi 16 8 11 3 J J J J (gG J J J J (fun hg=>cB nI J hG J (aI J hg))),
   ⟨gi 17 9 11 3 J J J J (gG J J J J (fun hg=>aL uz J J (aI J hg))),
   ⟨gi 18 10 11 3 J J J J (gG J J J J (fun hg=>bI pq (aI J hg))),
   ⟨sb 13 5 19 11 11 3 J J J J J (gG J J J J (fun hg=>ev (aI J hg) (aI J hg))),
   ⟨fB 11 3 20 12 J J J J (eH (ht J) (fun hb=>(aI J (mR hb))) (fun hb=>(h1t hb).2) h0t),
   be⟩⟩⟩⟩⟩⟩⟩⟩⟩⟩⟩⟩⟩⟩ ?_
  refine an<|dQ h rfl (fun h=>?_) (fun h=>?_)
  ·refine aq<|zo J (fP)<|ap<|am<|aa ?_;cases so h;exact aH J J
  ·refine eK<|ae<|bP h fun p2 q_p2 h=>bP h fun e q_e h=>bP h fun r q_r h=>?_
   refine eN (ts:=[_,_,_,_,_,_,_,_,_,_,_,_,_,_,_]) mixed J J
    ⟨iD 3 J J J (bZ m6 gQ J J),
    ⟨cR 22 0 J J J (bE bV J J),
    ⟨iD 2 J J J (bE se J J),
    ⟨cR 24 2 J J J (ec (ht J) q_p2),
    ⟨cR 25 3 J J J (bZ Ay qb J J),
    ⟨cR 26 4 J J J (bZ nI hG J J),
    ⟨cR 27 5 J J J (bE uz J J),
    ⟨iD 3 J J J (bZ nH gR J J),
    ⟨cR 29 7 J J J (bE bJ J J),
    ⟨fB 28 6 30 8 J J J J (j8 pq nQ J J J q_e),
    ⟨cR 31 9 J J J (bZ qi kX J J),
    ⟨cR 32 10 J J J (bE zY J J),
    ⟨fB 23 1 33 11 J J J J (aO Oc (Jw _ _ _ q_r) ⟨(ht J),(ht J),(Ar Oa fun x y h=>Jv _ _ h),be⟩),
    ⟨cR 34 12 J J J (d7 (ht J)),
    ⟨cR 35 13 J J J (yk J),
    be⟩⟩⟩⟩⟩⟩⟩⟩⟩⟩⟩⟩⟩⟩⟩ ?_
   refine an<|am ?_;cases so h;exact aH J J

theorem LC(p:(Option bH))(f:cU)(root:(List Int)){R:Bool}(h:kE p f root=some R):bg aP 73 [tD mV p,tD cn f,lW root] (ij R):=by
 refine bg.of Tryz.func73 J J J fun w0 S0=>aq<|zo J (mp J)<|zo J (mp J)<|zo J (mp J)<|zo J (fP)<|ap<|ae<|aq<|zo J (bZ sW m5 J J)<|zo J (bE bJ J J)<|zo J (s3 J)<|aA J<|bD J J (fun hg=>bZ sW m5 J J)<|bD J J (fun hg=>aL bJ J J (aI J hg))<|bD J J (fun hg=>dd (aI J hg) hI)<|zo J (ky J J)<|aA J<|cD J J (fun hg=>bZ re mg J J)<|cD J J (fun hg=>aL bJ J J (aI J hg))<|cD J J (fun hg=>fH (aI J hg) hI) ?_;refine zo J (pn J J)<|aA J<|cD J J (fun hg=>bZ re mg J J)<|cD J J (fun hg=>aL bJ J J (aI J hg))<|cD J J (fun hg=>iu (aI J hg) hI)<|zo J (pn J J)<|aA J<|cD J J (fun hg=>bZ re mg J J)<|cD J J (fun hg=>aL bJ J J (aI J hg))<|cD J J (fun hg=>bv (aI J hg) hI)<|cD J J (fun hg=>bZ Aw rN J J)<|cD J J (fun hg=>aL bV J J (aI J hg))<|cD J J (fun hg=>bI dp (aI J hg))<|cD J J (fun hg=>iu (aI J hg) hI)<|cD J J (fun hg=>Ir DW (aI J hg) (aI J hg))<|zo J (pn J J)<|aA J<|cD J J (fun hg=>bZ Aw rN J J)<|cD J J (fun hg=>aL bV J J (aI J hg))<|cD J J (fun hg=>bI dp (aI J hg))<|cD J J (fun hg=>iu (aI J hg) hI)<|zo J (pn J J)<|ap ?_;refine dQ h J (fun h=>?_) (fun h=>?_)
 ·refine aq<|zo J (fP)<|ap<|am<|aa ?_;cases so h;exact aH J J
 ·refine eK<|ae<|aq<|zo J (bZ Aw rN J J)<|zo J (bE bV J J)<|zo J ((show bS _ _ _ _ ((fC aP zS lX (fun(x:Int)=>(dZ root) x)))from hZ (cts:=[bB gH root]) (caps:=[.tmp 5]) Og ⟨(ht J),be⟩ (fun x y h=>Jz _ _ h)))<|bP h fun r q_r h=>zo J (aO EK (wm _ _ q_r) ⟨(ht J),(ht J),be⟩)<|ap<|dQ h J (fun h=>?_) (fun h=>?_)
  ·refine aq<|zo J (fP)<|ap<|am<|aa ?_;cases so h;exact aH J J
  ·refine eK<|aq<|zo J (bZ m7 ig J J)<|zo J (bE rX J J)<|zo J ((show bS _ _ _ _ ((fC aP E5 lX (fun(x:aB)=>(dY f p) x)))from hZ (cts:=[bB cn f,bB mV p]) (caps:=[.tmp 4,.tmp 3]) Od ⟨(ht J),(ht J),be⟩ (fun x y h=>Jx _ _ _ h)))<|bP h fun r1 q_r1 h=>zo J (aO Oe (Jy _ _ q_r1) ⟨(ht J),(ht J),be⟩)<|zo J (d7 (ht J))<|bu J<|ap<|am ?_;cases so h;exact aH J J

theorem Lu(p:eM)(from1:Int):xX aP 82 (fun(x:Int×Int)=>[cd x.1,cd x.2]) (fun _=>pf p from1) [] [bB dk p,bB bU from1]:=by
 refine xX.of Tryz.func82 J J J fun Sg yld s R h I yv hy e he w0 S0 B hB=>?_
 replace h:pf p from1 yld s=some R:=h
 refine aq<|zo J (bZ lT gc J J)<|zo J (bE sH J J)<|zo J (jL o9 J)<|zo J (bj hI)<|ap<|av<|aY (k:=9) J fun hN=>bO ?_;refine aM (oE (Z:=fun ls i e1 s1=>(p.Frags.drop i=ls)∧I s1 e1∧ie from1 yld ls i s1=some R) (Of:=fun _ i e1 s1=>[e1]) (Gf:=fun _ i e1 s1=>[(0,tV yv),(2,bB bU from1),(9,fX (cn) p.Frags),(10,jt p.Frags),(11,cd (i:Int))]) (fun i e1 s1 h=>?_) (fun e2 tl ih i e1 s1 h=>?_) p.Frags 0 e s ⟨J,⟨he,h⟩⟩) (bh J)
 ·obtain⟨hx,h⟩:=h
  obtain⟨he1,h⟩:=h
  refine au<|aq<|zo J (fM J J)<|ap<|ae<|bt (ht J) (du hx)<|bn ?_;refine ac (ac (aG ?_));cases so h;exact HQ J he1 hB trivial
 ·obtain⟨hx,h⟩:=h
  obtain⟨he1,h⟩:=h
  refine au<|aq<|zo J (fM J J)<|ap<|ae<|br (ht J) (dn hx)<|eK<|ae<|av<|aq<|aA J<|zo J (j8 o9 je J J J (dB hx))<|zo J (bE je J J)<|aX (r:=cn) (x:=yj) je (fun _=>lD _) J fun b=>bu J<|aC je J ax J (ht J) (ht J)<|aT 5 J<|ap<|ae ?_;refine ak<|zo J (bZ m7 ig J J)<|zo J (bE rX J J)<|zo J (jL la J)<|zo J (bj hI)<|ap<|av<|aY (k:=17) J fun hN1=>bO ?_;refine aM (oE (Z:=fun ls1 i1 e3 s2=>(e2.Nodes.drop i1=ls1)∧I s2 e3∧ic from1 yld (ie from1 yld tl) i ls1 i1 s2=some R) (Of:=fun _ i1 e3 s2=>[e3]) (Gf:=fun _ i1 e3 s2=>[(0,tV yv),(2,bB bU from1),(4,cd (i:Int)),(9,fX (cn) p.Frags),(10,jt p.Frags),(11,cd (i:Int)),(17,fX (aE) e2.Nodes),(18,jt e2.Nodes),(19,cd (i1:Int))]) (fun i1 e3 s2 h=>?_) (fun e4 tl1 ih1 i1 e3 s2 h=>?_) e2.Nodes 0 e1 s1 ⟨J,⟨he1,h⟩⟩) (bh J)
  ·obtain⟨hx1,h⟩:=h
   obtain⟨he2,h⟩:=h
   refine au<|aq<|zo J (fM J J)<|ap<|ae<|bt (ht J) (du hx1)<|bn ?_;refine ac (ac (aG ?_));refine al<|an<|ak<|zo rfl (lk (cQ hx hN) rfl)<|aA rfl<|aK ?_;exact aW (aM (ih (i+1) e3 s2 ⟨cP hx,⟨he2,h⟩⟩) (bh J))
  ·obtain⟨hx1,h⟩:=h
   obtain⟨he2,h⟩:=h
   refine au<|aq<|zo J (fM J J)<|ap<|ae<|br (ht J) (dn hx1)<|eK<|ae<|av<|aq<|aA J<|zo J (j8 la d3 J J J (dB hx1))<|zo J (bE d3 J J)<|aX (r:=aE) (x:=AW) d3 (fun _=>fh _) J fun b1=>bu J<|aC d3 J ax J (ht J) (ht J)<|aT 7 J<|ap<|ae ?_;refine ak<|zo J (bZ gD cK J J)<|zo J (bE bJ J J)<|zo J (j6 J)<|aA J<|bD J J (fun hg=>bZ nH gR J J)<|bD J J (fun hg=>aL bJ J J (aI J hg))<|bD J J (fun hg=>bE bJ J J)<|bD J J (fun hg=>bv (aI J hg) (aI J hg))<|zo J (ky J J)<|aA J ?_;refine Cd ((e4.Op==(9:Int))&&(e4.Table==from1)) (fun hg=>?_) (fun hg=>?_)
   ·have h:=ct h hg;refine ug J J J hg<|aA J<|ug J J J hg<|aA J<|ug J J J hg<|aA J<|ug J J J hg<|bP h fun r q_r h=>HE hy he2 q_r (ht J) ⟨(ht J),(ht J),be⟩ J fun e5 he3=>ug J J J hg<|zo J (d7 (ht J))<|zo J (uP (ht J) hg (ht J))<|ap<|dQ h J (fun h=>?_) (fun h=>?_)
    ·refine am ?_;refine aF (aa (aa (aF (aF (aa (aa (aF ?_)))))));cases so h;exact EX J he3 hB trivial
    ·refine bC<|al<|an<|ak<|zo rfl (lk (cQ hx1 hN1) rfl)<|aA rfl<|aK ?_;exact aW (aM (ih1 (i1+1) e5 r.2 ⟨cP hx1,⟨he3,h⟩⟩) (bh J))
   ·have h:=cf h hg;refine lV J J J hg J<|lV J J J hg J<|lV J J J hg J<|lV J J J hg J<|lV J J J hg J<|zo J (yY (ht J) hg OV)<|ap<|nl (ht J) (fun hc=>?_) (fun hc=>?_)
    ·cases hc
    ·refine bC<|al<|an<|ak<|zo rfl (lk (cQ hx1 hN1) rfl)<|aA rfl<|aK ?_;exact aW (aM (ih1 (i1+1) e3 s2 ⟨cP hx1,⟨he2,h⟩⟩) (bh J))

theorem Es(p:eM)(from1:Int){R:It (Int×Int)}(h:nu p from1=some R):xL aP 45 [tD dk p,cd from1] (fun(x:Int×Int)=>[cd x.1,cd x.2]) R:=by
 refine xL.of Tryz.func45 J J J fun w0 S0=>aq<|zo J (mp J)<|zo J (mp J)<|zo J (aZ hV)<|ap<|aq<|Ch (O1:=[]) (cts:=[bB dk p,bB bU from1]) (caps:=[.tmp 2,.tmp 3]) J Pm (Lu p from1) ⟨(ht J),(ht J),be⟩ J fun v fp=>bu J<|ap<|am ?_;cases so h;exact HP J J

theorem EC(s1:(List Int))(s2:(List Int)){R:Bool}(h:ep s1 s2=some R):bg aP 142 [lW s1,lW s2] (ij R):=by
 refine bg.of Tryz.func142 J J J fun w0 S0=>aq<|zo J (fP)<|ap<|ae<|aq<|aA J<|zo J (jL dp J)<|aA J<|zo J (jL dp J)<|zo J (dd (ht J) (ht J))<|ap<|dQ h J (fun h=>?_) (fun h=>?_)
 ·refine aq<|zo J (fP)<|ap<|am<|aa ?_;cases so h;exact aH J J
 ·refine eK<|ae<|aq<|aA J<|zo J (jL dp J)<|zo J (bj hI)<|ap<|av<|aY (k:=11) J fun hN=>bO ?_;refine aM (eC (Z:=fun ls i=>(s1.drop i=ls)∧ei s2 ls i=some R) (Of:=fun _ i=>[]) (Gf:=fun _ i=>[(0,lW s1),(1,lW s2),(12,jt s1),(13,cd (i:Int))]) (fun i h=>?_) (fun e tl ih i h=>?_) s1 0 ⟨J,h⟩) (bh J)
  ·obtain⟨hx,h⟩:=h
   refine au<|aq<|zo J (fM J J)<|ap<|ae<|bt (ht J) (du hx)<|bn ?_;refine ac (ac (aG ?_));refine an<|aq<|zo rfl (fP)<|ap<|am ?_;cases so h;exact aH J J
  ·obtain⟨hx,h⟩:=h
   refine au<|aq<|zo J (fM J J)<|ap<|ae<|br (ht J) (dn hx)<|eK<|ae<|av<|aq<|aA J<|bu J<|ap<|ae<|bP h fun e1 q_e1 h=>?_
   refine eN (ts:=[_,_,_,_,_,_,_,_,_]) mixed J J
    ⟨iD 0 J J J (cN J),
    ⟨iD 5 J J J (cN J),
    ⟨fB 16 0 17 1 J J J J (j8 dp bJ J J J (dB hx)),
    ⟨cR 18 2 J J J (bE bJ J J),
    ⟨iD 1 J J J (cN J),
    ⟨iD 5 J J J (cN J),
    ⟨fB 20 4 21 5 J J J J (j8 dp bJ J J J q_e1),
    ⟨cR 22 6 J J J (bE bJ J J),
    ⟨fB 19 3 23 7 J J J J (dd (ht J) (ht J)),
    be⟩⟩⟩⟩⟩⟩⟩⟩⟩ ?_
   refine an<|dQ h rfl (fun h=>?_) (fun h=>?_)
   ·refine aq<|zo J (fP)<|ap<|am ?_;refine aF (aa (aa (aF (aa ?_))));cases so h;exact aH J J
   ·refine bC<|al<|an<|ak<|zo rfl (lk (cQ hx hN) rfl)<|aA rfl<|aK ?_;exact aW (aM (ih (i+1) ⟨cP hx,h⟩) (bh J))

theorem EB(p:(Option bH))(frag:Int){R:(List Int)}(h:dl p frag=some R):bg aP 143 [tD mV p,cd frag] (lW R):=by
 refine bg.of Tryz.func143 J J J fun w0 S0=>aq<|zo J (aZ (show ay _ _ _ (lW ([]))from uR))<|ap<|aq<|aA J<|bP h fun p1 q_p1 h=>zo J (ec (ht J) q_p1)<|zo J (bZ wh tR J J)<|zo J (bE D3 J J)<|aA J<|bP h fun e q_e h=>zo J (j8 Tryz.underlying161 yn J J J q_e)<|zo J (bE yn J J)<|bu J<|ap<|aq<|aA J<|aA J ?_;refine zo J (jL qK J)<|zo J (gy (ht J) hI)<|bP h fun e1 q_e1 h=>zo J (j8 qK bV J J J q_e1)<|zo J (bE bV J J)<|bu J<|ap<|am ?_;cases so h;exact aH J J

theorem LB(p:(Option bH))(at1:Int){R:Bool}(h:jV p at1=some R):bg aP 74 [tD mV p,cd at1] (ij R):=by
 refine Cc Tryz.func74 J J J fun w0 S0=>aq<|zo J (mp J)<|zo J (fP)<|ap<|aq<|zo J (bE se J J)<|bP h fun p1 q_p1 h=>zo J (ec (ht J) q_p1)<|zo J (bZ nh gr J J)<|zo J (bZ lT gc J J)<|zo J (bE sH J J)<|aA J<|bP h fun e q_e h=>zo J (j8 o9 je J J J q_e)<|zo J (bE je J J)<|aX (r:=cn) (x:=yj) je (fun _=>lD _) J fun b=>aC je J ax J (ht J) (ht J)<|aT 5 J<|ap ?_;refine ae<|aq<|zo J (bZ m7 ig J J)<|zo J (bE rX J J)<|zo J (jL la J)<|zo J (bj hI)<|ap<|av<|aY (k:=20) J fun hN=>bO ?_;refine aM (eC (Z:=fun ls i=>(e.Nodes.drop i=ls)∧eP p at1 e ls=some R) (Of:=fun _ i=>[]) (Gf:=fun _ i=>[(1,cd at1),(2,bB mV p),(5,bB cn e),(20,fX (aE) e.Nodes),(21,jt e.Nodes),(22,cd (i:Int))]) (fun i h=>?_) (fun e1 tl ih i h=>?_) e.Nodes 0 ⟨J,h⟩) (bh J)
 ·obtain⟨hx,h⟩:=h
  refine au<|aq<|zo J (fM J J)<|ap<|ae<|bt (ht J) (du hx)<|bn ?_;refine ac (ac (aG ?_));refine an<|aq<|aX (r:=bU) (x:=(0:Int)) bJ (fun _=>J) J fun b1=>aX (r:=rB) (x:=false) GF (fun _=>J) J fun b2=>bT<|aC bJ J ax J (ht J) hI<|bT<|aC GF J ax J (ht J) hB<|ap<|ae<|aq<|zo J (bE se J J)<|bP h fun p2 q_p2 h=>zo J (ec (ht J) q_p2)<|zo J (bZ nh gr J J)<|zo J (bE nR J J)<|aA J<|bP h fun it q_it h=>zA Nn (Es _ _ q_it) ⟨(ht J),(ht J),be⟩ J fun v fp=>ap ?_;refine av<|bP h fun s q_s h=>?_;refine Gj (fun(i:Bool×Int)=>[bx rB 4 b2 i.1,bx bU 3 b1 i.2]) (fun(i:Bool×Int)=>(i.1,i.2)) J (ht J) (false,(0:Int)) J q_s (fun _=>J) J (fun i x s2 h lp rec1 _ _ _=>?_) (fun i hi bd=>?_)
  ·obtain⟨one,many⟩:=i
   replace h:d6 p x one many=some s2:=h
   refine(show CG _ _ _ [pZ lp rec1 .ready,bx rB 4 b2 one,bx bU 3 b1 many] _ from ?_);refine DM (G' :=[(1,cd at1),(2,bB mV p),(5,bB cn e),(8,tV (aD b1 0)),(9,tV (aD b2 0)),(20,fX (aE) e.Nodes),(21,jt e.Nodes),(22,cd (i:Int)),(23,ij (decide ((i:Int)<(e.Nodes.length:Int)))),(46,tD mV p),(47,bB eY p2),(48,bB dk p2.Plan),(49,tD dk p2.Plan),(50,cd at1),(52,cd x.1),(53,cd x.2)]) ?_ ⟨J,J,J,J,J,J,J,J,J,J,J,J,J,J,J,J,be⟩;refine ak<|bu J<|aK<|HS<|av<|aq<|zo J (aV bJ J J cV (.tail _ (.tail _ (.head _))) (ht J))<|zo J (nF (ht J) hI)<|kw<|aC bJ J ax J (ht J) (ht J)<|ap<|ak<|zo J (bE se J J)<|bP h fun p3 q_p3 h=>zo J (ec (ht J) q_p3)<|zo J (bZ nh gr J J)<|zo J (bZ lT gc J J)<|zo J (bE sH J J)<|aA J<|bP h fun e2 q_e2 h=>zo J (j8 o9 je J J J q_e2)<|zo J (bZ sW m5 J J) ?_;refine zo J (bE bJ J J)<|zo J (j6 J)<|kw<|aC GF J ax J (ht J) (ht J)<|aK<|al<|bf<|bf<|aJ ?_;exact Ct ((e2.At==(2:Int)),(IntKind.i64.wrap (many+(1:Int)))) (so h) J
  ·skip
   obtain⟨x1,x2⟩:=i
   have hi:(x1,x2)=s:=hi
   subst hi
   dsimp only at h
   refine(show AT _ _ _ [AX bd,bx rB 4 b2 x1,bx bU 3 b1 x2] _ from ?_);refine cb (G' :=[(1,cd at1),(2,bB mV p),(5,bB cn e),(8,tV (aD b1 0)),(9,tV (aD b2 0)),(20,fX (aE) e.Nodes),(21,jt e.Nodes),(22,cd (i:Int)),(23,ij (decide ((i:Int)<(e.Nodes.length:Int)))),(46,tD mV p),(47,bB eY p2),(48,bB dk p2.Plan),(49,tD dk p2.Plan),(50,cd at1)]) ?_ ⟨J,J,J,J,J,J,J,J,J,J,J,J,J,J,be⟩;refine al<|an<|ae<|aq<|aA rfl<|zo rfl (bE se rfl rfl)<|bP h fun p4 q_p4 h=>zo J (ec (ht J) q_p4)<|zo J (bZ nh gr J J)<|zo J (bZ lT gc J J)<|zo J (bE sH J J)<|zo J (jL o9 J)<|zo J (gy (ht J) hI)<|zo J (bv (ht J) (ht J))<|ap<|dQ h J (fun h=>?_) (fun h=>?_)
   ·refine aq<|zo J (bZ re mg J J)<|zo J (bE bJ J J)<|zo J (j6 J)<|aA J<|bD J J (fun hg=>bZ sW m5 J J)<|bD J J (fun hg=>aL bJ J J (aI J hg))<|bD J J (fun hg=>bv (aI J hg) hI)<|zo J (ky J J)<|aA J<|bD J J (fun hg=>aV bJ J J cV (.tail _ (.tail _ (.head _))) (ht J))<|bD J J (fun hg=>bv (aI J hg) hI)<|zo J (ky J J)<|aA J<|bP h fun t q_t h=>bD J J (fun hg=>bE se J J)<|bD J J (fun hg=>cN J) ?_
    obtain⟨r,h1t,h0t⟩:=og q_t
    have q_rg:=fun hb=>(h1t hb).1
    refine bD J J (fun hg=>aO Kw (EB _ _ (q_rg hg)) ⟨(aI J hg),(aI J hg),be⟩) ?_
    obtain⟨r1,h1t⟩:=Kf (fun hb=>(h1t hb).2)
    have q_r1g:=fun hb=>(h1t hb).1
    refine bD J J (fun hg=>aO LU (Dm _ _ (q_r1g hg)) ⟨(aI J hg),hI,be⟩)<|bD J J (fun hg=>d7 (aI J hg))<|zo J (dv (ht J) (fun hb=>(aI J hb)) (fun hb=>(h1t hb).2) h0t)<|bu J<|ap<|am<|aa<|bf<|bw<|bf<|bw<|wo<|ru ?_;cases so h;exact aH J J
   ·refine eK<|aq<|zo J (bZ re mg J J)<|zo J (bE bJ J J)<|zo J (s3 J)<|aA J<|bD J J (fun hg=>aV bJ J J cV (.tail _ (.tail _ (.head _))) (ht J))<|bD J J (fun hg=>bv (aI J hg) hI)<|zo J (ky J J)<|aA J<|bD J J (fun hg=>bZ re mg J J)<|bD J J (fun hg=>aL bJ J J (aI J hg))<|bD J J (fun hg=>bv (aI J hg) hI)<|bD J J (fun hg=>aV GF J J cV (.tail _ (.head _)) (ht J))<|bD J J (fun hg=>Is DW (aI J hg) (aI J hg))<|zo J (ky J J)<|bu J<|ap<|am<|bf<|bw ?_;refine bf<|bw<|wo<|ru ?_;cases so h;exact aH J J
 ·obtain⟨hx,h⟩:=h
  refine au<|aq<|zo J (fM J J)<|ap<|ae<|br (ht J) (dn hx)<|eK<|ae<|av<|aq<|zo J (j8 la d3 J J J (dB hx))<|zo J (bE d3 J J)<|aX (r:=aE) (x:=AW) d3 (fun _=>fh _) J fun b3=>aC d3 J ax J (ht J) (ht J)<|aT 7 J<|ap<|ae<|bP h fun t1 q_t1 h=>?_
  obtain⟨t2,h1t1,h0t1⟩:=og q_t1
  have q_t2g:=fun hb=>(h1t1 hb).1
  obtain⟨r2,h1t2,h0t2⟩:=og3 q_t2g
  have q_r2g:=fun hb=>(h1t2 hb).1
  obtain⟨r3,h1t2⟩:=Kf (fun hb=>(h1t2 hb).2)
  have q_r3g:=fun hb=>(h1t2 hb).1
  refine eN (ts:=[_,_,_,_,_,_,_,_,_,_,_,_,_,_,_,_,_,_,_]) mixed J J
   ⟨iD 7 J J J (bZ gD cK J J),
   ⟨cR 26 0 J J J (bE bJ J J),
   ⟨cR 27 1 J J J (j6 J),
   ⟨cR 28 2 J J J (cN J),
   ⟨oe 7 29 3 J J J J (cL J J J J (fun hg=>bZ nH gR J J)),
   ⟨gi 30 4 29 3 J J J J (cL J J J J (fun hg=>aL bJ J J (aI J hg))),
   ⟨oe 1 29 3 J J J J (cL J J J J (fun hg=>cN J)),
   ⟨sb 31 5 32 6 29 3 J J J J J (cL J J J J (fun hg=>ev (aI J hg) (aI J hg))),
   ⟨gi 33 7 29 3 J J J J (cL J J J J (fun hg=>bj (aI J hg))),
   ⟨oe 7 34 8 J J J J (o6 J J J J (fun hg=>bZ m6 gQ J J)),
   ⟨gi 35 9 34 8 J J J J (o6 J J J J (fun hg=>aL bV J J (aI J hg))),
   ⟨oe 2 34 8 J J J J (o6 J J J J (fun hg=>bE se J J)),
   ⟨oe 7 34 8 J J J J (o6 J J J J (fun hg=>bZ nH gR J J)),
   ⟨gi 38 12 34 8 J J J J (o6 J J J J (fun hg=>aL bJ J J (aI J hg))),
   ⟨sb 37 11 39 13 34 8 J J J J J (o6 J J J J (fun hg=>aO Kw (EB _ _ (q_r2g hg)) ⟨(aI J hg),(aI J hg),be⟩)),
   ⟨sb 36 10 40 14 34 8 J J J J J (o6 J J J J (fun hg=>aO Kx (EC _ _ (q_r3g hg)) ⟨(aI J hg),(aI J hg),be⟩)),
   ⟨gi 41 15 34 8 J J J J (o6 J J J J (fun hg=>d7 (aI J hg))),
   ⟨sb 34 8 42 16 29 3 J J J J J (cL J J J J (fun hg=>eH (aI J hg) (fun hb=>(aI J (oI hg (mR hb)))) (fun hb=>(h1t2 (oI hg hb)).2) (fun hb=>h0t2 hg hb))),
   ⟨fB 29 3 43 17 J J J J (dv (ht J) (fun hb=>(aI J hb)) (fun hb=>(h1t1 hb).2) h0t1),
   be⟩⟩⟩⟩⟩⟩⟩⟩⟩⟩⟩⟩⟩⟩⟩⟩⟩⟩⟩ ?_
  refine an<|dQ h rfl (fun h=>?_) (fun h=>?_)
  ·refine aq<|zo J (fP)<|ap<|am ?_;refine aF (aa (aa (aF (aa ?_))));refine ru ?_;cases so h;exact aH J J
  ·refine bC<|al<|an<|ak<|zo rfl (lk (cQ hx hN) rfl)<|aA rfl<|aK ?_;exact aW (aM (ih (i+1) ⟨cP hx,h⟩) (bh J))

end Go.Proofs.YtmogpgcfognefaaGreatDoor

