/- cG of this claim: P6. -/
import Derived.Test.YtmogpgcfognefaaGreatDoorNaT
import Derived.Test.YtmogpgcfognefaaGreatDoorNaP5
set_option linter.all false
namespace Go.Proofs.YtmogpgcfognefaaGreatDoor
open Go
set_option maxRecDepth 100000

theorem JW(s:(List bp))(f:(bp→Option Bool)){R:Bool}(h:ej s f=some R):bg aP 107 [fE (ck) s,(fH aP D9 lZ (fun(x:bp)=>f x))] (gU R):=by
 refine bg.of Tryz.func107 J J J fun w0 S0=>au<|zo J (fC)<|ap<|au<|aA J<|aA J<|bO h fun r q_r h=>zo J (aL KH (EM _ _ q_r) ⟨(ht J),(ht J),aY⟩)<|zo J (ek (ht J) hI)<|bv J<|ap<|am ?_;cases so h;exact aH J J

theorem Jf(of:(bp→Option ji))(name:ji)(p:bp){R:Bool}(h:dY of name p=some R):bg aP 231 [tD ck p,bz (rT ((fH aP D9 rR (fun(x:bp)=>of x)))) (),bz rS name] (gU R):=by
 refine bg.of Tryz.func231 J J J fun w0 S0=>au<|zo J (ms J)<|zo J (fC)<|ap<|ae<|bO h fun r q_r h=>?_
 refine eQ (ts:=[_,_,_,_,_,_]) mixed J J
  ⟨ij 1 J J J (xA MT (ht J)),
  ⟨ij 3 J J J (bC oo J J),
  ⟨fG 5 0 6 1 J J J J (gF (args:=D9) (res:=rR) (f:=(fun(x:bp)=>of x)) (x:=((p):bp)) (ht J) q_r ⟨(ht J),aY⟩),
  ⟨ij 2 J J J (bC C0 J J),
  ⟨fG 7 2 8 3 J J J J (wt (ht J) (ht J)),
  ⟨cO 9 4 J J J (yD J),
  aY⟩⟩⟩⟩⟩⟩ ?_
 refine an<|am ?_;cases so h;exact aH J J

theorem Jw(l:(List bp))(of:(bp→Option ji))(name:ji){R:Int×Bool}(h:hU l of name=some R):bg aP 174 [fE (ck) l,(fH aP D9 rR (fun(x:bp)=>of x)),tD rS name] (tT [ce R.1,gU R.2]):=by
 refine bg.of Tryz.func174 J J J fun w0 S0=>au<|zo J (Ex (ht J))<|zo J (ms J)<|zo J (fi)<|zo J (fC)<|ap<|au<|aA J<|zo J ((show bU _ _ _ _ ((fH aP D9 lZ (fun(x:bp)=>(dY of name) x)))from hY (cts:=[bz (rT ((fH aP D9 rR (fun(x:bp)=>of x)))) (),bz rS name]) (caps:=[.tmp 4,.tmp 5]) NR ⟨(ht J),(ht J),aY⟩ (fun x y h=>Jf _ _ _ h)))<|bO h fun r q_r h=>zo J (aL KH (EM _ _ q_r) ⟨(ht J),(ht J),aY⟩)<|bv J<|ap<|au<|aA J<|zo J (AD (ht J) hI)<|aA J<|zo J (ek (ht J) hI) ?_;refine bv J<|bv J<|ap<|am ?_;cases so h;exact fY J J J

theorem JV(l:(List bp))(of:(bp→Option ji)){R:Bool}(h:j7 l of=some R):bg aP 108 [fE (ck) l,(fH aP D9 rR (fun(x:bp)=>of x))] (gU R):=by
 refine bg.of Tryz.func108 J J J fun w0 S0=>au<|zo J (fC)<|ap<|ae<|au<|aA J<|zo J (jk qD J)<|zo J (bj hI)<|ap<|av<|aX (k:=9) J fun hN=>bK ?_;refine aM (eh (Z:=fun ls i=>(l.drop i=ls)∧eM l of ls i=some R) (Of:=fun _ i=>[]) (Gf:=fun _ i=>[(0,fE (ck) l),(1,(fH aP D9 rR (fun(x:bp)=>of x))),(9,fE (ck) l),(10,je l),(11,ce (i:Int))]) (fun i h=>?_) (fun e tl ih i h=>?_) l 0 ⟨J,h⟩) (bh J)
 ·obtain⟨hx,h⟩:=h
  refine aq<|au<|zo J (fx J J)<|ap<|ae<|br (ht J) (dp hx)<|bk ?_;refine ac (ac (aG ?_));refine an<|au<|zo rfl (fC)<|ap<|am ?_;cases so h;exact aH J J
 ·obtain⟨hx,h⟩:=h
  refine aq<|au<|zo J (fx J J)<|ap<|ae<|bq (ht J) (dh hx)<|eK<|ae<|av<|au<|aA J<|zo J (ka qD oo J J J (dy hx))<|zo J (bC oo J J)<|aZ (r:=ck) (x:=(⟨[],[],[]⟩:bp)) oo (fun _=>wN _) J fun b=>bv J<|aC oo J aw J (ht J) (ht J)<|aU 6 J<|ap<|ae ?_;refine ak<|aA J<|aA J<|aA J<|zo J (bC oo J J)<|bO h fun r q_r h=>zo J (gF (args:=D9) (res:=rR) (f:=(fun(x:bp)=>of x)) (x:=((e):bp)) (ht J) q_r ⟨(ht J),aY⟩)<|bO h fun r1 q_r1 h=>zo J (aL Oc (Jw _ _ _ q_r1) ⟨(ht J),(ht J),(ht J),aY⟩)<|aA J<|zo J (lA J J)<|zo J (lA J J)<|bv J<|bv J<|ap<|au<|aA J<|aA J<|zo J (dn (ht J) (ht J))<|aA J<|bO h fun t q_t h=>cQ J J (fun hg=>cM J) ?_;refine cQ J J (fun hg=>bC oo J J) ?_
  obtain⟨r2,h1t,h0t⟩:=og q_t
  have q_r2g:=fun hb=>(h1t hb).1
  refine cQ J J (fun hg=>gF (args:=D9) (res:=rR) (f:=(fun(x:bp)=>of x)) (x:=((e):bp)) (aJ J hg) (q_r2g hg) ⟨(aJ J hg),aY⟩) ?_
  obtain⟨r3,h1t⟩:=IQ (fun hb=>(h1t hb).2)
  have q_r3g:=fun hb=>(h1t hb).1
  refine cQ J J (fun hg=>aL HW (AW _ (q_r3g hg)) ⟨(aJ J hg),aY⟩)<|cQ J J (fun hg=>d9 (aJ J hg))<|zo J (eN (ht J) (fun hb=>(aJ J (m6 hb))) (fun hb=>(h1t hb).2) h0t)<|ap<|dN h J (fun h=>?_) (fun h=>?_)
  ·refine au<|zo J (fC)<|ap<|am ?_;refine aB (aa (aa (aB (aa ?_))));cases so h;exact aH J J
  ·refine bD<|al<|an<|ak<|zo rfl (lb (cL hx hN) rfl)<|aA rfl<|aK ?_;exact aW (aM (ih (i+1) ⟨cK hx,h⟩) (bh J))

theorem JU(t:bp){R:ji}(h:eg t=some R):bg aP 109 [tD ck t] (tD rS R):=by
 refine bg.of Tryz.func109 J J J fun w0 S0=>au<|zo J (ms J)<|zo J (ba hS)<|ap<|au<|zo J (cc HB xO J J)<|zo J (bC C0 J J)<|bv J<|ap<|am ?_;cases so h;exact aH J J

theorem LW(c:bA){R:Int}(h:nt c=some R):bg aP 59 [tD bF c] (ce R):=by
 refine bg.of Tryz.func59 J J J fun w0 S0=>au<|zo J (ms J)<|zo J (fi)<|ap<|au<|zo J (ba (show ay _ _ _ ((fH aP D9 lZ (fun(x:bp)=>iO x)))from(AM OR fun x y h=>JY _ h)))<|ap<|ae<|au<|zo J (cc pn j3 J J)<|zo J (bC wT J J)<|zo J (jk qD J)<|zo J (gZ (ht J) hI)<|aA J<|bO h fun t q_t h=>cQ J J (fun hg=>cc pn j3 J J)<|cQ J J (fun hg=>aO wT J J (aJ J hg))<|cQ J J (fun hg=>cM J) ?_
 obtain⟨r,h1t,h0t⟩:=og q_t
 have q_rg:=fun hb=>(h1t hb).1
 refine cQ J J (fun hg=>aL OP (JW _ _ (q_rg hg)) ⟨(aJ J hg),(aJ J hg),aY⟩)<|zo J (eN (ht J) (fun hb=>(aJ J (m6 hb))) (fun hb=>(h1t hb).2) h0t)<|aA J<|bO h fun t1 q_t1 h=>cQ J J (fun hg=>cc pn j3 J J)<|cQ J J (fun hg=>aO wT J J (aJ J hg)) ?_
 obtain⟨r1,h1t1,h0t1⟩:=og q_t1
 have q_r1g:=fun hb=>(h1t1 hb).1
 refine cQ J J (fun hg=>aL OO (JV _ _ (q_r1g hg)) ⟨(aJ J hg),(AM ON fun x y h=>JU _ h),aY⟩)<|cQ J J (fun hg=>d9 (aJ J hg))<|zo J (eN (ht J) (fun hb=>(aJ J (m6 hb))) (fun hb=>(h1t1 hb).2) h0t1)<|ap<|dN h J (fun h=>?_) (fun h=>?_)
 ·refine au<|zo J (fi)<|ap<|am<|aa ?_;cases so h;exact aH J J
 ·refine eK<|au<|zo J (fi)<|ap<|am ?_;cases so h;exact aH J J

theorem JR(root:(List Int))(c:Int){R:Bool}(h:d6 root c=some R):bg aP 137 [ce c,bz gz root] (gU R):=by
 refine bg.of Tryz.func137 J J J fun w0 S0=>au<|zo J (fC)<|ap<|au<|aA J<|zo J (fz (ht J) hI)<|aA J<|cQ J J (fun hg=>cM J)<|cQ J J (fun hg=>bC bT J J)<|cQ J J (fun hg=>bS dr (aJ J hg))<|cQ J J (fun hg=>ek (aJ J hg) (aJ J hg))<|zo J (pr J J)<|aA J<|bO h fun t q_t h=>cQ J J (fun hg=>bC bT J J)<|cQ J J (fun hg=>cM J) ?_
 obtain⟨e,h1t,h0t⟩:=og q_t
 have q_eg:=fun hb=>(h1t hb).1
 refine cQ J J (fun hg=>cr dr bL J (aJ J hg) (aJ J hg) (q_eg hg))<|cQ J J (fun hg=>aO bL J J (aJ J hg))<|cQ J J (fun hg=>bG (aJ J hg) hI)<|zo J (eN (ht J) (fun hb=>(aJ J (m6 hb))) (fun hb=>(h1t hb).2) h0t)<|bv J<|ap<|am ?_;cases so h;exact aH J J

theorem EP(s:(List aF))(f:(aF→Option Bool)){R:Int}(h:dz s f=some R):bg aP 150 [fE (aE) s,(fH aP Fo lZ (fun(x:aF)=>f x))] (ce R):=by
 refine bg.of Tryz.func150 J J J fun w0 S0=>au<|zo J (fi)<|ap<|ae<|au<|aA J<|zo J (jk mp J)<|zo J (bj hI)<|ap<|av<|aX (k:=6) J fun hN=>bK ?_;refine aM (eh (Z:=fun ls i=>(s.drop i=ls)∧cD f ls i=some R) (Of:=fun _ i=>[]) (Gf:=fun _ i=>[(0,fE (aE) s),(1,(fH aP Fo lZ (fun(x:aF)=>f x))),(7,je s),(8,ce (i:Int))]) (fun i h=>?_) (fun e tl ih i h=>?_) s 0 ⟨J,h⟩) (bh J)
 ·obtain⟨hx,h⟩:=h
  refine aq<|au<|zo J (fx J J)<|ap<|ae<|br (ht J) (dp hx)<|bk ?_;refine ac (ac (aG ?_));refine an<|au<|zo rfl (fi)<|ap<|am ?_;cases so h;exact aH J J
 ·obtain⟨hx,h⟩:=h
  refine aq<|au<|zo J (fx J J)<|ap<|ae<|bq (ht J) (dh hx)<|eK<|ae<|av<|au<|aA J<|bv J<|ap<|au<|aA J<|aA J<|aA J<|zo J (ka mp eu J J J (dy hx)) ?_;refine zo J (bC eu J J)<|bO h fun r q_r h=>zo J (gF (args:=Fo) (res:=yB) (f:=(fun(x:aF)=>f x)) (x:=((e):aF)) (ht J) q_r ⟨(ht J),aY⟩)<|ap<|dN h J (fun h=>?_) (fun h=>?_)
  ·refine au<|aA J<|bv J<|ap<|am ?_;refine aB (aa (aa (aB (aa ?_))));cases so h;exact aH J J
  ·refine bD<|al<|an<|ak<|zo rfl (lb (cL hx hN) rfl)<|aA rfl<|aK ?_;exact aW (aM (ih (i+1) ⟨cK hx,h⟩) (bh J))

theorem JQ(s:(List aF))(f:(aF→Option Bool)){R:Bool}(h:df s f=some R):bg aP 138 [fE (aE) s,(fH aP Fo lZ (fun(x:aF)=>f x))] (gU R):=by
 refine bg.of Tryz.func138 J J J fun w0 S0=>au<|zo J (fC)<|ap<|au<|aA J<|aA J<|bO h fun r q_r h=>zo J (aL KK (EP _ _ q_r) ⟨(ht J),(ht J),aY⟩)<|zo J (ek (ht J) hI)<|bv J<|ap<|am ?_;cases so h;exact aH J J

theorem JO(s1:(List Int))(s2:(List aV))(eq:(Int→aV→Option Bool)){R:Bool}(h:cE s1 s2 eq=some R):bg aP 140 [lx s1,fE (bZ) s2,(fH aP (fun(x:Int×aV)=>[ce x.1,tD bZ x.2]) lZ (fun(x:Int×aV)=>eq x.1 x.2))] (gU R):=by
 refine bg.of Tryz.func140 J J J fun w0 S0=>au<|zo J (fC)<|ap<|ae<|au<|aA J<|zo J (jk dr J)<|aA J<|zo J (jk qK J)<|zo J (dn (ht J) (ht J))<|ap<|dN h J (fun h=>?_) (fun h=>?_)
 ·refine au<|zo J (fC)<|ap<|am<|aa ?_;cases so h;exact aH J J
 ·refine eK<|ae<|au<|aA J<|zo J (jk dr J)<|zo J (bj hI)<|ap<|av<|aX (k:=15) J fun hN=>bK ?_;refine aM (eh (Z:=fun ls i=>(s1.drop i=ls)∧cd s2 eq ls i=some R) (Of:=fun _ i=>[]) (Gf:=fun _ i=>[(1,fE (bZ) s2),(2,(fH aP (fun(x:Int×aV)=>[ce x.1,tD bZ x.2]) lZ (fun(x:Int×aV)=>eq x.1 x.2))),(15,lx s1),(16,je s1),(17,ce (i:Int))]) (fun i h=>?_) (fun e tl ih i h=>?_) s1 0 ⟨J,h⟩) (bh J)
  ·obtain⟨hx,h⟩:=h
   refine aq<|au<|zo J (fx J J)<|ap<|ae<|br (ht J) (dp hx)<|bk ?_;refine ac (ac (aG ?_));refine an<|au<|zo rfl (fC)<|ap<|am ?_;cases so h;exact aH J J
  ·obtain⟨hx,h⟩:=h
   refine aq<|au<|zo J (fx J J)<|ap<|ae<|bq (ht J) (dh hx)<|eK<|ae<|av<|au<|aA J<|zo J (ka dr bL J J J (dy hx))<|zo J (bC bL J J)<|bv J<|bv J<|ap<|au<|aA J ?_;refine aA J<|bO h fun e1 q_e1 h=>zo J (ka qK nY J J J q_e1)<|zo J (bC nY J J)<|aZ (r:=bZ) (x:=KY) nY (fun _=>px _) J fun b=>aC nY J aw J (ht J) (ht J)<|aU 9 J<|ap<|au<|aA J<|aA J<|zo J (bC nY J J)<|bO h fun r q_r h=>zo J (gF (args:=(fun(x:Int×aV)=>[tD bW x.1,tD bZ x.2])) (res:=yB) (f:=(fun(x:Int×aV)=>eq x.1 x.2)) (x:=((e,e1):Int×aV)) (ht J) q_r ⟨(ht J),(ht J),aY⟩)<|zo J (d9 (ht J))<|ap<|dN h J (fun h=>?_) (fun h=>?_)
   ·refine au<|zo J (fC)<|ap<|am ?_;refine aB (aa (aa (aB (aa ?_))));cases so h;exact aH J J
   ·refine bD<|al<|an<|ak<|zo rfl (lb (cL hx hN) rfl)<|aA rfl<|aK ?_;exact aW (aM (ih (i+1) ⟨cK hx,h⟩) (bh J))

theorem JN(k:Int)(c:aV){R:Bool}(h:iD k c=some R):bg aP 141 [ce k,tD bZ c] (gU R):=by
 refine bg.of Tryz.func141 J J J fun w0 S0=>au<|zo J (ms J)<|zo J (fC)<|ap<|au<|aA J<|zo J (cc HA vG J J)<|zo J (bC bL J J)<|zo J (bG (ht J) (ht J))<|bv J<|ap<|am ?_;cases so h;exact aH J J

theorem JP(f:cT)(p:(Option bI))(n:aF){R:Bool}(h:d5 f p n=some R):bg aP 139 [tD aE n,bz bY f,bz mX p] (gU R):=by
 refine bg.of Tryz.func139 J J J fun w0 S0=>au<|zo J (ms J)<|zo J (fC)<|ap<|ae<|au<|zo J (cc hJ cV J J)<|zo J (bC bL J J)<|zo J (uz J)<|ap<|dN h J (fun h=>?_) (fun h=>?_)
 ·refine au<|zo J (fC)<|ap<|am<|aa ?_;cases so h;exact aH J J
 ·refine eK<|ae<|ae<|bO h fun t q_t h=>?_
  obtain⟨p1,h1t,h0t⟩:=og q_t
  have q_p1g:=fun hb=>(h1t hb).1
  refine eQ (ts:=[_,_,_,_,_,_,_,_,_,_,_,_,_,_]) mixed J J
   ⟨ij 1 J J J (cc sZ na J J),
   ⟨cO 8 0 J J J (bC bL J J),
   ⟨cO 9 1 J J J (uz J),
   ⟨cO 10 2 J J J (cM J),
   ⟨om 3 11 3 J J J J (gJ J J J J (fun hg=>cc nc gi J J)),
   ⟨gm 12 4 11 3 J J J J (gJ J J J J (fun hg=>aO bL J J (aJ J hg))),
   ⟨om 2 11 3 J J J J (gJ J J J J (fun hg=>bC sa J J)),
   ⟨gm 14 6 11 3 J J J J (gJ J J J J (fun hg=>ed (aJ J hg) (q_p1g hg))),
   ⟨gm 15 7 11 3 J J J J (gJ J J J J (fun hg=>cB AR J qa J (aJ J hg))),
   ⟨gm 16 8 11 3 J J J J (gJ J J J J (fun hg=>cB pn J j3 J (aJ J hg))),
   ⟨gm 17 9 11 3 J J J J (gJ J J J J (fun hg=>aO wT J J (aJ J hg))),
   ⟨gm 18 10 11 3 J J J J (gJ J J J J (fun hg=>bS qD (aJ J hg))),
   ⟨rZ 13 5 19 11 11 3 J J J J J (gJ J J J J (fun hg=>ek (aJ J hg) (aJ J hg))),
   ⟨fG 11 3 20 12 J J J J (eN (ht J) (fun hb=>(aJ J (m6 hb))) (fun hb=>(h1t hb).2) h0t),
   aY⟩⟩⟩⟩⟩⟩⟩⟩⟩⟩⟩⟩⟩⟩ ?_
  refine an<|dN h rfl (fun h=>?_) (fun h=>?_)
  ·refine au<|zo J (fC)<|ap<|am<|aa ?_;cases so h;exact aH J J
  ·refine eK<|ae<|bO h fun p2 q_p2 h=>bO h fun e q_e h=>bO h fun r q_r h=>?_
   refine eQ (ts:=[_,_,_,_,_,_,_,_,_,_,_,_,_,_,_]) mixed J J
    ⟨ij 3 J J J (cc nb gQ J J),
    ⟨cO 22 0 J J J (bC bT J J),
    ⟨ij 2 J J J (bC sa J J),
    ⟨cO 24 2 J J J (ed (ht J) q_p2),
    ⟨cO 25 3 J J J (cc AR qa J J),
    ⟨cO 26 4 J J J (cc pn j3 J J),
    ⟨cO 27 5 J J J (bC wT J J),
    ⟨ij 3 J J J (cc nc gi J J),
    ⟨cO 29 7 J J J (bC bL J J),
    ⟨fG 28 6 30 8 J J J J (ka qD oo J J J q_e),
    ⟨cO 31 9 J J J (cc re lV J J),
    ⟨cO 32 10 J J J (bC Bx J J),
    ⟨fG 23 1 33 11 J J J J (aL OC (JO _ _ _ q_r) ⟨(ht J),(ht J),(AM OB fun x y h=>JN _ _ h),aY⟩),
    ⟨cO 34 12 J J J (d9 (ht J)),
    ⟨cO 35 13 J J J (yD J),
    aY⟩⟩⟩⟩⟩⟩⟩⟩⟩⟩⟩⟩⟩⟩⟩ ?_
   refine an<|am ?_;cases so h;exact aH J J

theorem LU(p:(Option bI))(f:cT)(root:(List Int)){R:Bool}(h:kI p f root=some R):bg aP 73 [tD mX p,tD bY f,lx root] (gU R):=by
 refine bg.of Tryz.func73 J J J fun w0 S0=>au<|zo J (ms J)<|zo J (ms J)<|zo J (ms J)<|zo J (fC)<|ap<|ae<|au<|zo J (cc sZ na J J)<|zo J (bC bL J J)<|zo J (uz J)<|aA J<|bE J J (fun hg=>cc sZ na J J)<|bE J J (fun hg=>aO bL J J (aJ J hg))<|bE J J (fun hg=>dn (aJ J hg) hI)<|zo J (kM J J)<|aA J<|cQ J J (fun hg=>cc rf mj J J)<|cQ J J (fun hg=>aO bL J J (aJ J hg))<|cQ J J (fun hg=>fz (aJ J hg) hI) ?_;refine zo J (pr J J)<|aA J<|cQ J J (fun hg=>cc rf mj J J)<|cQ J J (fun hg=>aO bL J J (aJ J hg))<|cQ J J (fun hg=>gZ (aJ J hg) hI)<|zo J (pr J J)<|aA J<|cQ J J (fun hg=>cc rf mj J J)<|cQ J J (fun hg=>aO bL J J (aJ J hg))<|cQ J J (fun hg=>bG (aJ J hg) hI)<|cQ J J (fun hg=>cc u5 pF J J)<|cQ J J (fun hg=>aO bT J J (aJ J hg))<|cQ J J (fun hg=>bS dr (aJ J hg))<|cQ J J (fun hg=>gZ (aJ J hg) hI)<|cQ J J (fun hg=>AC Fl (aJ J hg) (aJ J hg))<|zo J (pr J J)<|aA J<|cQ J J (fun hg=>cc u5 pF J J)<|cQ J J (fun hg=>aO bT J J (aJ J hg))<|cQ J J (fun hg=>bS dr (aJ J hg))<|cQ J J (fun hg=>gZ (aJ J hg) hI)<|zo J (pr J J)<|ap ?_;refine dN h J (fun h=>?_) (fun h=>?_)
 ·refine au<|zo J (fC)<|ap<|am<|aa ?_;cases so h;exact aH J J
 ·refine eK<|ae<|au<|zo J (cc u5 pF J J)<|zo J (bC bT J J)<|zo J ((show bU _ _ _ _ ((fH aP Ak lZ (fun(x:Int)=>(d6 root) x)))from hY (cts:=[bz gz root]) (caps:=[.tmp 5]) OG ⟨(ht J),aY⟩ (fun x y h=>JR _ _ h)))<|bO h fun r q_r h=>zo J (aL EZ (wD _ _ q_r) ⟨(ht J),(ht J),aY⟩)<|ap<|dN h J (fun h=>?_) (fun h=>?_)
  ·refine au<|zo J (fC)<|ap<|am<|aa ?_;cases so h;exact aH J J
  ·refine eK<|au<|zo J (cc nd iN J J)<|zo J (bC rW J J)<|zo J ((show bU _ _ _ _ ((fH aP Fo lZ (fun(x:aF)=>(d5 f p) x)))from hY (cts:=[bz bY f,bz mX p]) (caps:=[.tmp 4,.tmp 3]) OD ⟨(ht J),(ht J),aY⟩ (fun x y h=>JP _ _ _ h)))<|bO h fun r1 q_r1 h=>zo J (aL OF (JQ _ _ q_r1) ⟨(ht J),(ht J),aY⟩)<|zo J (d9 (ht J))<|bv J<|ap<|am ?_;cases so h;exact aH J J

theorem LM(p:cZ)(from1:Int):yp aP 82 (fun(x:Int×Int)=>[ce x.1,ce x.2]) (fun _=>pi p from1) [] [bz cb p,bz bW from1]:=by
 refine yp.of Tryz.func82 J J J fun Sg yld s R h I yv hy e he w0 S0 B hB=>?_
 replace h:pi p from1 yld s=some R:=h
 refine au<|zo J (cc iF eo J J)<|zo J (bC oM J J)<|zo J (jk lP J)<|zo J (bj hI)<|ap<|av<|aX (k:=9) J fun hN=>bK ?_;refine aM (oK (Z:=fun ls i e1 s1=>(p.Frags.drop i=ls)∧I s1 e1∧ie from1 yld ls i s1=some R) (Of:=fun _ i e1 s1=>[e1]) (Gf:=fun _ i e1 s1=>[(0,tV yv),(2,bz bW from1),(9,fE (bY) p.Frags),(10,je p.Frags),(11,ce (i:Int))]) (fun i e1 s1 h=>?_) (fun e2 tl ih i e1 s1 h=>?_) p.Frags 0 e s ⟨J,⟨he,h⟩⟩) (bh J)
 ·obtain⟨hx,h⟩:=h
  obtain⟨he1,h⟩:=h
  refine aq<|au<|zo J (fx J J)<|ap<|ae<|br (ht J) (dp hx)<|bk ?_;refine ac (ac (aG ?_));cases so h;exact Ie J he1 hB trivial
 ·obtain⟨hx,h⟩:=h
  obtain⟨he1,h⟩:=h
  refine aq<|au<|zo J (fx J J)<|ap<|ae<|bq (ht J) (dh hx)<|eK<|ae<|av<|au<|aA J<|zo J (ka lP io J J J (dy hx))<|zo J (bC io J J)<|aZ (r:=bY) (x:=yC) io (fun _=>nj _) J fun b=>bv J<|aC io J aw J (ht J) (ht J)<|aU 5 J<|ap<|ae ?_;refine ak<|zo J (cc nd iN J J)<|zo J (bC rW J J)<|zo J (jk mp J)<|zo J (bj hI)<|ap<|av<|aX (k:=17) J fun hN1=>bK ?_;refine aM (oK (Z:=fun ls1 i1 e3 s2=>(e2.Nodes.drop i1=ls1)∧I s2 e3∧ic from1 yld (ie from1 yld tl) i ls1 i1 s2=some R) (Of:=fun _ i1 e3 s2=>[e3]) (Gf:=fun _ i1 e3 s2=>[(0,tV yv),(2,bz bW from1),(4,ce (i:Int)),(9,fE (bY) p.Frags),(10,je p.Frags),(11,ce (i:Int)),(17,fE (aE) e2.Nodes),(18,je e2.Nodes),(19,ce (i1:Int))]) (fun i1 e3 s2 h=>?_) (fun e4 tl1 ih1 i1 e3 s2 h=>?_) e2.Nodes 0 e1 s1 ⟨J,⟨he1,h⟩⟩) (bh J)
  ·obtain⟨hx1,h⟩:=h
   obtain⟨he2,h⟩:=h
   refine aq<|au<|zo J (fx J J)<|ap<|ae<|br (ht J) (dp hx1)<|bk ?_;refine ac (ac (aG ?_));refine al<|an<|ak<|zo rfl (lb (cL hx hN) rfl)<|aA rfl<|aK ?_;exact aW (aM (ih (i+1) e3 s2 ⟨cK hx,⟨he2,h⟩⟩) (bh J))
  ·obtain⟨hx1,h⟩:=h
   obtain⟨he2,h⟩:=h
   refine aq<|au<|zo J (fx J J)<|ap<|ae<|bq (ht J) (dh hx1)<|eK<|ae<|av<|au<|aA J<|zo J (ka mp eu J J J (dy hx1))<|zo J (bC eu J J)<|aZ (r:=aE) (x:=Bh) eu (fun _=>fF _) J fun b1=>bv J<|aC eu J aw J (ht J) (ht J)<|aU 7 J<|ap<|ae ?_;refine ak<|zo J (cc hJ cV J J)<|zo J (bC bL J J)<|zo J (kc J)<|aA J<|bE J J (fun hg=>cc nc gi J J)<|bE J J (fun hg=>aO bL J J (aJ J hg))<|bE J J (fun hg=>bC bL J J)<|bE J J (fun hg=>bG (aJ J hg) (aJ J hg))<|zo J (kM J J)<|aA J ?_;refine Cv ((e4.Op==(9:Int))&&(e4.Table==from1)) (fun hg=>?_) (fun hg=>?_)
   ·have h:=ct h hg;refine ul J J J hg<|aA J<|ul J J J hg<|aA J<|ul J J J hg<|aA J<|ul J J J hg<|bO h fun r q_r h=>H3 hy he2 q_r (ht J) ⟨(ht J),(ht J),aY⟩ J fun e5 he3=>ul J J J hg<|zo J (d9 (ht J))<|zo J (uV (ht J) hg (ht J))<|ap<|dN h J (fun h=>?_) (fun h=>?_)
    ·refine am ?_;refine aB (aa (aa (aB (aB (aa (aa (aB ?_)))))));cases so h;exact Fg J he3 hB trivial
    ·refine bD<|al<|an<|ak<|zo rfl (lb (cL hx1 hN1) rfl)<|aA rfl<|aK ?_;exact aW (aM (ih1 (i1+1) e5 r.2 ⟨cK hx1,⟨he3,h⟩⟩) (bh J))
   ·have h:=cf h hg;refine lY J J J hg J<|lY J J J hg J<|lY J J J hg J<|lY J J J hg J<|lY J J J hg J<|zo J (zk (ht J) hg Pk)<|ap<|nv (ht J) (fun hc=>?_) (fun hc=>?_)
    ·cases hc
    ·refine bD<|al<|an<|ak<|zo rfl (lb (cL hx1 hN1) rfl)<|aA rfl<|aK ?_;exact aW (aM (ih1 (i1+1) e3 s2 ⟨cK hx1,⟨he2,h⟩⟩) (bh J))

theorem EH(p:cZ)(from1:Int){R:It (Int×Int)}(h:nB p from1=some R):ye aP 45 [tD cb p,ce from1] (fun(x:Int×Int)=>[ce x.1,ce x.2]) R:=by
 refine ye.of Tryz.func45 J J J fun w0 S0=>au<|zo J (ms J)<|zo J (ms J)<|zo J (ba hV)<|ap<|au<|Cy (O1:=[]) (cts:=[bz cb p,bz bW from1]) (caps:=[.tmp 2,.tmp 3]) J PI (LM p from1) ⟨(ht J),(ht J),aY⟩ J fun v fp=>bv J<|ap<|am ?_;cases so h;exact Id J J

theorem ER(s1:(List Int))(s2:(List Int)){R:Bool}(h:ew s1 s2=some R):bg aP 142 [lx s1,lx s2] (gU R):=by
 refine bg.of Tryz.func142 J J J fun w0 S0=>au<|zo J (fC)<|ap<|ae<|au<|aA J<|zo J (jk dr J)<|aA J<|zo J (jk dr J)<|zo J (dn (ht J) (ht J))<|ap<|dN h J (fun h=>?_) (fun h=>?_)
 ·refine au<|zo J (fC)<|ap<|am<|aa ?_;cases so h;exact aH J J
 ·refine eK<|ae<|au<|aA J<|zo J (jk dr J)<|zo J (bj hI)<|ap<|av<|aX (k:=11) J fun hN=>bK ?_;refine aM (eh (Z:=fun ls i=>(s1.drop i=ls)∧em s2 ls i=some R) (Of:=fun _ i=>[]) (Gf:=fun _ i=>[(0,lx s1),(1,lx s2),(12,je s1),(13,ce (i:Int))]) (fun i h=>?_) (fun e tl ih i h=>?_) s1 0 ⟨J,h⟩) (bh J)
  ·obtain⟨hx,h⟩:=h
   refine aq<|au<|zo J (fx J J)<|ap<|ae<|br (ht J) (dp hx)<|bk ?_;refine ac (ac (aG ?_));refine an<|au<|zo rfl (fC)<|ap<|am ?_;cases so h;exact aH J J
  ·obtain⟨hx,h⟩:=h
   refine aq<|au<|zo J (fx J J)<|ap<|ae<|bq (ht J) (dh hx)<|eK<|ae<|av<|au<|aA J<|bv J<|ap<|ae<|bO h fun e1 q_e1 h=>?_
   refine eQ (ts:=[_,_,_,_,_,_,_,_,_]) mixed J J
    ⟨ij 0 J J J (cM J),
    ⟨ij 5 J J J (cM J),
    ⟨fG 16 0 17 1 J J J J (ka dr bL J J J (dy hx)),
    ⟨cO 18 2 J J J (bC bL J J),
    ⟨ij 1 J J J (cM J),
    ⟨ij 5 J J J (cM J),
    ⟨fG 20 4 21 5 J J J J (ka dr bL J J J q_e1),
    ⟨cO 22 6 J J J (bC bL J J),
    ⟨fG 19 3 23 7 J J J J (dn (ht J) (ht J)),
    aY⟩⟩⟩⟩⟩⟩⟩⟩⟩ ?_
   refine an<|dN h rfl (fun h=>?_) (fun h=>?_)
   ·refine au<|zo J (fC)<|ap<|am ?_;refine aB (aa (aa (aB (aa ?_))));cases so h;exact aH J J
   ·refine bD<|al<|an<|ak<|zo rfl (lb (cL hx hN) rfl)<|aA rfl<|aK ?_;exact aW (aM (ih (i+1) ⟨cK hx,h⟩) (bh J))

theorem EQ(p:(Option bI))(frag:Int){R:(List Int)}(h:dl p frag=some R):bg aP 143 [tD mX p,ce frag] (lx R):=by
 refine bg.of Tryz.func143 J J J fun w0 S0=>au<|zo J (ba (show ay _ _ _ (lx ([]))from uX))<|ap<|au<|aA J<|bO h fun p1 q_p1 h=>zo J (ed (ht J) q_p1)<|zo J (cc wy tW J J)<|zo J (bC Eg J J)<|aA J<|bO h fun e q_e h=>zo J (ka Tryz.underlying161 yG J J J q_e)<|zo J (bC yG J J)<|bv J<|ap<|au<|aA J<|aA J ?_;refine zo J (jk pR J)<|zo J (gE (ht J) hI)<|bO h fun e1 q_e1 h=>zo J (ka pR bT J J J q_e1)<|zo J (bC bT J J)<|bv J<|ap<|am ?_;cases so h;exact aH J J

theorem LT(p:(Option bI))(at1:Int){R:Bool}(h:jV p at1=some R):bg aP 74 [tD mX p,ce at1] (gU R):=by
 refine Cu Tryz.func74 J J J fun w0 S0=>au<|zo J (ms J)<|zo J (fC)<|ap<|au<|zo J (bC sa J J)<|bO h fun p1 q_p1 h=>zo J (ed (ht J) q_p1)<|zo J (cc nr gv J J)<|zo J (cc iF eo J J)<|zo J (bC oM J J)<|aA J<|bO h fun e q_e h=>zo J (ka lP io J J J q_e)<|zo J (bC io J J)<|aZ (r:=bY) (x:=yC) io (fun _=>nj _) J fun b=>aC io J aw J (ht J) (ht J)<|aU 5 J<|ap ?_;refine ae<|au<|zo J (cc nd iN J J)<|zo J (bC rW J J)<|zo J (jk mp J)<|zo J (bj hI)<|ap<|av<|aX (k:=20) J fun hN=>bK ?_;refine aM (eh (Z:=fun ls i=>(e.Nodes.drop i=ls)∧eT p at1 e ls=some R) (Of:=fun _ i=>[]) (Gf:=fun _ i=>[(1,ce at1),(2,bz mX p),(5,bz bY e),(20,fE (aE) e.Nodes),(21,je e.Nodes),(22,ce (i:Int))]) (fun i h=>?_) (fun e1 tl ih i h=>?_) e.Nodes 0 ⟨J,h⟩) (bh J)
 ·obtain⟨hx,h⟩:=h
  refine aq<|au<|zo J (fx J J)<|ap<|ae<|br (ht J) (dp hx)<|bk ?_;refine ac (ac (aG ?_));refine an<|au<|aZ (r:=bW) (x:=(0:Int)) bL (fun _=>J) J fun b1=>aZ (r:=rB) (x:=false) GZ (fun _=>J) J fun b2=>bM<|aC bL J aw J (ht J) hI<|bM<|aC GZ J aw J (ht J) hB<|ap<|ae<|au<|zo J (bC sa J J)<|bO h fun p2 q_p2 h=>zo J (ed (ht J) q_p2)<|zo J (cc nr gv J J)<|zo J (bC lg J J)<|aA J<|bO h fun it q_it h=>zV NJ (EH _ _ q_it) ⟨(ht J),(ht J),aY⟩ J fun v fp=>ap ?_;refine av<|bO h fun s q_s h=>?_;refine GE (fun(i:Bool×Int)=>[bx rB 4 b2 i.1,bx bW 3 b1 i.2]) (fun(i:Bool×Int)=>(i.1,i.2)) J (ht J) (false,(0:Int)) J q_s (fun _=>J) J (fun i x s2 h lp rec1 _ _ _=>?_) (fun i hi bd=>?_)
  ·obtain⟨one,many⟩:=i
   replace h:d8 p x one many=some s2:=h
   refine(show CG _ _ _ [pZ lp rec1 .ready,bx rB 4 b2 one,bx bW 3 b1 many] _ from ?_);refine D2 (G' :=[(1,ce at1),(2,bz mX p),(5,bz bY e),(8,tV (aD b1 0)),(9,tV (aD b2 0)),(20,fE (aE) e.Nodes),(21,je e.Nodes),(22,ce (i:Int)),(23,gU (decide ((i:Int)<(e.Nodes.length:Int)))),(46,tD mX p),(47,bz fe p2),(48,bz cb p2.Plan),(49,tD cb p2.Plan),(50,ce at1),(52,ce x.1),(53,ce x.2)]) ?_ ⟨J,J,J,J,J,J,J,J,J,J,J,J,J,J,J,J,aY⟩;refine ak<|bv J<|aK<|Ig<|av<|au<|zo J (aT bL J J cH (.tail _ (.tail _ (.head _))) (ht J))<|zo J (nO (ht J) hI)<|jJ<|aC bL J aw J (ht J) (ht J)<|ap<|ak<|zo J (bC sa J J)<|bO h fun p3 q_p3 h=>zo J (ed (ht J) q_p3)<|zo J (cc nr gv J J)<|zo J (cc iF eo J J)<|zo J (bC oM J J)<|aA J<|bO h fun e2 q_e2 h=>zo J (ka lP io J J J q_e2)<|zo J (cc sZ na J J) ?_;refine zo J (bC bL J J)<|zo J (kc J)<|jJ<|aC GZ J aw J (ht J) (ht J)<|aK<|al<|bf<|bf<|aI ?_;exact CL ((e2.At==(2:Int)),(IntKind.i64.wrap (many+(1:Int)))) (so h) J
  ·skip
   obtain⟨x1,x2⟩:=i
   have hi:(x1,x2)=s:=hi
   subst hi
   dsimp only at h
   refine(show AT _ _ _ [Bi bd,bx rB 4 b2 x1,bx bW 3 b1 x2] _ from ?_);refine cg (G' :=[(1,ce at1),(2,bz mX p),(5,bz bY e),(8,tV (aD b1 0)),(9,tV (aD b2 0)),(20,fE (aE) e.Nodes),(21,je e.Nodes),(22,ce (i:Int)),(23,gU (decide ((i:Int)<(e.Nodes.length:Int)))),(46,tD mX p),(47,bz fe p2),(48,bz cb p2.Plan),(49,tD cb p2.Plan),(50,ce at1)]) ?_ ⟨J,J,J,J,J,J,J,J,J,J,J,J,J,J,aY⟩;refine al<|an<|ae<|au<|aA rfl<|zo rfl (bC sa rfl rfl)<|bO h fun p4 q_p4 h=>zo J (ed (ht J) q_p4)<|zo J (cc nr gv J J)<|zo J (cc iF eo J J)<|zo J (bC oM J J)<|zo J (jk lP J)<|zo J (gE (ht J) hI)<|zo J (bG (ht J) (ht J))<|ap<|dN h J (fun h=>?_) (fun h=>?_)
   ·refine au<|zo J (cc rf mj J J)<|zo J (bC bL J J)<|zo J (kc J)<|aA J<|bE J J (fun hg=>cc sZ na J J)<|bE J J (fun hg=>aO bL J J (aJ J hg))<|bE J J (fun hg=>bG (aJ J hg) hI)<|zo J (kM J J)<|aA J<|bE J J (fun hg=>aT bL J J cH (.tail _ (.tail _ (.head _))) (ht J))<|bE J J (fun hg=>bG (aJ J hg) hI)<|zo J (kM J J)<|aA J<|bO h fun t q_t h=>bE J J (fun hg=>bC sa J J)<|bE J J (fun hg=>cM J) ?_
    obtain⟨r,h1t,h0t⟩:=og q_t
    have q_rg:=fun hb=>(h1t hb).1
    refine bE J J (fun hg=>aL KL (EQ _ _ (q_rg hg)) ⟨(aJ J hg),(aJ J hg),aY⟩) ?_
    obtain⟨r1,h1t⟩:=IQ (fun hb=>(h1t hb).2)
    have q_r1g:=fun hb=>(h1t hb).1
    refine bE J J (fun hg=>aL Mg (DB _ _ (q_r1g hg)) ⟨(aJ J hg),hI,aY⟩)<|bE J J (fun hg=>d9 (aJ J hg))<|zo J (dm (ht J) (fun hb=>(aJ J hb)) (fun hb=>(h1t hb).2) h0t)<|bv J<|ap<|am<|aa<|bf<|bl<|bf<|bl<|wG<|rt ?_;cases so h;exact aH J J
   ·refine eK<|au<|zo J (cc rf mj J J)<|zo J (bC bL J J)<|zo J (uz J)<|aA J<|bE J J (fun hg=>aT bL J J cH (.tail _ (.tail _ (.head _))) (ht J))<|bE J J (fun hg=>bG (aJ J hg) hI)<|zo J (kM J J)<|aA J<|bE J J (fun hg=>cc rf mj J J)<|bE J J (fun hg=>aO bL J J (aJ J hg))<|bE J J (fun hg=>bG (aJ J hg) hI)<|bE J J (fun hg=>aT GZ J J cH (.tail _ (.head _)) (ht J))<|bE J J (fun hg=>IL Fl (aJ J hg) (aJ J hg))<|zo J (kM J J)<|bv J<|ap<|am<|bf<|bl ?_;refine bf<|bl<|wG<|rt ?_;cases so h;exact aH J J
 ·obtain⟨hx,h⟩:=h
  refine aq<|au<|zo J (fx J J)<|ap<|ae<|bq (ht J) (dh hx)<|eK<|ae<|av<|au<|zo J (ka mp eu J J J (dy hx))<|zo J (bC eu J J)<|aZ (r:=aE) (x:=Bh) eu (fun _=>fF _) J fun b3=>aC eu J aw J (ht J) (ht J)<|aU 7 J<|ap<|ae<|bO h fun t1 q_t1 h=>?_
  obtain⟨t2,h1t1,h0t1⟩:=og q_t1
  have q_t2g:=fun hb=>(h1t1 hb).1
  obtain⟨r2,h1t2,h0t2⟩:=Pf q_t2g
  have q_r2g:=fun hb=>(h1t2 hb).1
  obtain⟨r3,h1t2⟩:=IQ (fun hb=>(h1t2 hb).2)
  have q_r3g:=fun hb=>(h1t2 hb).1
  refine eQ (ts:=[_,_,_,_,_,_,_,_,_,_,_,_,_,_,_,_,_,_,_]) mixed J J
   ⟨ij 7 J J J (cc hJ cV J J),
   ⟨cO 26 0 J J J (bC bL J J),
   ⟨cO 27 1 J J J (kc J),
   ⟨cO 28 2 J J J (cM J),
   ⟨om 7 29 3 J J J J (cJ J J J J (fun hg=>cc nc gi J J)),
   ⟨gm 30 4 29 3 J J J J (cJ J J J J (fun hg=>aO bL J J (aJ J hg))),
   ⟨om 1 29 3 J J J J (cJ J J J J (fun hg=>cM J)),
   ⟨rZ 31 5 32 6 29 3 J J J J J (cJ J J J J (fun hg=>ek (aJ J hg) (aJ J hg))),
   ⟨gm 33 7 29 3 J J J J (cJ J J J J (fun hg=>bj (aJ J hg))),
   ⟨om 7 34 8 J J J J (pb J J J J (fun hg=>cc nb gQ J J)),
   ⟨gm 35 9 34 8 J J J J (pb J J J J (fun hg=>aO bT J J (aJ J hg))),
   ⟨om 2 34 8 J J J J (pb J J J J (fun hg=>bC sa J J)),
   ⟨om 7 34 8 J J J J (pb J J J J (fun hg=>cc nc gi J J)),
   ⟨gm 38 12 34 8 J J J J (pb J J J J (fun hg=>aO bL J J (aJ J hg))),
   ⟨rZ 37 11 39 13 34 8 J J J J J (pb J J J J (fun hg=>aL KL (EQ _ _ (q_r2g hg)) ⟨(aJ J hg),(aJ J hg),aY⟩)),
   ⟨rZ 36 10 40 14 34 8 J J J J J (pb J J J J (fun hg=>aL KM (ER _ _ (q_r3g hg)) ⟨(aJ J hg),(aJ J hg),aY⟩)),
   ⟨gm 41 15 34 8 J J J J (pb J J J J (fun hg=>d9 (aJ J hg))),
   ⟨rZ 34 8 42 16 29 3 J J J J J (cJ J J J J (fun hg=>eN (aJ J hg) (fun hb=>(aJ J (oO hg (m6 hb)))) (fun hb=>(h1t2 (oO hg hb)).2) (fun hb=>h0t2 hg hb))),
   ⟨fG 29 3 43 17 J J J J (dm (ht J) (fun hb=>(aJ J hb)) (fun hb=>(h1t1 hb).2) h0t1),
   aY⟩⟩⟩⟩⟩⟩⟩⟩⟩⟩⟩⟩⟩⟩⟩⟩⟩⟩⟩ ?_
  refine an<|dN h rfl (fun h=>?_) (fun h=>?_)
  ·refine au<|zo J (fC)<|ap<|am ?_;refine aB (aa (aa (aB (aa ?_))));refine rt ?_;cases so h;exact aH J J
  ·refine bD<|al<|an<|ak<|zo rfl (lb (cL hx hN) rfl)<|aA rfl<|aK ?_;exact aW (aM (ih (i+1) ⟨cK hx,h⟩) (bh J))

end Go.Proofs.YtmogpgcfognefaaGreatDoor

