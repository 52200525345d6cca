/- cU of this claim: P0. -/
import Derived.Test.YtfhhakidodmdfaaGreatDoorJfT
import Derived.Test.YtfhhakidodmdfaaGreatDoorJfF
set_option linter.all false
namespace Go.Proofs.YtfhhakidodmdfaaGreatDoor
open Go
abbrev Yk:=fun(mc:aE) (mx:aj)=>(gb mc mx).map fun mr=>(mr,mc)
abbrev Yj:=fun(mc:aE) (mx:aj)=>(g9 mc mx).map fun mr=>(mr,mc)
abbrev Yo:=fun(mc:aE) (mx:aj)=>(gc mc mx).map fun mr=>(mr,mc)
abbrev Yl:=fun(mc:aE) (mx:aj)=>(gK mc mx).map fun mr=>(mr,mc)
abbrev Yp:=fun(mc:aE) (mx:aj)=>(fH mc mx).map fun mr=>(mr,mc)
abbrev Yq:=fun(mc:aE) (mx:aj)=>(fd mc mx).map fun mr=>(mr,mc)
abbrev Yn:=fun(mc:aE) (mx:aj)=>(gI mc mx).map fun mr=>(mr,mc)
abbrev Ym:=fun(mc:aE) (mx:aj)=>(gJ mc mx).map fun mr=>(mr,mc)
abbrev MC:=dw (dw (dw (dw (dw (dw (dw (dw ([]:List (Int×(aE→aj→Option (((List Int)×Bool)×aE)))) (1:Int) Yk) (2:Int) Yj) (3:Int) Yo) (4:Int) Yl) (5:Int) Yp) (6:Int) Yq) (7:Int) Yn) (8:Int) Ym
abbrev Yc:=fun(mc:cZ) (mx:aj)=>(lh mc mx).map fun mr=>(mr,mc)
abbrev Yb:=fun(mc:cZ) (mx:aj)=>(jT mc mx).map fun mr=>(mr,mc)
abbrev Yg:=fun(mc:cZ) (mx:aj)=>(jP mc mx).map fun mr=>(mr,mc)
abbrev Yd:=fun(mc:cZ) (mx:aj)=>(jp mc mx).map fun mr=>(mr,mc)
abbrev Yh:=fun(mc:cZ) (mx:aj)=>(jo mc mx).map fun mr=>(mr,mc)
abbrev Yi:=fun(mc:cZ) (mx:aj)=>(iU mc mx).map fun mr=>(mr,mc)
abbrev Yf:=fun(mc:cZ) (mx:aj)=>(kG mc mx).map fun mr=>(mr,mc)
abbrev Ye:=fun(mc:cZ) (mx:aj)=>(kH mc mx).map fun mr=>(mr,mc)
abbrev Ru:=dw (dw (dw (dw (dw (dw (dw (dw ([]:List (Int×(cZ→aj→Option (((List (List ac))×Int)×cZ)))) (1:Int) Yc) (2:Int) Yb) (3:Int) Yg) (4:Int) Yd) (5:Int) Yh) (6:Int) Yi) (7:Int) Yf) (8:Int) Ye
abbrev iy:=(⟨(0:Int),(0:Int),(0:Int),[]⟩:ac)
abbrev cR:=gi af
abbrev qK:=fun(x:ac×ac)=>[tD af x.1,tD af x.2]
abbrev tE:=fun(x:ac×Int)=>tT [tD af x.1,bN x.2]
abbrev pM:=fun(x:aj)=>[tD aF x]
abbrev Ap:=(⟨[]⟩:bJ)
abbrev Id:=(⟨(0:Int),(0:Int),(0:Int),(0:Int),[],false,Ap,[],[],[],[],(0:Int)⟩:aj)
abbrev ca:=rI .i64
abbrev Gt:=fun(x:(List ac)×(List ac))=>[bW (af) x.1,bW (af) x.2]
abbrev o9:=fun(x:(List Int)×Bool)=>tT [mK x.1,iO x.2]
abbrev mA:=fun(x:Bool)=>iO x
abbrev qM:=fun(x:(List (List ac))×Int)=>tT [bW (cR) x.1,bN x.2]
abbrev xT:=fun(x:Int)=>bN x
abbrev Qe:=fun(x:(List (List ac))×(List ac))=>ek x.1 x.2
noncomputable abbrev Qf:=dR aQ (fun(x:(List (List ac))×(List ac))=>[bW (cR) x.1,bW (af) x.2]) xT Qe
abbrev DQ:=fun(x:ac×Int)=>tT [tD af x.1,tD ca x.2]
abbrev dU:=gi cR
abbrev Bb:=fun(x:ac)=>[tD af x]
abbrev wr:=(⟨[]⟩:bc)
abbrev n9:=kvI .i64
abbrev Rt:=(⟨(0:Int),(0:Int),(0:Int),(0:Int),iy⟩:bp)
abbrev wq:=bW (cR) ([])
abbrev vw:=([]:List Int)
abbrev Ui:=fun(x:bp×(List ac))=>[tD bO x.1,bW (af) x.2]
abbrev Rs:=fun(x:(List (List ac))×(List ac))=>[tD dU x.1,tD cR x.2]
abbrev Gu:=fun(x:Int)=>tD ca x
abbrev Uh:=fun(x:(List ac)×(List ac))=>[tD cR x.1,tD cR x.2]
abbrev Rr:=(⟨(1:Int),(0:Int),(0:Int),[]⟩:ac)
abbrev Ug:=fun(x:bp×(List ac))=>[tD bO x.1,tD cR x.2]
abbrev Ih:=fun(x:Bool)=>tD rB x
abbrev Uf:=fun(x:bp×(List Int))=>[tD bO x.1,mK x.2]
abbrev Ig:=([]:List (List ac))
abbrev Kb:=fun(x:Int)=>[bN x]
abbrev Qd:=fun(x:fq)=>[tD fX x]
abbrev va:=(-1:Int)
abbrev xR:=gi ca
abbrev Ya:=fun(x:bp×(List Int))=>[tD bO x.1,tD xR x.2]
abbrev Ue:=fun(x:Int×Int)=>tT [bN x.1,bN x.2]
abbrev Ud:=fun(x:(List ac))=>[bW (af) x]
abbrev If:=([]:List ac)
abbrev xS:=mK ([])
abbrev Rq:=(⟨(1:Int),Ap⟩:hU)
abbrev X9:=fun(x:Int×Int)=>tT [tD ca x.1,tD ca x.2]
abbrev Qc:=([]:List (List Int))
abbrev Uc:=(⟨[],[]⟩:iw)
abbrev X8:=(⟨(0:Int),Ap⟩:hU)
abbrev Ie:=rI .u64
abbrev Ub:=([]:List aj)
set_option maxRecDepth 100000

theorem VA(s:(List Int))(f:(Int→Option Bool)){R:Int}(h:lH s f=some R):aW aQ 321 [mK s,(dR aQ Kb mA (fun(x:Int)=>f x))] (bN R):=by
 refine aW.of Tryz.func321 J J J fun w0 S0=>aw<|zo J (cy)<|av<|ah<|aw<|aG J<|zo J (i7 hX J)<|zo J (bE hI)<|av<|ay<|ba (k:=6) J fun hN=>bL ?_;refine aR (d7 (Z:=fun ls i=>(s.drop i=ls)∧fM f ls i=some R) (Of:=fun _ i=>[]) (Gf:=fun _ i=>[(0,mK s),(1,(dR aQ Kb mA (fun(x:Int)=>f x))),(7,jr s),(8,bN (i:Int))]) (fun i h=>?_) (fun e tl ih i h=>?_) s 0 ⟨J,h⟩) (bu J)
 ·obtain⟨hx,h⟩:=h
  refine aA<|aw<|zo J (fF J J)<|av<|ah<|bz (ht J) (dm hx)<|bv ?_;refine ai (ai (aN ?_));refine ax<|aw<|zo rfl (cy)<|av<|am ?_;cases so h;exact aH J J
 ·obtain⟨hx,h⟩:=h
  refine aA<|aw<|zo J (fF J J)<|av<|ah<|bw (ht J) (dg hx)<|dP<|ah<|ay<|aw<|aG J<|bq J<|av<|aw<|aG J<|aG J<|aG J<|zo J (mz hX cr J J J (cT hx)) ?_;refine zo J (bC cr J J)<|bB h fun r q_r h=>zo J (eU (args:=(fun(x:Int)=>[tD ca x])) (res:=Ih) (f:=(fun(x:Int)=>f x)) (x:=((e):Int)) (ht J) q_r ⟨(ht J),aS⟩)<|av<|c0 h J (fun h=>?_) (fun h=>?_)
  ·refine aw<|aG J<|bq J<|av<|am ?_;refine aD (ae (ae (aD (ae ?_))));cases so h;exact aH J J
  ·refine bA<|ap<|ax<|au<|zo rfl (lT (cx hx hN) rfl)<|aG rfl<|aP ?_;exact bg (aR (ih (i+1) ⟨cw hx,h⟩) (bu J))

theorem Ej(s:(List Int))(f:(Int→Option Bool)){R:Bool}(h:cE s f=some R):aW aQ 258 [mK s,(dR aQ Kb mA (fun(x:Int)=>f x))] (iO R):=by
 refine aW.of Tryz.func258 J J J fun w0 S0=>aw<|zo J (jy)<|av<|aw<|aG J<|aG J<|bB h fun r q_r h=>zo J (aB abr (VA _ _ q_r) ⟨(ht J),(ht J),aS⟩)<|zo J (ir (ht J) hI)<|bq J<|av<|am ?_;cases so h;exact aH J J

theorem VH(k:Int){R:Bool}(h:Do k=some R):aW aQ 280 [bN k] (iO R):=by
 refine aW.of Tryz.func280 J J J fun w0 S0=>aw<|zo J (jy)<|av<|aw<|aG J<|zo J (nX J)<|aG J<|eG J J (fun hg=>de J)<|eG J J (fun hg=>dx (bG J hg) hI)<|zo J (xf J J)<|aG J<|eG J J (fun hg=>de J)<|eG J J (fun hg=>dx (bG J hg) hI)<|zo J (xf J J)<|bq J<|av<|am ?_;cases so h;exact aH J J

theorem VI(k:Int){R:Bool}(h:jD k=some R):aW aQ 279 [bN k] (iO R):=by
 refine aW.of Tryz.func279 J J J fun w0 S0=>aw<|zo J (jy)<|av<|aw<|aG J<|bB h fun r q_r h=>zo J (aB aby (VH _ q_r) ⟨(ht J),aS⟩)<|zo J (fj (ht J))<|bq J<|av<|am ?_;cases so h;exact aH J J

theorem Zn(b:Nat)(ix:OI)(c:aE)(n:aj){R:(List Int)×Bool}(h:gb c n=some R):dd aQ 202 [tV (aO b 0),tD aF n] (dD b c ix) (fun _:OI=>tT [mK R.1,iO R.2]) (fun _=>(dD b c ix)):=by
 refine dd.of Tryz.func202 J J J fun w0 S0=>?_;refine(show CG _ _ _ [bx (rH bn [(1,aT (ix.h 0).1 (ix.h 0).2 c.kinds.length),(2,aT (ix.h 1).1 (ix.h 1).2 c.first.length)]) 115 b c,dW od 39 (ix.h 0).1 (ix.h 0).2 c.kinds,dW ca 3 (ix.h 1).1 (ix.h 1).2 c.first] _ from ?_);refine aw<|zo J (js J)<|zo J (aM (show aJ _ _ _ xS from kE))<|zo J (jy)<|av<|aw<|zo J (aM (show aJ _ _ _ ((dR aQ Kb mA (fun(x:Int)=>jD x)))from(zJ abz fun x y h=>VI _ h)))<|av<|aw<|zo J (c9 vj m7 J J)<|zo J (bC cr J J)<|zo J (ir (ht J) hI)<|aG J<|dN J J (fun hg=>c9 vj m7 J J)<|dN J J (fun hg=>bI cr J J (bG J hg))<|dN J J (fun hg=>gx (bG J hg) hI)<|zo J (vn J J)<|aG J<|dN J J (fun hg=>c9 vi oC J J) ?_;refine dN J J (fun hg=>bI ea J J (bG J hg))<|dN J J (fun hg=>cC hX (bG J hg))<|dN J J (fun hg=>ir (bG J hg) hI)<|zo J (vn J J)<|aG J<|dN J J (fun hg=>c9 vi oC J J)<|dN J J (fun hg=>bI ea J J (bG J hg))<|dN J J (fun hg=>cC hX (bG J hg))<|dN J J (fun hg=>mY (bG J hg) hI)<|zo J (vn J J)<|bq J<|av<|ah<|bB h fun t q_t h=>?_
 obtain⟨r,h1t,h0t⟩:=og q_t
 have q_rg:=fun hb=>(h1t hb).1
 refine da (ts:=[_,_,_,_,_,_,_,_,_,_,_,_]) mixed J J
  ⟨eH 3 J J J (c9 vi oC J J),
  ⟨bZ 28 0 J J J (bC ea J J),
  ⟨eH 7 J J J (de J),
  ⟨bZ 30 2 J J J (de J),
  ⟨qN 3 31 3 J J J J (fm J J J J (fun hg=>c9 vi oC J J)),
  ⟨k7 32 4 31 3 J J J J (fm J J J J (fun hg=>bI ea J J (bG J hg))),
  ⟨qN 6 31 3 J J J J (fm J J J J (fun hg=>de J)),
  ⟨uF 33 5 34 6 31 3 J J J J J (fm J J J J (fun hg=>aB PK (Ej _ _ (q_rg hg)) ⟨(bG J hg),(bG J hg),aS⟩)),
  ⟨k7 35 7 31 3 J J J J (fm J J J J (fun hg=>fj (bG J hg))),
  ⟨d3 31 3 36 8 J J J J (eT (ht J) (fun hb=>(bG J hb)) (fun hb=>(h1t hb).2) h0t),
  ⟨bZ 29 1 J J J (vx J),
  ⟨bZ 37 9 J J J (vx J),
  aS⟩⟩⟩⟩⟩⟩⟩⟩⟩⟩⟩⟩ ?_
 refine ax<|am<|aL<|aL<|aL ?_;cases so h;exact d8 (ts:=[mK n.Kinds,iO t]) (rvs:=[.tmp 4,.tmp 5]) J J ⟨aZ J,aZ J,aS⟩ p7 J J

theorem SQ(n:Int){R:(List Int)}(h:lU n=some R):gp aQ 343 [tV (.slice none 0 0),bN n] false ca 3 R:=by
 refine gp.of Tryz.func343 J J J fun w0 S0=>aw<|bP false ca 3<|zo J (aM ud)<|av ?_;refine tz (Z:=mO n=some R) (Of:=[]) (Gf:=[(0,tV (.slice none 0 0)),(1,bN n)]) (fun h=>?_) (fun K=>?_)
 ·skip
  refine zw (Z:=fun s l c=>mN s=some R) (Of:=fun s l c=>[fE ca 3 l c s]) (Gf:=fun s l c=>[(0,sH l c s)]) (fun s l c h=>?_) (fun K1=>?_)
  ·skip
   refine aw<|aG J<|bq J<|av<|am ?_;cases so h;exact gC J J
  ·skip
   refine aw<|aG J<|aG J<|zo J (th hX (ht J))<|aG J<|zo J (tg hX (ht J))<|zo J (iq (ht J) (ht J))<|zo J (iq (ht J) (ht J))<|bq J<|av<|aw<|aG J<|zo J (fU (ht J) hI)<|av<|c0 h J (fun h=>?_) (fun h=>?_)
   ·refine au<|aG J<|aG J<|zo J (th hX (ht J))<|zo J (yo hX cr (ht J) (ht J))<|aG J<|bB h fun u q_u h=>bB h fun mk q_mk h=>AP (yE (r:=ca) (x:=(0:Int)) cr J J J J hX lk (fun _=>J) (ht J) (ht J) (FK q_u) q_mk) J fun i=>aG J<|zo J (tg hX (ht J))<|bB h fun y q_y h=>zo J (ly hX cr J (.head _) (ht J) (ht J) q_y)<|xc q_y<|bq J<|aP ?_;exact cF (K1 y (i.h 0).1 (i.h 0).2 h) (bu J)
   ·refine bA<|Gr false ca 3 ?_;exact cF (K1 vw none 0 h) (bu J)
 ·skip
  refine aw<|aG J<|zo J (gx (ht J) hI)<|av<|c0 h J (fun h=>?_) (fun h=>?_)
  ·refine au ?_;exact(nn h).elim
  ·refine bA<|bf ?_;exact cF (K h) (bu J)
theorem SR(slices:(List (List Int))){R:(List Int)}(h:ja slices=some R):gp aQ 281 [bW (od) slices] false ca 3 R:=by
 refine gp.of Tryz.func281 J J J fun w0 S0=>aw<|bP false ca 3<|zo J (aM ud)<|av<|aw<|zo J (cy)<|av<|ah<|aw<|aG J<|zo J (i7 wm J)<|zo J (bE hI)<|av<|ay<|ba (k:=9) J fun hN=>bL<|rL ?_;refine aR (nE (Z:=fun ls i size=>(slices.drop i=ls)∧ju slices ls size=some R) (Of:=fun _ i size=>[]) (Gf:=fun _ i size=>[(0,bW (od) slices),(3,bN size),(9,bW (od) slices),(10,jr slices),(11,bN (i:Int))]) (fun i size h=>?_) (fun e tl ih i size h=>?_) slices 0 (0:Int) ⟨J,h⟩) (bu J)
 ·obtain⟨hx,h⟩:=h
  refine aA<|aw<|zo J (fF J J)<|av<|ah<|bz (ht J) (dm hx)<|bv ?_;refine ai (ai (aN ?_));refine ax<|aw<|aG rfl<|bB h fun r q_r h=>jd abb (SQ _ q_r) ⟨hV,(ht J),aS⟩ J fun l c=>bq J<|av<|ah<|aw<|aG J<|zo J (i7 wm J)<|zo J (bE hI)<|av<|ay<|ba (k:=25) J fun hN1=>bL ?_;refine aR (j8 (Z:=fun ls1 i1 newslice l1 c1=>(slices.drop i1=ls1)∧jt ls1 newslice=some R) (Of:=fun _ i1 newslice l1 c1=>[fE ca 3 l1 c1 newslice]) (Gf:=fun _ i1 newslice l1 c1=>[(6,sH l1 c1 newslice),(25,bW (od) slices),(26,jr slices),(27,bN (i1:Int))]) (fun i1 newslice l1 c1 h=>?_) (fun e1 tl1 ih1 i1 newslice l1 c1 h=>?_) slices 0 r l c ⟨J,h⟩) (bu J)
  ·obtain⟨hx1,h⟩:=h
   refine aA<|aw<|zo J (fF J J)<|av<|ah<|bz (ht J) (dm hx1)<|bv ?_;refine ai (ai (aN ?_));refine ax<|aw<|aG rfl<|bq rfl<|av<|am ?_;cases so h;exact gC J J
  ·obtain⟨hx1,h⟩:=h
   refine aA<|aw<|zo J (fF J J)<|av<|ah<|bw (ht J) (dg hx1)<|dP<|ah<|ay<|aw<|zo J (mz wm ea J J J (cT hx1))<|zo J (bC ea J J)<|bq J<|av<|au<|aG J<|aG J<|bB h fun newslice1 q_newslice1 h=>db cr J J J J hX J J (ht J) (ht J) q_newslice1 fun l2 c2=>?_;refine bq J<|aP<|ap<|ax<|au<|zo rfl (lT (cx hx1 hN1) rfl)<|aG rfl<|aP ?_;exact bg (aR (ih1 (i1+1) newslice1 l2 c2 ⟨cw hx1,h⟩) (bu J))
 ·obtain⟨hx,h⟩:=h
  refine aA<|aw<|zo J (fF J J)<|av<|ah<|bw (ht J) (dg hx)<|dP<|ah<|ay<|aw<|zo J (mz wm ea J J J (cT hx))<|zo J (bC ea J J)<|bq J<|av<|aw<|aG J<|aG J<|zo J (i7 hX J) ?_;refine zo J (nY (ht J) (ht J))<|bq J<|av<|aw<|aG J<|zo J (gx (ht J) hI)<|av<|c0 h J (fun h=>?_) (fun h=>?_)
  ·refine au ?_;exact(nn h).elim
  ·refine bA<|ap<|ax<|au<|zo rfl (lT (cx hx hN) rfl)<|aG rfl<|aP ?_;exact bg (aR (ih (i+1) (IntKind.i64.wrap (size+(e.length:Int))) ⟨cw hx,h⟩) (bu J))
theorem VG(slices:(List (List Int))){R:(List Int)}(h:ja slices=some R):aW aQ 281 [bW (od) slices] (mK R):=(SR _ h).spec

theorem Ek(tag:Int){R:Int}(h:pK tag=some R):aW aQ 213 [bN tag] (bN R):=by
 refine aW.of Tryz.func213 J J J fun w0 S0=>aw<|zo J (cy)<|av<|ah<|ay<|aw<|aG J<|zo J (nX J)<|aG J<|eG J J (fun hg=>de J)<|eG J J (fun hg=>dx (bG J hg) hI)<|zo J (xf J J)<|bq J<|av<|c0 h J (fun h=>?_) (fun h=>?_)
 ·refine aw<|zo J (cy)<|av<|am ?_;refine aD (ae ?_);cases so h;exact aH J J
 ·refine aw<|aG J<|zo J (ir (ht J) hI)<|aG J<|dN J J (fun hg=>de J)<|dN J J (fun hg=>mY (bG J hg) hI)<|zo J (vn J J)<|bq J<|av<|c0 h J (fun h=>?_) (fun h=>?_)
  ·refine aw<|zo J (cy)<|av<|am ?_;refine aD (ae ?_);cases so h;exact aH J J
  ·refine aw<|aG J<|zo J (ir (ht J) hI)<|aG J<|dN J J (fun hg=>de J)<|dN J J (fun hg=>mY (bG J hg) hI)<|zo J (vn J J)<|bq J<|av<|c0 h J (fun h=>?_) (fun h=>?_)
   ·refine aw<|zo J (cy)<|av<|am ?_;refine aD (ae ?_);cases so h;exact aH J J
   ·refine bA<|ap<|ax<|aw<|zo rfl (cy)<|av<|am ?_;cases so h;exact aH J J

theorem V3(v:ac){R:ac}(h:xW v=some R):aW aQ 191 [tD af v] (tD af R):=by
 refine aW.of Tryz.func191 J J J fun w0 S0=>aw<|xd (ht J) J fun b=>aX (r:=af) (x:=iy) aI (fun _=>bk _) J fun b1=>av<|ah<|aw<|zo J (jY 0 iu J J J)<|zo J (ce cr J J cS (.tail _ (.head _)) (ht J))<|av ?_;refine H7 (Z:=fun v1=>kP v1=some R) (Of:=fun v1=>[bx af 46 b v1,bx af 46 b1 iy]) (Gf:=fun v1=>[(1,tV (aO b 0)),(2,tV (aO b1 0))]) (fun v1 h=>?_) (fun K=>?_)
 ·skip
  refine ax<|aw<|zo rfl (ce aI rfl rfl bU (.head _) (ht rfl))<|bH<|aq aI rfl an rfl (ht rfl) (ht rfl)<|aV 2 rfl<|av<|am<|bf ?_;cases so h;exact je J aI J J J
 ·skip
  refine ah<|ay<|ah<|ay<|ah ?_;refine H7 (Z:=fun v2=>qd v2=some R) (Of:=fun v2=>[bx af 46 b v2,bx af 46 b1 iy]) (Gf:=fun v2=>[(1,tV (aO b 0)),(2,tV (aO b1 0))]) (fun v2 h=>?_) (fun K1=>?_)
  ·skip
   refine ax<|aw<|zo rfl (jY 0 iu rfl rfl rfl)<|aq cr rfl oq rfl (ht rfl) hI<|av<|bv ?_;refine ck J (ai (ck J (ai (aN ?_))));exact cF (K (ac.mk (0:Int) v2.N v2.U v2.S) h) (bu J)
  ·skip
   refine ah ?_;refine Rj (Z:=qc v=some R) (Of:=[bx af 46 b v,bx af 46 b1 iy]) (Gf:=[(1,tV (aO b 0)),(2,tV (aO b1 0))]) (fun h=>?_) (fun K2=>?_)
   ·skip
    refine ax<|au<|zo rfl (jY 1 ml rfl rfl rfl)<|aq Gx rfl pC rfl (ht rfl) hI<|aP<|ap ?_;exact cF (K1 (ac.mk v.Kind (0:Int) v.U v.S) h) (bu J)
   ·skip
    refine ah<|ay<|ah<|ah<|aw<|zo J (nX J)<|bq J<|av<|c0 h J (fun h=>?_) (fun h=>?_)
    ·refine bv ?_;refine ai (ai (aN ?_));refine ax<|aw<|zo rfl (jY 1 ml rfl rfl rfl)<|zo rfl (ce Gx rfl rfl fI (.tail _ (.head _)) (ht rfl))<|zo rfl (s8 rfl)<|aG rfl<|dN rfl rfl (fun hg=>jY 1 ml J J J)<|dN J J (fun hg=>ce Gx J J fI (.tail _ (.head _)) (bG J hg))<|dN J J (fun hg=>ft (bG J hg) hI)<|zo J (vn J J)<|av<|c0 h J (fun h=>?_) (fun h=>?_)
     ·refine bv ?_;refine ck J (ai (ck J (ai (ck J (ai (ck J (ai (aN ?_))))))));refine bD ?_;exact cF (K v h) (bu J)
     ·refine bA<|ap<|bD ?_;exact cF (K2 h) (bu J)
    ·refine dP<|ah<|aw<|zo J (nX J)<|bq J<|av<|c0 h J (fun h=>?_) (fun h=>?_)
     ·refine bv ?_;refine ai (ai (ck J (ai (aN ?_))));refine bD ?_;exact cF (K2 h) (bu J)
     ·refine dP<|ah<|aw<|zo J (nX J)<|bq J<|av<|c0 h J (fun h=>?_) (fun h=>?_)
      ·refine bv ?_;refine ai (ai (ck J (ai (ck J (ai (aN ?_))))));refine bD ?_;exact cF (K1 v h) (bu J)
      ·refine dP<|ah<|aw<|zo J (nX J)<|bq J<|av<|c0 h J (fun h=>?_) (fun h=>?_)
       ·refine bv ?_;refine ai (ai (ck J (ai (ck J (ai (ck J (ai (aN ?_))))))));refine ax ?_;refine kL (Z:=fun v3=>qb v3=some R) (Of:=fun v3=>[bx af 46 b v3,bx af 46 b1 iy]) (Gf:=fun v3=>[(1,tV (aO b 0)),(2,tV (aO b1 0))]) (fun v3 h=>?_) (fun K3=>?_)
        ·skip
         refine bv ?_;refine ck J (ai (aN ?_));exact cF (K v3 h) (bu J)
        ·skip
         refine aw<|zo J (jY 3 yC J J J)<|zo J (ce Um J J oA (.tail _ (.head _)) (ht J))<|zo J (IY Db (ht J))<|zo J (mY (ht J) hI)<|av<|c0 h J (fun h=>?_) (fun h=>?_)
         ·refine au<|zo J (jY 0 iu J J J)<|bH<|aq cr J oq J (ht J) hI<|zo J (jY 3 yC J J J)<|aq Um J MO J (ht J) hS<|aP ?_;exact cF (K3 (ac.mk (0:Int) v.N v.U ([])) h) (bu J)
         ·refine bA<|bD ?_;exact cF (K3 v h) (bu J)
       ·refine dP<|aw<|zo J (nX J)<|bq J<|av<|c0 h J (fun h=>?_) (fun h=>?_)
        ·refine bv ?_;refine ai (ck J (ai (ck J (ai (ck J (ai (ck J (ai (aN ?_)))))))));refine ax<|aw<|zo rfl (jY 0 iu rfl rfl rfl)<|bH<|aq cr rfl oq rfl (ht rfl) hI<|zo rfl (jY 1 ml rfl rfl rfl)<|aq Gx rfl pC rfl (ht rfl) hI<|zo rfl (jY 2 CI rfl rfl rfl)<|aq MK rfl Av rfl (ht rfl) hI<|av<|bv<|aN ?_;exact cF (K (ac.mk (0:Int) (0:Int) (0:Int) v.S) h) (bu J)
        ·refine dP<|bv ?_;refine ck J (ai (ck J (ai (ck J (ai (ck J (ai (ck J (ai (aN ?_))))))))));refine bD ?_;exact cF (K v h) (bu J)

theorem BL(v:ac){R:Int}(h:lr v=some R):aW aQ 111 [tD af v] (bN R):=by
 refine aW.of Tryz.func111 J J J fun w0 S0=>aw<|zo J (js J)<|zo J (cy)<|av<|ah<|aw<|zo J (bC aI J J)<|bB h fun r q_r h=>zo J (aB ab5 (V3 _ q_r) ⟨(ht J),aS⟩)<|zo J (bY (y:=iy) aI qO bk (J))<|zo J (IV QS (ht J) (ht J))<|av<|c0 h J (fun h=>?_) (fun h=>?_)
 ·refine aw<|zo J (cy)<|av<|am<|ae ?_;cases so h;exact aH J J
 ·refine dP<|aw<|zo J (cy)<|av<|am ?_;cases so h;exact aH J J

theorem El(v:ac){R:Bool}(h:mC v=some R):aW aQ 182 [tD af v] (iO R):=by
 refine aW.of Tryz.func182 J J J fun w0 S0=>aw<|zo J (js J)<|zo J (jy)<|av<|aw<|zo J (bC aI J J)<|bB h fun r q_r h=>zo J (aB LZ (BL _ q_r) ⟨(ht J),aS⟩)<|zo J (nX J)<|aG J<|dN J J (fun hg=>c9 iu cS J J)<|dN J J (fun hg=>bI cr J J (bG J hg))<|dN J J (fun hg=>ft (bG J hg) hI)<|zo J (vn J J)<|bq J<|av<|am ?_;cases so h;exact aH J J

theorem V0(n:bp){R:Bool}(h:uX n=some R):aW aQ 214 [tD bO n] (iO R):=by
 refine aW.of Tryz.func214 J J J fun w0 S0=>aw<|zo J (js J)<|zo J (jy)<|av<|ah<|aw<|zo J (c9 qu iM J J)<|zo J (bC cr J J)<|av<|ay<|aw<|zo J (nX J)<|bq J<|av<|c0 h J (fun h=>?_) (fun h=>?_)
 ·refine aw<|zo J (c9 CE rh J J)<|zo J (bC aI J J)<|bB h fun r q_r h=>zo J (aB PM (El _ q_r) ⟨(ht J),aS⟩)<|aG J<|dN J J (fun hg=>c9 AF pJ J J)<|dN J J (fun hg=>bI cr J J (bG J hg))<|dN J J (fun hg=>dx (bG J hg) hI)<|zo J (vn J J)<|bq J<|av<|am ?_;refine aD (ae ?_);cases so h;exact aH J J
 ·refine aw<|zo J (nX J)<|bq J<|av<|c0 h J (fun h=>?_) (fun h=>?_)
  ·refine aw<|zo J (c9 CE rh J J)<|zo J (bC aI J J)<|zo J (bY (y:=iy) aI qO bk (J))<|zo J (Eb QS (ht J) (ht J))<|aG J<|dN J J (fun hg=>c9 AF pJ J J)<|dN J J (fun hg=>bI cr J J (bG J hg))<|dN J J (fun hg=>ir (bG J hg) hI)<|zo J (vn J J)<|aG J<|dN J J (fun hg=>c9 AF pJ J J)<|dN J J (fun hg=>bI cr J J (bG J hg))<|dN J J (fun hg=>gx (bG J hg) hI)<|zo J (vn J J)<|bq J<|av<|am ?_;refine aD (ae ?_);cases so h;exact aH J J
  ·refine bA<|ap<|ax<|aw<|zo rfl (c9 CE rh rfl rfl)<|zo rfl (bC aI rfl rfl)<|zo rfl (bY (y:=iy) aI qO bk (J))<|zo J (Eb QS (ht J) (ht J))<|aG J<|dN J J (fun hg=>c9 AF pJ J J)<|dN J J (fun hg=>bI cr J J (bG J hg))<|dN J J (fun hg=>dx (bG J hg) hI)<|zo J (vn J J)<|bq J<|av<|am ?_;cases so h;exact aH J J

theorem Ws(e:bJ){R:(List Int)×Bool}(h:yD e=some R):aW aQ 129 [tD co e] (tT [mK R.1,iO R.2]):=by
 refine aW.of Tryz.func129 J J J fun w0 S0=>aw<|zo J (js J)<|zo J (aM (show aJ _ _ _ xS from kE))<|zo J (jy)<|av<|aw<|bP false ca 3<|zo J (aM ud)<|bP false ca 3<|zo J (aM ud)<|av<|ah<|aw<|zo J (c9 qx mj J J)<|zo J (bC Bf J J)<|zo J (i7 xw J)<|zo J (bE hI)<|aP ?_;refine ax<|ay<|ba (k:=15) J fun hN=>bL<|im ?_;refine aR (Ml (Z:=fun ls i all l c open1 l1 c1=>(e.Nodes.drop i=ls)∧kX ls i all open1=some R) (Of:=fun _ i all l c open1 l1 c1=>[fE ca 3 l c all,fE ca 3 l1 c1 open1]) (Gf:=fun _ i all l c open1 l1 c1=>[(4,sH l c all),(5,sH l1 c1 open1),(15,bW (bO) e.Nodes),(16,jr e.Nodes),(17,bN (i:Int))]) (fun i all l c open1 l1 c1 h=>?_) (fun e1 tl ih i all l c open1 l1 c1 h=>?_) e.Nodes 0 vw none 0 vw none 0 ⟨J,h⟩) (bu J)
 ·obtain⟨hx,h⟩:=h
  refine aA<|aw<|zo J (fF J J)<|av<|ah<|bz (ht J) (dm hx)<|bv ?_;refine ai (ai (aN ?_));refine ax<|aw<|aG rfl<|aG rfl<|zo rfl (jO hX (.tail _ (.head _)) (ht rfl))<|zo rfl (nX rfl)<|aG rfl<|dN rfl rfl (fun hg=>de J)<|dN J J (fun hg=>jO hX (.head _) (bG J hg))<|dN J J (fun hg=>mY (bG J hg) hI)<|zo J (vn J J)<|bq J<|bq J<|av<|am<|jQ<|cG 4 J<|cG 84 J<|cG 2 J<|jR 2 J<|bf<|bf ?_;cases so h;exact cP J J J
 ·obtain⟨hx,h⟩:=h
  refine aA<|aw<|zo J (fF J J)<|av<|ah<|bw (ht J) (dg hx)<|dP<|ah<|ay<|aw<|aG J<|zo J (mz xw p8 J J J (cT hx))<|zo J (bC p8 J J)<|aX (r:=bO) (x:=Rt) p8 (fun _=>vv _) J fun b=>bq J<|aq p8 J an J (ht J) (ht J)<|aV 7 J<|av<|ah ?_;refine au<|zo J (c9 qu iM J J)<|zo J (bC cr J J)<|bB h fun r q_r h=>zo J (aB PL (Ek _ q_r) ⟨(ht J),aS⟩)<|bq J<|av<|ah<|aw<|aG J<|zo J (gx (ht J) hI)<|aG J<|eG J J (fun hg=>de J)<|eG J J (fun hg=>de J)<|eG J J (fun hg=>jO hX (.tail _ (.head _)) (bG J hg))<|eG J J (fun hg=>fU (bG J hg) (bG J hg))<|zo J (xf J J)<|aG J<|bB h fun t q_t h=>eG J J (fun hg=>bC p8 J J) ?_
  obtain⟨r1,h1t,h0t⟩:=og q_t
  have q_r1g:=fun hb=>(h1t hb).1
  refine eG J J (fun hg=>aB abS (V0 _ (q_r1g hg)) ⟨(bG J hg),aS⟩)<|eG J J (fun hg=>fj (bG J hg))<|zo J (gZ (ht J) (fun hb=>(bG J (wK hb))) (fun hb=>(h1t hb).2) h0t)<|av<|c0 h J (fun h=>?_) (fun h=>?_)
  ·refine aw<|zo J (aM (show aJ _ _ _ xS from kE))<|zo J (jy)<|av<|am ?_;refine ae (aD (ae (ae (aD (ae ?_)))));refine bf<|bf ?_;cases so h;exact cP J J J
  ·refine dP<|aw<|aG J<|aG J<|zo J (jO hX (.tail _ (.head _)) (ht J))<|aG J<|zo J (iq (ht J) (ht J))<|bB h fun y q_y h=>zo J (ox hX cr J (.tail _ (.head _)) (ht J) (ht J) q_y)<|nl (.tail _ (.head _)) q_y fun hv=>bq J<|av<|aw<|zo J (Hw (r:=ca) (ys:=[va,va]) (xs:=[.const (.int .i64 (-1)),.const (.int .i64 (-1))]) Tryz.underlying243 cr J Kn J J ⟨hI,hI,aS⟩)<|aX (r:=(vg ca 2)) (x:=(List.replicate 2 (0:Int))) Kn (fun _=>TG (r:=ca) 2 (fun _=>J) _) J fun b1=>aq Kn J an J (ht J) (ht J)<|av<|aw ?_;refine aG J<|bq J<|av<|ah<|aw<|aG J<|zo J (UJ hX (.tail _ (.tail _ (.head _))) q_y (ht J))<|zo J (bE hI)<|av<|ay ?_
   have hN1:=hv.2
   refine bL<|rt<|rt ?_;refine aR (wd (Z:=fun ls1 i1 first at1=>(y.drop i1=ls1)∧mo (kX tl) i e1 all open1 r ls1 i1 first at1=some R) (Of:=fun _ i1 first at1=>[fE ca 3 l c all,fE ca 3 l1 c1 open1,bx (vg ca 2) 243 b1 at1]) (Gf:=fun _ i1 first at1=>[(4,sH l c all),(5,sH l1 c1 open1),(6,bN (i:Int)),(7,bM bO e1),(8,bN r),(10,tV (aO b1 0)),(11,bN first),(15,bW (bO) e.Nodes),(16,jr e.Nodes),(17,bN (i:Int)),(46,tV (o4 1 l1 c1 (IntKind.i64.wrap ((open1.length:Int)-r)).toNat y.length)),(47,jr y),(48,bN (i1:Int))]) (fun i1 first at1 h=>?_) (fun e2 tl1 ih1 i1 first at1 h=>?_) y 0 (i:Int) ([va,va]) ⟨J,h⟩) (bu J)
   ·obtain⟨hx1,h⟩:=h
    refine aA<|aw<|zo J (fF J J)<|av<|ah<|bz (ht J) (dm hx1)<|bv ?_;refine ai (ai (aN ?_));refine ax<|ah<|aw<|zo rfl (ce Kn rfl rfl bU (.tail _ (.tail _ (.head _))) (ht rfl))<|zo rfl (c9 YV NN rfl rfl)<|zo rfl (bC cr rfl rfl)<|zo rfl (c9 YU NM rfl rfl)<|zo rfl (bC cr rfl rfl)<|zo rfl (Hw (r:=ca) (ys:=[e1.L,e1.R]) (xs:=[.tmp 65,.tmp 67]) Tryz.underlying243 cr J Kn J J ⟨(ht J),(ht J),aS⟩)<|zo J (IV aaR (ht J) (ht J))<|av<|c0 h J (fun h=>?_) (fun h=>?_)
    ·refine aw<|zo J (aM (show aJ _ _ _ xS from kE))<|zo J (jy)<|av<|am ?_;refine ae (aD (ae (ae (aD (ae ?_)))));refine bf<|bf<|bf ?_;cases so h;exact cP J J J
    ·refine dP<|aw<|aG J<|aG J<|zo J (aU (r:=ca) (ys:=[first]) (xs:=[.tmp 71]) hX cr J J J J J ⟨(ht J),aS⟩)<|bB h fun all1 q_all1 h=>db cr J J J J hX J J (ht J) (ht J) q_all1 fun l2 c2=>bq J<|av<|au<|aG J<|aG J<|zo J (jO hX (.tail _ (.head _)) (ht J))<|aG J<|zo J (iq (ht J) (ht J))<|bB h fun y1 q_y1 h=>zo J (ly hX cr J (.tail _ (.head _)) (ht J) (ht J) q_y1)<|aG J<|zo J (aU (r:=ca) (ys:=[(i:Int)]) (xs:=[.tmp 80]) hX cr J J J J J ⟨(ht J),aS⟩)<|bH<|xc q_y1 ?_;refine bB h fun open2 q_open2 h=>db cr J J J J hX J J (ht J) (ht J) q_open2 fun l3 c3=>bq J<|aP<|ap<|ax<|au<|zo rfl (lT (cx hx hN) rfl)<|aG rfl<|aP<|aL<|bf<|bD ?_;exact bg (aR (ih (i+1) all1 l2 c2 open2 l3 c3 ⟨cw hx,h⟩) (bu J))
   ·obtain⟨hx1,h⟩:=h
    refine aA<|aw<|zo J (fF J J)<|av<|ah<|bw (ht J) (dg hx1)<|dP<|ah<|ay<|aw<|aG J<|zo J (GJ hX cr J (.tail _ (.head _)) q_y (ht J) (ht J) (cT hx1))<|zo J (gG (r:=ca) (i:=((IntKind.i64.wrap ((open1.length:Int)-r))+(i1:Int))) (foff:=0) cr J J bU J (.tail _ (.head _)) (ER q_y (cT hx1)).1 (ht J))<|bq J<|bq J<|av<|bB h fun e3 q_e3 h=>bB h fun e4 q_e4 h=>bB h fun ar q_ar h=>?_
    refine pn 10 [tc (bN (i1:Int)),tc (bN e2),tc (bN first),tc (sH l c all),tc (bN e2),tc (tV (qa l (e2.toNat*1+0))),tc (bN e3),tc (bN (min first e3)),tc (tV (aO b1 ((i1:Int).toNat*1))),tc (DW)] [false,false,false,false,false,false,false,false,false,true] [fun _=>[fE ca 3 l c all,fE ca 3 l1 c1 open1,bx (vg ca 2) 243 b1 at1],fun sg=>[bx (vg ca 2) 243 b1 ar,fE ca 3 l c all,fE ca 3 l1 c1 open1]] J mixed J J J J J
     ⟨⟨[⟨12,fun _=>tD ca (i1:Int),none⟩],_,0,0,J,⟨(fun _=>J),aS⟩,J,J,J,J,J,fun _ sg _ _=>aC J (de J)⟩,
     ⟨⟨[⟨13,fun _=>tD ca e2,none⟩],_,0,0,J,⟨(fun _=>J),aS⟩,J,J,J,J,J,fun _ sg _ _=>aC J (de J)⟩,
     ⟨⟨[⟨11,fun _=>tD ca first,none⟩],_,0,1,J,⟨(fun _=>J),aS⟩,J,J,J,J,J,fun _ sg _ _=>aC J (de J)⟩,
     ⟨⟨[⟨4,fun _=>tV (aT l c all.length),none⟩],_,0,1,J,⟨(fun _=>J),aS⟩,J,J,J,J,J,fun _ sg _ _=>aC J (de J)⟩,
     ⟨⟨[⟨13,fun _=>tD ca e2,none⟩],_,0,1,J,⟨(fun _=>J),aS⟩,J,J,J,J,J,fun _ sg _ _=>aC J (de J)⟩,
     ⟨⟨[⟨56,fun _=>tV (aT l c all.length),some 3⟩,⟨57,fun _=>tD ca e2,some 4⟩],_,0,1,J,⟨(fun _=>J),(fun _=>J),aS⟩,J,J,J,J,J,Gv (fun sg=>aC J (cM hX cr (.head _) (ht J) (ht J) q_e3)) (Ar (fun sg=>aC J (cM hX cr (.tail _ (.head _)) (ht J) (ht J) q_e3)))⟩,
     ⟨⟨[⟨58,fun _=>tV (qa l (e2.toNat*1+0)),some 5⟩],_,0,1,J,⟨(fun _=>J),aS⟩,J,J,J,J,J,Gv (fun sg=>aC J (gG (r:=ca) (i:=e2) (foff:=0) cr J J bU J (.head _) q_e3 (ht J))) (Ar (fun sg=>aC J (gG (r:=ca) (i:=e2) (foff:=0) cr J J bU J (.tail _ (.head _)) q_e3 (ht J))))⟩,
     ⟨⟨[⟨55,fun _=>tD ca first,some 2⟩,⟨59,fun _=>tD ca e3,some 6⟩],_,0,1,J,⟨(fun _=>J),(fun _=>J),aS⟩,J,J,J,J,J,fun _ sg _ _=>aC J (IX (ht J) (ht J))⟩,
     ⟨⟨[⟨10,fun _=>tV (aO b1 0),none⟩,⟨53,fun _=>tD ca (i1:Int),some 0⟩],_,0,0,J,⟨(fun _=>J),(fun _=>J),aS⟩,J,J,J,J,J,Ar (fun sg=>aC J (GI Tryz.underlying243 cr (.tail _ (.tail _ (.head _))) (ht J) (ht J) q_e4))⟩,
     ⟨⟨[⟨61,fun _=>tV (aO b1 ((i1:Int).toNat*1)),some 8⟩,⟨54,fun _=>tD ca e2,some 1⟩],_,J,⟨(fun _=>J),(fun _=>J),aS⟩,J,J,J,fun sg=>eC J (EffOK.fr2 (N4 cr J q_e4 (so q_ar) (ht J) (ht J)))⟩,
     aS⟩⟩⟩⟩⟩⟩⟩⟩⟩⟩ (fun sg=>?_)
    refine(show RG _ _ _ _ [bx (vg ca 2) 243 b1 ar,fE ca 3 l c all,fE ca 3 l1 c1 open1] _ from ?_);refine bq J<|aP<|ap<|ax<|au<|zo rfl (lT (cx hx1 hN1) rfl)<|aG rfl<|aP<|aL<|aL ?_;exact bg (aR (ih1 (i1+1) (min first e3) ar ⟨cw hx1,h⟩) (bu J))

end Go.Proofs.YtfhhakidodmdfaaGreatDoor

