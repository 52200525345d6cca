/- db of this claim: P0. -/
import Derived.Test.YtfhhakidodmdfaaGreatDoorJbT
import Derived.Test.YtfhhakidodmdfaaGreatDoorJbF
set_option linter.all false
namespace Go.Proofs.YtfhhakidodmdfaaGreatDoor
open Go
abbrev Xj:=fun(mc:aE) (mx:am)=>(eX mc mx).map fun mr=>(mr,mc)
abbrev Xi:=fun(mc:aE) (mx:am)=>(gS mc mx).map fun mr=>(mr,mc)
abbrev Xn:=fun(mc:aE) (mx:am)=>(fT mc mx).map fun mr=>(mr,mc)
abbrev Xk:=fun(mc:aE) (mx:am)=>(gx mc mx).map fun mr=>(mr,mc)
abbrev Xo:=fun(mc:aE) (mx:am)=>(fy mc mx).map fun mr=>(mr,mc)
abbrev Xp:=fun(mc:aE) (mx:am)=>(eZ mc mx).map fun mr=>(mr,mc)
abbrev Xm:=fun(mc:aE) (mx:am)=>(gv mc mx).map fun mr=>(mr,mc)
abbrev Xl:=fun(mc:aE) (mx:am)=>(gw mc mx).map fun mr=>(mr,mc)
abbrev Lr:=du (du (du (du (du (du (du (du ([]:List (Int×(aE→am→Option (((List Int)×Bool)×aE)))) (1:Int) Xj) (2:Int) Xi) (3:Int) Xn) (4:Int) Xk) (5:Int) Xo) (6:Int) Xp) (7:Int) Xm) (8:Int) Xl
abbrev Xb:=fun(mc:cT) (mx:am)=>(kS mc mx).map fun mr=>(mr,mc)
abbrev Xa:=fun(mc:cT) (mx:am)=>(jE mc mx).map fun mr=>(mr,mc)
abbrev Xf:=fun(mc:cT) (mx:am)=>(jz mc mx).map fun mr=>(mr,mc)
abbrev Xc:=fun(mc:cT) (mx:am)=>(i8 mc mx).map fun mr=>(mr,mc)
abbrev Xg:=fun(mc:cT) (mx:am)=>(i7 mc mx).map fun mr=>(mr,mc)
abbrev Xh:=fun(mc:cT) (mx:am)=>(iE mc mx).map fun mr=>(mr,mc)
abbrev Xe:=fun(mc:cT) (mx:am)=>(kh mc mx).map fun mr=>(mr,mc)
abbrev Xd:=fun(mc:cT) (mx:am)=>(ki mc mx).map fun mr=>(mr,mc)
abbrev Qr:=du (du (du (du (du (du (du (du ([]:List (Int×(cT→am→Option (((List (List ac))×Int)×cT)))) (1:Int) Xb) (2:Int) Xa) (3:Int) Xf) (4:Int) Xc) (5:Int) Xg) (6:Int) Xh) (7:Int) Xe) (8:Int) Xd
abbrev ie:=(⟨(0:Int),(0:Int),(0:Int),[]⟩:ac)
abbrev dj:=fW af
abbrev qh:=fun(x:ac×ac)=>[tD af x.1,tD af x.2]
abbrev sK:=fun(x:ac×Int)=>tT [tD af x.1,bM x.2]
abbrev pg:=fun(x:am)=>[tD aI x]
abbrev By:=(⟨[]⟩:br)
abbrev Ho:=(⟨(0:Int),(0:Int),(0:Int),(0:Int),[],false,By,[],[],[],[],(0:Int)⟩:am)
abbrev bX:=rI .i64
abbrev FJ:=fun(x:(List ac)×(List ac))=>[ca (af) x.1,ca (af) x.2]
abbrev oA:=fun(x:(List Int)×Bool)=>tT [lW x.1,ig x.2]
abbrev ko:=fun(x:Bool)=>ig x
abbrev qj:=fun(x:(List (List ac))×Int)=>tT [ca (dj) x.1,bM x.2]
abbrev C1:=fun(x:ac×Int)=>tT [tD af x.1,tD bX x.2]
abbrev dT:=fW dj
abbrev I8:=fun(x:br)=>[tD bT x]
noncomputable abbrev O3:=dn aO I8 ko (fun(x:br)=>gj x)
abbrev An:=fun(x:ac)=>[tD af x]
abbrev yy:=fun(x:Int)=>bM x
abbrev Bz:=fun(x:Bool)=>tD rB x
abbrev nu:=kvI .i64
abbrev Qq:=(⟨(0:Int),(0:Int),(0:Int),(0:Int),ie⟩:aX)
abbrev vA:=ca (dj) ([])
abbrev uL:=([]:List Int)
abbrev S8:=fun(x:aX×(List ac))=>[tD bG x.1,ca (af) x.2]
abbrev Qp:=(⟨(1:Int),(0:Int),(0:Int),[]⟩:ac)
abbrev S7:=fun(x:aX×(List ac))=>[tD bG x.1,tD dj x.2]
abbrev S6:=fun(x:aX×(List Int))=>[tD bG x.1,lW x.2]
abbrev Hr:=([]:List (List ac))
abbrev I7:=fun(x:Int)=>[bM x]
abbrev wM:=fW bX
abbrev W0:=fun(x:aX×(List Int))=>[tD bG x.1,tD wM x.2]
abbrev WZ:=fun(x:(List ac)×(List ac))=>[tD dj x.1,tD dj x.2]
abbrev S5:=fun(x:Int×Int)=>tT [bM x.1,bM x.2]
abbrev vz:=(-1:Int)
abbrev Hq:=([]:List ac)
abbrev Qo:=fun(x:gL)=>[tD gG x]
abbrev Qn:=fun(x:ea)=>[tD eg x]
abbrev wN:=lW ([])
abbrev I6:=(⟨[]⟩:bN)
abbrev Qm:=(⟨(1:Int),By⟩:ea)
abbrev S4:=fun(x:aX)=>[tD bG x]
abbrev WY:=fun(x:Int×Int)=>tT [tD bX x.1,tD bX x.2]
abbrev OZ:=([]:List (List Int))
abbrev S3:=fun(x:Int)=>tD bX x
abbrev SZ:=(⟨[],[]⟩:ic)
abbrev WX:=(⟨(0:Int),By⟩:ea)
abbrev Hp:=rI .u64
set_option maxRecDepth 100000

theorem Uz(s:(List Int))(f:(Int→Option Bool)){R:Int}(h:ln s f=some R):aU aO 321 [lW s,(dn aO I7 ko (fun(x:Int)=>f x))] (bM R):=by
 refine aU.of Tryz.func321 J J J fun w0 S0=>au<|zo J (cw)<|aq<|ah<|au<|aF J<|zo J (iM gM J)<|zo J (bD hI)<|aq<|ay<|ba (k:=6) J fun hN=>bI ?_;refine aS (dQ (Z:=fun ls i=>(s.drop i=ls)∧fE f ls i=some R) (Of:=fun _ i=>[]) (Gf:=fun _ i=>[(0,lW s),(1,(dn aO I7 ko (fun(x:Int)=>f x))),(7,jk s),(8,bM (i:Int))]) (fun i h=>?_) (fun e tl ih i h=>?_) s 0 ⟨J,h⟩) (bv J)
 ·obtain⟨hx,h⟩:=h
  refine aC<|au<|zo J (fD J J)<|aq<|ah<|bz (ht J) (di hx)<|bu ?_;refine ai (ai (aN ?_));refine aw<|au<|zo rfl (cw)<|aq<|ak ?_;cases so h;exact aG J J
 ·obtain⟨hx,h⟩:=h
  refine aC<|au<|zo J (fD J J)<|aq<|ah<|bw (ht J) (dg hx)<|dS<|ah<|ay<|au<|aF J<|bp J<|aq<|au<|aF J<|aF J<|aF J<|zo J (lX gM cr J J J (cS hx)) ?_;refine zo J (bB cr J J)<|bC h fun r q_r h=>zo J (fJ (args:=(fun(x:Int)=>[tD bX x])) (res:=Bz) (f:=(fun(x:Int)=>f x)) (x:=((e):Int)) (ht J) q_r ⟨(ht J),aT⟩)<|aq<|c9 h J (fun h=>?_) (fun h=>?_)
  ·refine au<|aF J<|bp J<|aq<|ak ?_;refine aA (ae (ae (aA (ae ?_))));cases so h;exact aG J J
  ·refine bA<|ap<|aw<|av<|zo rfl (lY (cA hx hN) rfl)<|aF rfl<|aQ ?_;exact bf (aS (ih (i+1) ⟨cz hx,h⟩) (bv J))

theorem Dp(s:(List Int))(f:(Int→Option Bool)){R:Bool}(h:cx s f=some R):aU aO 258 [lW s,(dn aO I7 ko (fun(x:Int)=>f x))] (ig R):=by
 refine aU.of Tryz.func258 J J J fun w0 S0=>au<|zo J (jj)<|aq<|au<|aF J<|aF J<|bC h fun r q_r h=>zo J (aD aav (Uz _ _ q_r) ⟨(ht J),(ht J),aT⟩)<|zo J (iu (ht J) hI)<|bp J<|aq<|ak ?_;cases so h;exact aG J J

theorem UG(k:Int){R:Bool}(h:CD k=some R):aU aO 280 [bM k] (ig R):=by
 refine aU.of Tryz.func280 J J J fun w0 S0=>au<|zo J (jj)<|aq<|au<|aF J<|zo J (np J)<|aF J<|gD J J (fun hg=>dA J)<|gD J J (fun hg=>dL (bK J hg) hI)<|zo J (yO J J)<|aF J<|gD J J (fun hg=>dA J)<|gD J J (fun hg=>dL (bK J hg) hI)<|zo J (yO J J)<|bp J<|aq<|ak ?_;cases so h;exact aG J J

theorem UH(k:Int){R:Bool}(h:jr k=some R):aU aO 279 [bM k] (ig R):=by
 refine aU.of Tryz.func279 J J J fun w0 S0=>au<|zo J (jj)<|aq<|au<|aF J<|bC h fun r q_r h=>zo J (aD aaC (UG _ q_r) ⟨(ht J),aT⟩)<|zo J (fS (ht J))<|bp J<|aq<|ak ?_;cases so h;exact aG J J

theorem Yp(b:Nat)(ix:OI)(c:aE)(n:am){R:(List Int)×Bool}(h:eX c n=some R):c0 aO 202 [tV (aP b 0),tD aI n] (dB b c ix) (fun _:OI=>tT [lW R.1,ig R.2]) (fun _=>(dB b c ix)):=by
 refine c0.of Tryz.func202 J J J fun w0 S0=>?_;refine(show CG _ _ _ [bx (rH bk [(1,aR (ix.h 0).1 (ix.h 0).2 c.kinds.length),(2,aR (ix.h 1).1 (ix.h 1).2 c.first.length)]) 115 b c,dV nw 39 (ix.h 0).1 (ix.h 0).2 c.kinds,dV bX 3 (ix.h 1).1 (ix.h 1).2 c.first] _ from ?_);refine au<|zo J (je J)<|zo J (aL (show aJ _ _ _ wN from j9))<|zo J (jj)<|aq<|au<|zo J (aL (show aJ _ _ _ ((dn aO I7 ko (fun(x:Int)=>jr x)))from(yF aaD fun x y h=>UH _ h)))<|aq<|au<|zo J (cW uC mC J J)<|zo J (bB cr J J)<|zo J (iu (ht J) hI)<|aF J<|dC J J (fun hg=>cW uC mC J J)<|dC J J (fun hg=>bJ cr J J (bK J hg))<|dC J J (fun hg=>gJ (bK J hg) hI)<|zo J (uK J J)<|aF J<|dC J J (fun hg=>cW uB nS J J) ?_;refine dC J J (fun hg=>bJ d9 J J (bK J hg))<|dC J J (fun hg=>dO gM (bK J hg))<|dC J J (fun hg=>iu (bK J hg) hI)<|zo J (uK J J)<|aF J<|dC J J (fun hg=>cW uB nS J J)<|dC J J (fun hg=>bJ d9 J J (bK J hg))<|dC J J (fun hg=>dO gM (bK J hg))<|dC J J (fun hg=>nN (bK J hg) hI)<|zo J (uK J J)<|bp J<|aq<|ah<|bC h fun t q_t h=>?_
 obtain⟨r,h1t,h0t⟩:=og q_t
 have q_rg:=fun hb=>(h1t hb).1
 refine cU (ts:=[_,_,_,_,_,_,_,_,_,_,_,_]) mixed J J
  ⟨fd 3 J J J (cW uB nS J J),
  ⟨bW 28 0 J J J (bB d9 J J),
  ⟨fd 7 J J J (dA J),
  ⟨bW 30 2 J J J (dA J),
  ⟨q5 3 31 3 J J J J (dY J J J J (fun hg=>cW uB nS J J)),
  ⟨lh 32 4 31 3 J J J J (dY J J J J (fun hg=>bJ d9 J J (bK J hg))),
  ⟨q5 6 31 3 J J J J (dY J J J J (fun hg=>dA J)),
  ⟨tK 33 5 34 6 31 3 J J J J J (dY J J J J (fun hg=>aD OG (Dp _ _ (q_rg hg)) ⟨(bK J hg),(bK J hg),aT⟩)),
  ⟨lh 35 7 31 3 J J J J (dY J J J J (fun hg=>fS (bK J hg))),
  ⟨d8 31 3 36 8 J J J J (d4 (ht J) (fun hb=>(bK J hb)) (fun hb=>(h1t hb).2) h0t),
  ⟨bW 29 1 J J J (uM J),
  ⟨bW 37 9 J J J (uM J),
  aT⟩⟩⟩⟩⟩⟩⟩⟩⟩⟩⟩⟩ ?_
 refine aw<|ak<|aK<|aK<|aK ?_;cases so h;exact d7 (ts:=[lW n.Kinds,ig t]) (rvs:=[.tmp 4,.tmp 5]) J J ⟨bc J,bc J,aT⟩ pE J J

theorem RN(n:Int){R:(List Int)}(h:lz n=some R):f9 aO 343 [tV (.slice none 0 0),bM n] false bX 3 R:=by
 refine f9.of Tryz.func343 J J J fun w0 S0=>au<|bQ false bX 3<|zo J (aL s9)<|aq ?_;refine vo (Z:=mi n=some R) (Of:=[]) (Gf:=[(0,tV (.slice none 0 0)),(1,bM n)]) (fun h=>?_) (fun K=>?_)
 ·skip
  refine yo (Z:=fun s l c=>mh s=some R) (Of:=fun s l c=>[fx bX 3 l c s]) (Gf:=fun s l c=>[(0,rL l c s)]) (fun s l c h=>?_) (fun K1=>?_)
  ·skip
   refine au<|aF J<|bp J<|aq<|ak ?_;cases so h;exact gm J J
  ·skip
   refine au<|aF J<|aF J<|zo J (sx gM (ht J))<|aF J<|zo J (sw gM (ht J))<|zo J (jp (ht J) (ht J))<|zo J (jp (ht J) (ht J))<|bp J<|aq<|au<|aF J<|zo J (gu (ht J) hI)<|aq<|c9 h J (fun h=>?_) (fun h=>?_)
   ·refine av<|aF J<|aF J<|zo J (sx gM (ht J))<|zo J (xf gM cr (ht J) (ht J))<|aF J<|bC h fun u q_u h=>bC h fun mk q_mk h=>zU (xr (r:=bX) (x:=(0:Int)) cr J J J J gM kW (fun _=>J) (ht J) (ht J) (ET q_u) q_mk) J fun i=>aF J<|zo J (sw gM (ht J))<|bC h fun y q_y h=>zo J (k7 gM cr J (.head _) (ht J) (ht J) q_y)<|we q_y<|bp J<|aQ ?_;exact cO (K1 y (i.h 0).1 (i.h 0).2 h) (bv J)
   ·refine bA<|FF false bX 3 ?_;exact cO (K1 uL none 0 h) (bv J)
 ·skip
  refine au<|aF J<|zo J (gJ (ht J) hI)<|aq<|c9 h J (fun h=>?_) (fun h=>?_)
  ·refine av ?_;exact(nn h).elim
  ·refine bA<|bm ?_;exact cO (K h) (bv J)
theorem RO(slices:(List (List Int))){R:(List Int)}(h:iP slices=some R):f9 aO 281 [ca (nw) slices] false bX 3 R:=by
 refine f9.of Tryz.func281 J J J fun w0 S0=>au<|bQ false bX 3<|zo J (aL s9)<|aq<|au<|zo J (cw)<|aq<|ah<|au<|aF J<|zo J (iM vv J)<|zo J (bD hI)<|aq<|ay<|ba (k:=9) J fun hN=>bI<|qY ?_;refine aS (n7 (Z:=fun ls i size=>(slices.drop i=ls)∧jg slices ls size=some R) (Of:=fun _ i size=>[]) (Gf:=fun _ i size=>[(0,ca (nw) slices),(3,bM size),(9,ca (nw) slices),(10,jk slices),(11,bM (i:Int))]) (fun i size h=>?_) (fun e tl ih i size h=>?_) slices 0 (0:Int) ⟨J,h⟩) (bv J)
 ·obtain⟨hx,h⟩:=h
  refine aC<|au<|zo J (fD J J)<|aq<|ah<|bz (ht J) (di hx)<|bu ?_;refine ai (ai (aN ?_));refine aw<|au<|aF rfl<|bC h fun r q_r h=>iR aae (RN _ q_r) ⟨hV,(ht J),aT⟩ J fun l c=>bp J<|aq<|ah<|au<|aF J<|zo J (iM vv J)<|zo J (bD hI)<|aq<|ay<|ba (k:=25) J fun hN1=>bI ?_;refine aS (kE (Z:=fun ls1 i1 newslice l1 c1=>(slices.drop i1=ls1)∧jf ls1 newslice=some R) (Of:=fun _ i1 newslice l1 c1=>[fx bX 3 l1 c1 newslice]) (Gf:=fun _ i1 newslice l1 c1=>[(6,rL l1 c1 newslice),(25,ca (nw) slices),(26,jk slices),(27,bM (i1:Int))]) (fun i1 newslice l1 c1 h=>?_) (fun e1 tl1 ih1 i1 newslice l1 c1 h=>?_) slices 0 r l c ⟨J,h⟩) (bv J)
  ·obtain⟨hx1,h⟩:=h
   refine aC<|au<|zo J (fD J J)<|aq<|ah<|bz (ht J) (di hx1)<|bu ?_;refine ai (ai (aN ?_));refine aw<|au<|aF rfl<|bp rfl<|aq<|ak ?_;cases so h;exact gm J J
  ·obtain⟨hx1,h⟩:=h
   refine aC<|au<|zo J (fD J J)<|aq<|ah<|bw (ht J) (dg hx1)<|dS<|ah<|ay<|au<|zo J (lX vv d9 J J J (cS hx1))<|zo J (bB d9 J J)<|bp J<|aq<|av<|aF J<|aF J<|bC h fun newslice1 q_newslice1 h=>cV cr J J J J gM J J (ht J) (ht J) q_newslice1 fun l2 c2=>?_;refine bp J<|aQ<|ap<|aw<|av<|zo rfl (lY (cA hx1 hN1) rfl)<|aF rfl<|aQ ?_;exact bf (aS (ih1 (i1+1) newslice1 l2 c2 ⟨cz hx1,h⟩) (bv J))
 ·obtain⟨hx,h⟩:=h
  refine aC<|au<|zo J (fD J J)<|aq<|ah<|bw (ht J) (dg hx)<|dS<|ah<|ay<|au<|zo J (lX vv d9 J J J (cS hx))<|zo J (bB d9 J J)<|bp J<|aq<|au<|aF J<|aF J<|zo J (iM gM J) ?_;refine zo J (nO (ht J) (ht J))<|bp J<|aq<|au<|aF J<|zo J (gJ (ht J) hI)<|aq<|c9 h J (fun h=>?_) (fun h=>?_)
  ·refine av ?_;exact(nn h).elim
  ·refine bA<|ap<|aw<|av<|zo rfl (lY (cA hx hN) rfl)<|aF rfl<|aQ ?_;exact bf (aS (ih (i+1) (IntKind.i64.wrap (size+(e.length:Int))) ⟨cz hx,h⟩) (bv J))
theorem UF(slices:(List (List Int))){R:(List Int)}(h:iP slices=some R):aU aO 281 [ca (nw) slices] (lW R):=(RO _ h).spec

theorem Dq(tag:Int){R:Int}(h:pc tag=some R):aU aO 213 [bM tag] (bM R):=by
 refine aU.of Tryz.func213 J J J fun w0 S0=>au<|zo J (cw)<|aq<|ah<|ay<|au<|aF J<|zo J (np J)<|aF J<|gD J J (fun hg=>dA J)<|gD J J (fun hg=>dL (bK J hg) hI)<|zo J (yO J J)<|bp J<|aq<|c9 h J (fun h=>?_) (fun h=>?_)
 ·refine au<|zo J (cw)<|aq<|ak ?_;refine aA (ae ?_);cases so h;exact aG J J
 ·refine au<|aF J<|zo J (iu (ht J) hI)<|aF J<|dC J J (fun hg=>dA J)<|dC J J (fun hg=>nN (bK J hg) hI)<|zo J (uK J J)<|bp J<|aq<|c9 h J (fun h=>?_) (fun h=>?_)
  ·refine au<|zo J (cw)<|aq<|ak ?_;refine aA (ae ?_);cases so h;exact aG J J
  ·refine au<|aF J<|zo J (iu (ht J) hI)<|aF J<|dC J J (fun hg=>dA J)<|dC J J (fun hg=>nN (bK J hg) hI)<|zo J (uK J J)<|bp J<|aq<|c9 h J (fun h=>?_) (fun h=>?_)
   ·refine au<|zo J (cw)<|aq<|ak ?_;refine aA (ae ?_);cases so h;exact aG J J
   ·refine bA<|ap<|aw<|au<|zo rfl (cw)<|aq<|ak ?_;cases so h;exact aG J J

theorem U3(v:ac){R:ac}(h:wQ v=some R):aU aO 191 [tD af v] (tD af R):=by
 refine aU.of Tryz.func191 J J J fun w0 S0=>au<|ym (ht J) J fun b=>aZ (r:=af) (x:=ie) aH (fun _=>bh _) J fun b1=>aq<|ah<|au<|zo J (kP 0 gK J J J)<|zo J (cd cr J J cy (.tail _ (.head _)) (ht J))<|aq ?_;refine Hi (Z:=fun v1=>kp v1=some R) (Of:=fun v1=>[bx af 46 b v1,bx af 46 b1 ie]) (Gf:=fun v1=>[(1,tV (aP b 0)),(2,tV (aP b1 0))]) (fun v1 h=>?_) (fun K=>?_)
 ·skip
  refine aw<|au<|zo rfl (cd aH rfl rfl bS (.head _) (ht rfl))<|bL<|ax aH rfl an rfl (ht rfl) (ht rfl)<|aW 2 rfl<|aq<|ak<|bm ?_;cases so h;exact iS J aH J J J
 ·skip
  refine ah<|ay<|ah<|ay<|ah ?_;refine Hi (Z:=fun v2=>pL v2=some R) (Of:=fun v2=>[bx af 46 b v2,bx af 46 b1 ie]) (Gf:=fun v2=>[(1,tV (aP b 0)),(2,tV (aP b1 0))]) (fun v2 h=>?_) (fun K1=>?_)
  ·skip
   refine aw<|au<|zo rfl (kP 0 gK rfl rfl rfl)<|ax cr rfl nI rfl (ht rfl) hI<|aq<|bu ?_;refine ci J (ai (ci J (ai (aN ?_))));exact cO (K (ac.mk (0:Int) v2.N v2.U v2.S) h) (bv J)
  ·skip
   refine ah ?_;refine Qg (Z:=pK v=some R) (Of:=[bx af 46 b v,bx af 46 b1 ie]) (Gf:=[(1,tV (aP b 0)),(2,tV (aP b1 0))]) (fun h=>?_) (fun K2=>?_)
   ·skip
    refine aw<|av<|zo rfl (kP 1 lO rfl rfl rfl)<|ax FM rfl oY rfl (ht rfl) hI<|aQ<|ap ?_;exact cO (K1 (ac.mk v.Kind (0:Int) v.U v.S) h) (bv J)
   ·skip
    refine ah<|ay<|ah<|ah<|au<|zo J (np J)<|bp J<|aq<|c9 h J (fun h=>?_) (fun h=>?_)
    ·refine bu ?_;refine ai (ai (aN ?_));refine aw<|au<|zo rfl (kP 1 lO rfl rfl rfl)<|zo rfl (cd FM rfl rfl fz (.tail _ (.head _)) (ht rfl))<|zo rfl (tJ rfl)<|aF rfl<|dC rfl rfl (fun hg=>kP 1 lO J J J)<|dC J J (fun hg=>cd FM J J fz (.tail _ (.head _)) (bK J hg))<|dC J J (fun hg=>fj (bK J hg) hI)<|zo J (uK J J)<|aq<|c9 h J (fun h=>?_) (fun h=>?_)
     ·refine bu ?_;refine ci J (ai (ci J (ai (ci J (ai (ci J (ai (aN ?_))))))));refine bF ?_;exact cO (K v h) (bv J)
     ·refine bA<|ap<|bF ?_;exact cO (K2 h) (bv J)
    ·refine dS<|ah<|au<|zo J (np J)<|bp J<|aq<|c9 h J (fun h=>?_) (fun h=>?_)
     ·refine bu ?_;refine ai (ai (ci J (ai (aN ?_))));refine bF ?_;exact cO (K2 h) (bv J)
     ·refine dS<|ah<|au<|zo J (np J)<|bp J<|aq<|c9 h J (fun h=>?_) (fun h=>?_)
      ·refine bu ?_;refine ai (ai (ci J (ai (ci J (ai (aN ?_))))));refine bF ?_;exact cO (K1 v h) (bv J)
      ·refine dS<|ah<|au<|zo J (np J)<|bp J<|aq<|c9 h J (fun h=>?_) (fun h=>?_)
       ·refine bu ?_;refine ai (ai (ci J (ai (ci J (ai (ci J (ai (aN ?_))))))));refine aw ?_;refine kV (Z:=fun v3=>pJ v3=some R) (Of:=fun v3=>[bx af 46 b v3,bx af 46 b1 ie]) (Gf:=fun v3=>[(1,tV (aP b 0)),(2,tV (aP b1 0))]) (fun v3 h=>?_) (fun K3=>?_)
        ·skip
         refine bu ?_;refine ci J (ai (aN ?_));exact cO (K v3 h) (bv J)
        ·skip
         refine au<|zo J (kP 3 xo J J J)<|zo J (cd Tc J J nR (.tail _ (.head _)) (ht J))<|zo J (H5 Cr (ht J))<|zo J (nN (ht J) hI)<|aq<|c9 h J (fun h=>?_) (fun h=>?_)
         ·refine av<|zo J (kP 0 gK J J J)<|bL<|ax cr J nI J (ht J) hI<|zo J (kP 3 xo J J J)<|ax Tc J LE J (ht J) hS<|aQ ?_;exact cO (K3 (ac.mk (0:Int) v.N v.U ([])) h) (bv J)
         ·refine bA<|bF ?_;exact cO (K3 v h) (bv J)
       ·refine dS<|au<|zo J (np J)<|bp J<|aq<|c9 h J (fun h=>?_) (fun h=>?_)
        ·refine bu ?_;refine ai (ci J (ai (ci J (ai (ci J (ai (ci J (ai (aN ?_)))))))));refine aw<|au<|zo rfl (kP 0 gK rfl rfl rfl)<|bL<|ax cr rfl nI rfl (ht rfl) hI<|zo rfl (kP 1 lO rfl rfl rfl)<|ax FM rfl oY rfl (ht rfl) hI<|zo rfl (kP 2 BX rfl rfl rfl)<|ax Lz rfl zr rfl (ht rfl) hI<|aq<|bu<|aN ?_;exact cO (K (ac.mk (0:Int) (0:Int) (0:Int) v.S) h) (bv J)
        ·refine dS<|bu ?_;refine ci J (ai (ci J (ai (ci J (ai (ci J (ai (ci J (ai (aN ?_))))))))));refine bF ?_;exact cO (K v h) (bv J)

theorem A2(v:ac){R:Int}(h:kY v=some R):aU aO 111 [tD af v] (bM R):=by
 refine aU.of Tryz.func111 J J J fun w0 S0=>au<|zo J (je J)<|zo J (cw)<|aq<|ah<|au<|zo J (bB aH J J)<|bC h fun r q_r h=>zo J (aD abb (U3 _ q_r) ⟨(ht J),aT⟩)<|zo J (ck (y:=ie) aH ql bh (J))<|zo J (H3 PH (ht J) (ht J))<|aq<|c9 h J (fun h=>?_) (fun h=>?_)
 ·refine au<|zo J (cw)<|aq<|ak<|ae ?_;cases so h;exact aG J J
 ·refine dS<|au<|zo J (cw)<|aq<|ak ?_;cases so h;exact aG J J

theorem Dr(v:ac){R:Bool}(h:ma v=some R):aU aO 182 [tD af v] (ig R):=by
 refine aU.of Tryz.func182 J J J fun w0 S0=>au<|zo J (je J)<|zo J (jj)<|aq<|au<|zo J (bB aH J J)<|bC h fun r q_r h=>zo J (aD KP (A2 _ q_r) ⟨(ht J),aT⟩)<|zo J (np J)<|aF J<|dC J J (fun hg=>cW gK cy J J)<|dC J J (fun hg=>bJ cr J J (bK J hg))<|dC J J (fun hg=>fj (bK J hg) hI)<|zo J (uK J J)<|bp J<|aq<|ak ?_;cases so h;exact aG J J

theorem UZ(n:aX){R:Bool}(h:ud n=some R):aU aO 214 [tD bG n] (ig R):=by
 refine aU.of Tryz.func214 J J J fun w0 S0=>au<|zo J (je J)<|zo J (jj)<|aq<|ah<|au<|zo J (cW pb gU J J)<|zo J (bB cr J J)<|aq<|ay<|au<|zo J (np J)<|bp J<|aq<|c9 h J (fun h=>?_) (fun h=>?_)
 ·refine au<|zo J (cW BW qD J J)<|zo J (bB aH J J)<|bC h fun r q_r h=>zo J (aD OJ (Dr _ q_r) ⟨(ht J),aT⟩)<|aF J<|dC J J (fun hg=>cW zG o9 J J)<|dC J J (fun hg=>bJ cr J J (bK J hg))<|dC J J (fun hg=>dL (bK J hg) hI)<|zo J (uK J J)<|bp J<|aq<|ak ?_;refine aA (ae ?_);cases so h;exact aG J J
 ·refine au<|zo J (np J)<|bp J<|aq<|c9 h J (fun h=>?_) (fun h=>?_)
  ·refine au<|zo J (cW BW qD J J)<|zo J (bB aH J J)<|zo J (ck (y:=ie) aH ql bh (J))<|zo J (Dh PH (ht J) (ht J))<|aF J<|dC J J (fun hg=>cW zG o9 J J)<|dC J J (fun hg=>bJ cr J J (bK J hg))<|dC J J (fun hg=>iu (bK J hg) hI)<|zo J (uK J J)<|aF J<|dC J J (fun hg=>cW zG o9 J J)<|dC J J (fun hg=>bJ cr J J (bK J hg))<|dC J J (fun hg=>gJ (bK J hg) hI)<|zo J (uK J J)<|bp J<|aq<|ak ?_;refine aA (ae ?_);cases so h;exact aG J J
  ·refine bA<|ap<|aw<|au<|zo rfl (cW BW qD rfl rfl)<|zo rfl (bB aH rfl rfl)<|zo rfl (ck (y:=ie) aH ql bh (J))<|zo J (Dh PH (ht J) (ht J))<|aF J<|dC J J (fun hg=>cW zG o9 J J)<|dC J J (fun hg=>bJ cr J J (bK J hg))<|dC J J (fun hg=>dL (bK J hg) hI)<|zo J (uK J J)<|bp J<|aq<|ak ?_;cases so h;exact aG J J

theorem Vr(e:br){R:(List Int)×Bool}(h:xp e=some R):aU aO 129 [tD bT e] (tT [lW R.1,ig R.2]):=by
 refine aU.of Tryz.func129 J J J fun w0 S0=>au<|zo J (je J)<|zo J (aL (show aJ _ _ _ wN from j9))<|zo J (jj)<|aq<|au<|bQ false bX 3<|zo J (aL s9)<|bQ false bX 3<|zo J (aL s9)<|aq<|ah<|au<|zo J (cW ow ke J J)<|zo J (bB yz J J)<|zo J (iM uq J)<|zo J (bD hI)<|aQ ?_;refine aw<|ay<|ba (k:=15) J fun hN=>bI<|jb ?_;refine aS (La (Z:=fun ls i all l c open1 l1 c1=>(e.Nodes.drop i=ls)∧kD ls i all open1=some R) (Of:=fun _ i all l c open1 l1 c1=>[fx bX 3 l c all,fx bX 3 l1 c1 open1]) (Gf:=fun _ i all l c open1 l1 c1=>[(4,rL l c all),(5,rL l1 c1 open1),(15,ca (bG) e.Nodes),(16,jk e.Nodes),(17,bM (i:Int))]) (fun i all l c open1 l1 c1 h=>?_) (fun e1 tl ih i all l c open1 l1 c1 h=>?_) e.Nodes 0 uL none 0 uL none 0 ⟨J,h⟩) (bv J)
 ·obtain⟨hx,h⟩:=h
  refine aC<|au<|zo J (fD J J)<|aq<|ah<|bz (ht J) (di hx)<|bu ?_;refine ai (ai (aN ?_));refine aw<|au<|aF rfl<|aF rfl<|zo rfl (jy gM (.tail _ (.head _)) (ht rfl))<|zo rfl (np rfl)<|aF rfl<|dC rfl rfl (fun hg=>dA J)<|dC J J (fun hg=>jy gM (.head _) (bK J hg))<|dC J J (fun hg=>nN (bK J hg) hI)<|zo J (uK J J)<|bp J<|bp J<|aq<|ak<|jA<|cB 4 J<|cB 84 J<|cB 2 J<|jB 2 J<|bm<|bm ?_;cases so h;exact cJ J J J
 ·obtain⟨hx,h⟩:=h
  refine aC<|au<|zo J (fD J J)<|aq<|ah<|bw (ht J) (dg hx)<|dS<|ah<|ay<|au<|aF J<|zo J (lX uq oB J J J (cS hx))<|zo J (bB oB J J)<|aZ (r:=bG) (x:=Qq) oB (fun _=>uJ _) J fun b=>bp J<|ax oB J an J (ht J) (ht J)<|aW 7 J<|aq<|ah ?_;refine av<|zo J (cW pb gU J J)<|zo J (bB cr J J)<|bC h fun r q_r h=>zo J (aD OH (Dq _ q_r) ⟨(ht J),aT⟩)<|bp J<|aq<|ah<|au<|aF J<|zo J (gJ (ht J) hI)<|aF J<|gD J J (fun hg=>dA J)<|gD J J (fun hg=>dA J)<|gD J J (fun hg=>jy gM (.tail _ (.head _)) (bK J hg))<|gD J J (fun hg=>gu (bK J hg) (bK J hg))<|zo J (yO J J)<|aF J<|bC h fun t q_t h=>gD J J (fun hg=>bB oB J J) ?_
  obtain⟨r1,h1t,h0t⟩:=og q_t
  have q_r1g:=fun hb=>(h1t hb).1
  refine gD J J (fun hg=>aD aaX (UZ _ (q_r1g hg)) ⟨(bK J hg),aT⟩)<|gD J J (fun hg=>fS (bK J hg))<|zo J (ir (ht J) (fun hb=>(bK J (wv hb))) (fun hb=>(h1t hb).2) h0t)<|aq<|c9 h J (fun h=>?_) (fun h=>?_)
  ·refine au<|zo J (aL (show aJ _ _ _ wN from j9))<|zo J (jj)<|aq<|ak ?_;refine ae (aA (ae (ae (aA (ae ?_)))));refine bm<|bm ?_;cases so h;exact cJ J J J
  ·refine dS<|au<|aF J<|aF J<|zo J (jy gM (.tail _ (.head _)) (ht J))<|aF J<|zo J (jp (ht J) (ht J))<|bC h fun y q_y h=>zo J (nM gM cr J (.tail _ (.head _)) (ht J) (ht J) q_y)<|mQ (.tail _ (.head _)) q_y fun hv=>bp J<|aq<|au<|zo J (GF (r:=bX) (ys:=[vz,vz]) (xs:=[.const (.int .i64 (-1)),.const (.int .i64 (-1))]) Tryz.underlying243 cr J Jj J J ⟨hI,hI,aT⟩)<|aZ (r:=(uz bX 2)) (x:=(List.replicate 2 (0:Int))) Jj (fun _=>SA (r:=bX) 2 (fun _=>J) _) J fun b1=>ax Jj J an J (ht J) (ht J)<|aq<|au ?_;refine aF J<|bp J<|aq<|ah<|au<|aF J<|zo J (TD gM (.tail _ (.tail _ (.head _))) q_y (ht J))<|zo J (bD hI)<|aq<|ay ?_
   have hN1:=hv.2
   refine bI<|qM<|qM ?_;refine aS (vj (Z:=fun ls1 i1 first at1=>(y.drop i1=ls1)∧lQ (kD tl) i e1 all open1 r ls1 i1 first at1=some R) (Of:=fun _ i1 first at1=>[fx bX 3 l c all,fx bX 3 l1 c1 open1,bx (uz bX 2) 243 b1 at1]) (Gf:=fun _ i1 first at1=>[(4,rL l c all),(5,rL l1 c1 open1),(6,bM (i:Int)),(7,bO bG e1),(8,bM r),(10,tV (aP b1 0)),(11,bM first),(15,ca (bG) e.Nodes),(16,jk e.Nodes),(17,bM (i:Int)),(46,tV (ou 1 l1 c1 (IntKind.i64.wrap ((open1.length:Int)-r)).toNat y.length)),(47,jk y),(48,bM (i1:Int))]) (fun i1 first at1 h=>?_) (fun e2 tl1 ih1 i1 first at1 h=>?_) y 0 (i:Int) ([vz,vz]) ⟨J,h⟩) (bv J)
   ·obtain⟨hx1,h⟩:=h
    refine aC<|au<|zo J (fD J J)<|aq<|ah<|bz (ht J) (di hx1)<|bu ?_;refine ai (ai (aN ?_));refine aw<|ah<|au<|zo rfl (cd Jj rfl rfl bS (.tail _ (.tail _ (.head _))) (ht rfl))<|zo rfl (cW XW Mw rfl rfl)<|zo rfl (bB cr rfl rfl)<|zo rfl (cW XV Mv rfl rfl)<|zo rfl (bB cr rfl rfl)<|zo rfl (GF (r:=bX) (ys:=[e1.L,e1.R]) (xs:=[.tmp 65,.tmp 67]) Tryz.underlying243 cr J Jj J J ⟨(ht J),(ht J),aT⟩)<|zo J (H3 ZX (ht J) (ht J))<|aq<|c9 h J (fun h=>?_) (fun h=>?_)
    ·refine au<|zo J (aL (show aJ _ _ _ wN from j9))<|zo J (jj)<|aq<|ak ?_;refine ae (aA (ae (ae (aA (ae ?_)))));refine bm<|bm<|bm ?_;cases so h;exact cJ J J J
    ·refine dS<|au<|aF J<|aF J<|zo J (aV (r:=bX) (ys:=[first]) (xs:=[.tmp 71]) gM cr J J J J J ⟨(ht J),aT⟩)<|bC h fun all1 q_all1 h=>cV cr J J J J gM J J (ht J) (ht J) q_all1 fun l2 c2=>bp J<|aq<|av<|aF J<|aF J<|zo J (jy gM (.tail _ (.head _)) (ht J))<|aF J<|zo J (jp (ht J) (ht J))<|bC h fun y1 q_y1 h=>zo J (k7 gM cr J (.tail _ (.head _)) (ht J) (ht J) q_y1)<|aF J<|zo J (aV (r:=bX) (ys:=[(i:Int)]) (xs:=[.tmp 80]) gM cr J J J J J ⟨(ht J),aT⟩)<|bL<|we q_y1 ?_;refine bC h fun open2 q_open2 h=>cV cr J J J J gM J J (ht J) (ht J) q_open2 fun l3 c3=>bp J<|aQ<|ap<|aw<|av<|zo rfl (lY (cA hx hN) rfl)<|aF rfl<|aQ<|aK<|bm<|bF ?_;exact bf (aS (ih (i+1) all1 l2 c2 open2 l3 c3 ⟨cz hx,h⟩) (bv J))
   ·obtain⟨hx1,h⟩:=h
    refine aC<|au<|zo J (fD J J)<|aq<|ah<|bw (ht J) (dg hx1)<|dS<|ah<|ay<|au<|aF J<|zo J (FY gM cr J (.tail _ (.head _)) q_y (ht J) (ht J) (cS hx1))<|zo J (gn (r:=bX) (i:=((IntKind.i64.wrap ((open1.length:Int)-r))+(i1:Int))) (foff:=0) cr J J bS J (.tail _ (.head _)) (D2 q_y (cS hx1)).1 (ht J))<|bp J<|bp J<|aq<|bC h fun e3 q_e3 h=>bC h fun e4 q_e4 h=>bC h fun ar q_ar h=>?_
    refine oM 10 [tc (bM (i1:Int)),tc (bM e2),tc (bM first),tc (rL l c all),tc (bM e2),tc (tV (pG l (e2.toNat*1+0))),tc (bM e3),tc (bM (min first e3)),tc (tV (aP b1 ((i1:Int).toNat*1))),tc (C3)] [false,false,false,false,false,false,false,false,false,true] [fun _=>[fx bX 3 l c all,fx bX 3 l1 c1 open1,bx (uz bX 2) 243 b1 at1],fun sg=>[bx (uz bX 2) 243 b1 ar,fx bX 3 l c all,fx bX 3 l1 c1 open1]] J mixed J J J J J
     ⟨⟨[⟨12,fun _=>tD bX (i1:Int),none⟩],_,0,0,J,⟨(fun _=>J),aT⟩,J,J,J,J,J,fun _ sg _ _=>aB J (dA J)⟩,
     ⟨⟨[⟨13,fun _=>tD bX e2,none⟩],_,0,0,J,⟨(fun _=>J),aT⟩,J,J,J,J,J,fun _ sg _ _=>aB J (dA J)⟩,
     ⟨⟨[⟨11,fun _=>tD bX first,none⟩],_,0,1,J,⟨(fun _=>J),aT⟩,J,J,J,J,J,fun _ sg _ _=>aB J (dA J)⟩,
     ⟨⟨[⟨4,fun _=>tV (aR l c all.length),none⟩],_,0,1,J,⟨(fun _=>J),aT⟩,J,J,J,J,J,fun _ sg _ _=>aB J (dA J)⟩,
     ⟨⟨[⟨13,fun _=>tD bX e2,none⟩],_,0,1,J,⟨(fun _=>J),aT⟩,J,J,J,J,J,fun _ sg _ _=>aB J (dA J)⟩,
     ⟨⟨[⟨56,fun _=>tV (aR l c all.length),some 3⟩,⟨57,fun _=>tD bX e2,some 4⟩],_,0,1,J,⟨(fun _=>J),(fun _=>J),aT⟩,J,J,J,J,J,FK (fun sg=>aB J (cH gM cr (.head _) (ht J) (ht J) q_e3)) (zj (fun sg=>aB J (cH gM cr (.tail _ (.head _)) (ht J) (ht J) q_e3)))⟩,
     ⟨⟨[⟨58,fun _=>tV (pG l (e2.toNat*1+0)),some 5⟩],_,0,1,J,⟨(fun _=>J),aT⟩,J,J,J,J,J,FK (fun sg=>aB J (gn (r:=bX) (i:=e2) (foff:=0) cr J J bS J (.head _) q_e3 (ht J))) (zj (fun sg=>aB J (gn (r:=bX) (i:=e2) (foff:=0) cr J J bS J (.tail _ (.head _)) q_e3 (ht J))))⟩,
     ⟨⟨[⟨55,fun _=>tD bX first,some 2⟩,⟨59,fun _=>tD bX e3,some 6⟩],_,0,1,J,⟨(fun _=>J),(fun _=>J),aT⟩,J,J,J,J,J,fun _ sg _ _=>aB J (NJ (ht J) (ht J))⟩,
     ⟨⟨[⟨10,fun _=>tV (aP b1 0),none⟩,⟨53,fun _=>tD bX (i1:Int),some 0⟩],_,0,0,J,⟨(fun _=>J),(fun _=>J),aT⟩,J,J,J,J,J,zj (fun sg=>aB J (FX Tryz.underlying243 cr (.tail _ (.tail _ (.head _))) (ht J) (ht J) q_e4))⟩,
     ⟨⟨[⟨61,fun _=>tV (aP b1 ((i1:Int).toNat*1)),some 8⟩,⟨54,fun _=>tD bX e2,some 1⟩],_,J,⟨(fun _=>J),(fun _=>J),aT⟩,J,J,J,fun sg=>eC J (EffOK.fr2 (MJ cr J q_e4 (so q_ar) (ht J) (ht J)))⟩,
     aT⟩⟩⟩⟩⟩⟩⟩⟩⟩⟩ (fun sg=>?_)
    refine(show RG _ _ _ _ [bx (uz bX 2) 243 b1 ar,fx bX 3 l c all,fx bX 3 l1 c1 open1] _ from ?_);refine bp J<|aQ<|ap<|aw<|av<|zo rfl (lY (cA hx1 hN1) rfl)<|aF rfl<|aQ<|aK<|aK ?_;exact bf (aS (ih1 (i1+1) (min first e3) ar ⟨cz hx1,h⟩) (bv J))

end Go.Proofs.YtfhhakidodmdfaaGreatDoor

