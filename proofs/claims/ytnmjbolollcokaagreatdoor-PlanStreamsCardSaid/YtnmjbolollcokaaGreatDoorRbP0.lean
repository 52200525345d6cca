/- cJ of this claim: P0. -/
import Derived.Test.YtnmjbolollcokaaGreatDoorRbT
import Derived.Test.YtnmjbolollcokaaGreatDoorRbF
set_option linter.all false
namespace Go.Proofs.YtnmjbolollcokaaGreatDoor
open Go
abbrev Ia:=fun(mc:aB) (mx:ai)=>(hT mc mx).map fun mr=>(mr,mc)
abbrev H9:=fun(mc:aB) (mx:ai)=>(hU mc mx).map fun mr=>(mr,mc)
abbrev Ie:=fun(mc:aB) (mx:ai)=>(ge mc mx).map fun mr=>(mr,mc)
abbrev Ib:=fun(mc:aB) (mx:ai)=>(gD mc mx).map fun mr=>(mr,mc)
abbrev If:=fun(mc:aB) (mx:ai)=>(fO mc mx).map fun mr=>(mr,mc)
abbrev Ig:=fun(mc:aB) (mx:ai)=>(fm mc mx).map fun mr=>(mr,mc)
abbrev Id:=fun(mc:aB) (mx:ai)=>(gB mc mx).map fun mr=>(mr,mc)
abbrev Ic:=fun(mc:aB) (mx:ai)=>(gC mc mx).map fun mr=>(mr,mc)
abbrev Bo:=cw (cw (cw (cw (cw (cw (cw (cw ([]:List (Int×(aB→ai→Option (((List Int)×Bool)×aB)))) (1:Int) Ia) (2:Int) H9) (3:Int) Ie) (4:Int) Ib) (5:Int) If) (6:Int) Ig) (7:Int) Id) (8:Int) Ic
abbrev Iq:=fun(mc:aE) (mx:ai×(List Int)×(List bb))=>(kD mc mx.1 mx.2.1 mx.2.2).map fun mr=>(mr,mc)
abbrev Ir:=fun(mc:aE) (mx:ai×(List Int)×(List bb))=>(jH mc mx.1 mx.2.1 mx.2.2).map fun mr=>(mr,mc)
abbrev Is:=fun(mc:aE) (mx:ai×(List Int)×(List bb))=>(jb mc mx.1 mx.2.1 mx.2.2).map fun mr=>(mr,mc)
abbrev Ii:=fun(mc:aE) (mx:ai×(List Int)×(List bb))=>kE mc mx.1 mx.2.1 mx.2.2
abbrev Ij:=fun(mc:aE) (mx:ai×(List Int)×(List bb))=>j5 mc mx.1 mx.2.1 mx.2.2
abbrev Ip:=fun(mc:aE) (mx:ai×(List Int)×(List bb))=>iL mc mx.1 mx.2.1 mx.2.2
abbrev Il:=fun(mc:aE) (mx:ai×(List Int)×(List bb))=>j3 mc mx.1 mx.2.1 mx.2.2
abbrev Ik:=fun(mc:aE) (mx:ai×(List Int)×(List bb))=>j4 mc mx.1 mx.2.1 mx.2.2
abbrev JV:=cw (cw (cw (cw (cw (cw (cw (cw ([]:List (Int×(aE→(ai×(List Int)×(List bb))→Option (bb×aE)))) (1:Int) Iq) (3:Int) Ir) (5:Int) Is) (2:Int) Ii) (4:Int) Ij) (6:Int) Ip) (7:Int) Il) (8:Int) Ik
abbrev eY:=(⟨[],[],(0:Int),[]⟩:bb)
abbrev mz:=(⟨[]⟩:bw)
abbrev vz:=(⟨(0:Int),(0:Int),(0:Int),(0:Int),[],false,mz,[],[],[],[],(0:Int)⟩:ai)
abbrev wG:=fun(x:ai×(List Int)×(List bb))=>[tD ak x.1,dX x.2.1,dH (ah) x.2.2]
abbrev bM:=rI .i64
abbrev yu:=(⟨(0:Int),(0:Int),(0:Int),[]⟩:de)
abbrev zK:=(⟨(0:Int),(0:Int),(0:Int),(0:Int),yu⟩:bT)
abbrev q9:=fun(x:(List Int)×Bool)=>tT [dX x.1,eH x.2]
abbrev qW:=fun(x:ai)=>[tD ak x]
abbrev mw:=(-1:Int)
abbrev Im:=(⟨(1:Int),mw,mw,(1:Int),[(2:Int)],false,mz,[],[],[],[],(0:Int)⟩:ai)
abbrev H0:=(⟨(1:Int),mz⟩:ko)
abbrev Io:=(⟨(4:Int),(0:Int),mw,(0:Int),[],false,mz,[],[H0],[],[],(0:Int)⟩:ai)
abbrev LR:=(⟨[Im,Io]⟩:cF)
abbrev jX:=fun(x:Bool)=>eH x
abbrev mA:=fun(x:bb)=>tD ah x
abbrev si:=fun(x:cc)=>[tD cW x]
abbrev yw:=fun(x:aV×Int)=>[tD bv x.1,bD x.2]
abbrev uU:=fun(x:bX)=>[tD cR x]
abbrev qX:=fun(x:jn)=>tD rS x
abbrev oE:=(⟨[]⟩:bW)
abbrev my:=([]:List Int)
abbrev H2:=(⟨[97],(2:Int)⟩:bX)
abbrev H3:=(⟨[98],(2:Int)⟩:bX)
abbrev Ih:=(⟨[116],[H2,H3],[(0:Int)]⟩:cc)
abbrev kx:=dz bM
abbrev Gj:=fun(x:bT×(List Int))=>[tD aY x.1,dX x.2]
abbrev lQ:=dX ([])
abbrev Bn:=fun(x:Bool)=>tD rB x
abbrev Gi:=(⟨(0:Int),(0:Int),(0:Int)⟩:aV)
abbrev zM:=([]:List (List Int))
abbrev Gh:=fun(x:Int×Int)=>tT [bD x.1,bD x.2]
abbrev EE:=fun(x:cA)=>[tD aN x]
abbrev H8:=fun(x:bT×(List Int))=>[tD aY x.1,tD kx x.2]
abbrev tm:=dz ah
abbrev H7:=(⟨[99],(2:Int)⟩:bX)
abbrev ED:=fun(x:jD)=>[tD gp x]
abbrev pD:=Ma .i64
abbrev Bm:=dH (bv) ([])
abbrev zL:=(⟨[]⟩:cF)
abbrev Gg:=fun(x:bT)=>[tD aY x]
abbrev H6:=fun(x:Int×Int)=>tT [tD bM x.1,tD bM x.2]
abbrev wN:=dz ak
abbrev EC:=fun(x:Int)=>[bD x]
abbrev Bl:=([]:List ai)
abbrev H5:=(⟨[],(0:Int),(0:Int),[]⟩:cA)
abbrev Ge:=(⟨(0:Int),mz⟩:ko)
abbrev H4:=(⟨[117],[H7],[]⟩:cc)
abbrev H1:=(⟨[],(0:Int)⟩:bX)
abbrev Dk:=dz aY
abbrev EB:=([]:List ko)
abbrev Dj:=ol bM 2
set_option maxRecDepth 100000

theorem G8(s:(List Int))(f:(Int→Option Bool)){R:Int}(h:jK s f=some R):bn ba 193 [dX s,(eN ba EC jX (fun(x:Int)=>f x))] (bD R):=by
 refine bn.of Tryz.func193 J J J fun w0 S0=>ay<|zo J (d9)<|aw<|af<|ay<|aH J<|zo J (gV dm J)<|zo J (bA hI)<|aw<|ax<|bf (k:=6) J fun hN=>bF ?_;refine aS (dS (Z:=fun ls i=>(s.drop i=ls)∧fi f ls i=some R) (Of:=fun _ i=>[]) (Gf:=fun _ i=>[(0,dX s),(1,(eN ba EC jX (fun(x:Int)=>f x))),(7,fD s),(8,bD (i:Int))]) (fun i h=>?_) (fun e tl ih i h=>?_) s 0 ⟨J,h⟩) (bl J)
 ·obtain⟨hx,h⟩:=h
  refine aA<|ay<|zo J (ej J J)<|aw<|af<|bu (ht J) (c8 hx)<|bk ?_;refine ac (ac (aM ?_));refine av<|ay<|zo rfl (d9)<|aw<|aq ?_;cases so h;exact aW J J
 ·obtain⟨hx,h⟩:=h
  refine aA<|ay<|zo J (ej J J)<|aw<|af<|bt (ht J) (cY hx)<|dJ<|af<|ax<|ay<|aH J<|bC J<|aw<|ay<|aH J<|aH J<|aH J<|zo J (km dm bK J J J (c0 hx)) ?_;refine zo J (bz bK J J)<|bI h fun r q_r h=>zo J (gc (args:=(fun(x:Int)=>[tD bM x])) (res:=Bn) (f:=(fun(x:Int)=>f x)) (x:=((e):Int)) (ht J) q_r ⟨(ht J),aT⟩)<|aw<|dn h J (fun h=>?_) (fun h=>?_)
  ·refine ay<|aH J<|bC J<|aw<|aq ?_;refine aD (M (M (aD (M ?_))));cases so h;exact aW J J
  ·refine bE<|an<|av<|am<|zo rfl (jQ (cI hx hN) rfl)<|aH rfl<|aQ ?_;exact be (aS (ih (i+1) ⟨cH hx,h⟩) (bl J))

theorem CU(s:(List Int))(f:(Int→Option Bool)){R:Bool}(h:fj s f=some R):bn ba 127 [dX s,(eN ba EC jX (fun(x:Int)=>f x))] (eH R):=by
 refine bn.of Tryz.func127 J J J fun w0 S0=>ay<|zo J (eZ)<|aw<|ay<|aH J<|aH J<|bI h fun r q_r h=>zo J (aK Lg (G8 _ _ q_r) ⟨(ht J),(ht J),aT⟩)<|zo J (dN (ht J) hI)<|bC J<|aw<|aq ?_;cases so h;exact aW J J

theorem G4(k:Int){R:Bool}(h:ut k=some R):bn ba 205 [bD k] (eH R):=by
 refine bn.of Tryz.func205 J J J fun w0 S0=>ay<|zo J (eZ)<|aw<|ay<|aH J<|zo J (jR J)<|aH J<|cZ J J (fun hg=>cL J)<|cZ J J (fun hg=>cj (bq J hg) hI)<|zo J (oB J J)<|aH J<|cZ J J (fun hg=>cL J)<|cZ J J (fun hg=>cj (bq J hg) hI)<|zo J (oB J J)<|bC J<|aw<|aq ?_;cases so h;exact aW J J

theorem G5(k:Int){R:Bool}(h:jg k=some R):bn ba 204 [bD k] (eH R):=by
 refine bn.of Tryz.func204 J J J fun w0 S0=>ay<|zo J (eZ)<|aw<|ay<|aH J<|bI h fun r q_r h=>zo J (aK Lc (G4 _ q_r) ⟨(ht J),aT⟩)<|zo J (d8 (ht J))<|bC J<|aw<|aq ?_;cases so h;exact aW J J

theorem Jx(b:Nat)(ix:OI)(c:aB)(n:ai){R:(List Int)×Bool}(h:hT c n=some R):cz ba 148 [tV (aF b 0),tD ak n] (cD b c ix) (fun _:OI=>tT [dX R.1,eH R.2]) (fun _=>(cD b c ix)):=by
 refine cz.of Tryz.func148 J J J fun w0 S0=>?_;refine(show CG _ _ _ [bx (rH aZ [(1,aC (ix.h 0).1 (ix.h 0).2 c.kinds.length),(2,aC (ix.h 1).1 (ix.h 1).2 c.first.length)]) 123 b c,bV dG 42 (ix.h 0).1 (ix.h 0).2 c.kinds,bV bM 3 (ix.h 1).1 (ix.h 1).2 c.first] _ from ?_);refine ay<|zo J (gY J)<|zo J (aP (show aG _ _ _ lQ from ib))<|zo J (eZ)<|aw<|ay<|zo J (aP (show aG _ _ _ ((eN ba EC jX (fun(x:Int)=>jg x)))from(IK Ld fun x y h=>G5 _ h)))<|aw<|ay<|zo J (cr qq j7 J J)<|zo J (bz bK J J)<|zo J (dN (ht J) hI)<|aH J<|co J J (fun hg=>cr qq j7 J J)<|co J J (fun hg=>bp bK J J (bq J hg))<|co J J (fun hg=>eW (bq J hg) hI)<|zo J (mv J J)<|aH J<|co J J (fun hg=>cr n6 ji J J) ?_;refine co J J (fun hg=>bp cu J J (bq J hg))<|co J J (fun hg=>ca dm (bq J hg))<|co J J (fun hg=>dN (bq J hg) hI)<|zo J (mv J J)<|aH J<|co J J (fun hg=>cr n6 ji J J)<|co J J (fun hg=>bp cu J J (bq J hg))<|co J J (fun hg=>ca dm (bq J hg))<|co J J (fun hg=>je (bq J hg) hI)<|zo J (mv J J)<|bC J<|aw<|af<|bI h fun t q_t h=>?_
 obtain⟨r,h1t,h0t⟩:=og q_t
 have q_rg:=fun hb=>(h1t hb).1
 refine eR (ts:=[_,_,_,_,_,_,_,_,_,_,_,_]) mixed J J
  ⟨ek 3 J J J (cr n6 ji J J),
  ⟨c9 28 0 J J J (bz cu J J),
  ⟨ek 7 J J J (cL J),
  ⟨c9 30 2 J J J (cL J),
  ⟨wO 3 31 3 J J J J (gz J J J J (fun hg=>cr n6 ji J J)),
  ⟨mi 32 4 31 3 J J J J (gz J J J J (fun hg=>bp cu J J (bq J hg))),
  ⟨wO 6 31 3 J J J J (gz J J J J (fun hg=>cL J)),
  ⟨Ct 33 5 34 6 31 3 J J J J J (gz J J J J (fun hg=>aK HS (CU _ _ (q_rg hg)) ⟨(bq J hg),(bq J hg),aT⟩)),
  ⟨mi 35 7 31 3 J J J J (gz J J J J (fun hg=>d8 (bq J hg))),
  ⟨eo 31 3 36 8 J J J J (dZ (ht J) (fun hb=>(bq J hb)) (fun hb=>(h1t hb).2) h0t),
  ⟨c9 29 1 J J J (vB J),
  ⟨c9 37 9 J J J (vB J),
  aT⟩⟩⟩⟩⟩⟩⟩⟩⟩⟩⟩⟩ ?_
 refine av<|aq<|au<|au<|au ?_;cases so h;exact fN (ts:=[dX n.Kinds,eH t]) (rvs:=[.tmp 4,.tmp 5]) J J ⟨cG J,cG J,aT⟩ kp J J

theorem Ft(n:Int){R:(List Int)}(h:mf n=some R):fx ba 237 [tV (.slice none 0 0),bD n] false bM 3 R:=by
 refine fx.of Tryz.func237 J J J fun w0 S0=>ay<|bQ false bM 3<|zo J (aP pI)<|aw ?_;refine Em (Z:=kA n=some R) (Of:=[]) (Gf:=[(0,tV (.slice none 0 0)),(1,bD n)]) (fun h=>?_) (fun K=>?_)
 ·skip
  refine El (Z:=fun s l c=>gZ s=some R) (Of:=fun s l c=>[ee bM 3 l c s]) (Gf:=fun s l c=>[(0,nb l c s)]) (fun s l c h=>?_) (fun K1=>?_)
  ·skip
   refine ay<|aH J<|bC J<|aw<|aq ?_;cases so h;exact eS J J
  ·skip
   refine ay<|aH J<|aH J<|zo J (xF dm (ht J))<|aH J<|zo J (xD dm (ht J))<|zo J (eV (ht J) (ht J))<|zo J (eV (ht J) (ht J))<|bC J<|aw<|ay<|aH J<|zo J (eX (ht J) hI)<|aw<|dn h J (fun h=>?_) (fun h=>?_)
   ·refine am<|aH J<|aH J<|zo J (xF dm (ht J))<|zo J (Aq dm bK (ht J) (ht J))<|aH J<|bI h fun u q_u h=>bI h fun mk q_mk h=>ij (AM (r:=bM) (x:=(0:Int)) bK J J J J dm ku (fun _=>J) (ht J) (ht J) (Fh q_u) q_mk) J fun i=>aH J<|zo J (xD dm (ht J))<|bI h fun y q_y h=>zo J (lH dm bK J (.head _) (ht J) (ht J) q_y)<|wA q_y<|bC J<|aQ ?_;exact cd (K1 y (i.h 0).1 (i.h 0).2 h) (bl J)
   ·refine bE<|F5 false bM 3 ?_;exact cd (K1 my none 0 h) (bl J)
 ·skip
  refine ay<|aH J<|zo J (eW (ht J) hI)<|aw<|dn h J (fun h=>?_) (fun h=>?_)
  ·refine am ?_;exact(nn h).elim
  ·refine bE<|aU ?_;exact cd (K h) (bl J)
theorem Fu(slices:(List (List Int))){R:(List Int)}(h:iF slices=some R):fx ba 206 [dH (dG) slices] false bM 3 R:=by
 refine fx.of Tryz.func206 J J J fun w0 S0=>ay<|bQ false bM 3<|zo J (aP pI)<|aw<|ay<|zo J (d9)<|aw<|af<|ay<|aH J<|zo J (gV ne J)<|zo J (bA hI)<|aw<|ax<|bf (k:=9) J fun hN=>bF<|nM ?_;refine aS (iv (Z:=fun ls i size=>(slices.drop i=ls)∧gn slices ls size=some R) (Of:=fun _ i size=>[]) (Gf:=fun _ i size=>[(0,dH (dG) slices),(3,bD size),(9,dH (dG) slices),(10,fD slices),(11,bD (i:Int))]) (fun i size h=>?_) (fun e tl ih i size h=>?_) slices 0 (0:Int) ⟨J,h⟩) (bl J)
 ·obtain⟨hx,h⟩:=h
  refine aA<|ay<|zo J (ej J J)<|aw<|af<|bu (ht J) (c8 hx)<|bk ?_;refine ac (ac (aM ?_));refine av<|ay<|aH rfl<|bI h fun r q_r h=>iu KT (Ft _ q_r) ⟨hV,(ht J),aT⟩ J fun l c=>bC J<|aw<|af<|ay<|aH J<|zo J (gV ne J)<|zo J (bA hI)<|aw<|ax<|bf (k:=25) J fun hN1=>bF ?_;refine aS (kQ (Z:=fun ls1 i1 newslice l1 c1=>(slices.drop i1=ls1)∧gm ls1 newslice=some R) (Of:=fun _ i1 newslice l1 c1=>[ee bM 3 l1 c1 newslice]) (Gf:=fun _ i1 newslice l1 c1=>[(6,nb l1 c1 newslice),(25,dH (dG) slices),(26,fD slices),(27,bD (i1:Int))]) (fun i1 newslice l1 c1 h=>?_) (fun e1 tl1 ih1 i1 newslice l1 c1 h=>?_) slices 0 r l c ⟨J,h⟩) (bl J)
  ·obtain⟨hx1,h⟩:=h
   refine aA<|ay<|zo J (ej J J)<|aw<|af<|bu (ht J) (c8 hx1)<|bk ?_;refine ac (ac (aM ?_));refine av<|ay<|aH rfl<|bC rfl<|aw<|aq ?_;cases so h;exact eS J J
  ·obtain⟨hx1,h⟩:=h
   refine aA<|ay<|zo J (ej J J)<|aw<|af<|bt (ht J) (cY hx1)<|dJ<|af<|ax<|ay<|zo J (km ne cu J J J (c0 hx1))<|zo J (bz cu J J)<|bC J<|aw<|am<|aH J<|aH J<|bI h fun newslice1 q_newslice1 h=>cT bK J J J J dm J J (ht J) (ht J) q_newslice1 fun l2 c2=>?_;refine bC J<|aQ<|an<|av<|am<|zo rfl (jQ (cI hx1 hN1) rfl)<|aH rfl<|aQ ?_;exact be (aS (ih1 (i1+1) newslice1 l2 c2 ⟨cH hx1,h⟩) (bl J))
 ·obtain⟨hx,h⟩:=h
  refine aA<|ay<|zo J (ej J J)<|aw<|af<|bt (ht J) (cY hx)<|dJ<|af<|ax<|ay<|zo J (km ne cu J J J (c0 hx))<|zo J (bz cu J J)<|bC J<|aw<|ay<|aH J<|aH J<|zo J (gV dm J) ?_;refine zo J (jf (ht J) (ht J))<|bC J<|aw<|ay<|aH J<|zo J (eW (ht J) hI)<|aw<|dn h J (fun h=>?_) (fun h=>?_)
  ·refine am ?_;exact(nn h).elim
  ·refine bE<|an<|av<|am<|zo rfl (jQ (cI hx hN) rfl)<|aH rfl<|aQ ?_;exact be (aS (ih (i+1) (IntKind.i64.wrap (size+(e.length:Int))) ⟨cH hx,h⟩) (bl J))
theorem G3(slices:(List (List Int))){R:(List Int)}(h:iF slices=some R):bn ba 206 [dH (dG) slices] (dX R):=(Fu _ h).spec

theorem CP(tag:Int){R:Int}(h:rU tag=some R):bn ba 235 [bD tag] (bD R):=by
 refine bn.of Tryz.func235 J J J fun w0 S0=>ay<|zo J (d9)<|aw<|af<|ax<|ay<|aH J<|zo J (jR J)<|aH J<|cZ J J (fun hg=>cL J)<|cZ J J (fun hg=>cj (bq J hg) hI)<|zo J (oB J J)<|bC J<|aw<|dn h J (fun h=>?_) (fun h=>?_)
 ·refine ay<|zo J (d9)<|aw<|aq ?_;refine aD (M ?_);cases so h;exact aW J J
 ·refine ay<|aH J<|zo J (dN (ht J) hI)<|aH J<|co J J (fun hg=>cL J)<|co J J (fun hg=>je (bq J hg) hI)<|zo J (mv J J)<|bC J<|aw<|dn h J (fun h=>?_) (fun h=>?_)
  ·refine ay<|zo J (d9)<|aw<|aq ?_;refine aD (M ?_);cases so h;exact aW J J
  ·refine ay<|aH J<|zo J (dN (ht J) hI)<|aH J<|co J J (fun hg=>cL J)<|co J J (fun hg=>je (bq J hg) hI)<|zo J (mv J J)<|bC J<|aw<|dn h J (fun h=>?_) (fun h=>?_)
   ·refine ay<|zo J (d9)<|aw<|aq ?_;refine aD (M ?_);cases so h;exact aW J J
   ·refine bE<|an<|av<|ay<|zo rfl (d9)<|aw<|aq ?_;cases so h;exact aW J J

theorem GK(v:de){R:de}(h:ue v=some R):bn ba 273 [tD db v] (tD db R):=by
 refine bn.of Tryz.func273 J J J fun w0 S0=>ay<|nL (ht J) J fun b=>bg (r:=db) (x:=yu) pw (fun _=>pN _) J fun b1=>aw<|af<|ay<|zo J (dY 0 qR J J J)<|zo J (aX bK J J pf (.tail _ (.head _)) (ht J))<|aw ?_;refine yf (Z:=fun v1=>gH v1=some R) (Of:=fun v1=>[bx db 128 b v1,bx db 128 b1 yu]) (Gf:=fun v1=>[(1,tV (aF b 0)),(2,tV (aF b1 0))]) (fun v1 h=>?_) (fun K=>?_)
 ·skip
  refine av<|ay<|zo rfl (aX pw rfl rfl bm (.head _) (ht rfl))<|bN<|ap pw rfl aj rfl (ht rfl) (ht rfl)<|bc 2 rfl<|aw<|aq<|aU ?_;cases so h;exact iy J pw J J J
 ·skip
  refine af<|ax<|af<|ax<|af ?_;refine yf (Z:=fun v2=>mD v2=some R) (Of:=fun v2=>[bx db 128 b v2,bx db 128 b1 yu]) (Gf:=fun v2=>[(1,tV (aF b 0)),(2,tV (aF b1 0))]) (fun v2 h=>?_) (fun K1=>?_)
  ·skip
   refine av<|ay<|zo rfl (dY 0 qR rfl rfl rfl)<|ap bK rfl rD rfl (ht rfl) hI<|aw<|bk ?_;refine bY J (ac (bY J (ac (aM ?_))));exact cd (K (de.mk (0:Int) v2.N v2.U v2.S) h) (bl J)
  ·skip
   refine af ?_;refine yg (Z:=mC v=some R) (Of:=[bx db 128 b v,bx db 128 b1 yu]) (Gf:=[(1,tV (aF b 0)),(2,tV (aF b1 0))]) (fun h=>?_) (fun K2=>?_)
   ·skip
    refine av<|am<|zo rfl (dY 1 vj rfl rfl rfl)<|ap J9 rfl vJ rfl (ht rfl) hI<|aQ<|an ?_;exact cd (K1 (de.mk v.Kind (0:Int) v.U v.S) h) (bl J)
   ·skip
    refine af<|ax<|af<|af<|ay<|zo J (jR J)<|bC J<|aw<|dn h J (fun h=>?_) (fun h=>?_)
    ·refine bk ?_;refine ac (ac (aM ?_));refine av<|ay<|zo rfl (dY 1 vj rfl rfl rfl)<|zo rfl (aX J9 rfl rfl rP (.tail _ (.head _)) (ht rfl))<|zo rfl (yr rfl)<|aH rfl<|co rfl rfl (fun hg=>dY 1 vj J J J)<|co J J (fun hg=>aX J9 J J rP (.tail _ (.head _)) (bq J hg))<|co J J (fun hg=>dq (bq J hg) hI)<|zo J (mv J J)<|aw<|dn h J (fun h=>?_) (fun h=>?_)
     ·refine bk ?_;refine bY J (ac (bY J (ac (bY J (ac (bY J (ac (aM ?_))))))));refine bU ?_;exact cd (K v h) (bl J)
     ·refine bE<|an<|bU ?_;exact cd (K2 h) (bl J)
    ·refine dJ<|af<|ay<|zo J (jR J)<|bC J<|aw<|dn h J (fun h=>?_) (fun h=>?_)
     ·refine bk ?_;refine ac (ac (bY J (ac (aM ?_))));refine bU ?_;exact cd (K2 h) (bl J)
     ·refine dJ<|af<|ay<|zo J (jR J)<|bC J<|aw<|dn h J (fun h=>?_) (fun h=>?_)
      ·refine bk ?_;refine ac (ac (bY J (ac (bY J (ac (aM ?_))))));refine bU ?_;exact cd (K1 v h) (bl J)
      ·refine dJ<|af<|ay<|zo J (jR J)<|bC J<|aw<|dn h J (fun h=>?_) (fun h=>?_)
       ·refine bk ?_;refine ac (ac (bY J (ac (bY J (ac (bY J (ac (aM ?_))))))));refine av ?_;refine fX (Z:=fun v3=>mB v3=some R) (Of:=fun v3=>[bx db 128 b v3,bx db 128 b1 yu]) (Gf:=fun v3=>[(1,tV (aF b 0)),(2,tV (aF b1 0))]) (fun v3 h=>?_) (fun K3=>?_)
        ·skip
         refine bk ?_;refine bY J (ac (aM ?_));exact cd (K v3 h) (bl J)
        ·skip
         refine ay<|zo J (dY 3 zf J J J)<|zo J (aX Dp J J rO (.tail _ (.head _)) (ht J))<|zo J (yU ip (ht J))<|zo J (je (ht J) hI)<|aw<|dn h J (fun h=>?_) (fun h=>?_)
         ·refine am<|zo J (dY 0 qR J J J)<|bN<|ap bK J rD J (ht J) hI<|zo J (dY 3 zf J J J)<|ap Dp J Bw J (ht J) hS<|aQ ?_;exact cd (K3 (de.mk (0:Int) v.N v.U ([])) h) (bl J)
         ·refine bE<|bU ?_;exact cd (K3 v h) (bl J)
       ·refine dJ<|ay<|zo J (jR J)<|bC J<|aw<|dn h J (fun h=>?_) (fun h=>?_)
        ·refine bk ?_;refine ac (bY J (ac (bY J (ac (bY J (ac (bY J (ac (aM ?_)))))))));refine av<|ay<|zo rfl (dY 0 qR rfl rfl rfl)<|bN<|ap bK rfl rD rfl (ht rfl) hI<|zo rfl (dY 1 vj rfl rfl rfl)<|ap J9 rfl vJ rfl (ht rfl) hI<|zo rfl (dY 2 GG rfl rfl rfl)<|ap HF rfl Bx rfl (ht rfl) hI<|aw<|bk<|aM ?_;exact cd (K (de.mk (0:Int) (0:Int) (0:Int) v.S) h) (bl J)
        ·refine dJ<|bk ?_;refine bY J (ac (bY J (ac (bY J (ac (bY J (ac (bY J (ac (aM ?_))))))))));refine bU ?_;exact cd (K v h) (bl J)

theorem GL(v:de){R:Int}(h:ug v=some R):bn ba 265 [tD db v] (bD R):=by
 refine bn.of Tryz.func265 J J J fun w0 S0=>ay<|zo J (gY J)<|zo J (d9)<|aw<|af<|ay<|zo J (bz pw J J)<|bI h fun r q_r h=>zo J (aK KH (GK _ q_r) ⟨(ht J),aT⟩)<|zo J (cy (y:=yu) pw Fi pN (J))<|zo J (CE FF (ht J) (ht J))<|aw<|dn h J (fun h=>?_) (fun h=>?_)
 ·refine ay<|zo J (d9)<|aw<|aq<|M ?_;cases so h;exact aW J J
 ·refine dJ<|ay<|zo J (d9)<|aw<|aq ?_;cases so h;exact aW J J

theorem GM(v:de){R:Bool}(h:uf v=some R):bn ba 254 [tD db v] (eH R):=by
 refine bn.of Tryz.func254 J J J fun w0 S0=>ay<|zo J (gY J)<|zo J (eZ)<|aw<|ay<|zo J (bz pw J J)<|bI h fun r q_r h=>zo J (aK KI (GL _ q_r) ⟨(ht J),aT⟩)<|zo J (jR J)<|aH J<|co J J (fun hg=>cr qR pf J J)<|co J J (fun hg=>bp bK J J (bq J hg))<|co J J (fun hg=>dq (bq J hg) hI)<|zo J (mv J J)<|bC J<|aw<|aq ?_;cases so h;exact aW J J

theorem GT(n:bT){R:Bool}(h:uB n=some R):bn ba 236 [tD aY n] (eH R):=by
 refine bn.of Tryz.func236 J J J fun w0 S0=>ay<|zo J (gY J)<|zo J (eZ)<|aw<|af<|ay<|zo J (cr gE dV J J)<|zo J (bz bK J J)<|aw<|ax<|ay<|zo J (jR J)<|bC J<|aw<|dn h J (fun h=>?_) (fun h=>?_)
 ·refine ay<|zo J (cr sN mU J J)<|zo J (bz pw J J)<|bI h fun r q_r h=>zo J (aK KM (GM _ q_r) ⟨(ht J),aT⟩)<|aH J<|co J J (fun hg=>cr kJ fJ J J)<|co J J (fun hg=>bp bK J J (bq J hg))<|co J J (fun hg=>cj (bq J hg) hI)<|zo J (mv J J)<|bC J<|aw<|aq ?_;refine aD (M ?_);cases so h;exact aW J J
 ·refine ay<|zo J (jR J)<|bC J<|aw<|dn h J (fun h=>?_) (fun h=>?_)
  ·refine ay<|zo J (cr sN mU J J)<|zo J (bz pw J J)<|zo J (cy (y:=yu) pw Fi pN (J))<|zo J (CI FF (ht J) (ht J))<|aH J<|co J J (fun hg=>cr kJ fJ J J)<|co J J (fun hg=>bp bK J J (bq J hg))<|co J J (fun hg=>dN (bq J hg) hI)<|zo J (mv J J)<|aH J<|co J J (fun hg=>cr kJ fJ J J)<|co J J (fun hg=>bp bK J J (bq J hg))<|co J J (fun hg=>eW (bq J hg) hI)<|zo J (mv J J)<|bC J<|aw<|aq ?_;refine aD (M ?_);cases so h;exact aW J J
  ·refine bE<|an<|av<|ay<|zo rfl (cr sN mU rfl rfl)<|zo rfl (bz pw rfl rfl)<|zo rfl (cy (y:=yu) pw Fi pN (J))<|zo J (CI FF (ht J) (ht J))<|aH J<|co J J (fun hg=>cr kJ fJ J J)<|co J J (fun hg=>bp bK J J (bq J hg))<|co J J (fun hg=>cj (bq J hg) hI)<|zo J (mv J J)<|bC J<|aw<|aq ?_;cases so h;exact aW J J

theorem CR(e:bw){R:(List Int)×Bool}(h:qt e=some R):bn ba 203 [tD br e] (tT [dX R.1,eH R.2]):=by
 refine bn.of Tryz.func203 J J J fun w0 S0=>ay<|zo J (gY J)<|zo J (aP (show aG _ _ _ lQ from ib))<|zo J (eZ)<|aw<|ay<|bQ false bM 3<|zo J (aP pI)<|bQ false bM 3<|zo J (aP pI)<|aw<|af<|ay<|zo J (cr dW cC J J)<|zo J (bz jG J J)<|zo J (gV iT J)<|zo J (bA hI)<|aQ ?_;refine av<|ax<|bf (k:=15) J fun hN=>bF<|eA ?_;refine aS (wC (Z:=fun ls i all l c open1 l1 c1=>(e.Nodes.drop i=ls)∧kK ls i all open1=some R) (Of:=fun _ i all l c open1 l1 c1=>[ee bM 3 l c all,ee bM 3 l1 c1 open1]) (Gf:=fun _ i all l c open1 l1 c1=>[(4,nb l c all),(5,nb l1 c1 open1),(15,dH (aY) e.Nodes),(16,fD e.Nodes),(17,bD (i:Int))]) (fun i all l c open1 l1 c1 h=>?_) (fun e1 tl ih i all l c open1 l1 c1 h=>?_) e.Nodes 0 my none 0 my none 0 ⟨J,h⟩) (bl J)
 ·obtain⟨hx,h⟩:=h
  refine aA<|ay<|zo J (ej J J)<|aw<|af<|bu (ht J) (c8 hx)<|bk ?_;refine ac (ac (aM ?_));refine av<|ay<|aH rfl<|aH rfl<|zo rfl (eF dm (.tail _ (.head _)) (ht rfl))<|zo rfl (jR rfl)<|aH rfl<|co rfl rfl (fun hg=>cL J)<|co J J (fun hg=>eF dm (.head _) (bq J hg))<|co J J (fun hg=>je (bq J hg) hI)<|zo J (mv J J)<|bC J<|bC J<|aw<|aq<|fY<|cB 4 J<|cB 84 J<|cB 2 J<|gS 2 J<|aU<|aU ?_;cases so h;exact cv J J J
 ·obtain⟨hx,h⟩:=h
  refine aA<|ay<|zo J (ej J J)<|aw<|af<|bt (ht J) (cY hx)<|dJ<|af<|ax<|ay<|aH J<|zo J (km iT da J J J (c0 hx))<|zo J (bz da J J)<|bg (r:=aY) (x:=zK) da (fun _=>kw _) J fun b=>bC J<|ap da J aj J (ht J) (ht J)<|bc 7 J<|aw<|af ?_;refine am<|zo J (cr gE dV J J)<|zo J (bz bK J J)<|bI h fun r q_r h=>zo J (aK HN (CP _ q_r) ⟨(ht J),aT⟩)<|bC J<|aw<|af<|ay<|aH J<|zo J (eW (ht J) hI)<|aH J<|cZ J J (fun hg=>cL J)<|cZ J J (fun hg=>cL J)<|cZ J J (fun hg=>eF dm (.tail _ (.head _)) (bq J hg))<|cZ J J (fun hg=>eX (bq J hg) (bq J hg))<|zo J (oB J J)<|aH J<|bI h fun t q_t h=>cZ J J (fun hg=>bz da J J) ?_
  obtain⟨r1,h1t,h0t⟩:=og q_t
  have q_r1g:=fun hb=>(h1t hb).1
  refine cZ J J (fun hg=>aK KU (GT _ (q_r1g hg)) ⟨(bq J hg),aT⟩)<|cZ J J (fun hg=>d8 (bq J hg))<|zo J (ez (ht J) (fun hb=>(bq J (pG hb))) (fun hb=>(h1t hb).2) h0t)<|aw<|dn h J (fun h=>?_) (fun h=>?_)
  ·refine ay<|zo J (aP (show aG _ _ _ lQ from ib))<|zo J (eZ)<|aw<|aq ?_;refine M (aD (M (M (aD (M ?_)))));refine aU<|aU ?_;cases so h;exact cv J J J
  ·refine dJ<|ay<|aH J<|aH J<|zo J (eF dm (.tail _ (.head _)) (ht J))<|aH J<|zo J (eV (ht J) (ht J))<|bI h fun y q_y h=>zo J (lG dm bK J (.tail _ (.head _)) (ht J) (ht J) q_y)<|kP (.tail _ (.head _)) q_y fun hv=>bC J<|aw<|ay<|zo J (tF (r:=bM) (ys:=[mw,mw]) (xs:=[.const (.int .i64 (-1)),.const (.int .i64 (-1))]) Dg bK J xg J J ⟨hI,hI,aT⟩)<|bg (r:=Dj) (x:=(List.replicate 2 (0:Int))) xg (fun _=>FR (r:=bM) 2 (fun _=>J) _) J fun b1=>ap xg J aj J (ht J) (ht J)<|aw<|ay ?_;refine aH J<|bC J<|aw<|af<|ay<|aH J<|zo J (Gv dm (.tail _ (.tail _ (.head _))) q_y (ht J))<|zo J (bA hI)<|aw<|ax ?_
   have hN1:=hv.2
   refine bF<|jC<|jC ?_;refine aS (kR (Z:=fun ls1 i1 first at1=>(y.drop i1=ls1)∧mW (kK tl) i e1 all open1 r ls1 i1 first at1=some R) (Of:=fun _ i1 first at1=>[ee bM 3 l c all,ee bM 3 l1 c1 open1,bx Dj 141 b1 at1]) (Gf:=fun _ i1 first at1=>[(4,nb l c all),(5,nb l1 c1 open1),(6,bD (i:Int)),(7,bj aY e1),(8,bD r),(10,tV (aF b1 0)),(11,bD first),(15,dH (aY) e.Nodes),(16,fD e.Nodes),(17,bD (i:Int)),(46,tV (iZ 1 l1 c1 (IntKind.i64.wrap ((open1.length:Int)-r)).toNat y.length)),(47,fD y),(48,bD (i1:Int))]) (fun i1 first at1 h=>?_) (fun e2 tl1 ih1 i1 first at1 h=>?_) y 0 (i:Int) ([mw,mw]) ⟨J,h⟩) (bl J)
   ·obtain⟨hx1,h⟩:=h
    refine aA<|ay<|zo J (ej J J)<|aw<|af<|bu (ht J) (c8 hx1)<|bk ?_;refine ac (ac (aM ?_));refine av<|af<|ay<|zo rfl (aX xg rfl rfl bm (.tail _ (.tail _ (.head _))) (ht rfl))<|zo rfl (cr sP ph rfl rfl)<|zo rfl (bz bK rfl rfl)<|zo rfl (cr sO pg rfl rfl)<|zo rfl (bz bK rfl rfl)<|zo rfl (tF (r:=bM) (ys:=[e1.L,e1.R]) (xs:=[.tmp 65,.tmp 67]) Dg bK J xg J J ⟨(ht J),(ht J),aT⟩)<|zo J (CE KC (ht J) (ht J))<|aw<|dn h J (fun h=>?_) (fun h=>?_)
    ·refine ay<|zo J (aP (show aG _ _ _ lQ from ib))<|zo J (eZ)<|aw<|aq ?_;refine M (aD (M (M (aD (M ?_)))));refine aU<|aU<|aU ?_;cases so h;exact cv J J J
    ·refine dJ<|ay<|aH J<|aH J<|zo J (aR (r:=bM) (ys:=[first]) (xs:=[.tmp 71]) dm bK J J J J J ⟨(ht J),aT⟩)<|bI h fun all1 q_all1 h=>cT bK J J J J dm J J (ht J) (ht J) q_all1 fun l2 c2=>bC J<|aw<|am<|aH J<|aH J<|zo J (eF dm (.tail _ (.head _)) (ht J))<|aH J<|zo J (eV (ht J) (ht J))<|bI h fun y1 q_y1 h=>zo J (lH dm bK J (.tail _ (.head _)) (ht J) (ht J) q_y1)<|aH J<|zo J (aR (r:=bM) (ys:=[(i:Int)]) (xs:=[.tmp 80]) dm bK J J J J J ⟨(ht J),aT⟩)<|bN<|wA q_y1 ?_;refine bI h fun open2 q_open2 h=>cT bK J J J J dm J J (ht J) (ht J) q_open2 fun l3 c3=>bC J<|aQ<|an<|av<|am<|zo rfl (jQ (cI hx hN) rfl)<|aH rfl<|aQ<|au<|aU<|bU ?_;exact be (aS (ih (i+1) all1 l2 c2 open2 l3 c3 ⟨cH hx,h⟩) (bl J))
   ·obtain⟨hx1,h⟩:=h
    refine aA<|ay<|zo J (ej J J)<|aw<|af<|bt (ht J) (cY hx1)<|dJ<|af<|ax<|ay<|aH J<|zo J (wV dm bK J (.tail _ (.head _)) q_y (ht J) (ht J) (c0 hx1))<|zo J (d5 (r:=bM) (i:=((IntKind.i64.wrap ((open1.length:Int)-r))+(i1:Int))) (foff:=0) bK J J bm J (.tail _ (.head _)) (vH q_y (c0 hx1)).1 (ht J))<|bC J<|bC J<|aw<|bI h fun e3 q_e3 h=>bI h fun e4 q_e4 h=>bI h fun ar q_ar h=>?_
    refine fg 10 [tc (bD (i1:Int)),tc (bD e2),tc (bD first),tc (nb l c all),tc (bD e2),tc (tV (iY l (e2.toNat*1+0))),tc (bD e3),tc (bD (min first e3)),tc (tV (aF b1 ((i1:Int).toNat*1))),tc (sj)] [false,false,false,false,false,false,false,false,false,true] [fun _=>[ee bM 3 l c all,ee bM 3 l1 c1 open1,bx Dj 141 b1 at1],fun sg=>[bx Dj 141 b1 ar,ee bM 3 l c all,ee bM 3 l1 c1 open1]] J mixed J J J J J
     ⟨⟨[⟨12,fun _=>tD bM (i1:Int),none⟩],_,0,0,J,⟨(fun _=>J),aT⟩,J,J,J,J,J,fun _ sg _ _=>ae J (cL J)⟩,
     ⟨⟨[⟨13,fun _=>tD bM e2,none⟩],_,0,0,J,⟨(fun _=>J),aT⟩,J,J,J,J,J,fun _ sg _ _=>ae J (cL J)⟩,
     ⟨⟨[⟨11,fun _=>tD bM first,none⟩],_,0,1,J,⟨(fun _=>J),aT⟩,J,J,J,J,J,fun _ sg _ _=>ae J (cL J)⟩,
     ⟨⟨[⟨4,fun _=>tV (aC l c all.length),none⟩],_,0,1,J,⟨(fun _=>J),aT⟩,J,J,J,J,J,fun _ sg _ _=>ae J (cL J)⟩,
     ⟨⟨[⟨13,fun _=>tD bM e2,none⟩],_,0,1,J,⟨(fun _=>J),aT⟩,J,J,J,J,J,fun _ sg _ _=>ae J (cL J)⟩,
     ⟨⟨[⟨56,fun _=>tV (aC l c all.length),some 3⟩,⟨57,fun _=>tD bM e2,some 4⟩],_,0,1,J,⟨(fun _=>J),(fun _=>J),aT⟩,J,J,J,J,J,vC (fun sg=>ae J (ce dm bK (.head _) (ht J) (ht J) q_e3)) (qY (fun sg=>ae J (ce dm bK (.tail _ (.head _)) (ht J) (ht J) q_e3)))⟩,
     ⟨⟨[⟨58,fun _=>tV (iY l (e2.toNat*1+0)),some 5⟩],_,0,1,J,⟨(fun _=>J),aT⟩,J,J,J,J,J,vC (fun sg=>ae J (d5 (r:=bM) (i:=e2) (foff:=0) bK J J bm J (.head _) q_e3 (ht J))) (qY (fun sg=>ae J (d5 (r:=bM) (i:=e2) (foff:=0) bK J J bm J (.tail _ (.head _)) q_e3 (ht J))))⟩,
     ⟨⟨[⟨55,fun _=>tD bM first,some 2⟩,⟨59,fun _=>tD bM e3,some 6⟩],_,0,1,J,⟨(fun _=>J),(fun _=>J),aT⟩,J,J,J,J,J,fun _ sg _ _=>ae J (CF (ht J) (ht J))⟩,
     ⟨⟨[⟨10,fun _=>tV (aF b1 0),none⟩,⟨53,fun _=>tD bM (i1:Int),some 0⟩],_,0,0,J,⟨(fun _=>J),(fun _=>J),aT⟩,J,J,J,J,J,qY (fun sg=>ae J (wU Dg bK (.tail _ (.tail _ (.head _))) (ht J) (ht J) q_e4))⟩,
     ⟨⟨[⟨61,fun _=>tV (aF b1 ((i1:Int).toNat*1)),some 8⟩,⟨54,fun _=>tD bM e2,some 1⟩],_,J,⟨(fun _=>J),(fun _=>J),aT⟩,J,J,J,fun sg=>bS J (EffOK.fr2 (Cb bK J q_e4 (so q_ar) (ht J) (ht J)))⟩,
     aT⟩⟩⟩⟩⟩⟩⟩⟩⟩⟩ (fun sg=>?_)
    refine(show RG _ _ _ _ [bx Dj 141 b1 ar,ee bM 3 l c all,ee bM 3 l1 c1 open1] _ from ?_);refine bC J<|aQ<|an<|av<|am<|zo rfl (jQ (cI hx1 hN1) rfl)<|aH rfl<|aQ<|au<|au ?_;exact be (aS (ih1 (i1+1) (min first e3) ar ⟨cH hx1,h⟩) (bl J))

end Go.Proofs.YtnmjbolollcokaaGreatDoor

