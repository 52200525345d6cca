/- cT of this claim: P0. -/
import Derived.Test.YtfhhakidodmdfaaGreatDoorJeT
import Derived.Test.YtfhhakidodmdfaaGreatDoorJeF
set_option linter.all false
namespace Go.Proofs.YtfhhakidodmdfaaGreatDoor
open Go
abbrev Xd:=fun(mc:aC) (mx:ak)=>(fS mc mx).map fun mr=>(mr,mc)
abbrev Xc:=fun(mc:aC) (mx:ak)=>(gI mc mx).map fun mr=>(mr,mc)
abbrev Xh:=fun(mc:aC) (mx:ak)=>(fT mc mx).map fun mr=>(mr,mc)
abbrev Xe:=fun(mc:aC) (mx:ak)=>(gq mc mx).map fun mr=>(mr,mc)
abbrev Xi:=fun(mc:aC) (mx:ak)=>(fj mc mx).map fun mr=>(mr,mc)
abbrev Xj:=fun(mc:aC) (mx:ak)=>(eT mc mx).map fun mr=>(mr,mc)
abbrev Xg:=fun(mc:aC) (mx:ak)=>(gn mc mx).map fun mr=>(mr,mc)
abbrev Xf:=fun(mc:aC) (mx:ak)=>(gp mc mx).map fun mr=>(mr,mc)
abbrev LB:=cY (cY (cY (cY (cY (cY (cY (cY ([]:List (Int×(aC→ak→Option (((List Int)×Bool)×aC)))) (1:Int) Xd) (2:Int) Xc) (3:Int) Xh) (4:Int) Xe) (5:Int) Xi) (6:Int) Xj) (7:Int) Xg) (8:Int) Xf
abbrev WW:=fun(mc:cW) (mx:ak)=>(kM mc mx).map fun mr=>(mr,mc)
abbrev WV:=fun(mc:cW) (mx:ak)=>(jA mc mx).map fun mr=>(mr,mc)
abbrev W0:=fun(mc:cW) (mx:ak)=>(jt mc mx).map fun mr=>(mr,mc)
abbrev WX:=fun(mc:cW) (mx:ak)=>(iT mc mx).map fun mr=>(mr,mc)
abbrev Xa:=fun(mc:cW) (mx:ak)=>(iS mc mx).map fun mr=>(mr,mc)
abbrev Xb:=fun(mc:cW) (mx:ak)=>(iv mc mx).map fun mr=>(mr,mc)
abbrev WZ:=fun(mc:cW) (mx:ak)=>(j4 mc mx).map fun mr=>(mr,mc)
abbrev WY:=fun(mc:cW) (mx:ak)=>(j5 mc mx).map fun mr=>(mr,mc)
abbrev Qx:=cY (cY (cY (cY (cY (cY (cY (cY ([]:List (Int×(cW→ak→Option (((List (List ac))×Int)×cW)))) (1:Int) WW) (2:Int) WV) (3:Int) W0) (4:Int) WX) (5:Int) Xa) (6:Int) Xb) (7:Int) WZ) (8:Int) WY
abbrev hJ:=(⟨(0:Int),(0:Int),(0:Int),[]⟩:ac)
abbrev cV:=fH af
abbrev p8:=fun(x:ac×ac)=>[tD af x.1,tD af x.2]
abbrev sF:=fun(x:ac×Int)=>tT [tD af x.1,bI x.2]
abbrev pc:=fun(x:ak)=>[tD aI x]
abbrev Bx:=(⟨[]⟩:bK)
abbrev Hu:=(⟨(0:Int),(0:Int),(0:Int),(0:Int),[],false,Bx,[],[],[],[],(0:Int)⟩:ak)
abbrev bT:=rI .i64
abbrev DL:=fun(x:(List ac)×(List ac))=>[bZ (af) x.1,bZ (af) x.2]
abbrev oE:=fun(x:(List Int)×Bool)=>tT [mh x.1,iz x.2]
abbrev nq:=fun(x:Bool)=>iz x
abbrev qa:=fun(x:(List (List ac))×Int)=>tT [bZ (cV) x.1,bI x.2]
abbrev c9:=fH cV
abbrev CZ:=fun(x:ac×Int)=>tT [tD af x.1,tD bT x.2]
abbrev Al:=fun(x:ac)=>[tD af x]
abbrev yF:=fun(x:Int)=>bI x
abbrev kP:=kvI .i64
abbrev Bw:=([]:List (List ac))
abbrev Qw:=(⟨(0:Int),(0:Int),(0:Int),(0:Int),hJ⟩:bm)
abbrev uq:=([]:List Int)
abbrev vz:=bZ (cV) ([])
abbrev S8:=fun(x:bm×(List ac))=>[tD bN x.1,bZ (af) x.2]
abbrev S7:=fun(x:(List ac)×(List ac))=>[tD cV x.1,tD cV x.2]
abbrev Qv:=(⟨(1:Int),(0:Int),(0:Int),[]⟩:ac)
abbrev S6:=fun(x:bm×(List ac))=>[tD bN x.1,tD cV x.2]
abbrev Hx:=fun(x:Bool)=>tD rB x
abbrev Jd:=uz (fun y:Bool=>iz y)
abbrev S5:=fun(x:bm×(List Int))=>[tD bN x.1,mh x.2]
abbrev Jc:=fun(x:Int)=>[bI x]
abbrev wT:=fH bT
abbrev WU:=fun(x:bm×(List Int))=>[tD bN x.1,tD wT x.2]
abbrev S4:=fun(x:Int×Int)=>tT [bI x.1,bI x.2]
abbrev vy:=(-1:Int)
abbrev Hw:=([]:List ac)
abbrev Qu:=fun(x:gE)=>[tD gA x]
abbrev wU:=mh ([])
abbrev Jb:=(⟨[]⟩:bE)
abbrev Qt:=(⟨(1:Int),Bx⟩:gM)
abbrev WT:=fun(x:Int×Int)=>tT [tD bT x.1,tD bT x.2]
abbrev Pa:=([]:List (List Int))
abbrev S3:=([]:List (List (List ac)))
abbrev SZ:=fun(x:Int)=>tD bT x
abbrev SY:=(⟨[],[]⟩:g9)
abbrev WS:=(⟨(0:Int),Bx⟩:gM)
abbrev Hv:=rI .u64
set_option maxRecDepth 100000

theorem Uy(s:(List Int))(f:(Int→Option Bool)){R:Int}(h:ld s f=some R):aV aR 321 [mh s,(dX aR Jc nq (fun(x:Int)=>f x))] (bI R):=by
 refine aV.of Tryz.func321 J J J fun w0 S0=>aw<|zo J (cF)<|au<|ah<|aw<|aF J<|zo J (iJ gF J)<|zo J (bG hI)<|au<|aA<|bc (k:=6) J fun hN=>bJ ?_;refine aT (eI (Z:=fun ls i=>(s.drop i=ls)∧fq f ls i=some R) (Of:=fun _ i=>[]) (Gf:=fun _ i=>[(0,mh s),(1,(dX aR Jc nq (fun(x:Int)=>f x))),(7,jr s),(8,bI (i:Int))]) (fun i h=>?_) (fun e tl ih i h=>?_) s 0 ⟨J,h⟩) (bt J)
 ·obtain⟨hx,h⟩:=h
  refine aB<|aw<|zo J (fL J J)<|au<|ah<|bz (ht J) (du hx)<|bu ?_;refine ai (ai (aN ?_));refine av<|aw<|zo rfl (cF)<|au<|am ?_;cases so h;exact aL J J
 ·obtain⟨hx,h⟩:=h
  refine aB<|aw<|zo J (fL J J)<|au<|ah<|bw (ht J) (dl hx)<|dU<|ah<|aA<|aw<|aF J<|bo J<|au<|aw<|aF J<|aF J<|aF J<|zo J (ml gF cu J J J (cX hx)) ?_;refine zo J (bC cu J J)<|bB h fun r q_r h=>zo J (gS (args:=(fun(x:Int)=>[tD bT x])) (res:=Hx) (f:=(fun(x:Int)=>f x)) (x:=((e):Int)) (ht J) q_r ⟨(ht J),aS⟩)<|au<|dd h J (fun h=>?_) (fun h=>?_)
  ·refine aw<|aF J<|bo J<|au<|am ?_;refine aD (ae (ae (aD (ae ?_))));cases so h;exact aL J J
  ·refine bA<|ap<|av<|aq<|zo rfl (lZ (cL hx hN) rfl)<|aF rfl<|aQ ?_;exact bg (aT (ih (i+1) ⟨cK hx,h⟩) (bt J))

theorem Dp(s:(List Int))(f:(Int→Option Bool)){R:Bool}(h:cz s f=some R):aV aR 258 [mh s,(dX aR Jc nq (fun(x:Int)=>f x))] (iz R):=by
 refine aV.of Tryz.func258 J J J fun w0 S0=>aw<|zo J (jS)<|au<|aw<|aF J<|aF J<|bB h fun r q_r h=>zo J (aE aar (Uy _ _ q_r) ⟨(ht J),(ht J),aS⟩)<|zo J (jg (ht J) hI)<|bo J<|au<|am ?_;cases so h;exact aL J J

theorem UF(k:Int){R:Bool}(h:CC k=some R):aV aR 280 [bI k] (iz R):=by
 refine aV.of Tryz.func280 J J J fun w0 S0=>aw<|zo J (jS)<|au<|aw<|aF J<|zo J (nr J)<|aF J<|gY J J (fun hg=>dv J)<|gY J J (fun hg=>dw (bP J hg) hI)<|zo J (yE J J)<|aF J<|gY J J (fun hg=>dv J)<|gY J J (fun hg=>dw (bP J hg) hI)<|zo J (yE J J)<|bo J<|au<|am ?_;cases so h;exact aL J J

theorem UG(k:Int){R:Bool}(h:ji k=some R):aV aR 279 [bI k] (iz R):=by
 refine aV.of Tryz.func279 J J J fun w0 S0=>aw<|zo J (jS)<|au<|aw<|aF J<|bB h fun r q_r h=>zo J (aE aaz (UF _ q_r) ⟨(ht J),aS⟩)<|zo J (gg (ht J))<|bo J<|au<|am ?_;cases so h;exact aL J J

theorem Yi(b:Nat)(ix:OI)(c:aC)(n:ak){R:(List Int)×Bool}(h:fS c n=some R):c0 aR 202 [tV (aP b 0),tD aI n] (dC b c ix) (fun _:OI=>tT [mh R.1,iz R.2]) (fun _=>(dC b c ix)):=by
 refine c0.of Tryz.func202 J J J fun w0 S0=>?_;refine(show CG _ _ _ [bx (rH bk [(1,aO (ix.h 0).1 (ix.h 0).2 c.kinds.length),(2,aO (ix.h 1).1 (ix.h 1).2 c.first.length)]) 115 b c,dS ny 39 (ix.h 0).1 (ix.h 0).2 c.kinds,dS bT 3 (ix.h 1).1 (ix.h 1).2 c.first] _ from ?_);refine aw<|zo J (js J)<|zo J (aK (show aH _ _ _ wU from jO))<|zo J (jS)<|au<|aw<|zo J (aK (show aH _ _ _ ((dX aR Jc nq (fun(x:Int)=>ji x)))from(y9 aaA fun x y h=>UG _ h)))<|au<|aw<|zo J (de te ln J J)<|zo J (bC cu J J)<|zo J (jg (ht J) hI)<|aF J<|dK J J (fun hg=>de te ln J J)<|dK J J (fun hg=>bO cu J J (bP J hg))<|dK J J (fun hg=>gD (bP J hg) hI)<|zo J (uK J J)<|aF J<|dK J J (fun hg=>de uC nT J J) ?_;refine dK J J (fun hg=>bO d7 J J (bP J hg))<|dK J J (fun hg=>dQ gF (bP J hg))<|dK J J (fun hg=>jg (bP J hg) hI)<|zo J (uK J J)<|aF J<|dK J J (fun hg=>de uC nT J J)<|dK J J (fun hg=>bO d7 J J (bP J hg))<|dK J J (fun hg=>dQ gF (bP J hg))<|dK J J (fun hg=>nN (bP J hg) hI)<|zo J (uK J J)<|bo J<|au<|ah<|bB h fun t q_t h=>?_
 obtain⟨r,h1t,h0t⟩:=og q_t
 have q_rg:=fun hb=>(h1t hb).1
 refine dc (ts:=[_,_,_,_,_,_,_,_,_,_,_,_]) mixed J J
  ⟨fb 3 J J J (de uC nT J J),
  ⟨ca 28 0 J J J (bC d7 J J),
  ⟨fb 7 J J J (dv J),
  ⟨ca 30 2 J J J (dv J),
  ⟨sG 3 31 3 J J J J (fa J J J J (fun hg=>de uC nT J J)),
  ⟨lB 32 4 31 3 J J J J (fa J J J J (fun hg=>bO d7 J J (bP J hg))),
  ⟨sG 6 31 3 J J J J (fa J J J J (fun hg=>dv J)),
  ⟨wj 33 5 34 6 31 3 J J J J J (fa J J J J (fun hg=>aE OM (Dp _ _ (q_rg hg)) ⟨(bP J hg),(bP J hg),aS⟩)),
  ⟨lB 35 7 31 3 J J J J (fa J J J J (fun hg=>gg (bP J hg))),
  ⟨d6 31 3 36 8 J J J J (ff (ht J) (fun hb=>(bP J hb)) (fun hb=>(h1t hb).2) h0t),
  ⟨ca 29 1 J J J (uM J),
  ⟨ca 37 9 J J J (uM J),
  aS⟩⟩⟩⟩⟩⟩⟩⟩⟩⟩⟩⟩ ?_
 refine av<|am<|aJ<|aJ<|aJ ?_;cases so h;exact d5 (ts:=[mh n.Kinds,iz t]) (rvs:=[.tmp 4,.tmp 5]) J J ⟨aZ J,aZ J,aS⟩ oU J J

theorem RO(n:Int){R:(List Int)}(h:lx n=some R):fJ aR 343 [tV (.slice none 0 0),bI n] false bT 3 R:=by
 refine fJ.of Tryz.func343 J J J fun w0 S0=>aw<|bL false bT 3<|zo J (aK rr)<|au ?_;refine vp (Z:=mp n=some R) (Of:=[]) (Gf:=[(0,tV (.slice none 0 0)),(1,bI n)]) (fun h=>?_) (fun K=>?_)
 ·skip
  refine yz (Z:=fun s l c=>mo s=some R) (Of:=fun s l c=>[eH bT 3 l c s]) (Gf:=fun s l c=>[(0,qS l c s)]) (fun s l c h=>?_) (fun K1=>?_)
  ·skip
   refine aw<|aF J<|bo J<|au<|am ?_;cases so h;exact fE J J
  ·skip
   refine aw<|aF J<|aF J<|zo J (sq gF (ht J))<|aF J<|zo J (sn gF (ht J))<|zo J (jf (ht J) (ht J))<|zo J (jf (ht J) (ht J))<|bo J<|au<|aw<|aF J<|zo J (gm (ht J) hI)<|au<|dd h J (fun h=>?_) (fun h=>?_)
   ·refine aq<|aF J<|aF J<|zo J (sq gF (ht J))<|zo J (xn gF cu (ht J) (ht J))<|aF J<|bB h fun u q_u h=>bB h fun mk q_mk h=>zS (xA (r:=bT) (x:=(0:Int)) cu J J J J gF kC (fun _=>J) (ht J) (ht J) (EU q_u) q_mk) J fun i=>aF J<|zo J (sn gF (ht J))<|bB h fun y q_y h=>zo J (kX gF cu J (.head _) (ht J) (ht J) q_y)<|we q_y<|bo J<|aQ ?_;exact cC (K1 y (i.h 0).1 (i.h 0).2 h) (bt J)
   ·refine bA<|FH false bT 3 ?_;exact cC (K1 uq none 0 h) (bt J)
 ·skip
  refine aw<|aF J<|zo J (gD (ht J) hI)<|au<|dd h J (fun h=>?_) (fun h=>?_)
  ·refine aq ?_;exact(nn h).elim
  ·refine bA<|be ?_;exact cC (K h) (bt J)
theorem RP(slices:(List (List Int))){R:(List Int)}(h:iG slices=some R):fJ aR 281 [bZ (ny) slices] false bT 3 R:=by
 refine fJ.of Tryz.func281 J J J fun w0 S0=>aw<|bL false bT 3<|zo J (aK rr)<|au<|aw<|zo J (cF)<|au<|ah<|aw<|aF J<|zo J (iJ vv J)<|zo J (bG hI)<|au<|aA<|bc (k:=9) J fun hN=>bJ<|oR ?_;refine aT (oa (Z:=fun ls i size=>(slices.drop i=ls)∧iZ slices ls size=some R) (Of:=fun _ i size=>[]) (Gf:=fun _ i size=>[(0,bZ (ny) slices),(3,bI size),(9,bZ (ny) slices),(10,jr slices),(11,bI (i:Int))]) (fun i size h=>?_) (fun e tl ih i size h=>?_) slices 0 (0:Int) ⟨J,h⟩) (bt J)
 ·obtain⟨hx,h⟩:=h
  refine aB<|aw<|zo J (fL J J)<|au<|ah<|bz (ht J) (du hx)<|bu ?_;refine ai (ai (aN ?_));refine av<|aw<|aF rfl<|bB h fun r q_r h=>il aab (RO _ q_r) ⟨hV,(ht J),aS⟩ J fun l c=>bo J<|au<|ah<|aw<|aF J<|zo J (iJ vv J)<|zo J (bG hI)<|au<|aA<|bc (k:=25) J fun hN1=>bJ ?_;refine aT (jq (Z:=fun ls1 i1 newslice l1 c1=>(slices.drop i1=ls1)∧iY ls1 newslice=some R) (Of:=fun _ i1 newslice l1 c1=>[eH bT 3 l1 c1 newslice]) (Gf:=fun _ i1 newslice l1 c1=>[(6,qS l1 c1 newslice),(25,bZ (ny) slices),(26,jr slices),(27,bI (i1:Int))]) (fun i1 newslice l1 c1 h=>?_) (fun e1 tl1 ih1 i1 newslice l1 c1 h=>?_) slices 0 r l c ⟨J,h⟩) (bt J)
  ·obtain⟨hx1,h⟩:=h
   refine aB<|aw<|zo J (fL J J)<|au<|ah<|bz (ht J) (du hx1)<|bu ?_;refine ai (ai (aN ?_));refine av<|aw<|aF rfl<|bo rfl<|au<|am ?_;cases so h;exact fE J J
  ·obtain⟨hx1,h⟩:=h
   refine aB<|aw<|zo J (fL J J)<|au<|ah<|bw (ht J) (dl hx1)<|dU<|ah<|aA<|aw<|zo J (ml vv d7 J J J (cX hx1))<|zo J (bC d7 J J)<|bo J<|au<|aq<|aF J<|aF J<|bB h fun newslice1 q_newslice1 h=>cO cu J J J J gF J J (ht J) (ht J) q_newslice1 fun l2 c2=>?_;refine bo J<|aQ<|ap<|av<|aq<|zo rfl (lZ (cL hx1 hN1) rfl)<|aF rfl<|aQ ?_;exact bg (aT (ih1 (i1+1) newslice1 l2 c2 ⟨cK hx1,h⟩) (bt J))
 ·obtain⟨hx,h⟩:=h
  refine aB<|aw<|zo J (fL J J)<|au<|ah<|bw (ht J) (dl hx)<|dU<|ah<|aA<|aw<|zo J (ml vv d7 J J J (cX hx))<|zo J (bC d7 J J)<|bo J<|au<|aw<|aF J<|aF J<|zo J (iJ gF J) ?_;refine zo J (nO (ht J) (ht J))<|bo J<|au<|aw<|aF J<|zo J (gD (ht J) hI)<|au<|dd h J (fun h=>?_) (fun h=>?_)
  ·refine aq ?_;exact(nn h).elim
  ·refine bA<|ap<|av<|aq<|zo rfl (lZ (cL hx hN) rfl)<|aF rfl<|aQ ?_;exact bg (aT (ih (i+1) (IntKind.i64.wrap (size+(e.length:Int))) ⟨cK hx,h⟩) (bt J))
theorem UE(slices:(List (List Int))){R:(List Int)}(h:iG slices=some R):aV aR 281 [bZ (ny) slices] (mh R):=(RP _ h).spec

theorem Dq(tag:Int){R:Int}(h:o9 tag=some R):aV aR 213 [bI tag] (bI R):=by
 refine aV.of Tryz.func213 J J J fun w0 S0=>aw<|zo J (cF)<|au<|ah<|aA<|aw<|aF J<|zo J (nr J)<|aF J<|gY J J (fun hg=>dv J)<|gY J J (fun hg=>dw (bP J hg) hI)<|zo J (yE J J)<|bo J<|au<|dd h J (fun h=>?_) (fun h=>?_)
 ·refine aw<|zo J (cF)<|au<|am ?_;refine aD (ae ?_);cases so h;exact aL J J
 ·refine aw<|aF J<|zo J (jg (ht J) hI)<|aF J<|dK J J (fun hg=>dv J)<|dK J J (fun hg=>nN (bP J hg) hI)<|zo J (uK J J)<|bo J<|au<|dd h J (fun h=>?_) (fun h=>?_)
  ·refine aw<|zo J (cF)<|au<|am ?_;refine aD (ae ?_);cases so h;exact aL J J
  ·refine aw<|aF J<|zo J (jg (ht J) hI)<|aF J<|dK J J (fun hg=>dv J)<|dK J J (fun hg=>nN (bP J hg) hI)<|zo J (uK J J)<|bo J<|au<|dd h J (fun h=>?_) (fun h=>?_)
   ·refine aw<|zo J (cF)<|au<|am ?_;refine aD (ae ?_);cases so h;exact aL J J
   ·refine bA<|ap<|av<|aw<|zo rfl (cF)<|au<|am ?_;cases so h;exact aL J J

theorem U1(v:ac){R:ac}(h:wX v=some R):aV aR 191 [tD af v] (tD af R):=by
 refine aV.of Tryz.func191 J J J fun w0 S0=>aw<|yx (ht J) J fun b=>aY (r:=af) (x:=hJ) aG (fun _=>bh _) J fun b1=>au<|ah<|aw<|zo J (kp 0 gZ J J J)<|zo J (ce cu J J cS (.tail _ (.head _)) (ht J))<|au ?_;refine Hp (Z:=fun v1=>j8 v1=some R) (Of:=fun v1=>[bx af 46 b v1,bx af 46 b1 hJ]) (Gf:=fun v1=>[(1,tV (aP b 0)),(2,tV (aP b1 0))]) (fun v1 h=>?_) (fun K=>?_)
 ·skip
  refine av<|aw<|zo rfl (ce aG rfl rfl bR (.head _) (ht rfl))<|bH<|ax aG rfl an rfl (ht rfl) (ht rfl)<|aW 2 rfl<|au<|am<|be ?_;cases so h;exact iI J aG J J J
 ·skip
  refine ah<|aA<|ah<|aA<|ah ?_;refine Hp (Z:=fun v2=>pH v2=some R) (Of:=fun v2=>[bx af 46 b v2,bx af 46 b1 hJ]) (Gf:=fun v2=>[(1,tV (aP b 0)),(2,tV (aP b1 0))]) (fun v2 h=>?_) (fun K1=>?_)
  ·skip
   refine av<|aw<|zo rfl (kp 0 gZ rfl rfl rfl)<|ax cu rfl nI rfl (ht rfl) hI<|au<|bu ?_;refine cj J (ai (cj J (ai (aN ?_))));exact cC (K (ac.mk (0:Int) v2.N v2.U v2.S) h) (bt J)
  ·skip
   refine ah ?_;refine Qn (Z:=pG v=some R) (Of:=[bx af 46 b v,bx af 46 b1 hJ]) (Gf:=[(1,tV (aP b 0)),(2,tV (aP b1 0))]) (fun h=>?_) (fun K2=>?_)
   ·skip
    refine av<|aq<|zo rfl (kp 1 lP rfl rfl rfl)<|ax FO rfl oZ rfl (ht rfl) hI<|aQ<|ap ?_;exact cC (K1 (ac.mk v.Kind (0:Int) v.U v.S) h) (bt J)
   ·skip
    refine ah<|aA<|ah<|ah<|aw<|zo J (nr J)<|bo J<|au<|dd h J (fun h=>?_) (fun h=>?_)
    ·refine bu ?_;refine ai (ai (aN ?_));refine av<|aw<|zo rfl (kp 1 lP rfl rfl rfl)<|zo rfl (ce FO rfl rfl fk (.tail _ (.head _)) (ht rfl))<|zo rfl (uL rfl)<|aF rfl<|dK rfl rfl (fun hg=>kp 1 lP J J J)<|dK J J (fun hg=>ce FO J J fk (.tail _ (.head _)) (bP J hg))<|dK J J (fun hg=>fM (bP J hg) hI)<|zo J (uK J J)<|au<|dd h J (fun h=>?_) (fun h=>?_)
     ·refine bu ?_;refine cj J (ai (cj J (ai (cj J (ai (cj J (ai (aN ?_))))))));refine bv ?_;exact cC (K v h) (bt J)
     ·refine bA<|ap<|bv ?_;exact cC (K2 h) (bt J)
    ·refine dU<|ah<|aw<|zo J (nr J)<|bo J<|au<|dd h J (fun h=>?_) (fun h=>?_)
     ·refine bu ?_;refine ai (ai (cj J (ai (aN ?_))));refine bv ?_;exact cC (K2 h) (bt J)
     ·refine dU<|ah<|aw<|zo J (nr J)<|bo J<|au<|dd h J (fun h=>?_) (fun h=>?_)
      ·refine bu ?_;refine ai (ai (cj J (ai (cj J (ai (aN ?_))))));refine bv ?_;exact cC (K1 v h) (bt J)
      ·refine dU<|ah<|aw<|zo J (nr J)<|bo J<|au<|dd h J (fun h=>?_) (fun h=>?_)
       ·refine bu ?_;refine ai (ai (cj J (ai (cj J (ai (cj J (ai (aN ?_))))))));refine av ?_;refine j7 (Z:=fun v3=>pF v3=some R) (Of:=fun v3=>[bx af 46 b v3,bx af 46 b1 hJ]) (Gf:=fun v3=>[(1,tV (aP b 0)),(2,tV (aP b1 0))]) (fun v3 h=>?_) (fun K3=>?_)
        ·skip
         refine bu ?_;refine cj J (ai (aN ?_));exact cC (K v3 h) (bt J)
        ·skip
         refine aw<|zo J (kp 3 xy J J J)<|zo J (ce Tc J J nQ (.tail _ (.head _)) (ht J))<|zo J (Ic Cr (ht J))<|zo J (nN (ht J) hI)<|au<|dd h J (fun h=>?_) (fun h=>?_)
         ·refine aq<|zo J (kp 0 gZ J J J)<|bH<|ax cu J nI J (ht J) hI<|zo J (kp 3 xy J J J)<|ax Tc J LP J (ht J) hS<|aQ ?_;exact cC (K3 (ac.mk (0:Int) v.N v.U ([])) h) (bt J)
         ·refine bA<|bv ?_;exact cC (K3 v h) (bt J)
       ·refine dU<|aw<|zo J (nr J)<|bo J<|au<|dd h J (fun h=>?_) (fun h=>?_)
        ·refine bu ?_;refine ai (cj J (ai (cj J (ai (cj J (ai (cj J (ai (aN ?_)))))))));refine av<|aw<|zo rfl (kp 0 gZ rfl rfl rfl)<|bH<|ax cu rfl nI rfl (ht rfl) hI<|zo rfl (kp 1 lP rfl rfl rfl)<|ax FO rfl oZ rfl (ht rfl) hI<|zo rfl (kp 2 BW rfl rfl rfl)<|ax LL rfl zw rfl (ht rfl) hI<|au<|bu<|aN ?_;exact cC (K (ac.mk (0:Int) (0:Int) (0:Int) v.S) h) (bt J)
        ·refine dU<|bu ?_;refine cj J (ai (cj J (ai (cj J (ai (cj J (ai (cj J (ai (aN ?_))))))))));refine bv ?_;exact cC (K v h) (bt J)

theorem A2(v:ac){R:Int}(h:kR v=some R):aV aR 111 [tD af v] (bI R):=by
 refine aV.of Tryz.func111 J J J fun w0 S0=>aw<|zo J (js J)<|zo J (cF)<|au<|ah<|aw<|zo J (bC aG J J)<|bB h fun r q_r h=>zo J (aE aa6 (U1 _ q_r) ⟨(ht J),aS⟩)<|zo J (cn (y:=hJ) aG qb bh (J))<|zo J (H9 PN (ht J) (ht J))<|au<|dd h J (fun h=>?_) (fun h=>?_)
 ·refine aw<|zo J (cF)<|au<|am<|ae ?_;cases so h;exact aL J J
 ·refine dU<|aw<|zo J (cF)<|au<|am ?_;cases so h;exact aL J J

theorem Dr(v:ac){R:Bool}(h:ma v=some R):aV aR 182 [tD af v] (iz R):=by
 refine aV.of Tryz.func182 J J J fun w0 S0=>aw<|zo J (js J)<|zo J (jS)<|au<|aw<|zo J (bC aG J J)<|bB h fun r q_r h=>zo J (aE KY (A2 _ q_r) ⟨(ht J),aS⟩)<|zo J (nr J)<|aF J<|dK J J (fun hg=>de gZ cS J J)<|dK J J (fun hg=>bO cu J J (bP J hg))<|dK J J (fun hg=>fM (bP J hg) hI)<|zo J (uK J J)<|bo J<|au<|am ?_;cases so h;exact aL J J

theorem UY(n:bm){R:Bool}(h:ue n=some R):aV aR 214 [tD bN n] (iz R):=by
 refine aV.of Tryz.func214 J J J fun w0 S0=>aw<|zo J (js J)<|zo J (jS)<|au<|ah<|aw<|zo J (de pV ij J J)<|zo J (bC cu J J)<|au<|aA<|aw<|zo J (nr J)<|bo J<|au<|dd h J (fun h=>?_) (fun h=>?_)
 ·refine aw<|zo J (de BU qv J J)<|zo J (bC aG J J)<|bB h fun r q_r h=>zo J (aE OO (Dr _ q_r) ⟨(ht J),aS⟩)<|aF J<|dK J J (fun hg=>de zK o8 J J)<|dK J J (fun hg=>bO cu J J (bP J hg))<|dK J J (fun hg=>dw (bP J hg) hI)<|zo J (uK J J)<|bo J<|au<|am ?_;refine aD (ae ?_);cases so h;exact aL J J
 ·refine aw<|zo J (nr J)<|bo J<|au<|dd h J (fun h=>?_) (fun h=>?_)
  ·refine aw<|zo J (de BU qv J J)<|zo J (bC aG J J)<|zo J (cn (y:=hJ) aG qb bh (J))<|zo J (Dh PN (ht J) (ht J))<|aF J<|dK J J (fun hg=>de zK o8 J J)<|dK J J (fun hg=>bO cu J J (bP J hg))<|dK J J (fun hg=>jg (bP J hg) hI)<|zo J (uK J J)<|aF J<|dK J J (fun hg=>de zK o8 J J)<|dK J J (fun hg=>bO cu J J (bP J hg))<|dK J J (fun hg=>gD (bP J hg) hI)<|zo J (uK J J)<|bo J<|au<|am ?_;refine aD (ae ?_);cases so h;exact aL J J
  ·refine bA<|ap<|av<|aw<|zo rfl (de BU qv rfl rfl)<|zo rfl (bC aG rfl rfl)<|zo rfl (cn (y:=hJ) aG qb bh (J))<|zo J (Dh PN (ht J) (ht J))<|aF J<|dK J J (fun hg=>de zK o8 J J)<|dK J J (fun hg=>bO cu J J (bP J hg))<|dK J J (fun hg=>dw (bP J hg) hI)<|zo J (uK J J)<|bo J<|au<|am ?_;cases so h;exact aL J J

theorem Vp(e:bK){R:(List Int)×Bool}(h:xz e=some R):aV aR 129 [tD cm e] (tT [mh R.1,iz R.2]):=by
 refine aV.of Tryz.func129 J J J fun w0 S0=>aw<|zo J (js J)<|zo J (aK (show aH _ _ _ wU from jO))<|zo J (jS)<|au<|aw<|bL false bT 3<|zo J (aK rr)<|bL false bT 3<|zo J (aK rr)<|au<|ah<|aw<|zo J (de pW lO J J)<|zo J (bC Aq J J)<|zo J (iJ wy J)<|zo J (bG hI)<|aQ ?_;refine av<|aA<|bc (k:=15) J fun hN=>bJ<|gz ?_;refine aT (Ll (Z:=fun ls i all l c open1 l1 c1=>(e.Nodes.drop i=ls)∧ko ls i all open1=some R) (Of:=fun _ i all l c open1 l1 c1=>[eH bT 3 l c all,eH bT 3 l1 c1 open1]) (Gf:=fun _ i all l c open1 l1 c1=>[(4,qS l c all),(5,qS l1 c1 open1),(15,bZ (bN) e.Nodes),(16,jr e.Nodes),(17,bI (i:Int))]) (fun i all l c open1 l1 c1 h=>?_) (fun e1 tl ih i all l c open1 l1 c1 h=>?_) e.Nodes 0 uq none 0 uq none 0 ⟨J,h⟩) (bt J)
 ·obtain⟨hx,h⟩:=h
  refine aB<|aw<|zo J (fL J J)<|au<|ah<|bz (ht J) (du hx)<|bu ?_;refine ai (ai (aN ?_));refine av<|aw<|aF rfl<|aF rfl<|zo rfl (i9 gF (.tail _ (.head _)) (ht rfl))<|zo rfl (nr rfl)<|aF rfl<|dK rfl rfl (fun hg=>dv J)<|dK J J (fun hg=>i9 gF (.head _) (bP J hg))<|dK J J (fun hg=>nN (bP J hg) hI)<|zo J (uK J J)<|bo J<|bo J<|au<|am<|jv<|cE 4 J<|cE 84 J<|cE 2 J<|jw 2 J<|be<|be ?_;cases so h;exact cN J J J
 ·obtain⟨hx,h⟩:=h
  refine aB<|aw<|zo J (fL J J)<|au<|ah<|bw (ht J) (dl hx)<|dU<|ah<|aA<|aw<|aF J<|zo J (ml wy pw J J J (cX hx))<|zo J (bC pw J J)<|aY (r:=bN) (x:=Qw) pw (fun _=>uJ _) J fun b=>bo J<|ax pw J an J (ht J) (ht J)<|aW 7 J<|au<|ah ?_;refine aq<|zo J (de pV ij J J)<|zo J (bC cu J J)<|bB h fun r q_r h=>zo J (aE ON (Dq _ q_r) ⟨(ht J),aS⟩)<|bo J<|au<|ah<|aw<|aF J<|zo J (gD (ht J) hI)<|aF J<|gY J J (fun hg=>dv J)<|gY J J (fun hg=>dv J)<|gY J J (fun hg=>i9 gF (.tail _ (.head _)) (bP J hg))<|gY J J (fun hg=>gm (bP J hg) (bP J hg))<|zo J (yE J J)<|aF J<|bB h fun t q_t h=>gY J J (fun hg=>bC pw J J) ?_
  obtain⟨r1,h1t,h0t⟩:=og q_t
  have q_r1g:=fun hb=>(h1t hb).1
  refine gY J J (fun hg=>aE aaT (UY _ (q_r1g hg)) ⟨(bP J hg),aS⟩)<|gY J J (fun hg=>gg (bP J hg))<|zo J (lk (ht J) (fun hb=>(bP J (AL hb))) (fun hb=>(h1t hb).2) h0t)<|au<|dd h J (fun h=>?_) (fun h=>?_)
  ·refine aw<|zo J (aK (show aH _ _ _ wU from jO))<|zo J (jS)<|au<|am ?_;refine ae (aD (ae (ae (aD (ae ?_)))));refine be<|be ?_;cases so h;exact cN J J J
  ·refine dU<|aw<|aF J<|aF J<|zo J (i9 gF (.tail _ (.head _)) (ht J))<|aF J<|zo J (jf (ht J) (ht J))<|bB h fun y q_y h=>zo J (nM gF cu J (.tail _ (.head _)) (ht J) (ht J) q_y)<|mQ (.tail _ (.head _)) q_y fun hv=>bo J<|au<|aw<|zo J (GJ (r:=bT) (ys:=[vy,vy]) (xs:=[.const (.int .i64 (-1)),.const (.int .i64 (-1))]) Tryz.underlying243 cu J Jr J J ⟨hI,hI,aS⟩)<|aY (r:=(uy bT 2)) (x:=(List.replicate 2 (0:Int))) Jr (fun _=>Sy (r:=bT) 2 (fun _=>J) _) J fun b1=>ax Jr J an J (ht J) (ht J)<|au<|aw ?_;refine aF J<|bo J<|au<|ah<|aw<|aF J<|zo J (TD gF (.tail _ (.tail _ (.head _))) q_y (ht J))<|zo J (bG hI)<|au<|aA ?_
   have hN1:=hv.2
   refine bJ<|ow<|ow ?_;refine aT (tE (Z:=fun ls1 i1 first at1=>(y.drop i1=ls1)∧lR (ko tl) i e1 all open1 r ls1 i1 first at1=some R) (Of:=fun _ i1 first at1=>[eH bT 3 l c all,eH bT 3 l1 c1 open1,bx (uy bT 2) 243 b1 at1]) (Gf:=fun _ i1 first at1=>[(4,qS l c all),(5,qS l1 c1 open1),(6,bI (i:Int)),(7,bM bN e1),(8,bI r),(10,tV (aP b1 0)),(11,bI first),(15,bZ (bN) e.Nodes),(16,jr e.Nodes),(17,bI (i:Int)),(46,tV (oy 1 l1 c1 (IntKind.i64.wrap ((open1.length:Int)-r)).toNat y.length)),(47,jr y),(48,bI (i1:Int))]) (fun i1 first at1 h=>?_) (fun e2 tl1 ih1 i1 first at1 h=>?_) y 0 (i:Int) ([vy,vy]) ⟨J,h⟩) (bt J)
   ·obtain⟨hx1,h⟩:=h
    refine aB<|aw<|zo J (fL J J)<|au<|ah<|bz (ht J) (du hx1)<|bu ?_;refine ai (ai (aN ?_));refine av<|ah<|aw<|zo rfl (ce Jr rfl rfl bR (.tail _ (.tail _ (.head _))) (ht rfl))<|zo rfl (de XR MC rfl rfl)<|zo rfl (bC cu rfl rfl)<|zo rfl (de XQ MB rfl rfl)<|zo rfl (bC cu rfl rfl)<|zo rfl (GJ (r:=bT) (ys:=[e1.L,e1.R]) (xs:=[.tmp 65,.tmp 67]) Tryz.underlying243 cu J Jr J J ⟨(ht J),(ht J),aS⟩)<|zo J (H9 ZS (ht J) (ht J))<|au<|dd h J (fun h=>?_) (fun h=>?_)
    ·refine aw<|zo J (aK (show aH _ _ _ wU from jO))<|zo J (jS)<|au<|am ?_;refine ae (aD (ae (ae (aD (ae ?_)))));refine be<|be<|be ?_;cases so h;exact cN J J J
    ·refine dU<|aw<|aF J<|aF J<|zo J (aU (r:=bT) (ys:=[first]) (xs:=[.tmp 71]) gF cu J J J J J ⟨(ht J),aS⟩)<|bB h fun all1 q_all1 h=>cO cu J J J J gF J J (ht J) (ht J) q_all1 fun l2 c2=>bo J<|au<|aq<|aF J<|aF J<|zo J (i9 gF (.tail _ (.head _)) (ht J))<|aF J<|zo J (jf (ht J) (ht J))<|bB h fun y1 q_y1 h=>zo J (kX gF cu J (.tail _ (.head _)) (ht J) (ht J) q_y1)<|aF J<|zo J (aU (r:=bT) (ys:=[(i:Int)]) (xs:=[.tmp 80]) gF cu J J J J J ⟨(ht J),aS⟩)<|bH<|we q_y1 ?_;refine bB h fun open2 q_open2 h=>cO cu J J J J gF J J (ht J) (ht J) q_open2 fun l3 c3=>bo J<|aQ<|ap<|av<|aq<|zo rfl (lZ (cL hx hN) rfl)<|aF rfl<|aQ<|aJ<|be<|bv ?_;exact bg (aT (ih (i+1) all1 l2 c2 open2 l3 c3 ⟨cK hx,h⟩) (bt J))
   ·obtain⟨hx1,h⟩:=h
    refine aB<|aw<|zo J (fL J J)<|au<|ah<|bw (ht J) (dl hx1)<|dU<|ah<|aA<|aw<|aF J<|zo J (F0 gF cu J (.tail _ (.head _)) q_y (ht J) (ht J) (cX hx1))<|zo J (fR (r:=bT) (i:=((IntKind.i64.wrap ((open1.length:Int)-r))+(i1:Int))) (foff:=0) cu J J bR J (.tail _ (.head _)) (D2 q_y (cX hx1)).1 (ht J))<|bo J<|bo J<|au<|bB h fun e3 q_e3 h=>bB h fun e4 q_e4 h=>bB h fun ar q_ar h=>?_
    refine oc 10 [tc (bI (i1:Int)),tc (bI e2),tc (bI first),tc (qS l c all),tc (bI e2),tc (tV (pz l (e2.toNat*1+0))),tc (bI e3),tc (bI (min first e3)),tc (tV (aP b1 ((i1:Int).toNat*1))),tc (C0)] [false,false,false,false,false,false,false,false,false,true] [fun _=>[eH bT 3 l c all,eH bT 3 l1 c1 open1,bx (uy bT 2) 243 b1 at1],fun sg=>[bx (uy bT 2) 243 b1 ar,eH bT 3 l c all,eH bT 3 l1 c1 open1]] J mixed J J J J J
     ⟨⟨[⟨12,fun _=>tD bT (i1:Int),none⟩],_,0,0,J,⟨(fun _=>J),aS⟩,J,J,J,J,J,fun _ sg _ _=>ay J (dv J)⟩,
     ⟨⟨[⟨13,fun _=>tD bT e2,none⟩],_,0,0,J,⟨(fun _=>J),aS⟩,J,J,J,J,J,fun _ sg _ _=>ay J (dv J)⟩,
     ⟨⟨[⟨11,fun _=>tD bT first,none⟩],_,0,1,J,⟨(fun _=>J),aS⟩,J,J,J,J,J,fun _ sg _ _=>ay J (dv J)⟩,
     ⟨⟨[⟨4,fun _=>tV (aO l c all.length),none⟩],_,0,1,J,⟨(fun _=>J),aS⟩,J,J,J,J,J,fun _ sg _ _=>ay J (dv J)⟩,
     ⟨⟨[⟨13,fun _=>tD bT e2,none⟩],_,0,1,J,⟨(fun _=>J),aS⟩,J,J,J,J,J,fun _ sg _ _=>ay J (dv J)⟩,
     ⟨⟨[⟨56,fun _=>tV (aO l c all.length),some 3⟩,⟨57,fun _=>tD bT e2,some 4⟩],_,0,1,J,⟨(fun _=>J),(fun _=>J),aS⟩,J,J,J,J,J,FM (fun sg=>ay J (cw gF cu (.head _) (ht J) (ht J) q_e3)) (zp (fun sg=>ay J (cw gF cu (.tail _ (.head _)) (ht J) (ht J) q_e3)))⟩,
     ⟨⟨[⟨58,fun _=>tV (pz l (e2.toNat*1+0)),some 5⟩],_,0,1,J,⟨(fun _=>J),aS⟩,J,J,J,J,J,FM (fun sg=>ay J (fR (r:=bT) (i:=e2) (foff:=0) cu J J bR J (.head _) q_e3 (ht J))) (zp (fun sg=>ay J (fR (r:=bT) (i:=e2) (foff:=0) cu J J bR J (.tail _ (.head _)) q_e3 (ht J))))⟩,
     ⟨⟨[⟨55,fun _=>tD bT first,some 2⟩,⟨59,fun _=>tD bT e3,some 6⟩],_,0,1,J,⟨(fun _=>J),(fun _=>J),aS⟩,J,J,J,J,J,fun _ sg _ _=>ay J (NP (ht J) (ht J))⟩,
     ⟨⟨[⟨10,fun _=>tV (aP b1 0),none⟩,⟨53,fun _=>tD bT (i1:Int),some 0⟩],_,0,0,J,⟨(fun _=>J),(fun _=>J),aS⟩,J,J,J,J,J,zp (fun sg=>ay J (FZ Tryz.underlying243 cu (.tail _ (.tail _ (.head _))) (ht J) (ht J) q_e4))⟩,
     ⟨⟨[⟨61,fun _=>tV (aP b1 ((i1:Int).toNat*1)),some 8⟩,⟨54,fun _=>tD bT e2,some 1⟩],_,J,⟨(fun _=>J),(fun _=>J),aS⟩,J,J,J,fun sg=>d8 J (EffOK.fr2 (MT cu J q_e4 (so q_ar) (ht J) (ht J)))⟩,
     aS⟩⟩⟩⟩⟩⟩⟩⟩⟩⟩ (fun sg=>?_)
    refine(show RG _ _ _ _ [bx (uy bT 2) 243 b1 ar,eH bT 3 l c all,eH bT 3 l1 c1 open1] _ from ?_);refine bo J<|aQ<|ap<|av<|aq<|zo rfl (lZ (cL hx1 hN1) rfl)<|aF rfl<|aQ<|aJ<|aJ ?_;exact bg (aT (ih1 (i1+1) (min first e3) ar ⟨cK hx1,h⟩) (bt J))

end Go.Proofs.YtfhhakidodmdfaaGreatDoor

