/- cT of this claim: P2. -/
import Derived.Test.YtfhhakidodmdfaaGreatDoorJeT
import Derived.Test.YtfhhakidodmdfaaGreatDoorJeP1
set_option linter.all false
namespace Go.Proofs.YtfhhakidodmdfaaGreatDoor
open Go
set_option maxRecDepth 100000

theorem Ok(e:bK)(kinds:(List Int)){R:Bool}(h:q9 e kinds=some R):aV aR 282 [tD cm e,mh kinds] (iz R):=by
 refine aV.of Tryz.func282 J J J fun w0 S0=>aw<|zo J (js J)<|zo J (jS)<|au<|aw<|zo J (bC kG J J)<|aF J<|bB h fun r q_r h=>zo J (aE Si (Iz _ _ q_r) ⟨(ht J),(ht J),aS⟩)<|aF J<|zo J (gV J J)<|zo J (gV J J)<|bo J<|bo J<|au<|aw<|aF J<|zo J (nr J) ?_;refine aF J<|dK J J (fun hg=>dv J)<|dK J J (fun hg=>dw (bP J hg) hI)<|dK J J (fun hg=>bG (bP J hg))<|vl J J J J (fun hg=>dv J)<|vl J J J J (fun hg=>dw (bP J hg) hI)<|dK J J (fun hg=>yd (bP J hg) (fun hb=>(bP J (C8 hg (AL hb)))))<|zo J (uK J J)<|bo J<|au<|am ?_;cases so h;exact aL J J

theorem Yh(b:Nat)(ix:OI)(c:aC)(n:ak){R:(List Int)×Bool}(h:gI c n=some R):c0 aR 203 [tV (aP b 0),tD aI n] (dC b c ix) (fun _:OI=>tT [mh R.1,iz R.2]) (fun _=>(dC b c ix)):=by
 refine c0.of Tryz.func203 J J J fun w0 S0=>?_;refine(show CG _ _ _ [bx (rH bk [(1,aO (ix.h 0).1 (ix.h 0).2 c.kinds.length),(2,aO (ix.h 1).1 (ix.h 1).2 c.first.length)]) 115 b c,dS ny 39 (ix.h 0).1 (ix.h 0).2 c.kinds,dS bT 3 (ix.h 1).1 (ix.h 1).2 c.first] _ from ?_);refine aw<|zo J (js J)<|zo J (aK (show aH _ _ _ wU from jO))<|zo J (jS)<|au<|ah<|bB h fun e q_e h=>bB h fun e1 q_e1 h=>bB h fun r q_r h=>?_
 refine dc (ts:=[_,_,_,_,_,_,_,_,_,_,_,_,_,_,_,_,_,_,_]) mixed J J
  ⟨fb 0 J J J (dv J),
  ⟨ca 7 0 J J J (dD (ht J)),
  ⟨ca 8 1 J J J (kp 1 nw J J J),
  ⟨ca 9 2 J J J (dh sK J (.head _) (.tail _ (.head _)) (ht J)),
  ⟨fb 3 J J J (de jP dR J J),
  ⟨ca 11 4 J J J (bC cu J J),
  ⟨d6 10 3 12 5 J J J J (bp vv d7 J (kT (ht J)) (ht J) q_e),
  ⟨ca 13 6 J J J (bC d7 J J),
  ⟨fb 0 J J J (dv J),
  ⟨ca 15 8 J J J (dD (ht J)),
  ⟨ca 16 9 J J J (kp 1 nw J J J),
  ⟨ca 17 10 J J J (dh sK J (.head _) (.tail _ (.head _)) (ht J)),
  ⟨fb 3 J J J (de rt km J J),
  ⟨ca 19 12 J J J (bC cu J J),
  ⟨d6 18 11 20 13 J J J J (bp vv d7 J (kT (ht J)) (ht J) q_e1),
  ⟨ca 21 14 J J J (bC d7 J J),
  ⟨d6 14 7 22 15 J J J J (aU (r:=wT) (ys:=[e,e1]) (xs:=[.tmp 14,.tmp 22]) vv d7 J J J J J ⟨(ht J),(ht J),aS⟩),
  ⟨ca 23 16 J J J (aE aay (UE _ q_r) ⟨(ht J),aS⟩),
  ⟨ca 24 17 J J J (uM J),
  aS⟩⟩⟩⟩⟩⟩⟩⟩⟩⟩⟩⟩⟩⟩⟩⟩⟩⟩⟩ ?_
 refine av<|aw<|aF rfl<|zo rfl (de uB nS rfl rfl)<|zo rfl (bC kG rfl rfl)<|aF rfl<|bB h fun r1 q_r1 h=>zo J (aE Wt (Ok _ _ q_r1) ⟨(ht J),(ht J),aS⟩)<|bo J<|bo J<|au<|am<|aJ<|aJ<|aJ ?_;cases so h;exact d5 (ts:=[mh r,iz r1]) (rvs:=[.tmp 4,.tmp 5]) J J ⟨aZ J,aZ J,aS⟩ oU J J

theorem Yg(b:Nat)(ix:OI)(c:aC)(n:ak){R:(List Int)×Bool}(h:fT c n=some R):c0 aR 204 [tV (aP b 0),tD aI n] (dC b c ix) (fun _:OI=>tT [mh R.1,iz R.2]) (fun _=>(dC b c ix)):=by
 refine c0.of Tryz.func204 J J J fun w0 S0=>?_;refine(show CG _ _ _ [bx (rH bk [(1,aO (ix.h 0).1 (ix.h 0).2 c.kinds.length),(2,aO (ix.h 1).1 (ix.h 1).2 c.first.length)]) 115 b c,dS ny 39 (ix.h 0).1 (ix.h 0).2 c.kinds,dS bT 3 (ix.h 1).1 (ix.h 1).2 c.first] _ from ?_);refine aw<|zo J (js J)<|zo J (aK (show aH _ _ _ wU from jO))<|zo J (jS)<|au<|ah<|bB h fun e q_e h=>bB h fun r q_r h=>?_
 refine dc (ts:=[_,_,_,_,_,_,_,_,_,_,_,_,_,_,_,_,_,_,_,_,_]) mixed J J
  ⟨fb 0 J J J (dv J),
  ⟨ca 6 0 J J J (dD (ht J)),
  ⟨ca 7 1 J J J (kp 1 nw J J J),
  ⟨ca 8 2 J J J (dh sK J (.head _) (.tail _ (.head _)) (ht J)),
  ⟨fb 3 J J J (de jP dR J J),
  ⟨ca 10 4 J J J (bC cu J J),
  ⟨d6 9 3 11 5 J J J J (bp vv d7 J (kT (ht J)) (ht J) q_e),
  ⟨ca 12 6 J J J (bC d7 J J),
  ⟨fb 3 J J J (de uB nS J J),
  ⟨ca 14 8 J J J (bC kG J J),
  ⟨fb 0 J J J (dv J),
  ⟨ca 16 10 J J J (dD (ht J)),
  ⟨ca 17 11 J J J (kp 1 nw J J J),
  ⟨ca 18 12 J J J (dh sK J (.head _) (.tail _ (.head _)) (ht J)),
  ⟨fb 3 J J J (de jP dR J J),
  ⟨ca 20 14 J J J (bC cu J J),
  ⟨d6 19 13 21 15 J J J J (bp vv d7 J (kT (ht J)) (ht J) q_e),
  ⟨ca 22 16 J J J (bC d7 J J),
  ⟨d6 15 9 23 17 J J J J (aE Wt (Ok _ _ q_r) ⟨(ht J),(ht J),aS⟩),
  ⟨ca 13 7 J J J (uM J),
  ⟨ca 24 18 J J J (uM J),
  aS⟩⟩⟩⟩⟩⟩⟩⟩⟩⟩⟩⟩⟩⟩⟩⟩⟩⟩⟩⟩⟩ ?_
 refine av<|am<|aJ<|aJ<|aJ ?_;cases so h;exact d5 (ts:=[mh e,iz r]) (rvs:=[.tmp 4,.tmp 5]) J J ⟨aZ J,aZ J,aS⟩ oU J J

theorem Ui(kinds:(List Int))(c:Int){R:Bool}(h:pP kinds c=some R):aV aR 344 [bI c,bM ny kinds] (iz R):=by
 refine aV.of Tryz.func344 J J J fun w0 S0=>aw<|zo J (jS)<|au<|aw<|aF J<|zo J (gD (ht J) hI)<|aF J<|gY J J (fun hg=>dv J)<|gY J J (fun hg=>bC d7 J J)<|gY J J (fun hg=>dQ gF (bP J hg))<|gY J J (fun hg=>jg (bP J hg) (bP J hg))<|zo J (yE J J)<|bo J<|au<|am ?_;cases so h;exact aL J J

theorem UD(l:(List Int))(kinds:(List Int)){R:Bool}(h:rY l kinds=some R):aV aR 283 [mh l,mh kinds] (iz R):=by
 refine aV.of Tryz.func283 J J J fun w0 S0=>aw<|zo J (js J)<|zo J (jS)<|au<|aw<|aF J<|zo J ((show bQ _ _ _ _ ((dX aR Jc nq (fun(x:Int)=>(pP kinds) x)))from iB (cts:=[bM ny kinds]) (caps:=[.tmp 3]) aaa ⟨(ht J),aS⟩ (fun x y h=>Ui _ _ h)))<|bB h fun r q_r h=>zo J (aE OM (Dp _ _ q_r) ⟨(ht J),(ht J),aS⟩)<|zo J (gg (ht J))<|bo J<|au<|am ?_;cases so h;exact aL J J

theorem UC(a1:gM)(kinds:(List Int)){R:Int×Bool}(h:yf a1 kinds=some R):aV aR 284 [tD fi a1,mh kinds] (tT [bI R.1,iz R.2]):=by
 refine aV.of Tryz.func284 J J J fun w0 S0=>aw<|zo J (js J)<|zo J (cF)<|zo J (jS)<|au<|ah<|aw<|zo J (de zL ta J J)<|zo J (bC cu J J)<|zo J (nr J)<|au<|dd h J (fun h=>?_) (fun h=>?_)
 ·refine ah ?_
  refine dc (ts:=[_,_,_,_,_,_,_]) mixed J J
   ⟨fb 2 J J J (de BV vf J J),
   ⟨ca 11 0 J J J (de pW lO J J),
   ⟨ca 12 1 J J J (bC Aq J J),
   ⟨ca 13 2 J J J (iJ wy J),
   ⟨ca 14 3 J J J (nr J),
   ⟨Pb J J (cF),
   ⟨ca 15 4 J J J (uM J),
   aS⟩⟩⟩⟩⟩⟩⟩ ?_
  refine av<|am<|ae ?_;cases so h;exact cN J J J
 ·refine dU<|aw<|zo J (de BV vf J J)<|zo J (bC kG J J)<|aF J<|bB h fun r q_r h=>zo J (aE Si (Iz _ _ q_r) ⟨(ht J),(ht J),aS⟩)<|aF J<|zo J (gV J J)<|zo J (gV J J)<|bo J<|bo J<|au<|ah<|aw<|zo J (de zL ta J J)<|zo J (bC cu J J)<|au<|aA ?_;refine aw<|zo J (nr J)<|bo J<|au<|dd h J (fun h=>?_) (fun h=>?_)
  ·refine aw<|aF J<|zo J (nr J)<|zo J (cF)<|bo J<|au<|am ?_;refine aD (ae ?_);cases so h;exact cN J J J
  ·refine aw<|zo J (nr J)<|bo J<|au<|dd h J (fun h=>?_) (fun h=>?_)
   ·refine aw<|aF J<|zo J (nr J)<|aF J<|dK J J (fun hg=>dv J)<|dK J J (fun hg=>dw (bP J hg) hI)<|dK J J (fun hg=>bG (bP J hg))<|vl J J J J (fun hg=>dv J)<|vl J J J J (fun hg=>dw (bP J hg) hI)<|dK J J (fun hg=>yd (bP J hg) (fun hb=>(bP J (C8 hg (AL hb)))))<|zo J (uK J J)<|zo J (cF)<|bo J<|au<|am ?_;refine aD (ae ?_);cases so h;exact cN J J J
   ·refine j7 (Z:=fun x=>r0 r x=some R) (Of:=fun x=>[]) (Gf:=fun x=>[(6,bI r.1),(7,bI r.2),(41,iz x)]) (fun x h=>?_) (fun K=>?_)
    ·skip
     refine dd h J (fun h=>?_) (fun h=>?_)
     ·refine aw<|aF J<|aF J<|zo J (nr J)<|bo J<|bo J<|au<|am ?_;refine aD (ae ?_);cases so h;exact cN J J J
     ·refine bA<|ap<|av<|aw<|zo rfl (cF)<|zo rfl (jS)<|au<|am ?_;cases so h;exact cN J J J
    ·skip
     refine aw<|zo J (nr J)<|bo J<|au<|dd h J (fun h=>?_) (fun h=>?_)
     ·refine bA ?_;exact cC (K (a1.Tag==(4:Int)) h) (bt J)
     ·refine aq<|zo J (nr J)<|bo J<|aQ ?_;exact cC (K (a1.Tag==(5:Int)) h) (bt J)

theorem Yf(b:Nat)(ix:OI)(c:aC)(n:ak){R:(List Int)×Bool}(h:gq c n=some R):c0 aR 205 [tV (aP b 0),tD aI n] (dC b c ix) (fun _:OI=>tT [mh R.1,iz R.2]) (fun _=>(dC b c ix)):=by
 refine c0.of Tryz.func205 J J J fun w0 S0=>?_;refine(show CG _ _ _ [bx (rH bk [(1,aO (ix.h 0).1 (ix.h 0).2 c.kinds.length),(2,aO (ix.h 1).1 (ix.h 1).2 c.first.length)]) 115 b c,dS ny 39 (ix.h 0).1 (ix.h 0).2 c.kinds,dS bT 3 (ix.h 1).1 (ix.h 1).2 c.first] _ from ?_);refine aw<|zo J (js J)<|zo J (aK (show aH _ _ _ wU from jO))<|zo J (jS)<|au<|ah<|bB h fun e q_e h=>?_
 refine dc (ts:=[_,_,_,_,_,_,_,_,_]) mixed J J
  ⟨fb 0 J J J (dv J),
  ⟨ca 15 0 J J J (dD (ht J)),
  ⟨ca 16 1 J J J (kp 1 nw J J J),
  ⟨ca 17 2 J J J (dh sK J (.head _) (.tail _ (.head _)) (ht J)),
  ⟨fb 3 J J J (de jP dR J J),
  ⟨ca 19 4 J J J (bC cu J J),
  ⟨d6 18 3 20 5 J J J J (bp vv d7 J (kT (ht J)) (ht J) q_e),
  ⟨ca 21 6 J J J (bC d7 J J),
  ⟨ca 22 7 J J J (uM J),
  aS⟩⟩⟩⟩⟩⟩⟩⟩⟩ ?_
 refine av<|aw<|zo rfl (de td mD rfl rfl)<|zo rfl (bC d7 rfl rfl)<|zo rfl (iJ gF rfl)<|zo rfl (nN (ht rfl) hI)<|aF rfl<|dK rfl rfl (fun hg=>de qy nR J J)<|dK J J (fun hg=>bO BA J J (bP J hg))<|dK J J (fun hg=>dQ wx (bP J hg))<|dK J J (fun hg=>nN (bP J hg) hI)<|zo J (uK J J)<|aF J<|dK J J (fun hg=>de td mD J J)<|dK J J (fun hg=>bO d7 J J (bP J hg))<|dK J J (fun hg=>dQ gF (bP J hg))<|dK J J (fun hg=>de qy nR J J)<|dK J J (fun hg=>bO BA J J (bP J hg))<|dK J J (fun hg=>dQ wx (bP J hg))<|dK J J (fun hg=>nO (bP J hg) (bP J hg))<|dK J J (fun hg=>gm (bP J hg) hI)<|zo J (uK J J)<|aF J ?_;refine bB h fun t q_t h=>dK J J (fun hg=>de td mD J J)<|dK J J (fun hg=>bO d7 J J (bP J hg))<|dK J J (fun hg=>dv J) ?_
 obtain⟨r,h1t,h0t⟩:=og q_t
 have q_rg:=fun hb=>(h1t hb).1
 refine dK J J (fun hg=>aE aax (UD _ _ (q_rg hg)) ⟨(bP J hg),(bP J hg),aS⟩)<|zo J (ff (ht J) (fun hb=>(bP J hb)) (fun hb=>(h1t hb).2) h0t)<|bo J<|au<|ah<|aw<|aF J<|zo J (gg (ht J))<|au<|dd h J (fun h=>?_) (fun h=>?_)
 ·refine aw<|zo J (aK (show aH _ _ _ wU from jO))<|zo J (jS)<|au<|am<|ae<|aJ<|aJ<|aJ ?_;cases so h;exact d5 (ts:=[mh ([]),iz false]) (rvs:=[.tmp 4,.tmp 5]) J J ⟨aZ J,aZ J,aS⟩ oU J J
 ·refine dU<|aw<|bL false bT 3<|zo J (aK rr)<|au<|ah<|aw<|zo J (de td mD J J)<|zo J (bC d7 J J)<|zo J (iJ gF J)<|zo J (bG hI)<|au<|aA<|bc (k:=52) J fun hN=>bJ ?_;refine aT (jq (Z:=fun ls i out l c1=>(n.Keys.drop i=ls)∧gh n e t ls out=some R) (Of:=fun _ i out l c1=>[eH bT 3 l c1 out,bx (rH bk [(1,aO (ix.h 0).1 (ix.h 0).2 c.kinds.length),(2,aO (ix.h 1).1 (ix.h 1).2 c.first.length)]) 115 b c,dS ny 39 (ix.h 0).1 (ix.h 0).2 c.kinds,dS bT 3 (ix.h 1).1 (ix.h 1).2 c.first]) (Gf:=fun _ i out l c1=>[(3,bM aI n),(6,mh e),(7,iz t),(8,qS l c1 out),(52,mh n.Keys),(53,jr n.Keys),(54,bI (i:Int))]) (fun i out l c1 h=>?_) (fun e1 tl ih i out l c1 h=>?_) n.Keys 0 uq none 0 ⟨J,h⟩) (bt J)
  ·obtain⟨hx,h⟩:=h
   refine aB<|aw<|zo J (fL J J)<|au<|ah<|bz (ht J) (du hx)<|bu ?_;refine ai (ai (aN ?_));refine av<|ah<|aw<|zo rfl (de qy nR rfl rfl)<|zo rfl (bC BA rfl rfl)<|zo rfl (iJ wx rfl)<|zo rfl (bG hI)<|au<|aA<|bc (k:=67) J fun hN1=>bJ ?_;refine aT (tB (Z:=fun ls1 i1 out1 l1 c2 ok=>(n.Aggs.drop i1=ls1)∧eS e ls1 out1 ok=some R) (Of:=fun _ i1 out1 l1 c2 ok=>[eH bT 3 l1 c2 out1,bx (rH bk [(1,aO (ix.h 0).1 (ix.h 0).2 c.kinds.length),(2,aO (ix.h 1).1 (ix.h 1).2 c.first.length)]) 115 b c,dS ny 39 (ix.h 0).1 (ix.h 0).2 c.kinds,dS bT 3 (ix.h 1).1 (ix.h 1).2 c.first]) (Gf:=fun _ i1 out1 l1 c2 ok=>[(6,mh e),(7,iz ok),(8,qS l1 c2 out1),(67,bZ (fi) n.Aggs),(68,jr n.Aggs),(69,bI (i1:Int))]) (fun i1 out1 l1 c2 ok h=>?_) (fun e2 tl1 ih1 i1 out1 l1 c2 ok h=>?_) n.Aggs 0 out l c1 t ⟨J,h⟩) (bt J)
   ·obtain⟨hx1,h⟩:=h
    refine aB<|aw<|zo J (fL J J)<|au<|ah<|bz (ht J) (du hx1)<|bu ?_;refine ai (ai (aN ?_));refine av<|aw<|aF rfl<|aF rfl<|bo rfl<|bo rfl<|au<|am<|jv<|cE 8 rfl<|cE 88 rfl<|cE 4 rfl<|jw 4 rfl<|be<|aJ<|aJ<|aJ ?_;cases so h;exact d5 (ts:=[mh out1,iz ok]) (rvs:=[.tmp 4,.tmp 5]) J J ⟨aZ J,aZ J,aS⟩ oU J J
   ·obtain⟨hx1,h⟩:=h
    refine aB<|aw<|zo J (fL J J)<|au<|ah<|bw (ht J) (dl hx1)<|dU<|ah<|aA<|aw<|zo J (ml wx tJ J J J (cX hx1))<|zo J (bC tJ J J)<|aY (r:=fi) (x:=WS) tJ (fun _=>DK _) J fun b1=>ax tJ J an J (ht J) (ht J)<|aW 12 J<|au<|aw<|zo J (bC tJ J J) ?_;refine aF J<|bB h fun r1 q_r1 h=>zo J (aE aaw (UC _ _ q_r1) ⟨(ht J),(ht J),aS⟩)<|aF J<|zo J (gV J J)<|zo J (gV J J)<|bo J<|bo J<|au<|aq<|aF J<|aF J<|zo J (aU (r:=bT) (ys:=[r1.1]) (xs:=[.tmp 80]) gF cu J J J J J ⟨(ht J),aS⟩)<|bB h fun out2 q_out2 h=>cO cu J J J J gF J J (ht J) (ht J) q_out2 fun l2 c3=>aF J<|aF J<|dK J J (fun hg=>dv J)<|zo J (uK J J)<|bo J<|bo J<|aQ<|ap ?_;refine av<|aq<|zo rfl (lZ (cL hx1 hN1) rfl)<|aF rfl<|aQ ?_;exact bg (aT (ih1 (i1+1) out2 l2 c3 (ok&&r1.2) ⟨cK hx1,h⟩) (bt J))
  ·obtain⟨hx,h⟩:=h
   refine aB<|aw<|zo J (fL J J)<|au<|ah<|bw (ht J) (dl hx)<|dU<|ah<|aA<|aw<|zo J (ml gF cu J J J (cX hx))<|zo J (bC cu J J)<|bo J<|au<|aq<|aF J<|aF J<|aF J<|bB h fun e3 q_e3 h=>?_;refine zo J (ml gF cu J J J q_e3)<|zo J (bC cu J J)<|zo J (aU (r:=bT) (ys:=[e3]) (xs:=[.tmp 62]) gF cu J J J J J ⟨(ht J),aS⟩)<|bB h fun out3 q_out3 h=>cO cu J J J J gF J J (ht J) (ht J) q_out3 fun l3 c4=>bo J<|aQ<|ap<|av<|aq<|zo rfl (lZ (cL hx hN) rfl)<|aF rfl<|aQ ?_;exact bg (aT (ih (i+1) out3 l3 c4 ⟨cK hx,h⟩) (bt J))

theorem Ye(b:Nat)(ix:OI)(c:aC)(n:ak){R:(List Int)×Bool}(h:fj c n=some R):c0 aR 206 [tV (aP b 0),tD aI n] (dC b c ix) (fun _:OI=>tT [mh R.1,iz R.2]) (fun _=>(dC b c ix)):=by
 refine c0.of Tryz.func206 J J J fun w0 S0=>?_;refine(show CG _ _ _ [bx (rH bk [(1,aO (ix.h 0).1 (ix.h 0).2 c.kinds.length),(2,aO (ix.h 1).1 (ix.h 1).2 c.first.length)]) 115 b c,dS ny 39 (ix.h 0).1 (ix.h 0).2 c.kinds,dS bT 3 (ix.h 1).1 (ix.h 1).2 c.first] _ from ?_);refine aw<|zo J (js J)<|zo J (aK (show aH _ _ _ wU from jO))<|zo J (jS)<|au<|aw<|zo J (de qx mC J J)<|zo J (bC Ap J J)<|zo J (iJ wJ J)<|zo J (jg (ht J) hI)<|aF J<|dK J J (fun hg=>de qx mC J J)<|dK J J (fun hg=>bO Ap J J (bP J hg))<|dK J J (fun hg=>dQ wJ (bP J hg))<|dK J J (fun hg=>nN (bP J hg) hI)<|zo J (uK J J)<|bo J<|au<|aw ?_;refine bL false bT 3<|zo J (aK rr)<|au<|ah<|aw<|zo J (de qx mC J J)<|zo J (bC Ap J J)<|zo J (iJ wJ J)<|zo J (bG hI)<|au<|aA<|bc (k:=23) J fun hN=>bJ ?_;refine aT (tB (Z:=fun ls i out l c1 ok=>(n.Items.drop i=ls)∧fd c n ls out ok=some R) (Of:=fun _ i out l c1 ok=>[eH bT 3 l c1 out,bx (rH bk [(1,aO (ix.h 0).1 (ix.h 0).2 c.kinds.length),(2,aO (ix.h 1).1 (ix.h 1).2 c.first.length)]) 115 b c,dS ny 39 (ix.h 0).1 (ix.h 0).2 c.kinds,dS bT 3 (ix.h 1).1 (ix.h 1).2 c.first]) (Gf:=fun _ i out l c1 ok=>[(0,tV (aP b 0)),(3,bM aI n),(6,iz ok),(7,qS l c1 out),(23,bZ (cm) n.Items),(24,jr n.Items),(25,bI (i:Int))]) (fun i out l c1 ok h=>?_) (fun e tl ih i out l c1 ok h=>?_) n.Items 0 uq none 0 ((decide ((1:Int)≤(n.Items.length:Int)))&&(decide ((n.Items.length:Int)≤(16:Int)))) ⟨J,h⟩) (bt J)
 ·obtain⟨hx,h⟩:=h
  refine aB<|aw<|zo J (fL J J)<|au<|ah<|bz (ht J) (du hx)<|bu ?_;refine ai (ai (aN ?_));refine av<|aw<|aF rfl<|aF rfl<|bo rfl<|bo rfl<|au<|am<|jv<|cE 7 rfl<|cE 52 rfl<|cE 4 rfl<|jw 4 rfl<|be<|aJ<|aJ<|aJ ?_;cases so h;exact d5 (ts:=[mh out,iz ok]) (rvs:=[.tmp 4,.tmp 5]) J J ⟨aZ J,aZ J,aS⟩ oU J J
 ·obtain⟨hx,h⟩:=h
  refine aB<|aw<|zo J (fL J J)<|au<|ah<|bw (ht J) (dl hx)<|dU<|ah<|aA<|aw<|zo J (ml wJ kG J J J (cX hx))<|zo J (bC kG J J)<|aY (r:=cm) (x:=Bx) kG (fun _=>rG _) J fun b1=>ax kG J an J (ht J) (ht J)<|aW 9 J<|au<|ah<|bB h fun e1 q_e1 h=>bB h fun r q_r h=>?_
  refine dc (ts:=[_,_,_,_,_,_,_,_,_,_,_,_,_,_,_]) mixed J J
   ⟨fb 9 J J J (bC kG J J),
   ⟨fb 0 J J J (dv J),
   ⟨ca 31 1 J J J (dD (ht J)),
   ⟨ca 32 2 J J J (kp 1 nw J J J),
   ⟨ca 33 3 J J J (dh sK J (.tail _ (.head _)) (.tail _ (.tail _ (.head _))) (ht J)),
   ⟨fb 3 J J J (de jP dR J J),
   ⟨ca 35 5 J J J (bC cu J J),
   ⟨d6 34 4 36 6 J J J J (bp vv d7 J (kT (ht J)) (ht J) q_e1),
   ⟨ca 37 7 J J J (bC d7 J J),
   ⟨d6 30 0 38 8 J J J J (aE Si (Iz _ _ q_r) ⟨(ht J),(ht J),aS⟩),
   ⟨ca 39 9 J J J (dv J),
   ⟨ca 29 10 J J J (gV J J),
   ⟨ca 29 10 J J J (gV J J),
   ⟨ca 40 11 J J J (uM J),
   ⟨ca 41 12 J J J (uM J),
   aS⟩⟩⟩⟩⟩⟩⟩⟩⟩⟩⟩⟩⟩⟩⟩ ?_
  refine av<|aq<|aF rfl<|aF rfl<|zo rfl (aU (r:=bT) (ys:=[r.1]) (xs:=[.tmp 43]) gF cu J J J J J ⟨(ht J),aS⟩)<|bB h fun out1 q_out1 h=>cO cu J J J J gF J J (ht J) (ht J) q_out1 fun l1 c2=>aF J<|aF J<|dK J J (fun hg=>dv J)<|dK J J (fun hg=>dw (bP J hg) hI)<|zo J (uK J J)<|bo J<|bo J<|aQ<|ap<|av<|aq<|zo rfl (lZ (cL hx hN) rfl)<|aF rfl<|aQ ?_;exact bg (aT (ih (i+1) out1 l1 c2 (ok&&(r.2==(0:Int))) ⟨cK hx,h⟩) (bt J))

theorem Yd(b:Nat)(ix:OI)(c:aC)(n:ak){R:(List Int)×Bool}(h:eT c n=some R):c0 aR 207 [tV (aP b 0),tD aI n] (dC b c ix) (fun _:OI=>tT [mh R.1,iz R.2]) (fun _=>(dC b c ix)):=by
 refine c0.of Tryz.func207 J J J fun w0 S0=>?_;refine(show CG _ _ _ [bx (rH bk [(1,aO (ix.h 0).1 (ix.h 0).2 c.kinds.length),(2,aO (ix.h 1).1 (ix.h 1).2 c.first.length)]) 115 b c,dS ny 39 (ix.h 0).1 (ix.h 0).2 c.kinds,dS bT 3 (ix.h 1).1 (ix.h 1).2 c.first] _ from ?_);refine aw<|zo J (js J)<|zo J (aK (show aH _ _ _ wU from jO))<|zo J (jS)<|au<|ah<|bB h fun e q_e h=>?_
 refine dc (ts:=[_,_,_,_,_,_,_,_,_,_]) mixed J J
  ⟨fb 0 J J J (dv J),
  ⟨ca 6 0 J J J (dD (ht J)),
  ⟨ca 7 1 J J J (kp 1 nw J J J),
  ⟨ca 8 2 J J J (dh sK J (.head _) (.tail _ (.head _)) (ht J)),
  ⟨fb 3 J J J (de jP dR J J),
  ⟨ca 10 4 J J J (bC cu J J),
  ⟨d6 9 3 11 5 J J J J (bp vv d7 J (kT (ht J)) (ht J) q_e),
  ⟨ca 12 6 J J J (bC d7 J J),
  ⟨ca 13 7 J J J (uM J),
  ⟨Pb J J (jS),
  aS⟩⟩⟩⟩⟩⟩⟩⟩⟩⟩ ?_
 refine av<|am<|aJ<|aJ<|aJ ?_;cases so h;exact d5 (ts:=[mh e,iz true]) (rvs:=[.tmp 4,.tmp 5]) J J ⟨aZ J,aZ J,aS⟩ oU J J

theorem Yc(b:Nat)(ix:OI)(c:aC)(n:ak){R:(List Int)×Bool}(h:gn c n=some R):c0 aR 208 [tV (aP b 0),tD aI n] (dC b c ix) (fun _:OI=>tT [mh R.1,iz R.2]) (fun _=>(dC b c ix)):=by
 refine c0.of Tryz.func208 J J J fun w0 S0=>?_;refine(show CG _ _ _ [bx (rH bk [(1,aO (ix.h 0).1 (ix.h 0).2 c.kinds.length),(2,aO (ix.h 1).1 (ix.h 1).2 c.first.length)]) 115 b c,dS ny 39 (ix.h 0).1 (ix.h 0).2 c.kinds,dS bT 3 (ix.h 1).1 (ix.h 1).2 c.first] _ from ?_);refine aw<|zo J (js J)<|zo J (aK (show aH _ _ _ wU from jO))<|zo J (jS)<|au<|ah<|bB h fun e q_e h=>bB h fun e1 q_e1 h=>?_
 refine dc (ts:=[_,_,_,_,_,_,_,_,_,_,_,_,_,_,_,_,_,_]) mixed J J
  ⟨fb 0 J J J (dv J),
  ⟨ca 12 0 J J J (dD (ht J)),
  ⟨ca 13 1 J J J (kp 1 nw J J J),
  ⟨ca 14 2 J J J (dh sK J (.head _) (.tail _ (.head _)) (ht J)),
  ⟨fb 3 J J J (de jP dR J J),
  ⟨ca 16 4 J J J (bC cu J J),
  ⟨d6 15 3 17 5 J J J J (bp vv d7 J (kT (ht J)) (ht J) q_e),
  ⟨ca 18 6 J J J (bC d7 J J),
  ⟨fb 0 J J J (dv J),
  ⟨ca 20 8 J J J (dD (ht J)),
  ⟨ca 21 9 J J J (kp 1 nw J J J),
  ⟨ca 22 10 J J J (dh sK J (.head _) (.tail _ (.head _)) (ht J)),
  ⟨fb 3 J J J (de rt km J J),
  ⟨ca 24 12 J J J (bC cu J J),
  ⟨d6 23 11 25 13 J J J J (bp vv d7 J (kT (ht J)) (ht J) q_e1),
  ⟨ca 26 14 J J J (bC d7 J J),
  ⟨ca 19 7 J J J (uM J),
  ⟨ca 27 15 J J J (uM J),
  aS⟩⟩⟩⟩⟩⟩⟩⟩⟩⟩⟩⟩⟩⟩⟩⟩⟩⟩ ?_
 refine av<|ah<|aw<|aF rfl<|zo rfl (iJ gF rfl)<|aF rfl<|zo rfl (iJ gF rfl)<|zo rfl (fM (ht rfl) (ht rfl))<|au<|dd h rfl (fun h=>?_) (fun h=>?_)
 ·refine aw<|zo J (aK (show aH _ _ _ wU from jO))<|zo J (jS)<|au<|am<|ae<|aJ<|aJ<|aJ ?_;cases so h;exact d5 (ts:=[mh ([]),iz false]) (rvs:=[.tmp 4,.tmp 5]) J J ⟨aZ J,aZ J,aS⟩ oU J J
 ·refine dU<|aw<|aF J<|bB h fun r q_r h=>il Sd (Iw _ q_r) ⟨(ht J),aS⟩ J fun l c1=>bo J<|au<|aw<|zo J (jS)<|au<|ah<|aw<|aF J<|zo J (iJ gF J)<|zo J (bG hI)<|au<|aA ?_;refine bc (k:=35) J fun hN=>bJ ?_;refine aT (tE (Z:=fun ls i out ok=>(e1.drop i=ls)∧dE ls i out ok=some R) (Of:=fun _ i out ok=>[eH bT 3 l c1 out,bx (rH bk [(1,aO (ix.h 0).1 (ix.h 0).2 c.kinds.length),(2,aO (ix.h 1).1 (ix.h 1).2 c.first.length)]) 115 b c,dS ny 39 (ix.h 0).1 (ix.h 0).2 c.kinds,dS bT 3 (ix.h 1).1 (ix.h 1).2 c.first]) (Gf:=fun _ i out ok=>[(8,qS l c1 out),(9,iz ok),(35,mh e1),(36,jr e1),(37,bI (i:Int))]) (fun i out ok h=>?_) (fun e2 tl ih i out ok h=>?_) e1 0 r true ⟨J,h⟩) (bt J)
  ·obtain⟨hx,h⟩:=h
   refine aB<|aw<|zo J (fL J J)<|au<|ah<|bz (ht J) (du hx)<|bu ?_;refine ai (ai (aN ?_));refine av<|aw<|aF rfl<|aF rfl<|bo rfl<|bo rfl<|au<|am<|jv<|cE 8 rfl<|cE 65 rfl<|cE 4 rfl<|jw 4 rfl<|be<|aJ<|aJ<|aJ ?_;cases so h;exact d5 (ts:=[mh out,iz ok]) (rvs:=[.tmp 4,.tmp 5]) J J ⟨aZ J,aZ J,aS⟩ oU J J
  ·obtain⟨hx,h⟩:=h
   refine aB<|aw<|zo J (fL J J)<|au<|ah<|bw (ht J) (dl hx)<|dU<|ah<|aA<|aw<|aF J<|zo J (ml gF cu J J J (cX hx))<|zo J (bC cu J J)<|bo J<|bo J<|au ?_;refine j7 (Z:=fun out1=>ig (dE tl) i e2 ok out1=some R) (Of:=fun out1=>[eH bT 3 l c1 out1,bx (rH bk [(1,aO (ix.h 0).1 (ix.h 0).2 c.kinds.length),(2,aO (ix.h 1).1 (ix.h 1).2 c.first.length)]) 115 b c,dS ny 39 (ix.h 0).1 (ix.h 0).2 c.kinds,dS bT 3 (ix.h 1).1 (ix.h 1).2 c.first]) (Gf:=fun out1=>[(8,qS l c1 out1),(9,iz ok),(10,bI (i:Int)),(11,bI e2),(35,mh e1),(36,jr e1),(37,bI (i:Int))]) (fun out1 h=>?_) (fun K=>?_)
   ·skip
    refine aq<|aF J<|aF J<|bB h fun t q_t h=>dK J J (fun hg=>dv J)<|dK J J (fun hg=>dv J) ?_
    obtain⟨e3,h1t,h0t⟩:=og q_t
    have q_e3g:=fun hb=>(h1t hb).1
    refine dK J J (fun hg=>cw gF cu (.head _) (bP J hg) (bP J hg) (q_e3g hg))<|dK J J (fun hg=>fR (r:=bT) (i:=(i:Int)) (foff:=0) cu J J bR J (.head _) (q_e3g hg) (bP J hg))<|dK J J (fun hg=>dv J)<|dK J J (fun hg=>dw (bP J hg) (bP J hg))<|dK J J (fun hg=>bG (bP J hg))<|vl J J J J (fun hg=>dv J)<|vl J J J J (fun hg=>dw (bP J hg) hI)<|dK J J (fun hg=>yd (bP J hg) (fun hb=>(bP J (C8 hg (AL hb)))))<|zo J (ff (ht J) (fun hb=>(bP J hb)) (fun hb=>(h1t hb).2) h0t)<|bo J<|aQ<|ap<|av<|aq<|zo rfl (lZ (cL hx hN) rfl)<|aF rfl<|aQ ?_;exact bg (aT (ih (i+1) out1 t ⟨cK hx,h⟩) (bt J))
   ·skip
    refine aw<|aF J<|aF J<|bB h fun e4 q_e4 h=>zo J (cw gF cu (.head _) (ht J) (ht J) q_e4)<|zo J (fR (r:=bT) (i:=(i:Int)) (foff:=0) cu J J bR J (.head _) q_e4 (ht J))<|zo J (nr J)<|au<|dd h J (fun h=>?_) (fun h=>?_)
    ·refine aq<|aF J<|aF J<|aF J<|zo J (cw gF cu (.head _) (ht J) (ht J) q_e4)<|bB h fun st q_st h=>sw cu J an J q_e4 (so q_st) (ht J) (ht J)<|iy (mq (so q_st)) 8 J<|iy (mq (so q_st)) 42 J<|iy (mq (so q_st)) 47 J<|aQ ?_;exact cC (K st h) (bt J)
    ·refine bA ?_;exact cC (K out h) (bt J)

theorem UU(s:(List gE))(f:(gE→Option Bool)){R:Int}(h:hU s f=some R):aV aR 229 [bZ (gA) s,(dX aR Qu nq (fun(x:gE)=>f x))] (bI R):=by
 refine aV.of Tryz.func229 J J J fun w0 S0=>aw<|zo J (cF)<|au<|ah<|aw<|aF J<|zo J (iJ Dz J)<|zo J (bG hI)<|au<|aA<|bc (k:=6) J fun hN=>bJ ?_;refine aT (eI (Z:=fun ls i=>(s.drop i=ls)∧dG f ls i=some R) (Of:=fun _ i=>[]) (Gf:=fun _ i=>[(0,bZ (gA) s),(1,(dX aR Qu nq (fun(x:gE)=>f x))),(7,jr s),(8,bI (i:Int))]) (fun i h=>?_) (fun e tl ih i h=>?_) s 0 ⟨J,h⟩) (bt J)
 ·obtain⟨hx,h⟩:=h
  refine aB<|aw<|zo J (fL J J)<|au<|ah<|bz (ht J) (du hx)<|bu ?_;refine ai (ai (aN ?_));refine av<|aw<|zo rfl (cF)<|au<|am ?_;cases so h;exact aL J J
 ·obtain⟨hx,h⟩:=h
  refine aB<|aw<|zo J (fL J J)<|au<|ah<|bw (ht J) (dl hx)<|dU<|ah<|aA<|aw<|aF J<|bo J<|au<|aw<|aF J<|aF J<|aF J<|zo J (ml Dz Jp J J J (cX hx)) ?_;refine zo J (bC Jp J J)<|bB h fun r q_r h=>zo J (gS (args:=Qu) (res:=Hx) (f:=(fun(x:gE)=>f x)) (x:=((e):gE)) (ht J) q_r ⟨(ht J),aS⟩)<|au<|dd h J (fun h=>?_) (fun h=>?_)
  ·refine aw<|aF J<|bo J<|au<|am ?_;refine aD (ae (ae (aD (ae ?_))));cases so h;exact aL J J
  ·refine bA<|ap<|av<|aq<|zo rfl (lZ (cL hx hN) rfl)<|aF rfl<|aQ ?_;exact bg (aT (ih (i+1) ⟨cK hx,h⟩) (bt J))

theorem Vi(s:(List gE))(f:(gE→Option Bool)){R:Bool}(h:ek s f=some R):aV aR 149 [bZ (gA) s,(dX aR Qu nq (fun(x:gE)=>f x))] (iz R):=by
 refine aV.of Tryz.func149 J J J fun w0 S0=>aw<|zo J (jS)<|au<|aw<|aF J<|aF J<|bB h fun r q_r h=>zo J (aE aaP (UU _ _ q_r) ⟨(ht J),(ht J),aS⟩)<|zo J (jg (ht J) hI)<|bo J<|au<|am ?_;cases so h;exact aL J J

end Go.Proofs.YtfhhakidodmdfaaGreatDoor

