/- cN of this claim: P2. -/
import Derived.Test.YtnmjbolollcokaaGreatDoorRaT
import Derived.Test.YtnmjbolollcokaaGreatDoorRaP1
set_option linter.all false
namespace Go.Proofs.YtnmjbolollcokaaGreatDoor
open Go
set_option maxRecDepth 100000

theorem CQ(e:bA)(kinds:(List Int)){R:Bool}(h:qE e kinds=some R):bo aX 207 [tD bu e,dE kinds] (eD R):=by
 refine bo.of Tryz.func207 J J J fun w0 S0=>ay<|zo J (gP J)<|zo J (eL)<|aw<|ay<|zo J (bq fe J J)<|aG J<|bG h fun r q_r h=>zo J (aF FK (zm _ _ q_r) ⟨(ht J),(ht J),aV⟩)<|aG J<|zo J (jf J J)<|zo J (jf J J)<|bB J<|bB J<|aw<|ay<|aG J<|zo J (jS J) ?_;refine aG J<|cb J J (fun hg=>cn J)<|cb J J (fun hg=>bW (bc J hg) hI)<|cb J J (fun hg=>bv (bc J hg))<|cH J J J J (fun hg=>cn J)<|cH J J J J (fun hg=>bW (bc J hg) hI)<|cb J J (fun hg=>lA (bc J hg) (fun hb=>(bc J (nC hg (mj hb)))))<|zo J (kG J J)<|bB J<|aw<|ap ?_;cases so h;exact aU J J

theorem Jq(b:Nat)(ix:OI)(c:aB)(n:ai){R:(List Int)×Bool}(h:iu c n=some R):cA aX 149 [tV (aE b 0),tD aj n] (cE b c ix) (fun _:OI=>tT [dE R.1,eD R.2]) (fun _=>(cE b c ix)):=by
 refine cA.of Tryz.func149 J J J fun w0 S0=>?_;refine(show CG _ _ _ [bx (rH aZ [(1,aC (ix.h 0).1 (ix.h 0).2 c.kinds.length),(2,aC (ix.h 1).1 (ix.h 1).2 c.first.length)]) 123 b c,bV dK 42 (ix.h 0).1 (ix.h 0).2 c.kinds,bV bR 3 (ix.h 1).1 (ix.h 1).2 c.first] _ from ?_);refine ay<|zo J (gP J)<|zo J (aP (show aL _ _ _ ln from hP))<|zo J (eL)<|aw<|ae<|bG h fun e q_e h=>bG h fun e1 q_e1 h=>bG h fun r q_r h=>?_
 refine ec (ts:=[_,_,_,_,_,_,_,_,_,_,_,_,_,_,_,_,_,_,_]) mixed J J
  ⟨dT 0 J J J (cn J),
  ⟨cP 7 0 J J J (cU (ht J)),
  ⟨cP 8 1 J J J (d3 1 i9 J J J),
  ⟨cP 9 2 J J J (c8 p4 J (.head _) (.tail _ (.head _)) (ht J)),
  ⟨dT 3 J J J (cc fM dn J J),
  ⟨cP 11 4 J J J (bq bD J J),
  ⟨dL 10 3 12 5 J J J J (aO nw cy J (iR (ht J)) (ht J) q_e),
  ⟨cP 13 6 J J J (bq cy J J),
  ⟨dT 0 J J J (cn J),
  ⟨cP 15 8 J J J (cU (ht J)),
  ⟨cP 16 9 J J J (d3 1 i9 J J J),
  ⟨cP 17 10 J J J (c8 p4 J (.head _) (.tail _ (.head _)) (ht J)),
  ⟨dT 3 J J J (cc ko fK J J),
  ⟨cP 19 12 J J J (bq bD J J),
  ⟨dL 18 11 20 13 J J J J (aO nw cy J (iR (ht J)) (ht J) q_e1),
  ⟨cP 21 14 J J J (bq cy J J),
  ⟨dL 14 7 22 15 J J J J (aS (r:=kL) (ys:=[e,e1]) (xs:=[.tmp 14,.tmp 22]) nw cy J J J J J ⟨(ht J),(ht J),aV⟩),
  ⟨cP 23 16 J J J (aF La (GY _ q_r) ⟨(ht J),aV⟩),
  ⟨cP 24 17 J J J (tK J),
  aV⟩⟩⟩⟩⟩⟩⟩⟩⟩⟩⟩⟩⟩⟩⟩⟩⟩⟩⟩ ?_
 refine aq<|ay<|aG rfl<|zo rfl (cc pA kj rfl rfl)<|zo rfl (bq fe rfl rfl)<|aG rfl<|bG h fun r1 q_r1 h=>zo J (aF HG (CQ _ _ q_r1) ⟨(ht J),(ht J),aV⟩)<|bB J<|bB J<|aw<|ap<|av<|av<|av ?_;cases so h;exact fP (ts:=[dE r,eD r1]) (rvs:=[.tmp 4,.tmp 5]) J J ⟨cJ J,cJ J,aV⟩ lm J J

theorem Jo(b:Nat)(ix:OI)(c:aB)(n:ai){R:(List Int)×Bool}(h:gv c n=some R):cA aX 150 [tV (aE b 0),tD aj n] (cE b c ix) (fun _:OI=>tT [dE R.1,eD R.2]) (fun _=>(cE b c ix)):=by
 refine cA.of Tryz.func150 J J J fun w0 S0=>?_;refine(show CG _ _ _ [bx (rH aZ [(1,aC (ix.h 0).1 (ix.h 0).2 c.kinds.length),(2,aC (ix.h 1).1 (ix.h 1).2 c.first.length)]) 123 b c,bV dK 42 (ix.h 0).1 (ix.h 0).2 c.kinds,bV bR 3 (ix.h 1).1 (ix.h 1).2 c.first] _ from ?_);refine ay<|zo J (gP J)<|zo J (aP (show aL _ _ _ ln from hP))<|zo J (eL)<|aw<|ae<|bG h fun e q_e h=>bG h fun r q_r h=>?_
 refine ec (ts:=[_,_,_,_,_,_,_,_,_,_,_,_,_,_,_,_,_,_,_,_,_]) mixed J J
  ⟨dT 0 J J J (cn J),
  ⟨cP 6 0 J J J (cU (ht J)),
  ⟨cP 7 1 J J J (d3 1 i9 J J J),
  ⟨cP 8 2 J J J (c8 p4 J (.head _) (.tail _ (.head _)) (ht J)),
  ⟨dT 3 J J J (cc fM dn J J),
  ⟨cP 10 4 J J J (bq bD J J),
  ⟨dL 9 3 11 5 J J J J (aO nw cy J (iR (ht J)) (ht J) q_e),
  ⟨cP 12 6 J J J (bq cy J J),
  ⟨dT 3 J J J (cc pA kj J J),
  ⟨cP 14 8 J J J (bq fe J J),
  ⟨dT 0 J J J (cn J),
  ⟨cP 16 10 J J J (cU (ht J)),
  ⟨cP 17 11 J J J (d3 1 i9 J J J),
  ⟨cP 18 12 J J J (c8 p4 J (.head _) (.tail _ (.head _)) (ht J)),
  ⟨dT 3 J J J (cc fM dn J J),
  ⟨cP 20 14 J J J (bq bD J J),
  ⟨dL 19 13 21 15 J J J J (aO nw cy J (iR (ht J)) (ht J) q_e),
  ⟨cP 22 16 J J J (bq cy J J),
  ⟨dL 15 9 23 17 J J J J (aF HG (CQ _ _ q_r) ⟨(ht J),(ht J),aV⟩),
  ⟨cP 13 7 J J J (tK J),
  ⟨cP 24 18 J J J (tK J),
  aV⟩⟩⟩⟩⟩⟩⟩⟩⟩⟩⟩⟩⟩⟩⟩⟩⟩⟩⟩⟩⟩ ?_
 refine aq<|ap<|av<|av<|av ?_;cases so h;exact fP (ts:=[dE e,eD r]) (rvs:=[.tmp 4,.tmp 5]) J J ⟨cJ J,cJ J,aV⟩ lm J J

theorem GM(kinds:(List Int))(c:Int){R:Bool}(h:m6 kinds c=some R):bo aX 238 [bK c,bl dK kinds] (eD R):=by
 refine bo.of Tryz.func238 J J J fun w0 S0=>ay<|zo J (eL)<|aw<|ay<|aG J<|zo J (eg (ht J) hI)<|aG J<|cR J J (fun hg=>cn J)<|cR J J (fun hg=>bq cy J J)<|cR J J (fun hg=>bY cW (bc J hg))<|cR J J (fun hg=>dm (bc J hg) (bc J hg))<|zo J (oB J J)<|bB J<|aw<|ap ?_;cases so h;exact aU J J

theorem GX(l:(List Int))(kinds:(List Int)){R:Bool}(h:sS l kinds=some R):bo aX 208 [dE l,dE kinds] (eD R):=by
 refine bo.of Tryz.func208 J J J fun w0 S0=>ay<|zo J (gP J)<|zo J (eL)<|aw<|ay<|aG J<|zo J ((show bN _ _ _ _ ((eS aX Ey kb (fun(x:Int)=>(m6 kinds) x)))from jo (cts:=[bl dK kinds]) (caps:=[.tmp 3]) KR ⟨(ht J),aV⟩ (fun x y h=>GM _ _ h)))<|bG h fun r q_r h=>zo J (aF HK (CU _ _ q_r) ⟨(ht J),(ht J),aV⟩)<|zo J (dy (ht J))<|bB J<|aw<|ap ?_;cases so h;exact aU J J

theorem GW(a1:kF)(kinds:(List Int)){R:Int×Bool}(h:xN a1 kinds=some R):bo aX 209 [tD df a1,dE kinds] (tT [bK R.1,eD R.2]):=by
 refine bo.of Tryz.func209 J J J fun w0 S0=>ay<|zo J (gP J)<|zo J (dW)<|zo J (eL)<|aw<|ae<|ay<|zo J (cc zh s7 J J)<|zo J (bq bD J J)<|zo J (jS J)<|aw<|db h J (fun h=>?_) (fun h=>?_)
 ·refine ae ?_
  refine ec (ts:=[_,_,_,_,_,_,_]) mixed J J
   ⟨dT 2 J J J (cc wr qJ J J),
   ⟨cP 11 0 J J J (cc d2 cC J J),
   ⟨cP 12 1 J J J (bq jT J J),
   ⟨cP 13 2 J J J (fV je J),
   ⟨cP 14 3 J J J (jS J),
   ⟨JT J J (dW),
   ⟨cP 15 4 J J J (tK J),
   aV⟩⟩⟩⟩⟩⟩⟩ ?_
  refine aq<|ap<|M ?_;cases so h;exact cw J J J
 ·refine dB<|ay<|zo J (cc wr qJ J J)<|zo J (bq fe J J)<|aG J<|bG h fun r q_r h=>zo J (aF FK (zm _ _ q_r) ⟨(ht J),(ht J),aV⟩)<|aG J<|zo J (jf J J)<|zo J (jf J J)<|bB J<|bB J<|aw<|ae<|ay<|zo J (cc zh s7 J J)<|zo J (bq bD J J)<|aw<|ax ?_;refine ay<|zo J (jS J)<|bB J<|aw<|db h J (fun h=>?_) (fun h=>?_)
  ·refine ay<|aG J<|zo J (jS J)<|zo J (dW)<|bB J<|aw<|ap ?_;refine aH (M ?_);cases so h;exact cw J J J
  ·refine ay<|zo J (jS J)<|bB J<|aw<|db h J (fun h=>?_) (fun h=>?_)
   ·refine ay<|aG J<|zo J (jS J)<|aG J<|cb J J (fun hg=>cn J)<|cb J J (fun hg=>bW (bc J hg) hI)<|cb J J (fun hg=>bv (bc J hg))<|cH J J J J (fun hg=>cn J)<|cH J J J J (fun hg=>bW (bc J hg) hI)<|cb J J (fun hg=>lA (bc J hg) (fun hb=>(bc J (nC hg (mj hb)))))<|zo J (kG J J)<|zo J (dW)<|bB J<|aw<|ap ?_;refine aH (M ?_);cases so h;exact cw J J J
   ·refine ge (Z:=fun x=>po r x=some R) (Of:=fun x=>[]) (Gf:=fun x=>[(6,bK r.1),(7,bK r.2),(41,eD x)]) (fun x h=>?_) (fun K=>?_)
    ·skip
     refine db h J (fun h=>?_) (fun h=>?_)
     ·refine ay<|aG J<|aG J<|zo J (jS J)<|bB J<|bB J<|aw<|ap ?_;refine aH (M ?_);cases so h;exact cw J J J
     ·refine bE<|an<|aq<|ay<|zo rfl (dW)<|zo rfl (eL)<|aw<|ap ?_;cases so h;exact cw J J J
    ·skip
     refine ay<|zo J (jS J)<|bB J<|aw<|db h J (fun h=>?_) (fun h=>?_)
     ·refine bE ?_;exact ce (K (a1.Tag==(4:Int)) h) (bn J)
     ·refine am<|zo J (jS J)<|bB J<|aQ ?_;exact ce (K (a1.Tag==(5:Int)) h) (bn J)

theorem Jn(b:Nat)(ix:OI)(c:aB)(n:ai){R:(List Int)×Bool}(h:gT c n=some R):cA aX 151 [tV (aE b 0),tD aj n] (cE b c ix) (fun _:OI=>tT [dE R.1,eD R.2]) (fun _=>(cE b c ix)):=by
 refine cA.of Tryz.func151 J J J fun w0 S0=>?_;refine(show CG _ _ _ [bx (rH aZ [(1,aC (ix.h 0).1 (ix.h 0).2 c.kinds.length),(2,aC (ix.h 1).1 (ix.h 1).2 c.first.length)]) 123 b c,bV dK 42 (ix.h 0).1 (ix.h 0).2 c.kinds,bV bR 3 (ix.h 1).1 (ix.h 1).2 c.first] _ from ?_);refine ay<|zo J (gP J)<|zo J (aP (show aL _ _ _ ln from hP))<|zo J (eL)<|aw<|ae<|bG h fun e q_e h=>?_
 refine ec (ts:=[_,_,_,_,_,_,_,_,_]) mixed J J
  ⟨dT 0 J J J (cn J),
  ⟨cP 15 0 J J J (cU (ht J)),
  ⟨cP 16 1 J J J (d3 1 i9 J J J),
  ⟨cP 17 2 J J J (c8 p4 J (.head _) (.tail _ (.head _)) (ht J)),
  ⟨dT 3 J J J (cc fM dn J J),
  ⟨cP 19 4 J J J (bq bD J J),
  ⟨dL 18 3 20 5 J J J J (aO nw cy J (iR (ht J)) (ht J) q_e),
  ⟨cP 21 6 J J J (bq cy J J),
  ⟨cP 22 7 J J J (tK J),
  aV⟩⟩⟩⟩⟩⟩⟩⟩⟩ ?_
 refine aq<|ay<|zo rfl (cc ms gM rfl rfl)<|zo rfl (bq cy rfl rfl)<|zo rfl (fV cW rfl)<|zo rfl (io (ht rfl) hI)<|aG rfl<|cb rfl rfl (fun hg=>cc jW iA J J)<|cb J J (fun hg=>be ro J J (bc J hg))<|cb J J (fun hg=>bY ny (bc J hg))<|cb J J (fun hg=>io (bc J hg) hI)<|zo J (kG J J)<|aG J<|cb J J (fun hg=>cc ms gM J J)<|cb J J (fun hg=>be cy J J (bc J hg))<|cb J J (fun hg=>bY cW (bc J hg))<|cb J J (fun hg=>cc jW iA J J)<|cb J J (fun hg=>be ro J J (bc J hg))<|cb J J (fun hg=>bY ny (bc J hg))<|cb J J (fun hg=>jp (bc J hg) (bc J hg))<|cb J J (fun hg=>fq (bc J hg) hI)<|zo J (kG J J)<|aG J ?_;refine bG h fun t q_t h=>cb J J (fun hg=>cc ms gM J J)<|cb J J (fun hg=>be cy J J (bc J hg))<|cb J J (fun hg=>cn J) ?_
 obtain⟨r,h1t,h0t⟩:=og q_t
 have q_rg:=fun hb=>(h1t hb).1
 refine cb J J (fun hg=>aF K9 (GX _ _ (q_rg hg)) ⟨(bc J hg),(bc J hg),aV⟩)<|zo J (dj (ht J) (fun hb=>(bc J hb)) (fun hb=>(h1t hb).2) h0t)<|bB J<|aw<|ae<|ay<|aG J<|zo J (dy (ht J))<|aw<|db h J (fun h=>?_) (fun h=>?_)
 ·refine ay<|zo J (aP (show aL _ _ _ ln from hP))<|zo J (eL)<|aw<|ap<|M<|av<|av<|av ?_;cases so h;exact fP (ts:=[dE ([]),eD false]) (rvs:=[.tmp 4,.tmp 5]) J J ⟨cJ J,cJ J,aV⟩ lm J J
 ·refine dB<|ay<|bM false bR 3<|zo J (aP oS)<|aw<|ae<|ay<|zo J (cc ms gM J J)<|zo J (bq cy J J)<|zo J (fV cW J)<|zo J (bv hI)<|aw<|ax<|bh (k:=52) J fun hN=>bF ?_;refine aT (jx (Z:=fun ls i out l c1=>(n.Keys.drop i=ls)∧iw n e t ls out=some R) (Of:=fun _ i out l c1=>[d9 bR 3 l c1 out,bx (rH aZ [(1,aC (ix.h 0).1 (ix.h 0).2 c.kinds.length),(2,aC (ix.h 1).1 (ix.h 1).2 c.first.length)]) 123 b c,bV dK 42 (ix.h 0).1 (ix.h 0).2 c.kinds,bV bR 3 (ix.h 1).1 (ix.h 1).2 c.first]) (Gf:=fun _ i out l c1=>[(3,bl aj n),(6,dE e),(7,eD t),(8,mg l c1 out),(52,dE n.Keys),(53,f7 n.Keys),(54,bK (i:Int))]) (fun i out l c1 h=>?_) (fun e1 tl ih i out l c1 h=>?_) n.Keys 0 mE none 0 ⟨J,h⟩) (bn J)
  ·obtain⟨hx,h⟩:=h
   refine aA<|ay<|zo J (em J J)<|aw<|ae<|bz (ht J) (da hx)<|bk ?_;refine ac (ac (aM ?_));refine aq<|ae<|ay<|zo rfl (cc jW iA rfl rfl)<|zo rfl (bq ro rfl rfl)<|zo rfl (fV ny rfl)<|zo rfl (bv hI)<|aw<|ax<|bh (k:=67) J fun hN1=>bF ?_;refine aT (qW (Z:=fun ls1 i1 out1 l1 c2 ok=>(n.Aggs.drop i1=ls1)∧iv e ls1 out1 ok=some R) (Of:=fun _ i1 out1 l1 c2 ok=>[d9 bR 3 l1 c2 out1,bx (rH aZ [(1,aC (ix.h 0).1 (ix.h 0).2 c.kinds.length),(2,aC (ix.h 1).1 (ix.h 1).2 c.first.length)]) 123 b c,bV dK 42 (ix.h 0).1 (ix.h 0).2 c.kinds,bV bR 3 (ix.h 1).1 (ix.h 1).2 c.first]) (Gf:=fun _ i1 out1 l1 c2 ok=>[(6,dE e),(7,eD ok),(8,mg l1 c2 out1),(67,dS (df) n.Aggs),(68,f7 n.Aggs),(69,bK (i1:Int))]) (fun i1 out1 l1 c2 ok h=>?_) (fun e2 tl1 ih1 i1 out1 l1 c2 ok h=>?_) n.Aggs 0 out l c1 t ⟨J,h⟩) (bn J)
   ·obtain⟨hx1,h⟩:=h
    refine aA<|ay<|zo J (em J J)<|aw<|ae<|bz (ht J) (da hx1)<|bk ?_;refine ac (ac (aM ?_));refine aq<|ay<|aG rfl<|aG rfl<|bB rfl<|bB rfl<|aw<|ap<|gh<|cB 8 rfl<|cB 88 rfl<|cB 4 rfl<|ia 4 rfl<|ba<|av<|av<|av ?_;cases so h;exact fP (ts:=[dE out1,eD ok]) (rvs:=[.tmp 4,.tmp 5]) J J ⟨cJ J,cJ J,aV⟩ lm J J
   ·obtain⟨hx1,h⟩:=h
    refine aA<|ay<|zo J (em J J)<|aw<|ae<|bw (ht J) (c9 hx1)<|dB<|ae<|ax<|ay<|zo J (jA ny lU J J J (cV hx1))<|zo J (bq lU J J)<|bj (r:=df) (x:=F7) lU (fun _=>tH _) J fun b1=>au lU J al J (ht J) (ht J)<|bg 12 J<|aw<|ay<|zo J (bq lU J J) ?_;refine aG J<|bG h fun r1 q_r1 h=>zo J (aF K8 (GW _ _ q_r1) ⟨(ht J),(ht J),aV⟩)<|aG J<|zo J (jf J J)<|zo J (jf J J)<|bB J<|bB J<|aw<|am<|aG J<|aG J<|zo J (aS (r:=bR) (ys:=[r1.1]) (xs:=[.tmp 80]) cW bD J J J J J ⟨(ht J),aV⟩)<|bG h fun out2 q_out2 h=>cM bD J J J J cW J J (ht J) (ht J) q_out2 fun l2 c3=>aG J<|aG J<|cb J J (fun hg=>cn J)<|zo J (kG J J)<|bB J<|bB J<|aQ<|an ?_;refine aq<|am<|zo rfl (jY (cG hx1 hN1) rfl)<|aG rfl<|aQ ?_;exact bf (aT (ih1 (i1+1) out2 l2 c3 (ok&&r1.2) ⟨cF hx1,h⟩) (bn J))
  ·obtain⟨hx,h⟩:=h
   refine aA<|ay<|zo J (em J J)<|aw<|ae<|bw (ht J) (c9 hx)<|dB<|ae<|ax<|ay<|zo J (jA cW bD J J J (cV hx))<|zo J (bq bD J J)<|bB J<|aw<|am<|aG J<|aG J<|aG J<|bG h fun e3 q_e3 h=>?_;refine zo J (jA cW bD J J J q_e3)<|zo J (bq bD J J)<|zo J (aS (r:=bR) (ys:=[e3]) (xs:=[.tmp 62]) cW bD J J J J J ⟨(ht J),aV⟩)<|bG h fun out3 q_out3 h=>cM bD J J J J cW J J (ht J) (ht J) q_out3 fun l3 c4=>bB J<|aQ<|an<|aq<|am<|zo rfl (jY (cG hx hN) rfl)<|aG rfl<|aQ ?_;exact bf (aT (ih (i+1) out3 l3 c4 ⟨cF hx,h⟩) (bn J))

theorem Jm(b:Nat)(ix:OI)(c:aB)(n:ai){R:(List Int)×Bool}(h:fQ c n=some R):cA aX 152 [tV (aE b 0),tD aj n] (cE b c ix) (fun _:OI=>tT [dE R.1,eD R.2]) (fun _=>(cE b c ix)):=by
 refine cA.of Tryz.func152 J J J fun w0 S0=>?_;refine(show CG _ _ _ [bx (rH aZ [(1,aC (ix.h 0).1 (ix.h 0).2 c.kinds.length),(2,aC (ix.h 1).1 (ix.h 1).2 c.first.length)]) 123 b c,bV dK 42 (ix.h 0).1 (ix.h 0).2 c.kinds,bV bR 3 (ix.h 1).1 (ix.h 1).2 c.first] _ from ?_);refine ay<|zo J (gP J)<|zo J (aP (show aL _ _ _ ln from hP))<|zo J (eL)<|aw<|ay<|zo J (cc k5 gL J J)<|zo J (bq rY J J)<|zo J (fV nv J)<|zo J (dm (ht J) hI)<|aG J<|cb J J (fun hg=>cc k5 gL J J)<|cb J J (fun hg=>be rY J J (bc J hg))<|cb J J (fun hg=>bY nv (bc J hg))<|cb J J (fun hg=>io (bc J hg) hI)<|zo J (kG J J)<|bB J<|aw<|ay ?_;refine bM false bR 3<|zo J (aP oS)<|aw<|ae<|ay<|zo J (cc k5 gL J J)<|zo J (bq rY J J)<|zo J (fV nv J)<|zo J (bv hI)<|aw<|ax<|bh (k:=23) J fun hN=>bF ?_;refine aT (qW (Z:=fun ls i out l c1 ok=>(n.Items.drop i=ls)∧gH c n ls out ok=some R) (Of:=fun _ i out l c1 ok=>[d9 bR 3 l c1 out,bx (rH aZ [(1,aC (ix.h 0).1 (ix.h 0).2 c.kinds.length),(2,aC (ix.h 1).1 (ix.h 1).2 c.first.length)]) 123 b c,bV dK 42 (ix.h 0).1 (ix.h 0).2 c.kinds,bV bR 3 (ix.h 1).1 (ix.h 1).2 c.first]) (Gf:=fun _ i out l c1 ok=>[(0,tV (aE b 0)),(3,bl aj n),(6,eD ok),(7,mg l c1 out),(23,dS (bu) n.Items),(24,f7 n.Items),(25,bK (i:Int))]) (fun i out l c1 ok h=>?_) (fun e tl ih i out l c1 ok h=>?_) n.Items 0 mE none 0 ((decide ((1:Int)≤(n.Items.length:Int)))&&(decide ((n.Items.length:Int)≤(16:Int)))) ⟨J,h⟩) (bn J)
 ·obtain⟨hx,h⟩:=h
  refine aA<|ay<|zo J (em J J)<|aw<|ae<|bz (ht J) (da hx)<|bk ?_;refine ac (ac (aM ?_));refine aq<|ay<|aG rfl<|aG rfl<|bB rfl<|bB rfl<|aw<|ap<|gh<|cB 7 rfl<|cB 52 rfl<|cB 4 rfl<|ia 4 rfl<|ba<|av<|av<|av ?_;cases so h;exact fP (ts:=[dE out,eD ok]) (rvs:=[.tmp 4,.tmp 5]) J J ⟨cJ J,cJ J,aV⟩ lm J J
 ·obtain⟨hx,h⟩:=h
  refine aA<|ay<|zo J (em J J)<|aw<|ae<|bw (ht J) (c9 hx)<|dB<|ae<|ax<|ay<|zo J (jA nv fe J J J (cV hx))<|zo J (bq fe J J)<|bj (r:=bu) (x:=mT) fe (fun _=>mD _) J fun b1=>au fe J al J (ht J) (ht J)<|bg 9 J<|aw<|ae<|bG h fun e1 q_e1 h=>bG h fun r q_r h=>?_
  refine ec (ts:=[_,_,_,_,_,_,_,_,_,_,_,_,_,_,_]) mixed J J
   ⟨dT 9 J J J (bq fe J J),
   ⟨dT 0 J J J (cn J),
   ⟨cP 31 1 J J J (cU (ht J)),
   ⟨cP 32 2 J J J (d3 1 i9 J J J),
   ⟨cP 33 3 J J J (c8 p4 J (.tail _ (.head _)) (.tail _ (.tail _ (.head _))) (ht J)),
   ⟨dT 3 J J J (cc fM dn J J),
   ⟨cP 35 5 J J J (bq bD J J),
   ⟨dL 34 4 36 6 J J J J (aO nw cy J (iR (ht J)) (ht J) q_e1),
   ⟨cP 37 7 J J J (bq cy J J),
   ⟨dL 30 0 38 8 J J J J (aF FK (zm _ _ q_r) ⟨(ht J),(ht J),aV⟩),
   ⟨cP 39 9 J J J (cn J),
   ⟨cP 29 10 J J J (jf J J),
   ⟨cP 29 10 J J J (jf J J),
   ⟨cP 40 11 J J J (tK J),
   ⟨cP 41 12 J J J (tK J),
   aV⟩⟩⟩⟩⟩⟩⟩⟩⟩⟩⟩⟩⟩⟩⟩ ?_
  refine aq<|am<|aG rfl<|aG rfl<|zo rfl (aS (r:=bR) (ys:=[r.1]) (xs:=[.tmp 43]) cW bD J J J J J ⟨(ht J),aV⟩)<|bG h fun out1 q_out1 h=>cM bD J J J J cW J J (ht J) (ht J) q_out1 fun l1 c2=>aG J<|aG J<|cb J J (fun hg=>cn J)<|cb J J (fun hg=>bW (bc J hg) hI)<|zo J (kG J J)<|bB J<|bB J<|aQ<|an<|aq<|am<|zo rfl (jY (cG hx hN) rfl)<|aG rfl<|aQ ?_;exact bf (aT (ih (i+1) out1 l1 c2 (ok&&(r.2==(0:Int))) ⟨cF hx,h⟩) (bn J))

theorem Jl(b:Nat)(ix:OI)(c:aB)(n:ai){R:(List Int)×Bool}(h:fx c n=some R):cA aX 153 [tV (aE b 0),tD aj n] (cE b c ix) (fun _:OI=>tT [dE R.1,eD R.2]) (fun _=>(cE b c ix)):=by
 refine cA.of Tryz.func153 J J J fun w0 S0=>?_;refine(show CG _ _ _ [bx (rH aZ [(1,aC (ix.h 0).1 (ix.h 0).2 c.kinds.length),(2,aC (ix.h 1).1 (ix.h 1).2 c.first.length)]) 123 b c,bV dK 42 (ix.h 0).1 (ix.h 0).2 c.kinds,bV bR 3 (ix.h 1).1 (ix.h 1).2 c.first] _ from ?_);refine ay<|zo J (gP J)<|zo J (aP (show aL _ _ _ ln from hP))<|zo J (eL)<|aw<|ae<|bG h fun e q_e h=>?_
 refine ec (ts:=[_,_,_,_,_,_,_,_,_,_]) mixed J J
  ⟨dT 0 J J J (cn J),
  ⟨cP 6 0 J J J (cU (ht J)),
  ⟨cP 7 1 J J J (d3 1 i9 J J J),
  ⟨cP 8 2 J J J (c8 p4 J (.head _) (.tail _ (.head _)) (ht J)),
  ⟨dT 3 J J J (cc fM dn J J),
  ⟨cP 10 4 J J J (bq bD J J),
  ⟨dL 9 3 11 5 J J J J (aO nw cy J (iR (ht J)) (ht J) q_e),
  ⟨cP 12 6 J J J (bq cy J J),
  ⟨cP 13 7 J J J (tK J),
  ⟨JT J J (eL),
  aV⟩⟩⟩⟩⟩⟩⟩⟩⟩⟩ ?_
 refine aq<|ap<|av<|av<|av ?_;cases so h;exact fP (ts:=[dE e,eD true]) (rvs:=[.tmp 4,.tmp 5]) J J ⟨cJ J,cJ J,aV⟩ lm J J

theorem Jk(b:Nat)(ix:OI)(c:aB)(n:ai){R:(List Int)×Bool}(h:gR c n=some R):cA aX 154 [tV (aE b 0),tD aj n] (cE b c ix) (fun _:OI=>tT [dE R.1,eD R.2]) (fun _=>(cE b c ix)):=by
 refine cA.of Tryz.func154 J J J fun w0 S0=>?_;refine(show CG _ _ _ [bx (rH aZ [(1,aC (ix.h 0).1 (ix.h 0).2 c.kinds.length),(2,aC (ix.h 1).1 (ix.h 1).2 c.first.length)]) 123 b c,bV dK 42 (ix.h 0).1 (ix.h 0).2 c.kinds,bV bR 3 (ix.h 1).1 (ix.h 1).2 c.first] _ from ?_);refine ay<|zo J (gP J)<|zo J (aP (show aL _ _ _ ln from hP))<|zo J (eL)<|aw<|ae<|bG h fun e q_e h=>bG h fun e1 q_e1 h=>?_
 refine ec (ts:=[_,_,_,_,_,_,_,_,_,_,_,_,_,_,_,_,_,_]) mixed J J
  ⟨dT 0 J J J (cn J),
  ⟨cP 12 0 J J J (cU (ht J)),
  ⟨cP 13 1 J J J (d3 1 i9 J J J),
  ⟨cP 14 2 J J J (c8 p4 J (.head _) (.tail _ (.head _)) (ht J)),
  ⟨dT 3 J J J (cc fM dn J J),
  ⟨cP 16 4 J J J (bq bD J J),
  ⟨dL 15 3 17 5 J J J J (aO nw cy J (iR (ht J)) (ht J) q_e),
  ⟨cP 18 6 J J J (bq cy J J),
  ⟨dT 0 J J J (cn J),
  ⟨cP 20 8 J J J (cU (ht J)),
  ⟨cP 21 9 J J J (d3 1 i9 J J J),
  ⟨cP 22 10 J J J (c8 p4 J (.head _) (.tail _ (.head _)) (ht J)),
  ⟨dT 3 J J J (cc ko fK J J),
  ⟨cP 24 12 J J J (bq bD J J),
  ⟨dL 23 11 25 13 J J J J (aO nw cy J (iR (ht J)) (ht J) q_e1),
  ⟨cP 26 14 J J J (bq cy J J),
  ⟨cP 19 7 J J J (tK J),
  ⟨cP 27 15 J J J (tK J),
  aV⟩⟩⟩⟩⟩⟩⟩⟩⟩⟩⟩⟩⟩⟩⟩⟩⟩⟩ ?_
 refine aq<|ae<|ay<|aG rfl<|zo rfl (fV cW rfl)<|aG rfl<|zo rfl (fV cW rfl)<|zo rfl (cK (ht rfl) (ht rfl))<|aw<|db h rfl (fun h=>?_) (fun h=>?_)
 ·refine ay<|zo J (aP (show aL _ _ _ ln from hP))<|zo J (eL)<|aw<|ap<|M<|av<|av<|av ?_;cases so h;exact fP (ts:=[dE ([]),eD false]) (rvs:=[.tmp 4,.tmp 5]) J J ⟨cJ J,cJ J,aV⟩ lm J J
 ·refine dB<|ay<|aG J<|bG h fun r q_r h=>hY AN (vv _ q_r) ⟨(ht J),aV⟩ J fun l c1=>bB J<|aw<|ay<|zo J (eL)<|aw<|ae<|ay<|aG J<|zo J (fV cW J)<|zo J (bv hI)<|aw<|ax ?_;refine bh (k:=35) J fun hN=>bF ?_;refine aT (mf (Z:=fun ls i out ok=>(e1.drop i=ls)∧ek ls i out ok=some R) (Of:=fun _ i out ok=>[d9 bR 3 l c1 out,bx (rH aZ [(1,aC (ix.h 0).1 (ix.h 0).2 c.kinds.length),(2,aC (ix.h 1).1 (ix.h 1).2 c.first.length)]) 123 b c,bV dK 42 (ix.h 0).1 (ix.h 0).2 c.kinds,bV bR 3 (ix.h 1).1 (ix.h 1).2 c.first]) (Gf:=fun _ i out ok=>[(8,mg l c1 out),(9,eD ok),(35,dE e1),(36,f7 e1),(37,bK (i:Int))]) (fun i out ok h=>?_) (fun e2 tl ih i out ok h=>?_) e1 0 r true ⟨J,h⟩) (bn J)
  ·obtain⟨hx,h⟩:=h
   refine aA<|ay<|zo J (em J J)<|aw<|ae<|bz (ht J) (da hx)<|bk ?_;refine ac (ac (aM ?_));refine aq<|ay<|aG rfl<|aG rfl<|bB rfl<|bB rfl<|aw<|ap<|gh<|cB 8 rfl<|cB 65 rfl<|cB 4 rfl<|ia 4 rfl<|ba<|av<|av<|av ?_;cases so h;exact fP (ts:=[dE out,eD ok]) (rvs:=[.tmp 4,.tmp 5]) J J ⟨cJ J,cJ J,aV⟩ lm J J
  ·obtain⟨hx,h⟩:=h
   refine aA<|ay<|zo J (em J J)<|aw<|ae<|bw (ht J) (c9 hx)<|dB<|ae<|ax<|ay<|aG J<|zo J (jA cW bD J J J (cV hx))<|zo J (bq bD J J)<|bB J<|bB J<|aw ?_;refine ge (Z:=fun out1=>iq (ek tl) i e2 ok out1=some R) (Of:=fun out1=>[d9 bR 3 l c1 out1,bx (rH aZ [(1,aC (ix.h 0).1 (ix.h 0).2 c.kinds.length),(2,aC (ix.h 1).1 (ix.h 1).2 c.first.length)]) 123 b c,bV dK 42 (ix.h 0).1 (ix.h 0).2 c.kinds,bV bR 3 (ix.h 1).1 (ix.h 1).2 c.first]) (Gf:=fun out1=>[(8,mg l c1 out1),(9,eD ok),(10,bK (i:Int)),(11,bK e2),(35,dE e1),(36,f7 e1),(37,bK (i:Int))]) (fun out1 h=>?_) (fun K=>?_)
   ·skip
    refine am<|aG J<|aG J<|bG h fun t q_t h=>cb J J (fun hg=>cn J)<|cb J J (fun hg=>cn J) ?_
    obtain⟨e3,h1t,h0t⟩:=og q_t
    have q_e3g:=fun hb=>(h1t hb).1
    refine cb J J (fun hg=>cj cW bD (.head _) (bc J hg) (bc J hg) (q_e3g hg))<|cb J J (fun hg=>d8 (r:=bR) (i:=(i:Int)) (foff:=0) bD J J bp J (.head _) (q_e3g hg) (bc J hg))<|cb J J (fun hg=>cn J)<|cb J J (fun hg=>bW (bc J hg) (bc J hg))<|cb J J (fun hg=>bv (bc J hg))<|cH J J J J (fun hg=>cn J)<|cH J J J J (fun hg=>bW (bc J hg) hI)<|cb J J (fun hg=>lA (bc J hg) (fun hb=>(bc J (nC hg (mj hb)))))<|zo J (dj (ht J) (fun hb=>(bc J hb)) (fun hb=>(h1t hb).2) h0t)<|bB J<|aQ<|an<|aq<|am<|zo rfl (jY (cG hx hN) rfl)<|aG rfl<|aQ ?_;exact bf (aT (ih (i+1) out1 t ⟨cF hx,h⟩) (bn J))
   ·skip
    refine ay<|aG J<|aG J<|bG h fun e4 q_e4 h=>zo J (cj cW bD (.head _) (ht J) (ht J) q_e4)<|zo J (d8 (r:=bR) (i:=(i:Int)) (foff:=0) bD J J bp J (.head _) q_e4 (ht J))<|zo J (jS J)<|aw<|db h J (fun h=>?_) (fun h=>?_)
    ·refine am<|aG J<|aG J<|aG J<|zo J (cj cW bD (.head _) (ht J) (ht J) q_e4)<|bG h fun st q_st h=>jM bD J al J q_e4 (so q_st) (ht J) (ht J)<|dR (eH (so q_st)) 8 J<|dR (eH (so q_st)) 42 J<|dR (eH (so q_st)) 47 J<|aQ ?_;exact ce (K st h) (bn J)
    ·refine bE ?_;exact ce (K out h) (bn J)

theorem GV(in1:(List Int))(o:jP){R:Bool}(h:iY in1 o=some R):bo aX 211 [tD gE o,bl dK in1] (eD R):=by
 refine bo.of Tryz.func211 J J J fun w0 S0=>ay<|zo J (gP J)<|zo J (eL)<|aw<|ay<|zo J (cc CN AF J J)<|zo J (bq bD J J)<|zo J (eg (ht J) hI)<|aG J<|cR J J (fun hg=>cc CN AF J J)<|cR J J (fun hg=>be bD J J (bc J hg))<|cR J J (fun hg=>bq cy J J)<|cR J J (fun hg=>bY cW (bc J hg))<|cR J J (fun hg=>dm (bc J hg) (bc J hg))<|zo J (oB J J)<|bB J<|aw<|ap ?_;cases so h;exact aU J J

theorem GJ(s:(List jP))(f:(jP→Option Bool)){R:Int}(h:gj s f=some R):bo aX 242 [dS (gE) s,(eS aX Ez kb (fun(x:jP)=>f x))] (bK R):=by
 refine bo.of Tryz.func242 J J J fun w0 S0=>ay<|zo J (dW)<|aw<|ae<|ay<|aG J<|zo J (fV yp J)<|zo J (bv hI)<|aw<|ax<|bh (k:=6) J fun hN=>bF ?_;refine aT (dH (Z:=fun ls i=>(s.drop i=ls)∧d6 f ls i=some R) (Of:=fun _ i=>[]) (Gf:=fun _ i=>[(0,dS (gE) s),(1,(eS aX Ez kb (fun(x:jP)=>f x))),(7,f7 s),(8,bK (i:Int))]) (fun i h=>?_) (fun e tl ih i h=>?_) s 0 ⟨J,h⟩) (bn J)
 ·obtain⟨hx,h⟩:=h
  refine aA<|ay<|zo J (em J J)<|aw<|ae<|bz (ht J) (da hx)<|bk ?_;refine ac (ac (aM ?_));refine aq<|ay<|zo rfl (dW)<|aw<|ap ?_;cases so h;exact aU J J
 ·obtain⟨hx,h⟩:=h
  refine aA<|ay<|zo J (em J J)<|aw<|ae<|bw (ht J) (c9 hx)<|dB<|ae<|ax<|ay<|aG J<|bB J<|aw<|ay<|aG J<|aG J<|aG J<|zo J (jA yp Cw J J J (cV hx)) ?_;refine zo J (bq Cw J J)<|bG h fun r q_r h=>zo J (gu (args:=Ez) (res:=Bm) (f:=(fun(x:jP)=>f x)) (x:=((e):jP)) (ht J) q_r ⟨(ht J),aV⟩)<|aw<|db h J (fun h=>?_) (fun h=>?_)
  ·refine ay<|aG J<|bB J<|aw<|ap ?_;refine aH (M (M (aH (M ?_))));cases so h;exact aU J J
  ·refine bE<|an<|aq<|am<|zo rfl (jY (cG hx hN) rfl)<|aG rfl<|aQ ?_;exact bf (aT (ih (i+1) ⟨cF hx,h⟩) (bn J))

end Go.Proofs.YtnmjbolollcokaaGreatDoor

