/- cN of this claim: P3. -/
import Derived.Test.YtnmjbolollcokaaGreatDoorRaT
import Derived.Test.YtnmjbolollcokaaGreatDoorRaP2
set_option linter.all false
namespace Go.Proofs.YtnmjbolollcokaaGreatDoor
open Go
set_option maxRecDepth 100000

theorem GU(s:(List jP))(f:(jP→Option Bool)){R:Bool}(h:fA s f=some R):bo aX 212 [dS (gE) s,(eS aX Ez kb (fun(x:jP)=>f x))] (eD R):=by
 refine bo.of Tryz.func212 J J J fun w0 S0=>ay<|zo J (eL)<|aw<|ay<|aG J<|aG J<|bG h fun r q_r h=>zo J (aF KN (GJ _ _ q_r) ⟨(ht J),(ht J),aV⟩)<|zo J (dm (ht J) hI)<|bB J<|aw<|ap ?_;cases so h;exact aU J J

theorem Jj(b:Nat)(ix:OI)(c:aB)(n:ai){R:(List Int)×Bool}(h:gS c n=some R):cA aX 155 [tV (aE b 0),tD aj n] (cE b c ix) (fun _:OI=>tT [dE R.1,eD R.2]) (fun _=>(cE b c ix)):=by
 refine cA.of Tryz.func155 J J J fun w0 S0=>?_;refine(show CG _ _ _ [bx (rH aZ [(1,aC (ix.h 0).1 (ix.h 0).2 c.kinds.length),(2,aC (ix.h 1).1 (ix.h 1).2 c.first.length)]) 123 b c,bV dK 42 (ix.h 0).1 (ix.h 0).2 c.kinds,bV bR 3 (ix.h 1).1 (ix.h 1).2 c.first] _ from ?_);refine ay<|zo J (gP J)<|zo J (aP (show aL _ _ _ ln from hP))<|zo J (eL)<|aw<|ae<|bG h fun e q_e h=>?_
 refine gA 9 [tc (tV (aE b 0)),tc (tV (aE b 0)),tc (tV (aE b 1)),tc (tO dK (ix.h 0).1 (ix.h 0).2 c.kinds),tc (bl bR n.A),tc (bK n.A),tc (bl dK e),tc (dE e),([8],fun s=>tV (aE ((s.getD 0 lm).h 0).2 0))] [false,false,false,false,false,false,false,false,true] [fun _=>[bx (rH aZ [(1,aC (ix.h 0).1 (ix.h 0).2 c.kinds.length),(2,aC (ix.h 1).1 (ix.h 1).2 c.first.length)]) 123 b c,bV dK 42 (ix.h 0).1 (ix.h 0).2 c.kinds,bV bR 3 (ix.h 1).1 (ix.h 1).2 c.first],fun sg=>[bx dK 42 ((sg 8).h 0).2 ([]),bx (rH aZ [(1,aC (ix.h 0).1 (ix.h 0).2 c.kinds.length),(2,aC (ix.h 1).1 (ix.h 1).2 c.first.length)]) 123 b c,bV dK 42 (ix.h 0).1 (ix.h 0).2 c.kinds,bV bR 3 (ix.h 1).1 (ix.h 1).2 c.first]] J mixed J J J J J
  ⟨⟨[⟨0,fun _=>tV (aE b 0),none⟩],_,0,1,J,⟨(fun _=>J),aV⟩,J,J,J,J,J,fun _ sg _ _=>af J (cn J)⟩,
  ⟨⟨[⟨9,fun _=>tV (aE b 0),some 0⟩],_,0,1,J,⟨(fun _=>J),aV⟩,J,J,J,J,J,fun _ sg _ _=>af J (cU (ht J))⟩,
  ⟨⟨[⟨10,fun _=>tV (aE b 0),some 1⟩],_,0,1,J,⟨(fun _=>J),aV⟩,J,J,J,J,J,fun _ sg _ _=>af J (d3 1 i9 J J J)⟩,
  ⟨⟨[⟨11,fun _=>tV (aE b 1),some 2⟩],_,0,1,J,⟨(fun _=>J),aV⟩,J,J,J,J,J,yC (fun sg=>af J (c8 p4 J (.head _) (.tail _ (.head _)) (ht J))) (sC (fun sg=>af J (c8 p4 J (.tail _ (.head _)) (.tail _ (.tail _ (.head _))) (ht J))))⟩,
  ⟨⟨[⟨3,fun _=>bl aj n,none⟩],_,0,1,J,⟨(fun _=>J),aV⟩,J,J,J,J,J,fun _ sg _ _=>af J (cc fM dn J J)⟩,
  ⟨⟨[⟨13,fun _=>bl bR n.A,some 4⟩],_,0,1,J,⟨(fun _=>J),aV⟩,J,J,J,J,J,fun _ sg _ _=>af J (bq bD J J)⟩,
  ⟨⟨[⟨12,fun _=>tO kL (ix.h 0).1 (ix.h 0).2 c.kinds,some 3⟩,⟨14,fun _=>tD bR n.A,some 5⟩],_,0,1,J,⟨(fun _=>J),(fun _=>J),aV⟩,J,J,J,J,J,fun _ sg _ _=>af J (aO nw cy J (iR (ht J)) (ht J) q_e)⟩,
  ⟨⟨[⟨15,fun _=>bl kL e,some 6⟩],_,0,1,J,⟨(fun _=>J),aV⟩,J,J,J,J,J,fun _ sg _ _=>af J (bq cy J J)⟩,
  ⟨⟨[],_,J,aV,J,J,J,fun sg=>bZ J (eo (r:=kL) (x:=[]) cy (fun _=>⟨none,0,J,fG _,iQ _,.inl J⟩))⟩,
  aV⟩⟩⟩⟩⟩⟩⟩⟩⟩ (fun sg=>?_)
 refine(show RG _ _ _ _ [bx dK 42 ((sg 8).h 0).2 ([]),bx (rH aZ [(1,aC (ix.h 0).1 (ix.h 0).2 c.kinds.length),(2,aC (ix.h 1).1 (ix.h 1).2 c.first.length)]) 123 b c,bV dK 42 (ix.h 0).1 (ix.h 0).2 c.kinds,bV bR 3 (ix.h 1).1 (ix.h 1).2 c.first] _ from ?_);refine au cy J al J (ht J) (ht J)<|bg 6 J<|aw<|ay<|zo J ((show bN _ _ _ _ ((eS aX Ez kb (fun(x:jP)=>(iY e) x)))from jo (cts:=[bl dK e]) (caps:=[.tmp 6]) K0 ⟨(ht J),aV⟩ (fun x y h=>GV _ _ h)))<|bB J<|aw<|ay<|zo J (cc pC md J J)<|zo J (bq Br J J)<|zo J (fV yp J)<|zo J (io (ht J) hI)<|aG J<|bG h fun t q_t h=>cb J J (fun hg=>cc pC md J J)<|cb J J (fun hg=>be Br J J (bc J hg))<|cb J J (fun hg=>cn J) ?_
 obtain⟨r,h1t,h0t⟩:=og q_t
 have q_rg:=fun hb=>(h1t hb).1
 refine cb J J (fun hg=>aF KZ (GU _ _ (q_rg hg)) ⟨(bc J hg),(bc J hg),aV⟩)<|cb J J (fun hg=>dy (bc J hg))<|zo J (dj (ht J) (fun hb=>(bc J hb)) (fun hb=>(h1t hb).2) h0t)<|aG J<|cb J J (fun hg=>cc vt qI J J)<|cb J J (fun hg=>be bD J J (bc J hg))<|cb J J (fun hg=>dm (bc J hg) hI)<|zo J (kG J J)<|aG J<|cb J J (fun hg=>cc vt qI J J)<|cb J J (fun hg=>be bD J J (bc J hg))<|cb J J (fun hg=>io (bc J hg) hI)<|zo J (kG J J)<|bB J<|aw<|ae ?_
 refine ec (ts:=[_,_,_,_,_,_,_,_,_,_,_,_,_,_,_,_,_,_,_]) mixed J J
  ⟨dT 6 J J J (bq cy J J),
  ⟨dT 8 J J J (cn J),
  ⟨cP 40 1 J J J (cn J),
  ⟨nz 0 41 2 J J J J (dg J J J J (fun hg=>cn J)),
  ⟨ie 42 3 41 2 J J J J (dg J J J J (fun hg=>cU (bc J hg))),
  ⟨ie 43 4 41 2 J J J J (dg J J J J (fun hg=>gG (n:=1) i9 J (bc J hg) J)),
  ⟨ie 44 5 41 2 J J J J (dg J J J J (fun hg=>c8 p4 J (.head _) (.tail _ (.head _)) (bc J hg))),
  ⟨ie 45 6 41 2 J J J J (dg J J J J (fun hg=>bY nw (iR (bc J hg)))),
  ⟨nz 0 41 2 J J J J (dg J J J J (fun hg=>cn J)),
  ⟨ie 47 8 41 2 J J J J (dg J J J J (fun hg=>cU (bc J hg))),
  ⟨ie 48 9 41 2 J J J J (dg J J J J (fun hg=>gG (n:=0) zj J (bc J hg) J)),
  ⟨ie 49 10 41 2 J J J J (dg J J J J (fun hg=>gG (n:=0) mt J (bc J hg) J)),
  ⟨ie 50 11 41 2 J J J J (dg J J J J (fun hg=>aW (r:=rH aZ [(1,aC (ix.h 0).1 (ix.h 0).2 c.kinds.length),(2,aC (ix.h 1).1 (ix.h 1).2 c.first.length)]) (x:=c) kE J J (DY (m9 pw gK)) (.head _) (bc J hg))),
  ⟨ie 51 12 41 2 J J J J (dg J J J J (fun hg=>bY oz (bc J hg))),
  ⟨ie 52 13 41 2 J J J J (dg J J J J (fun hg=>fb (bc J hg) hI)),
  ⟨rs 46 7 53 14 41 2 J J J J J (dg J J J J (fun hg=>bW (bc J hg) (bc J hg))),
  ⟨dL 41 2 54 15 J J J J (kG J J),
  ⟨cP 39 0 J J J (tK J),
  ⟨cP 55 16 J J J (tK J),
  aV⟩⟩⟩⟩⟩⟩⟩⟩⟩⟩⟩⟩⟩⟩⟩⟩⟩⟩⟩ ?_
 refine aq<|ap<|av<|av<|av ?_;cases so h;exact fP (ts:=[dE e,eD (((t&&(decide (kM≤n.Limit)))&&(decide (n.Limit≤(2147483647:Int))))&&((c.kinds.length:Int)==(IntKind.i64.wrap ((c.Logic.Nodes.length:Int)-(1:Int)))))]) (rvs:=[.tmp 4,.tmp 5]) J J ⟨cJ J,cJ J,aV⟩ lm J J

theorem Hc(n:ai){R:Bool}(h:wk n=some R):bo aX 156 [tD aj n] (eD R):=by
 refine bo.of Tryz.func156 J J J fun w0 S0=>ay<|zo J (gP J)<|zo J (eL)<|aw<|ay<|zo J (cc pB jt J J)<|zo J (bq bD J J)<|zo J (jS J)<|aG J<|cb J J (fun hg=>cc ou js J J)<|cb J J (fun hg=>be cy J J (bc J hg))<|cb J J (fun hg=>bY cW (bc J hg))<|cb J J (fun hg=>bW (bc J hg) hI)<|zo J (kG J J)<|aG J<|cb J J (fun hg=>cc Fg BS J J)<|cb J J (fun hg=>be Cv J J (bc J hg))<|cb J J (fun hg=>dy (bc J hg))<|zo J (kG J J)<|aG J ?_;refine cb J J (fun hg=>cc pA kj J J)<|cb J J (fun hg=>ft d2 J cC J (bc J hg))<|cb J J (fun hg=>be jT J J (bc J hg))<|cb J J (fun hg=>bY je (bc J hg))<|cb J J (fun hg=>bW (bc J hg) hI)<|zo J (kG J J)<|aG J<|cb J J (fun hg=>cc ms gM J J)<|cb J J (fun hg=>be cy J J (bc J hg))<|cb J J (fun hg=>bY cW (bc J hg))<|cb J J (fun hg=>bW (bc J hg) hI)<|zo J (kG J J)<|aG J<|cb J J (fun hg=>cc jW iA J J)<|cb J J (fun hg=>be ro J J (bc J hg))<|cb J J (fun hg=>bY ny (bc J hg))<|cb J J (fun hg=>bW (bc J hg) hI)<|zo J (kG J J)<|aG J<|cb J J (fun hg=>cc k5 gL J J)<|cb J J (fun hg=>be rY J J (bc J hg))<|cb J J (fun hg=>bY nv (bc J hg))<|cb J J (fun hg=>bW (bc J hg) hI)<|zo J (kG J J) ?_;refine aG J<|cb J J (fun hg=>cc pC md J J)<|cb J J (fun hg=>be Br J J (bc J hg))<|cb J J (fun hg=>bY yp (bc J hg))<|cb J J (fun hg=>bW (bc J hg) hI)<|zo J (kG J J)<|aG J<|cb J J (fun hg=>cc vt qI J J)<|cb J J (fun hg=>be bD J J (bc J hg))<|cb J J (fun hg=>bW (bc J hg) hI)<|zo J (kG J J)<|bB J<|aw<|ap ?_;cases so h;exact aU J J

theorem Hb(n:ai){R:ai}(h:wl n=some R):bo aX 157 [tD aj n] (tD aj R):=by
 refine bo.of Tryz.func157 J J J fun w0 S0=>ay<|n7 (ht J) J fun b=>bj (r:=aj) (x:=vG) cD (fun _=>gX _) J fun b1=>aw<|ae<|ay<|zo J (d3 0 pD J J J)<|zo J (aW bD J J ju (.tail _ (.head _)) (ht J))<|aw<|ax<|ay<|zo J (jS J)<|bB J<|aw<|db h J (fun h=>?_) (fun h=>?_)
 ·refine am<|zo J (d3 3 pB J J J)<|bQ<|au bD J sb J (ht J) hI<|zo J (d3 4 ou J J J)<|au cy J o6 J (ht J) hP<|aQ<|an<|aq<|ay<|zo rfl (aW (x:=(ai.mk n.Op n.A n.B (0:Int) ([]) n.Left n.Cond n.Keys n.Aggs n.Items n.Order n.Limit)) cD J J bp (.head _) (ht J))<|bQ<|au cD J al J (ht J) (ht J)<|bg 2 J<|aw<|ap<|ba ?_;cases so h;exact iI J cD J J J
 ·refine ay<|zo J (jS J)<|bB J<|aw<|db h J (fun h=>?_) (fun h=>?_)
  ·refine am<|zo J (cr (y:=mT) fe IH mD (J))<|zo J (d3 5 Fg J J J)<|bQ<|au Cv J BA J (ht J) hB<|zo J (d3 6 pA J J J)<|au fe J sa J (ht J) (ht J)<|aQ<|an<|aq<|ay<|zo rfl (aW (x:=(ai.mk n.Op n.A n.B n.Table n.Kinds false mT n.Keys n.Aggs n.Items n.Order n.Limit)) cD J J bp (.head _) (ht J))<|bQ<|au cD J al J (ht J) (ht J)<|bg 2 J<|aw<|ap<|ba ?_;cases so h;exact iI J cD J J J
  ·refine ay<|zo J (jS J)<|bB J<|aw<|db h J (fun h=>?_) (fun h=>?_)
   ·refine am<|zo J (cr (y:=mT) fe IH mD (J))<|zo J (d3 6 pA J J J)<|bQ<|au fe J sa J (ht J) (ht J)<|aQ<|an<|aq<|ay<|zo rfl (aW (x:=(ai.mk n.Op n.A n.B n.Table n.Kinds n.Left mT n.Keys n.Aggs n.Items n.Order n.Limit)) cD J J bp (.head _) (ht J))<|bQ<|au cD J al J (ht J) (ht J)<|bg 2 J<|aw<|ap<|ba ?_;cases so h;exact iI J cD J J J
   ·refine ay<|zo J (jS J)<|bB J<|aw<|db h J (fun h=>?_) (fun h=>?_)
    ·refine am<|zo J (d3 7 ms J J J)<|bQ<|au cy J vS J (ht J) hP<|zo J (d3 8 jW J J J)<|au ro J vR J (ht J) hP<|aQ<|an<|aq<|ay<|zo rfl (aW (x:=(ai.mk n.Op n.A n.B n.Table n.Kinds n.Left n.Cond ([]) ([]) n.Items n.Order n.Limit)) cD J J bp (.head _) (ht J))<|bQ<|au cD J al J (ht J) (ht J)<|bg 2 J<|aw<|ap<|ba ?_;cases so h;exact iI J cD J J J
    ·refine ay<|zo J (jS J)<|bB J<|aw<|db h J (fun h=>?_) (fun h=>?_)
     ·refine am<|zo J (d3 9 k5 J J J)<|bQ<|au rY J Bz J (ht J) hP<|aQ<|an<|aq<|ay<|zo rfl (aW (x:=(ai.mk n.Op n.A n.B n.Table n.Kinds n.Left n.Cond n.Keys n.Aggs ([]) n.Order n.Limit)) cD J J bp (.head _) (ht J))<|bQ<|au cD J al J (ht J) (ht J)<|bg 2 J<|aw<|ap<|ba ?_;cases so h;exact iI J cD J J J
     ·refine ay<|zo J (jS J)<|bB J<|aw<|db h J (fun h=>?_) (fun h=>?_)
      ·refine am<|zo J (d3 10 pC J J J)<|bQ<|au Br J uF J (ht J) hP<|zo J (d3 11 vt J J J)<|au bD J Ac J (ht J) hI<|aQ<|an<|aq<|ay<|zo rfl (aW (x:=(ai.mk n.Op n.A n.B n.Table n.Kinds n.Left n.Cond n.Keys n.Aggs n.Items ([]) (0:Int))) cD J J bp (.head _) (ht J))<|bQ<|au cD J al J (ht J) (ht J)<|bg 2 J<|aw<|ap<|ba ?_;cases so h;exact iI J cD J J J
      ·refine bE<|an<|aq<|ay<|zo rfl (aW cD rfl rfl bp (.tail _ (.head _)) (ht rfl))<|au cD rfl al rfl (ht rfl) (ht rfl)<|bg 2 rfl<|aw<|ap<|ba ?_;cases so h;exact iI J cD J J J

theorem GT(op:Int){R:Int}(h:uJ op=some R):bo aX 213 [bK op] (bK R):=by
 refine bo.of Tryz.func213 J J J fun w0 S0=>ay<|zo J (dW)<|aw<|ae<|ay<|aG J<|aw<|ax<|ay<|zo J (jS J)<|bB J<|aw<|db h J (fun h=>?_) (fun h=>?_)
 ·refine ay<|zo J (dW)<|aw<|ap ?_;refine aH (M ?_);cases so h;exact aU J J
 ·refine ge (Z:=fun x=>m7 x=some R) (Of:=fun x=>[]) (Gf:=fun x=>[(6,eD x)]) (fun x h=>?_) (fun K=>?_)
  ·skip
   refine db h J (fun h=>?_) (fun h=>?_)
   ·refine ay<|zo J (dW)<|aw<|ap ?_;refine aH (M ?_);cases so h;exact aU J J
   ·refine bE<|an<|aq<|ay<|zo rfl (dW)<|aw<|ap ?_;cases so h;exact aU J J
  ·skip
   refine ay<|zo J (jS J)<|bB J<|aw<|db h J (fun h=>?_) (fun h=>?_)
   ·refine bE ?_;exact ce (K (op==(2:Int)) h) (bn J)
   ·refine am<|zo J (jS J)<|bB J<|aQ ?_;exact ce (K (op==(7:Int)) h) (bn J)

theorem Ji(b:Nat)(ix:OI)(c:aB)(i:Int){R:Int×Bool}(h:mB c i=some R):cA aX 158 [tV (aE b 0),bK i] (cE b c ix) (fun _:OI=>tT [bK R.1,eD R.2]) (fun _=>(cE b c ix)):=by
 refine cA.of Tryz.func158 J J J fun w0 S0=>?_;refine(show CG _ _ _ [bx (rH aZ [(1,aC (ix.h 0).1 (ix.h 0).2 c.kinds.length),(2,aC (ix.h 1).1 (ix.h 1).2 c.first.length)]) 123 b c,bV dK 42 (ix.h 0).1 (ix.h 0).2 c.kinds,bV bR 3 (ix.h 1).1 (ix.h 1).2 c.first] _ from ?_);refine ay<|zo J (dW)<|zo J (eL)<|aw<|ay<|aG J<|zo J (cU (ht J))<|zo J (d3 0 zj J J J)<|zo J (d3 0 mt J J J)<|zo J (aW (r:=rH aZ [(1,aC (ix.h 0).1 (ix.h 0).2 c.kinds.length),(2,aC (ix.h 1).1 (ix.h 1).2 c.first.length)]) (x:=c) kE J J (DY (m9 pw gK)) (.head _) (ht J))<|aG J<|bG h fun e q_e h=>zo J (jA oz cD J J J q_e)<|zo J (bq cD J J)<|bj (r:=aj) (x:=vG) cD (fun _=>gX _) J fun b1=>au cD J al J (ht J) (ht J)<|bg 6 J<|aw<|ae<|ae ?_;refine am<|zo J (cc pD ju J J)<|zo J (bq bD J J)<|bG h fun r q_r h=>zo J (aF KY (GT _ q_r) ⟨(ht J),aV⟩)<|aw<|ax<|ay<|zo J (jS J)<|bB J<|aw<|db h J (fun h=>?_) (fun h=>?_)
 ·refine ae ?_
  refine ec (ts:=[_,_,_,_,_,_,_,_,_,_,_]) mixed J J
   ⟨dT 1 J J J (cn J),
   ⟨dT 6 J J J (cc fM dn J J),
   ⟨cP 21 1 J J J (bq bD J J),
   ⟨cP 22 2 J J J (jS J),
   ⟨cP 23 3 J J J (cn J),
   ⟨nz 6 24 4 J J J J (dg J J J J (fun hg=>cc ko fK J J)),
   ⟨ie 25 5 24 4 J J J J (dg J J J J (fun hg=>be bD J J (bc J hg))),
   ⟨ie 26 6 24 4 J J J J (dg J J J J (fun hg=>bW (bc J hg) hI)),
   ⟨dL 24 4 27 7 J J J J (kG J J),
   ⟨cP 20 0 J J J (tK J),
   ⟨cP 28 8 J J J (tK J),
   aV⟩⟩⟩⟩⟩⟩⟩⟩⟩⟩⟩ ?_
  refine aq<|ap ?_;refine aH (M ?_);refine av<|av<|av ?_;cases so h;exact fP (ts:=[bK i,eD ((e.A==kM)&&(e.B==kM))]) (rvs:=[.tmp 4,.tmp 5]) J J ⟨cJ J,cJ J,aV⟩ lm J J
 ·refine ay<|zo J (jS J)<|bB J<|aw<|db h J (fun h=>?_) (fun h=>?_)
  ·refine ae<|ay<|zo J (cc fM dn J J)<|zo J (bq bD J J)<|aG J<|zo J (fb (ht J) hI)<|zo J (cK (ht J) (ht J))<|aG J<|cR J J (fun hg=>cc ko fK J J)<|cR J J (fun hg=>be bD J J (bc J hg))<|cR J J (fun hg=>cK (bc J hg) hI)<|zo J (oB J J)<|aG J<|cR J J (fun hg=>cn J)<|cR J J (fun hg=>bW (bc J hg) hI)<|zo J (oB J J)<|aw<|db h J (fun h=>?_) (fun h=>?_)
   ·refine ay<|zo J (dW)<|zo J (eL)<|aw<|ap ?_;refine M (aH (M ?_));refine av<|av<|av ?_;cases so h;exact fP (ts:=[bK 0,eD false]) (rvs:=[.tmp 4,.tmp 5]) J J ⟨cJ J,cJ J,aV⟩ lm J J
   ·refine dB<|ae<|bG h fun e1 q_e1 h=>?_
    refine ec (ts:=[_,_,_,_,_,_,_,_,_,_]) mixed J J
     ⟨dT 0 J J J (cn J),
     ⟨cP 45 0 J J J (cU (ht J)),
     ⟨cP 46 1 J J J (d3 2 nU J J J),
     ⟨cP 47 2 J J J (c8 cy J (.head _) (.tail _ (.tail _ (.head _))) (ht J)),
     ⟨dT 6 J J J (cc fM dn J J),
     ⟨cP 49 4 J J J (bq bD J J),
     ⟨dL 48 3 50 5 J J J J (aO cW bD J (iR (ht J)) (ht J) q_e1),
     ⟨cP 51 6 J J J (bq bD J J),
     ⟨cP 52 7 J J J (tK J),
     ⟨JT J J (eL),
     aV⟩⟩⟩⟩⟩⟩⟩⟩⟩⟩ ?_
    refine aq<|ap ?_;refine aH (M ?_);refine av<|av<|av ?_;cases so h;exact fP (ts:=[bK e1,eD true]) (rvs:=[.tmp 4,.tmp 5]) J J ⟨cJ J,cJ J,aV⟩ lm J J
  ·refine bE<|an<|aq<|ae<|ae<|bG h fun t q_t h=>?_
   obtain⟨e2,h1t,h0t⟩:=og q_t
   have q_e2g:=fun hb=>(h1t hb).1
   refine ec (ts:=[_,_,_,_,_,_,_,_,_,_,_,_,_,_,_,_,_,_,_,_,_,_,_,_,_,_,_,_]) mixed J J
    ⟨dT 6 J J J (cc ko fK J J),
    ⟨cP 53 0 J J J (bq bD J J),
    ⟨dT 1 J J J (cn J),
    ⟨cP 55 2 J J J (fb (ht J) hI),
    ⟨dL 54 1 56 3 J J J J (cK (ht J) (ht J)),
    ⟨cP 57 4 J J J (cn J),
    ⟨nz 1 58 5 J J J J (fy J J J J (fun hg=>cn J)),
    ⟨ie 59 6 58 5 J J J J (fy J J J J (fun hg=>bW (bc J hg) hI)),
    ⟨dL 58 5 60 7 J J J J (oB J J),
    ⟨cP 61 8 J J J (cn J),
    ⟨nz 6 62 9 J J J J (fy J J J J (fun hg=>cc fM dn J J)),
    ⟨ie 63 10 62 9 J J J J (fy J J J J (fun hg=>be bD J J (bc J hg))),
    ⟨nz 0 62 9 J J J J (fy J J J J (fun hg=>cn J)),
    ⟨ie 65 12 62 9 J J J J (fy J J J J (fun hg=>cU (bc J hg))),
    ⟨ie 66 13 62 9 J J J J (fy J J J J (fun hg=>gG (n:=2) nU J (bc J hg) J)),
    ⟨ie 67 14 62 9 J J J J (fy J J J J (fun hg=>c8 cy J (.head _) (.tail _ (.tail _ (.head _))) (bc J hg))),
    ⟨nz 6 62 9 J J J J (fy J J J J (fun hg=>cc ko fK J J)),
    ⟨ie 69 16 62 9 J J J J (fy J J J J (fun hg=>be bD J J (bc J hg))),
    ⟨rs 68 15 70 17 62 9 J J J J J (fy J J J J (fun hg=>aO cW bD J (iR (bc J hg)) (bc J hg) (q_e2g hg))),
    ⟨ie 71 18 62 9 J J J J (fy J J J J (fun hg=>be bD J J (bc J hg))),
    ⟨ie 72 19 62 9 J J J J (fy J J J J (fun hg=>fb (bc J hg) hI)),
    ⟨rs 64 11 73 20 62 9 J J J J J (fy J J J J (fun hg=>cK (bc J hg) (bc J hg))),
    ⟨dL 62 9 74 21 J J J J (dx (ht J) (fun hb=>(bc J (mj hb))) (fun hb=>(h1t hb).2) h0t),
    ⟨cP 75 22 J J J (cn J),
    ⟨nz 6 76 23 J J J J (fy J J J J (fun hg=>cc fM dn J J)),
    ⟨ie 77 24 76 23 J J J J (fy J J J J (fun hg=>be bD J J (bc J hg))),
    ⟨ie 78 25 76 23 J J J J (fy J J J J (fun hg=>eg (bc J hg) hI)),
    ⟨dL 76 23 79 26 J J J J (oB J J),
    aV⟩⟩⟩⟩⟩⟩⟩⟩⟩⟩⟩⟩⟩⟩⟩⟩⟩⟩⟩⟩⟩⟩⟩⟩⟩⟩⟩⟩ ?_
   refine aq<|db h rfl (fun h=>?_) (fun h=>?_)
   ·refine ay<|zo J (dW)<|zo J (eL)<|aw<|ap<|M<|av<|av<|av ?_;cases so h;exact fP (ts:=[bK 0,eD false]) (rvs:=[.tmp 4,.tmp 5]) J J ⟨cJ J,cJ J,aV⟩ lm J J
   ·refine dB<|ae<|bG h fun e3 q_e3 h=>?_
    refine ec (ts:=[_,_,_,_,_,_,_,_,_,_]) mixed J J
     ⟨dT 0 J J J (cn J),
     ⟨cP 81 0 J J J (cU (ht J)),
     ⟨cP 82 1 J J J (d3 2 nU J J J),
     ⟨cP 83 2 J J J (c8 cy J (.head _) (.tail _ (.tail _ (.head _))) (ht J)),
     ⟨dT 6 J J J (cc fM dn J J),
     ⟨cP 85 4 J J J (bq bD J J),
     ⟨dL 84 3 86 5 J J J J (aO cW bD J (iR (ht J)) (ht J) q_e3),
     ⟨cP 87 6 J J J (bq bD J J),
     ⟨cP 88 7 J J J (tK J),
     ⟨JT J J (eL),
     aV⟩⟩⟩⟩⟩⟩⟩⟩⟩⟩ ?_
    refine aq<|ap<|av<|av<|av ?_;cases so h;exact fP (ts:=[bK e3,eD true]) (rvs:=[.tmp 4,.tmp 5]) J J ⟨cJ J,cJ J,aV⟩ lm J J

theorem Fq(b:Nat)(ix:OI)(c:aB):tv aX 147 (fun(x:Int×Bool)=>[bK x.1,eD x.2]) (fun _=>jV c) (cE b) (cE b c ix) [bl (rT (tV (aE b 0))) ()]:=by
 refine tv.of Tryz.func147 J J J fun Sg yld s R h I yv hy e he w0 S0 B hB=>?_
 replace h:jV c yld s=some R:=h
 refine(show CG _ _ _ [e,bx (rH aZ [(1,aC (ix.h 0).1 (ix.h 0).2 c.kinds.length),(2,aC (ix.h 1).1 (ix.h 1).2 c.first.length)]) 123 b c,bV dK 42 (ix.h 0).1 (ix.h 0).2 c.kinds,bV bR 3 (ix.h 1).1 (ix.h 1).2 c.first] _ from ?_);refine ay<|wI (vc (fun y:(aB→ai→Option (((List Int)×Bool)×aB))=>cZ aX rm (cE b) rr y)) pZ J fun b1=>zo J (gr fU (ht J)) ?_
 refine n0 ((show bN _ _ _ _ (cZ aX rm (cE b) rr H3)from fg LA (ht J) (fun c x R h i=>by
   obtain⟨r,h1,rfl⟩:=sy.1 h
   exact hX (Ob:=fun j=>cE b c j) (i:=i) (Jr _ i c _ h1)))) J ?_
 refine gV (γ:=(fun y:(aB→ai→Option (((List Int)×Bool)×aB))=>cZ aX rm (cE b) rr y)) (y:=H3) yr (fR lj) (ht J) (p6 hI) (ht J) fun os=>zo J (gr fU (ht J)) ?_
 refine n0 ((show bN _ _ _ _ (cZ aX rm (cE b) rr H2)from fg Lz (ht J) (fun c x R h i=>by
   obtain⟨r,h1,rfl⟩:=sy.1 h
   exact hX (Ob:=fun j=>cE b c j) (i:=i) (Jq _ i c _ h1)))) J ?_
 refine gV (γ:=(fun y:(aB→ai→Option (((List Int)×Bool)×aB))=>cZ aX rm (cE b) rr y)) (y:=H2) yr (fR lj) (ht J) (p6 hI) (ht J) fun os1=>zo J (gr fU (ht J)) ?_
 refine n0 ((show bN _ _ _ _ (cZ aX rm (cE b) rr H7)from fg Ly (ht J) (fun c x R h i=>by
   obtain⟨r,h1,rfl⟩:=sy.1 h
   exact hX (Ob:=fun j=>cE b c j) (i:=i) (Jo _ i c _ h1)))) J ?_
 refine gV (γ:=(fun y:(aB→ai→Option (((List Int)×Bool)×aB))=>cZ aX rm (cE b) rr y)) (y:=H7) yr (fR lj) (ht J) (p6 hI) (ht J) fun os2=>zo J (gr fU (ht J)) ?_
 refine n0 ((show bN _ _ _ _ (cZ aX rm (cE b) rr H4)from fg Lx (ht J) (fun c x R h i=>by
   obtain⟨r,h1,rfl⟩:=sy.1 h
   exact hX (Ob:=fun j=>cE b c j) (i:=i) (Jn _ i c _ h1)))) J ?_
 refine gV (γ:=(fun y:(aB→ai→Option (((List Int)×Bool)×aB))=>cZ aX rm (cE b) rr y)) (y:=H4) yr (fR lj) (ht J) (p6 hI) (ht J) fun os3=>zo J (gr fU (ht J)) ?_
 refine n0 ((show bN _ _ _ _ (cZ aX rm (cE b) rr H8)from fg Lw (ht J) (fun c x R h i=>by
   obtain⟨r,h1,rfl⟩:=sy.1 h
   exact hX (Ob:=fun j=>cE b c j) (i:=i) (Jm _ i c _ h1)))) J ?_
 refine gV (γ:=(fun y:(aB→ai→Option (((List Int)×Bool)×aB))=>cZ aX rm (cE b) rr y)) (y:=H8) yr (fR lj) (ht J) (p6 hI) (ht J) fun os4=>zo J (gr fU (ht J)) ?_
 refine n0 ((show bN _ _ _ _ (cZ aX rm (cE b) rr H9)from fg Lv (ht J) (fun c x R h i=>by
   obtain⟨r,h1,rfl⟩:=sy.1 h
   exact hX (Ob:=fun j=>cE b c j) (i:=i) (Jl _ i c _ h1)))) J ?_
 refine gV (γ:=(fun y:(aB→ai→Option (((List Int)×Bool)×aB))=>cZ aX rm (cE b) rr y)) (y:=H9) yr (fR lj) (ht J) (p6 hI) (ht J) fun os5=>zo J (gr fU (ht J)) ?_
 refine n0 ((show bN _ _ _ _ (cZ aX rm (cE b) rr H6)from fg Lu (ht J) (fun c x R h i=>by
   obtain⟨r,h1,rfl⟩:=sy.1 h
   exact hX (Ob:=fun j=>cE b c j) (i:=i) (Jk _ i c _ h1)))) J ?_
 refine gV (γ:=(fun y:(aB→ai→Option (((List Int)×Bool)×aB))=>cZ aX rm (cE b) rr y)) (y:=H6) yr (fR lj) (ht J) (p6 hI) (ht J) fun os6=>zo J (gr fU (ht J)) ?_
 refine n0 ((show bN _ _ _ _ (cZ aX rm (cE b) rr H5)from fg Lt (ht J) (fun c x R h i=>by
   obtain⟨r,h1,rfl⟩:=sy.1 h
   exact hX (Ob:=fun j=>cE b c j) (i:=i) (Jj _ i c _ h1)))) J ?_
 refine gV (γ:=(fun y:(aB→ai→Option (((List Int)×Bool)×aB))=>cZ aX rm (cE b) rr y)) (y:=H5) yr (fR lj) (ht J) (p6 hI) (ht J) fun os7=>aG J<|bB J<|aw<|ay<|zo J (gr fU (ht J))<|zo J (cU (ht J))<|zo J (d3 0 zj J J J)<|zo J (d3 0 mt J J J)<|zo J (aW (r:=rH aZ [(1,aC (ix.h 0).1 (ix.h 0).2 c.kinds.length),(2,aC (ix.h 1).1 (ix.h 1).2 c.first.length)]) (x:=c) kE J J (DY (m9 pw gK)) (.tail _ (.tail _ (.head _))) (ht J))<|zo J (fV oz J)<|zo J (bv hI)<|aw<|ax<|bh (k:=33) J fun hN=>bF<|lL<|lL<|lL<|lM<|lL ?_;refine aT (AZ (Z:=fun ls i e1 s1 ob l c1 l1 c2=>(c.Logic.Nodes.drop i=ls)∧I s1 e1∧dQ yld ls i s1 ob=some R) (Of:=fun _ i e1 s1 ob l c1 l1 c2=>[e1,lE (vc (fun y:(aB→ai→Option (((List Int)×Bool)×aB))=>cZ aX rm (cE b) rr y)) pZ b1 none os7 Bn,bx (rH aZ [(1,aC l c1 ob.kinds.length),(2,aC l1 c2 ob.first.length)]) 123 b ob,bV dK 42 l c1 ob.kinds,bV bR 3 l1 c2 ob.first]) (Gf:=fun _ i e1 s1 ob l c1 l1 c2=>[(0,tV yv),(1,bl (rT (tV (aE b 0))) ()),(3,tV (nB b1)),(33,dS (aj) c.Logic.Nodes),(34,f7 c.Logic.Nodes),(35,bK (i:Int))]) (fun i e1 s1 ob l c1 l1 c2 h=>?_) (fun e2 tl ih i e1 s1 ob l c1 l1 c2 h=>?_) c.Logic.Nodes 0 e s c (ix.h 0).1 (ix.h 0).2 (ix.h 1).1 (ix.h 1).2 ⟨J,⟨he,h⟩⟩) (bn J)
 ·obtain⟨hx,h⟩:=h
  obtain⟨he1,h⟩:=h
  refine aA<|ay<|zo J (em J J)<|aw<|ae<|bz (ht J) (da hx)<|bk ?_;refine ac (ac (aM ?_));refine bU<|ba<|bm<|bm<|bm<|bm ?_;cases so h;exact Er J he1 (BO [(l,c1),(l1,c2)]) J
 ·obtain⟨hx,h⟩:=h
  obtain⟨he1,h⟩:=h
  refine aA<|ay<|zo J (em J J)<|aw<|ae<|bw (ht J) (c9 hx)<|dB<|ae<|ax<|ay<|aG J<|zo J (jA oz cD J J J (cV hx))<|zo J (bq cD J J)<|bj (r:=aj) (x:=vG) cD (fun _=>gX _) J fun b2=>bB J<|au cD J al J (ht J) (ht J)<|bg 5 J<|aw<|ae ?_;refine am<|aG J<|zo J (cc pD ju J J)<|zo J (bq bD J J)<|zo J (As (γ:=(fun y:(aB→ai→Option (((List Int)×Bool)×aB))=>cZ aX rm (cE b) (fun(x:(List Int)×Bool)=>tT [tD kL x.1,tD rB x.2]) y)) (z:=fun _ _=>none) yr (fR lj) JQ (fun _=>xn) (.tail _ (.head _)) (ht J) (p6 (ht J)))<|aG J<|zo J (jf J J)<|zo J (jf J J)<|bB J<|bB J<|aw<|ay<|aG J<|aG J<|bG h fun t q_t h=>cb J J (fun hg=>bq cD J J) ?_
  obtain⟨r,h1t,h0t⟩:=og q_t
  have q_rg:=fun hb=>(h1t hb).1
  refine cb J J (fun hg=>aF Lr (Hb _ (q_rg hg)) ⟨(bc J hg),aV⟩) ?_
  obtain⟨r1,h1t⟩:=Gr (fun hb=>(h1t hb).2)
  have q_r1g:=fun hb=>(h1t hb).1
  refine cb J J (fun hg=>aF Ls (Hc _ (q_r1g hg)) ⟨(bc J hg),aV⟩)<|zo J (dj (ht J) (fun hb=>(bc J hb)) (fun hb=>(h1t hb).2) h0t)<|bB J<|aw ?_;refine Eh (Z:=fun ok ob1 l2 c3 l3 c4=>iz yld (dQ yld tl) i e2 s1 ok ob1=some R) (Of:=fun ok ob1 l2 c3 l3 c4=>[e1,lE (vc (fun y:(aB→ai→Option (((List Int)×Bool)×aB))=>cZ aX rm (cE b) rr y)) pZ b1 none os7 Bn,bx (rH aZ [(1,aC l2 c3 ob1.kinds.length),(2,aC l3 c4 ob1.first.length)]) 123 b ob1,bV dK 42 l2 c3 ob1.kinds,bV bR 3 l3 c4 ob1.first]) (Gf:=fun ok ob1 l2 c3 l3 c4=>[(0,tV yv),(1,bl (rT (tV (aE b 0))) ()),(3,tV (nB b1)),(4,bK (i:Int)),(5,bl aj e2),(6,cZ aX rm (cE b) rr ((qC Bn e2.Op).getD (fun _ _=>none))),(8,eD ok),(33,dS (aj) c.Logic.Nodes),(34,f7 c.Logic.Nodes),(35,bK (i:Int))]) (fun ok ob1 l2 c3 l3 c4 h=>?_) (fun K=>?_)
  ·skip
   refine ay<|zo J (aP (show aL _ _ _ ln from hP))<|aw ?_;refine uv (Z:=fun ok1 kinds ob2 l4 c5 l5 c6=>iy yld (dQ yld tl) i s1 ok1 kinds ob2=some R) (Of:=fun ok1 kinds ob2 l4 c5 l5 c6=>[e1,lE (vc (fun y:(aB→ai→Option (((List Int)×Bool)×aB))=>cZ aX rm (cE b) rr y)) pZ b1 none os7 Bn,bx (rH aZ [(1,aC l4 c5 ob2.kinds.length),(2,aC l5 c6 ob2.first.length)]) 123 b ob2,bV dK 42 l4 c5 ob2.kinds,bV bR 3 l5 c6 ob2.first]) (Gf:=fun ok1 kinds ob2 l4 c5 l5 c6=>[(0,tV yv),(1,bl (rT (tV (aE b 0))) ()),(3,tV (nB b1)),(4,bK (i:Int)),(8,eD ok1),(10,dE kinds),(33,dS (aj) c.Logic.Nodes),(34,f7 c.Logic.Nodes),(35,bK (i:Int))]) (fun ok1 kinds ob2 l4 c5 l5 c6 h=>?_) (fun K1=>?_)
   ·skip
    refine ay<|aG J<|aG J<|cb J J (fun hg=>cn J)<|cb J J (fun hg=>bY cW (bc J hg))<|cb J J (fun hg=>io (bc J hg) hI)<|zo J (kG J J)<|bB J<|aw<|ae<|bG h fun l6 q_l6 h=>?_
    refine gA 8 [tc (tV (aE b 0)),tc (tV (aE b 0)),tc (tV (aE b 0)),tc (tV (aE b 1)),tc (tO dK l4 c5 ob2.kinds),tc (dE kinds),tc (dS (dK) ([kinds])),([7],fun s=>tO dK ((s.getD 0 lm).h 0).1 ((s.getD 0 lm).h 0).2 l6)] [false,false,false,false,false,false,false,true] [fun _=>[e1,lE (vc (fun y:(aB→ai→Option (((List Int)×Bool)×aB))=>cZ aX rm (cE b) rr y)) pZ b1 none os7 Bn,bx (rH aZ [(1,aC l4 c5 ob2.kinds.length),(2,aC l5 c6 ob2.first.length)]) 123 b ob2,bV dK 42 l4 c5 ob2.kinds,bV bR 3 l5 c6 ob2.first],fun sg=>[bV dK 42 ((sg 7).h 0).1 ((sg 7).h 0).2 l6,e1,lE (vc (fun y:(aB→ai→Option (((List Int)×Bool)×aB))=>cZ aX rm (cE b) rr y)) pZ b1 none os7 Bn,bx (rH aZ [(1,aC l4 c5 ob2.kinds.length),(2,aC l5 c6 ob2.first.length)]) 123 b ob2,bV bR 3 l5 c6 ob2.first]] J mixed J J J J J
     ⟨⟨[⟨1,fun _=>bl (rT (tV (aE b 0))) (),none⟩],_,0,1,J,⟨(fun _=>J),aV⟩,J,J,J,J,J,fun _ sg _ _=>af J (gr fU (ht J))⟩,
     ⟨⟨[⟨1,fun _=>bl (rT (tV (aE b 0))) (),none⟩],_,0,0,J,⟨(fun _=>J),aV⟩,J,J,J,J,J,fun _ sg _ _=>af J (gr fU (ht J))⟩,
     ⟨⟨[⟨84,fun _=>tV (aE b 0),some 1⟩],_,0,0,J,⟨(fun _=>J),aV⟩,J,J,J,J,J,fun _ sg _ _=>af J (cU (ht J))⟩,
     ⟨⟨[⟨85,fun _=>tV (aE b 0),some 2⟩],_,0,0,J,⟨(fun _=>J),aV⟩,J,J,J,J,J,fun _ sg _ _=>af J (d3 1 i9 J J J)⟩,
     ⟨⟨[⟨86,fun _=>tV (aE b 1),some 3⟩],_,0,0,J,⟨(fun _=>J),aV⟩,J,J,J,J,J,sC (fun sg=>af J (c8 p4 J (.tail _ (.tail _ (.head _))) (.tail _ (.tail _ (.tail _ (.head _)))) (ht J)))⟩,
     ⟨⟨[⟨10,fun _=>tD kL kinds,none⟩],_,0,0,J,⟨(fun _=>J),aV⟩,J,J,J,J,J,fun _ sg _ _=>af J (cn J)⟩,
     ⟨⟨[⟨88,fun _=>tD kL kinds,some 5⟩],_,0,0,J,⟨(fun _=>J),aV⟩,J,J,J,J,J,fun _ sg _ _=>af J (aS (r:=kL) (ys:=[kinds]) (xs:=[.tmp 88]) nw cy J J J J J ⟨(ht J),aV⟩)⟩,
     ⟨⟨[⟨87,fun _=>tO kL l4 c5 ob2.kinds,some 4⟩,⟨89,fun _=>tD (dG kL) ([kinds]),some 6⟩],_,J,⟨(fun _=>J),(fun _=>J),aV⟩,J,J,J,fun sg=>bZ J (EffOK.fr3 (nX cy J J J J nw J (ht J) (ht J) q_l6))⟩,
     aV⟩⟩⟩⟩⟩⟩⟩⟩ (fun sg=>?_)
    refine(show RG _ _ _ _ [bV dK 42 ((sg 7).h 0).1 ((sg 7).h 0).2 l6,e1,lE (vc (fun y:(aB→ai→Option (((List Int)×Bool)×aB))=>cZ aX rm (cE b) rr y)) pZ b1 none os7 Bn,bx (rH aZ [(1,aC l4 c5 ob2.kinds.length),(2,aC l5 c6 ob2.first.length)]) 123 b ob2,bV bR 3 l5 c6 ob2.first] _ from ?_);refine zo J (cU (ht J))<|zo J (d3 1 i9 J J J)<|n6 (EffOK.fr3 (ni (hs' :=[(1,aC ((sg 7).h 0).1 ((sg 7).h 0).2 l6.length),(2,aC l5 c6 ob2.first.length)]) (u:=aC ((sg 7).h 0).1 ((sg 7).h 0).2 l6.length) p4 J J yO J ⟨.inl ⟨J,J,J⟩,.inr ⟨J,J⟩,aV⟩ (ht J) (iR (ht J)) (vJ (ht J)))) fun i1=>?_;refine(show RG _ _ _ _ [bx (rH aZ [(1,aC ((sg 7).h 0).1 ((sg 7).h 0).2 l6.length),(2,aC l5 c6 ob2.first.length)]) 123 b ({ob2 with kinds:=l6}:aB),bV dK 42 ((sg 7).h 0).1 ((sg 7).h 0).2 l6,e1,lE (vc (fun y:(aB→ai→Option (((List Int)×Bool)×aB))=>cZ aX rm (cE b) rr y)) pZ b1 none os7 Bn,bV bR 3 l5 c6 ob2.first] _ from ?_);refine aw<|ay<|aG J<|aG J<|aG J<|du<|bG h fun r2 q_r2 h=>wG hy he1 q_r2 (ht J) ⟨(ht J),(ht J),aV⟩ J fun e3 he2=>zo J (dy (ht J))<|aG J<|cR J J (fun hg=>cn J)<|cR J J (fun hg=>dy (bc J hg))<|zo J (oB J J)<|aw<|db h J (fun h=>?_) (fun h=>?_)
    ·refine ap ?_;refine aH (M (M (aH ?_)));refine bm<|ba<|bm<|bm<|bm<|bm ?_;cases so h;exact A7 J he2 (BO [(((sg 7).h 0).1,((sg 7).h 0).2),(l5,c6)]) J
    ·refine bE<|an<|aq<|am<|zo rfl (jY (cG hx hN) rfl)<|aG rfl<|aQ<|cu<|bm<|bm<|cu<|cu ?_;exact bf (aT (ih (i+1) e3 r2.2 ({ob2 with kinds:=l6}:aB) ((sg 7).h 0).1 ((sg 7).h 0).2 l5 c6 ⟨cF hx,⟨he2,h⟩⟩) (bn J))
   ·skip
    refine ay<|aG J<|aw<|db h J (fun h=>?_) (fun h=>?_)
    ·refine am<|aG J<|zo J (bq cD J J)<|bG h fun r3 q_r3 h=>iE (EffOK.fr4 (EffOK.fr4 (EffOK.fr4 (te (args:=rm) (Ob:=cE b) (res:=rr) (f:=((qC Bn e2.Op).getD (fun _ _=>none))) (x:=ob1) (y:=((e2):ai)) (R:=r3) (i:=(BO [(l2,c3),(l3,c4)])) (xs:=[.tmp 73]) _ J (ht J) q_r3 ⟨(ht J),aV⟩ (fun _=>J))))) J fun i2=>?_;refine(show RG _ _ _ _ [bx (rH aZ [(1,aC (i2.h 0).1 (i2.h 0).2 r3.2.kinds.length),(2,aC (i2.h 1).1 (i2.h 1).2 r3.2.first.length)]) 123 b r3.2,bV dK 42 (i2.h 0).1 (i2.h 0).2 r3.2.kinds,bV bR 3 (i2.h 1).1 (i2.h 1).2 r3.2.first,e1,lE (vc (fun y:(aB→ai→Option (((List Int)×Bool)×aB))=>cZ aX rm (cE b) rr y)) pZ b1 none os7 Bn] ((74,tT [dE r3.1.1,eD r3.1.2])::_)from ?_);refine aG J<|zo J (jf J J)<|zo J (jf J J)<|bB J<|bB J<|aQ<|av<|av<|av<|cu<|cu ?_;exact ce (K1 r3.1.2 r3.1.1 r3.2 (i2.h 0).1 (i2.h 0).2 (i2.h 1).1 (i2.h 1).2 h) (bn J)
    ·refine bE ?_;exact ce (K1 ok ([]) ob1 l2 c3 l3 c4 h) (bn J)
  ·skip
   refine ay<|aG J<|aw<|db h J (fun h=>?_) (fun h=>?_)
   ·refine ay<|zo J (dW)<|aw<|ay<|zo J (gr fU (ht J))<|aG J<|bG h fun r4 q_r4 h=>iE (EffOK.fr4 (EffOK.fr4 (EffOK.fr4 (ef (xs:=[.tmp 55,.tmp 56]) (ts:=[tV (aE b 0),bK (i:Int)]) (cE b ob (BO [(l,c1),(l1,c2)])) _ J Lq (Ji b (BO [(l,c1),(l1,c2)]) ob _ q_r4) ⟨(ht J),(ht J),aV⟩ (fun _=>J))))) J fun i3=>?_;refine(show RG _ _ _ _ [bx (rH aZ [(1,aC l c1 ob.kinds.length),(2,aC l1 c2 ob.first.length)]) 123 b ob,bV dK 42 l c1 ob.kinds,bV bR 3 l1 c2 ob.first,e1,lE (vc (fun y:(aB→ai→Option (((List Int)×Bool)×aB))=>cZ aX rm (cE b) rr y)) pZ b1 none os7 Bn] ((57,tT [bK r4.1,eD r4.2])::_)from ?_);refine aG J<|zo J (jf J J)<|zo J (jf J J)<|bB J<|bB J<|aw<|bG h fun l7 q_l7 h=>?_
    refine gA 8 [tc (tV (aE b 0)),tc (tV (aE b 0)),tc (tV (aE b 0)),tc (tV (aE b 2)),tc (tO bR l1 c2 ob.first),tc (bK r4.1),tc (dE ([r4.1])),([7],fun s=>tO bR ((s.getD 0 lm).h 0).1 ((s.getD 0 lm).h 0).2 l7)] [false,false,false,false,false,false,false,true] [fun _=>[bx (rH aZ [(1,aC l c1 ob.kinds.length),(2,aC l1 c2 ob.first.length)]) 123 b ob,bV dK 42 l c1 ob.kinds,bV bR 3 l1 c2 ob.first,e1,lE (vc (fun y:(aB→ai→Option (((List Int)×Bool)×aB))=>cZ aX rm (cE b) rr y)) pZ b1 none os7 Bn],fun sg1=>[bV bR 3 ((sg1 7).h 0).1 ((sg1 7).h 0).2 l7,bx (rH aZ [(1,aC l c1 ob.kinds.length),(2,aC l1 c2 ob.first.length)]) 123 b ob,bV dK 42 l c1 ob.kinds,e1,lE (vc (fun y:(aB→ai→Option (((List Int)×Bool)×aB))=>cZ aX rm (cE b) rr y)) pZ b1 none os7 Bn]] J mixed J J J J J
     ⟨⟨[⟨1,fun _=>bl (rT (tV (aE b 0))) (),none⟩],_,0,1,J,⟨(fun _=>J),aV⟩,J,J,J,J,J,fun _ sg1 _ _=>af J (gr fU (ht J))⟩,
     ⟨⟨[⟨1,fun _=>bl (rT (tV (aE b 0))) (),none⟩],_,0,0,J,⟨(fun _=>J),aV⟩,J,J,J,J,J,fun _ sg1 _ _=>af J (gr fU (ht J))⟩,
     ⟨⟨[⟨61,fun _=>tV (aE b 0),some 1⟩],_,0,0,J,⟨(fun _=>J),aV⟩,J,J,J,J,J,fun _ sg1 _ _=>af J (cU (ht J))⟩,
     ⟨⟨[⟨62,fun _=>tV (aE b 0),some 2⟩],_,0,0,J,⟨(fun _=>J),aV⟩,J,J,J,J,J,fun _ sg1 _ _=>af J (d3 2 nU J J J)⟩,
     ⟨⟨[⟨63,fun _=>tV (aE b 2),some 3⟩],_,0,0,J,⟨(fun _=>J),aV⟩,J,J,J,J,J,sC (fun sg1=>af J (c8 cy J (.head _) (.tail _ (.tail _ (.head _))) (ht J)))⟩,
     ⟨⟨[⟨9,fun _=>tD bR r4.1,none⟩],_,0,0,J,⟨(fun _=>J),aV⟩,J,J,J,J,J,fun _ sg1 _ _=>af J (cn J)⟩,
     ⟨⟨[⟨65,fun _=>tD bR r4.1,some 5⟩],_,0,0,J,⟨(fun _=>J),aV⟩,J,J,J,J,J,fun _ sg1 _ _=>af J (aS (r:=bR) (ys:=[r4.1]) (xs:=[.tmp 65]) cW bD J J J J J ⟨(ht J),aV⟩)⟩,
     ⟨⟨[⟨64,fun _=>tO bR l1 c2 ob.first,some 4⟩,⟨66,fun _=>tD kL ([r4.1]),some 6⟩],_,J,⟨(fun _=>J),(fun _=>J),aV⟩,J,J,J,fun sg1=>bZ J (EffOK.fr2 (nX bD J J J J cW J (ht J) (ht J) q_l7))⟩,
     aV⟩⟩⟩⟩⟩⟩⟩⟩ (fun sg1=>?_)
    refine(show RG _ _ _ _ [bV bR 3 ((sg1 7).h 0).1 ((sg1 7).h 0).2 l7,bx (rH aZ [(1,aC l c1 ob.kinds.length),(2,aC l1 c2 ob.first.length)]) 123 b ob,bV dK 42 l c1 ob.kinds,e1,lE (vc (fun y:(aB→ai→Option (((List Int)×Bool)×aB))=>cZ aX rm (cE b) rr y)) pZ b1 none os7 Bn] _ from ?_);refine zo J (cU (ht J))<|zo J (d3 2 nU J J J)<|n6 (EffOK.fr1 (ni (hs' :=[(1,aC l c1 ob.kinds.length),(2,aC ((sg1 7).h 0).1 ((sg1 7).h 0).2 l7.length)]) (u:=aC ((sg1 7).h 0).1 ((sg1 7).h 0).2 l7.length) cy J J yN J ⟨.inr ⟨J,J⟩,.inl ⟨J,J,J⟩,aV⟩ (ht J) (iR (ht J)) (vJ (ht J)))) fun i4=>?_;refine(show RG _ _ _ _ [bx (rH aZ [(1,aC l c1 ob.kinds.length),(2,aC ((sg1 7).h 0).1 ((sg1 7).h 0).2 l7.length)]) 123 b ({ob with first:=l7}:aB),bV bR 3 ((sg1 7).h 0).1 ((sg1 7).h 0).2 l7,bV dK 42 l c1 ob.kinds,e1,lE (vc (fun y:(aB→ai→Option (((List Int)×Bool)×aB))=>cZ aX rm (cE b) rr y)) pZ b1 none os7 Bn] _ from ?_);refine aQ<|bU<|av<|av<|cu<|cu ?_;exact ce (K r4.2 ({ob with first:=l7}:aB) l c1 ((sg1 7).h 0).1 ((sg1 7).h 0).2 h) (bn J)
   ·refine bE ?_;exact ce (K t ob l c1 l1 c2 h) (bn J)

end Go.Proofs.YtnmjbolollcokaaGreatDoor

