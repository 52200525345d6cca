/- cJ of this claim: P3. -/
import Derived.Test.YtnmjbolollcokaaGreatDoorRbT
import Derived.Test.YtnmjbolollcokaaGreatDoorRbP2
set_option linter.all false
namespace Go.Proofs.YtnmjbolollcokaaGreatDoor
open Go
set_option maxRecDepth 100000

theorem GZ(s:(List jD))(f:(jD→Option Bool)){R:Bool}(h:ft s f=some R):bn ba 212 [dH (gp) s,(eN ba ED jX (fun(x:jD)=>f x))] (eH R):=by
 refine bn.of Tryz.func212 J J J fun w0 S0=>ay<|zo J (eZ)<|aw<|ay<|aH J<|aH J<|bI h fun r q_r h=>zo J (aK KO (GO _ _ q_r) ⟨(ht J),(ht J),aT⟩)<|zo J (dN (ht J) hI)<|bC J<|aw<|aq ?_;cases so h;exact aW J J

theorem Jp(b:Nat)(ix:OI)(c:aB)(n:ai){R:(List Int)×Bool}(h:gC c n=some R):cz ba 155 [tV (aF b 0),tD ak n] (cD b c ix) (fun _:OI=>tT [dX R.1,eH R.2]) (fun _=>(cD b c ix)):=by
 refine cz.of Tryz.func155 J J J fun w0 S0=>?_;refine(show CG _ _ _ [bx (rH aZ [(1,aC (ix.h 0).1 (ix.h 0).2 c.kinds.length),(2,aC (ix.h 1).1 (ix.h 1).2 c.first.length)]) 123 b c,bV dG 42 (ix.h 0).1 (ix.h 0).2 c.kinds,bV bM 3 (ix.h 1).1 (ix.h 1).2 c.first] _ from ?_);refine ay<|zo J (gY J)<|zo J (aP (show aG _ _ _ lQ from ib))<|zo J (eZ)<|aw<|af<|bI h fun e q_e h=>?_
 refine fg 9 [tc (tV (aF b 0)),tc (tV (aF b 0)),tc (tV (aF b 1)),tc (tO dG (ix.h 0).1 (ix.h 0).2 c.kinds),tc (bj bM n.A),tc (bD n.A),tc (bj dG e),tc (dX e),([8],fun s=>tV (aF ((s.getD 0 kp).h 0).2 0))] [false,false,false,false,false,false,false,false,true] [fun _=>[bx (rH aZ [(1,aC (ix.h 0).1 (ix.h 0).2 c.kinds.length),(2,aC (ix.h 1).1 (ix.h 1).2 c.first.length)]) 123 b c,bV dG 42 (ix.h 0).1 (ix.h 0).2 c.kinds,bV bM 3 (ix.h 1).1 (ix.h 1).2 c.first],fun sg=>[bx dG 42 ((sg 8).h 0).2 ([]),bx (rH aZ [(1,aC (ix.h 0).1 (ix.h 0).2 c.kinds.length),(2,aC (ix.h 1).1 (ix.h 1).2 c.first.length)]) 123 b c,bV dG 42 (ix.h 0).1 (ix.h 0).2 c.kinds,bV bM 3 (ix.h 1).1 (ix.h 1).2 c.first]] J mixed J J J J J
  ⟨⟨[⟨0,fun _=>tV (aF b 0),none⟩],_,0,1,J,⟨(fun _=>J),aT⟩,J,J,J,J,J,fun _ sg _ _=>ae J (cL J)⟩,
  ⟨⟨[⟨9,fun _=>tV (aF b 0),some 0⟩],_,0,1,J,⟨(fun _=>J),aT⟩,J,J,J,J,J,fun _ sg _ _=>ae J (cN (ht J))⟩,
  ⟨⟨[⟨10,fun _=>tV (aF b 0),some 1⟩],_,0,1,J,⟨(fun _=>J),aT⟩,J,J,J,J,J,fun _ sg _ _=>ae J (dY 1 iQ J J J)⟩,
  ⟨⟨[⟨11,fun _=>tV (aF b 1),some 2⟩],_,0,1,J,⟨(fun _=>J),aT⟩,J,J,J,J,J,vC (fun sg=>ae J (cX pE J (.head _) (.tail _ (.head _)) (ht J))) (qY (fun sg=>ae J (cX pE J (.tail _ (.head _)) (.tail _ (.tail _ (.head _))) (ht J))))⟩,
  ⟨⟨[⟨3,fun _=>bj ak n,none⟩],_,0,1,J,⟨(fun _=>J),aT⟩,J,J,J,J,J,fun _ sg _ _=>ae J (cr fK dk J J)⟩,
  ⟨⟨[⟨13,fun _=>bj bM n.A,some 4⟩],_,0,1,J,⟨(fun _=>J),aT⟩,J,J,J,J,J,fun _ sg _ _=>ae J (bz bK J J)⟩,
  ⟨⟨[⟨12,fun _=>tO kx (ix.h 0).1 (ix.h 0).2 c.kinds,some 3⟩,⟨14,fun _=>tD bM n.A,some 5⟩],_,0,1,J,⟨(fun _=>J),(fun _=>J),aT⟩,J,J,J,J,J,fun _ sg _ _=>ae J (aO ne cu J (iW (ht J)) (ht J) q_e)⟩,
  ⟨⟨[⟨15,fun _=>bj kx e,some 6⟩],_,0,1,J,⟨(fun _=>J),aT⟩,J,J,J,J,J,fun _ sg _ _=>ae J (bz cu J J)⟩,
  ⟨⟨[],_,J,aT,J,J,J,fun sg=>bS J (ei (r:=kx) (x:=[]) cu (fun _=>⟨none,0,J,fy _,im _,.inl J⟩))⟩,
  aT⟩⟩⟩⟩⟩⟩⟩⟩⟩ (fun sg=>?_)
 refine(show RG _ _ _ _ [bx dG 42 ((sg 8).h 0).2 ([]),bx (rH aZ [(1,aC (ix.h 0).1 (ix.h 0).2 c.kinds.length),(2,aC (ix.h 1).1 (ix.h 1).2 c.first.length)]) 123 b c,bV dG 42 (ix.h 0).1 (ix.h 0).2 c.kinds,bV bM 3 (ix.h 1).1 (ix.h 1).2 c.first] _ from ?_);refine ap cu J aj J (ht J) (ht J)<|bc 6 J<|aw<|ay<|zo J ((show bH _ _ _ _ ((eN ba ED jX (fun(x:jD)=>(iM e) x)))from jd (cts:=[bj dG e]) (caps:=[.tmp 6]) K8 ⟨(ht J),aT⟩ (fun x y h=>G0 _ _ h)))<|bC J<|aw<|ay<|zo J (cr pj lL J J)<|zo J (bz Bs J J)<|zo J (gV yl J)<|zo J (je (ht J) hI)<|aH J<|bI h fun t q_t h=>co J J (fun hg=>cr pj lL J J)<|co J J (fun hg=>bp Bs J J (bq J hg))<|co J J (fun hg=>cL J) ?_
 obtain⟨r,h1t,h0t⟩:=og q_t
 have q_rg:=fun hb=>(h1t hb).1
 refine co J J (fun hg=>aK K0 (GZ _ _ (q_rg hg)) ⟨(bq J hg),(bq J hg),aT⟩)<|co J J (fun hg=>d8 (bq J hg))<|zo J (dZ (ht J) (fun hb=>(bq J hb)) (fun hb=>(h1t hb).2) h0t)<|aH J<|co J J (fun hg=>cr vi qm J J)<|co J J (fun hg=>bp bK J J (bq J hg))<|co J J (fun hg=>dN (bq J hg) hI)<|zo J (mv J J)<|aH J<|co J J (fun hg=>cr vi qm J J)<|co J J (fun hg=>bp bK J J (bq J hg))<|co J J (fun hg=>je (bq J hg) hI)<|zo J (mv J J)<|bC J<|aw<|af ?_
 refine eR (ts:=[_,_,_,_,_,_,_,_,_,_,_,_,_,_,_,_,_,_,_]) mixed J J
  ⟨ek 6 J J J (bz cu J J),
  ⟨ek 8 J J J (cL J),
  ⟨c9 40 1 J J J (cL J),
  ⟨wO 0 41 2 J J J J (gz J J J J (fun hg=>cL J)),
  ⟨mi 42 3 41 2 J J J J (gz J J J J (fun hg=>cN (bq J hg))),
  ⟨mi 43 4 41 2 J J J J (gz J J J J (fun hg=>gr (n:=1) iQ J (bq J hg) J)),
  ⟨mi 44 5 41 2 J J J J (gz J J J J (fun hg=>cX pE J (.head _) (.tail _ (.head _)) (bq J hg))),
  ⟨mi 45 6 41 2 J J J J (gz J J J J (fun hg=>ca ne (iW (bq J hg)))),
  ⟨wO 0 41 2 J J J J (gz J J J J (fun hg=>cL J)),
  ⟨mi 47 8 41 2 J J J J (gz J J J J (fun hg=>cN (bq J hg))),
  ⟨mi 48 9 41 2 J J J J (gz J J J J (fun hg=>gr (n:=0) zg J (bq J hg) J)),
  ⟨mi 49 10 41 2 J J J J (gz J J J J (fun hg=>gr (n:=0) l8 J (bq J hg) J)),
  ⟨mi 50 11 41 2 J J J J (gz J J J J (fun hg=>aX (r:=rH aZ [(1,aC (ix.h 0).1 (ix.h 0).2 c.kinds.length),(2,aC (ix.h 1).1 (ix.h 1).2 c.first.length)]) (x:=c) k5 J J (DV (mR pe gv)) (.head _) (bq J hg))),
  ⟨mi 51 12 41 2 J J J J (gz J J J J (fun hg=>ca iq (bq J hg))),
  ⟨mi 52 13 41 2 J J J J (gz J J J J (fun hg=>eV (bq J hg) hI)),
  ⟨Ct 46 7 53 14 41 2 J J J J J (gz J J J J (fun hg=>cj (bq J hg) (bq J hg))),
  ⟨eo 41 2 54 15 J J J J (mv J J),
  ⟨c9 39 0 J J J (vB J),
  ⟨c9 55 16 J J J (vB J),
  aT⟩⟩⟩⟩⟩⟩⟩⟩⟩⟩⟩⟩⟩⟩⟩⟩⟩⟩⟩ ?_
 refine av<|aq<|au<|au<|au ?_;cases so h;exact fN (ts:=[dX e,eH (((t&&(decide (mw≤n.Limit)))&&(decide (n.Limit≤(2147483647:Int))))&&((c.kinds.length:Int)==(IntKind.i64.wrap ((c.Logic.Nodes.length:Int)-(1:Int)))))]) (rvs:=[.tmp 4,.tmp 5]) J J ⟨cG J,cG J,aT⟩ kp J J

theorem Hh(n:ai){R:Bool}(h:wb n=some R):bn ba 156 [tD ak n] (eH R):=by
 refine bn.of Tryz.func156 J J J fun w0 S0=>ay<|zo J (gY J)<|zo J (eZ)<|aw<|ay<|zo J (cr qq j7 J J)<|zo J (bz bK J J)<|zo J (jR J)<|aH J<|co J J (fun hg=>cr n6 ji J J)<|co J J (fun hg=>bp cu J J (bq J hg))<|co J J (fun hg=>ca dm (bq J hg))<|co J J (fun hg=>cj (bq J hg) hI)<|zo J (mv J J)<|aH J<|co J J (fun hg=>cr Fl BV J J)<|co J J (fun hg=>bp Cw J J (bq J hg))<|co J J (fun hg=>d8 (bq J hg))<|zo J (mv J J)<|aH J ?_;refine co J J (fun hg=>cr pi j6 J J)<|co J J (fun hg=>hJ dW J cC J (bq J hg))<|co J J (fun hg=>bp jG J J (bq J hg))<|co J J (fun hg=>ca iT (bq J hg))<|co J J (fun hg=>cj (bq J hg) hI)<|zo J (mv J J)<|aH J<|co J J (fun hg=>cr lZ gx J J)<|co J J (fun hg=>bp cu J J (bq J hg))<|co J J (fun hg=>ca dm (bq J hg))<|co J J (fun hg=>cj (bq J hg) hI)<|zo J (mv J J)<|aH J<|co J J (fun hg=>cr jJ ic J J)<|co J J (fun hg=>bp q0 J J (bq J hg))<|co J J (fun hg=>ca nf (bq J hg))<|co J J (fun hg=>cj (bq J hg) hI)<|zo J (mv J J)<|aH J<|co J J (fun hg=>cr kI gw J J)<|co J J (fun hg=>bp rA J J (bq J hg))<|co J J (fun hg=>ca nc (bq J hg))<|co J J (fun hg=>cj (bq J hg) hI)<|zo J (mv J J) ?_;refine aH J<|co J J (fun hg=>cr pj lL J J)<|co J J (fun hg=>bp Bs J J (bq J hg))<|co J J (fun hg=>ca yl (bq J hg))<|co J J (fun hg=>cj (bq J hg) hI)<|zo J (mv J J)<|aH J<|co J J (fun hg=>cr vi qm J J)<|co J J (fun hg=>bp bK J J (bq J hg))<|co J J (fun hg=>cj (bq J hg) hI)<|zo J (mv J J)<|bC J<|aw<|aq ?_;cases so h;exact aW J J

theorem Hg(n:ai){R:ai}(h:wc n=some R):bn ba 157 [tD ak n] (tD ak R):=by
 refine bn.of Tryz.func157 J J J fun w0 S0=>ay<|nL (ht J) J fun b=>bg (r:=ak) (x:=vz) cE (fun _=>gG _) J fun b1=>aw<|af<|ay<|zo J (dY 0 qr J J J)<|zo J (aX bK J J j8 (.tail _ (.head _)) (ht J))<|aw<|ax<|ay<|zo J (jR J)<|bC J<|aw<|dn h J (fun h=>?_) (fun h=>?_)
 ·refine am<|zo J (dY 3 qq J J J)<|bN<|ap bK J rF J (ht J) hI<|zo J (dY 4 n6 J J J)<|ap cu J oL J (ht J) ib<|aQ<|an<|av<|ay<|zo rfl (aX (x:=(ai.mk n.Op n.A n.B (0:Int) ([]) n.Left n.Cond n.Keys n.Aggs n.Items n.Order n.Limit)) cE J J bm (.head _) (ht J))<|bN<|ap cE J aj J (ht J) (ht J)<|bc 2 J<|aw<|aq<|aU ?_;cases so h;exact iy J cE J J J
 ·refine ay<|zo J (jR J)<|bC J<|aw<|dn h J (fun h=>?_) (fun h=>?_)
  ·refine am<|zo J (cy (y:=mz) fa IP mh (J))<|zo J (dY 5 Fl J J J)<|bN<|ap Cw J BB J (ht J) hB<|zo J (dY 6 pi J J J)<|ap fa J rE J (ht J) (ht J)<|aQ<|an<|av<|ay<|zo rfl (aX (x:=(ai.mk n.Op n.A n.B n.Table n.Kinds false mz n.Keys n.Aggs n.Items n.Order n.Limit)) cE J J bm (.head _) (ht J))<|bN<|ap cE J aj J (ht J) (ht J)<|bc 2 J<|aw<|aq<|aU ?_;cases so h;exact iy J cE J J J
  ·refine ay<|zo J (jR J)<|bC J<|aw<|dn h J (fun h=>?_) (fun h=>?_)
   ·refine am<|zo J (cy (y:=mz) fa IP mh (J))<|zo J (dY 6 pi J J J)<|bN<|ap fa J rE J (ht J) (ht J)<|aQ<|an<|av<|ay<|zo rfl (aX (x:=(ai.mk n.Op n.A n.B n.Table n.Kinds n.Left mz n.Keys n.Aggs n.Items n.Order n.Limit)) cE J J bm (.head _) (ht J))<|bN<|ap cE J aj J (ht J) (ht J)<|bc 2 J<|aw<|aq<|aU ?_;cases so h;exact iy J cE J J J
   ·refine ay<|zo J (jR J)<|bC J<|aw<|dn h J (fun h=>?_) (fun h=>?_)
    ·refine am<|zo J (dY 7 lZ J J J)<|bN<|ap cu J vN J (ht J) ib<|zo J (dY 8 jJ J J J)<|ap q0 J vM J (ht J) ib<|aQ<|an<|av<|ay<|zo rfl (aX (x:=(ai.mk n.Op n.A n.B n.Table n.Kinds n.Left n.Cond ([]) ([]) n.Items n.Order n.Limit)) cE J J bm (.head _) (ht J))<|bN<|ap cE J aj J (ht J) (ht J)<|bc 2 J<|aw<|aq<|aU ?_;cases so h;exact iy J cE J J J
    ·refine ay<|zo J (jR J)<|bC J<|aw<|dn h J (fun h=>?_) (fun h=>?_)
     ·refine am<|zo J (dY 9 kI J J J)<|bN<|ap rA J BA J (ht J) ib<|aQ<|an<|av<|ay<|zo rfl (aX (x:=(ai.mk n.Op n.A n.B n.Table n.Kinds n.Left n.Cond n.Keys n.Aggs ([]) n.Order n.Limit)) cE J J bm (.head _) (ht J))<|bN<|ap cE J aj J (ht J) (ht J)<|bc 2 J<|aw<|aq<|aU ?_;cases so h;exact iy J cE J J J
     ·refine ay<|zo J (jR J)<|bC J<|aw<|dn h J (fun h=>?_) (fun h=>?_)
      ·refine am<|zo J (dY 10 pj J J J)<|bN<|ap Bs J uk J (ht J) ib<|zo J (dY 11 vi J J J)<|ap bK J Ab J (ht J) hI<|aQ<|an<|av<|ay<|zo rfl (aX (x:=(ai.mk n.Op n.A n.B n.Table n.Kinds n.Left n.Cond n.Keys n.Aggs n.Items ([]) (0:Int))) cE J J bm (.head _) (ht J))<|bN<|ap cE J aj J (ht J) (ht J)<|bc 2 J<|aw<|aq<|aU ?_;cases so h;exact iy J cE J J J
      ·refine bE<|an<|av<|ay<|zo rfl (aX cE rfl rfl bm (.tail _ (.head _)) (ht rfl))<|ap cE rfl aj rfl (ht rfl) (ht rfl)<|bc 2 rfl<|aw<|aq<|aU ?_;cases so h;exact iy J cE J J J

theorem GY(op:Int){R:Int}(h:uu op=some R):bn ba 213 [bD op] (bD R):=by
 refine bn.of Tryz.func213 J J J fun w0 S0=>ay<|zo J (d9)<|aw<|af<|ay<|aH J<|aw<|ax<|ay<|zo J (jR J)<|bC J<|aw<|dn h J (fun h=>?_) (fun h=>?_)
 ·refine ay<|zo J (d9)<|aw<|aq ?_;refine aD (M ?_);cases so h;exact aW J J
 ·refine fX (Z:=fun x=>mP x=some R) (Of:=fun x=>[]) (Gf:=fun x=>[(6,eH x)]) (fun x h=>?_) (fun K=>?_)
  ·skip
   refine dn h J (fun h=>?_) (fun h=>?_)
   ·refine ay<|zo J (d9)<|aw<|aq ?_;refine aD (M ?_);cases so h;exact aW J J
   ·refine bE<|an<|av<|ay<|zo rfl (d9)<|aw<|aq ?_;cases so h;exact aW J J
  ·skip
   refine ay<|zo J (jR J)<|bC J<|aw<|dn h J (fun h=>?_) (fun h=>?_)
   ·refine bE ?_;exact cd (K (op==(2:Int)) h) (bl J)
   ·refine am<|zo J (jR J)<|bC J<|aQ ?_;exact cd (K (op==(7:Int)) h) (bl J)

theorem Jo(b:Nat)(ix:OI)(c:aB)(i:Int){R:Int×Bool}(h:mg c i=some R):cz ba 158 [tV (aF b 0),bD i] (cD b c ix) (fun _:OI=>tT [bD R.1,eH R.2]) (fun _=>(cD b c ix)):=by
 refine cz.of Tryz.func158 J J J fun w0 S0=>?_;refine(show CG _ _ _ [bx (rH aZ [(1,aC (ix.h 0).1 (ix.h 0).2 c.kinds.length),(2,aC (ix.h 1).1 (ix.h 1).2 c.first.length)]) 123 b c,bV dG 42 (ix.h 0).1 (ix.h 0).2 c.kinds,bV bM 3 (ix.h 1).1 (ix.h 1).2 c.first] _ from ?_);refine ay<|zo J (d9)<|zo J (eZ)<|aw<|ay<|aH J<|zo J (cN (ht J))<|zo J (dY 0 zg J J J)<|zo J (dY 0 l8 J J J)<|zo J (aX (r:=rH aZ [(1,aC (ix.h 0).1 (ix.h 0).2 c.kinds.length),(2,aC (ix.h 1).1 (ix.h 1).2 c.first.length)]) (x:=c) k5 J J (DV (mR pe gv)) (.head _) (ht J))<|aH J<|bI h fun e q_e h=>zo J (km iq cE J J J q_e)<|zo J (bz cE J J)<|bg (r:=ak) (x:=vz) cE (fun _=>gG _) J fun b1=>ap cE J aj J (ht J) (ht J)<|bc 6 J<|aw<|af<|af ?_;refine am<|zo J (cr qr j8 J J)<|zo J (bz bK J J)<|bI h fun r q_r h=>zo J (aK KZ (GY _ q_r) ⟨(ht J),aT⟩)<|aw<|ax<|ay<|zo J (jR J)<|bC J<|aw<|dn h J (fun h=>?_) (fun h=>?_)
 ·refine af ?_
  refine eR (ts:=[_,_,_,_,_,_,_,_,_,_,_]) mixed J J
   ⟨ek 1 J J J (cL J),
   ⟨ek 6 J J J (cr fK dk J J),
   ⟨c9 21 1 J J J (bz bK J J),
   ⟨c9 22 2 J J J (jR J),
   ⟨c9 23 3 J J J (cL J),
   ⟨wO 6 24 4 J J J J (gz J J J J (fun hg=>cr ka fI J J)),
   ⟨mi 25 5 24 4 J J J J (gz J J J J (fun hg=>bp bK J J (bq J hg))),
   ⟨mi 26 6 24 4 J J J J (gz J J J J (fun hg=>cj (bq J hg) hI)),
   ⟨eo 24 4 27 7 J J J J (mv J J),
   ⟨c9 20 0 J J J (vB J),
   ⟨c9 28 8 J J J (vB J),
   aT⟩⟩⟩⟩⟩⟩⟩⟩⟩⟩⟩ ?_
  refine av<|aq ?_;refine aD (M ?_);refine au<|au<|au ?_;cases so h;exact fN (ts:=[bD i,eH ((e.A==mw)&&(e.B==mw))]) (rvs:=[.tmp 4,.tmp 5]) J J ⟨cG J,cG J,aT⟩ kp J J
 ·refine ay<|zo J (jR J)<|bC J<|aw<|dn h J (fun h=>?_) (fun h=>?_)
  ·refine af<|ay<|zo J (cr fK dk J J)<|zo J (bz bK J J)<|aH J<|zo J (eV (ht J) hI)<|zo J (dq (ht J) (ht J))<|aH J<|cZ J J (fun hg=>cr ka fI J J)<|cZ J J (fun hg=>bp bK J J (bq J hg))<|cZ J J (fun hg=>dq (bq J hg) hI)<|zo J (oB J J)<|aH J<|cZ J J (fun hg=>cL J)<|cZ J J (fun hg=>cj (bq J hg) hI)<|zo J (oB J J)<|aw<|dn h J (fun h=>?_) (fun h=>?_)
   ·refine ay<|zo J (d9)<|zo J (eZ)<|aw<|aq ?_;refine M (aD (M ?_));refine au<|au<|au ?_;cases so h;exact fN (ts:=[bD 0,eH false]) (rvs:=[.tmp 4,.tmp 5]) J J ⟨cG J,cG J,aT⟩ kp J J
   ·refine dJ<|af<|bI h fun e1 q_e1 h=>?_
    refine eR (ts:=[_,_,_,_,_,_,_,_,_,_]) mixed J J
     ⟨ek 0 J J J (cL J),
     ⟨c9 45 0 J J J (cN (ht J)),
     ⟨c9 46 1 J J J (dY 2 nD J J J),
     ⟨c9 47 2 J J J (cX cu J (.head _) (.tail _ (.tail _ (.head _))) (ht J)),
     ⟨ek 6 J J J (cr fK dk J J),
     ⟨c9 49 4 J J J (bz bK J J),
     ⟨eo 48 3 50 5 J J J J (aO dm bK J (iW (ht J)) (ht J) q_e1),
     ⟨c9 51 6 J J J (bz bK J J),
     ⟨c9 52 7 J J J (vB J),
     ⟨JW J J (eZ),
     aT⟩⟩⟩⟩⟩⟩⟩⟩⟩⟩ ?_
    refine av<|aq ?_;refine aD (M ?_);refine au<|au<|au ?_;cases so h;exact fN (ts:=[bD e1,eH true]) (rvs:=[.tmp 4,.tmp 5]) J J ⟨cG J,cG J,aT⟩ kp J J
  ·refine bE<|an<|av<|af<|af<|bI h fun t q_t h=>?_
   obtain⟨e2,h1t,h0t⟩:=og q_t
   have q_e2g:=fun hb=>(h1t hb).1
   refine eR (ts:=[_,_,_,_,_,_,_,_,_,_,_,_,_,_,_,_,_,_,_,_,_,_,_,_,_,_,_,_]) mixed J J
    ⟨ek 6 J J J (cr ka fI J J),
    ⟨c9 53 0 J J J (bz bK J J),
    ⟨ek 1 J J J (cL J),
    ⟨c9 55 2 J J J (eV (ht J) hI),
    ⟨eo 54 1 56 3 J J J J (dq (ht J) (ht J)),
    ⟨c9 57 4 J J J (cL J),
    ⟨wO 1 58 5 J J J J (jm J J J J (fun hg=>cL J)),
    ⟨mi 59 6 58 5 J J J J (jm J J J J (fun hg=>cj (bq J hg) hI)),
    ⟨eo 58 5 60 7 J J J J (oB J J),
    ⟨c9 61 8 J J J (cL J),
    ⟨wO 6 62 9 J J J J (jm J J J J (fun hg=>cr fK dk J J)),
    ⟨mi 63 10 62 9 J J J J (jm J J J J (fun hg=>bp bK J J (bq J hg))),
    ⟨wO 0 62 9 J J J J (jm J J J J (fun hg=>cL J)),
    ⟨mi 65 12 62 9 J J J J (jm J J J J (fun hg=>cN (bq J hg))),
    ⟨mi 66 13 62 9 J J J J (jm J J J J (fun hg=>gr (n:=2) nD J (bq J hg) J)),
    ⟨mi 67 14 62 9 J J J J (jm J J J J (fun hg=>cX cu J (.head _) (.tail _ (.tail _ (.head _))) (bq J hg))),
    ⟨wO 6 62 9 J J J J (jm J J J J (fun hg=>cr ka fI J J)),
    ⟨mi 69 16 62 9 J J J J (jm J J J J (fun hg=>bp bK J J (bq J hg))),
    ⟨Ct 68 15 70 17 62 9 J J J J J (jm J J J J (fun hg=>aO dm bK J (iW (bq J hg)) (bq J hg) (q_e2g hg))),
    ⟨mi 71 18 62 9 J J J J (jm J J J J (fun hg=>bp bK J J (bq J hg))),
    ⟨mi 72 19 62 9 J J J J (jm J J J J (fun hg=>eV (bq J hg) hI)),
    ⟨Ct 64 11 73 20 62 9 J J J J J (jm J J J J (fun hg=>dq (bq J hg) (bq J hg))),
    ⟨eo 62 9 74 21 J J J J (ez (ht J) (fun hb=>(bq J (pG hb))) (fun hb=>(h1t hb).2) h0t),
    ⟨c9 75 22 J J J (cL J),
    ⟨wO 6 76 23 J J J J (jm J J J J (fun hg=>cr fK dk J J)),
    ⟨mi 77 24 76 23 J J J J (jm J J J J (fun hg=>bp bK J J (bq J hg))),
    ⟨mi 78 25 76 23 J J J J (jm J J J J (fun hg=>eW (bq J hg) hI)),
    ⟨eo 76 23 79 26 J J J J (oB J J),
    aT⟩⟩⟩⟩⟩⟩⟩⟩⟩⟩⟩⟩⟩⟩⟩⟩⟩⟩⟩⟩⟩⟩⟩⟩⟩⟩⟩⟩ ?_
   refine av<|dn h rfl (fun h=>?_) (fun h=>?_)
   ·refine ay<|zo J (d9)<|zo J (eZ)<|aw<|aq<|M<|au<|au<|au ?_;cases so h;exact fN (ts:=[bD 0,eH false]) (rvs:=[.tmp 4,.tmp 5]) J J ⟨cG J,cG J,aT⟩ kp J J
   ·refine dJ<|af<|bI h fun e3 q_e3 h=>?_
    refine eR (ts:=[_,_,_,_,_,_,_,_,_,_]) mixed J J
     ⟨ek 0 J J J (cL J),
     ⟨c9 81 0 J J J (cN (ht J)),
     ⟨c9 82 1 J J J (dY 2 nD J J J),
     ⟨c9 83 2 J J J (cX cu J (.head _) (.tail _ (.tail _ (.head _))) (ht J)),
     ⟨ek 6 J J J (cr fK dk J J),
     ⟨c9 85 4 J J J (bz bK J J),
     ⟨eo 84 3 86 5 J J J J (aO dm bK J (iW (ht J)) (ht J) q_e3),
     ⟨c9 87 6 J J J (bz bK J J),
     ⟨c9 88 7 J J J (vB J),
     ⟨JW J J (eZ),
     aT⟩⟩⟩⟩⟩⟩⟩⟩⟩⟩ ?_
    refine av<|aq<|au<|au<|au ?_;cases so h;exact fN (ts:=[bD e3,eH true]) (rvs:=[.tmp 4,.tmp 5]) J J ⟨cG J,cG J,aT⟩ kp J J

theorem Fx(b:Nat)(ix:OI)(c:aB):s6 ba 147 (fun(x:Int×Bool)=>[bD x.1,eH x.2]) (fun _=>jI c) (cD b) (cD b c ix) [bj (rT (tV (aF b 0))) ()]:=by
 refine s6.of Tryz.func147 J J J fun Sg yld s R h I yv hy e he w0 S0 B hB=>?_
 replace h:jI c yld s=some R:=h
 refine(show CG _ _ _ [e,bx (rH aZ [(1,aC (ix.h 0).1 (ix.h 0).2 c.kinds.length),(2,aC (ix.h 1).1 (ix.h 1).2 c.first.length)]) 123 b c,bV dG 42 (ix.h 0).1 (ix.h 0).2 c.kinds,bV bM 3 (ix.h 1).1 (ix.h 1).2 c.first] _ from ?_);refine ay<|wz (uZ (fun y:(aB→ai→Option (((List Int)×Bool)×aB))=>cV ba qW (cD b) q9 y)) pD J fun b1=>zo J (gb fQ (ht J)) ?_
 refine nK ((show bH _ _ _ _ (cV ba qW (cD b) q9 Ia)from fc LA (ht J) (fun c x R h i=>by
   obtain⟨r,h1,rfl⟩:=sf.1 h
   exact gR (Ob:=fun j=>cD b c j) (i:=i) (Jx _ i c _ h1)))) J ?_
 refine gF (γ:=(fun y:(aB→ai→Option (((List Int)×Bool)×aB))=>cV ba qW (cD b) q9 y)) (y:=Ia) yn (fP ku) (ht J) (pH hI) (ht J) fun os=>zo J (gb fQ (ht J)) ?_
 refine nK ((show bH _ _ _ _ (cV ba qW (cD b) q9 H9)from fc Lz (ht J) (fun c x R h i=>by
   obtain⟨r,h1,rfl⟩:=sf.1 h
   exact gR (Ob:=fun j=>cD b c j) (i:=i) (Jw _ i c _ h1)))) J ?_
 refine gF (γ:=(fun y:(aB→ai→Option (((List Int)×Bool)×aB))=>cV ba qW (cD b) q9 y)) (y:=H9) yn (fP ku) (ht J) (pH hI) (ht J) fun os1=>zo J (gb fQ (ht J)) ?_
 refine nK ((show bH _ _ _ _ (cV ba qW (cD b) q9 Ie)from fc Ly (ht J) (fun c x R h i=>by
   obtain⟨r,h1,rfl⟩:=sf.1 h
   exact gR (Ob:=fun j=>cD b c j) (i:=i) (Ju _ i c _ h1)))) J ?_
 refine gF (γ:=(fun y:(aB→ai→Option (((List Int)×Bool)×aB))=>cV ba qW (cD b) q9 y)) (y:=Ie) yn (fP ku) (ht J) (pH hI) (ht J) fun os2=>zo J (gb fQ (ht J)) ?_
 refine nK ((show bH _ _ _ _ (cV ba qW (cD b) q9 Ib)from fc Lx (ht J) (fun c x R h i=>by
   obtain⟨r,h1,rfl⟩:=sf.1 h
   exact gR (Ob:=fun j=>cD b c j) (i:=i) (Jt _ i c _ h1)))) J ?_
 refine gF (γ:=(fun y:(aB→ai→Option (((List Int)×Bool)×aB))=>cV ba qW (cD b) q9 y)) (y:=Ib) yn (fP ku) (ht J) (pH hI) (ht J) fun os3=>zo J (gb fQ (ht J)) ?_
 refine nK ((show bH _ _ _ _ (cV ba qW (cD b) q9 If)from fc Lw (ht J) (fun c x R h i=>by
   obtain⟨r,h1,rfl⟩:=sf.1 h
   exact gR (Ob:=fun j=>cD b c j) (i:=i) (Js _ i c _ h1)))) J ?_
 refine gF (γ:=(fun y:(aB→ai→Option (((List Int)×Bool)×aB))=>cV ba qW (cD b) q9 y)) (y:=If) yn (fP ku) (ht J) (pH hI) (ht J) fun os4=>zo J (gb fQ (ht J)) ?_
 refine nK ((show bH _ _ _ _ (cV ba qW (cD b) q9 Ig)from fc Lv (ht J) (fun c x R h i=>by
   obtain⟨r,h1,rfl⟩:=sf.1 h
   exact gR (Ob:=fun j=>cD b c j) (i:=i) (Jr _ i c _ h1)))) J ?_
 refine gF (γ:=(fun y:(aB→ai→Option (((List Int)×Bool)×aB))=>cV ba qW (cD b) q9 y)) (y:=Ig) yn (fP ku) (ht J) (pH hI) (ht J) fun os5=>zo J (gb fQ (ht J)) ?_
 refine nK ((show bH _ _ _ _ (cV ba qW (cD b) q9 Id)from fc Lu (ht J) (fun c x R h i=>by
   obtain⟨r,h1,rfl⟩:=sf.1 h
   exact gR (Ob:=fun j=>cD b c j) (i:=i) (Jq _ i c _ h1)))) J ?_
 refine gF (γ:=(fun y:(aB→ai→Option (((List Int)×Bool)×aB))=>cV ba qW (cD b) q9 y)) (y:=Id) yn (fP ku) (ht J) (pH hI) (ht J) fun os6=>zo J (gb fQ (ht J)) ?_
 refine nK ((show bH _ _ _ _ (cV ba qW (cD b) q9 Ic)from fc Lt (ht J) (fun c x R h i=>by
   obtain⟨r,h1,rfl⟩:=sf.1 h
   exact gR (Ob:=fun j=>cD b c j) (i:=i) (Jp _ i c _ h1)))) J ?_
 refine gF (γ:=(fun y:(aB→ai→Option (((List Int)×Bool)×aB))=>cV ba qW (cD b) q9 y)) (y:=Ic) yn (fP ku) (ht J) (pH hI) (ht J) fun os7=>aH J<|bC J<|aw<|ay<|zo J (gb fQ (ht J))<|zo J (cN (ht J))<|zo J (dY 0 zg J J J)<|zo J (dY 0 l8 J J J)<|zo J (aX (r:=rH aZ [(1,aC (ix.h 0).1 (ix.h 0).2 c.kinds.length),(2,aC (ix.h 1).1 (ix.h 1).2 c.first.length)]) (x:=c) k5 J J (DV (mR pe gv)) (.tail _ (.tail _ (.head _))) (ht J))<|zo J (gV iq J)<|zo J (bA hI)<|aw<|ax<|bf (k:=33) J fun hN=>bF<|ln<|ln<|ln<|lq<|ln ?_;refine aS (A3 (Z:=fun ls i e1 s1 ob l c1 l1 c2=>(c.Logic.Nodes.drop i=ls)∧I s1 e1∧dO yld ls i s1 ob=some R) (Of:=fun _ i e1 s1 ob l c1 l1 c2=>[e1,lh (uZ (fun y:(aB→ai→Option (((List Int)×Bool)×aB))=>cV ba qW (cD b) q9 y)) pD b1 none os7 Bo,bx (rH aZ [(1,aC l c1 ob.kinds.length),(2,aC l1 c2 ob.first.length)]) 123 b ob,bV dG 42 l c1 ob.kinds,bV bM 3 l1 c2 ob.first]) (Gf:=fun _ i e1 s1 ob l c1 l1 c2=>[(0,tV yv),(1,bj (rT (tV (aF b 0))) ()),(3,tV (ec b1)),(33,dH (ak) c.Logic.Nodes),(34,fD c.Logic.Nodes),(35,bD (i:Int))]) (fun i e1 s1 ob l c1 l1 c2 h=>?_) (fun e2 tl ih i e1 s1 ob l c1 l1 c2 h=>?_) c.Logic.Nodes 0 e s c (ix.h 0).1 (ix.h 0).2 (ix.h 1).1 (ix.h 1).2 ⟨J,⟨he,h⟩⟩) (bl J)
 ·obtain⟨hx,h⟩:=h
  obtain⟨he1,h⟩:=h
  refine aA<|ay<|zo J (ej J J)<|aw<|af<|bu (ht J) (c8 hx)<|bk ?_;refine ac (ac (aM ?_));refine bU<|aU<|bh<|bh<|bh<|bh ?_;cases so h;exact Et J he1 (BQ [(l,c1),(l1,c2)]) J
 ·obtain⟨hx,h⟩:=h
  obtain⟨he1,h⟩:=h
  refine aA<|ay<|zo J (ej J J)<|aw<|af<|bt (ht J) (cY hx)<|dJ<|af<|ax<|ay<|aH J<|zo J (km iq cE J J J (c0 hx))<|zo J (bz cE J J)<|bg (r:=ak) (x:=vz) cE (fun _=>gG _) J fun b2=>bC J<|ap cE J aj J (ht J) (ht J)<|bc 5 J<|aw<|af ?_;refine am<|aH J<|zo J (cr qr j8 J J)<|zo J (bz bK J J)<|zo J (Ar (γ:=(fun y:(aB→ai→Option (((List Int)×Bool)×aB))=>cV ba qW (cD b) (fun(x:(List Int)×Bool)=>tT [tD kx x.1,tD rB x.2]) y)) (z:=fun _ _=>none) yn (fP ku) JT (fun _=>xi) (.tail _ (.head _)) (ht J) (pH (ht J)))<|aH J<|zo J (iU J J)<|zo J (iU J J)<|bC J<|bC J<|aw<|ay<|aH J<|aH J<|bI h fun t q_t h=>co J J (fun hg=>bz cE J J) ?_
  obtain⟨r,h1t,h0t⟩:=og q_t
  have q_rg:=fun hb=>(h1t hb).1
  refine co J J (fun hg=>aK Lr (Hg _ (q_rg hg)) ⟨(bq J hg),aT⟩) ?_
  obtain⟨r1,h1t⟩:=JP (fun hb=>(h1t hb).2)
  have q_r1g:=fun hb=>(h1t hb).1
  refine co J J (fun hg=>aK Ls (Hh _ (q_r1g hg)) ⟨(bq J hg),aT⟩)<|zo J (dZ (ht J) (fun hb=>(bq J hb)) (fun hb=>(h1t hb).2) h0t)<|bC J<|aw ?_;refine Ek (Z:=fun ok ob1 l2 c3 l3 c4=>ia yld (dO yld tl) i e2 s1 ok ob1=some R) (Of:=fun ok ob1 l2 c3 l3 c4=>[e1,lh (uZ (fun y:(aB→ai→Option (((List Int)×Bool)×aB))=>cV ba qW (cD b) q9 y)) pD b1 none os7 Bo,bx (rH aZ [(1,aC l2 c3 ob1.kinds.length),(2,aC l3 c4 ob1.first.length)]) 123 b ob1,bV dG 42 l2 c3 ob1.kinds,bV bM 3 l3 c4 ob1.first]) (Gf:=fun ok ob1 l2 c3 l3 c4=>[(0,tV yv),(1,bj (rT (tV (aF b 0))) ()),(3,tV (ec b1)),(4,bD (i:Int)),(5,bj ak e2),(6,cV ba qW (cD b) q9 ((dB Bo e2.Op).getD (fun _ _=>none))),(8,eH ok),(33,dH (ak) c.Logic.Nodes),(34,fD c.Logic.Nodes),(35,bD (i:Int))]) (fun ok ob1 l2 c3 l3 c4 h=>?_) (fun K=>?_)
  ·skip
   refine ay<|zo J (aP (show aG _ _ _ lQ from ib))<|aw ?_;refine t7 (Z:=fun ok1 kinds ob2 l4 c5 l5 c6=>hZ yld (dO yld tl) i s1 ok1 kinds ob2=some R) (Of:=fun ok1 kinds ob2 l4 c5 l5 c6=>[e1,lh (uZ (fun y:(aB→ai→Option (((List Int)×Bool)×aB))=>cV ba qW (cD b) q9 y)) pD b1 none os7 Bo,bx (rH aZ [(1,aC l4 c5 ob2.kinds.length),(2,aC l5 c6 ob2.first.length)]) 123 b ob2,bV dG 42 l4 c5 ob2.kinds,bV bM 3 l5 c6 ob2.first]) (Gf:=fun ok1 kinds ob2 l4 c5 l5 c6=>[(0,tV yv),(1,bj (rT (tV (aF b 0))) ()),(3,tV (ec b1)),(4,bD (i:Int)),(8,eH ok1),(10,dX kinds),(33,dH (ak) c.Logic.Nodes),(34,fD c.Logic.Nodes),(35,bD (i:Int))]) (fun ok1 kinds ob2 l4 c5 l5 c6 h=>?_) (fun K1=>?_)
   ·skip
    refine ay<|aH J<|aH J<|co J J (fun hg=>cL J)<|co J J (fun hg=>ca dm (bq J hg))<|co J J (fun hg=>je (bq J hg) hI)<|zo J (mv J J)<|bC J<|aw<|af<|bI h fun l6 q_l6 h=>?_
    refine fg 8 [tc (tV (aF b 0)),tc (tV (aF b 0)),tc (tV (aF b 0)),tc (tV (aF b 1)),tc (tO dG l4 c5 ob2.kinds),tc (dX kinds),tc (dH (dG) ([kinds])),([7],fun s=>tO dG ((s.getD 0 kp).h 0).1 ((s.getD 0 kp).h 0).2 l6)] [false,false,false,false,false,false,false,true] [fun _=>[e1,lh (uZ (fun y:(aB→ai→Option (((List Int)×Bool)×aB))=>cV ba qW (cD b) q9 y)) pD b1 none os7 Bo,bx (rH aZ [(1,aC l4 c5 ob2.kinds.length),(2,aC l5 c6 ob2.first.length)]) 123 b ob2,bV dG 42 l4 c5 ob2.kinds,bV bM 3 l5 c6 ob2.first],fun sg=>[bV dG 42 ((sg 7).h 0).1 ((sg 7).h 0).2 l6,e1,lh (uZ (fun y:(aB→ai→Option (((List Int)×Bool)×aB))=>cV ba qW (cD b) q9 y)) pD b1 none os7 Bo,bx (rH aZ [(1,aC l4 c5 ob2.kinds.length),(2,aC l5 c6 ob2.first.length)]) 123 b ob2,bV bM 3 l5 c6 ob2.first]] J mixed J J J J J
     ⟨⟨[⟨1,fun _=>bj (rT (tV (aF b 0))) (),none⟩],_,0,1,J,⟨(fun _=>J),aT⟩,J,J,J,J,J,fun _ sg _ _=>ae J (gb fQ (ht J))⟩,
     ⟨⟨[⟨1,fun _=>bj (rT (tV (aF b 0))) (),none⟩],_,0,0,J,⟨(fun _=>J),aT⟩,J,J,J,J,J,fun _ sg _ _=>ae J (gb fQ (ht J))⟩,
     ⟨⟨[⟨84,fun _=>tV (aF b 0),some 1⟩],_,0,0,J,⟨(fun _=>J),aT⟩,J,J,J,J,J,fun _ sg _ _=>ae J (cN (ht J))⟩,
     ⟨⟨[⟨85,fun _=>tV (aF b 0),some 2⟩],_,0,0,J,⟨(fun _=>J),aT⟩,J,J,J,J,J,fun _ sg _ _=>ae J (dY 1 iQ J J J)⟩,
     ⟨⟨[⟨86,fun _=>tV (aF b 1),some 3⟩],_,0,0,J,⟨(fun _=>J),aT⟩,J,J,J,J,J,qY (fun sg=>ae J (cX pE J (.tail _ (.tail _ (.head _))) (.tail _ (.tail _ (.tail _ (.head _)))) (ht J)))⟩,
     ⟨⟨[⟨10,fun _=>tD kx kinds,none⟩],_,0,0,J,⟨(fun _=>J),aT⟩,J,J,J,J,J,fun _ sg _ _=>ae J (cL J)⟩,
     ⟨⟨[⟨88,fun _=>tD kx kinds,some 5⟩],_,0,0,J,⟨(fun _=>J),aT⟩,J,J,J,J,J,fun _ sg _ _=>ae J (aR (r:=kx) (ys:=[kinds]) (xs:=[.tmp 88]) ne cu J J J J J ⟨(ht J),aT⟩)⟩,
     ⟨⟨[⟨87,fun _=>tO kx l4 c5 ob2.kinds,some 4⟩,⟨89,fun _=>tD (dz kx) ([kinds]),some 6⟩],_,J,⟨(fun _=>J),(fun _=>J),aT⟩,J,J,J,fun sg=>bS J (EffOK.fr3 (nH cu J J J J ne J (ht J) (ht J) q_l6))⟩,
     aT⟩⟩⟩⟩⟩⟩⟩⟩ (fun sg=>?_)
    refine(show RG _ _ _ _ [bV dG 42 ((sg 7).h 0).1 ((sg 7).h 0).2 l6,e1,lh (uZ (fun y:(aB→ai→Option (((List Int)×Bool)×aB))=>cV ba qW (cD b) q9 y)) pD b1 none os7 Bo,bx (rH aZ [(1,aC l4 c5 ob2.kinds.length),(2,aC l5 c6 ob2.first.length)]) 123 b ob2,bV bM 3 l5 c6 ob2.first] _ from ?_);refine zo J (cN (ht J))<|zo J (dY 1 iQ J J J)<|lz (EffOK.fr3 (mY (hs' :=[(1,aC ((sg 7).h 0).1 ((sg 7).h 0).2 l6.length),(2,aC l5 c6 ob2.first.length)]) (u:=aC ((sg 7).h 0).1 ((sg 7).h 0).2 l6.length) pE J J yK J ⟨.inl ⟨J,J,J⟩,.inr ⟨J,J⟩,aT⟩ (ht J) (iW (ht J)) (vF (ht J)))) fun i1=>?_;refine(show RG _ _ _ _ [bx (rH aZ [(1,aC ((sg 7).h 0).1 ((sg 7).h 0).2 l6.length),(2,aC l5 c6 ob2.first.length)]) 123 b ({ob2 with kinds:=l6}:aB),bV dG 42 ((sg 7).h 0).1 ((sg 7).h 0).2 l6,e1,lh (uZ (fun y:(aB→ai→Option (((List Int)×Bool)×aB))=>cV ba qW (cD b) q9 y)) pD b1 none os7 Bo,bV bM 3 l5 c6 ob2.first] _ from ?_);refine aw<|ay<|aH J<|aH J<|aH J<|dr<|bI h fun r2 q_r2 h=>wx hy he1 q_r2 (ht J) ⟨(ht J),(ht J),aT⟩ J fun e3 he2=>zo J (d8 (ht J))<|aH J<|cZ J J (fun hg=>cL J)<|cZ J J (fun hg=>d8 (bq J hg))<|zo J (oB J J)<|aw<|dn h J (fun h=>?_) (fun h=>?_)
    ·refine aq ?_;refine aD (M (M (aD ?_)));refine bh<|aU<|bh<|bh<|bh<|bh ?_;cases so h;exact A9 J he2 (BQ [(((sg 7).h 0).1,((sg 7).h 0).2),(l5,c6)]) J
    ·refine bE<|an<|av<|am<|zo rfl (jQ (cI hx hN) rfl)<|aH rfl<|aQ<|cn<|bh<|bh<|cn<|cn ?_;exact be (aS (ih (i+1) e3 r2.2 ({ob2 with kinds:=l6}:aB) ((sg 7).h 0).1 ((sg 7).h 0).2 l5 c6 ⟨cH hx,⟨he2,h⟩⟩) (bl J))
   ·skip
    refine ay<|aH J<|aw<|dn h J (fun h=>?_) (fun h=>?_)
    ·refine am<|aH J<|zo J (bz cE J J)<|bI h fun r3 q_r3 h=>ij (EffOK.fr4 (EffOK.fr4 (EffOK.fr4 (sT (args:=qW) (Ob:=cD b) (res:=q9) (f:=((dB Bo e2.Op).getD (fun _ _=>none))) (x:=ob1) (y:=((e2):ai)) (R:=r3) (i:=(BQ [(l2,c3),(l3,c4)])) (xs:=[.tmp 73]) _ J (ht J) q_r3 ⟨(ht J),aT⟩ (fun _=>J))))) J fun i2=>?_;refine(show RG _ _ _ _ [bx (rH aZ [(1,aC (i2.h 0).1 (i2.h 0).2 r3.2.kinds.length),(2,aC (i2.h 1).1 (i2.h 1).2 r3.2.first.length)]) 123 b r3.2,bV dG 42 (i2.h 0).1 (i2.h 0).2 r3.2.kinds,bV bM 3 (i2.h 1).1 (i2.h 1).2 r3.2.first,e1,lh (uZ (fun y:(aB→ai→Option (((List Int)×Bool)×aB))=>cV ba qW (cD b) q9 y)) pD b1 none os7 Bo] ((74,tT [dX r3.1.1,eH r3.1.2])::_)from ?_);refine aH J<|zo J (iU J J)<|zo J (iU J J)<|bC J<|bC J<|aQ<|au<|au<|au<|cn<|cn ?_;exact cd (K1 r3.1.2 r3.1.1 r3.2 (i2.h 0).1 (i2.h 0).2 (i2.h 1).1 (i2.h 1).2 h) (bl J)
    ·refine bE ?_;exact cd (K1 ok ([]) ob1 l2 c3 l3 c4 h) (bl J)
  ·skip
   refine ay<|aH J<|aw<|dn h J (fun h=>?_) (fun h=>?_)
   ·refine ay<|zo J (d9)<|aw<|ay<|zo J (gb fQ (ht J))<|aH J<|bI h fun r4 q_r4 h=>ij (EffOK.fr4 (EffOK.fr4 (EffOK.fr4 (ed (xs:=[.tmp 55,.tmp 56]) (ts:=[tV (aF b 0),bD (i:Int)]) (cD b ob (BQ [(l,c1),(l1,c2)])) _ J Lq (Jo b (BQ [(l,c1),(l1,c2)]) ob _ q_r4) ⟨(ht J),(ht J),aT⟩ (fun _=>J))))) J fun i3=>?_;refine(show RG _ _ _ _ [bx (rH aZ [(1,aC l c1 ob.kinds.length),(2,aC l1 c2 ob.first.length)]) 123 b ob,bV dG 42 l c1 ob.kinds,bV bM 3 l1 c2 ob.first,e1,lh (uZ (fun y:(aB→ai→Option (((List Int)×Bool)×aB))=>cV ba qW (cD b) q9 y)) pD b1 none os7 Bo] ((57,tT [bD r4.1,eH r4.2])::_)from ?_);refine aH J<|zo J (iU J J)<|zo J (iU J J)<|bC J<|bC J<|aw<|bI h fun l7 q_l7 h=>?_
    refine fg 8 [tc (tV (aF b 0)),tc (tV (aF b 0)),tc (tV (aF b 0)),tc (tV (aF b 2)),tc (tO bM l1 c2 ob.first),tc (bD r4.1),tc (dX ([r4.1])),([7],fun s=>tO bM ((s.getD 0 kp).h 0).1 ((s.getD 0 kp).h 0).2 l7)] [false,false,false,false,false,false,false,true] [fun _=>[bx (rH aZ [(1,aC l c1 ob.kinds.length),(2,aC l1 c2 ob.first.length)]) 123 b ob,bV dG 42 l c1 ob.kinds,bV bM 3 l1 c2 ob.first,e1,lh (uZ (fun y:(aB→ai→Option (((List Int)×Bool)×aB))=>cV ba qW (cD b) q9 y)) pD b1 none os7 Bo],fun sg1=>[bV bM 3 ((sg1 7).h 0).1 ((sg1 7).h 0).2 l7,bx (rH aZ [(1,aC l c1 ob.kinds.length),(2,aC l1 c2 ob.first.length)]) 123 b ob,bV dG 42 l c1 ob.kinds,e1,lh (uZ (fun y:(aB→ai→Option (((List Int)×Bool)×aB))=>cV ba qW (cD b) q9 y)) pD b1 none os7 Bo]] J mixed J J J J J
     ⟨⟨[⟨1,fun _=>bj (rT (tV (aF b 0))) (),none⟩],_,0,1,J,⟨(fun _=>J),aT⟩,J,J,J,J,J,fun _ sg1 _ _=>ae J (gb fQ (ht J))⟩,
     ⟨⟨[⟨1,fun _=>bj (rT (tV (aF b 0))) (),none⟩],_,0,0,J,⟨(fun _=>J),aT⟩,J,J,J,J,J,fun _ sg1 _ _=>ae J (gb fQ (ht J))⟩,
     ⟨⟨[⟨61,fun _=>tV (aF b 0),some 1⟩],_,0,0,J,⟨(fun _=>J),aT⟩,J,J,J,J,J,fun _ sg1 _ _=>ae J (cN (ht J))⟩,
     ⟨⟨[⟨62,fun _=>tV (aF b 0),some 2⟩],_,0,0,J,⟨(fun _=>J),aT⟩,J,J,J,J,J,fun _ sg1 _ _=>ae J (dY 2 nD J J J)⟩,
     ⟨⟨[⟨63,fun _=>tV (aF b 2),some 3⟩],_,0,0,J,⟨(fun _=>J),aT⟩,J,J,J,J,J,qY (fun sg1=>ae J (cX cu J (.head _) (.tail _ (.tail _ (.head _))) (ht J)))⟩,
     ⟨⟨[⟨9,fun _=>tD bM r4.1,none⟩],_,0,0,J,⟨(fun _=>J),aT⟩,J,J,J,J,J,fun _ sg1 _ _=>ae J (cL J)⟩,
     ⟨⟨[⟨65,fun _=>tD bM r4.1,some 5⟩],_,0,0,J,⟨(fun _=>J),aT⟩,J,J,J,J,J,fun _ sg1 _ _=>ae J (aR (r:=bM) (ys:=[r4.1]) (xs:=[.tmp 65]) dm bK J J J J J ⟨(ht J),aT⟩)⟩,
     ⟨⟨[⟨64,fun _=>tO bM l1 c2 ob.first,some 4⟩,⟨66,fun _=>tD kx ([r4.1]),some 6⟩],_,J,⟨(fun _=>J),(fun _=>J),aT⟩,J,J,J,fun sg1=>bS J (EffOK.fr2 (nH bK J J J J dm J (ht J) (ht J) q_l7))⟩,
     aT⟩⟩⟩⟩⟩⟩⟩⟩ (fun sg1=>?_)
    refine(show RG _ _ _ _ [bV bM 3 ((sg1 7).h 0).1 ((sg1 7).h 0).2 l7,bx (rH aZ [(1,aC l c1 ob.kinds.length),(2,aC l1 c2 ob.first.length)]) 123 b ob,bV dG 42 l c1 ob.kinds,e1,lh (uZ (fun y:(aB→ai→Option (((List Int)×Bool)×aB))=>cV ba qW (cD b) q9 y)) pD b1 none os7 Bo] _ from ?_);refine zo J (cN (ht J))<|zo J (dY 2 nD J J J)<|lz (EffOK.fr1 (mY (hs' :=[(1,aC l c1 ob.kinds.length),(2,aC ((sg1 7).h 0).1 ((sg1 7).h 0).2 l7.length)]) (u:=aC ((sg1 7).h 0).1 ((sg1 7).h 0).2 l7.length) cu J J yJ J ⟨.inr ⟨J,J⟩,.inl ⟨J,J,J⟩,aT⟩ (ht J) (iW (ht J)) (vF (ht J)))) fun i4=>?_;refine(show RG _ _ _ _ [bx (rH aZ [(1,aC l c1 ob.kinds.length),(2,aC ((sg1 7).h 0).1 ((sg1 7).h 0).2 l7.length)]) 123 b ({ob with first:=l7}:aB),bV bM 3 ((sg1 7).h 0).1 ((sg1 7).h 0).2 l7,bV dG 42 l c1 ob.kinds,e1,lh (uZ (fun y:(aB→ai→Option (((List Int)×Bool)×aB))=>cV ba qW (cD b) q9 y)) pD b1 none os7 Bo] _ from ?_);refine aQ<|bU<|au<|au<|cn<|cn ?_;exact cd (K r4.2 ({ob with first:=l7}:aB) l c1 ((sg1 7).h 0).1 ((sg1 7).h 0).2 h) (bl J)
   ·refine bE ?_;exact cd (K t ob l c1 l1 c2 h) (bl J)

end Go.Proofs.YtnmjbolollcokaaGreatDoor

