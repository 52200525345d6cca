/- cX of this claim: P2. -/
import Derived.Test.YtfhhakidodmdfaaGreatDoorJhT
import Derived.Test.YtfhhakidodmdfaaGreatDoorJhP1
set_option linter.all false
namespace Go.Proofs.YtfhhakidodmdfaaGreatDoor
open Go
set_option maxRecDepth 100000

theorem EB(e:cK)(kinds:(List Int)){R:Bool}(h:rF e kinds=some R):aN aJ 282 [tD bY e,iA kinds] (er R):=by
 refine aN.of Tryz.func282 J J J fun w0 S0=>ap<|zo J (ff J)<|zo J (ef)<|al<|ap<|zo J (bn jg J J)<|aB J<|bp h fun r q_r h=>zo J (ax Hr (AV _ _ q_r) ⟨(ht J),(ht J),aP⟩)<|aB J<|zo J (eT J J)<|zo J (eT J J)<|ba J<|ba J<|al<|ap<|aB J<|zo J (io J) ?_;refine aB J<|cd J J (fun hg=>cr J)<|cd J J (fun hg=>cA (bk J hg) hI)<|cd J J (fun hg=>br (bk J hg))<|fI J J J J (fun hg=>cr J)<|fI J J J J (fun hg=>cA (bk J hg) hI)<|cd J J (fun hg=>pI (bk J hg) (fun hb=>(bk J (q5 hg (mU hb)))))<|zo J (ms J J)<|ba J<|al<|ai ?_;cases so h;exact ay J J

theorem Mq(b:Nat)(ix:OI)(c:aF)(n:aC){R:(List Int)×Bool}(h:iV c n=some R):cy aJ 203 [tV (aO b 0),tD aM n] (cP b c ix) (fun _:OI=>tT [iA R.1,er R.2]) (fun _=>(cP b c ix)):=by
 refine cy.of Tryz.func203 J J J fun w0 S0=>?_;refine(show CG _ _ _ [bx (rH bc [(1,aQ (ix.h 0).1 (ix.h 0).2 c.kinds.length),(2,aQ (ix.h 1).1 (ix.h 1).2 c.first.length)]) 115 b c,db jG 39 (ix.h 0).1 (ix.h 0).2 c.kinds,db bI 3 (ix.h 1).1 (ix.h 1).2 c.first] _ from ?_);refine ap<|zo J (ff J)<|zo J (aD (show aH _ _ _ rd from gr))<|zo J (ef)<|al<|ae<|bp h fun e q_e h=>bp h fun e1 q_e1 h=>bp h fun r q_r h=>?_
 refine bZ (ts:=[_,_,_,_,_,_,_,_,_,_,_,_,_,_,_,_,_,_,_]) mixed J J
  ⟨dp 0 J J J (cr J),
  ⟨bH 7 0 J J J (cQ (ht J)),
  ⟨bH 8 1 J J J (gQ 1 jB J J J),
  ⟨bH 9 2 J J J (cC nQ J (.head _) (.tail _ (.head _)) (ht J)),
  ⟨dp 3 J J J (bS gm cW J J),
  ⟨bH 11 4 J J J (bn bP J J),
  ⟨cO 10 3 12 5 J J J J (bf pV c0 J (gz (ht J)) (ht J) q_e),
  ⟨bH 13 6 J J J (bn c0 J J),
  ⟨dp 0 J J J (cr J),
  ⟨bH 15 8 J J J (cQ (ht J)),
  ⟨bH 16 9 J J J (gQ 1 jB J J J),
  ⟨bH 17 10 J J J (cC nQ J (.head _) (.tail _ (.head _)) (ht J)),
  ⟨dp 3 J J J (bS m2 gJ J J),
  ⟨bH 19 12 J J J (bn bP J J),
  ⟨cO 18 11 20 13 J J J J (bf pV c0 J (gz (ht J)) (ht J) q_e1),
  ⟨bH 21 14 J J J (bn c0 J J),
  ⟨cO 14 7 22 15 J J J J (aR (r:=rb) (ys:=[e,e1]) (xs:=[.tmp 14,.tmp 22]) pV c0 J J J J J ⟨(ht J),(ht J),aP⟩),
  ⟨bH 23 16 J J J (ax Oj (I8 _ q_r) ⟨(ht J),aP⟩),
  ⟨bH 24 17 J J J (pe J),
  aP⟩⟩⟩⟩⟩⟩⟩⟩⟩⟩⟩⟩⟩⟩⟩⟩⟩⟩⟩ ?_
 refine ak<|ap<|aB rfl<|zo rfl (bS qk kN rfl rfl)<|zo rfl (bn jg rfl rfl)<|aB rfl<|bp h fun r1 q_r1 h=>zo J (ax KO (EB _ _ q_r1) ⟨(ht J),(ht J),aP⟩)<|ba J<|ba J<|al<|ai<|aK<|aK<|aK ?_;cases so h;exact df (ts:=[iA r,er r1]) (rvs:=[.tmp 4,.tmp 5]) J J ⟨aW J,aW J,aP⟩ kY J J

theorem Mp(b:Nat)(ix:OI)(c:aF)(n:aC){R:(List Int)×Bool}(h:hP c n=some R):cy aJ 204 [tV (aO b 0),tD aM n] (cP b c ix) (fun _:OI=>tT [iA R.1,er R.2]) (fun _=>(cP b c ix)):=by
 refine cy.of Tryz.func204 J J J fun w0 S0=>?_;refine(show CG _ _ _ [bx (rH bc [(1,aQ (ix.h 0).1 (ix.h 0).2 c.kinds.length),(2,aQ (ix.h 1).1 (ix.h 1).2 c.first.length)]) 115 b c,db jG 39 (ix.h 0).1 (ix.h 0).2 c.kinds,db bI 3 (ix.h 1).1 (ix.h 1).2 c.first] _ from ?_);refine ap<|zo J (ff J)<|zo J (aD (show aH _ _ _ rd from gr))<|zo J (ef)<|al<|ae<|bp h fun e q_e h=>bp h fun r q_r h=>?_
 refine bZ (ts:=[_,_,_,_,_,_,_,_,_,_,_,_,_,_,_,_,_,_,_,_,_]) mixed J J
  ⟨dp 0 J J J (cr J),
  ⟨bH 6 0 J J J (cQ (ht J)),
  ⟨bH 7 1 J J J (gQ 1 jB J J J),
  ⟨bH 8 2 J J J (cC nQ J (.head _) (.tail _ (.head _)) (ht J)),
  ⟨dp 3 J J J (bS gm cW J J),
  ⟨bH 10 4 J J J (bn bP J J),
  ⟨cO 9 3 11 5 J J J J (bf pV c0 J (gz (ht J)) (ht J) q_e),
  ⟨bH 12 6 J J J (bn c0 J J),
  ⟨dp 3 J J J (bS qk kN J J),
  ⟨bH 14 8 J J J (bn jg J J),
  ⟨dp 0 J J J (cr J),
  ⟨bH 16 10 J J J (cQ (ht J)),
  ⟨bH 17 11 J J J (gQ 1 jB J J J),
  ⟨bH 18 12 J J J (cC nQ J (.head _) (.tail _ (.head _)) (ht J)),
  ⟨dp 3 J J J (bS gm cW J J),
  ⟨bH 20 14 J J J (bn bP J J),
  ⟨cO 19 13 21 15 J J J J (bf pV c0 J (gz (ht J)) (ht J) q_e),
  ⟨bH 22 16 J J J (bn c0 J J),
  ⟨cO 15 9 23 17 J J J J (ax KO (EB _ _ q_r) ⟨(ht J),(ht J),aP⟩),
  ⟨bH 13 7 J J J (pe J),
  ⟨bH 24 18 J J J (pe J),
  aP⟩⟩⟩⟩⟩⟩⟩⟩⟩⟩⟩⟩⟩⟩⟩⟩⟩⟩⟩⟩⟩ ?_
 refine ak<|ai<|aK<|aK<|aK ?_;cases so h;exact df (ts:=[iA e,er r]) (rvs:=[.tmp 4,.tmp 5]) J J ⟨aW J,aW J,aP⟩ kY J J

theorem IF(kinds:(List Int))(c:Int){R:Bool}(h:nX kinds c=some R):aN aJ 344 [bu c,bv jG kinds] (er R):=by
 refine aN.of Tryz.func344 J J J fun w0 S0=>ap<|zo J (ef)<|al<|ap<|aB J<|zo J (dO (ht J) hI)<|aB J<|dv J J (fun hg=>cr J)<|dv J J (fun hg=>bn c0 J J)<|dv J J (fun hg=>cD ed (bk J hg))<|dv J J (fun hg=>dU (bk J hg) (bk J hg))<|zo J (qY J J)<|ba J<|al<|ai ?_;cases so h;exact ay J J

theorem I7(l:(List Int))(kinds:(List Int)){R:Bool}(h:ut l kinds=some R):aN aJ 283 [iA l,iA kinds] (er R):=by
 refine aN.of Tryz.func283 J J J fun w0 S0=>ap<|zo J (ff J)<|zo J (ef)<|al<|ap<|aB J<|zo J ((show bB _ _ _ _ ((cB aJ Bw ib (fun(x:Int)=>(nX kinds) x)))from eB (cts:=[bv jG kinds]) (caps:=[.tmp 3]) NL ⟨(ht J),aP⟩ (fun x y h=>IF _ _ h)))<|bp h fun r q_r h=>zo J (ax ES (wW _ _ q_r) ⟨(ht J),(ht J),aP⟩)<|zo J (cH (ht J))<|ba J<|al<|ai ?_;cases so h;exact ay J J

theorem I6(a1:kz)(kinds:(List Int)){R:Int×Bool}(h:zw a1 kinds=some R):aN aJ 284 [tD ej a1,iA kinds] (tT [bu R.1,er R.2]):=by
 refine aN.of Tryz.func284 J J J fun w0 S0=>ap<|zo J (ff J)<|zo J (bO)<|zo J (ef)<|al<|ae<|ap<|zo J (bS tE oa J J)<|zo J (bn bP J J)<|zo J (io J)<|al<|bX h J (fun h=>?_) (fun h=>?_)
 ·refine ae ?_
  refine bZ (ts:=[_,_,_,_,_,_,_]) mixed J J
   ⟨dp 2 J J J (bS yh rN J J),
   ⟨bH 11 0 J J J (bS m3 j9 J J),
   ⟨bH 12 1 J J J (bn wD J J),
   ⟨bH 13 2 J J J (eH t7 J),
   ⟨bH 14 3 J J J (io J),
   ⟨Fg J J (bO),
   ⟨bH 15 4 J J J (pe J),
   aP⟩⟩⟩⟩⟩⟩⟩ ?_
  refine ak<|ai<|aa ?_;cases so h;exact ca J J J
 ·refine cF<|ap<|zo J (bS yh rN J J)<|zo J (bn jg J J)<|aB J<|bp h fun r q_r h=>zo J (ax Hr (AV _ _ q_r) ⟨(ht J),(ht J),aP⟩)<|aB J<|zo J (eT J J)<|zo J (eT J J)<|ba J<|ba J<|al<|ae<|ap<|zo J (bS tE oa J J)<|zo J (bn bP J J)<|al<|au ?_;refine ap<|zo J (io J)<|ba J<|al<|bX h J (fun h=>?_) (fun h=>?_)
  ·refine ap<|aB J<|zo J (io J)<|zo J (bO)<|ba J<|al<|ai ?_;refine aq (aa ?_);cases so h;exact ca J J J
  ·refine ap<|zo J (io J)<|ba J<|al<|bX h J (fun h=>?_) (fun h=>?_)
   ·refine ap<|aB J<|zo J (io J)<|aB J<|cd J J (fun hg=>cr J)<|cd J J (fun hg=>cA (bk J hg) hI)<|cd J J (fun hg=>br (bk J hg))<|fI J J J J (fun hg=>cr J)<|fI J J J J (fun hg=>cA (bk J hg) hI)<|cd J J (fun hg=>pI (bk J hg) (fun hb=>(bk J (q5 hg (mU hb)))))<|zo J (ms J J)<|zo J (bO)<|ba J<|al<|ai ?_;refine aq (aa ?_);cases so h;exact ca J J J
   ·refine gv (Z:=fun x=>qf r x=some R) (Of:=fun x=>[]) (Gf:=fun x=>[(6,bu r.1),(7,bu r.2),(41,er x)]) (fun x h=>?_) (fun K=>?_)
    ·skip
     refine bX h J (fun h=>?_) (fun h=>?_)
     ·refine ap<|aB J<|aB J<|zo J (io J)<|ba J<|ba J<|al<|ai ?_;refine aq (aa ?_);cases so h;exact ca J J J
     ·refine bi<|aj<|ak<|ap<|zo rfl (bO)<|zo rfl (ef)<|al<|ai ?_;cases so h;exact ca J J J
    ·skip
     refine ap<|zo J (io J)<|ba J<|al<|bX h J (fun h=>?_) (fun h=>?_)
     ·refine bi ?_;exact cn (K (a1.Tag==(4:Int)) h) (bh J)
     ·refine an<|zo J (io J)<|ba J<|aL ?_;exact cn (K (a1.Tag==(5:Int)) h) (bh J)

theorem Mo(b:Nat)(ix:OI)(c:aF)(n:aC){R:(List Int)×Bool}(h:iv c n=some R):cy aJ 205 [tV (aO b 0),tD aM n] (cP b c ix) (fun _:OI=>tT [iA R.1,er R.2]) (fun _=>(cP b c ix)):=by
 refine cy.of Tryz.func205 J J J fun w0 S0=>?_;refine(show CG _ _ _ [bx (rH bc [(1,aQ (ix.h 0).1 (ix.h 0).2 c.kinds.length),(2,aQ (ix.h 1).1 (ix.h 1).2 c.first.length)]) 115 b c,db jG 39 (ix.h 0).1 (ix.h 0).2 c.kinds,db bI 3 (ix.h 1).1 (ix.h 1).2 c.first] _ from ?_);refine ap<|zo J (ff J)<|zo J (aD (show aH _ _ _ rd from gr))<|zo J (ef)<|al<|ae<|bp h fun e q_e h=>?_
 refine bZ (ts:=[_,_,_,_,_,_,_,_,_]) mixed J J
  ⟨dp 0 J J J (cr J),
  ⟨bH 15 0 J J J (cQ (ht J)),
  ⟨bH 16 1 J J J (gQ 1 jB J J J),
  ⟨bH 17 2 J J J (cC nQ J (.head _) (.tail _ (.head _)) (ht J)),
  ⟨dp 3 J J J (bS gm cW J J),
  ⟨bH 19 4 J J J (bn bP J J),
  ⟨cO 18 3 20 5 J J J J (bf pV c0 J (gz (ht J)) (ht J) q_e),
  ⟨bH 21 6 J J J (bn c0 J J),
  ⟨bH 22 7 J J J (pe J),
  aP⟩⟩⟩⟩⟩⟩⟩⟩⟩ ?_
 refine ak<|ap<|zo rfl (bS pl jT rfl rfl)<|zo rfl (bn c0 rfl rfl)<|zo rfl (eH ed rfl)<|zo rfl (gH (ht rfl) hI)<|aB rfl<|cd rfl rfl (fun hg=>bS od lX J J)<|cd J J (fun hg=>bj xq J J (bk J hg))<|cd J J (fun hg=>cD tZ (bk J hg))<|cd J J (fun hg=>gH (bk J hg) hI)<|zo J (ms J J)<|aB J<|cd J J (fun hg=>bS pl jT J J)<|cd J J (fun hg=>bj c0 J J (bk J hg))<|cd J J (fun hg=>cD ed (bk J hg))<|cd J J (fun hg=>bS od lX J J)<|cd J J (fun hg=>bj xq J J (bk J hg))<|cd J J (fun hg=>cD tZ (bk J hg))<|cd J J (fun hg=>fF (bk J hg) (bk J hg))<|cd J J (fun hg=>eb (bk J hg) hI)<|zo J (ms J J)<|aB J ?_;refine bp h fun t q_t h=>cd J J (fun hg=>bS pl jT J J)<|cd J J (fun hg=>bj c0 J J (bk J hg))<|cd J J (fun hg=>cr J) ?_
 obtain⟨r,h1t,h0t⟩:=og q_t
 have q_rg:=fun hb=>(h1t hb).1
 refine cd J J (fun hg=>ax Oh (I7 _ _ (q_rg hg)) ⟨(bk J hg),(bk J hg),aP⟩)<|zo J (cJ (ht J) (fun hb=>(bk J hb)) (fun hb=>(h1t hb).2) h0t)<|ba J<|al<|ae<|ap<|aB J<|zo J (cH (ht J))<|al<|bX h J (fun h=>?_) (fun h=>?_)
 ·refine ap<|zo J (aD (show aH _ _ _ rd from gr))<|zo J (ef)<|al<|ai<|aa<|aK<|aK<|aK ?_;cases so h;exact df (ts:=[iA ([]),er false]) (rvs:=[.tmp 4,.tmp 5]) J J ⟨aW J,aW J,aP⟩ kY J J
 ·refine cF<|ap<|bA false bI 3<|zo J (aD mZ)<|al<|ae<|ap<|zo J (bS pl jT J J)<|zo J (bn c0 J J)<|zo J (eH ed J)<|zo J (br hI)<|al<|au<|aU (k:=52) J fun hN=>bo ?_;refine aI (gb (Z:=fun ls i out l c1=>(n.Keys.drop i=ls)∧iX n e t ls out=some R) (Of:=fun _ i out l c1=>[dJ bI 3 l c1 out,bx (rH bc [(1,aQ (ix.h 0).1 (ix.h 0).2 c.kinds.length),(2,aQ (ix.h 1).1 (ix.h 1).2 c.first.length)]) 115 b c,db jG 39 (ix.h 0).1 (ix.h 0).2 c.kinds,db bI 3 (ix.h 1).1 (ix.h 1).2 c.first]) (Gf:=fun _ i out l c1=>[(3,bv aM n),(6,iA e),(7,er t),(8,mp l c1 out),(52,iA n.Keys),(53,fC n.Keys),(54,bu (i:Int))]) (fun i out l c1 h=>?_) (fun e1 tl ih i out l c1 h=>?_) n.Keys 0 nL none 0 ⟨J,h⟩) (bh J)
  ·obtain⟨hx,h⟩:=h
   refine aw<|ap<|zo J (dC J J)<|al<|ae<|bm (ht J) (cx hx)<|be ?_;refine af (af (aE ?_));refine ak<|ae<|ap<|zo rfl (bS od lX rfl rfl)<|zo rfl (bn xq rfl rfl)<|zo rfl (eH tZ rfl)<|zo rfl (br hI)<|al<|au<|aU (k:=67) J fun hN1=>bo ?_;refine aI (oG (Z:=fun ls1 i1 out1 l1 c2 ok=>(n.Aggs.drop i1=ls1)∧iW e ls1 out1 ok=some R) (Of:=fun _ i1 out1 l1 c2 ok=>[dJ bI 3 l1 c2 out1,bx (rH bc [(1,aQ (ix.h 0).1 (ix.h 0).2 c.kinds.length),(2,aQ (ix.h 1).1 (ix.h 1).2 c.first.length)]) 115 b c,db jG 39 (ix.h 0).1 (ix.h 0).2 c.kinds,db bI 3 (ix.h 1).1 (ix.h 1).2 c.first]) (Gf:=fun _ i1 out1 l1 c2 ok=>[(6,iA e),(7,er ok),(8,mp l1 c2 out1),(67,bK (ej) n.Aggs),(68,fC n.Aggs),(69,bu (i1:Int))]) (fun i1 out1 l1 c2 ok h=>?_) (fun e2 tl1 ih1 i1 out1 l1 c2 ok h=>?_) n.Aggs 0 out l c1 t ⟨J,h⟩) (bh J)
   ·obtain⟨hx1,h⟩:=h
    refine aw<|ap<|zo J (dC J J)<|al<|ae<|bm (ht J) (cx hx1)<|be ?_;refine af (af (aE ?_));refine ak<|ap<|aB rfl<|aB rfl<|ba rfl<|ba rfl<|al<|ai<|fQ<|ce 8 rfl<|ce 88 rfl<|ce 4 rfl<|fR 4 rfl<|aY<|aK<|aK<|aK ?_;cases so h;exact df (ts:=[iA out1,er ok]) (rvs:=[.tmp 4,.tmp 5]) J J ⟨aW J,aW J,aP⟩ kY J J
   ·obtain⟨hx1,h⟩:=h
    refine aw<|ap<|zo J (dC J J)<|al<|ae<|bl (ht J) (cw hx1)<|cF<|ae<|au<|ap<|zo J (gw tZ qZ J J J (ci hx1))<|zo J (bn qZ J J)<|aV (r:=ej) (x:=(⟨(0:Int),vf⟩:kz)) qZ (fun _=>Ah _) J fun b1=>av qZ J am J (ht J) (ht J)<|aS 12 J<|al<|ap<|zo J (bn qZ J J) ?_;refine aB J<|bp h fun r1 q_r1 h=>zo J (ax Og (I6 _ _ q_r1) ⟨(ht J),(ht J),aP⟩)<|aB J<|zo J (eT J J)<|zo J (eT J J)<|ba J<|ba J<|al<|an<|aB J<|aB J<|zo J (aR (r:=bI) (ys:=[r1.1]) (xs:=[.tmp 80]) ed bP J J J J J ⟨(ht J),aP⟩)<|bp h fun out2 q_out2 h=>cg bP J J J J ed J J (ht J) (ht J) q_out2 fun l2 c3=>aB J<|aB J<|cd J J (fun hg=>cr J)<|zo J (ms J J)<|ba J<|ba J<|aL<|aj ?_;refine ak<|an<|zo rfl (iq (bW hx1 hN1) rfl)<|aB rfl<|aL ?_;exact aT (aI (ih1 (i1+1) out2 l2 c3 (ok&&r1.2) ⟨bV hx1,h⟩) (bh J))
  ·obtain⟨hx,h⟩:=h
   refine aw<|ap<|zo J (dC J J)<|al<|ae<|bl (ht J) (cw hx)<|cF<|ae<|au<|ap<|zo J (gw ed bP J J J (ci hx))<|zo J (bn bP J J)<|ba J<|al<|an<|aB J<|aB J<|aB J<|bp h fun e3 q_e3 h=>?_;refine zo J (gw ed bP J J J q_e3)<|zo J (bn bP J J)<|zo J (aR (r:=bI) (ys:=[e3]) (xs:=[.tmp 62]) ed bP J J J J J ⟨(ht J),aP⟩)<|bp h fun out3 q_out3 h=>cg bP J J J J ed J J (ht J) (ht J) q_out3 fun l3 c4=>ba J<|aL<|aj<|ak<|an<|zo rfl (iq (bW hx hN) rfl)<|aB rfl<|aL ?_;exact aT (aI (ih (i+1) out3 l3 c4 ⟨bV hx,h⟩) (bh J))

theorem Mn(b:Nat)(ix:OI)(c:aF)(n:aC){R:(List Int)×Bool}(h:gL c n=some R):cy aJ 206 [tV (aO b 0),tD aM n] (cP b c ix) (fun _:OI=>tT [iA R.1,er R.2]) (fun _=>(cP b c ix)):=by
 refine cy.of Tryz.func206 J J J fun w0 S0=>?_;refine(show CG _ _ _ [bx (rH bc [(1,aQ (ix.h 0).1 (ix.h 0).2 c.kinds.length),(2,aQ (ix.h 1).1 (ix.h 1).2 c.first.length)]) 115 b c,db jG 39 (ix.h 0).1 (ix.h 0).2 c.kinds,db bI 3 (ix.h 1).1 (ix.h 1).2 c.first] _ from ?_);refine ap<|zo J (ff J)<|zo J (aD (show aH _ _ _ rd from gr))<|zo J (ef)<|al<|ap<|zo J (bS oc kM J J)<|zo J (bn wC J J)<|zo J (eH vb J)<|zo J (dU (ht J) hI)<|aB J<|cd J J (fun hg=>bS oc kM J J)<|cd J J (fun hg=>bj wC J J (bk J hg))<|cd J J (fun hg=>cD vb (bk J hg))<|cd J J (fun hg=>gH (bk J hg) hI)<|zo J (ms J J)<|ba J<|al<|ap ?_;refine bA false bI 3<|zo J (aD mZ)<|al<|ae<|ap<|zo J (bS oc kM J J)<|zo J (bn wC J J)<|zo J (eH vb J)<|zo J (br hI)<|al<|au<|aU (k:=23) J fun hN=>bo ?_;refine aI (oG (Z:=fun ls i out l c1 ok=>(n.Items.drop i=ls)∧ii c n ls out ok=some R) (Of:=fun _ i out l c1 ok=>[dJ bI 3 l c1 out,bx (rH bc [(1,aQ (ix.h 0).1 (ix.h 0).2 c.kinds.length),(2,aQ (ix.h 1).1 (ix.h 1).2 c.first.length)]) 115 b c,db jG 39 (ix.h 0).1 (ix.h 0).2 c.kinds,db bI 3 (ix.h 1).1 (ix.h 1).2 c.first]) (Gf:=fun _ i out l c1 ok=>[(0,tV (aO b 0)),(3,bv aM n),(6,er ok),(7,mp l c1 out),(23,bK (bY) n.Items),(24,fC n.Items),(25,bu (i:Int))]) (fun i out l c1 ok h=>?_) (fun e tl ih i out l c1 ok h=>?_) n.Items 0 nL none 0 ((decide ((1:Int)≤(n.Items.length:Int)))&&(decide ((n.Items.length:Int)≤(16:Int)))) ⟨J,h⟩) (bh J)
 ·obtain⟨hx,h⟩:=h
  refine aw<|ap<|zo J (dC J J)<|al<|ae<|bm (ht J) (cx hx)<|be ?_;refine af (af (aE ?_));refine ak<|ap<|aB rfl<|aB rfl<|ba rfl<|ba rfl<|al<|ai<|fQ<|ce 7 rfl<|ce 52 rfl<|ce 4 rfl<|fR 4 rfl<|aY<|aK<|aK<|aK ?_;cases so h;exact df (ts:=[iA out,er ok]) (rvs:=[.tmp 4,.tmp 5]) J J ⟨aW J,aW J,aP⟩ kY J J
 ·obtain⟨hx,h⟩:=h
  refine aw<|ap<|zo J (dC J J)<|al<|ae<|bl (ht J) (cw hx)<|cF<|ae<|au<|ap<|zo J (gw vb jg J J J (ci hx))<|zo J (bn jg J J)<|aV (r:=bY) (x:=vf) jg (fun _=>oM _) J fun b1=>av jg J am J (ht J) (ht J)<|aS 9 J<|al<|ae<|bp h fun e1 q_e1 h=>bp h fun r q_r h=>?_
  refine bZ (ts:=[_,_,_,_,_,_,_,_,_,_,_,_,_,_,_]) mixed J J
   ⟨dp 9 J J J (bn jg J J),
   ⟨dp 0 J J J (cr J),
   ⟨bH 31 1 J J J (cQ (ht J)),
   ⟨bH 32 2 J J J (gQ 1 jB J J J),
   ⟨bH 33 3 J J J (cC nQ J (.tail _ (.head _)) (.tail _ (.tail _ (.head _))) (ht J)),
   ⟨dp 3 J J J (bS gm cW J J),
   ⟨bH 35 5 J J J (bn bP J J),
   ⟨cO 34 4 36 6 J J J J (bf pV c0 J (gz (ht J)) (ht J) q_e1),
   ⟨bH 37 7 J J J (bn c0 J J),
   ⟨cO 30 0 38 8 J J J J (ax Hr (AV _ _ q_r) ⟨(ht J),(ht J),aP⟩),
   ⟨bH 39 9 J J J (cr J),
   ⟨bH 29 10 J J J (eT J J),
   ⟨bH 29 10 J J J (eT J J),
   ⟨bH 40 11 J J J (pe J),
   ⟨bH 41 12 J J J (pe J),
   aP⟩⟩⟩⟩⟩⟩⟩⟩⟩⟩⟩⟩⟩⟩⟩ ?_
  refine ak<|an<|aB rfl<|aB rfl<|zo rfl (aR (r:=bI) (ys:=[r.1]) (xs:=[.tmp 43]) ed bP J J J J J ⟨(ht J),aP⟩)<|bp h fun out1 q_out1 h=>cg bP J J J J ed J J (ht J) (ht J) q_out1 fun l1 c2=>aB J<|aB J<|cd J J (fun hg=>cr J)<|cd J J (fun hg=>cA (bk J hg) hI)<|zo J (ms J J)<|ba J<|ba J<|aL<|aj<|ak<|an<|zo rfl (iq (bW hx hN) rfl)<|aB rfl<|aL ?_;exact aT (aI (ih (i+1) out1 l1 c2 (ok&&(r.2==(0:Int))) ⟨bV hx,h⟩) (bh J))

theorem Mm(b:Nat)(ix:OI)(c:aF)(n:aC){R:(List Int)×Bool}(h:gk c n=some R):cy aJ 207 [tV (aO b 0),tD aM n] (cP b c ix) (fun _:OI=>tT [iA R.1,er R.2]) (fun _=>(cP b c ix)):=by
 refine cy.of Tryz.func207 J J J fun w0 S0=>?_;refine(show CG _ _ _ [bx (rH bc [(1,aQ (ix.h 0).1 (ix.h 0).2 c.kinds.length),(2,aQ (ix.h 1).1 (ix.h 1).2 c.first.length)]) 115 b c,db jG 39 (ix.h 0).1 (ix.h 0).2 c.kinds,db bI 3 (ix.h 1).1 (ix.h 1).2 c.first] _ from ?_);refine ap<|zo J (ff J)<|zo J (aD (show aH _ _ _ rd from gr))<|zo J (ef)<|al<|ae<|bp h fun e q_e h=>?_
 refine bZ (ts:=[_,_,_,_,_,_,_,_,_,_]) mixed J J
  ⟨dp 0 J J J (cr J),
  ⟨bH 6 0 J J J (cQ (ht J)),
  ⟨bH 7 1 J J J (gQ 1 jB J J J),
  ⟨bH 8 2 J J J (cC nQ J (.head _) (.tail _ (.head _)) (ht J)),
  ⟨dp 3 J J J (bS gm cW J J),
  ⟨bH 10 4 J J J (bn bP J J),
  ⟨cO 9 3 11 5 J J J J (bf pV c0 J (gz (ht J)) (ht J) q_e),
  ⟨bH 12 6 J J J (bn c0 J J),
  ⟨bH 13 7 J J J (pe J),
  ⟨Fg J J (ef),
  aP⟩⟩⟩⟩⟩⟩⟩⟩⟩⟩ ?_
 refine ak<|ai<|aK<|aK<|aK ?_;cases so h;exact df (ts:=[iA e,er true]) (rvs:=[.tmp 4,.tmp 5]) J J ⟨aW J,aW J,aP⟩ kY J J

theorem Ml(b:Nat)(ix:OI)(c:aF)(n:aC){R:(List Int)×Bool}(h:ir c n=some R):cy aJ 208 [tV (aO b 0),tD aM n] (cP b c ix) (fun _:OI=>tT [iA R.1,er R.2]) (fun _=>(cP b c ix)):=by
 refine cy.of Tryz.func208 J J J fun w0 S0=>?_;refine(show CG _ _ _ [bx (rH bc [(1,aQ (ix.h 0).1 (ix.h 0).2 c.kinds.length),(2,aQ (ix.h 1).1 (ix.h 1).2 c.first.length)]) 115 b c,db jG 39 (ix.h 0).1 (ix.h 0).2 c.kinds,db bI 3 (ix.h 1).1 (ix.h 1).2 c.first] _ from ?_);refine ap<|zo J (ff J)<|zo J (aD (show aH _ _ _ rd from gr))<|zo J (ef)<|al<|ae<|bp h fun e q_e h=>bp h fun e1 q_e1 h=>?_
 refine bZ (ts:=[_,_,_,_,_,_,_,_,_,_,_,_,_,_,_,_,_,_]) mixed J J
  ⟨dp 0 J J J (cr J),
  ⟨bH 12 0 J J J (cQ (ht J)),
  ⟨bH 13 1 J J J (gQ 1 jB J J J),
  ⟨bH 14 2 J J J (cC nQ J (.head _) (.tail _ (.head _)) (ht J)),
  ⟨dp 3 J J J (bS gm cW J J),
  ⟨bH 16 4 J J J (bn bP J J),
  ⟨cO 15 3 17 5 J J J J (bf pV c0 J (gz (ht J)) (ht J) q_e),
  ⟨bH 18 6 J J J (bn c0 J J),
  ⟨dp 0 J J J (cr J),
  ⟨bH 20 8 J J J (cQ (ht J)),
  ⟨bH 21 9 J J J (gQ 1 jB J J J),
  ⟨bH 22 10 J J J (cC nQ J (.head _) (.tail _ (.head _)) (ht J)),
  ⟨dp 3 J J J (bS m2 gJ J J),
  ⟨bH 24 12 J J J (bn bP J J),
  ⟨cO 23 11 25 13 J J J J (bf pV c0 J (gz (ht J)) (ht J) q_e1),
  ⟨bH 26 14 J J J (bn c0 J J),
  ⟨bH 19 7 J J J (pe J),
  ⟨bH 27 15 J J J (pe J),
  aP⟩⟩⟩⟩⟩⟩⟩⟩⟩⟩⟩⟩⟩⟩⟩⟩⟩⟩ ?_
 refine ak<|ae<|ap<|aB rfl<|zo rfl (eH ed rfl)<|aB rfl<|zo rfl (eH ed rfl)<|zo rfl (dc (ht rfl) (ht rfl))<|al<|bX h rfl (fun h=>?_) (fun h=>?_)
 ·refine ap<|zo J (aD (show aH _ _ _ rd from gr))<|zo J (ef)<|al<|ai<|aa<|aK<|aK<|aK ?_;cases so h;exact df (ts:=[iA ([]),er false]) (rvs:=[.tmp 4,.tmp 5]) J J ⟨aW J,aW J,aP⟩ kY J J
 ·refine cF<|ap<|aB J<|bp h fun r q_r h=>fe Ho (AR _ q_r) ⟨(ht J),aP⟩ J fun l c1=>ba J<|al<|ap<|zo J (ef)<|al<|ae<|ap<|aB J<|zo J (eH ed J)<|zo J (br hI)<|al<|au ?_;refine aU (k:=35) J fun hN=>bo ?_;refine aI (pQ (Z:=fun ls i out ok=>(e1.drop i=ls)∧fa ls i out ok=some R) (Of:=fun _ i out ok=>[dJ bI 3 l c1 out,bx (rH bc [(1,aQ (ix.h 0).1 (ix.h 0).2 c.kinds.length),(2,aQ (ix.h 1).1 (ix.h 1).2 c.first.length)]) 115 b c,db jG 39 (ix.h 0).1 (ix.h 0).2 c.kinds,db bI 3 (ix.h 1).1 (ix.h 1).2 c.first]) (Gf:=fun _ i out ok=>[(8,mp l c1 out),(9,er ok),(35,iA e1),(36,fC e1),(37,bu (i:Int))]) (fun i out ok h=>?_) (fun e2 tl ih i out ok h=>?_) e1 0 r true ⟨J,h⟩) (bh J)
  ·obtain⟨hx,h⟩:=h
   refine aw<|ap<|zo J (dC J J)<|al<|ae<|bm (ht J) (cx hx)<|be ?_;refine af (af (aE ?_));refine ak<|ap<|aB rfl<|aB rfl<|ba rfl<|ba rfl<|al<|ai<|fQ<|ce 8 rfl<|ce 65 rfl<|ce 4 rfl<|fR 4 rfl<|aY<|aK<|aK<|aK ?_;cases so h;exact df (ts:=[iA out,er ok]) (rvs:=[.tmp 4,.tmp 5]) J J ⟨aW J,aW J,aP⟩ kY J J
  ·obtain⟨hx,h⟩:=h
   refine aw<|ap<|zo J (dC J J)<|al<|ae<|bl (ht J) (cw hx)<|cF<|ae<|au<|ap<|aB J<|zo J (gw ed bP J J J (ci hx))<|zo J (bn bP J J)<|ba J<|ba J<|al ?_;refine gv (Z:=fun out1=>iT (fa tl) i e2 ok out1=some R) (Of:=fun out1=>[dJ bI 3 l c1 out1,bx (rH bc [(1,aQ (ix.h 0).1 (ix.h 0).2 c.kinds.length),(2,aQ (ix.h 1).1 (ix.h 1).2 c.first.length)]) 115 b c,db jG 39 (ix.h 0).1 (ix.h 0).2 c.kinds,db bI 3 (ix.h 1).1 (ix.h 1).2 c.first]) (Gf:=fun out1=>[(8,mp l c1 out1),(9,er ok),(10,bu (i:Int)),(11,bu e2),(35,iA e1),(36,fC e1),(37,bu (i:Int))]) (fun out1 h=>?_) (fun K=>?_)
   ·skip
    refine an<|aB J<|aB J<|bp h fun t q_t h=>cd J J (fun hg=>cr J)<|cd J J (fun hg=>cr J) ?_
    obtain⟨e3,h1t,h0t⟩:=og q_t
    have q_e3g:=fun hb=>(h1t hb).1
    refine cd J J (fun hg=>ck ed bP (.head _) (bk J hg) (bk J hg) (q_e3g hg))<|cd J J (fun hg=>eo (r:=bI) (i:=(i:Int)) (foff:=0) bP J J bG J (.head _) (q_e3g hg) (bk J hg))<|cd J J (fun hg=>cr J)<|cd J J (fun hg=>cA (bk J hg) (bk J hg))<|cd J J (fun hg=>br (bk J hg))<|fI J J J J (fun hg=>cr J)<|fI J J J J (fun hg=>cA (bk J hg) hI)<|cd J J (fun hg=>pI (bk J hg) (fun hb=>(bk J (q5 hg (mU hb)))))<|zo J (cJ (ht J) (fun hb=>(bk J hb)) (fun hb=>(h1t hb).2) h0t)<|ba J<|aL<|aj<|ak<|an<|zo rfl (iq (bW hx hN) rfl)<|aB rfl<|aL ?_;exact aT (aI (ih (i+1) out1 t ⟨bV hx,h⟩) (bh J))
   ·skip
    refine ap<|aB J<|aB J<|bp h fun e4 q_e4 h=>zo J (ck ed bP (.head _) (ht J) (ht J) q_e4)<|zo J (eo (r:=bI) (i:=(i:Int)) (foff:=0) bP J J bG J (.head _) q_e4 (ht J))<|zo J (io J)<|al<|bX h J (fun h=>?_) (fun h=>?_)
    ·refine an<|aB J<|aB J<|aB J<|zo J (ck ed bP (.head _) (ht J) (ht J) q_e4)<|bp h fun st q_st h=>nD bP J am J q_e4 (so q_st) (ht J) (ht J)<|fj (iS (so q_st)) 8 J<|fj (iS (so q_st)) 42 J<|fj (iS (so q_st)) 47 J<|aL ?_;exact cn (K st h) (bh J)
    ·refine bi ?_;exact cn (K out h) (bh J)

theorem Jv(s:(List ik))(f:(ik→Option Bool)){R:Int}(h:gX s f=some R):aN aJ 229 [bK (eK) s,(cB aJ Gb ib (fun(x:ik)=>f x))] (bu R):=by
 refine aN.of Tryz.func229 J J J fun w0 S0=>ap<|zo J (bO)<|al<|ae<|ap<|aB J<|zo J (eH Ae J)<|zo J (br hI)<|al<|au<|aU (k:=6) J fun hN=>bo ?_;refine aI (cN (Z:=fun ls i=>(s.drop i=ls)∧eE f ls i=some R) (Of:=fun _ i=>[]) (Gf:=fun _ i=>[(0,bK (eK) s),(1,(cB aJ Gb ib (fun(x:ik)=>f x))),(7,fC s),(8,bu (i:Int))]) (fun i h=>?_) (fun e tl ih i h=>?_) s 0 ⟨J,h⟩) (bh J)
 ·obtain⟨hx,h⟩:=h
  refine aw<|ap<|zo J (dC J J)<|al<|ae<|bm (ht J) (cx hx)<|be ?_;refine af (af (aE ?_));refine ak<|ap<|zo rfl (bO)<|al<|ai ?_;cases so h;exact ay J J
 ·obtain⟨hx,h⟩:=h
  refine aw<|ap<|zo J (dC J J)<|al<|ae<|bl (ht J) (cw hx)<|cF<|ae<|au<|ap<|aB J<|ba J<|al<|ap<|aB J<|aB J<|aB J<|zo J (gw Ae BA J J J (ci hx)) ?_;refine zo J (bn BA J J)<|bp h fun r q_r h=>zo J (dz (args:=Gb) (res:=yH) (f:=(fun(x:ik)=>f x)) (x:=((e):ik)) (ht J) q_r ⟨(ht J),aP⟩)<|al<|bX h J (fun h=>?_) (fun h=>?_)
  ·refine ap<|aB J<|ba J<|al<|ai ?_;refine aq (aa (aa (aq (aa ?_))));cases so h;exact ay J J
  ·refine bi<|aj<|ak<|an<|zo rfl (iq (bW hx hN) rfl)<|aB rfl<|aL ?_;exact aT (aI (ih (i+1) ⟨bV hx,h⟩) (bh J))

theorem J1(s:(List ik))(f:(ik→Option Bool)){R:Bool}(h:gq s f=some R):aN aJ 149 [bK (eK) s,(cB aJ Gb ib (fun(x:ik)=>f x))] (er R):=by
 refine aN.of Tryz.func149 J J J fun w0 S0=>ap<|zo J (ef)<|al<|ap<|aB J<|aB J<|bp h fun r q_r h=>zo J (ax ON (Jv _ _ q_r) ⟨(ht J),(ht J),aP⟩)<|zo J (dU (ht J) hI)<|ba J<|al<|ai ?_;cases so h;exact ay J J

end Go.Proofs.YtfhhakidodmdfaaGreatDoor

