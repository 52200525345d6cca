/- cP of this claim: P12. -/
import Derived.Test.YtfhhakidodmdfaaGreatDoorJgT
import Derived.Test.YtfhhakidodmdfaaGreatDoorJgP11
set_option linter.all false
namespace Go.Proofs.YtfhhakidodmdfaaGreatDoor
open Go
set_option maxRecDepth 100000

theorem aab(b:Nat)(ix:OI)(r:cS)(n:aj){R:(List (List ac))×Int}(h:kp r n=some R):cX aQ 58 [tV (aN b 0),tD aF n] (jr b r ix) (fun _:OI=>tT [ca (cY) R.1,bM R.2]) (fun _=>(jr b r ix)):=by
 refine cX.of Tryz.func58 J J J fun w0 S0=>?_;refine(show CG _ _ _ [bx (rH ea [(1,aR (ix.h 0).1 (ix.h 0).2 r.rows.length),(2,aR (ix.h 1).1 (ix.h 1).2 r.width.length)]) 96 b r,dT dO 32 (ix.h 0).1 (ix.h 0).2 r.rows,dT cd 3 (ix.h 1).1 (ix.h 1).2 r.width] _ from ?_);refine aw<|zo J (jm J)<|zo J (aM (show aI _ _ _ uN from jQ))<|zo J (cD)<|av<|ah<|bC h fun e q_e h=>bC h fun r1 q_r1 h=>?_
 refine c9 (ts:=[_,_,_,_,_,_,_,_,_,_,_,_,_,_,_]) mixed J J
  ⟨eM 0 J J J (dl J),
  ⟨bY 6 0 J J J (dB (ht J)),
  ⟨bY 7 1 J J J (jN 1 qV J J J),
  ⟨bY 8 2 J J J (dd vb J (.head _) (.tail _ (.head _)) (ht J)),
  ⟨eM 3 J J J (df ju dN J J),
  ⟨bY 10 4 J J J (bB cx J J),
  ⟨d8 9 3 11 5 J J J J (br oA gF J (kz (ht J)) (ht J) q_e),
  ⟨bY 12 6 J J J (bB gF J J),
  ⟨eM 3 J J J (df uC pN J J),
  ⟨bY 14 8 J J J (bB H2 J J),
  ⟨eM 3 J J J (df Br uB J J),
  ⟨bY 16 10 J J J (bB cx J J),
  ⟨GL 13 7 15 9 17 11 J J J J J (aC acI (Yt _ _ _ q_r1) ⟨(ht J),(ht J),(ht J),aT⟩),
  ⟨bY 18 12 J J J (u8 J),
  ⟨Pv J J (cD),
  aT⟩⟩⟩⟩⟩⟩⟩⟩⟩⟩⟩⟩⟩⟩⟩ ?_
 refine ax<|am<|aK<|aK<|aK ?_;cases so h;exact d6 (ts:=[ca (cY) r1,bM 0]) (rvs:=[.tmp 4,.tmp 5]) J J ⟨aZ J,aZ J,aT⟩ pS J J

theorem R5(l:(List (List ac))){R:(List (List ac))×Int}(h:tg l=some R):aX aQ 59 [ca (cY) l] (tT [ca (cY) R.1,bM R.2]):=by
 refine aX.of Tryz.func59 J J J fun w0 S0=>aw<|zo J (aM (show aI _ _ _ uN from jQ))<|zo J (cD)<|av<|ah<|aw<|aG J<|zo J (aS (r:=dO) (ys:=[l]) (xs:=[.tmp 5]) oA gF J J J J J ⟨(ht J),aT⟩)<|bC h fun r q_r h=>zo J (aC V3 (IR _ q_r) ⟨(ht J),aT⟩)<|bp J<|av<|aw<|aG J<|zo J (s4 J)<|av<|cU h J (fun h=>?_) (fun h=>?_)
 ·refine aw<|aG J<|zo J (aM (show aI _ _ _ uN from jQ))<|bp J<|av<|am<|ae ?_;cases so h;exact cC J J J
 ·refine dS<|aw<|aG J<|bC h fun r1 q_r1 h=>iy Xc (Ld _ q_r1) ⟨(ht J),aT⟩ J fun l1 c=>bp J<|zo J (cD)<|av<|am<|jD<|cE 2 J<|cE 12 J<|jE 2 J<|ba ?_;cases so h;exact cC J J J

theorem Sf(s:(List gG)){R:(List gG)}(h:d3 s=some R):fZ aQ 187 [ca (gI) s] false gI 60 R:=by
 refine fZ.of Tryz.func187 J J J fun w0 S0=>aw<|bQ false gI 60<|zo J (aM tJ)<|av<|ah<|aw<|aG J<|tX DW (ht J) J fun isnil hisnil=>av<|pi (ht J) (fun hc=>?_) (fun hc=>?_)
 ·have hx:=hisnil hc
  have h:some ([]:List gG)=some R:=by simpa [d3,app,hx] using h
  refine aw<|bQ false gI 60<|zo J (aM tJ)<|av<|am<|ae ?_;cases so h;exact gn J J
 ·refine dS<|aw<|kh (r:=gI) (ys:=([]:List gG)) (xs:=[]) DW JH J J J J J trivial J fun l c=>aG J<|bC h fun x q_x h=>cT JH J J J J DW J J (ht J) (ht J) q_x fun l1 c1=>bp J<|av<|am ?_;cases so h;exact gn J J
theorem Vr(s:(List gG)){R:(List gG)}(h:d3 s=some R):aX aQ 187 [ca (gI) s] (ca (gI) R):=(Sf _ h).spec

theorem La(s:(List bo)){R:(List bo)}(h:cn s=some R):fZ aQ 188 [ca (bJ) s] false bJ 80 R:=by
 refine fZ.of Tryz.func188 J J J fun w0 S0=>aw<|bQ false bJ 80<|zo J (aM tJ)<|av<|ah<|aw<|aG J<|tX vP (ht J) J fun isnil hisnil=>av<|pi (ht J) (fun hc=>?_) (fun hc=>?_)
 ·have hx:=hisnil hc
  have h:some ([]:List bo)=some R:=by simpa [cn,app,hx] using h
  refine aw<|bQ false bJ 80<|zo J (aM tJ)<|av<|am<|ae ?_;cases so h;exact gn J J
 ·refine dS<|aw<|kh (r:=bJ) (ys:=([]:List bo)) (xs:=[]) vP oW J J J J J trivial J fun l c=>aG J<|bC h fun x q_x h=>cT oW J J J J vP J J (ht J) (ht J) q_x fun l1 c1=>bp J<|av<|am ?_;cases so h;exact gn J J
theorem OR(s:(List bo)){R:(List bo)}(h:cn s=some R):aX aQ 188 [ca (bJ) s] (ca (bJ) R):=(La _ h).spec

theorem Sd(s:(List gS)){R:(List gS)}(h:eZ s=some R):fZ aQ 189 [ca (fm) s] false fm 51 R:=by
 refine fZ.of Tryz.func189 J J J fun w0 S0=>aw<|bQ false fm 51<|zo J (aM tJ)<|av<|ah<|aw<|aG J<|tX wT (ht J) J fun isnil hisnil=>av<|pi (ht J) (fun hc=>?_) (fun hc=>?_)
 ·have hx:=hisnil hc
  have h:some ([]:List gS)=some R:=by simpa [eZ,app,hx] using h
  refine aw<|bQ false fm 51<|zo J (aM tJ)<|av<|am<|ae ?_;cases so h;exact gn J J
 ·refine dS<|aw<|kh (r:=fm) (ys:=([]:List gS)) (xs:=[]) wT ug J J J J J trivial J fun l c=>aG J<|bC h fun x q_x h=>cT ug J J J J wT J J (ht J) (ht J) q_x fun l1 c1=>bp J<|av<|am ?_;cases so h;exact gn J J
theorem Sc(s:(List bG)){R:(List bG)}(h:ee s=some R):fZ aQ 190 [ca (cj) s] false cj 49 R:=by
 refine fZ.of Tryz.func190 J J J fun w0 S0=>aw<|bQ false cj 49<|zo J (aM tJ)<|av<|ah<|aw<|aG J<|tX xf (ht J) J fun isnil hisnil=>av<|pi (ht J) (fun hc=>?_) (fun hc=>?_)
 ·have hx:=hisnil hc
  have h:some ([]:List bG)=some R:=by simpa [ee,app,hx] using h
  refine aw<|bQ false cj 49<|zo J (aM tJ)<|av<|am<|ae ?_;cases so h;exact gn J J
 ·refine dS<|aw<|kh (r:=cj) (ys:=([]:List bG)) (xs:=[]) xf j3 J J J J J trivial J fun l c=>aG J<|bC h fun x q_x h=>cT j3 J J J J xf J J (ht J) (ht J) q_x fun l1 c1=>bp J<|av<|am ?_;cases so h;exact gn J J
theorem I5(n:aj)(by1:Int){R:aj}(h:oG n by1=some R):aX aQ 110 [tD aF n,bM by1] (tD aF R):=by
 refine aX.of Tryz.func110 J J J fun w0 S0=>aw<|wE (ht J) J fun b=>aW (r:=aF) (x:=HO) fK (fun _=>lK _) J fun b1=>av ?_;refine kw (Z:=fun n1=>pg by1 n1=some R) (Of:=fun n1=>[bx aF 71 b n1,bx aF 71 b1 HO]) (Gf:=fun n1=>[(1,bM by1),(2,tV (aN b 0)),(4,tV (aN b1 0))]) (fun n1 h=>?_) (fun K=>?_)
 ·skip
  refine kw (Z:=fun n2=>ne n2=some R) (Of:=fun n2=>[bx aF 71 b n2,bx aF 71 b1 HO]) (Gf:=fun n2=>[(2,tV (aN b 0)),(4,tV (aN b1 0))]) (fun n2 h=>?_) (fun K1=>?_)
  ·skip
   refine ah<|bC h fun r q_r h=>bC h fun r1 q_r1 h=>bC h fun r2 q_r2 h=>?_
   refine qw 10 (ts:=[tV (aN b 4),mv n2.Kinds,mv r,tV (aN b 7),mv n2.Keys,mv r1,tV (aN b 10),ca (gI) n2.Order,ca (gI) r2,tV (aN b 4)]) mixed J J J
    ⟨eM 2 J J J (jN 4 uW J J J),
    ⟨bY 23 0 J J J (cg d9 J J om (.head _) (ht J)),
    ⟨bY 24 1 J J J (aC SC (R4 _ q_r) ⟨(ht J),aT⟩),
    ⟨eM 2 J J J (jN 7 tN J J J),
    ⟨bY 26 3 J J J (cg d9 J J mQ (.head _) (ht J)),
    ⟨bY 27 4 J J J (aC SC (R4 _ q_r1) ⟨(ht J),aT⟩),
    ⟨eM 2 J J J (jN 10 uC J J J),
    ⟨bY 29 6 J J J (cg H2 J J pN (.head _) (ht J)),
    ⟨bY 30 7 J J J (aC abB (Vr _ q_r2) ⟨(ht J),aT⟩),
    ⟨eM 2 J J J (jN 4 uW J J J),
    aT⟩⟩⟩⟩⟩⟩⟩⟩⟩⟩ ?_
   refine ap d9 J zZ J (ht J) (ht J)<|zo J (jN 7 tN J J J)<|ap d9 J Et J (ht J) (ht J)<|zo J (jN 10 uC J J J)<|ap H2 J CZ J (ht J) (ht J)<|av<|aw<|zo J (jN 6 uV J J J)<|zo J (jN 6 qn J J J)<|zo J (cg AU J J (vw ol lX) (.head _) (ht J))<|bC h fun r3 q_r3 h=>iy SL (La _ q_r3) ⟨(ht J),aT⟩ J fun l c=>zo J (jN 6 uV J J J)<|zo J (jN 6 qn J J J)<|jC<|iW 38 J<|bF<|ap AU J (GW ol v6 ve) J (ht J) (kz (ht J))<|av<|ah<|bC h fun r4 q_r4 h=>?_
   obtain⟨r5,q_r5,h⟩:=bs h
   refine o9 7 [tc (tV (aN b 8)),tc (ca (fm) (({(aj.mk n2.Op n2.A n2.B n2.Table r n2.Left n2.Cond r1 n2.Aggs n2.Items r2 n2.Limit)with Cond:=({(aj.mk n2.Op n2.A n2.B n2.Table r n2.Left n2.Cond r1 n2.Aggs n2.Items r2 n2.Limit).Cond with Nodes:=r3}:bG)}:aj).Aggs)),([2],fun s=>tV (aR ((s.getD 0 pS).h 0).1 ((s.getD 0 pS).h 0).2 r4.length)),tc (tV (aN b 9)),tc (ca (cj) (({(aj.mk n2.Op n2.A n2.B n2.Table r n2.Left n2.Cond r1 n2.Aggs n2.Items r2 n2.Limit)with Cond:=({(aj.mk n2.Op n2.A n2.B n2.Table r n2.Left n2.Cond r1 n2.Aggs n2.Items r2 n2.Limit).Cond with Nodes:=r3}:bG)}:aj).Items)),([5],fun s=>tV (aR ((s.getD 0 pS).h 0).1 ((s.getD 0 pS).h 0).2 r5.length)),tc (tV (aN b 8))] [false,false,true,false,false,true,false] [fun _=>[bx aF 71 b ({(aj.mk n2.Op n2.A n2.B n2.Table r n2.Left n2.Cond r1 n2.Aggs n2.Items r2 n2.Limit)with Cond:=({(aj.mk n2.Op n2.A n2.B n2.Table r n2.Left n2.Cond r1 n2.Aggs n2.Items r2 n2.Limit).Cond with Nodes:=r3}:bG)}:aj),dT bJ 80 l c r3,bx aF 71 b1 HO],fun sg=>[fj fm 51 ((sg 2).h 0).1 ((sg 2).h 0).2 r4,bx aF 71 b ({(aj.mk n2.Op n2.A n2.B n2.Table r n2.Left n2.Cond r1 n2.Aggs n2.Items r2 n2.Limit)with Cond:=({(aj.mk n2.Op n2.A n2.B n2.Table r n2.Left n2.Cond r1 n2.Aggs n2.Items r2 n2.Limit).Cond with Nodes:=r3}:bG)}:aj),dT bJ 80 l c r3,bx aF 71 b1 HO],fun sg=>[fj cj 49 ((sg 5).h 0).1 ((sg 5).h 0).2 r5,fj fm 51 ((sg 2).h 0).1 ((sg 2).h 0).2 r4,bx aF 71 b ({(aj.mk n2.Op n2.A n2.B n2.Table r n2.Left n2.Cond r1 n2.Aggs n2.Items r2 n2.Limit)with Cond:=({(aj.mk n2.Op n2.A n2.B n2.Table r n2.Left n2.Cond r1 n2.Aggs n2.Items r2 n2.Limit).Cond with Nodes:=r3}:bG)}:aj),dT bJ 80 l c r3,bx aF 71 b1 HO]] J mixed J J J J J
    ⟨⟨[⟨2,fun _=>tV (aN b 0),none⟩],_,0,0,J,⟨(fun _=>J),aT⟩,J,J,J,J,J,fun _ sg _ _=>ay J (jN 8 qX J J J)⟩,
    ⟨⟨[⟨41,fun _=>tV (aN b 8),some 0⟩],_,0,0,J,⟨(fun _=>J),aT⟩,J,J,J,J,J,zS (fun sg=>ay J (cg B4 J J oj (.head _) (ht J)))⟩,
    ⟨⟨[⟨42,fun _=>tD (fV fm) (({(aj.mk n2.Op n2.A n2.B n2.Table r n2.Left n2.Cond r1 n2.Aggs n2.Items r2 n2.Limit)with Cond:=({(aj.mk n2.Op n2.A n2.B n2.Table r n2.Left n2.Cond r1 n2.Aggs n2.Items r2 n2.Limit).Cond with Nodes:=r3}:bG)}:aj).Aggs),some 1⟩],_,J,⟨(fun _=>J),aT⟩,J,J,J,fun sg=>ei J (Hn (xs:=[.tmp 42]) (ts:=[tD (fV fm) (({(aj.mk n2.Op n2.A n2.B n2.Table r n2.Left n2.Cond r1 n2.Aggs n2.Items r2 n2.Limit)with Cond:=({(aj.mk n2.Op n2.A n2.B n2.Table r n2.Left n2.Cond r1 n2.Aggs n2.Items r2 n2.Limit).Cond with Nodes:=r3}:bG)}:aj).Aggs)]) abA (Sd _ q_r4) ⟨(ht J),aT⟩)⟩,
    ⟨⟨[⟨2,fun _=>tV (aN b 0),none⟩],_,0,1,J,⟨(fun _=>J),aT⟩,J,J,J,J,J,fun _ sg _ _=>ay J (jN 9 qW J J J)⟩,
    ⟨⟨[⟨44,fun _=>tV (aN b 9),some 3⟩],_,0,1,J,⟨(fun _=>J),aT⟩,J,J,J,J,J,F6 (fun sg=>ay J (cg AS J J mP (.head _) (ht J))) (zS (fun sg=>ay J (cg AS J J mP (.tail _ (.head _)) (ht J))))⟩,
    ⟨⟨[⟨45,fun _=>tD (fV cj) (({(aj.mk n2.Op n2.A n2.B n2.Table r n2.Left n2.Cond r1 n2.Aggs n2.Items r2 n2.Limit)with Cond:=({(aj.mk n2.Op n2.A n2.B n2.Table r n2.Left n2.Cond r1 n2.Aggs n2.Items r2 n2.Limit).Cond with Nodes:=r3}:bG)}:aj).Items),some 4⟩],_,J,⟨(fun _=>J),aT⟩,J,J,J,fun sg=>ei J (Hn (xs:=[.tmp 45]) (ts:=[tD (fV cj) (({(aj.mk n2.Op n2.A n2.B n2.Table r n2.Left n2.Cond r1 n2.Aggs n2.Items r2 n2.Limit)with Cond:=({(aj.mk n2.Op n2.A n2.B n2.Table r n2.Left n2.Cond r1 n2.Aggs n2.Items r2 n2.Limit).Cond with Nodes:=r3}:bG)}:aj).Items)]) abz (Sc _ q_r5) ⟨(ht J),aT⟩)⟩,
    ⟨⟨[⟨2,fun _=>tV (aN b 0),none⟩],_,1,2,J,⟨(fun _=>J),aT⟩,J,J,J,J,J,fun _ sg _ _=>ay J (jN 8 qX J J J)⟩,
    aT⟩⟩⟩⟩⟩⟩⟩ (fun sg=>?_)
   refine(show RG _ _ _ _ [fj cj 49 ((sg 5).h 0).1 ((sg 5).h 0).2 r5,fj fm 51 ((sg 2).h 0).1 ((sg 2).h 0).2 r4,bx aF 71 b ({(aj.mk n2.Op n2.A n2.B n2.Table r n2.Left n2.Cond r1 n2.Aggs n2.Items r2 n2.Limit)with Cond:=({(aj.mk n2.Op n2.A n2.B n2.Table r n2.Left n2.Cond r1 n2.Aggs n2.Items r2 n2.Limit).Cond with Nodes:=r3}:bG)}:aj),dT bJ 80 l c r3,bx aF 71 b1 HO] _ from ?_);refine hT<|tW B4 J (zU _ _) J (ht J) (PZ (ht J))<|zo J (jN 9 qW J J J)<|tW AS J (vX _ _ _) J (ht J) (PZ (ht J))<|av<|ah<|aw<|zo J (jN 8 qX J J J)<|zo J (qO B4 tL (.head _) J (ht J))<|zo J (jA wT (.tail _ (.tail _ (.head _))) (ht J))<|zo J (bI hI)<|av<|aA<|oN (.tail _ (.tail _ (.head _))) fun hN=>bL<|nG<|rm<|hU<|q9<|q9<|nG ?_;refine aU (yh (Z:=fun ls i n3 l1 c1 l2 c2=>(r4.drop i=ls)∧nd ls i n3=some R) (Of:=fun _ i n3 l1 c1 l2 c2=>[bx aF 71 b1 HO,bx lc 71 b (oF n3 (aR l1 c1 n3.Aggs.length) (aR l2 c2 n3.Items.length)),fj fm 51 l1 c1 n3.Aggs,fj cj 49 l2 c2 n3.Items]) (Gf:=fun _ i n3 l1 c1 l2 c2=>[(2,tV (aN b 0)),(4,tV (aN b1 0)),(51,jz r4),(52,bM (i:Int))]) (fun i n3 l1 c1 l2 c2 h=>?_) (fun e tl ih i n3 l1 c1 l2 c2 h=>?_) r4 0 ({({({(aj.mk n2.Op n2.A n2.B n2.Table r n2.Left n2.Cond r1 n2.Aggs n2.Items r2 n2.Limit)with Cond:=({(aj.mk n2.Op n2.A n2.B n2.Table r n2.Left n2.Cond r1 n2.Aggs n2.Items r2 n2.Limit).Cond with Nodes:=r3}:bG)}:aj)with Aggs:=r4}:aj)with Items:=r5}:aj) ((sg 2).h 0).1 ((sg 2).h 0).2 ((sg 5).h 0).1 ((sg 5).h 0).2 ⟨J,h⟩) (bu J)
   ·obtain⟨hx,h⟩:=h
    refine aB<|aw<|zo J (fM J J)<|av<|ah<|bz (ht J) (du hx)<|bv ?_;refine ai (ai (aO ?_));refine ax<|ah<|aw<|zo rfl (jN 9 qW rfl rfl rfl)<|zo rfl (qO AS tK (.tail _ (.head _)) rfl (ht rfl))<|zo rfl (jA xf (.tail _ (.tail _ (.tail _ (.head _)))) (ht rfl))<|zo rfl (bI hI)<|av<|aA<|oN (.tail _ (.tail _ (.tail _ (.head _)))) fun hN1=>bL ?_;refine aU (yh (Z:=fun ls1 i1 n4 l3 c3 l4 c4=>(n3.Items.drop i1=ls1)∧nc ls1 i1 n4=some R) (Of:=fun _ i1 n4 l3 c3 l4 c4=>[bx aF 71 b1 HO,bx lc 71 b (oF n4 (aR l3 c3 n4.Aggs.length) (aR l4 c4 n4.Items.length)),fj fm 51 l3 c3 n4.Aggs,fj cj 49 l4 c4 n4.Items]) (Gf:=fun _ i1 n4 l3 c3 l4 c4=>[(2,tV (aN b 0)),(4,tV (aN b1 0)),(72,jz n3.Items),(73,bM (i1:Int))]) (fun i1 n4 l3 c3 l4 c4 h=>?_) (fun e1 tl1 ih1 i1 n4 l3 c3 l4 c4 h=>?_) n3.Items 0 n3 l1 c1 l2 c2 ⟨J,h⟩) (bu J)
    ·obtain⟨hx1,h⟩:=h
     refine aB<|aw<|zo J (fM J J)<|av<|ah<|bz (ht J) (du hx1)<|bv ?_;refine ai (ai (aO ?_));refine ax<|aw<|hT<|jC<|kq<|jC<|zo rfl (wj (q:=aF) (y:=n4) fK J J J J (.tail _ (.tail _ (.tail _ (.head _)))) (fun _ _ _ ho h=>BG (Bc ho (.tail _ (.head _))) (Bc ho (.head _)) h) (ht J))<|hT<|ap fK J an J (ht J) (ht J)<|aV 4 J<|av<|am<|ba<|ba<|ba ?_;cases so h;exact iX J fK J J J
    ·obtain⟨hx1,h⟩:=h
     refine aB<|aw<|zo J (fM J J)<|av<|ah<|bw (ht J) (di hx1)<|dS<|ah<|aA<|aw<|aG J<|bp J<|av<|bC h fun e2 q_e2 h=>bC h fun r6 q_r6 h=>?_
     refine qw 12 (ts:=[tV (aN b 9),sb l4 c4 n4.Items,bM (i1:Int),tV (aN b 9),sb l4 c4 n4.Items,bM (i1:Int),tV (pU l4 ((i1:Int).toNat*1+0)),tV (pU l4 ((i1:Int).toNat*1+0)),ca (bJ) e2.Nodes,ca (bJ) r6,tV (pU l4 ((i1:Int).toNat*1+0)),tV (pU l4 ((i1:Int).toNat*1+0))]) mixed J J J
      ⟨eM 2 J J J (jN 9 qW J J J),
      ⟨bY 76 0 J J J (qO AS tK (.tail _ (.head _)) J (ht J)),
      ⟨eM 6 J J J (dl J),
      ⟨eM 2 J J J (jN 9 qW J J J),
      ⟨bY 79 3 J J J (qO AS tK (.tail _ (.head _)) J (ht J)),
      ⟨eM 6 J J J (dl J),
      ⟨d8 80 4 81 5 J J J J (cK xf j3 (.tail _ (.tail _ (.tail _ (.head _)))) (ht J) (ht J) q_e2),
      ⟨bY 82 6 J J J (nt (o:=(i1:Int).toNat*1+0) (n:=(i1:Int).toNat*1+0) qn J (.tail _ (.tail _ (.tail _ (.head _)))) q_e2 (ht J) J),
      ⟨bY 83 7 J J J (gq (r:=cj) (i:=(i1:Int)) (foff:=0) AU J J lX J (.tail _ (.tail _ (.tail _ (.head _)))) q_e2 (ht J)),
      ⟨bY 84 8 J J J (aC SL (OR _ q_r6) ⟨(ht J),aT⟩),
      ⟨d8 77 1 78 2 J J J J (cK xf j3 (.tail _ (.tail _ (.tail _ (.head _)))) (ht J) (ht J) q_e2),
      ⟨bY 86 10 J J J (nt (o:=(i1:Int).toNat*1+0) (n:=(i1:Int).toNat*1+0) qn J (.tail _ (.tail _ (.tail _ (.head _)))) q_e2 (ht J) J),
      aT⟩⟩⟩⟩⟩⟩⟩⟩⟩⟩⟩⟩ ?_
     refine kq<|bC h fun st q_st h=>sW AU J ve J q_e2 (so q_st) (ht J) (ht J)<|iH (mE (so q_st)) 77 J<|iH (mE (so q_st)) 80 J<|FN (O' :=[fj cj 49 l4 c4 st,bx aF 71 b1 HO,bx lc 71 b (oF n4 (aR l3 c3 n4.Aggs.length) (aR l4 c4 st.length)),fj fm 51 l3 c3 n4.Aggs]) (by rw [mE (so q_st)])<|aP<|aq<|ax<|au<|zo rfl (mz (cM hx1 hN1) rfl)<|aG rfl<|aP<|cA<|cA<|cA ?_;exact bm (aU (ih1 (i1+1) ({n4 with Items:=st}:aj) l3 c3 l4 c4 ⟨cL hx1,h⟩) (bu J))
   ·obtain⟨hx,h⟩:=h
    refine aB<|aw<|zo J (fM J J)<|av<|ah<|bw (ht J) (di hx)<|dS<|ah<|aA<|aw<|aG J<|bp J<|av<|bC h fun e3 q_e3 h=>bC h fun r7 q_r7 h=>?_
    refine qw 14 (ts:=[tV (aN b 8),sb l1 c1 n3.Aggs,bM (i:Int),tV (aN b 8),sb l1 c1 n3.Aggs,bM (i:Int),tV (pU l1 ((i:Int).toNat*2+0)),tV (pU l1 ((i:Int).toNat*2+1)),tV (pU l1 ((i:Int).toNat*2+1)),ca (bJ) e3.Arg.Nodes,ca (bJ) r7,tV (pU l1 ((i:Int).toNat*2+0)),tV (pU l1 ((i:Int).toNat*2+1)),tV (pU l1 ((i:Int).toNat*2+1))]) mixed J J J
     ⟨eM 2 J J J (jN 8 qX J J J),
     ⟨bY 55 0 J J J (qO B4 tL (.tail _ (.head _)) J (ht J)),
     ⟨eM 5 J J J (dl J),
     ⟨eM 2 J J J (jN 8 qX J J J),
     ⟨bY 58 3 J J J (qO B4 tL (.tail _ (.head _)) J (ht J)),
     ⟨eM 5 J J J (dl J),
     ⟨d8 59 4 60 5 J J J J (cK wT ug (.tail _ (.tail _ (.head _))) (ht J) (ht J) q_e3),
     ⟨bY 61 6 J J J (nt (o:=(i:Int).toNat*2+0) (n:=(i:Int).toNat*2+1) Co J (.tail _ (.tail _ (.head _))) q_e3 (ht J) J),
     ⟨bY 62 7 J J J (nt (o:=(i:Int).toNat*2+1) (n:=(i:Int).toNat*2+1) qn J (.tail _ (.tail _ (.head _))) q_e3 (ht J) J),
     ⟨bY 63 8 J J J (gq (r:=fm) (i:=(i:Int)) (foff:=1) AU J J (vw vx lX) J (.tail _ (.tail _ (.head _))) q_e3 (ht J)),
     ⟨bY 64 9 J J J (aC SL (OR _ q_r7) ⟨(ht J),aT⟩),
     ⟨d8 56 1 57 2 J J J J (cK wT ug (.tail _ (.tail _ (.head _))) (ht J) (ht J) q_e3),
     ⟨bY 66 11 J J J (nt (o:=(i:Int).toNat*2+0) (n:=(i:Int).toNat*2+1) Co J (.tail _ (.tail _ (.head _))) q_e3 (ht J) J),
     ⟨bY 67 12 J J J (nt (o:=(i:Int).toNat*2+1) (n:=(i:Int).toNat*2+1) qn J (.tail _ (.tail _ (.head _))) q_e3 (ht J) J),
     aT⟩⟩⟩⟩⟩⟩⟩⟩⟩⟩⟩⟩⟩⟩ ?_
    refine hT<|bC h fun st1 q_st1 h=>sW AU J (GW vx JR ve) J q_e3 (so q_st1) (ht J) (ht J)<|iH (mE (so q_st1)) 56 J<|iH (mE (so q_st1)) 59 J<|FN (O' :=[fj fm 51 l1 c1 st1,bx aF 71 b1 HO,bx lc 71 b (oF n3 (aR l1 c1 st1.length) (aR l2 c2 n3.Items.length)),fj cj 49 l2 c2 n3.Items]) (by rw [mE (so q_st1)])<|aP<|aq<|ax<|au<|zo rfl (mz (cM hx hN) rfl)<|aG rfl<|aP<|cA<|bD<|cA<|cA ?_;exact bm (aU (ih (i+1) ({n3 with Aggs:=st1}:aj) l1 c1 l2 c2 ⟨cL hx,h⟩) (bu J))
  ·skip
   refine aw<|zo J (jN 2 qm J J J)<|zo J (cg cx J J kI (.head _) (ht J))<|zo J (jq (ht J) hI)<|av<|cU h J (fun h=>?_) (fun h=>?_)
   ·refine au<|zo J (jN 2 qm J J J)<|zo J (cg cx J J kI (.head _) (ht J))<|aG J<|zo J (oa (ht J) (ht J))<|zo J (jN 2 qm J J J)<|ap cx J td J (ht J) (ht J)<|aP ?_;exact cw (K1 (aj.mk n1.Op n1.A (IntKind.i64.wrap (n1.B+by1)) n1.Table n1.Kinds n1.Left n1.Cond n1.Keys n1.Aggs n1.Items n1.Order n1.Limit) h) (bu J)
   ·refine bA ?_;exact cw (K1 n1 h) (bu J)
 ·skip
  refine aw<|zo J (jN 1 ju J J J)<|zo J (cg cx J J dN (.tail _ (.head _)) (ht J))<|zo J (jq (ht J) hI)<|av<|cU h J (fun h=>?_) (fun h=>?_)
  ·refine au<|zo J (jN 1 ju J J J)<|zo J (cg cx J J dN (.tail _ (.head _)) (ht J))<|aG J<|zo J (oa (ht J) (ht J))<|zo J (jN 1 ju J J J)<|bF<|ap cx J v7 J (ht J) (ht J)<|aP ?_;exact cw (K (aj.mk n.Op (IntKind.i64.wrap (n.A+by1)) n.B n.Table n.Kinds n.Left n.Cond n.Keys n.Aggs n.Items n.Order n.Limit) h) (bu J)
  ·refine bA<|bD ?_;exact cw (K n h) (bu J)

theorem Yw(l:bc)(place:Int){R:bc×Int}(h:tF l place=some R):aX aQ 60 [tD bP l,bM place] (tT [tD bP R.1,bM R.2]):=by
 refine aX.of Tryz.func60 J J J fun w0 S0=>aw<|zo J (jm J)<|aW (r:=bP) (x:=wW) hY (fun _=>kZ _) J fun b=>zo J (cD)<|av<|aw<|zo J (bB hY J J)<|bC h fun r q_r h=>zo J (aC Y7 (Ng _ q_r) ⟨(ht J),aT⟩)<|aG J<|zo J (gp J J)<|zo J (gp J J)<|zo J (gp J J)<|bp J<|bp J<|bp J<|av<|ah<|aA ?_;refine aw<|aG J<|zo J (gh (ht J))<|bp J<|av<|cU h J (fun h=>?_) (fun h=>?_)
 ·refine aw<|zo J (bU (y:=wW) hY RV kZ (J))<|ap hY J an J (ht J) (ht J)<|zo J (cD)<|av<|am ?_;refine aD (ae ?_);refine bk 4 J ?_;cases so h;exact bR J J ⟨bq hY J J J,aZ J,aT⟩
 ·refine aw<|aG J<|zo J (gi (ht J) hI)<|aG J<|gz J J (fun hg=>dl J)<|gz J J (fun hg=>df lZ kH J J)<|gz J J (fun hg=>bO vc J J (bN J hg))<|gz J J (fun hg=>cW qE (bN J hg))<|gz J J (fun hg=>jq (bN J hg) (bN J hg))<|zo J (xo J J)<|bp J<|av<|cU h J (fun h=>?_) (fun h=>?_)
  ·refine aw<|zo J (bU (y:=wW) hY RV kZ (J))<|ap hY J an J (ht J) (ht J)<|zo J (cD)<|av<|am ?_;refine aD (ae ?_);refine bk 4 J ?_;cases so h;exact bR J J ⟨bq hY J J J,aZ J,aT⟩
  ·refine bA<|aq<|ax<|aw<|bQ true aF 71<|aW (r:=lx) (x:=mN wW (aR none 0 (To.length))) hY D6 J fun b1=>av<|ah<|aw<|aG J<|zo J (Iw (ht J))<|zo J (df uD Bp J J)<|zo J (bB d9 J J)<|aG J<|bC h fun e q_e h=>zo J (my gT cx J J J q_e)<|zo J (bB cx J J)<|bp J<|av<|aA ?_;refine bL<|hU<|hU<|q9 ?_;refine aU (Pn (Z:=fun n i out l1 c=>nv l place e n i out=some R) (Of:=fun i out l1 c=>[bx bP 24 b wW,bx lx 24 b1 (mN out (aR l1 c out.Nodes.length)),dT aF 71 l1 c out.Nodes]) (Gf:=fun i out l1 c=>[(1,bM place),(2,bK bP l),(4,tV (aN b 0)),(6,bK bn r.1),(9,tV (aN b1 0)),(10,bM i)]) (fun i out l1 c h=>nn h) (fun n ih i out l1 c h=>?_) iz e ({wW with Nodes:=To}:bc) none 0 h) (bu J);refine aB<|ah<|aw<|aG J<|aG J<|zo J (n9 (ht J) (ht J))<|av<|cU h J (fun h=>?_) (fun h=>?_)
   ·refine dS<|ah<|aA<|bC h fun e1 q_e1 h=>bC h fun r1 q_r1 h=>?_
    refine qw 17 (ts:=[tV (aN b1 0),tO aF l1 c out.Nodes,bK (fV aF) l.Nodes,ca (aF) l.Nodes,bM i,bK aF e1,tD aF e1,bK bn r.1,bK bn r.1,bK nP r.1.first,mv r.1.first,bM place,bK cd e,bM e,bM (IntKind.i64.wrap (0-e)),tD aF r1,ca (aF) ([r1])]) mixed J J J
     ⟨eM 9 J J J (jN 0 lZ J J J),
     ⟨bY 44 0 J J J (sO vc oI (.tail _ (.head _)) (.tail _ (.tail _ (.head _))) J (ht J)),
     ⟨eM 2 J J J (df lZ kH J J),
     ⟨bY 46 2 J J J (bB vc J J),
     ⟨eM 10 J J J (dl J),
     ⟨d8 47 3 48 4 J J J J (my qE fK J J J q_e1),
     ⟨bY 49 5 J J J (bB fK J J),
     ⟨eM 6 J J J (dl J),
     ⟨bY 51 7 J J J (Iw (ht J)),
     ⟨bY 52 8 J J J (df uD Bp J J),
     ⟨bY 53 9 J J J (bB d9 J J),
     ⟨eM 1 J J J (dl J),
     ⟨d8 54 10 55 11 J J J J (my gT cx J J J q_e),
     ⟨bY 56 12 J J J (bB cx J J),
     ⟨bY 57 13 J J J (Iy (ht J)),
     ⟨d8 50 6 58 14 J J J J (aC SP (I5 _ _ q_r1) ⟨(ht J),(ht J),aT⟩),
     ⟨bY 59 15 J J J (aS (r:=aF) (ys:=[r1]) (xs:=[.tmp 59]) qE fK J J J J J ⟨(ht J),aT⟩),
     aT⟩⟩⟩⟩⟩⟩⟩⟩⟩⟩⟩⟩⟩⟩⟩⟩⟩ ?_
    refine hT<|bC h fun l2 q_l2 h=>As fK J J J J qE J J (ht J) (ht J) q_l2 fun l3 c1=>zo J (jN 0 lZ J J J)<|hT<|tW vc J (nV _ _ _) J (ht J) (PZ (H5 (ht J)))<|aP<|aq<|ax<|au<|aG rfl<|zo rfl (oa (ht rfl) hI)<|bp rfl<|aP<|bD<|bD<|aK ?_;exact bm (aU (ih (IntKind.i64.wrap (i+(1:Int))) ({out with Nodes:=l2}:bc) l3 c1 h) (bu J))
   ·refine bv ?_;refine ai (ai (aO ?_));refine ax<|aw<|hT<|zo rfl (wj (q:=bP) (y:=out) hY J J J J (.tail _ (.tail _ (.head _))) (fun _ _ _ ho h=>r0 (Bc ho (.head _)) h) (ht J))<|bF<|ap hY J an J (ht J) (ht J)<|zo J (cD)<|av<|am<|bk 4 J<|ba<|ba ?_;cases so h;exact bR J J ⟨bq hY J J J,aZ J,aT⟩

theorem I3(l:bc)(b:dx){R:(List (List ac))×Int}(h:hJ l b=some R):aX aQ 15 [tD bP l,tD iS b] (tT [ca (cY) R.1,bM R.2]):=by
 refine aX.of Tryz.func15 J J J fun w0 S0=>aw<|zo J (jm J)<|zo J (jm J)<|zo J (aM (show aI _ _ _ uN from jQ))<|zo J (cD)<|av<|ah<|aw<|zo J (bB hY J J)<|bC h fun r q_r h=>zo J (aC V5 (IU _ q_r) ⟨(ht J),aT⟩)<|aG J<|zo J (gp J J)<|zo J (gp J J)<|bp J<|bp J<|av<|aw ?_;refine aG J<|zo J (s4 J)<|av<|cU h J (fun h=>?_) (fun h=>?_)
 ·refine aw<|aG J<|zo J (aM (show aI _ _ _ uN from jQ))<|bp J<|av<|am<|ae ?_;cases so h;exact cC J J J
 ·refine dS<|ah<|aw<|zo J (bB hY J J)<|zo J (bB Ek J J)<|bC h fun r1 q_r1 h=>zo J (aC ac1 (YQ _ _ q_r1) ⟨(ht J),(ht J),aT⟩)<|zo J (gh (ht J))<|av<|cU h J (fun h=>?_) (fun h=>?_)
  ·refine aw<|zo J (aM (show aI _ _ _ uN from jQ))<|zo J (cD)<|av<|am<|ae ?_;cases so h;exact cC J J J
  ·refine dS<|aw<|zo J (bB Ek J J)<|zo J (bU (r:=rH ea [(1,.slice none 0 0),(2,.slice none 0 0)]) (y:=(⟨b,[],[]⟩:cS)) aci acr (zH Xp ⟨J,J,aT⟩) (⟨_,_,_,_,_,J,Wu Ra J J,J,(ht J),J⟩))<|wE (ht J) J fun b1=>bQ true dO 32<|bQ true cd 3 ?_;refine(show RG _ _ _ _ [dT cd 3 none 0 u7,dT dO 32 none 0 ([]:List (List (List ac))),bx (rH ea [(1,aR none 0 ([]:List (List (List ac))).length),(2,aR none 0 u7.length)]) 96 b1 (⟨b,[],[]⟩:cS)] _ from ?_);refine bp J<|av<|aw<|Aq (wY (fun y:(cS→aj→Option (((List (List ac))×Int)×cS))=>dJ aQ pE (jr b1) qy y)) nN J fun b2=>aG J ?_
   refine qt ((show bS _ _ _ _ (dJ aQ pE (jr b1) qy Xy)from jO acT (ht J) (fun c x R h i=>by
     obtain⟨r,h1,rfl⟩:=vS.1 h
     exact iG (Ob:=fun j=>jr b1 c j) (i:=i) (aai _ i c _ h1)))) J ?_
   refine eE (γ:=(fun y:(cS→aj→Option (((List (List ac))×Int)×cS))=>dJ aQ pE (jr b1) qy y)) (y:=Xy) AM (d5 kY) (ht J) (oe hI) (ht J) fun os=>aG J ?_
   refine qt ((show bS _ _ _ _ (dJ aQ pE (jr b1) qy Xx)from jO acS (ht J) (fun c x R h i=>by
     obtain⟨r,h1,rfl⟩:=vS.1 h
     exact iG (Ob:=fun j=>jr b1 c j) (i:=i) (aah _ i c _ h1)))) J ?_
   refine eE (γ:=(fun y:(cS→aj→Option (((List (List ac))×Int)×cS))=>dJ aQ pE (jr b1) qy y)) (y:=Xx) AM (d5 kY) (ht J) (oe hI) (ht J) fun os1=>aG J ?_
   refine qt ((show bS _ _ _ _ (dJ aQ pE (jr b1) qy XC)from jO acR (ht J) (fun c x R h i=>by
     obtain⟨r,h1,rfl⟩:=vS.1 h
     exact iG (Ob:=fun j=>jr b1 c j) (i:=i) (aag _ i c _ h1)))) J ?_
   refine eE (γ:=(fun y:(cS→aj→Option (((List (List ac))×Int)×cS))=>dJ aQ pE (jr b1) qy y)) (y:=XC) AM (d5 kY) (ht J) (oe hI) (ht J) fun os2=>aG J ?_
   refine qt ((show bS _ _ _ _ (dJ aQ pE (jr b1) qy Xz)from jO acQ (ht J) (fun c x R h i=>by
     obtain⟨r,h1,rfl⟩:=vS.1 h
     exact iG (Ob:=fun j=>jr b1 c j) (i:=i) (aaf _ i c _ h1)))) J ?_
   refine eE (γ:=(fun y:(cS→aj→Option (((List (List ac))×Int)×cS))=>dJ aQ pE (jr b1) qy y)) (y:=Xz) AM (d5 kY) (ht J) (oe hI) (ht J) fun os3=>aG J ?_
   refine qt ((show bS _ _ _ _ (dJ aQ pE (jr b1) qy XD)from jO acP (ht J) (fun c x R h i=>by
     obtain⟨r,h1,rfl⟩:=vS.1 h
     exact iG (Ob:=fun j=>jr b1 c j) (i:=i) (aae _ i c _ h1)))) J ?_
   refine eE (γ:=(fun y:(cS→aj→Option (((List (List ac))×Int)×cS))=>dJ aQ pE (jr b1) qy y)) (y:=XD) AM (d5 kY) (ht J) (oe hI) (ht J) fun os4=>aG J ?_
   refine qt ((show bS _ _ _ _ (dJ aQ pE (jr b1) qy XE)from jO acO (ht J) (fun c x R h i=>by
     obtain⟨r,h1,rfl⟩:=vS.1 h
     exact iG (Ob:=fun j=>jr b1 c j) (i:=i) (aad _ i c _ h1)))) J ?_
   refine eE (γ:=(fun y:(cS→aj→Option (((List (List ac))×Int)×cS))=>dJ aQ pE (jr b1) qy y)) (y:=XE) AM (d5 kY) (ht J) (oe hI) (ht J) fun os5=>aG J ?_
   refine qt ((show bS _ _ _ _ (dJ aQ pE (jr b1) qy XB)from jO acN (ht J) (fun c x R h i=>by
     obtain⟨r,h1,rfl⟩:=vS.1 h
     exact iG (Ob:=fun j=>jr b1 c j) (i:=i) (aac _ i c _ h1)))) J ?_
   refine eE (γ:=(fun y:(cS→aj→Option (((List (List ac))×Int)×cS))=>dJ aQ pE (jr b1) qy y)) (y:=XB) AM (d5 kY) (ht J) (oe hI) (ht J) fun os6=>aG J ?_
   refine qt ((show bS _ _ _ _ (dJ aQ pE (jr b1) qy XA)from jO acM (ht J) (fun c x R h i=>by
     obtain⟨r,h1,rfl⟩:=vS.1 h
     exact iG (Ob:=fun j=>jr b1 c j) (i:=i) (aab _ i c _ h1)))) J ?_
   refine eE (γ:=(fun y:(cS→aj→Option (((List (List ac))×Int)×cS))=>dJ aQ pE (jr b1) qy y)) (y:=XA) AM (d5 kY) (ht J) (oe hI) (ht J) fun os7=>aG J<|bp J<|av<|ah<|aw<|zo J (df lZ kH J J)<|zo J (bB vc J J)<|zo J (jg qE J)<|zo J (bI hI)<|av<|aA<|be (k:=52) J fun hN=>bL<|hU<|q9<|nG<|nG ?_;refine aU (yh (Z:=fun ls i ob l1 c l2 c1=>(l.Nodes.drop i=ls)∧fU l ls i ob=some R) (Of:=fun _ i ob l1 c l2 c1=>[nO (wY (fun y:(cS→aj→Option (((List (List ac))×Int)×cS))=>dJ aQ pE (jr b1) qy y)) nN b2 none os7 QN,bx (rH ea [(1,aR l1 c ob.rows.length),(2,aR l2 c1 ob.width.length)]) 96 b1 ob,dT dO 32 l1 c ob.rows,dT cd 3 l2 c1 ob.width]) (Gf:=fun _ i ob l1 c l2 c1=>[(2,bK bP l),(8,tV (aN b1 0)),(9,tV (qP b2)),(52,ca (aF) l.Nodes),(53,jz l.Nodes),(54,bM (i:Int))]) (fun i ob l1 c l2 c1 h=>?_) (fun e tl ih i ob l1 c l2 c1 h=>?_) l.Nodes 0 (⟨b,[],[]⟩:cS) none 0 none 0 ⟨J,h⟩) (bu J)
   ·obtain⟨hx,h⟩:=h
    refine aB<|aw<|zo J (fM J J)<|av<|ah<|bz (ht J) (du hx)<|bv ?_;refine ai (ai (aO ?_));refine ax<|ah<|bC h fun e1 q_e1 h=>?_
    refine c9 (ts:=[_,_,_,_,_,_,_,_,_,_,_,_,_,_]) mixed J J
     ⟨eM 8 J J J (dl J),
     ⟨bY 119 0 J J J (dB (ht J)),
     ⟨bY 120 1 J J J (jN 1 qV J J J),
     ⟨bY 121 2 J J J (dd vb J (.tail _ (.head _)) (.tail _ (.tail _ (.head _))) (ht J)),
     ⟨eM 8 J J J (dl J),
     ⟨bY 123 4 J J J (dB (ht J)),
     ⟨bY 124 5 J J J (jN 1 qV J J J),
     ⟨bY 125 6 J J J (dd vb J (.tail _ (.head _)) (.tail _ (.tail _ (.head _))) (ht J)),
     ⟨bY 126 7 J J J (cW oA (kz (ht J))),
     ⟨bY 127 8 J J J (iQ (ht J) hI),
     ⟨d8 122 3 128 9 J J J J (br oA gF J (kz (ht J)) (ht J) q_e1),
     ⟨bY 129 10 J J J (bB gF J J),
     ⟨bY 130 11 J J J (u8 J),
     ⟨Pv J J (cD),
     aT⟩⟩⟩⟩⟩⟩⟩⟩⟩⟩⟩⟩⟩⟩ ?_
    refine ax<|am<|ba<|ba<|ba<|ba ?_;cases so h;exact cC J J J
   ·obtain⟨hx,h⟩:=h
    refine aB<|aw<|zo J (fM J J)<|av<|ah<|bw (ht J) (di hx)<|dS<|ah<|aA<|aw<|aG J<|zo J (my qE fK J J J (da hx))<|zo J (bB fK J J)<|aW (r:=aF) (x:=HO) fK (fun _=>lK _) J fun b3=>bp J<|ap fK J an J (ht J) (ht J)<|aV 11 J<|av<|ah ?_;refine au<|aG J<|zo J (df Ah py J J)<|zo J (bB cx J J)<|zo J (MI (γ:=(fun y:(cS→aj→Option (((List (List ac))×Int)×cS))=>dJ aQ pE (jr b1) (fun(x:(List (List ac))×Int)=>tT [tD dO x.1,tD cd x.2]) y)) (z:=fun _ _=>none) AM (d5 kY) ace (fun _=>GO) (.head _) (ht J) (oe (ht J)))<|zo J (bB fK J J)<|bC h fun r2 q_r2 h=>Ar (EffOK.fr3 (EffOK.fr3 (EffOK.fr3 (Bz (args:=pE) (Ob:=jr b1) (res:=qy) (f:=((pw QN e.Op).getD (fun _ _=>none))) (x:=ob) (y:=((e):aj)) (R:=r2) (i:=(Wx [(l1,c),(l2,c1)])) (xs:=[.tmp 64]) _ J (ht J) q_r2 ⟨(ht J),aT⟩ (fun _=>J))))) J fun i1=>?_;refine(show RG _ _ _ _ [bx (rH ea [(1,aR (i1.h 0).1 (i1.h 0).2 r2.2.rows.length),(2,aR (i1.h 1).1 (i1.h 1).2 r2.2.width.length)]) 96 b1 r2.2,dT dO 32 (i1.h 0).1 (i1.h 0).2 r2.2.rows,dT cd 3 (i1.h 1).1 (i1.h 1).2 r2.2.width,nO (wY (fun y:(cS→aj→Option (((List (List ac))×Int)×cS))=>dJ aQ pE (jr b1) qy y)) nN b2 none os7 QN] ((65,tT [ca (cY) r2.1.1,bM r2.1.2])::_)from ?_);refine aG J<|zo J (gp J J)<|zo J (gp J J)<|bp J<|bp J<|av ?_;refine kw (Z:=fun e2=>ow l (fU l tl) i e r2 e2=some R) (Of:=fun e2=>[nO (wY (fun y:(cS→aj→Option (((List (List ac))×Int)×cS))=>dJ aQ pE (jr b1) qy y)) nN b2 none os7 QN,bx (rH ea [(1,aR (i1.h 0).1 (i1.h 0).2 r2.2.rows.length),(2,aR (i1.h 1).1 (i1.h 1).2 r2.2.width.length)]) 96 b1 r2.2,dT dO 32 (i1.h 0).1 (i1.h 0).2 r2.2.rows,dT cd 3 (i1.h 1).1 (i1.h 1).2 r2.2.width]) (Gf:=fun e2=>[(2,bK bP l),(8,tV (aN b1 0)),(9,tV (qP b2)),(10,bM (i:Int)),(11,bK aF e),(12,ca (cY) r2.1.1),(13,bM e2),(52,ca (aF) l.Nodes),(53,jz l.Nodes),(54,bM (i:Int))]) (fun e2 h=>?_) (fun K=>?_)
    ·skip
     refine ah<|aw<|aG J<|zo J (s4 J)<|av<|cU h J (fun h=>?_) (fun h=>?_)
     ·refine aw<|aG J<|zo J (aM (show aI _ _ _ uN from jQ))<|bp J<|av<|am ?_;refine ae (aD (ae (ae (aD (ae ?_)))));refine ba<|ba<|ba<|ba ?_;cases so h;exact cC J J J
     ·refine dS ?_;refine kw (Z:=fun rows=>ov l (fU l tl) i r2 rows=some R) (Of:=fun rows=>[nO (wY (fun y:(cS→aj→Option (((List (List ac))×Int)×cS))=>dJ aQ pE (jr b1) qy y)) nN b2 none os7 QN,bx (rH ea [(1,aR (i1.h 0).1 (i1.h 0).2 r2.2.rows.length),(2,aR (i1.h 1).1 (i1.h 1).2 r2.2.width.length)]) 96 b1 r2.2,dT dO 32 (i1.h 0).1 (i1.h 0).2 r2.2.rows,dT cd 3 (i1.h 1).1 (i1.h 1).2 r2.2.width]) (Gf:=fun rows=>[(2,bK bP l),(8,tV (aN b1 0)),(9,tV (qP b2)),(10,bM (i:Int)),(12,ca (cY) rows),(52,ca (aF) l.Nodes),(53,jz l.Nodes),(54,bM (i:Int))]) (fun rows h=>?_) (fun K1=>?_)
      ·skip
       refine aw<|zo J (bB hY J J)<|aG J<|bC h fun r3 q_r3 h=>zo J (aC acL (Yw _ _ q_r3) ⟨(ht J),(ht J),aT⟩)<|aG J<|zo J (gp J J)<|zo J (gp J J)<|aW (r:=bP) (x:=wW) hY (fun _=>kZ _) J fun b4=>ap hY J an J (ht J) (ht J)<|aV 14 J<|bp J<|av<|aw<|zo J (bB hY J J)<|bC h fun r4 q_r4 h=>zo J (aC ac0 (YF _ q_r4) ⟨(ht J),aT⟩)<|aG J<|zo J (gp J J)<|zo J (gp J J)<|bp J ?_;refine bp J<|av<|bC h fun l3 q_l3 h=>bC h fun l4 q_l4 h=>?_
       refine o9 20 [tc (tV (aN b1 0)),tc (tV (aN b1 0)),tc (tV (aN b1 0)),tc (tV (aN b1 0)),tc (tV (aN b1 1)),tc (tO dO (i1.h 0).1 (i1.h 0).2 r2.2.rows),tc (ca (cY) rows),tc (ca (dO) ([rows])),([8],fun s=>tO dO ((s.getD 0 pS).h 0).1 ((s.getD 0 pS).h 0).2 l3),tc (tV (aN b1 0)),tc (tV (aN b1 0)),tc (tV (aN b1 2)),tc (tO cd (i1.h 1).1 (i1.h 1).2 r2.2.width),tc (mv r4.1),tc (jz r4.1),tc (mv ([(r4.1.length:Int)])),([16],fun s=>tO cd ((s.getD 0 pS).h 0).1 ((s.getD 0 pS).h 0).2 l4),tc (tV (aN b1 0)),tc (tV (aN b1 1)),tc (Dq)] [false,false,false,false,false,false,false,false,true,false,false,false,false,false,false,false,true,false,false,true] [fun _=>[nO (wY (fun y:(cS→aj→Option (((List (List ac))×Int)×cS))=>dJ aQ pE (jr b1) qy y)) nN b2 none os7 QN,bx (rH ea [(1,aR (i1.h 0).1 (i1.h 0).2 r2.2.rows.length),(2,aR (i1.h 1).1 (i1.h 1).2 r2.2.width.length)]) 96 b1 r2.2,dT dO 32 (i1.h 0).1 (i1.h 0).2 r2.2.rows,dT cd 3 (i1.h 1).1 (i1.h 1).2 r2.2.width],fun sg=>[dT dO 32 ((sg 8).h 0).1 ((sg 8).h 0).2 l3,nO (wY (fun y:(cS→aj→Option (((List (List ac))×Int)×cS))=>dJ aQ pE (jr b1) qy y)) nN b2 none os7 QN,bx (rH ea [(1,aR (i1.h 0).1 (i1.h 0).2 r2.2.rows.length),(2,aR (i1.h 1).1 (i1.h 1).2 r2.2.width.length)]) 96 b1 r2.2,dT cd 3 (i1.h 1).1 (i1.h 1).2 r2.2.width],fun sg=>[dT cd 3 ((sg 16).h 0).1 ((sg 16).h 0).2 l4,dT dO 32 ((sg 8).h 0).1 ((sg 8).h 0).2 l3,nO (wY (fun y:(cS→aj→Option (((List (List ac))×Int)×cS))=>dJ aQ pE (jr b1) qy y)) nN b2 none os7 QN,bx (rH ea [(1,aR (i1.h 0).1 (i1.h 0).2 r2.2.rows.length),(2,aR (i1.h 1).1 (i1.h 1).2 r2.2.width.length)]) 96 b1 r2.2],fun sg=>[bx (rH ea [(1,aR ((sg 8).h 0).1 ((sg 8).h 0).2 l3.length),(2,aR (i1.h 1).1 (i1.h 1).2 r2.2.width.length)]) 96 b1 ({r2.2 with rows:=l3}:cS),dT cd 3 ((sg 16).h 0).1 ((sg 16).h 0).2 l4,dT dO 32 ((sg 8).h 0).1 ((sg 8).h 0).2 l3,nO (wY (fun y:(cS→aj→Option (((List (List ac))×Int)×cS))=>dJ aQ pE (jr b1) qy y)) nN b2 none os7 QN]] J mixed J J J J J
        ⟨⟨[⟨8,fun _=>tV (aN b1 0),none⟩],_,0,2,J,⟨(fun _=>J),aT⟩,J,J,J,J,J,fun _ sg _ _=>ay J (dl J)⟩,
        ⟨⟨[⟨8,fun _=>tV (aN b1 0),none⟩],_,0,3,J,⟨(fun _=>J),aT⟩,J,J,J,J,J,fun _ sg _ _=>ay J (dl J)⟩,
        ⟨⟨[⟨8,fun _=>tV (aN b1 0),none⟩],_,0,0,J,⟨(fun _=>J),aT⟩,J,J,J,J,J,fun _ sg _ _=>ay J (dl J)⟩,
        ⟨⟨[⟨99,fun _=>tV (aN b1 0),some 2⟩],_,0,0,J,⟨(fun _=>J),aT⟩,J,J,J,J,J,fun _ sg _ _=>ay J (dB (ht J))⟩,
        ⟨⟨[⟨100,fun _=>tV (aN b1 0),some 3⟩],_,0,0,J,⟨(fun _=>J),aT⟩,J,J,J,J,J,fun _ sg _ _=>ay J (jN 1 qV J J J)⟩,
        ⟨⟨[⟨101,fun _=>tV (aN b1 1),some 4⟩],_,0,0,J,⟨(fun _=>J),aT⟩,J,J,J,J,J,zS (fun sg=>ay J (dd vb J (.tail _ (.head _)) (.tail _ (.tail _ (.head _))) (ht J)))⟩,
        ⟨⟨[⟨12,fun _=>tD dO rows,none⟩],_,0,0,J,⟨(fun _=>J),aT⟩,J,J,J,J,J,fun _ sg _ _=>ay J (dl J)⟩,
        ⟨⟨[⟨103,fun _=>tD dO rows,some 6⟩],_,0,0,J,⟨(fun _=>J),aT⟩,J,J,J,J,J,fun _ sg _ _=>ay J (aS (r:=dO) (ys:=[rows]) (xs:=[.tmp 103]) oA gF J J J J J ⟨(ht J),aT⟩)⟩,
        ⟨⟨[⟨102,fun _=>tO dO (i1.h 0).1 (i1.h 0).2 r2.2.rows,some 5⟩,⟨104,fun _=>tD (fV dO) ([rows]),some 7⟩],_,J,⟨(fun _=>J),(fun _=>J),aT⟩,J,J,J,fun sg=>ei J (EffOK.fr2 (uF gF J J J J oA J (ht J) (ht J) q_l3))⟩,
        ⟨⟨[⟨8,fun _=>tV (aN b1 0),none⟩],_,0,1,J,⟨(fun _=>J),aT⟩,J,J,J,J,J,fun _ sg _ _=>ay J (dl J)⟩,
        ⟨⟨[⟨106,fun _=>tV (aN b1 0),some 9⟩],_,0,1,J,⟨(fun _=>J),aT⟩,J,J,J,J,J,fun _ sg _ _=>ay J (dB (ht J))⟩,
        ⟨⟨[⟨107,fun _=>tV (aN b1 0),some 10⟩],_,0,1,J,⟨(fun _=>J),aT⟩,J,J,J,J,J,fun _ sg _ _=>ay J (jN 2 MZ J J J)⟩,
        ⟨⟨[⟨108,fun _=>tV (aN b1 2),some 11⟩],_,0,1,J,⟨(fun _=>J),aT⟩,J,J,J,J,J,F6 (fun sg=>ay J (dd d9 J (.tail _ (.head _)) (.tail _ (.tail _ (.tail _ (.head _)))) (ht J))) (zS (fun sg=>ay J (dd d9 J (.tail _ (.tail _ (.head _))) (.tail _ (.tail _ (.tail _ (.head _)))) (ht J))))⟩,
        ⟨⟨[⟨16,fun _=>tD xp r4.1,none⟩],_,0,1,J,⟨(fun _=>J),aT⟩,J,J,J,J,J,fun _ sg _ _=>ay J (dl J)⟩,
        ⟨⟨[⟨110,fun _=>tD xp r4.1,some 13⟩],_,0,1,J,⟨(fun _=>J),aT⟩,J,J,J,J,J,fun _ sg _ _=>ay J (jg gT J)⟩,
        ⟨⟨[⟨111,fun _=>tD cd (r4.1.length:Int),some 14⟩],_,0,1,J,⟨(fun _=>J),aT⟩,J,J,J,J,J,fun _ sg _ _=>ay J (aS (r:=cd) (ys:=[(r4.1.length:Int)]) (xs:=[.tmp 111]) gT cx J J J J J ⟨(ht J),aT⟩)⟩,
        ⟨⟨[⟨109,fun _=>tO cd (i1.h 1).1 (i1.h 1).2 r2.2.width,some 12⟩,⟨112,fun _=>tD xp ([(r4.1.length:Int)]),some 15⟩],_,J,⟨(fun _=>J),(fun _=>J),aT⟩,J,J,J,fun sg=>ei J (EffOK.fr3 (uF cx J J J J gT J (ht J) (ht J) q_l4))⟩,
        ⟨⟨[⟨97,fun _=>tV (aN b1 0),some 0⟩],_,2,2,J,⟨(fun _=>J),aT⟩,J,J,J,J,J,fun _ sg _ _=>ay J (dB (ht J))⟩,
        ⟨⟨[⟨114,fun _=>tV (aN b1 0),some 17⟩],_,2,2,J,⟨(fun _=>J),aT⟩,J,J,J,J,J,fun _ sg _ _=>ay J (jN 1 qV J J J)⟩,
        ⟨⟨[⟨115,fun _=>tV (aN b1 1),some 18⟩,⟨105,fun sg=>tO dO ((sg 8).h 0).1 ((sg 8).h 0).2 l3,some 8⟩],_,J,⟨(fun _=>J),(fun _=>J),aT⟩,J,J,J,fun sg=>ei J (EffOK.fr3 (wt (hs' :=[(1,aR ((sg 8).h 0).1 ((sg 8).h 0).2 l3.length),(2,aR (i1.h 1).1 (i1.h 1).2 r2.2.width.length)]) (u:=aR ((sg 8).h 0).1 ((sg 8).h 0).2 l3.length) vb J J Q9 J ⟨.inl ⟨J,J,J⟩,.inr ⟨J,J⟩,aT⟩ (ht J) (kz (ht J)) (H5 (ht J))))⟩,
        aT⟩⟩⟩⟩⟩⟩⟩⟩⟩⟩⟩⟩⟩⟩⟩⟩⟩⟩⟩⟩ (fun sg=>?_)
       refine(show RG _ _ _ _ [bx (rH ea [(1,aR ((sg 8).h 0).1 ((sg 8).h 0).2 l3.length),(2,aR (i1.h 1).1 (i1.h 1).2 r2.2.width.length)]) 96 b1 ({r2.2 with rows:=l3}:cS),dT cd 3 ((sg 16).h 0).1 ((sg 16).h 0).2 l4,dT dO 32 ((sg 8).h 0).1 ((sg 8).h 0).2 l3,nO (wY (fun y:(cS→aj→Option (((List (List ac))×Int)×cS))=>dJ aQ pE (jr b1) qy y)) nN b2 none os7 QN] _ from ?_);refine zo J (dB (ht J))<|zo J (jN 2 MZ J J J)<|wC (wt (hs' :=[(1,aR ((sg 8).h 0).1 ((sg 8).h 0).2 l3.length),(2,aR ((sg 16).h 0).1 ((sg 16).h 0).2 l4.length)]) (u:=aR ((sg 16).h 0).1 ((sg 16).h 0).2 l4.length) d9 J J Q8 J ⟨.inr ⟨J,J⟩,.inl ⟨J,J,J⟩,aT⟩ (ht J) (kz (ht J)) (H5 (ht J))) fun i2=>?_;refine(show RG _ _ _ _ [bx (rH ea [(1,aR ((sg 8).h 0).1 ((sg 8).h 0).2 l3.length),(2,aR ((sg 16).h 0).1 ((sg 16).h 0).2 l4.length)]) 96 b1 ({({r2.2 with rows:=l3}:cS)with width:=l4}:cS),dT cd 3 ((sg 16).h 0).1 ((sg 16).h 0).2 l4,dT dO 32 ((sg 8).h 0).1 ((sg 8).h 0).2 l3,nO (wY (fun y:(cS→aj→Option (((List (List ac))×Int)×cS))=>dJ aQ pE (jr b1) qy y)) nN b2 none os7 QN] _ from ?_);refine aP<|aq<|ax<|au<|zo rfl (mz (cM hx hN) rfl)<|aG rfl<|aP<|bD<|aK<|aK<|cA ?_;exact bm (aU (ih (i+1) ({({r2.2 with rows:=l3}:cS)with width:=l4}:cS) ((sg 8).h 0).1 ((sg 8).h 0).2 ((sg 16).h 0).1 ((sg 16).h 0).2 ⟨cL hx,h⟩) (bu J))
      ·skip
       refine aw<|zo J (df Ah py J J)<|zo J (bB cx J J)<|zo J (s4 J)<|av<|cU h J (fun h=>?_) (fun h=>?_)
       ·refine au<|aG J<|bC h fun r5 q_r5 h=>zo J (aC aat (R5 _ q_r5) ⟨(ht J),aT⟩)<|aG J<|zo J (gp J J)<|zo J (gp J J)<|bp J<|aP ?_;exact cw (K1 r5.1 h) (bu J)
       ·refine bA ?_;exact cw (K1 r2.1.1 h) (bu J)
    ·skip
     refine aw<|aG J<|zo J (nI J)<|aG J<|dQ J J (fun hg=>dl J)<|dQ J J (fun hg=>cW jF (bN J hg))<|dQ J J (fun hg=>gv (bN J hg) hI)<|zo J (u6 J J)<|av<|cU h J (fun h=>?_) (fun h=>?_)
     ·refine au<|zo J (cD)<|aP<|aK<|aK<|aK<|cA ?_;exact cw (K (3:Int) h) (bu J)
     ·refine bA<|aK<|aK<|aK<|cA ?_;exact cw (K r2.1.2 h) (bu J)

end Go.Proofs.YtfhhakidodmdfaaGreatDoor

