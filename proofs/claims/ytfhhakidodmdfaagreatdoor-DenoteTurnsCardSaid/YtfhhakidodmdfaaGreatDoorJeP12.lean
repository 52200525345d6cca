/- cT of this claim: P12. -/
import Derived.Test.YtfhhakidodmdfaaGreatDoorJeT
import Derived.Test.YtfhhakidodmdfaaGreatDoorJeP11
set_option linter.all false
namespace Go.Proofs.YtfhhakidodmdfaaGreatDoor
open Go
set_option maxRecDepth 100000

theorem ZJ(b:Nat)(ix:OI)(r:cW)(n:ak){R:(List (List ac))×Int}(h:j5 r n=some R):c0 aR 58 [tV (aP b 0),tD aI n] (jh b r ix) (fun _:OI=>tT [bZ (cV) R.1,bI R.2]) (fun _=>(jh b r ix)):=by
 refine c0.of Tryz.func58 J J J fun w0 S0=>?_;refine(show CG _ _ _ [bx (rH ea [(1,aO (ix.h 0).1 (ix.h 0).2 r.rows.length),(2,aO (ix.h 1).1 (ix.h 1).2 r.width.length)]) 96 b r,dS c9 32 (ix.h 0).1 (ix.h 0).2 r.rows,dS bT 3 (ix.h 1).1 (ix.h 1).2 r.width] _ from ?_);refine aw<|zo J (js J)<|zo J (aK (show aH _ _ _ vz from jO))<|zo J (cF)<|au<|ah<|bB h fun e q_e h=>bB h fun r1 q_r1 h=>?_
 refine dc (ts:=[_,_,_,_,_,_,_,_,_,_,_,_,_,_,_]) mixed J J
  ⟨fb 0 J J J (dv J),
  ⟨ca 6 0 J J J (dD (ht J)),
  ⟨ca 7 1 J J J (kp 1 qw J J J),
  ⟨ca 8 2 J J J (dh ro J (.head _) (.tail _ (.head _)) (ht J)),
  ⟨fb 3 J J J (de jP dR J J),
  ⟨ca 10 4 J J J (bC cu J J),
  ⟨d6 9 3 11 5 J J J J (bp mj fN J (kT (ht J)) (ht J) q_e),
  ⟨ca 12 6 J J J (bC fN J J),
  ⟨fb 3 J J J (de uc po J J),
  ⟨ca 14 8 J J J (bC HF J J),
  ⟨fb 3 J J J (de AY ub J J),
  ⟨ca 16 10 J J J (bC cu J J),
  ⟨Gq 13 7 15 9 17 11 J J J J J (aE acc (XX _ _ _ q_r1) ⟨(ht J),(ht J),(ht J),aS⟩),
  ⟨ca 18 12 J J J (uM J),
  ⟨Pb J J (cF),
  aS⟩⟩⟩⟩⟩⟩⟩⟩⟩⟩⟩⟩⟩⟩⟩ ?_
 refine av<|am<|aJ<|aJ<|aJ ?_;cases so h;exact d5 (ts:=[bZ (cV) r1,bI 0]) (rvs:=[.tmp 4,.tmp 5]) J J ⟨aZ J,aZ J,aS⟩ oU J J

theorem X1(l:(List (List ac))){R:(List (List ac))×Int}(h:vJ l=some R):aV aR 59 [bZ (cV) l] (tT [bZ (cV) R.1,bI R.2]):=by
 refine aV.of Tryz.func59 J J J fun w0 S0=>aw<|zo J (aK (show aH _ _ _ vz from jO))<|zo J (cF)<|au<|ah<|aw<|aF J<|zo J (aU (r:=c9) (ys:=[l]) (xs:=[.tmp 5]) mj fN J J J J J ⟨(ht J),aS⟩)<|bB h fun r q_r h=>zo J (aE Yx (MI _ q_r) ⟨(ht J),aS⟩)<|bo J<|au<|aw<|aF J<|zo J (uL J)<|au<|dd h J (fun h=>?_) (fun h=>?_)
 ·refine aw<|aF J<|zo J (aK (show aH _ _ _ vz from jO))<|bo J<|au<|am<|ae ?_;cases so h;exact cN J J J
 ·refine dU<|aw<|aF J<|bB h fun r1 q_r1 h=>il WE (KN _ q_r1) ⟨(ht J),aS⟩ J fun l1 c=>bo J<|zo J (cF)<|au<|am<|jv<|cE 2 J<|cE 12 J<|jw 2 J<|be ?_;cases so h;exact cN J J J

theorem RU(s:(List gE)){R:(List gE)}(h:d3 s=some R):fJ aR 187 [bZ (gA) s] false gA 60 R:=by
 refine fJ.of Tryz.func187 J J J fun w0 S0=>aw<|bL false gA 60<|zo J (aK rr)<|au<|ah<|aw<|aF J<|tp Dz (ht J) J fun isnil hisnil=>au<|oS (ht J) (fun hc=>?_) (fun hc=>?_)
 ·have hx:=hisnil hc
  have h:some ([]:List gE)=some R:=by simpa [d3,app,hx] using h
  refine aw<|bL false gA 60<|zo J (aK rr)<|au<|am<|ae ?_;cases so h;exact fE J J
 ·refine dU<|aw<|jX (r:=gA) (ys:=([]:List gE)) (xs:=[]) Dz Jp J J J J J trivial J fun l c=>aF J<|bB h fun x q_x h=>cO Jp J J J J Dz J J (ht J) (ht J) q_x fun l1 c1=>bo J<|au<|am ?_;cases so h;exact fE J J
theorem U2(s:(List gE)){R:(List gE)}(h:d3 s=some R):aV aR 187 [bZ (gA) s] (bZ (gA) R):=(RU _ h).spec

theorem KK(s:(List bm)){R:(List bm)}(h:ck s=some R):fJ aR 188 [bZ (bN) s] false bN 80 R:=by
 refine fJ.of Tryz.func188 J J J fun w0 S0=>aw<|bL false bN 80<|zo J (aK rr)<|au<|ah<|aw<|aF J<|tp wy (ht J) J fun isnil hisnil=>au<|oS (ht J) (fun hc=>?_) (fun hc=>?_)
 ·have hx:=hisnil hc
  have h:some ([]:List bm)=some R:=by simpa [ck,app,hx] using h
  refine aw<|bL false bN 80<|zo J (aK rr)<|au<|am<|ae ?_;cases so h;exact fE J J
 ·refine dU<|aw<|jX (r:=bN) (ys:=([]:List bm)) (xs:=[]) wy pw J J J J J trivial J fun l c=>aF J<|bB h fun x q_x h=>cO pw J J J J wy J J (ht J) (ht J) q_x fun l1 c1=>bo J<|au<|am ?_;cases so h;exact fE J J
theorem Ov(s:(List bm)){R:(List bm)}(h:ck s=some R):aV aR 188 [bZ (bN) s] (bZ (bN) R):=(KK _ h).spec

theorem RT(s:(List gM)){R:(List gM)}(h:eW s=some R):fJ aR 189 [bZ (fi) s] false fi 51 R:=by
 refine fJ.of Tryz.func189 J J J fun w0 S0=>aw<|bL false fi 51<|zo J (aK rr)<|au<|ah<|aw<|aF J<|tp wx (ht J) J fun isnil hisnil=>au<|oS (ht J) (fun hc=>?_) (fun hc=>?_)
 ·have hx:=hisnil hc
  have h:some ([]:List gM)=some R:=by simpa [eW,app,hx] using h
  refine aw<|bL false fi 51<|zo J (aK rr)<|au<|am<|ae ?_;cases so h;exact fE J J
 ·refine dU<|aw<|jX (r:=fi) (ys:=([]:List gM)) (xs:=[]) wx tJ J J J J J trivial J fun l c=>aF J<|bB h fun x q_x h=>cO tJ J J J J wx J J (ht J) (ht J) q_x fun l1 c1=>bo J<|au<|am ?_;cases so h;exact fE J J
theorem RS(s:(List bK)){R:(List bK)}(h:ee s=some R):fJ aR 190 [bZ (cm) s] false cm 49 R:=by
 refine fJ.of Tryz.func190 J J J fun w0 S0=>aw<|bL false cm 49<|zo J (aK rr)<|au<|ah<|aw<|aF J<|tp wJ (ht J) J fun isnil hisnil=>au<|oS (ht J) (fun hc=>?_) (fun hc=>?_)
 ·have hx:=hisnil hc
  have h:some ([]:List bK)=some R:=by simpa [ee,app,hx] using h
  refine aw<|bL false cm 49<|zo J (aK rr)<|au<|am<|ae ?_;cases so h;exact fE J J
 ·refine dU<|aw<|jX (r:=cm) (ys:=([]:List bK)) (xs:=[]) wJ kG J J J J J trivial J fun l c=>aF J<|bB h fun x q_x h=>cO kG J J J J wJ J J (ht J) (ht J) q_x fun l1 c1=>bo J<|au<|am ?_;cases so h;exact fE J J
theorem Vr(n:ak)(by1:Int){R:ak}(h:rZ n by1=some R):aV aR 110 [tD aI n,bI by1] (tD aI R):=by
 refine aV.of Tryz.func110 J J J fun w0 S0=>aw<|yx (ht J) J fun b=>aY (r:=aI) (x:=Hu) gG (fun _=>nC _) J fun b1=>au ?_;refine j7 (Z:=fun n1=>oP by1 n1=some R) (Of:=fun n1=>[bx aI 71 b n1,bx aI 71 b1 Hu]) (Gf:=fun n1=>[(1,bI by1),(2,tV (aP b 0)),(4,tV (aP b1 0))]) (fun n1 h=>?_) (fun K=>?_)
 ·skip
  refine j7 (Z:=fun n2=>mX n2=some R) (Of:=fun n2=>[bx aI 71 b n2,bx aI 71 b1 Hu]) (Gf:=fun n2=>[(2,tV (aP b 0)),(4,tV (aP b1 0))]) (fun n2 h=>?_) (fun K1=>?_)
  ·skip
   refine ah<|bB h fun r q_r h=>bB h fun r1 q_r1 h=>bB h fun r2 q_r2 h=>?_
   refine tF 10 (ts:=[tV (aP b 4),mh n2.Kinds,mh r,tV (aP b 7),mh n2.Keys,mh r1,tV (aP b 10),bZ (gA) n2.Order,bZ (gA) r2,tV (aP b 4)]) mixed J J J
    ⟨fb 2 J J J (kp 4 uC J J J),
    ⟨ca 23 0 J J J (ce d7 J J nT (.head _) (ht J)),
    ⟨ca 24 1 J J J (aE Sd (RM _ q_r) ⟨(ht J),aS⟩),
    ⟨fb 2 J J J (kp 7 td J J J),
    ⟨ca 26 3 J J J (ce d7 J J mD (.head _) (ht J)),
    ⟨ca 27 4 J J J (aE Sd (RM _ q_r1) ⟨(ht J),aS⟩),
    ⟨fb 2 J J J (kp 10 uc J J J),
    ⟨ca 29 6 J J J (ce HF J J po (.head _) (ht J)),
    ⟨ca 30 7 J J J (aE aa9 (U2 _ q_r2) ⟨(ht J),aS⟩),
    ⟨fb 2 J J J (kp 4 uC J J J),
    aS⟩⟩⟩⟩⟩⟩⟩⟩⟩⟩ ?_
   refine ax d7 J zy J (ht J) (ht J)<|zo J (kp 7 td J J J)<|ax d7 J D7 J (ht J) (ht J)<|zo J (kp 10 uc J J J)<|ax HF J Cy J (ht J) (ht J)<|au<|aw<|zo J (kp 6 uB J J J)<|zo J (kp 6 pW J J J)<|zo J (ce Aq J J (ve nS lO) (.head _) (ht J))<|bB h fun r3 q_r3 h=>il Sn (KK _ q_r3) ⟨(ht J),aS⟩ J fun l c=>zo J (kp 6 uB J J J)<|zo J (kp 6 pW J J J)<|ju<|gU 38 J<|bH<|ax Aq J (Gz nS zx xU) J (ht J) (kT (ht J))<|au<|ah<|bB h fun r4 q_r4 h=>?_
   obtain⟨r5,q_r5,h⟩:=bs h
   refine oc 7 [tc (tV (aP b 8)),tc (bZ (fi) (({(ak.mk n2.Op n2.A n2.B n2.Table r n2.Left n2.Cond r1 n2.Aggs n2.Items r2 n2.Limit)with Cond:=({(ak.mk n2.Op n2.A n2.B n2.Table r n2.Left n2.Cond r1 n2.Aggs n2.Items r2 n2.Limit).Cond with Nodes:=r3}:bK)}:ak).Aggs)),([2],fun s=>tV (aO ((s.getD 0 oU).h 0).1 ((s.getD 0 oU).h 0).2 r4.length)),tc (tV (aP b 9)),tc (bZ (cm) (({(ak.mk n2.Op n2.A n2.B n2.Table r n2.Left n2.Cond r1 n2.Aggs n2.Items r2 n2.Limit)with Cond:=({(ak.mk n2.Op n2.A n2.B n2.Table r n2.Left n2.Cond r1 n2.Aggs n2.Items r2 n2.Limit).Cond with Nodes:=r3}:bK)}:ak).Items)),([5],fun s=>tV (aO ((s.getD 0 oU).h 0).1 ((s.getD 0 oU).h 0).2 r5.length)),tc (tV (aP b 8))] [false,false,true,false,false,true,false] [fun _=>[bx aI 71 b ({(ak.mk n2.Op n2.A n2.B n2.Table r n2.Left n2.Cond r1 n2.Aggs n2.Items r2 n2.Limit)with Cond:=({(ak.mk n2.Op n2.A n2.B n2.Table r n2.Left n2.Cond r1 n2.Aggs n2.Items r2 n2.Limit).Cond with Nodes:=r3}:bK)}:ak),dS bN 80 l c r3,bx aI 71 b1 Hu],fun sg=>[eH fi 51 ((sg 2).h 0).1 ((sg 2).h 0).2 r4,bx aI 71 b ({(ak.mk n2.Op n2.A n2.B n2.Table r n2.Left n2.Cond r1 n2.Aggs n2.Items r2 n2.Limit)with Cond:=({(ak.mk n2.Op n2.A n2.B n2.Table r n2.Left n2.Cond r1 n2.Aggs n2.Items r2 n2.Limit).Cond with Nodes:=r3}:bK)}:ak),dS bN 80 l c r3,bx aI 71 b1 Hu],fun sg=>[eH cm 49 ((sg 5).h 0).1 ((sg 5).h 0).2 r5,eH fi 51 ((sg 2).h 0).1 ((sg 2).h 0).2 r4,bx aI 71 b ({(ak.mk n2.Op n2.A n2.B n2.Table r n2.Left n2.Cond r1 n2.Aggs n2.Items r2 n2.Limit)with Cond:=({(ak.mk n2.Op n2.A n2.B n2.Table r n2.Left n2.Cond r1 n2.Aggs n2.Items r2 n2.Limit).Cond with Nodes:=r3}:bK)}:ak),dS bN 80 l c r3,bx aI 71 b1 Hu]] J mixed J J J J J
    ⟨⟨[⟨2,fun _=>tV (aP b 0),none⟩],_,0,0,J,⟨(fun _=>J),aS⟩,J,J,J,J,J,fun _ sg _ _=>ay J (kp 8 qy J J J)⟩,
    ⟨⟨[⟨41,fun _=>tV (aP b 8),some 0⟩],_,0,0,J,⟨(fun _=>J),aS⟩,J,J,J,J,J,zp (fun sg=>ay J (ce BA J J nR (.head _) (ht J)))⟩,
    ⟨⟨[⟨42,fun _=>tD (fH fi) (({(ak.mk n2.Op n2.A n2.B n2.Table r n2.Left n2.Cond r1 n2.Aggs n2.Items r2 n2.Limit)with Cond:=({(ak.mk n2.Op n2.A n2.B n2.Table r n2.Left n2.Cond r1 n2.Aggs n2.Items r2 n2.Limit).Cond with Nodes:=r3}:bK)}:ak).Aggs),some 1⟩],_,J,⟨(fun _=>J),aS⟩,J,J,J,fun sg=>d8 J (G3 (xs:=[.tmp 42]) (ts:=[tD (fH fi) (({(ak.mk n2.Op n2.A n2.B n2.Table r n2.Left n2.Cond r1 n2.Aggs n2.Items r2 n2.Limit)with Cond:=({(ak.mk n2.Op n2.A n2.B n2.Table r n2.Left n2.Cond r1 n2.Aggs n2.Items r2 n2.Limit).Cond with Nodes:=r3}:bK)}:ak).Aggs)]) aa8 (RT _ q_r4) ⟨(ht J),aS⟩)⟩,
    ⟨⟨[⟨2,fun _=>tV (aP b 0),none⟩],_,0,1,J,⟨(fun _=>J),aS⟩,J,J,J,J,J,fun _ sg _ _=>ay J (kp 9 qx J J J)⟩,
    ⟨⟨[⟨44,fun _=>tV (aP b 9),some 3⟩],_,0,1,J,⟨(fun _=>J),aS⟩,J,J,J,J,J,FM (fun sg=>ay J (ce Ap J J mC (.head _) (ht J))) (zp (fun sg=>ay J (ce Ap J J mC (.tail _ (.head _)) (ht J))))⟩,
    ⟨⟨[⟨45,fun _=>tD (fH cm) (({(ak.mk n2.Op n2.A n2.B n2.Table r n2.Left n2.Cond r1 n2.Aggs n2.Items r2 n2.Limit)with Cond:=({(ak.mk n2.Op n2.A n2.B n2.Table r n2.Left n2.Cond r1 n2.Aggs n2.Items r2 n2.Limit).Cond with Nodes:=r3}:bK)}:ak).Items),some 4⟩],_,J,⟨(fun _=>J),aS⟩,J,J,J,fun sg=>d8 J (G3 (xs:=[.tmp 45]) (ts:=[tD (fH cm) (({(ak.mk n2.Op n2.A n2.B n2.Table r n2.Left n2.Cond r1 n2.Aggs n2.Items r2 n2.Limit)with Cond:=({(ak.mk n2.Op n2.A n2.B n2.Table r n2.Left n2.Cond r1 n2.Aggs n2.Items r2 n2.Limit).Cond with Nodes:=r3}:bK)}:ak).Items)]) aa7 (RS _ q_r5) ⟨(ht J),aS⟩)⟩,
    ⟨⟨[⟨2,fun _=>tV (aP b 0),none⟩],_,1,2,J,⟨(fun _=>J),aS⟩,J,J,J,J,J,fun _ sg _ _=>ay J (kp 8 qy J J J)⟩,
    aS⟩⟩⟩⟩⟩⟩⟩ (fun sg=>?_)
   refine(show RG _ _ _ _ [eH cm 49 ((sg 5).h 0).1 ((sg 5).h 0).2 r5,eH fi 51 ((sg 2).h 0).1 ((sg 2).h 0).2 r4,bx aI 71 b ({(ak.mk n2.Op n2.A n2.B n2.Table r n2.Left n2.Cond r1 n2.Aggs n2.Items r2 n2.Limit)with Cond:=({(ak.mk n2.Op n2.A n2.B n2.Table r n2.Left n2.Cond r1 n2.Aggs n2.Items r2 n2.Limit).Cond with Nodes:=r3}:bK)}:ak),dS bN 80 l c r3,bx aI 71 b1 Hu] _ from ?_);refine fK<|tm BA J (zr _ _) J (ht J) (PE (ht J))<|zo J (kp 9 qx J J J)<|tm Ap J (vD _ _ _) J (ht J) (PE (ht J))<|au<|ah<|aw<|zo J (kp 8 qy J J J)<|zo J (qo BA s9 (.head _) J (ht J))<|zo J (i9 wx (.tail _ (.tail _ (.head _))) (ht J))<|zo J (bG hI)<|au<|aA<|mR (.tail _ (.tail _ (.head _))) fun hN=>bJ<|pt<|oR<|gz<|ow<|ow<|pt ?_;refine aT (Bn (Z:=fun ls i n3 l1 c1 l2 c2=>(r4.drop i=ls)∧mW ls i n3=some R) (Of:=fun _ i n3 l1 c1 l2 c2=>[bx aI 71 b1 Hu,bx kV 71 b (ol n3 (aO l1 c1 n3.Aggs.length) (aO l2 c2 n3.Items.length)),eH fi 51 l1 c1 n3.Aggs,eH cm 49 l2 c2 n3.Items]) (Gf:=fun _ i n3 l1 c1 l2 c2=>[(2,tV (aP b 0)),(4,tV (aP b1 0)),(51,jr r4),(52,bI (i:Int))]) (fun i n3 l1 c1 l2 c2 h=>?_) (fun e tl ih i n3 l1 c1 l2 c2 h=>?_) r4 0 ({({({(ak.mk n2.Op n2.A n2.B n2.Table r n2.Left n2.Cond r1 n2.Aggs n2.Items r2 n2.Limit)with Cond:=({(ak.mk n2.Op n2.A n2.B n2.Table r n2.Left n2.Cond r1 n2.Aggs n2.Items r2 n2.Limit).Cond with Nodes:=r3}:bK)}:ak)with Aggs:=r4}:ak)with Items:=r5}:ak) ((sg 2).h 0).1 ((sg 2).h 0).2 ((sg 5).h 0).1 ((sg 5).h 0).2 ⟨J,h⟩) (bt J)
   ·obtain⟨hx,h⟩:=h
    refine aB<|aw<|zo J (fL J J)<|au<|ah<|bz (ht J) (du hx)<|bu ?_;refine ai (ai (aN ?_));refine av<|ah<|aw<|zo rfl (kp 9 qx rfl rfl rfl)<|zo rfl (qo Ap s8 (.tail _ (.head _)) rfl (ht rfl))<|zo rfl (i9 wJ (.tail _ (.tail _ (.tail _ (.head _)))) (ht rfl))<|zo rfl (bG hI)<|au<|aA<|mR (.tail _ (.tail _ (.tail _ (.head _)))) fun hN1=>bJ ?_;refine aT (Bn (Z:=fun ls1 i1 n4 l3 c3 l4 c4=>(n3.Items.drop i1=ls1)∧mV ls1 i1 n4=some R) (Of:=fun _ i1 n4 l3 c3 l4 c4=>[bx aI 71 b1 Hu,bx kV 71 b (ol n4 (aO l3 c3 n4.Aggs.length) (aO l4 c4 n4.Items.length)),eH fi 51 l3 c3 n4.Aggs,eH cm 49 l4 c4 n4.Items]) (Gf:=fun _ i1 n4 l3 c3 l4 c4=>[(2,tV (aP b 0)),(4,tV (aP b1 0)),(72,jr n3.Items),(73,bI (i1:Int))]) (fun i1 n4 l3 c3 l4 c4 h=>?_) (fun e1 tl1 ih1 i1 n4 l3 c3 l4 c4 h=>?_) n3.Items 0 n3 l1 c1 l2 c2 ⟨J,h⟩) (bt J)
    ·obtain⟨hx1,h⟩:=h
     refine aB<|aw<|zo J (fL J J)<|au<|ah<|bz (ht J) (du hx1)<|bu ?_;refine ai (ai (aN ?_));refine av<|aw<|fK<|ju<|ov<|ju<|zo rfl (zI (q:=aI) (y:=n4) gG J J J J (.tail _ (.tail _ (.tail _ (.head _)))) (fun _ _ _ ho h=>Be (De ho (.tail _ (.head _))) (De ho (.head _)) h) (ht J))<|fK<|ax gG J an J (ht J) (ht J)<|aW 4 J<|au<|am<|be<|be<|be ?_;cases so h;exact iI J gG J J J
    ·obtain⟨hx1,h⟩:=h
     refine aB<|aw<|zo J (fL J J)<|au<|ah<|bw (ht J) (dl hx1)<|dU<|ah<|aA<|aw<|aF J<|bo J<|au<|bB h fun e2 q_e2 h=>bB h fun r6 q_r6 h=>?_
     refine tF 12 (ts:=[tV (aP b 9),qS l4 c4 n4.Items,bI (i1:Int),tV (aP b 9),qS l4 c4 n4.Items,bI (i1:Int),tV (pz l4 ((i1:Int).toNat*1+0)),tV (pz l4 ((i1:Int).toNat*1+0)),bZ (bN) e2.Nodes,bZ (bN) r6,tV (pz l4 ((i1:Int).toNat*1+0)),tV (pz l4 ((i1:Int).toNat*1+0))]) mixed J J J
      ⟨fb 2 J J J (kp 9 qx J J J),
      ⟨ca 76 0 J J J (qo Ap s8 (.tail _ (.head _)) J (ht J)),
      ⟨fb 6 J J J (dv J),
      ⟨fb 2 J J J (kp 9 qx J J J),
      ⟨ca 79 3 J J J (qo Ap s8 (.tail _ (.head _)) J (ht J)),
      ⟨fb 6 J J J (dv J),
      ⟨d6 80 4 81 5 J J J J (cw wJ kG (.tail _ (.tail _ (.tail _ (.head _)))) (ht J) (ht J) q_e2),
      ⟨ca 82 6 J J J (nf (o:=(i1:Int).toNat*1+0) (n:=(i1:Int).toNat*1+0) pW J (.tail _ (.tail _ (.tail _ (.head _)))) q_e2 (ht J) J),
      ⟨ca 83 7 J J J (fR (r:=cm) (i:=(i1:Int)) (foff:=0) Aq J J lO J (.tail _ (.tail _ (.tail _ (.head _)))) q_e2 (ht J)),
      ⟨ca 84 8 J J J (aE Sn (Ov _ q_r6) ⟨(ht J),aS⟩),
      ⟨d6 77 1 78 2 J J J J (cw wJ kG (.tail _ (.tail _ (.tail _ (.head _)))) (ht J) (ht J) q_e2),
      ⟨ca 86 10 J J J (nf (o:=(i1:Int).toNat*1+0) (n:=(i1:Int).toNat*1+0) pW J (.tail _ (.tail _ (.tail _ (.head _)))) q_e2 (ht J) J),
      aS⟩⟩⟩⟩⟩⟩⟩⟩⟩⟩⟩⟩ ?_
     refine ov<|bB h fun st q_st h=>sw Aq J xU J q_e2 (so q_st) (ht J) (ht J)<|iy (mq (so q_st)) 77 J<|iy (mq (so q_st)) 80 J<|Fp (O' :=[eH cm 49 l4 c4 st,bx aI 71 b1 Hu,bx kV 71 b (ol n4 (aO l3 c3 n4.Aggs.length) (aO l4 c4 st.length)),eH fi 51 l3 c3 n4.Aggs]) (by rw [mq (so q_st)])<|aQ<|ap<|av<|aq<|zo rfl (lZ (cL hx1 hN1) rfl)<|aF rfl<|aQ<|cP<|cP<|cP ?_;exact bg (aT (ih1 (i1+1) ({n4 with Items:=st}:ak) l3 c3 l4 c4 ⟨cK hx1,h⟩) (bt J))
   ·obtain⟨hx,h⟩:=h
    refine aB<|aw<|zo J (fL J J)<|au<|ah<|bw (ht J) (dl hx)<|dU<|ah<|aA<|aw<|aF J<|bo J<|au<|bB h fun e3 q_e3 h=>bB h fun r7 q_r7 h=>?_
    refine tF 14 (ts:=[tV (aP b 8),qS l1 c1 n3.Aggs,bI (i:Int),tV (aP b 8),qS l1 c1 n3.Aggs,bI (i:Int),tV (pz l1 ((i:Int).toNat*2+0)),tV (pz l1 ((i:Int).toNat*2+1)),tV (pz l1 ((i:Int).toNat*2+1)),bZ (bN) e3.Arg.Nodes,bZ (bN) r7,tV (pz l1 ((i:Int).toNat*2+0)),tV (pz l1 ((i:Int).toNat*2+1)),tV (pz l1 ((i:Int).toNat*2+1))]) mixed J J J
     ⟨fb 2 J J J (kp 8 qy J J J),
     ⟨ca 55 0 J J J (qo BA s9 (.tail _ (.head _)) J (ht J)),
     ⟨fb 5 J J J (dv J),
     ⟨fb 2 J J J (kp 8 qy J J J),
     ⟨ca 58 3 J J J (qo BA s9 (.tail _ (.head _)) J (ht J)),
     ⟨fb 5 J J J (dv J),
     ⟨d6 59 4 60 5 J J J J (cw wx tJ (.tail _ (.tail _ (.head _))) (ht J) (ht J) q_e3),
     ⟨ca 61 6 J J J (nf (o:=(i:Int).toNat*2+0) (n:=(i:Int).toNat*2+1) BV J (.tail _ (.tail _ (.head _))) q_e3 (ht J) J),
     ⟨ca 62 7 J J J (nf (o:=(i:Int).toNat*2+1) (n:=(i:Int).toNat*2+1) pW J (.tail _ (.tail _ (.head _))) q_e3 (ht J) J),
     ⟨ca 63 8 J J J (fR (r:=fi) (i:=(i:Int)) (foff:=1) Aq J J (ve vf lO) J (.tail _ (.tail _ (.head _))) q_e3 (ht J)),
     ⟨ca 64 9 J J J (aE Sn (Ov _ q_r7) ⟨(ht J),aS⟩),
     ⟨d6 56 1 57 2 J J J J (cw wx tJ (.tail _ (.tail _ (.head _))) (ht J) (ht J) q_e3),
     ⟨ca 66 11 J J J (nf (o:=(i:Int).toNat*2+0) (n:=(i:Int).toNat*2+1) BV J (.tail _ (.tail _ (.head _))) q_e3 (ht J) J),
     ⟨ca 67 12 J J J (nf (o:=(i:Int).toNat*2+1) (n:=(i:Int).toNat*2+1) pW J (.tail _ (.tail _ (.head _))) q_e3 (ht J) J),
     aS⟩⟩⟩⟩⟩⟩⟩⟩⟩⟩⟩⟩⟩⟩ ?_
    refine fK<|bB h fun st1 q_st1 h=>sw Aq J (Gz vf JC xU) J q_e3 (so q_st1) (ht J) (ht J)<|iy (mq (so q_st1)) 56 J<|iy (mq (so q_st1)) 59 J<|Fp (O' :=[eH fi 51 l1 c1 st1,bx aI 71 b1 Hu,bx kV 71 b (ol n3 (aO l1 c1 st1.length) (aO l2 c2 n3.Items.length)),eH cm 49 l2 c2 n3.Items]) (by rw [mq (so q_st1)])<|aQ<|ap<|av<|aq<|zo rfl (lZ (cL hx hN) rfl)<|aF rfl<|aQ<|cP<|bv<|cP<|cP ?_;exact bg (aT (ih (i+1) ({n3 with Aggs:=st1}:ak) l1 c1 l2 c2 ⟨cK hx,h⟩) (bt J))
  ·skip
   refine aw<|zo J (kp 2 rt J J J)<|zo J (ce cu J J km (.head _) (ht J))<|zo J (jg (ht J) hI)<|au<|dd h J (fun h=>?_) (fun h=>?_)
   ·refine aq<|zo J (kp 2 rt J J J)<|zo J (ce cu J J km (.head _) (ht J))<|aF J<|zo J (nO (ht J) (ht J))<|zo J (kp 2 rt J J J)<|ax cu J zz J (ht J) (ht J)<|aQ ?_;exact cC (K1 (ak.mk n1.Op n1.A (IntKind.i64.wrap (n1.B+by1)) n1.Table n1.Kinds n1.Left n1.Cond n1.Keys n1.Aggs n1.Items n1.Order n1.Limit) h) (bt J)
   ·refine bA ?_;exact cC (K1 n1 h) (bt J)
 ·skip
  refine aw<|zo J (kp 1 jP J J J)<|zo J (ce cu J J dR (.tail _ (.head _)) (ht J))<|zo J (jg (ht J) hI)<|au<|dd h J (fun h=>?_) (fun h=>?_)
  ·refine aq<|zo J (kp 1 jP J J J)<|zo J (ce cu J J dR (.tail _ (.head _)) (ht J))<|aF J<|zo J (nO (ht J) (ht J))<|zo J (kp 1 jP J J J)<|bH<|ax cu J D8 J (ht J) (ht J)<|aQ ?_;exact cC (K (ak.mk n.Op (IntKind.i64.wrap (n.A+by1)) n.B n.Table n.Kinds n.Left n.Cond n.Keys n.Aggs n.Items n.Order n.Limit) h) (bt J)
  ·refine bA<|bv ?_;exact cC (K n h) (bt J)

theorem X0(l:bE)(place:Int){R:bE×Int}(h:s5 l place=some R):aV aR 60 [tD cD l,bI place] (tT [tD cD R.1,bI R.2]):=by
 refine aV.of Tryz.func60 J J J fun w0 S0=>aw<|zo J (js J)<|aY (r:=cD) (x:=Jb) oX (fun _=>sE _) J fun b=>zo J (cF)<|au<|aw<|zo J (bC oX J J)<|bB h fun r q_r h=>zo J (aE YB (MM _ q_r) ⟨(ht J),aS⟩)<|aF J<|zo J (gV J J)<|zo J (gV J J)<|zo J (gV J J)<|bo J<|bo J<|bo J<|au<|ah<|aA ?_;refine aw<|aF J<|zo J (gg (ht J))<|bo J<|au<|dd h J (fun h=>?_) (fun h=>?_)
 ·refine aw<|zo J (cn (y:=Jb) oX XN sE (J))<|ax oX J an J (ht J) (ht J)<|zo J (cF)<|au<|am ?_;refine aD (ae ?_);refine bn 4 J ?_;cases so h;exact bS J J ⟨br oX J J J,aZ J,aS⟩
 ·refine aw<|aF J<|zo J (gD (ht J) hI)<|aF J<|gY J J (fun hg=>dv J)<|gY J J (fun hg=>de qz kj J J)<|gY J J (fun hg=>bO BB J J (bP J hg))<|gY J J (fun hg=>dQ uF (bP J hg))<|gY J J (fun hg=>jg (bP J hg) (bP J hg))<|zo J (yE J J)<|bo J<|au<|dd h J (fun h=>?_) (fun h=>?_)
  ·refine aw<|zo J (cn (y:=Jb) oX XN sE (J))<|ax oX J an J (ht J) (ht J)<|zo J (cF)<|au<|am ?_;refine aD (ae ?_);refine bn 4 J ?_;cases so h;exact bS J J ⟨br oX J J J,aZ J,aS⟩
  ·refine bA<|ap<|av<|aw<|bL true aI 71<|aY (r:=o0) (x:=qq Jb (aO none 0 (([]:List ak).length))) oX Lz J fun b1=>au<|ah<|aw<|aF J<|zo J (H8 (ht J))<|zo J (de ud AV J J)<|zo J (bC d7 J J)<|aF J<|bB h fun e q_e h=>zo J (ml gF cu J J J q_e)<|zo J (bC cu J J)<|bo J<|au<|aA ?_;refine bJ<|gz<|gz<|ow ?_;refine aT (OZ (Z:=fun n i out l1 c=>nh l place e n i out=some R) (Of:=fun i out l1 c=>[bx cD 24 b Jb,bx o0 24 b1 (qq out (aO l1 c out.Nodes.length)),dS aI 71 l1 c out.Nodes]) (Gf:=fun i out l1 c=>[(1,bI place),(2,bM cD l),(4,tV (aP b 0)),(6,bM bk r.1),(9,tV (aP b1 0)),(10,bI i)]) (fun i out l1 c h=>nn h) (fun n ih i out l1 c h=>?_) im e ({Jb with Nodes:=([]:List ak)}:bE) none 0 h) (bt J);refine aB<|ah<|aw<|aF J<|aF J<|zo J (nN (ht J) (ht J))<|au<|dd h J (fun h=>?_) (fun h=>?_)
   ·refine dU<|ah<|aA<|bB h fun e1 q_e1 h=>bB h fun r1 q_r1 h=>?_
    refine tF 17 (ts:=[tV (aP b1 0),tO aI l1 c out.Nodes,bM (fH aI) l.Nodes,bZ (aI) l.Nodes,bI i,bM aI e1,tD aI e1,bM bk r.1,bM bk r.1,bM ny r.1.first,mh r.1.first,bI place,bM bT e,bI e,bI (IntKind.i64.wrap (0-e)),tD aI r1,bZ (aI) ([r1])]) mixed J J J
     ⟨fb 9 J J J (kp 0 qz J J J),
     ⟨ca 44 0 J J J (BN BB Ip (.tail _ (.head _)) (.tail _ (.tail _ (.head _))) J (ht J)),
     ⟨fb 2 J J J (de qz kj J J),
     ⟨ca 46 2 J J J (bC BB J J),
     ⟨fb 10 J J J (dv J),
     ⟨d6 47 3 48 4 J J J J (ml uF gG J J J q_e1),
     ⟨ca 49 5 J J J (bC gG J J),
     ⟨fb 6 J J J (dv J),
     ⟨ca 51 7 J J J (H8 (ht J)),
     ⟨ca 52 8 J J J (de ud AV J J),
     ⟨ca 53 9 J J J (bC d7 J J),
     ⟨fb 1 J J J (dv J),
     ⟨d6 54 10 55 11 J J J J (ml gF cu J J J q_e),
     ⟨ca 56 12 J J J (bC cu J J),
     ⟨ca 57 13 J J J (Ia (ht J)),
     ⟨d6 50 6 58 14 J J J J (aE abD (Vr _ _ q_r1) ⟨(ht J),(ht J),aS⟩),
     ⟨ca 59 15 J J J (aU (r:=aI) (ys:=[r1]) (xs:=[.tmp 59]) uF gG J J J J J ⟨(ht J),aS⟩),
     aS⟩⟩⟩⟩⟩⟩⟩⟩⟩⟩⟩⟩⟩⟩⟩⟩⟩ ?_
    refine fK<|bB h fun l2 q_l2 h=>zT gG J J J J uF J J (ht J) (ht J) q_l2 fun l3 c1=>zo J (kp 0 qz J J J)<|fK<|tm BB J (w7 _ _ _) J (ht J) (PE (HI (ht J)))<|aQ<|ap<|av<|aq<|aF rfl<|zo rfl (nO (ht rfl) hI)<|bo rfl<|aQ<|bv<|bv<|aJ ?_;exact bg (aT (ih (IntKind.i64.wrap (i+(1:Int))) ({out with Nodes:=l2}:bE) l3 c1 h) (bt J))
   ·refine bu ?_;refine ai (ai (aN ?_));refine av<|aw<|fK<|zo rfl (zI (q:=cD) (y:=out) oX J J J J (.tail _ (.tail _ (.head _))) (fun _ _ _ ho h=>C6 (De ho (.head _)) h) (ht J))<|bH<|ax oX J an J (ht J) (ht J)<|zo J (cF)<|au<|am<|bn 4 J<|be<|be ?_;cases so h;exact bS J J ⟨br oX J J J,aZ J,aS⟩

theorem MP(l:bE)(b:cB){R:(List (List ac))×Int}(h:jo l b=some R):aV aR 15 [tD cD l,tD i6 b] (tT [bZ (cV) R.1,bI R.2]):=by
 refine aV.of Tryz.func15 J J J fun w0 S0=>aw<|zo J (js J)<|zo J (js J)<|zo J (aK (show aH _ _ _ vz from jO))<|zo J (cF)<|au<|ah<|aw<|zo J (bC oX J J)<|bB h fun r q_r h=>zo J (aE YC (MN _ q_r) ⟨(ht J),aS⟩)<|aF J<|zo J (gV J J)<|zo J (gV J J)<|bo J<|bo J<|au<|aw ?_;refine aF J<|zo J (uL J)<|au<|dd h J (fun h=>?_) (fun h=>?_)
 ·refine aw<|aF J<|zo J (aK (show aH _ _ _ vz from jO))<|bo J<|au<|am<|ae ?_;cases so h;exact cN J J J
 ·refine dU<|ah<|aw<|zo J (bC oX J J)<|zo J (bC DZ J J)<|bB h fun r1 q_r1 h=>zo J (aE acw (Yk _ _ q_r1) ⟨(ht J),(ht J),aS⟩)<|zo J (gg (ht J))<|au<|dd h J (fun h=>?_) (fun h=>?_)
  ·refine aw<|zo J (aK (show aH _ _ _ vz from jO))<|zo J (cF)<|au<|am<|ae ?_;cases so h;exact cN J J J
  ·refine dU<|aw<|zo J (bC DZ J J)<|zo J (cn (r:=rH ea [(1,.slice none 0 0),(2,.slice none 0 0)]) (y:=(⟨b,[],[]⟩:cW)) abQ abY (zH WQ ⟨J,J,aS⟩) (⟨_,_,_,_,_,J,V3 QR J J,J,(ht J),J⟩))<|yx (ht J) J fun b1=>bL true c9 32<|bL true bT 3 ?_;refine(show RG _ _ _ _ [dS bT 3 none 0 uq,dS c9 32 none 0 S3,bx (rH ea [(1,aO none 0 S3.length),(2,aO none 0 uq.length)]) 96 b1 (⟨b,[],[]⟩:cW)] _ from ?_);refine bo J<|au<|aw<|wc (uz (fun y:(cW→ak→Option (((List (List ac))×Int)×cW))=>dM aR pc (jh b1) qa y)) kP J fun b2=>aF J ?_
   refine p6 ((show bQ _ _ _ _ (dM aR pc (jh b1) qa WW)from jD aco (ht J) (fun c x R h i=>by
     obtain⟨r,h1,rfl⟩:=vw.1 h
     exact iw (Ob:=fun j=>jh b1 c j) (i:=i) (ZQ _ i c _ h1)))) J ?_
   refine eC (γ:=(fun y:(cW→ak→Option (((List (List ac))×Int)×cW))=>dM aR pc (jh b1) qa y)) (y:=WW) Aj (dT kC) (ht J) (nt hI) (ht J) fun os=>aF J ?_
   refine p6 ((show bQ _ _ _ _ (dM aR pc (jh b1) qa WV)from jD acn (ht J) (fun c x R h i=>by
     obtain⟨r,h1,rfl⟩:=vw.1 h
     exact iw (Ob:=fun j=>jh b1 c j) (i:=i) (ZP _ i c _ h1)))) J ?_
   refine eC (γ:=(fun y:(cW→ak→Option (((List (List ac))×Int)×cW))=>dM aR pc (jh b1) qa y)) (y:=WV) Aj (dT kC) (ht J) (nt hI) (ht J) fun os1=>aF J ?_
   refine p6 ((show bQ _ _ _ _ (dM aR pc (jh b1) qa W0)from jD acm (ht J) (fun c x R h i=>by
     obtain⟨r,h1,rfl⟩:=vw.1 h
     exact iw (Ob:=fun j=>jh b1 c j) (i:=i) (ZO _ i c _ h1)))) J ?_
   refine eC (γ:=(fun y:(cW→ak→Option (((List (List ac))×Int)×cW))=>dM aR pc (jh b1) qa y)) (y:=W0) Aj (dT kC) (ht J) (nt hI) (ht J) fun os2=>aF J ?_
   refine p6 ((show bQ _ _ _ _ (dM aR pc (jh b1) qa WX)from jD acl (ht J) (fun c x R h i=>by
     obtain⟨r,h1,rfl⟩:=vw.1 h
     exact iw (Ob:=fun j=>jh b1 c j) (i:=i) (ZN _ i c _ h1)))) J ?_
   refine eC (γ:=(fun y:(cW→ak→Option (((List (List ac))×Int)×cW))=>dM aR pc (jh b1) qa y)) (y:=WX) Aj (dT kC) (ht J) (nt hI) (ht J) fun os3=>aF J ?_
   refine p6 ((show bQ _ _ _ _ (dM aR pc (jh b1) qa Xa)from jD ack (ht J) (fun c x R h i=>by
     obtain⟨r,h1,rfl⟩:=vw.1 h
     exact iw (Ob:=fun j=>jh b1 c j) (i:=i) (ZM _ i c _ h1)))) J ?_
   refine eC (γ:=(fun y:(cW→ak→Option (((List (List ac))×Int)×cW))=>dM aR pc (jh b1) qa y)) (y:=Xa) Aj (dT kC) (ht J) (nt hI) (ht J) fun os4=>aF J ?_
   refine p6 ((show bQ _ _ _ _ (dM aR pc (jh b1) qa Xb)from jD acj (ht J) (fun c x R h i=>by
     obtain⟨r,h1,rfl⟩:=vw.1 h
     exact iw (Ob:=fun j=>jh b1 c j) (i:=i) (ZL _ i c _ h1)))) J ?_
   refine eC (γ:=(fun y:(cW→ak→Option (((List (List ac))×Int)×cW))=>dM aR pc (jh b1) qa y)) (y:=Xb) Aj (dT kC) (ht J) (nt hI) (ht J) fun os5=>aF J ?_
   refine p6 ((show bQ _ _ _ _ (dM aR pc (jh b1) qa WZ)from jD aci (ht J) (fun c x R h i=>by
     obtain⟨r,h1,rfl⟩:=vw.1 h
     exact iw (Ob:=fun j=>jh b1 c j) (i:=i) (ZK _ i c _ h1)))) J ?_
   refine eC (γ:=(fun y:(cW→ak→Option (((List (List ac))×Int)×cW))=>dM aR pc (jh b1) qa y)) (y:=WZ) Aj (dT kC) (ht J) (nt hI) (ht J) fun os6=>aF J ?_
   refine p6 ((show bQ _ _ _ _ (dM aR pc (jh b1) qa WY)from jD ach (ht J) (fun c x R h i=>by
     obtain⟨r,h1,rfl⟩:=vw.1 h
     exact iw (Ob:=fun j=>jh b1 c j) (i:=i) (ZJ _ i c _ h1)))) J ?_
   refine eC (γ:=(fun y:(cW→ak→Option (((List (List ac))×Int)×cW))=>dM aR pc (jh b1) qa y)) (y:=WY) Aj (dT kC) (ht J) (nt hI) (ht J) fun os7=>aF J<|bo J<|au<|ah<|aw<|zo J (de qz kj J J)<|zo J (bC BB J J)<|zo J (iJ uF J)<|zo J (bG hI)<|au<|aA<|bc (k:=52) J fun hN=>bJ<|gz<|ow<|pt<|pt ?_;refine aT (Bn (Z:=fun ls i ob l1 c l2 c1=>(l.Nodes.drop i=ls)∧fV l ls i ob=some R) (Of:=fun _ i ob l1 c l2 c1=>[ki (uz (fun y:(cW→ak→Option (((List (List ac))×Int)×cW))=>dM aR pc (jh b1) qa y)) kP b2 none os7 Qx,bx (rH ea [(1,aO l1 c ob.rows.length),(2,aO l2 c1 ob.width.length)]) 96 b1 ob,dS c9 32 l1 c ob.rows,dS bT 3 l2 c1 ob.width]) (Gf:=fun _ i ob l1 c l2 c1=>[(2,bM cD l),(8,tV (aP b1 0)),(9,tV (oA b2)),(52,bZ (aI) l.Nodes),(53,jr l.Nodes),(54,bI (i:Int))]) (fun i ob l1 c l2 c1 h=>?_) (fun e tl ih i ob l1 c l2 c1 h=>?_) l.Nodes 0 (⟨b,[],[]⟩:cW) none 0 none 0 ⟨J,h⟩) (bt J)
   ·obtain⟨hx,h⟩:=h
    refine aB<|aw<|zo J (fL J J)<|au<|ah<|bz (ht J) (du hx)<|bu ?_;refine ai (ai (aN ?_));refine av<|ah<|bB h fun e1 q_e1 h=>?_
    refine dc (ts:=[_,_,_,_,_,_,_,_,_,_,_,_,_,_]) mixed J J
     ⟨fb 8 J J J (dv J),
     ⟨ca 119 0 J J J (dD (ht J)),
     ⟨ca 120 1 J J J (kp 1 qw J J J),
     ⟨ca 121 2 J J J (dh ro J (.tail _ (.head _)) (.tail _ (.tail _ (.head _))) (ht J)),
     ⟨fb 8 J J J (dv J),
     ⟨ca 123 4 J J J (dD (ht J)),
     ⟨ca 124 5 J J J (kp 1 qw J J J),
     ⟨ca 125 6 J J J (dh ro J (.tail _ (.head _)) (.tail _ (.tail _ (.head _))) (ht J)),
     ⟨ca 126 7 J J J (dQ mj (kT (ht J))),
     ⟨ca 127 8 J J J (jf (ht J) hI),
     ⟨d6 122 3 128 9 J J J J (bp mj fN J (kT (ht J)) (ht J) q_e1),
     ⟨ca 129 10 J J J (bC fN J J),
     ⟨ca 130 11 J J J (uM J),
     ⟨Pb J J (cF),
     aS⟩⟩⟩⟩⟩⟩⟩⟩⟩⟩⟩⟩⟩⟩ ?_
    refine av<|am<|be<|be<|be<|be ?_;cases so h;exact cN J J J
   ·obtain⟨hx,h⟩:=h
    refine aB<|aw<|zo J (fL J J)<|au<|ah<|bw (ht J) (dl hx)<|dU<|ah<|aA<|aw<|aF J<|zo J (ml uF gG J J J (cX hx))<|zo J (bC gG J J)<|aY (r:=aI) (x:=Hu) gG (fun _=>nC _) J fun b3=>bo J<|ax gG J an J (ht J) (ht J)<|aW 11 J<|au<|ah ?_;refine aq<|aF J<|zo J (de xx nU J J)<|zo J (bC cu J J)<|zo J (ED (γ:=(fun y:(cW→ak→Option (((List (List ac))×Int)×cW))=>dM aR pc (jh b1) (fun(x:(List (List ac))×Int)=>tT [tD c9 x.1,tD bT x.2]) y)) (z:=fun _ _=>none) Aj (dT kC) abM (fun _=>Gs) (.head _) (ht J) (nt (ht J)))<|zo J (bC gG J J)<|bB h fun r2 q_r2 h=>zS (EffOK.fr3 (EffOK.fr3 (EffOK.fr3 (A7 (args:=pc) (Ob:=jh b1) (res:=qa) (f:=((kD Qx e.Op).getD (fun _ _=>none))) (x:=ob) (y:=((e):ak)) (R:=r2) (i:=(V6 [(l1,c),(l2,c1)])) (xs:=[.tmp 64]) _ J (ht J) q_r2 ⟨(ht J),aS⟩ (fun _=>J))))) J fun i1=>?_;refine(show RG _ _ _ _ [bx (rH ea [(1,aO (i1.h 0).1 (i1.h 0).2 r2.2.rows.length),(2,aO (i1.h 1).1 (i1.h 1).2 r2.2.width.length)]) 96 b1 r2.2,dS c9 32 (i1.h 0).1 (i1.h 0).2 r2.2.rows,dS bT 3 (i1.h 1).1 (i1.h 1).2 r2.2.width,ki (uz (fun y:(cW→ak→Option (((List (List ac))×Int)×cW))=>dM aR pc (jh b1) qa y)) kP b2 none os7 Qx] ((65,tT [bZ (cV) r2.1.1,bI r2.1.2])::_)from ?_);refine aF J<|zo J (gV J J)<|zo J (gV J J)<|bo J<|bo J<|au ?_;refine j7 (Z:=fun e2=>n7 l (fV l tl) i e r2 e2=some R) (Of:=fun e2=>[ki (uz (fun y:(cW→ak→Option (((List (List ac))×Int)×cW))=>dM aR pc (jh b1) qa y)) kP b2 none os7 Qx,bx (rH ea [(1,aO (i1.h 0).1 (i1.h 0).2 r2.2.rows.length),(2,aO (i1.h 1).1 (i1.h 1).2 r2.2.width.length)]) 96 b1 r2.2,dS c9 32 (i1.h 0).1 (i1.h 0).2 r2.2.rows,dS bT 3 (i1.h 1).1 (i1.h 1).2 r2.2.width]) (Gf:=fun e2=>[(2,bM cD l),(8,tV (aP b1 0)),(9,tV (oA b2)),(10,bI (i:Int)),(11,bM aI e),(12,bZ (cV) r2.1.1),(13,bI e2),(52,bZ (aI) l.Nodes),(53,jr l.Nodes),(54,bI (i:Int))]) (fun e2 h=>?_) (fun K=>?_)
    ·skip
     refine ah<|aw<|aF J<|zo J (uL J)<|au<|dd h J (fun h=>?_) (fun h=>?_)
     ·refine aw<|aF J<|zo J (aK (show aH _ _ _ vz from jO))<|bo J<|au<|am ?_;refine ae (aD (ae (ae (aD (ae ?_)))));refine be<|be<|be<|be ?_;cases so h;exact cN J J J
     ·refine dU ?_;refine j7 (Z:=fun rows=>nZ l (fV l tl) i r2 rows=some R) (Of:=fun rows=>[ki (uz (fun y:(cW→ak→Option (((List (List ac))×Int)×cW))=>dM aR pc (jh b1) qa y)) kP b2 none os7 Qx,bx (rH ea [(1,aO (i1.h 0).1 (i1.h 0).2 r2.2.rows.length),(2,aO (i1.h 1).1 (i1.h 1).2 r2.2.width.length)]) 96 b1 r2.2,dS c9 32 (i1.h 0).1 (i1.h 0).2 r2.2.rows,dS bT 3 (i1.h 1).1 (i1.h 1).2 r2.2.width]) (Gf:=fun rows=>[(2,bM cD l),(8,tV (aP b1 0)),(9,tV (oA b2)),(10,bI (i:Int)),(12,bZ (cV) rows),(52,bZ (aI) l.Nodes),(53,jr l.Nodes),(54,bI (i:Int))]) (fun rows h=>?_) (fun K1=>?_)
      ·skip
       refine aw<|zo J (bC oX J J)<|aF J<|bB h fun r3 q_r3 h=>zo J (aE acf (X0 _ _ q_r3) ⟨(ht J),(ht J),aS⟩)<|aF J<|zo J (gV J J)<|zo J (gV J J)<|aY (r:=cD) (x:=Jb) oX (fun _=>sE _) J fun b4=>ax oX J an J (ht J) (ht J)<|aW 14 J<|bo J<|au<|aw<|zo J (bC oX J J)<|bB h fun r4 q_r4 h=>zo J (aE acv (X9 _ q_r4) ⟨(ht J),aS⟩)<|aF J<|zo J (gV J J)<|zo J (gV J J)<|bo J ?_;refine bo J<|au<|bB h fun l3 q_l3 h=>bB h fun l4 q_l4 h=>?_
       refine oc 20 [tc (tV (aP b1 0)),tc (tV (aP b1 0)),tc (tV (aP b1 0)),tc (tV (aP b1 0)),tc (tV (aP b1 1)),tc (tO c9 (i1.h 0).1 (i1.h 0).2 r2.2.rows),tc (bZ (cV) rows),tc (bZ (c9) ([rows])),([8],fun s=>tO c9 ((s.getD 0 oU).h 0).1 ((s.getD 0 oU).h 0).2 l3),tc (tV (aP b1 0)),tc (tV (aP b1 0)),tc (tV (aP b1 2)),tc (tO bT (i1.h 1).1 (i1.h 1).2 r2.2.width),tc (mh r4.1),tc (jr r4.1),tc (mh ([(r4.1.length:Int)])),([16],fun s=>tO bT ((s.getD 0 oU).h 0).1 ((s.getD 0 oU).h 0).2 l4),tc (tV (aP b1 0)),tc (tV (aP b1 1)),tc (C0)] [false,false,false,false,false,false,false,false,true,false,false,false,false,false,false,false,true,false,false,true] [fun _=>[ki (uz (fun y:(cW→ak→Option (((List (List ac))×Int)×cW))=>dM aR pc (jh b1) qa y)) kP b2 none os7 Qx,bx (rH ea [(1,aO (i1.h 0).1 (i1.h 0).2 r2.2.rows.length),(2,aO (i1.h 1).1 (i1.h 1).2 r2.2.width.length)]) 96 b1 r2.2,dS c9 32 (i1.h 0).1 (i1.h 0).2 r2.2.rows,dS bT 3 (i1.h 1).1 (i1.h 1).2 r2.2.width],fun sg=>[dS c9 32 ((sg 8).h 0).1 ((sg 8).h 0).2 l3,ki (uz (fun y:(cW→ak→Option (((List (List ac))×Int)×cW))=>dM aR pc (jh b1) qa y)) kP b2 none os7 Qx,bx (rH ea [(1,aO (i1.h 0).1 (i1.h 0).2 r2.2.rows.length),(2,aO (i1.h 1).1 (i1.h 1).2 r2.2.width.length)]) 96 b1 r2.2,dS bT 3 (i1.h 1).1 (i1.h 1).2 r2.2.width],fun sg=>[dS bT 3 ((sg 16).h 0).1 ((sg 16).h 0).2 l4,dS c9 32 ((sg 8).h 0).1 ((sg 8).h 0).2 l3,ki (uz (fun y:(cW→ak→Option (((List (List ac))×Int)×cW))=>dM aR pc (jh b1) qa y)) kP b2 none os7 Qx,bx (rH ea [(1,aO (i1.h 0).1 (i1.h 0).2 r2.2.rows.length),(2,aO (i1.h 1).1 (i1.h 1).2 r2.2.width.length)]) 96 b1 r2.2],fun sg=>[bx (rH ea [(1,aO ((sg 8).h 0).1 ((sg 8).h 0).2 l3.length),(2,aO (i1.h 1).1 (i1.h 1).2 r2.2.width.length)]) 96 b1 ({r2.2 with rows:=l3}:cW),dS bT 3 ((sg 16).h 0).1 ((sg 16).h 0).2 l4,dS c9 32 ((sg 8).h 0).1 ((sg 8).h 0).2 l3,ki (uz (fun y:(cW→ak→Option (((List (List ac))×Int)×cW))=>dM aR pc (jh b1) qa y)) kP b2 none os7 Qx]] J mixed J J J J J
        ⟨⟨[⟨8,fun _=>tV (aP b1 0),none⟩],_,0,2,J,⟨(fun _=>J),aS⟩,J,J,J,J,J,fun _ sg _ _=>ay J (dv J)⟩,
        ⟨⟨[⟨8,fun _=>tV (aP b1 0),none⟩],_,0,3,J,⟨(fun _=>J),aS⟩,J,J,J,J,J,fun _ sg _ _=>ay J (dv J)⟩,
        ⟨⟨[⟨8,fun _=>tV (aP b1 0),none⟩],_,0,0,J,⟨(fun _=>J),aS⟩,J,J,J,J,J,fun _ sg _ _=>ay J (dv J)⟩,
        ⟨⟨[⟨99,fun _=>tV (aP b1 0),some 2⟩],_,0,0,J,⟨(fun _=>J),aS⟩,J,J,J,J,J,fun _ sg _ _=>ay J (dD (ht J))⟩,
        ⟨⟨[⟨100,fun _=>tV (aP b1 0),some 3⟩],_,0,0,J,⟨(fun _=>J),aS⟩,J,J,J,J,J,fun _ sg _ _=>ay J (kp 1 qw J J J)⟩,
        ⟨⟨[⟨101,fun _=>tV (aP b1 1),some 4⟩],_,0,0,J,⟨(fun _=>J),aS⟩,J,J,J,J,J,zp (fun sg=>ay J (dh ro J (.tail _ (.head _)) (.tail _ (.tail _ (.head _))) (ht J)))⟩,
        ⟨⟨[⟨12,fun _=>tD c9 rows,none⟩],_,0,0,J,⟨(fun _=>J),aS⟩,J,J,J,J,J,fun _ sg _ _=>ay J (dv J)⟩,
        ⟨⟨[⟨103,fun _=>tD c9 rows,some 6⟩],_,0,0,J,⟨(fun _=>J),aS⟩,J,J,J,J,J,fun _ sg _ _=>ay J (aU (r:=c9) (ys:=[rows]) (xs:=[.tmp 103]) mj fN J J J J J ⟨(ht J),aS⟩)⟩,
        ⟨⟨[⟨102,fun _=>tO c9 (i1.h 0).1 (i1.h 0).2 r2.2.rows,some 5⟩,⟨104,fun _=>tD (fH c9) ([rows]),some 7⟩],_,J,⟨(fun _=>J),(fun _=>J),aS⟩,J,J,J,fun sg=>d8 J (EffOK.fr2 (uf fN J J J J mj J (ht J) (ht J) q_l3))⟩,
        ⟨⟨[⟨8,fun _=>tV (aP b1 0),none⟩],_,0,1,J,⟨(fun _=>J),aS⟩,J,J,J,J,J,fun _ sg _ _=>ay J (dv J)⟩,
        ⟨⟨[⟨106,fun _=>tV (aP b1 0),some 9⟩],_,0,1,J,⟨(fun _=>J),aS⟩,J,J,J,J,J,fun _ sg _ _=>ay J (dD (ht J))⟩,
        ⟨⟨[⟨107,fun _=>tV (aP b1 0),some 10⟩],_,0,1,J,⟨(fun _=>J),aS⟩,J,J,J,J,J,fun _ sg _ _=>ay J (kp 2 MF J J J)⟩,
        ⟨⟨[⟨108,fun _=>tV (aP b1 2),some 11⟩],_,0,1,J,⟨(fun _=>J),aS⟩,J,J,J,J,J,FM (fun sg=>ay J (dh d7 J (.tail _ (.head _)) (.tail _ (.tail _ (.tail _ (.head _)))) (ht J))) (zp (fun sg=>ay J (dh d7 J (.tail _ (.tail _ (.head _))) (.tail _ (.tail _ (.tail _ (.head _)))) (ht J))))⟩,
        ⟨⟨[⟨16,fun _=>tD wT r4.1,none⟩],_,0,1,J,⟨(fun _=>J),aS⟩,J,J,J,J,J,fun _ sg _ _=>ay J (dv J)⟩,
        ⟨⟨[⟨110,fun _=>tD wT r4.1,some 13⟩],_,0,1,J,⟨(fun _=>J),aS⟩,J,J,J,J,J,fun _ sg _ _=>ay J (iJ gF J)⟩,
        ⟨⟨[⟨111,fun _=>tD bT (r4.1.length:Int),some 14⟩],_,0,1,J,⟨(fun _=>J),aS⟩,J,J,J,J,J,fun _ sg _ _=>ay J (aU (r:=bT) (ys:=[(r4.1.length:Int)]) (xs:=[.tmp 111]) gF cu J J J J J ⟨(ht J),aS⟩)⟩,
        ⟨⟨[⟨109,fun _=>tO bT (i1.h 1).1 (i1.h 1).2 r2.2.width,some 12⟩,⟨112,fun _=>tD wT ([(r4.1.length:Int)]),some 15⟩],_,J,⟨(fun _=>J),(fun _=>J),aS⟩,J,J,J,fun sg=>d8 J (EffOK.fr3 (uf cu J J J J gF J (ht J) (ht J) q_l4))⟩,
        ⟨⟨[⟨97,fun _=>tV (aP b1 0),some 0⟩],_,2,2,J,⟨(fun _=>J),aS⟩,J,J,J,J,J,fun _ sg _ _=>ay J (dD (ht J))⟩,
        ⟨⟨[⟨114,fun _=>tV (aP b1 0),some 17⟩],_,2,2,J,⟨(fun _=>J),aS⟩,J,J,J,J,J,fun _ sg _ _=>ay J (kp 1 qw J J J)⟩,
        ⟨⟨[⟨115,fun _=>tV (aP b1 1),some 18⟩,⟨105,fun sg=>tO c9 ((sg 8).h 0).1 ((sg 8).h 0).2 l3,some 8⟩],_,J,⟨(fun _=>J),(fun _=>J),aS⟩,J,J,J,fun sg=>d8 J (EffOK.fr3 (vU (hs' :=[(1,aO ((sg 8).h 0).1 ((sg 8).h 0).2 l3.length),(2,aO (i1.h 1).1 (i1.h 1).2 r2.2.width.length)]) (u:=aO ((sg 8).h 0).1 ((sg 8).h 0).2 l3.length) ro J J QQ J ⟨.inl ⟨J,J,J⟩,.inr ⟨J,J⟩,aS⟩ (ht J) (kT (ht J)) (HI (ht J))))⟩,
        aS⟩⟩⟩⟩⟩⟩⟩⟩⟩⟩⟩⟩⟩⟩⟩⟩⟩⟩⟩⟩ (fun sg=>?_)
       refine(show RG _ _ _ _ [bx (rH ea [(1,aO ((sg 8).h 0).1 ((sg 8).h 0).2 l3.length),(2,aO (i1.h 1).1 (i1.h 1).2 r2.2.width.length)]) 96 b1 ({r2.2 with rows:=l3}:cW),dS bT 3 ((sg 16).h 0).1 ((sg 16).h 0).2 l4,dS c9 32 ((sg 8).h 0).1 ((sg 8).h 0).2 l3,ki (uz (fun y:(cW→ak→Option (((List (List ac))×Int)×cW))=>dM aR pc (jh b1) qa y)) kP b2 none os7 Qx] _ from ?_);refine zo J (dD (ht J))<|zo J (kp 2 MF J J J)<|wd (vU (hs' :=[(1,aO ((sg 8).h 0).1 ((sg 8).h 0).2 l3.length),(2,aO ((sg 16).h 0).1 ((sg 16).h 0).2 l4.length)]) (u:=aO ((sg 16).h 0).1 ((sg 16).h 0).2 l4.length) d7 J J QP J ⟨.inr ⟨J,J⟩,.inl ⟨J,J,J⟩,aS⟩ (ht J) (kT (ht J)) (HI (ht J))) fun i2=>?_;refine(show RG _ _ _ _ [bx (rH ea [(1,aO ((sg 8).h 0).1 ((sg 8).h 0).2 l3.length),(2,aO ((sg 16).h 0).1 ((sg 16).h 0).2 l4.length)]) 96 b1 ({({r2.2 with rows:=l3}:cW)with width:=l4}:cW),dS bT 3 ((sg 16).h 0).1 ((sg 16).h 0).2 l4,dS c9 32 ((sg 8).h 0).1 ((sg 8).h 0).2 l3,ki (uz (fun y:(cW→ak→Option (((List (List ac))×Int)×cW))=>dM aR pc (jh b1) qa y)) kP b2 none os7 Qx] _ from ?_);refine aQ<|ap<|av<|aq<|zo rfl (lZ (cL hx hN) rfl)<|aF rfl<|aQ<|bv<|aJ<|aJ<|cP ?_;exact bg (aT (ih (i+1) ({({r2.2 with rows:=l3}:cW)with width:=l4}:cW) ((sg 8).h 0).1 ((sg 8).h 0).2 ((sg 16).h 0).1 ((sg 16).h 0).2 ⟨cK hx,h⟩) (bt J))
      ·skip
       refine aw<|zo J (de xx nU J J)<|zo J (bC cu J J)<|zo J (uL J)<|au<|dd h J (fun h=>?_) (fun h=>?_)
       ·refine aq<|aF J<|bB h fun r5 q_r5 h=>zo J (aE acg (X1 _ q_r5) ⟨(ht J),aS⟩)<|aF J<|zo J (gV J J)<|zo J (gV J J)<|bo J<|aQ ?_;exact cC (K1 r5.1 h) (bt J)
       ·refine bA ?_;exact cC (K1 r2.1.1 h) (bt J)
    ·skip
     refine aw<|aF J<|zo J (nr J)<|aF J<|dK J J (fun hg=>dv J)<|dK J J (fun hg=>dQ ja (bP J hg))<|dK J J (fun hg=>gm (bP J hg) hI)<|zo J (uK J J)<|au<|dd h J (fun h=>?_) (fun h=>?_)
     ·refine aq<|zo J (cF)<|aQ<|aJ<|aJ<|aJ<|cP ?_;exact cC (K (3:Int) h) (bt J)
     ·refine bA<|aJ<|aJ<|aJ<|cP ?_;exact cC (K r2.1.2 h) (bt J)

end Go.Proofs.YtfhhakidodmdfaaGreatDoor

