/- db of this claim: P12. -/
import Derived.Test.YtfhhakidodmdfaaGreatDoorJbT
import Derived.Test.YtfhhakidodmdfaaGreatDoorJbP11
set_option linter.all false
namespace Go.Proofs.YtfhhakidodmdfaaGreatDoor
open Go
set_option maxRecDepth 100000

theorem ZM(b:Nat)(ix:OI)(r:cT)(n:am){R:(List (List ac))×Int}(h:ki r n=some R):c0 aO 58 [tV (aP b 0),tD aI n] (jq b r ix) (fun _:OI=>tT [ca (dj) R.1,bM R.2]) (fun _=>(jq b r ix)):=by
 refine c0.of Tryz.func58 J J J fun w0 S0=>?_;refine(show CG _ _ _ [bx (rH ee [(1,aR (ix.h 0).1 (ix.h 0).2 r.rows.length),(2,aR (ix.h 1).1 (ix.h 1).2 r.width.length)]) 96 b r,dV dT 32 (ix.h 0).1 (ix.h 0).2 r.rows,dV bX 3 (ix.h 1).1 (ix.h 1).2 r.width] _ from ?_);refine au<|zo J (je J)<|zo J (aL (show aJ _ _ _ vA from j9))<|zo J (cw)<|aq<|ah<|bC h fun e q_e h=>bC h fun r1 q_r1 h=>?_
 refine cU (ts:=[_,_,_,_,_,_,_,_,_,_,_,_,_,_,_]) mixed J J
  ⟨fd 0 J J J (dA J),
  ⟨bW 6 0 J J J (dE (ht J)),
  ⟨bW 7 1 J J J (kP 1 qF J J J),
  ⟨bW 8 2 J J J (df uP J (.head _) (.tail _ (.head _)) (ht J)),
  ⟨fd 3 J J J (cW jT dP J J),
  ⟨bW 10 4 J J J (bB cr J J),
  ⟨d8 9 3 11 5 J J J J (bq ot gF J (lk (ht J)) (ht J) q_e),
  ⟨bW 12 6 J J J (bB gF J J),
  ⟨fd 3 J J J (cW ub pw J J),
  ⟨bW 14 8 J J J (bB Hy J J),
  ⟨fd 3 J J J (cW AY ua J J),
  ⟨bW 16 10 J J J (bB cr J J),
  ⟨Gn 13 7 15 9 17 11 J J J J J (aD acm (X0 _ _ _ q_r1) ⟨(ht J),(ht J),(ht J),aT⟩),
  ⟨bW 18 12 J J J (uM J),
  ⟨O4 J J (cw),
  aT⟩⟩⟩⟩⟩⟩⟩⟩⟩⟩⟩⟩⟩⟩⟩ ?_
 refine aw<|ak<|aK<|aK<|aK ?_;cases so h;exact d7 (ts:=[ca (dj) r1,bM 0]) (rvs:=[.tmp 4,.tmp 5]) J J ⟨bc J,bc J,aT⟩ pE J J

theorem X9(l:(List (List ac))){R:(List (List ac))×Int}(h:vL l=some R):aU aO 59 [ca (dj) l] (tT [ca (dj) R.1,bM R.2]):=by
 refine aU.of Tryz.func59 J J J fun w0 S0=>au<|zo J (aL (show aJ _ _ _ vA from j9))<|zo J (cw)<|aq<|ah<|au<|aF J<|zo J (aV (r:=dT) (ys:=[l]) (xs:=[.tmp 5]) ot gF J J J J J ⟨(ht J),aT⟩)<|bC h fun r q_r h=>zo J (aD YE (MB _ q_r) ⟨(ht J),aT⟩)<|bp J<|aq<|au<|aF J<|zo J (tJ J)<|aq<|c9 h J (fun h=>?_) (fun h=>?_)
 ·refine au<|aF J<|zo J (aL (show aJ _ _ _ vA from j9))<|bp J<|aq<|ak<|ae ?_;cases so h;exact cJ J J J
 ·refine dS<|au<|aF J<|bC h fun r1 q_r1 h=>iR WI (KE _ q_r1) ⟨(ht J),aT⟩ J fun l1 c=>bp J<|zo J (cw)<|aq<|ak<|jA<|cB 2 J<|cB 12 J<|jB 2 J<|bm ?_;cases so h;exact cJ J J J

theorem RU(s:(List gL)){R:(List gL)}(h:dZ s=some R):f9 aO 187 [ca (gG) s] false gG 60 R:=by
 refine f9.of Tryz.func187 J J J fun w0 S0=>au<|bQ false gG 60<|zo J (aL s9)<|aq<|ah<|au<|aF J<|tq Dy (ht J) J fun isnil hisnil=>aq<|oS (ht J) (fun hc=>?_) (fun hc=>?_)
 ·have hx:=hisnil hc
  have h:some ([]:List gL)=some R:=by simpa [dZ,app,hx] using h
  refine au<|bQ false gG 60<|zo J (aL s9)<|aq<|ak<|ae ?_;cases so h;exact gm J J
 ·refine dS<|au<|j6 (r:=gG) (ys:=([]:List gL)) (xs:=[]) Dy Jh J J J J J trivial J fun l c=>aF J<|bC h fun x q_x h=>cV Jh J J J J Dy J J (ht J) (ht J) q_x fun l1 c1=>bp J<|aq<|ak ?_;cases so h;exact gm J J
theorem U4(s:(List gL)){R:(List gL)}(h:dZ s=some R):aU aO 187 [ca (gG) s] (ca (gG) R):=(RU _ h).spec

theorem KB(s:(List aX)){R:(List aX)}(h:cj s=some R):f9 aO 188 [ca (bG) s] false bG 80 R:=by
 refine f9.of Tryz.func188 J J J fun w0 S0=>au<|bQ false bG 80<|zo J (aL s9)<|aq<|ah<|au<|aF J<|tq uq (ht J) J fun isnil hisnil=>aq<|oS (ht J) (fun hc=>?_) (fun hc=>?_)
 ·have hx:=hisnil hc
  have h:some ([]:List aX)=some R:=by simpa [cj,app,hx] using h
  refine au<|bQ false bG 80<|zo J (aL s9)<|aq<|ak<|ae ?_;cases so h;exact gm J J
 ·refine dS<|au<|j6 (r:=bG) (ys:=([]:List aX)) (xs:=[]) uq oB J J J J J trivial J fun l c=>aF J<|bC h fun x q_x h=>cV oB J J J J uq J J (ht J) (ht J) q_x fun l1 c1=>bp J<|aq<|ak ?_;cases so h;exact gm J J
theorem Ol(s:(List aX)){R:(List aX)}(h:cj s=some R):aU aO 188 [ca (bG) s] (ca (bG) R):=(KB _ h).spec

theorem RT(s:(List ea)){R:(List ea)}(h:ff s=some R):f9 aO 189 [ca (eg) s] false eg 51 R:=by
 refine f9.of Tryz.func189 J J J fun w0 S0=>au<|bQ false eg 51<|zo J (aL s9)<|aq<|ah<|au<|aF J<|tq uE (ht J) J fun isnil hisnil=>aq<|oS (ht J) (fun hc=>?_) (fun hc=>?_)
 ·have hx:=hisnil hc
  have h:some ([]:List ea)=some R:=by simpa [ff,app,hx] using h
  refine au<|bQ false eg 51<|zo J (aL s9)<|aq<|ak<|ae ?_;cases so h;exact gm J J
 ·refine dS<|au<|j6 (r:=eg) (ys:=([]:List ea)) (xs:=[]) uE rW J J J J J trivial J fun l c=>aF J<|bC h fun x q_x h=>cV rW J J J J uE J J (ht J) (ht J) q_x fun l1 c1=>bp J<|aq<|ak ?_;cases so h;exact gm J J
theorem RS(s:(List br)){R:(List br)}(h:ep s=some R):f9 aO 190 [ca (bT) s] false bT 49 R:=by
 refine f9.of Tryz.func190 J J J fun w0 S0=>au<|bQ false bT 49<|zo J (aL s9)<|aq<|ah<|au<|aF J<|tq vu (ht J) J fun isnil hisnil=>aq<|oS (ht J) (fun hc=>?_) (fun hc=>?_)
 ·have hx:=hisnil hc
  have h:some ([]:List br)=some R:=by simpa [ep,app,hx] using h
  refine au<|bQ false bT 49<|zo J (aL s9)<|aq<|ak<|ae ?_;cases so h;exact gm J J
 ·refine dS<|au<|j6 (r:=bT) (ys:=([]:List br)) (xs:=[]) vu jC J J J J J trivial J fun l c=>aF J<|bC h fun x q_x h=>cV jC J J J J vu J J (ht J) (ht J) q_x fun l1 c1=>bp J<|aq<|ak ?_;cases so h;exact gm J J
theorem Vw(n:am)(by1:Int){R:am}(h:sf n by1=some R):aU aO 110 [tD aI n,bM by1] (tD aI R):=by
 refine aU.of Tryz.func110 J J J fun w0 S0=>au<|ym (ht J) J fun b=>aZ (r:=aI) (x:=Ho) gN (fun _=>ny _) J fun b1=>aq ?_;refine kV (Z:=fun n1=>oQ by1 n1=some R) (Of:=fun n1=>[bx aI 71 b n1,bx aI 71 b1 Ho]) (Gf:=fun n1=>[(1,bM by1),(2,tV (aP b 0)),(4,tV (aP b1 0))]) (fun n1 h=>?_) (fun K=>?_)
 ·skip
  refine kV (Z:=fun n2=>mX n2=some R) (Of:=fun n2=>[bx aI 71 b n2,bx aI 71 b1 Ho]) (Gf:=fun n2=>[(2,tV (aP b 0)),(4,tV (aP b1 0))]) (fun n2 h=>?_) (fun K1=>?_)
  ·skip
   refine ah<|bC h fun r q_r h=>bC h fun r1 q_r1 h=>bC h fun r2 q_r2 h=>?_
   refine tG 10 (ts:=[tV (aP b 4),lW n2.Kinds,lW r,tV (aP b 7),lW n2.Keys,lW r1,tV (aP b 10),ca (gG) n2.Order,ca (gG) r2,tV (aP b 4)]) mixed J J J
    ⟨fd 2 J J J (kP 4 uB J J J),
    ⟨bW 23 0 J J J (cd d9 J J nS (.head _) (ht J)),
    ⟨bW 24 1 J J J (aD Sh (RL _ q_r) ⟨(ht J),aT⟩),
    ⟨fd 2 J J J (kP 7 tf J J J),
    ⟨bW 26 3 J J J (cd d9 J J mA (.head _) (ht J)),
    ⟨bW 27 4 J J J (aD Sh (RL _ q_r1) ⟨(ht J),aT⟩),
    ⟨fd 2 J J J (kP 10 ub J J J),
    ⟨bW 29 6 J J J (cd Hy J J pw (.head _) (ht J)),
    ⟨bW 30 7 J J J (aD abe (U4 _ q_r2) ⟨(ht J),aT⟩),
    ⟨fd 2 J J J (kP 4 uB J J J),
    aT⟩⟩⟩⟩⟩⟩⟩⟩⟩⟩ ?_
   refine ax d9 J zu J (ht J) (ht J)<|zo J (kP 7 tf J J J)<|ax d9 J D6 J (ht J) (ht J)<|zo J (kP 10 ub J J J)<|ax Hy J Cy J (ht J) (ht J)<|aq<|au<|zo J (kP 6 tg J J J)<|zo J (kP 6 ow J J J)<|zo J (cd yz J J (vb mB ke) (.head _) (ht J))<|bC h fun r3 q_r3 h=>iR Sp (KB _ q_r3) ⟨(ht J),aT⟩ J fun l c=>zo J (kP 6 tg J J J)<|zo J (kP 6 ow J J J)<|kj<|jx 38 J<|bL<|ax yz J (Gx mB zt xL) J (ht J) (lk (ht J))<|aq<|ah<|bC h fun r4 q_r4 h=>?_
   obtain⟨r5,q_r5,h⟩:=bs h
   refine oM 7 [tc (tV (aP b 8)),tc (ca (eg) (({(am.mk n2.Op n2.A n2.B n2.Table r n2.Left n2.Cond r1 n2.Aggs n2.Items r2 n2.Limit)with Cond:=({(am.mk n2.Op n2.A n2.B n2.Table r n2.Left n2.Cond r1 n2.Aggs n2.Items r2 n2.Limit).Cond with Nodes:=r3}:br)}:am).Aggs)),([2],fun s=>tV (aR ((s.getD 0 pE).h 0).1 ((s.getD 0 pE).h 0).2 r4.length)),tc (tV (aP b 9)),tc (ca (bT) (({(am.mk n2.Op n2.A n2.B n2.Table r n2.Left n2.Cond r1 n2.Aggs n2.Items r2 n2.Limit)with Cond:=({(am.mk n2.Op n2.A n2.B n2.Table r n2.Left n2.Cond r1 n2.Aggs n2.Items r2 n2.Limit).Cond with Nodes:=r3}:br)}:am).Items)),([5],fun s=>tV (aR ((s.getD 0 pE).h 0).1 ((s.getD 0 pE).h 0).2 r5.length)),tc (tV (aP b 8))] [false,false,true,false,false,true,false] [fun _=>[bx aI 71 b ({(am.mk n2.Op n2.A n2.B n2.Table r n2.Left n2.Cond r1 n2.Aggs n2.Items r2 n2.Limit)with Cond:=({(am.mk n2.Op n2.A n2.B n2.Table r n2.Left n2.Cond r1 n2.Aggs n2.Items r2 n2.Limit).Cond with Nodes:=r3}:br)}:am),dV bG 80 l c r3,bx aI 71 b1 Ho],fun sg=>[fx eg 51 ((sg 2).h 0).1 ((sg 2).h 0).2 r4,bx aI 71 b ({(am.mk n2.Op n2.A n2.B n2.Table r n2.Left n2.Cond r1 n2.Aggs n2.Items r2 n2.Limit)with Cond:=({(am.mk n2.Op n2.A n2.B n2.Table r n2.Left n2.Cond r1 n2.Aggs n2.Items r2 n2.Limit).Cond with Nodes:=r3}:br)}:am),dV bG 80 l c r3,bx aI 71 b1 Ho],fun sg=>[fx bT 49 ((sg 5).h 0).1 ((sg 5).h 0).2 r5,fx eg 51 ((sg 2).h 0).1 ((sg 2).h 0).2 r4,bx aI 71 b ({(am.mk n2.Op n2.A n2.B n2.Table r n2.Left n2.Cond r1 n2.Aggs n2.Items r2 n2.Limit)with Cond:=({(am.mk n2.Op n2.A n2.B n2.Table r n2.Left n2.Cond r1 n2.Aggs n2.Items r2 n2.Limit).Cond with Nodes:=r3}:br)}:am),dV bG 80 l c r3,bx aI 71 b1 Ho]] J mixed J J J J J
    ⟨⟨[⟨2,fun _=>tV (aP b 0),none⟩],_,0,0,J,⟨(fun _=>J),aT⟩,J,J,J,J,J,fun _ sg _ _=>aB J (kP 8 p8 J J J)⟩,
    ⟨⟨[⟨41,fun _=>tV (aP b 8),some 0⟩],_,0,0,J,⟨(fun _=>J),aT⟩,J,J,J,J,J,zj (fun sg=>aB J (cd Ar J J mz (.head _) (ht J)))⟩,
    ⟨⟨[⟨42,fun _=>tD (fW eg) (({(am.mk n2.Op n2.A n2.B n2.Table r n2.Left n2.Cond r1 n2.Aggs n2.Items r2 n2.Limit)with Cond:=({(am.mk n2.Op n2.A n2.B n2.Table r n2.Left n2.Cond r1 n2.Aggs n2.Items r2 n2.Limit).Cond with Nodes:=r3}:br)}:am).Aggs),some 1⟩],_,J,⟨(fun _=>J),aT⟩,J,J,J,fun sg=>eC J (GW (xs:=[.tmp 42]) (ts:=[tD (fW eg) (({(am.mk n2.Op n2.A n2.B n2.Table r n2.Left n2.Cond r1 n2.Aggs n2.Items r2 n2.Limit)with Cond:=({(am.mk n2.Op n2.A n2.B n2.Table r n2.Left n2.Cond r1 n2.Aggs n2.Items r2 n2.Limit).Cond with Nodes:=r3}:br)}:am).Aggs)]) abd (RT _ q_r4) ⟨(ht J),aT⟩)⟩,
    ⟨⟨[⟨2,fun _=>tV (aP b 0),none⟩],_,0,1,J,⟨(fun _=>J),aT⟩,J,J,J,J,J,fun _ sg _ _=>aB J (kP 9 p7 J J J)⟩,
    ⟨⟨[⟨44,fun _=>tV (aP b 9),some 3⟩],_,0,1,J,⟨(fun _=>J),aT⟩,J,J,J,J,J,FK (fun sg=>aB J (cd zl J J lu (.head _) (ht J))) (zj (fun sg=>aB J (cd zl J J lu (.tail _ (.head _)) (ht J))))⟩,
    ⟨⟨[⟨45,fun _=>tD (fW bT) (({(am.mk n2.Op n2.A n2.B n2.Table r n2.Left n2.Cond r1 n2.Aggs n2.Items r2 n2.Limit)with Cond:=({(am.mk n2.Op n2.A n2.B n2.Table r n2.Left n2.Cond r1 n2.Aggs n2.Items r2 n2.Limit).Cond with Nodes:=r3}:br)}:am).Items),some 4⟩],_,J,⟨(fun _=>J),aT⟩,J,J,J,fun sg=>eC J (GW (xs:=[.tmp 45]) (ts:=[tD (fW bT) (({(am.mk n2.Op n2.A n2.B n2.Table r n2.Left n2.Cond r1 n2.Aggs n2.Items r2 n2.Limit)with Cond:=({(am.mk n2.Op n2.A n2.B n2.Table r n2.Left n2.Cond r1 n2.Aggs n2.Items r2 n2.Limit).Cond with Nodes:=r3}:br)}:am).Items)]) abc (RS _ q_r5) ⟨(ht J),aT⟩)⟩,
    ⟨⟨[⟨2,fun _=>tV (aP b 0),none⟩],_,1,2,J,⟨(fun _=>J),aT⟩,J,J,J,J,J,fun _ sg _ _=>aB J (kP 8 p8 J J J)⟩,
    aT⟩⟩⟩⟩⟩⟩⟩ (fun sg=>?_)
   refine(show RG _ _ _ _ [fx bT 49 ((sg 5).h 0).1 ((sg 5).h 0).2 r5,fx eg 51 ((sg 2).h 0).1 ((sg 2).h 0).2 r4,bx aI 71 b ({(am.mk n2.Op n2.A n2.B n2.Table r n2.Left n2.Cond r1 n2.Aggs n2.Items r2 n2.Limit)with Cond:=({(am.mk n2.Op n2.A n2.B n2.Table r n2.Left n2.Cond r1 n2.Aggs n2.Items r2 n2.Limit).Cond with Nodes:=r3}:br)}:am),dV bG 80 l c r3,bx aI 71 b1 Ho] _ from ?_);refine hX<|zS Ar J (zm _ _) J (ht J) (Ru (ht J))<|zo J (kP 9 p7 J J J)<|zS zl J (vE _ _ _) J (ht J) (Ru (ht J))<|aq<|ah<|au<|zo J (kP 8 p8 J J J)<|zo J (qy Ar td (.head _) J (ht J))<|zo J (jy uE (.tail _ (.tail _ (.head _))) (ht J))<|zo J (bD hI)<|aq<|ay<|oq (.tail _ (.tail _ (.head _))) fun hN=>bI<|pz<|qY<|jb<|qM<|qM<|pz ?_;refine aS (Bo (Z:=fun ls i n3 l1 c1 l2 c2=>(r4.drop i=ls)∧mW ls i n3=some R) (Of:=fun _ i n3 l1 c1 l2 c2=>[bx aI 71 b1 Ho,bx k5 71 b (od n3 (aR l1 c1 n3.Aggs.length) (aR l2 c2 n3.Items.length)),fx eg 51 l1 c1 n3.Aggs,fx bT 49 l2 c2 n3.Items]) (Gf:=fun _ i n3 l1 c1 l2 c2=>[(2,tV (aP b 0)),(4,tV (aP b1 0)),(51,jk r4),(52,bM (i:Int))]) (fun i n3 l1 c1 l2 c2 h=>?_) (fun e tl ih i n3 l1 c1 l2 c2 h=>?_) r4 0 ({({({(am.mk n2.Op n2.A n2.B n2.Table r n2.Left n2.Cond r1 n2.Aggs n2.Items r2 n2.Limit)with Cond:=({(am.mk n2.Op n2.A n2.B n2.Table r n2.Left n2.Cond r1 n2.Aggs n2.Items r2 n2.Limit).Cond with Nodes:=r3}:br)}:am)with Aggs:=r4}:am)with Items:=r5}:am) ((sg 2).h 0).1 ((sg 2).h 0).2 ((sg 5).h 0).1 ((sg 5).h 0).2 ⟨J,h⟩) (bv J)
   ·obtain⟨hx,h⟩:=h
    refine aC<|au<|zo J (fD J J)<|aq<|ah<|bz (ht J) (di hx)<|bu ?_;refine ai (ai (aN ?_));refine aw<|ah<|au<|zo rfl (kP 9 p7 rfl rfl rfl)<|zo rfl (qy zl ta (.tail _ (.head _)) rfl (ht rfl))<|zo rfl (jy vu (.tail _ (.tail _ (.tail _ (.head _)))) (ht rfl))<|zo rfl (bD hI)<|aq<|ay<|oq (.tail _ (.tail _ (.tail _ (.head _)))) fun hN1=>bI ?_;refine aS (Bo (Z:=fun ls1 i1 n4 l3 c3 l4 c4=>(n3.Items.drop i1=ls1)∧mV ls1 i1 n4=some R) (Of:=fun _ i1 n4 l3 c3 l4 c4=>[bx aI 71 b1 Ho,bx k5 71 b (od n4 (aR l3 c3 n4.Aggs.length) (aR l4 c4 n4.Items.length)),fx eg 51 l3 c3 n4.Aggs,fx bT 49 l4 c4 n4.Items]) (Gf:=fun _ i1 n4 l3 c3 l4 c4=>[(2,tV (aP b 0)),(4,tV (aP b1 0)),(72,jk n3.Items),(73,bM (i1:Int))]) (fun i1 n4 l3 c3 l4 c4 h=>?_) (fun e1 tl1 ih1 i1 n4 l3 c3 l4 c4 h=>?_) n3.Items 0 n3 l1 c1 l2 c2 ⟨J,h⟩) (bv J)
    ·obtain⟨hx1,h⟩:=h
     refine aC<|au<|zo J (fD J J)<|aq<|ah<|bz (ht J) (di hx1)<|bu ?_;refine ai (ai (aN ?_));refine aw<|au<|hX<|kj<|qL<|kj<|zo rfl (EB (q:=aI) (y:=n4) gN J J J J (.tail _ (.tail _ (.tail _ (.head _)))) (fun _ _ _ ho h=>Be (HX ho (.tail _ (.head _))) (HX ho (.head _)) h) (ht J))<|hX<|ax gN J an J (ht J) (ht J)<|aW 4 J<|aq<|ak<|bm<|bm<|bm ?_;cases so h;exact iS J gN J J J
    ·obtain⟨hx1,h⟩:=h
     refine aC<|au<|zo J (fD J J)<|aq<|ah<|bw (ht J) (dg hx1)<|dS<|ah<|ay<|au<|aF J<|bp J<|aq<|bC h fun e2 q_e2 h=>bC h fun r6 q_r6 h=>?_
     refine tG 12 (ts:=[tV (aP b 9),rL l4 c4 n4.Items,bM (i1:Int),tV (aP b 9),rL l4 c4 n4.Items,bM (i1:Int),tV (pG l4 ((i1:Int).toNat*1+0)),tV (pG l4 ((i1:Int).toNat*1+0)),ca (bG) e2.Nodes,ca (bG) r6,tV (pG l4 ((i1:Int).toNat*1+0)),tV (pG l4 ((i1:Int).toNat*1+0))]) mixed J J J
      ⟨fd 2 J J J (kP 9 p7 J J J),
      ⟨bW 76 0 J J J (qy zl ta (.tail _ (.head _)) J (ht J)),
      ⟨fd 6 J J J (dA J),
      ⟨fd 2 J J J (kP 9 p7 J J J),
      ⟨bW 79 3 J J J (qy zl ta (.tail _ (.head _)) J (ht J)),
      ⟨fd 6 J J J (dA J),
      ⟨d8 80 4 81 5 J J J J (cH vu jC (.tail _ (.tail _ (.tail _ (.head _)))) (ht J) (ht J) q_e2),
      ⟨bW 82 6 J J J (nd (o:=(i1:Int).toNat*1+0) (n:=(i1:Int).toNat*1+0) ow J (.tail _ (.tail _ (.tail _ (.head _)))) q_e2 (ht J) J),
      ⟨bW 83 7 J J J (gn (r:=bT) (i:=(i1:Int)) (foff:=0) yz J J ke J (.tail _ (.tail _ (.tail _ (.head _)))) q_e2 (ht J)),
      ⟨bW 84 8 J J J (aD Sp (Ol _ q_r6) ⟨(ht J),aT⟩),
      ⟨d8 77 1 78 2 J J J J (cH vu jC (.tail _ (.tail _ (.tail _ (.head _)))) (ht J) (ht J) q_e2),
      ⟨bW 86 10 J J J (nd (o:=(i1:Int).toNat*1+0) (n:=(i1:Int).toNat*1+0) ow J (.tail _ (.tail _ (.tail _ (.head _)))) q_e2 (ht J) J),
      aT⟩⟩⟩⟩⟩⟩⟩⟩⟩⟩⟩⟩ ?_
     refine qL<|bC h fun st q_st h=>sF yz J xL J q_e2 (so q_st) (ht J) (ht J)<|iG (mj (so q_st)) 77 J<|iG (mj (so q_st)) 80 J<|Fn (O' :=[fx bT 49 l4 c4 st,bx aI 71 b1 Ho,bx k5 71 b (od n4 (aR l3 c3 n4.Aggs.length) (aR l4 c4 st.length)),fx eg 51 l3 c3 n4.Aggs]) (by rw [mj (so q_st)])<|aQ<|ap<|aw<|av<|zo rfl (lY (cA hx1 hN1) rfl)<|aF rfl<|aQ<|cK<|cK<|cK ?_;exact bf (aS (ih1 (i1+1) ({n4 with Items:=st}:am) l3 c3 l4 c4 ⟨cz hx1,h⟩) (bv J))
   ·obtain⟨hx,h⟩:=h
    refine aC<|au<|zo J (fD J J)<|aq<|ah<|bw (ht J) (dg hx)<|dS<|ah<|ay<|au<|aF J<|bp J<|aq<|bC h fun e3 q_e3 h=>bC h fun r7 q_r7 h=>?_
    refine tG 14 (ts:=[tV (aP b 8),rL l1 c1 n3.Aggs,bM (i:Int),tV (aP b 8),rL l1 c1 n3.Aggs,bM (i:Int),tV (pG l1 ((i:Int).toNat*2+0)),tV (pG l1 ((i:Int).toNat*2+1)),tV (pG l1 ((i:Int).toNat*2+1)),ca (bG) e3.Arg.Nodes,ca (bG) r7,tV (pG l1 ((i:Int).toNat*2+0)),tV (pG l1 ((i:Int).toNat*2+1)),tV (pG l1 ((i:Int).toNat*2+1))]) mixed J J J
     ⟨fd 2 J J J (kP 8 p8 J J J),
     ⟨bW 55 0 J J J (qy Ar td (.tail _ (.head _)) J (ht J)),
     ⟨fd 5 J J J (dA J),
     ⟨fd 2 J J J (kP 8 p8 J J J),
     ⟨bW 58 3 J J J (qy Ar td (.tail _ (.head _)) J (ht J)),
     ⟨fd 5 J J J (dA J),
     ⟨d8 59 4 60 5 J J J J (cH uE rW (.tail _ (.tail _ (.head _))) (ht J) (ht J) q_e3),
     ⟨bW 61 6 J J J (nd (o:=(i:Int).toNat*2+0) (n:=(i:Int).toNat*2+1) zJ J (.tail _ (.tail _ (.head _))) q_e3 (ht J) J),
     ⟨bW 62 7 J J J (nd (o:=(i:Int).toNat*2+1) (n:=(i:Int).toNat*2+1) ow J (.tail _ (.tail _ (.head _))) q_e3 (ht J) J),
     ⟨bW 63 8 J J J (gn (r:=eg) (i:=(i:Int)) (foff:=1) yz J J (vb te ke) J (.tail _ (.tail _ (.head _))) q_e3 (ht J)),
     ⟨bW 64 9 J J J (aD Sp (Ol _ q_r7) ⟨(ht J),aT⟩),
     ⟨d8 56 1 57 2 J J J J (cH uE rW (.tail _ (.tail _ (.head _))) (ht J) (ht J) q_e3),
     ⟨bW 66 11 J J J (nd (o:=(i:Int).toNat*2+0) (n:=(i:Int).toNat*2+1) zJ J (.tail _ (.tail _ (.head _))) q_e3 (ht J) J),
     ⟨bW 67 12 J J J (nd (o:=(i:Int).toNat*2+1) (n:=(i:Int).toNat*2+1) ow J (.tail _ (.tail _ (.head _))) q_e3 (ht J) J),
     aT⟩⟩⟩⟩⟩⟩⟩⟩⟩⟩⟩⟩⟩⟩ ?_
    refine hX<|bC h fun st1 q_st1 h=>sF yz J (Gx te Js xL) J q_e3 (so q_st1) (ht J) (ht J)<|iG (mj (so q_st1)) 56 J<|iG (mj (so q_st1)) 59 J<|Fn (O' :=[fx eg 51 l1 c1 st1,bx aI 71 b1 Ho,bx k5 71 b (od n3 (aR l1 c1 st1.length) (aR l2 c2 n3.Items.length)),fx bT 49 l2 c2 n3.Items]) (by rw [mj (so q_st1)])<|aQ<|ap<|aw<|av<|zo rfl (lY (cA hx hN) rfl)<|aF rfl<|aQ<|cK<|bF<|cK<|cK ?_;exact bf (aS (ih (i+1) ({n3 with Aggs:=st1}:am) l1 c1 l2 c2 ⟨cz hx,h⟩) (bv J))
  ·skip
   refine au<|zo J (kP 2 rG J J J)<|zo J (cd cr J J kC (.head _) (ht J))<|zo J (iu (ht J) hI)<|aq<|c9 h J (fun h=>?_) (fun h=>?_)
   ·refine av<|zo J (kP 2 rG J J J)<|zo J (cd cr J J kC (.head _) (ht J))<|aF J<|zo J (nO (ht J) (ht J))<|zo J (kP 2 rG J J J)<|ax cr J zw J (ht J) (ht J)<|aQ ?_;exact cO (K1 (am.mk n1.Op n1.A (IntKind.i64.wrap (n1.B+by1)) n1.Table n1.Kinds n1.Left n1.Cond n1.Keys n1.Aggs n1.Items n1.Order n1.Limit) h) (bv J)
   ·refine bA ?_;exact cO (K1 n1 h) (bv J)
 ·skip
  refine au<|zo J (kP 1 jT J J J)<|zo J (cd cr J J dP (.tail _ (.head _)) (ht J))<|zo J (iu (ht J) hI)<|aq<|c9 h J (fun h=>?_) (fun h=>?_)
  ·refine av<|zo J (kP 1 jT J J J)<|zo J (cd cr J J dP (.tail _ (.head _)) (ht J))<|aF J<|zo J (nO (ht J) (ht J))<|zo J (kP 1 jT J J J)<|bL<|ax cr J D7 J (ht J) (ht J)<|aQ ?_;exact cO (K (am.mk n.Op (IntKind.i64.wrap (n.A+by1)) n.B n.Table n.Kinds n.Left n.Cond n.Keys n.Aggs n.Items n.Order n.Limit) h) (bv J)
  ·refine bA<|bF ?_;exact cO (K n h) (bv J)

theorem X8(l:bN)(place:Int){R:bN×Int}(h:s6 l place=some R):aU aO 60 [tD cZ l,bM place] (tT [tD cZ R.1,bM R.2]):=by
 refine aU.of Tryz.func60 J J J fun w0 S0=>au<|zo J (je J)<|aZ (r:=cZ) (x:=I6) oW (fun _=>sJ _) J fun b=>zo J (cw)<|aq<|au<|zo J (bB oW J J)<|bC h fun r q_r h=>zo J (aD YG (MD _ q_r) ⟨(ht J),aT⟩)<|aF J<|zo J (hY J J)<|zo J (hY J J)<|zo J (hY J J)<|bp J<|bp J<|bp J<|aq<|ah<|ay ?_;refine au<|aF J<|zo J (fS (ht J))<|bp J<|aq<|c9 h J (fun h=>?_) (fun h=>?_)
 ·refine au<|zo J (ck (y:=I6) oW XR sJ (J))<|ax oW J an J (ht J) (ht J)<|zo J (cw)<|aq<|ak ?_;refine aA (ae ?_);refine bn 4 J ?_;cases so h;exact bR J J ⟨bt oW J J J,bc J,aT⟩
 ·refine au<|aF J<|zo J (gJ (ht J) hI)<|aF J<|gD J J (fun hg=>dA J)<|gD J J (fun hg=>cW qG kz J J)<|gD J J (fun hg=>bJ BD J J (bK J hg))<|gD J J (fun hg=>dO uF (bK J hg))<|gD J J (fun hg=>iu (bK J hg) (bK J hg))<|zo J (yO J J)<|bp J<|aq<|c9 h J (fun h=>?_) (fun h=>?_)
  ·refine au<|zo J (ck (y:=I6) oW XR sJ (J))<|ax oW J an J (ht J) (ht J)<|zo J (cw)<|aq<|ak ?_;refine aA (ae ?_);refine bn 4 J ?_;cases so h;exact bR J J ⟨bt oW J J J,bc J,aT⟩
  ·refine bA<|ap<|aw<|au<|bQ true aI 71<|aZ (r:=oZ) (x:=qz I6 (aR none 0 (([]:List am).length))) oW Lp J fun b1=>aq<|ah<|au<|aF J<|zo J (H2 (ht J))<|zo J (cW uc AW J J)<|zo J (bB d9 J J)<|aF J<|bC h fun e q_e h=>zo J (lX gM cr J J J q_e)<|zo J (bB cr J J)<|bp J<|aq<|ay ?_;refine bI<|jb<|jb<|qM ?_;refine aS (OS (Z:=fun n i out l1 c=>ne l place e n i out=some R) (Of:=fun i out l1 c=>[bx cZ 24 b I6,bx oZ 24 b1 (qz out (aR l1 c out.Nodes.length)),dV aI 71 l1 c out.Nodes]) (Gf:=fun i out l1 c=>[(1,bM place),(2,bO cZ l),(4,tV (aP b 0)),(6,bO bk r.1),(9,tV (aP b1 0)),(10,bM i)]) (fun i out l1 c h=>nn h) (fun n ih i out l1 c h=>?_) gX e ({I6 with Nodes:=([]:List am)}:bN) none 0 h) (bv J);refine aC<|ah<|au<|aF J<|aF J<|zo J (nN (ht J) (ht J))<|aq<|c9 h J (fun h=>?_) (fun h=>?_)
   ·refine dS<|ah<|ay<|bC h fun e1 q_e1 h=>bC h fun r1 q_r1 h=>?_
    refine tG 17 (ts:=[tV (aP b1 0),tO aI l1 c out.Nodes,bO (fW aI) l.Nodes,ca (aI) l.Nodes,bM i,bO aI e1,tD aI e1,bO bk r.1,bO bk r.1,bO nw r.1.first,lW r.1.first,bM place,bO bX e,bM e,bM (IntKind.i64.wrap (0-e)),tD aI r1,ca (aI) ([r1])]) mixed J J J
     ⟨fd 9 J J J (kP 0 qG J J J),
     ⟨bW 44 0 J J J (Pn BD Ih (.tail _ (.head _)) (.tail _ (.tail _ (.head _))) J (ht J)),
     ⟨fd 2 J J J (cW qG kz J J),
     ⟨bW 46 2 J J J (bB BD J J),
     ⟨fd 10 J J J (dA J),
     ⟨d8 47 3 48 4 J J J J (lX uF gN J J J q_e1),
     ⟨bW 49 5 J J J (bB gN J J),
     ⟨fd 6 J J J (dA J),
     ⟨bW 51 7 J J J (H2 (ht J)),
     ⟨bW 52 8 J J J (cW uc AW J J),
     ⟨bW 53 9 J J J (bB d9 J J),
     ⟨fd 1 J J J (dA J),
     ⟨d8 54 10 55 11 J J J J (lX gM cr J J J q_e),
     ⟨bW 56 12 J J J (bB cr J J),
     ⟨bW 57 13 J J J (H4 (ht J)),
     ⟨d8 50 6 58 14 J J J J (aD abM (Vw _ _ q_r1) ⟨(ht J),(ht J),aT⟩),
     ⟨bW 59 15 J J J (aV (r:=aI) (ys:=[r1]) (xs:=[.tmp 59]) uF gN J J J J J ⟨(ht J),aT⟩),
     aT⟩⟩⟩⟩⟩⟩⟩⟩⟩⟩⟩⟩⟩⟩⟩⟩⟩ ?_
    refine hX<|bC h fun l2 q_l2 h=>MZ gN J J J J uF J J (ht J) (ht J) q_l2 fun l3 c1=>zo J (kP 0 qG J J J)<|hX<|zS BD J (wS _ _ _) J (ht J) (Ru (LB (ht J)))<|aQ<|ap<|aw<|av<|aF rfl<|zo rfl (nO (ht rfl) hI)<|bp rfl<|aQ<|bF<|bF<|aK ?_;exact bf (aS (ih (IntKind.i64.wrap (i+(1:Int))) ({out with Nodes:=l2}:bN) l3 c1 h) (bv J))
   ·refine bu ?_;refine ai (ai (aN ?_));refine aw<|au<|hX<|zo rfl (EB (q:=cZ) (y:=out) oW J J J J (.tail _ (.tail _ (.head _))) (fun _ _ _ ho h=>C9 (HX ho (.head _)) h) (ht J))<|bL<|ax oW J an J (ht J) (ht J)<|zo J (cw)<|aq<|ak<|bn 4 J<|bm<|bm ?_;cases so h;exact bR J J ⟨bt oW J J J,bc J,aT⟩

theorem R0(l:bN)(b:eD){R:(List (List ac))×Int}(h:j5 l b=some R):aU aO 15 [tD cZ l,tD kG b] (tT [ca (dj) R.1,bM R.2]):=by
 refine aU.of Tryz.func15 J J J fun w0 S0=>au<|zo J (je J)<|zo J (je J)<|zo J (aL (show aJ _ _ _ vA from j9))<|zo J (cw)<|aq<|ah<|au<|zo J (bB oW J J)<|bC h fun r q_r h=>zo J (aD YH (ME _ q_r) ⟨(ht J),aT⟩)<|aF J<|zo J (hY J J)<|zo J (hY J J)<|bp J<|bp J<|aq<|au ?_;refine aF J<|zo J (tJ J)<|aq<|c9 h J (fun h=>?_) (fun h=>?_)
 ·refine au<|aF J<|zo J (aL (show aJ _ _ _ vA from j9))<|bp J<|aq<|ak<|ae ?_;cases so h;exact cJ J J J
 ·refine dS<|ah<|au<|zo J (bB oW J J)<|zo J (bB HA J J)<|bC h fun r1 q_r1 h=>zo J (aD acJ (Yr _ _ q_r1) ⟨(ht J),(ht J),aT⟩)<|zo J (fS (ht J))<|aq<|c9 h J (fun h=>?_) (fun h=>?_)
  ·refine au<|zo J (aL (show aJ _ _ _ vA from j9))<|zo J (cw)<|aq<|ak<|ae ?_;cases so h;exact cJ J J J
  ·refine dS<|au<|zo J (bB HA J J)<|zo J (ck (r:=rH ee [(1,.slice none 0 0),(2,.slice none 0 0)]) (y:=(⟨b,[],[]⟩:cT)) abZ ab7 (zH WV ⟨J,J,aT⟩) (⟨_,_,_,_,_,J,V7 QM J J,J,(ht J),J⟩))<|ym (ht J) J fun b1=>bQ true dT 32<|bQ true bX 3 ?_;refine(show RG _ _ _ _ [dV bX 3 none 0 uL,dV dT 32 none 0 ([]:List (List (List ac))),bx (rH ee [(1,aR none 0 ([]:List (List (List ac))).length),(2,aR none 0 uL.length)]) 96 b1 (⟨b,[],[]⟩:cT)] _ from ?_);refine bp J<|aq<|au<|zT (ww (fun y:(cT→am→Option (((List (List ac))×Int)×cT))=>dN aO pg (jq b1) qj y)) nu J fun b2=>aF J ?_
   refine qe ((show bP _ _ _ _ (dN aO pg (jq b1) qj Xb)from jH acD (ht J) (fun c x R h i=>by
     obtain⟨r,h1,rfl⟩:=vx.1 h
     exact iF (Ob:=fun j=>jq b1 c j) (i:=i) (ZT _ i c _ h1)))) J ?_
   refine eJ (γ:=(fun y:(cT→am→Option (((List (List ac))×Int)×cT))=>dN aO pg (jq b1) qj y)) (y:=Xb) Ak (d6 kW) (ht J) (nQ hI) (ht J) fun os=>aF J ?_
   refine qe ((show bP _ _ _ _ (dN aO pg (jq b1) qj Xa)from jH acC (ht J) (fun c x R h i=>by
     obtain⟨r,h1,rfl⟩:=vx.1 h
     exact iF (Ob:=fun j=>jq b1 c j) (i:=i) (ZS _ i c _ h1)))) J ?_
   refine eJ (γ:=(fun y:(cT→am→Option (((List (List ac))×Int)×cT))=>dN aO pg (jq b1) qj y)) (y:=Xa) Ak (d6 kW) (ht J) (nQ hI) (ht J) fun os1=>aF J ?_
   refine qe ((show bP _ _ _ _ (dN aO pg (jq b1) qj Xf)from jH acB (ht J) (fun c x R h i=>by
     obtain⟨r,h1,rfl⟩:=vx.1 h
     exact iF (Ob:=fun j=>jq b1 c j) (i:=i) (ZR _ i c _ h1)))) J ?_
   refine eJ (γ:=(fun y:(cT→am→Option (((List (List ac))×Int)×cT))=>dN aO pg (jq b1) qj y)) (y:=Xf) Ak (d6 kW) (ht J) (nQ hI) (ht J) fun os2=>aF J ?_
   refine qe ((show bP _ _ _ _ (dN aO pg (jq b1) qj Xc)from jH acA (ht J) (fun c x R h i=>by
     obtain⟨r,h1,rfl⟩:=vx.1 h
     exact iF (Ob:=fun j=>jq b1 c j) (i:=i) (ZQ _ i c _ h1)))) J ?_
   refine eJ (γ:=(fun y:(cT→am→Option (((List (List ac))×Int)×cT))=>dN aO pg (jq b1) qj y)) (y:=Xc) Ak (d6 kW) (ht J) (nQ hI) (ht J) fun os3=>aF J ?_
   refine qe ((show bP _ _ _ _ (dN aO pg (jq b1) qj Xg)from jH acz (ht J) (fun c x R h i=>by
     obtain⟨r,h1,rfl⟩:=vx.1 h
     exact iF (Ob:=fun j=>jq b1 c j) (i:=i) (ZP _ i c _ h1)))) J ?_
   refine eJ (γ:=(fun y:(cT→am→Option (((List (List ac))×Int)×cT))=>dN aO pg (jq b1) qj y)) (y:=Xg) Ak (d6 kW) (ht J) (nQ hI) (ht J) fun os4=>aF J ?_
   refine qe ((show bP _ _ _ _ (dN aO pg (jq b1) qj Xh)from jH acy (ht J) (fun c x R h i=>by
     obtain⟨r,h1,rfl⟩:=vx.1 h
     exact iF (Ob:=fun j=>jq b1 c j) (i:=i) (ZO _ i c _ h1)))) J ?_
   refine eJ (γ:=(fun y:(cT→am→Option (((List (List ac))×Int)×cT))=>dN aO pg (jq b1) qj y)) (y:=Xh) Ak (d6 kW) (ht J) (nQ hI) (ht J) fun os5=>aF J ?_
   refine qe ((show bP _ _ _ _ (dN aO pg (jq b1) qj Xe)from jH acx (ht J) (fun c x R h i=>by
     obtain⟨r,h1,rfl⟩:=vx.1 h
     exact iF (Ob:=fun j=>jq b1 c j) (i:=i) (ZN _ i c _ h1)))) J ?_
   refine eJ (γ:=(fun y:(cT→am→Option (((List (List ac))×Int)×cT))=>dN aO pg (jq b1) qj y)) (y:=Xe) Ak (d6 kW) (ht J) (nQ hI) (ht J) fun os6=>aF J ?_
   refine qe ((show bP _ _ _ _ (dN aO pg (jq b1) qj Xd)from jH acw (ht J) (fun c x R h i=>by
     obtain⟨r,h1,rfl⟩:=vx.1 h
     exact iF (Ob:=fun j=>jq b1 c j) (i:=i) (ZM _ i c _ h1)))) J ?_
   refine eJ (γ:=(fun y:(cT→am→Option (((List (List ac))×Int)×cT))=>dN aO pg (jq b1) qj y)) (y:=Xd) Ak (d6 kW) (ht J) (nQ hI) (ht J) fun os7=>aF J<|bp J<|aq<|ah<|au<|zo J (cW qG kz J J)<|zo J (bB BD J J)<|zo J (iM uF J)<|zo J (bD hI)<|aq<|ay<|ba (k:=52) J fun hN=>bI<|jb<|qM<|pz<|pz ?_;refine aS (Bo (Z:=fun ls i ob l1 c l2 c1=>(l.Nodes.drop i=ls)∧fV l ls i ob=some R) (Of:=fun _ i ob l1 c l2 c1=>[nv (ww (fun y:(cT→am→Option (((List (List ac))×Int)×cT))=>dN aO pg (jq b1) qj y)) nu b2 none os7 Qr,bx (rH ee [(1,aR l1 c ob.rows.length),(2,aR l2 c1 ob.width.length)]) 96 b1 ob,dV dT 32 l1 c ob.rows,dV bX 3 l2 c1 ob.width]) (Gf:=fun _ i ob l1 c l2 c1=>[(2,bO cZ l),(8,tV (aP b1 0)),(9,tV (qA b2)),(52,ca (aI) l.Nodes),(53,jk l.Nodes),(54,bM (i:Int))]) (fun i ob l1 c l2 c1 h=>?_) (fun e tl ih i ob l1 c l2 c1 h=>?_) l.Nodes 0 (⟨b,[],[]⟩:cT) none 0 none 0 ⟨J,h⟩) (bv J)
   ·obtain⟨hx,h⟩:=h
    refine aC<|au<|zo J (fD J J)<|aq<|ah<|bz (ht J) (di hx)<|bu ?_;refine ai (ai (aN ?_));refine aw<|ah<|bC h fun e1 q_e1 h=>?_
    refine cU (ts:=[_,_,_,_,_,_,_,_,_,_,_,_,_,_]) mixed J J
     ⟨fd 8 J J J (dA J),
     ⟨bW 119 0 J J J (dE (ht J)),
     ⟨bW 120 1 J J J (kP 1 qF J J J),
     ⟨bW 121 2 J J J (df uP J (.tail _ (.head _)) (.tail _ (.tail _ (.head _))) (ht J)),
     ⟨fd 8 J J J (dA J),
     ⟨bW 123 4 J J J (dE (ht J)),
     ⟨bW 124 5 J J J (kP 1 qF J J J),
     ⟨bW 125 6 J J J (df uP J (.tail _ (.head _)) (.tail _ (.tail _ (.head _))) (ht J)),
     ⟨bW 126 7 J J J (dO ot (lk (ht J))),
     ⟨bW 127 8 J J J (jp (ht J) hI),
     ⟨d8 122 3 128 9 J J J J (bq ot gF J (lk (ht J)) (ht J) q_e1),
     ⟨bW 129 10 J J J (bB gF J J),
     ⟨bW 130 11 J J J (uM J),
     ⟨O4 J J (cw),
     aT⟩⟩⟩⟩⟩⟩⟩⟩⟩⟩⟩⟩⟩⟩ ?_
    refine aw<|ak<|bm<|bm<|bm<|bm ?_;cases so h;exact cJ J J J
   ·obtain⟨hx,h⟩:=h
    refine aC<|au<|zo J (fD J J)<|aq<|ah<|bw (ht J) (dg hx)<|dS<|ah<|ay<|au<|aF J<|zo J (lX uF gN J J J (cS hx))<|zo J (bB gN J J)<|aZ (r:=aI) (x:=Ho) gN (fun _=>ny _) J fun b3=>bp J<|ax gN J an J (ht J) (ht J)<|aW 11 J<|aq<|ah ?_;refine av<|aF J<|zo J (cW zI o8 J J)<|zo J (bB cr J J)<|zo J (Mj (γ:=(fun y:(cT→am→Option (((List (List ac))×Int)×cT))=>dN aO pg (jq b1) (fun(x:(List (List ac))×Int)=>tT [tD dT x.1,tD bX x.2]) y)) (z:=fun _ _=>none) Ak (d6 kW) abV (fun _=>Gq) (.head _) (ht J) (nQ (ht J)))<|zo J (bB gN J J)<|bC h fun r2 q_r2 h=>zU (EffOK.fr3 (EffOK.fr3 (EffOK.fr3 (A7 (args:=pg) (Ob:=jq b1) (res:=qj) (f:=((o6 Qr e.Op).getD (fun _ _=>none))) (x:=ob) (y:=((e):am)) (R:=r2) (i:=(Wa [(l1,c),(l2,c1)])) (xs:=[.tmp 64]) _ J (ht J) q_r2 ⟨(ht J),aT⟩ (fun _=>J))))) J fun i1=>?_;refine(show RG _ _ _ _ [bx (rH ee [(1,aR (i1.h 0).1 (i1.h 0).2 r2.2.rows.length),(2,aR (i1.h 1).1 (i1.h 1).2 r2.2.width.length)]) 96 b1 r2.2,dV dT 32 (i1.h 0).1 (i1.h 0).2 r2.2.rows,dV bX 3 (i1.h 1).1 (i1.h 1).2 r2.2.width,nv (ww (fun y:(cT→am→Option (((List (List ac))×Int)×cT))=>dN aO pg (jq b1) qj y)) nu b2 none os7 Qr] ((65,tT [ca (dj) r2.1.1,bM r2.1.2])::_)from ?_);refine aF J<|zo J (hY J J)<|zo J (hY J J)<|bp J<|bp J<|aq ?_;refine kV (Z:=fun e2=>nX l (fV l tl) i e r2 e2=some R) (Of:=fun e2=>[nv (ww (fun y:(cT→am→Option (((List (List ac))×Int)×cT))=>dN aO pg (jq b1) qj y)) nu b2 none os7 Qr,bx (rH ee [(1,aR (i1.h 0).1 (i1.h 0).2 r2.2.rows.length),(2,aR (i1.h 1).1 (i1.h 1).2 r2.2.width.length)]) 96 b1 r2.2,dV dT 32 (i1.h 0).1 (i1.h 0).2 r2.2.rows,dV bX 3 (i1.h 1).1 (i1.h 1).2 r2.2.width]) (Gf:=fun e2=>[(2,bO cZ l),(8,tV (aP b1 0)),(9,tV (qA b2)),(10,bM (i:Int)),(11,bO aI e),(12,ca (dj) r2.1.1),(13,bM e2),(52,ca (aI) l.Nodes),(53,jk l.Nodes),(54,bM (i:Int))]) (fun e2 h=>?_) (fun K=>?_)
    ·skip
     refine ah<|au<|aF J<|zo J (tJ J)<|aq<|c9 h J (fun h=>?_) (fun h=>?_)
     ·refine au<|aF J<|zo J (aL (show aJ _ _ _ vA from j9))<|bp J<|aq<|ak ?_;refine ae (aA (ae (ae (aA (ae ?_)))));refine bm<|bm<|bm<|bm ?_;cases so h;exact cJ J J J
     ·refine dS ?_;refine kV (Z:=fun rows=>nW l (fV l tl) i r2 rows=some R) (Of:=fun rows=>[nv (ww (fun y:(cT→am→Option (((List (List ac))×Int)×cT))=>dN aO pg (jq b1) qj y)) nu b2 none os7 Qr,bx (rH ee [(1,aR (i1.h 0).1 (i1.h 0).2 r2.2.rows.length),(2,aR (i1.h 1).1 (i1.h 1).2 r2.2.width.length)]) 96 b1 r2.2,dV dT 32 (i1.h 0).1 (i1.h 0).2 r2.2.rows,dV bX 3 (i1.h 1).1 (i1.h 1).2 r2.2.width]) (Gf:=fun rows=>[(2,bO cZ l),(8,tV (aP b1 0)),(9,tV (qA b2)),(10,bM (i:Int)),(12,ca (dj) rows),(52,ca (aI) l.Nodes),(53,jk l.Nodes),(54,bM (i:Int))]) (fun rows h=>?_) (fun K1=>?_)
      ·skip
       refine au<|zo J (bB oW J J)<|aF J<|bC h fun r3 q_r3 h=>zo J (aD acu (X8 _ _ q_r3) ⟨(ht J),(ht J),aT⟩)<|aF J<|zo J (hY J J)<|zo J (hY J J)<|aZ (r:=cZ) (x:=I6) oW (fun _=>sJ _) J fun b4=>ax oW J an J (ht J) (ht J)<|aW 14 J<|bp J<|aq<|au<|zo J (bB oW J J)<|bC h fun r4 q_r4 h=>zo J (aD aaS (RQ _ q_r4) ⟨(ht J),aT⟩)<|aF J<|zo J (hY J J)<|zo J (hY J J)<|bp J ?_;refine bp J<|aq<|bC h fun l3 q_l3 h=>bC h fun l4 q_l4 h=>?_
       refine oM 20 [tc (tV (aP b1 0)),tc (tV (aP b1 0)),tc (tV (aP b1 0)),tc (tV (aP b1 0)),tc (tV (aP b1 1)),tc (tO dT (i1.h 0).1 (i1.h 0).2 r2.2.rows),tc (ca (dj) rows),tc (ca (dT) ([rows])),([8],fun s=>tO dT ((s.getD 0 pE).h 0).1 ((s.getD 0 pE).h 0).2 l3),tc (tV (aP b1 0)),tc (tV (aP b1 0)),tc (tV (aP b1 2)),tc (tO bX (i1.h 1).1 (i1.h 1).2 r2.2.width),tc (lW r4.1),tc (jk r4.1),tc (lW ([(r4.1.length:Int)])),([16],fun s=>tO bX ((s.getD 0 pE).h 0).1 ((s.getD 0 pE).h 0).2 l4),tc (tV (aP b1 0)),tc (tV (aP b1 1)),tc (C3)] [false,false,false,false,false,false,false,false,true,false,false,false,false,false,false,false,true,false,false,true] [fun _=>[nv (ww (fun y:(cT→am→Option (((List (List ac))×Int)×cT))=>dN aO pg (jq b1) qj y)) nu b2 none os7 Qr,bx (rH ee [(1,aR (i1.h 0).1 (i1.h 0).2 r2.2.rows.length),(2,aR (i1.h 1).1 (i1.h 1).2 r2.2.width.length)]) 96 b1 r2.2,dV dT 32 (i1.h 0).1 (i1.h 0).2 r2.2.rows,dV bX 3 (i1.h 1).1 (i1.h 1).2 r2.2.width],fun sg=>[dV dT 32 ((sg 8).h 0).1 ((sg 8).h 0).2 l3,nv (ww (fun y:(cT→am→Option (((List (List ac))×Int)×cT))=>dN aO pg (jq b1) qj y)) nu b2 none os7 Qr,bx (rH ee [(1,aR (i1.h 0).1 (i1.h 0).2 r2.2.rows.length),(2,aR (i1.h 1).1 (i1.h 1).2 r2.2.width.length)]) 96 b1 r2.2,dV bX 3 (i1.h 1).1 (i1.h 1).2 r2.2.width],fun sg=>[dV bX 3 ((sg 16).h 0).1 ((sg 16).h 0).2 l4,dV dT 32 ((sg 8).h 0).1 ((sg 8).h 0).2 l3,nv (ww (fun y:(cT→am→Option (((List (List ac))×Int)×cT))=>dN aO pg (jq b1) qj y)) nu b2 none os7 Qr,bx (rH ee [(1,aR (i1.h 0).1 (i1.h 0).2 r2.2.rows.length),(2,aR (i1.h 1).1 (i1.h 1).2 r2.2.width.length)]) 96 b1 r2.2],fun sg=>[bx (rH ee [(1,aR ((sg 8).h 0).1 ((sg 8).h 0).2 l3.length),(2,aR (i1.h 1).1 (i1.h 1).2 r2.2.width.length)]) 96 b1 ({r2.2 with rows:=l3}:cT),dV bX 3 ((sg 16).h 0).1 ((sg 16).h 0).2 l4,dV dT 32 ((sg 8).h 0).1 ((sg 8).h 0).2 l3,nv (ww (fun y:(cT→am→Option (((List (List ac))×Int)×cT))=>dN aO pg (jq b1) qj y)) nu b2 none os7 Qr]] J mixed J J J J J
        ⟨⟨[⟨8,fun _=>tV (aP b1 0),none⟩],_,0,2,J,⟨(fun _=>J),aT⟩,J,J,J,J,J,fun _ sg _ _=>aB J (dA J)⟩,
        ⟨⟨[⟨8,fun _=>tV (aP b1 0),none⟩],_,0,3,J,⟨(fun _=>J),aT⟩,J,J,J,J,J,fun _ sg _ _=>aB J (dA J)⟩,
        ⟨⟨[⟨8,fun _=>tV (aP b1 0),none⟩],_,0,0,J,⟨(fun _=>J),aT⟩,J,J,J,J,J,fun _ sg _ _=>aB J (dA J)⟩,
        ⟨⟨[⟨99,fun _=>tV (aP b1 0),some 2⟩],_,0,0,J,⟨(fun _=>J),aT⟩,J,J,J,J,J,fun _ sg _ _=>aB J (dE (ht J))⟩,
        ⟨⟨[⟨100,fun _=>tV (aP b1 0),some 3⟩],_,0,0,J,⟨(fun _=>J),aT⟩,J,J,J,J,J,fun _ sg _ _=>aB J (kP 1 qF J J J)⟩,
        ⟨⟨[⟨101,fun _=>tV (aP b1 1),some 4⟩],_,0,0,J,⟨(fun _=>J),aT⟩,J,J,J,J,J,zj (fun sg=>aB J (df uP J (.tail _ (.head _)) (.tail _ (.tail _ (.head _))) (ht J)))⟩,
        ⟨⟨[⟨12,fun _=>tD dT rows,none⟩],_,0,0,J,⟨(fun _=>J),aT⟩,J,J,J,J,J,fun _ sg _ _=>aB J (dA J)⟩,
        ⟨⟨[⟨103,fun _=>tD dT rows,some 6⟩],_,0,0,J,⟨(fun _=>J),aT⟩,J,J,J,J,J,fun _ sg _ _=>aB J (aV (r:=dT) (ys:=[rows]) (xs:=[.tmp 103]) ot gF J J J J J ⟨(ht J),aT⟩)⟩,
        ⟨⟨[⟨102,fun _=>tO dT (i1.h 0).1 (i1.h 0).2 r2.2.rows,some 5⟩,⟨104,fun _=>tD (fW dT) ([rows]),some 7⟩],_,J,⟨(fun _=>J),(fun _=>J),aT⟩,J,J,J,fun sg=>eC J (EffOK.fr2 (ue gF J J J J ot J (ht J) (ht J) q_l3))⟩,
        ⟨⟨[⟨8,fun _=>tV (aP b1 0),none⟩],_,0,1,J,⟨(fun _=>J),aT⟩,J,J,J,J,J,fun _ sg _ _=>aB J (dA J)⟩,
        ⟨⟨[⟨106,fun _=>tV (aP b1 0),some 9⟩],_,0,1,J,⟨(fun _=>J),aT⟩,J,J,J,J,J,fun _ sg _ _=>aB J (dE (ht J))⟩,
        ⟨⟨[⟨107,fun _=>tV (aP b1 0),some 10⟩],_,0,1,J,⟨(fun _=>J),aT⟩,J,J,J,J,J,fun _ sg _ _=>aB J (kP 2 My J J J)⟩,
        ⟨⟨[⟨108,fun _=>tV (aP b1 2),some 11⟩],_,0,1,J,⟨(fun _=>J),aT⟩,J,J,J,J,J,FK (fun sg=>aB J (df d9 J (.tail _ (.head _)) (.tail _ (.tail _ (.tail _ (.head _)))) (ht J))) (zj (fun sg=>aB J (df d9 J (.tail _ (.tail _ (.head _))) (.tail _ (.tail _ (.tail _ (.head _)))) (ht J))))⟩,
        ⟨⟨[⟨16,fun _=>tD wM r4.1,none⟩],_,0,1,J,⟨(fun _=>J),aT⟩,J,J,J,J,J,fun _ sg _ _=>aB J (dA J)⟩,
        ⟨⟨[⟨110,fun _=>tD wM r4.1,some 13⟩],_,0,1,J,⟨(fun _=>J),aT⟩,J,J,J,J,J,fun _ sg _ _=>aB J (iM gM J)⟩,
        ⟨⟨[⟨111,fun _=>tD bX (r4.1.length:Int),some 14⟩],_,0,1,J,⟨(fun _=>J),aT⟩,J,J,J,J,J,fun _ sg _ _=>aB J (aV (r:=bX) (ys:=[(r4.1.length:Int)]) (xs:=[.tmp 111]) gM cr J J J J J ⟨(ht J),aT⟩)⟩,
        ⟨⟨[⟨109,fun _=>tO bX (i1.h 1).1 (i1.h 1).2 r2.2.width,some 12⟩,⟨112,fun _=>tD wM ([(r4.1.length:Int)]),some 15⟩],_,J,⟨(fun _=>J),(fun _=>J),aT⟩,J,J,J,fun sg=>eC J (EffOK.fr3 (ue cr J J J J gM J (ht J) (ht J) q_l4))⟩,
        ⟨⟨[⟨97,fun _=>tV (aP b1 0),some 0⟩],_,2,2,J,⟨(fun _=>J),aT⟩,J,J,J,J,J,fun _ sg _ _=>aB J (dE (ht J))⟩,
        ⟨⟨[⟨114,fun _=>tV (aP b1 0),some 17⟩],_,2,2,J,⟨(fun _=>J),aT⟩,J,J,J,J,J,fun _ sg _ _=>aB J (kP 1 qF J J J)⟩,
        ⟨⟨[⟨115,fun _=>tV (aP b1 1),some 18⟩,⟨105,fun sg=>tO dT ((sg 8).h 0).1 ((sg 8).h 0).2 l3,some 8⟩],_,J,⟨(fun _=>J),(fun _=>J),aT⟩,J,J,J,fun sg=>eC J (EffOK.fr3 (vX (hs' :=[(1,aR ((sg 8).h 0).1 ((sg 8).h 0).2 l3.length),(2,aR (i1.h 1).1 (i1.h 1).2 r2.2.width.length)]) (u:=aR ((sg 8).h 0).1 ((sg 8).h 0).2 l3.length) uP J J QL J ⟨.inl ⟨J,J,J⟩,.inr ⟨J,J⟩,aT⟩ (ht J) (lk (ht J)) (LB (ht J))))⟩,
        aT⟩⟩⟩⟩⟩⟩⟩⟩⟩⟩⟩⟩⟩⟩⟩⟩⟩⟩⟩⟩ (fun sg=>?_)
       refine(show RG _ _ _ _ [bx (rH ee [(1,aR ((sg 8).h 0).1 ((sg 8).h 0).2 l3.length),(2,aR (i1.h 1).1 (i1.h 1).2 r2.2.width.length)]) 96 b1 ({r2.2 with rows:=l3}:cT),dV bX 3 ((sg 16).h 0).1 ((sg 16).h 0).2 l4,dV dT 32 ((sg 8).h 0).1 ((sg 8).h 0).2 l3,nv (ww (fun y:(cT→am→Option (((List (List ac))×Int)×cT))=>dN aO pg (jq b1) qj y)) nu b2 none os7 Qr] _ from ?_);refine zo J (dE (ht J))<|zo J (kP 2 My J J J)<|uj (vX (hs' :=[(1,aR ((sg 8).h 0).1 ((sg 8).h 0).2 l3.length),(2,aR ((sg 16).h 0).1 ((sg 16).h 0).2 l4.length)]) (u:=aR ((sg 16).h 0).1 ((sg 16).h 0).2 l4.length) d9 J J QK J ⟨.inr ⟨J,J⟩,.inl ⟨J,J,J⟩,aT⟩ (ht J) (lk (ht J)) (LB (ht J))) fun i2=>?_;refine(show RG _ _ _ _ [bx (rH ee [(1,aR ((sg 8).h 0).1 ((sg 8).h 0).2 l3.length),(2,aR ((sg 16).h 0).1 ((sg 16).h 0).2 l4.length)]) 96 b1 ({({r2.2 with rows:=l3}:cT)with width:=l4}:cT),dV bX 3 ((sg 16).h 0).1 ((sg 16).h 0).2 l4,dV dT 32 ((sg 8).h 0).1 ((sg 8).h 0).2 l3,nv (ww (fun y:(cT→am→Option (((List (List ac))×Int)×cT))=>dN aO pg (jq b1) qj y)) nu b2 none os7 Qr] _ from ?_);refine aQ<|ap<|aw<|av<|zo rfl (lY (cA hx hN) rfl)<|aF rfl<|aQ<|bF<|aK<|aK<|cK ?_;exact bf (aS (ih (i+1) ({({r2.2 with rows:=l3}:cT)with width:=l4}:cT) ((sg 8).h 0).1 ((sg 8).h 0).2 ((sg 16).h 0).1 ((sg 16).h 0).2 ⟨cz hx,h⟩) (bv J))
      ·skip
       refine au<|zo J (cW zI o8 J J)<|zo J (bB cr J J)<|zo J (tJ J)<|aq<|c9 h J (fun h=>?_) (fun h=>?_)
       ·refine av<|aF J<|bC h fun r5 q_r5 h=>zo J (aD acv (X9 _ q_r5) ⟨(ht J),aT⟩)<|aF J<|zo J (hY J J)<|zo J (hY J J)<|bp J<|aQ ?_;exact cO (K1 r5.1 h) (bv J)
       ·refine bA ?_;exact cO (K1 r2.1.1 h) (bv J)
    ·skip
     refine au<|aF J<|zo J (np J)<|aF J<|dC J J (fun hg=>dA J)<|dC J J (fun hg=>dO jW (bK J hg))<|dC J J (fun hg=>gu (bK J hg) hI)<|zo J (uK J J)<|aq<|c9 h J (fun h=>?_) (fun h=>?_)
     ·refine av<|zo J (cw)<|aQ<|aK<|aK<|aK<|cK ?_;exact cO (K (3:Int) h) (bv J)
     ·refine bA<|aK<|aK<|aK<|cK ?_;exact cO (K r2.1.2 h) (bv J)

end Go.Proofs.YtfhhakidodmdfaaGreatDoor

