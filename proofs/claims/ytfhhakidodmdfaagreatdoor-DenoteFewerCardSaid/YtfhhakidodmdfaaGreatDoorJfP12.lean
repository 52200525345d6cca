/- cU of this claim: P12. -/
import Derived.Test.YtfhhakidodmdfaaGreatDoorJfT
import Derived.Test.YtfhhakidodmdfaaGreatDoorJfP11
set_option linter.all false
namespace Go.Proofs.YtfhhakidodmdfaaGreatDoor
open Go
set_option maxRecDepth 100000

theorem aaI(b:Nat)(ix:OI)(r:cZ)(n:aj){R:(List (List ac))×Int}(h:kH r n=some R):dd aQ 58 [tV (aO b 0),tD aF n] (jC b r ix) (fun _:OI=>tT [bW (cR) R.1,bN R.2]) (fun _=>(jC b r ix)):=by
 refine dd.of Tryz.func58 J J J fun w0 S0=>?_;refine(show CG _ _ _ [bx (rH ee [(1,aT (ix.h 0).1 (ix.h 0).2 r.rows.length),(2,aT (ix.h 1).1 (ix.h 1).2 r.width.length)]) 96 b r,dW dU 32 (ix.h 0).1 (ix.h 0).2 r.rows,dW ca 3 (ix.h 1).1 (ix.h 1).2 r.width] _ from ?_);refine aw<|zo J (js J)<|zo J (aM (show aJ _ _ _ wq from kE))<|zo J (cy)<|av<|ah<|bB h fun e q_e h=>bB h fun r1 q_r1 h=>?_
 refine da (ts:=[_,_,_,_,_,_,_,_,_,_,_,_,_,_,_]) mixed J J
  ⟨eH 0 J J J (de J),
  ⟨bZ 6 0 J J J (dF (ht J)),
  ⟨bZ 7 1 J J J (jY 1 rj J J J),
  ⟨bZ 8 2 J J J (dl vB J (.head _) (.tail _ (.head _)) (ht J)),
  ⟨eH 3 J J J (c9 jH dS J J),
  ⟨bZ 10 4 J J J (bC cr J J),
  ⟨d3 9 3 11 5 J J J J (br o3 gU J (lb (ht J)) (ht J) q_e),
  ⟨bZ 12 6 J J J (bC gU J J),
  ⟨eH 3 J J J (c9 qw lE J J),
  ⟨bZ 14 8 J J J (bC DU J J),
  ⟨eH 3 J J J (c9 uV oD J J),
  ⟨bZ 16 10 J J J (bC cr J J),
  ⟨De 13 7 15 9 17 11 J J J J J (aB adh (YZ _ _ _ q_r1) ⟨(ht J),(ht J),(ht J),aS⟩),
  ⟨bZ 18 12 J J J (vx J),
  ⟨Qg J J (cy),
  aS⟩⟩⟩⟩⟩⟩⟩⟩⟩⟩⟩⟩⟩⟩⟩ ?_
 refine ax<|am<|aL<|aL<|aL ?_;cases so h;exact d8 (ts:=[bW (cR) r1,bN 0]) (rvs:=[.tmp 4,.tmp 5]) J J ⟨aZ J,aZ J,aS⟩ p7 J J

theorem Y5(l:(List (List ac))){R:(List (List ac))×Int}(h:wE l=some R):aW aQ 59 [bW (cR) l] (tT [bW (cR) R.1,bN R.2]):=by
 refine aW.of Tryz.func59 J J J fun w0 S0=>aw<|zo J (aM (show aJ _ _ _ wq from kE))<|zo J (cy)<|av<|ah<|aw<|aG J<|zo J (aU (r:=dU) (ys:=[l]) (xs:=[.tmp 5]) o3 gU J J J J J ⟨(ht J),aS⟩)<|bB h fun r q_r h=>zo J (aB ZC (NU _ q_r) ⟨(ht J),aS⟩)<|bq J<|av<|aw<|aG J<|zo J (s8 J)<|av<|c0 h J (fun h=>?_) (fun h=>?_)
 ·refine aw<|aG J<|zo J (aM (show aJ _ _ _ wq from kE))<|bq J<|av<|am<|ae ?_;cases so h;exact cP J J J
 ·refine dP<|aw<|aG J<|bB h fun r1 q_r1 h=>jd XV (LK _ q_r1) ⟨(ht J),aS⟩ J fun l1 c=>bq J<|zo J (cy)<|av<|am<|jQ<|cG 2 J<|cG 12 J<|jR 2 J<|bf ?_;cases so h;exact cP J J J

theorem SW(s:(List fq)){R:(List fq)}(h:d4 s=some R):gp aQ 187 [bW (fX) s] false fX 60 R:=by
 refine gp.of Tryz.func187 J J J fun w0 S0=>aw<|bP false fX 60<|zo J (aM ud)<|av<|ah<|aw<|aG J<|ut DL (ht J) J fun isnil hisnil=>av<|pu (ht J) (fun hc=>?_) (fun hc=>?_)
 ·have hx:=hisnil hc
  have h:some ([]:List fq)=some R:=by simpa [d4,app,hx] using h
  refine aw<|bP false fX 60<|zo J (aM ud)<|av<|am<|ae ?_;cases so h;exact gC J J
 ·refine dP<|aw<|ky (r:=fX) (ys:=([]:List fq)) (xs:=[]) DL Kl J J J J J trivial J fun l c=>aG J<|bB h fun x q_x h=>db Kl J J J J DL J J (ht J) (ht J) q_x fun l1 c1=>bq J<|av<|am ?_;cases so h;exact gC J J
theorem V4(s:(List fq)){R:(List fq)}(h:d4 s=some R):aW aQ 187 [bW (fX) s] (bW (fX) R):=(SW _ h).spec

theorem LH(s:(List bp)){R:(List bp)}(h:cn s=some R):gp aQ 188 [bW (bO) s] false bO 80 R:=by
 refine gp.of Tryz.func188 J J J fun w0 S0=>aw<|bP false bO 80<|zo J (aM ud)<|av<|ah<|aw<|aG J<|ut xw (ht J) J fun isnil hisnil=>av<|pu (ht J) (fun hc=>?_) (fun hc=>?_)
 ·have hx:=hisnil hc
  have h:some ([]:List bp)=some R:=by simpa [cn,app,hx] using h
  refine aw<|bP false bO 80<|zo J (aM ud)<|av<|am<|ae ?_;cases so h;exact gC J J
 ·refine dP<|aw<|ky (r:=bO) (ys:=([]:List bp)) (xs:=[]) xw p8 J J J J J trivial J fun l c=>aG J<|bB h fun x q_x h=>db p8 J J J J xw J J (ht J) (ht J) q_x fun l1 c1=>bq J<|av<|am ?_;cases so h;exact gC J J
theorem Pu(s:(List bp)){R:(List bp)}(h:cn s=some R):aW aQ 188 [bW (bO) s] (bW (bO) R):=(LH _ h).spec

theorem SV(s:(List hU)){R:(List hU)}(h:fg s=some R):gp aQ 189 [bW (fG) s] false fG 51 R:=by
 refine gp.of Tryz.func189 J J J fun w0 S0=>aw<|bP false fG 51<|zo J (aM ud)<|av<|ah<|aw<|aG J<|ut xv (ht J) J fun isnil hisnil=>av<|pu (ht J) (fun hc=>?_) (fun hc=>?_)
 ·have hx:=hisnil hc
  have h:some ([]:List hU)=some R:=by simpa [fg,app,hx] using h
  refine aw<|bP false fG 51<|zo J (aM ud)<|av<|am<|ae ?_;cases so h;exact gC J J
 ·refine dP<|aw<|ky (r:=fG) (ys:=([]:List hU)) (xs:=[]) xv uE J J J J J trivial J fun l c=>aG J<|bB h fun x q_x h=>db uE J J J J xv J J (ht J) (ht J) q_x fun l1 c1=>bq J<|av<|am ?_;cases so h;exact gC J J
theorem SU(s:(List bJ)){R:(List bJ)}(h:ep s=some R):gp aQ 190 [bW (co) s] false co 49 R:=by
 refine gp.of Tryz.func190 J J J fun w0 S0=>aw<|bP false co 49<|zo J (aM ud)<|av<|ah<|aw<|aG J<|ut xH (ht J) J fun isnil hisnil=>av<|pu (ht J) (fun hc=>?_) (fun hc=>?_)
 ·have hx:=hisnil hc
  have h:some ([]:List bJ)=some R:=by simpa [ep,app,hx] using h
  refine aw<|bP false co 49<|zo J (aM ud)<|av<|am<|ae ?_;cases so h;exact gC J J
 ·refine dP<|aw<|ky (r:=co) (ys:=([]:List bJ)) (xs:=[]) xH kQ J J J J J trivial J fun l c=>aG J<|bB h fun x q_x h=>db kQ J J J J xH J J (ht J) (ht J) q_x fun l1 c1=>bq J<|av<|am ?_;cases so h;exact gC J J
theorem Js(n:aj)(by1:Int){R:aj}(h:oT n by1=some R):aW aQ 110 [tD aF n,bN by1] (tD aF R):=by
 refine aW.of Tryz.func110 J J J fun w0 S0=>aw<|xd (ht J) J fun b=>aX (r:=aF) (x:=Id) fL (fun _=>ln _) J fun b1=>av ?_;refine kL (Z:=fun n1=>pr by1 n1=some R) (Of:=fun n1=>[bx aF 71 b n1,bx aF 71 b1 Id]) (Gf:=fun n1=>[(1,bN by1),(2,tV (aO b 0)),(4,tV (aO b1 0))]) (fun n1 h=>?_) (fun K=>?_)
 ·skip
  refine kL (Z:=fun n2=>nu n2=some R) (Of:=fun n2=>[bx aF 71 b n2,bx aF 71 b1 Id]) (Gf:=fun n2=>[(2,tV (aO b 0)),(4,tV (aO b1 0))]) (fun n2 h=>?_) (fun K1=>?_)
  ·skip
   refine ah<|bB h fun r q_r h=>bB h fun r1 q_r1 h=>bB h fun r2 q_r2 h=>?_
   refine qJ 10 (ts:=[tV (aO b 4),mK n2.Kinds,mK r,tV (aO b 7),mK n2.Keys,mK r1,tV (aO b 10),bW (fX) n2.Order,bW (fX) r2,tV (aO b 4)]) mixed J J J
    ⟨eH 2 J J J (jY 4 vi J J J),
    ⟨bZ 23 0 J J J (ce ea J J oC (.head _) (ht J)),
    ⟨bZ 24 1 J J J (aB Ti (SP _ q_r) ⟨(ht J),aS⟩),
    ⟨eH 2 J J J (jY 7 uh J J J),
    ⟨bZ 26 3 J J J (ce ea J J m6 (.head _) (ht J)),
    ⟨bZ 27 4 J J J (aB Ti (SP _ q_r1) ⟨(ht J),aS⟩),
    ⟨eH 2 J J J (jY 10 qw J J J),
    ⟨bZ 29 6 J J J (ce DU J J lE (.head _) (ht J)),
    ⟨bZ 30 7 J J J (aB ab8 (V4 _ q_r2) ⟨(ht J),aS⟩),
    ⟨eH 2 J J J (jY 4 vi J J J),
    aS⟩⟩⟩⟩⟩⟩⟩⟩⟩⟩ ?_
   refine aq ea J Aw J (ht J) (ht J)<|zo J (jY 7 uh J J J)<|aq ea J EV J (ht J) (ht J)<|zo J (jY 10 qw J J J)<|aq DU J yc J (ht J) (ht J)<|av<|aw<|zo J (jY 6 sE J J J)<|zo J (jY 6 qx J J J)<|zo J (ce Bf J J (vS lM mj) (.head _) (ht J))<|bB h fun r3 q_r3 h=>jd Tq (LH _ q_r3) ⟨(ht J),aS⟩ J fun l c=>zo J (jY 6 sE J J J)<|zo J (jY 6 qx J J J)<|kJ<|jM 38 J<|bH<|aq Bf J (Hm lM wy yX) J (ht J) (lb (ht J))<|av<|ah<|bB h fun r4 q_r4 h=>?_
   obtain⟨r5,q_r5,h⟩:=bs h
   refine pn 7 [tc (tV (aO b 8)),tc (bW (fG) (({(aj.mk n2.Op n2.A n2.B n2.Table r n2.Left n2.Cond r1 n2.Aggs n2.Items r2 n2.Limit)with Cond:=({(aj.mk n2.Op n2.A n2.B n2.Table r n2.Left n2.Cond r1 n2.Aggs n2.Items r2 n2.Limit).Cond with Nodes:=r3}:bJ)}:aj).Aggs)),([2],fun s=>tV (aT ((s.getD 0 p7).h 0).1 ((s.getD 0 p7).h 0).2 r4.length)),tc (tV (aO b 9)),tc (bW (co) (({(aj.mk n2.Op n2.A n2.B n2.Table r n2.Left n2.Cond r1 n2.Aggs n2.Items r2 n2.Limit)with Cond:=({(aj.mk n2.Op n2.A n2.B n2.Table r n2.Left n2.Cond r1 n2.Aggs n2.Items r2 n2.Limit).Cond with Nodes:=r3}:bJ)}:aj).Items)),([5],fun s=>tV (aT ((s.getD 0 p7).h 0).1 ((s.getD 0 p7).h 0).2 r5.length)),tc (tV (aO b 8))] [false,false,true,false,false,true,false] [fun _=>[bx aF 71 b ({(aj.mk n2.Op n2.A n2.B n2.Table r n2.Left n2.Cond r1 n2.Aggs n2.Items r2 n2.Limit)with Cond:=({(aj.mk n2.Op n2.A n2.B n2.Table r n2.Left n2.Cond r1 n2.Aggs n2.Items r2 n2.Limit).Cond with Nodes:=r3}:bJ)}:aj),dW bO 80 l c r3,bx aF 71 b1 Id],fun sg=>[fE fG 51 ((sg 2).h 0).1 ((sg 2).h 0).2 r4,bx aF 71 b ({(aj.mk n2.Op n2.A n2.B n2.Table r n2.Left n2.Cond r1 n2.Aggs n2.Items r2 n2.Limit)with Cond:=({(aj.mk n2.Op n2.A n2.B n2.Table r n2.Left n2.Cond r1 n2.Aggs n2.Items r2 n2.Limit).Cond with Nodes:=r3}:bJ)}:aj),dW bO 80 l c r3,bx aF 71 b1 Id],fun sg=>[fE co 49 ((sg 5).h 0).1 ((sg 5).h 0).2 r5,fE fG 51 ((sg 2).h 0).1 ((sg 2).h 0).2 r4,bx aF 71 b ({(aj.mk n2.Op n2.A n2.B n2.Table r n2.Left n2.Cond r1 n2.Aggs n2.Items r2 n2.Limit)with Cond:=({(aj.mk n2.Op n2.A n2.B n2.Table r n2.Left n2.Cond r1 n2.Aggs n2.Items r2 n2.Limit).Cond with Nodes:=r3}:bJ)}:aj),dW bO 80 l c r3,bx aF 71 b1 Id]] J mixed J J J J J
    ⟨⟨[⟨2,fun _=>tV (aO b 0),none⟩],_,0,0,J,⟨(fun _=>J),aS⟩,J,J,J,J,J,fun _ sg _ _=>aC J (jY 8 rl J J J)⟩,
    ⟨⟨[⟨41,fun _=>tV (aO b 8),some 0⟩],_,0,0,J,⟨(fun _=>J),aS⟩,J,J,J,J,J,Ar (fun sg=>aC J (ce Cl J J oB (.head _) (ht J)))⟩,
    ⟨⟨[⟨42,fun _=>tD (gi fG) (({(aj.mk n2.Op n2.A n2.B n2.Table r n2.Left n2.Cond r1 n2.Aggs n2.Items r2 n2.Limit)with Cond:=({(aj.mk n2.Op n2.A n2.B n2.Table r n2.Left n2.Cond r1 n2.Aggs n2.Items r2 n2.Limit).Cond with Nodes:=r3}:bJ)}:aj).Aggs),some 1⟩],_,J,⟨(fun _=>J),aS⟩,J,J,J,fun sg=>eC J (HN (xs:=[.tmp 42]) (ts:=[tD (gi fG) (({(aj.mk n2.Op n2.A n2.B n2.Table r n2.Left n2.Cond r1 n2.Aggs n2.Items r2 n2.Limit)with Cond:=({(aj.mk n2.Op n2.A n2.B n2.Table r n2.Left n2.Cond r1 n2.Aggs n2.Items r2 n2.Limit).Cond with Nodes:=r3}:bJ)}:aj).Aggs)]) ab7 (SV _ q_r4) ⟨(ht J),aS⟩)⟩,
    ⟨⟨[⟨2,fun _=>tV (aO b 0),none⟩],_,0,1,J,⟨(fun _=>J),aS⟩,J,J,J,J,J,fun _ sg _ _=>aC J (jY 9 rk J J J)⟩,
    ⟨⟨[⟨44,fun _=>tV (aO b 9),some 3⟩],_,0,1,J,⟨(fun _=>J),aS⟩,J,J,J,J,J,Gv (fun sg=>aC J (ce Be J J m5 (.head _) (ht J))) (Ar (fun sg=>aC J (ce Be J J m5 (.tail _ (.head _)) (ht J))))⟩,
    ⟨⟨[⟨45,fun _=>tD (gi co) (({(aj.mk n2.Op n2.A n2.B n2.Table r n2.Left n2.Cond r1 n2.Aggs n2.Items r2 n2.Limit)with Cond:=({(aj.mk n2.Op n2.A n2.B n2.Table r n2.Left n2.Cond r1 n2.Aggs n2.Items r2 n2.Limit).Cond with Nodes:=r3}:bJ)}:aj).Items),some 4⟩],_,J,⟨(fun _=>J),aS⟩,J,J,J,fun sg=>eC J (HN (xs:=[.tmp 45]) (ts:=[tD (gi co) (({(aj.mk n2.Op n2.A n2.B n2.Table r n2.Left n2.Cond r1 n2.Aggs n2.Items r2 n2.Limit)with Cond:=({(aj.mk n2.Op n2.A n2.B n2.Table r n2.Left n2.Cond r1 n2.Aggs n2.Items r2 n2.Limit).Cond with Nodes:=r3}:bJ)}:aj).Items)]) ab6 (SU _ q_r5) ⟨(ht J),aS⟩)⟩,
    ⟨⟨[⟨2,fun _=>tV (aO b 0),none⟩],_,1,2,J,⟨(fun _=>J),aS⟩,J,J,J,J,J,fun _ sg _ _=>aC J (jY 8 rl J J J)⟩,
    aS⟩⟩⟩⟩⟩⟩⟩ (fun sg=>?_)
   refine(show RG _ _ _ _ [fE co 49 ((sg 5).h 0).1 ((sg 5).h 0).2 r5,fE fG 51 ((sg 2).h 0).1 ((sg 2).h 0).2 r4,bx aF 71 b ({(aj.mk n2.Op n2.A n2.B n2.Table r n2.Left n2.Cond r1 n2.Aggs n2.Items r2 n2.Limit)with Cond:=({(aj.mk n2.Op n2.A n2.B n2.Table r n2.Left n2.Cond r1 n2.Aggs n2.Items r2 n2.Limit).Cond with Nodes:=r3}:bJ)}:aj),dW bO 80 l c r3,bx aF 71 b1 Id] _ from ?_);refine il<|ur Cl J (At _ _) J (ht J) (QK (ht J))<|zo J (jY 9 rk J J J)<|ur Be J (ww _ _ _) J (ht J) (QK (ht J))<|av<|ah<|aw<|zo J (jY 8 rl J J J)<|zo J (q8 Cl uf (.head _) J (ht J))<|zo J (jO xv (.tail _ (.tail _ (.head _))) (ht J))<|zo J (bE hI)<|av<|ay<|o0 (.tail _ (.tail _ (.head _))) fun hN=>bL<|nV<|rL<|im<|rt<|rt<|nV ?_;refine aR (yO (Z:=fun ls i n3 l1 c1 l2 c2=>(r4.drop i=ls)∧nt ls i n3=some R) (Of:=fun _ i n3 l1 c1 l2 c2=>[bx aF 71 b1 Id,bx lw 71 b (oS n3 (aT l1 c1 n3.Aggs.length) (aT l2 c2 n3.Items.length)),fE fG 51 l1 c1 n3.Aggs,fE co 49 l2 c2 n3.Items]) (Gf:=fun _ i n3 l1 c1 l2 c2=>[(2,tV (aO b 0)),(4,tV (aO b1 0)),(51,jr r4),(52,bN (i:Int))]) (fun i n3 l1 c1 l2 c2 h=>?_) (fun e tl ih i n3 l1 c1 l2 c2 h=>?_) r4 0 ({({({(aj.mk n2.Op n2.A n2.B n2.Table r n2.Left n2.Cond r1 n2.Aggs n2.Items r2 n2.Limit)with Cond:=({(aj.mk n2.Op n2.A n2.B n2.Table r n2.Left n2.Cond r1 n2.Aggs n2.Items r2 n2.Limit).Cond with Nodes:=r3}:bJ)}:aj)with Aggs:=r4}:aj)with Items:=r5}:aj) ((sg 2).h 0).1 ((sg 2).h 0).2 ((sg 5).h 0).1 ((sg 5).h 0).2 ⟨J,h⟩) (bu J)
   ·obtain⟨hx,h⟩:=h
    refine aA<|aw<|zo J (fF J J)<|av<|ah<|bz (ht J) (dm hx)<|bv ?_;refine ai (ai (aN ?_));refine ax<|ah<|aw<|zo rfl (jY 9 rk rfl rfl rfl)<|zo rfl (q8 Be ue (.tail _ (.head _)) rfl (ht rfl))<|zo rfl (jO xH (.tail _ (.tail _ (.tail _ (.head _)))) (ht rfl))<|zo rfl (bE hI)<|av<|ay<|o0 (.tail _ (.tail _ (.tail _ (.head _)))) fun hN1=>bL ?_;refine aR (yO (Z:=fun ls1 i1 n4 l3 c3 l4 c4=>(n3.Items.drop i1=ls1)∧nr ls1 i1 n4=some R) (Of:=fun _ i1 n4 l3 c3 l4 c4=>[bx aF 71 b1 Id,bx lw 71 b (oS n4 (aT l3 c3 n4.Aggs.length) (aT l4 c4 n4.Items.length)),fE fG 51 l3 c3 n4.Aggs,fE co 49 l4 c4 n4.Items]) (Gf:=fun _ i1 n4 l3 c3 l4 c4=>[(2,tV (aO b 0)),(4,tV (aO b1 0)),(72,jr n3.Items),(73,bN (i1:Int))]) (fun i1 n4 l3 c3 l4 c4 h=>?_) (fun e1 tl1 ih1 i1 n4 l3 c3 l4 c4 h=>?_) n3.Items 0 n3 l1 c1 l2 c2 ⟨J,h⟩) (bu J)
    ·obtain⟨hx1,h⟩:=h
     refine aA<|aw<|zo J (fF J J)<|av<|ah<|bz (ht J) (dm hx1)<|bv ?_;refine ai (ai (aN ?_));refine ax<|aw<|il<|kJ<|kI<|kJ<|zo rfl (wJ (q:=aF) (y:=n4) fL J J J J (.tail _ (.tail _ (.tail _ (.head _)))) (fun _ _ _ ho h=>BZ (Bu ho (.tail _ (.head _))) (Bu ho (.head _)) h) (ht J))<|il<|aq fL J an J (ht J) (ht J)<|aV 4 J<|av<|am<|bf<|bf<|bf ?_;cases so h;exact je J fL J J J
    ·obtain⟨hx1,h⟩:=h
     refine aA<|aw<|zo J (fF J J)<|av<|ah<|bw (ht J) (dg hx1)<|dP<|ah<|ay<|aw<|aG J<|bq J<|av<|bB h fun e2 q_e2 h=>bB h fun r6 q_r6 h=>?_
     refine qJ 12 (ts:=[tV (aO b 9),sH l4 c4 n4.Items,bN (i1:Int),tV (aO b 9),sH l4 c4 n4.Items,bN (i1:Int),tV (qa l4 ((i1:Int).toNat*1+0)),tV (qa l4 ((i1:Int).toNat*1+0)),bW (bO) e2.Nodes,bW (bO) r6,tV (qa l4 ((i1:Int).toNat*1+0)),tV (qa l4 ((i1:Int).toNat*1+0))]) mixed J J J
      ⟨eH 2 J J J (jY 9 rk J J J),
      ⟨bZ 76 0 J J J (q8 Be ue (.tail _ (.head _)) J (ht J)),
      ⟨eH 6 J J J (de J),
      ⟨eH 2 J J J (jY 9 rk J J J),
      ⟨bZ 79 3 J J J (q8 Be ue (.tail _ (.head _)) J (ht J)),
      ⟨eH 6 J J J (de J),
      ⟨d3 80 4 81 5 J J J J (cM xH kQ (.tail _ (.tail _ (.tail _ (.head _)))) (ht J) (ht J) q_e2),
      ⟨bZ 82 6 J J J (nL (o:=(i1:Int).toNat*1+0) (n:=(i1:Int).toNat*1+0) qx J (.tail _ (.tail _ (.tail _ (.head _)))) q_e2 (ht J) J),
      ⟨bZ 83 7 J J J (gG (r:=co) (i:=(i1:Int)) (foff:=0) Bf J J mj J (.tail _ (.tail _ (.tail _ (.head _)))) q_e2 (ht J)),
      ⟨bZ 84 8 J J J (aB Tq (Pu _ q_r6) ⟨(ht J),aS⟩),
      ⟨d3 77 1 78 2 J J J J (cM xH kQ (.tail _ (.tail _ (.tail _ (.head _)))) (ht J) (ht J) q_e2),
      ⟨bZ 86 10 J J J (nL (o:=(i1:Int).toNat*1+0) (n:=(i1:Int).toNat*1+0) qx J (.tail _ (.tail _ (.tail _ (.head _)))) q_e2 (ht J) J),
      aS⟩⟩⟩⟩⟩⟩⟩⟩⟩⟩⟩⟩ ?_
     refine kI<|bB h fun st q_st h=>tw Bf J yX J q_e2 (so q_st) (ht J) (ht J)<|iX (mP (so q_st)) 77 J<|iX (mP (so q_st)) 80 J<|Gc (O' :=[fE co 49 l4 c4 st,bx aF 71 b1 Id,bx lw 71 b (oS n4 (aT l3 c3 n4.Aggs.length) (aT l4 c4 st.length)),fE fG 51 l3 c3 n4.Aggs]) (by rw [mP (so q_st)])<|aP<|ap<|ax<|au<|zo rfl (lT (cx hx1 hN1) rfl)<|aG rfl<|aP<|cD<|cD<|cD ?_;exact bg (aR (ih1 (i1+1) ({n4 with Items:=st}:aj) l3 c3 l4 c4 ⟨cw hx1,h⟩) (bu J))
   ·obtain⟨hx,h⟩:=h
    refine aA<|aw<|zo J (fF J J)<|av<|ah<|bw (ht J) (dg hx)<|dP<|ah<|ay<|aw<|aG J<|bq J<|av<|bB h fun e3 q_e3 h=>bB h fun r7 q_r7 h=>?_
    refine qJ 14 (ts:=[tV (aO b 8),sH l1 c1 n3.Aggs,bN (i:Int),tV (aO b 8),sH l1 c1 n3.Aggs,bN (i:Int),tV (qa l1 ((i:Int).toNat*2+0)),tV (qa l1 ((i:Int).toNat*2+1)),tV (qa l1 ((i:Int).toNat*2+1)),bW (bO) e3.Arg.Nodes,bW (bO) r7,tV (qa l1 ((i:Int).toNat*2+0)),tV (qa l1 ((i:Int).toNat*2+1)),tV (qa l1 ((i:Int).toNat*2+1))]) mixed J J J
     ⟨eH 2 J J J (jY 8 rl J J J),
     ⟨bZ 55 0 J J J (q8 Cl uf (.tail _ (.head _)) J (ht J)),
     ⟨eH 5 J J J (de J),
     ⟨eH 2 J J J (jY 8 rl J J J),
     ⟨bZ 58 3 J J J (q8 Cl uf (.tail _ (.head _)) J (ht J)),
     ⟨eH 5 J J J (de J),
     ⟨d3 59 4 60 5 J J J J (cM xv uE (.tail _ (.tail _ (.head _))) (ht J) (ht J) q_e3),
     ⟨bZ 61 6 J J J (nL (o:=(i:Int).toNat*2+0) (n:=(i:Int).toNat*2+1) CH J (.tail _ (.tail _ (.head _))) q_e3 (ht J) J),
     ⟨bZ 62 7 J J J (nL (o:=(i:Int).toNat*2+1) (n:=(i:Int).toNat*2+1) qx J (.tail _ (.tail _ (.head _))) q_e3 (ht J) J),
     ⟨bZ 63 8 J J J (gG (r:=fG) (i:=(i:Int)) (foff:=1) Bf J J (vS vU mj) J (.tail _ (.tail _ (.head _))) q_e3 (ht J)),
     ⟨bZ 64 9 J J J (aB Tq (Pu _ q_r7) ⟨(ht J),aS⟩),
     ⟨d3 56 1 57 2 J J J J (cM xv uE (.tail _ (.tail _ (.head _))) (ht J) (ht J) q_e3),
     ⟨bZ 66 11 J J J (nL (o:=(i:Int).toNat*2+0) (n:=(i:Int).toNat*2+1) CH J (.tail _ (.tail _ (.head _))) q_e3 (ht J) J),
     ⟨bZ 67 12 J J J (nL (o:=(i:Int).toNat*2+1) (n:=(i:Int).toNat*2+1) qx J (.tail _ (.tail _ (.head _))) q_e3 (ht J) J),
     aS⟩⟩⟩⟩⟩⟩⟩⟩⟩⟩⟩⟩⟩⟩ ?_
    refine il<|bB h fun st1 q_st1 h=>tw Bf J (Hm vU Kv yX) J q_e3 (so q_st1) (ht J) (ht J)<|iX (mP (so q_st1)) 56 J<|iX (mP (so q_st1)) 59 J<|Gc (O' :=[fE fG 51 l1 c1 st1,bx aF 71 b1 Id,bx lw 71 b (oS n3 (aT l1 c1 st1.length) (aT l2 c2 n3.Items.length)),fE co 49 l2 c2 n3.Items]) (by rw [mP (so q_st1)])<|aP<|ap<|ax<|au<|zo rfl (lT (cx hx hN) rfl)<|aG rfl<|aP<|cD<|bD<|cD<|cD ?_;exact bg (aR (ih (i+1) ({n3 with Aggs:=st1}:aj) l1 c1 l2 c2 ⟨cw hx,h⟩) (bu J))
  ·skip
   refine aw<|zo J (jY 2 qv J J J)<|zo J (ce cr J J kV (.head _) (ht J))<|zo J (ir (ht J) hI)<|av<|c0 h J (fun h=>?_) (fun h=>?_)
   ·refine au<|zo J (jY 2 qv J J J)<|zo J (ce cr J J kV (.head _) (ht J))<|aG J<|zo J (nY (ht J) (ht J))<|zo J (jY 2 qv J J J)<|aq cr J tK J (ht J) (ht J)<|aP ?_;exact cF (K1 (aj.mk n1.Op n1.A (IntKind.i64.wrap (n1.B+by1)) n1.Table n1.Kinds n1.Left n1.Cond n1.Keys n1.Aggs n1.Items n1.Order n1.Limit) h) (bu J)
   ·refine bA ?_;exact cF (K1 n1 h) (bu J)
 ·skip
  refine aw<|zo J (jY 1 jH J J J)<|zo J (ce cr J J dS (.tail _ (.head _)) (ht J))<|zo J (ir (ht J) hI)<|av<|c0 h J (fun h=>?_) (fun h=>?_)
  ·refine au<|zo J (jY 1 jH J J J)<|zo J (ce cr J J dS (.tail _ (.head _)) (ht J))<|aG J<|zo J (nY (ht J) (ht J))<|zo J (jY 1 jH J J J)<|bH<|aq cr J wz J (ht J) (ht J)<|aP ?_;exact cF (K (aj.mk n.Op (IntKind.i64.wrap (n.A+by1)) n.B n.Table n.Kinds n.Left n.Cond n.Keys n.Aggs n.Items n.Order n.Limit) h) (bu J)
  ·refine bA<|bD ?_;exact cF (K n h) (bu J)

theorem Y4(l:bc)(place:Int){R:bc×Int}(h:ua l place=some R):aW aQ 60 [tD bS l,bN place] (tT [tD bS R.1,bN R.2]):=by
 refine aW.of Tryz.func60 J J J fun w0 S0=>aw<|zo J (js J)<|aX (r:=bS) (x:=wr) hY (fun _=>kO _) J fun b=>zo J (cy)<|av<|aw<|zo J (bC hY J J)<|bB h fun r q_r h=>zo J (aB ZF (NX _ q_r) ⟨(ht J),aS⟩)<|aG J<|zo J (gE J J)<|zo J (gE J J)<|zo J (gE J J)<|bq J<|bq J<|bq J<|av<|ah<|ay ?_;refine aw<|aG J<|zo J (fj (ht J))<|bq J<|av<|c0 h J (fun h=>?_) (fun h=>?_)
 ·refine aw<|zo J (bY (y:=wr) hY SE kO (J))<|aq hY J an J (ht J) (ht J)<|zo J (cy)<|av<|am ?_;refine aD (ae ?_);refine bj 4 J ?_;cases so h;exact bQ J J ⟨bt hY J J J,aZ J,aS⟩
 ·refine aw<|aG J<|zo J (gx (ht J) hI)<|aG J<|eG J J (fun hg=>de J)<|eG J J (fun hg=>c9 kW iL J J)<|eG J J (fun hg=>bI tH J J (bG J hg))<|eG J J (fun hg=>cC p6 (bG J hg))<|eG J J (fun hg=>ir (bG J hg) (bG J hg))<|zo J (xf J J)<|bq J<|av<|c0 h J (fun h=>?_) (fun h=>?_)
  ·refine aw<|zo J (bY (y:=wr) hY SE kO (J))<|aq hY J an J (ht J) (ht J)<|zo J (cy)<|av<|am ?_;refine aD (ae ?_);refine bj 4 J ?_;cases so h;exact bQ J J ⟨bt hY J J J,aZ J,aS⟩
  ·refine bA<|ap<|ax<|aw<|bP true aF 71<|aX (r:=lI) (x:=mZ wr (aT none 0 (Ub.length))) hY EB J fun b1=>av<|ah<|aw<|aG J<|zo J (IU (ht J))<|zo J (c9 uW BI J J)<|zo J (bC ea J J)<|aG J<|bB h fun e q_e h=>zo J (mz hX cr J J J q_e)<|zo J (bC cr J J)<|bq J<|av<|ay ?_;refine bL<|im<|im<|rt ?_;refine aR (PV (Z:=fun n i out l1 c=>nN l place e n i out=some R) (Of:=fun i out l1 c=>[bx bS 24 b wr,bx lI 24 b1 (mZ out (aT l1 c out.Nodes.length)),dW aF 71 l1 c out.Nodes]) (Gf:=fun i out l1 c=>[(1,bN place),(2,bM bS l),(4,tV (aO b 0)),(6,bM bn r.1),(9,tV (aO b1 0)),(10,bN i)]) (fun i out l1 c h=>nn h) (fun n ih i out l1 c h=>?_) iN e ({wr with Nodes:=Ub}:bc) none 0 h) (bu J);refine aA<|ah<|aw<|aG J<|aG J<|zo J (mY (ht J) (ht J))<|av<|c0 h J (fun h=>?_) (fun h=>?_)
   ·refine dP<|ah<|ay<|bB h fun e1 q_e1 h=>bB h fun r1 q_r1 h=>?_
    refine qJ 17 (ts:=[tV (aO b1 0),tO aF l1 c out.Nodes,bM (gi aF) l.Nodes,bW (aF) l.Nodes,bN i,bM aF e1,tD aF e1,bM bn r.1,bM bn r.1,bM od r.1.first,mK r.1.first,bN place,bM ca e,bN e,bN (IntKind.i64.wrap (0-e)),tD aF r1,bW (aF) ([r1])]) mixed J J J
     ⟨eH 9 J J J (jY 0 kW J J J),
     ⟨bZ 44 0 J J J (tf tH oV (.tail _ (.head _)) (.tail _ (.tail _ (.head _))) J (ht J)),
     ⟨eH 2 J J J (c9 kW iL J J),
     ⟨bZ 46 2 J J J (bC tH J J),
     ⟨eH 10 J J J (de J),
     ⟨d3 47 3 48 4 J J J J (mz p6 fL J J J q_e1),
     ⟨bZ 49 5 J J J (bC fL J J),
     ⟨eH 6 J J J (de J),
     ⟨bZ 51 7 J J J (IU (ht J)),
     ⟨bZ 52 8 J J J (c9 uW BI J J),
     ⟨bZ 53 9 J J J (bC ea J J),
     ⟨eH 1 J J J (de J),
     ⟨d3 54 10 55 11 J J J J (mz hX cr J J J q_e),
     ⟨bZ 56 12 J J J (bC cr J J),
     ⟨bZ 57 13 J J J (IW (ht J)),
     ⟨d3 50 6 58 14 J J J J (aB Tx (Js _ _ q_r1) ⟨(ht J),(ht J),aS⟩),
     ⟨bZ 59 15 J J J (aU (r:=aF) (ys:=[r1]) (xs:=[.tmp 59]) p6 fL J J J J J ⟨(ht J),aS⟩),
     aS⟩⟩⟩⟩⟩⟩⟩⟩⟩⟩⟩⟩⟩⟩⟩⟩⟩ ?_
    refine il<|bB h fun l2 q_l2 h=>AQ fL J J J J p6 J J (ht J) (ht J) q_l2 fun l3 c1=>zo J (jY 0 kW J J J)<|il<|ur tH J (oo _ _ _) J (ht J) (QK (Is (ht J)))<|aP<|ap<|ax<|au<|aG rfl<|zo rfl (nY (ht rfl) hI)<|bq rfl<|aP<|bD<|bD<|aL ?_;exact bg (aR (ih (IntKind.i64.wrap (i+(1:Int))) ({out with Nodes:=l2}:bc) l3 c1 h) (bu J))
   ·refine bv ?_;refine ai (ai (aN ?_));refine ax<|aw<|il<|zo rfl (wJ (q:=bS) (y:=out) hY J J J J (.tail _ (.tail _ (.head _))) (fun _ _ _ ho h=>sF (Bu ho (.head _)) h) (ht J))<|bH<|aq hY J an J (ht J) (ht J)<|zo J (cy)<|av<|am<|bj 4 J<|bf<|bf ?_;cases so h;exact bQ J J ⟨bt hY J J J,aZ J,aS⟩

theorem FT(l:bc)(b:dv){R:(List (List ac))×Int}(h:gO l b=some R):aW aQ 15 [tD bS l,tD jv b] (tT [bW (cR) R.1,bN R.2]):=by
 refine aW.of Tryz.func15 J J J fun w0 S0=>aw<|zo J (js J)<|zo J (js J)<|zo J (aM (show aJ _ _ _ wq from kE))<|zo J (cy)<|av<|ah<|aw<|zo J (bC hY J J)<|bB h fun r q_r h=>zo J (aB WK (Jh _ q_r) ⟨(ht J),aS⟩)<|aG J<|zo J (gE J J)<|zo J (gE J J)<|bq J<|bq J<|av<|aw ?_;refine aG J<|zo J (s8 J)<|av<|c0 h J (fun h=>?_) (fun h=>?_)
 ·refine aw<|aG J<|zo J (aM (show aJ _ _ _ wq from kE))<|bq J<|av<|am<|ae ?_;cases so h;exact cP J J J
 ·refine dP<|ah<|aw<|zo J (bC hY J J)<|zo J (bC DV J J)<|bB h fun r1 q_r1 h=>zo J (aB adD (Zp _ _ q_r1) ⟨(ht J),(ht J),aS⟩)<|zo J (fj (ht J))<|av<|c0 h J (fun h=>?_) (fun h=>?_)
  ·refine aw<|zo J (aM (show aJ _ _ _ wq from kE))<|zo J (cy)<|av<|am<|ae ?_;cases so h;exact cP J J J
  ·refine dP<|aw<|zo J (bC DV J J)<|zo J (bY (r:=rH ee [(1,.slice none 0 0),(2,.slice none 0 0)]) (y:=(⟨b,[],[]⟩:cZ)) acS ac1 (zH X6 ⟨J,J,aS⟩) (⟨_,_,_,_,_,J,Xk RQ J J,J,(ht J),J⟩))<|xd (ht J) J fun b1=>bP true dU 32<|bP true ca 3 ?_;refine(show RG _ _ _ _ [dW ca 3 none 0 vw,dW dU 32 none 0 ([]:List (List (List ac))),bx (rH ee [(1,aT none 0 ([]:List (List (List ac))).length),(2,aT none 0 vw.length)]) 96 b1 (⟨b,[],[]⟩:cZ)] _ from ?_);refine bq J<|av<|aw<|AO (xx (fun y:(cZ→aj→Option (((List (List ac))×Int)×cZ))=>dQ aQ pM (jC b1) qM y)) n9 J fun b2=>aG J ?_
   refine qF ((show bR _ _ _ _ (dQ aQ pM (jC b1) qM Yc)from jZ adv (ht J) (fun c x R h i=>by
     obtain⟨r,h1,rfl⟩:=wo.1 h
     exact iW (Ob:=fun j=>jC b1 c j) (i:=i) (aaP _ i c _ h1)))) J ?_
   refine eM (γ:=(fun y:(cZ→aj→Option (((List (List ac))×Int)×cZ))=>dQ aQ pM (jC b1) qM y)) (y:=Yc) A8 (d6 lk) (ht J) (oz hI) (ht J) fun os=>aG J ?_
   refine qF ((show bR _ _ _ _ (dQ aQ pM (jC b1) qM Yb)from jZ adu (ht J) (fun c x R h i=>by
     obtain⟨r,h1,rfl⟩:=wo.1 h
     exact iW (Ob:=fun j=>jC b1 c j) (i:=i) (aaO _ i c _ h1)))) J ?_
   refine eM (γ:=(fun y:(cZ→aj→Option (((List (List ac))×Int)×cZ))=>dQ aQ pM (jC b1) qM y)) (y:=Yb) A8 (d6 lk) (ht J) (oz hI) (ht J) fun os1=>aG J ?_
   refine qF ((show bR _ _ _ _ (dQ aQ pM (jC b1) qM Yg)from jZ adt (ht J) (fun c x R h i=>by
     obtain⟨r,h1,rfl⟩:=wo.1 h
     exact iW (Ob:=fun j=>jC b1 c j) (i:=i) (aaN _ i c _ h1)))) J ?_
   refine eM (γ:=(fun y:(cZ→aj→Option (((List (List ac))×Int)×cZ))=>dQ aQ pM (jC b1) qM y)) (y:=Yg) A8 (d6 lk) (ht J) (oz hI) (ht J) fun os2=>aG J ?_
   refine qF ((show bR _ _ _ _ (dQ aQ pM (jC b1) qM Yd)from jZ ads (ht J) (fun c x R h i=>by
     obtain⟨r,h1,rfl⟩:=wo.1 h
     exact iW (Ob:=fun j=>jC b1 c j) (i:=i) (aaM _ i c _ h1)))) J ?_
   refine eM (γ:=(fun y:(cZ→aj→Option (((List (List ac))×Int)×cZ))=>dQ aQ pM (jC b1) qM y)) (y:=Yd) A8 (d6 lk) (ht J) (oz hI) (ht J) fun os3=>aG J ?_
   refine qF ((show bR _ _ _ _ (dQ aQ pM (jC b1) qM Yh)from jZ adr (ht J) (fun c x R h i=>by
     obtain⟨r,h1,rfl⟩:=wo.1 h
     exact iW (Ob:=fun j=>jC b1 c j) (i:=i) (aaL _ i c _ h1)))) J ?_
   refine eM (γ:=(fun y:(cZ→aj→Option (((List (List ac))×Int)×cZ))=>dQ aQ pM (jC b1) qM y)) (y:=Yh) A8 (d6 lk) (ht J) (oz hI) (ht J) fun os4=>aG J ?_
   refine qF ((show bR _ _ _ _ (dQ aQ pM (jC b1) qM Yi)from jZ adq (ht J) (fun c x R h i=>by
     obtain⟨r,h1,rfl⟩:=wo.1 h
     exact iW (Ob:=fun j=>jC b1 c j) (i:=i) (aaK _ i c _ h1)))) J ?_
   refine eM (γ:=(fun y:(cZ→aj→Option (((List (List ac))×Int)×cZ))=>dQ aQ pM (jC b1) qM y)) (y:=Yi) A8 (d6 lk) (ht J) (oz hI) (ht J) fun os5=>aG J ?_
   refine qF ((show bR _ _ _ _ (dQ aQ pM (jC b1) qM Yf)from jZ adp (ht J) (fun c x R h i=>by
     obtain⟨r,h1,rfl⟩:=wo.1 h
     exact iW (Ob:=fun j=>jC b1 c j) (i:=i) (aaJ _ i c _ h1)))) J ?_
   refine eM (γ:=(fun y:(cZ→aj→Option (((List (List ac))×Int)×cZ))=>dQ aQ pM (jC b1) qM y)) (y:=Yf) A8 (d6 lk) (ht J) (oz hI) (ht J) fun os6=>aG J ?_
   refine qF ((show bR _ _ _ _ (dQ aQ pM (jC b1) qM Ye)from jZ ado (ht J) (fun c x R h i=>by
     obtain⟨r,h1,rfl⟩:=wo.1 h
     exact iW (Ob:=fun j=>jC b1 c j) (i:=i) (aaI _ i c _ h1)))) J ?_
   refine eM (γ:=(fun y:(cZ→aj→Option (((List (List ac))×Int)×cZ))=>dQ aQ pM (jC b1) qM y)) (y:=Ye) A8 (d6 lk) (ht J) (oz hI) (ht J) fun os7=>aG J<|bq J<|av<|ah<|aw<|zo J (c9 kW iL J J)<|zo J (bC tH J J)<|zo J (i7 p6 J)<|zo J (bE hI)<|av<|ay<|ba (k:=52) J fun hN=>bL<|im<|rt<|nV<|nV ?_;refine aR (yO (Z:=fun ls i ob l1 c l2 c1=>(l.Nodes.drop i=ls)∧gh l ls i ob=some R) (Of:=fun _ i ob l1 c l2 c1=>[oc (xx (fun y:(cZ→aj→Option (((List (List ac))×Int)×cZ))=>dQ aQ pM (jC b1) qM y)) n9 b2 none os7 Ru,bx (rH ee [(1,aT l1 c ob.rows.length),(2,aT l2 c1 ob.width.length)]) 96 b1 ob,dW dU 32 l1 c ob.rows,dW ca 3 l2 c1 ob.width]) (Gf:=fun _ i ob l1 c l2 c1=>[(2,bM bS l),(8,tV (aO b1 0)),(9,tV (q9 b2)),(52,bW (aF) l.Nodes),(53,jr l.Nodes),(54,bN (i:Int))]) (fun i ob l1 c l2 c1 h=>?_) (fun e tl ih i ob l1 c l2 c1 h=>?_) l.Nodes 0 (⟨b,[],[]⟩:cZ) none 0 none 0 ⟨J,h⟩) (bu J)
   ·obtain⟨hx,h⟩:=h
    refine aA<|aw<|zo J (fF J J)<|av<|ah<|bz (ht J) (dm hx)<|bv ?_;refine ai (ai (aN ?_));refine ax<|ah<|bB h fun e1 q_e1 h=>?_
    refine da (ts:=[_,_,_,_,_,_,_,_,_,_,_,_,_,_]) mixed J J
     ⟨eH 8 J J J (de J),
     ⟨bZ 119 0 J J J (dF (ht J)),
     ⟨bZ 120 1 J J J (jY 1 rj J J J),
     ⟨bZ 121 2 J J J (dl vB J (.tail _ (.head _)) (.tail _ (.tail _ (.head _))) (ht J)),
     ⟨eH 8 J J J (de J),
     ⟨bZ 123 4 J J J (dF (ht J)),
     ⟨bZ 124 5 J J J (jY 1 rj J J J),
     ⟨bZ 125 6 J J J (dl vB J (.tail _ (.head _)) (.tail _ (.tail _ (.head _))) (ht J)),
     ⟨bZ 126 7 J J J (cC o3 (lb (ht J))),
     ⟨bZ 127 8 J J J (iq (ht J) hI),
     ⟨d3 122 3 128 9 J J J J (br o3 gU J (lb (ht J)) (ht J) q_e1),
     ⟨bZ 129 10 J J J (bC gU J J),
     ⟨bZ 130 11 J J J (vx J),
     ⟨Qg J J (cy),
     aS⟩⟩⟩⟩⟩⟩⟩⟩⟩⟩⟩⟩⟩⟩ ?_
    refine ax<|am<|bf<|bf<|bf<|bf ?_;cases so h;exact cP J J J
   ·obtain⟨hx,h⟩:=h
    refine aA<|aw<|zo J (fF J J)<|av<|ah<|bw (ht J) (dg hx)<|dP<|ah<|ay<|aw<|aG J<|zo J (mz p6 fL J J J (cT hx))<|zo J (bC fL J J)<|aX (r:=aF) (x:=Id) fL (fun _=>ln _) J fun b3=>bq J<|aq fL J an J (ht J) (ht J)<|aV 11 J<|av<|ah ?_;refine au<|aG J<|zo J (c9 yB oE J J)<|zo J (bC cr J J)<|zo J (Nv (γ:=(fun y:(cZ→aj→Option (((List (List ac))×Int)×cZ))=>dQ aQ pM (jC b1) (fun(x:(List (List ac))×Int)=>tT [tD dU x.1,tD ca x.2]) y)) (z:=fun _ _=>none) A8 (d6 lk) acO (fun _=>He) (.head _) (ht J) (oz (ht J)))<|zo J (bC fL J J)<|bB h fun r2 q_r2 h=>AP (EffOK.fr3 (EffOK.fr3 (EffOK.fr3 (BR (args:=pM) (Ob:=jC b1) (res:=qM) (f:=((pH Ru e.Op).getD (fun _ _=>none))) (x:=ob) (y:=((e):aj)) (R:=r2) (i:=(Xm [(l1,c),(l2,c1)])) (xs:=[.tmp 64]) _ J (ht J) q_r2 ⟨(ht J),aS⟩ (fun _=>J))))) J fun i1=>?_;refine(show RG _ _ _ _ [bx (rH ee [(1,aT (i1.h 0).1 (i1.h 0).2 r2.2.rows.length),(2,aT (i1.h 1).1 (i1.h 1).2 r2.2.width.length)]) 96 b1 r2.2,dW dU 32 (i1.h 0).1 (i1.h 0).2 r2.2.rows,dW ca 3 (i1.h 1).1 (i1.h 1).2 r2.2.width,oc (xx (fun y:(cZ→aj→Option (((List (List ac))×Int)×cZ))=>dQ aQ pM (jC b1) qM y)) n9 b2 none os7 Ru] ((65,tT [bW (cR) r2.1.1,bN r2.1.2])::_)from ?_);refine aG J<|zo J (gE J J)<|zo J (gE J J)<|bq J<|bq J<|av ?_;refine kL (Z:=fun e2=>oJ l (gh l tl) i e r2 e2=some R) (Of:=fun e2=>[oc (xx (fun y:(cZ→aj→Option (((List (List ac))×Int)×cZ))=>dQ aQ pM (jC b1) qM y)) n9 b2 none os7 Ru,bx (rH ee [(1,aT (i1.h 0).1 (i1.h 0).2 r2.2.rows.length),(2,aT (i1.h 1).1 (i1.h 1).2 r2.2.width.length)]) 96 b1 r2.2,dW dU 32 (i1.h 0).1 (i1.h 0).2 r2.2.rows,dW ca 3 (i1.h 1).1 (i1.h 1).2 r2.2.width]) (Gf:=fun e2=>[(2,bM bS l),(8,tV (aO b1 0)),(9,tV (q9 b2)),(10,bN (i:Int)),(11,bM aF e),(12,bW (cR) r2.1.1),(13,bN e2),(52,bW (aF) l.Nodes),(53,jr l.Nodes),(54,bN (i:Int))]) (fun e2 h=>?_) (fun K=>?_)
    ·skip
     refine ah<|aw<|aG J<|zo J (s8 J)<|av<|c0 h J (fun h=>?_) (fun h=>?_)
     ·refine aw<|aG J<|zo J (aM (show aJ _ _ _ wq from kE))<|bq J<|av<|am ?_;refine ae (aD (ae (ae (aD (ae ?_)))));refine bf<|bf<|bf<|bf ?_;cases so h;exact cP J J J
     ·refine dP ?_;refine kL (Z:=fun rows=>oI l (gh l tl) i r2 rows=some R) (Of:=fun rows=>[oc (xx (fun y:(cZ→aj→Option (((List (List ac))×Int)×cZ))=>dQ aQ pM (jC b1) qM y)) n9 b2 none os7 Ru,bx (rH ee [(1,aT (i1.h 0).1 (i1.h 0).2 r2.2.rows.length),(2,aT (i1.h 1).1 (i1.h 1).2 r2.2.width.length)]) 96 b1 r2.2,dW dU 32 (i1.h 0).1 (i1.h 0).2 r2.2.rows,dW ca 3 (i1.h 1).1 (i1.h 1).2 r2.2.width]) (Gf:=fun rows=>[(2,bM bS l),(8,tV (aO b1 0)),(9,tV (q9 b2)),(10,bN (i:Int)),(12,bW (cR) rows),(52,bW (aF) l.Nodes),(53,jr l.Nodes),(54,bN (i:Int))]) (fun rows h=>?_) (fun K1=>?_)
      ·skip
       refine aw<|zo J (bC hY J J)<|aG J<|bB h fun r3 q_r3 h=>zo J (aB adm (Y4 _ _ q_r3) ⟨(ht J),(ht J),aS⟩)<|aG J<|zo J (gE J J)<|zo J (gE J J)<|aX (r:=bS) (x:=wr) hY (fun _=>kO _) J fun b4=>aq hY J an J (ht J) (ht J)<|aV 14 J<|bq J<|av<|aw<|zo J (bC hY J J)<|bB h fun r4 q_r4 h=>zo J (aB adC (Ze _ q_r4) ⟨(ht J),aS⟩)<|aG J<|zo J (gE J J)<|zo J (gE J J)<|bq J ?_;refine bq J<|av<|bB h fun l3 q_l3 h=>bB h fun l4 q_l4 h=>?_
       refine pn 20 [tc (tV (aO b1 0)),tc (tV (aO b1 0)),tc (tV (aO b1 0)),tc (tV (aO b1 0)),tc (tV (aO b1 1)),tc (tO dU (i1.h 0).1 (i1.h 0).2 r2.2.rows),tc (bW (cR) rows),tc (bW (dU) ([rows])),([8],fun s=>tO dU ((s.getD 0 p7).h 0).1 ((s.getD 0 p7).h 0).2 l3),tc (tV (aO b1 0)),tc (tV (aO b1 0)),tc (tV (aO b1 2)),tc (tO ca (i1.h 1).1 (i1.h 1).2 r2.2.width),tc (mK r4.1),tc (jr r4.1),tc (mK ([(r4.1.length:Int)])),([16],fun s=>tO ca ((s.getD 0 p7).h 0).1 ((s.getD 0 p7).h 0).2 l4),tc (tV (aO b1 0)),tc (tV (aO b1 1)),tc (DW)] [false,false,false,false,false,false,false,false,true,false,false,false,false,false,false,false,true,false,false,true] [fun _=>[oc (xx (fun y:(cZ→aj→Option (((List (List ac))×Int)×cZ))=>dQ aQ pM (jC b1) qM y)) n9 b2 none os7 Ru,bx (rH ee [(1,aT (i1.h 0).1 (i1.h 0).2 r2.2.rows.length),(2,aT (i1.h 1).1 (i1.h 1).2 r2.2.width.length)]) 96 b1 r2.2,dW dU 32 (i1.h 0).1 (i1.h 0).2 r2.2.rows,dW ca 3 (i1.h 1).1 (i1.h 1).2 r2.2.width],fun sg=>[dW dU 32 ((sg 8).h 0).1 ((sg 8).h 0).2 l3,oc (xx (fun y:(cZ→aj→Option (((List (List ac))×Int)×cZ))=>dQ aQ pM (jC b1) qM y)) n9 b2 none os7 Ru,bx (rH ee [(1,aT (i1.h 0).1 (i1.h 0).2 r2.2.rows.length),(2,aT (i1.h 1).1 (i1.h 1).2 r2.2.width.length)]) 96 b1 r2.2,dW ca 3 (i1.h 1).1 (i1.h 1).2 r2.2.width],fun sg=>[dW ca 3 ((sg 16).h 0).1 ((sg 16).h 0).2 l4,dW dU 32 ((sg 8).h 0).1 ((sg 8).h 0).2 l3,oc (xx (fun y:(cZ→aj→Option (((List (List ac))×Int)×cZ))=>dQ aQ pM (jC b1) qM y)) n9 b2 none os7 Ru,bx (rH ee [(1,aT (i1.h 0).1 (i1.h 0).2 r2.2.rows.length),(2,aT (i1.h 1).1 (i1.h 1).2 r2.2.width.length)]) 96 b1 r2.2],fun sg=>[bx (rH ee [(1,aT ((sg 8).h 0).1 ((sg 8).h 0).2 l3.length),(2,aT (i1.h 1).1 (i1.h 1).2 r2.2.width.length)]) 96 b1 ({r2.2 with rows:=l3}:cZ),dW ca 3 ((sg 16).h 0).1 ((sg 16).h 0).2 l4,dW dU 32 ((sg 8).h 0).1 ((sg 8).h 0).2 l3,oc (xx (fun y:(cZ→aj→Option (((List (List ac))×Int)×cZ))=>dQ aQ pM (jC b1) qM y)) n9 b2 none os7 Ru]] J mixed J J J J J
        ⟨⟨[⟨8,fun _=>tV (aO b1 0),none⟩],_,0,2,J,⟨(fun _=>J),aS⟩,J,J,J,J,J,fun _ sg _ _=>aC J (de J)⟩,
        ⟨⟨[⟨8,fun _=>tV (aO b1 0),none⟩],_,0,3,J,⟨(fun _=>J),aS⟩,J,J,J,J,J,fun _ sg _ _=>aC J (de J)⟩,
        ⟨⟨[⟨8,fun _=>tV (aO b1 0),none⟩],_,0,0,J,⟨(fun _=>J),aS⟩,J,J,J,J,J,fun _ sg _ _=>aC J (de J)⟩,
        ⟨⟨[⟨99,fun _=>tV (aO b1 0),some 2⟩],_,0,0,J,⟨(fun _=>J),aS⟩,J,J,J,J,J,fun _ sg _ _=>aC J (dF (ht J))⟩,
        ⟨⟨[⟨100,fun _=>tV (aO b1 0),some 3⟩],_,0,0,J,⟨(fun _=>J),aS⟩,J,J,J,J,J,fun _ sg _ _=>aC J (jY 1 rj J J J)⟩,
        ⟨⟨[⟨101,fun _=>tV (aO b1 1),some 4⟩],_,0,0,J,⟨(fun _=>J),aS⟩,J,J,J,J,J,Ar (fun sg=>aC J (dl vB J (.tail _ (.head _)) (.tail _ (.tail _ (.head _))) (ht J)))⟩,
        ⟨⟨[⟨12,fun _=>tD dU rows,none⟩],_,0,0,J,⟨(fun _=>J),aS⟩,J,J,J,J,J,fun _ sg _ _=>aC J (de J)⟩,
        ⟨⟨[⟨103,fun _=>tD dU rows,some 6⟩],_,0,0,J,⟨(fun _=>J),aS⟩,J,J,J,J,J,fun _ sg _ _=>aC J (aU (r:=dU) (ys:=[rows]) (xs:=[.tmp 103]) o3 gU J J J J J ⟨(ht J),aS⟩)⟩,
        ⟨⟨[⟨102,fun _=>tO dU (i1.h 0).1 (i1.h 0).2 r2.2.rows,some 5⟩,⟨104,fun _=>tD (gi dU) ([rows]),some 7⟩],_,J,⟨(fun _=>J),(fun _=>J),aS⟩,J,J,J,fun sg=>eC J (EffOK.fr2 (uY gU J J J J o3 J (ht J) (ht J) q_l3))⟩,
        ⟨⟨[⟨8,fun _=>tV (aO b1 0),none⟩],_,0,1,J,⟨(fun _=>J),aS⟩,J,J,J,J,J,fun _ sg _ _=>aC J (de J)⟩,
        ⟨⟨[⟨106,fun _=>tV (aO b1 0),some 9⟩],_,0,1,J,⟨(fun _=>J),aS⟩,J,J,J,J,J,fun _ sg _ _=>aC J (dF (ht J))⟩,
        ⟨⟨[⟨107,fun _=>tV (aO b1 0),some 10⟩],_,0,1,J,⟨(fun _=>J),aS⟩,J,J,J,J,J,fun _ sg _ _=>aC J (jY 2 NQ J J J)⟩,
        ⟨⟨[⟨108,fun _=>tV (aO b1 2),some 11⟩],_,0,1,J,⟨(fun _=>J),aS⟩,J,J,J,J,J,Gv (fun sg=>aC J (dl ea J (.tail _ (.head _)) (.tail _ (.tail _ (.tail _ (.head _)))) (ht J))) (Ar (fun sg=>aC J (dl ea J (.tail _ (.tail _ (.head _))) (.tail _ (.tail _ (.tail _ (.head _)))) (ht J))))⟩,
        ⟨⟨[⟨16,fun _=>tD xR r4.1,none⟩],_,0,1,J,⟨(fun _=>J),aS⟩,J,J,J,J,J,fun _ sg _ _=>aC J (de J)⟩,
        ⟨⟨[⟨110,fun _=>tD xR r4.1,some 13⟩],_,0,1,J,⟨(fun _=>J),aS⟩,J,J,J,J,J,fun _ sg _ _=>aC J (i7 hX J)⟩,
        ⟨⟨[⟨111,fun _=>tD ca (r4.1.length:Int),some 14⟩],_,0,1,J,⟨(fun _=>J),aS⟩,J,J,J,J,J,fun _ sg _ _=>aC J (aU (r:=ca) (ys:=[(r4.1.length:Int)]) (xs:=[.tmp 111]) hX cr J J J J J ⟨(ht J),aS⟩)⟩,
        ⟨⟨[⟨109,fun _=>tO ca (i1.h 1).1 (i1.h 1).2 r2.2.width,some 12⟩,⟨112,fun _=>tD xR ([(r4.1.length:Int)]),some 15⟩],_,J,⟨(fun _=>J),(fun _=>J),aS⟩,J,J,J,fun sg=>eC J (EffOK.fr3 (uY cr J J J J hX J (ht J) (ht J) q_l4))⟩,
        ⟨⟨[⟨97,fun _=>tV (aO b1 0),some 0⟩],_,2,2,J,⟨(fun _=>J),aS⟩,J,J,J,J,J,fun _ sg _ _=>aC J (dF (ht J))⟩,
        ⟨⟨[⟨114,fun _=>tV (aO b1 0),some 17⟩],_,2,2,J,⟨(fun _=>J),aS⟩,J,J,J,J,J,fun _ sg _ _=>aC J (jY 1 rj J J J)⟩,
        ⟨⟨[⟨115,fun _=>tV (aO b1 1),some 18⟩,⟨105,fun sg=>tO dU ((sg 8).h 0).1 ((sg 8).h 0).2 l3,some 8⟩],_,J,⟨(fun _=>J),(fun _=>J),aS⟩,J,J,J,fun sg=>eC J (EffOK.fr3 (wT (hs' :=[(1,aT ((sg 8).h 0).1 ((sg 8).h 0).2 l3.length),(2,aT (i1.h 1).1 (i1.h 1).2 r2.2.width.length)]) (u:=aT ((sg 8).h 0).1 ((sg 8).h 0).2 l3.length) vB J J RP J ⟨.inl ⟨J,J,J⟩,.inr ⟨J,J⟩,aS⟩ (ht J) (lb (ht J)) (Is (ht J))))⟩,
        aS⟩⟩⟩⟩⟩⟩⟩⟩⟩⟩⟩⟩⟩⟩⟩⟩⟩⟩⟩⟩ (fun sg=>?_)
       refine(show RG _ _ _ _ [bx (rH ee [(1,aT ((sg 8).h 0).1 ((sg 8).h 0).2 l3.length),(2,aT (i1.h 1).1 (i1.h 1).2 r2.2.width.length)]) 96 b1 ({r2.2 with rows:=l3}:cZ),dW ca 3 ((sg 16).h 0).1 ((sg 16).h 0).2 l4,dW dU 32 ((sg 8).h 0).1 ((sg 8).h 0).2 l3,oc (xx (fun y:(cZ→aj→Option (((List (List ac))×Int)×cZ))=>dQ aQ pM (jC b1) qM y)) n9 b2 none os7 Ru] _ from ?_);refine zo J (dF (ht J))<|zo J (jY 2 NQ J J J)<|xb (wT (hs' :=[(1,aT ((sg 8).h 0).1 ((sg 8).h 0).2 l3.length),(2,aT ((sg 16).h 0).1 ((sg 16).h 0).2 l4.length)]) (u:=aT ((sg 16).h 0).1 ((sg 16).h 0).2 l4.length) ea J J RO J ⟨.inr ⟨J,J⟩,.inl ⟨J,J,J⟩,aS⟩ (ht J) (lb (ht J)) (Is (ht J))) fun i2=>?_;refine(show RG _ _ _ _ [bx (rH ee [(1,aT ((sg 8).h 0).1 ((sg 8).h 0).2 l3.length),(2,aT ((sg 16).h 0).1 ((sg 16).h 0).2 l4.length)]) 96 b1 ({({r2.2 with rows:=l3}:cZ)with width:=l4}:cZ),dW ca 3 ((sg 16).h 0).1 ((sg 16).h 0).2 l4,dW dU 32 ((sg 8).h 0).1 ((sg 8).h 0).2 l3,oc (xx (fun y:(cZ→aj→Option (((List (List ac))×Int)×cZ))=>dQ aQ pM (jC b1) qM y)) n9 b2 none os7 Ru] _ from ?_);refine aP<|ap<|ax<|au<|zo rfl (lT (cx hx hN) rfl)<|aG rfl<|aP<|bD<|aL<|aL<|cD ?_;exact bg (aR (ih (i+1) ({({r2.2 with rows:=l3}:cZ)with width:=l4}:cZ) ((sg 8).h 0).1 ((sg 8).h 0).2 ((sg 16).h 0).1 ((sg 16).h 0).2 ⟨cw hx,h⟩) (bu J))
      ·skip
       refine aw<|zo J (c9 yB oE J J)<|zo J (bC cr J J)<|zo J (s8 J)<|av<|c0 h J (fun h=>?_) (fun h=>?_)
       ·refine au<|aG J<|bB h fun r5 q_r5 h=>zo J (aB adn (Y5 _ q_r5) ⟨(ht J),aS⟩)<|aG J<|zo J (gE J J)<|zo J (gE J J)<|bq J<|aP ?_;exact cF (K1 r5.1 h) (bu J)
       ·refine bA ?_;exact cF (K1 r2.1.1 h) (bu J)
    ·skip
     refine aw<|aG J<|zo J (nX J)<|aG J<|dN J J (fun hg=>de J)<|dN J J (fun hg=>cC i9 (bG J hg))<|dN J J (fun hg=>fU (bG J hg) hI)<|zo J (vn J J)<|av<|c0 h J (fun h=>?_) (fun h=>?_)
     ·refine au<|zo J (cy)<|aP<|aL<|aL<|aL<|cD ?_;exact cF (K (3:Int) h) (bu J)
     ·refine bA<|aL<|aL<|aL<|cD ?_;exact cF (K r2.1.2 h) (bu J)

end Go.Proofs.YtfhhakidodmdfaaGreatDoor

