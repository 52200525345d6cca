/- di of this claim: P12. -/
import Derived.Test.YtfhhakidodmdfaaGreatDoorJcT
import Derived.Test.YtfhhakidodmdfaaGreatDoorJcP11
set_option linter.all false
namespace Go.Proofs.YtfhhakidodmdfaaGreatDoor
open Go
set_option maxRecDepth 100000

theorem aal(b:Nat)(ix:OI)(r:dh)(n:ay){R:(List (List ac))×Int}(h:kM r n=some R):dl aU 58 [tV (aS b 0),tD aW n] (jE b r ix) (fun _:OI=>tT [cq (dg) R.1,bM R.2]) (fun _=>(jE b r ix)):=by
 refine dl.of Tryz.func58 J J J fun w0 S0=>?_;refine(show CG _ _ _ [bx (rH eS [(1,bc (ix.h 0).1 (ix.h 0).2 r.rows.length),(2,bc (ix.h 1).1 (ix.h 1).2 r.width.length)]) 96 b r,ez ee 32 (ix.h 0).1 (ix.h 0).2 r.rows,ez cj 3 (ix.h 1).1 (ix.h 1).2 r.width] _ from ?_);refine av<|zo J (gi J)<|zo J (aT (show aO _ _ _ we from kJ))<|zo J (bW)<|aq<|ah<|bo h fun e q_e h=>bo h fun r1 q_r1 h=>?_
 refine cD (ts:=[_,_,_,_,_,_,_,_,_,_,_,_,_,_,_]) mixed J J
  ⟨dB 0 J J J (cX J),
  ⟨bT 6 0 J J J (dQ (ht J)),
  ⟨bT 7 1 J J J (je 1 rl J J J),
  ⟨bT 8 2 J J J (dx zf J (.head _) (.tail _ (.head _)) (ht J)),
  ⟨dB 3 J J J (bX kq d9 J J),
  ⟨bT 10 4 J J J (bh cg J J),
  ⟨cK 9 3 11 5 J J J J (bF qP iy J (lJ (ht J)) (ht J) q_e),
  ⟨bT 12 6 J J J (bh iy J J),
  ⟨dB 3 J J J (bX wE sk J J),
  ⟨bT 14 8 J J J (bh JN J J),
  ⟨dB 3 J J J (bX Bp uM J J),
  ⟨bT 16 10 J J J (bh cg J J),
  ⟨GI 13 7 15 9 17 11 J J J J J (ap ac7 (YH _ _ _ q_r1) ⟨(ht J),(ht J),(ht J),aL⟩),
  ⟨bT 18 12 J J J (rN J),
  ⟨NX J J (bW),
  aL⟩⟩⟩⟩⟩⟩⟩⟩⟩⟩⟩⟩⟩⟩⟩ ?_
 refine ax<|aj<|aM<|aM<|aM ?_;cases so h;exact eN (ts:=[cq (dg) r1,bM 0]) (rvs:=[.tmp 4,.tmp 5]) J J ⟨aK J,aK J,aL⟩ pj J J

theorem YQ(l:(List (List ac))){R:(List (List ac))×Int}(h:wt l=some R):aR aU 59 [cq (dg) l] (tT [cq (dg) R.1,bM R.2]):=by
 refine aR.of Tryz.func59 J J J fun w0 S0=>av<|zo J (aT (show aO _ _ _ we from kJ))<|zo J (bW)<|aq<|ah<|av<|aE J<|zo J (bf (r:=ee) (ys:=[l]) (xs:=[.tmp 5]) qP iy J J J J J ⟨(ht J),aL⟩)<|bo h fun r q_r h=>zo J (ap Zp (Nl _ q_r) ⟨(ht J),aL⟩)<|bg J<|aq<|av<|aE J<|zo J (sx J)<|aq<|ce h J (fun h=>?_) (fun h=>?_)
 ·refine av<|aE J<|zo J (aT (show aO _ _ _ we from kJ))<|bg J<|aq<|aj<|ae ?_;cases so h;exact cW J J J
 ·refine df<|av<|aE J<|bo h fun r1 q_r1 h=>jh XE (Lg _ q_r1) ⟨(ht J),aL⟩ J fun l1 c=>bg J<|zo J (bW)<|aq<|aj<|jS<|cP 2 J<|cP 12 J<|jT 2 J<|aZ ?_;cases so h;exact cW J J J

theorem Sy(s:(List ig)){R:(List ig)}(h:eG s=some R):gA aU 187 [cq (hT) s] false hT 60 R:=by
 refine gA.of Tryz.func187 J J J fun w0 S0=>av<|ca false hT 60<|zo J (aT tg)<|aq<|ah<|av<|aE J<|uf AM (ht J) J fun isnil hisnil=>aq<|pg (ht J) (fun hc=>?_) (fun hc=>?_)
 ·have hx:=hisnil hc
  have h:some ([]:List ig)=some R:=by simpa [eG,app,hx] using h
  refine av<|ca false hT 60<|zo J (aT tg)<|aq<|aj<|ae ?_;cases so h;exact gK J J
 ·refine df<|av<|kG (r:=hT) (ys:=([]:List ig)) (xs:=[]) AM JM J J J J J trivial J fun l c=>aE J<|bo h fun x q_x h=>cV JM J J J J AM J J (ht J) (ht J) q_x fun l1 c1=>bg J<|aq<|aj ?_;cases so h;exact gK J J
theorem VD(s:(List ig)){R:(List ig)}(h:eG s=some R):aR aU 187 [cq (hT) s] (cq (hT) R):=(Sy _ h).spec

theorem Ld(s:(List bC)){R:(List bC)}(h:cF s=some R):gA aU 188 [cq (bO) s] false bO 80 R:=by
 refine gA.of Tryz.func188 J J J fun w0 S0=>av<|ca false bO 80<|zo J (aT tg)<|aq<|ah<|av<|aE J<|uf p6 (ht J) J fun isnil hisnil=>aq<|pg (ht J) (fun hc=>?_) (fun hc=>?_)
 ·have hx:=hisnil hc
  have h:some ([]:List bC)=some R:=by simpa [cF,app,hx] using h
  refine av<|ca false bO 80<|zo J (aT tg)<|aq<|aj<|ae ?_;cases so h;exact gK J J
 ·refine df<|av<|kG (r:=bO) (ys:=([]:List bC)) (xs:=[]) p6 lI J J J J J trivial J fun l c=>aE J<|bo h fun x q_x h=>cV lI J J J J p6 J J (ht J) (ht J) q_x fun l1 c1=>bg J<|aq<|aj ?_;cases so h;exact gK J J
theorem O3(s:(List bC)){R:(List bC)}(h:cF s=some R):aR aU 188 [cq (bO) s] (cq (bO) R):=(Ld _ h).spec

theorem Sx(s:(List gv)){R:(List gv)}(h:fE s=some R):gA aU 189 [cq (eH) s] false eH 51 R:=by
 refine gA.of Tryz.func189 J J J fun w0 S0=>av<|ca false eH 51<|zo J (aT tg)<|aq<|ah<|av<|aE J<|uf AI (ht J) J fun isnil hisnil=>aq<|pg (ht J) (fun hc=>?_) (fun hc=>?_)
 ·have hx:=hisnil hc
  have h:some ([]:List gv)=some R:=by simpa [fE,app,hx] using h
  refine av<|ca false eH 51<|zo J (aT tg)<|aq<|aj<|ae ?_;cases so h;exact gK J J
 ·refine df<|av<|kG (r:=eH) (ys:=([]:List gv)) (xs:=[]) AI uZ J J J J J trivial J fun l c=>aE J<|bo h fun x q_x h=>cV uZ J J J J AI J J (ht J) (ht J) q_x fun l1 c1=>bg J<|aq<|aj ?_;cases so h;exact gK J J
theorem Sw(s:(List bS)){R:(List bS)}(h:eV s=some R):gA aU 190 [cq (ck) s] false ck 49 R:=by
 refine gA.of Tryz.func190 J J J fun w0 S0=>av<|ca false ck 49<|zo J (aT tg)<|aq<|ah<|av<|aE J<|uf BX (ht J) J fun isnil hisnil=>aq<|pg (ht J) (fun hc=>?_) (fun hc=>?_)
 ·have hx:=hisnil hc
  have h:some ([]:List bS)=some R:=by simpa [eV,app,hx] using h
  refine av<|ca false ck 49<|zo J (aT tg)<|aq<|aj<|ae ?_;cases so h;exact gK J J
 ·refine df<|av<|kG (r:=ck) (ys:=([]:List bS)) (xs:=[]) BX k5 J J J J J trivial J fun l c=>aE J<|bo h fun x q_x h=>cV k5 J J J J BX J J (ht J) (ht J) q_x fun l1 c1=>bg J<|aq<|aj ?_;cases so h;exact gK J J
theorem V8(n:ay)(by1:Int){R:ay}(h:sZ n by1=some R):aR aU 110 [tD aW n,bM by1] (tD aW R):=by
 refine aR.of Tryz.func110 J J J fun w0 S0=>av<|s6 (ht J) J fun b=>aP (r:=aW) (x:=Jz) jj (fun _=>p9 _) J fun b1=>aq ?_;refine i6 (Z:=fun n1=>pe by1 n1=some R) (Of:=fun n1=>[bx aW 71 b n1,bx aW 71 b1 Jz]) (Gf:=fun n1=>[(1,bM by1),(2,tV (aS b 0)),(4,tV (aS b1 0))]) (fun n1 h=>?_) (fun K=>?_)
 ·skip
  refine i6 (Z:=fun n2=>nq n2=some R) (Of:=fun n2=>[bx aW 71 b n2,bx aW 71 b1 Jz]) (Gf:=fun n2=>[(2,tV (aS b 0)),(4,tV (aS b1 0))]) (fun n2 h=>?_) (fun K1=>?_)
  ·skip
   refine ah<|bo h fun r q_r h=>bo h fun r1 q_r1 h=>bo h fun r2 q_r2 h=>?_
   refine my 10 (ts:=[tV (aS b 4),mH n2.Kinds,mH r,tV (aS b 7),mH n2.Keys,mH r1,tV (aS b 10),cq (hT) n2.Order,cq (hT) r2,tV (aS b 4)]) mixed J J J
    ⟨dB 2 J J J (je 4 wD J J J),
    ⟨bT 23 0 J J J (bE eQ J J pC (.head _) (ht J)),
    ⟨bT 24 1 J J J (ap SS (Sm _ q_r) ⟨(ht J),aL⟩),
    ⟨dB 2 J J J (je 7 vc J J J),
    ⟨bT 26 3 J J J (bE eQ J J oe (.head _) (ht J)),
    ⟨bT 27 4 J J J (ap SS (Sm _ q_r1) ⟨(ht J),aL⟩),
    ⟨dB 2 J J J (je 10 wE J J J),
    ⟨bT 29 6 J J J (bE JN J J sk (.head _) (ht J)),
    ⟨bT 30 7 J J J (ap abV (VD _ q_r2) ⟨(ht J),aL⟩),
    ⟨dB 2 J J J (je 4 wD J J J),
    aL⟩⟩⟩⟩⟩⟩⟩⟩⟩⟩ ?_
   refine am eQ J Af J (ht J) (ht J)<|zo J (je 7 vc J J J)<|am eQ J Ew J (ht J) (ht J)<|zo J (je 10 wE J J J)<|am JN J C2 J (ht J) (ht J)<|aq<|av<|zo J (je 6 wC J J J)<|zo J (je 6 ku J J J)<|zo J (bE sQ J J (vJ pz fQ) (.head _) (ht J))<|bo h fun r3 q_r3 h=>jh S5 (Ld _ q_r3) ⟨(ht J),aL⟩ J fun l c=>zo J (je 6 wC J J J)<|zo J (je 6 ku J J J)<|kO<|jM 38 J<|bq<|am sQ J (GR pz Ae yD) J (ht J) (lJ (ht J))<|aq<|ah<|bo h fun r4 q_r4 h=>?_
   obtain⟨r5,q_r5,h⟩:=bs h
   refine oy 7 [tc (tV (aS b 8)),tc (cq (eH) (({(ay.mk n2.Op n2.A n2.B n2.Table r n2.Left n2.Cond r1 n2.Aggs n2.Items r2 n2.Limit)with Cond:=({(ay.mk n2.Op n2.A n2.B n2.Table r n2.Left n2.Cond r1 n2.Aggs n2.Items r2 n2.Limit).Cond with Nodes:=r3}:bS)}:ay).Aggs)),([2],fun s=>tV (bc ((s.getD 0 pj).h 0).1 ((s.getD 0 pj).h 0).2 r4.length)),tc (tV (aS b 9)),tc (cq (ck) (({(ay.mk n2.Op n2.A n2.B n2.Table r n2.Left n2.Cond r1 n2.Aggs n2.Items r2 n2.Limit)with Cond:=({(ay.mk n2.Op n2.A n2.B n2.Table r n2.Left n2.Cond r1 n2.Aggs n2.Items r2 n2.Limit).Cond with Nodes:=r3}:bS)}:ay).Items)),([5],fun s=>tV (bc ((s.getD 0 pj).h 0).1 ((s.getD 0 pj).h 0).2 r5.length)),tc (tV (aS b 8))] [false,false,true,false,false,true,false] [fun _=>[bx aW 71 b ({(ay.mk n2.Op n2.A n2.B n2.Table r n2.Left n2.Cond r1 n2.Aggs n2.Items r2 n2.Limit)with Cond:=({(ay.mk n2.Op n2.A n2.B n2.Table r n2.Left n2.Cond r1 n2.Aggs n2.Items r2 n2.Limit).Cond with Nodes:=r3}:bS)}:ay),ez bO 80 l c r3,bx aW 71 b1 Jz],fun sg=>[fL eH 51 ((sg 2).h 0).1 ((sg 2).h 0).2 r4,bx aW 71 b ({(ay.mk n2.Op n2.A n2.B n2.Table r n2.Left n2.Cond r1 n2.Aggs n2.Items r2 n2.Limit)with Cond:=({(ay.mk n2.Op n2.A n2.B n2.Table r n2.Left n2.Cond r1 n2.Aggs n2.Items r2 n2.Limit).Cond with Nodes:=r3}:bS)}:ay),ez bO 80 l c r3,bx aW 71 b1 Jz],fun sg=>[fL ck 49 ((sg 5).h 0).1 ((sg 5).h 0).2 r5,fL eH 51 ((sg 2).h 0).1 ((sg 2).h 0).2 r4,bx aW 71 b ({(ay.mk n2.Op n2.A n2.B n2.Table r n2.Left n2.Cond r1 n2.Aggs n2.Items r2 n2.Limit)with Cond:=({(ay.mk n2.Op n2.A n2.B n2.Table r n2.Left n2.Cond r1 n2.Aggs n2.Items r2 n2.Limit).Cond with Nodes:=r3}:bS)}:ay),ez bO 80 l c r3,bx aW 71 b1 Jz]] J mixed J J J J J
    ⟨⟨[⟨2,fun _=>tV (aS b 0),none⟩],_,0,0,J,⟨(fun _=>J),aL⟩,J,J,J,J,J,fun _ sg _ _=>aD J (je 8 t8 J J J)⟩,
    ⟨⟨[⟨41,fun _=>tV (aS b 8),some 0⟩],_,0,0,J,⟨(fun _=>J),aL⟩,J,J,J,J,J,z7 (fun sg=>aD J (bE Em J J rh (.head _) (ht J)))⟩,
    ⟨⟨[⟨42,fun _=>tD (ik eH) (({(ay.mk n2.Op n2.A n2.B n2.Table r n2.Left n2.Cond r1 n2.Aggs n2.Items r2 n2.Limit)with Cond:=({(ay.mk n2.Op n2.A n2.B n2.Table r n2.Left n2.Cond r1 n2.Aggs n2.Items r2 n2.Limit).Cond with Nodes:=r3}:bS)}:ay).Aggs),some 1⟩],_,J,⟨(fun _=>J),aL⟩,J,J,J,fun sg=>eF J (Hh (xs:=[.tmp 42]) (ts:=[tD (ik eH) (({(ay.mk n2.Op n2.A n2.B n2.Table r n2.Left n2.Cond r1 n2.Aggs n2.Items r2 n2.Limit)with Cond:=({(ay.mk n2.Op n2.A n2.B n2.Table r n2.Left n2.Cond r1 n2.Aggs n2.Items r2 n2.Limit).Cond with Nodes:=r3}:bS)}:ay).Aggs)]) abU (Sx _ q_r4) ⟨(ht J),aL⟩)⟩,
    ⟨⟨[⟨2,fun _=>tV (aS b 0),none⟩],_,0,1,J,⟨(fun _=>J),aL⟩,J,J,J,J,J,fun _ sg _ _=>aD J (je 9 t7 J J J)⟩,
    ⟨⟨[⟨44,fun _=>tV (aS b 9),some 3⟩],_,0,1,J,⟨(fun _=>J),aL⟩,J,J,J,J,J,F3 (fun sg=>aD J (bE Dt J J py (.head _) (ht J))) (z7 (fun sg=>aD J (bE Dt J J py (.tail _ (.head _)) (ht J))))⟩,
    ⟨⟨[⟨45,fun _=>tD (ik ck) (({(ay.mk n2.Op n2.A n2.B n2.Table r n2.Left n2.Cond r1 n2.Aggs n2.Items r2 n2.Limit)with Cond:=({(ay.mk n2.Op n2.A n2.B n2.Table r n2.Left n2.Cond r1 n2.Aggs n2.Items r2 n2.Limit).Cond with Nodes:=r3}:bS)}:ay).Items),some 4⟩],_,J,⟨(fun _=>J),aL⟩,J,J,J,fun sg=>eF J (Hh (xs:=[.tmp 45]) (ts:=[tD (ik ck) (({(ay.mk n2.Op n2.A n2.B n2.Table r n2.Left n2.Cond r1 n2.Aggs n2.Items r2 n2.Limit)with Cond:=({(ay.mk n2.Op n2.A n2.B n2.Table r n2.Left n2.Cond r1 n2.Aggs n2.Items r2 n2.Limit).Cond with Nodes:=r3}:bS)}:ay).Items)]) abT (Sw _ q_r5) ⟨(ht J),aL⟩)⟩,
    ⟨⟨[⟨2,fun _=>tV (aS b 0),none⟩],_,1,2,J,⟨(fun _=>J),aL⟩,J,J,J,J,J,fun _ sg _ _=>aD J (je 8 t8 J J J)⟩,
    aL⟩⟩⟩⟩⟩⟩⟩ (fun sg=>?_)
   refine(show RG _ _ _ _ [fL ck 49 ((sg 5).h 0).1 ((sg 5).h 0).2 r5,fL eH 51 ((sg 2).h 0).1 ((sg 2).h 0).2 r4,bx aW 71 b ({(ay.mk n2.Op n2.A n2.B n2.Table r n2.Left n2.Cond r1 n2.Aggs n2.Items r2 n2.Limit)with Cond:=({(ay.mk n2.Op n2.A n2.B n2.Table r n2.Left n2.Cond r1 n2.Aggs n2.Items r2 n2.Limit).Cond with Nodes:=r3}:bS)}:ay),ez bO 80 l c r3,bx aW 71 b1 Jz] _ from ?_);refine gj<|At Em J (Ab _ _) J (ht J) (R1 (ht J))<|zo J (je 9 t7 J J J)<|At Dt J (wk _ _ _) J (ht J) (R1 (ht J))<|aq<|ah<|av<|zo J (je 8 t8 J J J)<|zo J (q9 Em tZ (.head _) J (ht J))<|zo J (jB AI (.tail _ (.tail _ (.head _))) (ht J))<|zo J (bJ hI)<|aq<|aC<|oN (.tail _ (.tail _ (.head _))) fun hN=>bQ<|mw<|rL<|iq<|pX<|pX<|mw ?_;refine ba (yo (Z:=fun ls i n3 l1 c1 l2 c2=>(r4.drop i=ls)∧np ls i n3=some R) (Of:=fun _ i n3 l1 c1 l2 c2=>[bx aW 71 b1 Jz,bx lr 71 b (oE n3 (bc l1 c1 n3.Aggs.length) (bc l2 c2 n3.Items.length)),fL eH 51 l1 c1 n3.Aggs,fL ck 49 l2 c2 n3.Items]) (Gf:=fun _ i n3 l1 c1 l2 c2=>[(2,tV (aS b 0)),(4,tV (aS b1 0)),(51,ky r4),(52,bM (i:Int))]) (fun i n3 l1 c1 l2 c2 h=>?_) (fun e tl ih i n3 l1 c1 l2 c2 h=>?_) r4 0 ({({({(ay.mk n2.Op n2.A n2.B n2.Table r n2.Left n2.Cond r1 n2.Aggs n2.Items r2 n2.Limit)with Cond:=({(ay.mk n2.Op n2.A n2.B n2.Table r n2.Left n2.Cond r1 n2.Aggs n2.Items r2 n2.Limit).Cond with Nodes:=r3}:bS)}:ay)with Aggs:=r4}:ay)with Items:=r5}:ay) ((sg 2).h 0).1 ((sg 2).h 0).2 ((sg 5).h 0).1 ((sg 5).h 0).2 ⟨J,h⟩) (bD J)
   ·obtain⟨hx,h⟩:=h
    refine aG<|av<|zo J (fY J J)<|aq<|ah<|bL (ht J) (dO hx)<|bG ?_;refine ak (ak (aV ?_));refine ax<|ah<|av<|zo rfl (je 9 t7 rfl rfl rfl)<|zo rfl (q9 Dt tY (.tail _ (.head _)) rfl (ht rfl))<|zo rfl (jB BX (.tail _ (.tail _ (.tail _ (.head _)))) (ht rfl))<|zo rfl (bJ hI)<|aq<|aC<|oN (.tail _ (.tail _ (.tail _ (.head _)))) fun hN1=>bQ ?_;refine ba (yo (Z:=fun ls1 i1 n4 l3 c3 l4 c4=>(n3.Items.drop i1=ls1)∧nm ls1 i1 n4=some R) (Of:=fun _ i1 n4 l3 c3 l4 c4=>[bx aW 71 b1 Jz,bx lr 71 b (oE n4 (bc l3 c3 n4.Aggs.length) (bc l4 c4 n4.Items.length)),fL eH 51 l3 c3 n4.Aggs,fL ck 49 l4 c4 n4.Items]) (Gf:=fun _ i1 n4 l3 c3 l4 c4=>[(2,tV (aS b 0)),(4,tV (aS b1 0)),(72,ky n3.Items),(73,bM (i1:Int))]) (fun i1 n4 l3 c3 l4 c4 h=>?_) (fun e1 tl1 ih1 i1 n4 l3 c3 l4 c4 h=>?_) n3.Items 0 n3 l1 c1 l2 c2 ⟨J,h⟩) (bD J)
    ·obtain⟨hx1,h⟩:=h
     refine aG<|av<|zo J (fY J J)<|aq<|ah<|bL (ht J) (dO hx1)<|bG ?_;refine ak (ak (aV ?_));refine ax<|av<|gj<|kO<|oM<|kO<|zo rfl (ES (q:=aW) (y:=n4) jj J J J J (.tail _ (.tail _ (.tail _ (.head _)))) (fun _ _ _ ho h=>BI (Ii ho (.tail _ (.head _))) (Ii ho (.head _)) h) (ht J))<|gj<|am jj J ai J (ht J) (ht J)<|aY 4 J<|aq<|aj<|aZ<|aZ<|aZ ?_;cases so h;exact eP J jj J J J
    ·obtain⟨hx1,h⟩:=h
     refine aG<|av<|zo J (fY J J)<|aq<|ah<|bK (ht J) (dL hx1)<|df<|ah<|aC<|av<|aE J<|bg J<|aq<|bo h fun e2 q_e2 h=>bo h fun r6 q_r6 h=>?_
     refine my 12 (ts:=[tV (aS b 9),sw l4 c4 n4.Items,bM (i1:Int),tV (aS b 9),sw l4 c4 n4.Items,bM (i1:Int),tV (p8 l4 ((i1:Int).toNat*1+0)),tV (p8 l4 ((i1:Int).toNat*1+0)),cq (bO) e2.Nodes,cq (bO) r6,tV (p8 l4 ((i1:Int).toNat*1+0)),tV (p8 l4 ((i1:Int).toNat*1+0))]) mixed J J J
      ⟨dB 2 J J J (je 9 t7 J J J),
      ⟨bT 76 0 J J J (q9 Dt tY (.tail _ (.head _)) J (ht J)),
      ⟨dB 6 J J J (cX J),
      ⟨dB 2 J J J (je 9 t7 J J J),
      ⟨bT 79 3 J J J (q9 Dt tY (.tail _ (.head _)) J (ht J)),
      ⟨dB 6 J J J (cX J),
      ⟨cK 80 4 81 5 J J J J (cB BX k5 (.tail _ (.tail _ (.tail _ (.head _)))) (ht J) (ht J) q_e2),
      ⟨bT 82 6 J J J (nF (o:=(i1:Int).toNat*1+0) (n:=(i1:Int).toNat*1+0) ku J (.tail _ (.tail _ (.tail _ (.head _)))) q_e2 (ht J) J),
      ⟨bT 83 7 J J J (fJ (r:=ck) (i:=(i1:Int)) (foff:=0) sQ J J fQ J (.tail _ (.tail _ (.tail _ (.head _)))) q_e2 (ht J)),
      ⟨bT 84 8 J J J (ap S5 (O3 _ q_r6) ⟨(ht J),aL⟩),
      ⟨cK 77 1 78 2 J J J J (cB BX k5 (.tail _ (.tail _ (.tail _ (.head _)))) (ht J) (ht J) q_e2),
      ⟨bT 86 10 J J J (nF (o:=(i1:Int).toNat*1+0) (n:=(i1:Int).toNat*1+0) ku J (.tail _ (.tail _ (.tail _ (.head _)))) q_e2 (ht J) J),
      aL⟩⟩⟩⟩⟩⟩⟩⟩⟩⟩⟩⟩ ?_
     refine oM<|bo h fun st q_st h=>tq sQ J yD J q_e2 (so q_st) (ht J) (ht J)<|iZ (mM (so q_st)) 77 J<|iZ (mM (so q_st)) 80 J<|FH (O' :=[fL ck 49 l4 c4 st,bx aW 71 b1 Jz,bx lr 71 b (oE n4 (bc l3 c3 n4.Aggs.length) (bc l4 c4 st.length)),fL eH 51 l3 c3 n4.Aggs]) (by rw [mM (so q_st)])<|aQ<|aw<|ax<|aA<|zo rfl (nf (dd hx1 hN1) rfl)<|aE rfl<|aQ<|cy<|cy<|cy ?_;exact bn (ba (ih1 (i1+1) ({n4 with Items:=st}:ay) l3 c3 l4 c4 ⟨dc hx1,h⟩) (bD J))
   ·obtain⟨hx,h⟩:=h
    refine aG<|av<|zo J (fY J J)<|aq<|ah<|bK (ht J) (dL hx)<|df<|ah<|aC<|av<|aE J<|bg J<|aq<|bo h fun e3 q_e3 h=>bo h fun r7 q_r7 h=>?_
    refine my 14 (ts:=[tV (aS b 8),sw l1 c1 n3.Aggs,bM (i:Int),tV (aS b 8),sw l1 c1 n3.Aggs,bM (i:Int),tV (p8 l1 ((i:Int).toNat*2+0)),tV (p8 l1 ((i:Int).toNat*2+1)),tV (p8 l1 ((i:Int).toNat*2+1)),cq (bO) e3.Arg.Nodes,cq (bO) r7,tV (p8 l1 ((i:Int).toNat*2+0)),tV (p8 l1 ((i:Int).toNat*2+1)),tV (p8 l1 ((i:Int).toNat*2+1))]) mixed J J J
     ⟨dB 2 J J J (je 8 t8 J J J),
     ⟨bT 55 0 J J J (q9 Em tZ (.tail _ (.head _)) J (ht J)),
     ⟨dB 5 J J J (cX J),
     ⟨dB 2 J J J (je 8 t8 J J J),
     ⟨bT 58 3 J J J (q9 Em tZ (.tail _ (.head _)) J (ht J)),
     ⟨dB 5 J J J (cX J),
     ⟨cK 59 4 60 5 J J J J (cB AI uZ (.tail _ (.tail _ (.head _))) (ht J) (ht J) q_e3),
     ⟨bT 61 6 J J J (nF (o:=(i:Int).toNat*2+0) (n:=(i:Int).toNat*2+1) ua J (.tail _ (.tail _ (.head _))) q_e3 (ht J) J),
     ⟨bT 62 7 J J J (nF (o:=(i:Int).toNat*2+1) (n:=(i:Int).toNat*2+1) ku J (.tail _ (.tail _ (.head _))) q_e3 (ht J) J),
     ⟨bT 63 8 J J J (fJ (r:=eH) (i:=(i:Int)) (foff:=1) sQ J J (vJ oh fQ) J (.tail _ (.tail _ (.head _))) q_e3 (ht J)),
     ⟨bT 64 9 J J J (ap S5 (O3 _ q_r7) ⟨(ht J),aL⟩),
     ⟨cK 56 1 57 2 J J J J (cB AI uZ (.tail _ (.tail _ (.head _))) (ht J) (ht J) q_e3),
     ⟨bT 66 11 J J J (nF (o:=(i:Int).toNat*2+0) (n:=(i:Int).toNat*2+1) ua J (.tail _ (.tail _ (.head _))) q_e3 (ht J) J),
     ⟨bT 67 12 J J J (nF (o:=(i:Int).toNat*2+1) (n:=(i:Int).toNat*2+1) ku J (.tail _ (.tail _ (.head _))) q_e3 (ht J) J),
     aL⟩⟩⟩⟩⟩⟩⟩⟩⟩⟩⟩⟩⟩⟩ ?_
    refine gj<|bo h fun st1 q_st1 h=>tq sQ J (GR oh JZ yD) J q_e3 (so q_st1) (ht J) (ht J)<|iZ (mM (so q_st1)) 56 J<|iZ (mM (so q_st1)) 59 J<|FH (O' :=[fL eH 51 l1 c1 st1,bx aW 71 b1 Jz,bx lr 71 b (oE n3 (bc l1 c1 st1.length) (bc l2 c2 n3.Items.length)),fL ck 49 l2 c2 n3.Items]) (by rw [mM (so q_st1)])<|aQ<|aw<|ax<|aA<|zo rfl (nf (dd hx hN) rfl)<|aE rfl<|aQ<|cy<|bI<|cy<|cy ?_;exact bn (ba (ih (i+1) ({n3 with Aggs:=st1}:ay) l1 c1 l2 c2 ⟨dc hx,h⟩) (bD J))
  ·skip
   refine av<|zo J (je 2 sG J J J)<|zo J (bE cg J J kV (.head _) (ht J))<|zo J (gh (ht J) hI)<|aq<|ce h J (fun h=>?_) (fun h=>?_)
   ·refine aA<|zo J (je 2 sG J J J)<|zo J (bE cg J J kV (.head _) (ht J))<|aE J<|zo J (fV (ht J) (ht J))<|zo J (je 2 sG J J J)<|am cg J Ag J (ht J) (ht J)<|aQ ?_;exact ci (K1 (ay.mk n1.Op n1.A (IntKind.i64.wrap (n1.B+by1)) n1.Table n1.Kinds n1.Left n1.Cond n1.Keys n1.Aggs n1.Items n1.Order n1.Limit) h) (bD J)
   ·refine bA ?_;exact ci (K1 n1 h) (bD J)
 ·skip
  refine av<|zo J (je 1 kq J J J)<|zo J (bE cg J J d9 (.tail _ (.head _)) (ht J))<|zo J (gh (ht J) hI)<|aq<|ce h J (fun h=>?_) (fun h=>?_)
  ·refine aA<|zo J (je 1 kq J J J)<|zo J (bE cg J J d9 (.tail _ (.head _)) (ht J))<|aE J<|zo J (fV (ht J) (ht J))<|zo J (je 1 kq J J J)<|bq<|am cg J Ex J (ht J) (ht J)<|aQ ?_;exact ci (K (ay.mk n.Op (IntKind.i64.wrap (n.A+by1)) n.B n.Table n.Kinds n.Left n.Cond n.Keys n.Aggs n.Items n.Order n.Limit) h) (bD J)
  ·refine bA<|bI ?_;exact ci (K n h) (bD J)

theorem YP(l:cm)(place:Int){R:cm×Int}(h:tU l place=some R):aR aU 60 [tD dW l,bM place] (tT [tD dW R.1,bM R.2]):=by
 refine aR.of Tryz.func60 J J J fun w0 S0=>av<|zo J (gi J)<|aP (r:=dW) (x:=JA) rP (fun _=>tz _) J fun b=>zo J (bW)<|aq<|av<|zo J (bh rP J J)<|bo h fun r q_r h=>zo J (ap Zr (Nm _ q_r) ⟨(ht J),aL⟩)<|aE J<|zo J (dX J J)<|zo J (dX J J)<|zo J (dX J J)<|bg J<|bg J<|bg J<|aq<|ah<|aC ?_;refine av<|aE J<|zo J (cx (ht J))<|bg J<|aq<|ce h J (fun h=>?_) (fun h=>?_)
 ·refine av<|zo J (bB (y:=JA) rP YB tz (J))<|am rP J ai J (ht J) (ht J)<|zo J (bW)<|aq<|aj ?_;refine aB (ae ?_);refine aF 4 J ?_;cases so h;exact be J J ⟨aN rP J J J,aK J,aL⟩
 ·refine av<|aE J<|zo J (dJ (ht J) hI)<|aE J<|dD J J (fun hg=>cX J)<|dD J J (fun hg=>bX vd od J J)<|dD J J (fun hg=>bj F5 J J (bm J hg))<|dD J J (fun hg=>dK AJ (bm J hg))<|dD J J (fun hg=>gh (bm J hg) (bm J hg))<|zo J (uo J J)<|bg J<|aq<|ce h J (fun h=>?_) (fun h=>?_)
  ·refine av<|zo J (bB (y:=JA) rP YB tz (J))<|am rP J ai J (ht J) (ht J)<|zo J (bW)<|aq<|aj ?_;refine aB (ae ?_);refine aF 4 J ?_;cases so h;exact be J J ⟨aN rP J J J,aK J,aL⟩
  ·refine bA<|aw<|ax<|av<|ca true aW 71<|aP (r:=pp) (x:=rb JA (bc none 0 (([]:List ay).length))) rP Ma J fun b1=>aq<|ah<|av<|aE J<|zo J (Ip (ht J))<|zo J (bX uO Bn J J)<|zo J (bh eQ J J)<|aE J<|bo h fun e q_e h=>zo J (ne iv cg J J J q_e)<|zo J (bh cg J J)<|bg J<|aq<|aC ?_;refine bQ<|iq<|iq<|pX ?_;refine ba (PB (Z:=fun n i out l1 c=>nG l place e n i out=some R) (Of:=fun i out l1 c=>[bx dW 24 b JA,bx pp 24 b1 (rb out (bc l1 c out.Nodes.length)),ez aW 71 l1 c out.Nodes]) (Gf:=fun i out l1 c=>[(1,bM place),(2,bN dW l),(4,tV (aS b 0)),(6,bN bz r.1),(9,tV (aS b1 0)),(10,bM i)]) (fun i out l1 c h=>nn h) (fun n ih i out l1 c h=>?_) ir e ({JA with Nodes:=([]:List ay)}:cm) none 0 h) (bD J);refine aG<|ah<|av<|aE J<|aE J<|zo J (jZ (ht J) (ht J))<|aq<|ce h J (fun h=>?_) (fun h=>?_)
   ·refine df<|ah<|aC<|bo h fun e1 q_e1 h=>bo h fun r1 q_r1 h=>?_
    refine my 17 (ts:=[tV (aS b1 0),tO aW l1 c out.Nodes,bN (ik aW) l.Nodes,cq (aW) l.Nodes,bM i,bN aW e1,tD aW e1,bN bz r.1,bN bz r.1,bN nQ r.1.first,mH r.1.first,bM place,bN cj e,bM e,bM (IntKind.i64.wrap (0-e)),tD aW r1,cq (aW) ([r1])]) mixed J J J
     ⟨dB 9 J J J (je 0 vd J J J),
     ⟨bT 44 0 J J J (Qb F5 IJ (.tail _ (.head _)) (.tail _ (.tail _ (.head _))) J (ht J)),
     ⟨dB 2 J J J (bX vd od J J),
     ⟨bT 46 2 J J J (bh F5 J J),
     ⟨dB 10 J J J (cX J),
     ⟨cK 47 3 48 4 J J J J (ne AJ jj J J J q_e1),
     ⟨bT 49 5 J J J (bh jj J J),
     ⟨dB 6 J J J (cX J),
     ⟨bT 51 7 J J J (Ip (ht J)),
     ⟨bT 52 8 J J J (bX uO Bn J J),
     ⟨bT 53 9 J J J (bh eQ J J),
     ⟨dB 1 J J J (cX J),
     ⟨cK 54 10 55 11 J J J J (ne iv cg J J J q_e),
     ⟨bT 56 12 J J J (bh cg J J),
     ⟨bT 57 13 J J J (Ir (ht J)),
     ⟨cK 50 6 58 14 J J J J (ap acv (V8 _ _ q_r1) ⟨(ht J),(ht J),aL⟩),
     ⟨bT 59 15 J J J (bf (r:=aW) (ys:=[r1]) (xs:=[.tmp 59]) AJ jj J J J J J ⟨(ht J),aL⟩),
     aL⟩⟩⟩⟩⟩⟩⟩⟩⟩⟩⟩⟩⟩⟩⟩⟩⟩ ?_
    refine gj<|bo h fun l2 q_l2 h=>NI jj J J J J AJ J J (ht J) (ht J) q_l2 fun l3 c1=>zo J (je 0 vd J J J)<|gj<|At F5 J (xG _ _ _) J (ht J) (R1 (Mm (ht J)))<|aQ<|aw<|ax<|aA<|aE rfl<|zo rfl (fV (ht rfl) hI)<|bg rfl<|aQ<|bI<|bI<|aM ?_;exact bn (ba (ih (IntKind.i64.wrap (i+(1:Int))) ({out with Nodes:=l2}:cm) l3 c1 h) (bD J))
   ·refine bG ?_;refine ak (ak (aV ?_));refine ax<|av<|gj<|zo rfl (ES (q:=dW) (y:=out) rP J J J J (.tail _ (.tail _ (.head _))) (fun _ _ _ ho h=>DB (Ii ho (.head _)) h) (ht J))<|bq<|am rP J ai J (ht J) (ht J)<|zo J (bW)<|aq<|aj<|aF 4 J<|aZ<|aZ ?_;cases so h;exact be J J ⟨aN rP J J J,aK J,aL⟩

theorem Ze(l:cm)(b:kH){R:(List (List ac))×Int}(h:sn l b=some R):aR aU 15 [tD dW l,tD qh b] (tT [cq (dg) R.1,bM R.2]):=by
 refine aR.of Tryz.func15 J J J fun w0 S0=>av<|zo J (gi J)<|zo J (gi J)<|zo J (aT (show aO _ _ _ we from kJ))<|zo J (bW)<|aq<|ah<|av<|zo J (bh rP J J)<|bo h fun r q_r h=>zo J (ap aaG (Sn _ q_r) ⟨(ht J),aL⟩)<|aE J<|zo J (dX J J)<|zo J (dX J J)<|bg J<|bg J<|aq<|av ?_;refine aE J<|zo J (sx J)<|aq<|ce h J (fun h=>?_) (fun h=>?_)
 ·refine av<|aE J<|zo J (aT (show aO _ _ _ we from kJ))<|bg J<|aq<|aj<|ae ?_;cases so h;exact cW J J J
 ·refine df<|ah<|av<|zo J (bh rP J J)<|zo J (bh PQ J J)<|bo h fun r1 q_r1 h=>zo J (ap adz (Zd _ _ q_r1) ⟨(ht J),(ht J),aL⟩)<|zo J (cx (ht J))<|aq<|ce h J (fun h=>?_) (fun h=>?_)
  ·refine av<|zo J (aT (show aO _ _ _ we from kJ))<|zo J (bW)<|aq<|aj<|ae ?_;cases so h;exact cW J J J
  ·refine df<|av<|zo J (bh PQ J J)<|zo J (bB (r:=rH eS [(1,.slice none 0 0),(2,.slice none 0 0)]) (y:=(⟨b,[],[]⟩:dh)) acJ acS (zH XP ⟨J,J,aL⟩) (⟨_,_,_,_,_,J,WM Ro J J,J,(ht J),J⟩))<|s6 (ht J) J fun b1=>ca true ee 32<|ca true cj 3 ?_;refine(show RG _ _ _ _ [ez cj 3 none 0 vn,ez ee 32 none 0 ([]:List (List (List ac))),bx (rH eS [(1,bc none 0 ([]:List (List (List ac))).length),(2,bc none 0 vn.length)]) 96 b1 (⟨b,[],[]⟩:dh)] _ from ?_);refine bg J<|aq<|av<|Au (xg (fun y:(dh→ay→Option (((List (List ac))×Int)×dh))=>d4 aU pI (jE b1) qI y)) nO J fun b2=>aE J ?_
   refine qF ((show bZ _ _ _ _ (d4 aU pI (jE b1) qI XW)from j7 ado (ht J) (fun c x R h i=>by
     obtain⟨r,h1,rfl⟩:=wb.1 h
     exact iY (Ob:=fun j=>jE b1 c j) (i:=i) (aat _ i c _ h1)))) J ?_
   refine fc (γ:=(fun y:(dh→ay→Option (((List (List ac))×Int)×dh))=>d4 aU pI (jE b1) qI y)) (y:=XW) AN (eK lj) (ht J) (oc hI) (ht J) fun os=>aE J ?_
   refine qF ((show bZ _ _ _ _ (d4 aU pI (jE b1) qI XV)from j7 adn (ht J) (fun c x R h i=>by
     obtain⟨r,h1,rfl⟩:=wb.1 h
     exact iY (Ob:=fun j=>jE b1 c j) (i:=i) (aar _ i c _ h1)))) J ?_
   refine fc (γ:=(fun y:(dh→ay→Option (((List (List ac))×Int)×dh))=>d4 aU pI (jE b1) qI y)) (y:=XV) AN (eK lj) (ht J) (oc hI) (ht J) fun os1=>aE J ?_
   refine qF ((show bZ _ _ _ _ (d4 aU pI (jE b1) qI X0)from j7 adm (ht J) (fun c x R h i=>by
     obtain⟨r,h1,rfl⟩:=wb.1 h
     exact iY (Ob:=fun j=>jE b1 c j) (i:=i) (aaq _ i c _ h1)))) J ?_
   refine fc (γ:=(fun y:(dh→ay→Option (((List (List ac))×Int)×dh))=>d4 aU pI (jE b1) qI y)) (y:=X0) AN (eK lj) (ht J) (oc hI) (ht J) fun os2=>aE J ?_
   refine qF ((show bZ _ _ _ _ (d4 aU pI (jE b1) qI XX)from j7 adl (ht J) (fun c x R h i=>by
     obtain⟨r,h1,rfl⟩:=wb.1 h
     exact iY (Ob:=fun j=>jE b1 c j) (i:=i) (aap _ i c _ h1)))) J ?_
   refine fc (γ:=(fun y:(dh→ay→Option (((List (List ac))×Int)×dh))=>d4 aU pI (jE b1) qI y)) (y:=XX) AN (eK lj) (ht J) (oc hI) (ht J) fun os3=>aE J ?_
   refine qF ((show bZ _ _ _ _ (d4 aU pI (jE b1) qI X1)from j7 adk (ht J) (fun c x R h i=>by
     obtain⟨r,h1,rfl⟩:=wb.1 h
     exact iY (Ob:=fun j=>jE b1 c j) (i:=i) (aao _ i c _ h1)))) J ?_
   refine fc (γ:=(fun y:(dh→ay→Option (((List (List ac))×Int)×dh))=>d4 aU pI (jE b1) qI y)) (y:=X1) AN (eK lj) (ht J) (oc hI) (ht J) fun os4=>aE J ?_
   refine qF ((show bZ _ _ _ _ (d4 aU pI (jE b1) qI X2)from j7 adj (ht J) (fun c x R h i=>by
     obtain⟨r,h1,rfl⟩:=wb.1 h
     exact iY (Ob:=fun j=>jE b1 c j) (i:=i) (aan _ i c _ h1)))) J ?_
   refine fc (γ:=(fun y:(dh→ay→Option (((List (List ac))×Int)×dh))=>d4 aU pI (jE b1) qI y)) (y:=X2) AN (eK lj) (ht J) (oc hI) (ht J) fun os5=>aE J ?_
   refine qF ((show bZ _ _ _ _ (d4 aU pI (jE b1) qI XZ)from j7 adi (ht J) (fun c x R h i=>by
     obtain⟨r,h1,rfl⟩:=wb.1 h
     exact iY (Ob:=fun j=>jE b1 c j) (i:=i) (aam _ i c _ h1)))) J ?_
   refine fc (γ:=(fun y:(dh→ay→Option (((List (List ac))×Int)×dh))=>d4 aU pI (jE b1) qI y)) (y:=XZ) AN (eK lj) (ht J) (oc hI) (ht J) fun os6=>aE J ?_
   refine qF ((show bZ _ _ _ _ (d4 aU pI (jE b1) qI XY)from j7 adh (ht J) (fun c x R h i=>by
     obtain⟨r,h1,rfl⟩:=wb.1 h
     exact iY (Ob:=fun j=>jE b1 c j) (i:=i) (aal _ i c _ h1)))) J ?_
   refine fc (γ:=(fun y:(dh→ay→Option (((List (List ac))×Int)×dh))=>d4 aU pI (jE b1) qI y)) (y:=XY) AN (eK lj) (ht J) (oc hI) (ht J) fun os7=>aE J<|bg J<|aq<|ah<|av<|zo J (bX vd od J J)<|zo J (bh F5 J J)<|zo J (jw AJ J)<|zo J (bJ hI)<|aq<|aC<|bp (k:=52) J fun hN=>bQ<|iq<|pX<|mw<|mw ?_;refine ba (yo (Z:=fun ls i ob l1 c l2 c1=>(l.Nodes.drop i=ls)∧gu l ls i ob=some R) (Of:=fun _ i ob l1 c l2 c1=>[nP (xg (fun y:(dh→ay→Option (((List (List ac))×Int)×dh))=>d4 aU pI (jE b1) qI y)) nO b2 none os7 Q5,bx (rH eS [(1,bc l1 c ob.rows.length),(2,bc l2 c1 ob.width.length)]) 96 b1 ob,ez ee 32 l1 c ob.rows,ez cj 3 l2 c1 ob.width]) (Gf:=fun _ i ob l1 c l2 c1=>[(2,bN dW l),(8,tV (aS b1 0)),(9,tV (rd b2)),(52,cq (aW) l.Nodes),(53,ky l.Nodes),(54,bM (i:Int))]) (fun i ob l1 c l2 c1 h=>?_) (fun e tl ih i ob l1 c l2 c1 h=>?_) l.Nodes 0 (⟨b,[],[]⟩:dh) none 0 none 0 ⟨J,h⟩) (bD J)
   ·obtain⟨hx,h⟩:=h
    refine aG<|av<|zo J (fY J J)<|aq<|ah<|bL (ht J) (dO hx)<|bG ?_;refine ak (ak (aV ?_));refine ax<|ah<|bo h fun e1 q_e1 h=>?_
    refine cD (ts:=[_,_,_,_,_,_,_,_,_,_,_,_,_,_]) mixed J J
     ⟨dB 8 J J J (cX J),
     ⟨bT 119 0 J J J (dQ (ht J)),
     ⟨bT 120 1 J J J (je 1 rl J J J),
     ⟨bT 121 2 J J J (dx zf J (.tail _ (.head _)) (.tail _ (.tail _ (.head _))) (ht J)),
     ⟨dB 8 J J J (cX J),
     ⟨bT 123 4 J J J (dQ (ht J)),
     ⟨bT 124 5 J J J (je 1 rl J J J),
     ⟨bT 125 6 J J J (dx zf J (.tail _ (.head _)) (.tail _ (.tail _ (.head _))) (ht J)),
     ⟨bT 126 7 J J J (dK qP (lJ (ht J))),
     ⟨bT 127 8 J J J (ft (ht J) hI),
     ⟨cK 122 3 128 9 J J J J (bF qP iy J (lJ (ht J)) (ht J) q_e1),
     ⟨bT 129 10 J J J (bh iy J J),
     ⟨bT 130 11 J J J (rN J),
     ⟨NX J J (bW),
     aL⟩⟩⟩⟩⟩⟩⟩⟩⟩⟩⟩⟩⟩⟩ ?_
    refine ax<|aj<|aZ<|aZ<|aZ<|aZ ?_;cases so h;exact cW J J J
   ·obtain⟨hx,h⟩:=h
    refine aG<|av<|zo J (fY J J)<|aq<|ah<|bK (ht J) (dL hx)<|df<|ah<|aC<|av<|aE J<|zo J (ne AJ jj J J J (dA hx))<|zo J (bh jj J J)<|aP (r:=aW) (x:=Jz) jj (fun _=>p9 _) J fun b3=>bg J<|am jj J ai J (ht J) (ht J)<|aY 11 J<|aq<|ah ?_;refine aA<|aE J<|zo J (bX Cp rj J J)<|zo J (bh cg J J)<|zo J (MT (γ:=(fun y:(dh→ay→Option (((List (List ac))×Int)×dh))=>d4 aU pI (jE b1) (fun(x:(List (List ac))×Int)=>tT [tD ee x.1,tD cj x.2]) y)) (z:=fun _ _=>none) AN (eK lj) acF (fun _=>GK) (.head _) (ht J) (oc (ht J)))<|zo J (bh jj J J)<|bo h fun r2 q_r2 h=>Av (EffOK.fr3 (EffOK.fr3 (EffOK.fr3 (BC (args:=pI) (Ob:=jE b1) (res:=qI) (f:=((pw Q5 e.Op).getD (fun _ _=>none))) (x:=ob) (y:=((e):ay)) (R:=r2) (i:=(WQ [(l1,c),(l2,c1)])) (xs:=[.tmp 64]) _ J (ht J) q_r2 ⟨(ht J),aL⟩ (fun _=>J))))) J fun i1=>?_;refine(show RG _ _ _ _ [bx (rH eS [(1,bc (i1.h 0).1 (i1.h 0).2 r2.2.rows.length),(2,bc (i1.h 1).1 (i1.h 1).2 r2.2.width.length)]) 96 b1 r2.2,ez ee 32 (i1.h 0).1 (i1.h 0).2 r2.2.rows,ez cj 3 (i1.h 1).1 (i1.h 1).2 r2.2.width,nP (xg (fun y:(dh→ay→Option (((List (List ac))×Int)×dh))=>d4 aU pI (jE b1) qI y)) nO b2 none os7 Q5] ((65,tT [cq (dg) r2.1.1,bM r2.1.2])::_)from ?_);refine aE J<|zo J (dX J J)<|zo J (dX J J)<|bg J<|bg J<|aq ?_;refine i6 (Z:=fun e2=>ou l (gu l tl) i e r2 e2=some R) (Of:=fun e2=>[nP (xg (fun y:(dh→ay→Option (((List (List ac))×Int)×dh))=>d4 aU pI (jE b1) qI y)) nO b2 none os7 Q5,bx (rH eS [(1,bc (i1.h 0).1 (i1.h 0).2 r2.2.rows.length),(2,bc (i1.h 1).1 (i1.h 1).2 r2.2.width.length)]) 96 b1 r2.2,ez ee 32 (i1.h 0).1 (i1.h 0).2 r2.2.rows,ez cj 3 (i1.h 1).1 (i1.h 1).2 r2.2.width]) (Gf:=fun e2=>[(2,bN dW l),(8,tV (aS b1 0)),(9,tV (rd b2)),(10,bM (i:Int)),(11,bN aW e),(12,cq (dg) r2.1.1),(13,bM e2),(52,cq (aW) l.Nodes),(53,ky l.Nodes),(54,bM (i:Int))]) (fun e2 h=>?_) (fun K=>?_)
    ·skip
     refine ah<|av<|aE J<|zo J (sx J)<|aq<|ce h J (fun h=>?_) (fun h=>?_)
     ·refine av<|aE J<|zo J (aT (show aO _ _ _ we from kJ))<|bg J<|aq<|aj ?_;refine ae (aB (ae (ae (aB (ae ?_)))));refine aZ<|aZ<|aZ<|aZ ?_;cases so h;exact cW J J J
     ·refine df ?_;refine i6 (Z:=fun rows=>ot l (gu l tl) i r2 rows=some R) (Of:=fun rows=>[nP (xg (fun y:(dh→ay→Option (((List (List ac))×Int)×dh))=>d4 aU pI (jE b1) qI y)) nO b2 none os7 Q5,bx (rH eS [(1,bc (i1.h 0).1 (i1.h 0).2 r2.2.rows.length),(2,bc (i1.h 1).1 (i1.h 1).2 r2.2.width.length)]) 96 b1 r2.2,ez ee 32 (i1.h 0).1 (i1.h 0).2 r2.2.rows,ez cj 3 (i1.h 1).1 (i1.h 1).2 r2.2.width]) (Gf:=fun rows=>[(2,bN dW l),(8,tV (aS b1 0)),(9,tV (rd b2)),(10,bM (i:Int)),(12,cq (dg) rows),(52,cq (aW) l.Nodes),(53,ky l.Nodes),(54,bM (i:Int))]) (fun rows h=>?_) (fun K1=>?_)
      ·skip
       refine av<|zo J (bh rP J J)<|aE J<|bo h fun r3 q_r3 h=>zo J (ap adf (YP _ _ q_r3) ⟨(ht J),(ht J),aL⟩)<|aE J<|zo J (dX J J)<|zo J (dX J J)<|aP (r:=dW) (x:=JA) rP (fun _=>tz _) J fun b4=>am rP J ai J (ht J) (ht J)<|aY 14 J<|bg J<|aq<|av<|zo J (bh rP J J)<|bo h fun r4 q_r4 h=>zo J (ap adx (Y1 _ q_r4) ⟨(ht J),aL⟩)<|aE J<|zo J (dX J J)<|zo J (dX J J)<|bg J ?_;refine bg J<|aq<|bo h fun l3 q_l3 h=>bo h fun l4 q_l4 h=>?_
       refine oy 20 [tc (tV (aS b1 0)),tc (tV (aS b1 0)),tc (tV (aS b1 0)),tc (tV (aS b1 0)),tc (tV (aS b1 1)),tc (tO ee (i1.h 0).1 (i1.h 0).2 r2.2.rows),tc (cq (dg) rows),tc (cq (ee) ([rows])),([8],fun s=>tO ee ((s.getD 0 pj).h 0).1 ((s.getD 0 pj).h 0).2 l3),tc (tV (aS b1 0)),tc (tV (aS b1 0)),tc (tV (aS b1 2)),tc (tO cj (i1.h 1).1 (i1.h 1).2 r2.2.width),tc (mH r4.1),tc (ky r4.1),tc (mH ([(r4.1.length:Int)])),([16],fun s=>tO cj ((s.getD 0 pj).h 0).1 ((s.getD 0 pj).h 0).2 l4),tc (tV (aS b1 0)),tc (tV (aS b1 1)),tc (AX)] [false,false,false,false,false,false,false,false,true,false,false,false,false,false,false,false,true,false,false,true] [fun _=>[nP (xg (fun y:(dh→ay→Option (((List (List ac))×Int)×dh))=>d4 aU pI (jE b1) qI y)) nO b2 none os7 Q5,bx (rH eS [(1,bc (i1.h 0).1 (i1.h 0).2 r2.2.rows.length),(2,bc (i1.h 1).1 (i1.h 1).2 r2.2.width.length)]) 96 b1 r2.2,ez ee 32 (i1.h 0).1 (i1.h 0).2 r2.2.rows,ez cj 3 (i1.h 1).1 (i1.h 1).2 r2.2.width],fun sg=>[ez ee 32 ((sg 8).h 0).1 ((sg 8).h 0).2 l3,nP (xg (fun y:(dh→ay→Option (((List (List ac))×Int)×dh))=>d4 aU pI (jE b1) qI y)) nO b2 none os7 Q5,bx (rH eS [(1,bc (i1.h 0).1 (i1.h 0).2 r2.2.rows.length),(2,bc (i1.h 1).1 (i1.h 1).2 r2.2.width.length)]) 96 b1 r2.2,ez cj 3 (i1.h 1).1 (i1.h 1).2 r2.2.width],fun sg=>[ez cj 3 ((sg 16).h 0).1 ((sg 16).h 0).2 l4,ez ee 32 ((sg 8).h 0).1 ((sg 8).h 0).2 l3,nP (xg (fun y:(dh→ay→Option (((List (List ac))×Int)×dh))=>d4 aU pI (jE b1) qI y)) nO b2 none os7 Q5,bx (rH eS [(1,bc (i1.h 0).1 (i1.h 0).2 r2.2.rows.length),(2,bc (i1.h 1).1 (i1.h 1).2 r2.2.width.length)]) 96 b1 r2.2],fun sg=>[bx (rH eS [(1,bc ((sg 8).h 0).1 ((sg 8).h 0).2 l3.length),(2,bc (i1.h 1).1 (i1.h 1).2 r2.2.width.length)]) 96 b1 ({r2.2 with rows:=l3}:dh),ez cj 3 ((sg 16).h 0).1 ((sg 16).h 0).2 l4,ez ee 32 ((sg 8).h 0).1 ((sg 8).h 0).2 l3,nP (xg (fun y:(dh→ay→Option (((List (List ac))×Int)×dh))=>d4 aU pI (jE b1) qI y)) nO b2 none os7 Q5]] J mixed J J J J J
        ⟨⟨[⟨8,fun _=>tV (aS b1 0),none⟩],_,0,2,J,⟨(fun _=>J),aL⟩,J,J,J,J,J,fun _ sg _ _=>aD J (cX J)⟩,
        ⟨⟨[⟨8,fun _=>tV (aS b1 0),none⟩],_,0,3,J,⟨(fun _=>J),aL⟩,J,J,J,J,J,fun _ sg _ _=>aD J (cX J)⟩,
        ⟨⟨[⟨8,fun _=>tV (aS b1 0),none⟩],_,0,0,J,⟨(fun _=>J),aL⟩,J,J,J,J,J,fun _ sg _ _=>aD J (cX J)⟩,
        ⟨⟨[⟨99,fun _=>tV (aS b1 0),some 2⟩],_,0,0,J,⟨(fun _=>J),aL⟩,J,J,J,J,J,fun _ sg _ _=>aD J (dQ (ht J))⟩,
        ⟨⟨[⟨100,fun _=>tV (aS b1 0),some 3⟩],_,0,0,J,⟨(fun _=>J),aL⟩,J,J,J,J,J,fun _ sg _ _=>aD J (je 1 rl J J J)⟩,
        ⟨⟨[⟨101,fun _=>tV (aS b1 1),some 4⟩],_,0,0,J,⟨(fun _=>J),aL⟩,J,J,J,J,J,z7 (fun sg=>aD J (dx zf J (.tail _ (.head _)) (.tail _ (.tail _ (.head _))) (ht J)))⟩,
        ⟨⟨[⟨12,fun _=>tD ee rows,none⟩],_,0,0,J,⟨(fun _=>J),aL⟩,J,J,J,J,J,fun _ sg _ _=>aD J (cX J)⟩,
        ⟨⟨[⟨103,fun _=>tD ee rows,some 6⟩],_,0,0,J,⟨(fun _=>J),aL⟩,J,J,J,J,J,fun _ sg _ _=>aD J (bf (r:=ee) (ys:=[rows]) (xs:=[.tmp 103]) qP iy J J J J J ⟨(ht J),aL⟩)⟩,
        ⟨⟨[⟨102,fun _=>tO ee (i1.h 0).1 (i1.h 0).2 r2.2.rows,some 5⟩,⟨104,fun _=>tD (ik ee) ([rows]),some 7⟩],_,J,⟨(fun _=>J),(fun _=>J),aL⟩,J,J,J,fun sg=>eF J (EffOK.fr2 (uQ iy J J J J qP J (ht J) (ht J) q_l3))⟩,
        ⟨⟨[⟨8,fun _=>tV (aS b1 0),none⟩],_,0,1,J,⟨(fun _=>J),aL⟩,J,J,J,J,J,fun _ sg _ _=>aD J (cX J)⟩,
        ⟨⟨[⟨106,fun _=>tV (aS b1 0),some 9⟩],_,0,1,J,⟨(fun _=>J),aL⟩,J,J,J,J,J,fun _ sg _ _=>aD J (dQ (ht J))⟩,
        ⟨⟨[⟨107,fun _=>tV (aS b1 0),some 10⟩],_,0,1,J,⟨(fun _=>J),aL⟩,J,J,J,J,J,fun _ sg _ _=>aD J (je 2 Nh J J J)⟩,
        ⟨⟨[⟨108,fun _=>tV (aS b1 2),some 11⟩],_,0,1,J,⟨(fun _=>J),aL⟩,J,J,J,J,J,F3 (fun sg=>aD J (dx eQ J (.tail _ (.head _)) (.tail _ (.tail _ (.tail _ (.head _)))) (ht J))) (z7 (fun sg=>aD J (dx eQ J (.tail _ (.tail _ (.head _))) (.tail _ (.tail _ (.tail _ (.head _)))) (ht J))))⟩,
        ⟨⟨[⟨16,fun _=>tD xA r4.1,none⟩],_,0,1,J,⟨(fun _=>J),aL⟩,J,J,J,J,J,fun _ sg _ _=>aD J (cX J)⟩,
        ⟨⟨[⟨110,fun _=>tD xA r4.1,some 13⟩],_,0,1,J,⟨(fun _=>J),aL⟩,J,J,J,J,J,fun _ sg _ _=>aD J (jw iv J)⟩,
        ⟨⟨[⟨111,fun _=>tD cj (r4.1.length:Int),some 14⟩],_,0,1,J,⟨(fun _=>J),aL⟩,J,J,J,J,J,fun _ sg _ _=>aD J (bf (r:=cj) (ys:=[(r4.1.length:Int)]) (xs:=[.tmp 111]) iv cg J J J J J ⟨(ht J),aL⟩)⟩,
        ⟨⟨[⟨109,fun _=>tO cj (i1.h 1).1 (i1.h 1).2 r2.2.width,some 12⟩,⟨112,fun _=>tD xA ([(r4.1.length:Int)]),some 15⟩],_,J,⟨(fun _=>J),(fun _=>J),aL⟩,J,J,J,fun sg=>eF J (EffOK.fr3 (uQ cg J J J J iv J (ht J) (ht J) q_l4))⟩,
        ⟨⟨[⟨97,fun _=>tV (aS b1 0),some 0⟩],_,2,2,J,⟨(fun _=>J),aL⟩,J,J,J,J,J,fun _ sg _ _=>aD J (dQ (ht J))⟩,
        ⟨⟨[⟨114,fun _=>tV (aS b1 0),some 17⟩],_,2,2,J,⟨(fun _=>J),aL⟩,J,J,J,J,J,fun _ sg _ _=>aD J (je 1 rl J J J)⟩,
        ⟨⟨[⟨115,fun _=>tV (aS b1 1),some 18⟩,⟨105,fun sg=>tO ee ((sg 8).h 0).1 ((sg 8).h 0).2 l3,some 8⟩],_,J,⟨(fun _=>J),(fun _=>J),aL⟩,J,J,J,fun sg=>eF J (EffOK.fr3 (wJ (hs' :=[(1,bc ((sg 8).h 0).1 ((sg 8).h 0).2 l3.length),(2,bc (i1.h 1).1 (i1.h 1).2 r2.2.width.length)]) (u:=bc ((sg 8).h 0).1 ((sg 8).h 0).2 l3.length) zf J J Rn J ⟨.inl ⟨J,J,J⟩,.inr ⟨J,J⟩,aL⟩ (ht J) (lJ (ht J)) (Mm (ht J))))⟩,
        aL⟩⟩⟩⟩⟩⟩⟩⟩⟩⟩⟩⟩⟩⟩⟩⟩⟩⟩⟩⟩ (fun sg=>?_)
       refine(show RG _ _ _ _ [bx (rH eS [(1,bc ((sg 8).h 0).1 ((sg 8).h 0).2 l3.length),(2,bc (i1.h 1).1 (i1.h 1).2 r2.2.width.length)]) 96 b1 ({r2.2 with rows:=l3}:dh),ez cj 3 ((sg 16).h 0).1 ((sg 16).h 0).2 l4,ez ee 32 ((sg 8).h 0).1 ((sg 8).h 0).2 l3,nP (xg (fun y:(dh→ay→Option (((List (List ac))×Int)×dh))=>d4 aU pI (jE b1) qI y)) nO b2 none os7 Q5] _ from ?_);refine zo J (dQ (ht J))<|zo J (je 2 Nh J J J)<|nd (wJ (hs' :=[(1,bc ((sg 8).h 0).1 ((sg 8).h 0).2 l3.length),(2,bc ((sg 16).h 0).1 ((sg 16).h 0).2 l4.length)]) (u:=bc ((sg 16).h 0).1 ((sg 16).h 0).2 l4.length) eQ J J Rm J ⟨.inr ⟨J,J⟩,.inl ⟨J,J,J⟩,aL⟩ (ht J) (lJ (ht J)) (Mm (ht J))) fun i2=>?_;refine(show RG _ _ _ _ [bx (rH eS [(1,bc ((sg 8).h 0).1 ((sg 8).h 0).2 l3.length),(2,bc ((sg 16).h 0).1 ((sg 16).h 0).2 l4.length)]) 96 b1 ({({r2.2 with rows:=l3}:dh)with width:=l4}:dh),ez cj 3 ((sg 16).h 0).1 ((sg 16).h 0).2 l4,ez ee 32 ((sg 8).h 0).1 ((sg 8).h 0).2 l3,nP (xg (fun y:(dh→ay→Option (((List (List ac))×Int)×dh))=>d4 aU pI (jE b1) qI y)) nO b2 none os7 Q5] _ from ?_);refine aQ<|aw<|ax<|aA<|zo rfl (nf (dd hx hN) rfl)<|aE rfl<|aQ<|bI<|aM<|aM<|cy ?_;exact bn (ba (ih (i+1) ({({r2.2 with rows:=l3}:dh)with width:=l4}:dh) ((sg 8).h 0).1 ((sg 8).h 0).2 ((sg 16).h 0).1 ((sg 16).h 0).2 ⟨dc hx,h⟩) (bD J))
      ·skip
       refine av<|zo J (bX Cp rj J J)<|zo J (bh cg J J)<|zo J (sx J)<|aq<|ce h J (fun h=>?_) (fun h=>?_)
       ·refine aA<|aE J<|bo h fun r5 q_r5 h=>zo J (ap adg (YQ _ q_r5) ⟨(ht J),aL⟩)<|aE J<|zo J (dX J J)<|zo J (dX J J)<|bg J<|aQ ?_;exact ci (K1 r5.1 h) (bD J)
       ·refine bA ?_;exact ci (K1 r2.1.1 h) (bD J)
    ·skip
     refine av<|aE J<|zo J (hM J)<|aE J<|co J J (fun hg=>cX J)<|co J J (fun hg=>dK jN (bm J hg))<|co J J (fun hg=>iz (bm J hg) hI)<|zo J (pH J J)<|aq<|ce h J (fun h=>?_) (fun h=>?_)
     ·refine aA<|zo J (bW)<|aQ<|aM<|aM<|aM<|cy ?_;exact ci (K (3:Int) h) (bD J)
     ·refine bA<|aM<|aM<|aM<|cy ?_;exact ci (K r2.1.2 h) (bD J)

end Go.Proofs.YtfhhakidodmdfaaGreatDoor

