/- cR of this claim: P3. -/
import Derived.Test.YtnmjbolollcokaaGreatDoorRcT
import Derived.Test.YtnmjbolollcokaaGreatDoorRcP2
set_option linter.all false
namespace Go.Proofs.YtnmjbolollcokaaGreatDoor
open Go
set_option maxRecDepth 100000

theorem PJ(s:(List kT))(f:(kT→Option Bool)){R:Bool}(h:d2 s f=some R):bA bc 212 [fZ (ke) s,(iH bc Mv n9 (fun(x:kT)=>f x))] (gX R):=by
 refine bA.of Tryz.func212 J J J fun w0 S0=>aA<|zo J (iO)<|ax<|aA<|aJ J<|aJ J<|bT h fun r q_r h=>zo J (aL Uh (Pz _ _ q_r) ⟨(ht J),(ht J),aV⟩)<|zo J (fF (ht J) hI)<|bN J<|ax<|av ?_;cases so h;exact ba J J

theorem Sy(b:Nat)(ix:OI)(c:aq)(n:M){R:(List Int)×Bool}(h:fS c n=some R):c9 bc 155 [tV (aE b 0),tD ai n] (dc b c ix) (fun _:OI=>tT [fP R.1,gX R.2]) (fun _=>(dc b c ix)):=by
 refine c9.of Tryz.func155 J J J fun w0 S0=>?_;refine(show CG _ _ _ [bx (rH aZ [(1,aD (ix.h 0).1 (ix.h 0).2 c.kinds.length),(2,aD (ix.h 1).1 (ix.h 1).2 c.first.length)]) 123 b c,cv fk 42 (ix.h 0).1 (ix.h 0).2 c.kinds,cv cn 3 (ix.h 1).1 (ix.h 1).2 c.first] _ from ?_);refine aA<|zo J (l9 J)<|zo J (aS (show aK _ _ _ o8 from lU))<|zo J (iO)<|ax<|af<|bT h fun e q_e h=>?_
 refine j6 9 [tc (tV (aE b 0)),tc (tV (aE b 0)),tc (tV (aE b 1)),tc (tO fk (ix.h 0).1 (ix.h 0).2 c.kinds),tc (bw cn n.A),tc (cm n.A),tc (bw fk e),tc (fP e),([8],fun s=>tV (aE ((s.getD 0 o7).h 0).2 0))] [false,false,false,false,false,false,false,false,true] [fun _=>[bx (rH aZ [(1,aD (ix.h 0).1 (ix.h 0).2 c.kinds.length),(2,aD (ix.h 1).1 (ix.h 1).2 c.first.length)]) 123 b c,cv fk 42 (ix.h 0).1 (ix.h 0).2 c.kinds,cv cn 3 (ix.h 1).1 (ix.h 1).2 c.first],fun sg=>[bx fk 42 ((sg 8).h 0).2 ([]),bx (rH aZ [(1,aD (ix.h 0).1 (ix.h 0).2 c.kinds.length),(2,aD (ix.h 1).1 (ix.h 1).2 c.first.length)]) 123 b c,cv fk 42 (ix.h 0).1 (ix.h 0).2 c.kinds,cv cn 3 (ix.h 1).1 (ix.h 1).2 c.first]] J mixed J J J J J
  ⟨⟨[⟨0,fun _=>tV (aE b 0),none⟩],_,0,1,J,⟨(fun _=>J),aV⟩,J,J,J,J,J,fun _ sg _ _=>ae J (dw J)⟩,
  ⟨⟨[⟨9,fun _=>tV (aE b 0),some 0⟩],_,0,1,J,⟨(fun _=>J),aV⟩,J,J,J,J,J,fun _ sg _ _=>ae J (dD (ht J))⟩,
  ⟨⟨[⟨10,fun _=>tV (aE b 0),some 1⟩],_,0,1,J,⟨(fun _=>J),aV⟩,J,J,J,J,J,fun _ sg _ _=>ae J (fX 1 lX J J J)⟩,
  ⟨⟨[⟨11,fun _=>tV (aE b 1),some 2⟩],_,0,1,J,⟨(fun _=>J),aV⟩,J,J,J,J,J,EP (fun sg=>ae J (dL u5 J (.head _) (.tail _ (.head _)) (ht J))) (yo (fun sg=>ae J (dL u5 J (.tail _ (.head _)) (.tail _ (.tail _ (.head _))) (ht J))))⟩,
  ⟨⟨[⟨3,fun _=>bw ai n,none⟩],_,0,1,J,⟨(fun _=>J),aV⟩,J,J,J,J,J,fun _ sg _ _=>ae J (cQ jv eo J J)⟩,
  ⟨⟨[⟨13,fun _=>bw cn n.A,some 4⟩],_,0,1,J,⟨(fun _=>J),aV⟩,J,J,J,J,J,fun _ sg _ _=>ae J (bH ce J J)⟩,
  ⟨⟨[⟨12,fun _=>tO n8 (ix.h 0).1 (ix.h 0).2 c.kinds,some 3⟩,⟨14,fun _=>tD cn n.A,some 5⟩],_,0,1,J,⟨(fun _=>J),(fun _=>J),aV⟩,J,J,J,J,J,fun _ sg _ _=>ae J (aO rW cS J (ma (ht J)) (ht J) q_e)⟩,
  ⟨⟨[⟨15,fun _=>bw n8 e,some 6⟩],_,0,1,J,⟨(fun _=>J),aV⟩,J,J,J,J,J,fun _ sg _ _=>ae J (bH cS J J)⟩,
  ⟨⟨[],_,J,aV,J,J,J,fun sg=>cy J (gI (r:=n8) (x:=[]) cS (fun _=>⟨none,0,J,dN _,gx _,.inl J⟩))⟩,
  aV⟩⟩⟩⟩⟩⟩⟩⟩⟩ (fun sg=>?_)
 refine(show RG _ _ _ _ [bx fk 42 ((sg 8).h 0).2 ([]),bx (rH aZ [(1,aD (ix.h 0).1 (ix.h 0).2 c.kinds.length),(2,aD (ix.h 1).1 (ix.h 1).2 c.first.length)]) 123 b c,cv fk 42 (ix.h 0).1 (ix.h 0).2 c.kinds,cv cn 3 (ix.h 1).1 (ix.h 1).2 c.first] _ from ?_);refine ap cS J aj J (ht J) (ht J)<|bf 6 J<|ax<|aA<|zo J ((show bW _ _ _ _ ((iH bc Mv n9 (fun(x:kT)=>(jz e) x)))from qg (cts:=[bw fk e]) (caps:=[.tmp 6]) Uu ⟨(ht J),aV⟩ (fun x y h=>PK _ _ h)))<|bN J<|ax<|aA<|zo J (cQ uN qn J J)<|zo J (bH Ip J J)<|zo J (lx yl J)<|zo J (lT (ht J) hI)<|aJ J<|bT h fun t q_t h=>cP J J (fun hg=>cQ uN qn J J)<|cP J J (fun hg=>bD Ip J J (bB J hg))<|cP J J (fun hg=>dw J) ?_
 obtain⟨r,h1t,h0t⟩:=og q_t
 have q_rg:=fun hb=>(h1t hb).1
 refine cP J J (fun hg=>aL Ut (PJ _ _ (q_rg hg)) ⟨(bB J hg),(bB J hg),aV⟩)<|cP J J (fun hg=>gj (bB J hg))<|zo J (fe (ht J) (fun hb=>(bB J hb)) (fun hb=>(h1t hb).2) h0t)<|aJ J<|cP J J (fun hg=>cQ Bx vS J J)<|cP J J (fun hg=>bD ce J J (bB J hg))<|cP J J (fun hg=>fF (bB J hg) hI)<|zo J (r0 J J)<|aJ J<|cP J J (fun hg=>cQ Bx vS J J)<|cP J J (fun hg=>bD ce J J (bB J hg))<|cP J J (fun hg=>lT (bB J hg) hI)<|zo J (r0 J J)<|bN J<|ax<|af ?_
 refine iq (ts:=[_,_,_,_,_,_,_,_,_,_,_,_,_,_,_,_,_,_,_]) mixed J J
  ⟨gK 6 J J J (bH cS J J),
  ⟨gK 8 J J J (dw J),
  ⟨dR 40 1 J J J (dw J),
  ⟨C2 0 41 2 J J J J (kp J J J J (fun hg=>dw J)),
  ⟨qG 42 3 41 2 J J J J (kp J J J J (fun hg=>dD (bB J hg))),
  ⟨qG 43 4 41 2 J J J J (kp J J J J (fun hg=>ki (n:=1) lX J (bB J hg) J)),
  ⟨qG 44 5 41 2 J J J J (kp J J J J (fun hg=>dL u5 J (.head _) (.tail _ (.head _)) (bB J hg))),
  ⟨qG 45 6 41 2 J J J J (kp J J J J (fun hg=>cA rW (ma (bB J hg)))),
  ⟨C2 0 41 2 J J J J (kp J J J J (fun hg=>dw J)),
  ⟨qG 47 8 41 2 J J J J (kp J J J J (fun hg=>dD (bB J hg))),
  ⟨qG 48 9 41 2 J J J J (kp J J J J (fun hg=>ki (n:=0) FG J (bB J hg) J)),
  ⟨qG 49 10 41 2 J J J J (kp J J J J (fun hg=>ki (n:=0) pz J (bB J hg) J)),
  ⟨qG 50 11 41 2 J J J J (kp J J J J (fun hg=>aX (r:=rH aZ [(1,aD (ix.h 0).1 (ix.h 0).2 c.kinds.length),(2,aD (ix.h 1).1 (ix.h 1).2 c.first.length)]) (x:=c) pe J J (LK (ry uH js)) (.head _) (bB J hg))),
  ⟨qG 51 12 41 2 J J J J (kp J J J J (fun hg=>cA ly (bB J hg))),
  ⟨qG 52 13 41 2 J J J J (kp J J J J (fun hg=>ib (bB J hg) hI)),
  ⟨JP 46 7 53 14 41 2 J J J J J (kp J J J J (fun hg=>cO (bB J hg) (bB J hg))),
  ⟨gL 41 2 54 15 J J J J (r0 J J),
  ⟨dR 39 0 J J J (BQ J),
  ⟨dR 55 16 J J J (BQ J),
  aV⟩⟩⟩⟩⟩⟩⟩⟩⟩⟩⟩⟩⟩⟩⟩⟩⟩⟩⟩ ?_
 refine aw<|av<|au<|au<|au ?_;cases so h;exact jy (ts:=[fP e,gX (((t&&(decide (q9≤n.Limit)))&&(decide (n.Limit≤(2147483647:Int))))&&((c.kinds.length:Int)==(IntKind.i64.wrap ((c.Logic.Nodes.length:Int)-(1:Int)))))]) (rvs:=[.tmp 4,.tmp 5]) J J ⟨dl J,dl J,aV⟩ o7 J J

theorem Qb(n:M){R:Bool}(h:rt n=some R):bA bc 156 [tD ai n] (gX R):=by
 refine bA.of Tryz.func156 J J J fun w0 S0=>aA<|zo J (l9 J)<|zo J (iO)<|ax<|aA<|zo J (cQ vX nv J J)<|zo J (bH ce J J)<|zo J (mU J)<|aJ J<|cP J J (fun hg=>cQ tf mq J J)<|cP J J (fun hg=>bD cS J J (bB J hg))<|cP J J (fun hg=>cA d8 (bB J hg))<|cP J J (fun hg=>cO (bB J hg) hI)<|zo J (r0 J J)<|aJ J<|cP J J (fun hg=>cQ NN I9 J J)<|cP J J (fun hg=>bD JS J J (bB J hg))<|cP J J (fun hg=>gj (bB J hg))<|zo J (r0 J J)<|aJ J ?_;refine cP J J (fun hg=>cQ uM nu J J)<|cP J J (fun hg=>lc fW J db J (bB J hg))<|cP J J (fun hg=>bD mR J J (bB J hg))<|cP J J (fun hg=>cA l8 (bB J hg))<|cP J J (fun hg=>cO (bB J hg) hI)<|zo J (r0 J J)<|aJ J<|cP J J (fun hg=>cQ qy ko J J)<|cP J J (fun hg=>bD cS J J (bB J hg))<|cP J J (fun hg=>cA d8 (bB J hg))<|cP J J (fun hg=>cO (bB J hg) hI)<|zo J (r0 J J)<|aJ J<|cP J J (fun hg=>cQ mT li J J)<|cP J J (fun hg=>bD wQ J J (bB J hg))<|cP J J (fun hg=>cA rX (bB J hg))<|cP J J (fun hg=>cO (bB J hg) hI)<|zo J (r0 J J)<|aJ J<|cP J J (fun hg=>cQ oI km J J)<|cP J J (fun hg=>bD xq J J (bB J hg))<|cP J J (fun hg=>cA rY (bB J hg))<|cP J J (fun hg=>cO (bB J hg) hI)<|zo J (r0 J J) ?_;refine aJ J<|cP J J (fun hg=>cQ uN qn J J)<|cP J J (fun hg=>bD Ip J J (bB J hg))<|cP J J (fun hg=>cA yl (bB J hg))<|cP J J (fun hg=>cO (bB J hg) hI)<|zo J (r0 J J)<|aJ J<|cP J J (fun hg=>cQ Bx vS J J)<|cP J J (fun hg=>bD ce J J (bB J hg))<|cP J J (fun hg=>cO (bB J hg) hI)<|zo J (r0 J J)<|bN J<|ax<|av ?_;cases so h;exact ba J J

theorem Qa(n:M){R:M}(h:ru n=some R):bA bc 157 [tD ai n] (tD ai R):=by
 refine bA.of Tryz.func157 J J J fun w0 S0=>aA<|sO (ht J) J fun b=>bh (r:=ai) (x:=BN) dg (fun _=>kD _) J fun b1=>ax<|af<|aA<|zo J (fX 0 vY J J J)<|zo J (aX ce J J nw (.tail _ (.head _)) (ht J))<|ax<|aB<|aA<|zo J (mU J)<|bN J<|ax<|eE h J (fun h=>?_) (fun h=>?_)
 ·refine am<|zo J (fX 3 vX J J J)<|cb<|ap ce J xx J (ht J) hI<|zo J (fX 4 tf J J J)<|ap cS J uj J (ht J) lU<|aR<|an<|aw<|aA<|zo rfl (aX (x:=(M.mk n.Op n.A n.B (0:Int) ([]) n.Left n.Cond n.Keys n.Aggs n.Items n.Order n.Limit)) dg J J bq (.head _) (ht J))<|cb<|ap dg J aj J (ht J) (ht J)<|bf 2 J<|ax<|av<|bb ?_;cases so h;exact lI J dg J J J
 ·refine aA<|zo J (mU J)<|bN J<|ax<|eE h J (fun h=>?_) (fun h=>?_)
  ·refine am<|zo J (c0 (y:=rb) iG RX qF (J))<|zo J (fX 5 NN J J J)<|cb<|ap JS J IE J (ht J) hB<|zo J (fX 6 uM J J J)<|ap iG J xw J (ht J) (ht J)<|aR<|an<|aw<|aA<|zo rfl (aX (x:=(M.mk n.Op n.A n.B n.Table n.Kinds false rb n.Keys n.Aggs n.Items n.Order n.Limit)) dg J J bq (.head _) (ht J))<|cb<|ap dg J aj J (ht J) (ht J)<|bf 2 J<|ax<|av<|bb ?_;cases so h;exact lI J dg J J J
  ·refine aA<|zo J (mU J)<|bN J<|ax<|eE h J (fun h=>?_) (fun h=>?_)
   ·refine am<|zo J (c0 (y:=rb) iG RX qF (J))<|zo J (fX 6 uM J J J)<|cb<|ap iG J xw J (ht J) (ht J)<|aR<|an<|aw<|aA<|zo rfl (aX (x:=(M.mk n.Op n.A n.B n.Table n.Kinds n.Left rb n.Keys n.Aggs n.Items n.Order n.Limit)) dg J J bq (.head _) (ht J))<|cb<|ap dg J aj J (ht J) (ht J)<|bf 2 J<|ax<|av<|bb ?_;cases so h;exact lI J dg J J J
   ·refine aA<|zo J (mU J)<|bN J<|ax<|eE h J (fun h=>?_) (fun h=>?_)
    ·refine am<|zo J (fX 7 qy J J J)<|cb<|ap cS J B7 J (ht J) lU<|zo J (fX 8 mT J J J)<|ap wQ J B6 J (ht J) lU<|aR<|an<|aw<|aA<|zo rfl (aX (x:=(M.mk n.Op n.A n.B n.Table n.Kinds n.Left n.Cond ([]) ([]) n.Items n.Order n.Limit)) dg J J bq (.head _) (ht J))<|cb<|ap dg J aj J (ht J) (ht J)<|bf 2 J<|ax<|av<|bb ?_;cases so h;exact lI J dg J J J
    ·refine aA<|zo J (mU J)<|bN J<|ax<|eE h J (fun h=>?_) (fun h=>?_)
     ·refine am<|zo J (fX 9 oI J J J)<|cb<|ap xq J ID J (ht J) lU<|aR<|an<|aw<|aA<|zo rfl (aX (x:=(M.mk n.Op n.A n.B n.Table n.Kinds n.Left n.Cond n.Keys n.Aggs ([]) n.Order n.Limit)) dg J J bq (.head _) (ht J))<|cb<|ap dg J aj J (ht J) (ht J)<|bf 2 J<|ax<|av<|bb ?_;cases so h;exact lI J dg J J J
     ·refine aA<|zo J (mU J)<|bN J<|ax<|eE h J (fun h=>?_) (fun h=>?_)
      ·refine am<|zo J (fX 10 uN J J J)<|cb<|ap Ip J Aw J (ht J) lU<|zo J (fX 11 Bx J J J)<|ap ce J GE J (ht J) hI<|aR<|an<|aw<|aA<|zo rfl (aX (x:=(M.mk n.Op n.A n.B n.Table n.Kinds n.Left n.Cond n.Keys n.Aggs n.Items ([]) (0:Int))) dg J J bq (.head _) (ht J))<|cb<|ap dg J aj J (ht J) (ht J)<|bf 2 J<|ax<|av<|bb ?_;cases so h;exact lI J dg J J J
      ·refine bO<|an<|aw<|aA<|zo rfl (aX dg rfl rfl bq (.tail _ (.head _)) (ht rfl))<|ap dg rfl aj rfl (ht rfl) (ht rfl)<|bf 2 rfl<|ax<|av<|bb ?_;cases so h;exact lI J dg J J J

theorem PI(op:Int){R:Int}(h:sw op=some R):bA bc 213 [cm op] (cm R):=by
 refine bA.of Tryz.func213 J J J fun w0 S0=>aA<|zo J (gv)<|ax<|af<|aA<|aJ J<|ax<|aB<|aA<|zo J (mU J)<|bN J<|ax<|eE h J (fun h=>?_) (fun h=>?_)
 ·refine aA<|zo J (gv)<|ax<|av ?_;refine aF (aa ?_);cases so h;exact ba J J
 ·refine jK (Z:=fun x=>oF x=some R) (Of:=fun x=>[]) (Gf:=fun x=>[(6,gX x)]) (fun x h=>?_) (fun K=>?_)
  ·skip
   refine eE h J (fun h=>?_) (fun h=>?_)
   ·refine aA<|zo J (gv)<|ax<|av ?_;refine aF (aa ?_);cases so h;exact ba J J
   ·refine bO<|an<|aw<|aA<|zo rfl (gv)<|ax<|av ?_;cases so h;exact ba J J
  ·skip
   refine aA<|zo J (mU J)<|bN J<|ax<|eE h J (fun h=>?_) (fun h=>?_)
   ·refine bO ?_;exact cE (K (op==(2:Int)) h) (bu J)
   ·refine am<|zo J (mU J)<|bN J<|aR ?_;exact cE (K (op==(7:Int)) h) (bu J)

theorem Sx(b:Nat)(ix:OI)(c:aq)(i:Int){R:Int×Bool}(h:iJ c i=some R):c9 bc 158 [tV (aE b 0),cm i] (dc b c ix) (fun _:OI=>tT [cm R.1,gX R.2]) (fun _=>(dc b c ix)):=by
 refine c9.of Tryz.func158 J J J fun w0 S0=>?_;refine(show CG _ _ _ [bx (rH aZ [(1,aD (ix.h 0).1 (ix.h 0).2 c.kinds.length),(2,aD (ix.h 1).1 (ix.h 1).2 c.first.length)]) 123 b c,cv fk 42 (ix.h 0).1 (ix.h 0).2 c.kinds,cv cn 3 (ix.h 1).1 (ix.h 1).2 c.first] _ from ?_);refine aA<|zo J (gv)<|zo J (iO)<|ax<|aA<|aJ J<|zo J (dD (ht J))<|zo J (fX 0 FG J J J)<|zo J (fX 0 pz J J J)<|zo J (aX (r:=rH aZ [(1,aD (ix.h 0).1 (ix.h 0).2 c.kinds.length),(2,aD (ix.h 1).1 (ix.h 1).2 c.first.length)]) (x:=c) pe J J (LK (ry uH js)) (.head _) (ht J))<|aJ J<|bT h fun e q_e h=>zo J (nY ly dg J J J q_e)<|zo J (bH dg J J)<|bh (r:=ai) (x:=BN) dg (fun _=>kD _) J fun b1=>ap dg J aj J (ht J) (ht J)<|bf 6 J<|ax<|af<|af ?_;refine am<|zo J (cQ vY nw J J)<|zo J (bH ce J J)<|bT h fun r q_r h=>zo J (aL Us (PI _ q_r) ⟨(ht J),aV⟩)<|ax<|aB<|aA<|zo J (mU J)<|bN J<|ax<|eE h J (fun h=>?_) (fun h=>?_)
 ·refine af ?_
  refine iq (ts:=[_,_,_,_,_,_,_,_,_,_,_]) mixed J J
   ⟨gK 1 J J J (dw J),
   ⟨gK 6 J J J (cQ jv eo J J),
   ⟨dR 21 1 J J J (bH ce J J),
   ⟨dR 22 2 J J J (mU J),
   ⟨dR 23 3 J J J (dw J),
   ⟨C2 6 24 4 J J J J (kp J J J J (fun hg=>cQ nz jt J J)),
   ⟨qG 25 5 24 4 J J J J (kp J J J J (fun hg=>bD ce J J (bB J hg))),
   ⟨qG 26 6 24 4 J J J J (kp J J J J (fun hg=>cO (bB J hg) hI)),
   ⟨gL 24 4 27 7 J J J J (r0 J J),
   ⟨dR 20 0 J J J (BQ J),
   ⟨dR 28 8 J J J (BQ J),
   aV⟩⟩⟩⟩⟩⟩⟩⟩⟩⟩⟩ ?_
  refine aw<|av ?_;refine aF (aa ?_);refine au<|au<|au ?_;cases so h;exact jy (ts:=[cm i,gX ((e.A==q9)&&(e.B==q9))]) (rvs:=[.tmp 4,.tmp 5]) J J ⟨dl J,dl J,aV⟩ o7 J J
 ·refine aA<|zo J (mU J)<|bN J<|ax<|eE h J (fun h=>?_) (fun h=>?_)
  ·refine af<|aA<|zo J (cQ jv eo J J)<|zo J (bH ce J J)<|aJ J<|zo J (ib (ht J) hI)<|zo J (fE (ht J) (ht J))<|aJ J<|dQ J J (fun hg=>cQ nz jt J J)<|dQ J J (fun hg=>bD ce J J (bB J hg))<|dQ J J (fun hg=>fE (bB J hg) hI)<|zo J (ua J J)<|aJ J<|dQ J J (fun hg=>dw J)<|dQ J J (fun hg=>cO (bB J hg) hI)<|zo J (ua J J)<|ax<|eE h J (fun h=>?_) (fun h=>?_)
   ·refine aA<|zo J (gv)<|zo J (iO)<|ax<|av ?_;refine aa (aF (aa ?_));refine au<|au<|au ?_;cases so h;exact jy (ts:=[cm 0,gX false]) (rvs:=[.tmp 4,.tmp 5]) J J ⟨dl J,dl J,aV⟩ o7 J J
   ·refine fO<|af<|bT h fun e1 q_e1 h=>?_
    refine iq (ts:=[_,_,_,_,_,_,_,_,_,_]) mixed J J
     ⟨gK 0 J J J (dw J),
     ⟨dR 45 0 J J J (dD (ht J)),
     ⟨dR 46 1 J J J (fX 2 sG J J J),
     ⟨dR 47 2 J J J (dL cS J (.head _) (.tail _ (.tail _ (.head _))) (ht J)),
     ⟨gK 6 J J J (cQ jv eo J J),
     ⟨dR 49 4 J J J (bH ce J J),
     ⟨gL 48 3 50 5 J J J J (aO d8 ce J (ma (ht J)) (ht J) q_e1),
     ⟨dR 51 6 J J J (bH ce J J),
     ⟨dR 52 7 J J J (BQ J),
     ⟨S9 J J (iO),
     aV⟩⟩⟩⟩⟩⟩⟩⟩⟩⟩ ?_
    refine aw<|av ?_;refine aF (aa ?_);refine au<|au<|au ?_;cases so h;exact jy (ts:=[cm e1,gX true]) (rvs:=[.tmp 4,.tmp 5]) J J ⟨dl J,dl J,aV⟩ o7 J J
  ·refine bO<|an<|aw<|af<|af<|bT h fun t q_t h=>?_
   obtain⟨e2,h1t,h0t⟩:=og q_t
   have q_e2g:=fun hb=>(h1t hb).1
   refine iq (ts:=[_,_,_,_,_,_,_,_,_,_,_,_,_,_,_,_,_,_,_,_,_,_,_,_,_,_,_,_]) mixed J J
    ⟨gK 6 J J J (cQ nz jt J J),
    ⟨dR 53 0 J J J (bH ce J J),
    ⟨gK 1 J J J (dw J),
    ⟨dR 55 2 J J J (ib (ht J) hI),
    ⟨gL 54 1 56 3 J J J J (fE (ht J) (ht J)),
    ⟨dR 57 4 J J J (dw J),
    ⟨C2 1 58 5 J J J J (mw J J J J (fun hg=>dw J)),
    ⟨qG 59 6 58 5 J J J J (mw J J J J (fun hg=>cO (bB J hg) hI)),
    ⟨gL 58 5 60 7 J J J J (ua J J),
    ⟨dR 61 8 J J J (dw J),
    ⟨C2 6 62 9 J J J J (mw J J J J (fun hg=>cQ jv eo J J)),
    ⟨qG 63 10 62 9 J J J J (mw J J J J (fun hg=>bD ce J J (bB J hg))),
    ⟨C2 0 62 9 J J J J (mw J J J J (fun hg=>dw J)),
    ⟨qG 65 12 62 9 J J J J (mw J J J J (fun hg=>dD (bB J hg))),
    ⟨qG 66 13 62 9 J J J J (mw J J J J (fun hg=>ki (n:=2) sG J (bB J hg) J)),
    ⟨qG 67 14 62 9 J J J J (mw J J J J (fun hg=>dL cS J (.head _) (.tail _ (.tail _ (.head _))) (bB J hg))),
    ⟨C2 6 62 9 J J J J (mw J J J J (fun hg=>cQ nz jt J J)),
    ⟨qG 69 16 62 9 J J J J (mw J J J J (fun hg=>bD ce J J (bB J hg))),
    ⟨JP 68 15 70 17 62 9 J J J J J (mw J J J J (fun hg=>aO d8 ce J (ma (bB J hg)) (bB J hg) (q_e2g hg))),
    ⟨qG 71 18 62 9 J J J J (mw J J J J (fun hg=>bD ce J J (bB J hg))),
    ⟨qG 72 19 62 9 J J J J (mw J J J J (fun hg=>ib (bB J hg) hI)),
    ⟨JP 64 11 73 20 62 9 J J J J J (mw J J J J (fun hg=>fE (bB J hg) (bB J hg))),
    ⟨gL 62 9 74 21 J J J J (gT (ht J) (fun hb=>(bB J (vN hb))) (fun hb=>(h1t hb).2) h0t),
    ⟨dR 75 22 J J J (dw J),
    ⟨C2 6 76 23 J J J J (mw J J J J (fun hg=>cQ jv eo J J)),
    ⟨qG 77 24 76 23 J J J J (mw J J J J (fun hg=>bD ce J J (bB J hg))),
    ⟨qG 78 25 76 23 J J J J (mw J J J J (fun hg=>iA (bB J hg) hI)),
    ⟨gL 76 23 79 26 J J J J (ua J J),
    aV⟩⟩⟩⟩⟩⟩⟩⟩⟩⟩⟩⟩⟩⟩⟩⟩⟩⟩⟩⟩⟩⟩⟩⟩⟩⟩⟩⟩ ?_
   refine aw<|eE h rfl (fun h=>?_) (fun h=>?_)
   ·refine aA<|zo J (gv)<|zo J (iO)<|ax<|av<|aa<|au<|au<|au ?_;cases so h;exact jy (ts:=[cm 0,gX false]) (rvs:=[.tmp 4,.tmp 5]) J J ⟨dl J,dl J,aV⟩ o7 J J
   ·refine fO<|af<|bT h fun e3 q_e3 h=>?_
    refine iq (ts:=[_,_,_,_,_,_,_,_,_,_]) mixed J J
     ⟨gK 0 J J J (dw J),
     ⟨dR 81 0 J J J (dD (ht J)),
     ⟨dR 82 1 J J J (fX 2 sG J J J),
     ⟨dR 83 2 J J J (dL cS J (.head _) (.tail _ (.tail _ (.head _))) (ht J)),
     ⟨gK 6 J J J (cQ jv eo J J),
     ⟨dR 85 4 J J J (bH ce J J),
     ⟨gL 84 3 86 5 J J J J (aO d8 ce J (ma (ht J)) (ht J) q_e3),
     ⟨dR 87 6 J J J (bH ce J J),
     ⟨dR 88 7 J J J (BQ J),
     ⟨S9 J J (iO),
     aV⟩⟩⟩⟩⟩⟩⟩⟩⟩⟩ ?_
    refine aw<|av<|au<|au<|au ?_;cases so h;exact jy (ts:=[cm e3,gX true]) (rvs:=[.tmp 4,.tmp 5]) J J ⟨dl J,dl J,aV⟩ o7 J J

theorem NV(b:Nat)(ix:OI)(c:aq):zq bc 147 (fun(x:Int×Bool)=>[cm x.1,gX x.2]) (fun _=>ky c) (dc b) (dc b c ix) [bw (rT (tV (aE b 0))) ()]:=by
 refine zq.of Tryz.func147 J J J fun Sg yld s R h I yv hy e he w0 S0 B hB=>?_
 replace h:ky c yld s=some R:=h
 refine(show CG _ _ _ [e,bx (rH aZ [(1,aD (ix.h 0).1 (ix.h 0).2 c.kinds.length),(2,aD (ix.h 1).1 (ix.h 1).2 c.first.length)]) 123 b c,cv fk 42 (ix.h 0).1 (ix.h 0).2 c.kinds,cv cn 3 (ix.h 1).1 (ix.h 1).2 c.first] _ from ?_);refine aA<|xT (xb (fun y:(aq→M→Option (((List Int)×Bool)×aq))=>dK bc wO (dc b) wU y)) tu J fun b1=>zo J (jU jC (ht J)) ?_
 refine sM ((show bW _ _ _ _ (dK bc wO (dc b) wU Rd)from iI UV (ht J) (fun c x R h i=>by
   obtain⟨r,h1,rfl⟩:=yf.1 h
   exact kS (Ob:=fun j=>dc b c j) (i:=i) (SG _ i c _ h1)))) J ?_
 refine kC (γ:=(fun y:(aq→M→Option (((List Int)×Bool)×aq))=>dK bc wO (dc b) wU y)) (y:=Rd) EK (iS pU) (ht J) (uE hI) (ht J) fun os=>zo J (jU jC (ht J)) ?_
 refine sM ((show bW _ _ _ _ (dK bc wO (dc b) wU Rc)from iI UU (ht J) (fun c x R h i=>by
   obtain⟨r,h1,rfl⟩:=yf.1 h
   exact kS (Ob:=fun j=>dc b c j) (i:=i) (SF _ i c _ h1)))) J ?_
 refine kC (γ:=(fun y:(aq→M→Option (((List Int)×Bool)×aq))=>dK bc wO (dc b) wU y)) (y:=Rc) EK (iS pU) (ht J) (uE hI) (ht J) fun os1=>zo J (jU jC (ht J)) ?_
 refine sM ((show bW _ _ _ _ (dK bc wO (dc b) wU Rh)from iI UT (ht J) (fun c x R h i=>by
   obtain⟨r,h1,rfl⟩:=yf.1 h
   exact kS (Ob:=fun j=>dc b c j) (i:=i) (SD _ i c _ h1)))) J ?_
 refine kC (γ:=(fun y:(aq→M→Option (((List Int)×Bool)×aq))=>dK bc wO (dc b) wU y)) (y:=Rh) EK (iS pU) (ht J) (uE hI) (ht J) fun os2=>zo J (jU jC (ht J)) ?_
 refine sM ((show bW _ _ _ _ (dK bc wO (dc b) wU Re)from iI US (ht J) (fun c x R h i=>by
   obtain⟨r,h1,rfl⟩:=yf.1 h
   exact kS (Ob:=fun j=>dc b c j) (i:=i) (SC _ i c _ h1)))) J ?_
 refine kC (γ:=(fun y:(aq→M→Option (((List Int)×Bool)×aq))=>dK bc wO (dc b) wU y)) (y:=Re) EK (iS pU) (ht J) (uE hI) (ht J) fun os3=>zo J (jU jC (ht J)) ?_
 refine sM ((show bW _ _ _ _ (dK bc wO (dc b) wU Ri)from iI UR (ht J) (fun c x R h i=>by
   obtain⟨r,h1,rfl⟩:=yf.1 h
   exact kS (Ob:=fun j=>dc b c j) (i:=i) (SB _ i c _ h1)))) J ?_
 refine kC (γ:=(fun y:(aq→M→Option (((List Int)×Bool)×aq))=>dK bc wO (dc b) wU y)) (y:=Ri) EK (iS pU) (ht J) (uE hI) (ht J) fun os4=>zo J (jU jC (ht J)) ?_
 refine sM ((show bW _ _ _ _ (dK bc wO (dc b) wU Rj)from iI UQ (ht J) (fun c x R h i=>by
   obtain⟨r,h1,rfl⟩:=yf.1 h
   exact kS (Ob:=fun j=>dc b c j) (i:=i) (SA _ i c _ h1)))) J ?_
 refine kC (γ:=(fun y:(aq→M→Option (((List Int)×Bool)×aq))=>dK bc wO (dc b) wU y)) (y:=Rj) EK (iS pU) (ht J) (uE hI) (ht J) fun os5=>zo J (jU jC (ht J)) ?_
 refine sM ((show bW _ _ _ _ (dK bc wO (dc b) wU Rg)from iI UP (ht J) (fun c x R h i=>by
   obtain⟨r,h1,rfl⟩:=yf.1 h
   exact kS (Ob:=fun j=>dc b c j) (i:=i) (Sz _ i c _ h1)))) J ?_
 refine kC (γ:=(fun y:(aq→M→Option (((List Int)×Bool)×aq))=>dK bc wO (dc b) wU y)) (y:=Rg) EK (iS pU) (ht J) (uE hI) (ht J) fun os6=>zo J (jU jC (ht J)) ?_
 refine sM ((show bW _ _ _ _ (dK bc wO (dc b) wU Rf)from iI UO (ht J) (fun c x R h i=>by
   obtain⟨r,h1,rfl⟩:=yf.1 h
   exact kS (Ob:=fun j=>dc b c j) (i:=i) (Sy _ i c _ h1)))) J ?_
 refine kC (γ:=(fun y:(aq→M→Option (((List Int)×Bool)×aq))=>dK bc wO (dc b) wU y)) (y:=Rf) EK (iS pU) (ht J) (uE hI) (ht J) fun os7=>aJ J<|bN J<|ax<|aA<|zo J (jU jC (ht J))<|zo J (dD (ht J))<|zo J (fX 0 FG J J J)<|zo J (fX 0 pz J J J)<|zo J (aX (r:=rH aZ [(1,aD (ix.h 0).1 (ix.h 0).2 c.kinds.length),(2,aD (ix.h 1).1 (ix.h 1).2 c.first.length)]) (x:=c) pe J J (LK (ry uH js)) (.tail _ (.tail _ (.head _))) (ht J))<|zo J (lx ly J)<|zo J (bJ hI)<|ax<|aB<|bl (k:=33) J fun hN=>bU<|pC<|pC<|pC<|pD<|pC ?_;refine aW (HY (Z:=fun ls i e1 s1 ob l c1 l1 c2=>(c.Logic.Nodes.drop i=ls)∧I s1 e1∧bp yld ls i s1 ob=some R) (Of:=fun _ i e1 s1 ob l c1 l1 c2=>[e1,mS (xb (fun y:(aq→M→Option (((List Int)×Bool)×aq))=>dK bc wO (dc b) wU y)) tu b1 none os7 Ih,bx (rH aZ [(1,aD l c1 ob.kinds.length),(2,aD l1 c2 ob.first.length)]) 123 b ob,cv fk 42 l c1 ob.kinds,cv cn 3 l1 c2 ob.first]) (Gf:=fun _ i e1 s1 ob l c1 l1 c2=>[(0,tV yv),(1,bw (rT (tV (aE b 0))) ()),(3,tV (oW b1)),(33,fZ (ai) c.Logic.Nodes),(34,jB c.Logic.Nodes),(35,cm (i:Int))]) (fun i e1 s1 ob l c1 l1 c2 h=>?_) (fun e2 tl ih i e1 s1 ob l c1 l1 c2 h=>?_) c.Logic.Nodes 0 e s c (ix.h 0).1 (ix.h 0).2 (ix.h 1).1 (ix.h 1).2 ⟨J,⟨he,h⟩⟩) (bu J)
 ·obtain⟨hx,h⟩:=h
  obtain⟨he1,h⟩:=h
  refine aC<|aA<|zo J (gP J J)<|ax<|af<|bF (ht J) (d5 hx)<|bt ?_;refine ac (ac (aN ?_));refine cu<|bb<|bo<|bo<|bo<|bo ?_;cases so h;exact Mq J he1 (I3 [(l,c1),(l1,c2)]) J
 ·obtain⟨hx,h⟩:=h
  obtain⟨he1,h⟩:=h
  refine aC<|aA<|zo J (gP J J)<|ax<|af<|bE (ht J) (dZ hx)<|fO<|af<|aB<|aA<|aJ J<|zo J (nY ly dg J J J (d4 hx))<|zo J (bH dg J J)<|bh (r:=ai) (x:=BN) dg (fun _=>kD _) J fun b2=>bN J<|ap dg J aj J (ht J) (ht J)<|bf 5 J<|ax<|af ?_;refine am<|aJ J<|zo J (cQ vY nw J J)<|zo J (bH ce J J)<|zo J (G7 (γ:=(fun y:(aq→M→Option (((List Int)×Bool)×aq))=>dK bc wO (dc b) (fun(x:(List Int)×Bool)=>tT [tD n8 x.1,tD rB x.2]) y)) (z:=fun _ _=>none) EK (iS pU) S6 (fun _=>DG) (.tail _ (.head _)) (ht J) (uE (ht J)))<|aJ J<|zo J (mA J J)<|zo J (mA J J)<|bN J<|bN J<|ax<|aA<|aJ J<|aJ J<|bT h fun t q_t h=>cP J J (fun hg=>bH dg J J) ?_
  obtain⟨r,h1t,h0t⟩:=og q_t
  have q_rg:=fun hb=>(h1t hb).1
  refine cP J J (fun hg=>aL UM (Qa _ (q_rg hg)) ⟨(bB J hg),aV⟩) ?_
  obtain⟨r1,h1t⟩:=SZ (fun hb=>(h1t hb).2)
  have q_r1g:=fun hb=>(h1t hb).1
  refine cP J J (fun hg=>aL UN (Qb _ (q_r1g hg)) ⟨(bB J hg),aV⟩)<|zo J (fe (ht J) (fun hb=>(bB J hb)) (fun hb=>(h1t hb).2) h0t)<|bN J<|ax ?_;refine Mj (Z:=fun ok ob1 l2 c3 l3 c4=>dE yld (bp yld tl) i e2 s1 ok ob1=some R) (Of:=fun ok ob1 l2 c3 l3 c4=>[e1,mS (xb (fun y:(aq→M→Option (((List Int)×Bool)×aq))=>dK bc wO (dc b) wU y)) tu b1 none os7 Ih,bx (rH aZ [(1,aD l2 c3 ob1.kinds.length),(2,aD l3 c4 ob1.first.length)]) 123 b ob1,cv fk 42 l2 c3 ob1.kinds,cv cn 3 l3 c4 ob1.first]) (Gf:=fun ok ob1 l2 c3 l3 c4=>[(0,tV yv),(1,bw (rT (tV (aE b 0))) ()),(3,tV (oW b1)),(4,cm (i:Int)),(5,bw ai e2),(6,dK bc wO (dc b) wU ((qw Ih e2.Op).getD (fun _ _=>none))),(8,gX ok),(33,fZ (ai) c.Logic.Nodes),(34,jB c.Logic.Nodes),(35,cm (i:Int))]) (fun ok ob1 l2 c3 l3 c4 h=>?_) (fun K=>?_)
  ·skip
   refine aA<|zo J (aS (show aK _ _ _ o8 from lU))<|ax ?_;refine Ai (Z:=fun ok1 kinds ob2 l4 c5 l5 c6=>fH yld (bp yld tl) i s1 ok1 kinds ob2=some R) (Of:=fun ok1 kinds ob2 l4 c5 l5 c6=>[e1,mS (xb (fun y:(aq→M→Option (((List Int)×Bool)×aq))=>dK bc wO (dc b) wU y)) tu b1 none os7 Ih,bx (rH aZ [(1,aD l4 c5 ob2.kinds.length),(2,aD l5 c6 ob2.first.length)]) 123 b ob2,cv fk 42 l4 c5 ob2.kinds,cv cn 3 l5 c6 ob2.first]) (Gf:=fun ok1 kinds ob2 l4 c5 l5 c6=>[(0,tV yv),(1,bw (rT (tV (aE b 0))) ()),(3,tV (oW b1)),(4,cm (i:Int)),(8,gX ok1),(10,fP kinds),(33,fZ (ai) c.Logic.Nodes),(34,jB c.Logic.Nodes),(35,cm (i:Int))]) (fun ok1 kinds ob2 l4 c5 l5 c6 h=>?_) (fun K1=>?_)
   ·skip
    refine aA<|aJ J<|aJ J<|cP J J (fun hg=>dw J)<|cP J J (fun hg=>cA d8 (bB J hg))<|cP J J (fun hg=>lT (bB J hg) hI)<|zo J (r0 J J)<|bN J<|ax<|af<|bT h fun l6 q_l6 h=>?_
    refine j6 8 [tc (tV (aE b 0)),tc (tV (aE b 0)),tc (tV (aE b 0)),tc (tV (aE b 1)),tc (tO fk l4 c5 ob2.kinds),tc (fP kinds),tc (fZ (fk) ([kinds])),([7],fun s=>tO fk ((s.getD 0 o7).h 0).1 ((s.getD 0 o7).h 0).2 l6)] [false,false,false,false,false,false,false,true] [fun _=>[e1,mS (xb (fun y:(aq→M→Option (((List Int)×Bool)×aq))=>dK bc wO (dc b) wU y)) tu b1 none os7 Ih,bx (rH aZ [(1,aD l4 c5 ob2.kinds.length),(2,aD l5 c6 ob2.first.length)]) 123 b ob2,cv fk 42 l4 c5 ob2.kinds,cv cn 3 l5 c6 ob2.first],fun sg=>[cv fk 42 ((sg 7).h 0).1 ((sg 7).h 0).2 l6,e1,mS (xb (fun y:(aq→M→Option (((List Int)×Bool)×aq))=>dK bc wO (dc b) wU y)) tu b1 none os7 Ih,bx (rH aZ [(1,aD l4 c5 ob2.kinds.length),(2,aD l5 c6 ob2.first.length)]) 123 b ob2,cv cn 3 l5 c6 ob2.first]] J mixed J J J J J
     ⟨⟨[⟨1,fun _=>bw (rT (tV (aE b 0))) (),none⟩],_,0,1,J,⟨(fun _=>J),aV⟩,J,J,J,J,J,fun _ sg _ _=>ae J (jU jC (ht J))⟩,
     ⟨⟨[⟨1,fun _=>bw (rT (tV (aE b 0))) (),none⟩],_,0,0,J,⟨(fun _=>J),aV⟩,J,J,J,J,J,fun _ sg _ _=>ae J (jU jC (ht J))⟩,
     ⟨⟨[⟨84,fun _=>tV (aE b 0),some 1⟩],_,0,0,J,⟨(fun _=>J),aV⟩,J,J,J,J,J,fun _ sg _ _=>ae J (dD (ht J))⟩,
     ⟨⟨[⟨85,fun _=>tV (aE b 0),some 2⟩],_,0,0,J,⟨(fun _=>J),aV⟩,J,J,J,J,J,fun _ sg _ _=>ae J (fX 1 lX J J J)⟩,
     ⟨⟨[⟨86,fun _=>tV (aE b 1),some 3⟩],_,0,0,J,⟨(fun _=>J),aV⟩,J,J,J,J,J,yo (fun sg=>ae J (dL u5 J (.tail _ (.tail _ (.head _))) (.tail _ (.tail _ (.tail _ (.head _)))) (ht J)))⟩,
     ⟨⟨[⟨10,fun _=>tD n8 kinds,none⟩],_,0,0,J,⟨(fun _=>J),aV⟩,J,J,J,J,J,fun _ sg _ _=>ae J (dw J)⟩,
     ⟨⟨[⟨88,fun _=>tD n8 kinds,some 5⟩],_,0,0,J,⟨(fun _=>J),aV⟩,J,J,J,J,J,fun _ sg _ _=>ae J (aQ (r:=n8) (ys:=[kinds]) (xs:=[.tmp 88]) rW cS J J J J J ⟨(ht J),aV⟩)⟩,
     ⟨⟨[⟨87,fun _=>tO n8 l4 c5 ob2.kinds,some 4⟩,⟨89,fun _=>tD (eU n8) ([kinds]),some 6⟩],_,J,⟨(fun _=>J),(fun _=>J),aV⟩,J,J,J,fun sg=>cy J (EffOK.fr3 (sK cS J J J J rW J (ht J) (ht J) q_l6))⟩,
     aV⟩⟩⟩⟩⟩⟩⟩⟩ (fun sg=>?_)
    refine(show RG _ _ _ _ [cv fk 42 ((sg 7).h 0).1 ((sg 7).h 0).2 l6,e1,mS (xb (fun y:(aq→M→Option (((List Int)×Bool)×aq))=>dK bc wO (dc b) wU y)) tu b1 none os7 Ih,bx (rH aZ [(1,aD l4 c5 ob2.kinds.length),(2,aD l5 c6 ob2.first.length)]) 123 b ob2,cv cn 3 l5 c6 ob2.first] _ from ?_);refine zo J (dD (ht J))<|zo J (fX 1 lX J J J)<|sN (EffOK.fr3 (rF (hs' :=[(1,aD ((sg 7).h 0).1 ((sg 7).h 0).2 l6.length),(2,aD l5 c6 ob2.first.length)]) (u:=aD ((sg 7).h 0).1 ((sg 7).h 0).2 l6.length) u5 J J E2 J ⟨.inl ⟨J,J,J⟩,.inr ⟨J,J⟩,aV⟩ (ht J) (ma (ht J)) (BY (ht J)))) fun i1=>?_;refine(show RG _ _ _ _ [bx (rH aZ [(1,aD ((sg 7).h 0).1 ((sg 7).h 0).2 l6.length),(2,aD l5 c6 ob2.first.length)]) 123 b ({ob2 with kinds:=l6}:aq),cv fk 42 ((sg 7).h 0).1 ((sg 7).h 0).2 l6,e1,mS (xb (fun y:(aq→M→Option (((List Int)×Bool)×aq))=>dK bc wO (dc b) wU y)) tu b1 none os7 Ih,cv cn 3 l5 c6 ob2.first] _ from ?_);refine ax<|aA<|aJ J<|aJ J<|aJ J<|eI<|bT h fun r2 q_r2 h=>CN hy he1 q_r2 (ht J) ⟨(ht J),(ht J),aV⟩ J fun e3 he2=>zo J (gj (ht J))<|aJ J<|dQ J J (fun hg=>dw J)<|dQ J J (fun hg=>gj (bB J hg))<|zo J (ua J J)<|ax<|eE h J (fun h=>?_) (fun h=>?_)
    ·refine av ?_;refine aF (aa (aa (aF ?_)));refine bo<|bb<|bo<|bo<|bo<|bo ?_;cases so h;exact H6 J he2 (I3 [(((sg 7).h 0).1,((sg 7).h 0).2),(l5,c6)]) J
    ·refine bO<|an<|aw<|am<|zo rfl (nF (dv hx hN) rfl)<|aJ rfl<|aR<|cL<|bo<|bo<|cL<|cL ?_;exact bj (aW (ih (i+1) e3 r2.2 ({ob2 with kinds:=l6}:aq) ((sg 7).h 0).1 ((sg 7).h 0).2 l5 c6 ⟨du hx,⟨he2,h⟩⟩) (bu J))
   ·skip
    refine aA<|aJ J<|ax<|eE h J (fun h=>?_) (fun h=>?_)
    ·refine am<|aJ J<|zo J (bH dg J J)<|bT h fun r3 q_r3 h=>lv (EffOK.fr4 (EffOK.fr4 (EffOK.fr4 (zd (args:=wO) (Ob:=dc b) (res:=wU) (f:=((qw Ih e2.Op).getD (fun _ _=>none))) (x:=ob1) (y:=((e2):M)) (R:=r3) (i:=(I3 [(l2,c3),(l3,c4)])) (xs:=[.tmp 73]) _ J (ht J) q_r3 ⟨(ht J),aV⟩ (fun _=>J))))) J fun i2=>?_;refine(show RG _ _ _ _ [bx (rH aZ [(1,aD (i2.h 0).1 (i2.h 0).2 r3.2.kinds.length),(2,aD (i2.h 1).1 (i2.h 1).2 r3.2.first.length)]) 123 b r3.2,cv fk 42 (i2.h 0).1 (i2.h 0).2 r3.2.kinds,cv cn 3 (i2.h 1).1 (i2.h 1).2 r3.2.first,e1,mS (xb (fun y:(aq→M→Option (((List Int)×Bool)×aq))=>dK bc wO (dc b) wU y)) tu b1 none os7 Ih] ((74,tT [fP r3.1.1,gX r3.1.2])::_)from ?_);refine aJ J<|zo J (mA J J)<|zo J (mA J J)<|bN J<|bN J<|aR<|au<|au<|au<|cL<|cL ?_;exact cE (K1 r3.1.2 r3.1.1 r3.2 (i2.h 0).1 (i2.h 0).2 (i2.h 1).1 (i2.h 1).2 h) (bu J)
    ·refine bO ?_;exact cE (K1 ok ([]) ob1 l2 c3 l3 c4 h) (bu J)
  ·skip
   refine aA<|aJ J<|ax<|eE h J (fun h=>?_) (fun h=>?_)
   ·refine aA<|zo J (gv)<|ax<|aA<|zo J (jU jC (ht J))<|aJ J<|bT h fun r4 q_r4 h=>lv (EffOK.fr4 (EffOK.fr4 (EffOK.fr4 (gr (xs:=[.tmp 55,.tmp 56]) (ts:=[tV (aE b 0),cm (i:Int)]) (dc b ob (I3 [(l,c1),(l1,c2)])) _ J UL (Sx b (I3 [(l,c1),(l1,c2)]) ob _ q_r4) ⟨(ht J),(ht J),aV⟩ (fun _=>J))))) J fun i3=>?_;refine(show RG _ _ _ _ [bx (rH aZ [(1,aD l c1 ob.kinds.length),(2,aD l1 c2 ob.first.length)]) 123 b ob,cv fk 42 l c1 ob.kinds,cv cn 3 l1 c2 ob.first,e1,mS (xb (fun y:(aq→M→Option (((List Int)×Bool)×aq))=>dK bc wO (dc b) wU y)) tu b1 none os7 Ih] ((57,tT [cm r4.1,gX r4.2])::_)from ?_);refine aJ J<|zo J (mA J J)<|zo J (mA J J)<|bN J<|bN J<|ax<|bT h fun l7 q_l7 h=>?_
    refine j6 8 [tc (tV (aE b 0)),tc (tV (aE b 0)),tc (tV (aE b 0)),tc (tV (aE b 2)),tc (tO cn l1 c2 ob.first),tc (cm r4.1),tc (fP ([r4.1])),([7],fun s=>tO cn ((s.getD 0 o7).h 0).1 ((s.getD 0 o7).h 0).2 l7)] [false,false,false,false,false,false,false,true] [fun _=>[bx (rH aZ [(1,aD l c1 ob.kinds.length),(2,aD l1 c2 ob.first.length)]) 123 b ob,cv fk 42 l c1 ob.kinds,cv cn 3 l1 c2 ob.first,e1,mS (xb (fun y:(aq→M→Option (((List Int)×Bool)×aq))=>dK bc wO (dc b) wU y)) tu b1 none os7 Ih],fun sg1=>[cv cn 3 ((sg1 7).h 0).1 ((sg1 7).h 0).2 l7,bx (rH aZ [(1,aD l c1 ob.kinds.length),(2,aD l1 c2 ob.first.length)]) 123 b ob,cv fk 42 l c1 ob.kinds,e1,mS (xb (fun y:(aq→M→Option (((List Int)×Bool)×aq))=>dK bc wO (dc b) wU y)) tu b1 none os7 Ih]] J mixed J J J J J
     ⟨⟨[⟨1,fun _=>bw (rT (tV (aE b 0))) (),none⟩],_,0,1,J,⟨(fun _=>J),aV⟩,J,J,J,J,J,fun _ sg1 _ _=>ae J (jU jC (ht J))⟩,
     ⟨⟨[⟨1,fun _=>bw (rT (tV (aE b 0))) (),none⟩],_,0,0,J,⟨(fun _=>J),aV⟩,J,J,J,J,J,fun _ sg1 _ _=>ae J (jU jC (ht J))⟩,
     ⟨⟨[⟨61,fun _=>tV (aE b 0),some 1⟩],_,0,0,J,⟨(fun _=>J),aV⟩,J,J,J,J,J,fun _ sg1 _ _=>ae J (dD (ht J))⟩,
     ⟨⟨[⟨62,fun _=>tV (aE b 0),some 2⟩],_,0,0,J,⟨(fun _=>J),aV⟩,J,J,J,J,J,fun _ sg1 _ _=>ae J (fX 2 sG J J J)⟩,
     ⟨⟨[⟨63,fun _=>tV (aE b 2),some 3⟩],_,0,0,J,⟨(fun _=>J),aV⟩,J,J,J,J,J,yo (fun sg1=>ae J (dL cS J (.head _) (.tail _ (.tail _ (.head _))) (ht J)))⟩,
     ⟨⟨[⟨9,fun _=>tD cn r4.1,none⟩],_,0,0,J,⟨(fun _=>J),aV⟩,J,J,J,J,J,fun _ sg1 _ _=>ae J (dw J)⟩,
     ⟨⟨[⟨65,fun _=>tD cn r4.1,some 5⟩],_,0,0,J,⟨(fun _=>J),aV⟩,J,J,J,J,J,fun _ sg1 _ _=>ae J (aQ (r:=cn) (ys:=[r4.1]) (xs:=[.tmp 65]) d8 ce J J J J J ⟨(ht J),aV⟩)⟩,
     ⟨⟨[⟨64,fun _=>tO cn l1 c2 ob.first,some 4⟩,⟨66,fun _=>tD n8 ([r4.1]),some 6⟩],_,J,⟨(fun _=>J),(fun _=>J),aV⟩,J,J,J,fun sg1=>cy J (EffOK.fr2 (sK ce J J J J d8 J (ht J) (ht J) q_l7))⟩,
     aV⟩⟩⟩⟩⟩⟩⟩⟩ (fun sg1=>?_)
    refine(show RG _ _ _ _ [cv cn 3 ((sg1 7).h 0).1 ((sg1 7).h 0).2 l7,bx (rH aZ [(1,aD l c1 ob.kinds.length),(2,aD l1 c2 ob.first.length)]) 123 b ob,cv fk 42 l c1 ob.kinds,e1,mS (xb (fun y:(aq→M→Option (((List Int)×Bool)×aq))=>dK bc wO (dc b) wU y)) tu b1 none os7 Ih] _ from ?_);refine zo J (dD (ht J))<|zo J (fX 2 sG J J J)<|sN (EffOK.fr1 (rF (hs' :=[(1,aD l c1 ob.kinds.length),(2,aD ((sg1 7).h 0).1 ((sg1 7).h 0).2 l7.length)]) (u:=aD ((sg1 7).h 0).1 ((sg1 7).h 0).2 l7.length) cS J J E1 J ⟨.inr ⟨J,J⟩,.inl ⟨J,J,J⟩,aV⟩ (ht J) (ma (ht J)) (BY (ht J)))) fun i4=>?_;refine(show RG _ _ _ _ [bx (rH aZ [(1,aD l c1 ob.kinds.length),(2,aD ((sg1 7).h 0).1 ((sg1 7).h 0).2 l7.length)]) 123 b ({ob with first:=l7}:aq),cv cn 3 ((sg1 7).h 0).1 ((sg1 7).h 0).2 l7,cv fk 42 l c1 ob.kinds,e1,mS (xb (fun y:(aq→M→Option (((List Int)×Bool)×aq))=>dK bc wO (dc b) wU y)) tu b1 none os7 Ih] _ from ?_);refine aR<|cu<|au<|au<|cL<|cL ?_;exact cE (K r4.2 ({ob with first:=l7}:aq) l c1 ((sg1 7).h 0).1 ((sg1 7).h 0).2 h) (bu J)
   ·refine bO ?_;exact cE (K t ob l c1 l1 c2 h) (bu J)

end Go.Proofs.YtnmjbolollcokaaGreatDoor

