/- cU of this claim: P3. -/
import Derived.Test.YtfhhakidodmdfaaGreatDoorJfT
import Derived.Test.YtfhhakidodmdfaaGreatDoorJfP2
set_option linter.all false
namespace Go.Proofs.YtfhhakidodmdfaaGreatDoor
open Go
set_option maxRecDepth 100000

theorem VD(in1:(List Int))(o:fq){R:Bool}(h:k5 in1 o=some R):aW aQ 286 [tD fX o,bM od in1] (iO R):=by
 refine aW.of Tryz.func286 J J J fun w0 S0=>aw<|zo J (js J)<|zo J (jy)<|av<|aw<|zo J (c9 CF vT J J)<|zo J (bC cr J J)<|zo J (gx (ht J) hI)<|aG J<|eG J J (fun hg=>c9 CF vT J J)<|eG J J (fun hg=>bI cr J J (bG J hg))<|eG J J (fun hg=>bC ea J J)<|eG J J (fun hg=>cC hX (bG J hg))<|eG J J (fun hg=>ir (bG J hg) (bG J hg))<|zo J (xf J J)<|bq J<|av<|am ?_;cases so h;exact aH J J

theorem Zg(b:Nat)(ix:OI)(c:aE)(n:aj){R:(List Int)×Bool}(h:gJ c n=some R):dd aQ 209 [tV (aO b 0),tD aF n] (dD b c ix) (fun _:OI=>tT [mK R.1,iO R.2]) (fun _=>(dD b c ix)):=by
 refine dd.of Tryz.func209 J J J fun w0 S0=>?_;refine(show CG _ _ _ [bx (rH bn [(1,aT (ix.h 0).1 (ix.h 0).2 c.kinds.length),(2,aT (ix.h 1).1 (ix.h 1).2 c.first.length)]) 115 b c,dW od 39 (ix.h 0).1 (ix.h 0).2 c.kinds,dW ca 3 (ix.h 1).1 (ix.h 1).2 c.first] _ from ?_);refine aw<|zo J (js J)<|zo J (aM (show aJ _ _ _ xS from kE))<|zo J (jy)<|av<|ah<|bB h fun e q_e h=>?_
 refine pn 9 [tc (tV (aO b 0)),tc (tV (aO b 0)),tc (tV (aO b 1)),tc (tO od (ix.h 0).1 (ix.h 0).2 c.kinds),tc (bM ca n.A),tc (bN n.A),tc (bM od e),tc (mK e),([8],fun s=>tV (aO ((s.getD 0 p7).h 0).2 0))] [false,false,false,false,false,false,false,false,true] [fun _=>[bx (rH bn [(1,aT (ix.h 0).1 (ix.h 0).2 c.kinds.length),(2,aT (ix.h 1).1 (ix.h 1).2 c.first.length)]) 115 b c,dW od 39 (ix.h 0).1 (ix.h 0).2 c.kinds,dW ca 3 (ix.h 1).1 (ix.h 1).2 c.first],fun sg=>[bx od 39 ((sg 8).h 0).2 ([]),bx (rH bn [(1,aT (ix.h 0).1 (ix.h 0).2 c.kinds.length),(2,aT (ix.h 1).1 (ix.h 1).2 c.first.length)]) 115 b c,dW od 39 (ix.h 0).1 (ix.h 0).2 c.kinds,dW ca 3 (ix.h 1).1 (ix.h 1).2 c.first]] J mixed J J J J J
  ⟨⟨[⟨0,fun _=>tV (aO b 0),none⟩],_,0,1,J,⟨(fun _=>J),aS⟩,J,J,J,J,J,fun _ sg _ _=>aC J (de J)⟩,
  ⟨⟨[⟨9,fun _=>tV (aO b 0),some 0⟩],_,0,1,J,⟨(fun _=>J),aS⟩,J,J,J,J,J,fun _ sg _ _=>aC J (dF (ht J))⟩,
  ⟨⟨[⟨10,fun _=>tV (aO b 0),some 1⟩],_,0,1,J,⟨(fun _=>J),aS⟩,J,J,J,J,J,fun _ sg _ _=>aC J (jY 1 n8 J J J)⟩,
  ⟨⟨[⟨11,fun _=>tV (aO b 1),some 2⟩],_,0,1,J,⟨(fun _=>J),aS⟩,J,J,J,J,J,Gv (fun sg=>aC J (dl tI J (.head _) (.tail _ (.head _)) (ht J))) (Ar (fun sg=>aC J (dl tI J (.tail _ (.head _)) (.tail _ (.tail _ (.head _))) (ht J))))⟩,
  ⟨⟨[⟨3,fun _=>bM aF n,none⟩],_,0,1,J,⟨(fun _=>J),aS⟩,J,J,J,J,J,fun _ sg _ _=>aC J (c9 jH dS J J)⟩,
  ⟨⟨[⟨13,fun _=>bM ca n.A,some 4⟩],_,0,1,J,⟨(fun _=>J),aS⟩,J,J,J,J,J,fun _ sg _ _=>aC J (bC cr J J)⟩,
  ⟨⟨[⟨12,fun _=>tO xR (ix.h 0).1 (ix.h 0).2 c.kinds,some 3⟩,⟨14,fun _=>tD ca n.A,some 5⟩],_,0,1,J,⟨(fun _=>J),(fun _=>J),aS⟩,J,J,J,J,J,fun _ sg _ _=>aC J (br wm ea J (lb (ht J)) (ht J) q_e)⟩,
  ⟨⟨[⟨15,fun _=>bM xR e,some 6⟩],_,0,1,J,⟨(fun _=>J),aS⟩,J,J,J,J,J,fun _ sg _ _=>aC J (bC ea J J)⟩,
  ⟨⟨[],_,J,aS,J,J,J,fun sg=>eC J (zk (r:=xR) (x:=[]) ea (fun _=>⟨none,0,J,dh _,lS _,.inl J⟩))⟩,
  aS⟩⟩⟩⟩⟩⟩⟩⟩⟩ (fun sg=>?_)
 refine(show RG _ _ _ _ [bx od 39 ((sg 8).h 0).2 ([]),bx (rH bn [(1,aT (ix.h 0).1 (ix.h 0).2 c.kinds.length),(2,aT (ix.h 1).1 (ix.h 1).2 c.first.length)]) 115 b c,dW od 39 (ix.h 0).1 (ix.h 0).2 c.kinds,dW ca 3 (ix.h 1).1 (ix.h 1).2 c.first] _ from ?_);refine aq ea J an J (ht J) (ht J)<|aV 6 J<|av<|aw<|zo J ((show bR _ _ _ _ ((dR aQ Qd mA (fun(x:fq)=>(k5 e) x)))from ig (cts:=[bM od e]) (caps:=[.tmp 6]) abu ⟨(ht J),aS⟩ (fun x y h=>VD _ _ h)))<|bq J<|av<|aw<|zo J (c9 qw lE J J)<|zo J (bC DU J J)<|zo J (i7 DL J)<|zo J (mY (ht J) hI)<|aG J<|bB h fun t q_t h=>dN J J (fun hg=>c9 qw lE J J)<|dN J J (fun hg=>bI DU J J (bG J hg))<|dN J J (fun hg=>de J) ?_
 obtain⟨r,h1t,h0t⟩:=og q_t
 have q_rg:=fun hb=>(h1t hb).1
 refine dN J J (fun hg=>aB XU (Pw _ _ (q_rg hg)) ⟨(bG J hg),(bG J hg),aS⟩)<|dN J J (fun hg=>fj (bG J hg))<|zo J (eT (ht J) (fun hb=>(bG J hb)) (fun hb=>(h1t hb).2) h0t)<|aG J<|dN J J (fun hg=>c9 uV oD J J)<|dN J J (fun hg=>bI cr J J (bG J hg))<|dN J J (fun hg=>ir (bG J hg) hI)<|zo J (vn J J)<|aG J<|dN J J (fun hg=>c9 uV oD J J)<|dN J J (fun hg=>bI cr J J (bG J hg))<|dN J J (fun hg=>mY (bG J hg) hI)<|zo J (vn J J)<|bq J<|av<|ah ?_
 refine da (ts:=[_,_,_,_,_,_,_,_,_,_,_,_,_,_,_,_,_,_,_]) mixed J J
  ⟨eH 6 J J J (bC ea J J),
  ⟨eH 8 J J J (de J),
  ⟨bZ 40 1 J J J (de J),
  ⟨qN 0 41 2 J J J J (fm J J J J (fun hg=>de J)),
  ⟨k7 42 3 41 2 J J J J (fm J J J J (fun hg=>dF (bG J hg))),
  ⟨k7 43 4 41 2 J J J J (fm J J J J (fun hg=>pf (n:=1) n8 J (bG J hg) J)),
  ⟨k7 44 5 41 2 J J J J (fm J J J J (fun hg=>dl tI J (.head _) (.tail _ (.head _)) (bG J hg))),
  ⟨k7 45 6 41 2 J J J J (fm J J J J (fun hg=>cC wm (lb (bG J hg)))),
  ⟨qN 0 41 2 J J J J (fm J J J J (fun hg=>de J)),
  ⟨k7 47 8 41 2 J J J J (fm J J J J (fun hg=>dF (bG J hg))),
  ⟨k7 48 9 41 2 J J J J (fm J J J J (fun hg=>pf (n:=0) Jc J (bG J hg) J)),
  ⟨k7 49 10 41 2 J J J J (fm J J J J (fun hg=>pf (n:=0) kW J (bG J hg) J)),
  ⟨k7 50 11 41 2 J J J J (fm J J J J (fun hg=>ce (r:=rH bn [(1,aT (ix.h 0).1 (ix.h 0).2 c.kinds.length),(2,aT (ix.h 1).1 (ix.h 1).2 c.first.length)]) (x:=c) tH J J (U8 (vS wQ iL)) (.head _) (bG J hg))),
  ⟨k7 51 12 41 2 J J J J (fm J J J J (fun hg=>cC p6 (bG J hg))),
  ⟨k7 52 13 41 2 J J J J (fm J J J J (fun hg=>iq (bG J hg) hI)),
  ⟨uF 46 7 53 14 41 2 J J J J J (fm J J J J (fun hg=>dx (bG J hg) (bG J hg))),
  ⟨d3 41 2 54 15 J J J J (vn J J),
  ⟨bZ 39 0 J J J (vx J),
  ⟨bZ 55 16 J J J (vx J),
  aS⟩⟩⟩⟩⟩⟩⟩⟩⟩⟩⟩⟩⟩⟩⟩⟩⟩⟩⟩ ?_
 refine ax<|am<|aL<|aL<|aL ?_;cases so h;exact d8 (ts:=[mK e,iO (((t&&(decide (va≤n.Limit)))&&(decide (n.Limit≤(2147483647:Int))))&&((c.kinds.length:Int)==(IntKind.i64.wrap ((c.Logic.Nodes.length:Int)-(1:Int)))))]) (rvs:=[.tmp 4,.tmp 5]) J J ⟨aZ J,aZ J,aS⟩ p7 J J

theorem V2(n:aj){R:Bool}(h:t7 n=some R):aW aQ 210 [tD aF n] (iO R):=by
 refine aW.of Tryz.func210 J J J fun w0 S0=>aw<|zo J (js J)<|zo J (jy)<|av<|aw<|zo J (c9 vj m7 J J)<|zo J (bC cr J J)<|zo J (nX J)<|aG J<|dN J J (fun hg=>c9 vi oC J J)<|dN J J (fun hg=>bI ea J J (bG J hg))<|dN J J (fun hg=>cC hX (bG J hg))<|dN J J (fun hg=>dx (bG J hg) hI)<|zo J (vn J J)<|aG J<|dN J J (fun hg=>c9 NR FO J J)<|dN J J (fun hg=>bI Km J J (bG J hg))<|dN J J (fun hg=>fj (bG J hg))<|zo J (vn J J)<|aG J ?_;refine dN J J (fun hg=>c9 sE lM J J)<|dN J J (fun hg=>qm qx J mj J (bG J hg))<|dN J J (fun hg=>bI Bf J J (bG J hg))<|dN J J (fun hg=>cC xw (bG J hg))<|dN J J (fun hg=>dx (bG J hg) hI)<|zo J (vn J J)<|aG J<|dN J J (fun hg=>c9 uh m6 J J)<|dN J J (fun hg=>bI ea J J (bG J hg))<|dN J J (fun hg=>cC hX (bG J hg))<|dN J J (fun hg=>dx (bG J hg) hI)<|zo J (vn J J)<|aG J<|dN J J (fun hg=>c9 rl oB J J)<|dN J J (fun hg=>bI Cl J J (bG J hg))<|dN J J (fun hg=>cC xv (bG J hg))<|dN J J (fun hg=>dx (bG J hg) hI)<|zo J (vn J J)<|aG J<|dN J J (fun hg=>c9 rk m5 J J)<|dN J J (fun hg=>bI Be J J (bG J hg))<|dN J J (fun hg=>cC xH (bG J hg))<|dN J J (fun hg=>dx (bG J hg) hI)<|zo J (vn J J) ?_;refine aG J<|dN J J (fun hg=>c9 qw lE J J)<|dN J J (fun hg=>bI DU J J (bG J hg))<|dN J J (fun hg=>cC DL (bG J hg))<|dN J J (fun hg=>dx (bG J hg) hI)<|zo J (vn J J)<|aG J<|dN J J (fun hg=>c9 uV oD J J)<|dN J J (fun hg=>bI cr J J (bG J hg))<|dN J J (fun hg=>dx (bG J hg) hI)<|zo J (vn J J)<|bq J<|av<|am ?_;cases so h;exact aH J J

theorem V1(n:aj){R:aj}(h:t8 n=some R):aW aQ 211 [tD aF n] (tD aF R):=by
 refine aW.of Tryz.func211 J J J fun w0 S0=>aw<|xd (ht J) J fun b=>aX (r:=aF) (x:=Id) fL (fun _=>ln _) J fun b1=>av<|ah<|aw<|zo J (jY 0 yB J J J)<|zo J (ce cr J J oE (.tail _ (.head _)) (ht J))<|av<|ay<|aw<|zo J (nX J)<|bq J<|av<|c0 h J (fun h=>?_) (fun h=>?_)
 ·refine au<|zo J (jY 3 vj J J J)<|bH<|aq cr J MS J (ht J) hI<|zo J (jY 4 vi J J J)<|aq ea J Aw J (ht J) kE<|aP<|ap<|ax<|aw<|zo rfl (ce fL rfl rfl bU (.head _) (ht rfl))<|bH<|aq fL rfl an rfl (ht rfl) (ht rfl)<|aV 2 rfl<|av<|am<|bf ?_;cases so h;exact je J fL J J J
 ·refine aw<|zo J (nX J)<|bq J<|av<|c0 h J (fun h=>?_) (fun h=>?_)
  ·refine au<|zo J (bY (y:=Ap) kQ YR sL (J))<|zo J (jY 5 NR J J J)<|bH<|aq Km J MR J (ht J) hB<|zo J (jY 6 sE J J J)<|aq kQ J wy J (ht J) (ht J)<|aP<|ap<|ax<|aw<|zo rfl (ce fL rfl rfl bU (.head _) (ht rfl))<|bH<|aq fL rfl an rfl (ht rfl) (ht rfl)<|aV 2 rfl<|av<|am<|bf ?_;cases so h;exact je J fL J J J
  ·refine aw<|zo J (nX J)<|bq J<|av<|c0 h J (fun h=>?_) (fun h=>?_)
   ·refine au<|zo J (bY (y:=Ap) kQ YR sL (J))<|zo J (jY 6 sE J J J)<|bH<|aq kQ J wy J (ht J) (ht J)<|aP<|ap<|ax<|aw<|zo rfl (ce fL rfl rfl bU (.head _) (ht rfl))<|bH<|aq fL rfl an rfl (ht rfl) (ht rfl)<|aV 2 rfl<|av<|am<|bf ?_;cases so h;exact je J fL J J J
   ·refine aw<|zo J (nX J)<|bq J<|av<|c0 h J (fun h=>?_) (fun h=>?_)
    ·refine au<|zo J (jY 7 uh J J J)<|bH<|aq ea J EV J (ht J) kE<|zo J (jY 8 rl J J J)<|aq Cl J EU J (ht J) kE<|aP<|ap<|ax<|aw<|zo rfl (ce fL rfl rfl bU (.head _) (ht rfl))<|bH<|aq fL rfl an rfl (ht rfl) (ht rfl)<|aV 2 rfl<|av<|am<|bf ?_;cases so h;exact je J fL J J J
    ·refine aw<|zo J (nX J)<|bq J<|av<|c0 h J (fun h=>?_) (fun h=>?_)
     ·refine au<|zo J (jY 9 rk J J J)<|bH<|aq Be J MQ J (ht J) kE<|aP<|ap<|ax<|aw<|zo rfl (ce fL rfl rfl bU (.head _) (ht rfl))<|bH<|aq fL rfl an rfl (ht rfl) (ht rfl)<|aV 2 rfl<|av<|am<|bf ?_;cases so h;exact je J fL J J J
     ·refine aw<|zo J (nX J)<|bq J<|av<|c0 h J (fun h=>?_) (fun h=>?_)
      ·refine au<|zo J (jY 10 qw J J J)<|bH<|aq DU J yc J (ht J) kE<|zo J (jY 11 uV J J J)<|aq cr J Dj J (ht J) hI<|aP<|ap<|ax<|aw<|zo rfl (ce fL rfl rfl bU (.head _) (ht rfl))<|bH<|aq fL rfl an rfl (ht rfl) (ht rfl)<|aV 2 rfl<|av<|am<|bf ?_;cases so h;exact je J fL J J J
      ·refine bA<|ap<|ax<|aw<|zo rfl (ce fL rfl rfl bU (.tail _ (.head _)) (ht rfl))<|aq fL rfl an rfl (ht rfl) (ht rfl)<|aV 2 rfl<|av<|am<|bf ?_;cases so h;exact je J fL J J J

theorem VC(op:Int){R:Int}(h:uP op=some R):aW aQ 287 [bN op] (bN R):=by
 refine aW.of Tryz.func287 J J J fun w0 S0=>aw<|zo J (cy)<|av<|ah<|aw<|aG J<|av<|ay<|aw<|zo J (nX J)<|bq J<|av<|c0 h J (fun h=>?_) (fun h=>?_)
 ·refine aw<|zo J (cy)<|av<|am ?_;refine aD (ae ?_);cases so h;exact aH J J
 ·refine kL (Z:=fun x=>qo x=some R) (Of:=fun x=>[]) (Gf:=fun x=>[(6,iO x)]) (fun x h=>?_) (fun K=>?_)
  ·skip
   refine c0 h J (fun h=>?_) (fun h=>?_)
   ·refine aw<|zo J (cy)<|av<|am ?_;refine aD (ae ?_);cases so h;exact aH J J
   ·refine bA<|ap<|ax<|aw<|zo rfl (cy)<|av<|am ?_;cases so h;exact aH J J
  ·skip
   refine aw<|zo J (nX J)<|bq J<|av<|c0 h J (fun h=>?_) (fun h=>?_)
   ·refine bA ?_;exact cF (K (op==(2:Int)) h) (bu J)
   ·refine au<|zo J (nX J)<|bq J<|aP ?_;exact cF (K (op==(7:Int)) h) (bu J)

theorem Zf(b:Nat)(ix:OI)(c:aE)(i:Int){R:Int×Bool}(h:j3 c i=some R):dd aQ 212 [tV (aO b 0),bN i] (dD b c ix) (fun _:OI=>tT [bN R.1,iO R.2]) (fun _=>(dD b c ix)):=by
 refine dd.of Tryz.func212 J J J fun w0 S0=>?_;refine(show CG _ _ _ [bx (rH bn [(1,aT (ix.h 0).1 (ix.h 0).2 c.kinds.length),(2,aT (ix.h 1).1 (ix.h 1).2 c.first.length)]) 115 b c,dW od 39 (ix.h 0).1 (ix.h 0).2 c.kinds,dW ca 3 (ix.h 1).1 (ix.h 1).2 c.first] _ from ?_);refine aw<|zo J (cy)<|zo J (jy)<|av<|aw<|aG J<|zo J (dF (ht J))<|zo J (jY 0 Jc J J J)<|zo J (jY 0 kW J J J)<|zo J (ce (r:=rH bn [(1,aT (ix.h 0).1 (ix.h 0).2 c.kinds.length),(2,aT (ix.h 1).1 (ix.h 1).2 c.first.length)]) (x:=c) tH J J (U8 (vS wQ iL)) (.head _) (ht J))<|aG J<|bB h fun e q_e h=>zo J (mz p6 fL J J J q_e)<|zo J (bC fL J J)<|aX (r:=aF) (x:=Id) fL (fun _=>ln _) J fun b1=>aq fL J an J (ht J) (ht J)<|aV 6 J<|av<|ah<|ah ?_;refine au<|zo J (c9 yB oE J J)<|zo J (bC cr J J)<|bB h fun r q_r h=>zo J (aB abt (VC _ q_r) ⟨(ht J),aS⟩)<|av<|ay<|aw<|zo J (nX J)<|bq J<|av<|c0 h J (fun h=>?_) (fun h=>?_)
 ·refine ah ?_
  refine da (ts:=[_,_,_,_,_,_,_,_,_,_,_]) mixed J J
   ⟨eH 1 J J J (de J),
   ⟨eH 6 J J J (c9 jH dS J J),
   ⟨bZ 21 1 J J J (bC cr J J),
   ⟨bZ 22 2 J J J (nX J),
   ⟨bZ 23 3 J J J (de J),
   ⟨qN 6 24 4 J J J J (fm J J J J (fun hg=>c9 qv kV J J)),
   ⟨k7 25 5 24 4 J J J J (fm J J J J (fun hg=>bI cr J J (bG J hg))),
   ⟨k7 26 6 24 4 J J J J (fm J J J J (fun hg=>dx (bG J hg) hI)),
   ⟨d3 24 4 27 7 J J J J (vn J J),
   ⟨bZ 20 0 J J J (vx J),
   ⟨bZ 28 8 J J J (vx J),
   aS⟩⟩⟩⟩⟩⟩⟩⟩⟩⟩⟩ ?_
  refine ax<|am ?_;refine aD (ae ?_);refine aL<|aL<|aL ?_;cases so h;exact d8 (ts:=[bN i,iO ((e.A==va)&&(e.B==va))]) (rvs:=[.tmp 4,.tmp 5]) J J ⟨aZ J,aZ J,aS⟩ p7 J J
 ·refine aw<|zo J (nX J)<|bq J<|av<|c0 h J (fun h=>?_) (fun h=>?_)
  ·refine ah<|aw<|zo J (c9 jH dS J J)<|zo J (bC cr J J)<|aG J<|zo J (iq (ht J) hI)<|zo J (ft (ht J) (ht J))<|aG J<|eG J J (fun hg=>c9 qv kV J J)<|eG J J (fun hg=>bI cr J J (bG J hg))<|eG J J (fun hg=>ft (bG J hg) hI)<|zo J (xf J J)<|aG J<|eG J J (fun hg=>de J)<|eG J J (fun hg=>dx (bG J hg) hI)<|zo J (xf J J)<|av<|c0 h J (fun h=>?_) (fun h=>?_)
   ·refine aw<|zo J (cy)<|zo J (jy)<|av<|am ?_;refine ae (aD (ae ?_));refine aL<|aL<|aL ?_;cases so h;exact d8 (ts:=[bN 0,iO false]) (rvs:=[.tmp 4,.tmp 5]) J J ⟨aZ J,aZ J,aS⟩ p7 J J
   ·refine dP<|ah<|bB h fun e1 q_e1 h=>?_
    refine da (ts:=[_,_,_,_,_,_,_,_,_,_]) mixed J J
     ⟨eH 0 J J J (de J),
     ⟨bZ 45 0 J J J (dF (ht J)),
     ⟨bZ 46 1 J J J (jY 2 uW J J J),
     ⟨bZ 47 2 J J J (dl ea J (.head _) (.tail _ (.tail _ (.head _))) (ht J)),
     ⟨eH 6 J J J (c9 jH dS J J),
     ⟨bZ 49 4 J J J (bC cr J J),
     ⟨d3 48 3 50 5 J J J J (br hX cr J (lb (ht J)) (ht J) q_e1),
     ⟨bZ 51 6 J J J (bC cr J J),
     ⟨bZ 52 7 J J J (vx J),
     ⟨Qg J J (jy),
     aS⟩⟩⟩⟩⟩⟩⟩⟩⟩⟩ ?_
    refine ax<|am ?_;refine aD (ae ?_);refine aL<|aL<|aL ?_;cases so h;exact d8 (ts:=[bN e1,iO true]) (rvs:=[.tmp 4,.tmp 5]) J J ⟨aZ J,aZ J,aS⟩ p7 J J
  ·refine bA<|ap<|ax<|ah<|ah<|bB h fun t q_t h=>?_
   obtain⟨e2,h1t,h0t⟩:=og q_t
   have q_e2g:=fun hb=>(h1t hb).1
   refine da (ts:=[_,_,_,_,_,_,_,_,_,_,_,_,_,_,_,_,_,_,_,_,_,_,_,_,_,_,_,_]) mixed J J
    ⟨eH 6 J J J (c9 qv kV J J),
    ⟨bZ 53 0 J J J (bC cr J J),
    ⟨eH 1 J J J (de J),
    ⟨bZ 55 2 J J J (iq (ht J) hI),
    ⟨d3 54 1 56 3 J J J J (ft (ht J) (ht J)),
    ⟨bZ 57 4 J J J (de J),
    ⟨qN 1 58 5 J J J J (jN J J J J (fun hg=>de J)),
    ⟨k7 59 6 58 5 J J J J (jN J J J J (fun hg=>dx (bG J hg) hI)),
    ⟨d3 58 5 60 7 J J J J (xf J J),
    ⟨bZ 61 8 J J J (de J),
    ⟨qN 6 62 9 J J J J (jN J J J J (fun hg=>c9 jH dS J J)),
    ⟨k7 63 10 62 9 J J J J (jN J J J J (fun hg=>bI cr J J (bG J hg))),
    ⟨qN 0 62 9 J J J J (jN J J J J (fun hg=>de J)),
    ⟨k7 65 12 62 9 J J J J (jN J J J J (fun hg=>dF (bG J hg))),
    ⟨k7 66 13 62 9 J J J J (jN J J J J (fun hg=>pf (n:=2) uW J (bG J hg) J)),
    ⟨k7 67 14 62 9 J J J J (jN J J J J (fun hg=>dl ea J (.head _) (.tail _ (.tail _ (.head _))) (bG J hg))),
    ⟨qN 6 62 9 J J J J (jN J J J J (fun hg=>c9 qv kV J J)),
    ⟨k7 69 16 62 9 J J J J (jN J J J J (fun hg=>bI cr J J (bG J hg))),
    ⟨uF 68 15 70 17 62 9 J J J J J (jN J J J J (fun hg=>br hX cr J (lb (bG J hg)) (bG J hg) (q_e2g hg))),
    ⟨k7 71 18 62 9 J J J J (jN J J J J (fun hg=>bI cr J J (bG J hg))),
    ⟨k7 72 19 62 9 J J J J (jN J J J J (fun hg=>iq (bG J hg) hI)),
    ⟨uF 64 11 73 20 62 9 J J J J J (jN J J J J (fun hg=>ft (bG J hg) (bG J hg))),
    ⟨d3 62 9 74 21 J J J J (gZ (ht J) (fun hb=>(bG J (wK hb))) (fun hb=>(h1t hb).2) h0t),
    ⟨bZ 75 22 J J J (de J),
    ⟨qN 6 76 23 J J J J (jN J J J J (fun hg=>c9 jH dS J J)),
    ⟨k7 77 24 76 23 J J J J (jN J J J J (fun hg=>bI cr J J (bG J hg))),
    ⟨k7 78 25 76 23 J J J J (jN J J J J (fun hg=>gx (bG J hg) hI)),
    ⟨d3 76 23 79 26 J J J J (xf J J),
    aS⟩⟩⟩⟩⟩⟩⟩⟩⟩⟩⟩⟩⟩⟩⟩⟩⟩⟩⟩⟩⟩⟩⟩⟩⟩⟩⟩⟩ ?_
   refine ax<|c0 h rfl (fun h=>?_) (fun h=>?_)
   ·refine aw<|zo J (cy)<|zo J (jy)<|av<|am<|ae<|aL<|aL<|aL ?_;cases so h;exact d8 (ts:=[bN 0,iO false]) (rvs:=[.tmp 4,.tmp 5]) J J ⟨aZ J,aZ J,aS⟩ p7 J J
   ·refine dP<|ah<|bB h fun e3 q_e3 h=>?_
    refine da (ts:=[_,_,_,_,_,_,_,_,_,_]) mixed J J
     ⟨eH 0 J J J (de J),
     ⟨bZ 81 0 J J J (dF (ht J)),
     ⟨bZ 82 1 J J J (jY 2 uW J J J),
     ⟨bZ 83 2 J J J (dl ea J (.head _) (.tail _ (.tail _ (.head _))) (ht J)),
     ⟨eH 6 J J J (c9 jH dS J J),
     ⟨bZ 85 4 J J J (bC cr J J),
     ⟨d3 84 3 86 5 J J J J (br hX cr J (lb (ht J)) (ht J) q_e3),
     ⟨bZ 87 6 J J J (bC cr J J),
     ⟨bZ 88 7 J J J (vx J),
     ⟨Qg J J (jy),
     aS⟩⟩⟩⟩⟩⟩⟩⟩⟩⟩ ?_
    refine ax<|am<|aL<|aL<|aL ?_;cases so h;exact d8 (ts:=[bN e3,iO true]) (rvs:=[.tmp 4,.tmp 5]) J J ⟨aZ J,aZ J,aS⟩ p7 J J

theorem ST(b:Nat)(ix:OI)(c:aE):B9 aQ 201 (fun(x:Int×Bool)=>[bN x.1,iO x.2]) (fun _=>lV c) (dD b) (dD b c ix) [bM (rT (tV (aO b 0))) ()]:=by
 refine B9.of Tryz.func201 J J J fun Sg yld s R h I yv hy e he w0 S0 B hB=>?_
 replace h:lV c yld s=some R:=h
 refine(show CG _ _ _ [e,bx (rH bn [(1,aT (ix.h 0).1 (ix.h 0).2 c.kinds.length),(2,aT (ix.h 1).1 (ix.h 1).2 c.first.length)]) 115 b c,dW od 39 (ix.h 0).1 (ix.h 0).2 c.kinds,dW ca 3 (ix.h 1).1 (ix.h 1).2 c.first] _ from ?_);refine aw<|AO (xx (fun y:(aE→aj→Option (((List Int)×Bool)×aE))=>dQ aQ pM (dD b) o9 y)) n9 J fun b1=>zo J (lz lc (ht J)) ?_
 refine qF ((show bR _ _ _ _ (dQ aQ pM (dD b) o9 Yk)from jZ ab3 (ht J) (fun c x R h i=>by
   obtain⟨r,h1,rfl⟩:=wo.1 h
   exact iW (Ob:=fun j=>dD b c j) (i:=i) (Zn _ i c _ h1)))) J ?_
 refine eM (γ:=(fun y:(aE→aj→Option (((List Int)×Bool)×aE))=>dQ aQ pM (dD b) o9 y)) (y:=Yk) Ba (d6 lk) (ht J) (oz hI) (ht J) fun os=>zo J (lz lc (ht J)) ?_
 refine qF ((show bR _ _ _ _ (dQ aQ pM (dD b) o9 Yj)from jZ ab2 (ht J) (fun c x R h i=>by
   obtain⟨r,h1,rfl⟩:=wo.1 h
   exact iW (Ob:=fun j=>dD b c j) (i:=i) (Zm _ i c _ h1)))) J ?_
 refine eM (γ:=(fun y:(aE→aj→Option (((List Int)×Bool)×aE))=>dQ aQ pM (dD b) o9 y)) (y:=Yj) Ba (d6 lk) (ht J) (oz hI) (ht J) fun os1=>zo J (lz lc (ht J)) ?_
 refine qF ((show bR _ _ _ _ (dQ aQ pM (dD b) o9 Yo)from jZ ab1 (ht J) (fun c x R h i=>by
   obtain⟨r,h1,rfl⟩:=wo.1 h
   exact iW (Ob:=fun j=>dD b c j) (i:=i) (Zl _ i c _ h1)))) J ?_
 refine eM (γ:=(fun y:(aE→aj→Option (((List Int)×Bool)×aE))=>dQ aQ pM (dD b) o9 y)) (y:=Yo) Ba (d6 lk) (ht J) (oz hI) (ht J) fun os2=>zo J (lz lc (ht J)) ?_
 refine qF ((show bR _ _ _ _ (dQ aQ pM (dD b) o9 Yl)from jZ ab0 (ht J) (fun c x R h i=>by
   obtain⟨r,h1,rfl⟩:=wo.1 h
   exact iW (Ob:=fun j=>dD b c j) (i:=i) (Zk _ i c _ h1)))) J ?_
 refine eM (γ:=(fun y:(aE→aj→Option (((List Int)×Bool)×aE))=>dQ aQ pM (dD b) o9 y)) (y:=Yl) Ba (d6 lk) (ht J) (oz hI) (ht J) fun os3=>zo J (lz lc (ht J)) ?_
 refine qF ((show bR _ _ _ _ (dQ aQ pM (dD b) o9 Yp)from jZ abZ (ht J) (fun c x R h i=>by
   obtain⟨r,h1,rfl⟩:=wo.1 h
   exact iW (Ob:=fun j=>dD b c j) (i:=i) (Zj _ i c _ h1)))) J ?_
 refine eM (γ:=(fun y:(aE→aj→Option (((List Int)×Bool)×aE))=>dQ aQ pM (dD b) o9 y)) (y:=Yp) Ba (d6 lk) (ht J) (oz hI) (ht J) fun os4=>zo J (lz lc (ht J)) ?_
 refine qF ((show bR _ _ _ _ (dQ aQ pM (dD b) o9 Yq)from jZ abY (ht J) (fun c x R h i=>by
   obtain⟨r,h1,rfl⟩:=wo.1 h
   exact iW (Ob:=fun j=>dD b c j) (i:=i) (Zi _ i c _ h1)))) J ?_
 refine eM (γ:=(fun y:(aE→aj→Option (((List Int)×Bool)×aE))=>dQ aQ pM (dD b) o9 y)) (y:=Yq) Ba (d6 lk) (ht J) (oz hI) (ht J) fun os5=>zo J (lz lc (ht J)) ?_
 refine qF ((show bR _ _ _ _ (dQ aQ pM (dD b) o9 Yn)from jZ abX (ht J) (fun c x R h i=>by
   obtain⟨r,h1,rfl⟩:=wo.1 h
   exact iW (Ob:=fun j=>dD b c j) (i:=i) (Zh _ i c _ h1)))) J ?_
 refine eM (γ:=(fun y:(aE→aj→Option (((List Int)×Bool)×aE))=>dQ aQ pM (dD b) o9 y)) (y:=Yn) Ba (d6 lk) (ht J) (oz hI) (ht J) fun os6=>zo J (lz lc (ht J)) ?_
 refine qF ((show bR _ _ _ _ (dQ aQ pM (dD b) o9 Ym)from jZ abW (ht J) (fun c x R h i=>by
   obtain⟨r,h1,rfl⟩:=wo.1 h
   exact iW (Ob:=fun j=>dD b c j) (i:=i) (Zg _ i c _ h1)))) J ?_
 refine eM (γ:=(fun y:(aE→aj→Option (((List Int)×Bool)×aE))=>dQ aQ pM (dD b) o9 y)) (y:=Ym) Ba (d6 lk) (ht J) (oz hI) (ht J) fun os7=>aG J<|bq J<|av<|aw<|zo J (lz lc (ht J))<|zo J (dF (ht J))<|zo J (jY 0 Jc J J J)<|zo J (jY 0 kW J J J)<|zo J (ce (r:=rH bn [(1,aT (ix.h 0).1 (ix.h 0).2 c.kinds.length),(2,aT (ix.h 1).1 (ix.h 1).2 c.first.length)]) (x:=c) tH J J (U8 (vS wQ iL)) (.tail _ (.tail _ (.head _))) (ht J))<|zo J (i7 p6 J)<|zo J (bE hI)<|av<|ay<|ba (k:=33) J fun hN=>bL<|lj<|lj<|lj<|nV<|lj ?_;refine aR (Mk (Z:=fun ls i e1 s1 ob l c1 l1 c2=>(c.Logic.Nodes.drop i=ls)∧I s1 e1∧bF yld ls i s1 ob=some R) (Of:=fun _ i e1 s1 ob l c1 l1 c2=>[e1,oc (xx (fun y:(aE→aj→Option (((List Int)×Bool)×aE))=>dQ aQ pM (dD b) o9 y)) n9 b1 none os7 MC,bx (rH bn [(1,aT l c1 ob.kinds.length),(2,aT l1 c2 ob.first.length)]) 115 b ob,dW od 39 l c1 ob.kinds,dW ca 3 l1 c2 ob.first]) (Gf:=fun _ i e1 s1 ob l c1 l1 c2=>[(0,tV yv),(1,bM (rT (tV (aO b 0))) ()),(3,tV (q9 b1)),(33,bW (aF) c.Logic.Nodes),(34,jr c.Logic.Nodes),(35,bN (i:Int))]) (fun i e1 s1 ob l c1 l1 c2 h=>?_) (fun e2 tl ih i e1 s1 ob l c1 l1 c2 h=>?_) c.Logic.Nodes 0 e s c (ix.h 0).1 (ix.h 0).2 (ix.h 1).1 (ix.h 1).2 ⟨J,⟨he,h⟩⟩) (bu J)
 ·obtain⟨hx,h⟩:=h
  obtain⟨he1,h⟩:=h
  refine aA<|aw<|zo J (fF J J)<|av<|ah<|bz (ht J) (dm hx)<|bv ?_;refine ai (ai (aN ?_));refine bD<|bf<|cD<|cD<|cD<|cD ?_;cases so h;exact Rl J he1 (Xm [(l,c1),(l1,c2)]) J
 ·obtain⟨hx,h⟩:=h
  obtain⟨he1,h⟩:=h
  refine aA<|aw<|zo J (fF J J)<|av<|ah<|bw (ht J) (dg hx)<|dP<|ah<|ay<|aw<|aG J<|zo J (mz p6 fL J J J (cT hx))<|zo J (bC fL J J)<|aX (r:=aF) (x:=Id) fL (fun _=>ln _) J fun b2=>bq J<|aq fL J an J (ht J) (ht J)<|aV 5 J<|av<|ah ?_;refine au<|aG J<|zo J (c9 yB oE J J)<|zo J (bC cr J J)<|zo J (KU (γ:=(fun y:(aE→aj→Option (((List Int)×Bool)×aE))=>dQ aQ pM (dD b) (fun(x:(List Int)×Bool)=>tT [tD xR x.1,tD rB x.2]) y)) (z:=fun _ _=>none) Ba (d6 lk) ZT (fun _=>He) (.tail _ (.head _)) (ht J) (oz (ht J)))<|aG J<|zo J (gE J J)<|zo J (gE J J)<|bq J<|bq J<|av<|aw<|aG J<|aG J<|bB h fun t q_t h=>dN J J (fun hg=>bC fL J J) ?_
  obtain⟨r,h1t,h0t⟩:=og q_t
  have q_rg:=fun hb=>(h1t hb).1
  refine dN J J (fun hg=>aB abU (V1 _ (q_rg hg)) ⟨(bG J hg),aS⟩) ?_
  obtain⟨r1,h1t⟩:=Xn (fun hb=>(h1t hb).2)
  have q_r1g:=fun hb=>(h1t hb).1
  refine dN J J (fun hg=>aB abV (V2 _ (q_r1g hg)) ⟨(bG J hg),aS⟩)<|zo J (eT (ht J) (fun hb=>(bG J hb)) (fun hb=>(h1t hb).2) h0t)<|bq J<|av ?_;refine Rh (Z:=fun ok ob1 l2 c3 l3 c4=>d5 yld (bF yld tl) i e2 s1 ok ob1=some R) (Of:=fun ok ob1 l2 c3 l3 c4=>[e1,oc (xx (fun y:(aE→aj→Option (((List Int)×Bool)×aE))=>dQ aQ pM (dD b) o9 y)) n9 b1 none os7 MC,bx (rH bn [(1,aT l2 c3 ob1.kinds.length),(2,aT l3 c4 ob1.first.length)]) 115 b ob1,dW od 39 l2 c3 ob1.kinds,dW ca 3 l3 c4 ob1.first]) (Gf:=fun ok ob1 l2 c3 l3 c4=>[(0,tV yv),(1,bM (rT (tV (aO b 0))) ()),(3,tV (q9 b1)),(4,bN (i:Int)),(5,bM aF e2),(6,dQ aQ pM (dD b) o9 ((pH MC e2.Op).getD (fun _ _=>none))),(8,iO ok),(33,bW (aF) c.Logic.Nodes),(34,jr c.Logic.Nodes),(35,bN (i:Int))]) (fun ok ob1 l2 c3 l3 c4 h=>?_) (fun K=>?_)
  ·skip
   refine aw<|zo J (aM (show aJ _ _ _ xS from kE))<|av ?_;refine Rg (Z:=fun ok1 kinds ob2 l4 c5 l5 c6=>gz yld (bF yld tl) i s1 ok1 kinds ob2=some R) (Of:=fun ok1 kinds ob2 l4 c5 l5 c6=>[e1,oc (xx (fun y:(aE→aj→Option (((List Int)×Bool)×aE))=>dQ aQ pM (dD b) o9 y)) n9 b1 none os7 MC,bx (rH bn [(1,aT l4 c5 ob2.kinds.length),(2,aT l5 c6 ob2.first.length)]) 115 b ob2,dW od 39 l4 c5 ob2.kinds,dW ca 3 l5 c6 ob2.first]) (Gf:=fun ok1 kinds ob2 l4 c5 l5 c6=>[(0,tV yv),(1,bM (rT (tV (aO b 0))) ()),(3,tV (q9 b1)),(4,bN (i:Int)),(8,iO ok1),(10,mK kinds),(33,bW (aF) c.Logic.Nodes),(34,jr c.Logic.Nodes),(35,bN (i:Int))]) (fun ok1 kinds ob2 l4 c5 l5 c6 h=>?_) (fun K1=>?_)
   ·skip
    refine aw<|aG J<|aG J<|dN J J (fun hg=>de J)<|dN J J (fun hg=>cC hX (bG J hg))<|dN J J (fun hg=>mY (bG J hg) hI)<|zo J (vn J J)<|bq J<|av<|ah<|bB h fun l6 q_l6 h=>?_
    refine pn 8 [tc (tV (aO b 0)),tc (tV (aO b 0)),tc (tV (aO b 0)),tc (tV (aO b 1)),tc (tO od l4 c5 ob2.kinds),tc (mK kinds),tc (bW (od) ([kinds])),([7],fun s=>tO od ((s.getD 0 p7).h 0).1 ((s.getD 0 p7).h 0).2 l6)] [false,false,false,false,false,false,false,true] [fun _=>[e1,oc (xx (fun y:(aE→aj→Option (((List Int)×Bool)×aE))=>dQ aQ pM (dD b) o9 y)) n9 b1 none os7 MC,bx (rH bn [(1,aT l4 c5 ob2.kinds.length),(2,aT l5 c6 ob2.first.length)]) 115 b ob2,dW od 39 l4 c5 ob2.kinds,dW ca 3 l5 c6 ob2.first],fun sg=>[dW od 39 ((sg 7).h 0).1 ((sg 7).h 0).2 l6,e1,oc (xx (fun y:(aE→aj→Option (((List Int)×Bool)×aE))=>dQ aQ pM (dD b) o9 y)) n9 b1 none os7 MC,bx (rH bn [(1,aT l4 c5 ob2.kinds.length),(2,aT l5 c6 ob2.first.length)]) 115 b ob2,dW ca 3 l5 c6 ob2.first]] J mixed J J J J J
     ⟨⟨[⟨1,fun _=>bM (rT (tV (aO b 0))) (),none⟩],_,0,1,J,⟨(fun _=>J),aS⟩,J,J,J,J,J,fun _ sg _ _=>aC J (lz lc (ht J))⟩,
     ⟨⟨[⟨1,fun _=>bM (rT (tV (aO b 0))) (),none⟩],_,0,0,J,⟨(fun _=>J),aS⟩,J,J,J,J,J,fun _ sg _ _=>aC J (lz lc (ht J))⟩,
     ⟨⟨[⟨84,fun _=>tV (aO b 0),some 1⟩],_,0,0,J,⟨(fun _=>J),aS⟩,J,J,J,J,J,fun _ sg _ _=>aC J (dF (ht J))⟩,
     ⟨⟨[⟨85,fun _=>tV (aO b 0),some 2⟩],_,0,0,J,⟨(fun _=>J),aS⟩,J,J,J,J,J,fun _ sg _ _=>aC J (jY 1 n8 J J J)⟩,
     ⟨⟨[⟨86,fun _=>tV (aO b 1),some 3⟩],_,0,0,J,⟨(fun _=>J),aS⟩,J,J,J,J,J,Ar (fun sg=>aC J (dl tI J (.tail _ (.tail _ (.head _))) (.tail _ (.tail _ (.tail _ (.head _)))) (ht J)))⟩,
     ⟨⟨[⟨10,fun _=>tD xR kinds,none⟩],_,0,0,J,⟨(fun _=>J),aS⟩,J,J,J,J,J,fun _ sg _ _=>aC J (de J)⟩,
     ⟨⟨[⟨88,fun _=>tD xR kinds,some 5⟩],_,0,0,J,⟨(fun _=>J),aS⟩,J,J,J,J,J,fun _ sg _ _=>aC J (aU (r:=xR) (ys:=[kinds]) (xs:=[.tmp 88]) wm ea J J J J J ⟨(ht J),aS⟩)⟩,
     ⟨⟨[⟨87,fun _=>tO xR l4 c5 ob2.kinds,some 4⟩,⟨89,fun _=>tD (gi xR) ([kinds]),some 6⟩],_,J,⟨(fun _=>J),(fun _=>J),aS⟩,J,J,J,fun sg=>eC J (EffOK.fr3 (uY ea J J J J wm J (ht J) (ht J) q_l6))⟩,
     aS⟩⟩⟩⟩⟩⟩⟩⟩ (fun sg=>?_)
    refine(show RG _ _ _ _ [dW od 39 ((sg 7).h 0).1 ((sg 7).h 0).2 l6,e1,oc (xx (fun y:(aE→aj→Option (((List Int)×Bool)×aE))=>dQ aQ pM (dD b) o9 y)) n9 b1 none os7 MC,bx (rH bn [(1,aT l4 c5 ob2.kinds.length),(2,aT l5 c6 ob2.first.length)]) 115 b ob2,dW ca 3 l5 c6 ob2.first] _ from ?_);refine zo J (dF (ht J))<|zo J (jY 1 n8 J J J)<|xb (EffOK.fr3 (wT (hs' :=[(1,aT ((sg 7).h 0).1 ((sg 7).h 0).2 l6.length),(2,aT l5 c6 ob2.first.length)]) (u:=aT ((sg 7).h 0).1 ((sg 7).h 0).2 l6.length) tI J J Iy J ⟨.inl ⟨J,J,J⟩,.inr ⟨J,J⟩,aS⟩ (ht J) (lb (ht J)) (Is (ht J)))) fun i1=>?_;refine(show RG _ _ _ _ [bx (rH bn [(1,aT ((sg 7).h 0).1 ((sg 7).h 0).2 l6.length),(2,aT l5 c6 ob2.first.length)]) 115 b ({ob2 with kinds:=l6}:aE),dW od 39 ((sg 7).h 0).1 ((sg 7).h 0).2 l6,e1,oc (xx (fun y:(aE→aj→Option (((List Int)×Bool)×aE))=>dQ aQ pM (dD b) o9 y)) n9 b1 none os7 MC,dW ca 3 l5 c6 ob2.first] _ from ?_);refine av<|aw<|aG J<|aG J<|aG J<|il<|bB h fun r2 q_r2 h=>Ga hy he1 q_r2 (ht J) ⟨(ht J),(ht J),aS⟩ J fun e3 he2=>zo J (fj (ht J))<|aG J<|eG J J (fun hg=>de J)<|eG J J (fun hg=>fj (bG J hg))<|zo J (xf J J)<|av<|c0 h J (fun h=>?_) (fun h=>?_)
    ·refine am ?_;refine aD (ae (ae (aD ?_)));refine cD<|bf<|cD<|cD<|cD<|cD ?_;cases so h;exact Mw J he2 (Xm [(((sg 7).h 0).1,((sg 7).h 0).2),(l5,c6)]) J
    ·refine bA<|ap<|ax<|au<|zo rfl (lT (cx hx hN) rfl)<|aG rfl<|aP<|fC<|cD<|cD<|fC<|fC ?_;exact bg (aR (ih (i+1) e3 r2.2 ({ob2 with kinds:=l6}:aE) ((sg 7).h 0).1 ((sg 7).h 0).2 l5 c6 ⟨cw hx,⟨he2,h⟩⟩) (bu J))
   ·skip
    refine aw<|aG J<|av<|c0 h J (fun h=>?_) (fun h=>?_)
    ·refine au<|aG J<|zo J (bC fL J J)<|bB h fun r3 q_r3 h=>AP (EffOK.fr4 (EffOK.fr4 (EffOK.fr4 (BR (args:=pM) (Ob:=dD b) (res:=o9) (f:=((pH MC e2.Op).getD (fun _ _=>none))) (x:=ob1) (y:=((e2):aj)) (R:=r3) (i:=(Xm [(l2,c3),(l3,c4)])) (xs:=[.tmp 73]) _ J (ht J) q_r3 ⟨(ht J),aS⟩ (fun _=>J))))) J fun i2=>?_;refine(show RG _ _ _ _ [bx (rH bn [(1,aT (i2.h 0).1 (i2.h 0).2 r3.2.kinds.length),(2,aT (i2.h 1).1 (i2.h 1).2 r3.2.first.length)]) 115 b r3.2,dW od 39 (i2.h 0).1 (i2.h 0).2 r3.2.kinds,dW ca 3 (i2.h 1).1 (i2.h 1).2 r3.2.first,e1,oc (xx (fun y:(aE→aj→Option (((List Int)×Bool)×aE))=>dQ aQ pM (dD b) o9 y)) n9 b1 none os7 MC] ((74,tT [mK r3.1.1,iO r3.1.2])::_)from ?_);refine aG J<|zo J (gE J J)<|zo J (gE J J)<|bq J<|bq J<|aP<|aL<|aL<|aL<|fC<|fC ?_;exact cF (K1 r3.1.2 r3.1.1 r3.2 (i2.h 0).1 (i2.h 0).2 (i2.h 1).1 (i2.h 1).2 h) (bu J)
    ·refine bA ?_;exact cF (K1 ok ([]) ob1 l2 c3 l3 c4 h) (bu J)
  ·skip
   refine aw<|aG J<|av<|c0 h J (fun h=>?_) (fun h=>?_)
   ·refine aw<|zo J (cy)<|av<|aw<|zo J (lz lc (ht J))<|aG J<|bB h fun r4 q_r4 h=>AP (EffOK.fr4 (EffOK.fr4 (EffOK.fr4 (QU (xs:=[.tmp 55,.tmp 56]) (ts:=[tV (aO b 0),bN (i:Int)]) (dD b ob (Xm [(l,c1),(l1,c2)])) _ J abT (Zf b (Xm [(l,c1),(l1,c2)]) ob _ q_r4) ⟨(ht J),(ht J),aS⟩ (fun _=>J))))) J fun i3=>?_;refine(show RG _ _ _ _ [bx (rH bn [(1,aT l c1 ob.kinds.length),(2,aT l1 c2 ob.first.length)]) 115 b ob,dW od 39 l c1 ob.kinds,dW ca 3 l1 c2 ob.first,e1,oc (xx (fun y:(aE→aj→Option (((List Int)×Bool)×aE))=>dQ aQ pM (dD b) o9 y)) n9 b1 none os7 MC] ((57,tT [bN r4.1,iO r4.2])::_)from ?_);refine aG J<|zo J (gE J J)<|zo J (gE J J)<|bq J<|bq J<|av<|bB h fun l7 q_l7 h=>?_
    refine pn 8 [tc (tV (aO b 0)),tc (tV (aO b 0)),tc (tV (aO b 0)),tc (tV (aO b 2)),tc (tO ca l1 c2 ob.first),tc (bN r4.1),tc (mK ([r4.1])),([7],fun s=>tO ca ((s.getD 0 p7).h 0).1 ((s.getD 0 p7).h 0).2 l7)] [false,false,false,false,false,false,false,true] [fun _=>[bx (rH bn [(1,aT l c1 ob.kinds.length),(2,aT l1 c2 ob.first.length)]) 115 b ob,dW od 39 l c1 ob.kinds,dW ca 3 l1 c2 ob.first,e1,oc (xx (fun y:(aE→aj→Option (((List Int)×Bool)×aE))=>dQ aQ pM (dD b) o9 y)) n9 b1 none os7 MC],fun sg1=>[dW ca 3 ((sg1 7).h 0).1 ((sg1 7).h 0).2 l7,bx (rH bn [(1,aT l c1 ob.kinds.length),(2,aT l1 c2 ob.first.length)]) 115 b ob,dW od 39 l c1 ob.kinds,e1,oc (xx (fun y:(aE→aj→Option (((List Int)×Bool)×aE))=>dQ aQ pM (dD b) o9 y)) n9 b1 none os7 MC]] J mixed J J J J J
     ⟨⟨[⟨1,fun _=>bM (rT (tV (aO b 0))) (),none⟩],_,0,1,J,⟨(fun _=>J),aS⟩,J,J,J,J,J,fun _ sg1 _ _=>aC J (lz lc (ht J))⟩,
     ⟨⟨[⟨1,fun _=>bM (rT (tV (aO b 0))) (),none⟩],_,0,0,J,⟨(fun _=>J),aS⟩,J,J,J,J,J,fun _ sg1 _ _=>aC J (lz lc (ht J))⟩,
     ⟨⟨[⟨61,fun _=>tV (aO b 0),some 1⟩],_,0,0,J,⟨(fun _=>J),aS⟩,J,J,J,J,J,fun _ sg1 _ _=>aC J (dF (ht J))⟩,
     ⟨⟨[⟨62,fun _=>tV (aO b 0),some 2⟩],_,0,0,J,⟨(fun _=>J),aS⟩,J,J,J,J,J,fun _ sg1 _ _=>aC J (jY 2 uW J J J)⟩,
     ⟨⟨[⟨63,fun _=>tV (aO b 2),some 3⟩],_,0,0,J,⟨(fun _=>J),aS⟩,J,J,J,J,J,Ar (fun sg1=>aC J (dl ea J (.head _) (.tail _ (.tail _ (.head _))) (ht J)))⟩,
     ⟨⟨[⟨9,fun _=>tD ca r4.1,none⟩],_,0,0,J,⟨(fun _=>J),aS⟩,J,J,J,J,J,fun _ sg1 _ _=>aC J (de J)⟩,
     ⟨⟨[⟨65,fun _=>tD ca r4.1,some 5⟩],_,0,0,J,⟨(fun _=>J),aS⟩,J,J,J,J,J,fun _ sg1 _ _=>aC J (aU (r:=ca) (ys:=[r4.1]) (xs:=[.tmp 65]) hX cr J J J J J ⟨(ht J),aS⟩)⟩,
     ⟨⟨[⟨64,fun _=>tO ca l1 c2 ob.first,some 4⟩,⟨66,fun _=>tD xR ([r4.1]),some 6⟩],_,J,⟨(fun _=>J),(fun _=>J),aS⟩,J,J,J,fun sg1=>eC J (EffOK.fr2 (uY cr J J J J hX J (ht J) (ht J) q_l7))⟩,
     aS⟩⟩⟩⟩⟩⟩⟩⟩ (fun sg1=>?_)
    refine(show RG _ _ _ _ [dW ca 3 ((sg1 7).h 0).1 ((sg1 7).h 0).2 l7,bx (rH bn [(1,aT l c1 ob.kinds.length),(2,aT l1 c2 ob.first.length)]) 115 b ob,dW od 39 l c1 ob.kinds,e1,oc (xx (fun y:(aE→aj→Option (((List Int)×Bool)×aE))=>dQ aQ pM (dD b) o9 y)) n9 b1 none os7 MC] _ from ?_);refine zo J (dF (ht J))<|zo J (jY 2 uW J J J)<|xb (EffOK.fr1 (wT (hs' :=[(1,aT l c1 ob.kinds.length),(2,aT ((sg1 7).h 0).1 ((sg1 7).h 0).2 l7.length)]) (u:=aT ((sg1 7).h 0).1 ((sg1 7).h 0).2 l7.length) ea J J Ix J ⟨.inr ⟨J,J⟩,.inl ⟨J,J,J⟩,aS⟩ (ht J) (lb (ht J)) (Is (ht J)))) fun i4=>?_;refine(show RG _ _ _ _ [bx (rH bn [(1,aT l c1 ob.kinds.length),(2,aT ((sg1 7).h 0).1 ((sg1 7).h 0).2 l7.length)]) 115 b ({ob with first:=l7}:aE),dW ca 3 ((sg1 7).h 0).1 ((sg1 7).h 0).2 l7,dW od 39 l c1 ob.kinds,e1,oc (xx (fun y:(aE→aj→Option (((List Int)×Bool)×aE))=>dQ aQ pM (dD b) o9 y)) n9 b1 none os7 MC] _ from ?_);refine aP<|bD<|aL<|aL<|fC<|fC ?_;exact cF (K r4.2 ({ob with first:=l7}:aE) l c1 ((sg1 7).h 0).1 ((sg1 7).h 0).2 h) (bu J)
   ·refine bA ?_;exact cF (K t ob l c1 l1 c2 h) (bu J)

end Go.Proofs.YtfhhakidodmdfaaGreatDoor

