/- cT of this claim: P3. -/
import Derived.Test.YtfhhakidodmdfaaGreatDoorJeT
import Derived.Test.YtfhhakidodmdfaaGreatDoorJeP2
set_option linter.all false
namespace Go.Proofs.YtfhhakidodmdfaaGreatDoor
open Go
set_option maxRecDepth 100000

theorem UB(in1:(List Int))(o:gE){R:Bool}(h:kq in1 o=some R):aV aR 286 [tD gA o,bM ny in1] (iz R):=by
 refine aV.of Tryz.func286 J J J fun w0 S0=>aw<|zo J (js J)<|zo J (jS)<|au<|aw<|zo J (de Ir AW J J)<|zo J (bC cu J J)<|zo J (gD (ht J) hI)<|aF J<|gY J J (fun hg=>de Ir AW J J)<|gY J J (fun hg=>bO cu J J (bP J hg))<|gY J J (fun hg=>bC d7 J J)<|gY J J (fun hg=>dQ gF (bP J hg))<|gY J J (fun hg=>jg (bP J hg) (bP J hg))<|zo J (yE J J)<|bo J<|au<|am ?_;cases so h;exact aL J J

theorem Yb(b:Nat)(ix:OI)(c:aC)(n:ak){R:(List Int)×Bool}(h:gp c n=some R):c0 aR 209 [tV (aP b 0),tD aI n] (dC b c ix) (fun _:OI=>tT [mh R.1,iz R.2]) (fun _=>(dC b c ix)):=by
 refine c0.of Tryz.func209 J J J fun w0 S0=>?_;refine(show CG _ _ _ [bx (rH bk [(1,aO (ix.h 0).1 (ix.h 0).2 c.kinds.length),(2,aO (ix.h 1).1 (ix.h 1).2 c.first.length)]) 115 b c,dS ny 39 (ix.h 0).1 (ix.h 0).2 c.kinds,dS bT 3 (ix.h 1).1 (ix.h 1).2 c.first] _ from ?_);refine aw<|zo J (js J)<|zo J (aK (show aH _ _ _ wU from jO))<|zo J (jS)<|au<|ah<|bB h fun e q_e h=>?_
 refine oc 9 [tc (tV (aP b 0)),tc (tV (aP b 0)),tc (tV (aP b 1)),tc (tO ny (ix.h 0).1 (ix.h 0).2 c.kinds),tc (bM bT n.A),tc (bI n.A),tc (bM ny e),tc (mh e),([8],fun s=>tV (aP ((s.getD 0 oU).h 0).2 0))] [false,false,false,false,false,false,false,false,true] [fun _=>[bx (rH bk [(1,aO (ix.h 0).1 (ix.h 0).2 c.kinds.length),(2,aO (ix.h 1).1 (ix.h 1).2 c.first.length)]) 115 b c,dS ny 39 (ix.h 0).1 (ix.h 0).2 c.kinds,dS bT 3 (ix.h 1).1 (ix.h 1).2 c.first],fun sg=>[bx ny 39 ((sg 8).h 0).2 ([]),bx (rH bk [(1,aO (ix.h 0).1 (ix.h 0).2 c.kinds.length),(2,aO (ix.h 1).1 (ix.h 1).2 c.first.length)]) 115 b c,dS ny 39 (ix.h 0).1 (ix.h 0).2 c.kinds,dS bT 3 (ix.h 1).1 (ix.h 1).2 c.first]] J mixed J J J J J
  ⟨⟨[⟨0,fun _=>tV (aP b 0),none⟩],_,0,1,J,⟨(fun _=>J),aS⟩,J,J,J,J,J,fun _ sg _ _=>ay J (dv J)⟩,
  ⟨⟨[⟨9,fun _=>tV (aP b 0),some 0⟩],_,0,1,J,⟨(fun _=>J),aS⟩,J,J,J,J,J,fun _ sg _ _=>ay J (dD (ht J))⟩,
  ⟨⟨[⟨10,fun _=>tV (aP b 0),some 1⟩],_,0,1,J,⟨(fun _=>J),aS⟩,J,J,J,J,J,fun _ sg _ _=>ay J (kp 1 nw J J J)⟩,
  ⟨⟨[⟨11,fun _=>tV (aP b 1),some 2⟩],_,0,1,J,⟨(fun _=>J),aS⟩,J,J,J,J,J,FM (fun sg=>ay J (dh sK J (.head _) (.tail _ (.head _)) (ht J))) (zp (fun sg=>ay J (dh sK J (.tail _ (.head _)) (.tail _ (.tail _ (.head _))) (ht J))))⟩,
  ⟨⟨[⟨3,fun _=>bM aI n,none⟩],_,0,1,J,⟨(fun _=>J),aS⟩,J,J,J,J,J,fun _ sg _ _=>ay J (de jP dR J J)⟩,
  ⟨⟨[⟨13,fun _=>bM bT n.A,some 4⟩],_,0,1,J,⟨(fun _=>J),aS⟩,J,J,J,J,J,fun _ sg _ _=>ay J (bC cu J J)⟩,
  ⟨⟨[⟨12,fun _=>tO wT (ix.h 0).1 (ix.h 0).2 c.kinds,some 3⟩,⟨14,fun _=>tD bT n.A,some 5⟩],_,0,1,J,⟨(fun _=>J),(fun _=>J),aS⟩,J,J,J,J,J,fun _ sg _ _=>ay J (bp vv d7 J (kT (ht J)) (ht J) q_e)⟩,
  ⟨⟨[⟨15,fun _=>bM wT e,some 6⟩],_,0,1,J,⟨(fun _=>J),aS⟩,J,J,J,J,J,fun _ sg _ _=>ay J (bC d7 J J)⟩,
  ⟨⟨[],_,J,aS,J,J,J,fun sg=>d8 J (ym (r:=wT) (x:=[]) d7 (fun _=>⟨none,0,J,dn _,lw _,.inl J⟩))⟩,
  aS⟩⟩⟩⟩⟩⟩⟩⟩⟩ (fun sg=>?_)
 refine(show RG _ _ _ _ [bx ny 39 ((sg 8).h 0).2 ([]),bx (rH bk [(1,aO (ix.h 0).1 (ix.h 0).2 c.kinds.length),(2,aO (ix.h 1).1 (ix.h 1).2 c.first.length)]) 115 b c,dS ny 39 (ix.h 0).1 (ix.h 0).2 c.kinds,dS bT 3 (ix.h 1).1 (ix.h 1).2 c.first] _ from ?_);refine ax d7 J an J (ht J) (ht J)<|aW 6 J<|au<|aw<|zo J ((show bQ _ _ _ _ ((dX aR Qu nq (fun(x:gE)=>(kq e) x)))from iB (cts:=[bM ny e]) (caps:=[.tmp 6]) aav ⟨(ht J),aS⟩ (fun x y h=>UB _ _ h)))<|bo J<|au<|aw<|zo J (de uc po J J)<|zo J (bC HF J J)<|zo J (iJ Dz J)<|zo J (nN (ht J) hI)<|aF J<|bB h fun t q_t h=>dK J J (fun hg=>de uc po J J)<|dK J J (fun hg=>bO HF J J (bP J hg))<|dK J J (fun hg=>dv J) ?_
 obtain⟨r,h1t,h0t⟩:=og q_t
 have q_rg:=fun hb=>(h1t hb).1
 refine dK J J (fun hg=>aE abt (Vi _ _ (q_rg hg)) ⟨(bP J hg),(bP J hg),aS⟩)<|dK J J (fun hg=>gg (bP J hg))<|zo J (ff (ht J) (fun hb=>(bP J hb)) (fun hb=>(h1t hb).2) h0t)<|aF J<|dK J J (fun hg=>de AY ub J J)<|dK J J (fun hg=>bO cu J J (bP J hg))<|dK J J (fun hg=>jg (bP J hg) hI)<|zo J (uK J J)<|aF J<|dK J J (fun hg=>de AY ub J J)<|dK J J (fun hg=>bO cu J J (bP J hg))<|dK J J (fun hg=>nN (bP J hg) hI)<|zo J (uK J J)<|bo J<|au<|ah ?_
 refine dc (ts:=[_,_,_,_,_,_,_,_,_,_,_,_,_,_,_,_,_,_,_]) mixed J J
  ⟨fb 6 J J J (bC d7 J J),
  ⟨fb 8 J J J (dv J),
  ⟨ca 40 1 J J J (dv J),
  ⟨sG 0 41 2 J J J J (fa J J J J (fun hg=>dv J)),
  ⟨lB 42 3 41 2 J J J J (fa J J J J (fun hg=>dD (bP J hg))),
  ⟨lB 43 4 41 2 J J J J (fa J J J J (fun hg=>oI (n:=1) nw J (bP J hg) J)),
  ⟨lB 44 5 41 2 J J J J (fa J J J J (fun hg=>dh sK J (.head _) (.tail _ (.head _)) (bP J hg))),
  ⟨lB 45 6 41 2 J J J J (fa J J J J (fun hg=>dQ vv (kT (bP J hg)))),
  ⟨sG 0 41 2 J J J J (fa J J J J (fun hg=>dv J)),
  ⟨lB 47 8 41 2 J J J J (fa J J J J (fun hg=>dD (bP J hg))),
  ⟨lB 48 9 41 2 J J J J (fa J J J J (fun hg=>oI (n:=0) Is J (bP J hg) J)),
  ⟨lB 49 10 41 2 J J J J (fa J J J J (fun hg=>oI (n:=0) qz J (bP J hg) J)),
  ⟨lB 50 11 41 2 J J J J (fa J J J J (fun hg=>ce (r:=rH bk [(1,aO (ix.h 0).1 (ix.h 0).2 c.kinds.length),(2,aO (ix.h 1).1 (ix.h 1).2 c.first.length)]) (x:=c) BB J J (T5 (ve vR kj)) (.head _) (bP J hg))),
  ⟨lB 51 12 41 2 J J J J (fa J J J J (fun hg=>dQ uF (bP J hg))),
  ⟨lB 52 13 41 2 J J J J (fa J J J J (fun hg=>jf (bP J hg) hI)),
  ⟨wj 46 7 53 14 41 2 J J J J J (fa J J J J (fun hg=>dw (bP J hg) (bP J hg))),
  ⟨d6 41 2 54 15 J J J J (uK J J),
  ⟨ca 39 0 J J J (uM J),
  ⟨ca 55 16 J J J (uM J),
  aS⟩⟩⟩⟩⟩⟩⟩⟩⟩⟩⟩⟩⟩⟩⟩⟩⟩⟩⟩ ?_
 refine av<|am<|aJ<|aJ<|aJ ?_;cases so h;exact d5 (ts:=[mh e,iz (((t&&(decide (vy≤n.Limit)))&&(decide (n.Limit≤(2147483647:Int))))&&((c.kinds.length:Int)==(IntKind.i64.wrap ((c.Logic.Nodes.length:Int)-(1:Int)))))]) (rvs:=[.tmp 4,.tmp 5]) J J ⟨aZ J,aZ J,aS⟩ oU J J

theorem U0(n:ak){R:Bool}(h:s0 n=some R):aV aR 210 [tD aI n] (iz R):=by
 refine aV.of Tryz.func210 J J J fun w0 S0=>aw<|zo J (js J)<|zo J (jS)<|au<|aw<|zo J (de te ln J J)<|zo J (bC cu J J)<|zo J (nr J)<|aF J<|dK J J (fun hg=>de uC nT J J)<|dK J J (fun hg=>bO d7 J J (bP J hg))<|dK J J (fun hg=>dQ gF (bP J hg))<|dK J J (fun hg=>dw (bP J hg) hI)<|zo J (uK J J)<|aF J<|dK J J (fun hg=>de MG EY J J)<|dK J J (fun hg=>bO Jq J J (bP J hg))<|dK J J (fun hg=>gg (bP J hg))<|zo J (uK J J)<|aF J ?_;refine dK J J (fun hg=>de uB nS J J)<|dK J J (fun hg=>rW pW J lO J (bP J hg))<|dK J J (fun hg=>bO Aq J J (bP J hg))<|dK J J (fun hg=>dQ wy (bP J hg))<|dK J J (fun hg=>dw (bP J hg) hI)<|zo J (uK J J)<|aF J<|dK J J (fun hg=>de td mD J J)<|dK J J (fun hg=>bO d7 J J (bP J hg))<|dK J J (fun hg=>dQ gF (bP J hg))<|dK J J (fun hg=>dw (bP J hg) hI)<|zo J (uK J J)<|aF J<|dK J J (fun hg=>de qy nR J J)<|dK J J (fun hg=>bO BA J J (bP J hg))<|dK J J (fun hg=>dQ wx (bP J hg))<|dK J J (fun hg=>dw (bP J hg) hI)<|zo J (uK J J)<|aF J<|dK J J (fun hg=>de qx mC J J)<|dK J J (fun hg=>bO Ap J J (bP J hg))<|dK J J (fun hg=>dQ wJ (bP J hg))<|dK J J (fun hg=>dw (bP J hg) hI)<|zo J (uK J J) ?_;refine aF J<|dK J J (fun hg=>de uc po J J)<|dK J J (fun hg=>bO HF J J (bP J hg))<|dK J J (fun hg=>dQ Dz (bP J hg))<|dK J J (fun hg=>dw (bP J hg) hI)<|zo J (uK J J)<|aF J<|dK J J (fun hg=>de AY ub J J)<|dK J J (fun hg=>bO cu J J (bP J hg))<|dK J J (fun hg=>dw (bP J hg) hI)<|zo J (uK J J)<|bo J<|au<|am ?_;cases so h;exact aL J J

theorem UZ(n:ak){R:ak}(h:s4 n=some R):aV aR 211 [tD aI n] (tD aI R):=by
 refine aV.of Tryz.func211 J J J fun w0 S0=>aw<|yx (ht J) J fun b=>aY (r:=aI) (x:=Hu) gG (fun _=>nC _) J fun b1=>au<|ah<|aw<|zo J (kp 0 xx J J J)<|zo J (ce cu J J nU (.tail _ (.head _)) (ht J))<|au<|aA<|aw<|zo J (nr J)<|bo J<|au<|dd h J (fun h=>?_) (fun h=>?_)
 ·refine aq<|zo J (kp 3 te J J J)<|bH<|ax cu J LT J (ht J) hI<|zo J (kp 4 uC J J J)<|ax d7 J zy J (ht J) jO<|aQ<|ap<|av<|aw<|zo rfl (ce gG rfl rfl bR (.head _) (ht rfl))<|bH<|ax gG rfl an rfl (ht rfl) (ht rfl)<|aW 2 rfl<|au<|am<|be ?_;cases so h;exact iI J gG J J J
 ·refine aw<|zo J (nr J)<|bo J<|au<|dd h J (fun h=>?_) (fun h=>?_)
  ·refine aq<|zo J (cn (y:=Bx) kG XM rG (J))<|zo J (kp 5 MG J J J)<|bH<|ax Jq J LS J (ht J) hB<|zo J (kp 6 uB J J J)<|ax kG J zx J (ht J) (ht J)<|aQ<|ap<|av<|aw<|zo rfl (ce gG rfl rfl bR (.head _) (ht rfl))<|bH<|ax gG rfl an rfl (ht rfl) (ht rfl)<|aW 2 rfl<|au<|am<|be ?_;cases so h;exact iI J gG J J J
  ·refine aw<|zo J (nr J)<|bo J<|au<|dd h J (fun h=>?_) (fun h=>?_)
   ·refine aq<|zo J (cn (y:=Bx) kG XM rG (J))<|zo J (kp 6 uB J J J)<|bH<|ax kG J zx J (ht J) (ht J)<|aQ<|ap<|av<|aw<|zo rfl (ce gG rfl rfl bR (.head _) (ht rfl))<|bH<|ax gG rfl an rfl (ht rfl) (ht rfl)<|aW 2 rfl<|au<|am<|be ?_;cases so h;exact iI J gG J J J
   ·refine aw<|zo J (nr J)<|bo J<|au<|dd h J (fun h=>?_) (fun h=>?_)
    ·refine aq<|zo J (kp 7 td J J J)<|bH<|ax d7 J D7 J (ht J) jO<|zo J (kp 8 qy J J J)<|ax BA J D6 J (ht J) jO<|aQ<|ap<|av<|aw<|zo rfl (ce gG rfl rfl bR (.head _) (ht rfl))<|bH<|ax gG rfl an rfl (ht rfl) (ht rfl)<|aW 2 rfl<|au<|am<|be ?_;cases so h;exact iI J gG J J J
    ·refine aw<|zo J (nr J)<|bo J<|au<|dd h J (fun h=>?_) (fun h=>?_)
     ·refine aq<|zo J (kp 9 qx J J J)<|bH<|ax Ap J LR J (ht J) jO<|aQ<|ap<|av<|aw<|zo rfl (ce gG rfl rfl bR (.head _) (ht rfl))<|bH<|ax gG rfl an rfl (ht rfl) (ht rfl)<|aW 2 rfl<|au<|am<|be ?_;cases so h;exact iI J gG J J J
     ·refine aw<|zo J (nr J)<|bo J<|au<|dd h J (fun h=>?_) (fun h=>?_)
      ·refine aq<|zo J (kp 10 uc J J J)<|bH<|ax HF J Cy J (ht J) jO<|zo J (kp 11 AY J J J)<|ax cu J JB J (ht J) hI<|aQ<|ap<|av<|aw<|zo rfl (ce gG rfl rfl bR (.head _) (ht rfl))<|bH<|ax gG rfl an rfl (ht rfl) (ht rfl)<|aW 2 rfl<|au<|am<|be ?_;cases so h;exact iI J gG J J J
      ·refine bA<|ap<|av<|aw<|zo rfl (ce gG rfl rfl bR (.tail _ (.head _)) (ht rfl))<|ax gG rfl an rfl (ht rfl) (ht rfl)<|aW 2 rfl<|au<|am<|be ?_;cases so h;exact iI J gG J J J

theorem UA(op:Int){R:Int}(h:tY op=some R):aV aR 287 [bI op] (bI R):=by
 refine aV.of Tryz.func287 J J J fun w0 S0=>aw<|zo J (cF)<|au<|ah<|aw<|aF J<|au<|aA<|aw<|zo J (nr J)<|bo J<|au<|dd h J (fun h=>?_) (fun h=>?_)
 ·refine aw<|zo J (cF)<|au<|am ?_;refine aD (ae ?_);cases so h;exact aL J J
 ·refine j7 (Z:=fun x=>pQ x=some R) (Of:=fun x=>[]) (Gf:=fun x=>[(6,iz x)]) (fun x h=>?_) (fun K=>?_)
  ·skip
   refine dd h J (fun h=>?_) (fun h=>?_)
   ·refine aw<|zo J (cF)<|au<|am ?_;refine aD (ae ?_);cases so h;exact aL J J
   ·refine bA<|ap<|av<|aw<|zo rfl (cF)<|au<|am ?_;cases so h;exact aL J J
  ·skip
   refine aw<|zo J (nr J)<|bo J<|au<|dd h J (fun h=>?_) (fun h=>?_)
   ·refine bA ?_;exact cC (K (op==(2:Int)) h) (bt J)
   ·refine aq<|zo J (nr J)<|bo J<|aQ ?_;exact cC (K (op==(7:Int)) h) (bt J)

theorem Ya(b:Nat)(ix:OI)(c:aC)(i:Int){R:Int×Bool}(h:jE c i=some R):c0 aR 212 [tV (aP b 0),bI i] (dC b c ix) (fun _:OI=>tT [bI R.1,iz R.2]) (fun _=>(dC b c ix)):=by
 refine c0.of Tryz.func212 J J J fun w0 S0=>?_;refine(show CG _ _ _ [bx (rH bk [(1,aO (ix.h 0).1 (ix.h 0).2 c.kinds.length),(2,aO (ix.h 1).1 (ix.h 1).2 c.first.length)]) 115 b c,dS ny 39 (ix.h 0).1 (ix.h 0).2 c.kinds,dS bT 3 (ix.h 1).1 (ix.h 1).2 c.first] _ from ?_);refine aw<|zo J (cF)<|zo J (jS)<|au<|aw<|aF J<|zo J (dD (ht J))<|zo J (kp 0 Is J J J)<|zo J (kp 0 qz J J J)<|zo J (ce (r:=rH bk [(1,aO (ix.h 0).1 (ix.h 0).2 c.kinds.length),(2,aO (ix.h 1).1 (ix.h 1).2 c.first.length)]) (x:=c) BB J J (T5 (ve vR kj)) (.head _) (ht J))<|aF J<|bB h fun e q_e h=>zo J (ml uF gG J J J q_e)<|zo J (bC gG J J)<|aY (r:=aI) (x:=Hu) gG (fun _=>nC _) J fun b1=>ax gG J an J (ht J) (ht J)<|aW 6 J<|au<|ah<|ah ?_;refine aq<|zo J (de xx nU J J)<|zo J (bC cu J J)<|bB h fun r q_r h=>zo J (aE aau (UA _ q_r) ⟨(ht J),aS⟩)<|au<|aA<|aw<|zo J (nr J)<|bo J<|au<|dd h J (fun h=>?_) (fun h=>?_)
 ·refine ah ?_
  refine dc (ts:=[_,_,_,_,_,_,_,_,_,_,_]) mixed J J
   ⟨fb 1 J J J (dv J),
   ⟨fb 6 J J J (de jP dR J J),
   ⟨ca 21 1 J J J (bC cu J J),
   ⟨ca 22 2 J J J (nr J),
   ⟨ca 23 3 J J J (dv J),
   ⟨sG 6 24 4 J J J J (fa J J J J (fun hg=>de rt km J J)),
   ⟨lB 25 5 24 4 J J J J (fa J J J J (fun hg=>bO cu J J (bP J hg))),
   ⟨lB 26 6 24 4 J J J J (fa J J J J (fun hg=>dw (bP J hg) hI)),
   ⟨d6 24 4 27 7 J J J J (uK J J),
   ⟨ca 20 0 J J J (uM J),
   ⟨ca 28 8 J J J (uM J),
   aS⟩⟩⟩⟩⟩⟩⟩⟩⟩⟩⟩ ?_
  refine av<|am ?_;refine aD (ae ?_);refine aJ<|aJ<|aJ ?_;cases so h;exact d5 (ts:=[bI i,iz ((e.A==vy)&&(e.B==vy))]) (rvs:=[.tmp 4,.tmp 5]) J J ⟨aZ J,aZ J,aS⟩ oU J J
 ·refine aw<|zo J (nr J)<|bo J<|au<|dd h J (fun h=>?_) (fun h=>?_)
  ·refine ah<|aw<|zo J (de jP dR J J)<|zo J (bC cu J J)<|aF J<|zo J (jf (ht J) hI)<|zo J (fM (ht J) (ht J))<|aF J<|gY J J (fun hg=>de rt km J J)<|gY J J (fun hg=>bO cu J J (bP J hg))<|gY J J (fun hg=>fM (bP J hg) hI)<|zo J (yE J J)<|aF J<|gY J J (fun hg=>dv J)<|gY J J (fun hg=>dw (bP J hg) hI)<|zo J (yE J J)<|au<|dd h J (fun h=>?_) (fun h=>?_)
   ·refine aw<|zo J (cF)<|zo J (jS)<|au<|am ?_;refine ae (aD (ae ?_));refine aJ<|aJ<|aJ ?_;cases so h;exact d5 (ts:=[bI 0,iz false]) (rvs:=[.tmp 4,.tmp 5]) J J ⟨aZ J,aZ J,aS⟩ oU J J
   ·refine dU<|ah<|bB h fun e1 q_e1 h=>?_
    refine dc (ts:=[_,_,_,_,_,_,_,_,_,_]) mixed J J
     ⟨fb 0 J J J (dv J),
     ⟨ca 45 0 J J J (dD (ht J)),
     ⟨ca 46 1 J J J (kp 2 ud J J J),
     ⟨ca 47 2 J J J (dh d7 J (.head _) (.tail _ (.tail _ (.head _))) (ht J)),
     ⟨fb 6 J J J (de jP dR J J),
     ⟨ca 49 4 J J J (bC cu J J),
     ⟨d6 48 3 50 5 J J J J (bp gF cu J (kT (ht J)) (ht J) q_e1),
     ⟨ca 51 6 J J J (bC cu J J),
     ⟨ca 52 7 J J J (uM J),
     ⟨Pb J J (jS),
     aS⟩⟩⟩⟩⟩⟩⟩⟩⟩⟩ ?_
    refine av<|am ?_;refine aD (ae ?_);refine aJ<|aJ<|aJ ?_;cases so h;exact d5 (ts:=[bI e1,iz true]) (rvs:=[.tmp 4,.tmp 5]) J J ⟨aZ J,aZ J,aS⟩ oU J J
  ·refine bA<|ap<|av<|ah<|ah<|bB h fun t q_t h=>?_
   obtain⟨e2,h1t,h0t⟩:=og q_t
   have q_e2g:=fun hb=>(h1t hb).1
   refine dc (ts:=[_,_,_,_,_,_,_,_,_,_,_,_,_,_,_,_,_,_,_,_,_,_,_,_,_,_,_,_]) mixed J J
    ⟨fb 6 J J J (de rt km J J),
    ⟨ca 53 0 J J J (bC cu J J),
    ⟨fb 1 J J J (dv J),
    ⟨ca 55 2 J J J (jf (ht J) hI),
    ⟨d6 54 1 56 3 J J J J (fM (ht J) (ht J)),
    ⟨ca 57 4 J J J (dv J),
    ⟨sG 1 58 5 J J J J (kH J J J J (fun hg=>dv J)),
    ⟨lB 59 6 58 5 J J J J (kH J J J J (fun hg=>dw (bP J hg) hI)),
    ⟨d6 58 5 60 7 J J J J (yE J J),
    ⟨ca 61 8 J J J (dv J),
    ⟨sG 6 62 9 J J J J (kH J J J J (fun hg=>de jP dR J J)),
    ⟨lB 63 10 62 9 J J J J (kH J J J J (fun hg=>bO cu J J (bP J hg))),
    ⟨sG 0 62 9 J J J J (kH J J J J (fun hg=>dv J)),
    ⟨lB 65 12 62 9 J J J J (kH J J J J (fun hg=>dD (bP J hg))),
    ⟨lB 66 13 62 9 J J J J (kH J J J J (fun hg=>oI (n:=2) ud J (bP J hg) J)),
    ⟨lB 67 14 62 9 J J J J (kH J J J J (fun hg=>dh d7 J (.head _) (.tail _ (.tail _ (.head _))) (bP J hg))),
    ⟨sG 6 62 9 J J J J (kH J J J J (fun hg=>de rt km J J)),
    ⟨lB 69 16 62 9 J J J J (kH J J J J (fun hg=>bO cu J J (bP J hg))),
    ⟨wj 68 15 70 17 62 9 J J J J J (kH J J J J (fun hg=>bp gF cu J (kT (bP J hg)) (bP J hg) (q_e2g hg))),
    ⟨lB 71 18 62 9 J J J J (kH J J J J (fun hg=>bO cu J J (bP J hg))),
    ⟨lB 72 19 62 9 J J J J (kH J J J J (fun hg=>jf (bP J hg) hI)),
    ⟨wj 64 11 73 20 62 9 J J J J J (kH J J J J (fun hg=>fM (bP J hg) (bP J hg))),
    ⟨d6 62 9 74 21 J J J J (lk (ht J) (fun hb=>(bP J (AL hb))) (fun hb=>(h1t hb).2) h0t),
    ⟨ca 75 22 J J J (dv J),
    ⟨sG 6 76 23 J J J J (kH J J J J (fun hg=>de jP dR J J)),
    ⟨lB 77 24 76 23 J J J J (kH J J J J (fun hg=>bO cu J J (bP J hg))),
    ⟨lB 78 25 76 23 J J J J (kH J J J J (fun hg=>gD (bP J hg) hI)),
    ⟨d6 76 23 79 26 J J J J (yE J J),
    aS⟩⟩⟩⟩⟩⟩⟩⟩⟩⟩⟩⟩⟩⟩⟩⟩⟩⟩⟩⟩⟩⟩⟩⟩⟩⟩⟩⟩ ?_
   refine av<|dd h rfl (fun h=>?_) (fun h=>?_)
   ·refine aw<|zo J (cF)<|zo J (jS)<|au<|am<|ae<|aJ<|aJ<|aJ ?_;cases so h;exact d5 (ts:=[bI 0,iz false]) (rvs:=[.tmp 4,.tmp 5]) J J ⟨aZ J,aZ J,aS⟩ oU J J
   ·refine dU<|ah<|bB h fun e3 q_e3 h=>?_
    refine dc (ts:=[_,_,_,_,_,_,_,_,_,_]) mixed J J
     ⟨fb 0 J J J (dv J),
     ⟨ca 81 0 J J J (dD (ht J)),
     ⟨ca 82 1 J J J (kp 2 ud J J J),
     ⟨ca 83 2 J J J (dh d7 J (.head _) (.tail _ (.tail _ (.head _))) (ht J)),
     ⟨fb 6 J J J (de jP dR J J),
     ⟨ca 85 4 J J J (bC cu J J),
     ⟨d6 84 3 86 5 J J J J (bp gF cu J (kT (ht J)) (ht J) q_e3),
     ⟨ca 87 6 J J J (bC cu J J),
     ⟨ca 88 7 J J J (uM J),
     ⟨Pb J J (jS),
     aS⟩⟩⟩⟩⟩⟩⟩⟩⟩⟩ ?_
    refine av<|am<|aJ<|aJ<|aJ ?_;cases so h;exact d5 (ts:=[bI e3,iz true]) (rvs:=[.tmp 4,.tmp 5]) J J ⟨aZ J,aZ J,aS⟩ oU J J

theorem RR(b:Nat)(ix:OI)(c:aC):Bo aR 201 (fun(x:Int×Bool)=>[bI x.1,iz x.2]) (fun _=>ly c) (dC b) (dC b c ix) [bM (rT (tV (aP b 0))) ()]:=by
 refine Bo.of Tryz.func201 J J J fun Sg yld s R h I yv hy e he w0 S0 B hB=>?_
 replace h:ly c yld s=some R:=h
 refine(show CG _ _ _ [e,bx (rH bk [(1,aO (ix.h 0).1 (ix.h 0).2 c.kinds.length),(2,aO (ix.h 1).1 (ix.h 1).2 c.first.length)]) 115 b c,dS ny 39 (ix.h 0).1 (ix.h 0).2 c.kinds,dS bT 3 (ix.h 1).1 (ix.h 1).2 c.first] _ from ?_);refine aw<|wc (uz (fun y:(aC→ak→Option (((List Int)×Bool)×aC))=>dM aR pc (dC b) oE y)) kP J fun b1=>zo J (kY kF (ht J)) ?_
 refine p6 ((show bQ _ _ _ _ (dM aR pc (dC b) oE Xd)from jD aa4 (ht J) (fun c x R h i=>by
   obtain⟨r,h1,rfl⟩:=vw.1 h
   exact iw (Ob:=fun j=>dC b c j) (i:=i) (Yi _ i c _ h1)))) J ?_
 refine eC (γ:=(fun y:(aC→ak→Option (((List Int)×Bool)×aC))=>dM aR pc (dC b) oE y)) (y:=Xd) Ak (dT kC) (ht J) (nt hI) (ht J) fun os=>zo J (kY kF (ht J)) ?_
 refine p6 ((show bQ _ _ _ _ (dM aR pc (dC b) oE Xc)from jD aa3 (ht J) (fun c x R h i=>by
   obtain⟨r,h1,rfl⟩:=vw.1 h
   exact iw (Ob:=fun j=>dC b c j) (i:=i) (Yh _ i c _ h1)))) J ?_
 refine eC (γ:=(fun y:(aC→ak→Option (((List Int)×Bool)×aC))=>dM aR pc (dC b) oE y)) (y:=Xc) Ak (dT kC) (ht J) (nt hI) (ht J) fun os1=>zo J (kY kF (ht J)) ?_
 refine p6 ((show bQ _ _ _ _ (dM aR pc (dC b) oE Xh)from jD aa2 (ht J) (fun c x R h i=>by
   obtain⟨r,h1,rfl⟩:=vw.1 h
   exact iw (Ob:=fun j=>dC b c j) (i:=i) (Yg _ i c _ h1)))) J ?_
 refine eC (γ:=(fun y:(aC→ak→Option (((List Int)×Bool)×aC))=>dM aR pc (dC b) oE y)) (y:=Xh) Ak (dT kC) (ht J) (nt hI) (ht J) fun os2=>zo J (kY kF (ht J)) ?_
 refine p6 ((show bQ _ _ _ _ (dM aR pc (dC b) oE Xe)from jD aa1 (ht J) (fun c x R h i=>by
   obtain⟨r,h1,rfl⟩:=vw.1 h
   exact iw (Ob:=fun j=>dC b c j) (i:=i) (Yf _ i c _ h1)))) J ?_
 refine eC (γ:=(fun y:(aC→ak→Option (((List Int)×Bool)×aC))=>dM aR pc (dC b) oE y)) (y:=Xe) Ak (dT kC) (ht J) (nt hI) (ht J) fun os3=>zo J (kY kF (ht J)) ?_
 refine p6 ((show bQ _ _ _ _ (dM aR pc (dC b) oE Xi)from jD aa0 (ht J) (fun c x R h i=>by
   obtain⟨r,h1,rfl⟩:=vw.1 h
   exact iw (Ob:=fun j=>dC b c j) (i:=i) (Ye _ i c _ h1)))) J ?_
 refine eC (γ:=(fun y:(aC→ak→Option (((List Int)×Bool)×aC))=>dM aR pc (dC b) oE y)) (y:=Xi) Ak (dT kC) (ht J) (nt hI) (ht J) fun os4=>zo J (kY kF (ht J)) ?_
 refine p6 ((show bQ _ _ _ _ (dM aR pc (dC b) oE Xj)from jD aaZ (ht J) (fun c x R h i=>by
   obtain⟨r,h1,rfl⟩:=vw.1 h
   exact iw (Ob:=fun j=>dC b c j) (i:=i) (Yd _ i c _ h1)))) J ?_
 refine eC (γ:=(fun y:(aC→ak→Option (((List Int)×Bool)×aC))=>dM aR pc (dC b) oE y)) (y:=Xj) Ak (dT kC) (ht J) (nt hI) (ht J) fun os5=>zo J (kY kF (ht J)) ?_
 refine p6 ((show bQ _ _ _ _ (dM aR pc (dC b) oE Xg)from jD aaY (ht J) (fun c x R h i=>by
   obtain⟨r,h1,rfl⟩:=vw.1 h
   exact iw (Ob:=fun j=>dC b c j) (i:=i) (Yc _ i c _ h1)))) J ?_
 refine eC (γ:=(fun y:(aC→ak→Option (((List Int)×Bool)×aC))=>dM aR pc (dC b) oE y)) (y:=Xg) Ak (dT kC) (ht J) (nt hI) (ht J) fun os6=>zo J (kY kF (ht J)) ?_
 refine p6 ((show bQ _ _ _ _ (dM aR pc (dC b) oE Xf)from jD aaX (ht J) (fun c x R h i=>by
   obtain⟨r,h1,rfl⟩:=vw.1 h
   exact iw (Ob:=fun j=>dC b c j) (i:=i) (Yb _ i c _ h1)))) J ?_
 refine eC (γ:=(fun y:(aC→ak→Option (((List Int)×Bool)×aC))=>dM aR pc (dC b) oE y)) (y:=Xf) Ak (dT kC) (ht J) (nt hI) (ht J) fun os7=>aF J<|bo J<|au<|aw<|zo J (kY kF (ht J))<|zo J (dD (ht J))<|zo J (kp 0 Is J J J)<|zo J (kp 0 qz J J J)<|zo J (ce (r:=rH bk [(1,aO (ix.h 0).1 (ix.h 0).2 c.kinds.length),(2,aO (ix.h 1).1 (ix.h 1).2 c.first.length)]) (x:=c) BB J J (T5 (ve vR kj)) (.tail _ (.tail _ (.head _))) (ht J))<|zo J (iJ uF J)<|zo J (bG hI)<|au<|aA<|bc (k:=33) J fun hN=>bJ<|kO<|kO<|kO<|pt<|kO ?_;refine aT (Lk (Z:=fun ls i e1 s1 ob l c1 l1 c2=>(c.Logic.Nodes.drop i=ls)∧I s1 e1∧bD yld ls i s1 ob=some R) (Of:=fun _ i e1 s1 ob l c1 l1 c2=>[e1,ki (uz (fun y:(aC→ak→Option (((List Int)×Bool)×aC))=>dM aR pc (dC b) oE y)) kP b1 none os7 LB,bx (rH bk [(1,aO l c1 ob.kinds.length),(2,aO l1 c2 ob.first.length)]) 115 b ob,dS ny 39 l c1 ob.kinds,dS bT 3 l1 c2 ob.first]) (Gf:=fun _ i e1 s1 ob l c1 l1 c2=>[(0,tV yv),(1,bM (rT (tV (aP b 0))) ()),(3,tV (oA b1)),(33,bZ (aI) c.Logic.Nodes),(34,jr c.Logic.Nodes),(35,bI (i:Int))]) (fun i e1 s1 ob l c1 l1 c2 h=>?_) (fun e2 tl ih i e1 s1 ob l c1 l1 c2 h=>?_) c.Logic.Nodes 0 e s c (ix.h 0).1 (ix.h 0).2 (ix.h 1).1 (ix.h 1).2 ⟨J,⟨he,h⟩⟩) (bt J)
 ·obtain⟨hx,h⟩:=h
  obtain⟨he1,h⟩:=h
  refine aB<|aw<|zo J (fL J J)<|au<|ah<|bz (ht J) (du hx)<|bu ?_;refine ai (ai (aN ?_));refine bv<|be<|cP<|cP<|cP<|cP ?_;cases so h;exact Qp J he1 (V6 [(l,c1),(l1,c2)]) J
 ·obtain⟨hx,h⟩:=h
  obtain⟨he1,h⟩:=h
  refine aB<|aw<|zo J (fL J J)<|au<|ah<|bw (ht J) (dl hx)<|dU<|ah<|aA<|aw<|aF J<|zo J (ml uF gG J J J (cX hx))<|zo J (bC gG J J)<|aY (r:=aI) (x:=Hu) gG (fun _=>nC _) J fun b2=>bo J<|ax gG J an J (ht J) (ht J)<|aW 5 J<|au<|ah ?_;refine aq<|aF J<|zo J (de xx nU J J)<|zo J (bC cu J J)<|zo J (Kg (γ:=(fun y:(aC→ak→Option (((List Int)×Bool)×aC))=>dM aR pc (dC b) (fun(x:(List Int)×Bool)=>tT [tD wT x.1,tD rB x.2]) y)) (z:=fun _ _=>none) Ak (dT kC) YQ (fun _=>Gs) (.tail _ (.head _)) (ht J) (nt (ht J)))<|aF J<|zo J (gV J J)<|zo J (gV J J)<|bo J<|bo J<|au<|aw<|aF J<|aF J<|bB h fun t q_t h=>dK J J (fun hg=>bC gG J J) ?_
  obtain⟨r,h1t,h0t⟩:=og q_t
  have q_rg:=fun hb=>(h1t hb).1
  refine dK J J (fun hg=>aE aaV (UZ _ (q_rg hg)) ⟨(bP J hg),aS⟩) ?_
  obtain⟨r1,h1t⟩:=XA (fun hb=>(h1t hb).2)
  have q_r1g:=fun hb=>(h1t hb).1
  refine dK J J (fun hg=>aE aaW (U0 _ (q_r1g hg)) ⟨(bP J hg),aS⟩)<|zo J (ff (ht J) (fun hb=>(bP J hb)) (fun hb=>(h1t hb).2) h0t)<|bo J<|au ?_;refine Qk (Z:=fun ok ob1 l2 c3 l3 c4=>d4 yld (bD yld tl) i e2 s1 ok ob1=some R) (Of:=fun ok ob1 l2 c3 l3 c4=>[e1,ki (uz (fun y:(aC→ak→Option (((List Int)×Bool)×aC))=>dM aR pc (dC b) oE y)) kP b1 none os7 LB,bx (rH bk [(1,aO l2 c3 ob1.kinds.length),(2,aO l3 c4 ob1.first.length)]) 115 b ob1,dS ny 39 l2 c3 ob1.kinds,dS bT 3 l3 c4 ob1.first]) (Gf:=fun ok ob1 l2 c3 l3 c4=>[(0,tV yv),(1,bM (rT (tV (aP b 0))) ()),(3,tV (oA b1)),(4,bI (i:Int)),(5,bM aI e2),(6,dM aR pc (dC b) oE ((kD LB e2.Op).getD (fun _ _=>none))),(8,iz ok),(33,bZ (aI) c.Logic.Nodes),(34,jr c.Logic.Nodes),(35,bI (i:Int))]) (fun ok ob1 l2 c3 l3 c4 h=>?_) (fun K=>?_)
  ·skip
   refine aw<|zo J (aK (show aH _ _ _ wU from jO))<|au ?_;refine Qj (Z:=fun ok1 kinds ob2 l4 c5 l5 c6=>gi yld (bD yld tl) i s1 ok1 kinds ob2=some R) (Of:=fun ok1 kinds ob2 l4 c5 l5 c6=>[e1,ki (uz (fun y:(aC→ak→Option (((List Int)×Bool)×aC))=>dM aR pc (dC b) oE y)) kP b1 none os7 LB,bx (rH bk [(1,aO l4 c5 ob2.kinds.length),(2,aO l5 c6 ob2.first.length)]) 115 b ob2,dS ny 39 l4 c5 ob2.kinds,dS bT 3 l5 c6 ob2.first]) (Gf:=fun ok1 kinds ob2 l4 c5 l5 c6=>[(0,tV yv),(1,bM (rT (tV (aP b 0))) ()),(3,tV (oA b1)),(4,bI (i:Int)),(8,iz ok1),(10,mh kinds),(33,bZ (aI) c.Logic.Nodes),(34,jr c.Logic.Nodes),(35,bI (i:Int))]) (fun ok1 kinds ob2 l4 c5 l5 c6 h=>?_) (fun K1=>?_)
   ·skip
    refine aw<|aF J<|aF J<|dK J J (fun hg=>dv J)<|dK J J (fun hg=>dQ gF (bP J hg))<|dK J J (fun hg=>nN (bP J hg) hI)<|zo J (uK J J)<|bo J<|au<|ah<|bB h fun l6 q_l6 h=>?_
    refine oc 8 [tc (tV (aP b 0)),tc (tV (aP b 0)),tc (tV (aP b 0)),tc (tV (aP b 1)),tc (tO ny l4 c5 ob2.kinds),tc (mh kinds),tc (bZ (ny) ([kinds])),([7],fun s=>tO ny ((s.getD 0 oU).h 0).1 ((s.getD 0 oU).h 0).2 l6)] [false,false,false,false,false,false,false,true] [fun _=>[e1,ki (uz (fun y:(aC→ak→Option (((List Int)×Bool)×aC))=>dM aR pc (dC b) oE y)) kP b1 none os7 LB,bx (rH bk [(1,aO l4 c5 ob2.kinds.length),(2,aO l5 c6 ob2.first.length)]) 115 b ob2,dS ny 39 l4 c5 ob2.kinds,dS bT 3 l5 c6 ob2.first],fun sg=>[dS ny 39 ((sg 7).h 0).1 ((sg 7).h 0).2 l6,e1,ki (uz (fun y:(aC→ak→Option (((List Int)×Bool)×aC))=>dM aR pc (dC b) oE y)) kP b1 none os7 LB,bx (rH bk [(1,aO l4 c5 ob2.kinds.length),(2,aO l5 c6 ob2.first.length)]) 115 b ob2,dS bT 3 l5 c6 ob2.first]] J mixed J J J J J
     ⟨⟨[⟨1,fun _=>bM (rT (tV (aP b 0))) (),none⟩],_,0,1,J,⟨(fun _=>J),aS⟩,J,J,J,J,J,fun _ sg _ _=>ay J (kY kF (ht J))⟩,
     ⟨⟨[⟨1,fun _=>bM (rT (tV (aP b 0))) (),none⟩],_,0,0,J,⟨(fun _=>J),aS⟩,J,J,J,J,J,fun _ sg _ _=>ay J (kY kF (ht J))⟩,
     ⟨⟨[⟨84,fun _=>tV (aP b 0),some 1⟩],_,0,0,J,⟨(fun _=>J),aS⟩,J,J,J,J,J,fun _ sg _ _=>ay J (dD (ht J))⟩,
     ⟨⟨[⟨85,fun _=>tV (aP b 0),some 2⟩],_,0,0,J,⟨(fun _=>J),aS⟩,J,J,J,J,J,fun _ sg _ _=>ay J (kp 1 nw J J J)⟩,
     ⟨⟨[⟨86,fun _=>tV (aP b 1),some 3⟩],_,0,0,J,⟨(fun _=>J),aS⟩,J,J,J,J,J,zp (fun sg=>ay J (dh sK J (.tail _ (.tail _ (.head _))) (.tail _ (.tail _ (.tail _ (.head _)))) (ht J)))⟩,
     ⟨⟨[⟨10,fun _=>tD wT kinds,none⟩],_,0,0,J,⟨(fun _=>J),aS⟩,J,J,J,J,J,fun _ sg _ _=>ay J (dv J)⟩,
     ⟨⟨[⟨88,fun _=>tD wT kinds,some 5⟩],_,0,0,J,⟨(fun _=>J),aS⟩,J,J,J,J,J,fun _ sg _ _=>ay J (aU (r:=wT) (ys:=[kinds]) (xs:=[.tmp 88]) vv d7 J J J J J ⟨(ht J),aS⟩)⟩,
     ⟨⟨[⟨87,fun _=>tO wT l4 c5 ob2.kinds,some 4⟩,⟨89,fun _=>tD (fH wT) ([kinds]),some 6⟩],_,J,⟨(fun _=>J),(fun _=>J),aS⟩,J,J,J,fun sg=>d8 J (EffOK.fr3 (uf d7 J J J J vv J (ht J) (ht J) q_l6))⟩,
     aS⟩⟩⟩⟩⟩⟩⟩⟩ (fun sg=>?_)
    refine(show RG _ _ _ _ [dS ny 39 ((sg 7).h 0).1 ((sg 7).h 0).2 l6,e1,ki (uz (fun y:(aC→ak→Option (((List Int)×Bool)×aC))=>dM aR pc (dC b) oE y)) kP b1 none os7 LB,bx (rH bk [(1,aO l4 c5 ob2.kinds.length),(2,aO l5 c6 ob2.first.length)]) 115 b ob2,dS bT 3 l5 c6 ob2.first] _ from ?_);refine zo J (dD (ht J))<|zo J (kp 1 nw J J J)<|wd (EffOK.fr3 (vU (hs' :=[(1,aO ((sg 7).h 0).1 ((sg 7).h 0).2 l6.length),(2,aO l5 c6 ob2.first.length)]) (u:=aO ((sg 7).h 0).1 ((sg 7).h 0).2 l6.length) sK J J HN J ⟨.inl ⟨J,J,J⟩,.inr ⟨J,J⟩,aS⟩ (ht J) (kT (ht J)) (HI (ht J)))) fun i1=>?_;refine(show RG _ _ _ _ [bx (rH bk [(1,aO ((sg 7).h 0).1 ((sg 7).h 0).2 l6.length),(2,aO l5 c6 ob2.first.length)]) 115 b ({ob2 with kinds:=l6}:aC),dS ny 39 ((sg 7).h 0).1 ((sg 7).h 0).2 l6,e1,ki (uz (fun y:(aC→ak→Option (((List Int)×Bool)×aC))=>dM aR pc (dC b) oE y)) kP b1 none os7 LB,dS bT 3 l5 c6 ob2.first] _ from ?_);refine au<|aw<|aF J<|aF J<|aF J<|fK<|bB h fun r2 q_r2 h=>Fn hy he1 q_r2 (ht J) ⟨(ht J),(ht J),aS⟩ J fun e3 he2=>zo J (gg (ht J))<|aF J<|gY J J (fun hg=>dv J)<|gY J J (fun hg=>gg (bP J hg))<|zo J (yE J J)<|au<|dd h J (fun h=>?_) (fun h=>?_)
    ·refine am ?_;refine aD (ae (ae (aD ?_)));refine cP<|be<|cP<|cP<|cP<|cP ?_;cases so h;exact Lv J he2 (V6 [(((sg 7).h 0).1,((sg 7).h 0).2),(l5,c6)]) J
    ·refine bA<|ap<|av<|aq<|zo rfl (lZ (cL hx hN) rfl)<|aF rfl<|aQ<|fe<|cP<|cP<|fe<|fe ?_;exact bg (aT (ih (i+1) e3 r2.2 ({ob2 with kinds:=l6}:aC) ((sg 7).h 0).1 ((sg 7).h 0).2 l5 c6 ⟨cK hx,⟨he2,h⟩⟩) (bt J))
   ·skip
    refine aw<|aF J<|au<|dd h J (fun h=>?_) (fun h=>?_)
    ·refine aq<|aF J<|zo J (bC gG J J)<|bB h fun r3 q_r3 h=>zS (EffOK.fr4 (EffOK.fr4 (EffOK.fr4 (A7 (args:=pc) (Ob:=dC b) (res:=oE) (f:=((kD LB e2.Op).getD (fun _ _=>none))) (x:=ob1) (y:=((e2):ak)) (R:=r3) (i:=(V6 [(l2,c3),(l3,c4)])) (xs:=[.tmp 73]) _ J (ht J) q_r3 ⟨(ht J),aS⟩ (fun _=>J))))) J fun i2=>?_;refine(show RG _ _ _ _ [bx (rH bk [(1,aO (i2.h 0).1 (i2.h 0).2 r3.2.kinds.length),(2,aO (i2.h 1).1 (i2.h 1).2 r3.2.first.length)]) 115 b r3.2,dS ny 39 (i2.h 0).1 (i2.h 0).2 r3.2.kinds,dS bT 3 (i2.h 1).1 (i2.h 1).2 r3.2.first,e1,ki (uz (fun y:(aC→ak→Option (((List Int)×Bool)×aC))=>dM aR pc (dC b) oE y)) kP b1 none os7 LB] ((74,tT [mh r3.1.1,iz r3.1.2])::_)from ?_);refine aF J<|zo J (gV J J)<|zo J (gV J J)<|bo J<|bo J<|aQ<|aJ<|aJ<|aJ<|fe<|fe ?_;exact cC (K1 r3.1.2 r3.1.1 r3.2 (i2.h 0).1 (i2.h 0).2 (i2.h 1).1 (i2.h 1).2 h) (bt J)
    ·refine bA ?_;exact cC (K1 ok ([]) ob1 l2 c3 l3 c4 h) (bt J)
  ·skip
   refine aw<|aF J<|au<|dd h J (fun h=>?_) (fun h=>?_)
   ·refine aw<|zo J (cF)<|au<|aw<|zo J (kY kF (ht J))<|aF J<|bB h fun r4 q_r4 h=>zS (EffOK.fr4 (EffOK.fr4 (EffOK.fr4 (PQ (xs:=[.tmp 55,.tmp 56]) (ts:=[tV (aP b 0),bI (i:Int)]) (dC b ob (V6 [(l,c1),(l1,c2)])) _ J aaU (Ya b (V6 [(l,c1),(l1,c2)]) ob _ q_r4) ⟨(ht J),(ht J),aS⟩ (fun _=>J))))) J fun i3=>?_;refine(show RG _ _ _ _ [bx (rH bk [(1,aO l c1 ob.kinds.length),(2,aO l1 c2 ob.first.length)]) 115 b ob,dS ny 39 l c1 ob.kinds,dS bT 3 l1 c2 ob.first,e1,ki (uz (fun y:(aC→ak→Option (((List Int)×Bool)×aC))=>dM aR pc (dC b) oE y)) kP b1 none os7 LB] ((57,tT [bI r4.1,iz r4.2])::_)from ?_);refine aF J<|zo J (gV J J)<|zo J (gV J J)<|bo J<|bo J<|au<|bB h fun l7 q_l7 h=>?_
    refine oc 8 [tc (tV (aP b 0)),tc (tV (aP b 0)),tc (tV (aP b 0)),tc (tV (aP b 2)),tc (tO bT l1 c2 ob.first),tc (bI r4.1),tc (mh ([r4.1])),([7],fun s=>tO bT ((s.getD 0 oU).h 0).1 ((s.getD 0 oU).h 0).2 l7)] [false,false,false,false,false,false,false,true] [fun _=>[bx (rH bk [(1,aO l c1 ob.kinds.length),(2,aO l1 c2 ob.first.length)]) 115 b ob,dS ny 39 l c1 ob.kinds,dS bT 3 l1 c2 ob.first,e1,ki (uz (fun y:(aC→ak→Option (((List Int)×Bool)×aC))=>dM aR pc (dC b) oE y)) kP b1 none os7 LB],fun sg1=>[dS bT 3 ((sg1 7).h 0).1 ((sg1 7).h 0).2 l7,bx (rH bk [(1,aO l c1 ob.kinds.length),(2,aO l1 c2 ob.first.length)]) 115 b ob,dS ny 39 l c1 ob.kinds,e1,ki (uz (fun y:(aC→ak→Option (((List Int)×Bool)×aC))=>dM aR pc (dC b) oE y)) kP b1 none os7 LB]] J mixed J J J J J
     ⟨⟨[⟨1,fun _=>bM (rT (tV (aP b 0))) (),none⟩],_,0,1,J,⟨(fun _=>J),aS⟩,J,J,J,J,J,fun _ sg1 _ _=>ay J (kY kF (ht J))⟩,
     ⟨⟨[⟨1,fun _=>bM (rT (tV (aP b 0))) (),none⟩],_,0,0,J,⟨(fun _=>J),aS⟩,J,J,J,J,J,fun _ sg1 _ _=>ay J (kY kF (ht J))⟩,
     ⟨⟨[⟨61,fun _=>tV (aP b 0),some 1⟩],_,0,0,J,⟨(fun _=>J),aS⟩,J,J,J,J,J,fun _ sg1 _ _=>ay J (dD (ht J))⟩,
     ⟨⟨[⟨62,fun _=>tV (aP b 0),some 2⟩],_,0,0,J,⟨(fun _=>J),aS⟩,J,J,J,J,J,fun _ sg1 _ _=>ay J (kp 2 ud J J J)⟩,
     ⟨⟨[⟨63,fun _=>tV (aP b 2),some 3⟩],_,0,0,J,⟨(fun _=>J),aS⟩,J,J,J,J,J,zp (fun sg1=>ay J (dh d7 J (.head _) (.tail _ (.tail _ (.head _))) (ht J)))⟩,
     ⟨⟨[⟨9,fun _=>tD bT r4.1,none⟩],_,0,0,J,⟨(fun _=>J),aS⟩,J,J,J,J,J,fun _ sg1 _ _=>ay J (dv J)⟩,
     ⟨⟨[⟨65,fun _=>tD bT r4.1,some 5⟩],_,0,0,J,⟨(fun _=>J),aS⟩,J,J,J,J,J,fun _ sg1 _ _=>ay J (aU (r:=bT) (ys:=[r4.1]) (xs:=[.tmp 65]) gF cu J J J J J ⟨(ht J),aS⟩)⟩,
     ⟨⟨[⟨64,fun _=>tO bT l1 c2 ob.first,some 4⟩,⟨66,fun _=>tD wT ([r4.1]),some 6⟩],_,J,⟨(fun _=>J),(fun _=>J),aS⟩,J,J,J,fun sg1=>d8 J (EffOK.fr2 (uf cu J J J J gF J (ht J) (ht J) q_l7))⟩,
     aS⟩⟩⟩⟩⟩⟩⟩⟩ (fun sg1=>?_)
    refine(show RG _ _ _ _ [dS bT 3 ((sg1 7).h 0).1 ((sg1 7).h 0).2 l7,bx (rH bk [(1,aO l c1 ob.kinds.length),(2,aO l1 c2 ob.first.length)]) 115 b ob,dS ny 39 l c1 ob.kinds,e1,ki (uz (fun y:(aC→ak→Option (((List Int)×Bool)×aC))=>dM aR pc (dC b) oE y)) kP b1 none os7 LB] _ from ?_);refine zo J (dD (ht J))<|zo J (kp 2 ud J J J)<|wd (EffOK.fr1 (vU (hs' :=[(1,aO l c1 ob.kinds.length),(2,aO ((sg1 7).h 0).1 ((sg1 7).h 0).2 l7.length)]) (u:=aO ((sg1 7).h 0).1 ((sg1 7).h 0).2 l7.length) d7 J J HM J ⟨.inr ⟨J,J⟩,.inl ⟨J,J,J⟩,aS⟩ (ht J) (kT (ht J)) (HI (ht J)))) fun i4=>?_;refine(show RG _ _ _ _ [bx (rH bk [(1,aO l c1 ob.kinds.length),(2,aO ((sg1 7).h 0).1 ((sg1 7).h 0).2 l7.length)]) 115 b ({ob with first:=l7}:aC),dS bT 3 ((sg1 7).h 0).1 ((sg1 7).h 0).2 l7,dS ny 39 l c1 ob.kinds,e1,ki (uz (fun y:(aC→ak→Option (((List Int)×Bool)×aC))=>dM aR pc (dC b) oE y)) kP b1 none os7 LB] _ from ?_);refine aQ<|bv<|aJ<|aJ<|fe<|fe ?_;exact cC (K r4.2 ({ob with first:=l7}:aC) l c1 ((sg1 7).h 0).1 ((sg1 7).h 0).2 h) (bt J)
   ·refine bA ?_;exact cC (K t ob l c1 l1 c2 h) (bt J)

end Go.Proofs.YtfhhakidodmdfaaGreatDoor

