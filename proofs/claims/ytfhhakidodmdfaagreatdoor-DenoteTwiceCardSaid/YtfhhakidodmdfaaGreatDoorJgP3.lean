/- cP of this claim: P3. -/
import Derived.Test.YtfhhakidodmdfaaGreatDoorJgT
import Derived.Test.YtfhhakidodmdfaaGreatDoorJgP2
set_option linter.all false
namespace Go.Proofs.YtfhhakidodmdfaaGreatDoor
open Go
set_option maxRecDepth 100000

theorem U0(in1:(List Int))(o:gG){R:Bool}(h:kK in1 o=some R):aX aQ 286 [tD gI o,bK nP in1] (iR R):=by
 refine aX.of Tryz.func286 J J J fun w0 S0=>aw<|zo J (jm J)<|zo J (jL)<|av<|aw<|zo J (df IN Bq J J)<|zo J (bB cx J J)<|zo J (gi (ht J) hI)<|aG J<|gz J J (fun hg=>df IN Bq J J)<|gz J J (fun hg=>bO cx J J (bN J hg))<|gz J J (fun hg=>bB d9 J J)<|gz J J (fun hg=>cW gT (bN J hg))<|gz J J (fun hg=>jq (bN J hg) (bN J hg))<|zo J (xo J J)<|bp J<|av<|am ?_;cases so h;exact aJ J J

theorem YH(b:Nat)(ix:OI)(c:aE)(n:aj){R:(List Int)×Bool}(h:gx c n=some R):cX aQ 209 [tV (aN b 0),tD aF n] (dw b c ix) (fun _:OI=>tT [mv R.1,iR R.2]) (fun _=>(dw b c ix)):=by
 refine cX.of Tryz.func209 J J J fun w0 S0=>?_;refine(show CG _ _ _ [bx (rH bn [(1,aR (ix.h 0).1 (ix.h 0).2 c.kinds.length),(2,aR (ix.h 1).1 (ix.h 1).2 c.first.length)]) 115 b c,dT nP 39 (ix.h 0).1 (ix.h 0).2 c.kinds,dT cd 3 (ix.h 1).1 (ix.h 1).2 c.first] _ from ?_);refine aw<|zo J (jm J)<|zo J (aM (show aI _ _ _ xq from jQ))<|zo J (jL)<|av<|ah<|bC h fun e q_e h=>?_
 refine o9 9 [tc (tV (aN b 0)),tc (tV (aN b 0)),tc (tV (aN b 1)),tc (tO nP (ix.h 0).1 (ix.h 0).2 c.kinds),tc (bK cd n.A),tc (bM n.A),tc (bK nP e),tc (mv e),([8],fun s=>tV (aN ((s.getD 0 pS).h 0).2 0))] [false,false,false,false,false,false,false,false,true] [fun _=>[bx (rH bn [(1,aR (ix.h 0).1 (ix.h 0).2 c.kinds.length),(2,aR (ix.h 1).1 (ix.h 1).2 c.first.length)]) 115 b c,dT nP 39 (ix.h 0).1 (ix.h 0).2 c.kinds,dT cd 3 (ix.h 1).1 (ix.h 1).2 c.first],fun sg=>[bx nP 39 ((sg 8).h 0).2 ([]),bx (rH bn [(1,aR (ix.h 0).1 (ix.h 0).2 c.kinds.length),(2,aR (ix.h 1).1 (ix.h 1).2 c.first.length)]) 115 b c,dT nP 39 (ix.h 0).1 (ix.h 0).2 c.kinds,dT cd 3 (ix.h 1).1 (ix.h 1).2 c.first]] J mixed J J J J J
  ⟨⟨[⟨0,fun _=>tV (aN b 0),none⟩],_,0,1,J,⟨(fun _=>J),aT⟩,J,J,J,J,J,fun _ sg _ _=>ay J (dl J)⟩,
  ⟨⟨[⟨9,fun _=>tV (aN b 0),some 0⟩],_,0,1,J,⟨(fun _=>J),aT⟩,J,J,J,J,J,fun _ sg _ _=>ay J (dB (ht J))⟩,
  ⟨⟨[⟨10,fun _=>tV (aN b 0),some 1⟩],_,0,1,J,⟨(fun _=>J),aT⟩,J,J,J,J,J,fun _ sg _ _=>ay J (jN 1 nM J J J)⟩,
  ⟨⟨[⟨11,fun _=>tV (aN b 1),some 2⟩],_,0,1,J,⟨(fun _=>J),aT⟩,J,J,J,J,J,F6 (fun sg=>ay J (dd ta J (.head _) (.tail _ (.head _)) (ht J))) (zS (fun sg=>ay J (dd ta J (.tail _ (.head _)) (.tail _ (.tail _ (.head _))) (ht J))))⟩,
  ⟨⟨[⟨3,fun _=>bK aF n,none⟩],_,0,1,J,⟨(fun _=>J),aT⟩,J,J,J,J,J,fun _ sg _ _=>ay J (df ju dN J J)⟩,
  ⟨⟨[⟨13,fun _=>bK cd n.A,some 4⟩],_,0,1,J,⟨(fun _=>J),aT⟩,J,J,J,J,J,fun _ sg _ _=>ay J (bB cx J J)⟩,
  ⟨⟨[⟨12,fun _=>tO xp (ix.h 0).1 (ix.h 0).2 c.kinds,some 3⟩,⟨14,fun _=>tD cd n.A,some 5⟩],_,0,1,J,⟨(fun _=>J),(fun _=>J),aT⟩,J,J,J,J,J,fun _ sg _ _=>ay J (br vQ d9 J (kz (ht J)) (ht J) q_e)⟩,
  ⟨⟨[⟨15,fun _=>bK xp e,some 6⟩],_,0,1,J,⟨(fun _=>J),aT⟩,J,J,J,J,J,fun _ sg _ _=>ay J (bB d9 J J)⟩,
  ⟨⟨[],_,J,aT,J,J,J,fun sg=>ei J (yO (r:=xp) (x:=[]) d9 (fun _=>⟨none,0,J,dy _,lF _,.inl J⟩))⟩,
  aT⟩⟩⟩⟩⟩⟩⟩⟩⟩ (fun sg=>?_)
 refine(show RG _ _ _ _ [bx nP 39 ((sg 8).h 0).2 ([]),bx (rH bn [(1,aR (ix.h 0).1 (ix.h 0).2 c.kinds.length),(2,aR (ix.h 1).1 (ix.h 1).2 c.first.length)]) 115 b c,dT nP 39 (ix.h 0).1 (ix.h 0).2 c.kinds,dT cd 3 (ix.h 1).1 (ix.h 1).2 c.first] _ from ?_);refine ap d9 J an J (ht J) (ht J)<|aV 6 J<|av<|aw<|zo J ((show bS _ _ _ _ ((dX aQ QL nH (fun(x:gG)=>(kK e) x)))from iK (cts:=[bK nP e]) (caps:=[.tmp 6]) aaX ⟨(ht J),aT⟩ (fun x y h=>U0 _ _ h)))<|bp J<|av<|aw<|zo J (df uC pN J J)<|zo J (bB H2 J J)<|zo J (jg DW J)<|zo J (n9 (ht J) hI)<|aG J<|bC h fun t q_t h=>dQ J J (fun hg=>df uC pN J J)<|dQ J J (fun hg=>bO H2 J J (bN J hg))<|dQ J J (fun hg=>dl J) ?_
 obtain⟨r,h1t,h0t⟩:=og q_t
 have q_rg:=fun hb=>(h1t hb).1
 refine dQ J J (fun hg=>aC abV (VH _ _ (q_rg hg)) ⟨(bN J hg),(bN J hg),aT⟩)<|dQ J J (fun hg=>gh (bN J hg))<|zo J (fQ (ht J) (fun hb=>(bN J hb)) (fun hb=>(h1t hb).2) h0t)<|aG J<|dQ J J (fun hg=>df Br uB J J)<|dQ J J (fun hg=>bO cx J J (bN J hg))<|dQ J J (fun hg=>jq (bN J hg) hI)<|zo J (u6 J J)<|aG J<|dQ J J (fun hg=>df Br uB J J)<|dQ J J (fun hg=>bO cx J J (bN J hg))<|dQ J J (fun hg=>n9 (bN J hg) hI)<|zo J (u6 J J)<|bp J<|av<|ah ?_
 refine c9 (ts:=[_,_,_,_,_,_,_,_,_,_,_,_,_,_,_,_,_,_,_]) mixed J J
  ⟨eM 6 J J J (bB d9 J J),
  ⟨eM 8 J J J (dl J),
  ⟨bY 40 1 J J J (dl J),
  ⟨s7 0 41 2 J J J J (fd J J J J (fun hg=>dl J)),
  ⟨lL 42 3 41 2 J J J J (fd J J J J (fun hg=>dB (bN J hg))),
  ⟨lL 43 4 41 2 J J J J (fd J J J J (fun hg=>o0 (n:=1) nM J (bN J hg) J)),
  ⟨lL 44 5 41 2 J J J J (fd J J J J (fun hg=>dd ta J (.head _) (.tail _ (.head _)) (bN J hg))),
  ⟨lL 45 6 41 2 J J J J (fd J J J J (fun hg=>cW vQ (kz (bN J hg)))),
  ⟨s7 0 41 2 J J J J (fd J J J J (fun hg=>dl J)),
  ⟨lL 47 8 41 2 J J J J (fd J J J J (fun hg=>dB (bN J hg))),
  ⟨lL 48 9 41 2 J J J J (fd J J J J (fun hg=>o0 (n:=0) IP J (bN J hg) J)),
  ⟨lL 49 10 41 2 J J J J (fd J J J J (fun hg=>o0 (n:=0) lZ J (bN J hg) J)),
  ⟨lL 50 11 41 2 J J J J (fd J J J J (fun hg=>cg (r:=rH bn [(1,aR (ix.h 0).1 (ix.h 0).2 c.kinds.length),(2,aR (ix.h 1).1 (ix.h 1).2 c.first.length)]) (x:=c) vc J J (Uw (vw wp kH)) (.head _) (bN J hg))),
  ⟨lL 51 12 41 2 J J J J (fd J J J J (fun hg=>cW qE (bN J hg))),
  ⟨lL 52 13 41 2 J J J J (fd J J J J (fun hg=>iQ (bN J hg) hI)),
  ⟨wI 46 7 53 14 41 2 J J J J J (fd J J J J (fun hg=>dH (bN J hg) (bN J hg))),
  ⟨d8 41 2 54 15 J J J J (u6 J J),
  ⟨bY 39 0 J J J (u8 J),
  ⟨bY 55 16 J J J (u8 J),
  aT⟩⟩⟩⟩⟩⟩⟩⟩⟩⟩⟩⟩⟩⟩⟩⟩⟩⟩⟩ ?_
 refine ax<|am<|aK<|aK<|aK ?_;cases so h;exact d6 (ts:=[mv e,iR (((t&&(decide (s6≤n.Limit)))&&(decide (n.Limit≤(2147483647:Int))))&&((c.kinds.length:Int)==(IntKind.i64.wrap ((c.Logic.Nodes.length:Int)-(1:Int)))))]) (rvs:=[.tmp 4,.tmp 5]) J J ⟨aZ J,aZ J,aT⟩ pS J J

theorem Vp(n:aj){R:Bool}(h:tB n=some R):aX aQ 210 [tD aF n] (iR R):=by
 refine aX.of Tryz.func210 J J J fun w0 S0=>aw<|zo J (jm J)<|zo J (jL)<|av<|aw<|zo J (df uX mR J J)<|zo J (bB cx J J)<|zo J (nI J)<|aG J<|dQ J J (fun hg=>df uW om J J)<|dQ J J (fun hg=>bO d9 J J (bN J hg))<|dQ J J (fun hg=>cW gT (bN J hg))<|dQ J J (fun hg=>dH (bN J hg) hI)<|zo J (u6 J J)<|aG J<|dQ J J (fun hg=>df M0 Fl J J)<|dQ J J (fun hg=>bO H4 J J (bN J hg))<|dQ J J (fun hg=>gh (bN J hg))<|zo J (u6 J J)<|aG J ?_;refine dQ J J (fun hg=>df uV ol J J)<|dQ J J (fun hg=>sy qn J lX J (bN J hg))<|dQ J J (fun hg=>bO AU J J (bN J hg))<|dQ J J (fun hg=>cW vP (bN J hg))<|dQ J J (fun hg=>dH (bN J hg) hI)<|zo J (u6 J J)<|aG J<|dQ J J (fun hg=>df tN mQ J J)<|dQ J J (fun hg=>bO d9 J J (bN J hg))<|dQ J J (fun hg=>cW gT (bN J hg))<|dQ J J (fun hg=>dH (bN J hg) hI)<|zo J (u6 J J)<|aG J<|dQ J J (fun hg=>df qX oj J J)<|dQ J J (fun hg=>bO B4 J J (bN J hg))<|dQ J J (fun hg=>cW wT (bN J hg))<|dQ J J (fun hg=>dH (bN J hg) hI)<|zo J (u6 J J)<|aG J<|dQ J J (fun hg=>df qW mP J J)<|dQ J J (fun hg=>bO AS J J (bN J hg))<|dQ J J (fun hg=>cW xf (bN J hg))<|dQ J J (fun hg=>dH (bN J hg) hI)<|zo J (u6 J J) ?_;refine aG J<|dQ J J (fun hg=>df uC pN J J)<|dQ J J (fun hg=>bO H2 J J (bN J hg))<|dQ J J (fun hg=>cW DW (bN J hg))<|dQ J J (fun hg=>dH (bN J hg) hI)<|zo J (u6 J J)<|aG J<|dQ J J (fun hg=>df Br uB J J)<|dQ J J (fun hg=>bO cx J J (bN J hg))<|dQ J J (fun hg=>dH (bN J hg) hI)<|zo J (u6 J J)<|bp J<|av<|am ?_;cases so h;exact aJ J J

theorem Vo(n:aj){R:aj}(h:tE n=some R):aX aQ 211 [tD aF n] (tD aF R):=by
 refine aX.of Tryz.func211 J J J fun w0 S0=>aw<|wE (ht J) J fun b=>aW (r:=aF) (x:=HO) fK (fun _=>lK _) J fun b1=>av<|ah<|aw<|zo J (jN 0 Ah J J J)<|zo J (cg cx J J py (.tail _ (.head _)) (ht J))<|av<|aA<|aw<|zo J (nI J)<|bp J<|av<|cU h J (fun h=>?_) (fun h=>?_)
 ·refine au<|zo J (jN 3 uX J J J)<|bF<|ap cx J Mj J (ht J) hI<|zo J (jN 4 uW J J J)<|ap d9 J zZ J (ht J) jQ<|aP<|aq<|ax<|aw<|zo rfl (cg fK rfl rfl bT (.head _) (ht rfl))<|bF<|ap fK rfl an rfl (ht rfl) (ht rfl)<|aV 2 rfl<|av<|am<|ba ?_;cases so h;exact iX J fK J J J
 ·refine aw<|zo J (nI J)<|bp J<|av<|cU h J (fun h=>?_) (fun h=>?_)
  ·refine au<|zo J (bU (y:=zQ) j3 Uv pX (J))<|zo J (jN 5 M0 J J J)<|bF<|ap H4 J Eu J (ht J) hB<|zo J (jN 6 uV J J J)<|ap j3 J v6 J (ht J) (ht J)<|aP<|aq<|ax<|aw<|zo rfl (cg fK rfl rfl bT (.head _) (ht rfl))<|bF<|ap fK rfl an rfl (ht rfl) (ht rfl)<|aV 2 rfl<|av<|am<|ba ?_;cases so h;exact iX J fK J J J
  ·refine aw<|zo J (nI J)<|bp J<|av<|cU h J (fun h=>?_) (fun h=>?_)
   ·refine au<|zo J (bU (y:=zQ) j3 Uv pX (J))<|zo J (jN 6 uV J J J)<|bF<|ap j3 J v6 J (ht J) (ht J)<|aP<|aq<|ax<|aw<|zo rfl (cg fK rfl rfl bT (.head _) (ht rfl))<|bF<|ap fK rfl an rfl (ht rfl) (ht rfl)<|aV 2 rfl<|av<|am<|ba ?_;cases so h;exact iX J fK J J J
   ·refine aw<|zo J (nI J)<|bp J<|av<|cU h J (fun h=>?_) (fun h=>?_)
    ·refine au<|zo J (jN 7 tN J J J)<|bF<|ap d9 J Et J (ht J) jQ<|zo J (jN 8 qX J J J)<|ap B4 J Es J (ht J) jQ<|aP<|aq<|ax<|aw<|zo rfl (cg fK rfl rfl bT (.head _) (ht rfl))<|bF<|ap fK rfl an rfl (ht rfl) (ht rfl)<|aV 2 rfl<|av<|am<|ba ?_;cases so h;exact iX J fK J J J
    ·refine aw<|zo J (nI J)<|bp J<|av<|cU h J (fun h=>?_) (fun h=>?_)
     ·refine au<|zo J (jN 9 qW J J J)<|bF<|ap AS J Mi J (ht J) jQ<|aP<|aq<|ax<|aw<|zo rfl (cg fK rfl rfl bT (.head _) (ht rfl))<|bF<|ap fK rfl an rfl (ht rfl) (ht rfl)<|aV 2 rfl<|av<|am<|ba ?_;cases so h;exact iX J fK J J J
     ·refine aw<|zo J (nI J)<|bp J<|av<|cU h J (fun h=>?_) (fun h=>?_)
      ·refine au<|zo J (jN 10 uC J J J)<|bF<|ap H2 J CZ J (ht J) jQ<|zo J (jN 11 Br J J J)<|ap cx J JQ J (ht J) hI<|aP<|aq<|ax<|aw<|zo rfl (cg fK rfl rfl bT (.head _) (ht rfl))<|bF<|ap fK rfl an rfl (ht rfl) (ht rfl)<|aV 2 rfl<|av<|am<|ba ?_;cases so h;exact iX J fK J J J
      ·refine bA<|aq<|ax<|aw<|zo rfl (cg fK rfl rfl bT (.tail _ (.head _)) (ht rfl))<|ap fK rfl an rfl (ht rfl) (ht rfl)<|aV 2 rfl<|av<|am<|ba ?_;cases so h;exact iX J fK J J J

theorem UZ(op:Int){R:Int}(h:uv op=some R):aX aQ 287 [bM op] (bM R):=by
 refine aX.of Tryz.func287 J J J fun w0 S0=>aw<|zo J (cD)<|av<|ah<|aw<|aG J<|av<|aA<|aw<|zo J (nI J)<|bp J<|av<|cU h J (fun h=>?_) (fun h=>?_)
 ·refine aw<|zo J (cD)<|av<|am ?_;refine aD (ae ?_);cases so h;exact aJ J J
 ·refine kw (Z:=fun x=>qf x=some R) (Of:=fun x=>[]) (Gf:=fun x=>[(6,iR x)]) (fun x h=>?_) (fun K=>?_)
  ·skip
   refine cU h J (fun h=>?_) (fun h=>?_)
   ·refine aw<|zo J (cD)<|av<|am ?_;refine aD (ae ?_);cases so h;exact aJ J J
   ·refine bA<|aq<|ax<|aw<|zo rfl (cD)<|av<|am ?_;cases so h;exact aJ J J
  ·skip
   refine aw<|zo J (nI J)<|bp J<|av<|cU h J (fun h=>?_) (fun h=>?_)
   ·refine bA ?_;exact cw (K (op==(2:Int)) h) (bu J)
   ·refine au<|zo J (nI J)<|bp J<|aP ?_;exact cw (K (op==(7:Int)) h) (bu J)

theorem YG(b:Nat)(ix:OI)(c:aE)(i:Int){R:Int×Bool}(h:jP c i=some R):cX aQ 212 [tV (aN b 0),bM i] (dw b c ix) (fun _:OI=>tT [bM R.1,iR R.2]) (fun _=>(dw b c ix)):=by
 refine cX.of Tryz.func212 J J J fun w0 S0=>?_;refine(show CG _ _ _ [bx (rH bn [(1,aR (ix.h 0).1 (ix.h 0).2 c.kinds.length),(2,aR (ix.h 1).1 (ix.h 1).2 c.first.length)]) 115 b c,dT nP 39 (ix.h 0).1 (ix.h 0).2 c.kinds,dT cd 3 (ix.h 1).1 (ix.h 1).2 c.first] _ from ?_);refine aw<|zo J (cD)<|zo J (jL)<|av<|aw<|aG J<|zo J (dB (ht J))<|zo J (jN 0 IP J J J)<|zo J (jN 0 lZ J J J)<|zo J (cg (r:=rH bn [(1,aR (ix.h 0).1 (ix.h 0).2 c.kinds.length),(2,aR (ix.h 1).1 (ix.h 1).2 c.first.length)]) (x:=c) vc J J (Uw (vw wp kH)) (.head _) (ht J))<|aG J<|bC h fun e q_e h=>zo J (my qE fK J J J q_e)<|zo J (bB fK J J)<|aW (r:=aF) (x:=HO) fK (fun _=>lK _) J fun b1=>ap fK J an J (ht J) (ht J)<|aV 6 J<|av<|ah<|ah ?_;refine au<|zo J (df Ah py J J)<|zo J (bB cx J J)<|bC h fun r q_r h=>zo J (aC aaW (UZ _ q_r) ⟨(ht J),aT⟩)<|av<|aA<|aw<|zo J (nI J)<|bp J<|av<|cU h J (fun h=>?_) (fun h=>?_)
 ·refine ah ?_
  refine c9 (ts:=[_,_,_,_,_,_,_,_,_,_,_]) mixed J J
   ⟨eM 1 J J J (dl J),
   ⟨eM 6 J J J (df ju dN J J),
   ⟨bY 21 1 J J J (bB cx J J),
   ⟨bY 22 2 J J J (nI J),
   ⟨bY 23 3 J J J (dl J),
   ⟨s7 6 24 4 J J J J (fd J J J J (fun hg=>df qm kI J J)),
   ⟨lL 25 5 24 4 J J J J (fd J J J J (fun hg=>bO cx J J (bN J hg))),
   ⟨lL 26 6 24 4 J J J J (fd J J J J (fun hg=>dH (bN J hg) hI)),
   ⟨d8 24 4 27 7 J J J J (u6 J J),
   ⟨bY 20 0 J J J (u8 J),
   ⟨bY 28 8 J J J (u8 J),
   aT⟩⟩⟩⟩⟩⟩⟩⟩⟩⟩⟩ ?_
  refine ax<|am ?_;refine aD (ae ?_);refine aK<|aK<|aK ?_;cases so h;exact d6 (ts:=[bM i,iR ((e.A==s6)&&(e.B==s6))]) (rvs:=[.tmp 4,.tmp 5]) J J ⟨aZ J,aZ J,aT⟩ pS J J
 ·refine aw<|zo J (nI J)<|bp J<|av<|cU h J (fun h=>?_) (fun h=>?_)
  ·refine ah<|aw<|zo J (df ju dN J J)<|zo J (bB cx J J)<|aG J<|zo J (iQ (ht J) hI)<|zo J (fe (ht J) (ht J))<|aG J<|gz J J (fun hg=>df qm kI J J)<|gz J J (fun hg=>bO cx J J (bN J hg))<|gz J J (fun hg=>fe (bN J hg) hI)<|zo J (xo J J)<|aG J<|gz J J (fun hg=>dl J)<|gz J J (fun hg=>dH (bN J hg) hI)<|zo J (xo J J)<|av<|cU h J (fun h=>?_) (fun h=>?_)
   ·refine aw<|zo J (cD)<|zo J (jL)<|av<|am ?_;refine ae (aD (ae ?_));refine aK<|aK<|aK ?_;cases so h;exact d6 (ts:=[bM 0,iR false]) (rvs:=[.tmp 4,.tmp 5]) J J ⟨aZ J,aZ J,aT⟩ pS J J
   ·refine dS<|ah<|bC h fun e1 q_e1 h=>?_
    refine c9 (ts:=[_,_,_,_,_,_,_,_,_,_]) mixed J J
     ⟨eM 0 J J J (dl J),
     ⟨bY 45 0 J J J (dB (ht J)),
     ⟨bY 46 1 J J J (jN 2 uD J J J),
     ⟨bY 47 2 J J J (dd d9 J (.head _) (.tail _ (.tail _ (.head _))) (ht J)),
     ⟨eM 6 J J J (df ju dN J J),
     ⟨bY 49 4 J J J (bB cx J J),
     ⟨d8 48 3 50 5 J J J J (br gT cx J (kz (ht J)) (ht J) q_e1),
     ⟨bY 51 6 J J J (bB cx J J),
     ⟨bY 52 7 J J J (u8 J),
     ⟨Pv J J (jL),
     aT⟩⟩⟩⟩⟩⟩⟩⟩⟩⟩ ?_
    refine ax<|am ?_;refine aD (ae ?_);refine aK<|aK<|aK ?_;cases so h;exact d6 (ts:=[bM e1,iR true]) (rvs:=[.tmp 4,.tmp 5]) J J ⟨aZ J,aZ J,aT⟩ pS J J
  ·refine bA<|aq<|ax<|ah<|ah<|bC h fun t q_t h=>?_
   obtain⟨e2,h1t,h0t⟩:=og q_t
   have q_e2g:=fun hb=>(h1t hb).1
   refine c9 (ts:=[_,_,_,_,_,_,_,_,_,_,_,_,_,_,_,_,_,_,_,_,_,_,_,_,_,_,_,_]) mixed J J
    ⟨eM 6 J J J (df qm kI J J),
    ⟨bY 53 0 J J J (bB cx J J),
    ⟨eM 1 J J J (dl J),
    ⟨bY 55 2 J J J (iQ (ht J) hI),
    ⟨d8 54 1 56 3 J J J J (fe (ht J) (ht J)),
    ⟨bY 57 4 J J J (dl J),
    ⟨s7 1 58 5 J J J J (kR J J J J (fun hg=>dl J)),
    ⟨lL 59 6 58 5 J J J J (kR J J J J (fun hg=>dH (bN J hg) hI)),
    ⟨d8 58 5 60 7 J J J J (xo J J),
    ⟨bY 61 8 J J J (dl J),
    ⟨s7 6 62 9 J J J J (kR J J J J (fun hg=>df ju dN J J)),
    ⟨lL 63 10 62 9 J J J J (kR J J J J (fun hg=>bO cx J J (bN J hg))),
    ⟨s7 0 62 9 J J J J (kR J J J J (fun hg=>dl J)),
    ⟨lL 65 12 62 9 J J J J (kR J J J J (fun hg=>dB (bN J hg))),
    ⟨lL 66 13 62 9 J J J J (kR J J J J (fun hg=>o0 (n:=2) uD J (bN J hg) J)),
    ⟨lL 67 14 62 9 J J J J (kR J J J J (fun hg=>dd d9 J (.head _) (.tail _ (.tail _ (.head _))) (bN J hg))),
    ⟨s7 6 62 9 J J J J (kR J J J J (fun hg=>df qm kI J J)),
    ⟨lL 69 16 62 9 J J J J (kR J J J J (fun hg=>bO cx J J (bN J hg))),
    ⟨wI 68 15 70 17 62 9 J J J J J (kR J J J J (fun hg=>br gT cx J (kz (bN J hg)) (bN J hg) (q_e2g hg))),
    ⟨lL 71 18 62 9 J J J J (kR J J J J (fun hg=>bO cx J J (bN J hg))),
    ⟨lL 72 19 62 9 J J J J (kR J J J J (fun hg=>iQ (bN J hg) hI)),
    ⟨wI 64 11 73 20 62 9 J J J J J (kR J J J J (fun hg=>fe (bN J hg) (bN J hg))),
    ⟨d8 62 9 74 21 J J J J (kG (ht J) (fun hb=>(bN J (Ae hb))) (fun hb=>(h1t hb).2) h0t),
    ⟨bY 75 22 J J J (dl J),
    ⟨s7 6 76 23 J J J J (kR J J J J (fun hg=>df ju dN J J)),
    ⟨lL 77 24 76 23 J J J J (kR J J J J (fun hg=>bO cx J J (bN J hg))),
    ⟨lL 78 25 76 23 J J J J (kR J J J J (fun hg=>gi (bN J hg) hI)),
    ⟨d8 76 23 79 26 J J J J (xo J J),
    aT⟩⟩⟩⟩⟩⟩⟩⟩⟩⟩⟩⟩⟩⟩⟩⟩⟩⟩⟩⟩⟩⟩⟩⟩⟩⟩⟩⟩ ?_
   refine ax<|cU h rfl (fun h=>?_) (fun h=>?_)
   ·refine aw<|zo J (cD)<|zo J (jL)<|av<|am<|ae<|aK<|aK<|aK ?_;cases so h;exact d6 (ts:=[bM 0,iR false]) (rvs:=[.tmp 4,.tmp 5]) J J ⟨aZ J,aZ J,aT⟩ pS J J
   ·refine dS<|ah<|bC h fun e3 q_e3 h=>?_
    refine c9 (ts:=[_,_,_,_,_,_,_,_,_,_]) mixed J J
     ⟨eM 0 J J J (dl J),
     ⟨bY 81 0 J J J (dB (ht J)),
     ⟨bY 82 1 J J J (jN 2 uD J J J),
     ⟨bY 83 2 J J J (dd d9 J (.head _) (.tail _ (.tail _ (.head _))) (ht J)),
     ⟨eM 6 J J J (df ju dN J J),
     ⟨bY 85 4 J J J (bB cx J J),
     ⟨d8 84 3 86 5 J J J J (br gT cx J (kz (ht J)) (ht J) q_e3),
     ⟨bY 87 6 J J J (bB cx J J),
     ⟨bY 88 7 J J J (u8 J),
     ⟨Pv J J (jL),
     aT⟩⟩⟩⟩⟩⟩⟩⟩⟩⟩ ?_
    refine ax<|am<|aK<|aK<|aK ?_;cases so h;exact d6 (ts:=[bM e3,iR true]) (rvs:=[.tmp 4,.tmp 5]) J J ⟨aZ J,aZ J,aT⟩ pS J J

theorem Sb(b:Nat)(ix:OI)(c:aE):BR aQ 201 (fun(x:Int×Bool)=>[bM x.1,iR x.2]) (fun _=>lI c) (dw b) (dw b c ix) [bK (rT (tV (aN b 0))) ()]:=by
 refine BR.of Tryz.func201 J J J fun Sg yld s R h I yv hy e he w0 S0 B hB=>?_
 replace h:lI c yld s=some R:=h
 refine(show CG _ _ _ [e,bx (rH bn [(1,aR (ix.h 0).1 (ix.h 0).2 c.kinds.length),(2,aR (ix.h 1).1 (ix.h 1).2 c.first.length)]) 115 b c,dT nP 39 (ix.h 0).1 (ix.h 0).2 c.kinds,dT cd 3 (ix.h 1).1 (ix.h 1).2 c.first] _ from ?_);refine aw<|Aq (wY (fun y:(aE→aj→Option (((List Int)×Bool)×aE))=>dJ aQ pE (dw b) oV y)) nN J fun b1=>zo J (li kP (ht J)) ?_
 refine qt ((show bS _ _ _ _ (dJ aQ pE (dw b) oV XG)from jO abw (ht J) (fun c x R h i=>by
   obtain⟨r,h1,rfl⟩:=vS.1 h
   exact iG (Ob:=fun j=>dw b c j) (i:=i) (YO _ i c _ h1)))) J ?_
 refine eE (γ:=(fun y:(aE→aj→Option (((List Int)×Bool)×aE))=>dJ aQ pE (dw b) oV y)) (y:=XG) AO (d5 kY) (ht J) (oe hI) (ht J) fun os=>zo J (li kP (ht J)) ?_
 refine qt ((show bS _ _ _ _ (dJ aQ pE (dw b) oV XF)from jO abv (ht J) (fun c x R h i=>by
   obtain⟨r,h1,rfl⟩:=vS.1 h
   exact iG (Ob:=fun j=>dw b c j) (i:=i) (YN _ i c _ h1)))) J ?_
 refine eE (γ:=(fun y:(aE→aj→Option (((List Int)×Bool)×aE))=>dJ aQ pE (dw b) oV y)) (y:=XF) AO (d5 kY) (ht J) (oe hI) (ht J) fun os1=>zo J (li kP (ht J)) ?_
 refine qt ((show bS _ _ _ _ (dJ aQ pE (dw b) oV XK)from jO abu (ht J) (fun c x R h i=>by
   obtain⟨r,h1,rfl⟩:=vS.1 h
   exact iG (Ob:=fun j=>dw b c j) (i:=i) (YM _ i c _ h1)))) J ?_
 refine eE (γ:=(fun y:(aE→aj→Option (((List Int)×Bool)×aE))=>dJ aQ pE (dw b) oV y)) (y:=XK) AO (d5 kY) (ht J) (oe hI) (ht J) fun os2=>zo J (li kP (ht J)) ?_
 refine qt ((show bS _ _ _ _ (dJ aQ pE (dw b) oV XH)from jO abt (ht J) (fun c x R h i=>by
   obtain⟨r,h1,rfl⟩:=vS.1 h
   exact iG (Ob:=fun j=>dw b c j) (i:=i) (YL _ i c _ h1)))) J ?_
 refine eE (γ:=(fun y:(aE→aj→Option (((List Int)×Bool)×aE))=>dJ aQ pE (dw b) oV y)) (y:=XH) AO (d5 kY) (ht J) (oe hI) (ht J) fun os3=>zo J (li kP (ht J)) ?_
 refine qt ((show bS _ _ _ _ (dJ aQ pE (dw b) oV XL)from jO abs (ht J) (fun c x R h i=>by
   obtain⟨r,h1,rfl⟩:=vS.1 h
   exact iG (Ob:=fun j=>dw b c j) (i:=i) (YK _ i c _ h1)))) J ?_
 refine eE (γ:=(fun y:(aE→aj→Option (((List Int)×Bool)×aE))=>dJ aQ pE (dw b) oV y)) (y:=XL) AO (d5 kY) (ht J) (oe hI) (ht J) fun os4=>zo J (li kP (ht J)) ?_
 refine qt ((show bS _ _ _ _ (dJ aQ pE (dw b) oV XM)from jO abr (ht J) (fun c x R h i=>by
   obtain⟨r,h1,rfl⟩:=vS.1 h
   exact iG (Ob:=fun j=>dw b c j) (i:=i) (YJ _ i c _ h1)))) J ?_
 refine eE (γ:=(fun y:(aE→aj→Option (((List Int)×Bool)×aE))=>dJ aQ pE (dw b) oV y)) (y:=XM) AO (d5 kY) (ht J) (oe hI) (ht J) fun os5=>zo J (li kP (ht J)) ?_
 refine qt ((show bS _ _ _ _ (dJ aQ pE (dw b) oV XJ)from jO abq (ht J) (fun c x R h i=>by
   obtain⟨r,h1,rfl⟩:=vS.1 h
   exact iG (Ob:=fun j=>dw b c j) (i:=i) (YI _ i c _ h1)))) J ?_
 refine eE (γ:=(fun y:(aE→aj→Option (((List Int)×Bool)×aE))=>dJ aQ pE (dw b) oV y)) (y:=XJ) AO (d5 kY) (ht J) (oe hI) (ht J) fun os6=>zo J (li kP (ht J)) ?_
 refine qt ((show bS _ _ _ _ (dJ aQ pE (dw b) oV XI)from jO abp (ht J) (fun c x R h i=>by
   obtain⟨r,h1,rfl⟩:=vS.1 h
   exact iG (Ob:=fun j=>dw b c j) (i:=i) (YH _ i c _ h1)))) J ?_
 refine eE (γ:=(fun y:(aE→aj→Option (((List Int)×Bool)×aE))=>dJ aQ pE (dw b) oV y)) (y:=XI) AO (d5 kY) (ht J) (oe hI) (ht J) fun os7=>aG J<|bp J<|av<|aw<|zo J (li kP (ht J))<|zo J (dB (ht J))<|zo J (jN 0 IP J J J)<|zo J (jN 0 lZ J J J)<|zo J (cg (r:=rH bn [(1,aR (ix.h 0).1 (ix.h 0).2 c.kinds.length),(2,aR (ix.h 1).1 (ix.h 1).2 c.first.length)]) (x:=c) vc J J (Uw (vw wp kH)) (.tail _ (.tail _ (.head _))) (ht J))<|zo J (jg qE J)<|zo J (bI hI)<|av<|aA<|be (k:=33) J fun hN=>bL<|kW<|kW<|kW<|nG<|kW ?_;refine aU (LB (Z:=fun ls i e1 s1 ob l c1 l1 c2=>(c.Logic.Nodes.drop i=ls)∧I s1 e1∧bE yld ls i s1 ob=some R) (Of:=fun _ i e1 s1 ob l c1 l1 c2=>[e1,nO (wY (fun y:(aE→aj→Option (((List Int)×Bool)×aE))=>dJ aQ pE (dw b) oV y)) nN b1 none os7 LU,bx (rH bn [(1,aR l c1 ob.kinds.length),(2,aR l1 c2 ob.first.length)]) 115 b ob,dT nP 39 l c1 ob.kinds,dT cd 3 l1 c2 ob.first]) (Gf:=fun _ i e1 s1 ob l c1 l1 c2=>[(0,tV yv),(1,bK (rT (tV (aN b 0))) ()),(3,tV (qP b1)),(33,ca (aF) c.Logic.Nodes),(34,jz c.Logic.Nodes),(35,bM (i:Int))]) (fun i e1 s1 ob l c1 l1 c2 h=>?_) (fun e2 tl ih i e1 s1 ob l c1 l1 c2 h=>?_) c.Logic.Nodes 0 e s c (ix.h 0).1 (ix.h 0).2 (ix.h 1).1 (ix.h 1).2 ⟨J,⟨he,h⟩⟩) (bu J)
 ·obtain⟨hx,h⟩:=h
  obtain⟨he1,h⟩:=h
  refine aB<|aw<|zo J (fM J J)<|av<|ah<|bz (ht J) (du hx)<|bv ?_;refine ai (ai (aO ?_));refine bD<|ba<|cA<|cA<|cA<|cA ?_;cases so h;exact QG J he1 (Wx [(l,c1),(l1,c2)]) J
 ·obtain⟨hx,h⟩:=h
  obtain⟨he1,h⟩:=h
  refine aB<|aw<|zo J (fM J J)<|av<|ah<|bw (ht J) (di hx)<|dS<|ah<|aA<|aw<|aG J<|zo J (my qE fK J J J (da hx))<|zo J (bB fK J J)<|aW (r:=aF) (x:=HO) fK (fun _=>lK _) J fun b2=>bp J<|ap fK J an J (ht J) (ht J)<|aV 5 J<|av<|ah ?_;refine au<|aG J<|zo J (df Ah py J J)<|zo J (bB cx J J)<|zo J (Ku (γ:=(fun y:(aE→aj→Option (((List Int)×Bool)×aE))=>dJ aQ pE (dw b) (fun(x:(List Int)×Bool)=>tT [tD xp x.1,tD rB x.2]) y)) (z:=fun _ _=>none) AO (d5 kY) Zk (fun _=>GO) (.tail _ (.head _)) (ht J) (oe (ht J)))<|aG J<|zo J (gp J J)<|zo J (gp J J)<|bp J<|bp J<|av<|aw<|aG J<|aG J<|bC h fun t q_t h=>dQ J J (fun hg=>bB fK J J) ?_
  obtain⟨r,h1t,h0t⟩:=og q_t
  have q_rg:=fun hb=>(h1t hb).1
  refine dQ J J (fun hg=>aC abn (Vo _ (q_rg hg)) ⟨(bN J hg),aT⟩) ?_
  obtain⟨r1,h1t⟩:=X4 (fun hb=>(h1t hb).2)
  have q_r1g:=fun hb=>(h1t hb).1
  refine dQ J J (fun hg=>aC abo (Vp _ (q_r1g hg)) ⟨(bN J hg),aT⟩)<|zo J (fQ (ht J) (fun hb=>(bN J hb)) (fun hb=>(h1t hb).2) h0t)<|bp J<|av ?_;refine QD (Z:=fun ok ob1 l2 c3 l3 c4=>d4 yld (bE yld tl) i e2 s1 ok ob1=some R) (Of:=fun ok ob1 l2 c3 l3 c4=>[e1,nO (wY (fun y:(aE→aj→Option (((List Int)×Bool)×aE))=>dJ aQ pE (dw b) oV y)) nN b1 none os7 LU,bx (rH bn [(1,aR l2 c3 ob1.kinds.length),(2,aR l3 c4 ob1.first.length)]) 115 b ob1,dT nP 39 l2 c3 ob1.kinds,dT cd 3 l3 c4 ob1.first]) (Gf:=fun ok ob1 l2 c3 l3 c4=>[(0,tV yv),(1,bK (rT (tV (aN b 0))) ()),(3,tV (qP b1)),(4,bM (i:Int)),(5,bK aF e2),(6,dJ aQ pE (dw b) oV ((pw LU e2.Op).getD (fun _ _=>none))),(8,iR ok),(33,ca (aF) c.Logic.Nodes),(34,jz c.Logic.Nodes),(35,bM (i:Int))]) (fun ok ob1 l2 c3 l3 c4 h=>?_) (fun K=>?_)
  ·skip
   refine aw<|zo J (aM (show aI _ _ _ xq from jQ))<|av ?_;refine QC (Z:=fun ok1 kinds ob2 l4 c5 l5 c6=>gk yld (bE yld tl) i s1 ok1 kinds ob2=some R) (Of:=fun ok1 kinds ob2 l4 c5 l5 c6=>[e1,nO (wY (fun y:(aE→aj→Option (((List Int)×Bool)×aE))=>dJ aQ pE (dw b) oV y)) nN b1 none os7 LU,bx (rH bn [(1,aR l4 c5 ob2.kinds.length),(2,aR l5 c6 ob2.first.length)]) 115 b ob2,dT nP 39 l4 c5 ob2.kinds,dT cd 3 l5 c6 ob2.first]) (Gf:=fun ok1 kinds ob2 l4 c5 l5 c6=>[(0,tV yv),(1,bK (rT (tV (aN b 0))) ()),(3,tV (qP b1)),(4,bM (i:Int)),(8,iR ok1),(10,mv kinds),(33,ca (aF) c.Logic.Nodes),(34,jz c.Logic.Nodes),(35,bM (i:Int))]) (fun ok1 kinds ob2 l4 c5 l5 c6 h=>?_) (fun K1=>?_)
   ·skip
    refine aw<|aG J<|aG J<|dQ J J (fun hg=>dl J)<|dQ J J (fun hg=>cW gT (bN J hg))<|dQ J J (fun hg=>n9 (bN J hg) hI)<|zo J (u6 J J)<|bp J<|av<|ah<|bC h fun l6 q_l6 h=>?_
    refine o9 8 [tc (tV (aN b 0)),tc (tV (aN b 0)),tc (tV (aN b 0)),tc (tV (aN b 1)),tc (tO nP l4 c5 ob2.kinds),tc (mv kinds),tc (ca (nP) ([kinds])),([7],fun s=>tO nP ((s.getD 0 pS).h 0).1 ((s.getD 0 pS).h 0).2 l6)] [false,false,false,false,false,false,false,true] [fun _=>[e1,nO (wY (fun y:(aE→aj→Option (((List Int)×Bool)×aE))=>dJ aQ pE (dw b) oV y)) nN b1 none os7 LU,bx (rH bn [(1,aR l4 c5 ob2.kinds.length),(2,aR l5 c6 ob2.first.length)]) 115 b ob2,dT nP 39 l4 c5 ob2.kinds,dT cd 3 l5 c6 ob2.first],fun sg=>[dT nP 39 ((sg 7).h 0).1 ((sg 7).h 0).2 l6,e1,nO (wY (fun y:(aE→aj→Option (((List Int)×Bool)×aE))=>dJ aQ pE (dw b) oV y)) nN b1 none os7 LU,bx (rH bn [(1,aR l4 c5 ob2.kinds.length),(2,aR l5 c6 ob2.first.length)]) 115 b ob2,dT cd 3 l5 c6 ob2.first]] J mixed J J J J J
     ⟨⟨[⟨1,fun _=>bK (rT (tV (aN b 0))) (),none⟩],_,0,1,J,⟨(fun _=>J),aT⟩,J,J,J,J,J,fun _ sg _ _=>ay J (li kP (ht J))⟩,
     ⟨⟨[⟨1,fun _=>bK (rT (tV (aN b 0))) (),none⟩],_,0,0,J,⟨(fun _=>J),aT⟩,J,J,J,J,J,fun _ sg _ _=>ay J (li kP (ht J))⟩,
     ⟨⟨[⟨84,fun _=>tV (aN b 0),some 1⟩],_,0,0,J,⟨(fun _=>J),aT⟩,J,J,J,J,J,fun _ sg _ _=>ay J (dB (ht J))⟩,
     ⟨⟨[⟨85,fun _=>tV (aN b 0),some 2⟩],_,0,0,J,⟨(fun _=>J),aT⟩,J,J,J,J,J,fun _ sg _ _=>ay J (jN 1 nM J J J)⟩,
     ⟨⟨[⟨86,fun _=>tV (aN b 1),some 3⟩],_,0,0,J,⟨(fun _=>J),aT⟩,J,J,J,J,J,zS (fun sg=>ay J (dd ta J (.tail _ (.tail _ (.head _))) (.tail _ (.tail _ (.tail _ (.head _)))) (ht J)))⟩,
     ⟨⟨[⟨10,fun _=>tD xp kinds,none⟩],_,0,0,J,⟨(fun _=>J),aT⟩,J,J,J,J,J,fun _ sg _ _=>ay J (dl J)⟩,
     ⟨⟨[⟨88,fun _=>tD xp kinds,some 5⟩],_,0,0,J,⟨(fun _=>J),aT⟩,J,J,J,J,J,fun _ sg _ _=>ay J (aS (r:=xp) (ys:=[kinds]) (xs:=[.tmp 88]) vQ d9 J J J J J ⟨(ht J),aT⟩)⟩,
     ⟨⟨[⟨87,fun _=>tO xp l4 c5 ob2.kinds,some 4⟩,⟨89,fun _=>tD (fV xp) ([kinds]),some 6⟩],_,J,⟨(fun _=>J),(fun _=>J),aT⟩,J,J,J,fun sg=>ei J (EffOK.fr3 (uF d9 J J J J vQ J (ht J) (ht J) q_l6))⟩,
     aT⟩⟩⟩⟩⟩⟩⟩⟩ (fun sg=>?_)
    refine(show RG _ _ _ _ [dT nP 39 ((sg 7).h 0).1 ((sg 7).h 0).2 l6,e1,nO (wY (fun y:(aE→aj→Option (((List Int)×Bool)×aE))=>dJ aQ pE (dw b) oV y)) nN b1 none os7 LU,bx (rH bn [(1,aR l4 c5 ob2.kinds.length),(2,aR l5 c6 ob2.first.length)]) 115 b ob2,dT cd 3 l5 c6 ob2.first] _ from ?_);refine zo J (dB (ht J))<|zo J (jN 1 nM J J J)<|wC (EffOK.fr3 (wt (hs' :=[(1,aR ((sg 7).h 0).1 ((sg 7).h 0).2 l6.length),(2,aR l5 c6 ob2.first.length)]) (u:=aR ((sg 7).h 0).1 ((sg 7).h 0).2 l6.length) ta J J Ia J ⟨.inl ⟨J,J,J⟩,.inr ⟨J,J⟩,aT⟩ (ht J) (kz (ht J)) (H5 (ht J)))) fun i1=>?_;refine(show RG _ _ _ _ [bx (rH bn [(1,aR ((sg 7).h 0).1 ((sg 7).h 0).2 l6.length),(2,aR l5 c6 ob2.first.length)]) 115 b ({ob2 with kinds:=l6}:aE),dT nP 39 ((sg 7).h 0).1 ((sg 7).h 0).2 l6,e1,nO (wY (fun y:(aE→aj→Option (((List Int)×Bool)×aE))=>dJ aQ pE (dw b) oV y)) nN b1 none os7 LU,dT cd 3 l5 c6 ob2.first] _ from ?_);refine av<|aw<|aG J<|aG J<|aG J<|hT<|bC h fun r2 q_r2 h=>FL hy he1 q_r2 (ht J) ⟨(ht J),(ht J),aT⟩ J fun e3 he2=>zo J (gh (ht J))<|aG J<|gz J J (fun hg=>dl J)<|gz J J (fun hg=>gh (bN J hg))<|zo J (xo J J)<|av<|cU h J (fun h=>?_) (fun h=>?_)
    ·refine am ?_;refine aD (ae (ae (aD ?_)));refine cA<|ba<|cA<|cA<|cA<|cA ?_;cases so h;exact LO J he2 (Wx [(((sg 7).h 0).1,((sg 7).h 0).2),(l5,c6)]) J
    ·refine bA<|aq<|ax<|au<|zo rfl (mz (cM hx hN) rfl)<|aG rfl<|aP<|fh<|cA<|cA<|fh<|fh ?_;exact bm (aU (ih (i+1) e3 r2.2 ({ob2 with kinds:=l6}:aE) ((sg 7).h 0).1 ((sg 7).h 0).2 l5 c6 ⟨cL hx,⟨he2,h⟩⟩) (bu J))
   ·skip
    refine aw<|aG J<|av<|cU h J (fun h=>?_) (fun h=>?_)
    ·refine au<|aG J<|zo J (bB fK J J)<|bC h fun r3 q_r3 h=>Ar (EffOK.fr4 (EffOK.fr4 (EffOK.fr4 (Bz (args:=pE) (Ob:=dw b) (res:=oV) (f:=((pw LU e2.Op).getD (fun _ _=>none))) (x:=ob1) (y:=((e2):aj)) (R:=r3) (i:=(Wx [(l2,c3),(l3,c4)])) (xs:=[.tmp 73]) _ J (ht J) q_r3 ⟨(ht J),aT⟩ (fun _=>J))))) J fun i2=>?_;refine(show RG _ _ _ _ [bx (rH bn [(1,aR (i2.h 0).1 (i2.h 0).2 r3.2.kinds.length),(2,aR (i2.h 1).1 (i2.h 1).2 r3.2.first.length)]) 115 b r3.2,dT nP 39 (i2.h 0).1 (i2.h 0).2 r3.2.kinds,dT cd 3 (i2.h 1).1 (i2.h 1).2 r3.2.first,e1,nO (wY (fun y:(aE→aj→Option (((List Int)×Bool)×aE))=>dJ aQ pE (dw b) oV y)) nN b1 none os7 LU] ((74,tT [mv r3.1.1,iR r3.1.2])::_)from ?_);refine aG J<|zo J (gp J J)<|zo J (gp J J)<|bp J<|bp J<|aP<|aK<|aK<|aK<|fh<|fh ?_;exact cw (K1 r3.1.2 r3.1.1 r3.2 (i2.h 0).1 (i2.h 0).2 (i2.h 1).1 (i2.h 1).2 h) (bu J)
    ·refine bA ?_;exact cw (K1 ok ([]) ob1 l2 c3 l3 c4 h) (bu J)
  ·skip
   refine aw<|aG J<|av<|cU h J (fun h=>?_) (fun h=>?_)
   ·refine aw<|zo J (cD)<|av<|aw<|zo J (li kP (ht J))<|aG J<|bC h fun r4 q_r4 h=>Ar (EffOK.fr4 (EffOK.fr4 (EffOK.fr4 (Qj (xs:=[.tmp 55,.tmp 56]) (ts:=[tV (aN b 0),bM (i:Int)]) (dw b ob (Wx [(l,c1),(l1,c2)])) _ J abm (YG b (Wx [(l,c1),(l1,c2)]) ob _ q_r4) ⟨(ht J),(ht J),aT⟩ (fun _=>J))))) J fun i3=>?_;refine(show RG _ _ _ _ [bx (rH bn [(1,aR l c1 ob.kinds.length),(2,aR l1 c2 ob.first.length)]) 115 b ob,dT nP 39 l c1 ob.kinds,dT cd 3 l1 c2 ob.first,e1,nO (wY (fun y:(aE→aj→Option (((List Int)×Bool)×aE))=>dJ aQ pE (dw b) oV y)) nN b1 none os7 LU] ((57,tT [bM r4.1,iR r4.2])::_)from ?_);refine aG J<|zo J (gp J J)<|zo J (gp J J)<|bp J<|bp J<|av<|bC h fun l7 q_l7 h=>?_
    refine o9 8 [tc (tV (aN b 0)),tc (tV (aN b 0)),tc (tV (aN b 0)),tc (tV (aN b 2)),tc (tO cd l1 c2 ob.first),tc (bM r4.1),tc (mv ([r4.1])),([7],fun s=>tO cd ((s.getD 0 pS).h 0).1 ((s.getD 0 pS).h 0).2 l7)] [false,false,false,false,false,false,false,true] [fun _=>[bx (rH bn [(1,aR l c1 ob.kinds.length),(2,aR l1 c2 ob.first.length)]) 115 b ob,dT nP 39 l c1 ob.kinds,dT cd 3 l1 c2 ob.first,e1,nO (wY (fun y:(aE→aj→Option (((List Int)×Bool)×aE))=>dJ aQ pE (dw b) oV y)) nN b1 none os7 LU],fun sg1=>[dT cd 3 ((sg1 7).h 0).1 ((sg1 7).h 0).2 l7,bx (rH bn [(1,aR l c1 ob.kinds.length),(2,aR l1 c2 ob.first.length)]) 115 b ob,dT nP 39 l c1 ob.kinds,e1,nO (wY (fun y:(aE→aj→Option (((List Int)×Bool)×aE))=>dJ aQ pE (dw b) oV y)) nN b1 none os7 LU]] J mixed J J J J J
     ⟨⟨[⟨1,fun _=>bK (rT (tV (aN b 0))) (),none⟩],_,0,1,J,⟨(fun _=>J),aT⟩,J,J,J,J,J,fun _ sg1 _ _=>ay J (li kP (ht J))⟩,
     ⟨⟨[⟨1,fun _=>bK (rT (tV (aN b 0))) (),none⟩],_,0,0,J,⟨(fun _=>J),aT⟩,J,J,J,J,J,fun _ sg1 _ _=>ay J (li kP (ht J))⟩,
     ⟨⟨[⟨61,fun _=>tV (aN b 0),some 1⟩],_,0,0,J,⟨(fun _=>J),aT⟩,J,J,J,J,J,fun _ sg1 _ _=>ay J (dB (ht J))⟩,
     ⟨⟨[⟨62,fun _=>tV (aN b 0),some 2⟩],_,0,0,J,⟨(fun _=>J),aT⟩,J,J,J,J,J,fun _ sg1 _ _=>ay J (jN 2 uD J J J)⟩,
     ⟨⟨[⟨63,fun _=>tV (aN b 2),some 3⟩],_,0,0,J,⟨(fun _=>J),aT⟩,J,J,J,J,J,zS (fun sg1=>ay J (dd d9 J (.head _) (.tail _ (.tail _ (.head _))) (ht J)))⟩,
     ⟨⟨[⟨9,fun _=>tD cd r4.1,none⟩],_,0,0,J,⟨(fun _=>J),aT⟩,J,J,J,J,J,fun _ sg1 _ _=>ay J (dl J)⟩,
     ⟨⟨[⟨65,fun _=>tD cd r4.1,some 5⟩],_,0,0,J,⟨(fun _=>J),aT⟩,J,J,J,J,J,fun _ sg1 _ _=>ay J (aS (r:=cd) (ys:=[r4.1]) (xs:=[.tmp 65]) gT cx J J J J J ⟨(ht J),aT⟩)⟩,
     ⟨⟨[⟨64,fun _=>tO cd l1 c2 ob.first,some 4⟩,⟨66,fun _=>tD xp ([r4.1]),some 6⟩],_,J,⟨(fun _=>J),(fun _=>J),aT⟩,J,J,J,fun sg1=>ei J (EffOK.fr2 (uF cx J J J J gT J (ht J) (ht J) q_l7))⟩,
     aT⟩⟩⟩⟩⟩⟩⟩⟩ (fun sg1=>?_)
    refine(show RG _ _ _ _ [dT cd 3 ((sg1 7).h 0).1 ((sg1 7).h 0).2 l7,bx (rH bn [(1,aR l c1 ob.kinds.length),(2,aR l1 c2 ob.first.length)]) 115 b ob,dT nP 39 l c1 ob.kinds,e1,nO (wY (fun y:(aE→aj→Option (((List Int)×Bool)×aE))=>dJ aQ pE (dw b) oV y)) nN b1 none os7 LU] _ from ?_);refine zo J (dB (ht J))<|zo J (jN 2 uD J J J)<|wC (EffOK.fr1 (wt (hs' :=[(1,aR l c1 ob.kinds.length),(2,aR ((sg1 7).h 0).1 ((sg1 7).h 0).2 l7.length)]) (u:=aR ((sg1 7).h 0).1 ((sg1 7).h 0).2 l7.length) d9 J J H9 J ⟨.inr ⟨J,J⟩,.inl ⟨J,J,J⟩,aT⟩ (ht J) (kz (ht J)) (H5 (ht J)))) fun i4=>?_;refine(show RG _ _ _ _ [bx (rH bn [(1,aR l c1 ob.kinds.length),(2,aR ((sg1 7).h 0).1 ((sg1 7).h 0).2 l7.length)]) 115 b ({ob with first:=l7}:aE),dT cd 3 ((sg1 7).h 0).1 ((sg1 7).h 0).2 l7,dT nP 39 l c1 ob.kinds,e1,nO (wY (fun y:(aE→aj→Option (((List Int)×Bool)×aE))=>dJ aQ pE (dw b) oV y)) nN b1 none os7 LU] _ from ?_);refine aP<|bD<|aK<|aK<|fh<|fh ?_;exact cw (K r4.2 ({ob with first:=l7}:aE) l c1 ((sg1 7).h 0).1 ((sg1 7).h 0).2 h) (bu J)
   ·refine bA ?_;exact cw (K t ob l c1 l1 c2 h) (bu J)

end Go.Proofs.YtfhhakidodmdfaaGreatDoor

