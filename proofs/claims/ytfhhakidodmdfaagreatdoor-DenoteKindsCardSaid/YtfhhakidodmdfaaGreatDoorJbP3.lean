/- db of this claim: P3. -/
import Derived.Test.YtfhhakidodmdfaaGreatDoorJbT
import Derived.Test.YtfhhakidodmdfaaGreatDoorJbP2
set_option linter.all false
namespace Go.Proofs.YtfhhakidodmdfaaGreatDoor
open Go
set_option maxRecDepth 100000

theorem UC(in1:(List Int))(o:gL){R:Bool}(h:kH in1 o=some R):aU aO 286 [tD gG o,bO nw in1] (ig R):=by
 refine aU.of Tryz.func286 J J J fun w0 S0=>au<|zo J (je J)<|zo J (jj)<|aq<|au<|zo J (cW Ij AX J J)<|zo J (bB cr J J)<|zo J (gJ (ht J) hI)<|aF J<|gD J J (fun hg=>cW Ij AX J J)<|gD J J (fun hg=>bJ cr J J (bK J hg))<|gD J J (fun hg=>bB d9 J J)<|gD J J (fun hg=>dO gM (bK J hg))<|gD J J (fun hg=>iu (bK J hg) (bK J hg))<|zo J (yO J J)<|bp J<|aq<|ak ?_;cases so h;exact aG J J

theorem Yi(b:Nat)(ix:OI)(c:aE)(n:am){R:(List Int)×Bool}(h:gw c n=some R):c0 aO 209 [tV (aP b 0),tD aI n] (dB b c ix) (fun _:OI=>tT [lW R.1,ig R.2]) (fun _=>(dB b c ix)):=by
 refine c0.of Tryz.func209 J J J fun w0 S0=>?_;refine(show CG _ _ _ [bx (rH bk [(1,aR (ix.h 0).1 (ix.h 0).2 c.kinds.length),(2,aR (ix.h 1).1 (ix.h 1).2 c.first.length)]) 115 b c,dV nw 39 (ix.h 0).1 (ix.h 0).2 c.kinds,dV bX 3 (ix.h 1).1 (ix.h 1).2 c.first] _ from ?_);refine au<|zo J (je J)<|zo J (aL (show aJ _ _ _ wN from j9))<|zo J (jj)<|aq<|ah<|bC h fun e q_e h=>?_
 refine oM 9 [tc (tV (aP b 0)),tc (tV (aP b 0)),tc (tV (aP b 1)),tc (tO nw (ix.h 0).1 (ix.h 0).2 c.kinds),tc (bO bX n.A),tc (bM n.A),tc (bO nw e),tc (lW e),([8],fun s=>tV (aP ((s.getD 0 pE).h 0).2 0))] [false,false,false,false,false,false,false,false,true] [fun _=>[bx (rH bk [(1,aR (ix.h 0).1 (ix.h 0).2 c.kinds.length),(2,aR (ix.h 1).1 (ix.h 1).2 c.first.length)]) 115 b c,dV nw 39 (ix.h 0).1 (ix.h 0).2 c.kinds,dV bX 3 (ix.h 1).1 (ix.h 1).2 c.first],fun sg=>[bx nw 39 ((sg 8).h 0).2 ([]),bx (rH bk [(1,aR (ix.h 0).1 (ix.h 0).2 c.kinds.length),(2,aR (ix.h 1).1 (ix.h 1).2 c.first.length)]) 115 b c,dV nw 39 (ix.h 0).1 (ix.h 0).2 c.kinds,dV bX 3 (ix.h 1).1 (ix.h 1).2 c.first]] J mixed J J J J J
  ⟨⟨[⟨0,fun _=>tV (aP b 0),none⟩],_,0,1,J,⟨(fun _=>J),aT⟩,J,J,J,J,J,fun _ sg _ _=>aB J (dA J)⟩,
  ⟨⟨[⟨9,fun _=>tV (aP b 0),some 0⟩],_,0,1,J,⟨(fun _=>J),aT⟩,J,J,J,J,J,fun _ sg _ _=>aB J (dE (ht J))⟩,
  ⟨⟨[⟨10,fun _=>tV (aP b 0),some 1⟩],_,0,1,J,⟨(fun _=>J),aT⟩,J,J,J,J,J,fun _ sg _ _=>aB J (kP 1 nt J J J)⟩,
  ⟨⟨[⟨11,fun _=>tV (aP b 1),some 2⟩],_,0,1,J,⟨(fun _=>J),aT⟩,J,J,J,J,J,FK (fun sg=>aB J (df sN J (.head _) (.tail _ (.head _)) (ht J))) (zj (fun sg=>aB J (df sN J (.tail _ (.head _)) (.tail _ (.tail _ (.head _))) (ht J))))⟩,
  ⟨⟨[⟨3,fun _=>bO aI n,none⟩],_,0,1,J,⟨(fun _=>J),aT⟩,J,J,J,J,J,fun _ sg _ _=>aB J (cW jT dP J J)⟩,
  ⟨⟨[⟨13,fun _=>bO bX n.A,some 4⟩],_,0,1,J,⟨(fun _=>J),aT⟩,J,J,J,J,J,fun _ sg _ _=>aB J (bB cr J J)⟩,
  ⟨⟨[⟨12,fun _=>tO wM (ix.h 0).1 (ix.h 0).2 c.kinds,some 3⟩,⟨14,fun _=>tD bX n.A,some 5⟩],_,0,1,J,⟨(fun _=>J),(fun _=>J),aT⟩,J,J,J,J,J,fun _ sg _ _=>aB J (bq vv d9 J (lk (ht J)) (ht J) q_e)⟩,
  ⟨⟨[⟨15,fun _=>bO wM e,some 6⟩],_,0,1,J,⟨(fun _=>J),aT⟩,J,J,J,J,J,fun _ sg _ _=>aB J (bB d9 J J)⟩,
  ⟨⟨[],_,J,aT,J,J,J,fun sg=>eC J (ye (r:=wM) (x:=[]) d9 (fun _=>⟨none,0,J,dK _,lC _,.inl J⟩))⟩,
  aT⟩⟩⟩⟩⟩⟩⟩⟩⟩ (fun sg=>?_)
 refine(show RG _ _ _ _ [bx nw 39 ((sg 8).h 0).2 ([]),bx (rH bk [(1,aR (ix.h 0).1 (ix.h 0).2 c.kinds.length),(2,aR (ix.h 1).1 (ix.h 1).2 c.first.length)]) 115 b c,dV nw 39 (ix.h 0).1 (ix.h 0).2 c.kinds,dV bX 3 (ix.h 1).1 (ix.h 1).2 c.first] _ from ?_);refine ax d9 J an J (ht J) (ht J)<|aW 6 J<|aq<|au<|zo J ((show bP _ _ _ _ ((dn aO Qo ko (fun(x:gL)=>(kH e) x)))from hJ (cts:=[bO nw e]) (caps:=[.tmp 6]) aay ⟨(ht J),aT⟩ (fun x y h=>UC _ _ h)))<|bp J<|aq<|au<|zo J (cW ub pw J J)<|zo J (bB Hy J J)<|zo J (iM Dy J)<|zo J (nN (ht J) hI)<|aF J<|bC h fun t q_t h=>dC J J (fun hg=>cW ub pw J J)<|dC J J (fun hg=>bJ Hy J J (bK J hg))<|dC J J (fun hg=>dA J) ?_
 obtain⟨r,h1t,h0t⟩:=og q_t
 have q_rg:=fun hb=>(h1t hb).1
 refine dC J J (fun hg=>aD abz (Vk _ _ (q_rg hg)) ⟨(bK J hg),(bK J hg),aT⟩)<|dC J J (fun hg=>fS (bK J hg))<|zo J (d4 (ht J) (fun hb=>(bK J hb)) (fun hb=>(h1t hb).2) h0t)<|aF J<|dC J J (fun hg=>cW AY ua J J)<|dC J J (fun hg=>bJ cr J J (bK J hg))<|dC J J (fun hg=>iu (bK J hg) hI)<|zo J (uK J J)<|aF J<|dC J J (fun hg=>cW AY ua J J)<|dC J J (fun hg=>bJ cr J J (bK J hg))<|dC J J (fun hg=>nN (bK J hg) hI)<|zo J (uK J J)<|bp J<|aq<|ah ?_
 refine cU (ts:=[_,_,_,_,_,_,_,_,_,_,_,_,_,_,_,_,_,_,_]) mixed J J
  ⟨fd 6 J J J (bB d9 J J),
  ⟨fd 8 J J J (dA J),
  ⟨bW 40 1 J J J (dA J),
  ⟨q5 0 41 2 J J J J (dY J J J J (fun hg=>dA J)),
  ⟨lh 42 3 41 2 J J J J (dY J J J J (fun hg=>dE (bK J hg))),
  ⟨lh 43 4 41 2 J J J J (dY J J J J (fun hg=>oF (n:=1) nt J (bK J hg) J)),
  ⟨lh 44 5 41 2 J J J J (dY J J J J (fun hg=>df sN J (.head _) (.tail _ (.head _)) (bK J hg))),
  ⟨lh 45 6 41 2 J J J J (dY J J J J (fun hg=>dO vv (lk (bK J hg)))),
  ⟨q5 0 41 2 J J J J (dY J J J J (fun hg=>dA J)),
  ⟨lh 47 8 41 2 J J J J (dY J J J J (fun hg=>dE (bK J hg))),
  ⟨lh 48 9 41 2 J J J J (dY J J J J (fun hg=>oF (n:=0) Ik J (bK J hg) J)),
  ⟨lh 49 10 41 2 J J J J (dY J J J J (fun hg=>oF (n:=0) qG J (bK J hg) J)),
  ⟨lh 50 11 41 2 J J J J (dY J J J J (fun hg=>cd (r:=rH bk [(1,aR (ix.h 0).1 (ix.h 0).2 c.kinds.length),(2,aR (ix.h 1).1 (ix.h 1).2 c.first.length)]) (x:=c) BD J J (T7 (vb vU kz)) (.head _) (bK J hg))),
  ⟨lh 51 12 41 2 J J J J (dY J J J J (fun hg=>dO uF (bK J hg))),
  ⟨lh 52 13 41 2 J J J J (dY J J J J (fun hg=>jp (bK J hg) hI)),
  ⟨tK 46 7 53 14 41 2 J J J J J (dY J J J J (fun hg=>dL (bK J hg) (bK J hg))),
  ⟨d8 41 2 54 15 J J J J (uK J J),
  ⟨bW 39 0 J J J (uM J),
  ⟨bW 55 16 J J J (uM J),
  aT⟩⟩⟩⟩⟩⟩⟩⟩⟩⟩⟩⟩⟩⟩⟩⟩⟩⟩⟩ ?_
 refine aw<|ak<|aK<|aK<|aK ?_;cases so h;exact d7 (ts:=[lW e,ig (((t&&(decide (vz≤n.Limit)))&&(decide (n.Limit≤(2147483647:Int))))&&((c.kinds.length:Int)==(IntKind.i64.wrap ((c.Logic.Nodes.length:Int)-(1:Int)))))]) (rvs:=[.tmp 4,.tmp 5]) J J ⟨bc J,bc J,aT⟩ pE J J

theorem U1(n:am){R:Bool}(h:s4 n=some R):aU aO 210 [tD aI n] (ig R):=by
 refine aU.of Tryz.func210 J J J fun w0 S0=>au<|zo J (je J)<|zo J (jj)<|aq<|au<|zo J (cW uC mC J J)<|zo J (bB cr J J)<|zo J (np J)<|aF J<|dC J J (fun hg=>cW uB nS J J)<|dC J J (fun hg=>bJ d9 J J (bK J hg))<|dC J J (fun hg=>dO gM (bK J hg))<|dC J J (fun hg=>dL (bK J hg) hI)<|zo J (uK J J)<|aF J<|dC J J (fun hg=>cW Mz EX J J)<|dC J J (fun hg=>bJ Ji J J (bK J hg))<|dC J J (fun hg=>fS (bK J hg))<|zo J (uK J J)<|aF J ?_;refine dC J J (fun hg=>cW tg mB J J)<|dC J J (fun hg=>sb ow J ke J (bK J hg))<|dC J J (fun hg=>bJ yz J J (bK J hg))<|dC J J (fun hg=>dO uq (bK J hg))<|dC J J (fun hg=>dL (bK J hg) hI)<|zo J (uK J J)<|aF J<|dC J J (fun hg=>cW tf mA J J)<|dC J J (fun hg=>bJ d9 J J (bK J hg))<|dC J J (fun hg=>dO gM (bK J hg))<|dC J J (fun hg=>dL (bK J hg) hI)<|zo J (uK J J)<|aF J<|dC J J (fun hg=>cW p8 mz J J)<|dC J J (fun hg=>bJ Ar J J (bK J hg))<|dC J J (fun hg=>dO uE (bK J hg))<|dC J J (fun hg=>dL (bK J hg) hI)<|zo J (uK J J)<|aF J<|dC J J (fun hg=>cW p7 lu J J)<|dC J J (fun hg=>bJ zl J J (bK J hg))<|dC J J (fun hg=>dO vu (bK J hg))<|dC J J (fun hg=>dL (bK J hg) hI)<|zo J (uK J J) ?_;refine aF J<|dC J J (fun hg=>cW ub pw J J)<|dC J J (fun hg=>bJ Hy J J (bK J hg))<|dC J J (fun hg=>dO Dy (bK J hg))<|dC J J (fun hg=>dL (bK J hg) hI)<|zo J (uK J J)<|aF J<|dC J J (fun hg=>cW AY ua J J)<|dC J J (fun hg=>bJ cr J J (bK J hg))<|dC J J (fun hg=>dL (bK J hg) hI)<|zo J (uK J J)<|bp J<|aq<|ak ?_;cases so h;exact aG J J

theorem U0(n:am){R:am}(h:s5 n=some R):aU aO 211 [tD aI n] (tD aI R):=by
 refine aU.of Tryz.func211 J J J fun w0 S0=>au<|ym (ht J) J fun b=>aZ (r:=aI) (x:=Ho) gN (fun _=>ny _) J fun b1=>aq<|ah<|au<|zo J (kP 0 zI J J J)<|zo J (cd cr J J o8 (.tail _ (.head _)) (ht J))<|aq<|ay<|au<|zo J (np J)<|bp J<|aq<|c9 h J (fun h=>?_) (fun h=>?_)
 ·refine av<|zo J (kP 3 uC J J J)<|bL<|ax cr J LJ J (ht J) hI<|zo J (kP 4 uB J J J)<|ax d9 J zu J (ht J) j9<|aQ<|ap<|aw<|au<|zo rfl (cd gN rfl rfl bS (.head _) (ht rfl))<|bL<|ax gN rfl an rfl (ht rfl) (ht rfl)<|aW 2 rfl<|aq<|ak<|bm ?_;cases so h;exact iS J gN J J J
 ·refine au<|zo J (np J)<|bp J<|aq<|c9 h J (fun h=>?_) (fun h=>?_)
  ·refine av<|zo J (ck (y:=By) jC XQ rP (J))<|zo J (kP 5 Mz J J J)<|bL<|ax Ji J LI J (ht J) hB<|zo J (kP 6 tg J J J)<|ax jC J zt J (ht J) (ht J)<|aQ<|ap<|aw<|au<|zo rfl (cd gN rfl rfl bS (.head _) (ht rfl))<|bL<|ax gN rfl an rfl (ht rfl) (ht rfl)<|aW 2 rfl<|aq<|ak<|bm ?_;cases so h;exact iS J gN J J J
  ·refine au<|zo J (np J)<|bp J<|aq<|c9 h J (fun h=>?_) (fun h=>?_)
   ·refine av<|zo J (ck (y:=By) jC XQ rP (J))<|zo J (kP 6 tg J J J)<|bL<|ax jC J zt J (ht J) (ht J)<|aQ<|ap<|aw<|au<|zo rfl (cd gN rfl rfl bS (.head _) (ht rfl))<|bL<|ax gN rfl an rfl (ht rfl) (ht rfl)<|aW 2 rfl<|aq<|ak<|bm ?_;cases so h;exact iS J gN J J J
   ·refine au<|zo J (np J)<|bp J<|aq<|c9 h J (fun h=>?_) (fun h=>?_)
    ·refine av<|zo J (kP 7 tf J J J)<|bL<|ax d9 J D6 J (ht J) j9<|zo J (kP 8 p8 J J J)<|ax Ar J D5 J (ht J) j9<|aQ<|ap<|aw<|au<|zo rfl (cd gN rfl rfl bS (.head _) (ht rfl))<|bL<|ax gN rfl an rfl (ht rfl) (ht rfl)<|aW 2 rfl<|aq<|ak<|bm ?_;cases so h;exact iS J gN J J J
    ·refine au<|zo J (np J)<|bp J<|aq<|c9 h J (fun h=>?_) (fun h=>?_)
     ·refine av<|zo J (kP 9 p7 J J J)<|bL<|ax zl J LH J (ht J) j9<|aQ<|ap<|aw<|au<|zo rfl (cd gN rfl rfl bS (.head _) (ht rfl))<|bL<|ax gN rfl an rfl (ht rfl) (ht rfl)<|aW 2 rfl<|aq<|ak<|bm ?_;cases so h;exact iS J gN J J J
     ·refine au<|zo J (np J)<|bp J<|aq<|c9 h J (fun h=>?_) (fun h=>?_)
      ·refine av<|zo J (kP 10 ub J J J)<|bL<|ax Hy J Cy J (ht J) j9<|zo J (kP 11 AY J J J)<|ax cr J Jr J (ht J) hI<|aQ<|ap<|aw<|au<|zo rfl (cd gN rfl rfl bS (.head _) (ht rfl))<|bL<|ax gN rfl an rfl (ht rfl) (ht rfl)<|aW 2 rfl<|aq<|ak<|bm ?_;cases so h;exact iS J gN J J J
      ·refine bA<|ap<|aw<|au<|zo rfl (cd gN rfl rfl bS (.tail _ (.head _)) (ht rfl))<|ax gN rfl an rfl (ht rfl) (ht rfl)<|aW 2 rfl<|aq<|ak<|bm ?_;cases so h;exact iS J gN J J J

theorem UB(op:Int){R:Int}(h:tX op=some R):aU aO 287 [bM op] (bM R):=by
 refine aU.of Tryz.func287 J J J fun w0 S0=>au<|zo J (cw)<|aq<|ah<|au<|aF J<|aq<|ay<|au<|zo J (np J)<|bp J<|aq<|c9 h J (fun h=>?_) (fun h=>?_)
 ·refine au<|zo J (cw)<|aq<|ak ?_;refine aA (ae ?_);cases so h;exact aG J J
 ·refine kV (Z:=fun x=>pX x=some R) (Of:=fun x=>[]) (Gf:=fun x=>[(6,ig x)]) (fun x h=>?_) (fun K=>?_)
  ·skip
   refine c9 h J (fun h=>?_) (fun h=>?_)
   ·refine au<|zo J (cw)<|aq<|ak ?_;refine aA (ae ?_);cases so h;exact aG J J
   ·refine bA<|ap<|aw<|au<|zo rfl (cw)<|aq<|ak ?_;cases so h;exact aG J J
  ·skip
   refine au<|zo J (np J)<|bp J<|aq<|c9 h J (fun h=>?_) (fun h=>?_)
   ·refine bA ?_;exact cO (K (op==(2:Int)) h) (bv J)
   ·refine av<|zo J (np J)<|bp J<|aQ ?_;exact cO (K (op==(7:Int)) h) (bv J)

theorem Yh(b:Nat)(ix:OI)(c:aE)(i:Int){R:Int×Bool}(h:jI c i=some R):c0 aO 212 [tV (aP b 0),bM i] (dB b c ix) (fun _:OI=>tT [bM R.1,ig R.2]) (fun _=>(dB b c ix)):=by
 refine c0.of Tryz.func212 J J J fun w0 S0=>?_;refine(show CG _ _ _ [bx (rH bk [(1,aR (ix.h 0).1 (ix.h 0).2 c.kinds.length),(2,aR (ix.h 1).1 (ix.h 1).2 c.first.length)]) 115 b c,dV nw 39 (ix.h 0).1 (ix.h 0).2 c.kinds,dV bX 3 (ix.h 1).1 (ix.h 1).2 c.first] _ from ?_);refine au<|zo J (cw)<|zo J (jj)<|aq<|au<|aF J<|zo J (dE (ht J))<|zo J (kP 0 Ik J J J)<|zo J (kP 0 qG J J J)<|zo J (cd (r:=rH bk [(1,aR (ix.h 0).1 (ix.h 0).2 c.kinds.length),(2,aR (ix.h 1).1 (ix.h 1).2 c.first.length)]) (x:=c) BD J J (T7 (vb vU kz)) (.head _) (ht J))<|aF J<|bC h fun e q_e h=>zo J (lX uF gN J J J q_e)<|zo J (bB gN J J)<|aZ (r:=aI) (x:=Ho) gN (fun _=>ny _) J fun b1=>ax gN J an J (ht J) (ht J)<|aW 6 J<|aq<|ah<|ah ?_;refine av<|zo J (cW zI o8 J J)<|zo J (bB cr J J)<|bC h fun r q_r h=>zo J (aD aax (UB _ q_r) ⟨(ht J),aT⟩)<|aq<|ay<|au<|zo J (np J)<|bp J<|aq<|c9 h J (fun h=>?_) (fun h=>?_)
 ·refine ah ?_
  refine cU (ts:=[_,_,_,_,_,_,_,_,_,_,_]) mixed J J
   ⟨fd 1 J J J (dA J),
   ⟨fd 6 J J J (cW jT dP J J),
   ⟨bW 21 1 J J J (bB cr J J),
   ⟨bW 22 2 J J J (np J),
   ⟨bW 23 3 J J J (dA J),
   ⟨q5 6 24 4 J J J J (dY J J J J (fun hg=>cW rG kC J J)),
   ⟨lh 25 5 24 4 J J J J (dY J J J J (fun hg=>bJ cr J J (bK J hg))),
   ⟨lh 26 6 24 4 J J J J (dY J J J J (fun hg=>dL (bK J hg) hI)),
   ⟨d8 24 4 27 7 J J J J (uK J J),
   ⟨bW 20 0 J J J (uM J),
   ⟨bW 28 8 J J J (uM J),
   aT⟩⟩⟩⟩⟩⟩⟩⟩⟩⟩⟩ ?_
  refine aw<|ak ?_;refine aA (ae ?_);refine aK<|aK<|aK ?_;cases so h;exact d7 (ts:=[bM i,ig ((e.A==vz)&&(e.B==vz))]) (rvs:=[.tmp 4,.tmp 5]) J J ⟨bc J,bc J,aT⟩ pE J J
 ·refine au<|zo J (np J)<|bp J<|aq<|c9 h J (fun h=>?_) (fun h=>?_)
  ·refine ah<|au<|zo J (cW jT dP J J)<|zo J (bB cr J J)<|aF J<|zo J (jp (ht J) hI)<|zo J (fj (ht J) (ht J))<|aF J<|gD J J (fun hg=>cW rG kC J J)<|gD J J (fun hg=>bJ cr J J (bK J hg))<|gD J J (fun hg=>fj (bK J hg) hI)<|zo J (yO J J)<|aF J<|gD J J (fun hg=>dA J)<|gD J J (fun hg=>dL (bK J hg) hI)<|zo J (yO J J)<|aq<|c9 h J (fun h=>?_) (fun h=>?_)
   ·refine au<|zo J (cw)<|zo J (jj)<|aq<|ak ?_;refine ae (aA (ae ?_));refine aK<|aK<|aK ?_;cases so h;exact d7 (ts:=[bM 0,ig false]) (rvs:=[.tmp 4,.tmp 5]) J J ⟨bc J,bc J,aT⟩ pE J J
   ·refine dS<|ah<|bC h fun e1 q_e1 h=>?_
    refine cU (ts:=[_,_,_,_,_,_,_,_,_,_]) mixed J J
     ⟨fd 0 J J J (dA J),
     ⟨bW 45 0 J J J (dE (ht J)),
     ⟨bW 46 1 J J J (kP 2 uc J J J),
     ⟨bW 47 2 J J J (df d9 J (.head _) (.tail _ (.tail _ (.head _))) (ht J)),
     ⟨fd 6 J J J (cW jT dP J J),
     ⟨bW 49 4 J J J (bB cr J J),
     ⟨d8 48 3 50 5 J J J J (bq gM cr J (lk (ht J)) (ht J) q_e1),
     ⟨bW 51 6 J J J (bB cr J J),
     ⟨bW 52 7 J J J (uM J),
     ⟨O4 J J (jj),
     aT⟩⟩⟩⟩⟩⟩⟩⟩⟩⟩ ?_
    refine aw<|ak ?_;refine aA (ae ?_);refine aK<|aK<|aK ?_;cases so h;exact d7 (ts:=[bM e1,ig true]) (rvs:=[.tmp 4,.tmp 5]) J J ⟨bc J,bc J,aT⟩ pE J J
  ·refine bA<|ap<|aw<|ah<|ah<|bC h fun t q_t h=>?_
   obtain⟨e2,h1t,h0t⟩:=og q_t
   have q_e2g:=fun hb=>(h1t hb).1
   refine cU (ts:=[_,_,_,_,_,_,_,_,_,_,_,_,_,_,_,_,_,_,_,_,_,_,_,_,_,_,_,_]) mixed J J
    ⟨fd 6 J J J (cW rG kC J J),
    ⟨bW 53 0 J J J (bB cr J J),
    ⟨fd 1 J J J (dA J),
    ⟨bW 55 2 J J J (jp (ht J) hI),
    ⟨d8 54 1 56 3 J J J J (fj (ht J) (ht J)),
    ⟨bW 57 4 J J J (dA J),
    ⟨q5 1 58 5 J J J J (kM J J J J (fun hg=>dA J)),
    ⟨lh 59 6 58 5 J J J J (kM J J J J (fun hg=>dL (bK J hg) hI)),
    ⟨d8 58 5 60 7 J J J J (yO J J),
    ⟨bW 61 8 J J J (dA J),
    ⟨q5 6 62 9 J J J J (kM J J J J (fun hg=>cW jT dP J J)),
    ⟨lh 63 10 62 9 J J J J (kM J J J J (fun hg=>bJ cr J J (bK J hg))),
    ⟨q5 0 62 9 J J J J (kM J J J J (fun hg=>dA J)),
    ⟨lh 65 12 62 9 J J J J (kM J J J J (fun hg=>dE (bK J hg))),
    ⟨lh 66 13 62 9 J J J J (kM J J J J (fun hg=>oF (n:=2) uc J (bK J hg) J)),
    ⟨lh 67 14 62 9 J J J J (kM J J J J (fun hg=>df d9 J (.head _) (.tail _ (.tail _ (.head _))) (bK J hg))),
    ⟨q5 6 62 9 J J J J (kM J J J J (fun hg=>cW rG kC J J)),
    ⟨lh 69 16 62 9 J J J J (kM J J J J (fun hg=>bJ cr J J (bK J hg))),
    ⟨tK 68 15 70 17 62 9 J J J J J (kM J J J J (fun hg=>bq gM cr J (lk (bK J hg)) (bK J hg) (q_e2g hg))),
    ⟨lh 71 18 62 9 J J J J (kM J J J J (fun hg=>bJ cr J J (bK J hg))),
    ⟨lh 72 19 62 9 J J J J (kM J J J J (fun hg=>jp (bK J hg) hI)),
    ⟨tK 64 11 73 20 62 9 J J J J J (kM J J J J (fun hg=>fj (bK J hg) (bK J hg))),
    ⟨d8 62 9 74 21 J J J J (ir (ht J) (fun hb=>(bK J (wv hb))) (fun hb=>(h1t hb).2) h0t),
    ⟨bW 75 22 J J J (dA J),
    ⟨q5 6 76 23 J J J J (kM J J J J (fun hg=>cW jT dP J J)),
    ⟨lh 77 24 76 23 J J J J (kM J J J J (fun hg=>bJ cr J J (bK J hg))),
    ⟨lh 78 25 76 23 J J J J (kM J J J J (fun hg=>gJ (bK J hg) hI)),
    ⟨d8 76 23 79 26 J J J J (yO J J),
    aT⟩⟩⟩⟩⟩⟩⟩⟩⟩⟩⟩⟩⟩⟩⟩⟩⟩⟩⟩⟩⟩⟩⟩⟩⟩⟩⟩⟩ ?_
   refine aw<|c9 h rfl (fun h=>?_) (fun h=>?_)
   ·refine au<|zo J (cw)<|zo J (jj)<|aq<|ak<|ae<|aK<|aK<|aK ?_;cases so h;exact d7 (ts:=[bM 0,ig false]) (rvs:=[.tmp 4,.tmp 5]) J J ⟨bc J,bc J,aT⟩ pE J J
   ·refine dS<|ah<|bC h fun e3 q_e3 h=>?_
    refine cU (ts:=[_,_,_,_,_,_,_,_,_,_]) mixed J J
     ⟨fd 0 J J J (dA J),
     ⟨bW 81 0 J J J (dE (ht J)),
     ⟨bW 82 1 J J J (kP 2 uc J J J),
     ⟨bW 83 2 J J J (df d9 J (.head _) (.tail _ (.tail _ (.head _))) (ht J)),
     ⟨fd 6 J J J (cW jT dP J J),
     ⟨bW 85 4 J J J (bB cr J J),
     ⟨d8 84 3 86 5 J J J J (bq gM cr J (lk (ht J)) (ht J) q_e3),
     ⟨bW 87 6 J J J (bB cr J J),
     ⟨bW 88 7 J J J (uM J),
     ⟨O4 J J (jj),
     aT⟩⟩⟩⟩⟩⟩⟩⟩⟩⟩ ?_
    refine aw<|ak<|aK<|aK<|aK ?_;cases so h;exact d7 (ts:=[bM e3,ig true]) (rvs:=[.tmp 4,.tmp 5]) J J ⟨bc J,bc J,aT⟩ pE J J

theorem RR(b:Nat)(ix:OI)(c:aE):Bp aO 201 (fun(x:Int×Bool)=>[bM x.1,ig x.2]) (fun _=>lA c) (dB b) (dB b c ix) [bO (rT (tV (aP b 0))) ()]:=by
 refine Bp.of Tryz.func201 J J J fun Sg yld s R h I yv hy e he w0 S0 B hB=>?_
 replace h:lA c yld s=some R:=h
 refine(show CG _ _ _ [e,bx (rH bk [(1,aR (ix.h 0).1 (ix.h 0).2 c.kinds.length),(2,aR (ix.h 1).1 (ix.h 1).2 c.first.length)]) 115 b c,dV nw 39 (ix.h 0).1 (ix.h 0).2 c.kinds,dV bX 3 (ix.h 1).1 (ix.h 1).2 c.first] _ from ?_);refine au<|zT (ww (fun y:(aE→am→Option (((List Int)×Bool)×aE))=>dN aO pg (dB b) oA y)) nu J fun b1=>zo J (la kK (ht J)) ?_
 refine qe ((show bP _ _ _ _ (dN aO pg (dB b) oA Xj)from jH aa8 (ht J) (fun c x R h i=>by
   obtain⟨r,h1,rfl⟩:=vx.1 h
   exact iF (Ob:=fun j=>dB b c j) (i:=i) (Yp _ i c _ h1)))) J ?_
 refine eJ (γ:=(fun y:(aE→am→Option (((List Int)×Bool)×aE))=>dN aO pg (dB b) oA y)) (y:=Xj) Am (d6 kW) (ht J) (nQ hI) (ht J) fun os=>zo J (la kK (ht J)) ?_
 refine qe ((show bP _ _ _ _ (dN aO pg (dB b) oA Xi)from jH aa7 (ht J) (fun c x R h i=>by
   obtain⟨r,h1,rfl⟩:=vx.1 h
   exact iF (Ob:=fun j=>dB b c j) (i:=i) (Yo _ i c _ h1)))) J ?_
 refine eJ (γ:=(fun y:(aE→am→Option (((List Int)×Bool)×aE))=>dN aO pg (dB b) oA y)) (y:=Xi) Am (d6 kW) (ht J) (nQ hI) (ht J) fun os1=>zo J (la kK (ht J)) ?_
 refine qe ((show bP _ _ _ _ (dN aO pg (dB b) oA Xn)from jH aa6 (ht J) (fun c x R h i=>by
   obtain⟨r,h1,rfl⟩:=vx.1 h
   exact iF (Ob:=fun j=>dB b c j) (i:=i) (Yn _ i c _ h1)))) J ?_
 refine eJ (γ:=(fun y:(aE→am→Option (((List Int)×Bool)×aE))=>dN aO pg (dB b) oA y)) (y:=Xn) Am (d6 kW) (ht J) (nQ hI) (ht J) fun os2=>zo J (la kK (ht J)) ?_
 refine qe ((show bP _ _ _ _ (dN aO pg (dB b) oA Xk)from jH aa5 (ht J) (fun c x R h i=>by
   obtain⟨r,h1,rfl⟩:=vx.1 h
   exact iF (Ob:=fun j=>dB b c j) (i:=i) (Ym _ i c _ h1)))) J ?_
 refine eJ (γ:=(fun y:(aE→am→Option (((List Int)×Bool)×aE))=>dN aO pg (dB b) oA y)) (y:=Xk) Am (d6 kW) (ht J) (nQ hI) (ht J) fun os3=>zo J (la kK (ht J)) ?_
 refine qe ((show bP _ _ _ _ (dN aO pg (dB b) oA Xo)from jH aa4 (ht J) (fun c x R h i=>by
   obtain⟨r,h1,rfl⟩:=vx.1 h
   exact iF (Ob:=fun j=>dB b c j) (i:=i) (Yl _ i c _ h1)))) J ?_
 refine eJ (γ:=(fun y:(aE→am→Option (((List Int)×Bool)×aE))=>dN aO pg (dB b) oA y)) (y:=Xo) Am (d6 kW) (ht J) (nQ hI) (ht J) fun os4=>zo J (la kK (ht J)) ?_
 refine qe ((show bP _ _ _ _ (dN aO pg (dB b) oA Xp)from jH aa3 (ht J) (fun c x R h i=>by
   obtain⟨r,h1,rfl⟩:=vx.1 h
   exact iF (Ob:=fun j=>dB b c j) (i:=i) (Yk _ i c _ h1)))) J ?_
 refine eJ (γ:=(fun y:(aE→am→Option (((List Int)×Bool)×aE))=>dN aO pg (dB b) oA y)) (y:=Xp) Am (d6 kW) (ht J) (nQ hI) (ht J) fun os5=>zo J (la kK (ht J)) ?_
 refine qe ((show bP _ _ _ _ (dN aO pg (dB b) oA Xm)from jH aa2 (ht J) (fun c x R h i=>by
   obtain⟨r,h1,rfl⟩:=vx.1 h
   exact iF (Ob:=fun j=>dB b c j) (i:=i) (Yj _ i c _ h1)))) J ?_
 refine eJ (γ:=(fun y:(aE→am→Option (((List Int)×Bool)×aE))=>dN aO pg (dB b) oA y)) (y:=Xm) Am (d6 kW) (ht J) (nQ hI) (ht J) fun os6=>zo J (la kK (ht J)) ?_
 refine qe ((show bP _ _ _ _ (dN aO pg (dB b) oA Xl)from jH aa1 (ht J) (fun c x R h i=>by
   obtain⟨r,h1,rfl⟩:=vx.1 h
   exact iF (Ob:=fun j=>dB b c j) (i:=i) (Yi _ i c _ h1)))) J ?_
 refine eJ (γ:=(fun y:(aE→am→Option (((List Int)×Bool)×aE))=>dN aO pg (dB b) oA y)) (y:=Xl) Am (d6 kW) (ht J) (nQ hI) (ht J) fun os7=>aF J<|bp J<|aq<|au<|zo J (la kK (ht J))<|zo J (dE (ht J))<|zo J (kP 0 Ik J J J)<|zo J (kP 0 qG J J J)<|zo J (cd (r:=rH bk [(1,aR (ix.h 0).1 (ix.h 0).2 c.kinds.length),(2,aR (ix.h 1).1 (ix.h 1).2 c.first.length)]) (x:=c) BD J J (T7 (vb vU kz)) (.tail _ (.tail _ (.head _))) (ht J))<|zo J (iM uF J)<|zo J (bD hI)<|aq<|ay<|ba (k:=33) J fun hN=>bI<|kU<|kU<|kU<|pz<|kU ?_;refine aS (K9 (Z:=fun ls i e1 s1 ob l c1 l1 c2=>(c.Logic.Nodes.drop i=ls)∧I s1 e1∧bE yld ls i s1 ob=some R) (Of:=fun _ i e1 s1 ob l c1 l1 c2=>[e1,nv (ww (fun y:(aE→am→Option (((List Int)×Bool)×aE))=>dN aO pg (dB b) oA y)) nu b1 none os7 Lr,bx (rH bk [(1,aR l c1 ob.kinds.length),(2,aR l1 c2 ob.first.length)]) 115 b ob,dV nw 39 l c1 ob.kinds,dV bX 3 l1 c2 ob.first]) (Gf:=fun _ i e1 s1 ob l c1 l1 c2=>[(0,tV yv),(1,bO (rT (tV (aP b 0))) ()),(3,tV (qA b1)),(33,ca (aI) c.Logic.Nodes),(34,jk c.Logic.Nodes),(35,bM (i:Int))]) (fun i e1 s1 ob l c1 l1 c2 h=>?_) (fun e2 tl ih i e1 s1 ob l c1 l1 c2 h=>?_) c.Logic.Nodes 0 e s c (ix.h 0).1 (ix.h 0).2 (ix.h 1).1 (ix.h 1).2 ⟨J,⟨he,h⟩⟩) (bv J)
 ·obtain⟨hx,h⟩:=h
  obtain⟨he1,h⟩:=h
  refine aC<|au<|zo J (fD J J)<|aq<|ah<|bz (ht J) (di hx)<|bu ?_;refine ai (ai (aN ?_));refine bF<|bm<|cK<|cK<|cK<|cK ?_;cases so h;exact Qi J he1 (Wa [(l,c1),(l1,c2)]) J
 ·obtain⟨hx,h⟩:=h
  obtain⟨he1,h⟩:=h
  refine aC<|au<|zo J (fD J J)<|aq<|ah<|bw (ht J) (dg hx)<|dS<|ah<|ay<|au<|aF J<|zo J (lX uF gN J J J (cS hx))<|zo J (bB gN J J)<|aZ (r:=aI) (x:=Ho) gN (fun _=>ny _) J fun b2=>bp J<|ax gN J an J (ht J) (ht J)<|aW 5 J<|aq<|ah ?_;refine av<|aF J<|zo J (cW zI o8 J J)<|zo J (bB cr J J)<|zo J (JT (γ:=(fun y:(aE→am→Option (((List Int)×Bool)×aE))=>dN aO pg (dB b) (fun(x:(List Int)×Bool)=>tT [tD wM x.1,tD rB x.2]) y)) (z:=fun _ _=>none) Am (d6 kW) YT (fun _=>Gq) (.tail _ (.head _)) (ht J) (nQ (ht J)))<|aF J<|zo J (hY J J)<|zo J (hY J J)<|bp J<|bp J<|aq<|au<|aF J<|aF J<|bC h fun t q_t h=>dC J J (fun hg=>bB gN J J) ?_
  obtain⟨r,h1t,h0t⟩:=og q_t
  have q_rg:=fun hb=>(h1t hb).1
  refine dC J J (fun hg=>aD aaZ (U0 _ (q_rg hg)) ⟨(bK J hg),aT⟩) ?_
  obtain⟨r1,h1t⟩:=XF (fun hb=>(h1t hb).2)
  have q_r1g:=fun hb=>(h1t hb).1
  refine dC J J (fun hg=>aD aa0 (U1 _ (q_r1g hg)) ⟨(bK J hg),aT⟩)<|zo J (d4 (ht J) (fun hb=>(bK J hb)) (fun hb=>(h1t hb).2) h0t)<|bp J<|aq ?_;refine Qe (Z:=fun ok ob1 l2 c3 l3 c4=>d5 yld (bE yld tl) i e2 s1 ok ob1=some R) (Of:=fun ok ob1 l2 c3 l3 c4=>[e1,nv (ww (fun y:(aE→am→Option (((List Int)×Bool)×aE))=>dN aO pg (dB b) oA y)) nu b1 none os7 Lr,bx (rH bk [(1,aR l2 c3 ob1.kinds.length),(2,aR l3 c4 ob1.first.length)]) 115 b ob1,dV nw 39 l2 c3 ob1.kinds,dV bX 3 l3 c4 ob1.first]) (Gf:=fun ok ob1 l2 c3 l3 c4=>[(0,tV yv),(1,bO (rT (tV (aP b 0))) ()),(3,tV (qA b1)),(4,bM (i:Int)),(5,bO aI e2),(6,dN aO pg (dB b) oA ((o6 Lr e2.Op).getD (fun _ _=>none))),(8,ig ok),(33,ca (aI) c.Logic.Nodes),(34,jk c.Logic.Nodes),(35,bM (i:Int))]) (fun ok ob1 l2 c3 l3 c4 h=>?_) (fun K=>?_)
  ·skip
   refine au<|zo J (aL (show aJ _ _ _ wN from j9))<|aq ?_;refine Qd (Z:=fun ok1 kinds ob2 l4 c5 l5 c6=>gi yld (bE yld tl) i s1 ok1 kinds ob2=some R) (Of:=fun ok1 kinds ob2 l4 c5 l5 c6=>[e1,nv (ww (fun y:(aE→am→Option (((List Int)×Bool)×aE))=>dN aO pg (dB b) oA y)) nu b1 none os7 Lr,bx (rH bk [(1,aR l4 c5 ob2.kinds.length),(2,aR l5 c6 ob2.first.length)]) 115 b ob2,dV nw 39 l4 c5 ob2.kinds,dV bX 3 l5 c6 ob2.first]) (Gf:=fun ok1 kinds ob2 l4 c5 l5 c6=>[(0,tV yv),(1,bO (rT (tV (aP b 0))) ()),(3,tV (qA b1)),(4,bM (i:Int)),(8,ig ok1),(10,lW kinds),(33,ca (aI) c.Logic.Nodes),(34,jk c.Logic.Nodes),(35,bM (i:Int))]) (fun ok1 kinds ob2 l4 c5 l5 c6 h=>?_) (fun K1=>?_)
   ·skip
    refine au<|aF J<|aF J<|dC J J (fun hg=>dA J)<|dC J J (fun hg=>dO gM (bK J hg))<|dC J J (fun hg=>nN (bK J hg) hI)<|zo J (uK J J)<|bp J<|aq<|ah<|bC h fun l6 q_l6 h=>?_
    refine oM 8 [tc (tV (aP b 0)),tc (tV (aP b 0)),tc (tV (aP b 0)),tc (tV (aP b 1)),tc (tO nw l4 c5 ob2.kinds),tc (lW kinds),tc (ca (nw) ([kinds])),([7],fun s=>tO nw ((s.getD 0 pE).h 0).1 ((s.getD 0 pE).h 0).2 l6)] [false,false,false,false,false,false,false,true] [fun _=>[e1,nv (ww (fun y:(aE→am→Option (((List Int)×Bool)×aE))=>dN aO pg (dB b) oA y)) nu b1 none os7 Lr,bx (rH bk [(1,aR l4 c5 ob2.kinds.length),(2,aR l5 c6 ob2.first.length)]) 115 b ob2,dV nw 39 l4 c5 ob2.kinds,dV bX 3 l5 c6 ob2.first],fun sg=>[dV nw 39 ((sg 7).h 0).1 ((sg 7).h 0).2 l6,e1,nv (ww (fun y:(aE→am→Option (((List Int)×Bool)×aE))=>dN aO pg (dB b) oA y)) nu b1 none os7 Lr,bx (rH bk [(1,aR l4 c5 ob2.kinds.length),(2,aR l5 c6 ob2.first.length)]) 115 b ob2,dV bX 3 l5 c6 ob2.first]] J mixed J J J J J
     ⟨⟨[⟨1,fun _=>bO (rT (tV (aP b 0))) (),none⟩],_,0,1,J,⟨(fun _=>J),aT⟩,J,J,J,J,J,fun _ sg _ _=>aB J (la kK (ht J))⟩,
     ⟨⟨[⟨1,fun _=>bO (rT (tV (aP b 0))) (),none⟩],_,0,0,J,⟨(fun _=>J),aT⟩,J,J,J,J,J,fun _ sg _ _=>aB J (la kK (ht J))⟩,
     ⟨⟨[⟨84,fun _=>tV (aP b 0),some 1⟩],_,0,0,J,⟨(fun _=>J),aT⟩,J,J,J,J,J,fun _ sg _ _=>aB J (dE (ht J))⟩,
     ⟨⟨[⟨85,fun _=>tV (aP b 0),some 2⟩],_,0,0,J,⟨(fun _=>J),aT⟩,J,J,J,J,J,fun _ sg _ _=>aB J (kP 1 nt J J J)⟩,
     ⟨⟨[⟨86,fun _=>tV (aP b 1),some 3⟩],_,0,0,J,⟨(fun _=>J),aT⟩,J,J,J,J,J,zj (fun sg=>aB J (df sN J (.tail _ (.tail _ (.head _))) (.tail _ (.tail _ (.tail _ (.head _)))) (ht J)))⟩,
     ⟨⟨[⟨10,fun _=>tD wM kinds,none⟩],_,0,0,J,⟨(fun _=>J),aT⟩,J,J,J,J,J,fun _ sg _ _=>aB J (dA J)⟩,
     ⟨⟨[⟨88,fun _=>tD wM kinds,some 5⟩],_,0,0,J,⟨(fun _=>J),aT⟩,J,J,J,J,J,fun _ sg _ _=>aB J (aV (r:=wM) (ys:=[kinds]) (xs:=[.tmp 88]) vv d9 J J J J J ⟨(ht J),aT⟩)⟩,
     ⟨⟨[⟨87,fun _=>tO wM l4 c5 ob2.kinds,some 4⟩,⟨89,fun _=>tD (fW wM) ([kinds]),some 6⟩],_,J,⟨(fun _=>J),(fun _=>J),aT⟩,J,J,J,fun sg=>eC J (EffOK.fr3 (ue d9 J J J J vv J (ht J) (ht J) q_l6))⟩,
     aT⟩⟩⟩⟩⟩⟩⟩⟩ (fun sg=>?_)
    refine(show RG _ _ _ _ [dV nw 39 ((sg 7).h 0).1 ((sg 7).h 0).2 l6,e1,nv (ww (fun y:(aE→am→Option (((List Int)×Bool)×aE))=>dN aO pg (dB b) oA y)) nu b1 none os7 Lr,bx (rH bk [(1,aR l4 c5 ob2.kinds.length),(2,aR l5 c6 ob2.first.length)]) 115 b ob2,dV bX 3 l5 c6 ob2.first] _ from ?_);refine zo J (dE (ht J))<|zo J (kP 1 nt J J J)<|uj (EffOK.fr3 (vX (hs' :=[(1,aR ((sg 7).h 0).1 ((sg 7).h 0).2 l6.length),(2,aR l5 c6 ob2.first.length)]) (u:=aR ((sg 7).h 0).1 ((sg 7).h 0).2 l6.length) sN J J HF J ⟨.inl ⟨J,J,J⟩,.inr ⟨J,J⟩,aT⟩ (ht J) (lk (ht J)) (LB (ht J)))) fun i1=>?_;refine(show RG _ _ _ _ [bx (rH bk [(1,aR ((sg 7).h 0).1 ((sg 7).h 0).2 l6.length),(2,aR l5 c6 ob2.first.length)]) 115 b ({ob2 with kinds:=l6}:aE),dV nw 39 ((sg 7).h 0).1 ((sg 7).h 0).2 l6,e1,nv (ww (fun y:(aE→am→Option (((List Int)×Bool)×aE))=>dN aO pg (dB b) oA y)) nu b1 none os7 Lr,dV bX 3 l5 c6 ob2.first] _ from ?_);refine aq<|au<|aF J<|aF J<|aF J<|hX<|bC h fun r2 q_r2 h=>Fk hy he1 q_r2 (ht J) ⟨(ht J),(ht J),aT⟩ J fun e3 he2=>zo J (fS (ht J))<|aF J<|gD J J (fun hg=>dA J)<|gD J J (fun hg=>fS (bK J hg))<|zo J (yO J J)<|aq<|c9 h J (fun h=>?_) (fun h=>?_)
    ·refine ak ?_;refine aA (ae (ae (aA ?_)));refine cK<|bm<|cK<|cK<|cK<|cK ?_;cases so h;exact Ll J he2 (Wa [(((sg 7).h 0).1,((sg 7).h 0).2),(l5,c6)]) J
    ·refine bA<|ap<|aw<|av<|zo rfl (lY (cA hx hN) rfl)<|aF rfl<|aQ<|fq<|cK<|cK<|fq<|fq ?_;exact bf (aS (ih (i+1) e3 r2.2 ({ob2 with kinds:=l6}:aE) ((sg 7).h 0).1 ((sg 7).h 0).2 l5 c6 ⟨cz hx,⟨he2,h⟩⟩) (bv J))
   ·skip
    refine au<|aF J<|aq<|c9 h J (fun h=>?_) (fun h=>?_)
    ·refine av<|aF J<|zo J (bB gN J J)<|bC h fun r3 q_r3 h=>zU (EffOK.fr4 (EffOK.fr4 (EffOK.fr4 (A7 (args:=pg) (Ob:=dB b) (res:=oA) (f:=((o6 Lr e2.Op).getD (fun _ _=>none))) (x:=ob1) (y:=((e2):am)) (R:=r3) (i:=(Wa [(l2,c3),(l3,c4)])) (xs:=[.tmp 73]) _ J (ht J) q_r3 ⟨(ht J),aT⟩ (fun _=>J))))) J fun i2=>?_;refine(show RG _ _ _ _ [bx (rH bk [(1,aR (i2.h 0).1 (i2.h 0).2 r3.2.kinds.length),(2,aR (i2.h 1).1 (i2.h 1).2 r3.2.first.length)]) 115 b r3.2,dV nw 39 (i2.h 0).1 (i2.h 0).2 r3.2.kinds,dV bX 3 (i2.h 1).1 (i2.h 1).2 r3.2.first,e1,nv (ww (fun y:(aE→am→Option (((List Int)×Bool)×aE))=>dN aO pg (dB b) oA y)) nu b1 none os7 Lr] ((74,tT [lW r3.1.1,ig r3.1.2])::_)from ?_);refine aF J<|zo J (hY J J)<|zo J (hY J J)<|bp J<|bp J<|aQ<|aK<|aK<|aK<|fq<|fq ?_;exact cO (K1 r3.1.2 r3.1.1 r3.2 (i2.h 0).1 (i2.h 0).2 (i2.h 1).1 (i2.h 1).2 h) (bv J)
    ·refine bA ?_;exact cO (K1 ok ([]) ob1 l2 c3 l3 c4 h) (bv J)
  ·skip
   refine au<|aF J<|aq<|c9 h J (fun h=>?_) (fun h=>?_)
   ·refine au<|zo J (cw)<|aq<|au<|zo J (la kK (ht J))<|aF J<|bC h fun r4 q_r4 h=>zU (EffOK.fr4 (EffOK.fr4 (EffOK.fr4 (PK (xs:=[.tmp 55,.tmp 56]) (ts:=[tV (aP b 0),bM (i:Int)]) (dB b ob (Wa [(l,c1),(l1,c2)])) _ J aaY (Yh b (Wa [(l,c1),(l1,c2)]) ob _ q_r4) ⟨(ht J),(ht J),aT⟩ (fun _=>J))))) J fun i3=>?_;refine(show RG _ _ _ _ [bx (rH bk [(1,aR l c1 ob.kinds.length),(2,aR l1 c2 ob.first.length)]) 115 b ob,dV nw 39 l c1 ob.kinds,dV bX 3 l1 c2 ob.first,e1,nv (ww (fun y:(aE→am→Option (((List Int)×Bool)×aE))=>dN aO pg (dB b) oA y)) nu b1 none os7 Lr] ((57,tT [bM r4.1,ig r4.2])::_)from ?_);refine aF J<|zo J (hY J J)<|zo J (hY J J)<|bp J<|bp J<|aq<|bC h fun l7 q_l7 h=>?_
    refine oM 8 [tc (tV (aP b 0)),tc (tV (aP b 0)),tc (tV (aP b 0)),tc (tV (aP b 2)),tc (tO bX l1 c2 ob.first),tc (bM r4.1),tc (lW ([r4.1])),([7],fun s=>tO bX ((s.getD 0 pE).h 0).1 ((s.getD 0 pE).h 0).2 l7)] [false,false,false,false,false,false,false,true] [fun _=>[bx (rH bk [(1,aR l c1 ob.kinds.length),(2,aR l1 c2 ob.first.length)]) 115 b ob,dV nw 39 l c1 ob.kinds,dV bX 3 l1 c2 ob.first,e1,nv (ww (fun y:(aE→am→Option (((List Int)×Bool)×aE))=>dN aO pg (dB b) oA y)) nu b1 none os7 Lr],fun sg1=>[dV bX 3 ((sg1 7).h 0).1 ((sg1 7).h 0).2 l7,bx (rH bk [(1,aR l c1 ob.kinds.length),(2,aR l1 c2 ob.first.length)]) 115 b ob,dV nw 39 l c1 ob.kinds,e1,nv (ww (fun y:(aE→am→Option (((List Int)×Bool)×aE))=>dN aO pg (dB b) oA y)) nu b1 none os7 Lr]] J mixed J J J J J
     ⟨⟨[⟨1,fun _=>bO (rT (tV (aP b 0))) (),none⟩],_,0,1,J,⟨(fun _=>J),aT⟩,J,J,J,J,J,fun _ sg1 _ _=>aB J (la kK (ht J))⟩,
     ⟨⟨[⟨1,fun _=>bO (rT (tV (aP b 0))) (),none⟩],_,0,0,J,⟨(fun _=>J),aT⟩,J,J,J,J,J,fun _ sg1 _ _=>aB J (la kK (ht J))⟩,
     ⟨⟨[⟨61,fun _=>tV (aP b 0),some 1⟩],_,0,0,J,⟨(fun _=>J),aT⟩,J,J,J,J,J,fun _ sg1 _ _=>aB J (dE (ht J))⟩,
     ⟨⟨[⟨62,fun _=>tV (aP b 0),some 2⟩],_,0,0,J,⟨(fun _=>J),aT⟩,J,J,J,J,J,fun _ sg1 _ _=>aB J (kP 2 uc J J J)⟩,
     ⟨⟨[⟨63,fun _=>tV (aP b 2),some 3⟩],_,0,0,J,⟨(fun _=>J),aT⟩,J,J,J,J,J,zj (fun sg1=>aB J (df d9 J (.head _) (.tail _ (.tail _ (.head _))) (ht J)))⟩,
     ⟨⟨[⟨9,fun _=>tD bX r4.1,none⟩],_,0,0,J,⟨(fun _=>J),aT⟩,J,J,J,J,J,fun _ sg1 _ _=>aB J (dA J)⟩,
     ⟨⟨[⟨65,fun _=>tD bX r4.1,some 5⟩],_,0,0,J,⟨(fun _=>J),aT⟩,J,J,J,J,J,fun _ sg1 _ _=>aB J (aV (r:=bX) (ys:=[r4.1]) (xs:=[.tmp 65]) gM cr J J J J J ⟨(ht J),aT⟩)⟩,
     ⟨⟨[⟨64,fun _=>tO bX l1 c2 ob.first,some 4⟩,⟨66,fun _=>tD wM ([r4.1]),some 6⟩],_,J,⟨(fun _=>J),(fun _=>J),aT⟩,J,J,J,fun sg1=>eC J (EffOK.fr2 (ue cr J J J J gM J (ht J) (ht J) q_l7))⟩,
     aT⟩⟩⟩⟩⟩⟩⟩⟩ (fun sg1=>?_)
    refine(show RG _ _ _ _ [dV bX 3 ((sg1 7).h 0).1 ((sg1 7).h 0).2 l7,bx (rH bk [(1,aR l c1 ob.kinds.length),(2,aR l1 c2 ob.first.length)]) 115 b ob,dV nw 39 l c1 ob.kinds,e1,nv (ww (fun y:(aE→am→Option (((List Int)×Bool)×aE))=>dN aO pg (dB b) oA y)) nu b1 none os7 Lr] _ from ?_);refine zo J (dE (ht J))<|zo J (kP 2 uc J J J)<|uj (EffOK.fr1 (vX (hs' :=[(1,aR l c1 ob.kinds.length),(2,aR ((sg1 7).h 0).1 ((sg1 7).h 0).2 l7.length)]) (u:=aR ((sg1 7).h 0).1 ((sg1 7).h 0).2 l7.length) d9 J J HE J ⟨.inr ⟨J,J⟩,.inl ⟨J,J,J⟩,aT⟩ (ht J) (lk (ht J)) (LB (ht J)))) fun i4=>?_;refine(show RG _ _ _ _ [bx (rH bk [(1,aR l c1 ob.kinds.length),(2,aR ((sg1 7).h 0).1 ((sg1 7).h 0).2 l7.length)]) 115 b ({ob with first:=l7}:aE),dV bX 3 ((sg1 7).h 0).1 ((sg1 7).h 0).2 l7,dV nw 39 l c1 ob.kinds,e1,nv (ww (fun y:(aE→am→Option (((List Int)×Bool)×aE))=>dN aO pg (dB b) oA y)) nu b1 none os7 Lr] _ from ?_);refine aQ<|bF<|aK<|aK<|fq<|fq ?_;exact cO (K r4.2 ({ob with first:=l7}:aE) l c1 ((sg1 7).h 0).1 ((sg1 7).h 0).2 h) (bv J)
   ·refine bA ?_;exact cO (K t ob l c1 l1 c2 h) (bv J)

end Go.Proofs.YtfhhakidodmdfaaGreatDoor

