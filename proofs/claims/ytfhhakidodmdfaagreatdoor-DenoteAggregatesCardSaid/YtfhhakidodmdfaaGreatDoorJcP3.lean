/- di of this claim: P3. -/
import Derived.Test.YtfhhakidodmdfaaGreatDoorJcT
import Derived.Test.YtfhhakidodmdfaaGreatDoorJcP2
set_option linter.all false
namespace Go.Proofs.YtfhhakidodmdfaaGreatDoor
open Go
set_option maxRecDepth 100000

theorem U8(in1:(List Int))(o:ig){R:Bool}(h:kY in1 o=some R):aR aU 286 [tD hT o,bN nQ in1] (hJ R):=by
 refine aR.of Tryz.func286 J J J fun w0 S0=>av<|zo J (gi J)<|zo J (jU)<|aq<|av<|zo J (bX IL Bo J J)<|zo J (bh cg J J)<|zo J (dJ (ht J) hI)<|aE J<|dD J J (fun hg=>bX IL Bo J J)<|dD J J (fun hg=>bj cg J J (bm J hg))<|dD J J (fun hg=>bh eQ J J)<|dD J J (fun hg=>dK iv (bm J hg))<|dD J J (fun hg=>gh (bm J hg) (bm J hg))<|zo J (uo J J)<|bg J<|aq<|aj ?_;cases so h;exact aH J J

theorem Y3(b:Nat)(ix:OI)(c:aI)(n:ay){R:(List Int)×Bool}(h:gQ c n=some R):dl aU 209 [tV (aS b 0),tD aW n] (dN b c ix) (fun _:OI=>tT [mH R.1,hJ R.2]) (fun _=>(dN b c ix)):=by
 refine dl.of Tryz.func209 J J J fun w0 S0=>?_;refine(show CG _ _ _ [bx (rH bz [(1,bc (ix.h 0).1 (ix.h 0).2 c.kinds.length),(2,bc (ix.h 1).1 (ix.h 1).2 c.first.length)]) 115 b c,ez nQ 39 (ix.h 0).1 (ix.h 0).2 c.kinds,ez cj 3 (ix.h 1).1 (ix.h 1).2 c.first] _ from ?_);refine av<|zo J (gi J)<|zo J (aT (show aO _ _ _ xB from kJ))<|zo J (jU)<|aq<|ah<|bo h fun e q_e h=>?_
 refine oy 9 [tc (tV (aS b 0)),tc (tV (aS b 0)),tc (tV (aS b 1)),tc (tO nQ (ix.h 0).1 (ix.h 0).2 c.kinds),tc (bN cj n.A),tc (bM n.A),tc (bN nQ e),tc (mH e),([8],fun s=>tV (aS ((s.getD 0 pj).h 0).2 0))] [false,false,false,false,false,false,false,false,true] [fun _=>[bx (rH bz [(1,bc (ix.h 0).1 (ix.h 0).2 c.kinds.length),(2,bc (ix.h 1).1 (ix.h 1).2 c.first.length)]) 115 b c,ez nQ 39 (ix.h 0).1 (ix.h 0).2 c.kinds,ez cj 3 (ix.h 1).1 (ix.h 1).2 c.first],fun sg=>[bx nQ 39 ((sg 8).h 0).2 ([]),bx (rH bz [(1,bc (ix.h 0).1 (ix.h 0).2 c.kinds.length),(2,bc (ix.h 1).1 (ix.h 1).2 c.first.length)]) 115 b c,ez nQ 39 (ix.h 0).1 (ix.h 0).2 c.kinds,ez cj 3 (ix.h 1).1 (ix.h 1).2 c.first]] J mixed J J J J J
  ⟨⟨[⟨0,fun _=>tV (aS b 0),none⟩],_,0,1,J,⟨(fun _=>J),aL⟩,J,J,J,J,J,fun _ sg _ _=>aD J (cX J)⟩,
  ⟨⟨[⟨9,fun _=>tV (aS b 0),some 0⟩],_,0,1,J,⟨(fun _=>J),aL⟩,J,J,J,J,J,fun _ sg _ _=>aD J (dQ (ht J))⟩,
  ⟨⟨[⟨10,fun _=>tV (aS b 0),some 1⟩],_,0,1,J,⟨(fun _=>J),aL⟩,J,J,J,J,J,fun _ sg _ _=>aD J (je 1 nN J J J)⟩,
  ⟨⟨[⟨11,fun _=>tV (aS b 1),some 2⟩],_,0,1,J,⟨(fun _=>J),aL⟩,J,J,J,J,J,F3 (fun sg=>aD J (dx tF J (.head _) (.tail _ (.head _)) (ht J))) (z7 (fun sg=>aD J (dx tF J (.tail _ (.head _)) (.tail _ (.tail _ (.head _))) (ht J))))⟩,
  ⟨⟨[⟨3,fun _=>bN aW n,none⟩],_,0,1,J,⟨(fun _=>J),aL⟩,J,J,J,J,J,fun _ sg _ _=>aD J (bX kq d9 J J)⟩,
  ⟨⟨[⟨13,fun _=>bN cj n.A,some 4⟩],_,0,1,J,⟨(fun _=>J),aL⟩,J,J,J,J,J,fun _ sg _ _=>aD J (bh cg J J)⟩,
  ⟨⟨[⟨12,fun _=>tO xA (ix.h 0).1 (ix.h 0).2 c.kinds,some 3⟩,⟨14,fun _=>tD cj n.A,some 5⟩],_,0,1,J,⟨(fun _=>J),(fun _=>J),aL⟩,J,J,J,J,J,fun _ sg _ _=>aD J (bF wa eQ J (lJ (ht J)) (ht J) q_e)⟩,
  ⟨⟨[⟨15,fun _=>bN xA e,some 6⟩],_,0,1,J,⟨(fun _=>J),aL⟩,J,J,J,J,J,fun _ sg _ _=>aD J (bh eQ J J)⟩,
  ⟨⟨[],_,J,aL,J,J,J,fun sg=>eF J (vL (r:=xA) (x:=[]) eQ (fun _=>⟨none,0,J,dY _,mA _,.inl J⟩))⟩,
  aL⟩⟩⟩⟩⟩⟩⟩⟩⟩ (fun sg=>?_)
 refine(show RG _ _ _ _ [bx nQ 39 ((sg 8).h 0).2 ([]),bx (rH bz [(1,bc (ix.h 0).1 (ix.h 0).2 c.kinds.length),(2,bc (ix.h 1).1 (ix.h 1).2 c.first.length)]) 115 b c,ez nQ 39 (ix.h 0).1 (ix.h 0).2 c.kinds,ez cj 3 (ix.h 1).1 (ix.h 1).2 c.first] _ from ?_);refine am eQ J ai J (ht J) (ht J)<|aY 6 J<|aq<|av<|zo J ((show bZ _ _ _ _ ((ei aU Q4 mI (fun(x:ig)=>(kY e) x)))from i8 (cts:=[bN nQ e]) (caps:=[.tmp 6]) abc ⟨(ht J),aL⟩ (fun x y h=>U8 _ _ h)))<|bg J<|aq<|av<|zo J (bX wE sk J J)<|zo J (bh JN J J)<|zo J (jw AM J)<|zo J (jZ (ht J) hI)<|aE J<|bo h fun t q_t h=>co J J (fun hg=>bX wE sk J J)<|co J J (fun hg=>bj JN J J (bm J hg))<|co J J (fun hg=>cX J) ?_
 obtain⟨r,h1t,h0t⟩:=og q_t
 have q_rg:=fun hb=>(h1t hb).1
 refine co J J (fun hg=>ap acg (VU _ _ (q_rg hg)) ⟨(bm J hg),(bm J hg),aL⟩)<|co J J (fun hg=>cx (bm J hg))<|zo J (cH (ht J) (fun hb=>(bm J hb)) (fun hb=>(h1t hb).2) h0t)<|aE J<|co J J (fun hg=>bX Bp uM J J)<|co J J (fun hg=>bj cg J J (bm J hg))<|co J J (fun hg=>gh (bm J hg) hI)<|zo J (pH J J)<|aE J<|co J J (fun hg=>bX Bp uM J J)<|co J J (fun hg=>bj cg J J (bm J hg))<|co J J (fun hg=>jZ (bm J hg) hI)<|zo J (pH J J)<|bg J<|aq<|ah ?_
 refine cD (ts:=[_,_,_,_,_,_,_,_,_,_,_,_,_,_,_,_,_,_,_]) mixed J J
  ⟨dB 6 J J J (bh eQ J J),
  ⟨dB 8 J J J (cX J),
  ⟨bT 40 1 J J J (cX J),
  ⟨qR 0 41 2 J J J J (dC J J J J (fun hg=>cX J)),
  ⟨kj 42 3 41 2 J J J J (dC J J J J (fun hg=>dQ (bm J hg))),
  ⟨kj 43 4 41 2 J J J J (dC J J J J (fun hg=>o3 (n:=1) nN J (bm J hg) J)),
  ⟨kj 44 5 41 2 J J J J (dC J J J J (fun hg=>dx tF J (.head _) (.tail _ (.head _)) (bm J hg))),
  ⟨kj 45 6 41 2 J J J J (dC J J J J (fun hg=>dK wa (lJ (bm J hg)))),
  ⟨qR 0 41 2 J J J J (dC J J J J (fun hg=>cX J)),
  ⟨kj 47 8 41 2 J J J J (dC J J J J (fun hg=>dQ (bm J hg))),
  ⟨kj 48 9 41 2 J J J J (dC J J J J (fun hg=>o3 (n:=0) IM J (bm J hg) J)),
  ⟨kj 49 10 41 2 J J J J (dC J J J J (fun hg=>o3 (n:=0) vd J (bm J hg) J)),
  ⟨kj 50 11 41 2 J J J J (dC J J J J (fun hg=>bE (r:=rH bz [(1,bc (ix.h 0).1 (ix.h 0).2 c.kinds.length),(2,bc (ix.h 1).1 (ix.h 1).2 c.first.length)]) (x:=c) F5 J J (Uz (vJ wB od)) (.head _) (bm J hg))),
  ⟨kj 51 12 41 2 J J J J (dC J J J J (fun hg=>dK AJ (bm J hg))),
  ⟨kj 52 13 41 2 J J J J (dC J J J J (fun hg=>ft (bm J hg) hI)),
  ⟨uw 46 7 53 14 41 2 J J J J J (dC J J J J (fun hg=>cd (bm J hg) (bm J hg))),
  ⟨cK 41 2 54 15 J J J J (pH J J),
  ⟨bT 39 0 J J J (rN J),
  ⟨bT 55 16 J J J (rN J),
  aL⟩⟩⟩⟩⟩⟩⟩⟩⟩⟩⟩⟩⟩⟩⟩⟩⟩⟩⟩ ?_
 refine ax<|aj<|aM<|aM<|aM ?_;cases so h;exact eN (ts:=[mH e,hJ (((t&&(decide (wd≤n.Limit)))&&(decide (n.Limit≤(2147483647:Int))))&&((c.kinds.length:Int)==(IntKind.i64.wrap ((c.Logic.Nodes.length:Int)-(1:Int)))))]) (rvs:=[.tmp 4,.tmp 5]) J J ⟨aK J,aK J,aL⟩ pj J J

theorem VB(n:ay){R:Bool}(h:tR n=some R):aR aU 210 [tD aW n] (hJ R):=by
 refine aR.of Tryz.func210 J J J fun w0 S0=>av<|zo J (gi J)<|zo J (jU)<|aq<|av<|zo J (bX Ao ri J J)<|zo J (bh cg J J)<|zo J (hM J)<|aE J<|co J J (fun hg=>bX wD pC J J)<|co J J (fun hg=>bj eQ J J (bm J hg))<|co J J (fun hg=>dK iv (bm J hg))<|co J J (fun hg=>cd (bm J hg) hI)<|zo J (pH J J)<|aE J<|co J J (fun hg=>bX Ni Fe J J)<|co J J (fun hg=>bj yy J J (bm J hg))<|co J J (fun hg=>cx (bm J hg))<|zo J (pH J J)<|aE J ?_;refine co J J (fun hg=>bX wC pz J J)<|co J J (fun hg=>oD ku J fQ J (bm J hg))<|co J J (fun hg=>bj sQ J J (bm J hg))<|co J J (fun hg=>dK p6 (bm J hg))<|co J J (fun hg=>cd (bm J hg) hI)<|zo J (pH J J)<|aE J<|co J J (fun hg=>bX vc oe J J)<|co J J (fun hg=>bj eQ J J (bm J hg))<|co J J (fun hg=>dK iv (bm J hg))<|co J J (fun hg=>cd (bm J hg) hI)<|zo J (pH J J)<|aE J<|co J J (fun hg=>bX t8 rh J J)<|co J J (fun hg=>bj Em J J (bm J hg))<|co J J (fun hg=>dK AI (bm J hg))<|co J J (fun hg=>cd (bm J hg) hI)<|zo J (pH J J)<|aE J<|co J J (fun hg=>bX t7 py J J)<|co J J (fun hg=>bj Dt J J (bm J hg))<|co J J (fun hg=>dK BX (bm J hg))<|co J J (fun hg=>cd (bm J hg) hI)<|zo J (pH J J) ?_;refine aE J<|co J J (fun hg=>bX wE sk J J)<|co J J (fun hg=>bj JN J J (bm J hg))<|co J J (fun hg=>dK AM (bm J hg))<|co J J (fun hg=>cd (bm J hg) hI)<|zo J (pH J J)<|aE J<|co J J (fun hg=>bX Bp uM J J)<|co J J (fun hg=>bj cg J J (bm J hg))<|co J J (fun hg=>cd (bm J hg) hI)<|zo J (pH J J)<|bg J<|aq<|aj ?_;cases so h;exact aH J J

theorem VA(n:ay){R:ay}(h:tS n=some R):aR aU 211 [tD aW n] (tD aW R):=by
 refine aR.of Tryz.func211 J J J fun w0 S0=>av<|s6 (ht J) J fun b=>aP (r:=aW) (x:=Jz) jj (fun _=>p9 _) J fun b1=>aq<|ah<|av<|zo J (je 0 Cp J J J)<|zo J (bE cg J J rj (.tail _ (.head _)) (ht J))<|aq<|aC<|av<|zo J (hM J)<|bg J<|aq<|ce h J (fun h=>?_) (fun h=>?_)
 ·refine aA<|zo J (je 3 Ao J J J)<|bq<|am cg J Mt J (ht J) hI<|zo J (je 4 wD J J J)<|am eQ J Af J (ht J) kJ<|aQ<|aw<|ax<|av<|zo rfl (bE jj rfl rfl bw (.head _) (ht rfl))<|bq<|am jj rfl ai rfl (ht rfl) (ht rfl)<|aY 2 rfl<|aq<|aj<|aZ ?_;cases so h;exact eP J jj J J J
 ·refine av<|zo J (hM J)<|bg J<|aq<|ce h J (fun h=>?_) (fun h=>?_)
  ·refine aA<|zo J (bB (y:=B2) k5 YA uv (J))<|zo J (je 5 Ni J J J)<|bq<|am yy J Ms J (ht J) hB<|zo J (je 6 wC J J J)<|am k5 J Ae J (ht J) (ht J)<|aQ<|aw<|ax<|av<|zo rfl (bE jj rfl rfl bw (.head _) (ht rfl))<|bq<|am jj rfl ai rfl (ht rfl) (ht rfl)<|aY 2 rfl<|aq<|aj<|aZ ?_;cases so h;exact eP J jj J J J
  ·refine av<|zo J (hM J)<|bg J<|aq<|ce h J (fun h=>?_) (fun h=>?_)
   ·refine aA<|zo J (bB (y:=B2) k5 YA uv (J))<|zo J (je 6 wC J J J)<|bq<|am k5 J Ae J (ht J) (ht J)<|aQ<|aw<|ax<|av<|zo rfl (bE jj rfl rfl bw (.head _) (ht rfl))<|bq<|am jj rfl ai rfl (ht rfl) (ht rfl)<|aY 2 rfl<|aq<|aj<|aZ ?_;cases so h;exact eP J jj J J J
   ·refine av<|zo J (hM J)<|bg J<|aq<|ce h J (fun h=>?_) (fun h=>?_)
    ·refine aA<|zo J (je 7 vc J J J)<|bq<|am eQ J Ew J (ht J) kJ<|zo J (je 8 t8 J J J)<|am Em J Ev J (ht J) kJ<|aQ<|aw<|ax<|av<|zo rfl (bE jj rfl rfl bw (.head _) (ht rfl))<|bq<|am jj rfl ai rfl (ht rfl) (ht rfl)<|aY 2 rfl<|aq<|aj<|aZ ?_;cases so h;exact eP J jj J J J
    ·refine av<|zo J (hM J)<|bg J<|aq<|ce h J (fun h=>?_) (fun h=>?_)
     ·refine aA<|zo J (je 9 t7 J J J)<|bq<|am Dt J Mr J (ht J) kJ<|aQ<|aw<|ax<|av<|zo rfl (bE jj rfl rfl bw (.head _) (ht rfl))<|bq<|am jj rfl ai rfl (ht rfl) (ht rfl)<|aY 2 rfl<|aq<|aj<|aZ ?_;cases so h;exact eP J jj J J J
     ·refine av<|zo J (hM J)<|bg J<|aq<|ce h J (fun h=>?_) (fun h=>?_)
      ·refine aA<|zo J (je 10 wE J J J)<|bq<|am JN J C2 J (ht J) kJ<|zo J (je 11 Bp J J J)<|am cg J JY J (ht J) hI<|aQ<|aw<|ax<|av<|zo rfl (bE jj rfl rfl bw (.head _) (ht rfl))<|bq<|am jj rfl ai rfl (ht rfl) (ht rfl)<|aY 2 rfl<|aq<|aj<|aZ ?_;cases so h;exact eP J jj J J J
      ·refine bA<|aw<|ax<|av<|zo rfl (bE jj rfl rfl bw (.tail _ (.head _)) (ht rfl))<|am jj rfl ai rfl (ht rfl) (ht rfl)<|aY 2 rfl<|aq<|aj<|aZ ?_;cases so h;exact eP J jj J J J

theorem U7(op:Int){R:Int}(h:uG op=some R):aR aU 287 [bM op] (bM R):=by
 refine aR.of Tryz.func287 J J J fun w0 S0=>av<|zo J (bW)<|aq<|ah<|av<|aE J<|aq<|aC<|av<|zo J (hM J)<|bg J<|aq<|ce h J (fun h=>?_) (fun h=>?_)
 ·refine av<|zo J (bW)<|aq<|aj ?_;refine aB (ae ?_);cases so h;exact aH J J
 ·refine i6 (Z:=fun x=>qq x=some R) (Of:=fun x=>[]) (Gf:=fun x=>[(6,hJ x)]) (fun x h=>?_) (fun K=>?_)
  ·skip
   refine ce h J (fun h=>?_) (fun h=>?_)
   ·refine av<|zo J (bW)<|aq<|aj ?_;refine aB (ae ?_);cases so h;exact aH J J
   ·refine bA<|aw<|ax<|av<|zo rfl (bW)<|aq<|aj ?_;cases so h;exact aH J J
  ·skip
   refine av<|zo J (hM J)<|bg J<|aq<|ce h J (fun h=>?_) (fun h=>?_)
   ·refine bA ?_;exact ci (K (op==(2:Int)) h) (bD J)
   ·refine aA<|zo J (hM J)<|bg J<|aQ ?_;exact ci (K (op==(7:Int)) h) (bD J)

theorem Y2(b:Nat)(ix:OI)(c:aI)(i:Int){R:Int×Bool}(h:j8 c i=some R):dl aU 212 [tV (aS b 0),bM i] (dN b c ix) (fun _:OI=>tT [bM R.1,hJ R.2]) (fun _=>(dN b c ix)):=by
 refine dl.of Tryz.func212 J J J fun w0 S0=>?_;refine(show CG _ _ _ [bx (rH bz [(1,bc (ix.h 0).1 (ix.h 0).2 c.kinds.length),(2,bc (ix.h 1).1 (ix.h 1).2 c.first.length)]) 115 b c,ez nQ 39 (ix.h 0).1 (ix.h 0).2 c.kinds,ez cj 3 (ix.h 1).1 (ix.h 1).2 c.first] _ from ?_);refine av<|zo J (bW)<|zo J (jU)<|aq<|av<|aE J<|zo J (dQ (ht J))<|zo J (je 0 IM J J J)<|zo J (je 0 vd J J J)<|zo J (bE (r:=rH bz [(1,bc (ix.h 0).1 (ix.h 0).2 c.kinds.length),(2,bc (ix.h 1).1 (ix.h 1).2 c.first.length)]) (x:=c) F5 J J (Uz (vJ wB od)) (.head _) (ht J))<|aE J<|bo h fun e q_e h=>zo J (ne AJ jj J J J q_e)<|zo J (bh jj J J)<|aP (r:=aW) (x:=Jz) jj (fun _=>p9 _) J fun b1=>am jj J ai J (ht J) (ht J)<|aY 6 J<|aq<|ah<|ah ?_;refine aA<|zo J (bX Cp rj J J)<|zo J (bh cg J J)<|bo h fun r q_r h=>zo J (ap abb (U7 _ q_r) ⟨(ht J),aL⟩)<|aq<|aC<|av<|zo J (hM J)<|bg J<|aq<|ce h J (fun h=>?_) (fun h=>?_)
 ·refine ah ?_
  refine cD (ts:=[_,_,_,_,_,_,_,_,_,_,_]) mixed J J
   ⟨dB 1 J J J (cX J),
   ⟨dB 6 J J J (bX kq d9 J J),
   ⟨bT 21 1 J J J (bh cg J J),
   ⟨bT 22 2 J J J (hM J),
   ⟨bT 23 3 J J J (cX J),
   ⟨qR 6 24 4 J J J J (dC J J J J (fun hg=>bX sG kV J J)),
   ⟨kj 25 5 24 4 J J J J (dC J J J J (fun hg=>bj cg J J (bm J hg))),
   ⟨kj 26 6 24 4 J J J J (dC J J J J (fun hg=>cd (bm J hg) hI)),
   ⟨cK 24 4 27 7 J J J J (pH J J),
   ⟨bT 20 0 J J J (rN J),
   ⟨bT 28 8 J J J (rN J),
   aL⟩⟩⟩⟩⟩⟩⟩⟩⟩⟩⟩ ?_
  refine ax<|aj ?_;refine aB (ae ?_);refine aM<|aM<|aM ?_;cases so h;exact eN (ts:=[bM i,hJ ((e.A==wd)&&(e.B==wd))]) (rvs:=[.tmp 4,.tmp 5]) J J ⟨aK J,aK J,aL⟩ pj J J
 ·refine av<|zo J (hM J)<|bg J<|aq<|ce h J (fun h=>?_) (fun h=>?_)
  ·refine ah<|av<|zo J (bX kq d9 J J)<|zo J (bh cg J J)<|aE J<|zo J (ft (ht J) hI)<|zo J (c9 (ht J) (ht J))<|aE J<|dD J J (fun hg=>bX sG kV J J)<|dD J J (fun hg=>bj cg J J (bm J hg))<|dD J J (fun hg=>c9 (bm J hg) hI)<|zo J (uo J J)<|aE J<|dD J J (fun hg=>cX J)<|dD J J (fun hg=>cd (bm J hg) hI)<|zo J (uo J J)<|aq<|ce h J (fun h=>?_) (fun h=>?_)
   ·refine av<|zo J (bW)<|zo J (jU)<|aq<|aj ?_;refine ae (aB (ae ?_));refine aM<|aM<|aM ?_;cases so h;exact eN (ts:=[bM 0,hJ false]) (rvs:=[.tmp 4,.tmp 5]) J J ⟨aK J,aK J,aL⟩ pj J J
   ·refine df<|ah<|bo h fun e1 q_e1 h=>?_
    refine cD (ts:=[_,_,_,_,_,_,_,_,_,_]) mixed J J
     ⟨dB 0 J J J (cX J),
     ⟨bT 45 0 J J J (dQ (ht J)),
     ⟨bT 46 1 J J J (je 2 uO J J J),
     ⟨bT 47 2 J J J (dx eQ J (.head _) (.tail _ (.tail _ (.head _))) (ht J)),
     ⟨dB 6 J J J (bX kq d9 J J),
     ⟨bT 49 4 J J J (bh cg J J),
     ⟨cK 48 3 50 5 J J J J (bF iv cg J (lJ (ht J)) (ht J) q_e1),
     ⟨bT 51 6 J J J (bh cg J J),
     ⟨bT 52 7 J J J (rN J),
     ⟨NX J J (jU),
     aL⟩⟩⟩⟩⟩⟩⟩⟩⟩⟩ ?_
    refine ax<|aj ?_;refine aB (ae ?_);refine aM<|aM<|aM ?_;cases so h;exact eN (ts:=[bM e1,hJ true]) (rvs:=[.tmp 4,.tmp 5]) J J ⟨aK J,aK J,aL⟩ pj J J
  ·refine bA<|aw<|ax<|ah<|ah<|bo h fun t q_t h=>?_
   obtain⟨e2,h1t,h0t⟩:=og q_t
   have q_e2g:=fun hb=>(h1t hb).1
   refine cD (ts:=[_,_,_,_,_,_,_,_,_,_,_,_,_,_,_,_,_,_,_,_,_,_,_,_,_,_,_,_]) mixed J J
    ⟨dB 6 J J J (bX sG kV J J),
    ⟨bT 53 0 J J J (bh cg J J),
    ⟨dB 1 J J J (cX J),
    ⟨bT 55 2 J J J (ft (ht J) hI),
    ⟨cK 54 1 56 3 J J J J (c9 (ht J) (ht J)),
    ⟨bT 57 4 J J J (cX J),
    ⟨qR 1 58 5 J J J J (la J J J J (fun hg=>cX J)),
    ⟨kj 59 6 58 5 J J J J (la J J J J (fun hg=>cd (bm J hg) hI)),
    ⟨cK 58 5 60 7 J J J J (uo J J),
    ⟨bT 61 8 J J J (cX J),
    ⟨qR 6 62 9 J J J J (la J J J J (fun hg=>bX kq d9 J J)),
    ⟨kj 63 10 62 9 J J J J (la J J J J (fun hg=>bj cg J J (bm J hg))),
    ⟨qR 0 62 9 J J J J (la J J J J (fun hg=>cX J)),
    ⟨kj 65 12 62 9 J J J J (la J J J J (fun hg=>dQ (bm J hg))),
    ⟨kj 66 13 62 9 J J J J (la J J J J (fun hg=>o3 (n:=2) uO J (bm J hg) J)),
    ⟨kj 67 14 62 9 J J J J (la J J J J (fun hg=>dx eQ J (.head _) (.tail _ (.tail _ (.head _))) (bm J hg))),
    ⟨qR 6 62 9 J J J J (la J J J J (fun hg=>bX sG kV J J)),
    ⟨kj 69 16 62 9 J J J J (la J J J J (fun hg=>bj cg J J (bm J hg))),
    ⟨uw 68 15 70 17 62 9 J J J J J (la J J J J (fun hg=>bF iv cg J (lJ (bm J hg)) (bm J hg) (q_e2g hg))),
    ⟨kj 71 18 62 9 J J J J (la J J J J (fun hg=>bj cg J J (bm J hg))),
    ⟨kj 72 19 62 9 J J J J (la J J J J (fun hg=>ft (bm J hg) hI)),
    ⟨uw 64 11 73 20 62 9 J J J J J (la J J J J (fun hg=>c9 (bm J hg) (bm J hg))),
    ⟨cK 62 9 74 21 J J J J (eO (ht J) (fun hb=>(bm J (qo hb))) (fun hb=>(h1t hb).2) h0t),
    ⟨bT 75 22 J J J (cX J),
    ⟨qR 6 76 23 J J J J (la J J J J (fun hg=>bX kq d9 J J)),
    ⟨kj 77 24 76 23 J J J J (la J J J J (fun hg=>bj cg J J (bm J hg))),
    ⟨kj 78 25 76 23 J J J J (la J J J J (fun hg=>dJ (bm J hg) hI)),
    ⟨cK 76 23 79 26 J J J J (uo J J),
    aL⟩⟩⟩⟩⟩⟩⟩⟩⟩⟩⟩⟩⟩⟩⟩⟩⟩⟩⟩⟩⟩⟩⟩⟩⟩⟩⟩⟩ ?_
   refine ax<|ce h rfl (fun h=>?_) (fun h=>?_)
   ·refine av<|zo J (bW)<|zo J (jU)<|aq<|aj<|ae<|aM<|aM<|aM ?_;cases so h;exact eN (ts:=[bM 0,hJ false]) (rvs:=[.tmp 4,.tmp 5]) J J ⟨aK J,aK J,aL⟩ pj J J
   ·refine df<|ah<|bo h fun e3 q_e3 h=>?_
    refine cD (ts:=[_,_,_,_,_,_,_,_,_,_]) mixed J J
     ⟨dB 0 J J J (cX J),
     ⟨bT 81 0 J J J (dQ (ht J)),
     ⟨bT 82 1 J J J (je 2 uO J J J),
     ⟨bT 83 2 J J J (dx eQ J (.head _) (.tail _ (.tail _ (.head _))) (ht J)),
     ⟨dB 6 J J J (bX kq d9 J J),
     ⟨bT 85 4 J J J (bh cg J J),
     ⟨cK 84 3 86 5 J J J J (bF iv cg J (lJ (ht J)) (ht J) q_e3),
     ⟨bT 87 6 J J J (bh cg J J),
     ⟨bT 88 7 J J J (rN J),
     ⟨NX J J (jU),
     aL⟩⟩⟩⟩⟩⟩⟩⟩⟩⟩ ?_
    refine ax<|aj<|aM<|aM<|aM ?_;cases so h;exact eN (ts:=[bM e3,hJ true]) (rvs:=[.tmp 4,.tmp 5]) J J ⟨aK J,aK J,aL⟩ pj J J

theorem Sv(b:Nat)(ix:OI)(c:aI):BT aU 201 (fun(x:Int×Bool)=>[bM x.1,hJ x.2]) (fun _=>lU c) (dN b) (dN b c ix) [bN (rT (tV (aS b 0))) ()]:=by
 refine BT.of Tryz.func201 J J J fun Sg yld s R h I yv hy e he w0 S0 B hB=>?_
 replace h:lU c yld s=some R:=h
 refine(show CG _ _ _ [e,bx (rH bz [(1,bc (ix.h 0).1 (ix.h 0).2 c.kinds.length),(2,bc (ix.h 1).1 (ix.h 1).2 c.first.length)]) 115 b c,ez nQ 39 (ix.h 0).1 (ix.h 0).2 c.kinds,ez cj 3 (ix.h 1).1 (ix.h 1).2 c.first] _ from ?_);refine av<|Au (xg (fun y:(aI→ay→Option (((List Int)×Bool)×aI))=>d4 aU pI (dN b) oW y)) nO J fun b1=>zo J (ly k6 (ht J)) ?_
 refine qF ((show bZ _ _ _ _ (d4 aU pI (dN b) oW X4)from j7 abQ (ht J) (fun c x R h i=>by
   obtain⟨r,h1,rfl⟩:=wb.1 h
   exact iY (Ob:=fun j=>dN b c j) (i:=i) (Za _ i c _ h1)))) J ?_
 refine fc (γ:=(fun y:(aI→ay→Option (((List Int)×Bool)×aI))=>d4 aU pI (dN b) oW y)) (y:=X4) AP (eK lj) (ht J) (oc hI) (ht J) fun os=>zo J (ly k6 (ht J)) ?_
 refine qF ((show bZ _ _ _ _ (d4 aU pI (dN b) oW X3)from j7 abP (ht J) (fun c x R h i=>by
   obtain⟨r,h1,rfl⟩:=wb.1 h
   exact iY (Ob:=fun j=>dN b c j) (i:=i) (Y9 _ i c _ h1)))) J ?_
 refine fc (γ:=(fun y:(aI→ay→Option (((List Int)×Bool)×aI))=>d4 aU pI (dN b) oW y)) (y:=X3) AP (eK lj) (ht J) (oc hI) (ht J) fun os1=>zo J (ly k6 (ht J)) ?_
 refine qF ((show bZ _ _ _ _ (d4 aU pI (dN b) oW X8)from j7 abO (ht J) (fun c x R h i=>by
   obtain⟨r,h1,rfl⟩:=wb.1 h
   exact iY (Ob:=fun j=>dN b c j) (i:=i) (Y8 _ i c _ h1)))) J ?_
 refine fc (γ:=(fun y:(aI→ay→Option (((List Int)×Bool)×aI))=>d4 aU pI (dN b) oW y)) (y:=X8) AP (eK lj) (ht J) (oc hI) (ht J) fun os2=>zo J (ly k6 (ht J)) ?_
 refine qF ((show bZ _ _ _ _ (d4 aU pI (dN b) oW X5)from j7 abN (ht J) (fun c x R h i=>by
   obtain⟨r,h1,rfl⟩:=wb.1 h
   exact iY (Ob:=fun j=>dN b c j) (i:=i) (Y7 _ i c _ h1)))) J ?_
 refine fc (γ:=(fun y:(aI→ay→Option (((List Int)×Bool)×aI))=>d4 aU pI (dN b) oW y)) (y:=X5) AP (eK lj) (ht J) (oc hI) (ht J) fun os3=>zo J (ly k6 (ht J)) ?_
 refine qF ((show bZ _ _ _ _ (d4 aU pI (dN b) oW X9)from j7 abM (ht J) (fun c x R h i=>by
   obtain⟨r,h1,rfl⟩:=wb.1 h
   exact iY (Ob:=fun j=>dN b c j) (i:=i) (Y6 _ i c _ h1)))) J ?_
 refine fc (γ:=(fun y:(aI→ay→Option (((List Int)×Bool)×aI))=>d4 aU pI (dN b) oW y)) (y:=X9) AP (eK lj) (ht J) (oc hI) (ht J) fun os4=>zo J (ly k6 (ht J)) ?_
 refine qF ((show bZ _ _ _ _ (d4 aU pI (dN b) oW Ya)from j7 abL (ht J) (fun c x R h i=>by
   obtain⟨r,h1,rfl⟩:=wb.1 h
   exact iY (Ob:=fun j=>dN b c j) (i:=i) (Y5 _ i c _ h1)))) J ?_
 refine fc (γ:=(fun y:(aI→ay→Option (((List Int)×Bool)×aI))=>d4 aU pI (dN b) oW y)) (y:=Ya) AP (eK lj) (ht J) (oc hI) (ht J) fun os5=>zo J (ly k6 (ht J)) ?_
 refine qF ((show bZ _ _ _ _ (d4 aU pI (dN b) oW X7)from j7 abK (ht J) (fun c x R h i=>by
   obtain⟨r,h1,rfl⟩:=wb.1 h
   exact iY (Ob:=fun j=>dN b c j) (i:=i) (Y4 _ i c _ h1)))) J ?_
 refine fc (γ:=(fun y:(aI→ay→Option (((List Int)×Bool)×aI))=>d4 aU pI (dN b) oW y)) (y:=X7) AP (eK lj) (ht J) (oc hI) (ht J) fun os6=>zo J (ly k6 (ht J)) ?_
 refine qF ((show bZ _ _ _ _ (d4 aU pI (dN b) oW X6)from j7 abJ (ht J) (fun c x R h i=>by
   obtain⟨r,h1,rfl⟩:=wb.1 h
   exact iY (Ob:=fun j=>dN b c j) (i:=i) (Y3 _ i c _ h1)))) J ?_
 refine fc (γ:=(fun y:(aI→ay→Option (((List Int)×Bool)×aI))=>d4 aU pI (dN b) oW y)) (y:=X6) AP (eK lj) (ht J) (oc hI) (ht J) fun os7=>aE J<|bg J<|aq<|av<|zo J (ly k6 (ht J))<|zo J (dQ (ht J))<|zo J (je 0 IM J J J)<|zo J (je 0 vd J J J)<|zo J (bE (r:=rH bz [(1,bc (ix.h 0).1 (ix.h 0).2 c.kinds.length),(2,bc (ix.h 1).1 (ix.h 1).2 c.first.length)]) (x:=c) F5 J J (Uz (vJ wB od)) (.tail _ (.tail _ (.head _))) (ht J))<|zo J (jw AJ J)<|zo J (bJ hI)<|aq<|aC<|bp (k:=33) J fun hN=>bQ<|li<|li<|li<|mw<|li ?_;refine ba (LJ (Z:=fun ls i e1 s1 ob l c1 l1 c2=>(c.Logic.Nodes.drop i=ls)∧I s1 e1∧bP yld ls i s1 ob=some R) (Of:=fun _ i e1 s1 ob l c1 l1 c2=>[e1,nP (xg (fun y:(aI→ay→Option (((List Int)×Bool)×aI))=>d4 aU pI (dN b) oW y)) nO b1 none os7 Mc,bx (rH bz [(1,bc l c1 ob.kinds.length),(2,bc l1 c2 ob.first.length)]) 115 b ob,ez nQ 39 l c1 ob.kinds,ez cj 3 l1 c2 ob.first]) (Gf:=fun _ i e1 s1 ob l c1 l1 c2=>[(0,tV yv),(1,bN (rT (tV (aS b 0))) ()),(3,tV (rd b1)),(33,cq (aW) c.Logic.Nodes),(34,ky c.Logic.Nodes),(35,bM (i:Int))]) (fun i e1 s1 ob l c1 l1 c2 h=>?_) (fun e2 tl ih i e1 s1 ob l c1 l1 c2 h=>?_) c.Logic.Nodes 0 e s c (ix.h 0).1 (ix.h 0).2 (ix.h 1).1 (ix.h 1).2 ⟨J,⟨he,h⟩⟩) (bD J)
 ·obtain⟨hx,h⟩:=h
  obtain⟨he1,h⟩:=h
  refine aG<|av<|zo J (fY J J)<|aq<|ah<|bL (ht J) (dO hx)<|bG ?_;refine ak (ak (aV ?_));refine bI<|aZ<|cy<|cy<|cy<|cy ?_;cases so h;exact QW J he1 (WQ [(l,c1),(l1,c2)]) J
 ·obtain⟨hx,h⟩:=h
  obtain⟨he1,h⟩:=h
  refine aG<|av<|zo J (fY J J)<|aq<|ah<|bK (ht J) (dL hx)<|df<|ah<|aC<|av<|aE J<|zo J (ne AJ jj J J J (dA hx))<|zo J (bh jj J J)<|aP (r:=aW) (x:=Jz) jj (fun _=>p9 _) J fun b2=>bg J<|am jj J ai J (ht J) (ht J)<|aY 5 J<|aq<|ah ?_;refine aA<|aE J<|zo J (bX Cp rj J J)<|zo J (bh cg J J)<|zo J (Kx (γ:=(fun y:(aI→ay→Option (((List Int)×Bool)×aI))=>d4 aU pI (dN b) (fun(x:(List Int)×Bool)=>tT [tD xA x.1,tD rB x.2]) y)) (z:=fun _ _=>none) AP (eK lj) ZB (fun _=>GK) (.tail _ (.head _)) (ht J) (oc (ht J)))<|aE J<|zo J (dX J J)<|zo J (dX J J)<|bg J<|bg J<|aq<|av<|aE J<|aE J<|bo h fun t q_t h=>co J J (fun hg=>bh jj J J) ?_
  obtain⟨r,h1t,h0t⟩:=og q_t
  have q_rg:=fun hb=>(h1t hb).1
  refine co J J (fun hg=>ap abH (VA _ (q_rg hg)) ⟨(bm J hg),aL⟩) ?_
  obtain⟨r1,h1t⟩:=WR (fun hb=>(h1t hb).2)
  have q_r1g:=fun hb=>(h1t hb).1
  refine co J J (fun hg=>ap abI (VB _ (q_r1g hg)) ⟨(bm J hg),aL⟩)<|zo J (cH (ht J) (fun hb=>(bm J hb)) (fun hb=>(h1t hb).2) h0t)<|bg J<|aq ?_;refine QR (Z:=fun ok ob1 l2 c3 l3 c4=>eJ yld (bP yld tl) i e2 s1 ok ob1=some R) (Of:=fun ok ob1 l2 c3 l3 c4=>[e1,nP (xg (fun y:(aI→ay→Option (((List Int)×Bool)×aI))=>d4 aU pI (dN b) oW y)) nO b1 none os7 Mc,bx (rH bz [(1,bc l2 c3 ob1.kinds.length),(2,bc l3 c4 ob1.first.length)]) 115 b ob1,ez nQ 39 l2 c3 ob1.kinds,ez cj 3 l3 c4 ob1.first]) (Gf:=fun ok ob1 l2 c3 l3 c4=>[(0,tV yv),(1,bN (rT (tV (aS b 0))) ()),(3,tV (rd b1)),(4,bM (i:Int)),(5,bN aW e2),(6,d4 aU pI (dN b) oW ((pw Mc e2.Op).getD (fun _ _=>none))),(8,hJ ok),(33,cq (aW) c.Logic.Nodes),(34,ky c.Logic.Nodes),(35,bM (i:Int))]) (fun ok ob1 l2 c3 l3 c4 h=>?_) (fun K=>?_)
  ·skip
   refine av<|zo J (aT (show aO _ _ _ xB from kJ))<|aq ?_;refine QQ (Z:=fun ok1 kinds ob2 l4 c5 l5 c6=>gH yld (bP yld tl) i s1 ok1 kinds ob2=some R) (Of:=fun ok1 kinds ob2 l4 c5 l5 c6=>[e1,nP (xg (fun y:(aI→ay→Option (((List Int)×Bool)×aI))=>d4 aU pI (dN b) oW y)) nO b1 none os7 Mc,bx (rH bz [(1,bc l4 c5 ob2.kinds.length),(2,bc l5 c6 ob2.first.length)]) 115 b ob2,ez nQ 39 l4 c5 ob2.kinds,ez cj 3 l5 c6 ob2.first]) (Gf:=fun ok1 kinds ob2 l4 c5 l5 c6=>[(0,tV yv),(1,bN (rT (tV (aS b 0))) ()),(3,tV (rd b1)),(4,bM (i:Int)),(8,hJ ok1),(10,mH kinds),(33,cq (aW) c.Logic.Nodes),(34,ky c.Logic.Nodes),(35,bM (i:Int))]) (fun ok1 kinds ob2 l4 c5 l5 c6 h=>?_) (fun K1=>?_)
   ·skip
    refine av<|aE J<|aE J<|co J J (fun hg=>cX J)<|co J J (fun hg=>dK iv (bm J hg))<|co J J (fun hg=>jZ (bm J hg) hI)<|zo J (pH J J)<|bg J<|aq<|ah<|bo h fun l6 q_l6 h=>?_
    refine oy 8 [tc (tV (aS b 0)),tc (tV (aS b 0)),tc (tV (aS b 0)),tc (tV (aS b 1)),tc (tO nQ l4 c5 ob2.kinds),tc (mH kinds),tc (cq (nQ) ([kinds])),([7],fun s=>tO nQ ((s.getD 0 pj).h 0).1 ((s.getD 0 pj).h 0).2 l6)] [false,false,false,false,false,false,false,true] [fun _=>[e1,nP (xg (fun y:(aI→ay→Option (((List Int)×Bool)×aI))=>d4 aU pI (dN b) oW y)) nO b1 none os7 Mc,bx (rH bz [(1,bc l4 c5 ob2.kinds.length),(2,bc l5 c6 ob2.first.length)]) 115 b ob2,ez nQ 39 l4 c5 ob2.kinds,ez cj 3 l5 c6 ob2.first],fun sg=>[ez nQ 39 ((sg 7).h 0).1 ((sg 7).h 0).2 l6,e1,nP (xg (fun y:(aI→ay→Option (((List Int)×Bool)×aI))=>d4 aU pI (dN b) oW y)) nO b1 none os7 Mc,bx (rH bz [(1,bc l4 c5 ob2.kinds.length),(2,bc l5 c6 ob2.first.length)]) 115 b ob2,ez cj 3 l5 c6 ob2.first]] J mixed J J J J J
     ⟨⟨[⟨1,fun _=>bN (rT (tV (aS b 0))) (),none⟩],_,0,1,J,⟨(fun _=>J),aL⟩,J,J,J,J,J,fun _ sg _ _=>aD J (ly k6 (ht J))⟩,
     ⟨⟨[⟨1,fun _=>bN (rT (tV (aS b 0))) (),none⟩],_,0,0,J,⟨(fun _=>J),aL⟩,J,J,J,J,J,fun _ sg _ _=>aD J (ly k6 (ht J))⟩,
     ⟨⟨[⟨84,fun _=>tV (aS b 0),some 1⟩],_,0,0,J,⟨(fun _=>J),aL⟩,J,J,J,J,J,fun _ sg _ _=>aD J (dQ (ht J))⟩,
     ⟨⟨[⟨85,fun _=>tV (aS b 0),some 2⟩],_,0,0,J,⟨(fun _=>J),aL⟩,J,J,J,J,J,fun _ sg _ _=>aD J (je 1 nN J J J)⟩,
     ⟨⟨[⟨86,fun _=>tV (aS b 1),some 3⟩],_,0,0,J,⟨(fun _=>J),aL⟩,J,J,J,J,J,z7 (fun sg=>aD J (dx tF J (.tail _ (.tail _ (.head _))) (.tail _ (.tail _ (.tail _ (.head _)))) (ht J)))⟩,
     ⟨⟨[⟨10,fun _=>tD xA kinds,none⟩],_,0,0,J,⟨(fun _=>J),aL⟩,J,J,J,J,J,fun _ sg _ _=>aD J (cX J)⟩,
     ⟨⟨[⟨88,fun _=>tD xA kinds,some 5⟩],_,0,0,J,⟨(fun _=>J),aL⟩,J,J,J,J,J,fun _ sg _ _=>aD J (bf (r:=xA) (ys:=[kinds]) (xs:=[.tmp 88]) wa eQ J J J J J ⟨(ht J),aL⟩)⟩,
     ⟨⟨[⟨87,fun _=>tO xA l4 c5 ob2.kinds,some 4⟩,⟨89,fun _=>tD (ik xA) ([kinds]),some 6⟩],_,J,⟨(fun _=>J),(fun _=>J),aL⟩,J,J,J,fun sg=>eF J (EffOK.fr3 (uQ eQ J J J J wa J (ht J) (ht J) q_l6))⟩,
     aL⟩⟩⟩⟩⟩⟩⟩⟩ (fun sg=>?_)
    refine(show RG _ _ _ _ [ez nQ 39 ((sg 7).h 0).1 ((sg 7).h 0).2 l6,e1,nP (xg (fun y:(aI→ay→Option (((List Int)×Bool)×aI))=>d4 aU pI (dN b) oW y)) nO b1 none os7 Mc,bx (rH bz [(1,bc l4 c5 ob2.kinds.length),(2,bc l5 c6 ob2.first.length)]) 115 b ob2,ez cj 3 l5 c6 ob2.first] _ from ?_);refine zo J (dQ (ht J))<|zo J (je 1 nN J J J)<|nd (EffOK.fr3 (wJ (hs' :=[(1,bc ((sg 7).h 0).1 ((sg 7).h 0).2 l6.length),(2,bc l5 c6 ob2.first.length)]) (u:=bc ((sg 7).h 0).1 ((sg 7).h 0).2 l6.length) tF J J H3 J ⟨.inl ⟨J,J,J⟩,.inr ⟨J,J⟩,aL⟩ (ht J) (lJ (ht J)) (Mm (ht J)))) fun i1=>?_;refine(show RG _ _ _ _ [bx (rH bz [(1,bc ((sg 7).h 0).1 ((sg 7).h 0).2 l6.length),(2,bc l5 c6 ob2.first.length)]) 115 b ({ob2 with kinds:=l6}:aI),ez nQ 39 ((sg 7).h 0).1 ((sg 7).h 0).2 l6,e1,nP (xg (fun y:(aI→ay→Option (((List Int)×Bool)×aI))=>d4 aU pI (dN b) oW y)) nO b1 none os7 Mc,ez cj 3 l5 c6 ob2.first] _ from ?_);refine aq<|av<|aE J<|aE J<|aE J<|gj<|bo h fun r2 q_r2 h=>FF hy he1 q_r2 (ht J) ⟨(ht J),(ht J),aL⟩ J fun e3 he2=>zo J (cx (ht J))<|aE J<|dD J J (fun hg=>cX J)<|dD J J (fun hg=>cx (bm J hg))<|zo J (uo J J)<|aq<|ce h J (fun h=>?_) (fun h=>?_)
    ·refine aj ?_;refine aB (ae (ae (aB ?_)));refine cy<|aZ<|cy<|cy<|cy<|cy ?_;cases so h;exact LW J he2 (WQ [(((sg 7).h 0).1,((sg 7).h 0).2),(l5,c6)]) J
    ·refine bA<|aw<|ax<|aA<|zo rfl (nf (dd hx hN) rfl)<|aE rfl<|aQ<|fR<|cy<|cy<|fR<|fR ?_;exact bn (ba (ih (i+1) e3 r2.2 ({ob2 with kinds:=l6}:aI) ((sg 7).h 0).1 ((sg 7).h 0).2 l5 c6 ⟨dc hx,⟨he2,h⟩⟩) (bD J))
   ·skip
    refine av<|aE J<|aq<|ce h J (fun h=>?_) (fun h=>?_)
    ·refine aA<|aE J<|zo J (bh jj J J)<|bo h fun r3 q_r3 h=>Av (EffOK.fr4 (EffOK.fr4 (EffOK.fr4 (BC (args:=pI) (Ob:=dN b) (res:=oW) (f:=((pw Mc e2.Op).getD (fun _ _=>none))) (x:=ob1) (y:=((e2):ay)) (R:=r3) (i:=(WQ [(l2,c3),(l3,c4)])) (xs:=[.tmp 73]) _ J (ht J) q_r3 ⟨(ht J),aL⟩ (fun _=>J))))) J fun i2=>?_;refine(show RG _ _ _ _ [bx (rH bz [(1,bc (i2.h 0).1 (i2.h 0).2 r3.2.kinds.length),(2,bc (i2.h 1).1 (i2.h 1).2 r3.2.first.length)]) 115 b r3.2,ez nQ 39 (i2.h 0).1 (i2.h 0).2 r3.2.kinds,ez cj 3 (i2.h 1).1 (i2.h 1).2 r3.2.first,e1,nP (xg (fun y:(aI→ay→Option (((List Int)×Bool)×aI))=>d4 aU pI (dN b) oW y)) nO b1 none os7 Mc] ((74,tT [mH r3.1.1,hJ r3.1.2])::_)from ?_);refine aE J<|zo J (dX J J)<|zo J (dX J J)<|bg J<|bg J<|aQ<|aM<|aM<|aM<|fR<|fR ?_;exact ci (K1 r3.1.2 r3.1.1 r3.2 (i2.h 0).1 (i2.h 0).2 (i2.h 1).1 (i2.h 1).2 h) (bD J)
    ·refine bA ?_;exact ci (K1 ok ([]) ob1 l2 c3 l3 c4 h) (bD J)
  ·skip
   refine av<|aE J<|aq<|ce h J (fun h=>?_) (fun h=>?_)
   ·refine av<|zo J (bW)<|aq<|av<|zo J (ly k6 (ht J))<|aE J<|bo h fun r4 q_r4 h=>Av (EffOK.fr4 (EffOK.fr4 (EffOK.fr4 (Qy (xs:=[.tmp 55,.tmp 56]) (ts:=[tV (aS b 0),bM (i:Int)]) (dN b ob (WQ [(l,c1),(l1,c2)])) _ J abG (Y2 b (WQ [(l,c1),(l1,c2)]) ob _ q_r4) ⟨(ht J),(ht J),aL⟩ (fun _=>J))))) J fun i3=>?_;refine(show RG _ _ _ _ [bx (rH bz [(1,bc l c1 ob.kinds.length),(2,bc l1 c2 ob.first.length)]) 115 b ob,ez nQ 39 l c1 ob.kinds,ez cj 3 l1 c2 ob.first,e1,nP (xg (fun y:(aI→ay→Option (((List Int)×Bool)×aI))=>d4 aU pI (dN b) oW y)) nO b1 none os7 Mc] ((57,tT [bM r4.1,hJ r4.2])::_)from ?_);refine aE J<|zo J (dX J J)<|zo J (dX J J)<|bg J<|bg J<|aq<|bo h fun l7 q_l7 h=>?_
    refine oy 8 [tc (tV (aS b 0)),tc (tV (aS b 0)),tc (tV (aS b 0)),tc (tV (aS b 2)),tc (tO cj l1 c2 ob.first),tc (bM r4.1),tc (mH ([r4.1])),([7],fun s=>tO cj ((s.getD 0 pj).h 0).1 ((s.getD 0 pj).h 0).2 l7)] [false,false,false,false,false,false,false,true] [fun _=>[bx (rH bz [(1,bc l c1 ob.kinds.length),(2,bc l1 c2 ob.first.length)]) 115 b ob,ez nQ 39 l c1 ob.kinds,ez cj 3 l1 c2 ob.first,e1,nP (xg (fun y:(aI→ay→Option (((List Int)×Bool)×aI))=>d4 aU pI (dN b) oW y)) nO b1 none os7 Mc],fun sg1=>[ez cj 3 ((sg1 7).h 0).1 ((sg1 7).h 0).2 l7,bx (rH bz [(1,bc l c1 ob.kinds.length),(2,bc l1 c2 ob.first.length)]) 115 b ob,ez nQ 39 l c1 ob.kinds,e1,nP (xg (fun y:(aI→ay→Option (((List Int)×Bool)×aI))=>d4 aU pI (dN b) oW y)) nO b1 none os7 Mc]] J mixed J J J J J
     ⟨⟨[⟨1,fun _=>bN (rT (tV (aS b 0))) (),none⟩],_,0,1,J,⟨(fun _=>J),aL⟩,J,J,J,J,J,fun _ sg1 _ _=>aD J (ly k6 (ht J))⟩,
     ⟨⟨[⟨1,fun _=>bN (rT (tV (aS b 0))) (),none⟩],_,0,0,J,⟨(fun _=>J),aL⟩,J,J,J,J,J,fun _ sg1 _ _=>aD J (ly k6 (ht J))⟩,
     ⟨⟨[⟨61,fun _=>tV (aS b 0),some 1⟩],_,0,0,J,⟨(fun _=>J),aL⟩,J,J,J,J,J,fun _ sg1 _ _=>aD J (dQ (ht J))⟩,
     ⟨⟨[⟨62,fun _=>tV (aS b 0),some 2⟩],_,0,0,J,⟨(fun _=>J),aL⟩,J,J,J,J,J,fun _ sg1 _ _=>aD J (je 2 uO J J J)⟩,
     ⟨⟨[⟨63,fun _=>tV (aS b 2),some 3⟩],_,0,0,J,⟨(fun _=>J),aL⟩,J,J,J,J,J,z7 (fun sg1=>aD J (dx eQ J (.head _) (.tail _ (.tail _ (.head _))) (ht J)))⟩,
     ⟨⟨[⟨9,fun _=>tD cj r4.1,none⟩],_,0,0,J,⟨(fun _=>J),aL⟩,J,J,J,J,J,fun _ sg1 _ _=>aD J (cX J)⟩,
     ⟨⟨[⟨65,fun _=>tD cj r4.1,some 5⟩],_,0,0,J,⟨(fun _=>J),aL⟩,J,J,J,J,J,fun _ sg1 _ _=>aD J (bf (r:=cj) (ys:=[r4.1]) (xs:=[.tmp 65]) iv cg J J J J J ⟨(ht J),aL⟩)⟩,
     ⟨⟨[⟨64,fun _=>tO cj l1 c2 ob.first,some 4⟩,⟨66,fun _=>tD xA ([r4.1]),some 6⟩],_,J,⟨(fun _=>J),(fun _=>J),aL⟩,J,J,J,fun sg1=>eF J (EffOK.fr2 (uQ cg J J J J iv J (ht J) (ht J) q_l7))⟩,
     aL⟩⟩⟩⟩⟩⟩⟩⟩ (fun sg1=>?_)
    refine(show RG _ _ _ _ [ez cj 3 ((sg1 7).h 0).1 ((sg1 7).h 0).2 l7,bx (rH bz [(1,bc l c1 ob.kinds.length),(2,bc l1 c2 ob.first.length)]) 115 b ob,ez nQ 39 l c1 ob.kinds,e1,nP (xg (fun y:(aI→ay→Option (((List Int)×Bool)×aI))=>d4 aU pI (dN b) oW y)) nO b1 none os7 Mc] _ from ?_);refine zo J (dQ (ht J))<|zo J (je 2 uO J J J)<|nd (EffOK.fr1 (wJ (hs' :=[(1,bc l c1 ob.kinds.length),(2,bc ((sg1 7).h 0).1 ((sg1 7).h 0).2 l7.length)]) (u:=bc ((sg1 7).h 0).1 ((sg1 7).h 0).2 l7.length) eQ J J H2 J ⟨.inr ⟨J,J⟩,.inl ⟨J,J,J⟩,aL⟩ (ht J) (lJ (ht J)) (Mm (ht J)))) fun i4=>?_;refine(show RG _ _ _ _ [bx (rH bz [(1,bc l c1 ob.kinds.length),(2,bc ((sg1 7).h 0).1 ((sg1 7).h 0).2 l7.length)]) 115 b ({ob with first:=l7}:aI),ez cj 3 ((sg1 7).h 0).1 ((sg1 7).h 0).2 l7,ez nQ 39 l c1 ob.kinds,e1,nP (xg (fun y:(aI→ay→Option (((List Int)×Bool)×aI))=>d4 aU pI (dN b) oW y)) nO b1 none os7 Mc] _ from ?_);refine aQ<|bI<|aM<|aM<|fR<|fR ?_;exact ci (K r4.2 ({ob with first:=l7}:aI) l c1 ((sg1 7).h 0).1 ((sg1 7).h 0).2 h) (bD J)
   ·refine bA ?_;exact ci (K t ob l c1 l1 c2 h) (bD J)

end Go.Proofs.YtfhhakidodmdfaaGreatDoor

