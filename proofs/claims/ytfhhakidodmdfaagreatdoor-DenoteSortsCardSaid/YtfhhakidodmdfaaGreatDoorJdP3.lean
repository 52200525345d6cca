/- da of this claim: P3. -/
import Derived.Test.YtfhhakidodmdfaaGreatDoorJdT
import Derived.Test.YtfhhakidodmdfaaGreatDoorJdP2
set_option linter.all false
namespace Go.Proofs.YtfhhakidodmdfaaGreatDoor
open Go
set_option maxRecDepth 100000

theorem Uq(in1:(List Int))(o:dn){R:Bool}(h:ku in1 o=some R):aU aO 286 [tD d3 o,bK nj in1] (gY R):=by
 refine aU.of Tryz.func286 J J J fun w0 S0=>au<|zo J (jw J)<|zo J (jE)<|aq<|au<|zo J (cY uv ow J J)<|zo J (bB cv J J)<|zo J (fa (ht J) hI)<|aF J<|gI J J (fun hg=>cY uv ow J J)<|gI J J (fun hg=>bM cv J J (bD J hg))<|gI J J (fun hg=>bB eC J J)<|gI J J (fun hg=>dW g9 (bD J hg))<|gI J J (fun hg=>hT (bD J hg) (bD J hg))<|zo J (yr J J)<|bm J<|aq<|ak ?_;cases so h;exact aG J J

theorem XZ(b:Nat)(ix:OI)(c:aE)(n:am){R:(List Int)×Bool}(h:gx c n=some R):c9 aO 209 [tV (aP b 0),tD aL n] (dE b c ix) (fun _:OI=>tT [mf R.1,gY R.2]) (fun _=>(dE b c ix)):=by
 refine c9.of Tryz.func209 J J J fun w0 S0=>?_;refine(show CG _ _ _ [bx (rH bj [(1,aS (ix.h 0).1 (ix.h 0).2 c.kinds.length),(2,aS (ix.h 1).1 (ix.h 1).2 c.first.length)]) 115 b c,d5 nj 39 (ix.h 0).1 (ix.h 0).2 c.kinds,d5 bY 3 (ix.h 1).1 (ix.h 1).2 c.first] _ from ?_);refine au<|zo J (jw J)<|zo J (aJ (show aI _ _ _ wO from jA))<|zo J (jE)<|aq<|ah<|bv h fun e q_e h=>?_
 refine oA 9 [tc (tV (aP b 0)),tc (tV (aP b 0)),tc (tV (aP b 1)),tc (tO nj (ix.h 0).1 (ix.h 0).2 c.kinds),tc (bK bY n.A),tc (bH n.A),tc (bK nj e),tc (mf e),([8],fun s=>tV (aP ((s.getD 0 pm).h 0).2 0))] [false,false,false,false,false,false,false,false,true] [fun _=>[bx (rH bj [(1,aS (ix.h 0).1 (ix.h 0).2 c.kinds.length),(2,aS (ix.h 1).1 (ix.h 1).2 c.first.length)]) 115 b c,d5 nj 39 (ix.h 0).1 (ix.h 0).2 c.kinds,d5 bY 3 (ix.h 1).1 (ix.h 1).2 c.first],fun sg=>[bx nj 39 ((sg 8).h 0).2 ([]),bx (rH bj [(1,aS (ix.h 0).1 (ix.h 0).2 c.kinds.length),(2,aS (ix.h 1).1 (ix.h 1).2 c.first.length)]) 115 b c,d5 nj 39 (ix.h 0).1 (ix.h 0).2 c.kinds,d5 bY 3 (ix.h 1).1 (ix.h 1).2 c.first]] J mixed J J J J J
  ⟨⟨[⟨0,fun _=>tV (aP b 0),none⟩],_,0,1,J,⟨(fun _=>J),aR⟩,J,J,J,J,J,fun _ sg _ _=>aB J (cD J)⟩,
  ⟨⟨[⟨9,fun _=>tV (aP b 0),some 0⟩],_,0,1,J,⟨(fun _=>J),aR⟩,J,J,J,J,J,fun _ sg _ _=>aB J (dG (ht J))⟩,
  ⟨⟨[⟨10,fun _=>tV (aP b 0),some 1⟩],_,0,1,J,⟨(fun _=>J),aR⟩,J,J,J,J,J,fun _ sg _ _=>aB J (kG 1 nf J J J)⟩,
  ⟨⟨[⟨11,fun _=>tV (aP b 1),some 2⟩],_,0,1,J,⟨(fun _=>J),aR⟩,J,J,J,J,J,Fu (fun sg=>aB J (di sD J (.head _) (.tail _ (.head _)) (ht J))) (ze (fun sg=>aB J (di sD J (.tail _ (.head _)) (.tail _ (.tail _ (.head _))) (ht J))))⟩,
  ⟨⟨[⟨3,fun _=>bK aL n,none⟩],_,0,1,J,⟨(fun _=>J),aR⟩,J,J,J,J,J,fun _ sg _ _=>aB J (cY jR dX J J)⟩,
  ⟨⟨[⟨13,fun _=>bK bY n.A,some 4⟩],_,0,1,J,⟨(fun _=>J),aR⟩,J,J,J,J,J,fun _ sg _ _=>aB J (bB cv J J)⟩,
  ⟨⟨[⟨12,fun _=>tO wN (ix.h 0).1 (ix.h 0).2 c.kinds,some 3⟩,⟨14,fun _=>tD bY n.A,some 5⟩],_,0,1,J,⟨(fun _=>J),(fun _=>J),aR⟩,J,J,J,J,J,fun _ sg _ _=>aB J (bp vo eC J (k7 (ht J)) (ht J) q_e)⟩,
  ⟨⟨[⟨15,fun _=>bK wN e,some 6⟩],_,0,1,J,⟨(fun _=>J),aR⟩,J,J,J,J,J,fun _ sg _ _=>aB J (bB eC J J)⟩,
  ⟨⟨[],_,J,aR,J,J,J,fun sg=>eI J (xZ (r:=wN) (x:=[]) eC (fun _=>⟨none,0,J,dF _,ln _,.inl J⟩))⟩,
  aR⟩⟩⟩⟩⟩⟩⟩⟩⟩ (fun sg=>?_)
 refine(show RG _ _ _ _ [bx nj 39 ((sg 8).h 0).2 ([]),bx (rH bj [(1,aS (ix.h 0).1 (ix.h 0).2 c.kinds.length),(2,aS (ix.h 1).1 (ix.h 1).2 c.first.length)]) 115 b c,d5 nj 39 (ix.h 0).1 (ix.h 0).2 c.kinds,d5 bY 3 (ix.h 1).1 (ix.h 1).2 c.first] _ from ?_);refine ax eC J an J (ht J) (ht J)<|aZ 6 J<|aq<|au<|zo J ((show bO _ _ _ _ ((dK aO OW kN (fun(x:dn)=>(ku e) x)))from fW (cts:=[bK nj e]) (caps:=[.tmp 6]) Z9 ⟨(ht J),aR⟩ (fun x y h=>Uq _ _ h)))<|bm J<|aq<|au<|zo J (cY vP q9 J J)<|zo J (bB wt J J)<|zo J (iw uC J)<|zo J (lL (ht J) hI)<|aF J<|bv h fun t q_t h=>cR J J (fun hg=>cY vP q9 J J)<|cR J J (fun hg=>bM wt J J (bD J hg))<|cR J J (fun hg=>cD J) ?_
 obtain⟨r,h1t,h0t⟩:=og q_t
 have q_rg:=fun hb=>(h1t hb).1
 refine cR J J (fun hg=>aA Ws (Oj _ _ (q_rg hg)) ⟨(bD J hg),(bD J hg),aR⟩)<|cR J J (fun hg=>ei (bD J hg))<|zo J (dP (ht J) (fun hb=>(bD J hb)) (fun hb=>(h1t hb).2) h0t)<|aF J<|cR J J (fun hg=>cY AQ tY J J)<|cR J J (fun hg=>bM cv J J (bD J hg))<|cR J J (fun hg=>hT (bD J hg) hI)<|zo J (rE J J)<|aF J<|cR J J (fun hg=>cY AQ tY J J)<|cR J J (fun hg=>bM cv J J (bD J hg))<|cR J J (fun hg=>lL (bD J hg) hI)<|zo J (rE J J)<|bm J<|aq<|ah ?_
 refine cJ (ts:=[_,_,_,_,_,_,_,_,_,_,_,_,_,_,_,_,_,_,_]) mixed J J
  ⟨ep 6 J J J (bB eC J J),
  ⟨ep 8 J J J (cD J),
  ⟨bT 40 1 J J J (cD J),
  ⟨pZ 0 41 2 J J J J (dJ J J J J (fun hg=>cD J)),
  ⟨kO 42 3 41 2 J J J J (dJ J J J J (fun hg=>dG (bD J hg))),
  ⟨kO 43 4 41 2 J J J J (dJ J J J J (fun hg=>ou (n:=1) nf J (bD J hg) J)),
  ⟨kO 44 5 41 2 J J J J (dJ J J J J (fun hg=>di sD J (.head _) (.tail _ (.head _)) (bD J hg))),
  ⟨kO 45 6 41 2 J J J J (dJ J J J J (fun hg=>dW vo (k7 (bD J hg)))),
  ⟨pZ 0 41 2 J J J J (dJ J J J J (fun hg=>cD J)),
  ⟨kO 47 8 41 2 J J J J (dJ J J J J (fun hg=>dG (bD J hg))),
  ⟨kO 48 9 41 2 J J J J (dJ J J J J (fun hg=>ou (n:=0) H6 J (bD J hg) J)),
  ⟨kO 49 10 41 2 J J J J (dJ J J J J (fun hg=>ou (n:=0) uw J (bD J hg) J)),
  ⟨kO 50 11 41 2 J J J J (dJ J J J J (fun hg=>cd (r:=rH bj [(1,aS (ix.h 0).1 (ix.h 0).2 c.kinds.length),(2,aS (ix.h 1).1 (ix.h 1).2 c.first.length)]) (x:=c) Fw J J (TR (u8 vM nF)) (.head _) (bD J hg))),
  ⟨kO 51 12 41 2 J J J J (dJ J J J J (fun hg=>dW z7 (bD J hg))),
  ⟨kO 52 13 41 2 J J J J (dJ J J J J (fun hg=>gK (bD J hg) hI)),
  ⟨tF 46 7 53 14 41 2 J J J J J (dJ J J J J (fun hg=>dd (bD J hg) (bD J hg))),
  ⟨dv 41 2 54 15 J J J J (rE J J),
  ⟨bT 39 0 J J J (tA J),
  ⟨bT 55 16 J J J (tA J),
  aR⟩⟩⟩⟩⟩⟩⟩⟩⟩⟩⟩⟩⟩⟩⟩⟩⟩⟩⟩ ?_
 refine av<|ak<|aK<|aK<|aK ?_;cases so h;exact eg (ts:=[mf e,gY (((t&&(decide (uH≤n.Limit)))&&(decide (n.Limit≤(2147483647:Int))))&&((c.kinds.length:Int)==(IntKind.i64.wrap ((c.Logic.Nodes.length:Int)-(1:Int)))))]) (rvs:=[.tmp 4,.tmp 5]) J J ⟨aX J,aX J,aR⟩ pm J J

theorem UP(n:am){R:Bool}(h:sR n=some R):aU aO 210 [tD aL n] (gY R):=by
 refine aU.of Tryz.func210 J J J fun w0 S0=>au<|zo J (jw J)<|zo J (jE)<|aq<|au<|zo J (cY zC qo J J)<|zo J (bB cv J J)<|zo J (lU J)<|aF J<|cR J J (fun hg=>cY vO oV J J)<|cR J J (fun hg=>bM eC J J (bD J hg))<|cR J J (fun hg=>dW g9 (bD J hg))<|cR J J (fun hg=>dd (bD J hg) hI)<|zo J (rE J J)<|aF J<|cR J J (fun hg=>cY Mv EF J J)<|cR J J (fun hg=>bM IF J J (bD J hg))<|cR J J (fun hg=>ei (bD J hg))<|zo J (rE J J)<|aF J ?_;refine cR J J (fun hg=>cY vN oU J J)<|cR J J (fun hg=>rQ rq J nU J (bD J hg))<|cR J J (fun hg=>bM CT J J (bD J hg))<|cR J J (fun hg=>dW z8 (bD J hg))<|cR J J (fun hg=>dd (bD J hg) hI)<|zo J (rE J J)<|aF J<|cR J J (fun hg=>cY uu nG J J)<|cR J J (fun hg=>bM eC J J (bD J hg))<|cR J J (fun hg=>dW g9 (bD J hg))<|cR J J (fun hg=>dd (bD J hg) hI)<|zo J (rE J J)<|aF J<|cR J J (fun hg=>cY s5 qn J J)<|cR J J (fun hg=>bM DL J J (bD J hg))<|cR J J (fun hg=>dW z6 (bD J hg))<|cR J J (fun hg=>dd (bD J hg) hI)<|zo J (rE J J)<|aF J<|cR J J (fun hg=>cY s4 oT J J)<|cR J J (fun hg=>bM CS J J (bD J hg))<|cR J J (fun hg=>dW Bn (bD J hg))<|cR J J (fun hg=>dd (bD J hg) hI)<|zo J (rE J J) ?_;refine aF J<|cR J J (fun hg=>cY vP q9 J J)<|cR J J (fun hg=>bM wt J J (bD J hg))<|cR J J (fun hg=>dW uC (bD J hg))<|cR J J (fun hg=>dd (bD J hg) hI)<|zo J (rE J J)<|aF J<|cR J J (fun hg=>cY AQ tY J J)<|cR J J (fun hg=>bM cv J J (bD J hg))<|cR J J (fun hg=>dd (bD J hg) hI)<|zo J (rE J J)<|bm J<|aq<|ak ?_;cases so h;exact aG J J

theorem UO(n:am){R:am}(h:sS n=some R):aU aO 211 [tD aL n] (tD aL R):=by
 refine aU.of Tryz.func211 J J J fun w0 S0=>au<|yi (ht J) J fun b=>bc (r:=aL) (x:=IS) iQ (fun _=>pq _) J fun b1=>aq<|ah<|au<|zo J (kG 0 BO J J J)<|zo J (cd cv J J qp (.tail _ (.head _)) (ht J))<|aq<|ay<|au<|zo J (lU J)<|bm J<|aq<|cU h J (fun h=>?_) (fun h=>?_)
 ·refine aw<|zo J (kG 3 zC J J J)<|bI<|ax cv J LC J (ht J) hI<|zo J (kG 4 vO J J J)<|ax eC J zm J (ht J) jA<|aQ<|ap<|av<|au<|zo rfl (cd iQ rfl rfl bQ (.head _) (ht rfl))<|bI<|ax iQ rfl an rfl (ht rfl) (ht rfl)<|aZ 2 rfl<|aq<|ak<|bk ?_;cases so h;exact iN J iQ J J J
 ·refine au<|zo J (lU J)<|bm J<|aq<|cU h J (fun h=>?_) (fun h=>?_)
  ·refine aw<|zo J (ci (y:=Br) mJ Xx tB (J))<|zo J (kG 5 Mv J J J)<|bI<|ax IF J LB J (ht J) hB<|zo J (kG 6 vN J J J)<|ax mJ J zl J (ht J) (ht J)<|aQ<|ap<|av<|au<|zo rfl (cd iQ rfl rfl bQ (.head _) (ht rfl))<|bI<|ax iQ rfl an rfl (ht rfl) (ht rfl)<|aZ 2 rfl<|aq<|ak<|bk ?_;cases so h;exact iN J iQ J J J
  ·refine au<|zo J (lU J)<|bm J<|aq<|cU h J (fun h=>?_) (fun h=>?_)
   ·refine aw<|zo J (ci (y:=Br) mJ Xx tB (J))<|zo J (kG 6 vN J J J)<|bI<|ax mJ J zl J (ht J) (ht J)<|aQ<|ap<|av<|au<|zo rfl (cd iQ rfl rfl bQ (.head _) (ht rfl))<|bI<|ax iQ rfl an rfl (ht rfl) (ht rfl)<|aZ 2 rfl<|aq<|ak<|bk ?_;cases so h;exact iN J iQ J J J
   ·refine au<|zo J (lU J)<|bm J<|aq<|cU h J (fun h=>?_) (fun h=>?_)
    ·refine aw<|zo J (kG 7 uu J J J)<|bI<|ax eC J DW J (ht J) jA<|zo J (kG 8 s5 J J J)<|ax DL J DV J (ht J) jA<|aQ<|ap<|av<|au<|zo rfl (cd iQ rfl rfl bQ (.head _) (ht rfl))<|bI<|ax iQ rfl an rfl (ht rfl) (ht rfl)<|aZ 2 rfl<|aq<|ak<|bk ?_;cases so h;exact iN J iQ J J J
    ·refine au<|zo J (lU J)<|bm J<|aq<|cU h J (fun h=>?_) (fun h=>?_)
     ·refine aw<|zo J (kG 9 s4 J J J)<|bI<|ax CS J LA J (ht J) jA<|aQ<|ap<|av<|au<|zo rfl (cd iQ rfl rfl bQ (.head _) (ht rfl))<|bI<|ax iQ rfl an rfl (ht rfl) (ht rfl)<|aZ 2 rfl<|aq<|ak<|bk ?_;cases so h;exact iN J iQ J J J
     ·refine au<|zo J (lU J)<|bm J<|aq<|cU h J (fun h=>?_) (fun h=>?_)
      ·refine aw<|zo J (kG 10 vP J J J)<|bI<|ax wt J Cp J (ht J) jA<|zo J (kG 11 AQ J J J)<|ax cv J Jh J (ht J) hI<|aQ<|ap<|av<|au<|zo rfl (cd iQ rfl rfl bQ (.head _) (ht rfl))<|bI<|ax iQ rfl an rfl (ht rfl) (ht rfl)<|aZ 2 rfl<|aq<|ak<|bk ?_;cases so h;exact iN J iQ J J J
      ·refine bw<|ap<|av<|au<|zo rfl (cd iQ rfl rfl bQ (.tail _ (.head _)) (ht rfl))<|ax iQ rfl an rfl (ht rfl) (ht rfl)<|aZ 2 rfl<|aq<|ak<|bk ?_;cases so h;exact iN J iQ J J J

theorem Up(op:Int){R:Int}(h:tQ op=some R):aU aO 287 [bH op] (bH R):=by
 refine aU.of Tryz.func287 J J J fun w0 S0=>au<|zo J (cq)<|aq<|ah<|au<|aF J<|aq<|ay<|au<|zo J (lU J)<|bm J<|aq<|cU h J (fun h=>?_) (fun h=>?_)
 ·refine au<|zo J (cq)<|aq<|ak ?_;refine aD (ae ?_);cases so h;exact aG J J
 ·refine ke (Z:=fun x=>pH x=some R) (Of:=fun x=>[]) (Gf:=fun x=>[(6,gY x)]) (fun x h=>?_) (fun K=>?_)
  ·skip
   refine cU h J (fun h=>?_) (fun h=>?_)
   ·refine au<|zo J (cq)<|aq<|ak ?_;refine aD (ae ?_);cases so h;exact aG J J
   ·refine bw<|ap<|av<|au<|zo rfl (cq)<|aq<|ak ?_;cases so h;exact aG J J
  ·skip
   refine au<|zo J (lU J)<|bm J<|aq<|cU h J (fun h=>?_) (fun h=>?_)
   ·refine bw ?_;exact cM (K (op==(2:Int)) h) (bt J)
   ·refine aw<|zo J (lU J)<|bm J<|aQ ?_;exact cM (K (op==(7:Int)) h) (bt J)

theorem XY(b:Nat)(ix:OI)(c:aE)(i:Int){R:Int×Bool}(h:jG c i=some R):c9 aO 212 [tV (aP b 0),bH i] (dE b c ix) (fun _:OI=>tT [bH R.1,gY R.2]) (fun _=>(dE b c ix)):=by
 refine c9.of Tryz.func212 J J J fun w0 S0=>?_;refine(show CG _ _ _ [bx (rH bj [(1,aS (ix.h 0).1 (ix.h 0).2 c.kinds.length),(2,aS (ix.h 1).1 (ix.h 1).2 c.first.length)]) 115 b c,d5 nj 39 (ix.h 0).1 (ix.h 0).2 c.kinds,d5 bY 3 (ix.h 1).1 (ix.h 1).2 c.first] _ from ?_);refine au<|zo J (cq)<|zo J (jE)<|aq<|au<|aF J<|zo J (dG (ht J))<|zo J (kG 0 H6 J J J)<|zo J (kG 0 uw J J J)<|zo J (cd (r:=rH bj [(1,aS (ix.h 0).1 (ix.h 0).2 c.kinds.length),(2,aS (ix.h 1).1 (ix.h 1).2 c.first.length)]) (x:=c) Fw J J (TR (u8 vM nF)) (.head _) (ht J))<|aF J<|bv h fun e q_e h=>zo J (lq z7 iQ J J J q_e)<|zo J (bB iQ J J)<|bc (r:=aL) (x:=IS) iQ (fun _=>pq _) J fun b1=>ax iQ J an J (ht J) (ht J)<|aZ 6 J<|aq<|ah<|ah ?_;refine aw<|zo J (cY BO qp J J)<|zo J (bB cv J J)<|bv h fun r q_r h=>zo J (aA Z8 (Up _ q_r) ⟨(ht J),aR⟩)<|aq<|ay<|au<|zo J (lU J)<|bm J<|aq<|cU h J (fun h=>?_) (fun h=>?_)
 ·refine ah ?_
  refine cJ (ts:=[_,_,_,_,_,_,_,_,_,_,_]) mixed J J
   ⟨ep 1 J J J (cD J),
   ⟨ep 6 J J J (cY jR dX J J),
   ⟨bT 21 1 J J J (bB cv J J),
   ⟨bT 22 2 J J J (lU J),
   ⟨bT 23 3 J J J (cD J),
   ⟨pZ 6 24 4 J J J J (dJ J J J J (fun hg=>cY rp kp J J)),
   ⟨kO 25 5 24 4 J J J J (dJ J J J J (fun hg=>bM cv J J (bD J hg))),
   ⟨kO 26 6 24 4 J J J J (dJ J J J J (fun hg=>dd (bD J hg) hI)),
   ⟨dv 24 4 27 7 J J J J (rE J J),
   ⟨bT 20 0 J J J (tA J),
   ⟨bT 28 8 J J J (tA J),
   aR⟩⟩⟩⟩⟩⟩⟩⟩⟩⟩⟩ ?_
  refine av<|ak ?_;refine aD (ae ?_);refine aK<|aK<|aK ?_;cases so h;exact eg (ts:=[bH i,gY ((e.A==uH)&&(e.B==uH))]) (rvs:=[.tmp 4,.tmp 5]) J J ⟨aX J,aX J,aR⟩ pm J J
 ·refine au<|zo J (lU J)<|bm J<|aq<|cU h J (fun h=>?_) (fun h=>?_)
  ·refine ah<|au<|zo J (cY jR dX J J)<|zo J (bB cv J J)<|aF J<|zo J (gK (ht J) hI)<|zo J (eZ (ht J) (ht J))<|aF J<|gI J J (fun hg=>cY rp kp J J)<|gI J J (fun hg=>bM cv J J (bD J hg))<|gI J J (fun hg=>eZ (bD J hg) hI)<|zo J (yr J J)<|aF J<|gI J J (fun hg=>cD J)<|gI J J (fun hg=>dd (bD J hg) hI)<|zo J (yr J J)<|aq<|cU h J (fun h=>?_) (fun h=>?_)
   ·refine au<|zo J (cq)<|zo J (jE)<|aq<|ak ?_;refine ae (aD (ae ?_));refine aK<|aK<|aK ?_;cases so h;exact eg (ts:=[bH 0,gY false]) (rvs:=[.tmp 4,.tmp 5]) J J ⟨aX J,aX J,aR⟩ pm J J
   ·refine dR<|ah<|bv h fun e1 q_e1 h=>?_
    refine cJ (ts:=[_,_,_,_,_,_,_,_,_,_]) mixed J J
     ⟨ep 0 J J J (cD J),
     ⟨bT 45 0 J J J (dG (ht J)),
     ⟨bT 46 1 J J J (kG 2 tZ J J J),
     ⟨bT 47 2 J J J (di eC J (.head _) (.tail _ (.tail _ (.head _))) (ht J)),
     ⟨ep 6 J J J (cY jR dX J J),
     ⟨bT 49 4 J J J (bB cv J J),
     ⟨dv 48 3 50 5 J J J J (bp g9 cv J (k7 (ht J)) (ht J) q_e1),
     ⟨bT 51 6 J J J (bB cv J J),
     ⟨bT 52 7 J J J (tA J),
     ⟨OX J J (jE),
     aR⟩⟩⟩⟩⟩⟩⟩⟩⟩⟩ ?_
    refine av<|ak ?_;refine aD (ae ?_);refine aK<|aK<|aK ?_;cases so h;exact eg (ts:=[bH e1,gY true]) (rvs:=[.tmp 4,.tmp 5]) J J ⟨aX J,aX J,aR⟩ pm J J
  ·refine bw<|ap<|av<|ah<|ah<|bv h fun t q_t h=>?_
   obtain⟨e2,h1t,h0t⟩:=og q_t
   have q_e2g:=fun hb=>(h1t hb).1
   refine cJ (ts:=[_,_,_,_,_,_,_,_,_,_,_,_,_,_,_,_,_,_,_,_,_,_,_,_,_,_,_,_]) mixed J J
    ⟨ep 6 J J J (cY rp kp J J),
    ⟨bT 53 0 J J J (bB cv J J),
    ⟨ep 1 J J J (cD J),
    ⟨bT 55 2 J J J (gK (ht J) hI),
    ⟨dv 54 1 56 3 J J J J (eZ (ht J) (ht J)),
    ⟨bT 57 4 J J J (cD J),
    ⟨pZ 1 58 5 J J J J (kF J J J J (fun hg=>cD J)),
    ⟨kO 59 6 58 5 J J J J (kF J J J J (fun hg=>dd (bD J hg) hI)),
    ⟨dv 58 5 60 7 J J J J (yr J J),
    ⟨bT 61 8 J J J (cD J),
    ⟨pZ 6 62 9 J J J J (kF J J J J (fun hg=>cY jR dX J J)),
    ⟨kO 63 10 62 9 J J J J (kF J J J J (fun hg=>bM cv J J (bD J hg))),
    ⟨pZ 0 62 9 J J J J (kF J J J J (fun hg=>cD J)),
    ⟨kO 65 12 62 9 J J J J (kF J J J J (fun hg=>dG (bD J hg))),
    ⟨kO 66 13 62 9 J J J J (kF J J J J (fun hg=>ou (n:=2) tZ J (bD J hg) J)),
    ⟨kO 67 14 62 9 J J J J (kF J J J J (fun hg=>di eC J (.head _) (.tail _ (.tail _ (.head _))) (bD J hg))),
    ⟨pZ 6 62 9 J J J J (kF J J J J (fun hg=>cY rp kp J J)),
    ⟨kO 69 16 62 9 J J J J (kF J J J J (fun hg=>bM cv J J (bD J hg))),
    ⟨tF 68 15 70 17 62 9 J J J J J (kF J J J J (fun hg=>bp g9 cv J (k7 (bD J hg)) (bD J hg) (q_e2g hg))),
    ⟨kO 71 18 62 9 J J J J (kF J J J J (fun hg=>bM cv J J (bD J hg))),
    ⟨kO 72 19 62 9 J J J J (kF J J J J (fun hg=>gK (bD J hg) hI)),
    ⟨tF 64 11 73 20 62 9 J J J J J (kF J J J J (fun hg=>eZ (bD J hg) (bD J hg))),
    ⟨dv 62 9 74 21 J J J J (ko (ht J) (fun hb=>(bD J (yA hb))) (fun hb=>(h1t hb).2) h0t),
    ⟨bT 75 22 J J J (cD J),
    ⟨pZ 6 76 23 J J J J (kF J J J J (fun hg=>cY jR dX J J)),
    ⟨kO 77 24 76 23 J J J J (kF J J J J (fun hg=>bM cv J J (bD J hg))),
    ⟨kO 78 25 76 23 J J J J (kF J J J J (fun hg=>fa (bD J hg) hI)),
    ⟨dv 76 23 79 26 J J J J (yr J J),
    aR⟩⟩⟩⟩⟩⟩⟩⟩⟩⟩⟩⟩⟩⟩⟩⟩⟩⟩⟩⟩⟩⟩⟩⟩⟩⟩⟩⟩ ?_
   refine av<|cU h rfl (fun h=>?_) (fun h=>?_)
   ·refine au<|zo J (cq)<|zo J (jE)<|aq<|ak<|ae<|aK<|aK<|aK ?_;cases so h;exact eg (ts:=[bH 0,gY false]) (rvs:=[.tmp 4,.tmp 5]) J J ⟨aX J,aX J,aR⟩ pm J J
   ·refine dR<|ah<|bv h fun e3 q_e3 h=>?_
    refine cJ (ts:=[_,_,_,_,_,_,_,_,_,_]) mixed J J
     ⟨ep 0 J J J (cD J),
     ⟨bT 81 0 J J J (dG (ht J)),
     ⟨bT 82 1 J J J (kG 2 tZ J J J),
     ⟨bT 83 2 J J J (di eC J (.head _) (.tail _ (.tail _ (.head _))) (ht J)),
     ⟨ep 6 J J J (cY jR dX J J),
     ⟨bT 85 4 J J J (bB cv J J),
     ⟨dv 84 3 86 5 J J J J (bp g9 cv J (k7 (ht J)) (ht J) q_e3),
     ⟨bT 87 6 J J J (bB cv J J),
     ⟨bT 88 7 J J J (tA J),
     ⟨OX J J (jE),
     aR⟩⟩⟩⟩⟩⟩⟩⟩⟩⟩ ?_
    refine av<|ak<|aK<|aK<|aK ?_;cases so h;exact eg (ts:=[bH e3,gY true]) (rvs:=[.tmp 4,.tmp 5]) J J ⟨aX J,aX J,aR⟩ pm J J

theorem RL(b:Nat)(ix:OI)(c:aE):Bh aO 201 (fun(x:Int×Bool)=>[bH x.1,gY x.2]) (fun _=>lv c) (dE b) (dE b c ix) [bK (rT (tV (aP b 0))) ()]:=by
 refine Bh.of Tryz.func201 J J J fun Sg yld s R h I yv hy e he w0 S0 B hB=>?_
 replace h:lv c yld s=some R:=h
 refine(show CG _ _ _ [e,bx (rH bj [(1,aS (ix.h 0).1 (ix.h 0).2 c.kinds.length),(2,aS (ix.h 1).1 (ix.h 1).2 c.first.length)]) 115 b c,d5 nj 39 (ix.h 0).1 (ix.h 0).2 c.kinds,d5 bY 3 (ix.h 1).1 (ix.h 1).2 c.first] _ from ?_);refine au<|zM (wv (fun y:(aE→am→Option (((List Int)×Bool)×aE))=>dS aO o3 (dE b) oh y)) nh J fun b1=>zo J (kV kD (ht J)) ?_
 refine pT ((show bO _ _ _ _ (dS aO o3 (dE b) oh WQ)from jF aaJ (ht J) (fun c x R h i=>by
   obtain⟨r,h1,rfl⟩:=vq.1 h
   exact iE (Ob:=fun j=>dE b c j) (i:=i) (X6 _ i c _ h1)))) J ?_
 refine eN (γ:=(fun y:(aE→am→Option (((List Int)×Bool)×aE))=>dS aO o3 (dE b) oh y)) (y:=WQ) Ah (ee kM) (ht J) (nE hI) (ht J) fun os=>zo J (kV kD (ht J)) ?_
 refine pT ((show bO _ _ _ _ (dS aO o3 (dE b) oh WP)from jF aaI (ht J) (fun c x R h i=>by
   obtain⟨r,h1,rfl⟩:=vq.1 h
   exact iE (Ob:=fun j=>dE b c j) (i:=i) (X5 _ i c _ h1)))) J ?_
 refine eN (γ:=(fun y:(aE→am→Option (((List Int)×Bool)×aE))=>dS aO o3 (dE b) oh y)) (y:=WP) Ah (ee kM) (ht J) (nE hI) (ht J) fun os1=>zo J (kV kD (ht J)) ?_
 refine pT ((show bO _ _ _ _ (dS aO o3 (dE b) oh WU)from jF aaH (ht J) (fun c x R h i=>by
   obtain⟨r,h1,rfl⟩:=vq.1 h
   exact iE (Ob:=fun j=>dE b c j) (i:=i) (X4 _ i c _ h1)))) J ?_
 refine eN (γ:=(fun y:(aE→am→Option (((List Int)×Bool)×aE))=>dS aO o3 (dE b) oh y)) (y:=WU) Ah (ee kM) (ht J) (nE hI) (ht J) fun os2=>zo J (kV kD (ht J)) ?_
 refine pT ((show bO _ _ _ _ (dS aO o3 (dE b) oh WR)from jF aaG (ht J) (fun c x R h i=>by
   obtain⟨r,h1,rfl⟩:=vq.1 h
   exact iE (Ob:=fun j=>dE b c j) (i:=i) (X3 _ i c _ h1)))) J ?_
 refine eN (γ:=(fun y:(aE→am→Option (((List Int)×Bool)×aE))=>dS aO o3 (dE b) oh y)) (y:=WR) Ah (ee kM) (ht J) (nE hI) (ht J) fun os3=>zo J (kV kD (ht J)) ?_
 refine pT ((show bO _ _ _ _ (dS aO o3 (dE b) oh WV)from jF aaF (ht J) (fun c x R h i=>by
   obtain⟨r,h1,rfl⟩:=vq.1 h
   exact iE (Ob:=fun j=>dE b c j) (i:=i) (X2 _ i c _ h1)))) J ?_
 refine eN (γ:=(fun y:(aE→am→Option (((List Int)×Bool)×aE))=>dS aO o3 (dE b) oh y)) (y:=WV) Ah (ee kM) (ht J) (nE hI) (ht J) fun os4=>zo J (kV kD (ht J)) ?_
 refine pT ((show bO _ _ _ _ (dS aO o3 (dE b) oh WW)from jF aaE (ht J) (fun c x R h i=>by
   obtain⟨r,h1,rfl⟩:=vq.1 h
   exact iE (Ob:=fun j=>dE b c j) (i:=i) (X1 _ i c _ h1)))) J ?_
 refine eN (γ:=(fun y:(aE→am→Option (((List Int)×Bool)×aE))=>dS aO o3 (dE b) oh y)) (y:=WW) Ah (ee kM) (ht J) (nE hI) (ht J) fun os5=>zo J (kV kD (ht J)) ?_
 refine pT ((show bO _ _ _ _ (dS aO o3 (dE b) oh WT)from jF aaD (ht J) (fun c x R h i=>by
   obtain⟨r,h1,rfl⟩:=vq.1 h
   exact iE (Ob:=fun j=>dE b c j) (i:=i) (X0 _ i c _ h1)))) J ?_
 refine eN (γ:=(fun y:(aE→am→Option (((List Int)×Bool)×aE))=>dS aO o3 (dE b) oh y)) (y:=WT) Ah (ee kM) (ht J) (nE hI) (ht J) fun os6=>zo J (kV kD (ht J)) ?_
 refine pT ((show bO _ _ _ _ (dS aO o3 (dE b) oh WS)from jF aaC (ht J) (fun c x R h i=>by
   obtain⟨r,h1,rfl⟩:=vq.1 h
   exact iE (Ob:=fun j=>dE b c j) (i:=i) (XZ _ i c _ h1)))) J ?_
 refine eN (γ:=(fun y:(aE→am→Option (((List Int)×Bool)×aE))=>dS aO o3 (dE b) oh y)) (y:=WS) Ah (ee kM) (ht J) (nE hI) (ht J) fun os7=>aF J<|bm J<|aq<|au<|zo J (kV kD (ht J))<|zo J (dG (ht J))<|zo J (kG 0 H6 J J J)<|zo J (kG 0 uw J J J)<|zo J (cd (r:=rH bj [(1,aS (ix.h 0).1 (ix.h 0).2 c.kinds.length),(2,aS (ix.h 1).1 (ix.h 1).2 c.first.length)]) (x:=c) Fw J J (TR (u8 vM nF)) (.tail _ (.tail _ (.head _))) (ht J))<|zo J (iw z7 J)<|zo J (bJ hI)<|aq<|ay<|ba (k:=33) J fun hN=>bG<|kL<|kL<|kL<|pg<|kL ?_;refine aT (KQ (Z:=fun ls i e1 s1 ob l c1 l1 c2=>(c.Logic.Nodes.drop i=ls)∧I s1 e1∧bC yld ls i s1 ob=some R) (Of:=fun _ i e1 s1 ob l c1 l1 c2=>[e1,ni (wv (fun y:(aE→am→Option (((List Int)×Bool)×aE))=>dS aO o3 (dE b) oh y)) nh b1 none os7 Lk,bx (rH bj [(1,aS l c1 ob.kinds.length),(2,aS l1 c2 ob.first.length)]) 115 b ob,d5 nj 39 l c1 ob.kinds,d5 bY 3 l1 c2 ob.first]) (Gf:=fun _ i e1 s1 ob l c1 l1 c2=>[(0,tV yv),(1,bK (rT (tV (aP b 0))) ()),(3,tV (qk b1)),(33,bR (aL) c.Logic.Nodes),(34,kg c.Logic.Nodes),(35,bH (i:Int))]) (fun i e1 s1 ob l c1 l1 c2 h=>?_) (fun e2 tl ih i e1 s1 ob l c1 l1 c2 h=>?_) c.Logic.Nodes 0 e s c (ix.h 0).1 (ix.h 0).2 (ix.h 1).1 (ix.h 1).2 ⟨J,⟨he,h⟩⟩) (bt J)
 ·obtain⟨hx,h⟩:=h
  obtain⟨he1,h⟩:=h
  refine aC<|au<|zo J (fG J J)<|aq<|ah<|bA (ht J) (dC hx)<|bu ?_;refine ai (ai (aN ?_));refine bE<|bk<|cN<|cN<|cN<|cN ?_;cases so h;exact Qc J he1 (VW [(l,c1),(l1,c2)]) J
 ·obtain⟨hx,h⟩:=h
  obtain⟨he1,h⟩:=h
  refine aC<|au<|zo J (fG J J)<|aq<|ah<|bz (ht J) (du hx)<|dR<|ah<|ay<|au<|aF J<|zo J (lq z7 iQ J J J (cW hx))<|zo J (bB iQ J J)<|bc (r:=aL) (x:=IS) iQ (fun _=>pq _) J fun b2=>bm J<|ax iQ J an J (ht J) (ht J)<|aZ 5 J<|aq<|ah ?_;refine aw<|aF J<|zo J (cY BO qp J J)<|zo J (bB cv J J)<|zo J (JF (γ:=(fun y:(aE→am→Option (((List Int)×Bool)×aE))=>dS aO o3 (dE b) (fun(x:(List Int)×Bool)=>tT [tD wN x.1,tD rB x.2]) y)) (z:=fun _ _=>none) Ah (ee kM) Yy (fun _=>Gc) (.tail _ (.head _)) (ht J) (nE (ht J)))<|aF J<|zo J (hZ J J)<|zo J (hZ J J)<|bm J<|bm J<|aq<|au<|aF J<|aF J<|bv h fun t q_t h=>cR J J (fun hg=>bB iQ J J) ?_
  obtain⟨r,h1t,h0t⟩:=og q_t
  have q_rg:=fun hb=>(h1t hb).1
  refine cR J J (fun hg=>aA aaA (UO _ (q_rg hg)) ⟨(bD J hg),aR⟩) ?_
  obtain⟨r1,h1t⟩:=Tv (fun hb=>(h1t hb).2)
  have q_r1g:=fun hb=>(h1t hb).1
  refine cR J J (fun hg=>aA aaB (UP _ (q_r1g hg)) ⟨(bD J hg),aR⟩)<|zo J (dP (ht J) (fun hb=>(bD J hb)) (fun hb=>(h1t hb).2) h0t)<|bm J<|aq ?_;refine PY (Z:=fun ok ob1 l2 c3 l3 c4=>ea yld (bC yld tl) i e2 s1 ok ob1=some R) (Of:=fun ok ob1 l2 c3 l3 c4=>[e1,ni (wv (fun y:(aE→am→Option (((List Int)×Bool)×aE))=>dS aO o3 (dE b) oh y)) nh b1 none os7 Lk,bx (rH bj [(1,aS l2 c3 ob1.kinds.length),(2,aS l3 c4 ob1.first.length)]) 115 b ob1,d5 nj 39 l2 c3 ob1.kinds,d5 bY 3 l3 c4 ob1.first]) (Gf:=fun ok ob1 l2 c3 l3 c4=>[(0,tV yv),(1,bK (rT (tV (aP b 0))) ()),(3,tV (qk b1)),(4,bH (i:Int)),(5,bK aL e2),(6,dS aO o3 (dE b) oh ((oR Lk e2.Op).getD (fun _ _=>none))),(8,gY ok),(33,bR (aL) c.Logic.Nodes),(34,kg c.Logic.Nodes),(35,bH (i:Int))]) (fun ok ob1 l2 c3 l3 c4 h=>?_) (fun K=>?_)
  ·skip
   refine au<|zo J (aJ (show aI _ _ _ wO from jA))<|aq ?_;refine PX (Z:=fun ok1 kinds ob2 l4 c5 l5 c6=>gr yld (bC yld tl) i s1 ok1 kinds ob2=some R) (Of:=fun ok1 kinds ob2 l4 c5 l5 c6=>[e1,ni (wv (fun y:(aE→am→Option (((List Int)×Bool)×aE))=>dS aO o3 (dE b) oh y)) nh b1 none os7 Lk,bx (rH bj [(1,aS l4 c5 ob2.kinds.length),(2,aS l5 c6 ob2.first.length)]) 115 b ob2,d5 nj 39 l4 c5 ob2.kinds,d5 bY 3 l5 c6 ob2.first]) (Gf:=fun ok1 kinds ob2 l4 c5 l5 c6=>[(0,tV yv),(1,bK (rT (tV (aP b 0))) ()),(3,tV (qk b1)),(4,bH (i:Int)),(8,gY ok1),(10,mf kinds),(33,bR (aL) c.Logic.Nodes),(34,kg c.Logic.Nodes),(35,bH (i:Int))]) (fun ok1 kinds ob2 l4 c5 l5 c6 h=>?_) (fun K1=>?_)
   ·skip
    refine au<|aF J<|aF J<|cR J J (fun hg=>cD J)<|cR J J (fun hg=>dW g9 (bD J hg))<|cR J J (fun hg=>lL (bD J hg) hI)<|zo J (rE J J)<|bm J<|aq<|ah<|bv h fun l6 q_l6 h=>?_
    refine oA 8 [tc (tV (aP b 0)),tc (tV (aP b 0)),tc (tV (aP b 0)),tc (tV (aP b 1)),tc (tO nj l4 c5 ob2.kinds),tc (mf kinds),tc (bR (nj) ([kinds])),([7],fun s=>tO nj ((s.getD 0 pm).h 0).1 ((s.getD 0 pm).h 0).2 l6)] [false,false,false,false,false,false,false,true] [fun _=>[e1,ni (wv (fun y:(aE→am→Option (((List Int)×Bool)×aE))=>dS aO o3 (dE b) oh y)) nh b1 none os7 Lk,bx (rH bj [(1,aS l4 c5 ob2.kinds.length),(2,aS l5 c6 ob2.first.length)]) 115 b ob2,d5 nj 39 l4 c5 ob2.kinds,d5 bY 3 l5 c6 ob2.first],fun sg=>[d5 nj 39 ((sg 7).h 0).1 ((sg 7).h 0).2 l6,e1,ni (wv (fun y:(aE→am→Option (((List Int)×Bool)×aE))=>dS aO o3 (dE b) oh y)) nh b1 none os7 Lk,bx (rH bj [(1,aS l4 c5 ob2.kinds.length),(2,aS l5 c6 ob2.first.length)]) 115 b ob2,d5 bY 3 l5 c6 ob2.first]] J mixed J J J J J
     ⟨⟨[⟨1,fun _=>bK (rT (tV (aP b 0))) (),none⟩],_,0,1,J,⟨(fun _=>J),aR⟩,J,J,J,J,J,fun _ sg _ _=>aB J (kV kD (ht J))⟩,
     ⟨⟨[⟨1,fun _=>bK (rT (tV (aP b 0))) (),none⟩],_,0,0,J,⟨(fun _=>J),aR⟩,J,J,J,J,J,fun _ sg _ _=>aB J (kV kD (ht J))⟩,
     ⟨⟨[⟨84,fun _=>tV (aP b 0),some 1⟩],_,0,0,J,⟨(fun _=>J),aR⟩,J,J,J,J,J,fun _ sg _ _=>aB J (dG (ht J))⟩,
     ⟨⟨[⟨85,fun _=>tV (aP b 0),some 2⟩],_,0,0,J,⟨(fun _=>J),aR⟩,J,J,J,J,J,fun _ sg _ _=>aB J (kG 1 nf J J J)⟩,
     ⟨⟨[⟨86,fun _=>tV (aP b 1),some 3⟩],_,0,0,J,⟨(fun _=>J),aR⟩,J,J,J,J,J,ze (fun sg=>aB J (di sD J (.tail _ (.tail _ (.head _))) (.tail _ (.tail _ (.tail _ (.head _)))) (ht J)))⟩,
     ⟨⟨[⟨10,fun _=>tD wN kinds,none⟩],_,0,0,J,⟨(fun _=>J),aR⟩,J,J,J,J,J,fun _ sg _ _=>aB J (cD J)⟩,
     ⟨⟨[⟨88,fun _=>tD wN kinds,some 5⟩],_,0,0,J,⟨(fun _=>J),aR⟩,J,J,J,J,J,fun _ sg _ _=>aB J (aV (r:=wN) (ys:=[kinds]) (xs:=[.tmp 88]) vo eC J J J J J ⟨(ht J),aR⟩)⟩,
     ⟨⟨[⟨87,fun _=>tO wN l4 c5 ob2.kinds,some 4⟩,⟨89,fun _=>tD (hM wN) ([kinds]),some 6⟩],_,J,⟨(fun _=>J),(fun _=>J),aR⟩,J,J,J,fun sg=>eI J (EffOK.fr3 (t7 eC J J J J vo J (ht J) (ht J) q_l6))⟩,
     aR⟩⟩⟩⟩⟩⟩⟩⟩ (fun sg=>?_)
    refine(show RG _ _ _ _ [d5 nj 39 ((sg 7).h 0).1 ((sg 7).h 0).2 l6,e1,ni (wv (fun y:(aE→am→Option (((List Int)×Bool)×aE))=>dS aO o3 (dE b) oh y)) nh b1 none os7 Lk,bx (rH bj [(1,aS l4 c5 ob2.kinds.length),(2,aS l5 c6 ob2.first.length)]) 115 b ob2,d5 bY 3 l5 c6 ob2.first] _ from ?_);refine zo J (dG (ht J))<|zo J (kG 1 nf J J J)<|v7 (EffOK.fr3 (vS (hs' :=[(1,aS ((sg 7).h 0).1 ((sg 7).h 0).2 l6.length),(2,aS l5 c6 ob2.first.length)]) (u:=aS ((sg 7).h 0).1 ((sg 7).h 0).2 l6.length) sD J J Hr J ⟨.inl ⟨J,J,J⟩,.inr ⟨J,J⟩,aR⟩ (ht J) (k7 (ht J)) (Lu (ht J)))) fun i1=>?_;refine(show RG _ _ _ _ [bx (rH bj [(1,aS ((sg 7).h 0).1 ((sg 7).h 0).2 l6.length),(2,aS l5 c6 ob2.first.length)]) 115 b ({ob2 with kinds:=l6}:aE),d5 nj 39 ((sg 7).h 0).1 ((sg 7).h 0).2 l6,e1,ni (wv (fun y:(aE→am→Option (((List Int)×Bool)×aE))=>dS aO o3 (dE b) oh y)) nh b1 none os7 Lk,d5 bY 3 l5 c6 ob2.first] _ from ?_);refine aq<|au<|aF J<|aF J<|aF J<|gX<|bv h fun r2 q_r2 h=>E2 hy he1 q_r2 (ht J) ⟨(ht J),(ht J),aR⟩ J fun e3 he2=>zo J (ei (ht J))<|aF J<|gI J J (fun hg=>cD J)<|gI J J (fun hg=>ei (bD J hg))<|zo J (yr J J)<|aq<|cU h J (fun h=>?_) (fun h=>?_)
    ·refine ak ?_;refine aD (ae (ae (aD ?_)));refine cN<|bk<|cN<|cN<|cN<|cN ?_;cases so h;exact Lb J he2 (VW [(((sg 7).h 0).1,((sg 7).h 0).2),(l5,c6)]) J
    ·refine bw<|ap<|av<|aw<|zo rfl (mI (cQ hx hN) rfl)<|aF rfl<|aQ<|fz<|cN<|cN<|fz<|fz ?_;exact bg (aT (ih (i+1) e3 r2.2 ({ob2 with kinds:=l6}:aE) ((sg 7).h 0).1 ((sg 7).h 0).2 l5 c6 ⟨cP hx,⟨he2,h⟩⟩) (bt J))
   ·skip
    refine au<|aF J<|aq<|cU h J (fun h=>?_) (fun h=>?_)
    ·refine aw<|aF J<|zo J (bB iQ J J)<|bv h fun r3 q_r3 h=>zN (EffOK.fr4 (EffOK.fr4 (EffOK.fr4 (A1 (args:=o3) (Ob:=dE b) (res:=oh) (f:=((oR Lk e2.Op).getD (fun _ _=>none))) (x:=ob1) (y:=((e2):am)) (R:=r3) (i:=(VW [(l2,c3),(l3,c4)])) (xs:=[.tmp 73]) _ J (ht J) q_r3 ⟨(ht J),aR⟩ (fun _=>J))))) J fun i2=>?_;refine(show RG _ _ _ _ [bx (rH bj [(1,aS (i2.h 0).1 (i2.h 0).2 r3.2.kinds.length),(2,aS (i2.h 1).1 (i2.h 1).2 r3.2.first.length)]) 115 b r3.2,d5 nj 39 (i2.h 0).1 (i2.h 0).2 r3.2.kinds,d5 bY 3 (i2.h 1).1 (i2.h 1).2 r3.2.first,e1,ni (wv (fun y:(aE→am→Option (((List Int)×Bool)×aE))=>dS aO o3 (dE b) oh y)) nh b1 none os7 Lk] ((74,tT [mf r3.1.1,gY r3.1.2])::_)from ?_);refine aF J<|zo J (hZ J J)<|zo J (hZ J J)<|bm J<|bm J<|aQ<|aK<|aK<|aK<|fz<|fz ?_;exact cM (K1 r3.1.2 r3.1.1 r3.2 (i2.h 0).1 (i2.h 0).2 (i2.h 1).1 (i2.h 1).2 h) (bt J)
    ·refine bw ?_;exact cM (K1 ok ([]) ob1 l2 c3 l3 c4 h) (bt J)
  ·skip
   refine au<|aF J<|aq<|cU h J (fun h=>?_) (fun h=>?_)
   ·refine au<|zo J (cq)<|aq<|au<|zo J (kV kD (ht J))<|aF J<|bv h fun r4 q_r4 h=>zN (EffOK.fr4 (EffOK.fr4 (EffOK.fr4 (PE (xs:=[.tmp 55,.tmp 56]) (ts:=[tV (aP b 0),bH (i:Int)]) (dE b ob (VW [(l,c1),(l1,c2)])) _ J aaz (XY b (VW [(l,c1),(l1,c2)]) ob _ q_r4) ⟨(ht J),(ht J),aR⟩ (fun _=>J))))) J fun i3=>?_;refine(show RG _ _ _ _ [bx (rH bj [(1,aS l c1 ob.kinds.length),(2,aS l1 c2 ob.first.length)]) 115 b ob,d5 nj 39 l c1 ob.kinds,d5 bY 3 l1 c2 ob.first,e1,ni (wv (fun y:(aE→am→Option (((List Int)×Bool)×aE))=>dS aO o3 (dE b) oh y)) nh b1 none os7 Lk] ((57,tT [bH r4.1,gY r4.2])::_)from ?_);refine aF J<|zo J (hZ J J)<|zo J (hZ J J)<|bm J<|bm J<|aq<|bv h fun l7 q_l7 h=>?_
    refine oA 8 [tc (tV (aP b 0)),tc (tV (aP b 0)),tc (tV (aP b 0)),tc (tV (aP b 2)),tc (tO bY l1 c2 ob.first),tc (bH r4.1),tc (mf ([r4.1])),([7],fun s=>tO bY ((s.getD 0 pm).h 0).1 ((s.getD 0 pm).h 0).2 l7)] [false,false,false,false,false,false,false,true] [fun _=>[bx (rH bj [(1,aS l c1 ob.kinds.length),(2,aS l1 c2 ob.first.length)]) 115 b ob,d5 nj 39 l c1 ob.kinds,d5 bY 3 l1 c2 ob.first,e1,ni (wv (fun y:(aE→am→Option (((List Int)×Bool)×aE))=>dS aO o3 (dE b) oh y)) nh b1 none os7 Lk],fun sg1=>[d5 bY 3 ((sg1 7).h 0).1 ((sg1 7).h 0).2 l7,bx (rH bj [(1,aS l c1 ob.kinds.length),(2,aS l1 c2 ob.first.length)]) 115 b ob,d5 nj 39 l c1 ob.kinds,e1,ni (wv (fun y:(aE→am→Option (((List Int)×Bool)×aE))=>dS aO o3 (dE b) oh y)) nh b1 none os7 Lk]] J mixed J J J J J
     ⟨⟨[⟨1,fun _=>bK (rT (tV (aP b 0))) (),none⟩],_,0,1,J,⟨(fun _=>J),aR⟩,J,J,J,J,J,fun _ sg1 _ _=>aB J (kV kD (ht J))⟩,
     ⟨⟨[⟨1,fun _=>bK (rT (tV (aP b 0))) (),none⟩],_,0,0,J,⟨(fun _=>J),aR⟩,J,J,J,J,J,fun _ sg1 _ _=>aB J (kV kD (ht J))⟩,
     ⟨⟨[⟨61,fun _=>tV (aP b 0),some 1⟩],_,0,0,J,⟨(fun _=>J),aR⟩,J,J,J,J,J,fun _ sg1 _ _=>aB J (dG (ht J))⟩,
     ⟨⟨[⟨62,fun _=>tV (aP b 0),some 2⟩],_,0,0,J,⟨(fun _=>J),aR⟩,J,J,J,J,J,fun _ sg1 _ _=>aB J (kG 2 tZ J J J)⟩,
     ⟨⟨[⟨63,fun _=>tV (aP b 2),some 3⟩],_,0,0,J,⟨(fun _=>J),aR⟩,J,J,J,J,J,ze (fun sg1=>aB J (di eC J (.head _) (.tail _ (.tail _ (.head _))) (ht J)))⟩,
     ⟨⟨[⟨9,fun _=>tD bY r4.1,none⟩],_,0,0,J,⟨(fun _=>J),aR⟩,J,J,J,J,J,fun _ sg1 _ _=>aB J (cD J)⟩,
     ⟨⟨[⟨65,fun _=>tD bY r4.1,some 5⟩],_,0,0,J,⟨(fun _=>J),aR⟩,J,J,J,J,J,fun _ sg1 _ _=>aB J (aV (r:=bY) (ys:=[r4.1]) (xs:=[.tmp 65]) g9 cv J J J J J ⟨(ht J),aR⟩)⟩,
     ⟨⟨[⟨64,fun _=>tO bY l1 c2 ob.first,some 4⟩,⟨66,fun _=>tD wN ([r4.1]),some 6⟩],_,J,⟨(fun _=>J),(fun _=>J),aR⟩,J,J,J,fun sg1=>eI J (EffOK.fr2 (t7 cv J J J J g9 J (ht J) (ht J) q_l7))⟩,
     aR⟩⟩⟩⟩⟩⟩⟩⟩ (fun sg1=>?_)
    refine(show RG _ _ _ _ [d5 bY 3 ((sg1 7).h 0).1 ((sg1 7).h 0).2 l7,bx (rH bj [(1,aS l c1 ob.kinds.length),(2,aS l1 c2 ob.first.length)]) 115 b ob,d5 nj 39 l c1 ob.kinds,e1,ni (wv (fun y:(aE→am→Option (((List Int)×Bool)×aE))=>dS aO o3 (dE b) oh y)) nh b1 none os7 Lk] _ from ?_);refine zo J (dG (ht J))<|zo J (kG 2 tZ J J J)<|v7 (EffOK.fr1 (vS (hs' :=[(1,aS l c1 ob.kinds.length),(2,aS ((sg1 7).h 0).1 ((sg1 7).h 0).2 l7.length)]) (u:=aS ((sg1 7).h 0).1 ((sg1 7).h 0).2 l7.length) eC J J Hq J ⟨.inr ⟨J,J⟩,.inl ⟨J,J,J⟩,aR⟩ (ht J) (k7 (ht J)) (Lu (ht J)))) fun i4=>?_;refine(show RG _ _ _ _ [bx (rH bj [(1,aS l c1 ob.kinds.length),(2,aS ((sg1 7).h 0).1 ((sg1 7).h 0).2 l7.length)]) 115 b ({ob with first:=l7}:aE),d5 bY 3 ((sg1 7).h 0).1 ((sg1 7).h 0).2 l7,d5 nj 39 l c1 ob.kinds,e1,ni (wv (fun y:(aE→am→Option (((List Int)×Bool)×aE))=>dS aO o3 (dE b) oh y)) nh b1 none os7 Lk] _ from ?_);refine aQ<|bE<|aK<|aK<|fz<|fz ?_;exact cM (K r4.2 ({ob with first:=l7}:aE) l c1 ((sg1 7).h 0).1 ((sg1 7).h 0).2 h) (bt J)
   ·refine bw ?_;exact cM (K t ob l c1 l1 c2 h) (bt J)

end Go.Proofs.YtfhhakidodmdfaaGreatDoor

