/- cX of this claim: P3. -/
import Derived.Test.YtfhhakidodmdfaaGreatDoorJhT
import Derived.Test.YtfhhakidodmdfaaGreatDoorJhP2
set_option linter.all false
namespace Go.Proofs.YtfhhakidodmdfaaGreatDoor
open Go
set_option maxRecDepth 100000

theorem I5(in1:(List Int))(o:ik){R:Bool}(h:ju in1 o=some R):aN aJ 286 [tD eK o,bv jG in1] (er R):=by
 refine aN.of Tryz.func286 J J J fun w0 S0=>ap<|zo J (ff J)<|zo J (ef)<|al<|ap<|zo J (bS AO uF J J)<|zo J (bn bP J J)<|zo J (dO (ht J) hI)<|aB J<|dv J J (fun hg=>bS AO uF J J)<|dv J J (fun hg=>bj bP J J (bk J hg))<|dv J J (fun hg=>bn c0 J J)<|dv J J (fun hg=>cD ed (bk J hg))<|dv J J (fun hg=>dU (bk J hg) (bk J hg))<|zo J (qY J J)<|ba J<|al<|ai ?_;cases so h;exact ay J J

theorem Mk(b:Nat)(ix:OI)(c:aF)(n:aC){R:(List Int)×Bool}(h:iu c n=some R):cy aJ 209 [tV (aO b 0),tD aM n] (cP b c ix) (fun _:OI=>tT [iA R.1,er R.2]) (fun _=>(cP b c ix)):=by
 refine cy.of Tryz.func209 J J J fun w0 S0=>?_;refine(show CG _ _ _ [bx (rH bc [(1,aQ (ix.h 0).1 (ix.h 0).2 c.kinds.length),(2,aQ (ix.h 1).1 (ix.h 1).2 c.first.length)]) 115 b c,db jG 39 (ix.h 0).1 (ix.h 0).2 c.kinds,db bI 3 (ix.h 1).1 (ix.h 1).2 c.first] _ from ?_);refine ap<|zo J (ff J)<|zo J (aD (show aH _ _ _ rd from gr))<|zo J (ef)<|al<|ae<|bp h fun e q_e h=>?_
 refine kA 9 [tc (tV (aO b 0)),tc (tV (aO b 0)),tc (tV (aO b 1)),tc (tO jG (ix.h 0).1 (ix.h 0).2 c.kinds),tc (bv bI n.A),tc (bu n.A),tc (bv jG e),tc (iA e),([8],fun s=>tV (aO ((s.getD 0 kY).h 0).2 0))] [false,false,false,false,false,false,false,false,true] [fun _=>[bx (rH bc [(1,aQ (ix.h 0).1 (ix.h 0).2 c.kinds.length),(2,aQ (ix.h 1).1 (ix.h 1).2 c.first.length)]) 115 b c,db jG 39 (ix.h 0).1 (ix.h 0).2 c.kinds,db bI 3 (ix.h 1).1 (ix.h 1).2 c.first],fun sg=>[bx jG 39 ((sg 8).h 0).2 ([]),bx (rH bc [(1,aQ (ix.h 0).1 (ix.h 0).2 c.kinds.length),(2,aQ (ix.h 1).1 (ix.h 1).2 c.first.length)]) 115 b c,db jG 39 (ix.h 0).1 (ix.h 0).2 c.kinds,db bI 3 (ix.h 1).1 (ix.h 1).2 c.first]] J mixed J J J J J
  ⟨⟨[⟨0,fun _=>tV (aO b 0),none⟩],_,0,1,J,⟨(fun _=>J),aP⟩,J,J,J,J,J,fun _ sg _ _=>aA J (cr J)⟩,
  ⟨⟨[⟨9,fun _=>tV (aO b 0),some 0⟩],_,0,1,J,⟨(fun _=>J),aP⟩,J,J,J,J,J,fun _ sg _ _=>aA J (cQ (ht J))⟩,
  ⟨⟨[⟨10,fun _=>tV (aO b 0),some 1⟩],_,0,1,J,⟨(fun _=>J),aP⟩,J,J,J,J,J,fun _ sg _ _=>aA J (gQ 1 jB J J J)⟩,
  ⟨⟨[⟨11,fun _=>tV (aO b 1),some 2⟩],_,0,1,J,⟨(fun _=>J),aP⟩,J,J,J,J,J,yI (fun sg=>aA J (cC nQ J (.head _) (.tail _ (.head _)) (ht J))) (s9 (fun sg=>aA J (cC nQ J (.tail _ (.head _)) (.tail _ (.tail _ (.head _))) (ht J))))⟩,
  ⟨⟨[⟨3,fun _=>bv aM n,none⟩],_,0,1,J,⟨(fun _=>J),aP⟩,J,J,J,J,J,fun _ sg _ _=>aA J (bS gm cW J J)⟩,
  ⟨⟨[⟨13,fun _=>bv bI n.A,some 4⟩],_,0,1,J,⟨(fun _=>J),aP⟩,J,J,J,J,J,fun _ sg _ _=>aA J (bn bP J J)⟩,
  ⟨⟨[⟨12,fun _=>tO rb (ix.h 0).1 (ix.h 0).2 c.kinds,some 3⟩,⟨14,fun _=>tD bI n.A,some 5⟩],_,0,1,J,⟨(fun _=>J),(fun _=>J),aP⟩,J,J,J,J,J,fun _ sg _ _=>aA J (bf pV c0 J (gz (ht J)) (ht J) q_e)⟩,
  ⟨⟨[⟨15,fun _=>bv rb e,some 6⟩],_,0,1,J,⟨(fun _=>J),aP⟩,J,J,J,J,J,fun _ sg _ _=>aA J (bn c0 J J)⟩,
  ⟨⟨[],_,J,aP,J,J,J,fun sg=>dA J (sx (r:=rb) (x:=[]) c0 (fun _=>⟨none,0,J,ia _,gx _,.inl J⟩))⟩,
  aP⟩⟩⟩⟩⟩⟩⟩⟩⟩ (fun sg=>?_)
 refine(show RG _ _ _ _ [bx jG 39 ((sg 8).h 0).2 ([]),bx (rH bc [(1,aQ (ix.h 0).1 (ix.h 0).2 c.kinds.length),(2,aQ (ix.h 1).1 (ix.h 1).2 c.first.length)]) 115 b c,db jG 39 (ix.h 0).1 (ix.h 0).2 c.kinds,db bI 3 (ix.h 1).1 (ix.h 1).2 c.first] _ from ?_);refine av c0 J am J (ht J) (ht J)<|aS 6 J<|al<|ap<|zo J ((show bB _ _ _ _ ((cB aJ Gb ib (fun(x:ik)=>(ju e) x)))from eB (cts:=[bv jG e]) (caps:=[.tmp 6]) Oe ⟨(ht J),aP⟩ (fun x y h=>I5 _ _ h)))<|ba J<|al<|ap<|zo J (bS qm mL J J)<|zo J (bn BB J J)<|zo J (eH Ae J)<|zo J (gH (ht J) hI)<|aB J<|bp h fun t q_t h=>cd J J (fun hg=>bS qm mL J J)<|cd J J (fun hg=>bj BB J J (bk J hg))<|cd J J (fun hg=>cr J) ?_
 obtain⟨r,h1t,h0t⟩:=og q_t
 have q_rg:=fun hb=>(h1t hb).1
 refine cd J J (fun hg=>ax PA (J1 _ _ (q_rg hg)) ⟨(bk J hg),(bk J hg),aP⟩)<|cd J J (fun hg=>cH (bk J hg))<|zo J (cJ (ht J) (fun hb=>(bk J hb)) (fun hb=>(h1t hb).2) h0t)<|aB J<|cd J J (fun hg=>bS uG oY J J)<|cd J J (fun hg=>bj bP J J (bk J hg))<|cd J J (fun hg=>dU (bk J hg) hI)<|zo J (ms J J)<|aB J<|cd J J (fun hg=>bS uG oY J J)<|cd J J (fun hg=>bj bP J J (bk J hg))<|cd J J (fun hg=>gH (bk J hg) hI)<|zo J (ms J J)<|ba J<|al<|ae ?_
 refine bZ (ts:=[_,_,_,_,_,_,_,_,_,_,_,_,_,_,_,_,_,_,_]) mixed J J
  ⟨dp 6 J J J (bn c0 J J),
  ⟨dp 8 J J J (cr J),
  ⟨bH 40 1 J J J (cr J),
  ⟨jI 0 41 2 J J J J (dP J J J J (fun hg=>cr J)),
  ⟨fk 42 3 41 2 J J J J (dP J J J J (fun hg=>cQ (bk J hg))),
  ⟨fk 43 4 41 2 J J J J (dP J J J J (fun hg=>kw (n:=1) jB J (bk J hg) J)),
  ⟨fk 44 5 41 2 J J J J (dP J J J J (fun hg=>cC nQ J (.head _) (.tail _ (.head _)) (bk J hg))),
  ⟨fk 45 6 41 2 J J J J (dP J J J J (fun hg=>cD pV (gz (bk J hg)))),
  ⟨jI 0 41 2 J J J J (dP J J J J (fun hg=>cr J)),
  ⟨fk 47 8 41 2 J J J J (dP J J J J (fun hg=>cQ (bk J hg))),
  ⟨fk 48 9 41 2 J J J J (dP J J J J (fun hg=>kw (n:=0) AP J (bk J hg) J)),
  ⟨fk 49 10 41 2 J J J J (dP J J J J (fun hg=>kw (n:=0) pm J (bk J hg) J)),
  ⟨fk 50 11 41 2 J J J J (dP J J J J (fun hg=>bL (r:=rH bc [(1,aQ (ix.h 0).1 (ix.h 0).2 c.kinds.length),(2,aQ (ix.h 1).1 (ix.h 1).2 c.first.length)]) (x:=c) yL J J (Im (pM qj jS)) (.head _) (bk J hg))),
  ⟨fk 51 12 41 2 J J J J (dP J J J J (fun hg=>cD t6 (bk J hg))),
  ⟨fk 52 13 41 2 J J J J (dP J J J J (fun hg=>eZ (bk J hg) hI)),
  ⟨kr 46 7 53 14 41 2 J J J J J (dP J J J J (fun hg=>cA (bk J hg) (bk J hg))),
  ⟨cO 41 2 54 15 J J J J (ms J J),
  ⟨bH 39 0 J J J (pe J),
  ⟨bH 55 16 J J J (pe J),
  aP⟩⟩⟩⟩⟩⟩⟩⟩⟩⟩⟩⟩⟩⟩⟩⟩⟩⟩⟩ ?_
 refine ak<|ai<|aK<|aK<|aK ?_;cases so h;exact df (ts:=[iA e,er (((t&&(decide (pX≤n.Limit)))&&(decide (n.Limit≤(2147483647:Int))))&&((c.kinds.length:Int)==(IntKind.i64.wrap ((c.Logic.Nodes.length:Int)-(1:Int)))))]) (rvs:=[.tmp 4,.tmp 5]) J J ⟨aW J,aW J,aP⟩ kY J J

theorem JC(n:aC){R:Bool}(h:xV n=some R):aN aJ 210 [tD aM n] (er R):=by
 refine aN.of Tryz.func210 J J J fun w0 S0=>ap<|zo J (ff J)<|zo J (ef)<|al<|ap<|zo J (bS tB lY J J)<|zo J (bn bP J J)<|zo J (io J)<|aB J<|cd J J (fun hg=>bS ql kO J J)<|cd J J (fun hg=>bj c0 J J (bk J hg))<|cd J J (fun hg=>cD ed (bk J hg))<|cd J J (fun hg=>cA (bk J hg) hI)<|zo J (ms J J)<|aB J<|cd J J (fun hg=>bS DE yb J J)<|cd J J (fun hg=>bj BC J J (bk J hg))<|cd J J (fun hg=>cH (bk J hg))<|zo J (ms J J)<|aB J ?_;refine cd J J (fun hg=>bS qk kN J J)<|cd J J (fun hg=>nk m3 J j9 J (bk J hg))<|cd J J (fun hg=>bj wD J J (bk J hg))<|cd J J (fun hg=>cD t7 (bk J hg))<|cd J J (fun hg=>cA (bk J hg) hI)<|zo J (ms J J)<|aB J<|cd J J (fun hg=>bS pl jT J J)<|cd J J (fun hg=>bj c0 J J (bk J hg))<|cd J J (fun hg=>cD ed (bk J hg))<|cd J J (fun hg=>cA (bk J hg) hI)<|zo J (ms J J)<|aB J<|cd J J (fun hg=>bS od lX J J)<|cd J J (fun hg=>bj xq J J (bk J hg))<|cd J J (fun hg=>cD tZ (bk J hg))<|cd J J (fun hg=>cA (bk J hg) hI)<|zo J (ms J J)<|aB J<|cd J J (fun hg=>bS oc kM J J)<|cd J J (fun hg=>bj wC J J (bk J hg))<|cd J J (fun hg=>cD vb (bk J hg))<|cd J J (fun hg=>cA (bk J hg) hI)<|zo J (ms J J) ?_;refine aB J<|cd J J (fun hg=>bS qm mL J J)<|cd J J (fun hg=>bj BB J J (bk J hg))<|cd J J (fun hg=>cD Ae (bk J hg))<|cd J J (fun hg=>cA (bk J hg) hI)<|zo J (ms J J)<|aB J<|cd J J (fun hg=>bS uG oY J J)<|cd J J (fun hg=>bj bP J J (bk J hg))<|cd J J (fun hg=>cA (bk J hg) hI)<|zo J (ms J J)<|ba J<|al<|ai ?_;cases so h;exact ay J J

theorem JA(n:aC){R:aC}(h:xW n=some R):aN aJ 211 [tD aM n] (tD aM R):=by
 refine aN.of Tryz.func211 J J J fun w0 S0=>ap<|sD (ht J) J fun b=>aV (r:=aM) (x:=Bu) fu (fun _=>k6 _) J fun b1=>al<|ae<|ap<|zo J (gQ 0 vw J J J)<|zo J (bL bP J J lZ (.tail _ (.head _)) (ht J))<|al<|au<|ap<|zo J (io J)<|ba J<|al<|bX h J (fun h=>?_) (fun h=>?_)
 ·refine an<|zo J (gQ 3 tB J J J)<|bz<|av bP J C9 J (ht J) hI<|zo J (gQ 4 ql J J J)<|av c0 J th J (ht J) gr<|aL<|aj<|ak<|ap<|zo rfl (bL fu rfl rfl bG (.head _) (ht rfl))<|bz<|av fu rfl am rfl (ht rfl) (ht rfl)<|aS 2 rfl<|al<|ai<|aY ?_;cases so h;exact fq J fu J J J
 ·refine ap<|zo J (io J)<|ba J<|al<|bX h J (fun h=>?_) (fun h=>?_)
  ·refine an<|zo J (bM (y:=vf) jg LT oM (J))<|zo J (gQ 5 DE J J J)<|bz<|av BC J C8 J (ht J) hB<|zo J (gQ 6 qk J J J)<|av jg J tg J (ht J) (ht J)<|aL<|aj<|ak<|ap<|zo rfl (bL fu rfl rfl bG (.head _) (ht rfl))<|bz<|av fu rfl am rfl (ht rfl) (ht rfl)<|aS 2 rfl<|al<|ai<|aY ?_;cases so h;exact fq J fu J J J
  ·refine ap<|zo J (io J)<|ba J<|al<|bX h J (fun h=>?_) (fun h=>?_)
   ·refine an<|zo J (bM (y:=vf) jg LT oM (J))<|zo J (gQ 6 qk J J J)<|bz<|av jg J tg J (ht J) (ht J)<|aL<|aj<|ak<|ap<|zo rfl (bL fu rfl rfl bG (.head _) (ht rfl))<|bz<|av fu rfl am rfl (ht rfl) (ht rfl)<|aS 2 rfl<|al<|ai<|aY ?_;cases so h;exact fq J fu J J J
   ·refine ap<|zo J (io J)<|ba J<|al<|bX h J (fun h=>?_) (fun h=>?_)
    ·refine an<|zo J (gQ 7 pl J J J)<|bz<|av c0 J xy J (ht J) gr<|zo J (gQ 8 od J J J)<|av xq J xx J (ht J) gr<|aL<|aj<|ak<|ap<|zo rfl (bL fu rfl rfl bG (.head _) (ht rfl))<|bz<|av fu rfl am rfl (ht rfl) (ht rfl)<|aS 2 rfl<|al<|ai<|aY ?_;cases so h;exact fq J fu J J J
    ·refine ap<|zo J (io J)<|ba J<|al<|bX h J (fun h=>?_) (fun h=>?_)
     ·refine an<|zo J (gQ 9 oc J J J)<|bz<|av wC J C7 J (ht J) gr<|aL<|aj<|ak<|ap<|zo rfl (bL fu rfl rfl bG (.head _) (ht rfl))<|bz<|av fu rfl am rfl (ht rfl) (ht rfl)<|aS 2 rfl<|al<|ai<|aY ?_;cases so h;exact fq J fu J J J
     ·refine ap<|zo J (io J)<|ba J<|al<|bX h J (fun h=>?_) (fun h=>?_)
      ·refine an<|zo J (gQ 10 qm J J J)<|bz<|av BB J vX J (ht J) gr<|zo J (gQ 11 uG J J J)<|av bP J BG J (ht J) hI<|aL<|aj<|ak<|ap<|zo rfl (bL fu rfl rfl bG (.head _) (ht rfl))<|bz<|av fu rfl am rfl (ht rfl) (ht rfl)<|aS 2 rfl<|al<|ai<|aY ?_;cases so h;exact fq J fu J J J
      ·refine bi<|aj<|ak<|ap<|zo rfl (bL fu rfl rfl bG (.tail _ (.head _)) (ht rfl))<|av fu rfl am rfl (ht rfl) (ht rfl)<|aS 2 rfl<|al<|ai<|aY ?_;cases so h;exact fq J fu J J J

theorem I4(op:Int){R:Int}(h:vZ op=some R):aN aJ 287 [bu op] (bu R):=by
 refine aN.of Tryz.func287 J J J fun w0 S0=>ap<|zo J (bO)<|al<|ae<|ap<|aB J<|al<|au<|ap<|zo J (io J)<|ba J<|al<|bX h J (fun h=>?_) (fun h=>?_)
 ·refine ap<|zo J (bO)<|al<|ai ?_;refine aq (aa ?_);cases so h;exact ay J J
 ·refine gv (Z:=fun x=>nY x=some R) (Of:=fun x=>[]) (Gf:=fun x=>[(6,er x)]) (fun x h=>?_) (fun K=>?_)
  ·skip
   refine bX h J (fun h=>?_) (fun h=>?_)
   ·refine ap<|zo J (bO)<|al<|ai ?_;refine aq (aa ?_);cases so h;exact ay J J
   ·refine bi<|aj<|ak<|ap<|zo rfl (bO)<|al<|ai ?_;cases so h;exact ay J J
  ·skip
   refine ap<|zo J (io J)<|ba J<|al<|bX h J (fun h=>?_) (fun h=>?_)
   ·refine bi ?_;exact cn (K (op==(2:Int)) h) (bh J)
   ·refine an<|zo J (io J)<|ba J<|aL ?_;exact cn (K (op==(7:Int)) h) (bh J)

theorem Mj(b:Nat)(ix:OI)(c:aF)(i:Int){R:Int×Bool}(h:nc c i=some R):cy aJ 212 [tV (aO b 0),bu i] (cP b c ix) (fun _:OI=>tT [bu R.1,er R.2]) (fun _=>(cP b c ix)):=by
 refine cy.of Tryz.func212 J J J fun w0 S0=>?_;refine(show CG _ _ _ [bx (rH bc [(1,aQ (ix.h 0).1 (ix.h 0).2 c.kinds.length),(2,aQ (ix.h 1).1 (ix.h 1).2 c.first.length)]) 115 b c,db jG 39 (ix.h 0).1 (ix.h 0).2 c.kinds,db bI 3 (ix.h 1).1 (ix.h 1).2 c.first] _ from ?_);refine ap<|zo J (bO)<|zo J (ef)<|al<|ap<|aB J<|zo J (cQ (ht J))<|zo J (gQ 0 AP J J J)<|zo J (gQ 0 pm J J J)<|zo J (bL (r:=rH bc [(1,aQ (ix.h 0).1 (ix.h 0).2 c.kinds.length),(2,aQ (ix.h 1).1 (ix.h 1).2 c.first.length)]) (x:=c) yL J J (Im (pM qj jS)) (.head _) (ht J))<|aB J<|bp h fun e q_e h=>zo J (gw t6 fu J J J q_e)<|zo J (bn fu J J)<|aV (r:=aM) (x:=Bu) fu (fun _=>k6 _) J fun b1=>av fu J am J (ht J) (ht J)<|aS 6 J<|al<|ae<|ae ?_;refine an<|zo J (bS vw lZ J J)<|zo J (bn bP J J)<|bp h fun r q_r h=>zo J (ax Od (I4 _ q_r) ⟨(ht J),aP⟩)<|al<|au<|ap<|zo J (io J)<|ba J<|al<|bX h J (fun h=>?_) (fun h=>?_)
 ·refine ae ?_
  refine bZ (ts:=[_,_,_,_,_,_,_,_,_,_,_]) mixed J J
   ⟨dp 1 J J J (cr J),
   ⟨dp 6 J J J (bS gm cW J J),
   ⟨bH 21 1 J J J (bn bP J J),
   ⟨bH 22 2 J J J (io J),
   ⟨bH 23 3 J J J (cr J),
   ⟨jI 6 24 4 J J J J (dP J J J J (fun hg=>bS m2 gJ J J)),
   ⟨fk 25 5 24 4 J J J J (dP J J J J (fun hg=>bj bP J J (bk J hg))),
   ⟨fk 26 6 24 4 J J J J (dP J J J J (fun hg=>cA (bk J hg) hI)),
   ⟨cO 24 4 27 7 J J J J (ms J J),
   ⟨bH 20 0 J J J (pe J),
   ⟨bH 28 8 J J J (pe J),
   aP⟩⟩⟩⟩⟩⟩⟩⟩⟩⟩⟩ ?_
  refine ak<|ai ?_;refine aq (aa ?_);refine aK<|aK<|aK ?_;cases so h;exact df (ts:=[bu i,er ((e.A==pX)&&(e.B==pX))]) (rvs:=[.tmp 4,.tmp 5]) J J ⟨aW J,aW J,aP⟩ kY J J
 ·refine ap<|zo J (io J)<|ba J<|al<|bX h J (fun h=>?_) (fun h=>?_)
  ·refine ae<|ap<|zo J (bS gm cW J J)<|zo J (bn bP J J)<|aB J<|zo J (eZ (ht J) hI)<|zo J (dc (ht J) (ht J))<|aB J<|dv J J (fun hg=>bS m2 gJ J J)<|dv J J (fun hg=>bj bP J J (bk J hg))<|dv J J (fun hg=>dc (bk J hg) hI)<|zo J (qY J J)<|aB J<|dv J J (fun hg=>cr J)<|dv J J (fun hg=>cA (bk J hg) hI)<|zo J (qY J J)<|al<|bX h J (fun h=>?_) (fun h=>?_)
   ·refine ap<|zo J (bO)<|zo J (ef)<|al<|ai ?_;refine aa (aq (aa ?_));refine aK<|aK<|aK ?_;cases so h;exact df (ts:=[bu 0,er false]) (rvs:=[.tmp 4,.tmp 5]) J J ⟨aW J,aW J,aP⟩ kY J J
   ·refine cF<|ae<|bp h fun e1 q_e1 h=>?_
    refine bZ (ts:=[_,_,_,_,_,_,_,_,_,_]) mixed J J
     ⟨dp 0 J J J (cr J),
     ⟨bH 45 0 J J J (cQ (ht J)),
     ⟨bH 46 1 J J J (gQ 2 o4 J J J),
     ⟨bH 47 2 J J J (cC c0 J (.head _) (.tail _ (.tail _ (.head _))) (ht J)),
     ⟨dp 6 J J J (bS gm cW J J),
     ⟨bH 49 4 J J J (bn bP J J),
     ⟨cO 48 3 50 5 J J J J (bf ed bP J (gz (ht J)) (ht J) q_e1),
     ⟨bH 51 6 J J J (bn bP J J),
     ⟨bH 52 7 J J J (pe J),
     ⟨Fg J J (ef),
     aP⟩⟩⟩⟩⟩⟩⟩⟩⟩⟩ ?_
    refine ak<|ai ?_;refine aq (aa ?_);refine aK<|aK<|aK ?_;cases so h;exact df (ts:=[bu e1,er true]) (rvs:=[.tmp 4,.tmp 5]) J J ⟨aW J,aW J,aP⟩ kY J J
  ·refine bi<|aj<|ak<|ae<|ae<|bp h fun t q_t h=>?_
   obtain⟨e2,h1t,h0t⟩:=og q_t
   have q_e2g:=fun hb=>(h1t hb).1
   refine bZ (ts:=[_,_,_,_,_,_,_,_,_,_,_,_,_,_,_,_,_,_,_,_,_,_,_,_,_,_,_,_]) mixed J J
    ⟨dp 6 J J J (bS m2 gJ J J),
    ⟨bH 53 0 J J J (bn bP J J),
    ⟨dp 1 J J J (cr J),
    ⟨bH 55 2 J J J (eZ (ht J) hI),
    ⟨cO 54 1 56 3 J J J J (dc (ht J) (ht J)),
    ⟨bH 57 4 J J J (cr J),
    ⟨jI 1 58 5 J J J J (dG J J J J (fun hg=>cr J)),
    ⟨fk 59 6 58 5 J J J J (dG J J J J (fun hg=>cA (bk J hg) hI)),
    ⟨cO 58 5 60 7 J J J J (qY J J),
    ⟨bH 61 8 J J J (cr J),
    ⟨jI 6 62 9 J J J J (dG J J J J (fun hg=>bS gm cW J J)),
    ⟨fk 63 10 62 9 J J J J (dG J J J J (fun hg=>bj bP J J (bk J hg))),
    ⟨jI 0 62 9 J J J J (dG J J J J (fun hg=>cr J)),
    ⟨fk 65 12 62 9 J J J J (dG J J J J (fun hg=>cQ (bk J hg))),
    ⟨fk 66 13 62 9 J J J J (dG J J J J (fun hg=>kw (n:=2) o4 J (bk J hg) J)),
    ⟨fk 67 14 62 9 J J J J (dG J J J J (fun hg=>cC c0 J (.head _) (.tail _ (.tail _ (.head _))) (bk J hg))),
    ⟨jI 6 62 9 J J J J (dG J J J J (fun hg=>bS m2 gJ J J)),
    ⟨fk 69 16 62 9 J J J J (dG J J J J (fun hg=>bj bP J J (bk J hg))),
    ⟨kr 68 15 70 17 62 9 J J J J J (dG J J J J (fun hg=>bf ed bP J (gz (bk J hg)) (bk J hg) (q_e2g hg))),
    ⟨fk 71 18 62 9 J J J J (dG J J J J (fun hg=>bj bP J J (bk J hg))),
    ⟨fk 72 19 62 9 J J J J (dG J J J J (fun hg=>eZ (bk J hg) hI)),
    ⟨kr 64 11 73 20 62 9 J J J J J (dG J J J J (fun hg=>dc (bk J hg) (bk J hg))),
    ⟨cO 62 9 74 21 J J J J (dy (ht J) (fun hb=>(bk J (mU hb))) (fun hb=>(h1t hb).2) h0t),
    ⟨bH 75 22 J J J (cr J),
    ⟨jI 6 76 23 J J J J (dG J J J J (fun hg=>bS gm cW J J)),
    ⟨fk 77 24 76 23 J J J J (dG J J J J (fun hg=>bj bP J J (bk J hg))),
    ⟨fk 78 25 76 23 J J J J (dG J J J J (fun hg=>dO (bk J hg) hI)),
    ⟨cO 76 23 79 26 J J J J (qY J J),
    aP⟩⟩⟩⟩⟩⟩⟩⟩⟩⟩⟩⟩⟩⟩⟩⟩⟩⟩⟩⟩⟩⟩⟩⟩⟩⟩⟩⟩ ?_
   refine ak<|bX h rfl (fun h=>?_) (fun h=>?_)
   ·refine ap<|zo J (bO)<|zo J (ef)<|al<|ai<|aa<|aK<|aK<|aK ?_;cases so h;exact df (ts:=[bu 0,er false]) (rvs:=[.tmp 4,.tmp 5]) J J ⟨aW J,aW J,aP⟩ kY J J
   ·refine cF<|ae<|bp h fun e3 q_e3 h=>?_
    refine bZ (ts:=[_,_,_,_,_,_,_,_,_,_]) mixed J J
     ⟨dp 0 J J J (cr J),
     ⟨bH 81 0 J J J (cQ (ht J)),
     ⟨bH 82 1 J J J (gQ 2 o4 J J J),
     ⟨bH 83 2 J J J (cC c0 J (.head _) (.tail _ (.tail _ (.head _))) (ht J)),
     ⟨dp 6 J J J (bS gm cW J J),
     ⟨bH 85 4 J J J (bn bP J J),
     ⟨cO 84 3 86 5 J J J J (bf ed bP J (gz (ht J)) (ht J) q_e3),
     ⟨bH 87 6 J J J (bn bP J J),
     ⟨bH 88 7 J J J (pe J),
     ⟨Fg J J (ef),
     aP⟩⟩⟩⟩⟩⟩⟩⟩⟩⟩ ?_
    refine ak<|ai<|aK<|aK<|aK ?_;cases so h;exact df (ts:=[bu e3,er true]) (rvs:=[.tmp 4,.tmp 5]) J J ⟨aW J,aW J,aP⟩ kY J J

theorem G2(b:Nat)(ix:OI)(c:aF):u3 aJ 201 (fun(x:Int×Bool)=>[bu x.1,er x.2]) (fun _=>kf c) (cP b) (cP b c ix) [bv (rT (tV (aO b 0))) ()]:=by
 refine u3.of Tryz.func201 J J J fun Sg yld s R h I yv hy e he w0 S0 B hB=>?_
 replace h:kf c yld s=some R:=h
 refine(show CG _ _ _ [e,bx (rH bc [(1,aQ (ix.h 0).1 (ix.h 0).2 c.kinds.length),(2,aQ (ix.h 1).1 (ix.h 1).2 c.first.length)]) 115 b c,db jG 39 (ix.h 0).1 (ix.h 0).2 c.kinds,db bI 3 (ix.h 1).1 (ix.h 1).2 c.first] _ from ?_);refine ap<|tN (q0 (fun y:(aF→aC→Option (((List Int)×Bool)×aF))=>cV aJ kS (cP b) kq y)) jE J fun b1=>zo J (hM gN (ht J)) ?_
 refine lA ((show bB _ _ _ _ (cV aJ kS (cP b) kq Lu)from f8 O5 (ht J) (fun c x R h i=>by
   obtain⟨r,h1,rfl⟩:=pW.1 h
   exact fi (Ob:=fun j=>cP b c j) (i:=i) (Mr _ i c _ h1)))) J ?_
 refine dE (γ:=(fun y:(aF→aC→Option (((List Int)×Bool)×aF))=>cV aJ kS (cP b) kq y)) (y:=Lu) Af (de nE) (ht J) (jP hI) (ht J) fun os=>zo J (hM gN (ht J)) ?_
 refine lA ((show bB _ _ _ _ (cV aJ kS (cP b) kq Lt)from f8 O4 (ht J) (fun c x R h i=>by
   obtain⟨r,h1,rfl⟩:=pW.1 h
   exact fi (Ob:=fun j=>cP b c j) (i:=i) (Mq _ i c _ h1)))) J ?_
 refine dE (γ:=(fun y:(aF→aC→Option (((List Int)×Bool)×aF))=>cV aJ kS (cP b) kq y)) (y:=Lt) Af (de nE) (ht J) (jP hI) (ht J) fun os1=>zo J (hM gN (ht J)) ?_
 refine lA ((show bB _ _ _ _ (cV aJ kS (cP b) kq Ly)from f8 O3 (ht J) (fun c x R h i=>by
   obtain⟨r,h1,rfl⟩:=pW.1 h
   exact fi (Ob:=fun j=>cP b c j) (i:=i) (Mp _ i c _ h1)))) J ?_
 refine dE (γ:=(fun y:(aF→aC→Option (((List Int)×Bool)×aF))=>cV aJ kS (cP b) kq y)) (y:=Ly) Af (de nE) (ht J) (jP hI) (ht J) fun os2=>zo J (hM gN (ht J)) ?_
 refine lA ((show bB _ _ _ _ (cV aJ kS (cP b) kq Lv)from f8 OZ (ht J) (fun c x R h i=>by
   obtain⟨r,h1,rfl⟩:=pW.1 h
   exact fi (Ob:=fun j=>cP b c j) (i:=i) (Mo _ i c _ h1)))) J ?_
 refine dE (γ:=(fun y:(aF→aC→Option (((List Int)×Bool)×aF))=>cV aJ kS (cP b) kq y)) (y:=Lv) Af (de nE) (ht J) (jP hI) (ht J) fun os3=>zo J (hM gN (ht J)) ?_
 refine lA ((show bB _ _ _ _ (cV aJ kS (cP b) kq Lz)from f8 OY (ht J) (fun c x R h i=>by
   obtain⟨r,h1,rfl⟩:=pW.1 h
   exact fi (Ob:=fun j=>cP b c j) (i:=i) (Mn _ i c _ h1)))) J ?_
 refine dE (γ:=(fun y:(aF→aC→Option (((List Int)×Bool)×aF))=>cV aJ kS (cP b) kq y)) (y:=Lz) Af (de nE) (ht J) (jP hI) (ht J) fun os4=>zo J (hM gN (ht J)) ?_
 refine lA ((show bB _ _ _ _ (cV aJ kS (cP b) kq LA)from f8 OX (ht J) (fun c x R h i=>by
   obtain⟨r,h1,rfl⟩:=pW.1 h
   exact fi (Ob:=fun j=>cP b c j) (i:=i) (Mm _ i c _ h1)))) J ?_
 refine dE (γ:=(fun y:(aF→aC→Option (((List Int)×Bool)×aF))=>cV aJ kS (cP b) kq y)) (y:=LA) Af (de nE) (ht J) (jP hI) (ht J) fun os5=>zo J (hM gN (ht J)) ?_
 refine lA ((show bB _ _ _ _ (cV aJ kS (cP b) kq Lx)from f8 OW (ht J) (fun c x R h i=>by
   obtain⟨r,h1,rfl⟩:=pW.1 h
   exact fi (Ob:=fun j=>cP b c j) (i:=i) (Ml _ i c _ h1)))) J ?_
 refine dE (γ:=(fun y:(aF→aC→Option (((List Int)×Bool)×aF))=>cV aJ kS (cP b) kq y)) (y:=Lx) Af (de nE) (ht J) (jP hI) (ht J) fun os6=>zo J (hM gN (ht J)) ?_
 refine lA ((show bB _ _ _ _ (cV aJ kS (cP b) kq Lw)from f8 OV (ht J) (fun c x R h i=>by
   obtain⟨r,h1,rfl⟩:=pW.1 h
   exact fi (Ob:=fun j=>cP b c j) (i:=i) (Mk _ i c _ h1)))) J ?_
 refine dE (γ:=(fun y:(aF→aC→Option (((List Int)×Bool)×aF))=>cV aJ kS (cP b) kq y)) (y:=Lw) Af (de nE) (ht J) (jP hI) (ht J) fun os7=>aB J<|ba J<|al<|ap<|zo J (hM gN (ht J))<|zo J (cQ (ht J))<|zo J (gQ 0 AP J J J)<|zo J (gQ 0 pm J J J)<|zo J (bL (r:=rH bc [(1,aQ (ix.h 0).1 (ix.h 0).2 c.kinds.length),(2,aQ (ix.h 1).1 (ix.h 1).2 c.first.length)]) (x:=c) yL J J (Im (pM qj jS)) (.tail _ (.tail _ (.head _))) (ht J))<|zo J (eH t6 J)<|zo J (br hI)<|al<|au<|aU (k:=33) J fun hN=>bo<|gT<|gT<|gT<|kW<|gT ?_;refine aI (Cw (Z:=fun ls i e1 s1 ob l c1 l1 c2=>(c.Logic.Nodes.drop i=ls)∧I s1 e1∧el yld ls i s1 ob=some R) (Of:=fun _ i e1 s1 ob l c1 l1 c2=>[e1,jF (q0 (fun y:(aF→aC→Option (((List Int)×Bool)×aF))=>cV aJ kS (cP b) kq y)) jE b1 none os7 CS,bx (rH bc [(1,aQ l c1 ob.kinds.length),(2,aQ l1 c2 ob.first.length)]) 115 b ob,db jG 39 l c1 ob.kinds,db bI 3 l1 c2 ob.first]) (Gf:=fun _ i e1 s1 ob l c1 l1 c2=>[(0,tV yv),(1,bv (rT (tV (aO b 0))) ()),(3,tV (lS b1)),(33,bK (aM) c.Logic.Nodes),(34,fC c.Logic.Nodes),(35,bu (i:Int))]) (fun i e1 s1 ob l c1 l1 c2 h=>?_) (fun e2 tl ih i e1 s1 ob l c1 l1 c2 h=>?_) c.Logic.Nodes 0 e s c (ix.h 0).1 (ix.h 0).2 (ix.h 1).1 (ix.h 1).2 ⟨J,⟨he,h⟩⟩) (bh J)
 ·obtain⟨hx,h⟩:=h
  obtain⟨he1,h⟩:=h
  refine aw<|ap<|zo J (dC J J)<|al<|ae<|bm (ht J) (cx hx)<|be ?_;refine af (af (aE ?_));refine bt<|aY<|co<|co<|co<|co ?_;cases so h;exact F3 J he1 (KB [(l,c1),(l1,c2)]) J
 ·obtain⟨hx,h⟩:=h
  obtain⟨he1,h⟩:=h
  refine aw<|ap<|zo J (dC J J)<|al<|ae<|bl (ht J) (cw hx)<|cF<|ae<|au<|ap<|aB J<|zo J (gw t6 fu J J J (ci hx))<|zo J (bn fu J J)<|aV (r:=aM) (x:=Bu) fu (fun _=>k6 _) J fun b2=>ba J<|av fu J am J (ht J) (ht J)<|aS 5 J<|al<|ae ?_;refine an<|aB J<|zo J (bS vw lZ J J)<|zo J (bn bP J J)<|zo J (BY (γ:=(fun y:(aF→aC→Option (((List Int)×Bool)×aF))=>cV aJ kS (cP b) (fun(x:(List Int)×Bool)=>tT [tD rb x.1,tD rB x.2]) y)) (z:=fun _ _=>none) Af (de nE) MK (fun _=>zb) (.tail _ (.head _)) (ht J) (jP (ht J)))<|aB J<|zo J (eT J J)<|zo J (eT J J)<|ba J<|ba J<|al<|ap<|aB J<|aB J<|bp h fun t q_t h=>cd J J (fun hg=>bn fu J J) ?_
  obtain⟨r,h1t,h0t⟩:=og q_t
  have q_rg:=fun hb=>(h1t hb).1
  refine cd J J (fun hg=>ax OT (JA _ (q_rg hg)) ⟨(bk J hg),aP⟩) ?_
  obtain⟨r1,h1t⟩:=Ep (fun hb=>(h1t hb).2)
  have q_r1g:=fun hb=>(h1t hb).1
  refine cd J J (fun hg=>ax OU (JC _ (q_r1g hg)) ⟨(bk J hg),aP⟩)<|zo J (cJ (ht J) (fun hb=>(bk J hb)) (fun hb=>(h1t hb).2) h0t)<|ba J<|al ?_;refine FZ (Z:=fun ok ob1 l2 c3 l3 c4=>iZ yld (el yld tl) i e2 s1 ok ob1=some R) (Of:=fun ok ob1 l2 c3 l3 c4=>[e1,jF (q0 (fun y:(aF→aC→Option (((List Int)×Bool)×aF))=>cV aJ kS (cP b) kq y)) jE b1 none os7 CS,bx (rH bc [(1,aQ l2 c3 ob1.kinds.length),(2,aQ l3 c4 ob1.first.length)]) 115 b ob1,db jG 39 l2 c3 ob1.kinds,db bI 3 l3 c4 ob1.first]) (Gf:=fun ok ob1 l2 c3 l3 c4=>[(0,tV yv),(1,bv (rT (tV (aO b 0))) ()),(3,tV (lS b1)),(4,bu (i:Int)),(5,bv aM e2),(6,cV aJ kS (cP b) kq ((pi CS e2.Op).getD (fun _ _=>none))),(8,er ok),(33,bK (aM) c.Logic.Nodes),(34,fC c.Logic.Nodes),(35,bu (i:Int))]) (fun ok ob1 l2 c3 l3 c4 h=>?_) (fun K=>?_)
  ·skip
   refine ap<|zo J (aD (show aH _ _ _ rd from gr))<|al ?_;refine FY (Z:=fun ok1 kinds ob2 l4 c5 l5 c6=>iY yld (el yld tl) i s1 ok1 kinds ob2=some R) (Of:=fun ok1 kinds ob2 l4 c5 l5 c6=>[e1,jF (q0 (fun y:(aF→aC→Option (((List Int)×Bool)×aF))=>cV aJ kS (cP b) kq y)) jE b1 none os7 CS,bx (rH bc [(1,aQ l4 c5 ob2.kinds.length),(2,aQ l5 c6 ob2.first.length)]) 115 b ob2,db jG 39 l4 c5 ob2.kinds,db bI 3 l5 c6 ob2.first]) (Gf:=fun ok1 kinds ob2 l4 c5 l5 c6=>[(0,tV yv),(1,bv (rT (tV (aO b 0))) ()),(3,tV (lS b1)),(4,bu (i:Int)),(8,er ok1),(10,iA kinds),(33,bK (aM) c.Logic.Nodes),(34,fC c.Logic.Nodes),(35,bu (i:Int))]) (fun ok1 kinds ob2 l4 c5 l5 c6 h=>?_) (fun K1=>?_)
   ·skip
    refine ap<|aB J<|aB J<|cd J J (fun hg=>cr J)<|cd J J (fun hg=>cD ed (bk J hg))<|cd J J (fun hg=>gH (bk J hg) hI)<|zo J (ms J J)<|ba J<|al<|ae<|bp h fun l6 q_l6 h=>?_
    refine kA 8 [tc (tV (aO b 0)),tc (tV (aO b 0)),tc (tV (aO b 0)),tc (tV (aO b 1)),tc (tO jG l4 c5 ob2.kinds),tc (iA kinds),tc (bK (jG) ([kinds])),([7],fun s=>tO jG ((s.getD 0 kY).h 0).1 ((s.getD 0 kY).h 0).2 l6)] [false,false,false,false,false,false,false,true] [fun _=>[e1,jF (q0 (fun y:(aF→aC→Option (((List Int)×Bool)×aF))=>cV aJ kS (cP b) kq y)) jE b1 none os7 CS,bx (rH bc [(1,aQ l4 c5 ob2.kinds.length),(2,aQ l5 c6 ob2.first.length)]) 115 b ob2,db jG 39 l4 c5 ob2.kinds,db bI 3 l5 c6 ob2.first],fun sg=>[db jG 39 ((sg 7).h 0).1 ((sg 7).h 0).2 l6,e1,jF (q0 (fun y:(aF→aC→Option (((List Int)×Bool)×aF))=>cV aJ kS (cP b) kq y)) jE b1 none os7 CS,bx (rH bc [(1,aQ l4 c5 ob2.kinds.length),(2,aQ l5 c6 ob2.first.length)]) 115 b ob2,db bI 3 l5 c6 ob2.first]] J mixed J J J J J
     ⟨⟨[⟨1,fun _=>bv (rT (tV (aO b 0))) (),none⟩],_,0,1,J,⟨(fun _=>J),aP⟩,J,J,J,J,J,fun _ sg _ _=>aA J (hM gN (ht J))⟩,
     ⟨⟨[⟨1,fun _=>bv (rT (tV (aO b 0))) (),none⟩],_,0,0,J,⟨(fun _=>J),aP⟩,J,J,J,J,J,fun _ sg _ _=>aA J (hM gN (ht J))⟩,
     ⟨⟨[⟨84,fun _=>tV (aO b 0),some 1⟩],_,0,0,J,⟨(fun _=>J),aP⟩,J,J,J,J,J,fun _ sg _ _=>aA J (cQ (ht J))⟩,
     ⟨⟨[⟨85,fun _=>tV (aO b 0),some 2⟩],_,0,0,J,⟨(fun _=>J),aP⟩,J,J,J,J,J,fun _ sg _ _=>aA J (gQ 1 jB J J J)⟩,
     ⟨⟨[⟨86,fun _=>tV (aO b 1),some 3⟩],_,0,0,J,⟨(fun _=>J),aP⟩,J,J,J,J,J,s9 (fun sg=>aA J (cC nQ J (.tail _ (.tail _ (.head _))) (.tail _ (.tail _ (.tail _ (.head _)))) (ht J)))⟩,
     ⟨⟨[⟨10,fun _=>tD rb kinds,none⟩],_,0,0,J,⟨(fun _=>J),aP⟩,J,J,J,J,J,fun _ sg _ _=>aA J (cr J)⟩,
     ⟨⟨[⟨88,fun _=>tD rb kinds,some 5⟩],_,0,0,J,⟨(fun _=>J),aP⟩,J,J,J,J,J,fun _ sg _ _=>aA J (aR (r:=rb) (ys:=[kinds]) (xs:=[.tmp 88]) pV c0 J J J J J ⟨(ht J),aP⟩)⟩,
     ⟨⟨[⟨87,fun _=>tO rb l4 c5 ob2.kinds,some 4⟩,⟨89,fun _=>tD (ea rb) ([kinds]),some 6⟩],_,J,⟨(fun _=>J),(fun _=>J),aP⟩,J,J,J,fun sg=>dA J (EffOK.fr3 (o6 c0 J J J J pV J (ht J) (ht J) q_l6))⟩,
     aP⟩⟩⟩⟩⟩⟩⟩⟩ (fun sg=>?_)
    refine(show RG _ _ _ _ [db jG 39 ((sg 7).h 0).1 ((sg 7).h 0).2 l6,e1,jF (q0 (fun y:(aF→aC→Option (((List Int)×Bool)×aF))=>cV aJ kS (cP b) kq y)) jE b1 none os7 CS,bx (rH bc [(1,aQ l4 c5 ob2.kinds.length),(2,aQ l5 c6 ob2.first.length)]) 115 b ob2,db bI 3 l5 c6 ob2.first] _ from ?_);refine zo J (cQ (ht J))<|zo J (gQ 1 jB J J J)<|qH (EffOK.fr3 (qx (hs' :=[(1,aQ ((sg 7).h 0).1 ((sg 7).h 0).2 l6.length),(2,aQ l5 c6 ob2.first.length)]) (u:=aQ ((sg 7).h 0).1 ((sg 7).h 0).2 l6.length) nQ J J At J ⟨.inl ⟨J,J,J⟩,.inr ⟨J,J⟩,aP⟩ (ht J) (gz (ht J)) (C1 (ht J)))) fun i1=>?_;refine(show RG _ _ _ _ [bx (rH bc [(1,aQ ((sg 7).h 0).1 ((sg 7).h 0).2 l6.length),(2,aQ l5 c6 ob2.first.length)]) 115 b ({ob2 with kinds:=l6}:aF),db jG 39 ((sg 7).h 0).1 ((sg 7).h 0).2 l6,e1,jF (q0 (fun y:(aF→aC→Option (((List Int)×Bool)×aF))=>cV aJ kS (cP b) kq y)) jE b1 none os7 CS,db bI 3 l5 c6 ob2.first] _ from ?_);refine al<|ap<|aB J<|aB J<|aB J<|eO<|bp h fun r2 q_r2 h=>yq hy he1 q_r2 (ht J) ⟨(ht J),(ht J),aP⟩ J fun e3 he2=>zo J (cH (ht J))<|aB J<|dv J J (fun hg=>cr J)<|dv J J (fun hg=>cH (bk J hg))<|zo J (qY J J)<|al<|bX h J (fun h=>?_) (fun h=>?_)
    ·refine ai ?_;refine aq (aa (aa (aq ?_)));refine co<|aY<|co<|co<|co<|co ?_;cases so h;exact CI J he2 (KB [(((sg 7).h 0).1,((sg 7).h 0).2),(l5,c6)]) J
    ·refine bi<|aj<|ak<|an<|zo rfl (iq (bW hx hN) rfl)<|aB rfl<|aL<|dT<|co<|co<|dT<|dT ?_;exact aT (aI (ih (i+1) e3 r2.2 ({ob2 with kinds:=l6}:aF) ((sg 7).h 0).1 ((sg 7).h 0).2 l5 c6 ⟨bV hx,⟨he2,h⟩⟩) (bh J))
   ·skip
    refine ap<|aB J<|al<|bX h J (fun h=>?_) (fun h=>?_)
    ·refine an<|aB J<|zo J (bn fu J J)<|bp h fun r3 q_r3 h=>tP (EffOK.fr4 (EffOK.fr4 (EffOK.fr4 (uN (args:=kS) (Ob:=cP b) (res:=kq) (f:=((pi CS e2.Op).getD (fun _ _=>none))) (x:=ob1) (y:=((e2):aC)) (R:=r3) (i:=(KB [(l2,c3),(l3,c4)])) (xs:=[.tmp 73]) _ J (ht J) q_r3 ⟨(ht J),aP⟩ (fun _=>J))))) J fun i2=>?_;refine(show RG _ _ _ _ [bx (rH bc [(1,aQ (i2.h 0).1 (i2.h 0).2 r3.2.kinds.length),(2,aQ (i2.h 1).1 (i2.h 1).2 r3.2.first.length)]) 115 b r3.2,db jG 39 (i2.h 0).1 (i2.h 0).2 r3.2.kinds,db bI 3 (i2.h 1).1 (i2.h 1).2 r3.2.first,e1,jF (q0 (fun y:(aF→aC→Option (((List Int)×Bool)×aF))=>cV aJ kS (cP b) kq y)) jE b1 none os7 CS] ((74,tT [iA r3.1.1,er r3.1.2])::_)from ?_);refine aB J<|zo J (eT J J)<|zo J (eT J J)<|ba J<|ba J<|aL<|aK<|aK<|aK<|dT<|dT ?_;exact cn (K1 r3.1.2 r3.1.1 r3.2 (i2.h 0).1 (i2.h 0).2 (i2.h 1).1 (i2.h 1).2 h) (bh J)
    ·refine bi ?_;exact cn (K1 ok ([]) ob1 l2 c3 l3 c4 h) (bh J)
  ·skip
   refine ap<|aB J<|al<|bX h J (fun h=>?_) (fun h=>?_)
   ·refine ap<|zo J (bO)<|al<|ap<|zo J (hM gN (ht J))<|aB J<|bp h fun r4 q_r4 h=>tP (EffOK.fr4 (EffOK.fr4 (EffOK.fr4 (FL (xs:=[.tmp 55,.tmp 56]) (ts:=[tV (aO b 0),bu (i:Int)]) (cP b ob (KB [(l,c1),(l1,c2)])) _ J OS (Mj b (KB [(l,c1),(l1,c2)]) ob _ q_r4) ⟨(ht J),(ht J),aP⟩ (fun _=>J))))) J fun i3=>?_;refine(show RG _ _ _ _ [bx (rH bc [(1,aQ l c1 ob.kinds.length),(2,aQ l1 c2 ob.first.length)]) 115 b ob,db jG 39 l c1 ob.kinds,db bI 3 l1 c2 ob.first,e1,jF (q0 (fun y:(aF→aC→Option (((List Int)×Bool)×aF))=>cV aJ kS (cP b) kq y)) jE b1 none os7 CS] ((57,tT [bu r4.1,er r4.2])::_)from ?_);refine aB J<|zo J (eT J J)<|zo J (eT J J)<|ba J<|ba J<|al<|bp h fun l7 q_l7 h=>?_
    refine kA 8 [tc (tV (aO b 0)),tc (tV (aO b 0)),tc (tV (aO b 0)),tc (tV (aO b 2)),tc (tO bI l1 c2 ob.first),tc (bu r4.1),tc (iA ([r4.1])),([7],fun s=>tO bI ((s.getD 0 kY).h 0).1 ((s.getD 0 kY).h 0).2 l7)] [false,false,false,false,false,false,false,true] [fun _=>[bx (rH bc [(1,aQ l c1 ob.kinds.length),(2,aQ l1 c2 ob.first.length)]) 115 b ob,db jG 39 l c1 ob.kinds,db bI 3 l1 c2 ob.first,e1,jF (q0 (fun y:(aF→aC→Option (((List Int)×Bool)×aF))=>cV aJ kS (cP b) kq y)) jE b1 none os7 CS],fun sg1=>[db bI 3 ((sg1 7).h 0).1 ((sg1 7).h 0).2 l7,bx (rH bc [(1,aQ l c1 ob.kinds.length),(2,aQ l1 c2 ob.first.length)]) 115 b ob,db jG 39 l c1 ob.kinds,e1,jF (q0 (fun y:(aF→aC→Option (((List Int)×Bool)×aF))=>cV aJ kS (cP b) kq y)) jE b1 none os7 CS]] J mixed J J J J J
     ⟨⟨[⟨1,fun _=>bv (rT (tV (aO b 0))) (),none⟩],_,0,1,J,⟨(fun _=>J),aP⟩,J,J,J,J,J,fun _ sg1 _ _=>aA J (hM gN (ht J))⟩,
     ⟨⟨[⟨1,fun _=>bv (rT (tV (aO b 0))) (),none⟩],_,0,0,J,⟨(fun _=>J),aP⟩,J,J,J,J,J,fun _ sg1 _ _=>aA J (hM gN (ht J))⟩,
     ⟨⟨[⟨61,fun _=>tV (aO b 0),some 1⟩],_,0,0,J,⟨(fun _=>J),aP⟩,J,J,J,J,J,fun _ sg1 _ _=>aA J (cQ (ht J))⟩,
     ⟨⟨[⟨62,fun _=>tV (aO b 0),some 2⟩],_,0,0,J,⟨(fun _=>J),aP⟩,J,J,J,J,J,fun _ sg1 _ _=>aA J (gQ 2 o4 J J J)⟩,
     ⟨⟨[⟨63,fun _=>tV (aO b 2),some 3⟩],_,0,0,J,⟨(fun _=>J),aP⟩,J,J,J,J,J,s9 (fun sg1=>aA J (cC c0 J (.head _) (.tail _ (.tail _ (.head _))) (ht J)))⟩,
     ⟨⟨[⟨9,fun _=>tD bI r4.1,none⟩],_,0,0,J,⟨(fun _=>J),aP⟩,J,J,J,J,J,fun _ sg1 _ _=>aA J (cr J)⟩,
     ⟨⟨[⟨65,fun _=>tD bI r4.1,some 5⟩],_,0,0,J,⟨(fun _=>J),aP⟩,J,J,J,J,J,fun _ sg1 _ _=>aA J (aR (r:=bI) (ys:=[r4.1]) (xs:=[.tmp 65]) ed bP J J J J J ⟨(ht J),aP⟩)⟩,
     ⟨⟨[⟨64,fun _=>tO bI l1 c2 ob.first,some 4⟩,⟨66,fun _=>tD rb ([r4.1]),some 6⟩],_,J,⟨(fun _=>J),(fun _=>J),aP⟩,J,J,J,fun sg1=>dA J (EffOK.fr2 (o6 bP J J J J ed J (ht J) (ht J) q_l7))⟩,
     aP⟩⟩⟩⟩⟩⟩⟩⟩ (fun sg1=>?_)
    refine(show RG _ _ _ _ [db bI 3 ((sg1 7).h 0).1 ((sg1 7).h 0).2 l7,bx (rH bc [(1,aQ l c1 ob.kinds.length),(2,aQ l1 c2 ob.first.length)]) 115 b ob,db jG 39 l c1 ob.kinds,e1,jF (q0 (fun y:(aF→aC→Option (((List Int)×Bool)×aF))=>cV aJ kS (cP b) kq y)) jE b1 none os7 CS] _ from ?_);refine zo J (cQ (ht J))<|zo J (gQ 2 o4 J J J)<|qH (EffOK.fr1 (qx (hs' :=[(1,aQ l c1 ob.kinds.length),(2,aQ ((sg1 7).h 0).1 ((sg1 7).h 0).2 l7.length)]) (u:=aQ ((sg1 7).h 0).1 ((sg1 7).h 0).2 l7.length) c0 J J As J ⟨.inr ⟨J,J⟩,.inl ⟨J,J,J⟩,aP⟩ (ht J) (gz (ht J)) (C1 (ht J)))) fun i4=>?_;refine(show RG _ _ _ _ [bx (rH bc [(1,aQ l c1 ob.kinds.length),(2,aQ ((sg1 7).h 0).1 ((sg1 7).h 0).2 l7.length)]) 115 b ({ob with first:=l7}:aF),db bI 3 ((sg1 7).h 0).1 ((sg1 7).h 0).2 l7,db jG 39 l c1 ob.kinds,e1,jF (q0 (fun y:(aF→aC→Option (((List Int)×Bool)×aF))=>cV aJ kS (cP b) kq y)) jE b1 none os7 CS] _ from ?_);refine aL<|bt<|aK<|aK<|dT<|dT ?_;exact cn (K r4.2 ({ob with first:=l7}:aF) l c1 ((sg1 7).h 0).1 ((sg1 7).h 0).2 h) (bh J)
   ·refine bi ?_;exact cn (K t ob l c1 l1 c2 h) (bh J)

end Go.Proofs.YtfhhakidodmdfaaGreatDoor

