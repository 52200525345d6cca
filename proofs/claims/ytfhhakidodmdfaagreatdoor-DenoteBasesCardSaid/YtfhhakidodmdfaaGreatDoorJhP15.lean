/- cX of this claim: P15. -/
import Derived.Test.YtfhhakidodmdfaaGreatDoorJhT
import Derived.Test.YtfhhakidodmdfaaGreatDoorJhP14
set_option linter.all false
namespace Go.Proofs.YtfhhakidodmdfaaGreatDoor
open Go
set_option maxRecDepth 100000

theorem Ke(t:bw){R:Bool}(h:j3 t=some R):aN aJ 100 [tD cS t] (er R):=by
 refine aN.of Tryz.func100 J J J fun w0 S0=>ap<|zo J (ff J)<|zo J (ef)<|al<|ae<|ap<|zo J (bS su lW J J)<|zo J (bn sQ J J)<|bp h fun r q_r h=>zo J (ax K0 (EK _ q_r) ⟨(ht J),aP⟩)<|zo J (cH (ht J))<|aB J<|dv J J (fun hg=>bS iy ew J J)<|dv J J (fun hg=>bj m9 J J (bk J hg))<|dv J J (fun hg=>cD nH (bk J hg))<|dv J J (fun hg=>dO (bk J hg) hI)<|zo J (qY J J)<|aB J<|dv J J (fun hg=>bS iy ew J J)<|dv J J (fun hg=>bj m9 J J (bk J hg)) ?_;refine dv J J (fun hg=>cD nH (bk J hg))<|dv J J (fun hg=>eb (bk J hg) hI)<|zo J (qY J J)<|al<|bX h J (fun h=>?_) (fun h=>?_)
 ·refine ap<|zo J (ef)<|al<|ai<|aa ?_;cases so h;exact ay J J
 ·refine cF<|ae<|ap<|zo J (bO)<|al<|au<|bo ?_;refine aI (nr (Z:=fun n i=>fg t n i=some R) (Of:=fun i=>[]) (Gf:=fun i=>[(1,bv cS t),(3,bu i)]) (fun i h=>nn h) (fun n ih i h=>?_) ip (0:Int) h) (bh J);refine aw<|ae<|ap<|aB J<|zo J (bS iy ew J J)<|zo J (bn m9 J J)<|zo J (eH nH J)<|zo J (dC J J)<|al<|bX h J (fun h=>?_) (fun h=>?_)
  ·refine cF<|ae<|au<|ap<|zo J (bS iy ew J J)<|zo J (bn m9 J J)<|aB J<|bp h fun e q_e h=>zo J (gw nH iB J J J q_e)<|zo J (bn iB J J)<|aV (r:=dm) (x:=Ga) iB (fun _=>pu _) J fun b=>av iB J am J (ht J) (ht J)<|aS 4 J<|al<|ae<|ap<|zo J (bS uH mM J J)<|zo J (bn sQ J J)<|bp h fun r1 q_r1 h=>zo J (ax K0 (EK _ q_r1) ⟨(ht J),aP⟩) ?_;refine zo J (cH (ht J))<|aB J<|bp h fun t1 q_t1 h=>dv J J (fun hg=>bS wS oZ J J)<|dv J J (fun hg=>bj bP J J (bk J hg)) ?_
   obtain⟨r2,h1t1,h0t1⟩:=og q_t1
   have q_r2g:=fun hb=>(h1t1 hb).1
   refine dv J J (fun hg=>ax Pn (JO _ (q_r2g hg)) ⟨(bk J hg),aP⟩)<|dv J J (fun hg=>lk (bk J hg) hS)<|zo J (dy (ht J) (fun hb=>(bk J (mU hb))) (fun hb=>(h1t1 hb).2) h0t1)<|al<|bX h J (fun h=>?_) (fun h=>?_)
   ·refine ap<|zo J (ef)<|al<|ai ?_;refine aa (aq (aa (aa (aq (aa ?_)))));cases so h;exact ay J J
   ·refine cF<|ap<|zo J (bO)<|al<|au<|bo ?_;refine aI (nr (Z:=fun n1 k=>f7 t (fg t n) i e n1 k=some R) (Of:=fun k=>[]) (Gf:=fun k=>[(1,bv cS t),(3,bu i),(4,bv dm e),(5,bu k)]) (fun k h=>nn h) (fun n1 ih1 k h=>?_) ip (0:Int) h) (bh J);refine aw<|ae<|ap<|aB J<|aB J<|zo J (dC J J)<|al<|bX h J (fun h=>?_) (fun h=>?_)
    ·refine cF<|ae<|au<|ae<|bp h fun e1 q_e1 h=>?_
     refine bZ (ts:=[_,_,_,_,_,_,_,_,_]) mixed J J
      ⟨dp 1 J J J (bS iy ew J J),
      ⟨bH 50 0 J J J (bn m9 J J),
      ⟨dp 5 J J J (cr J),
      ⟨cO 51 1 52 2 J J J J (gw nH iB J J J q_e1),
      ⟨bH 53 3 J J J (bS uH mM J J),
      ⟨bH 54 4 J J J (bn sQ J J),
      ⟨dp 4 J J J (bS uH mM J J),
      ⟨bH 56 6 J J J (bn sQ J J),
      ⟨cO 55 5 57 7 J J J J (lk (ht J) (ht J)),
      aP⟩⟩⟩⟩⟩⟩⟩⟩⟩ ?_
     refine ak<|bX h rfl (fun h=>?_) (fun h=>?_)
     ·refine ap<|zo J (ef)<|al<|ai ?_;refine aq (aa (aa (aq (aq (aa (aa (aq (aa ?_))))))));cases so h;exact ay J J
     ·refine bi<|aj<|ak<|an<|aB rfl<|zo rfl (fF (ht rfl) hI)<|ba rfl<|aL ?_;exact aT (aI (ih1 (IntKind.i64.wrap (k+(1:Int))) h) (bh J))
    ·refine be ?_;refine af (af (aE ?_));refine aj<|ak<|an<|aB rfl<|zo rfl (fF (ht rfl) hI)<|ba rfl<|aL ?_;exact aT (aI (ih (IntKind.i64.wrap (i+(1:Int))) h) (bh J))
  ·refine be ?_;refine af (af (aE ?_));refine ak<|ae<|ap<|zo rfl (bO)<|al<|au<|bo ?_;refine aI (nr (Z:=fun n2 i1=>fZ t n2 i1=some R) (Of:=fun i1=>[]) (Gf:=fun i1=>[(1,bv cS t),(6,bu i1)]) (fun i1 h=>nn h) (fun n2 ih2 i1 h=>?_) ip (0:Int) h) (bh J);refine aw<|ae<|ap<|aB J<|zo J (bS o3 jR J J)<|zo J (bn c0 J J)<|zo J (eH ed J)<|zo J (dC J J)<|al<|bX h J (fun h=>?_) (fun h=>?_)
   ·refine cF<|ae<|au<|ae<|bp h fun e2 q_e2 h=>bp h fun t2 q_t2 h=>?_
    obtain⟨t3,h1t2,h0t2⟩:=og q_t2
    have q_t3g:=fun hb=>(h1t2 hb).1
    obtain⟨e3,h1t3,h0t3⟩:=PU q_t3g
    have q_e3g:=fun hb=>(h1t3 hb).1
    refine bZ (ts:=[_,_,_,_,_,_,_,_,_,_,_,_,_,_,_,_,_,_,_,_,_,_,_,_,_,_,_,_,_,_,_,_,_,_,_]) mixed J J
     ⟨dp 1 J J J (bS o3 jR J J),
     ⟨bH 66 0 J J J (bn c0 J J),
     ⟨dp 6 J J J (cr J),
     ⟨cO 67 1 68 2 J J J J (gw ed bP J J J q_e2),
     ⟨bH 69 3 J J J (bn bP J J),
     ⟨bH 70 4 J J J (dO (ht J) hI),
     ⟨bH 71 5 J J J (cr J),
     ⟨jI 1 72 6 J J J J (dG J J J J (fun hg=>bS o3 jR J J)),
     ⟨fk 73 7 72 6 J J J J (dG J J J J (fun hg=>bj c0 J J (bk J hg))),
     ⟨jI 6 72 6 J J J J (dG J J J J (fun hg=>cr J)),
     ⟨kr 74 8 75 9 72 6 J J J J J (dG J J J J (fun hg=>bf ed bP J (bk J hg) (bk J hg) q_e2)),
     ⟨fk 76 10 72 6 J J J J (dG J J J J (fun hg=>bj bP J J (bk J hg))),
     ⟨jI 1 72 6 J J J J (dG J J J J (fun hg=>bS iy ew J J)),
     ⟨fk 78 12 72 6 J J J J (dG J J J J (fun hg=>bj m9 J J (bk J hg))),
     ⟨fk 79 13 72 6 J J J J (dG J J J J (fun hg=>cD nH (bk J hg))),
     ⟨kr 77 11 80 14 72 6 J J J J J (dG J J J J (fun hg=>dU (bk J hg) (bk J hg))),
     ⟨cO 72 6 81 15 J J J J (qY J J),
     ⟨bH 82 16 J J J (cr J),
     ⟨jI 6 83 17 J J J J (dG J J J J (fun hg=>cr J)),
     ⟨fk 84 18 83 17 J J J J (dG J J J J (fun hg=>eb (bk J hg) hI)),
     ⟨fk 85 19 83 17 J J J J (dG J J J J (fun hg=>br (bk J hg))),
     ⟨jI 1 86 20 J J J J (eC J J J J (fun hg=>bS o3 jR J J)),
     ⟨fk 87 21 86 20 J J J J (eC J J J J (fun hg=>bj c0 J J (bk J hg))),
     ⟨jI 6 86 20 J J J J (eC J J J J (fun hg=>cr J)),
     ⟨fk 89 23 86 20 J J J J (eC J J J J (fun hg=>eZ (bk J hg) hI)),
     ⟨kr 88 22 90 24 86 20 J J J J J (eC J J J J (fun hg=>bf ed bP J (bk J hg) (bk J hg) (q_e3g hg))),
     ⟨fk 91 25 86 20 J J J J (eC J J J J (fun hg=>bj bP J J (bk J hg))),
     ⟨jI 1 86 20 J J J J (eC J J J J (fun hg=>bS o3 jR J J)),
     ⟨fk 93 27 86 20 J J J J (eC J J J J (fun hg=>bj c0 J J (bk J hg))),
     ⟨jI 6 86 20 J J J J (eC J J J J (fun hg=>cr J)),
     ⟨kr 94 28 95 29 86 20 J J J J J (eC J J J J (fun hg=>bf ed bP J (bk J hg) (bk J hg) q_e2)),
     ⟨fk 96 30 86 20 J J J J (eC J J J J (fun hg=>bj bP J J (bk J hg))),
     ⟨kr 92 26 97 31 86 20 J J J J J (eC J J J J (fun hg=>dU (bk J hg) (bk J hg))),
     ⟨kr 86 20 98 32 83 17 J J J J J (dG J J J J (fun hg=>cJ (bk J hg) (fun hb=>(bk J (q5 hg hb))) (fun hb=>(h1t3 (q5 hg hb)).2) (fun hb=>h0t3 hg hb))),
     ⟨cO 83 17 99 33 J J J J (dy (ht J) (fun hb=>(bk J (mU hb))) (fun hb=>(h1t2 hb).2) h0t2),
     aP⟩⟩⟩⟩⟩⟩⟩⟩⟩⟩⟩⟩⟩⟩⟩⟩⟩⟩⟩⟩⟩⟩⟩⟩⟩⟩⟩⟩⟩⟩⟩⟩⟩⟩⟩ ?_
    refine ak<|bX h rfl (fun h=>?_) (fun h=>?_)
    ·refine ap<|zo J (ef)<|al<|ai ?_;refine aq (aa (aa (aq (aa ?_))));cases so h;exact ay J J
    ·refine bi<|aj<|ak<|an<|aB rfl<|zo rfl (fF (ht rfl) hI)<|ba rfl<|aL ?_;exact aT (aI (ih2 (IntKind.i64.wrap (i1+(1:Int))) h) (bh J))
   ·refine be ?_;refine af (af (aE ?_));refine ak<|ap<|zo rfl (ef)<|al<|ai ?_;cases so h;exact ay J J

theorem GW(c:cY){R:Bool}(h:mG c=some R):aN aJ 44 [tD fU c] (er R):=by
 refine aN.of Tryz.func44 J J J fun w0 S0=>ap<|zo J (ff J)<|zo J (ef)<|al<|ae<|ap<|zo J (bS kg du J J)<|zo J (bn sK J J)<|zo J (eH o9 J)<|zo J (eb (ht J) hI)<|al<|bX h J (fun h=>?_) (fun h=>?_)
 ·refine ap<|zo J (ef)<|al<|ai<|aa ?_;cases so h;exact ay J J
 ·refine cF<|ae<|ap<|zo J (bO)<|al<|au<|bo ?_;refine aI (nr (Z:=fun n i=>iG c n i=some R) (Of:=fun i=>[]) (Gf:=fun i=>[(1,bv fU c),(3,bu i)]) (fun i h=>nn h) (fun n ih i h=>?_) ip (0:Int) h) (bh J);refine aw<|ae<|ap<|aB J<|zo J (bS kg du J J)<|zo J (bn sK J J)<|zo J (eH o9 J)<|zo J (dC J J)<|al<|bX h J (fun h=>?_) (fun h=>?_)
  ·refine cF<|ae<|au<|ae<|ap<|zo J (bS kg du J J)<|zo J (bn sK J J)<|aB J<|bp h fun e q_e h=>zo J (gw o9 jw J J J q_e)<|zo J (bn jw J J)<|bp h fun r q_r h=>zo J (ax PO (Ke _ q_r) ⟨(ht J),aP⟩)<|zo J (cH (ht J))<|al<|bX h J (fun h=>?_) (fun h=>?_)
   ·refine ap<|zo J (ef)<|al<|ai ?_;refine aa (aq (aa (aa (aq (aa ?_)))));cases so h;exact ay J J
   ·refine cF<|ap<|zo J (bO)<|al<|au<|bo ?_;refine aI (nr (Z:=fun n1 k=>jL c (iG c n) i e n1 k=some R) (Of:=fun k=>[]) (Gf:=fun k=>[(1,bv fU c),(3,bu i),(4,bu k)]) (fun k h=>nn h) (fun n1 ih1 k h=>?_) ip (0:Int) h) (bh J);refine aw<|ae<|ap<|aB J<|aB J<|zo J (dC J J)<|al<|bX h J (fun h=>?_) (fun h=>?_)
    ·refine cF<|ae<|au<|ae<|bp h fun e1 q_e1 h=>?_
     refine bZ (ts:=[_,_,_,_,_,_,_,_,_,_,_,_,_]) mixed J J
      ⟨dp 1 J J J (bS kg du J J),
      ⟨bH 28 0 J J J (bn sK J J),
      ⟨dp 4 J J J (cr J),
      ⟨cO 29 1 30 2 J J J J (gw o9 jw J J J q_e1),
      ⟨bH 31 3 J J J (bS su lW J J),
      ⟨bH 32 4 J J J (bn sQ J J),
      ⟨dp 1 J J J (bS kg du J J),
      ⟨bH 34 6 J J J (bn sK J J),
      ⟨dp 3 J J J (cr J),
      ⟨cO 35 7 36 8 J J J J (gw o9 jw J J J q_e),
      ⟨bH 37 9 J J J (bS su lW J J),
      ⟨bH 38 10 J J J (bn sQ J J),
      ⟨cO 33 5 39 11 J J J J (lk (ht J) (ht J)),
      aP⟩⟩⟩⟩⟩⟩⟩⟩⟩⟩⟩⟩⟩ ?_
     refine ak<|bX h rfl (fun h=>?_) (fun h=>?_)
     ·refine ap<|zo J (ef)<|al<|ai ?_;refine aq (aa (aa (aq (aq (aa (aa (aq (aa ?_))))))));cases so h;exact ay J J
     ·refine bi<|aj<|ak<|an<|aB rfl<|zo rfl (fF (ht rfl) hI)<|ba rfl<|aL ?_;exact aT (aI (ih1 (IntKind.i64.wrap (k+(1:Int))) h) (bh J))
    ·refine be ?_;refine af (af (aE ?_));refine aj<|ak<|an<|aB rfl<|zo rfl (fF (ht rfl) hI)<|ba rfl<|aL ?_;exact aT (aI (ih (IntKind.i64.wrap (i+(1:Int))) h) (bh J))
  ·refine be ?_;refine af (af (aE ?_));refine ak<|ap<|zo rfl (ef)<|al<|ai ?_;cases so h;exact ay J J

theorem L3(v:M){R:Bool}(h:kU v=some R):aN aJ 87 [tD ac v] (er R):=by
 refine aN.of Tryz.func87 J J J fun w0 S0=>ap<|zo J (ff J)<|zo J (ef)<|al<|ae<|ap<|zo J (bS em bU J J)<|zo J (bn bP J J)<|al<|au<|ap<|zo J (io J)<|ba J<|al<|bX h J (fun h=>?_) (fun h=>?_)
 ·refine ap<|zo J (bn aG J J)<|zo J (bM (y:=eS) aG lq aZ (J))<|zo J (uq DN (ht J) (ht J))<|ba J<|al<|ai ?_;refine aq (aa ?_);cases so h;exact ay J J
 ·refine ap<|zo J (io J)<|ba J<|al<|bX h J (fun h=>?_) (fun h=>?_)
  ·refine ap<|zo J (bS qn i5 J J)<|zo J (bn yK J J)<|zo J (io J)<|aB J<|cd J J (fun hg=>bS oe gI J J)<|cd J J (fun hg=>bj sQ J J (bk J hg))<|cd J J (fun hg=>lk (bk J hg) hS)<|zo J (ms J J)<|aB J<|cd J J (fun hg=>bS gK dg J J)<|cd J J (fun hg=>bj wM J J (bk J hg))<|cd J J (fun hg=>cA (bk J hg) hI)<|cd J J (fun hg=>br (bk J hg))<|fI J J J J (fun hg=>bS gK dg J J)<|fI J J J J (fun hg=>bj wM J J (bk J hg))<|fI J J J J (fun hg=>cA (bk J hg) hI)<|cd J J (fun hg=>pI (bk J hg) (fun hb=>(bk J (q5 hg (mU hb)))))<|zo J (ms J J)<|ba J<|al<|ai ?_;refine aq (aa ?_);cases so h;exact ay J J
  ·refine ap<|zo J (io J)<|ba J<|al<|bX h J (fun h=>?_) (fun h=>?_)
   ·refine ap<|zo J (bS qn i5 J J)<|zo J (bn yK J J)<|zo J (io J)<|aB J<|cd J J (fun hg=>bS oe gI J J)<|cd J J (fun hg=>bj sQ J J (bk J hg))<|cd J J (fun hg=>lk (bk J hg) hS)<|zo J (ms J J)<|ba J<|al<|ai ?_;refine aq (aa ?_);cases so h;exact ay J J
   ·refine ap<|zo J (io J)<|ba J<|al<|bX h J (fun h=>?_) (fun h=>?_)
    ·refine ap<|zo J (bS gK dg J J)<|zo J (bn wM J J)<|zo J (io J)<|aB J<|cd J J (fun hg=>bS qn i5 J J)<|cd J J (fun hg=>bj yK J J (bk J hg))<|cd J J (fun hg=>cA (bk J hg) hI)<|zo J (ms J J)<|aB J<|cd J J (fun hg=>bS oe gI J J)<|cd J J (fun hg=>bj sQ J J (bk J hg))<|cd J J (fun hg=>mv mq (bk J hg))<|cd J J (fun hg=>gH (bk J hg) hI)<|zo J (ms J J)<|ba J<|al<|ai ?_;refine aq (aa ?_);cases so h;exact ay J J
    ·refine bi<|aj<|ak<|ap<|zo rfl (bS em bU rfl rfl)<|zo rfl (bn bP rfl rfl)<|zo rfl (io rfl)<|aB rfl<|cd rfl rfl (fun hg=>bS oe gI J J)<|cd J J (fun hg=>bj sQ J J (bk J hg))<|cd J J (fun hg=>lk (bk J hg) hS)<|zo J (ms J J)<|ba J<|al<|ai ?_;cases so h;exact ay J J

theorem L6(l:(List (List M)))(kinds:(List Int)){R:Bool}(h:qa l kinds=some R):aN aJ 64 [bK (cE) l,iA kinds] (er R):=by
 refine aN.of Tryz.func64 J J J fun w0 S0=>ap<|zo J (ef)<|al<|ae<|ap<|aB J<|zo J (eH ge J)<|zo J (eb (ht J) hI)<|al<|bX h J (fun h=>?_) (fun h=>?_)
 ·refine ap<|zo J (ef)<|al<|ai<|aa ?_;cases so h;exact ay J J
 ·refine cF<|ae<|ap<|zo J (bO)<|al<|au<|aU (k:=0) J fun hN=>bo ?_;refine aI (cN (Z:=fun ls i=>(l.drop i=ls)∧jo kinds ls=some R) (Of:=fun _ i=>[]) (Gf:=fun _ i=>[(0,bK (cE) l),(1,iA kinds),(5,bu (i:Int))]) (fun i h=>?_) (fun e tl ih i h=>?_) l 0 ⟨J,h⟩) (bh J)
  ·obtain⟨hx,h⟩:=h
   refine aw<|ae<|ap<|aB J<|aB J<|zo J (eH ge J)<|zo J (dC J J)<|al<|bm (ht J) (cx hx)<|be ?_;refine af (af (aE ?_));refine ak<|ap<|zo rfl (ef)<|al<|ai ?_;cases so h;exact ay J J
  ·obtain⟨hx,h⟩:=h
   refine aw<|ae<|ap<|aB J<|aB J<|zo J (eH ge J)<|zo J (dC J J)<|al<|bl (ht J) (cw hx)<|cF<|ae<|au<|ae<|ap<|aB J<|aB J<|zo J (gw ge dd J J J (ci hx))<|zo J (bn dd J J)<|zo J (eH lG J)<|aB J ?_;refine zo J (eH ed J)<|zo J (dc (ht J) (ht J))<|al<|bX h J (fun h=>?_) (fun h=>?_)
   ·refine ap<|zo J (ef)<|al<|ai ?_;refine aa (aq (aa (aa (aq (aa ?_)))));cases so h;exact ay J J
   ·refine cF<|ap<|zo J (bO)<|al<|au<|aU (k:=1) J fun hN1=>bo ?_;refine aI (cN (Z:=fun ls1 i1=>(kinds.drop i1=ls1)∧jn (jo kinds tl) e ls1 i1=some R) (Of:=fun _ i1=>[]) (Gf:=fun _ i1=>[(0,bK (cE) l),(1,iA kinds),(5,bu (i:Int)),(6,bu (i1:Int))]) (fun i1 h=>?_) (fun e1 tl1 ih1 i1 h=>?_) kinds 0 ⟨J,h⟩) (bh J)
    ·obtain⟨hx1,h⟩:=h
     refine aw<|ae<|ap<|aB J<|aB J<|zo J (eH ed J)<|zo J (dC J J)<|al<|bm (ht J) (cx hx1)<|be ?_;refine af (af (aE ?_));refine aj<|ak<|an<|aB rfl<|zo rfl (iq (bW hx hN) rfl)<|ba rfl<|aL ?_;exact aT (aI (ih (i+1) ⟨bV hx,h⟩) (bh J))
    ·obtain⟨hx1,h⟩:=h
     refine aw<|ae<|ap<|aB J<|aB J<|zo J (eH ed J)<|zo J (dC J J)<|al<|bl (ht J) (cw hx1)<|cF<|ae<|au<|ap<|aB J<|aB J<|zo J (gw ge dd J J J (ci hx))<|zo J (bn dd J J)<|aB J<|bp h fun e2 q_e2 h=>zo J (gw lG aG J J J q_e2) ?_;refine zo J (bn aG J J)<|aV (r:=ac) (x:=eS) aG (fun _=>aZ _) J fun b=>av aG J am J (ht J) (ht J)<|aS 7 J<|al<|ae<|bp h fun r q_r h=>?_
     refine bZ (ts:=[_,_,_,_,_,_,_,_,_,_,_,_,_,_,_,_,_]) mixed J J
      ⟨dp 7 J J J (bn aG J J),
      ⟨bH 38 0 J J J (ax Qz (L3 _ q_r) ⟨(ht J),aP⟩),
      ⟨bH 39 1 J J J (cH (ht J)),
      ⟨bH 40 2 J J J (cr J),
      ⟨jI 7 41 3 J J J J (dG J J J J (fun hg=>bS em bU J J)),
      ⟨fk 42 4 41 3 J J J J (dG J J J J (fun hg=>bj bP J J (bk J hg))),
      ⟨fk 43 5 41 3 J J J J (dG J J J J (fun hg=>dc (bk J hg) hI)),
      ⟨fk 44 6 41 3 J J J J (dG J J J J (fun hg=>br (bk J hg))),
      ⟨jI 7 45 7 J J J J (eC J J J J (fun hg=>bS em bU J J)),
      ⟨fk 46 8 45 7 J J J J (eC J J J J (fun hg=>bj bP J J (bk J hg))),
      ⟨jI 1 45 7 J J J J (eC J J J J (fun hg=>cr J)),
      ⟨jI 6 45 7 J J J J (eC J J J J (fun hg=>cr J)),
      ⟨kr 48 10 49 11 45 7 J J J J J (eC J J J J (fun hg=>bf ed bP J (bk J hg) (bk J hg) (ci hx1))),
      ⟨fk 50 12 45 7 J J J J (eC J J J J (fun hg=>bj bP J J (bk J hg))),
      ⟨kr 47 9 51 13 45 7 J J J J J (eC J J J J (fun hg=>dc (bk J hg) (bk J hg))),
      ⟨kr 45 7 52 14 41 3 J J J J J (dG J J J J (fun hg=>kL (bk J hg) (fun hb=>(bk J (q5 hg hb))))),
      ⟨cO 41 3 53 15 J J J J (qY J J),
      aP⟩⟩⟩⟩⟩⟩⟩⟩⟩⟩⟩⟩⟩⟩⟩⟩⟩ ?_
     refine ak<|bX h rfl (fun h=>?_) (fun h=>?_)
     ·refine ap<|zo J (ef)<|al<|ai ?_;refine aq (aa (aa (aq (aq (aa (aa (aq (aa ?_))))))));cases so h;exact ay J J
     ·refine bi<|aj<|ak<|an<|aB rfl<|zo rfl (iq (bW hx1 hN1) rfl)<|ba rfl<|aL ?_;exact aT (aI (ih1 (i1+1) ⟨bV hx1,h⟩) (bh J))

theorem Mc(c:cY)(b:eU){R:Bool}(h:kC c b=some R):aN aJ 45 [tD fU c,tD fN b] (er R):=by
 refine aN.of Tryz.func45 J J J fun w0 S0=>ap<|zo J (ff J)<|zo J (ff J)<|zo J (ef)<|al<|ae<|ap<|zo J (bn Fl J J)<|bp h fun r q_r h=>zo J (ax Nw (GW _ q_r) ⟨(ht J),aP⟩)<|zo J (cH (ht J))<|aB J<|dv J J (fun hg=>bS qo ka J J)<|dv J J (fun hg=>bj oL J J (bk J hg))<|dv J J (fun hg=>cD jH (bk J hg))<|dv J J (fun hg=>bS kg du J J)<|dv J J (fun hg=>bj sK J J (bk J hg))<|dv J J (fun hg=>cD o9 (bk J hg))<|dv J J (fun hg=>dc (bk J hg) (bk J hg))<|zo J (qY J J) ?_;refine al<|bX h J (fun h=>?_) (fun h=>?_)
 ·refine ap<|zo J (ef)<|al<|ai<|aa ?_;cases so h;exact ay J J
 ·refine cF<|ae<|ap<|zo J (bO)<|al<|au<|bo ?_;refine aI (nr (Z:=fun n i=>fz c b n i=some R) (Of:=fun i=>[]) (Gf:=fun i=>[(2,bv fU c),(3,bv fN b),(5,bu i)]) (fun i h=>nn h) (fun n ih i h=>?_) ip (0:Int) h) (bh J);refine aw<|ae<|ap<|aB J<|zo J (bS kg du J J)<|zo J (bn sK J J)<|zo J (eH o9 J)<|zo J (dC J J)<|al<|bX h J (fun h=>?_) (fun h=>?_)
  ·refine cF<|ae<|au<|ap<|bA false bI 3<|zo J (aD mZ)<|al<|ae<|ap<|zo J (bO)<|al<|au<|bo ?_;refine aI (w8 (Z:=fun n1 kinds l c1 k=>gF c b (fz c b n) i n1 kinds k=some R) (Of:=fun kinds l c1 k=>[dJ bI 3 l c1 kinds]) (Gf:=fun kinds l c1 k=>[(2,bv fU c),(3,bv fN b),(5,bu i),(6,mp l c1 kinds),(7,bu k)]) (fun kinds l c1 k h=>nn h) (fun n1 ih1 kinds l c1 k h=>?_) ip nL none 0 (0:Int) h) (bh J);refine aw<|ae<|ap<|aB J<|zo J (bS kg du J J)<|zo J (bn sK J J)<|aB J<|bp h fun e q_e h=>zo J (gw o9 jw J J J q_e)<|zo J (bS iy ew J J)<|zo J (bn m9 J J)<|zo J (eH nH J)<|zo J (dC J J)<|al<|bX h J (fun h=>?_) (fun h=>?_)
   ·refine cF<|ae<|au<|an<|aB J<|zo J (bS kg du J J)<|zo J (bn sK J J)<|aB J<|zo J (gw o9 jw J J J q_e)<|zo J (bS iy ew J J)<|zo J (bn m9 J J)<|aB J<|bp h fun e1 q_e1 h=>zo J (gw nH iB J J J q_e1)<|zo J (bS wS oZ J J)<|zo J (bn bP J J)<|zo J (aR (r:=bI) (ys:=[e1.Kind]) (xs:=[.tmp 48]) ed bP J J J J J ⟨(ht J),aP⟩)<|bp h fun kinds1 q_kinds1 h=>cg bP J J J J ed J J (ht J) (ht J) q_kinds1 fun l1 c2=>ba J<|aL<|aj<|ak ?_;refine an<|aB J<|zo J (fF (ht J) hI)<|ba J<|aL ?_;exact aT (aI (ih1 kinds1 l1 c2 (IntKind.i64.wrap (k+(1:Int))) h) (bh J))
   ·refine be ?_;refine af (af (aE ?_));refine ak<|ap<|zo rfl (bS qo ka rfl rfl)<|zo rfl (bn oL rfl rfl)<|aB rfl<|bp h fun e2 q_e2 h=>zo J (gw jH eu J J J q_e2)<|zo J (bn eu J J)<|aB J<|eP<|dZ 6 J<|dZ 56 J<|bp h fun r1 q_r1 h=>zo J (ax QC (L6 _ _ q_r1) ⟨(ht J),(gz (ht J)),aP⟩)<|zo J (cH (ht J))<|al<|bX h J (fun h=>?_) (fun h=>?_)
    ·refine ap<|zo J (ef)<|al<|ai ?_;refine aq (aa (aa (aq (aa ?_))));refine aY ?_;cases so h;exact ay J J
    ·refine bi<|aj<|ak<|an<|aB rfl<|zo rfl (fF (ht rfl) hI)<|ba rfl<|aL<|aY ?_;exact aT (aI (ih (IntKind.i64.wrap (i+(1:Int))) h) (bh J))
  ·refine be ?_;refine af (af (aE ?_));refine ak<|ap<|zo rfl (ef)<|al<|ai ?_;cases so h;exact ay J J

theorem Mx(c:cY)(b:eU){R:Bool}(h:jA c b=some R):aN aJ 10 [tD fU c,tD fN b] (er R):=by
 refine aN.of Tryz.func10 J J J fun w0 S0=>ap<|zo J (ff J)<|zo J (ff J)<|zo J (ef)<|al<|ae<|ap<|bp h fun r q_r h=>zo J (ax QY (Mw q_r) trivial)<|zo J (cH (ht J))<|al<|bX h J (fun h=>?_) (fun h=>?_)
 ·refine ap<|zo J (ef)<|al<|ai<|aa ?_;cases so h;exact ay J J
 ·refine cF<|ae<|ap<|zo J (bn Fl J J)<|bp h fun r1 q_r1 h=>zo J (ax QS (Me _ q_r1) ⟨(ht J),aP⟩)<|aB J<|bp h fun t q_t h=>dv J J (fun hg=>bn Ao J J) ?_
  obtain⟨r2,h1t,h0t⟩:=og q_t
  have q_r2g:=fun hb=>(h1t hb).1
  refine dv J J (fun hg=>ax QX (Mv _ (q_r2g hg)) ⟨(bk J hg),aP⟩)<|zo J (dy (ht J) (fun hb=>(bk J (mU hb))) (fun hb=>(h1t hb).2) h0t)<|al<|bX h J (fun h=>?_) (fun h=>?_)
  ·refine ap<|zo J (ef)<|al<|ai<|aa ?_;cases so h;exact ay J J
  ·refine cF<|ap<|zo J (bn Fl J J)<|zo J (bn Ao J J)<|bp h fun r3 q_r3 h=>zo J (ax QR (Md _ _ q_r3) ⟨(ht J),(ht J),aP⟩)<|ba J<|al<|ae<|au<|ap<|zo J (bn Fl J J)<|bp h fun r4 q_r4 h=>zo J (ax Nw (GW _ q_r4) ⟨(ht J),aP⟩)<|zo J (cH (ht J))<|ba J<|al<|bX h J (fun h=>?_) (fun h=>?_)
   ·refine ap<|aB J<|zo J (io J)<|ba J<|al<|ai ?_;refine aq (aa ?_);cases so h;exact ay J J
   ·refine ap<|zo J (bn Fl J J)<|zo J (bn Ao J J)<|bp h fun r5 q_r5 h=>zo J (ax QQ (Mc _ _ q_r5) ⟨(ht J),(ht J),aP⟩)<|zo J (cH (ht J))<|ba J<|al<|bX h J (fun h=>?_) (fun h=>?_)
    ·refine ap<|aB J<|zo J (io J)<|ba J<|al<|ai ?_;refine aq (aa ?_);cases so h;exact ay J J
    ·refine bi<|aj<|ak<|ap<|aB rfl<|zo rfl (io rfl)<|ba rfl<|al<|ai ?_;cases so h;exact ay J J

end Go.Proofs.YtfhhakidodmdfaaGreatDoor

