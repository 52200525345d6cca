/- di of this claim: P17. -/
import Derived.Test.YtmogpgcfognefaaGreatDoorNdT
import Derived.Test.YtmogpgcfognefaaGreatDoorNdP16
set_option linter.all false
namespace Go.Proofs.YtmogpgcfognefaaGreatDoor
open Go
set_option maxRecDepth 100000

theorem OT(f:cL){R:(List Int)}(h:q5 f=some R):bh be 98 [tD bR f] (ji R):=by
 refine bh.of Tryz.func98 J J J fun w0 S0=>an<|zo J (lK J)<|zo J (aP (show aL _ _ _ pD from lJ))<|al<|an<|zo J (bw mO gJ J J)<|zo J (bj n8 J J)<|bM h fun r q_r h=>zo J (aH UL (JY _ q_r) ⟨(ht J),bm⟩)<|ax J<|zo J (iA J J)<|zo J (iA J J)<|aY J<|aY J<|al<|an<|ax J<|ax J ?_;refine zo J (fU n7 J)<|zo J (dn (ht J) hI)<|bM h fun e q_e h=>zo J (gM n7 bV J J J q_e)<|zo J (bj bV J J)<|aY J<|al<|aj ?_;cases so h;exact aB J J

theorem Ul(p:da)(at1:Int){R:Bool}(h:tQ p at1=some R):bh be 51 [tD ce p,bY at1] (gD R):=by
 refine bh.of Tryz.func51 J J J fun w0 S0=>an<|zo J (lK J)<|zo J (ei)<|al<|an<|zo J (bw fY dp J J)<|zo J (bj nS J J)<|ax J<|bM h fun e q_e h=>zo J (gM kE fN J J J q_e)<|zo J (bj fN J J)<|aZ (r:=bR) (x:=IT) fN (fun _=>mu _) J fun b=>aE fN J ay J (ht J) (ht J)<|aW 5 J<|al<|ae<|an<|zo J (bw mO gJ J J) ?_;refine zo J (bj n8 J J)<|zo J (fU ib J)<|zo J (bk hI)<|al<|ap<|aT (k:=22) J fun hN=>bE ?_;refine aJ (dB (Z:=fun ls i=>(e.Nodes.drop i=ls)∧mE p at1 e ls=some R) (Of:=fun _ i=>[]) (Gf:=fun _ i=>[(1,bY at1),(2,bF ce p),(5,bF bR e),(22,eV (aA) e.Nodes),(23,gA e.Nodes),(24,bY (i:Int))]) (fun i h=>?_) (fun e1 tl ih i h=>?_) e.Nodes 0 ⟨J,h⟩) (aQ J)
 ·obtain⟨hx,h⟩:=h
  refine av<|an<|zo J (eu J J)<|al<|ae<|bu (ht J) (dh hx)<|bf ?_;refine ac (ac (aI ?_));refine ai<|an<|zo rfl (dv)<|al<|ae<|an<|zo rfl (bw fY dp rfl rfl)<|zo rfl (bj nS rfl rfl)<|zo rfl (fU kE rfl)<|zo rfl (bk hI)<|al<|ap<|aT (k:=52) J fun hN1=>bE ?_;refine aJ (jY (Z:=fun ls1 i1 many=>(p.Frags.drop i1=ls1)∧jK p at1 e ls1 many=some R) (Of:=fun _ i1 many=>[]) (Gf:=fun _ i1 many=>[(1,bY at1),(2,bF ce p),(5,bF bR e),(8,bY many),(52,eV (bR) p.Frags),(53,gA p.Frags),(54,bY (i1:Int))]) (fun i1 many h=>?_) (fun e2 tl1 ih1 i1 many h=>?_) p.Frags 0 (0:Int) ⟨J,h⟩) (aQ J)
  ·obtain⟨hx1,h⟩:=h
   refine av<|an<|zo J (eu J J)<|al<|ae<|bu (ht J) (dh hx1)<|bf ?_;refine ac (ac (aI ?_));refine ai<|ae<|an<|ax rfl<|zo rfl (bw fY dp rfl rfl)<|zo rfl (bj nS rfl rfl)<|zo rfl (fU kE rfl)<|zo rfl (dn (ht rfl) hI)<|zo rfl (bq (ht rfl) (ht rfl))<|al<|cz h rfl (fun h=>?_) (fun h=>?_)
   ·refine an<|zo J (bw pK ju J J)<|zo J (bj br J J)<|zo J (eQ J)<|ax J<|bo J J (fun hg=>bw mN gj J J)<|bo J J (fun hg=>aF br J J (aG J hg))<|bo J J (fun hg=>bq (aG J hg) hI)<|zo J (hZ J J)<|ax J<|bo J J (fun hg=>cq J)<|bo J J (fun hg=>bq (aG J hg) hI)<|zo J (hZ J J)<|ax J<|bM h fun t q_t h=>bo J J (fun hg=>bj fN J J) ?_
    obtain⟨r,h1t,h0t⟩:=og q_t
    have q_rg:=fun hb=>(h1t hb).1
    refine bo J J (fun hg=>aH Wa (OT _ (q_rg hg)) ⟨(aG J hg),bm⟩) ?_
    obtain⟨r1,h1t⟩:=G1 (fun hb=>(h1t hb).2)
    have q_r1g:=fun hb=>(h1t hb).1
    refine bo J J (fun hg=>aH V9 (OS _ (q_r1g hg)) ⟨(aG J hg),bm⟩)<|bo J J (fun hg=>dD (aG J hg))<|zo J (cu (ht J) (fun hb=>(aG J hb)) (fun hb=>(h1t hb).2) h0t)<|aY J<|al<|aj<|aa ?_;cases so h;exact aB J J
   ·refine dF<|an<|zo J (bj mg J J)<|ax J<|bM h fun r2 q_r2 h=>zo J (aH Sn (GB _ _ q_r2) ⟨(ht J),(ht J),bm⟩)<|ax J<|zo J (iA J J)<|zo J (iA J J)<|zo J (iA J J)<|aY J<|aY J<|aY J<|al<|ae<|bM h fun t1 q_t1 h=>?_
    obtain⟨e3,h1t1,h0t1⟩:=og q_t1
    have q_e3g:=fun hb=>(h1t1 hb).1
    refine er (ts:=[_,_,_,_,_,_,_,_,_,_,_,_,_,_,_,_,_,_,_,_,_,_,_,_]) mixed J J
     ⟨ic 5 J J J (bw pK ju J J),
     ⟨dc 109 0 J J J (bj br J J),
     ⟨dc 110 1 J J J (uP J),
     ⟨dc 111 2 J J J (cq J),
     ⟨jn 8 112 3 J J J J (bP J J J J (fun hg=>cq J)),
     ⟨dR 113 4 112 3 J J J J (bP J J J J (fun hg=>bq (aG J hg) hI)),
     ⟨eT 112 3 114 5 J J J J (hZ J J),
     ⟨dc 115 6 J J J (cq J),
     ⟨jn 15 116 7 J J J J (bP J J J J (fun hg=>cq J)),
     ⟨eT 116 7 117 8 J J J J (hZ J J),
     ⟨dc 118 9 J J J (cq J),
     ⟨jn 5 119 10 J J J J (bP J J J J (fun hg=>bw pK ju J J)),
     ⟨dR 120 11 119 10 J J J J (bP J J J J (fun hg=>aF br J J (aG J hg))),
     ⟨dR 121 12 119 10 J J J J (bP J J J J (fun hg=>bq (aG J hg) hI)),
     ⟨jn 2 119 10 J J J J (bP J J J J (fun hg=>bw fY dp J J)),
     ⟨dR 123 14 119 10 J J J J (bP J J J J (fun hg=>aF nS J J (aG J hg))),
     ⟨jn 13 119 10 J J J J (bP J J J J (fun hg=>cq J)),
     ⟨mB 124 15 125 16 119 10 J J J J J (bP J J J J (fun hg=>bW kE fN J (aG J hg) (aG J hg) (q_e3g hg))),
     ⟨dR 126 17 119 10 J J J J (bP J J J J (fun hg=>cR mN J gj J (aG J hg))),
     ⟨dR 127 18 119 10 J J J J (bP J J J J (fun hg=>aF br J J (aG J hg))),
     ⟨dR 128 19 119 10 J J J J (bP J J J J (fun hg=>bq (aG J hg) hI)),
     ⟨mB 122 13 129 20 119 10 J J J J J (bP J J J J (fun hg=>KK FD (aG J hg) (aG J hg))),
     ⟨eT 119 10 130 21 J J J J (cu (ht J) (fun hb=>(aG J hb)) (fun hb=>(h1t1 hb).2) h0t1),
     ⟨dc 131 22 J J J (yG J),
     bm⟩⟩⟩⟩⟩⟩⟩⟩⟩⟩⟩⟩⟩⟩⟩⟩⟩⟩⟩⟩⟩⟩⟩⟩ ?_
    refine ai<|aj ?_;cases so h;exact aB J J
  ·obtain⟨hx1,h⟩:=h
   refine av<|an<|zo J (eu J J)<|al<|ae<|bt (ht J) (dg hx1)<|dF<|ae<|ap<|an<|zo J (gM kE fN J J J (dl hx1))<|zo J (bj fN J J)<|aZ (r:=bR) (x:=IT) fN (fun _=>mu _) J fun b1=>aE fN J ay J (ht J) (ht J)<|aW 10 J<|al<|an<|zo J (bw mO gJ J J) ?_;refine zo J (bj n8 J J)<|zo J (fU ib J)<|zo J (bk hI)<|al<|ap<|aT (k:=59) J fun hN2=>bE ?_;refine aJ (jY (Z:=fun ls2 i2 many1=>(e2.Nodes.drop i2=ls2)∧mD at1 (jK p at1 e tl1) ls2 many1=some R) (Of:=fun _ i2 many1=>[]) (Gf:=fun _ i2 many1=>[(1,bY at1),(2,bF ce p),(5,bF bR e),(8,bY many1),(52,eV (bR) p.Frags),(53,gA p.Frags),(54,bY (i1:Int)),(59,eV (aA) e2.Nodes),(60,gA e2.Nodes),(61,bY (i2:Int))]) (fun i2 many1 h=>?_) (fun e4 tl2 ih2 i2 many1 h=>?_) e2.Nodes 0 many ⟨J,h⟩) (aQ J)
   ·obtain⟨hx2,h⟩:=h
    refine av<|an<|zo J (eu J J)<|al<|ae<|bu (ht J) (dh hx2)<|bf ?_;refine ac (ac (aI ?_));refine af<|ai<|ah<|zo rfl (je (cx hx1 hN1) rfl)<|ax rfl<|aC ?_;exact aM (aJ (ih1 (i1+1) many1 ⟨cw hx1,h⟩) (aQ J))
   ·obtain⟨hx2,h⟩:=h
    refine av<|an<|zo J (eu J J)<|al<|ae<|bt (ht J) (dg hx2)<|dF<|ae<|ap<|an<|zo J (gM ib db J J J (dl hx2))<|zo J (bj db J J)<|aZ (r:=aA) (x:=yF) db (fun _=>ev _) J fun b2=>aE db J ay J (ht J) (ht J)<|aW 12 J<|al<|an<|zo J (bw eh cj J J) ?_;refine zo J (bj br J J)<|zo J (eQ J)<|ax J<|bo J J (fun hg=>bw kj d8 J J)<|bo J J (fun hg=>aF br J J (aG J hg))<|bo J J (fun hg=>cq J)<|bo J J (fun hg=>bq (aG J hg) (aG J hg))<|zo J (hZ J J)<|al<|cz h J (fun h=>?_) (fun h=>?_)
    ·refine ah<|ax J<|zo J (fm (ht J) hI)<|aY J<|aC<|af<|ai<|ah<|zo rfl (je (cx hx2 hN2) rfl)<|ax rfl<|aC ?_;exact aM (aJ (ih2 (i2+1) (IntKind.i64.wrap (many1+(1:Int))) ⟨cw hx2,h⟩) (aQ J))
    ·refine aO<|af<|ai<|ah<|zo rfl (je (cx hx2 hN2) rfl)<|ax rfl<|aC ?_;exact aM (aJ (ih2 (i2+1) many1 ⟨cw hx2,h⟩) (aQ J))
 ·obtain⟨hx,h⟩:=h
  refine av<|an<|zo J (eu J J)<|al<|ae<|bt (ht J) (dg hx)<|dF<|ae<|ap<|an<|zo J (gM ib db J J J (dl hx))<|zo J (bj db J J)<|aZ (r:=aA) (x:=yF) db (fun _=>ev _) J fun b3=>aE db J ay J (ht J) (ht J)<|aW 7 J<|al<|ae<|bM h fun t2 q_t2 h=>?_
  obtain⟨t3,h1t2,h0t2⟩:=og q_t2
  have q_t3g:=fun hb=>(h1t2 hb).1
  obtain⟨e5,h1t3,h0t3⟩:=Vx q_t3g
  have q_e5g:=fun hb=>(h1t3 hb).1
  obtain⟨r3,h1t3⟩:=G1 (fun hb=>(h1t3 hb).2)
  have q_r3g:=fun hb=>(h1t3 hb).1
  obtain⟨r4,h1t3⟩:=G1 (fun hb=>(h1t3 hb).2)
  have q_r4g:=fun hb=>(h1t3 hb).1
  refine er (ts:=[_,_,_,_,_,_,_,_,_,_,_,_,_,_,_,_,_,_,_,_,_,_]) mixed J J
   ⟨ic 7 J J J (bw eh cj J J),
   ⟨dc 28 0 J J J (bj br J J),
   ⟨dc 29 1 J J J (eQ J),
   ⟨dc 30 2 J J J (cq J),
   ⟨jn 7 31 3 J J J J (bP J J J J (fun hg=>bw kj d8 J J)),
   ⟨dR 32 4 31 3 J J J J (bP J J J J (fun hg=>aF br J J (aG J hg))),
   ⟨jn 1 31 3 J J J J (bP J J J J (fun hg=>cq J)),
   ⟨mB 33 5 34 6 31 3 J J J J J (bP J J J J (fun hg=>cS (aG J hg) (aG J hg))),
   ⟨dR 35 7 31 3 J J J J (bP J J J J (fun hg=>bk (aG J hg))),
   ⟨jn 7 36 8 J J J J (kL J J J J (fun hg=>bw jV d7 J J)),
   ⟨dR 37 9 36 8 J J J J (kL J J J J (fun hg=>aF bV J J (aG J hg))),
   ⟨jn 2 36 8 J J J J (kL J J J J (fun hg=>bw fY dp J J)),
   ⟨dR 39 11 36 8 J J J J (kL J J J J (fun hg=>aF nS J J (aG J hg))),
   ⟨jn 7 36 8 J J J J (kL J J J J (fun hg=>bw kj d8 J J)),
   ⟨dR 41 13 36 8 J J J J (kL J J J J (fun hg=>aF br J J (aG J hg))),
   ⟨mB 40 12 42 14 36 8 J J J J J (kL J J J J (fun hg=>bW kE fN J (aG J hg) (aG J hg) (q_e5g hg))),
   ⟨dR 43 15 36 8 J J J J (kL J J J J (fun hg=>aF fN J J (aG J hg))),
   ⟨dR 44 16 36 8 J J J J (kL J J J J (fun hg=>aH Wa (OT _ (q_r3g hg)) ⟨(aG J hg),bm⟩)),
   ⟨mB 38 10 45 17 36 8 J J J J J (kL J J J J (fun hg=>aH Pm (Dm _ _ (q_r4g hg)) ⟨(aG J hg),(aG J hg),bm⟩)),
   ⟨dR 46 18 36 8 J J J J (kL J J J J (fun hg=>dD (aG J hg))),
   ⟨mB 36 8 47 19 31 3 J J J J J (bP J J J J (fun hg=>dY (aG J hg) (fun hb=>(aG J (oa hg (mW hb)))) (fun hb=>(h1t3 (oa hg hb)).2) (fun hb=>h0t3 hg hb))),
   ⟨eT 31 3 48 20 J J J J (cu (ht J) (fun hb=>(aG J hb)) (fun hb=>(h1t2 hb).2) h0t2),
   bm⟩⟩⟩⟩⟩⟩⟩⟩⟩⟩⟩⟩⟩⟩⟩⟩⟩⟩⟩⟩⟩⟩ ?_
  refine ai<|cz h rfl (fun h=>?_) (fun h=>?_)
  ·refine an<|zo J (ei)<|al<|aj ?_;refine am (aa (aa (am (aa ?_))));cases so h;exact aB J J
  ·refine aO<|af<|ai<|ah<|zo rfl (je (cx hx hN) rfl)<|ax rfl<|aC ?_;exact aM (aJ (ih (i+1) ⟨cw hx,h⟩) (aQ J))

theorem Ux(p:da)(c:bG){R:Int×Int×Int}(h:tU p c=some R):bh be 17 [tD ce p,tD bJ c] (tT [bY R.1,bY R.2.1,bY R.2.2]):=by
 refine bh.of Tryz.func17 J J J fun w0 S0=>an<|zo J (lK J)<|zo J (lK J)<|zo J (dv)<|zo J (dv)<|zo J (dv)<|al<|ae<|an<|zo J (bj n9 J J)<|bM h fun r q_r h=>zo J (aH YG (Un _ q_r) ⟨(ht J),bm⟩)<|zo J (dD (ht J))<|al<|cz h J (fun h=>?_) (fun h=>?_)
 ·refine an<|zo J (dv)<|zo J (dv)<|zo J (dv)<|al<|aj<|aa ?_;cases so h;exact lF J J J J
 ·refine dF<|ae<|an<|zo J (bw fY dp J J)<|zo J (bj nS J J)<|zo J (fU kE J)<|zo J (eg (ht J) hI)<|ax J<|bX J J (fun hg=>bw fY dp J J)<|bX J J (fun hg=>aF nS J J (aG J hg))<|bX J J (fun hg=>bg kE (aG J hg))<|bX J J (fun hg=>dZ (aG J hg) hI)<|zo J (lH J J)<|al<|cz h J (fun h=>?_) (fun h=>?_)
  ·refine an<|zo J (dv)<|zo J (dv)<|zo J (dv)<|al<|aj<|aa ?_;cases so h;exact lF J J J J
  ·refine dF<|ae<|an<|zo J (bw fY dp J J)<|zo J (bj nS J J)<|zo J (fU kE J)<|zo J (bk hI)<|al<|ap<|aT (k:=25) J fun hN=>bE ?_;refine aJ (dB (Z:=fun ls i=>(p.Frags.drop i=ls)∧lh p c ls i=some R) (Of:=fun _ i=>[]) (Gf:=fun _ i=>[(2,bF ce p),(3,bF bJ c),(25,eV (bR) p.Frags),(26,gA p.Frags),(27,bY (i:Int))]) (fun i h=>?_) (fun e tl ih i h=>?_) p.Frags 0 ⟨J,h⟩) (aQ J)
   ·obtain⟨hx,h⟩:=h
    refine av<|an<|zo J (eu J J)<|al<|ae<|bu (ht J) (dh hx)<|bf ?_;refine ac (ac (aI ?_));refine ai<|ae<|an<|zo rfl (bw fY dp rfl rfl)<|zo rfl (bj nS rfl rfl)<|zo rfl (fU kE rfl)<|zo rfl (bk hI)<|al<|ap<|aT (k:=41) J fun hN1=>bE ?_;refine aJ (dB (Z:=fun ls1 i1=>(p.Frags.drop i1=ls1)∧ow p ls1 i1=some R) (Of:=fun _ i1=>[]) (Gf:=fun _ i1=>[(2,bF ce p),(42,gA p.Frags),(43,bY (i1:Int))]) (fun i1 h=>?_) (fun e1 tl1 ih1 i1 h=>?_) p.Frags 0 ⟨J,h⟩) (aQ J)
    ·obtain⟨hx1,h⟩:=h
     refine av<|an<|zo J (eu J J)<|al<|ae<|bu (ht J) (dh hx1)<|bf ?_;refine ac (ac (aI ?_));refine ai<|an<|zo rfl (dv)<|zo rfl (dv)<|zo rfl (dv)<|al<|aj ?_;cases so h;exact lF J J J J
    ·obtain⟨hx1,h⟩:=h
     refine av<|an<|zo J (eu J J)<|al<|ae<|bt (ht J) (dg hx1)<|dF<|ae<|ap<|an<|ax J<|aY J<|al<|an<|zo J (bj mg J J)<|ax J<|bM h fun r1 q_r1 h=>zo J (aH YE (Ul _ _ q_r1) ⟨(ht J),(ht J),bm⟩) ?_;refine zo J (dD (ht J))<|al<|cz h J (fun h=>?_) (fun h=>?_)
     ·refine an<|ax J<|aY J<|zo J (dv)<|zo J (dv)<|al<|aj ?_;refine am (aa (aa (am (aa ?_))));cases so h;exact lF J J J J
     ·refine aO<|af<|ai<|ah<|zo rfl (je (cx hx1 hN1) rfl)<|ax rfl<|aC ?_;exact aM (aJ (ih1 (i1+1) ⟨cw hx1,h⟩) (aQ J))
   ·obtain⟨hx,h⟩:=h
    refine av<|an<|zo J (eu J J)<|al<|ae<|bt (ht J) (dg hx)<|dF<|ae<|ap<|an<|ax J<|zo J (gM kE fN J J J (dl hx))<|zo J (bj fN J J)<|aZ (r:=bR) (x:=IT) fN (fun _=>mu _) J fun b=>aY J<|aE fN J ay J (ht J) (ht J)<|aW 8 J<|al<|ae ?_;refine ah<|zo J (bj fN J J)<|zo J (bj n9 J J)<|bM h fun r2 q_r2 h=>zo J (aH YF (Um _ _ q_r2) ⟨(ht J),(ht J),bm⟩)<|aY J<|al<|an<|ax J<|zo J (cS (ht J) hI)<|al<|cz h J (fun h=>?_) (fun h=>?_)
    ·refine an<|ax J<|ax J<|aY J<|aY J<|zo J (dv)<|al<|aj ?_;refine am (aa (aa (am (aa ?_))));cases so h;exact lF J J J J
    ·refine aO<|af<|ai<|ah<|zo rfl (je (cx hx hN) rfl)<|ax rfl<|aC ?_;exact aM (aJ (ih (i+1) ⟨cw hx,h⟩) (aQ J))

theorem Uw(a1:(List aS))(b:(List aS)){R:Bool}(h:pu a1 b=some R):bh be 18 [eV (aR) a1,eV (aR) b] (gD R):=by
 refine bh.of Tryz.func18 J J J fun w0 S0=>an<|zo J (ei)<|al<|ae<|an<|ax J<|zo J (fU kD J)<|ax J<|zo J (fU kD J)<|zo J (cA (ht J) (ht J))<|al<|cz h J (fun h=>?_) (fun h=>?_)
 ·refine an<|zo J (ei)<|al<|aj<|aa ?_;cases so h;exact aB J J
 ·refine dF<|ae<|an<|ax J<|zo J (fU kD J)<|zo J (bk hI)<|al<|ap<|aT (k:=11) J fun hN=>bE ?_;refine aJ (dB (Z:=fun ls i=>(a1.drop i=ls)∧ld b ls i=some R) (Of:=fun _ i=>[]) (Gf:=fun _ i=>[(0,eV (aR) a1),(1,eV (aR) b),(12,gA a1),(13,bY (i:Int))]) (fun i h=>?_) (fun e tl ih i h=>?_) a1 0 ⟨J,h⟩) (aQ J)
  ·obtain⟨hx,h⟩:=h
   refine av<|an<|zo J (eu J J)<|al<|ae<|bu (ht J) (dh hx)<|bf ?_;refine ac (ac (aI ?_));refine ai<|an<|zo rfl (ei)<|al<|aj ?_;cases so h;exact aB J J
  ·obtain⟨hx,h⟩:=h
   refine av<|an<|zo J (eu J J)<|al<|ae<|bt (ht J) (dg hx)<|dF<|ae<|ap<|an<|ax J<|aY J<|al<|ae<|bM h fun e1 q_e1 h=>bM h fun t q_t h=>?_
   obtain⟨r,h1t,h0t⟩:=og q_t
   have q_rg:=fun hb=>(h1t hb).1
   refine er (ts:=[_,_,_,_,_,_,_,_,_,_,_,_,_,_,_,_,_,_,_,_,_,_,_,_,_]) mixed J J
    ⟨ic 0 J J J (cq J),
    ⟨ic 5 J J J (cq J),
    ⟨eT 16 0 17 1 J J J J (gM kD cD J J J (dl hx)),
    ⟨dc 18 2 J J J (bw mM gi J J),
    ⟨dc 19 3 J J J (bj br J J),
    ⟨ic 1 J J J (cq J),
    ⟨ic 5 J J J (cq J),
    ⟨eT 21 5 22 6 J J J J (gM kD cD J J J q_e1),
    ⟨dc 23 7 J J J (bw mM gi J J),
    ⟨dc 24 8 J J J (bj br J J),
    ⟨eT 20 4 25 9 J J J J (cA (ht J) (ht J)),
    ⟨dc 26 10 J J J (cq J),
    ⟨jn 0 27 11 J J J J (d9 J J J J (fun hg=>cq J)),
    ⟨jn 5 27 11 J J J J (d9 J J J J (fun hg=>cq J)),
    ⟨mB 28 12 29 13 27 11 J J J J J (d9 J J J J (fun hg=>bW kD cD J (aG J hg) (aG J hg) (dl hx))),
    ⟨dR 30 14 27 11 J J J J (d9 J J J J (fun hg=>cR oQ J jt J (aG J hg))),
    ⟨dR 31 15 27 11 J J J J (d9 J J J J (fun hg=>aF bV J J (aG J hg))),
    ⟨jn 1 27 11 J J J J (d9 J J J J (fun hg=>cq J)),
    ⟨jn 5 27 11 J J J J (d9 J J J J (fun hg=>cq J)),
    ⟨mB 33 17 34 18 27 11 J J J J J (d9 J J J J (fun hg=>bW kD cD J (aG J hg) (aG J hg) q_e1)),
    ⟨dR 35 19 27 11 J J J J (d9 J J J J (fun hg=>cR oQ J jt J (aG J hg))),
    ⟨dR 36 20 27 11 J J J J (d9 J J J J (fun hg=>aF bV J J (aG J hg))),
    ⟨mB 32 16 37 21 27 11 J J J J J (d9 J J J J (fun hg=>aH Pm (Dm _ _ (q_rg hg)) ⟨(aG J hg),(aG J hg),bm⟩)),
    ⟨dR 38 22 27 11 J J J J (d9 J J J J (fun hg=>dD (aG J hg))),
    ⟨eT 27 11 39 23 J J J J (dY (ht J) (fun hb=>(aG J (mW hb))) (fun hb=>(h1t hb).2) h0t),
    bm⟩⟩⟩⟩⟩⟩⟩⟩⟩⟩⟩⟩⟩⟩⟩⟩⟩⟩⟩⟩⟩⟩⟩⟩⟩ ?_
   refine ai<|cz h rfl (fun h=>?_) (fun h=>?_)
   ·refine an<|zo J (ei)<|al<|aj ?_;refine am (aa (aa (am (aa ?_))));cases so h;exact aB J J
   ·refine aO<|af<|ai<|ah<|zo rfl (je (cx hx hN) rfl)<|ax rfl<|aC ?_;exact aM (aJ (ih (i+1) ⟨cw hx,h⟩) (aQ J))

theorem RZ(keys:(List Int))(col:Int){R:Int}(h:sM keys col=some R):bh be 100 [ji keys,bY col] (bY R):=by
 refine bh.of Tryz.func100 J J J fun w0 S0=>an<|zo J (dv)<|al<|ae<|an<|ax J<|zo J (fU cZ J)<|zo J (bk hI)<|al<|ap<|aT (k:=7) J fun hN=>bE ?_;refine aJ (dB (Z:=fun ls i=>(keys.drop i=ls)∧qm col ls i=some R) (Of:=fun _ i=>[]) (Gf:=fun _ i=>[(1,bY col),(7,ji keys),(8,gA keys),(9,bY (i:Int))]) (fun i h=>?_) (fun e tl ih i h=>?_) keys 0 ⟨J,h⟩) (aQ J)
 ·obtain⟨hx,h⟩:=h
  refine av<|an<|zo J (eu J J)<|al<|ae<|bu (ht J) (dh hx)<|bf ?_;refine ac (ac (aI ?_));refine ai<|an<|zo rfl (dv)<|al<|aj ?_;cases so h;exact aB J J
 ·obtain⟨hx,h⟩:=h
  refine av<|an<|zo J (eu J J)<|al<|ae<|bt (ht J) (dg hx)<|dF<|ae<|ap<|an<|ax J<|zo J (gM cZ br J J J (dl hx))<|zo J (bj br J J)<|aY J<|aY J<|al<|an<|ax J ?_;refine ax J<|zo J (bq (ht J) (ht J))<|al<|cz h J (fun h=>?_) (fun h=>?_)
  ·refine an<|ax J<|aY J<|al<|aj ?_;refine am (aa (aa (am (aa ?_))));cases so h;exact aB J J
  ·refine aO<|af<|ai<|ah<|zo rfl (je (cx hx hN) rfl)<|ax rfl<|aC ?_;exact aM (aJ (ih (i+1) ⟨cw hx,h⟩) (aQ J))

theorem RY(items:(List bp))(col:Int){R:Int}(h:rL items col=some R):bh be 101 [eV (bn) items,bY col] (bY R):=by
 refine bh.of Tryz.func101 J J J fun w0 S0=>an<|zo J (dv)<|al<|ae<|an<|ax J<|zo J (fU rD J)<|zo J (bk hI)<|al<|ap<|aT (k:=7) J fun hN=>bE ?_;refine aJ (dB (Z:=fun ls i=>(items.drop i=ls)∧om col ls i=some R) (Of:=fun _ i=>[]) (Gf:=fun _ i=>[(1,bY col),(7,eV (bn) items),(8,gA items),(9,bY (i:Int))]) (fun i h=>?_) (fun e tl ih i h=>?_) items 0 ⟨J,h⟩) (aQ J)
 ·obtain⟨hx,h⟩:=h
  refine av<|an<|zo J (eu J J)<|al<|ae<|bu (ht J) (dh hx)<|bf ?_;refine ac (ac (aI ?_));refine ai<|an<|zo rfl (dv)<|al<|aj ?_;cases so h;exact aB J J
 ·obtain⟨hx,h⟩:=h
  refine av<|an<|zo J (eu J J)<|al<|ae<|bt (ht J) (dg hx)<|dF<|ae<|ap<|an<|ax J<|zo J (gM rD fG J J J (dl hx))<|zo J (bj fG J J)<|aZ (r:=bn) (x:=se) fG (fun _=>qe _) J fun b=>aY J<|aE fG J ay J (ht J) (ht J)<|aW 6 J<|al<|ae ?_;refine ah<|zo J (bw d3 cU J J)<|zo J (bj jZ J J)<|zo J (fU pi J)<|zo J (eQ J)<|ax J<|bM h fun t q_t h=>bo J J (fun hg=>bw d3 cU J J)<|bo J J (fun hg=>aF jZ J J (aG J hg)) ?_
  obtain⟨e1,h1t,h0t⟩:=og q_t
  have q_e1g:=fun hb=>(h1t hb).1
  refine bo J J (fun hg=>bW pi dk J (aG J hg) hI (q_e1g hg))<|bo J J (fun hg=>cR iT J ez J (aG J hg))<|bo J J (fun hg=>aF br J J (aG J hg))<|bo J J (fun hg=>bq (aG J hg) hI)<|zo J (cu (ht J) (fun hb=>(aG J hb)) (fun hb=>(h1t hb).2) h0t)<|ax J<|bM h fun t1 q_t1 h=>bo J J (fun hg=>bw d3 cU J J)<|bo J J (fun hg=>aF jZ J J (aG J hg)) ?_
  obtain⟨e2,h1t1,h0t1⟩:=og q_t1
  have q_e2g:=fun hb=>(h1t1 hb).1
  refine bo J J (fun hg=>bW pi dk J (aG J hg) hI (q_e2g hg))<|bo J J (fun hg=>cR lD J fX J (aG J hg))<|bo J J (fun hg=>aF br J J (aG J hg))<|bo J J (fun hg=>cq J)<|bo J J (fun hg=>bq (aG J hg) (aG J hg))<|zo J (cu (ht J) (fun hb=>(aG J hb)) (fun hb=>(h1t1 hb).2) h0t1)<|al<|cz h J (fun h=>?_) (fun h=>?_)
  ·refine an<|ax J<|aY J<|al<|aj ?_;refine am (aa (aa (am (aa ?_))));cases so h;exact aB J J
  ·refine aO<|af<|ai<|ah<|zo rfl (je (cx hx hN) rfl)<|ax rfl<|aC ?_;exact aM (aJ (ih (i+1) ⟨cw hx,h⟩) (aQ J))

theorem Uk(n:aw)(p:aS){R:aS}(h:pT n p=some R):bh be 52 [tD aA n,tD aR p] (tD aR R):=by
 refine bh.of Tryz.func52 J J J fun w0 S0=>an<|zo J (lK J)<|zo J (lK J)<|aZ (r:=aR) (x:=vj) cD (fun _=>eo _) J fun b=>al<|ae<|an<|zo J (bw mM gi J J)<|zo J (bj br J J)<|zo J (uP J)<|al<|cz h J (fun h=>?_) (fun h=>?_)
 ·refine an<|zo J (bj cD J J)<|aE cD J ay J (ht J) (ht J)<|al<|aj<|aa<|eP 4 J ?_;cases so h;exact gz J cD J J J
 ·refine dF<|an<|cm true cC 3<|zo J (cI (y:=pZ (⟨(2:Int),[]⟩:aS) (aD none 0 (ny.length))) cD tI ED (⟨_,_,_,_,_,J,Hu,J,hI,J⟩))<|cm true cC 3<|aZ (r:=oW) (x:=pZ vj (aD none 0 (ny.length))) cD ED J fun b1=>fD<|cg<|dP cD J (iX J) J (ht J) (ht J)<|fD<|uo<|al<|ae<|an<|zo J (bw oQ jt J J)<|zo J (bj bV J J)<|zo J (fU cZ J)<|zo J (bk hI)<|al ?_;refine ap<|aT (k:=15) J fun hN=>bE<|dW<|dW<|ka ?_;refine aJ (tA (Z:=fun ls i x out l c=>(p.Cols.drop i=ls)∧iH n ls x out=some R) (Of:=fun _ i x out l c=>[bx aR 55 b x,bx oW 55 b1 (pZ out (aD l c out.Cols.length)),jx cC 3 l c out.Cols]) (Gf:=fun _ i x out l c=>[(2,bF aA n),(4,tV (aN b 0)),(5,tV (aN b1 0)),(15,ji p.Cols),(16,gA p.Cols),(17,bY (i:Int))]) (fun i x out l c h=>?_) (fun e tl ih i x out l c h=>?_) p.Cols 0 vj ({(⟨(2:Int),[]⟩:aS)with Cols:=ny}:aS) none 0 ⟨J,h⟩) (aQ J)
  ·obtain⟨hx,h⟩:=h
   refine av<|an<|zo J (eu J J)<|al<|ae<|bu (ht J) (dh hx)<|bf ?_;refine ac (ac (aI ?_));refine ai<|an<|fD<|zo rfl (nd (q:=aR) (y:=out) cD J J J J (.tail _ (.tail _ (.head _))) (fun _ _ _ ho h=>Dv (jl ho (.head _)) h) (ht J))<|cg<|aE cD J ay J (ht J) (ht J)<|al<|aj<|eP 4 J<|aX<|aX ?_;cases so h;exact gz J cD J J J
  ·obtain⟨hx,h⟩:=h
   refine av<|an<|zo J (eu J J)<|al<|ae<|bt (ht J) (dg hx)<|dF<|ae<|ap<|an<|zo J (gM cZ br J J J (dl hx))<|zo J (bj br J J)<|aY J<|al<|an<|zo J (bw jk dO J J)<|zo J (bj bV J J)<|ax J ?_;refine bM h fun r q_r h=>zo J (aH XB (RZ _ _ q_r) ⟨(ht J),(ht J),bm⟩)<|aY J<|al ?_;refine c0 (Z:=fun at1=>ol (iH n tl) x out at1=some R) (Of:=fun at1=>[bx aR 55 b x,bx oW 55 b1 (pZ out (aD l c out.Cols.length)),jx cC 3 l c out.Cols]) (Gf:=fun at1=>[(2,bF aA n),(4,tV (aN b 0)),(5,tV (aN b1 0)),(8,bY at1),(15,ji p.Cols),(16,gA p.Cols),(17,bY (i:Int))]) (fun at1 h=>?_) (fun K=>?_)
   ·skip
    refine ae<|an<|ax J<|zo J (eg (ht J) hI)<|al<|cz h J (fun h=>?_) (fun h=>?_)
    ·refine an<|zo J (cI (y:=xZ) cD tI eo (⟨_,_,_,_,_,J,fO,J,hI,J⟩))<|aE cD J ay J (ht J) (ht J)<|al<|aj ?_;refine aa (am (aa (aa (am (aa ?_)))));refine eP 4 J<|aX<|aX ?_;cases so h;exact gz J cD J J J
    ·refine dF<|ah<|zo J (fi 1 oQ J J J)<|zo J (j8 bV Ib (.tail _ (.head _)) (.tail _ (.tail _ (.head _))) J (ht J))<|ax J<|zo J (ba (r:=cC) (ys:=[at1]) (xs:=[.tmp 37]) cZ br J J J J J ⟨(ht J),bm⟩)<|fD<|bM h fun l1 q_l1 h=>pO br J J J J cZ J J (ht J) (ht J) q_l1 fun l2 c1=>zo J (fi 1 oQ J J J)<|fD<|dP bV J (xz _ _ _) J (ht J) (Bg (D8 (ht J)))<|aC<|af<|ai<|ah<|zo rfl (je (cx hx hN) rfl)<|ax rfl<|aC<|aU<|aU<|bc ?_;exact aM (aJ (ih (i+1) x ({out with Cols:=l1}:aS) l2 c1 ⟨cw hx,h⟩) (aQ J))
   ·skip
    refine an<|zo J (bw eh cj J J)<|zo J (bj br J J)<|zo J (eQ J)<|al<|cz h J (fun h=>?_) (fun h=>?_)
    ·refine ah<|zo J (bw rh nh J J)<|zo J (bj yW J J)<|ax J<|bM h fun r1 q_r1 h=>zo J (aH XA (RY _ _ q_r1) ⟨(ht J),(ht J),bm⟩)<|aY J<|aC ?_;exact bz (K r1 h) (aQ J)
    ·refine aO ?_;exact bz (K r h) (aQ J)

end Go.Proofs.YtmogpgcfognefaaGreatDoor

