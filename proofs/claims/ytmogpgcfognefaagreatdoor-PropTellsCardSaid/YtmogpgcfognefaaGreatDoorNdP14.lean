/- di of this claim: P14. -/
import Derived.Test.YtmogpgcfognefaaGreatDoorNdT
import Derived.Test.YtmogpgcfognefaaGreatDoorNdP13
set_option linter.all false
namespace Go.Proofs.YtmogpgcfognefaaGreatDoor
open Go
set_option maxRecDepth 100000

theorem QL(v:dQ){R:Bool}(h:t6 v=some R):bh be 300 [tD eJ v] (gD R):=by
 refine bh.of Tryz.func300 J J J fun w0 S0=>an<|zo J (lK J)<|zo J (ei)<|al<|an<|zo J (bj uS J J)<|bM h fun r q_r h=>zo J (aH Wf (QK _ q_r) ⟨(ht J),bm⟩)<|ax J<|bo J J (fun hg=>bw uD oO J J)<|bo J J (fun hg=>aF br J J (aG J hg))<|bo J J (fun hg=>cA (aG J hg) hI)<|zo J (hZ J J)<|aY J<|al<|aj ?_;cases so h;exact aB J J

theorem QN(n:bD){R:Bool}(h:lV n=some R):bh be 292 [tD aV n] (gD R):=by
 refine bh.of Tryz.func292 J J J fun w0 S0=>an<|zo J (lK J)<|zo J (ei)<|al<|ae<|an<|zo J (bw iT ez J J)<|zo J (bj br J J)<|al<|ap<|an<|zo J (eQ J)<|aY J<|al<|cz h J (fun h=>?_) (fun h=>?_)
 ·refine an<|zo J (bw sF lx J J)<|zo J (bj uS J J)<|bM h fun r q_r h=>zo J (aH Wg (QL _ q_r) ⟨(ht J),bm⟩)<|ax J<|bo J J (fun hg=>bw lD fX J J)<|bo J J (fun hg=>aF br J J (aG J hg))<|bo J J (fun hg=>bq (aG J hg) hI)<|zo J (hZ J J)<|aY J<|al<|aj ?_;refine am (aa ?_);cases so h;exact aB J J
 ·refine an<|zo J (eQ J)<|aY J<|al<|cz h J (fun h=>?_) (fun h=>?_)
  ·refine an<|zo J (bw sF lx J J)<|zo J (bj uS J J)<|zo J (cI (y:=xx) uS M2 rE (J))<|zo J (zl Nb (ht J) (ht J))<|ax J<|bo J J (fun hg=>bw lD fX J J)<|bo J J (fun hg=>aF br J J (aG J hg))<|bo J J (fun hg=>cS (aG J hg) hI)<|zo J (hZ J J)<|ax J<|bo J J (fun hg=>bw lD fX J J)<|bo J J (fun hg=>aF br J J (aG J hg))<|bo J J (fun hg=>eg (aG J hg) hI)<|zo J (hZ J J)<|aY J<|al<|aj ?_;refine am (aa ?_);cases so h;exact aB J J
  ·refine aO<|af<|ai<|an<|zo rfl (bw sF lx rfl rfl)<|zo rfl (bj uS rfl rfl)<|zo rfl (cI (y:=xx) uS M2 rE (J))<|zo J (zl Nb (ht J) (ht J))<|ax J<|bo J J (fun hg=>bw lD fX J J)<|bo J J (fun hg=>aF br J J (aG J hg))<|bo J J (fun hg=>bq (aG J hg) hI)<|zo J (hZ J J)<|aY J<|al<|aj ?_;cases so h;exact aB J J

theorem OW: ∀(fu:Nat) (e:bp) (place:Int) {R:Int} (h:iL fu e place=some R),bh be 277 [tD bn e,bY place] (bY R):=by
 intro fu
 induction fu with
 |zero=>intro e place R h;exact(nn h).elim
 |succ fu ih=>
  intro e place R h
  refine bh.of Tryz.func277 J J J fun w0 S0=>an<|zo J (lK J)<|zo J (dv)<|al<|ae<|an<|ax J<|zo J (eg (ht J) hI)<|ax J<|bX J J (fun hg=>cq J)<|bX J J (fun hg=>bw d3 cU J J)<|bX J J (fun hg=>aF jZ J J (aG J hg))<|bX J J (fun hg=>bg pi (aG J hg))<|bX J J (fun hg=>cS (aG J hg) (aG J hg))<|zo J (lH J J)<|al<|cz h J (fun h=>?_) (fun h=>?_)
  ·refine an<|zo J (dv)<|al<|aj<|aa ?_;cases so h;exact aB J J
  ·refine dF<|an<|zo J (bw d3 cU J J)<|zo J (bj jZ J J)<|ax J<|bM h fun e1 q_e1 h=>zo J (gM pi dk J J J q_e1)<|zo J (bj dk J J)<|aZ (r:=aV) (x:=D4) dk (fun _=>kX _) J fun b=>aE dk J ay J (ht J) (ht J)<|aW 5 J<|al<|an<|zo J (bw iT ez J J)<|zo J (bj br J J)<|bM h fun r q_r h=>zo J (aH Wj (QO _ q_r) ⟨(ht J),bm⟩)<|aY J<|al ?_;refine ae<|an<|ax J<|zo J (eg (ht J) hI)<|ax J<|bM h fun t q_t h=>bX J J (fun hg=>bj dk J J) ?_
   obtain⟨r1,h1t,h0t⟩:=og q_t
   have q_r1g:=fun hb=>(h1t hb).1
   refine bX J J (fun hg=>aH Wi (QN _ (q_r1g hg)) ⟨(aG J hg),bm⟩)<|bX J J (fun hg=>dD (aG J hg))<|zo J (dY (ht J) (fun hb=>(aG J (mW hb))) (fun hb=>(h1t hb).2) h0t)<|al<|cz h J (fun h=>?_) (fun h=>?_)
   ·refine an<|zo J (dv)<|al<|aj<|aa ?_;cases so h;exact aB J J
   ·refine dF<|ae<|an<|ax J<|zo J (eQ J)<|al<|cz h J (fun h=>?_) (fun h=>?_)
    ·refine ae<|an<|zo J (bw nZ mq J J)<|zo J (bj br J J)<|zo J (uP J)<|ax J<|bX J J (fun hg=>bw ni ly J J)<|bX J J (fun hg=>aF br J J (aG J hg))<|bX J J (fun hg=>cA (aG J hg) hI)<|zo J (lH J J)<|al<|cz h J (fun h=>?_) (fun h=>?_)
     ·refine an<|zo J (dv)<|al<|aj ?_;refine aa (aa ?_);cases so h;exact aB J J
     ·refine dF<|an<|zo J (dv)<|al<|aj<|aa ?_;cases so h;exact aB J J
    ·refine dF<|an<|zo J (bj fG J J)<|ax J<|zo J (dn (ht J) hI)<|bM h fun r2 q_r2 h=>zo J (aH Pk (ih _ _ q_r2) ⟨(ht J),(ht J),bm⟩)<|aY J<|al<|ae<|an<|ax J<|zo J (eQ J)<|al<|cz h J (fun h=>?_) (fun h=>?_)
     ·refine an<|zo J (dv)<|al<|aj<|aa ?_;cases so h;exact aB J J
     ·refine dF<|ae<|an<|ax J<|zo J (eQ J)<|al<|cz h J (fun h=>?_) (fun h=>?_)
      ·refine ae<|an<|zo J (bw nZ mq J J)<|zo J (bj br J J)<|ax J<|zo J (dn (ht J) hI)<|zo J (cA (ht J) (ht J))<|ax J<|bX J J (fun hg=>bw ni ly J J)<|bX J J (fun hg=>aF br J J (aG J hg))<|bX J J (fun hg=>cA (aG J hg) hI)<|zo J (lH J J)<|al<|cz h J (fun h=>?_) (fun h=>?_)
       ·refine an<|zo J (dv)<|al<|aj ?_;refine aa (aa ?_);cases so h;exact aB J J
       ·refine dF<|an<|ax J<|zo J (fm (ht J) hI)<|aY J<|al<|aj<|aa ?_;cases so h;exact aB J J
      ·refine dF<|an<|zo J (bj fG J J)<|ax J<|zo J (dn (ht J) hI)<|ax J<|zo J (dn (ht J) (ht J))<|bM h fun r3 q_r3 h=>zo J (aH Pk (ih _ _ q_r3) ⟨(ht J),(ht J),bm⟩)<|aY J<|al<|ae<|an<|ax J<|zo J (eQ J)<|ax J<|bX J J (fun hg=>bw ni ly J J)<|bX J J (fun hg=>aF br J J (aG J hg))<|bX J J (fun hg=>cq J)<|bX J J (fun hg=>dn (aG J hg) hI) ?_;refine bX J J (fun hg=>cA (aG J hg) (aG J hg))<|zo J (lH J J)<|ax J<|bX J J (fun hg=>bw nZ mq J J)<|bX J J (fun hg=>aF br J J (aG J hg))<|bX J J (fun hg=>cq J)<|bX J J (fun hg=>dn (aG J hg) hI)<|bX J J (fun hg=>cq J)<|bX J J (fun hg=>dn (aG J hg) (aG J hg))<|bX J J (fun hg=>cA (aG J hg) (aG J hg))<|zo J (lH J J)<|al<|cz h J (fun h=>?_) (fun h=>?_)
       ·refine an<|zo J (dv)<|al<|aj<|aa ?_;cases so h;exact aB J J
       ·refine dF<|an<|ax J<|ax J<|zo J (fm (ht J) (ht J))<|zo J (fm (ht J) hI)<|aY J<|al<|aj ?_;cases so h;exact aB J J
theorem QQ(e:bp)(place:Int){R:Int}(h:yn e place=some R):bh be 277 [tD bn e,bY place] (bY R):=OW gK e place h

theorem QV(e:bp){R:Bool}(h:tX e=some R):bh be 254 [tD bn e] (gD R):=by
 refine bh.of Tryz.func254 J J J fun w0 S0=>an<|zo J (lK J)<|zo J (ei)<|al<|ae<|bM h fun t q_t h=>?_
 obtain⟨r,h1t,h0t⟩:=og q_t
 have q_rg:=fun hb=>(h1t hb).1
 refine er (ts:=[_,_,_,_,_,_,_,_,_,_,_,_,_,_,_,_,_,_,_,_,_,_,_]) mixed J J
  ⟨ic 1 J J J (bw d3 cU J J),
  ⟨dc 3 0 J J J (bj jZ J J),
  ⟨dc 4 1 J J J (fU pi J),
  ⟨dc 5 2 J J J (cS (ht J) hI),
  ⟨dc 6 3 J J J (cq J),
  ⟨jn 1 7 4 J J J J (bP J J J J (fun hg=>bw d3 cU J J)),
  ⟨dR 8 5 7 4 J J J J (bP J J J J (fun hg=>aF jZ J J (aG J hg))),
  ⟨dR 9 6 7 4 J J J J (bP J J J J (fun hg=>bg pi (aG J hg))),
  ⟨dR 10 7 7 4 J J J J (bP J J J J (fun hg=>fM (aG J hg) hI)),
  ⟨eT 7 4 11 8 J J J J (hZ J J),
  ⟨dc 12 9 J J J (cq J),
  ⟨jn 1 13 10 J J J J (bP J J J J (fun hg=>bj fG J J)),
  ⟨jn 1 13 10 J J J J (bP J J J J (fun hg=>bw d3 cU J J)),
  ⟨dR 15 12 13 10 J J J J (bP J J J J (fun hg=>aF jZ J J (aG J hg))),
  ⟨dR 16 13 13 10 J J J J (bP J J J J (fun hg=>bg pi (aG J hg))),
  ⟨dR 17 14 13 10 J J J J (bP J J J J (fun hg=>dn (aG J hg) hI)),
  ⟨mB 14 11 18 15 13 10 J J J J J (bP J J J J (fun hg=>aH Pk (QQ _ _ (q_rg hg)) ⟨(aG J hg),(aG J hg),bm⟩)),
  ⟨jn 1 13 10 J J J J (bP J J J J (fun hg=>bw d3 cU J J)),
  ⟨dR 20 17 13 10 J J J J (bP J J J J (fun hg=>aF jZ J J (aG J hg))),
  ⟨dR 21 18 13 10 J J J J (bP J J J J (fun hg=>bg pi (aG J hg))),
  ⟨mB 19 16 22 19 13 10 J J J J J (bP J J J J (fun hg=>bq (aG J hg) (aG J hg))),
  ⟨eT 13 10 23 20 J J J J (cu (ht J) (fun hb=>(aG J hb)) (fun hb=>(h1t hb).2) h0t),
  ⟨dc 24 21 J J J (yG J),
  bm⟩⟩⟩⟩⟩⟩⟩⟩⟩⟩⟩⟩⟩⟩⟩⟩⟩⟩⟩⟩⟩⟩⟩ ?_
 refine ai<|aj ?_;cases so h;exact aB J J

theorem B6(k:Int)(want:Int){R:Bool}(h:pG k want=some R):bh be 278 [bY k,bY want] (gD R):=by
 refine bh.of Tryz.func278 J J J fun w0 S0=>an<|zo J (ei)<|al<|an<|ax J<|ax J<|zo J (bq (ht J) (ht J))<|ax J<|bX J J (fun hg=>cq J)<|bX J J (fun hg=>bq (aG J hg) hI)<|zo J (lH J J)<|aY J<|al<|aj ?_;cases so h;exact aB J J

theorem QU(tag:Int)(l:Int)(r:Int){R:Int×Bool}(h:q6 tag l r=some R):bh be 255 [bY tag,bY l,bY r] (tT [bY R.1,gD R.2]):=by
 refine bh.of Tryz.func255 J J J fun w0 S0=>an<|zo J (dv)<|zo J (ei)<|al<|ae<|ap<|an<|ax J<|zo J (eQ J)<|ax J<|bX J J (fun hg=>cq J)<|bX J J (fun hg=>cS (aG J hg) hI)<|bX J J (fun hg=>bk (aG J hg))<|dm J J J J (fun hg=>cq J)<|dm J J J J (fun hg=>fM (aG J hg) hI)<|bX J J (fun hg=>iP (aG J hg) (fun hb=>(aG J (oa hg hb))))<|zo J (lH J J)<|aY J<|al ?_;refine cz h J (fun h=>?_) (fun h=>?_)
 ·refine an<|ax J<|bM h fun r1 q_r1 h=>zo J (aH Ly (B6 _ _ q_r1) ⟨(ht J),hI,bm⟩)<|ax J<|bM h fun t q_t h=>bo J J (fun hg=>cq J) ?_
  obtain⟨r2,h1t,h0t⟩:=og q_t
  have q_r2g:=fun hb=>(h1t hb).1
  refine bo J J (fun hg=>aH Ly (B6 _ _ (q_r2g hg)) ⟨(aG J hg),hI,bm⟩)<|zo J (cu (ht J) (fun hb=>(aG J hb)) (fun hb=>(h1t hb).2) h0t)<|zo J (dv)<|aY J<|al<|aj ?_;refine am (aa ?_);cases so h;exact cy J J J
 ·refine an<|ax J<|zo J (eQ J)<|ax J<|bX J J (fun hg=>cq J)<|bX J J (fun hg=>cS (aG J hg) hI)<|zo J (lH J J)<|aY J<|al<|cz h J (fun h=>?_) (fun h=>?_)
  ·refine an<|ax J<|bM h fun r3 q_r3 h=>zo J (aH Ly (B6 _ _ q_r3) ⟨(ht J),hI,bm⟩)<|ax J<|bM h fun t1 q_t1 h=>bo J J (fun hg=>cq J) ?_
   obtain⟨r4,h1t1,h0t1⟩:=og q_t1
   have q_r4g:=fun hb=>(h1t1 hb).1
   refine bo J J (fun hg=>aH Ly (B6 _ _ (q_r4g hg)) ⟨(aG J hg),hI,bm⟩)<|zo J (cu (ht J) (fun hb=>(aG J hb)) (fun hb=>(h1t1 hb).2) h0t1)<|zo J (dv)<|aY J<|al<|aj ?_;refine am (aa ?_);cases so h;exact cy J J J
  ·refine an<|ax J<|zo J (eQ J)<|ax J<|bX J J (fun hg=>cq J)<|bX J J (fun hg=>bq (aG J hg) hI)<|zo J (lH J J)<|aY J<|al<|cz h J (fun h=>?_) (fun h=>?_)
   ·refine an<|zo J (dv)<|zo J (ei)<|al<|aj ?_;refine am (aa ?_);cases so h;exact cy J J J
   ·refine aO<|af<|ai<|an<|ax rfl<|ax rfl<|zo rfl (bq (ht rfl) (ht rfl))<|ax rfl<|bX rfl rfl (fun hg=>cq J)<|bX J J (fun hg=>bq (aG J hg) hI)<|zo J (lH J J)<|ax J<|bX J J (fun hg=>cq J)<|bX J J (fun hg=>bq (aG J hg) hI)<|zo J (lH J J)<|zo J (dv)<|aY J<|al<|aj ?_;cases so h;exact cy J J J

theorem Gz(e:bp)(kinds:(List Int)){R:Int×Int}(h:q7 e kinds=some R):bh be 225 [tD bn e,ji kinds] (tT [bY R.1,bY R.2]):=by
 refine bh.of Tryz.func225 J J J fun w0 S0=>an<|zo J (lK J)<|zo J (dv)<|zo J (dv)<|al<|ae<|an<|zo J (bj fG J J)<|bM h fun r q_r h=>zo J (aH Wp (QV _ q_r) ⟨(ht J),bm⟩)<|zo J (dD (ht J))<|al<|cz h J (fun h=>?_) (fun h=>?_)
 ·refine an<|zo J (dv)<|zo J (dv)<|al<|aj<|aa ?_;cases so h;exact cy J J J
 ·refine dF<|ae<|an<|ax J<|zo J (fU cZ J)<|zo J (bk hI)<|al<|ap<|aT (k:=20) J fun hN=>bE ?_;refine aJ (dB (Z:=fun ls i=>(kinds.drop i=ls)∧pl e kinds ls=some R) (Of:=fun _ i=>[]) (Gf:=fun _ i=>[(1,ji kinds),(2,bF bn e),(20,ji kinds),(21,gA kinds),(22,bY (i:Int))]) (fun i h=>?_) (fun e1 tl ih i h=>?_) kinds 0 ⟨J,h⟩) (aQ J)
  ·obtain⟨hx,h⟩:=h
   refine av<|an<|zo J (eu J J)<|al<|ae<|bu (ht J) (dh hx)<|bf ?_;refine ac (ac (aI ?_));refine ai<|ae<|an<|zo rfl (bw d3 cU rfl rfl)<|zo rfl (bj jZ rfl rfl)<|zo rfl (fU pi rfl)<|zo rfl (bk hI)<|al<|ap<|aT (k:=34) J fun hN1=>bE ?_;refine aJ (dB (Z:=fun ls1 i1=>(e.Nodes.drop i1=ls1)∧nG e kinds ls1=some R) (Of:=fun _ i1=>[]) (Gf:=fun _ i1=>[(1,ji kinds),(2,bF bn e),(34,eV (aV) e.Nodes),(35,gA e.Nodes),(36,bY (i1:Int))]) (fun i1 h=>?_) (fun e2 tl1 ih1 i1 h=>?_) e.Nodes 0 ⟨J,h⟩) (aQ J)
   ·obtain⟨hx1,h⟩:=h
    refine av<|an<|zo J (eu J J)<|al<|ae<|bu (ht J) (dh hx1)<|bf ?_;refine ac (ac (aI ?_));refine ai<|an<|cm false cC 3<|zo rfl (aP tE)<|al<|ae<|an<|zo rfl (bw d3 cU rfl rfl)<|zo rfl (bj jZ rfl rfl)<|zo rfl (fU pi rfl)<|zo rfl (bk hI)<|al<|ap<|aT (k:=52) J fun hN2=>bE ?_;refine aJ (me (Z:=fun ls2 i2 own l c=>(e.Nodes.drop i2=ls2)∧dG kinds ls2 own=some R) (Of:=fun _ i2 own l c=>[cY cC 3 l c own]) (Gf:=fun _ i2 own l c=>[(1,ji kinds),(10,mU l c own),(52,eV (aV) e.Nodes),(53,gA e.Nodes),(54,bY (i2:Int))]) (fun i2 own l c h=>?_) (fun e3 tl2 ih2 i2 own l c h=>?_) e.Nodes 0 ny none 0 ⟨J,h⟩) (aQ J)
    ·obtain⟨hx2,h⟩:=h
     refine av<|an<|zo J (eu J J)<|al<|ae<|bu (ht J) (dh hx2)<|bf ?_;refine ac (ac (aI ?_));refine ai<|an<|ax rfl<|ax rfl<|zo rfl (fc cZ (.head _) (ht rfl))<|zo rfl (dn (ht rfl) hI)<|bM h fun e4 q_e4 h=>zo J (bT cZ br (.head _) (ht J) (ht J) q_e4)<|zo J (dj (r:=cC) (i:=(IntKind.i64.wrap ((own.length:Int)-(1:Int)))) (foff:=0) br J J bO J (.head _) q_e4 (ht J))<|aY J<|zo J (dv)<|al<|aj<|aX ?_;cases so h;exact cy J J J
    ·obtain⟨hx2,h⟩:=h
     refine av<|an<|zo J (eu J J)<|al<|ae<|bt (ht J) (dg hx2)<|dF<|ae<|ap<|an<|zo J (gM pi dk J J J (dl hx2))<|zo J (bj dk J J)<|aZ (r:=aV) (x:=D4) dk (fun _=>kX _) J fun b=>aE dk J ay J (ht J) (ht J)<|aW 12 J<|al<|ap<|an ?_;refine zo J (bw iT ez J J)<|zo J (bj br J J)<|zo J (eQ J)<|aY J<|al<|cz h J (fun h=>?_) (fun h=>?_)
     ·refine ah<|ax J<|zo J (bw sF lx J J)<|zo J (bw uD oO J J)<|zo J (bj br J J)<|zo J (ba (r:=cC) (ys:=[e3.Value.Kind]) (xs:=[.tmp 92]) cZ br J J J J J ⟨(ht J),bm⟩)<|bM h fun own1 q_own1 h=>cn br J J J J cZ J J (ht J) (ht J) q_own1 fun l1 c1=>aY J<|aC<|af<|af<|ai<|ah<|zo rfl (je (cx hx2 hN2) rfl)<|ax rfl<|aC ?_;exact aM (aJ (ih2 (i2+1) own1 l1 c1 ⟨cw hx2,h⟩) (aQ J))
     ·refine an<|zo J (bw iT ez J J)<|zo J (bj br J J)<|zo J (eQ J)<|aY J<|al<|cz h J (fun h=>?_) (fun h=>?_)
      ·refine ah<|ax J<|ax J<|zo J (bw lD fX J J)<|zo J (bj br J J)<|bM h fun e5 q_e5 h=>zo J (gM cZ br J J J q_e5)<|zo J (bj br J J)<|zo J (ba (r:=cC) (ys:=[e5]) (xs:=[.tmp 104]) cZ br J J J J J ⟨(ht J),bm⟩)<|bM h fun own2 q_own2 h=>cn br J J J J cZ J J (ht J) (ht J) q_own2 fun l2 c2=>aY J<|aC<|af<|af<|ai<|ah<|zo rfl (je (cx hx2 hN2) rfl)<|ax rfl<|aC ?_;exact aM (aJ (ih2 (i2+1) own2 l2 c2 ⟨cw hx2,h⟩) (aQ J))
      ·refine an<|ax J<|zo J (bw nZ mq J J)<|zo J (bj br J J)<|bM h fun e6 q_e6 h=>zo J (bT cZ br (.head _) (ht J) (ht J) q_e6)<|zo J (dj (r:=cC) (i:=e3.L) (foff:=0) br J J bO J (.head _) q_e6 (ht J))<|aY J<|zo J (dv)<|al ?_;refine c0 (Z:=fun r1=>pm (dG kinds tl2) e3 own e6 r1=some R) (Of:=fun r1=>[cY cC 3 l c own]) (Gf:=fun r1=>[(1,ji kinds),(10,mU l c own),(12,bF aV e3),(13,bY e6),(14,bY r1),(52,eV (aV) e.Nodes),(53,gA e.Nodes),(54,bY (i2:Int))]) (fun r1 h=>?_) (fun K=>?_)
       ·skip
        refine an<|zo J (bw iT ez J J)<|zo J (bj br J J)<|ax J<|ax J<|bM h fun r2 q_r2 h=>zo J (aH Wo (QU _ _ _ q_r2) ⟨(ht J),(ht J),(ht J),bm⟩)<|ax J<|zo J (iA J J)<|zo J (iA J J)<|aY J<|aY J<|al<|ae<|an<|ax J<|zo J (dD (ht J))<|al<|cz h J (fun h=>?_) (fun h=>?_)
        ·refine an<|zo J (dv)<|zo J (dv)<|al<|aj ?_;refine aa (am (am (aa (aa (am (aa ?_))))));refine aX ?_;cases so h;exact cy J J J
        ·refine dF<|ah<|ax J<|ax J<|zo J (ba (r:=cC) (ys:=[r2.1]) (xs:=[.tmp 82]) cZ br J J J J J ⟨(ht J),bm⟩)<|bM h fun own3 q_own3 h=>cn br J J J J cZ J J (ht J) (ht J) q_own3 fun l3 c3=>aY J<|aC<|af<|af<|ai<|ah<|zo rfl (je (cx hx2 hN2) rfl)<|ax rfl<|aC ?_;exact aM (aJ (ih2 (i2+1) own3 l3 c3 ⟨cw hx2,h⟩) (aQ J))
       ·skip
        refine an<|zo J (bw ni ly J J)<|zo J (bj br J J)<|zo J (cS (ht J) hI)<|al<|cz h J (fun h=>?_) (fun h=>?_)
        ·refine ah<|ax J<|zo J (bw ni ly J J)<|zo J (bj br J J)<|bM h fun e7 q_e7 h=>zo J (bT cZ br (.head _) (ht J) (ht J) q_e7)<|zo J (dj (r:=cC) (i:=e3.R) (foff:=0) br J J bO J (.head _) q_e7 (ht J))<|aY J<|aC ?_;exact bz (K e7 h) (aQ J)
        ·refine aO ?_;exact bz (K (0:Int) h) (aQ J)
   ·obtain⟨hx1,h⟩:=h
    refine av<|an<|zo J (eu J J)<|al<|ae<|bt (ht J) (dg hx1)<|dF<|ae<|ap<|an<|zo J (gM pi dk J J J (dl hx1))<|zo J (bj dk J J)<|aZ (r:=aV) (x:=D4) dk (fun _=>kX _) J fun b1=>aE dk J ay J (ht J) (ht J)<|aW 9 J<|al<|an<|zo J (bw iT ez J J) ?_;refine zo J (bj br J J)<|zo J (eQ J)<|ax J<|bo J J (fun hg=>bw lD fX J J)<|bo J J (fun hg=>aF br J J (aG J hg))<|bo J J (fun hg=>cq J)<|bo J J (fun hg=>bg cZ (aG J hg))<|bo J J (fun hg=>cS (aG J hg) (aG J hg))<|zo J (hZ J J)<|al<|cz h J (fun h=>?_) (fun h=>?_)
    ·refine an<|zo J (dv)<|zo J (dv)<|al<|aj ?_;refine am (aa (aa (am (aa ?_))));cases so h;exact cy J J J
    ·refine aO<|af<|ai<|ah<|zo rfl (je (cx hx1 hN1) rfl)<|ax rfl<|aC ?_;exact aM (aJ (ih1 (i1+1) ⟨cw hx1,h⟩) (aQ J))
  ·obtain⟨hx,h⟩:=h
   refine av<|an<|zo J (eu J J)<|al<|ae<|bt (ht J) (dg hx)<|dF<|ae<|ap<|an<|zo J (gM cZ br J J J (dl hx))<|zo J (bj br J J)<|aY J<|al<|an<|ax J<|zo J (eg (ht J) hI)<|ax J ?_;refine bX J J (fun hg=>cq J)<|bX J J (fun hg=>dZ (aG J hg) hI)<|zo J (lH J J)<|al<|cz h J (fun h=>?_) (fun h=>?_)
   ·refine an<|zo J (dv)<|zo J (dv)<|al<|aj ?_;refine am (aa (aa (am (aa ?_))));cases so h;exact cy J J J
   ·refine aO<|af<|ai<|ah<|zo rfl (je (cx hx hN) rfl)<|ax rfl<|aC ?_;exact aM (aJ (ih (i+1) ⟨cw hx,h⟩) (aQ J))

theorem Li(e:bp)(kinds:(List Int)){R:Bool}(h:rN e kinds=some R):bh be 223 [tD bn e,ji kinds] (gD R):=by
 refine bh.of Tryz.func223 J J J fun w0 S0=>an<|zo J (lK J)<|zo J (ei)<|al<|an<|zo J (bj fG J J)<|ax J<|bM h fun r q_r h=>zo J (aH Pn (Gz _ _ q_r) ⟨(ht J),(ht J),bm⟩)<|ax J<|zo J (iA J J)<|zo J (iA J J)<|aY J<|aY J<|al<|an<|ax J<|zo J (eQ J) ?_;refine ax J<|bo J J (fun hg=>cq J)<|bo J J (fun hg=>bq (aG J hg) hI)<|bo J J (fun hg=>bk (aG J hg))<|ck J J J J (fun hg=>cq J)<|ck J J J J (fun hg=>bq (aG J hg) hI)<|bo J J (fun hg=>j7 (aG J hg) (fun hb=>(aG J (oa hg (mW hb)))))<|zo J (hZ J J)<|aY J<|al<|aj ?_;cases so h;exact aB J J

theorem Q6(a1:gm)(kinds:(List Int)){R:Int×Bool}(h:lM a1 kinds=some R):bh be 224 [tD dz a1,ji kinds] (tT [bY R.1,gD R.2]):=by
 refine bh.of Tryz.func224 J J J fun w0 S0=>an<|zo J (lK J)<|zo J (dv)<|zo J (ei)<|al<|ae<|an<|zo J (bw kJ iR J J)<|zo J (bj br J J)<|zo J (eQ J)<|al<|cz h J (fun h=>?_) (fun h=>?_)
 ·refine ae ?_
  refine er (ts:=[_,_,_,_,_,_,_]) mixed J J
   ⟨ic 2 J J J (bw ry qH J J),
   ⟨dc 11 0 J J J (bw d3 cU J J),
   ⟨dc 12 1 J J J (bj jZ J J),
   ⟨dc 13 2 J J J (fU pi J),
   ⟨dc 14 3 J J J (eQ J),
   ⟨zd0 J J (dv),
   ⟨dc 15 4 J J J (yG J),
   bm⟩⟩⟩⟩⟩⟩⟩ ?_
  refine ai<|aj<|aa ?_;cases so h;exact cy J J J
 ·refine dF<|an<|zo J (bw ry qH J J)<|zo J (bj fG J J)<|ax J<|bM h fun r q_r h=>zo J (aH Pn (Gz _ _ q_r) ⟨(ht J),(ht J),bm⟩)<|ax J<|zo J (iA J J)<|zo J (iA J J)<|aY J<|aY J<|al<|ae<|an<|zo J (bw kJ iR J J)<|zo J (bj br J J)<|zo J (eg (ht J) hI)<|ax J<|bX J J (fun hg=>bw kJ iR J J) ?_;refine bX J J (fun hg=>aF br J J (aG J hg))<|bX J J (fun hg=>dZ (aG J hg) hI)<|zo J (lH J J)<|ax J<|bX J J (fun hg=>cq J)<|bX J J (fun hg=>cA (aG J hg) hI)<|zo J (lH J J)<|al<|cz h J (fun h=>?_) (fun h=>?_)
  ·refine an<|zo J (dv)<|zo J (ei)<|al<|aj<|aa ?_;cases so h;exact cy J J J
  ·refine dF<|ae<|an<|zo J (bw kJ iR J J)<|zo J (bj br J J)<|zo J (eQ J)<|ax J<|bo J J (fun hg=>cq J)<|bo J J (fun hg=>cA (aG J hg) hI)<|zo J (hZ J J)<|ax J<|bo J J (fun hg=>cq J)<|bo J J (fun hg=>cA (aG J hg) hI)<|zo J (hZ J J)<|al<|cz h J (fun h=>?_) (fun h=>?_)
   ·refine an<|zo J (dv)<|zo J (ei)<|al<|aj<|aa ?_;cases so h;exact cy J J J
   ·refine dF<|ae<|an<|zo J (bw kJ iR J J)<|zo J (bj br J J)<|zo J (cS (ht J) hI)<|al<|cz h J (fun h=>?_) (fun h=>?_)
    ·refine an<|ax J<|aY J<|zo J (ei)<|al<|aj<|aa ?_;cases so h;exact cy J J J
    ·refine dF<|an<|zo J (dv)<|zo J (ei)<|al<|aj ?_;cases so h;exact cy J J J

theorem Rt(n:aw)(a1:(List Int))(b:(List Int)){R:(List Int)×Bool}(h:cX n a1 b=some R):bh be 168 [tD aA n,ji a1,ji b] (tT [ji R.1,gD R.2]):=by
 refine bh.of Tryz.func168 J J J fun w0 S0=>an<|zo J (lK J)<|zo J (aP (show aL _ _ _ pD from lJ))<|zo J (ei)<|al<|an<|cm false cC 3<|zo J (aP tE)<|al<|an<|zo J (ei)<|al<|ae<|an<|zo J (bw eh cj J J)<|zo J (bj br J J) ?_;refine al<|ap<|an<|zo J (eQ J)<|aY J<|al<|cz h J (fun h=>?_) (fun h=>?_)
 ·refine ae<|an<|zo J (dv)<|al<|ap<|bE<|pB ?_;refine aJ (GV (Z:=fun n1 ok i=>iK n n1 ok i=some R) (Of:=fun ok i=>[]) (Gf:=fun ok i=>[(3,bF aA n),(9,gD ok),(10,bY i)]) (fun ok i h=>nn h) (fun n1 ih ok i h=>?_) gK true (0:Int) h) (aQ J);refine av<|ae<|an<|ax J<|zo J (bw jV d7 J J)<|zo J (bj bV J J)<|zo J (fU cZ J)<|zo J (eu J J)<|al<|cz h J (fun h=>?_) (fun h=>?_)
  ·refine dF<|ae<|ap<|ah<|ax J<|ax J<|bM h fun t q_t h=>bo J J (fun hg=>bw jV d7 J J)<|bo J J (fun hg=>aF bV J J (aG J hg))<|bo J J (fun hg=>cq J) ?_
   obtain⟨e,h1t,h0t⟩:=og q_t
   have q_eg:=fun hb=>(h1t hb).1
   refine bo J J (fun hg=>bW cZ br J (aG J hg) (aG J hg) (q_eg hg))<|bo J J (fun hg=>aF br J J (aG J hg))<|bo J J (fun hg=>cS (aG J hg) hI)<|zo J (cu (ht J) (fun hb=>(aG J hb)) (fun hb=>(h1t hb).2) h0t)<|ax J<|bM h fun t1 q_t1 h=>bo J J (fun hg=>bw jV d7 J J)<|bo J J (fun hg=>aF bV J J (aG J hg))<|bo J J (fun hg=>cq J) ?_
   obtain⟨e1,h1t1,h0t1⟩:=og q_t1
   have q_e1g:=fun hb=>(h1t1 hb).1
   refine bo J J (fun hg=>bW cZ br J (aG J hg) (aG J hg) (q_e1g hg))<|bo J J (fun hg=>aF br J J (aG J hg))<|bo J J (fun hg=>fM (aG J hg) hI)<|zo J (cu (ht J) (fun hb=>(aG J hb)) (fun hb=>(h1t1 hb).2) h0t1)<|aY J<|aC<|af<|ai<|ah<|ax rfl<|zo rfl (fm (ht rfl) hI)<|aY rfl<|aC ?_;exact aM (aJ (ih t1 (IntKind.i64.wrap (i+(1:Int))) h) (aQ J))
  ·refine bf ?_;refine ac (ac (aI ?_));refine ai<|ae ?_
   refine er (ts:=[_,_,_,_,_,_,_,_,_,_,_,_,_,_,_,_,_,_,_,_,_,_,_,_,_,_,_]) mixed J J
    ⟨ic 3 J J J (bw jV d7 J J),
    ⟨dc 49 0 J J J (bj bV J J),
    ⟨ic 9 J J J (cq J),
    ⟨dc 51 2 J J J (cq J),
    ⟨jn 3 52 3 J J J J (bP J J J J (fun hg=>bw kj d8 J J)),
    ⟨dR 53 4 52 3 J J J J (bP J J J J (fun hg=>aF br J J (aG J hg))),
    ⟨dR 54 5 52 3 J J J J (bP J J J J (fun hg=>cS (aG J hg) hI)),
    ⟨eT 52 3 55 6 J J J J (hZ J J),
    ⟨dc 56 7 J J J (cq J),
    ⟨jn 3 57 8 J J J J (bP J J J J (fun hg=>bw kj d8 J J)),
    ⟨dR 58 9 57 8 J J J J (bP J J J J (fun hg=>aF br J J (aG J hg))),
    ⟨dR 59 10 57 8 J J J J (bP J J J J (fun hg=>fM (aG J hg) hI)),
    ⟨eT 57 8 60 11 J J J J (hZ J J),
    ⟨dc 61 12 J J J (cq J),
    ⟨jn 3 62 13 J J J J (bP J J J J (fun hg=>bw jV d7 J J)),
    ⟨dR 63 14 62 13 J J J J (bP J J J J (fun hg=>aF bV J J (aG J hg))),
    ⟨dR 64 15 62 13 J J J J (bP J J J J (fun hg=>bg cZ (aG J hg))),
    ⟨dR 65 16 62 13 J J J J (bP J J J J (fun hg=>cS (aG J hg) hI)),
    ⟨eT 62 13 66 17 J J J J (hZ J J),
    ⟨dc 67 18 J J J (cq J),
    ⟨jn 3 68 19 J J J J (bP J J J J (fun hg=>bw jV d7 J J)),
    ⟨dR 69 20 68 19 J J J J (bP J J J J (fun hg=>aF bV J J (aG J hg))),
    ⟨dR 70 21 68 19 J J J J (bP J J J J (fun hg=>bg cZ (aG J hg))),
    ⟨dR 71 22 68 19 J J J J (bP J J J J (fun hg=>fM (aG J hg) hI)),
    ⟨eT 68 19 72 23 J J J J (hZ J J),
    ⟨dc 50 1 J J J (yG J),
    ⟨dc 73 24 J J J (yG J),
    bm⟩⟩⟩⟩⟩⟩⟩⟩⟩⟩⟩⟩⟩⟩⟩⟩⟩⟩⟩⟩⟩⟩⟩⟩⟩⟩⟩ ?_
   refine ai<|aj ?_;refine am (aa ?_);cases so h;exact cy J J J
 ·refine an<|zo J (eQ J)<|aY J<|al<|cz h J (fun h=>?_) (fun h=>?_)
  ·refine an<|ax J<|ax J<|bM h fun l q_l h=>cn br J J J J cZ J J (ht J) (ht J) q_l fun l1 c=>ax J<|bM h fun out q_out h=>cn br J J J J cZ J J (ht J) (ht J) q_out fun l2 c1=>aY J<|al<|an<|ax J<|zo J (bw uE oP J J)<|zo J (bj fG J J)<|ax J<|ja<|jq 80 J<|jq 8 J<|jq 81 J<|jq 84 J<|bM h fun r q_r h=>?_;refine zo J (aH SX (Li _ _ q_r) ⟨(ht J),(su (ht J)),bm⟩)<|aY J<|aY J<|al<|aj ?_;refine am (aa ?_);refine mT 6 J<|aX ?_;cases so h;exact cy J J J
  ·refine an<|zo J (eQ J)<|aY J<|al<|cz h J (fun h=>?_) (fun h=>?_)
   ·refine an<|ax J<|zo J (bw uE oP J J)<|zo J (bj fG J J)<|ax J<|bM h fun r1 q_r1 h=>zo J (aH SX (Li _ _ q_r1) ⟨(ht J),(ht J),bm⟩)<|aY J<|aY J<|al<|aj ?_;refine am (aa ?_);refine aX ?_;cases so h;exact cy J J J
   ·refine an<|zo J (eQ J)<|aY J<|al<|cz h J (fun h=>?_) (fun h=>?_)
    ·refine ae<|an<|zo J (dv)<|al<|ap<|bE ?_;refine aJ (GU (Z:=fun n2 out1 l3 c2 i1=>lk n a1 n2 out1 i1=some R) (Of:=fun out1 l3 c2 i1=>[cY cC 3 l3 c2 out1]) (Gf:=fun out1 l3 c2 i1=>[(1,ji a1),(3,bF aA n),(8,mU l3 c2 out1),(9,gD true),(11,bY i1)]) (fun out1 l3 c2 i1 h=>nn h) (fun n2 ih1 out1 l3 c2 i1 h=>?_) gK ny none 0 (0:Int) h) (aQ J);refine av<|ae<|an<|ax J<|zo J (bw jk dO J J)<|zo J (bj bV J J)<|zo J (fU cZ J)<|zo J (eu J J)<|al<|cz h J (fun h=>?_) (fun h=>?_)
     ·refine dF<|ae<|ap<|ae<|an<|zo J (bw jk dO J J)<|zo J (bj bV J J)<|ax J<|bM h fun e2 q_e2 h=>zo J (gM cZ br J J J q_e2)<|zo J (bj br J J)<|zo J (eg (ht J) hI)<|ax J<|bX J J (fun hg=>bw jk dO J J)<|bX J J (fun hg=>aF bV J J (aG J hg))<|bX J J (fun hg=>cq J)<|bX J J (fun hg=>bW cZ br J (aG J hg) (aG J hg) q_e2)<|bX J J (fun hg=>aF br J J (aG J hg))<|bX J J (fun hg=>cq J)<|bX J J (fun hg=>bg cZ (aG J hg))<|bX J J (fun hg=>cS (aG J hg) (aG J hg))<|zo J (lH J J) ?_;refine al<|cz h J (fun h=>?_) (fun h=>?_)
      ·refine an<|zo J (aP (show aL _ _ _ pD from lJ))<|zo J (ei)<|al<|aj ?_;refine aa (am (aa (aa (am (aa (am (aa ?_)))))));refine aX ?_;cases so h;exact cy J J J
      ·refine dF<|ah<|ax J<|ax J<|zo J (bw jk dO J J)<|zo J (bj bV J J)<|ax J<|zo J (gM cZ br J J J q_e2)<|zo J (bj br J J)<|bM h fun e3 q_e3 h=>zo J (gM cZ br J J J q_e3)<|zo J (bj br J J)<|zo J (ba (r:=cC) (ys:=[e3]) (xs:=[.tmp 126]) cZ br J J J J J ⟨(ht J),bm⟩)<|bM h fun out2 q_out2 h=>cn br J J J J cZ J J (ht J) (ht J) q_out2 fun l4 c3=>aY J<|aC<|af<|ai<|ah<|ax rfl<|zo rfl (fm (ht rfl) hI)<|aY rfl ?_;refine aC ?_;exact aM (aJ (ih1 out2 l4 c3 (IntKind.i64.wrap (i1+(1:Int))) h) (aQ J))
     ·refine bf ?_;refine ac (ac (aI ?_));refine ai<|ae<|an<|zo rfl (dv)<|al<|ap<|bE ?_;refine aJ (GT (Z:=fun n3 out3 l5 c4 ok1 i2=>lj n a1 n3 out3 ok1 i2=some R) (Of:=fun out3 l5 c4 ok1 i2=>[cY cC 3 l5 c4 out3]) (Gf:=fun out3 l5 c4 ok1 i2=>[(1,ji a1),(3,bF aA n),(8,mU l5 c4 out3),(9,gD ok1),(12,bY i2)]) (fun out3 l5 c4 ok1 i2 h=>nn h) (fun n3 ih2 out3 l5 c4 ok1 i2 h=>?_) gK out1 l3 c2 true (0:Int) h) (aQ J);refine av<|ae<|an<|ax J<|zo J (bw ki eO J J)<|zo J (bj sf J J)<|zo J (fU nw J)<|zo J (eu J J)<|al<|cz h J (fun h=>?_) (fun h=>?_)
      ·refine dF<|ae<|ap<|an<|zo J (bw ki eO J J)<|zo J (bj sf J J)<|ax J<|bM h fun e4 q_e4 h=>zo J (gM nw gS J J J q_e4)<|zo J (bj gS J J)<|ax J<|bM h fun r2 q_r2 h=>zo J (aH Wz (Q6 _ _ q_r2) ⟨(ht J),(ht J),bm⟩)<|ax J<|zo J (iA J J)<|zo J (iA J J)<|aY J<|aY J<|al<|an ?_;refine ax J<|ax J<|zo J (ba (r:=cC) (ys:=[r2.1]) (xs:=[.tmp 147]) cZ br J J J J J ⟨(ht J),bm⟩)<|bM h fun out4 q_out4 h=>cn br J J J J cZ J J (ht J) (ht J) q_out4 fun l6 c5=>aY J<|al<|ah<|ax J<|ax J<|bo J J (fun hg=>cq J)<|zo J (hZ J J)<|aY J<|aC<|af<|ai<|ah<|ax rfl<|zo rfl (fm (ht rfl) hI)<|aY rfl<|aC ?_;exact aM (aJ (ih2 out4 l6 c5 (ok1&&r2.2) (IntKind.i64.wrap (i2+(1:Int))) h) (aQ J))
      ·refine bf ?_;refine ac (ac (aI ?_));refine ai<|an<|ax rfl<|ax rfl<|ax rfl<|bo rfl rfl (fun hg=>bw jk dO J J)<|bo J J (fun hg=>aF bV J J (aG J hg))<|bo J J (fun hg=>bg cZ (aG J hg))<|bo J J (fun hg=>fM (aG J hg) hI)<|zo J (hZ J J)<|ax J<|bo J J (fun hg=>bw ki eO J J)<|bo J J (fun hg=>aF sf J J (aG J hg))<|bo J J (fun hg=>bg nw (aG J hg))<|bo J J (fun hg=>fM (aG J hg) hI)<|zo J (hZ J J)<|ax J<|bo J J (fun hg=>cq J)<|bo J J (fun hg=>fc cZ (.head _) (aG J hg))<|bo J J (fun hg=>dZ (aG J hg) hI)<|zo J (hZ J J)<|aY J<|aY J ?_;refine al<|aj ?_;refine am (aa ?_);refine gL<|eK 8 J<|eK 154 J<|eK 6 J<|mT 6 J<|aX ?_;cases so h;exact cy J J J
    ·refine an<|zo J (eQ J)<|aY J<|al<|cz h J (fun h=>?_) (fun h=>?_)
     ·refine ae<|an<|zo J (dv)<|al<|ap<|bE ?_;refine aJ (GT (Z:=fun n4 out5 l7 c6 ok2 i3=>li n a1 n4 out5 ok2 i3=some R) (Of:=fun out5 l7 c6 ok2 i3=>[cY cC 3 l7 c6 out5]) (Gf:=fun out5 l7 c6 ok2 i3=>[(1,ji a1),(3,bF aA n),(8,mU l7 c6 out5),(9,gD ok2),(15,bY i3)]) (fun out5 l7 c6 ok2 i3 h=>nn h) (fun n4 ih3 out5 l7 c6 ok2 i3 h=>?_) gK ny none 0 true (0:Int) h) (aQ J);refine av<|ae<|an<|ax J<|zo J (bw rh nh J J)<|zo J (bj yW J J)<|zo J (fU rD J)<|zo J (eu J J)<|al<|cz h J (fun h=>?_) (fun h=>?_)
      ·refine dF<|ae<|ap<|an<|zo J (bw rh nh J J)<|zo J (bj yW J J)<|ax J<|bM h fun e5 q_e5 h=>zo J (gM rD fG J J J q_e5)<|zo J (bj fG J J)<|ax J<|bM h fun r3 q_r3 h=>zo J (aH Pn (Gz _ _ q_r3) ⟨(ht J),(ht J),bm⟩)<|ax J<|zo J (iA J J)<|zo J (iA J J)<|aY J<|aY J<|al<|an ?_;refine ax J<|ax J<|zo J (ba (r:=cC) (ys:=[r3.1]) (xs:=[.tmp 193]) cZ br J J J J J ⟨(ht J),bm⟩)<|bM h fun out6 q_out6 h=>cn br J J J J cZ J J (ht J) (ht J) q_out6 fun l8 c7=>aY J<|al<|ah<|ax J<|ax J<|bo J J (fun hg=>cq J)<|bo J J (fun hg=>bq (aG J hg) hI)<|zo J (hZ J J)<|aY J<|aC<|af<|ai<|ah<|ax rfl<|zo rfl (fm (ht rfl) hI)<|aY rfl<|aC ?_;exact aM (aJ (ih3 out6 l8 c7 (ok2&&(r3.2==(0:Int))) (IntKind.i64.wrap (i3+(1:Int))) h) (aQ J))
      ·refine bf ?_;refine ac (ac (aI ?_));refine ai<|an<|ax rfl<|ax rfl<|ax rfl<|bo rfl rfl (fun hg=>cq J)<|bo J J (fun hg=>fc cZ (.head _) (aG J hg))<|bo J J (fun hg=>cS (aG J hg) hI)<|zo J (hZ J J)<|ax J<|bo J J (fun hg=>cq J)<|bo J J (fun hg=>fc cZ (.head _) (aG J hg))<|bo J J (fun hg=>fM (aG J hg) hI)<|zo J (hZ J J)<|aY J<|aY J<|al<|aj ?_;refine am (aa ?_);refine gL<|eK 8 J<|eK 201 J<|eK 6 J<|mT 6 J<|aX ?_;cases so h;exact cy J J J
     ·refine an<|zo J (eQ J)<|aY J<|al<|cz h J (fun h=>?_) (fun h=>?_)
      ·refine an<|ax J<|aY J<|zo J (ei)<|al<|aj ?_;refine am (aa ?_);refine aX ?_;cases so h;exact cy J J J
      ·refine an<|zo J (eQ J)<|aY J<|al<|cz h J (fun h=>?_) (fun h=>?_)
       ·refine ae<|an<|ax J<|zo J (fU cZ J)<|ax J<|zo J (fU cZ J)<|zo J (cA (ht J) (ht J))<|al<|cz h J (fun h=>?_) (fun h=>?_)
        ·refine an<|zo J (aP (show aL _ _ _ pD from lJ))<|zo J (ei)<|al<|aj ?_;refine aa (am (aa ?_));refine aX ?_;cases so h;exact cy J J J
        ·refine dF<|ae<|an<|zo J (dv)<|al<|ap<|aT (k:=1) J fun hN=>bE ?_;refine aJ (tA (Z:=fun ls i4 out7 l9 c8 ok3=>(a1.drop i4=ls)∧iJ b ls i4 out7 ok3=some R) (Of:=fun _ i4 out7 l9 c8 ok3=>[cY cC 3 l9 c8 out7]) (Gf:=fun _ i4 out7 l9 c8 ok3=>[(1,ji a1),(2,ji b),(8,mU l9 c8 out7),(9,gD ok3),(18,bY (i4:Int))]) (fun i4 out7 l9 c8 ok3 h=>?_) (fun e6 tl ih4 i4 out7 l9 c8 ok3 h=>?_) a1 0 ny none 0 true ⟨J,h⟩) (aQ J)
         ·obtain⟨hx,h⟩:=h
          refine av<|ae<|an<|ax J<|ax J<|zo J (fU cZ J)<|zo J (eu J J)<|al<|bu (ht J) (dh hx)<|bf ?_;refine ac (ac (aI ?_));refine ai<|an<|ax rfl<|ax rfl<|aY rfl<|aY rfl<|al<|aj ?_;refine am (aa ?_);refine gL<|eK 8 J<|eK 259 J<|eK 6 J<|mT 6 J<|aX ?_;cases so h;exact cy J J J
         ·obtain⟨hx,h⟩:=h
          refine av<|ae<|an<|ax J<|ax J<|zo J (fU cZ J)<|zo J (eu J J)<|al<|bt (ht J) (dg hx)<|dF<|ae<|ap<|an<|ax J<|ax J<|zo J (gM cZ br J J J (dl hx))<|zo J (bj br J J)<|aY J<|al ?_;refine c0 (Z:=fun k=>ox b (iJ b tl) i4 out7 ok3 k=some R) (Of:=fun k=>[cY cC 3 l9 c8 out7]) (Gf:=fun k=>[(1,ji a1),(2,ji b),(8,mU l9 c8 out7),(9,gD ok3),(18,bY (i4:Int)),(19,bY k)]) (fun k h=>?_) (fun K=>?_)
          ·skip
           refine an<|ax J<|ax J<|zo J (ba (r:=cC) (ys:=[k]) (xs:=[.tmp 240]) cZ br J J J J J ⟨(ht J),bm⟩)<|bM h fun out8 q_out8 h=>cn br J J J J cZ J J (ht J) (ht J) q_out8 fun l10 c9=>aY J<|al<|ah<|ax J<|ax J<|bM h fun t2 q_t2 h=>bo J J (fun hg=>cq J)<|bo J J (fun hg=>cq J) ?_
           obtain⟨e7,h1t2,h0t2⟩:=og q_t2
           have q_e7g:=fun hb=>(h1t2 hb).1
           refine bo J J (fun hg=>bW cZ br J (aG J hg) (aG J hg) (q_e7g hg))<|bo J J (fun hg=>aF br J J (aG J hg))<|bo J J (fun hg=>cq J)<|bo J J (fun hg=>bq (aG J hg) (aG J hg))<|bo J J (fun hg=>bk (aG J hg)) ?_
           obtain⟨t3,h1t2⟩:=G1 (fun hb=>(h1t2 hb).2)
           have q_t3g:=fun hb=>(h1t2 hb).1
           refine ck J J J J (fun hg=>cq J)<|ck J J J J (fun hg=>cq J) ?_
           obtain⟨e8,h1t3,h0t3⟩:=Vx q_t3g
           have q_e8g:=fun hb=>(h1t3 hb).1
           refine ck J J J J (fun hg=>bW cZ br J (aG J hg) (aG J hg) (q_e8g hg))<|ck J J J J (fun hg=>aF br J J (aG J hg))<|ck J J J J (fun hg=>bq (aG J hg) hI)<|bo J J (fun hg=>dY (aG J hg) (fun hb=>(aG J (oa hg (mW hb)))) (fun hb=>(h1t3 (oa hg hb)).2) (fun hb=>h0t3 hg hb))<|zo J (cu (ht J) (fun hb=>(aG J hb)) (fun hb=>(h1t2 hb).2) h0t2)<|aY J<|aC<|af<|ai<|ah<|ax rfl<|zo rfl (je (cx hx hN) rfl)<|aY rfl<|aC ?_;exact aM (aJ (ih4 (i4+1) out8 l10 c9 t2 ⟨cw hx,h⟩) (aQ J))
          ·skip
           refine an<|ax J<|zo J (eQ J)<|al<|cz h J (fun h=>?_) (fun h=>?_)
           ·refine ah<|ax J<|ax J<|bM h fun e9 q_e9 h=>zo J (gM cZ br J J J q_e9)<|zo J (bj br J J)<|aY J<|aC ?_;exact bz (K e9 h) (aQ J)
           ·refine aO ?_;exact bz (K e6 h) (aQ J)
       ·refine aO<|af<|ai<|ae<|an<|zo rfl (dv)<|al<|ap<|bE<|pB ?_;refine aJ (GV (Z:=fun n5 ok4 i5=>iI n a1 n5 ok4 i5=some R) (Of:=fun ok4 i5=>[]) (Gf:=fun ok4 i5=>[(1,ji a1),(3,bF aA n),(9,gD ok4),(20,bY i5)]) (fun ok4 i5 h=>nn h) (fun n5 ih5 ok4 i5 h=>?_) gK true (0:Int) h) (aQ J);refine av<|ae<|an<|ax J<|zo J (bw px io J J)<|zo J (bj yV J J)<|zo J (fU ve J)<|zo J (eu J J)<|al<|cz h J (fun h=>?_) (fun h=>?_)
        ·refine dF<|ae<|ap<|ah<|ax J<|ax J<|bM h fun t4 q_t4 h=>bo J J (fun hg=>bw px io J J)<|bo J J (fun hg=>aF yV J J (aG J hg))<|bo J J (fun hg=>cq J) ?_
         obtain⟨e10,h1t4,h0t4⟩:=og q_t4
         have q_e10g:=fun hb=>(h1t4 hb).1
         refine bo J J (fun hg=>bW ve wu J (aG J hg) (aG J hg) (q_e10g hg))<|bo J J (fun hg=>cR B4 J wR J (aG J hg))<|bo J J (fun hg=>aF br J J (aG J hg))<|bo J J (fun hg=>cS (aG J hg) hI)<|zo J (cu (ht J) (fun hb=>(aG J hb)) (fun hb=>(h1t4 hb).2) h0t4)<|ax J<|bM h fun t5 q_t5 h=>bo J J (fun hg=>bw px io J J)<|bo J J (fun hg=>aF yV J J (aG J hg))<|bo J J (fun hg=>cq J) ?_
         obtain⟨e11,h1t5,h0t5⟩:=og q_t5
         have q_e11g:=fun hb=>(h1t5 hb).1
         refine bo J J (fun hg=>bW ve wu J (aG J hg) (aG J hg) (q_e11g hg))<|bo J J (fun hg=>cR B4 J wR J (aG J hg))<|bo J J (fun hg=>aF br J J (aG J hg))<|bo J J (fun hg=>cq J)<|bo J J (fun hg=>bg cZ (aG J hg))<|bo J J (fun hg=>eg (aG J hg) (aG J hg))<|zo J (cu (ht J) (fun hb=>(aG J hb)) (fun hb=>(h1t5 hb).2) h0t5)<|aY J<|aC<|af<|ai<|ah<|ax rfl<|zo rfl (fm (ht rfl) hI)<|aY rfl<|aC ?_;exact aM (aJ (ih5 t5 (IntKind.i64.wrap (i5+(1:Int))) h) (aQ J))
        ·refine bf ?_;refine ac (ac (aI ?_));refine ai<|ae ?_
         refine er (ts:=[_,_,_,_,_,_,_,_,_,_,_,_,_,_,_,_,_,_,_,_]) mixed J J
          ⟨ic 1 J J J (cq J),
          ⟨ic 9 J J J (cq J),
          ⟨dc 290 1 J J J (cq J),
          ⟨jn 3 291 2 J J J J (bP J J J J (fun hg=>bw px io J J)),
          ⟨dR 292 3 291 2 J J J J (bP J J J J (fun hg=>aF yV J J (aG J hg))),
          ⟨dR 293 4 291 2 J J J J (bP J J J J (fun hg=>bg ve (aG J hg))),
          ⟨dR 294 5 291 2 J J J J (bP J J J J (fun hg=>fM (aG J hg) hI)),
          ⟨eT 291 2 295 6 J J J J (hZ J J),
          ⟨dc 296 7 J J J (cq J),
          ⟨jn 3 297 8 J J J J (bP J J J J (fun hg=>bw uh mY J J)),
          ⟨dR 298 9 297 8 J J J J (bP J J J J (fun hg=>aF br J J (aG J hg))),
          ⟨dR 299 10 297 8 J J J J (bP J J J J (fun hg=>cS (aG J hg) hI)),
          ⟨eT 297 8 300 11 J J J J (hZ J J),
          ⟨dc 301 12 J J J (cq J),
          ⟨jn 3 302 13 J J J J (bP J J J J (fun hg=>bw uh mY J J)),
          ⟨dR 303 14 302 13 J J J J (bP J J J J (fun hg=>aF br J J (aG J hg))),
          ⟨dR 304 15 302 13 J J J J (bP J J J J (fun hg=>fM (aG J hg) hI)),
          ⟨eT 302 13 305 16 J J J J (hZ J J),
          ⟨dc 289 0 J J J (yG J),
          ⟨dc 306 17 J J J (yG J),
          bm⟩⟩⟩⟩⟩⟩⟩⟩⟩⟩⟩⟩⟩⟩⟩⟩⟩⟩⟩⟩ ?_
         refine ai<|aj ?_;cases so h;exact cy J J J

end Go.Proofs.YtmogpgcfognefaaGreatDoor

