/- di of this claim: P16. -/
import Derived.Test.YtmogpgcfognefaaGreatDoorNdT
import Derived.Test.YtmogpgcfognefaaGreatDoorNdP15
set_option linter.all false
namespace Go.Proofs.YtmogpgcfognefaaGreatDoor
open Go
set_option maxRecDepth 100000

theorem JY(l:(List aw)){R:(List (List Int))×Int}(h:kN l=some R):bh be 22 [eV (aA) l] (tT [eV (jd) R.1,bY R.2]):=by
 refine bh.of Tryz.func22 J J J fun w0 S0=>an<|zo J (aP (show aL _ _ _ IY from lJ))<|zo J (dv)<|al<|ae<|an<|ax J<|zo J (fU ib J)<|zo J (eg (ht J) hI)<|ax J<|bX J J (fun hg=>cq J)<|bX J J (fun hg=>bg ib (aG J hg))<|bX J J (fun hg=>dZ (aG J hg) hI)<|zo J (lH J J)<|al<|cz h J (fun h=>?_) (fun h=>?_)
 ·refine an<|zo J (aP (show aL _ _ _ IY from lJ))<|zo J (dv)<|al<|aj<|aa ?_;cases so h;exact cy J J J
 ·refine dF<|an<|cm false jd 29<|zo J (aP tE)<|al<|ae<|an<|ax J<|zo J (fU ib J)<|zo J (bk hI)<|al<|ap<|aT (k:=20) J fun hN=>bE ?_;refine aJ (me (Z:=fun ls i out l1 c=>(l.drop i=ls)∧cW l ls i out=some R) (Of:=fun _ i out l1 c=>[cY jd 29 l1 c out]) (Gf:=fun _ i out l1 c=>[(0,eV (aA) l),(4,mU l1 c out),(20,eV (aA) l),(21,gA l),(22,bY (i:Int))]) (fun i out l1 c h=>?_) (fun e tl ih i out l1 c h=>?_) l 0 NM none 0 ⟨J,h⟩) (aQ J)
  ·obtain⟨hx,h⟩:=h
   refine av<|an<|zo J (eu J J)<|al<|ae<|bu (ht J) (dh hx)<|bf ?_;refine ac (ac (aI ?_));refine ai<|ae<|an<|ax rfl<|ax rfl<|zo rfl (fU ib rfl)<|zo rfl (dn (ht rfl) hI)<|bM h fun r q_r h=>zo J (aH Pi (OV _ _ q_r) ⟨(ht J),(ht J),bm⟩)<|ax J<|zo J (fU ib J)<|zo J (cA (ht J) (ht J))<|al<|cz h J (fun h=>?_) (fun h=>?_)
   ·refine an<|ax J<|zo J (fU ib J)<|zo J (dn (ht J) hI)<|zo J (aP (show aL _ _ _ IY from lJ))<|aY J<|al<|aj<|aa<|aX ?_;cases so h;exact cy J J J
   ·refine dF<|an<|ax J<|aY J<|zo J (dv)<|al<|aj<|gL<|eK 4 J<|eK 151 J<|eK 2 J<|mT 2 J<|aX ?_;cases so h;exact cy J J J
  ·obtain⟨hx,h⟩:=h
   refine av<|an<|zo J (eu J J)<|al<|ae<|bt (ht J) (dg hx)<|dF<|ae<|ap<|an<|ax J<|zo J (gM ib db J J J (dl hx))<|zo J (bj db J J)<|aZ (r:=aA) (x:=yF) db (fun _=>ev _) J fun b=>aY J<|aE db J ay J (ht J) (ht J)<|aW 6 J<|al<|ae ?_;refine ah<|ax J<|ax J<|bM h fun r1 q_r1 h=>zo J (aH Pi (OV _ _ q_r1) ⟨(ht J),(ht J),bm⟩)<|zo J (dZ (ht J) hI)<|ax J<|bM h fun t q_t h=>bo J J (fun hg=>bj db J J) ?_
   obtain⟨r2,h1t,h0t⟩:=og q_t
   have q_r2g:=fun hb=>(h1t hb).1
   refine bo J J (fun hg=>aH YC (Uj _ (q_r2g hg)) ⟨(aG J hg),bm⟩)<|zo J (cu (ht J) (fun hb=>(aG J hb)) (fun hb=>(h1t hb).2) h0t)<|aY J<|al<|an<|zo J (aP (show aL _ _ _ pD from lJ))<|al ?_;refine AP (Z:=fun ok k=>dx l (cW l tl) i e out ok k=some R) (Of:=fun ok k=>[cY jd 29 l1 c out]) (Gf:=fun ok k=>[(0,eV (aA) l),(4,mU l1 c out),(5,bY (i:Int)),(6,bF aA e),(7,gD ok),(8,ji k),(20,eV (aA) l),(21,gA l),(22,bY (i:Int))]) (fun ok k h=>?_) (fun K=>?_)
   ·skip
    refine an<|zo J (bw eh cj J J)<|zo J (bj br J J)<|zo J (eQ J)<|ax J<|bX J J (fun hg=>bw eh cj J J)<|bX J J (fun hg=>aF br J J (aG J hg))<|bX J J (fun hg=>bq (aG J hg) hI)<|zo J (lH J J)<|aY J<|al<|ae<|an<|ax J<|zo J (dD (ht J))<|ax J<|bX J J (fun hg=>cq J)<|bX J J (fun hg=>bk (aG J hg))<|dm J J J J (fun hg=>cq J)<|dm J J J J (fun hg=>cq J)<|dm J J J J (fun hg=>bg ib (aG J hg)) ?_;refine dm J J J J (fun hg=>dn (aG J hg) hI)<|dm J J J J (fun hg=>cA (aG J hg) (aG J hg))<|bX J J (fun hg=>iP (aG J hg) (fun hb=>(aG J (oa hg hb))))<|zo J (lH J J)<|al<|cz h J (fun h=>?_) (fun h=>?_)
    ·refine an<|ax J<|zo J (aP (show aL _ _ _ IY from lJ))<|aY J<|al<|aj ?_;refine aa (am (aa (aa (am (aa ?_)))));refine aX ?_;cases so h;exact cy J J J
    ·refine dF<|ah<|ax J<|ax J<|zo J (ba (r:=sd) (ys:=[k]) (xs:=[.tmp 136]) n7 bV J J J J J ⟨(ht J),bm⟩)<|bM h fun out1 q_out1 h=>cn bV J J J J n7 J J (ht J) (ht J) q_out1 fun l2 c1=>aY J<|aC<|af<|ai<|ah<|zo rfl (je (cx hx hN) rfl)<|ax rfl<|aC ?_;exact aM (aJ (ih (i+1) out1 l2 c1 ⟨cw hx,h⟩) (aQ J))
   ·skip
    refine an<|ax J<|al<|cz h J (fun h=>?_) (fun h=>?_)
    ·refine an<|cm false jd 29<|zo J (aP tE)<|al ?_;refine AO (Z:=fun parts l3 c2=>ov l (cW l tl) i e out parts=some R) (Of:=fun parts l3 c2=>[cY jd 29 l1 c out,cY jd 29 l3 c2 parts]) (Gf:=fun parts l3 c2=>[(0,eV (aA) l),(4,mU l1 c out),(5,bY (i:Int)),(6,bF aA e),(9,mU l3 c2 parts),(20,eV (aA) l),(21,gA l),(22,bY (i:Int))]) (fun parts l3 c2 h=>?_) (fun K1=>?_)
     ·skip
      refine AO (Z:=fun parts1 l4 c3=>ec l (cW l tl) i e out parts1=some R) (Of:=fun parts1 l4 c3=>[cY jd 29 l1 c out,cY jd 29 l4 c3 parts1]) (Gf:=fun parts1 l4 c3=>[(0,eV (aA) l),(4,mU l1 c out),(5,bY (i:Int)),(6,bF aA e),(9,mU l4 c3 parts1),(20,eV (aA) l),(21,gA l),(22,bY (i:Int))]) (fun parts1 l4 c3 h=>?_) (fun K2=>?_)
      ·skip
       refine an<|zo J (bw eh cj J J)<|zo J (bj br J J)<|al<|ap<|an<|zo J (eQ J)<|aY J<|al<|cz h J (fun h=>?_) (fun h=>?_)
       ·refine ah<|zo J (bj db J J)<|bM h fun r3 q_r3 h=>zo J (aH YB (Ui _ q_r3) ⟨(ht J),bm⟩)<|ax J<|zo J (iA J J)<|zo J (iA J J)<|aY J<|aY J<|aC<|af<|aU<|aX ?_;exact bz (K r3.2 r3.1 h) (aQ J)
       ·refine an<|zo J (eQ J)<|aY J<|al<|cz h J (fun h=>?_) (fun h=>?_)
        ·refine an<|zo J (bj db J J)<|aZ (r:=aA) (x:=yF) db (fun _=>ev _) J fun b1=>aE db J ay J (ht J) (ht J)<|al<|an<|zo J (fi 0 eh J J J)<|aE br J pF J (ht J) hI<|al<|an<|zo J (bl db J J bO (.head _) (ht J))<|ax J<|fD<|ja<|jq 9 J<|jq 79 J<|bM h fun r4 q_r4 h=>zo J (aH UI (JV _ _ q_r4) ⟨(ht J),(su (ht J)),bm⟩)<|ax J ?_;refine zo J (iA J J)<|zo J (iA J J)<|aY J<|aY J<|al<|an<|ax J<|al<|cz h J (fun h=>?_) (fun h=>?_)
         ·refine ah<|zo J (bj db J J)<|ax J<|bM h fun r5 q_r5 h=>kC YA (QA _ _ q_r5) ⟨(ht J),(ht J),bm⟩ J fun l5 c4=>aY J<|aC<|af<|gL<|eK 8 J<|eK 86 J<|mT 8 J<|aX<|aX<|aX ?_;exact bz (K r4.2 r5 h) (aQ J)
         ·refine aO<|af<|aX<|aX ?_;exact bz (K r4.2 r4.1 h) (aQ J)
        ·refine an<|zo J (eQ J)<|aY J<|al<|cz h J (fun h=>?_) (fun h=>?_)
         ·refine ae<|bM h fun e1 q_e1 h=>bM h fun r6 q_r6 h=>?_
          refine er (ts:=[_,_,_,_,_,_,_,_,_,_]) mixed J J
           ⟨ic 6 J J J (bj db J J),
           ⟨ic 9 J J J (cq J),
           ⟨dc 91 1 J J J (bT n7 bV (.tail _ (.head _)) (ht J) hI q_e1),
           ⟨dc 92 2 J J J (dj (r:=sd) (i:=(0:Int)) (foff:=0) bV J J bO J (.tail _ (.head _)) q_e1 (ht J)),
           ⟨eT 90 0 93 3 J J J J (aH Yz (Uh _ _ q_r6) ⟨(ht J),(ht J),bm⟩),
           ⟨dc 94 4 J J J (cq J),
           ⟨dc 89 5 J J J (iA J J),
           ⟨dc 89 5 J J J (iA J J),
           ⟨dc 95 6 J J J (yG J),
           ⟨dc 96 7 J J J (yG J),
           bm⟩⟩⟩⟩⟩⟩⟩⟩⟩⟩ ?_
          refine ai<|ah<|ax rfl<|ax rfl<|bM h fun t1 q_t1 h=>bo J J (fun hg=>cq J)<|bo J J (fun hg=>bw iS dE J J)<|bo J J (fun hg=>aF br J J (aG J hg)) ?_
          obtain⟨e2,h1t1,h0t1⟩:=og q_t1
          have q_e2g:=fun hb=>(h1t1 hb).1
          refine bo J J (fun hg=>bW ib db J (aG J hg) (aG J hg) (q_e2g hg))<|bo J J (fun hg=>cR eh J cj J (aG J hg))<|bo J J (fun hg=>aF br J J (aG J hg))<|bo J J (fun hg=>bq (aG J hg) hI)<|zo J (cu (ht J) (fun hb=>(aG J hb)) (fun hb=>(h1t1 hb).2) h0t1)<|aY J<|aC<|af<|aU<|aX ?_;exact bz (K t1 r6.1 h) (aQ J)
         ·refine an<|zo J (eQ J)<|aY J<|al<|cz h J (fun h=>?_) (fun h=>?_)
          ·refine ah<|zo J (bj db J J)<|bM h fun r7 q_r7 h=>zo J (aH UI (JV _ _ q_r7) ⟨(ht J),lJ,bm⟩)<|ax J<|zo J (iA J J)<|zo J (iA J J)<|aY J<|aY J<|aC<|af<|aU<|aX ?_;exact bz (K r7.2 r7.1 h) (aQ J)
          ·refine ah<|zo J (bj db J J)<|ax J<|cg<|ja<|jq 9 J<|jq 62 J<|bM h fun r8 q_r8 h=>zo J (aH UI (JV _ _ q_r8) ⟨(ht J),(su (ht J)),bm⟩)<|ax J<|zo J (iA J J)<|zo J (iA J J)<|aY J<|aY J<|aC<|af<|aX ?_;exact bz (K r8.2 r8.1 h) (aQ J)
      ·skip
       refine an<|zo J (bw kI ew J J)<|zo J (bj br J J)<|zo J (cS (ht J) hI)<|al<|cz h J (fun h=>?_) (fun h=>?_)
       ·refine ah<|ax J<|ax J<|zo J (bw kI ew J J)<|zo J (bj br J J)<|bM h fun e3 q_e3 h=>zo J (bT n7 bV (.head _) (ht J) (ht J) q_e3)<|zo J (dj (r:=sd) (i:=e.B) (foff:=0) bV J J bO J (.head _) q_e3 (ht J))<|zo J (ba (r:=sd) (ys:=[e3]) (xs:=[.tmp 55]) n7 bV J J J J J ⟨(ht J),bm⟩)<|cg<|bM h fun parts2 q_parts2 h=>cn bV J J J J n7 J J (ht J) (ht J) q_parts2 fun l6 c5=>aY J<|aC<|aU ?_;exact bz (K2 parts2 l6 c5 h) (aQ J)
       ·refine aO ?_;exact bz (K2 parts l3 c2 h) (aQ J)
     ·skip
      refine an<|zo J (bw iS dE J J)<|zo J (bj br J J)<|zo J (cS (ht J) hI)<|al<|cz h J (fun h=>?_) (fun h=>?_)
      ·refine ah<|ax J<|ax J<|zo J (bw iS dE J J)<|zo J (bj br J J)<|bM h fun e4 q_e4 h=>zo J (bT n7 bV (.tail _ (.head _)) (ht J) (ht J) q_e4)<|zo J (dj (r:=sd) (i:=e.A) (foff:=0) bV J J bO J (.tail _ (.head _)) q_e4 (ht J))<|zo J (ba (r:=sd) (ys:=[e4]) (xs:=[.tmp 44]) n7 bV J J J J J ⟨(ht J),bm⟩)<|bM h fun parts3 q_parts3 h=>cn bV J J J J n7 J J (ht J) (ht J) q_parts3 fun l7 c6=>aY J<|aC<|aU ?_;exact bz (K1 parts3 l7 c6 h) (aQ J)
      ·refine aO<|aU ?_;exact bz (K1 NM none 0 h) (aQ J)
    ·refine aO ?_;exact bz (K t ([]) h) (aQ J)

theorem Dm(a1:(List Int))(b:(List Int)){R:Bool}(h:g9 a1 b=some R):bh be 23 [ji a1,ji b] (gD R):=by
 refine bh.of Tryz.func23 J J J fun w0 S0=>an<|zo J (ei)<|al<|ae<|an<|ax J<|zo J (fU cZ J)<|ax J<|zo J (fU cZ J)<|zo J (cA (ht J) (ht J))<|al<|cz h J (fun h=>?_) (fun h=>?_)
 ·refine an<|zo J (ei)<|al<|aj<|aa ?_;cases so h;exact aB J J
 ·refine dF<|ae<|an<|zo J (dv)<|al<|ap<|aT (k:=0) J fun hN=>bE ?_;refine aJ (dB (Z:=fun ls i=>(a1.drop i=ls)∧j4 b ls i=some R) (Of:=fun _ i=>[]) (Gf:=fun _ i=>[(0,ji a1),(1,ji b),(5,bY (i:Int))]) (fun i h=>?_) (fun e tl ih i h=>?_) a1 0 ⟨J,h⟩) (aQ J)
  ·obtain⟨hx,h⟩:=h
   refine av<|ae<|an<|ax J<|ax J<|zo J (fU cZ J)<|zo J (eu J J)<|al<|bu (ht J) (dh hx)<|bf ?_;refine ac (ac (aI ?_));refine ai<|an<|zo rfl (ei)<|al<|aj ?_;cases so h;exact aB J J
  ·obtain⟨hx,h⟩:=h
   refine av<|ae<|an<|ax J<|ax J<|zo J (fU cZ J)<|zo J (eu J J)<|al<|bt (ht J) (dg hx)<|dF<|ae<|ap<|ae<|bM h fun e1 q_e1 h=>?_
   refine er (ts:=[_,_,_,_,_,_,_,_,_]) mixed J J
    ⟨ic 0 J J J (cq J),
    ⟨ic 5 J J J (cq J),
    ⟨eT 17 0 18 1 J J J J (gM cZ br J J J (dl hx)),
    ⟨dc 19 2 J J J (bj br J J),
    ⟨ic 1 J J J (cq J),
    ⟨ic 5 J J J (cq J),
    ⟨eT 21 4 22 5 J J J J (gM cZ br J J J q_e1),
    ⟨dc 23 6 J J J (bj br J J),
    ⟨eT 20 3 24 7 J J J J (cA (ht J) (ht J)),
    bm⟩⟩⟩⟩⟩⟩⟩⟩⟩ ?_
   refine ai<|cz h rfl (fun h=>?_) (fun h=>?_)
   ·refine an<|zo J (ei)<|al<|aj ?_;refine am (aa (aa (am (aa ?_))));cases so h;exact aB J J
   ·refine aO<|af<|ai<|ah<|ax rfl<|zo rfl (je (cx hx hN) rfl)<|aY rfl<|aC ?_;exact aM (aJ (ih (i+1) ⟨cw hx,h⟩) (aQ J))

theorem Um(f:cL)(c:bG){R:Int}(h:s6 f c=some R):bh be 50 [tD bR f,tD bJ c] (bY R):=by
 refine bh.of Tryz.func50 J J J fun w0 S0=>an<|zo J (lK J)<|zo J (lK J)<|zo J (dv)<|al<|an<|zo J (bw mO gJ J J)<|zo J (bj n8 J J)<|bM h fun r q_r h=>zo J (aH UL (JY _ q_r) ⟨(ht J),bm⟩)<|ax J<|zo J (iA J J)<|zo J (iA J J)<|aY J<|aY J<|al<|ae<|an ?_;refine ax J<|zo J (cS (ht J) hI)<|al<|cz h J (fun h=>?_) (fun h=>?_)
 ·refine an<|ax J<|aY J<|al<|aj<|aa ?_;cases so h;exact aB J J
 ·refine dF<|ae<|an<|zo J (bw mN gj J J)<|zo J (bj br J J)<|zo J (uP J)<|ax J<|bo J J (fun hg=>bw mN gj J J)<|bo J J (fun hg=>aF br J J (aG J hg))<|bo J J (fun hg=>cA (aG J hg) hI)<|zo J (hZ J J)<|ax J<|bX J J (fun hg=>bw pK ju J J)<|bX J J (fun hg=>aF br J J (aG J hg))<|bX J J (fun hg=>eg (aG J hg) hI)<|zo J (lH J J)<|ax J<|bX J J (fun hg=>bw pK ju J J)<|bX J J (fun hg=>aF br J J (aG J hg))<|bX J J (fun hg=>dZ (aG J hg) hI)<|zo J (lH J J)<|ax J ?_;refine bX J J (fun hg=>bw pK ju J J)<|bX J J (fun hg=>aF br J J (aG J hg))<|bX J J (fun hg=>bq (aG J hg) hI)<|bX J J (fun hg=>bw uF o7 J J)<|bX J J (fun hg=>aF bV J J (aG J hg))<|bX J J (fun hg=>bg cZ (aG J hg))<|bX J J (fun hg=>dZ (aG J hg) hI)<|bX J J (fun hg=>zj FD (aG J hg) (aG J hg))<|zo J (lH J J)<|ax J<|bX J J (fun hg=>bw uF o7 J J)<|bX J J (fun hg=>aF bV J J (aG J hg))<|bX J J (fun hg=>bg cZ (aG J hg))<|bX J J (fun hg=>dZ (aG J hg) hI)<|zo J (lH J J)<|al<|cz h J (fun h=>?_) (fun h=>?_)
  ·refine an<|zo J (dv)<|al<|aj<|aa ?_;cases so h;exact aB J J
  ·refine dF<|an<|ax J<|ax J<|zo J (fU n7 J)<|zo J (dn (ht J) hI)<|bM h fun e q_e h=>zo J (gM n7 bV J J J q_e)<|zo J (bj bV J J)<|aY J<|al<|ae<|an<|zo J (bw uF o7 J J)<|zo J (bj bV J J)<|zo J (fU cZ J)<|zo J (bk hI)<|al<|ap ?_;refine aT (k:=65) J fun hN=>bE ?_;refine aJ (dB (Z:=fun ls i=>(f.Cols.drop i=ls)∧nE f c e ls=some R) (Of:=fun _ i=>[]) (Gf:=fun _ i=>[(2,bF bR f),(3,bF bJ c),(7,ji e),(65,ji f.Cols),(66,gA f.Cols),(67,bY (i:Int))]) (fun i h=>?_) (fun e1 tl ih i h=>?_) f.Cols 0 ⟨J,h⟩) (aQ J)
   ·obtain⟨hx,h⟩:=h
    refine av<|an<|zo J (eu J J)<|al<|ae<|bu (ht J) (dh hx)<|bf ?_;refine ac (ac (aI ?_));refine ai<|ae<|an<|zo rfl (bw mO gJ rfl rfl)<|zo rfl (bj n8 rfl rfl)<|zo rfl (fU ib rfl)<|zo rfl (bk hI)<|al<|ap<|aT (k:=88) J fun hN1=>bE ?_;refine aJ (dB (Z:=fun ls1 i1=>(f.Nodes.drop i1=ls1)∧jC f c ls1=some R) (Of:=fun _ i1=>[]) (Gf:=fun _ i1=>[(2,bF bR f),(3,bF bJ c),(88,eV (aA) f.Nodes),(89,gA f.Nodes),(90,bY (i1:Int))]) (fun i1 h=>?_) (fun e2 tl1 ih1 i1 h=>?_) f.Nodes 0 ⟨J,h⟩) (aQ J)
    ·obtain⟨hx1,h⟩:=h
     refine av<|an<|zo J (eu J J)<|al<|ae<|bu (ht J) (dh hx1)<|bf ?_;refine ac (ac (aI ?_));refine ai<|an<|zo rfl (dv)<|al<|aj ?_;cases so h;exact aB J J
    ·obtain⟨hx1,h⟩:=h
     refine av<|an<|zo J (eu J J)<|al<|ae<|bt (ht J) (dg hx1)<|dF<|ae ?_;refine AQ (Z:=ro (jC f c tl1)=some R) (Of:=[]) (Gf:=[(2,bF bR f),(3,bF bJ c),(88,eV (aA) f.Nodes),(89,gA f.Nodes),(90,bY (i1:Int))]) (fun h=>?_) (fun K=>?_)
     ·skip
      refine ai<|ah<|zo rfl (je (cx hx1 hN1) rfl)<|ax rfl<|aC ?_;exact aM (aJ (ih1 (i1+1) ⟨cw hx1,h⟩) (aQ J))
     ·skip
      refine an<|zo J (gM ib db J J J (dl hx1))<|zo J (bj db J J)<|aZ (r:=aA) (x:=yF) db (fun _=>ev _) J fun b=>aE db J ay J (ht J) (ht J)<|aW 11 J<|al<|ae<|an<|zo J (bw eh cj J J)<|zo J (bj br J J)<|zo J (uP J)<|al<|cz h J (fun h=>?_) (fun h=>?_)
      ·refine bf ?_;refine ac (aI ?_);exact bz (K h) (aQ J)
      ·refine dF<|ae<|an<|zo J (bw mN gj J J)<|zo J (bj br J J)<|zo J (uP J)<|ax J<|bX J J (fun hg=>bw kj d8 J J)<|bX J J (fun hg=>aF br J J (aG J hg))<|bX J J (fun hg=>bw nV fI J J)<|bX J J (fun hg=>aF vl J J (aG J hg))<|bX J J (fun hg=>bg rC (aG J hg))<|bX J J (fun hg=>cS (aG J hg) (aG J hg))<|zo J (lH J J)<|al<|cz h J (fun h=>?_) (fun h=>?_)
       ·refine an<|zo J (dv)<|al<|aj ?_;refine aa (am (aa (aa (am (aa ?_)))));cases so h;exact aB J J
       ·refine dF<|an<|cm false cC 3<|zo J (aP tE)<|al<|ae<|an<|zo J (bw nV fI J J)<|zo J (bj vl J J)<|zo J (bw kj d8 J J)<|zo J (bj br J J)<|bM h fun e3 q_e3 h=>zo J (gM rC qi J J J q_e3)<|zo J (bw pJ iQ J J)<|zo J (bj yc J J)<|zo J (fU sb J)<|zo J (bk hI)<|al<|ap ?_;refine aT (k:=114) J fun hN2=>bE ?_;refine aJ (me (Z:=fun ls2 i2 own l c1=>(e3.Columns.drop i2=ls2)∧nD (jC f c tl1) e2 ls2 own=some R) (Of:=fun _ i2 own l c1=>[cY cC 3 l c1 own]) (Gf:=fun _ i2 own l c1=>[(2,bF bR f),(3,bF bJ c),(11,bF aA e2),(12,mU l c1 own),(88,eV (aA) f.Nodes),(89,gA f.Nodes),(90,bY (i1:Int)),(114,eV (cH) e3.Columns),(115,gA e3.Columns),(116,bY (i2:Int))]) (fun i2 own l c1 h=>?_) (fun e4 tl2 ih2 i2 own l c1 h=>?_) e3.Columns 0 ny none 0 ⟨J,h⟩) (aQ J)
        ·obtain⟨hx2,h⟩:=h
         refine av<|an<|zo J (eu J J)<|al<|ae<|bu (ht J) (dh hx2)<|bf ?_;refine ac (ac (aI ?_));refine ai<|an<|ax rfl<|zo rfl (bw jV d7 rfl rfl)<|zo rfl (bj bV rfl rfl)<|ja<|jq 12 rfl<|jq 126 rfl<|bM h fun r1 q_r1 h=>zo J (aH Pm (Dm _ _ q_r1) ⟨(su (ht J)),(ht J),bm⟩)<|zo J (dD (ht J))<|al<|cz h J (fun h=>?_) (fun h=>?_)
         ·refine an<|zo J (dv)<|al<|aj ?_;refine am (aa (aa (am (aa ?_))));refine aX ?_;cases so h;exact aB J J
         ·refine aO<|af<|aX ?_;exact bz (K h) (aQ J)
        ·obtain⟨hx2,h⟩:=h
         refine av<|an<|zo J (eu J J)<|al<|ae<|bt (ht J) (dg hx2)<|dF<|ae<|ap<|an<|zo J (gM sb pg J J J (dl hx2))<|zo J (bj pg J J)<|aZ (r:=cH) (x:=NN) pg (fun _=>qT _) J fun b1=>aE pg J ay J (ht J) (ht J)<|aW 14 J<|al<|ah<|ax J<|zo J (bw Gs uf J J) ?_;refine zo J (bj br J J)<|zo J (ba (r:=cC) (ys:=[e4.Kind]) (xs:=[.tmp 122]) cZ br J J J J J ⟨(ht J),bm⟩)<|bM h fun own1 q_own1 h=>cn br J J J J cZ J J (ht J) (ht J) q_own1 fun l1 c2=>aY J<|aC<|af<|ai<|ah<|zo rfl (je (cx hx2 hN2) rfl)<|ax rfl<|aC ?_;exact aM (aJ (ih2 (i2+1) own1 l1 c2 ⟨cw hx2,h⟩) (aQ J))
   ·obtain⟨hx,h⟩:=h
    refine av<|an<|zo J (eu J J)<|al<|ae<|bt (ht J) (dg hx)<|dF<|ae<|ap<|an<|zo J (gM cZ br J J J (dl hx))<|zo J (bj br J J)<|aY J<|al<|an<|ax J<|zo J (eg (ht J) hI)<|ax J ?_;refine bX J J (fun hg=>cq J)<|bX J J (fun hg=>cq J)<|bX J J (fun hg=>bg cZ (aG J hg))<|bX J J (fun hg=>cS (aG J hg) (aG J hg))<|zo J (lH J J)<|ax J<|bM h fun t q_t h=>bX J J (fun hg=>cq J)<|bX J J (fun hg=>cq J) ?_
    obtain⟨e5,h1t,h0t⟩:=og q_t
    have q_e5g:=fun hb=>(h1t hb).1
    refine bX J J (fun hg=>bW cZ br J (aG J hg) (aG J hg) (q_e5g hg))<|bX J J (fun hg=>aF br J J (aG J hg))<|bX J J (fun hg=>bq (aG J hg) hI)<|zo J (dY (ht J) (fun hb=>(aG J (mW hb))) (fun hb=>(h1t hb).2) h0t)<|al<|cz h J (fun h=>?_) (fun h=>?_)
    ·refine an<|zo J (dv)<|al<|aj ?_;refine am (aa (aa (am (aa ?_))));cases so h;exact aB J J
    ·refine aO<|af<|ai<|ah<|zo rfl (je (cx hx hN) rfl)<|ax rfl<|aC ?_;exact aM (aJ (ih (i+1) ⟨cw hx,h⟩) (aQ J))

theorem GB(p:da)(from1:Int){R:Int×Int×Bool}(h:m9 p from1=some R):bh be 20 [tD ce p,bY from1] (tT [bY R.1,bY R.2.1,gD R.2.2]):=by
 refine bh.of Tryz.func20 J J J fun w0 S0=>an<|zo J (lK J)<|zo J (dv)<|zo J (dv)<|zo J (ei)<|al<|ae<|an<|zo J (bw fY dp J J)<|zo J (bj nS J J)<|zo J (fU kE J)<|zo J (bk hI)<|al<|ap<|aT (k:=12) J fun hN=>bE ?_;refine aJ (dB (Z:=fun ls i=>(p.Frags.drop i=ls)∧lL from1 ls i=some R) (Of:=fun _ i=>[]) (Gf:=fun _ i=>[(1,bY from1),(12,eV (bR) p.Frags),(13,gA p.Frags),(14,bY (i:Int))]) (fun i h=>?_) (fun e tl ih i h=>?_) p.Frags 0 ⟨J,h⟩) (aQ J)
 ·obtain⟨hx,h⟩:=h
  refine av<|an<|zo J (eu J J)<|al<|ae<|bu (ht J) (dh hx)<|bf ?_;refine ac (ac (aI ?_));refine ai<|an<|zo rfl (dv)<|zo rfl (dv)<|zo rfl (ei)<|al<|aj ?_;cases so h;exact lF J J J J
 ·obtain⟨hx,h⟩:=h
  refine av<|an<|zo J (eu J J)<|al<|ae<|bt (ht J) (dg hx)<|dF<|ae<|ap<|an<|ax J<|zo J (gM kE fN J J J (dl hx))<|zo J (bj fN J J)<|aZ (r:=bR) (x:=IT) fN (fun _=>mu _) J fun b=>aY J<|aE fN J ay J (ht J) (ht J)<|aW 8 J<|al<|ae ?_;refine ah<|zo J (bw mO gJ J J)<|zo J (bj n8 J J)<|zo J (fU ib J)<|zo J (bk hI)<|al<|ap<|aT (k:=20) J fun hN1=>bE ?_;refine aJ (dB (Z:=fun ls1 i1=>(e.Nodes.drop i1=ls1)∧nA from1 (lL from1 tl) i ls1 i1=some R) (Of:=fun _ i1=>[]) (Gf:=fun _ i1=>[(1,bY from1),(7,bY (i:Int)),(12,eV (bR) p.Frags),(13,gA p.Frags),(14,bY (i:Int)),(20,eV (aA) e.Nodes),(21,gA e.Nodes),(22,bY (i1:Int))]) (fun i1 h=>?_) (fun e1 tl1 ih1 i1 h=>?_) e.Nodes 0 ⟨J,h⟩) (aQ J)
  ·obtain⟨hx1,h⟩:=h
   refine av<|an<|zo J (eu J J)<|al<|ae<|bu (ht J) (dh hx1)<|bf ?_;refine ac (ac (aI ?_));refine af<|ai<|ah<|zo rfl (je (cx hx hN) rfl)<|ax rfl<|aC ?_;exact aM (aJ (ih (i+1) ⟨cw hx,h⟩) (aQ J))
  ·obtain⟨hx1,h⟩:=h
   refine av<|an<|zo J (eu J J)<|al<|ae<|bt (ht J) (dg hx1)<|dF<|ae<|ap<|an<|ax J<|zo J (gM ib db J J J (dl hx1))<|zo J (bj db J J)<|aZ (r:=aA) (x:=yF) db (fun _=>ev _) J fun b1=>aY J<|aE db J ay J (ht J) (ht J)<|aW 10 J<|al<|ae ?_;refine ah<|zo J (bw eh cj J J)<|zo J (bj br J J)<|zo J (eQ J)<|ax J<|bo J J (fun hg=>bw kj d8 J J)<|bo J J (fun hg=>aF br J J (aG J hg))<|bo J J (fun hg=>cq J)<|bo J J (fun hg=>bq (aG J hg) (aG J hg))<|zo J (hZ J J)<|al<|cz h J (fun h=>?_) (fun h=>?_)
   ·refine an<|ax J<|ax J<|aY J<|aY J<|zo J (ei)<|al<|aj ?_;refine am (aa (aa (am (am (aa (aa (am (aa ?_))))))));cases so h;exact lF J J J J
   ·refine aO<|af<|ai<|ah<|zo rfl (je (cx hx1 hN1) rfl)<|ax rfl<|aC ?_;exact aM (aJ (ih1 (i1+1) ⟨cw hx1,h⟩) (aQ J))

end Go.Proofs.YtmogpgcfognefaaGreatDoor

