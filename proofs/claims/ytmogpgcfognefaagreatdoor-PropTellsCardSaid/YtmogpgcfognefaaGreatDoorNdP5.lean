/- di of this claim: P5. -/
import Derived.Test.YtmogpgcfognefaaGreatDoorNdT
import Derived.Test.YtmogpgcfognefaaGreatDoorNdP4
set_option linter.all false
namespace Go.Proofs.YtmogpgcfognefaaGreatDoor
open Go
set_option maxRecDepth 100000

theorem O3(nodes:(List aw)){R:(List (List Int))×Int×Int}(h:oC nodes=some R):bh be 16 [eV (aA) nodes] (tT [eV (jd) R.1,bY R.2.1,bY R.2.2]):=by
 refine bh.of Tryz.func16 J J J fun w0 S0=>an<|zo J (aP (show aL _ _ _ IY from lJ))<|zo J (dv)<|zo J (dv)<|al<|DV<|ae<|an<|ax J<|zo J (fU ib J)<|zo J (eg (ht J) hI)<|ax J<|bX J J (fun hg=>cq J)<|bX J J (fun hg=>bg ib (aG J hg))<|bX J J (fun hg=>dZ (aG J hg) hI)<|zo J (lH J J)<|al<|cz h J (fun h=>?_) (fun h=>?_)
 ·refine an<|zo J (aP (show aL _ _ _ IY from lJ))<|zo J (dv)<|zo J (dv)<|al<|aj ?_;refine aa (p9 ?_);cases so h;exact lF J J J J
 ·refine dF<|an<|ax J<|zo J (cI (r:=rH bC [(1,.slice none 0 0),(2,.slice none 0 0)]) (y:=(⟨nodes,[],[],yF,[],[],[]⟩:aq)) Vo VM (zH PO ⟨J,J,bm⟩) (⟨_,_,_,_,_,J,Vq Mr J J,J,(ht J),J⟩))<|vQ (ht J) J fun b=>cm true jd 29<|cm false cC 3 ?_;refine(show RG _ _ _ _ [cY cC 3 none 0 ny,jx jd 29 none 0 NM,bx (rH bC [(1,aD none 0 NM.length),(2,aD none 0 ny.length)]) 124 b (⟨nodes,[],[],yF,[],[],[]⟩:aq)] _ from ?_);refine aY J<|al<|an<|bM h fun r q_r h=>zo J (aH YI (Uo q_r) trivial)<|aY J<|al<|an<|zo J (dv)<|al<|ae<|DW<|ai<|ae<|an<|ax rfl<|zo rfl (fU ib rfl)<|zo rfl (bk hI) ?_;refine al ?_;refine Fz (Z:=fun wrong ob l c l1 c1=>mo nodes wrong ob=some R) (Of:=fun wrong ob l c l1 c1=>[bx (rH bC [(1,aD l c ob.kinds.length),(2,aD l1 c1 ob.open_.length)]) 124 b ob,jx jd 29 l c ob.kinds,cY cC 3 l1 c1 ob.open_]) (Gf:=fun wrong ob l c l1 c1=>[(0,eV (aA) nodes),(5,tV (aN b 0)),(7,bY wrong)]) (fun wrong ob l c l1 c1 h=>?_) (fun K=>?_)
  ·skip
   refine ai ?_;refine c0 (Z:=fun wrong1=>mn ob wrong1=some R) (Of:=fun wrong1=>[bx (rH bC [(1,aD l c ob.kinds.length),(2,aD l1 c1 ob.open_.length)]) 124 b ob,jx jd 29 l c ob.kinds,cY cC 3 l1 c1 ob.open_]) (Gf:=fun wrong1=>[(5,tV (aN b 0)),(7,bY wrong1)]) (fun wrong1 h=>?_) (fun K1=>?_)
   ·skip
    refine ae<|an<|ax J<|zo J (cS (ht J) hI)<|al<|cz h J (fun h=>?_) (fun h=>?_)
    ·refine an<|ax J<|zo J (aP (show aL _ _ _ IY from lJ))<|aY J<|zo J (dv)<|al<|aj ?_;refine aa (p9 ?_);refine aX<|aX<|aX ?_;cases so h;exact lF J J J J
    ·refine dF<|an<|cm false jd 29<|zo J (aP tE)<|al<|ae<|an<|ax J<|zo J (bK (ht J))<|zo J (fi 1 B3 J J J)<|zo J (C0 D7 J (.tail _ (.head _)) (.tail _ (.tail _ (.head _))) (ht J))<|zo J (bg n7 (su (ht J)))<|zo J (bk hI)<|al<|ap<|Nw<|Nx 61 J<|aT (k:=61) J fun hN=>bE ?_;refine fE<|dW<|fE<|fE ?_;refine aJ (me (Z:=fun ls i out l2 c2=>(ob.kinds.drop i=ls)∧nH ls out=some R) (Of:=fun _ i out l2 c2=>[cY jd 29 l2 c2 out,bx (rH bC [(1,aD l c ob.kinds.length),(2,aD l1 c1 ob.open_.length)]) 124 b ob,jx jd 29 l c ob.kinds,cY cC 3 l1 c1 ob.open_]) (Gf:=fun _ i out l2 c2=>[(10,mU l2 c2 out),(61,eV (jd) ob.kinds),(62,gA ob.kinds),(63,bY (i:Int))]) (fun i out l2 c2 h=>?_) (fun e tl ih i out l2 c2 h=>?_) ob.kinds 0 NM none 0 ⟨J,h⟩) (aQ J)
     ·obtain⟨hx,h⟩:=h
      refine av<|an<|zo J (eu J J)<|al<|ae<|bu (ht J) (dh hx)<|bf ?_;refine ac (ac (aI ?_));refine ai<|an<|ax rfl<|aY rfl<|zo rfl (dv)<|zo rfl (dv)<|al<|aj<|p9<|gL<|eK 10 rfl<|eK 73 rfl<|eK 2 rfl<|mT 2 rfl<|aX<|aX<|aX<|aX ?_;cases so h;exact lF J J J J
     ·obtain⟨hx,h⟩:=h
      refine av<|an<|zo J (eu J J)<|al<|ae<|bt (ht J) (dg hx)<|dF<|ae<|ap<|an<|zo J (gM n7 bV J J J (dl hx))<|zo J (bj bV J J)<|aY J<|al<|ah<|ax J<|ax J<|bM h fun r1 q_r1 h=>kC Pj (B5 _ q_r1) ⟨(ht J),bm⟩ J fun l3 c3=>?_;refine ja<|jq 69 J<|zo J (ba (r:=sd) (ys:=[r1]) (xs:=[.tmp 69]) n7 bV J J J J J ⟨(su (ht J)),bm⟩)<|cg<|bM h fun out1 q_out1 h=>cn bV J J J J n7 J J (ht J) (ht J) q_out1 fun l4 c4=>aY J<|aC<|af<|ai<|ah<|zo rfl (je (cx hx hN) rfl)<|ax rfl<|aC<|aU<|aX ?_;exact aM (aJ (ih (i+1) out1 l4 c4 ⟨cw hx,h⟩) (aQ J))
   ·skip
    refine an<|ax J<|zo J (eg (ht J) hI)<|ax J<|bo J J (fun hg=>cq J)<|bo J J (fun hg=>bK (aG J hg))<|bo J J (fun hg=>cr (n:=2) sG J (aG J hg) J)<|bo J J (fun hg=>oG bV J (.head _) (aG J hg))<|bo J J (fun hg=>fc cZ (.tail _ (.tail _ (.head _))) (aG J hg))<|bo J J (fun hg=>cA (aG J hg) hI)<|zo J (hZ J J)<|al<|cz h J (fun h=>?_) (fun h=>?_)
    ·refine ah<|ax J<|zo J (fU ib J)<|zo J (dn (ht J) hI)<|aY J<|aC ?_;exact bz (K1 (IntKind.i64.wrap ((nodes.length:Int)-(1:Int))) h) (aQ J)
    ·refine aO ?_;exact bz (K1 wrong h) (aQ J)
  ·skip
   refine aT (k:=25) J fun hN1=>bE<|dW<|ka ?_;refine aJ (DL (Z:=fun ls1 i1 wrong2 ob1 l5 c5 l6 c6=>(nodes.drop i1=ls1)∧iy nodes r ls1 i1 wrong2 ob1=some R) (Of:=fun _ i1 wrong2 ob1 l5 c5 l6 c6=>[bx (rH bC [(1,aD l5 c5 ob1.kinds.length),(2,aD l6 c6 ob1.open_.length)]) 124 b ob1,jx jd 29 l5 c5 ob1.kinds,cY cC 3 l6 c6 ob1.open_]) (Gf:=fun _ i1 wrong2 ob1 l5 c5 l6 c6=>[(0,eV (aA) nodes),(5,tV (aN b 0)),(6,PM (fun y:(aq→Unit→Option (Bool×aq))=>pE (fun bb=>ku be (fun(x:Unit)=>[tV (aN bb 0)]) (eW bb) pQ y)) FH r),(7,bY wrong2),(25,eV (aA) nodes),(26,gA nodes),(27,bY (i1:Int))]) (fun i1 wrong2 ob1 l5 c5 l6 c6 h=>?_) (fun e1 tl1 ih1 i1 wrong2 ob1 l5 c5 l6 c6 h=>?_) nodes 0 uQ (⟨nodes,[],[],yF,[],[],[]⟩:aq) none 0 none 0 ⟨J,h⟩) (aQ J)
   ·obtain⟨hx1,h⟩:=h
    refine av<|an<|zo J (eu J J)<|al<|ae<|bu (ht J) (dh hx1)<|bf ?_;refine ac (ac (aI ?_));exact bz (K wrong2 ob1 l5 c5 l6 c6 h) (aQ J)
   ·obtain⟨hx1,h⟩:=h
    refine av<|an<|zo J (eu J J)<|al<|ae<|bt (ht J) (dg hx1)<|dF<|ae<|ap<|an<|ax J<|zo J (gM ib db J J J (dl hx1))<|zo J (bj db J J)<|aZ (r:=aA) (x:=yF) db (fun _=>ev _) J fun b1=>aY J<|aE db J ay J (ht J) (ht J)<|aW 9 J<|al<|ae ?_;refine ah<|ax J<|ax J<|ax J<|zo J (bw eh cj J J)<|zo J (bj br J J)<|zo J (Ba (γ:=(fun y:(aq→Unit→Option (Bool×aq))=>pE (fun bb=>ku be (fun(x:Unit)=>[tV (aN bb 0)]) (eW bb) D3 y))) (z:=(fun _ _=>none)) BB (ir oT) UZ (fun _ _=>Mb) (ht J) (sE (ht J)))<|bM h fun r2 q_r2 h=>DE (EffOK.fr2 (EffOK.fr2 (EffOK.fr2 (Fl (xs:=[.tmp 32,.tmp 33,.tmp 37]) (ts:=[tV (aN b 0),bY (i1:Int),pE (fun bb=>ku be (fun(x:Unit)=>[tV (aN bb 0)]) (eW bb) pQ ((rW r e1.Op).getD (fun _ _=>none)))]) (eW b ob1 (MM [(l5,c5),(l6,c6)])) _ J YH (V4 b (MM [(l5,c5),(l6,c6)]) ob1 _ _ q_r2) ⟨(ht J),(ht J),(ht J),bm⟩ (fun _=>J))))) J fun i2=>?_;refine(show RG _ _ _ _ [bx (rH bC [(1,aD (i2.h 0).1 (i2.h 0).2 r2.2.kinds.length),(2,aD (i2.h 1).1 (i2.h 1).2 r2.2.open_.length)]) 124 b r2.2,jx jd 29 (i2.h 0).1 (i2.h 0).2 r2.2.kinds,cY cC 3 (i2.h 1).1 (i2.h 1).2 r2.2.open_] ((38,gD r2.1)::_)from ?_);refine zo J (dD (ht J))<|al<|cz h J (fun h=>?_) (fun h=>?_)
    ·refine an<|ax J<|aY J<|al<|bf ?_;refine cF J (ac (ac (aI ?_)));exact bz (K (i1:Int) r2.2 (i2.h 0).1 (i2.h 0).2 (i2.h 1).1 (i2.h 1).2 h) (aQ J)
    ·refine aO<|af<|ai<|ah<|zo rfl (je (cx hx1 hN1) rfl)<|ax rfl<|aC ?_;exact aM (aJ (ih1 (i1+1) wrong2 r2.2 (i2.h 0).1 (i2.h 0).2 (i2.h 1).1 (i2.h 1).2 ⟨cw hx1,h⟩) (aQ J))

theorem Lh(c:Int){R:Bool}(h:u3 c=some R):bh be 226 [tD (rI .i32) c] (gD R):=by
 refine bh.of Tryz.func226 J J J fun w0 S0=>an<|zo J (ei)<|al<|an<|ax J<|zo J (cS (ht J) hI)<|ax J<|bo J J (fun hg=>cq J)<|bo J J (fun hg=>fM (aG J hg) hI)<|zo J (hZ J J)<|aY J<|al<|aj ?_;cases so h;exact aB J J

theorem QP(s:(List iZ))(v:iZ){R:Int}(h:k5 s v=some R):bh be 279 [eV (rS) s,tD rS v] (bY R):=by
 refine bh.of Tryz.func279 J J J fun w0 S0=>an<|zo J (dv)<|al<|ae<|an<|ax J<|zo J (fU Ey J)<|zo J (bk hI)<|al<|ap<|aT (k:=6) J fun hN=>bE ?_;refine aJ (dB (Z:=fun ls i=>(s.drop i=ls)∧ft v ls i=some R) (Of:=fun _ i=>[]) (Gf:=fun _ i=>[(0,eV (rS) s),(1,tD rS v),(7,gA s),(8,bY (i:Int))]) (fun i h=>?_) (fun e tl ih i h=>?_) s 0 ⟨J,h⟩) (aQ J)
 ·obtain⟨hx,h⟩:=h
  refine av<|an<|zo J (eu J J)<|al<|ae<|bu (ht J) (dh hx)<|bf ?_;refine ac (ac (aI ?_));refine ai<|an<|zo rfl (dv)<|al<|aj ?_;cases so h;exact aB J J
 ·obtain⟨hx,h⟩:=h
  refine av<|an<|zo J (eu J J)<|al<|ae<|bt (ht J) (dg hx)<|dF<|ae<|ap<|an<|ax J<|aY J<|al<|an<|ax J<|ax J<|ax J<|zo J (gM Ey z6 J J J (dl hx)) ?_;refine zo J (bj z6 J J)<|zo J (qE (ht J) (ht J))<|al<|cz h J (fun h=>?_) (fun h=>?_)
  ·refine an<|ax J<|aY J<|al<|aj ?_;refine am (aa (aa (am (aa ?_))));cases so h;exact aB J J
  ·refine aO<|af<|ai<|ah<|zo rfl (je (cx hx hN) rfl)<|ax rfl<|aC ?_;exact aM (aJ (ih (i+1) ⟨cw hx,h⟩) (aQ J))

theorem QT(s:(List iZ))(v:iZ){R:Bool}(h:jJ s v=some R):bh be 256 [eV (rS) s,tD rS v] (gD R):=by
 refine bh.of Tryz.func256 J J J fun w0 S0=>an<|zo J (ei)<|al<|an<|ax J<|ax J<|bM h fun r q_r h=>zo J (aH Wk (QP _ _ q_r) ⟨(ht J),(ht J),bm⟩)<|zo J (cS (ht J) hI)<|aY J<|al<|aj ?_;cases so h;exact aB J J

theorem Q5(s:iZ){R:Bool}(h:vC s=some R):bh be 227 [tD rS s] (gD R):=by
 refine bh.of Tryz.func227 J J J fun w0 S0=>an<|zo J (ei)<|al<|an<|zo J (Fw (r:=pH rS 28) (x:=VF) gm2 gr2 (MG Tryz.underlying292 z6 J ST))<|ax J<|bM h fun r q_r h=>zo J (aH Wn (QT _ _ q_r) ⟨(ht J),(ht J),bm⟩)<|aY J<|al<|aj ?_;cases so h;exact aB J J

theorem Q4(s:iZ){R:iZ}(h:kc s=some R):bh be 228 [tD rS s] (tD rS R):=by
 unfold kc at h
 split at h
 ·rename_i hl
  cases h
  refine Ix fun w hw=>?_
  have:=Any.strings_ToUpper_any uH upX ⟨s.toArray⟩ w (by rw [LE];exact hl) hw.1 hw.2
  simp only [List.toList_toArray]at this
  exact this
 ·cases h

theorem Q0(c:Int){R:Bool}(h:xj c=some R):bh be 229 [tD (rI .i32) c] (gD R):=by
 refine bh.of Tryz.func229 J J J fun w0 S0=>an<|zo J (ei)<|al<|an<|ax J<|zo J (cS (ht J) hI)<|ax J<|bo J J (fun hg=>cq J)<|bo J J (fun hg=>fM (aG J hg) hI)<|zo J (hZ J J)<|aY J<|al<|aj ?_;cases so h;exact aB J J

theorem GC(s:iZ){R:Bool}(h:rb s=some R):bh be 169 [tD rS s] (gD R):=by
 refine bh.of Tryz.func169 J J J fun w0 S0=>an<|zo J (ei)<|al<|ae<|an<|ax J<|zo J (qE (ht J) hS)<|ax J<|bX J J (fun hg=>cq J)<|bX J J (fun hg=>ua kq (aG J hg))<|bX J J (fun hg=>dZ (aG J hg) hI)<|zo J (lH J J)<|ax J<|bM h fun t q_t h=>bX J J (fun hg=>cq J) ?_
 obtain⟨b,h1t,h0t⟩:=og q_t
 have q_bg:=fun hb=>(h1t hb).1
 refine bX J J (fun hg=>sN kq (aG J hg) hI (q_bg hg))<|bX J J (fun hg=>Qn NK Tryz.underlying21 (aG J hg)) ?_
 obtain⟨r,h1t⟩:=G1 (fun hb=>(h1t hb).2)
 have q_rg:=fun hb=>(h1t hb).1
 refine bX J J (fun hg=>aH SW (Lh _ (q_rg hg)) ⟨(aG J hg),bm⟩)<|bX J J (fun hg=>dD (aG J hg))<|zo J (dY (ht J) (fun hb=>(aG J (mW hb))) (fun hb=>(h1t hb).2) h0t)<|ax J<|bM h fun t1 q_t1 h=>bX J J (fun hg=>cq J) ?_
 obtain⟨r1,h1t1,h0t1⟩:=og q_t1
 have q_r1g:=fun hb=>(h1t1 hb).1
 refine bX J J (fun hg=>aH Wx (Q4 _ (q_r1g hg)) ⟨(aG J hg),bm⟩) ?_
 obtain⟨r2,h1t1⟩:=G1 (fun hb=>(h1t1 hb).2)
 have q_r2g:=fun hb=>(h1t1 hb).1
 refine bX J J (fun hg=>aH Wy (Q5 _ (q_r2g hg)) ⟨(aG J hg),bm⟩)<|zo J (dY (ht J) (fun hb=>(aG J (mW hb))) (fun hb=>(h1t1 hb).2) h0t1)<|al<|cz h J (fun h=>?_) (fun h=>?_)
 ·refine an<|zo J (ei)<|al<|aj<|aa ?_;cases so h;exact aB J J
 ·refine dF<|ae<|an<|ax J<|IB kq (ht J) J fun rg=>al<|ap<|bE ?_;refine aJ (UN (β:=Int×Int) (Z:=fun ls=>po ls=some R) (Of:=fun ls=>[Ea rg s ls]) (Gf:=[(25,tV (aN rg 0))]) (fun ls h ih=>?_) (Hy s) h) (aQ J);refine av<|an ?_;refine Kb (ht J) J (fun hl=>?_) (fun e tl hk=>?_)
  ·subst hl
   refine zo J (Gb (ht J))<|al<|ae<|bu (ht J) J<|bf ?_;refine ac (ac (aI ?_));refine ai<|an<|zo rfl (ei)<|al<|aj<|aX ?_;cases so h;exact aB J J
  ·subst hk
   refine zo J (xO (i:=0) J (ht J))<|al<|ae<|bt (ht J) J<|dF<|ap<|an<|zo J (xO (i:=2) J (ht J))<|aY J<|al<|an<|ax J<|bM h fun r3 q_r3 h=>zo J (aH Ww (Q0 _ q_r3) ⟨(ht J),bm⟩)<|zo J (dD (ht J))<|ax J<|bM h fun t2 q_t2 h=>bo J J (fun hg=>cq J) ?_
   obtain⟨r4,h1t2,h0t2⟩:=og q_t2
   have q_r4g:=fun hb=>(h1t2 hb).1
   refine bo J J (fun hg=>aH SW (Lh _ (q_r4g hg)) ⟨(aG J hg),bm⟩)<|bo J J (fun hg=>dD (aG J hg))<|zo J (cu (ht J) (fun hb=>(aG J hb)) (fun hb=>(h1t2 hb).2) h0t2)<|ax J<|bo J J (fun hg=>cq J)<|bo J J (fun hg=>cA (aG J hg) hI)<|zo J (hZ J J)<|al<|cz h J (fun h=>?_) (fun h=>?_)
   ·refine an<|zo J (ei)<|al<|aj ?_;refine am (aa (am (aa ?_)));refine aX ?_;cases so h;exact aB J J
   ·refine aO<|af ?_;exact aM (aJ (ih tl (by simp) h) (aQ J))

theorem QS(s:(List bL))(f:(bL→Option Bool)){R:Int}(h:gp s f=some R):bh be 263 [eV (cH) s,(iB be BC pQ (fun(x:bL)=>f x))] (bY R):=by
 refine bh.of Tryz.func263 J J J fun w0 S0=>an<|zo J (dv)<|al<|ae<|an<|ax J<|zo J (fU sb J)<|zo J (bk hI)<|al<|ap<|aT (k:=6) J fun hN=>bE ?_;refine aJ (dB (Z:=fun ls i=>(s.drop i=ls)∧dd f ls i=some R) (Of:=fun _ i=>[]) (Gf:=fun _ i=>[(0,eV (cH) s),(1,(iB be BC pQ (fun(x:bL)=>f x))),(7,gA s),(8,bY (i:Int))]) (fun i h=>?_) (fun e tl ih i h=>?_) s 0 ⟨J,h⟩) (aQ J)
 ·obtain⟨hx,h⟩:=h
  refine av<|an<|zo J (eu J J)<|al<|ae<|bu (ht J) (dh hx)<|bf ?_;refine ac (ac (aI ?_));refine ai<|an<|zo rfl (dv)<|al<|aj ?_;cases so h;exact aB J J
 ·obtain⟨hx,h⟩:=h
  refine av<|an<|zo J (eu J J)<|al<|ae<|bt (ht J) (dg hx)<|dF<|ae<|ap<|an<|ax J<|aY J<|al<|an<|ax J<|ax J<|ax J<|zo J (gM sb pg J J J (dl hx)) ?_;refine zo J (bj pg J J)<|bM h fun r q_r h=>zo J (jR (args:=BC) (res:=D3) (f:=(fun(x:bL)=>f x)) (x:=((e):bL)) (ht J) q_r ⟨(ht J),bm⟩)<|al<|cz h J (fun h=>?_) (fun h=>?_)
  ·refine an<|ax J<|aY J<|al<|aj ?_;refine am (aa (aa (am (aa ?_))));cases so h;exact aB J J
  ·refine aO<|af<|ai<|ah<|zo rfl (je (cx hx hN) rfl)<|ax rfl<|aC ?_;exact aM (aJ (ih (i+1) ⟨cw hx,h⟩) (aQ J))

theorem QR(of:(bL→Option iZ))(name:iZ)(p:bL){R:Bool}(h:fC of name p=some R):bh be 264 [tD cH p,bF (rT ((iB be BC xw (fun(x:bL)=>of x)))) (),bF rS name] (gD R):=by
 refine bh.of Tryz.func264 J J J fun w0 S0=>an<|zo J (lK J)<|zo J (ei)<|al<|ae<|bM h fun r q_r h=>?_
 refine er (ts:=[_,_,_,_,_,_]) mixed J J
  ⟨ic 1 J J J (C1 Vk (ht J)),
  ⟨ic 3 J J J (bj pg J J),
  ⟨eT 5 0 6 1 J J J J (jR (args:=BC) (res:=xw) (f:=(fun(x:bL)=>of x)) (x:=((p):bL)) (ht J) q_r ⟨(ht J),bm⟩),
  ⟨ic 2 J J J (bj z6 J J),
  ⟨eT 7 2 8 3 J J J J (qE (ht J) (ht J)),
  ⟨dc 9 4 J J J (yG J),
  bm⟩⟩⟩⟩⟩⟩ ?_
 refine ai<|aj ?_;cases so h;exact aB J J

theorem QZ(l:(List bL))(of:(bL→Option iZ))(name:iZ){R:Int×Bool}(h:j9 l of name=some R):bh be 230 [eV (cH) l,(iB be BC xw (fun(x:bL)=>of x)),tD rS name] (tT [bY R.1,gD R.2]):=by
 refine bh.of Tryz.func230 J J J fun w0 S0=>an<|zo J (KL (ht J))<|zo J (lK J)<|zo J (dv)<|zo J (ei)<|al<|an<|ax J<|zo J ((show cO _ _ _ _ ((iB be BC pQ (fun(x:bL)=>(fC of name) x)))from kQ (cts:=[bF (rT ((iB be BC xw (fun(x:bL)=>of x)))) (),bF rS name]) (caps:=[.tmp 4,.tmp 5]) Wl ⟨(ht J),(ht J),bm⟩ (fun x y h=>QR _ _ _ h)))<|bM h fun r q_r h=>zo J (aH Wm (QS _ _ q_r) ⟨(ht J),(ht J),bm⟩)<|aY J<|al<|an<|ax J<|zo J (F9 (ht J) hI)<|ax J<|zo J (cS (ht J) hI) ?_;refine aY J<|aY J<|al<|aj ?_;cases so h;exact cy J J J

theorem Rs(l:(List bL))(of:(bL→Option iZ)){R:Bool}(h:mS l of=some R):bh be 170 [eV (cH) l,(iB be BC xw (fun(x:bL)=>of x))] (gD R):=by
 refine bh.of Tryz.func170 J J J fun w0 S0=>an<|zo J (ei)<|al<|ae<|an<|ax J<|zo J (fU sb J)<|zo J (bk hI)<|al<|ap<|aT (k:=9) J fun hN=>bE ?_;refine aJ (dB (Z:=fun ls i=>(l.drop i=ls)∧gx l of ls i=some R) (Of:=fun _ i=>[]) (Gf:=fun _ i=>[(0,eV (cH) l),(1,(iB be BC xw (fun(x:bL)=>of x))),(9,eV (cH) l),(10,gA l),(11,bY (i:Int))]) (fun i h=>?_) (fun e tl ih i h=>?_) l 0 ⟨J,h⟩) (aQ J)
 ·obtain⟨hx,h⟩:=h
  refine av<|an<|zo J (eu J J)<|al<|ae<|bu (ht J) (dh hx)<|bf ?_;refine ac (ac (aI ?_));refine ai<|an<|zo rfl (ei)<|al<|aj ?_;cases so h;exact aB J J
 ·obtain⟨hx,h⟩:=h
  refine av<|an<|zo J (eu J J)<|al<|ae<|bt (ht J) (dg hx)<|dF<|ae<|ap<|an<|ax J<|zo J (gM sb pg J J J (dl hx))<|zo J (bj pg J J)<|aZ (r:=cH) (x:=NN) pg (fun _=>qT _) J fun b=>aY J<|aE pg J ay J (ht J) (ht J)<|aW 6 J<|al<|ae ?_;refine ah<|ax J<|ax J<|ax J<|zo J (bj pg J J)<|bM h fun r q_r h=>zo J (jR (args:=BC) (res:=xw) (f:=(fun(x:bL)=>of x)) (x:=((e):bL)) (ht J) q_r ⟨(ht J),bm⟩)<|bM h fun r1 q_r1 h=>zo J (aH Wv (QZ _ _ _ q_r1) ⟨(ht J),(ht J),(ht J),bm⟩)<|ax J<|zo J (iA J J)<|zo J (iA J J)<|aY J<|aY J<|al<|an<|ax J<|ax J<|zo J (cA (ht J) (ht J))<|ax J<|bM h fun t q_t h=>bX J J (fun hg=>cq J) ?_;refine bX J J (fun hg=>bj pg J J) ?_
  obtain⟨r2,h1t,h0t⟩:=og q_t
  have q_r2g:=fun hb=>(h1t hb).1
  refine bX J J (fun hg=>jR (args:=BC) (res:=xw) (f:=(fun(x:bL)=>of x)) (x:=((e):bL)) (aG J hg) (q_r2g hg) ⟨(aG J hg),bm⟩) ?_
  obtain⟨r3,h1t⟩:=G1 (fun hb=>(h1t hb).2)
  have q_r3g:=fun hb=>(h1t hb).1
  refine bX J J (fun hg=>aH Pp (GC _ (q_r3g hg)) ⟨(aG J hg),bm⟩)<|bX J J (fun hg=>dD (aG J hg))<|zo J (dY (ht J) (fun hb=>(aG J (mW hb))) (fun hb=>(h1t hb).2) h0t)<|al<|cz h J (fun h=>?_) (fun h=>?_)
  ·refine an<|zo J (ei)<|al<|aj ?_;refine am (aa (aa (am (aa ?_))));cases so h;exact aB J J
  ·refine aO<|af<|ai<|ah<|zo rfl (je (cx hx hN) rfl)<|ax rfl<|aC ?_;exact aM (aJ (ih (i+1) ⟨cw hx,h⟩) (aQ J))

theorem Rr(c:bL){R:iZ}(h:fJ c=some R):bh be 171 [tD cH c] (tD rS R):=by
 refine bh.of Tryz.func171 J J J fun w0 S0=>an<|zo J (lK J)<|zo J (aP hS)<|al<|an<|zo J (bw Gt ug J J)<|zo J (bj z6 J J)<|aY J<|al<|aj ?_;cases so h;exact aB J J

theorem Rq(kind:Int){R:iZ}(h:sI kind=some R):bh be 172 [bY kind] (tD rS R):=by
 refine bh.of Tryz.func172 J J J fun w0 S0=>an<|zo J (aP hS)<|al<|ae<|an<|zo J (Fw (r:=(pH vv 3)) (x:=TU) gm0 gr0 (aF Vj J J ST))<|zo J (bk hI)<|al<|ap<|bE ?_;refine aJ (LP (Z:=fun k i=>(3-i=k)∧km kind k i=some R) (Of:=fun _ i=>[]) (Gf:=fun _ i=>[(0,bY kind),(5,tD (pH vv 3) TU),(6,bY (i:Int))]) (fun i h=>?_) (fun k1 ih i h=>?_) 3 0 ⟨J,h⟩) (aQ J)
 ·obtain⟨hx,h⟩:=h
  refine av<|an<|zo J (eg (ht J) hI)<|al<|ae<|bu (ht J) (TK hx)<|bf ?_;refine ac (ac (aI ?_));refine ai<|an<|zo rfl (aP hS)<|al<|aj ?_;cases so h;exact aB J J
 ·obtain⟨hx,h⟩:=h
  refine av<|an<|zo J (eg (ht J) hI)<|al<|ae<|bt (ht J) (TJ hx)<|dF<|ae<|ap<|an<|bM h fun e1 q_e1 h=>zo J (MI Tryz.underlying271 NX J J (ht J) (ht J) q_e1)<|aZ (r:=vv) (x:=(⟨[],(0:Int)⟩:DQ)) NX (fun _=>PP _) J fun b=>aE NX J ay J (ht J) (ht J)<|aW 4 J<|al<|an<|zo J (bw Qw M6 J J) ?_;refine zo J (bj br J J)<|ax J<|zo J (bq (ht J) (ht J))<|al<|cz h J (fun h=>?_) (fun h=>?_)
  ·refine an<|zo J (bw Qx M7 J J)<|zo J (bj z6 J J)<|aY J<|al<|aj ?_;refine am (aa (aa (am (aa ?_))));cases so h;exact aB J J
  ·refine aO<|af<|ai<|ah<|zo rfl (zk (Qr hx (by decide)) (ht rfl) hI)<|ax rfl<|aC ?_;exact aM (aJ (ih (i+1) ⟨Qq hx,h⟩) (aQ J))

theorem RU(t:bU){R:Int}(h:np t=some R):bh be 106 [tD cT t] (bY R):=by
 refine bh.of Tryz.func106 J J J fun w0 S0=>an<|zo J (lK J)<|zo J (dv)<|al<|an<|zo J (bw Dj tm J J)<|zo J (bj z6 J J)<|bM h fun r q_r h=>zo J (aH Pp (GC _ q_r) ⟨(ht J),bm⟩)<|ax J<|bo J J (fun hg=>bw pJ iQ J J)<|bo J J (fun hg=>aF yc J J (aG J hg))<|bo J J (fun hg=>bg sb (aG J hg))<|bo J J (fun hg=>cS (aG J hg) hI)<|zo J (hZ J J)<|ax J<|bo J J (fun hg=>bw pJ iQ J J)<|bo J J (fun hg=>aF yc J J (aG J hg))<|bo J J (fun hg=>bg sb (aG J hg))<|bo J J (fun hg=>fM (aG J hg) hI) ?_;refine zo J (hZ J J)<|ax J<|bM h fun t1 q_t1 h=>bo J J (fun hg=>bw pJ iQ J J)<|bo J J (fun hg=>aF yc J J (aG J hg)) ?_
 obtain⟨r1,h1t1,h0t1⟩:=og q_t1
 have q_r1g:=fun hb=>(h1t1 hb).1
 refine bo J J (fun hg=>aH WU (Rs _ _ (q_r1g hg)) ⟨(aG J hg),(Gm WT fun x y h=>Rr _ h),bm⟩)<|zo J (cu (ht J) (fun hb=>(aG J hb)) (fun hb=>(h1t1 hb).2) h0t1)<|aY J<|al<|ae<|an<|zo J (bw pJ iQ J J)<|zo J (bj yc J J)<|zo J (fU sb J)<|zo J (bk hI)<|al<|ap<|aT (k:=29) J fun hN=>bE ?_;refine aJ (jY (Z:=fun ls i ok=>(t.Columns.drop i=ls)∧gY t ls ok=some R) (Of:=fun _ i ok=>[]) (Gf:=fun _ i ok=>[(1,bF cT t),(3,gD ok),(29,eV (cH) t.Columns),(30,gA t.Columns),(31,bY (i:Int))]) (fun i ok h=>?_) (fun e tl ih i ok h=>?_) t.Columns 0 t1 ⟨J,h⟩) (aQ J)
 ·obtain⟨hx,h⟩:=h
  refine av<|an<|zo J (eu J J)<|al<|ae<|bu (ht J) (dh hx)<|bf ?_;refine ac (ac (aI ?_));refine ai<|ae<|an<|zo rfl (bw tp mp rfl rfl)<|zo rfl (bj bV rfl rfl)<|zo rfl (fU cZ rfl)<|zo rfl (bk hI)<|al<|ap<|aT (k:=44) J fun hN1=>bE ?_;refine aJ (jY (Z:=fun ls1 i1 ok1=>(t.Keys.drop i1=ls1)∧fZ t ls1 i1 ok1=some R) (Of:=fun _ i1 ok1=>[]) (Gf:=fun _ i1 ok1=>[(1,bF cT t),(3,gD ok1),(44,ji t.Keys),(45,gA t.Keys),(46,bY (i1:Int))]) (fun i1 ok1 h=>?_) (fun e1 tl1 ih1 i1 ok1 h=>?_) t.Keys 0 ok ⟨J,h⟩) (aQ J)
  ·obtain⟨hx1,h⟩:=h
   refine av<|an<|zo J (eu J J)<|al<|ae<|bu (ht J) (dh hx1)<|bf ?_;refine ac (ac (aI ?_));refine ai<|ae<|an<|ax rfl<|zo rfl (dD (ht rfl))<|al<|cz h rfl (fun h=>?_) (fun h=>?_)
   ·refine an<|zo J (dv)<|al<|aj<|aa ?_;cases so h;exact aB J J
   ·refine dF<|an<|zo J (dv)<|al<|aj ?_;cases so h;exact aB J J
  ·obtain⟨hx1,h⟩:=h
   refine av<|an<|zo J (eu J J)<|al<|ae<|bt (ht J) (dg hx1)<|dF<|ae<|ap<|an<|ax J<|zo J (gM cZ br J J J (dl hx1))<|zo J (bj br J J)<|aY J<|aY J<|al<|ah<|ax J<|ax J ?_;refine bo J J (fun hg=>cq J)<|bo J J (fun hg=>cS (aG J hg) hI)<|zo J (hZ J J)<|ax J<|bo J J (fun hg=>cq J)<|bo J J (fun hg=>bw pJ iQ J J)<|bo J J (fun hg=>aF yc J J (aG J hg))<|bo J J (fun hg=>bg sb (aG J hg))<|bo J J (fun hg=>eg (aG J hg) (aG J hg))<|zo J (hZ J J)<|ax J<|bM h fun t2 q_t2 h=>bo J J (fun hg=>cq J)<|bo J J (fun hg=>bq (aG J hg) hI)<|bo J J (fun hg=>bk (aG J hg)) ?_
   obtain⟨t3,h1t2,h0t2⟩:=og q_t2
   have q_t3g:=fun hb=>(h1t2 hb).1
   refine ck J J J J (fun hg=>bw tp mp J J)<|ck J J J J (fun hg=>aF bV J J (aG J hg))<|ck J J J J (fun hg=>cq J)<|ck J J J J (fun hg=>dn (aG J hg) hI) ?_
   obtain⟨e2,h1t3,h0t3⟩:=Vx q_t3g
   have q_e2g:=fun hb=>(h1t3 hb).1
   refine ck J J J J (fun hg=>bW cZ br J (aG J hg) (aG J hg) (q_e2g hg))<|ck J J J J (fun hg=>aF br J J (aG J hg))<|ck J J J J (fun hg=>cq J)<|ck J J J J (fun hg=>eg (aG J hg) (aG J hg))<|bo J J (fun hg=>dY (aG J hg) (fun hb=>(aG J (oa hg (mW hb)))) (fun hb=>(h1t3 (oa hg hb)).2) (fun hb=>h0t3 hg hb))<|zo J (cu (ht J) (fun hb=>(aG J hb)) (fun hb=>(h1t2 hb).2) h0t2)<|aY J<|aC<|af<|ai<|ah<|zo rfl (je (cx hx1 hN1) rfl)<|ax rfl<|aC ?_;exact aM (aJ (ih1 (i1+1) t2 ⟨cw hx1,h⟩) (aQ J))
 ·obtain⟨hx,h⟩:=h
  refine av<|an<|zo J (eu J J)<|al<|ae<|bt (ht J) (dg hx)<|dF<|ae<|ap<|an<|zo J (gM sb pg J J J (dl hx))<|zo J (bj pg J J)<|aZ (r:=cH) (x:=NN) pg (fun _=>qT _) J fun b=>aE pg J ay J (ht J) (ht J)<|aW 5 J<|al<|ah<|ax J<|ax J ?_;refine bM h fun t4 q_t4 h=>bo J J (fun hg=>bw Gs uf J J)<|bo J J (fun hg=>aF br J J (aG J hg)) ?_
  obtain⟨r2,h1t4,h0t4⟩:=og q_t4
  have q_r2g:=fun hb=>(h1t4 hb).1
  refine bo J J (fun hg=>aH WS (Rq _ (q_r2g hg)) ⟨(aG J hg),bm⟩)<|bo J J (fun hg=>Qm (aG J hg) hS)<|zo J (cu (ht J) (fun hb=>(aG J hb)) (fun hb=>(h1t4 hb).2) h0t4)<|aY J<|aC<|af<|ai<|ah<|zo rfl (je (cx hx hN) rfl)<|ax rfl<|aC ?_;exact aM (aJ (ih (i+1) t4 ⟨cw hx,h⟩) (aQ J))

theorem RV(t:bU){R:Bool}(h:lO t=some R):bh be 105 [tD cT t] (gD R):=by
 refine bh.of Tryz.func105 J J J fun w0 S0=>an<|zo J (lK J)<|zo J (ei)<|al<|an<|zo J (bj qi J J)<|bM h fun r q_r h=>zo J (aH Xx (RU _ q_r) ⟨(ht J),bm⟩)<|zo J (uP J)<|aY J<|al<|aj ?_;cases so h;exact aB J J

theorem Ll(s:(List bU))(f:(bU→Option Bool)){R:Int}(h:eb s f=some R):bh be 173 [eV (cT) s,(iB be yU pQ (fun(x:bU)=>f x))] (bY R):=by
 refine bh.of Tryz.func173 J J J fun w0 S0=>an<|zo J (dv)<|al<|ae<|an<|ax J<|zo J (fU rC J)<|zo J (bk hI)<|al<|ap<|aT (k:=6) J fun hN=>bE ?_;refine aJ (dB (Z:=fun ls i=>(s.drop i=ls)∧cE f ls i=some R) (Of:=fun _ i=>[]) (Gf:=fun _ i=>[(0,eV (cT) s),(1,(iB be yU pQ (fun(x:bU)=>f x))),(7,gA s),(8,bY (i:Int))]) (fun i h=>?_) (fun e tl ih i h=>?_) s 0 ⟨J,h⟩) (aQ J)
 ·obtain⟨hx,h⟩:=h
  refine av<|an<|zo J (eu J J)<|al<|ae<|bu (ht J) (dh hx)<|bf ?_;refine ac (ac (aI ?_));refine ai<|an<|zo rfl (dv)<|al<|aj ?_;cases so h;exact aB J J
 ·obtain⟨hx,h⟩:=h
  refine av<|an<|zo J (eu J J)<|al<|ae<|bt (ht J) (dg hx)<|dF<|ae<|ap<|an<|ax J<|aY J<|al<|an<|ax J<|ax J<|ax J<|zo J (gM rC qi J J J (dl hx)) ?_;refine zo J (bj qi J J)<|bM h fun r q_r h=>zo J (jR (args:=yU) (res:=D3) (f:=(fun(x:bU)=>f x)) (x:=((e):bU)) (ht J) q_r ⟨(ht J),bm⟩)<|al<|cz h J (fun h=>?_) (fun h=>?_)
  ·refine an<|ax J<|aY J<|al<|aj ?_;refine am (aa (aa (am (aa ?_))));cases so h;exact aB J J
  ·refine aO<|af<|ai<|ah<|zo rfl (je (cx hx hN) rfl)<|ax rfl<|aC ?_;exact aM (aJ (ih (i+1) ⟨cw hx,h⟩) (aQ J))

end Go.Proofs.YtmogpgcfognefaaGreatDoor

