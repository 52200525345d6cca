/- cd of this claim: P5. -/
import Derived.Test.YtmogpgcfognefaaGreatDoorNcT
import Derived.Test.YtmogpgcfognefaaGreatDoorNcP4
set_option linter.all false
namespace Go.Proofs.YtmogpgcfognefaaGreatDoor
open Go
set_option maxRecDepth 100000

theorem NU(nodes:(List aZ)){R:(List (List Int))×Int×Int}(h:oD nodes=some R):aW aM 16 [d6 (aS) nodes] (tT [d6 (gr) R.1,bQ R.2.1,bQ R.2.2]):=by
 refine aW.of Tryz.func16 J J J fun w0 S0=>au<|zo J (a8 (show aw _ _ _ (d6 (gr) ([]))from tI))<|zo J (dA)<|zo J (dA)<|ap<|zf<|ae<|au<|ax J<|zo J (gJ n9 J)<|zo J (ep (ht J) hI)<|ax J<|cw J J (fun hg=>cz J)<|cw J J (fun hg=>bR n9 (aI J hg))<|cw J J (fun hg=>fG (aI J hg) hI)<|zo J (oQ J J)<|ap<|dh h J (fun h=>?_) (fun h=>?_)
 ·refine au<|zo J (a8 (show aw _ _ _ (d6 (gr) ([]))from tI))<|zo J (dA)<|zo J (dA)<|ap<|al ?_;refine aa (lQ ?_);cases so h;exact mu J J J J
 ·refine dz<|au<|ax J<|zo J (cE (r:=rH aN [(1,.slice none 0 0),(2,.slice none 0 0)]) (y:=(⟨nodes,[],[],Ck,[],[],[]⟩:af)) OO Pc (zH JC ⟨J,J,be⟩) (⟨_,_,_,_,_,J,OS GQ J J,J,(ht J),J⟩))<|xd (ht J) J fun b=>ci true gr 29<|ci false bV 3 ?_;refine(show RG _ _ _ _ [cC bV 3 none 0 lS,fA gr 29 none 0 MD,bx (rH aN [(1,an none 0 MD.length),(2,an none 0 lS.length)]) 124 b (⟨nodes,[],[],Ck,[],[],[]⟩:af)] _ from ?_);refine bo J<|ap<|au<|bF h fun r q_r h=>zo J (aJ Sh (NK q_r) trivial)<|bo J<|ap<|au<|zo J (dA)<|ap<|ae<|zg<|am<|ae<|au<|ax rfl<|zo rfl (gJ n9 rfl)<|zo rfl (bg hI) ?_;refine ap ?_;refine AV (Z:=fun wrong ob l c l1 c1=>la nodes wrong ob=some R) (Of:=fun wrong ob l c l1 c1=>[bx (rH aN [(1,an l c ob.kinds.length),(2,an l1 c1 ob.open_.length)]) 124 b ob,fA gr 29 l c ob.kinds,cC bV 3 l1 c1 ob.open_]) (Gf:=fun wrong ob l c l1 c1=>[(0,d6 (aS) nodes),(5,tV (aF b 0)),(7,bQ wrong)]) (fun wrong ob l c l1 c1 h=>?_) (fun K=>?_)
  ·skip
   refine am ?_;refine fX (Z:=fun wrong1=>jR ob wrong1=some R) (Of:=fun wrong1=>[bx (rH aN [(1,an l c ob.kinds.length),(2,an l1 c1 ob.open_.length)]) 124 b ob,fA gr 29 l c ob.kinds,cC bV 3 l1 c1 ob.open_]) (Gf:=fun wrong1=>[(5,tV (aF b 0)),(7,bQ wrong1)]) (fun wrong1 h=>?_) (fun K1=>?_)
   ·skip
    refine ae<|au<|ax J<|zo J (dG (ht J) hI)<|ap<|dh h J (fun h=>?_) (fun h=>?_)
    ·refine au<|ax J<|zo J (a8 (show aw _ _ _ (d6 (gr) ([]))from tI))<|bo J<|zo J (dA)<|ap<|al ?_;refine aa (lQ ?_);refine bv<|bv<|bv ?_;cases so h;exact mu J J J J
    ·refine dz<|au<|ci false gr 29<|zo J (a8 rQ)<|ap<|ae<|au<|ax J<|zo J (aR (ht J))<|zo J (gq 1 w8 J J J)<|zo J (yi zq J (.tail _ (.head _)) (.tail _ (.tail _ (.head _))) (ht J))<|zo J (bR ro (rx (ht J)))<|zo J (bg hI)<|ap<|av<|HF<|HH 61 J<|aP (k:=61) J fun hN=>bu ?_;refine er<|fe<|er<|er ?_;refine aG (ld (Z:=fun ls i out l2 c2=>(ob.kinds.drop i=ls)∧jQ ls out=some R) (Of:=fun _ i out l2 c2=>[cC gr 29 l2 c2 out,bx (rH aN [(1,an l c ob.kinds.length),(2,an l1 c1 ob.open_.length)]) 124 b ob,fA gr 29 l c ob.kinds,cC bV 3 l1 c1 ob.open_]) (Gf:=fun _ i out l2 c2=>[(10,nJ l2 c2 out),(61,d6 (gr) ob.kinds),(62,gR ob.kinds),(63,bQ (i:Int))]) (fun i out l2 c2 h=>?_) (fun e tl ih i out l2 c2 h=>?_) ob.kinds 0 MD none 0 ⟨J,h⟩) (aX J)
     ·obtain⟨hx,h⟩:=h
      refine aq<|au<|zo J (eD J J)<|ap<|ae<|bn (ht J) (cW hx)<|aY ?_;refine ac (ac (aC ?_));refine am<|au<|ax rfl<|bo rfl<|zo rfl (dA)<|zo rfl (dA)<|ap<|al<|lQ<|gy<|ii 10 rfl<|ii 73 rfl<|ii 2 rfl<|qe 2 rfl<|bv<|bv<|bv<|bv ?_;cases so h;exact mu J J J J
     ·obtain⟨hx,h⟩:=h
      refine aq<|au<|zo J (eD J J)<|ap<|ae<|bm (ht J) (cR hx)<|dz<|ae<|av<|au<|zo J (im ro bZ J J J (cS hx))<|zo J (bw bZ J J)<|bo J<|ap<|ai<|ax J<|ax J<|bF h fun r1 q_r1 h=>jj I9 (w9 _ q_r1) ⟨(ht J),be⟩ J fun l3 c3=>?_;refine m3<|oN 69 J<|zo J (ba (r:=rp) (ys:=[r1]) (xs:=[.tmp 69]) ro bZ J J J J J ⟨(rx (ht J)),be⟩)<|ca<|bF h fun out1 q_out1 h=>dv bZ J J J J ro J J (ht J) (ht J) q_out1 fun l4 c4=>bo J<|aH<|ak<|am<|ai<|zo rfl (jN (cy hx hN) rfl)<|ax rfl<|aH<|br<|bv ?_;exact aO (aG (ih (i+1) out1 l4 c4 ⟨cx hx,h⟩) (aX J))
   ·skip
    refine au<|ax J<|zo J (ep (ht J) hI)<|ax J<|bC J J (fun hg=>cz J)<|bC J J (fun hg=>aR (aI J hg))<|bC J J (fun hg=>bz (n:=2) nV J (aI J hg) J)<|bC J J (fun hg=>ku bZ J (.head _) (aI J hg))<|bC J J (fun hg=>eT dd (.tail _ (.tail _ (.head _))) (aI J hg))<|bC J J (fun hg=>cZ (aI J hg) hI)<|zo J (ki J J)<|ap<|dh h J (fun h=>?_) (fun h=>?_)
    ·refine ai<|ax J<|zo J (gJ n9 J)<|zo J (gj (ht J) hI)<|bo J<|aH ?_;exact bX (K1 (IntKind.i64.wrap ((nodes.length:Int)-(1:Int))) h) (aX J)
    ·refine bt ?_;exact bX (K1 wrong h) (aX J)
  ·skip
   refine aP (k:=25) J fun hN1=>bu<|fe<|n8 ?_;refine aG (y9 (Z:=fun ls1 i1 wrong2 ob1 l5 c5 l6 c6=>(nodes.drop i1=ls1)∧jP nodes r ls1 i1 wrong2 ob1=some R) (Of:=fun _ i1 wrong2 ob1 l5 c5 l6 c6=>[bx (rH aN [(1,an l5 c5 ob1.kinds.length),(2,an l6 c6 ob1.open_.length)]) 124 b ob1,fA gr 29 l5 c5 ob1.kinds,cC bV 3 l6 c6 ob1.open_]) (Gf:=fun _ i1 wrong2 ob1 l5 c5 l6 c6=>[(0,d6 (aS) nodes),(5,tV (aF b 0)),(6,Jz (fun y:(af→Unit→Option (Bool×af))=>ln (fun bb=>gG aM (fun(x:Unit)=>[tV (aF bb 0)]) (dl bb) kS y)) A7 r),(7,bQ wrong2),(25,d6 (aS) nodes),(26,gR nodes),(27,bQ (i1:Int))]) (fun i1 wrong2 ob1 l5 c5 l6 c6 h=>?_) (fun e1 tl1 ih1 i1 wrong2 ob1 l5 c5 l6 c6 h=>?_) nodes 0 my (⟨nodes,[],[],Ck,[],[],[]⟩:af) none 0 none 0 ⟨J,h⟩) (aX J)
   ·obtain⟨hx1,h⟩:=h
    refine aq<|au<|zo J (eD J J)<|ap<|ae<|bn (ht J) (cW hx1)<|aY ?_;refine ac (ac (aC ?_));exact bX (K wrong2 ob1 l5 c5 l6 c6 h) (aX J)
   ·obtain⟨hx1,h⟩:=h
    refine aq<|au<|zo J (eD J J)<|ap<|ae<|bm (ht J) (cR hx1)<|dz<|ae<|av<|au<|ax J<|zo J (im n9 eM J J J (cS hx1))<|zo J (bw eM J J)<|bc (r:=aS) (x:=Ck) eM (fun _=>eK _) J fun b1=>bo J<|aE eM J ay J (ht J) (ht J)<|aV 9 J<|ap<|ae ?_;refine ai<|ax J<|ax J<|ax J<|zo J (bY gN cT J J)<|zo J (bw bK J J)<|zo J (wd (γ:=(fun y:(af→Unit→Option (Bool×af))=>ln (fun bb=>gG aM (fun(x:Unit)=>[tV (aF bb 0)]) (dl bb) xu y))) (z:=(fun _ _=>none)) wD (ff iF) Ot (fun _ _=>GD) (ht J) (nU (ht J)))<|bF h fun r2 q_r2 h=>vM (EffOK.fr2 (EffOK.fr2 (EffOK.fr2 (vI (xs:=[.tmp 32,.tmp 33,.tmp 37]) (ts:=[tV (aF b 0),bQ (i1:Int),ln (fun bb=>gG aM (fun(x:Unit)=>[tV (aF bb 0)]) (dl bb) kS ((oW r e1.Op).getD (fun _ _=>none)))]) (dl b ob1 (G7 [(l5,c5),(l6,c6)])) _ J Sf (Pv b (G7 [(l5,c5),(l6,c6)]) ob1 _ _ q_r2) ⟨(ht J),(ht J),(ht J),be⟩ (fun _=>J))))) J fun i2=>?_;refine(show RG _ _ _ _ [bx (rH aN [(1,an (i2.h 0).1 (i2.h 0).2 r2.2.kinds.length),(2,an (i2.h 1).1 (i2.h 1).2 r2.2.open_.length)]) 124 b r2.2,fA gr 29 (i2.h 0).1 (i2.h 0).2 r2.2.kinds,cC bV 3 (i2.h 1).1 (i2.h 1).2 r2.2.open_] ((38,gu r2.1)::_)from ?_);refine zo J (dn (ht J))<|ap<|dh h J (fun h=>?_) (fun h=>?_)
    ·refine au<|ax J<|bo J<|ap<|aY ?_;refine bE J (ac (ac (aC ?_)));exact bX (K (i1:Int) r2.2 (i2.h 0).1 (i2.h 0).2 (i2.h 1).1 (i2.h 1).2 h) (aX J)
    ·refine bt<|ak<|am<|ai<|zo rfl (jN (cy hx1 hN1) rfl)<|ax rfl<|aH ?_;exact aO (aG (ih1 (i1+1) wrong2 r2.2 (i2.h 0).1 (i2.h 0).2 (i2.h 1).1 (i2.h 1).2 ⟨cx hx1,h⟩) (aX J))

theorem FL(c:Int){R:Bool}(h:pX c=some R):aW aM 226 [tD (rI .i32) c] (gu R):=by
 refine aW.of Tryz.func226 J J J fun w0 S0=>au<|zo J (eL)<|ap<|au<|ax J<|zo J (dG (ht J) hI)<|ax J<|bC J J (fun hg=>cz J)<|bC J J (fun hg=>hU (aI J hg) hI)<|zo J (ki J J)<|bo J<|ap<|al ?_;cases so h;exact aB J J

theorem Kq(s:(List gQ))(v:gQ){R:Int}(h:gW s v=some R):aW aM 279 [d6 (rS) s,tD rS v] (bQ R):=by
 refine aW.of Tryz.func279 J J J fun w0 S0=>au<|zo J (dA)<|ap<|ae<|au<|ax J<|zo J (gJ Tryz.underlying90 J)<|zo J (bg hI)<|ap<|av<|aP (k:=6) J fun hN=>bu ?_;refine aG (dk (Z:=fun ls i=>(s.drop i=ls)∧dB v ls i=some R) (Of:=fun _ i=>[]) (Gf:=fun _ i=>[(0,d6 (rS) s),(1,tD rS v),(7,gR s),(8,bQ (i:Int))]) (fun i h=>?_) (fun e tl ih i h=>?_) s 0 ⟨J,h⟩) (aX J)
 ·obtain⟨hx,h⟩:=h
  refine aq<|au<|zo J (eD J J)<|ap<|ae<|bn (ht J) (cW hx)<|aY ?_;refine ac (ac (aC ?_));refine am<|au<|zo rfl (dA)<|ap<|al ?_;cases so h;exact aB J J
 ·obtain⟨hx,h⟩:=h
  refine aq<|au<|zo J (eD J J)<|ap<|ae<|bm (ht J) (cR hx)<|dz<|ae<|av<|au<|ax J<|bo J<|ap<|au<|ax J<|ax J<|ax J<|zo J (im Tryz.underlying90 Cr J J J (cS hx)) ?_;refine zo J (bw Cr J J)<|zo J (wW (ht J) (ht J))<|ap<|dh h J (fun h=>?_) (fun h=>?_)
  ·refine au<|ax J<|bo J<|ap<|al ?_;refine aA (aa (aa (aA (aa ?_))));cases so h;exact aB J J
  ·refine bt<|ak<|am<|ai<|zo rfl (jN (cy hx hN) rfl)<|ax rfl<|aH ?_;exact aO (aG (ih (i+1) ⟨cx hx,h⟩) (aX J))

theorem Kw(s:(List gQ))(v:gQ){R:Bool}(h:gh s v=some R):aW aM 256 [d6 (rS) s,tD rS v] (gu R):=by
 refine aW.of Tryz.func256 J J J fun w0 S0=>au<|zo J (eL)<|ap<|au<|ax J<|ax J<|bF h fun r q_r h=>zo J (aJ PE (Kq _ _ q_r) ⟨(ht J),(ht J),be⟩)<|zo J (dG (ht J) hI)<|bo J<|ap<|al ?_;cases so h;exact aB J J

theorem KE(s:gQ){R:Bool}(h:qB s=some R):aW aM 227 [tD rS s] (gu R):=by
 refine aW.of Tryz.func227 J J J fun w0 S0=>au<|zo J (eL)<|ap<|au<|zo J (AQ (r:=jm rS 28) (x:=O7) gm2 gr2 (G0 Tryz.underlying292 Cr J Mk))<|ax J<|bF h fun r q_r h=>zo J (aJ PK (Kw _ _ q_r) ⟨(ht J),(ht J),be⟩)<|bo J<|ap<|al ?_;cases so h;exact aB J J

theorem KD(s:gQ){R:gQ}(h:gA s=some R):aW aM 228 [tD rS s] (tD rS R):=by
 unfold gA at h
 split at h
 ·rename_i hl
  cases h
  refine Dp fun w hw=>?_
  have:=Any.strings_ToUpper_any pG upX ⟨s.toArray⟩ w (by rw [F5];exact hl) hw.1 hw.2
  simp only [List.toList_toArray]at this
  exact this
 ·cases h

theorem KC(c:Int){R:Bool}(h:sA c=some R):aW aM 229 [tD (rI .i32) c] (gu R):=by
 refine aW.of Tryz.func229 J J J fun w0 S0=>au<|zo J (eL)<|ap<|au<|ax J<|zo J (dG (ht J) hI)<|ax J<|bC J J (fun hg=>cz J)<|bC J J (fun hg=>hU (aI J hg) hI)<|zo J (ki J J)<|bo J<|ap<|al ?_;cases so h;exact aB J J

theorem BJ(s:gQ){R:Bool}(h:mP s=some R):aW aM 169 [tD rS s] (gu R):=by
 refine aW.of Tryz.func169 J J J fun w0 S0=>au<|zo J (eL)<|ap<|ae<|au<|ax J<|zo J (wW (ht J) hS)<|ax J<|cw J J (fun hg=>cz J)<|cw J J (fun hg=>wV iU (aI J hg))<|cw J J (fun hg=>fG (aI J hg) hI)<|zo J (oQ J J)<|ax J<|bF h fun t q_t h=>cw J J (fun hg=>cz J) ?_
 obtain⟨b,h1t,h0t⟩:=og q_t
 have q_bg:=fun hb=>(h1t hb).1
 refine cw J J (fun hg=>G3 iU (aI J hg) hI (q_bg hg))<|cw J J (fun hg=>kL Gm Tryz.underlying21 (aI J hg)) ?_
 obtain⟨r,h1t⟩:=J6 (fun hb=>(h1t hb).2)
 have q_rg:=fun hb=>(h1t hb).1
 refine cw J J (fun hg=>aJ Mm (FL _ (q_rg hg)) ⟨(aI J hg),be⟩)<|cw J J (fun hg=>dn (aI J hg))<|zo J (dV (ht J) (fun hb=>(aI J (mz hb))) (fun hb=>(h1t hb).2) h0t)<|ax J<|bF h fun t1 q_t1 h=>cw J J (fun hg=>cz J) ?_
 obtain⟨r1,h1t1,h0t1⟩:=og q_t1
 have q_r1g:=fun hb=>(h1t1 hb).1
 refine cw J J (fun hg=>aJ PS (KD _ (q_r1g hg)) ⟨(aI J hg),be⟩) ?_
 obtain⟨r2,h1t1⟩:=J6 (fun hb=>(h1t1 hb).2)
 have q_r2g:=fun hb=>(h1t1 hb).1
 refine cw J J (fun hg=>aJ PT (KE _ (q_r2g hg)) ⟨(aI J hg),be⟩)<|zo J (dV (ht J) (fun hb=>(aI J (mz hb))) (fun hb=>(h1t1 hb).2) h0t1)<|ap<|dh h J (fun h=>?_) (fun h=>?_)
 ·refine au<|zo J (eL)<|ap<|al<|aa ?_;cases so h;exact aB J J
 ·refine dz<|ae<|au<|ax J<|Du iU (ht J) J fun rg=>ap<|av<|bu ?_;refine aG (Oa (β:=Int×Int) (Z:=fun ls=>lb ls=some R) (Of:=fun ls=>[zu rg s ls]) (Gf:=[(25,tV (aF rg 0))]) (fun ls h ih=>?_) (CE s) h) (aX J);refine aq<|au ?_;refine EW (ht J) J (fun hl=>?_) (fun e tl hk=>?_)
  ·subst hl
   refine zo J (Bs (ht J))<|ap<|ae<|bn (ht J) J<|aY ?_;refine ac (ac (aC ?_));refine am<|au<|zo rfl (eL)<|ap<|al<|bv ?_;cases so h;exact aB J J
  ·subst hk
   refine zo J (s3 (i:=0) J (ht J))<|ap<|ae<|bm (ht J) J<|dz<|av<|au<|zo J (s3 (i:=2) J (ht J))<|bo J<|ap<|au<|ax J<|bF h fun r3 q_r3 h=>zo J (aJ PR (KC _ q_r3) ⟨(ht J),be⟩)<|zo J (dn (ht J))<|ax J<|bF h fun t2 q_t2 h=>bC J J (fun hg=>cz J) ?_
   obtain⟨r4,h1t2,h0t2⟩:=og q_t2
   have q_r4g:=fun hb=>(h1t2 hb).1
   refine bC J J (fun hg=>aJ Mm (FL _ (q_r4g hg)) ⟨(aI J hg),be⟩)<|bC J J (fun hg=>dn (aI J hg))<|zo J (cV (ht J) (fun hb=>(aI J hb)) (fun hb=>(h1t2 hb).2) h0t2)<|ax J<|bC J J (fun hg=>cz J)<|bC J J (fun hg=>cZ (aI J hg) hI)<|zo J (ki J J)<|ap<|dh h J (fun h=>?_) (fun h=>?_)
   ·refine au<|zo J (eL)<|ap<|al ?_;refine aA (aa (aA (aa ?_)));refine bv ?_;cases so h;exact aB J J
   ·refine bt<|ak ?_;exact aO (aG (ih tl (by simp) h) (aX J))

theorem Ku(s:(List aU))(f:(aU→Option Bool)){R:Int}(h:ed s f=some R):aW aM 263 [d6 (bO) s,(eN aM wE kS (fun(x:aU)=>f x))] (bQ R):=by
 refine aW.of Tryz.func263 J J J fun w0 S0=>au<|zo J (dA)<|ap<|ae<|au<|ax J<|zo J (gJ pw J)<|zo J (bg hI)<|ap<|av<|aP (k:=6) J fun hN=>bu ?_;refine aG (dk (Z:=fun ls i=>(s.drop i=ls)∧b8 f ls i=some R) (Of:=fun _ i=>[]) (Gf:=fun _ i=>[(0,d6 (bO) s),(1,(eN aM wE kS (fun(x:aU)=>f x))),(7,gR s),(8,bQ (i:Int))]) (fun i h=>?_) (fun e tl ih i h=>?_) s 0 ⟨J,h⟩) (aX J)
 ·obtain⟨hx,h⟩:=h
  refine aq<|au<|zo J (eD J J)<|ap<|ae<|bn (ht J) (cW hx)<|aY ?_;refine ac (ac (aC ?_));refine am<|au<|zo rfl (dA)<|ap<|al ?_;cases so h;exact aB J J
 ·obtain⟨hx,h⟩:=h
  refine aq<|au<|zo J (eD J J)<|ap<|ae<|bm (ht J) (cR hx)<|dz<|ae<|av<|au<|ax J<|bo J<|ap<|au<|ax J<|ax J<|ax J<|zo J (im pw k5 J J J (cS hx)) ?_;refine zo J (bw k5 J J)<|bF h fun r q_r h=>zo J (fK (args:=wE) (res:=xu) (f:=(fun(x:aU)=>f x)) (x:=((e):aU)) (ht J) q_r ⟨(ht J),be⟩)<|ap<|dh h J (fun h=>?_) (fun h=>?_)
  ·refine au<|ax J<|bo J<|ap<|al ?_;refine aA (aa (aa (aA (aa ?_))));cases so h;exact aB J J
  ·refine bt<|ak<|am<|ai<|zo rfl (jN (cy hx hN) rfl)<|ax rfl<|aH ?_;exact aO (aG (ih (i+1) ⟨cx hx,h⟩) (aX J))

theorem Kt(of:(aU→Option gQ))(name:gQ)(p:aU){R:Bool}(h:dD of name p=some R):aW aM 264 [tD bO p,bp (rT ((eN aM wE sN (fun(x:aU)=>of x)))) (),bp rS name] (gu R):=by
 refine aW.of Tryz.func264 J J J fun w0 S0=>au<|zo J (kZ J)<|zo J (eL)<|ap<|ae<|bF h fun r q_r h=>?_
 refine eb (ts:=[_,_,_,_,_,_]) mixed J J
  ⟨gF 1 J J J (yk OJ (ht J)),
  ⟨gF 3 J J J (bw k5 J J),
  ⟨eu 5 0 6 1 J J J J (fK (args:=wE) (res:=sN) (f:=(fun(x:aU)=>of x)) (x:=((p):aU)) (ht J) q_r ⟨(ht J),be⟩),
  ⟨gF 2 J J J (bw Cr J J),
  ⟨eu 7 2 8 3 J J J J (wW (ht J) (ht J)),
  ⟨cL 9 4 J J J (xx J),
  be⟩⟩⟩⟩⟩⟩ ?_
 refine am<|al ?_;cases so h;exact aB J J

theorem KB(l:(List aU))(of:(aU→Option gQ))(name:gQ){R:Int×Bool}(h:gx l of name=some R):aW aM 230 [d6 (bO) l,(eN aM wE sN (fun(x:aU)=>of x)),tD rS name] (tT [bQ R.1,gu R.2]):=by
 refine aW.of Tryz.func230 J J J fun w0 S0=>au<|zo J (Fy (ht J))<|zo J (kZ J)<|zo J (dA)<|zo J (eL)<|ap<|au<|ax J<|zo J ((show bL _ _ _ _ ((eN aM wE kS (fun(x:aU)=>(dD of name) x)))from gk (cts:=[bp (rT ((eN aM wE sN (fun(x:aU)=>of x)))) (),bp rS name]) (caps:=[.tmp 4,.tmp 5]) PI ⟨(ht J),(ht J),be⟩ (fun x y h=>Kt _ _ _ h)))<|bF h fun r q_r h=>zo J (aJ PJ (Ku _ _ q_r) ⟨(ht J),(ht J),be⟩)<|bo J<|ap<|au<|ax J<|zo J (wU (ht J) hI)<|ax J<|zo J (dG (ht J) hI) ?_;refine bo J<|bo J<|ap<|al ?_;cases so h;exact d5 J J J

theorem Lc(l:(List aU))(of:(aU→Option gQ)){R:Bool}(h:jh l of=some R):aW aM 170 [d6 (bO) l,(eN aM wE sN (fun(x:aU)=>of x))] (gu R):=by
 refine aW.of Tryz.func170 J J J fun w0 S0=>au<|zo J (eL)<|ap<|ae<|au<|ax J<|zo J (gJ pw J)<|zo J (bg hI)<|ap<|av<|aP (k:=9) J fun hN=>bu ?_;refine aG (dk (Z:=fun ls i=>(l.drop i=ls)∧eh l of ls i=some R) (Of:=fun _ i=>[]) (Gf:=fun _ i=>[(0,d6 (bO) l),(1,(eN aM wE sN (fun(x:aU)=>of x))),(9,d6 (bO) l),(10,gR l),(11,bQ (i:Int))]) (fun i h=>?_) (fun e tl ih i h=>?_) l 0 ⟨J,h⟩) (aX J)
 ·obtain⟨hx,h⟩:=h
  refine aq<|au<|zo J (eD J J)<|ap<|ae<|bn (ht J) (cW hx)<|aY ?_;refine ac (ac (aC ?_));refine am<|au<|zo rfl (eL)<|ap<|al ?_;cases so h;exact aB J J
 ·obtain⟨hx,h⟩:=h
  refine aq<|au<|zo J (eD J J)<|ap<|ae<|bm (ht J) (cR hx)<|dz<|ae<|av<|au<|ax J<|zo J (im pw k5 J J J (cS hx))<|zo J (bw k5 J J)<|bc (r:=bO) (x:=HV) k5 (fun _=>mE _) J fun b=>bo J<|aE k5 J ay J (ht J) (ht J)<|aV 6 J<|ap<|ae ?_;refine ai<|ax J<|ax J<|ax J<|zo J (bw k5 J J)<|bF h fun r q_r h=>zo J (fK (args:=wE) (res:=sN) (f:=(fun(x:aU)=>of x)) (x:=((e):aU)) (ht J) q_r ⟨(ht J),be⟩)<|bF h fun r1 q_r1 h=>zo J (aJ PQ (KB _ _ _ q_r1) ⟨(ht J),(ht J),(ht J),be⟩)<|ax J<|zo J (lg J J)<|zo J (lg J J)<|bo J<|bo J<|ap<|au<|ax J<|ax J<|zo J (cZ (ht J) (ht J))<|ax J<|bF h fun t q_t h=>cw J J (fun hg=>cz J) ?_;refine cw J J (fun hg=>bw k5 J J) ?_
  obtain⟨r2,h1t,h0t⟩:=og q_t
  have q_r2g:=fun hb=>(h1t hb).1
  refine cw J J (fun hg=>fK (args:=wE) (res:=sN) (f:=(fun(x:aU)=>of x)) (x:=((e):aU)) (aI J hg) (q_r2g hg) ⟨(aI J hg),be⟩) ?_
  obtain⟨r3,h1t⟩:=J6 (fun hb=>(h1t hb).2)
  have q_r3g:=fun hb=>(h1t hb).1
  refine cw J J (fun hg=>aJ Ja (BJ _ (q_r3g hg)) ⟨(aI J hg),be⟩)<|cw J J (fun hg=>dn (aI J hg))<|zo J (dV (ht J) (fun hb=>(aI J (mz hb))) (fun hb=>(h1t hb).2) h0t)<|ap<|dh h J (fun h=>?_) (fun h=>?_)
  ·refine au<|zo J (eL)<|ap<|al ?_;refine aA (aa (aa (aA (aa ?_))));cases so h;exact aB J J
  ·refine bt<|ak<|am<|ai<|zo rfl (jN (cy hx hN) rfl)<|ax rfl<|aH ?_;exact aO (aG (ih (i+1) ⟨cx hx,h⟩) (aX J))

theorem La(c:aU){R:gQ}(h:dI c=some R):aW aM 171 [tD bO c] (tD rS R):=by
 refine aW.of Tryz.func171 J J J fun w0 S0=>au<|zo J (kZ J)<|zo J (a8 hS)<|ap<|au<|zo J (bY Nr C9 J J)<|zo J (bw Cr J J)<|bo J<|ap<|al ?_;cases so h;exact aB J J

theorem KZ(kind:Int){R:gQ}(h:nX kind=some R):aW aM 172 [bQ kind] (tD rS R):=by
 refine aW.of Tryz.func172 J J J fun w0 S0=>au<|zo J (a8 hS)<|ap<|ae<|au<|zo J (AQ (r:=(jm qq 3)) (x:=Nk) gm0 gr0 (aL OH J J Mk))<|zo J (bg hI)<|ap<|av<|bu ?_;refine aG (Ge (Z:=fun k i=>(3-i=k)∧gE kind k i=some R) (Of:=fun _ i=>[]) (Gf:=fun _ i=>[(0,bQ kind),(5,tD (jm qq 3) Nk),(6,bQ (i:Int))]) (fun i h=>?_) (fun k1 ih i h=>?_) 3 0 ⟨J,h⟩) (aX J)
 ·obtain⟨hx,h⟩:=h
  refine aq<|au<|zo J (ep (ht J) hI)<|ap<|ae<|bn (ht J) (Nb hx)<|aY ?_;refine ac (ac (aC ?_));refine am<|au<|zo rfl (a8 hS)<|ap<|al ?_;cases so h;exact aB J J
 ·obtain⟨hx,h⟩:=h
  refine aq<|au<|zo J (ep (ht J) hI)<|ap<|ae<|bm (ht J) (Na hx)<|dz<|ae<|av<|au<|bF h fun e1 q_e1 h=>zo J (G4 Tryz.underlying271 H6 J J (ht J) (ht J) q_e1)<|bc (r:=qq) (x:=(⟨[],(0:Int)⟩:ze)) H6 (fun _=>JD _) J fun b=>aE H6 J ay J (ht J) (ht J)<|aV 4 J<|ap<|au<|zo J (bY Kj Hk J J) ?_;refine zo J (bw bK J J)<|ax J<|zo J (bD (ht J) (ht J))<|ap<|dh h J (fun h=>?_) (fun h=>?_)
  ·refine au<|zo J (bY Kk Hl J J)<|zo J (bw Cr J J)<|bo J<|ap<|al ?_;refine aA (aa (aa (aA (aa ?_))));cases so h;exact aB J J
  ·refine bt<|ak<|am<|ai<|zo rfl (uy (J9 hx (by decide)) (ht rfl) hI)<|ax rfl<|aH ?_;exact aO (aG (ih (i+1) ⟨J8 hx,h⟩) (aX J))

theorem LB(t:bj){R:Int}(h:jE t=some R):aW aM 106 [tD bU t] (bQ R):=by
 refine aW.of Tryz.func106 J J J fun w0 S0=>au<|zo J (kZ J)<|zo J (dA)<|ap<|au<|zo J (bY IN yB J J)<|zo J (bw Cr J J)<|bF h fun r q_r h=>zo J (aJ Ja (BJ _ q_r) ⟨(ht J),be⟩)<|ax J<|bC J J (fun hg=>bY pD jz J J)<|bC J J (fun hg=>aL zr J J (aI J hg))<|bC J J (fun hg=>bR pw (aI J hg))<|bC J J (fun hg=>dG (aI J hg) hI)<|zo J (ki J J)<|ax J<|bC J J (fun hg=>bY pD jz J J)<|bC J J (fun hg=>aL zr J J (aI J hg))<|bC J J (fun hg=>bR pw (aI J hg))<|bC J J (fun hg=>hU (aI J hg) hI) ?_;refine zo J (ki J J)<|ax J<|bF h fun t1 q_t1 h=>bC J J (fun hg=>bY pD jz J J)<|bC J J (fun hg=>aL zr J J (aI J hg)) ?_
 obtain⟨r1,h1t1,h0t1⟩:=og q_t1
 have q_r1g:=fun hb=>(h1t1 hb).1
 refine bC J J (fun hg=>aJ Qr (Lc _ _ (q_r1g hg)) ⟨(aI J hg),(zM Qq fun x y h=>La _ h),be⟩)<|zo J (cV (ht J) (fun hb=>(aI J hb)) (fun hb=>(h1t1 hb).2) h0t1)<|bo J<|ap<|ae<|au<|zo J (bY pD jz J J)<|zo J (bw zr J J)<|zo J (gJ pw J)<|zo J (bg hI)<|ap<|av<|aP (k:=29) J fun hN=>bu ?_;refine aG (kB (Z:=fun ls i ok=>(t.Columns.drop i=ls)∧eJ t ls ok=some R) (Of:=fun _ i ok=>[]) (Gf:=fun _ i ok=>[(1,bp bU t),(3,gu ok),(29,d6 (bO) t.Columns),(30,gR t.Columns),(31,bQ (i:Int))]) (fun i ok h=>?_) (fun e tl ih i ok h=>?_) t.Columns 0 t1 ⟨J,h⟩) (aX J)
 ·obtain⟨hx,h⟩:=h
  refine aq<|au<|zo J (eD J J)<|ap<|ae<|bn (ht J) (cW hx)<|aY ?_;refine ac (ac (aC ?_));refine am<|ae<|au<|zo rfl (bY tM mS rfl rfl)<|zo rfl (bw bZ rfl rfl)<|zo rfl (gJ dd rfl)<|zo rfl (bg hI)<|ap<|av<|aP (k:=44) J fun hN1=>bu ?_;refine aG (kB (Z:=fun ls1 i1 ok1=>(t.Keys.drop i1=ls1)∧dW t ls1 i1 ok1=some R) (Of:=fun _ i1 ok1=>[]) (Gf:=fun _ i1 ok1=>[(1,bp bU t),(3,gu ok1),(44,kC t.Keys),(45,gR t.Keys),(46,bQ (i1:Int))]) (fun i1 ok1 h=>?_) (fun e1 tl1 ih1 i1 ok1 h=>?_) t.Keys 0 ok ⟨J,h⟩) (aX J)
  ·obtain⟨hx1,h⟩:=h
   refine aq<|au<|zo J (eD J J)<|ap<|ae<|bn (ht J) (cW hx1)<|aY ?_;refine ac (ac (aC ?_));refine am<|ae<|au<|ax rfl<|zo rfl (dn (ht rfl))<|ap<|dh h rfl (fun h=>?_) (fun h=>?_)
   ·refine au<|zo J (dA)<|ap<|al<|aa ?_;cases so h;exact aB J J
   ·refine dz<|au<|zo J (dA)<|ap<|al ?_;cases so h;exact aB J J
  ·obtain⟨hx1,h⟩:=h
   refine aq<|au<|zo J (eD J J)<|ap<|ae<|bm (ht J) (cR hx1)<|dz<|ae<|av<|au<|ax J<|zo J (im dd bK J J J (cS hx1))<|zo J (bw bK J J)<|bo J<|bo J<|ap<|ai<|ax J<|ax J ?_;refine bC J J (fun hg=>cz J)<|bC J J (fun hg=>dG (aI J hg) hI)<|zo J (ki J J)<|ax J<|bC J J (fun hg=>cz J)<|bC J J (fun hg=>bY pD jz J J)<|bC J J (fun hg=>aL zr J J (aI J hg))<|bC J J (fun hg=>bR pw (aI J hg))<|bC J J (fun hg=>ep (aI J hg) (aI J hg))<|zo J (ki J J)<|ax J<|bF h fun t2 q_t2 h=>bC J J (fun hg=>cz J)<|bC J J (fun hg=>bD (aI J hg) hI)<|bC J J (fun hg=>bg (aI J hg)) ?_
   obtain⟨t3,h1t2,h0t2⟩:=og q_t2
   have q_t3g:=fun hb=>(h1t2 hb).1
   refine cb J J J J (fun hg=>bY tM mS J J)<|cb J J J J (fun hg=>aL bZ J J (aI J hg))<|cb J J J J (fun hg=>cz J)<|cb J J J J (fun hg=>gj (aI J hg) hI) ?_
   obtain⟨e2,h1t3,h0t3⟩:=Rq q_t3g
   have q_e2g:=fun hb=>(h1t3 hb).1
   refine cb J J J J (fun hg=>b9 dd bK J (aI J hg) (aI J hg) (q_e2g hg))<|cb J J J J (fun hg=>aL bK J J (aI J hg))<|cb J J J J (fun hg=>cz J)<|cb J J J J (fun hg=>ep (aI J hg) (aI J hg))<|bC J J (fun hg=>dV (aI J hg) (fun hb=>(aI J (pF hg (mz hb)))) (fun hb=>(h1t3 (pF hg hb)).2) (fun hb=>h0t3 hg hb))<|zo J (cV (ht J) (fun hb=>(aI J hb)) (fun hb=>(h1t2 hb).2) h0t2)<|bo J<|aH<|ak<|am<|ai<|zo rfl (jN (cy hx1 hN1) rfl)<|ax rfl<|aH ?_;exact aO (aG (ih1 (i1+1) t2 ⟨cx hx1,h⟩) (aX J))
 ·obtain⟨hx,h⟩:=h
  refine aq<|au<|zo J (eD J J)<|ap<|ae<|bm (ht J) (cR hx)<|dz<|ae<|av<|au<|zo J (im pw k5 J J J (cS hx))<|zo J (bw k5 J J)<|bc (r:=bO) (x:=HV) k5 (fun _=>mE _) J fun b=>aE k5 J ay J (ht J) (ht J)<|aV 5 J<|ap<|ai<|ax J<|ax J ?_;refine bF h fun t4 q_t4 h=>bC J J (fun hg=>bY BD pe J J)<|bC J J (fun hg=>aL bK J J (aI J hg)) ?_
  obtain⟨r2,h1t4,h0t4⟩:=og q_t4
  have q_r2g:=fun hb=>(h1t4 hb).1
  refine bC J J (fun hg=>aJ Qp (KZ _ (q_r2g hg)) ⟨(aI J hg),be⟩)<|bC J J (fun hg=>J2 (aI J hg) hS)<|zo J (cV (ht J) (fun hb=>(aI J hb)) (fun hb=>(h1t4 hb).2) h0t4)<|bo J<|aH<|ak<|am<|ai<|zo rfl (jN (cy hx hN) rfl)<|ax rfl<|aH ?_;exact aO (aG (ih (i+1) t4 ⟨cx hx,h⟩) (aX J))

theorem LC(t:bj){R:Bool}(h:iu t=some R):aW aM 105 [tD bU t] (gu R):=by
 refine aW.of Tryz.func105 J J J fun w0 S0=>au<|zo J (kZ J)<|zo J (eL)<|ap<|au<|zo J (bw kG J J)<|bF h fun r q_r h=>zo J (aJ QW (LB _ q_r) ⟨(ht J),be⟩)<|zo J (qZ J)<|bo J<|ap<|al ?_;cases so h;exact aB J J

theorem FO(s:(List bj))(f:(bj→Option Bool)){R:Int}(h:cQ s f=some R):aW aM 173 [d6 (bU) s,(eN aM Fc kS (fun(x:bj)=>f x))] (bQ R):=by
 refine aW.of Tryz.func173 J J J fun w0 S0=>au<|zo J (dA)<|ap<|ae<|au<|ax J<|zo J (gJ mw J)<|zo J (bg hI)<|ap<|av<|aP (k:=6) J fun hN=>bu ?_;refine aG (dk (Z:=fun ls i=>(s.drop i=ls)∧bI f ls i=some R) (Of:=fun _ i=>[]) (Gf:=fun _ i=>[(0,d6 (bU) s),(1,(eN aM Fc kS (fun(x:bj)=>f x))),(7,gR s),(8,bQ (i:Int))]) (fun i h=>?_) (fun e tl ih i h=>?_) s 0 ⟨J,h⟩) (aX J)
 ·obtain⟨hx,h⟩:=h
  refine aq<|au<|zo J (eD J J)<|ap<|ae<|bn (ht J) (cW hx)<|aY ?_;refine ac (ac (aC ?_));refine am<|au<|zo rfl (dA)<|ap<|al ?_;cases so h;exact aB J J
 ·obtain⟨hx,h⟩:=h
  refine aq<|au<|zo J (eD J J)<|ap<|ae<|bm (ht J) (cR hx)<|dz<|ae<|av<|au<|ax J<|bo J<|ap<|au<|ax J<|ax J<|ax J<|zo J (im mw kG J J J (cS hx)) ?_;refine zo J (bw kG J J)<|bF h fun r q_r h=>zo J (fK (args:=Fc) (res:=xu) (f:=(fun(x:bj)=>f x)) (x:=((e):bj)) (ht J) q_r ⟨(ht J),be⟩)<|ap<|dh h J (fun h=>?_) (fun h=>?_)
  ·refine au<|ax J<|bo J<|ap<|al ?_;refine aA (aa (aa (aA (aa ?_))));cases so h;exact aB J J
  ·refine bt<|ak<|am<|ai<|zo rfl (jN (cy hx hN) rfl)<|ax rfl<|aH ?_;exact aO (aG (ih (i+1) ⟨cx hx,h⟩) (aX J))

end Go.Proofs.YtmogpgcfognefaaGreatDoor

