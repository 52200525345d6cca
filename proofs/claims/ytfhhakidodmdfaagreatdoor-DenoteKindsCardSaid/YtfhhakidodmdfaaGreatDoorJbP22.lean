/- db of this claim: P22. -/
import Derived.Test.YtfhhakidodmdfaaGreatDoorJbT
import Derived.Test.YtfhhakidodmdfaaGreatDoorJbP21
set_option linter.all false
namespace Go.Proofs.YtfhhakidodmdfaaGreatDoor
open Go
set_option maxRecDepth 100000

theorem U2(s:(List aX))(f:(aX→Option Bool)){R:Int}(h:gr s f=some R):aU aO 200 [ca (bG) s,(dn aO S4 ko (fun(x:aX)=>f x))] (bM R):=by
 refine aU.of Tryz.func200 J J J fun w0 S0=>au<|zo J (cw)<|aq<|ah<|au<|aF J<|zo J (iM uq J)<|zo J (bD hI)<|aq<|ay<|ba (k:=6) J fun hN=>bI ?_;refine aS (dQ (Z:=fun ls i=>(s.drop i=ls)∧cY f ls i=some R) (Of:=fun _ i=>[]) (Gf:=fun _ i=>[(0,ca (bG) s),(1,(dn aO S4 ko (fun(x:aX)=>f x))),(7,jk s),(8,bM (i:Int))]) (fun i h=>?_) (fun e tl ih i h=>?_) s 0 ⟨J,h⟩) (bv J)
 ·obtain⟨hx,h⟩:=h
  refine aC<|au<|zo J (fD J J)<|aq<|ah<|bz (ht J) (di hx)<|bu ?_;refine ai (ai (aN ?_));refine aw<|au<|zo rfl (cw)<|aq<|ak ?_;cases so h;exact aG J J
 ·obtain⟨hx,h⟩:=h
  refine aC<|au<|zo J (fD J J)<|aq<|ah<|bw (ht J) (dg hx)<|dS<|ah<|ay<|au<|aF J<|bp J<|aq<|au<|aF J<|aF J<|aF J<|zo J (lX uq oB J J J (cS hx)) ?_;refine zo J (bB oB J J)<|bC h fun r q_r h=>zo J (fJ (args:=S4) (res:=Bz) (f:=(fun(x:aX)=>f x)) (x:=((e):aX)) (ht J) q_r ⟨(ht J),aT⟩)<|aq<|c9 h J (fun h=>?_) (fun h=>?_)
  ·refine au<|aF J<|bp J<|aq<|ak ?_;refine aA (ae (ae (aA (ae ?_))));cases so h;exact aG J J
  ·refine bA<|ap<|aw<|av<|zo rfl (lY (cA hx hN) rfl)<|aF rfl<|aQ ?_;exact bf (aS (ih (i+1) ⟨cz hx,h⟩) (bv J))

theorem Vv(s:(List aX))(f:(aX→Option Bool)){R:Bool}(h:fL s f=some R):aU aO 121 [ca (bG) s,(dn aO S4 ko (fun(x:aX)=>f x))] (ig R):=by
 refine aU.of Tryz.func121 J J J fun w0 S0=>au<|zo J (jj)<|aq<|au<|aF J<|aF J<|bC h fun r q_r h=>zo J (aD aba (U2 _ _ q_r) ⟨(ht J),(ht J),aT⟩)<|zo J (iu (ht J) hI)<|bp J<|aq<|ak ?_;cases so h;exact aG J J

theorem Vu(n:aX){R:Bool}(h:xq n=some R):aU aO 122 [tD bG n] (ig R):=by
 refine aU.of Tryz.func122 J J J fun w0 S0=>au<|zo J (je J)<|zo J (jj)<|aq<|au<|zo J (cW pb gU J J)<|zo J (bB cr J J)<|bC h fun r q_r h=>zo J (aD WH (Oo _ q_r) ⟨(ht J),aT⟩)<|bp J<|aq<|ak ?_;cases so h;exact aG J J

theorem X5(e:br){R:Bool}(h:BZ e=some R):aU aO 68 [tD bT e] (ig R):=by
 refine aU.of Tryz.func68 J J J fun w0 S0=>au<|zo J (je J)<|zo J (jj)<|aq<|au<|zo J (bB jC J J)<|bC h fun r q_r h=>zo J (aD VJ (Io _ q_r) ⟨(ht J),aT⟩)<|zo J (np J)<|aF J<|bC h fun t q_t h=>dC J J (fun hg=>cW ow ke J J)<|dC J J (fun hg=>bJ yz J J (bK J hg)) ?_
 obtain⟨r1,h1t,h0t⟩:=og q_t
 have q_r1g:=fun hb=>(h1t hb).1
 refine dC J J (fun hg=>aD abL (Vv _ _ (q_r1g hg)) ⟨(bK J hg),(yF abK fun x y h=>Vu _ h),aT⟩)<|dC J J (fun hg=>fS (bK J hg))<|zo J (d4 (ht J) (fun hb=>(bK J hb)) (fun hb=>(h1t hb).2) h0t)<|bp J<|aq<|ak ?_;cases so h;exact aG J J

theorem X6(e:br){R:Bool}(h:gj e=some R):aU aO 67 [tD bT e] (ig R):=by
 refine aU.of Tryz.func67 J J J fun w0 S0=>au<|zo J (je J)<|zo J (jj)<|aq<|au<|zo J (cW ow ke J J)<|zo J (bB yz J J)<|zo J (iM uq J)<|zo J (gu (ht J) hI)<|aF J<|bC h fun t q_t h=>dC J J (fun hg=>bB jC J J) ?_
 obtain⟨r,h1t,h0t⟩:=og q_t
 have q_rg:=fun hb=>(h1t hb).1
 refine dC J J (fun hg=>aD acr (X5 _ (q_rg hg)) ⟨(bK J hg),aT⟩)<|dC J J (fun hg=>fS (bK J hg))<|zo J (d4 (ht J) (fun hb=>(bK J hb)) (fun hb=>(h1t hb).2) h0t)<|bp J<|aq<|ak ?_;cases so h;exact aG J J

theorem X4(unsafe1:(br→Option Bool))(a1:ea){R:Bool}(h:oe unsafe1 a1=some R):aU aO 69 [tD eg a1,bO (rT ((dn aO I8 ko (fun(x:br)=>unsafe1 x)))) ()] (ig R):=by
 refine aU.of Tryz.func69 J J J fun w0 S0=>au<|zo J (je J)<|zo J (jj)<|aq<|au<|zo J (cW xn rm J J)<|zo J (bB cr J J)<|zo J (np J)<|aF J<|bC h fun t q_t h=>gD J J (fun hg=>pV QA (ht J))<|gD J J (fun hg=>cW zJ te J J)<|gD J J (fun hg=>bJ jC J J (bK J hg)) ?_
 obtain⟨r,h1t,h0t⟩:=og q_t
 have q_rg:=fun hb=>(h1t hb).1
 refine gD J J (fun hg=>fJ (args:=I8) (res:=Bz) (f:=(fun(x:br)=>unsafe1 x)) (x:=((a1.Arg):br)) (bK J hg) (q_rg hg) ⟨(bK J hg),aT⟩)<|zo J (ir (ht J) (fun hb=>(bK J (wv hb))) (fun hb=>(h1t hb).2) h0t)<|bp J<|aq<|ak ?_;cases so h;exact aG J J

theorem Vt(s:(List br))(f:(br→Option Bool)){R:Int}(h:gO s f=some R):aU aO 124 [ca (bT) s,(dn aO I8 ko (fun(x:br)=>f x))] (bM R):=by
 refine aU.of Tryz.func124 J J J fun w0 S0=>au<|zo J (cw)<|aq<|ah<|au<|aF J<|zo J (iM vu J)<|zo J (bD hI)<|aq<|ay<|ba (k:=6) J fun hN=>bI ?_;refine aS (dQ (Z:=fun ls i=>(s.drop i=ls)∧dl f ls i=some R) (Of:=fun _ i=>[]) (Gf:=fun _ i=>[(0,ca (bT) s),(1,(dn aO I8 ko (fun(x:br)=>f x))),(7,jk s),(8,bM (i:Int))]) (fun i h=>?_) (fun e tl ih i h=>?_) s 0 ⟨J,h⟩) (bv J)
 ·obtain⟨hx,h⟩:=h
  refine aC<|au<|zo J (fD J J)<|aq<|ah<|bz (ht J) (di hx)<|bu ?_;refine ai (ai (aN ?_));refine aw<|au<|zo rfl (cw)<|aq<|ak ?_;cases so h;exact aG J J
 ·obtain⟨hx,h⟩:=h
  refine aC<|au<|zo J (fD J J)<|aq<|ah<|bw (ht J) (dg hx)<|dS<|ah<|ay<|au<|aF J<|bp J<|aq<|au<|aF J<|aF J<|aF J<|zo J (lX vu jC J J J (cS hx)) ?_;refine zo J (bB jC J J)<|bC h fun r q_r h=>zo J (fJ (args:=I8) (res:=Bz) (f:=(fun(x:br)=>f x)) (x:=((e):br)) (ht J) q_r ⟨(ht J),aT⟩)<|aq<|c9 h J (fun h=>?_) (fun h=>?_)
  ·refine au<|aF J<|bp J<|aq<|ak ?_;refine aA (ae (ae (aA (ae ?_))));cases so h;exact aG J J
  ·refine bA<|ap<|aw<|av<|zo rfl (lY (cA hx hN) rfl)<|aF rfl<|aQ ?_;exact bf (aS (ih (i+1) ⟨cz hx,h⟩) (bv J))

theorem X3(s:(List br))(f:(br→Option Bool)){R:Bool}(h:ed s f=some R):aU aO 70 [ca (bT) s,(dn aO I8 ko (fun(x:br)=>f x))] (ig R):=by
 refine aU.of Tryz.func70 J J J fun w0 S0=>au<|zo J (jj)<|aq<|au<|aF J<|aF J<|bC h fun r q_r h=>zo J (aD abJ (Vt _ _ q_r) ⟨(ht J),(ht J),aT⟩)<|zo J (iu (ht J) hI)<|bp J<|aq<|ak ?_;cases so h;exact aG J J

theorem Vs(s:(List ea))(f:(ea→Option Bool)){R:Int}(h:il s f=some R):aU aO 125 [ca (eg) s,(dn aO Qn ko (fun(x:ea)=>f x))] (bM R):=by
 refine aU.of Tryz.func125 J J J fun w0 S0=>au<|zo J (cw)<|aq<|ah<|au<|aF J<|zo J (iM uE J)<|zo J (bD hI)<|aq<|ay<|ba (k:=6) J fun hN=>bI ?_;refine aS (dQ (Z:=fun ls i=>(s.drop i=ls)∧dI f ls i=some R) (Of:=fun _ i=>[]) (Gf:=fun _ i=>[(0,ca (eg) s),(1,(dn aO Qn ko (fun(x:ea)=>f x))),(7,jk s),(8,bM (i:Int))]) (fun i h=>?_) (fun e tl ih i h=>?_) s 0 ⟨J,h⟩) (bv J)
 ·obtain⟨hx,h⟩:=h
  refine aC<|au<|zo J (fD J J)<|aq<|ah<|bz (ht J) (di hx)<|bu ?_;refine ai (ai (aN ?_));refine aw<|au<|zo rfl (cw)<|aq<|ak ?_;cases so h;exact aG J J
 ·obtain⟨hx,h⟩:=h
  refine aC<|au<|zo J (fD J J)<|aq<|ah<|bw (ht J) (dg hx)<|dS<|ah<|ay<|au<|aF J<|bp J<|aq<|au<|aF J<|aF J<|aF J<|zo J (lX uE rW J J J (cS hx)) ?_;refine zo J (bB rW J J)<|bC h fun r q_r h=>zo J (fJ (args:=Qn) (res:=Bz) (f:=(fun(x:ea)=>f x)) (x:=((e):ea)) (ht J) q_r ⟨(ht J),aT⟩)<|aq<|c9 h J (fun h=>?_) (fun h=>?_)
  ·refine au<|aF J<|bp J<|aq<|ak ?_;refine aA (ae (ae (aA (ae ?_))));cases so h;exact aG J J
  ·refine bA<|ap<|aw<|av<|zo rfl (lY (cA hx hN) rfl)<|aF rfl<|aQ ?_;exact bf (aS (ih (i+1) ⟨cz hx,h⟩) (bv J))

theorem X2(s:(List ea))(f:(ea→Option Bool)){R:Bool}(h:eG s f=some R):aU aO 71 [ca (eg) s,(dn aO Qn ko (fun(x:ea)=>f x))] (ig R):=by
 refine aU.of Tryz.func71 J J J fun w0 S0=>au<|zo J (jj)<|aq<|au<|aF J<|aF J<|bC h fun r q_r h=>zo J (aD abI (Vs _ _ q_r) ⟨(ht J),(ht J),aT⟩)<|zo J (iu (ht J) hI)<|bp J<|aq<|ak ?_;cases so h;exact aG J J

theorem Yg(l:bN){R:Bool}(h:vQ l=some R):aU aO 22 [tD cZ l] (ig R):=by
 refine aU.of Tryz.func22 J J J fun w0 S0=>au<|zo J (je J)<|zo J (jj)<|aq<|ah<|au<|zo J (bB oW J J)<|bC h fun r q_r h=>zo J (aD YH (ME _ q_r) ⟨(ht J),aT⟩)<|aF J<|zo J (hY J J)<|zo J (hY J J)<|bp J<|bp J<|aq<|au<|aF J<|zo J (tJ J) ?_;refine aq<|c9 h J (fun h=>?_) (fun h=>?_)
 ·refine au<|zo J (jj)<|aq<|ak<|ae ?_;cases so h;exact aG J J
 ·refine dS<|au<|aZ (r:=rV) (x:= .nilFunc) QA (fun _=>⟨J,J⟩) J fun b=>uj (mI (r' :=rT (O3)) (x' :=()) (q:=rT (O3)) (y:=()) QA J (uR J) J (ht J) (hTT Tz (show aJ _ _ _ (O3)from(yF acs fun x y h=>X6 _ h)))) fun _=>?_;refine(show RG _ _ _ _ (bx (rT (O3)) 53 b ()::_) _ from ?_);refine aW 5 J<|aq<|ah<|au<|zo J (cW qG kz J J)<|zo J (bB BD J J)<|zo J (iM uF J)<|zo J (bD hI)<|aq<|ay<|ba (k:=17) J fun hN=>bI ?_;refine aS (dQ (Z:=fun ls i=>(l.Nodes.drop i=ls)∧oH ls=some R) (Of:=fun _ i=>[]) (Gf:=fun _ i=>[(5,bO (rT (O3)) ()),(17,ca (aI) l.Nodes),(18,jk l.Nodes),(19,bM (i:Int))]) (fun i h=>?_) (fun e tl ih i h=>?_) l.Nodes 0 ⟨J,h⟩) (bv J)
  ·obtain⟨hx,h⟩:=h
   refine aC<|au<|zo J (fD J J)<|aq<|ah<|bz (ht J) (di hx)<|bu ?_;refine ai (ai (aN ?_));refine aw<|au<|zo rfl (jj)<|aq<|ak ?_;cases so h;exact aG J J
  ·obtain⟨hx,h⟩:=h
   refine aC<|au<|zo J (fD J J)<|aq<|ah<|bw (ht J) (dg hx)<|dS<|ah<|ay<|au<|zo J (lX uF gN J J J (cS hx))<|zo J (bB gN J J)<|aZ (r:=aI) (x:=Ho) gN (fun _=>ny _) J fun b1=>ax gN J an J (ht J) (ht J)<|aW 7 J<|aq<|au<|zo J ((show bP _ _ _ _ ((dn aO Qn ko (fun(x:ea)=>(oe gj) x)))from hJ (cts:=[bO (rT (O3)) ()]) (caps:=[.tmp 5]) acq ⟨(ht J),aT⟩ (fun x y h=>X4 _ _ h))) ?_;refine bp J<|aq<|au<|zo J (pV QA (ht J))<|zo J (cW tg mB J J)<|zo J (bB jC J J)<|bC h fun r1 q_r1 h=>zo J (fJ (args:=I8) (res:=Bz) (f:=(fun(x:br)=>gj x)) (x:=((e.Cond):br)) (ht J) q_r1 ⟨(ht J),aT⟩)<|aF J<|bC h fun t q_t h=>gD J J (fun hg=>cW p7 lu J J)<|gD J J (fun hg=>bJ zl J J (bK J hg))<|gD J J (fun hg=>pV QA (ht J)) ?_
   obtain⟨r2,h1t,h0t⟩:=og q_t
   have q_r2g:=fun hb=>(h1t hb).1
   refine gD J J (fun hg=>aD acp (X3 _ _ (q_r2g hg)) ⟨(bK J hg),(bK J hg),aT⟩)<|zo J (ir (ht J) (fun hb=>(bK J (wv hb))) (fun hb=>(h1t hb).2) h0t)<|aF J<|bC h fun t1 q_t1 h=>gD J J (fun hg=>cW p8 mz J J)<|gD J J (fun hg=>bJ Ar J J (bK J hg))<|gD J J (fun hg=>dA J) ?_
   obtain⟨r3,h1t1,h0t1⟩:=og q_t1
   have q_r3g:=fun hb=>(h1t1 hb).1
   refine gD J J (fun hg=>aD aco (X2 _ _ (q_r3g hg)) ⟨(bK J hg),(bK J hg),aT⟩)<|zo J (ir (ht J) (fun hb=>(bK J (wv hb))) (fun hb=>(h1t1 hb).2) h0t1)<|aq<|c9 h J (fun h=>?_) (fun h=>?_)
   ·refine au<|zo J (jj)<|aq<|ak ?_;refine aA (ae (ae (aA (ae ?_))));cases so h;exact aG J J
   ·refine bA<|ap<|aw<|av<|zo rfl (lY (cA hx hN) rfl)<|aF rfl<|aQ ?_;exact bf (aS (ih (i+1) ⟨cz hx,h⟩) (bv J))

theorem ZU(l:bN)(b:eD){R:Bool}(h:nr l b=some R):aU aO 4 [tD cZ l,tD kG b] (ig R):=by
 refine aU.of Tryz.func4 J J J fun w0 S0=>au<|zo J (je J)<|zo J (je J)<|zo J (jj)<|aq<|ah<|au<|bC h fun r q_r h=>zo J (aD acM (Yu q_r) trivial)<|zo J (fS (ht J))<|aq<|c9 h J (fun h=>?_) (fun h=>?_)
 ·refine au<|zo J (jj)<|aq<|ak<|ae ?_;cases so h;exact aG J J
 ·refine dS<|ah<|au<|zo J (bB HA J J)<|bC h fun r1 q_r1 h=>zo J (aD acL (Yt _ q_r1) ⟨(ht J),aT⟩)<|aF J<|bC h fun t q_t h=>gD J J (fun hg=>bB oW J J)<|gD J J (fun hg=>bB HA J J) ?_
  obtain⟨r2,h1t,h0t⟩:=og q_t
  have q_r2g:=fun hb=>(h1t hb).1
  refine gD J J (fun hg=>aD acK (Ys _ _ (q_r2g hg)) ⟨(bK J hg),(bK J hg),aT⟩)<|zo J (ir (ht J) (fun hb=>(bK J (wv hb))) (fun hb=>(h1t hb).2) h0t)<|aq<|c9 h J (fun h=>?_) (fun h=>?_)
  ·refine au<|zo J (jj)<|aq<|ak<|ae ?_;cases so h;exact aG J J
  ·refine dS<|au<|zo J (bB oW J J)<|zo J (bB HA J J)<|bC h fun r3 q_r3 h=>zo J (aD aby (R0 _ _ q_r3) ⟨(ht J),(ht J),aT⟩)<|aF J<|zo J (hY J J)<|zo J (hY J J)<|bp J<|bp J<|aq<|ah<|au<|aF J<|zo J (tJ J)<|aq<|c9 h J (fun h=>?_) (fun h=>?_)
   ·refine au<|aF J<|zo J (iM jW J)<|zo J (np J)<|aF J<|bC h fun t1 q_t1 h=>dC J J (fun hg=>dA J)<|dC J J (fun hg=>fj (bK J hg) hI)<|dC J J (fun hg=>bD (bK J hg)) ?_
    obtain⟨t2,h1t1,h0t1⟩:=og q_t1
    have q_t2g:=fun hb=>(h1t1 hb).1
    refine qd J J J J (fun hg=>bB oW J J) ?_
    obtain⟨r4,h1t2,h0t2⟩:=og3 q_t2g
    have q_r4g:=fun hb=>(h1t2 hb).1
    refine qd J J J J (fun hg=>aD acI (Yg _ (q_r4g hg)) ⟨(bK J hg),aT⟩)<|qd J J J J (fun hg=>fS (bK J hg))<|dC J J (fun hg=>ir (bK J hg) (fun hb=>(bK J (Bi hg (wv hb)))) (fun hb=>(h1t2 (Bi hg hb)).2) (fun hb=>h0t2 hg hb))<|zo J (d4 (ht J) (fun hb=>(bK J hb)) (fun hb=>(h1t1 hb).2) h0t1)<|bp J<|aq<|ak<|ae ?_;cases so h;exact aG J J
   ·refine dS<|au<|zo J (bB oW J J)<|bC h fun r5 q_r5 h=>zo J (aD aaS (RQ _ q_r5) ⟨(ht J),aT⟩)<|aF J<|zo J (hY J J)<|zo J (hY J J)<|bp J<|bp J<|aq<|ah<|au<|aF J<|zo J (tJ J)<|aq<|c9 h J (fun h=>?_) (fun h=>?_)
    ·refine au<|zo J (jj)<|aq<|ak<|ae ?_;cases so h;exact aG J J
    ·refine dS<|ah<|au<|aF J<|zo J (iM jW J)<|zo J (bD hI)<|aq<|ay<|ba (k:=48) J fun hN=>bI ?_;refine aS (dQ (Z:=fun ls i=>(r3.1.drop i=ls)∧hT r5 ls=some R) (Of:=fun _ i=>[]) (Gf:=fun _ i=>[(7,lW r5.1),(48,ca (dj) r3.1),(49,jk r3.1),(50,bM (i:Int))]) (fun i h=>?_) (fun e tl ih i h=>?_) r3.1 0 ⟨J,h⟩) (bv J)
     ·obtain⟨hx,h⟩:=h
      refine aC<|au<|zo J (fD J J)<|aq<|ah<|bz (ht J) (di hx)<|bu ?_;refine ai (ai (aN ?_));refine aw<|au<|zo rfl (jj)<|aq<|ak ?_;cases so h;exact aG J J
     ·obtain⟨hx,h⟩:=h
      refine aC<|au<|zo J (fD J J)<|aq<|ah<|bw (ht J) (dg hx)<|dS<|ah<|ay<|au<|zo J (lX jW d3 J J J (cS hx))<|zo J (bB d3 J J)<|bp J<|aq<|ah<|au<|aF J<|zo J (iM iK J) ?_;refine aF J<|zo J (iM gM J)<|zo J (fj (ht J) (ht J))<|aq<|c9 h J (fun h=>?_) (fun h=>?_)
      ·refine au<|zo J (jj)<|aq<|ak ?_;refine ae (aA (ae (ae (aA (ae ?_)))));cases so h;exact aG J J
      ·refine dS<|au<|aF J<|zo J (iM iK J)<|zo J (bD hI)<|aq<|ay<|ba (k:=59) J fun hN1=>bI ?_;refine aS (dQ (Z:=fun ls1 i1=>(e.drop i1=ls1)∧js r5 (hT r5 tl) ls1 i1=some R) (Of:=fun _ i1=>[]) (Gf:=fun _ i1=>[(7,lW r5.1),(48,ca (dj) r3.1),(49,jk r3.1),(50,bM (i:Int)),(59,ca (af) e),(60,jk e),(61,bM (i1:Int))]) (fun i1 h=>?_) (fun e1 tl1 ih1 i1 h=>?_) e 0 ⟨J,h⟩) (bv J)
       ·obtain⟨hx1,h⟩:=h
        refine aC<|au<|zo J (fD J J)<|aq<|ah<|bz (ht J) (di hx1)<|bu ?_;refine ai (ai (aN ?_));refine ap<|aw<|av<|zo rfl (lY (cA hx hN) rfl)<|aF rfl<|aQ ?_;exact bf (aS (ih (i+1) ⟨cz hx,h⟩) (bv J))
       ·obtain⟨hx1,h⟩:=h
        refine aC<|au<|zo J (fD J J)<|aq<|ah<|bw (ht J) (dg hx1)<|dS<|ah<|ay<|au<|aF J<|zo J (lX iK aH J J J (cS hx1))<|zo J (bB aH J J)<|aZ (r:=af) (x:=ie) aH (fun _=>bh _) J fun b1=>bp J<|ax aH J an J (ht J) (ht J)<|aW 11 J<|aq<|ah ?_
        obtain⟨t3,q_t3,h⟩:=bs h
        obtain⟨e2,h1t3,h0t3⟩:=og q_t3
        have q_e2g:=fun hb=>(h1t3 hb).1
        refine cU (ts:=[_,_,_,_,_,_,_,_,_,_,_,_]) mixed J J
         ⟨fd 11 J J J (cW gK cy J J),
         ⟨bW 66 0 J J J (bB cr J J),
         ⟨bW 67 1 J J J (tJ J),
         ⟨bW 68 2 J J J (dA J),
         ⟨q5 11 69 3 J J J J (dY J J J J (fun hg=>cW gK cy J J)),
         ⟨lh 70 4 69 3 J J J J (dY J J J J (fun hg=>bJ cr J J (bK J hg))),
         ⟨q5 7 69 3 J J J J (dY J J J J (fun hg=>dA J)),
         ⟨q5 10 69 3 J J J J (dY J J J J (fun hg=>dA J)),
         ⟨tK 72 6 73 7 69 3 J J J J J (dY J J J J (fun hg=>bq gM cr J (bK J hg) (bK J hg) (q_e2g hg))),
         ⟨lh 74 8 69 3 J J J J (dY J J J J (fun hg=>bJ cr J J (bK J hg))),
         ⟨tK 71 5 75 9 69 3 J J J J J (dY J J J J (fun hg=>fj (bK J hg) (bK J hg))),
         ⟨d8 69 3 76 10 J J J J (d4 (ht J) (fun hb=>(bK J hb)) (fun hb=>(h1t3 hb).2) h0t3),
         aT⟩⟩⟩⟩⟩⟩⟩⟩⟩⟩⟩⟩ ?_
        refine aw<|c9 h rfl (fun h=>?_) (fun h=>?_)
        ·refine au<|zo J (jj)<|aq<|ak ?_;refine aA (ae (ae (aA (aA (ae (ae (aA (ae ?_))))))));cases so h;exact aG J J
        ·refine bA<|ap<|aw<|av<|zo rfl (lY (cA hx1 hN1) rfl)<|aF rfl<|aQ ?_;exact bf (aS (ih1 (i1+1) ⟨cz hx1,h⟩) (bv J))

end Go.Proofs.YtfhhakidodmdfaaGreatDoor

