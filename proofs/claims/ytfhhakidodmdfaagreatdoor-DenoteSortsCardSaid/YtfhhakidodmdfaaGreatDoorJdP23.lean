/- da of this claim: P23. -/
import Derived.Test.YtfhhakidodmdfaaGreatDoorJdT
import Derived.Test.YtfhhakidodmdfaaGreatDoorJdP22
set_option linter.all false
namespace Go.Proofs.YtfhhakidodmdfaaGreatDoor
open Go
set_option maxRecDepth 100000

theorem U7(s:(List (List ac)))(f:((List ac)→Option Bool)){R:Int}(h:ig s f=some R):aU aO 151 [bR (cK) s,(dK aO IW kN (fun(x:(List ac))=>f x))] (bH R):=by
 refine aU.of Tryz.func151 J J J fun w0 S0=>au<|zo J (cq)<|aq<|ah<|au<|aF J<|zo J (iw gR J)<|zo J (bJ hI)<|aq<|ay<|ba (k:=6) J fun hN=>bG ?_;refine aT (eH (Z:=fun ls i=>(s.drop i=ls)∧dL f ls i=some R) (Of:=fun _ i=>[]) (Gf:=fun _ i=>[(0,bR (cK) s),(1,(dK aO IW kN (fun(x:(List ac))=>f x))),(7,kg s),(8,bH (i:Int))]) (fun i h=>?_) (fun e tl ih i h=>?_) s 0 ⟨J,h⟩) (bt J)
 ·obtain⟨hx,h⟩:=h
  refine aC<|au<|zo J (fG J J)<|aq<|ah<|bA (ht J) (dC hx)<|bu ?_;refine ai (ai (aN ?_));refine av<|au<|zo rfl (cq)<|aq<|ak ?_;cases so h;exact aG J J
 ·obtain⟨hx,h⟩:=h
  refine aC<|au<|zo J (fG J J)<|aq<|ah<|bz (ht J) (du hx)<|dR<|ah<|ay<|au<|aF J<|bm J<|aq<|au<|aF J<|aF J<|aF J<|zo J (lq gR cO J J J (cW hx)) ?_;refine zo J (bB cO J J)<|bv h fun r q_r h=>zo J (fN (args:=SV) (res:=CQ) (f:=(fun(x:(List ac))=>f x)) (x:=((e):(List ac))) (ht J) q_r ⟨(ht J),aR⟩)<|aq<|cU h J (fun h=>?_) (fun h=>?_)
  ·refine au<|aF J<|bm J<|aq<|ak ?_;refine aD (ae (ae (aD (ae ?_))));cases so h;exact aG J J
  ·refine bw<|ap<|av<|aw<|zo rfl (mI (cQ hx hN) rfl)<|aF rfl<|aQ ?_;exact bg (aT (ih (i+1) ⟨cP hx,h⟩) (bt J))

theorem Ry(s:(List (List ac)))(f:((List ac)→Option Bool)){R:Bool}(h:cS s f=some R):aU aO 85 [bR (cK) s,(dK aO IW kN (fun(x:(List ac))=>f x))] (gY R):=by
 refine aU.of Tryz.func85 J J J fun w0 S0=>au<|zo J (jE)<|aq<|au<|aF J<|aF J<|bv h fun r q_r h=>zo J (aA aa8 (U7 _ _ q_r) ⟨(ht J),(ht J),aR⟩)<|zo J (hT (ht J) hI)<|bm J<|aq<|ak ?_;cases so h;exact aG J J

theorem Vg(r:(List ac)){R:Int}(h:xJ r=some R):aU aO 128 [bR (af) r] (bH R):=by
 refine aU.of Tryz.func128 J J J fun w0 S0=>au<|zo J (cq)<|aq<|ah<|au<|aF J<|bv h fun r1 q_r1 h=>zo J (aA Vx (H9 _ q_r1) ⟨(ht J),aR⟩)<|zo J (ei (ht J))<|aq<|cU h J (fun h=>?_) (fun h=>?_)
 ·refine au<|zo J (cq)<|aq<|ak<|ae ?_;cases so h;exact aG J J
 ·refine dR<|au<|zo J (cq)<|aq<|ak ?_;cases so h;exact aG J J

theorem Vh(r:(List ac)){R:Bool}(h:lP r=some R):aU aO 127 [bR (af) r] (gY R):=by
 refine aU.of Tryz.func127 J J J fun w0 S0=>au<|zo J (jE)<|aq<|au<|aF J<|bv h fun r1 q_r1 h=>zo J (aA abh (Vg _ q_r1) ⟨(ht J),aR⟩)<|zo J (tE J)<|bm J<|aq<|ak ?_;cases so h;exact aG J J

theorem RA(rows:(List (List ac))){R:Bool}(h:mA rows=some R):aU aO 74 [bR (cK) rows] (gY R):=by
 refine aU.of Tryz.func74 J J J fun w0 S0=>au<|zo J (jE)<|aq<|au<|zo J (aJ (show aI _ _ _ ((dK aO IW kN (fun(x:(List ac))=>lP x)))from(yX abi fun x y h=>Vh _ h)))<|aq<|au<|aF J<|zo J (iw gR J)<|zo J (lL (ht J) hI)<|aF J<|bv h fun t q_t h=>cR J J (fun hg=>cD J)<|cR J J (fun hg=>cD J) ?_
 obtain⟨r,h1t,h0t⟩:=og q_t
 have q_rg:=fun hb=>(h1t hb).1
 refine cR J J (fun hg=>aA ZA (Ry _ _ (q_rg hg)) ⟨(bD J hg),(bD J hg),aR⟩)<|cR J J (fun hg=>ei (bD J hg))<|zo J (dP (ht J) (fun hb=>(bD J hb)) (fun hb=>(h1t hb).2) h0t)<|bm J<|aq<|ak ?_;cases so h;exact aG J J

theorem U8(r:(List ac))(o:dn){R:Bool}(h:rZ r o=some R):aU aO 150 [tD d3 o,bK cK r] (gY R):=by
 refine aU.of Tryz.func150 J J J fun w0 S0=>au<|zo J (jw J)<|zo J (jE)<|aq<|au<|zo J (cY uv ow J J)<|zo J (bB cv J J)<|zo J (fa (ht J) hI)<|aF J<|gI J J (fun hg=>cY uv ow J J)<|gI J J (fun hg=>bM cv J J (bD J hg))<|gI J J (fun hg=>bB cO J J)<|gI J J (fun hg=>dW gc (bD J hg))<|gI J J (fun hg=>hT (bD J hg) (bD J hg))<|zo J (yr J J)<|bm J<|aq<|ak ?_;cases so h;exact aG J J

theorem MA(r:(List ac))(order:(List dn)){R:Bool}(h:qv r order=some R):aU aO 84 [bR (af) r,bR (d3) order] (gY R):=by
 refine aU.of Tryz.func84 J J J fun w0 S0=>au<|zo J (jw J)<|zo J (jE)<|aq<|au<|aF J<|zo J ((show bO _ _ _ _ ((dK aO OW kN (fun(x:dn)=>(rZ r) x)))from fW (cts:=[bK cK r]) (caps:=[.tmp 2]) aa9 ⟨(ht J),aR⟩ (fun x y h=>U8 _ _ h)))<|bv h fun r1 q_r1 h=>zo J (aA Ws (Oj _ _ q_r1) ⟨(ht J),(ht J),aR⟩)<|zo J (ei (ht J))<|bm J<|aq<|ak ?_;cases so h;exact aG J J

theorem XG(order:(List dn))(r:(List ac)){R:Bool}(h:oy order r=some R):aU aO 83 [bR (af) r,bK IT order] (gY R):=by
 refine aU.of Tryz.func83 J J J fun w0 S0=>au<|zo J (jE)<|aq<|au<|aF J<|zo J (bB wt J J)<|bv h fun r1 q_r1 h=>zo J (aA Ym (MA _ _ q_r1) ⟨(ht J),(ht J),aR⟩)<|zo J (ei (ht J))<|bm J<|aq<|ak ?_;cases so h;exact aG J J

theorem XU(rows:(List (List ac)))(order:(List dn))(limit:Int){R:(List (List ac))×Int}(h:t8 rows order limit=some R):aU aO 29 [bR (cK) rows,bR (d3) order,bH limit] (tT [bR (cK) R.1,bH R.2]):=by
 refine aU.of Tryz.func29 J J J fun w0 S0=>au<|zo J (jw J)<|zo J (aJ (show aI _ _ _ uj from jA))<|zo J (cq)<|aq<|au<|zo J ((show bO _ _ _ _ ((dK aO IW kN (fun(x:(List ac))=>(oy order) x)))from fW (cts:=[bK IT order]) (caps:=[.tmp 4]) abX ⟨(ht J),aR⟩ (fun x y h=>XG _ _ h)))<|bm J<|aq<|ah<|au<|aF J<|bv h fun r q_r h=>zo J (aA ZC (RA _ q_r) ⟨(ht J),aR⟩)<|zo J (ei (ht J))<|aF J<|gI J J (fun hg=>bB wt J J)<|gI J J (fun hg=>dW uC (bD J hg)) ?_;refine gI J J (fun hg=>jm (bD J hg) hI)<|zo J (yr J J)<|aF J<|gI J J (fun hg=>cD J)<|gI J J (fun hg=>fa (bD J hg) hI)<|zo J (yr J J)<|aF J<|bv h fun t q_t h=>gI J J (fun hg=>cD J)<|gI J J (fun hg=>cD J) ?_
 obtain⟨r1,h1t,h0t⟩:=og q_t
 have q_r1g:=fun hb=>(h1t hb).1
 refine gI J J (fun hg=>aA ZA (Ry _ _ (q_r1g hg)) ⟨(bD J hg),(bD J hg),aR⟩)<|zo J (ko (ht J) (fun hb=>(bD J (yA hb))) (fun hb=>(h1t hb).2) h0t)<|aq<|cU h J (fun h=>?_) (fun h=>?_)
 ·refine au<|zo J (aJ (show aI _ _ _ uj from jA))<|zo J (cq)<|aq<|ak<|ae ?_;cases so h;exact cC J J J
 ·refine dR<|au<|aF J<|zo J (bB wt J J)<|aF J<|bv h fun r2 q_r2 h=>iv Zz (NZ _ _ _ q_r2) ⟨(ht J),(ht J),(ht J),aR⟩ J fun l c=>bm J<|zo J (cq)<|aq<|ak<|jb<|cw 6 J<|cw 30 J<|jd 6 J<|bk ?_;cases so h;exact cC J J J

theorem XT(c:(List dn))(r:(List ac)){R:Bool}(h:db c r=some R):aU aO 30 [bR (af) r,bK IT c] (gY R):=by
 refine aU.of Tryz.func30 J J J fun w0 S0=>au<|zo J (jE)<|aq<|ah<|au<|zo J (bB wt J J)<|zo J (iw uC J)<|zo J (bJ hI)<|aq<|ay<|ba (k:=6) J fun hN=>bG ?_;refine aT (eH (Z:=fun ls i=>(c.drop i=ls)∧ir r ls=some R) (Of:=fun _ i=>[]) (Gf:=fun _ i=>[(0,bR (af) r),(6,bR (d3) c),(7,kg c),(8,bH (i:Int))]) (fun i h=>?_) (fun e tl ih i h=>?_) c 0 ⟨J,h⟩) (bt J)
 ·obtain⟨hx,h⟩:=h
  refine aC<|au<|zo J (fG J J)<|aq<|ah<|bA (ht J) (dC hx)<|bu ?_;refine ai (ai (aN ?_));refine av<|au<|aF rfl<|bv h fun r1 q_r1 h=>zo J (aA acf (XR _ q_r1) ⟨(ht J),aR⟩)<|bm J<|aq<|ak ?_;cases so h;exact aG J J
 ·obtain⟨hx,h⟩:=h
  refine aC<|au<|zo J (fG J J)<|aq<|ah<|bz (ht J) (du hx)<|dR<|ah<|ay<|au<|zo J (lq uC zg J J J (cW hx))<|zo J (bB zg J J)<|bc (r:=d3) (x:=(⟨(0:Int),false⟩:dn)) zg (fun _=>Qi _) J fun b=>ax zg J an J (ht J) (ht J)<|aZ 5 J<|aq<|au<|zo J (cY uv ow J J) ?_;refine zo J (bB cv J J)<|zo J (fa (ht J) hI)<|aF J<|gI J J (fun hg=>cY uv ow J J)<|gI J J (fun hg=>bM cv J J (bD J hg))<|gI J J (fun hg=>cD J)<|gI J J (fun hg=>dW gc (bD J hg))<|gI J J (fun hg=>hT (bD J hg) (bD J hg))<|zo J (yr J J)<|aq<|cU h J (fun h=>?_) (fun h=>?_)
  ·refine au<|zo J (jE)<|aq<|ak ?_;refine aD (ae (ae (aD (ae ?_))));cases so h;exact aG J J
  ·refine bw<|ap<|av<|aw<|zo rfl (mI (cQ hx hN) rfl)<|aF rfl<|aQ ?_;exact bg (aT (ih (i+1) ⟨cP hx,h⟩) (bt J))

theorem XQ(a1:(List ac))(b:(List ac))(order:(List dn)){R:Bool}(h:r0 a1 b order=some R):aU aO 33 [bR (af) a1,bR (af) b,bR (d3) order] (gY R):=by
 refine aU.of Tryz.func33 J J J fun w0 S0=>au<|zo J (jE)<|aq<|ah<|au<|aF J<|aF J<|zo J (aV (r:=cK) (ys:=[a1,b]) (xs:=[.tmp 7,.tmp 8]) gR cO J J J J J ⟨(ht J),(ht J),aR⟩)<|bv h fun r q_r h=>zo J (aA ZC (RA _ q_r) ⟨(ht J),aR⟩)<|zo J (ei (ht J))<|aF J<|bv h fun t q_t h=>gI J J (fun hg=>cD J)<|gI J J (fun hg=>cD J) ?_
 obtain⟨r1,h1t,h0t⟩:=og q_t
 have q_r1g:=fun hb=>(h1t hb).1
 refine gI J J (fun hg=>aA Ym (MA _ _ (q_r1g hg)) ⟨(bD J hg),(bD J hg),aR⟩)<|gI J J (fun hg=>ei (bD J hg))<|zo J (ko (ht J) (fun hb=>(bD J (yA hb))) (fun hb=>(h1t hb).2) h0t)<|aF J<|bv h fun t1 q_t1 h=>gI J J (fun hg=>cD J)<|gI J J (fun hg=>cD J) ?_
 obtain⟨r2,h1t1,h0t1⟩:=og q_t1
 have q_r2g:=fun hb=>(h1t1 hb).1
 refine gI J J (fun hg=>aA Ym (MA _ _ (q_r2g hg)) ⟨(bD J hg),(bD J hg),aR⟩)<|gI J J (fun hg=>ei (bD J hg))<|zo J (ko (ht J) (fun hb=>(bD J (yA hb))) (fun hb=>(h1t1 hb).2) h0t1)<|aq<|cU h J (fun h=>?_) (fun h=>?_)
 ·refine au<|zo J (jE)<|aq<|ak<|ae ?_;cases so h;exact aG J J
 ·refine dR<|au<|aF J<|bv h fun r3 q_r3 h=>zo J (aA Zy (Rx _ q_r3) ⟨(ht J),aR⟩)<|aF J<|aF J<|bv h fun r4 q_r4 h=>zo J (fN (args:=S3) (res:=Qj) (f:=(fun(x:(List ac)×(List ac))=>r3 x.1 x.2)) (x:=((a1,b):(List ac)×(List ac))) (ht J) q_r4 ⟨(ht J),(ht J),aR⟩)<|bv h fun r5 q_r5 h=>zo J (aA Yl (Mz _ _ q_r5) ⟨(ht J),hI,aR⟩)<|zo J (fa (ht J) hI)<|bm J<|aq<|ak ?_;cases so h;exact aG J J

theorem Zh(rows:(List (List ac)))(order:(List dn))(limit:Int){R:Bool}(h:ne rows order limit=some R):aU aO 6 [bR (cK) rows,bR (d3) order,bH limit] (gY R):=by
 refine aU.of Tryz.func6 J J J fun w0 S0=>au<|zo J (jw J)<|zo J (jE)<|aq<|ah<|au<|bv h fun r q_r h=>zo J (aA acn (Yb q_r) trivial)<|zo J (ei (ht J))<|aq<|cU h J (fun h=>?_) (fun h=>?_)
 ·refine au<|zo J (jE)<|aq<|ak<|ae ?_;cases so h;exact aG J J
 ·refine dR<|ah<|au<|aF J<|bv h fun r1 q_r1 h=>zo J (aA aci (XW _ _ q_r1) ⟨(ht J),hI,aR⟩)<|aF J<|gI J J (fun hg=>bB wt J J)<|gI J J (fun hg=>dW uC (bD J hg))<|gI J J (fun hg=>jm (bD J hg) hI)<|zo J (yr J J)<|aq<|cU h J (fun h=>?_) (fun h=>?_)
  ·refine au<|zo J (jE)<|aq<|ak<|ae ?_;cases so h;exact aG J J
  ·refine dR<|au<|aF J<|zo J (bB wt J J)<|aF J<|bv h fun r2 q_r2 h=>zo J (aA ach (XU _ _ _ q_r2) ⟨(ht J),(ht J),(ht J),aR⟩)<|aF J<|zo J (hZ J J)<|zo J (hZ J J)<|bm J<|bm J<|aq<|au<|zo J ((show bO _ _ _ _ ((dK aO IW kN (fun(x:(List ac))=>(db order) x)))from fW (cts:=[bK IT order]) (caps:=[.tmp 4]) acg ⟨(ht J),aR⟩ (fun x y h=>XT _ _ h)))<|bm J<|aq<|au ?_;refine zo J (bB wt J J)<|zo J (iw uC J)<|zo J (lL (ht J) hI)<|aF J<|cR J J (fun hg=>cD J)<|cR J J (fun hg=>hT (bD J hg) hI)<|zo J (rE J J)<|bm J<|aq<|ah<|au<|aF J<|zo J (iw gR J)<|zo J (bJ hI)<|aq<|ay<|ba (k:=41) J fun hN=>bG ?_;refine aT (nO (Z:=fun ls i ok=>(rows.drop i=ls)∧gV rows order limit r2 ls ok=some R) (Of:=fun _ i ok=>[]) (Gf:=fun _ i ok=>[(0,bR (cK) rows),(2,bH limit),(4,bK IT order),(7,bR (cK) r2.1),(8,bH r2.2),(9,(dK aO IW kN (fun(x:(List ac))=>(db order) x))),(10,gY ok),(41,bR (cK) rows),(42,kg rows),(43,bH (i:Int))]) (fun i ok h=>?_) (fun e tl ih i ok h=>?_) rows 0 ((decide ((order.length:Int)≤(3:Int)))&&(decide (uH≤limit))) ⟨J,h⟩) (bt J)
   ·obtain⟨hx,h⟩:=h
    refine aC<|au<|zo J (fG J J)<|aq<|ah<|bA (ht J) (dC hx)<|bu ?_;refine ai (ai (aN ?_));refine av<|ah<|au<|zo rfl (cq)<|aq<|ay<|ba (k:=0) J fun hN1=>bG ?_;refine aT (eH (Z:=fun ls1 i1=>(rows.drop i1=ls1)∧eS rows order limit r2 ok ls1 i1=some R) (Of:=fun _ i1=>[]) (Gf:=fun _ i1=>[(0,bR (cK) rows),(2,bH limit),(4,bK IT order),(7,bR (cK) r2.1),(8,bH r2.2),(9,(dK aO IW kN (fun(x:(List ac))=>(db order) x))),(10,gY ok),(13,bH (i1:Int))]) (fun i1 h=>?_) (fun e1 tl1 ih1 i1 h=>?_) (rows.drop (1)) 1 ⟨J,h⟩) (bt J)
    ·obtain⟨hx1,h⟩:=h
     refine aC<|ah<|au<|aF J<|aF J<|zo J (iw gR J)<|zo J (fG J J)<|aq<|bA (ht J) (dC hx1)<|bu ?_;refine ai (ai (aN ?_));refine av<|ah<|au<|aF rfl<|zo rfl (ei (ht rfl))<|aq<|cU h rfl (fun h=>?_) (fun h=>?_)
     ·refine au<|aF J<|zo J (iw gR J)<|zo J (lU J)<|aF J<|cR J J (fun hg=>cD J)<|cR J J (fun hg=>dd (bD J hg) hI)<|zo J (rE J J)<|bm J<|aq<|ak<|ae ?_;cases so h;exact aG J J
     ·refine dR<|au<|aF J<|zo J (lU J)<|aF J<|bv h fun t q_t h=>cR J J (fun hg=>cD J)<|cR J J (fun hg=>cD J)<|cR J J (fun hg=>bB wt J J)<|cR J J (fun hg=>cD J) ?_
      obtain⟨r3,h1t,h0t⟩:=og q_t
      have q_r3g:=fun hb=>(h1t hb).1
      refine cR J J (fun hg=>aA acd (XP _ _ _ (q_r3g hg)) ⟨(bD J hg),(bD J hg),(bD J hg),aR⟩) ?_
      obtain⟨r4,h1t⟩:=Tv (fun hb=>(h1t hb).2)
      have q_r4g:=fun hb=>(h1t hb).1
      refine cR J J (fun hg=>aA ack (X7 _ _ (q_r4g hg)) ⟨(bD J hg),(bD J hg),aR⟩)<|zo J (dP (ht J) (fun hb=>(bD J hb)) (fun hb=>(h1t hb).2) h0t)<|bm J<|aq<|ak ?_;cases so h;exact aG J J
    ·obtain⟨hx1,h⟩:=h
     refine aC<|ah<|au<|aF J<|aF J<|zo J (iw gR J)<|zo J (fG J J)<|aq<|bz (ht J) (du hx1)<|dR<|ah<|ay<|ah<|bv h fun e2 q_e2 h=>?_
     refine cJ (ts:=[_,_,_,_,_,_,_,_,_,_,_]) mixed J J
      ⟨ep 0 J J J (cD J),
      ⟨ep 13 J J J (cD J),
      ⟨bT 61 1 J J J (gK (ht J) hI),
      ⟨dv 60 0 62 2 J J J J (lq gR cO J J J q_e2),
      ⟨bT 63 3 J J J (bB cO J J),
      ⟨ep 0 J J J (cD J),
      ⟨ep 13 J J J (cD J),
      ⟨dv 65 5 66 6 J J J J (lq gR cO J J J (cW hx1)),
      ⟨bT 67 7 J J J (bB cO J J),
      ⟨bT 64 4 J J J (tA J),
      ⟨bT 68 8 J J J (tA J),
      aR⟩⟩⟩⟩⟩⟩⟩⟩⟩⟩⟩ ?_
     refine av<|au<|aF rfl<|aF rfl<|bv h fun r5 q_r5 h=>zo J (fN (args:=SV) (res:=CQ) (f:=(fun(x:(List ac))=>(db order) x)) (x:=((e2):(List ac))) (ht J) q_r5 ⟨(ht J),aR⟩)<|aF J<|bv h fun t1 q_t1 h=>cR J J (fun hg=>cD J)<|cR J J (fun hg=>cD J) ?_
     obtain⟨r6,h1t1,h0t1⟩:=og q_t1
     have q_r6g:=fun hb=>(h1t1 hb).1
     refine cR J J (fun hg=>fN (args:=SV) (res:=CQ) (f:=(fun(x:(List ac))=>(db order) x)) (x:=((e1):(List ac))) (bD J hg) (q_r6g hg) ⟨(bD J hg),aR⟩)<|zo J (dP (ht J) (fun hb=>(bD J hb)) (fun hb=>(h1t1 hb).2) h0t1)<|aF J<|bv h fun t2 q_t2 h=>cR J J (fun hg=>cD J)<|cR J J (fun hg=>cD J)<|cR J J (fun hg=>bB wt J J) ?_
     obtain⟨r7,h1t2,h0t2⟩:=og q_t2
     have q_r7g:=fun hb=>(h1t2 hb).1
     refine cR J J (fun hg=>aA Z6 (RH _ _ _ (q_r7g hg)) ⟨(bD J hg),(bD J hg),(bD J hg),aR⟩)<|zo J (dP (ht J) (fun hb=>(bD J hb)) (fun hb=>(h1t2 hb).2) h0t2)<|bm J<|aq<|au<|aF J<|aF J<|zo J (bB wt J J)<|bv h fun r8 q_r8 h=>zo J (aA ace (XQ _ _ _ q_r8) ⟨(ht J),(ht J),(ht J),aR⟩)<|aF J<|zo J (HO IR (ht J) (ht J))<|aq<|cU h J (fun h=>?_) (fun h=>?_)
     ·refine au<|zo J (jE)<|aq<|ak ?_;refine aD (ae (ae (aD (ae ?_))));cases so h;exact aG J J
     ·refine bw<|ap<|av<|aw<|aF rfl<|zo rfl (mI (cQ hx1 hN1) rfl)<|bm rfl<|aQ ?_;exact bg (aT (ih1 (i1+1) ⟨cP hx1,h⟩) (bt J))
   ·obtain⟨hx,h⟩:=h
    refine aC<|au<|zo J (fG J J)<|aq<|ah<|bz (ht J) (du hx)<|dR<|ah<|ay<|au<|zo J (lq gR cO J J J (cW hx))<|zo J (bB cO J J)<|bm J<|aq<|aw<|aF J<|aF J<|bv h fun t3 q_t3 h=>cR J J (fun hg=>cD J) ?_;refine cR J J (fun hg=>cD J) ?_
    obtain⟨r9,h1t3,h0t3⟩:=og q_t3
    have q_r9g:=fun hb=>(h1t3 hb).1
    refine cR J J (fun hg=>fN (args:=SV) (res:=CQ) (f:=(fun(x:(List ac))=>(db order) x)) (x:=((e):(List ac))) (bD J hg) (q_r9g hg) ⟨(bD J hg),aR⟩)<|zo J (dP (ht J) (fun hb=>(bD J hb)) (fun hb=>(h1t3 hb).2) h0t3)<|bm J<|aQ<|ap<|av<|aw<|zo rfl (mI (cQ hx hN) rfl)<|aF rfl<|aQ ?_;exact bg (aT (ih (i+1) t3 ⟨cP hx,h⟩) (bt J))

end Go.Proofs.YtfhhakidodmdfaaGreatDoor

