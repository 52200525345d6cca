/- cT of this claim: P13. -/
import Derived.Test.YtfhhakidodmdfaaGreatDoorJeT
import Derived.Test.YtfhhakidodmdfaaGreatDoorJeP12
set_option linter.all false
namespace Go.Proofs.YtfhhakidodmdfaaGreatDoor
open Go
set_option maxRecDepth 100000

theorem X4{R:ak}(h:EP=some R):aV aR 46 [] (tD aI R):=by
 refine aV.of Tryz.func46 J J J fun w0 S0=>aw<|aY (r:=aI) (x:=Hu) gG (fun _=>nC _) J fun b=>au<|aw<|zo J (aU (r:=bT) (ys:=[(2:Int)]) (xs:=[.const (.int .i64 (2))]) gF cu J J J J J ⟨hI,aS⟩)<|zo J (cn (y:=(⟨(1:Int),vy,vy,(0:Int),[(2:Int)],false,Bx,[],[],[],[],(0:Int)⟩:ak)) gG ZE nC (⟨_,_,_,_,_,J,D9,J,hI,⟨_,_,_,_,_,J,D8,J,hI,⟨_,_,_,_,_,J,zz,J,hI,⟨_,_,_,_,_,J,zy,J,(ht J),J⟩⟩⟩⟩))<|ax gG J an J (ht J) (ht J)<|aW 0 J<|au<|am ?_;cases so h;exact iI J gG J J J

theorem X3(k:Int){R:bK}(h:GP k=some R):aV aR 47 [bI k] (tD cm R):=by
 refine aV.of Tryz.func47 J J J fun w0 S0=>aw<|aY (r:=cm) (x:=Bx) kG (fun _=>rG _) J fun b=>au<|aw<|aF J<|zo J (cn (y:=(⟨(2:Int),vy,vy,k,hJ⟩:bm)) pw abZ uJ (⟨_,_,_,_,_,J,LZ,J,hI,⟨_,_,_,_,_,J,LY,J,hI,⟨_,_,_,_,_,J,LX,J,hI,⟨_,_,_,_,_,J,LW,J,(ht J),J⟩⟩⟩⟩))<|zo J (aU (r:=bN) (ys:=[(⟨(2:Int),vy,vy,k,hJ⟩:bm)]) (xs:=[.tmp 4]) wy pw J J J J J ⟨(ht J),aS⟩)<|zo J (cn (y:=(⟨[(⟨(2:Int),vy,vy,k,hJ⟩:bm)]⟩:bK)) kG XM rG (⟨_,_,_,_,_,J,xU,J,(ht J),J⟩))<|ax kG J an J (ht J) (ht J)<|aW 2 J<|au<|am ?_;cases so h;exact iI J kG J J J

theorem KP(k:Int){R:(List ac)}(h:Ig k=some R):fJ aR 101 [bI k] false af 46 R:=by
 refine fJ.of Tryz.func101 J J J fun w0 S0=>aw<|bL false af 46<|zo J (aK rr)<|au<|aw<|aF J<|zo J (cn (y:=(⟨(2:Int),k,(0:Int),[]⟩:ac)) aG qb bh (⟨_,_,_,_,_,J,nI,J,hI,⟨_,_,_,_,_,J,oZ,J,(ht J),J⟩⟩))<|jX (r:=af) (ys:=[(⟨(2:Int),k,(0:Int),[]⟩:ac)]) (xs:=[.tmp 4]) iX aG J J J J J ⟨(ht J),aS⟩ J fun l c=>bo J<|au<|am ?_;cases so h;exact fE J J
theorem X2{R:cB}(h:CD=some R):aV aR 48 [] (tD i6 R):=by
 refine aV.of Tryz.func48 J J J fun w0 S0=>aw<|aY (r:=i6) (x:=(⟨[]⟩:cB)) DZ (fun _=>Ht _) J fun b=>au<|aw<|bB h fun r q_r h=>il WH (KP _ q_r) ⟨hI,aS⟩ J fun l c=>bB h fun r1 q_r1 h=>il WH (KP _ q_r1) ⟨hI,aS⟩ J fun l1 c1=>zo J (cn (y:=hJ) aG qb bh (J))<|zo J (aU (r:=af) (ys:=[hJ]) (xs:=[.tmp 3]) iX aG J J J J J ⟨(ht J),aS⟩)<|bH<|ju<|gU 1 J<|bH<|ju<|gU 2 J<|zo J (aU (r:=cV) (ys:=[r,r1,[hJ]]) (xs:=[.tmp 1,.tmp 2,.tmp 4]) ja dL J J J J J ⟨(kT (ht J)),(kT (ht J)),(ht J),aS⟩)<|zo J (aU (r:=c9) (ys:=[[r,r1,[hJ]]]) (xs:=[.tmp 5]) mj fN J J J J J ⟨(ht J),aS⟩)<|zo J (cn (y:=(⟨[[r,r1,[hJ]]]⟩:cB)) DZ ab0 Ht (⟨_,_,_,_,_,J,Pk,J,(ht J),J⟩))<|fK ?_;refine ax DZ J an J (ht J) (ht J)<|aW 0 J<|au<|am<|be<|be ?_;cases so h;exact iI J DZ J J J

theorem Yn{R:Bool}(h:tZ=some R):aV aR 11 [] (iz R):=by
 refine aV.of Tryz.func11 J J J fun w0 S0=>aw<|zo J (jS)<|au<|aw<|bB h fun r q_r h=>zo J (aE acr (X4 q_r) trivial)<|zo J (cn (y:=Qt) tJ ZF DK (⟨_,_,_,_,_,J,JD,J,hI,J⟩))<|bB h fun r1 q_r1 h=>zo J (aE acq (X3 _ q_r1) ⟨hI,aS⟩)<|zo J (cn (y:=(⟨(3:Int),r1⟩:gM)) tJ ZF DK (⟨_,_,_,_,_,J,JD,J,hI,⟨_,_,_,_,_,J,JC,J,(ht J),J⟩⟩))<|zo J (aU (r:=fi) (ys:=[Qt,(⟨(3:Int),r1⟩:gM)]) (xs:=[.tmp 5,.tmp 7]) wx tJ J J J J J ⟨(ht J),(ht J),aS⟩)<|zo J (cn (y:=(⟨(4:Int),(0:Int),vy,(0:Int),[],false,Bx,[],[Qt,(⟨(3:Int),r1⟩:gM)],[],[],(0:Int)⟩:ak)) gG ZE nC (⟨_,_,_,_,_,J,D9,J,hI,⟨_,_,_,_,_,J,zz,J,hI,⟨_,_,_,_,_,J,D6,J,(ht J),J⟩⟩⟩))<|zo J (aU (r:=aI) (ys:=[r,(⟨(4:Int),(0:Int),vy,(0:Int),[],false,Bx,[],[Qt,(⟨(3:Int),r1⟩:gM)],[],[],(0:Int)⟩:ak)]) (xs:=[.tmp 4,.tmp 9]) uF gG J J J J J ⟨(ht J),(ht J),aS⟩)<|zo J (cn (y:=(⟨[r,(⟨(4:Int),(0:Int),vy,(0:Int),[],false,Bx,[],[Qt,(⟨(3:Int),r1⟩:gM)],[],[],(0:Int)⟩:ak)]⟩:bE)) oX XN sE (⟨_,_,_,_,_,J,LQ,J,(ht J),J⟩))<|aY (r:=cD) (x:=Jb) oX (fun _=>sE _) J fun b=>ax oX J an J (ht J) (ht J)<|aW 1 J<|au<|ah ?_;refine bB h fun r2 q_r2 h=>bB h fun r3 q_r3 h=>?_
 refine dc (ts:=[_,_,_,_,_,_,_,_]) mixed J J
  ⟨fb 1 J J J (bC oX J J),
  ⟨Pb J J (aE acp (X2 q_r2) trivial),
  ⟨d6 13 0 14 1 J J J J (aE YE (MP _ _ q_r3) ⟨(ht J),(ht J),aS⟩),
  ⟨ca 15 2 J J J (dv J),
  ⟨ca 12 3 J J J (gV J J),
  ⟨ca 12 3 J J J (gV J J),
  ⟨ca 16 4 J J J (uM J),
  ⟨ca 17 5 J J J (uM J),
  aS⟩⟩⟩⟩⟩⟩⟩⟩ ?_
 refine av<|aw<|aF rfl<|zo rfl (nr rfl)<|aF rfl<|dK rfl rfl (fun hg=>dv J)<|dK J J (fun hg=>dQ ja (bP J hg))<|dK J J (fun hg=>dw (bP J hg) hI)<|zo J (uK J J)<|aF J<|bB h fun t q_t h=>dK J J (fun hg=>dv J) ?_
 obtain⟨e,h1t,h0t⟩:=og q_t
 have q_eg:=fun hb=>(h1t hb).1
 refine dK J J (fun hg=>bp ja dL J (bP J hg) hI (q_eg hg))<|dK J J (fun hg=>bO dL J J (bP J hg))<|dK J J (fun hg=>dQ iX (bP J hg))<|dK J J (fun hg=>dw (bP J hg) hI)<|zo J (ff (ht J) (fun hb=>(bP J hb)) (fun hb=>(h1t hb).2) h0t)<|aF J<|bB h fun t1 q_t1 h=>dK J J (fun hg=>dv J) ?_
 obtain⟨e1,h1t1,h0t1⟩:=og q_t1
 have q_e1g:=fun hb=>(h1t1 hb).1
 refine dK J J (fun hg=>bp ja dL J (bP J hg) hI (q_e1g hg))<|dK J J (fun hg=>bO dL J J (bP J hg)) ?_
 obtain⟨e2,h1t1⟩:=XA (fun hb=>(h1t1 hb).2)
 have q_e2g:=fun hb=>(h1t1 hb).1
 refine dK J J (fun hg=>bp iX aG J (bP J hg) hI (q_e2g hg))<|dK J J (fun hg=>rW lP J fk J (bP J hg))<|dK J J (fun hg=>bO FO J J (bP J hg))<|dK J J (fun hg=>dw (bP J hg) hI)<|zo J (ff (ht J) (fun hb=>(bP J hb)) (fun hb=>(h1t1 hb).2) h0t1)<|aF J<|bB h fun t2 q_t2 h=>dK J J (fun hg=>dv J) ?_
 obtain⟨e3,h1t2,h0t2⟩:=og q_t2
 have q_e3g:=fun hb=>(h1t2 hb).1
 refine dK J J (fun hg=>bp ja dL J (bP J hg) hI (q_e3g hg))<|dK J J (fun hg=>bO dL J J (bP J hg)) ?_
 obtain⟨e4,h1t2⟩:=XA (fun hb=>(h1t2 hb).2)
 have q_e4g:=fun hb=>(h1t2 hb).1
 refine dK J J (fun hg=>bp iX aG J (bP J hg) hI (q_e4g hg))<|dK J J (fun hg=>rW lP J fk J (bP J hg))<|dK J J (fun hg=>bO FO J J (bP J hg))<|dK J J (fun hg=>dw (bP J hg) hI)<|zo J (ff (ht J) (fun hb=>(bP J hb)) (fun hb=>(h1t2 hb).2) h0t2)<|bo J<|au<|am ?_;cases so h;exact aL J J

theorem X8(l:(List (List ac)))(most:Int){R:Bool}(h:pS l most=some R):aV aR 24 [bZ (cV) l,bI most] (iz R):=by
 refine aV.of Tryz.func24 J J J fun w0 S0=>aw<|zo J (jS)<|au<|ah<|aw<|aF J<|zo J (iJ ja J)<|aF J<|zo J (gm (ht J) (ht J))<|au<|dd h J (fun h=>?_) (fun h=>?_)
 ·refine aw<|zo J (jS)<|au<|am<|ae ?_;cases so h;exact aL J J
 ·refine dU<|ah<|aw<|aF J<|zo J (iJ ja J)<|zo J (bG hI)<|au<|aA<|bc (k:=13) J fun hN=>bJ ?_;refine aT (eI (Z:=fun ls i=>(l.drop i=ls)∧ii ls=some R) (Of:=fun _ i=>[]) (Gf:=fun _ i=>[(13,bZ (cV) l),(14,jr l),(15,bI (i:Int))]) (fun i h=>?_) (fun e tl ih i h=>?_) l 0 ⟨J,h⟩) (bt J)
  ·obtain⟨hx,h⟩:=h
   refine aB<|aw<|zo J (fL J J)<|au<|ah<|bz (ht J) (du hx)<|bu ?_;refine ai (ai (aN ?_));refine av<|aw<|zo rfl (jS)<|au<|am ?_;cases so h;exact aL J J
  ·obtain⟨hx,h⟩:=h
   refine aB<|aw<|zo J (fL J J)<|au<|ah<|bw (ht J) (dl hx)<|dU<|ah<|aA<|aw<|zo J (ml ja dL J J J (cX hx))<|zo J (bC dL J J)<|bo J<|au<|ah<|aw<|aF J<|zo J (iJ iX J) ?_;refine zo J (gm (ht J) hI)<|au<|dd h J (fun h=>?_) (fun h=>?_)
   ·refine aw<|zo J (jS)<|au<|am ?_;refine ae (aD (ae (ae (aD (ae ?_)))));cases so h;exact aL J J
   ·refine dU<|aw<|aF J<|zo J (iJ iX J)<|zo J (bG hI)<|au<|aA<|bc (k:=22) J fun hN1=>bJ ?_;refine aT (eI (Z:=fun ls1 i1=>(e.drop i1=ls1)∧k5 (ii tl) ls1=some R) (Of:=fun _ i1=>[]) (Gf:=fun _ i1=>[(13,bZ (cV) l),(14,jr l),(15,bI (i:Int)),(22,bZ (af) e),(23,jr e),(24,bI (i1:Int))]) (fun i1 h=>?_) (fun e1 tl1 ih1 i1 h=>?_) e 0 ⟨J,h⟩) (bt J)
    ·obtain⟨hx1,h⟩:=h
     refine aB<|aw<|zo J (fL J J)<|au<|ah<|bz (ht J) (du hx1)<|bu ?_;refine ai (ai (aN ?_));refine ap<|av<|aq<|zo rfl (lZ (cL hx hN) rfl)<|aF rfl<|aQ ?_;exact bg (aT (ih (i+1) ⟨cK hx,h⟩) (bt J))
    ·obtain⟨hx1,h⟩:=h
     refine aB<|aw<|zo J (fL J J)<|au<|ah<|bw (ht J) (dl hx1)<|dU<|ah<|aA<|aw<|zo J (ml iX aG J J J (cX hx1))<|zo J (bC aG J J)<|aY (r:=af) (x:=hJ) aG (fun _=>bh _) J fun b=>ax aG J an J (ht J) (ht J)<|aW 8 J<|au<|aw<|zo J (de xy nQ J J) ?_;refine zo J (bC Tc J J)<|zo J (Ic Cr (ht J))<|zo J (gm (ht J) hI)<|au<|dd h J (fun h=>?_) (fun h=>?_)
     ·refine aw<|zo J (jS)<|au<|am ?_;refine aD (ae (ae (aD (aD (ae (ae (aD (ae ?_))))))));cases so h;exact aL J J
     ·refine bA<|ap<|av<|aq<|zo rfl (lZ (cL hx1 hN1) rfl)<|aF rfl<|aQ ?_;exact bg (aT (ih1 (i1+1) ⟨cK hx1,h⟩) (bt J))

theorem Ym(b:cB){R:Bool}(h:pT b=some R):aV aR 12 [tD i6 b] (iz R):=by
 refine aV.of Tryz.func12 J J J fun w0 S0=>aw<|zo J (js J)<|zo J (jS)<|au<|ah<|aw<|zo J (de ru pp J J)<|zo J (bC ro J J)<|zo J (iJ mj J)<|zo J (gm (ht J) hI)<|au<|dd h J (fun h=>?_) (fun h=>?_)
 ·refine aw<|zo J (jS)<|au<|am<|ae ?_;cases so h;exact aL J J
 ·refine dU<|ah<|aw<|zo J (de ru pp J J)<|zo J (bC ro J J)<|zo J (iJ mj J)<|zo J (bG hI)<|au<|aA<|bc (k:=10) J fun hN=>bJ ?_;refine aT (eI (Z:=fun ls i=>(b.Tables.drop i=ls)∧k7 ls=some R) (Of:=fun _ i=>[]) (Gf:=fun _ i=>[(10,bZ (c9) b.Tables),(11,jr b.Tables),(12,bI (i:Int))]) (fun i h=>?_) (fun e tl ih i h=>?_) b.Tables 0 ⟨J,h⟩) (bt J)
  ·obtain⟨hx,h⟩:=h
   refine aB<|aw<|zo J (fL J J)<|au<|ah<|bz (ht J) (du hx)<|bu ?_;refine ai (ai (aN ?_));refine av<|aw<|zo rfl (jS)<|au<|am ?_;cases so h;exact aL J J
  ·obtain⟨hx,h⟩:=h
   refine aB<|aw<|zo J (fL J J)<|au<|ah<|bw (ht J) (dl hx)<|dU<|ah<|aA<|aw<|zo J (ml mj fN J J J (cX hx))<|zo J (bC fN J J)<|bo J<|au<|aw<|aF J<|bB h fun r q_r h=>zo J (aE acu (X8 _ _ q_r) ⟨(ht J),hI,aS⟩) ?_;refine au<|dd h J (fun h=>?_) (fun h=>?_)
   ·refine aw<|zo J (jS)<|au<|am ?_;refine aD (ae (ae (aD (ae ?_))));cases so h;exact aL J J
   ·refine bA<|ap<|av<|aq<|zo rfl (lZ (cL hx hN) rfl)<|aF rfl<|aQ ?_;exact bg (aT (ih (i+1) ⟨cK hx,h⟩) (bt J))

theorem MO(e:bK){R:Bool}(h:lN e=some R):aV aR 25 [tD cm e] (iz R):=by
 refine aV.of Tryz.func25 J J J fun w0 S0=>aw<|zo J (js J)<|zo J (jS)<|au<|ah<|aw<|zo J (de pW lO J J)<|zo J (bC Aq J J)<|zo J (iJ wy J)<|zo J (gm (ht J) hI)<|au<|dd h J (fun h=>?_) (fun h=>?_)
 ·refine aw<|zo J (jS)<|au<|am<|ae ?_;cases so h;exact aL J J
 ·refine dU<|ah<|aw<|zo J (de pW lO J J)<|zo J (bC Aq J J)<|zo J (iJ wy J)<|zo J (bG hI)<|au<|aA<|bc (k:=10) J fun hN=>bJ ?_;refine aT (eI (Z:=fun ls i=>(e.Nodes.drop i=ls)∧k6 ls=some R) (Of:=fun _ i=>[]) (Gf:=fun _ i=>[(10,bZ (bN) e.Nodes),(11,jr e.Nodes),(12,bI (i:Int))]) (fun i h=>?_) (fun e1 tl ih i h=>?_) e.Nodes 0 ⟨J,h⟩) (bt J)
  ·obtain⟨hx,h⟩:=h
   refine aB<|aw<|zo J (fL J J)<|au<|ah<|bz (ht J) (du hx)<|bu ?_;refine ai (ai (aN ?_));refine av<|aw<|zo rfl (jS)<|au<|am ?_;cases so h;exact aL J J
  ·obtain⟨hx,h⟩:=h
   refine aB<|aw<|zo J (fL J J)<|au<|ah<|bw (ht J) (dl hx)<|dU<|ah<|aA<|aw<|zo J (ml wy pw J J J (cX hx))<|zo J (bC pw J J)<|aY (r:=bN) (x:=Qw) pw (fun _=>uJ _) J fun b=>ax pw J an J (ht J) (ht J)<|aW 4 J<|au<|aw<|zo J (de BU qv J J) ?_;refine zo J (de xy nQ J J)<|zo J (bC Tc J J)<|zo J (Ic Cr (ht J))<|zo J (gm (ht J) hI)<|au<|dd h J (fun h=>?_) (fun h=>?_)
   ·refine aw<|zo J (jS)<|au<|am ?_;refine aD (ae (ae (aD (ae ?_))));cases so h;exact aL J J
   ·refine bA<|ap<|av<|aq<|zo rfl (lZ (cL hx hN) rfl)<|aF rfl<|aQ ?_;exact bg (aT (ih (i+1) ⟨cK hx,h⟩) (bt J))

theorem Yl(l:bE)(b:cB){R:Bool}(h:vO l b=some R):aV aR 13 [tD cD l,tD i6 b] (iz R):=by
 refine aV.of Tryz.func13 J J J fun w0 S0=>aw<|zo J (js J)<|zo J (js J)<|zo J (jS)<|au<|ah<|aw<|zo J (de qz kj J J)<|zo J (bC BB J J)<|zo J (iJ uF J)<|zo J (gm (ht J) hI)<|au<|dd h J (fun h=>?_) (fun h=>?_)
 ·refine aw<|zo J (jS)<|au<|am<|ae ?_;cases so h;exact aL J J
 ·refine dU<|aw<|zo J (cF)<|au<|ah<|aw<|zo J (de qz kj J J)<|zo J (bC BB J J)<|zo J (iJ uF J)<|zo J (bG hI)<|au<|aA<|bc (k:=17) J fun hN=>bJ ?_;refine aT (oa (Z:=fun ls i rows=>(l.Nodes.drop i=ls)∧jW b ls rows=some R) (Of:=fun _ i rows=>[]) (Gf:=fun _ i rows=>[(3,bM i6 b),(5,bI rows),(17,bZ (aI) l.Nodes),(18,jr l.Nodes),(19,bI (i:Int))]) (fun i rows h=>?_) (fun e tl ih i rows h=>?_) l.Nodes 0 (1:Int) ⟨J,h⟩) (bt J)
  ·obtain⟨hx,h⟩:=h
   refine aB<|aw<|zo J (fL J J)<|au<|ah<|bz (ht J) (du hx)<|bu ?_;refine ai (ai (aN ?_));refine av<|aw<|aF rfl<|zo rfl (gm (ht rfl) hI)<|bo rfl<|au<|am ?_;cases so h;exact aL J J
  ·obtain⟨hx,h⟩:=h
   refine aB<|aw<|zo J (fL J J)<|au<|ah<|bw (ht J) (dl hx)<|dU<|ah<|aA<|aw<|zo J (ml uF gG J J J (cX hx))<|zo J (bC gG J J)<|aY (r:=aI) (x:=Hu) gG (fun _=>nC _) J fun b1=>ax gG J an J (ht J) (ht J)<|aW 7 J<|au<|ah<|aw ?_;refine zo J (de uC nT J J)<|zo J (bC d7 J J)<|zo J (iJ gF J)<|zo J (gm (ht J) hI)<|aF J<|gY J J (fun hg=>de td mD J J)<|gY J J (fun hg=>bO d7 J J (bP J hg))<|gY J J (fun hg=>dQ gF (bP J hg))<|gY J J (fun hg=>gm (bP J hg) hI)<|zo J (yE J J)<|aF J<|gY J J (fun hg=>de uc po J J)<|gY J J (fun hg=>bO HF J J (bP J hg))<|gY J J (fun hg=>dQ Dz (bP J hg))<|gY J J (fun hg=>gm (bP J hg) hI)<|zo J (yE J J)<|aF J<|gY J J (fun hg=>de qx mC J J)<|gY J J (fun hg=>bO Ap J J (bP J hg))<|gY J J (fun hg=>dQ wJ (bP J hg))<|gY J J (fun hg=>gm (bP J hg) hI)<|zo J (yE J J)<|aF J<|gY J J (fun hg=>de qy nR J J) ?_;refine gY J J (fun hg=>bO BA J J (bP J hg))<|gY J J (fun hg=>dQ wx (bP J hg))<|gY J J (fun hg=>gm (bP J hg) hI)<|zo J (yE J J)<|aF J<|bB h fun t q_t h=>gY J J (fun hg=>de uB nS J J)<|gY J J (fun hg=>bO kG J J (bP J hg)) ?_
   obtain⟨r,h1t,h0t⟩:=og q_t
   have q_rg:=fun hb=>(h1t hb).1
   refine gY J J (fun hg=>aE YD (MO _ (q_rg hg)) ⟨(bP J hg),aS⟩)<|zo J (lk (ht J) (fun hb=>(bP J (AL hb))) (fun hb=>(h1t hb).2) h0t)<|au<|dd h J (fun h=>?_) (fun h=>?_)
   ·refine aw<|zo J (jS)<|au<|am ?_;refine ae (aD (ae (ae (aD (ae ?_)))));cases so h;exact aL J J
   ·refine dU<|ah<|aw<|zo J (de qx mC J J)<|zo J (bC Ap J J)<|zo J (iJ wJ J)<|zo J (bG hI)<|au<|aA<|bc (k:=57) J fun hN1=>bJ ?_;refine aT (eI (Z:=fun ls1 i1=>(e.Items.drop i1=ls1)∧nj b (jW b tl) e rows ls1=some R) (Of:=fun _ i1=>[]) (Gf:=fun _ i1=>[(3,bM i6 b),(5,bI rows),(7,bM aI e),(17,bZ (aI) l.Nodes),(18,jr l.Nodes),(19,bI (i:Int)),(57,bZ (cm) e.Items),(58,jr e.Items),(59,bI (i1:Int))]) (fun i1 h=>?_) (fun e1 tl1 ih1 i1 h=>?_) e.Items 0 ⟨J,h⟩) (bt J)
    ·obtain⟨hx1,h⟩:=h
     refine aB<|aw<|zo J (fL J J)<|au<|ah<|bz (ht J) (du hx1)<|bu ?_;refine ai (ai (aN ?_));refine av<|ah<|aw<|zo rfl (de qy nR rfl rfl)<|zo rfl (bC BA rfl rfl)<|zo rfl (iJ wx rfl)<|zo rfl (bG hI)<|au<|aA<|bc (k:=67) J fun hN2=>bJ ?_;refine aT (eI (Z:=fun ls2 i2=>(e.Aggs.drop i2=ls2)∧ni b (jW b tl) e rows ls2=some R) (Of:=fun _ i2=>[]) (Gf:=fun _ i2=>[(3,bM i6 b),(5,bI rows),(7,bM aI e),(17,bZ (aI) l.Nodes),(18,jr l.Nodes),(19,bI (i:Int)),(67,bZ (fi) e.Aggs),(68,jr e.Aggs),(69,bI (i2:Int))]) (fun i2 h=>?_) (fun e2 tl2 ih2 i2 h=>?_) e.Aggs 0 ⟨J,h⟩) (bt J)
     ·obtain⟨hx2,h⟩:=h
      refine aB<|aw<|zo J (fL J J)<|au<|ah<|bz (ht J) (du hx2)<|bu ?_;refine ai (ai (aN ?_));refine av<|aw<|zo rfl (de xx nU rfl rfl)<|zo rfl (bC cu rfl rfl)<|zo rfl (nr rfl)<|aF rfl<|dK rfl rfl (fun hg=>de te ln J J)<|dK J J (fun hg=>bO cu J J (bP J hg))<|dK J J (fun hg=>jg (bP J hg) hI)<|zo J (uK J J)<|aF J<|dK J J (fun hg=>de te ln J J)<|dK J J (fun hg=>bO cu J J (bP J hg))<|dK J J (fun hg=>de ru pp J J)<|dK J J (fun hg=>bO ro J J (bP J hg))<|dK J J (fun hg=>dQ mj (bP J hg))<|dK J J (fun hg=>gD (bP J hg) (bP J hg))<|zo J (uK J J)<|au<|dd h J (fun h=>?_) (fun h=>?_)
      ·refine aq<|aF J<|zo J (de ru pp J J)<|zo J (bC ro J J)<|zo J (de te ln J J)<|zo J (bC cu J J)<|bB h fun e3 q_e3 h=>zo J (ml mj fN J J J q_e3)<|zo J (bC fN J J)<|zo J (iJ ja J)<|zo J (nO (ht J) hI)<|zo J (xo (ht J) (ht J))<|bo J<|aQ<|ap<|av<|aq<|zo rfl (lZ (cL hx hN) rfl)<|aF rfl<|aQ ?_;exact bg (aT (ih (i+1) (IntKind.i64.wrap (rows*(IntKind.i64.wrap ((e3.length:Int)+(1:Int))))) ⟨cK hx,h⟩) (bt J))
      ·refine bA<|ap<|av<|aq<|zo rfl (lZ (cL hx hN) rfl)<|aF rfl<|aQ ?_;exact bg (aT (ih (i+1) rows ⟨cK hx,h⟩) (bt J))
     ·obtain⟨hx2,h⟩:=h
      refine aB<|aw<|zo J (fL J J)<|au<|ah<|bw (ht J) (dl hx2)<|dU<|ah<|aA<|aw<|zo J (ml wx tJ J J J (cX hx2))<|zo J (bC tJ J J)<|aY (r:=fi) (x:=WS) tJ (fun _=>DK _) J fun b2=>ax tJ J an J (ht J) (ht J)<|aW 11 J<|au<|aw<|zo J (de BV vf J J) ?_;refine zo J (bC kG J J)<|bB h fun r1 q_r1 h=>zo J (aE YD (MO _ q_r1) ⟨(ht J),aS⟩)<|au<|dd h J (fun h=>?_) (fun h=>?_)
      ·refine aw<|zo J (jS)<|au<|am ?_;refine aD (ae (ae (aD (ae (aD (ae (ae (aD (ae ?_)))))))));cases so h;exact aL J J
      ·refine bA<|ap<|av<|aq<|zo rfl (lZ (cL hx2 hN2) rfl)<|aF rfl<|aQ ?_;exact bg (aT (ih2 (i2+1) ⟨cK hx2,h⟩) (bt J))
    ·obtain⟨hx1,h⟩:=h
     refine aB<|aw<|zo J (fL J J)<|au<|ah<|bw (ht J) (dl hx1)<|dU<|ah<|aA<|aw<|zo J (ml wJ kG J J J (cX hx1))<|zo J (bC kG J J)<|aY (r:=cm) (x:=Bx) kG (fun _=>rG _) J fun b3=>ax kG J an J (ht J) (ht J)<|aW 9 J<|au<|aw<|zo J (bC kG J J) ?_;refine bB h fun r2 q_r2 h=>zo J (aE YD (MO _ q_r2) ⟨(ht J),aS⟩)<|au<|dd h J (fun h=>?_) (fun h=>?_)
     ·refine aw<|zo J (jS)<|au<|am ?_;refine aD (ae (ae (aD (ae (aD (ae (ae (aD (ae ?_)))))))));cases so h;exact aL J J
     ·refine bA<|ap<|av<|aq<|zo rfl (lZ (cL hx1 hN1) rfl)<|aF rfl<|aQ ?_;exact bg (aT (ih1 (i1+1) ⟨cK hx1,h⟩) (bt J))

end Go.Proofs.YtfhhakidodmdfaaGreatDoor

