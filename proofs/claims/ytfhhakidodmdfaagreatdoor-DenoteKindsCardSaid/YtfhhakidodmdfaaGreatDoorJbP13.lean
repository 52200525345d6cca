/- db of this claim: P13. -/
import Derived.Test.YtfhhakidodmdfaaGreatDoorJbT
import Derived.Test.YtfhhakidodmdfaaGreatDoorJbP12
set_option linter.all false
namespace Go.Proofs.YtfhhakidodmdfaaGreatDoor
open Go
set_option maxRecDepth 100000

theorem Yc{R:am}(h:EN=some R):aU aO 46 [] (tD aI R):=by
 refine aU.of Tryz.func46 J J J fun w0 S0=>au<|aZ (r:=aI) (x:=Ho) gN (fun _=>ny _) J fun b=>aq<|au<|zo J (aV (r:=bX) (ys:=[(2:Int)]) (xs:=[.const (.int .i64 (2))]) gM cr J J J J J ⟨hI,aT⟩)<|zo J (ck (y:=(⟨(1:Int),vz,vz,(0:Int),[(2:Int)],false,By,[],[],[],[],(0:Int)⟩:am)) gN ZH ny (⟨_,_,_,_,_,J,D8,J,hI,⟨_,_,_,_,_,J,D7,J,hI,⟨_,_,_,_,_,J,zw,J,hI,⟨_,_,_,_,_,J,zu,J,(ht J),J⟩⟩⟩⟩))<|ax gN J an J (ht J) (ht J)<|aW 0 J<|aq<|ak ?_;cases so h;exact iS J gN J J J

theorem Yb(k:Int){R:br}(h:GJ k=some R):aU aO 47 [bM k] (tD bT R):=by
 refine aU.of Tryz.func47 J J J fun w0 S0=>au<|aZ (r:=bT) (x:=By) jC (fun _=>rP _) J fun b=>aq<|au<|aF J<|zo J (ck (y:=(⟨(2:Int),vz,vz,k,ie⟩:aX)) oB ab8 uJ (⟨_,_,_,_,_,J,LP,J,hI,⟨_,_,_,_,_,J,LO,J,hI,⟨_,_,_,_,_,J,LN,J,hI,⟨_,_,_,_,_,J,LM,J,(ht J),J⟩⟩⟩⟩))<|zo J (aV (r:=bG) (ys:=[(⟨(2:Int),vz,vz,k,ie⟩:aX)]) (xs:=[.tmp 4]) uq oB J J J J J ⟨(ht J),aT⟩)<|zo J (ck (y:=(⟨[(⟨(2:Int),vz,vz,k,ie⟩:aX)]⟩:br)) jC XQ rP (⟨_,_,_,_,_,J,xL,J,(ht J),J⟩))<|ax jC J an J (ht J) (ht J)<|aW 2 J<|aq<|ak ?_;cases so h;exact iS J jC J J J

theorem KG(k:Int){R:(List ac)}(h:H9 k=some R):f9 aO 101 [bM k] false af 46 R:=by
 refine f9.of Tryz.func101 J J J fun w0 S0=>au<|bQ false af 46<|zo J (aL s9)<|aq<|au<|aF J<|zo J (ck (y:=(⟨(2:Int),k,(0:Int),[]⟩:ac)) aH ql bh (⟨_,_,_,_,_,J,nI,J,hI,⟨_,_,_,_,_,J,oY,J,(ht J),J⟩⟩))<|j6 (r:=af) (ys:=[(⟨(2:Int),k,(0:Int),[]⟩:ac)]) (xs:=[.tmp 4]) iK aH J J J J J ⟨(ht J),aT⟩ J fun l c=>bp J<|aq<|ak ?_;cases so h;exact gm J J
theorem Ya{R:eD}(h:CE=some R):aU aO 48 [] (tD kG R):=by
 refine aU.of Tryz.func48 J J J fun w0 S0=>au<|aZ (r:=kG) (x:=(⟨[]⟩:eD)) HA (fun _=>Hn _) J fun b=>aq<|au<|bC h fun r q_r h=>iR WL (KG _ q_r) ⟨hI,aT⟩ J fun l c=>bC h fun r1 q_r1 h=>iR WL (KG _ q_r1) ⟨hI,aT⟩ J fun l1 c1=>zo J (ck (y:=ie) aH ql bh (J))<|zo J (aV (r:=af) (ys:=[ie]) (xs:=[.tmp 3]) iK aH J J J J J ⟨(ht J),aT⟩)<|bL<|kj<|jx 1 J<|bL<|kj<|jx 2 J<|zo J (aV (r:=dj) (ys:=[r,r1,[ie]]) (xs:=[.tmp 1,.tmp 2,.tmp 4]) jW d3 J J J J J ⟨(lk (ht J)),(lk (ht J)),(ht J),aT⟩)<|zo J (aV (r:=dT) (ys:=[[r,r1,[ie]]]) (xs:=[.tmp 5]) ot gF J J J J J ⟨(ht J),aT⟩)<|zo J (ck (y:=(⟨[[r,r1,[ie]]]⟩:eD)) HA ab9 Hn (⟨_,_,_,_,_,J,Pd,J,(ht J),J⟩))<|hX ?_;refine ax HA J an J (ht J) (ht J)<|aW 0 J<|aq<|ak<|bm<|bm ?_;cases so h;exact iS J HA J J J

theorem Yu{R:Bool}(h:tY=some R):aU aO 11 [] (ig R):=by
 refine aU.of Tryz.func11 J J J fun w0 S0=>au<|zo J (jj)<|aq<|au<|bC h fun r q_r h=>zo J (aD acG (Yc q_r) trivial)<|zo J (ck (y:=Qm) rW ZI DI (⟨_,_,_,_,_,J,Jt,J,hI,J⟩))<|bC h fun r1 q_r1 h=>zo J (aD acF (Yb _ q_r1) ⟨hI,aT⟩)<|zo J (ck (y:=(⟨(3:Int),r1⟩:ea)) rW ZI DI (⟨_,_,_,_,_,J,Jt,J,hI,⟨_,_,_,_,_,J,Js,J,(ht J),J⟩⟩))<|zo J (aV (r:=eg) (ys:=[Qm,(⟨(3:Int),r1⟩:ea)]) (xs:=[.tmp 5,.tmp 7]) uE rW J J J J J ⟨(ht J),(ht J),aT⟩)<|zo J (ck (y:=(⟨(4:Int),(0:Int),vz,(0:Int),[],false,By,[],[Qm,(⟨(3:Int),r1⟩:ea)],[],[],(0:Int)⟩:am)) gN ZH ny (⟨_,_,_,_,_,J,D8,J,hI,⟨_,_,_,_,_,J,zw,J,hI,⟨_,_,_,_,_,J,D5,J,(ht J),J⟩⟩⟩))<|zo J (aV (r:=aI) (ys:=[r,(⟨(4:Int),(0:Int),vz,(0:Int),[],false,By,[],[Qm,(⟨(3:Int),r1⟩:ea)],[],[],(0:Int)⟩:am)]) (xs:=[.tmp 4,.tmp 9]) uF gN J J J J J ⟨(ht J),(ht J),aT⟩)<|zo J (ck (y:=(⟨[r,(⟨(4:Int),(0:Int),vz,(0:Int),[],false,By,[],[Qm,(⟨(3:Int),r1⟩:ea)],[],[],(0:Int)⟩:am)]⟩:bN)) oW XR sJ (⟨_,_,_,_,_,J,LF,J,(ht J),J⟩))<|aZ (r:=cZ) (x:=I6) oW (fun _=>sJ _) J fun b=>ax oW J an J (ht J) (ht J)<|aW 1 J<|aq<|ah ?_;refine bC h fun r2 q_r2 h=>bC h fun r3 q_r3 h=>?_
 refine cU (ts:=[_,_,_,_,_,_,_,_]) mixed J J
  ⟨fd 1 J J J (bB oW J J),
  ⟨O4 J J (aD acE (Ya q_r2) trivial),
  ⟨d8 13 0 14 1 J J J J (aD aby (R0 _ _ q_r3) ⟨(ht J),(ht J),aT⟩),
  ⟨bW 15 2 J J J (dA J),
  ⟨bW 12 3 J J J (hY J J),
  ⟨bW 12 3 J J J (hY J J),
  ⟨bW 16 4 J J J (uM J),
  ⟨bW 17 5 J J J (uM J),
  aT⟩⟩⟩⟩⟩⟩⟩⟩ ?_
 refine aw<|au<|aF rfl<|zo rfl (np rfl)<|aF rfl<|dC rfl rfl (fun hg=>dA J)<|dC J J (fun hg=>dO jW (bK J hg))<|dC J J (fun hg=>dL (bK J hg) hI)<|zo J (uK J J)<|aF J<|bC h fun t q_t h=>dC J J (fun hg=>dA J) ?_
 obtain⟨e,h1t,h0t⟩:=og q_t
 have q_eg:=fun hb=>(h1t hb).1
 refine dC J J (fun hg=>bq jW d3 J (bK J hg) hI (q_eg hg))<|dC J J (fun hg=>bJ d3 J J (bK J hg))<|dC J J (fun hg=>dO iK (bK J hg))<|dC J J (fun hg=>dL (bK J hg) hI)<|zo J (d4 (ht J) (fun hb=>(bK J hb)) (fun hb=>(h1t hb).2) h0t)<|aF J<|bC h fun t1 q_t1 h=>dC J J (fun hg=>dA J) ?_
 obtain⟨e1,h1t1,h0t1⟩:=og q_t1
 have q_e1g:=fun hb=>(h1t1 hb).1
 refine dC J J (fun hg=>bq jW d3 J (bK J hg) hI (q_e1g hg))<|dC J J (fun hg=>bJ d3 J J (bK J hg)) ?_
 obtain⟨e2,h1t1⟩:=XF (fun hb=>(h1t1 hb).2)
 have q_e2g:=fun hb=>(h1t1 hb).1
 refine dC J J (fun hg=>bq iK aH J (bK J hg) hI (q_e2g hg))<|dC J J (fun hg=>sb lO J fz J (bK J hg))<|dC J J (fun hg=>bJ FM J J (bK J hg))<|dC J J (fun hg=>dL (bK J hg) hI)<|zo J (d4 (ht J) (fun hb=>(bK J hb)) (fun hb=>(h1t1 hb).2) h0t1)<|aF J<|bC h fun t2 q_t2 h=>dC J J (fun hg=>dA J) ?_
 obtain⟨e3,h1t2,h0t2⟩:=og q_t2
 have q_e3g:=fun hb=>(h1t2 hb).1
 refine dC J J (fun hg=>bq jW d3 J (bK J hg) hI (q_e3g hg))<|dC J J (fun hg=>bJ d3 J J (bK J hg)) ?_
 obtain⟨e4,h1t2⟩:=XF (fun hb=>(h1t2 hb).2)
 have q_e4g:=fun hb=>(h1t2 hb).1
 refine dC J J (fun hg=>bq iK aH J (bK J hg) hI (q_e4g hg))<|dC J J (fun hg=>sb lO J fz J (bK J hg))<|dC J J (fun hg=>bJ FM J J (bK J hg))<|dC J J (fun hg=>dL (bK J hg) hI)<|zo J (d4 (ht J) (fun hb=>(bK J hb)) (fun hb=>(h1t2 hb).2) h0t2)<|bp J<|aq<|ak ?_;cases so h;exact aG J J

theorem Yf(l:(List (List ac)))(most:Int){R:Bool}(h:pZ l most=some R):aU aO 24 [ca (dj) l,bM most] (ig R):=by
 refine aU.of Tryz.func24 J J J fun w0 S0=>au<|zo J (jj)<|aq<|ah<|au<|aF J<|zo J (iM jW J)<|aF J<|zo J (gu (ht J) (ht J))<|aq<|c9 h J (fun h=>?_) (fun h=>?_)
 ·refine au<|zo J (jj)<|aq<|ak<|ae ?_;cases so h;exact aG J J
 ·refine dS<|ah<|au<|aF J<|zo J (iM jW J)<|zo J (bD hI)<|aq<|ay<|ba (k:=13) J fun hN=>bI ?_;refine aS (dQ (Z:=fun ls i=>(l.drop i=ls)∧iw ls=some R) (Of:=fun _ i=>[]) (Gf:=fun _ i=>[(13,ca (dj) l),(14,jk l),(15,bM (i:Int))]) (fun i h=>?_) (fun e tl ih i h=>?_) l 0 ⟨J,h⟩) (bv J)
  ·obtain⟨hx,h⟩:=h
   refine aC<|au<|zo J (fD J J)<|aq<|ah<|bz (ht J) (di hx)<|bu ?_;refine ai (ai (aN ?_));refine aw<|au<|zo rfl (jj)<|aq<|ak ?_;cases so h;exact aG J J
  ·obtain⟨hx,h⟩:=h
   refine aC<|au<|zo J (fD J J)<|aq<|ah<|bw (ht J) (dg hx)<|dS<|ah<|ay<|au<|zo J (lX jW d3 J J J (cS hx))<|zo J (bB d3 J J)<|bp J<|aq<|ah<|au<|aF J<|zo J (iM iK J) ?_;refine zo J (gu (ht J) hI)<|aq<|c9 h J (fun h=>?_) (fun h=>?_)
   ·refine au<|zo J (jj)<|aq<|ak ?_;refine ae (aA (ae (ae (aA (ae ?_)))));cases so h;exact aG J J
   ·refine dS<|au<|aF J<|zo J (iM iK J)<|zo J (bD hI)<|aq<|ay<|ba (k:=22) J fun hN1=>bI ?_;refine aS (dQ (Z:=fun ls1 i1=>(e.drop i1=ls1)∧lc (iw tl) ls1=some R) (Of:=fun _ i1=>[]) (Gf:=fun _ i1=>[(13,ca (dj) l),(14,jk l),(15,bM (i:Int)),(22,ca (af) e),(23,jk e),(24,bM (i1:Int))]) (fun i1 h=>?_) (fun e1 tl1 ih1 i1 h=>?_) e 0 ⟨J,h⟩) (bv J)
    ·obtain⟨hx1,h⟩:=h
     refine aC<|au<|zo J (fD J J)<|aq<|ah<|bz (ht J) (di hx1)<|bu ?_;refine ai (ai (aN ?_));refine ap<|aw<|av<|zo rfl (lY (cA hx hN) rfl)<|aF rfl<|aQ ?_;exact bf (aS (ih (i+1) ⟨cz hx,h⟩) (bv J))
    ·obtain⟨hx1,h⟩:=h
     refine aC<|au<|zo J (fD J J)<|aq<|ah<|bw (ht J) (dg hx1)<|dS<|ah<|ay<|au<|zo J (lX iK aH J J J (cS hx1))<|zo J (bB aH J J)<|aZ (r:=af) (x:=ie) aH (fun _=>bh _) J fun b=>ax aH J an J (ht J) (ht J)<|aW 8 J<|aq<|au<|zo J (cW xo nR J J) ?_;refine zo J (bB Tc J J)<|zo J (H5 Cr (ht J))<|zo J (gu (ht J) hI)<|aq<|c9 h J (fun h=>?_) (fun h=>?_)
     ·refine au<|zo J (jj)<|aq<|ak ?_;refine aA (ae (ae (aA (aA (ae (ae (aA (ae ?_))))))));cases so h;exact aG J J
     ·refine bA<|ap<|aw<|av<|zo rfl (lY (cA hx1 hN1) rfl)<|aF rfl<|aQ ?_;exact bf (aS (ih1 (i1+1) ⟨cz hx1,h⟩) (bv J))

theorem Yt(b:eD){R:Bool}(h:p5 b=some R):aU aO 12 [tD kG b] (ig R):=by
 refine aU.of Tryz.func12 J J J fun w0 S0=>au<|zo J (je J)<|zo J (jj)<|aq<|ah<|au<|zo J (cW zK qE J J)<|zo J (bB uP J J)<|zo J (iM ot J)<|zo J (gu (ht J) hI)<|aq<|c9 h J (fun h=>?_) (fun h=>?_)
 ·refine au<|zo J (jj)<|aq<|ak<|ae ?_;cases so h;exact aG J J
 ·refine dS<|ah<|au<|zo J (cW zK qE J J)<|zo J (bB uP J J)<|zo J (iM ot J)<|zo J (bD hI)<|aq<|ay<|ba (k:=10) J fun hN=>bI ?_;refine aS (dQ (Z:=fun ls i=>(b.Tables.drop i=ls)∧lg ls=some R) (Of:=fun _ i=>[]) (Gf:=fun _ i=>[(10,ca (dT) b.Tables),(11,jk b.Tables),(12,bM (i:Int))]) (fun i h=>?_) (fun e tl ih i h=>?_) b.Tables 0 ⟨J,h⟩) (bv J)
  ·obtain⟨hx,h⟩:=h
   refine aC<|au<|zo J (fD J J)<|aq<|ah<|bz (ht J) (di hx)<|bu ?_;refine ai (ai (aN ?_));refine aw<|au<|zo rfl (jj)<|aq<|ak ?_;cases so h;exact aG J J
  ·obtain⟨hx,h⟩:=h
   refine aC<|au<|zo J (fD J J)<|aq<|ah<|bw (ht J) (dg hx)<|dS<|ah<|ay<|au<|zo J (lX ot gF J J J (cS hx))<|zo J (bB gF J J)<|bp J<|aq<|au<|aF J<|bC h fun r q_r h=>zo J (aD acH (Yf _ _ q_r) ⟨(ht J),hI,aT⟩) ?_;refine aq<|c9 h J (fun h=>?_) (fun h=>?_)
   ·refine au<|zo J (jj)<|aq<|ak ?_;refine aA (ae (ae (aA (ae ?_))));cases so h;exact aG J J
   ·refine bA<|ap<|aw<|av<|zo rfl (lY (cA hx hN) rfl)<|aF rfl<|aQ ?_;exact bf (aS (ih (i+1) ⟨cz hx,h⟩) (bv J))

theorem MF(e:br){R:Bool}(h:lN e=some R):aU aO 25 [tD bT e] (ig R):=by
 refine aU.of Tryz.func25 J J J fun w0 S0=>au<|zo J (je J)<|zo J (jj)<|aq<|ah<|au<|zo J (cW ow ke J J)<|zo J (bB yz J J)<|zo J (iM uq J)<|zo J (gu (ht J) hI)<|aq<|c9 h J (fun h=>?_) (fun h=>?_)
 ·refine au<|zo J (jj)<|aq<|ak<|ae ?_;cases so h;exact aG J J
 ·refine dS<|ah<|au<|zo J (cW ow ke J J)<|zo J (bB yz J J)<|zo J (iM uq J)<|zo J (bD hI)<|aq<|ay<|ba (k:=10) J fun hN=>bI ?_;refine aS (dQ (Z:=fun ls i=>(e.Nodes.drop i=ls)∧ld ls=some R) (Of:=fun _ i=>[]) (Gf:=fun _ i=>[(10,ca (bG) e.Nodes),(11,jk e.Nodes),(12,bM (i:Int))]) (fun i h=>?_) (fun e1 tl ih i h=>?_) e.Nodes 0 ⟨J,h⟩) (bv J)
  ·obtain⟨hx,h⟩:=h
   refine aC<|au<|zo J (fD J J)<|aq<|ah<|bz (ht J) (di hx)<|bu ?_;refine ai (ai (aN ?_));refine aw<|au<|zo rfl (jj)<|aq<|ak ?_;cases so h;exact aG J J
  ·obtain⟨hx,h⟩:=h
   refine aC<|au<|zo J (fD J J)<|aq<|ah<|bw (ht J) (dg hx)<|dS<|ah<|ay<|au<|zo J (lX uq oB J J J (cS hx))<|zo J (bB oB J J)<|aZ (r:=bG) (x:=Qq) oB (fun _=>uJ _) J fun b=>ax oB J an J (ht J) (ht J)<|aW 4 J<|aq<|au<|zo J (cW BW qD J J) ?_;refine zo J (cW xo nR J J)<|zo J (bB Tc J J)<|zo J (H5 Cr (ht J))<|zo J (gu (ht J) hI)<|aq<|c9 h J (fun h=>?_) (fun h=>?_)
   ·refine au<|zo J (jj)<|aq<|ak ?_;refine aA (ae (ae (aA (ae ?_))));cases so h;exact aG J J
   ·refine bA<|ap<|aw<|av<|zo rfl (lY (cA hx hN) rfl)<|aF rfl<|aQ ?_;exact bf (aS (ih (i+1) ⟨cz hx,h⟩) (bv J))

theorem Ys(l:bN)(b:eD){R:Bool}(h:vR l b=some R):aU aO 13 [tD cZ l,tD kG b] (ig R):=by
 refine aU.of Tryz.func13 J J J fun w0 S0=>au<|zo J (je J)<|zo J (je J)<|zo J (jj)<|aq<|ah<|au<|zo J (cW qG kz J J)<|zo J (bB BD J J)<|zo J (iM uF J)<|zo J (gu (ht J) hI)<|aq<|c9 h J (fun h=>?_) (fun h=>?_)
 ·refine au<|zo J (jj)<|aq<|ak<|ae ?_;cases so h;exact aG J J
 ·refine dS<|au<|zo J (cw)<|aq<|ah<|au<|zo J (cW qG kz J J)<|zo J (bB BD J J)<|zo J (iM uF J)<|zo J (bD hI)<|aq<|ay<|ba (k:=17) J fun hN=>bI ?_;refine aS (n7 (Z:=fun ls i rows=>(l.Nodes.drop i=ls)∧j4 b ls rows=some R) (Of:=fun _ i rows=>[]) (Gf:=fun _ i rows=>[(3,bO kG b),(5,bM rows),(17,ca (aI) l.Nodes),(18,jk l.Nodes),(19,bM (i:Int))]) (fun i rows h=>?_) (fun e tl ih i rows h=>?_) l.Nodes 0 (1:Int) ⟨J,h⟩) (bv J)
  ·obtain⟨hx,h⟩:=h
   refine aC<|au<|zo J (fD J J)<|aq<|ah<|bz (ht J) (di hx)<|bu ?_;refine ai (ai (aN ?_));refine aw<|au<|aF rfl<|zo rfl (gu (ht rfl) hI)<|bp rfl<|aq<|ak ?_;cases so h;exact aG J J
  ·obtain⟨hx,h⟩:=h
   refine aC<|au<|zo J (fD J J)<|aq<|ah<|bw (ht J) (dg hx)<|dS<|ah<|ay<|au<|zo J (lX uF gN J J J (cS hx))<|zo J (bB gN J J)<|aZ (r:=aI) (x:=Ho) gN (fun _=>ny _) J fun b1=>ax gN J an J (ht J) (ht J)<|aW 7 J<|aq<|ah<|au ?_;refine zo J (cW uB nS J J)<|zo J (bB d9 J J)<|zo J (iM gM J)<|zo J (gu (ht J) hI)<|aF J<|gD J J (fun hg=>cW tf mA J J)<|gD J J (fun hg=>bJ d9 J J (bK J hg))<|gD J J (fun hg=>dO gM (bK J hg))<|gD J J (fun hg=>gu (bK J hg) hI)<|zo J (yO J J)<|aF J<|gD J J (fun hg=>cW ub pw J J)<|gD J J (fun hg=>bJ Hy J J (bK J hg))<|gD J J (fun hg=>dO Dy (bK J hg))<|gD J J (fun hg=>gu (bK J hg) hI)<|zo J (yO J J)<|aF J<|gD J J (fun hg=>cW p7 lu J J)<|gD J J (fun hg=>bJ zl J J (bK J hg))<|gD J J (fun hg=>dO vu (bK J hg))<|gD J J (fun hg=>gu (bK J hg) hI)<|zo J (yO J J)<|aF J<|gD J J (fun hg=>cW p8 mz J J) ?_;refine gD J J (fun hg=>bJ Ar J J (bK J hg))<|gD J J (fun hg=>dO uE (bK J hg))<|gD J J (fun hg=>gu (bK J hg) hI)<|zo J (yO J J)<|aF J<|bC h fun t q_t h=>gD J J (fun hg=>cW tg mB J J)<|gD J J (fun hg=>bJ jC J J (bK J hg)) ?_
   obtain⟨r,h1t,h0t⟩:=og q_t
   have q_rg:=fun hb=>(h1t hb).1
   refine gD J J (fun hg=>aD YI (MF _ (q_rg hg)) ⟨(bK J hg),aT⟩)<|zo J (ir (ht J) (fun hb=>(bK J (wv hb))) (fun hb=>(h1t hb).2) h0t)<|aq<|c9 h J (fun h=>?_) (fun h=>?_)
   ·refine au<|zo J (jj)<|aq<|ak ?_;refine ae (aA (ae (ae (aA (ae ?_)))));cases so h;exact aG J J
   ·refine dS<|ah<|au<|zo J (cW p7 lu J J)<|zo J (bB zl J J)<|zo J (iM vu J)<|zo J (bD hI)<|aq<|ay<|ba (k:=57) J fun hN1=>bI ?_;refine aS (dQ (Z:=fun ls1 i1=>(e.Items.drop i1=ls1)∧nh b (j4 b tl) e rows ls1=some R) (Of:=fun _ i1=>[]) (Gf:=fun _ i1=>[(3,bO kG b),(5,bM rows),(7,bO aI e),(17,ca (aI) l.Nodes),(18,jk l.Nodes),(19,bM (i:Int)),(57,ca (bT) e.Items),(58,jk e.Items),(59,bM (i1:Int))]) (fun i1 h=>?_) (fun e1 tl1 ih1 i1 h=>?_) e.Items 0 ⟨J,h⟩) (bv J)
    ·obtain⟨hx1,h⟩:=h
     refine aC<|au<|zo J (fD J J)<|aq<|ah<|bz (ht J) (di hx1)<|bu ?_;refine ai (ai (aN ?_));refine aw<|ah<|au<|zo rfl (cW p8 mz rfl rfl)<|zo rfl (bB Ar rfl rfl)<|zo rfl (iM uE rfl)<|zo rfl (bD hI)<|aq<|ay<|ba (k:=67) J fun hN2=>bI ?_;refine aS (dQ (Z:=fun ls2 i2=>(e.Aggs.drop i2=ls2)∧nf b (j4 b tl) e rows ls2=some R) (Of:=fun _ i2=>[]) (Gf:=fun _ i2=>[(3,bO kG b),(5,bM rows),(7,bO aI e),(17,ca (aI) l.Nodes),(18,jk l.Nodes),(19,bM (i:Int)),(67,ca (eg) e.Aggs),(68,jk e.Aggs),(69,bM (i2:Int))]) (fun i2 h=>?_) (fun e2 tl2 ih2 i2 h=>?_) e.Aggs 0 ⟨J,h⟩) (bv J)
     ·obtain⟨hx2,h⟩:=h
      refine aC<|au<|zo J (fD J J)<|aq<|ah<|bz (ht J) (di hx2)<|bu ?_;refine ai (ai (aN ?_));refine aw<|au<|zo rfl (cW zI o8 rfl rfl)<|zo rfl (bB cr rfl rfl)<|zo rfl (np rfl)<|aF rfl<|dC rfl rfl (fun hg=>cW uC mC J J)<|dC J J (fun hg=>bJ cr J J (bK J hg))<|dC J J (fun hg=>iu (bK J hg) hI)<|zo J (uK J J)<|aF J<|dC J J (fun hg=>cW uC mC J J)<|dC J J (fun hg=>bJ cr J J (bK J hg))<|dC J J (fun hg=>cW zK qE J J)<|dC J J (fun hg=>bJ uP J J (bK J hg))<|dC J J (fun hg=>dO ot (bK J hg))<|dC J J (fun hg=>gJ (bK J hg) (bK J hg))<|zo J (uK J J)<|aq<|c9 h J (fun h=>?_) (fun h=>?_)
      ·refine av<|aF J<|zo J (cW zK qE J J)<|zo J (bB uP J J)<|zo J (cW uC mC J J)<|zo J (bB cr J J)<|bC h fun e3 q_e3 h=>zo J (lX ot gF J J J q_e3)<|zo J (bB gF J J)<|zo J (iM jW J)<|zo J (nO (ht J) hI)<|zo J (xg (ht J) (ht J))<|bp J<|aQ<|ap<|aw<|av<|zo rfl (lY (cA hx hN) rfl)<|aF rfl<|aQ ?_;exact bf (aS (ih (i+1) (IntKind.i64.wrap (rows*(IntKind.i64.wrap ((e3.length:Int)+(1:Int))))) ⟨cz hx,h⟩) (bv J))
      ·refine bA<|ap<|aw<|av<|zo rfl (lY (cA hx hN) rfl)<|aF rfl<|aQ ?_;exact bf (aS (ih (i+1) rows ⟨cz hx,h⟩) (bv J))
     ·obtain⟨hx2,h⟩:=h
      refine aC<|au<|zo J (fD J J)<|aq<|ah<|bw (ht J) (dg hx2)<|dS<|ah<|ay<|au<|zo J (lX uE rW J J J (cS hx2))<|zo J (bB rW J J)<|aZ (r:=eg) (x:=WX) rW (fun _=>DI _) J fun b2=>ax rW J an J (ht J) (ht J)<|aW 11 J<|aq<|au<|zo J (cW zJ te J J) ?_;refine zo J (bB jC J J)<|bC h fun r1 q_r1 h=>zo J (aD YI (MF _ q_r1) ⟨(ht J),aT⟩)<|aq<|c9 h J (fun h=>?_) (fun h=>?_)
      ·refine au<|zo J (jj)<|aq<|ak ?_;refine aA (ae (ae (aA (ae (aA (ae (ae (aA (ae ?_)))))))));cases so h;exact aG J J
      ·refine bA<|ap<|aw<|av<|zo rfl (lY (cA hx2 hN2) rfl)<|aF rfl<|aQ ?_;exact bf (aS (ih2 (i2+1) ⟨cz hx2,h⟩) (bv J))
    ·obtain⟨hx1,h⟩:=h
     refine aC<|au<|zo J (fD J J)<|aq<|ah<|bw (ht J) (dg hx1)<|dS<|ah<|ay<|au<|zo J (lX vu jC J J J (cS hx1))<|zo J (bB jC J J)<|aZ (r:=bT) (x:=By) jC (fun _=>rP _) J fun b3=>ax jC J an J (ht J) (ht J)<|aW 9 J<|aq<|au<|zo J (bB jC J J) ?_;refine bC h fun r2 q_r2 h=>zo J (aD YI (MF _ q_r2) ⟨(ht J),aT⟩)<|aq<|c9 h J (fun h=>?_) (fun h=>?_)
     ·refine au<|zo J (jj)<|aq<|ak ?_;refine aA (ae (ae (aA (ae (aA (ae (ae (aA (ae ?_)))))))));cases so h;exact aG J J
     ·refine bA<|ap<|aw<|av<|zo rfl (lY (cA hx1 hN1) rfl)<|aF rfl<|aQ ?_;exact bf (aS (ih1 (i1+1) ⟨cz hx1,h⟩) (bv J))

end Go.Proofs.YtfhhakidodmdfaaGreatDoor

