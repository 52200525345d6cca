/- cP of this claim: P13. -/
import Derived.Test.YtfhhakidodmdfaaGreatDoorJgT
import Derived.Test.YtfhhakidodmdfaaGreatDoorJgP12
set_option linter.all false
namespace Go.Proofs.YtfhhakidodmdfaaGreatDoor
open Go
set_option maxRecDepth 100000

theorem Yz{R:aj}(h:Fb=some R):aX aQ 46 [] (tD aF R):=by
 refine aX.of Tryz.func46 J J J fun w0 S0=>aw<|aW (r:=aF) (x:=HO) fK (fun _=>lK _) J fun b=>av<|aw<|zo J (aS (r:=cd) (ys:=[(2:Int)]) (xs:=[.const (.int .i64 (2))]) gT cx J J J J J ⟨hI,aT⟩)<|zo J (bU (y:=(⟨(1:Int),s6,s6,(0:Int),[(2:Int)],false,zQ,[],[],[],[],(0:Int)⟩:aj)) fK Uu lK (⟨_,_,_,_,_,J,wa,J,hI,⟨_,_,_,_,_,J,v7,J,hI,⟨_,_,_,_,_,J,td,J,hI,⟨_,_,_,_,_,J,zZ,J,(ht J),J⟩⟩⟩⟩))<|ap fK J an J (ht J) (ht J)<|aV 0 J<|av<|am ?_;cases so h;exact iX J fK J J J

theorem Yy(k:Int){R:bG}(h:G9 k=some R):aX aQ 47 [bM k] (tD cj R):=by
 refine aX.of Tryz.func47 J J J fun w0 S0=>aw<|aW (r:=cj) (x:=zQ) j3 (fun _=>pX _) J fun b=>av<|aw<|aG J<|zo J (bU (y:=(⟨(2:Int),s6,s6,k,ig⟩:bo)) oW Z5 s0 (⟨_,_,_,_,_,J,Ex,J,hI,⟨_,_,_,_,_,J,Ew,J,hI,⟨_,_,_,_,_,J,Ev,J,hI,⟨_,_,_,_,_,J,Mn,J,(ht J),J⟩⟩⟩⟩))<|zo J (aS (r:=bJ) (ys:=[(⟨(2:Int),s6,s6,k,ig⟩:bo)]) (xs:=[.tmp 4]) vP oW J J J J J ⟨(ht J),aT⟩)<|zo J (bU (y:=(⟨[(⟨(2:Int),s6,s6,k,ig⟩:bo)]⟩:bG)) j3 Uv pX (⟨_,_,_,_,_,J,ve,J,(ht J),J⟩))<|ap j3 J an J (ht J) (ht J)<|aV 2 J<|av<|am ?_;cases so h;exact iX J j3 J J J

theorem Lf(k:Int){R:(List ac)}(h:ID k=some R):fZ aQ 101 [bM k] false af 46 R:=by
 refine fZ.of Tryz.func101 J J J fun w0 S0=>aw<|bQ false af 46<|zo J (aM tJ)<|av<|aw<|aG J<|zo J (bU (y:=(⟨(2:Int),k,(0:Int),[]⟩:ac)) aH qk bj (⟨_,_,_,_,_,J,mD,J,hI,⟨_,_,_,_,_,J,pp,J,(ht J),J⟩⟩))<|kh (r:=af) (ys:=[(⟨(2:Int),k,(0:Int),[]⟩:ac)]) (xs:=[.tmp 4]) jh aH J J J J J ⟨(ht J),aT⟩ J fun l c=>bp J<|av<|am ?_;cases so h;exact gn J J
theorem Yx{R:dx}(h:C5=some R):aX aQ 48 [] (tD iS R):=by
 refine aX.of Tryz.func48 J J J fun w0 S0=>aw<|aW (r:=iS) (x:=(⟨[]⟩:dx)) Ek (fun _=>HN _) J fun b=>av<|aw<|bC h fun r q_r h=>iy Xf (Lf _ q_r) ⟨hI,aT⟩ J fun l c=>bC h fun r1 q_r1 h=>iy Xf (Lf _ q_r1) ⟨hI,aT⟩ J fun l1 c1=>zo J (bU (y:=ig) aH qk bj (J))<|zo J (aS (r:=af) (ys:=[ig]) (xs:=[.tmp 3]) jh aH J J J J J ⟨(ht J),aT⟩)<|bF<|jC<|iW 1 J<|bF<|jC<|iW 2 J<|zo J (aS (r:=cY) (ys:=[r,r1,[ig]]) (xs:=[.tmp 1,.tmp 2,.tmp 4]) jF dW J J J J J ⟨(kz (ht J)),(kz (ht J)),(ht J),aT⟩)<|zo J (aS (r:=dO) (ys:=[[r,r1,[ig]]]) (xs:=[.tmp 5]) oA gF J J J J J ⟨(ht J),aT⟩)<|zo J (bU (y:=(⟨[[r,r1,[ig]]]⟩:dx)) Ek acs HN (⟨_,_,_,_,_,J,PE,J,(ht J),J⟩))<|hT ?_;refine ap Ek J an J (ht J) (ht J)<|aV 0 J<|av<|am<|ba<|ba ?_;cases so h;exact iX J Ek J J J

theorem YT{R:Bool}(h:uw=some R):aX aQ 11 [] (iR R):=by
 refine aX.of Tryz.func11 J J J fun w0 S0=>aw<|zo J (jL)<|av<|aw<|bC h fun r q_r h=>zo J (aC acW (Yz q_r) trivial)<|zo J (bU (y:=QK) ug Z6 D8 (⟨_,_,_,_,_,J,JT,J,hI,J⟩))<|bC h fun r1 q_r1 h=>zo J (aC acV (Yy _ q_r1) ⟨hI,aT⟩)<|zo J (bU (y:=(⟨(3:Int),r1⟩:gS)) ug Z6 D8 (⟨_,_,_,_,_,J,JT,J,hI,⟨_,_,_,_,_,J,JR,J,(ht J),J⟩⟩))<|zo J (aS (r:=fm) (ys:=[QK,(⟨(3:Int),r1⟩:gS)]) (xs:=[.tmp 5,.tmp 7]) wT ug J J J J J ⟨(ht J),(ht J),aT⟩)<|zo J (bU (y:=(⟨(4:Int),(0:Int),s6,(0:Int),[],false,zQ,[],[QK,(⟨(3:Int),r1⟩:gS)],[],[],(0:Int)⟩:aj)) fK Uu lK (⟨_,_,_,_,_,J,wa,J,hI,⟨_,_,_,_,_,J,td,J,hI,⟨_,_,_,_,_,J,Es,J,(ht J),J⟩⟩⟩))<|zo J (aS (r:=aF) (ys:=[r,(⟨(4:Int),(0:Int),s6,(0:Int),[],false,zQ,[],[QK,(⟨(3:Int),r1⟩:gS)],[],[],(0:Int)⟩:aj)]) (xs:=[.tmp 4,.tmp 9]) qE fK J J J J J ⟨(ht J),(ht J),aT⟩)<|zo J (bU (y:=(⟨[r,(⟨(4:Int),(0:Int),s6,(0:Int),[],false,zQ,[],[QK,(⟨(3:Int),r1⟩:gS)],[],[],(0:Int)⟩:aj)]⟩:bc)) hY RV kZ (⟨_,_,_,_,_,J,Mh,J,(ht J),J⟩))<|aW (r:=bP) (x:=wW) hY (fun _=>kZ _) J fun b=>ap hY J an J (ht J) (ht J)<|aV 1 J<|av<|ah ?_;refine bC h fun r2 q_r2 h=>bC h fun r3 q_r3 h=>?_
 refine c9 (ts:=[_,_,_,_,_,_,_,_]) mixed J J
  ⟨eM 1 J J J (bB hY J J),
  ⟨Pv J J (aC acU (Yx q_r2) trivial),
  ⟨d8 13 0 14 1 J J J J (aC V6 (I3 _ _ q_r3) ⟨(ht J),(ht J),aT⟩),
  ⟨bY 15 2 J J J (dl J),
  ⟨bY 12 3 J J J (gp J J),
  ⟨bY 12 3 J J J (gp J J),
  ⟨bY 16 4 J J J (u8 J),
  ⟨bY 17 5 J J J (u8 J),
  aT⟩⟩⟩⟩⟩⟩⟩⟩ ?_
 refine ax<|aw<|aG rfl<|zo rfl (nI rfl)<|aG rfl<|dQ rfl rfl (fun hg=>dl J)<|dQ J J (fun hg=>cW jF (bN J hg))<|dQ J J (fun hg=>dH (bN J hg) hI)<|zo J (u6 J J)<|aG J<|bC h fun t q_t h=>dQ J J (fun hg=>dl J) ?_
 obtain⟨e,h1t,h0t⟩:=og q_t
 have q_eg:=fun hb=>(h1t hb).1
 refine dQ J J (fun hg=>br jF dW J (bN J hg) hI (q_eg hg))<|dQ J J (fun hg=>bO dW J J (bN J hg))<|dQ J J (fun hg=>cW jh (bN J hg))<|dQ J J (fun hg=>dH (bN J hg) hI)<|zo J (fQ (ht J) (fun hb=>(bN J hb)) (fun hb=>(h1t hb).2) h0t)<|aG J<|bC h fun t1 q_t1 h=>dQ J J (fun hg=>dl J) ?_
 obtain⟨e1,h1t1,h0t1⟩:=og q_t1
 have q_e1g:=fun hb=>(h1t1 hb).1
 refine dQ J J (fun hg=>br jF dW J (bN J hg) hI (q_e1g hg))<|dQ J J (fun hg=>bO dW J J (bN J hg)) ?_
 obtain⟨e2,h1t1⟩:=X4 (fun hb=>(h1t1 hb).2)
 have q_e2g:=fun hb=>(h1t1 hb).1
 refine dQ J J (fun hg=>br jh aH J (bN J hg) hI (q_e2g hg))<|dQ J J (fun hg=>sy lY J ft J (bN J hg))<|dQ J J (fun hg=>bO F8 J J (bN J hg))<|dQ J J (fun hg=>dH (bN J hg) hI)<|zo J (fQ (ht J) (fun hb=>(bN J hb)) (fun hb=>(h1t1 hb).2) h0t1)<|aG J<|bC h fun t2 q_t2 h=>dQ J J (fun hg=>dl J) ?_
 obtain⟨e3,h1t2,h0t2⟩:=og q_t2
 have q_e3g:=fun hb=>(h1t2 hb).1
 refine dQ J J (fun hg=>br jF dW J (bN J hg) hI (q_e3g hg))<|dQ J J (fun hg=>bO dW J J (bN J hg)) ?_
 obtain⟨e4,h1t2⟩:=X4 (fun hb=>(h1t2 hb).2)
 have q_e4g:=fun hb=>(h1t2 hb).1
 refine dQ J J (fun hg=>br jh aH J (bN J hg) hI (q_e4g hg))<|dQ J J (fun hg=>sy lY J ft J (bN J hg))<|dQ J J (fun hg=>bO F8 J J (bN J hg))<|dQ J J (fun hg=>dH (bN J hg) hI)<|zo J (fQ (ht J) (fun hb=>(bN J hb)) (fun hb=>(h1t2 hb).2) h0t2)<|bp J<|av<|am ?_;cases so h;exact aJ J J

theorem YE(l:(List (List ac)))(most:Int){R:Bool}(h:qh l most=some R):aX aQ 24 [ca (cY) l,bM most] (iR R):=by
 refine aX.of Tryz.func24 J J J fun w0 S0=>aw<|zo J (jL)<|av<|ah<|aw<|aG J<|zo J (jg jF J)<|aG J<|zo J (gv (ht J) (ht J))<|av<|cU h J (fun h=>?_) (fun h=>?_)
 ·refine aw<|zo J (jL)<|av<|am<|ae ?_;cases so h;exact aJ J J
 ·refine dS<|ah<|aw<|aG J<|zo J (jg jF J)<|zo J (bI hI)<|av<|aA<|be (k:=13) J fun hN=>bL ?_;refine aU (eI (Z:=fun ls i=>(l.drop i=ls)∧iu ls=some R) (Of:=fun _ i=>[]) (Gf:=fun _ i=>[(13,ca (cY) l),(14,jz l),(15,bM (i:Int))]) (fun i h=>?_) (fun e tl ih i h=>?_) l 0 ⟨J,h⟩) (bu J)
  ·obtain⟨hx,h⟩:=h
   refine aB<|aw<|zo J (fM J J)<|av<|ah<|bz (ht J) (du hx)<|bv ?_;refine ai (ai (aO ?_));refine ax<|aw<|zo rfl (jL)<|av<|am ?_;cases so h;exact aJ J J
  ·obtain⟨hx,h⟩:=h
   refine aB<|aw<|zo J (fM J J)<|av<|ah<|bw (ht J) (di hx)<|dS<|ah<|aA<|aw<|zo J (my jF dW J J J (da hx))<|zo J (bB dW J J)<|bp J<|av<|ah<|aw<|aG J<|zo J (jg jh J) ?_;refine zo J (gv (ht J) hI)<|av<|cU h J (fun h=>?_) (fun h=>?_)
   ·refine aw<|zo J (jL)<|av<|am ?_;refine ae (aD (ae (ae (aD (ae ?_)))));cases so h;exact aJ J J
   ·refine dS<|aw<|aG J<|zo J (jg jh J)<|zo J (bI hI)<|av<|aA<|be (k:=22) J fun hN1=>bL ?_;refine aU (eI (Z:=fun ls1 i1=>(e.drop i1=ls1)∧lk (iu tl) ls1=some R) (Of:=fun _ i1=>[]) (Gf:=fun _ i1=>[(13,ca (cY) l),(14,jz l),(15,bM (i:Int)),(22,ca (af) e),(23,jz e),(24,bM (i1:Int))]) (fun i1 h=>?_) (fun e1 tl1 ih1 i1 h=>?_) e 0 ⟨J,h⟩) (bu J)
    ·obtain⟨hx1,h⟩:=h
     refine aB<|aw<|zo J (fM J J)<|av<|ah<|bz (ht J) (du hx1)<|bv ?_;refine ai (ai (aO ?_));refine aq<|ax<|au<|zo rfl (mz (cM hx hN) rfl)<|aG rfl<|aP ?_;exact bm (aU (ih (i+1) ⟨cL hx,h⟩) (bu J))
    ·obtain⟨hx1,h⟩:=h
     refine aB<|aw<|zo J (fM J J)<|av<|ah<|bw (ht J) (di hx1)<|dS<|ah<|aA<|aw<|zo J (my jh aH J J J (da hx1))<|zo J (bB aH J J)<|aW (r:=af) (x:=ig) aH (fun _=>bj _) J fun b=>ap aH J an J (ht J) (ht J)<|aV 8 J<|av<|aw<|zo J (df xX oh J J) ?_;refine zo J (bB TE J J)<|zo J (Iz CR (ht J))<|zo J (gv (ht J) hI)<|av<|cU h J (fun h=>?_) (fun h=>?_)
     ·refine aw<|zo J (jL)<|av<|am ?_;refine aD (ae (ae (aD (aD (ae (ae (aD (ae ?_))))))));cases so h;exact aJ J J
     ·refine bA<|aq<|ax<|au<|zo rfl (mz (cM hx1 hN1) rfl)<|aG rfl<|aP ?_;exact bm (aU (ih1 (i1+1) ⟨cL hx1,h⟩) (bu J))

theorem YS(b:dx){R:Bool}(h:qi b=some R):aX aQ 12 [tD iS b] (iR R):=by
 refine aX.of Tryz.func12 J J J fun w0 S0=>aw<|zo J (jm J)<|zo J (jL)<|av<|ah<|aw<|zo J (df Aj qU J J)<|zo J (bB vb J J)<|zo J (jg oA J)<|zo J (gv (ht J) hI)<|av<|cU h J (fun h=>?_) (fun h=>?_)
 ·refine aw<|zo J (jL)<|av<|am<|ae ?_;cases so h;exact aJ J J
 ·refine dS<|ah<|aw<|zo J (df Aj qU J J)<|zo J (bB vb J J)<|zo J (jg oA J)<|zo J (bI hI)<|av<|aA<|be (k:=10) J fun hN=>bL ?_;refine aU (eI (Z:=fun ls i=>(b.Tables.drop i=ls)∧lq ls=some R) (Of:=fun _ i=>[]) (Gf:=fun _ i=>[(10,ca (dO) b.Tables),(11,jz b.Tables),(12,bM (i:Int))]) (fun i h=>?_) (fun e tl ih i h=>?_) b.Tables 0 ⟨J,h⟩) (bu J)
  ·obtain⟨hx,h⟩:=h
   refine aB<|aw<|zo J (fM J J)<|av<|ah<|bz (ht J) (du hx)<|bv ?_;refine ai (ai (aO ?_));refine ax<|aw<|zo rfl (jL)<|av<|am ?_;cases so h;exact aJ J J
  ·obtain⟨hx,h⟩:=h
   refine aB<|aw<|zo J (fM J J)<|av<|ah<|bw (ht J) (di hx)<|dS<|ah<|aA<|aw<|zo J (my oA gF J J J (da hx))<|zo J (bB gF J J)<|bp J<|av<|aw<|aG J<|bC h fun r q_r h=>zo J (aC acZ (YE _ _ q_r) ⟨(ht J),hI,aT⟩) ?_;refine av<|cU h J (fun h=>?_) (fun h=>?_)
   ·refine aw<|zo J (jL)<|av<|am ?_;refine aD (ae (ae (aD (ae ?_))));cases so h;exact aJ J J
   ·refine bA<|aq<|ax<|au<|zo rfl (mz (cM hx hN) rfl)<|aG rfl<|aP ?_;exact bm (aU (ih (i+1) ⟨cL hx,h⟩) (bu J))

theorem Nh(e:bG){R:Bool}(h:lV e=some R):aX aQ 25 [tD cj e] (iR R):=by
 refine aX.of Tryz.func25 J J J fun w0 S0=>aw<|zo J (jm J)<|zo J (jL)<|av<|ah<|aw<|zo J (df qn lX J J)<|zo J (bB AU J J)<|zo J (jg vP J)<|zo J (gv (ht J) hI)<|av<|cU h J (fun h=>?_) (fun h=>?_)
 ·refine aw<|zo J (jL)<|av<|am<|ae ?_;cases so h;exact aJ J J
 ·refine dS<|ah<|aw<|zo J (df qn lX J J)<|zo J (bB AU J J)<|zo J (jg vP J)<|zo J (bI hI)<|av<|aA<|be (k:=10) J fun hN=>bL ?_;refine aU (eI (Z:=fun ls i=>(e.Nodes.drop i=ls)∧ln ls=some R) (Of:=fun _ i=>[]) (Gf:=fun _ i=>[(10,ca (bJ) e.Nodes),(11,jz e.Nodes),(12,bM (i:Int))]) (fun i h=>?_) (fun e1 tl ih i h=>?_) e.Nodes 0 ⟨J,h⟩) (bu J)
  ·obtain⟨hx,h⟩:=h
   refine aB<|aw<|zo J (fM J J)<|av<|ah<|bz (ht J) (du hx)<|bv ?_;refine ai (ai (aO ?_));refine ax<|aw<|zo rfl (jL)<|av<|am ?_;cases so h;exact aJ J J
  ·obtain⟨hx,h⟩:=h
   refine aB<|aw<|zo J (fM J J)<|av<|ah<|bw (ht J) (di hx)<|dS<|ah<|aA<|aw<|zo J (my vP oW J J J (da hx))<|zo J (bB oW J J)<|aW (r:=bJ) (x:=QM) oW (fun _=>s0 _) J fun b=>ap oW J an J (ht J) (ht J)<|aV 4 J<|av<|aw<|zo J (df Cn qT J J) ?_;refine zo J (df xX oh J J)<|zo J (bB TE J J)<|zo J (Iz CR (ht J))<|zo J (gv (ht J) hI)<|av<|cU h J (fun h=>?_) (fun h=>?_)
   ·refine aw<|zo J (jL)<|av<|am ?_;refine aD (ae (ae (aD (ae ?_))));cases so h;exact aJ J J
   ·refine bA<|aq<|ax<|au<|zo rfl (mz (cM hx hN) rfl)<|aG rfl<|aP ?_;exact bm (aU (ih (i+1) ⟨cL hx,h⟩) (bu J))

theorem YR(l:bc)(b:dx){R:Bool}(h:wl l b=some R):aX aQ 13 [tD bP l,tD iS b] (iR R):=by
 refine aX.of Tryz.func13 J J J fun w0 S0=>aw<|zo J (jm J)<|zo J (jm J)<|zo J (jL)<|av<|ah<|aw<|zo J (df lZ kH J J)<|zo J (bB vc J J)<|zo J (jg qE J)<|zo J (gv (ht J) hI)<|av<|cU h J (fun h=>?_) (fun h=>?_)
 ·refine aw<|zo J (jL)<|av<|am<|ae ?_;cases so h;exact aJ J J
 ·refine dS<|aw<|zo J (cD)<|av<|ah<|aw<|zo J (df lZ kH J J)<|zo J (bB vc J J)<|zo J (jg qE J)<|zo J (bI hI)<|av<|aA<|be (k:=17) J fun hN=>bL ?_;refine aU (oz (Z:=fun ls i rows=>(l.Nodes.drop i=ls)∧kg b ls rows=some R) (Of:=fun _ i rows=>[]) (Gf:=fun _ i rows=>[(3,bK iS b),(5,bM rows),(17,ca (aF) l.Nodes),(18,jz l.Nodes),(19,bM (i:Int))]) (fun i rows h=>?_) (fun e tl ih i rows h=>?_) l.Nodes 0 (1:Int) ⟨J,h⟩) (bu J)
  ·obtain⟨hx,h⟩:=h
   refine aB<|aw<|zo J (fM J J)<|av<|ah<|bz (ht J) (du hx)<|bv ?_;refine ai (ai (aO ?_));refine ax<|aw<|aG rfl<|zo rfl (gv (ht rfl) hI)<|bp rfl<|av<|am ?_;cases so h;exact aJ J J
  ·obtain⟨hx,h⟩:=h
   refine aB<|aw<|zo J (fM J J)<|av<|ah<|bw (ht J) (di hx)<|dS<|ah<|aA<|aw<|zo J (my qE fK J J J (da hx))<|zo J (bB fK J J)<|aW (r:=aF) (x:=HO) fK (fun _=>lK _) J fun b1=>ap fK J an J (ht J) (ht J)<|aV 7 J<|av<|ah<|aw ?_;refine zo J (df uW om J J)<|zo J (bB d9 J J)<|zo J (jg gT J)<|zo J (gv (ht J) hI)<|aG J<|gz J J (fun hg=>df tN mQ J J)<|gz J J (fun hg=>bO d9 J J (bN J hg))<|gz J J (fun hg=>cW gT (bN J hg))<|gz J J (fun hg=>gv (bN J hg) hI)<|zo J (xo J J)<|aG J<|gz J J (fun hg=>df uC pN J J)<|gz J J (fun hg=>bO H2 J J (bN J hg))<|gz J J (fun hg=>cW DW (bN J hg))<|gz J J (fun hg=>gv (bN J hg) hI)<|zo J (xo J J)<|aG J<|gz J J (fun hg=>df qW mP J J)<|gz J J (fun hg=>bO AS J J (bN J hg))<|gz J J (fun hg=>cW xf (bN J hg))<|gz J J (fun hg=>gv (bN J hg) hI)<|zo J (xo J J)<|aG J<|gz J J (fun hg=>df qX oj J J) ?_;refine gz J J (fun hg=>bO B4 J J (bN J hg))<|gz J J (fun hg=>cW wT (bN J hg))<|gz J J (fun hg=>gv (bN J hg) hI)<|zo J (xo J J)<|aG J<|bC h fun t q_t h=>gz J J (fun hg=>df uV ol J J)<|gz J J (fun hg=>bO j3 J J (bN J hg)) ?_
   obtain⟨r,h1t,h0t⟩:=og q_t
   have q_rg:=fun hb=>(h1t hb).1
   refine gz J J (fun hg=>aC Y8 (Nh _ (q_rg hg)) ⟨(bN J hg),aT⟩)<|zo J (kG (ht J) (fun hb=>(bN J (Ae hb))) (fun hb=>(h1t hb).2) h0t)<|av<|cU h J (fun h=>?_) (fun h=>?_)
   ·refine aw<|zo J (jL)<|av<|am ?_;refine ae (aD (ae (ae (aD (ae ?_)))));cases so h;exact aJ J J
   ·refine dS<|ah<|aw<|zo J (df qW mP J J)<|zo J (bB AS J J)<|zo J (jg xf J)<|zo J (bI hI)<|av<|aA<|be (k:=57) J fun hN1=>bL ?_;refine aU (eI (Z:=fun ls1 i1=>(e.Items.drop i1=ls1)∧ny b (kg b tl) e rows ls1=some R) (Of:=fun _ i1=>[]) (Gf:=fun _ i1=>[(3,bK iS b),(5,bM rows),(7,bK aF e),(17,ca (aF) l.Nodes),(18,jz l.Nodes),(19,bM (i:Int)),(57,ca (cj) e.Items),(58,jz e.Items),(59,bM (i1:Int))]) (fun i1 h=>?_) (fun e1 tl1 ih1 i1 h=>?_) e.Items 0 ⟨J,h⟩) (bu J)
    ·obtain⟨hx1,h⟩:=h
     refine aB<|aw<|zo J (fM J J)<|av<|ah<|bz (ht J) (du hx1)<|bv ?_;refine ai (ai (aO ?_));refine ax<|ah<|aw<|zo rfl (df qX oj rfl rfl)<|zo rfl (bB B4 rfl rfl)<|zo rfl (jg wT rfl)<|zo rfl (bI hI)<|av<|aA<|be (k:=67) J fun hN2=>bL ?_;refine aU (eI (Z:=fun ls2 i2=>(e.Aggs.drop i2=ls2)∧nw b (kg b tl) e rows ls2=some R) (Of:=fun _ i2=>[]) (Gf:=fun _ i2=>[(3,bK iS b),(5,bM rows),(7,bK aF e),(17,ca (aF) l.Nodes),(18,jz l.Nodes),(19,bM (i:Int)),(67,ca (fm) e.Aggs),(68,jz e.Aggs),(69,bM (i2:Int))]) (fun i2 h=>?_) (fun e2 tl2 ih2 i2 h=>?_) e.Aggs 0 ⟨J,h⟩) (bu J)
     ·obtain⟨hx2,h⟩:=h
      refine aB<|aw<|zo J (fM J J)<|av<|ah<|bz (ht J) (du hx2)<|bv ?_;refine ai (ai (aO ?_));refine ax<|aw<|zo rfl (df Ah py rfl rfl)<|zo rfl (bB cx rfl rfl)<|zo rfl (nI rfl)<|aG rfl<|dQ rfl rfl (fun hg=>df uX mR J J)<|dQ J J (fun hg=>bO cx J J (bN J hg))<|dQ J J (fun hg=>jq (bN J hg) hI)<|zo J (u6 J J)<|aG J<|dQ J J (fun hg=>df uX mR J J)<|dQ J J (fun hg=>bO cx J J (bN J hg))<|dQ J J (fun hg=>df Aj qU J J)<|dQ J J (fun hg=>bO vb J J (bN J hg))<|dQ J J (fun hg=>cW oA (bN J hg))<|dQ J J (fun hg=>gi (bN J hg) (bN J hg))<|zo J (u6 J J)<|av<|cU h J (fun h=>?_) (fun h=>?_)
      ·refine au<|aG J<|zo J (df Aj qU J J)<|zo J (bB vb J J)<|zo J (df uX mR J J)<|zo J (bB cx J J)<|bC h fun e3 q_e3 h=>zo J (my oA gF J J J q_e3)<|zo J (bB gF J J)<|zo J (jg jF J)<|zo J (oa (ht J) hI)<|zo J (xN (ht J) (ht J))<|bp J<|aP<|aq<|ax<|au<|zo rfl (mz (cM hx hN) rfl)<|aG rfl<|aP ?_;exact bm (aU (ih (i+1) (IntKind.i64.wrap (rows*(IntKind.i64.wrap ((e3.length:Int)+(1:Int))))) ⟨cL hx,h⟩) (bu J))
      ·refine bA<|aq<|ax<|au<|zo rfl (mz (cM hx hN) rfl)<|aG rfl<|aP ?_;exact bm (aU (ih (i+1) rows ⟨cL hx,h⟩) (bu J))
     ·obtain⟨hx2,h⟩:=h
      refine aB<|aw<|zo J (fM J J)<|av<|ah<|bw (ht J) (di hx2)<|dS<|ah<|aA<|aw<|zo J (my wT ug J J J (da hx2))<|zo J (bB ug J J)<|aW (r:=fm) (x:=Xs) ug (fun _=>D8 _) J fun b2=>ap ug J an J (ht J) (ht J)<|aV 11 J<|av<|aw<|zo J (df Co vx J J) ?_;refine zo J (bB j3 J J)<|bC h fun r1 q_r1 h=>zo J (aC Y8 (Nh _ q_r1) ⟨(ht J),aT⟩)<|av<|cU h J (fun h=>?_) (fun h=>?_)
      ·refine aw<|zo J (jL)<|av<|am ?_;refine aD (ae (ae (aD (ae (aD (ae (ae (aD (ae ?_)))))))));cases so h;exact aJ J J
      ·refine bA<|aq<|ax<|au<|zo rfl (mz (cM hx2 hN2) rfl)<|aG rfl<|aP ?_;exact bm (aU (ih2 (i2+1) ⟨cL hx2,h⟩) (bu J))
    ·obtain⟨hx1,h⟩:=h
     refine aB<|aw<|zo J (fM J J)<|av<|ah<|bw (ht J) (di hx1)<|dS<|ah<|aA<|aw<|zo J (my xf j3 J J J (da hx1))<|zo J (bB j3 J J)<|aW (r:=cj) (x:=zQ) j3 (fun _=>pX _) J fun b3=>ap j3 J an J (ht J) (ht J)<|aV 9 J<|av<|aw<|zo J (bB j3 J J) ?_;refine bC h fun r2 q_r2 h=>zo J (aC Y8 (Nh _ q_r2) ⟨(ht J),aT⟩)<|av<|cU h J (fun h=>?_) (fun h=>?_)
     ·refine aw<|zo J (jL)<|av<|am ?_;refine aD (ae (ae (aD (ae (aD (ae (ae (aD (ae ?_)))))))));cases so h;exact aJ J J
     ·refine bA<|aq<|ax<|au<|zo rfl (mz (cM hx1 hN1) rfl)<|aG rfl<|aP ?_;exact bm (aU (ih1 (i1+1) ⟨cL hx1,h⟩) (bu J))

end Go.Proofs.YtfhhakidodmdfaaGreatDoor

