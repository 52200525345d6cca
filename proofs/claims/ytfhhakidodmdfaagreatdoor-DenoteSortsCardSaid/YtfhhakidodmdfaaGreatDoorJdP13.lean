/- da of this claim: P13. -/
import Derived.Test.YtfhhakidodmdfaaGreatDoorJdT
import Derived.Test.YtfhhakidodmdfaaGreatDoorJdP12
set_option linter.all false
namespace Go.Proofs.YtfhhakidodmdfaaGreatDoor
open Go
set_option maxRecDepth 100000

theorem XN{R:am}(h:Ew=some R):aU aO 46 [] (tD aL R):=by
 refine aU.of Tryz.func46 J J J fun w0 S0=>au<|bc (r:=aL) (x:=IS) iQ (fun _=>pq _) J fun b=>aq<|au<|zo J (aV (r:=bY) (ys:=[(2:Int)]) (xs:=[.const (.int .i64 (2))]) g9 cv J J J J J ⟨hI,aR⟩)<|zo J (ci (y:=(⟨(1:Int),uH,uH,(0:Int),[(2:Int)],false,Br,[],[],[],[],(0:Int)⟩:am)) iQ Zc pq (⟨_,_,_,_,_,J,DY,J,hI,⟨_,_,_,_,_,J,DX,J,hI,⟨_,_,_,_,_,J,zn,J,hI,⟨_,_,_,_,_,J,zm,J,(ht J),J⟩⟩⟩⟩))<|ax iQ J an J (ht J) (ht J)<|aZ 0 J<|aq<|ak ?_;cases so h;exact iN J iQ J J J

theorem XM(k:Int){R:bL}(h:Gx k=some R):aU aO 47 [bH k] (tD cB R):=by
 refine aU.of Tryz.func47 J J J fun w0 S0=>au<|bc (r:=cB) (x:=Br) mJ (fun _=>tB _) J fun b=>aq<|au<|aF J<|zo J (ci (y:=(⟨(2:Int),uH,uH,k,hX⟩:bo)) qP abJ wM (⟨_,_,_,_,_,J,LJ,J,hI,⟨_,_,_,_,_,J,LI,J,hI,⟨_,_,_,_,_,J,LH,J,hI,⟨_,_,_,_,_,J,LF,J,(ht J),J⟩⟩⟩⟩))<|zo J (aV (r:=bP) (ys:=[(⟨(2:Int),uH,uH,k,hX⟩:bo)]) (xs:=[.tmp 4]) z8 qP J J J J J ⟨(ht J),aR⟩)<|zo J (ci (y:=(⟨[(⟨(2:Int),uH,uH,k,hX⟩:bo)]⟩:bL)) mJ Xx tB (⟨_,_,_,_,_,J,xG,J,(ht J),J⟩))<|ax mJ J an J (ht J) (ht J)<|aZ 2 J<|aq<|ak ?_;cases so h;exact iN J mJ J J J

theorem Kt(k:Int){R:(List ac)}(h:HV k=some R):fT aO 101 [bH k] false af 46 R:=by
 refine fT.of Tryz.func101 J J J fun w0 S0=>au<|bN false af 46<|zo J (aJ rY)<|aq<|au<|aF J<|zo J (ci (y:=(⟨(2:Int),k,(0:Int),[]⟩:ac)) aH pL bf (⟨_,_,_,_,_,J,nq,J,hI,⟨_,_,_,_,_,J,oL,J,(ht J),J⟩⟩))<|jZ (r:=af) (ys:=[(⟨(2:Int),k,(0:Int),[]⟩:ac)]) (xs:=[.tmp 4]) gc aH J J J J J ⟨(ht J),aR⟩ J fun l c=>bm J<|aq<|ak ?_;cases so h;exact fQ J J
theorem XL{R:iJ}(h:Cv=some R):aU aO 48 [] (tD py R):=by
 refine aU.of Tryz.func48 J J J fun w0 S0=>au<|bc (r:=py) (x:=(⟨[]⟩:iJ)) O6 (fun _=>Hc _) J fun b=>aq<|au<|bv h fun r q_r h=>iv Ww (Kt _ q_r) ⟨hI,aR⟩ J fun l c=>bv h fun r1 q_r1 h=>iv Ww (Kt _ q_r1) ⟨hI,aR⟩ J fun l1 c1=>zo J (ci (y:=hX) aH pL bf (J))<|zo J (aV (r:=af) (ys:=[hX]) (xs:=[.tmp 3]) gc aH J J J J J ⟨(ht J),aR⟩)<|bI<|j8<|jt 1 J<|bI<|j8<|jt 2 J<|zo J (aV (r:=cK) (ys:=[r,r1,[hX]]) (xs:=[.tmp 1,.tmp 2,.tmp 4]) gR cO J J J J J ⟨(k7 (ht J)),(k7 (ht J)),(ht J),aR⟩)<|zo J (aV (r:=d7) (ys:=[[r,r1,[hX]]]) (xs:=[.tmp 5]) p8 hJ J J J J J ⟨(ht J),aR⟩)<|zo J (ci (y:=(⟨[[r,r1,[hX]]]⟩:iJ)) O6 abK Hc (⟨_,_,_,_,_,J,Pa,J,(ht J),J⟩))<|gX ?_;refine ax O6 J an J (ht J) (ht J)<|aZ 0 J<|aq<|ak<|bk<|bk ?_;cases so h;exact iN J O6 J J J

theorem Yb{R:Bool}(h:tR=some R):aU aO 11 [] (gY R):=by
 refine aU.of Tryz.func11 J J J fun w0 S0=>au<|zo J (jE)<|aq<|au<|bv h fun r q_r h=>zo J (aA acc (XN q_r) trivial)<|zo J (ci (y:=Qk) wu Zd Hd (⟨_,_,_,_,_,J,Jj,J,hI,J⟩))<|bv h fun r1 q_r1 h=>zo J (aA acb (XM _ q_r1) ⟨hI,aR⟩)<|zo J (ci (y:=(⟨(3:Int),r1⟩:hY)) wu Zd Hd (⟨_,_,_,_,_,J,Jj,J,hI,⟨_,_,_,_,_,J,Ji,J,(ht J),J⟩⟩))<|zo J (aV (r:=gm) (ys:=[Qk,(⟨(3:Int),r1⟩:hY)]) (xs:=[.tmp 5,.tmp 7]) z6 wu J J J J J ⟨(ht J),(ht J),aR⟩)<|zo J (ci (y:=(⟨(4:Int),(0:Int),uH,(0:Int),[],false,Br,[],[Qk,(⟨(3:Int),r1⟩:hY)],[],[],(0:Int)⟩:am)) iQ Zc pq (⟨_,_,_,_,_,J,DY,J,hI,⟨_,_,_,_,_,J,zn,J,hI,⟨_,_,_,_,_,J,DV,J,(ht J),J⟩⟩⟩))<|zo J (aV (r:=aL) (ys:=[r,(⟨(4:Int),(0:Int),uH,(0:Int),[],false,Br,[],[Qk,(⟨(3:Int),r1⟩:hY)],[],[],(0:Int)⟩:am)]) (xs:=[.tmp 4,.tmp 9]) z7 iQ J J J J J ⟨(ht J),(ht J),aR⟩)<|zo J (ci (y:=(⟨[r,(⟨(4:Int),(0:Int),uH,(0:Int),[],false,Br,[],[Qk,(⟨(3:Int),r1⟩:hY)],[],[],(0:Int)⟩:am)]⟩:bU)) qQ Xy sw (⟨_,_,_,_,_,J,Lz,J,(ht J),J⟩))<|bc (r:=dO) (x:=IU) qQ (fun _=>sw _) J fun b=>ax qQ J an J (ht J) (ht J)<|aZ 1 J<|aq<|ah ?_;refine bv h fun r2 q_r2 h=>bv h fun r3 q_r3 h=>?_
 refine cJ (ts:=[_,_,_,_,_,_,_,_]) mixed J J
  ⟨ep 1 J J J (bB qQ J J),
  ⟨OX J J (aA aca (XL q_r2) trivial),
  ⟨dv 13 0 14 1 J J J J (aA acm (Ya _ _ q_r3) ⟨(ht J),(ht J),aR⟩),
  ⟨bT 15 2 J J J (cD J),
  ⟨bT 12 3 J J J (hZ J J),
  ⟨bT 12 3 J J J (hZ J J),
  ⟨bT 16 4 J J J (tA J),
  ⟨bT 17 5 J J J (tA J),
  aR⟩⟩⟩⟩⟩⟩⟩⟩ ?_
 refine av<|au<|aF rfl<|zo rfl (lU rfl)<|aF rfl<|cR rfl rfl (fun hg=>cD J)<|cR J J (fun hg=>dW gR (bD J hg))<|cR J J (fun hg=>dd (bD J hg) hI)<|zo J (rE J J)<|aF J<|bv h fun t q_t h=>cR J J (fun hg=>cD J) ?_
 obtain⟨e,h1t,h0t⟩:=og q_t
 have q_eg:=fun hb=>(h1t hb).1
 refine cR J J (fun hg=>bp gR cO J (bD J hg) hI (q_eg hg))<|cR J J (fun hg=>bM cO J J (bD J hg))<|cR J J (fun hg=>dW gc (bD J hg))<|cR J J (fun hg=>dd (bD J hg) hI)<|zo J (dP (ht J) (fun hb=>(bD J hb)) (fun hb=>(h1t hb).2) h0t)<|aF J<|bv h fun t1 q_t1 h=>cR J J (fun hg=>cD J) ?_
 obtain⟨e1,h1t1,h0t1⟩:=og q_t1
 have q_e1g:=fun hb=>(h1t1 hb).1
 refine cR J J (fun hg=>bp gR cO J (bD J hg) hI (q_e1g hg))<|cR J J (fun hg=>bM cO J J (bD J hg)) ?_
 obtain⟨e2,h1t1⟩:=Tv (fun hb=>(h1t1 hb).2)
 have q_e2g:=fun hb=>(h1t1 hb).1
 refine cR J J (fun hg=>bp gc aH J (bD J hg) hI (q_e2g hg))<|cR J J (fun hg=>rQ iZ J dm J (bD J hg))<|cR J J (fun hg=>bM Bl J J (bD J hg))<|cR J J (fun hg=>dd (bD J hg) hI)<|zo J (dP (ht J) (fun hb=>(bD J hb)) (fun hb=>(h1t1 hb).2) h0t1)<|aF J<|bv h fun t2 q_t2 h=>cR J J (fun hg=>cD J) ?_
 obtain⟨e3,h1t2,h0t2⟩:=og q_t2
 have q_e3g:=fun hb=>(h1t2 hb).1
 refine cR J J (fun hg=>bp gR cO J (bD J hg) hI (q_e3g hg))<|cR J J (fun hg=>bM cO J J (bD J hg)) ?_
 obtain⟨e4,h1t2⟩:=Tv (fun hb=>(h1t2 hb).2)
 have q_e4g:=fun hb=>(h1t2 hb).1
 refine cR J J (fun hg=>bp gc aH J (bD J hg) hI (q_e4g hg))<|cR J J (fun hg=>rQ iZ J dm J (bD J hg))<|cR J J (fun hg=>bM Bl J J (bD J hg))<|cR J J (fun hg=>dd (bD J hg) hI)<|zo J (dP (ht J) (fun hb=>(bD J hb)) (fun hb=>(h1t2 hb).2) h0t2)<|bm J<|aq<|ak ?_;cases so h;exact aG J J

theorem XW(l:(List (List ac)))(most:Int){R:Bool}(h:pJ l most=some R):aU aO 24 [bR (cK) l,bH most] (gY R):=by
 refine aU.of Tryz.func24 J J J fun w0 S0=>au<|zo J (jE)<|aq<|ah<|au<|aF J<|zo J (iw gR J)<|aF J<|zo J (jm (ht J) (ht J))<|aq<|cU h J (fun h=>?_) (fun h=>?_)
 ·refine au<|zo J (jE)<|aq<|ak<|ae ?_;cases so h;exact aG J J
 ·refine dR<|ah<|au<|aF J<|zo J (iw gR J)<|zo J (bJ hI)<|aq<|ay<|ba (k:=13) J fun hN=>bG ?_;refine aT (eH (Z:=fun ls i=>(l.drop i=ls)∧iq ls=some R) (Of:=fun _ i=>[]) (Gf:=fun _ i=>[(13,bR (cK) l),(14,kg l),(15,bH (i:Int))]) (fun i h=>?_) (fun e tl ih i h=>?_) l 0 ⟨J,h⟩) (bt J)
  ·obtain⟨hx,h⟩:=h
   refine aC<|au<|zo J (fG J J)<|aq<|ah<|bA (ht J) (dC hx)<|bu ?_;refine ai (ai (aN ?_));refine av<|au<|zo rfl (jE)<|aq<|ak ?_;cases so h;exact aG J J
  ·obtain⟨hx,h⟩:=h
   refine aC<|au<|zo J (fG J J)<|aq<|ah<|bz (ht J) (du hx)<|dR<|ah<|ay<|au<|zo J (lq gR cO J J J (cW hx))<|zo J (bB cO J J)<|bm J<|aq<|ah<|au<|aF J<|zo J (iw gc J) ?_;refine zo J (jm (ht J) hI)<|aq<|cU h J (fun h=>?_) (fun h=>?_)
   ·refine au<|zo J (jE)<|aq<|ak ?_;refine ae (aD (ae (ae (aD (ae ?_)))));cases so h;exact aG J J
   ·refine dR<|au<|aF J<|zo J (iw gc J)<|zo J (bJ hI)<|aq<|ay<|ba (k:=22) J fun hN1=>bG ?_;refine aT (eH (Z:=fun ls1 i1=>(e.drop i1=ls1)∧kX (iq tl) ls1=some R) (Of:=fun _ i1=>[]) (Gf:=fun _ i1=>[(13,bR (cK) l),(14,kg l),(15,bH (i:Int)),(22,bR (af) e),(23,kg e),(24,bH (i1:Int))]) (fun i1 h=>?_) (fun e1 tl1 ih1 i1 h=>?_) e 0 ⟨J,h⟩) (bt J)
    ·obtain⟨hx1,h⟩:=h
     refine aC<|au<|zo J (fG J J)<|aq<|ah<|bA (ht J) (dC hx1)<|bu ?_;refine ai (ai (aN ?_));refine ap<|av<|aw<|zo rfl (mI (cQ hx hN) rfl)<|aF rfl<|aQ ?_;exact bg (aT (ih (i+1) ⟨cP hx,h⟩) (bt J))
    ·obtain⟨hx1,h⟩:=h
     refine aC<|au<|zo J (fG J J)<|aq<|ah<|bz (ht J) (du hx1)<|dR<|ah<|ay<|au<|zo J (lq gc aH J J J (cW hx1))<|zo J (bB aH J J)<|bc (r:=af) (x:=hX) aH (fun _=>bf _) J fun b=>ax aH J an J (ht J) (ht J)<|aZ 8 J<|aq<|au<|zo J (cY oX gN J J) ?_;refine zo J (bB Le J J)<|zo J (HQ Ci (ht J))<|zo J (jm (ht J) hI)<|aq<|cU h J (fun h=>?_) (fun h=>?_)
     ·refine au<|zo J (jE)<|aq<|ak ?_;refine aD (ae (ae (aD (aD (ae (ae (aD (ae ?_))))))));cases so h;exact aG J J
     ·refine bw<|ap<|av<|aw<|zo rfl (mI (cQ hx1 hN1) rfl)<|aF rfl<|aQ ?_;exact bg (aT (ih1 (i1+1) ⟨cP hx1,h⟩) (bt J))

theorem XE(v:ac){R:Bool}(h:dh v=some R):aU aO 87 [tD af v] (gY R):=by
 refine aU.of Tryz.func87 J J J fun w0 S0=>au<|zo J (jw J)<|zo J (jE)<|aq<|ah<|au<|zo J (cY fR cg J J)<|zo J (bB cv J J)<|aq<|ay<|au<|zo J (lU J)<|bm J<|aq<|cU h J (fun h=>?_) (fun h=>?_)
 ·refine au<|zo J (bB aH J J)<|zo J (ci (y:=hX) aH pL bf (J))<|zo J (AC MF (ht J) (ht J))<|bm J<|aq<|ak ?_;refine aD (ae ?_);cases so h;exact aG J J
 ·refine au<|zo J (lU J)<|bm J<|aq<|cU h J (fun h=>?_) (fun h=>?_)
  ·refine au<|zo J (cY qr iY J J)<|zo J (bB Al J J)<|zo J (lU J)<|aF J<|cR J J (fun hg=>cY oX gN J J)<|cR J J (fun hg=>bM Le J J (bD J hg))<|cR J J (fun hg=>HR (bD J hg) hS)<|zo J (rE J J)<|aF J<|cR J J (fun hg=>cY iZ dm J J)<|cR J J (fun hg=>bM Bl J J (bD J hg))<|cR J J (fun hg=>dd (bD J hg) hI)<|cR J J (fun hg=>bJ (bD J hg))<|pS J J J J (fun hg=>cY iZ dm J J)<|pS J J J J (fun hg=>bM Bl J J (bD J hg))<|pS J J J J (fun hg=>dd (bD J hg) hI)<|cR J J (fun hg=>uW (bD J hg) (fun hb=>(bD J (B3 hg (yA hb)))))<|zo J (rE J J)<|bm J<|aq<|ak ?_;refine aD (ae ?_);cases so h;exact aG J J
  ·refine au<|zo J (lU J)<|bm J<|aq<|cU h J (fun h=>?_) (fun h=>?_)
   ·refine au<|zo J (cY qr iY J J)<|zo J (bB Al J J)<|zo J (lU J)<|aF J<|cR J J (fun hg=>cY oX gN J J)<|cR J J (fun hg=>bM Le J J (bD J hg))<|cR J J (fun hg=>HR (bD J hg) hS)<|zo J (rE J J)<|bm J<|aq<|ak ?_;refine aD (ae ?_);cases so h;exact aG J J
   ·refine au<|zo J (lU J)<|bm J<|aq<|cU h J (fun h=>?_) (fun h=>?_)
    ·refine au<|zo J (cY iZ dm J J)<|zo J (bB Bl J J)<|zo J (lU J)<|aF J<|cR J J (fun hg=>cY qr iY J J)<|cR J J (fun hg=>bM Al J J (bD J hg))<|cR J J (fun hg=>dd (bD J hg) hI)<|zo J (rE J J)<|aF J<|cR J J (fun hg=>cY oX gN J J)<|cR J J (fun hg=>bM Le J J (bD J hg))<|cR J J (fun hg=>HQ Ci (bD J hg))<|cR J J (fun hg=>lL (bD J hg) hI)<|zo J (rE J J)<|bm J<|aq<|ak ?_;refine aD (ae ?_);cases so h;exact aG J J
    ·refine bw<|ap<|av<|au<|zo rfl (cY fR cg rfl rfl)<|zo rfl (bB cv rfl rfl)<|zo rfl (lU rfl)<|aF rfl<|cR rfl rfl (fun hg=>cY oX gN J J)<|cR J J (fun hg=>bM Le J J (bD J hg))<|cR J J (fun hg=>HR (bD J hg) hS)<|zo J (rE J J)<|bm J<|aq<|ak ?_;cases so h;exact aG J J

end Go.Proofs.YtfhhakidodmdfaaGreatDoor

