/- di of this claim: P13. -/
import Derived.Test.YtfhhakidodmdfaaGreatDoorJcT
import Derived.Test.YtfhhakidodmdfaaGreatDoorJcP12
set_option linter.all false
namespace Go.Proofs.YtfhhakidodmdfaaGreatDoor
open Go
set_option maxRecDepth 100000

theorem YT{R:ay}(h:E4=some R):aR aU 46 [] (tD aW R):=by
 refine aR.of Tryz.func46 J J J fun w0 S0=>av<|aP (r:=aW) (x:=Jz) jj (fun _=>p9 _) J fun b=>aq<|av<|zo J (bf (r:=cj) (ys:=[(2:Int)]) (xs:=[.const (.int .i64 (2))]) iv cg J J J J J ⟨hI,aL⟩)<|zo J (bB (y:=(⟨(1:Int),wd,wd,(0:Int),[(2:Int)],false,B2,[],[],[],[],(0:Int)⟩:ay)) jj aaf p9 (⟨_,_,_,_,_,J,Ey,J,hI,⟨_,_,_,_,_,J,Ex,J,hI,⟨_,_,_,_,_,J,Ag,J,hI,⟨_,_,_,_,_,J,Af,J,(ht J),J⟩⟩⟩⟩))<|am jj J ai J (ht J) (ht J)<|aY 0 J<|aq<|aj ?_;cases so h;exact eP J jj J J J

theorem YS(k:Int){R:bS}(h:G5 k=some R):aR aU 47 [bM k] (tD ck R):=by
 refine aR.of Tryz.func47 J J J fun w0 S0=>av<|aP (r:=ck) (x:=B2) k5 (fun _=>uv _) J fun b=>aq<|av<|aE J<|zo J (bB (y:=(⟨(2:Int),wd,wd,k,d3⟩:bC)) lI acT qa (⟨_,_,_,_,_,J,Mz,J,hI,⟨_,_,_,_,_,J,My,J,hI,⟨_,_,_,_,_,J,Mx,J,hI,⟨_,_,_,_,_,J,Mw,J,(ht J),J⟩⟩⟩⟩))<|zo J (bf (r:=bO) (ys:=[(⟨(2:Int),wd,wd,k,d3⟩:bC)]) (xs:=[.tmp 4]) p6 lI J J J J J ⟨(ht J),aL⟩)<|zo J (bB (y:=(⟨[(⟨(2:Int),wd,wd,k,d3⟩:bC)]⟩:bS)) k5 YA uv (⟨_,_,_,_,_,J,yD,J,(ht J),J⟩))<|am k5 J ai J (ht J) (ht J)<|aY 2 J<|aq<|aj ?_;cases so h;exact eP J k5 J J J

theorem Li(k:Int){R:(List ac)}(h:IB k=some R):gA aU 101 [bM k] false af 46 R:=by
 refine gA.of Tryz.func101 J J J fun w0 S0=>av<|ca false af 46<|zo J (aT tg)<|aq<|av<|aE J<|zo J (bB (y:=(⟨(2:Int),k,(0:Int),[]⟩:ac)) au gW aJ (⟨_,_,_,_,_,J,jV,J,hI,⟨_,_,_,_,_,J,lL,J,(ht J),J⟩⟩))<|kG (r:=af) (ys:=[(⟨(2:Int),k,(0:Int),[]⟩:ac)]) (xs:=[.tmp 4]) iw au J J J J J ⟨(ht J),aL⟩ J fun l c=>bg J<|aq<|aj ?_;cases so h;exact gK J J
theorem YR{R:kH}(h:C6=some R):aR aU 48 [] (tD qh R):=by
 refine aR.of Tryz.func48 J J J fun w0 S0=>av<|aP (r:=qh) (x:=(⟨[]⟩:kH)) PQ (fun _=>HN _) J fun b=>aq<|av<|bo h fun r q_r h=>jh XH (Li _ q_r) ⟨hI,aL⟩ J fun l c=>bo h fun r1 q_r1 h=>jh XH (Li _ q_r1) ⟨hI,aL⟩ J fun l1 c1=>zo J (bB (y:=d3) au gW aJ (J))<|zo J (bf (r:=af) (ys:=[d3]) (xs:=[.tmp 3]) iw au J J J J J ⟨(ht J),aL⟩)<|bq<|kO<|jM 1 J<|bq<|kO<|jM 2 J<|zo J (bf (r:=dg) (ys:=[r,r1,[d3]]) (xs:=[.tmp 1,.tmp 2,.tmp 4]) jN eg J J J J J ⟨(lJ (ht J)),(lJ (ht J)),(ht J),aL⟩)<|zo J (bf (r:=ee) (ys:=[[r,r1,[d3]]]) (xs:=[.tmp 5]) qP iy J J J J J ⟨(ht J),aL⟩)<|zo J (bB (y:=(⟨[[r,r1,[d3]]]⟩:kH)) PQ acU HN (⟨_,_,_,_,_,J,PU,J,(ht J),J⟩))<|gj ?_;refine am PQ J ai J (ht J) (ht J)<|aY 0 J<|aq<|aj<|aZ<|aZ ?_;cases so h;exact eP J PQ J J J

theorem Zf{R:Bool}(h:uH=some R):aR aU 11 [] (hJ R):=by
 refine aR.of Tryz.func11 J J J fun w0 S0=>av<|zo J (jU)<|aq<|av<|bo h fun r q_r h=>zo J (ap adr (YT q_r) trivial)<|zo J (bB (y:=Q0) uZ aag HO (⟨_,_,_,_,_,J,J0,J,hI,J⟩))<|bo h fun r1 q_r1 h=>zo J (ap adq (YS _ q_r1) ⟨hI,aL⟩)<|zo J (bB (y:=(⟨(3:Int),r1⟩:gv)) uZ aag HO (⟨_,_,_,_,_,J,J0,J,hI,⟨_,_,_,_,_,J,JZ,J,(ht J),J⟩⟩))<|zo J (bf (r:=eH) (ys:=[Q0,(⟨(3:Int),r1⟩:gv)]) (xs:=[.tmp 5,.tmp 7]) AI uZ J J J J J ⟨(ht J),(ht J),aL⟩)<|zo J (bB (y:=(⟨(4:Int),(0:Int),wd,(0:Int),[],false,B2,[],[Q0,(⟨(3:Int),r1⟩:gv)],[],[],(0:Int)⟩:ay)) jj aaf p9 (⟨_,_,_,_,_,J,Ey,J,hI,⟨_,_,_,_,_,J,Ag,J,hI,⟨_,_,_,_,_,J,Ev,J,(ht J),J⟩⟩⟩))<|zo J (bf (r:=aW) (ys:=[r,(⟨(4:Int),(0:Int),wd,(0:Int),[],false,B2,[],[Q0,(⟨(3:Int),r1⟩:gv)],[],[],(0:Int)⟩:ay)]) (xs:=[.tmp 4,.tmp 9]) AJ jj J J J J J ⟨(ht J),(ht J),aL⟩)<|zo J (bB (y:=(⟨[r,(⟨(4:Int),(0:Int),wd,(0:Int),[],false,B2,[],[Q0,(⟨(3:Int),r1⟩:gv)],[],[],(0:Int)⟩:ay)]⟩:cm)) rP YB tz (⟨_,_,_,_,_,J,Mq,J,(ht J),J⟩))<|aP (r:=dW) (x:=JA) rP (fun _=>tz _) J fun b=>am rP J ai J (ht J) (ht J)<|aY 1 J<|aq<|ah ?_;refine bo h fun r2 q_r2 h=>bo h fun r3 q_r3 h=>?_
 refine cD (ts:=[_,_,_,_,_,_,_,_]) mixed J J
  ⟨dB 1 J J J (bh rP J J),
  ⟨NX J J (ap adp (YR q_r2) trivial),
  ⟨cK 13 0 14 1 J J J J (ap adA (Ze _ _ q_r3) ⟨(ht J),(ht J),aL⟩),
  ⟨bT 15 2 J J J (cX J),
  ⟨bT 12 3 J J J (dX J J),
  ⟨bT 12 3 J J J (dX J J),
  ⟨bT 16 4 J J J (rN J),
  ⟨bT 17 5 J J J (rN J),
  aL⟩⟩⟩⟩⟩⟩⟩⟩ ?_
 refine ax<|av<|aE rfl<|zo rfl (hM rfl)<|aE rfl<|co rfl rfl (fun hg=>cX J)<|co J J (fun hg=>dK jN (bm J hg))<|co J J (fun hg=>cd (bm J hg) hI)<|zo J (pH J J)<|aE J<|bo h fun t q_t h=>co J J (fun hg=>cX J) ?_
 obtain⟨e,h1t,h0t⟩:=og q_t
 have q_eg:=fun hb=>(h1t hb).1
 refine co J J (fun hg=>bF jN eg J (bm J hg) hI (q_eg hg))<|co J J (fun hg=>bj eg J J (bm J hg))<|co J J (fun hg=>dK iw (bm J hg))<|co J J (fun hg=>cd (bm J hg) hI)<|zo J (cH (ht J) (fun hb=>(bm J hb)) (fun hb=>(h1t hb).2) h0t)<|aE J<|bo h fun t1 q_t1 h=>co J J (fun hg=>cX J) ?_
 obtain⟨e1,h1t1,h0t1⟩:=og q_t1
 have q_e1g:=fun hb=>(h1t1 hb).1
 refine co J J (fun hg=>bF jN eg J (bm J hg) hI (q_e1g hg))<|co J J (fun hg=>bj eg J J (bm J hg)) ?_
 obtain⟨e2,h1t1⟩:=WR (fun hb=>(h1t1 hb).2)
 have q_e2g:=fun hb=>(h1t1 hb).1
 refine co J J (fun hg=>bF iw au J (bm J hg) hI (q_e2g hg))<|co J J (fun hg=>oD eE J bY J (bm J hg))<|co J J (fun hg=>bj uq J J (bm J hg))<|co J J (fun hg=>cd (bm J hg) hI)<|zo J (cH (ht J) (fun hb=>(bm J hb)) (fun hb=>(h1t1 hb).2) h0t1)<|aE J<|bo h fun t2 q_t2 h=>co J J (fun hg=>cX J) ?_
 obtain⟨e3,h1t2,h0t2⟩:=og q_t2
 have q_e3g:=fun hb=>(h1t2 hb).1
 refine co J J (fun hg=>bF jN eg J (bm J hg) hI (q_e3g hg))<|co J J (fun hg=>bj eg J J (bm J hg)) ?_
 obtain⟨e4,h1t2⟩:=WR (fun hb=>(h1t2 hb).2)
 have q_e4g:=fun hb=>(h1t2 hb).1
 refine co J J (fun hg=>bF iw au J (bm J hg) hI (q_e4g hg))<|co J J (fun hg=>oD eE J bY J (bm J hg))<|co J J (fun hg=>bj uq J J (bm J hg))<|co J J (fun hg=>cd (bm J hg) hI)<|zo J (cH (ht J) (fun hb=>(bm J hb)) (fun hb=>(h1t2 hb).2) h0t2)<|bg J<|aq<|aj ?_;cases so h;exact aH J J

theorem Y0(l:(List (List ac)))(most:Int){R:Bool}(h:qt l most=some R):aR aU 24 [cq (dg) l,bM most] (hJ R):=by
 refine aR.of Tryz.func24 J J J fun w0 S0=>av<|zo J (jU)<|aq<|ah<|av<|aE J<|zo J (jw jN J)<|aE J<|zo J (iz (ht J) (ht J))<|aq<|ce h J (fun h=>?_) (fun h=>?_)
 ·refine av<|zo J (jU)<|aq<|aj<|ae ?_;cases so h;exact aH J J
 ·refine df<|ah<|av<|aE J<|zo J (jw jN J)<|zo J (bJ hI)<|aq<|aC<|bp (k:=13) J fun hN=>bQ ?_;refine ba (fK (Z:=fun ls i=>(l.drop i=ls)∧iN ls=some R) (Of:=fun _ i=>[]) (Gf:=fun _ i=>[(13,cq (dg) l),(14,ky l),(15,bM (i:Int))]) (fun i h=>?_) (fun e tl ih i h=>?_) l 0 ⟨J,h⟩) (bD J)
  ·obtain⟨hx,h⟩:=h
   refine aG<|av<|zo J (fY J J)<|aq<|ah<|bL (ht J) (dO hx)<|bG ?_;refine ak (ak (aV ?_));refine ax<|av<|zo rfl (jU)<|aq<|aj ?_;cases so h;exact aH J J
  ·obtain⟨hx,h⟩:=h
   refine aG<|av<|zo J (fY J J)<|aq<|ah<|bK (ht J) (dL hx)<|df<|ah<|aC<|av<|zo J (ne jN eg J J J (dA hx))<|zo J (bh eg J J)<|bg J<|aq<|ah<|av<|aE J<|zo J (jw iw J) ?_;refine zo J (iz (ht J) hI)<|aq<|ce h J (fun h=>?_) (fun h=>?_)
   ·refine av<|zo J (jU)<|aq<|aj ?_;refine ae (aB (ae (ae (aB (ae ?_)))));cases so h;exact aH J J
   ·refine df<|av<|aE J<|zo J (jw iw J)<|zo J (bJ hI)<|aq<|aC<|bp (k:=22) J fun hN1=>bQ ?_;refine ba (fK (Z:=fun ls1 i1=>(e.drop i1=ls1)∧lA (iN tl) ls1=some R) (Of:=fun _ i1=>[]) (Gf:=fun _ i1=>[(13,cq (dg) l),(14,ky l),(15,bM (i:Int)),(22,cq (af) e),(23,ky e),(24,bM (i1:Int))]) (fun i1 h=>?_) (fun e1 tl1 ih1 i1 h=>?_) e 0 ⟨J,h⟩) (bD J)
    ·obtain⟨hx1,h⟩:=h
     refine aG<|av<|zo J (fY J J)<|aq<|ah<|bL (ht J) (dO hx1)<|bG ?_;refine ak (ak (aV ?_));refine aw<|ax<|aA<|zo rfl (nf (dd hx hN) rfl)<|aE rfl<|aQ ?_;exact bn (ba (ih (i+1) ⟨dc hx,h⟩) (bD J))
    ·obtain⟨hx1,h⟩:=h
     refine aG<|av<|zo J (fY J J)<|aq<|ah<|bK (ht J) (dL hx1)<|df<|ah<|aC<|av<|zo J (ne iw au J J J (dA hx1))<|zo J (bh au J J)<|aP (r:=af) (x:=d3) au (fun _=>aJ _) J fun b=>am au J ai J (ht J) (ht J)<|aY 8 J<|aq<|av<|zo J (bX jG dy J J) ?_;refine zo J (bh B6 J J)<|zo J (rE v7 (ht J))<|zo J (iz (ht J) hI)<|aq<|ce h J (fun h=>?_) (fun h=>?_)
     ·refine av<|zo J (jU)<|aq<|aj ?_;refine aB (ae (ae (aB (aB (ae (ae (aB (ae ?_))))))));cases so h;exact aH J J
     ·refine bA<|aw<|ax<|aA<|zo rfl (nf (dd hx1 hN1) rfl)<|aE rfl<|aQ ?_;exact bn (ba (ih1 (i1+1) ⟨dc hx1,h⟩) (bD J))

theorem YZ(e:bS){R:Bool}(h:qu e=some R):aR aU 25 [tD ck e] (hJ R):=by
 refine aR.of Tryz.func25 J J J fun w0 S0=>av<|zo J (gi J)<|zo J (jU)<|aq<|ah<|av<|zo J (bX ku fQ J J)<|zo J (bh sQ J J)<|zo J (jw p6 J)<|zo J (iz (ht J) hI)<|aq<|ce h J (fun h=>?_) (fun h=>?_)
 ·refine av<|zo J (jU)<|aq<|aj<|ae ?_;cases so h;exact aH J J
 ·refine df<|ah<|av<|zo J (bX ku fQ J J)<|zo J (bh sQ J J)<|zo J (jw p6 J)<|zo J (bJ hI)<|aq<|aC<|bp (k:=10) J fun hN=>bQ ?_;refine ba (fK (Z:=fun ls i=>(e.Nodes.drop i=ls)∧lB ls=some R) (Of:=fun _ i=>[]) (Gf:=fun _ i=>[(10,cq (bO) e.Nodes),(11,ky e.Nodes),(12,bM (i:Int))]) (fun i h=>?_) (fun e1 tl ih i h=>?_) e.Nodes 0 ⟨J,h⟩) (bD J)
  ·obtain⟨hx,h⟩:=h
   refine aG<|av<|zo J (fY J J)<|aq<|ah<|bL (ht J) (dO hx)<|bG ?_;refine ak (ak (aV ?_));refine ax<|av<|zo rfl (jU)<|aq<|aj ?_;cases so h;exact aH J J
  ·obtain⟨hx,h⟩:=h
   refine aG<|av<|zo J (fY J J)<|aq<|ah<|bK (ht J) (dL hx)<|df<|ah<|aC<|av<|zo J (ne p6 lI J J J (dA hx))<|zo J (bh lI J J)<|aP (r:=bO) (x:=JC) lI (fun _=>qa _) J fun b=>am lI J ai J (ht J) (ht J)<|aY 4 J<|aq<|av<|zo J (bX vb lP J J) ?_;refine zo J (bX jG dy J J)<|zo J (bh B6 J J)<|zo J (rE v7 (ht J))<|zo J (iz (ht J) hI)<|aq<|ce h J (fun h=>?_) (fun h=>?_)
   ·refine av<|zo J (jU)<|aq<|aj ?_;refine aB (ae (ae (aB (ae ?_))));cases so h;exact aH J J
   ·refine bA<|aw<|ax<|aA<|zo rfl (nf (dd hx hN) rfl)<|aE rfl<|aQ ?_;exact bn (ba (ih (i+1) ⟨dc hx,h⟩) (bD J))

theorem rm(v:ac){R:Bool}(h:dw v=some R):aR aU 87 [tD af v] (hJ R):=by
 refine aR.of Tryz.func87 J J J fun w0 S0=>av<|zo J (gi J)<|zo J (jU)<|aq<|ah<|av<|zo J (bX cz br J J)<|zo J (bh cg J J)<|aq<|aC<|av<|zo J (hM J)<|bg J<|aq<|ce h J (fun h=>?_) (fun h=>?_)
 ·refine av<|zo J (bh au J J)<|zo J (bB (y:=d3) au gW aJ (J))<|zo J (pc Cr (ht J) (ht J))<|bg J<|aq<|aj ?_;refine aB (ae ?_);cases so h;exact aH J J
 ·refine av<|zo J (hM J)<|bg J<|aq<|ce h J (fun h=>?_) (fun h=>?_)
  ·refine av<|zo J (bX pD hY J J)<|zo J (bh fU J J)<|zo J (hM J)<|aE J<|co J J (fun hg=>bX jG dy J J)<|co J J (fun hg=>bj B6 J J (bm J hg))<|co J J (fun hg=>Is (bm J hg) hS)<|zo J (pH J J)<|aE J<|co J J (fun hg=>bX eE bY J J)<|co J J (fun hg=>bj uq J J (bm J hg))<|co J J (fun hg=>cd (bm J hg) hI)<|co J J (fun hg=>bJ (bm J hg))<|fg J J J J (fun hg=>bX eE bY J J)<|fg J J J J (fun hg=>bj uq J J (bm J hg))<|fg J J J J (fun hg=>cd (bm J hg) hI)<|co J J (fun hg=>pT (bm J hg) (fun hb=>(bm J (qD hg (qo hb)))))<|zo J (pH J J)<|bg J<|aq<|aj ?_;refine aB (ae ?_);cases so h;exact aH J J
  ·refine av<|zo J (hM J)<|bg J<|aq<|ce h J (fun h=>?_) (fun h=>?_)
   ·refine av<|zo J (bX pD hY J J)<|zo J (bh fU J J)<|zo J (hM J)<|aE J<|co J J (fun hg=>bX jG dy J J)<|co J J (fun hg=>bj B6 J J (bm J hg))<|co J J (fun hg=>Is (bm J hg) hS)<|zo J (pH J J)<|bg J<|aq<|aj ?_;refine aB (ae ?_);cases so h;exact aH J J
   ·refine av<|zo J (hM J)<|bg J<|aq<|ce h J (fun h=>?_) (fun h=>?_)
    ·refine av<|zo J (bX eE bY J J)<|zo J (bh uq J J)<|zo J (hM J)<|aE J<|co J J (fun hg=>bX pD hY J J)<|co J J (fun hg=>bj fU J J (bm J hg))<|co J J (fun hg=>cd (bm J hg) hI)<|zo J (pH J J)<|aE J<|co J J (fun hg=>bX jG dy J J)<|co J J (fun hg=>bj B6 J J (bm J hg))<|co J J (fun hg=>rE v7 (bm J hg))<|co J J (fun hg=>jZ (bm J hg) hI)<|zo J (pH J J)<|bg J<|aq<|aj ?_;refine aB (ae ?_);cases so h;exact aH J J
    ·refine bA<|aw<|ax<|av<|zo rfl (bX cz br rfl rfl)<|zo rfl (bh cg rfl rfl)<|zo rfl (hM rfl)<|aE rfl<|co rfl rfl (fun hg=>bX jG dy J J)<|co J J (fun hg=>bj B6 J J (bm J hg))<|co J J (fun hg=>Is (bm J hg) hS)<|zo J (pH J J)<|bg J<|aq<|aj ?_;cases so h;exact aH J J

end Go.Proofs.YtfhhakidodmdfaaGreatDoor

