/- da of this claim: P0. -/
import Derived.Test.YtfhhakidodmdfaaGreatDoorJdT
import Derived.Test.YtfhhakidodmdfaaGreatDoorJdF
set_option linter.all false
namespace Go.Proofs.YtfhhakidodmdfaaGreatDoor
open Go
abbrev WQ:=fun(mc:aE) (mx:am)=>(fX mc mx).map fun mr=>(mr,mc)
abbrev WP:=fun(mc:aE) (mx:am)=>(gL mc mx).map fun mr=>(mr,mc)
abbrev WU:=fun(mc:aE) (mx:am)=>(fY mc mx).map fun mr=>(mr,mc)
abbrev WR:=fun(mc:aE) (mx:am)=>(gy mc mx).map fun mr=>(mr,mc)
abbrev WV:=fun(mc:aE) (mx:am)=>(fD mc mx).map fun mr=>(mr,mc)
abbrev WW:=fun(mc:aE) (mx:am)=>(fc mc mx).map fun mr=>(mr,mc)
abbrev WT:=fun(mc:aE) (mx:am)=>(gw mc mx).map fun mr=>(mr,mc)
abbrev WS:=fun(mc:aE) (mx:am)=>(gx mc mx).map fun mr=>(mr,mc)
abbrev Lk:=dw (dw (dw (dw (dw (dw (dw (dw ([]:List (Int×(aE→am→Option (((List Int)×Bool)×aE)))) (1:Int) WQ) (2:Int) WP) (3:Int) WU) (4:Int) WR) (5:Int) WV) (6:Int) WW) (7:Int) WT) (8:Int) WS
abbrev WI:=fun(mc:cX) (mx:am)=>(kJ mc mx).map fun mr=>(mr,mc)
abbrev WH:=fun(mc:cX) (mx:am)=>(jB mc mx).map fun mr=>(mr,mc)
abbrev WM:=fun(mc:cX) (mx:am)=>(jy mc mx).map fun mr=>(mr,mc)
abbrev WJ:=fun(mc:cX) (mx:am)=>(i7 mc mx).map fun mr=>(mr,mc)
abbrev WN:=fun(mc:cX) (mx:am)=>(i6 mc mx).map fun mr=>(mr,mc)
abbrev WO:=fun(mc:cX) (mx:am)=>(iD mc mx).map fun mr=>(mr,mc)
abbrev WL:=fun(mc:cX) (mx:am)=>(j6 mc mx).map fun mr=>(mr,mc)
abbrev WK:=fun(mc:cX) (mx:am)=>(j7 mc mx).map fun mr=>(mr,mc)
abbrev Qm:=dw (dw (dw (dw (dw (dw (dw (dw ([]:List (Int×(cX→am→Option (((List (List ac))×Int)×cX)))) (1:Int) WI) (2:Int) WH) (3:Int) WM) (4:Int) WJ) (5:Int) WN) (6:Int) WO) (7:Int) WL) (8:Int) WK
abbrev hX:=(⟨(0:Int),(0:Int),(0:Int),[]⟩:ac)
abbrev cK:=hM af
abbrev pX:=fun(x:ac×ac)=>[tD af x.1,tD af x.2]
abbrev sx:=fun(x:ac×Int)=>tT [tD af x.1,bH x.2]
abbrev o3:=fun(x:am)=>[tD aL x]
abbrev bY:=rI .i64
abbrev Br:=(⟨[]⟩:bL)
abbrev IS:=(⟨(0:Int),(0:Int),(0:Int),(0:Int),[],false,Br,[],[],[],[],(0:Int)⟩:am)
abbrev Fs:=fun(x:(List ac)×(List ac))=>[bR (af) x.1,bR (af) x.2]
abbrev oh:=fun(x:(List Int)×Bool)=>tT [mf x.1,gY x.2]
abbrev kN:=fun(x:Bool)=>gY x
abbrev pY:=fun(x:(List (List ac))×Int)=>tT [bR (cK) x.1,bH x.2]
abbrev CR:=fun(x:ac×Int)=>tT [tD af x.1,tD bY x.2]
abbrev d7:=hM cK
abbrev Ai:=fun(x:ac)=>[tD af x]
abbrev yu:=fun(x:Int)=>bH x
abbrev IW:=fun(x:(List ac))=>[bR (af) x]
abbrev CQ:=fun(x:Bool)=>tD rB x
abbrev uj:=bR (cK) ([])
abbrev nh:=kvI .i64
abbrev uI:=([]:List Int)
abbrev S4:=fun(x:bo×(List ac))=>[tD bP x.1,bR (af) x.2]
abbrev S3:=fun(x:(List ac)×(List ac))=>[tD cK x.1,tD cK x.2]
abbrev Ft:=([]:List (List ac))
abbrev Ql:=(⟨(1:Int),(0:Int),(0:Int),[]⟩:ac)
abbrev SZ:=fun(x:bo×(List ac))=>[tD bP x.1,tD cK x.2]
abbrev SY:=(⟨(0:Int),(0:Int),(0:Int),(0:Int),hX⟩:bo)
abbrev SX:=fun(x:bo×(List Int))=>[tD bP x.1,mf x.2]
abbrev IV:=fun(x:Int)=>[bH x]
abbrev OW:=fun(x:dn)=>[tD d3 x]
abbrev wN:=hM bY
abbrev WG:=fun(x:bo×(List Int))=>[tD bP x.1,tD wN x.2]
abbrev uH:=(-1:Int)
abbrev SW:=fun(x:Int×Int)=>tT [bH x.1,bH x.2]
abbrev Hf:=([]:List ac)
abbrev wO:=mf ([])
abbrev IU:=(⟨[]⟩:bU)
abbrev Qk:=(⟨(1:Int),Br⟩:hY)
abbrev SV:=fun(x:(List ac))=>[tD cK x]
abbrev WF:=fun(x:Int×Int)=>tT [tD bY x.1,tD bY x.2]
abbrev Qj:=fun(x:Int)=>tD bY x
abbrev OV:=([]:List (List Int))
abbrev IT:=hM d3
abbrev SU:=(⟨[],[]⟩:hU)
abbrev He:=rI .u64
set_option maxRecDepth 100000

theorem Un(s:(List Int))(f:(Int→Option Bool)){R:Int}(h:la s f=some R):aU aO 321 [mf s,(dK aO IV kN (fun(x:Int)=>f x))] (bH R):=by
 refine aU.of Tryz.func321 J J J fun w0 S0=>au<|zo J (cq)<|aq<|ah<|au<|aF J<|zo J (iw g9 J)<|zo J (bJ hI)<|aq<|ay<|ba (k:=6) J fun hN=>bG ?_;refine aT (eH (Z:=fun ls i=>(s.drop i=ls)∧fH f ls i=some R) (Of:=fun _ i=>[]) (Gf:=fun _ i=>[(0,mf s),(1,(dK aO IV kN (fun(x:Int)=>f x))),(7,kg s),(8,bH (i:Int))]) (fun i h=>?_) (fun e tl ih i h=>?_) s 0 ⟨J,h⟩) (bt J)
 ·obtain⟨hx,h⟩:=h
  refine aC<|au<|zo J (fG J J)<|aq<|ah<|bA (ht J) (dC hx)<|bu ?_;refine ai (ai (aN ?_));refine av<|au<|zo rfl (cq)<|aq<|ak ?_;cases so h;exact aG J J
 ·obtain⟨hx,h⟩:=h
  refine aC<|au<|zo J (fG J J)<|aq<|ah<|bz (ht J) (du hx)<|dR<|ah<|ay<|au<|aF J<|bm J<|aq<|au<|aF J<|aF J<|aF J<|zo J (lq g9 cv J J J (cW hx)) ?_;refine zo J (bB cv J J)<|bv h fun r q_r h=>zo J (fN (args:=(fun(x:Int)=>[tD bY x])) (res:=CQ) (f:=(fun(x:Int)=>f x)) (x:=((e):Int)) (ht J) q_r ⟨(ht J),aR⟩)<|aq<|cU h J (fun h=>?_) (fun h=>?_)
  ·refine au<|aF J<|bm J<|aq<|ak ?_;refine aD (ae (ae (aD (ae ?_))));cases so h;exact aG J J
  ·refine bw<|ap<|av<|aw<|zo rfl (mI (cQ hx hN) rfl)<|aF rfl<|aQ ?_;exact bg (aT (ih (i+1) ⟨cP hx,h⟩) (bt J))

theorem Dg(s:(List Int))(f:(Int→Option Bool)){R:Bool}(h:cA s f=some R):aU aO 258 [mf s,(dK aO IV kN (fun(x:Int)=>f x))] (gY R):=by
 refine aU.of Tryz.func258 J J J fun w0 S0=>au<|zo J (jE)<|aq<|au<|aF J<|aF J<|bv h fun r q_r h=>zo J (aA Z5 (Un _ _ q_r) ⟨(ht J),(ht J),aR⟩)<|zo J (hT (ht J) hI)<|bm J<|aq<|ak ?_;cases so h;exact aG J J

theorem Uu(k:Int){R:Bool}(h:Cu k=some R):aU aO 280 [bH k] (gY R):=by
 refine aU.of Tryz.func280 J J J fun w0 S0=>au<|zo J (jE)<|aq<|au<|aF J<|zo J (lU J)<|aF J<|gI J J (fun hg=>cD J)<|gI J J (fun hg=>dd (bD J hg) hI)<|zo J (yr J J)<|aF J<|gI J J (fun hg=>cD J)<|gI J J (fun hg=>dd (bD J hg) hI)<|zo J (yr J J)<|bm J<|aq<|ak ?_;cases so h;exact aG J J

theorem Uv(k:Int){R:Bool}(h:jo k=some R):aU aO 279 [bH k] (gY R):=by
 refine aU.of Tryz.func279 J J J fun w0 S0=>au<|zo J (jE)<|aq<|au<|aF J<|bv h fun r q_r h=>zo J (aA aad (Uu _ q_r) ⟨(ht J),aR⟩)<|zo J (ei (ht J))<|bm J<|aq<|ak ?_;cases so h;exact aG J J

theorem X6(b:Nat)(ix:OI)(c:aE)(n:am){R:(List Int)×Bool}(h:fX c n=some R):c9 aO 202 [tV (aP b 0),tD aL n] (dE b c ix) (fun _:OI=>tT [mf R.1,gY R.2]) (fun _=>(dE b c ix)):=by
 refine c9.of Tryz.func202 J J J fun w0 S0=>?_;refine(show CG _ _ _ [bx (rH bj [(1,aS (ix.h 0).1 (ix.h 0).2 c.kinds.length),(2,aS (ix.h 1).1 (ix.h 1).2 c.first.length)]) 115 b c,d5 nj 39 (ix.h 0).1 (ix.h 0).2 c.kinds,d5 bY 3 (ix.h 1).1 (ix.h 1).2 c.first] _ from ?_);refine au<|zo J (jw J)<|zo J (aJ (show aI _ _ _ wO from jA))<|zo J (jE)<|aq<|au<|zo J (aJ (show aI _ _ _ ((dK aO IV kN (fun(x:Int)=>jo x)))from(yX aae fun x y h=>Uv _ h)))<|aq<|au<|zo J (cY zC qo J J)<|zo J (bB cv J J)<|zo J (hT (ht J) hI)<|aF J<|cR J J (fun hg=>cY zC qo J J)<|cR J J (fun hg=>bM cv J J (bD J hg))<|cR J J (fun hg=>fa (bD J hg) hI)<|zo J (rE J J)<|aF J<|cR J J (fun hg=>cY vO oV J J) ?_;refine cR J J (fun hg=>bM eC J J (bD J hg))<|cR J J (fun hg=>dW g9 (bD J hg))<|cR J J (fun hg=>hT (bD J hg) hI)<|zo J (rE J J)<|aF J<|cR J J (fun hg=>cY vO oV J J)<|cR J J (fun hg=>bM eC J J (bD J hg))<|cR J J (fun hg=>dW g9 (bD J hg))<|cR J J (fun hg=>lL (bD J hg) hI)<|zo J (rE J J)<|bm J<|aq<|ah<|bv h fun t q_t h=>?_
 obtain⟨r,h1t,h0t⟩:=og q_t
 have q_rg:=fun hb=>(h1t hb).1
 refine cJ (ts:=[_,_,_,_,_,_,_,_,_,_,_,_]) mixed J J
  ⟨ep 3 J J J (cY vO oV J J),
  ⟨bT 28 0 J J J (bB eC J J),
  ⟨ep 7 J J J (cD J),
  ⟨bT 30 2 J J J (cD J),
  ⟨pZ 3 31 3 J J J J (dJ J J J J (fun hg=>cY vO oV J J)),
  ⟨kO 32 4 31 3 J J J J (dJ J J J J (fun hg=>bM eC J J (bD J hg))),
  ⟨pZ 6 31 3 J J J J (dJ J J J J (fun hg=>cD J)),
  ⟨tF 33 5 34 6 31 3 J J J J J (dJ J J J J (fun hg=>aA Oz (Dg _ _ (q_rg hg)) ⟨(bD J hg),(bD J hg),aR⟩)),
  ⟨kO 35 7 31 3 J J J J (dJ J J J J (fun hg=>ei (bD J hg))),
  ⟨dv 31 3 36 8 J J J J (dP (ht J) (fun hb=>(bD J hb)) (fun hb=>(h1t hb).2) h0t),
  ⟨bT 29 1 J J J (tA J),
  ⟨bT 37 9 J J J (tA J),
  aR⟩⟩⟩⟩⟩⟩⟩⟩⟩⟩⟩⟩ ?_
 refine av<|ak<|aK<|aK<|aK ?_;cases so h;exact eg (ts:=[mf n.Kinds,gY t]) (rvs:=[.tmp 4,.tmp 5]) J J ⟨aX J,aX J,aR⟩ pm J J

theorem RF(n:Int){R:(List Int)}(h:lu n=some R):fT aO 343 [tV (.slice none 0 0),bH n] false bY 3 R:=by
 refine fT.of Tryz.func343 J J J fun w0 S0=>au<|bN false bY 3<|zo J (aJ rY)<|aq ?_;refine vl (Z:=mi n=some R) (Of:=[]) (Gf:=[(0,tV (.slice none 0 0)),(1,bH n)]) (fun h=>?_) (fun K=>?_)
 ·skip
  refine yk (Z:=fun s l c=>mh s=some R) (Of:=fun s l c=>[fq bY 3 l c s]) (Gf:=fun s l c=>[(0,qM l c s)]) (fun s l c h=>?_) (fun K1=>?_)
  ·skip
   refine au<|aF J<|bm J<|aq<|ak ?_;cases so h;exact fQ J J
  ·skip
   refine au<|aF J<|aF J<|zo J (sk g9 (ht J))<|aF J<|zo J (sj g9 (ht J))<|zo J (gK (ht J) (ht J))<|zo J (gK (ht J) (ht J))<|bm J<|aq<|au<|aF J<|zo J (jm (ht J) hI)<|aq<|cU h J (fun h=>?_) (fun h=>?_)
   ·refine aw<|aF J<|aF J<|zo J (sk g9 (ht J))<|zo J (xd g9 cv (ht J) (ht J))<|aF J<|bv h fun u q_u h=>bv h fun mk q_mk h=>zN (xm (r:=bY) (x:=(0:Int)) cv J J J J g9 kM (fun _=>J) (ht J) (ht J) (EB q_u) q_mk) J fun i=>aF J<|zo J (sj g9 (ht J))<|bv h fun y q_y h=>zo J (jY g9 cv J (.head _) (ht J) (ht J) q_y)<|uy q_y<|bm J<|aQ ?_;exact cM (K1 y (i.h 0).1 (i.h 0).2 h) (bt J)
   ·refine bw<|Fi false bY 3 ?_;exact cM (K1 uI none 0 h) (bt J)
 ·skip
  refine au<|aF J<|zo J (fa (ht J) hI)<|aq<|cU h J (fun h=>?_) (fun h=>?_)
  ·refine aw ?_;exact(nn h).elim
  ·refine bw<|bk ?_;exact cM (K h) (bt J)
theorem RI(slices:(List (List Int))){R:(List Int)}(h:iL slices=some R):fT aO 281 [bR (nj) slices] false bY 3 R:=by
 refine fT.of Tryz.func281 J J J fun w0 S0=>au<|bN false bY 3<|zo J (aJ rY)<|aq<|au<|zo J (cq)<|aq<|ah<|au<|aF J<|zo J (iw vo J)<|zo J (bJ hI)<|aq<|ay<|ba (k:=9) J fun hN=>bG<|pU ?_;refine aT (nO (Z:=fun ls i size=>(slices.drop i=ls)∧jf slices ls size=some R) (Of:=fun _ i size=>[]) (Gf:=fun _ i size=>[(0,bR (nj) slices),(3,bH size),(9,bR (nj) slices),(10,kg slices),(11,bH (i:Int))]) (fun i size h=>?_) (fun e tl ih i size h=>?_) slices 0 (0:Int) ⟨J,h⟩) (bt J)
 ·obtain⟨hx,h⟩:=h
  refine aC<|au<|zo J (fG J J)<|aq<|ah<|bA (ht J) (dC hx)<|bu ?_;refine ai (ai (aN ?_));refine av<|au<|aF rfl<|bv h fun r q_r h=>iv ZO (RF _ q_r) ⟨hV,(ht J),aR⟩ J fun l c=>bm J<|aq<|ah<|au<|aF J<|zo J (iw vo J)<|zo J (bJ hI)<|aq<|ay<|ba (k:=25) J fun hN1=>bG ?_;refine aT (jL (Z:=fun ls1 i1 newslice l1 c1=>(slices.drop i1=ls1)∧je ls1 newslice=some R) (Of:=fun _ i1 newslice l1 c1=>[fq bY 3 l1 c1 newslice]) (Gf:=fun _ i1 newslice l1 c1=>[(6,qM l1 c1 newslice),(25,bR (nj) slices),(26,kg slices),(27,bH (i1:Int))]) (fun i1 newslice l1 c1 h=>?_) (fun e1 tl1 ih1 i1 newslice l1 c1 h=>?_) slices 0 r l c ⟨J,h⟩) (bt J)
  ·obtain⟨hx1,h⟩:=h
   refine aC<|au<|zo J (fG J J)<|aq<|ah<|bA (ht J) (dC hx1)<|bu ?_;refine ai (ai (aN ?_));refine av<|au<|aF rfl<|bm rfl<|aq<|ak ?_;cases so h;exact fQ J J
  ·obtain⟨hx1,h⟩:=h
   refine aC<|au<|zo J (fG J J)<|aq<|ah<|bz (ht J) (du hx1)<|dR<|ah<|ay<|au<|zo J (lq vo eC J J J (cW hx1))<|zo J (bB eC J J)<|bm J<|aq<|aw<|aF J<|aF J<|bv h fun newslice1 q_newslice1 h=>cT cv J J J J g9 J J (ht J) (ht J) q_newslice1 fun l2 c2=>?_;refine bm J<|aQ<|ap<|av<|aw<|zo rfl (mI (cQ hx1 hN1) rfl)<|aF rfl<|aQ ?_;exact bg (aT (ih1 (i1+1) newslice1 l2 c2 ⟨cP hx1,h⟩) (bt J))
 ·obtain⟨hx,h⟩:=h
  refine aC<|au<|zo J (fG J J)<|aq<|ah<|bz (ht J) (du hx)<|dR<|ah<|ay<|au<|zo J (lq vo eC J J J (cW hx))<|zo J (bB eC J J)<|bm J<|aq<|au<|aF J<|aF J<|zo J (iw g9 J) ?_;refine zo J (nc (ht J) (ht J))<|bm J<|aq<|au<|aF J<|zo J (fa (ht J) hI)<|aq<|cU h J (fun h=>?_) (fun h=>?_)
  ·refine aw ?_;exact(nn h).elim
  ·refine bw<|ap<|av<|aw<|zo rfl (mI (cQ hx hN) rfl)<|aF rfl<|aQ ?_;exact bg (aT (ih (i+1) (IntKind.i64.wrap (size+(e.length:Int))) ⟨cP hx,h⟩) (bt J))
theorem Ut(slices:(List (List Int))){R:(List Int)}(h:iL slices=some R):aU aO 281 [bR (nj) slices] (mf R):=(RI _ h).spec

theorem Dh(tag:Int){R:Int}(h:oY tag=some R):aU aO 213 [bH tag] (bH R):=by
 refine aU.of Tryz.func213 J J J fun w0 S0=>au<|zo J (cq)<|aq<|ah<|ay<|au<|aF J<|zo J (lU J)<|aF J<|gI J J (fun hg=>cD J)<|gI J J (fun hg=>dd (bD J hg) hI)<|zo J (yr J J)<|bm J<|aq<|cU h J (fun h=>?_) (fun h=>?_)
 ·refine au<|zo J (cq)<|aq<|ak ?_;refine aD (ae ?_);cases so h;exact aG J J
 ·refine au<|aF J<|zo J (hT (ht J) hI)<|aF J<|cR J J (fun hg=>cD J)<|cR J J (fun hg=>lL (bD J hg) hI)<|zo J (rE J J)<|bm J<|aq<|cU h J (fun h=>?_) (fun h=>?_)
  ·refine au<|zo J (cq)<|aq<|ak ?_;refine aD (ae ?_);cases so h;exact aG J J
  ·refine au<|aF J<|zo J (hT (ht J) hI)<|aF J<|cR J J (fun hg=>cD J)<|cR J J (fun hg=>lL (bD J hg) hI)<|zo J (rE J J)<|bm J<|aq<|cU h J (fun h=>?_) (fun h=>?_)
   ·refine au<|zo J (cq)<|aq<|ak ?_;refine aD (ae ?_);cases so h;exact aG J J
   ·refine bw<|ap<|av<|au<|zo rfl (cq)<|aq<|ak ?_;cases so h;exact aG J J

theorem UQ(v:ac){R:ac}(h:wR v=some R):aU aO 191 [tD af v] (tD af R):=by
 refine aU.of Tryz.func191 J J J fun w0 S0=>au<|yi (ht J) J fun b=>bc (r:=af) (x:=hX) aH (fun _=>bf _) J fun b1=>aq<|ah<|au<|zo J (kG 0 fR J J J)<|zo J (cd cv J J cg (.tail _ (.head _)) (ht J))<|aq ?_;refine G7 (Z:=fun v1=>kh v1=some R) (Of:=fun v1=>[bx af 46 b v1,bx af 46 b1 hX]) (Gf:=fun v1=>[(1,tV (aP b 0)),(2,tV (aP b1 0))]) (fun v1 h=>?_) (fun K=>?_)
 ·skip
  refine av<|au<|zo rfl (cd aH rfl rfl bQ (.head _) (ht rfl))<|bI<|ax aH rfl an rfl (ht rfl) (ht rfl)<|aZ 2 rfl<|aq<|ak<|bk ?_;cases so h;exact iN J aH J J J
 ·skip
  refine ah<|ay<|ah<|ay<|ah ?_;refine G7 (Z:=fun v2=>pu v2=some R) (Of:=fun v2=>[bx af 46 b v2,bx af 46 b1 hX]) (Gf:=fun v2=>[(1,tV (aP b 0)),(2,tV (aP b1 0))]) (fun v2 h=>?_) (fun K1=>?_)
  ·skip
   refine av<|au<|zo rfl (kG 0 fR rfl rfl rfl)<|ax cv rfl nq rfl (ht rfl) hI<|aq<|bu ?_;refine ck J (ai (ck J (ai (aN ?_))));exact cM (K (ac.mk (0:Int) v2.N v2.U v2.S) h) (bt J)
  ·skip
   refine ah ?_;refine Qa (Z:=pt v=some R) (Of:=[bx af 46 b v,bx af 46 b1 hX]) (Gf:=[(1,tV (aP b 0)),(2,tV (aP b1 0))]) (fun h=>?_) (fun K2=>?_)
   ·skip
    refine av<|aw<|zo rfl (kG 1 iZ rfl rfl rfl)<|ax Bl rfl oL rfl (ht rfl) hI<|aQ<|ap ?_;exact cM (K1 (ac.mk v.Kind (0:Int) v.U v.S) h) (bt J)
   ·skip
    refine ah<|ay<|ah<|ah<|au<|zo J (lU J)<|bm J<|aq<|cU h J (fun h=>?_) (fun h=>?_)
    ·refine bu ?_;refine ai (ai (aN ?_));refine av<|au<|zo rfl (kG 1 iZ rfl rfl rfl)<|zo rfl (cd Bl rfl rfl dm (.tail _ (.head _)) (ht rfl))<|zo rfl (tE rfl)<|aF rfl<|cR rfl rfl (fun hg=>kG 1 iZ J J J)<|cR J J (fun hg=>cd Bl J J dm (.tail _ (.head _)) (bD J hg))<|cR J J (fun hg=>eZ (bD J hg) hI)<|zo J (rE J J)<|aq<|cU h J (fun h=>?_) (fun h=>?_)
     ·refine bu ?_;refine ck J (ai (ck J (ai (ck J (ai (ck J (ai (aN ?_))))))));refine bE ?_;exact cM (K v h) (bt J)
     ·refine bw<|ap<|bE ?_;exact cM (K2 h) (bt J)
    ·refine dR<|ah<|au<|zo J (lU J)<|bm J<|aq<|cU h J (fun h=>?_) (fun h=>?_)
     ·refine bu ?_;refine ai (ai (ck J (ai (aN ?_))));refine bE ?_;exact cM (K2 h) (bt J)
     ·refine dR<|ah<|au<|zo J (lU J)<|bm J<|aq<|cU h J (fun h=>?_) (fun h=>?_)
      ·refine bu ?_;refine ai (ai (ck J (ai (ck J (ai (aN ?_))))));refine bE ?_;exact cM (K1 v h) (bt J)
      ·refine dR<|ah<|au<|zo J (lU J)<|bm J<|aq<|cU h J (fun h=>?_) (fun h=>?_)
       ·refine bu ?_;refine ai (ai (ck J (ai (ck J (ai (ck J (ai (aN ?_))))))));refine av ?_;refine ke (Z:=fun v3=>pr v3=some R) (Of:=fun v3=>[bx af 46 b v3,bx af 46 b1 hX]) (Gf:=fun v3=>[(1,tV (aP b 0)),(2,tV (aP b1 0))]) (fun v3 h=>?_) (fun K3=>?_)
        ·skip
         refine bu ?_;refine ck J (ai (aN ?_));exact cM (K v3 h) (bt J)
        ·skip
         refine au<|zo J (kG 3 oX J J J)<|zo J (cd Le J J gN (.tail _ (.head _)) (ht J))<|zo J (HQ Ci (ht J))<|zo J (lL (ht J) hI)<|aq<|cU h J (fun h=>?_) (fun h=>?_)
         ·refine aw<|zo J (kG 0 fR J J J)<|bI<|ax cv J nq J (ht J) hI<|zo J (kG 3 oX J J J)<|ax Le J Ly J (ht J) hS<|aQ ?_;exact cM (K3 (ac.mk (0:Int) v.N v.U ([])) h) (bt J)
         ·refine bw<|bE ?_;exact cM (K3 v h) (bt J)
       ·refine dR<|au<|zo J (lU J)<|bm J<|aq<|cU h J (fun h=>?_) (fun h=>?_)
        ·refine bu ?_;refine ai (ck J (ai (ck J (ai (ck J (ai (ck J (ai (aN ?_)))))))));refine av<|au<|zo rfl (kG 0 fR rfl rfl rfl)<|bI<|ax cv rfl nq rfl (ht rfl) hI<|zo rfl (kG 1 iZ rfl rfl rfl)<|ax Bl rfl oL rfl (ht rfl) hI<|zo rfl (kG 2 qr rfl rfl rfl)<|ax Al rfl zk rfl (ht rfl) hI<|aq<|bu<|aN ?_;exact cM (K (ac.mk (0:Int) (0:Int) (0:Int) v.S) h) (bt J)
        ·refine dR<|bu ?_;refine ck J (ai (ck J (ai (ck J (ai (ck J (ai (ck J (ai (aN ?_))))))))));refine bE ?_;exact cM (K v h) (bt J)

theorem AV(v:ac){R:Int}(h:kQ v=some R):aU aO 111 [tD af v] (bH R):=by
 refine aU.of Tryz.func111 J J J fun w0 S0=>au<|zo J (jw J)<|zo J (cq)<|aq<|ah<|au<|zo J (bB aH J J)<|bv h fun r q_r h=>zo J (aA aaL (UQ _ q_r) ⟨(ht J),aR⟩)<|zo J (ci (y:=hX) aH pL bf (J))<|zo J (HN MF (ht J) (ht J))<|aq<|cU h J (fun h=>?_) (fun h=>?_)
 ·refine au<|zo J (cq)<|aq<|ak<|ae ?_;cases so h;exact aG J J
 ·refine dR<|au<|zo J (cq)<|aq<|ak ?_;cases so h;exact aG J J

theorem Di(v:ac){R:Bool}(h:lX v=some R):aU aO 182 [tD af v] (gY R):=by
 refine aU.of Tryz.func182 J J J fun w0 S0=>au<|zo J (jw J)<|zo J (jE)<|aq<|au<|zo J (bB aH J J)<|bv h fun r q_r h=>zo J (aA KE (AV _ q_r) ⟨(ht J),aR⟩)<|zo J (lU J)<|aF J<|cR J J (fun hg=>cY fR cg J J)<|cR J J (fun hg=>bM cv J J (bD J hg))<|cR J J (fun hg=>eZ (bD J hg) hI)<|zo J (rE J J)<|bm J<|aq<|ak ?_;cases so h;exact aG J J

theorem UN(n:bo){R:Bool}(h:t6 n=some R):aU aO 214 [tD bP n] (gY R):=by
 refine aU.of Tryz.func214 J J J fun w0 S0=>au<|zo J (jw J)<|zo J (jE)<|aq<|ah<|au<|zo J (cY pM iu J J)<|zo J (bB cv J J)<|aq<|ay<|au<|zo J (lU J)<|bm J<|aq<|cU h J (fun h=>?_) (fun h=>?_)
 ·refine au<|zo J (cY EK sZ J J)<|zo J (bB aH J J)<|bv h fun r q_r h=>zo J (aA OB (Di _ q_r) ⟨(ht J),aR⟩)<|aF J<|cR J J (fun hg=>cY zB oW J J)<|cR J J (fun hg=>bM cv J J (bD J hg))<|cR J J (fun hg=>dd (bD J hg) hI)<|zo J (rE J J)<|bm J<|aq<|ak ?_;refine aD (ae ?_);cases so h;exact aG J J
 ·refine au<|zo J (lU J)<|bm J<|aq<|cU h J (fun h=>?_) (fun h=>?_)
  ·refine au<|zo J (cY EK sZ J J)<|zo J (bB aH J J)<|zo J (ci (y:=hX) aH pL bf (J))<|zo J (AC MF (ht J) (ht J))<|aF J<|cR J J (fun hg=>cY zB oW J J)<|cR J J (fun hg=>bM cv J J (bD J hg))<|cR J J (fun hg=>hT (bD J hg) hI)<|zo J (rE J J)<|aF J<|cR J J (fun hg=>cY zB oW J J)<|cR J J (fun hg=>bM cv J J (bD J hg))<|cR J J (fun hg=>fa (bD J hg) hI)<|zo J (rE J J)<|bm J<|aq<|ak ?_;refine aD (ae ?_);cases so h;exact aG J J
  ·refine bw<|ap<|av<|au<|zo rfl (cY EK sZ rfl rfl)<|zo rfl (bB aH rfl rfl)<|zo rfl (ci (y:=hX) aH pL bf (J))<|zo J (AC MF (ht J) (ht J))<|aF J<|cR J J (fun hg=>cY zB oW J J)<|cR J J (fun hg=>bM cv J J (bD J hg))<|cR J J (fun hg=>dd (bD J hg) hI)<|zo J (rE J J)<|bm J<|aq<|ak ?_;cases so h;exact aG J J

theorem Vf(e:bL){R:(List Int)×Bool}(h:xl e=some R):aU aO 129 [tD cB e] (tT [mf R.1,gY R.2]):=by
 refine aU.of Tryz.func129 J J J fun w0 S0=>au<|zo J (jw J)<|zo J (aJ (show aI _ _ _ wO from jA))<|zo J (jE)<|aq<|au<|bN false bY 3<|zo J (aJ rY)<|bN false bY 3<|zo J (aJ rY)<|aq<|ah<|au<|zo J (cY rq nU J J)<|zo J (bB CT J J)<|zo J (iw z8 J)<|zo J (bJ hI)<|aQ ?_;refine av<|ay<|ba (k:=15) J fun hN=>bG<|iF ?_;refine aT (KR (Z:=fun ls i all l c open1 l1 c1=>(e.Nodes.drop i=ls)∧kq ls i all open1=some R) (Of:=fun _ i all l c open1 l1 c1=>[fq bY 3 l c all,fq bY 3 l1 c1 open1]) (Gf:=fun _ i all l c open1 l1 c1=>[(4,qM l c all),(5,qM l1 c1 open1),(15,bR (bP) e.Nodes),(16,kg e.Nodes),(17,bH (i:Int))]) (fun i all l c open1 l1 c1 h=>?_) (fun e1 tl ih i all l c open1 l1 c1 h=>?_) e.Nodes 0 uI none 0 uI none 0 ⟨J,h⟩) (bt J)
 ·obtain⟨hx,h⟩:=h
  refine aC<|au<|zo J (fG J J)<|aq<|ah<|bA (ht J) (dC hx)<|bu ?_;refine ai (ai (aN ?_));refine av<|au<|aF rfl<|aF rfl<|zo rfl (io g9 (.tail _ (.head _)) (ht rfl))<|zo rfl (lU rfl)<|aF rfl<|cR rfl rfl (fun hg=>cD J)<|cR J J (fun hg=>io g9 (.head _) (bD J hg))<|cR J J (fun hg=>lL (bD J hg) hI)<|zo J (rE J J)<|bm J<|bm J<|aq<|ak<|jb<|cw 4 J<|cw 84 J<|cw 2 J<|jd 2 J<|bk<|bk ?_;cases so h;exact cC J J J
 ·obtain⟨hx,h⟩:=h
  refine aC<|au<|zo J (fG J J)<|aq<|ah<|bz (ht J) (du hx)<|dR<|ah<|ay<|au<|aF J<|zo J (lq z8 qP J J J (cW hx))<|zo J (bB qP J J)<|bc (r:=bP) (x:=SY) qP (fun _=>wM _) J fun b=>bm J<|ax qP J an J (ht J) (ht J)<|aZ 7 J<|aq<|ah ?_;refine aw<|zo J (cY pM iu J J)<|zo J (bB cv J J)<|bv h fun r q_r h=>zo J (aA OA (Dh _ q_r) ⟨(ht J),aR⟩)<|bm J<|aq<|ah<|au<|aF J<|zo J (fa (ht J) hI)<|aF J<|gI J J (fun hg=>cD J)<|gI J J (fun hg=>cD J)<|gI J J (fun hg=>io g9 (.tail _ (.head _)) (bD J hg))<|gI J J (fun hg=>jm (bD J hg) (bD J hg))<|zo J (yr J J)<|aF J<|bv h fun t q_t h=>gI J J (fun hg=>bB qP J J) ?_
  obtain⟨r1,h1t,h0t⟩:=og q_t
  have q_r1g:=fun hb=>(h1t hb).1
  refine gI J J (fun hg=>aA aay (UN _ (q_r1g hg)) ⟨(bD J hg),aR⟩)<|gI J J (fun hg=>ei (bD J hg))<|zo J (ko (ht J) (fun hb=>(bD J (yA hb))) (fun hb=>(h1t hb).2) h0t)<|aq<|cU h J (fun h=>?_) (fun h=>?_)
  ·refine au<|zo J (aJ (show aI _ _ _ wO from jA))<|zo J (jE)<|aq<|ak ?_;refine ae (aD (ae (ae (aD (ae ?_)))));refine bk<|bk ?_;cases so h;exact cC J J J
  ·refine dR<|au<|aF J<|aF J<|zo J (io g9 (.tail _ (.head _)) (ht J))<|aF J<|zo J (gK (ht J) (ht J))<|bv h fun y q_y h=>zo J (nC g9 cv J (.tail _ (.head _)) (ht J) (ht J) q_y)<|mH (.tail _ (.head _)) q_y fun hv=>bm J<|aq<|au<|zo J (Gt (r:=bY) (ys:=[uH,uH]) (xs:=[.const (.int .i64 (-1)),.const (.int .i64 (-1))]) Tryz.underlying243 cv J I6 J J ⟨hI,hI,aR⟩)<|bc (r:=(ur bY 2)) (x:=(List.replicate 2 (0:Int))) I6 (fun _=>Su (r:=bY) 2 (fun _=>J) _) J fun b1=>ax I6 J an J (ht J) (ht J)<|aq<|au ?_;refine aF J<|bm J<|aq<|ah<|au<|aF J<|zo J (To g9 (.tail _ (.tail _ (.head _))) q_y (ht J))<|zo J (bJ hI)<|aq<|ay ?_
   have hN1:=hv.2
   refine bG<|qA<|qA ?_;refine aT (vh (Z:=fun ls1 i1 first at1=>(y.drop i1=ls1)∧lN (kq tl) i e1 all open1 r ls1 i1 first at1=some R) (Of:=fun _ i1 first at1=>[fq bY 3 l c all,fq bY 3 l1 c1 open1,bx (ur bY 2) 243 b1 at1]) (Gf:=fun _ i1 first at1=>[(4,qM l c all),(5,qM l1 c1 open1),(6,bH (i:Int)),(7,bK bP e1),(8,bH r),(10,tV (aP b1 0)),(11,bH first),(15,bR (bP) e.Nodes),(16,kg e.Nodes),(17,bH (i:Int)),(46,tV (n9 1 l1 c1 (IntKind.i64.wrap ((open1.length:Int)-r)).toNat y.length)),(47,kg y),(48,bH (i1:Int))]) (fun i1 first at1 h=>?_) (fun e2 tl1 ih1 i1 first at1 h=>?_) y 0 (i:Int) ([uH,uH]) ⟨J,h⟩) (bt J)
   ·obtain⟨hx1,h⟩:=h
    refine aC<|au<|zo J (fG J J)<|aq<|ah<|bA (ht J) (dC hx1)<|bu ?_;refine ai (ai (aN ?_));refine av<|ah<|au<|zo rfl (cd I6 rfl rfl bQ (.tail _ (.tail _ (.head _))) (ht rfl))<|zo rfl (cY XC Ms rfl rfl)<|zo rfl (bB cv rfl rfl)<|zo rfl (cY XB Mr rfl rfl)<|zo rfl (bB cv rfl rfl)<|zo rfl (Gt (r:=bY) (ys:=[e1.L,e1.R]) (xs:=[.tmp 65,.tmp 67]) Tryz.underlying243 cv J I6 J J ⟨(ht J),(ht J),aR⟩)<|zo J (HN Zr (ht J) (ht J))<|aq<|cU h J (fun h=>?_) (fun h=>?_)
    ·refine au<|zo J (aJ (show aI _ _ _ wO from jA))<|zo J (jE)<|aq<|ak ?_;refine ae (aD (ae (ae (aD (ae ?_)))));refine bk<|bk<|bk ?_;cases so h;exact cC J J J
    ·refine dR<|au<|aF J<|aF J<|zo J (aV (r:=bY) (ys:=[first]) (xs:=[.tmp 71]) g9 cv J J J J J ⟨(ht J),aR⟩)<|bv h fun all1 q_all1 h=>cT cv J J J J g9 J J (ht J) (ht J) q_all1 fun l2 c2=>bm J<|aq<|aw<|aF J<|aF J<|zo J (io g9 (.tail _ (.head _)) (ht J))<|aF J<|zo J (gK (ht J) (ht J))<|bv h fun y1 q_y1 h=>zo J (jY g9 cv J (.tail _ (.head _)) (ht J) (ht J) q_y1)<|aF J<|zo J (aV (r:=bY) (ys:=[(i:Int)]) (xs:=[.tmp 80]) g9 cv J J J J J ⟨(ht J),aR⟩)<|bI<|uy q_y1 ?_;refine bv h fun open2 q_open2 h=>cT cv J J J J g9 J J (ht J) (ht J) q_open2 fun l3 c3=>bm J<|aQ<|ap<|av<|aw<|zo rfl (mI (cQ hx hN) rfl)<|aF rfl<|aQ<|aK<|bk<|bE ?_;exact bg (aT (ih (i+1) all1 l2 c2 open2 l3 c3 ⟨cP hx,h⟩) (bt J))
   ·obtain⟨hx1,h⟩:=h
    refine aC<|au<|zo J (fG J J)<|aq<|ah<|bz (ht J) (du hx1)<|dR<|ah<|ay<|au<|aF J<|zo J (FP g9 cv J (.tail _ (.head _)) q_y (ht J) (ht J) (cW hx1))<|zo J (fM (r:=bY) (i:=((IntKind.i64.wrap ((open1.length:Int)-r))+(i1:Int))) (foff:=0) cv J J bQ J (.tail _ (.head _)) (DP q_y (cW hx1)).1 (ht J))<|bm J<|bm J<|aq<|bv h fun e3 q_e3 h=>bv h fun e4 q_e4 h=>bv h fun ar q_ar h=>?_
    refine oA 10 [tc (bH (i1:Int)),tc (bH e2),tc (bH first),tc (qM l c all),tc (bH e2),tc (tV (po l (e2.toNat*1+0))),tc (bH e3),tc (bH (min first e3)),tc (tV (aP b1 ((i1:Int).toNat*1))),tc (CU)] [false,false,false,false,false,false,false,false,false,true] [fun _=>[fq bY 3 l c all,fq bY 3 l1 c1 open1,bx (ur bY 2) 243 b1 at1],fun sg=>[bx (ur bY 2) 243 b1 ar,fq bY 3 l c all,fq bY 3 l1 c1 open1]] J mixed J J J J J
     ⟨⟨[⟨12,fun _=>tD bY (i1:Int),none⟩],_,0,0,J,⟨(fun _=>J),aR⟩,J,J,J,J,J,fun _ sg _ _=>aB J (cD J)⟩,
     ⟨⟨[⟨13,fun _=>tD bY e2,none⟩],_,0,0,J,⟨(fun _=>J),aR⟩,J,J,J,J,J,fun _ sg _ _=>aB J (cD J)⟩,
     ⟨⟨[⟨11,fun _=>tD bY first,none⟩],_,0,1,J,⟨(fun _=>J),aR⟩,J,J,J,J,J,fun _ sg _ _=>aB J (cD J)⟩,
     ⟨⟨[⟨4,fun _=>tV (aS l c all.length),none⟩],_,0,1,J,⟨(fun _=>J),aR⟩,J,J,J,J,J,fun _ sg _ _=>aB J (cD J)⟩,
     ⟨⟨[⟨13,fun _=>tD bY e2,none⟩],_,0,1,J,⟨(fun _=>J),aR⟩,J,J,J,J,J,fun _ sg _ _=>aB J (cD J)⟩,
     ⟨⟨[⟨56,fun _=>tV (aS l c all.length),some 3⟩,⟨57,fun _=>tD bY e2,some 4⟩],_,0,1,J,⟨(fun _=>J),(fun _=>J),aR⟩,J,J,J,J,J,Fu (fun sg=>aB J (ca g9 cv (.head _) (ht J) (ht J) q_e3)) (ze (fun sg=>aB J (ca g9 cv (.tail _ (.head _)) (ht J) (ht J) q_e3)))⟩,
     ⟨⟨[⟨58,fun _=>tV (po l (e2.toNat*1+0)),some 5⟩],_,0,1,J,⟨(fun _=>J),aR⟩,J,J,J,J,J,Fu (fun sg=>aB J (fM (r:=bY) (i:=e2) (foff:=0) cv J J bQ J (.head _) q_e3 (ht J))) (ze (fun sg=>aB J (fM (r:=bY) (i:=e2) (foff:=0) cv J J bQ J (.tail _ (.head _)) q_e3 (ht J))))⟩,
     ⟨⟨[⟨55,fun _=>tD bY first,some 2⟩,⟨59,fun _=>tD bY e3,some 6⟩],_,0,1,J,⟨(fun _=>J),(fun _=>J),aR⟩,J,J,J,J,J,fun _ sg _ _=>aB J (Nz (ht J) (ht J))⟩,
     ⟨⟨[⟨10,fun _=>tV (aP b1 0),none⟩,⟨53,fun _=>tD bY (i1:Int),some 0⟩],_,0,0,J,⟨(fun _=>J),(fun _=>J),aR⟩,J,J,J,J,J,ze (fun sg=>aB J (FO Tryz.underlying243 cv (.tail _ (.tail _ (.head _))) (ht J) (ht J) q_e4))⟩,
     ⟨⟨[⟨61,fun _=>tV (aP b1 ((i1:Int).toNat*1)),some 8⟩,⟨54,fun _=>tD bY e2,some 1⟩],_,J,⟨(fun _=>J),(fun _=>J),aR⟩,J,J,J,fun sg=>eI J (EffOK.fr2 (MH cv J q_e4 (so q_ar) (ht J) (ht J)))⟩,
     aR⟩⟩⟩⟩⟩⟩⟩⟩⟩⟩ (fun sg=>?_)
    refine(show RG _ _ _ _ [bx (ur bY 2) 243 b1 ar,fq bY 3 l c all,fq bY 3 l1 c1 open1] _ from ?_);refine bm J<|aQ<|ap<|av<|aw<|zo rfl (mI (cQ hx1 hN1) rfl)<|aF rfl<|aQ<|aK<|aK ?_;exact bg (aT (ih1 (i1+1) (min first e3) ar ⟨cP hx1,h⟩) (bt J))

end Go.Proofs.YtfhhakidodmdfaaGreatDoor

