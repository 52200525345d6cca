/- da of this claim: P2. -/
import Derived.Test.YtfhhakidodmdfaaGreatDoorJdT
import Derived.Test.YtfhhakidodmdfaaGreatDoorJdP1
set_option linter.all false
namespace Go.Proofs.YtfhhakidodmdfaaGreatDoor
open Go
set_option maxRecDepth 100000

theorem N7(e:bL)(kinds:(List Int)){R:Bool}(h:qZ e kinds=some R):aU aO 282 [tD cB e,mf kinds] (gY R):=by
 refine aU.of Tryz.func282 J J J fun w0 S0=>au<|zo J (jw J)<|zo J (jE)<|aq<|au<|zo J (bB mJ J J)<|aF J<|bv h fun r q_r h=>zo J (aA Sb (Id _ _ q_r) ⟨(ht J),(ht J),aR⟩)<|aF J<|zo J (hZ J J)<|zo J (hZ J J)<|bm J<|bm J<|aq<|au<|aF J<|zo J (lU J) ?_;refine aF J<|cR J J (fun hg=>cD J)<|cR J J (fun hg=>dd (bD J hg) hI)<|cR J J (fun hg=>bJ (bD J hg))<|pS J J J J (fun hg=>cD J)<|pS J J J J (fun hg=>dd (bD J hg) hI)<|cR J J (fun hg=>uW (bD J hg) (fun hb=>(bD J (B3 hg (yA hb)))))<|zo J (rE J J)<|bm J<|aq<|ak ?_;cases so h;exact aG J J

theorem X5(b:Nat)(ix:OI)(c:aE)(n:am){R:(List Int)×Bool}(h:gL c n=some R):c9 aO 203 [tV (aP b 0),tD aL n] (dE b c ix) (fun _:OI=>tT [mf R.1,gY R.2]) (fun _=>(dE b c ix)):=by
 refine c9.of Tryz.func203 J J J fun w0 S0=>?_;refine(show CG _ _ _ [bx (rH bj [(1,aS (ix.h 0).1 (ix.h 0).2 c.kinds.length),(2,aS (ix.h 1).1 (ix.h 1).2 c.first.length)]) 115 b c,d5 nj 39 (ix.h 0).1 (ix.h 0).2 c.kinds,d5 bY 3 (ix.h 1).1 (ix.h 1).2 c.first] _ from ?_);refine au<|zo J (jw J)<|zo J (aJ (show aI _ _ _ wO from jA))<|zo J (jE)<|aq<|ah<|bv h fun e q_e h=>bv h fun e1 q_e1 h=>bv h fun r q_r h=>?_
 refine cJ (ts:=[_,_,_,_,_,_,_,_,_,_,_,_,_,_,_,_,_,_,_]) mixed J J
  ⟨ep 0 J J J (cD J),
  ⟨bT 7 0 J J J (dG (ht J)),
  ⟨bT 8 1 J J J (kG 1 nf J J J),
  ⟨bT 9 2 J J J (di sD J (.head _) (.tail _ (.head _)) (ht J)),
  ⟨ep 3 J J J (cY jR dX J J),
  ⟨bT 11 4 J J J (bB cv J J),
  ⟨dv 10 3 12 5 J J J J (bp vo eC J (k7 (ht J)) (ht J) q_e),
  ⟨bT 13 6 J J J (bB eC J J),
  ⟨ep 0 J J J (cD J),
  ⟨bT 15 8 J J J (dG (ht J)),
  ⟨bT 16 9 J J J (kG 1 nf J J J),
  ⟨bT 17 10 J J J (di sD J (.head _) (.tail _ (.head _)) (ht J)),
  ⟨ep 3 J J J (cY rp kp J J),
  ⟨bT 19 12 J J J (bB cv J J),
  ⟨dv 18 11 20 13 J J J J (bp vo eC J (k7 (ht J)) (ht J) q_e1),
  ⟨bT 21 14 J J J (bB eC J J),
  ⟨dv 14 7 22 15 J J J J (aV (r:=wN) (ys:=[e,e1]) (xs:=[.tmp 14,.tmp 22]) vo eC J J J J J ⟨(ht J),(ht J),aR⟩),
  ⟨bT 23 16 J J J (aA aac (Ut _ q_r) ⟨(ht J),aR⟩),
  ⟨bT 24 17 J J J (tA J),
  aR⟩⟩⟩⟩⟩⟩⟩⟩⟩⟩⟩⟩⟩⟩⟩⟩⟩⟩⟩ ?_
 refine av<|au<|aF rfl<|zo rfl (cY vN oU rfl rfl)<|zo rfl (bB mJ rfl rfl)<|aF rfl<|bv h fun r1 q_r1 h=>zo J (aA Wh (N7 _ _ q_r1) ⟨(ht J),(ht J),aR⟩)<|bm J<|bm J<|aq<|ak<|aK<|aK<|aK ?_;cases so h;exact eg (ts:=[mf r,gY r1]) (rvs:=[.tmp 4,.tmp 5]) J J ⟨aX J,aX J,aR⟩ pm J J

theorem X4(b:Nat)(ix:OI)(c:aE)(n:am){R:(List Int)×Bool}(h:fY c n=some R):c9 aO 204 [tV (aP b 0),tD aL n] (dE b c ix) (fun _:OI=>tT [mf R.1,gY R.2]) (fun _=>(dE b c ix)):=by
 refine c9.of Tryz.func204 J J J fun w0 S0=>?_;refine(show CG _ _ _ [bx (rH bj [(1,aS (ix.h 0).1 (ix.h 0).2 c.kinds.length),(2,aS (ix.h 1).1 (ix.h 1).2 c.first.length)]) 115 b c,d5 nj 39 (ix.h 0).1 (ix.h 0).2 c.kinds,d5 bY 3 (ix.h 1).1 (ix.h 1).2 c.first] _ from ?_);refine au<|zo J (jw J)<|zo J (aJ (show aI _ _ _ wO from jA))<|zo J (jE)<|aq<|ah<|bv h fun e q_e h=>bv h fun r q_r h=>?_
 refine cJ (ts:=[_,_,_,_,_,_,_,_,_,_,_,_,_,_,_,_,_,_,_,_,_]) mixed J J
  ⟨ep 0 J J J (cD J),
  ⟨bT 6 0 J J J (dG (ht J)),
  ⟨bT 7 1 J J J (kG 1 nf J J J),
  ⟨bT 8 2 J J J (di sD J (.head _) (.tail _ (.head _)) (ht J)),
  ⟨ep 3 J J J (cY jR dX J J),
  ⟨bT 10 4 J J J (bB cv J J),
  ⟨dv 9 3 11 5 J J J J (bp vo eC J (k7 (ht J)) (ht J) q_e),
  ⟨bT 12 6 J J J (bB eC J J),
  ⟨ep 3 J J J (cY vN oU J J),
  ⟨bT 14 8 J J J (bB mJ J J),
  ⟨ep 0 J J J (cD J),
  ⟨bT 16 10 J J J (dG (ht J)),
  ⟨bT 17 11 J J J (kG 1 nf J J J),
  ⟨bT 18 12 J J J (di sD J (.head _) (.tail _ (.head _)) (ht J)),
  ⟨ep 3 J J J (cY jR dX J J),
  ⟨bT 20 14 J J J (bB cv J J),
  ⟨dv 19 13 21 15 J J J J (bp vo eC J (k7 (ht J)) (ht J) q_e),
  ⟨bT 22 16 J J J (bB eC J J),
  ⟨dv 15 9 23 17 J J J J (aA Wh (N7 _ _ q_r) ⟨(ht J),(ht J),aR⟩),
  ⟨bT 13 7 J J J (tA J),
  ⟨bT 24 18 J J J (tA J),
  aR⟩⟩⟩⟩⟩⟩⟩⟩⟩⟩⟩⟩⟩⟩⟩⟩⟩⟩⟩⟩⟩ ?_
 refine av<|ak<|aK<|aK<|aK ?_;cases so h;exact eg (ts:=[mf e,gY r]) (rvs:=[.tmp 4,.tmp 5]) J J ⟨aX J,aX J,aR⟩ pm J J

theorem T7(kinds:(List Int))(c:Int){R:Bool}(h:pG kinds c=some R):aU aO 344 [bH c,bK nj kinds] (gY R):=by
 refine aU.of Tryz.func344 J J J fun w0 S0=>au<|zo J (jE)<|aq<|au<|aF J<|zo J (fa (ht J) hI)<|aF J<|gI J J (fun hg=>cD J)<|gI J J (fun hg=>bB eC J J)<|gI J J (fun hg=>dW g9 (bD J hg))<|gI J J (fun hg=>hT (bD J hg) (bD J hg))<|zo J (yr J J)<|bm J<|aq<|ak ?_;cases so h;exact aG J J

theorem Us(l:(List Int))(kinds:(List Int)){R:Bool}(h:rU l kinds=some R):aU aO 283 [mf l,mf kinds] (gY R):=by
 refine aU.of Tryz.func283 J J J fun w0 S0=>au<|zo J (jw J)<|zo J (jE)<|aq<|au<|aF J<|zo J ((show bO _ _ _ _ ((dK aO IV kN (fun(x:Int)=>(pG kinds) x)))from fW (cts:=[bK nj kinds]) (caps:=[.tmp 3]) ZN ⟨(ht J),aR⟩ (fun x y h=>T7 _ _ h)))<|bv h fun r q_r h=>zo J (aA Oz (Dg _ _ q_r) ⟨(ht J),(ht J),aR⟩)<|zo J (ei (ht J))<|bm J<|aq<|ak ?_;cases so h;exact aG J J

theorem Ur(a1:hY)(kinds:(List Int)){R:Int×Bool}(h:xR a1 kinds=some R):aU aO 284 [tD gm a1,mf kinds] (tT [bH R.1,gY R.2]):=by
 refine aU.of Tryz.func284 J J J fun w0 S0=>au<|zo J (jw J)<|zo J (cq)<|zo J (jE)<|aq<|ah<|au<|zo J (cY zD s0 J J)<|zo J (bB cv J J)<|zo J (lU J)<|aq<|cU h J (fun h=>?_) (fun h=>?_)
 ·refine ah ?_
  refine cJ (ts:=[_,_,_,_,_,_,_]) mixed J J
   ⟨ep 2 J J J (cY EL xj J J),
   ⟨bT 11 0 J J J (cY rq nU J J),
   ⟨bT 12 1 J J J (bB CT J J),
   ⟨bT 13 2 J J J (iw z8 J),
   ⟨bT 14 3 J J J (lU J),
   ⟨OX J J (cq),
   ⟨bT 15 4 J J J (tA J),
   aR⟩⟩⟩⟩⟩⟩⟩ ?_
  refine av<|ak<|ae ?_;cases so h;exact cC J J J
 ·refine dR<|au<|zo J (cY EL xj J J)<|zo J (bB mJ J J)<|aF J<|bv h fun r q_r h=>zo J (aA Sb (Id _ _ q_r) ⟨(ht J),(ht J),aR⟩)<|aF J<|zo J (hZ J J)<|zo J (hZ J J)<|bm J<|bm J<|aq<|ah<|au<|zo J (cY zD s0 J J)<|zo J (bB cv J J)<|aq<|ay ?_;refine au<|zo J (lU J)<|bm J<|aq<|cU h J (fun h=>?_) (fun h=>?_)
  ·refine au<|aF J<|zo J (lU J)<|zo J (cq)<|bm J<|aq<|ak ?_;refine aD (ae ?_);cases so h;exact cC J J J
  ·refine au<|zo J (lU J)<|bm J<|aq<|cU h J (fun h=>?_) (fun h=>?_)
   ·refine au<|aF J<|zo J (lU J)<|aF J<|cR J J (fun hg=>cD J)<|cR J J (fun hg=>dd (bD J hg) hI)<|cR J J (fun hg=>bJ (bD J hg))<|pS J J J J (fun hg=>cD J)<|pS J J J J (fun hg=>dd (bD J hg) hI)<|cR J J (fun hg=>uW (bD J hg) (fun hb=>(bD J (B3 hg (yA hb)))))<|zo J (rE J J)<|zo J (cq)<|bm J<|aq<|ak ?_;refine aD (ae ?_);cases so h;exact cC J J J
   ·refine ke (Z:=fun x=>rX r x=some R) (Of:=fun x=>[]) (Gf:=fun x=>[(6,bH r.1),(7,bH r.2),(41,gY x)]) (fun x h=>?_) (fun K=>?_)
    ·skip
     refine cU h J (fun h=>?_) (fun h=>?_)
     ·refine au<|aF J<|aF J<|zo J (lU J)<|bm J<|bm J<|aq<|ak ?_;refine aD (ae ?_);cases so h;exact cC J J J
     ·refine bw<|ap<|av<|au<|zo rfl (cq)<|zo rfl (jE)<|aq<|ak ?_;cases so h;exact cC J J J
    ·skip
     refine au<|zo J (lU J)<|bm J<|aq<|cU h J (fun h=>?_) (fun h=>?_)
     ·refine bw ?_;exact cM (K (a1.Tag==(4:Int)) h) (bt J)
     ·refine aw<|zo J (lU J)<|bm J<|aQ ?_;exact cM (K (a1.Tag==(5:Int)) h) (bt J)

theorem X3(b:Nat)(ix:OI)(c:aE)(n:am){R:(List Int)×Bool}(h:gy c n=some R):c9 aO 205 [tV (aP b 0),tD aL n] (dE b c ix) (fun _:OI=>tT [mf R.1,gY R.2]) (fun _=>(dE b c ix)):=by
 refine c9.of Tryz.func205 J J J fun w0 S0=>?_;refine(show CG _ _ _ [bx (rH bj [(1,aS (ix.h 0).1 (ix.h 0).2 c.kinds.length),(2,aS (ix.h 1).1 (ix.h 1).2 c.first.length)]) 115 b c,d5 nj 39 (ix.h 0).1 (ix.h 0).2 c.kinds,d5 bY 3 (ix.h 1).1 (ix.h 1).2 c.first] _ from ?_);refine au<|zo J (jw J)<|zo J (aJ (show aI _ _ _ wO from jA))<|zo J (jE)<|aq<|ah<|bv h fun e q_e h=>?_
 refine cJ (ts:=[_,_,_,_,_,_,_,_,_]) mixed J J
  ⟨ep 0 J J J (cD J),
  ⟨bT 15 0 J J J (dG (ht J)),
  ⟨bT 16 1 J J J (kG 1 nf J J J),
  ⟨bT 17 2 J J J (di sD J (.head _) (.tail _ (.head _)) (ht J)),
  ⟨ep 3 J J J (cY jR dX J J),
  ⟨bT 19 4 J J J (bB cv J J),
  ⟨dv 18 3 20 5 J J J J (bp vo eC J (k7 (ht J)) (ht J) q_e),
  ⟨bT 21 6 J J J (bB eC J J),
  ⟨bT 22 7 J J J (tA J),
  aR⟩⟩⟩⟩⟩⟩⟩⟩⟩ ?_
 refine av<|au<|zo rfl (cY uu nG rfl rfl)<|zo rfl (bB eC rfl rfl)<|zo rfl (iw g9 rfl)<|zo rfl (lL (ht rfl) hI)<|aF rfl<|cR rfl rfl (fun hg=>cY s5 qn J J)<|cR J J (fun hg=>bM DL J J (bD J hg))<|cR J J (fun hg=>dW z6 (bD J hg))<|cR J J (fun hg=>lL (bD J hg) hI)<|zo J (rE J J)<|aF J<|cR J J (fun hg=>cY uu nG J J)<|cR J J (fun hg=>bM eC J J (bD J hg))<|cR J J (fun hg=>dW g9 (bD J hg))<|cR J J (fun hg=>cY s5 qn J J)<|cR J J (fun hg=>bM DL J J (bD J hg))<|cR J J (fun hg=>dW z6 (bD J hg))<|cR J J (fun hg=>nc (bD J hg) (bD J hg))<|cR J J (fun hg=>jm (bD J hg) hI)<|zo J (rE J J)<|aF J ?_;refine bv h fun t q_t h=>cR J J (fun hg=>cY uu nG J J)<|cR J J (fun hg=>bM eC J J (bD J hg))<|cR J J (fun hg=>cD J) ?_
 obtain⟨r,h1t,h0t⟩:=og q_t
 have q_rg:=fun hb=>(h1t hb).1
 refine cR J J (fun hg=>aA aab (Us _ _ (q_rg hg)) ⟨(bD J hg),(bD J hg),aR⟩)<|zo J (dP (ht J) (fun hb=>(bD J hb)) (fun hb=>(h1t hb).2) h0t)<|bm J<|aq<|ah<|au<|aF J<|zo J (ei (ht J))<|aq<|cU h J (fun h=>?_) (fun h=>?_)
 ·refine au<|zo J (aJ (show aI _ _ _ wO from jA))<|zo J (jE)<|aq<|ak<|ae<|aK<|aK<|aK ?_;cases so h;exact eg (ts:=[mf ([]),gY false]) (rvs:=[.tmp 4,.tmp 5]) J J ⟨aX J,aX J,aR⟩ pm J J
 ·refine dR<|au<|bN false bY 3<|zo J (aJ rY)<|aq<|ah<|au<|zo J (cY uu nG J J)<|zo J (bB eC J J)<|zo J (iw g9 J)<|zo J (bJ hI)<|aq<|ay<|ba (k:=52) J fun hN=>bG ?_;refine aT (jL (Z:=fun ls i out l c1=>(n.Keys.drop i=ls)∧gq n e t ls out=some R) (Of:=fun _ i out l c1=>[fq bY 3 l c1 out,bx (rH bj [(1,aS (ix.h 0).1 (ix.h 0).2 c.kinds.length),(2,aS (ix.h 1).1 (ix.h 1).2 c.first.length)]) 115 b c,d5 nj 39 (ix.h 0).1 (ix.h 0).2 c.kinds,d5 bY 3 (ix.h 1).1 (ix.h 1).2 c.first]) (Gf:=fun _ i out l c1=>[(3,bK aL n),(6,mf e),(7,gY t),(8,qM l c1 out),(52,mf n.Keys),(53,kg n.Keys),(54,bH (i:Int))]) (fun i out l c1 h=>?_) (fun e1 tl ih i out l c1 h=>?_) n.Keys 0 uI none 0 ⟨J,h⟩) (bt J)
  ·obtain⟨hx,h⟩:=h
   refine aC<|au<|zo J (fG J J)<|aq<|ah<|bA (ht J) (dC hx)<|bu ?_;refine ai (ai (aN ?_));refine av<|ah<|au<|zo rfl (cY s5 qn rfl rfl)<|zo rfl (bB DL rfl rfl)<|zo rfl (iw z6 rfl)<|zo rfl (bJ hI)<|aq<|ay<|ba (k:=67) J fun hN1=>bG ?_;refine aT (tp (Z:=fun ls1 i1 out1 l1 c2 ok=>(n.Aggs.drop i1=ls1)∧fb e ls1 out1 ok=some R) (Of:=fun _ i1 out1 l1 c2 ok=>[fq bY 3 l1 c2 out1,bx (rH bj [(1,aS (ix.h 0).1 (ix.h 0).2 c.kinds.length),(2,aS (ix.h 1).1 (ix.h 1).2 c.first.length)]) 115 b c,d5 nj 39 (ix.h 0).1 (ix.h 0).2 c.kinds,d5 bY 3 (ix.h 1).1 (ix.h 1).2 c.first]) (Gf:=fun _ i1 out1 l1 c2 ok=>[(6,mf e),(7,gY ok),(8,qM l1 c2 out1),(67,bR (gm) n.Aggs),(68,kg n.Aggs),(69,bH (i1:Int))]) (fun i1 out1 l1 c2 ok h=>?_) (fun e2 tl1 ih1 i1 out1 l1 c2 ok h=>?_) n.Aggs 0 out l c1 t ⟨J,h⟩) (bt J)
   ·obtain⟨hx1,h⟩:=h
    refine aC<|au<|zo J (fG J J)<|aq<|ah<|bA (ht J) (dC hx1)<|bu ?_;refine ai (ai (aN ?_));refine av<|au<|aF rfl<|aF rfl<|bm rfl<|bm rfl<|aq<|ak<|jb<|cw 8 rfl<|cw 88 rfl<|cw 4 rfl<|jd 4 rfl<|bk<|aK<|aK<|aK ?_;cases so h;exact eg (ts:=[mf out1,gY ok]) (rvs:=[.tmp 4,.tmp 5]) J J ⟨aX J,aX J,aR⟩ pm J J
   ·obtain⟨hx1,h⟩:=h
    refine aC<|au<|zo J (fG J J)<|aq<|ah<|bz (ht J) (du hx1)<|dR<|ah<|ay<|au<|zo J (lq z6 wu J J J (cW hx1))<|zo J (bB wu J J)<|bc (r:=gm) (x:=(⟨(0:Int),Br⟩:hY)) wu (fun _=>Hd _) J fun b1=>ax wu J an J (ht J) (ht J)<|aZ 12 J<|aq<|au<|zo J (bB wu J J) ?_;refine aF J<|bv h fun r1 q_r1 h=>zo J (aA aaa (Ur _ _ q_r1) ⟨(ht J),(ht J),aR⟩)<|aF J<|zo J (hZ J J)<|zo J (hZ J J)<|bm J<|bm J<|aq<|aw<|aF J<|aF J<|zo J (aV (r:=bY) (ys:=[r1.1]) (xs:=[.tmp 80]) g9 cv J J J J J ⟨(ht J),aR⟩)<|bv h fun out2 q_out2 h=>cT cv J J J J g9 J J (ht J) (ht J) q_out2 fun l2 c3=>aF J<|aF J<|cR J J (fun hg=>cD J)<|zo J (rE J J)<|bm J<|bm J<|aQ<|ap ?_;refine av<|aw<|zo rfl (mI (cQ hx1 hN1) rfl)<|aF rfl<|aQ ?_;exact bg (aT (ih1 (i1+1) out2 l2 c3 (ok&&r1.2) ⟨cP hx1,h⟩) (bt J))
  ·obtain⟨hx,h⟩:=h
   refine aC<|au<|zo J (fG J J)<|aq<|ah<|bz (ht J) (du hx)<|dR<|ah<|ay<|au<|zo J (lq g9 cv J J J (cW hx))<|zo J (bB cv J J)<|bm J<|aq<|aw<|aF J<|aF J<|aF J<|bv h fun e3 q_e3 h=>?_;refine zo J (lq g9 cv J J J q_e3)<|zo J (bB cv J J)<|zo J (aV (r:=bY) (ys:=[e3]) (xs:=[.tmp 62]) g9 cv J J J J J ⟨(ht J),aR⟩)<|bv h fun out3 q_out3 h=>cT cv J J J J g9 J J (ht J) (ht J) q_out3 fun l3 c4=>bm J<|aQ<|ap<|av<|aw<|zo rfl (mI (cQ hx hN) rfl)<|aF rfl<|aQ ?_;exact bg (aT (ih (i+1) out3 l3 c4 ⟨cP hx,h⟩) (bt J))

theorem X2(b:Nat)(ix:OI)(c:aE)(n:am){R:(List Int)×Bool}(h:fD c n=some R):c9 aO 206 [tV (aP b 0),tD aL n] (dE b c ix) (fun _:OI=>tT [mf R.1,gY R.2]) (fun _=>(dE b c ix)):=by
 refine c9.of Tryz.func206 J J J fun w0 S0=>?_;refine(show CG _ _ _ [bx (rH bj [(1,aS (ix.h 0).1 (ix.h 0).2 c.kinds.length),(2,aS (ix.h 1).1 (ix.h 1).2 c.first.length)]) 115 b c,d5 nj 39 (ix.h 0).1 (ix.h 0).2 c.kinds,d5 bY 3 (ix.h 1).1 (ix.h 1).2 c.first] _ from ?_);refine au<|zo J (jw J)<|zo J (aJ (show aI _ _ _ wO from jA))<|zo J (jE)<|aq<|au<|zo J (cY s4 oT J J)<|zo J (bB CS J J)<|zo J (iw Bn J)<|zo J (hT (ht J) hI)<|aF J<|cR J J (fun hg=>cY s4 oT J J)<|cR J J (fun hg=>bM CS J J (bD J hg))<|cR J J (fun hg=>dW Bn (bD J hg))<|cR J J (fun hg=>lL (bD J hg) hI)<|zo J (rE J J)<|bm J<|aq<|au ?_;refine bN false bY 3<|zo J (aJ rY)<|aq<|ah<|au<|zo J (cY s4 oT J J)<|zo J (bB CS J J)<|zo J (iw Bn J)<|zo J (bJ hI)<|aq<|ay<|ba (k:=23) J fun hN=>bG ?_;refine aT (tp (Z:=fun ls i out l c1 ok=>(n.Items.drop i=ls)∧fx c n ls out ok=some R) (Of:=fun _ i out l c1 ok=>[fq bY 3 l c1 out,bx (rH bj [(1,aS (ix.h 0).1 (ix.h 0).2 c.kinds.length),(2,aS (ix.h 1).1 (ix.h 1).2 c.first.length)]) 115 b c,d5 nj 39 (ix.h 0).1 (ix.h 0).2 c.kinds,d5 bY 3 (ix.h 1).1 (ix.h 1).2 c.first]) (Gf:=fun _ i out l c1 ok=>[(0,tV (aP b 0)),(3,bK aL n),(6,gY ok),(7,qM l c1 out),(23,bR (cB) n.Items),(24,kg n.Items),(25,bH (i:Int))]) (fun i out l c1 ok h=>?_) (fun e tl ih i out l c1 ok h=>?_) n.Items 0 uI none 0 ((decide ((1:Int)≤(n.Items.length:Int)))&&(decide ((n.Items.length:Int)≤(16:Int)))) ⟨J,h⟩) (bt J)
 ·obtain⟨hx,h⟩:=h
  refine aC<|au<|zo J (fG J J)<|aq<|ah<|bA (ht J) (dC hx)<|bu ?_;refine ai (ai (aN ?_));refine av<|au<|aF rfl<|aF rfl<|bm rfl<|bm rfl<|aq<|ak<|jb<|cw 7 rfl<|cw 52 rfl<|cw 4 rfl<|jd 4 rfl<|bk<|aK<|aK<|aK ?_;cases so h;exact eg (ts:=[mf out,gY ok]) (rvs:=[.tmp 4,.tmp 5]) J J ⟨aX J,aX J,aR⟩ pm J J
 ·obtain⟨hx,h⟩:=h
  refine aC<|au<|zo J (fG J J)<|aq<|ah<|bz (ht J) (du hx)<|dR<|ah<|ay<|au<|zo J (lq Bn mJ J J J (cW hx))<|zo J (bB mJ J J)<|bc (r:=cB) (x:=Br) mJ (fun _=>tB _) J fun b1=>ax mJ J an J (ht J) (ht J)<|aZ 9 J<|aq<|ah<|bv h fun e1 q_e1 h=>bv h fun r q_r h=>?_
  refine cJ (ts:=[_,_,_,_,_,_,_,_,_,_,_,_,_,_,_]) mixed J J
   ⟨ep 9 J J J (bB mJ J J),
   ⟨ep 0 J J J (cD J),
   ⟨bT 31 1 J J J (dG (ht J)),
   ⟨bT 32 2 J J J (kG 1 nf J J J),
   ⟨bT 33 3 J J J (di sD J (.tail _ (.head _)) (.tail _ (.tail _ (.head _))) (ht J)),
   ⟨ep 3 J J J (cY jR dX J J),
   ⟨bT 35 5 J J J (bB cv J J),
   ⟨dv 34 4 36 6 J J J J (bp vo eC J (k7 (ht J)) (ht J) q_e1),
   ⟨bT 37 7 J J J (bB eC J J),
   ⟨dv 30 0 38 8 J J J J (aA Sb (Id _ _ q_r) ⟨(ht J),(ht J),aR⟩),
   ⟨bT 39 9 J J J (cD J),
   ⟨bT 29 10 J J J (hZ J J),
   ⟨bT 29 10 J J J (hZ J J),
   ⟨bT 40 11 J J J (tA J),
   ⟨bT 41 12 J J J (tA J),
   aR⟩⟩⟩⟩⟩⟩⟩⟩⟩⟩⟩⟩⟩⟩⟩ ?_
  refine av<|aw<|aF rfl<|aF rfl<|zo rfl (aV (r:=bY) (ys:=[r.1]) (xs:=[.tmp 43]) g9 cv J J J J J ⟨(ht J),aR⟩)<|bv h fun out1 q_out1 h=>cT cv J J J J g9 J J (ht J) (ht J) q_out1 fun l1 c2=>aF J<|aF J<|cR J J (fun hg=>cD J)<|cR J J (fun hg=>dd (bD J hg) hI)<|zo J (rE J J)<|bm J<|bm J<|aQ<|ap<|av<|aw<|zo rfl (mI (cQ hx hN) rfl)<|aF rfl<|aQ ?_;exact bg (aT (ih (i+1) out1 l1 c2 (ok&&(r.2==(0:Int))) ⟨cP hx,h⟩) (bt J))

theorem X1(b:Nat)(ix:OI)(c:aE)(n:am){R:(List Int)×Bool}(h:fc c n=some R):c9 aO 207 [tV (aP b 0),tD aL n] (dE b c ix) (fun _:OI=>tT [mf R.1,gY R.2]) (fun _=>(dE b c ix)):=by
 refine c9.of Tryz.func207 J J J fun w0 S0=>?_;refine(show CG _ _ _ [bx (rH bj [(1,aS (ix.h 0).1 (ix.h 0).2 c.kinds.length),(2,aS (ix.h 1).1 (ix.h 1).2 c.first.length)]) 115 b c,d5 nj 39 (ix.h 0).1 (ix.h 0).2 c.kinds,d5 bY 3 (ix.h 1).1 (ix.h 1).2 c.first] _ from ?_);refine au<|zo J (jw J)<|zo J (aJ (show aI _ _ _ wO from jA))<|zo J (jE)<|aq<|ah<|bv h fun e q_e h=>?_
 refine cJ (ts:=[_,_,_,_,_,_,_,_,_,_]) mixed J J
  ⟨ep 0 J J J (cD J),
  ⟨bT 6 0 J J J (dG (ht J)),
  ⟨bT 7 1 J J J (kG 1 nf J J J),
  ⟨bT 8 2 J J J (di sD J (.head _) (.tail _ (.head _)) (ht J)),
  ⟨ep 3 J J J (cY jR dX J J),
  ⟨bT 10 4 J J J (bB cv J J),
  ⟨dv 9 3 11 5 J J J J (bp vo eC J (k7 (ht J)) (ht J) q_e),
  ⟨bT 12 6 J J J (bB eC J J),
  ⟨bT 13 7 J J J (tA J),
  ⟨OX J J (jE),
  aR⟩⟩⟩⟩⟩⟩⟩⟩⟩⟩ ?_
 refine av<|ak<|aK<|aK<|aK ?_;cases so h;exact eg (ts:=[mf e,gY true]) (rvs:=[.tmp 4,.tmp 5]) J J ⟨aX J,aX J,aR⟩ pm J J

theorem X0(b:Nat)(ix:OI)(c:aE)(n:am){R:(List Int)×Bool}(h:gw c n=some R):c9 aO 208 [tV (aP b 0),tD aL n] (dE b c ix) (fun _:OI=>tT [mf R.1,gY R.2]) (fun _=>(dE b c ix)):=by
 refine c9.of Tryz.func208 J J J fun w0 S0=>?_;refine(show CG _ _ _ [bx (rH bj [(1,aS (ix.h 0).1 (ix.h 0).2 c.kinds.length),(2,aS (ix.h 1).1 (ix.h 1).2 c.first.length)]) 115 b c,d5 nj 39 (ix.h 0).1 (ix.h 0).2 c.kinds,d5 bY 3 (ix.h 1).1 (ix.h 1).2 c.first] _ from ?_);refine au<|zo J (jw J)<|zo J (aJ (show aI _ _ _ wO from jA))<|zo J (jE)<|aq<|ah<|bv h fun e q_e h=>bv h fun e1 q_e1 h=>?_
 refine cJ (ts:=[_,_,_,_,_,_,_,_,_,_,_,_,_,_,_,_,_,_]) mixed J J
  ⟨ep 0 J J J (cD J),
  ⟨bT 12 0 J J J (dG (ht J)),
  ⟨bT 13 1 J J J (kG 1 nf J J J),
  ⟨bT 14 2 J J J (di sD J (.head _) (.tail _ (.head _)) (ht J)),
  ⟨ep 3 J J J (cY jR dX J J),
  ⟨bT 16 4 J J J (bB cv J J),
  ⟨dv 15 3 17 5 J J J J (bp vo eC J (k7 (ht J)) (ht J) q_e),
  ⟨bT 18 6 J J J (bB eC J J),
  ⟨ep 0 J J J (cD J),
  ⟨bT 20 8 J J J (dG (ht J)),
  ⟨bT 21 9 J J J (kG 1 nf J J J),
  ⟨bT 22 10 J J J (di sD J (.head _) (.tail _ (.head _)) (ht J)),
  ⟨ep 3 J J J (cY rp kp J J),
  ⟨bT 24 12 J J J (bB cv J J),
  ⟨dv 23 11 25 13 J J J J (bp vo eC J (k7 (ht J)) (ht J) q_e1),
  ⟨bT 26 14 J J J (bB eC J J),
  ⟨bT 19 7 J J J (tA J),
  ⟨bT 27 15 J J J (tA J),
  aR⟩⟩⟩⟩⟩⟩⟩⟩⟩⟩⟩⟩⟩⟩⟩⟩⟩⟩ ?_
 refine av<|ah<|au<|aF rfl<|zo rfl (iw g9 rfl)<|aF rfl<|zo rfl (iw g9 rfl)<|zo rfl (eZ (ht rfl) (ht rfl))<|aq<|cU h rfl (fun h=>?_) (fun h=>?_)
 ·refine au<|zo J (aJ (show aI _ _ _ wO from jA))<|zo J (jE)<|aq<|ak<|ae<|aK<|aK<|aK ?_;cases so h;exact eg (ts:=[mf ([]),gY false]) (rvs:=[.tmp 4,.tmp 5]) J J ⟨aX J,aX J,aR⟩ pm J J
 ·refine dR<|au<|aF J<|bv h fun r q_r h=>iv R8 (Ia _ q_r) ⟨(ht J),aR⟩ J fun l c1=>bm J<|aq<|au<|zo J (jE)<|aq<|ah<|au<|aF J<|zo J (iw g9 J)<|zo J (bJ hI)<|aq<|ay ?_;refine ba (k:=35) J fun hN=>bG ?_;refine aT (vh (Z:=fun ls i out ok=>(e1.drop i=ls)∧dH ls i out ok=some R) (Of:=fun _ i out ok=>[fq bY 3 l c1 out,bx (rH bj [(1,aS (ix.h 0).1 (ix.h 0).2 c.kinds.length),(2,aS (ix.h 1).1 (ix.h 1).2 c.first.length)]) 115 b c,d5 nj 39 (ix.h 0).1 (ix.h 0).2 c.kinds,d5 bY 3 (ix.h 1).1 (ix.h 1).2 c.first]) (Gf:=fun _ i out ok=>[(8,qM l c1 out),(9,gY ok),(35,mf e1),(36,kg e1),(37,bH (i:Int))]) (fun i out ok h=>?_) (fun e2 tl ih i out ok h=>?_) e1 0 r true ⟨J,h⟩) (bt J)
  ·obtain⟨hx,h⟩:=h
   refine aC<|au<|zo J (fG J J)<|aq<|ah<|bA (ht J) (dC hx)<|bu ?_;refine ai (ai (aN ?_));refine av<|au<|aF rfl<|aF rfl<|bm rfl<|bm rfl<|aq<|ak<|jb<|cw 8 rfl<|cw 65 rfl<|cw 4 rfl<|jd 4 rfl<|bk<|aK<|aK<|aK ?_;cases so h;exact eg (ts:=[mf out,gY ok]) (rvs:=[.tmp 4,.tmp 5]) J J ⟨aX J,aX J,aR⟩ pm J J
  ·obtain⟨hx,h⟩:=h
   refine aC<|au<|zo J (fG J J)<|aq<|ah<|bz (ht J) (du hx)<|dR<|ah<|ay<|au<|aF J<|zo J (lq g9 cv J J J (cW hx))<|zo J (bB cv J J)<|bm J<|bm J<|aq ?_;refine ke (Z:=fun out1=>ip (dH tl) i e2 ok out1=some R) (Of:=fun out1=>[fq bY 3 l c1 out1,bx (rH bj [(1,aS (ix.h 0).1 (ix.h 0).2 c.kinds.length),(2,aS (ix.h 1).1 (ix.h 1).2 c.first.length)]) 115 b c,d5 nj 39 (ix.h 0).1 (ix.h 0).2 c.kinds,d5 bY 3 (ix.h 1).1 (ix.h 1).2 c.first]) (Gf:=fun out1=>[(8,qM l c1 out1),(9,gY ok),(10,bH (i:Int)),(11,bH e2),(35,mf e1),(36,kg e1),(37,bH (i:Int))]) (fun out1 h=>?_) (fun K=>?_)
   ·skip
    refine aw<|aF J<|aF J<|bv h fun t q_t h=>cR J J (fun hg=>cD J)<|cR J J (fun hg=>cD J) ?_
    obtain⟨e3,h1t,h0t⟩:=og q_t
    have q_e3g:=fun hb=>(h1t hb).1
    refine cR J J (fun hg=>ca g9 cv (.head _) (bD J hg) (bD J hg) (q_e3g hg))<|cR J J (fun hg=>fM (r:=bY) (i:=(i:Int)) (foff:=0) cv J J bQ J (.head _) (q_e3g hg) (bD J hg))<|cR J J (fun hg=>cD J)<|cR J J (fun hg=>dd (bD J hg) (bD J hg))<|cR J J (fun hg=>bJ (bD J hg))<|pS J J J J (fun hg=>cD J)<|pS J J J J (fun hg=>dd (bD J hg) hI)<|cR J J (fun hg=>uW (bD J hg) (fun hb=>(bD J (B3 hg (yA hb)))))<|zo J (dP (ht J) (fun hb=>(bD J hb)) (fun hb=>(h1t hb).2) h0t)<|bm J<|aQ<|ap<|av<|aw<|zo rfl (mI (cQ hx hN) rfl)<|aF rfl<|aQ ?_;exact bg (aT (ih (i+1) out1 t ⟨cP hx,h⟩) (bt J))
   ·skip
    refine au<|aF J<|aF J<|bv h fun e4 q_e4 h=>zo J (ca g9 cv (.head _) (ht J) (ht J) q_e4)<|zo J (fM (r:=bY) (i:=(i:Int)) (foff:=0) cv J J bQ J (.head _) q_e4 (ht J))<|zo J (lU J)<|aq<|cU h J (fun h=>?_) (fun h=>?_)
    ·refine aw<|aF J<|aF J<|aF J<|zo J (ca g9 cv (.head _) (ht J) (ht J) q_e4)<|bv h fun st q_st h=>pf cv J an J q_e4 (so q_st) (ht J) (ht J)<|fy (jx (so q_st)) 8 J<|fy (jx (so q_st)) 42 J<|fy (jx (so q_st)) 47 J<|aQ ?_;exact cM (K st h) (bt J)
    ·refine bw ?_;exact cM (K out h) (bt J)

theorem UJ(s:(List dn))(f:(dn→Option Bool)){R:Int}(h:ii s f=some R):aU aO 229 [bR (d3) s,(dK aO OW kN (fun(x:dn)=>f x))] (bH R):=by
 refine aU.of Tryz.func229 J J J fun w0 S0=>au<|zo J (cq)<|aq<|ah<|au<|aF J<|zo J (iw uC J)<|zo J (bJ hI)<|aq<|ay<|ba (k:=6) J fun hN=>bG ?_;refine aT (eH (Z:=fun ls i=>(s.drop i=ls)∧dM f ls i=some R) (Of:=fun _ i=>[]) (Gf:=fun _ i=>[(0,bR (d3) s),(1,(dK aO OW kN (fun(x:dn)=>f x))),(7,kg s),(8,bH (i:Int))]) (fun i h=>?_) (fun e tl ih i h=>?_) s 0 ⟨J,h⟩) (bt J)
 ·obtain⟨hx,h⟩:=h
  refine aC<|au<|zo J (fG J J)<|aq<|ah<|bA (ht J) (dC hx)<|bu ?_;refine ai (ai (aN ?_));refine av<|au<|zo rfl (cq)<|aq<|ak ?_;cases so h;exact aG J J
 ·obtain⟨hx,h⟩:=h
  refine aC<|au<|zo J (fG J J)<|aq<|ah<|bz (ht J) (du hx)<|dR<|ah<|ay<|au<|aF J<|bm J<|aq<|au<|aF J<|aF J<|aF J<|zo J (lq uC zg J J J (cW hx)) ?_;refine zo J (bB zg J J)<|bv h fun r q_r h=>zo J (fN (args:=OW) (res:=CQ) (f:=(fun(x:dn)=>f x)) (x:=((e):dn)) (ht J) q_r ⟨(ht J),aR⟩)<|aq<|cU h J (fun h=>?_) (fun h=>?_)
  ·refine au<|aF J<|bm J<|aq<|ak ?_;refine aD (ae (ae (aD (ae ?_))));cases so h;exact aG J J
  ·refine bw<|ap<|av<|aw<|zo rfl (mI (cQ hx hN) rfl)<|aF rfl<|aQ ?_;exact bg (aT (ih (i+1) ⟨cP hx,h⟩) (bt J))

theorem Oj(s:(List dn))(f:(dn→Option Bool)){R:Bool}(h:dN s f=some R):aU aO 149 [bR (d3) s,(dK aO OW kN (fun(x:dn)=>f x))] (gY R):=by
 refine aU.of Tryz.func149 J J J fun w0 S0=>au<|zo J (jE)<|aq<|au<|aF J<|aF J<|bv h fun r q_r h=>zo J (aA aau (UJ _ _ q_r) ⟨(ht J),(ht J),aR⟩)<|zo J (hT (ht J) hI)<|bm J<|aq<|ak ?_;cases so h;exact aG J J

end Go.Proofs.YtfhhakidodmdfaaGreatDoor

