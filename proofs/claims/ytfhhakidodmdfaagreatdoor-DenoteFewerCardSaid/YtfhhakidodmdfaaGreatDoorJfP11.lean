/- cU of this claim: P11. -/
import Derived.Test.YtfhhakidodmdfaaGreatDoorJfT
import Derived.Test.YtfhhakidodmdfaaGreatDoorJfP10
set_option linter.all false
namespace Go.Proofs.YtfhhakidodmdfaaGreatDoor
open Go
set_option maxRecDepth 100000

theorem aaL(b:Nat)(ix:OI)(r:cZ)(n:aj){R:(List (List ac))×Int}(h:jo r n=some R):dd aQ 55 [tV (aO b 0),tD aF n] (jC b r ix) (fun _:OI=>tT [bW (cR) R.1,bN R.2]) (fun _=>(jC b r ix)):=by
 refine dd.of Tryz.func55 J J J fun w0 S0=>?_;refine(show CG _ _ _ [bx (rH ee [(1,aT (ix.h 0).1 (ix.h 0).2 r.rows.length),(2,aT (ix.h 1).1 (ix.h 1).2 r.width.length)]) 96 b r,dW dU 32 (ix.h 0).1 (ix.h 0).2 r.rows,dW ca 3 (ix.h 1).1 (ix.h 1).2 r.width] _ from ?_);refine aw<|zo J (js J)<|zo J (aM (show aJ _ _ _ wq from kE))<|zo J (cy)<|av<|aw<|bP false cR 43<|zo J (aM ud)<|av<|ah<|ah<|bB h fun e q_e h=>?_
 refine da (ts:=[_,_,_,_,_,_,_,_,_,_]) mixed J J
  ⟨eH 0 J J J (de J),
  ⟨bZ 14 0 J J J (dF (ht J)),
  ⟨bZ 15 1 J J J (jY 1 rj J J J),
  ⟨bZ 16 2 J J J (dl vB J (.tail _ (.head _)) (.tail _ (.tail _ (.head _))) (ht J)),
  ⟨eH 3 J J J (c9 jH dS J J),
  ⟨bZ 18 4 J J J (bC cr J J),
  ⟨d3 17 3 19 5 J J J J (br o3 gU J (lb (ht J)) (ht J) q_e),
  ⟨bZ 20 6 J J J (bC gU J J),
  ⟨bZ 21 7 J J J (i7 i9 J),
  ⟨Qg J J (bE hI),
  aS⟩⟩⟩⟩⟩⟩⟩⟩⟩⟩ ?_
 refine ax<|ay<|ba (k:=21) J fun hN=>bL ?_;refine aR (j8 (Z:=fun ls i out l c=>(e.drop i=ls)∧fJ n ls out=some R) (Of:=fun _ i out l c=>[fE cR 43 l c out,bx (rH ee [(1,aT (ix.h 0).1 (ix.h 0).2 r.rows.length),(2,aT (ix.h 1).1 (ix.h 1).2 r.width.length)]) 96 b r,dW dU 32 (ix.h 0).1 (ix.h 0).2 r.rows,dW ca 3 (ix.h 1).1 (ix.h 1).2 r.width]) (Gf:=fun _ i out l c=>[(3,bM aF n),(6,sH l c out),(21,bW (cR) e),(22,jr e),(23,bN (i:Int))]) (fun i out l c h=>?_) (fun e1 tl ih i out l c h=>?_) e 0 Ig none 0 ⟨J,h⟩) (bu J)
 ·obtain⟨hx,h⟩:=h
  refine aA<|aw<|zo J (fF J J)<|av<|ah<|bz (ht J) (dm hx)<|bv ?_;refine ai (ai (aN ?_));refine ax<|aw<|aG rfl<|bq rfl<|zo rfl (cy)<|av<|am<|jQ<|cG 6 rfl<|cG 53 rfl<|cG 4 rfl<|jR 4 rfl<|bf<|aL<|aL<|aL ?_;cases so h;exact d8 (ts:=[bW (cR) out,bN 0]) (rvs:=[.tmp 4,.tmp 5]) J J ⟨aZ J,aZ J,aS⟩ p7 J J
 ·obtain⟨hx,h⟩:=h
  refine aA<|aw<|zo J (fF J J)<|av<|ah<|bw (ht J) (dg hx)<|dP<|ah<|ay<|aw<|zo J (mz i9 dy J J J (cT hx))<|zo J (bC dy J J)<|bq J<|av<|aw<|bP false af 46<|zo J (aM ud)<|aP ?_;refine ax<|ah<|aw<|zo rfl (c9 rk m5 rfl rfl)<|zo rfl (bC Be rfl rfl)<|zo rfl (i7 xH rfl)<|zo rfl (bE hI)<|av<|ay<|ba (k:=28) J fun hN1=>bL<|lj<|lj<|lj<|nV<|lj ?_;refine aR (j8 (Z:=fun ls1 i1 y l1 c1=>(n.Items.drop i1=ls1)∧gT (fJ n tl) e1 out ls1 y=some R) (Of:=fun _ i1 y l1 c1=>[fE cR 43 l c out,fE af 46 l1 c1 y,bx (rH ee [(1,aT (ix.h 0).1 (ix.h 0).2 r.rows.length),(2,aT (ix.h 1).1 (ix.h 1).2 r.width.length)]) 96 b r,dW dU 32 (ix.h 0).1 (ix.h 0).2 r.rows,dW ca 3 (ix.h 1).1 (ix.h 1).2 r.width]) (Gf:=fun _ i1 y l1 c1=>[(3,bM aF n),(6,sH l c out),(8,bW (af) e1),(9,sH l1 c1 y),(21,bW (cR) e),(22,jr e),(23,bN (i:Int)),(28,bW (co) n.Items),(29,jr n.Items),(30,bN (i1:Int))]) (fun i1 y l1 c1 h=>?_) (fun e2 tl1 ih1 i1 y l1 c1 h=>?_) n.Items 0 If none 0 ⟨J,h⟩) (bu J)
  ·obtain⟨hx1,h⟩:=h
   refine aA<|aw<|zo J (fF J J)<|av<|ah<|bz (ht J) (dm hx1)<|bv ?_;refine ai (ai (aN ?_));refine ax<|au<|aG rfl<|aG rfl<|bH<|kJ<|jM 9 rfl<|jM 49 rfl<|zo rfl (aU (r:=cR) (ys:=[y]) (xs:=[.tmp 49]) i9 dy J J J J J ⟨(lb (ht J)),aS⟩)<|bH<|bB h fun out1 q_out1 h=>db dy J J J J i9 J J (ht J) (ht J) q_out1 fun l2 c2=>bq J<|aP<|ap<|ax<|au<|zo rfl (lT (cx hx hN) rfl)<|aG rfl<|aP<|bD<|bf ?_;exact bg (aR (ih (i+1) out1 l2 c2 ⟨cw hx,h⟩) (bu J))
  ·obtain⟨hx1,h⟩:=h
   refine aA<|aw<|zo J (fF J J)<|av<|ah<|bw (ht J) (dg hx1)<|dP<|ah<|ay<|aw<|zo J (mz xH kQ J J J (cT hx1))<|zo J (bC kQ J J)<|aX (r:=co) (x:=Ap) kQ (fun _=>sL _) J fun b1=>aq kQ J an J (ht J) (ht J)<|aV 11 J<|av<|aw<|zo J (bC kQ J J) ?_;refine aG J<|bB h fun r1 q_r1 h=>zo J (aB Tz (Jt _ _ q_r1) ⟨(ht J),(ht J),aS⟩)<|aG J<|zo J (gE J J)<|zo J (gE J J)<|aX (r:=af) (x:=iy) aI (fun _=>bk _) J fun b2=>aq aI J an J (ht J) (ht J)<|aV 12 J<|bq J<|av<|ah<|aw<|aG J<|zo J (s8 J)<|av<|c0 h J (fun h=>?_) (fun h=>?_)
   ·refine aw<|aG J<|zo J (aM (show aJ _ _ _ wq from kE))<|bq J<|av<|am ?_;refine ae (aD (ae (ae (aD (ae (aD (ae (ae (aD (ae ?_))))))))));refine bf<|bf<|aL<|aL<|aL ?_;cases so h;exact d8 (ts:=[bW (cR) ([]),bN r1.2]) (rvs:=[.tmp 4,.tmp 5]) J J ⟨aZ J,aZ J,aS⟩ p7 J J
   ·refine dP<|au<|aG J<|zo J (bC aI J J)<|zo J (aU (r:=af) (ys:=[r1.1]) (xs:=[.tmp 44]) jf aI J J J J J ⟨(ht J),aS⟩)<|bH<|bB h fun y1 q_y1 h=>db aI J J J J jf J J (ht J) (ht J) q_y1 fun l3 c3=>bq J<|aP<|ap<|ax<|au<|zo rfl (lT (cx hx1 hN1) rfl)<|aG rfl<|aP<|fC<|fC<|fC<|cD<|fC ?_;exact bg (aR (ih1 (i1+1) y1 l3 c3 ⟨cw hx1,h⟩) (bu J))

theorem LK(l:(List (List ac))){R:(List (List ac))}(h:tM l=some R):gp aQ 109 [bW (cR) l] false cR 43 R:=by
 refine gp.of Tryz.func109 J J J fun w0 S0=>aw<|bP false cR 43<|zo J (aM ud)<|av<|aw<|aG J<|bB h fun r q_r h=>jd XR (LJ _ q_r) ⟨(ht J),aS⟩ J fun l1 c=>bq J<|av<|aw<|aG J<|bB h fun rQ q_srt h=>?_;refine Gb (n:=r.length) xa ?_ Tt ?_ q_srt ?_ ?_ ?_ ?_ ?_
 ·rfl
 ·rfl
 ·exact(ht J)
 ·rfl
 ·exact(show aJ _ _ _ ((dR aQ Gt xT (fun(x:(List ac)×(List ac))=>pQ x.1 x.2)))from(zJ WI fun x y h=>Je _ _ h))
 ·rfl
 intro hl
 refine pm hl 5 J<|pm hl 3 J<|pm hl 6 J<|av<|aw<|aG J<|bq J<|av<|am ?_;cases so h;exact gC J J
theorem Zo(l:Option Nat)(c:Nat)(s:(List (List ac)))(eq:((List ac)→(List ac)→Option Bool)){R:(List (List ac))}(h:fb s eq=some R):dd aQ 186 [sH l c s,(dR aQ Gt mA (fun(x:(List ac)×(List ac))=>eq x.1 x.2))] [fE cR 43 l c s] (fun i:OI=>sH (i.h 0).1 (i.h 0).2 R) (fun i=>[fE cR 43 (i.h 0).1 (i.h 0).2 R]):=by
 refine dd.of Tryz.func186 J J J fun w0 S0=>aw<|bP false cR 43<|zo J (aM ud)<|av<|ah<|aw<|aG J<|zo J (jO i9 (.tail _ (.head _)) (ht J))<|zo J (gx (ht J) hI)<|av<|c0 h J (fun h=>?_) (fun h=>?_)
 ·refine aw<|aG J<|bq J<|av<|am<|ae<|bf ?_;cases so h;exact nG J (oi l c) J J (fun _ _ h=>h)
 ·refine dP<|ah<|aw<|zo J (cy)<|av<|ay<|o0 (.tail _ (.head _)) fun hN=>bL<|rL ?_;refine aR (d7 (Z:=fun ls i=>(s.drop i=ls)∧cK s eq ls i=some R) (Of:=fun _ i=>[fE cR 43 l c s]) (Gf:=fun _ i=>[(0,sH l c s),(1,(dR aQ Gt mA (fun(x:(List ac)×(List ac))=>eq x.1 x.2))),(5,bN (i:Int))]) (fun i h=>?_) (fun e tl ih i h=>?_) (s.drop (1)) 1 ⟨J,h⟩) (bu J)
  ·obtain⟨hx,h⟩:=h
   refine aA<|ah<|aw<|aG J<|aG J<|zo J (jO i9 (.head _) (ht J))<|zo J (fF J J)<|av<|bz (ht J) (dm hx)<|bv ?_;refine ai (ai (aN ?_));refine ax<|aw<|aG rfl<|bq rfl<|av<|am ?_;cases so h;exact nG J (oi l c) J J (fun _ _ h=>h)
  ·obtain⟨hx,h⟩:=h
   refine aA<|ah<|aw<|aG J<|aG J<|zo J (jO i9 (.head _) (ht J))<|zo J (fF J J)<|av<|bw (ht J) (dg hx)<|dP<|ah<|ay<|ah<|bB h fun e1 q_e1 h=>bB h fun r q_r h=>?_
   refine da (ts:=[_,_,_,_,_,_,_,_,_,_,_]) mixed J J
    ⟨eH 1 J J J (de J),
    ⟨eH 0 J J J (de J),
    ⟨eH 5 J J J (de J),
    ⟨d3 19 1 20 2 J J J J (cM i9 dy (.head _) (ht J) (ht J) (cT hx)),
    ⟨bZ 21 3 J J J (gG (r:=cR) (i:=(i:Int)) (foff:=0) dy J J bU J (.head _) (cT hx) (ht J)),
    ⟨eH 0 J J J (de J),
    ⟨eH 5 J J J (de J),
    ⟨bZ 24 6 J J J (iq (ht J) hI),
    ⟨d3 23 5 25 7 J J J J (cM i9 dy (.head _) (ht J) (ht J) q_e1),
    ⟨bZ 26 8 J J J (gG (r:=cR) (i:=(IntKind.i64.wrap ((i:Int)-(1:Int)))) (foff:=0) dy J J bU J (.head _) q_e1 (ht J)),
    ⟨De 18 0 22 4 27 9 J J J J J (eU (args:=Uh) (res:=Ih) (f:=(fun(x:(List ac)×(List ac))=>eq x.1 x.2)) (x:=((e,e1):(List ac)×(List ac))) (ht J) q_r ⟨(ht J),(ht J),aS⟩),
    aS⟩⟩⟩⟩⟩⟩⟩⟩⟩⟩⟩ ?_
   refine ax<|c0 h rfl (fun h=>?_) (fun h=>?_)
   ·refine aw<|aG J<|aG J<|bB h fun y q_y h=>zo J (ox i9 dy J (.head _) (ht J) (ht J) q_y)<|nl (.head _) q_y fun hv=>bq J<|av<|ah<|aw<|zo J (cy)<|av<|ay<|bL ?_;refine aR (JI (Z:=fun k1 i1 s1 k=>(y.length-i1=k1)∧cg eq i y k1 i1 s1 k=some R) (Of:=fun _ i1 s1 k=>[fE cR 43 l c s1]) (Gf:=fun _ i1 s1 k=>[(0,sH l c s1),(1,(dR aQ Gt mA (fun(x:(List ac)×(List ac))=>eq x.1 x.2))),(5,bN k),(6,tV (o4 1 l c (i:Int).toNat y.length)),(7,bN (i1:Int))]) (fun i1 s1 k h=>?_) (fun k2 ih1 i1 s1 k h=>?_) (y.length-1) 1 s (i:Int) ⟨J,h⟩) (bu J)
    ·obtain⟨hx1,h⟩:=h
     refine aA<|ah<|aw<|aG J<|aG J<|zo J (Ea i9 hv.1 (ht J))<|zo J (fF J J)<|av<|bz (ht J) (aaq hx1)<|bv ?_;refine ai (ai (aN ?_));refine ax<|aw<|aG rfl<|aG rfl<|bB h fun y1 q_y1 h=>zo J (ox i9 dy J (.head _) (ht J) (ht J) q_y1)<|nl (.head _) q_y1 fun hv1=>bB h fun cl q_cl h=>HX dy J J i9 (fun _=>⟨none,0,J,dh _,lS _,.inl J⟩) J q_y1 (ht J) (so q_cl)<|iX (zm q_y1 (so q_cl)) 0 J<|iX (zm q_y1 (so q_cl)) 59 J<|av<|aw<|aG J<|aG J<|bB h fun y2 q_y2 h=>zo J (ly i9 dy J (.head _) (ht J) (ht J) q_y2)<|xc q_y2<|bq J<|av ?_;refine am ?_;refine aD (ae (ae (aD (ae ?_))));cases so h;exact nG J (oi l c) J J (fun _ _ h=>h)
    ·obtain⟨hx1,h⟩:=h
     refine aA<|ah<|aw<|aG J<|aG J<|zo J (Ea i9 hv.1 (ht J))<|zo J (fF J J)<|av<|bw (ht J) (aap hx1)<|dP<|ah<|ay<|ah<|bB h fun e3 q_e3 h=>bB h fun e4 q_e4 h=>bB h fun r1 q_r1 h=>?_
     refine da (ts:=[_,_,_,_,_,_,_,_,_,_,_,_]) mixed J J
      ⟨eH 1 J J J (de J),
      ⟨eH 6 J J J (de J),
      ⟨eH 7 J J J (de J),
      ⟨d3 39 1 40 2 J J J J (nK i9 dy J (.head _) (ta q_y) (ht J) (ht J) q_e3),
      ⟨bZ 41 3 J J J (gG (r:=cR) (i:=((i:Int)+(i1:Int))) (foff:=0) dy J J bU J (.head _) (rd q_e3).2.2 (ht J)),
      ⟨eH 6 J J J (de J),
      ⟨eH 7 J J J (de J),
      ⟨bZ 44 6 J J J (iq (ht J) hI),
      ⟨d3 43 5 45 7 J J J J (nK i9 dy J (.head _) (ta q_y) (ht J) (ht J) q_e4),
      ⟨bZ 46 8 J J J (gG (r:=cR) (i:=((i:Int)+(IntKind.i64.wrap ((i1:Int)-(1:Int))))) (foff:=0) dy J J bU J (.head _) (rd q_e4).2.2 (ht J)),
      ⟨De 38 0 42 4 47 9 J J J J J (eU (args:=Uh) (res:=Ih) (f:=(fun(x:(List ac)×(List ac))=>eq x.1 x.2)) (x:=((e3,e4):(List ac)×(List ac))) (ht J) q_r1 ⟨(ht J),(ht J),aS⟩),
      ⟨bZ 48 10 J J J (fj (ht J)),
      aS⟩⟩⟩⟩⟩⟩⟩⟩⟩⟩⟩⟩ ?_
     refine ax<|c0 h rfl (fun h=>?_) (fun h=>?_)
     ·refine aw<|aG J<|aG J<|aG J<|aG J<|bB h fun e5 q_e5 h=>zo J (nK i9 dy J (.head _) (ta q_y) (ht J) (ht J) q_e5)<|zo J (gG (r:=cR) (i:=((i:Int)+(i1:Int))) (foff:=0) dy J J bU J (.head _) (rd q_e5).2.2 (ht J))<|bB h fun e6 q_e6 h=>zo J (cM i9 dy (.head _) (ht J) (ht J) q_e6)<|bB h fun st q_st h=>tw dy J an J q_e6 (so q_st) (ht J) (ht J)<|iX (mP (so q_st)) 0 J<|iX (mP (so q_st)) 50 J<|av<|au<|aG J<|zo J (nY (ht J) hI)<|bq J<|aP<|ap<|ax ?_;refine au<|aG J<|zo J (Bw (UR hx1 (UT hv.2)) (ht J) hI)<|bq J<|aP ?_;exact bg (aR (ih1 (i1+1) st (IntKind.i64.wrap (k+(1:Int))) ⟨UQ hx1,h⟩) (bu J))
     ·refine bA<|ap<|ax<|au<|aG rfl<|zo rfl (Bw (UR hx1 (UT hv.2)) (ht rfl) hI)<|bq rfl<|aP ?_;exact bg (aR (ih1 (i1+1) s1 k ⟨UQ hx1,h⟩) (bu J))
   ·refine bA<|ap<|ax<|au<|aG rfl<|zo rfl (lT (cx hx hN) rfl)<|bq rfl<|aP ?_;exact bg (aR (ih (i+1) ⟨cw hx,h⟩) (bu J))

theorem Ww(l:(List (List ac))){R:(List (List ac))×Int}(h:sT l=some R):aW aQ 108 [bW (cR) l] (tT [bW (cR) R.1,bN R.2]):=by
 refine aW.of Tryz.func108 J J J fun w0 S0=>aw<|zo J (aM (show aJ _ _ _ wq from kE))<|zo J (cy)<|av<|ah<|aw<|aG J<|zo J (aU (r:=dU) (ys:=[l]) (xs:=[.tmp 5]) o3 gU J J J J J ⟨(ht J),aS⟩)<|bB h fun r q_r h=>zo J (aB ZC (NU _ q_r) ⟨(ht J),aS⟩)<|bq J<|av<|aw<|aG J<|zo J (s8 J)<|av<|c0 h J (fun h=>?_) (fun h=>?_)
 ·refine aw<|aG J<|zo J (aM (show aJ _ _ _ wq from kE))<|bq J<|av<|am<|ae ?_;cases so h;exact cP J J J
 ·refine dP<|aw<|aG J<|bB h fun r1 q_r1 h=>jd XV (LK _ q_r1) ⟨(ht J),aS⟩ J fun l1 c=>bB h fun r2 q_r2 h=>B7 [fE cR 43 l1 c r1] _ J ab9 (Zo l1 c _ _ q_r2) ⟨(ht J),(zJ aa0 fun x y h=>SM _ _ h),aS⟩ J fun i=>?_;refine(show RG _ _ _ _ [fE cR 43 (i.h 0).1 (i.h 0).2 r2] ((13,sH (i.h 0).1 (i.h 0).2 r2)::_)from ?_);refine bq J<|zo J (cy)<|av<|am<|jQ<|cG 2 J<|cG 13 J<|jR 2 J<|bf ?_;cases so h;exact cP J J J

theorem aaK(b:Nat)(ix:OI)(r:cZ)(n:aj){R:(List (List ac))×Int}(h:iU r n=some R):dd aQ 56 [tV (aO b 0),tD aF n] (jC b r ix) (fun _:OI=>tT [bW (cR) R.1,bN R.2]) (fun _=>(jC b r ix)):=by
 refine dd.of Tryz.func56 J J J fun w0 S0=>?_;refine(show CG _ _ _ [bx (rH ee [(1,aT (ix.h 0).1 (ix.h 0).2 r.rows.length),(2,aT (ix.h 1).1 (ix.h 1).2 r.width.length)]) 96 b r,dW dU 32 (ix.h 0).1 (ix.h 0).2 r.rows,dW ca 3 (ix.h 1).1 (ix.h 1).2 r.width] _ from ?_);refine aw<|zo J (js J)<|zo J (aM (show aJ _ _ _ wq from kE))<|zo J (cy)<|av<|ah<|bB h fun e q_e h=>bB h fun r1 q_r1 h=>?_
 refine da (ts:=[_,_,_,_,_,_,_,_,_,_,_,_,_]) mixed J J
  ⟨eH 0 J J J (de J),
  ⟨bZ 6 0 J J J (dF (ht J)),
  ⟨bZ 7 1 J J J (jY 1 rj J J J),
  ⟨bZ 8 2 J J J (dl vB J (.head _) (.tail _ (.head _)) (ht J)),
  ⟨eH 3 J J J (c9 jH dS J J),
  ⟨bZ 10 4 J J J (bC cr J J),
  ⟨d3 9 3 11 5 J J J J (br o3 gU J (lb (ht J)) (ht J) q_e),
  ⟨bZ 12 6 J J J (bC gU J J),
  ⟨bZ 13 7 J J J (aB acF (Ww _ q_r1) ⟨(ht J),aS⟩),
  ⟨bZ 14 8 J J J (gE J J),
  ⟨bZ 14 8 J J J (gE J J),
  ⟨bZ 15 9 J J J (vx J),
  ⟨bZ 16 10 J J J (vx J),
  aS⟩⟩⟩⟩⟩⟩⟩⟩⟩⟩⟩⟩⟩ ?_
 refine ax<|am<|aL<|aL<|aL ?_;cases so h;exact d8 (ts:=[bW (cR) r1.1,bN r1.2]) (rvs:=[.tmp 4,.tmp 5]) J J ⟨aZ J,aZ J,aS⟩ p7 J J

theorem S4(n:Int){R:(List (List ac))}(h:io n=some R):gp aQ 162 [tV (.slice none 0 0),bN n] false cR 43 R:=by
 refine gp.of Tryz.func162 J J J fun w0 S0=>aw<|bP false cR 43<|zo J (aM ud)<|av ?_;refine tz (Z:=jj n=some R) (Of:=[]) (Gf:=[(0,tV (.slice none 0 0)),(1,bN n)]) (fun h=>?_) (fun K=>?_)
 ·skip
  refine zw (Z:=fun s l c=>ji s=some R) (Of:=fun s l c=>[fE cR 43 l c s]) (Gf:=fun s l c=>[(0,sH l c s)]) (fun s l c h=>?_) (fun K1=>?_)
  ·skip
   refine aw<|aG J<|bq J<|av<|am ?_;cases so h;exact gC J J
  ·skip
   refine aw<|aG J<|aG J<|zo J (th i9 (ht J))<|aG J<|zo J (tg i9 (ht J))<|zo J (iq (ht J) (ht J))<|zo J (iq (ht J) (ht J))<|bq J<|av<|aw<|aG J<|zo J (fU (ht J) hI)<|av<|c0 h J (fun h=>?_) (fun h=>?_)
   ·refine au<|aG J<|aG J<|zo J (th i9 (ht J))<|zo J (yo i9 dy (ht J) (ht J))<|aG J<|bB h fun u q_u h=>bB h fun mk q_mk h=>AP (yE (r:=cR) (x:=[]) dy J J J J i9 lk (fun _=>⟨none,0,J,dh _,lS _,.inl J⟩) (ht J) (ht J) (FK q_u) q_mk) J fun i=>aG J<|zo J (tg i9 (ht J))<|bB h fun y q_y h=>zo J (ly i9 dy J (.head _) (ht J) (ht J) q_y)<|xc q_y<|bq J<|aP ?_;exact cF (K1 y (i.h 0).1 (i.h 0).2 h) (bu J)
   ·refine bA<|Gr false cR 43 ?_;exact cF (K1 Ig none 0 h) (bu J)
 ·skip
  refine aw<|aG J<|zo J (gx (ht J) hI)<|av<|c0 h J (fun h=>?_) (fun h=>?_)
  ·refine au ?_;exact(nn h).elim
  ·refine bA<|bf ?_;exact cF (K h) (bu J)
theorem Vc(slices:(List (List (List ac)))){R:(List (List ac))}(h:eQ slices=some R):gp aQ 98 [bW (dU) slices] false cR 43 R:=by
 refine gp.of Tryz.func98 J J J fun w0 S0=>aw<|bP false cR 43<|zo J (aM ud)<|av<|aw<|zo J (cy)<|av<|ah<|aw<|aG J<|zo J (i7 o3 J)<|zo J (bE hI)<|av<|ay<|ba (k:=9) J fun hN=>bL<|rL ?_;refine aR (nE (Z:=fun ls i size=>(slices.drop i=ls)∧fO slices ls size=some R) (Of:=fun _ i size=>[]) (Gf:=fun _ i size=>[(0,bW (dU) slices),(3,bN size),(9,bW (dU) slices),(10,jr slices),(11,bN (i:Int))]) (fun i size h=>?_) (fun e tl ih i size h=>?_) slices 0 (0:Int) ⟨J,h⟩) (bu J)
 ·obtain⟨hx,h⟩:=h
  refine aA<|aw<|zo J (fF J J)<|av<|ah<|bz (ht J) (dm hx)<|bv ?_;refine ai (ai (aN ?_));refine ax<|aw<|aG rfl<|bB h fun r q_r h=>jd acl (S4 _ q_r) ⟨hV,(ht J),aS⟩ J fun l c=>bq J<|av<|ah<|aw<|aG J<|zo J (i7 o3 J)<|zo J (bE hI)<|av<|ay<|ba (k:=25) J fun hN1=>bL ?_;refine aR (j8 (Z:=fun ls1 i1 newslice l1 c1=>(slices.drop i1=ls1)∧fN ls1 newslice=some R) (Of:=fun _ i1 newslice l1 c1=>[fE cR 43 l1 c1 newslice]) (Gf:=fun _ i1 newslice l1 c1=>[(6,sH l1 c1 newslice),(25,bW (dU) slices),(26,jr slices),(27,bN (i1:Int))]) (fun i1 newslice l1 c1 h=>?_) (fun e1 tl1 ih1 i1 newslice l1 c1 h=>?_) slices 0 r l c ⟨J,h⟩) (bu J)
  ·obtain⟨hx1,h⟩:=h
   refine aA<|aw<|zo J (fF J J)<|av<|ah<|bz (ht J) (dm hx1)<|bv ?_;refine ai (ai (aN ?_));refine ax<|aw<|aG rfl<|bq rfl<|av<|am ?_;cases so h;exact gC J J
  ·obtain⟨hx1,h⟩:=h
   refine aA<|aw<|zo J (fF J J)<|av<|ah<|bw (ht J) (dg hx1)<|dP<|ah<|ay<|aw<|zo J (mz o3 gU J J J (cT hx1))<|zo J (bC gU J J)<|bq J<|av<|au<|aG J<|aG J<|bB h fun newslice1 q_newslice1 h=>db dy J J J J i9 J J (ht J) (ht J) q_newslice1 fun l2 c2=>?_;refine bq J<|aP<|ap<|ax<|au<|zo rfl (lT (cx hx1 hN1) rfl)<|aG rfl<|aP ?_;exact bg (aR (ih1 (i1+1) newslice1 l2 c2 ⟨cw hx1,h⟩) (bu J))
 ·obtain⟨hx,h⟩:=h
  refine aA<|aw<|zo J (fF J J)<|av<|ah<|bw (ht J) (dg hx)<|dP<|ah<|ay<|aw<|zo J (mz o3 gU J J J (cT hx))<|zo J (bC gU J J)<|bq J<|av<|aw<|aG J<|aG J<|zo J (i7 i9 J) ?_;refine zo J (nY (ht J) (ht J))<|bq J<|av<|aw<|aG J<|zo J (gx (ht J) hI)<|av<|c0 h J (fun h=>?_) (fun h=>?_)
  ·refine au ?_;exact(nn h).elim
  ·refine bA<|ap<|ax<|au<|zo rfl (lT (cx hx hN) rfl)<|aG rfl<|aP ?_;exact bg (aR (ih (i+1) (IntKind.i64.wrap (size+(e.length:Int))) ⟨cw hx,h⟩) (bu J))
theorem YX(slices:(List (List (List ac)))){R:(List (List ac))}(h:eQ slices=some R):aW aQ 98 [bW (dU) slices] (bW (cR) R):=(Vc _ h).spec

theorem aaJ(b:Nat)(ix:OI)(r:cZ)(n:aj){R:(List (List ac))×Int}(h:kG r n=some R):dd aQ 57 [tV (aO b 0),tD aF n] (jC b r ix) (fun _:OI=>tT [bW (cR) R.1,bN R.2]) (fun _=>(jC b r ix)):=by
 refine dd.of Tryz.func57 J J J fun w0 S0=>?_;refine(show CG _ _ _ [bx (rH ee [(1,aT (ix.h 0).1 (ix.h 0).2 r.rows.length),(2,aT (ix.h 1).1 (ix.h 1).2 r.width.length)]) 96 b r,dW dU 32 (ix.h 0).1 (ix.h 0).2 r.rows,dW ca 3 (ix.h 1).1 (ix.h 1).2 r.width] _ from ?_);refine aw<|zo J (js J)<|zo J (aM (show aJ _ _ _ wq from kE))<|zo J (cy)<|av<|ah<|bB h fun e q_e h=>bB h fun e1 q_e1 h=>bB h fun r1 q_r1 h=>?_
 refine da (ts:=[_,_,_,_,_,_,_,_,_,_,_,_,_,_,_,_,_,_,_,_]) mixed J J
  ⟨eH 0 J J J (de J),
  ⟨bZ 6 0 J J J (dF (ht J)),
  ⟨bZ 7 1 J J J (jY 1 rj J J J),
  ⟨bZ 8 2 J J J (dl vB J (.head _) (.tail _ (.head _)) (ht J)),
  ⟨eH 3 J J J (c9 jH dS J J),
  ⟨bZ 10 4 J J J (bC cr J J),
  ⟨d3 9 3 11 5 J J J J (br o3 gU J (lb (ht J)) (ht J) q_e),
  ⟨bZ 12 6 J J J (bC gU J J),
  ⟨eH 0 J J J (de J),
  ⟨bZ 14 8 J J J (dF (ht J)),
  ⟨bZ 15 9 J J J (jY 1 rj J J J),
  ⟨bZ 16 10 J J J (dl vB J (.head _) (.tail _ (.head _)) (ht J)),
  ⟨eH 3 J J J (c9 qv kV J J),
  ⟨bZ 18 12 J J J (bC cr J J),
  ⟨d3 17 11 19 13 J J J J (br o3 gU J (lb (ht J)) (ht J) q_e1),
  ⟨bZ 20 14 J J J (bC gU J J),
  ⟨d3 13 7 21 15 J J J J (aU (r:=dU) (ys:=[e,e1]) (xs:=[.tmp 13,.tmp 21]) o3 gU J J J J J ⟨(ht J),(ht J),aS⟩),
  ⟨bZ 22 16 J J J (aB adc (YX _ q_r1) ⟨(ht J),aS⟩),
  ⟨bZ 23 17 J J J (vx J),
  ⟨Qg J J (cy),
  aS⟩⟩⟩⟩⟩⟩⟩⟩⟩⟩⟩⟩⟩⟩⟩⟩⟩⟩⟩⟩ ?_
 refine ax<|am<|aL<|aL<|aL ?_;cases so h;exact d8 (ts:=[bW (cR) r1,bN 0]) (rvs:=[.tmp 4,.tmp 5]) J J ⟨aZ J,aZ J,aS⟩ p7 J J

theorem Wj(order:(List fq))(a1:(List ac))(b:(List ac)){R:Int}(h:mH order a1 b=some R):aW aQ 154 [bW (af) a1,bW (af) b,bM (gi fX) order] (bN R):=by
 refine aW.of Tryz.func154 J J J fun w0 S0=>aw<|zo J (cy)<|av<|ah<|aw<|zo J (bC DU J J)<|zo J (i7 DL J)<|zo J (bE hI)<|av<|ay<|ba (k:=9) J fun hN=>bL ?_;refine aR (d7 (Z:=fun ls i=>(order.drop i=ls)∧jJ a1 b ls=some R) (Of:=fun _ i=>[]) (Gf:=fun _ i=>[(0,bW (af) a1),(1,bW (af) b),(9,bW (fX) order),(10,jr order),(11,bN (i:Int))]) (fun i h=>?_) (fun e tl ih i h=>?_) order 0 ⟨J,h⟩) (bu J)
 ·obtain⟨hx,h⟩:=h
  refine aA<|aw<|zo J (fF J J)<|av<|ah<|bz (ht J) (dm hx)<|bv ?_;refine ai (ai (aN ?_));refine ax<|aw<|aG rfl<|aG rfl<|bB h fun r q_r h=>zo J (aB ZH (NZ _ _ q_r) ⟨(ht J),(ht J),aS⟩)<|bq J<|av<|am ?_;cases so h;exact aH J J
 ·obtain⟨hx,h⟩:=h
  refine aA<|aw<|zo J (fF J J)<|av<|ah<|bw (ht J) (dg hx)<|dP<|ah<|ay<|aw<|zo J (mz DL Kl J J J (cT hx))<|zo J (bC Kl J J)<|aX (r:=fX) (x:=(⟨(0:Int),false⟩:fq)) Kl (fun _=>X7 _) J fun b1=>aq Kl J an J (ht J) (ht J)<|aV 7 J<|av<|ah<|bB h fun e1 q_e1 h=>bB h fun e2 q_e2 h=>?_
  obtain⟨r1,q_r1,h⟩:=bs h
  refine da (ts:=[_,_,_,_,_,_,_,_,_,_,_,_]) mixed J J
   ⟨eH 0 J J J (de J),
   ⟨eH 7 J J J (c9 CF vT J J),
   ⟨bZ 16 1 J J J (bC cr J J),
   ⟨d3 15 0 17 2 J J J J (mz jf aI J J J q_e1),
   ⟨bZ 18 3 J J J (bC aI J J),
   ⟨eH 1 J J J (de J),
   ⟨eH 7 J J J (c9 CF vT J J),
   ⟨bZ 21 6 J J J (bC cr J J),
   ⟨d3 20 5 22 7 J J J J (mz jf aI J J J q_e2),
   ⟨bZ 23 8 J J J (bC aI J J),
   ⟨d3 19 4 24 9 J J J J (aB Tw (Jr _ _ q_r1) ⟨(ht J),(ht J),aS⟩),
   ⟨bZ 25 10 J J J (vx J),
   aS⟩⟩⟩⟩⟩⟩⟩⟩⟩⟩⟩⟩ ?_
  refine ax ?_;refine kL (Z:=fun n=>oH (jJ a1 b tl) n=some R) (Of:=fun n=>[]) (Gf:=fun n=>[(0,bW (af) a1),(1,bW (af) b),(8,bN n),(9,bW (fX) order),(10,jr order),(11,bN (i:Int))]) (fun n h=>?_) (fun K=>?_)
  ·skip
   refine aw<|aG J<|zo J (s8 J)<|av<|c0 h J (fun h=>?_) (fun h=>?_)
   ·refine aw<|aG J<|bq J<|av<|am ?_;refine aD (ae (ae (aD (ae ?_))));cases so h;exact aH J J
   ·refine bA<|ap<|ax<|au<|zo rfl (lT (cx hx hN) rfl)<|aG rfl<|aP ?_;exact bg (aR (ih (i+1) ⟨cw hx,h⟩) (bu J))
  ·skip
   refine aw<|zo J (c9 YW SG J J)<|zo J (bC Km J J)<|av<|c0 h J (fun h=>?_) (fun h=>?_)
   ·refine au<|aG J<|zo J (IW (ht J))<|bq J<|aP ?_;exact cF (K (IntKind.i64.wrap (0-r1)) h) (bu J)
   ·refine bA ?_;exact cF (K r1 h) (bu J)

theorem SN(order:(List fq)){R:((List ac)→(List ac)→Option Int)}(h:vX order=some R):aW aQ 89 [bW (fX) order] ((dR aQ Gt xT (fun(x:(List ac)×(List ac))=>R x.1 x.2))):=by
 refine aW.of Tryz.func89 J J J fun w0 S0=>aw<|zo J (js J)<|zo J (aM hV)<|av<|aw<|zo J ((show bR _ _ _ _ ((dR aQ Gt xT (fun(x:(List ac)×(List ac))=>(mH order) x.1 x.2)))from ig (cts:=[bM (gi fX) order]) (caps:=[.tmp 1]) acr ⟨(ht J),aS⟩ (fun x y h=>Wj _ _ _ h)))<|bq J<|av<|am ?_;cases so h;exact aH J J

theorem Vd(rows:(List (List ac)))(order:(List fq))(limit:Int){R:(List (List ac))}(h:pi rows order limit=some R):gp aQ 86 [bW (cR) rows,bW (fX) order,bN limit] false cR 43 R:=by
 refine gp.of Tryz.func86 J J J fun w0 S0=>aw<|bP false cR 43<|zo J (aM ud)<|av<|aw<|bP false cR 43<|zo J (aM ud)<|av<|ah<|aw<|aG J<|zo J (i7 i9 J)<|zo J (bE hI)<|av<|ay<|ba (k:=10) J fun hN=>bL ?_;refine im<|rL ?_;refine aR (j8 (Z:=fun ls i out l c=>(rows.drop i=ls)∧kF order limit ls out=some R) (Of:=fun _ i out l c=>[fE cR 43 l c out]) (Gf:=fun _ i out l c=>[(1,bW (fX) order),(2,bN limit),(7,sH l c out),(10,bW (cR) rows),(11,jr rows),(12,bN (i:Int))]) (fun i out l c h=>?_) (fun e tl ih i out l c h=>?_) rows 0 Ig none 0 ⟨J,h⟩) (bu J)
 ·obtain⟨hx,h⟩:=h
  refine aA<|aw<|zo J (fF J J)<|av<|ah<|bz (ht J) (dm hx)<|bv ?_;refine ai (ai (aN ?_));refine ax<|aw<|aG rfl<|aG rfl<|bB h fun r q_r h=>zo J (aB aa1 (SN _ q_r) ⟨(ht J),aS⟩)<|bB h fun rQ q_srt h=>?_;refine Gb (n:=out.length) xa ?_ Tt ?_ q_srt ?_ ?_ ?_ ?_ ?_
  ·rfl
  ·rfl
  ·exact(ht J)
  ·rfl
  ·exact(ht J)
  ·rfl
  intro hl
  refine pm hl 7 J<|pm hl 22 J<|av ?_;refine zw (Z:=fun out1 l1 c1=>oX out1=some R) (Of:=fun out1 l1 c1=>[fE cR 43 l1 c1 out1]) (Gf:=fun out1 l1 c1=>[(7,sH l1 c1 out1)]) (fun out1 l1 c1 h=>?_) (fun K=>?_)
  ·skip
   refine aw<|aG J<|bq J<|av<|am ?_;cases so h;exact gC J J
  ·skip
   refine aw<|aG J<|zo J (ir (ht J) hI)<|aG J<|dN J J (fun hg=>de J)<|dN J J (fun hg=>de J)<|dN J J (fun hg=>jO i9 (.head _) (bG J hg))<|dN J J (fun hg=>gx (bG J hg) (bG J hg))<|zo J (vn J J)<|av<|c0 h J (fun h=>?_) (fun h=>?_)
   ·refine au<|aG J<|aG J<|bB h fun y q_y h=>zo J (ly i9 dy J (.head _) (ht J) (ht J) q_y)<|xc q_y<|bq J<|aP ?_;exact cF (K y l c h) (bu J)
   ·refine bA ?_;exact cF (K rQ l c h) (bu J)
 ·obtain⟨hx,h⟩:=h
  refine aA<|aw<|zo J (fF J J)<|av<|ah<|bw (ht J) (dg hx)<|dP<|ah<|ay<|aw<|zo J (mz i9 dy J J J (cT hx))<|zo J (bC dy J J)<|bq J<|av<|au<|aG J<|aG J<|bB h fun r1 q_r1 h=>jd TA (FU _ q_r1) ⟨(ht J),aS⟩ J fun l2 c2=>?_;refine kJ<|jM 18 J<|zo J (aU (r:=cR) (ys:=[r1]) (xs:=[.tmp 18]) i9 dy J J J J J ⟨(lb (ht J)),aS⟩)<|bH<|bB h fun out2 q_out2 h=>db dy J J J J i9 J J (ht J) (ht J) q_out2 fun l3 c3=>bq J<|aP<|ap<|ax<|au<|zo rfl (lT (cx hx hN) rfl)<|aG rfl<|aP<|bD<|bf ?_;exact bg (aR (ih (i+1) out2 l3 c3 ⟨cw hx,h⟩) (bu J))
theorem YZ(rows:(List (List ac)))(order:(List fq))(limit:Int){R:(List (List ac))}(h:pi rows order limit=some R):aW aQ 86 [bW (cR) rows,bW (fX) order,bN limit] (bW (cR) R):=(Vd _ _ _ h).spec

end Go.Proofs.YtfhhakidodmdfaaGreatDoor

