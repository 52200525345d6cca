/- db of this claim: P11. -/
import Derived.Test.YtfhhakidodmdfaaGreatDoorJbT
import Derived.Test.YtfhhakidodmdfaaGreatDoorJbP10
set_option linter.all false
namespace Go.Proofs.YtfhhakidodmdfaaGreatDoor
open Go
set_option maxRecDepth 100000

theorem ZP(b:Nat)(ix:OI)(r:cT)(n:am){R:(List (List ac))×Int}(h:i7 r n=some R):c0 aO 55 [tV (aP b 0),tD aI n] (jq b r ix) (fun _:OI=>tT [ca (dj) R.1,bM R.2]) (fun _=>(jq b r ix)):=by
 refine c0.of Tryz.func55 J J J fun w0 S0=>?_;refine(show CG _ _ _ [bx (rH ee [(1,aR (ix.h 0).1 (ix.h 0).2 r.rows.length),(2,aR (ix.h 1).1 (ix.h 1).2 r.width.length)]) 96 b r,dV dT 32 (ix.h 0).1 (ix.h 0).2 r.rows,dV bX 3 (ix.h 1).1 (ix.h 1).2 r.width] _ from ?_);refine au<|zo J (je J)<|zo J (aL (show aJ _ _ _ vA from j9))<|zo J (cw)<|aq<|au<|bQ false dj 43<|zo J (aL s9)<|aq<|ah<|ah<|bC h fun e q_e h=>?_
 refine cU (ts:=[_,_,_,_,_,_,_,_,_,_]) mixed J J
  ⟨fd 0 J J J (dA J),
  ⟨bW 14 0 J J J (dE (ht J)),
  ⟨bW 15 1 J J J (kP 1 qF J J J),
  ⟨bW 16 2 J J J (df uP J (.tail _ (.head _)) (.tail _ (.tail _ (.head _))) (ht J)),
  ⟨fd 3 J J J (cW jT dP J J),
  ⟨bW 18 4 J J J (bB cr J J),
  ⟨d8 17 3 19 5 J J J J (bq ot gF J (lk (ht J)) (ht J) q_e),
  ⟨bW 20 6 J J J (bB gF J J),
  ⟨bW 21 7 J J J (iM jW J),
  ⟨O4 J J (bD hI),
  aT⟩⟩⟩⟩⟩⟩⟩⟩⟩⟩ ?_
 refine aw<|ay<|ba (k:=21) J fun hN=>bI ?_;refine aS (kE (Z:=fun ls i out l c=>(e.drop i=ls)∧fC n ls out=some R) (Of:=fun _ i out l c=>[fx dj 43 l c out,bx (rH ee [(1,aR (ix.h 0).1 (ix.h 0).2 r.rows.length),(2,aR (ix.h 1).1 (ix.h 1).2 r.width.length)]) 96 b r,dV dT 32 (ix.h 0).1 (ix.h 0).2 r.rows,dV bX 3 (ix.h 1).1 (ix.h 1).2 r.width]) (Gf:=fun _ i out l c=>[(3,bO aI n),(6,rL l c out),(21,ca (dj) e),(22,jk e),(23,bM (i:Int))]) (fun i out l c h=>?_) (fun e1 tl ih i out l c h=>?_) e 0 Hr none 0 ⟨J,h⟩) (bv J)
 ·obtain⟨hx,h⟩:=h
  refine aC<|au<|zo J (fD J J)<|aq<|ah<|bz (ht J) (di hx)<|bu ?_;refine ai (ai (aN ?_));refine aw<|au<|aF rfl<|bp rfl<|zo rfl (cw)<|aq<|ak<|jA<|cB 6 rfl<|cB 53 rfl<|cB 4 rfl<|jB 4 rfl<|bm<|aK<|aK<|aK ?_;cases so h;exact d7 (ts:=[ca (dj) out,bM 0]) (rvs:=[.tmp 4,.tmp 5]) J J ⟨bc J,bc J,aT⟩ pE J J
 ·obtain⟨hx,h⟩:=h
  refine aC<|au<|zo J (fD J J)<|aq<|ah<|bw (ht J) (dg hx)<|dS<|ah<|ay<|au<|zo J (lX jW d3 J J J (cS hx))<|zo J (bB d3 J J)<|bp J<|aq<|au<|bQ false af 46<|zo J (aL s9)<|aQ ?_;refine aw<|ah<|au<|zo rfl (cW p7 lu rfl rfl)<|zo rfl (bB zl rfl rfl)<|zo rfl (iM vu rfl)<|zo rfl (bD hI)<|aq<|ay<|ba (k:=28) J fun hN1=>bI<|kU<|kU<|kU<|pz<|kU ?_;refine aS (kE (Z:=fun ls1 i1 y l1 c1=>(n.Items.drop i1=ls1)∧gE (fC n tl) e1 out ls1 y=some R) (Of:=fun _ i1 y l1 c1=>[fx dj 43 l c out,fx af 46 l1 c1 y,bx (rH ee [(1,aR (ix.h 0).1 (ix.h 0).2 r.rows.length),(2,aR (ix.h 1).1 (ix.h 1).2 r.width.length)]) 96 b r,dV dT 32 (ix.h 0).1 (ix.h 0).2 r.rows,dV bX 3 (ix.h 1).1 (ix.h 1).2 r.width]) (Gf:=fun _ i1 y l1 c1=>[(3,bO aI n),(6,rL l c out),(8,ca (af) e1),(9,rL l1 c1 y),(21,ca (dj) e),(22,jk e),(23,bM (i:Int)),(28,ca (bT) n.Items),(29,jk n.Items),(30,bM (i1:Int))]) (fun i1 y l1 c1 h=>?_) (fun e2 tl1 ih1 i1 y l1 c1 h=>?_) n.Items 0 Hq none 0 ⟨J,h⟩) (bv J)
  ·obtain⟨hx1,h⟩:=h
   refine aC<|au<|zo J (fD J J)<|aq<|ah<|bz (ht J) (di hx1)<|bu ?_;refine ai (ai (aN ?_));refine aw<|av<|aF rfl<|aF rfl<|bL<|kj<|jx 9 rfl<|jx 49 rfl<|zo rfl (aV (r:=dj) (ys:=[y]) (xs:=[.tmp 49]) jW d3 J J J J J ⟨(lk (ht J)),aT⟩)<|bL<|bC h fun out1 q_out1 h=>cV d3 J J J J jW J J (ht J) (ht J) q_out1 fun l2 c2=>bp J<|aQ<|ap<|aw<|av<|zo rfl (lY (cA hx hN) rfl)<|aF rfl<|aQ<|bF<|bm ?_;exact bf (aS (ih (i+1) out1 l2 c2 ⟨cz hx,h⟩) (bv J))
  ·obtain⟨hx1,h⟩:=h
   refine aC<|au<|zo J (fD J J)<|aq<|ah<|bw (ht J) (dg hx1)<|dS<|ah<|ay<|au<|zo J (lX vu jC J J J (cS hx1))<|zo J (bB jC J J)<|aZ (r:=bT) (x:=By) jC (fun _=>rP _) J fun b1=>ax jC J an J (ht J) (ht J)<|aW 11 J<|aq<|au<|zo J (bB jC J J) ?_;refine aF J<|bC h fun r1 q_r1 h=>zo J (aD Sv (IA _ _ q_r1) ⟨(ht J),(ht J),aT⟩)<|aF J<|zo J (hY J J)<|zo J (hY J J)<|aZ (r:=af) (x:=ie) aH (fun _=>bh _) J fun b2=>ax aH J an J (ht J) (ht J)<|aW 12 J<|bp J<|aq<|ah<|au<|aF J<|zo J (tJ J)<|aq<|c9 h J (fun h=>?_) (fun h=>?_)
   ·refine au<|aF J<|zo J (aL (show aJ _ _ _ vA from j9))<|bp J<|aq<|ak ?_;refine ae (aA (ae (ae (aA (ae (aA (ae (ae (aA (ae ?_))))))))));refine bm<|bm<|aK<|aK<|aK ?_;cases so h;exact d7 (ts:=[ca (dj) ([]),bM r1.2]) (rvs:=[.tmp 4,.tmp 5]) J J ⟨bc J,bc J,aT⟩ pE J J
   ·refine dS<|av<|aF J<|zo J (bB aH J J)<|zo J (aV (r:=af) (ys:=[r1.1]) (xs:=[.tmp 44]) iK aH J J J J J ⟨(ht J),aT⟩)<|bL<|bC h fun y1 q_y1 h=>cV aH J J J J iK J J (ht J) (ht J) q_y1 fun l3 c3=>bp J<|aQ<|ap<|aw<|av<|zo rfl (lY (cA hx1 hN1) rfl)<|aF rfl<|aQ<|fq<|fq<|fq<|cK<|fq ?_;exact bf (aS (ih1 (i1+1) y1 l3 c3 ⟨cz hx1,h⟩) (bv J))

theorem KE(l:(List (List ac))){R:(List (List ac))}(h:sO l=some R):f9 aO 109 [ca (dj) l] false dj 43 R:=by
 refine f9.of Tryz.func109 J J J fun w0 S0=>au<|bQ false dj 43<|zo J (aL s9)<|aq<|au<|aF J<|bC h fun r q_r h=>iR WF (KD _ q_r) ⟨(ht J),aT⟩ J fun l1 c=>bp J<|aq<|au<|aF J<|bC h fun uu q_srt h=>?_;refine Fl (n:=r.length) wd ?_ Sr ?_ q_srt ?_ ?_ ?_ ?_ ?_
 ·rfl
 ·rfl
 ·exact(ht J)
 ·rfl
 ·exact(show aJ _ _ _ ((dn aO FJ yy (fun(x:(List ac)×(List ac))=>pj x.1 x.2)))from(yF VI fun x y h=>Im _ _ h))
 ·rfl
 intro hl
 refine oL hl 5 J<|oL hl 3 J<|oL hl 6 J<|aq<|au<|aF J<|bp J<|aq<|ak ?_;cases so h;exact gm J J
theorem Yq(l:Option Nat)(c:Nat)(s:(List (List ac)))(eq:((List ac)→(List ac)→Option Bool)){R:(List (List ac))}(h:eW s eq=some R):c0 aO 186 [rL l c s,(dn aO FJ ko (fun(x:(List ac)×(List ac))=>eq x.1 x.2))] [fx dj 43 l c s] (fun i:OI=>rL (i.h 0).1 (i.h 0).2 R) (fun i=>[fx dj 43 (i.h 0).1 (i.h 0).2 R]):=by
 refine c0.of Tryz.func186 J J J fun w0 S0=>au<|bQ false dj 43<|zo J (aL s9)<|aq<|ah<|au<|aF J<|zo J (jy jW (.tail _ (.head _)) (ht J))<|zo J (gJ (ht J) hI)<|aq<|c9 h J (fun h=>?_) (fun h=>?_)
 ·refine au<|aF J<|bp J<|aq<|ak<|ae<|bm ?_;cases so h;exact m7 J (oi l c) J J (fun _ _ h=>h)
 ·refine dS<|ah<|au<|zo J (cw)<|aq<|ay<|oq (.tail _ (.head _)) fun hN=>bI<|qY ?_;refine aS (dQ (Z:=fun ls i=>(s.drop i=ls)∧cF s eq ls i=some R) (Of:=fun _ i=>[fx dj 43 l c s]) (Gf:=fun _ i=>[(0,rL l c s),(1,(dn aO FJ ko (fun(x:(List ac)×(List ac))=>eq x.1 x.2))),(5,bM (i:Int))]) (fun i h=>?_) (fun e tl ih i h=>?_) (s.drop (1)) 1 ⟨J,h⟩) (bv J)
  ·obtain⟨hx,h⟩:=h
   refine aC<|ah<|au<|aF J<|aF J<|zo J (jy jW (.head _) (ht J))<|zo J (fD J J)<|aq<|bz (ht J) (di hx)<|bu ?_;refine ai (ai (aN ?_));refine aw<|au<|aF rfl<|bp rfl<|aq<|ak ?_;cases so h;exact m7 J (oi l c) J J (fun _ _ h=>h)
  ·obtain⟨hx,h⟩:=h
   refine aC<|ah<|au<|aF J<|aF J<|zo J (jy jW (.head _) (ht J))<|zo J (fD J J)<|aq<|bw (ht J) (dg hx)<|dS<|ah<|ay<|ah<|bC h fun e1 q_e1 h=>bC h fun r q_r h=>?_
   refine cU (ts:=[_,_,_,_,_,_,_,_,_,_,_]) mixed J J
    ⟨fd 1 J J J (dA J),
    ⟨fd 0 J J J (dA J),
    ⟨fd 5 J J J (dA J),
    ⟨d8 19 1 20 2 J J J J (cH jW d3 (.head _) (ht J) (ht J) (cS hx)),
    ⟨bW 21 3 J J J (gn (r:=dj) (i:=(i:Int)) (foff:=0) d3 J J bS J (.head _) (cS hx) (ht J)),
    ⟨fd 0 J J J (dA J),
    ⟨fd 5 J J J (dA J),
    ⟨bW 24 6 J J J (jp (ht J) hI),
    ⟨d8 23 5 25 7 J J J J (cH jW d3 (.head _) (ht J) (ht J) q_e1),
    ⟨bW 26 8 J J J (gn (r:=dj) (i:=(IntKind.i64.wrap ((i:Int)-(1:Int)))) (foff:=0) d3 J J bS J (.head _) q_e1 (ht J)),
    ⟨Gn 18 0 22 4 27 9 J J J J J (fJ (args:=WZ) (res:=Bz) (f:=(fun(x:(List ac)×(List ac))=>eq x.1 x.2)) (x:=((e,e1):(List ac)×(List ac))) (ht J) q_r ⟨(ht J),(ht J),aT⟩),
    aT⟩⟩⟩⟩⟩⟩⟩⟩⟩⟩⟩ ?_
   refine aw<|c9 h rfl (fun h=>?_) (fun h=>?_)
   ·refine au<|aF J<|aF J<|bC h fun y q_y h=>zo J (nM jW d3 J (.head _) (ht J) (ht J) q_y)<|mQ (.head _) q_y fun hv=>bp J<|aq<|ah<|au<|zo J (cw)<|aq<|ay<|bI ?_;refine aS (IP (Z:=fun k1 i1 s1 k=>(y.length-i1=k1)∧ce eq i y k1 i1 s1 k=some R) (Of:=fun _ i1 s1 k=>[fx dj 43 l c s1]) (Gf:=fun _ i1 s1 k=>[(0,rL l c s1),(1,(dn aO FJ ko (fun(x:(List ac)×(List ac))=>eq x.1 x.2))),(5,bM k),(6,tV (ou 1 l c (i:Int).toNat y.length)),(7,bM (i1:Int))]) (fun i1 s1 k h=>?_) (fun k2 ih1 i1 s1 k h=>?_) (y.length-1) 1 s (i:Int) ⟨J,h⟩) (bv J)
    ·obtain⟨hx1,h⟩:=h
     refine aC<|ah<|au<|aF J<|aF J<|zo J (Dg jW hv.1 (ht J))<|zo J (fD J J)<|aq<|bz (ht J) (Zs hx1)<|bu ?_;refine ai (ai (aN ?_));refine aw<|au<|aF rfl<|aF rfl<|bC h fun y1 q_y1 h=>zo J (nM jW d3 J (.head _) (ht J) (ht J) q_y1)<|mQ (.head _) q_y1 fun hv1=>bC h fun cl q_cl h=>G8 d3 J J jW (fun _=>⟨none,0,J,dK _,lC _,.inl J⟩) J q_y1 (ht J) (so q_cl)<|iG (yg q_y1 (so q_cl)) 0 J<|iG (yg q_y1 (so q_cl)) 59 J<|aq<|au<|aF J<|aF J<|bC h fun y2 q_y2 h=>zo J (k7 jW d3 J (.head _) (ht J) (ht J) q_y2)<|we q_y2<|bp J<|aq ?_;refine ak ?_;refine aA (ae (ae (aA (ae ?_))));cases so h;exact m7 J (oi l c) J J (fun _ _ h=>h)
    ·obtain⟨hx1,h⟩:=h
     refine aC<|ah<|au<|aF J<|aF J<|zo J (Dg jW hv.1 (ht J))<|zo J (fD J J)<|aq<|bw (ht J) (Zr hx1)<|dS<|ah<|ay<|ah<|bC h fun e3 q_e3 h=>bC h fun e4 q_e4 h=>bC h fun r1 q_r1 h=>?_
     refine cU (ts:=[_,_,_,_,_,_,_,_,_,_,_,_]) mixed J J
      ⟨fd 1 J J J (dA J),
      ⟨fd 6 J J J (dA J),
      ⟨fd 7 J J J (dA J),
      ⟨d8 39 1 40 2 J J J J (nc jW d3 J (.head _) (sq q_y) (ht J) (ht J) q_e3),
      ⟨bW 41 3 J J J (gn (r:=dj) (i:=((i:Int)+(i1:Int))) (foff:=0) d3 J J bS J (.head _) (qB q_e3).2.2 (ht J)),
      ⟨fd 6 J J J (dA J),
      ⟨fd 7 J J J (dA J),
      ⟨bW 44 6 J J J (jp (ht J) hI),
      ⟨d8 43 5 45 7 J J J J (nc jW d3 J (.head _) (sq q_y) (ht J) (ht J) q_e4),
      ⟨bW 46 8 J J J (gn (r:=dj) (i:=((i:Int)+(IntKind.i64.wrap ((i1:Int)-(1:Int))))) (foff:=0) d3 J J bS J (.head _) (qB q_e4).2.2 (ht J)),
      ⟨Gn 38 0 42 4 47 9 J J J J J (fJ (args:=WZ) (res:=Bz) (f:=(fun(x:(List ac)×(List ac))=>eq x.1 x.2)) (x:=((e3,e4):(List ac)×(List ac))) (ht J) q_r1 ⟨(ht J),(ht J),aT⟩),
      ⟨bW 48 10 J J J (fS (ht J)),
      aT⟩⟩⟩⟩⟩⟩⟩⟩⟩⟩⟩⟩ ?_
     refine aw<|c9 h rfl (fun h=>?_) (fun h=>?_)
     ·refine au<|aF J<|aF J<|aF J<|aF J<|bC h fun e5 q_e5 h=>zo J (nc jW d3 J (.head _) (sq q_y) (ht J) (ht J) q_e5)<|zo J (gn (r:=dj) (i:=((i:Int)+(i1:Int))) (foff:=0) d3 J J bS J (.head _) (qB q_e5).2.2 (ht J))<|bC h fun e6 q_e6 h=>zo J (cH jW d3 (.head _) (ht J) (ht J) q_e6)<|bC h fun st q_st h=>sF d3 J an J q_e6 (so q_st) (ht J) (ht J)<|iG (mj (so q_st)) 0 J<|iG (mj (so q_st)) 50 J<|aq<|av<|aF J<|zo J (nO (ht J) hI)<|bp J<|aQ<|ap<|aw ?_;refine av<|aF J<|zo J (AH (TM hx1 (TO hv.2)) (ht J) hI)<|bp J<|aQ ?_;exact bf (aS (ih1 (i1+1) st (IntKind.i64.wrap (k+(1:Int))) ⟨TL hx1,h⟩) (bv J))
     ·refine bA<|ap<|aw<|av<|aF rfl<|zo rfl (AH (TM hx1 (TO hv.2)) (ht rfl) hI)<|bp rfl<|aQ ?_;exact bf (aS (ih1 (i1+1) s1 k ⟨TL hx1,h⟩) (bv J))
   ·refine bA<|ap<|aw<|av<|aF rfl<|zo rfl (lY (cA hx hN) rfl)<|bp rfl<|aQ ?_;exact bf (aS (ih (i+1) ⟨cz hx,h⟩) (bv J))

theorem Vx(l:(List (List ac))){R:(List (List ac))×Int}(h:rZ l=some R):aU aO 108 [ca (dj) l] (tT [ca (dj) R.1,bM R.2]):=by
 refine aU.of Tryz.func108 J J J fun w0 S0=>au<|zo J (aL (show aJ _ _ _ vA from j9))<|zo J (cw)<|aq<|ah<|au<|aF J<|zo J (aV (r:=dT) (ys:=[l]) (xs:=[.tmp 5]) ot gF J J J J J ⟨(ht J),aT⟩)<|bC h fun r q_r h=>zo J (aD YE (MB _ q_r) ⟨(ht J),aT⟩)<|bp J<|aq<|au<|aF J<|zo J (tJ J)<|aq<|c9 h J (fun h=>?_) (fun h=>?_)
 ·refine au<|aF J<|zo J (aL (show aJ _ _ _ vA from j9))<|bp J<|aq<|ak<|ae ?_;cases so h;exact cJ J J J
 ·refine dS<|au<|aF J<|bC h fun r1 q_r1 h=>iR WI (KE _ q_r1) ⟨(ht J),aT⟩ J fun l1 c=>bC h fun r2 q_r2 h=>Bm [fx dj 43 l1 c r1] _ J abf (Yq l1 c _ _ q_r2) ⟨(ht J),(yF Z3 fun x y h=>RI _ _ h),aT⟩ J fun i=>?_;refine(show RG _ _ _ _ [fx dj 43 (i.h 0).1 (i.h 0).2 r2] ((13,rL (i.h 0).1 (i.h 0).2 r2)::_)from ?_);refine bp J<|zo J (cw)<|aq<|ak<|jA<|cB 2 J<|cB 13 J<|jB 2 J<|bm ?_;cases so h;exact cJ J J J

theorem ZO(b:Nat)(ix:OI)(r:cT)(n:am){R:(List (List ac))×Int}(h:iE r n=some R):c0 aO 56 [tV (aP b 0),tD aI n] (jq b r ix) (fun _:OI=>tT [ca (dj) R.1,bM R.2]) (fun _=>(jq b r ix)):=by
 refine c0.of Tryz.func56 J J J fun w0 S0=>?_;refine(show CG _ _ _ [bx (rH ee [(1,aR (ix.h 0).1 (ix.h 0).2 r.rows.length),(2,aR (ix.h 1).1 (ix.h 1).2 r.width.length)]) 96 b r,dV dT 32 (ix.h 0).1 (ix.h 0).2 r.rows,dV bX 3 (ix.h 1).1 (ix.h 1).2 r.width] _ from ?_);refine au<|zo J (je J)<|zo J (aL (show aJ _ _ _ vA from j9))<|zo J (cw)<|aq<|ah<|bC h fun e q_e h=>bC h fun r1 q_r1 h=>?_
 refine cU (ts:=[_,_,_,_,_,_,_,_,_,_,_,_,_]) mixed J J
  ⟨fd 0 J J J (dA J),
  ⟨bW 6 0 J J J (dE (ht J)),
  ⟨bW 7 1 J J J (kP 1 qF J J J),
  ⟨bW 8 2 J J J (df uP J (.head _) (.tail _ (.head _)) (ht J)),
  ⟨fd 3 J J J (cW jT dP J J),
  ⟨bW 10 4 J J J (bB cr J J),
  ⟨d8 9 3 11 5 J J J J (bq ot gF J (lk (ht J)) (ht J) q_e),
  ⟨bW 12 6 J J J (bB gF J J),
  ⟨bW 13 7 J J J (aD abN (Vx _ q_r1) ⟨(ht J),aT⟩),
  ⟨bW 14 8 J J J (hY J J),
  ⟨bW 14 8 J J J (hY J J),
  ⟨bW 15 9 J J J (uM J),
  ⟨bW 16 10 J J J (uM J),
  aT⟩⟩⟩⟩⟩⟩⟩⟩⟩⟩⟩⟩⟩ ?_
 refine aw<|ak<|aK<|aK<|aK ?_;cases so h;exact d7 (ts:=[ca (dj) r1.1,bM r1.2]) (rvs:=[.tmp 4,.tmp 5]) J J ⟨bc J,bc J,aT⟩ pE J J

theorem RZ(n:Int){R:(List (List ac))}(h:hZ n=some R):f9 aO 162 [tV (.slice none 0 0),bM n] false dj 43 R:=by
 refine f9.of Tryz.func162 J J J fun w0 S0=>au<|bQ false dj 43<|zo J (aL s9)<|aq ?_;refine vo (Z:=iW n=some R) (Of:=[]) (Gf:=[(0,tV (.slice none 0 0)),(1,bM n)]) (fun h=>?_) (fun K=>?_)
 ·skip
  refine yo (Z:=fun s l c=>iU s=some R) (Of:=fun s l c=>[fx dj 43 l c s]) (Gf:=fun s l c=>[(0,rL l c s)]) (fun s l c h=>?_) (fun K1=>?_)
  ·skip
   refine au<|aF J<|bp J<|aq<|ak ?_;cases so h;exact gm J J
  ·skip
   refine au<|aF J<|aF J<|zo J (sx jW (ht J))<|aF J<|zo J (sw jW (ht J))<|zo J (jp (ht J) (ht J))<|zo J (jp (ht J) (ht J))<|bp J<|aq<|au<|aF J<|zo J (gu (ht J) hI)<|aq<|c9 h J (fun h=>?_) (fun h=>?_)
   ·refine av<|aF J<|aF J<|zo J (sx jW (ht J))<|zo J (xf jW d3 (ht J) (ht J))<|aF J<|bC h fun u q_u h=>bC h fun mk q_mk h=>zU (xr (r:=dj) (x:=[]) d3 J J J J jW kW (fun _=>⟨none,0,J,dK _,lC _,.inl J⟩) (ht J) (ht J) (ET q_u) q_mk) J fun i=>aF J<|zo J (sw jW (ht J))<|bC h fun y q_y h=>zo J (k7 jW d3 J (.head _) (ht J) (ht J) q_y)<|we q_y<|bp J<|aQ ?_;exact cO (K1 y (i.h 0).1 (i.h 0).2 h) (bv J)
   ·refine bA<|FF false dj 43 ?_;exact cO (K1 Hr none 0 h) (bv J)
 ·skip
  refine au<|aF J<|zo J (gJ (ht J) hI)<|aq<|c9 h J (fun h=>?_) (fun h=>?_)
  ·refine av ?_;exact(nn h).elim
  ·refine bA<|bm ?_;exact cO (K h) (bv J)
theorem Ub(slices:(List (List (List ac)))){R:(List (List ac))}(h:eO slices=some R):f9 aO 98 [ca (dT) slices] false dj 43 R:=by
 refine f9.of Tryz.func98 J J J fun w0 S0=>au<|bQ false dj 43<|zo J (aL s9)<|aq<|au<|zo J (cw)<|aq<|ah<|au<|aF J<|zo J (iM ot J)<|zo J (bD hI)<|aq<|ay<|ba (k:=9) J fun hN=>bI<|qY ?_;refine aS (n7 (Z:=fun ls i size=>(slices.drop i=ls)∧fG slices ls size=some R) (Of:=fun _ i size=>[]) (Gf:=fun _ i size=>[(0,ca (dT) slices),(3,bM size),(9,ca (dT) slices),(10,jk slices),(11,bM (i:Int))]) (fun i size h=>?_) (fun e tl ih i size h=>?_) slices 0 (0:Int) ⟨J,h⟩) (bv J)
 ·obtain⟨hx,h⟩:=h
  refine aC<|au<|zo J (fD J J)<|aq<|ah<|bz (ht J) (di hx)<|bu ?_;refine ai (ai (aN ?_));refine aw<|au<|aF rfl<|bC h fun r q_r h=>iR abr (RZ _ q_r) ⟨hV,(ht J),aT⟩ J fun l c=>bp J<|aq<|ah<|au<|aF J<|zo J (iM ot J)<|zo J (bD hI)<|aq<|ay<|ba (k:=25) J fun hN1=>bI ?_;refine aS (kE (Z:=fun ls1 i1 newslice l1 c1=>(slices.drop i1=ls1)∧fF ls1 newslice=some R) (Of:=fun _ i1 newslice l1 c1=>[fx dj 43 l1 c1 newslice]) (Gf:=fun _ i1 newslice l1 c1=>[(6,rL l1 c1 newslice),(25,ca (dT) slices),(26,jk slices),(27,bM (i1:Int))]) (fun i1 newslice l1 c1 h=>?_) (fun e1 tl1 ih1 i1 newslice l1 c1 h=>?_) slices 0 r l c ⟨J,h⟩) (bv J)
  ·obtain⟨hx1,h⟩:=h
   refine aC<|au<|zo J (fD J J)<|aq<|ah<|bz (ht J) (di hx1)<|bu ?_;refine ai (ai (aN ?_));refine aw<|au<|aF rfl<|bp rfl<|aq<|ak ?_;cases so h;exact gm J J
  ·obtain⟨hx1,h⟩:=h
   refine aC<|au<|zo J (fD J J)<|aq<|ah<|bw (ht J) (dg hx1)<|dS<|ah<|ay<|au<|zo J (lX ot gF J J J (cS hx1))<|zo J (bB gF J J)<|bp J<|aq<|av<|aF J<|aF J<|bC h fun newslice1 q_newslice1 h=>cV d3 J J J J jW J J (ht J) (ht J) q_newslice1 fun l2 c2=>?_;refine bp J<|aQ<|ap<|aw<|av<|zo rfl (lY (cA hx1 hN1) rfl)<|aF rfl<|aQ ?_;exact bf (aS (ih1 (i1+1) newslice1 l2 c2 ⟨cz hx1,h⟩) (bv J))
 ·obtain⟨hx,h⟩:=h
  refine aC<|au<|zo J (fD J J)<|aq<|ah<|bw (ht J) (dg hx)<|dS<|ah<|ay<|au<|zo J (lX ot gF J J J (cS hx))<|zo J (bB gF J J)<|bp J<|aq<|au<|aF J<|aF J<|zo J (iM jW J) ?_;refine zo J (nO (ht J) (ht J))<|bp J<|aq<|au<|aF J<|zo J (gJ (ht J) hI)<|aq<|c9 h J (fun h=>?_) (fun h=>?_)
  ·refine av ?_;exact(nn h).elim
  ·refine bA<|ap<|aw<|av<|zo rfl (lY (cA hx hN) rfl)<|aF rfl<|aQ ?_;exact bf (aS (ih (i+1) (IntKind.i64.wrap (size+(e.length:Int))) ⟨cz hx,h⟩) (bv J))
theorem XY(slices:(List (List (List ac)))){R:(List (List ac))}(h:eO slices=some R):aU aO 98 [ca (dT) slices] (ca (dj) R):=(Ub _ h).spec

theorem ZN(b:Nat)(ix:OI)(r:cT)(n:am){R:(List (List ac))×Int}(h:kh r n=some R):c0 aO 57 [tV (aP b 0),tD aI n] (jq b r ix) (fun _:OI=>tT [ca (dj) R.1,bM R.2]) (fun _=>(jq b r ix)):=by
 refine c0.of Tryz.func57 J J J fun w0 S0=>?_;refine(show CG _ _ _ [bx (rH ee [(1,aR (ix.h 0).1 (ix.h 0).2 r.rows.length),(2,aR (ix.h 1).1 (ix.h 1).2 r.width.length)]) 96 b r,dV dT 32 (ix.h 0).1 (ix.h 0).2 r.rows,dV bX 3 (ix.h 1).1 (ix.h 1).2 r.width] _ from ?_);refine au<|zo J (je J)<|zo J (aL (show aJ _ _ _ vA from j9))<|zo J (cw)<|aq<|ah<|bC h fun e q_e h=>bC h fun e1 q_e1 h=>bC h fun r1 q_r1 h=>?_
 refine cU (ts:=[_,_,_,_,_,_,_,_,_,_,_,_,_,_,_,_,_,_,_,_]) mixed J J
  ⟨fd 0 J J J (dA J),
  ⟨bW 6 0 J J J (dE (ht J)),
  ⟨bW 7 1 J J J (kP 1 qF J J J),
  ⟨bW 8 2 J J J (df uP J (.head _) (.tail _ (.head _)) (ht J)),
  ⟨fd 3 J J J (cW jT dP J J),
  ⟨bW 10 4 J J J (bB cr J J),
  ⟨d8 9 3 11 5 J J J J (bq ot gF J (lk (ht J)) (ht J) q_e),
  ⟨bW 12 6 J J J (bB gF J J),
  ⟨fd 0 J J J (dA J),
  ⟨bW 14 8 J J J (dE (ht J)),
  ⟨bW 15 9 J J J (kP 1 qF J J J),
  ⟨bW 16 10 J J J (df uP J (.head _) (.tail _ (.head _)) (ht J)),
  ⟨fd 3 J J J (cW rG kC J J),
  ⟨bW 18 12 J J J (bB cr J J),
  ⟨d8 17 11 19 13 J J J J (bq ot gF J (lk (ht J)) (ht J) q_e1),
  ⟨bW 20 14 J J J (bB gF J J),
  ⟨d8 13 7 21 15 J J J J (aV (r:=dT) (ys:=[e,e1]) (xs:=[.tmp 13,.tmp 21]) ot gF J J J J J ⟨(ht J),(ht J),aT⟩),
  ⟨bW 22 16 J J J (aD aci (XY _ q_r1) ⟨(ht J),aT⟩),
  ⟨bW 23 17 J J J (uM J),
  ⟨O4 J J (cw),
  aT⟩⟩⟩⟩⟩⟩⟩⟩⟩⟩⟩⟩⟩⟩⟩⟩⟩⟩⟩⟩ ?_
 refine aw<|ak<|aK<|aK<|aK ?_;cases so h;exact d7 (ts:=[ca (dj) r1,bM 0]) (rvs:=[.tmp 4,.tmp 5]) J J ⟨bc J,bc J,aT⟩ pE J J

theorem Vj(order:(List gL))(a1:(List ac))(b:(List ac)){R:Int}(h:nV order a1 b=some R):aU aO 154 [ca (af) a1,ca (af) b,bO (fW gG) order] (bM R):=by
 refine aU.of Tryz.func154 J J J fun w0 S0=>au<|zo J (cw)<|aq<|ah<|au<|zo J (bB Hy J J)<|zo J (iM Dy J)<|zo J (bD hI)<|aq<|ay<|ba (k:=9) J fun hN=>bI ?_;refine aS (dQ (Z:=fun ls i=>(order.drop i=ls)∧ju a1 b ls=some R) (Of:=fun _ i=>[]) (Gf:=fun _ i=>[(0,ca (af) a1),(1,ca (af) b),(9,ca (gG) order),(10,jk order),(11,bM (i:Int))]) (fun i h=>?_) (fun e tl ih i h=>?_) order 0 ⟨J,h⟩) (bv J)
 ·obtain⟨hx,h⟩:=h
  refine aC<|au<|zo J (fD J J)<|aq<|ah<|bz (ht J) (di hx)<|bu ?_;refine ai (ai (aN ?_));refine aw<|au<|aF rfl<|aF rfl<|bC h fun r q_r h=>zo J (aD Z6 (RM _ _ q_r) ⟨(ht J),(ht J),aT⟩)<|bp J<|aq<|ak ?_;cases so h;exact aG J J
 ·obtain⟨hx,h⟩:=h
  refine aC<|au<|zo J (fD J J)<|aq<|ah<|bw (ht J) (dg hx)<|dS<|ah<|ay<|au<|zo J (lX Dy Jh J J J (cS hx))<|zo J (bB Jh J J)<|aZ (r:=gG) (x:=(⟨(0:Int),false⟩:gL)) Jh (fun _=>WW _) J fun b1=>ax Jh J an J (ht J) (ht J)<|aW 7 J<|aq<|ah<|bC h fun e1 q_e1 h=>bC h fun e2 q_e2 h=>?_
  obtain⟨r1,q_r1,h⟩:=bs h
  refine cU (ts:=[_,_,_,_,_,_,_,_,_,_,_,_]) mixed J J
   ⟨fd 0 J J J (dA J),
   ⟨fd 7 J J J (cW Ij AX J J),
   ⟨bW 16 1 J J J (bB cr J J),
   ⟨d8 15 0 17 2 J J J J (lX iK aH J J J q_e1),
   ⟨bW 18 3 J J J (bB aH J J),
   ⟨fd 1 J J J (dA J),
   ⟨fd 7 J J J (cW Ij AX J J),
   ⟨bW 21 6 J J J (bB cr J J),
   ⟨d8 20 5 22 7 J J J J (lX iK aH J J J q_e2),
   ⟨bW 23 8 J J J (bB aH J J),
   ⟨d8 19 4 24 9 J J J J (aD Su (Iz _ _ q_r1) ⟨(ht J),(ht J),aT⟩),
   ⟨bW 25 10 J J J (uM J),
   aT⟩⟩⟩⟩⟩⟩⟩⟩⟩⟩⟩⟩ ?_
  refine aw ?_;refine kV (Z:=fun n=>nU (ju a1 b tl) n=some R) (Of:=fun n=>[]) (Gf:=fun n=>[(0,ca (af) a1),(1,ca (af) b),(8,bM n),(9,ca (gG) order),(10,jk order),(11,bM (i:Int))]) (fun n h=>?_) (fun K=>?_)
  ·skip
   refine au<|aF J<|zo J (tJ J)<|aq<|c9 h J (fun h=>?_) (fun h=>?_)
   ·refine au<|aF J<|bp J<|aq<|ak ?_;refine aA (ae (ae (aA (ae ?_))));cases so h;exact aG J J
   ·refine bA<|ap<|aw<|av<|zo rfl (lY (cA hx hN) rfl)<|aF rfl<|aQ ?_;exact bf (aS (ih (i+1) ⟨cz hx,h⟩) (bv J))
  ·skip
   refine au<|zo J (cW XX RC J J)<|zo J (bB Ji J J)<|aq<|c9 h J (fun h=>?_) (fun h=>?_)
   ·refine av<|aF J<|zo J (H4 (ht J))<|bp J<|aQ ?_;exact cO (K (IntKind.i64.wrap (0-r1)) h) (bv J)
   ·refine bA ?_;exact cO (K r1 h) (bv J)

theorem XZ(order:(List gL)){R:((List ac)→(List ac)→Option Int)}(h:B4 order=some R):aU aO 89 [ca (gG) order] ((dn aO FJ yy (fun(x:(List ac)×(List ac))=>R x.1 x.2))):=by
 refine aU.of Tryz.func89 J J J fun w0 S0=>au<|zo J (je J)<|zo J (aL hV)<|aq<|au<|zo J ((show bP _ _ _ _ ((dn aO FJ yy (fun(x:(List ac)×(List ac))=>(nV order) x.1 x.2)))from hJ (cts:=[bO (fW gG) order]) (caps:=[.tmp 1]) abx ⟨(ht J),aT⟩ (fun x y h=>Vj _ _ _ h)))<|bp J<|aq<|ak ?_;cases so h;exact aG J J

theorem Uc(rows:(List (List ac)))(order:(List gL))(limit:Int){R:(List (List ac))}(h:oK rows order limit=some R):f9 aO 86 [ca (dj) rows,ca (gG) order,bM limit] false dj 43 R:=by
 refine f9.of Tryz.func86 J J J fun w0 S0=>au<|bQ false dj 43<|zo J (aL s9)<|aq<|au<|bQ false dj 43<|zo J (aL s9)<|aq<|ah<|au<|aF J<|zo J (iM jW J)<|zo J (bD hI)<|aq<|ay<|ba (k:=10) J fun hN=>bI ?_;refine jb<|qY ?_;refine aS (kE (Z:=fun ls i out l c=>(rows.drop i=ls)∧kg order limit ls out=some R) (Of:=fun _ i out l c=>[fx dj 43 l c out]) (Gf:=fun _ i out l c=>[(1,ca (gG) order),(2,bM limit),(7,rL l c out),(10,ca (dj) rows),(11,jk rows),(12,bM (i:Int))]) (fun i out l c h=>?_) (fun e tl ih i out l c h=>?_) rows 0 Hr none 0 ⟨J,h⟩) (bv J)
 ·obtain⟨hx,h⟩:=h
  refine aC<|au<|zo J (fD J J)<|aq<|ah<|bz (ht J) (di hx)<|bu ?_;refine ai (ai (aN ?_));refine aw<|au<|aF rfl<|aF rfl<|bC h fun r q_r h=>zo J (aD acl (XZ _ q_r) ⟨(ht J),aT⟩)<|bC h fun uu q_srt h=>?_;refine Fl (n:=out.length) wd ?_ Sr ?_ q_srt ?_ ?_ ?_ ?_ ?_
  ·rfl
  ·rfl
  ·exact(ht J)
  ·rfl
  ·exact(ht J)
  ·rfl
  intro hl
  refine oL hl 7 J<|oL hl 22 J<|aq ?_;refine yo (Z:=fun out1 l1 c1=>ol out1=some R) (Of:=fun out1 l1 c1=>[fx dj 43 l1 c1 out1]) (Gf:=fun out1 l1 c1=>[(7,rL l1 c1 out1)]) (fun out1 l1 c1 h=>?_) (fun K=>?_)
  ·skip
   refine au<|aF J<|bp J<|aq<|ak ?_;cases so h;exact gm J J
  ·skip
   refine au<|aF J<|zo J (iu (ht J) hI)<|aF J<|dC J J (fun hg=>dA J)<|dC J J (fun hg=>dA J)<|dC J J (fun hg=>jy jW (.head _) (bK J hg))<|dC J J (fun hg=>gJ (bK J hg) (bK J hg))<|zo J (uK J J)<|aq<|c9 h J (fun h=>?_) (fun h=>?_)
   ·refine av<|aF J<|aF J<|bC h fun y q_y h=>zo J (k7 jW d3 J (.head _) (ht J) (ht J) q_y)<|we q_y<|bp J<|aQ ?_;exact cO (K y l c h) (bv J)
   ·refine bA ?_;exact cO (K uu l c h) (bv J)
 ·obtain⟨hx,h⟩:=h
  refine aC<|au<|zo J (fD J J)<|aq<|ah<|bw (ht J) (dg hx)<|dS<|ah<|ay<|au<|zo J (lX jW d3 J J J (cS hx))<|zo J (bB d3 J J)<|bp J<|aq<|av<|aF J<|aF J<|bC h fun r1 q_r1 h=>iR Sw (E3 _ q_r1) ⟨(ht J),aT⟩ J fun l2 c2=>?_;refine kj<|jx 18 J<|zo J (aV (r:=dj) (ys:=[r1]) (xs:=[.tmp 18]) jW d3 J J J J J ⟨(lk (ht J)),aT⟩)<|bL<|bC h fun out2 q_out2 h=>cV d3 J J J J jW J J (ht J) (ht J) q_out2 fun l3 c3=>bp J<|aQ<|ap<|aw<|av<|zo rfl (lY (cA hx hN) rfl)<|aF rfl<|aQ<|bF<|bm ?_;exact bf (aS (ih (i+1) out2 l3 c3 ⟨cz hx,h⟩) (bv J))
theorem X0(rows:(List (List ac)))(order:(List gL))(limit:Int){R:(List (List ac))}(h:oK rows order limit=some R):aU aO 86 [ca (dj) rows,ca (gG) order,bM limit] (ca (dj) R):=(Uc _ _ _ h).spec

end Go.Proofs.YtfhhakidodmdfaaGreatDoor

