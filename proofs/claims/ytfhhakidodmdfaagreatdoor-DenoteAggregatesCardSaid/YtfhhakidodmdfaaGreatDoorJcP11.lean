/- di of this claim: P11. -/
import Derived.Test.YtfhhakidodmdfaaGreatDoorJcT
import Derived.Test.YtfhhakidodmdfaaGreatDoorJcP10
set_option linter.all false
namespace Go.Proofs.YtfhhakidodmdfaaGreatDoor
open Go
set_option maxRecDepth 100000

theorem aao(b:Nat)(ix:OI)(r:dh)(n:ay){R:(List (List ac))×Int}(h:jr r n=some R):dl aU 55 [tV (aS b 0),tD aW n] (jE b r ix) (fun _:OI=>tT [cq (dg) R.1,bM R.2]) (fun _=>(jE b r ix)):=by
 refine dl.of Tryz.func55 J J J fun w0 S0=>?_;refine(show CG _ _ _ [bx (rH eS [(1,bc (ix.h 0).1 (ix.h 0).2 r.rows.length),(2,bc (ix.h 1).1 (ix.h 1).2 r.width.length)]) 96 b r,ez ee 32 (ix.h 0).1 (ix.h 0).2 r.rows,ez cj 3 (ix.h 1).1 (ix.h 1).2 r.width] _ from ?_);refine av<|zo J (gi J)<|zo J (aT (show aO _ _ _ we from kJ))<|zo J (bW)<|aq<|av<|ca false dg 43<|zo J (aT tg)<|aq<|ah<|ah<|bo h fun e q_e h=>?_
 refine cD (ts:=[_,_,_,_,_,_,_,_,_,_]) mixed J J
  ⟨dB 0 J J J (cX J),
  ⟨bT 14 0 J J J (dQ (ht J)),
  ⟨bT 15 1 J J J (je 1 rl J J J),
  ⟨bT 16 2 J J J (dx zf J (.tail _ (.head _)) (.tail _ (.tail _ (.head _))) (ht J)),
  ⟨dB 3 J J J (bX kq d9 J J),
  ⟨bT 18 4 J J J (bh cg J J),
  ⟨cK 17 3 19 5 J J J J (bF qP iy J (lJ (ht J)) (ht J) q_e),
  ⟨bT 20 6 J J J (bh iy J J),
  ⟨bT 21 7 J J J (jw jN J),
  ⟨NX J J (bJ hI),
  aL⟩⟩⟩⟩⟩⟩⟩⟩⟩⟩ ?_
 refine ax<|aC<|bp (k:=21) J fun hN=>bQ ?_;refine ba (kX (Z:=fun ls i out l c=>(e.drop i=ls)∧fX n ls out=some R) (Of:=fun _ i out l c=>[fL dg 43 l c out,bx (rH eS [(1,bc (ix.h 0).1 (ix.h 0).2 r.rows.length),(2,bc (ix.h 1).1 (ix.h 1).2 r.width.length)]) 96 b r,ez ee 32 (ix.h 0).1 (ix.h 0).2 r.rows,ez cj 3 (ix.h 1).1 (ix.h 1).2 r.width]) (Gf:=fun _ i out l c=>[(3,bN aW n),(6,sw l c out),(21,cq (dg) e),(22,ky e),(23,bM (i:Int))]) (fun i out l c h=>?_) (fun e1 tl ih i out l c h=>?_) e 0 HP none 0 ⟨J,h⟩) (bD J)
 ·obtain⟨hx,h⟩:=h
  refine aG<|av<|zo J (fY J J)<|aq<|ah<|bL (ht J) (dO hx)<|bG ?_;refine ak (ak (aV ?_));refine ax<|av<|aE rfl<|bg rfl<|zo rfl (bW)<|aq<|aj<|jS<|cP 6 rfl<|cP 53 rfl<|cP 4 rfl<|jT 4 rfl<|aZ<|aM<|aM<|aM ?_;cases so h;exact eN (ts:=[cq (dg) out,bM 0]) (rvs:=[.tmp 4,.tmp 5]) J J ⟨aK J,aK J,aL⟩ pj J J
 ·obtain⟨hx,h⟩:=h
  refine aG<|av<|zo J (fY J J)<|aq<|ah<|bK (ht J) (dL hx)<|df<|ah<|aC<|av<|zo J (ne jN eg J J J (dA hx))<|zo J (bh eg J J)<|bg J<|aq<|av<|ca false af 46<|zo J (aT tg)<|aQ ?_;refine ax<|ah<|av<|zo rfl (bX t7 py rfl rfl)<|zo rfl (bh Dt rfl rfl)<|zo rfl (jw BX rfl)<|zo rfl (bJ hI)<|aq<|aC<|bp (k:=28) J fun hN1=>bQ<|li<|li<|li<|mw<|li ?_;refine ba (kX (Z:=fun ls1 i1 y l1 c1=>(n.Items.drop i1=ls1)∧gX (fX n tl) e1 out ls1 y=some R) (Of:=fun _ i1 y l1 c1=>[fL dg 43 l c out,fL af 46 l1 c1 y,bx (rH eS [(1,bc (ix.h 0).1 (ix.h 0).2 r.rows.length),(2,bc (ix.h 1).1 (ix.h 1).2 r.width.length)]) 96 b r,ez ee 32 (ix.h 0).1 (ix.h 0).2 r.rows,ez cj 3 (ix.h 1).1 (ix.h 1).2 r.width]) (Gf:=fun _ i1 y l1 c1=>[(3,bN aW n),(6,sw l c out),(8,cq (af) e1),(9,sw l1 c1 y),(21,cq (dg) e),(22,ky e),(23,bM (i:Int)),(28,cq (ck) n.Items),(29,ky n.Items),(30,bM (i1:Int))]) (fun i1 y l1 c1 h=>?_) (fun e2 tl1 ih1 i1 y l1 c1 h=>?_) n.Items 0 F2 none 0 ⟨J,h⟩) (bD J)
  ·obtain⟨hx1,h⟩:=h
   refine aG<|av<|zo J (fY J J)<|aq<|ah<|bL (ht J) (dO hx1)<|bG ?_;refine ak (ak (aV ?_));refine ax<|aA<|aE rfl<|aE rfl<|bq<|kO<|jM 9 rfl<|jM 49 rfl<|zo rfl (bf (r:=dg) (ys:=[y]) (xs:=[.tmp 49]) jN eg J J J J J ⟨(lJ (ht J)),aL⟩)<|bq<|bo h fun out1 q_out1 h=>cV eg J J J J jN J J (ht J) (ht J) q_out1 fun l2 c2=>bg J<|aQ<|aw<|ax<|aA<|zo rfl (nf (dd hx hN) rfl)<|aE rfl<|aQ<|bI<|aZ ?_;exact bn (ba (ih (i+1) out1 l2 c2 ⟨dc hx,h⟩) (bD J))
  ·obtain⟨hx1,h⟩:=h
   refine aG<|av<|zo J (fY J J)<|aq<|ah<|bK (ht J) (dL hx1)<|df<|ah<|aC<|av<|zo J (ne BX k5 J J J (dA hx1))<|zo J (bh k5 J J)<|aP (r:=ck) (x:=B2) k5 (fun _=>uv _) J fun b1=>am k5 J ai J (ht J) (ht J)<|aY 11 J<|aq<|av<|zo J (bh k5 J J) ?_;refine aE J<|bo h fun r1 q_r1 h=>zo J (ap Tb (I6 _ _ q_r1) ⟨(ht J),(ht J),aL⟩)<|aE J<|zo J (dX J J)<|zo J (dX J J)<|aP (r:=af) (x:=d3) au (fun _=>aJ _) J fun b2=>am au J ai J (ht J) (ht J)<|aY 12 J<|bg J<|aq<|ah<|av<|aE J<|zo J (sx J)<|aq<|ce h J (fun h=>?_) (fun h=>?_)
   ·refine av<|aE J<|zo J (aT (show aO _ _ _ we from kJ))<|bg J<|aq<|aj ?_;refine ae (aB (ae (ae (aB (ae (aB (ae (ae (aB (ae ?_))))))))));refine aZ<|aZ<|aM<|aM<|aM ?_;cases so h;exact eN (ts:=[cq (dg) ([]),bM r1.2]) (rvs:=[.tmp 4,.tmp 5]) J J ⟨aK J,aK J,aL⟩ pj J J
   ·refine df<|aA<|aE J<|zo J (bh au J J)<|zo J (bf (r:=af) (ys:=[r1.1]) (xs:=[.tmp 44]) iw au J J J J J ⟨(ht J),aL⟩)<|bq<|bo h fun y1 q_y1 h=>cV au J J J J iw J J (ht J) (ht J) q_y1 fun l3 c3=>bg J<|aQ<|aw<|ax<|aA<|zo rfl (nf (dd hx1 hN1) rfl)<|aE rfl<|aQ<|fR<|fR<|fR<|cy<|fR ?_;exact bn (ba (ih1 (i1+1) y1 l3 c3 ⟨dc hx1,h⟩) (bD J))

theorem Lg(l:(List (List ac))){R:(List (List ac))}(h:tG l=some R):gA aU 109 [cq (dg) l] false dg 43 R:=by
 refine gA.of Tryz.func109 J J J fun w0 S0=>av<|ca false dg 43<|zo J (aT tg)<|aq<|av<|aE J<|bo h fun r q_r h=>jh XA (Lf _ q_r) ⟨(ht J),aL⟩ J fun l1 c=>bg J<|aq<|av<|aE J<|bo h fun u0 q_srt h=>?_;refine FG (n:=r.length) wS ?_ S7 ?_ q_srt ?_ ?_ ?_ ?_ ?_
 ·rfl
 ·rfl
 ·exact(ht J)
 ·rfl
 ·exact(show aO _ _ _ ((ei aU F1 ze (fun(x:(List ac)×(List ac))=>pL x.1 x.2)))from(zJ Wk fun x y h=>IP _ _ h))
 ·rfl
 intro hl
 refine o7 hl 5 J<|o7 hl 3 J<|o7 hl 6 J<|aq<|av<|aE J<|bg J<|aq<|aj ?_;cases so h;exact gK J J
theorem Zb(l:Option Nat)(c:Nat)(s:(List (List ac)))(eq:((List ac)→(List ac)→Option Bool)){R:(List (List ac))}(h:fq s eq=some R):dl aU 186 [sw l c s,(ei aU F1 mI (fun(x:(List ac)×(List ac))=>eq x.1 x.2))] [fL dg 43 l c s] (fun i:OI=>sw (i.h 0).1 (i.h 0).2 R) (fun i=>[fL dg 43 (i.h 0).1 (i.h 0).2 R]):=by
 refine dl.of Tryz.func186 J J J fun w0 S0=>av<|ca false dg 43<|zo J (aT tg)<|aq<|ah<|av<|aE J<|zo J (jB jN (.tail _ (.head _)) (ht J))<|zo J (dJ (ht J) hI)<|aq<|ce h J (fun h=>?_) (fun h=>?_)
 ·refine av<|aE J<|bg J<|aq<|aj<|ae<|aZ ?_;cases so h;exact nv J (oi l c) J J (fun _ _ h=>h)
 ·refine df<|ah<|av<|zo J (bW)<|aq<|aC<|oN (.tail _ (.head _)) fun hN=>bQ<|rL ?_;refine ba (fK (Z:=fun ls i=>(s.drop i=ls)∧cT s eq ls i=some R) (Of:=fun _ i=>[fL dg 43 l c s]) (Gf:=fun _ i=>[(0,sw l c s),(1,(ei aU F1 mI (fun(x:(List ac)×(List ac))=>eq x.1 x.2))),(5,bM (i:Int))]) (fun i h=>?_) (fun e tl ih i h=>?_) (s.drop (1)) 1 ⟨J,h⟩) (bD J)
  ·obtain⟨hx,h⟩:=h
   refine aG<|ah<|av<|aE J<|aE J<|zo J (jB jN (.head _) (ht J))<|zo J (fY J J)<|aq<|bL (ht J) (dO hx)<|bG ?_;refine ak (ak (aV ?_));refine ax<|av<|aE rfl<|bg rfl<|aq<|aj ?_;cases so h;exact nv J (oi l c) J J (fun _ _ h=>h)
  ·obtain⟨hx,h⟩:=h
   refine aG<|ah<|av<|aE J<|aE J<|zo J (jB jN (.head _) (ht J))<|zo J (fY J J)<|aq<|bK (ht J) (dL hx)<|df<|ah<|aC<|ah<|bo h fun e1 q_e1 h=>bo h fun r q_r h=>?_
   refine cD (ts:=[_,_,_,_,_,_,_,_,_,_,_]) mixed J J
    ⟨dB 1 J J J (cX J),
    ⟨dB 0 J J J (cX J),
    ⟨dB 5 J J J (cX J),
    ⟨cK 19 1 20 2 J J J J (cB jN eg (.head _) (ht J) (ht J) (dA hx)),
    ⟨bT 21 3 J J J (fJ (r:=dg) (i:=(i:Int)) (foff:=0) eg J J bw J (.head _) (dA hx) (ht J)),
    ⟨dB 0 J J J (cX J),
    ⟨dB 5 J J J (cX J),
    ⟨bT 24 6 J J J (ft (ht J) hI),
    ⟨cK 23 5 25 7 J J J J (cB jN eg (.head _) (ht J) (ht J) q_e1),
    ⟨bT 26 8 J J J (fJ (r:=dg) (i:=(IntKind.i64.wrap ((i:Int)-(1:Int)))) (foff:=0) eg J J bw J (.head _) q_e1 (ht J)),
    ⟨GI 18 0 22 4 27 9 J J J J J (io (args:=XT) (res:=HQ) (f:=(fun(x:(List ac)×(List ac))=>eq x.1 x.2)) (x:=((e,e1):(List ac)×(List ac))) (ht J) q_r ⟨(ht J),(ht J),aL⟩),
    aL⟩⟩⟩⟩⟩⟩⟩⟩⟩⟩⟩ ?_
   refine ax<|ce h rfl (fun h=>?_) (fun h=>?_)
   ·refine av<|aE J<|aE J<|bo h fun y q_y h=>zo J (n9 jN eg J (.head _) (ht J) (ht J) q_y)<|nc (.head _) q_y fun hv=>bg J<|aq<|ah<|av<|zo J (bW)<|aq<|aC<|bQ ?_;refine ba (BS (Z:=fun k1 i1 s1 k=>(y.length-i1=k1)∧cw eq i y k1 i1 s1 k=some R) (Of:=fun _ i1 s1 k=>[fL dg 43 l c s1]) (Gf:=fun _ i1 s1 k=>[(0,sw l c s1),(1,(ei aU F1 mI (fun(x:(List ac)×(List ac))=>eq x.1 x.2))),(5,bM k),(6,tV (oQ 1 l c (i:Int).toNat y.length)),(7,bM (i1:Int))]) (fun i1 s1 k h=>?_) (fun k2 ih1 i1 s1 k h=>?_) (y.length-1) 1 s (i:Int) ⟨J,h⟩) (bD J)
    ·obtain⟨hx1,h⟩:=h
     refine aG<|ah<|av<|aE J<|aE J<|zo J (DK jN hv.1 (ht J))<|zo J (fY J J)<|aq<|bL (ht J) (Qg hx1)<|bG ?_;refine ak (ak (aV ?_));refine ax<|av<|aE rfl<|aE rfl<|bo h fun y1 q_y1 h=>zo J (n9 jN eg J (.head _) (ht J) (ht J) q_y1)<|nc (.head _) q_y1 fun hv1=>bo h fun cl q_cl h=>Hv eg J J jN (fun _=>⟨none,0,J,dY _,mA _,.inl J⟩) J q_y1 (ht J) (so q_cl)<|iZ (yX q_y1 (so q_cl)) 0 J<|iZ (yX q_y1 (so q_cl)) 59 J<|aq<|av<|aE J<|aE J<|bo h fun y2 q_y2 h=>zo J (lx jN eg J (.head _) (ht J) (ht J) q_y2)<|wT q_y2<|bg J<|aq ?_;refine aj ?_;refine aB (ae (ae (aB (ae ?_))));cases so h;exact nv J (oi l c) J J (fun _ _ h=>h)
    ·obtain⟨hx1,h⟩:=h
     refine aG<|ah<|av<|aE J<|aE J<|zo J (DK jN hv.1 (ht J))<|zo J (fY J J)<|aq<|bK (ht J) (Qf hx1)<|df<|ah<|aC<|ah<|bo h fun e3 q_e3 h=>bo h fun e4 q_e4 h=>bo h fun r1 q_r1 h=>?_
     refine cD (ts:=[_,_,_,_,_,_,_,_,_,_,_,_]) mixed J J
      ⟨dB 1 J J J (cX J),
      ⟨dB 6 J J J (cX J),
      ⟨dB 7 J J J (cX J),
      ⟨cK 39 1 40 2 J J J J (nE jN eg J (.head _) (ta q_y) (ht J) (ht J) q_e3),
      ⟨bT 41 3 J J J (fJ (r:=dg) (i:=((i:Int)+(i1:Int))) (foff:=0) eg J J bw J (.head _) (re q_e3).2.2 (ht J)),
      ⟨dB 6 J J J (cX J),
      ⟨dB 7 J J J (cX J),
      ⟨bT 44 6 J J J (ft (ht J) hI),
      ⟨cK 43 5 45 7 J J J J (nE jN eg J (.head _) (ta q_y) (ht J) (ht J) q_e4),
      ⟨bT 46 8 J J J (fJ (r:=dg) (i:=((i:Int)+(IntKind.i64.wrap ((i1:Int)-(1:Int))))) (foff:=0) eg J J bw J (.head _) (re q_e4).2.2 (ht J)),
      ⟨GI 38 0 42 4 47 9 J J J J J (io (args:=XT) (res:=HQ) (f:=(fun(x:(List ac)×(List ac))=>eq x.1 x.2)) (x:=((e3,e4):(List ac)×(List ac))) (ht J) q_r1 ⟨(ht J),(ht J),aL⟩),
      ⟨bT 48 10 J J J (cx (ht J)),
      aL⟩⟩⟩⟩⟩⟩⟩⟩⟩⟩⟩⟩ ?_
     refine ax<|ce h rfl (fun h=>?_) (fun h=>?_)
     ·refine av<|aE J<|aE J<|aE J<|aE J<|bo h fun e5 q_e5 h=>zo J (nE jN eg J (.head _) (ta q_y) (ht J) (ht J) q_e5)<|zo J (fJ (r:=dg) (i:=((i:Int)+(i1:Int))) (foff:=0) eg J J bw J (.head _) (re q_e5).2.2 (ht J))<|bo h fun e6 q_e6 h=>zo J (cB jN eg (.head _) (ht J) (ht J) q_e6)<|bo h fun st q_st h=>tq eg J ai J q_e6 (so q_st) (ht J) (ht J)<|iZ (mM (so q_st)) 0 J<|iZ (mM (so q_st)) 50 J<|aq<|aA<|aE J<|zo J (fV (ht J) hI)<|bg J<|aQ<|aw<|ax ?_;refine aA<|aE J<|zo J (rF (Iz hx1 (Ul hv.2)) (ht J) hI)<|bg J<|aQ ?_;exact bn (ba (ih1 (i1+1) st (IntKind.i64.wrap (k+(1:Int))) ⟨Iy hx1,h⟩) (bD J))
     ·refine bA<|aw<|ax<|aA<|aE rfl<|zo rfl (rF (Iz hx1 (Ul hv.2)) (ht rfl) hI)<|bg rfl<|aQ ?_;exact bn (ba (ih1 (i1+1) s1 k ⟨Iy hx1,h⟩) (bD J))
   ·refine bA<|aw<|ax<|aA<|aE rfl<|zo rfl (nf (dd hx hN) rfl)<|bg rfl<|aQ ?_;exact bn (ba (ih (i+1) ⟨dc hx,h⟩) (bD J))

theorem V9(l:(List (List ac))){R:(List (List ac))×Int}(h:sU l=some R):aR aU 108 [cq (dg) l] (tT [cq (dg) R.1,bM R.2]):=by
 refine aR.of Tryz.func108 J J J fun w0 S0=>av<|zo J (aT (show aO _ _ _ we from kJ))<|zo J (bW)<|aq<|ah<|av<|aE J<|zo J (bf (r:=ee) (ys:=[l]) (xs:=[.tmp 5]) qP iy J J J J J ⟨(ht J),aL⟩)<|bo h fun r q_r h=>zo J (ap Zp (Nl _ q_r) ⟨(ht J),aL⟩)<|bg J<|aq<|av<|aE J<|zo J (sx J)<|aq<|ce h J (fun h=>?_) (fun h=>?_)
 ·refine av<|aE J<|zo J (aT (show aO _ _ _ we from kJ))<|bg J<|aq<|aj<|ae ?_;cases so h;exact cW J J J
 ·refine df<|av<|aE J<|bo h fun r1 q_r1 h=>jh XE (Lg _ q_r1) ⟨(ht J),aL⟩ J fun l1 c=>bo h fun r2 q_r2 h=>BQ [fL dg 43 l1 c r1] _ J abW (Zb l1 c _ _ q_r2) ⟨(ht J),(zJ aaC fun x y h=>Si _ _ h),aL⟩ J fun i=>?_;refine(show RG _ _ _ _ [fL dg 43 (i.h 0).1 (i.h 0).2 r2] ((13,sw (i.h 0).1 (i.h 0).2 r2)::_)from ?_);refine bg J<|zo J (bW)<|aq<|aj<|jS<|cP 2 J<|cP 13 J<|jT 2 J<|aZ ?_;cases so h;exact cW J J J

theorem aan(b:Nat)(ix:OI)(r:dh)(n:ay){R:(List (List ac))×Int}(h:iX r n=some R):dl aU 56 [tV (aS b 0),tD aW n] (jE b r ix) (fun _:OI=>tT [cq (dg) R.1,bM R.2]) (fun _=>(jE b r ix)):=by
 refine dl.of Tryz.func56 J J J fun w0 S0=>?_;refine(show CG _ _ _ [bx (rH eS [(1,bc (ix.h 0).1 (ix.h 0).2 r.rows.length),(2,bc (ix.h 1).1 (ix.h 1).2 r.width.length)]) 96 b r,ez ee 32 (ix.h 0).1 (ix.h 0).2 r.rows,ez cj 3 (ix.h 1).1 (ix.h 1).2 r.width] _ from ?_);refine av<|zo J (gi J)<|zo J (aT (show aO _ _ _ we from kJ))<|zo J (bW)<|aq<|ah<|bo h fun e q_e h=>bo h fun r1 q_r1 h=>?_
 refine cD (ts:=[_,_,_,_,_,_,_,_,_,_,_,_,_]) mixed J J
  ⟨dB 0 J J J (cX J),
  ⟨bT 6 0 J J J (dQ (ht J)),
  ⟨bT 7 1 J J J (je 1 rl J J J),
  ⟨bT 8 2 J J J (dx zf J (.head _) (.tail _ (.head _)) (ht J)),
  ⟨dB 3 J J J (bX kq d9 J J),
  ⟨bT 10 4 J J J (bh cg J J),
  ⟨cK 9 3 11 5 J J J J (bF qP iy J (lJ (ht J)) (ht J) q_e),
  ⟨bT 12 6 J J J (bh iy J J),
  ⟨bT 13 7 J J J (ap acw (V9 _ q_r1) ⟨(ht J),aL⟩),
  ⟨bT 14 8 J J J (dX J J),
  ⟨bT 14 8 J J J (dX J J),
  ⟨bT 15 9 J J J (rN J),
  ⟨bT 16 10 J J J (rN J),
  aL⟩⟩⟩⟩⟩⟩⟩⟩⟩⟩⟩⟩⟩ ?_
 refine ax<|aj<|aM<|aM<|aM ?_;cases so h;exact eN (ts:=[cq (dg) r1.1,bM r1.2]) (rvs:=[.tmp 4,.tmp 5]) J J ⟨aK J,aK J,aL⟩ pj J J

theorem SD(n:Int){R:(List (List ac))}(h:iu n=some R):gA aU 162 [tV (.slice none 0 0),bM n] false dg 43 R:=by
 refine gA.of Tryz.func162 J J J fun w0 S0=>av<|ca false dg 43<|zo J (aT tg)<|aq ?_;refine vW (Z:=jl n=some R) (Of:=[]) (Gf:=[(0,tV (.slice none 0 0)),(1,bM n)]) (fun h=>?_) (fun K=>?_)
 ·skip
  refine vV (Z:=fun s l c=>jk s=some R) (Of:=fun s l c=>[fL dg 43 l c s]) (Gf:=fun s l c=>[(0,sw l c s)]) (fun s l c h=>?_) (fun K1=>?_)
  ·skip
   refine av<|aE J<|bg J<|aq<|aj ?_;cases so h;exact gK J J
  ·skip
   refine av<|aE J<|aE J<|zo J (tf jN (ht J))<|aE J<|zo J (te jN (ht J))<|zo J (ft (ht J) (ht J))<|zo J (ft (ht J) (ht J))<|bg J<|aq<|av<|aE J<|zo J (iz (ht J) hI)<|aq<|ce h J (fun h=>?_) (fun h=>?_)
   ·refine aA<|aE J<|aE J<|zo J (tf jN (ht J))<|zo J (xU jN eg (ht J) (ht J))<|aE J<|bo h fun u q_u h=>bo h fun mk q_mk h=>Av (yh (r:=dg) (x:=[]) eg J J J J jN lj (fun _=>⟨none,0,J,dY _,mA _,.inl J⟩) (ht J) (ht J) (E9 q_u) q_mk) J fun i=>aE J<|zo J (te jN (ht J))<|bo h fun y q_y h=>zo J (lx jN eg J (.head _) (ht J) (ht J) q_y)<|wT q_y<|bg J<|aQ ?_;exact ci (K1 y (i.h 0).1 (i.h 0).2 h) (bD J)
   ·refine bA<|FU false dg 43 ?_;exact ci (K1 HP none 0 h) (bD J)
 ·skip
  refine av<|aE J<|zo J (dJ (ht J) hI)<|aq<|ce h J (fun h=>?_) (fun h=>?_)
  ·refine aA ?_;exact(nn h).elim
  ·refine bA<|aZ ?_;exact ci (K h) (bD J)
theorem UD(slices:(List (List (List ac)))){R:(List (List ac))}(h:ff slices=some R):gA aU 98 [cq (ee) slices] false dg 43 R:=by
 refine gA.of Tryz.func98 J J J fun w0 S0=>av<|ca false dg 43<|zo J (aT tg)<|aq<|av<|zo J (bW)<|aq<|ah<|av<|aE J<|zo J (jw qP J)<|zo J (bJ hI)<|aq<|aC<|bp (k:=9) J fun hN=>bQ<|rL ?_;refine ba (ox (Z:=fun ls i size=>(slices.drop i=ls)∧ga slices ls size=some R) (Of:=fun _ i size=>[]) (Gf:=fun _ i size=>[(0,cq (ee) slices),(3,bM size),(9,cq (ee) slices),(10,ky slices),(11,bM (i:Int))]) (fun i size h=>?_) (fun e tl ih i size h=>?_) slices 0 (0:Int) ⟨J,h⟩) (bD J)
 ·obtain⟨hx,h⟩:=h
  refine aG<|av<|zo J (fY J J)<|aq<|ah<|bL (ht J) (dO hx)<|bG ?_;refine ak (ak (aV ?_));refine ax<|av<|aE rfl<|bo h fun r q_r h=>jh ab8 (SD _ q_r) ⟨hV,(ht J),aL⟩ J fun l c=>bg J<|aq<|ah<|av<|aE J<|zo J (jw qP J)<|zo J (bJ hI)<|aq<|aC<|bp (k:=25) J fun hN1=>bQ ?_;refine ba (kX (Z:=fun ls1 i1 newslice l1 c1=>(slices.drop i1=ls1)∧f9 ls1 newslice=some R) (Of:=fun _ i1 newslice l1 c1=>[fL dg 43 l1 c1 newslice]) (Gf:=fun _ i1 newslice l1 c1=>[(6,sw l1 c1 newslice),(25,cq (ee) slices),(26,ky slices),(27,bM (i1:Int))]) (fun i1 newslice l1 c1 h=>?_) (fun e1 tl1 ih1 i1 newslice l1 c1 h=>?_) slices 0 r l c ⟨J,h⟩) (bD J)
  ·obtain⟨hx1,h⟩:=h
   refine aG<|av<|zo J (fY J J)<|aq<|ah<|bL (ht J) (dO hx1)<|bG ?_;refine ak (ak (aV ?_));refine ax<|av<|aE rfl<|bg rfl<|aq<|aj ?_;cases so h;exact gK J J
  ·obtain⟨hx1,h⟩:=h
   refine aG<|av<|zo J (fY J J)<|aq<|ah<|bK (ht J) (dL hx1)<|df<|ah<|aC<|av<|zo J (ne qP iy J J J (dA hx1))<|zo J (bh iy J J)<|bg J<|aq<|aA<|aE J<|aE J<|bo h fun newslice1 q_newslice1 h=>cV eg J J J J jN J J (ht J) (ht J) q_newslice1 fun l2 c2=>?_;refine bg J<|aQ<|aw<|ax<|aA<|zo rfl (nf (dd hx1 hN1) rfl)<|aE rfl<|aQ ?_;exact bn (ba (ih1 (i1+1) newslice1 l2 c2 ⟨dc hx1,h⟩) (bD J))
 ·obtain⟨hx,h⟩:=h
  refine aG<|av<|zo J (fY J J)<|aq<|ah<|bK (ht J) (dL hx)<|df<|ah<|aC<|av<|zo J (ne qP iy J J J (dA hx))<|zo J (bh iy J J)<|bg J<|aq<|av<|aE J<|aE J<|zo J (jw jN J) ?_;refine zo J (fV (ht J) (ht J))<|bg J<|aq<|av<|aE J<|zo J (dJ (ht J) hI)<|aq<|ce h J (fun h=>?_) (fun h=>?_)
  ·refine aA ?_;exact(nn h).elim
  ·refine bA<|aw<|ax<|aA<|zo rfl (nf (dd hx hN) rfl)<|aE rfl<|aQ ?_;exact bn (ba (ih (i+1) (IntKind.i64.wrap (size+(e.length:Int))) ⟨dc hx,h⟩) (bD J))
theorem YF(slices:(List (List (List ac)))){R:(List (List ac))}(h:ff slices=some R):aR aU 98 [cq (ee) slices] (cq (dg) R):=(UD _ h).spec

theorem aam(b:Nat)(ix:OI)(r:dh)(n:ay){R:(List (List ac))×Int}(h:kL r n=some R):dl aU 57 [tV (aS b 0),tD aW n] (jE b r ix) (fun _:OI=>tT [cq (dg) R.1,bM R.2]) (fun _=>(jE b r ix)):=by
 refine dl.of Tryz.func57 J J J fun w0 S0=>?_;refine(show CG _ _ _ [bx (rH eS [(1,bc (ix.h 0).1 (ix.h 0).2 r.rows.length),(2,bc (ix.h 1).1 (ix.h 1).2 r.width.length)]) 96 b r,ez ee 32 (ix.h 0).1 (ix.h 0).2 r.rows,ez cj 3 (ix.h 1).1 (ix.h 1).2 r.width] _ from ?_);refine av<|zo J (gi J)<|zo J (aT (show aO _ _ _ we from kJ))<|zo J (bW)<|aq<|ah<|bo h fun e q_e h=>bo h fun e1 q_e1 h=>bo h fun r1 q_r1 h=>?_
 refine cD (ts:=[_,_,_,_,_,_,_,_,_,_,_,_,_,_,_,_,_,_,_,_]) mixed J J
  ⟨dB 0 J J J (cX J),
  ⟨bT 6 0 J J J (dQ (ht J)),
  ⟨bT 7 1 J J J (je 1 rl J J J),
  ⟨bT 8 2 J J J (dx zf J (.head _) (.tail _ (.head _)) (ht J)),
  ⟨dB 3 J J J (bX kq d9 J J),
  ⟨bT 10 4 J J J (bh cg J J),
  ⟨cK 9 3 11 5 J J J J (bF qP iy J (lJ (ht J)) (ht J) q_e),
  ⟨bT 12 6 J J J (bh iy J J),
  ⟨dB 0 J J J (cX J),
  ⟨bT 14 8 J J J (dQ (ht J)),
  ⟨bT 15 9 J J J (je 1 rl J J J),
  ⟨bT 16 10 J J J (dx zf J (.head _) (.tail _ (.head _)) (ht J)),
  ⟨dB 3 J J J (bX sG kV J J),
  ⟨bT 18 12 J J J (bh cg J J),
  ⟨cK 17 11 19 13 J J J J (bF qP iy J (lJ (ht J)) (ht J) q_e1),
  ⟨bT 20 14 J J J (bh iy J J),
  ⟨cK 13 7 21 15 J J J J (bf (r:=ee) (ys:=[e,e1]) (xs:=[.tmp 13,.tmp 21]) qP iy J J J J J ⟨(ht J),(ht J),aL⟩),
  ⟨bT 22 16 J J J (ap ac3 (YF _ q_r1) ⟨(ht J),aL⟩),
  ⟨bT 23 17 J J J (rN J),
  ⟨NX J J (bW),
  aL⟩⟩⟩⟩⟩⟩⟩⟩⟩⟩⟩⟩⟩⟩⟩⟩⟩⟩⟩⟩ ?_
 refine ax<|aj<|aM<|aM<|aM ?_;cases so h;exact eN (ts:=[cq (dg) r1,bM 0]) (rvs:=[.tmp 4,.tmp 5]) J J ⟨aK J,aK J,aL⟩ pj J J

theorem VS(order:(List ig))(a1:(List ac))(b:(List ac)){R:Int}(h:oq order a1 b=some R):aR aU 154 [cq (af) a1,cq (af) b,bN (ik hT) order] (bM R):=by
 refine aR.of Tryz.func154 J J J fun w0 S0=>av<|zo J (bW)<|aq<|ah<|av<|zo J (bh JN J J)<|zo J (jw AM J)<|zo J (bJ hI)<|aq<|aC<|bp (k:=9) J fun hN=>bQ ?_;refine ba (fK (Z:=fun ls i=>(order.drop i=ls)∧jI a1 b ls=some R) (Of:=fun _ i=>[]) (Gf:=fun _ i=>[(0,cq (af) a1),(1,cq (af) b),(9,cq (hT) order),(10,ky order),(11,bM (i:Int))]) (fun i h=>?_) (fun e tl ih i h=>?_) order 0 ⟨J,h⟩) (bD J)
 ·obtain⟨hx,h⟩:=h
  refine aG<|av<|zo J (fY J J)<|aq<|ah<|bL (ht J) (dO hx)<|bG ?_;refine ak (ak (aV ?_));refine ax<|av<|aE rfl<|aE rfl<|bo h fun r q_r h=>zo J (ap aaI (So _ _ q_r) ⟨(ht J),(ht J),aL⟩)<|bg J<|aq<|aj ?_;cases so h;exact aH J J
 ·obtain⟨hx,h⟩:=h
  refine aG<|av<|zo J (fY J J)<|aq<|ah<|bK (ht J) (dL hx)<|df<|ah<|aC<|av<|zo J (ne AM JM J J J (dA hx))<|zo J (bh JM J J)<|aP (r:=hT) (x:=(⟨(0:Int),false⟩:ig)) JM (fun _=>XQ _) J fun b1=>am JM J ai J (ht J) (ht J)<|aY 7 J<|aq<|ah<|bo h fun e1 q_e1 h=>bo h fun e2 q_e2 h=>?_
  obtain⟨r1,q_r1,h⟩:=bs h
  refine cD (ts:=[_,_,_,_,_,_,_,_,_,_,_,_]) mixed J J
   ⟨dB 0 J J J (cX J),
   ⟨dB 7 J J J (bX IL Bo J J),
   ⟨bT 16 1 J J J (bh cg J J),
   ⟨cK 15 0 17 2 J J J J (ne iw au J J J q_e1),
   ⟨bT 18 3 J J J (bh au J J),
   ⟨dB 1 J J J (cX J),
   ⟨dB 7 J J J (bX IL Bo J J),
   ⟨bT 21 6 J J J (bh cg J J),
   ⟨cK 20 5 22 7 J J J J (ne iw au J J J q_e2),
   ⟨bT 23 8 J J J (bh au J J),
   ⟨cK 19 4 24 9 J J J J (ap Ta (I5 _ _ q_r1) ⟨(ht J),(ht J),aL⟩),
   ⟨bT 25 10 J J J (rN J),
   aL⟩⟩⟩⟩⟩⟩⟩⟩⟩⟩⟩⟩ ?_
  refine ax ?_;refine i6 (Z:=fun n=>oo (jI a1 b tl) n=some R) (Of:=fun n=>[]) (Gf:=fun n=>[(0,cq (af) a1),(1,cq (af) b),(8,bM n),(9,cq (hT) order),(10,ky order),(11,bM (i:Int))]) (fun n h=>?_) (fun K=>?_)
  ·skip
   refine av<|aE J<|zo J (sx J)<|aq<|ce h J (fun h=>?_) (fun h=>?_)
   ·refine av<|aE J<|bg J<|aq<|aj ?_;refine aB (ae (ae (aB (ae ?_))));cases so h;exact aH J J
   ·refine bA<|aw<|ax<|aA<|zo rfl (nf (dd hx hN) rfl)<|aE rfl<|aQ ?_;exact bn (ba (ih (i+1) ⟨dc hx,h⟩) (bD J))
  ·skip
   refine av<|zo J (bX YE Sa J J)<|zo J (bh yy J J)<|aq<|ce h J (fun h=>?_) (fun h=>?_)
   ·refine aA<|aE J<|zo J (Ir (ht J))<|bg J<|aQ ?_;exact ci (K (IntKind.i64.wrap (0-r1)) h) (bD J)
   ·refine bA ?_;exact ci (K r1 h) (bD J)

theorem YG(order:(List ig)){R:((List ac)→(List ac)→Option Int)}(h:Cv order=some R):aR aU 89 [cq (hT) order] ((ei aU F1 ze (fun(x:(List ac)×(List ac))=>R x.1 x.2))):=by
 refine aR.of Tryz.func89 J J J fun w0 S0=>av<|zo J (gi J)<|zo J (aT hV)<|aq<|av<|zo J ((show bZ _ _ _ _ ((ei aU F1 ze (fun(x:(List ac)×(List ac))=>(oq order) x.1 x.2)))from i8 (cts:=[bN (ik hT) order]) (caps:=[.tmp 1]) ace ⟨(ht J),aL⟩ (fun x y h=>VS _ _ _ h)))<|bg J<|aq<|aj ?_;cases so h;exact aH J J

theorem UE(rows:(List (List ac)))(order:(List ig))(limit:Int){R:(List (List ac))}(h:o6 rows order limit=some R):gA aU 86 [cq (dg) rows,cq (hT) order,bM limit] false dg 43 R:=by
 refine gA.of Tryz.func86 J J J fun w0 S0=>av<|ca false dg 43<|zo J (aT tg)<|aq<|av<|ca false dg 43<|zo J (aT tg)<|aq<|ah<|av<|aE J<|zo J (jw jN J)<|zo J (bJ hI)<|aq<|aC<|bp (k:=10) J fun hN=>bQ ?_;refine iq<|rL ?_;refine ba (kX (Z:=fun ls i out l c=>(rows.drop i=ls)∧kK order limit ls out=some R) (Of:=fun _ i out l c=>[fL dg 43 l c out]) (Gf:=fun _ i out l c=>[(1,cq (hT) order),(2,bM limit),(7,sw l c out),(10,cq (dg) rows),(11,ky rows),(12,bM (i:Int))]) (fun i out l c h=>?_) (fun e tl ih i out l c h=>?_) rows 0 HP none 0 ⟨J,h⟩) (bD J)
 ·obtain⟨hx,h⟩:=h
  refine aG<|av<|zo J (fY J J)<|aq<|ah<|bL (ht J) (dO hx)<|bG ?_;refine ak (ak (aV ?_));refine ax<|av<|aE rfl<|aE rfl<|bo h fun r q_r h=>zo J (ap ac6 (YG _ q_r) ⟨(ht J),aL⟩)<|bo h fun u0 q_srt h=>?_;refine FG (n:=out.length) wS ?_ S7 ?_ q_srt ?_ ?_ ?_ ?_ ?_
  ·rfl
  ·rfl
  ·exact(ht J)
  ·rfl
  ·exact(ht J)
  ·rfl
  intro hl
  refine o7 hl 7 J<|o7 hl 22 J<|aq ?_;refine vV (Z:=fun out1 l1 c1=>oI out1=some R) (Of:=fun out1 l1 c1=>[fL dg 43 l1 c1 out1]) (Gf:=fun out1 l1 c1=>[(7,sw l1 c1 out1)]) (fun out1 l1 c1 h=>?_) (fun K=>?_)
  ·skip
   refine av<|aE J<|bg J<|aq<|aj ?_;cases so h;exact gK J J
  ·skip
   refine av<|aE J<|zo J (gh (ht J) hI)<|aE J<|co J J (fun hg=>cX J)<|co J J (fun hg=>cX J)<|co J J (fun hg=>jB jN (.head _) (bm J hg))<|co J J (fun hg=>dJ (bm J hg) (bm J hg))<|zo J (pH J J)<|aq<|ce h J (fun h=>?_) (fun h=>?_)
   ·refine aA<|aE J<|aE J<|bo h fun y q_y h=>zo J (lx jN eg J (.head _) (ht J) (ht J) q_y)<|wT q_y<|bg J<|aQ ?_;exact ci (K y l c h) (bD J)
   ·refine bA ?_;exact ci (K u0 l c h) (bD J)
 ·obtain⟨hx,h⟩:=h
  refine aG<|av<|zo J (fY J J)<|aq<|ah<|bK (ht J) (dL hx)<|df<|ah<|aC<|av<|zo J (ne jN eg J J J (dA hx))<|zo J (bh eg J J)<|bg J<|aq<|aA<|aE J<|aE J<|bo h fun r1 q_r1 h=>jh Tc (Fk _ q_r1) ⟨(ht J),aL⟩ J fun l2 c2=>?_;refine kO<|jM 18 J<|zo J (bf (r:=dg) (ys:=[r1]) (xs:=[.tmp 18]) jN eg J J J J J ⟨(lJ (ht J)),aL⟩)<|bq<|bo h fun out2 q_out2 h=>cV eg J J J J jN J J (ht J) (ht J) q_out2 fun l3 c3=>bg J<|aQ<|aw<|ax<|aA<|zo rfl (nf (dd hx hN) rfl)<|aE rfl<|aQ<|bI<|aZ ?_;exact bn (ba (ih (i+1) out2 l3 c3 ⟨dc hx,h⟩) (bD J))
theorem YH(rows:(List (List ac)))(order:(List ig))(limit:Int){R:(List (List ac))}(h:o6 rows order limit=some R):aR aU 86 [cq (dg) rows,cq (hT) order,bM limit] (cq (dg) R):=(UE _ _ _ h).spec

end Go.Proofs.YtfhhakidodmdfaaGreatDoor

