/- di of this claim: P1. -/
import Derived.Test.YtfhhakidodmdfaaGreatDoorJcT
import Derived.Test.YtfhhakidodmdfaaGreatDoorJcP0
set_option linter.all false
namespace Go.Proofs.YtfhhakidodmdfaaGreatDoor
open Go
set_option maxRecDepth 100000

theorem IR(e:bS){R:Int}(h:ol e=some R):aR aU 75 [tD ck e] (bM R):=by
 refine aR.of Tryz.func75 J J J fun w0 S0=>av<|zo J (gi J)<|zo J (bW)<|aq<|ah<|av<|zo J (bh k5 J J)<|bo h fun r q_r h=>zo J (ap acq (V4 _ q_r) ⟨(ht J),aL⟩)<|aE J<|zo J (dX J J)<|zo J (dX J J)<|bg J<|bg J<|aq<|av<|aE J<|zo J (cx (ht J)) ?_;refine aq<|ce h J (fun h=>?_) (fun h=>?_)
 ·refine av<|zo J (bW)<|aq<|aj<|ae ?_;cases so h;exact aH J J
 ·refine df<|av<|zo J (bW)<|aq<|aj ?_;cases so h;exact aH J J

theorem aai(l:Option Nat)(c:Nat)(s:(List Int)){R:(List Int)}(h:km s=some R):dl aU 91 [sw l c s] [fL cj 3 l c s] (fun i:OI=>sw (i.h 0).1 (i.h 0).2 R) (fun i=>[fL cj 3 (i.h 0).1 (i.h 0).2 R]):=by
 refine dl.of Tryz.func91 J J J fun w0 S0=>av<|ca false cj 3<|zo J (aT tg)<|aq<|ah<|av<|aE J<|zo J (jB iv (.tail _ (.head _)) (ht J))<|zo J (dJ (ht J) hI)<|aq<|ce h J (fun h=>?_) (fun h=>?_)
 ·refine av<|aE J<|bg J<|aq<|aj<|ae<|aZ ?_;cases so h;exact nv J (oi l c) J J (fun _ _ h=>h)
 ·refine df<|ah<|av<|zo J (bW)<|aq<|aC<|oN (.tail _ (.head _)) fun hN=>bQ<|rL ?_;refine ba (fK (Z:=fun ls i=>(s.drop i=ls)∧fh s ls i=some R) (Of:=fun _ i=>[fL cj 3 l c s]) (Gf:=fun _ i=>[(0,sw l c s),(3,bM (i:Int))]) (fun i h=>?_) (fun e tl ih i h=>?_) (s.drop (1)) 1 ⟨J,h⟩) (bD J)
  ·obtain⟨hx,h⟩:=h
   refine aG<|ah<|av<|aE J<|aE J<|zo J (jB iv (.head _) (ht J))<|zo J (fY J J)<|aq<|bL (ht J) (dO hx)<|bG ?_;refine ak (ak (aV ?_));refine ax<|av<|aE rfl<|bg rfl<|aq<|aj ?_;cases so h;exact nv J (oi l c) J J (fun _ _ h=>h)
  ·obtain⟨hx,h⟩:=h
   refine aG<|ah<|av<|aE J<|aE J<|zo J (jB iv (.head _) (ht J))<|zo J (fY J J)<|aq<|bK (ht J) (dL hx)<|df<|ah<|aC<|ah<|bo h fun e1 q_e1 h=>?_
   refine cD (ts:=[_,_,_,_,_,_,_,_,_,_]) mixed J J
    ⟨dB 0 J J J (cX J),
    ⟨dB 3 J J J (cX J),
    ⟨cK 16 0 17 1 J J J J (cB iv cg (.head _) (ht J) (ht J) (dA hx)),
    ⟨bT 18 2 J J J (fJ (r:=cj) (i:=(i:Int)) (foff:=0) cg J J bw J (.head _) (dA hx) (ht J)),
    ⟨dB 0 J J J (cX J),
    ⟨dB 3 J J J (cX J),
    ⟨bT 21 5 J J J (ft (ht J) hI),
    ⟨cK 20 4 22 6 J J J J (cB iv cg (.head _) (ht J) (ht J) q_e1),
    ⟨bT 23 7 J J J (fJ (r:=cj) (i:=(IntKind.i64.wrap ((i:Int)-(1:Int)))) (foff:=0) cg J J bw J (.head _) q_e1 (ht J)),
    ⟨cK 19 3 24 8 J J J J (cd (ht J) (ht J)),
    aL⟩⟩⟩⟩⟩⟩⟩⟩⟩⟩ ?_
   refine ax<|ce h rfl (fun h=>?_) (fun h=>?_)
   ·refine av<|aE J<|aE J<|bo h fun y q_y h=>zo J (n9 iv cg J (.head _) (ht J) (ht J) q_y)<|nc (.head _) q_y fun hv=>bg J<|aq<|ah<|av<|zo J (bW)<|aq<|aC<|bQ ?_;refine ba (BS (Z:=fun k1 i1 s1 k=>(y.length-i1=k1)∧eD i y k1 i1 s1 k=some R) (Of:=fun _ i1 s1 k=>[fL cj 3 l c s1]) (Gf:=fun _ i1 s1 k=>[(0,sw l c s1),(3,bM k),(4,tV (oQ 1 l c (i:Int).toNat y.length)),(5,bM (i1:Int))]) (fun i1 s1 k h=>?_) (fun k2 ih1 i1 s1 k h=>?_) (y.length-1) 1 s (i:Int) ⟨J,h⟩) (bD J)
    ·obtain⟨hx1,h⟩:=h
     refine aG<|ah<|av<|aE J<|aE J<|zo J (DK iv hv.1 (ht J))<|zo J (fY J J)<|aq<|bL (ht J) (Qg hx1)<|bG ?_;refine ak (ak (aV ?_));refine ax<|av<|aE rfl<|aE rfl<|bo h fun y1 q_y1 h=>zo J (n9 iv cg J (.head _) (ht J) (ht J) q_y1)<|nc (.head _) q_y1 fun hv1=>bo h fun cl q_cl h=>Hv cg J J iv (fun _=>J) J q_y1 (ht J) (so q_cl)<|iZ (yX q_y1 (so q_cl)) 0 J<|iZ (yX q_y1 (so q_cl)) 54 J<|aq<|av<|aE J<|aE J<|bo h fun y2 q_y2 h=>zo J (lx iv cg J (.head _) (ht J) (ht J) q_y2)<|wT q_y2<|bg J<|aq ?_;refine aj ?_;refine aB (ae (ae (aB (ae ?_))));cases so h;exact nv J (oi l c) J J (fun _ _ h=>h)
    ·obtain⟨hx1,h⟩:=h
     refine aG<|ah<|av<|aE J<|aE J<|zo J (DK iv hv.1 (ht J))<|zo J (fY J J)<|aq<|bK (ht J) (Qf hx1)<|df<|ah<|aC<|ah<|bo h fun e3 q_e3 h=>bo h fun e4 q_e4 h=>?_
     refine cD (ts:=[_,_,_,_,_,_,_,_,_,_]) mixed J J
      ⟨dB 4 J J J (cX J),
      ⟨dB 5 J J J (cX J),
      ⟨cK 35 0 36 1 J J J J (nE iv cg J (.head _) (ta q_y) (ht J) (ht J) q_e3),
      ⟨bT 37 2 J J J (fJ (r:=cj) (i:=((i:Int)+(i1:Int))) (foff:=0) cg J J bw J (.head _) (re q_e3).2.2 (ht J)),
      ⟨dB 4 J J J (cX J),
      ⟨dB 5 J J J (cX J),
      ⟨bT 40 5 J J J (ft (ht J) hI),
      ⟨cK 39 4 41 6 J J J J (nE iv cg J (.head _) (ta q_y) (ht J) (ht J) q_e4),
      ⟨bT 42 7 J J J (fJ (r:=cj) (i:=((i:Int)+(IntKind.i64.wrap ((i1:Int)-(1:Int))))) (foff:=0) cg J J bw J (.head _) (re q_e4).2.2 (ht J)),
      ⟨cK 38 3 43 8 J J J J (c9 (ht J) (ht J)),
      aL⟩⟩⟩⟩⟩⟩⟩⟩⟩⟩ ?_
     refine ax<|ce h rfl (fun h=>?_) (fun h=>?_)
     ·refine av<|aE J<|aE J<|aE J<|aE J<|bo h fun e5 q_e5 h=>zo J (nE iv cg J (.head _) (ta q_y) (ht J) (ht J) q_e5)<|zo J (fJ (r:=cj) (i:=((i:Int)+(i1:Int))) (foff:=0) cg J J bw J (.head _) (re q_e5).2.2 (ht J))<|bo h fun e6 q_e6 h=>zo J (cB iv cg (.head _) (ht J) (ht J) q_e6)<|bo h fun st q_st h=>tq cg J ai J q_e6 (so q_st) (ht J) (ht J)<|iZ (mM (so q_st)) 0 J<|iZ (mM (so q_st)) 45 J<|aq<|aA<|aE J<|zo J (fV (ht J) hI)<|bg J<|aQ<|aw<|ax ?_;refine aA<|aE J<|zo J (rF (Iz hx1 (Ul hv.2)) (ht J) hI)<|bg J<|aQ ?_;exact bn (ba (ih1 (i1+1) st (IntKind.i64.wrap (k+(1:Int))) ⟨Iy hx1,h⟩) (bD J))
     ·refine bA<|aw<|ax<|aA<|aE rfl<|zo rfl (rF (Iz hx1 (Ul hv.2)) (ht rfl) hI)<|bg rfl<|aQ ?_;exact bn (ba (ih1 (i1+1) s1 k ⟨Iy hx1,h⟩) (bD J))
   ·refine bA<|aw<|ax<|aA<|aE rfl<|zo rfl (nf (dd hx hN) rfl)<|bg rfl<|aQ ?_;exact bn (ba (ih (i+1) ⟨dc hx,h⟩) (bD J))

theorem Le(e:bS){R:(List Int)}(h:tm e=some R):gA aU 181 [tD ck e] false cj 3 R:=by
 refine gA.of Tryz.func181 J J J fun w0 S0=>av<|zo J (gi J)<|ca false cj 3<|zo J (aT tg)<|aq<|ah<|av<|zo J (bh k5 J J)<|bo h fun r q_r h=>zo J (ap Wm (IR _ q_r) ⟨(ht J),aL⟩)<|zo J (sx J)<|aq<|ce h J (fun h=>?_) (fun h=>?_)
 ·refine av<|ca false cj 3<|zo J (aT tg)<|aq<|aj<|ae ?_;cases so h;exact gK J J
 ·refine df<|av<|ca false cj 3<|zo J (aT tg)<|aq<|ah<|av<|zo J (bX ku fQ J J)<|zo J (bh sQ J J)<|zo J (jw p6 J)<|zo J (bJ hI)<|aq<|aC<|bp (k:=10) J fun hN=>bQ<|iq<|rL ?_;refine ba (kX (Z:=fun ls i out l c=>(e.Nodes.drop i=ls)∧mY ls out=some R) (Of:=fun _ i out l c=>[fL cj 3 l c out]) (Gf:=fun _ i out l c=>[(3,sw l c out),(10,cq (bO) e.Nodes),(11,ky e.Nodes),(12,bM (i:Int))]) (fun i out l c h=>?_) (fun e1 tl ih i out l c h=>?_) e.Nodes 0 vn none 0 ⟨J,h⟩) (bD J)
  ·obtain⟨hx,h⟩:=h
   refine aG<|av<|zo J (fY J J)<|aq<|ah<|bL (ht J) (dO hx)<|bG ?_;refine ak (ak (aV ?_));refine ax<|av<|aE rfl<|bo h fun u0 q_srt h=>?_;refine Tn (n:=out.length) (ys:=u0) Jg ?_ ac5 ?_ ?_ ?_ ?_ ?_
   ·rfl
   ·exact q_srt
   ·exact(ht J)
   ·rfl
   ·rfl
   intro hl
   refine o7 hl 3 J<|o7 hl 25 J<|aq<|av<|aE J<|bo h fun r1 q_r1 h=>BQ [fL cj 3 l c u0] _ J ac4 (aai l c _ q_r1) ⟨(ht J),aL⟩ J fun i1=>?_;refine(show RG _ _ _ _ [fL cj 3 (i1.h 0).1 (i1.h 0).2 r1] ((28,sw (i1.h 0).1 (i1.h 0).2 r1)::_)from ?_);refine bg J<|aq<|aj ?_;cases so h;exact gK J J
  ·obtain⟨hx,h⟩:=h
   refine aG<|av<|zo J (fY J J)<|aq<|ah<|bK (ht J) (dL hx)<|df<|ah<|aC<|av<|zo J (ne p6 lI J J J (dA hx))<|zo J (bh lI J J)<|aP (r:=bO) (x:=JC) lI (fun _=>qa _) J fun b=>am lI J ai J (ht J) (ht J)<|aY 5 J<|aq<|av<|zo J (bX mS fz J J) ?_;refine zo J (bh cg J J)<|zo J (hM J)<|aq<|ce h J (fun h=>?_) (fun h=>?_)
   ·refine aA<|aE J<|zo J (bX qw iO J J)<|zo J (bh cg J J)<|zo J (bf (r:=cj) (ys:=[e1.Col]) (xs:=[.tmp 21]) iv cg J J J J J ⟨(ht J),aL⟩)<|bo h fun out1 q_out1 h=>cV cg J J J J iv J J (ht J) (ht J) q_out1 fun l2 c2=>bg J<|aQ<|aw<|ax<|aA<|zo rfl (nf (dd hx hN) rfl)<|aE rfl<|aQ ?_;exact bn (ba (ih (i+1) out1 l2 c2 ⟨dc hx,h⟩) (bD J))
   ·refine bA<|aw<|ax<|aA<|zo rfl (nf (dd hx hN) rfl)<|aE rfl<|aQ ?_;exact bn (ba (ih (i+1) out l c ⟨dc hx,h⟩) (bD J))
theorem IS(s:(List Int)){R:(List Int)}(h:cM s=some R):gA aU 73 [mH s] false cj 3 R:=by
 refine gA.of Tryz.func73 J J J fun w0 S0=>av<|ca false cj 3<|zo J (aT tg)<|aq<|ah<|av<|aE J<|uf iv (ht J) J fun isnil hisnil=>aq<|pg (ht J) (fun hc=>?_) (fun hc=>?_)
 ·have hx:=hisnil hc
  have h:some vn=some R:=by simpa [cM,app,hx] using h
  refine av<|ca false cj 3<|zo J (aT tg)<|aq<|aj<|ae ?_;cases so h;exact gK J J
 ·refine df<|av<|kG (r:=cj) (ys:=vn) (xs:=[]) iv cg J J J J J trivial J fun l c=>aE J<|bo h fun x q_x h=>cV cg J J J J iv J J (ht J) (ht J) q_x fun l1 c1=>bg J<|aq<|aj ?_;cases so h;exact gK J J
theorem Sm(s:(List Int)){R:(List Int)}(h:cM s=some R):aR aU 73 [mH s] (mH R):=(IS _ h).spec

theorem aaj{l:Option Nat}{c:Nat}{xs s:List Int}{lo:Int}{R:List Int}(hs:dP xs lo (xs.length:Int)=some s)(h:cM s=some R):dl aU 73 [tV (oQ 1 l c lo.toNat s.length)] [fL cj 3 l c xs] (fun i:OI=>sw (i.h 0).1 (i.h 0).2 R) (fun i=>[fL cj 3 (i.h 0).1 (i.h 0).2 R,fL cj 3 l c xs]):=by
 refine dl.of Tryz.func73 J J J fun w0 S0=>av<|zo J (aT tg)<|aq<|ah<|av<|aE J<|Ht (r:=cj) iv (.head _) hs (ht J) J fun isnil hisnil=>aq<|pg (ht J) (fun hc=>?_) (fun hc=>?_)
 ·have hx:=hisnil hc
  have h:some vn=some R:=by simpa [cM,app,hx] using h
  refine av<|ca false cj 3<|zo J (aT tg)<|aq<|aj<|ae ?_;cases so h;exact nv J (oi none 0) J J (fun _ _ h=>h)
 ·refine df<|av<|kG (r:=cj) (ys:=vn) (xs:=[]) iv cg J J J J J trivial J fun l1 c1=>aE J<|bo h fun x q_x h=>FI cg J J J J iv J J (ht J) (.tail _ (.head _)) hs (ht J) q_x fun l2 c2=>bg J<|aq<|aj ?_;cases so h;exact nv J (oi l2 c2) J J (fun _ _ h=>h)

theorem YU(b:Nat)(l:Option Nat)(c:Nat)(stack:(List Int))(k:Int){R:(List Int)×(List Int)}(h:pf stack k=some R):dl aU 366 [bM k,tV (aS b 0)] [bx rV 39 b (bc l c stack.length),fL cj 3 l c stack] (fun i:OI=>mH R.1) (fun i=>[bx rV 39 b (bc (i.h 0).1 (i.h 0).2 R.2.length),fL cj 3 (i.h 0).1 (i.h 0).2 R.2]):=by
 refine dl.of Tryz.func366 J J J fun w0 S0=>av<|zo J (aT (show aO _ _ _ xB from kJ))<|aq<|av<|zo J (im eQ (.head _) (ht J))<|zo J (im eQ (.head _) (ht J))<|zo J (jB iv (.tail _ (.head _)) (ht J))<|aE J<|zo J (ft (ht J) (ht J))<|bo h fun y q_y h=>zo J (n9 iv cg J (.tail _ (.head _)) (ht J) (ht J) q_y)<|nc (.tail _ (.head _)) q_y fun hv=>bq<|bo h fun r q_r h=>BQ [fL cj 3 l c stack] _ J SS (aaj q_y q_r) ⟨(ht J),aL⟩ J fun i=>?_;refine(show RG _ _ _ _ [fL cj 3 (i.h 0).1 (i.h 0).2 r,fL cj 3 l c stack,bx rV 39 b (bc l c stack.length)] _ from ?_);refine bg J<|aq<|av<|zo J (im eQ (.tail _ (.tail _ (.head _))) (ht J))<|zo J (im eQ (.tail _ (.tail _ (.head _))) (ht J))<|zo J (jB iv (.tail _ (.head _)) (ht J))<|aE J<|zo J (ft (ht J) (ht J))<|bo h fun y1 q_y1 h=>zo J (lx iv cg J (.tail _ (.head _)) (ht J) (ht J) q_y1)<|bq<|wT q_y1<|gj<|am eQ J ai J (ht J) (R1 (ht J))<|aq<|av<|aE J<|bg J<|aq ?_;refine aj<|aM<|jS<|cP 3 J<|cP 11 J<|cP 4 J<|cP 18 J<|jT 3 J<|aZ<|bI<|bI ?_;cases so h;exact nv J (oi l c) J J (fun _ _ h=>h)

theorem UL(e:bS)(do1:(bC→(List Int)→Option (Int×Int))){R:Int×Int}(h:o5 e do1=some R):aR aU 345 [tD ck e,(ei aU TN TM (fun(x:bC×(List Int))=>do1 x.1 x.2))] (tT [bM R.1,bM R.2]):=by
 refine aR.of Tryz.func345 J J J fun w0 S0=>av<|zo J (gi J)<|zo J (bW)<|zo J (bW)<|aq<|LR<|av<|ca false cj 3<|aP (x:=bc none 0 0) eQ (fun _=>EN) J fun b=>aq<|av<|zo J (bW)<|aq<|av<|zo J (Kw (cts:=[tV (aS b 0)]) (caps:=[.tmp 6]) ⟨(ht J),aL⟩)<|bg J ?_;refine aq<|av<|zo J (bW)<|aq<|ah<|LS<|ax<|ah<|av<|zo rfl (bX ku fQ rfl rfl)<|zo rfl (bh sQ rfl rfl)<|zo rfl (jw p6 rfl)<|zo rfl (bJ hI)<|aq ?_;refine HG (Z:=fun bad stack l c=>mn bad stack=some R) (Of:=fun bad stack l c=>[bx rV 39 b (bc l c stack.length),fL cj 3 l c stack]) (Gf:=fun bad stack l c=>[(6,tV (aS b 0)),(7,bM 0),(9,bM bad)]) (fun bad stack l c h=>?_) (fun K=>?_)
 ·skip
  refine ax<|ah<|av<|aE rfl<|zo rfl (sx rfl)<|aq<|ce h rfl (fun h=>?_) (fun h=>?_)
  ·refine av<|aE J<|aE J<|bg J<|bg J<|aq<|aj ?_;refine ae (y8 ?_);refine aZ<|aZ ?_;cases so h;exact cW J J J
  ·refine df<|av<|zo J (im eQ (.head _) (ht J))<|bo h fun e1 q_e1 h=>zo J (cB iv cg (.tail _ (.head _)) (ht J) hI q_e1)<|zo J (fJ (r:=cj) (i:=(0:Int)) (foff:=0) cg J J bw J (.tail _ (.head _)) q_e1 (ht J))<|bg J<|zo J (bW)<|aq<|aj<|y8<|aZ<|aZ ?_;cases so h;exact cW J J J
 ·skip
  refine bp (k:=16) J fun hN=>bQ ?_;refine ba (su (Z:=fun ls i bad1 stack1 l1 c1=>(e.Nodes.drop i=ls)∧ip do1 ls bad1 stack1=some R) (Of:=fun _ i bad1 stack1 l1 c1=>[bx rV 39 b (bc l1 c1 stack1.length),fL cj 3 l1 c1 stack1]) (Gf:=fun _ i bad1 stack1 l1 c1=>[(1,(ei aU TN TM (fun(x:bC×(List Int))=>do1 x.1 x.2))),(6,tV (aS b 0)),(7,bM 0),(8,tC 366 [tV (aS b 0)]),(9,bM bad1),(16,cq (bO) e.Nodes),(17,ky e.Nodes),(18,bM (i:Int))]) (fun i bad1 stack1 l1 c1 h=>?_) (fun e2 tl ih i bad1 stack1 l1 c1 h=>?_) e.Nodes 0 (0:Int) vn none 0 ⟨J,h⟩) (bD J)
  ·obtain⟨hx,h⟩:=h
   refine aG<|av<|zo J (fY J J)<|aq<|ah<|bL (ht J) (dO hx)<|bG ?_;refine ak (ak (aV ?_));exact ci (K bad1 stack1 l1 c1 h) (bD J)
  ·obtain⟨hx,h⟩:=h
   refine aG<|av<|zo J (fY J J)<|aq<|ah<|bK (ht J) (dL hx)<|df<|ah<|aC<|av<|zo J (ne p6 lI J J J (dA hx))<|zo J (bh lI J J)<|aP (r:=bO) (x:=JC) lI (fun _=>qa _) J fun b1=>am lI J ai J (ht J) (ht J)<|aY 11 J<|aq<|ah<|bo h fun r q_r h=>bo h fun r1 q_r1 h=>?_
   obtain⟨r2,q_r2,h⟩:=bs h
   refine oy 12 [tc ((ei aU TN TM (fun(x:bC×(List Int))=>do1 x.1 x.2))),tc (tD bO e2),tc (tC 366 [tV (aS b 0)]),tc (bN cj e2.Tag),tc (bM e2.Tag),tc (bM r),tc (mH r1.1),tc (tT [bM r2.1,bM r2.2]),tc (tT [bM r2.1,bM r2.2]),tc (bM r2.1),tc (bM r2.2),tc (bM r2.1)] [false,false,false,false,false,false,true,false,false,false,false,false] [fun _=>[bx rV 39 b (bc l1 c1 stack1.length),fL cj 3 l1 c1 stack1],fun sg=>[bx rV 39 b (bc ((sg 6).h 0).1 ((sg 6).h 0).2 r1.2.length),fL cj 3 ((sg 6).h 0).1 ((sg 6).h 0).2 r1.2]] J mixed J J J J J
    ⟨⟨[⟨1,fun _=>(ei aU XU XR (fun(x:bC×(List Int))=>do1 x.1 x.2)),none⟩],_,0,1,J,⟨(fun _=>J),aL⟩,J,J,J,J,J,fun _ sg _ _=>aD J (cX J)⟩,
    ⟨⟨[⟨11,fun _=>bN bO e2,none⟩],_,0,1,J,⟨(fun _=>J),aL⟩,J,J,J,J,J,fun _ sg _ _=>aD J (bh lI J J)⟩,
    ⟨⟨[⟨8,fun _=>tC 366 [tV (aS b 0)],none⟩],_,0,0,J,⟨(fun _=>J),aL⟩,J,J,J,J,J,fun _ sg _ _=>aD J (cX J)⟩,
    ⟨⟨[⟨11,fun _=>bN bO e2,none⟩],_,0,0,J,⟨(fun _=>J),aL⟩,J,J,J,J,J,fun _ sg _ _=>aD J (bX mS fz J J)⟩,
    ⟨⟨[⟨26,fun _=>bN cj e2.Tag,some 3⟩],_,0,0,J,⟨(fun _=>J),aL⟩,J,J,J,J,J,fun _ sg _ _=>aD J (bh cg J J)⟩,
    ⟨⟨[⟨27,fun _=>tD cj e2.Tag,some 4⟩],_,0,0,J,⟨(fun _=>J),aL⟩,J,J,J,J,J,fun _ sg _ _=>aD J (ap Pn (DX _ q_r) ⟨(ht J),aL⟩)⟩,
    ⟨⟨[⟨25,fun _=>tC 366 [tV (aS b 0)],some 2⟩,⟨28,fun _=>tD cj r,some 5⟩],_,J,⟨(fun _=>J),(fun _=>J),aL⟩,J,J,J,fun sg=>eF J (EffOK.fr1 (EffOK.fr1 (Ct (xs:=[.tmp 28]) (ts:=[tD cj r]) (cts:=[tV (aS b 0)]) [bx rV 39 b (bc l1 c1 stack1.length),fL cj 3 l1 c1 stack1] _ J aaK (YU b l1 c1 _ _ q_r1) (ht J) ⟨(ht J),aL⟩ (fun _=>J))))⟩,
    ⟨⟨[⟨23,fun _=>(ei aU XU XR (fun(x:bC×(List Int))=>do1 x.1 x.2)),some 0⟩,⟨24,fun _=>tD bO e2,some 1⟩,⟨29,fun _=>tD xA r1.1,some 6⟩],_,1,1,J,⟨(fun _=>J),(fun _=>J),(fun _=>J),aL⟩,J,J,J,J,J,fun _ sg _ _=>aD J (io (args:=XU) (res:=XR) (f:=(fun(x:bC×(List Int))=>do1 x.1 x.2)) (x:=((e2,r1.1):bC×(List Int))) (ht J) q_r2 ⟨(ht J),(ht J),aL⟩)⟩,
    ⟨⟨[⟨30,fun _=>tT [tD cj r2.1,tD cj r2.2],some 7⟩],_,1,1,J,⟨(fun _=>J),aL⟩,J,J,J,J,J,fun _ sg _ _=>aD J (cX J)⟩,
    ⟨⟨[⟨22,fun _=>tT [tD cj r2.1,tD cj r2.2],some 8⟩],_,1,1,J,⟨(fun _=>J),aL⟩,J,J,J,J,J,fun _ sg _ _=>aD J (dX J J)⟩,
    ⟨⟨[⟨22,fun _=>tT [tD cj r2.1,tD cj r2.2],some 8⟩],_,1,1,J,⟨(fun _=>J),aL⟩,J,J,J,J,J,fun _ sg _ _=>aD J (dX J J)⟩,
    ⟨⟨[⟨31,fun _=>tD cj r2.1,some 9⟩],_,1,1,J,⟨(fun _=>J),aL⟩,J,J,J,J,J,fun _ sg _ _=>aD J (rN J)⟩,
    aL⟩⟩⟩⟩⟩⟩⟩⟩⟩⟩⟩⟩ (fun sg=>?_)
   refine(show RG _ _ _ _ [bx rV 39 b (bc ((sg 6).h 0).1 ((sg 6).h 0).2 r1.2.length),fL cj 3 ((sg 6).h 0).1 ((sg 6).h 0).2 r1.2] _ from ?_);refine bg J<|aq<|ah<|av<|aE J<|zo J (sx J)<|aq<|ce h J (fun h=>?_) (fun h=>?_)
   ·refine av<|aE J<|bg J<|aq<|bG ?_;refine ak (cE J (ak (ak (aV ?_))));exact ci (K r2.2 r1.2 ((sg 6).h 0).1 ((sg 6).h 0).2 h) (bD J)
   ·refine df<|aA<|zo J (im eQ (.head _) (ht J))<|aE J<|zo J (bf (r:=cj) (ys:=[r2.1]) (xs:=[.tmp 37]) iv cg J J J J J ⟨(ht J),aL⟩)<|bq<|bo h fun l2 q_l2 h=>cV cg J J J J iv J J (ht J) (ht J) q_l2 fun l3 c2=>bq<|am eQ J ai J (ht J) (R1 (ht J))<|aQ<|aw<|ax<|aA<|zo rfl (nf (dd hx hN) rfl)<|aE rfl<|aQ ?_;exact bn (ba (ih (i+1) bad1 l2 l3 c2 ⟨dc hx,h⟩) (bD J))

theorem V7(tag:Int){R:Bool}(h:xa tag=some R):aR aU 123 [bM tag] (hJ R):=by
 refine aR.of Tryz.func123 J J J fun w0 S0=>av<|zo J (jU)<|aq<|av<|aE J<|zo J (hM J)<|aE J<|dD J J (fun hg=>cX J)<|dD J J (fun hg=>gh (bm J hg) hI)<|dD J J (fun hg=>bJ (bm J hg))<|cG J J J J (fun hg=>cX J)<|cG J J J J (fun hg=>jZ (bm J hg) hI)<|dD J J (fun hg=>jo (bm J hg) (fun hb=>(bm J (qD hg hb))))<|zo J (uo J J)<|bg J<|aq<|aj ?_;cases so h;exact aH J J

theorem UK(kinds:(List Int))(n:bC)(l:(List Int)){R:Int×Int}(h:jH kinds n l=some R):aR aU 346 [tD bO n,mH l,bN nQ kinds] (tT [bM R.1,bM R.2]):=by
 refine aR.of Tryz.func346 J J J fun w0 S0=>av<|zo J (gi J)<|zo J (bW)<|zo J (bW)<|aq<|av<|zo J (bW)<|aq<|ah<|av<|aE J<|zo J (jw iv J)<|zo J (bJ hI)<|aq<|aC<|bp (k:=12) J fun hN=>bQ ?_;refine ba (ox (Z:=fun ls i own=>(l.drop i=ls)∧mp kinds n ls own=some R) (Of:=fun _ i own=>[]) (Gf:=fun _ i own=>[(2,bN nQ kinds),(3,bN bO n),(7,bM own),(12,mH l),(13,ky l),(14,bM (i:Int))]) (fun i own h=>?_) (fun e tl ih i own h=>?_) l 0 (0:Int) ⟨J,h⟩) (bD J)
 ·obtain⟨hx,h⟩:=h
  refine aG<|av<|zo J (fY J J)<|aq<|ah<|bL (ht J) (dO hx)<|bG ?_;refine ak (ak (aV ?_));refine ax<|av<|aE rfl<|bg rfl<|aq<|av<|zo rfl (bW)<|aq<|ah<|aC<|av<|zo rfl (bX mS fz rfl rfl)<|zo rfl (bh cg rfl rfl)<|zo rfl (hM rfl)<|bg rfl<|aq<|ce h rfl (fun h=>?_) (fun h=>?_)
  ·refine av<|zo J (bX vb lP J J)<|zo J (bX cz br J J)<|zo J (bh cg J J)<|bg J<|zo J (bW)<|aq<|aj ?_;refine aB (ae ?_);cases so h;exact cW J J J
  ·refine av<|zo J (bX mS fz J J)<|zo J (bh cg J J)<|zo J (hM J)<|bg J<|aq<|ce h J (fun h=>?_) (fun h=>?_)
   ·refine av<|zo J (bh eQ J J)<|zo J (bX qw iO J J)<|zo J (bh cg J J)<|bo h fun e1 q_e1 h=>zo J (ne iv cg J J J q_e1)<|zo J (bh cg J J)<|bg J<|zo J (bW)<|aq<|aj ?_;refine aB (ae ?_);cases so h;exact cW J J J
   ·refine av<|zo J (bX mS fz J J)<|zo J (bh cg J J)<|bo h fun r q_r h=>zo J (ap acu (V7 _ q_r) ⟨(ht J),aL⟩)<|bg J<|aq<|ce h J (fun h=>?_) (fun h=>?_)
    ·refine aA<|zo J (bW)<|zo J (bW)<|aQ<|aw<|ax<|ah<|av<|aE rfl<|zo rfl (hM rfl)<|aE rfl<|dD rfl rfl (fun hg=>cX J)<|dD J J (fun hg=>c9 (bm J hg) hI)<|dD J J (fun hg=>bJ (bm J hg))<|cG J J J J (fun hg=>cX J)<|cG J J J J (fun hg=>cX J)<|cG J J J J (fun hg=>c9 (bm J hg) (bm J hg))<|dD J J (fun hg=>jo (bm J hg) (fun hb=>(bm J (qD hg hb))))<|zo J (uo J J)<|aq<|ce h J (fun h=>?_) (fun h=>?_)
     ·refine av<|zo J (bW)<|zo J (bW)<|aq<|aj<|ae ?_;cases so h;exact cW J J J
     ·refine df<|av<|aE J<|bg J<|zo J (bW)<|aq<|aj ?_;cases so h;exact cW J J J
    ·refine av<|zo J (bX mS fz J J)<|zo J (bh cg J J)<|zo J (hM J)<|aE J<|dD J J (fun hg=>bX mS fz J J)<|dD J J (fun hg=>bj cg J J (bm J hg))<|dD J J (fun hg=>cd (bm J hg) hI)<|zo J (uo J J)<|aE J<|dD J J (fun hg=>bX mS fz J J)<|dD J J (fun hg=>bj cg J J (bm J hg))<|dD J J (fun hg=>cd (bm J hg) hI)<|zo J (uo J J)<|bg J<|aq<|ce h J (fun h=>?_) (fun h=>?_)
     ·refine aA<|zo J (bW)<|aQ<|aw<|ax<|ah<|av<|aE rfl<|zo rfl (hM rfl)<|aE rfl<|dD rfl rfl (fun hg=>cX J)<|dD J J (fun hg=>c9 (bm J hg) hI)<|dD J J (fun hg=>bJ (bm J hg))<|cG J J J J (fun hg=>cX J)<|cG J J J J (fun hg=>cX J)<|cG J J J J (fun hg=>c9 (bm J hg) (bm J hg))<|dD J J (fun hg=>jo (bm J hg) (fun hb=>(bm J (qD hg hb))))<|zo J (uo J J)<|aq<|ce h J (fun h=>?_) (fun h=>?_)
      ·refine av<|zo J (bW)<|zo J (bW)<|aq<|aj<|ae ?_;cases so h;exact cW J J J
      ·refine df<|av<|aE J<|bg J<|zo J (bW)<|aq<|aj ?_;cases so h;exact cW J J J
     ·refine bA<|aw<|ax<|ah<|av<|aE rfl<|zo rfl (hM rfl)<|aE rfl<|dD rfl rfl (fun hg=>cX J)<|dD J J (fun hg=>c9 (bm J hg) hI)<|dD J J (fun hg=>bJ (bm J hg))<|cG J J J J (fun hg=>cX J)<|cG J J J J (fun hg=>cX J)<|cG J J J J (fun hg=>c9 (bm J hg) (bm J hg))<|dD J J (fun hg=>jo (bm J hg) (fun hb=>(bm J (qD hg hb))))<|zo J (uo J J)<|aq<|ce h J (fun h=>?_) (fun h=>?_)
      ·refine av<|zo J (bW)<|zo J (bW)<|aq<|aj<|ae ?_;cases so h;exact cW J J J
      ·refine df<|av<|aE J<|bg J<|zo J (bW)<|aq<|aj ?_;cases so h;exact cW J J J
 ·obtain⟨hx,h⟩:=h
  refine aG<|av<|zo J (fY J J)<|aq<|ah<|bK (ht J) (dL hx)<|df<|ah<|aC<|av<|zo J (ne iv cg J J J (dA hx))<|zo J (bh cg J J)<|bg J<|aq<|aC<|av<|aE J<|zo J (hM J) ?_;refine aE J<|dD J J (fun hg=>cX J)<|dD J J (fun hg=>cX J)<|dD J J (fun hg=>cd (bm J hg) (bm J hg))<|zo J (uo J J)<|bg J<|aq<|ce h J (fun h=>?_) (fun h=>?_)
  ·refine bA<|aw<|aw<|ax<|aA<|zo rfl (nf (dd hx hN) rfl)<|aE rfl<|aQ ?_;exact bn (ba (ih (i+1) own ⟨dc hx,h⟩) (bD J))
  ·refine av<|aE J<|zo J (hM J)<|bg J<|aq<|ce h J (fun h=>?_) (fun h=>?_)
   ·refine aA<|aE J<|bg J<|aQ<|aw<|aw<|ax<|aA<|zo rfl (nf (dd hx hN) rfl)<|aE rfl<|aQ ?_;exact bn (ba (ih (i+1) e ⟨dc hx,h⟩) (bD J))
   ·refine aA<|zo J (bW)<|aQ<|aw<|aw<|ax<|aA<|zo rfl (nf (dd hx hN) rfl)<|aE rfl<|aQ ?_;exact bn (ba (ih (i+1) wd ⟨dc hx,h⟩) (bD J))

theorem IW(e:bS)(kinds:(List Int)){R:Int×Int}(h:th e kinds=some R):aR aU 285 [tD ck e,mH kinds] (tT [bM R.1,bM R.2]):=by
 refine aR.of Tryz.func285 J J J fun w0 S0=>av<|zo J (gi J)<|zo J (gi J)<|zo J (bW)<|zo J (bW)<|aq<|ah<|av<|zo J (bh k5 J J)<|bo h fun r q_r h=>zo J (ap Wm (IR _ q_r) ⟨(ht J),aL⟩)<|bg J<|aq<|av<|aE J<|zo J (sx J)<|aq ?_;refine ce h J (fun h=>?_) (fun h=>?_)
 ·refine av<|aE J<|zo J (bW)<|bg J<|aq<|aj<|ae ?_;cases so h;exact cW J J J
 ·refine df<|ah<|av<|zo J (bh eQ J J)<|zo J (jw iv J)<|zo J (bJ hI)<|aq<|aC<|bp (k:=16) J fun hN=>bQ ?_;refine ba (fK (Z:=fun ls i=>(kinds.drop i=ls)∧qx e kinds ls=some R) (Of:=fun _ i=>[]) (Gf:=fun _ i=>[(2,bN ck e),(3,bN nQ kinds),(16,mH kinds),(17,ky kinds),(18,bM (i:Int))]) (fun i h=>?_) (fun e1 tl ih i h=>?_) kinds 0 ⟨J,h⟩) (bD J)
  ·obtain⟨hx,h⟩:=h
   refine aG<|av<|zo J (fY J J)<|aq<|ah<|bL (ht J) (dO hx)<|bG ?_;refine ak (ak (aV ?_));refine ax<|ah<|av<|zo rfl (bh k5 rfl rfl)<|bo h fun r1 q_r1 h=>jh Xz (Le _ q_r1) ⟨(ht J),aL⟩ J fun l c=>zo J (jB iv (.head _) (ht J))<|zo J (bJ hI)<|aq<|aC<|oN (.head _) fun hN1=>bQ ?_;refine ba (fK (Z:=fun ls1 i1=>(r1.drop i1=ls1)∧mX e kinds ls1=some R) (Of:=fun _ i1=>[fL cj 3 l c r1]) (Gf:=fun _ i1=>[(2,bN ck e),(3,bN nQ kinds),(30,sw l c r1),(31,ky r1),(32,bM (i1:Int))]) (fun i1 h=>?_) (fun e2 tl1 ih1 i1 h=>?_) r1 0 ⟨J,h⟩) (bD J)
   ·obtain⟨hx1,h⟩:=h
    refine aG<|av<|zo J (fY J J)<|aq<|ah<|bL (ht J) (dO hx1)<|bG ?_;refine ak (ak (aV ?_));refine ax<|av<|zo rfl (bh k5 rfl rfl)<|zo rfl ((show bZ _ _ _ _ ((ei aU TN TM (fun(x:bC×(List Int))=>(jH kinds) x.1 x.2)))from i8 (cts:=[bN nQ kinds]) (caps:=[.tmp 3]) aaN ⟨(ht J),aL⟩ (fun x y h=>UK _ _ _ h)))<|bo h fun r2 q_r2 h=>zo J (ap aaO (UL _ _ q_r2) ⟨(ht J),(ht J),aL⟩)<|zo J (dX J J)<|zo J (dX J J)<|bg J<|bg J<|aq<|aj<|aZ ?_;cases so h;exact cW J J J
   ·obtain⟨hx1,h⟩:=h
    refine aG<|av<|zo J (fY J J)<|aq<|ah<|bK (ht J) (dL hx1)<|df<|ah<|aC<|av<|zo J (cB iv cg (.head _) (ht J) (ht J) (dA hx1))<|zo J (fJ (r:=cj) (i:=(i1:Int)) (foff:=0) cg J J bw J (.head _) (dA hx1) (ht J))<|bg J<|aq<|av<|aE J<|zo J (bh eQ J J)<|zo J (jw iv J) ?_;refine zo J (gh (ht J) (ht J))<|aq<|ce h J (fun h=>?_) (fun h=>?_)
    ·refine av<|zo J (bW)<|zo J (bW)<|aq<|aj ?_;refine aB (ae (ae (aB (ae ?_))));refine aZ ?_;cases so h;exact cW J J J
    ·refine bA<|aw<|ax<|aA<|zo rfl (nf (dd hx1 hN1) rfl)<|aE rfl<|aQ ?_;exact bn (ba (ih1 (i1+1) ⟨dc hx1,h⟩) (bD J))
  ·obtain⟨hx,h⟩:=h
   refine aG<|av<|zo J (fY J J)<|aq<|ah<|bK (ht J) (dL hx)<|df<|ah<|aC<|av<|zo J (ne iv cg J J J (dA hx))<|zo J (bh cg J J)<|bg J<|aq<|av<|aE J<|zo J (dJ (ht J) hI)<|aE J ?_;refine dD J J (fun hg=>cX J)<|dD J J (fun hg=>iz (bm J hg) hI)<|zo J (uo J J)<|aq<|ce h J (fun h=>?_) (fun h=>?_)
   ·refine av<|zo J (bW)<|zo J (bW)<|aq<|aj ?_;refine aB (ae (ae (aB (ae ?_))));cases so h;exact cW J J J
   ·refine bA<|aw<|ax<|aA<|zo rfl (nf (dd hx hN) rfl)<|aE rfl<|aQ ?_;exact bn (ba (ih (i+1) ⟨dc hx,h⟩) (bD J))

end Go.Proofs.YtfhhakidodmdfaaGreatDoor

