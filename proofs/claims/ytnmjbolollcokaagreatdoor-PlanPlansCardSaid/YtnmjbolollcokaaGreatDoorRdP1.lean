/- dr of this claim: P1. -/
import Derived.Test.YtnmjbolollcokaaGreatDoorRdT
import Derived.Test.YtnmjbolollcokaaGreatDoorRdP0
set_option linter.all false
namespace Go.Proofs.YtnmjbolollcokaaGreatDoor
open Go
set_option maxRecDepth 100000

theorem C9(e:bf){R:Int}(h:p8 e=some R):bo bl 199 [tD bn e] (cb R):=by
 refine bo.of Tryz.func199 J J J fun w0 S0=>aw<|zo J (jt J)<|zo J (dB)<|au<|ac<|aw<|zo J (bm eN J J)<|bz h fun r q_r h=>zo J (aC SR (LE _ q_r) ⟨(ht J),aT⟩)<|aE J<|zo J (kG J J)<|zo J (kG J J)<|bu J<|bu J<|au<|aw<|aE J<|zo J (dh (ht J)) ?_;refine au<|cE h J (fun h=>?_) (fun h=>?_)
 ·refine aw<|zo J (dB)<|au<|ak<|M ?_;cases so h;exact aF J J
 ·refine dz<|aw<|zo J (dB)<|au<|ak ?_;cases so h;exact aF J J

theorem UL(l:Option Nat)(c:Nat)(s:(List Int)){R:(List Int)}(h:kI s=some R):d2 bl 256 [oP l c s] [ga cx 3 l c s] (fun i:OI=>oP (i.h 0).1 (i.h 0).2 R) (fun i=>[ga cx 3 (i.h 0).1 (i.h 0).2 R]):=by
 refine d2.of Tryz.func256 J J J fun w0 S0=>aw<|cd false cx 3<|zo J (aU s6)<|au<|ac<|aw<|aE J<|zo J (gQ dc (.tail _ (.head _)) (ht J))<|zo J (eO (ht J) hI)<|au<|cE h J (fun h=>?_) (fun h=>?_)
 ·refine aw<|aE J<|bu J<|au<|ak<|M<|aL ?_;cases so h;exact vQ J (oi l c) J J (fun _ _ h=>h)
 ·refine dz<|ac<|aw<|zo J (dB)<|au<|ax<|ny (.tail _ (.head _)) fun hN=>bB<|mH ?_;refine aP (em (Z:=fun ls i=>(s.drop i=ls)∧fG s ls i=some R) (Of:=fun _ i=>[ga cx 3 l c s]) (Gf:=fun _ i=>[(0,oP l c s),(3,cb (i:Int))]) (fun i h=>?_) (fun e tl ih i h=>?_) (s.drop (1)) 1 ⟨J,h⟩) (bg J)
  ·obtain⟨hx,h⟩:=h
   refine aB<|ac<|aw<|aE J<|aE J<|zo J (gQ dc (.head _) (ht J))<|zo J (ft J J)<|au<|bP (ht J) (dU hx)<|bp ?_;refine ae (ae (aK ?_));refine aq<|aw<|aE rfl<|bu rfl<|au<|ak ?_;cases so h;exact vQ J (oi l c) J J (fun _ _ h=>h)
  ·obtain⟨hx,h⟩:=h
   refine aB<|ac<|aw<|aE J<|aE J<|zo J (gQ dc (.head _) (ht J))<|zo J (ft J J)<|au<|bO (ht J) (dN hx)<|dz<|ac<|ax<|ac<|bz h fun e1 q_e1 h=>?_
   refine eu (ts:=[_,_,_,_,_,_,_,_,_,_]) mixed J J
    ⟨ef 0 J J J (cG J),
    ⟨ef 3 J J J (cG J),
    ⟨dG 16 0 17 1 J J J J (cV dc bA (.head _) (ht J) (ht J) (dO hx)),
    ⟨cT 18 2 J J J (gn (r:=cx) (i:=(i:Int)) (foff:=0) bA J J aR J (.head _) (dO hx) (ht J)),
    ⟨ef 0 J J J (cG J),
    ⟨ef 3 J J J (cG J),
    ⟨cT 21 5 J J J (dL (ht J) hI),
    ⟨dG 20 4 22 6 J J J J (cV dc bA (.head _) (ht J) (ht J) q_e1),
    ⟨cT 23 7 J J J (gn (r:=cx) (i:=(IntKind.i64.wrap ((i:Int)-(1:Int)))) (foff:=0) bA J J aR J (.head _) q_e1 (ht J)),
    ⟨dG 19 3 24 8 J J J J (cw (ht J) (ht J)),
    aT⟩⟩⟩⟩⟩⟩⟩⟩⟩⟩ ?_
   refine aq<|cE h rfl (fun h=>?_) (fun h=>?_)
   ·refine aw<|aE J<|aE J<|bz h fun y q_y h=>zo J (sv dc bA J (.head _) (ht J) (ht J) q_y)<|qR (.head _) q_y fun hv=>bu J<|au<|ac<|aw<|zo J (dB)<|au<|ax<|bB ?_;refine aP (Mj (Z:=fun k1 i1 s1 k=>(y.length-i1=k1)∧eC i y k1 i1 s1 k=some R) (Of:=fun _ i1 s1 k=>[ga cx 3 l c s1]) (Gf:=fun _ i1 s1 k=>[(0,oP l c s1),(3,cb k),(4,tV (ot 1 l c (i:Int).toNat y.length)),(5,cb (i1:Int))]) (fun i1 s1 k h=>?_) (fun k2 ih1 i1 s1 k h=>?_) (y.length-1) 1 s (i:Int) ⟨J,h⟩) (bg J)
    ·obtain⟨hx1,h⟩:=h
     refine aB<|ac<|aw<|aE J<|aE J<|zo J (Lp dc hv.1 (ht J))<|zo J (ft J J)<|au<|bP (ht J) (TW hx1)<|bp ?_;refine ae (ae (aK ?_));refine aq<|aw<|aE rfl<|aE rfl<|bz h fun y1 q_y1 h=>zo J (sv dc bA J (.head _) (ht J) (ht J) q_y1)<|qR (.head _) q_y1 fun hv1=>bz h fun cl q_cl h=>NP bA J J dc (fun _=>J) J q_y1 (ht J) (so q_cl)<|gT (Gd q_y1 (so q_cl)) 0 J<|gT (Gd q_y1 (so q_cl)) 54 J<|au<|aw<|aE J<|aE J<|bz h fun y2 q_y2 h=>zo J (sw dc bA J (.head _) (ht J) (ht J) q_y2)<|Ez q_y2<|bu J<|au ?_;refine ak ?_;refine ay (M (M (ay (M ?_))));cases so h;exact vQ J (oi l c) J J (fun _ _ h=>h)
    ·obtain⟨hx1,h⟩:=h
     refine aB<|ac<|aw<|aE J<|aE J<|zo J (Lp dc hv.1 (ht J))<|zo J (ft J J)<|au<|bO (ht J) (TV hx1)<|dz<|ac<|ax<|ac<|bz h fun e3 q_e3 h=>bz h fun e4 q_e4 h=>?_
     refine eu (ts:=[_,_,_,_,_,_,_,_,_,_]) mixed J J
      ⟨ef 4 J J J (cG J),
      ⟨ef 5 J J J (cG J),
      ⟨dG 35 0 36 1 J J J J (vl dc bA J (.head _) (Bn q_y) (ht J) (ht J) q_e3),
      ⟨cT 37 2 J J J (gn (r:=cx) (i:=((i:Int)+(i1:Int))) (foff:=0) bA J J aR J (.head _) (yy q_e3).2.2 (ht J)),
      ⟨ef 4 J J J (cG J),
      ⟨ef 5 J J J (cG J),
      ⟨cT 40 5 J J J (dL (ht J) hI),
      ⟨dG 39 4 41 6 J J J J (vl dc bA J (.head _) (Bn q_y) (ht J) (ht J) q_e4),
      ⟨cT 42 7 J J J (gn (r:=cx) (i:=((i:Int)+(IntKind.i64.wrap ((i1:Int)-(1:Int))))) (foff:=0) bA J J aR J (.head _) (yy q_e4).2.2 (ht J)),
      ⟨dG 38 3 43 8 J J J J (cF (ht J) (ht J)),
      aT⟩⟩⟩⟩⟩⟩⟩⟩⟩⟩ ?_
     refine aq<|cE h rfl (fun h=>?_) (fun h=>?_)
     ·refine aw<|aE J<|aE J<|aE J<|aE J<|bz h fun e5 q_e5 h=>zo J (vl dc bA J (.head _) (Bn q_y) (ht J) (ht J) q_e5)<|zo J (gn (r:=cx) (i:=((i:Int)+(i1:Int))) (foff:=0) bA J J aR J (.head _) (yy q_e5).2.2 (ht J))<|bz h fun e6 q_e6 h=>zo J (cV dc bA (.head _) (ht J) (ht J) q_e6)<|bz h fun st q_st h=>pf bA J aj J q_e6 (so q_st) (ht J) (ht J)<|gT (jJ (so q_st)) 0 J<|gT (jJ (so q_st)) 45 J<|au<|am<|aE J<|zo J (ei (ht J) hI)<|bu J<|aJ<|an<|aq ?_;refine am<|aE J<|zo J (yu (OT hx1 (VR hv.2)) (ht J) hI)<|bu J<|aJ ?_;exact be (aP (ih1 (i1+1) st (IntKind.i64.wrap (k+(1:Int))) ⟨OS hx1,h⟩) (bg J))
     ·refine bk<|an<|aq<|am<|aE rfl<|zo rfl (yu (OT hx1 (VR hv.2)) (ht rfl) hI)<|bu rfl<|aJ ?_;exact be (aP (ih1 (i1+1) s1 k ⟨OS hx1,h⟩) (bg J))
   ·refine bk<|an<|aq<|am<|aE rfl<|zo rfl (nh (dm hx hN) rfl)<|bu rfl<|aJ ?_;exact be (aP (ih (i+1) ⟨dl hx,h⟩) (bg J))

theorem Pq(e:bf){R:(List Int)}(h:vG e=some R):gK bl 239 [tD bn e] false cx 3 R:=by
 refine gK.of Tryz.func239 J J J fun w0 S0=>aw<|zo J (jt J)<|cd false cx 3<|zo J (aU s6)<|au<|ac<|aw<|zo J (bm eN J J)<|bz h fun r q_r h=>zo J (aC LV (C9 _ q_r) ⟨(ht J),aT⟩)<|zo J (Gw J)<|au<|cE h J (fun h=>?_) (fun h=>?_)
 ·refine aw<|cd false cx 3<|zo J (aU s6)<|au<|ak<|M ?_;cases so h;exact jd J J
 ·refine dz<|aw<|cd false cx 3<|zo J (aU s6)<|au<|ac<|aw<|zo J (bD de bZ J J)<|zo J (bm ir J J)<|zo J (fW oo J)<|zo J (bQ hI)<|au<|ax<|br (k:=10) J fun hN=>bB<|eV<|mH ?_;refine aP (lZ (Z:=fun ls i out l c=>(e.Nodes.drop i=ls)∧nt ls out=some R) (Of:=fun _ i out l c=>[ga cx 3 l c out]) (Gf:=fun _ i out l c=>[(3,oP l c out),(10,fc (bc) e.Nodes),(11,jV e.Nodes),(12,cb (i:Int))]) (fun i out l c h=>?_) (fun e1 tl ih i out l c h=>?_) e.Nodes 0 oq none 0 ⟨J,h⟩) (bg J)
  ·obtain⟨hx,h⟩:=h
   refine aB<|aw<|zo J (ft J J)<|au<|ac<|bP (ht J) (dU hx)<|bp ?_;refine ae (ae (aK ?_));refine aq<|aw<|aE rfl<|bz h fun VO q_srt h=>?_;refine Qk (n:=out.length) (ys:=VO) E2 ?_ Wt ?_ ?_ ?_ ?_ ?_
   ·rfl
   ·exact q_srt
   ·exact(ht J)
   ·rfl
   ·rfl
   intro hl
   refine Jn hl 3 J<|Jn hl 25 J<|au<|aw<|aE J<|bz h fun r1 q_r1 h=>Jr [ga cx 3 l c VO] _ J Ws (UL l c _ q_r1) ⟨(ht J),aT⟩ J fun i1=>?_;refine(show RG _ _ _ _ [ga cx 3 (i1.h 0).1 (i1.h 0).2 r1] ((28,oP (i1.h 0).1 (i1.h 0).2 r1)::_)from ?_);refine bu J<|au<|ak ?_;cases so h;exact jd J J
  ·obtain⟨hx,h⟩:=h
   refine aB<|aw<|zo J (ft J J)<|au<|ac<|bO (ht J) (dN hx)<|dz<|ac<|ax<|aw<|zo J (iQ oo cR J J J (dO hx))<|zo J (bm cR J J)<|bj (r:=bc) (x:=Dl) cR (fun _=>kZ _) J fun b=>ai cR J aj J (ht J) (ht J)<|bh 5 J<|au<|aw<|zo J (bD fV dd J J) ?_;refine zo J (bm bA J J)<|zo J (iz J)<|au<|cE h J (fun h=>?_) (fun h=>?_)
   ·refine am<|aE J<|zo J (bD j7 eQ J J)<|zo J (bm bA J J)<|zo J (aN (r:=cx) (ys:=[e1.Col]) (xs:=[.tmp 21]) dc bA J J J J J ⟨(ht J),aT⟩)<|bz h fun cv q_out1 h=>cK bA J J J J dc J J (ht J) (ht J) q_out1 fun l2 c2=>bu J<|aJ<|an<|aq<|am<|zo rfl (nh (dm hx hN) rfl)<|aE rfl<|aJ ?_;exact be (aP (ih (i+1) cv l2 c2 ⟨dl hx,h⟩) (bg J))
   ·refine bk<|an<|aq<|am<|zo rfl (nh (dm hx hN) rfl)<|aE rfl<|aJ ?_;exact be (aP (ih (i+1) out l c ⟨dl hx,h⟩) (bg J))
theorem C7(s:(List Int)){R:(List Int)}(h:cr s=some R):gK bl 56 [dI s] false cx 3 R:=by
 refine gK.of Tryz.func56 J J J fun w0 S0=>aw<|cd false cx 3<|zo J (aU s6)<|au<|ac<|aw<|aE J<|vJ dc (ht J) J fun isnil hisnil=>au<|qT (ht J) (fun hc=>?_) (fun hc=>?_)
 ·have hx:=hisnil hc
  have h:some oq=some R:=by simpa [cr,kq,hx] using h
  refine aw<|cd false cx 3<|zo J (aU s6)<|au<|ak<|M ?_;cases so h;exact jd J J
 ·refine dz<|aw<|jT (r:=cx) (ys:=oq) (xs:=[]) dc bA J J J J J trivial J fun l c=>aE J<|bz h fun x q_x h=>cK bA J J J J dc J J (ht J) (ht J) q_x fun l1 c1=>bu J<|au<|ak ?_;cases so h;exact jd J J
theorem Hf(s:(List Int)){R:(List Int)}(h:cr s=some R):bo bl 56 [dI s] (dI R):=(C7 _ h).spec

theorem Wb{l:Option Nat}{c:Nat}{xs s:List Int}{lo:Int}{R:List Int}(hs:fy xs lo (xs.length:Int)=some s)(h:cr s=some R):d2 bl 56 [tV (ot 1 l c lo.toNat s.length)] [ga cx 3 l c xs] (fun i:OI=>oP (i.h 0).1 (i.h 0).2 R) (fun i=>[ga cx 3 (i.h 0).1 (i.h 0).2 R,ga cx 3 l c xs]):=by
 refine d2.of Tryz.func56 J J J fun w0 S0=>aw<|zo J (aU s6)<|au<|ac<|aw<|aE J<|NN (r:=cx) dc (.head _) hs (ht J) J fun isnil hisnil=>au<|qT (ht J) (fun hc=>?_) (fun hc=>?_)
 ·have hx:=hisnil hc
  have h:some oq=some R:=by simpa [cr,kq,hx] using h
  refine aw<|cd false cx 3<|zo J (aU s6)<|au<|ak<|M ?_;cases so h;exact vQ J (oi none 0) J J (fun _ _ h=>h)
 ·refine dz<|aw<|jT (r:=cx) (ys:=oq) (xs:=[]) dc bA J J J J J trivial J fun l1 c1=>aE J<|bz h fun x q_x h=>KP bA J J J J dc J J (ht J) (.tail _ (.head _)) hs (ht J) q_x fun l2 c2=>bu J<|au<|ak ?_;cases so h;exact vQ J (oi l2 c2) J J (fun _ _ h=>h)

theorem UK(b:Nat)(l:Option Nat)(c:Nat)(stack:(List Int))(k:Int){R:(List Int)×(List Int)}(h:pQ stack k=some R):d2 bl 257 [cb k,tV (aM b 0)] [bx rV 42 b (aV l c stack.length),ga cx 3 l c stack] (fun i:OI=>dI R.1) (fun i=>[bx rV 42 b (aV (i.h 0).1 (i.h 0).2 R.2.length),ga cx 3 (i.h 0).1 (i.h 0).2 R.2]):=by
 refine d2.of Tryz.func257 J J J fun w0 S0=>aw<|zo J (aU (show aZ _ _ _ mJ from jr))<|au<|aw<|zo J (sy cD (.head _) (ht J))<|zo J (sy cD (.head _) (ht J))<|zo J (gQ dc (.tail _ (.head _)) (ht J))<|aE J<|zo J (dL (ht J) (ht J))<|bz h fun y q_y h=>zo J (sv dc bA J (.tail _ (.head _)) (ht J) (ht J) q_y)<|qR (.tail _ (.head _)) q_y fun hv=>bL<|bz h fun r q_r h=>Jr [ga cx 3 l c stack] _ J Je (Wb q_y q_r) ⟨(ht J),aT⟩ J fun i=>?_;refine(show RG _ _ _ _ [ga cx 3 (i.h 0).1 (i.h 0).2 r,ga cx 3 l c stack,bx rV 42 b (aV l c stack.length)] _ from ?_);refine bu J<|au<|aw<|zo J (sy cD (.tail _ (.tail _ (.head _))) (ht J))<|zo J (sy cD (.tail _ (.tail _ (.head _))) (ht J))<|zo J (gQ dc (.tail _ (.head _)) (ht J))<|aE J<|zo J (dL (ht J) (ht J))<|bz h fun y1 q_y1 h=>zo J (sw dc bA J (.tail _ (.head _)) (ht J) (ht J) q_y1)<|bL<|Ez q_y1<|c0<|ai cD J aj J (ht J) (N1 (ht J))<|au<|aw<|aE J<|bu J<|au ?_;refine ak<|aD<|gV<|cC 3 J<|cC 11 J<|cC 4 J<|cC 18 J<|ik 3 J<|aL<|bE<|bE ?_;cases so h;exact vQ J (oi l c) J J (fun _ _ h=>h)

theorem Rl(e:bf)(do1:(bq→(List Int)→Option (Int×Int))){R:Int×Int}(h:pM e do1=some R):bo bl 240 [tD bn e,(kz bl QB QA (fun(x:bq×(List Int))=>do1 x.1 x.2))] (tT [cb R.1,cb R.2]):=by
 refine bo.of Tryz.func240 J J J fun w0 S0=>aw<|zo J (jt J)<|zo J (dB)<|zo J (dB)<|au<|Qn<|aw<|cd false cx 3<|bj (x:=aV none 0 0) cD (fun _=>OC) J fun b=>au<|aw<|zo J (dB)<|au<|aw<|zo J (OM (cts:=[tV (aM b 0)]) (caps:=[.tmp 6]) ⟨(ht J),aT⟩)<|bu J ?_;refine au<|aw<|zo J (dB)<|au<|ac<|Qo<|aq<|ac<|aw<|zo rfl (bD de bZ rfl rfl)<|zo rfl (bm ir rfl rfl)<|zo rfl (fW oo rfl)<|zo rfl (bQ hI)<|au ?_;refine NW (Z:=fun bad stack l c=>mY bad stack=some R) (Of:=fun bad stack l c=>[bx rV 42 b (aV l c stack.length),ga cx 3 l c stack]) (Gf:=fun bad stack l c=>[(6,tV (aM b 0)),(7,cb 0),(9,cb bad)]) (fun bad stack l c h=>?_) (fun K=>?_)
 ·skip
  refine aq<|ac<|aw<|aE rfl<|zo rfl (Gw rfl)<|au<|cE h rfl (fun h=>?_) (fun h=>?_)
  ·refine aw<|aE J<|aE J<|bu J<|bu J<|au<|ak ?_;refine M (Gr ?_);refine aL<|aL ?_;cases so h;exact co J J J
  ·refine dz<|aw<|zo J (sy cD (.head _) (ht J))<|bz h fun e1 q_e1 h=>zo J (cV dc bA (.tail _ (.head _)) (ht J) hI q_e1)<|zo J (gn (r:=cx) (i:=(0:Int)) (foff:=0) bA J J aR J (.tail _ (.head _)) q_e1 (ht J))<|bu J<|zo J (dB)<|au<|ak<|Gr<|aL<|aL ?_;cases so h;exact co J J J
 ·skip
  refine br (k:=16) J fun hN=>bB ?_;refine aP (vL (Z:=fun ls i bad1 stack1 l1 c1=>(e.Nodes.drop i=ls)∧iH do1 ls bad1 stack1=some R) (Of:=fun _ i bad1 stack1 l1 c1=>[bx rV 42 b (aV l1 c1 stack1.length),ga cx 3 l1 c1 stack1]) (Gf:=fun _ i bad1 stack1 l1 c1=>[(1,(kz bl QB QA (fun(x:bq×(List Int))=>do1 x.1 x.2))),(6,tV (aM b 0)),(7,cb 0),(8,tC 257 [tV (aM b 0)]),(9,cb bad1),(16,fc (bc) e.Nodes),(17,jV e.Nodes),(18,cb (i:Int))]) (fun i bad1 stack1 l1 c1 h=>?_) (fun e2 tl ih i bad1 stack1 l1 c1 h=>?_) e.Nodes 0 (0:Int) oq none 0 ⟨J,h⟩) (bg J)
  ·obtain⟨hx,h⟩:=h
   refine aB<|aw<|zo J (ft J J)<|au<|ac<|bP (ht J) (dU hx)<|bp ?_;refine ae (ae (aK ?_));exact bJ (K bad1 stack1 l1 c1 h) (bg J)
  ·obtain⟨hx,h⟩:=h
   refine aB<|aw<|zo J (ft J J)<|au<|ac<|bO (ht J) (dN hx)<|dz<|ac<|ax<|aw<|zo J (iQ oo cR J J J (dO hx))<|zo J (bm cR J J)<|bj (r:=bc) (x:=Dl) cR (fun _=>kZ _) J fun b1=>ai cR J aj J (ht J) (ht J)<|bh 11 J<|au<|ac<|bz h fun r q_r h=>bz h fun r1 q_r1 h=>?_
   obtain⟨r2,q_r2,h⟩:=bs h
   refine iK 12 [tc ((kz bl QB QA (fun(x:bq×(List Int))=>do1 x.1 x.2))),tc (tD bc e2),tc (tC 257 [tV (aM b 0)]),tc (bt cx e2.Tag),tc (cb e2.Tag),tc (cb r),tc (dI r1.1),tc (tT [cb r2.1,cb r2.2]),tc (tT [cb r2.1,cb r2.2]),tc (cb r2.1),tc (cb r2.2),tc (cb r2.1)] [false,false,false,false,false,false,true,false,false,false,false,false] [fun _=>[bx rV 42 b (aV l1 c1 stack1.length),ga cx 3 l1 c1 stack1],fun sg=>[bx rV 42 b (aV ((sg 6).h 0).1 ((sg 6).h 0).2 r1.2.length),ga cx 3 ((sg 6).h 0).1 ((sg 6).h 0).2 r1.2]] J mixed J J J J J
    ⟨⟨[⟨1,fun _=>(kz bl Tg Te (fun(x:bq×(List Int))=>do1 x.1 x.2)),none⟩],_,0,1,J,⟨(fun _=>J),aT⟩,J,J,J,J,J,fun _ sg _ _=>aa J (cG J)⟩,
    ⟨⟨[⟨11,fun _=>bt bc e2,none⟩],_,0,1,J,⟨(fun _=>J),aT⟩,J,J,J,J,J,fun _ sg _ _=>aa J (bm cR J J)⟩,
    ⟨⟨[⟨8,fun _=>tC 257 [tV (aM b 0)],none⟩],_,0,0,J,⟨(fun _=>J),aT⟩,J,J,J,J,J,fun _ sg _ _=>aa J (cG J)⟩,
    ⟨⟨[⟨11,fun _=>bt bc e2,none⟩],_,0,0,J,⟨(fun _=>J),aT⟩,J,J,J,J,J,fun _ sg _ _=>aa J (bD fV dd J J)⟩,
    ⟨⟨[⟨26,fun _=>bt cx e2.Tag,some 3⟩],_,0,0,J,⟨(fun _=>J),aT⟩,J,J,J,J,J,fun _ sg _ _=>aa J (bm bA J J)⟩,
    ⟨⟨[⟨27,fun _=>tD cx e2.Tag,some 4⟩],_,0,0,J,⟨(fun _=>J),aT⟩,J,J,J,J,J,fun _ sg _ _=>aa J (aC SP (LC _ q_r) ⟨(ht J),aT⟩)⟩,
    ⟨⟨[⟨25,fun _=>tC 257 [tV (aM b 0)],some 2⟩,⟨28,fun _=>tD cx r,some 5⟩],_,J,⟨(fun _=>J),(fun _=>J),aT⟩,J,J,J,fun sg=>bN J (EffOK.fr1 (EffOK.fr1 (Nv (xs:=[.tmp 28]) (ts:=[tD cx r]) (cts:=[tV (aM b 0)]) [bx rV 42 b (aV l1 c1 stack1.length),ga cx 3 l1 c1 stack1] _ J Wr (UK b l1 c1 _ _ q_r1) (ht J) ⟨(ht J),aT⟩ (fun _=>J))))⟩,
    ⟨⟨[⟨23,fun _=>(kz bl Tg Te (fun(x:bq×(List Int))=>do1 x.1 x.2)),some 0⟩,⟨24,fun _=>tD bc e2,some 1⟩,⟨29,fun _=>tD oS r1.1,some 6⟩],_,1,1,J,⟨(fun _=>J),(fun _=>J),(fun _=>J),aT⟩,J,J,J,J,J,fun _ sg _ _=>aa J (lS (args:=Tg) (res:=Te) (f:=(fun(x:bq×(List Int))=>do1 x.1 x.2)) (x:=((e2,r1.1):bq×(List Int))) (ht J) q_r2 ⟨(ht J),(ht J),aT⟩)⟩,
    ⟨⟨[⟨30,fun _=>tT [tD cx r2.1,tD cx r2.2],some 7⟩],_,1,1,J,⟨(fun _=>J),aT⟩,J,J,J,J,J,fun _ sg _ _=>aa J (cG J)⟩,
    ⟨⟨[⟨22,fun _=>tT [tD cx r2.1,tD cx r2.2],some 8⟩],_,1,1,J,⟨(fun _=>J),aT⟩,J,J,J,J,J,fun _ sg _ _=>aa J (kG J J)⟩,
    ⟨⟨[⟨22,fun _=>tT [tD cx r2.1,tD cx r2.2],some 8⟩],_,1,1,J,⟨(fun _=>J),aT⟩,J,J,J,J,J,fun _ sg _ _=>aa J (kG J J)⟩,
    ⟨⟨[⟨31,fun _=>tD cx r2.1,some 9⟩],_,1,1,J,⟨(fun _=>J),aT⟩,J,J,J,J,J,fun _ sg _ _=>aa J (zm J)⟩,
    aT⟩⟩⟩⟩⟩⟩⟩⟩⟩⟩⟩⟩ (fun sg=>?_)
   refine(show RG _ _ _ _ [bx rV 42 b (aV ((sg 6).h 0).1 ((sg 6).h 0).2 r1.2.length),ga cx 3 ((sg 6).h 0).1 ((sg 6).h 0).2 r1.2] _ from ?_);refine bu J<|au<|ac<|aw<|aE J<|zo J (Gw J)<|au<|cE h J (fun h=>?_) (fun h=>?_)
   ·refine aw<|aE J<|bu J<|au<|bp ?_;refine ae (db J (ae (ae (aK ?_))));exact bJ (K r2.2 r1.2 ((sg 6).h 0).1 ((sg 6).h 0).2 h) (bg J)
   ·refine dz<|am<|zo J (sy cD (.head _) (ht J))<|aE J<|zo J (aN (r:=cx) (ys:=[r2.1]) (xs:=[.tmp 37]) dc bA J J J J J ⟨(ht J),aT⟩)<|bL<|bz h fun l2 q_l2 h=>cK bA J J J J dc J J (ht J) (ht J) q_l2 fun l3 c2=>bL<|ai cD J aj J (ht J) (N1 (ht J))<|aJ<|an<|aq<|am<|zo rfl (nh (dm hx hN) rfl)<|aE rfl<|aJ ?_;exact be (aP (ih (i+1) bad1 l2 l3 c2 ⟨dl hx,h⟩) (bg J))

theorem LF(tag:Int){R:Bool}(h:sY tag=some R):bo bl 202 [cb tag] (gq R):=by
 refine bo.of Tryz.func202 J J J fun w0 S0=>aw<|zo J (ez)<|au<|aw<|aE J<|zo J (iz J)<|aE J<|ci J J (fun hg=>cG J)<|ci J J (fun hg=>cU (aS J hg) hI)<|ci J J (fun hg=>bQ (aS J hg))<|d3 J J J J (fun hg=>cG J)<|d3 J J J J (fun hg=>g9 (aS J hg) hI)<|ci J J (fun hg=>km (aS J hg) (fun hb=>(aS J (tF hg hb))))<|zo J (nW J J)<|bu J<|au<|ak ?_;cases so h;exact aF J J

theorem Rk(kinds:(List Int))(n:bq)(l:(List Int)){R:Int×Int}(h:jQ kinds n l=some R):bo bl 241 [tD bc n,dI l,bt gG kinds] (tT [cb R.1,cb R.2]):=by
 refine bo.of Tryz.func241 J J J fun w0 S0=>aw<|zo J (jt J)<|zo J (dB)<|zo J (dB)<|au<|aw<|zo J (dB)<|au<|ac<|aw<|aE J<|zo J (fW dc J)<|zo J (bQ hI)<|au<|ax<|br (k:=12) J fun hN=>bB ?_;refine aP (pN (Z:=fun ls i own=>(l.drop i=ls)∧m4 kinds n ls own=some R) (Of:=fun _ i own=>[]) (Gf:=fun _ i own=>[(2,bt gG kinds),(3,bt bc n),(7,cb own),(12,dI l),(13,jV l),(14,cb (i:Int))]) (fun i own h=>?_) (fun e tl ih i own h=>?_) l 0 (0:Int) ⟨J,h⟩) (bg J)
 ·obtain⟨hx,h⟩:=h
  refine aB<|aw<|zo J (ft J J)<|au<|ac<|bP (ht J) (dU hx)<|bp ?_;refine ae (ae (aK ?_));refine aq<|aw<|aE rfl<|bu rfl<|au<|aw<|zo rfl (dB)<|au<|ac<|ax<|aw<|zo rfl (bD fV dd rfl rfl)<|zo rfl (bm bA rfl rfl)<|zo rfl (iz rfl)<|bu rfl<|au<|cE h rfl (fun h=>?_) (fun h=>?_)
  ·refine aw<|zo J (bD tw mu J J)<|zo J (bD rQ oK J J)<|zo J (bm bA J J)<|bu J<|zo J (dB)<|au<|ak ?_;refine ay (M ?_);cases so h;exact co J J J
  ·refine aw<|zo J (bD fV dd J J)<|zo J (bm bA J J)<|zo J (iz J)<|bu J<|au<|cE h J (fun h=>?_) (fun h=>?_)
   ·refine aw<|zo J (bm cD J J)<|zo J (bD j7 eQ J J)<|zo J (bm bA J J)<|bz h fun e1 q_e1 h=>zo J (iQ dc bA J J J q_e1)<|zo J (bm bA J J)<|bu J<|zo J (dB)<|au<|ak ?_;refine ay (M ?_);cases so h;exact co J J J
   ·refine aw<|zo J (bD fV dd J J)<|zo J (bm bA J J)<|bz h fun r q_r h=>zo J (aC SS (LF _ q_r) ⟨(ht J),aT⟩)<|bu J<|au<|cE h J (fun h=>?_) (fun h=>?_)
    ·refine am<|zo J (dB)<|zo J (dB)<|aJ<|an<|aq<|ac<|aw<|aE rfl<|zo rfl (iz rfl)<|aE rfl<|ci rfl rfl (fun hg=>cG J)<|ci J J (fun hg=>cF (aS J hg) hI)<|ci J J (fun hg=>bQ (aS J hg))<|d3 J J J J (fun hg=>cG J)<|d3 J J J J (fun hg=>cG J)<|d3 J J J J (fun hg=>cF (aS J hg) (aS J hg))<|ci J J (fun hg=>km (aS J hg) (fun hb=>(aS J (tF hg hb))))<|zo J (nW J J)<|au<|cE h J (fun h=>?_) (fun h=>?_)
     ·refine aw<|zo J (dB)<|zo J (dB)<|au<|ak<|M ?_;cases so h;exact co J J J
     ·refine dz<|aw<|aE J<|bu J<|zo J (dB)<|au<|ak ?_;cases so h;exact co J J J
    ·refine aw<|zo J (bD fV dd J J)<|zo J (bm bA J J)<|zo J (iz J)<|aE J<|ci J J (fun hg=>bD fV dd J J)<|ci J J (fun hg=>aI bA J J (aS J hg))<|ci J J (fun hg=>cw (aS J hg) hI)<|zo J (nW J J)<|aE J<|ci J J (fun hg=>bD fV dd J J)<|ci J J (fun hg=>aI bA J J (aS J hg))<|ci J J (fun hg=>cw (aS J hg) hI)<|zo J (nW J J)<|bu J<|au<|cE h J (fun h=>?_) (fun h=>?_)
     ·refine am<|zo J (dB)<|aJ<|an<|aq<|ac<|aw<|aE rfl<|zo rfl (iz rfl)<|aE rfl<|ci rfl rfl (fun hg=>cG J)<|ci J J (fun hg=>cF (aS J hg) hI)<|ci J J (fun hg=>bQ (aS J hg))<|d3 J J J J (fun hg=>cG J)<|d3 J J J J (fun hg=>cG J)<|d3 J J J J (fun hg=>cF (aS J hg) (aS J hg))<|ci J J (fun hg=>km (aS J hg) (fun hb=>(aS J (tF hg hb))))<|zo J (nW J J)<|au<|cE h J (fun h=>?_) (fun h=>?_)
      ·refine aw<|zo J (dB)<|zo J (dB)<|au<|ak<|M ?_;cases so h;exact co J J J
      ·refine dz<|aw<|aE J<|bu J<|zo J (dB)<|au<|ak ?_;cases so h;exact co J J J
     ·refine bk<|an<|aq<|ac<|aw<|aE rfl<|zo rfl (iz rfl)<|aE rfl<|ci rfl rfl (fun hg=>cG J)<|ci J J (fun hg=>cF (aS J hg) hI)<|ci J J (fun hg=>bQ (aS J hg))<|d3 J J J J (fun hg=>cG J)<|d3 J J J J (fun hg=>cG J)<|d3 J J J J (fun hg=>cF (aS J hg) (aS J hg))<|ci J J (fun hg=>km (aS J hg) (fun hb=>(aS J (tF hg hb))))<|zo J (nW J J)<|au<|cE h J (fun h=>?_) (fun h=>?_)
      ·refine aw<|zo J (dB)<|zo J (dB)<|au<|ak<|M ?_;cases so h;exact co J J J
      ·refine dz<|aw<|aE J<|bu J<|zo J (dB)<|au<|ak ?_;cases so h;exact co J J J
 ·obtain⟨hx,h⟩:=h
  refine aB<|aw<|zo J (ft J J)<|au<|ac<|bO (ht J) (dN hx)<|dz<|ac<|ax<|aw<|zo J (iQ dc bA J J J (dO hx))<|zo J (bm bA J J)<|bu J<|au<|ax<|aw<|aE J<|zo J (iz J) ?_;refine aE J<|ci J J (fun hg=>cG J)<|ci J J (fun hg=>cG J)<|ci J J (fun hg=>cw (aS J hg) (aS J hg))<|zo J (nW J J)<|bu J<|au<|cE h J (fun h=>?_) (fun h=>?_)
  ·refine bk<|an<|an<|aq<|am<|zo rfl (nh (dm hx hN) rfl)<|aE rfl<|aJ ?_;exact be (aP (ih (i+1) own ⟨dl hx,h⟩) (bg J))
  ·refine aw<|aE J<|zo J (iz J)<|bu J<|au<|cE h J (fun h=>?_) (fun h=>?_)
   ·refine am<|aE J<|bu J<|aJ<|an<|an<|aq<|am<|zo rfl (nh (dm hx hN) rfl)<|aE rfl<|aJ ?_;exact be (aP (ih (i+1) e ⟨dl hx,h⟩) (bg J))
   ·refine am<|zo J (dB)<|aJ<|an<|an<|aq<|am<|zo rfl (nh (dm hx hN) rfl)<|aE rfl<|aJ ?_;exact be (aP (ih (i+1) mK ⟨dl hx,h⟩) (bg J))

theorem Hg(e:bf)(kinds:(List Int)){R:Int×Int}(h:tN e kinds=some R):bo bl 210 [tD bn e,dI kinds] (tT [cb R.1,cb R.2]):=by
 refine bo.of Tryz.func210 J J J fun w0 S0=>aw<|zo J (jt J)<|zo J (jt J)<|zo J (dB)<|zo J (dB)<|au<|ac<|aw<|zo J (bm eN J J)<|bz h fun r q_r h=>zo J (aC LV (C9 _ q_r) ⟨(ht J),aT⟩)<|bu J<|au<|aw<|aE J<|zo J (Gw J)<|au ?_;refine cE h J (fun h=>?_) (fun h=>?_)
 ·refine aw<|aE J<|zo J (dB)<|bu J<|au<|ak<|M ?_;cases so h;exact co J J J
 ·refine dz<|ac<|aw<|zo J (bm cD J J)<|zo J (fW dc J)<|zo J (bQ hI)<|au<|ax<|br (k:=16) J fun hN=>bB ?_;refine aP (em (Z:=fun ls i=>(kinds.drop i=ls)∧qN e kinds ls=some R) (Of:=fun _ i=>[]) (Gf:=fun _ i=>[(2,bt bn e),(3,bt gG kinds),(16,dI kinds),(17,jV kinds),(18,cb (i:Int))]) (fun i h=>?_) (fun e1 tl ih i h=>?_) kinds 0 ⟨J,h⟩) (bg J)
  ·obtain⟨hx,h⟩:=h
   refine aB<|aw<|zo J (ft J J)<|au<|ac<|bP (ht J) (dU hx)<|bp ?_;refine ae (ae (aK ?_));refine aq<|ac<|aw<|zo rfl (bm eN rfl rfl)<|bz h fun r1 q_r1 h=>lY Wz (Pq _ q_r1) ⟨(ht J),aT⟩ J fun l c=>zo J (gQ dc (.head _) (ht J))<|zo J (bQ hI)<|au<|ax<|ny (.head _) fun hN1=>bB ?_;refine aP (em (Z:=fun ls1 i1=>(r1.drop i1=ls1)∧nr e kinds ls1=some R) (Of:=fun _ i1=>[ga cx 3 l c r1]) (Gf:=fun _ i1=>[(2,bt bn e),(3,bt gG kinds),(30,oP l c r1),(31,jV r1),(32,cb (i1:Int))]) (fun i1 h=>?_) (fun e2 tl1 ih1 i1 h=>?_) r1 0 ⟨J,h⟩) (bg J)
   ·obtain⟨hx1,h⟩:=h
    refine aB<|aw<|zo J (ft J J)<|au<|ac<|bP (ht J) (dU hx1)<|bp ?_;refine ae (ae (aK ?_));refine aq<|aw<|zo rfl (bm eN rfl rfl)<|zo rfl ((show cH _ _ _ _ ((kz bl QB QA (fun(x:bq×(List Int))=>(jQ kinds) x.1 x.2)))from sx (cts:=[bt gG kinds]) (caps:=[.tmp 3]) Wx ⟨(ht J),aT⟩ (fun x y h=>Rk _ _ _ h)))<|bz h fun r2 q_r2 h=>zo J (aC Wy (Rl _ _ q_r2) ⟨(ht J),(ht J),aT⟩)<|zo J (kG J J)<|zo J (kG J J)<|bu J<|bu J<|au<|ak<|aL ?_;cases so h;exact co J J J
   ·obtain⟨hx1,h⟩:=h
    refine aB<|aw<|zo J (ft J J)<|au<|ac<|bO (ht J) (dN hx1)<|dz<|ac<|ax<|aw<|zo J (cV dc bA (.head _) (ht J) (ht J) (dO hx1))<|zo J (gn (r:=cx) (i:=(i1:Int)) (foff:=0) bA J J aR J (.head _) (dO hx1) (ht J))<|bu J<|au<|aw<|aE J<|zo J (bm cD J J)<|zo J (fW dc J) ?_;refine zo J (cU (ht J) (ht J))<|au<|cE h J (fun h=>?_) (fun h=>?_)
    ·refine aw<|zo J (dB)<|zo J (dB)<|au<|ak ?_;refine ay (M (M (ay (M ?_))));refine aL ?_;cases so h;exact co J J J
    ·refine bk<|an<|aq<|am<|zo rfl (nh (dm hx1 hN1) rfl)<|aE rfl<|aJ ?_;exact be (aP (ih1 (i1+1) ⟨dl hx1,h⟩) (bg J))
  ·obtain⟨hx,h⟩:=h
   refine aB<|aw<|zo J (ft J J)<|au<|ac<|bO (ht J) (dN hx)<|dz<|ac<|ax<|aw<|zo J (iQ dc bA J J J (dO hx))<|zo J (bm bA J J)<|bu J<|au<|aw<|aE J<|zo J (eO (ht J) hI)<|aE J ?_;refine ci J J (fun hg=>cG J)<|ci J J (fun hg=>d5 (aS J hg) hI)<|zo J (nW J J)<|au<|cE h J (fun h=>?_) (fun h=>?_)
   ·refine aw<|zo J (dB)<|zo J (dB)<|au<|ak ?_;refine ay (M (M (ay (M ?_))));cases so h;exact co J J J
   ·refine bk<|an<|aq<|am<|zo rfl (nh (dm hx hN) rfl)<|aE rfl<|aJ ?_;exact be (aP (ih (i+1) ⟨dl hx,h⟩) (bg J))

end Go.Proofs.YtnmjbolollcokaaGreatDoor

