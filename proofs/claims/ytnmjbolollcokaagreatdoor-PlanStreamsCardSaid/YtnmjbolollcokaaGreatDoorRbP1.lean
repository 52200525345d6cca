/- cJ of this claim: P1. -/
import Derived.Test.YtnmjbolollcokaaGreatDoorRbT
import Derived.Test.YtnmjbolollcokaaGreatDoorRbP0
set_option linter.all false
namespace Go.Proofs.YtnmjbolollcokaaGreatDoor
open Go
set_option maxRecDepth 100000

theorem vl(e:bw){R:Int}(h:mX e=some R):bn ba 199 [tD br e] (bD R):=by
 refine bn.of Tryz.func199 J J J fun w0 S0=>ay<|zo J (gY J)<|zo J (d9)<|aw<|af<|ay<|zo J (bz fa J J)<|bI h fun r q_r h=>zo J (aK HP (CR _ q_r) ⟨(ht J),aT⟩)<|aH J<|zo J (iU J J)<|zo J (iU J J)<|bC J<|bC J<|aw<|ay<|aH J<|zo J (d8 (ht J)) ?_;refine aw<|dn h J (fun h=>?_) (fun h=>?_)
 ·refine ay<|zo J (d9)<|aw<|aq<|M ?_;cases so h;exact aW J J
 ·refine dJ<|ay<|zo J (d9)<|aw<|aq ?_;cases so h;exact aW J J

theorem Jk(l:Option Nat)(c:Nat)(s:(List Int)){R:(List Int)}(h:kB s=some R):cz ba 256 [nb l c s] [ee bM 3 l c s] (fun i:OI=>nb (i.h 0).1 (i.h 0).2 R) (fun i=>[ee bM 3 (i.h 0).1 (i.h 0).2 R]):=by
 refine cz.of Tryz.func256 J J J fun w0 S0=>ay<|bQ false bM 3<|zo J (aP pI)<|aw<|af<|ay<|aH J<|zo J (eF dm (.tail _ (.head _)) (ht J))<|zo J (eW (ht J) hI)<|aw<|dn h J (fun h=>?_) (fun h=>?_)
 ·refine ay<|aH J<|bC J<|aw<|aq<|M<|aU ?_;cases so h;exact oA J (oi l c) J J (fun _ _ h=>h)
 ·refine dJ<|af<|ay<|zo J (d9)<|aw<|ax<|il (.tail _ (.head _)) fun hN=>bF<|nM ?_;refine aS (dS (Z:=fun ls i=>(s.drop i=ls)∧fR s ls i=some R) (Of:=fun _ i=>[ee bM 3 l c s]) (Gf:=fun _ i=>[(0,nb l c s),(3,bD (i:Int))]) (fun i h=>?_) (fun e tl ih i h=>?_) (s.drop (1)) 1 ⟨J,h⟩) (bl J)
  ·obtain⟨hx,h⟩:=h
   refine aA<|af<|ay<|aH J<|aH J<|zo J (eF dm (.head _) (ht J))<|zo J (ej J J)<|aw<|bu (ht J) (c8 hx)<|bk ?_;refine ac (ac (aM ?_));refine av<|ay<|aH rfl<|bC rfl<|aw<|aq ?_;cases so h;exact oA J (oi l c) J J (fun _ _ h=>h)
  ·obtain⟨hx,h⟩:=h
   refine aA<|af<|ay<|aH J<|aH J<|zo J (eF dm (.head _) (ht J))<|zo J (ej J J)<|aw<|bt (ht J) (cY hx)<|dJ<|af<|ax<|af<|bI h fun e1 q_e1 h=>?_
   refine eR (ts:=[_,_,_,_,_,_,_,_,_,_]) mixed J J
    ⟨ek 0 J J J (cL J),
    ⟨ek 3 J J J (cL J),
    ⟨eo 16 0 17 1 J J J J (ce dm bK (.head _) (ht J) (ht J) (c0 hx)),
    ⟨c9 18 2 J J J (d5 (r:=bM) (i:=(i:Int)) (foff:=0) bK J J bm J (.head _) (c0 hx) (ht J)),
    ⟨ek 0 J J J (cL J),
    ⟨ek 3 J J J (cL J),
    ⟨c9 21 5 J J J (eV (ht J) hI),
    ⟨eo 20 4 22 6 J J J J (ce dm bK (.head _) (ht J) (ht J) q_e1),
    ⟨c9 23 7 J J J (d5 (r:=bM) (i:=(IntKind.i64.wrap ((i:Int)-(1:Int)))) (foff:=0) bK J J bm J (.head _) q_e1 (ht J)),
    ⟨eo 19 3 24 8 J J J J (cj (ht J) (ht J)),
    aT⟩⟩⟩⟩⟩⟩⟩⟩⟩⟩ ?_
   refine av<|dn h rfl (fun h=>?_) (fun h=>?_)
   ·refine ay<|aH J<|aH J<|bI h fun y q_y h=>zo J (lG dm bK J (.head _) (ht J) (ht J) q_y)<|kP (.head _) q_y fun hv=>bC J<|aw<|af<|ay<|zo J (d9)<|aw<|ax<|bF ?_;refine aS (C6 (Z:=fun k1 i1 s1 k=>(y.length-i1=k1)∧em i y k1 i1 s1 k=some R) (Of:=fun _ i1 s1 k=>[ee bM 3 l c s1]) (Gf:=fun _ i1 s1 k=>[(0,nb l c s1),(3,bD k),(4,tV (iZ 1 l c (i:Int).toNat y.length)),(5,bD (i1:Int))]) (fun i1 s1 k h=>?_) (fun k2 ih1 i1 s1 k h=>?_) (y.length-1) 1 s (i:Int) ⟨J,h⟩) (bl J)
    ·obtain⟨hx1,h⟩:=h
     refine aA<|af<|ay<|aH J<|aH J<|zo J (CH dm hv.1 (ht J))<|zo J (ej J J)<|aw<|bu (ht J) (IH hx1)<|bk ?_;refine ac (ac (aM ?_));refine av<|ay<|aH rfl<|aH rfl<|bI h fun y1 q_y1 h=>zo J (lG dm bK J (.head _) (ht J) (ht J) q_y1)<|kP (.head _) q_y1 fun hv1=>bI h fun cl q_cl h=>Eh bK J J dm (fun _=>J) J q_y1 (ht J) (so q_cl)<|dP (xZ q_y1 (so q_cl)) 0 J<|dP (xZ q_y1 (so q_cl)) 54 J<|aw<|ay<|aH J<|aH J<|bI h fun y2 q_y2 h=>zo J (lH dm bK J (.head _) (ht J) (ht J) q_y2)<|wA q_y2<|bC J<|aw ?_;refine aq ?_;refine aD (M (M (aD (M ?_))));cases so h;exact oA J (oi l c) J J (fun _ _ h=>h)
    ·obtain⟨hx1,h⟩:=h
     refine aA<|af<|ay<|aH J<|aH J<|zo J (CH dm hv.1 (ht J))<|zo J (ej J J)<|aw<|bt (ht J) (IG hx1)<|dJ<|af<|ax<|af<|bI h fun e3 q_e3 h=>bI h fun e4 q_e4 h=>?_
     refine eR (ts:=[_,_,_,_,_,_,_,_,_,_]) mixed J J
      ⟨ek 4 J J J (cL J),
      ⟨ek 5 J J J (cL J),
      ⟨eo 35 0 36 1 J J J J (nV dm bK J (.head _) (tp q_y) (ht J) (ht J) q_e3),
      ⟨c9 37 2 J J J (d5 (r:=bM) (i:=((i:Int)+(i1:Int))) (foff:=0) bK J J bm J (.head _) (qP q_e3).2.2 (ht J)),
      ⟨ek 4 J J J (cL J),
      ⟨ek 5 J J J (cL J),
      ⟨c9 40 5 J J J (eV (ht J) hI),
      ⟨eo 39 4 41 6 J J J J (nV dm bK J (.head _) (tp q_y) (ht J) (ht J) q_e4),
      ⟨c9 42 7 J J J (d5 (r:=bM) (i:=((i:Int)+(IntKind.i64.wrap ((i1:Int)-(1:Int))))) (foff:=0) bK J J bm J (.head _) (qP q_e4).2.2 (ht J)),
      ⟨eo 38 3 43 8 J J J J (dq (ht J) (ht J)),
      aT⟩⟩⟩⟩⟩⟩⟩⟩⟩⟩ ?_
     refine av<|dn h rfl (fun h=>?_) (fun h=>?_)
     ·refine ay<|aH J<|aH J<|aH J<|aH J<|bI h fun e5 q_e5 h=>zo J (nV dm bK J (.head _) (tp q_y) (ht J) (ht J) q_e5)<|zo J (d5 (r:=bM) (i:=((i:Int)+(i1:Int))) (foff:=0) bK J J bm J (.head _) (qP q_e5).2.2 (ht J))<|bI h fun e6 q_e6 h=>zo J (ce dm bK (.head _) (ht J) (ht J) q_e6)<|bI h fun st q_st h=>jA bK J aj J q_e6 (so q_st) (ht J) (ht J)<|dP (eD (so q_st)) 0 J<|dP (eD (so q_st)) 45 J<|aw<|am<|aH J<|zo J (jf (ht J) hI)<|bC J<|aQ<|an<|av ?_;refine am<|aH J<|zo J (qN (Fb hx1 (Kg hv.2)) (ht J) hI)<|bC J<|aQ ?_;exact be (aS (ih1 (i1+1) st (IntKind.i64.wrap (k+(1:Int))) ⟨Fa hx1,h⟩) (bl J))
     ·refine bE<|an<|av<|am<|aH rfl<|zo rfl (qN (Fb hx1 (Kg hv.2)) (ht rfl) hI)<|bC rfl<|aQ ?_;exact be (aS (ih1 (i1+1) s1 k ⟨Fa hx1,h⟩) (bl J))
   ·refine bE<|an<|av<|am<|aH rfl<|zo rfl (jQ (cI hx hN) rfl)<|bC rfl<|aQ ?_;exact be (aS (ih (i+1) ⟨cH hx,h⟩) (bl J))

theorem Fs(e:bw){R:(List Int)}(h:xS e=some R):fx ba 239 [tD br e] false bM 3 R:=by
 refine fx.of Tryz.func239 J J J fun w0 S0=>ay<|zo J (gY J)<|bQ false bM 3<|zo J (aP pI)<|aw<|af<|ay<|zo J (bz fa J J)<|bI h fun r q_r h=>zo J (aK CY (vl _ q_r) ⟨(ht J),aT⟩)<|zo J (yr J)<|aw<|dn h J (fun h=>?_) (fun h=>?_)
 ·refine ay<|bQ false bM 3<|zo J (aP pI)<|aw<|aq<|M ?_;cases so h;exact eS J J
 ·refine dJ<|ay<|bQ false bM 3<|zo J (aP pI)<|aw<|af<|ay<|zo J (cr dW cC J J)<|zo J (bz jG J J)<|zo J (gV iT J)<|zo J (bA hI)<|aw<|ax<|bf (k:=10) J fun hN=>bF<|eA<|nM ?_;refine aS (kQ (Z:=fun ls i out l c=>(e.Nodes.drop i=ls)∧mo ls out=some R) (Of:=fun _ i out l c=>[ee bM 3 l c out]) (Gf:=fun _ i out l c=>[(3,nb l c out),(10,dH (aY) e.Nodes),(11,fD e.Nodes),(12,bD (i:Int))]) (fun i out l c h=>?_) (fun e1 tl ih i out l c h=>?_) e.Nodes 0 my none 0 ⟨J,h⟩) (bl J)
  ·obtain⟨hx,h⟩:=h
   refine aA<|ay<|zo J (ej J J)<|aw<|af<|bu (ht J) (c8 hx)<|bk ?_;refine ac (ac (aM ?_));refine av<|ay<|aH rfl<|bI h fun Ke q_srt h=>?_;refine FY (n:=out.length) (ys:=Ke) xa ?_ KL ?_ ?_ ?_ ?_ ?_
   ·rfl
   ·exact q_srt
   ·exact(ht J)
   ·rfl
   ·rfl
   intro hl
   refine AW hl 3 J<|AW hl 25 J<|aw<|ay<|aH J<|bI h fun r1 q_r1 h=>AZ [ee bM 3 l c Ke] _ J KK (Jk l c _ q_r1) ⟨(ht J),aT⟩ J fun i1=>?_;refine(show RG _ _ _ _ [ee bM 3 (i1.h 0).1 (i1.h 0).2 r1] ((28,nb (i1.h 0).1 (i1.h 0).2 r1)::_)from ?_);refine bC J<|aw<|aq ?_;cases so h;exact eS J J
  ·obtain⟨hx,h⟩:=h
   refine aA<|ay<|zo J (ej J J)<|aw<|af<|bt (ht J) (cY hx)<|dJ<|af<|ax<|ay<|zo J (km iT da J J J (c0 hx))<|zo J (bz da J J)<|bg (r:=aY) (x:=zK) da (fun _=>kw _) J fun b=>ap da J aj J (ht J) (ht J)<|bc 5 J<|aw<|ay<|zo J (cr gE dV J J) ?_;refine zo J (bz bK J J)<|zo J (jR J)<|aw<|dn h J (fun h=>?_) (fun h=>?_)
   ·refine am<|aH J<|zo J (cr kJ fJ J J)<|zo J (bz bK J J)<|zo J (aR (r:=bM) (ys:=[e1.Col]) (xs:=[.tmp 21]) dm bK J J J J J ⟨(ht J),aT⟩)<|bI h fun out1 q_out1 h=>cT bK J J J J dm J J (ht J) (ht J) q_out1 fun l2 c2=>bC J<|aQ<|an<|av<|am<|zo rfl (jQ (cI hx hN) rfl)<|aH rfl<|aQ ?_;exact be (aS (ih (i+1) out1 l2 c2 ⟨cH hx,h⟩) (bl J))
   ·refine bE<|an<|av<|am<|zo rfl (jQ (cI hx hN) rfl)<|aH rfl<|aQ ?_;exact be (aS (ih (i+1) out l c ⟨cH hx,h⟩) (bl J))
theorem vk(s:(List Int)){R:(List Int)}(h:bZ s=some R):fx ba 56 [dX s] false bM 3 R:=by
 refine fx.of Tryz.func56 J J J fun w0 S0=>ay<|bQ false bM 3<|zo J (aP pI)<|aw<|af<|ay<|aH J<|ox dm (ht J) J fun isnil hisnil=>aw<|kT (ht J) (fun hc=>?_) (fun hc=>?_)
 ·have hx:=hisnil hc
  have h:some my=some R:=by simpa [bZ,kr,hx] using h
  refine ay<|bQ false bM 3<|zo J (aP pI)<|aw<|aq<|M ?_;cases so h;exact eS J J
 ·refine dJ<|ay<|gX (r:=bM) (ys:=my) (xs:=[]) dm bK J J J J J trivial J fun l c=>aH J<|bI h fun x q_x h=>cT bK J J J J dm J J (ht J) (ht J) q_x fun l1 c1=>bC J<|aw<|aq ?_;cases so h;exact eS J J
theorem zi(s:(List Int)){R:(List Int)}(h:bZ s=some R):bn ba 56 [dX s] (dX R):=(vk _ h).spec

theorem Kz{l:Option Nat}{c:Nat}{xs s:List Int}{lo:Int}{R:List Int}(hs:du xs lo (xs.length:Int)=some s)(h:bZ s=some R):cz ba 56 [tV (iZ 1 l c lo.toNat s.length)] [ee bM 3 l c xs] (fun i:OI=>nb (i.h 0).1 (i.h 0).2 R) (fun i=>[ee bM 3 (i.h 0).1 (i.h 0).2 R,ee bM 3 l c xs]):=by
 refine cz.of Tryz.func56 J J J fun w0 S0=>ay<|zo J (aP pI)<|aw<|af<|ay<|aH J<|Ef (r:=bM) dm (.head _) hs (ht J) J fun isnil hisnil=>aw<|kT (ht J) (fun hc=>?_) (fun hc=>?_)
 ·have hx:=hisnil hc
  have h:some my=some R:=by simpa [bZ,kr,hx] using h
  refine ay<|bQ false bM 3<|zo J (aP pI)<|aw<|aq<|M ?_;cases so h;exact oA J (oi none 0) J J (fun _ _ h=>h)
 ·refine dJ<|ay<|gX (r:=bM) (ys:=my) (xs:=[]) dm bK J J J J J trivial J fun l1 c1=>aH J<|bI h fun x q_x h=>Ck bK J J J J dm J J (ht J) (.tail _ (.head _)) hs (ht J) q_x fun l2 c2=>bC J<|aw<|aq ?_;cases so h;exact oA J (oi l2 c2) J J (fun _ _ h=>h)

theorem Jj(b:Nat)(l:Option Nat)(c:Nat)(stack:(List Int))(k:Int){R:(List Int)×(List Int)}(h:pz stack k=some R):cz ba 257 [bD k,tV (aF b 0)] [bx rV 42 b (aC l c stack.length),ee bM 3 l c stack] (fun i:OI=>dX R.1) (fun i=>[bx rV 42 b (aC (i.h 0).1 (i.h 0).2 R.2.length),ee bM 3 (i.h 0).1 (i.h 0).2 R.2]):=by
 refine cz.of Tryz.func257 J J J fun w0 S0=>ay<|zo J (aP (show aG _ _ _ lQ from ib))<|aw<|ay<|zo J (lI cu (.head _) (ht J))<|zo J (lI cu (.head _) (ht J))<|zo J (eF dm (.tail _ (.head _)) (ht J))<|aH J<|zo J (eV (ht J) (ht J))<|bI h fun y q_y h=>zo J (lG dm bK J (.tail _ (.head _)) (ht J) (ht J) q_y)<|kP (.tail _ (.head _)) q_y fun hv=>bN<|bI h fun r q_r h=>AZ [ee bM 3 l c stack] _ J AO (Kz q_y q_r) ⟨(ht J),aT⟩ J fun i=>?_;refine(show RG _ _ _ _ [ee bM 3 (i.h 0).1 (i.h 0).2 r,ee bM 3 l c stack,bx rV 42 b (aC l c stack.length)] _ from ?_);refine bC J<|aw<|ay<|zo J (lI cu (.tail _ (.tail _ (.head _))) (ht J))<|zo J (lI cu (.tail _ (.tail _ (.head _))) (ht J))<|zo J (eF dm (.tail _ (.head _)) (ht J))<|aH J<|zo J (eV (ht J) (ht J))<|bI h fun y1 q_y1 h=>zo J (lH dm bK J (.tail _ (.head _)) (ht J) (ht J) q_y1)<|bN<|wA q_y1<|dr<|ap cu J aj J (ht J) (Ga (ht J))<|aw<|ay<|aH J<|bC J<|aw ?_;refine aq<|au<|fY<|cB 3 J<|cB 11 J<|cB 4 J<|cB 18 J<|gS 3 J<|aU<|bU<|bU ?_;cases so h;exact oA J (oi l c) J J (fun _ _ h=>h)

theorem GQ(e:bw)(do1:(bT→(List Int)→Option (Int×Int))){R:Int×Int}(h:rm e do1=some R):bn ba 240 [tD br e,(eN ba Gj Gh (fun(x:bT×(List Int))=>do1 x.1 x.2))] (tT [bD R.1,bD R.2]):=by
 refine bn.of Tryz.func240 J J J fun w0 S0=>ay<|zo J (gY J)<|zo J (d9)<|zo J (d9)<|aw<|F2<|ay<|bQ false bM 3<|bg (x:=aC none 0 0) cu (fun _=>E1) J fun b=>aw<|ay<|zo J (d9)<|aw<|ay<|zo J (E6 (cts:=[tV (aF b 0)]) (caps:=[.tmp 6]) ⟨(ht J),aT⟩)<|bC J ?_;refine aw<|ay<|zo J (d9)<|aw<|af<|F3<|av<|af<|ay<|zo rfl (cr dW cC rfl rfl)<|zo rfl (bz jG rfl rfl)<|zo rfl (gV iT rfl)<|zo rfl (bA hI)<|aw ?_;refine Ep (Z:=fun bad stack l c=>ll bad stack=some R) (Of:=fun bad stack l c=>[bx rV 42 b (aC l c stack.length),ee bM 3 l c stack]) (Gf:=fun bad stack l c=>[(6,tV (aF b 0)),(7,bD 0),(9,bD bad)]) (fun bad stack l c h=>?_) (fun K=>?_)
 ·skip
  refine av<|af<|ay<|aH rfl<|zo rfl (yr rfl)<|aw<|dn h rfl (fun h=>?_) (fun h=>?_)
  ·refine ay<|aH J<|aH J<|bC J<|bC J<|aw<|aq ?_;refine M (yi ?_);refine aU<|aU ?_;cases so h;exact cv J J J
  ·refine dJ<|ay<|zo J (lI cu (.head _) (ht J))<|bI h fun e1 q_e1 h=>zo J (ce dm bK (.tail _ (.head _)) (ht J) hI q_e1)<|zo J (d5 (r:=bM) (i:=(0:Int)) (foff:=0) bK J J bm J (.tail _ (.head _)) q_e1 (ht J))<|bC J<|zo J (d9)<|aw<|aq<|yi<|aU<|aU ?_;cases so h;exact cv J J J
 ·skip
  refine bf (k:=16) J fun hN=>bF ?_;refine aS (qC (Z:=fun ls i bad1 stack1 l1 c1=>(e.Nodes.drop i=ls)∧lk do1 ls bad1 stack1=some R) (Of:=fun _ i bad1 stack1 l1 c1=>[bx rV 42 b (aC l1 c1 stack1.length),ee bM 3 l1 c1 stack1]) (Gf:=fun _ i bad1 stack1 l1 c1=>[(1,(eN ba Gj Gh (fun(x:bT×(List Int))=>do1 x.1 x.2))),(6,tV (aF b 0)),(7,bD 0),(8,tC 257 [tV (aF b 0)]),(9,bD bad1),(16,dH (aY) e.Nodes),(17,fD e.Nodes),(18,bD (i:Int))]) (fun i bad1 stack1 l1 c1 h=>?_) (fun e2 tl ih i bad1 stack1 l1 c1 h=>?_) e.Nodes 0 (0:Int) my none 0 ⟨J,h⟩) (bl J)
  ·obtain⟨hx,h⟩:=h
   refine aA<|ay<|zo J (ej J J)<|aw<|af<|bu (ht J) (c8 hx)<|bk ?_;refine ac (ac (aM ?_));exact cd (K bad1 stack1 l1 c1 h) (bl J)
  ·obtain⟨hx,h⟩:=h
   refine aA<|ay<|zo J (ej J J)<|aw<|af<|bt (ht J) (cY hx)<|dJ<|af<|ax<|ay<|zo J (km iT da J J J (c0 hx))<|zo J (bz da J J)<|bg (r:=aY) (x:=zK) da (fun _=>kw _) J fun b1=>ap da J aj J (ht J) (ht J)<|bc 11 J<|aw<|af<|bI h fun r q_r h=>bI h fun r1 q_r1 h=>?_
   obtain⟨r2,q_r2,h⟩:=bs h
   refine fg 12 [tc ((eN ba Gj Gh (fun(x:bT×(List Int))=>do1 x.1 x.2))),tc (tD aY e2),tc (tC 257 [tV (aF b 0)]),tc (bj bM e2.Tag),tc (bD e2.Tag),tc (bD r),tc (dX r1.1),tc (tT [bD r2.1,bD r2.2]),tc (tT [bD r2.1,bD r2.2]),tc (bD r2.1),tc (bD r2.2),tc (bD r2.1)] [false,false,false,false,false,false,true,false,false,false,false,false] [fun _=>[bx rV 42 b (aC l1 c1 stack1.length),ee bM 3 l1 c1 stack1],fun sg=>[bx rV 42 b (aC ((sg 6).h 0).1 ((sg 6).h 0).2 r1.2.length),ee bM 3 ((sg 6).h 0).1 ((sg 6).h 0).2 r1.2]] J mixed J J J J J
    ⟨⟨[⟨1,fun _=>(eN ba H8 H6 (fun(x:bT×(List Int))=>do1 x.1 x.2)),none⟩],_,0,1,J,⟨(fun _=>J),aT⟩,J,J,J,J,J,fun _ sg _ _=>ae J (cL J)⟩,
    ⟨⟨[⟨11,fun _=>bj aY e2,none⟩],_,0,1,J,⟨(fun _=>J),aT⟩,J,J,J,J,J,fun _ sg _ _=>ae J (bz da J J)⟩,
    ⟨⟨[⟨8,fun _=>tC 257 [tV (aF b 0)],none⟩],_,0,0,J,⟨(fun _=>J),aT⟩,J,J,J,J,J,fun _ sg _ _=>ae J (cL J)⟩,
    ⟨⟨[⟨11,fun _=>bj aY e2,none⟩],_,0,0,J,⟨(fun _=>J),aT⟩,J,J,J,J,J,fun _ sg _ _=>ae J (cr gE dV J J)⟩,
    ⟨⟨[⟨26,fun _=>bj bM e2.Tag,some 3⟩],_,0,0,J,⟨(fun _=>J),aT⟩,J,J,J,J,J,fun _ sg _ _=>ae J (bz bK J J)⟩,
    ⟨⟨[⟨27,fun _=>tD bM e2.Tag,some 4⟩],_,0,0,J,⟨(fun _=>J),aT⟩,J,J,J,J,J,fun _ sg _ _=>ae J (aK HN (CP _ q_r) ⟨(ht J),aT⟩)⟩,
    ⟨⟨[⟨25,fun _=>tC 257 [tV (aF b 0)],some 2⟩,⟨28,fun _=>tD bM r,some 5⟩],_,J,⟨(fun _=>J),(fun _=>J),aT⟩,J,J,J,fun sg=>bS J (EffOK.fr1 (EffOK.fr1 (D5 (xs:=[.tmp 28]) (ts:=[tD bM r]) (cts:=[tV (aF b 0)]) [bx rV 42 b (aC l1 c1 stack1.length),ee bM 3 l1 c1 stack1] _ J KJ (Jj b l1 c1 _ _ q_r1) (ht J) ⟨(ht J),aT⟩ (fun _=>J))))⟩,
    ⟨⟨[⟨23,fun _=>(eN ba H8 H6 (fun(x:bT×(List Int))=>do1 x.1 x.2)),some 0⟩,⟨24,fun _=>tD aY e2,some 1⟩,⟨29,fun _=>tD kx r1.1,some 6⟩],_,1,1,J,⟨(fun _=>J),(fun _=>J),(fun _=>J),aT⟩,J,J,J,J,J,fun _ sg _ _=>ae J (gc (args:=H8) (res:=H6) (f:=(fun(x:bT×(List Int))=>do1 x.1 x.2)) (x:=((e2,r1.1):bT×(List Int))) (ht J) q_r2 ⟨(ht J),(ht J),aT⟩)⟩,
    ⟨⟨[⟨30,fun _=>tT [tD bM r2.1,tD bM r2.2],some 7⟩],_,1,1,J,⟨(fun _=>J),aT⟩,J,J,J,J,J,fun _ sg _ _=>ae J (cL J)⟩,
    ⟨⟨[⟨22,fun _=>tT [tD bM r2.1,tD bM r2.2],some 8⟩],_,1,1,J,⟨(fun _=>J),aT⟩,J,J,J,J,J,fun _ sg _ _=>ae J (iU J J)⟩,
    ⟨⟨[⟨22,fun _=>tT [tD bM r2.1,tD bM r2.2],some 8⟩],_,1,1,J,⟨(fun _=>J),aT⟩,J,J,J,J,J,fun _ sg _ _=>ae J (iU J J)⟩,
    ⟨⟨[⟨31,fun _=>tD bM r2.1,some 9⟩],_,1,1,J,⟨(fun _=>J),aT⟩,J,J,J,J,J,fun _ sg _ _=>ae J (vB J)⟩,
    aT⟩⟩⟩⟩⟩⟩⟩⟩⟩⟩⟩⟩ (fun sg=>?_)
   refine(show RG _ _ _ _ [bx rV 42 b (aC ((sg 6).h 0).1 ((sg 6).h 0).2 r1.2.length),ee bM 3 ((sg 6).h 0).1 ((sg 6).h 0).2 r1.2] _ from ?_);refine bC J<|aw<|af<|ay<|aH J<|zo J (yr J)<|aw<|dn h J (fun h=>?_) (fun h=>?_)
   ·refine ay<|aH J<|bC J<|aw<|bk ?_;refine ac (bY J (ac (ac (aM ?_))));exact cd (K r2.2 r1.2 ((sg 6).h 0).1 ((sg 6).h 0).2 h) (bl J)
   ·refine dJ<|am<|zo J (lI cu (.head _) (ht J))<|aH J<|zo J (aR (r:=bM) (ys:=[r2.1]) (xs:=[.tmp 37]) dm bK J J J J J ⟨(ht J),aT⟩)<|bN<|bI h fun l2 q_l2 h=>cT bK J J J J dm J J (ht J) (ht J) q_l2 fun l3 c2=>bN<|ap cu J aj J (ht J) (Ga (ht J))<|aQ<|an<|av<|am<|zo rfl (jQ (cI hx hN) rfl)<|aH rfl<|aQ ?_;exact be (aS (ih (i+1) bad1 l2 l3 c2 ⟨cH hx,h⟩) (bl J))

theorem CS(tag:Int){R:Bool}(h:l9 tag=some R):bn ba 202 [bD tag] (eH R):=by
 refine bn.of Tryz.func202 J J J fun w0 S0=>ay<|zo J (eZ)<|aw<|ay<|aH J<|zo J (jR J)<|aH J<|cZ J J (fun hg=>cL J)<|cZ J J (fun hg=>dN (bq J hg) hI)<|cZ J J (fun hg=>bA (bq J hg))<|jl J J J J (fun hg=>cL J)<|jl J J J J (fun hg=>je (bq J hg) hI)<|cZ J J (fun hg=>mL (bq J hg) (fun hb=>(bq J (w9 hg hb))))<|zo J (oB J J)<|bC J<|aw<|aq ?_;cases so h;exact aW J J

theorem GP(kinds:(List Int))(n:bT)(l:(List Int)){R:Int×Int}(h:qu kinds n l=some R):bn ba 241 [tD aY n,dX l,bj dG kinds] (tT [bD R.1,bD R.2]):=by
 refine bn.of Tryz.func241 J J J fun w0 S0=>ay<|zo J (gY J)<|zo J (d9)<|zo J (d9)<|aw<|ay<|zo J (d9)<|aw<|af<|ay<|aH J<|zo J (gV dm J)<|zo J (bA hI)<|aw<|ax<|bf (k:=12) J fun hN=>bF ?_;refine aS (iv (Z:=fun ls i own=>(l.drop i=ls)∧jk kinds n ls own=some R) (Of:=fun _ i own=>[]) (Gf:=fun _ i own=>[(2,bj dG kinds),(3,bj aY n),(7,bD own),(12,dX l),(13,fD l),(14,bD (i:Int))]) (fun i own h=>?_) (fun e tl ih i own h=>?_) l 0 (0:Int) ⟨J,h⟩) (bl J)
 ·obtain⟨hx,h⟩:=h
  refine aA<|ay<|zo J (ej J J)<|aw<|af<|bu (ht J) (c8 hx)<|bk ?_;refine ac (ac (aM ?_));refine av<|ay<|aH rfl<|bC rfl<|aw<|ay<|zo rfl (d9)<|aw<|af<|ax<|ay<|zo rfl (cr gE dV rfl rfl)<|zo rfl (bz bK rfl rfl)<|zo rfl (jR rfl)<|bC rfl<|aw<|dn h rfl (fun h=>?_) (fun h=>?_)
  ·refine ay<|zo J (cr sN mU J J)<|zo J (cr qR pf J J)<|zo J (bz bK J J)<|bC J<|zo J (d9)<|aw<|aq ?_;refine aD (M ?_);cases so h;exact cv J J J
  ·refine ay<|zo J (cr gE dV J J)<|zo J (bz bK J J)<|zo J (jR J)<|bC J<|aw<|dn h J (fun h=>?_) (fun h=>?_)
   ·refine ay<|zo J (bz cu J J)<|zo J (cr kJ fJ J J)<|zo J (bz bK J J)<|bI h fun e1 q_e1 h=>zo J (km dm bK J J J q_e1)<|zo J (bz bK J J)<|bC J<|zo J (d9)<|aw<|aq ?_;refine aD (M ?_);cases so h;exact cv J J J
   ·refine ay<|zo J (cr gE dV J J)<|zo J (bz bK J J)<|bI h fun r q_r h=>zo J (aK HQ (CS _ q_r) ⟨(ht J),aT⟩)<|bC J<|aw<|dn h J (fun h=>?_) (fun h=>?_)
    ·refine am<|zo J (d9)<|zo J (d9)<|aQ<|an<|av<|af<|ay<|aH rfl<|zo rfl (jR rfl)<|aH rfl<|cZ rfl rfl (fun hg=>cL J)<|cZ J J (fun hg=>dq (bq J hg) hI)<|cZ J J (fun hg=>bA (bq J hg))<|jl J J J J (fun hg=>cL J)<|jl J J J J (fun hg=>cL J)<|jl J J J J (fun hg=>dq (bq J hg) (bq J hg))<|cZ J J (fun hg=>mL (bq J hg) (fun hb=>(bq J (w9 hg hb))))<|zo J (oB J J)<|aw<|dn h J (fun h=>?_) (fun h=>?_)
     ·refine ay<|zo J (d9)<|zo J (d9)<|aw<|aq<|M ?_;cases so h;exact cv J J J
     ·refine dJ<|ay<|aH J<|bC J<|zo J (d9)<|aw<|aq ?_;cases so h;exact cv J J J
    ·refine ay<|zo J (cr gE dV J J)<|zo J (bz bK J J)<|zo J (jR J)<|aH J<|cZ J J (fun hg=>cr gE dV J J)<|cZ J J (fun hg=>bp bK J J (bq J hg))<|cZ J J (fun hg=>cj (bq J hg) hI)<|zo J (oB J J)<|aH J<|cZ J J (fun hg=>cr gE dV J J)<|cZ J J (fun hg=>bp bK J J (bq J hg))<|cZ J J (fun hg=>cj (bq J hg) hI)<|zo J (oB J J)<|bC J<|aw<|dn h J (fun h=>?_) (fun h=>?_)
     ·refine am<|zo J (d9)<|aQ<|an<|av<|af<|ay<|aH rfl<|zo rfl (jR rfl)<|aH rfl<|cZ rfl rfl (fun hg=>cL J)<|cZ J J (fun hg=>dq (bq J hg) hI)<|cZ J J (fun hg=>bA (bq J hg))<|jl J J J J (fun hg=>cL J)<|jl J J J J (fun hg=>cL J)<|jl J J J J (fun hg=>dq (bq J hg) (bq J hg))<|cZ J J (fun hg=>mL (bq J hg) (fun hb=>(bq J (w9 hg hb))))<|zo J (oB J J)<|aw<|dn h J (fun h=>?_) (fun h=>?_)
      ·refine ay<|zo J (d9)<|zo J (d9)<|aw<|aq<|M ?_;cases so h;exact cv J J J
      ·refine dJ<|ay<|aH J<|bC J<|zo J (d9)<|aw<|aq ?_;cases so h;exact cv J J J
     ·refine bE<|an<|av<|af<|ay<|aH rfl<|zo rfl (jR rfl)<|aH rfl<|cZ rfl rfl (fun hg=>cL J)<|cZ J J (fun hg=>dq (bq J hg) hI)<|cZ J J (fun hg=>bA (bq J hg))<|jl J J J J (fun hg=>cL J)<|jl J J J J (fun hg=>cL J)<|jl J J J J (fun hg=>dq (bq J hg) (bq J hg))<|cZ J J (fun hg=>mL (bq J hg) (fun hb=>(bq J (w9 hg hb))))<|zo J (oB J J)<|aw<|dn h J (fun h=>?_) (fun h=>?_)
      ·refine ay<|zo J (d9)<|zo J (d9)<|aw<|aq<|M ?_;cases so h;exact cv J J J
      ·refine dJ<|ay<|aH J<|bC J<|zo J (d9)<|aw<|aq ?_;cases so h;exact cv J J J
 ·obtain⟨hx,h⟩:=h
  refine aA<|ay<|zo J (ej J J)<|aw<|af<|bt (ht J) (cY hx)<|dJ<|af<|ax<|ay<|zo J (km dm bK J J J (c0 hx))<|zo J (bz bK J J)<|bC J<|aw<|ax<|ay<|aH J<|zo J (jR J) ?_;refine aH J<|cZ J J (fun hg=>cL J)<|cZ J J (fun hg=>cL J)<|cZ J J (fun hg=>cj (bq J hg) (bq J hg))<|zo J (oB J J)<|bC J<|aw<|dn h J (fun h=>?_) (fun h=>?_)
  ·refine bE<|an<|an<|av<|am<|zo rfl (jQ (cI hx hN) rfl)<|aH rfl<|aQ ?_;exact be (aS (ih (i+1) own ⟨cH hx,h⟩) (bl J))
  ·refine ay<|aH J<|zo J (jR J)<|bC J<|aw<|dn h J (fun h=>?_) (fun h=>?_)
   ·refine am<|aH J<|bC J<|aQ<|an<|an<|av<|am<|zo rfl (jQ (cI hx hN) rfl)<|aH rfl<|aQ ?_;exact be (aS (ih (i+1) e ⟨cH hx,h⟩) (bl J))
   ·refine am<|zo J (d9)<|aQ<|an<|an<|av<|am<|zo rfl (jQ (cI hx hN) rfl)<|aH rfl<|aQ ?_;exact be (aS (ih (i+1) mw ⟨cH hx,h⟩) (bl J))

theorem zk(e:bw)(kinds:(List Int)){R:Int×Int}(h:qS e kinds=some R):bn ba 210 [tD br e,dX kinds] (tT [bD R.1,bD R.2]):=by
 refine bn.of Tryz.func210 J J J fun w0 S0=>ay<|zo J (gY J)<|zo J (gY J)<|zo J (d9)<|zo J (d9)<|aw<|af<|ay<|zo J (bz fa J J)<|bI h fun r q_r h=>zo J (aK CY (vl _ q_r) ⟨(ht J),aT⟩)<|bC J<|aw<|ay<|aH J<|zo J (yr J)<|aw ?_;refine dn h J (fun h=>?_) (fun h=>?_)
 ·refine ay<|aH J<|zo J (d9)<|bC J<|aw<|aq<|M ?_;cases so h;exact cv J J J
 ·refine dJ<|af<|ay<|zo J (bz cu J J)<|zo J (gV dm J)<|zo J (bA hI)<|aw<|ax<|bf (k:=16) J fun hN=>bF ?_;refine aS (dS (Z:=fun ls i=>(kinds.drop i=ls)∧pl e kinds ls=some R) (Of:=fun _ i=>[]) (Gf:=fun _ i=>[(2,bj br e),(3,bj dG kinds),(16,dX kinds),(17,fD kinds),(18,bD (i:Int))]) (fun i h=>?_) (fun e1 tl ih i h=>?_) kinds 0 ⟨J,h⟩) (bl J)
  ·obtain⟨hx,h⟩:=h
   refine aA<|ay<|zo J (ej J J)<|aw<|af<|bu (ht J) (c8 hx)<|bk ?_;refine ac (ac (aM ?_));refine av<|af<|ay<|zo rfl (bz fa rfl rfl)<|bI h fun r1 q_r1 h=>iu KR (Fs _ q_r1) ⟨(ht J),aT⟩ J fun l c=>zo J (eF dm (.head _) (ht J))<|zo J (bA hI)<|aw<|ax<|il (.head _) fun hN1=>bF ?_;refine aS (dS (Z:=fun ls1 i1=>(r1.drop i1=ls1)∧pk e kinds ls1=some R) (Of:=fun _ i1=>[ee bM 3 l c r1]) (Gf:=fun _ i1=>[(2,bj br e),(3,bj dG kinds),(30,nb l c r1),(31,fD r1),(32,bD (i1:Int))]) (fun i1 h=>?_) (fun e2 tl1 ih1 i1 h=>?_) r1 0 ⟨J,h⟩) (bl J)
   ·obtain⟨hx1,h⟩:=h
    refine aA<|ay<|zo J (ej J J)<|aw<|af<|bu (ht J) (c8 hx1)<|bk ?_;refine ac (ac (aM ?_));refine av<|ay<|zo rfl (bz fa rfl rfl)<|zo rfl ((show bH _ _ _ _ ((eN ba Gj Gh (fun(x:bT×(List Int))=>(qu kinds) x.1 x.2)))from jd (cts:=[bj dG kinds]) (caps:=[.tmp 3]) KP ⟨(ht J),aT⟩ (fun x y h=>GP _ _ _ h)))<|bI h fun r2 q_r2 h=>zo J (aK KQ (GQ _ _ q_r2) ⟨(ht J),(ht J),aT⟩)<|zo J (iU J J)<|zo J (iU J J)<|bC J<|bC J<|aw<|aq<|aU ?_;cases so h;exact cv J J J
   ·obtain⟨hx1,h⟩:=h
    refine aA<|ay<|zo J (ej J J)<|aw<|af<|bt (ht J) (cY hx1)<|dJ<|af<|ax<|ay<|zo J (ce dm bK (.head _) (ht J) (ht J) (c0 hx1))<|zo J (d5 (r:=bM) (i:=(i1:Int)) (foff:=0) bK J J bm J (.head _) (c0 hx1) (ht J))<|bC J<|aw<|ay<|aH J<|zo J (bz cu J J)<|zo J (gV dm J) ?_;refine zo J (dN (ht J) (ht J))<|aw<|dn h J (fun h=>?_) (fun h=>?_)
    ·refine ay<|zo J (d9)<|zo J (d9)<|aw<|aq ?_;refine aD (M (M (aD (M ?_))));refine aU ?_;cases so h;exact cv J J J
    ·refine bE<|an<|av<|am<|zo rfl (jQ (cI hx1 hN1) rfl)<|aH rfl<|aQ ?_;exact be (aS (ih1 (i1+1) ⟨cH hx1,h⟩) (bl J))
  ·obtain⟨hx,h⟩:=h
   refine aA<|ay<|zo J (ej J J)<|aw<|af<|bt (ht J) (cY hx)<|dJ<|af<|ax<|ay<|zo J (km dm bK J J J (c0 hx))<|zo J (bz bK J J)<|bC J<|aw<|ay<|aH J<|zo J (eW (ht J) hI)<|aH J ?_;refine cZ J J (fun hg=>cL J)<|cZ J J (fun hg=>eX (bq J hg) hI)<|zo J (oB J J)<|aw<|dn h J (fun h=>?_) (fun h=>?_)
   ·refine ay<|zo J (d9)<|zo J (d9)<|aw<|aq ?_;refine aD (M (M (aD (M ?_))));cases so h;exact cv J J J
   ·refine bE<|an<|av<|am<|zo rfl (jQ (cI hx hN) rfl)<|aH rfl<|aQ ?_;exact be (aS (ih (i+1) ⟨cH hx,h⟩) (bl J))

end Go.Proofs.YtnmjbolollcokaaGreatDoor

