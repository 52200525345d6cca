/- cN of this claim: P1. -/
import Derived.Test.YtnmjbolollcokaaGreatDoorRaT
import Derived.Test.YtnmjbolollcokaaGreatDoorRaP0
set_option linter.all false
namespace Go.Proofs.YtnmjbolollcokaaGreatDoor
open Go
set_option maxRecDepth 100000

theorem vw(e:bA){R:Int}(h:nh e=some R):bo aX 199 [tD bu e] (bK R):=by
 refine bo.of Tryz.func199 J J J fun w0 S0=>ay<|zo J (gP J)<|zo J (dW)<|aw<|ae<|ay<|zo J (bq fe J J)<|bG h fun r q_r h=>zo J (aF HH (CR _ q_r) ⟨(ht J),aV⟩)<|aG J<|zo J (jf J J)<|zo J (jf J J)<|bB J<|bB J<|aw<|ay<|aG J<|zo J (dy (ht J)) ?_;refine aw<|db h J (fun h=>?_) (fun h=>?_)
 ·refine ay<|zo J (dW)<|aw<|ap<|M ?_;cases so h;exact aU J J
 ·refine dB<|ay<|zo J (dW)<|aw<|ap ?_;cases so h;exact aU J J

theorem Jc(l:Option Nat)(c:Nat)(s:(List Int)){R:(List Int)}(h:kR s=some R):cA aX 256 [mg l c s] [d9 bR 3 l c s] (fun i:OI=>mg (i.h 0).1 (i.h 0).2 R) (fun i=>[d9 bR 3 (i.h 0).1 (i.h 0).2 R]):=by
 refine cA.of Tryz.func256 J J J fun w0 S0=>ay<|bM false bR 3<|zo J (aP oS)<|aw<|ae<|ay<|aG J<|zo J (eJ cW (.tail _ (.head _)) (ht J))<|zo J (eg (ht J) hI)<|aw<|db h J (fun h=>?_) (fun h=>?_)
 ·refine ay<|aG J<|bB J<|aw<|ap<|M<|ba ?_;cases so h;exact oP J (oi l c) J J (fun _ _ h=>h)
 ·refine dB<|ae<|ay<|zo J (dW)<|aw<|ax<|iF (.tail _ (.head _)) fun hN=>bF<|lS ?_;refine aT (dH (Z:=fun ls i=>(s.drop i=ls)∧fW s ls i=some R) (Of:=fun _ i=>[d9 bR 3 l c s]) (Gf:=fun _ i=>[(0,mg l c s),(3,bK (i:Int))]) (fun i h=>?_) (fun e tl ih i h=>?_) (s.drop (1)) 1 ⟨J,h⟩) (bn J)
  ·obtain⟨hx,h⟩:=h
   refine aA<|ae<|ay<|aG J<|aG J<|zo J (eJ cW (.head _) (ht J))<|zo J (em J J)<|aw<|bz (ht J) (da hx)<|bk ?_;refine ac (ac (aM ?_));refine aq<|ay<|aG rfl<|bB rfl<|aw<|ap ?_;cases so h;exact oP J (oi l c) J J (fun _ _ h=>h)
  ·obtain⟨hx,h⟩:=h
   refine aA<|ae<|ay<|aG J<|aG J<|zo J (eJ cW (.head _) (ht J))<|zo J (em J J)<|aw<|bw (ht J) (c9 hx)<|dB<|ae<|ax<|ae<|bG h fun e1 q_e1 h=>?_
   refine ec (ts:=[_,_,_,_,_,_,_,_,_,_]) mixed J J
    ⟨dT 0 J J J (cn J),
    ⟨dT 3 J J J (cn J),
    ⟨dL 16 0 17 1 J J J J (cj cW bD (.head _) (ht J) (ht J) (cV hx)),
    ⟨cP 18 2 J J J (d8 (r:=bR) (i:=(i:Int)) (foff:=0) bD J J bp J (.head _) (cV hx) (ht J)),
    ⟨dT 0 J J J (cn J),
    ⟨dT 3 J J J (cn J),
    ⟨cP 21 5 J J J (fb (ht J) hI),
    ⟨dL 20 4 22 6 J J J J (cj cW bD (.head _) (ht J) (ht J) q_e1),
    ⟨cP 23 7 J J J (d8 (r:=bR) (i:=(IntKind.i64.wrap ((i:Int)-(1:Int)))) (foff:=0) bD J J bp J (.head _) q_e1 (ht J)),
    ⟨dL 19 3 24 8 J J J J (bW (ht J) (ht J)),
    aV⟩⟩⟩⟩⟩⟩⟩⟩⟩⟩ ?_
   refine aq<|db h rfl (fun h=>?_) (fun h=>?_)
   ·refine ay<|aG J<|aG J<|bG h fun y q_y h=>zo J (l8 cW bD J (.head _) (ht J) (ht J) q_y)<|lg (.head _) q_y fun hv=>bB J<|aw<|ae<|ay<|zo J (dW)<|aw<|ax<|bF ?_;refine aT (C7 (Z:=fun k1 i1 s1 k=>(y.length-i1=k1)∧er i y k1 i1 s1 k=some R) (Of:=fun _ i1 s1 k=>[d9 bR 3 l c s1]) (Gf:=fun _ i1 s1 k=>[(0,mg l c s1),(3,bK k),(4,tV (jh 1 l c (i:Int).toNat y.length)),(5,bK (i1:Int))]) (fun i1 s1 k h=>?_) (fun k2 ih1 i1 s1 k h=>?_) (y.length-1) 1 s (i:Int) ⟨J,h⟩) (bn J)
    ·obtain⟨hx1,h⟩:=h
     refine aA<|ae<|ay<|aG J<|aG J<|zo J (CH cW hv.1 (ht J))<|zo J (em J J)<|aw<|bz (ht J) (Iz hx1)<|bk ?_;refine ac (ac (aM ?_));refine aq<|ay<|aG rfl<|aG rfl<|bG h fun y1 q_y1 h=>zo J (l8 cW bD J (.head _) (ht J) (ht J) q_y1)<|lg (.head _) q_y1 fun hv1=>bG h fun cl q_cl h=>Ef bD J J cW (fun _=>J) J q_y1 (ht J) (so q_cl)<|dR (ya q_y1 (so q_cl)) 0 J<|dR (ya q_y1 (so q_cl)) 54 J<|aw<|ay<|aG J<|aG J<|bG h fun y2 q_y2 h=>zo J (l9 cW bD J (.head _) (ht J) (ht J) q_y2)<|wJ q_y2<|bB J<|aw ?_;refine ap ?_;refine aH (M (M (aH (M ?_))));cases so h;exact oP J (oi l c) J J (fun _ _ h=>h)
    ·obtain⟨hx1,h⟩:=h
     refine aA<|ae<|ay<|aG J<|aG J<|zo J (CH cW hv.1 (ht J))<|zo J (em J J)<|aw<|bw (ht J) (Iy hx1)<|dB<|ae<|ax<|ae<|bG h fun e3 q_e3 h=>bG h fun e4 q_e4 h=>?_
     refine ec (ts:=[_,_,_,_,_,_,_,_,_,_]) mixed J J
      ⟨dT 4 J J J (cn J),
      ⟨dT 5 J J J (cn J),
      ⟨dL 35 0 36 1 J J J J (om cW bD J (.head _) (tM q_y) (ht J) (ht J) q_e3),
      ⟨cP 37 2 J J J (d8 (r:=bR) (i:=((i:Int)+(i1:Int))) (foff:=0) bD J J bp J (.head _) (rf q_e3).2.2 (ht J)),
      ⟨dT 4 J J J (cn J),
      ⟨dT 5 J J J (cn J),
      ⟨cP 40 5 J J J (fb (ht J) hI),
      ⟨dL 39 4 41 6 J J J J (om cW bD J (.head _) (tM q_y) (ht J) (ht J) q_e4),
      ⟨cP 42 7 J J J (d8 (r:=bR) (i:=((i:Int)+(IntKind.i64.wrap ((i1:Int)-(1:Int))))) (foff:=0) bD J J bp J (.head _) (rf q_e4).2.2 (ht J)),
      ⟨dL 38 3 43 8 J J J J (cK (ht J) (ht J)),
      aV⟩⟩⟩⟩⟩⟩⟩⟩⟩⟩ ?_
     refine aq<|db h rfl (fun h=>?_) (fun h=>?_)
     ·refine ay<|aG J<|aG J<|aG J<|aG J<|bG h fun e5 q_e5 h=>zo J (om cW bD J (.head _) (tM q_y) (ht J) (ht J) q_e5)<|zo J (d8 (r:=bR) (i:=((i:Int)+(i1:Int))) (foff:=0) bD J J bp J (.head _) (rf q_e5).2.2 (ht J))<|bG h fun e6 q_e6 h=>zo J (cj cW bD (.head _) (ht J) (ht J) q_e6)<|bG h fun st q_st h=>jM bD J al J q_e6 (so q_st) (ht J) (ht J)<|dR (eH (so q_st)) 0 J<|dR (eH (so q_st)) 45 J<|aw<|am<|aG J<|zo J (jp (ht J) hI)<|bB J<|aQ<|an<|aq ?_;refine am<|aG J<|zo J (rd (E4 hx1 (Kf hv.2)) (ht J) hI)<|bB J<|aQ ?_;exact bf (aT (ih1 (i1+1) st (IntKind.i64.wrap (k+(1:Int))) ⟨E3 hx1,h⟩) (bn J))
     ·refine bE<|an<|aq<|am<|aG rfl<|zo rfl (rd (E4 hx1 (Kf hv.2)) (ht rfl) hI)<|bB rfl<|aQ ?_;exact bf (aT (ih1 (i1+1) s1 k ⟨E3 hx1,h⟩) (bn J))
   ·refine bE<|an<|aq<|am<|aG rfl<|zo rfl (jY (cG hx hN) rfl)<|bB rfl<|aQ ?_;exact bf (aT (ih (i+1) ⟨cF hx,h⟩) (bn J))

theorem Fj(e:bA){R:(List Int)}(h:xU e=some R):eG aX 239 [tD bu e] false bR 3 R:=by
 refine eG.of Tryz.func239 J J J fun w0 S0=>ay<|zo J (gP J)<|bM false bR 3<|zo J (aP oS)<|aw<|ae<|ay<|zo J (bq fe J J)<|bG h fun r q_r h=>zo J (aF CY (vw _ q_r) ⟨(ht J),aV⟩)<|zo J (zQ J)<|aw<|db h J (fun h=>?_) (fun h=>?_)
 ·refine ay<|bM false bR 3<|zo J (aP oS)<|aw<|ap<|M ?_;cases so h;exact el J J
 ·refine dB<|ay<|bM false bR 3<|zo J (aP oS)<|aw<|ae<|ay<|zo J (cc d2 cC J J)<|zo J (bq jT J J)<|zo J (fV je J)<|zo J (bv hI)<|aw<|ax<|bh (k:=10) J fun hN=>bF<|ep<|lS ?_;refine aT (jx (Z:=fun ls i out l c=>(e.Nodes.drop i=ls)∧mM ls out=some R) (Of:=fun _ i out l c=>[d9 bR 3 l c out]) (Gf:=fun _ i out l c=>[(3,mg l c out),(10,dS (aY) e.Nodes),(11,f7 e.Nodes),(12,bK (i:Int))]) (fun i out l c h=>?_) (fun e1 tl ih i out l c h=>?_) e.Nodes 0 mE none 0 ⟨J,h⟩) (bn J)
  ·obtain⟨hx,h⟩:=h
   refine aA<|ay<|zo J (em J J)<|aw<|ae<|bz (ht J) (da hx)<|bk ?_;refine ac (ac (aM ?_));refine aq<|ay<|aG rfl<|bG h fun Kc q_srt h=>?_;refine FS (n:=out.length) (ys:=Kc) xf ?_ KK ?_ ?_ ?_ ?_ ?_
   ·rfl
   ·exact q_srt
   ·exact(ht J)
   ·rfl
   ·rfl
   intro hl
   refine AS hl 3 J<|AS hl 25 J<|aw<|ay<|aG J<|bG h fun r1 q_r1 h=>AW [d9 bR 3 l c Kc] _ J KJ (Jc l c _ q_r1) ⟨(ht J),aV⟩ J fun i1=>?_;refine(show RG _ _ _ _ [d9 bR 3 (i1.h 0).1 (i1.h 0).2 r1] ((28,mg (i1.h 0).1 (i1.h 0).2 r1)::_)from ?_);refine bB J<|aw<|ap ?_;cases so h;exact el J J
  ·obtain⟨hx,h⟩:=h
   refine aA<|ay<|zo J (em J J)<|aw<|ae<|bw (ht J) (c9 hx)<|dB<|ae<|ax<|ay<|zo J (jA je dc J J J (cV hx))<|zo J (bq dc J J)<|bj (r:=aY) (x:=zR) dc (fun _=>kK _) J fun b=>au dc J al J (ht J) (ht J)<|bg 5 J<|aw<|ay<|zo J (cc gU dZ J J) ?_;refine zo J (bq bD J J)<|zo J (jS J)<|aw<|db h J (fun h=>?_) (fun h=>?_)
   ·refine am<|aG J<|zo J (cc k6 fL J J)<|zo J (bq bD J J)<|zo J (aS (r:=bR) (ys:=[e1.Col]) (xs:=[.tmp 21]) cW bD J J J J J ⟨(ht J),aV⟩)<|bG h fun out1 q_out1 h=>cM bD J J J J cW J J (ht J) (ht J) q_out1 fun l2 c2=>bB J<|aQ<|an<|aq<|am<|zo rfl (jY (cG hx hN) rfl)<|aG rfl<|aQ ?_;exact bf (aT (ih (i+1) out1 l2 c2 ⟨cF hx,h⟩) (bn J))
   ·refine bE<|an<|aq<|am<|zo rfl (jY (cG hx hN) rfl)<|aG rfl<|aQ ?_;exact bf (aT (ih (i+1) out l c ⟨cF hx,h⟩) (bn J))
theorem vv(s:(List Int)){R:(List Int)}(h:cd s=some R):eG aX 56 [dE s] false bR 3 R:=by
 refine eG.of Tryz.func56 J J J fun w0 S0=>ay<|bM false bR 3<|zo J (aP oS)<|aw<|ae<|ay<|aG J<|oM cW (ht J) J fun isnil hisnil=>aw<|lh (ht J) (fun hc=>?_) (fun hc=>?_)
 ·have hx:=hisnil hc
  have h:some mE=some R:=by simpa [cd,kB,hx] using h
  refine ay<|bM false bR 3<|zo J (aP oS)<|aw<|ap<|M ?_;cases so h;exact el J J
 ·refine dB<|ay<|gz (r:=bR) (ys:=mE) (xs:=[]) cW bD J J J J J trivial J fun l c=>aG J<|bG h fun x q_x h=>cM bD J J J J cW J J (ht J) (ht J) q_x fun l1 c1=>bB J<|aw<|ap ?_;cases so h;exact el J J
theorem zl(s:(List Int)){R:(List Int)}(h:cd s=some R):bo aX 56 [dE s] (dE R):=(vv _ h).spec

theorem Kz{l:Option Nat}{c:Nat}{xs s:List Int}{lo:Int}{R:List Int}(hs:dw xs lo (xs.length:Int)=some s)(h:cd s=some R):cA aX 56 [tV (jh 1 l c lo.toNat s.length)] [d9 bR 3 l c xs] (fun i:OI=>mg (i.h 0).1 (i.h 0).2 R) (fun i=>[d9 bR 3 (i.h 0).1 (i.h 0).2 R,d9 bR 3 l c xs]):=by
 refine cA.of Tryz.func56 J J J fun w0 S0=>ay<|zo J (aP oS)<|aw<|ae<|ay<|aG J<|Ed (r:=bR) cW (.head _) hs (ht J) J fun isnil hisnil=>aw<|lh (ht J) (fun hc=>?_) (fun hc=>?_)
 ·have hx:=hisnil hc
  have h:some mE=some R:=by simpa [cd,kB,hx] using h
  refine ay<|bM false bR 3<|zo J (aP oS)<|aw<|ap<|M ?_;cases so h;exact oP J (oi none 0) J J (fun _ _ h=>h)
 ·refine dB<|ay<|gz (r:=bR) (ys:=mE) (xs:=[]) cW bD J J J J J trivial J fun l1 c1=>aG J<|bG h fun x q_x h=>Cm bD J J J J cW J J (ht J) (.tail _ (.head _)) hs (ht J) q_x fun l2 c2=>bB J<|aw<|ap ?_;cases so h;exact oP J (oi l2 c2) J J (fun _ _ h=>h)

theorem Jb(b:Nat)(l:Option Nat)(c:Nat)(stack:(List Int))(k:Int){R:(List Int)×(List Int)}(h:pV stack k=some R):cA aX 257 [bK k,tV (aE b 0)] [bx rV 42 b (aC l c stack.length),d9 bR 3 l c stack] (fun i:OI=>dE R.1) (fun i=>[bx rV 42 b (aC (i.h 0).1 (i.h 0).2 R.2.length),d9 bR 3 (i.h 0).1 (i.h 0).2 R.2]):=by
 refine cA.of Tryz.func257 J J J fun w0 S0=>ay<|zo J (aP (show aL _ _ _ ln from hP))<|aw<|ay<|zo J (ma cy (.head _) (ht J))<|zo J (ma cy (.head _) (ht J))<|zo J (eJ cW (.tail _ (.head _)) (ht J))<|aG J<|zo J (fb (ht J) (ht J))<|bG h fun y q_y h=>zo J (l8 cW bD J (.tail _ (.head _)) (ht J) (ht J) q_y)<|lg (.tail _ (.head _)) q_y fun hv=>bQ<|bG h fun r q_r h=>AW [d9 bR 3 l c stack] _ J AN (Kz q_y q_r) ⟨(ht J),aV⟩ J fun i=>?_;refine(show RG _ _ _ _ [d9 bR 3 (i.h 0).1 (i.h 0).2 r,d9 bR 3 l c stack,bx rV 42 b (aC l c stack.length)] _ from ?_);refine bB J<|aw<|ay<|zo J (ma cy (.tail _ (.tail _ (.head _))) (ht J))<|zo J (ma cy (.tail _ (.tail _ (.head _))) (ht J))<|zo J (eJ cW (.tail _ (.head _)) (ht J))<|aG J<|zo J (fb (ht J) (ht J))<|bG h fun y1 q_y1 h=>zo J (l9 cW bD J (.tail _ (.head _)) (ht J) (ht J) q_y1)<|bQ<|wJ q_y1<|du<|au cy J al J (ht J) (F2 (ht J))<|aw<|ay<|aG J<|bB J<|aw ?_;refine ap<|av<|gh<|cB 3 J<|cB 11 J<|cB 4 J<|cB 18 J<|ia 3 J<|ba<|bU<|bU ?_;cases so h;exact oP J (oi l c) J J (fun _ _ h=>h)

theorem GL(e:bA)(do1:(bT→(List Int)→Option (Int×Int))){R:Int×Int}(h:rF e do1=some R):bo aX 240 [tD bu e,(eS aX Ga F9 (fun(x:bT×(List Int))=>do1 x.1 x.2))] (tT [bK R.1,bK R.2]):=by
 refine bo.of Tryz.func240 J J J fun w0 S0=>ay<|zo J (gP J)<|zo J (dW)<|zo J (dW)<|aw<|FU<|ay<|bM false bR 3<|bj (x:=aC none 0 0) cy (fun _=>ET) J fun b=>aw<|ay<|zo J (dW)<|aw<|ay<|zo J (EY (cts:=[tV (aE b 0)]) (caps:=[.tmp 6]) ⟨(ht J),aV⟩)<|bB J ?_;refine aw<|ay<|zo J (dW)<|aw<|ae<|FV<|aq<|ae<|ay<|zo rfl (cc d2 cC rfl rfl)<|zo rfl (bq jT rfl rfl)<|zo rfl (fV je rfl)<|zo rfl (bv hI)<|aw ?_;refine El (Z:=fun bad stack l c=>lI bad stack=some R) (Of:=fun bad stack l c=>[bx rV 42 b (aC l c stack.length),d9 bR 3 l c stack]) (Gf:=fun bad stack l c=>[(6,tV (aE b 0)),(7,bK 0),(9,bK bad)]) (fun bad stack l c h=>?_) (fun K=>?_)
 ·skip
  refine aq<|ae<|ay<|aG rfl<|zo rfl (zQ rfl)<|aw<|db h rfl (fun h=>?_) (fun h=>?_)
  ·refine ay<|aG J<|aG J<|bB J<|bB J<|aw<|ap ?_;refine M (yk ?_);refine ba<|ba ?_;cases so h;exact cw J J J
  ·refine dB<|ay<|zo J (ma cy (.head _) (ht J))<|bG h fun e1 q_e1 h=>zo J (cj cW bD (.tail _ (.head _)) (ht J) hI q_e1)<|zo J (d8 (r:=bR) (i:=(0:Int)) (foff:=0) bD J J bp J (.tail _ (.head _)) q_e1 (ht J))<|bB J<|zo J (dW)<|aw<|ap<|yk<|ba<|ba ?_;cases so h;exact cw J J J
 ·skip
  refine bh (k:=16) J fun hN=>bF ?_;refine aT (qW (Z:=fun ls i bad1 stack1 l1 c1=>(e.Nodes.drop i=ls)∧lH do1 ls bad1 stack1=some R) (Of:=fun _ i bad1 stack1 l1 c1=>[bx rV 42 b (aC l1 c1 stack1.length),d9 bR 3 l1 c1 stack1]) (Gf:=fun _ i bad1 stack1 l1 c1=>[(1,(eS aX Ga F9 (fun(x:bT×(List Int))=>do1 x.1 x.2))),(6,tV (aE b 0)),(7,bK 0),(8,tC 257 [tV (aE b 0)]),(9,bK bad1),(16,dS (aY) e.Nodes),(17,f7 e.Nodes),(18,bK (i:Int))]) (fun i bad1 stack1 l1 c1 h=>?_) (fun e2 tl ih i bad1 stack1 l1 c1 h=>?_) e.Nodes 0 (0:Int) mE none 0 ⟨J,h⟩) (bn J)
  ·obtain⟨hx,h⟩:=h
   refine aA<|ay<|zo J (em J J)<|aw<|ae<|bz (ht J) (da hx)<|bk ?_;refine ac (ac (aM ?_));exact ce (K bad1 stack1 l1 c1 h) (bn J)
  ·obtain⟨hx,h⟩:=h
   refine aA<|ay<|zo J (em J J)<|aw<|ae<|bw (ht J) (c9 hx)<|dB<|ae<|ax<|ay<|zo J (jA je dc J J J (cV hx))<|zo J (bq dc J J)<|bj (r:=aY) (x:=zR) dc (fun _=>kK _) J fun b1=>au dc J al J (ht J) (ht J)<|bg 11 J<|aw<|ae<|bG h fun r q_r h=>bG h fun r1 q_r1 h=>?_
   obtain⟨r2,q_r2,h⟩:=bs h
   refine gA 12 [tc ((eS aX Ga F9 (fun(x:bT×(List Int))=>do1 x.1 x.2))),tc (tD aY e2),tc (tC 257 [tV (aE b 0)]),tc (bl bR e2.Tag),tc (bK e2.Tag),tc (bK r),tc (dE r1.1),tc (tT [bK r2.1,bK r2.2]),tc (tT [bK r2.1,bK r2.2]),tc (bK r2.1),tc (bK r2.2),tc (bK r2.1)] [false,false,false,false,false,false,true,false,false,false,false,false] [fun _=>[bx rV 42 b (aC l1 c1 stack1.length),d9 bR 3 l1 c1 stack1],fun sg=>[bx rV 42 b (aC ((sg 6).h 0).1 ((sg 6).h 0).2 r1.2.length),d9 bR 3 ((sg 6).h 0).1 ((sg 6).h 0).2 r1.2]] J mixed J J J J J
    ⟨⟨[⟨1,fun _=>(eS aX H1 HY (fun(x:bT×(List Int))=>do1 x.1 x.2)),none⟩],_,0,1,J,⟨(fun _=>J),aV⟩,J,J,J,J,J,fun _ sg _ _=>af J (cn J)⟩,
    ⟨⟨[⟨11,fun _=>bl aY e2,none⟩],_,0,1,J,⟨(fun _=>J),aV⟩,J,J,J,J,J,fun _ sg _ _=>af J (bq dc J J)⟩,
    ⟨⟨[⟨8,fun _=>tC 257 [tV (aE b 0)],none⟩],_,0,0,J,⟨(fun _=>J),aV⟩,J,J,J,J,J,fun _ sg _ _=>af J (cn J)⟩,
    ⟨⟨[⟨11,fun _=>bl aY e2,none⟩],_,0,0,J,⟨(fun _=>J),aV⟩,J,J,J,J,J,fun _ sg _ _=>af J (cc gU dZ J J)⟩,
    ⟨⟨[⟨26,fun _=>bl bR e2.Tag,some 3⟩],_,0,0,J,⟨(fun _=>J),aV⟩,J,J,J,J,J,fun _ sg _ _=>af J (bq bD J J)⟩,
    ⟨⟨[⟨27,fun _=>tD bR e2.Tag,some 4⟩],_,0,0,J,⟨(fun _=>J),aV⟩,J,J,J,J,J,fun _ sg _ _=>af J (aF HF (CO _ q_r) ⟨(ht J),aV⟩)⟩,
    ⟨⟨[⟨25,fun _=>tC 257 [tV (aE b 0)],some 2⟩,⟨28,fun _=>tD bR r,some 5⟩],_,J,⟨(fun _=>J),(fun _=>J),aV⟩,J,J,J,fun sg=>bZ J (EffOK.fr1 (EffOK.fr1 (D5 (xs:=[.tmp 28]) (ts:=[tD bR r]) (cts:=[tV (aE b 0)]) [bx rV 42 b (aC l1 c1 stack1.length),d9 bR 3 l1 c1 stack1] _ J KI (Jb b l1 c1 _ _ q_r1) (ht J) ⟨(ht J),aV⟩ (fun _=>J))))⟩,
    ⟨⟨[⟨23,fun _=>(eS aX H1 HY (fun(x:bT×(List Int))=>do1 x.1 x.2)),some 0⟩,⟨24,fun _=>tD aY e2,some 1⟩,⟨29,fun _=>tD kL r1.1,some 6⟩],_,1,1,J,⟨(fun _=>J),(fun _=>J),(fun _=>J),aV⟩,J,J,J,J,J,fun _ sg _ _=>af J (gu (args:=H1) (res:=HY) (f:=(fun(x:bT×(List Int))=>do1 x.1 x.2)) (x:=((e2,r1.1):bT×(List Int))) (ht J) q_r2 ⟨(ht J),(ht J),aV⟩)⟩,
    ⟨⟨[⟨30,fun _=>tT [tD bR r2.1,tD bR r2.2],some 7⟩],_,1,1,J,⟨(fun _=>J),aV⟩,J,J,J,J,J,fun _ sg _ _=>af J (cn J)⟩,
    ⟨⟨[⟨22,fun _=>tT [tD bR r2.1,tD bR r2.2],some 8⟩],_,1,1,J,⟨(fun _=>J),aV⟩,J,J,J,J,J,fun _ sg _ _=>af J (jf J J)⟩,
    ⟨⟨[⟨22,fun _=>tT [tD bR r2.1,tD bR r2.2],some 8⟩],_,1,1,J,⟨(fun _=>J),aV⟩,J,J,J,J,J,fun _ sg _ _=>af J (jf J J)⟩,
    ⟨⟨[⟨31,fun _=>tD bR r2.1,some 9⟩],_,1,1,J,⟨(fun _=>J),aV⟩,J,J,J,J,J,fun _ sg _ _=>af J (tK J)⟩,
    aV⟩⟩⟩⟩⟩⟩⟩⟩⟩⟩⟩⟩ (fun sg=>?_)
   refine(show RG _ _ _ _ [bx rV 42 b (aC ((sg 6).h 0).1 ((sg 6).h 0).2 r1.2.length),d9 bR 3 ((sg 6).h 0).1 ((sg 6).h 0).2 r1.2] _ from ?_);refine bB J<|aw<|ae<|ay<|aG J<|zo J (zQ J)<|aw<|db h J (fun h=>?_) (fun h=>?_)
   ·refine ay<|aG J<|bB J<|aw<|bk ?_;refine ac (ca J (ac (ac (aM ?_))));exact ce (K r2.2 r1.2 ((sg 6).h 0).1 ((sg 6).h 0).2 h) (bn J)
   ·refine dB<|am<|zo J (ma cy (.head _) (ht J))<|aG J<|zo J (aS (r:=bR) (ys:=[r2.1]) (xs:=[.tmp 37]) cW bD J J J J J ⟨(ht J),aV⟩)<|bQ<|bG h fun l2 q_l2 h=>cM bD J J J J cW J J (ht J) (ht J) q_l2 fun l3 c2=>bQ<|au cy J al J (ht J) (F2 (ht J))<|aQ<|an<|aq<|am<|zo rfl (jY (cG hx hN) rfl)<|aG rfl<|aQ ?_;exact bf (aT (ih (i+1) bad1 l2 l3 c2 ⟨cF hx,h⟩) (bn J))

theorem CS(tag:Int){R:Bool}(h:mu tag=some R):bo aX 202 [bK tag] (eD R):=by
 refine bo.of Tryz.func202 J J J fun w0 S0=>ay<|zo J (eL)<|aw<|ay<|aG J<|zo J (jS J)<|aG J<|cR J J (fun hg=>cn J)<|cR J J (fun hg=>dm (bc J hg) hI)<|cR J J (fun hg=>bv (bc J hg))<|dk J J J J (fun hg=>cn J)<|dk J J J J (fun hg=>io (bc J hg) hI)<|cR J J (fun hg=>ki (bc J hg) (fun hb=>(bc J (nC hg hb))))<|zo J (oB J J)<|bB J<|aw<|ap ?_;cases so h;exact aU J J

theorem GK(kinds:(List Int))(n:bT)(l:(List Int)){R:Int×Int}(h:qO kinds n l=some R):bo aX 241 [tD aY n,dE l,bl dK kinds] (tT [bK R.1,bK R.2]):=by
 refine bo.of Tryz.func241 J J J fun w0 S0=>ay<|zo J (gP J)<|zo J (dW)<|zo J (dW)<|aw<|ay<|zo J (dW)<|aw<|ae<|ay<|aG J<|zo J (fV cW J)<|zo J (bv hI)<|aw<|ax<|bh (k:=12) J fun hN=>bF ?_;refine aT (j7 (Z:=fun ls i own=>(l.drop i=ls)∧jw kinds n ls own=some R) (Of:=fun _ i own=>[]) (Gf:=fun _ i own=>[(2,bl dK kinds),(3,bl aY n),(7,bK own),(12,dE l),(13,f7 l),(14,bK (i:Int))]) (fun i own h=>?_) (fun e tl ih i own h=>?_) l 0 (0:Int) ⟨J,h⟩) (bn J)
 ·obtain⟨hx,h⟩:=h
  refine aA<|ay<|zo J (em J J)<|aw<|ae<|bz (ht J) (da hx)<|bk ?_;refine ac (ac (aM ?_));refine aq<|ay<|aG rfl<|bB rfl<|aw<|ay<|zo rfl (dW)<|aw<|ae<|ax<|ay<|zo rfl (cc gU dZ rfl rfl)<|zo rfl (bq bD rfl rfl)<|zo rfl (jS rfl)<|bB rfl<|aw<|db h rfl (fun h=>?_) (fun h=>?_)
  ·refine ay<|zo J (cc s8 nd J J)<|zo J (cc ri px J J)<|zo J (bq bD J J)<|bB J<|zo J (dW)<|aw<|ap ?_;refine aH (M ?_);cases so h;exact cw J J J
  ·refine ay<|zo J (cc gU dZ J J)<|zo J (bq bD J J)<|zo J (jS J)<|bB J<|aw<|db h J (fun h=>?_) (fun h=>?_)
   ·refine ay<|zo J (bq cy J J)<|zo J (cc k6 fL J J)<|zo J (bq bD J J)<|bG h fun e1 q_e1 h=>zo J (jA cW bD J J J q_e1)<|zo J (bq bD J J)<|bB J<|zo J (dW)<|aw<|ap ?_;refine aH (M ?_);cases so h;exact cw J J J
   ·refine ay<|zo J (cc gU dZ J J)<|zo J (bq bD J J)<|bG h fun r q_r h=>zo J (aF HI (CS _ q_r) ⟨(ht J),aV⟩)<|bB J<|aw<|db h J (fun h=>?_) (fun h=>?_)
    ·refine am<|zo J (dW)<|zo J (dW)<|aQ<|an<|aq<|ae<|ay<|aG rfl<|zo rfl (jS rfl)<|aG rfl<|cR rfl rfl (fun hg=>cn J)<|cR J J (fun hg=>cK (bc J hg) hI)<|cR J J (fun hg=>bv (bc J hg))<|dk J J J J (fun hg=>cn J)<|dk J J J J (fun hg=>cn J)<|dk J J J J (fun hg=>cK (bc J hg) (bc J hg))<|cR J J (fun hg=>ki (bc J hg) (fun hb=>(bc J (nC hg hb))))<|zo J (oB J J)<|aw<|db h J (fun h=>?_) (fun h=>?_)
     ·refine ay<|zo J (dW)<|zo J (dW)<|aw<|ap<|M ?_;cases so h;exact cw J J J
     ·refine dB<|ay<|aG J<|bB J<|zo J (dW)<|aw<|ap ?_;cases so h;exact cw J J J
    ·refine ay<|zo J (cc gU dZ J J)<|zo J (bq bD J J)<|zo J (jS J)<|aG J<|cR J J (fun hg=>cc gU dZ J J)<|cR J J (fun hg=>be bD J J (bc J hg))<|cR J J (fun hg=>bW (bc J hg) hI)<|zo J (oB J J)<|aG J<|cR J J (fun hg=>cc gU dZ J J)<|cR J J (fun hg=>be bD J J (bc J hg))<|cR J J (fun hg=>bW (bc J hg) hI)<|zo J (oB J J)<|bB J<|aw<|db h J (fun h=>?_) (fun h=>?_)
     ·refine am<|zo J (dW)<|aQ<|an<|aq<|ae<|ay<|aG rfl<|zo rfl (jS rfl)<|aG rfl<|cR rfl rfl (fun hg=>cn J)<|cR J J (fun hg=>cK (bc J hg) hI)<|cR J J (fun hg=>bv (bc J hg))<|dk J J J J (fun hg=>cn J)<|dk J J J J (fun hg=>cn J)<|dk J J J J (fun hg=>cK (bc J hg) (bc J hg))<|cR J J (fun hg=>ki (bc J hg) (fun hb=>(bc J (nC hg hb))))<|zo J (oB J J)<|aw<|db h J (fun h=>?_) (fun h=>?_)
      ·refine ay<|zo J (dW)<|zo J (dW)<|aw<|ap<|M ?_;cases so h;exact cw J J J
      ·refine dB<|ay<|aG J<|bB J<|zo J (dW)<|aw<|ap ?_;cases so h;exact cw J J J
     ·refine bE<|an<|aq<|ae<|ay<|aG rfl<|zo rfl (jS rfl)<|aG rfl<|cR rfl rfl (fun hg=>cn J)<|cR J J (fun hg=>cK (bc J hg) hI)<|cR J J (fun hg=>bv (bc J hg))<|dk J J J J (fun hg=>cn J)<|dk J J J J (fun hg=>cn J)<|dk J J J J (fun hg=>cK (bc J hg) (bc J hg))<|cR J J (fun hg=>ki (bc J hg) (fun hb=>(bc J (nC hg hb))))<|zo J (oB J J)<|aw<|db h J (fun h=>?_) (fun h=>?_)
      ·refine ay<|zo J (dW)<|zo J (dW)<|aw<|ap<|M ?_;cases so h;exact cw J J J
      ·refine dB<|ay<|aG J<|bB J<|zo J (dW)<|aw<|ap ?_;cases so h;exact cw J J J
 ·obtain⟨hx,h⟩:=h
  refine aA<|ay<|zo J (em J J)<|aw<|ae<|bw (ht J) (c9 hx)<|dB<|ae<|ax<|ay<|zo J (jA cW bD J J J (cV hx))<|zo J (bq bD J J)<|bB J<|aw<|ax<|ay<|aG J<|zo J (jS J) ?_;refine aG J<|cR J J (fun hg=>cn J)<|cR J J (fun hg=>cn J)<|cR J J (fun hg=>bW (bc J hg) (bc J hg))<|zo J (oB J J)<|bB J<|aw<|db h J (fun h=>?_) (fun h=>?_)
  ·refine bE<|an<|an<|aq<|am<|zo rfl (jY (cG hx hN) rfl)<|aG rfl<|aQ ?_;exact bf (aT (ih (i+1) own ⟨cF hx,h⟩) (bn J))
  ·refine ay<|aG J<|zo J (jS J)<|bB J<|aw<|db h J (fun h=>?_) (fun h=>?_)
   ·refine am<|aG J<|bB J<|aQ<|an<|an<|aq<|am<|zo rfl (jY (cG hx hN) rfl)<|aG rfl<|aQ ?_;exact bf (aT (ih (i+1) e ⟨cF hx,h⟩) (bn J))
   ·refine am<|zo J (dW)<|aQ<|an<|an<|aq<|am<|zo rfl (jY (cG hx hN) rfl)<|aG rfl<|aQ ?_;exact bf (aT (ih (i+1) kM ⟨cF hx,h⟩) (bn J))

theorem zm(e:bA)(kinds:(List Int)){R:Int×Int}(h:rj e kinds=some R):bo aX 210 [tD bu e,dE kinds] (tT [bK R.1,bK R.2]):=by
 refine bo.of Tryz.func210 J J J fun w0 S0=>ay<|zo J (gP J)<|zo J (gP J)<|zo J (dW)<|zo J (dW)<|aw<|ae<|ay<|zo J (bq fe J J)<|bG h fun r q_r h=>zo J (aF CY (vw _ q_r) ⟨(ht J),aV⟩)<|bB J<|aw<|ay<|aG J<|zo J (zQ J)<|aw ?_;refine db h J (fun h=>?_) (fun h=>?_)
 ·refine ay<|aG J<|zo J (dW)<|bB J<|aw<|ap<|M ?_;cases so h;exact cw J J J
 ·refine dB<|ae<|ay<|zo J (bq cy J J)<|zo J (fV cW J)<|zo J (bv hI)<|aw<|ax<|bh (k:=16) J fun hN=>bF ?_;refine aT (dH (Z:=fun ls i=>(kinds.drop i=ls)∧pF e kinds ls=some R) (Of:=fun _ i=>[]) (Gf:=fun _ i=>[(2,bl bu e),(3,bl dK kinds),(16,dE kinds),(17,f7 kinds),(18,bK (i:Int))]) (fun i h=>?_) (fun e1 tl ih i h=>?_) kinds 0 ⟨J,h⟩) (bn J)
  ·obtain⟨hx,h⟩:=h
   refine aA<|ay<|zo J (em J J)<|aw<|ae<|bz (ht J) (da hx)<|bk ?_;refine ac (ac (aM ?_));refine aq<|ae<|ay<|zo rfl (bq fe rfl rfl)<|bG h fun r1 q_r1 h=>hY KQ (Fj _ q_r1) ⟨(ht J),aV⟩ J fun l c=>zo J (eJ cW (.head _) (ht J))<|zo J (bv hI)<|aw<|ax<|iF (.head _) fun hN1=>bF ?_;refine aT (dH (Z:=fun ls1 i1=>(r1.drop i1=ls1)∧pE e kinds ls1=some R) (Of:=fun _ i1=>[d9 bR 3 l c r1]) (Gf:=fun _ i1=>[(2,bl bu e),(3,bl dK kinds),(30,mg l c r1),(31,f7 r1),(32,bK (i1:Int))]) (fun i1 h=>?_) (fun e2 tl1 ih1 i1 h=>?_) r1 0 ⟨J,h⟩) (bn J)
   ·obtain⟨hx1,h⟩:=h
    refine aA<|ay<|zo J (em J J)<|aw<|ae<|bz (ht J) (da hx1)<|bk ?_;refine ac (ac (aM ?_));refine aq<|ay<|zo rfl (bq fe rfl rfl)<|zo rfl ((show bN _ _ _ _ ((eS aX Ga F9 (fun(x:bT×(List Int))=>(qO kinds) x.1 x.2)))from jo (cts:=[bl dK kinds]) (caps:=[.tmp 3]) KO ⟨(ht J),aV⟩ (fun x y h=>GK _ _ _ h)))<|bG h fun r2 q_r2 h=>zo J (aF KP (GL _ _ q_r2) ⟨(ht J),(ht J),aV⟩)<|zo J (jf J J)<|zo J (jf J J)<|bB J<|bB J<|aw<|ap<|ba ?_;cases so h;exact cw J J J
   ·obtain⟨hx1,h⟩:=h
    refine aA<|ay<|zo J (em J J)<|aw<|ae<|bw (ht J) (c9 hx1)<|dB<|ae<|ax<|ay<|zo J (cj cW bD (.head _) (ht J) (ht J) (cV hx1))<|zo J (d8 (r:=bR) (i:=(i1:Int)) (foff:=0) bD J J bp J (.head _) (cV hx1) (ht J))<|bB J<|aw<|ay<|aG J<|zo J (bq cy J J)<|zo J (fV cW J) ?_;refine zo J (dm (ht J) (ht J))<|aw<|db h J (fun h=>?_) (fun h=>?_)
    ·refine ay<|zo J (dW)<|zo J (dW)<|aw<|ap ?_;refine aH (M (M (aH (M ?_))));refine ba ?_;cases so h;exact cw J J J
    ·refine bE<|an<|aq<|am<|zo rfl (jY (cG hx1 hN1) rfl)<|aG rfl<|aQ ?_;exact bf (aT (ih1 (i1+1) ⟨cF hx1,h⟩) (bn J))
  ·obtain⟨hx,h⟩:=h
   refine aA<|ay<|zo J (em J J)<|aw<|ae<|bw (ht J) (c9 hx)<|dB<|ae<|ax<|ay<|zo J (jA cW bD J J J (cV hx))<|zo J (bq bD J J)<|bB J<|aw<|ay<|aG J<|zo J (eg (ht J) hI)<|aG J ?_;refine cR J J (fun hg=>cn J)<|cR J J (fun hg=>fq (bc J hg) hI)<|zo J (oB J J)<|aw<|db h J (fun h=>?_) (fun h=>?_)
   ·refine ay<|zo J (dW)<|zo J (dW)<|aw<|ap ?_;refine aH (M (M (aH (M ?_))));cases so h;exact cw J J J
   ·refine bE<|an<|aq<|am<|zo rfl (jY (cG hx hN) rfl)<|aG rfl<|aQ ?_;exact bf (aT (ih (i+1) ⟨cF hx,h⟩) (bn J))

end Go.Proofs.YtnmjbolollcokaaGreatDoor

