/- cG of this claim: P1. -/
import Derived.Test.YtmogpgcfognefaaGreatDoorNaT
import Derived.Test.YtmogpgcfognefaaGreatDoorNaP0
set_option linter.all false
namespace Go.Proofs.YtmogpgcfognefaaGreatDoor
open Go
set_option maxRecDepth 100000

theorem AU(e:bo){R:Int}(h:lX e=some R):bg aP 66 [tD be e] (ce R):=by
 refine bg.of Tryz.func66 J J J fun w0 S0=>au<|zo J (ms J)<|zo J (fi)<|ap<|ae<|au<|zo J (bC gn J J)<|bO h fun r q_r h=>zo J (aL KO (ET _ q_r) ⟨(ht J),aY⟩)<|aA J<|zo J (lA J J)<|zo J (lA J J)<|bv J<|bv J<|ap<|au<|aA J<|zo J (d9 (ht J)) ?_;refine ap<|dN h J (fun h=>?_) (fun h=>?_)
 ·refine au<|zo J (fi)<|ap<|am<|aa ?_;cases so h;exact aH J J
 ·refine eK<|au<|zo J (fi)<|ap<|am ?_;cases so h;exact aH J J

theorem L8(l:Option Nat)(c:Nat)(s:(List Int)){R:(List Int)}(h:gY s=some R):fT aP 117 [oc l c s] [cu bW 3 l c s] (fun i:OI=>oc (i.h 0).1 (i.h 0).2 R) (fun i=>[cu bW 3 (i.h 0).1 (i.h 0).2 R]):=by
 refine fT.of Tryz.func117 J J J fun w0 S0=>au<|cm false bW 3<|zo J (ba q6)<|ap<|ae<|au<|aA J<|zo J (ee dr (.tail _ (.head _)) (ht J))<|zo J (fz (ht J) hI)<|ap<|dN h J (fun h=>?_) (fun h=>?_)
 ·refine au<|aA J<|bv J<|ap<|am<|aa<|bl ?_;cases so h;exact c0 J (oi l c) J J (fun _ _ h=>h)
 ·refine eK<|ae<|au<|zo J (fi)<|ap<|av<|gx (.tail _ (.head _)) fun hN=>bK<|pc ?_;refine aM (eh (Z:=fun ls i=>(s.drop i=ls)∧dK s ls i=some R) (Of:=fun _ i=>[cu bW 3 l c s]) (Gf:=fun _ i=>[(0,oc l c s),(3,ce (i:Int))]) (fun i h=>?_) (fun e tl ih i h=>?_) (s.drop (1)) 1 ⟨J,h⟩) (bh J)
  ·obtain⟨hx,h⟩:=h
   refine aq<|ae<|au<|aA J<|aA J<|zo J (ee dr (.head _) (ht J))<|zo J (fx J J)<|ap<|br (ht J) (dp hx)<|bk ?_;refine ac (ac (aG ?_));refine an<|au<|aA rfl<|bv rfl<|ap<|am ?_;cases so h;exact c0 J (oi l c) J J (fun _ _ h=>h)
  ·obtain⟨hx,h⟩:=h
   refine aq<|ae<|au<|aA J<|aA J<|zo J (ee dr (.head _) (ht J))<|zo J (fx J J)<|ap<|bq (ht J) (dh hx)<|eK<|ae<|av<|ae<|bO h fun e1 q_e1 h=>?_
   refine eQ (ts:=[_,_,_,_,_,_,_,_,_,_]) mixed J J
    ⟨ij 0 J J J (cM J),
    ⟨ij 3 J J J (cM J),
    ⟨fG 16 0 17 1 J J J J (cw dr bL (.head _) (ht J) (ht J) (dy hx)),
    ⟨cO 18 2 J J J (dJ (r:=bW) (i:=(i:Int)) (foff:=0) bL J J cH J (.head _) (dy hx) (ht J)),
    ⟨ij 0 J J J (cM J),
    ⟨ij 3 J J J (cM J),
    ⟨cO 21 5 J J J (gE (ht J) hI),
    ⟨fG 20 4 22 6 J J J J (cw dr bL (.head _) (ht J) (ht J) q_e1),
    ⟨cO 23 7 J J J (dJ (r:=bW) (i:=(IntKind.i64.wrap ((i:Int)-(1:Int)))) (foff:=0) bL J J cH J (.head _) q_e1 (ht J)),
    ⟨fG 19 3 24 8 J J J J (bG (ht J) (ht J)),
    aY⟩⟩⟩⟩⟩⟩⟩⟩⟩⟩ ?_
   refine an<|dN h rfl (fun h=>?_) (fun h=>?_)
   ·refine au<|aA J<|aA J<|bO h fun y q_y h=>zo J (mf dr bL J (.head _) (ht J) (ht J) q_y)<|mO (.head _) q_y fun hv=>bv J<|ap<|ae<|au<|zo J (fi)<|ap<|av<|bK ?_;refine aM (E8 (Z:=fun k1 i1 s1 k=>(y.length-i1=k1)∧dg i y k1 i1 s1 k=some R) (Of:=fun _ i1 s1 k=>[cu bW 3 l c s1]) (Gf:=fun _ i1 s1 k=>[(0,oc l c s1),(3,ce k),(4,tV (kB 1 l c (i:Int).toNat y.length)),(5,ce (i1:Int))]) (fun i1 s1 k h=>?_) (fun k2 ih1 i1 s1 k h=>?_) (y.length-1) 1 s (i:Int) ⟨J,h⟩) (bh J)
    ·obtain⟨hx1,h⟩:=h
     refine aq<|ae<|au<|aA J<|aA J<|zo J (Eu dr hv.1 (ht J))<|zo J (fx J J)<|ap<|br (ht J) (Lu hx1)<|bk ?_;refine ac (ac (aG ?_));refine an<|au<|aA rfl<|aA rfl<|bO h fun y1 q_y1 h=>zo J (mf dr bL J (.head _) (ht J) (ht J) q_y1)<|mO (.head _) q_y1 fun hv1=>bO h fun cl q_cl h=>Gy bL J J dr (fun _=>J) J q_y1 (ht J) (so q_cl)<|ig (zS q_y1 (so q_cl)) 0 J<|ig (zS q_y1 (so q_cl)) 54 J<|ap<|au<|aA J<|aA J<|bO h fun y2 q_y2 h=>zo J (kT dr bL J (.head _) (ht J) (ht J) q_y2)<|yi q_y2<|bv J<|ap ?_;refine am ?_;refine aB (aa (aa (aB (aa ?_))));cases so h;exact c0 J (oi l c) J J (fun _ _ h=>h)
    ·obtain⟨hx1,h⟩:=h
     refine aq<|ae<|au<|aA J<|aA J<|zo J (Eu dr hv.1 (ht J))<|zo J (fx J J)<|ap<|bq (ht J) (Lt hx1)<|eK<|ae<|av<|ae<|bO h fun e3 q_e3 h=>bO h fun e4 q_e4 h=>?_
     refine eQ (ts:=[_,_,_,_,_,_,_,_,_,_]) mixed J J
      ⟨ij 4 J J J (cM J),
      ⟨ij 5 J J J (cM J),
      ⟨fG 35 0 36 1 J J J J (pl dr bL J (.head _) (uJ q_y) (ht J) (ht J) q_e3),
      ⟨cO 37 2 J J J (dJ (r:=bW) (i:=((i:Int)+(i1:Int))) (foff:=0) bL J J cH J (.head _) (rJ q_e3).2.2 (ht J)),
      ⟨ij 4 J J J (cM J),
      ⟨ij 5 J J J (cM J),
      ⟨cO 40 5 J J J (gE (ht J) hI),
      ⟨fG 39 4 41 6 J J J J (pl dr bL J (.head _) (uJ q_y) (ht J) (ht J) q_e4),
      ⟨cO 42 7 J J J (dJ (r:=bW) (i:=((i:Int)+(IntKind.i64.wrap ((i1:Int)-(1:Int))))) (foff:=0) bL J J cH J (.head _) (rJ q_e4).2.2 (ht J)),
      ⟨fG 38 3 43 8 J J J J (dn (ht J) (ht J)),
      aY⟩⟩⟩⟩⟩⟩⟩⟩⟩⟩ ?_
     refine an<|dN h rfl (fun h=>?_) (fun h=>?_)
     ·refine au<|aA J<|aA J<|aA J<|aA J<|bO h fun e5 q_e5 h=>zo J (pl dr bL J (.head _) (uJ q_y) (ht J) (ht J) q_e5)<|zo J (dJ (r:=bW) (i:=((i:Int)+(i1:Int))) (foff:=0) bL J J cH J (.head _) (rJ q_e5).2.2 (ht J))<|bO h fun e6 q_e6 h=>zo J (cw dr bL (.head _) (ht J) (ht J) q_e6)<|bO h fun st q_st h=>jI bL J aw J q_e6 (so q_st) (ht J) (ht J)<|ig (fW (so q_st)) 0 J<|ig (fW (so q_st)) 45 J<|ap<|ak<|aA J<|zo J (nO (ht J) hI)<|bv J<|aK<|al<|an ?_;refine ak<|aA J<|zo J (tG (IS hx1 (Lv hv.2)) (ht J) hI)<|bv J<|aK ?_;exact aW (aM (ih1 (i1+1) st (IntKind.i64.wrap (k+(1:Int))) ⟨IR hx1,h⟩) (bh J))
     ·refine bD<|al<|an<|ak<|aA rfl<|zo rfl (tG (IS hx1 (Lv hv.2)) (ht rfl) hI)<|bv rfl<|aK ?_;exact aW (aM (ih1 (i1+1) s1 k ⟨IR hx1,h⟩) (bh J))
   ·refine bD<|al<|an<|ak<|aA rfl<|zo rfl (lb (cL hx hN) rfl)<|bv rfl<|aK ?_;exact aW (aM (ih (i+1) ⟨cK hx,h⟩) (bh J))

theorem I1(e:bo){R:(List Int)}(h:pH e=some R):fc aP 67 [tD be e] false bW 3 R:=by
 refine fc.of Tryz.func67 J J J fun w0 S0=>au<|zo J (ms J)<|cm false bW 3<|zo J (ba q6)<|ap<|ae<|au<|zo J (bC gn J J)<|bO h fun r q_r h=>zo J (aL Kf (AU _ q_r) ⟨(ht J),aY⟩)<|zo J (uz J)<|ap<|dN h J (fun h=>?_) (fun h=>?_)
 ·refine au<|cm false bW 3<|zo J (ba q6)<|ap<|am<|aa ?_;cases so h;exact gy J J
 ·refine eK<|au<|cm false bW 3<|zo J (ba q6)<|ap<|ae<|au<|zo J (cc fB dc J J)<|zo J (bC mt J J)<|zo J (jk ju J)<|zo J (bj hI)<|ap<|av<|aX (k:=10) J fun hN=>bK<|dM<|pc ?_;refine aM (pL (Z:=fun ls i out l c=>(e.Nodes.drop i=ls)∧j5 ls out=some R) (Of:=fun _ i out l c=>[cu bW 3 l c out]) (Gf:=fun _ i out l c=>[(3,oc l c out),(10,fE (aR) e.Nodes),(11,je e.Nodes),(12,ce (i:Int))]) (fun i out l c h=>?_) (fun e1 tl ih i out l c h=>?_) e.Nodes 0 mW none 0 ⟨J,h⟩) (bh J)
  ·obtain⟨hx,h⟩:=h
   refine aq<|au<|zo J (fx J J)<|ap<|ae<|br (ht J) (dp hx)<|bk ?_;refine ac (ac (aG ?_));refine an<|au<|aA rfl<|bO h fun MY q_srt h=>?_;refine H4 (n:=out.length) (ys:=MY) yX ?_ OL ?_ ?_ ?_ ?_ ?_
   ·rfl
   ·exact q_srt
   ·exact(ht J)
   ·rfl
   ·rfl
   intro hl
   refine Cw hl 3 J<|Cw hl 25 J<|ap<|au<|aA J<|bO h fun r1 q_r1 h=>CA [cu bW 3 l c MY] _ J OK (L8 l c _ q_r1) ⟨(ht J),aY⟩ J fun i1=>?_;refine(show RG _ _ _ _ [cu bW 3 (i1.h 0).1 (i1.h 0).2 r1] ((28,oc (i1.h 0).1 (i1.h 0).2 r1)::_)from ?_);refine bv J<|ap<|am ?_;cases so h;exact gy J J
  ·obtain⟨hx,h⟩:=h
   refine aq<|au<|zo J (fx J J)<|ap<|ae<|bq (ht J) (dh hx)<|eK<|ae<|av<|au<|zo J (ka ju dB J J J (dy hx))<|zo J (bC dB J J)<|aZ (r:=aR) (x:=CM) dB (fun _=>nw _) J fun b=>aC dB J aw J (ht J) (ht J)<|aU 5 J<|ap<|au<|zo J (cc jt eO J J) ?_;refine zo J (bC bL J J)<|zo J (kc J)<|ap<|dN h J (fun h=>?_) (fun h=>?_)
   ·refine ak<|aA J<|zo J (cc mJ iz J J)<|zo J (bC bL J J)<|zo J (bX (r:=bW) (ys:=[e1.Col]) (xs:=[.tmp 21]) dr bL J J J J J ⟨(ht J),aY⟩)<|bO h fun out1 q_out1 h=>dk bL J J J J dr J J (ht J) (ht J) q_out1 fun l2 c2=>bv J<|aK<|al<|an<|ak<|zo rfl (lb (cL hx hN) rfl)<|aA rfl<|aK ?_;exact aW (aM (ih (i+1) out1 l2 c2 ⟨cK hx,h⟩) (bh J))
   ·refine bD<|al<|an<|ak<|zo rfl (lb (cL hx hN) rfl)<|aA rfl<|aK ?_;exact aW (aM (ih (i+1) out l c ⟨cK hx,h⟩) (bh J))
theorem wA(s:(List Int)){R:(List Int)}(h:cA s=some R):fc aP 48 [lx s] false bW 3 R:=by
 refine fc.of Tryz.func48 J J J fun w0 S0=>au<|cm false bW 3<|zo J (ba q6)<|ap<|ae<|au<|aA J<|Cz dr (ht J) J fun isnil hisnil=>ap<|nv (ht J) (fun hc=>?_) (fun hc=>?_)
 ·have hx:=hisnil hc
  have h:some mW=some R:=by simpa [cA,nS,hx] using h
  refine au<|cm false bW 3<|zo J (ba q6)<|ap<|am<|aa ?_;cases so h;exact gy J J
 ·refine eK<|au<|fu (r:=bW) (ys:=mW) (xs:=[]) dr bL J J J J J trivial J fun l c=>aA J<|bO h fun x q_x h=>dk bL J J J J dr J J (ht J) (ht J) q_x fun l1 c1=>bv J<|ap<|am ?_;cases so h;exact gy J J
theorem NA{l:Option Nat}{c:Nat}{xs s:List Int}{lo:Int}{R:List Int}(hs:cz xs lo (xs.length:Int)=some s)(h:cA s=some R):fT aP 48 [tV (kB 1 l c lo.toNat s.length)] [cu bW 3 l c xs] (fun i:OI=>oc (i.h 0).1 (i.h 0).2 R) (fun i=>[cu bW 3 (i.h 0).1 (i.h 0).2 R,cu bW 3 l c xs]):=by
 refine fT.of Tryz.func48 J J J fun w0 S0=>au<|zo J (ba q6)<|ap<|ae<|au<|aA J<|Gx (r:=bW) dr (.head _) hs (ht J) J fun isnil hisnil=>ap<|nv (ht J) (fun hc=>?_) (fun hc=>?_)
 ·have hx:=hisnil hc
  have h:some mW=some R:=by simpa [cA,nS,hx] using h
  refine au<|cm false bW 3<|zo J (ba q6)<|ap<|am<|aa ?_;cases so h;exact c0 J (oi none 0) J J (fun _ _ h=>h)
 ·refine eK<|au<|fu (r:=bW) (ys:=mW) (xs:=[]) dr bL J J J J J trivial J fun l1 c1=>aA J<|bO h fun x q_x h=>DU bL J J J J dr J J (ht J) (.tail _ (.head _)) hs (ht J) q_x fun l2 c2=>bv J<|ap<|am ?_;cases so h;exact c0 J (oi l2 c2) J J (fun _ _ h=>h)

theorem L6(b:Nat)(l:Option Nat)(c:Nat)(stack:(List Int))(k:Int){R:(List Int)×(List Int)}(h:lN stack k=some R):fT aP 251 [ce k,tV (aD b 0)] [bx rV 29 b (ai l c stack.length),cu bW 3 l c stack] (fun i:OI=>lx R.1) (fun i=>[bx rV 29 b (ai (i.h 0).1 (i.h 0).2 R.2.length),cu bW 3 (i.h 0).1 (i.h 0).2 R.2]):=by
 refine fT.of Tryz.func251 J J J fun w0 S0=>au<|zo J (ba (show ay _ _ _ (lx ([]))from uX))<|ap<|au<|zo J (pC bT (.head _) (ht J))<|zo J (pC bT (.head _) (ht J))<|zo J (ee dr (.tail _ (.head _)) (ht J))<|aA J<|zo J (gE (ht J) (ht J))<|bO h fun y q_y h=>zo J (mf dr bL J (.tail _ (.head _)) (ht J) (ht J) q_y)<|mO (.tail _ (.head _)) q_y fun hv=>bM<|bO h fun r q_r h=>CA [cu bW 3 l c stack] _ J HV (NA q_y q_r) ⟨(ht J),aY⟩ J fun i=>?_;refine(show RG _ _ _ _ [cu bW 3 (i.h 0).1 (i.h 0).2 r,cu bW 3 l c stack,bx rV 29 b (ai l c stack.length)] _ from ?_);refine bv J<|ap<|au<|zo J (pC bT (.tail _ (.tail _ (.head _))) (ht J))<|zo J (pC bT (.tail _ (.tail _ (.head _))) (ht J))<|zo J (ee dr (.tail _ (.head _)) (ht J))<|aA J<|zo J (gE (ht J) (ht J))<|bO h fun y1 q_y1 h=>zo J (kT dr bL J (.tail _ (.head _)) (ht J) (ht J) q_y1)<|bM<|yi q_y1<|jJ<|aC bT J aw J (ht J) (zy (ht J))<|ap<|au<|aA J<|bv J<|ap ?_;refine am<|aI<|ii<|jL 3 J<|jL 11 J<|jL 4 J<|jL 18 J<|rP 3 J<|bl<|bf<|bf ?_;cases so h;exact c0 J (oi l c) J J (fun _ _ h=>h)

theorem Jm(e:bo)(do1:(bt→(List Int)→Option (Int×Int))){R:Int×Int}(h:lG e do1=some R):bg aP 216 [tD be e,(fH aP Iu Is (fun(x:bt×(List Int))=>do1 x.1 x.2))] (tT [ce R.1,ce R.2]):=by
 refine bg.of Tryz.func216 J J J fun w0 S0=>au<|zo J (ms J)<|zo J (fi)<|zo J (fi)<|ap<|yu<|au<|cm false bW 3<|aZ (x:=ai none 0 0) bT (fun _=>Lm) J fun b=>ap<|au<|zo J (fi)<|ap<|au<|zo J (Hk (cts:=[tV (aD b 0)]) (caps:=[.tmp 6]) ⟨(ht J),aY⟩)<|bv J ?_;refine ap<|au<|zo J (fi)<|ap<|ae<|yw<|an<|ae<|au<|zo rfl (cc fB dc rfl rfl)<|zo rfl (bC mt rfl rfl)<|zo rfl (jk ju rfl)<|zo rfl (bj hI)<|ap ?_;refine GH (Z:=fun bad stack l c=>jE bad stack=some R) (Of:=fun bad stack l c=>[bx rV 29 b (ai l c stack.length),cu bW 3 l c stack]) (Gf:=fun bad stack l c=>[(6,tV (aD b 0)),(7,ce 0),(9,ce bad)]) (fun bad stack l c h=>?_) (fun K=>?_)
 ·skip
  refine an<|ae<|au<|aA rfl<|zo rfl (uz rfl)<|ap<|dN h rfl (fun h=>?_) (fun h=>?_)
  ·refine au<|aA J<|aA J<|bv J<|bv J<|ap<|am ?_;refine aa (mo ?_);refine bl<|bl ?_;cases so h;exact fY J J J
  ·refine eK<|au<|zo J (pC bT (.head _) (ht J))<|bO h fun e1 q_e1 h=>zo J (cw dr bL (.tail _ (.head _)) (ht J) hI q_e1)<|zo J (dJ (r:=bW) (i:=(0:Int)) (foff:=0) bL J J cH J (.tail _ (.head _)) q_e1 (ht J))<|bv J<|zo J (fi)<|ap<|am<|mo<|bl<|bl ?_;cases so h;exact fY J J J
 ·skip
  refine aX (k:=16) J fun hN=>bK ?_;refine aM (yn (Z:=fun ls i bad1 stack1 l1 c1=>(e.Nodes.drop i=ls)∧fq do1 ls bad1 stack1=some R) (Of:=fun _ i bad1 stack1 l1 c1=>[bx rV 29 b (ai l1 c1 stack1.length),cu bW 3 l1 c1 stack1]) (Gf:=fun _ i bad1 stack1 l1 c1=>[(1,(fH aP Iu Is (fun(x:bt×(List Int))=>do1 x.1 x.2))),(6,tV (aD b 0)),(7,ce 0),(8,tC 251 [tV (aD b 0)]),(9,ce bad1),(16,fE (aR) e.Nodes),(17,je e.Nodes),(18,ce (i:Int))]) (fun i bad1 stack1 l1 c1 h=>?_) (fun e2 tl ih i bad1 stack1 l1 c1 h=>?_) e.Nodes 0 (0:Int) mW none 0 ⟨J,h⟩) (bh J)
  ·obtain⟨hx,h⟩:=h
   refine aq<|au<|zo J (fx J J)<|ap<|ae<|br (ht J) (dp hx)<|bk ?_;refine ac (ac (aG ?_));exact cg (K bad1 stack1 l1 c1 h) (bh J)
  ·obtain⟨hx,h⟩:=h
   refine aq<|au<|zo J (fx J J)<|ap<|ae<|bq (ht J) (dh hx)<|eK<|ae<|av<|au<|zo J (ka ju dB J J J (dy hx))<|zo J (bC dB J J)<|aZ (r:=aR) (x:=CM) dB (fun _=>nw _) J fun b1=>aC dB J aw J (ht J) (ht J)<|aU 11 J<|ap<|ae<|bO h fun r q_r h=>bO h fun r1 q_r1 h=>?_
   obtain⟨r2,q_r2,h⟩:=bs h
   refine nI 12 [tc ((fH aP Iu Is (fun(x:bt×(List Int))=>do1 x.1 x.2))),tc (tD aR e2),tc (tC 251 [tV (aD b 0)]),tc (bz bW e2.Tag),tc (ce e2.Tag),tc (ce r),tc (lx r1.1),tc (tT [ce r2.1,ce r2.2]),tc (tT [ce r2.1,ce r2.2]),tc (ce r2.1),tc (ce r2.2),tc (ce r2.1)] [false,false,false,false,false,false,true,false,false,false,false,false] [fun _=>[bx rV 29 b (ai l1 c1 stack1.length),cu bW 3 l1 c1 stack1],fun sg=>[bx rV 29 b (ai ((sg 6).h 0).1 ((sg 6).h 0).2 r1.2.length),cu bW 3 ((sg 6).h 0).1 ((sg 6).h 0).2 r1.2]] J mixed J J J J J
    ⟨⟨[⟨1,fun _=>(fH aP K8 K6 (fun(x:bt×(List Int))=>do1 x.1 x.2)),none⟩],_,0,1,J,⟨(fun _=>J),aY⟩,J,J,J,J,J,fun _ sg _ _=>ah J (cM J)⟩,
    ⟨⟨[⟨11,fun _=>bz aR e2,none⟩],_,0,1,J,⟨(fun _=>J),aY⟩,J,J,J,J,J,fun _ sg _ _=>ah J (bC dB J J)⟩,
    ⟨⟨[⟨8,fun _=>tC 251 [tV (aD b 0)],none⟩],_,0,0,J,⟨(fun _=>J),aY⟩,J,J,J,J,J,fun _ sg _ _=>ah J (cM J)⟩,
    ⟨⟨[⟨11,fun _=>bz aR e2,none⟩],_,0,0,J,⟨(fun _=>J),aY⟩,J,J,J,J,J,fun _ sg _ _=>ah J (cc jt eO J J)⟩,
    ⟨⟨[⟨26,fun _=>bz bW e2.Tag,some 3⟩],_,0,0,J,⟨(fun _=>J),aY⟩,J,J,J,J,J,fun _ sg _ _=>ah J (bC bL J J)⟩,
    ⟨⟨[⟨27,fun _=>tD bW e2.Tag,some 4⟩],_,0,0,J,⟨(fun _=>J),aY⟩,J,J,J,J,J,fun _ sg _ _=>ah J (aL KN (ES _ q_r) ⟨(ht J),aY⟩)⟩,
    ⟨⟨[⟨25,fun _=>tC 251 [tV (aD b 0)],some 2⟩,⟨28,fun _=>tD bW r,some 5⟩],_,J,⟨(fun _=>J),(fun _=>J),aY⟩,J,J,J,fun sg=>dD J (EffOK.fr1 (EffOK.fr1 (Gp (xs:=[.tmp 28]) (ts:=[tD bW r]) (cts:=[tV (aD b 0)]) [bx rV 29 b (ai l1 c1 stack1.length),cu bW 3 l1 c1 stack1] _ J NP (L6 b l1 c1 _ _ q_r1) (ht J) ⟨(ht J),aY⟩ (fun _=>J))))⟩,
    ⟨⟨[⟨23,fun _=>(fH aP K8 K6 (fun(x:bt×(List Int))=>do1 x.1 x.2)),some 0⟩,⟨24,fun _=>tD aR e2,some 1⟩,⟨29,fun _=>tD pT r1.1,some 6⟩],_,1,1,J,⟨(fun _=>J),(fun _=>J),(fun _=>J),aY⟩,J,J,J,J,J,fun _ sg _ _=>ah J (gF (args:=K8) (res:=K6) (f:=(fun(x:bt×(List Int))=>do1 x.1 x.2)) (x:=((e2,r1.1):bt×(List Int))) (ht J) q_r2 ⟨(ht J),(ht J),aY⟩)⟩,
    ⟨⟨[⟨30,fun _=>tT [tD bW r2.1,tD bW r2.2],some 7⟩],_,1,1,J,⟨(fun _=>J),aY⟩,J,J,J,J,J,fun _ sg _ _=>ah J (cM J)⟩,
    ⟨⟨[⟨22,fun _=>tT [tD bW r2.1,tD bW r2.2],some 8⟩],_,1,1,J,⟨(fun _=>J),aY⟩,J,J,J,J,J,fun _ sg _ _=>ah J (lA J J)⟩,
    ⟨⟨[⟨22,fun _=>tT [tD bW r2.1,tD bW r2.2],some 8⟩],_,1,1,J,⟨(fun _=>J),aY⟩,J,J,J,J,J,fun _ sg _ _=>ah J (lA J J)⟩,
    ⟨⟨[⟨31,fun _=>tD bW r2.1,some 9⟩],_,1,1,J,⟨(fun _=>J),aY⟩,J,J,J,J,J,fun _ sg _ _=>ah J (yD J)⟩,
    aY⟩⟩⟩⟩⟩⟩⟩⟩⟩⟩⟩⟩ (fun sg=>?_)
   refine(show RG _ _ _ _ [bx rV 29 b (ai ((sg 6).h 0).1 ((sg 6).h 0).2 r1.2.length),cu bW 3 ((sg 6).h 0).1 ((sg 6).h 0).2 r1.2] _ from ?_);refine bv J<|ap<|ae<|au<|aA J<|zo J (uz J)<|ap<|dN h J (fun h=>?_) (fun h=>?_)
   ·refine au<|aA J<|bv J<|ap<|bk ?_;refine ac (bR J (ac (ac (aG ?_))));exact cg (K r2.2 r1.2 ((sg 6).h 0).1 ((sg 6).h 0).2 h) (bh J)
   ·refine eK<|ak<|zo J (pC bT (.head _) (ht J))<|aA J<|zo J (bX (r:=bW) (ys:=[r2.1]) (xs:=[.tmp 37]) dr bL J J J J J ⟨(ht J),aY⟩)<|bM<|bO h fun l2 q_l2 h=>dk bL J J J J dr J J (ht J) (ht J) q_l2 fun l3 c2=>bM<|aC bT J aw J (ht J) (zy (ht J))<|aK<|al<|an<|ak<|zo rfl (lb (cL hx hN) rfl)<|aA rfl<|aK ?_;exact aW (aM (ih (i+1) bad1 l2 l3 c2 ⟨cK hx,h⟩) (bh J))

theorem EK(tag:Int){R:Bool}(h:nR tag=some R):bg aP 213 [ce tag] (gU R):=by
 refine bg.of Tryz.func213 J J J fun w0 S0=>au<|zo J (fC)<|ap<|au<|aA J<|zo J (kc J)<|aA J<|cQ J J (fun hg=>cM J)<|cQ J J (fun hg=>ek (aJ J hg) hI)<|cQ J J (fun hg=>bj (aJ J hg))<|gb J J J J (fun hg=>cM J)<|gb J J J J (fun hg=>jh (aJ J hg) hI)<|cQ J J (fun hg=>lU (aJ J hg) (fun hb=>(aJ J (oO hg hb))))<|zo J (pr J J)<|bv J<|ap<|am ?_;cases so h;exact aH J J

theorem Jl(kinds:(List Int))(n:bt)(l:(List Int)){R:Int×Int}(h:gI kinds n l=some R):bg aP 217 [tD aR n,lx l,bz gz kinds] (tT [ce R.1,ce R.2]):=by
 refine bg.of Tryz.func217 J J J fun w0 S0=>au<|zo J (ms J)<|zo J (fi)<|zo J (fi)<|ap<|au<|zo J (fi)<|ap<|ae<|au<|aA J<|zo J (jk dr J)<|zo J (bj hI)<|ap<|av<|aX (k:=12) J fun hN=>bK ?_;refine aM (jd (Z:=fun ls i own=>(l.drop i=ls)∧jG kinds n ls own=some R) (Of:=fun _ i own=>[]) (Gf:=fun _ i own=>[(2,bz gz kinds),(3,bz aR n),(7,ce own),(12,lx l),(13,je l),(14,ce (i:Int))]) (fun i own h=>?_) (fun e tl ih i own h=>?_) l 0 (0:Int) ⟨J,h⟩) (bh J)
 ·obtain⟨hx,h⟩:=h
  refine aq<|au<|zo J (fx J J)<|ap<|ae<|br (ht J) (dp hx)<|bk ?_;refine ac (ac (aG ?_));refine an<|au<|aA rfl<|bv rfl<|ap<|au<|zo rfl (fi)<|ap<|ae<|av<|au<|zo rfl (cc jt eO rfl rfl)<|zo rfl (bC bL rfl rfl)<|zo rfl (kc rfl)<|bv rfl<|ap<|dN h rfl (fun h=>?_) (fun h=>?_)
  ·refine au<|zo J (cc tY lW J J)<|zo J (cc u3 qc J J)<|zo J (bC bL J J)<|bv J<|zo J (fi)<|ap<|am ?_;refine aB (aa ?_);cases so h;exact fY J J J
  ·refine au<|zo J (cc jt eO J J)<|zo J (bC bL J J)<|zo J (kc J)<|bv J<|ap<|dN h J (fun h=>?_) (fun h=>?_)
   ·refine au<|zo J (bC bT J J)<|zo J (cc mJ iz J J)<|zo J (bC bL J J)<|bO h fun e1 q_e1 h=>zo J (ka dr bL J J J q_e1)<|zo J (bC bL J J)<|bv J<|zo J (fi)<|ap<|am ?_;refine aB (aa ?_);cases so h;exact fY J J J
   ·refine au<|zo J (cc jt eO J J)<|zo J (bC bL J J)<|bO h fun r q_r h=>zo J (aL KF (EK _ q_r) ⟨(ht J),aY⟩)<|bv J<|ap<|dN h J (fun h=>?_) (fun h=>?_)
    ·refine ak<|zo J (fi)<|zo J (fi)<|aK<|al<|an<|ae<|au<|aA rfl<|zo rfl (kc rfl)<|aA rfl<|cQ rfl rfl (fun hg=>cM J)<|cQ J J (fun hg=>dn (aJ J hg) hI)<|cQ J J (fun hg=>bj (aJ J hg))<|gb J J J J (fun hg=>cM J)<|gb J J J J (fun hg=>cM J)<|gb J J J J (fun hg=>dn (aJ J hg) (aJ J hg))<|cQ J J (fun hg=>lU (aJ J hg) (fun hb=>(aJ J (oO hg hb))))<|zo J (pr J J)<|ap<|dN h J (fun h=>?_) (fun h=>?_)
     ·refine au<|zo J (fi)<|zo J (fi)<|ap<|am<|aa ?_;cases so h;exact fY J J J
     ·refine eK<|au<|aA J<|bv J<|zo J (fi)<|ap<|am ?_;cases so h;exact fY J J J
    ·refine au<|zo J (cc jt eO J J)<|zo J (bC bL J J)<|zo J (kc J)<|aA J<|cQ J J (fun hg=>cc jt eO J J)<|cQ J J (fun hg=>aO bL J J (aJ J hg))<|cQ J J (fun hg=>bG (aJ J hg) hI)<|zo J (pr J J)<|aA J<|cQ J J (fun hg=>cc jt eO J J)<|cQ J J (fun hg=>aO bL J J (aJ J hg))<|cQ J J (fun hg=>bG (aJ J hg) hI)<|zo J (pr J J)<|bv J<|ap<|dN h J (fun h=>?_) (fun h=>?_)
     ·refine ak<|zo J (fi)<|aK<|al<|an<|ae<|au<|aA rfl<|zo rfl (kc rfl)<|aA rfl<|cQ rfl rfl (fun hg=>cM J)<|cQ J J (fun hg=>dn (aJ J hg) hI)<|cQ J J (fun hg=>bj (aJ J hg))<|gb J J J J (fun hg=>cM J)<|gb J J J J (fun hg=>cM J)<|gb J J J J (fun hg=>dn (aJ J hg) (aJ J hg))<|cQ J J (fun hg=>lU (aJ J hg) (fun hb=>(aJ J (oO hg hb))))<|zo J (pr J J)<|ap<|dN h J (fun h=>?_) (fun h=>?_)
      ·refine au<|zo J (fi)<|zo J (fi)<|ap<|am<|aa ?_;cases so h;exact fY J J J
      ·refine eK<|au<|aA J<|bv J<|zo J (fi)<|ap<|am ?_;cases so h;exact fY J J J
     ·refine bD<|al<|an<|ae<|au<|aA rfl<|zo rfl (kc rfl)<|aA rfl<|cQ rfl rfl (fun hg=>cM J)<|cQ J J (fun hg=>dn (aJ J hg) hI)<|cQ J J (fun hg=>bj (aJ J hg))<|gb J J J J (fun hg=>cM J)<|gb J J J J (fun hg=>cM J)<|gb J J J J (fun hg=>dn (aJ J hg) (aJ J hg))<|cQ J J (fun hg=>lU (aJ J hg) (fun hb=>(aJ J (oO hg hb))))<|zo J (pr J J)<|ap<|dN h J (fun h=>?_) (fun h=>?_)
      ·refine au<|zo J (fi)<|zo J (fi)<|ap<|am<|aa ?_;cases so h;exact fY J J J
      ·refine eK<|au<|aA J<|bv J<|zo J (fi)<|ap<|am ?_;cases so h;exact fY J J J
 ·obtain⟨hx,h⟩:=h
  refine aq<|au<|zo J (fx J J)<|ap<|ae<|bq (ht J) (dh hx)<|eK<|ae<|av<|au<|zo J (ka dr bL J J J (dy hx))<|zo J (bC bL J J)<|bv J<|ap<|av<|au<|aA J<|zo J (kc J) ?_;refine aA J<|cQ J J (fun hg=>cM J)<|cQ J J (fun hg=>cM J)<|cQ J J (fun hg=>bG (aJ J hg) (aJ J hg))<|zo J (pr J J)<|bv J<|ap<|dN h J (fun h=>?_) (fun h=>?_)
  ·refine bD<|al<|al<|an<|ak<|zo rfl (lb (cL hx hN) rfl)<|aA rfl<|aK ?_;exact aW (aM (ih (i+1) own ⟨cK hx,h⟩) (bh J))
  ·refine au<|aA J<|zo J (kc J)<|bv J<|ap<|dN h J (fun h=>?_) (fun h=>?_)
   ·refine ak<|aA J<|bv J<|aK<|al<|al<|an<|ak<|zo rfl (lb (cL hx hN) rfl)<|aA rfl<|aK ?_;exact aW (aM (ih (i+1) e ⟨cK hx,h⟩) (bh J))
   ·refine ak<|zo J (fi)<|aK<|al<|al<|an<|ak<|zo rfl (lb (cL hx hN) rfl)<|aA rfl<|aK ?_;exact aW (aM (ih (i+1) tf ⟨cK hx,h⟩) (bh J))

theorem wB(e:bo)(kinds:(List Int)){R:Int×Int}(h:ml e kinds=some R):bg aP 160 [tD be e,lx kinds] (tT [ce R.1,ce R.2]):=by
 refine bg.of Tryz.func160 J J J fun w0 S0=>au<|zo J (ms J)<|zo J (ms J)<|zo J (fi)<|zo J (fi)<|ap<|ae<|au<|zo J (bC gn J J)<|bO h fun r q_r h=>zo J (aL Kf (AU _ q_r) ⟨(ht J),aY⟩)<|bv J<|ap<|au<|aA J<|zo J (uz J)<|ap ?_;refine dN h J (fun h=>?_) (fun h=>?_)
 ·refine au<|aA J<|zo J (fi)<|bv J<|ap<|am<|aa ?_;cases so h;exact fY J J J
 ·refine eK<|ae<|au<|zo J (bC bT J J)<|zo J (jk dr J)<|zo J (bj hI)<|ap<|av<|aX (k:=16) J fun hN=>bK ?_;refine aM (eh (Z:=fun ls i=>(kinds.drop i=ls)∧mK e kinds ls=some R) (Of:=fun _ i=>[]) (Gf:=fun _ i=>[(2,bz be e),(3,bz gz kinds),(16,lx kinds),(17,je kinds),(18,ce (i:Int))]) (fun i h=>?_) (fun e1 tl ih i h=>?_) kinds 0 ⟨J,h⟩) (bh J)
  ·obtain⟨hx,h⟩:=h
   refine aq<|au<|zo J (fx J J)<|ap<|ae<|br (ht J) (dp hx)<|bk ?_;refine ac (ac (aG ?_));refine an<|ae<|au<|zo rfl (bC gn rfl rfl)<|bO h fun r1 q_r1 h=>jb PT (I1 _ q_r1) ⟨(ht J),aY⟩ J fun l c=>zo J (ee dr (.head _) (ht J))<|zo J (bj hI)<|ap<|av<|gx (.head _) fun hN1=>bK ?_;refine aM (eh (Z:=fun ls1 i1=>(r1.drop i1=ls1)∧j4 e kinds ls1=some R) (Of:=fun _ i1=>[cu bW 3 l c r1]) (Gf:=fun _ i1=>[(2,bz be e),(3,bz gz kinds),(30,oc l c r1),(31,je r1),(32,ce (i1:Int))]) (fun i1 h=>?_) (fun e2 tl1 ih1 i1 h=>?_) r1 0 ⟨J,h⟩) (bh J)
   ·obtain⟨hx1,h⟩:=h
    refine aq<|au<|zo J (fx J J)<|ap<|ae<|br (ht J) (dp hx1)<|bk ?_;refine ac (ac (aG ?_));refine an<|au<|zo rfl (bC gn rfl rfl)<|zo rfl ((show bU _ _ _ _ ((fH aP Iu Is (fun(x:bt×(List Int))=>(gI kinds) x.1 x.2)))from hY (cts:=[bz gz kinds]) (caps:=[.tmp 3]) NY ⟨(ht J),aY⟩ (fun x y h=>Jl _ _ _ h)))<|bO h fun r2 q_r2 h=>zo J (aL NZ (Jm _ _ q_r2) ⟨(ht J),(ht J),aY⟩)<|zo J (lA J J)<|zo J (lA J J)<|bv J<|bv J<|ap<|am<|bl ?_;cases so h;exact fY J J J
   ·obtain⟨hx1,h⟩:=h
    refine aq<|au<|zo J (fx J J)<|ap<|ae<|bq (ht J) (dh hx1)<|eK<|ae<|av<|au<|zo J (cw dr bL (.head _) (ht J) (ht J) (dy hx1))<|zo J (dJ (r:=bW) (i:=(i1:Int)) (foff:=0) bL J J cH J (.head _) (dy hx1) (ht J))<|bv J<|ap<|au<|aA J<|zo J (bC bT J J)<|zo J (jk dr J) ?_;refine zo J (ek (ht J) (ht J))<|ap<|dN h J (fun h=>?_) (fun h=>?_)
    ·refine au<|zo J (fi)<|zo J (fi)<|ap<|am ?_;refine aB (aa (aa (aB (aa ?_))));refine bl ?_;cases so h;exact fY J J J
    ·refine bD<|al<|an<|ak<|zo rfl (lb (cL hx1 hN1) rfl)<|aA rfl<|aK ?_;exact aW (aM (ih1 (i1+1) ⟨cK hx1,h⟩) (bh J))
  ·obtain⟨hx,h⟩:=h
   refine aq<|au<|zo J (fx J J)<|ap<|ae<|bq (ht J) (dh hx)<|eK<|ae<|av<|au<|zo J (ka dr bL J J J (dy hx))<|zo J (bC bL J J)<|bv J<|ap<|au<|aA J<|zo J (fz (ht J) hI)<|aA J ?_;refine cQ J J (fun hg=>cM J)<|cQ J J (fun hg=>gZ (aJ J hg) hI)<|zo J (pr J J)<|ap<|dN h J (fun h=>?_) (fun h=>?_)
   ·refine au<|zo J (fi)<|zo J (fi)<|ap<|am ?_;refine aB (aa (aa (aB (aa ?_))));cases so h;exact fY J J J
   ·refine bD<|al<|an<|ak<|zo rfl (lb (cL hx hN) rfl)<|aA rfl<|aK ?_;exact aW (aM (ih (i+1) ⟨cK hx,h⟩) (bh J))

end Go.Proofs.YtmogpgcfognefaaGreatDoor

