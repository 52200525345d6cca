/- di of this claim: P1. -/
import Derived.Test.YtmogpgcfognefaaGreatDoorNdT
import Derived.Test.YtmogpgcfognefaaGreatDoorNdP0
set_option linter.all false
namespace Go.Proofs.YtmogpgcfognefaaGreatDoor
open Go
set_option maxRecDepth 100000

theorem Gx(e:bp){R:Int}(h:pL e=some R):bh be 66 [tD bn e] (bY R):=by
 refine bh.of Tryz.func66 J J J fun w0 S0=>an<|zo J (lK J)<|zo J (dv)<|al<|ae<|an<|zo J (bj fG J J)<|bM h fun r q_r h=>zo J (aH Tc (Lu _ q_r) ⟨(ht J),bm⟩)<|ax J<|zo J (iA J J)<|zo J (iA J J)<|aY J<|aY J<|al<|an<|ax J<|zo J (dD (ht J)) ?_;refine al<|cz h J (fun h=>?_) (fun h=>?_)
 ·refine an<|zo J (dv)<|al<|aj<|aa ?_;cases so h;exact aB J J
 ·refine dF<|an<|zo J (dv)<|al<|aj ?_;cases so h;exact aB J J

theorem UA(l:Option Nat)(c:Nat)(s:(List Int)){R:(List Int)}(h:kF s=some R):jh be 117 [mU l c s] [cY cC 3 l c s] (fun i:OI=>mU (i.h 0).1 (i.h 0).2 R) (fun i=>[cY cC 3 (i.h 0).1 (i.h 0).2 R]):=by
 refine jh.of Tryz.func117 J J J fun w0 S0=>an<|cm false cC 3<|zo J (aP tE)<|al<|ae<|an<|ax J<|zo J (fc cZ (.tail _ (.head _)) (ht J))<|zo J (eg (ht J) hI)<|al<|cz h J (fun h=>?_) (fun h=>?_)
 ·refine an<|ax J<|aY J<|al<|aj<|aa<|aX ?_;cases so h;exact eD J (oi l c) J J (fun _ _ h=>h)
 ·refine dF<|ae<|an<|zo J (dv)<|al<|ap<|jI (.tail _ (.head _)) fun hN=>bE<|pB ?_;refine aJ (dB (Z:=fun ls i=>(s.drop i=ls)∧fz s ls i=some R) (Of:=fun _ i=>[cY cC 3 l c s]) (Gf:=fun _ i=>[(0,mU l c s),(3,bY (i:Int))]) (fun i h=>?_) (fun e tl ih i h=>?_) (s.drop (1)) 1 ⟨J,h⟩) (aQ J)
  ·obtain⟨hx,h⟩:=h
   refine av<|ae<|an<|ax J<|ax J<|zo J (fc cZ (.head _) (ht J))<|zo J (eu J J)<|al<|bu (ht J) (dh hx)<|bf ?_;refine ac (ac (aI ?_));refine ai<|an<|ax rfl<|aY rfl<|al<|aj ?_;cases so h;exact eD J (oi l c) J J (fun _ _ h=>h)
  ·obtain⟨hx,h⟩:=h
   refine av<|ae<|an<|ax J<|ax J<|zo J (fc cZ (.head _) (ht J))<|zo J (eu J J)<|al<|bt (ht J) (dg hx)<|dF<|ae<|ap<|ae<|bM h fun e1 q_e1 h=>?_
   refine er (ts:=[_,_,_,_,_,_,_,_,_,_]) mixed J J
    ⟨ic 0 J J J (cq J),
    ⟨ic 3 J J J (cq J),
    ⟨eT 16 0 17 1 J J J J (bT cZ br (.head _) (ht J) (ht J) (dl hx)),
    ⟨dc 18 2 J J J (dj (r:=cC) (i:=(i:Int)) (foff:=0) br J J bO J (.head _) (dl hx) (ht J)),
    ⟨ic 0 J J J (cq J),
    ⟨ic 3 J J J (cq J),
    ⟨dc 21 5 J J J (dn (ht J) hI),
    ⟨eT 20 4 22 6 J J J J (bT cZ br (.head _) (ht J) (ht J) q_e1),
    ⟨dc 23 7 J J J (dj (r:=cC) (i:=(IntKind.i64.wrap ((i:Int)-(1:Int)))) (foff:=0) br J J bO J (.head _) q_e1 (ht J)),
    ⟨eT 19 3 24 8 J J J J (bq (ht J) (ht J)),
    bm⟩⟩⟩⟩⟩⟩⟩⟩⟩⟩ ?_
   refine ai<|cz h rfl (fun h=>?_) (fun h=>?_)
   ·refine an<|ax J<|ax J<|bM h fun y q_y h=>zo J (pY cZ br J (.head _) (ht J) (ht J) q_y)<|qN (.head _) q_y fun hv=>aY J<|al<|ae<|an<|zo J (dv)<|al<|ap<|bE ?_;refine aJ (LN (Z:=fun k1 i1 s1 k=>(y.length-i1=k1)∧eN i y k1 i1 s1 k=some R) (Of:=fun _ i1 s1 k=>[cY cC 3 l c s1]) (Gf:=fun _ i1 s1 k=>[(0,mU l c s1),(3,bY k),(4,tV (nR 1 l c (i:Int).toNat y.length)),(5,bY (i1:Int))]) (fun i1 s1 k h=>?_) (fun k2 ih1 i1 s1 k h=>?_) (y.length-1) 1 s (i:Int) ⟨J,h⟩) (aQ J)
    ·obtain⟨hx1,h⟩:=h
     refine av<|ae<|an<|ax J<|ax J<|zo J (KI cZ hv.1 (ht J))<|zo J (eu J J)<|al<|bu (ht J) (TK hx1)<|bf ?_;refine ac (ac (aI ?_));refine ai<|an<|ax rfl<|ax rfl<|bM h fun y1 q_y1 h=>zo J (pY cZ br J (.head _) (ht J) (ht J) q_y1)<|qN (.head _) q_y1 fun hv1=>bM h fun cl q_cl h=>No br J J cZ (fun _=>J) J q_y1 (ht J) (so q_cl)<|jw (Fp q_y1 (so q_cl)) 0 J<|jw (Fp q_y1 (so q_cl)) 54 J<|al<|an<|ax J<|ax J<|bM h fun y2 q_y2 h=>zo J (oE cZ br J (.head _) (ht J) (ht J) q_y2)<|DF q_y2<|aY J<|al ?_;refine aj ?_;refine am (aa (aa (am (aa ?_))));cases so h;exact eD J (oi l c) J J (fun _ _ h=>h)
    ·obtain⟨hx1,h⟩:=h
     refine av<|ae<|an<|ax J<|ax J<|zo J (KI cZ hv.1 (ht J))<|zo J (eu J J)<|al<|bt (ht J) (TJ hx1)<|dF<|ae<|ap<|ae<|bM h fun e3 q_e3 h=>bM h fun e4 q_e4 h=>?_
     refine er (ts:=[_,_,_,_,_,_,_,_,_,_]) mixed J J
      ⟨ic 4 J J J (cq J),
      ⟨ic 5 J J J (cq J),
      ⟨eT 35 0 36 1 J J J J (uB cZ br J (.head _) (Ag q_y) (ht J) (ht J) q_e3),
      ⟨dc 37 2 J J J (dj (r:=cC) (i:=((i:Int)+(i1:Int))) (foff:=0) br J J bO J (.head _) (xm q_e3).2.2 (ht J)),
      ⟨ic 4 J J J (cq J),
      ⟨ic 5 J J J (cq J),
      ⟨dc 40 5 J J J (dn (ht J) hI),
      ⟨eT 39 4 41 6 J J J J (uB cZ br J (.head _) (Ag q_y) (ht J) (ht J) q_e4),
      ⟨dc 42 7 J J J (dj (r:=cC) (i:=((i:Int)+(IntKind.i64.wrap ((i1:Int)-(1:Int))))) (foff:=0) br J J bO J (.head _) (xm q_e4).2.2 (ht J)),
      ⟨eT 38 3 43 8 J J J J (cA (ht J) (ht J)),
      bm⟩⟩⟩⟩⟩⟩⟩⟩⟩⟩ ?_
     refine ai<|cz h rfl (fun h=>?_) (fun h=>?_)
     ·refine an<|ax J<|ax J<|ax J<|ax J<|bM h fun e5 q_e5 h=>zo J (uB cZ br J (.head _) (Ag q_y) (ht J) (ht J) q_e5)<|zo J (dj (r:=cC) (i:=((i:Int)+(i1:Int))) (foff:=0) br J J bO J (.head _) (xm q_e5).2.2 (ht J))<|bM h fun e6 q_e6 h=>zo J (bT cZ br (.head _) (ht J) (ht J) q_e6)<|bM h fun st q_st h=>lP br J ay J q_e6 (so q_st) (ht J) (ht J)<|jw (iq (so q_st)) 0 J<|jw (iq (so q_st)) 45 J<|al<|ah<|ax J<|zo J (fm (ht J) hI)<|aY J<|aC<|af<|ai ?_;refine ah<|ax J<|zo J (zk (Qr hx1 (TM hv.2)) (ht J) hI)<|aY J<|aC ?_;exact aM (aJ (ih1 (i1+1) st (IntKind.i64.wrap (k+(1:Int))) ⟨Qq hx1,h⟩) (aQ J))
     ·refine aO<|af<|ai<|ah<|ax rfl<|zo rfl (zk (Qr hx1 (TM hv.2)) (ht rfl) hI)<|aY rfl<|aC ?_;exact aM (aJ (ih1 (i1+1) s1 k ⟨Qq hx1,h⟩) (aQ J))
   ·refine aO<|af<|ai<|ah<|ax rfl<|zo rfl (je (cx hx hN) rfl)<|aY rfl<|aC ?_;exact aM (aJ (ih (i+1) ⟨cw hx,h⟩) (aQ J))

theorem Qz(e:bp){R:(List Int)}(h:u5 e=some R):gk be 67 [tD bn e] false cC 3 R:=by
 refine gk.of Tryz.func67 J J J fun w0 S0=>an<|zo J (lK J)<|cm false cC 3<|zo J (aP tE)<|al<|ae<|an<|zo J (bj fG J J)<|bM h fun r q_r h=>zo J (aH Sl (Gx _ q_r) ⟨(ht J),bm⟩)<|zo J (uP J)<|al<|cz h J (fun h=>?_) (fun h=>?_)
 ·refine an<|cm false cC 3<|zo J (aP tE)<|al<|aj<|aa ?_;cases so h;exact iu J J
 ·refine dF<|an<|cm false cC 3<|zo J (aP tE)<|al<|ae<|an<|zo J (bw d3 cU J J)<|zo J (bj jZ J J)<|zo J (fU pi J)<|zo J (bk hI)<|al<|ap<|aT (k:=10) J fun hN=>bE<|dW<|pB ?_;refine aJ (me (Z:=fun ls i out l c=>(e.Nodes.drop i=ls)∧nk ls out=some R) (Of:=fun _ i out l c=>[cY cC 3 l c out]) (Gf:=fun _ i out l c=>[(3,mU l c out),(10,eV (aV) e.Nodes),(11,gA e.Nodes),(12,bY (i:Int))]) (fun i out l c h=>?_) (fun e1 tl ih i out l c h=>?_) e.Nodes 0 ny none 0 ⟨J,h⟩) (aQ J)
  ·obtain⟨hx,h⟩:=h
   refine av<|an<|zo J (eu J J)<|al<|ae<|bu (ht J) (dh hx)<|bf ?_;refine ac (ac (aI ?_));refine ai<|an<|ax rfl<|bM h fun Vp q_srt h=>?_;refine PA (n:=out.length) (ys:=Vp) Es ?_ Xt ?_ ?_ ?_ ?_ ?_
   ·rfl
   ·exact q_srt
   ·exact(ht J)
   ·rfl
   ·rfl
   intro hl
   refine IA hl 3 J<|IA hl 25 J<|al<|an<|ax J<|bM h fun r1 q_r1 h=>IF [cY cC 3 l c Vp] _ J Xs (UA l c _ q_r1) ⟨(ht J),bm⟩ J fun i1=>?_;refine(show RG _ _ _ _ [cY cC 3 (i1.h 0).1 (i1.h 0).2 r1] ((28,mU (i1.h 0).1 (i1.h 0).2 r1)::_)from ?_);refine aY J<|al<|aj ?_;cases so h;exact iu J J
  ·obtain⟨hx,h⟩:=h
   refine av<|an<|zo J (eu J J)<|al<|ae<|bt (ht J) (dg hx)<|dF<|ae<|ap<|an<|zo J (gM pi dk J J J (dl hx))<|zo J (bj dk J J)<|aZ (r:=aV) (x:=D4) dk (fun _=>kX _) J fun b=>aE dk J ay J (ht J) (ht J)<|aW 5 J<|al<|an<|zo J (bw iT ez J J) ?_;refine zo J (bj br J J)<|zo J (eQ J)<|al<|cz h J (fun h=>?_) (fun h=>?_)
   ·refine ah<|ax J<|zo J (bw lD fX J J)<|zo J (bj br J J)<|zo J (ba (r:=cC) (ys:=[e1.Col]) (xs:=[.tmp 21]) cZ br J J J J J ⟨(ht J),bm⟩)<|bM h fun out1 q_out1 h=>cn br J J J J cZ J J (ht J) (ht J) q_out1 fun l2 c2=>aY J<|aC<|af<|ai<|ah<|zo rfl (je (cx hx hN) rfl)<|ax rfl<|aC ?_;exact aM (aJ (ih (i+1) out1 l2 c2 ⟨cw hx,h⟩) (aQ J))
   ·refine aO<|af<|ai<|ah<|zo rfl (je (cx hx hN) rfl)<|ax rfl<|aC ?_;exact aM (aJ (ih (i+1) out l c ⟨cw hx,h⟩) (aQ J))
theorem B5(s:(List Int)){R:(List Int)}(h:dA s=some R):gk be 48 [ji s] false cC 3 R:=by
 refine gk.of Tryz.func48 J J J fun w0 S0=>an<|cm false cC 3<|zo J (aP tE)<|al<|ae<|an<|ax J<|IE cZ (ht J) J fun isnil hisnil=>al<|rA (ht J) (fun hc=>?_) (fun hc=>?_)
 ·have hx:=hisnil hc
  have h:some ny=some R:=by simpa [dA,ko,hx] using h
  refine an<|cm false cC 3<|zo J (aP tE)<|al<|aj<|aa ?_;cases so h;exact iu J J
 ·refine dF<|an<|gy (r:=cC) (ys:=ny) (xs:=[]) cZ br J J J J J trivial J fun l c=>ax J<|bM h fun x q_x h=>cn br J J J J cZ J J (ht J) (ht J) q_x fun l1 c1=>aY J<|al<|aj ?_;cases so h;exact iu J J
theorem V3{l:Option Nat}{c:Nat}{xs s:List Int}{lo:Int}{R:List Int}(hs:dw xs lo (xs.length:Int)=some s)(h:dA s=some R):jh be 48 [tV (nR 1 l c lo.toNat s.length)] [cY cC 3 l c xs] (fun i:OI=>mU (i.h 0).1 (i.h 0).2 R) (fun i=>[cY cC 3 (i.h 0).1 (i.h 0).2 R,cY cC 3 l c xs]):=by
 refine jh.of Tryz.func48 J J J fun w0 S0=>an<|zo J (aP tE)<|al<|ae<|an<|ax J<|Nn (r:=cC) cZ (.head _) hs (ht J) J fun isnil hisnil=>al<|rA (ht J) (fun hc=>?_) (fun hc=>?_)
 ·have hx:=hisnil hc
  have h:some ny=some R:=by simpa [dA,ko,hx] using h
  refine an<|cm false cC 3<|zo J (aP tE)<|al<|aj<|aa ?_;cases so h;exact eD J (oi none 0) J J (fun _ _ h=>h)
 ·refine dF<|an<|gy (r:=cC) (ys:=ny) (xs:=[]) cZ br J J J J J trivial J fun l1 c1=>ax J<|bM h fun x q_x h=>Kc br J J J J cZ J J (ht J) (.tail _ (.head _)) hs (ht J) q_x fun l2 c2=>aY J<|al<|aj ?_;cases so h;exact eD J (oi l2 c2) J J (fun _ _ h=>h)

theorem Ut(b:Nat)(l:Option Nat)(c:Nat)(stack:(List Int))(k:Int){R:(List Int)×(List Int)}(h:py stack k=some R):jh be 251 [bY k,tV (aN b 0)] [bx rV 29 b (aD l c stack.length),cY cC 3 l c stack] (fun i:OI=>ji R.1) (fun i=>[bx rV 29 b (aD (i.h 0).1 (i.h 0).2 R.2.length),cY cC 3 (i.h 0).1 (i.h 0).2 R.2]):=by
 refine jh.of Tryz.func251 J J J fun w0 S0=>an<|zo J (aP (show aL _ _ _ pD from lJ))<|al<|an<|zo J (uZ bV (.head _) (ht J))<|zo J (uZ bV (.head _) (ht J))<|zo J (fc cZ (.tail _ (.head _)) (ht J))<|ax J<|zo J (dn (ht J) (ht J))<|bM h fun y q_y h=>zo J (pY cZ br J (.tail _ (.head _)) (ht J) (ht J) q_y)<|qN (.tail _ (.head _)) q_y fun hv=>cg<|bM h fun r q_r h=>IF [cY cC 3 l c stack] _ J Pj (V3 q_y q_r) ⟨(ht J),bm⟩ J fun i=>?_;refine(show RG _ _ _ _ [cY cC 3 (i.h 0).1 (i.h 0).2 r,cY cC 3 l c stack,bx rV 29 b (aD l c stack.length)] _ from ?_);refine aY J<|al<|an<|zo J (uZ bV (.tail _ (.tail _ (.head _))) (ht J))<|zo J (uZ bV (.tail _ (.tail _ (.head _))) (ht J))<|zo J (fc cZ (.tail _ (.head _)) (ht J))<|ax J<|zo J (dn (ht J) (ht J))<|bM h fun y1 q_y1 h=>zo J (oE cZ br J (.tail _ (.head _)) (ht J) (ht J) q_y1)<|cg<|DF q_y1<|fD<|aE bV J ay J (ht J) (Bg (ht J))<|al<|an<|ax J<|aY J<|al ?_;refine aj<|bc<|gL<|eK 3 J<|eK 11 J<|eK 4 J<|eK 18 J<|mT 3 J<|aX<|aU<|aU ?_;cases so h;exact eD J (oi l c) J J (fun _ _ h=>h)

theorem Rc(e:bp)(do1:(bD→(List Int)→Option (Int×Int))){R:Int×Int}(h:pp e do1=some R):bh be 216 [tD bn e,(iB be PV PU (fun(x:bD×(List Int))=>do1 x.1 x.2))] (tT [bY R.1,bY R.2]):=by
 refine bh.of Tryz.func216 J J J fun w0 S0=>an<|zo J (lK J)<|zo J (dv)<|zo J (dv)<|al<|DV<|an<|cm false cC 3<|aZ (x:=aD none 0 0) bV (fun _=>TD) J fun b=>al<|an<|zo J (dv)<|al<|an<|zo J (Ot (cts:=[tV (aN b 0)]) (caps:=[.tmp 6]) ⟨(ht J),bm⟩)<|aY J ?_;refine al<|an<|zo J (dv)<|al<|ae<|DW<|ai<|ae<|an<|zo rfl (bw d3 cU rfl rfl)<|zo rfl (bj jZ rfl rfl)<|zo rfl (fU pi rfl)<|zo rfl (bk hI)<|al ?_;refine Ny (Z:=fun bad stack l c=>mP bad stack=some R) (Of:=fun bad stack l c=>[bx rV 29 b (aD l c stack.length),cY cC 3 l c stack]) (Gf:=fun bad stack l c=>[(6,tV (aN b 0)),(7,bY 0),(9,bY bad)]) (fun bad stack l c h=>?_) (fun K=>?_)
 ·skip
  refine ai<|ae<|an<|ax rfl<|zo rfl (uP rfl)<|al<|cz h rfl (fun h=>?_) (fun h=>?_)
  ·refine an<|ax J<|ax J<|aY J<|aY J<|al<|aj ?_;refine aa (p9 ?_);refine aX<|aX ?_;cases so h;exact cy J J J
  ·refine dF<|an<|zo J (uZ bV (.head _) (ht J))<|bM h fun e1 q_e1 h=>zo J (bT cZ br (.tail _ (.head _)) (ht J) hI q_e1)<|zo J (dj (r:=cC) (i:=(0:Int)) (foff:=0) br J J bO J (.tail _ (.head _)) q_e1 (ht J))<|aY J<|zo J (dv)<|al<|aj<|p9<|aX<|aX ?_;cases so h;exact cy J J J
 ·skip
  refine aT (k:=16) J fun hN=>bE ?_;refine aJ (tA (Z:=fun ls i bad1 stack1 l1 c1=>(e.Nodes.drop i=ls)∧ip do1 ls bad1 stack1=some R) (Of:=fun _ i bad1 stack1 l1 c1=>[bx rV 29 b (aD l1 c1 stack1.length),cY cC 3 l1 c1 stack1]) (Gf:=fun _ i bad1 stack1 l1 c1=>[(1,(iB be PV PU (fun(x:bD×(List Int))=>do1 x.1 x.2))),(6,tV (aN b 0)),(7,bY 0),(8,tC 251 [tV (aN b 0)]),(9,bY bad1),(16,eV (aV) e.Nodes),(17,gA e.Nodes),(18,bY (i:Int))]) (fun i bad1 stack1 l1 c1 h=>?_) (fun e2 tl ih i bad1 stack1 l1 c1 h=>?_) e.Nodes 0 (0:Int) ny none 0 ⟨J,h⟩) (aQ J)
  ·obtain⟨hx,h⟩:=h
   refine av<|an<|zo J (eu J J)<|al<|ae<|bu (ht J) (dh hx)<|bf ?_;refine ac (ac (aI ?_));exact bz (K bad1 stack1 l1 c1 h) (aQ J)
  ·obtain⟨hx,h⟩:=h
   refine av<|an<|zo J (eu J J)<|al<|ae<|bt (ht J) (dg hx)<|dF<|ae<|ap<|an<|zo J (gM pi dk J J J (dl hx))<|zo J (bj dk J J)<|aZ (r:=aV) (x:=D4) dk (fun _=>kX _) J fun b1=>aE dk J ay J (ht J) (ht J)<|aW 11 J<|al<|ae<|bM h fun r q_r h=>bM h fun r1 q_r1 h=>?_
   obtain⟨r2,q_r2,h⟩:=bs h
   refine rZ 12 [tc ((iB be PV PU (fun(x:bD×(List Int))=>do1 x.1 x.2))),tc (tD aV e2),tc (tC 251 [tV (aN b 0)]),tc (bF cC e2.Tag),tc (bY e2.Tag),tc (bY r),tc (ji r1.1),tc (tT [bY r2.1,bY r2.2]),tc (tT [bY r2.1,bY r2.2]),tc (bY r2.1),tc (bY r2.2),tc (bY r2.1)] [false,false,false,false,false,false,true,false,false,false,false,false] [fun _=>[bx rV 29 b (aD l1 c1 stack1.length),cY cC 3 l1 c1 stack1],fun sg=>[bx rV 29 b (aD ((sg 6).h 0).1 ((sg 6).h 0).2 r1.2.length),cY cC 3 ((sg 6).h 0).1 ((sg 6).h 0).2 r1.2]] J mixed J J J J J
    ⟨⟨[⟨1,fun _=>(iB be To Tm (fun(x:bD×(List Int))=>do1 x.1 x.2)),none⟩],_,0,1,J,⟨(fun _=>J),bm⟩,J,J,J,J,J,fun _ sg _ _=>ak J (cq J)⟩,
    ⟨⟨[⟨11,fun _=>bF aV e2,none⟩],_,0,1,J,⟨(fun _=>J),bm⟩,J,J,J,J,J,fun _ sg _ _=>ak J (bj dk J J)⟩,
    ⟨⟨[⟨8,fun _=>tC 251 [tV (aN b 0)],none⟩],_,0,0,J,⟨(fun _=>J),bm⟩,J,J,J,J,J,fun _ sg _ _=>ak J (cq J)⟩,
    ⟨⟨[⟨11,fun _=>bF aV e2,none⟩],_,0,0,J,⟨(fun _=>J),bm⟩,J,J,J,J,J,fun _ sg _ _=>ak J (bw iT ez J J)⟩,
    ⟨⟨[⟨26,fun _=>bF cC e2.Tag,some 3⟩],_,0,0,J,⟨(fun _=>J),bm⟩,J,J,J,J,J,fun _ sg _ _=>ak J (bj br J J)⟩,
    ⟨⟨[⟨27,fun _=>tD cC e2.Tag,some 4⟩],_,0,0,J,⟨(fun _=>J),bm⟩,J,J,J,J,J,fun _ sg _ _=>ak J (aH Tb (Lt _ q_r) ⟨(ht J),bm⟩)⟩,
    ⟨⟨[⟨25,fun _=>tC 251 [tV (aN b 0)],some 2⟩,⟨28,fun _=>tD cC r,some 5⟩],_,J,⟨(fun _=>J),(fun _=>J),bm⟩,J,J,J,fun sg=>ea J (EffOK.fr1 (EffOK.fr1 (Ng (xs:=[.tmp 28]) (ts:=[tD cC r]) (cts:=[tV (aN b 0)]) [bx rV 29 b (aD l1 c1 stack1.length),cY cC 3 l1 c1 stack1] _ J Ws (Ut b l1 c1 _ _ q_r1) (ht J) ⟨(ht J),bm⟩ (fun _=>J))))⟩,
    ⟨⟨[⟨23,fun _=>(iB be To Tm (fun(x:bD×(List Int))=>do1 x.1 x.2)),some 0⟩,⟨24,fun _=>tD aV e2,some 1⟩,⟨29,fun _=>tD sd r1.1,some 6⟩],_,1,1,J,⟨(fun _=>J),(fun _=>J),(fun _=>J),bm⟩,J,J,J,J,J,fun _ sg _ _=>ak J (jR (args:=To) (res:=Tm) (f:=(fun(x:bD×(List Int))=>do1 x.1 x.2)) (x:=((e2,r1.1):bD×(List Int))) (ht J) q_r2 ⟨(ht J),(ht J),bm⟩)⟩,
    ⟨⟨[⟨30,fun _=>tT [tD cC r2.1,tD cC r2.2],some 7⟩],_,1,1,J,⟨(fun _=>J),bm⟩,J,J,J,J,J,fun _ sg _ _=>ak J (cq J)⟩,
    ⟨⟨[⟨22,fun _=>tT [tD cC r2.1,tD cC r2.2],some 8⟩],_,1,1,J,⟨(fun _=>J),bm⟩,J,J,J,J,J,fun _ sg _ _=>ak J (iA J J)⟩,
    ⟨⟨[⟨22,fun _=>tT [tD cC r2.1,tD cC r2.2],some 8⟩],_,1,1,J,⟨(fun _=>J),bm⟩,J,J,J,J,J,fun _ sg _ _=>ak J (iA J J)⟩,
    ⟨⟨[⟨31,fun _=>tD cC r2.1,some 9⟩],_,1,1,J,⟨(fun _=>J),bm⟩,J,J,J,J,J,fun _ sg _ _=>ak J (yG J)⟩,
    bm⟩⟩⟩⟩⟩⟩⟩⟩⟩⟩⟩⟩ (fun sg=>?_)
   refine(show RG _ _ _ _ [bx rV 29 b (aD ((sg 6).h 0).1 ((sg 6).h 0).2 r1.2.length),cY cC 3 ((sg 6).h 0).1 ((sg 6).h 0).2 r1.2] _ from ?_);refine aY J<|al<|ae<|an<|ax J<|zo J (uP J)<|al<|cz h J (fun h=>?_) (fun h=>?_)
   ·refine an<|ax J<|aY J<|al<|bf ?_;refine ac (cF J (ac (ac (aI ?_))));exact bz (K r2.2 r1.2 ((sg 6).h 0).1 ((sg 6).h 0).2 h) (aQ J)
   ·refine dF<|ah<|zo J (uZ bV (.head _) (ht J))<|ax J<|zo J (ba (r:=cC) (ys:=[r2.1]) (xs:=[.tmp 37]) cZ br J J J J J ⟨(ht J),bm⟩)<|cg<|bM h fun l2 q_l2 h=>cn br J J J J cZ J J (ht J) (ht J) q_l2 fun l3 c2=>cg<|aE bV J ay J (ht J) (Bg (ht J))<|aC<|af<|ai<|ah<|zo rfl (je (cx hx hN) rfl)<|ax rfl<|aC ?_;exact aM (aJ (ih (i+1) bad1 l2 l3 c2 ⟨cw hx,h⟩) (aQ J))

theorem Lj(tag:Int){R:Bool}(h:sk tag=some R):bh be 213 [bY tag] (gD R):=by
 refine bh.of Tryz.func213 J J J fun w0 S0=>an<|zo J (ei)<|al<|an<|ax J<|zo J (eQ J)<|ax J<|bX J J (fun hg=>cq J)<|bX J J (fun hg=>cS (aG J hg) hI)<|bX J J (fun hg=>bk (aG J hg))<|dm J J J J (fun hg=>cq J)<|dm J J J J (fun hg=>fM (aG J hg) hI)<|bX J J (fun hg=>iP (aG J hg) (fun hb=>(aG J (oa hg hb))))<|zo J (lH J J)<|aY J<|al<|aj ?_;cases so h;exact aB J J

theorem Rb(kinds:(List Int))(n:bD)(l:(List Int)){R:Int×Int}(h:jW kinds n l=some R):bh be 217 [tD aV n,ji l,bF jd kinds] (tT [bY R.1,bY R.2]):=by
 refine bh.of Tryz.func217 J J J fun w0 S0=>an<|zo J (lK J)<|zo J (dv)<|zo J (dv)<|al<|an<|zo J (dv)<|al<|ae<|an<|ax J<|zo J (fU cZ J)<|zo J (bk hI)<|al<|ap<|aT (k:=12) J fun hN=>bE ?_;refine aJ (jY (Z:=fun ls i own=>(l.drop i=ls)∧mR kinds n ls own=some R) (Of:=fun _ i own=>[]) (Gf:=fun _ i own=>[(2,bF jd kinds),(3,bF aV n),(7,bY own),(12,ji l),(13,gA l),(14,bY (i:Int))]) (fun i own h=>?_) (fun e tl ih i own h=>?_) l 0 (0:Int) ⟨J,h⟩) (aQ J)
 ·obtain⟨hx,h⟩:=h
  refine av<|an<|zo J (eu J J)<|al<|ae<|bu (ht J) (dh hx)<|bf ?_;refine ac (ac (aI ?_));refine ai<|an<|ax rfl<|aY rfl<|al<|an<|zo rfl (dv)<|al<|ae<|ap<|an<|zo rfl (bw iT ez rfl rfl)<|zo rfl (bj br rfl rfl)<|zo rfl (eQ rfl)<|aY rfl<|al<|cz h rfl (fun h=>?_) (fun h=>?_)
  ·refine an<|zo J (bw sF lx J J)<|zo J (bw uD oO J J)<|zo J (bj br J J)<|aY J<|zo J (dv)<|al<|aj ?_;refine am (aa ?_);cases so h;exact cy J J J
  ·refine an<|zo J (bw iT ez J J)<|zo J (bj br J J)<|zo J (eQ J)<|aY J<|al<|cz h J (fun h=>?_) (fun h=>?_)
   ·refine an<|zo J (bj bV J J)<|zo J (bw lD fX J J)<|zo J (bj br J J)<|bM h fun e1 q_e1 h=>zo J (gM cZ br J J J q_e1)<|zo J (bj br J J)<|aY J<|zo J (dv)<|al<|aj ?_;refine am (aa ?_);cases so h;exact cy J J J
   ·refine an<|zo J (bw iT ez J J)<|zo J (bj br J J)<|bM h fun r q_r h=>zo J (aH SY (Lj _ q_r) ⟨(ht J),bm⟩)<|aY J<|al<|cz h J (fun h=>?_) (fun h=>?_)
    ·refine ah<|zo J (dv)<|zo J (dv)<|aC<|af<|ai<|ae<|an<|ax rfl<|zo rfl (eQ rfl)<|ax rfl<|bX rfl rfl (fun hg=>cq J)<|bX J J (fun hg=>cA (aG J hg) hI)<|bX J J (fun hg=>bk (aG J hg))<|dm J J J J (fun hg=>cq J)<|dm J J J J (fun hg=>cq J)<|dm J J J J (fun hg=>cA (aG J hg) (aG J hg))<|bX J J (fun hg=>iP (aG J hg) (fun hb=>(aG J (oa hg hb))))<|zo J (lH J J)<|al<|cz h J (fun h=>?_) (fun h=>?_)
     ·refine an<|zo J (dv)<|zo J (dv)<|al<|aj<|aa ?_;cases so h;exact cy J J J
     ·refine dF<|an<|ax J<|aY J<|zo J (dv)<|al<|aj ?_;cases so h;exact cy J J J
    ·refine an<|zo J (bw iT ez J J)<|zo J (bj br J J)<|zo J (eQ J)<|ax J<|bX J J (fun hg=>bw iT ez J J)<|bX J J (fun hg=>aF br J J (aG J hg))<|bX J J (fun hg=>bq (aG J hg) hI)<|zo J (lH J J)<|ax J<|bX J J (fun hg=>bw iT ez J J)<|bX J J (fun hg=>aF br J J (aG J hg))<|bX J J (fun hg=>bq (aG J hg) hI)<|zo J (lH J J)<|aY J<|al<|cz h J (fun h=>?_) (fun h=>?_)
     ·refine ah<|zo J (dv)<|aC<|af<|ai<|ae<|an<|ax rfl<|zo rfl (eQ rfl)<|ax rfl<|bX rfl rfl (fun hg=>cq J)<|bX J J (fun hg=>cA (aG J hg) hI)<|bX J J (fun hg=>bk (aG J hg))<|dm J J J J (fun hg=>cq J)<|dm J J J J (fun hg=>cq J)<|dm J J J J (fun hg=>cA (aG J hg) (aG J hg))<|bX J J (fun hg=>iP (aG J hg) (fun hb=>(aG J (oa hg hb))))<|zo J (lH J J)<|al<|cz h J (fun h=>?_) (fun h=>?_)
      ·refine an<|zo J (dv)<|zo J (dv)<|al<|aj<|aa ?_;cases so h;exact cy J J J
      ·refine dF<|an<|ax J<|aY J<|zo J (dv)<|al<|aj ?_;cases so h;exact cy J J J
     ·refine aO<|af<|ai<|ae<|an<|ax rfl<|zo rfl (eQ rfl)<|ax rfl<|bX rfl rfl (fun hg=>cq J)<|bX J J (fun hg=>cA (aG J hg) hI)<|bX J J (fun hg=>bk (aG J hg))<|dm J J J J (fun hg=>cq J)<|dm J J J J (fun hg=>cq J)<|dm J J J J (fun hg=>cA (aG J hg) (aG J hg))<|bX J J (fun hg=>iP (aG J hg) (fun hb=>(aG J (oa hg hb))))<|zo J (lH J J)<|al<|cz h J (fun h=>?_) (fun h=>?_)
      ·refine an<|zo J (dv)<|zo J (dv)<|al<|aj<|aa ?_;cases so h;exact cy J J J
      ·refine dF<|an<|ax J<|aY J<|zo J (dv)<|al<|aj ?_;cases so h;exact cy J J J
 ·obtain⟨hx,h⟩:=h
  refine av<|an<|zo J (eu J J)<|al<|ae<|bt (ht J) (dg hx)<|dF<|ae<|ap<|an<|zo J (gM cZ br J J J (dl hx))<|zo J (bj br J J)<|aY J<|al<|ap<|an<|ax J<|zo J (eQ J) ?_;refine ax J<|bX J J (fun hg=>cq J)<|bX J J (fun hg=>cq J)<|bX J J (fun hg=>bq (aG J hg) (aG J hg))<|zo J (lH J J)<|aY J<|al<|cz h J (fun h=>?_) (fun h=>?_)
  ·refine aO<|af<|af<|ai<|ah<|zo rfl (je (cx hx hN) rfl)<|ax rfl<|aC ?_;exact aM (aJ (ih (i+1) own ⟨cw hx,h⟩) (aQ J))
  ·refine an<|ax J<|zo J (eQ J)<|aY J<|al<|cz h J (fun h=>?_) (fun h=>?_)
   ·refine ah<|ax J<|aY J<|aC<|af<|af<|ai<|ah<|zo rfl (je (cx hx hN) rfl)<|ax rfl<|aC ?_;exact aM (aJ (ih (i+1) e ⟨cw hx,h⟩) (aQ J))
   ·refine ah<|zo J (dv)<|aC<|af<|af<|ai<|ah<|zo rfl (je (cx hx hN) rfl)<|ax rfl<|aC ?_;exact aM (aJ (ih (i+1) uQ ⟨cw hx,h⟩) (aQ J))

theorem B7(e:bp)(kinds:(List Int)){R:Int×Int}(h:nL e kinds=some R):bh be 160 [tD bn e,ji kinds] (tT [bY R.1,bY R.2]):=by
 refine bh.of Tryz.func160 J J J fun w0 S0=>an<|zo J (lK J)<|zo J (lK J)<|zo J (dv)<|zo J (dv)<|al<|ae<|an<|zo J (bj fG J J)<|bM h fun r q_r h=>zo J (aH Sl (Gx _ q_r) ⟨(ht J),bm⟩)<|aY J<|al<|an<|ax J<|zo J (uP J)<|al ?_;refine cz h J (fun h=>?_) (fun h=>?_)
 ·refine an<|ax J<|zo J (dv)<|aY J<|al<|aj<|aa ?_;cases so h;exact cy J J J
 ·refine dF<|ae<|an<|zo J (bj bV J J)<|zo J (fU cZ J)<|zo J (bk hI)<|al<|ap<|aT (k:=16) J fun hN=>bE ?_;refine aJ (dB (Z:=fun ls i=>(kinds.drop i=ls)∧qI e kinds ls=some R) (Of:=fun _ i=>[]) (Gf:=fun _ i=>[(2,bF bn e),(3,bF jd kinds),(16,ji kinds),(17,gA kinds),(18,bY (i:Int))]) (fun i h=>?_) (fun e1 tl ih i h=>?_) kinds 0 ⟨J,h⟩) (aQ J)
  ·obtain⟨hx,h⟩:=h
   refine av<|an<|zo J (eu J J)<|al<|ae<|bu (ht J) (dh hx)<|bf ?_;refine ac (ac (aI ?_));refine ai<|ae<|an<|zo rfl (bj fG rfl rfl)<|bM h fun r1 q_r1 h=>kC Yw (Qz _ q_r1) ⟨(ht J),bm⟩ J fun l c=>zo J (fc cZ (.head _) (ht J))<|zo J (bk hI)<|al<|ap<|jI (.head _) fun hN1=>bE ?_;refine aJ (dB (Z:=fun ls1 i1=>(r1.drop i1=ls1)∧nj e kinds ls1=some R) (Of:=fun _ i1=>[cY cC 3 l c r1]) (Gf:=fun _ i1=>[(2,bF bn e),(3,bF jd kinds),(30,mU l c r1),(31,gA r1),(32,bY (i1:Int))]) (fun i1 h=>?_) (fun e2 tl1 ih1 i1 h=>?_) r1 0 ⟨J,h⟩) (aQ J)
   ·obtain⟨hx1,h⟩:=h
    refine av<|an<|zo J (eu J J)<|al<|ae<|bu (ht J) (dh hx1)<|bf ?_;refine ac (ac (aI ?_));refine ai<|an<|zo rfl (bj fG rfl rfl)<|zo rfl ((show cO _ _ _ _ ((iB be PV PU (fun(x:bD×(List Int))=>(jW kinds) x.1 x.2)))from kQ (cts:=[bF jd kinds]) (caps:=[.tmp 3]) WE ⟨(ht J),bm⟩ (fun x y h=>Rb _ _ _ h)))<|bM h fun r2 q_r2 h=>zo J (aH WF (Rc _ _ q_r2) ⟨(ht J),(ht J),bm⟩)<|zo J (iA J J)<|zo J (iA J J)<|aY J<|aY J<|al<|aj<|aX ?_;cases so h;exact cy J J J
   ·obtain⟨hx1,h⟩:=h
    refine av<|an<|zo J (eu J J)<|al<|ae<|bt (ht J) (dg hx1)<|dF<|ae<|ap<|an<|zo J (bT cZ br (.head _) (ht J) (ht J) (dl hx1))<|zo J (dj (r:=cC) (i:=(i1:Int)) (foff:=0) br J J bO J (.head _) (dl hx1) (ht J))<|aY J<|al<|an<|ax J<|zo J (bj bV J J)<|zo J (fU cZ J) ?_;refine zo J (cS (ht J) (ht J))<|al<|cz h J (fun h=>?_) (fun h=>?_)
    ·refine an<|zo J (dv)<|zo J (dv)<|al<|aj ?_;refine am (aa (aa (am (aa ?_))));refine aX ?_;cases so h;exact cy J J J
    ·refine aO<|af<|ai<|ah<|zo rfl (je (cx hx1 hN1) rfl)<|ax rfl<|aC ?_;exact aM (aJ (ih1 (i1+1) ⟨cw hx1,h⟩) (aQ J))
  ·obtain⟨hx,h⟩:=h
   refine av<|an<|zo J (eu J J)<|al<|ae<|bt (ht J) (dg hx)<|dF<|ae<|ap<|an<|zo J (gM cZ br J J J (dl hx))<|zo J (bj br J J)<|aY J<|al<|an<|ax J<|zo J (eg (ht J) hI)<|ax J ?_;refine bX J J (fun hg=>cq J)<|bX J J (fun hg=>dZ (aG J hg) hI)<|zo J (lH J J)<|al<|cz h J (fun h=>?_) (fun h=>?_)
   ·refine an<|zo J (dv)<|zo J (dv)<|al<|aj ?_;refine am (aa (aa (am (aa ?_))));cases so h;exact cy J J J
   ·refine aO<|af<|ai<|ah<|zo rfl (je (cx hx hN) rfl)<|ax rfl<|aC ?_;exact aM (aJ (ih (i+1) ⟨cw hx,h⟩) (aQ J))

end Go.Proofs.YtmogpgcfognefaaGreatDoor

