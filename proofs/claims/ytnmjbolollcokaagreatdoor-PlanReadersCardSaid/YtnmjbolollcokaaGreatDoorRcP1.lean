/- cR of this claim: P1. -/
import Derived.Test.YtnmjbolollcokaaGreatDoorRcT
import Derived.Test.YtnmjbolollcokaaGreatDoorRcP0
set_option linter.all false
namespace Go.Proofs.YtnmjbolollcokaaGreatDoor
open Go
set_option maxRecDepth 100000

theorem BA(e:aT){R:Int}(h:nC e=some R):bA bc 199 [tD bz e] (cm R):=by
 refine bA.of Tryz.func199 J J J fun w0 S0=>aA<|zo J (l9 J)<|zo J (gv)<|ax<|af<|aA<|zo J (bH iG J J)<|bT h fun r q_r h=>zo J (aL QP (Kl _ q_r) ⟨(ht J),aV⟩)<|aJ J<|zo J (mA J J)<|zo J (mA J J)<|bN J<|bN J<|ax<|aA<|aJ J<|zo J (gj (ht J)) ?_;refine ax<|eE h J (fun h=>?_) (fun h=>?_)
 ·refine aA<|zo J (gv)<|ax<|av<|aa ?_;cases so h;exact ba J J
 ·refine fO<|aA<|zo J (gv)<|ax<|av ?_;cases so h;exact ba J J

theorem Su(l:Option Nat)(c:Nat)(s:(List Int)){R:(List Int)}(h:iQ s=some R):c9 bc 256 [rU l c s] [gu cn 3 l c s] (fun i:OI=>rU (i.h 0).1 (i.h 0).2 R) (fun i=>[gu cn 3 (i.h 0).1 (i.h 0).2 R]):=by
 refine c9.of Tryz.func256 J J J fun w0 S0=>aA<|cj false cn 3<|zo J (aS u7)<|ax<|af<|aA<|aJ J<|zo J (hX d8 (.tail _ (.head _)) (ht J))<|zo J (iA (ht J) hI)<|ax<|eE h J (fun h=>?_) (fun h=>?_)
 ·refine aA<|aJ J<|bN J<|ax<|av<|aa<|bb ?_;cases so h;exact tZ J (oi l c) J J (fun _ _ h=>h)
 ·refine fO<|af<|aA<|zo J (gv)<|ax<|aB<|lw (.tail _ (.head _)) fun hN=>bU<|sP ?_;refine aW (fM (Z:=fun ls i=>(s.drop i=ls)∧ee s ls i=some R) (Of:=fun _ i=>[gu cn 3 l c s]) (Gf:=fun _ i=>[(0,rU l c s),(3,cm (i:Int))]) (fun i h=>?_) (fun e tl ih i h=>?_) (s.drop (1)) 1 ⟨J,h⟩) (bu J)
  ·obtain⟨hx,h⟩:=h
   refine aC<|af<|aA<|aJ J<|aJ J<|zo J (hX d8 (.head _) (ht J))<|zo J (gP J J)<|ax<|bF (ht J) (d5 hx)<|bt ?_;refine ac (ac (aN ?_));refine aw<|aA<|aJ rfl<|bN rfl<|ax<|av ?_;cases so h;exact tZ J (oi l c) J J (fun _ _ h=>h)
  ·obtain⟨hx,h⟩:=h
   refine aC<|af<|aA<|aJ J<|aJ J<|zo J (hX d8 (.head _) (ht J))<|zo J (gP J J)<|ax<|bE (ht J) (dZ hx)<|fO<|af<|aB<|af<|bT h fun e1 q_e1 h=>?_
   refine iq (ts:=[_,_,_,_,_,_,_,_,_,_]) mixed J J
    ⟨gK 0 J J J (dw J),
    ⟨gK 3 J J J (dw J),
    ⟨gL 16 0 17 1 J J J J (cF d8 ce (.head _) (ht J) (ht J) (d4 hx)),
    ⟨dR 18 2 J J J (ge (r:=cn) (i:=(i:Int)) (foff:=0) ce J J bq J (.head _) (d4 hx) (ht J)),
    ⟨gK 0 J J J (dw J),
    ⟨gK 3 J J J (dw J),
    ⟨dR 21 5 J J J (ib (ht J) hI),
    ⟨gL 20 4 22 6 J J J J (cF d8 ce (.head _) (ht J) (ht J) q_e1),
    ⟨dR 23 7 J J J (ge (r:=cn) (i:=(IntKind.i64.wrap ((i:Int)-(1:Int)))) (foff:=0) ce J J bq J (.head _) q_e1 (ht J)),
    ⟨gL 19 3 24 8 J J J J (cO (ht J) (ht J)),
    aV⟩⟩⟩⟩⟩⟩⟩⟩⟩⟩ ?_
   refine aw<|eE h rfl (fun h=>?_) (fun h=>?_)
   ·refine aA<|aJ J<|aJ J<|bT h fun y q_y h=>zo J (qe d8 ce J (.head _) (ht J) (ht J) q_y)<|oO (.head _) q_y fun hv=>bN J<|ax<|af<|aA<|zo J (gv)<|ax<|aB<|bU ?_;refine aW (KJ (Z:=fun k1 i1 s1 k=>(y.length-i1=k1)∧dy i y k1 i1 s1 k=some R) (Of:=fun _ i1 s1 k=>[gu cn 3 l c s1]) (Gf:=fun _ i1 s1 k=>[(0,rU l c s1),(3,cm k),(4,tV (md 1 l c (i:Int).toNat y.length)),(5,cm (i1:Int))]) (fun i1 s1 k h=>?_) (fun k2 ih1 i1 s1 k h=>?_) (y.length-1) 1 s (i:Int) ⟨J,h⟩) (bu J)
    ·obtain⟨hx1,h⟩:=h
     refine aC<|af<|aA<|aJ J<|aJ J<|zo J (J6 d8 hv.1 (ht J))<|zo J (gP J J)<|ax<|bF (ht J) (RN hx1)<|bt ?_;refine ac (ac (aN ?_));refine aw<|aA<|aJ rfl<|aJ rfl<|bT h fun y1 q_y1 h=>zo J (qe d8 ce J (.head _) (ht J) (ht J) q_y1)<|oO (.head _) q_y1 fun hv1=>bT h fun cl q_cl h=>Mh ce J J d8 (fun _=>J) J q_y1 (ht J) (so q_cl)<|fI (Ew q_y1 (so q_cl)) 0 J<|fI (Ew q_y1 (so q_cl)) 54 J<|ax<|aA<|aJ J<|aJ J<|bT h fun y2 q_y2 h=>zo J (qf d8 ce J (.head _) (ht J) (ht J) q_y2)<|CP q_y2<|bN J<|ax ?_;refine av ?_;refine aF (aa (aa (aF (aa ?_))));cases so h;exact tZ J (oi l c) J J (fun _ _ h=>h)
    ·obtain⟨hx1,h⟩:=h
     refine aC<|af<|aA<|aJ J<|aJ J<|zo J (J6 d8 hv.1 (ht J))<|zo J (gP J J)<|ax<|bE (ht J) (RM hx1)<|fO<|af<|aB<|af<|bT h fun e3 q_e3 h=>bT h fun e4 q_e4 h=>?_
     refine iq (ts:=[_,_,_,_,_,_,_,_,_,_]) mixed J J
      ⟨gK 4 J J J (dw J),
      ⟨gK 5 J J J (dw J),
      ⟨gL 35 0 36 1 J J J J (ta d8 ce J (.head _) (zL q_y) (ht J) (ht J) q_e3),
      ⟨dR 37 2 J J J (ge (r:=cn) (i:=((i:Int)+(i1:Int))) (foff:=0) ce J J bq J (.head _) (wE q_e3).2.2 (ht J)),
      ⟨gK 4 J J J (dw J),
      ⟨gK 5 J J J (dw J),
      ⟨dR 40 5 J J J (ib (ht J) hI),
      ⟨gL 39 4 41 6 J J J J (ta d8 ce J (.head _) (zL q_y) (ht J) (ht J) q_e4),
      ⟨dR 42 7 J J J (ge (r:=cn) (i:=((i:Int)+(IntKind.i64.wrap ((i1:Int)-(1:Int))))) (foff:=0) ce J J bq J (.head _) (wE q_e4).2.2 (ht J)),
      ⟨gL 38 3 43 8 J J J J (fE (ht J) (ht J)),
      aV⟩⟩⟩⟩⟩⟩⟩⟩⟩⟩ ?_
     refine aw<|eE h rfl (fun h=>?_) (fun h=>?_)
     ·refine aA<|aJ J<|aJ J<|aJ J<|aJ J<|bT h fun e5 q_e5 h=>zo J (ta d8 ce J (.head _) (zL q_y) (ht J) (ht J) q_e5)<|zo J (ge (r:=cn) (i:=((i:Int)+(i1:Int))) (foff:=0) ce J J bq J (.head _) (wE q_e5).2.2 (ht J))<|bT h fun e6 q_e6 h=>zo J (cF d8 ce (.head _) (ht J) (ht J) q_e6)<|bT h fun st q_st h=>mL ce J aj J q_e6 (so q_st) (ht J) (ht J)<|fI (g9 (so q_st)) 0 J<|fI (g9 (so q_st)) 45 J<|ax<|am<|aJ J<|zo J (pt (ht J) hI)<|bN J<|aR<|an<|aw ?_;refine am<|aJ J<|zo J (wA (Nl hx1 (TB hv.2)) (ht J) hI)<|bN J<|aR ?_;exact bj (aW (ih1 (i1+1) st (IntKind.i64.wrap (k+(1:Int))) ⟨Nk hx1,h⟩) (bu J))
     ·refine bO<|an<|aw<|am<|aJ rfl<|zo rfl (wA (Nl hx1 (TB hv.2)) (ht rfl) hI)<|bN rfl<|aR ?_;exact bj (aW (ih1 (i1+1) s1 k ⟨Nk hx1,h⟩) (bu J))
   ·refine bO<|an<|aw<|am<|aJ rfl<|zo rfl (nF (dv hx hN) rfl)<|bN rfl<|aR ?_;exact bj (aW (ih (i+1) ⟨du hx,h⟩) (bu J))

theorem NQ(e:aT){R:(List Int)}(h:tN e=some R):ja bc 239 [tD bz e] false cn 3 R:=by
 refine ja.of Tryz.func239 J J J fun w0 S0=>aA<|zo J (l9 J)<|cj false cn 3<|zo J (aS u7)<|ax<|af<|aA<|zo J (bH iG J J)<|bT h fun r q_r h=>zo J (aL Kv (BA _ q_r) ⟨(ht J),aV⟩)<|zo J (H8 J)<|ax<|eE h J (fun h=>?_) (fun h=>?_)
 ·refine aA<|cj false cn 3<|zo J (aS u7)<|ax<|av<|aa ?_;cases so h;exact ir J J
 ·refine fO<|aA<|cj false cn 3<|zo J (aS u7)<|ax<|af<|aA<|zo J (cQ fW db J J)<|zo J (bH mR J J)<|zo J (lx l8 J)<|zo J (bJ hI)<|ax<|aB<|bl (k:=10) J fun hN=>bU<|ip<|sP ?_;refine aW (oP (Z:=fun ls i out l c=>(e.Nodes.drop i=ls)∧ll ls out=some R) (Of:=fun _ i out l c=>[gu cn 3 l c out]) (Gf:=fun _ i out l c=>[(3,rU l c out),(10,fZ (aY) e.Nodes),(11,jB e.Nodes),(12,cm (i:Int))]) (fun i out l c h=>?_) (fun e1 tl ih i out l c h=>?_) e.Nodes 0 ra none 0 ⟨J,h⟩) (bu J)
  ·obtain⟨hx,h⟩:=h
   refine aC<|aA<|zo J (gP J J)<|ax<|af<|bF (ht J) (d5 hx)<|bt ?_;refine ac (ac (aN ?_));refine aw<|aA<|aJ rfl<|bT h fun Tx q_srt h=>?_;refine Ow (n:=out.length) (ys:=Tx) Dm ?_ Ue ?_ ?_ ?_ ?_ ?_
   ·rfl
   ·exact q_srt
   ·exact(ht J)
   ·rfl
   ·rfl
   intro hl
   refine HS hl 3 J<|HS hl 25 J<|ax<|aA<|aJ J<|bT h fun r1 q_r1 h=>HV [gu cn 3 l c Tx] _ J Ud (Su l c _ q_r1) ⟨(ht J),aV⟩ J fun i1=>?_;refine(show RG _ _ _ _ [gu cn 3 (i1.h 0).1 (i1.h 0).2 r1] ((28,rU (i1.h 0).1 (i1.h 0).2 r1)::_)from ?_);refine bN J<|ax<|av ?_;cases so h;exact ir J J
  ·obtain⟨hx,h⟩:=h
   refine aC<|aA<|zo J (gP J J)<|ax<|af<|bE (ht J) (dZ hx)<|fO<|af<|aB<|aA<|zo J (nY l8 dS J J J (d4 hx))<|zo J (bH dS J J)<|bh (r:=aY) (x:=Gh) dS (fun _=>n7 _) J fun b=>ap dS J aj J (ht J) (ht J)<|bf 5 J<|ax<|aA<|zo J (cQ kz fV J J) ?_;refine zo J (bH ce J J)<|zo J (mU J)<|ax<|eE h J (fun h=>?_) (fun h=>?_)
   ·refine am<|aJ J<|zo J (cQ oJ ju J J)<|zo J (bH ce J J)<|zo J (aQ (r:=cn) (ys:=[e1.Col]) (xs:=[.tmp 21]) d8 ce J J J J J ⟨(ht J),aV⟩)<|bT h fun cx q_out1 h=>dJ ce J J J J d8 J J (ht J) (ht J) q_out1 fun l2 c2=>bN J<|aR<|an<|aw<|am<|zo rfl (nF (dv hx hN) rfl)<|aJ rfl<|aR ?_;exact bj (aW (ih (i+1) cx l2 c2 ⟨du hx,h⟩) (bu J))
   ·refine bO<|an<|aw<|am<|zo rfl (nF (dv hx hN) rfl)<|aJ rfl<|aR ?_;exact bj (aW (ih (i+1) out l c ⟨du hx,h⟩) (bu J))
theorem Bz(s:(List Int)){R:(List Int)}(h:bI s=some R):ja bc 56 [fP s] false cn 3 R:=by
 refine ja.of Tryz.func56 J J J fun w0 S0=>aA<|cj false cn 3<|zo J (aS u7)<|ax<|af<|aA<|aJ J<|tR d8 (ht J) J fun isnil hisnil=>ax<|oS (ht J) (fun hc=>?_) (fun hc=>?_)
 ·have hx:=hisnil hc
  have h:some ra=some R:=by simpa [bI,iC,hx] using h
  refine aA<|cj false cn 3<|zo J (aS u7)<|ax<|av<|aa ?_;cases so h;exact ir J J
 ·refine fO<|aA<|kY (r:=cn) (ys:=ra) (xs:=[]) d8 ce J J J J J trivial J fun l c=>aJ J<|bT h fun x q_x h=>dJ ce J J J J d8 J J (ht J) (ht J) q_x fun l1 c1=>bN J<|ax<|av ?_;cases so h;exact ir J J
theorem FI(s:(List Int)){R:(List Int)}(h:bI s=some R):bA bc 56 [fP s] (fP R):=(Bz _ h).spec

theorem TZ{l:Option Nat}{c:Nat}{xs s:List Int}{lo:Int}{R:List Int}(hs:d6 xs lo (xs.length:Int)=some s)(h:bI s=some R):c9 bc 56 [tV (md 1 l c lo.toNat s.length)] [gu cn 3 l c xs] (fun i:OI=>rU (i.h 0).1 (i.h 0).2 R) (fun i=>[gu cn 3 (i.h 0).1 (i.h 0).2 R,gu cn 3 l c xs]):=by
 refine c9.of Tryz.func56 J J J fun w0 S0=>aA<|zo J (aS u7)<|ax<|af<|aA<|aJ J<|Mf (r:=cn) d8 (.head _) hs (ht J) J fun isnil hisnil=>ax<|oS (ht J) (fun hc=>?_) (fun hc=>?_)
 ·have hx:=hisnil hc
  have h:some ra=some R:=by simpa [bI,iC,hx] using h
  refine aA<|cj false cn 3<|zo J (aS u7)<|ax<|av<|aa ?_;cases so h;exact tZ J (oi none 0) J J (fun _ _ h=>h)
 ·refine fO<|aA<|kY (r:=cn) (ys:=ra) (xs:=[]) d8 ce J J J J J trivial J fun l1 c1=>aJ J<|bT h fun x q_x h=>JD ce J J J J d8 J J (ht J) (.tail _ (.head _)) hs (ht J) q_x fun l2 c2=>bN J<|ax<|av ?_;cases so h;exact tZ J (oi l2 c2) J J (fun _ _ h=>h)

theorem Sr(b:Nat)(l:Option Nat)(c:Nat)(stack:(List Int))(k:Int){R:(List Int)×(List Int)}(h:nj stack k=some R):c9 bc 257 [cm k,tV (aE b 0)] [bx rV 42 b (aD l c stack.length),gu cn 3 l c stack] (fun i:OI=>fP R.1) (fun i=>[bx rV 42 b (aD (i.h 0).1 (i.h 0).2 R.2.length),gu cn 3 (i.h 0).1 (i.h 0).2 R.2]):=by
 refine c9.of Tryz.func257 J J J fun w0 S0=>aA<|zo J (aS (show aK _ _ _ o8 from lU))<|ax<|aA<|zo J (qh cS (.head _) (ht J))<|zo J (qh cS (.head _) (ht J))<|zo J (hX d8 (.tail _ (.head _)) (ht J))<|aJ J<|zo J (ib (ht J) (ht J))<|bT h fun y q_y h=>zo J (qe d8 ce J (.tail _ (.head _)) (ht J) (ht J) q_y)<|oO (.tail _ (.head _)) q_y fun hv=>cb<|bT h fun r q_r h=>HV [gu cn 3 l c stack] _ J HM (TZ q_y q_r) ⟨(ht J),aV⟩ J fun i=>?_;refine(show RG _ _ _ _ [gu cn 3 (i.h 0).1 (i.h 0).2 r,gu cn 3 l c stack,bx rV 42 b (aD l c stack.length)] _ from ?_);refine bN J<|ax<|aA<|zo J (qh cS (.tail _ (.tail _ (.head _))) (ht J))<|zo J (qh cS (.tail _ (.tail _ (.head _))) (ht J))<|zo J (hX d8 (.tail _ (.head _)) (ht J))<|aJ J<|zo J (ib (ht J) (ht J))<|bT h fun y1 q_y1 h=>zo J (qf d8 ce J (.tail _ (.head _)) (ht J) (ht J) q_y1)<|cb<|CP q_y1<|eI<|ap cS J aj J (ht J) (OK (ht J))<|ax<|aA<|aJ J<|bN J<|ax ?_;refine av<|au<|jL<|da 3 J<|da 11 J<|da 4 J<|da 18 J<|kU 3 J<|bb<|cu<|cu ?_;cases so h;exact tZ J (oi l c) J J (fun _ _ h=>h)

theorem PB(e:aT)(do1:(aU→(List Int)→Option (Int×Int))){R:Int×Int}(h:nc e do1=some R):bA bc 240 [tD bz e,(iH bc OR OQ (fun(x:aU×(List Int))=>do1 x.1 x.2))] (tT [cm R.1,cm R.2]):=by
 refine bA.of Tryz.func240 J J J fun w0 S0=>aA<|zo J (l9 J)<|zo J (gv)<|zo J (gv)<|ax<|Oz<|aA<|cj false cn 3<|bh (x:=aD none 0 0) cS (fun _=>MW) J fun b=>ax<|aA<|zo J (gv)<|ax<|aA<|zo J (Nf (cts:=[tV (aE b 0)]) (caps:=[.tmp 6]) ⟨(ht J),aV⟩)<|bN J ?_;refine ax<|aA<|zo J (gv)<|ax<|af<|OA<|aw<|af<|aA<|zo rfl (cQ fW db rfl rfl)<|zo rfl (bH mR rfl rfl)<|zo rfl (lx l8 rfl)<|zo rfl (bJ hI)<|ax ?_;refine Mn (Z:=fun bad stack l c=>kN bad stack=some R) (Of:=fun bad stack l c=>[bx rV 42 b (aD l c stack.length),gu cn 3 l c stack]) (Gf:=fun bad stack l c=>[(6,tV (aE b 0)),(7,cm 0),(9,cm bad)]) (fun bad stack l c h=>?_) (fun K=>?_)
 ·skip
  refine aw<|af<|aA<|aJ rfl<|zo rfl (H8 rfl)<|ax<|eE h rfl (fun h=>?_) (fun h=>?_)
  ·refine aA<|aJ J<|aJ J<|bN J<|bN J<|ax<|av ?_;refine aa (EI ?_);refine bb<|bb ?_;cases so h;exact df J J J
  ·refine fO<|aA<|zo J (qh cS (.head _) (ht J))<|bT h fun e1 q_e1 h=>zo J (cF d8 ce (.tail _ (.head _)) (ht J) hI q_e1)<|zo J (ge (r:=cn) (i:=(0:Int)) (foff:=0) ce J J bq J (.tail _ (.head _)) q_e1 (ht J))<|bN J<|zo J (gv)<|ax<|av<|EI<|bb<|bb ?_;cases so h;exact df J J J
 ·skip
  refine bl (k:=16) J fun hN=>bU ?_;refine aW (wh (Z:=fun ls i bad1 stack1 l1 c1=>(e.Nodes.drop i=ls)∧gq do1 ls bad1 stack1=some R) (Of:=fun _ i bad1 stack1 l1 c1=>[bx rV 42 b (aD l1 c1 stack1.length),gu cn 3 l1 c1 stack1]) (Gf:=fun _ i bad1 stack1 l1 c1=>[(1,(iH bc OR OQ (fun(x:aU×(List Int))=>do1 x.1 x.2))),(6,tV (aE b 0)),(7,cm 0),(8,tC 257 [tV (aE b 0)]),(9,cm bad1),(16,fZ (aY) e.Nodes),(17,jB e.Nodes),(18,cm (i:Int))]) (fun i bad1 stack1 l1 c1 h=>?_) (fun e2 tl ih i bad1 stack1 l1 c1 h=>?_) e.Nodes 0 (0:Int) ra none 0 ⟨J,h⟩) (bu J)
  ·obtain⟨hx,h⟩:=h
   refine aC<|aA<|zo J (gP J J)<|ax<|af<|bF (ht J) (d5 hx)<|bt ?_;refine ac (ac (aN ?_));exact cE (K bad1 stack1 l1 c1 h) (bu J)
  ·obtain⟨hx,h⟩:=h
   refine aC<|aA<|zo J (gP J J)<|ax<|af<|bE (ht J) (dZ hx)<|fO<|af<|aB<|aA<|zo J (nY l8 dS J J J (d4 hx))<|zo J (bH dS J J)<|bh (r:=aY) (x:=Gh) dS (fun _=>n7 _) J fun b1=>ap dS J aj J (ht J) (ht J)<|bf 11 J<|ax<|af<|bT h fun r q_r h=>bT h fun r1 q_r1 h=>?_
   obtain⟨r2,q_r2,h⟩:=bs h
   refine j6 12 [tc ((iH bc OR OQ (fun(x:aU×(List Int))=>do1 x.1 x.2))),tc (tD aY e2),tc (tC 257 [tV (aE b 0)]),tc (bw cn e2.Tag),tc (cm e2.Tag),tc (cm r),tc (fP r1.1),tc (tT [cm r2.1,cm r2.2]),tc (tT [cm r2.1,cm r2.2]),tc (cm r2.1),tc (cm r2.2),tc (cm r2.1)] [false,false,false,false,false,false,true,false,false,false,false,false] [fun _=>[bx rV 42 b (aD l1 c1 stack1.length),gu cn 3 l1 c1 stack1],fun sg=>[bx rV 42 b (aD ((sg 6).h 0).1 ((sg 6).h 0).2 r1.2.length),gu cn 3 ((sg 6).h 0).1 ((sg 6).h 0).2 r1.2]] J mixed J J J J J
    ⟨⟨[⟨1,fun _=>(iH bc Rb Q9 (fun(x:aU×(List Int))=>do1 x.1 x.2)),none⟩],_,0,1,J,⟨(fun _=>J),aV⟩,J,J,J,J,J,fun _ sg _ _=>ae J (dw J)⟩,
    ⟨⟨[⟨11,fun _=>bw aY e2,none⟩],_,0,1,J,⟨(fun _=>J),aV⟩,J,J,J,J,J,fun _ sg _ _=>ae J (bH dS J J)⟩,
    ⟨⟨[⟨8,fun _=>tC 257 [tV (aE b 0)],none⟩],_,0,0,J,⟨(fun _=>J),aV⟩,J,J,J,J,J,fun _ sg _ _=>ae J (dw J)⟩,
    ⟨⟨[⟨11,fun _=>bw aY e2,none⟩],_,0,0,J,⟨(fun _=>J),aV⟩,J,J,J,J,J,fun _ sg _ _=>ae J (cQ kz fV J J)⟩,
    ⟨⟨[⟨26,fun _=>bw cn e2.Tag,some 3⟩],_,0,0,J,⟨(fun _=>J),aV⟩,J,J,J,J,J,fun _ sg _ _=>ae J (bH ce J J)⟩,
    ⟨⟨[⟨27,fun _=>tD cn e2.Tag,some 4⟩],_,0,0,J,⟨(fun _=>J),aV⟩,J,J,J,J,J,fun _ sg _ _=>ae J (aL QN (Kj _ q_r) ⟨(ht J),aV⟩)⟩,
    ⟨⟨[⟨25,fun _=>tC 257 [tV (aE b 0)],some 2⟩,⟨28,fun _=>tD cn r,some 5⟩],_,J,⟨(fun _=>J),(fun _=>J),aV⟩,J,J,J,fun sg=>cy J (EffOK.fr1 (EffOK.fr1 (LS (xs:=[.tmp 28]) (ts:=[tD cn r]) (cts:=[tV (aE b 0)]) [bx rV 42 b (aD l1 c1 stack1.length),gu cn 3 l1 c1 stack1] _ J Uc (Sr b l1 c1 _ _ q_r1) (ht J) ⟨(ht J),aV⟩ (fun _=>J))))⟩,
    ⟨⟨[⟨23,fun _=>(iH bc Rb Q9 (fun(x:aU×(List Int))=>do1 x.1 x.2)),some 0⟩,⟨24,fun _=>tD aY e2,some 1⟩,⟨29,fun _=>tD n8 r1.1,some 6⟩],_,1,1,J,⟨(fun _=>J),(fun _=>J),(fun _=>J),aV⟩,J,J,J,J,J,fun _ sg _ _=>ae J (jV (args:=Rb) (res:=Q9) (f:=(fun(x:aU×(List Int))=>do1 x.1 x.2)) (x:=((e2,r1.1):aU×(List Int))) (ht J) q_r2 ⟨(ht J),(ht J),aV⟩)⟩,
    ⟨⟨[⟨30,fun _=>tT [tD cn r2.1,tD cn r2.2],some 7⟩],_,1,1,J,⟨(fun _=>J),aV⟩,J,J,J,J,J,fun _ sg _ _=>ae J (dw J)⟩,
    ⟨⟨[⟨22,fun _=>tT [tD cn r2.1,tD cn r2.2],some 8⟩],_,1,1,J,⟨(fun _=>J),aV⟩,J,J,J,J,J,fun _ sg _ _=>ae J (mA J J)⟩,
    ⟨⟨[⟨22,fun _=>tT [tD cn r2.1,tD cn r2.2],some 8⟩],_,1,1,J,⟨(fun _=>J),aV⟩,J,J,J,J,J,fun _ sg _ _=>ae J (mA J J)⟩,
    ⟨⟨[⟨31,fun _=>tD cn r2.1,some 9⟩],_,1,1,J,⟨(fun _=>J),aV⟩,J,J,J,J,J,fun _ sg _ _=>ae J (BQ J)⟩,
    aV⟩⟩⟩⟩⟩⟩⟩⟩⟩⟩⟩⟩ (fun sg=>?_)
   refine(show RG _ _ _ _ [bx rV 42 b (aD ((sg 6).h 0).1 ((sg 6).h 0).2 r1.2.length),gu cn 3 ((sg 6).h 0).1 ((sg 6).h 0).2 r1.2] _ from ?_);refine bN J<|ax<|af<|aA<|aJ J<|zo J (H8 J)<|ax<|eE h J (fun h=>?_) (fun h=>?_)
   ·refine aA<|aJ J<|bN J<|ax<|bt ?_;refine ac (cz J (ac (ac (aN ?_))));exact cE (K r2.2 r1.2 ((sg 6).h 0).1 ((sg 6).h 0).2 h) (bu J)
   ·refine fO<|am<|zo J (qh cS (.head _) (ht J))<|aJ J<|zo J (aQ (r:=cn) (ys:=[r2.1]) (xs:=[.tmp 37]) d8 ce J J J J J ⟨(ht J),aV⟩)<|cb<|bT h fun l2 q_l2 h=>dJ ce J J J J d8 J J (ht J) (ht J) q_l2 fun l3 c2=>cb<|ap cS J aj J (ht J) (OK (ht J))<|aR<|an<|aw<|am<|zo rfl (nF (dv hx hN) rfl)<|aJ rfl<|aR ?_;exact bj (aW (ih (i+1) bad1 l2 l3 c2 ⟨du hx,h⟩) (bu J))

theorem Km(tag:Int){R:Bool}(h:qz tag=some R):bA bc 202 [cm tag] (gX R):=by
 refine bA.of Tryz.func202 J J J fun w0 S0=>aA<|zo J (iO)<|ax<|aA<|aJ J<|zo J (mU J)<|aJ J<|dQ J J (fun hg=>dw J)<|dQ J J (fun hg=>fF (bB J hg) hI)<|dQ J J (fun hg=>bJ (bB J hg))<|j4 J J J J (fun hg=>dw J)<|j4 J J J J (fun hg=>lT (bB J hg) hI)<|dQ J J (fun hg=>pq (bB J hg) (fun hb=>(bB J (Dl hg hb))))<|zo J (ua J J)<|bN J<|ax<|av ?_;cases so h;exact ba J J

theorem PA(kinds:(List Int))(n:aU)(l:(List Int)){R:Int×Int}(h:ie kinds n l=some R):bA bc 241 [tD aY n,fP l,bw fk kinds] (tT [cm R.1,cm R.2]):=by
 refine bA.of Tryz.func241 J J J fun w0 S0=>aA<|zo J (l9 J)<|zo J (gv)<|zo J (gv)<|ax<|aA<|zo J (gv)<|ax<|af<|aA<|aJ J<|zo J (lx d8 J)<|zo J (bJ hI)<|ax<|aB<|bl (k:=12) J fun hN=>bU ?_;refine aW (nd (Z:=fun ls i own=>(l.drop i=ls)∧kP kinds n ls own=some R) (Of:=fun _ i own=>[]) (Gf:=fun _ i own=>[(2,bw fk kinds),(3,bw aY n),(7,cm own),(12,fP l),(13,jB l),(14,cm (i:Int))]) (fun i own h=>?_) (fun e tl ih i own h=>?_) l 0 (0:Int) ⟨J,h⟩) (bu J)
 ·obtain⟨hx,h⟩:=h
  refine aC<|aA<|zo J (gP J J)<|ax<|af<|bF (ht J) (d5 hx)<|bt ?_;refine ac (ac (aN ?_));refine aw<|aA<|aJ rfl<|bN rfl<|ax<|aA<|zo rfl (gv)<|ax<|af<|aB<|aA<|zo rfl (cQ kz fV rfl rfl)<|zo rfl (bH ce rfl rfl)<|zo rfl (mU rfl)<|bN rfl<|ax<|eE h rfl (fun h=>?_) (fun h=>?_)
  ·refine aA<|zo J (cQ y5 rC J J)<|zo J (cQ wH uI J J)<|zo J (bH ce J J)<|bN J<|zo J (gv)<|ax<|av ?_;refine aF (aa ?_);cases so h;exact df J J J
  ·refine aA<|zo J (cQ kz fV J J)<|zo J (bH ce J J)<|zo J (mU J)<|bN J<|ax<|eE h J (fun h=>?_) (fun h=>?_)
   ·refine aA<|zo J (bH cS J J)<|zo J (cQ oJ ju J J)<|zo J (bH ce J J)<|bT h fun e1 q_e1 h=>zo J (nY d8 ce J J J q_e1)<|zo J (bH ce J J)<|bN J<|zo J (gv)<|ax<|av ?_;refine aF (aa ?_);cases so h;exact df J J J
   ·refine aA<|zo J (cQ kz fV J J)<|zo J (bH ce J J)<|bT h fun r q_r h=>zo J (aL QQ (Km _ q_r) ⟨(ht J),aV⟩)<|bN J<|ax<|eE h J (fun h=>?_) (fun h=>?_)
    ·refine am<|zo J (gv)<|zo J (gv)<|aR<|an<|aw<|af<|aA<|aJ rfl<|zo rfl (mU rfl)<|aJ rfl<|dQ rfl rfl (fun hg=>dw J)<|dQ J J (fun hg=>fE (bB J hg) hI)<|dQ J J (fun hg=>bJ (bB J hg))<|j4 J J J J (fun hg=>dw J)<|j4 J J J J (fun hg=>dw J)<|j4 J J J J (fun hg=>fE (bB J hg) (bB J hg))<|dQ J J (fun hg=>pq (bB J hg) (fun hb=>(bB J (Dl hg hb))))<|zo J (ua J J)<|ax<|eE h J (fun h=>?_) (fun h=>?_)
     ·refine aA<|zo J (gv)<|zo J (gv)<|ax<|av<|aa ?_;cases so h;exact df J J J
     ·refine fO<|aA<|aJ J<|bN J<|zo J (gv)<|ax<|av ?_;cases so h;exact df J J J
    ·refine aA<|zo J (cQ kz fV J J)<|zo J (bH ce J J)<|zo J (mU J)<|aJ J<|dQ J J (fun hg=>cQ kz fV J J)<|dQ J J (fun hg=>bD ce J J (bB J hg))<|dQ J J (fun hg=>cO (bB J hg) hI)<|zo J (ua J J)<|aJ J<|dQ J J (fun hg=>cQ kz fV J J)<|dQ J J (fun hg=>bD ce J J (bB J hg))<|dQ J J (fun hg=>cO (bB J hg) hI)<|zo J (ua J J)<|bN J<|ax<|eE h J (fun h=>?_) (fun h=>?_)
     ·refine am<|zo J (gv)<|aR<|an<|aw<|af<|aA<|aJ rfl<|zo rfl (mU rfl)<|aJ rfl<|dQ rfl rfl (fun hg=>dw J)<|dQ J J (fun hg=>fE (bB J hg) hI)<|dQ J J (fun hg=>bJ (bB J hg))<|j4 J J J J (fun hg=>dw J)<|j4 J J J J (fun hg=>dw J)<|j4 J J J J (fun hg=>fE (bB J hg) (bB J hg))<|dQ J J (fun hg=>pq (bB J hg) (fun hb=>(bB J (Dl hg hb))))<|zo J (ua J J)<|ax<|eE h J (fun h=>?_) (fun h=>?_)
      ·refine aA<|zo J (gv)<|zo J (gv)<|ax<|av<|aa ?_;cases so h;exact df J J J
      ·refine fO<|aA<|aJ J<|bN J<|zo J (gv)<|ax<|av ?_;cases so h;exact df J J J
     ·refine bO<|an<|aw<|af<|aA<|aJ rfl<|zo rfl (mU rfl)<|aJ rfl<|dQ rfl rfl (fun hg=>dw J)<|dQ J J (fun hg=>fE (bB J hg) hI)<|dQ J J (fun hg=>bJ (bB J hg))<|j4 J J J J (fun hg=>dw J)<|j4 J J J J (fun hg=>dw J)<|j4 J J J J (fun hg=>fE (bB J hg) (bB J hg))<|dQ J J (fun hg=>pq (bB J hg) (fun hb=>(bB J (Dl hg hb))))<|zo J (ua J J)<|ax<|eE h J (fun h=>?_) (fun h=>?_)
      ·refine aA<|zo J (gv)<|zo J (gv)<|ax<|av<|aa ?_;cases so h;exact df J J J
      ·refine fO<|aA<|aJ J<|bN J<|zo J (gv)<|ax<|av ?_;cases so h;exact df J J J
 ·obtain⟨hx,h⟩:=h
  refine aC<|aA<|zo J (gP J J)<|ax<|af<|bE (ht J) (dZ hx)<|fO<|af<|aB<|aA<|zo J (nY d8 ce J J J (d4 hx))<|zo J (bH ce J J)<|bN J<|ax<|aB<|aA<|aJ J<|zo J (mU J) ?_;refine aJ J<|dQ J J (fun hg=>dw J)<|dQ J J (fun hg=>dw J)<|dQ J J (fun hg=>cO (bB J hg) (bB J hg))<|zo J (ua J J)<|bN J<|ax<|eE h J (fun h=>?_) (fun h=>?_)
  ·refine bO<|an<|an<|aw<|am<|zo rfl (nF (dv hx hN) rfl)<|aJ rfl<|aR ?_;exact bj (aW (ih (i+1) own ⟨du hx,h⟩) (bu J))
  ·refine aA<|aJ J<|zo J (mU J)<|bN J<|ax<|eE h J (fun h=>?_) (fun h=>?_)
   ·refine am<|aJ J<|bN J<|aR<|an<|an<|aw<|am<|zo rfl (nF (dv hx hN) rfl)<|aJ rfl<|aR ?_;exact bj (aW (ih (i+1) e ⟨du hx,h⟩) (bu J))
   ·refine am<|zo J (gv)<|aR<|an<|an<|aw<|am<|zo rfl (nF (dv hx hN) rfl)<|aJ rfl<|aR ?_;exact bj (aW (ih (i+1) q9 ⟨du hx,h⟩) (bu J))

theorem FJ(e:aT)(kinds:(List Int)){R:Int×Int}(h:q0 e kinds=some R):bA bc 210 [tD bz e,fP kinds] (tT [cm R.1,cm R.2]):=by
 refine bA.of Tryz.func210 J J J fun w0 S0=>aA<|zo J (l9 J)<|zo J (l9 J)<|zo J (gv)<|zo J (gv)<|ax<|af<|aA<|zo J (bH iG J J)<|bT h fun r q_r h=>zo J (aL Kv (BA _ q_r) ⟨(ht J),aV⟩)<|bN J<|ax<|aA<|aJ J<|zo J (H8 J)<|ax ?_;refine eE h J (fun h=>?_) (fun h=>?_)
 ·refine aA<|aJ J<|zo J (gv)<|bN J<|ax<|av<|aa ?_;cases so h;exact df J J J
 ·refine fO<|af<|aA<|zo J (bH cS J J)<|zo J (lx d8 J)<|zo J (bJ hI)<|ax<|aB<|bl (k:=16) J fun hN=>bU ?_;refine aW (fM (Z:=fun ls i=>(kinds.drop i=ls)∧oK e kinds ls=some R) (Of:=fun _ i=>[]) (Gf:=fun _ i=>[(2,bw bz e),(3,bw fk kinds),(16,fP kinds),(17,jB kinds),(18,cm (i:Int))]) (fun i h=>?_) (fun e1 tl ih i h=>?_) kinds 0 ⟨J,h⟩) (bu J)
  ·obtain⟨hx,h⟩:=h
   refine aC<|aA<|zo J (gP J J)<|ax<|af<|bF (ht J) (d5 hx)<|bt ?_;refine ac (ac (aN ?_));refine aw<|af<|aA<|zo rfl (bH iG rfl rfl)<|bT h fun r1 q_r1 h=>lF Uk (NQ _ q_r1) ⟨(ht J),aV⟩ J fun l c=>zo J (hX d8 (.head _) (ht J))<|zo J (bJ hI)<|ax<|aB<|lw (.head _) fun hN1=>bU ?_;refine aW (fM (Z:=fun ls1 i1=>(r1.drop i1=ls1)∧lk e kinds ls1=some R) (Of:=fun _ i1=>[gu cn 3 l c r1]) (Gf:=fun _ i1=>[(2,bw bz e),(3,bw fk kinds),(30,rU l c r1),(31,jB r1),(32,cm (i1:Int))]) (fun i1 h=>?_) (fun e2 tl1 ih1 i1 h=>?_) r1 0 ⟨J,h⟩) (bu J)
   ·obtain⟨hx1,h⟩:=h
    refine aC<|aA<|zo J (gP J J)<|ax<|af<|bF (ht J) (d5 hx1)<|bt ?_;refine ac (ac (aN ?_));refine aw<|aA<|zo rfl (bH iG rfl rfl)<|zo rfl ((show bW _ _ _ _ ((iH bc OR OQ (fun(x:aU×(List Int))=>(ie kinds) x.1 x.2)))from qg (cts:=[bw fk kinds]) (caps:=[.tmp 3]) Ui ⟨(ht J),aV⟩ (fun x y h=>PA _ _ _ h)))<|bT h fun r2 q_r2 h=>zo J (aL Uj (PB _ _ q_r2) ⟨(ht J),(ht J),aV⟩)<|zo J (mA J J)<|zo J (mA J J)<|bN J<|bN J<|ax<|av<|bb ?_;cases so h;exact df J J J
   ·obtain⟨hx1,h⟩:=h
    refine aC<|aA<|zo J (gP J J)<|ax<|af<|bE (ht J) (dZ hx1)<|fO<|af<|aB<|aA<|zo J (cF d8 ce (.head _) (ht J) (ht J) (d4 hx1))<|zo J (ge (r:=cn) (i:=(i1:Int)) (foff:=0) ce J J bq J (.head _) (d4 hx1) (ht J))<|bN J<|ax<|aA<|aJ J<|zo J (bH cS J J)<|zo J (lx d8 J) ?_;refine zo J (fF (ht J) (ht J))<|ax<|eE h J (fun h=>?_) (fun h=>?_)
    ·refine aA<|zo J (gv)<|zo J (gv)<|ax<|av ?_;refine aF (aa (aa (aF (aa ?_))));refine bb ?_;cases so h;exact df J J J
    ·refine bO<|an<|aw<|am<|zo rfl (nF (dv hx1 hN1) rfl)<|aJ rfl<|aR ?_;exact bj (aW (ih1 (i1+1) ⟨du hx1,h⟩) (bu J))
  ·obtain⟨hx,h⟩:=h
   refine aC<|aA<|zo J (gP J J)<|ax<|af<|bE (ht J) (dZ hx)<|fO<|af<|aB<|aA<|zo J (nY d8 ce J J J (d4 hx))<|zo J (bH ce J J)<|bN J<|ax<|aA<|aJ J<|zo J (iA (ht J) hI)<|aJ J ?_;refine dQ J J (fun hg=>dw J)<|dQ J J (fun hg=>gU (bB J hg) hI)<|zo J (ua J J)<|ax<|eE h J (fun h=>?_) (fun h=>?_)
   ·refine aA<|zo J (gv)<|zo J (gv)<|ax<|av ?_;refine aF (aa (aa (aF (aa ?_))));cases so h;exact df J J J
   ·refine bO<|an<|aw<|am<|zo rfl (nF (dv hx hN) rfl)<|aJ rfl<|aR ?_;exact bj (aW (ih (i+1) ⟨du hx,h⟩) (bu J))

end Go.Proofs.YtnmjbolollcokaaGreatDoor

