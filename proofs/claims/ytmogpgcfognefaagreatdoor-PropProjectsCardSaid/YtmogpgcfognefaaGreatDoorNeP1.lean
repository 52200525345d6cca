/- co of this claim: P1. -/
import Derived.Test.YtmogpgcfognefaaGreatDoorNeT
import Derived.Test.YtmogpgcfognefaaGreatDoorNeP0
set_option linter.all false
namespace Go.Proofs.YtmogpgcfognefaaGreatDoor
open Go
set_option maxRecDepth 100000

theorem Cc(e:bf){R:Int}(h:mo e=some R):aN aM 66 [tD bn e] (bH R):=by
 refine aN.of Tryz.func66 J J J fun w0 S0=>aq<|zo J (jh J)<|zo J (cQ)<|an<|ae<|aq<|zo J (bz gj J J)<|bF h fun r q_r h=>zo J (aD R4 (JP _ q_r) ⟨(ht J),aU⟩)<|aA J<|zo J (hY J J)<|zo J (hY J J)<|bk J<|bk J<|an<|aq<|aA J<|zo J (dH (ht J)) ?_;refine an<|cX h J (fun h=>?_) (fun h=>?_)
 ·refine aq<|zo J (cQ)<|an<|aj<|aa ?_;cases so h;exact aB J J
 ·refine dA<|aq<|zo J (cQ)<|an<|aj ?_;cases so h;exact aB J J

theorem TM(l:Option Nat)(c:Nat)(s:(List Int)){R:(List Int)}(h:iR s=some R):fq aM 117 [pQ l c s] [cG bQ 3 l c s] (fun i:OI=>pQ (i.h 0).1 (i.h 0).2 R) (fun i=>[cG bQ 3 (i.h 0).1 (i.h 0).2 R]):=by
 refine fq.of Tryz.func117 J J J fun w0 S0=>aq<|cm false bQ 3<|zo J (bm vP)<|an<|ae<|aq<|aA J<|zo J (fA dm (.tail _ (.head _)) (ht J))<|zo J (dI (ht J) hI)<|an<|cX h J (fun h=>?_) (fun h=>?_)
 ·refine aq<|aA J<|bk J<|an<|aj<|aa<|ba ?_;cases so h;exact dc J (oi l c) J J (fun _ _ h=>h)
 ·refine dA<|ae<|aq<|zo J (cQ)<|an<|ax<|mL (.tail _ (.head _)) fun hN=>bB<|mK ?_;refine aJ (d6 (Z:=fun ls i=>(s.drop i=ls)∧em s ls i=some R) (Of:=fun _ i=>[cG bQ 3 l c s]) (Gf:=fun _ i=>[(0,pQ l c s),(3,bH (i:Int))]) (fun i h=>?_) (fun e tl ih i h=>?_) (s.drop (1)) 1 ⟨J,h⟩) (aZ J)
  ·obtain⟨hx,h⟩:=h
   refine av<|ae<|aq<|aA J<|aA J<|zo J (fA dm (.head _) (ht J))<|zo J (eK J J)<|an<|bp (ht J) (cW hx)<|bg ?_;refine ac (ac (aF ?_));refine au<|aq<|aA rfl<|bk rfl<|an<|aj ?_;cases so h;exact dc J (oi l c) J J (fun _ _ h=>h)
  ·obtain⟨hx,h⟩:=h
   refine av<|ae<|aq<|aA J<|aA J<|zo J (fA dm (.head _) (ht J))<|zo J (eK J J)<|an<|bo (ht J) (cU hx)<|dA<|ae<|ax<|ae<|bF h fun e1 q_e1 h=>?_
   refine eG (ts:=[_,_,_,_,_,_,_,_,_,_]) mixed J J
    ⟨ia 0 J J J (cL J),
    ⟨ia 3 J J J (cL J),
    ⟨ft 16 0 17 1 J J J J (dk dm bJ (.head _) (ht J) (ht J) (cP hx)),
    ⟨cO 18 2 J J J (fG (r:=bQ) (i:=(i:Int)) (foff:=0) bJ J J cF J (.head _) (cP hx) (ht J)),
    ⟨ia 0 J J J (cL J),
    ⟨ia 3 J J J (cL J),
    ⟨cO 21 5 J J J (fK (ht J) hI),
    ⟨ft 20 4 22 6 J J J J (dk dm bJ (.head _) (ht J) (ht J) q_e1),
    ⟨cO 23 7 J J J (fG (r:=bQ) (i:=(IntKind.i64.wrap ((i:Int)-(1:Int)))) (foff:=0) bJ J J cF J (.head _) q_e1 (ht J)),
    ⟨ft 19 3 24 8 J J J J (bK (ht J) (ht J)),
    aU⟩⟩⟩⟩⟩⟩⟩⟩⟩⟩ ?_
   refine au<|cX h rfl (fun h=>?_) (fun h=>?_)
   ·refine aq<|aA J<|aA J<|bF h fun y q_y h=>zo J (me dm bJ J (.head _) (ht J) (ht J) q_y)<|mI (.head _) q_y fun hv=>bk J<|an<|ae<|aq<|zo J (cQ)<|an<|ax<|bB ?_;refine aJ (Ka (Z:=fun k1 i1 s1 k=>(y.length-i1=k1)∧dL i y k1 i1 s1 k=some R) (Of:=fun _ i1 s1 k=>[cG bQ 3 l c s1]) (Gf:=fun _ i1 s1 k=>[(0,pQ l c s1),(3,bH k),(4,tV (lc 1 l c (i:Int).toNat y.length)),(5,bH (i1:Int))]) (fun i1 s1 k h=>?_) (fun k2 ih1 i1 s1 k h=>?_) (y.length-1) 1 s (i:Int) ⟨J,h⟩) (aZ J)
    ·obtain⟨hx1,h⟩:=h
     refine av<|ae<|aq<|aA J<|aA J<|zo J (Jc dm hv.1 (ht J))<|zo J (eK J J)<|an<|bp (ht J) (Ld hx1)<|bg ?_;refine ac (ac (aF ?_));refine au<|aq<|aA rfl<|aA rfl<|bF h fun y1 q_y1 h=>zo J (me dm bJ J (.head _) (ht J) (ht J) q_y1)<|mI (.head _) q_y1 fun hv1=>bF h fun cl q_cl h=>LH bJ J J dm (fun _=>J) J q_y1 (ht J) (so q_cl)<|mH (Eb q_y1 (so q_cl)) 0 J<|mH (Eb q_y1 (so q_cl)) 54 J<|an<|aq<|aA J<|aA J<|bF h fun y2 q_y2 h=>zo J (kD dm bJ J (.head _) (ht J) (ht J) q_y2)<|zz q_y2<|bk J<|an ?_;refine aj ?_;refine aC (aa (aa (aC (aa ?_))));cases so h;exact dc J (oi l c) J J (fun _ _ h=>h)
    ·obtain⟨hx1,h⟩:=h
     refine av<|ae<|aq<|aA J<|aA J<|zo J (Jc dm hv.1 (ht J))<|zo J (eK J J)<|an<|bo (ht J) (Lc hx1)<|dA<|ae<|ax<|ae<|bF h fun e3 q_e3 h=>bF h fun e4 q_e4 h=>?_
     refine eG (ts:=[_,_,_,_,_,_,_,_,_,_]) mixed J J
      ⟨ia 4 J J J (cL J),
      ⟨ia 5 J J J (cL J),
      ⟨ft 35 0 36 1 J J J J (sf dm bJ J (.head _) (yX q_y) (ht J) (ht J) q_e3),
      ⟨cO 37 2 J J J (fG (r:=bQ) (i:=((i:Int)+(i1:Int))) (foff:=0) bJ J J cF J (.head _) (vO q_e3).2.2 (ht J)),
      ⟨ia 4 J J J (cL J),
      ⟨ia 5 J J J (cL J),
      ⟨cO 40 5 J J J (fK (ht J) hI),
      ⟨ft 39 4 41 6 J J J J (sf dm bJ J (.head _) (yX q_y) (ht J) (ht J) q_e4),
      ⟨cO 42 7 J J J (fG (r:=bQ) (i:=((i:Int)+(IntKind.i64.wrap ((i1:Int)-(1:Int))))) (foff:=0) bJ J J cF J (.head _) (vO q_e4).2.2 (ht J)),
      ⟨ft 38 3 43 8 J J J J (dg (ht J) (ht J)),
      aU⟩⟩⟩⟩⟩⟩⟩⟩⟩⟩ ?_
     refine au<|cX h rfl (fun h=>?_) (fun h=>?_)
     ·refine aq<|aA J<|aA J<|aA J<|aA J<|bF h fun e5 q_e5 h=>zo J (sf dm bJ J (.head _) (yX q_y) (ht J) (ht J) q_e5)<|zo J (fG (r:=bQ) (i:=((i:Int)+(i1:Int))) (foff:=0) bJ J J cF J (.head _) (vO q_e5).2.2 (ht J))<|bF h fun e6 q_e6 h=>zo J (dk dm bJ (.head _) (ht J) (ht J) q_e6)<|bF h fun st q_st h=>qu bJ J ap J q_e6 (so q_st) (ht J) (ht J)<|mH (nO (so q_st)) 0 J<|mH (nO (so q_st)) 45 J<|an<|ai<|aA J<|zo J (jZ (ht J) hI)<|bk J<|aH<|am<|au ?_;refine ai<|aA J<|zo J (rA (Ii hx1 (SU hv.2)) (ht J) hI)<|bk J<|aH ?_;exact aT (aJ (ih1 (i1+1) st (IntKind.i64.wrap (k+(1:Int))) ⟨Ih hx1,h⟩) (aZ J))
     ·refine bA<|am<|au<|ai<|aA rfl<|zo rfl (rA (Ii hx1 (SU hv.2)) (ht rfl) hI)<|bk rfl<|aH ?_;exact aT (aJ (ih1 (i1+1) s1 k ⟨Ih hx1,h⟩) (aZ J))
   ·refine bA<|am<|au<|ai<|aA rfl<|zo rfl (jU (cz hx hN) rfl)<|bk rfl<|aH ?_;exact aT (aJ (ih (i+1) ⟨cy hx,h⟩) (aZ J))

theorem Jq(e:bf){R:(List Int)}(h:qt e=some R):mM aM 67 [tD bn e] false bQ 3 R:=by
 refine mM.of Tryz.func67 J J J fun w0 S0=>aq<|zo J (jh J)<|cm false bQ 3<|zo J (bm vP)<|an<|ae<|aq<|zo J (bz gj J J)<|bF h fun r q_r h=>zo J (aD Nu (Cc _ q_r) ⟨(ht J),aU⟩)<|zo J (rn J)<|an<|cX h J (fun h=>?_) (fun h=>?_)
 ·refine aq<|cm false bQ 3<|zo J (bm vP)<|an<|aj<|aa ?_;cases so h;exact m7 J J
 ·refine dA<|aq<|cm false bQ 3<|zo J (bm vP)<|an<|ae<|aq<|zo J (cd fa dw J J)<|zo J (bz lU J J)<|zo J (ja jB J)<|zo J (bl hI)<|an<|ax<|aV (k:=10) J fun hN=>bB<|fc<|mK ?_;refine aJ (mp (Z:=fun ls i out l c=>(e.Nodes.drop i=ls)∧kS ls out=some R) (Of:=fun _ i out l c=>[cG bQ 3 l c out]) (Gf:=fun _ i out l c=>[(3,pQ l c out),(10,d7 (aQ) e.Nodes),(11,hM e.Nodes),(12,bH (i:Int))]) (fun i out l c h=>?_) (fun e1 tl ih i out l c h=>?_) e.Nodes 0 mu none 0 ⟨J,h⟩) (aZ J)
  ·obtain⟨hx,h⟩:=h
   refine av<|aq<|zo J (eK J J)<|an<|ae<|bp (ht J) (cW hx)<|bg ?_;refine ac (ac (aF ?_));refine au<|aq<|aA rfl<|bF h fun Uw q_srt h=>?_;refine NL (n:=out.length) (ys:=Uw) C7 ?_ WO ?_ ?_ ?_ ?_ ?_
   ·rfl
   ·exact q_srt
   ·exact(ht J)
   ·rfl
   ·rfl
   intro hl
   refine Hf hl 3 J<|Hf hl 25 J<|an<|aq<|aA J<|bF h fun r1 q_r1 h=>yy [cG bQ 3 l c Uw] _ J WN (TM l c _ q_r1) ⟨(ht J),aU⟩ J fun i1=>?_;refine(show RG _ _ _ _ [cG bQ 3 (i1.h 0).1 (i1.h 0).2 r1] ((28,pQ (i1.h 0).1 (i1.h 0).2 r1)::_)from ?_);refine bk J<|an<|aj ?_;cases so h;exact m7 J J
  ·obtain⟨hx,h⟩:=h
   refine av<|aq<|zo J (eK J J)<|an<|ae<|bo (ht J) (cU hx)<|dA<|ae<|ax<|aq<|zo J (iX jB cY J J J (cP hx))<|zo J (bz cY J J)<|aO (r:=aQ) (x:=ue) cY (fun _=>k8 _) J fun b=>ay cY J ap J (ht J) (ht J)<|aL 5 J<|an<|aq<|zo J (cd iA ef J J) ?_;refine zo J (bz bJ J J)<|zo J (jy J)<|an<|cX h J (fun h=>?_) (fun h=>?_)
   ·refine ai<|aA J<|zo J (cd m3 iG J J)<|zo J (bz bJ J J)<|zo J (aP (r:=bQ) (ys:=[e1.Col]) (xs:=[.tmp 21]) dm bJ J J J J J ⟨(ht J),aU⟩)<|bF h fun out1 q_out1 h=>ep bJ J J J J dm J J (ht J) (ht J) q_out1 fun l2 c2=>bk J<|aH<|am<|au<|ai<|zo rfl (jU (cz hx hN) rfl)<|aA rfl<|aH ?_;exact aT (aJ (ih (i+1) out1 l2 c2 ⟨cy hx,h⟩) (aZ J))
   ·refine bA<|am<|au<|ai<|zo rfl (jU (cz hx hN) rfl)<|aA rfl<|aH ?_;exact aT (aJ (ih (i+1) out l c ⟨cy hx,h⟩) (aZ J))
theorem A2(s:(List Int)){R:(List Int)}(h:cD s=some R):mM aM 48 [kz s] false bQ 3 R:=by
 refine mM.of Tryz.func48 J J J fun w0 S0=>aq<|cm false bQ 3<|zo J (bm vP)<|an<|ae<|aq<|aA J<|Hj dm (ht J) J fun isnil hisnil=>an<|oj (ht J) (fun hc=>?_) (fun hc=>?_)
 ·have hx:=hisnil hc
  have h:some mu=some R:=by simpa [cD,kE,hx] using h
  refine aq<|cm false bQ 3<|zo J (bm vP)<|an<|aj<|aa ?_;cases so h;exact m7 J J
 ·refine dA<|aq<|pB (r:=bQ) (ys:=mu) (xs:=[]) dm bJ J J J J J trivial J fun l c=>aA J<|bF h fun x q_x h=>ep bJ J J J J dm J J (ht J) (ht J) q_x fun l1 c1=>bk J<|an<|aj ?_;cases so h;exact m7 J J
theorem U8{l:Option Nat}{c:Nat}{xs s:List Int}{lo:Int}{R:List Int}(hs:dq xs lo (xs.length:Int)=some s)(h:cD s=some R):fq aM 48 [tV (lc 1 l c lo.toNat s.length)] [cG bQ 3 l c xs] (fun i:OI=>pQ (i.h 0).1 (i.h 0).2 R) (fun i=>[cG bQ 3 (i.h 0).1 (i.h 0).2 R,cG bQ 3 l c xs]):=by
 refine fq.of Tryz.func48 J J J fun w0 S0=>aq<|zo J (bm vP)<|an<|ae<|aq<|aA J<|Ef (r:=bQ) dm (.head _) hs (ht J) J fun isnil hisnil=>an<|oj (ht J) (fun hc=>?_) (fun hc=>?_)
 ·have hx:=hisnil hc
  have h:some mu=some R:=by simpa [cD,kE,hx] using h
  refine aq<|cm false bQ 3<|zo J (bm vP)<|an<|aj<|aa ?_;cases so h;exact dc J (oi none 0) J J (fun _ _ h=>h)
 ·refine dA<|aq<|pB (r:=bQ) (ys:=mu) (xs:=[]) dm bJ J J J J J trivial J fun l1 c1=>aA J<|bF h fun x q_x h=>Cs bJ J J J J dm J J (ht J) (.tail _ (.head _)) hs (ht J) q_x fun l2 c2=>bk J<|an<|aj ?_;cases so h;exact dc J (oi l2 c2) J J (fun _ _ h=>h)

theorem TE(b:Nat)(l:Option Nat)(c:Nat)(stack:(List Int))(k:Int){R:(List Int)×(List Int)}(h:m5 stack k=some R):fq aM 251 [bH k,tV (aI b 0)] [bx rV 29 b (aw l c stack.length),cG bQ 3 l c stack] (fun i:OI=>kz R.1) (fun i=>[bx rV 29 b (aw (i.h 0).1 (i.h 0).2 R.2.length),cG bQ 3 (i.h 0).1 (i.h 0).2 R.2]):=by
 refine fq.of Tryz.func251 J J J fun w0 S0=>aq<|zo J (bm (show aE _ _ _ (kz ([]))from uf))<|an<|aq<|zo J (lj ce (.head _) (ht J))<|zo J (lj ce (.head _) (ht J))<|zo J (fA dm (.tail _ (.head _)) (ht J))<|aA J<|zo J (fK (ht J) (ht J))<|bF h fun y q_y h=>zo J (me dm bJ J (.tail _ (.head _)) (ht J) (ht J) q_y)<|mI (.tail _ (.head _)) q_y fun hv=>bD<|bF h fun r q_r h=>yy [cG bQ 3 l c stack] _ J Nv (U8 q_y q_r) ⟨(ht J),aU⟩ J fun i=>?_;refine(show RG _ _ _ _ [cG bQ 3 (i.h 0).1 (i.h 0).2 r,cG bQ 3 l c stack,bx rV 29 b (aw l c stack.length)] _ from ?_);refine bk J<|an<|aq<|zo J (lj ce (.tail _ (.tail _ (.head _))) (ht J))<|zo J (lj ce (.tail _ (.tail _ (.head _))) (ht J))<|zo J (fA dm (.tail _ (.head _)) (ht J))<|aA J<|zo J (fK (ht J) (ht J))<|bF h fun y1 q_y1 h=>zo J (kD dm bJ J (.tail _ (.head _)) (ht J) (ht J) q_y1)<|bD<|zz q_y1<|jg<|ay ce J ap J (ht J) (AW (ht J))<|an<|aq<|aA J<|bk J<|an ?_;refine aj<|aR<|gG<|gh 3 J<|gh 11 J<|gh 4 J<|gh 18 J<|qv 3 J<|ba<|aX<|aX ?_;cases so h;exact dc J (oi l c) J J (fun _ _ h=>h)

theorem Pr(e:bf)(do1:(bc→(List Int)→Option (Int×Int))){R:Int×Int}(h:mX e do1=some R):aN aM 216 [tD bn e,(dJ aM N9 N8 (fun(x:bc×(List Int))=>do1 x.1 x.2))] (tT [bH R.1,bH R.2]):=by
 refine aN.of Tryz.func216 J J J fun w0 S0=>aq<|zo J (jh J)<|zo J (cQ)<|zo J (cQ)<|an<|yI<|aq<|cm false bQ 3<|aO (x:=aw none 0 0) ce (fun _=>Mv) J fun b=>an<|aq<|zo J (cQ)<|an<|aq<|zo J (BH (cts:=[tV (aI b 0)]) (caps:=[.tmp 6]) ⟨(ht J),aU⟩)<|bk J ?_;refine an<|aq<|zo J (cQ)<|an<|ae<|yJ<|au<|ae<|aq<|zo rfl (cd fa dw rfl rfl)<|zo rfl (bz lU rfl rfl)<|zo rfl (ja jB rfl)<|zo rfl (bl hI)<|an ?_;refine Em (Z:=fun bad stack l c=>kr bad stack=some R) (Of:=fun bad stack l c=>[bx rV 29 b (aw l c stack.length),cG bQ 3 l c stack]) (Gf:=fun bad stack l c=>[(6,tV (aI b 0)),(7,bH 0),(9,bH bad)]) (fun bad stack l c h=>?_) (fun K=>?_)
 ·skip
  refine au<|ae<|aq<|aA rfl<|zo rfl (rn rfl)<|an<|cX h rfl (fun h=>?_) (fun h=>?_)
  ·refine aq<|aA J<|aA J<|bk J<|bk J<|an<|aj ?_;refine aa (lG ?_);refine ba<|ba ?_;cases so h;exact d5 J J J
  ·refine dA<|aq<|zo J (lj ce (.head _) (ht J))<|bF h fun e1 q_e1 h=>zo J (dk dm bJ (.tail _ (.head _)) (ht J) hI q_e1)<|zo J (fG (r:=bQ) (i:=(0:Int)) (foff:=0) bJ J J cF J (.tail _ (.head _)) q_e1 (ht J))<|bk J<|zo J (cQ)<|an<|aj<|lG<|ba<|ba ?_;cases so h;exact d5 J J J
 ·skip
  refine aV (k:=16) J fun hN=>bB ?_;refine aJ (sN (Z:=fun ls i bad1 stack1 l1 c1=>(e.Nodes.drop i=ls)∧ge do1 ls bad1 stack1=some R) (Of:=fun _ i bad1 stack1 l1 c1=>[bx rV 29 b (aw l1 c1 stack1.length),cG bQ 3 l1 c1 stack1]) (Gf:=fun _ i bad1 stack1 l1 c1=>[(1,(dJ aM N9 N8 (fun(x:bc×(List Int))=>do1 x.1 x.2))),(6,tV (aI b 0)),(7,bH 0),(8,tC 251 [tV (aI b 0)]),(9,bH bad1),(16,d7 (aQ) e.Nodes),(17,hM e.Nodes),(18,bH (i:Int))]) (fun i bad1 stack1 l1 c1 h=>?_) (fun e2 tl ih i bad1 stack1 l1 c1 h=>?_) e.Nodes 0 (0:Int) mu none 0 ⟨J,h⟩) (aZ J)
  ·obtain⟨hx,h⟩:=h
   refine av<|aq<|zo J (eK J J)<|an<|ae<|bp (ht J) (cW hx)<|bg ?_;refine ac (ac (aF ?_));exact bL (K bad1 stack1 l1 c1 h) (aZ J)
  ·obtain⟨hx,h⟩:=h
   refine av<|aq<|zo J (eK J J)<|an<|ae<|bo (ht J) (cU hx)<|dA<|ae<|ax<|aq<|zo J (iX jB cY J J J (cP hx))<|zo J (bz cY J J)<|aO (r:=aQ) (x:=ue) cY (fun _=>k8 _) J fun b1=>ay cY J ap J (ht J) (ht J)<|aL 11 J<|an<|ae<|bF h fun r q_r h=>bF h fun r1 q_r1 h=>?_
   obtain⟨r2,q_r2,h⟩:=bs h
   refine oe 12 [tc ((dJ aM N9 N8 (fun(x:bc×(List Int))=>do1 x.1 x.2))),tc (tD aQ e2),tc (tC 251 [tV (aI b 0)]),tc (bq bQ e2.Tag),tc (bH e2.Tag),tc (bH r),tc (kz r1.1),tc (tT [bH r2.1,bH r2.2]),tc (tT [bH r2.1,bH r2.2]),tc (bH r2.1),tc (bH r2.2),tc (bH r2.1)] [false,false,false,false,false,false,true,false,false,false,false,false] [fun _=>[bx rV 29 b (aw l1 c1 stack1.length),cG bQ 3 l1 c1 stack1],fun sg=>[bx rV 29 b (aw ((sg 6).h 0).1 ((sg 6).h 0).2 r1.2.length),cG bQ 3 ((sg 6).h 0).1 ((sg 6).h 0).2 r1.2]] J mixed J J J J J
    ⟨⟨[⟨1,fun _=>(dJ aM Sn Sl (fun(x:bc×(List Int))=>do1 x.1 x.2)),none⟩],_,0,1,J,⟨(fun _=>J),aU⟩,J,J,J,J,J,fun _ sg _ _=>ak J (cL J)⟩,
    ⟨⟨[⟨11,fun _=>bq aQ e2,none⟩],_,0,1,J,⟨(fun _=>J),aU⟩,J,J,J,J,J,fun _ sg _ _=>ak J (bz cY J J)⟩,
    ⟨⟨[⟨8,fun _=>tC 251 [tV (aI b 0)],none⟩],_,0,0,J,⟨(fun _=>J),aU⟩,J,J,J,J,J,fun _ sg _ _=>ak J (cL J)⟩,
    ⟨⟨[⟨11,fun _=>bq aQ e2,none⟩],_,0,0,J,⟨(fun _=>J),aU⟩,J,J,J,J,J,fun _ sg _ _=>ak J (cd iA ef J J)⟩,
    ⟨⟨[⟨26,fun _=>bq bQ e2.Tag,some 3⟩],_,0,0,J,⟨(fun _=>J),aU⟩,J,J,J,J,J,fun _ sg _ _=>ak J (bz bJ J J)⟩,
    ⟨⟨[⟨27,fun _=>tD bQ e2.Tag,some 4⟩],_,0,0,J,⟨(fun _=>J),aU⟩,J,J,J,J,J,fun _ sg _ _=>ak J (aD JY (A7 _ q_r) ⟨(ht J),aU⟩)⟩,
    ⟨⟨[⟨25,fun _=>tC 251 [tV (aI b 0)],some 2⟩,⟨28,fun _=>tD bQ r,some 5⟩],_,J,⟨(fun _=>J),(fun _=>J),aU⟩,J,J,J,fun sg=>dN J (EffOK.fr1 (EffOK.fr1 (vU (xs:=[.tmp 28]) (ts:=[tD bQ r]) (cts:=[tV (aI b 0)]) [bx rV 29 b (aw l1 c1 stack1.length),cG bQ 3 l1 c1 stack1] _ J Vx (TE b l1 c1 _ _ q_r1) (ht J) ⟨(ht J),aU⟩ (fun _=>J))))⟩,
    ⟨⟨[⟨23,fun _=>(dJ aM Sn Sl (fun(x:bc×(List Int))=>do1 x.1 x.2)),some 0⟩,⟨24,fun _=>tD aQ e2,some 1⟩,⟨29,fun _=>tD wd r1.1,some 6⟩],_,1,1,J,⟨(fun _=>J),(fun _=>J),(fun _=>J),aU⟩,J,J,J,J,J,fun _ sg _ _=>ak J (ej (args:=Sn) (res:=Sl) (f:=(fun(x:bc×(List Int))=>do1 x.1 x.2)) (x:=((e2,r1.1):bc×(List Int))) (ht J) q_r2 ⟨(ht J),(ht J),aU⟩)⟩,
    ⟨⟨[⟨30,fun _=>tT [tD bQ r2.1,tD bQ r2.2],some 7⟩],_,1,1,J,⟨(fun _=>J),aU⟩,J,J,J,J,J,fun _ sg _ _=>ak J (cL J)⟩,
    ⟨⟨[⟨22,fun _=>tT [tD bQ r2.1,tD bQ r2.2],some 8⟩],_,1,1,J,⟨(fun _=>J),aU⟩,J,J,J,J,J,fun _ sg _ _=>ak J (hY J J)⟩,
    ⟨⟨[⟨22,fun _=>tT [tD bQ r2.1,tD bQ r2.2],some 8⟩],_,1,1,J,⟨(fun _=>J),aU⟩,J,J,J,J,J,fun _ sg _ _=>ak J (hY J J)⟩,
    ⟨⟨[⟨31,fun _=>tD bQ r2.1,some 9⟩],_,1,1,J,⟨(fun _=>J),aU⟩,J,J,J,J,J,fun _ sg _ _=>ak J (zM J)⟩,
    aU⟩⟩⟩⟩⟩⟩⟩⟩⟩⟩⟩⟩ (fun sg=>?_)
   refine(show RG _ _ _ _ [bx rV 29 b (aw ((sg 6).h 0).1 ((sg 6).h 0).2 r1.2.length),cG bQ 3 ((sg 6).h 0).1 ((sg 6).h 0).2 r1.2] _ from ?_);refine bk J<|an<|ae<|aq<|aA J<|zo J (rn J)<|an<|cX h J (fun h=>?_) (fun h=>?_)
   ·refine aq<|aA J<|bk J<|an<|bg ?_;refine ac (bM J (ac (ac (aF ?_))));exact bL (K r2.2 r1.2 ((sg 6).h 0).1 ((sg 6).h 0).2 h) (aZ J)
   ·refine dA<|ai<|zo J (lj ce (.head _) (ht J))<|aA J<|zo J (aP (r:=bQ) (ys:=[r2.1]) (xs:=[.tmp 37]) dm bJ J J J J J ⟨(ht J),aU⟩)<|bD<|bF h fun l2 q_l2 h=>ep bJ J J J J dm J J (ht J) (ht J) q_l2 fun l3 c2=>bD<|ay ce J ap J (ht J) (AW (ht J))<|aH<|am<|au<|ai<|zo rfl (jU (cz hx hN) rfl)<|aA rfl<|aH ?_;exact aT (aJ (ih (i+1) bad1 l2 l3 c2 ⟨cy hx,h⟩) (aZ J))

theorem Jz(tag:Int){R:Bool}(h:pM tag=some R):aN aM 213 [bH tag] (gK R):=by
 refine aN.of Tryz.func213 J J J fun w0 S0=>aq<|zo J (fJ)<|an<|aq<|aA J<|zo J (jy J)<|aA J<|cN J J (fun hg=>cL J)<|cN J J (fun hg=>dQ (aS J hg) hI)<|cN J J (fun hg=>bl (aS J hg))<|fk J J J J (fun hg=>cL J)<|fk J J J J (fun hg=>iT (aS J hg) hI)<|cN J J (fun hg=>mf (aS J hg) (fun hb=>(aS J (sK hg hb))))<|zo J (pZ J J)<|bk J<|an<|aj ?_;cases so h;exact aB J J

theorem Pq(kinds:(List Int))(n:bc)(l:(List Int)){R:Int×Int}(h:ir kinds n l=some R):aN aM 217 [tD aQ n,kz l,bq iv kinds] (tT [bH R.1,bH R.2]):=by
 refine aN.of Tryz.func217 J J J fun w0 S0=>aq<|zo J (jh J)<|zo J (cQ)<|zo J (cQ)<|an<|aq<|zo J (cQ)<|an<|ae<|aq<|aA J<|zo J (ja dm J)<|zo J (bl hI)<|an<|ax<|aV (k:=12) J fun hN=>bB ?_;refine aJ (ln (Z:=fun ls i own=>(l.drop i=ls)∧kw kinds n ls own=some R) (Of:=fun _ i own=>[]) (Gf:=fun _ i own=>[(2,bq iv kinds),(3,bq aQ n),(7,bH own),(12,kz l),(13,hM l),(14,bH (i:Int))]) (fun i own h=>?_) (fun e tl ih i own h=>?_) l 0 (0:Int) ⟨J,h⟩) (aZ J)
 ·obtain⟨hx,h⟩:=h
  refine av<|aq<|zo J (eK J J)<|an<|ae<|bp (ht J) (cW hx)<|bg ?_;refine ac (ac (aF ?_));refine au<|aq<|aA rfl<|bk rfl<|an<|aq<|zo rfl (cQ)<|an<|ae<|ax<|aq<|zo rfl (cd iA ef rfl rfl)<|zo rfl (bz bJ rfl rfl)<|zo rfl (jy rfl)<|bk rfl<|an<|cX h rfl (fun h=>?_) (fun h=>?_)
  ·refine aq<|zo J (cd yd rb J J)<|zo J (cd jC ee J J)<|zo J (bz bJ J J)<|bk J<|zo J (cQ)<|an<|aj ?_;refine aC (aa ?_);cases so h;exact d5 J J J
  ·refine aq<|zo J (cd iA ef J J)<|zo J (bz bJ J J)<|zo J (jy J)<|bk J<|an<|cX h J (fun h=>?_) (fun h=>?_)
   ·refine aq<|zo J (bz ce J J)<|zo J (cd m3 iG J J)<|zo J (bz bJ J J)<|bF h fun e1 q_e1 h=>zo J (iX dm bJ J J J q_e1)<|zo J (bz bJ J J)<|bk J<|zo J (cQ)<|an<|aj ?_;refine aC (aa ?_);cases so h;exact d5 J J J
   ·refine aq<|zo J (cd iA ef J J)<|zo J (bz bJ J J)<|bF h fun r q_r h=>zo J (aD RL (Jz _ q_r) ⟨(ht J),aU⟩)<|bk J<|an<|cX h J (fun h=>?_) (fun h=>?_)
    ·refine ai<|zo J (cQ)<|zo J (cQ)<|aH<|am<|au<|ae<|aq<|aA rfl<|zo rfl (jy rfl)<|aA rfl<|cN rfl rfl (fun hg=>cL J)<|cN J J (fun hg=>dg (aS J hg) hI)<|cN J J (fun hg=>bl (aS J hg))<|fk J J J J (fun hg=>cL J)<|fk J J J J (fun hg=>cL J)<|fk J J J J (fun hg=>dg (aS J hg) (aS J hg))<|cN J J (fun hg=>mf (aS J hg) (fun hb=>(aS J (sK hg hb))))<|zo J (pZ J J)<|an<|cX h J (fun h=>?_) (fun h=>?_)
     ·refine aq<|zo J (cQ)<|zo J (cQ)<|an<|aj<|aa ?_;cases so h;exact d5 J J J
     ·refine dA<|aq<|aA J<|bk J<|zo J (cQ)<|an<|aj ?_;cases so h;exact d5 J J J
    ·refine aq<|zo J (cd iA ef J J)<|zo J (bz bJ J J)<|zo J (jy J)<|aA J<|cN J J (fun hg=>cd iA ef J J)<|cN J J (fun hg=>aY bJ J J (aS J hg))<|cN J J (fun hg=>bK (aS J hg) hI)<|zo J (pZ J J)<|aA J<|cN J J (fun hg=>cd iA ef J J)<|cN J J (fun hg=>aY bJ J J (aS J hg))<|cN J J (fun hg=>bK (aS J hg) hI)<|zo J (pZ J J)<|bk J<|an<|cX h J (fun h=>?_) (fun h=>?_)
     ·refine ai<|zo J (cQ)<|aH<|am<|au<|ae<|aq<|aA rfl<|zo rfl (jy rfl)<|aA rfl<|cN rfl rfl (fun hg=>cL J)<|cN J J (fun hg=>dg (aS J hg) hI)<|cN J J (fun hg=>bl (aS J hg))<|fk J J J J (fun hg=>cL J)<|fk J J J J (fun hg=>cL J)<|fk J J J J (fun hg=>dg (aS J hg) (aS J hg))<|cN J J (fun hg=>mf (aS J hg) (fun hb=>(aS J (sK hg hb))))<|zo J (pZ J J)<|an<|cX h J (fun h=>?_) (fun h=>?_)
      ·refine aq<|zo J (cQ)<|zo J (cQ)<|an<|aj<|aa ?_;cases so h;exact d5 J J J
      ·refine dA<|aq<|aA J<|bk J<|zo J (cQ)<|an<|aj ?_;cases so h;exact d5 J J J
     ·refine bA<|am<|au<|ae<|aq<|aA rfl<|zo rfl (jy rfl)<|aA rfl<|cN rfl rfl (fun hg=>cL J)<|cN J J (fun hg=>dg (aS J hg) hI)<|cN J J (fun hg=>bl (aS J hg))<|fk J J J J (fun hg=>cL J)<|fk J J J J (fun hg=>cL J)<|fk J J J J (fun hg=>dg (aS J hg) (aS J hg))<|cN J J (fun hg=>mf (aS J hg) (fun hb=>(aS J (sK hg hb))))<|zo J (pZ J J)<|an<|cX h J (fun h=>?_) (fun h=>?_)
      ·refine aq<|zo J (cQ)<|zo J (cQ)<|an<|aj<|aa ?_;cases so h;exact d5 J J J
      ·refine dA<|aq<|aA J<|bk J<|zo J (cQ)<|an<|aj ?_;cases so h;exact d5 J J J
 ·obtain⟨hx,h⟩:=h
  refine av<|aq<|zo J (eK J J)<|an<|ae<|bo (ht J) (cU hx)<|dA<|ae<|ax<|aq<|zo J (iX dm bJ J J J (cP hx))<|zo J (bz bJ J J)<|bk J<|an<|ax<|aq<|aA J<|zo J (jy J) ?_;refine aA J<|cN J J (fun hg=>cL J)<|cN J J (fun hg=>cL J)<|cN J J (fun hg=>bK (aS J hg) (aS J hg))<|zo J (pZ J J)<|bk J<|an<|cX h J (fun h=>?_) (fun h=>?_)
  ·refine bA<|am<|am<|au<|ai<|zo rfl (jU (cz hx hN) rfl)<|aA rfl<|aH ?_;exact aT (aJ (ih (i+1) own ⟨cy hx,h⟩) (aZ J))
  ·refine aq<|aA J<|zo J (jy J)<|bk J<|an<|cX h J (fun h=>?_) (fun h=>?_)
   ·refine ai<|aA J<|bk J<|aH<|am<|am<|au<|ai<|zo rfl (jU (cz hx hN) rfl)<|aA rfl<|aH ?_;exact aT (aJ (ih (i+1) e ⟨cy hx,h⟩) (aZ J))
   ·refine ai<|zo J (cQ)<|aH<|am<|am<|au<|ai<|zo rfl (jU (cz hx hN) rfl)<|aA rfl<|aH ?_;exact aT (aJ (ih (i+1) mt ⟨cy hx,h⟩) (aZ J))

theorem A5(e:bf)(kinds:(List Int)){R:Int×Int}(h:mE e kinds=some R):aN aM 160 [tD bn e,kz kinds] (tT [bH R.1,bH R.2]):=by
 refine aN.of Tryz.func160 J J J fun w0 S0=>aq<|zo J (jh J)<|zo J (jh J)<|zo J (cQ)<|zo J (cQ)<|an<|ae<|aq<|zo J (bz gj J J)<|bF h fun r q_r h=>zo J (aD Nu (Cc _ q_r) ⟨(ht J),aU⟩)<|bk J<|an<|aq<|aA J<|zo J (rn J)<|an ?_;refine cX h J (fun h=>?_) (fun h=>?_)
 ·refine aq<|aA J<|zo J (cQ)<|bk J<|an<|aj<|aa ?_;cases so h;exact d5 J J J
 ·refine dA<|ae<|aq<|zo J (bz ce J J)<|zo J (ja dm J)<|zo J (bl hI)<|an<|ax<|aV (k:=16) J fun hN=>bB ?_;refine aJ (d6 (Z:=fun ls i=>(kinds.drop i=ls)∧nX e kinds ls=some R) (Of:=fun _ i=>[]) (Gf:=fun _ i=>[(2,bq bn e),(3,bq iv kinds),(16,kz kinds),(17,hM kinds),(18,bH (i:Int))]) (fun i h=>?_) (fun e1 tl ih i h=>?_) kinds 0 ⟨J,h⟩) (aZ J)
  ·obtain⟨hx,h⟩:=h
   refine av<|aq<|zo J (eK J J)<|an<|ae<|bp (ht J) (cW hx)<|bg ?_;refine ac (ac (aF ?_));refine au<|ae<|aq<|zo rfl (bz gj rfl rfl)<|bF h fun r1 q_r1 h=>ll Vg (Jq _ q_r1) ⟨(ht J),aU⟩ J fun l c=>zo J (fA dm (.head _) (ht J))<|zo J (bl hI)<|an<|ax<|mL (.head _) fun hN1=>bB ?_;refine aJ (d6 (Z:=fun ls1 i1=>(r1.drop i1=ls1)∧kR e kinds ls1=some R) (Of:=fun _ i1=>[cG bQ 3 l c r1]) (Gf:=fun _ i1=>[(2,bq bn e),(3,bq iv kinds),(30,pQ l c r1),(31,hM r1),(32,bH (i1:Int))]) (fun i1 h=>?_) (fun e2 tl1 ih1 i1 h=>?_) r1 0 ⟨J,h⟩) (aZ J)
   ·obtain⟨hx1,h⟩:=h
    refine av<|aq<|zo J (eK J J)<|an<|ae<|bp (ht J) (cW hx1)<|bg ?_;refine ac (ac (aF ?_));refine au<|aq<|zo rfl (bz gj rfl rfl)<|zo rfl ((show bS _ _ _ _ ((dJ aM N9 N8 (fun(x:bc×(List Int))=>(ir kinds) x.1 x.2)))from eJ (cts:=[bq iv kinds]) (caps:=[.tmp 3]) VK ⟨(ht J),aU⟩ (fun x y h=>Pq _ _ _ h)))<|bF h fun r2 q_r2 h=>zo J (aD VL (Pr _ _ q_r2) ⟨(ht J),(ht J),aU⟩)<|zo J (hY J J)<|zo J (hY J J)<|bk J<|bk J<|an<|aj<|ba ?_;cases so h;exact d5 J J J
   ·obtain⟨hx1,h⟩:=h
    refine av<|aq<|zo J (eK J J)<|an<|ae<|bo (ht J) (cU hx1)<|dA<|ae<|ax<|aq<|zo J (dk dm bJ (.head _) (ht J) (ht J) (cP hx1))<|zo J (fG (r:=bQ) (i:=(i1:Int)) (foff:=0) bJ J J cF J (.head _) (cP hx1) (ht J))<|bk J<|an<|aq<|aA J<|zo J (bz ce J J)<|zo J (ja dm J) ?_;refine zo J (dQ (ht J) (ht J))<|an<|cX h J (fun h=>?_) (fun h=>?_)
    ·refine aq<|zo J (cQ)<|zo J (cQ)<|an<|aj ?_;refine aC (aa (aa (aC (aa ?_))));refine ba ?_;cases so h;exact d5 J J J
    ·refine bA<|am<|au<|ai<|zo rfl (jU (cz hx1 hN1) rfl)<|aA rfl<|aH ?_;exact aT (aJ (ih1 (i1+1) ⟨cy hx1,h⟩) (aZ J))
  ·obtain⟨hx,h⟩:=h
   refine av<|aq<|zo J (eK J J)<|an<|ae<|bo (ht J) (cU hx)<|dA<|ae<|ax<|aq<|zo J (iX dm bJ J J J (cP hx))<|zo J (bz bJ J J)<|bk J<|an<|aq<|aA J<|zo J (dI (ht J) hI)<|aA J ?_;refine cN J J (fun hg=>cL J)<|cN J J (fun hg=>gx (aS J hg) hI)<|zo J (pZ J J)<|an<|cX h J (fun h=>?_) (fun h=>?_)
   ·refine aq<|zo J (cQ)<|zo J (cQ)<|an<|aj ?_;refine aC (aa (aa (aC (aa ?_))));cases so h;exact d5 J J J
   ·refine bA<|am<|au<|ai<|zo rfl (jU (cz hx hN) rfl)<|aA rfl<|aH ?_;exact aT (aJ (ih (i+1) ⟨cy hx,h⟩) (aZ J))

end Go.Proofs.YtmogpgcfognefaaGreatDoor

