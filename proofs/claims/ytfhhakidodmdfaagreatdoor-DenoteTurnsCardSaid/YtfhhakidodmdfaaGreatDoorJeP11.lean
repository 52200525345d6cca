/- cT of this claim: P11. -/
import Derived.Test.YtfhhakidodmdfaaGreatDoorJeT
import Derived.Test.YtfhhakidodmdfaaGreatDoorJeP10
set_option linter.all false
namespace Go.Proofs.YtfhhakidodmdfaaGreatDoor
open Go
set_option maxRecDepth 100000

theorem ZM(b:Nat)(ix:OI)(r:cW)(n:ak){R:(List (List ac))×Int}(h:iS r n=some R):c0 aR 55 [tV (aP b 0),tD aI n] (jh b r ix) (fun _:OI=>tT [bZ (cV) R.1,bI R.2]) (fun _=>(jh b r ix)):=by
 refine c0.of Tryz.func55 J J J fun w0 S0=>?_;refine(show CG _ _ _ [bx (rH ea [(1,aO (ix.h 0).1 (ix.h 0).2 r.rows.length),(2,aO (ix.h 1).1 (ix.h 1).2 r.width.length)]) 96 b r,dS c9 32 (ix.h 0).1 (ix.h 0).2 r.rows,dS bT 3 (ix.h 1).1 (ix.h 1).2 r.width] _ from ?_);refine aw<|zo J (js J)<|zo J (aK (show aH _ _ _ vz from jO))<|zo J (cF)<|au<|aw<|bL false cV 43<|zo J (aK rr)<|au<|ah<|ah<|bB h fun e q_e h=>?_
 refine dc (ts:=[_,_,_,_,_,_,_,_,_,_]) mixed J J
  ⟨fb 0 J J J (dv J),
  ⟨ca 14 0 J J J (dD (ht J)),
  ⟨ca 15 1 J J J (kp 1 qw J J J),
  ⟨ca 16 2 J J J (dh ro J (.tail _ (.head _)) (.tail _ (.tail _ (.head _))) (ht J)),
  ⟨fb 3 J J J (de jP dR J J),
  ⟨ca 18 4 J J J (bC cu J J),
  ⟨d6 17 3 19 5 J J J J (bp mj fN J (kT (ht J)) (ht J) q_e),
  ⟨ca 20 6 J J J (bC fN J J),
  ⟨ca 21 7 J J J (iJ ja J),
  ⟨Pb J J (bG hI),
  aS⟩⟩⟩⟩⟩⟩⟩⟩⟩⟩ ?_
 refine av<|aA<|bc (k:=21) J fun hN=>bJ ?_;refine aT (jq (Z:=fun ls i out l c=>(e.drop i=ls)∧fm n ls out=some R) (Of:=fun _ i out l c=>[eH cV 43 l c out,bx (rH ea [(1,aO (ix.h 0).1 (ix.h 0).2 r.rows.length),(2,aO (ix.h 1).1 (ix.h 1).2 r.width.length)]) 96 b r,dS c9 32 (ix.h 0).1 (ix.h 0).2 r.rows,dS bT 3 (ix.h 1).1 (ix.h 1).2 r.width]) (Gf:=fun _ i out l c=>[(3,bM aI n),(6,qS l c out),(21,bZ (cV) e),(22,jr e),(23,bI (i:Int))]) (fun i out l c h=>?_) (fun e1 tl ih i out l c h=>?_) e 0 Bw none 0 ⟨J,h⟩) (bt J)
 ·obtain⟨hx,h⟩:=h
  refine aB<|aw<|zo J (fL J J)<|au<|ah<|bz (ht J) (du hx)<|bu ?_;refine ai (ai (aN ?_));refine av<|aw<|aF rfl<|bo rfl<|zo rfl (cF)<|au<|am<|jv<|cE 6 rfl<|cE 53 rfl<|cE 4 rfl<|jw 4 rfl<|be<|aJ<|aJ<|aJ ?_;cases so h;exact d5 (ts:=[bZ (cV) out,bI 0]) (rvs:=[.tmp 4,.tmp 5]) J J ⟨aZ J,aZ J,aS⟩ oU J J
 ·obtain⟨hx,h⟩:=h
  refine aB<|aw<|zo J (fL J J)<|au<|ah<|bw (ht J) (dl hx)<|dU<|ah<|aA<|aw<|zo J (ml ja dL J J J (cX hx))<|zo J (bC dL J J)<|bo J<|au<|aw<|bL false af 46<|zo J (aK rr)<|aQ ?_;refine av<|ah<|aw<|zo rfl (de qx mC rfl rfl)<|zo rfl (bC Ap rfl rfl)<|zo rfl (iJ wJ rfl)<|zo rfl (bG hI)<|au<|aA<|bc (k:=28) J fun hN1=>bJ<|kO<|kO<|kO<|pt<|kO ?_;refine aT (jq (Z:=fun ls1 i1 y l1 c1=>(n.Items.drop i1=ls1)∧gy (fm n tl) e1 out ls1 y=some R) (Of:=fun _ i1 y l1 c1=>[eH cV 43 l c out,eH af 46 l1 c1 y,bx (rH ea [(1,aO (ix.h 0).1 (ix.h 0).2 r.rows.length),(2,aO (ix.h 1).1 (ix.h 1).2 r.width.length)]) 96 b r,dS c9 32 (ix.h 0).1 (ix.h 0).2 r.rows,dS bT 3 (ix.h 1).1 (ix.h 1).2 r.width]) (Gf:=fun _ i1 y l1 c1=>[(3,bM aI n),(6,qS l c out),(8,bZ (af) e1),(9,qS l1 c1 y),(21,bZ (cV) e),(22,jr e),(23,bI (i:Int)),(28,bZ (cm) n.Items),(29,jr n.Items),(30,bI (i1:Int))]) (fun i1 y l1 c1 h=>?_) (fun e2 tl1 ih1 i1 y l1 c1 h=>?_) n.Items 0 Hw none 0 ⟨J,h⟩) (bt J)
  ·obtain⟨hx1,h⟩:=h
   refine aB<|aw<|zo J (fL J J)<|au<|ah<|bz (ht J) (du hx1)<|bu ?_;refine ai (ai (aN ?_));refine av<|aq<|aF rfl<|aF rfl<|bH<|ju<|gU 9 rfl<|gU 49 rfl<|zo rfl (aU (r:=cV) (ys:=[y]) (xs:=[.tmp 49]) ja dL J J J J J ⟨(kT (ht J)),aS⟩)<|bH<|bB h fun out1 q_out1 h=>cO dL J J J J ja J J (ht J) (ht J) q_out1 fun l2 c2=>bo J<|aQ<|ap<|av<|aq<|zo rfl (lZ (cL hx hN) rfl)<|aF rfl<|aQ<|bv<|be ?_;exact bg (aT (ih (i+1) out1 l2 c2 ⟨cK hx,h⟩) (bt J))
  ·obtain⟨hx1,h⟩:=h
   refine aB<|aw<|zo J (fL J J)<|au<|ah<|bw (ht J) (dl hx1)<|dU<|ah<|aA<|aw<|zo J (ml wJ kG J J J (cX hx1))<|zo J (bC kG J J)<|aY (r:=cm) (x:=Bx) kG (fun _=>rG _) J fun b1=>ax kG J an J (ht J) (ht J)<|aW 11 J<|au<|aw<|zo J (bC kG J J) ?_;refine aF J<|bB h fun r1 q_r1 h=>zo J (aE Sr (IG _ _ q_r1) ⟨(ht J),(ht J),aS⟩)<|aF J<|zo J (gV J J)<|zo J (gV J J)<|aY (r:=af) (x:=hJ) aG (fun _=>bh _) J fun b2=>ax aG J an J (ht J) (ht J)<|aW 12 J<|bo J<|au<|ah<|aw<|aF J<|zo J (uL J)<|au<|dd h J (fun h=>?_) (fun h=>?_)
   ·refine aw<|aF J<|zo J (aK (show aH _ _ _ vz from jO))<|bo J<|au<|am ?_;refine ae (aD (ae (ae (aD (ae (aD (ae (ae (aD (ae ?_))))))))));refine be<|be<|aJ<|aJ<|aJ ?_;cases so h;exact d5 (ts:=[bZ (cV) ([]),bI r1.2]) (rvs:=[.tmp 4,.tmp 5]) J J ⟨aZ J,aZ J,aS⟩ oU J J
   ·refine dU<|aq<|aF J<|zo J (bC aG J J)<|zo J (aU (r:=af) (ys:=[r1.1]) (xs:=[.tmp 44]) iX aG J J J J J ⟨(ht J),aS⟩)<|bH<|bB h fun y1 q_y1 h=>cO aG J J J J iX J J (ht J) (ht J) q_y1 fun l3 c3=>bo J<|aQ<|ap<|av<|aq<|zo rfl (lZ (cL hx1 hN1) rfl)<|aF rfl<|aQ<|fe<|fe<|fe<|cP<|fe ?_;exact bg (aT (ih1 (i1+1) y1 l3 c3 ⟨cK hx1,h⟩) (bt J))

theorem KN(l:(List (List ac))){R:(List (List ac))}(h:sN l=some R):fJ aR 109 [bZ (cV) l] false cV 43 R:=by
 refine fJ.of Tryz.func109 J J J fun w0 S0=>aw<|bL false cV 43<|zo J (aK rr)<|au<|aw<|aF J<|bB h fun r q_r h=>il WC (KM _ q_r) ⟨(ht J),aS⟩ J fun l1 c=>bo J<|au<|aw<|aF J<|bB h fun rC q_srt h=>?_;refine Fo (n:=r.length) wa ?_ Sp ?_ q_srt ?_ ?_ ?_ ?_ ?_
 ·rfl
 ·rfl
 ·exact(ht J)
 ·rfl
 ·exact(show aH _ _ _ ((dX aR DL yF (fun(x:(List ac)×(List ac))=>pg x.1 x.2)))from(y9 VD fun x y h=>Iv _ _ h))
 ·rfl
 intro hl
 refine m7 hl 5 J<|m7 hl 3 J<|m7 hl 6 J<|au<|aw<|aF J<|bo J<|au<|am ?_;cases so h;exact fE J J
theorem Yj(l:Option Nat)(c:Nat)(s:(List (List ac)))(eq:((List ac)→(List ac)→Option Bool)){R:(List (List ac))}(h:eQ s eq=some R):c0 aR 186 [qS l c s,(dX aR DL nq (fun(x:(List ac)×(List ac))=>eq x.1 x.2))] [eH cV 43 l c s] (fun i:OI=>qS (i.h 0).1 (i.h 0).2 R) (fun i=>[eH cV 43 (i.h 0).1 (i.h 0).2 R]):=by
 refine c0.of Tryz.func186 J J J fun w0 S0=>aw<|bL false cV 43<|zo J (aK rr)<|au<|ah<|aw<|aF J<|zo J (i9 ja (.tail _ (.head _)) (ht J))<|zo J (gD (ht J) hI)<|au<|dd h J (fun h=>?_) (fun h=>?_)
 ·refine aw<|aF J<|bo J<|au<|am<|ae<|be ?_;cases so h;exact m8 J (oi l c) J J (fun _ _ h=>h)
 ·refine dU<|ah<|aw<|zo J (cF)<|au<|aA<|mR (.tail _ (.head _)) fun hN=>bJ<|oR ?_;refine aT (eI (Z:=fun ls i=>(s.drop i=ls)∧cJ s eq ls i=some R) (Of:=fun _ i=>[eH cV 43 l c s]) (Gf:=fun _ i=>[(0,qS l c s),(1,(dX aR DL nq (fun(x:(List ac)×(List ac))=>eq x.1 x.2))),(5,bI (i:Int))]) (fun i h=>?_) (fun e tl ih i h=>?_) (s.drop (1)) 1 ⟨J,h⟩) (bt J)
  ·obtain⟨hx,h⟩:=h
   refine aB<|ah<|aw<|aF J<|aF J<|zo J (i9 ja (.head _) (ht J))<|zo J (fL J J)<|au<|bz (ht J) (du hx)<|bu ?_;refine ai (ai (aN ?_));refine av<|aw<|aF rfl<|bo rfl<|au<|am ?_;cases so h;exact m8 J (oi l c) J J (fun _ _ h=>h)
  ·obtain⟨hx,h⟩:=h
   refine aB<|ah<|aw<|aF J<|aF J<|zo J (i9 ja (.head _) (ht J))<|zo J (fL J J)<|au<|bw (ht J) (dl hx)<|dU<|ah<|aA<|ah<|bB h fun e1 q_e1 h=>bB h fun r q_r h=>?_
   refine dc (ts:=[_,_,_,_,_,_,_,_,_,_,_]) mixed J J
    ⟨fb 1 J J J (dv J),
    ⟨fb 0 J J J (dv J),
    ⟨fb 5 J J J (dv J),
    ⟨d6 19 1 20 2 J J J J (cw ja dL (.head _) (ht J) (ht J) (cX hx)),
    ⟨ca 21 3 J J J (fR (r:=cV) (i:=(i:Int)) (foff:=0) dL J J bR J (.head _) (cX hx) (ht J)),
    ⟨fb 0 J J J (dv J),
    ⟨fb 5 J J J (dv J),
    ⟨ca 24 6 J J J (jf (ht J) hI),
    ⟨d6 23 5 25 7 J J J J (cw ja dL (.head _) (ht J) (ht J) q_e1),
    ⟨ca 26 8 J J J (fR (r:=cV) (i:=(IntKind.i64.wrap ((i:Int)-(1:Int)))) (foff:=0) dL J J bR J (.head _) q_e1 (ht J)),
    ⟨Gq 18 0 22 4 27 9 J J J J J (gS (args:=S7) (res:=Hx) (f:=(fun(x:(List ac)×(List ac))=>eq x.1 x.2)) (x:=((e,e1):(List ac)×(List ac))) (ht J) q_r ⟨(ht J),(ht J),aS⟩),
    aS⟩⟩⟩⟩⟩⟩⟩⟩⟩⟩⟩ ?_
   refine av<|dd h rfl (fun h=>?_) (fun h=>?_)
   ·refine aw<|aF J<|aF J<|bB h fun y q_y h=>zo J (nM ja dL J (.head _) (ht J) (ht J) q_y)<|mQ (.head _) q_y fun hv=>bo J<|au<|ah<|aw<|zo J (cF)<|au<|aA<|bJ ?_;refine aT (IV (Z:=fun k1 i1 s1 k=>(y.length-i1=k1)∧cg eq i y k1 i1 s1 k=some R) (Of:=fun _ i1 s1 k=>[eH cV 43 l c s1]) (Gf:=fun _ i1 s1 k=>[(0,qS l c s1),(1,(dX aR DL nq (fun(x:(List ac)×(List ac))=>eq x.1 x.2))),(5,bI k),(6,tV (oy 1 l c (i:Int).toNat y.length)),(7,bI (i1:Int))]) (fun i1 s1 k h=>?_) (fun k2 ih1 i1 s1 k h=>?_) (y.length-1) 1 s (i:Int) ⟨J,h⟩) (bt J)
    ·obtain⟨hx1,h⟩:=h
     refine aB<|ah<|aw<|aF J<|aF J<|zo J (Dg ja hv.1 (ht J))<|zo J (fL J J)<|au<|bz (ht J) (Zp hx1)<|bu ?_;refine ai (ai (aN ?_));refine av<|aw<|aF rfl<|aF rfl<|bB h fun y1 q_y1 h=>zo J (nM ja dL J (.head _) (ht J) (ht J) q_y1)<|mQ (.head _) q_y1 fun hv1=>bB h fun cl q_cl h=>Hf dL J J ja (fun _=>⟨none,0,J,dn _,lw _,.inl J⟩) J q_y1 (ht J) (so q_cl)<|iy (yo q_y1 (so q_cl)) 0 J<|iy (yo q_y1 (so q_cl)) 59 J<|au<|aw<|aF J<|aF J<|bB h fun y2 q_y2 h=>zo J (kX ja dL J (.head _) (ht J) (ht J) q_y2)<|we q_y2<|bo J<|au ?_;refine am ?_;refine aD (ae (ae (aD (ae ?_))));cases so h;exact m8 J (oi l c) J J (fun _ _ h=>h)
    ·obtain⟨hx1,h⟩:=h
     refine aB<|ah<|aw<|aF J<|aF J<|zo J (Dg ja hv.1 (ht J))<|zo J (fL J J)<|au<|bw (ht J) (Zo hx1)<|dU<|ah<|aA<|ah<|bB h fun e3 q_e3 h=>bB h fun e4 q_e4 h=>bB h fun r1 q_r1 h=>?_
     refine dc (ts:=[_,_,_,_,_,_,_,_,_,_,_,_]) mixed J J
      ⟨fb 1 J J J (dv J),
      ⟨fb 6 J J J (dv J),
      ⟨fb 7 J J J (dv J),
      ⟨d6 39 1 40 2 J J J J (ne ja dL J (.head _) (si q_y) (ht J) (ht J) q_e3),
      ⟨ca 41 3 J J J (fR (r:=cV) (i:=((i:Int)+(i1:Int))) (foff:=0) dL J J bR J (.head _) (qr q_e3).2.2 (ht J)),
      ⟨fb 6 J J J (dv J),
      ⟨fb 7 J J J (dv J),
      ⟨ca 44 6 J J J (jf (ht J) hI),
      ⟨d6 43 5 45 7 J J J J (ne ja dL J (.head _) (si q_y) (ht J) (ht J) q_e4),
      ⟨ca 46 8 J J J (fR (r:=cV) (i:=((i:Int)+(IntKind.i64.wrap ((i1:Int)-(1:Int))))) (foff:=0) dL J J bR J (.head _) (qr q_e4).2.2 (ht J)),
      ⟨Gq 38 0 42 4 47 9 J J J J J (gS (args:=S7) (res:=Hx) (f:=(fun(x:(List ac)×(List ac))=>eq x.1 x.2)) (x:=((e3,e4):(List ac)×(List ac))) (ht J) q_r1 ⟨(ht J),(ht J),aS⟩),
      ⟨ca 48 10 J J J (gg (ht J)),
      aS⟩⟩⟩⟩⟩⟩⟩⟩⟩⟩⟩⟩ ?_
     refine av<|dd h rfl (fun h=>?_) (fun h=>?_)
     ·refine aw<|aF J<|aF J<|aF J<|aF J<|bB h fun e5 q_e5 h=>zo J (ne ja dL J (.head _) (si q_y) (ht J) (ht J) q_e5)<|zo J (fR (r:=cV) (i:=((i:Int)+(i1:Int))) (foff:=0) dL J J bR J (.head _) (qr q_e5).2.2 (ht J))<|bB h fun e6 q_e6 h=>zo J (cw ja dL (.head _) (ht J) (ht J) q_e6)<|bB h fun st q_st h=>sw dL J an J q_e6 (so q_st) (ht J) (ht J)<|iy (mq (so q_st)) 0 J<|iy (mq (so q_st)) 50 J<|au<|aq<|aF J<|zo J (nO (ht J) hI)<|bo J<|aQ<|ap<|av ?_;refine aq<|aF J<|zo J (AG (TL hx1 (TN hv.2)) (ht J) hI)<|bo J<|aQ ?_;exact bg (aT (ih1 (i1+1) st (IntKind.i64.wrap (k+(1:Int))) ⟨TK hx1,h⟩) (bt J))
     ·refine bA<|ap<|av<|aq<|aF rfl<|zo rfl (AG (TL hx1 (TN hv.2)) (ht rfl) hI)<|bo rfl<|aQ ?_;exact bg (aT (ih1 (i1+1) s1 k ⟨TK hx1,h⟩) (bt J))
   ·refine bA<|ap<|av<|aq<|aF rfl<|zo rfl (lZ (cL hx hN) rfl)<|bo rfl<|aQ ?_;exact bg (aT (ih (i+1) ⟨cK hx,h⟩) (bt J))

theorem Vs(l:(List (List ac))){R:(List (List ac))×Int}(h:rP l=some R):aV aR 108 [bZ (cV) l] (tT [bZ (cV) R.1,bI R.2]):=by
 refine aV.of Tryz.func108 J J J fun w0 S0=>aw<|zo J (aK (show aH _ _ _ vz from jO))<|zo J (cF)<|au<|ah<|aw<|aF J<|zo J (aU (r:=c9) (ys:=[l]) (xs:=[.tmp 5]) mj fN J J J J J ⟨(ht J),aS⟩)<|bB h fun r q_r h=>zo J (aE Yx (MI _ q_r) ⟨(ht J),aS⟩)<|bo J<|au<|aw<|aF J<|zo J (uL J)<|au<|dd h J (fun h=>?_) (fun h=>?_)
 ·refine aw<|aF J<|zo J (aK (show aH _ _ _ vz from jO))<|bo J<|au<|am<|ae ?_;cases so h;exact cN J J J
 ·refine dU<|aw<|aF J<|bB h fun r1 q_r1 h=>il WE (KN _ q_r1) ⟨(ht J),aS⟩ J fun l1 c=>bB h fun r2 q_r2 h=>xI [eH cV 43 l1 c r1] _ J aba (Yj l1 c _ _ q_r2) ⟨(ht J),(y9 Yz fun x y h=>MK _ _ h),aS⟩ J fun i=>?_;refine(show RG _ _ _ _ [eH cV 43 (i.h 0).1 (i.h 0).2 r2] ((13,qS (i.h 0).1 (i.h 0).2 r2)::_)from ?_);refine bo J<|zo J (cF)<|au<|am<|jv<|cE 2 J<|cE 13 J<|jw 2 J<|be ?_;cases so h;exact cN J J J

theorem ZL(b:Nat)(ix:OI)(r:cW)(n:ak){R:(List (List ac))×Int}(h:iv r n=some R):c0 aR 56 [tV (aP b 0),tD aI n] (jh b r ix) (fun _:OI=>tT [bZ (cV) R.1,bI R.2]) (fun _=>(jh b r ix)):=by
 refine c0.of Tryz.func56 J J J fun w0 S0=>?_;refine(show CG _ _ _ [bx (rH ea [(1,aO (ix.h 0).1 (ix.h 0).2 r.rows.length),(2,aO (ix.h 1).1 (ix.h 1).2 r.width.length)]) 96 b r,dS c9 32 (ix.h 0).1 (ix.h 0).2 r.rows,dS bT 3 (ix.h 1).1 (ix.h 1).2 r.width] _ from ?_);refine aw<|zo J (js J)<|zo J (aK (show aH _ _ _ vz from jO))<|zo J (cF)<|au<|ah<|bB h fun e q_e h=>bB h fun r1 q_r1 h=>?_
 refine dc (ts:=[_,_,_,_,_,_,_,_,_,_,_,_,_]) mixed J J
  ⟨fb 0 J J J (dv J),
  ⟨ca 6 0 J J J (dD (ht J)),
  ⟨ca 7 1 J J J (kp 1 qw J J J),
  ⟨ca 8 2 J J J (dh ro J (.head _) (.tail _ (.head _)) (ht J)),
  ⟨fb 3 J J J (de jP dR J J),
  ⟨ca 10 4 J J J (bC cu J J),
  ⟨d6 9 3 11 5 J J J J (bp mj fN J (kT (ht J)) (ht J) q_e),
  ⟨ca 12 6 J J J (bC fN J J),
  ⟨ca 13 7 J J J (aE abE (Vs _ q_r1) ⟨(ht J),aS⟩),
  ⟨ca 14 8 J J J (gV J J),
  ⟨ca 14 8 J J J (gV J J),
  ⟨ca 15 9 J J J (uM J),
  ⟨ca 16 10 J J J (uM J),
  aS⟩⟩⟩⟩⟩⟩⟩⟩⟩⟩⟩⟩⟩ ?_
 refine av<|am<|aJ<|aJ<|aJ ?_;cases so h;exact d5 (ts:=[bZ (cV) r1.1,bI r1.2]) (rvs:=[.tmp 4,.tmp 5]) J J ⟨aZ J,aZ J,aS⟩ oU J J

theorem RZ(n:Int){R:(List (List ac))}(h:gW n=some R):fJ aR 162 [tV (.slice none 0 0),bI n] false cV 43 R:=by
 refine fJ.of Tryz.func162 J J J fun w0 S0=>aw<|bL false cV 43<|zo J (aK rr)<|au ?_;refine vp (Z:=iM n=some R) (Of:=[]) (Gf:=[(0,tV (.slice none 0 0)),(1,bI n)]) (fun h=>?_) (fun K=>?_)
 ·skip
  refine yz (Z:=fun s l c=>iL s=some R) (Of:=fun s l c=>[eH cV 43 l c s]) (Gf:=fun s l c=>[(0,qS l c s)]) (fun s l c h=>?_) (fun K1=>?_)
  ·skip
   refine aw<|aF J<|bo J<|au<|am ?_;cases so h;exact fE J J
  ·skip
   refine aw<|aF J<|aF J<|zo J (sq ja (ht J))<|aF J<|zo J (sn ja (ht J))<|zo J (jf (ht J) (ht J))<|zo J (jf (ht J) (ht J))<|bo J<|au<|aw<|aF J<|zo J (gm (ht J) hI)<|au<|dd h J (fun h=>?_) (fun h=>?_)
   ·refine aq<|aF J<|aF J<|zo J (sq ja (ht J))<|zo J (xn ja dL (ht J) (ht J))<|aF J<|bB h fun u q_u h=>bB h fun mk q_mk h=>zS (xA (r:=cV) (x:=[]) dL J J J J ja kC (fun _=>⟨none,0,J,dn _,lw _,.inl J⟩) (ht J) (ht J) (EU q_u) q_mk) J fun i=>aF J<|zo J (sn ja (ht J))<|bB h fun y q_y h=>zo J (kX ja dL J (.head _) (ht J) (ht J) q_y)<|we q_y<|bo J<|aQ ?_;exact cC (K1 y (i.h 0).1 (i.h 0).2 h) (bt J)
   ·refine bA<|FH false cV 43 ?_;exact cC (K1 Bw none 0 h) (bt J)
 ·skip
  refine aw<|aF J<|zo J (gD (ht J) hI)<|au<|dd h J (fun h=>?_) (fun h=>?_)
  ·refine aq ?_;exact(nn h).elim
  ·refine bA<|be ?_;exact cC (K h) (bt J)
theorem T9(slices:(List (List (List ac)))){R:(List (List ac))}(h:eG slices=some R):fJ aR 98 [bZ (c9) slices] false cV 43 R:=by
 refine fJ.of Tryz.func98 J J J fun w0 S0=>aw<|bL false cV 43<|zo J (aK rr)<|au<|aw<|zo J (cF)<|au<|ah<|aw<|aF J<|zo J (iJ mj J)<|zo J (bG hI)<|au<|aA<|bc (k:=9) J fun hN=>bJ<|oR ?_;refine aT (oa (Z:=fun ls i size=>(slices.drop i=ls)∧fx slices ls size=some R) (Of:=fun _ i size=>[]) (Gf:=fun _ i size=>[(0,bZ (c9) slices),(3,bI size),(9,bZ (c9) slices),(10,jr slices),(11,bI (i:Int))]) (fun i size h=>?_) (fun e tl ih i size h=>?_) slices 0 (0:Int) ⟨J,h⟩) (bt J)
 ·obtain⟨hx,h⟩:=h
  refine aB<|aw<|zo J (fL J J)<|au<|ah<|bz (ht J) (du hx)<|bu ?_;refine ai (ai (aN ?_));refine av<|aw<|aF rfl<|bB h fun r q_r h=>il abm (RZ _ q_r) ⟨hV,(ht J),aS⟩ J fun l c=>bo J<|au<|ah<|aw<|aF J<|zo J (iJ mj J)<|zo J (bG hI)<|au<|aA<|bc (k:=25) J fun hN1=>bJ ?_;refine aT (jq (Z:=fun ls1 i1 newslice l1 c1=>(slices.drop i1=ls1)∧ft ls1 newslice=some R) (Of:=fun _ i1 newslice l1 c1=>[eH cV 43 l1 c1 newslice]) (Gf:=fun _ i1 newslice l1 c1=>[(6,qS l1 c1 newslice),(25,bZ (c9) slices),(26,jr slices),(27,bI (i1:Int))]) (fun i1 newslice l1 c1 h=>?_) (fun e1 tl1 ih1 i1 newslice l1 c1 h=>?_) slices 0 r l c ⟨J,h⟩) (bt J)
  ·obtain⟨hx1,h⟩:=h
   refine aB<|aw<|zo J (fL J J)<|au<|ah<|bz (ht J) (du hx1)<|bu ?_;refine ai (ai (aN ?_));refine av<|aw<|aF rfl<|bo rfl<|au<|am ?_;cases so h;exact fE J J
  ·obtain⟨hx1,h⟩:=h
   refine aB<|aw<|zo J (fL J J)<|au<|ah<|bw (ht J) (dl hx1)<|dU<|ah<|aA<|aw<|zo J (ml mj fN J J J (cX hx1))<|zo J (bC fN J J)<|bo J<|au<|aq<|aF J<|aF J<|bB h fun newslice1 q_newslice1 h=>cO dL J J J J ja J J (ht J) (ht J) q_newslice1 fun l2 c2=>?_;refine bo J<|aQ<|ap<|av<|aq<|zo rfl (lZ (cL hx1 hN1) rfl)<|aF rfl<|aQ ?_;exact bg (aT (ih1 (i1+1) newslice1 l2 c2 ⟨cK hx1,h⟩) (bt J))
 ·obtain⟨hx,h⟩:=h
  refine aB<|aw<|zo J (fL J J)<|au<|ah<|bw (ht J) (dl hx)<|dU<|ah<|aA<|aw<|zo J (ml mj fN J J J (cX hx))<|zo J (bC fN J J)<|bo J<|au<|aw<|aF J<|aF J<|zo J (iJ ja J) ?_;refine zo J (nO (ht J) (ht J))<|bo J<|au<|aw<|aF J<|zo J (gD (ht J) hI)<|au<|dd h J (fun h=>?_) (fun h=>?_)
  ·refine aq ?_;exact(nn h).elim
  ·refine bA<|ap<|av<|aq<|zo rfl (lZ (cL hx hN) rfl)<|aF rfl<|aQ ?_;exact bg (aT (ih (i+1) (IntKind.i64.wrap (size+(e.length:Int))) ⟨cK hx,h⟩) (bt J))
theorem XU(slices:(List (List (List ac)))){R:(List (List ac))}(h:eG slices=some R):aV aR 98 [bZ (c9) slices] (bZ (cV) R):=(T9 _ h).spec

theorem ZK(b:Nat)(ix:OI)(r:cW)(n:ak){R:(List (List ac))×Int}(h:j4 r n=some R):c0 aR 57 [tV (aP b 0),tD aI n] (jh b r ix) (fun _:OI=>tT [bZ (cV) R.1,bI R.2]) (fun _=>(jh b r ix)):=by
 refine c0.of Tryz.func57 J J J fun w0 S0=>?_;refine(show CG _ _ _ [bx (rH ea [(1,aO (ix.h 0).1 (ix.h 0).2 r.rows.length),(2,aO (ix.h 1).1 (ix.h 1).2 r.width.length)]) 96 b r,dS c9 32 (ix.h 0).1 (ix.h 0).2 r.rows,dS bT 3 (ix.h 1).1 (ix.h 1).2 r.width] _ from ?_);refine aw<|zo J (js J)<|zo J (aK (show aH _ _ _ vz from jO))<|zo J (cF)<|au<|ah<|bB h fun e q_e h=>bB h fun e1 q_e1 h=>bB h fun r1 q_r1 h=>?_
 refine dc (ts:=[_,_,_,_,_,_,_,_,_,_,_,_,_,_,_,_,_,_,_,_]) mixed J J
  ⟨fb 0 J J J (dv J),
  ⟨ca 6 0 J J J (dD (ht J)),
  ⟨ca 7 1 J J J (kp 1 qw J J J),
  ⟨ca 8 2 J J J (dh ro J (.head _) (.tail _ (.head _)) (ht J)),
  ⟨fb 3 J J J (de jP dR J J),
  ⟨ca 10 4 J J J (bC cu J J),
  ⟨d6 9 3 11 5 J J J J (bp mj fN J (kT (ht J)) (ht J) q_e),
  ⟨ca 12 6 J J J (bC fN J J),
  ⟨fb 0 J J J (dv J),
  ⟨ca 14 8 J J J (dD (ht J)),
  ⟨ca 15 9 J J J (kp 1 qw J J J),
  ⟨ca 16 10 J J J (dh ro J (.head _) (.tail _ (.head _)) (ht J)),
  ⟨fb 3 J J J (de rt km J J),
  ⟨ca 18 12 J J J (bC cu J J),
  ⟨d6 17 11 19 13 J J J J (bp mj fN J (kT (ht J)) (ht J) q_e1),
  ⟨ca 20 14 J J J (bC fN J J),
  ⟨d6 13 7 21 15 J J J J (aU (r:=c9) (ys:=[e,e1]) (xs:=[.tmp 13,.tmp 21]) mj fN J J J J J ⟨(ht J),(ht J),aS⟩),
  ⟨ca 22 16 J J J (aE ab9 (XU _ q_r1) ⟨(ht J),aS⟩),
  ⟨ca 23 17 J J J (uM J),
  ⟨Pb J J (cF),
  aS⟩⟩⟩⟩⟩⟩⟩⟩⟩⟩⟩⟩⟩⟩⟩⟩⟩⟩⟩⟩ ?_
 refine av<|am<|aJ<|aJ<|aJ ?_;cases so h;exact d5 (ts:=[bZ (cV) r1,bI 0]) (rvs:=[.tmp 4,.tmp 5]) J J ⟨aZ J,aZ J,aS⟩ oU J J

theorem Vh(order:(List gE))(a1:(List ac))(b:(List ac)){R:Int}(h:nY order a1 b=some R):aV aR 154 [bZ (af) a1,bZ (af) b,bM (fH gA) order] (bI R):=by
 refine aV.of Tryz.func154 J J J fun w0 S0=>aw<|zo J (cF)<|au<|ah<|aw<|zo J (bC HF J J)<|zo J (iJ Dz J)<|zo J (bG hI)<|au<|aA<|bc (k:=9) J fun hN=>bJ ?_;refine aT (eI (Z:=fun ls i=>(order.drop i=ls)∧jm a1 b ls=some R) (Of:=fun _ i=>[]) (Gf:=fun _ i=>[(0,bZ (af) a1),(1,bZ (af) b),(9,bZ (gA) order),(10,jr order),(11,bI (i:Int))]) (fun i h=>?_) (fun e tl ih i h=>?_) order 0 ⟨J,h⟩) (bt J)
 ·obtain⟨hx,h⟩:=h
  refine aB<|aw<|zo J (fL J J)<|au<|ah<|bz (ht J) (du hx)<|bu ?_;refine ai (ai (aN ?_));refine av<|aw<|aF rfl<|aF rfl<|bB h fun r q_r h=>zo J (aE Z3 (RN _ _ q_r) ⟨(ht J),(ht J),aS⟩)<|bo J<|au<|am ?_;cases so h;exact aL J J
 ·obtain⟨hx,h⟩:=h
  refine aB<|aw<|zo J (fL J J)<|au<|ah<|bw (ht J) (dl hx)<|dU<|ah<|aA<|aw<|zo J (ml Dz Jp J J J (cX hx))<|zo J (bC Jp J J)<|aY (r:=gA) (x:=(⟨(0:Int),false⟩:gE)) Jp (fun _=>WR _) J fun b1=>ax Jp J an J (ht J) (ht J)<|aW 7 J<|au<|ah<|bB h fun e1 q_e1 h=>bB h fun e2 q_e2 h=>?_
  obtain⟨r1,q_r1,h⟩:=bs h
  refine dc (ts:=[_,_,_,_,_,_,_,_,_,_,_,_]) mixed J J
   ⟨fb 0 J J J (dv J),
   ⟨fb 7 J J J (de Ir AW J J),
   ⟨ca 16 1 J J J (bC cu J J),
   ⟨d6 15 0 17 2 J J J J (ml iX aG J J J q_e1),
   ⟨ca 18 3 J J J (bC aG J J),
   ⟨fb 1 J J J (dv J),
   ⟨fb 7 J J J (de Ir AW J J),
   ⟨ca 21 6 J J J (bC cu J J),
   ⟨d6 20 5 22 7 J J J J (ml iX aG J J J q_e2),
   ⟨ca 23 8 J J J (bC aG J J),
   ⟨d6 19 4 24 9 J J J J (aE Sq (IF _ _ q_r1) ⟨(ht J),(ht J),aS⟩),
   ⟨ca 25 10 J J J (uM J),
   aS⟩⟩⟩⟩⟩⟩⟩⟩⟩⟩⟩⟩ ?_
  refine av ?_;refine j7 (Z:=fun n=>nX (jm a1 b tl) n=some R) (Of:=fun n=>[]) (Gf:=fun n=>[(0,bZ (af) a1),(1,bZ (af) b),(8,bI n),(9,bZ (gA) order),(10,jr order),(11,bI (i:Int))]) (fun n h=>?_) (fun K=>?_)
  ·skip
   refine aw<|aF J<|zo J (uL J)<|au<|dd h J (fun h=>?_) (fun h=>?_)
   ·refine aw<|aF J<|bo J<|au<|am ?_;refine aD (ae (ae (aD (ae ?_))));cases so h;exact aL J J
   ·refine bA<|ap<|av<|aq<|zo rfl (lZ (cL hx hN) rfl)<|aF rfl<|aQ ?_;exact bg (aT (ih (i+1) ⟨cK hx,h⟩) (bt J))
  ·skip
   refine aw<|zo J (de XT RE J J)<|zo J (bC Jq J J)<|au<|dd h J (fun h=>?_) (fun h=>?_)
   ·refine aq<|aF J<|zo J (Ia (ht J))<|bo J<|aQ ?_;exact cC (K (IntKind.i64.wrap (0-r1)) h) (bt J)
   ·refine bA ?_;exact cC (K r1 h) (bt J)

theorem XW(order:(List gE)){R:((List ac)→(List ac)→Option Int)}(h:B2 order=some R):aV aR 89 [bZ (gA) order] ((dX aR DL yF (fun(x:(List ac)×(List ac))=>R x.1 x.2))):=by
 refine aV.of Tryz.func89 J J J fun w0 S0=>aw<|zo J (js J)<|zo J (aK hV)<|au<|aw<|zo J ((show bQ _ _ _ _ ((dX aR DL yF (fun(x:(List ac)×(List ac))=>(nY order) x.1 x.2)))from iB (cts:=[bM (fH gA) order]) (caps:=[.tmp 1]) abs ⟨(ht J),aS⟩ (fun x y h=>Vh _ _ _ h)))<|bo J<|au<|am ?_;cases so h;exact aL J J

theorem Ua(rows:(List (List ac)))(order:(List gE))(limit:Int){R:(List (List ac))}(h:oL rows order limit=some R):fJ aR 86 [bZ (cV) rows,bZ (gA) order,bI limit] false cV 43 R:=by
 refine fJ.of Tryz.func86 J J J fun w0 S0=>aw<|bL false cV 43<|zo J (aK rr)<|au<|aw<|bL false cV 43<|zo J (aK rr)<|au<|ah<|aw<|aF J<|zo J (iJ ja J)<|zo J (bG hI)<|au<|aA<|bc (k:=10) J fun hN=>bJ ?_;refine gz<|oR ?_;refine aT (jq (Z:=fun ls i out l c=>(rows.drop i=ls)∧j3 order limit ls out=some R) (Of:=fun _ i out l c=>[eH cV 43 l c out]) (Gf:=fun _ i out l c=>[(1,bZ (gA) order),(2,bI limit),(7,qS l c out),(10,bZ (cV) rows),(11,jr rows),(12,bI (i:Int))]) (fun i out l c h=>?_) (fun e tl ih i out l c h=>?_) rows 0 Bw none 0 ⟨J,h⟩) (bt J)
 ·obtain⟨hx,h⟩:=h
  refine aB<|aw<|zo J (fL J J)<|au<|ah<|bz (ht J) (du hx)<|bu ?_;refine ai (ai (aN ?_));refine av<|aw<|aF rfl<|aF rfl<|bB h fun r q_r h=>zo J (aE acb (XW _ q_r) ⟨(ht J),aS⟩)<|bB h fun rC q_srt h=>?_;refine Fo (n:=out.length) wa ?_ Sp ?_ q_srt ?_ ?_ ?_ ?_ ?_
  ·rfl
  ·rfl
  ·exact(ht J)
  ·rfl
  ·exact(ht J)
  ·rfl
  intro hl
  refine m7 hl 7 J<|m7 hl 22 J<|au ?_;refine yz (Z:=fun out1 l1 c1=>oq out1=some R) (Of:=fun out1 l1 c1=>[eH cV 43 l1 c1 out1]) (Gf:=fun out1 l1 c1=>[(7,qS l1 c1 out1)]) (fun out1 l1 c1 h=>?_) (fun K=>?_)
  ·skip
   refine aw<|aF J<|bo J<|au<|am ?_;cases so h;exact fE J J
  ·skip
   refine aw<|aF J<|zo J (jg (ht J) hI)<|aF J<|dK J J (fun hg=>dv J)<|dK J J (fun hg=>dv J)<|dK J J (fun hg=>i9 ja (.head _) (bP J hg))<|dK J J (fun hg=>gD (bP J hg) (bP J hg))<|zo J (uK J J)<|au<|dd h J (fun h=>?_) (fun h=>?_)
   ·refine aq<|aF J<|aF J<|bB h fun y q_y h=>zo J (kX ja dL J (.head _) (ht J) (ht J) q_y)<|we q_y<|bo J<|aQ ?_;exact cC (K y l c h) (bt J)
   ·refine bA ?_;exact cC (K rC l c h) (bt J)
 ·obtain⟨hx,h⟩:=h
  refine aB<|aw<|zo J (fL J J)<|au<|ah<|bw (ht J) (dl hx)<|dU<|ah<|aA<|aw<|zo J (ml ja dL J J J (cX hx))<|zo J (bC dL J J)<|bo J<|au<|aq<|aF J<|aF J<|bB h fun r1 q_r1 h=>il Su (E4 _ q_r1) ⟨(ht J),aS⟩ J fun l2 c2=>?_;refine ju<|gU 18 J<|zo J (aU (r:=cV) (ys:=[r1]) (xs:=[.tmp 18]) ja dL J J J J J ⟨(kT (ht J)),aS⟩)<|bH<|bB h fun out2 q_out2 h=>cO dL J J J J ja J J (ht J) (ht J) q_out2 fun l3 c3=>bo J<|aQ<|ap<|av<|aq<|zo rfl (lZ (cL hx hN) rfl)<|aF rfl<|aQ<|bv<|be ?_;exact bg (aT (ih (i+1) out2 l3 c3 ⟨cK hx,h⟩) (bt J))
theorem XX(rows:(List (List ac)))(order:(List gE))(limit:Int){R:(List (List ac))}(h:oL rows order limit=some R):aV aR 86 [bZ (cV) rows,bZ (gA) order,bI limit] (bZ (cV) R):=(Ua _ _ _ h).spec

end Go.Proofs.YtfhhakidodmdfaaGreatDoor

