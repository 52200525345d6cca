/- cT of this claim: P8. -/
import Derived.Test.YtfhhakidodmdfaaGreatDoorJeT
import Derived.Test.YtfhhakidodmdfaaGreatDoorJeP7
set_option linter.all false
namespace Go.Proofs.YtfhhakidodmdfaaGreatDoor
open Go
set_option maxRecDepth 100000

theorem ZO(b:Nat)(ix:OI)(r:cW)(n:ak){R:(List (List ac))×Int}(h:jt r n=some R):c0 aR 53 [tV (aP b 0),tD aI n] (jh b r ix) (fun _:OI=>tT [bZ (cV) R.1,bI R.2]) (fun _=>(jh b r ix)):=by
 refine c0.of Tryz.func53 J J J fun w0 S0=>?_;refine(show CG _ _ _ [bx (rH ea [(1,aO (ix.h 0).1 (ix.h 0).2 r.rows.length),(2,aO (ix.h 1).1 (ix.h 1).2 r.width.length)]) 96 b r,dS c9 32 (ix.h 0).1 (ix.h 0).2 r.rows,dS bT 3 (ix.h 1).1 (ix.h 1).2 r.width] _ from ?_);refine aw<|zo J (js J)<|zo J (aK (show aH _ _ _ vz from jO))<|zo J (cF)<|au<|aw<|bL false cV 43<|zo J (aK rr)<|au<|ah<|ah<|bB h fun e q_e h=>?_
 refine dc (ts:=[_,_,_,_,_,_,_,_,_,_]) mixed J J
  ⟨fb 0 J J J (dv J),
  ⟨ca 11 0 J J J (dD (ht J)),
  ⟨ca 12 1 J J J (kp 1 qw J J J),
  ⟨ca 13 2 J J J (dh ro J (.tail _ (.head _)) (.tail _ (.tail _ (.head _))) (ht J)),
  ⟨fb 3 J J J (de jP dR J J),
  ⟨ca 15 4 J J J (bC cu J J),
  ⟨d6 14 3 16 5 J J J J (bp mj fN J (kT (ht J)) (ht J) q_e),
  ⟨ca 17 6 J J J (bC fN J J),
  ⟨ca 18 7 J J J (iJ ja J),
  ⟨Pb J J (bG hI),
  aS⟩⟩⟩⟩⟩⟩⟩⟩⟩⟩ ?_
 refine av<|aA<|bc (k:=18) J fun hN=>bJ ?_;refine aT (jq (Z:=fun ls i out l c=>(e.drop i=ls)∧fU n ls out=some R) (Of:=fun _ i out l c=>[eH cV 43 l c out,bx (rH ea [(1,aO (ix.h 0).1 (ix.h 0).2 r.rows.length),(2,aO (ix.h 1).1 (ix.h 1).2 r.width.length)]) 96 b r,dS c9 32 (ix.h 0).1 (ix.h 0).2 r.rows,dS bT 3 (ix.h 1).1 (ix.h 1).2 r.width]) (Gf:=fun _ i out l c=>[(3,bM aI n),(6,qS l c out),(18,bZ (cV) e),(19,jr e),(20,bI (i:Int))]) (fun i out l c h=>?_) (fun e1 tl ih i out l c h=>?_) e 0 Bw none 0 ⟨J,h⟩) (bt J)
 ·obtain⟨hx,h⟩:=h
  refine aB<|aw<|zo J (fL J J)<|au<|ah<|bz (ht J) (du hx)<|bu ?_;refine ai (ai (aN ?_));refine av<|aw<|aF rfl<|bo rfl<|zo rfl (cF)<|au<|am<|jv<|cE 6 rfl<|cE 40 rfl<|cE 4 rfl<|jw 4 rfl<|be<|aJ<|aJ<|aJ ?_;cases so h;exact d5 (ts:=[bZ (cV) out,bI 0]) (rvs:=[.tmp 4,.tmp 5]) J J ⟨aZ J,aZ J,aS⟩ oU J J
 ·obtain⟨hx,h⟩:=h
  refine aB<|aw<|zo J (fL J J)<|au<|ah<|bw (ht J) (dl hx)<|dU<|ah<|aA<|aw<|zo J (ml ja dL J J J (cX hx))<|zo J (bC dL J J)<|bo J<|au<|aw<|zo J (de uB nS J J)<|zo J (bC kG J J)<|aF J ?_;refine bB h fun r1 q_r1 h=>zo J (aE WG (Ox _ _ q_r1) ⟨(ht J),(ht J),aS⟩)<|aF J<|zo J (gV J J)<|zo J (gV J J)<|bo J<|bo J<|au<|ah<|aw<|aF J<|zo J (uL J)<|au<|dd h J (fun h=>?_) (fun h=>?_)
  ·refine aw<|aF J<|zo J (aK (show aH _ _ _ vz from jO))<|bo J<|au<|am ?_;refine ae (aD (ae (ae (aD (ae ?_)))));refine be<|aJ<|aJ<|aJ ?_;cases so h;exact d5 (ts:=[bZ (cV) ([]),bI r1.2]) (rvs:=[.tmp 4,.tmp 5]) J J ⟨aZ J,aZ J,aS⟩ oU J J
  ·refine dU<|aw<|aF J<|au<|dd h J (fun h=>?_) (fun h=>?_)
   ·refine aq<|aF J<|aF J<|zo J (aU (r:=cV) (ys:=[e1]) (xs:=[.tmp 36]) ja dL J J J J J ⟨(ht J),aS⟩)<|bB h fun out1 q_out1 h=>cO dL J J J J ja J J (ht J) (ht J) q_out1 fun l1 c1=>bo J<|aQ<|ap<|av<|aq<|zo rfl (lZ (cL hx hN) rfl)<|aF rfl<|aQ ?_;exact bg (aT (ih (i+1) out1 l1 c1 ⟨cK hx,h⟩) (bt J))
   ·refine bA<|ap<|av<|aq<|zo rfl (lZ (cL hx hN) rfl)<|aF rfl<|aQ ?_;exact bg (aT (ih (i+1) out l c ⟨cK hx,h⟩) (bt J))

theorem Vo(a1:gM)(rows:(List (List ac))){R:(List ac)×Int}(h:xB a1 rows=some R):aV aR 131 [tD fi a1,bZ (cV) rows] (tT [bZ (af) R.1,bI R.2]):=by
 refine aV.of Tryz.func131 J J J fun w0 S0=>aw<|zo J (js J)<|zo J (aK (show aH _ _ _ (bZ (af) ([]))from jO))<|zo J (cF)<|au<|aw<|bL false af 46<|zo J (aK rr)<|au<|aw<|zo J (cF)<|au<|ah<|aw<|aF J<|zo J (iJ ja J) ?_;refine zo J (bG hI)<|au<|aA<|bc (k:=12) J fun hN=>bJ ?_;refine aT (tB (Z:=fun ls i out l c fault=>(rows.drop i=ls)∧jn a1 ls out fault=some R) (Of:=fun _ i out l c fault=>[eH af 46 l c out]) (Gf:=fun _ i out l c fault=>[(2,bM fi a1),(6,qS l c out),(7,bI fault),(12,bZ (cV) rows),(13,jr rows),(14,bI (i:Int))]) (fun i out l c fault h=>?_) (fun e tl ih i out l c fault h=>?_) rows 0 Hw none 0 (0:Int) ⟨J,h⟩) (bt J)
 ·obtain⟨hx,h⟩:=h
  refine aB<|aw<|zo J (fL J J)<|au<|ah<|bz (ht J) (du hx)<|bu ?_;refine ai (ai (aN ?_));refine av<|aw<|aF rfl<|aF rfl<|bo rfl<|bo rfl<|au<|am<|jv<|cE 6 rfl<|cE 41 rfl<|cE 4 rfl<|jw 4 rfl<|be ?_;cases so h;exact cN J J J
 ·obtain⟨hx,h⟩:=h
  refine aB<|aw<|zo J (fL J J)<|au<|ah<|bw (ht J) (dl hx)<|dU<|ah<|aA<|aw<|zo J (ml ja dL J J J (cX hx))<|zo J (bC dL J J)<|bo J<|au<|aw<|zo J (de BV vf J J)<|zo J (bC kG J J)<|aF J ?_;refine bB h fun r q_r h=>zo J (aE Sr (IG _ _ q_r) ⟨(ht J),(ht J),aS⟩)<|aF J<|zo J (gV J J)<|zo J (gV J J)<|aY (r:=af) (x:=hJ) aG (fun _=>bh _) J fun b=>ax aG J an J (ht J) (ht J)<|aW 10 J<|bo J<|au<|aA<|aw<|aF J<|zo J (nr J)<|bo J<|au<|dd h J (fun h=>?_) (fun h=>?_)
  ·refine aq<|aF J<|bo J<|aQ<|ap<|ap<|av<|aq<|zo rfl (lZ (cL hx hN) rfl)<|aF rfl<|aQ ?_;exact bg (aT (ih (i+1) out l c r.2 ⟨cK hx,h⟩) (bt J))
  ·refine aw<|aF J<|zo J (uL J)<|bo J<|au<|dd h J (fun h=>?_) (fun h=>?_)
   ·refine aw<|zo J (aK (show aH _ _ _ (bZ (af) ([]))from jO))<|zo J (cF)<|au<|am ?_;refine aD (aD (ae (ae (aD (ae ?_)))));refine be ?_;cases so h;exact cN J J J
   ·refine aw<|zo J (de gZ cS J J)<|zo J (bC cu J J)<|zo J (uL J)<|bo J<|au<|dd h J (fun h=>?_) (fun h=>?_)
    ·refine aq<|aF J<|zo J (bC aG J J)<|zo J (aU (r:=af) (ys:=[r.1]) (xs:=[.tmp 37]) jY aG J J J J J ⟨(ht J),aS⟩)<|bB h fun out1 q_out1 h=>cO aG J J J J jY J J (ht J) (ht J) q_out1 fun l1 c1=>bo J<|aQ<|ap<|ap<|av<|aq<|zo rfl (lZ (cL hx hN) rfl)<|aF rfl<|aQ ?_;exact bg (aT (ih (i+1) out1 l1 c1 fault ⟨cK hx,h⟩) (bt J))
    ·refine bA<|ap<|ap<|av<|aq<|zo rfl (lZ (cL hx hN) rfl)<|aF rfl<|aQ ?_;exact bg (aT (ih (i+1) out l c fault ⟨cK hx,h⟩) (bt J))

theorem Vn(v:ac){R:Bool}(h:mJ v=some R):aV aR 132 [tD af v] (iz R):=by
 refine aV.of Tryz.func132 J J J fun w0 S0=>aw<|zo J (js J)<|zo J (jS)<|au<|aw<|zo J (de gZ cS J J)<|zo J (bC cu J J)<|zo J (uL J)<|bo J<|au<|am ?_;cases so h;exact aL J J

theorem UX(s:(List ac))(f:(ac→Option Bool)){R:Int}(h:gk s f=some R):aV aR 215 [bZ (af) s,(dX aR Al nq (fun(x:ac)=>f x))] (bI R):=by
 refine aV.of Tryz.func215 J J J fun w0 S0=>aw<|zo J (cF)<|au<|ah<|aw<|aF J<|zo J (iJ jY J)<|zo J (bG hI)<|au<|aA<|bc (k:=6) J fun hN=>bJ ?_;refine aT (eI (Z:=fun ls i=>(s.drop i=ls)∧cZ f ls i=some R) (Of:=fun _ i=>[]) (Gf:=fun _ i=>[(0,bZ (af) s),(1,(dX aR Al nq (fun(x:ac)=>f x))),(7,jr s),(8,bI (i:Int))]) (fun i h=>?_) (fun e tl ih i h=>?_) s 0 ⟨J,h⟩) (bt J)
 ·obtain⟨hx,h⟩:=h
  refine aB<|aw<|zo J (fL J J)<|au<|ah<|bz (ht J) (du hx)<|bu ?_;refine ai (ai (aN ?_));refine av<|aw<|zo rfl (cF)<|au<|am ?_;cases so h;exact aL J J
 ·obtain⟨hx,h⟩:=h
  refine aB<|aw<|zo J (fL J J)<|au<|ah<|bw (ht J) (dl hx)<|dU<|ah<|aA<|aw<|aF J<|bo J<|au<|aw<|aF J<|aF J<|aF J<|zo J (ml jY aG J J J (cX hx)) ?_;refine zo J (bC aG J J)<|bB h fun r q_r h=>zo J (gS (args:=Al) (res:=Hx) (f:=(fun(x:ac)=>f x)) (x:=((e):ac)) (ht J) q_r ⟨(ht J),aS⟩)<|au<|dd h J (fun h=>?_) (fun h=>?_)
  ·refine aw<|aF J<|bo J<|au<|am ?_;refine aD (ae (ae (aD (ae ?_))));cases so h;exact aL J J
  ·refine bA<|ap<|av<|aq<|zo rfl (lZ (cL hx hN) rfl)<|aF rfl<|aQ ?_;exact bg (aT (ih (i+1) ⟨cK hx,h⟩) (bt J))

theorem Vm(s:(List ac))(f:(ac→Option Bool)){R:Bool}(h:dW s f=some R):aV aR 133 [bZ (af) s,(dX aR Al nq (fun(x:ac)=>f x))] (iz R):=by
 refine aV.of Tryz.func133 J J J fun w0 S0=>aw<|zo J (jS)<|au<|aw<|aF J<|aF J<|bB h fun r q_r h=>zo J (aE aaS (UX _ _ q_r) ⟨(ht J),(ht J),aS⟩)<|zo J (jg (ht J) hI)<|bo J<|au<|am ?_;cases so h;exact aL J J

theorem Iy(v:ac){R:ac}(h:qF v=some R):aV aR 289 [tD af v] (tD af R):=by
 refine aV.of Tryz.func289 J J J fun w0 S0=>aw<|zo J (js J)<|aY (r:=af) (x:=hJ) aG (fun _=>bh _) J fun b=>au<|aw<|zo J (de lP fk J J)<|zo J (bC FO J J)<|zo J (BM (ht J) hI (by decide))<|zo J (de lP fk J J)<|zo J (bC FO J J)<|zo J (rX Ab Ad (ht J))<|zo J (cn (y:=(⟨(4:Int),((v.N).fdiv (2^(min (Int.toNat (63:Int)) IntKind.i64.bits))),(IntKind.u64.wrap v.N),[]⟩:ac)) aG qb bh (⟨_,_,_,_,_,J,nI,J,hI,⟨_,_,_,_,_,J,oZ,J,(ht J),⟨_,_,_,_,_,J,zw,J,(ht J),J⟩⟩⟩))<|ax aG J an J (ht J) (ht J)<|aW 2 J<|au<|am ?_;cases so h;exact iI J aG J J J

theorem Uz(s:ac)(t:ac){R:ac×Int}(h:vZ s t=some R):aV aR 290 [tD af s,tD af t] (tT [tD af R.1,bI R.2]):=by
 refine aV.of Tryz.func290 J J J fun w0 S0=>aw<|zo J (js J)<|zo J (js J)<|aY (r:=af) (x:=hJ) aG (fun _=>bh _) J fun b=>zo J (cF)<|au<|aw<|zo J (de BW qu J J)<|zo J (bC LL J J)<|zo J (de BW qu J J)<|zo J (bC LL J J)<|bB h fun r q_r h=>zo J (Ki Tryz.func347 (by kernel_rfl) (by kernel_rfl) (by kernel_rfl) (by kernel_rfl) (ht J) (ht J) hI q_r)<|aF J<|zo J (gV J J)<|zo J (gV J J)<|bo J<|bo J<|au ?_;refine aw<|zo J (de lP fk J J)<|zo J (bC FO J J)<|zo J (rX Ab Ad (ht J))<|zo J (de lP fk J J)<|zo J (bC FO J J)<|zo J (rX Ab Ad (ht J))<|aF J<|bB h fun r1 q_r1 h=>zo J (Ki Tryz.func347 (by kernel_rfl) (by kernel_rfl) (by kernel_rfl) (by kernel_rfl) (ht J) (ht J) (ht J) q_r1)<|aF J<|zo J (gV J J)<|zo J (gV J J)<|bo J<|bo J<|au<|aw<|aF J<|zo J (rX Ad Ab (ht J))<|bo J<|aQ ?_;refine av<|ah<|aw<|zo rfl (de lP fk rfl rfl)<|zo rfl (bC FO rfl rfl)<|aF rfl<|zo rfl (BL (ht rfl) (ht rfl))<|zo rfl (de lP fk rfl rfl)<|zo rfl (bC FO rfl rfl)<|aF rfl<|zo rfl (BL (ht rfl) (ht rfl))<|zo rfl (BO (ht rfl) (ht rfl))<|zo rfl (gD (ht rfl) hI)<|au<|dd h rfl (fun h=>?_) (fun h=>?_)
 ·refine aw<|zo J (cn (y:=hJ) aG qb bh (J))<|ax aG J an J (ht J) (ht J)<|zo J (cF)<|au<|am<|ae<|bn 4 J ?_;cases so h;exact bS J J ⟨br aG J J J,aZ J,aS⟩
 ·refine dU<|aw<|aF J<|aF J<|zo J (cn (y:=(⟨(4:Int),(IntKind.i64.wrap r1.1),r.1,[]⟩:ac)) aG qb bh (⟨_,_,_,_,_,J,nI,J,hI,⟨_,_,_,_,_,J,oZ,J,(ht J),⟨_,_,_,_,_,J,zw,J,(ht J),J⟩⟩⟩))<|ax aG J an J (ht J) (ht J)<|zo J (cF)<|au<|am<|bn 4 J ?_;cases so h;exact bS J J ⟨br aG J J J,aZ J,aS⟩

theorem UW(s:ac)(v:ac){R:ac×Int}(h:sv s v=some R):aV aR 217 [tD af s,tD af v] (tT [tD af R.1,bI R.2]):=by
 refine aV.of Tryz.func217 J J J fun w0 S0=>aw<|zo J (js J)<|zo J (js J)<|aY (r:=af) (x:=hJ) aG (fun _=>bh _) J fun b=>zo J (cF)<|au<|ah<|ah<|bB h fun r q_r h=>bB h fun r1 q_r1 h=>?_
 refine dc (ts:=[_,_,_,_,_,_,_,_]) mixed J J
  ⟨fb 2 J J J (bC aG J J),
  ⟨ca 8 0 J J J (aU (r:=af) (ys:=[s]) (xs:=[.tmp 8]) jY aG J J J J J ⟨(ht J),aS⟩),
  ⟨ca 9 1 J J J (aE OL (Do _ _ q_r) ⟨hI,(ht J),aS⟩),
  ⟨fb 3 J J J (bC aG J J),
  ⟨ca 11 3 J J J (aU (r:=af) (ys:=[v]) (xs:=[.tmp 11]) jY aG J J J J J ⟨(ht J),aS⟩),
  ⟨ca 12 4 J J J (aE OL (Do _ _ q_r1) ⟨hI,(ht J),aS⟩),
  ⟨ca 10 2 J J J (uM J),
  ⟨ca 13 5 J J J (uM J),
  aS⟩⟩⟩⟩⟩⟩⟩⟩ ?_
 refine av<|aA<|aw<|aF rfl<|zo rfl (nr rfl)<|aF rfl<|gY rfl rfl (fun hg=>dv J)<|gY J J (fun hg=>dw (bP J hg) hI)<|zo J (yE J J)<|bo J<|au<|dd h J (fun h=>?_) (fun h=>?_)
 ·refine aw<|zo J (cn (y:=hJ) aG qb bh (J))<|ax aG J an J (ht J) (ht J)<|zo J (cF)<|au<|am ?_;refine aD (ae ?_);refine bn 4 J ?_;cases so h;exact bS J J ⟨br aG J J J,aZ J,aS⟩
 ·refine aw<|aF J<|zo J (uL J)<|aF J<|gY J J (fun hg=>dv J)<|gY J J (fun hg=>fM (bP J hg) hI)<|zo J (yE J J)<|bo J<|au<|dd h J (fun h=>?_) (fun h=>?_)
  ·refine aw<|zo J (cn (y:=hJ) aG qb bh (J))<|ax aG J an J (ht J) (ht J)<|zo J (cF)<|au<|am ?_;refine aD (ae ?_);refine bn 4 J ?_;cases so h;exact bS J J ⟨br aG J J J,aZ J,aS⟩
  ·refine aw<|zo J (de gZ cS J J)<|zo J (bC cu J J)<|zo J (nr J)<|bo J<|au<|dd h J (fun h=>?_) (fun h=>?_)
   ·refine aw<|zo J (bC aG J J)<|ax aG J an J (ht J) (ht J)<|zo J (cF)<|au<|am ?_;refine aD (ae ?_);refine bn 4 J ?_;cases so h;exact bS J J ⟨br aG J J J,aZ J,aS⟩
   ·refine aw<|zo J (de gZ cS J J)<|zo J (bC cu J J)<|zo J (nr J)<|bo J<|au<|dd h J (fun h=>?_) (fun h=>?_)
    ·refine aw<|zo J (bC aG J J)<|bB h fun r2 q_r2 h=>zo J (aE Sh (Iy _ q_r2) ⟨(ht J),aS⟩)<|ax aG J an J (ht J) (ht J)<|zo J (cF)<|au<|am ?_;refine aD (ae ?_);refine bn 4 J ?_;cases so h;exact bS J J ⟨br aG J J J,aZ J,aS⟩
    ·refine bA<|ap<|av<|ah<|bB h fun r3 q_r3 h=>bB h fun r4 q_r4 h=>?_
     refine tF 6 (ts:=[tD af s,tD af v,tD af r3,tT [tD af r4.1,bI r4.2],tD af r4.1,bI r4.2]) mixed J J J
      ⟨fb 2 J J J (bC aG J J),
      ⟨fb 3 J J J (bC aG J J),
      ⟨ca 42 1 J J J (aE Sh (Iy _ q_r3) ⟨(ht J),aS⟩),
      ⟨d6 41 0 43 2 J J J J (aE aat (Uz _ _ q_r4) ⟨(ht J),(ht J),aS⟩),
      ⟨ca 44 3 J J J (gV J J),
      ⟨ca 44 3 J J J (gV J J),
      aS⟩⟩⟩⟩⟩⟩ ?_
     refine ax aG J an J (ht J) (ht J)<|bo J<|au<|am<|bn 4 J ?_;cases so h;exact bS J J ⟨br aG J J J,aZ J,aS⟩

theorem UV(s:ac){R:ac×Int}(h:yq s=some R):aV aR 218 [tD af s] (tT [tD af R.1,bI R.2]):=by
 refine aV.of Tryz.func218 J J J fun w0 S0=>aw<|zo J (js J)<|aY (r:=af) (x:=hJ) aG (fun _=>bh _) J fun b=>zo J (cF)<|au<|ah<|aw<|zo J (bC aG J J)<|zo J (aU (r:=af) (ys:=[s]) (xs:=[.tmp 6]) jY aG J J J J J ⟨(ht J),aS⟩)<|bB h fun r q_r h=>zo J (aE OL (Do _ _ q_r) ⟨hI,(ht J),aS⟩)<|bo J<|au<|aA<|aw<|aF J<|zo J (uL J)<|bo J ?_;refine au<|dd h J (fun h=>?_) (fun h=>?_)
 ·refine aw<|zo J (cn (y:=hJ) aG qb bh (J))<|aF J<|ax aG J an J (ht J) (ht J)<|bo J<|au<|am ?_;refine aD (ae ?_);refine bn 2 J ?_;cases so h;exact bS J J ⟨br aG J J J,aZ J,aS⟩
 ·refine aw<|zo J (de gZ cS J J)<|zo J (bC cu J J)<|zo J (nr J)<|bo J<|au<|dd h J (fun h=>?_) (fun h=>?_)
  ·refine aw<|zo J (bC aG J J)<|ax aG J an J (ht J) (ht J)<|zo J (cF)<|au<|am ?_;refine aD (ae ?_);refine bn 2 J ?_;cases so h;exact bS J J ⟨br aG J J J,aZ J,aS⟩
  ·refine bA<|ap<|av<|ah<|aw<|zo rfl (de BW qu rfl rfl)<|zo rfl (bC LL rfl rfl)<|zo rfl (rX Ad Ab (ht rfl))<|bB h fun r1 q_r1 h=>zo J (aE KX (A1 _ q_r1) ⟨(ht J),aS⟩)<|aY (r:=af) (x:=hJ) aG (fun _=>bh _) J fun b1=>ax aG J an J (ht J) (ht J)<|aW 5 J<|au<|ah<|bB h fun r2 q_r2 h=>?_
   refine dc (ts:=[_,_,_,_]) mixed J J
    ⟨fb 5 J J J (bC aG J J),
    ⟨ca 23 0 J J J (aE Sh (Iy _ q_r2) ⟨(ht J),aS⟩),
    ⟨fb 1 J J J (bC aG J J),
    ⟨d6 24 1 25 2 J J J J (Dh PN (ht J) (ht J)),
    aS⟩⟩⟩⟩ ?_
   refine av<|dd h rfl (fun h=>?_) (fun h=>?_)
   ·refine aw<|zo J (bC aG J J)<|ax aG J an J (ht J) (ht J)<|zo J (cF)<|au<|am<|ae<|bn 2 J ?_;cases so h;exact bS J J ⟨br aG J J J,aZ J,aS⟩
   ·refine dU<|aw<|zo J (cn (y:=hJ) aG qb bh (J))<|ax aG J an J (ht J) (ht J)<|zo J (cF)<|au<|am<|bn 2 J ?_;cases so h;exact bS J J ⟨br aG J J J,aZ J,aS⟩

theorem Vl(l:(List ac)){R:ac×Int}(h:yr l=some R):aV aR 134 [bZ (af) l] (tT [tD af R.1,bI R.2]):=by
 refine aV.of Tryz.func134 J J J fun w0 S0=>aw<|aY (r:=af) (x:=hJ) aG (fun _=>bh _) J fun b=>zo J (cF)<|au<|ah<|aw<|aF J<|zo J (iJ jY J)<|zo J (gm (ht J) hI)<|au<|dd h J (fun h=>?_) (fun h=>?_)
 ·refine aw<|zo J (cn (y:=hJ) aG qb bh (J))<|ax aG J an J (ht J) (ht J)<|zo J (cF)<|au<|am<|ae<|bn 2 J ?_;cases so h;exact bS J J ⟨br aG J J J,aZ J,aS⟩
 ·refine dU<|aw<|bB h fun r q_r h=>zo J (aE Sm (ID q_r) trivial)<|aY (r:=af) (x:=hJ) aG (fun _=>bh _) J fun b1=>ax aG J an J (ht J) (ht J)<|au<|ah<|aw<|aF J<|zo J (iJ jY J)<|zo J (bG hI)<|au<|aA<|bc (k:=14) J fun hN=>bJ<|gz ?_;refine aT (tE (Z:=fun ls i x s=>(l.drop i=ls)∧mO ls x s=some R) (Of:=fun _ i x s=>[bx af 46 b x,bx af 46 b1 s]) (Gf:=fun _ i x s=>[(2,tV (aP b 0)),(4,tV (aP b1 0)),(14,bZ (af) l),(15,jr l),(16,bI (i:Int))]) (fun i x s h=>?_) (fun e tl ih i x s h=>?_) l 0 hJ r ⟨J,h⟩) (bt J)
  ·obtain⟨hx,h⟩:=h
   refine aB<|aw<|zo J (fL J J)<|au<|ah<|bz (ht J) (du hx)<|bu ?_;refine ai (ai (aN ?_));refine av<|aw<|zo rfl (ce aG rfl rfl bR (.tail _ (.head _)) (ht rfl))<|bB h fun r1 q_r1 h=>zo J (aE aaQ (UV _ q_r1) ⟨(ht J),aS⟩)<|zo J (gV J J)<|zo J (gV J J)<|ax aG J an J (ht J) (ht J)<|bo J<|au<|am<|bn 2 J<|be ?_;cases so h;exact bS J J ⟨br aG J J J,aZ J,aS⟩
  ·obtain⟨hx,h⟩:=h
   refine aB<|aw<|zo J (fL J J)<|au<|ah<|bw (ht J) (dl hx)<|dU<|ah<|aA<|aw<|zo J (ml jY aG J J J (cX hx))<|zo J (bC aG J J)<|aY (r:=af) (x:=hJ) aG (fun _=>bh _) J fun b2=>ax aG J an J (ht J) (ht J)<|aW 6 J<|au<|aw<|zo J (ce aG J J bR (.tail _ (.head _)) (ht J)) ?_;refine zo J (bC aG J J)<|bB h fun r2 q_r2 h=>zo J (aE aaR (UW _ _ q_r2) ⟨(ht J),(ht J),aS⟩)<|aF J<|zo J (gV J J)<|zo J (gV J J)<|aY (r:=af) (x:=hJ) aG (fun _=>bh _) J fun b3=>ax aG J an J (ht J) (ht J)<|aW 7 J<|bo J<|au<|ah<|aw<|aF J<|zo J (uL J)<|au<|dd h J (fun h=>?_) (fun h=>?_)
   ·refine aw<|zo J (bC aG J J)<|aF J<|ax aG J an J (ht J) (ht J)<|bo J<|au<|am ?_;refine ae (aD (ae (ae (aD (ae ?_)))));refine bn 2 J<|be ?_;cases so h;exact bS J J ⟨br aG J J J,aZ J,aS⟩
   ·refine dU<|aq<|zo J (bC aG J J)<|bH<|ax aG J an J (ht J) (ht J)<|aQ<|ap<|av<|aq<|zo rfl (lZ (cL hx hN) rfl)<|aF rfl<|aQ<|bv ?_;exact bg (aT (ih (i+1) x r2.1 ⟨cK hx,h⟩) (bt J))

theorem Vk(p:(List ac))(cmp:(ac→ac→Option Int)){R:ac}(h:eM p cmp=some R):aV aR 135 [bZ (af) p,(dX aR p8 yF (fun(x:ac×ac)=>cmp x.1 x.2))] (tD af R):=by
 refine aV.of Tryz.func135 J J J fun w0 S0=>aw<|aY (r:=af) (x:=hJ) aG (fun _=>bh _) J fun b=>au ?_;refine vp (Z:=f9 p cmp=some R) (Of:=[bx af 46 b hJ]) (Gf:=[(0,bZ (af) p),(1,(dX aR p8 yF (fun(x:ac×ac)=>cmp x.1 x.2))),(4,tV (aP b 0))]) (fun h=>?_) (fun K=>?_)
 ·skip
  refine aw<|aF J<|bB h fun e q_e h=>zo J (bp jY aG J (ht J) hI q_e)<|zo J (bC aG J J)<|aY (r:=af) (x:=hJ) aG (fun _=>bh _) J fun b1=>ax aG J an J (ht J) (ht J)<|au<|ah<|aw<|zo J (cF)<|au<|aA<|bc (k:=0) J fun hN=>bJ<|gz ?_;refine aT (oa (Z:=fun ls i m=>(p.drop i=ls)∧cG cmp ls m=some R) (Of:=fun _ i m=>[bx af 46 b hJ,bx af 46 b1 m]) (Gf:=fun _ i m=>[(0,bZ (af) p),(1,(dX aR p8 yF (fun(x:ac×ac)=>cmp x.1 x.2))),(4,tV (aP b 0)),(5,tV (aP b1 0)),(6,bI (i:Int))]) (fun i m h=>?_) (fun e1 tl ih i m h=>?_) (p.drop (1)) 1 e ⟨J,h⟩) (bt J)
  ·obtain⟨hx,h⟩:=h
   refine aB<|ah<|aw<|aF J<|aF J<|zo J (iJ jY J)<|zo J (fL J J)<|au<|bz (ht J) (du hx)<|bu ?_;refine ai (ai (aN ?_));refine av<|aw<|zo rfl (ce aG rfl rfl bR (.tail _ (.head _)) (ht rfl))<|ax aG rfl an rfl (ht rfl) (ht rfl)<|aW 4 rfl<|au<|am<|be ?_;cases so h;exact iI J aG J J J
  ·obtain⟨hx,h⟩:=h
   refine aB<|ah<|aw<|aF J<|aF J<|zo J (iJ jY J)<|zo J (fL J J)<|au<|bw (ht J) (dl hx)<|dU<|ah<|aA<|ah<|bB h fun r q_r h=>?_
   refine dc (ts:=[_,_,_,_,_,_,_,_]) mixed J J
    ⟨fb 1 J J J (dv J),
    ⟨fb 0 J J J (dv J),
    ⟨fb 6 J J J (dv J),
    ⟨d6 21 1 22 2 J J J J (ml jY aG J J J (cX hx)),
    ⟨ca 23 3 J J J (bC aG J J),
    ⟨fb 5 J J J (ce aG J J bR (.tail _ (.head _)) (ht J)),
    ⟨Gq 20 0 24 4 25 5 J J J J J (gS (args:=p8) (res:=SZ) (f:=(fun(x:ac×ac)=>cmp x.1 x.2)) (x:=((e1,m):ac×ac)) (ht J) q_r ⟨(ht J),(ht J),aS⟩),
    ⟨ca 26 6 J J J (gD (ht J) hI),
    aS⟩⟩⟩⟩⟩⟩⟩⟩ ?_
   refine av<|dd h rfl (fun h=>?_) (fun h=>?_)
   ·refine aq<|aF J<|aF J<|zo J (ml jY aG J J J (cX hx))<|zo J (bC aG J J)<|bH<|ax aG J an J (ht J) (ht J)<|aQ<|ap<|av<|aq<|aF rfl<|zo rfl (lZ (cL hx hN) rfl)<|bo rfl<|aQ<|bv ?_;exact bg (aT (ih (i+1) e1 ⟨cK hx,h⟩) (bt J))
   ·refine bA<|ap<|av<|aq<|aF rfl<|zo rfl (lZ (cL hx hN) rfl)<|bo rfl<|aQ ?_;exact bg (aT (ih (i+1) m ⟨cK hx,h⟩) (bt J))
 ·skip
  refine aw<|aF J<|zo J (iJ jY J)<|zo J (gD (ht J) hI)<|au<|dd h J (fun h=>?_) (fun h=>?_)
  ·refine aq ?_;exact(nn h).elim
  ·refine bA ?_;exact cC (K h) (bt J)

theorem Vf(v:ac){R:Bool}(h:qW v=some R):aV aR 158 [tD af v] (iz R):=by
 refine aV.of Tryz.func158 J J J fun w0 S0=>aw<|zo J (js J)<|zo J (jS)<|au<|aw<|zo J (bC aG J J)<|bB h fun r q_r h=>zo J (aE KY (A2 _ q_r) ⟨(ht J),aS⟩)<|zo J (uL J)<|bo J<|au<|am ?_;cases so h;exact aL J J

theorem UT(s:(List ac))(f:(ac→Option Bool)){R:Int}(h:j9 s f=some R):aV aR 242 [bZ (af) s,(dX aR Al nq (fun(x:ac)=>f x))] (bI R):=by
 refine aV.of Tryz.func242 J J J fun w0 S0=>aw<|zo J (cF)<|au<|ah<|aw<|aF J<|zo J (iJ iX J)<|zo J (bG hI)<|au<|aA<|bc (k:=6) J fun hN=>bJ ?_;refine aT (eI (Z:=fun ls i=>(s.drop i=ls)∧cI f ls i=some R) (Of:=fun _ i=>[]) (Gf:=fun _ i=>[(0,bZ (af) s),(1,(dX aR Al nq (fun(x:ac)=>f x))),(7,jr s),(8,bI (i:Int))]) (fun i h=>?_) (fun e tl ih i h=>?_) s 0 ⟨J,h⟩) (bt J)
 ·obtain⟨hx,h⟩:=h
  refine aB<|aw<|zo J (fL J J)<|au<|ah<|bz (ht J) (du hx)<|bu ?_;refine ai (ai (aN ?_));refine av<|aw<|zo rfl (cF)<|au<|am ?_;cases so h;exact aL J J
 ·obtain⟨hx,h⟩:=h
  refine aB<|aw<|zo J (fL J J)<|au<|ah<|bw (ht J) (dl hx)<|dU<|ah<|aA<|aw<|aF J<|bo J<|au<|aw<|aF J<|aF J<|aF J<|zo J (ml iX aG J J J (cX hx)) ?_;refine zo J (bC aG J J)<|bB h fun r q_r h=>zo J (gS (args:=Al) (res:=Hx) (f:=(fun(x:ac)=>f x)) (x:=((e):ac)) (ht J) q_r ⟨(ht J),aS⟩)<|au<|dd h J (fun h=>?_) (fun h=>?_)
  ·refine aw<|aF J<|bo J<|au<|am ?_;refine aD (ae (ae (aD (ae ?_))));cases so h;exact aL J J
  ·refine bA<|ap<|av<|aq<|zo rfl (lZ (cL hx hN) rfl)<|aF rfl<|aQ ?_;exact bg (aT (ih (i+1) ⟨cK hx,h⟩) (bt J))

theorem Ve(s:(List ac))(f:(ac→Option Bool)){R:Bool}(h:gb s f=some R):aV aR 159 [bZ (af) s,(dX aR Al nq (fun(x:ac)=>f x))] (iz R):=by
 refine aV.of Tryz.func159 J J J fun w0 S0=>aw<|zo J (jS)<|au<|aw<|aF J<|aF J<|bB h fun r q_r h=>zo J (aE aaO (UT _ _ q_r) ⟨(ht J),(ht J),aS⟩)<|zo J (jg (ht J) hI)<|bo J<|au<|am ?_;cases so h;exact aL J J

theorem MJ(r:(List ac)){R:Bool}(h:sj r=some R):aV aR 94 [bZ (af) r] (iz R):=by
 refine aV.of Tryz.func94 J J J fun w0 S0=>aw<|zo J (jS)<|au<|aw<|zo J (aK (show aH _ _ _ ((dX aR Al nq (fun(x:ac)=>qW x)))from(y9 abq fun x y h=>Vf _ h)))<|au<|aw<|aF J<|zo J (iJ iX J)<|zo J (nN (ht J) hI)<|aF J<|bB h fun t q_t h=>dK J J (fun hg=>dv J)<|dK J J (fun hg=>dv J) ?_
 obtain⟨r1,h1t,h0t⟩:=og q_t
 have q_r1g:=fun hb=>(h1t hb).1
 refine dK J J (fun hg=>aE abp (Ve _ _ (q_r1g hg)) ⟨(bP J hg),(bP J hg),aS⟩)<|dK J J (fun hg=>gg (bP J hg))<|zo J (ff (ht J) (fun hb=>(bP J hb)) (fun hb=>(h1t hb).2) h0t)<|bo J<|au<|am ?_;cases so h;exact aL J J

end Go.Proofs.YtfhhakidodmdfaaGreatDoor

