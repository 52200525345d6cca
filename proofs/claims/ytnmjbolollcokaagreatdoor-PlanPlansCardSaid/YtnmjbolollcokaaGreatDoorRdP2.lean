/- dr of this claim: P2. -/
import Derived.Test.YtnmjbolollcokaaGreatDoorRdT
import Derived.Test.YtnmjbolollcokaaGreatDoorRdP1
set_option linter.all false
namespace Go.Proofs.YtnmjbolollcokaaGreatDoor
open Go
set_option maxRecDepth 100000

theorem LD(e:bf)(kinds:(List Int)){R:Bool}(h:sD e kinds=some R):bo bl 207 [tD bn e,dI kinds] (gq R):=by
 refine bo.of Tryz.func207 J J J fun w0 S0=>aw<|zo J (jt J)<|zo J (ez)<|au<|aw<|zo J (bm eN J J)<|aE J<|bz h fun r q_r h=>zo J (aC PW (Hg _ _ q_r) ⟨(ht J),(ht J),aT⟩)<|aE J<|zo J (kG J J)<|zo J (kG J J)<|bu J<|bu J<|au<|aw<|aE J<|zo J (iz J) ?_;refine aE J<|bX J J (fun hg=>cG J)<|bX J J (fun hg=>cw (aS J hg) hI)<|bX J J (fun hg=>bQ (aS J hg))<|ee J J J J (fun hg=>cG J)<|ee J J J J (fun hg=>cw (aS J hg) hI)<|bX J J (fun hg=>ql (aS J hg) (fun hb=>(aS J (tF hg (nZ hb)))))<|zo J (mI J J)<|bu J<|au<|ak ?_;cases so h;exact aF J J

theorem UU(b:Nat)(ix:OI)(c:aG)(n:af){R:(List Int)×Bool}(h:iw c n=some R):d2 bl 149 [tV (aM b 0),tD ah n] (d4 b c ix) (fun _:OI=>tT [dI R.1,gq R.2]) (fun _=>(d4 b c ix)):=by
 refine d2.of Tryz.func149 J J J fun w0 S0=>?_;refine(show CG _ _ _ [bx (rH bv [(1,aV (ix.h 0).1 (ix.h 0).2 c.kinds.length),(2,aV (ix.h 1).1 (ix.h 1).2 c.first.length)]) 123 b c,tip gG 42 (ix.h 0).1 (ix.h 0).2 c.kinds,tip cx 3 (ix.h 1).1 (ix.h 1).2 c.first] _ from ?_);refine aw<|zo J (jt J)<|zo J (aU (show aZ _ _ _ mJ from jr))<|zo J (ez)<|au<|ac<|bz h fun e q_e h=>bz h fun e1 q_e1 h=>bz h fun r q_r h=>?_
 refine eu (ts:=[_,_,_,_,_,_,_,_,_,_,_,_,_,_,_,_,_,_,_]) mixed J J
  ⟨ef 0 J J J (cG J),
  ⟨cT 7 0 J J J (eJ (ht J)),
  ⟨cT 8 1 J J J (dy 1 oc J J J),
  ⟨cT 9 2 J J J (eY wW J (.head _) (.tail _ (.head _)) (ht J)),
  ⟨ef 3 J J J (bD fC cY J J),
  ⟨cT 11 4 J J J (bm bA J J),
  ⟨dG 10 3 12 5 J J J J (aQ uw cD J (kT (ht J)) (ht J) q_e),
  ⟨cT 13 6 J J J (bm cD J J),
  ⟨ef 0 J J J (cG J),
  ⟨cT 15 8 J J J (eJ (ht J)),
  ⟨cT 16 9 J J J (dy 1 oc J J J),
  ⟨cT 17 10 J J J (eY wW J (.head _) (.tail _ (.head _)) (ht J)),
  ⟨ef 3 J J J (bD iy d9 J J),
  ⟨cT 19 12 J J J (bm bA J J),
  ⟨dG 18 11 20 13 J J J J (aQ uw cD J (kT (ht J)) (ht J) q_e1),
  ⟨cT 21 14 J J J (bm cD J J),
  ⟨dG 14 7 22 15 J J J J (aN (r:=oS) (ys:=[e,e1]) (xs:=[.tmp 14,.tmp 22]) uw cD J J J J J ⟨(ht J),(ht J),aT⟩),
  ⟨cT 23 16 J J J (aC WS (RD _ q_r) ⟨(ht J),aT⟩),
  ⟨cT 24 17 J J J (zm J),
  aT⟩⟩⟩⟩⟩⟩⟩⟩⟩⟩⟩⟩⟩⟩⟩⟩⟩⟩⟩ ?_
 refine aq<|aw<|aE rfl<|zo rfl (bD p7 jB rfl rfl)<|zo rfl (bm eN rfl rfl)<|aE rfl<|bz h fun r1 q_r1 h=>zo J (aC SQ (LD _ _ q_r1) ⟨(ht J),(ht J),aT⟩)<|bu J<|bu J<|au<|ak<|aD<|aD<|aD ?_;cases so h;exact ln (ts:=[dI r,gq r1]) (rvs:=[.tmp 4,.tmp 5]) J J ⟨dA J,dA J,aT⟩ nz J J

theorem UT(b:Nat)(ix:OI)(c:aG)(n:af){R:(List Int)×Bool}(h:gC c n=some R):d2 bl 150 [tV (aM b 0),tD ah n] (d4 b c ix) (fun _:OI=>tT [dI R.1,gq R.2]) (fun _=>(d4 b c ix)):=by
 refine d2.of Tryz.func150 J J J fun w0 S0=>?_;refine(show CG _ _ _ [bx (rH bv [(1,aV (ix.h 0).1 (ix.h 0).2 c.kinds.length),(2,aV (ix.h 1).1 (ix.h 1).2 c.first.length)]) 123 b c,tip gG 42 (ix.h 0).1 (ix.h 0).2 c.kinds,tip cx 3 (ix.h 1).1 (ix.h 1).2 c.first] _ from ?_);refine aw<|zo J (jt J)<|zo J (aU (show aZ _ _ _ mJ from jr))<|zo J (ez)<|au<|ac<|bz h fun e q_e h=>bz h fun r q_r h=>?_
 refine eu (ts:=[_,_,_,_,_,_,_,_,_,_,_,_,_,_,_,_,_,_,_,_,_]) mixed J J
  ⟨ef 0 J J J (cG J),
  ⟨cT 6 0 J J J (eJ (ht J)),
  ⟨cT 7 1 J J J (dy 1 oc J J J),
  ⟨cT 8 2 J J J (eY wW J (.head _) (.tail _ (.head _)) (ht J)),
  ⟨ef 3 J J J (bD fC cY J J),
  ⟨cT 10 4 J J J (bm bA J J),
  ⟨dG 9 3 11 5 J J J J (aQ uw cD J (kT (ht J)) (ht J) q_e),
  ⟨cT 12 6 J J J (bm cD J J),
  ⟨ef 3 J J J (bD p7 jB J J),
  ⟨cT 14 8 J J J (bm eN J J),
  ⟨ef 0 J J J (cG J),
  ⟨cT 16 10 J J J (eJ (ht J)),
  ⟨cT 17 11 J J J (dy 1 oc J J J),
  ⟨cT 18 12 J J J (eY wW J (.head _) (.tail _ (.head _)) (ht J)),
  ⟨ef 3 J J J (bD fC cY J J),
  ⟨cT 20 14 J J J (bm bA J J),
  ⟨dG 19 13 21 15 J J J J (aQ uw cD J (kT (ht J)) (ht J) q_e),
  ⟨cT 22 16 J J J (bm cD J J),
  ⟨dG 15 9 23 17 J J J J (aC SQ (LD _ _ q_r) ⟨(ht J),(ht J),aT⟩),
  ⟨cT 13 7 J J J (zm J),
  ⟨cT 24 18 J J J (zm J),
  aT⟩⟩⟩⟩⟩⟩⟩⟩⟩⟩⟩⟩⟩⟩⟩⟩⟩⟩⟩⟩⟩ ?_
 refine aq<|ak<|aD<|aD<|aD ?_;cases so h;exact ln (ts:=[dI e,gq r]) (rvs:=[.tmp 4,.tmp 5]) J J ⟨dA J,dA J,aT⟩ nz J J

theorem Rm(kinds:(List Int))(c:Int){R:Bool}(h:qJ kinds c=some R):bo bl 238 [cb c,bt gG kinds] (gq R):=by
 refine bo.of Tryz.func238 J J J fun w0 S0=>aw<|zo J (ez)<|au<|aw<|aE J<|zo J (eO (ht J) hI)<|aE J<|ci J J (fun hg=>cG J)<|ci J J (fun hg=>bm cD J J)<|ci J J (fun hg=>bU dc (aS J hg))<|ci J J (fun hg=>cU (aS J hg) (aS J hg))<|zo J (nW J J)<|bu J<|au<|ak ?_;cases so h;exact aF J J

theorem RC(l:(List Int))(kinds:(List Int)){R:Bool}(h:tp l kinds=some R):bo bl 208 [dI l,dI kinds] (gq R):=by
 refine bo.of Tryz.func208 J J J fun w0 S0=>aw<|zo J (jt J)<|zo J (ez)<|au<|aw<|aE J<|zo J ((show cH _ _ _ _ ((kz bl N7 qr (fun(x:Int)=>(qJ kinds) x)))from sx (cts:=[bt gG kinds]) (caps:=[.tmp 3]) WA ⟨(ht J),aT⟩ (fun x y h=>Rm _ _ h)))<|bz h fun r q_r h=>zo J (aC SV (LJ _ _ q_r) ⟨(ht J),(ht J),aT⟩)<|zo J (dh (ht J))<|bu J<|au<|ak ?_;cases so h;exact aF J J

theorem RB(a1:ip)(kinds:(List Int)){R:Int×Bool}(h:yw a1 kinds=some R):bo bl 209 [tD dP a1,dI kinds] (tT [cb R.1,gq R.2]):=by
 refine bo.of Tryz.func209 J J J fun w0 S0=>aw<|zo J (jt J)<|zo J (dB)<|zo J (ez)<|au<|ac<|aw<|zo J (bD rt mX J J)<|zo J (bm bA J J)<|zo J (iz J)<|au<|cE h J (fun h=>?_) (fun h=>?_)
 ·refine ac ?_
  refine eu (ts:=[_,_,_,_,_,_,_]) mixed J J
   ⟨ef 2 J J J (bD wx qM J J),
   ⟨cT 11 0 J J J (bD de bZ J J),
   ⟨cT 12 1 J J J (bm ir J J),
   ⟨cT 13 2 J J J (fW oo J),
   ⟨cT 14 3 J J J (iz J),
   ⟨Vn J J (dB),
   ⟨cT 15 4 J J J (zm J),
   aT⟩⟩⟩⟩⟩⟩⟩ ?_
  refine aq<|ak<|M ?_;cases so h;exact co J J J
 ·refine dz<|aw<|zo J (bD wx qM J J)<|zo J (bm eN J J)<|aE J<|bz h fun r q_r h=>zo J (aC PW (Hg _ _ q_r) ⟨(ht J),(ht J),aT⟩)<|aE J<|zo J (kG J J)<|zo J (kG J J)<|bu J<|bu J<|au<|ac<|aw<|zo J (bD rt mX J J)<|zo J (bm bA J J)<|au<|ax ?_;refine aw<|zo J (iz J)<|bu J<|au<|cE h J (fun h=>?_) (fun h=>?_)
  ·refine aw<|aE J<|zo J (iz J)<|zo J (dB)<|bu J<|au<|ak ?_;refine ay (M ?_);cases so h;exact co J J J
  ·refine aw<|zo J (iz J)<|bu J<|au<|cE h J (fun h=>?_) (fun h=>?_)
   ·refine aw<|aE J<|zo J (iz J)<|aE J<|bX J J (fun hg=>cG J)<|bX J J (fun hg=>cw (aS J hg) hI)<|bX J J (fun hg=>bQ (aS J hg))<|ee J J J J (fun hg=>cG J)<|ee J J J J (fun hg=>cw (aS J hg) hI)<|bX J J (fun hg=>ql (aS J hg) (fun hb=>(aS J (tF hg (nZ hb)))))<|zo J (mI J J)<|zo J (dB)<|bu J<|au<|ak ?_;refine ay (M ?_);cases so h;exact co J J J
   ·refine dD (Z:=fun x=>tt r x=some R) (Of:=fun x=>[]) (Gf:=fun x=>[(6,cb r.1),(7,cb r.2),(41,gq x)]) (fun x h=>?_) (fun K=>?_)
    ·skip
     refine cE h J (fun h=>?_) (fun h=>?_)
     ·refine aw<|aE J<|aE J<|zo J (iz J)<|bu J<|bu J<|au<|ak ?_;refine ay (M ?_);cases so h;exact co J J J
     ·refine bk<|an<|aq<|aw<|zo rfl (dB)<|zo rfl (ez)<|au<|ak ?_;cases so h;exact co J J J
    ·skip
     refine aw<|zo J (iz J)<|bu J<|au<|cE h J (fun h=>?_) (fun h=>?_)
     ·refine bk ?_;exact bJ (K (a1.Tag==(4:Int)) h) (bg J)
     ·refine am<|zo J (iz J)<|bu J<|aJ ?_;exact bJ (K (a1.Tag==(5:Int)) h) (bg J)

theorem US(b:Nat)(ix:OI)(c:aG)(n:af){R:(List Int)×Bool}(h:hU c n=some R):d2 bl 151 [tV (aM b 0),tD ah n] (d4 b c ix) (fun _:OI=>tT [dI R.1,gq R.2]) (fun _=>(d4 b c ix)):=by
 refine d2.of Tryz.func151 J J J fun w0 S0=>?_;refine(show CG _ _ _ [bx (rH bv [(1,aV (ix.h 0).1 (ix.h 0).2 c.kinds.length),(2,aV (ix.h 1).1 (ix.h 1).2 c.first.length)]) 123 b c,tip gG 42 (ix.h 0).1 (ix.h 0).2 c.kinds,tip cx 3 (ix.h 1).1 (ix.h 1).2 c.first] _ from ?_);refine aw<|zo J (jt J)<|zo J (aU (show aZ _ _ _ mJ from jr))<|zo J (ez)<|au<|ac<|bz h fun e q_e h=>?_
 refine eu (ts:=[_,_,_,_,_,_,_,_,_]) mixed J J
  ⟨ef 0 J J J (cG J),
  ⟨cT 15 0 J J J (eJ (ht J)),
  ⟨cT 16 1 J J J (dy 1 oc J J J),
  ⟨cT 17 2 J J J (eY wW J (.head _) (.tail _ (.head _)) (ht J)),
  ⟨ef 3 J J J (bD fC cY J J),
  ⟨cT 19 4 J J J (bm bA J J),
  ⟨dG 18 3 20 5 J J J J (aQ uw cD J (kT (ht J)) (ht J) q_e),
  ⟨cT 21 6 J J J (bm cD J J),
  ⟨cT 22 7 J J J (zm J),
  aT⟩⟩⟩⟩⟩⟩⟩⟩⟩ ?_
 refine aq<|aw<|zo rfl (bD jP d8 rfl rfl)<|zo rfl (bm cD rfl rfl)<|zo rfl (fW dc rfl)<|zo rfl (g9 (ht rfl) hI)<|aE rfl<|bX rfl rfl (fun hg=>bD io ek J J)<|bX J J (fun hg=>aI pr J J (aS J hg))<|bX J J (fun hg=>bU nC (aS J hg))<|bX J J (fun hg=>g9 (aS J hg) hI)<|zo J (mI J J)<|aE J<|bX J J (fun hg=>bD jP d8 J J)<|bX J J (fun hg=>aI cD J J (aS J hg))<|bX J J (fun hg=>bU dc (aS J hg))<|bX J J (fun hg=>bD io ek J J)<|bX J J (fun hg=>aI pr J J (aS J hg))<|bX J J (fun hg=>bU nC (aS J hg))<|bX J J (fun hg=>ei (aS J hg) (aS J hg))<|bX J J (fun hg=>d5 (aS J hg) hI)<|zo J (mI J J)<|aE J ?_;refine bz h fun t q_t h=>bX J J (fun hg=>bD jP d8 J J)<|bX J J (fun hg=>aI cD J J (aS J hg))<|bX J J (fun hg=>cG J) ?_
 obtain⟨r,h1t,h0t⟩:=og q_t
 have q_rg:=fun hb=>(h1t hb).1
 refine bX J J (fun hg=>aC WR (RC _ _ (q_rg hg)) ⟨(aS J hg),(aS J hg),aT⟩)<|zo J (cS (ht J) (fun hb=>(aS J hb)) (fun hb=>(h1t hb).2) h0t)<|bu J<|au<|ac<|aw<|aE J<|zo J (dh (ht J))<|au<|cE h J (fun h=>?_) (fun h=>?_)
 ·refine aw<|zo J (aU (show aZ _ _ _ mJ from jr))<|zo J (ez)<|au<|ak<|M<|aD<|aD<|aD ?_;cases so h;exact ln (ts:=[dI ([]),gq false]) (rvs:=[.tmp 4,.tmp 5]) J J ⟨dA J,dA J,aT⟩ nz J J
 ·refine dz<|aw<|cd false cx 3<|zo J (aU s6)<|au<|ac<|aw<|zo J (bD jP d8 J J)<|zo J (bm cD J J)<|zo J (fW dc J)<|zo J (bQ hI)<|au<|ax<|br (k:=52) J fun hN=>bB ?_;refine aP (lZ (Z:=fun ls i out l c1=>(n.Keys.drop i=ls)∧gR n e t ls out=some R) (Of:=fun _ i out l c1=>[ga cx 3 l c1 out,bx (rH bv [(1,aV (ix.h 0).1 (ix.h 0).2 c.kinds.length),(2,aV (ix.h 1).1 (ix.h 1).2 c.first.length)]) 123 b c,tip gG 42 (ix.h 0).1 (ix.h 0).2 c.kinds,tip cx 3 (ix.h 1).1 (ix.h 1).2 c.first]) (Gf:=fun _ i out l c1=>[(3,bt ah n),(6,dI e),(7,gq t),(8,oP l c1 out),(52,dI n.Keys),(53,jV n.Keys),(54,cb (i:Int))]) (fun i out l c1 h=>?_) (fun e1 tl ih i out l c1 h=>?_) n.Keys 0 oq none 0 ⟨J,h⟩) (bg J)
  ·obtain⟨hx,h⟩:=h
   refine aB<|aw<|zo J (ft J J)<|au<|ac<|bP (ht J) (dU hx)<|bp ?_;refine ae (ae (aK ?_));refine aq<|ac<|aw<|zo rfl (bD io ek rfl rfl)<|zo rfl (bm pr rfl rfl)<|zo rfl (fW nC rfl)<|zo rfl (bQ hI)<|au<|ax<|br (k:=67) J fun hN1=>bB ?_;refine aP (vL (Z:=fun ls1 i1 cv l1 c2 ok=>(n.Aggs.drop i1=ls1)∧fL e ls1 cv ok=some R) (Of:=fun _ i1 cv l1 c2 ok=>[ga cx 3 l1 c2 cv,bx (rH bv [(1,aV (ix.h 0).1 (ix.h 0).2 c.kinds.length),(2,aV (ix.h 1).1 (ix.h 1).2 c.first.length)]) 123 b c,tip gG 42 (ix.h 0).1 (ix.h 0).2 c.kinds,tip cx 3 (ix.h 1).1 (ix.h 1).2 c.first]) (Gf:=fun _ i1 cv l1 c2 ok=>[(6,dI e),(7,gq ok),(8,oP l1 c2 cv),(67,fc (dP) n.Aggs),(68,jV n.Aggs),(69,cb (i1:Int))]) (fun i1 cv l1 c2 ok h=>?_) (fun e2 tl1 ih1 i1 cv l1 c2 ok h=>?_) n.Aggs 0 out l c1 t ⟨J,h⟩) (bg J)
   ·obtain⟨hx1,h⟩:=h
    refine aB<|aw<|zo J (ft J J)<|au<|ac<|bP (ht J) (dU hx1)<|bp ?_;refine ae (ae (aK ?_));refine aq<|aw<|aE rfl<|aE rfl<|bu rfl<|bu rfl<|au<|ak<|gV<|cC 8 rfl<|cC 88 rfl<|cC 4 rfl<|ik 4 rfl<|aL<|aD<|aD<|aD ?_;cases so h;exact ln (ts:=[dI cv,gq ok]) (rvs:=[.tmp 4,.tmp 5]) J J ⟨dA J,dA J,aT⟩ nz J J
   ·obtain⟨hx1,h⟩:=h
    refine aB<|aw<|zo J (ft J J)<|au<|ac<|bO (ht J) (dN hx1)<|dz<|ac<|ax<|aw<|zo J (iQ nC nX J J J (dO hx1))<|zo J (bm nX J J)<|bj (r:=dP) (x:=Qx) nX (fun _=>zi _) J fun b1=>ai nX J aj J (ht J) (ht J)<|bh 12 J<|au<|aw<|zo J (bm nX J J) ?_;refine aE J<|bz h fun r1 q_r1 h=>zo J (aC WQ (RB _ _ q_r1) ⟨(ht J),(ht J),aT⟩)<|aE J<|zo J (kG J J)<|zo J (kG J J)<|bu J<|bu J<|au<|am<|aE J<|aE J<|zo J (aN (r:=cx) (ys:=[r1.1]) (xs:=[.tmp 80]) dc bA J J J J J ⟨(ht J),aT⟩)<|bz h fun sT q_out2 h=>cK bA J J J J dc J J (ht J) (ht J) q_out2 fun l2 c3=>aE J<|aE J<|bX J J (fun hg=>cG J)<|zo J (mI J J)<|bu J<|bu J<|aJ<|an ?_;refine aq<|am<|zo rfl (nh (dm hx1 hN1) rfl)<|aE rfl<|aJ ?_;exact be (aP (ih1 (i1+1) sT l2 c3 (ok&&r1.2) ⟨dl hx1,h⟩) (bg J))
  ·obtain⟨hx,h⟩:=h
   refine aB<|aw<|zo J (ft J J)<|au<|ac<|bO (ht J) (dN hx)<|dz<|ac<|ax<|aw<|zo J (iQ dc bA J J J (dO hx))<|zo J (bm bA J J)<|bu J<|au<|am<|aE J<|aE J<|aE J<|bz h fun e3 q_e3 h=>?_;refine zo J (iQ dc bA J J J q_e3)<|zo J (bm bA J J)<|zo J (aN (r:=cx) (ys:=[e3]) (xs:=[.tmp 62]) dc bA J J J J J ⟨(ht J),aT⟩)<|bz h fun out3 q_out3 h=>cK bA J J J J dc J J (ht J) (ht J) q_out3 fun l3 c4=>bu J<|aJ<|an<|aq<|am<|zo rfl (nh (dm hx hN) rfl)<|aE rfl<|aJ ?_;exact be (aP (ih (i+1) out3 l3 c4 ⟨dl hx,h⟩) (bg J))

theorem UR(b:Nat)(ix:OI)(c:aG)(n:af){R:(List Int)×Bool}(h:ge c n=some R):d2 bl 152 [tV (aM b 0),tD ah n] (d4 b c ix) (fun _:OI=>tT [dI R.1,gq R.2]) (fun _=>(d4 b c ix)):=by
 refine d2.of Tryz.func152 J J J fun w0 S0=>?_;refine(show CG _ _ _ [bx (rH bv [(1,aV (ix.h 0).1 (ix.h 0).2 c.kinds.length),(2,aV (ix.h 1).1 (ix.h 1).2 c.first.length)]) 123 b c,tip gG 42 (ix.h 0).1 (ix.h 0).2 c.kinds,tip cx 3 (ix.h 1).1 (ix.h 1).2 c.first] _ from ?_);refine aw<|zo J (jt J)<|zo J (aU (show aZ _ _ _ mJ from jr))<|zo J (ez)<|au<|aw<|zo J (bD lg fN J J)<|zo J (bm te J J)<|zo J (fW nc J)<|zo J (cU (ht J) hI)<|aE J<|bX J J (fun hg=>bD lg fN J J)<|bX J J (fun hg=>aI te J J (aS J hg))<|bX J J (fun hg=>bU nc (aS J hg))<|bX J J (fun hg=>g9 (aS J hg) hI)<|zo J (mI J J)<|bu J<|au<|aw ?_;refine cd false cx 3<|zo J (aU s6)<|au<|ac<|aw<|zo J (bD lg fN J J)<|zo J (bm te J J)<|zo J (fW nc J)<|zo J (bQ hI)<|au<|ax<|br (k:=23) J fun hN=>bB ?_;refine aP (vL (Z:=fun ls i out l c1 ok=>(n.Items.drop i=ls)∧fY c n ls out ok=some R) (Of:=fun _ i out l c1 ok=>[ga cx 3 l c1 out,bx (rH bv [(1,aV (ix.h 0).1 (ix.h 0).2 c.kinds.length),(2,aV (ix.h 1).1 (ix.h 1).2 c.first.length)]) 123 b c,tip gG 42 (ix.h 0).1 (ix.h 0).2 c.kinds,tip cx 3 (ix.h 1).1 (ix.h 1).2 c.first]) (Gf:=fun _ i out l c1 ok=>[(0,tV (aM b 0)),(3,bt ah n),(6,gq ok),(7,oP l c1 out),(23,fc (bn) n.Items),(24,jV n.Items),(25,cb (i:Int))]) (fun i out l c1 ok h=>?_) (fun e tl ih i out l c1 ok h=>?_) n.Items 0 oq none 0 ((decide ((1:Int)≤(n.Items.length:Int)))&&(decide ((n.Items.length:Int)≤(16:Int)))) ⟨J,h⟩) (bg J)
 ·obtain⟨hx,h⟩:=h
  refine aB<|aw<|zo J (ft J J)<|au<|ac<|bP (ht J) (dU hx)<|bp ?_;refine ae (ae (aK ?_));refine aq<|aw<|aE rfl<|aE rfl<|bu rfl<|bu rfl<|au<|ak<|gV<|cC 7 rfl<|cC 52 rfl<|cC 4 rfl<|ik 4 rfl<|aL<|aD<|aD<|aD ?_;cases so h;exact ln (ts:=[dI out,gq ok]) (rvs:=[.tmp 4,.tmp 5]) J J ⟨dA J,dA J,aT⟩ nz J J
 ·obtain⟨hx,h⟩:=h
  refine aB<|aw<|zo J (ft J J)<|au<|ac<|bO (ht J) (dN hx)<|dz<|ac<|ax<|aw<|zo J (iQ nc eN J J J (dO hx))<|zo J (bm eN J J)<|bj (r:=bn) (x:=nD) eN (fun _=>rA _) J fun b1=>ai eN J aj J (ht J) (ht J)<|bh 9 J<|au<|ac<|bz h fun e1 q_e1 h=>bz h fun r q_r h=>?_
  refine eu (ts:=[_,_,_,_,_,_,_,_,_,_,_,_,_,_,_]) mixed J J
   ⟨ef 9 J J J (bm eN J J),
   ⟨ef 0 J J J (cG J),
   ⟨cT 31 1 J J J (eJ (ht J)),
   ⟨cT 32 2 J J J (dy 1 oc J J J),
   ⟨cT 33 3 J J J (eY wW J (.tail _ (.head _)) (.tail _ (.tail _ (.head _))) (ht J)),
   ⟨ef 3 J J J (bD fC cY J J),
   ⟨cT 35 5 J J J (bm bA J J),
   ⟨dG 34 4 36 6 J J J J (aQ uw cD J (kT (ht J)) (ht J) q_e1),
   ⟨cT 37 7 J J J (bm cD J J),
   ⟨dG 30 0 38 8 J J J J (aC PW (Hg _ _ q_r) ⟨(ht J),(ht J),aT⟩),
   ⟨cT 39 9 J J J (cG J),
   ⟨cT 29 10 J J J (kG J J),
   ⟨cT 29 10 J J J (kG J J),
   ⟨cT 40 11 J J J (zm J),
   ⟨cT 41 12 J J J (zm J),
   aT⟩⟩⟩⟩⟩⟩⟩⟩⟩⟩⟩⟩⟩⟩⟩ ?_
  refine aq<|am<|aE rfl<|aE rfl<|zo rfl (aN (r:=cx) (ys:=[r.1]) (xs:=[.tmp 43]) dc bA J J J J J ⟨(ht J),aT⟩)<|bz h fun cv q_out1 h=>cK bA J J J J dc J J (ht J) (ht J) q_out1 fun l1 c2=>aE J<|aE J<|bX J J (fun hg=>cG J)<|bX J J (fun hg=>cw (aS J hg) hI)<|zo J (mI J J)<|bu J<|bu J<|aJ<|an<|aq<|am<|zo rfl (nh (dm hx hN) rfl)<|aE rfl<|aJ ?_;exact be (aP (ih (i+1) cv l1 c2 (ok&&(r.2==(0:Int))) ⟨dl hx,h⟩) (bg J))

theorem UQ(b:Nat)(ix:OI)(c:aG)(n:af){R:(List Int)×Bool}(h:fM c n=some R):d2 bl 153 [tV (aM b 0),tD ah n] (d4 b c ix) (fun _:OI=>tT [dI R.1,gq R.2]) (fun _=>(d4 b c ix)):=by
 refine d2.of Tryz.func153 J J J fun w0 S0=>?_;refine(show CG _ _ _ [bx (rH bv [(1,aV (ix.h 0).1 (ix.h 0).2 c.kinds.length),(2,aV (ix.h 1).1 (ix.h 1).2 c.first.length)]) 123 b c,tip gG 42 (ix.h 0).1 (ix.h 0).2 c.kinds,tip cx 3 (ix.h 1).1 (ix.h 1).2 c.first] _ from ?_);refine aw<|zo J (jt J)<|zo J (aU (show aZ _ _ _ mJ from jr))<|zo J (ez)<|au<|ac<|bz h fun e q_e h=>?_
 refine eu (ts:=[_,_,_,_,_,_,_,_,_,_]) mixed J J
  ⟨ef 0 J J J (cG J),
  ⟨cT 6 0 J J J (eJ (ht J)),
  ⟨cT 7 1 J J J (dy 1 oc J J J),
  ⟨cT 8 2 J J J (eY wW J (.head _) (.tail _ (.head _)) (ht J)),
  ⟨ef 3 J J J (bD fC cY J J),
  ⟨cT 10 4 J J J (bm bA J J),
  ⟨dG 9 3 11 5 J J J J (aQ uw cD J (kT (ht J)) (ht J) q_e),
  ⟨cT 12 6 J J J (bm cD J J),
  ⟨cT 13 7 J J J (zm J),
  ⟨Vn J J (ez),
  aT⟩⟩⟩⟩⟩⟩⟩⟩⟩⟩ ?_
 refine aq<|ak<|aD<|aD<|aD ?_;cases so h;exact ln (ts:=[dI e,gq true]) (rvs:=[.tmp 4,.tmp 5]) J J ⟨dA J,dA J,aT⟩ nz J J

theorem UP(b:Nat)(ix:OI)(c:aG)(n:af){R:(List Int)×Bool}(h:hJ c n=some R):d2 bl 154 [tV (aM b 0),tD ah n] (d4 b c ix) (fun _:OI=>tT [dI R.1,gq R.2]) (fun _=>(d4 b c ix)):=by
 refine d2.of Tryz.func154 J J J fun w0 S0=>?_;refine(show CG _ _ _ [bx (rH bv [(1,aV (ix.h 0).1 (ix.h 0).2 c.kinds.length),(2,aV (ix.h 1).1 (ix.h 1).2 c.first.length)]) 123 b c,tip gG 42 (ix.h 0).1 (ix.h 0).2 c.kinds,tip cx 3 (ix.h 1).1 (ix.h 1).2 c.first] _ from ?_);refine aw<|zo J (jt J)<|zo J (aU (show aZ _ _ _ mJ from jr))<|zo J (ez)<|au<|ac<|bz h fun e q_e h=>bz h fun e1 q_e1 h=>?_
 refine eu (ts:=[_,_,_,_,_,_,_,_,_,_,_,_,_,_,_,_,_,_]) mixed J J
  ⟨ef 0 J J J (cG J),
  ⟨cT 12 0 J J J (eJ (ht J)),
  ⟨cT 13 1 J J J (dy 1 oc J J J),
  ⟨cT 14 2 J J J (eY wW J (.head _) (.tail _ (.head _)) (ht J)),
  ⟨ef 3 J J J (bD fC cY J J),
  ⟨cT 16 4 J J J (bm bA J J),
  ⟨dG 15 3 17 5 J J J J (aQ uw cD J (kT (ht J)) (ht J) q_e),
  ⟨cT 18 6 J J J (bm cD J J),
  ⟨ef 0 J J J (cG J),
  ⟨cT 20 8 J J J (eJ (ht J)),
  ⟨cT 21 9 J J J (dy 1 oc J J J),
  ⟨cT 22 10 J J J (eY wW J (.head _) (.tail _ (.head _)) (ht J)),
  ⟨ef 3 J J J (bD iy d9 J J),
  ⟨cT 24 12 J J J (bm bA J J),
  ⟨dG 23 11 25 13 J J J J (aQ uw cD J (kT (ht J)) (ht J) q_e1),
  ⟨cT 26 14 J J J (bm cD J J),
  ⟨cT 19 7 J J J (zm J),
  ⟨cT 27 15 J J J (zm J),
  aT⟩⟩⟩⟩⟩⟩⟩⟩⟩⟩⟩⟩⟩⟩⟩⟩⟩⟩ ?_
 refine aq<|ac<|aw<|aE rfl<|zo rfl (fW dc rfl)<|aE rfl<|zo rfl (fW dc rfl)<|zo rfl (cF (ht rfl) (ht rfl))<|au<|cE h rfl (fun h=>?_) (fun h=>?_)
 ·refine aw<|zo J (aU (show aZ _ _ _ mJ from jr))<|zo J (ez)<|au<|ak<|M<|aD<|aD<|aD ?_;cases so h;exact ln (ts:=[dI ([]),gq false]) (rvs:=[.tmp 4,.tmp 5]) J J ⟨dA J,dA J,aT⟩ nz J J
 ·refine dz<|aw<|aE J<|bz h fun r q_r h=>lY Je (C7 _ q_r) ⟨(ht J),aT⟩ J fun l c1=>bu J<|au<|aw<|zo J (ez)<|au<|ac<|aw<|aE J<|zo J (fW dc J)<|zo J (bQ hI)<|au<|ax ?_;refine br (k:=35) J fun hN=>bB ?_;refine aP (sL (Z:=fun ls i out ok=>(e1.drop i=ls)∧d7 ls i out ok=some R) (Of:=fun _ i out ok=>[ga cx 3 l c1 out,bx (rH bv [(1,aV (ix.h 0).1 (ix.h 0).2 c.kinds.length),(2,aV (ix.h 1).1 (ix.h 1).2 c.first.length)]) 123 b c,tip gG 42 (ix.h 0).1 (ix.h 0).2 c.kinds,tip cx 3 (ix.h 1).1 (ix.h 1).2 c.first]) (Gf:=fun _ i out ok=>[(8,oP l c1 out),(9,gq ok),(35,dI e1),(36,jV e1),(37,cb (i:Int))]) (fun i out ok h=>?_) (fun e2 tl ih i out ok h=>?_) e1 0 r true ⟨J,h⟩) (bg J)
  ·obtain⟨hx,h⟩:=h
   refine aB<|aw<|zo J (ft J J)<|au<|ac<|bP (ht J) (dU hx)<|bp ?_;refine ae (ae (aK ?_));refine aq<|aw<|aE rfl<|aE rfl<|bu rfl<|bu rfl<|au<|ak<|gV<|cC 8 rfl<|cC 65 rfl<|cC 4 rfl<|ik 4 rfl<|aL<|aD<|aD<|aD ?_;cases so h;exact ln (ts:=[dI out,gq ok]) (rvs:=[.tmp 4,.tmp 5]) J J ⟨dA J,dA J,aT⟩ nz J J
  ·obtain⟨hx,h⟩:=h
   refine aB<|aw<|zo J (ft J J)<|au<|ac<|bO (ht J) (dN hx)<|dz<|ac<|ax<|aw<|aE J<|zo J (iQ dc bA J J J (dO hx))<|zo J (bm bA J J)<|bu J<|bu J<|au ?_;refine dD (Z:=fun cv=>i9 (d7 tl) i e2 ok cv=some R) (Of:=fun cv=>[ga cx 3 l c1 cv,bx (rH bv [(1,aV (ix.h 0).1 (ix.h 0).2 c.kinds.length),(2,aV (ix.h 1).1 (ix.h 1).2 c.first.length)]) 123 b c,tip gG 42 (ix.h 0).1 (ix.h 0).2 c.kinds,tip cx 3 (ix.h 1).1 (ix.h 1).2 c.first]) (Gf:=fun cv=>[(8,oP l c1 cv),(9,gq ok),(10,cb (i:Int)),(11,cb e2),(35,dI e1),(36,jV e1),(37,cb (i:Int))]) (fun cv h=>?_) (fun K=>?_)
   ·skip
    refine am<|aE J<|aE J<|bz h fun t q_t h=>bX J J (fun hg=>cG J)<|bX J J (fun hg=>cG J) ?_
    obtain⟨e3,h1t,h0t⟩:=og q_t
    have q_e3g:=fun hb=>(h1t hb).1
    refine bX J J (fun hg=>cV dc bA (.head _) (aS J hg) (aS J hg) (q_e3g hg))<|bX J J (fun hg=>gn (r:=cx) (i:=(i:Int)) (foff:=0) bA J J aR J (.head _) (q_e3g hg) (aS J hg))<|bX J J (fun hg=>cG J)<|bX J J (fun hg=>cw (aS J hg) (aS J hg))<|bX J J (fun hg=>bQ (aS J hg))<|ee J J J J (fun hg=>cG J)<|ee J J J J (fun hg=>cw (aS J hg) hI)<|bX J J (fun hg=>ql (aS J hg) (fun hb=>(aS J (tF hg (nZ hb)))))<|zo J (cS (ht J) (fun hb=>(aS J hb)) (fun hb=>(h1t hb).2) h0t)<|bu J<|aJ<|an<|aq<|am<|zo rfl (nh (dm hx hN) rfl)<|aE rfl<|aJ ?_;exact be (aP (ih (i+1) cv t ⟨dl hx,h⟩) (bg J))
   ·skip
    refine aw<|aE J<|aE J<|bz h fun e4 q_e4 h=>zo J (cV dc bA (.head _) (ht J) (ht J) q_e4)<|zo J (gn (r:=cx) (i:=(i:Int)) (foff:=0) bA J J aR J (.head _) q_e4 (ht J))<|zo J (iz J)<|au<|cE h J (fun h=>?_) (fun h=>?_)
    ·refine am<|aE J<|aE J<|aE J<|zo J (cV dc bA (.head _) (ht J) (ht J) q_e4)<|bz h fun st q_st h=>pf bA J aj J q_e4 (so q_st) (ht J) (ht J)<|gT (jJ (so q_st)) 8 J<|gT (jJ (so q_st)) 42 J<|gT (jJ (so q_st)) 47 J<|aJ ?_;exact bJ (K st h) (bg J)
    ·refine bk ?_;exact bJ (K out h) (bg J)

theorem RA(in1:(List Int))(o:mB){R:Bool}(h:lq in1 o=some R):bo bl 211 [tD kJ o,bt gG in1] (gq R):=by
 refine bo.of Tryz.func211 J J J fun w0 S0=>aw<|zo J (jt J)<|zo J (ez)<|au<|aw<|zo J (bD C5 xN J J)<|zo J (bm bA J J)<|zo J (eO (ht J) hI)<|aE J<|ci J J (fun hg=>bD C5 xN J J)<|ci J J (fun hg=>aI bA J J (aS J hg))<|ci J J (fun hg=>bm cD J J)<|ci J J (fun hg=>bU dc (aS J hg))<|ci J J (fun hg=>cU (aS J hg) (aS J hg))<|zo J (nW J J)<|bu J<|au<|ak ?_;cases so h;exact aF J J

theorem Rj(s:(List mB))(f:(mB→Option Bool)){R:Int}(h:iU s f=some R):bo bl 242 [fc (kJ) s,(kz bl N9 qr (fun(x:mB)=>f x))] (cb R):=by
 refine bo.of Tryz.func242 J J J fun w0 S0=>aw<|zo J (dB)<|au<|ac<|aw<|aE J<|zo J (fW vS J)<|zo J (bQ hI)<|au<|ax<|br (k:=6) J fun hN=>bB ?_;refine aP (em (Z:=fun ls i=>(s.drop i=ls)∧ed f ls i=some R) (Of:=fun _ i=>[]) (Gf:=fun _ i=>[(0,fc (kJ) s),(1,(kz bl N9 qr (fun(x:mB)=>f x))),(7,jV s),(8,cb (i:Int))]) (fun i h=>?_) (fun e tl ih i h=>?_) s 0 ⟨J,h⟩) (bg J)
 ·obtain⟨hx,h⟩:=h
  refine aB<|aw<|zo J (ft J J)<|au<|ac<|bP (ht J) (dU hx)<|bp ?_;refine ae (ae (aK ?_));refine aq<|aw<|zo rfl (dB)<|au<|ak ?_;cases so h;exact aF J J
 ·obtain⟨hx,h⟩:=h
  refine aB<|aw<|zo J (ft J J)<|au<|ac<|bO (ht J) (dN hx)<|dz<|ac<|ax<|aw<|aE J<|bu J<|au<|aw<|aE J<|aE J<|aE J<|zo J (iQ vS yV J J J (dO hx)) ?_;refine zo J (bm yV J J)<|bz h fun r q_r h=>zo J (lS (args:=N9) (res:=JI) (f:=(fun(x:mB)=>f x)) (x:=((e):mB)) (ht J) q_r ⟨(ht J),aT⟩)<|au<|cE h J (fun h=>?_) (fun h=>?_)
  ·refine aw<|aE J<|bu J<|au<|ak ?_;refine ay (M (M (ay (M ?_))));cases so h;exact aF J J
  ·refine bk<|an<|aq<|am<|zo rfl (nh (dm hx hN) rfl)<|aE rfl<|aJ ?_;exact be (aP (ih (i+1) ⟨dl hx,h⟩) (bg J))

end Go.Proofs.YtnmjbolollcokaaGreatDoor

