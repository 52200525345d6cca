/- dr of this claim: P5. -/
import Derived.Test.YtnmjbolollcokaaGreatDoorRdT
import Derived.Test.YtnmjbolollcokaaGreatDoorRdP4
set_option linter.all false
namespace Go.Proofs.YtnmjbolollcokaaGreatDoor
open Go
set_option maxRecDepth 100000

theorem Us(t:ca){R:Bool}(h:lF t=some R):bo bl 58 [tD di t] (gq R):=by
 refine bo.of Tryz.func58 J J J fun w0 S0=>aw<|zo J (jt J)<|zo J (ez)<|au<|aw<|zo J (bm se J J)<|bz h fun r q_r h=>zo J (aC YK (Ur _ q_r) ⟨(ht J),aT⟩)<|zo J (Gw J)<|bu J<|au<|ak ?_;cases so h;exact aF J J

theorem LP(s:(List ca))(f:(ca→Option Bool)){R:Int}(h:dX s f=some R):bo bl 100 [fc (di) s,(kz bl Ac qr (fun(x:ca)=>f x))] (cb R):=by
 refine bo.of Tryz.func100 J J J fun w0 S0=>aw<|zo J (dB)<|au<|ac<|aw<|aE J<|zo J (fW ux J)<|zo J (bQ hI)<|au<|ax<|br (k:=6) J fun hN=>bB ?_;refine aP (em (Z:=fun ls i=>(s.drop i=ls)∧cy f ls i=some R) (Of:=fun _ i=>[]) (Gf:=fun _ i=>[(0,fc (di) s),(1,(kz bl Ac qr (fun(x:ca)=>f x))),(7,jV s),(8,cb (i:Int))]) (fun i h=>?_) (fun e tl ih i h=>?_) s 0 ⟨J,h⟩) (bg J)
 ·obtain⟨hx,h⟩:=h
  refine aB<|aw<|zo J (ft J J)<|au<|ac<|bP (ht J) (dU hx)<|bp ?_;refine ae (ae (aK ?_));refine aq<|aw<|zo rfl (dB)<|au<|ak ?_;cases so h;exact aF J J
 ·obtain⟨hx,h⟩:=h
  refine aB<|aw<|zo J (ft J J)<|au<|ac<|bO (ht J) (dN hx)<|dz<|ac<|ax<|aw<|aE J<|bu J<|au<|aw<|aE J<|aE J<|aE J<|zo J (iQ ux se J J J (dO hx)) ?_;refine zo J (bm se J J)<|bz h fun r q_r h=>zo J (lS (args:=Ac) (res:=JI) (f:=(fun(x:ca)=>f x)) (x:=((e):ca)) (ht J) q_r ⟨(ht J),aT⟩)<|au<|cE h J (fun h=>?_) (fun h=>?_)
  ·refine aw<|aE J<|bu J<|au<|ak ?_;refine ay (M (M (ay (M ?_))));cases so h;exact aF J J
  ·refine bk<|an<|aq<|am<|zo rfl (nh (dm hx hN) rfl)<|aE rfl<|aJ ?_;exact be (aP (ih (i+1) ⟨dl hx,h⟩) (bg J))

theorem Uq(s:(List ca))(f:(ca→Option Bool)){R:Bool}(h:gr s f=some R):bo bl 60 [fc (di) s,(kz bl Ac qr (fun(x:ca)=>f x))] (gq R):=by
 refine bo.of Tryz.func60 J J J fun w0 S0=>aw<|zo J (ez)<|au<|aw<|aE J<|aE J<|bz h fun r q_r h=>zo J (aC SY (LP _ _ q_r) ⟨(ht J),(ht J),aT⟩)<|zo J (cU (ht J) hI)<|bu J<|au<|ak ?_;cases so h;exact aF J J

theorem RU(of:(ca→Option jb))(name:jb)(p:ca){R:Bool}(h:fZ of name p=some R):bo bl 177 [tD di p,bt (rT ((kz bl Ac yI (fun(x:ca)=>of x)))) (),bt rS name] (gq R):=by
 refine bo.of Tryz.func177 J J J fun w0 S0=>aw<|zo J (jt J)<|zo J (ez)<|au<|ac<|bz h fun r q_r h=>?_
 refine eu (ts:=[_,_,_,_,_,_]) mixed J J
  ⟨ef 1 J J J (Ay VL (ht J)),
  ⟨ef 3 J J J (bm se J J),
  ⟨dG 5 0 6 1 J J J J (lS (args:=Ac) (res:=yI) (f:=(fun(x:ca)=>of x)) (x:=((p):ca)) (ht J) q_r ⟨(ht J),aT⟩),
  ⟨ef 2 J J J (bm A9 J J),
  ⟨dG 7 2 8 3 J J J J (qI (ht J) (ht J)),
  ⟨cT 9 4 J J J (zm J),
  aT⟩⟩⟩⟩⟩⟩ ?_
 refine aq<|ak ?_;cases so h;exact aF J J

theorem Sf(l:(List ca))(of:(ca→Option jb))(name:jb){R:Int×Bool}(h:kN l of name=some R):bo bl 101 [fc (di) l,(kz bl Ac yI (fun(x:ca)=>of x)),tD rS name] (tT [cb R.1,gq R.2]):=by
 refine bo.of Tryz.func101 J J J fun w0 S0=>aw<|zo J (GW (ht J))<|zo J (jt J)<|zo J (dB)<|zo J (ez)<|au<|aw<|aE J<|zo J ((show cH _ _ _ _ ((kz bl Ac qr (fun(x:ca)=>(fZ of name) x)))from sx (cts:=[bt (rT ((kz bl Ac yI (fun(x:ca)=>of x)))) (),bt rS name]) (caps:=[.tmp 4,.tmp 5]) Xi ⟨(ht J),(ht J),aT⟩ (fun x y h=>RU _ _ _ h)))<|bz h fun r q_r h=>zo J (aC SY (LP _ _ q_r) ⟨(ht J),(ht J),aT⟩)<|bu J<|au<|aw<|aE J<|zo J (GU (ht J) hI)<|aE J<|zo J (cU (ht J) hI) ?_;refine bu J<|bu J<|au<|ak ?_;cases so h;exact co J J J

theorem Up(l:(List ca))(of:(ca→Option jb)){R:Bool}(h:nu l of=some R):bo bl 61 [fc (di) l,(kz bl Ac yI (fun(x:ca)=>of x))] (gq R):=by
 refine bo.of Tryz.func61 J J J fun w0 S0=>aw<|zo J (ez)<|au<|ac<|aw<|aE J<|zo J (fW ux J)<|zo J (bQ hI)<|au<|ax<|br (k:=9) J fun hN=>bB ?_;refine aP (em (Z:=fun ls i=>(l.drop i=ls)∧gY l of ls i=some R) (Of:=fun _ i=>[]) (Gf:=fun _ i=>[(0,fc (di) l),(1,(kz bl Ac yI (fun(x:ca)=>of x))),(9,fc (di) l),(10,jV l),(11,cb (i:Int))]) (fun i h=>?_) (fun e tl ih i h=>?_) l 0 ⟨J,h⟩) (bg J)
 ·obtain⟨hx,h⟩:=h
  refine aB<|aw<|zo J (ft J J)<|au<|ac<|bP (ht J) (dU hx)<|bp ?_;refine ae (ae (aK ?_));refine aq<|aw<|zo rfl (ez)<|au<|ak ?_;cases so h;exact aF J J
 ·obtain⟨hx,h⟩:=h
  refine aB<|aw<|zo J (ft J J)<|au<|ac<|bO (ht J) (dN hx)<|dz<|ac<|ax<|aw<|aE J<|zo J (iQ ux se J J J (dO hx))<|zo J (bm se J J)<|bj (r:=di) (x:=(⟨[],[],[]⟩:ca)) se (fun _=>Ab _) J fun b=>bu J<|ai se J aj J (ht J) (ht J)<|bh 6 J<|au<|ac ?_;refine am<|aE J<|aE J<|aE J<|zo J (bm se J J)<|bz h fun r q_r h=>zo J (lS (args:=Ac) (res:=yI) (f:=(fun(x:ca)=>of x)) (x:=((e):ca)) (ht J) q_r ⟨(ht J),aT⟩)<|bz h fun r1 q_r1 h=>zo J (aC XQ (Sf _ _ _ q_r1) ⟨(ht J),(ht J),(ht J),aT⟩)<|aE J<|zo J (kG J J)<|zo J (kG J J)<|bu J<|bu J<|au<|aw<|aE J<|aE J<|zo J (cF (ht J) (ht J))<|aE J<|bz h fun t q_t h=>ci J J (fun hg=>cG J) ?_;refine ci J J (fun hg=>bm se J J) ?_
  obtain⟨r2,h1t,h0t⟩:=og q_t
  have q_r2g:=fun hb=>(h1t hb).1
  refine ci J J (fun hg=>lS (args:=Ac) (res:=yI) (f:=(fun(x:ca)=>of x)) (x:=((e):ca)) (aS J hg) (q_r2g hg) ⟨(aS J hg),aT⟩) ?_
  obtain⟨r3,h1t⟩:=OR (fun hb=>(h1t hb).2)
  have q_r3g:=fun hb=>(h1t hb).1
  refine ci J J (fun hg=>aC Vd (Kw _ (q_r3g hg)) ⟨(aS J hg),aT⟩)<|ci J J (fun hg=>dh (aS J hg))<|zo J (dj (ht J) (fun hb=>(aS J (nZ hb))) (fun hb=>(h1t hb).2) h0t)<|au<|cE h J (fun h=>?_) (fun h=>?_)
  ·refine aw<|zo J (ez)<|au<|ak ?_;refine ay (M (M (ay (M ?_))));cases so h;exact aF J J
  ·refine bk<|an<|aq<|am<|zo rfl (nh (dm hx hN) rfl)<|aE rfl<|aJ ?_;exact be (aP (ih (i+1) ⟨dl hx,h⟩) (bg J))

theorem Uo(t:ca){R:jb}(h:gp t=some R):bo bl 62 [tD di t] (tD rS R):=by
 refine bo.of Tryz.func62 J J J fun w0 S0=>aw<|zo J (jt J)<|zo J (aU hS)<|au<|aw<|zo J (bD BH rr J J)<|zo J (bm A9 J J)<|bu J<|au<|ak ?_;cases so h;exact aF J J

theorem UG(c:ce){R:Int}(h:rX c=some R):bo bl 32 [tD da c] (cb R):=by
 refine bo.of Tryz.func32 J J J fun w0 S0=>aw<|zo J (jt J)<|zo J (dB)<|au<|aw<|zo J (aU (show aZ _ _ _ ((kz bl Ac qr (fun(x:ca)=>lF x)))from(T4 YL fun x y h=>Us _ h)))<|au<|ac<|aw<|zo J (bD oM eM J J)<|zo J (bm xi J J)<|zo J (fW ux J)<|zo J (d5 (ht J) hI)<|aE J<|bz h fun t q_t h=>ci J J (fun hg=>bD oM eM J J)<|ci J J (fun hg=>aI xi J J (aS J hg))<|ci J J (fun hg=>cG J) ?_
 obtain⟨r,h1t,h0t⟩:=og q_t
 have q_rg:=fun hb=>(h1t hb).1
 refine ci J J (fun hg=>aC YJ (Uq _ _ (q_rg hg)) ⟨(aS J hg),(aS J hg),aT⟩)<|zo J (dj (ht J) (fun hb=>(aS J (nZ hb))) (fun hb=>(h1t hb).2) h0t)<|aE J<|bz h fun t1 q_t1 h=>ci J J (fun hg=>bD oM eM J J)<|ci J J (fun hg=>aI xi J J (aS J hg)) ?_
 obtain⟨r1,h1t1,h0t1⟩:=og q_t1
 have q_r1g:=fun hb=>(h1t1 hb).1
 refine ci J J (fun hg=>aC YI (Up _ _ (q_r1g hg)) ⟨(aS J hg),(T4 YH fun x y h=>Uo _ h),aT⟩)<|ci J J (fun hg=>dh (aS J hg))<|zo J (dj (ht J) (fun hb=>(aS J (nZ hb))) (fun hb=>(h1t1 hb).2) h0t1)<|au<|cE h J (fun h=>?_) (fun h=>?_)
 ·refine aw<|zo J (dB)<|au<|ak<|M ?_;cases so h;exact aF J J
 ·refine dz<|aw<|zo J (dB)<|au<|ak ?_;cases so h;exact aF J J

theorem Kx(s1:(List Int))(s2:(List Int)){R:Bool}(h:fF s1 s2=some R):bo bl 63 [dI s1,dI s2] (gq R):=by
 refine bo.of Tryz.func63 J J J fun w0 S0=>aw<|zo J (ez)<|au<|ac<|aw<|aE J<|zo J (fW dc J)<|aE J<|zo J (fW dc J)<|zo J (cF (ht J) (ht J))<|au<|cE h J (fun h=>?_) (fun h=>?_)
 ·refine aw<|zo J (ez)<|au<|ak<|M ?_;cases so h;exact aF J J
 ·refine dz<|ac<|aw<|aE J<|zo J (fW dc J)<|zo J (bQ hI)<|au<|ax<|br (k:=11) J fun hN=>bB ?_;refine aP (em (Z:=fun ls i=>(s1.drop i=ls)∧gv s2 ls i=some R) (Of:=fun _ i=>[]) (Gf:=fun _ i=>[(0,dI s1),(1,dI s2),(12,jV s1),(13,cb (i:Int))]) (fun i h=>?_) (fun e tl ih i h=>?_) s1 0 ⟨J,h⟩) (bg J)
  ·obtain⟨hx,h⟩:=h
   refine aB<|aw<|zo J (ft J J)<|au<|ac<|bP (ht J) (dU hx)<|bp ?_;refine ae (ae (aK ?_));refine aq<|aw<|zo rfl (ez)<|au<|ak ?_;cases so h;exact aF J J
  ·obtain⟨hx,h⟩:=h
   refine aB<|aw<|zo J (ft J J)<|au<|ac<|bO (ht J) (dN hx)<|dz<|ac<|ax<|aw<|aE J<|bu J<|au<|ac<|bz h fun e1 q_e1 h=>?_
   refine eu (ts:=[_,_,_,_,_,_,_,_,_]) mixed J J
    ⟨ef 0 J J J (cG J),
    ⟨ef 5 J J J (cG J),
    ⟨dG 16 0 17 1 J J J J (iQ dc bA J J J (dO hx)),
    ⟨cT 18 2 J J J (bm bA J J),
    ⟨ef 1 J J J (cG J),
    ⟨ef 5 J J J (cG J),
    ⟨dG 20 4 21 5 J J J J (iQ dc bA J J J q_e1),
    ⟨cT 22 6 J J J (bm bA J J),
    ⟨dG 19 3 23 7 J J J J (cF (ht J) (ht J)),
    aT⟩⟩⟩⟩⟩⟩⟩⟩⟩ ?_
   refine aq<|cE h rfl (fun h=>?_) (fun h=>?_)
   ·refine aw<|zo J (ez)<|au<|ak ?_;refine ay (M (M (ay (M ?_))));cases so h;exact aF J J
   ·refine bk<|an<|aq<|am<|zo rfl (nh (dm hx hN) rfl)<|aE rfl<|aJ ?_;exact be (aP (ih (i+1) ⟨dl hx,h⟩) (bg J))

theorem UF(l:bR)(c:ce){R:Bool}(h:zC l c=some R):bo bl 33 [tD ck l,tD da c] (gq R):=by
 refine bo.of Tryz.func33 J J J fun w0 S0=>aw<|zo J (jt J)<|zo J (jt J)<|zo J (ez)<|au<|ac<|aw<|zo J (bD jn dM J J)<|zo J (bm iB J J)<|zo J (fW om J)<|zo J (bQ hI)<|au<|ax<|br (k:=11) J fun hN=>bB ?_;refine aP (em (Z:=fun ls i=>(l.Nodes.drop i=ls)∧kQ c ls=some R) (Of:=fun _ i=>[]) (Gf:=fun _ i=>[(3,bt da c),(11,fc (ah) l.Nodes),(12,jV l.Nodes),(13,cb (i:Int))]) (fun i h=>?_) (fun e tl ih i h=>?_) l.Nodes 0 ⟨J,h⟩) (bg J)
 ·obtain⟨hx,h⟩:=h
  refine aB<|aw<|zo J (ft J J)<|au<|ac<|bP (ht J) (dU hx)<|bp ?_;refine ae (ae (aK ?_));refine aq<|aw<|zo rfl (ez)<|au<|ak ?_;cases so h;exact aF J J
 ·obtain⟨hx,h⟩:=h
  refine aB<|aw<|zo J (ft J J)<|au<|ac<|bO (ht J) (dN hx)<|dz<|ac ?_;refine BV (Z:=rN (kQ c tl)=some R) (Of:=[]) (Gf:=[(3,bt da c),(11,fc (ah) l.Nodes),(12,jV l.Nodes),(13,cb (i:Int))]) (fun h=>?_) (fun K=>?_)
  ·skip
   refine aq<|am<|zo rfl (nh (dm hx hN) rfl)<|aE rfl<|aJ ?_;exact be (aP (ih (i+1) ⟨dl hx,h⟩) (bg J))
  ·skip
   refine aw<|zo J (iQ om cz J J J (dO hx))<|zo J (bm cz J J)<|bj (r:=ah) (x:=zk) cz (fun _=>iT _) J fun b=>ai cz J aj J (ht J) (ht J)<|bh 6 J<|au<|ac<|aw<|zo J (bD lh eP J J)<|zo J (bm bA J J)<|zo J (Gw J)<|au<|cE h J (fun h=>?_) (fun h=>?_)
   ·refine bp ?_;refine ae (aK ?_);exact bJ (K h) (bg J)
   ·refine dz<|ac<|aw<|zo J (bD oL hZ J J)<|zo J (bm bA J J)<|zo J (bD oM eM J J)<|zo J (bm xi J J)<|zo J (fW ux J)<|zo J (cU (ht J) (ht J))<|au<|cE h J (fun h=>?_) (fun h=>?_)
    ·refine aw<|zo J (ez)<|au<|ak ?_;refine M (ay (M (M (ay (M ?_)))));cases so h;exact aF J J
    ·refine dz<|aw<|cd false cx 3<|zo J (aU s6)<|au<|ac<|aw<|zo J (bD oM eM J J)<|zo J (bm xi J J)<|zo J (bD oL hZ J J)<|zo J (bm bA J J)<|bz h fun e1 q_e1 h=>zo J (iQ ux se J J J q_e1)<|zo J (bD pn hY J J)<|zo J (bm yJ J J)<|zo J (fW sO J)<|zo J (bQ hI)<|au<|ax ?_;refine br (k:=32) J fun hN1=>bB ?_;refine aP (lZ (Z:=fun ls1 i1 kinds l1 c1=>(e1.Columns.drop i1=ls1)∧nQ (kQ c tl) e ls1 kinds=some R) (Of:=fun _ i1 kinds l1 c1=>[ga cx 3 l1 c1 kinds]) (Gf:=fun _ i1 kinds l1 c1=>[(3,bt da c),(6,bt ah e),(7,oP l1 c1 kinds),(11,fc (ah) l.Nodes),(12,jV l.Nodes),(13,cb (i:Int)),(32,fc (dR) e1.Columns),(33,jV e1.Columns),(34,cb (i1:Int))]) (fun i1 kinds l1 c1 h=>?_) (fun e2 tl1 ih1 i1 kinds l1 c1 h=>?_) e1.Columns 0 oq none 0 ⟨J,h⟩) (bg J)
     ·obtain⟨hx1,h⟩:=h
      refine aB<|aw<|zo J (ft J J)<|au<|ac<|bP (ht J) (dU hx1)<|bp ?_;refine ae (ae (aK ?_));refine aq<|aw<|aE rfl<|zo rfl (bD ly fq rfl rfl)<|zo rfl (bm cD rfl rfl)<|m8<|lk 7 rfl<|lk 44 rfl<|bz h fun r q_r h=>zo J (aC Vf (Kx _ _ q_r) ⟨(kT (ht J)),(ht J),aT⟩)<|zo J (dh (ht J))<|au<|cE h J (fun h=>?_) (fun h=>?_)
      ·refine aw<|zo J (ez)<|au<|ak ?_;refine ay (M (M (ay (M ?_))));refine aL ?_;cases so h;exact aF J J
      ·refine bk<|an<|aL ?_;exact bJ (K h) (bg J)
     ·obtain⟨hx1,h⟩:=h
      refine aB<|aw<|zo J (ft J J)<|au<|ac<|bO (ht J) (dN hx1)<|dz<|ac<|ax<|aw<|zo J (iQ sO pq J J J (dO hx1))<|zo J (bm pq J J)<|bj (r:=dR) (x:=N8) pq (fun _=>qa _) J fun b1=>ai pq J aj J (ht J) (ht J)<|bh 9 J<|au<|am<|aE J<|zo J (bD Ha uY J J) ?_;refine zo J (bm bA J J)<|zo J (aN (r:=cx) (ys:=[e2.Kind]) (xs:=[.tmp 40]) dc bA J J J J J ⟨(ht J),aT⟩)<|bz h fun kinds1 q_kinds1 h=>cK bA J J J J dc J J (ht J) (ht J) q_kinds1 fun l2 c2=>bu J<|aJ<|an<|aq<|am<|zo rfl (nh (dm hx1 hN1) rfl)<|aE rfl<|aJ ?_;exact be (aP (ih1 (i1+1) kinds1 l2 c2 ⟨dl hx1,h⟩) (bg J))

theorem PG(s:(List mB)){R:(List mB)}(h:eD s=some R):gK bl 102 [fc (kJ) s] false kJ 173 R:=by
 refine gK.of Tryz.func102 J J J fun w0 S0=>aw<|cd false kJ 173<|zo J (aU s6)<|au<|ac<|aw<|aE J<|vJ vS (ht J) J fun isnil hisnil=>au<|qT (ht J) (fun hc=>?_) (fun hc=>?_)
 ·have hx:=hisnil hc
  have h:some ([]:List mB)=some R:=by simpa [eD,kq,hx] using h
  refine aw<|cd false kJ 173<|zo J (aU s6)<|au<|ak<|M ?_;cases so h;exact jd J J
 ·refine dz<|aw<|jT (r:=kJ) (ys:=([]:List mB)) (xs:=[]) vS yV J J J J J trivial J fun l c=>aE J<|bz h fun x q_x h=>cK yV J J J J vS J J (ht J) (ht J) q_x fun l1 c1=>bu J<|au<|ak ?_;cases so h;exact jd J J
theorem Sd(s:(List mB)){R:(List mB)}(h:eD s=some R):bo bl 102 [fc (kJ) s] (fc (kJ) R):=(PG _ h).spec

theorem Ek(s:(List bq)){R:(List bq)}(h:cj s=some R):gK bl 103 [fc (bc) s] false bc 130 R:=by
 refine gK.of Tryz.func103 J J J fun w0 S0=>aw<|cd false bc 130<|zo J (aU s6)<|au<|ac<|aw<|aE J<|vJ oo (ht J) J fun isnil hisnil=>au<|qT (ht J) (fun hc=>?_) (fun hc=>?_)
 ·have hx:=hisnil hc
  have h:some N6=some R:=by simpa [cj,kq,hx] using h
  refine aw<|cd false bc 130<|zo J (aU s6)<|au<|ak<|M ?_;cases so h;exact jd J J
 ·refine dz<|aw<|jT (r:=bc) (ys:=N6) (xs:=[]) oo cR J J J J J trivial J fun l c=>aE J<|bz h fun x q_x h=>cK cR J J J J oo J J (ht J) (ht J) q_x fun l1 c1=>bu J<|au<|ak ?_;cases so h;exact jd J J
theorem LO(s:(List bq)){R:(List bq)}(h:cj s=some R):bo bl 103 [fc (bc) s] (fc (bc) R):=(Ek _ h).spec

theorem PF(s:(List ip)){R:(List ip)}(h:fR s=some R):gK bl 104 [fc (dP) s] false dP 78 R:=by
 refine gK.of Tryz.func104 J J J fun w0 S0=>aw<|cd false dP 78<|zo J (aU s6)<|au<|ac<|aw<|aE J<|vJ nC (ht J) J fun isnil hisnil=>au<|qT (ht J) (fun hc=>?_) (fun hc=>?_)
 ·have hx:=hisnil hc
  have h:some N5=some R:=by simpa [fR,kq,hx] using h
  refine aw<|cd false dP 78<|zo J (aU s6)<|au<|ak<|M ?_;cases so h;exact jd J J
 ·refine dz<|aw<|jT (r:=dP) (ys:=N5) (xs:=[]) nC nX J J J J J trivial J fun l c=>aE J<|bz h fun x q_x h=>cK nX J J J J nC J J (ht J) (ht J) q_x fun l1 c1=>bu J<|au<|ak ?_;cases so h;exact jd J J
theorem PE(s:(List bf)){R:(List bf)}(h:fg s=some R):gK bl 105 [fc (bn) s] false bn 67 R:=by
 refine gK.of Tryz.func105 J J J fun w0 S0=>aw<|cd false bn 67<|zo J (aU s6)<|au<|ac<|aw<|aE J<|vJ nc (ht J) J fun isnil hisnil=>au<|qT (ht J) (fun hc=>?_) (fun hc=>?_)
 ·have hx:=hisnil hc
  have h:some Mw=some R:=by simpa [fg,kq,hx] using h
  refine aw<|cd false bn 67<|zo J (aU s6)<|au<|ak<|M ?_;cases so h;exact jd J J
 ·refine dz<|aw<|jT (r:=bn) (ys:=Mw) (xs:=[]) nc eN J J J J J trivial J fun l c=>aE J<|bz h fun x q_x h=>cK eN J J J J nc J J (ht J) (ht J) q_x fun l1 c1=>bu J<|au<|ak ?_;cases so h;exact jd J J
theorem Un(n:af)(by1:Int){R:af}(h:tq n by1=some R):bo bl 64 [tD ah n,cb by1] (tD ah R):=by
 refine bo.of Tryz.func64 J J J fun w0 S0=>aw<|kO (ht J) J fun b=>bj (r:=ah) (x:=zk) cz (fun _=>iT _) J fun b1=>au ?_;refine dD (Z:=fun n1=>pP by1 n1=some R) (Of:=fun n1=>[bx ah 72 b n1,bx ah 72 b1 zk]) (Gf:=fun n1=>[(1,cb by1),(2,tV (aM b 0)),(4,tV (aM b1 0))]) (fun n1 h=>?_) (fun K=>?_)
 ·skip
  refine dD (Z:=fun n2=>nK n2=some R) (Of:=fun n2=>[bx ah 72 b n2,bx ah 72 b1 zk]) (Gf:=fun n2=>[(2,tV (aM b 0)),(4,tV (aM b1 0))]) (fun n2 h=>?_) (fun K1=>?_)
  ·skip
   refine ac<|bz h fun r q_r h=>bz h fun r1 q_r1 h=>bz h fun r2 q_r2 h=>?_
   refine iL 10 (ts:=[tV (aM b 4),dI n2.Kinds,dI r,tV (aM b 7),dI n2.Keys,dI r1,tV (aM b 10),fc (kJ) n2.Order,fc (kJ) r2,tV (aM b 4)]) mixed J J J
    ⟨ef 2 J J J (dy 4 ly J J J),
    ⟨cT 23 0 J J J (aA cD J J fq (.head _) (ht J)),
    ⟨cT 24 1 J J J (aC Je (Hf _ q_r) ⟨(ht J),aT⟩),
    ⟨ef 2 J J J (dy 7 jP J J J),
    ⟨cT 26 3 J J J (aA cD J J d8 (.head _) (ht J)),
    ⟨cT 27 4 J J J (aC Je (Hf _ q_r1) ⟨(ht J),aT⟩),
    ⟨ef 2 J J J (dy 10 lX J J J),
    ⟨cT 29 6 J J J (aA xh J J gD (.head _) (ht J)),
    ⟨cT 30 7 J J J (aC XP (Sd _ q_r2) ⟨(ht J),aT⟩),
    ⟨ef 2 J J J (dy 4 ly J J J),
    aT⟩⟩⟩⟩⟩⟩⟩⟩⟩⟩ ?_
   refine ai cD J tW J (ht J) (ht J)<|zo J (dy 7 jP J J J)<|ai cD J DB J (ht J) (ht J)<|zo J (dy 10 lX J J J)<|ai xh J B8 J (ht J) (ht J)<|au<|aw<|zo J (dy 6 p7 J J J)<|zo J (dy 6 de J J J)<|zo J (aA ir J J (ui jB bZ) (.head _) (ht J))<|bz h fun r3 q_r3 h=>lY LY (Ek _ q_r3) ⟨(ht J),aT⟩ J fun l c=>zo J (dy 6 p7 J J J)<|zo J (dy 6 de J J J)<|m8<|lk 38 J<|bL<|ai ir J (yg jB zx Bq) J (ht J) (kT (ht J))<|au<|ac<|bz h fun r4 q_r4 h=>?_
   obtain⟨r5,q_r5,h⟩:=bs h
   refine iK 7 [tc (tV (aM b 8)),tc (fc (dP) (({(af.mk n2.Op n2.A n2.B n2.Table r n2.Left n2.Cond r1 n2.Aggs n2.Items r2 n2.Limit)with Cond:=({(af.mk n2.Op n2.A n2.B n2.Table r n2.Left n2.Cond r1 n2.Aggs n2.Items r2 n2.Limit).Cond with Nodes:=r3}:bf)}:af).Aggs)),([2],fun s=>tV (aV ((s.getD 0 nz).h 0).1 ((s.getD 0 nz).h 0).2 r4.length)),tc (tV (aM b 9)),tc (fc (bn) (({(af.mk n2.Op n2.A n2.B n2.Table r n2.Left n2.Cond r1 n2.Aggs n2.Items r2 n2.Limit)with Cond:=({(af.mk n2.Op n2.A n2.B n2.Table r n2.Left n2.Cond r1 n2.Aggs n2.Items r2 n2.Limit).Cond with Nodes:=r3}:bf)}:af).Items)),([5],fun s=>tV (aV ((s.getD 0 nz).h 0).1 ((s.getD 0 nz).h 0).2 r5.length)),tc (tV (aM b 8))] [false,false,true,false,false,true,false] [fun _=>[bx ah 72 b ({(af.mk n2.Op n2.A n2.B n2.Table r n2.Left n2.Cond r1 n2.Aggs n2.Items r2 n2.Limit)with Cond:=({(af.mk n2.Op n2.A n2.B n2.Table r n2.Left n2.Cond r1 n2.Aggs n2.Items r2 n2.Limit).Cond with Nodes:=r3}:bf)}:af),tip bc 130 l c r3,bx ah 72 b1 zk],fun sg=>[ga dP 78 ((sg 2).h 0).1 ((sg 2).h 0).2 r4,bx ah 72 b ({(af.mk n2.Op n2.A n2.B n2.Table r n2.Left n2.Cond r1 n2.Aggs n2.Items r2 n2.Limit)with Cond:=({(af.mk n2.Op n2.A n2.B n2.Table r n2.Left n2.Cond r1 n2.Aggs n2.Items r2 n2.Limit).Cond with Nodes:=r3}:bf)}:af),tip bc 130 l c r3,bx ah 72 b1 zk],fun sg=>[ga bn 67 ((sg 5).h 0).1 ((sg 5).h 0).2 r5,ga dP 78 ((sg 2).h 0).1 ((sg 2).h 0).2 r4,bx ah 72 b ({(af.mk n2.Op n2.A n2.B n2.Table r n2.Left n2.Cond r1 n2.Aggs n2.Items r2 n2.Limit)with Cond:=({(af.mk n2.Op n2.A n2.B n2.Table r n2.Left n2.Cond r1 n2.Aggs n2.Items r2 n2.Limit).Cond with Nodes:=r3}:bf)}:af),tip bc 130 l c r3,bx ah 72 b1 zk]] J mixed J J J J J
    ⟨⟨[⟨2,fun _=>tV (aM b 0),none⟩],_,0,0,J,⟨(fun _=>J),aT⟩,J,J,J,J,J,fun _ sg _ _=>aa J (dy 8 io J J J)⟩,
    ⟨⟨[⟨41,fun _=>tV (aM b 8),some 0⟩],_,0,0,J,⟨(fun _=>J),aT⟩,J,J,J,J,J,tU (fun sg=>aa J (aA pr J J ek (.head _) (ht J)))⟩,
    ⟨⟨[⟨42,fun _=>tD (fH dP) (({(af.mk n2.Op n2.A n2.B n2.Table r n2.Left n2.Cond r1 n2.Aggs n2.Items r2 n2.Limit)with Cond:=({(af.mk n2.Op n2.A n2.B n2.Table r n2.Left n2.Cond r1 n2.Aggs n2.Items r2 n2.Limit).Cond with Nodes:=r3}:bf)}:af).Aggs),some 1⟩],_,J,⟨(fun _=>J),aT⟩,J,J,J,fun sg=>bN J (Ga (xs:=[.tmp 42]) (ts:=[tD (fH dP) (({(af.mk n2.Op n2.A n2.B n2.Table r n2.Left n2.Cond r1 n2.Aggs n2.Items r2 n2.Limit)with Cond:=({(af.mk n2.Op n2.A n2.B n2.Table r n2.Left n2.Cond r1 n2.Aggs n2.Items r2 n2.Limit).Cond with Nodes:=r3}:bf)}:af).Aggs)]) XO (PF _ q_r4) ⟨(ht J),aT⟩)⟩,
    ⟨⟨[⟨2,fun _=>tV (aM b 0),none⟩],_,0,1,J,⟨(fun _=>J),aT⟩,J,J,J,J,J,fun _ sg _ _=>aa J (dy 9 lg J J J)⟩,
    ⟨⟨[⟨44,fun _=>tV (aM b 9),some 3⟩],_,0,1,J,⟨(fun _=>J),aT⟩,J,J,J,J,J,vV (fun sg=>aa J (aA te J J fN (.head _) (ht J))) (tU (fun sg=>aa J (aA te J J fN (.tail _ (.head _)) (ht J))))⟩,
    ⟨⟨[⟨45,fun _=>tD (fH bn) (({(af.mk n2.Op n2.A n2.B n2.Table r n2.Left n2.Cond r1 n2.Aggs n2.Items r2 n2.Limit)with Cond:=({(af.mk n2.Op n2.A n2.B n2.Table r n2.Left n2.Cond r1 n2.Aggs n2.Items r2 n2.Limit).Cond with Nodes:=r3}:bf)}:af).Items),some 4⟩],_,J,⟨(fun _=>J),aT⟩,J,J,J,fun sg=>bN J (Ga (xs:=[.tmp 45]) (ts:=[tD (fH bn) (({(af.mk n2.Op n2.A n2.B n2.Table r n2.Left n2.Cond r1 n2.Aggs n2.Items r2 n2.Limit)with Cond:=({(af.mk n2.Op n2.A n2.B n2.Table r n2.Left n2.Cond r1 n2.Aggs n2.Items r2 n2.Limit).Cond with Nodes:=r3}:bf)}:af).Items)]) XN (PE _ q_r5) ⟨(ht J),aT⟩)⟩,
    ⟨⟨[⟨2,fun _=>tV (aM b 0),none⟩],_,1,2,J,⟨(fun _=>J),aT⟩,J,J,J,J,J,fun _ sg _ _=>aa J (dy 8 io J J J)⟩,
    aT⟩⟩⟩⟩⟩⟩⟩ (fun sg=>?_)
   refine(show RG _ _ _ _ [ga bn 67 ((sg 5).h 0).1 ((sg 5).h 0).2 r5,ga dP 78 ((sg 2).h 0).1 ((sg 2).h 0).2 r4,bx ah 72 b ({(af.mk n2.Op n2.A n2.B n2.Table r n2.Left n2.Cond r1 n2.Aggs n2.Items r2 n2.Limit)with Cond:=({(af.mk n2.Op n2.A n2.B n2.Table r n2.Left n2.Cond r1 n2.Aggs n2.Items r2 n2.Limit).Cond with Nodes:=r3}:bf)}:af),tip bc 130 l c r3,bx ah 72 b1 zk] _ from ?_);refine c0<|kw pr J (zt _ _) J (ht J) (N1 (ht J))<|zo J (dy 9 lg J J J)<|kw te J (vZ _ _ _) J (ht J) (N1 (ht J))<|au<|ac<|aw<|zo J (dy 8 io J J J)<|zo J (o6 pr uk (.head _) J (ht J))<|zo J (gQ nC (.tail _ (.tail _ (.head _))) (ht J))<|zo J (bQ hI)<|au<|ax<|ny (.tail _ (.tail _ (.head _))) fun hN=>bB<|ph<|mH<|eV<|iJ<|iJ<|ph ?_;refine aP (pN (Z:=fun ls i n3=>(r4.drop i=ls)∧nJ ls i n3=some R) (Of:=fun _ i n3=>[bx ah 72 b1 zk,bx lL 72 b (o8 n3 (aV ((sg 2).h 0).1 ((sg 2).h 0).2 n3.Aggs.length) (aV ((sg 5).h 0).1 ((sg 5).h 0).2 n3.Items.length)),ga dP 78 ((sg 2).h 0).1 ((sg 2).h 0).2 n3.Aggs,ga bn 67 ((sg 5).h 0).1 ((sg 5).h 0).2 n3.Items]) (Gf:=fun _ i n3=>[(2,tV (aM b 0)),(4,tV (aM b1 0)),(51,jV r4),(52,cb (i:Int))]) (fun i n3 h=>?_) (fun e tl ih i n3 h=>?_) r4 0 ({({({(af.mk n2.Op n2.A n2.B n2.Table r n2.Left n2.Cond r1 n2.Aggs n2.Items r2 n2.Limit)with Cond:=({(af.mk n2.Op n2.A n2.B n2.Table r n2.Left n2.Cond r1 n2.Aggs n2.Items r2 n2.Limit).Cond with Nodes:=r3}:bf)}:af)with Aggs:=r4}:af)with Items:=r5}:af) ⟨J,h⟩) (bg J)
   ·obtain⟨hx,h⟩:=h
    refine aB<|aw<|zo J (ft J J)<|au<|ac<|bP (ht J) (dU hx)<|bp ?_;refine ae (ae (aK ?_));refine aq<|ac<|aw<|zo rfl (dy 9 lg rfl rfl rfl)<|zo rfl (o6 te uj (.tail _ (.head _)) rfl (ht rfl))<|zo rfl (gQ nc (.tail _ (.tail _ (.tail _ (.head _)))) (ht rfl))<|zo rfl (bQ hI)<|au<|ax<|ny (.tail _ (.tail _ (.tail _ (.head _)))) fun hN1=>bB ?_;refine aP (pN (Z:=fun ls1 i1 n4=>(n3.Items.drop i1=ls1)∧nI ls1 i1 n4=some R) (Of:=fun _ i1 n4=>[bx ah 72 b1 zk,bx lL 72 b (o8 n4 (aV ((sg 2).h 0).1 ((sg 2).h 0).2 n4.Aggs.length) (aV ((sg 5).h 0).1 ((sg 5).h 0).2 n4.Items.length)),ga dP 78 ((sg 2).h 0).1 ((sg 2).h 0).2 n4.Aggs,ga bn 67 ((sg 5).h 0).1 ((sg 5).h 0).2 n4.Items]) (Gf:=fun _ i1 n4=>[(2,tV (aM b 0)),(4,tV (aM b1 0)),(72,jV n3.Items),(73,cb (i1:Int))]) (fun i1 n4 h=>?_) (fun e1 tl1 ih1 i1 n4 h=>?_) n3.Items 0 n3 ⟨J,h⟩) (bg J)
    ·obtain⟨hx1,h⟩:=h
     refine aB<|aw<|zo J (ft J J)<|au<|ac<|bP (ht J) (dU hx1)<|bp ?_;refine ae (ae (aK ?_));refine aq<|aw<|c0<|m8<|dC<|m8<|zo rfl (pZ (q:=ah) (y:=n4) cz J J J J (.tail _ (.tail _ (.tail _ (.head _)))) (fun _ _ _ ho h=>AS (uP ho (.tail _ (.head _))) (uP ho (.head _)) h) (ht J))<|c0<|ai cz J aj J (ht J) (ht J)<|bh 4 J<|au<|ak<|aL<|aL<|aL ?_;cases so h;exact dF J cz J J J
    ·obtain⟨hx1,h⟩:=h
     refine aB<|aw<|zo J (ft J J)<|au<|ac<|bO (ht J) (dN hx1)<|dz<|ac<|ax<|aw<|aE J<|bu J<|au<|bz h fun e2 q_e2 h=>bz h fun r6 q_r6 h=>?_
     refine iL 12 (ts:=[tV (aM b 9),tV (aV ((sg 5).h 0).1 ((sg 5).h 0).2 n4.Items.length),cb (i1:Int),tV (aM b 9),tV (aV ((sg 5).h 0).1 ((sg 5).h 0).2 n4.Items.length),cb (i1:Int),tV (ol ((sg 5).h 0).1 ((i1:Int).toNat*1+0)),tV (ol ((sg 5).h 0).1 ((i1:Int).toNat*1+0)),fc (bc) e2.Nodes,fc (bc) r6,tV (ol ((sg 5).h 0).1 ((i1:Int).toNat*1+0)),tV (ol ((sg 5).h 0).1 ((i1:Int).toNat*1+0))]) mixed J J J
      ⟨ef 2 J J J (dy 9 lg J J J),
      ⟨cT 76 0 J J J (o6 te uj (.tail _ (.head _)) J (ht J)),
      ⟨ef 6 J J J (cG J),
      ⟨ef 2 J J J (dy 9 lg J J J),
      ⟨cT 79 3 J J J (o6 te uj (.tail _ (.head _)) J (ht J)),
      ⟨ef 6 J J J (cG J),
      ⟨dG 80 4 81 5 J J J J (cV nc eN (.tail _ (.tail _ (.tail _ (.head _)))) (ht J) (ht J) q_e2),
      ⟨cT 82 6 J J J (gI (o:=(i1:Int).toNat*1+0) (n:=(i1:Int).toNat*1+0) de J (.tail _ (.tail _ (.tail _ (.head _)))) q_e2 (ht J) J),
      ⟨cT 83 7 J J J (gn (r:=bn) (i:=(i1:Int)) (foff:=0) ir J J bZ J (.tail _ (.tail _ (.tail _ (.head _)))) q_e2 (ht J)),
      ⟨cT 84 8 J J J (aC LY (LO _ q_r6) ⟨(ht J),aT⟩),
      ⟨dG 77 1 78 2 J J J J (cV nc eN (.tail _ (.tail _ (.tail _ (.head _)))) (ht J) (ht J) q_e2),
      ⟨cT 86 10 J J J (gI (o:=(i1:Int).toNat*1+0) (n:=(i1:Int).toNat*1+0) de J (.tail _ (.tail _ (.tail _ (.head _)))) q_e2 (ht J) J),
      aT⟩⟩⟩⟩⟩⟩⟩⟩⟩⟩⟩⟩ ?_
     refine dC<|bz h fun st q_st h=>pf ir J Bq J q_e2 (so q_st) (ht J) (ht J)<|gT (jJ (so q_st)) 77 J<|gT (jJ (so q_st)) 80 J<|A3 (O' :=[ga bn 67 ((sg 5).h 0).1 ((sg 5).h 0).2 st,bx ah 72 b1 zk,bx lL 72 b (o8 n4 (aV ((sg 2).h 0).1 ((sg 2).h 0).2 n4.Aggs.length) (aV ((sg 5).h 0).1 ((sg 5).h 0).2 st.length)),ga dP 78 ((sg 2).h 0).1 ((sg 2).h 0).2 n4.Aggs]) (by rw [jJ (so q_st)])<|aJ<|an<|aq<|am<|zo rfl (nh (dm hx1 hN1) rfl)<|aE rfl<|aJ<|bF<|bF<|bF ?_;exact be (aP (ih1 (i1+1) ({n4 with Items:=st}:af) ⟨dl hx1,h⟩) (bg J))
   ·obtain⟨hx,h⟩:=h
    refine aB<|aw<|zo J (ft J J)<|au<|ac<|bO (ht J) (dN hx)<|dz<|ac<|ax<|aw<|aE J<|bu J<|au<|bz h fun e3 q_e3 h=>bz h fun r7 q_r7 h=>?_
    refine iL 14 (ts:=[tV (aM b 8),tV (aV ((sg 2).h 0).1 ((sg 2).h 0).2 n3.Aggs.length),cb (i:Int),tV (aM b 8),tV (aV ((sg 2).h 0).1 ((sg 2).h 0).2 n3.Aggs.length),cb (i:Int),tV (ol ((sg 2).h 0).1 ((i:Int).toNat*2+0)),tV (ol ((sg 2).h 0).1 ((i:Int).toNat*2+1)),tV (ol ((sg 2).h 0).1 ((i:Int).toNat*2+1)),fc (bc) e3.Arg.Nodes,fc (bc) r7,tV (ol ((sg 2).h 0).1 ((i:Int).toNat*2+0)),tV (ol ((sg 2).h 0).1 ((i:Int).toNat*2+1)),tV (ol ((sg 2).h 0).1 ((i:Int).toNat*2+1))]) mixed J J J
     ⟨ef 2 J J J (dy 8 io J J J),
     ⟨cT 55 0 J J J (o6 pr uk (.tail _ (.head _)) J (ht J)),
     ⟨ef 5 J J J (cG J),
     ⟨ef 2 J J J (dy 8 io J J J),
     ⟨cT 58 3 J J J (o6 pr uk (.tail _ (.head _)) J (ht J)),
     ⟨ef 5 J J J (cG J),
     ⟨dG 59 4 60 5 J J J J (cV nC nX (.tail _ (.tail _ (.head _))) (ht J) (ht J) q_e3),
     ⟨cT 61 6 J J J (gI (o:=(i:Int).toNat*2+0) (n:=(i:Int).toNat*2+1) wx J (.tail _ (.tail _ (.head _))) q_e3 (ht J) J),
     ⟨cT 62 7 J J J (gI (o:=(i:Int).toNat*2+1) (n:=(i:Int).toNat*2+1) de J (.tail _ (.tail _ (.head _))) q_e3 (ht J) J),
     ⟨cT 63 8 J J J (gn (r:=dP) (i:=(i:Int)) (foff:=1) ir J J (ui qM bZ) J (.tail _ (.tail _ (.head _))) q_e3 (ht J)),
     ⟨cT 64 9 J J J (aC LY (LO _ q_r7) ⟨(ht J),aT⟩),
     ⟨dG 56 1 57 2 J J J J (cV nC nX (.tail _ (.tail _ (.head _))) (ht J) (ht J) q_e3),
     ⟨cT 66 11 J J J (gI (o:=(i:Int).toNat*2+0) (n:=(i:Int).toNat*2+1) wx J (.tail _ (.tail _ (.head _))) q_e3 (ht J) J),
     ⟨cT 67 12 J J J (gI (o:=(i:Int).toNat*2+1) (n:=(i:Int).toNat*2+1) de J (.tail _ (.tail _ (.head _))) q_e3 (ht J) J),
     aT⟩⟩⟩⟩⟩⟩⟩⟩⟩⟩⟩⟩⟩⟩ ?_
    refine c0<|bz h fun st1 q_st1 h=>pf ir J (yg qM Oz Bq) J q_e3 (so q_st1) (ht J) (ht J)<|gT (jJ (so q_st1)) 56 J<|gT (jJ (so q_st1)) 59 J<|A3 (O' :=[ga dP 78 ((sg 2).h 0).1 ((sg 2).h 0).2 st1,bx ah 72 b1 zk,bx lL 72 b (o8 n3 (aV ((sg 2).h 0).1 ((sg 2).h 0).2 st1.length) (aV ((sg 5).h 0).1 ((sg 5).h 0).2 n3.Items.length)),ga bn 67 ((sg 5).h 0).1 ((sg 5).h 0).2 n3.Items]) (by rw [jJ (so q_st1)])<|aJ<|an<|aq<|am<|zo rfl (nh (dm hx hN) rfl)<|aE rfl<|aJ<|bF<|bE<|bF<|bF ?_;exact be (aP (ih (i+1) ({n3 with Aggs:=st1}:af) ⟨dl hx,h⟩) (bg J))
  ·skip
   refine aw<|zo J (dy 2 iy J J J)<|zo J (aA bA J J d9 (.head _) (ht J))<|zo J (cU (ht J) hI)<|au<|cE h J (fun h=>?_) (fun h=>?_)
   ·refine am<|zo J (dy 2 iy J J J)<|zo J (aA bA J J d9 (.head _) (ht J))<|aE J<|zo J (ei (ht J) (ht J))<|zo J (dy 2 iy J J J)<|ai bA J k7 J (ht J) (ht J)<|aJ ?_;exact bJ (K1 (af.mk n1.Op n1.A (IntKind.i64.wrap (n1.B+by1)) n1.Table n1.Kinds n1.Left n1.Cond n1.Keys n1.Aggs n1.Items n1.Order n1.Limit) h) (bg J)
   ·refine bk ?_;exact bJ (K1 n1 h) (bg J)
 ·skip
  refine aw<|zo J (dy 1 fC J J J)<|zo J (aA bA J J cY (.tail _ (.head _)) (ht J))<|zo J (cU (ht J) hI)<|au<|cE h J (fun h=>?_) (fun h=>?_)
  ·refine am<|zo J (dy 1 fC J J J)<|zo J (aA bA J J cY (.tail _ (.head _)) (ht J))<|aE J<|zo J (ei (ht J) (ht J))<|zo J (dy 1 fC J J J)<|bL<|ai bA J mf J (ht J) (ht J)<|aJ ?_;exact bJ (K (af.mk n.Op (IntKind.i64.wrap (n.A+by1)) n.B n.Table n.Kinds n.Left n.Cond n.Keys n.Aggs n.Items n.Order n.Limit) h) (bg J)
  ·refine bk<|bE ?_;exact bJ (K n h) (bg J)

end Go.Proofs.YtnmjbolollcokaaGreatDoor

