/- db of this claim: P5. -/
import Derived.Test.YtfhhakidodmdfaaGreatDoorJbT
import Derived.Test.YtfhhakidodmdfaaGreatDoorJbP4
set_option linter.all false
namespace Go.Proofs.YtfhhakidodmdfaaGreatDoor
open Go
set_option maxRecDepth 100000

theorem Vd(a1:(List (List ac)))(b:(List (List ac))):z6 aO 170 (fun(x:Int×(List ac))=>[bM x.1,ca (af) x.2]) (fun _=>lS a1 b) [] [bO dT a1,bO dT b]:=by
 refine z6.of Tryz.func170 J J J fun Sg yld s R h I yv hy e he w0 S0 B hB=>?_
 replace h:lS a1 b yld s=some R:=h
 refine au<|zo J (bB gF J J)<|zo J (iM jW J)<|zo J (bD hI)<|aq<|ay<|ba (k:=8) J fun hN=>bI ?_;refine aS (vj (Z:=fun ls i e1 s1=>(a1.drop i=ls)∧I s1 e1∧dM b yld ls i s1=some R) (Of:=fun _ i e1 s1=>[e1]) (Gf:=fun _ i e1 s1=>[(0,tV yv),(2,bO dT b),(8,ca (dj) a1),(9,jk a1),(10,bM (i:Int))]) (fun i e1 s1 h=>?_) (fun e2 tl ih i e1 s1 h=>?_) a1 0 e s ⟨J,⟨he,h⟩⟩) (bv J)
 ·obtain⟨hx,h⟩:=h
  obtain⟨he1,h⟩:=h
  refine aC<|au<|zo J (fD J J)<|aq<|ah<|bz (ht J) (di hx)<|bu ?_;refine ai (ai (aN ?_));cases so h;exact Lm J he1 hB trivial
 ·obtain⟨hx,h⟩:=h
  obtain⟨he1,h⟩:=h
  refine aC<|au<|zo J (fD J J)<|aq<|ah<|bw (ht J) (dg hx)<|dS<|ah<|ay<|au<|aF J<|zo J (lX jW d3 J J J (cS hx))<|zo J (bB d3 J J)<|bp J<|bp J<|aq<|au<|zo J (bB gF J J) ?_;refine zo J (iM jW J)<|zo J (bD hI)<|aq<|ay<|ba (k:=15) J fun hN1=>bI ?_;refine aS (vj (Z:=fun ls1 i1 e3 s2=>(b.drop i1=ls1)∧I s2 e3∧fK yld (dM b yld tl) i e2 ls1 s2=some R) (Of:=fun _ i1 e3 s2=>[e3]) (Gf:=fun _ i1 e3 s2=>[(0,tV yv),(2,bO dT b),(4,bM (i:Int)),(5,ca (af) e2),(8,ca (dj) a1),(9,jk a1),(10,bM (i:Int)),(15,ca (dj) b),(16,jk b),(17,bM (i1:Int))]) (fun i1 e3 s2 h=>?_) (fun e4 tl1 ih1 i1 e3 s2 h=>?_) b 0 e1 s1 ⟨J,⟨he1,h⟩⟩) (bv J)
  ·obtain⟨hx1,h⟩:=h
   obtain⟨he2,h⟩:=h
   refine aC<|au<|zo J (fD J J)<|aq<|ah<|bz (ht J) (di hx1)<|bu ?_;refine ai (ai (aN ?_));refine ap<|aw<|av<|zo rfl (lY (cA hx hN) rfl)<|aF rfl<|aQ ?_;exact bf (aS (ih (i+1) e3 s2 ⟨cz hx,⟨he2,h⟩⟩) (bv J))
  ·obtain⟨hx1,h⟩:=h
   obtain⟨he2,h⟩:=h
   refine aC<|au<|zo J (fD J J)<|aq<|ah<|bw (ht J) (dg hx1)<|dS<|ah<|ay<|au<|zo J (lX jW d3 J J J (cS hx1))<|zo J (bB d3 J J)<|bp J<|aq<|au<|aF J<|aF J<|aF J ?_;refine aF J<|zo J (aV (r:=dj) (ys:=[e2,e4]) (xs:=[.tmp 23,.tmp 24]) jW d3 J J J J J ⟨(ht J),(ht J),aT⟩)<|bC h fun r q_r h=>iR WJ (KF _ q_r) ⟨(ht J),aT⟩ J fun l c=>kj<|jx 26 J<|bL<|bC h fun r1 q_r1 h=>Fk hy he2 q_r1 (ht J) ⟨(ht J),(lk (ht J)),aT⟩ J fun e5 he3=>zo J (fS (ht J))<|aq<|c9 h J (fun h=>?_) (fun h=>?_)
   ·refine ak ?_;refine aA (ae (ae (aA (aA (ae (ae (aA ?_)))))));refine bF<|bm ?_;cases so h;exact IR J he3 hB trivial
   ·refine bA<|ap<|aw<|av<|zo rfl (lY (cA hx1 hN1) rfl)<|aF rfl<|aQ<|bF<|bm ?_;exact bf (aS (ih1 (i1+1) e5 r1.2 ⟨cz hx1,⟨he3,h⟩⟩) (bv J))

theorem R2(a1:(List (List ac)))(b:(List (List ac))){R:It (Int×(List ac))}(h:vY a1 b=some R):zR aO 102 [ca (dj) a1,ca (dj) b] (fun(x:Int×(List ac))=>[bM x.1,ca (af) x.2]) R:=by
 refine zR.of Tryz.func102 J J J fun w0 S0=>au<|zo J (je J)<|zo J (je J)<|zo J (aL hV)<|aq<|au<|CV (O1:=[]) (cts:=[bO dT a1,bO dT b]) (caps:=[.tmp 2,.tmp 3]) J abq (Vd a1 b) ⟨(ht J),(ht J),aT⟩ J fun v fp=>bp J<|aq<|ak ?_;cases so h;exact Lk J J

theorem Ux(do1:(ac→ac→Option (ac×Int)))(a1:ac)(b:ac){R:ac×Int}(h:lv do1 a1 b=some R):aU aO 323 [tD af a1,tD af b,bO (rT ((dn aO qh sK (fun(x:ac×ac)=>do1 x.1 x.2)))) ()] (tT [tD af R.1,bM R.2]):=by
 refine aU.of Tryz.func323 J J J fun w0 S0=>au<|zo J (je J)<|zo J (je J)<|aZ (r:=af) (x:=ie) aH (fun _=>bh _) J fun b1=>zo J (cw)<|aq<|au<|zo J (pV V4 (ht J))<|zo J (bB aH J J)<|zo J (bB aH J J)<|bC h fun r q_r h=>zo J (fJ (args:=qh) (res:=C1) (f:=(fun(x:ac×ac)=>do1 x.1 x.2)) (x:=((b,a1):ac×ac)) (ht J) q_r ⟨(ht J),(ht J),aT⟩)<|zo J (hY J J)<|zo J (hY J J)<|ax aH J an J (ht J) (ht J)<|aW 5 J<|bp J<|aq<|ak ?_;cases so h;exact bR J J ⟨bt aH J J J,bc J,aT⟩

theorem UO(do1:(ac→ac→Option (ac×Int))){R:(ac→ac→Option (ac×Int))}(h:CK do1=some R):aU aO 261 [(dn aO qh sK (fun(x:ac×ac)=>do1 x.1 x.2))] ((dn aO qh sK (fun(x:ac×ac)=>R x.1 x.2))):=by
 refine aU.of Tryz.func261 J J J fun w0 S0=>au<|zo J (Di (ht J))<|zo J (aL hV)<|aq<|au<|zo J ((show bP _ _ _ _ ((dn aO qh sK (fun(x:ac×ac)=>(lv do1) x.1 x.2)))from hJ (cts:=[bO (rT ((dn aO qh sK (fun(x:ac×ac)=>do1 x.1 x.2)))) ()]) (caps:=[.tmp 1]) aat ⟨(ht J),aT⟩ (fun x y h=>Ux _ _ _ h)))<|bp J<|aq<|ak ?_;cases so h;exact aG J J

theorem Ix{R:ac}(h:oU=some R):aU aO 216 [] (tD af R):=by
 refine aU.of Tryz.func216 J J J fun w0 S0=>au<|aZ (r:=af) (x:=ie) aH (fun _=>bh _) J fun b=>aq<|au<|zo J (ck (y:=ie) aH ql bh (J))<|ax aH J an J (ht J) (ht J)<|aW 0 J<|aq<|ak ?_;cases so h;exact iS J aH J J J

theorem Iw(b:Bool){R:ac}(h:oV b=some R):aU aO 256 [ig b] (tD af R):=by
 refine aU.of Tryz.func256 J J J fun w0 S0=>au<|aZ (r:=af) (x:=ie) aH (fun _=>bh _) J fun b1=>aq<|au<|zo J (ck (y:=Qp) aH ql bh (⟨_,_,_,_,_,J,nI,J,hI,J⟩))<|aZ (r:=af) (x:=ie) aH (fun _=>bh _) J fun b2=>ax aH J an J (ht J) (ht J)<|aq ?_;refine kV (Z:=fun v=>ut v=some R) (Of:=fun v=>[bx af 46 b1 ie,bx af 46 b2 v]) (Gf:=fun v=>[(2,tV (aP b1 0)),(3,tV (aP b2 0))]) (fun v h=>?_) (fun K=>?_)
 ·skip
  refine au<|zo J (cd aH J J bS (.tail _ (.head _)) (ht J))<|ax aH J an J (ht J) (ht J)<|aW 2 J<|aq<|ak<|bm ?_;cases so h;exact iS J aH J J J
 ·skip
  refine au<|aF J<|aq<|c9 h J (fun h=>?_) (fun h=>?_)
  ·refine av<|zo J (kP 1 lO J J J)<|ax FM J oY J (ht J) hI<|aQ<|bF ?_;exact cO (K (ac.mk Qp.Kind (1:Int) Qp.U Qp.S) h) (bv J)
  ·refine bA<|bF ?_;exact cO (K Qp h) (bv J)

theorem N5(l:(List ac)){R:Int}(h:ph l=some R):aU aO 363 [ca (af) l] (bM R):=by
 refine aU.of Tryz.func363 J J J fun w0 S0=>au<|zo J (cw)<|aq<|ah<|au<|aF J<|zo J (iM j7 J)<|zo J (bD hI)<|aq<|ay<|ba (k:=6) J fun hN=>bI ?_;refine aS (dQ (Z:=fun ls i=>(l.drop i=ls)∧jl ls=some R) (Of:=fun _ i=>[]) (Gf:=fun _ i=>[(6,ca (af) l),(7,jk l),(8,bM (i:Int))]) (fun i h=>?_) (fun e tl ih i h=>?_) l 0 ⟨J,h⟩) (bv J)
 ·obtain⟨hx,h⟩:=h
  refine aC<|au<|zo J (fD J J)<|aq<|ah<|bz (ht J) (di hx)<|bu ?_;refine ai (ai (aN ?_));refine aw<|au<|zo rfl (cw)<|aq<|ak ?_;cases so h;exact aG J J
 ·obtain⟨hx,h⟩:=h
  refine aC<|au<|zo J (fD J J)<|aq<|ah<|bw (ht J) (dg hx)<|dS<|ah<|ay<|au<|zo J (lX j7 aH J J J (cS hx))<|zo J (bB aH J J)<|aZ (r:=af) (x:=ie) aH (fun _=>bh _) J fun b=>ax aH J an J (ht J) (ht J)<|aW 4 J<|aq<|au<|zo J (bB aH J J) ?_;refine bC h fun r q_r h=>zo J (aD KP (A2 _ q_r) ⟨(ht J),aT⟩)<|bp J<|aq<|au<|aF J<|zo J (tJ J)<|aq<|c9 h J (fun h=>?_) (fun h=>?_)
  ·refine au<|aF J<|bp J<|aq<|ak ?_;refine aA (ae (ae (aA (ae ?_))));cases so h;exact aG J J
  ·refine bA<|ap<|aw<|av<|zo rfl (lY (cA hx hN) rfl)<|aF rfl<|aQ ?_;exact bf (aS (ih (i+1) ⟨cz hx,h⟩) (bv J))

theorem On(p:Int){R:Bool}(h:nk p=some R):aU aO 153 [bM p] (ig R):=by
 refine aU.of Tryz.func153 J J J fun w0 S0=>au<|zo J (jj)<|aq<|au<|aF J<|aF J<|zo J (fj (ht J) (ht J))<|bp J<|aq<|ak ?_;cases so h;exact aG J J

theorem RJ(p:Int)(y:Int){R:Int}(h:iJ p y=some R):aU aO 88 [bM p,bM y] (bM R):=by
 refine aU.of Tryz.func88 J J J fun w0 S0=>au<|zo J (cw)<|aq<|au<|aF J<|bC h fun r q_r h=>zo J (aD WG (On _ q_r) ⟨(ht J),aT⟩)<|bp J<|aq<|au<|aF J<|bC h fun r1 q_r1 h=>zo J (aD WG (On _ q_r1) ⟨(ht J),aT⟩)<|bp J<|aq<|ah<|ah ?_;refine av<|aF J<|aq<|c9 h J (fun h=>?_) (fun h=>?_)
 ·refine ah<|au<|aF J<|aq<|c9 h J (fun h=>?_) (fun h=>?_)
  ·refine au<|zo J (cw)<|aq<|ak ?_;refine ae (ae ?_);cases so h;exact aG J J
  ·refine dS<|au<|zo J (cw)<|aq<|ak<|ae ?_;cases so h;exact aG J J
 ·refine dS<|ah<|au<|aF J<|aq<|c9 h J (fun h=>?_) (fun h=>?_)
  ·refine au<|zo J (cw)<|aq<|ak<|ae ?_;cases so h;exact aG J J
  ·refine dS<|ah<|au<|aF J<|aF J<|zo J (fD J J)<|aq<|c9 h J (fun h=>?_) (fun h=>?_)
   ·refine au<|zo J (cw)<|aq<|ak<|ae ?_;cases so h;exact aG J J
   ·refine dS<|ah<|au<|aF J<|aF J<|zo J (gu (ht J) (ht J))<|aq<|c9 h J (fun h=>?_) (fun h=>?_)
    ·refine au<|zo J (cw)<|aq<|ak<|ae ?_;cases so h;exact aG J J
    ·refine dS<|au<|zo J (cw)<|aq<|ak ?_;cases so h;exact aG J J

theorem Iy(vals:(List Int)){R:Int}(h:mK vals=some R):aU aO 176 [lW vals] (bM R):=by
 refine aU.of Tryz.func176 J J J fun w0 S0=>au<|zo J (cw)<|aq<|au<|zo J (cw)<|aq<|ah<|au<|aF J<|zo J (iM gM J)<|zo J (bD hI)<|aq<|ay<|ba (k:=6) J fun hN=>bI ?_;refine aS (dQ (Z:=fun ls i=>(vals.drop i=ls)∧fX ls=some R) (Of:=fun _ i=>[]) (Gf:=fun _ i=>[(3,bM 0),(6,lW vals),(7,jk vals),(8,bM (i:Int))]) (fun i h=>?_) (fun e tl ih i h=>?_) vals 0 ⟨J,h⟩) (bv J)
 ·obtain⟨hx,h⟩:=h
  refine aC<|au<|zo J (fD J J)<|aq<|ah<|bz (ht J) (di hx)<|bu ?_;refine ai (ai (aN ?_));refine aw<|au<|aF rfl<|bp rfl<|aq<|ak ?_;cases so h;exact aG J J
 ·obtain⟨hx,h⟩:=h
  refine aC<|au<|zo J (fD J J)<|aq<|ah<|bw (ht J) (dg hx)<|dS<|ah<|ay<|au<|zo J (lX gM cr J J J (cS hx))<|zo J (bB cr J J)<|bp J<|aq<|au<|aF J<|aF J<|zo J (fj (ht J) (ht J)) ?_;refine aq<|c9 h J (fun h=>?_) (fun h=>?_)
  ·refine au<|aF J<|bp J<|aq<|ak ?_;refine aA (ae (ae (aA (ae ?_))));cases so h;exact aG J J
  ·refine bA<|ap<|aw<|av<|zo rfl (lY (cA hx hN) rfl)<|aF rfl<|aQ ?_;exact bf (aS (ih (i+1) ⟨cz hx,h⟩) (bv J))

theorem Oa(p:Int){R:Bool}(h:kT p=some R):aU aO 310 [bM p] (ig R):=by
 refine aU.of Tryz.func310 J J J fun w0 S0=>au<|zo J (jj)<|aq<|au<|aF J<|aF J<|zo J (fj (ht J) (ht J))<|bp J<|aq<|ak ?_;cases so h;exact aG J J

theorem Ok(p:Int)(y:Int){R:Int}(h:gB p y=some R):aU aO 243 [bM p,bM y] (bM R):=by
 refine aU.of Tryz.func243 J J J fun w0 S0=>au<|zo J (cw)<|aq<|au<|aF J<|bC h fun r q_r h=>zo J (aD Wv (Oa _ q_r) ⟨(ht J),aT⟩)<|bp J<|aq<|au<|aF J<|bC h fun r1 q_r1 h=>zo J (aD Wv (Oa _ q_r1) ⟨(ht J),aT⟩)<|bp J<|aq<|ah<|ah ?_;refine av<|aF J<|aq<|c9 h J (fun h=>?_) (fun h=>?_)
 ·refine ah<|au<|aF J<|aq<|c9 h J (fun h=>?_) (fun h=>?_)
  ·refine au<|zo J (cw)<|aq<|ak ?_;refine ae (ae ?_);cases so h;exact aG J J
  ·refine dS<|au<|zo J (cw)<|aq<|ak<|ae ?_;cases so h;exact aG J J
 ·refine dS<|ah<|au<|aF J<|aq<|c9 h J (fun h=>?_) (fun h=>?_)
  ·refine au<|zo J (cw)<|aq<|ak<|ae ?_;cases so h;exact aG J J
  ·refine dS<|ah<|au<|aF J<|aF J<|zo J (fD J J)<|aq<|c9 h J (fun h=>?_) (fun h=>?_)
   ·refine au<|zo J (cw)<|aq<|ak<|ae ?_;cases so h;exact aG J J
   ·refine dS<|ah<|au<|aF J<|aF J<|zo J (gu (ht J) (ht J))<|aq<|c9 h J (fun h=>?_) (fun h=>?_)
    ·refine au<|zo J (cw)<|aq<|ak<|ae ?_;cases so h;exact aG J J
    ·refine dS<|au<|zo J (cw)<|aq<|ak ?_;cases so h;exact aG J J

theorem Ud(a1:wB)(b:wB){R:Int}(h:i6 a1 b=some R):aU aO 382 [tD rS a1,tD rS b] (bM R):=by
 refine aU.of Tryz.func382 J J J fun w0 S0=>au<|zo J (cw)<|aq<|au<|aF J<|aF J<|zo J (TG Tryz.func386 (by kernel_rfl) (by kernel_rfl) (by kernel_rfl) (by kernel_rfl) (ht J) (ht J))<|bp J<|aq<|ak ?_;cases so h;exact aG J J

theorem Ue(a1:wB)(b:wB){R:Int}(h:oO a1 b=some R):aU aO 376 [tD rS a1,tD rS b] (bM R):=by
 refine aU.of Tryz.func376 J J J fun w0 S0=>au<|zo J (cw)<|aq<|au<|aF J<|aF J<|bC h fun r q_r h=>zo J (aD Z5 (Ud _ _ q_r) ⟨(ht J),(ht J),aT⟩)<|bp J<|aq<|ak ?_;cases so h;exact aG J J

theorem Ug(a1:ac)(b:ac){R:Int}(h:li a1 b=some R):aU aO 364 [tD af a1,tD af b] (bM R):=by
 refine aU.of Tryz.func364 J J J fun w0 S0=>au<|zo J (je J)<|zo J (je J)<|zo J (cw)<|aq<|ah<|au<|zo J (bB aH J J)<|bC h fun r q_r h=>zo J (aD OJ (Dr _ q_r) ⟨(ht J),aT⟩)<|zo J (fS (ht J))<|aF J<|bC h fun t q_t h=>gD J J (fun hg=>bB aH J J) ?_
 obtain⟨r1,h1t,h0t⟩:=og q_t
 have q_r1g:=fun hb=>(h1t hb).1
 refine gD J J (fun hg=>aD OJ (Dr _ (q_r1g hg)) ⟨(bK J hg),aT⟩)<|gD J J (fun hg=>fS (bK J hg))<|zo J (ir (ht J) (fun hb=>(bK J (wv hb))) (fun hb=>(h1t hb).2) h0t)<|aq<|c9 h J (fun h=>?_) (fun h=>?_)
 ·refine au<|zo J (cw)<|aq<|ak<|ae ?_;cases so h;exact aG J J
 ·refine dS<|ah<|bC h fun r2 q_r2 h=>bC h fun r3 q_r3 h=>bC h fun r4 q_r4 h=>bC h fun r5 q_r5 h=>?_
  refine cU (ts:=[_,_,_,_,_,_,_,_,_,_,_,_,_,_,_,_,_,_]) mixed J J
   ⟨fd 2 J J J (cW gK cy J J),
   ⟨bW 13 0 J J J (bB cr J J),
   ⟨fd 3 J J J (cW gK cy J J),
   ⟨bW 15 2 J J J (bB cr J J),
   ⟨d8 14 1 16 3 J J J J (aD Z4 (RJ _ _ q_r2) ⟨(ht J),(ht J),aT⟩),
   ⟨fd 2 J J J (cW lO fz J J),
   ⟨bW 18 5 J J J (bB FM J J),
   ⟨fd 3 J J J (cW lO fz J J),
   ⟨bW 20 7 J J J (bB FM J J),
   ⟨d8 19 6 21 8 J J J J (aD WD (Ok _ _ q_r3) ⟨(ht J),(ht J),aT⟩),
   ⟨fd 2 J J J (cW xo nR J J),
   ⟨bW 23 10 J J J (bB Tc J J),
   ⟨fd 3 J J J (cW xo nR J J),
   ⟨bW 25 12 J J J (bB Tc J J),
   ⟨d8 24 11 26 13 J J J J (aD Z7 (Ue _ _ q_r4) ⟨(ht J),(ht J),aT⟩),
   ⟨Gn 17 4 22 9 27 14 J J J J J (aV (r:=bX) (ys:=[r2,r3,r4]) (xs:=[.tmp 17,.tmp 22,.tmp 27]) gM cr J J J J J ⟨(ht J),(ht J),(ht J),aT⟩),
   ⟨bW 28 15 J J J (aD Sq (Iy _ q_r5) ⟨(ht J),aT⟩),
   ⟨bW 29 16 J J J (uM J),
   aT⟩⟩⟩⟩⟩⟩⟩⟩⟩⟩⟩⟩⟩⟩⟩⟩⟩⟩ ?_
  refine aw<|ak ?_;cases so h;exact aG J J

theorem N7(a1:ac)(b:ac)(is1:(Int→Option Bool)){R:ac×Int}(h:qp a1 b is1=some R):aU aO 324 [tD af a1,tD af b,(dn aO I7 ko (fun(x:Int)=>is1 x))] (tT [tD af R.1,bM R.2]):=by
 refine aU.of Tryz.func324 J J J fun w0 S0=>au<|zo J (je J)<|zo J (je J)<|aZ (r:=af) (x:=ie) aH (fun _=>bh _) J fun b1=>zo J (cw)<|aq<|ah<|au<|zo J (bB aH J J)<|zo J (bB aH J J)<|zo J (aV (r:=af) (ys:=[a1,b]) (xs:=[.tmp 10,.tmp 11]) j7 aH J J J J J ⟨(ht J),(ht J),aT⟩)<|bC h fun r q_r h=>zo J (aD Wq (N5 _ q_r) ⟨(ht J),aT⟩)<|bp J<|aq<|au<|aF J<|zo J (tJ J) ?_;refine aq<|c9 h J (fun h=>?_) (fun h=>?_)
 ·refine au<|zo J (ck (y:=ie) aH ql bh (J))<|aF J<|ax aH J an J (ht J) (ht J)<|bp J<|aq<|ak<|ae<|bn 6 J ?_;cases so h;exact bR J J ⟨bt aH J J J,bc J,aT⟩
 ·refine dS<|au<|zo J (cW gK cy J J)<|zo J (bB cr J J)<|zo J (np J)<|aF J<|gD J J (fun hg=>cW gK cy J J)<|gD J J (fun hg=>bJ cr J J (bK J hg))<|gD J J (fun hg=>dL (bK J hg) hI)<|zo J (yO J J)<|bp J<|aq<|ah<|ay<|au<|zo J (cW gK cy J J)<|zo J (bB cr J J)<|zo J (np J)<|aF J<|gD J J (fun hg=>cW gK cy J J) ?_;refine gD J J (fun hg=>bJ cr J J (bK J hg))<|gD J J (fun hg=>dL (bK J hg) hI)<|zo J (yO J J)<|aF J<|gD J J (fun hg=>dA J)<|gD J J (fun hg=>fS (bK J hg))<|gD J J (fun hg=>bD (bK J hg))<|jM J J J J (fun hg=>cW gK cy J J)<|jM J J J J (fun hg=>bJ cr J J (bK J hg))<|jM J J J J (fun hg=>cW gK cy J J)<|jM J J J J (fun hg=>bJ cr J J (bK J hg))<|jM J J J J (fun hg=>fj (bK J hg) (bK J hg))<|gD J J (fun hg=>qx (bK J hg) (fun hb=>(bK J (Bi hg hb))))<|zo J (yO J J)<|bp J<|aq<|c9 h J (fun h=>?_) (fun h=>?_)
  ·refine au<|zo J (ck (y:=ie) aH ql bh (J))<|ax aH J an J (ht J) (ht J)<|zo J (cw)<|aq<|ak ?_;refine aA (ae ?_);refine bn 6 J ?_;cases so h;exact bR J J ⟨bt aH J J J,bc J,aT⟩
  ·refine au<|aF J<|bp J<|aq<|c9 h J (fun h=>?_) (fun h=>?_)
   ·refine au<|bC h fun r1 q_r1 h=>zo J (aD So (Ix q_r1) trivial)<|ax aH J an J (ht J) (ht J)<|zo J (cw)<|aq<|ak ?_;refine aA (ae ?_);refine bn 6 J ?_;cases so h;exact bR J J ⟨bt aH J J J,bc J,aT⟩
   ·refine bA<|ap<|aw<|au<|aF rfl<|zo rfl (bB aH rfl rfl)<|zo rfl (bB aH rfl rfl)<|bC h fun r2 q_r2 h=>zo J (aD aaa (Ug _ _ q_r2) ⟨(ht J),(ht J),aT⟩)<|bC h fun r3 q_r3 h=>zo J (fJ (args:=(fun(x:Int)=>[tD bX x])) (res:=Bz) (f:=(fun(x:Int)=>is1 x)) (x:=((r2):Int)) (ht J) q_r3 ⟨(ht J),aT⟩)<|bC h fun r4 q_r4 h=>zo J (aD Sn (Iw _ q_r4) ⟨(ht J),aT⟩)<|ax aH J an J (ht J) (ht J)<|zo J (cw)<|aq<|ak<|bn 6 J ?_;cases so h;exact bR J J ⟨bt aH J J J,bc J,aT⟩

theorem Uw(c:Int){R:Bool}(h:Ap c=some R):aU aO 325 [bM c] (ig R):=by
 refine aU.of Tryz.func325 J J J fun w0 S0=>au<|zo J (jj)<|aq<|au<|aF J<|zo J (gJ (ht J) hI)<|bp J<|aq<|ak ?_;cases so h;exact aG J J

theorem Iv(a1:ac)(b:ac){R:ac×Int}(h:nE a1 b=some R):aU aO 262 [tD af a1,tD af b] (tT [tD af R.1,bM R.2]):=by
 refine aU.of Tryz.func262 J J J fun w0 S0=>au<|zo J (je J)<|zo J (je J)<|aZ (r:=af) (x:=ie) aH (fun _=>bh _) J fun b1=>zo J (cw)<|aq<|au<|zo J (bB aH J J)<|zo J (bB aH J J)<|bC h fun r q_r h=>zo J (aD Ws (N7 _ _ _ q_r) ⟨(ht J),(ht J),(yF aar fun x y h=>Uw _ h),aT⟩)<|zo J (hY J J)<|zo J (hY J J)<|ax aH J an J (ht J) (ht J)<|aW 4 J<|bp J<|aq<|ak ?_;cases so h;exact bR J J ⟨bt aH J J J,bc J,aT⟩

theorem Uv(do1:(ac→Option (ac×Int)))(a1:ac)(x:ac){R:ac×Int}(h:mF do1 a1 x=some R):aU aO 326 [tD af a1,tD af x,bO (rT ((dn aO An sK (fun(x:ac)=>do1 x)))) ()] (tT [tD af R.1,bM R.2]):=by
 refine aU.of Tryz.func326 J J J fun w0 S0=>au<|zo J (je J)<|zo J (je J)<|aZ (r:=af) (x:=ie) aH (fun _=>bh _) J fun b=>zo J (cw)<|aq<|au<|zo J (pV Zg (ht J))<|zo J (bB aH J J)<|bC h fun r q_r h=>zo J (fJ (args:=An) (res:=C1) (f:=(fun(x:ac)=>do1 x)) (x:=((a1):ac)) (ht J) q_r ⟨(ht J),aT⟩)<|zo J (hY J J)<|zo J (hY J J)<|ax aH J an J (ht J) (ht J)<|aW 5 J<|bp J<|aq<|ak ?_;cases so h;exact bR J J ⟨bt aH J J J,bc J,aT⟩

theorem Oj(do1:(ac→Option (ac×Int))){R:(ac→ac→Option (ac×Int))}(h:zM do1=some R):aU aO 263 [(dn aO An sK (fun(x:ac)=>do1 x))] ((dn aO qh sK (fun(x:ac×ac)=>R x.1 x.2))):=by
 refine aU.of Tryz.func263 J J J fun w0 S0=>au<|zo J (Di (ht J))<|zo J (aL hV)<|aq<|au<|zo J ((show bP _ _ _ _ ((dn aO qh sK (fun(x:ac×ac)=>(mF do1) x.1 x.2)))from hJ (cts:=[bO (rT ((dn aO An sK (fun(x:ac)=>do1 x)))) ()]) (caps:=[.tmp 1]) aaq ⟨(ht J),aT⟩ (fun x y h=>Uv _ _ _ h)))<|bp J<|aq<|ak ?_;cases so h;exact aG J J

theorem A1(n:Int){R:ac}(h:n9 n=some R):aU aO 130 [bM n] (tD af R):=by
 refine aU.of Tryz.func130 J J J fun w0 S0=>au<|aZ (r:=af) (x:=ie) aH (fun _=>bh _) J fun b=>aq<|au<|aF J<|zo J (ck (y:=(⟨(2:Int),n,(0:Int),[]⟩:ac)) aH ql bh (⟨_,_,_,_,_,J,nI,J,hI,⟨_,_,_,_,_,J,oY,J,(ht J),J⟩⟩))<|ax aH J an J (ht J) (ht J)<|aW 2 J<|aq<|ak ?_;cases so h;exact iS J aH J J J

theorem Do(kind:Int)(l:(List ac)){R:Int}(h:px kind l=some R):aU aO 288 [bM kind,ca (af) l] (bM R):=by
 refine aU.of Tryz.func288 J J J fun w0 S0=>au<|zo J (cw)<|aq<|au<|zo J (cw)<|aq<|ah<|au<|aF J<|zo J (iM j7 J)<|zo J (bD hI)<|aq<|ay<|ba (k:=8) J fun hN=>bI ?_;refine aS (n7 (Z:=fun ls i e=>(l.drop i=ls)∧jU kind ls e=some R) (Of:=fun _ i e=>[]) (Gf:=fun _ i e=>[(0,bM kind),(5,bM e),(8,ca (af) l),(9,jk l),(10,bM (i:Int))]) (fun i e h=>?_) (fun e1 tl ih i e h=>?_) l 0 (0:Int) ⟨J,h⟩) (bv J)
 ·obtain⟨hx,h⟩:=h
  refine aC<|au<|zo J (fD J J)<|aq<|ah<|bz (ht J) (di hx)<|bu ?_;refine ai (ai (aN ?_));refine aw<|au<|aF rfl<|bp rfl<|aq<|ak ?_;cases so h;exact aG J J
 ·obtain⟨hx,h⟩:=h
  refine aC<|au<|zo J (fD J J)<|aq<|ah<|bw (ht J) (dg hx)<|dS<|ah<|ay<|au<|zo J (lX j7 aH J J J (cS hx))<|zo J (bB aH J J)<|aZ (r:=af) (x:=ie) aH (fun _=>bh _) J fun b=>ax aH J an J (ht J) (ht J)<|aW 7 J<|aq<|ah<|au ?_;refine zo J (bB aH J J)<|bC h fun r q_r h=>zo J (aD KP (A2 _ q_r) ⟨(ht J),aT⟩)<|zo J (tJ J)<|aq<|c9 h J (fun h=>?_) (fun h=>?_)
  ·refine au<|zo J (cw)<|aq<|ak ?_;refine ae (aA (ae (ae (aA (ae ?_)))));cases so h;exact aG J J
  ·refine dS<|au<|zo J (cW gK cy J J)<|zo J (bB cr J J)<|zo J (tJ J)<|aF J<|dC J J (fun hg=>cW gK cy J J)<|dC J J (fun hg=>bJ cr J J (bK J hg))<|dC J J (fun hg=>dA J)<|dC J J (fun hg=>fj (bK J hg) (bK J hg))<|zo J (uK J J)<|aq<|c9 h J (fun h=>?_) (fun h=>?_)
   ·refine av<|zo J (cw)<|aQ<|ap<|aw<|av<|zo rfl (lY (cA hx hN) rfl)<|aF rfl<|aQ ?_;exact bf (aS (ih (i+1) (2:Int) ⟨cz hx,h⟩) (bv J))
   ·refine bA<|ap<|aw<|av<|zo rfl (lY (cA hx hN) rfl)<|aF rfl<|aQ ?_;exact bf (aS (ih (i+1) e ⟨cz hx,h⟩) (bv J))

theorem Dn(a1:ac)(b:ac)(to1:(Int→Int→Option (Int×Bool))){R:ac×Int}(h:ro a1 b to1=some R):aU aO 330 [tD af a1,tD af b,(dn aO (fun(x:Int×Int)=>[bM x.1,bM x.2]) (fun(x:Int×Bool)=>tT [bM x.1,ig x.2]) (fun(x:Int×Int)=>to1 x.1 x.2))] (tT [tD af R.1,bM R.2]):=by
 refine aU.of Tryz.func330 J J J fun w0 S0=>au<|zo J (je J)<|zo J (je J)<|aZ (r:=af) (x:=ie) aH (fun _=>bh _) J fun b1=>zo J (cw)<|aq<|ah<|au<|zo J (bB aH J J)<|zo J (bB aH J J)<|zo J (aV (r:=af) (ys:=[a1,b]) (xs:=[.tmp 11,.tmp 12]) j7 aH J J J J J ⟨(ht J),(ht J),aT⟩)<|bC h fun r q_r h=>zo J (aD OF (Do _ _ q_r) ⟨hI,(ht J),aT⟩)<|bp J<|aq<|au<|aF J<|zo J (tJ J) ?_;refine aq<|c9 h J (fun h=>?_) (fun h=>?_)
 ·refine au<|zo J (ck (y:=ie) aH ql bh (J))<|aF J<|ax aH J an J (ht J) (ht J)<|bp J<|aq<|ak<|ae<|bn 6 J ?_;cases so h;exact bR J J ⟨bt aH J J J,bc J,aT⟩
 ·refine dS<|ah<|au<|zo J (cW gK cy J J)<|zo J (bB cr J J)<|zo J (np J)<|aF J<|gD J J (fun hg=>cW gK cy J J)<|gD J J (fun hg=>bJ cr J J (bK J hg))<|gD J J (fun hg=>dL (bK J hg) hI)<|zo J (yO J J)<|aq<|c9 h J (fun h=>?_) (fun h=>?_)
  ·refine au<|bC h fun r1 q_r1 h=>zo J (aD So (Ix q_r1) trivial)<|ax aH J an J (ht J) (ht J)<|zo J (cw)<|aq<|ak<|ae<|bn 6 J ?_;cases so h;exact bR J J ⟨bt aH J J J,bc J,aT⟩
  ·refine dS<|au<|aF J<|zo J (cW lO fz J J)<|zo J (bB FM J J)<|zo J (cW lO fz J J)<|zo J (bB FM J J)<|bC h fun r2 q_r2 h=>zo J (fJ (args:=(fun(x:Int×Int)=>[tD bX x.1,tD bX x.2])) (res:=(fun(x:Int×Bool)=>tT [tD bX x.1,tD rB x.2])) (f:=(fun(x:Int×Int)=>to1 x.1 x.2)) (x:=((a1.N,b.N):Int×Int)) (ht J) q_r2 ⟨(ht J),(ht J),aT⟩)<|aF J<|zo J (hY J J)<|zo J (hY J J)<|bp J<|bp J<|aq<|ah<|au<|aF J<|zo J (fS (ht J))<|aQ ?_;refine aw<|c9 h rfl (fun h=>?_) (fun h=>?_)
   ·refine au<|zo J (ck (y:=ie) aH ql bh (J))<|ax aH J an J (ht J) (ht J)<|zo J (cw)<|aq<|ak<|ae<|bn 6 J ?_;cases so h;exact bR J J ⟨bt aH J J J,bc J,aT⟩
   ·refine dS<|au<|aF J<|bC h fun r3 q_r3 h=>zo J (aD KO (A1 _ q_r3) ⟨(ht J),aT⟩)<|ax aH J an J (ht J) (ht J)<|zo J (cw)<|aq<|ak<|bn 6 J ?_;cases so h;exact bR J J ⟨bt aH J J J,bc J,aT⟩

end Go.Proofs.YtfhhakidodmdfaaGreatDoor

