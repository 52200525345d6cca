/- cN of this claim: P10. -/
import Derived.Test.YtnmjbolollcokaaGreatDoorRaT
import Derived.Test.YtnmjbolollcokaaGreatDoorRaP9
set_option linter.all false
namespace Go.Proofs.YtnmjbolollcokaaGreatDoor
open Go
set_option maxRecDepth 100000

theorem ww(p:bI)(frag:Int)(nodes:Int){R:Int}(h:gF p frag nodes=some R):bo aX 45 [tD br p,bK frag,bK nodes] (bK R):=by
 refine bo.of Tryz.func45 J J J fun w0 S0=>ay<|zo J (gP J)<|zo J (dW)<|aw<|ae<|ay<|zo J (cc eC dF J J)<|zo J (bq lk J J)<|zo J (fV jX J)<|zo J (fq (ht J) hI)<|aG J<|cR J J (fun hg=>cn J)<|cR J J (fun hg=>eg (bc J hg) hI)<|zo J (oB J J)<|aG J<|cR J J (fun hg=>cn J)<|cR J J (fun hg=>cc eC dF J J)<|cR J J (fun hg=>be lk J J (bc J hg))<|cR J J (fun hg=>bY jX (bc J hg))<|cR J J (fun hg=>dm (bc J hg) (bc J hg)) ?_;refine zo J (oB J J)<|aG J<|cR J J (fun hg=>cn J)<|cR J J (fun hg=>eg (bc J hg) hI)<|zo J (oB J J)<|aG J<|cR J J (fun hg=>cn J)<|cR J J (fun hg=>fq (bc J hg) hI)<|zo J (oB J J)<|aw<|db h J (fun h=>?_) (fun h=>?_)
 ·refine ay<|zo J (dW)<|aw<|ap<|M ?_;cases so h;exact aU J J
 ·refine dB<|ay<|zo J (dW)<|aw<|ap ?_;cases so h;exact aU J J

theorem G4(p:bI)(from1:Int):ss aX 192 (fun(x:Int×Int)=>[bK x.1,bK x.2]) (fun _=>od p from1) [] [bl br p,bl bR from1]:=by
 refine ss.of Tryz.func192 J J J fun Sg yld s R h I yv hy e he w0 S0 B hB=>?_
 replace h:od p from1 yld s=some R:=h
 refine ay<|zo J (cc eC dF J J)<|zo J (bq lk J J)<|zo J (fV jX J)<|zo J (bv hI)<|aw<|ax<|bh (k:=9) J fun hN=>bF ?_;refine aT (mf (Z:=fun ls i e1 s1=>(p.Frags.drop i=ls)∧I s1 e1∧fE from1 yld ls i s1=some R) (Of:=fun _ i e1 s1=>[e1]) (Gf:=fun _ i e1 s1=>[(0,tV yv),(2,bl bR from1),(9,dS (aR) p.Frags),(10,f7 p.Frags),(11,bK (i:Int))]) (fun i e1 s1 h=>?_) (fun e2 tl ih i e1 s1 h=>?_) p.Frags 0 e s ⟨J,⟨he,h⟩⟩) (bn J)
 ·obtain⟨hx,h⟩:=h
  obtain⟨he1,h⟩:=h
  refine aA<|ay<|zo J (em J J)<|aw<|ae<|bz (ht J) (da hx)<|bk ?_;refine ac (ac (aM ?_));cases so h;exact A8 J he1 hB trivial
 ·obtain⟨hx,h⟩:=h
  obtain⟨he1,h⟩:=h
  refine aA<|ay<|zo J (em J J)<|aw<|ae<|bw (ht J) (c9 hx)<|dB<|ae<|ax<|ay<|aG J<|zo J (jA jX kc J J J (cV hx))<|zo J (bq kc J J)<|bj (r:=aR) (x:=HX) kc (fun _=>sA _) J fun b=>bB J<|au kc J al J (ht J) (ht J)<|bg 5 J<|aw<|ae ?_;refine am<|zo J (cc qM ky J J)<|zo J (bq kE J J)<|zo J (fV oz J)<|zo J (bv hI)<|aw<|ax<|bh (k:=17) J fun hN1=>bF ?_;refine aT (mf (Z:=fun ls1 i1 e3 s2=>(e2.Nodes.drop i1=ls1)∧I s2 e3∧fD from1 yld (fE from1 yld tl) i ls1 i1 s2=some R) (Of:=fun _ i1 e3 s2=>[e3]) (Gf:=fun _ i1 e3 s2=>[(0,tV yv),(2,bl bR from1),(4,bK (i:Int)),(9,dS (aR) p.Frags),(10,f7 p.Frags),(11,bK (i:Int)),(17,dS (aj) e2.Nodes),(18,f7 e2.Nodes),(19,bK (i1:Int))]) (fun i1 e3 s2 h=>?_) (fun e4 tl1 ih1 i1 e3 s2 h=>?_) e2.Nodes 0 e1 s1 ⟨J,⟨he1,h⟩⟩) (bn J)
  ·obtain⟨hx1,h⟩:=h
   obtain⟨he2,h⟩:=h
   refine aA<|ay<|zo J (em J J)<|aw<|ae<|bz (ht J) (da hx1)<|bk ?_;refine ac (ac (aM ?_));refine an<|aq<|am<|zo rfl (jY (cG hx hN) rfl)<|aG rfl<|aQ ?_;exact bf (aT (ih (i+1) e3 s2 ⟨cF hx,⟨he2,h⟩⟩) (bn J))
  ·obtain⟨hx1,h⟩:=h
   obtain⟨he2,h⟩:=h
   refine aA<|ay<|zo J (em J J)<|aw<|ae<|bw (ht J) (c9 hx1)<|dB<|ae<|ax<|ay<|aG J<|zo J (jA oz cD J J J (cV hx1))<|zo J (bq cD J J)<|bj (r:=aj) (x:=vG) cD (fun _=>gX _) J fun b1=>bB J<|au cD J al J (ht J) (ht J)<|bg 7 J<|aw<|ae ?_;refine am<|zo J (cc pD ju J J)<|zo J (bq bD J J)<|zo J (jS J)<|aG J<|cb J J (fun hg=>cc pB jt J J)<|cb J J (fun hg=>be bD J J (bc J hg))<|cb J J (fun hg=>bq bD J J)<|cb J J (fun hg=>bW (bc J hg) (bc J hg))<|zo J (kG J J)<|aG J ?_;refine FR ((e4.Op==(9:Int))&&(e4.Table==from1)) (fun hg=>?_) (fun hg=>?_)
   ·have h:=ct h hg;refine AV J J J hg<|aG J<|AV J J J hg<|aG J<|AV J J J hg<|aG J<|AV J J J hg<|bG h fun r q_r h=>wG hy he2 q_r (ht J) ⟨(ht J),(ht J),aV⟩ J fun e5 he3=>AV J J J hg<|zo J (dy (ht J))<|zo J (DK (ht J) hg (ht J))<|aw<|db h J (fun h=>?_) (fun h=>?_)
    ·refine ap ?_;refine aH (M (M (aH (aH (M (M (aH ?_)))))));cases so h;exact zD J he3 hB trivial
    ·refine bE<|an<|aq<|am<|zo rfl (jY (cG hx1 hN1) rfl)<|aG rfl<|aQ ?_;exact bf (aT (ih1 (i1+1) e5 r.2 ⟨cF hx1,⟨he3,h⟩⟩) (bn J))
   ·have h:=cf h hg;refine wH J J J hg J<|wH J J J hg J<|wH J J J hg J<|wH J J J hg J<|wH J J J hg J<|zo J (DL (ht J) hg hBc)<|aw<|lh (ht J) (fun hc=>?_) (fun hc=>?_)
    ·cases hc
    ·refine bE<|an<|aq<|am<|zo rfl (jY (cG hx1 hN1) rfl)<|aG rfl<|aQ ?_;exact bf (aT (ih1 (i1+1) e3 s2 ⟨cF hx1,⟨he2,h⟩⟩) (bn J))

theorem Ft(p:bI)(from1:Int){R:It (Int×Int)}(h:nG p from1=some R):sq aX 125 [tD br p,bK from1] (fun(x:Int×Int)=>[bK x.1,bK x.2]) R:=by
 refine sq.of Tryz.func125 J J J fun w0 S0=>ay<|zo J (gP J)<|zo J (gP J)<|zo J (aP hV)<|aw<|ay<|uZ (O1:=[]) (cts:=[bl br p,bl bR from1]) (caps:=[.tmp 2,.tmp 3]) J Lh (G4 p from1) ⟨(ht J),(ht J),aV⟩ J fun v fp=>bB J<|aw<|ap ?_;cases so h;exact A6 J J

theorem IS(p:bI)(from1:Int){R:Int×Int×Bool}(h:nH p from1=some R):bo aX 81 [tD br p,bK from1] (tT [bK R.1,bK R.2.1,eD R.2.2]):=by
 refine wF Tryz.func81 J J J fun w0 S0=>ay<|zo J (gP J)<|bj (r:=bR) (x:=(0:Int)) bD (fun _=>J) J fun b=>bj (r:=bR) (x:=(0:Int)) bD (fun _=>J) J fun b1=>bj (r:=rB) (x:=false) Cv (fun _=>J) J fun b2=>aw<|ae<|ay<|zo J (bq fT J J)<|aG J<|bG h fun it q_it h=>yc LH (Ft _ _ q_it) ⟨(ht J),(ht J),aV⟩ J fun v fp=>aw<|ax<|bG h fun r q_r h=>JL ?_;refine yf (fun(i:Bool×Int×Int)=>[bx rB 4 b2 i.1,bx bR 3 b1 i.2.1,bx bR 3 b i.2.2]) (fun(i:Bool×Int×Int)=>(i.1,i.2.1,i.2.2)) (fun _=> .ret) J (ht J) (false,(0:Int),(0:Int)) J q_r (fun _=>J) J (fun i x r1 h lp rec1 _ _ _=>?_) (fun i j hi bd=>⟨fun hj=>?_,fun _ hj=>?_⟩)
 ·obtain⟨x1,x2,x3⟩:=i
  replace h:qw x x1 x2 x3=some r1:=h
  refine(show CG _ _ _ [mi lp rec1 .ready none,bx rB 4 b2 x1,bx bR 3 b1 x2,bx bR 3 b x3] _ from ?_);refine wQ (G' :=[(0,tD br p),(1,bK from1),(2,bl br p),(4,tV (aE b 0)),(5,tV (aE b1 0)),(6,tV (aE b2 0)),(9,tD br p),(10,bK from1),(12,bK x.1),(13,bK x.2)]) ?_ ⟨J,J,J,J,J,J,J,J,J,J,aV⟩;refine ay<|bB J<|aw<|am<|bB J<|aQ<|yl<|ax<|ay<|aG J<|aG J<|cY<|au bD J al J (ht J) (ht J)<|cY<|au bD J al J (ht J) (ht J)<|cY<|au Cv J al J (ht J) hB<|aw<|ap<|aH ?_;refine av<|av<|av<|bm ?_;cases so h;exact tA 0 J (true,x.2,x.1) J J
 ·skip
  obtain⟨x4,x5,x6⟩:=i
  obtain rfl:x4=r.1.2.1:=congrArg (fun q:Bool×Int×Int=>q.1) hi
  obtain rfl:x5=r.1.2.2.1:=congrArg (fun q:Bool×Int×Int=>q.2.1) hi
  obtain rfl:x6=r.1.2.2.2:=congrArg (fun q:Bool×Int×Int=>q.2.2) hi
  have h:=ct h (by rw [hj];rfl);refine(show AT _ _ _ [ve bd,bx rB 4 b2 r.1.2.1,bx bR 3 b1 r.1.2.2.1,bx bR 3 b r.1.2.2.2] _ from ?_);refine ce (G' :=[(0,tD br p),(1,bK from1),(2,bl br p),(4,tV (aE b 0)),(5,tV (aE b1 0)),(6,tV (aE b2 0)),(9,tD br p),(10,bK from1)]) ?_ ⟨J,J,J,J,J,J,J,J,aV⟩;refine an<|aq<|ay<|cY<|au bD rfl al rfl (ht rfl) hI<|cY<|au bD rfl al rfl (ht rfl) hI<|cY<|au Cv rfl al rfl (ht rfl) hB<|aw<|ap<|av<|bS 4 rfl<|bU<|bS 5 rfl<|bS 6 rfl<|tz<|oO ?_;cases so h;exact jQ (ts:=[bK 0,bK 0,eD false]) (rvs:=[.cell 4 3,.cell 5 3,.cell 6 4]) J J ⟨d7 bD J J J,d7 bD J J J,d7 Cv J J J,aV⟩
 ·skip
  obtain⟨x7,x8,x9⟩:=i
  obtain rfl:x7=r.1.2.1:=congrArg (fun q:Bool×Int×Int=>q.1) hi
  obtain rfl:x8=r.1.2.2.1:=congrArg (fun q:Bool×Int×Int=>q.2.1) hi
  obtain rfl:x9=r.1.2.2.2:=congrArg (fun q:Bool×Int×Int=>q.2.2) hi
  have h:=cf h (by rw [hj];rfl);refine(show CG _ _ _ [ve bd,bx rB 4 b2 r.1.2.1,bx bR 3 b1 r.1.2.2.1,bx bR 3 b r.1.2.2.2] _ from ?_);refine wQ (G' :=[(0,tD br p),(1,bK from1),(2,bl br p),(4,tV (aE b 0)),(5,tV (aE b1 0)),(6,tV (aE b2 0)),(9,tD br p),(10,bK from1)]) ?_ ⟨J,J,J,J,J,J,J,J,aV⟩;refine ap ?_;refine aH (M ?_);refine bm<|bS 4 J<|av<|bS 5 J<|bU<|bS 6 J<|tz<|oO ?_;cases so h;exact jQ (ts:=[bK r.1.2.2.2,bK r.1.2.2.1,eD r.1.2.1]) (rvs:=[.cell 4 3,.cell 5 3,.cell 6 4]) J J ⟨d7 bD J J J,d7 bD J J J,d7 Cv J J J,aV⟩

theorem Fi(p:bI)(frag:Int){R:Int}(h:l0 p frag=some R):bo aX 46 [tD br p,bK frag] (bK R):=by
 refine bo.of Tryz.func46 J J J fun w0 S0=>ay<|zo J (gP J)<|zo J (dW)<|aw<|ae<|ay<|zo J (bq fT J J)<|aG J<|bG h fun r q_r h=>zo J (aF Mt (IS _ _ q_r) ⟨(ht J),(ht J),aV⟩)<|aG J<|zo J (jf J J)<|zo J (jf J J)<|zo J (jf J J)<|bB J<|bB J<|bB J<|aw<|ae ?_;refine am<|aG J<|aw<|db h J (fun h=>?_) (fun h=>?_)
 ·refine ay<|aG J<|bB J<|aw<|ap<|M ?_;cases so h;exact aU J J
 ·refine dB<|ay<|zo J (dW)<|aw<|ap ?_;cases so h;exact aU J J

theorem B6(f:cz)(nodes:Int){R:(List Int)}(h:lw f nodes=some R):bo aX 47 [tD aR f,bK nodes] (dE R):=by
 refine bo.of Tryz.func47 J J J fun w0 S0=>ay<|zo J (gP J)<|zo J (aP (show aL _ _ _ ln from hP))<|aw<|ae<|ay<|zo J (cc Ff xQ J J)<|zo J (bq bD J J)<|zo J (jS J)<|aw<|db h J (fun h=>?_) (fun h=>?_)
 ·refine ay<|zo J (aS (r:=bR) (ys:=[(0:Int)]) (xs:=[.const (.int .i64 (0))]) cW bD J J J J J ⟨hI,aV⟩)<|bB J<|aw<|ap<|M ?_;cases so h;exact aU J J
 ·refine dB<|ay<|aG J<|zo J (jp (ht J) hI)<|bG h fun r q_r h=>hY Jy (zk _ q_r) ⟨(ht J),aV⟩ J fun l c=>bG h fun y q_y h=>zo J (l8 cW bD J (.head _) (ht J) hI q_y)<|lg (.head _) q_y fun hv=>bB J<|aw<|ap<|gh<|yj 4 q_y J<|cB 11 J<|yj 12 q_y J<|ba ?_;cases so h;exact aU J J

theorem Hf(p:bI)(nodes:Int):ss aX 126 yA (fun _=>sf p nodes) [] [bl br p,bl bR nodes]:=by
 refine ss.of Tryz.func126 J J J fun Sg yld s R h I yv hy e he w0 S0 B hB=>?_
 replace h:sf p nodes yld s=some R:=h
 refine ay<|zo J (cc eC dF J J)<|zo J (bq lk J J)<|zo J (fV jX J)<|zo J (bv hI)<|aw<|ax<|bh (k:=12) J fun hN=>bF ?_;refine aT (mf (Z:=fun ls i e1 s1=>(p.Frags.drop i=ls)∧I s1 e1∧eI p nodes yld ls i s1=some R) (Of:=fun _ i e1 s1=>[e1]) (Gf:=fun _ i e1 s1=>[(0,tV yv),(1,bl br p),(2,bl bR nodes),(12,dS (aR) p.Frags),(13,f7 p.Frags),(14,bK (i:Int))]) (fun i e1 s1 h=>?_) (fun e2 tl ih i e1 s1 h=>?_) p.Frags 0 e s ⟨J,⟨he,h⟩⟩) (bn J)
 ·obtain⟨hx,h⟩:=h
  obtain⟨he1,h⟩:=h
  refine aA<|ay<|zo J (em J J)<|aw<|ae<|bz (ht J) (da hx)<|bk ?_;refine ac (ac (aM ?_));cases so h;exact A8 J he1 hB trivial
 ·obtain⟨hx,h⟩:=h
  obtain⟨he1,h⟩:=h
  refine aA<|ay<|zo J (em J J)<|aw<|ae<|bw (ht J) (c9 hx)<|dB<|ae ?_;refine Eo (Z:=fun e3 s2=>I s2 e3∧ol (eI p nodes yld tl) i s2=some R) (Of:=fun e3 s2=>[e3]) (Gf:=fun e3 s2=>[(0,tV yv),(1,bl br p),(2,bl bR nodes),(12,dS (aR) p.Frags),(13,f7 p.Frags),(14,bK (i:Int))]) (fun e3 s2 h=>?_) (fun K=>?_)
  ·obtain⟨he2,h⟩:=h
   refine aq<|am<|zo rfl (jY (cG hx hN) rfl)<|aG rfl<|aQ ?_;exact bf (aT (ih (i+1) e3 s2 ⟨cF hx,⟨he2,h⟩⟩) (bn J))
  ·skip
   refine ay<|aG J<|zo J (jA jX kc J J J (cV hx))<|zo J (bq kc J J)<|bj (r:=aR) (x:=HX) kc (fun _=>sA _) J fun b=>bB J<|au kc J al J (ht J) (ht J)<|bg 5 J<|aw<|ay<|zo J (bq fT J J)<|aG J<|bG h fun r q_r h=>zo J (aF KE (Fi _ _ q_r) ⟨(ht J),(ht J),aV⟩)<|bB J<|aw<|ae<|ay<|aG J ?_;refine zo J (eg (ht J) hI)<|aw<|db h J (fun h=>?_) (fun h=>?_)
   ·refine bk ?_;refine ac (aM ?_);exact ce (K e1 s1 ⟨he1,h⟩) (bn J)
   ·refine dB<|ay<|zo J (bq kc J J)<|zo J (bq bD J J)<|bG h fun r1 q_r1 h=>zo J (aF JC (B6 _ _ q_r1) ⟨(ht J),(ht J),aV⟩)<|zo J (fV cW J)<|zo J (bv hI)<|aw<|ax<|bh (k:=26) J fun hN1=>bF ?_;refine aT (mf (Z:=fun ls1 i1 e4 s3=>(r1.drop i1=ls1)∧I s3 e4∧iM p nodes yld (eI p nodes yld tl) i r ls1 s3=some R) (Of:=fun _ i1 e4 s3=>[e4]) (Gf:=fun _ i1 e4 s3=>[(0,tV yv),(1,bl br p),(2,bl bR nodes),(4,bK (i:Int)),(6,bK r),(12,dS (aR) p.Frags),(13,f7 p.Frags),(14,bK (i:Int)),(26,dE r1),(27,f7 r1),(28,bK (i1:Int))]) (fun i1 e4 s3 h=>?_) (fun e5 tl1 ih1 i1 e4 s3 h=>?_) r1 0 e1 s1 ⟨J,⟨he1,h⟩⟩) (bn J)
    ·obtain⟨hx1,h⟩:=h
     obtain⟨he3,h⟩:=h
     refine aA<|ay<|zo J (em J J)<|aw<|ae<|bz (ht J) (da hx1)<|bk ?_;refine ac (ac (aM ?_));refine an ?_;exact ce (K e4 s3 ⟨he3,h⟩) (bn J)
    ·obtain⟨hx1,h⟩:=h
     obtain⟨he3,h⟩:=h
     refine aA<|ay<|zo J (em J J)<|aw<|ae<|bw (ht J) (c9 hx1)<|dB<|ae<|ax<|ay<|zo J (jA cW bD J J J (cV hx1))<|zo J (bq bD J J)<|bB J<|aw<|ae<|bG h fun e6 q_e6 h=>bG h fun r2 q_r2 h=>?_
     refine ec (ts:=[_,_,_,_,_,_,_,_,_]) mixed J J
      ⟨dT 1 J J J (cc eC dF J J),
      ⟨cP 32 0 J J J (bq lk J J),
      ⟨dT 6 J J J (cn J),
      ⟨dL 33 1 34 2 J J J J (jA jX kc J J J q_e6),
      ⟨cP 35 3 J J J (bq kc J J),
      ⟨dT 2 J J J (bq bD J J),
      ⟨dL 36 4 37 5 J J J J (aF JC (B6 _ _ q_r2) ⟨(ht J),(ht J),aV⟩),
      ⟨cP 38 6 J J J (fV cW J),
      ⟨JT J J (bv hI),
      aV⟩⟩⟩⟩⟩⟩⟩⟩⟩ ?_
     refine aq<|ax<|bh (k:=38) J fun hN2=>bF ?_;refine aT (mf (Z:=fun ls2 i2 e7 s4=>(r2.drop i2=ls2)∧I s4 e7∧j4 yld i r (iM p nodes yld (eI p nodes yld tl) i r tl1) e5 ls2 s4=some R) (Of:=fun _ i2 e7 s4=>[e7]) (Gf:=fun _ i2 e7 s4=>[(0,tV yv),(1,bl br p),(2,bl bR nodes),(4,bK (i:Int)),(6,bK r),(8,bK e5),(12,dS (aR) p.Frags),(13,f7 p.Frags),(14,bK (i:Int)),(26,dE r1),(27,f7 r1),(28,bK (i1:Int)),(38,dE r2),(39,f7 r2),(40,bK (i2:Int))]) (fun i2 e7 s4 h=>?_) (fun e8 tl2 ih2 i2 e7 s4 h=>?_) r2 0 e4 s3 ⟨J,⟨he3,h⟩⟩) (bn J)
     ·obtain⟨hx2,h⟩:=h
      obtain⟨he4,h⟩:=h
      refine aA<|ay<|zo J (em J J)<|aw<|ae<|bz (ht J) (da hx2)<|bk ?_;refine ac (ac (aM ?_));refine an<|aq<|am<|zo rfl (jY (cG hx1 hN1) rfl)<|aG rfl<|aQ ?_;exact bf (aT (ih1 (i1+1) e7 s4 ⟨cF hx1,⟨he4,h⟩⟩) (bn J))
     ·obtain⟨hx2,h⟩:=h
      obtain⟨he4,h⟩:=h
      refine aA<|ay<|zo J (em J J)<|aw<|ae<|bw (ht J) (c9 hx2)<|dB<|ae<|ax<|ay<|zo J (jA cW bD J J J (cV hx2))<|zo J (bq bD J J)<|bB J<|aw<|ay<|aG J<|aG J<|aG J ?_;refine aG J<|zo J (cr (y:=(⟨(i:Int),e5,e8⟩:aN)) p9 Fa mN (⟨_,_,_,_,_,J,lZ,J,(ht J),⟨_,_,_,_,_,J,lY,J,(ht J),⟨_,_,_,_,_,J,lX,J,(ht J),J⟩⟩⟩))<|aG J<|bG h fun r3 q_r3 h=>wG hy he4 q_r3 (ht J) ⟨(ht J),(ht J),aV⟩ J fun e9 he5=>zo J (dy (ht J))<|aw<|db h J (fun h=>?_) (fun h=>?_)
      ·refine ap ?_;refine aH (M (M (aH (aH (M (M (aH (aH (M (M (aH ?_)))))))))));cases so h;exact zD J he5 hB trivial
      ·refine bE<|an<|aq<|am<|zo rfl (jY (cG hx2 hN2) rfl)<|aG rfl<|aQ ?_;exact bf (aT (ih2 (i2+1) e9 r3.2 ⟨cF hx2,⟨he5,h⟩⟩) (bn J))

theorem GC(p:bI)(nodes:Int){R:It (aN×Int)}(h:sN p nodes=some R):sq aX 83 [tD br p,bK nodes] yA R:=by
 refine sq.of Tryz.func83 J J J fun w0 S0=>ay<|zo J (gP J)<|zo J (gP J)<|zo J (aP hV)<|aw<|ay<|uZ (O1:=[]) (cts:=[bl br p,bl bR nodes]) (caps:=[.tmp 2,.tmp 3]) J LF (Hf p nodes) ⟨(ht J),(ht J),aV⟩ J fun v fp=>bB J<|aw<|ap ?_;cases so h;exact A6 J J

theorem B5(p:bI)(nodes:Int)(holds:(aN→Int→Option Bool)){R:(List aN)}(h:mP p nodes holds=some R):bo aX 48 [tD br p,bK nodes,(eS aX yA kb (fun(x:aN×Int)=>holds x.1 x.2))] (dS (bC) R):=by
 refine wF Tryz.func48 J J J fun w0 S0=>ay<|zo J (gP J)<|zo J (y5 (ht J))<|zo J (aP (show aL _ _ _ Bl from hP))<|aw<|ay<|bM false bC 52<|bj (x:=aC none 0 0) Gc (fun _=>ET) J fun b=>aw<|ae<|ay<|zo J (bq fT J J)<|aG J<|bG h fun it q_it h=>yc Ms (GC _ _ q_it) ⟨(ht J),(ht J),aV⟩ J fun v fp=>aw<|ax ?_
 obtain⟨s,q_s,h⟩:=bs h
 refine Ek (fun(i:Option Nat×Nat×List aN)=>[bx rV 46 b (aC i.1 i.2.1 i.2.2.length),d9 bC 52 i.1 i.2.1 i.2.2]) (fun(i:Option Nat×Nat×List aN)=>(i.2.2)) J (ht J) (none,0,([]:List aN)) J q_s (fun _=>J) J (fun i x s2 h lp rec1 _ _ _=>?_) (fun i hi bd=>?_)
 ·obtain⟨l,c,xs⟩:=i
  replace h:gp holds x xs=some s2:=h
  refine(show CG _ _ _ [pg lp rec1 .ready,bx rV 46 b (aC l c xs.length),d9 bC 52 l c xs] _ from ?_);refine wQ (G' :=[(0,tD br p),(1,bK nodes),(2,(eS aX yA kb (fun(x:aN×Int)=>holds x.1 x.2))),(3,bl br p),(5,bl (rT ((eS aX yA kb (fun(x:aN×Int)=>holds x.1 x.2)))) ()),(6,dS (bC) ([])),(7,tV (aE b 0)),(10,tD br p),(11,bK nodes),(13,tD bC x.1),(14,bK x.2)]) ?_ ⟨J,J,J,J,J,J,J,J,J,J,J,aV⟩;refine ay<|bj (r:=bC) (x:=(⟨(0:Int),(0:Int),(0:Int)⟩:aN)) p9 (fun _=>mN _) J fun b1=>au p9 J al J (ht J) (ht J)<|bg 8 J<|aw<|am<|bB J<|aQ<|FZ<|ax<|ay<|zo J (sQ Kb (ht J))<|zo J (bq p9 J J)<|aG J<|bG h fun r q_r h=>zo J (gu (args:=(fun(x:aN×Int)=>[tD bC x.1,tD bR x.2])) (res:=Bm) (f:=(fun(x:aN×Int)=>holds x.1 x.2)) (x:=((x.1,x.2):aN×Int)) (ht J) q_r ⟨(ht J),(ht J),aV⟩)<|aw<|db h J (fun h=>?_) (fun h=>?_)
  ·refine am<|zo J (ma Gc (.tail _ (.head _)) (ht J))<|zo J (bq p9 J J)<|zo J (aS (r:=bC) (ys:=[x.1]) (xs:=[.tmp 20]) rP p9 J J J J J ⟨(ht J),aV⟩)<|du<|bG h fun l1 q_l1 h=>cM p9 J J J J rP J J (ht J) (ht J) q_l1 fun l2 c1=>du<|au Gc J al J (ht J) (F2 (ht J))<|aQ<|an<|bU<|bU<|av ?_;exact u0 (l2,c1,l1) (so h) J
  ·refine bE<|an ?_;exact u0 (l,c,xs) (so h) J
 ·skip
  obtain⟨l3,c2,xs1⟩:=i
  have hi:xs1=s:=hi
  subst hi
  refine(show AT _ _ _ [ve bd,bx rV 46 b (aC l3 c2 xs1.length),d9 bC 52 l3 c2 xs1] _ from ?_);refine ce (G' :=[(0,tD br p),(1,bK nodes),(2,(eS aX yA kb (fun(x:aN×Int)=>holds x.1 x.2))),(3,bl br p),(5,bl (rT ((eS aX yA kb (fun(x:aN×Int)=>holds x.1 x.2)))) ()),(6,dS (bC) ([])),(7,tV (aE b 0)),(10,tD br p),(11,bK nodes)]) ?_ ⟨J,J,J,J,J,J,J,J,J,aV⟩;refine an<|aq<|ay<|zo rfl (ma Gc (.tail _ (.head _)) (ht rfl))<|bB rfl<|aw<|ap<|av<|gh<|cB 6 rfl<|cB 23 rfl<|ia 6 rfl<|ba<|bU<|ba<|tz<|oO ?_;cases so h;exact aU J J

theorem I2(p:aN)(p1:Int){R:Bool}(h:qx p p1=some R):bo aX 49 [tD bC p,bK p1] (eD R):=by
 refine bo.of Tryz.func49 J J J fun w0 S0=>ay<|zo J (gP J)<|zo J (eL)<|aw<|ay<|zo J (eL)<|aw<|ap ?_;cases so h;exact aU J J

theorem Fo(p:bI)(nodes:Int){R:(List aN)×Int}(h:im p nodes=some R):bo aX 17 [tD br p,bK nodes] (tT [dS (bC) R.1,bK R.2]):=by
 refine bo.of Tryz.func17 J J J fun w0 S0=>ay<|zo J (gP J)<|zo J (aP (show aL _ _ _ Bl from hP))<|zo J (dW)<|aw<|ae<|ay<|zo J (bq fT J J)<|aG J<|bG h fun r q_r h=>zo J (aF FJ (ww _ _ _ q_r) ⟨(ht J),hI,(ht J),aV⟩)<|bB J<|aw<|ay<|aG J<|zo J (zQ J)<|aw ?_;refine db h J (fun h=>?_) (fun h=>?_)
 ·refine ay<|aG J<|zo J (aP (show aL _ _ _ Bl from hP))<|bB J<|aw<|ap<|M ?_;cases so h;exact cw J J J
 ·refine dB<|ay<|zo J (bq fT J J)<|aG J<|bG h fun r1 q_r1 h=>zo J (aF JB (B5 _ _ _ q_r1) ⟨(ht J),(ht J),(ID ML fun x y h=>I2 _ _ h),aV⟩)<|bB J<|zo J (dW)<|aw<|ap ?_;cases so h;exact cw J J J

theorem I9{R:fi}(h:uM=some R):bo aX 29 [] (tD dY R):=by
 refine bo.of Tryz.func29 J J J fun w0 S0=>ay<|bj (r:=dY) (x:=(⟨[]⟩:fi)) Bs (fun _=>rR _) J fun b=>aw<|ay<|zo J (cr (y:=HU) nA IG mO (⟨_,_,_,_,_,J,qh,J,hS,⟨_,_,_,_,_,J,qg,J,hI,J⟩⟩))<|zo J (cr (y:=HV) nA IG mO (⟨_,_,_,_,_,J,qh,J,hS,⟨_,_,_,_,_,J,qg,J,hI,J⟩⟩))<|zo J (aS (r:=cX) (ys:=[HU,HV]) (xs:=[.tmp 1,.tmp 2]) tF nA J J J J J ⟨(ht J),(ht J),aV⟩)<|zo J (aS (r:=bR) (ys:=[(0:Int)]) (xs:=[.const (.int .i64 (0))]) cW bD J J J J J ⟨hI,aV⟩)<|zo J (cr (y:=Ib) rX Kj vF (⟨_,_,_,_,_,J,vQ,J,hS,⟨_,_,_,_,_,J,vP,J,(ht J),⟨_,_,_,_,_,J,Bx,J,(ht J),J⟩⟩⟩))<|zo J (cr (y:=H0) nA IG mO (⟨_,_,_,_,_,J,qh,J,hS,⟨_,_,_,_,_,J,qg,J,hI,J⟩⟩))<|zo J (aS (r:=cX) (ys:=[H0]) (xs:=[.tmp 6]) tF nA J J J J J ⟨(ht J),aV⟩)<|zo J (cr (y:=HW) rX Kj vF (⟨_,_,_,_,_,J,vQ,J,hS,⟨_,_,_,_,_,J,vP,J,(ht J),J⟩⟩))<|zo J (aS (r:=c0) (ys:=[Ib,HW]) (xs:=[.tmp 5,.tmp 8]) yq rX J J J J J ⟨(ht J),(ht J),aV⟩)<|zo J (cr (y:=(⟨[Ib,HW]⟩:fi)) Bs Ml rR (⟨_,_,_,_,_,J,yQ,J,(ht J),J⟩))<|au Bs J al J (ht J) (ht J)<|bg 0 J<|aw<|ap ?_;cases so h;exact iI J Bs J J J

theorem Kp{R:Bool}(h:qF=some R):bo aX 8 [] (eD R):=by
 refine bo.of Tryz.func8 J J J fun w0 S0=>ay<|zo J (eL)<|aw<|ay<|zo J (aS (r:=bR) (ys:=[(2:Int)]) (xs:=[.const (.int .i64 (2))]) cW bD J J J J J ⟨hI,aV⟩)<|zo J (cr (y:=Ia) cD Gv gX (⟨_,_,_,_,_,J,o7,J,hI,⟨_,_,_,_,_,J,lu,J,hI,⟨_,_,_,_,_,J,kd,J,hI,⟨_,_,_,_,_,J,sb,J,hI,⟨_,_,_,_,_,J,o6,J,(ht J),J⟩⟩⟩⟩⟩))<|zo J (cr (y:=HS) lU Kk tH (⟨_,_,_,_,_,J,Ad,J,hI,J⟩))<|zo J (aS (r:=df) (ys:=[HS]) (xs:=[.tmp 8]) ny lU J J J J J ⟨(ht J),aV⟩)<|zo J (cr (y:=Ih) cD Gv gX (⟨_,_,_,_,_,J,o7,J,hI,⟨_,_,_,_,_,J,kd,J,hI,⟨_,_,_,_,_,J,vR,J,(ht J),J⟩⟩⟩))<|zo J (aS (r:=aj) (ys:=[Ia,Ih]) (xs:=[.tmp 7,.tmp 10]) oz cD J J J J J ⟨(ht J),(ht J),aV⟩)<|zo J (cr (y:=LR) lV II lT (⟨_,_,_,_,_,J,By,J,(ht J),J⟩))<|bj (r:=cv) (x:=zS) lV (fun _=>lT _) J fun b=>au lV J al J (ht J) (ht J)<|bg 1 J<|aw<|ae<|bG h fun r q_r h=>bG h fun r1 q_r1 h=>?_
 refine gA 8 [tc (tD cv LR),tc (tD dY r),tc (tT [tD br r1.1,bK r1.2]),tc (tT [tD br r1.1,bK r1.2]),tc (tD br r1.1),tc (bK r1.2),([6],fun s=>tV (aE ((s.getD 0 lm).h 0).2 0)),tc (tL)] [false,false,false,false,false,false,true,true] [fun _=>[],fun sg=>[bx br 33 ((sg 6).h 0).2 oX],fun sg=>[bx br 33 ((sg 6).h 0).2 r1.1]] J mixed J J J J J
  ⟨⟨[⟨1,fun _=>bl cv LR,none⟩],_,0,1,J,⟨(fun _=>J),aV⟩,J,J,J,J,J,fun _ sg _ _=>af J (bq lV J J)⟩,
  ⟨⟨[],_,0,1,J,aV,J,J,J,J,J,fun _ sg _ _=>af J (aF MS (I9 q_r) trivial)⟩,
  ⟨⟨[⟨14,fun _=>tD cv LR,some 0⟩,⟨15,fun _=>tD dY r,some 1⟩],_,0,1,J,⟨(fun _=>J),(fun _=>J),aV⟩,J,J,J,J,J,fun _ sg _ _=>af J (aF M1 (Js _ _ q_r1) ⟨(ht J),(ht J),aV⟩)⟩,
  ⟨⟨[⟨16,fun _=>tT [tD br r1.1,tD bR r1.2],some 2⟩],_,0,1,J,⟨(fun _=>J),aV⟩,J,J,J,J,J,fun _ sg _ _=>af J (cn J)⟩,
  ⟨⟨[⟨13,fun _=>tT [tD br r1.1,tD bR r1.2],some 3⟩],_,0,1,J,⟨(fun _=>J),aV⟩,J,J,J,J,J,fun _ sg _ _=>af J (jf J J)⟩,
  ⟨⟨[⟨13,fun _=>tT [tD br r1.1,tD bR r1.2],some 3⟩],_,0,2,J,⟨(fun _=>J),aV⟩,J,J,J,J,J,fun _ sg _ _=>af J (jf J J)⟩,
  ⟨⟨[],_,J,aV,J,J,J,fun sg=>bZ J (eo (r:=br) (x:=oX) fT (fun _=>oW _))⟩,
  ⟨⟨[⟨2,fun sg=>tV (aE ((sg 6).h 0).2 0),some 6⟩,⟨17,fun _=>tD br r1.1,some 4⟩],_,J,⟨(fun _=>J),(fun _=>J),aV⟩,J,J,J,fun sg=>bZ J (iC fT J (o5 al) J (ht J) (ht J))⟩,
  aV⟩⟩⟩⟩⟩⟩⟩⟩ (fun sg=>?_)
 refine(show RG _ _ _ _ [bx br 33 ((sg 6).h 0).2 r1.1] _ from ?_);refine bg 2 J<|bB J<|aw<|ay<|zo J (bq fT J J)<|bG h fun r2 q_r2 h=>zo J (aF Lp (Fo _ _ q_r2) ⟨(ht J),hI,aV⟩)<|aG J<|zo J (jf J J)<|zo J (jf J J)<|bB J<|bB J<|aw<|ay<|aG J<|zo J (jS J)<|aG J<|cb J J (fun hg=>cn J)<|cb J J (fun hg=>bW (bc J hg) hI)<|zo J (kG J J) ?_;refine aG J<|cb J J (fun hg=>cc eC dF J J)<|cb J J (fun hg=>be lk J J (bc J hg))<|cb J J (fun hg=>bY jX (bc J hg))<|cb J J (fun hg=>bW (bc J hg) hI)<|zo J (kG J J)<|aG J<|bG h fun t q_t h=>cb J J (fun hg=>cc eC dF J J)<|cb J J (fun hg=>be lk J J (bc J hg)) ?_
 obtain⟨e,h1t,h0t⟩:=og q_t
 have q_eg:=fun hb=>(h1t hb).1
 refine cb J J (fun hg=>aO jX kc J (bc J hg) hI (q_eg hg))<|cb J J (fun hg=>ft qM J ky J (bc J hg))<|cb J J (fun hg=>be kE J J (bc J hg))<|cb J J (fun hg=>bY oz (bc J hg))<|cb J J (fun hg=>bW (bc J hg) hI)<|zo J (dj (ht J) (fun hb=>(bc J hb)) (fun hb=>(h1t hb).2) h0t)<|aG J<|bG h fun t1 q_t1 h=>cb J J (fun hg=>cc eC dF J J)<|cb J J (fun hg=>be lk J J (bc J hg)) ?_
 obtain⟨e1,h1t1,h0t1⟩:=og q_t1
 have q_e1g:=fun hb=>(h1t1 hb).1
 refine cb J J (fun hg=>aO jX kc J (bc J hg) hI (q_e1g hg))<|cb J J (fun hg=>ft qM J ky J (bc J hg))<|cb J J (fun hg=>be kE J J (bc J hg)) ?_
 obtain⟨e2,h1t1⟩:=Gr (fun hb=>(h1t1 hb).2)
 have q_e2g:=fun hb=>(h1t1 hb).1
 refine cb J J (fun hg=>aO oz cD J (bc J hg) hI (q_e2g hg))<|cb J J (fun hg=>ft pD J ju J (bc J hg))<|cb J J (fun hg=>be bD J J (bc J hg))<|cb J J (fun hg=>bW (bc J hg) hI)<|zo J (dj (ht J) (fun hb=>(bc J hb)) (fun hb=>(h1t1 hb).2) h0t1)<|aG J<|cb J J (fun hg=>cn J)<|cb J J (fun hg=>bY rP (bc J hg))<|cb J J (fun hg=>bW (bc J hg) hI)<|zo J (kG J J)<|bB J<|aw<|ap ?_;cases so h;exact aU J J

theorem Jp(p:bI)(frag:Int){R:Int×Int}(h:jm p frag=some R):bo aX 14 [tD br p,bK frag] (tT [bK R.1,bK R.2]):=by
 refine bo.of Tryz.func14 J J J fun w0 S0=>ay<|zo J (gP J)<|zo J (dW)<|zo J (dW)<|aw<|ae<|ay<|zo J (bq fT J J)<|aG J<|bG h fun r q_r h=>zo J (aF FJ (ww _ _ _ q_r) ⟨(ht J),(ht J),hI,aV⟩)<|bB J<|aw<|ay<|aG J<|zo J (zQ J)<|aw ?_;refine db h J (fun h=>?_) (fun h=>?_)
 ·refine ay<|aG J<|zo J (dW)<|bB J<|aw<|ap<|M ?_;cases so h;exact cw J J J
 ·refine dB<|ay<|zo J (bq fT J J)<|aG J<|bG h fun r1 q_r1 h=>zo J (aF KE (Fi _ _ q_r1) ⟨(ht J),(ht J),aV⟩)<|bB J<|zo J (dW)<|aw<|ap ?_;cases so h;exact cw J J J

theorem Jh(p:bI)(frag:Int)(nodes:Int){R:(List Int)×Int}(h:ku p frag nodes=some R):bo aX 15 [tD br p,bK frag,bK nodes] (tT [dE R.1,bK R.2]):=by
 refine bo.of Tryz.func15 J J J fun w0 S0=>ay<|zo J (gP J)<|zo J (aP (show aL _ _ _ ln from hP))<|zo J (dW)<|aw<|ae<|ay<|zo J (bq fT J J)<|aG J<|aG J<|bG h fun r q_r h=>zo J (aF FJ (ww _ _ _ q_r) ⟨(ht J),(ht J),(ht J),aV⟩)<|bB J<|aw<|ay<|aG J<|zo J (zQ J)<|aQ ?_;refine aq<|db h rfl (fun h=>?_) (fun h=>?_)
 ·refine ay<|aG J<|zo J (aP (show aL _ _ _ ln from hP))<|bB J<|aw<|ap<|M ?_;cases so h;exact cw J J J
 ·refine dB<|ay<|zo J (cc eC dF J J)<|zo J (bq lk J J)<|aG J<|bG h fun e q_e h=>zo J (jA jX kc J J J q_e)<|zo J (bq kc J J)<|aG J<|bG h fun r1 q_r1 h=>zo J (aF JC (B6 _ _ q_r1) ⟨(ht J),(ht J),aV⟩)<|bB J<|zo J (dW)<|aw<|ap ?_;cases so h;exact cw J J J

theorem B7(e:bA){R:Bool}(h:hJ e=some R):bo aX 30 [tD bu e] (eD R):=by
 refine bo.of Tryz.func30 J J J fun w0 S0=>ay<|zo J (gP J)<|zo J (eL)<|aw<|ae<|ay<|zo J (cc d2 cC J J)<|zo J (bq jT J J)<|zo J (fV je J)<|zo J (fq (ht J) hI)<|aw<|db h J (fun h=>?_) (fun h=>?_)
 ·refine ay<|zo J (eL)<|aw<|ap<|M ?_;cases so h;exact aU J J
 ·refine dB<|ae<|ay<|zo J (cc d2 cC J J)<|zo J (bq jT J J)<|zo J (fV je J)<|zo J (bv hI)<|aw<|ax<|bh (k:=10) J fun hN=>bF ?_;refine aT (dH (Z:=fun ls i=>(e.Nodes.drop i=ls)∧gy ls=some R) (Of:=fun _ i=>[]) (Gf:=fun _ i=>[(10,dS (aY) e.Nodes),(11,f7 e.Nodes),(12,bK (i:Int))]) (fun i h=>?_) (fun e1 tl ih i h=>?_) e.Nodes 0 ⟨J,h⟩) (bn J)
  ·obtain⟨hx,h⟩:=h
   refine aA<|ay<|zo J (em J J)<|aw<|ae<|bz (ht J) (da hx)<|bk ?_;refine ac (ac (aM ?_));refine aq<|ay<|zo rfl (eL)<|aw<|ap ?_;cases so h;exact aU J J
  ·obtain⟨hx,h⟩:=h
   refine aA<|ay<|zo J (em J J)<|aw<|ae<|bw (ht J) (c9 hx)<|dB<|ae<|ax<|ay<|zo J (jA je dc J J J (cV hx))<|zo J (bq dc J J)<|bj (r:=aY) (x:=zR) dc (fun _=>kK _) J fun b=>au dc J al J (ht J) (ht J)<|bg 4 J<|aw<|ay<|zo J (cc s8 nd J J) ?_;refine zo J (cc zi si J J)<|zo J (bq Dr J J)<|zo J (y0 pQ (ht J))<|zo J (fq (ht J) hI)<|aw<|db h J (fun h=>?_) (fun h=>?_)
   ·refine ay<|zo J (eL)<|aw<|ap ?_;refine aH (M (M (aH (M ?_))));cases so h;exact aU J J
   ·refine bE<|an<|aq<|am<|zo rfl (jY (cG hx hN) rfl)<|aG rfl<|aQ ?_;exact bf (aT (ih (i+1) ⟨cF hx,h⟩) (bn J))

end Go.Proofs.YtnmjbolollcokaaGreatDoor

