/- cN of this claim: P7. -/
import Derived.Test.YtnmjbolollcokaaGreatDoorRaT
import Derived.Test.YtnmjbolollcokaaGreatDoorRaP6
set_option linter.all false
namespace Go.Proofs.YtnmjbolollcokaaGreatDoor
open Go
set_option maxRecDepth 100000

theorem zn(of:(List Int))(among:(List Int)){R:(List Int)×Bool}(h:nJ of among=some R):bo aX 108 [dE of,dE among] (tT [dE R.1,eD R.2]):=by
 refine bo.of Tryz.func108 J J J fun w0 S0=>ay<|zo J (aP (show aL _ _ _ ln from hP))<|zo J (eL)<|aw<|ay<|bM false bR 3<|zo J (aP oS)<|aw<|ae<|ay<|aG J<|zo J (fV cW J)<|zo J (bv hI)<|aw<|ax<|bh (k:=10) J fun hN=>bF ?_;refine aT (jx (Z:=fun ls i out l c=>(of.drop i=ls)∧m3 of among ls out=some R) (Of:=fun _ i out l c=>[d9 bR 3 l c out]) (Gf:=fun _ i out l c=>[(0,dE of),(1,dE among),(6,mg l c out),(10,dE of),(11,f7 of),(12,bK (i:Int))]) (fun i out l c h=>?_) (fun e tl ih i out l c h=>?_) of 0 mE none 0 ⟨J,h⟩) (bn J)
 ·obtain⟨hx,h⟩:=h
  refine aA<|ay<|zo J (em J J)<|aw<|ae<|bz (ht J) (da hx)<|bk ?_;refine ac (ac (aM ?_));refine aq<|ay<|aG rfl<|aG rfl<|zo rfl (fV cW rfl)<|zo rfl (fq (ht rfl) hI)<|bB rfl<|bB rfl<|aw<|ap<|gh<|cB 6 rfl<|cB 26 rfl<|cB 4 rfl<|ia 4 rfl<|ba ?_;cases so h;exact cw J J J
 ·obtain⟨hx,h⟩:=h
  refine aA<|ay<|zo J (em J J)<|aw<|ae<|bw (ht J) (c9 hx)<|dB<|ae<|ax<|ay<|zo J (jA cW bD J J J (cV hx))<|zo J (bq bD J J)<|bB J<|aw<|ay<|aG J<|aG J<|bG h fun r q_r h=>?_;refine zo J (aF Li (G5 _ _ q_r) ⟨(ht J),(ht J),aV⟩)<|bB J<|aw<|ae<|ay<|aG J<|zo J (eg (ht J) hI)<|aw<|db h J (fun h=>?_) (fun h=>?_)
  ·refine ay<|zo J (aP (show aL _ _ _ ln from hP))<|zo J (eL)<|aw<|ap ?_;refine M (aH (M (M (aH (M ?_)))));refine ba ?_;cases so h;exact cw J J J
  ·refine dB<|am<|aG J<|aG J<|zo J (aS (r:=bR) (ys:=[r]) (xs:=[.tmp 22]) cW bD J J J J J ⟨(ht J),aV⟩)<|bG h fun out1 q_out1 h=>cM bD J J J J cW J J (ht J) (ht J) q_out1 fun l1 c1=>bB J<|aQ<|an<|aq<|am<|zo rfl (jY (cG hx hN) rfl)<|aG rfl<|aQ ?_;exact bf (aT (ih (i+1) out1 l1 c1 ⟨cF hx,h⟩) (bn J))

theorem Kw(b:Nat)(ix:OI)(p:aD)(n:ai)(kinds:(List Int))(l:(List bb)){R:bb}(h:jl p n kinds l=some R):cA aX 68 [tV (aE b 0),tD aj n,dE kinds,dS (ah) l] (d5 b p ix) (fun _:OI=>tD ah R) (fun _=>(d5 b p ix)):=by
 refine cA.of Tryz.func68 J J J fun w0 S0=>?_;refine(show CG _ _ _ [bx (rH aJ [(0,aC (ix.h 0).1 (ix.h 0).2 p.Plan.Frags.length),(3,aC (ix.h 1).1 (ix.h 1).2 p.kinds.length)]) 91 b p,bV aR 74 (ix.h 0).1 (ix.h 0).2 p.Plan.Frags,bV dK 42 (ix.h 1).1 (ix.h 1).2 p.kinds] _ from ?_);refine ay<|zo J (gP J)<|bj (r:=ah) (x:=fc) bt (fun _=>dz _) J fun b1=>aw<|ay<|zo J (cc k5 gL J J)<|zo J (bq rY J J)<|zo J (fV nv J)<|bG h fun mk q_mk h=>iE (FD (r:=bR) (x:=(0:Int)) bD J J J cW (fun _=>J) (ht J) (ht J) q_mk) J fun i=>bB J<|aw<|ae<|ay<|zo J (cc k5 gL J J)<|zo J (bq rY J J)<|zo J (fV nv J)<|zo J (bv hI)<|aQ ?_;refine aq<|ax<|bh (k:=19) J fun hN=>bF ?_;refine aT (j7 (Z:=fun ls i1 bare=>(n.Items.drop i1=ls)∧eU n kinds l ls i1 bare=some R) (Of:=fun _ i1 bare=>[d9 bR 3 (i.h 0).1 (i.h 0).2 bare,bx ah 95 b1 fc,bx (rH aJ [(0,aC (ix.h 0).1 (ix.h 0).2 p.Plan.Frags.length),(3,aC (ix.h 1).1 (ix.h 1).2 p.kinds.length)]) 91 b p,bV aR 74 (ix.h 0).1 (ix.h 0).2 p.Plan.Frags,bV dK 42 (ix.h 1).1 (ix.h 1).2 p.kinds]) (Gf:=fun _ i1 bare=>[(2,dE kinds),(3,dS (ah) l),(5,bl aj n),(8,tV (aE b1 0)),(9,mg (i.h 0).1 (i.h 0).2 bare),(19,dS (bu) n.Items),(20,f7 n.Items),(21,bK (i1:Int))]) (fun i1 bare h=>?_) (fun e tl ih i1 bare h=>?_) n.Items 0 mk ⟨J,h⟩) (bn J)
 ·obtain⟨hx,h⟩:=h
  refine aA<|ay<|zo J (em J J)<|aw<|ae<|bz (ht J) (da hx)<|bk ?_;refine ac (ac (aM ?_));refine aq<|ay<|aG rfl<|bG h fun e1 q_e1 h=>zo J (aO nD bt J (ht J) hI q_e1)<|zo J (cc km fF J J)<|zo J (bq cy J J)<|aG J<|lK<|oL 9 J<|oL 55 J<|bG h fun r q_r h=>zo J (aF FL (zn _ _ q_r) ⟨(ht J),(iR (ht J)),aV⟩)<|aG J<|zo J (jf J J)<|zo J (jf J J)<|bB J<|bB J<|aw<|ae<|bG h fun r1 q_r1 h=>bG h fun r2 q_r2 h=>?_
  refine hZ 9 (ts:=[tD aj n,dE kinds,dS (ah) l,bl ah e1,tD ah e1,dS (ah) ([e1]),tD ah r1,dE r.1,tD ah r2]) mixed J J J
   ⟨dT 5 J J J (bq cD J J),
   ⟨dT 2 J J J (cn J),
   ⟨dT 3 J J J (cn J),
   ⟨cP 61 2 J J J (aO nD bt J (ht J) hI q_e1),
   ⟨cP 62 3 J J J (bq bt J J),
   ⟨cP 63 4 J J J (aS (r:=ah) (ys:=[e1]) (xs:=[.tmp 63]) nD bt J J J J J ⟨(ht J),aV⟩),
   ⟨rt 59 0 60 1 64 5 J J J J J (aF nY (ja _ _ _ q_r1) ⟨(ht J),(ht J),(ht J),aV⟩),
   ⟨dT 12 J J J (cn J),
   ⟨dL 65 6 66 7 J J J J (aF uX (nV _ _ q_r2) ⟨(ht J),(ht J),aV⟩),
   aV⟩⟩⟩⟩⟩⟩⟩⟩⟩ ?_
  refine bQ<|au bt J al J (ht J) (ht J)<|bg 8 J<|aw<|ap<|ba<|av<|av<|av ?_;cases so h;exact eu J bt J J J lm J J
 ·obtain⟨hx,h⟩:=h
  refine aA<|ay<|zo J (em J J)<|aw<|ae<|bw (ht J) (c9 hx)<|dB<|ae<|ax<|ay<|aG J<|zo J (jA nv fe J J J (cV hx))<|zo J (bq fe J J)<|bj (r:=bu) (x:=mT) fe (fun _=>mD _) J fun b2=>bB J<|au fe J al J (ht J) (ht J)<|bg 11 J<|aw<|ae ?_;refine am<|aG J<|aG J<|bG h fun e2 q_e2 h=>zo J (cj cW bD (.head _) (ht J) (ht J) q_e2)<|bG h fun st q_st h=>jM bD J al J q_e2 (so q_st) (ht J) hI<|dR (eH (so q_st)) 9 J<|dR (eH (so q_st)) 26 J<|aw<|ay<|zo J (cc d2 cC J J)<|zo J (bq jT J J)<|zo J (fV je J)<|zo J (jS J)<|aG J<|bG h fun t q_t h=>cb J J (fun hg=>cc d2 cC J J)<|cb J J (fun hg=>be jT J J (bc J hg)) ?_
  obtain⟨e3,h1t,h0t⟩:=og q_t
  have q_e3g:=fun hb=>(h1t hb).1
  refine cb J J (fun hg=>aO je dc J (bc J hg) hI (q_e3g hg))<|cb J J (fun hg=>ft gU J dZ J (bc J hg))<|cb J J (fun hg=>be bD J J (bc J hg))<|cb J J (fun hg=>bW (bc J hg) hI)<|zo J (dj (ht J) (fun hb=>(bc J hb)) (fun hb=>(h1t hb).2) h0t)<|aw<|db h J (fun h=>?_) (fun h=>?_)
  ·refine am<|aG J<|aG J<|zo J (cc d2 cC J J)<|zo J (bq jT J J)<|bG h fun e4 q_e4 h=>zo J (aO je dc J (ht J) hI q_e4)<|zo J (cc k6 fL J J)<|zo J (bq bD J J)<|bG h fun e5 q_e5 h=>zo J (cj cW bD (.head _) (ht J) (ht J) q_e5)<|bG h fun st1 q_st1 h=>jM bD J al J q_e5 (so q_st1) (ht J) (ht J)<|dR (eH (so q_st1)) 9 J<|dR (eH (so q_st1)) 26 J<|dR (eH (so q_st1)) 41 J<|aQ<|an<|aq<|am<|zo rfl (jY (cG hx hN) rfl)<|aG rfl<|aQ ?_;exact bf (aT (ih (i1+1) st1 ⟨cF hx,h⟩) (bn J))
  ·refine bE<|an<|aq<|am<|zo rfl (jY (cG hx hN) rfl)<|aG rfl<|aQ ?_;exact bf (aT (ih (i1+1) st ⟨cF hx,h⟩) (bn J))

theorem GO(s:(List bT))(f:(bT→Option Bool)){R:Int}(h:ff s f=some R):bo aX 234 [dS (aY) s,(eS aX F8 kb (fun(x:bT)=>f x))] (bK R):=by
 refine bo.of Tryz.func234 J J J fun w0 S0=>ay<|zo J (dW)<|aw<|ae<|ay<|aG J<|zo J (fV je J)<|zo J (bv hI)<|aw<|ax<|bh (k:=6) J fun hN=>bF ?_;refine aT (dH (Z:=fun ls i=>(s.drop i=ls)∧dD f ls i=some R) (Of:=fun _ i=>[]) (Gf:=fun _ i=>[(0,dS (aY) s),(1,(eS aX F8 kb (fun(x:bT)=>f x))),(7,f7 s),(8,bK (i:Int))]) (fun i h=>?_) (fun e tl ih i h=>?_) s 0 ⟨J,h⟩) (bn J)
 ·obtain⟨hx,h⟩:=h
  refine aA<|ay<|zo J (em J J)<|aw<|ae<|bz (ht J) (da hx)<|bk ?_;refine ac (ac (aM ?_));refine aq<|ay<|zo rfl (dW)<|aw<|ap ?_;cases so h;exact aU J J
 ·obtain⟨hx,h⟩:=h
  refine aA<|ay<|zo J (em J J)<|aw<|ae<|bw (ht J) (c9 hx)<|dB<|ae<|ax<|ay<|aG J<|bB J<|aw<|ay<|aG J<|aG J<|aG J<|zo J (jA je dc J J J (cV hx)) ?_;refine zo J (bq dc J J)<|bG h fun r q_r h=>zo J (gu (args:=F8) (res:=Bm) (f:=(fun(x:bT)=>f x)) (x:=((e):bT)) (ht J) q_r ⟨(ht J),aV⟩)<|aw<|db h J (fun h=>?_) (fun h=>?_)
  ·refine ay<|aG J<|bB J<|aw<|ap ?_;refine aH (M (M (aH (M ?_))));cases so h;exact aU J J
  ·refine bE<|an<|aq<|am<|zo rfl (jY (cG hx hN) rfl)<|aG rfl<|aQ ?_;exact bf (aT (ih (i+1) ⟨cF hx,h⟩) (bn J))

theorem G2(s:(List bT))(f:(bT→Option Bool)){R:Bool}(h:eF s f=some R):bo aX 200 [dS (aY) s,(eS aX F8 kb (fun(x:bT)=>f x))] (eD R):=by
 refine bo.of Tryz.func200 J J J fun w0 S0=>ay<|zo J (eL)<|aw<|ay<|aG J<|aG J<|bG h fun r q_r h=>zo J (aF KU (GO _ _ q_r) ⟨(ht J),(ht J),aV⟩)<|zo J (dm (ht J) hI)<|bB J<|aw<|ap ?_;cases so h;exact aU J J

theorem G1(n:bT){R:Bool}(h:uR n=some R):bo aX 201 [tD aY n] (eD R):=by
 refine bo.of Tryz.func201 J J J fun w0 S0=>ay<|zo J (gP J)<|zo J (eL)<|aw<|ay<|zo J (cc gU dZ J J)<|zo J (bq bD J J)<|bG h fun r q_r h=>zo J (aF HI (CS _ q_r) ⟨(ht J),aV⟩)<|bB J<|aw<|ap ?_;cases so h;exact aU J J

theorem He(e:bA){R:Bool}(h:xS e=some R):bo aX 143 [tD bu e] (eD R):=by
 refine bo.of Tryz.func143 J J J fun w0 S0=>ay<|zo J (gP J)<|zo J (eL)<|aw<|ay<|zo J (bq fe J J)<|bG h fun r q_r h=>zo J (aF CY (vw _ q_r) ⟨(ht J),aV⟩)<|zo J (jS J)<|aG J<|bG h fun t q_t h=>cb J J (fun hg=>cc d2 cC J J)<|cb J J (fun hg=>be jT J J (bc J hg)) ?_
 obtain⟨r1,h1t,h0t⟩:=og q_t
 have q_r1g:=fun hb=>(h1t hb).1
 refine cb J J (fun hg=>aF Le (G2 _ _ (q_r1g hg)) ⟨(bc J hg),(ID Ld fun x y h=>G1 _ h),aV⟩)<|cb J J (fun hg=>dy (bc J hg))<|zo J (dj (ht J) (fun hb=>(bc J hb)) (fun hb=>(h1t hb).2) h0t)<|bB J<|aw<|ap ?_;cases so h;exact aU J J

theorem Fs(e:bA){R:(List bA)}(h:xV e=some R):eG aX 144 [tD bu e] false bu 67 R:=by
 refine eG.of Tryz.func144 J J J fun w0 S0=>ay<|zo J (gP J)<|bM false bu 67<|zo J (aP oS)<|aw<|ay<|zo J (bq fe J J)<|bG h fun r q_r h=>zo J (aF HH (CR _ q_r) ⟨(ht J),aV⟩)<|aG J<|zo J (jf J J)<|zo J (jf J J)<|bB J<|bB J<|aw<|ae<|ay<|aG J ?_;refine zo J (dy (ht J))<|aw<|db h J (fun h=>?_) (fun h=>?_)
 ·refine ay<|bM false bu 67<|zo J (aP oS)<|aw<|ap<|M ?_;cases so h;exact el J J
 ·refine dB<|ay<|bM false bu 67<|zo J (aP oS)<|aw<|ay<|zo J (cc d2 cC J J)<|zo J (bq jT J J)<|zo J (fV je J)<|zo J (fb (ht J) hI)<|gz (r:=bR) (ys:=[(IntKind.i64.wrap ((e.Nodes.length:Int)-(1:Int)))]) (xs:=[.tmp 23]) cW bD J J J J J ⟨(ht J),aV⟩ J fun l c=>bB J<|aw<|ae<|ax<|bF<|jO<|lS<|ep ?_;refine aT (C9 (Z:=fun n out l1 c1 open1 l2 c2=>iB e r n out open1=some R) (Of:=fun out l1 c1 open1 l2 c2=>[d9 bu 67 l1 c1 out,d9 bR 3 l2 c2 open1]) (Gf:=fun out l1 c1 open1 l2 c2=>[(1,bl bu e),(3,dE r.1),(5,mg l1 c1 out),(6,mg l2 c2 open1)]) (fun out l1 c1 open1 l2 c2 h=>nn h) (fun n ih out l1 c1 open1 l2 c2 h=>?_) kp ([]:List bA) none 0 ([(IntKind.i64.wrap ((e.Nodes.length:Int)-(1:Int)))]) l c h) (bn J);refine aA<|ae<|ay<|aG J<|zo J (eJ cW (.tail _ (.head _)) (ht J))<|zo J (fq (ht J) hI)<|aw<|db h J (fun h=>?_) (fun h=>?_)
  ·refine dB ?_;refine yg (Z:=fun out1 l3 c3 open2 l4 c4=>pH (iB e r n) out1 open2=some R) (Of:=fun out1 l3 c3 open2 l4 c4=>[d9 bu 67 l3 c3 out1,d9 bR 3 l4 c4 open2]) (Gf:=fun out1 l3 c3 open2 l4 c4=>[(1,bl bu e),(3,dE r.1),(5,mg l3 c3 out1),(6,mg l4 c4 open2)]) (fun out1 l3 c3 open2 l4 c4 h=>?_) (fun K=>?_)
   ·skip
    exact bf (aT (ih out1 l3 c3 open2 l4 c4 h) (bn J))
   ·skip
    refine ay<|aG J<|aG J<|zo J (eJ cW (.tail _ (.head _)) (ht J))<|zo J (fb (ht J) hI)<|bG h fun e1 q_e1 h=>zo J (cj cW bD (.tail _ (.head _)) (ht J) (ht J) q_e1)<|zo J (d8 (r:=bR) (i:=(IntKind.i64.wrap ((open1.length:Int)-(1:Int)))) (foff:=0) bD J J bp J (.tail _ (.head _)) q_e1 (ht J))<|bB J<|aw<|ay<|aG J<|aG J<|zo J (eJ cW (.tail _ (.head _)) (ht J))<|zo J (fb (ht J) hI)<|bG h fun y q_y h=>zo J (l9 cW bD J (.tail _ (.head _)) (ht J) (ht J) q_y)<|bQ<|wJ q_y<|bB J<|aQ ?_;refine aq<|ay<|zo rfl (cc d2 cC rfl rfl)<|zo rfl (bq jT rfl rfl)<|aG rfl<|bG h fun e2 q_e2 h=>zo J (jA je dc J J J q_e2)<|zo J (bq dc J J)<|bj (r:=aY) (x:=zR) dc (fun _=>kK _) J fun b=>au dc J al J (ht J) (ht J)<|bg 8 J<|aw<|ae<|ay<|zo J (cc gU dZ J J)<|zo J (bq bD J J)<|zo J (jS J)<|aw<|db h J (fun h=>?_) (fun h=>?_)
    ·refine ay<|aG J<|zo J (cc s9 py J J)<|zo J (bq bD J J)<|zo J (cc ta pz J J)<|zo J (bq bD J J)<|zo J (aS (r:=bR) (ys:=[e2.R,e2.L]) (xs:=[.tmp 49,.tmp 51]) cW bD J J J J J ⟨(ht J),(ht J),aV⟩)<|bG h fun open3 q_open3 h=>cM bD J J J J cW J J (ht J) (ht J) q_open3 fun l5 c5=>bB J<|aw<|bk ?_;refine ac (aM ?_);refine bU ?_;exact ce (K out l1 c1 open3 l5 c5 h) (bn J)
    ·refine dB<|ay<|aG J<|aG J<|bG h fun e3 q_e3 h=>zo J (jA cW bD J J J q_e3)<|zo J (bq bD J J)<|bB J<|aw<|ay<|zo J (cc d2 cC J J)<|zo J (bq jT J J)<|aG J<|aG J<|zo J (jp (ht J) hI)<|bG h fun y1 q_y1 h=>zo J (DI je dc J (ht J) (ht J) (ht J) q_y1)<|bG h fun r1 q_r1 h=>hY CZ (wx _ q_r1) ⟨(ht J),aV⟩ J fun l6 c6=>zo J (cr (y:=kw (⟨r1⟩:bA) (aC l6 c6 r1.length)) fe IH xk (⟨_,_,_,_,_,J,Ab,J,(F2 (ht J)),J⟩)) ?_;refine bM false aY 130<|bj (r:=jD) (x:=kw mT (aC none 0 (([]:List bT).length))) fe xk J fun b1=>iD fe J (kr J) J (ht J) (ht J)<|bQ<|zA<|aw<|ae<|ay<|zo J (d3 0 d2 J J J)<|zo J (jI jT uN (.head _) J (ht J))<|zo J (eJ je (.tail _ (.head _)) (ht J))<|zo J (bv hI)<|aw<|ax<|iF (.tail _ (.head _)) fun hN=>bF<|ep<|ep<|jO<|lM ?_;refine aT (j7 (Z:=fun ls i part=>(r1.drop i=ls)∧la (iB e r n) out y e3 ls i part=some R) (Of:=fun _ i part=>[d9 bu 67 l1 c1 out,d9 bR 3 l2 c2 y,bx jD 67 b1 (kw part (aC l6 c6 part.Nodes.length)),d9 aY 130 l6 c6 part.Nodes]) (Gf:=fun _ i part=>[(1,bl bu e),(3,dE r.1),(5,mg l1 c1 out),(6,mg l2 c2 y),(9,bK e3),(10,tV (aE b1 0)),(68,f7 r1),(69,bK (i:Int))]) (fun i part h=>?_) (fun e4 tl ih1 i part h=>?_) r1 0 ({(⟨r1⟩:bA)with Nodes:=r1}:bA) ⟨J,h⟩) (bn J)
     ·obtain⟨hx,h⟩:=h
      refine aA<|ay<|zo J (em J J)<|aw<|ae<|bz (ht J) (da hx)<|bk ?_;refine ac (ac (aM ?_));refine aq<|am<|aG rfl<|cY<|lK<|zo rfl (m5 (q:=bu) (y:=part) fe J J J J (.tail _ (.tail _ (.tail _ (.head _)))) (fun _ _ _ ho h=>wB (q9 ho (.head _)) h) (ht J))<|zo J (aS (r:=bu) (ys:=[part]) (xs:=[.tmp 104]) nv fe J J J J J ⟨(ht J),aV⟩)<|bQ<|bG h fun out2 q_out2 h=>cM fe J J J J nv J J (ht J) (ht J) q_out2 fun l7 c7=>bB J<|aQ<|an<|bU<|ba<|av<|ba ?_;exact ce (K out2 l7 c7 y l2 c2 h) (bn J)
     ·obtain⟨hx,h⟩:=h
      refine aA<|ay<|zo J (em J J)<|aw<|ae<|bw (ht J) (c9 hx)<|dB<|ae<|ax<|ay<|aG J<|bB J<|aw<|ay<|zo J (d3 0 d2 J J J)<|zo J (jI jT uN (.tail _ (.tail _ (.head _))) J (ht J))<|aG J<|bG h fun e5 q_e5 h=>?_;refine zo J (cj je dc (.tail _ (.tail _ (.tail _ (.head _)))) (ht J) (ht J) q_e5)<|bB J<|aw ?_;refine ge (Z:=fun part1=>pG e3 (la (iB e r n) out y e3 tl) i part1=some R) (Of:=fun part1=>[d9 bu 67 l1 c1 out,d9 bR 3 l2 c2 y,bx jD 67 b1 (kw part1 (aC l6 c6 part1.Nodes.length)),d9 aY 130 l6 c6 part1.Nodes]) (Gf:=fun part1=>[(1,bl bu e),(3,dE r.1),(5,mg l1 c1 out),(6,mg l2 c2 y),(9,bK e3),(10,tV (aE b1 0)),(12,tV (jg l6 ((i:Int).toNat*8+0))),(68,f7 r1),(69,bK (i:Int))]) (fun part1 h=>?_) (fun K1=>?_)
      ·skip
       refine ay<|aG J<|bG h fun e6 q_e6 h=>zo J (rb (.tail _ (.tail _ (.tail _ (.head _)))) q_e6 (ht J))<|zo J (dJ (o:=(i:Int).toNat*8+0) (n:=(i:Int).toNat*8+2) s9 J (.tail _ (.tail _ (.tail _ (.head _)))) q_e6 (ht J) J)<|zo J (d8 (r:=aY) (i:=(i:Int)) (foff:=2) bD J J py J (.tail _ (.tail _ (.tail _ (.head _)))) q_e6 (ht J))<|zo J (dm (ht J) hI)<|aw<|db h J (fun h=>?_) (fun h=>?_)
       ·refine am<|aG J<|zo J (rb (.tail _ (.tail _ (.tail _ (.head _)))) q_e6 (ht J))<|zo J (dJ (o:=(i:Int).toNat*8+0) (n:=(i:Int).toNat*8+2) s9 J (.tail _ (.tail _ (.tail _ (.head _)))) q_e6 (ht J) J)<|zo J (d8 (r:=aY) (i:=(i:Int)) (foff:=2) bD J J py J (.tail _ (.tail _ (.tail _ (.head _)))) q_e6 (ht J))<|aG J<|zo J (fb (ht J) (ht J))<|zo J (rb (.tail _ (.tail _ (.tail _ (.head _)))) q_e6 (ht J))<|zo J (dJ (o:=(i:Int).toNat*8+0) (n:=(i:Int).toNat*8+2) s9 J (.tail _ (.tail _ (.tail _ (.head _)))) q_e6 (ht J) J)<|cY<|bG h fun st q_st h=>jM bD J BB J q_e6 (so q_st) (ht J) (ht J)<|tq (O' :=[d9 aY 130 l6 c6 st,d9 bu 67 l1 c1 out,d9 bR 3 l2 c2 y,bx jD 67 b1 (kw part1 (aC l6 c6 st.length))]) (by rw [eH (so q_st)])<|aQ<|an<|aq<|am<|zo rfl (jY (cG hx hN) rfl)<|aG rfl<|aQ<|bm<|bm<|bm ?_;exact bf (aT (ih1 (i+1) ({part1 with Nodes:=st}:bA) ⟨cF hx,h⟩) (bn J))
       ·refine bE<|an<|aq<|am<|zo rfl (jY (cG hx hN) rfl)<|aG rfl<|aQ ?_;exact bf (aT (ih1 (i+1) part1 ⟨cF hx,h⟩) (bn J))
      ·skip
       refine ay<|aG J<|zo J (rb (.tail _ (.tail _ (.tail _ (.head _)))) q_e5 (ht J))<|zo J (dJ (o:=(i:Int).toNat*8+0) (n:=(i:Int).toNat*8+1) ta J (.tail _ (.tail _ (.tail _ (.head _)))) q_e5 (ht J) J)<|zo J (d8 (r:=aY) (i:=(i:Int)) (foff:=1) bD J J pz J (.tail _ (.tail _ (.tail _ (.head _)))) q_e5 (ht J))<|zo J (dm (ht J) hI)<|aw<|db h J (fun h=>?_) (fun h=>?_)
       ·refine am<|aG J<|zo J (rb (.tail _ (.tail _ (.tail _ (.head _)))) q_e5 (ht J))<|zo J (dJ (o:=(i:Int).toNat*8+0) (n:=(i:Int).toNat*8+1) ta J (.tail _ (.tail _ (.tail _ (.head _)))) q_e5 (ht J) J)<|zo J (d8 (r:=aY) (i:=(i:Int)) (foff:=1) bD J J pz J (.tail _ (.tail _ (.tail _ (.head _)))) q_e5 (ht J))<|aG J<|zo J (fb (ht J) (ht J))<|zo J (rb (.tail _ (.tail _ (.tail _ (.head _)))) q_e5 (ht J))<|zo J (dJ (o:=(i:Int).toNat*8+0) (n:=(i:Int).toNat*8+1) ta J (.tail _ (.tail _ (.tail _ (.head _)))) q_e5 (ht J) J)<|cY<|bG h fun st1 q_st1 h=>jM bD J BC J q_e5 (so q_st1) (ht J) (ht J)<|dR (eH (so q_st1)) 73 J<|tq (O' :=[d9 aY 130 l6 c6 st1,d9 bu 67 l1 c1 out,d9 bR 3 l2 c2 y,bx jD 67 b1 (kw part (aC l6 c6 st1.length))]) (by rw [eH (so q_st1)])<|aQ<|bm<|bm<|bm ?_;exact ce (K1 ({part with Nodes:=st1}:bA) h) (bn J)
       ·refine bE ?_;exact ce (K1 part h) (bn J)
  ·refine bk ?_;refine ac (ac (aM ?_));refine aq<|ay<|aG rfl<|bB rfl<|aw<|ap ?_;cases so h;exact el J J
theorem Hd(e:bA)(left:Int){R:Int×Int×Bool}(h:xT e left=some R):bo aX 145 [tD bu e,bK left] (tT [bK R.1,bK R.2.1,eD R.2.2]):=by
 refine bo.of Tryz.func145 J J J fun w0 S0=>ay<|zo J (gP J)<|zo J (dW)<|zo J (dW)<|zo J (eL)<|aw<|ae<|ay<|zo J (bq fe J J)<|bG h fun r q_r h=>zo J (aF CY (vw _ q_r) ⟨(ht J),aV⟩)<|zo J (zQ J)<|aG J<|cR J J (fun hg=>cc d2 cC J J)<|cR J J (fun hg=>be jT J J (bc J hg))<|cR J J (fun hg=>bY je (bc J hg))<|cR J J (fun hg=>cK (bc J hg) hI)<|zo J (oB J J)<|aG J<|bG h fun t q_t h=>?_;refine cR J J (fun hg=>cc d2 cC J J)<|cR J J (fun hg=>be jT J J (bc J hg)) ?_
 obtain⟨e1,h1t,h0t⟩:=og q_t
 have q_e1g:=fun hb=>(h1t hb).1
 refine cR J J (fun hg=>aO je dc J (bc J hg) hI (q_e1g hg))<|cR J J (fun hg=>ft gU J dZ J (bc J hg))<|cR J J (fun hg=>be bD J J (bc J hg))<|cR J J (fun hg=>cK (bc J hg) hI)<|zo J (dx (ht J) (fun hb=>(bc J (mj hb))) (fun hb=>(h1t hb).2) h0t)<|aw<|db h J (fun h=>?_) (fun h=>?_)
 ·refine ay<|zo J (dW)<|zo J (dW)<|zo J (eL)<|aw<|ap<|M ?_;cases so h;exact vx J J J J
 ·refine dB<|ae<|bG h fun e2 q_e2 h=>bG h fun e3 q_e3 h=>?_
  refine wR 11 [tc (bl Dm e.Nodes),tc (dS (aY) e.Nodes),tc (bl aY e2),tc (tD aY e2),tc (bl Dm e.Nodes),tc (dS (aY) e.Nodes),tc (bl aY e3),tc (tD aY e3),([8],fun s=>tV (aE ((s.getD 0 lm).h 0).2 0)),([9],fun s=>tV (aE ((s.getD 0 lm).h 0).2 0)),tc (tL)] [false,false,false,false,false,false,false,false,true,true,true] [([],fun _=>[]),([8],fun sg=>[bx aY 130 ((sg 8).h 0).2 zR]),([9],fun sg=>[bx aY 130 ((sg 9).h 0).2 zR]),([8,9],fun sg=>[bx aY 130 ((sg 9).h 0).2 zR,bx aY 130 ((sg 8).h 0).2 zR]),([8,9,10],fun sg=>[bx aY 130 ((sg 8).h 0).2 e2,bx aY 130 ((sg 9).h 0).2 zR])] (fun _=>J) mixed J J J J
   ⟨⟨[⟨2,fun _=>bl bu e,none⟩],_,[[],[8],[9],[8,9]],J,⟨(fun _=>J),aV⟩,J,J,J,J,J,⟨fun sg=>af J (cc d2 cC J J),fun sg=>af J (cc d2 cC J J),fun sg=>af J (cc d2 cC J J),fun sg=>af J (cc d2 cC J J),aV⟩⟩,
   ⟨⟨[⟨28,fun _=>bl Dm e.Nodes,some 0⟩],_,[[],[8],[9],[8,9]],J,⟨(fun _=>J),aV⟩,J,J,J,J,J,⟨fun sg=>af J (bq jT J J),fun sg=>af J (bq jT J J),fun sg=>af J (bq jT J J),fun sg=>af J (bq jT J J),aV⟩⟩,
   ⟨⟨[⟨29,fun _=>tD Dm e.Nodes,some 1⟩],_,[[],[8],[9],[8,9]],J,⟨(fun _=>J),aV⟩,J,J,J,J,J,⟨fun sg=>af J (aO je dc J (ht J) hI q_e2),fun sg=>af J (aO je dc J (ht J) hI q_e2),fun sg=>af J (aO je dc J (ht J) hI q_e2),fun sg=>af J (aO je dc J (ht J) hI q_e2),aV⟩⟩,
   ⟨⟨[⟨30,fun _=>bl aY e2,some 2⟩],_,[[],[8],[9],[8,9]],J,⟨(fun _=>J),aV⟩,J,J,J,J,J,⟨fun sg=>af J (bq dc J J),fun sg=>af J (bq dc J J),fun sg=>af J (bq dc J J),fun sg=>af J (bq dc J J),aV⟩⟩,
   ⟨⟨[⟨2,fun _=>bl bu e,none⟩],_,[[],[8],[9],[8,9],[8,9,10]],J,⟨(fun _=>J),aV⟩,J,J,J,J,J,⟨fun sg=>af J (cc d2 cC J J),fun sg=>af J (cc d2 cC J J),fun sg=>af J (cc d2 cC J J),fun sg=>af J (cc d2 cC J J),fun sg=>af J (cc d2 cC J J),aV⟩⟩,
   ⟨⟨[⟨32,fun _=>bl Dm e.Nodes,some 4⟩],_,[[],[8],[9],[8,9],[8,9,10]],J,⟨(fun _=>J),aV⟩,J,J,J,J,J,⟨fun sg=>af J (bq jT J J),fun sg=>af J (bq jT J J),fun sg=>af J (bq jT J J),fun sg=>af J (bq jT J J),fun sg=>af J (bq jT J J),aV⟩⟩,
   ⟨⟨[⟨33,fun _=>tD Dm e.Nodes,some 5⟩],_,[[],[8],[9],[8,9],[8,9,10]],J,⟨(fun _=>J),aV⟩,J,J,J,J,J,⟨fun sg=>af J (aO je dc J (ht J) hI q_e3),fun sg=>af J (aO je dc J (ht J) hI q_e3),fun sg=>af J (aO je dc J (ht J) hI q_e3),fun sg=>af J (aO je dc J (ht J) hI q_e3),fun sg=>af J (aO je dc J (ht J) hI q_e3),aV⟩⟩,
   ⟨⟨[⟨34,fun _=>bl aY e3,some 6⟩],_,[[],[8],[9],[8,9],[8,9,10]],J,⟨(fun _=>J),aV⟩,J,J,J,J,J,⟨fun sg=>af J (bq dc J J),fun sg=>af J (bq dc J J),fun sg=>af J (bq dc J J),fun sg=>af J (bq dc J J),fun sg=>af J (bq dc J J),aV⟩⟩,
   ⟨⟨[],_,[([],[8]),([9],[8,9])],J,aV,J,J,J,J,J,⟨fun sg=>bZ J (eo (r:=aY) (x:=zR) dc (fun _=>kK _)),fun sg=>bZ J (EffOK.post_imp (post:=fun x__=>(fun(sg:Nat→OI)=>[bx aY 130 ((sg 8).h 0).2 zR,bx aY 130 ((sg 9).h 0).2 zR]) (zX sg 8 x__)) (eo (r:=aY) (x:=zR) dc (fun _=>kK _)) (fun h=>co.pick [1,0] J h)),aV⟩⟩,
   ⟨⟨[],_,[([],[9]),([8],[8,9])],J,aV,J,J,J,J,J,⟨fun sg=>bZ J (eo (r:=aY) (x:=zR) dc (fun _=>kK _)),fun sg=>bZ J (eo (r:=aY) (x:=zR) dc (fun _=>kK _)),aV⟩⟩,
   ⟨⟨[⟨7,fun sg=>tV (aE ((sg 8).h 0).2 0),some 8⟩,⟨31,fun _=>tD aY e2,some 3⟩],_,[([8,9],[8,9,10])],J,⟨(fun _=>J),(fun _=>J),aV⟩,J,J,J,J,J,⟨fun sg=>bZ J (EffOK.fr1 (iC dc J (o5 al) J (ht J) (ht J))),aV⟩⟩,
   aV⟩⟩⟩⟩⟩⟩⟩⟩⟩⟩⟩ (fun sg=>?_)
  refine(show RG _ _ _ _ [bx aY 130 ((sg 8).h 0).2 e2,bx aY 130 ((sg 9).h 0).2 zR] _ from ?_);refine bg 7 J<|au dc J al J (ht J) (ht J)<|bg 8 J<|aw<|ae<|ay<|zo J (cc gU dZ J J)<|zo J (bq bD J J)<|zo J (zQ J)<|aG J<|cR J J (fun hg=>cc gU dZ J J)<|cR J J (fun hg=>be bD J J (bc J hg))<|cR J J (fun hg=>cK (bc J hg) hI)<|zo J (oB J J)<|aw<|db h J (fun h=>?_) (fun h=>?_)
  ·refine ay<|zo J (dW)<|zo J (dW)<|zo J (eL)<|aw<|ap<|M ?_;cases so h;exact vx J J J J
  ·refine dB<|ae ?_
   refine ec (ts:=[_,_,_,_,_,_,_,_,_,_,_,_]) mixed J J
    ⟨dT 7 J J J (cc k6 fL J J),
    ⟨cP 44 0 J J J (bq bD J J),
    ⟨dT 8 J J J (cc k6 fL J J),
    ⟨cP 46 2 J J J (bq bD J J),
    ⟨dL 45 1 47 3 J J J J (CF (ht J) (ht J)),
    ⟨dT 7 J J J (cc k6 fL J J),
    ⟨cP 49 5 J J J (bq bD J J),
    ⟨dT 8 J J J (cc k6 fL J J),
    ⟨cP 51 7 J J J (bq bD J J),
    ⟨dL 50 6 52 8 J J J J (yZ (ht J) (ht J)),
    ⟨cP 48 4 J J J (tK J),
    ⟨cP 53 9 J J J (tK J),
    aV⟩⟩⟩⟩⟩⟩⟩⟩⟩⟩⟩⟩ ?_
   refine aq<|ae<|ay<|aG rfl<|aG rfl<|zo rfl (dm (ht rfl) (ht rfl))<|aG rfl<|cR rfl rfl (fun hg=>cn J)<|cR J J (fun hg=>cn J)<|cR J J (fun hg=>eg (bc J hg) (bc J hg))<|zo J (oB J J)<|aw<|db h J (fun h=>?_) (fun h=>?_)
   ·refine ay<|zo J (dW)<|zo J (dW)<|zo J (eL)<|aw<|ap<|M ?_;cases so h;exact vx J J J J
   ·refine dB<|ay<|aG J<|aG J<|aG J<|zo J (fb (ht J) (ht J))<|bB J<|bB J<|zo J (eL)<|aw<|ap ?_;cases so h;exact vx J J J J

theorem Hh(cond:bA)(left:Int){R:(List Int)×(List Int)}(h:wa cond left=some R):bo aX 109 [tD bu cond,bK left] (tT [dE R.1,dE R.2]):=by
 refine bo.of Tryz.func109 J J J fun w0 S0=>ay<|zo J (gP J)<|zo J (aP (show aL _ _ _ ln from hP))<|zo J (aP (show aL _ _ _ ln from hP))<|aw<|ay<|bM false bR 3<|zo J (aP oS)<|bM false bR 3<|zo J (aP oS)<|aw<|ae<|ay<|zo J (bq fe J J)<|bG h fun r q_r h=>hY LD (Fs _ q_r) ⟨(ht J),aV⟩ J fun l c=>zo J (eJ nv (.head _) (ht J))<|zo J (bv hI) ?_;refine aw<|ax<|iF (.head _) fun hN=>bF<|ep<|jO ?_;refine aT (wN (Z:=fun ls i a1 l1 c1 b l2 c2=>(r.drop i=ls)∧iL left ls a1 b=some R) (Of:=fun _ i a1 l1 c1 b l2 c2=>[d9 bR 3 l1 c1 a1,d9 bR 3 l2 c2 b,d9 bu 67 l c r]) (Gf:=fun _ i a1 l1 c1 b l2 c2=>[(1,bK left),(6,mg l1 c1 a1),(7,mg l2 c2 b),(14,mg l c r),(15,f7 r),(16,bK (i:Int))]) (fun i a1 l1 c1 b l2 c2 h=>?_) (fun e tl ih i a1 l1 c1 b l2 c2 h=>?_) r 0 mE none 0 mE none 0 ⟨J,h⟩) (bn J)
 ·obtain⟨hx,h⟩:=h
  refine aA<|ay<|zo J (em J J)<|aw<|ae<|bz (ht J) (da hx)<|bk ?_;refine ac (ac (aM ?_));refine aq<|ay<|aG rfl<|aG rfl<|bB rfl<|bB rfl<|aw<|ap<|gh<|cB 6 rfl<|cB 44 rfl<|cB 4 rfl<|ia 4 rfl<|bU<|gh<|cB 7 rfl<|cB 45 rfl<|cB 5 rfl<|ia 5 rfl<|ba<|ba<|ba ?_;cases so h;exact cw J J J
 ·obtain⟨hx,h⟩:=h
  refine aA<|ay<|zo J (em J J)<|aw<|ae<|bw (ht J) (c9 hx)<|dB<|ae ?_;refine yg (Z:=fun a2 l3 c3 b1 l4 c4=>lQ (iL left tl) a2 b1=some R) (Of:=fun a2 l3 c3 b1 l4 c4=>[d9 bR 3 l3 c3 a2,d9 bR 3 l4 c4 b1,d9 bu 67 l c r]) (Gf:=fun a2 l3 c3 b1 l4 c4=>[(1,bK left),(6,mg l3 c3 a2),(7,mg l4 c4 b1),(14,mg l c r),(15,f7 r),(16,bK (i:Int))]) (fun a2 l3 c3 b1 l4 c4 h=>?_) (fun K=>?_)
  ·skip
   refine aq<|am<|zo rfl (jY (cG hx hN) rfl)<|aG rfl<|aQ ?_;exact bf (aT (ih (i+1) a2 l3 c3 b1 l4 c4 ⟨cF hx,h⟩) (bn J))
  ·skip
   refine ay<|zo J (cj nv fe (.tail _ (.tail _ (.head _))) (ht J) (ht J) (cV hx))<|zo J (d8 (r:=bu) (i:=(i:Int)) (foff:=0) fe J J bp J (.tail _ (.tail _ (.head _))) (cV hx) (ht J))<|bj (r:=bu) (x:=mT) fe (fun _=>mD _) J fun b2=>au fe J al J (ht J) (ht J)<|bg 9 J<|aw<|ay<|zo J (bq fe J J)<|aG J<|bG h fun r1 q_r1 h=>zo J (aF LC (Hd _ _ q_r1) ⟨(ht J),(ht J),aV⟩)<|aG J<|zo J (jf J J)<|zo J (jf J J)<|zo J (jf J J)<|bB J<|bB J<|bB J<|aw ?_;refine ae<|ay<|aG J<|zo J (dy (ht J))<|aw<|db h J (fun h=>?_) (fun h=>?_)
   ·refine ae<|ay<|zo J (bq fe J J)<|bG h fun r2 q_r2 h=>zo J (aF LE (He _ q_r2) ⟨(ht J),aV⟩)<|zo J (dy (ht J))<|aw<|db h J (fun h=>?_) (fun h=>?_)
    ·refine ay<|zo J (aP (show aL _ _ _ ln from hP))<|zo J (aP (show aL _ _ _ ln from hP))<|aw<|ap ?_;refine M (M (aH (M (M (aH (M ?_))))));refine ba<|ba<|ba ?_;cases so h;exact cw J J J
    ·refine dB<|bk ?_;refine ac (aM ?_);exact ce (K a1 l1 c1 b l2 c2 h) (bn J)
   ·refine dB<|ay<|aG J<|zo J (eJ cW (.head _) (ht J))<|zo J (eg (ht J) hI)<|aw<|db h J (fun h=>?_) (fun h=>?_)
    ·refine am<|aG J<|aG J<|zo J (aS (r:=bR) (ys:=[r1.1]) (xs:=[.tmp 36]) cW bD J J J J J ⟨(ht J),aV⟩)<|bG h fun a3 q_a3 h=>cM bD J J J J cW J J (ht J) (ht J) q_a3 fun l5 c5=>aG J<|aG J<|zo J (aS (r:=bR) (ys:=[r1.2.1]) (xs:=[.tmp 40]) cW bD J J J J J ⟨(ht J),aV⟩)<|bQ<|bG h fun b3 q_b3 h=>cM bD J J J J cW J J (ht J) (ht J) q_b3 fun l6 c6=>bB J<|bB J<|aQ<|an<|av<|bU<|av ?_;exact ce (K a3 l5 c5 b3 l6 c6 h) (bn J)
    ·refine bE<|an ?_;exact ce (K a1 l1 c1 b l2 c2 h) (bn J)

end Go.Proofs.YtnmjbolollcokaaGreatDoor

