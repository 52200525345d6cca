/- dr of this claim: P7. -/
import Derived.Test.YtnmjbolollcokaaGreatDoorRdT
import Derived.Test.YtnmjbolollcokaaGreatDoorRdP6
set_option linter.all false
namespace Go.Proofs.YtnmjbolollcokaaGreatDoor
open Go
set_option maxRecDepth 100000

theorem Hl(of:(List Int))(among:(List Int)){R:(List Int)×Bool}(h:qi of among=some R):bo bl 108 [dI of,dI among] (tT [dI R.1,gq R.2]):=by
 refine bo.of Tryz.func108 J J J fun w0 S0=>aw<|zo J (aU (show aZ _ _ _ mJ from jr))<|zo J (ez)<|au<|aw<|cd false cx 3<|zo J (aU s6)<|au<|ac<|aw<|aE J<|zo J (fW dc J)<|zo J (bQ hI)<|au<|ax<|br (k:=10) J fun hN=>bB ?_;refine aP (lZ (Z:=fun ls i out l c=>(of.drop i=ls)∧oG of among ls out=some R) (Of:=fun _ i out l c=>[ga cx 3 l c out]) (Gf:=fun _ i out l c=>[(0,dI of),(1,dI among),(6,oP l c out),(10,dI of),(11,jV of),(12,cb (i:Int))]) (fun i out l c h=>?_) (fun e tl ih i out l c h=>?_) of 0 oq none 0 ⟨J,h⟩) (bg J)
 ·obtain⟨hx,h⟩:=h
  refine aB<|aw<|zo J (ft J J)<|au<|ac<|bP (ht J) (dU hx)<|bp ?_;refine ae (ae (aK ?_));refine aq<|aw<|aE rfl<|aE rfl<|zo rfl (fW dc rfl)<|zo rfl (d5 (ht rfl) hI)<|bu rfl<|bu rfl<|au<|ak<|gV<|cC 6 rfl<|cC 26 rfl<|cC 4 rfl<|ik 4 rfl<|aL ?_;cases so h;exact co J J J
 ·obtain⟨hx,h⟩:=h
  refine aB<|aw<|zo J (ft J J)<|au<|ac<|bO (ht J) (dN hx)<|dz<|ac<|ax<|aw<|zo J (iQ dc bA J J J (dO hx))<|zo J (bm bA J J)<|bu J<|au<|aw<|aE J<|aE J<|bz h fun r q_r h=>?_;refine zo J (aC Xg (RT _ _ q_r) ⟨(ht J),(ht J),aT⟩)<|bu J<|au<|ac<|aw<|aE J<|zo J (eO (ht J) hI)<|au<|cE h J (fun h=>?_) (fun h=>?_)
  ·refine aw<|zo J (aU (show aZ _ _ _ mJ from jr))<|zo J (ez)<|au<|ak ?_;refine M (ay (M (M (ay (M ?_)))));refine aL ?_;cases so h;exact co J J J
  ·refine dz<|am<|aE J<|aE J<|zo J (aN (r:=cx) (ys:=[r]) (xs:=[.tmp 22]) dc bA J J J J J ⟨(ht J),aT⟩)<|bz h fun cv q_out1 h=>cK bA J J J J dc J J (ht J) (ht J) q_out1 fun l1 c1=>bu J<|aJ<|an<|aq<|am<|zo rfl (nh (dm hx hN) rfl)<|aE rfl<|aJ ?_;exact be (aP (ih (i+1) cv l1 c1 ⟨dl hx,h⟩) (bg J))

theorem V8(b:Nat)(ix:OI)(p:aO)(n:af)(kinds:(List Int))(l:(List ba)){R:ba}(h:iE p n kinds l=some R):d2 bl 68 [tV (aM b 0),tD ah n,dI kinds,fc (ap) l] (ig b p ix) (fun _:OI=>tD ap R) (fun _=>(ig b p ix)):=by
 refine d2.of Tryz.func68 J J J fun w0 S0=>?_;refine(show CG _ _ _ [bx (rH bb [(0,aV (ix.h 0).1 (ix.h 0).2 p.Plan.Frags.length),(3,aV (ix.h 1).1 (ix.h 1).2 p.kinds.length)]) 91 b p,tip aH 74 (ix.h 0).1 (ix.h 0).2 p.Plan.Frags,tip gG 42 (ix.h 1).1 (ix.h 1).2 p.kinds] _ from ?_);refine aw<|zo J (jt J)<|bj (r:=ap) (x:=ky) cg (fun _=>gi _) J fun b1=>au<|aw<|zo J (bD lg fN J J)<|zo J (bm te J J)<|zo J (fW nc J)<|bz h fun mk q_mk h=>nw (PN (r:=cx) (x:=(0:Int)) bA J J J dc (fun _=>J) (ht J) (ht J) q_mk) J fun i=>bu J<|au<|ac<|aw<|zo J (bD lg fN J J)<|zo J (bm te J J)<|zo J (fW nc J)<|zo J (bQ hI)<|aJ ?_;refine aq<|ax<|br (k:=19) J fun hN=>bB ?_;refine aP (pN (Z:=fun ls i1 bare=>(n.Items.drop i1=ls)∧cX n kinds l ls i1 bare=some R) (Of:=fun _ i1 bare=>[ga cx 3 (i.h 0).1 (i.h 0).2 bare,bx ap 95 b1 ky,bx (rH bb [(0,aV (ix.h 0).1 (ix.h 0).2 p.Plan.Frags.length),(3,aV (ix.h 1).1 (ix.h 1).2 p.kinds.length)]) 91 b p,tip aH 74 (ix.h 0).1 (ix.h 0).2 p.Plan.Frags,tip gG 42 (ix.h 1).1 (ix.h 1).2 p.kinds]) (Gf:=fun _ i1 bare=>[(2,dI kinds),(3,fc (ap) l),(5,bt ah n),(8,tV (aM b1 0)),(9,oP (i.h 0).1 (i.h 0).2 bare),(19,fc (bn) n.Items),(20,jV n.Items),(21,cb (i1:Int))]) (fun i1 bare h=>?_) (fun e tl ih i1 bare h=>?_) n.Items 0 mk ⟨J,h⟩) (bg J)
 ·obtain⟨hx,h⟩:=h
  refine aB<|aw<|zo J (ft J J)<|au<|ac<|bP (ht J) (dU hx)<|bp ?_;refine ae (ae (aK ?_));refine aq<|aw<|aE rfl<|bz h fun e1 q_e1 h=>zo J (aQ lI cg J (ht J) hI q_e1)<|zo J (bD p6 kW J J)<|zo J (bm cD J J)<|aE J<|m8<|lk 9 J<|lk 55 J<|bz h fun r q_r h=>zo J (aC Qc (Hl _ _ q_r) ⟨(ht J),(kT (ht J)),aT⟩)<|aE J<|zo J (kG J J)<|zo J (kG J J)<|bu J<|bu J<|au<|ac<|bz h fun r1 q_r1 h=>bz h fun r2 q_r2 h=>?_
  refine iL 9 (ts:=[tD ah n,dI kinds,fc (ap) l,bt ap e1,tD ap e1,fc (ap) ([e1]),tD ap r1,dI r.1,tD ap r2]) mixed J J J
   ⟨ef 5 J J J (bm cz J J),
   ⟨ef 2 J J J (cG J),
   ⟨ef 3 J J J (cG J),
   ⟨cT 61 2 J J J (aQ lI cg J (ht J) hI q_e1),
   ⟨cT 62 3 J J J (bm cg J J),
   ⟨cT 63 4 J J J (aN (r:=ap) (ys:=[e1]) (xs:=[.tmp 63]) lI cg J J J J J ⟨(ht J),aT⟩),
   ⟨wK 59 0 60 1 64 5 J J J J J (aC u5 (od _ _ _ q_r1) ⟨(ht J),(ht J),(ht J),aT⟩),
   ⟨ef 12 J J J (cG J),
   ⟨dG 65 6 66 7 J J J J (aC Ct (u0 _ _ q_r2) ⟨(ht J),(ht J),aT⟩),
   aT⟩⟩⟩⟩⟩⟩⟩⟩⟩ ?_
  refine bL<|ai cg J aj J (ht J) (ht J)<|bh 8 J<|au<|ak<|aL<|aD<|aD<|aD ?_;cases so h;exact js J cg J J J nz J J
 ·obtain⟨hx,h⟩:=h
  refine aB<|aw<|zo J (ft J J)<|au<|ac<|bO (ht J) (dN hx)<|dz<|ac<|ax<|aw<|aE J<|zo J (iQ nc eN J J J (dO hx))<|zo J (bm eN J J)<|bj (r:=bn) (x:=nD) eN (fun _=>rA _) J fun b2=>bu J<|ai eN J aj J (ht J) (ht J)<|bh 11 J<|au<|ac ?_;refine am<|aE J<|aE J<|bz h fun e2 q_e2 h=>zo J (cV dc bA (.head _) (ht J) (ht J) q_e2)<|bz h fun st q_st h=>pf bA J aj J q_e2 (so q_st) (ht J) hI<|gT (jJ (so q_st)) 9 J<|gT (jJ (so q_st)) 26 J<|au<|aw<|zo J (bD de bZ J J)<|zo J (bm ir J J)<|zo J (fW oo J)<|zo J (iz J)<|aE J<|bz h fun t q_t h=>bX J J (fun hg=>bD de bZ J J)<|bX J J (fun hg=>aI ir J J (aS J hg)) ?_
  obtain⟨e3,h1t,h0t⟩:=og q_t
  have q_e3g:=fun hb=>(h1t hb).1
  refine bX J J (fun hg=>aQ oo cR J (aS J hg) hI (q_e3g hg))<|bX J J (fun hg=>d6 fV J dd J (aS J hg))<|bX J J (fun hg=>aI bA J J (aS J hg))<|bX J J (fun hg=>cw (aS J hg) hI)<|zo J (cS (ht J) (fun hb=>(aS J hb)) (fun hb=>(h1t hb).2) h0t)<|au<|cE h J (fun h=>?_) (fun h=>?_)
  ·refine am<|aE J<|aE J<|zo J (bD de bZ J J)<|zo J (bm ir J J)<|bz h fun e4 q_e4 h=>zo J (aQ oo cR J (ht J) hI q_e4)<|zo J (bD j7 eQ J J)<|zo J (bm bA J J)<|bz h fun e5 q_e5 h=>zo J (cV dc bA (.head _) (ht J) (ht J) q_e5)<|bz h fun st1 q_st1 h=>pf bA J aj J q_e5 (so q_st1) (ht J) (ht J)<|gT (jJ (so q_st1)) 9 J<|gT (jJ (so q_st1)) 26 J<|gT (jJ (so q_st1)) 41 J<|aJ<|an<|aq<|am<|zo rfl (nh (dm hx hN) rfl)<|aE rfl<|aJ ?_;exact be (aP (ih (i1+1) st1 ⟨dl hx,h⟩) (bg J))
  ·refine bk<|an<|aq<|am<|zo rfl (nh (dm hx hN) rfl)<|aE rfl<|aJ ?_;exact be (aP (ih (i1+1) st ⟨dl hx,h⟩) (bg J))

theorem Ro(s:(List bq))(f:(bq→Option Bool)){R:Int}(h:gZ s f=some R):bo bl 234 [fc (bc) s,(kz bl Qy qr (fun(x:bq)=>f x))] (cb R):=by
 refine bo.of Tryz.func234 J J J fun w0 S0=>aw<|zo J (dB)<|au<|ac<|aw<|aE J<|zo J (fW oo J)<|zo J (bQ hI)<|au<|ax<|br (k:=6) J fun hN=>bB ?_;refine aP (em (Z:=fun ls i=>(s.drop i=ls)∧dE f ls i=some R) (Of:=fun _ i=>[]) (Gf:=fun _ i=>[(0,fc (bc) s),(1,(kz bl Qy qr (fun(x:bq)=>f x))),(7,jV s),(8,cb (i:Int))]) (fun i h=>?_) (fun e tl ih i h=>?_) s 0 ⟨J,h⟩) (bg J)
 ·obtain⟨hx,h⟩:=h
  refine aB<|aw<|zo J (ft J J)<|au<|ac<|bP (ht J) (dU hx)<|bp ?_;refine ae (ae (aK ?_));refine aq<|aw<|zo rfl (dB)<|au<|ak ?_;cases so h;exact aF J J
 ·obtain⟨hx,h⟩:=h
  refine aB<|aw<|zo J (ft J J)<|au<|ac<|bO (ht J) (dN hx)<|dz<|ac<|ax<|aw<|aE J<|bu J<|au<|aw<|aE J<|aE J<|aE J<|zo J (iQ oo cR J J J (dO hx)) ?_;refine zo J (bm cR J J)<|bz h fun r q_r h=>zo J (lS (args:=Qy) (res:=JI) (f:=(fun(x:bq)=>f x)) (x:=((e):bq)) (ht J) q_r ⟨(ht J),aT⟩)<|au<|cE h J (fun h=>?_) (fun h=>?_)
  ·refine aw<|aE J<|bu J<|au<|ak ?_;refine ay (M (M (ay (M ?_))));cases so h;exact aF J J
  ·refine bk<|an<|aq<|am<|zo rfl (nh (dm hx hN) rfl)<|aE rfl<|aJ ?_;exact be (aP (ih (i+1) ⟨dl hx,h⟩) (bg J))

theorem RI(s:(List bq))(f:(bq→Option Bool)){R:Bool}(h:ew s f=some R):bo bl 200 [fc (bc) s,(kz bl Qy qr (fun(x:bq)=>f x))] (gq R):=by
 refine bo.of Tryz.func200 J J J fun w0 S0=>aw<|zo J (ez)<|au<|aw<|aE J<|aE J<|bz h fun r q_r h=>zo J (aC WD (Ro _ _ q_r) ⟨(ht J),(ht J),aT⟩)<|zo J (cU (ht J) hI)<|bu J<|au<|ak ?_;cases so h;exact aF J J

theorem RH(n:bq){R:Bool}(h:sK n=some R):bo bl 201 [tD bc n] (gq R):=by
 refine bo.of Tryz.func201 J J J fun w0 S0=>aw<|zo J (jt J)<|zo J (ez)<|au<|aw<|zo J (bD fV dd J J)<|zo J (bm bA J J)<|bz h fun r q_r h=>zo J (aC SS (LF _ q_r) ⟨(ht J),aT⟩)<|bu J<|au<|ak ?_;cases so h;exact aF J J

theorem R2(e:bf){R:Bool}(h:tM e=some R):bo bl 143 [tD bn e] (gq R):=by
 refine bo.of Tryz.func143 J J J fun w0 S0=>aw<|zo J (jt J)<|zo J (ez)<|au<|aw<|zo J (bm eN J J)<|bz h fun r q_r h=>zo J (aC LV (C9 _ q_r) ⟨(ht J),aT⟩)<|zo J (iz J)<|aE J<|bz h fun t q_t h=>bX J J (fun hg=>bD de bZ J J)<|bX J J (fun hg=>aI ir J J (aS J hg)) ?_
 obtain⟨r1,h1t,h0t⟩:=og q_t
 have q_r1g:=fun hb=>(h1t hb).1
 refine bX J J (fun hg=>aC WW (RI _ _ (q_r1g hg)) ⟨(aS J hg),(T4 WV fun x y h=>RH _ h),aT⟩)<|bX J J (fun hg=>dh (aS J hg))<|zo J (cS (ht J) (fun hb=>(aS J hb)) (fun hb=>(h1t hb).2) h0t)<|bu J<|au<|ak ?_;cases so h;exact aF J J

theorem Pz(e:bf){R:(List bf)}(h:vH e=some R):gK bl 144 [tD bn e] false bn 67 R:=by
 refine gK.of Tryz.func144 J J J fun w0 S0=>aw<|zo J (jt J)<|cd false bn 67<|zo J (aU s6)<|au<|aw<|zo J (bm eN J J)<|bz h fun r q_r h=>zo J (aC SR (LE _ q_r) ⟨(ht J),aT⟩)<|aE J<|zo J (kG J J)<|zo J (kG J J)<|bu J<|bu J<|au<|ac<|aw<|aE J ?_;refine zo J (dh (ht J))<|au<|cE h J (fun h=>?_) (fun h=>?_)
 ·refine aw<|cd false bn 67<|zo J (aU s6)<|au<|ak<|M ?_;cases so h;exact jd J J
 ·refine dz<|aw<|cd false bn 67<|zo J (aU s6)<|au<|aw<|zo J (bD de bZ J J)<|zo J (bm ir J J)<|zo J (fW oo J)<|zo J (dL (ht J) hI)<|jT (r:=cx) (ys:=[(IntKind.i64.wrap ((e.Nodes.length:Int)-(1:Int)))]) (xs:=[.tmp 23]) dc bA J J J J J ⟨(ht J),aT⟩ J fun l c=>bu J<|au<|ac<|ax<|bB<|iJ<|mH<|eV ?_;refine aP (Ml (Z:=fun n out l1 c1 open1 l2 c2=>ja e r n out open1=some R) (Of:=fun out l1 c1 open1 l2 c2=>[ga bn 67 l1 c1 out,ga cx 3 l2 c2 open1]) (Gf:=fun out l1 c1 open1 l2 c2=>[(1,bt bn e),(3,dI r.1),(5,oP l1 c1 out),(6,oP l2 c2 open1)]) (fun out l1 c1 open1 l2 c2 h=>nn h) (fun n ih out l1 c1 open1 l2 c2 h=>?_) cZ Mw none 0 ([(IntKind.i64.wrap ((e.Nodes.length:Int)-(1:Int)))]) l c h) (bg J);refine aB<|ac<|aw<|aE J<|zo J (gQ dc (.tail _ (.head _)) (ht J))<|zo J (d5 (ht J) hI)<|au<|cE h J (fun h=>?_) (fun h=>?_)
  ·refine dz ?_;refine Gn (Z:=fun cv l3 c3 open2 l4 c4=>qP (ja e r n) cv open2=some R) (Of:=fun cv l3 c3 open2 l4 c4=>[ga bn 67 l3 c3 cv,ga cx 3 l4 c4 open2]) (Gf:=fun cv l3 c3 open2 l4 c4=>[(1,bt bn e),(3,dI r.1),(5,oP l3 c3 cv),(6,oP l4 c4 open2)]) (fun cv l3 c3 open2 l4 c4 h=>?_) (fun K=>?_)
   ·skip
    exact be (aP (ih cv l3 c3 open2 l4 c4 h) (bg J))
   ·skip
    refine aw<|aE J<|aE J<|zo J (gQ dc (.tail _ (.head _)) (ht J))<|zo J (dL (ht J) hI)<|bz h fun e1 q_e1 h=>zo J (cV dc bA (.tail _ (.head _)) (ht J) (ht J) q_e1)<|zo J (gn (r:=cx) (i:=(IntKind.i64.wrap ((open1.length:Int)-(1:Int)))) (foff:=0) bA J J aR J (.tail _ (.head _)) q_e1 (ht J))<|bu J<|au<|aw<|aE J<|aE J<|zo J (gQ dc (.tail _ (.head _)) (ht J))<|zo J (dL (ht J) hI)<|bz h fun y q_y h=>zo J (sw dc bA J (.tail _ (.head _)) (ht J) (ht J) q_y)<|bL<|Ez q_y<|bu J<|aJ ?_;refine aq<|aw<|zo rfl (bD de bZ rfl rfl)<|zo rfl (bm ir rfl rfl)<|aE rfl<|bz h fun e2 q_e2 h=>zo J (iQ oo cR J J J q_e2)<|zo J (bm cR J J)<|bj (r:=bc) (x:=Dl) cR (fun _=>kZ _) J fun b=>ai cR J aj J (ht J) (ht J)<|bh 8 J<|au<|ac<|aw<|zo J (bD fV dd J J)<|zo J (bm bA J J)<|zo J (iz J)<|au<|cE h J (fun h=>?_) (fun h=>?_)
    ·refine aw<|aE J<|zo J (bD n9 jC J J)<|zo J (bm bA J J)<|zo J (bD pe ko J J)<|zo J (bm bA J J)<|zo J (aN (r:=cx) (ys:=[e2.R,e2.L]) (xs:=[.tmp 49,.tmp 51]) dc bA J J J J J ⟨(ht J),(ht J),aT⟩)<|bz h fun open3 q_open3 h=>cK bA J J J J dc J J (ht J) (ht J) q_open3 fun l5 c5=>bu J<|au<|bp ?_;refine ae (aK ?_);refine bE ?_;exact bJ (K out l1 c1 open3 l5 c5 h) (bg J)
    ·refine dz<|aw<|aE J<|aE J<|bz h fun e3 q_e3 h=>zo J (iQ dc bA J J J q_e3)<|zo J (bm bA J J)<|bu J<|au<|aw<|zo J (bD de bZ J J)<|zo J (bm ir J J)<|aE J<|aE J<|zo J (ei (ht J) hI)<|bz h fun y1 q_y1 h=>zo J (FK oo cR J (ht J) (ht J) (ht J) q_y1)<|bz h fun r1 q_r1 h=>lY LY (Ek _ q_r1) ⟨(ht J),aT⟩ J fun l6 c6=>zo J (cm (y:=j6 (⟨r1⟩:bf) (aV l6 c6 r1.length)) eN Ua Bh (⟨_,_,_,_,_,J,H3,J,(N1 (ht J)),J⟩)) ?_;refine cd false bc 130<|bj (r:=jv) (x:=j6 nD (aV none 0 (N6.length))) eN Bh J fun b1=>kw eN J (nL J) J (ht J) (ht J)<|bL<|Dd<|au<|ac<|aw<|zo J (dy 0 de J J J)<|zo J (o6 ir xM (.head _) J (ht J))<|zo J (gQ oo (.tail _ (.head _)) (ht J))<|zo J (bQ hI)<|au<|ax<|ny (.tail _ (.head _)) fun hN=>bB<|eV<|eV<|iJ<|ph ?_;refine aP (pN (Z:=fun ls i part=>(r1.drop i=ls)∧kM (ja e r n) out y e3 ls i part=some R) (Of:=fun _ i part=>[ga bn 67 l1 c1 out,ga cx 3 l2 c2 y,bx jv 67 b1 (j6 part (aV l6 c6 part.Nodes.length)),ga bc 130 l6 c6 part.Nodes]) (Gf:=fun _ i part=>[(1,bt bn e),(3,dI r.1),(5,oP l1 c1 out),(6,oP l2 c2 y),(9,cb e3),(10,tV (aM b1 0)),(68,jV r1),(69,cb (i:Int))]) (fun i part h=>?_) (fun e4 tl ih1 i part h=>?_) r1 0 ({(⟨r1⟩:bf)with Nodes:=r1}:bf) ⟨J,h⟩) (bg J)
     ·obtain⟨hx,h⟩:=h
      refine aB<|aw<|zo J (ft J J)<|au<|ac<|bP (ht J) (dU hx)<|bp ?_;refine ae (ae (aK ?_));refine aq<|am<|aE rfl<|dC<|m8<|zo rfl (pZ (q:=bn) (y:=part) eN J J J J (.tail _ (.tail _ (.tail _ (.head _)))) (fun _ _ _ ho h=>xU (uP ho (.head _)) h) (ht J))<|zo J (aN (r:=bn) (ys:=[part]) (xs:=[.tmp 104]) nc eN J J J J J ⟨(ht J),aT⟩)<|bL<|bz h fun sT q_out2 h=>cK eN J J J J nc J J (ht J) (ht J) q_out2 fun l7 c7=>bu J<|aJ<|an<|bE<|aL<|aD<|aL ?_;exact bJ (K sT l7 c7 y l2 c2 h) (bg J)
     ·obtain⟨hx,h⟩:=h
      refine aB<|aw<|zo J (ft J J)<|au<|ac<|bO (ht J) (dN hx)<|dz<|ac<|ax<|aw<|aE J<|bu J<|au<|aw<|zo J (dy 0 de J J J)<|zo J (o6 ir xM (.tail _ (.tail _ (.head _))) J (ht J))<|aE J<|bz h fun e5 q_e5 h=>?_;refine zo J (cV oo cR (.tail _ (.tail _ (.tail _ (.head _)))) (ht J) (ht J) q_e5)<|bu J<|au ?_;refine dD (Z:=fun part1=>qO e3 (kM (ja e r n) out y e3 tl) i part1=some R) (Of:=fun part1=>[ga bn 67 l1 c1 out,ga cx 3 l2 c2 y,bx jv 67 b1 (j6 part1 (aV l6 c6 part1.Nodes.length)),ga bc 130 l6 c6 part1.Nodes]) (Gf:=fun part1=>[(1,bt bn e),(3,dI r.1),(5,oP l1 c1 out),(6,oP l2 c2 y),(9,cb e3),(10,tV (aM b1 0)),(12,tV (ol l6 ((i:Int).toNat*8+0))),(68,jV r1),(69,cb (i:Int))]) (fun part1 h=>?_) (fun K1=>?_)
      ·skip
       refine aw<|aE J<|bz h fun e6 q_e6 h=>zo J (yr (.tail _ (.tail _ (.tail _ (.head _)))) q_e6 (ht J))<|zo J (gI (o:=(i:Int).toNat*8+0) (n:=(i:Int).toNat*8+2) n9 J (.tail _ (.tail _ (.tail _ (.head _)))) q_e6 (ht J) J)<|zo J (gn (r:=bc) (i:=(i:Int)) (foff:=2) bA J J jC J (.tail _ (.tail _ (.tail _ (.head _)))) q_e6 (ht J))<|zo J (cU (ht J) hI)<|au<|cE h J (fun h=>?_) (fun h=>?_)
       ·refine am<|aE J<|zo J (yr (.tail _ (.tail _ (.tail _ (.head _)))) q_e6 (ht J))<|zo J (gI (o:=(i:Int).toNat*8+0) (n:=(i:Int).toNat*8+2) n9 J (.tail _ (.tail _ (.tail _ (.head _)))) q_e6 (ht J) J)<|zo J (gn (r:=bc) (i:=(i:Int)) (foff:=2) bA J J jC J (.tail _ (.tail _ (.tail _ (.head _)))) q_e6 (ht J))<|aE J<|zo J (dL (ht J) (ht J))<|zo J (yr (.tail _ (.tail _ (.tail _ (.head _)))) q_e6 (ht J))<|zo J (gI (o:=(i:Int).toNat*8+0) (n:=(i:Int).toNat*8+2) n9 J (.tail _ (.tail _ (.tail _ (.head _)))) q_e6 (ht J) J)<|dC<|bz h fun st q_st h=>pf bA J DC J q_e6 (so q_st) (ht J) (ht J)<|A3 (O' :=[ga bc 130 l6 c6 st,ga bn 67 l1 c1 out,ga cx 3 l2 c2 y,bx jv 67 b1 (j6 part1 (aV l6 c6 st.length))]) (by rw [jJ (so q_st)])<|aJ<|an<|aq<|am<|zo rfl (nh (dm hx hN) rfl)<|aE rfl<|aJ<|bF<|bF<|bF ?_;exact be (aP (ih1 (i+1) ({part1 with Nodes:=st}:bf) ⟨dl hx,h⟩) (bg J))
       ·refine bk<|an<|aq<|am<|zo rfl (nh (dm hx hN) rfl)<|aE rfl<|aJ ?_;exact be (aP (ih1 (i+1) part1 ⟨dl hx,h⟩) (bg J))
      ·skip
       refine aw<|aE J<|zo J (yr (.tail _ (.tail _ (.tail _ (.head _)))) q_e5 (ht J))<|zo J (gI (o:=(i:Int).toNat*8+0) (n:=(i:Int).toNat*8+1) pe J (.tail _ (.tail _ (.tail _ (.head _)))) q_e5 (ht J) J)<|zo J (gn (r:=bc) (i:=(i:Int)) (foff:=1) bA J J ko J (.tail _ (.tail _ (.tail _ (.head _)))) q_e5 (ht J))<|zo J (cU (ht J) hI)<|au<|cE h J (fun h=>?_) (fun h=>?_)
       ·refine am<|aE J<|zo J (yr (.tail _ (.tail _ (.tail _ (.head _)))) q_e5 (ht J))<|zo J (gI (o:=(i:Int).toNat*8+0) (n:=(i:Int).toNat*8+1) pe J (.tail _ (.tail _ (.tail _ (.head _)))) q_e5 (ht J) J)<|zo J (gn (r:=bc) (i:=(i:Int)) (foff:=1) bA J J ko J (.tail _ (.tail _ (.tail _ (.head _)))) q_e5 (ht J))<|aE J<|zo J (dL (ht J) (ht J))<|zo J (yr (.tail _ (.tail _ (.tail _ (.head _)))) q_e5 (ht J))<|zo J (gI (o:=(i:Int).toNat*8+0) (n:=(i:Int).toNat*8+1) pe J (.tail _ (.tail _ (.tail _ (.head _)))) q_e5 (ht J) J)<|dC<|bz h fun st1 q_st1 h=>pf bA J DD J q_e5 (so q_st1) (ht J) (ht J)<|gT (jJ (so q_st1)) 73 J<|A3 (O' :=[ga bc 130 l6 c6 st1,ga bn 67 l1 c1 out,ga cx 3 l2 c2 y,bx jv 67 b1 (j6 part (aV l6 c6 st1.length))]) (by rw [jJ (so q_st1)])<|aJ<|bF<|bF<|bF ?_;exact bJ (K1 ({part with Nodes:=st1}:bf) h) (bg J)
       ·refine bk ?_;exact bJ (K1 part h) (bg J)
  ·refine bp ?_;refine ae (ae (aK ?_));refine aq<|aw<|aE rfl<|bu rfl<|au<|ak ?_;cases so h;exact jd J J
theorem R1(e:bf)(left:Int){R:Int×Int×Bool}(h:yA e left=some R):bo bl 145 [tD bn e,cb left] (tT [cb R.1,cb R.2.1,gq R.2.2]):=by
 refine bo.of Tryz.func145 J J J fun w0 S0=>aw<|zo J (jt J)<|zo J (dB)<|zo J (dB)<|zo J (ez)<|au<|ac<|aw<|zo J (bm eN J J)<|bz h fun r q_r h=>zo J (aC LV (C9 _ q_r) ⟨(ht J),aT⟩)<|zo J (Gw J)<|aE J<|ci J J (fun hg=>bD de bZ J J)<|ci J J (fun hg=>aI ir J J (aS J hg))<|ci J J (fun hg=>bU oo (aS J hg))<|ci J J (fun hg=>cF (aS J hg) hI)<|zo J (nW J J)<|aE J<|bz h fun t q_t h=>?_;refine ci J J (fun hg=>bD de bZ J J)<|ci J J (fun hg=>aI ir J J (aS J hg)) ?_
 obtain⟨e1,h1t,h0t⟩:=og q_t
 have q_e1g:=fun hb=>(h1t hb).1
 refine ci J J (fun hg=>aQ oo cR J (aS J hg) hI (q_e1g hg))<|ci J J (fun hg=>d6 fV J dd J (aS J hg))<|ci J J (fun hg=>aI bA J J (aS J hg))<|ci J J (fun hg=>cF (aS J hg) hI)<|zo J (dj (ht J) (fun hb=>(aS J (nZ hb))) (fun hb=>(h1t hb).2) h0t)<|au<|cE h J (fun h=>?_) (fun h=>?_)
 ·refine aw<|zo J (dB)<|zo J (dB)<|zo J (ez)<|au<|ak<|M ?_;cases so h;exact wI J J J J
 ·refine dz<|ac<|bz h fun e2 q_e2 h=>bz h fun e3 q_e3 h=>?_
  refine yd 11 [tc (bt Mv e.Nodes),tc (fc (bc) e.Nodes),tc (bt bc e2),tc (tD bc e2),tc (bt Mv e.Nodes),tc (fc (bc) e.Nodes),tc (bt bc e3),tc (tD bc e3),([8],fun s=>tV (aM ((s.getD 0 nz).h 0).2 0)),([9],fun s=>tV (aM ((s.getD 0 nz).h 0).2 0)),tc (Af)] [false,false,false,false,false,false,false,false,true,true,true] [([],fun _=>[]),([8],fun sg=>[bx bc 130 ((sg 8).h 0).2 Dl]),([9],fun sg=>[bx bc 130 ((sg 9).h 0).2 Dl]),([8,9],fun sg=>[bx bc 130 ((sg 9).h 0).2 Dl,bx bc 130 ((sg 8).h 0).2 Dl]),([8,9,10],fun sg=>[bx bc 130 ((sg 8).h 0).2 e2,bx bc 130 ((sg 9).h 0).2 Dl])] (fun _=>J) mixed J J J J
   ⟨⟨[⟨2,fun _=>bt bn e,none⟩],_,[[],[8],[9],[8,9]],J,⟨(fun _=>J),aT⟩,J,J,J,J,J,⟨fun sg=>aa J (bD de bZ J J),fun sg=>aa J (bD de bZ J J),fun sg=>aa J (bD de bZ J J),fun sg=>aa J (bD de bZ J J),aT⟩⟩,
   ⟨⟨[⟨28,fun _=>bt Mv e.Nodes,some 0⟩],_,[[],[8],[9],[8,9]],J,⟨(fun _=>J),aT⟩,J,J,J,J,J,⟨fun sg=>aa J (bm ir J J),fun sg=>aa J (bm ir J J),fun sg=>aa J (bm ir J J),fun sg=>aa J (bm ir J J),aT⟩⟩,
   ⟨⟨[⟨29,fun _=>tD Mv e.Nodes,some 1⟩],_,[[],[8],[9],[8,9]],J,⟨(fun _=>J),aT⟩,J,J,J,J,J,⟨fun sg=>aa J (aQ oo cR J (ht J) hI q_e2),fun sg=>aa J (aQ oo cR J (ht J) hI q_e2),fun sg=>aa J (aQ oo cR J (ht J) hI q_e2),fun sg=>aa J (aQ oo cR J (ht J) hI q_e2),aT⟩⟩,
   ⟨⟨[⟨30,fun _=>bt bc e2,some 2⟩],_,[[],[8],[9],[8,9]],J,⟨(fun _=>J),aT⟩,J,J,J,J,J,⟨fun sg=>aa J (bm cR J J),fun sg=>aa J (bm cR J J),fun sg=>aa J (bm cR J J),fun sg=>aa J (bm cR J J),aT⟩⟩,
   ⟨⟨[⟨2,fun _=>bt bn e,none⟩],_,[[],[8],[9],[8,9],[8,9,10]],J,⟨(fun _=>J),aT⟩,J,J,J,J,J,⟨fun sg=>aa J (bD de bZ J J),fun sg=>aa J (bD de bZ J J),fun sg=>aa J (bD de bZ J J),fun sg=>aa J (bD de bZ J J),fun sg=>aa J (bD de bZ J J),aT⟩⟩,
   ⟨⟨[⟨32,fun _=>bt Mv e.Nodes,some 4⟩],_,[[],[8],[9],[8,9],[8,9,10]],J,⟨(fun _=>J),aT⟩,J,J,J,J,J,⟨fun sg=>aa J (bm ir J J),fun sg=>aa J (bm ir J J),fun sg=>aa J (bm ir J J),fun sg=>aa J (bm ir J J),fun sg=>aa J (bm ir J J),aT⟩⟩,
   ⟨⟨[⟨33,fun _=>tD Mv e.Nodes,some 5⟩],_,[[],[8],[9],[8,9],[8,9,10]],J,⟨(fun _=>J),aT⟩,J,J,J,J,J,⟨fun sg=>aa J (aQ oo cR J (ht J) hI q_e3),fun sg=>aa J (aQ oo cR J (ht J) hI q_e3),fun sg=>aa J (aQ oo cR J (ht J) hI q_e3),fun sg=>aa J (aQ oo cR J (ht J) hI q_e3),fun sg=>aa J (aQ oo cR J (ht J) hI q_e3),aT⟩⟩,
   ⟨⟨[⟨34,fun _=>bt bc e3,some 6⟩],_,[[],[8],[9],[8,9],[8,9,10]],J,⟨(fun _=>J),aT⟩,J,J,J,J,J,⟨fun sg=>aa J (bm cR J J),fun sg=>aa J (bm cR J J),fun sg=>aa J (bm cR J J),fun sg=>aa J (bm cR J J),fun sg=>aa J (bm cR J J),aT⟩⟩,
   ⟨⟨[],_,[([],[8]),([9],[8,9])],J,aT,J,J,J,J,J,⟨fun sg=>bN J (ev (r:=bc) (x:=Dl) cR (fun _=>kZ _)),fun sg=>bN J (EffOK.post_imp (post:=fun x__=>(fun(sg:Nat→OI)=>[bx bc 130 ((sg 8).h 0).2 Dl,bx bc 130 ((sg 9).h 0).2 Dl]) (EI sg 8 x__)) (ev (r:=bc) (x:=Dl) cR (fun _=>kZ _)) (fun h=>du.pick [1,0] J h)),aT⟩⟩,
   ⟨⟨[],_,[([],[9]),([8],[8,9])],J,aT,J,J,J,J,J,⟨fun sg=>bN J (ev (r:=bc) (x:=Dl) cR (fun _=>kZ _)),fun sg=>bN J (ev (r:=bc) (x:=Dl) cR (fun _=>kZ _)),aT⟩⟩,
   ⟨⟨[⟨7,fun sg=>tV (aM ((sg 8).h 0).2 0),some 8⟩,⟨31,fun _=>tD bc e2,some 3⟩],_,[([8,9],[8,9,10])],J,⟨(fun _=>J),(fun _=>J),aT⟩,J,J,J,J,J,⟨fun sg=>bN J (EffOK.fr1 (mw cR J (ve aj) J (ht J) (ht J))),aT⟩⟩,
   aT⟩⟩⟩⟩⟩⟩⟩⟩⟩⟩⟩ (fun sg=>?_)
  refine(show RG _ _ _ _ [bx bc 130 ((sg 8).h 0).2 e2,bx bc 130 ((sg 9).h 0).2 Dl] _ from ?_);refine bh 7 J<|ai cR J aj J (ht J) (ht J)<|bh 8 J<|au<|ac<|aw<|zo J (bD fV dd J J)<|zo J (bm bA J J)<|zo J (Gw J)<|aE J<|ci J J (fun hg=>bD fV dd J J)<|ci J J (fun hg=>aI bA J J (aS J hg))<|ci J J (fun hg=>cF (aS J hg) hI)<|zo J (nW J J)<|au<|cE h J (fun h=>?_) (fun h=>?_)
  ·refine aw<|zo J (dB)<|zo J (dB)<|zo J (ez)<|au<|ak<|M ?_;cases so h;exact wI J J J J
  ·refine dz<|ac ?_
   refine eu (ts:=[_,_,_,_,_,_,_,_,_,_,_,_]) mixed J J
    ⟨ef 7 J J J (bD j7 eQ J J),
    ⟨cT 44 0 J J J (bm bA J J),
    ⟨ef 8 J J J (bD j7 eQ J J),
    ⟨cT 46 2 J J J (bm bA J J),
    ⟨dG 45 1 47 3 J J J J (Lo (ht J) (ht J)),
    ⟨ef 7 J J J (bD j7 eQ J J),
    ⟨cT 49 5 J J J (bm bA J J),
    ⟨ef 8 J J J (bD j7 eQ J J),
    ⟨cT 51 7 J J J (bm bA J J),
    ⟨dG 50 6 52 8 J J J J (GU (ht J) (ht J)),
    ⟨cT 48 4 J J J (zm J),
    ⟨cT 53 9 J J J (zm J),
    aT⟩⟩⟩⟩⟩⟩⟩⟩⟩⟩⟩⟩ ?_
   refine aq<|ac<|aw<|aE rfl<|aE rfl<|zo rfl (cU (ht rfl) (ht rfl))<|aE rfl<|ci rfl rfl (fun hg=>cG J)<|ci J J (fun hg=>cG J)<|ci J J (fun hg=>eO (aS J hg) (aS J hg))<|zo J (nW J J)<|au<|cE h J (fun h=>?_) (fun h=>?_)
   ·refine aw<|zo J (dB)<|zo J (dB)<|zo J (ez)<|au<|ak<|M ?_;cases so h;exact wI J J J J
   ·refine dz<|aw<|aE J<|aE J<|aE J<|zo J (dL (ht J) (ht J))<|bu J<|bu J<|zo J (ez)<|au<|ak ?_;cases so h;exact wI J J J J

theorem Sc(cond:bf)(left:Int){R:(List Int)×(List Int)}(h:wk cond left=some R):bo bl 109 [tD bn cond,cb left] (tT [dI R.1,dI R.2]):=by
 refine bo.of Tryz.func109 J J J fun w0 S0=>aw<|zo J (jt J)<|zo J (aU (show aZ _ _ _ mJ from jr))<|zo J (aU (show aZ _ _ _ mJ from jr))<|au<|aw<|cd false cx 3<|zo J (aU s6)<|cd false cx 3<|zo J (aU s6)<|au<|ac<|aw<|zo J (bm eN J J)<|bz h fun r q_r h=>lY XA (Pz _ q_r) ⟨(ht J),aT⟩ J fun l c=>zo J (gQ nc (.head _) (ht J))<|zo J (bQ hI) ?_;refine au<|ax<|ny (.head _) fun hN=>bB<|eV<|iJ ?_;refine aP (A4 (Z:=fun ls i a1 l1 c1 b l2 c2=>(r.drop i=ls)∧kR left ls a1 b=some R) (Of:=fun _ i a1 l1 c1 b l2 c2=>[ga cx 3 l1 c1 a1,ga cx 3 l2 c2 b,ga bn 67 l c r]) (Gf:=fun _ i a1 l1 c1 b l2 c2=>[(1,cb left),(6,oP l1 c1 a1),(7,oP l2 c2 b),(14,oP l c r),(15,jV r),(16,cb (i:Int))]) (fun i a1 l1 c1 b l2 c2 h=>?_) (fun e tl ih i a1 l1 c1 b l2 c2 h=>?_) r 0 oq none 0 oq none 0 ⟨J,h⟩) (bg J)
 ·obtain⟨hx,h⟩:=h
  refine aB<|aw<|zo J (ft J J)<|au<|ac<|bP (ht J) (dU hx)<|bp ?_;refine ae (ae (aK ?_));refine aq<|aw<|aE rfl<|aE rfl<|bu rfl<|bu rfl<|au<|ak<|gV<|cC 6 rfl<|cC 44 rfl<|cC 4 rfl<|ik 4 rfl<|bE<|gV<|cC 7 rfl<|cC 45 rfl<|cC 5 rfl<|ik 5 rfl<|aL<|aL<|aL ?_;cases so h;exact co J J J
 ·obtain⟨hx,h⟩:=h
  refine aB<|aw<|zo J (ft J J)<|au<|ac<|bO (ht J) (dN hx)<|dz<|ac ?_;refine Gn (Z:=fun a2 l3 c3 b1 l4 c4=>pE (kR left tl) a2 b1=some R) (Of:=fun a2 l3 c3 b1 l4 c4=>[ga cx 3 l3 c3 a2,ga cx 3 l4 c4 b1,ga bn 67 l c r]) (Gf:=fun a2 l3 c3 b1 l4 c4=>[(1,cb left),(6,oP l3 c3 a2),(7,oP l4 c4 b1),(14,oP l c r),(15,jV r),(16,cb (i:Int))]) (fun a2 l3 c3 b1 l4 c4 h=>?_) (fun K=>?_)
  ·skip
   refine aq<|am<|zo rfl (nh (dm hx hN) rfl)<|aE rfl<|aJ ?_;exact be (aP (ih (i+1) a2 l3 c3 b1 l4 c4 ⟨dl hx,h⟩) (bg J))
  ·skip
   refine aw<|zo J (cV nc eN (.tail _ (.tail _ (.head _))) (ht J) (ht J) (dO hx))<|zo J (gn (r:=bn) (i:=(i:Int)) (foff:=0) eN J J aR J (.tail _ (.tail _ (.head _))) (dO hx) (ht J))<|bj (r:=bn) (x:=nD) eN (fun _=>rA _) J fun b2=>ai eN J aj J (ht J) (ht J)<|bh 9 J<|au<|aw<|zo J (bm eN J J)<|aE J<|bz h fun r1 q_r1 h=>zo J (aC Xz (R1 _ _ q_r1) ⟨(ht J),(ht J),aT⟩)<|aE J<|zo J (kG J J)<|zo J (kG J J)<|zo J (kG J J)<|bu J<|bu J<|bu J<|au ?_;refine ac<|aw<|aE J<|zo J (dh (ht J))<|au<|cE h J (fun h=>?_) (fun h=>?_)
   ·refine ac<|aw<|zo J (bm eN J J)<|bz h fun r2 q_r2 h=>zo J (aC XB (R2 _ q_r2) ⟨(ht J),aT⟩)<|zo J (dh (ht J))<|au<|cE h J (fun h=>?_) (fun h=>?_)
    ·refine aw<|zo J (aU (show aZ _ _ _ mJ from jr))<|zo J (aU (show aZ _ _ _ mJ from jr))<|au<|ak ?_;refine M (M (ay (M (M (ay (M ?_))))));refine aL<|aL<|aL ?_;cases so h;exact co J J J
    ·refine dz<|bp ?_;refine ae (aK ?_);exact bJ (K a1 l1 c1 b l2 c2 h) (bg J)
   ·refine dz<|aw<|aE J<|zo J (gQ dc (.head _) (ht J))<|zo J (eO (ht J) hI)<|au<|cE h J (fun h=>?_) (fun h=>?_)
    ·refine am<|aE J<|aE J<|zo J (aN (r:=cx) (ys:=[r1.1]) (xs:=[.tmp 36]) dc bA J J J J J ⟨(ht J),aT⟩)<|bz h fun a3 q_a3 h=>cK bA J J J J dc J J (ht J) (ht J) q_a3 fun l5 c5=>aE J<|aE J<|zo J (aN (r:=cx) (ys:=[r1.2.1]) (xs:=[.tmp 40]) dc bA J J J J J ⟨(ht J),aT⟩)<|bL<|bz h fun b3 q_b3 h=>cK bA J J J J dc J J (ht J) (ht J) q_b3 fun l6 c6=>bu J<|bu J<|aJ<|an<|aD<|bE<|aD ?_;exact bJ (K a3 l5 c5 b3 l6 c6 h) (bg J)
    ·refine bk<|an ?_;exact bJ (K a1 l1 c1 b l2 c2 h) (bg J)

end Go.Proofs.YtnmjbolollcokaaGreatDoor

