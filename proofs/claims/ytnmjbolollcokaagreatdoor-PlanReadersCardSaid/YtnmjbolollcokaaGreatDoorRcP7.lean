/- cR of this claim: P7. -/
import Derived.Test.YtnmjbolollcokaaGreatDoorRcT
import Derived.Test.YtnmjbolollcokaaGreatDoorRcP6
set_option linter.all false
namespace Go.Proofs.YtnmjbolollcokaaGreatDoor
open Go
set_option maxRecDepth 100000

theorem FK(of:(List Int))(among:(List Int)){R:(List Int)×Bool}(h:nN of among=some R):bA bc 108 [fP of,fP among] (tT [fP R.1,gX R.2]):=by
 refine bA.of Tryz.func108 J J J fun w0 S0=>aA<|zo J (aS (show aK _ _ _ o8 from lU))<|zo J (iO)<|ax<|aA<|cj false cn 3<|zo J (aS u7)<|ax<|af<|aA<|aJ J<|zo J (lx d8 J)<|zo J (bJ hI)<|ax<|aB<|bl (k:=10) J fun hN=>bU ?_;refine aW (oP (Z:=fun ls i out l c=>(of.drop i=ls)∧mj of among ls out=some R) (Of:=fun _ i out l c=>[gu cn 3 l c out]) (Gf:=fun _ i out l c=>[(0,fP of),(1,fP among),(6,rU l c out),(10,fP of),(11,jB of),(12,cm (i:Int))]) (fun i out l c h=>?_) (fun e tl ih i out l c h=>?_) of 0 ra none 0 ⟨J,h⟩) (bu J)
 ·obtain⟨hx,h⟩:=h
  refine aC<|aA<|zo J (gP J J)<|ax<|af<|bF (ht J) (d5 hx)<|bt ?_;refine ac (ac (aN ?_));refine aw<|aA<|aJ rfl<|aJ rfl<|zo rfl (lx d8 rfl)<|zo rfl (gU (ht rfl) hI)<|bN rfl<|bN rfl<|ax<|av<|jL<|da 6 rfl<|da 26 rfl<|da 4 rfl<|kU 4 rfl<|bb ?_;cases so h;exact df J J J
 ·obtain⟨hx,h⟩:=h
  refine aC<|aA<|zo J (gP J J)<|ax<|af<|bE (ht J) (dZ hx)<|fO<|af<|aB<|aA<|zo J (nY d8 ce J J J (d4 hx))<|zo J (bH ce J J)<|bN J<|ax<|aA<|aJ J<|aJ J<|bT h fun r q_r h=>?_;refine zo J (aL UE (PU _ _ q_r) ⟨(ht J),(ht J),aV⟩)<|bN J<|ax<|af<|aA<|aJ J<|zo J (iA (ht J) hI)<|ax<|eE h J (fun h=>?_) (fun h=>?_)
  ·refine aA<|zo J (aS (show aK _ _ _ o8 from lU))<|zo J (iO)<|ax<|av ?_;refine aa (aF (aa (aa (aF (aa ?_)))));refine bb ?_;cases so h;exact df J J J
  ·refine fO<|am<|aJ J<|aJ J<|zo J (aQ (r:=cn) (ys:=[r]) (xs:=[.tmp 22]) d8 ce J J J J J ⟨(ht J),aV⟩)<|bT h fun cx q_out1 h=>dJ ce J J J J d8 J J (ht J) (ht J) q_out1 fun l1 c1=>bN J<|aR<|an<|aw<|am<|zo rfl (nF (dv hx hN) rfl)<|aJ rfl<|aR ?_;exact bj (aW (ih (i+1) cx l1 c1 ⟨du hx,h⟩) (bu J))

theorem TW(b:Nat)(ix:OI)(p:ay)(n:M)(kinds:(List Int))(l:(List aG)){R:aG}(h:gp p n kinds l=some R):c9 bc 68 [tV (aE b 0),tD ai n,fP kinds,fZ (ah) l] (fY b p ix) (fun _:OI=>tD ah R) (fun _=>(fY b p ix)):=by
 refine c9.of Tryz.func68 J J J fun w0 S0=>?_;refine(show CG _ _ _ [bx (rH aI [(0,aD (ix.h 0).1 (ix.h 0).2 p.Plan.Frags.length),(3,aD (ix.h 1).1 (ix.h 1).2 p.kinds.length)]) 91 b p,cv aP 74 (ix.h 0).1 (ix.h 0).2 p.Plan.Frags,cv fk 42 (ix.h 1).1 (ix.h 1).2 p.kinds] _ from ?_);refine aA<|zo J (l9 J)<|bh (r:=ah) (x:=iF) bv (fun _=>eO _) J fun b1=>ax<|aA<|zo J (cQ oI km J J)<|zo J (bH xq J J)<|zo J (lx rY J)<|bT h fun mk q_mk h=>lv (N9 (r:=cn) (x:=(0:Int)) ce J J J d8 (fun _=>J) (ht J) (ht J) q_mk) J fun i=>bN J<|ax<|af<|aA<|zo J (cQ oI km J J)<|zo J (bH xq J J)<|zo J (lx rY J)<|zo J (bJ hI)<|aR ?_;refine aw<|aB<|bl (k:=19) J fun hN=>bU ?_;refine aW (nd (Z:=fun ls i1 bare=>(n.Items.drop i1=ls)∧cr n kinds l ls i1 bare=some R) (Of:=fun _ i1 bare=>[gu cn 3 (i.h 0).1 (i.h 0).2 bare,bx ah 95 b1 iF,bx (rH aI [(0,aD (ix.h 0).1 (ix.h 0).2 p.Plan.Frags.length),(3,aD (ix.h 1).1 (ix.h 1).2 p.kinds.length)]) 91 b p,cv aP 74 (ix.h 0).1 (ix.h 0).2 p.Plan.Frags,cv fk 42 (ix.h 1).1 (ix.h 1).2 p.kinds]) (Gf:=fun _ i1 bare=>[(2,fP kinds),(3,fZ (ah) l),(5,bw ai n),(8,tV (aE b1 0)),(9,rU (i.h 0).1 (i.h 0).2 bare),(19,fZ (bz) n.Items),(20,jB n.Items),(21,cm (i1:Int))]) (fun i1 bare h=>?_) (fun e tl ih i1 bare h=>?_) n.Items 0 mk ⟨J,h⟩) (bu J)
 ·obtain⟨hx,h⟩:=h
  refine aC<|aA<|zo J (gP J J)<|ax<|af<|bF (ht J) (d5 hx)<|bt ?_;refine ac (ac (aN ?_));refine aw<|aA<|aJ rfl<|bT h fun e1 q_e1 h=>zo J (aO jN bv J (ht J) hI q_e1)<|zo J (cQ ny jf J J)<|zo J (bH cS J J)<|aJ J<|q5<|we 9 J<|we 55 J<|bT h fun r q_r h=>zo J (aL Ok (FK _ _ q_r) ⟨(ht J),(ma (ht J)),aV⟩)<|aJ J<|zo J (mA J J)<|zo J (mA J J)<|bN J<|bN J<|ax<|af<|bT h fun r1 q_r1 h=>bT h fun r2 q_r2 h=>?_
  refine lH 9 (ts:=[tD ai n,fP kinds,fZ (ah) l,bw ah e1,tD ah e1,fZ (ah) ([e1]),tD ah r1,fP r.1,tD ah r2]) mixed J J J
   ⟨gK 5 J J J (bH dg J J),
   ⟨gK 2 J J J (dw J),
   ⟨gK 3 J J J (dw J),
   ⟨dR 61 2 J J J (aO jN bv J (ht J) hI q_e1),
   ⟨dR 62 3 J J J (bH bv J J),
   ⟨dR 63 4 J J J (aQ (r:=ah) (ys:=[e1]) (xs:=[.tmp 63]) jN bv J J J J J ⟨(ht J),aV⟩),
   ⟨BO 59 0 60 1 64 5 J J J J J (aL sL (lY _ _ _ q_r1) ⟨(ht J),(ht J),(ht J),aV⟩),
   ⟨gK 12 J J J (dw J),
   ⟨gL 65 6 66 7 J J J J (aL AX (sH _ _ q_r2) ⟨(ht J),(ht J),aV⟩),
   aV⟩⟩⟩⟩⟩⟩⟩⟩⟩ ?_
  refine cb<|ap bv J aj J (ht J) (ht J)<|bf 8 J<|ax<|av<|bb<|au<|au<|au ?_;cases so h;exact gO J bv J J J o7 J J
 ·obtain⟨hx,h⟩:=h
  refine aC<|aA<|zo J (gP J J)<|ax<|af<|bE (ht J) (dZ hx)<|fO<|af<|aB<|aA<|aJ J<|zo J (nY rY iG J J J (d4 hx))<|zo J (bH iG J J)<|bh (r:=bz) (x:=rb) iG (fun _=>qF _) J fun b2=>bN J<|ap iG J aj J (ht J) (ht J)<|bf 11 J<|ax<|af ?_;refine am<|aJ J<|aJ J<|bT h fun e2 q_e2 h=>zo J (cF d8 ce (.head _) (ht J) (ht J) q_e2)<|bT h fun st q_st h=>mL ce J aj J q_e2 (so q_st) (ht J) hI<|fI (g9 (so q_st)) 9 J<|fI (g9 (so q_st)) 26 J<|ax<|aA<|zo J (cQ fW db J J)<|zo J (bH mR J J)<|zo J (lx l8 J)<|zo J (mU J)<|aJ J<|bT h fun t q_t h=>cP J J (fun hg=>cQ fW db J J)<|cP J J (fun hg=>bD mR J J (bB J hg)) ?_
  obtain⟨e3,h1t,h0t⟩:=og q_t
  have q_e3g:=fun hb=>(h1t hb).1
  refine cP J J (fun hg=>aO l8 dS J (bB J hg) hI (q_e3g hg))<|cP J J (fun hg=>lc kz J fV J (bB J hg))<|cP J J (fun hg=>bD ce J J (bB J hg))<|cP J J (fun hg=>cO (bB J hg) hI)<|zo J (fe (ht J) (fun hb=>(bB J hb)) (fun hb=>(h1t hb).2) h0t)<|ax<|eE h J (fun h=>?_) (fun h=>?_)
  ·refine am<|aJ J<|aJ J<|zo J (cQ fW db J J)<|zo J (bH mR J J)<|bT h fun e4 q_e4 h=>zo J (aO l8 dS J (ht J) hI q_e4)<|zo J (cQ oJ ju J J)<|zo J (bH ce J J)<|bT h fun e5 q_e5 h=>zo J (cF d8 ce (.head _) (ht J) (ht J) q_e5)<|bT h fun st1 q_st1 h=>mL ce J aj J q_e5 (so q_st1) (ht J) (ht J)<|fI (g9 (so q_st1)) 9 J<|fI (g9 (so q_st1)) 26 J<|fI (g9 (so q_st1)) 41 J<|aR<|an<|aw<|am<|zo rfl (nF (dv hx hN) rfl)<|aJ rfl<|aR ?_;exact bj (aW (ih (i1+1) st1 ⟨du hx,h⟩) (bu J))
  ·refine bO<|an<|aw<|am<|zo rfl (nF (dv hx hN) rfl)<|aJ rfl<|aR ?_;exact bj (aW (ih (i1+1) st ⟨du hx,h⟩) (bu J))

theorem PE(s:(List aU))(f:(aU→Option Bool)){R:Int}(h:fQ s f=some R):bA bc 234 [fZ (aY) s,(iH bc OP n9 (fun(x:aU)=>f x))] (cm R):=by
 refine bA.of Tryz.func234 J J J fun w0 S0=>aA<|zo J (gv)<|ax<|af<|aA<|aJ J<|zo J (lx l8 J)<|zo J (bJ hI)<|ax<|aB<|bl (k:=6) J fun hN=>bU ?_;refine aW (fM (Z:=fun ls i=>(s.drop i=ls)∧cM f ls i=some R) (Of:=fun _ i=>[]) (Gf:=fun _ i=>[(0,fZ (aY) s),(1,(iH bc OP n9 (fun(x:aU)=>f x))),(7,jB s),(8,cm (i:Int))]) (fun i h=>?_) (fun e tl ih i h=>?_) s 0 ⟨J,h⟩) (bu J)
 ·obtain⟨hx,h⟩:=h
  refine aC<|aA<|zo J (gP J J)<|ax<|af<|bF (ht J) (d5 hx)<|bt ?_;refine ac (ac (aN ?_));refine aw<|aA<|zo rfl (gv)<|ax<|av ?_;cases so h;exact ba J J
 ·obtain⟨hx,h⟩:=h
  refine aC<|aA<|zo J (gP J J)<|ax<|af<|bE (ht J) (dZ hx)<|fO<|af<|aB<|aA<|aJ J<|bN J<|ax<|aA<|aJ J<|aJ J<|aJ J<|zo J (nY l8 dS J J J (d4 hx)) ?_;refine zo J (bH dS J J)<|bT h fun r q_r h=>zo J (jV (args:=OP) (res:=If) (f:=(fun(x:aU)=>f x)) (x:=((e):aU)) (ht J) q_r ⟨(ht J),aV⟩)<|ax<|eE h J (fun h=>?_) (fun h=>?_)
  ·refine aA<|aJ J<|bN J<|ax<|av ?_;refine aF (aa (aa (aF (aa ?_))));cases so h;exact ba J J
  ·refine bO<|an<|aw<|am<|zo rfl (nF (dv hx hN) rfl)<|aJ rfl<|aR ?_;exact bj (aW (ih (i+1) ⟨du hx,h⟩) (bu J))

theorem PR(s:(List aU))(f:(aU→Option Bool)){R:Bool}(h:dx s f=some R):bA bc 200 [fZ (aY) s,(iH bc OP n9 (fun(x:aU)=>f x))] (gX R):=by
 refine bA.of Tryz.func200 J J J fun w0 S0=>aA<|zo J (iO)<|ax<|aA<|aJ J<|aJ J<|bT h fun r q_r h=>zo J (aL Uo (PE _ _ q_r) ⟨(ht J),(ht J),aV⟩)<|zo J (fF (ht J) hI)<|bN J<|ax<|av ?_;cases so h;exact ba J J

theorem PQ(n:aU){R:Bool}(h:qp n=some R):bA bc 201 [tD aY n] (gX R):=by
 refine bA.of Tryz.func201 J J J fun w0 S0=>aA<|zo J (l9 J)<|zo J (iO)<|ax<|aA<|zo J (cQ kz fV J J)<|zo J (bH ce J J)<|bT h fun r q_r h=>zo J (aL QQ (Km _ q_r) ⟨(ht J),aV⟩)<|bN J<|ax<|av ?_;cases so h;exact ba J J

theorem Qd(e:aT){R:Bool}(h:qZ e=some R):bA bc 143 [tD bz e] (gX R):=by
 refine bA.of Tryz.func143 J J J fun w0 S0=>aA<|zo J (l9 J)<|zo J (iO)<|ax<|aA<|zo J (bH iG J J)<|bT h fun r q_r h=>zo J (aL Kv (BA _ q_r) ⟨(ht J),aV⟩)<|zo J (mU J)<|aJ J<|bT h fun t q_t h=>cP J J (fun hg=>cQ fW db J J)<|cP J J (fun hg=>bD mR J J (bB J hg)) ?_
 obtain⟨r1,h1t,h0t⟩:=og q_t
 have q_r1g:=fun hb=>(h1t hb).1
 refine cP J J (fun hg=>aL UB (PR _ _ (q_r1g hg)) ⟨(bB J hg),(RS UA fun x y h=>PQ _ h),aV⟩)<|cP J J (fun hg=>gj (bB J hg))<|zo J (fe (ht J) (fun hb=>(bB J hb)) (fun hb=>(h1t hb).2) h0t)<|bN J<|ax<|av ?_;cases so h;exact ba J J

theorem NW(e:aT){R:(List aT)}(h:tP e=some R):ja bc 144 [tD bz e] false bz 67 R:=by
 refine ja.of Tryz.func144 J J J fun w0 S0=>aA<|zo J (l9 J)<|cj false bz 67<|zo J (aS u7)<|ax<|aA<|zo J (bH iG J J)<|bT h fun r q_r h=>zo J (aL QP (Kl _ q_r) ⟨(ht J),aV⟩)<|aJ J<|zo J (mA J J)<|zo J (mA J J)<|bN J<|bN J<|ax<|af<|aA<|aJ J ?_;refine zo J (gj (ht J))<|ax<|eE h J (fun h=>?_) (fun h=>?_)
 ·refine aA<|cj false bz 67<|zo J (aS u7)<|ax<|av<|aa ?_;cases so h;exact ir J J
 ·refine fO<|aA<|cj false bz 67<|zo J (aS u7)<|ax<|aA<|zo J (cQ fW db J J)<|zo J (bH mR J J)<|zo J (lx l8 J)<|zo J (ib (ht J) hI)<|kY (r:=cn) (ys:=[(IntKind.i64.wrap ((e.Nodes.length:Int)-(1:Int)))]) (xs:=[.tmp 23]) d8 ce J J J J J ⟨(ht J),aV⟩ J fun l c=>bN J<|ax<|af<|aB<|bU<|mN<|sP<|ip ?_;refine aW (KL (Z:=fun n out l1 c1 open1 l2 c2=>gE e r n out open1=some R) (Of:=fun out l1 c1 open1 l2 c2=>[gu bz 67 l1 c1 out,gu cn 3 l2 c2 open1]) (Gf:=fun out l1 c1 open1 l2 c2=>[(1,bw bz e),(3,fP r.1),(5,rU l1 c1 out),(6,rU l2 c2 open1)]) (fun out l1 c1 open1 l2 c2 h=>nn h) (fun n ih out l1 c1 open1 l2 c2 h=>?_) dj ([]:List aT) none 0 ([(IntKind.i64.wrap ((e.Nodes.length:Int)-(1:Int)))]) l c h) (bu J);refine aC<|af<|aA<|aJ J<|zo J (hX d8 (.tail _ (.head _)) (ht J))<|zo J (gU (ht J) hI)<|ax<|eE h J (fun h=>?_) (fun h=>?_)
  ·refine fO ?_;refine EE (Z:=fun cx l3 c3 open2 l4 c4=>oM (gE e r n) cx open2=some R) (Of:=fun cx l3 c3 open2 l4 c4=>[gu bz 67 l3 c3 cx,gu cn 3 l4 c4 open2]) (Gf:=fun cx l3 c3 open2 l4 c4=>[(1,bw bz e),(3,fP r.1),(5,rU l3 c3 cx),(6,rU l4 c4 open2)]) (fun cx l3 c3 open2 l4 c4 h=>?_) (fun K=>?_)
   ·skip
    exact bj (aW (ih cx l3 c3 open2 l4 c4 h) (bu J))
   ·skip
    refine aA<|aJ J<|aJ J<|zo J (hX d8 (.tail _ (.head _)) (ht J))<|zo J (ib (ht J) hI)<|bT h fun e1 q_e1 h=>zo J (cF d8 ce (.tail _ (.head _)) (ht J) (ht J) q_e1)<|zo J (ge (r:=cn) (i:=(IntKind.i64.wrap ((open1.length:Int)-(1:Int)))) (foff:=0) ce J J bq J (.tail _ (.head _)) q_e1 (ht J))<|bN J<|ax<|aA<|aJ J<|aJ J<|zo J (hX d8 (.tail _ (.head _)) (ht J))<|zo J (ib (ht J) hI)<|bT h fun y q_y h=>zo J (qf d8 ce J (.tail _ (.head _)) (ht J) (ht J) q_y)<|cb<|CP q_y<|bN J<|aR ?_;refine aw<|aA<|zo rfl (cQ fW db rfl rfl)<|zo rfl (bH mR rfl rfl)<|aJ rfl<|bT h fun e2 q_e2 h=>zo J (nY l8 dS J J J q_e2)<|zo J (bH dS J J)<|bh (r:=aY) (x:=Gh) dS (fun _=>n7 _) J fun b=>ap dS J aj J (ht J) (ht J)<|bf 8 J<|ax<|af<|aA<|zo J (cQ kz fV J J)<|zo J (bH ce J J)<|zo J (mU J)<|ax<|eE h J (fun h=>?_) (fun h=>?_)
    ·refine aA<|aJ J<|zo J (cQ y6 uK J J)<|zo J (bH ce J J)<|zo J (cQ y7 uL J J)<|zo J (bH ce J J)<|zo J (aQ (r:=cn) (ys:=[e2.R,e2.L]) (xs:=[.tmp 49,.tmp 51]) d8 ce J J J J J ⟨(ht J),(ht J),aV⟩)<|bT h fun open3 q_open3 h=>dJ ce J J J J d8 J J (ht J) (ht J) q_open3 fun l5 c5=>bN J<|ax<|bt ?_;refine ac (aN ?_);refine cu ?_;exact cE (K out l1 c1 open3 l5 c5 h) (bu J)
    ·refine fO<|aA<|aJ J<|aJ J<|bT h fun e3 q_e3 h=>zo J (nY d8 ce J J J q_e3)<|zo J (bH ce J J)<|bN J<|ax<|aA<|zo J (cQ fW db J J)<|zo J (bH mR J J)<|aJ J<|aJ J<|zo J (pt (ht J) hI)<|bT h fun y1 q_y1 h=>zo J (Lt l8 dS J (ht J) (ht J) (ht J) q_y1)<|bT h fun r1 q_r1 h=>lF Kw (CC _ q_r1) ⟨(ht J),aV⟩ J fun l6 c6=>zo J (c0 (y:=nQ (⟨r1⟩:aT) (aD l6 c6 r1.length)) iG RX Dz (⟨_,_,_,_,_,J,GA,J,(OK (ht J)),J⟩)) ?_;refine cj false aY 130<|bh (r:=mE) (x:=nQ rb (aD none 0 (([]:List aU).length))) iG Dz J fun b1=>lu iG J (nJ J) J (ht J) (ht J)<|cb<|FZ<|ax<|af<|aA<|zo J (fX 0 fW J J J)<|zo J (mH mR AM (.head _) J (ht J))<|zo J (hX l8 (.tail _ (.head _)) (ht J))<|zo J (bJ hI)<|ax<|aB<|lw (.tail _ (.head _)) fun hN=>bU<|ip<|ip<|mN<|pD ?_;refine aW (nd (Z:=fun ls i part=>(r1.drop i=ls)∧iT (gE e r n) out y e3 ls i part=some R) (Of:=fun _ i part=>[gu bz 67 l1 c1 out,gu cn 3 l2 c2 y,bx mE 67 b1 (nQ part (aD l6 c6 part.Nodes.length)),gu aY 130 l6 c6 part.Nodes]) (Gf:=fun _ i part=>[(1,bw bz e),(3,fP r.1),(5,rU l1 c1 out),(6,rU l2 c2 y),(9,cm e3),(10,tV (aE b1 0)),(68,jB r1),(69,cm (i:Int))]) (fun i part h=>?_) (fun e4 tl ih1 i part h=>?_) r1 0 ({(⟨r1⟩:aT)with Nodes:=r1}:aT) ⟨J,h⟩) (bu J)
     ·obtain⟨hx,h⟩:=h
      refine aC<|aA<|zo J (gP J J)<|ax<|af<|bF (ht J) (d5 hx)<|bt ?_;refine ac (ac (aN ?_));refine aw<|am<|aJ rfl<|dI<|q5<|zo rfl (rs (q:=bz) (y:=part) iG J J J J (.tail _ (.tail _ (.tail _ (.head _)))) (fun _ _ _ ho h=>CI (wv ho (.head _)) h) (ht J))<|zo J (aQ (r:=bz) (ys:=[part]) (xs:=[.tmp 104]) rY iG J J J J J ⟨(ht J),aV⟩)<|cb<|bT h fun s9 q_out2 h=>dJ iG J J J J rY J J (ht J) (ht J) q_out2 fun l7 c7=>bN J<|aR<|an<|cu<|bb<|au<|bb ?_;exact cE (K s9 l7 c7 y l2 c2 h) (bu J)
     ·obtain⟨hx,h⟩:=h
      refine aC<|aA<|zo J (gP J J)<|ax<|af<|bE (ht J) (dZ hx)<|fO<|af<|aB<|aA<|aJ J<|bN J<|ax<|aA<|zo J (fX 0 fW J J J)<|zo J (mH mR AM (.tail _ (.tail _ (.head _))) J (ht J))<|aJ J<|bT h fun e5 q_e5 h=>?_;refine zo J (cF l8 dS (.tail _ (.tail _ (.tail _ (.head _)))) (ht J) (ht J) q_e5)<|bN J<|ax ?_;refine jK (Z:=fun part1=>oL e3 (iT (gE e r n) out y e3 tl) i part1=some R) (Of:=fun part1=>[gu bz 67 l1 c1 out,gu cn 3 l2 c2 y,bx mE 67 b1 (nQ part1 (aD l6 c6 part1.Nodes.length)),gu aY 130 l6 c6 part1.Nodes]) (Gf:=fun part1=>[(1,bw bz e),(3,fP r.1),(5,rU l1 c1 out),(6,rU l2 c2 y),(9,cm e3),(10,tV (aE b1 0)),(12,tV (mb l6 ((i:Int).toNat*8+0))),(68,jB r1),(69,cm (i:Int))]) (fun part1 h=>?_) (fun K1=>?_)
      ·skip
       refine aA<|aJ J<|bT h fun e6 q_e6 h=>zo J (wz (.tail _ (.tail _ (.tail _ (.head _)))) q_e6 (ht J))<|zo J (fj (o:=(i:Int).toNat*8+0) (n:=(i:Int).toNat*8+2) y6 J (.tail _ (.tail _ (.tail _ (.head _)))) q_e6 (ht J) J)<|zo J (ge (r:=aY) (i:=(i:Int)) (foff:=2) ce J J uK J (.tail _ (.tail _ (.tail _ (.head _)))) q_e6 (ht J))<|zo J (fF (ht J) hI)<|ax<|eE h J (fun h=>?_) (fun h=>?_)
       ·refine am<|aJ J<|zo J (wz (.tail _ (.tail _ (.tail _ (.head _)))) q_e6 (ht J))<|zo J (fj (o:=(i:Int).toNat*8+0) (n:=(i:Int).toNat*8+2) y6 J (.tail _ (.tail _ (.tail _ (.head _)))) q_e6 (ht J) J)<|zo J (ge (r:=aY) (i:=(i:Int)) (foff:=2) ce J J uK J (.tail _ (.tail _ (.tail _ (.head _)))) q_e6 (ht J))<|aJ J<|zo J (ib (ht J) (ht J))<|zo J (wz (.tail _ (.tail _ (.tail _ (.head _)))) q_e6 (ht J))<|zo J (fj (o:=(i:Int).toNat*8+0) (n:=(i:Int).toNat*8+2) y6 J (.tail _ (.tail _ (.tail _ (.head _)))) q_e6 (ht J) J)<|dI<|bT h fun st q_st h=>mL ce J IF J q_e6 (so q_st) (ht J) (ht J)<|zp (O' :=[gu aY 130 l6 c6 st,gu bz 67 l1 c1 out,gu cn 3 l2 c2 y,bx mE 67 b1 (nQ part1 (aD l6 c6 st.length))]) (by rw [g9 (so q_st)])<|aR<|an<|aw<|am<|zo rfl (nF (dv hx hN) rfl)<|aJ rfl<|aR<|bo<|bo<|bo ?_;exact bj (aW (ih1 (i+1) ({part1 with Nodes:=st}:aT) ⟨du hx,h⟩) (bu J))
       ·refine bO<|an<|aw<|am<|zo rfl (nF (dv hx hN) rfl)<|aJ rfl<|aR ?_;exact bj (aW (ih1 (i+1) part1 ⟨du hx,h⟩) (bu J))
      ·skip
       refine aA<|aJ J<|zo J (wz (.tail _ (.tail _ (.tail _ (.head _)))) q_e5 (ht J))<|zo J (fj (o:=(i:Int).toNat*8+0) (n:=(i:Int).toNat*8+1) y7 J (.tail _ (.tail _ (.tail _ (.head _)))) q_e5 (ht J) J)<|zo J (ge (r:=aY) (i:=(i:Int)) (foff:=1) ce J J uL J (.tail _ (.tail _ (.tail _ (.head _)))) q_e5 (ht J))<|zo J (fF (ht J) hI)<|ax<|eE h J (fun h=>?_) (fun h=>?_)
       ·refine am<|aJ J<|zo J (wz (.tail _ (.tail _ (.tail _ (.head _)))) q_e5 (ht J))<|zo J (fj (o:=(i:Int).toNat*8+0) (n:=(i:Int).toNat*8+1) y7 J (.tail _ (.tail _ (.tail _ (.head _)))) q_e5 (ht J) J)<|zo J (ge (r:=aY) (i:=(i:Int)) (foff:=1) ce J J uL J (.tail _ (.tail _ (.tail _ (.head _)))) q_e5 (ht J))<|aJ J<|zo J (ib (ht J) (ht J))<|zo J (wz (.tail _ (.tail _ (.tail _ (.head _)))) q_e5 (ht J))<|zo J (fj (o:=(i:Int).toNat*8+0) (n:=(i:Int).toNat*8+1) y7 J (.tail _ (.tail _ (.tail _ (.head _)))) q_e5 (ht J) J)<|dI<|bT h fun st1 q_st1 h=>mL ce J IG J q_e5 (so q_st1) (ht J) (ht J)<|fI (g9 (so q_st1)) 73 J<|zp (O' :=[gu aY 130 l6 c6 st1,gu bz 67 l1 c1 out,gu cn 3 l2 c2 y,bx mE 67 b1 (nQ part (aD l6 c6 st1.length))]) (by rw [g9 (so q_st1)])<|aR<|bo<|bo<|bo ?_;exact cE (K1 ({part with Nodes:=st1}:aT) h) (bu J)
       ·refine bO ?_;exact cE (K1 part h) (bu J)
  ·refine bt ?_;refine ac (ac (aN ?_));refine aw<|aA<|aJ rfl<|bN rfl<|ax<|av ?_;cases so h;exact ir J J
theorem Qc(e:aT)(left:Int){R:Int×Int×Bool}(h:wI e left=some R):bA bc 145 [tD bz e,cm left] (tT [cm R.1,cm R.2.1,gX R.2.2]):=by
 refine bA.of Tryz.func145 J J J fun w0 S0=>aA<|zo J (l9 J)<|zo J (gv)<|zo J (gv)<|zo J (iO)<|ax<|af<|aA<|zo J (bH iG J J)<|bT h fun r q_r h=>zo J (aL Kv (BA _ q_r) ⟨(ht J),aV⟩)<|zo J (H8 J)<|aJ J<|dQ J J (fun hg=>cQ fW db J J)<|dQ J J (fun hg=>bD mR J J (bB J hg))<|dQ J J (fun hg=>cA l8 (bB J hg))<|dQ J J (fun hg=>fE (bB J hg) hI)<|zo J (ua J J)<|aJ J<|bT h fun t q_t h=>?_;refine dQ J J (fun hg=>cQ fW db J J)<|dQ J J (fun hg=>bD mR J J (bB J hg)) ?_
 obtain⟨e1,h1t,h0t⟩:=og q_t
 have q_e1g:=fun hb=>(h1t hb).1
 refine dQ J J (fun hg=>aO l8 dS J (bB J hg) hI (q_e1g hg))<|dQ J J (fun hg=>lc kz J fV J (bB J hg))<|dQ J J (fun hg=>bD ce J J (bB J hg))<|dQ J J (fun hg=>fE (bB J hg) hI)<|zo J (gT (ht J) (fun hb=>(bB J (vN hb))) (fun hb=>(h1t hb).2) h0t)<|ax<|eE h J (fun h=>?_) (fun h=>?_)
 ·refine aA<|zo J (gv)<|zo J (gv)<|zo J (iO)<|ax<|av<|aa ?_;cases so h;exact BD J J J J
 ·refine fO<|af<|bT h fun e2 q_e2 h=>bT h fun e3 q_e3 h=>?_
  refine CW 11 [tc (bw KT e.Nodes),tc (fZ (aY) e.Nodes),tc (bw aY e2),tc (tD aY e2),tc (bw KT e.Nodes),tc (fZ (aY) e.Nodes),tc (bw aY e3),tc (tD aY e3),([8],fun s=>tV (aE ((s.getD 0 o7).h 0).2 0)),([9],fun s=>tV (aE ((s.getD 0 o7).h 0).2 0)),tc (zJ)] [false,false,false,false,false,false,false,false,true,true,true] [([],fun _=>[]),([8],fun sg=>[bx aY 130 ((sg 8).h 0).2 Gh]),([9],fun sg=>[bx aY 130 ((sg 9).h 0).2 Gh]),([8,9],fun sg=>[bx aY 130 ((sg 9).h 0).2 Gh,bx aY 130 ((sg 8).h 0).2 Gh]),([8,9,10],fun sg=>[bx aY 130 ((sg 8).h 0).2 e2,bx aY 130 ((sg 9).h 0).2 Gh])] (fun _=>J) mixed J J J J
   ⟨⟨[⟨2,fun _=>bw bz e,none⟩],_,[[],[8],[9],[8,9]],J,⟨(fun _=>J),aV⟩,J,J,J,J,J,⟨fun sg=>ae J (cQ fW db J J),fun sg=>ae J (cQ fW db J J),fun sg=>ae J (cQ fW db J J),fun sg=>ae J (cQ fW db J J),aV⟩⟩,
   ⟨⟨[⟨28,fun _=>bw KT e.Nodes,some 0⟩],_,[[],[8],[9],[8,9]],J,⟨(fun _=>J),aV⟩,J,J,J,J,J,⟨fun sg=>ae J (bH mR J J),fun sg=>ae J (bH mR J J),fun sg=>ae J (bH mR J J),fun sg=>ae J (bH mR J J),aV⟩⟩,
   ⟨⟨[⟨29,fun _=>tD KT e.Nodes,some 1⟩],_,[[],[8],[9],[8,9]],J,⟨(fun _=>J),aV⟩,J,J,J,J,J,⟨fun sg=>ae J (aO l8 dS J (ht J) hI q_e2),fun sg=>ae J (aO l8 dS J (ht J) hI q_e2),fun sg=>ae J (aO l8 dS J (ht J) hI q_e2),fun sg=>ae J (aO l8 dS J (ht J) hI q_e2),aV⟩⟩,
   ⟨⟨[⟨30,fun _=>bw aY e2,some 2⟩],_,[[],[8],[9],[8,9]],J,⟨(fun _=>J),aV⟩,J,J,J,J,J,⟨fun sg=>ae J (bH dS J J),fun sg=>ae J (bH dS J J),fun sg=>ae J (bH dS J J),fun sg=>ae J (bH dS J J),aV⟩⟩,
   ⟨⟨[⟨2,fun _=>bw bz e,none⟩],_,[[],[8],[9],[8,9],[8,9,10]],J,⟨(fun _=>J),aV⟩,J,J,J,J,J,⟨fun sg=>ae J (cQ fW db J J),fun sg=>ae J (cQ fW db J J),fun sg=>ae J (cQ fW db J J),fun sg=>ae J (cQ fW db J J),fun sg=>ae J (cQ fW db J J),aV⟩⟩,
   ⟨⟨[⟨32,fun _=>bw KT e.Nodes,some 4⟩],_,[[],[8],[9],[8,9],[8,9,10]],J,⟨(fun _=>J),aV⟩,J,J,J,J,J,⟨fun sg=>ae J (bH mR J J),fun sg=>ae J (bH mR J J),fun sg=>ae J (bH mR J J),fun sg=>ae J (bH mR J J),fun sg=>ae J (bH mR J J),aV⟩⟩,
   ⟨⟨[⟨33,fun _=>tD KT e.Nodes,some 5⟩],_,[[],[8],[9],[8,9],[8,9,10]],J,⟨(fun _=>J),aV⟩,J,J,J,J,J,⟨fun sg=>ae J (aO l8 dS J (ht J) hI q_e3),fun sg=>ae J (aO l8 dS J (ht J) hI q_e3),fun sg=>ae J (aO l8 dS J (ht J) hI q_e3),fun sg=>ae J (aO l8 dS J (ht J) hI q_e3),fun sg=>ae J (aO l8 dS J (ht J) hI q_e3),aV⟩⟩,
   ⟨⟨[⟨34,fun _=>bw aY e3,some 6⟩],_,[[],[8],[9],[8,9],[8,9,10]],J,⟨(fun _=>J),aV⟩,J,J,J,J,J,⟨fun sg=>ae J (bH dS J J),fun sg=>ae J (bH dS J J),fun sg=>ae J (bH dS J J),fun sg=>ae J (bH dS J J),fun sg=>ae J (bH dS J J),aV⟩⟩,
   ⟨⟨[],_,[([],[8]),([9],[8,9])],J,aV,J,J,J,J,J,⟨fun sg=>cy J (gI (r:=aY) (x:=Gh) dS (fun _=>n7 _)),fun sg=>cy J (EffOK.post_imp (post:=fun x__=>(fun(sg:Nat→OI)=>[bx aY 130 ((sg 8).h 0).2 Gh,bx aY 130 ((sg 9).h 0).2 Gh]) (Gp sg 8 x__)) (gI (r:=aY) (x:=Gh) dS (fun _=>n7 _)) (fun h=>cI.pick [1,0] J h)),aV⟩⟩,
   ⟨⟨[],_,[([],[9]),([8],[8,9])],J,aV,J,J,J,J,J,⟨fun sg=>cy J (gI (r:=aY) (x:=Gh) dS (fun _=>n7 _)),fun sg=>cy J (gI (r:=aY) (x:=Gh) dS (fun _=>n7 _)),aV⟩⟩,
   ⟨⟨[⟨7,fun sg=>tV (aE ((sg 8).h 0).2 0),some 8⟩,⟨31,fun _=>tD aY e2,some 3⟩],_,[([8,9],[8,9,10])],J,⟨(fun _=>J),(fun _=>J),aV⟩,J,J,J,J,J,⟨fun sg=>cy J (EffOK.fr1 (ln dS J (ui aj) J (ht J) (ht J))),aV⟩⟩,
   aV⟩⟩⟩⟩⟩⟩⟩⟩⟩⟩⟩ (fun sg=>?_)
  refine(show RG _ _ _ _ [bx aY 130 ((sg 8).h 0).2 e2,bx aY 130 ((sg 9).h 0).2 Gh] _ from ?_);refine bf 7 J<|ap dS J aj J (ht J) (ht J)<|bf 8 J<|ax<|af<|aA<|zo J (cQ kz fV J J)<|zo J (bH ce J J)<|zo J (H8 J)<|aJ J<|dQ J J (fun hg=>cQ kz fV J J)<|dQ J J (fun hg=>bD ce J J (bB J hg))<|dQ J J (fun hg=>fE (bB J hg) hI)<|zo J (ua J J)<|ax<|eE h J (fun h=>?_) (fun h=>?_)
  ·refine aA<|zo J (gv)<|zo J (gv)<|zo J (iO)<|ax<|av<|aa ?_;cases so h;exact BD J J J J
  ·refine fO<|af ?_
   refine iq (ts:=[_,_,_,_,_,_,_,_,_,_,_,_]) mixed J J
    ⟨gK 7 J J J (cQ oJ ju J J),
    ⟨dR 44 0 J J J (bH ce J J),
    ⟨gK 8 J J J (cQ oJ ju J J),
    ⟨dR 46 2 J J J (bH ce J J),
    ⟨gL 45 1 47 3 J J J J (J5 (ht J) (ht J)),
    ⟨gK 7 J J J (cQ oJ ju J J),
    ⟨dR 49 5 J J J (bH ce J J),
    ⟨gK 8 J J J (cQ oJ ju J J),
    ⟨dR 51 7 J J J (bH ce J J),
    ⟨gL 50 6 52 8 J J J J (Fh (ht J) (ht J)),
    ⟨dR 48 4 J J J (BQ J),
    ⟨dR 53 9 J J J (BQ J),
    aV⟩⟩⟩⟩⟩⟩⟩⟩⟩⟩⟩⟩ ?_
   refine aw<|af<|aA<|aJ rfl<|aJ rfl<|zo rfl (fF (ht rfl) (ht rfl))<|aJ rfl<|dQ rfl rfl (fun hg=>dw J)<|dQ J J (fun hg=>dw J)<|dQ J J (fun hg=>iA (bB J hg) (bB J hg))<|zo J (ua J J)<|ax<|eE h J (fun h=>?_) (fun h=>?_)
   ·refine aA<|zo J (gv)<|zo J (gv)<|zo J (iO)<|ax<|av<|aa ?_;cases so h;exact BD J J J J
   ·refine fO<|aA<|aJ J<|aJ J<|aJ J<|zo J (ib (ht J) (ht J))<|bN J<|bN J<|zo J (iO)<|ax<|av ?_;cases so h;exact BD J J J J

theorem Qg(cond:aT)(left:Int){R:(List Int)×(List Int)}(h:uw cond left=some R):bA bc 109 [tD bz cond,cm left] (tT [fP R.1,fP R.2]):=by
 refine bA.of Tryz.func109 J J J fun w0 S0=>aA<|zo J (l9 J)<|zo J (aS (show aK _ _ _ o8 from lU))<|zo J (aS (show aK _ _ _ o8 from lU))<|ax<|aA<|cj false cn 3<|zo J (aS u7)<|cj false cn 3<|zo J (aS u7)<|ax<|af<|aA<|zo J (bH iG J J)<|bT h fun r q_r h=>lF UY (NW _ q_r) ⟨(ht J),aV⟩ J fun l c=>zo J (hX rY (.head _) (ht J))<|zo J (bJ hI) ?_;refine ax<|aB<|lw (.head _) fun hN=>bU<|ip<|mN ?_;refine aW (CS (Z:=fun ls i a1 l1 c1 b l2 c2=>(r.drop i=ls)∧i8 left ls a1 b=some R) (Of:=fun _ i a1 l1 c1 b l2 c2=>[gu cn 3 l1 c1 a1,gu cn 3 l2 c2 b,gu bz 67 l c r]) (Gf:=fun _ i a1 l1 c1 b l2 c2=>[(1,cm left),(6,rU l1 c1 a1),(7,rU l2 c2 b),(14,rU l c r),(15,jB r),(16,cm (i:Int))]) (fun i a1 l1 c1 b l2 c2 h=>?_) (fun e tl ih i a1 l1 c1 b l2 c2 h=>?_) r 0 ra none 0 ra none 0 ⟨J,h⟩) (bu J)
 ·obtain⟨hx,h⟩:=h
  refine aC<|aA<|zo J (gP J J)<|ax<|af<|bF (ht J) (d5 hx)<|bt ?_;refine ac (ac (aN ?_));refine aw<|aA<|aJ rfl<|aJ rfl<|bN rfl<|bN rfl<|ax<|av<|jL<|da 6 rfl<|da 44 rfl<|da 4 rfl<|kU 4 rfl<|cu<|jL<|da 7 rfl<|da 45 rfl<|da 5 rfl<|kU 5 rfl<|bb<|bb<|bb ?_;cases so h;exact df J J J
 ·obtain⟨hx,h⟩:=h
  refine aC<|aA<|zo J (gP J J)<|ax<|af<|bE (ht J) (dZ hx)<|fO<|af ?_;refine EE (Z:=fun a2 l3 c3 b1 l4 c4=>mZ (i8 left tl) a2 b1=some R) (Of:=fun a2 l3 c3 b1 l4 c4=>[gu cn 3 l3 c3 a2,gu cn 3 l4 c4 b1,gu bz 67 l c r]) (Gf:=fun a2 l3 c3 b1 l4 c4=>[(1,cm left),(6,rU l3 c3 a2),(7,rU l4 c4 b1),(14,rU l c r),(15,jB r),(16,cm (i:Int))]) (fun a2 l3 c3 b1 l4 c4 h=>?_) (fun K=>?_)
  ·skip
   refine aw<|am<|zo rfl (nF (dv hx hN) rfl)<|aJ rfl<|aR ?_;exact bj (aW (ih (i+1) a2 l3 c3 b1 l4 c4 ⟨du hx,h⟩) (bu J))
  ·skip
   refine aA<|zo J (cF rY iG (.tail _ (.tail _ (.head _))) (ht J) (ht J) (d4 hx))<|zo J (ge (r:=bz) (i:=(i:Int)) (foff:=0) iG J J bq J (.tail _ (.tail _ (.head _))) (d4 hx) (ht J))<|bh (r:=bz) (x:=rb) iG (fun _=>qF _) J fun b2=>ap iG J aj J (ht J) (ht J)<|bf 9 J<|ax<|aA<|zo J (bH iG J J)<|aJ J<|bT h fun r1 q_r1 h=>zo J (aL UX (Qc _ _ q_r1) ⟨(ht J),(ht J),aV⟩)<|aJ J<|zo J (mA J J)<|zo J (mA J J)<|zo J (mA J J)<|bN J<|bN J<|bN J<|ax ?_;refine af<|aA<|aJ J<|zo J (gj (ht J))<|ax<|eE h J (fun h=>?_) (fun h=>?_)
   ·refine af<|aA<|zo J (bH iG J J)<|bT h fun r2 q_r2 h=>zo J (aL UZ (Qd _ q_r2) ⟨(ht J),aV⟩)<|zo J (gj (ht J))<|ax<|eE h J (fun h=>?_) (fun h=>?_)
    ·refine aA<|zo J (aS (show aK _ _ _ o8 from lU))<|zo J (aS (show aK _ _ _ o8 from lU))<|ax<|av ?_;refine aa (aa (aF (aa (aa (aF (aa ?_))))));refine bb<|bb<|bb ?_;cases so h;exact df J J J
    ·refine fO<|bt ?_;refine ac (aN ?_);exact cE (K a1 l1 c1 b l2 c2 h) (bu J)
   ·refine fO<|aA<|aJ J<|zo J (hX d8 (.head _) (ht J))<|zo J (iA (ht J) hI)<|ax<|eE h J (fun h=>?_) (fun h=>?_)
    ·refine am<|aJ J<|aJ J<|zo J (aQ (r:=cn) (ys:=[r1.1]) (xs:=[.tmp 36]) d8 ce J J J J J ⟨(ht J),aV⟩)<|bT h fun a3 q_a3 h=>dJ ce J J J J d8 J J (ht J) (ht J) q_a3 fun l5 c5=>aJ J<|aJ J<|zo J (aQ (r:=cn) (ys:=[r1.2.1]) (xs:=[.tmp 40]) d8 ce J J J J J ⟨(ht J),aV⟩)<|cb<|bT h fun b3 q_b3 h=>dJ ce J J J J d8 J J (ht J) (ht J) q_b3 fun l6 c6=>bN J<|bN J<|aR<|an<|au<|cu<|au ?_;exact cE (K a3 l5 c5 b3 l6 c6 h) (bu J)
    ·refine bO<|an ?_;exact cE (K a1 l1 c1 b l2 c2 h) (bu J)

end Go.Proofs.YtnmjbolollcokaaGreatDoor

