/- cJ of this claim: P7. -/
import Derived.Test.YtnmjbolollcokaaGreatDoorRbT
import Derived.Test.YtnmjbolollcokaaGreatDoorRbP6
set_option linter.all false
namespace Go.Proofs.YtnmjbolollcokaaGreatDoor
open Go
set_option maxRecDepth 100000

theorem zl(of:(List Int))(among:(List Int)){R:(List Int)×Bool}(h:nt of among=some R):bn ba 108 [dX of,dX among] (tT [dX R.1,eH R.2]):=by
 refine bn.of Tryz.func108 J J J fun w0 S0=>ay<|zo J (aP (show aG _ _ _ lQ from ib))<|zo J (eZ)<|aw<|ay<|bQ false bM 3<|zo J (aP pI)<|aw<|af<|ay<|aH J<|zo J (gV dm J)<|zo J (bA hI)<|aw<|ax<|bf (k:=10) J fun hN=>bF ?_;refine aS (kQ (Z:=fun ls i out l c=>(of.drop i=ls)∧mK of among ls out=some R) (Of:=fun _ i out l c=>[ee bM 3 l c out]) (Gf:=fun _ i out l c=>[(0,dX of),(1,dX among),(6,nb l c out),(10,dX of),(11,fD of),(12,bD (i:Int))]) (fun i out l c h=>?_) (fun e tl ih i out l c h=>?_) of 0 my none 0 ⟨J,h⟩) (bl J)
 ·obtain⟨hx,h⟩:=h
  refine aA<|ay<|zo J (ej J J)<|aw<|af<|bu (ht J) (c8 hx)<|bk ?_;refine ac (ac (aM ?_));refine av<|ay<|aH rfl<|aH rfl<|zo rfl (gV dm rfl)<|zo rfl (eX (ht rfl) hI)<|bC rfl<|bC rfl<|aw<|aq<|fY<|cB 6 rfl<|cB 26 rfl<|cB 4 rfl<|gS 4 rfl<|aU ?_;cases so h;exact cv J J J
 ·obtain⟨hx,h⟩:=h
  refine aA<|ay<|zo J (ej J J)<|aw<|af<|bt (ht J) (cY hx)<|dJ<|af<|ax<|ay<|zo J (km dm bK J J J (c0 hx))<|zo J (bz bK J J)<|bC J<|aw<|ay<|aH J<|aH J<|bI h fun r q_r h=>?_;refine zo J (aK Li (Ha _ _ q_r) ⟨(ht J),(ht J),aT⟩)<|bC J<|aw<|af<|ay<|aH J<|zo J (eW (ht J) hI)<|aw<|dn h J (fun h=>?_) (fun h=>?_)
  ·refine ay<|zo J (aP (show aG _ _ _ lQ from ib))<|zo J (eZ)<|aw<|aq ?_;refine M (aD (M (M (aD (M ?_)))));refine aU ?_;cases so h;exact cv J J J
  ·refine dJ<|am<|aH J<|aH J<|zo J (aR (r:=bM) (ys:=[r]) (xs:=[.tmp 22]) dm bK J J J J J ⟨(ht J),aT⟩)<|bI h fun out1 q_out1 h=>cT bK J J J J dm J J (ht J) (ht J) q_out1 fun l1 c1=>bC J<|aQ<|an<|av<|am<|zo rfl (jQ (cI hx hN) rfl)<|aH rfl<|aQ ?_;exact be (aS (ih (i+1) out1 l1 c1 ⟨cH hx,h⟩) (bl J))

theorem Kv(b:Nat)(ix:OI)(p:aE)(n:ai)(kinds:(List Int))(l:(List bb)){R:bb}(h:jb p n kinds l=some R):cz ba 68 [tV (aF b 0),tD ak n,dX kinds,dH (ah) l] (d2 b p ix) (fun _:OI=>tD ah R) (fun _=>(d2 b p ix)):=by
 refine cz.of Tryz.func68 J J J fun w0 S0=>?_;refine(show CG _ _ _ [bx (rH aJ [(0,aC (ix.h 0).1 (ix.h 0).2 p.Plan.Frags.length),(3,aC (ix.h 1).1 (ix.h 1).2 p.kinds.length)]) 91 b p,bV aN 74 (ix.h 0).1 (ix.h 0).2 p.Plan.Frags,bV dG 42 (ix.h 1).1 (ix.h 1).2 p.kinds] _ from ?_);refine ay<|zo J (gY J)<|bg (r:=ah) (x:=eY) bo (fun _=>dv _) J fun b1=>aw<|ay<|zo J (cr kI gw J J)<|zo J (bz rA J J)<|zo J (gV nc J)<|bI h fun mk q_mk h=>ij (FJ (r:=bM) (x:=(0:Int)) bK J J J dm (fun _=>J) (ht J) (ht J) q_mk) J fun i=>bC J<|aw<|af<|ay<|zo J (cr kI gw J J)<|zo J (bz rA J J)<|zo J (gV nc J)<|zo J (bA hI)<|aQ ?_;refine av<|ax<|bf (k:=19) J fun hN=>bF ?_;refine aS (iv (Z:=fun ls i1 bare=>(n.Items.drop i1=ls)∧eP n kinds l ls i1 bare=some R) (Of:=fun _ i1 bare=>[ee bM 3 (i.h 0).1 (i.h 0).2 bare,bx ah 95 b1 eY,bx (rH aJ [(0,aC (ix.h 0).1 (ix.h 0).2 p.Plan.Frags.length),(3,aC (ix.h 1).1 (ix.h 1).2 p.kinds.length)]) 91 b p,bV aN 74 (ix.h 0).1 (ix.h 0).2 p.Plan.Frags,bV dG 42 (ix.h 1).1 (ix.h 1).2 p.kinds]) (Gf:=fun _ i1 bare=>[(2,dX kinds),(3,dH (ah) l),(5,bj ak n),(8,tV (aF b1 0)),(9,nb (i.h 0).1 (i.h 0).2 bare),(19,dH (br) n.Items),(20,fD n.Items),(21,bD (i1:Int))]) (fun i1 bare h=>?_) (fun e tl ih i1 bare h=>?_) n.Items 0 mk ⟨J,h⟩) (bl J)
 ·obtain⟨hx,h⟩:=h
  refine aA<|ay<|zo J (ej J J)<|aw<|af<|bu (ht J) (c8 hx)<|bk ?_;refine ac (ac (aM ?_));refine av<|ay<|aH rfl<|bI h fun e1 q_e1 h=>zo J (aO nj bo J (ht J) hI q_e1)<|zo J (cr j9 fB J J)<|zo J (bz cu J J)<|aH J<|ms<|qA 9 J<|qA 55 J<|bI h fun r q_r h=>zo J (aK FQ (zl _ _ q_r) ⟨(ht J),(iW (ht J)),aT⟩)<|aH J<|zo J (iU J J)<|zo J (iU J J)<|bC J<|bC J<|aw<|af<|bI h fun r1 q_r1 h=>bI h fun r2 q_r2 h=>?_
  refine iw 9 (ts:=[tD ak n,dX kinds,dH (ah) l,bj ah e1,tD ah e1,dH (ah) ([e1]),tD ah r1,dX r.1,tD ah r2]) mixed J J J
   ⟨ek 5 J J J (bz cE J J),
   ⟨ek 2 J J J (cL J),
   ⟨ek 3 J J J (cL J),
   ⟨c9 61 2 J J J (aO nj bo J (ht J) hI q_e1),
   ⟨c9 62 3 J J J (bz bo J J),
   ⟨c9 63 4 J J J (aR (r:=ah) (ys:=[e1]) (xs:=[.tmp 63]) nj bo J J J J J ⟨(ht J),aT⟩),
   ⟨vA 59 0 60 1 64 5 J J J J J (aK nI (iR _ _ _ q_r1) ⟨(ht J),(ht J),(ht J),aT⟩),
   ⟨ek 12 J J J (cL J),
   ⟨eo 65 6 66 7 J J J J (aK uI (nE _ _ q_r2) ⟨(ht J),(ht J),aT⟩),
   aT⟩⟩⟩⟩⟩⟩⟩⟩⟩ ?_
  refine bN<|ap bo J aj J (ht J) (ht J)<|bc 8 J<|aw<|aq<|aU<|au<|au<|au ?_;cases so h;exact er J bo J J J kp J J
 ·obtain⟨hx,h⟩:=h
  refine aA<|ay<|zo J (ej J J)<|aw<|af<|bt (ht J) (cY hx)<|dJ<|af<|ax<|ay<|aH J<|zo J (km nc fa J J J (c0 hx))<|zo J (bz fa J J)<|bg (r:=br) (x:=mz) fa (fun _=>mh _) J fun b2=>bC J<|ap fa J aj J (ht J) (ht J)<|bc 11 J<|aw<|af ?_;refine am<|aH J<|aH J<|bI h fun e2 q_e2 h=>zo J (ce dm bK (.head _) (ht J) (ht J) q_e2)<|bI h fun st q_st h=>jA bK J aj J q_e2 (so q_st) (ht J) hI<|dP (eD (so q_st)) 9 J<|dP (eD (so q_st)) 26 J<|aw<|ay<|zo J (cr dW cC J J)<|zo J (bz jG J J)<|zo J (gV iT J)<|zo J (jR J)<|aH J<|bI h fun t q_t h=>co J J (fun hg=>cr dW cC J J)<|co J J (fun hg=>bp jG J J (bq J hg)) ?_
  obtain⟨e3,h1t,h0t⟩:=og q_t
  have q_e3g:=fun hb=>(h1t hb).1
  refine co J J (fun hg=>aO iT da J (bq J hg) hI (q_e3g hg))<|co J J (fun hg=>hJ gE J dV J (bq J hg))<|co J J (fun hg=>bp bK J J (bq J hg))<|co J J (fun hg=>cj (bq J hg) hI)<|zo J (dZ (ht J) (fun hb=>(bq J hb)) (fun hb=>(h1t hb).2) h0t)<|aw<|dn h J (fun h=>?_) (fun h=>?_)
  ·refine am<|aH J<|aH J<|zo J (cr dW cC J J)<|zo J (bz jG J J)<|bI h fun e4 q_e4 h=>zo J (aO iT da J (ht J) hI q_e4)<|zo J (cr kJ fJ J J)<|zo J (bz bK J J)<|bI h fun e5 q_e5 h=>zo J (ce dm bK (.head _) (ht J) (ht J) q_e5)<|bI h fun st1 q_st1 h=>jA bK J aj J q_e5 (so q_st1) (ht J) (ht J)<|dP (eD (so q_st1)) 9 J<|dP (eD (so q_st1)) 26 J<|dP (eD (so q_st1)) 41 J<|aQ<|an<|av<|am<|zo rfl (jQ (cI hx hN) rfl)<|aH rfl<|aQ ?_;exact be (aS (ih (i1+1) st1 ⟨cH hx,h⟩) (bl J))
  ·refine bE<|an<|av<|am<|zo rfl (jQ (cI hx hN) rfl)<|aH rfl<|aQ ?_;exact be (aS (ih (i1+1) st ⟨cH hx,h⟩) (bl J))

theorem GU(s:(List bT))(f:(bT→Option Bool)){R:Int}(h:fb s f=some R):bn ba 234 [dH (aY) s,(eN ba Gg jX (fun(x:bT)=>f x))] (bD R):=by
 refine bn.of Tryz.func234 J J J fun w0 S0=>ay<|zo J (d9)<|aw<|af<|ay<|aH J<|zo J (gV iT J)<|zo J (bA hI)<|aw<|ax<|bf (k:=6) J fun hN=>bF ?_;refine aS (dS (Z:=fun ls i=>(s.drop i=ls)∧dy f ls i=some R) (Of:=fun _ i=>[]) (Gf:=fun _ i=>[(0,dH (aY) s),(1,(eN ba Gg jX (fun(x:bT)=>f x))),(7,fD s),(8,bD (i:Int))]) (fun i h=>?_) (fun e tl ih i h=>?_) s 0 ⟨J,h⟩) (bl J)
 ·obtain⟨hx,h⟩:=h
  refine aA<|ay<|zo J (ej J J)<|aw<|af<|bu (ht J) (c8 hx)<|bk ?_;refine ac (ac (aM ?_));refine av<|ay<|zo rfl (d9)<|aw<|aq ?_;cases so h;exact aW J J
 ·obtain⟨hx,h⟩:=h
  refine aA<|ay<|zo J (ej J J)<|aw<|af<|bt (ht J) (cY hx)<|dJ<|af<|ax<|ay<|aH J<|bC J<|aw<|ay<|aH J<|aH J<|aH J<|zo J (km iT da J J J (c0 hx)) ?_;refine zo J (bz da J J)<|bI h fun r q_r h=>zo J (gc (args:=Gg) (res:=Bn) (f:=(fun(x:bT)=>f x)) (x:=((e):bT)) (ht J) q_r ⟨(ht J),aT⟩)<|aw<|dn h J (fun h=>?_) (fun h=>?_)
  ·refine ay<|aH J<|bC J<|aw<|aq ?_;refine aD (M (M (aD (M ?_))));cases so h;exact aW J J
  ·refine bE<|an<|av<|am<|zo rfl (jQ (cI hx hN) rfl)<|aH rfl<|aQ ?_;exact be (aS (ih (i+1) ⟨cH hx,h⟩) (bl J))

theorem G7(s:(List bT))(f:(bT→Option Bool)){R:Bool}(h:eC s f=some R):bn ba 200 [dH (aY) s,(eN ba Gg jX (fun(x:bT)=>f x))] (eH R):=by
 refine bn.of Tryz.func200 J J J fun w0 S0=>ay<|zo J (eZ)<|aw<|ay<|aH J<|aH J<|bI h fun r q_r h=>zo J (aK KV (GU _ _ q_r) ⟨(ht J),(ht J),aT⟩)<|zo J (dN (ht J) hI)<|bC J<|aw<|aq ?_;cases so h;exact aW J J

theorem G6(n:bT){R:Bool}(h:uC n=some R):bn ba 201 [tD aY n] (eH R):=by
 refine bn.of Tryz.func201 J J J fun w0 S0=>ay<|zo J (gY J)<|zo J (eZ)<|aw<|ay<|zo J (cr gE dV J J)<|zo J (bz bK J J)<|bI h fun r q_r h=>zo J (aK HQ (CS _ q_r) ⟨(ht J),aT⟩)<|bC J<|aw<|aq ?_;cases so h;exact aW J J

theorem Hj(e:bw){R:Bool}(h:xQ e=some R):bn ba 143 [tD br e] (eH R):=by
 refine bn.of Tryz.func143 J J J fun w0 S0=>ay<|zo J (gY J)<|zo J (eZ)<|aw<|ay<|zo J (bz fa J J)<|bI h fun r q_r h=>zo J (aK CY (vl _ q_r) ⟨(ht J),aT⟩)<|zo J (jR J)<|aH J<|bI h fun t q_t h=>co J J (fun hg=>cr dW cC J J)<|co J J (fun hg=>bp jG J J (bq J hg)) ?_
 obtain⟨r1,h1t,h0t⟩:=og q_t
 have q_r1g:=fun hb=>(h1t hb).1
 refine co J J (fun hg=>aK Lf (G7 _ _ (q_r1g hg)) ⟨(bq J hg),(IK Le fun x y h=>G6 _ h),aT⟩)<|co J J (fun hg=>d8 (bq J hg))<|zo J (dZ (ht J) (fun hb=>(bq J hb)) (fun hb=>(h1t hb).2) h0t)<|bC J<|aw<|aq ?_;cases so h;exact aW J J

theorem Fy(e:bw){R:(List bw)}(h:xT e=some R):fx ba 144 [tD br e] false br 67 R:=by
 refine fx.of Tryz.func144 J J J fun w0 S0=>ay<|zo J (gY J)<|bQ false br 67<|zo J (aP pI)<|aw<|ay<|zo J (bz fa J J)<|bI h fun r q_r h=>zo J (aK HP (CR _ q_r) ⟨(ht J),aT⟩)<|aH J<|zo J (iU J J)<|zo J (iU J J)<|bC J<|bC J<|aw<|af<|ay<|aH J ?_;refine zo J (d8 (ht J))<|aw<|dn h J (fun h=>?_) (fun h=>?_)
 ·refine ay<|bQ false br 67<|zo J (aP pI)<|aw<|aq<|M ?_;cases so h;exact eS J J
 ·refine dJ<|ay<|bQ false br 67<|zo J (aP pI)<|aw<|ay<|zo J (cr dW cC J J)<|zo J (bz jG J J)<|zo J (gV iT J)<|zo J (eV (ht J) hI)<|gX (r:=bM) (ys:=[(IntKind.i64.wrap ((e.Nodes.length:Int)-(1:Int)))]) (xs:=[.tmp 23]) dm bK J J J J J ⟨(ht J),aT⟩ J fun l c=>bC J<|aw<|af<|ax<|bF<|jC<|nM<|eA ?_;refine aS (C8 (Z:=fun n out l1 c1 open1 l2 c2=>ie e r n out open1=some R) (Of:=fun out l1 c1 open1 l2 c2=>[ee br 67 l1 c1 out,ee bM 3 l2 c2 open1]) (Gf:=fun out l1 c1 open1 l2 c2=>[(1,bj br e),(3,dX r.1),(5,nb l1 c1 out),(6,nb l2 c2 open1)]) (fun out l1 c1 open1 l2 c2 h=>nn h) (fun n ih out l1 c1 open1 l2 c2 h=>?_) ni ([]:List bw) none 0 ([(IntKind.i64.wrap ((e.Nodes.length:Int)-(1:Int)))]) l c h) (bl J);refine aA<|af<|ay<|aH J<|zo J (eF dm (.tail _ (.head _)) (ht J))<|zo J (eX (ht J) hI)<|aw<|dn h J (fun h=>?_) (fun h=>?_)
  ·refine dJ ?_;refine ye (Z:=fun out1 l3 c3 open2 l4 c4=>pn (ie e r n) out1 open2=some R) (Of:=fun out1 l3 c3 open2 l4 c4=>[ee br 67 l3 c3 out1,ee bM 3 l4 c4 open2]) (Gf:=fun out1 l3 c3 open2 l4 c4=>[(1,bj br e),(3,dX r.1),(5,nb l3 c3 out1),(6,nb l4 c4 open2)]) (fun out1 l3 c3 open2 l4 c4 h=>?_) (fun K=>?_)
   ·skip
    exact be (aS (ih out1 l3 c3 open2 l4 c4 h) (bl J))
   ·skip
    refine ay<|aH J<|aH J<|zo J (eF dm (.tail _ (.head _)) (ht J))<|zo J (eV (ht J) hI)<|bI h fun e1 q_e1 h=>zo J (ce dm bK (.tail _ (.head _)) (ht J) (ht J) q_e1)<|zo J (d5 (r:=bM) (i:=(IntKind.i64.wrap ((open1.length:Int)-(1:Int)))) (foff:=0) bK J J bm J (.tail _ (.head _)) q_e1 (ht J))<|bC J<|aw<|ay<|aH J<|aH J<|zo J (eF dm (.tail _ (.head _)) (ht J))<|zo J (eV (ht J) hI)<|bI h fun y q_y h=>zo J (lH dm bK J (.tail _ (.head _)) (ht J) (ht J) q_y)<|bN<|wA q_y<|bC J<|aQ ?_;refine av<|ay<|zo rfl (cr dW cC rfl rfl)<|zo rfl (bz jG rfl rfl)<|aH rfl<|bI h fun e2 q_e2 h=>zo J (km iT da J J J q_e2)<|zo J (bz da J J)<|bg (r:=aY) (x:=zK) da (fun _=>kw _) J fun b=>ap da J aj J (ht J) (ht J)<|bc 8 J<|aw<|af<|ay<|zo J (cr gE dV J J)<|zo J (bz bK J J)<|zo J (jR J)<|aw<|dn h J (fun h=>?_) (fun h=>?_)
    ·refine ay<|aH J<|zo J (cr sO pg J J)<|zo J (bz bK J J)<|zo J (cr sP ph J J)<|zo J (bz bK J J)<|zo J (aR (r:=bM) (ys:=[e2.R,e2.L]) (xs:=[.tmp 49,.tmp 51]) dm bK J J J J J ⟨(ht J),(ht J),aT⟩)<|bI h fun open3 q_open3 h=>cT bK J J J J dm J J (ht J) (ht J) q_open3 fun l5 c5=>bC J<|aw<|bk ?_;refine ac (aM ?_);refine bU ?_;exact cd (K out l1 c1 open3 l5 c5 h) (bl J)
    ·refine dJ<|ay<|aH J<|aH J<|bI h fun e3 q_e3 h=>zo J (km dm bK J J J q_e3)<|zo J (bz bK J J)<|bC J<|aw<|ay<|zo J (cr dW cC J J)<|zo J (bz jG J J)<|aH J<|aH J<|zo J (jf (ht J) hI)<|bI h fun y1 q_y1 h=>zo J (DG iT da J (ht J) (ht J) (ht J) q_y1)<|bI h fun r1 q_r1 h=>iu CZ (wn _ q_r1) ⟨(ht J),aT⟩ J fun l6 c6=>zo J (cy (y:=kd (⟨r1⟩:bw) (aC l6 c6 r1.length)) fa IP xf (⟨_,_,_,_,_,J,z6,J,(Ga (ht J)),J⟩)) ?_;refine bQ false aY 130<|bg (r:=jq) (x:=kd mz (aC none 0 (([]:List bT).length))) fa xf J fun b1=>ii fa J (kc J) J (ht J) (ht J)<|bN<|zy<|aw<|af<|ay<|zo J (dY 0 dW J J J)<|zo J (jw jG uy (.head _) J (ht J))<|zo J (eF iT (.tail _ (.head _)) (ht J))<|zo J (bA hI)<|aw<|ax<|il (.tail _ (.head _)) fun hN=>bF<|eA<|eA<|jC<|lq ?_;refine aS (iv (Z:=fun ls i part=>(r1.drop i=ls)∧kL (ie e r n) out y e3 ls i part=some R) (Of:=fun _ i part=>[ee br 67 l1 c1 out,ee bM 3 l2 c2 y,bx jq 67 b1 (kd part (aC l6 c6 part.Nodes.length)),ee aY 130 l6 c6 part.Nodes]) (Gf:=fun _ i part=>[(1,bj br e),(3,dX r.1),(5,nb l1 c1 out),(6,nb l2 c2 y),(9,bD e3),(10,tV (aF b1 0)),(68,fD r1),(69,bD (i:Int))]) (fun i part h=>?_) (fun e4 tl ih1 i part h=>?_) r1 0 ({(⟨r1⟩:bw)with Nodes:=r1}:bw) ⟨J,h⟩) (bl J)
     ·obtain⟨hx,h⟩:=h
      refine aA<|ay<|zo J (ej J J)<|aw<|af<|bu (ht J) (c8 hx)<|bk ?_;refine ac (ac (aM ?_));refine av<|am<|aH rfl<|cS<|ms<|zo rfl (mN (q:=br) (y:=part) fa J J J J (.tail _ (.tail _ (.tail _ (.head _)))) (fun _ _ _ ho h=>wr (qK ho (.head _)) h) (ht J))<|zo J (aR (r:=br) (ys:=[part]) (xs:=[.tmp 104]) nc fa J J J J J ⟨(ht J),aT⟩)<|bN<|bI h fun out2 q_out2 h=>cT fa J J J J nc J J (ht J) (ht J) q_out2 fun l7 c7=>bC J<|aQ<|an<|bU<|aU<|au<|aU ?_;exact cd (K out2 l7 c7 y l2 c2 h) (bl J)
     ·obtain⟨hx,h⟩:=h
      refine aA<|ay<|zo J (ej J J)<|aw<|af<|bt (ht J) (cY hx)<|dJ<|af<|ax<|ay<|aH J<|bC J<|aw<|ay<|zo J (dY 0 dW J J J)<|zo J (jw jG uy (.tail _ (.tail _ (.head _))) J (ht J))<|aH J<|bI h fun e5 q_e5 h=>?_;refine zo J (ce iT da (.tail _ (.tail _ (.tail _ (.head _)))) (ht J) (ht J) q_e5)<|bC J<|aw ?_;refine fX (Z:=fun part1=>pm e3 (kL (ie e r n) out y e3 tl) i part1=some R) (Of:=fun part1=>[ee br 67 l1 c1 out,ee bM 3 l2 c2 y,bx jq 67 b1 (kd part1 (aC l6 c6 part1.Nodes.length)),ee aY 130 l6 c6 part1.Nodes]) (Gf:=fun part1=>[(1,bj br e),(3,dX r.1),(5,nb l1 c1 out),(6,nb l2 c2 y),(9,bD e3),(10,tV (aF b1 0)),(12,tV (iY l6 ((i:Int).toNat*8+0))),(68,fD r1),(69,bD (i:Int))]) (fun part1 h=>?_) (fun K1=>?_)
      ·skip
       refine ay<|aH J<|bI h fun e6 q_e6 h=>zo J (qM (.tail _ (.tail _ (.tail _ (.head _)))) q_e6 (ht J))<|zo J (dF (o:=(i:Int).toNat*8+0) (n:=(i:Int).toNat*8+2) sO J (.tail _ (.tail _ (.tail _ (.head _)))) q_e6 (ht J) J)<|zo J (d5 (r:=aY) (i:=(i:Int)) (foff:=2) bK J J pg J (.tail _ (.tail _ (.tail _ (.head _)))) q_e6 (ht J))<|zo J (dN (ht J) hI)<|aw<|dn h J (fun h=>?_) (fun h=>?_)
       ·refine am<|aH J<|zo J (qM (.tail _ (.tail _ (.tail _ (.head _)))) q_e6 (ht J))<|zo J (dF (o:=(i:Int).toNat*8+0) (n:=(i:Int).toNat*8+2) sO J (.tail _ (.tail _ (.tail _ (.head _)))) q_e6 (ht J) J)<|zo J (d5 (r:=aY) (i:=(i:Int)) (foff:=2) bK J J pg J (.tail _ (.tail _ (.tail _ (.head _)))) q_e6 (ht J))<|aH J<|zo J (eV (ht J) (ht J))<|zo J (qM (.tail _ (.tail _ (.tail _ (.head _)))) q_e6 (ht J))<|zo J (dF (o:=(i:Int).toNat*8+0) (n:=(i:Int).toNat*8+2) sO J (.tail _ (.tail _ (.tail _ (.head _)))) q_e6 (ht J) J)<|cS<|bI h fun st q_st h=>jA bK J BC J q_e6 (so q_st) (ht J) (ht J)<|s0 (O' :=[ee aY 130 l6 c6 st,ee br 67 l1 c1 out,ee bM 3 l2 c2 y,bx jq 67 b1 (kd part1 (aC l6 c6 st.length))]) (by rw [eD (so q_st)])<|aQ<|an<|av<|am<|zo rfl (jQ (cI hx hN) rfl)<|aH rfl<|aQ<|bh<|bh<|bh ?_;exact be (aS (ih1 (i+1) ({part1 with Nodes:=st}:bw) ⟨cH hx,h⟩) (bl J))
       ·refine bE<|an<|av<|am<|zo rfl (jQ (cI hx hN) rfl)<|aH rfl<|aQ ?_;exact be (aS (ih1 (i+1) part1 ⟨cH hx,h⟩) (bl J))
      ·skip
       refine ay<|aH J<|zo J (qM (.tail _ (.tail _ (.tail _ (.head _)))) q_e5 (ht J))<|zo J (dF (o:=(i:Int).toNat*8+0) (n:=(i:Int).toNat*8+1) sP J (.tail _ (.tail _ (.tail _ (.head _)))) q_e5 (ht J) J)<|zo J (d5 (r:=aY) (i:=(i:Int)) (foff:=1) bK J J ph J (.tail _ (.tail _ (.tail _ (.head _)))) q_e5 (ht J))<|zo J (dN (ht J) hI)<|aw<|dn h J (fun h=>?_) (fun h=>?_)
       ·refine am<|aH J<|zo J (qM (.tail _ (.tail _ (.tail _ (.head _)))) q_e5 (ht J))<|zo J (dF (o:=(i:Int).toNat*8+0) (n:=(i:Int).toNat*8+1) sP J (.tail _ (.tail _ (.tail _ (.head _)))) q_e5 (ht J) J)<|zo J (d5 (r:=aY) (i:=(i:Int)) (foff:=1) bK J J ph J (.tail _ (.tail _ (.tail _ (.head _)))) q_e5 (ht J))<|aH J<|zo J (eV (ht J) (ht J))<|zo J (qM (.tail _ (.tail _ (.tail _ (.head _)))) q_e5 (ht J))<|zo J (dF (o:=(i:Int).toNat*8+0) (n:=(i:Int).toNat*8+1) sP J (.tail _ (.tail _ (.tail _ (.head _)))) q_e5 (ht J) J)<|cS<|bI h fun st1 q_st1 h=>jA bK J BD J q_e5 (so q_st1) (ht J) (ht J)<|dP (eD (so q_st1)) 73 J<|s0 (O' :=[ee aY 130 l6 c6 st1,ee br 67 l1 c1 out,ee bM 3 l2 c2 y,bx jq 67 b1 (kd part (aC l6 c6 st1.length))]) (by rw [eD (so q_st1)])<|aQ<|bh<|bh<|bh ?_;exact cd (K1 ({part with Nodes:=st1}:bw) h) (bl J)
       ·refine bE ?_;exact cd (K1 part h) (bl J)
  ·refine bk ?_;refine ac (ac (aM ?_));refine av<|ay<|aH rfl<|bC rfl<|aw<|aq ?_;cases so h;exact eS J J
theorem Hi(e:bw)(left:Int){R:Int×Int×Bool}(h:xR e left=some R):bn ba 145 [tD br e,bD left] (tT [bD R.1,bD R.2.1,eH R.2.2]):=by
 refine bn.of Tryz.func145 J J J fun w0 S0=>ay<|zo J (gY J)<|zo J (d9)<|zo J (d9)<|zo J (eZ)<|aw<|af<|ay<|zo J (bz fa J J)<|bI h fun r q_r h=>zo J (aK CY (vl _ q_r) ⟨(ht J),aT⟩)<|zo J (yr J)<|aH J<|cZ J J (fun hg=>cr dW cC J J)<|cZ J J (fun hg=>bp jG J J (bq J hg))<|cZ J J (fun hg=>ca iT (bq J hg))<|cZ J J (fun hg=>dq (bq J hg) hI)<|zo J (oB J J)<|aH J<|bI h fun t q_t h=>?_;refine cZ J J (fun hg=>cr dW cC J J)<|cZ J J (fun hg=>bp jG J J (bq J hg)) ?_
 obtain⟨e1,h1t,h0t⟩:=og q_t
 have q_e1g:=fun hb=>(h1t hb).1
 refine cZ J J (fun hg=>aO iT da J (bq J hg) hI (q_e1g hg))<|cZ J J (fun hg=>hJ gE J dV J (bq J hg))<|cZ J J (fun hg=>bp bK J J (bq J hg))<|cZ J J (fun hg=>dq (bq J hg) hI)<|zo J (ez (ht J) (fun hb=>(bq J (pG hb))) (fun hb=>(h1t hb).2) h0t)<|aw<|dn h J (fun h=>?_) (fun h=>?_)
 ·refine ay<|zo J (d9)<|zo J (d9)<|zo J (eZ)<|aw<|aq<|M ?_;cases so h;exact vm J J J J
 ·refine dJ<|af<|bI h fun e2 q_e2 h=>bI h fun e3 q_e3 h=>?_
  refine wF 11 [tc (bj Dk e.Nodes),tc (dH (aY) e.Nodes),tc (bj aY e2),tc (tD aY e2),tc (bj Dk e.Nodes),tc (dH (aY) e.Nodes),tc (bj aY e3),tc (tD aY e3),([8],fun s=>tV (aF ((s.getD 0 kp).h 0).2 0)),([9],fun s=>tV (aF ((s.getD 0 kp).h 0).2 0)),tc (sj)] [false,false,false,false,false,false,false,false,true,true,true] [([],fun _=>[]),([8],fun sg=>[bx aY 130 ((sg 8).h 0).2 zK]),([9],fun sg=>[bx aY 130 ((sg 9).h 0).2 zK]),([8,9],fun sg=>[bx aY 130 ((sg 9).h 0).2 zK,bx aY 130 ((sg 8).h 0).2 zK]),([8,9,10],fun sg=>[bx aY 130 ((sg 8).h 0).2 e2,bx aY 130 ((sg 9).h 0).2 zK])] (fun _=>J) mixed J J J J
   ⟨⟨[⟨2,fun _=>bj br e,none⟩],_,[[],[8],[9],[8,9]],J,⟨(fun _=>J),aT⟩,J,J,J,J,J,⟨fun sg=>ae J (cr dW cC J J),fun sg=>ae J (cr dW cC J J),fun sg=>ae J (cr dW cC J J),fun sg=>ae J (cr dW cC J J),aT⟩⟩,
   ⟨⟨[⟨28,fun _=>bj Dk e.Nodes,some 0⟩],_,[[],[8],[9],[8,9]],J,⟨(fun _=>J),aT⟩,J,J,J,J,J,⟨fun sg=>ae J (bz jG J J),fun sg=>ae J (bz jG J J),fun sg=>ae J (bz jG J J),fun sg=>ae J (bz jG J J),aT⟩⟩,
   ⟨⟨[⟨29,fun _=>tD Dk e.Nodes,some 1⟩],_,[[],[8],[9],[8,9]],J,⟨(fun _=>J),aT⟩,J,J,J,J,J,⟨fun sg=>ae J (aO iT da J (ht J) hI q_e2),fun sg=>ae J (aO iT da J (ht J) hI q_e2),fun sg=>ae J (aO iT da J (ht J) hI q_e2),fun sg=>ae J (aO iT da J (ht J) hI q_e2),aT⟩⟩,
   ⟨⟨[⟨30,fun _=>bj aY e2,some 2⟩],_,[[],[8],[9],[8,9]],J,⟨(fun _=>J),aT⟩,J,J,J,J,J,⟨fun sg=>ae J (bz da J J),fun sg=>ae J (bz da J J),fun sg=>ae J (bz da J J),fun sg=>ae J (bz da J J),aT⟩⟩,
   ⟨⟨[⟨2,fun _=>bj br e,none⟩],_,[[],[8],[9],[8,9],[8,9,10]],J,⟨(fun _=>J),aT⟩,J,J,J,J,J,⟨fun sg=>ae J (cr dW cC J J),fun sg=>ae J (cr dW cC J J),fun sg=>ae J (cr dW cC J J),fun sg=>ae J (cr dW cC J J),fun sg=>ae J (cr dW cC J J),aT⟩⟩,
   ⟨⟨[⟨32,fun _=>bj Dk e.Nodes,some 4⟩],_,[[],[8],[9],[8,9],[8,9,10]],J,⟨(fun _=>J),aT⟩,J,J,J,J,J,⟨fun sg=>ae J (bz jG J J),fun sg=>ae J (bz jG J J),fun sg=>ae J (bz jG J J),fun sg=>ae J (bz jG J J),fun sg=>ae J (bz jG J J),aT⟩⟩,
   ⟨⟨[⟨33,fun _=>tD Dk e.Nodes,some 5⟩],_,[[],[8],[9],[8,9],[8,9,10]],J,⟨(fun _=>J),aT⟩,J,J,J,J,J,⟨fun sg=>ae J (aO iT da J (ht J) hI q_e3),fun sg=>ae J (aO iT da J (ht J) hI q_e3),fun sg=>ae J (aO iT da J (ht J) hI q_e3),fun sg=>ae J (aO iT da J (ht J) hI q_e3),fun sg=>ae J (aO iT da J (ht J) hI q_e3),aT⟩⟩,
   ⟨⟨[⟨34,fun _=>bj aY e3,some 6⟩],_,[[],[8],[9],[8,9],[8,9,10]],J,⟨(fun _=>J),aT⟩,J,J,J,J,J,⟨fun sg=>ae J (bz da J J),fun sg=>ae J (bz da J J),fun sg=>ae J (bz da J J),fun sg=>ae J (bz da J J),fun sg=>ae J (bz da J J),aT⟩⟩,
   ⟨⟨[],_,[([],[8]),([9],[8,9])],J,aT,J,J,J,J,J,⟨fun sg=>bS J (ei (r:=aY) (x:=zK) da (fun _=>kw _)),fun sg=>bS J (EffOK.post_imp (post:=fun x__=>(fun(sg:Nat→OI)=>[bx aY 130 ((sg 8).h 0).2 zK,bx aY 130 ((sg 9).h 0).2 zK]) (zR sg 8 x__)) (ei (r:=aY) (x:=zK) da (fun _=>kw _)) (fun h=>ck.pick [1,0] J h)),aT⟩⟩,
   ⟨⟨[],_,[([],[9]),([8],[8,9])],J,aT,J,J,J,J,J,⟨fun sg=>bS J (ei (r:=aY) (x:=zK) da (fun _=>kw _)),fun sg=>bS J (ei (r:=aY) (x:=zK) da (fun _=>kw _)),aT⟩⟩,
   ⟨⟨[⟨7,fun sg=>tV (aF ((sg 8).h 0).2 0),some 8⟩,⟨31,fun _=>tD aY e2,some 3⟩],_,[([8,9],[8,9,10])],J,⟨(fun _=>J),(fun _=>J),aT⟩,J,J,J,J,J,⟨fun sg=>bS J (EffOK.fr1 (ig da J (oK aj) J (ht J) (ht J))),aT⟩⟩,
   aT⟩⟩⟩⟩⟩⟩⟩⟩⟩⟩⟩ (fun sg=>?_)
  refine(show RG _ _ _ _ [bx aY 130 ((sg 8).h 0).2 e2,bx aY 130 ((sg 9).h 0).2 zK] _ from ?_);refine bc 7 J<|ap da J aj J (ht J) (ht J)<|bc 8 J<|aw<|af<|ay<|zo J (cr gE dV J J)<|zo J (bz bK J J)<|zo J (yr J)<|aH J<|cZ J J (fun hg=>cr gE dV J J)<|cZ J J (fun hg=>bp bK J J (bq J hg))<|cZ J J (fun hg=>dq (bq J hg) hI)<|zo J (oB J J)<|aw<|dn h J (fun h=>?_) (fun h=>?_)
  ·refine ay<|zo J (d9)<|zo J (d9)<|zo J (eZ)<|aw<|aq<|M ?_;cases so h;exact vm J J J J
  ·refine dJ<|af ?_
   refine eR (ts:=[_,_,_,_,_,_,_,_,_,_,_,_]) mixed J J
    ⟨ek 7 J J J (cr kJ fJ J J),
    ⟨c9 44 0 J J J (bz bK J J),
    ⟨ek 8 J J J (cr kJ fJ J J),
    ⟨c9 46 2 J J J (bz bK J J),
    ⟨eo 45 1 47 3 J J J J (CF (ht J) (ht J)),
    ⟨ek 7 J J J (cr kJ fJ J J),
    ⟨c9 49 5 J J J (bz bK J J),
    ⟨ek 8 J J J (cr kJ fJ J J),
    ⟨c9 51 7 J J J (bz bK J J),
    ⟨eo 50 6 52 8 J J J J (ve (ht J) (ht J)),
    ⟨c9 48 4 J J J (vB J),
    ⟨c9 53 9 J J J (vB J),
    aT⟩⟩⟩⟩⟩⟩⟩⟩⟩⟩⟩⟩ ?_
   refine av<|af<|ay<|aH rfl<|aH rfl<|zo rfl (dN (ht rfl) (ht rfl))<|aH rfl<|cZ rfl rfl (fun hg=>cL J)<|cZ J J (fun hg=>cL J)<|cZ J J (fun hg=>eW (bq J hg) (bq J hg))<|zo J (oB J J)<|aw<|dn h J (fun h=>?_) (fun h=>?_)
   ·refine ay<|zo J (d9)<|zo J (d9)<|zo J (eZ)<|aw<|aq<|M ?_;cases so h;exact vm J J J J
   ·refine dJ<|ay<|aH J<|aH J<|aH J<|zo J (eV (ht J) (ht J))<|bC J<|bC J<|zo J (eZ)<|aw<|aq ?_;cases so h;exact vm J J J J

theorem Hm(cond:bw)(left:Int){R:(List Int)×(List Int)}(h:vX cond left=some R):bn ba 109 [tD br cond,bD left] (tT [dX R.1,dX R.2]):=by
 refine bn.of Tryz.func109 J J J fun w0 S0=>ay<|zo J (gY J)<|zo J (aP (show aG _ _ _ lQ from ib))<|zo J (aP (show aG _ _ _ lQ from ib))<|aw<|ay<|bQ false bM 3<|zo J (aP pI)<|bQ false bM 3<|zo J (aP pI)<|aw<|af<|ay<|zo J (bz fa J J)<|bI h fun r q_r h=>iu LD (Fy _ q_r) ⟨(ht J),aT⟩ J fun l c=>zo J (eF nc (.head _) (ht J))<|zo J (bA hI) ?_;refine aw<|ax<|il (.head _) fun hN=>bF<|eA<|jC ?_;refine aS (wC (Z:=fun ls i a1 l1 c1 b l2 c2=>(r.drop i=ls)∧iA left ls a1 b=some R) (Of:=fun _ i a1 l1 c1 b l2 c2=>[ee bM 3 l1 c1 a1,ee bM 3 l2 c2 b,ee br 67 l c r]) (Gf:=fun _ i a1 l1 c1 b l2 c2=>[(1,bD left),(6,nb l1 c1 a1),(7,nb l2 c2 b),(14,nb l c r),(15,fD r),(16,bD (i:Int))]) (fun i a1 l1 c1 b l2 c2 h=>?_) (fun e tl ih i a1 l1 c1 b l2 c2 h=>?_) r 0 my none 0 my none 0 ⟨J,h⟩) (bl J)
 ·obtain⟨hx,h⟩:=h
  refine aA<|ay<|zo J (ej J J)<|aw<|af<|bu (ht J) (c8 hx)<|bk ?_;refine ac (ac (aM ?_));refine av<|ay<|aH rfl<|aH rfl<|bC rfl<|bC rfl<|aw<|aq<|fY<|cB 6 rfl<|cB 44 rfl<|cB 4 rfl<|gS 4 rfl<|bU<|fY<|cB 7 rfl<|cB 45 rfl<|cB 5 rfl<|gS 5 rfl<|aU<|aU<|aU ?_;cases so h;exact cv J J J
 ·obtain⟨hx,h⟩:=h
  refine aA<|ay<|zo J (ej J J)<|aw<|af<|bt (ht J) (cY hx)<|dJ<|af ?_;refine ye (Z:=fun a2 l3 c3 b1 l4 c4=>lx (iA left tl) a2 b1=some R) (Of:=fun a2 l3 c3 b1 l4 c4=>[ee bM 3 l3 c3 a2,ee bM 3 l4 c4 b1,ee br 67 l c r]) (Gf:=fun a2 l3 c3 b1 l4 c4=>[(1,bD left),(6,nb l3 c3 a2),(7,nb l4 c4 b1),(14,nb l c r),(15,fD r),(16,bD (i:Int))]) (fun a2 l3 c3 b1 l4 c4 h=>?_) (fun K=>?_)
  ·skip
   refine av<|am<|zo rfl (jQ (cI hx hN) rfl)<|aH rfl<|aQ ?_;exact be (aS (ih (i+1) a2 l3 c3 b1 l4 c4 ⟨cH hx,h⟩) (bl J))
  ·skip
   refine ay<|zo J (ce nc fa (.tail _ (.tail _ (.head _))) (ht J) (ht J) (c0 hx))<|zo J (d5 (r:=br) (i:=(i:Int)) (foff:=0) fa J J bm J (.tail _ (.tail _ (.head _))) (c0 hx) (ht J))<|bg (r:=br) (x:=mz) fa (fun _=>mh _) J fun b2=>ap fa J aj J (ht J) (ht J)<|bc 9 J<|aw<|ay<|zo J (bz fa J J)<|aH J<|bI h fun r1 q_r1 h=>zo J (aK LC (Hi _ _ q_r1) ⟨(ht J),(ht J),aT⟩)<|aH J<|zo J (iU J J)<|zo J (iU J J)<|zo J (iU J J)<|bC J<|bC J<|bC J<|aw ?_;refine af<|ay<|aH J<|zo J (d8 (ht J))<|aw<|dn h J (fun h=>?_) (fun h=>?_)
   ·refine af<|ay<|zo J (bz fa J J)<|bI h fun r2 q_r2 h=>zo J (aK LE (Hj _ q_r2) ⟨(ht J),aT⟩)<|zo J (d8 (ht J))<|aw<|dn h J (fun h=>?_) (fun h=>?_)
    ·refine ay<|zo J (aP (show aG _ _ _ lQ from ib))<|zo J (aP (show aG _ _ _ lQ from ib))<|aw<|aq ?_;refine M (M (aD (M (M (aD (M ?_))))));refine aU<|aU<|aU ?_;cases so h;exact cv J J J
    ·refine dJ<|bk ?_;refine ac (aM ?_);exact cd (K a1 l1 c1 b l2 c2 h) (bl J)
   ·refine dJ<|ay<|aH J<|zo J (eF dm (.head _) (ht J))<|zo J (eW (ht J) hI)<|aw<|dn h J (fun h=>?_) (fun h=>?_)
    ·refine am<|aH J<|aH J<|zo J (aR (r:=bM) (ys:=[r1.1]) (xs:=[.tmp 36]) dm bK J J J J J ⟨(ht J),aT⟩)<|bI h fun a3 q_a3 h=>cT bK J J J J dm J J (ht J) (ht J) q_a3 fun l5 c5=>aH J<|aH J<|zo J (aR (r:=bM) (ys:=[r1.2.1]) (xs:=[.tmp 40]) dm bK J J J J J ⟨(ht J),aT⟩)<|bN<|bI h fun b3 q_b3 h=>cT bK J J J J dm J J (ht J) (ht J) q_b3 fun l6 c6=>bC J<|bC J<|aQ<|an<|au<|bU<|au ?_;exact cd (K a3 l5 c5 b3 l6 c6 h) (bl J)
    ·refine bE<|an ?_;exact cd (K a1 l1 c1 b l2 c2 h) (bl J)

end Go.Proofs.YtnmjbolollcokaaGreatDoor

