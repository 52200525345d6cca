/- cJ of this claim: P6. -/
import Derived.Test.YtnmjbolollcokaaGreatDoorRbT
import Derived.Test.YtnmjbolollcokaaGreatDoorRbP5
set_option linter.all false
namespace Go.Proofs.YtnmjbolollcokaaGreatDoor
open Go
set_option maxRecDepth 100000

theorem Jd(l:cF)(place:Int){R:cF×Int}(h:wd l place=some R):bn ba 34 [tD cq l,bD place] (tT [tD cq R.1,bD R.2]):=by
 refine bn.of Tryz.func34 J J J fun w0 S0=>ay<|zo J (gY J)<|bg (r:=cq) (x:=zL) lD (fun _=>lB _) J fun b=>zo J (d9)<|aw<|ay<|zo J (bz lD J J)<|bI h fun r q_r h=>zo J (aK JG (B6 _ q_r) ⟨(ht J),aT⟩)<|aH J<|zo J (iU J J)<|zo J (iU J J)<|zo J (iU J J)<|bC J<|bC J<|bC J<|aw<|af<|ax ?_;refine ay<|aH J<|zo J (d8 (ht J))<|bC J<|aw<|dn h J (fun h=>?_) (fun h=>?_)
 ·refine ay<|zo J (cy (y:=zL) lD IQ lB (J))<|ap lD J aj J (ht J) (ht J)<|zo J (d9)<|aw<|aq ?_;refine aD (M ?_);refine bR 4 J ?_;cases so h;exact jE J J ⟨d4 lD J J J,cG J,aT⟩
 ·refine ay<|aH J<|zo J (eW (ht J) hI)<|aH J<|cZ J J (fun hg=>cL J)<|cZ J J (fun hg=>cr l8 gv J J)<|cZ J J (fun hg=>bp k5 J J (bq J hg))<|cZ J J (fun hg=>ca iq (bq J hg))<|cZ J J (fun hg=>dN (bq J hg) (bq J hg))<|zo J (oB J J)<|bC J<|aw<|dn h J (fun h=>?_) (fun h=>?_)
  ·refine ay<|zo J (cy (y:=zL) lD IQ lB (J))<|ap lD J aj J (ht J) (ht J)<|zo J (d9)<|aw<|aq ?_;refine aD (M ?_);refine bR 4 J ?_;cases so h;exact jE J J ⟨d4 lD J J J,cG J,aT⟩
  ·refine bE<|an<|av<|ay<|bQ true ak 72<|bg (r:=jZ) (x:=lg zL (aC none 0 (Bl.length))) lD Bi J fun b1=>aw<|af<|ay<|aH J<|zo J (yT (ht J))<|zo J (cr nD sL J J)<|zo J (bz cu J J)<|aH J<|bI h fun e q_e h=>zo J (km dm bK J J J q_e)<|zo J (bz bK J J)<|bC J<|aw<|ax ?_;refine bF<|eA<|eA<|jC ?_;refine aS (zA (Z:=fun n i out l1 c=>nW l place e n i out=some R) (Of:=fun i out l1 c=>[bx cq 24 b zL,bx jZ 24 b1 (lg out (aC l1 c out.Nodes.length)),bV ak 72 l1 c out.Nodes]) (Gf:=fun i out l1 c=>[(1,bD place),(2,bj cq l),(4,tV (aF b 0)),(6,bj aZ r.1),(9,tV (aF b1 0)),(10,bD i)]) (fun i out l1 c h=>nn h) (fun n ih i out l1 c h=>?_) ni e ({zL with Nodes:=Bl}:cF) none 0 h) (bl J);refine aA<|af<|ay<|aH J<|aH J<|zo J (je (ht J) (ht J))<|aw<|dn h J (fun h=>?_) (fun h=>?_)
   ·refine dJ<|af<|ax<|bI h fun e1 q_e1 h=>bI h fun r1 q_r1 h=>?_
    refine iw 17 (ts:=[tV (aF b1 0),tO ak l1 c out.Nodes,bj wN l.Nodes,dH (ak) l.Nodes,bD i,bj ak e1,tD ak e1,bj aZ r.1,bj aZ r.1,bj dG r.1.first,dX r.1.first,bD place,bj bM e,bD e,bD (IntKind.i64.wrap (0-e)),tD ak r1,dH (ak) ([r1])]) mixed J J J
     ⟨ek 9 J J J (dY 0 l8 J J J),
     ⟨c9 44 0 J J J (lc k5 y8 (.tail _ (.head _)) (.tail _ (.tail _ (.head _))) J (ht J)),
     ⟨ek 2 J J J (cr l8 gv J J),
     ⟨c9 46 2 J J J (bz k5 J J),
     ⟨ek 10 J J J (cL J),
     ⟨eo 47 3 48 4 J J J J (km iq cE J J J q_e1),
     ⟨c9 49 5 J J J (bz cE J J),
     ⟨ek 6 J J J (cL J),
     ⟨c9 51 7 J J J (yT (ht J)),
     ⟨c9 52 8 J J J (cr nD sL J J),
     ⟨c9 53 9 J J J (bz cu J J),
     ⟨ek 1 J J J (cL J),
     ⟨eo 54 10 55 11 J J J J (km dm bK J J J q_e),
     ⟨c9 56 12 J J J (bz bK J J),
     ⟨c9 57 13 J J J (IF (ht J)),
     ⟨eo 50 6 58 14 J J J J (aK MF (I2 _ _ q_r1) ⟨(ht J),(ht J),aT⟩),
     ⟨c9 59 15 J J J (aR (r:=ak) (ys:=[r1]) (xs:=[.tmp 59]) iq cE J J J J J ⟨(ht J),aT⟩),
     aT⟩⟩⟩⟩⟩⟩⟩⟩⟩⟩⟩⟩⟩⟩⟩⟩⟩ ?_
    refine dr<|bI h fun l2 q_l2 h=>m5 cE J J J J iq J J (ht J) (ht J) q_l2 fun l3 c1=>zo J (dY 0 l8 J J J)<|dr<|ii k5 J (pP _ _ _) J (ht J) (Ga (vF (ht J)))<|aQ<|an<|av<|am<|aH rfl<|zo rfl (jf (ht rfl) hI)<|bC rfl<|aQ<|bU<|bU<|au ?_;exact be (aS (ih (IntKind.i64.wrap (i+(1:Int))) ({out with Nodes:=l2}:cF) l3 c1 h) (bl J))
   ·refine bk ?_;refine ac (ac (aM ?_));refine av<|ay<|dr<|zo rfl (mN (q:=cq) (y:=out) lD J J J J (.tail _ (.tail _ (.head _))) (fun _ _ _ ho h=>u4 (qK ho (.head _)) h) (ht J))<|bN<|ap lD J aj J (ht J) (ht J)<|zo J (d9)<|aw<|aq<|bR 4 J<|aU<|aU ?_;cases so h;exact jE J J ⟨d4 lD J J J,cG J,aT⟩

theorem uA(b:Nat)(ix:OI)(p:aE)(s:bb)(way:Int)(cols:(List Int)){R:bb×aE}(h:dw p s way cols=some R):cz ba 65 [tV (aF b 0),tD ah s,bD way,dX cols] (d2 b p ix) (fun _:OI=>tD ah R.1) (fun j=>d2 b R.2 j):=by
 refine cz.of Tryz.func65 J J J fun w0 S0=>?_;refine(show CG _ _ _ [bx (rH aJ [(0,aC (ix.h 0).1 (ix.h 0).2 p.Plan.Frags.length),(3,aC (ix.h 1).1 (ix.h 1).2 p.kinds.length)]) 91 b p,bV aN 74 (ix.h 0).1 (ix.h 0).2 p.Plan.Frags,bV dG 42 (ix.h 1).1 (ix.h 1).2 p.kinds] _ from ?_);refine ay<|zo J (gY J)<|bg (r:=ah) (x:=eY) bo (fun _=>dv _) J fun b1=>aw<|af<|bI h fun r q_r h=>bI h fun l q_l h=>?_
 refine fg 16 [tc (tV (aF b 0)),tc (tV (aF b 0)),tc (tV (aF b 0)),tc (tV (aF b 0)),tc (tV (aF b 0)),tc (tO aN (ix.h 0).1 (ix.h 0).2 p.Plan.Frags),tc (bj wN s.nodes),tc (dH (ak) s.nodes),tc (bj bM s.at_),tc (bD s.at_),tc (bD way),tc (dX cols),tc (dX r),tc (tD aN (⟨s.nodes,s.at_,way,r⟩:cA)),tc (dH (aN) ([(⟨s.nodes,s.at_,way,r⟩:cA)])),([15],fun s=>tO aN ((s.getD 0 kp).h 0).1 ((s.getD 0 kp).h 0).2 l)] [false,false,false,false,false,false,false,false,false,false,false,false,false,false,false,true] [fun _=>[bx ah 95 b1 eY,bx (rH aJ [(0,aC (ix.h 0).1 (ix.h 0).2 p.Plan.Frags.length),(3,aC (ix.h 1).1 (ix.h 1).2 p.kinds.length)]) 91 b p,bV aN 74 (ix.h 0).1 (ix.h 0).2 p.Plan.Frags,bV dG 42 (ix.h 1).1 (ix.h 1).2 p.kinds],fun sg=>[bV aN 74 ((sg 15).h 0).1 ((sg 15).h 0).2 l,bx ah 95 b1 eY,bx (rH aJ [(0,aC (ix.h 0).1 (ix.h 0).2 p.Plan.Frags.length),(3,aC (ix.h 1).1 (ix.h 1).2 p.kinds.length)]) 91 b p,bV dG 42 (ix.h 1).1 (ix.h 1).2 p.kinds]] J mixed J J J J J
  ⟨⟨[⟨0,fun _=>tV (aF b 0),none⟩],_,0,1,J,⟨(fun _=>J),aT⟩,J,J,J,J,J,fun _ sg _ _=>ae J (cL J)⟩,
  ⟨⟨[⟨0,fun _=>tV (aF b 0),none⟩],_,0,0,J,⟨(fun _=>J),aT⟩,J,J,J,J,J,fun _ sg _ _=>ae J (cL J)⟩,
  ⟨⟨[⟨12,fun _=>tV (aF b 0),some 1⟩],_,0,0,J,⟨(fun _=>J),aT⟩,J,J,J,J,J,fun _ sg _ _=>ae J (cN (ht J))⟩,
  ⟨⟨[⟨13,fun _=>tV (aF b 0),some 2⟩],_,0,0,J,⟨(fun _=>J),aT⟩,J,J,J,J,J,fun _ sg _ _=>ae J (dY 0 qp J J J)⟩,
  ⟨⟨[⟨14,fun _=>tV (aF b 0),some 3⟩],_,0,0,J,⟨(fun _=>J),aT⟩,J,J,J,J,J,fun _ sg _ _=>ae J (dY 0 gP J J J)⟩,
  ⟨⟨[⟨15,fun _=>tV (aF b 0),some 4⟩],_,0,0,J,⟨(fun _=>J),aT⟩,J,J,J,J,J,qY (fun sg=>ae J (cX nP J (.tail _ (.head _)) (.tail _ (.tail _ (.head _))) (ht J)))⟩,
  ⟨⟨[⟨5,fun _=>bj ah s,none⟩],_,0,0,J,⟨(fun _=>J),aT⟩,J,J,J,J,J,fun _ sg _ _=>ae J (cr nZ tM J J)⟩,
  ⟨⟨[⟨17,fun _=>bj wN s.nodes,some 6⟩],_,0,0,J,⟨(fun _=>J),aT⟩,J,J,J,J,J,fun _ sg _ _=>ae J (bz k5 J J)⟩,
  ⟨⟨[⟨5,fun _=>bj ah s,none⟩],_,0,0,J,⟨(fun _=>J),aT⟩,J,J,J,J,J,fun _ sg _ _=>ae J (cr mV gO J J)⟩,
  ⟨⟨[⟨19,fun _=>bj bM s.at_,some 8⟩],_,0,0,J,⟨(fun _=>J),aT⟩,J,J,J,J,J,fun _ sg _ _=>ae J (bz bK J J)⟩,
  ⟨⟨[⟨2,fun _=>tD bM way,none⟩],_,0,0,J,⟨(fun _=>J),aT⟩,J,J,J,J,J,fun _ sg _ _=>ae J (cL J)⟩,
  ⟨⟨[⟨3,fun _=>tD kx cols,none⟩],_,0,0,J,⟨(fun _=>J),aT⟩,J,J,J,J,J,fun _ sg _ _=>ae J (cL J)⟩,
  ⟨⟨[⟨22,fun _=>tD kx cols,some 11⟩],_,0,0,J,⟨(fun _=>J),aT⟩,J,J,J,J,J,fun _ sg _ _=>ae J (aK AO (zi _ q_r) ⟨(ht J),aT⟩)⟩,
  ⟨⟨[⟨18,fun _=>tD wN s.nodes,some 7⟩,⟨20,fun _=>tD bM s.at_,some 9⟩,⟨21,fun _=>tD bM way,some 10⟩,⟨23,fun _=>tD kx r,some 12⟩],_,0,0,J,⟨(fun _=>J),(fun _=>J),(fun _=>J),(fun _=>J),aT⟩,J,J,J,J,J,fun _ sg _ _=>ae J (cy (y:=(⟨s.nodes,s.at_,way,r⟩:cA)) lR Km sh (⟨_,_,_,_,_,J,xv,J,(ht J),⟨_,_,_,_,_,J,xu,J,(ht J),⟨_,_,_,_,_,J,xr,J,(ht J),⟨_,_,_,_,_,J,DA,J,(ht J),J⟩⟩⟩⟩))⟩,
  ⟨⟨[⟨24,fun _=>tD aN (⟨s.nodes,s.at_,way,r⟩:cA),some 13⟩],_,0,0,J,⟨(fun _=>J),aT⟩,J,J,J,J,J,fun _ sg _ _=>ae J (aR (r:=aN) (ys:=[(⟨s.nodes,s.at_,way,r⟩:cA)]) (xs:=[.tmp 24]) lP lR J J J J J ⟨(ht J),aT⟩)⟩,
  ⟨⟨[⟨16,fun _=>tO aN (ix.h 0).1 (ix.h 0).2 p.Plan.Frags,some 5⟩,⟨25,fun _=>tD (dz aN) ([(⟨s.nodes,s.at_,way,r⟩:cA)]),some 14⟩],_,J,⟨(fun _=>J),(fun _=>J),aT⟩,J,J,J,fun sg=>bS J (EffOK.fr2 (nH lR J J J J lP J (ht J) (ht J) q_l))⟩,
  aT⟩⟩⟩⟩⟩⟩⟩⟩⟩⟩⟩⟩⟩⟩⟩⟩ (fun sg=>?_)
 refine(show RG _ _ _ _ [bV aN 74 ((sg 15).h 0).1 ((sg 15).h 0).2 l,bx ah 95 b1 eY,bx (rH aJ [(0,aC (ix.h 0).1 (ix.h 0).2 p.Plan.Frags.length),(3,aC (ix.h 1).1 (ix.h 1).2 p.kinds.length)]) 91 b p,bV dG 42 (ix.h 1).1 (ix.h 1).2 p.kinds] _ from ?_);refine zo J (cN (ht J))<|zo J (dY 0 qp J J J)<|zo J (dY 0 gP J J J)<|lz (EffOK.fr2 (mY (hs' :=[(0,aC ((sg 15).h 0).1 ((sg 15).h 0).2 l.length),(3,aC (ix.h 1).1 (ix.h 1).2 p.kinds.length)]) (u:=aC ((sg 15).h 0).1 ((sg 15).h 0).2 l.length) nP J J (qE pc sm xq) J ⟨.inl ⟨J,J,J⟩,.inr ⟨J,J⟩,aT⟩ (ht J) (iW (ht J)) (vF (ht J)))) fun i=>?_;refine(show RG _ _ _ _ [bx (rH aJ [(0,aC ((sg 15).h 0).1 ((sg 15).h 0).2 l.length),(3,aC (ix.h 1).1 (ix.h 1).2 p.kinds.length)]) 91 b ({p with Plan:=({p.Plan with Frags:=l}:bW)}:aE),bV aN 74 ((sg 15).h 0).1 ((sg 15).h 0).2 l,bx ah 95 b1 eY,bV dG 42 (ix.h 1).1 (ix.h 1).2 p.kinds] _ from ?_);refine aw<|af<|bI h fun r1 q_r1 h=>?_
 refine fg 12 [tc (tV (aF b 0)),tc (tV (aF b 0)),tc (tV (aF b 0)),tc (tV (aF b 0)),tc (tO aN ((sg 15).h 0).1 ((sg 15).h 0).2 l),tc (fD l),tc (bD (IntKind.i64.wrap ((l.length:Int)-(1:Int)))),tc (bj dG s.kinds),tc (dX s.kinds),tc (dX r1),tc (tD ak (⟨(9:Int),mw,mw,(IntKind.i64.wrap ((l.length:Int)-(1:Int))),r1,false,mz,[],[],[],[],(0:Int)⟩:ai)),([11],fun s=>tV (aF ((s.getD 0 kp).h 0).2 0))] [false,false,false,false,false,false,false,false,false,false,false,true] [fun _=>[bx (rH aJ [(0,aC ((sg 15).h 0).1 ((sg 15).h 0).2 l.length),(3,aC (ix.h 1).1 (ix.h 1).2 p.kinds.length)]) 91 b ({p with Plan:=({p.Plan with Frags:=l}:bW)}:aE),bV aN 74 ((sg 15).h 0).1 ((sg 15).h 0).2 l,bx ah 95 b1 eY,bV dG 42 (ix.h 1).1 (ix.h 1).2 p.kinds],fun sg1=>[bx ak 72 ((sg1 11).h 0).2 vz,bx (rH aJ [(0,aC ((sg 15).h 0).1 ((sg 15).h 0).2 l.length),(3,aC (ix.h 1).1 (ix.h 1).2 p.kinds.length)]) 91 b ({p with Plan:=({p.Plan with Frags:=l}:bW)}:aE),bV aN 74 ((sg 15).h 0).1 ((sg 15).h 0).2 l,bx ah 95 b1 eY,bV dG 42 (ix.h 1).1 (ix.h 1).2 p.kinds]] J mixed J J J J J
  ⟨⟨[⟨0,fun _=>tV (aF b 0),none⟩],_,0,1,J,⟨(fun _=>J),aT⟩,J,J,J,J,J,fun _ sg1 _ _=>ae J (cL J)⟩,
  ⟨⟨[⟨30,fun _=>tV (aF b 0),some 0⟩],_,0,1,J,⟨(fun _=>J),aT⟩,J,J,J,J,J,fun _ sg1 _ _=>ae J (cN (ht J))⟩,
  ⟨⟨[⟨31,fun _=>tV (aF b 0),some 1⟩],_,0,1,J,⟨(fun _=>J),aT⟩,J,J,J,J,J,fun _ sg1 _ _=>ae J (dY 0 qp J J J)⟩,
  ⟨⟨[⟨32,fun _=>tV (aF b 0),some 2⟩],_,0,1,J,⟨(fun _=>J),aT⟩,J,J,J,J,J,fun _ sg1 _ _=>ae J (dY 0 gP J J J)⟩,
  ⟨⟨[⟨33,fun _=>tV (aF b 0),some 3⟩],_,0,1,J,⟨(fun _=>J),aT⟩,J,J,J,J,J,vC (fun sg1=>ae J (cX nP J (.head _) (.tail _ (.head _)) (ht J))) (qY (fun sg1=>ae J (cX nP J (.tail _ (.head _)) (.tail _ (.tail _ (.head _))) (ht J))))⟩,
  ⟨⟨[⟨34,fun _=>tO aN ((sg 15).h 0).1 ((sg 15).h 0).2 l,some 4⟩],_,0,1,J,⟨(fun _=>J),aT⟩,J,J,J,J,J,fun _ sg1 _ _=>ae J (ca lP (iW (ht J)))⟩,
  ⟨⟨[⟨35,fun _=>tD bM (l.length:Int),some 5⟩],_,0,1,J,⟨(fun _=>J),aT⟩,J,J,J,J,J,fun _ sg1 _ _=>ae J (eV (ht J) hI)⟩,
  ⟨⟨[⟨5,fun _=>bj ah s,none⟩],_,0,1,J,⟨(fun _=>J),aT⟩,J,J,J,J,J,fun _ sg1 _ _=>ae J (cr BY tL J J)⟩,
  ⟨⟨[⟨37,fun _=>bj kx s.kinds,some 7⟩],_,0,1,J,⟨(fun _=>J),aT⟩,J,J,J,J,J,fun _ sg1 _ _=>ae J (bz cu J J)⟩,
  ⟨⟨[⟨38,fun _=>tD kx s.kinds,some 8⟩],_,0,1,J,⟨(fun _=>J),aT⟩,J,J,J,J,J,fun _ sg1 _ _=>ae J (aK AO (zi _ q_r1) ⟨(ht J),aT⟩)⟩,
  ⟨⟨[⟨36,fun _=>tD bM (IntKind.i64.wrap ((l.length:Int)-(1:Int))),some 6⟩,⟨39,fun _=>tD kx r1,some 9⟩],_,0,1,J,⟨(fun _=>J),(fun _=>J),aT⟩,J,J,J,J,J,fun _ sg1 _ _=>ae J (cy (y:=(⟨(9:Int),mw,mw,(IntKind.i64.wrap ((l.length:Int)-(1:Int))),r1,false,mz,[],[],[],[],(0:Int)⟩:ai)) cE GC gG (⟨_,_,_,_,_,J,oM,J,hI,⟨_,_,_,_,_,J,k7,J,hI,⟨_,_,_,_,_,J,jY,J,hI,⟨_,_,_,_,_,J,rF,J,(ht J),⟨_,_,_,_,_,J,oL,J,(ht J),J⟩⟩⟩⟩⟩))⟩,
  ⟨⟨[],_,J,aT,J,J,J,fun sg1=>bS J (ei (r:=ak) (x:=vz) cE (fun _=>gG _))⟩,
  aT⟩⟩⟩⟩⟩⟩⟩⟩⟩⟩⟩⟩ (fun sg1=>?_)
 refine(show RG _ _ _ _ [bx ak 72 ((sg1 11).h 0).2 vz,bx (rH aJ [(0,aC ((sg 15).h 0).1 ((sg 15).h 0).2 l.length),(3,aC (ix.h 1).1 (ix.h 1).2 p.kinds.length)]) 91 b ({p with Plan:=({p.Plan with Frags:=l}:bW)}:aE),bV aN 74 ((sg 15).h 0).1 ((sg 15).h 0).2 l,bx ah 95 b1 eY,bV dG 42 (ix.h 1).1 (ix.h 1).2 p.kinds] _ from ?_);refine ap cE J aj J (ht J) (ht J)<|bc 9 J<|aw<|ay<|zo J (d9)<|aw ?_;refine fX (Z:=fun at1=>ja p s cols l r1 at1=some R) (Of:=fun at1=>[bx ah 95 b1 eY,bx (rH aJ [(0,aC ((sg 15).h 0).1 ((sg 15).h 0).2 l.length),(3,aC (ix.h 1).1 (ix.h 1).2 p.kinds.length)]) 91 b ({p with Plan:=({p.Plan with Frags:=l}:bW)}:aE),bV aN 74 ((sg 15).h 0).1 ((sg 15).h 0).2 l,bV dG 42 (ix.h 1).1 (ix.h 1).2 p.kinds]) (Gf:=fun at1=>[(3,dX cols),(5,bj ah s),(8,tV (aF b1 0)),(9,bj ak (⟨(9:Int),mw,mw,(IntKind.i64.wrap ((l.length:Int)-(1:Int))),r1,false,mz,[],[],[],[],(0:Int)⟩:ai)),(10,bD at1)]) (fun at1 h=>?_) (fun K=>?_)
 ·skip
  refine ay<|zo J (bz cE J J)<|zo J (aR (r:=ak) (ys:=[(⟨(9:Int),mw,mw,(IntKind.i64.wrap ((l.length:Int)-(1:Int))),r1,false,mz,[],[],[],[],(0:Int)⟩:ai)]) (xs:=[.tmp 43]) iq cE J J J J J ⟨(ht J),aT⟩)<|zo J (cr BY tL J J)<|zo J (bz cu J J)<|aH J<|aH J<|zo J (cy (y:=(⟨[(⟨(9:Int),mw,mw,(IntKind.i64.wrap ((l.length:Int)-(1:Int))),r1,false,mz,[],[],[],[],(0:Int)⟩:ai)],s.kinds,at1,cols⟩:bb)) bo IM dv (⟨_,_,_,_,_,J,xp,J,(ht J),⟨_,_,_,_,_,J,xo,J,(ht J),⟨_,_,_,_,_,J,xn,J,(ht J),⟨_,_,_,_,_,J,qF,J,(ht J),J⟩⟩⟩⟩))<|ap bo J aj J (ht J) (ht J)<|bc 8 J<|aw<|aq<|au<|au<|au ?_;cases so h;exact er J bo J J J (BQ [(((sg 15).h 0).1,((sg 15).h 0).2),((ix.h 1).1,(ix.h 1).2)]) J J
 ·skip
  refine ay<|aH J<|zo J (jR J)<|aw<|dn h J (fun h=>?_) (fun h=>?_)
  ·refine am<|zo J (d9)<|aQ<|bh<|au<|au<|bh ?_;exact cd (K (2:Int) h) (bl J)
  ·refine bE<|bh<|au<|au<|bh ?_;exact cd (K (1:Int) h) (bl J)

theorem xP(b:Nat)(ix:OI)(p:aE)(s:bb){R:bb×aE}(h:ev p s=some R):cz ba 35 [tV (aF b 0),tD ah s] (d2 b p ix) (fun _:OI=>tD ah R.1) (fun j=>d2 b R.2 j):=by
 refine cz.of Tryz.func35 J J J fun w0 S0=>?_;refine(show CG _ _ _ [bx (rH aJ [(0,aC (ix.h 0).1 (ix.h 0).2 p.Plan.Frags.length),(3,aC (ix.h 1).1 (ix.h 1).2 p.kinds.length)]) 91 b p,bV aN 74 (ix.h 0).1 (ix.h 0).2 p.Plan.Frags,bV dG 42 (ix.h 1).1 (ix.h 1).2 p.kinds] _ from ?_);refine ay<|zo J (gY J)<|bg (r:=ah) (x:=eY) bo (fun _=>dv _) J fun b1=>aw<|af<|ay<|zo J (cr mV gO J J)<|zo J (bz bK J J)<|zo J (jR J)<|aw<|dn h J (fun h=>?_) (fun h=>?_)
 ·refine ay<|zo J (bz bo J J)<|ap bo J aj J (ht J) (ht J)<|aw<|aq<|M<|bR 4 J<|au<|au<|au ?_;cases so h;exact er J bo J J J ix J J
 ·refine dJ<|ay<|aH J<|zo J (bz bo J J)<|bI h fun r q_r h=>ij (EffOK.fr3 (EffOK.fr3 (EffOK.fr3 (ed (xs:=[.tmp 9,.tmp 10,.const (.int .i64 (3)),.const (.slice none 0 0)]) (ts:=[tV (aF b 0),tD ah s,bD 3,dX ([])]) (d2 b p ix) _ J AN (uA b ix p _ _ _ q_r) ⟨(ht J),(ht J),hI,ib,aT⟩ (fun _=>J))))) J fun i=>?_;refine(show RG _ _ _ _ [bx (rH aJ [(0,aC (i.h 0).1 (i.h 0).2 r.2.Plan.Frags.length),(3,aC (i.h 1).1 (i.h 1).2 r.2.kinds.length)]) 91 b r.2,bV aN 74 (i.h 0).1 (i.h 0).2 r.2.Plan.Frags,bV dG 42 (i.h 1).1 (i.h 1).2 r.2.kinds,bx ah 95 b1 eY] ((11,tD ah r.1)::_)from ?_);refine cS<|ap bo J aj J (ht J) (ht J)<|aw<|aq<|bR 4 J<|au<|au<|au ?_;cases so h;exact er J bo J J J i J J

theorem Kx(b:Nat)(ix:OI)(p:aE)(n:ai)(kinds:(List Int))(x:(List bb)){R:bb}(h:kD p n kinds x=some R):cz ba 66 [tV (aF b 0),tD ak n,dX kinds,dH (ah) x] (d2 b p ix) (fun _:OI=>tD ah R) (fun _=>(d2 b p ix)):=by
 refine cz.of Tryz.func66 J J J fun w0 S0=>?_;refine(show CG _ _ _ [bx (rH aJ [(0,aC (ix.h 0).1 (ix.h 0).2 p.Plan.Frags.length),(3,aC (ix.h 1).1 (ix.h 1).2 p.kinds.length)]) 91 b p,bV aN 74 (ix.h 0).1 (ix.h 0).2 p.Plan.Frags,bV dG 42 (ix.h 1).1 (ix.h 1).2 p.kinds] _ from ?_);refine ay<|zo J (gY J)<|bg (r:=ah) (x:=eY) bo (fun _=>dv _) J fun b1=>aw<|af<|bI h fun e q_e h=>?_
 refine iw 14 (ts:=[tD ak n,dH (ak) ([n]),dX kinds,tV (aF b 0),tV (aF b 0),tV (aF b 2),tV (aF b 2),dH (cW) p.catalog.Tables,bj bM n.Table,bD n.Table,bj cW e,bj dG e.Keys,dX e.Keys,tD ah (⟨[n],kinds,(1:Int),e.Keys⟩:bb)]) mixed J J J
  ⟨ek 5 J J J (bz cE J J),
  ⟨c9 9 0 J J J (aR (r:=ak) (ys:=[n]) (xs:=[.tmp 9]) iq cE J J J J J ⟨(ht J),aT⟩),
  ⟨ek 2 J J J (cL J),
  ⟨ek 0 J J J (cL J),
  ⟨c9 12 3 J J J (cN (ht J)),
  ⟨c9 13 4 J J J (dY 2 IS J J J),
  ⟨c9 14 5 J J J (dY 2 tP J J J),
  ⟨c9 15 6 J J J (aX (r:=rH aJ [(0,aC (ix.h 0).1 (ix.h 0).2 p.Plan.Frags.length),(3,aC (ix.h 1).1 (ix.h 1).2 p.kinds.length)]) (x:=p) Dr J J (DV (mR za jz)) (.tail _ (.head _)) (ht J)),
  ⟨ek 5 J J J (cr qq j7 J J),
  ⟨c9 17 8 J J J (bz bK J J),
  ⟨eo 16 7 18 9 J J J J (km ym rz J J J q_e),
  ⟨c9 19 10 J J J (cr B0 rQ J J),
  ⟨c9 20 11 J J J (bz cu J J),
  ⟨vA 10 1 11 2 21 12 J J J J J (cy (y:=(⟨[n],kinds,(1:Int),e.Keys⟩:bb)) bo IM dv (⟨_,_,_,_,_,J,xp,J,(ht J),⟨_,_,_,_,_,J,xo,J,(ht J),⟨_,_,_,_,_,J,xn,J,hI,⟨_,_,_,_,_,J,qF,J,(ht J),J⟩⟩⟩⟩)),
  aT⟩⟩⟩⟩⟩⟩⟩⟩⟩⟩⟩⟩⟩⟩ ?_
 refine ap bo J aj J (ht J) (ht J)<|bc 8 J<|aw<|aq<|au<|au<|au ?_;cases so h;exact er J bo J J J kp J J

theorem Fw(s:(List ai)){R:(List ai)}(h:ef s=some R):fx ba 178 [dH (ak) s] false ak 72 R:=by
 refine fx.of Tryz.func178 J J J fun w0 S0=>ay<|bQ false ak 72<|zo J (aP pI)<|aw<|af<|ay<|aH J<|ox iq (ht J) J fun isnil hisnil=>aw<|kT (ht J) (fun hc=>?_) (fun hc=>?_)
 ·have hx:=hisnil hc
  have h:some Bl=some R:=by simpa [ef,kr,hx] using h
  refine ay<|bQ false ak 72<|zo J (aP pI)<|aw<|aq<|M ?_;cases so h;exact eS J J
 ·refine dJ<|ay<|gX (r:=ak) (ys:=Bl) (xs:=[]) iq cE J J J J J trivial J fun l c=>aH J<|bI h fun x q_x h=>cT cE J J J J iq J J (ht J) (ht J) q_x fun l1 c1=>bC J<|aw<|aq ?_;cases so h;exact eS J J
theorem iR(n:ai)(kinds:(List Int))(l:(List bb)){R:bb}(h:ew n kinds l=some R):bn ba 106 [tD ak n,dX kinds,dH (ah) l] (tD ah R):=by
 refine bn.of Tryz.func106 J J J fun w0 S0=>ay<|nL (ht J) J fun b=>bg (r:=ah) (x:=eY) bo (fun _=>dv _) J fun b1=>aw<|ay<|zo J (dY 1 fK J J J)<|bN<|ap bK J k7 J (ht J) hI<|zo J (dY 2 ka J J J)<|ap bK J jY J (ht J) hI<|aw<|ay<|aH J<|aH J<|bI h fun e q_e h=>zo J (aO nj bo J (ht J) hI q_e)<|zo J (cr mV gO J J)<|zo J (bz bK J J) ?_;refine bQ true ak 72<|zo J (cy (y:=iC (⟨[],kinds,e.at_,[]⟩:bb) (aC none 0 (Bl.length))) bo IM xe (⟨_,_,_,_,_,J,zZ,J,(ht J),⟨_,_,_,_,_,J,zY,J,(ht J),J⟩⟩))<|bQ true ak 72<|bg (r:=fV) (x:=iC eY (aC none 0 (Bl.length))) bo xe J fun b2=>dr<|bN<|ii bo J (kc J) J (ht J) (ht J)<|dr<|zy<|aw<|af<|ay<|aH J<|zo J (gV nj J)<|zo J (bA hI)<|aw<|ax<|bf (k:=21) J fun hN=>bF<|eA<|eA ?_;refine lq<|lq ?_;refine aS (qC (Z:=fun ls i n1 out l1 c=>(l.drop i=ls)∧jt ls i n1 out=some R) (Of:=fun _ i n1 out l1 c=>[bx ak 72 b n1,bx ah 95 b1 eY,bx fV 95 b2 (iC out (aC l1 c out.nodes.length)),bV ak 72 l1 c out.nodes]) (Gf:=fun _ i n1 out l1 c=>[(3,tV (aF b 0)),(6,tV (aF b1 0)),(7,tV (aF b2 0)),(21,dH (ah) l),(22,fD l),(23,bD (i:Int))]) (fun i n1 out l1 c h=>?_) (fun e1 tl ih i n1 out l1 c h=>?_) l 0 (ai.mk n.Op mw mw n.Table n.Kinds n.Left n.Cond n.Keys n.Aggs n.Items n.Order n.Limit) ({(⟨[],kinds,e.at_,[]⟩:bb)with nodes:=Bl}:bb) none 0 ⟨J,h⟩) (bl J)
 ·obtain⟨hx,h⟩:=h
  refine aA<|ay<|zo J (ej J J)<|aw<|af<|bu (ht J) (c8 hx)<|bk ?_;refine ac (ac (aM ?_));refine av<|ay<|zo rfl (dY 0 nZ rfl rfl rfl)<|zo rfl (lc k5 lK (.tail _ (.tail _ (.head _))) (.tail _ (.tail _ (.tail _ (.head _)))) rfl (ht rfl))<|zo rfl (aX cE rfl rfl bm (.head _) (ht rfl))<|zo rfl (aR (r:=ak) (ys:=[n1]) (xs:=[.tmp 77]) iq cE J J J J J ⟨(ht J),aT⟩)<|cS<|bI h fun l2 q_l2 h=>m5 cE J J J J iq J J (ht J) (ht J) q_l2 fun l3 c1=>zo J (dY 0 nZ J J J)<|cS<|ii k5 J (me _ _ _) J (ht J) (Ga (vF (ht J)))<|aw<|ay<|bN<|zo J (mN (q:=ah) (y:=({out with nodes:=l2}:bb)) bo J J J J (.tail _ (.head _)) (fun _ _ _ ho h=>wq (qK ho (.head _)) h) (ht J))<|cS<|ap bo J aj J (ht J) (ht J)<|bc 6 J<|aw ?_;refine aq<|aU<|aU<|aU ?_;cases so h;exact iy J bo J J J
 ·obtain⟨hx,h⟩:=h
  refine aA<|ay<|zo J (ej J J)<|aw<|af<|bt (ht J) (cY hx)<|dJ<|af<|ax<|ay<|aH J<|zo J (km nj bo J J J (c0 hx))<|zo J (bz bo J J)<|bg (r:=ah) (x:=eY) bo (fun _=>dv _) J fun b3=>bC J<|ap bo J aj J (ht J) (ht J)<|bc 9 J<|aw<|af ?_;refine am<|zo J (dY 0 nZ J J J)<|zo J (lc k5 lK (.tail _ (.tail _ (.head _))) (.tail _ (.tail _ (.tail _ (.head _)))) J (ht J))<|zo J (ca iq (iW (ht J)))<|bC J<|aw<|af<|ay<|zo J (cr nZ tM J J)<|zo J (bz k5 J J)<|bI h fun r q_r h=>iu Lj (Fw _ q_r) ⟨(ht J),aT⟩ J fun l4 c2=>zo J (eF iq (.head _) (ht J))<|zo J (bA hI)<|aw<|ax<|il (.head _) fun hN1=>bF ?_;refine aS (kQ (Z:=fun ls1 i1 out1 l5 c3=>(r.drop i1=ls1)∧js (jt tl) i n1 out ls1 out1=some R) (Of:=fun _ i1 out1 l5 c3=>[ee ak 72 l4 c2 r,bx ak 72 b n1,bx ah 95 b1 eY,bx fV 95 b2 (iC out1 (aC l5 c3 out1.nodes.length)),bV ak 72 l5 c3 out1.nodes]) (Gf:=fun _ i1 out1 l5 c3=>[(3,tV (aF b 0)),(6,tV (aF b1 0)),(7,tV (aF b2 0)),(8,bD (i:Int)),(10,fD out.nodes),(21,dH (ah) l),(22,fD l),(23,bD (i:Int)),(33,nb l4 c2 r),(34,fD r),(35,bD (i1:Int))]) (fun i1 out1 l5 c3 h=>?_) (fun e2 tl1 ih1 i1 out1 l5 c3 h=>?_) r 0 out l1 c ⟨J,h⟩) (bl J)
  ·obtain⟨hx1,h⟩:=h
   refine aA<|ay<|zo J (ej J J)<|aw<|af<|bu (ht J) (c8 hx1)<|bk ?_;refine ac (ac (aM ?_));refine av<|ay<|aH rfl<|zo rfl (jR rfl)<|aw<|dn h rfl (fun h=>?_) (fun h=>?_)
   ·refine am<|zo J (dY 0 nZ J J J)<|zo J (lc k5 lK (.tail _ (.tail _ (.tail _ (.head _)))) (.tail _ (.tail _ (.tail _ (.tail _ (.head _))))) J (ht J))<|zo J (ca iq (iW (ht J)))<|zo J (eV (ht J) hI)<|zo J (dY 1 fK J J J)<|bN<|ap bK J k7 J (ht J) (ht J)<|aQ<|an<|av<|am<|zo rfl (jQ (cI hx hN) rfl)<|aH rfl<|aQ<|bU<|aU ?_;exact be (aS (ih (i+1) (ai.mk n1.Op (IntKind.i64.wrap ((out1.nodes.length:Int)-(1:Int))) n1.B n1.Table n1.Kinds n1.Left n1.Cond n1.Keys n1.Aggs n1.Items n1.Order n1.Limit) out1 l5 c3 ⟨cH hx,h⟩) (bl J))
   ·refine am<|zo J (dY 0 nZ J J J)<|zo J (lc k5 lK (.tail _ (.tail _ (.tail _ (.head _)))) (.tail _ (.tail _ (.tail _ (.tail _ (.head _))))) J (ht J))<|zo J (ca iq (iW (ht J)))<|zo J (eV (ht J) hI)<|zo J (dY 2 ka J J J)<|bN<|ap bK J jY J (ht J) (ht J)<|aQ<|an<|av<|am<|zo rfl (jQ (cI hx hN) rfl)<|aH rfl<|aQ<|bU<|aU ?_;exact be (aS (ih (i+1) (ai.mk n1.Op n1.A (IntKind.i64.wrap ((out1.nodes.length:Int)-(1:Int))) n1.Table n1.Kinds n1.Left n1.Cond n1.Keys n1.Aggs n1.Items n1.Order n1.Limit) out1 l5 c3 ⟨cH hx,h⟩) (bl J))
  ·obtain⟨hx1,h⟩:=h
   refine aA<|ay<|zo J (ej J J)<|aw<|af<|bt (ht J) (cY hx1)<|dJ<|af<|ax<|ay<|zo J (ce iq cE (.head _) (ht J) (ht J) (c0 hx1))<|zo J (d5 (r:=ak) (i:=(i1:Int)) (foff:=0) cE J J bm J (.head _) (c0 hx1) (ht J))<|bg (r:=ak) (x:=vz) cE (fun _=>gG _) J fun b4=>ap cE J aj J (ht J) (ht J)<|aw ?_;refine fX (Z:=fun x=>oX out (js (jt tl) i n1 out tl1) out1 x=some R) (Of:=fun x=>[ee ak 72 l4 c2 r,bx ak 72 b n1,bx ah 95 b1 eY,bx ak 72 b4 x,bx fV 95 b2 (iC out1 (aC l5 c3 out1.nodes.length)),bV ak 72 l5 c3 out1.nodes]) (Gf:=fun x=>[(3,tV (aF b 0)),(6,tV (aF b1 0)),(7,tV (aF b2 0)),(8,bD (i:Int)),(10,fD out.nodes),(12,tV (aF b4 0)),(21,dH (ah) l),(22,fD l),(23,bD (i:Int)),(33,nb l4 c2 r),(34,fD r),(35,bD (i1:Int))]) (fun x h=>?_) (fun K=>?_)
   ·skip
    refine fX (Z:=fun x1=>oW (js (jt tl) i n1 out tl1) out1 x1=some R) (Of:=fun x1=>[ee ak 72 l4 c2 r,bx ak 72 b n1,bx ah 95 b1 eY,bx ak 72 b4 x1,bx fV 95 b2 (iC out1 (aC l5 c3 out1.nodes.length)),bV ak 72 l5 c3 out1.nodes]) (Gf:=fun x1=>[(3,tV (aF b 0)),(6,tV (aF b1 0)),(7,tV (aF b2 0)),(8,bD (i:Int)),(10,fD out.nodes),(12,tV (aF b4 0)),(21,dH (ah) l),(22,fD l),(23,bD (i:Int)),(33,nb l4 c2 r),(34,fD r),(35,bD (i1:Int))]) (fun x1 h=>?_) (fun K1=>?_)
    ·skip
     refine am<|zo J (dY 0 nZ J J J)<|zo J (lc k5 lK (.tail _ (.tail _ (.tail _ (.tail _ (.head _))))) (.tail _ (.tail _ (.tail _ (.tail _ (.tail _ (.head _)))))) J (ht J))<|zo J (aX cE J J bm (.tail _ (.tail _ (.tail _ (.head _)))) (ht J))<|zo J (aR (r:=ak) (ys:=[x1]) (xs:=[.tmp 57]) iq cE J J J J J ⟨(ht J),aT⟩)<|qU<|bI h fun l6 q_l6 h=>m5 cE J J J J iq J J (ht J) (ht J) q_l6 fun l7 c4=>zo J (dY 0 nZ J J J)<|qU<|ii k5 J (me _ _ _) J (ht J) (Ga (vF (ht J)))<|aQ<|an<|av<|am<|zo rfl (jQ (cI hx1 hN1) rfl)<|aH rfl<|aQ<|cb<|aU<|bU<|bU<|cn<|cn ?_;refine cn ?_;exact be (aS (ih1 (i1+1) ({out1 with nodes:=l6}:bb) l7 c4 ⟨cH hx1,h⟩) (bl J))
    ·skip
     refine ay<|zo J (dY 2 ka J J J)<|zo J (aX bK J J fI (.tail _ (.tail _ (.tail _ (.head _)))) (ht J))<|zo J (dN (ht J) hI)<|aw<|dn h J (fun h=>?_) (fun h=>?_)
     ·refine am<|zo J (dY 2 ka J J J)<|zo J (aX bK J J fI (.tail _ (.tail _ (.tail _ (.head _)))) (ht J))<|aH J<|zo J (jf (ht J) (ht J))<|zo J (dY 2 ka J J J)<|cS<|ap bK J jY J (ht J) (ht J)<|aQ<|cb<|cb<|au<|cb<|cb<|cb ?_;exact cd (K1 (ai.mk x.Op x.A (IntKind.i64.wrap (x.B+(out.nodes.length:Int))) x.Table x.Kinds x.Left x.Cond x.Keys x.Aggs x.Items x.Order x.Limit) h) (bl J)
     ·refine bE ?_;exact cd (K1 x h) (bl J)
   ·skip
    refine ay<|zo J (dY 1 fK J J J)<|zo J (aX bK J J dk (.head _) (ht J))<|zo J (dN (ht J) hI)<|aw<|dn h J (fun h=>?_) (fun h=>?_)
    ·refine am<|zo J (dY 1 fK J J J)<|zo J (aX bK J J dk (.head _) (ht J))<|aH J<|zo J (jf (ht J) (ht J))<|zo J (dY 1 fK J J J)<|ap bK J k7 J (ht J) (ht J)<|aQ<|cb<|cb<|au<|cb<|cb<|cb ?_;exact cd (K (ai.mk e2.Op (IntKind.i64.wrap (e2.A+(out.nodes.length:Int))) e2.B e2.Table e2.Kinds e2.Left e2.Cond e2.Keys e2.Aggs e2.Items e2.Order e2.Limit) h) (bl J)
    ·refine bE<|cb<|cb<|au<|cb<|cb<|cb ?_;exact cd (K e2 h) (bl J)

theorem nE(s:bb)(columns:(List Int)){R:bb}(h:eg s columns=some R):bn ba 107 [tD ah s,dX columns] (tD ah R):=by
 refine bn.of Tryz.func107 J J J fun w0 S0=>ay<|nL (ht J) J fun b=>bg (r:=ah) (x:=eY) bo (fun _=>dv _) J fun b1=>aw<|ay<|aH J<|zo J (dY 3 j9 J J J)<|bN<|ap cu J qF J (ht J) (ht J)<|aw<|ay<|zo J (aX (x:=(bb.mk s.nodes s.kinds s.at_ columns)) bo J J bm (.head _) (ht J))<|bN<|ap bo J aj J (ht J) (ht J)<|bc 4 J<|aw<|aq ?_;refine aU ?_;cases so h;exact iy J bo J J J

theorem Kw(b:Nat)(ix:OI)(p:aE)(n:ai)(kinds:(List Int))(l:(List bb)){R:bb}(h:jH p n kinds l=some R):cz ba 67 [tV (aF b 0),tD ak n,dX kinds,dH (ah) l] (d2 b p ix) (fun _:OI=>tD ah R) (fun _=>(d2 b p ix)):=by
 refine cz.of Tryz.func67 J J J fun w0 S0=>?_;refine(show CG _ _ _ [bx (rH aJ [(0,aC (ix.h 0).1 (ix.h 0).2 p.Plan.Frags.length),(3,aC (ix.h 1).1 (ix.h 1).2 p.kinds.length)]) 91 b p,bV aN 74 (ix.h 0).1 (ix.h 0).2 p.Plan.Frags,bV dG 42 (ix.h 1).1 (ix.h 1).2 p.kinds] _ from ?_);refine ay<|zo J (gY J)<|bg (r:=ah) (x:=eY) bo (fun _=>dv _) J fun b1=>aw<|af<|bI h fun e q_e h=>bI h fun r q_r h=>bI h fun r1 q_r1 h=>?_
 refine iw 12 (ts:=[tD ak n,dX kinds,dH (ah) l,bj ah e,tD ah e,dH (ah) ([e]),tD ah r,dH (ah) l,bj ah e,bj dG e.hashed,dX e.hashed,tD ah r1]) mixed J J J
  ⟨ek 5 J J J (bz cE J J),
  ⟨ek 2 J J J (cL J),
  ⟨ek 3 J J J (cL J),
  ⟨c9 11 2 J J J (aO nj bo J (ht J) hI q_e),
  ⟨c9 12 3 J J J (bz bo J J),
  ⟨c9 13 4 J J J (aR (r:=ah) (ys:=[e]) (xs:=[.tmp 13]) nj bo J J J J J ⟨(ht J),aT⟩),
  ⟨vA 9 0 10 1 14 5 J J J J J (aK nI (iR _ _ _ q_r) ⟨(ht J),(ht J),(ht J),aT⟩),
  ⟨ek 3 J J J (cL J),
  ⟨c9 16 7 J J J (aO nj bo J (ht J) hI q_e),
  ⟨c9 17 8 J J J (cr j9 fB J J),
  ⟨c9 18 9 J J J (bz cu J J),
  ⟨eo 15 6 19 10 J J J J (aK uI (nE _ _ q_r1) ⟨(ht J),(ht J),aT⟩),
  aT⟩⟩⟩⟩⟩⟩⟩⟩⟩⟩⟩⟩ ?_
 refine ap bo J aj J (ht J) (ht J)<|bc 8 J<|aw<|aq<|au<|au<|au ?_;cases so h;exact er J bo J J J kp J J

theorem Ha(s:(List Int))(v:Int){R:Int}(h:lE s v=some R):bn ba 179 [dX s,bD v] (bD R):=by
 refine bn.of Tryz.func179 J J J fun w0 S0=>ay<|zo J (d9)<|aw<|af<|ay<|aH J<|zo J (gV dm J)<|zo J (bA hI)<|aw<|ax<|bf (k:=6) J fun hN=>bF ?_;refine aS (dS (Z:=fun ls i=>(s.drop i=ls)∧gJ v ls i=some R) (Of:=fun _ i=>[]) (Gf:=fun _ i=>[(0,dX s),(1,bD v),(7,fD s),(8,bD (i:Int))]) (fun i h=>?_) (fun e tl ih i h=>?_) s 0 ⟨J,h⟩) (bl J)
 ·obtain⟨hx,h⟩:=h
  refine aA<|ay<|zo J (ej J J)<|aw<|af<|bu (ht J) (c8 hx)<|bk ?_;refine ac (ac (aM ?_));refine av<|ay<|zo rfl (d9)<|aw<|aq ?_;cases so h;exact aW J J
 ·obtain⟨hx,h⟩:=h
  refine aA<|ay<|zo J (ej J J)<|aw<|af<|bt (ht J) (cY hx)<|dJ<|af<|ax<|ay<|aH J<|bC J<|aw<|ay<|aH J<|aH J<|aH J<|zo J (km dm bK J J J (c0 hx)) ?_;refine zo J (bz bK J J)<|zo J (cj (ht J) (ht J))<|aw<|dn h J (fun h=>?_) (fun h=>?_)
  ·refine ay<|aH J<|bC J<|aw<|aq ?_;refine aD (M (M (aD (M ?_))));cases so h;exact aW J J
  ·refine bE<|an<|av<|am<|zo rfl (jQ (cI hx hN) rfl)<|aH rfl<|aQ ?_;exact be (aS (ih (i+1) ⟨cH hx,h⟩) (bl J))

end Go.Proofs.YtnmjbolollcokaaGreatDoor

