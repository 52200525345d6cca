/- cN of this claim: P6. -/
import Derived.Test.YtnmjbolollcokaaGreatDoorRaT
import Derived.Test.YtnmjbolollcokaaGreatDoorRaP5
set_option linter.all false
namespace Go.Proofs.YtnmjbolollcokaaGreatDoor
open Go
set_option maxRecDepth 100000

theorem I5(l:cI)(place:Int){R:cI×Int}(h:wm l place=some R):bo aX 34 [tD cv l,bK place] (tT [tD cv R.1,bK R.2]):=by
 refine bo.of Tryz.func34 J J J fun w0 S0=>ay<|zo J (gP J)<|bj (r:=cv) (x:=zS) lV (fun _=>lT _) J fun b=>zo J (dW)<|aw<|ay<|zo J (bq lV J J)<|bG h fun r q_r h=>zo J (aF JA (B4 _ q_r) ⟨(ht J),aV⟩)<|aG J<|zo J (jf J J)<|zo J (jf J J)<|zo J (jf J J)<|bB J<|bB J<|bB J<|aw<|ae<|ax ?_;refine ay<|aG J<|zo J (dy (ht J))<|bB J<|aw<|db h J (fun h=>?_) (fun h=>?_)
 ·refine ay<|zo J (cr (y:=zS) lV II lT (J))<|au lV J al J (ht J) (ht J)<|zo J (dW)<|aw<|ap ?_;refine aH (M ?_);refine bS 4 J ?_;cases so h;exact jQ J J ⟨d7 lV J J J,cJ J,aV⟩
 ·refine ay<|aG J<|zo J (eg (ht J) hI)<|aG J<|cR J J (fun hg=>cn J)<|cR J J (fun hg=>cc mt gK J J)<|cR J J (fun hg=>be kE J J (bc J hg))<|cR J J (fun hg=>bY oz (bc J hg))<|cR J J (fun hg=>dm (bc J hg) (bc J hg))<|zo J (oB J J)<|bB J<|aw<|db h J (fun h=>?_) (fun h=>?_)
  ·refine ay<|zo J (cr (y:=zS) lV II lT (J))<|au lV J al J (ht J) (ht J)<|zo J (dW)<|aw<|ap ?_;refine aH (M ?_);refine bS 4 J ?_;cases so h;exact jQ J J ⟨d7 lV J J J,cJ J,aV⟩
  ·refine bE<|an<|aq<|ay<|bM true aj 72<|bj (r:=ke) (x:=lD zS (aC none 0 (Bk.length))) lV Bh J fun b1=>aw<|ae<|ay<|aG J<|zo J (yX (ht J))<|zo J (cc nU s6 J J)<|zo J (bq cy J J)<|aG J<|bG h fun e q_e h=>zo J (jA cW bD J J J q_e)<|zo J (bq bD J J)<|bB J<|aw<|ax ?_;refine bF<|ep<|ep<|jO ?_;refine aT (tu (Z:=fun n i out l1 c=>oo l place e n i out=some R) (Of:=fun i out l1 c=>[bx cv 24 b zS,bx ke 24 b1 (lD out (aC l1 c out.Nodes.length)),bV aj 72 l1 c out.Nodes]) (Gf:=fun i out l1 c=>[(1,bK place),(2,bl cv l),(4,tV (aE b 0)),(6,bl aZ r.1),(9,tV (aE b1 0)),(10,bK i)]) (fun i out l1 c h=>nn h) (fun n ih i out l1 c h=>?_) kp e ({zS with Nodes:=Bk}:cI) none 0 h) (bn J);refine aA<|ae<|ay<|aG J<|aG J<|zo J (io (ht J) (ht J))<|aw<|db h J (fun h=>?_) (fun h=>?_)
   ·refine dB<|ae<|ax<|bG h fun e1 q_e1 h=>bG h fun r1 q_r1 h=>?_
    refine hZ 17 (ts:=[tV (aE b1 0),tO aj l1 c out.Nodes,bl wW l.Nodes,dS (aj) l.Nodes,bK i,bl aj e1,tD aj e1,bl aZ r.1,bl aZ r.1,bl dK r.1.first,dE r.1.first,bK place,bl bR e,bK e,bK (IntKind.i64.wrap (0-e)),tD aj r1,dS (aj) ([r1])]) mixed J J J
     ⟨dT 9 J J J (d3 0 mt J J J),
     ⟨cP 44 0 J J J (lB kE zc (.tail _ (.head _)) (.tail _ (.tail _ (.head _))) J (ht J)),
     ⟨dT 2 J J J (cc mt gK J J),
     ⟨cP 46 2 J J J (bq kE J J),
     ⟨dT 10 J J J (cn J),
     ⟨dL 47 3 48 4 J J J J (jA oz cD J J J q_e1),
     ⟨cP 49 5 J J J (bq cD J J),
     ⟨dT 6 J J J (cn J),
     ⟨cP 51 7 J J J (yX (ht J)),
     ⟨cP 52 8 J J J (cc nU s6 J J),
     ⟨cP 53 9 J J J (bq cy J J),
     ⟨dT 1 J J J (cn J),
     ⟨dL 54 10 55 11 J J J J (jA cW bD J J J q_e),
     ⟨cP 56 12 J J J (bq bD J J),
     ⟨cP 57 13 J J J (Iw (ht J)),
     ⟨dL 50 6 58 14 J J J J (aF MD (IU _ _ q_r1) ⟨(ht J),(ht J),aV⟩),
     ⟨cP 59 15 J J J (aS (r:=aj) (ys:=[r1]) (xs:=[.tmp 59]) oz cD J J J J J ⟨(ht J),aV⟩),
     aV⟩⟩⟩⟩⟩⟩⟩⟩⟩⟩⟩⟩⟩⟩⟩⟩⟩ ?_
    refine du<|bG h fun l2 q_l2 h=>nm cD J J J J oz J J (ht J) (ht J) q_l2 fun l3 c1=>zo J (d3 0 mt J J J)<|du<|iD kE J (qb _ _ _) J (ht J) (F2 (vJ (ht J)))<|aQ<|an<|aq<|am<|aG rfl<|zo rfl (jp (ht rfl) hI)<|bB rfl<|aQ<|bU<|bU<|av ?_;exact bf (aT (ih (IntKind.i64.wrap (i+(1:Int))) ({out with Nodes:=l2}:cI) l3 c1 h) (bn J))
   ·refine bk ?_;refine ac (ac (aM ?_));refine aq<|ay<|du<|zo rfl (m5 (q:=cv) (y:=out) lV J J J J (.tail _ (.tail _ (.head _))) (fun _ _ _ ho h=>vf (q9 ho (.head _)) h) (ht J))<|bQ<|au lV J al J (ht J) (ht J)<|zo J (dW)<|aw<|ap<|bS 4 J<|ba<|ba ?_;cases so h;exact jQ J J ⟨d7 lV J J J,cJ J,aV⟩

theorem uP(b:Nat)(ix:OI)(p:aD)(s:bb)(way:Int)(cols:(List Int)){R:bb×aD}(h:dA p s way cols=some R):cA aX 65 [tV (aE b 0),tD ah s,bK way,dE cols] (d5 b p ix) (fun _:OI=>tD ah R.1) (fun j=>d5 b R.2 j):=by
 refine cA.of Tryz.func65 J J J fun w0 S0=>?_;refine(show CG _ _ _ [bx (rH aJ [(0,aC (ix.h 0).1 (ix.h 0).2 p.Plan.Frags.length),(3,aC (ix.h 1).1 (ix.h 1).2 p.kinds.length)]) 91 b p,bV aR 74 (ix.h 0).1 (ix.h 0).2 p.Plan.Frags,bV dK 42 (ix.h 1).1 (ix.h 1).2 p.kinds] _ from ?_);refine ay<|zo J (gP J)<|bj (r:=ah) (x:=fc) bt (fun _=>dz _) J fun b1=>aw<|ae<|bG h fun r q_r h=>bG h fun l q_l h=>?_
 refine gA 16 [tc (tV (aE b 0)),tc (tV (aE b 0)),tc (tV (aE b 0)),tc (tV (aE b 0)),tc (tV (aE b 0)),tc (tO aR (ix.h 0).1 (ix.h 0).2 p.Plan.Frags),tc (bl wW s.nodes),tc (dS (aj) s.nodes),tc (bl bR s.at_),tc (bK s.at_),tc (bK way),tc (dE cols),tc (dE r),tc (tD aR (⟨s.nodes,s.at_,way,r⟩:cz)),tc (dS (aR) ([(⟨s.nodes,s.at_,way,r⟩:cz)])),([15],fun s=>tO aR ((s.getD 0 lm).h 0).1 ((s.getD 0 lm).h 0).2 l)] [false,false,false,false,false,false,false,false,false,false,false,false,false,false,false,true] [fun _=>[bx ah 95 b1 fc,bx (rH aJ [(0,aC (ix.h 0).1 (ix.h 0).2 p.Plan.Frags.length),(3,aC (ix.h 1).1 (ix.h 1).2 p.kinds.length)]) 91 b p,bV aR 74 (ix.h 0).1 (ix.h 0).2 p.Plan.Frags,bV dK 42 (ix.h 1).1 (ix.h 1).2 p.kinds],fun sg=>[bV aR 74 ((sg 15).h 0).1 ((sg 15).h 0).2 l,bx ah 95 b1 fc,bx (rH aJ [(0,aC (ix.h 0).1 (ix.h 0).2 p.Plan.Frags.length),(3,aC (ix.h 1).1 (ix.h 1).2 p.kinds.length)]) 91 b p,bV dK 42 (ix.h 1).1 (ix.h 1).2 p.kinds]] J mixed J J J J J
  ⟨⟨[⟨0,fun _=>tV (aE b 0),none⟩],_,0,1,J,⟨(fun _=>J),aV⟩,J,J,J,J,J,fun _ sg _ _=>af J (cn J)⟩,
  ⟨⟨[⟨0,fun _=>tV (aE b 0),none⟩],_,0,0,J,⟨(fun _=>J),aV⟩,J,J,J,J,J,fun _ sg _ _=>af J (cn J)⟩,
  ⟨⟨[⟨12,fun _=>tV (aE b 0),some 1⟩],_,0,0,J,⟨(fun _=>J),aV⟩,J,J,J,J,J,fun _ sg _ _=>af J (cU (ht J))⟩,
  ⟨⟨[⟨13,fun _=>tV (aE b 0),some 2⟩],_,0,0,J,⟨(fun _=>J),aV⟩,J,J,J,J,J,fun _ sg _ _=>af J (d3 0 qL J J J)⟩,
  ⟨⟨[⟨14,fun _=>tV (aE b 0),some 3⟩],_,0,0,J,⟨(fun _=>J),aV⟩,J,J,J,J,J,fun _ sg _ _=>af J (d3 0 eC J J J)⟩,
  ⟨⟨[⟨15,fun _=>tV (aE b 0),some 4⟩],_,0,0,J,⟨(fun _=>J),aV⟩,J,J,J,J,J,sC (fun sg=>af J (c8 lk J (.tail _ (.head _)) (.tail _ (.tail _ (.head _))) (ht J)))⟩,
  ⟨⟨[⟨5,fun _=>bl ah s,none⟩],_,0,0,J,⟨(fun _=>J),aV⟩,J,J,J,J,J,fun _ sg _ _=>af J (cc ot uh J J)⟩,
  ⟨⟨[⟨17,fun _=>bl wW s.nodes,some 6⟩],_,0,0,J,⟨(fun _=>J),aV⟩,J,J,J,J,J,fun _ sg _ _=>af J (bq kE J J)⟩,
  ⟨⟨[⟨5,fun _=>bl ah s,none⟩],_,0,0,J,⟨(fun _=>J),aV⟩,J,J,J,J,J,fun _ sg _ _=>af J (cc ne hT J J)⟩,
  ⟨⟨[⟨19,fun _=>bl bR s.at_,some 8⟩],_,0,0,J,⟨(fun _=>J),aV⟩,J,J,J,J,J,fun _ sg _ _=>af J (bq bD J J)⟩,
  ⟨⟨[⟨2,fun _=>tD bR way,none⟩],_,0,0,J,⟨(fun _=>J),aV⟩,J,J,J,J,J,fun _ sg _ _=>af J (cn J)⟩,
  ⟨⟨[⟨3,fun _=>tD kL cols,none⟩],_,0,0,J,⟨(fun _=>J),aV⟩,J,J,J,J,J,fun _ sg _ _=>af J (cn J)⟩,
  ⟨⟨[⟨22,fun _=>tD kL cols,some 11⟩],_,0,0,J,⟨(fun _=>J),aV⟩,J,J,J,J,J,fun _ sg _ _=>af J (aF AN (zl _ q_r) ⟨(ht J),aV⟩)⟩,
  ⟨⟨[⟨18,fun _=>tD wW s.nodes,some 7⟩,⟨20,fun _=>tD bR s.at_,some 9⟩,⟨21,fun _=>tD bR way,some 10⟩,⟨23,fun _=>tD kL r,some 12⟩],_,0,0,J,⟨(fun _=>J),(fun _=>J),(fun _=>J),(fun _=>J),aV⟩,J,J,J,J,J,fun _ sg _ _=>af J (cr (y:=(⟨s.nodes,s.at_,way,r⟩:cz)) kc Kl sA (⟨_,_,_,_,_,J,xz,J,(ht J),⟨_,_,_,_,_,J,xy,J,(ht J),⟨_,_,_,_,_,J,xx,J,(ht J),⟨_,_,_,_,_,J,DB,J,(ht J),J⟩⟩⟩⟩))⟩,
  ⟨⟨[⟨24,fun _=>tD aR (⟨s.nodes,s.at_,way,r⟩:cz),some 13⟩],_,0,0,J,⟨(fun _=>J),aV⟩,J,J,J,J,J,fun _ sg _ _=>af J (aS (r:=aR) (ys:=[(⟨s.nodes,s.at_,way,r⟩:cz)]) (xs:=[.tmp 24]) jX kc J J J J J ⟨(ht J),aV⟩)⟩,
  ⟨⟨[⟨16,fun _=>tO aR (ix.h 0).1 (ix.h 0).2 p.Plan.Frags,some 5⟩,⟨25,fun _=>tD (dG aR) ([(⟨s.nodes,s.at_,way,r⟩:cz)]),some 14⟩],_,J,⟨(fun _=>J),(fun _=>J),aV⟩,J,J,J,fun sg=>bZ J (EffOK.fr2 (nX kc J J J J jX J (ht J) (ht J) q_l))⟩,
  aV⟩⟩⟩⟩⟩⟩⟩⟩⟩⟩⟩⟩⟩⟩⟩⟩ (fun sg=>?_)
 refine(show RG _ _ _ _ [bV aR 74 ((sg 15).h 0).1 ((sg 15).h 0).2 l,bx ah 95 b1 fc,bx (rH aJ [(0,aC (ix.h 0).1 (ix.h 0).2 p.Plan.Frags.length),(3,aC (ix.h 1).1 (ix.h 1).2 p.kinds.length)]) 91 b p,bV dK 42 (ix.h 1).1 (ix.h 1).2 p.kinds] _ from ?_);refine zo J (cU (ht J))<|zo J (d3 0 qL J J J)<|zo J (d3 0 eC J J J)<|n6 (EffOK.fr2 (ni (hs' :=[(0,aC ((sg 15).h 0).1 ((sg 15).h 0).2 l.length),(3,aC (ix.h 1).1 (ix.h 1).2 p.kinds.length)]) (u:=aC ((sg 15).h 0).1 ((sg 15).h 0).2 l.length) lk J J (qZ pu sF xw) J ⟨.inl ⟨J,J,J⟩,.inr ⟨J,J⟩,aV⟩ (ht J) (iR (ht J)) (vJ (ht J)))) fun i=>?_;refine(show RG _ _ _ _ [bx (rH aJ [(0,aC ((sg 15).h 0).1 ((sg 15).h 0).2 l.length),(3,aC (ix.h 1).1 (ix.h 1).2 p.kinds.length)]) 91 b ({p with Plan:=({p.Plan with Frags:=l}:bI)}:aD),bV aR 74 ((sg 15).h 0).1 ((sg 15).h 0).2 l,bx ah 95 b1 fc,bV dK 42 (ix.h 1).1 (ix.h 1).2 p.kinds] _ from ?_);refine aw<|ae<|bG h fun r1 q_r1 h=>?_
 refine gA 12 [tc (tV (aE b 0)),tc (tV (aE b 0)),tc (tV (aE b 0)),tc (tV (aE b 0)),tc (tO aR ((sg 15).h 0).1 ((sg 15).h 0).2 l),tc (f7 l),tc (bK (IntKind.i64.wrap ((l.length:Int)-(1:Int)))),tc (bl dK s.kinds),tc (dE s.kinds),tc (dE r1),tc (tD aj (⟨(9:Int),kM,kM,(IntKind.i64.wrap ((l.length:Int)-(1:Int))),r1,false,mT,[],[],[],[],(0:Int)⟩:ai)),([11],fun s=>tV (aE ((s.getD 0 lm).h 0).2 0))] [false,false,false,false,false,false,false,false,false,false,false,true] [fun _=>[bx (rH aJ [(0,aC ((sg 15).h 0).1 ((sg 15).h 0).2 l.length),(3,aC (ix.h 1).1 (ix.h 1).2 p.kinds.length)]) 91 b ({p with Plan:=({p.Plan with Frags:=l}:bI)}:aD),bV aR 74 ((sg 15).h 0).1 ((sg 15).h 0).2 l,bx ah 95 b1 fc,bV dK 42 (ix.h 1).1 (ix.h 1).2 p.kinds],fun sg1=>[bx aj 72 ((sg1 11).h 0).2 vG,bx (rH aJ [(0,aC ((sg 15).h 0).1 ((sg 15).h 0).2 l.length),(3,aC (ix.h 1).1 (ix.h 1).2 p.kinds.length)]) 91 b ({p with Plan:=({p.Plan with Frags:=l}:bI)}:aD),bV aR 74 ((sg 15).h 0).1 ((sg 15).h 0).2 l,bx ah 95 b1 fc,bV dK 42 (ix.h 1).1 (ix.h 1).2 p.kinds]] J mixed J J J J J
  ⟨⟨[⟨0,fun _=>tV (aE b 0),none⟩],_,0,1,J,⟨(fun _=>J),aV⟩,J,J,J,J,J,fun _ sg1 _ _=>af J (cn J)⟩,
  ⟨⟨[⟨30,fun _=>tV (aE b 0),some 0⟩],_,0,1,J,⟨(fun _=>J),aV⟩,J,J,J,J,J,fun _ sg1 _ _=>af J (cU (ht J))⟩,
  ⟨⟨[⟨31,fun _=>tV (aE b 0),some 1⟩],_,0,1,J,⟨(fun _=>J),aV⟩,J,J,J,J,J,fun _ sg1 _ _=>af J (d3 0 qL J J J)⟩,
  ⟨⟨[⟨32,fun _=>tV (aE b 0),some 2⟩],_,0,1,J,⟨(fun _=>J),aV⟩,J,J,J,J,J,fun _ sg1 _ _=>af J (d3 0 eC J J J)⟩,
  ⟨⟨[⟨33,fun _=>tV (aE b 0),some 3⟩],_,0,1,J,⟨(fun _=>J),aV⟩,J,J,J,J,J,yC (fun sg1=>af J (c8 lk J (.head _) (.tail _ (.head _)) (ht J))) (sC (fun sg1=>af J (c8 lk J (.tail _ (.head _)) (.tail _ (.tail _ (.head _))) (ht J))))⟩,
  ⟨⟨[⟨34,fun _=>tO aR ((sg 15).h 0).1 ((sg 15).h 0).2 l,some 4⟩],_,0,1,J,⟨(fun _=>J),aV⟩,J,J,J,J,J,fun _ sg1 _ _=>af J (bY jX (iR (ht J)))⟩,
  ⟨⟨[⟨35,fun _=>tD bR (l.length:Int),some 5⟩],_,0,1,J,⟨(fun _=>J),aV⟩,J,J,J,J,J,fun _ sg1 _ _=>af J (fb (ht J) hI)⟩,
  ⟨⟨[⟨5,fun _=>bl ah s,none⟩],_,0,1,J,⟨(fun _=>J),aV⟩,J,J,J,J,J,fun _ sg1 _ _=>af J (cc BU ug J J)⟩,
  ⟨⟨[⟨37,fun _=>bl kL s.kinds,some 7⟩],_,0,1,J,⟨(fun _=>J),aV⟩,J,J,J,J,J,fun _ sg1 _ _=>af J (bq cy J J)⟩,
  ⟨⟨[⟨38,fun _=>tD kL s.kinds,some 8⟩],_,0,1,J,⟨(fun _=>J),aV⟩,J,J,J,J,J,fun _ sg1 _ _=>af J (aF AN (zl _ q_r1) ⟨(ht J),aV⟩)⟩,
  ⟨⟨[⟨36,fun _=>tD bR (IntKind.i64.wrap ((l.length:Int)-(1:Int))),some 6⟩,⟨39,fun _=>tD kL r1,some 9⟩],_,0,1,J,⟨(fun _=>J),(fun _=>J),aV⟩,J,J,J,J,J,fun _ sg1 _ _=>af J (cr (y:=(⟨(9:Int),kM,kM,(IntKind.i64.wrap ((l.length:Int)-(1:Int))),r1,false,mT,[],[],[],[],(0:Int)⟩:ai)) cD Gv gX (⟨_,_,_,_,_,J,o7,J,hI,⟨_,_,_,_,_,J,lu,J,hI,⟨_,_,_,_,_,J,kd,J,hI,⟨_,_,_,_,_,J,sb,J,(ht J),⟨_,_,_,_,_,J,o6,J,(ht J),J⟩⟩⟩⟩⟩))⟩,
  ⟨⟨[],_,J,aV,J,J,J,fun sg1=>bZ J (eo (r:=aj) (x:=vG) cD (fun _=>gX _))⟩,
  aV⟩⟩⟩⟩⟩⟩⟩⟩⟩⟩⟩⟩ (fun sg1=>?_)
 refine(show RG _ _ _ _ [bx aj 72 ((sg1 11).h 0).2 vG,bx (rH aJ [(0,aC ((sg 15).h 0).1 ((sg 15).h 0).2 l.length),(3,aC (ix.h 1).1 (ix.h 1).2 p.kinds.length)]) 91 b ({p with Plan:=({p.Plan with Frags:=l}:bI)}:aD),bV aR 74 ((sg 15).h 0).1 ((sg 15).h 0).2 l,bx ah 95 b1 fc,bV dK 42 (ix.h 1).1 (ix.h 1).2 p.kinds] _ from ?_);refine au cD J al J (ht J) (ht J)<|bg 9 J<|aw<|ay<|zo J (dW)<|aw ?_;refine ge (Z:=fun at1=>jk p s cols l r1 at1=some R) (Of:=fun at1=>[bx ah 95 b1 fc,bx (rH aJ [(0,aC ((sg 15).h 0).1 ((sg 15).h 0).2 l.length),(3,aC (ix.h 1).1 (ix.h 1).2 p.kinds.length)]) 91 b ({p with Plan:=({p.Plan with Frags:=l}:bI)}:aD),bV aR 74 ((sg 15).h 0).1 ((sg 15).h 0).2 l,bV dK 42 (ix.h 1).1 (ix.h 1).2 p.kinds]) (Gf:=fun at1=>[(3,dE cols),(5,bl ah s),(8,tV (aE b1 0)),(9,bl aj (⟨(9:Int),kM,kM,(IntKind.i64.wrap ((l.length:Int)-(1:Int))),r1,false,mT,[],[],[],[],(0:Int)⟩:ai)),(10,bK at1)]) (fun at1 h=>?_) (fun K=>?_)
 ·skip
  refine ay<|zo J (bq cD J J)<|zo J (aS (r:=aj) (ys:=[(⟨(9:Int),kM,kM,(IntKind.i64.wrap ((l.length:Int)-(1:Int))),r1,false,mT,[],[],[],[],(0:Int)⟩:ai)]) (xs:=[.tmp 43]) oz cD J J J J J ⟨(ht J),aV⟩)<|zo J (cc BU ug J J)<|zo J (bq cy J J)<|aG J<|aG J<|zo J (cr (y:=(⟨[(⟨(9:Int),kM,kM,(IntKind.i64.wrap ((l.length:Int)-(1:Int))),r1,false,mT,[],[],[],[],(0:Int)⟩:ai)],s.kinds,at1,cols⟩:bb)) bt IF dz (⟨_,_,_,_,_,J,xv,J,(ht J),⟨_,_,_,_,_,J,xu,J,(ht J),⟨_,_,_,_,_,J,xr,J,(ht J),⟨_,_,_,_,_,J,q0,J,(ht J),J⟩⟩⟩⟩))<|au bt J al J (ht J) (ht J)<|bg 8 J<|aw<|ap<|av<|av<|av ?_;cases so h;exact eu J bt J J J (BO [(((sg 15).h 0).1,((sg 15).h 0).2),((ix.h 1).1,(ix.h 1).2)]) J J
 ·skip
  refine ay<|aG J<|zo J (jS J)<|aw<|db h J (fun h=>?_) (fun h=>?_)
  ·refine am<|zo J (dW)<|aQ<|bm<|av<|av<|bm ?_;exact ce (K (2:Int) h) (bn J)
  ·refine bE<|bm<|av<|av<|bm ?_;exact ce (K (1:Int) h) (bn J)

theorem xR(b:Nat)(ix:OI)(p:aD)(s:bb){R:bb×aD}(h:eA p s=some R):cA aX 35 [tV (aE b 0),tD ah s] (d5 b p ix) (fun _:OI=>tD ah R.1) (fun j=>d5 b R.2 j):=by
 refine cA.of Tryz.func35 J J J fun w0 S0=>?_;refine(show CG _ _ _ [bx (rH aJ [(0,aC (ix.h 0).1 (ix.h 0).2 p.Plan.Frags.length),(3,aC (ix.h 1).1 (ix.h 1).2 p.kinds.length)]) 91 b p,bV aR 74 (ix.h 0).1 (ix.h 0).2 p.Plan.Frags,bV dK 42 (ix.h 1).1 (ix.h 1).2 p.kinds] _ from ?_);refine ay<|zo J (gP J)<|bj (r:=ah) (x:=fc) bt (fun _=>dz _) J fun b1=>aw<|ae<|ay<|zo J (cc ne hT J J)<|zo J (bq bD J J)<|zo J (jS J)<|aw<|db h J (fun h=>?_) (fun h=>?_)
 ·refine ay<|zo J (bq bt J J)<|au bt J al J (ht J) (ht J)<|aw<|ap<|M<|bS 4 J<|av<|av<|av ?_;cases so h;exact eu J bt J J J ix J J
 ·refine dB<|ay<|aG J<|zo J (bq bt J J)<|bG h fun r q_r h=>iE (EffOK.fr3 (EffOK.fr3 (EffOK.fr3 (ef (xs:=[.tmp 9,.tmp 10,.const (.int .i64 (3)),.const (.slice none 0 0)]) (ts:=[tV (aE b 0),tD ah s,bK 3,dE ([])]) (d5 b p ix) _ J AM (uP b ix p _ _ _ q_r) ⟨(ht J),(ht J),hI,hP,aV⟩ (fun _=>J))))) J fun i=>?_;refine(show RG _ _ _ _ [bx (rH aJ [(0,aC (i.h 0).1 (i.h 0).2 r.2.Plan.Frags.length),(3,aC (i.h 1).1 (i.h 1).2 r.2.kinds.length)]) 91 b r.2,bV aR 74 (i.h 0).1 (i.h 0).2 r.2.Plan.Frags,bV dK 42 (i.h 1).1 (i.h 1).2 r.2.kinds,bx ah 95 b1 fc] ((11,tD ah r.1)::_)from ?_);refine cY<|au bt J al J (ht J) (ht J)<|aw<|ap<|bS 4 J<|av<|av<|av ?_;cases so h;exact eu J bt J J J i J J

theorem Ky(b:Nat)(ix:OI)(p:aD)(n:ai)(kinds:(List Int))(x:(List bb)){R:bb}(h:kV p n kinds x=some R):cA aX 66 [tV (aE b 0),tD aj n,dE kinds,dS (ah) x] (d5 b p ix) (fun _:OI=>tD ah R) (fun _=>(d5 b p ix)):=by
 refine cA.of Tryz.func66 J J J fun w0 S0=>?_;refine(show CG _ _ _ [bx (rH aJ [(0,aC (ix.h 0).1 (ix.h 0).2 p.Plan.Frags.length),(3,aC (ix.h 1).1 (ix.h 1).2 p.kinds.length)]) 91 b p,bV aR 74 (ix.h 0).1 (ix.h 0).2 p.Plan.Frags,bV dK 42 (ix.h 1).1 (ix.h 1).2 p.kinds] _ from ?_);refine ay<|zo J (gP J)<|bj (r:=ah) (x:=fc) bt (fun _=>dz _) J fun b1=>aw<|ae<|bG h fun e q_e h=>?_
 refine hZ 14 (ts:=[tD aj n,dS (aj) ([n]),dE kinds,tV (aE b 0),tV (aE b 0),tV (aE b 2),tV (aE b 2),dS (c0) p.catalog.Tables,bl bR n.Table,bK n.Table,bl c0 e,bl dK e.Keys,dE e.Keys,tD ah (⟨[n],kinds,(1:Int),e.Keys⟩:bb)]) mixed J J J
  ⟨dT 5 J J J (bq cD J J),
  ⟨cP 9 0 J J J (aS (r:=aj) (ys:=[n]) (xs:=[.tmp 9]) oz cD J J J J J ⟨(ht J),aV⟩),
  ⟨dT 2 J J J (cn J),
  ⟨dT 0 J J J (cn J),
  ⟨cP 12 3 J J J (cU (ht J)),
  ⟨cP 13 4 J J J (d3 2 IK J J J),
  ⟨cP 14 5 J J J (d3 2 uj J J J),
  ⟨cP 15 6 J J J (aW (r:=rH aJ [(0,aC (ix.h 0).1 (ix.h 0).2 p.Plan.Frags.length),(3,aC (ix.h 1).1 (ix.h 1).2 p.kinds.length)]) (x:=p) Du J J (DY (m9 ze jL)) (.tail _ (.head _)) (ht J)),
  ⟨dT 5 J J J (cc pB jt J J),
  ⟨cP 17 8 J J J (bq bD J J),
  ⟨dL 16 7 18 9 J J J J (jA yq rX J J J q_e),
  ⟨cP 19 10 J J J (cc BW sk J J),
  ⟨cP 20 11 J J J (bq cy J J),
  ⟨rt 10 1 11 2 21 12 J J J J J (cr (y:=(⟨[n],kinds,(1:Int),e.Keys⟩:bb)) bt IF dz (⟨_,_,_,_,_,J,xv,J,(ht J),⟨_,_,_,_,_,J,xu,J,(ht J),⟨_,_,_,_,_,J,xr,J,hI,⟨_,_,_,_,_,J,q0,J,(ht J),J⟩⟩⟩⟩)),
  aV⟩⟩⟩⟩⟩⟩⟩⟩⟩⟩⟩⟩⟩⟩ ?_
 refine au bt J al J (ht J) (ht J)<|bg 8 J<|aw<|ap<|av<|av<|av ?_;cases so h;exact eu J bt J J J lm J J

theorem Fp(s:(List ai)){R:(List ai)}(h:ei s=some R):eG aX 178 [dS (aj) s] false aj 72 R:=by
 refine eG.of Tryz.func178 J J J fun w0 S0=>ay<|bM false aj 72<|zo J (aP oS)<|aw<|ae<|ay<|aG J<|oM oz (ht J) J fun isnil hisnil=>aw<|lh (ht J) (fun hc=>?_) (fun hc=>?_)
 ·have hx:=hisnil hc
  have h:some Bk=some R:=by simpa [ei,kB,hx] using h
  refine ay<|bM false aj 72<|zo J (aP oS)<|aw<|ap<|M ?_;cases so h;exact el J J
 ·refine dB<|ay<|gz (r:=aj) (ys:=Bk) (xs:=[]) oz cD J J J J J trivial J fun l c=>aG J<|bG h fun x q_x h=>cM cD J J J J oz J J (ht J) (ht J) q_x fun l1 c1=>bB J<|aw<|ap ?_;cases so h;exact el J J
theorem ja(n:ai)(kinds:(List Int))(l:(List bb)){R:bb}(h:eB n kinds l=some R):bo aX 106 [tD aj n,dE kinds,dS (ah) l] (tD ah R):=by
 refine bo.of Tryz.func106 J J J fun w0 S0=>ay<|n7 (ht J) J fun b=>bj (r:=ah) (x:=fc) bt (fun _=>dz _) J fun b1=>aw<|ay<|zo J (d3 1 fM J J J)<|bQ<|au bD J lu J (ht J) hI<|zo J (d3 2 ko J J J)<|au bD J kd J (ht J) hI<|aw<|ay<|aG J<|aG J<|bG h fun e q_e h=>zo J (aO nD bt J (ht J) hI q_e)<|zo J (cc ne hT J J)<|zo J (bq bD J J) ?_;refine bM true aj 72<|zo J (cr (y:=iN (⟨[],kinds,e.at_,[]⟩:bb) (aC none 0 (Bk.length))) bt IF xj (⟨_,_,_,_,_,J,Aa,J,(ht J),⟨_,_,_,_,_,J,z8,J,(ht J),J⟩⟩))<|bM true aj 72<|bj (r:=f9) (x:=iN fc (aC none 0 (Bk.length))) bt xj J fun b2=>du<|bQ<|iD bt J (kr J) J (ht J) (ht J)<|du<|zA<|aw<|ae<|ay<|aG J<|zo J (fV nD J)<|zo J (bv hI)<|aw<|ax<|bh (k:=21) J fun hN=>bF<|ep<|ep ?_;refine lM<|lM ?_;refine aT (qW (Z:=fun ls i n1 out l1 c=>(l.drop i=ls)∧jG ls i n1 out=some R) (Of:=fun _ i n1 out l1 c=>[bx aj 72 b n1,bx ah 95 b1 fc,bx f9 95 b2 (iN out (aC l1 c out.nodes.length)),bV aj 72 l1 c out.nodes]) (Gf:=fun _ i n1 out l1 c=>[(3,tV (aE b 0)),(6,tV (aE b1 0)),(7,tV (aE b2 0)),(21,dS (ah) l),(22,f7 l),(23,bK (i:Int))]) (fun i n1 out l1 c h=>?_) (fun e1 tl ih i n1 out l1 c h=>?_) l 0 (ai.mk n.Op kM kM n.Table n.Kinds n.Left n.Cond n.Keys n.Aggs n.Items n.Order n.Limit) ({(⟨[],kinds,e.at_,[]⟩:bb)with nodes:=Bk}:bb) none 0 ⟨J,h⟩) (bn J)
 ·obtain⟨hx,h⟩:=h
  refine aA<|ay<|zo J (em J J)<|aw<|ae<|bz (ht J) (da hx)<|bk ?_;refine ac (ac (aM ?_));refine aq<|ay<|zo rfl (d3 0 ot rfl rfl rfl)<|zo rfl (lB kE mb (.tail _ (.tail _ (.head _))) (.tail _ (.tail _ (.tail _ (.head _)))) rfl (ht rfl))<|zo rfl (aW cD rfl rfl bp (.head _) (ht rfl))<|zo rfl (aS (r:=aj) (ys:=[n1]) (xs:=[.tmp 77]) oz cD J J J J J ⟨(ht J),aV⟩)<|cY<|bG h fun l2 q_l2 h=>nm cD J J J J oz J J (ht J) (ht J) q_l2 fun l3 c1=>zo J (d3 0 ot J J J)<|cY<|iD kE J (my _ _ _) J (ht J) (F2 (vJ (ht J)))<|aw<|ay<|bQ<|zo J (m5 (q:=ah) (y:=({out with nodes:=l2}:bb)) bt J J J J (.tail _ (.head _)) (fun _ _ _ ho h=>wA (q9 ho (.head _)) h) (ht J))<|cY<|au bt J al J (ht J) (ht J)<|bg 6 J<|aw ?_;refine ap<|ba<|ba<|ba ?_;cases so h;exact iI J bt J J J
 ·obtain⟨hx,h⟩:=h
  refine aA<|ay<|zo J (em J J)<|aw<|ae<|bw (ht J) (c9 hx)<|dB<|ae<|ax<|ay<|aG J<|zo J (jA nD bt J J J (cV hx))<|zo J (bq bt J J)<|bj (r:=ah) (x:=fc) bt (fun _=>dz _) J fun b3=>bB J<|au bt J al J (ht J) (ht J)<|bg 9 J<|aw<|ae ?_;refine am<|zo J (d3 0 ot J J J)<|zo J (lB kE mb (.tail _ (.tail _ (.head _))) (.tail _ (.tail _ (.tail _ (.head _)))) J (ht J))<|zo J (bY oz (iR (ht J)))<|bB J<|aw<|ae<|ay<|zo J (cc ot uh J J)<|zo J (bq kE J J)<|bG h fun r q_r h=>hY Lj (Fp _ q_r) ⟨(ht J),aV⟩ J fun l4 c2=>zo J (eJ oz (.head _) (ht J))<|zo J (bv hI)<|aw<|ax<|iF (.head _) fun hN1=>bF ?_;refine aT (jx (Z:=fun ls1 i1 out1 l5 c3=>(r.drop i1=ls1)∧jF (jG tl) i n1 out ls1 out1=some R) (Of:=fun _ i1 out1 l5 c3=>[d9 aj 72 l4 c2 r,bx aj 72 b n1,bx ah 95 b1 fc,bx f9 95 b2 (iN out1 (aC l5 c3 out1.nodes.length)),bV aj 72 l5 c3 out1.nodes]) (Gf:=fun _ i1 out1 l5 c3=>[(3,tV (aE b 0)),(6,tV (aE b1 0)),(7,tV (aE b2 0)),(8,bK (i:Int)),(10,f7 out.nodes),(21,dS (ah) l),(22,f7 l),(23,bK (i:Int)),(33,mg l4 c2 r),(34,f7 r),(35,bK (i1:Int))]) (fun i1 out1 l5 c3 h=>?_) (fun e2 tl1 ih1 i1 out1 l5 c3 h=>?_) r 0 out l1 c ⟨J,h⟩) (bn J)
  ·obtain⟨hx1,h⟩:=h
   refine aA<|ay<|zo J (em J J)<|aw<|ae<|bz (ht J) (da hx1)<|bk ?_;refine ac (ac (aM ?_));refine aq<|ay<|aG rfl<|zo rfl (jS rfl)<|aw<|db h rfl (fun h=>?_) (fun h=>?_)
   ·refine am<|zo J (d3 0 ot J J J)<|zo J (lB kE mb (.tail _ (.tail _ (.tail _ (.head _)))) (.tail _ (.tail _ (.tail _ (.tail _ (.head _))))) J (ht J))<|zo J (bY oz (iR (ht J)))<|zo J (fb (ht J) hI)<|zo J (d3 1 fM J J J)<|bQ<|au bD J lu J (ht J) (ht J)<|aQ<|an<|aq<|am<|zo rfl (jY (cG hx hN) rfl)<|aG rfl<|aQ<|bU<|ba ?_;exact bf (aT (ih (i+1) (ai.mk n1.Op (IntKind.i64.wrap ((out1.nodes.length:Int)-(1:Int))) n1.B n1.Table n1.Kinds n1.Left n1.Cond n1.Keys n1.Aggs n1.Items n1.Order n1.Limit) out1 l5 c3 ⟨cF hx,h⟩) (bn J))
   ·refine am<|zo J (d3 0 ot J J J)<|zo J (lB kE mb (.tail _ (.tail _ (.tail _ (.head _)))) (.tail _ (.tail _ (.tail _ (.tail _ (.head _))))) J (ht J))<|zo J (bY oz (iR (ht J)))<|zo J (fb (ht J) hI)<|zo J (d3 2 ko J J J)<|bQ<|au bD J kd J (ht J) (ht J)<|aQ<|an<|aq<|am<|zo rfl (jY (cG hx hN) rfl)<|aG rfl<|aQ<|bU<|ba ?_;exact bf (aT (ih (i+1) (ai.mk n1.Op n1.A (IntKind.i64.wrap ((out1.nodes.length:Int)-(1:Int))) n1.Table n1.Kinds n1.Left n1.Cond n1.Keys n1.Aggs n1.Items n1.Order n1.Limit) out1 l5 c3 ⟨cF hx,h⟩) (bn J))
  ·obtain⟨hx1,h⟩:=h
   refine aA<|ay<|zo J (em J J)<|aw<|ae<|bw (ht J) (c9 hx1)<|dB<|ae<|ax<|ay<|zo J (cj oz cD (.head _) (ht J) (ht J) (cV hx1))<|zo J (d8 (r:=aj) (i:=(i1:Int)) (foff:=0) cD J J bp J (.head _) (cV hx1) (ht J))<|bj (r:=aj) (x:=vG) cD (fun _=>gX _) J fun b4=>au cD J al J (ht J) (ht J)<|aw ?_;refine ge (Z:=fun x=>pk out (jF (jG tl) i n1 out tl1) out1 x=some R) (Of:=fun x=>[d9 aj 72 l4 c2 r,bx aj 72 b n1,bx ah 95 b1 fc,bx aj 72 b4 x,bx f9 95 b2 (iN out1 (aC l5 c3 out1.nodes.length)),bV aj 72 l5 c3 out1.nodes]) (Gf:=fun x=>[(3,tV (aE b 0)),(6,tV (aE b1 0)),(7,tV (aE b2 0)),(8,bK (i:Int)),(10,f7 out.nodes),(12,tV (aE b4 0)),(21,dS (ah) l),(22,f7 l),(23,bK (i:Int)),(33,mg l4 c2 r),(34,f7 r),(35,bK (i1:Int))]) (fun x h=>?_) (fun K=>?_)
   ·skip
    refine ge (Z:=fun x1=>pj (jF (jG tl) i n1 out tl1) out1 x1=some R) (Of:=fun x1=>[d9 aj 72 l4 c2 r,bx aj 72 b n1,bx ah 95 b1 fc,bx aj 72 b4 x1,bx f9 95 b2 (iN out1 (aC l5 c3 out1.nodes.length)),bV aj 72 l5 c3 out1.nodes]) (Gf:=fun x1=>[(3,tV (aE b 0)),(6,tV (aE b1 0)),(7,tV (aE b2 0)),(8,bK (i:Int)),(10,f7 out.nodes),(12,tV (aE b4 0)),(21,dS (ah) l),(22,f7 l),(23,bK (i:Int)),(33,mg l4 c2 r),(34,f7 r),(35,bK (i1:Int))]) (fun x1 h=>?_) (fun K1=>?_)
    ·skip
     refine am<|zo J (d3 0 ot J J J)<|zo J (lB kE mb (.tail _ (.tail _ (.tail _ (.tail _ (.head _))))) (.tail _ (.tail _ (.tail _ (.tail _ (.tail _ (.head _)))))) J (ht J))<|zo J (aW cD J J bp (.tail _ (.tail _ (.tail _ (.head _)))) (ht J))<|zo J (aS (r:=aj) (ys:=[x1]) (xs:=[.tmp 57]) oz cD J J J J J ⟨(ht J),aV⟩)<|rk<|bG h fun l6 q_l6 h=>nm cD J J J J oz J J (ht J) (ht J) q_l6 fun l7 c4=>zo J (d3 0 ot J J J)<|rk<|iD kE J (my _ _ _) J (ht J) (F2 (vJ (ht J)))<|aQ<|an<|aq<|am<|zo rfl (jY (cG hx1 hN1) rfl)<|aG rfl<|aQ<|cg<|ba<|bU<|bU<|cu<|cu ?_;refine cu ?_;exact bf (aT (ih1 (i1+1) ({out1 with nodes:=l6}:bb) l7 c4 ⟨cF hx1,h⟩) (bn J))
    ·skip
     refine ay<|zo J (d3 2 ko J J J)<|zo J (aW bD J J fK (.tail _ (.tail _ (.tail _ (.head _)))) (ht J))<|zo J (dm (ht J) hI)<|aw<|db h J (fun h=>?_) (fun h=>?_)
     ·refine am<|zo J (d3 2 ko J J J)<|zo J (aW bD J J fK (.tail _ (.tail _ (.tail _ (.head _)))) (ht J))<|aG J<|zo J (jp (ht J) (ht J))<|zo J (d3 2 ko J J J)<|cY<|au bD J kd J (ht J) (ht J)<|aQ<|cg<|cg<|av<|cg<|cg<|cg ?_;exact ce (K1 (ai.mk x.Op x.A (IntKind.i64.wrap (x.B+(out.nodes.length:Int))) x.Table x.Kinds x.Left x.Cond x.Keys x.Aggs x.Items x.Order x.Limit) h) (bn J)
     ·refine bE ?_;exact ce (K1 x h) (bn J)
   ·skip
    refine ay<|zo J (d3 1 fM J J J)<|zo J (aW bD J J dn (.head _) (ht J))<|zo J (dm (ht J) hI)<|aw<|db h J (fun h=>?_) (fun h=>?_)
    ·refine am<|zo J (d3 1 fM J J J)<|zo J (aW bD J J dn (.head _) (ht J))<|aG J<|zo J (jp (ht J) (ht J))<|zo J (d3 1 fM J J J)<|au bD J lu J (ht J) (ht J)<|aQ<|cg<|cg<|av<|cg<|cg<|cg ?_;exact ce (K (ai.mk e2.Op (IntKind.i64.wrap (e2.A+(out.nodes.length:Int))) e2.B e2.Table e2.Kinds e2.Left e2.Cond e2.Keys e2.Aggs e2.Items e2.Order e2.Limit) h) (bn J)
    ·refine bE<|cg<|cg<|av<|cg<|cg<|cg ?_;exact ce (K e2 h) (bn J)

theorem nV(s:bb)(columns:(List Int)){R:bb}(h:ej s columns=some R):bo aX 107 [tD ah s,dE columns] (tD ah R):=by
 refine bo.of Tryz.func107 J J J fun w0 S0=>ay<|n7 (ht J) J fun b=>bj (r:=ah) (x:=fc) bt (fun _=>dz _) J fun b1=>aw<|ay<|aG J<|zo J (d3 3 km J J J)<|bQ<|au cy J q0 J (ht J) (ht J)<|aw<|ay<|zo J (aW (x:=(bb.mk s.nodes s.kinds s.at_ columns)) bt J J bp (.head _) (ht J))<|bQ<|au bt J al J (ht J) (ht J)<|bg 4 J<|aw<|ap ?_;refine ba ?_;cases so h;exact iI J bt J J J

theorem Kx(b:Nat)(ix:OI)(p:aD)(n:ai)(kinds:(List Int))(l:(List bb)){R:bb}(h:jU p n kinds l=some R):cA aX 67 [tV (aE b 0),tD aj n,dE kinds,dS (ah) l] (d5 b p ix) (fun _:OI=>tD ah R) (fun _=>(d5 b p ix)):=by
 refine cA.of Tryz.func67 J J J fun w0 S0=>?_;refine(show CG _ _ _ [bx (rH aJ [(0,aC (ix.h 0).1 (ix.h 0).2 p.Plan.Frags.length),(3,aC (ix.h 1).1 (ix.h 1).2 p.kinds.length)]) 91 b p,bV aR 74 (ix.h 0).1 (ix.h 0).2 p.Plan.Frags,bV dK 42 (ix.h 1).1 (ix.h 1).2 p.kinds] _ from ?_);refine ay<|zo J (gP J)<|bj (r:=ah) (x:=fc) bt (fun _=>dz _) J fun b1=>aw<|ae<|bG h fun e q_e h=>bG h fun r q_r h=>bG h fun r1 q_r1 h=>?_
 refine hZ 12 (ts:=[tD aj n,dE kinds,dS (ah) l,bl ah e,tD ah e,dS (ah) ([e]),tD ah r,dS (ah) l,bl ah e,bl dK e.hashed,dE e.hashed,tD ah r1]) mixed J J J
  ⟨dT 5 J J J (bq cD J J),
  ⟨dT 2 J J J (cn J),
  ⟨dT 3 J J J (cn J),
  ⟨cP 11 2 J J J (aO nD bt J (ht J) hI q_e),
  ⟨cP 12 3 J J J (bq bt J J),
  ⟨cP 13 4 J J J (aS (r:=ah) (ys:=[e]) (xs:=[.tmp 13]) nD bt J J J J J ⟨(ht J),aV⟩),
  ⟨rt 9 0 10 1 14 5 J J J J J (aF nY (ja _ _ _ q_r) ⟨(ht J),(ht J),(ht J),aV⟩),
  ⟨dT 3 J J J (cn J),
  ⟨cP 16 7 J J J (aO nD bt J (ht J) hI q_e),
  ⟨cP 17 8 J J J (cc km fF J J),
  ⟨cP 18 9 J J J (bq cy J J),
  ⟨dL 15 6 19 10 J J J J (aF uX (nV _ _ q_r1) ⟨(ht J),(ht J),aV⟩),
  aV⟩⟩⟩⟩⟩⟩⟩⟩⟩⟩⟩⟩ ?_
 refine au bt J al J (ht J) (ht J)<|bg 8 J<|aw<|ap<|av<|av<|av ?_;cases so h;exact eu J bt J J J lm J J

theorem G5(s:(List Int))(v:Int){R:Int}(h:lW s v=some R):bo aX 179 [dE s,bK v] (bK R):=by
 refine bo.of Tryz.func179 J J J fun w0 S0=>ay<|zo J (dW)<|aw<|ae<|ay<|aG J<|zo J (fV cW J)<|zo J (bv hI)<|aw<|ax<|bh (k:=6) J fun hN=>bF ?_;refine aT (dH (Z:=fun ls i=>(s.drop i=ls)∧gZ v ls i=some R) (Of:=fun _ i=>[]) (Gf:=fun _ i=>[(0,dE s),(1,bK v),(7,f7 s),(8,bK (i:Int))]) (fun i h=>?_) (fun e tl ih i h=>?_) s 0 ⟨J,h⟩) (bn J)
 ·obtain⟨hx,h⟩:=h
  refine aA<|ay<|zo J (em J J)<|aw<|ae<|bz (ht J) (da hx)<|bk ?_;refine ac (ac (aM ?_));refine aq<|ay<|zo rfl (dW)<|aw<|ap ?_;cases so h;exact aU J J
 ·obtain⟨hx,h⟩:=h
  refine aA<|ay<|zo J (em J J)<|aw<|ae<|bw (ht J) (c9 hx)<|dB<|ae<|ax<|ay<|aG J<|bB J<|aw<|ay<|aG J<|aG J<|aG J<|zo J (jA cW bD J J J (cV hx)) ?_;refine zo J (bq bD J J)<|zo J (bW (ht J) (ht J))<|aw<|db h J (fun h=>?_) (fun h=>?_)
  ·refine ay<|aG J<|bB J<|aw<|ap ?_;refine aH (M (M (aH (M ?_))));cases so h;exact aU J J
  ·refine bE<|an<|aq<|am<|zo rfl (jY (cG hx hN) rfl)<|aG rfl<|aQ ?_;exact bf (aT (ih (i+1) ⟨cF hx,h⟩) (bn J))

end Go.Proofs.YtnmjbolollcokaaGreatDoor

