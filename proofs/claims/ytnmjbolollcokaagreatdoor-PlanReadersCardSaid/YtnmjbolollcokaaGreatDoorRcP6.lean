/- cR of this claim: P6. -/
import Derived.Test.YtnmjbolollcokaaGreatDoorRcT
import Derived.Test.YtnmjbolollcokaaGreatDoorRcP5
set_option linter.all false
namespace Go.Proofs.YtnmjbolollcokaaGreatDoor
open Go
set_option maxRecDepth 100000

theorem Sl(l:bK)(place:Int){R:bK×Int}(h:uA l place=some R):bA bc 34 [tD cH l,cm place] (tT [tD cH R.1,cm R.2]):=by
 refine bA.of Tryz.func34 J J J fun w0 S0=>aA<|zo J (l9 J)<|bh (r:=cH) (x:=Gi) pc (fun _=>pX _) J fun b=>zo J (gv)<|ax<|aA<|zo J (bH pc J J)<|bT h fun r q_r h=>zo J (aL SQ (Ji _ q_r) ⟨(ht J),aV⟩)<|aJ J<|zo J (mA J J)<|zo J (mA J J)<|zo J (mA J J)<|bN J<|bN J<|bN J<|ax<|af<|aB ?_;refine aA<|aJ J<|zo J (gj (ht J))<|bN J<|ax<|eE h J (fun h=>?_) (fun h=>?_)
 ·refine aA<|zo J (c0 (y:=Gi) pc RY pX (J))<|ap pc J aj J (ht J) (ht J)<|zo J (gv)<|ax<|av ?_;refine aF (aa ?_);refine ck 4 J ?_;cases so h;exact mO J J ⟨gb pc J J J,dl J,aV⟩
 ·refine aA<|aJ J<|zo J (iA (ht J) hI)<|aJ J<|dQ J J (fun hg=>dw J)<|dQ J J (fun hg=>cQ pz js J J)<|dQ J J (fun hg=>bD pe J J (bB J hg))<|dQ J J (fun hg=>cA ly (bB J hg))<|dQ J J (fun hg=>fF (bB J hg) (bB J hg))<|zo J (ua J J)<|bN J<|ax<|eE h J (fun h=>?_) (fun h=>?_)
  ·refine aA<|zo J (c0 (y:=Gi) pc RY pX (J))<|ap pc J aj J (ht J) (ht J)<|zo J (gv)<|ax<|av ?_;refine aF (aa ?_);refine ck 4 J ?_;cases so h;exact mO J J ⟨gb pc J J J,dl J,aV⟩
  ·refine bO<|an<|aw<|aA<|cj true ai 72<|bh (r:=nr) (x:=pw Gi (aD none 0 (Ie.length))) pc Ib J fun b1=>ax<|af<|aA<|aJ J<|zo J (Fg (ht J))<|zo J (cQ sG y0 J J)<|zo J (bH cS J J)<|aJ J<|bT h fun e q_e h=>zo J (nY d8 ce J J J q_e)<|zo J (bH ce J J)<|bN J<|ax<|aB ?_;refine bU<|ip<|ip<|mN ?_;refine aW (F1 (Z:=fun n i out l1 c=>lP l place e n i out=some R) (Of:=fun i out l1 c=>[bx cH 24 b Gi,bx nr 24 b1 (pw out (aD l1 c out.Nodes.length)),cv ai 72 l1 c out.Nodes]) (Gf:=fun i out l1 c=>[(1,cm place),(2,bw cH l),(4,tV (aE b 0)),(6,bw aZ r.1),(9,tV (aE b1 0)),(10,cm i)]) (fun i out l1 c h=>nn h) (fun n ih i out l1 c h=>?_) dj e ({Gi with Nodes:=Ie}:bK) none 0 h) (bu J);refine aC<|af<|aA<|aJ J<|aJ J<|zo J (lT (ht J) (ht J))<|ax<|eE h J (fun h=>?_) (fun h=>?_)
   ·refine fO<|af<|aB<|bT h fun e1 q_e1 h=>bT h fun r1 q_r1 h=>?_
    refine lH 17 (ts:=[tV (aE b1 0),tO ai l1 c out.Nodes,bw C1 l.Nodes,fZ (ai) l.Nodes,cm i,bw ai e1,tD ai e1,bw aZ r.1,bw aZ r.1,bw fk r.1.first,fP r.1.first,cm place,bw cn e,cm e,cm (IntKind.i64.wrap (0-e)),tD ai r1,fZ (ai) ([r1])]) mixed J J J
     ⟨gK 9 J J J (fX 0 pz J J J),
     ⟨dR 44 0 J J J (pr pe Fu (.tail _ (.head _)) (.tail _ (.tail _ (.head _))) J (ht J)),
     ⟨gK 2 J J J (cQ pz js J J),
     ⟨dR 46 2 J J J (bH pe J J),
     ⟨gK 10 J J J (dw J),
     ⟨gL 47 3 48 4 J J J J (nY ly dg J J J q_e1),
     ⟨dR 49 5 J J J (bH dg J J),
     ⟨gK 6 J J J (dw J),
     ⟨dR 51 7 J J J (Fg (ht J)),
     ⟨dR 52 8 J J J (cQ sG y0 J J),
     ⟨dR 53 9 J J J (bH cS J J),
     ⟨gK 1 J J J (dw J),
     ⟨gL 54 10 55 11 J J J J (nY d8 ce J J J q_e),
     ⟨dR 56 12 J J J (bH ce J J),
     ⟨dR 57 13 J J J (RK (ht J)),
     ⟨gL 50 6 58 14 J J J J (aL V1 (R9 _ _ q_r1) ⟨(ht J),(ht J),aV⟩),
     ⟨dR 59 15 J J J (aQ (r:=ai) (ys:=[r1]) (xs:=[.tmp 59]) ly dg J J J J J ⟨(ht J),aV⟩),
     aV⟩⟩⟩⟩⟩⟩⟩⟩⟩⟩⟩⟩⟩⟩⟩⟩⟩ ?_
    refine eI<|bT h fun l2 q_l2 h=>rJ dg J J J J ly J J (ht J) (ht J) q_l2 fun l3 c1=>zo J (fX 0 pz J J J)<|eI<|lu pe J (vm _ _ _) J (ht J) (OK (BY (ht J)))<|aR<|an<|aw<|am<|aJ rfl<|zo rfl (pt (ht rfl) hI)<|bN rfl<|aR<|cu<|cu<|au ?_;exact bj (aW (ih (IntKind.i64.wrap (i+(1:Int))) ({out with Nodes:=l2}:bK) l3 c1 h) (bu J))
   ·refine bt ?_;refine ac (ac (aN ?_));refine aw<|aA<|eI<|zo rfl (rs (q:=cH) (y:=out) pc J J J J (.tail _ (.tail _ (.head _))) (fun _ _ _ ho h=>Bh (wv ho (.head _)) h) (ht J))<|cb<|ap pc J aj J (ht J) (ht J)<|zo J (gv)<|ax<|av<|ck 4 J<|bb<|bb ?_;cases so h;exact mO J J ⟨gb pc J J J,dl J,aV⟩

theorem AP(b:Nat)(ix:OI)(p:ay)(s:aG)(way:Int)(cols:(List Int)){R:aG×ay}(h:dm p s way cols=some R):c9 bc 65 [tV (aE b 0),tD ah s,cm way,fP cols] (fY b p ix) (fun _:OI=>tD ah R.1) (fun j=>fY b R.2 j):=by
 refine c9.of Tryz.func65 J J J fun w0 S0=>?_;refine(show CG _ _ _ [bx (rH aI [(0,aD (ix.h 0).1 (ix.h 0).2 p.Plan.Frags.length),(3,aD (ix.h 1).1 (ix.h 1).2 p.kinds.length)]) 91 b p,cv aP 74 (ix.h 0).1 (ix.h 0).2 p.Plan.Frags,cv fk 42 (ix.h 1).1 (ix.h 1).2 p.kinds] _ from ?_);refine aA<|zo J (l9 J)<|bh (r:=ah) (x:=iF) bv (fun _=>eO _) J fun b1=>ax<|af<|bT h fun r q_r h=>bT h fun l q_l h=>?_
 refine j6 16 [tc (tV (aE b 0)),tc (tV (aE b 0)),tc (tV (aE b 0)),tc (tV (aE b 0)),tc (tV (aE b 0)),tc (tO aP (ix.h 0).1 (ix.h 0).2 p.Plan.Frags),tc (bw C1 s.nodes),tc (fZ (ai) s.nodes),tc (bw cn s.at_),tc (cm s.at_),tc (cm way),tc (fP cols),tc (fP r),tc (tD aP (⟨s.nodes,s.at_,way,r⟩:bk)),tc (fZ (aP) ([(⟨s.nodes,s.at_,way,r⟩:bk)])),([15],fun s=>tO aP ((s.getD 0 o7).h 0).1 ((s.getD 0 o7).h 0).2 l)] [false,false,false,false,false,false,false,false,false,false,false,false,false,false,false,true] [fun _=>[bx ah 95 b1 iF,bx (rH aI [(0,aD (ix.h 0).1 (ix.h 0).2 p.Plan.Frags.length),(3,aD (ix.h 1).1 (ix.h 1).2 p.kinds.length)]) 91 b p,cv aP 74 (ix.h 0).1 (ix.h 0).2 p.Plan.Frags,cv fk 42 (ix.h 1).1 (ix.h 1).2 p.kinds],fun sg=>[cv aP 74 ((sg 15).h 0).1 ((sg 15).h 0).2 l,bx ah 95 b1 iF,bx (rH aI [(0,aD (ix.h 0).1 (ix.h 0).2 p.Plan.Frags.length),(3,aD (ix.h 1).1 (ix.h 1).2 p.kinds.length)]) 91 b p,cv fk 42 (ix.h 1).1 (ix.h 1).2 p.kinds]] J mixed J J J J J
  ⟨⟨[⟨0,fun _=>tV (aE b 0),none⟩],_,0,1,J,⟨(fun _=>J),aV⟩,J,J,J,J,J,fun _ sg _ _=>ae J (dw J)⟩,
  ⟨⟨[⟨0,fun _=>tV (aE b 0),none⟩],_,0,0,J,⟨(fun _=>J),aV⟩,J,J,J,J,J,fun _ sg _ _=>ae J (dw J)⟩,
  ⟨⟨[⟨12,fun _=>tV (aE b 0),some 1⟩],_,0,0,J,⟨(fun _=>J),aV⟩,J,J,J,J,J,fun _ sg _ _=>ae J (dD (ht J))⟩,
  ⟨⟨[⟨13,fun _=>tV (aE b 0),some 2⟩],_,0,0,J,⟨(fun _=>J),aV⟩,J,J,J,J,J,fun _ sg _ _=>ae J (fX 0 vV J J J)⟩,
  ⟨⟨[⟨14,fun _=>tV (aE b 0),some 3⟩],_,0,0,J,⟨(fun _=>J),aV⟩,J,J,J,J,J,fun _ sg _ _=>ae J (fX 0 lj J J J)⟩,
  ⟨⟨[⟨15,fun _=>tV (aE b 0),some 4⟩],_,0,0,J,⟨(fun _=>J),aV⟩,J,J,J,J,J,yo (fun sg=>ae J (dL tA J (.tail _ (.head _)) (.tail _ (.tail _ (.head _))) (ht J)))⟩,
  ⟨⟨[⟨5,fun _=>bw ah s,none⟩],_,0,0,J,⟨(fun _=>J),aV⟩,J,J,J,J,J,fun _ sg _ _=>ae J (cQ te z7 J J)⟩,
  ⟨⟨[⟨17,fun _=>bw C1 s.nodes,some 6⟩],_,0,0,J,⟨(fun _=>J),aV⟩,J,J,J,J,J,fun _ sg _ _=>ae J (bH pe J J)⟩,
  ⟨⟨[⟨5,fun _=>bw ah s,none⟩],_,0,0,J,⟨(fun _=>J),aV⟩,J,J,J,J,J,fun _ sg _ _=>ae J (cQ rD kM J J)⟩,
  ⟨⟨[⟨19,fun _=>bw cn s.at_,some 8⟩],_,0,0,J,⟨(fun _=>J),aV⟩,J,J,J,J,J,fun _ sg _ _=>ae J (bH ce J J)⟩,
  ⟨⟨[⟨2,fun _=>tD cn way,none⟩],_,0,0,J,⟨(fun _=>J),aV⟩,J,J,J,J,J,fun _ sg _ _=>ae J (dw J)⟩,
  ⟨⟨[⟨3,fun _=>tD n8 cols,none⟩],_,0,0,J,⟨(fun _=>J),aV⟩,J,J,J,J,J,fun _ sg _ _=>ae J (dw J)⟩,
  ⟨⟨[⟨22,fun _=>tD n8 cols,some 11⟩],_,0,0,J,⟨(fun _=>J),aV⟩,J,J,J,J,J,fun _ sg _ _=>ae J (aL HM (FI _ q_r) ⟨(ht J),aV⟩)⟩,
  ⟨⟨[⟨18,fun _=>tD C1 s.nodes,some 7⟩,⟨20,fun _=>tD cn s.at_,some 9⟩,⟨21,fun _=>tD cn way,some 10⟩,⟨23,fun _=>tD n8 r,some 12⟩],_,0,0,J,⟨(fun _=>J),(fun _=>J),(fun _=>J),(fun _=>J),aV⟩,J,J,J,J,J,fun _ sg _ _=>ae J (c0 (y:=(⟨s.nodes,s.at_,way,r⟩:bk)) re TK Bp (⟨_,_,_,_,_,J,DV,J,(ht J),⟨_,_,_,_,_,J,DU,J,(ht J),⟨_,_,_,_,_,J,DQ,J,(ht J),⟨_,_,_,_,_,J,Lb,J,(ht J),J⟩⟩⟩⟩))⟩,
  ⟨⟨[⟨24,fun _=>tD aP (⟨s.nodes,s.at_,way,r⟩:bk),some 13⟩],_,0,0,J,⟨(fun _=>J),aV⟩,J,J,J,J,J,fun _ sg _ _=>ae J (aQ (r:=aP) (ys:=[(⟨s.nodes,s.at_,way,r⟩:bk)]) (xs:=[.tmp 24]) rZ re J J J J J ⟨(ht J),aV⟩)⟩,
  ⟨⟨[⟨16,fun _=>tO aP (ix.h 0).1 (ix.h 0).2 p.Plan.Frags,some 5⟩,⟨25,fun _=>tD (eU aP) ([(⟨s.nodes,s.at_,way,r⟩:bk)]),some 14⟩],_,J,⟨(fun _=>J),(fun _=>J),aV⟩,J,J,J,fun sg=>cy J (EffOK.fr2 (sK re J J J J rZ J (ht J) (ht J) q_l))⟩,
  aV⟩⟩⟩⟩⟩⟩⟩⟩⟩⟩⟩⟩⟩⟩⟩⟩ (fun sg=>?_)
 refine(show RG _ _ _ _ [cv aP 74 ((sg 15).h 0).1 ((sg 15).h 0).2 l,bx ah 95 b1 iF,bx (rH aI [(0,aD (ix.h 0).1 (ix.h 0).2 p.Plan.Frags.length),(3,aD (ix.h 1).1 (ix.h 1).2 p.kinds.length)]) 91 b p,cv fk 42 (ix.h 1).1 (ix.h 1).2 p.kinds] _ from ?_);refine zo J (dD (ht J))<|zo J (fX 0 vV J J J)<|zo J (fX 0 lj J J J)<|sN (EffOK.fr2 (rF (hs' :=[(0,aD ((sg 15).h 0).1 ((sg 15).h 0).2 l.length),(3,aD (ix.h 1).1 (ix.h 1).2 p.kinds.length)]) (u:=aD ((sg 15).h 0).1 ((sg 15).h 0).2 l.length) tA J J (wn uG yy DP) J ⟨.inl ⟨J,J,J⟩,.inr ⟨J,J⟩,aV⟩ (ht J) (ma (ht J)) (BY (ht J)))) fun i=>?_;refine(show RG _ _ _ _ [bx (rH aI [(0,aD ((sg 15).h 0).1 ((sg 15).h 0).2 l.length),(3,aD (ix.h 1).1 (ix.h 1).2 p.kinds.length)]) 91 b ({p with Plan:=({p.Plan with Frags:=l}:cC)}:ay),cv aP 74 ((sg 15).h 0).1 ((sg 15).h 0).2 l,bx ah 95 b1 iF,cv fk 42 (ix.h 1).1 (ix.h 1).2 p.kinds] _ from ?_);refine ax<|af<|bT h fun r1 q_r1 h=>?_
 refine j6 12 [tc (tV (aE b 0)),tc (tV (aE b 0)),tc (tV (aE b 0)),tc (tV (aE b 0)),tc (tO aP ((sg 15).h 0).1 ((sg 15).h 0).2 l),tc (jB l),tc (cm (IntKind.i64.wrap ((l.length:Int)-(1:Int)))),tc (bw fk s.kinds),tc (fP s.kinds),tc (fP r1),tc (tD ai (⟨(9:Int),q9,q9,(IntKind.i64.wrap ((l.length:Int)-(1:Int))),r1,false,rb,[],[],[],[],(0:Int)⟩:M)),([11],fun s=>tV (aE ((s.getD 0 o7).h 0).2 0))] [false,false,false,false,false,false,false,false,false,false,false,true] [fun _=>[bx (rH aI [(0,aD ((sg 15).h 0).1 ((sg 15).h 0).2 l.length),(3,aD (ix.h 1).1 (ix.h 1).2 p.kinds.length)]) 91 b ({p with Plan:=({p.Plan with Frags:=l}:cC)}:ay),cv aP 74 ((sg 15).h 0).1 ((sg 15).h 0).2 l,bx ah 95 b1 iF,cv fk 42 (ix.h 1).1 (ix.h 1).2 p.kinds],fun sg1=>[bx ai 72 ((sg1 11).h 0).2 BN,bx (rH aI [(0,aD ((sg 15).h 0).1 ((sg 15).h 0).2 l.length),(3,aD (ix.h 1).1 (ix.h 1).2 p.kinds.length)]) 91 b ({p with Plan:=({p.Plan with Frags:=l}:cC)}:ay),cv aP 74 ((sg 15).h 0).1 ((sg 15).h 0).2 l,bx ah 95 b1 iF,cv fk 42 (ix.h 1).1 (ix.h 1).2 p.kinds]] J mixed J J J J J
  ⟨⟨[⟨0,fun _=>tV (aE b 0),none⟩],_,0,1,J,⟨(fun _=>J),aV⟩,J,J,J,J,J,fun _ sg1 _ _=>ae J (dw J)⟩,
  ⟨⟨[⟨30,fun _=>tV (aE b 0),some 0⟩],_,0,1,J,⟨(fun _=>J),aV⟩,J,J,J,J,J,fun _ sg1 _ _=>ae J (dD (ht J))⟩,
  ⟨⟨[⟨31,fun _=>tV (aE b 0),some 1⟩],_,0,1,J,⟨(fun _=>J),aV⟩,J,J,J,J,J,fun _ sg1 _ _=>ae J (fX 0 vV J J J)⟩,
  ⟨⟨[⟨32,fun _=>tV (aE b 0),some 2⟩],_,0,1,J,⟨(fun _=>J),aV⟩,J,J,J,J,J,fun _ sg1 _ _=>ae J (fX 0 lj J J J)⟩,
  ⟨⟨[⟨33,fun _=>tV (aE b 0),some 3⟩],_,0,1,J,⟨(fun _=>J),aV⟩,J,J,J,J,J,EP (fun sg1=>ae J (dL tA J (.head _) (.tail _ (.head _)) (ht J))) (yo (fun sg1=>ae J (dL tA J (.tail _ (.head _)) (.tail _ (.tail _ (.head _))) (ht J))))⟩,
  ⟨⟨[⟨34,fun _=>tO aP ((sg 15).h 0).1 ((sg 15).h 0).2 l,some 4⟩],_,0,1,J,⟨(fun _=>J),aV⟩,J,J,J,J,J,fun _ sg1 _ _=>ae J (cA rZ (ma (ht J)))⟩,
  ⟨⟨[⟨35,fun _=>tD cn (l.length:Int),some 5⟩],_,0,1,J,⟨(fun _=>J),aV⟩,J,J,J,J,J,fun _ sg1 _ _=>ae J (ib (ht J) hI)⟩,
  ⟨⟨[⟨5,fun _=>bw ah s,none⟩],_,0,1,J,⟨(fun _=>J),aV⟩,J,J,J,J,J,fun _ sg1 _ _=>ae J (cQ Jc z6 J J)⟩,
  ⟨⟨[⟨37,fun _=>bw n8 s.kinds,some 7⟩],_,0,1,J,⟨(fun _=>J),aV⟩,J,J,J,J,J,fun _ sg1 _ _=>ae J (bH cS J J)⟩,
  ⟨⟨[⟨38,fun _=>tD n8 s.kinds,some 8⟩],_,0,1,J,⟨(fun _=>J),aV⟩,J,J,J,J,J,fun _ sg1 _ _=>ae J (aL HM (FI _ q_r1) ⟨(ht J),aV⟩)⟩,
  ⟨⟨[⟨36,fun _=>tD cn (IntKind.i64.wrap ((l.length:Int)-(1:Int))),some 6⟩,⟨39,fun _=>tD n8 r1,some 9⟩],_,0,1,J,⟨(fun _=>J),(fun _=>J),aV⟩,J,J,J,J,J,fun _ sg1 _ _=>ae J (c0 (y:=(⟨(9:Int),q9,q9,(IntKind.i64.wrap ((l.length:Int)-(1:Int))),r1,false,rb,[],[],[],[],(0:Int)⟩:M)) dg Pn kD (⟨_,_,_,_,_,J,uk,J,hI,⟨_,_,_,_,_,J,pg,J,hI,⟨_,_,_,_,_,J,nq,J,hI,⟨_,_,_,_,_,J,xx,J,(ht J),⟨_,_,_,_,_,J,uj,J,(ht J),J⟩⟩⟩⟩⟩))⟩,
  ⟨⟨[],_,J,aV,J,J,J,fun sg1=>cy J (gI (r:=ai) (x:=BN) dg (fun _=>kD _))⟩,
  aV⟩⟩⟩⟩⟩⟩⟩⟩⟩⟩⟩⟩ (fun sg1=>?_)
 refine(show RG _ _ _ _ [bx ai 72 ((sg1 11).h 0).2 BN,bx (rH aI [(0,aD ((sg 15).h 0).1 ((sg 15).h 0).2 l.length),(3,aD (ix.h 1).1 (ix.h 1).2 p.kinds.length)]) 91 b ({p with Plan:=({p.Plan with Frags:=l}:cC)}:ay),cv aP 74 ((sg 15).h 0).1 ((sg 15).h 0).2 l,bx ah 95 b1 iF,cv fk 42 (ix.h 1).1 (ix.h 1).2 p.kinds] _ from ?_);refine ap dg J aj J (ht J) (ht J)<|bf 9 J<|ax<|aA<|zo J (gv)<|ax ?_;refine jK (Z:=fun at1=>jS p s cols l r1 at1=some R) (Of:=fun at1=>[bx ah 95 b1 iF,bx (rH aI [(0,aD ((sg 15).h 0).1 ((sg 15).h 0).2 l.length),(3,aD (ix.h 1).1 (ix.h 1).2 p.kinds.length)]) 91 b ({p with Plan:=({p.Plan with Frags:=l}:cC)}:ay),cv aP 74 ((sg 15).h 0).1 ((sg 15).h 0).2 l,cv fk 42 (ix.h 1).1 (ix.h 1).2 p.kinds]) (Gf:=fun at1=>[(3,fP cols),(5,bw ah s),(8,tV (aE b1 0)),(9,bw ai (⟨(9:Int),q9,q9,(IntKind.i64.wrap ((l.length:Int)-(1:Int))),r1,false,rb,[],[],[],[],(0:Int)⟩:M)),(10,cm at1)]) (fun at1 h=>?_) (fun K=>?_)
 ·skip
  refine aA<|zo J (bH dg J J)<|zo J (aQ (r:=ai) (ys:=[(⟨(9:Int),q9,q9,(IntKind.i64.wrap ((l.length:Int)-(1:Int))),r1,false,rb,[],[],[],[],(0:Int)⟩:M)]) (xs:=[.tmp 43]) ly dg J J J J J ⟨(ht J),aV⟩)<|zo J (cQ Jc z6 J J)<|zo J (bH cS J J)<|aJ J<|aJ J<|zo J (c0 (y:=(⟨[(⟨(9:Int),q9,q9,(IntKind.i64.wrap ((l.length:Int)-(1:Int))),r1,false,rb,[],[],[],[],(0:Int)⟩:M)],s.kinds,at1,cols⟩:aG)) bv RV eO (⟨_,_,_,_,_,J,DO,J,(ht J),⟨_,_,_,_,_,J,DN,J,(ht J),⟨_,_,_,_,_,J,DM,J,(ht J),⟨_,_,_,_,_,J,wo,J,(ht J),J⟩⟩⟩⟩))<|ap bv J aj J (ht J) (ht J)<|bf 8 J<|ax<|av<|au<|au<|au ?_;cases so h;exact gO J bv J J J (I3 [(((sg 15).h 0).1,((sg 15).h 0).2),((ix.h 1).1,(ix.h 1).2)]) J J
 ·skip
  refine aA<|aJ J<|zo J (mU J)<|ax<|eE h J (fun h=>?_) (fun h=>?_)
  ·refine am<|zo J (gv)<|aR<|bo<|au<|au<|bo ?_;exact cE (K (2:Int) h) (bu J)
  ·refine bO<|bo<|au<|au<|bo ?_;exact cE (K (1:Int) h) (bu J)

theorem Eo(b:Nat)(ix:OI)(p:ay)(s:aG){R:aG×ay}(h:cU p s=some R):c9 bc 35 [tV (aE b 0),tD ah s] (fY b p ix) (fun _:OI=>tD ah R.1) (fun j=>fY b R.2 j):=by
 refine c9.of Tryz.func35 J J J fun w0 S0=>?_;refine(show CG _ _ _ [bx (rH aI [(0,aD (ix.h 0).1 (ix.h 0).2 p.Plan.Frags.length),(3,aD (ix.h 1).1 (ix.h 1).2 p.kinds.length)]) 91 b p,cv aP 74 (ix.h 0).1 (ix.h 0).2 p.Plan.Frags,cv fk 42 (ix.h 1).1 (ix.h 1).2 p.kinds] _ from ?_);refine aA<|zo J (l9 J)<|bh (r:=ah) (x:=iF) bv (fun _=>eO _) J fun b1=>ax<|af<|aA<|zo J (cQ rD kM J J)<|zo J (bH ce J J)<|zo J (mU J)<|ax<|eE h J (fun h=>?_) (fun h=>?_)
 ·refine aA<|zo J (bH bv J J)<|ap bv J aj J (ht J) (ht J)<|ax<|av<|aa<|ck 4 J<|au<|au<|au ?_;cases so h;exact gO J bv J J J ix J J
 ·refine fO<|aA<|aJ J<|zo J (bH bv J J)<|bT h fun r q_r h=>lv (EffOK.fr3 (EffOK.fr3 (EffOK.fr3 (gr (xs:=[.tmp 9,.tmp 10,.const (.int .i64 (3)),.const (.slice none 0 0)]) (ts:=[tV (aE b 0),tD ah s,cm 3,fP ([])]) (fY b p ix) _ J HK (AP b ix p _ _ _ q_r) ⟨(ht J),(ht J),hI,lU,aV⟩ (fun _=>J))))) J fun i=>?_;refine(show RG _ _ _ _ [bx (rH aI [(0,aD (i.h 0).1 (i.h 0).2 r.2.Plan.Frags.length),(3,aD (i.h 1).1 (i.h 1).2 r.2.kinds.length)]) 91 b r.2,cv aP 74 (i.h 0).1 (i.h 0).2 r.2.Plan.Frags,cv fk 42 (i.h 1).1 (i.h 1).2 r.2.kinds,bx ah 95 b1 iF] ((11,tD ah r.1)::_)from ?_);refine dI<|ap bv J aj J (ht J) (ht J)<|ax<|av<|ck 4 J<|au<|au<|au ?_;cases so h;exact gO J bv J J J i J J

theorem TY(b:Nat)(ix:OI)(p:ay)(n:M)(kinds:(List Int))(x:(List aG)){R:aG}(h:ij p n kinds x=some R):c9 bc 66 [tV (aE b 0),tD ai n,fP kinds,fZ (ah) x] (fY b p ix) (fun _:OI=>tD ah R) (fun _=>(fY b p ix)):=by
 refine c9.of Tryz.func66 J J J fun w0 S0=>?_;refine(show CG _ _ _ [bx (rH aI [(0,aD (ix.h 0).1 (ix.h 0).2 p.Plan.Frags.length),(3,aD (ix.h 1).1 (ix.h 1).2 p.kinds.length)]) 91 b p,cv aP 74 (ix.h 0).1 (ix.h 0).2 p.Plan.Frags,cv fk 42 (ix.h 1).1 (ix.h 1).2 p.kinds] _ from ?_);refine aA<|zo J (l9 J)<|bh (r:=ah) (x:=iF) bv (fun _=>eO _) J fun b1=>ax<|af<|bT h fun e q_e h=>?_
 refine lH 14 (ts:=[tD ai n,fZ (ai) ([n]),fP kinds,tV (aE b 0),tV (aE b 0),tV (aE b 2),tV (aE b 2),fZ (di) p.catalog.Tables,bw cn n.Table,cm n.Table,bw di e,bw fk e.Keys,fP e.Keys,tD ah (⟨[n],kinds,(1:Int),e.Keys⟩:aG)]) mixed J J J
  ⟨gK 5 J J J (bH dg J J),
  ⟨dR 9 0 J J J (aQ (r:=ai) (ys:=[n]) (xs:=[.tmp 9]) ly dg J J J J J ⟨(ht J),aV⟩),
  ⟨gK 2 J J J (dw J),
  ⟨gK 0 J J J (dw J),
  ⟨dR 12 3 J J J (dD (ht J)),
  ⟨dR 13 4 J J J (fX 2 R0 J J J),
  ⟨dR 14 5 J J J (fX 2 vZ J J J),
  ⟨dR 15 6 J J J (aX (r:=rH aI [(0,aD (ix.h 0).1 (ix.h 0).2 p.Plan.Frags.length),(3,aD (ix.h 1).1 (ix.h 1).2 p.kinds.length)]) (x:=p) Gs J J (LK (ry Fw j3)) (.tail _ (.head _)) (ht J)),
  ⟨gK 5 J J J (cQ vX nv J J),
  ⟨dR 17 8 J J J (bH ce J J),
  ⟨gL 16 7 18 9 J J J J (nY zC ud J J J q_e),
  ⟨dR 19 10 J J J (cQ Fz uJ J J),
  ⟨dR 20 11 J J J (bH cS J J),
  ⟨BO 10 1 11 2 21 12 J J J J J (c0 (y:=(⟨[n],kinds,(1:Int),e.Keys⟩:aG)) bv RV eO (⟨_,_,_,_,_,J,DO,J,(ht J),⟨_,_,_,_,_,J,DN,J,(ht J),⟨_,_,_,_,_,J,DM,J,hI,⟨_,_,_,_,_,J,wo,J,(ht J),J⟩⟩⟩⟩)),
  aV⟩⟩⟩⟩⟩⟩⟩⟩⟩⟩⟩⟩⟩⟩ ?_
 refine ap bv J aj J (ht J) (ht J)<|bf 8 J<|ax<|av<|au<|au<|au ?_;cases so h;exact gO J bv J J J o7 J J

theorem NU(s:(List M)){R:(List M)}(h:dB s=some R):ja bc 178 [fZ (ai) s] false ai 72 R:=by
 refine ja.of Tryz.func178 J J J fun w0 S0=>aA<|cj false ai 72<|zo J (aS u7)<|ax<|af<|aA<|aJ J<|tR ly (ht J) J fun isnil hisnil=>ax<|oS (ht J) (fun hc=>?_) (fun hc=>?_)
 ·have hx:=hisnil hc
  have h:some Ie=some R:=by simpa [dB,iC,hx] using h
  refine aA<|cj false ai 72<|zo J (aS u7)<|ax<|av<|aa ?_;cases so h;exact ir J J
 ·refine fO<|aA<|kY (r:=ai) (ys:=Ie) (xs:=[]) ly dg J J J J J trivial J fun l c=>aJ J<|bT h fun x q_x h=>dJ dg J J J J ly J J (ht J) (ht J) q_x fun l1 c1=>bN J<|ax<|av ?_;cases so h;exact ir J J
theorem lY(n:M)(kinds:(List Int))(l:(List aG)){R:aG}(h:dH n kinds l=some R):bA bc 106 [tD ai n,fP kinds,fZ (ah) l] (tD ah R):=by
 refine bA.of Tryz.func106 J J J fun w0 S0=>aA<|sO (ht J) J fun b=>bh (r:=ah) (x:=iF) bv (fun _=>eO _) J fun b1=>ax<|aA<|zo J (fX 1 jv J J J)<|cb<|ap ce J pg J (ht J) hI<|zo J (fX 2 nz J J J)<|ap ce J nq J (ht J) hI<|ax<|aA<|aJ J<|aJ J<|bT h fun e q_e h=>zo J (aO jN bv J (ht J) hI q_e)<|zo J (cQ rD kM J J)<|zo J (bH ce J J) ?_;refine cj true ai 72<|zo J (c0 (y:=lO (⟨[],kinds,e.at_,[]⟩:aG) (aD none 0 (Ie.length))) bv RV Dy (⟨_,_,_,_,_,J,Gz,J,(ht J),⟨_,_,_,_,_,J,Gy,J,(ht J),J⟩⟩))<|cj true ai 72<|bh (r:=jG) (x:=lO iF (aD none 0 (Ie.length))) bv Dy J fun b2=>eI<|cb<|lu bv J (nJ J) J (ht J) (ht J)<|eI<|FZ<|ax<|af<|aA<|aJ J<|zo J (lx jN J)<|zo J (bJ hI)<|ax<|aB<|bl (k:=21) J fun hN=>bU<|ip<|ip ?_;refine pD<|pD ?_;refine aW (wh (Z:=fun ls i n1 out l1 c=>(l.drop i=ls)∧ei ls i n1 out=some R) (Of:=fun _ i n1 out l1 c=>[bx ai 72 b n1,bx ah 95 b1 iF,bx jG 95 b2 (lO out (aD l1 c out.nodes.length)),cv ai 72 l1 c out.nodes]) (Gf:=fun _ i n1 out l1 c=>[(3,tV (aE b 0)),(6,tV (aE b1 0)),(7,tV (aE b2 0)),(21,fZ (ah) l),(22,jB l),(23,cm (i:Int))]) (fun i n1 out l1 c h=>?_) (fun e1 tl ih i n1 out l1 c h=>?_) l 0 (M.mk n.Op q9 q9 n.Table n.Kinds n.Left n.Cond n.Keys n.Aggs n.Items n.Order n.Limit) ({(⟨[],kinds,e.at_,[]⟩:aG)with nodes:=Ie}:aG) none 0 ⟨J,h⟩) (bu J)
 ·obtain⟨hx,h⟩:=h
  refine aC<|aA<|zo J (gP J J)<|ax<|af<|bF (ht J) (d5 hx)<|bt ?_;refine ac (ac (aN ?_));refine aw<|aA<|zo rfl (fX 0 te rfl rfl rfl)<|zo rfl (pr pe qm (.tail _ (.tail _ (.head _))) (.tail _ (.tail _ (.tail _ (.head _)))) rfl (ht rfl))<|zo rfl (aX dg rfl rfl bq (.head _) (ht rfl))<|zo rfl (aQ (r:=ai) (ys:=[n1]) (xs:=[.tmp 77]) ly dg J J J J J ⟨(ht J),aV⟩)<|dI<|bT h fun l2 q_l2 h=>rJ dg J J J J ly J J (ht J) (ht J) q_l2 fun l3 c1=>zo J (fX 0 te J J J)<|dI<|lu pe J (qB _ _ _) J (ht J) (OK (BY (ht J)))<|ax<|aA<|cb<|zo J (rs (q:=ah) (y:=({out with nodes:=l2}:aG)) bv J J J J (.tail _ (.head _)) (fun _ _ _ ho h=>CH (wv ho (.head _)) h) (ht J))<|dI<|ap bv J aj J (ht J) (ht J)<|bf 6 J<|ax ?_;refine av<|bb<|bb<|bb ?_;cases so h;exact lI J bv J J J
 ·obtain⟨hx,h⟩:=h
  refine aC<|aA<|zo J (gP J J)<|ax<|af<|bE (ht J) (dZ hx)<|fO<|af<|aB<|aA<|aJ J<|zo J (nY jN bv J J J (d4 hx))<|zo J (bH bv J J)<|bh (r:=ah) (x:=iF) bv (fun _=>eO _) J fun b3=>bN J<|ap bv J aj J (ht J) (ht J)<|bf 9 J<|ax<|af ?_;refine am<|zo J (fX 0 te J J J)<|zo J (pr pe qm (.tail _ (.tail _ (.head _))) (.tail _ (.tail _ (.tail _ (.head _)))) J (ht J))<|zo J (cA ly (ma (ht J)))<|bN J<|ax<|af<|aA<|zo J (cQ te z7 J J)<|zo J (bH pe J J)<|bT h fun r q_r h=>lF UF (NU _ q_r) ⟨(ht J),aV⟩ J fun l4 c2=>zo J (hX ly (.head _) (ht J))<|zo J (bJ hI)<|ax<|aB<|lw (.head _) fun hN1=>bU ?_;refine aW (oP (Z:=fun ls1 i1 cx l5 c3=>(r.drop i1=ls1)∧cV (ei tl) i n1 out ls1 cx=some R) (Of:=fun _ i1 cx l5 c3=>[gu ai 72 l4 c2 r,bx ai 72 b n1,bx ah 95 b1 iF,bx jG 95 b2 (lO cx (aD l5 c3 cx.nodes.length)),cv ai 72 l5 c3 cx.nodes]) (Gf:=fun _ i1 cx l5 c3=>[(3,tV (aE b 0)),(6,tV (aE b1 0)),(7,tV (aE b2 0)),(8,cm (i:Int)),(10,jB out.nodes),(21,fZ (ah) l),(22,jB l),(23,cm (i:Int)),(33,rU l4 c2 r),(34,jB r),(35,cm (i1:Int))]) (fun i1 cx l5 c3 h=>?_) (fun e2 tl1 ih1 i1 cx l5 c3 h=>?_) r 0 out l1 c ⟨J,h⟩) (bu J)
  ·obtain⟨hx1,h⟩:=h
   refine aC<|aA<|zo J (gP J J)<|ax<|af<|bF (ht J) (d5 hx1)<|bt ?_;refine ac (ac (aN ?_));refine aw<|aA<|aJ rfl<|zo rfl (mU rfl)<|ax<|eE h rfl (fun h=>?_) (fun h=>?_)
   ·refine am<|zo J (fX 0 te J J J)<|zo J (pr pe qm (.tail _ (.tail _ (.tail _ (.head _)))) (.tail _ (.tail _ (.tail _ (.tail _ (.head _))))) J (ht J))<|zo J (cA ly (ma (ht J)))<|zo J (ib (ht J) hI)<|zo J (fX 1 jv J J J)<|cb<|ap ce J pg J (ht J) (ht J)<|aR<|an<|aw<|am<|zo rfl (nF (dv hx hN) rfl)<|aJ rfl<|aR<|cu<|bb ?_;exact bj (aW (ih (i+1) (M.mk n1.Op (IntKind.i64.wrap ((cx.nodes.length:Int)-(1:Int))) n1.B n1.Table n1.Kinds n1.Left n1.Cond n1.Keys n1.Aggs n1.Items n1.Order n1.Limit) cx l5 c3 ⟨du hx,h⟩) (bu J))
   ·refine am<|zo J (fX 0 te J J J)<|zo J (pr pe qm (.tail _ (.tail _ (.tail _ (.head _)))) (.tail _ (.tail _ (.tail _ (.tail _ (.head _))))) J (ht J))<|zo J (cA ly (ma (ht J)))<|zo J (ib (ht J) hI)<|zo J (fX 2 nz J J J)<|cb<|ap ce J nq J (ht J) (ht J)<|aR<|an<|aw<|am<|zo rfl (nF (dv hx hN) rfl)<|aJ rfl<|aR<|cu<|bb ?_;exact bj (aW (ih (i+1) (M.mk n1.Op n1.A (IntKind.i64.wrap ((cx.nodes.length:Int)-(1:Int))) n1.Table n1.Kinds n1.Left n1.Cond n1.Keys n1.Aggs n1.Items n1.Order n1.Limit) cx l5 c3 ⟨du hx,h⟩) (bu J))
  ·obtain⟨hx1,h⟩:=h
   refine aC<|aA<|zo J (gP J J)<|ax<|af<|bE (ht J) (dZ hx1)<|fO<|af<|aB<|aA<|zo J (cF ly dg (.head _) (ht J) (ht J) (d4 hx1))<|zo J (ge (r:=ai) (i:=(i1:Int)) (foff:=0) dg J J bq J (.head _) (d4 hx1) (ht J))<|bh (r:=ai) (x:=BN) dg (fun _=>kD _) J fun b4=>ap dg J aj J (ht J) (ht J)<|ax ?_;refine jK (Z:=fun x=>oC out (cV (ei tl) i n1 out tl1) cx x=some R) (Of:=fun x=>[gu ai 72 l4 c2 r,bx ai 72 b n1,bx ah 95 b1 iF,bx ai 72 b4 x,bx jG 95 b2 (lO cx (aD l5 c3 cx.nodes.length)),cv ai 72 l5 c3 cx.nodes]) (Gf:=fun x=>[(3,tV (aE b 0)),(6,tV (aE b1 0)),(7,tV (aE b2 0)),(8,cm (i:Int)),(10,jB out.nodes),(12,tV (aE b4 0)),(21,fZ (ah) l),(22,jB l),(23,cm (i:Int)),(33,rU l4 c2 r),(34,jB r),(35,cm (i1:Int))]) (fun x h=>?_) (fun K=>?_)
   ·skip
    refine jK (Z:=fun x1=>oB (cV (ei tl) i n1 out tl1) cx x1=some R) (Of:=fun x1=>[gu ai 72 l4 c2 r,bx ai 72 b n1,bx ah 95 b1 iF,bx ai 72 b4 x1,bx jG 95 b2 (lO cx (aD l5 c3 cx.nodes.length)),cv ai 72 l5 c3 cx.nodes]) (Gf:=fun x1=>[(3,tV (aE b 0)),(6,tV (aE b1 0)),(7,tV (aE b2 0)),(8,cm (i:Int)),(10,jB out.nodes),(12,tV (aE b4 0)),(21,fZ (ah) l),(22,jB l),(23,cm (i:Int)),(33,rU l4 c2 r),(34,jB r),(35,cm (i1:Int))]) (fun x1 h=>?_) (fun K1=>?_)
    ·skip
     refine am<|zo J (fX 0 te J J J)<|zo J (pr pe qm (.tail _ (.tail _ (.tail _ (.tail _ (.head _))))) (.tail _ (.tail _ (.tail _ (.tail _ (.tail _ (.head _)))))) J (ht J))<|zo J (aX dg J J bq (.tail _ (.tail _ (.tail _ (.head _)))) (ht J))<|zo J (aQ (r:=ai) (ys:=[x1]) (xs:=[.tmp 57]) ly dg J J J J J ⟨(ht J),aV⟩)<|wK<|bT h fun l6 q_l6 h=>rJ dg J J J J ly J J (ht J) (ht J) q_l6 fun l7 c4=>zo J (fX 0 te J J J)<|wK<|lu pe J (qB _ _ _) J (ht J) (OK (BY (ht J)))<|aR<|an<|aw<|am<|zo rfl (nF (dv hx1 hN1) rfl)<|aJ rfl<|aR<|cD<|bb<|cu<|cu<|cL<|cL ?_;refine cL ?_;exact bj (aW (ih1 (i1+1) ({cx with nodes:=l6}:aG) l7 c4 ⟨du hx1,h⟩) (bu J))
    ·skip
     refine aA<|zo J (fX 2 nz J J J)<|zo J (aX ce J J jt (.tail _ (.tail _ (.tail _ (.head _)))) (ht J))<|zo J (fF (ht J) hI)<|ax<|eE h J (fun h=>?_) (fun h=>?_)
     ·refine am<|zo J (fX 2 nz J J J)<|zo J (aX ce J J jt (.tail _ (.tail _ (.tail _ (.head _)))) (ht J))<|aJ J<|zo J (pt (ht J) (ht J))<|zo J (fX 2 nz J J J)<|dI<|ap ce J nq J (ht J) (ht J)<|aR<|cD<|cD<|au<|cD<|cD<|cD ?_;exact cE (K1 (M.mk x.Op x.A (IntKind.i64.wrap (x.B+(out.nodes.length:Int))) x.Table x.Kinds x.Left x.Cond x.Keys x.Aggs x.Items x.Order x.Limit) h) (bu J)
     ·refine bO ?_;exact cE (K1 x h) (bu J)
   ·skip
    refine aA<|zo J (fX 1 jv J J J)<|zo J (aX ce J J eo (.head _) (ht J))<|zo J (fF (ht J) hI)<|ax<|eE h J (fun h=>?_) (fun h=>?_)
    ·refine am<|zo J (fX 1 jv J J J)<|zo J (aX ce J J eo (.head _) (ht J))<|aJ J<|zo J (pt (ht J) (ht J))<|zo J (fX 1 jv J J J)<|ap ce J pg J (ht J) (ht J)<|aR<|cD<|cD<|au<|cD<|cD<|cD ?_;exact cE (K (M.mk e2.Op (IntKind.i64.wrap (e2.A+(out.nodes.length:Int))) e2.B e2.Table e2.Kinds e2.Left e2.Cond e2.Keys e2.Aggs e2.Items e2.Order e2.Limit) h) (bu J)
    ·refine bO<|cD<|cD<|au<|cD<|cD<|cD ?_;exact cE (K e2 h) (bu J)

theorem sH(s:aG)(columns:(List Int)){R:aG}(h:eD s columns=some R):bA bc 107 [tD ah s,fP columns] (tD ah R):=by
 refine bA.of Tryz.func107 J J J fun w0 S0=>aA<|sO (ht J) J fun b=>bh (r:=ah) (x:=iF) bv (fun _=>eO _) J fun b1=>ax<|aA<|aJ J<|zo J (fX 3 ny J J J)<|cb<|ap cS J wo J (ht J) (ht J)<|ax<|aA<|zo J (aX (x:=(aG.mk s.nodes s.kinds s.at_ columns)) bv J J bq (.head _) (ht J))<|cb<|ap bv J aj J (ht J) (ht J)<|bf 4 J<|ax<|av ?_;refine bb ?_;cases so h;exact lI J bv J J J

theorem TX(b:Nat)(ix:OI)(p:ay)(n:M)(kinds:(List Int))(l:(List aG)){R:aG}(h:gG p n kinds l=some R):c9 bc 67 [tV (aE b 0),tD ai n,fP kinds,fZ (ah) l] (fY b p ix) (fun _:OI=>tD ah R) (fun _=>(fY b p ix)):=by
 refine c9.of Tryz.func67 J J J fun w0 S0=>?_;refine(show CG _ _ _ [bx (rH aI [(0,aD (ix.h 0).1 (ix.h 0).2 p.Plan.Frags.length),(3,aD (ix.h 1).1 (ix.h 1).2 p.kinds.length)]) 91 b p,cv aP 74 (ix.h 0).1 (ix.h 0).2 p.Plan.Frags,cv fk 42 (ix.h 1).1 (ix.h 1).2 p.kinds] _ from ?_);refine aA<|zo J (l9 J)<|bh (r:=ah) (x:=iF) bv (fun _=>eO _) J fun b1=>ax<|af<|bT h fun e q_e h=>bT h fun r q_r h=>bT h fun r1 q_r1 h=>?_
 refine lH 12 (ts:=[tD ai n,fP kinds,fZ (ah) l,bw ah e,tD ah e,fZ (ah) ([e]),tD ah r,fZ (ah) l,bw ah e,bw fk e.hashed,fP e.hashed,tD ah r1]) mixed J J J
  ⟨gK 5 J J J (bH dg J J),
  ⟨gK 2 J J J (dw J),
  ⟨gK 3 J J J (dw J),
  ⟨dR 11 2 J J J (aO jN bv J (ht J) hI q_e),
  ⟨dR 12 3 J J J (bH bv J J),
  ⟨dR 13 4 J J J (aQ (r:=ah) (ys:=[e]) (xs:=[.tmp 13]) jN bv J J J J J ⟨(ht J),aV⟩),
  ⟨BO 9 0 10 1 14 5 J J J J J (aL sL (lY _ _ _ q_r) ⟨(ht J),(ht J),(ht J),aV⟩),
  ⟨gK 3 J J J (dw J),
  ⟨dR 16 7 J J J (aO jN bv J (ht J) hI q_e),
  ⟨dR 17 8 J J J (cQ ny jf J J),
  ⟨dR 18 9 J J J (bH cS J J),
  ⟨gL 15 6 19 10 J J J J (aL AX (sH _ _ q_r1) ⟨(ht J),(ht J),aV⟩),
  aV⟩⟩⟩⟩⟩⟩⟩⟩⟩⟩⟩⟩ ?_
 refine ap bv J aj J (ht J) (ht J)<|bf 8 J<|ax<|av<|au<|au<|au ?_;cases so h;exact gO J bv J J J o7 J J

theorem PU(s:(List Int))(v:Int){R:Int}(h:jP s v=some R):bA bc 179 [fP s,cm v] (cm R):=by
 refine bA.of Tryz.func179 J J J fun w0 S0=>aA<|zo J (gv)<|ax<|af<|aA<|aJ J<|zo J (lx d8 J)<|zo J (bJ hI)<|ax<|aB<|bl (k:=6) J fun hN=>bU ?_;refine aW (fM (Z:=fun ls i=>(s.drop i=ls)∧dT v ls i=some R) (Of:=fun _ i=>[]) (Gf:=fun _ i=>[(0,fP s),(1,cm v),(7,jB s),(8,cm (i:Int))]) (fun i h=>?_) (fun e tl ih i h=>?_) s 0 ⟨J,h⟩) (bu J)
 ·obtain⟨hx,h⟩:=h
  refine aC<|aA<|zo J (gP J J)<|ax<|af<|bF (ht J) (d5 hx)<|bt ?_;refine ac (ac (aN ?_));refine aw<|aA<|zo rfl (gv)<|ax<|av ?_;cases so h;exact ba J J
 ·obtain⟨hx,h⟩:=h
  refine aC<|aA<|zo J (gP J J)<|ax<|af<|bE (ht J) (dZ hx)<|fO<|af<|aB<|aA<|aJ J<|bN J<|ax<|aA<|aJ J<|aJ J<|aJ J<|zo J (nY d8 ce J J J (d4 hx)) ?_;refine zo J (bH ce J J)<|zo J (cO (ht J) (ht J))<|ax<|eE h J (fun h=>?_) (fun h=>?_)
  ·refine aA<|aJ J<|bN J<|ax<|av ?_;refine aF (aa (aa (aF (aa ?_))));cases so h;exact ba J J
  ·refine bO<|an<|aw<|am<|zo rfl (nF (dv hx hN) rfl)<|aJ rfl<|aR ?_;exact bj (aW (ih (i+1) ⟨du hx,h⟩) (bu J))

end Go.Proofs.YtnmjbolollcokaaGreatDoor

