/- cX of this claim: P12. -/
import Derived.Test.YtfhhakidodmdfaaGreatDoorJhT
import Derived.Test.YtfhhakidodmdfaaGreatDoorJhP11
set_option linter.all false
namespace Go.Proofs.YtfhhakidodmdfaaGreatDoor
open Go
set_option maxRecDepth 100000

theorem Ng(b:Nat)(ix:OI)(r:cU)(n:aC){R:(List (List M))×Int}(h:mg r n=some R):cy aJ 58 [tV (aO b 0),tD aM n] (fG b r ix) (fun _:OI=>tT [bK (cE) R.1,bu R.2]) (fun _=>(fG b r ix)):=by
 refine cy.of Tryz.func58 J J J fun w0 S0=>?_;refine(show CG _ _ _ [bx (rH dn [(1,aQ (ix.h 0).1 (ix.h 0).2 r.rows.length),(2,aQ (ix.h 1).1 (ix.h 1).2 r.width.length)]) 96 b r,db da 32 (ix.h 0).1 (ix.h 0).2 r.rows,db bI 3 (ix.h 1).1 (ix.h 1).2 r.width] _ from ?_);refine ap<|zo J (ff J)<|zo J (aD (show aH _ _ _ pY from gr))<|zo J (bO)<|al<|ae<|bp h fun e q_e h=>bp h fun r1 q_r1 h=>?_
 refine bZ (ts:=[_,_,_,_,_,_,_,_,_,_,_,_,_,_,_]) mixed J J
  ⟨dp 0 J J J (cr J),
  ⟨bH 6 0 J J J (cQ (ht J)),
  ⟨bH 7 1 J J J (gQ 1 l0 J J J),
  ⟨bH 8 2 J J J (cC oL J (.head _) (.tail _ (.head _)) (ht J)),
  ⟨dp 3 J J J (bS gm cW J J),
  ⟨bH 10 4 J J J (bn bP J J),
  ⟨cO 9 3 11 5 J J J J (bf jH eu J (gz (ht J)) (ht J) q_e),
  ⟨bH 12 6 J J J (bn eu J J),
  ⟨dp 3 J J J (bS qm mL J J),
  ⟨bH 14 8 J J J (bn BB J J),
  ⟨dp 3 J J J (bS uG oY J J),
  ⟨bH 16 10 J J J (bn bP J J),
  ⟨y9 13 7 15 9 17 11 J J J J J (ax QA (L4 _ _ _ q_r1) ⟨(ht J),(ht J),(ht J),aP⟩),
  ⟨bH 18 12 J J J (pe J),
  ⟨Fg J J (bO),
  aP⟩⟩⟩⟩⟩⟩⟩⟩⟩⟩⟩⟩⟩⟩⟩ ?_
 refine ak<|ai<|aK<|aK<|aK ?_;cases so h;exact df (ts:=[bK (cE) r1,bu 0]) (rvs:=[.tmp 4,.tmp 5]) J J ⟨aW J,aW J,aP⟩ kY J J

theorem L8(l:(List (List M))){R:(List (List M))×Int}(h:xH l=some R):aN aJ 59 [bK (cE) l] (tT [bK (cE) R.1,bu R.2]):=by
 refine aN.of Tryz.func59 J J J fun w0 S0=>ap<|zo J (aD (show aH _ _ _ pY from gr))<|zo J (bO)<|al<|ae<|ap<|aB J<|zo J (aR (r:=da) (ys:=[l]) (xs:=[.tmp 5]) jH eu J J J J J ⟨(ht J),aP⟩)<|bp h fun r q_r h=>zo J (ax MB (DG _ q_r) ⟨(ht J),aP⟩)<|ba J<|al<|ap<|aB J<|zo J (pt J)<|al<|bX h J (fun h=>?_) (fun h=>?_)
 ·refine ap<|aB J<|zo J (aD (show aH _ _ _ pY from gr))<|ba J<|al<|ai<|aa ?_;cases so h;exact ca J J J
 ·refine cF<|ap<|aB J<|bp h fun r1 q_r1 h=>fe K6 (Cf _ q_r1) ⟨(ht J),aP⟩ J fun l1 c=>ba J<|zo J (bO)<|al<|ai<|fQ<|ce 2 J<|ce 12 J<|fR 2 J<|aY ?_;cases so h;exact ca J J J

theorem G5(s:(List ik)){R:(List ik)}(h:eG s=some R):d4 aJ 187 [bK (eK) s] false eK 60 R:=by
 refine d4.of Tryz.func187 J J J fun w0 S0=>ap<|bA false eK 60<|zo J (aD mZ)<|al<|ae<|ap<|aB J<|oz Ae (ht J) J fun isnil hisnil=>al<|kE (ht J) (fun hc=>?_) (fun hc=>?_)
 ·have hx:=hisnil hc
  have h:some ([]:List ik)=some R:=by simpa [eG,k5,hx] using h
  refine ap<|bA false eK 60<|zo J (aD mZ)<|al<|ai<|aa ?_;cases so h;exact d7 J J
 ·refine cF<|ap<|fJ (r:=eK) (ys:=([]:List ik)) (xs:=[]) Ae BA J J J J J trivial J fun l c=>aB J<|bp h fun x q_x h=>cg BA J J J J Ae J J (ht J) (ht J) q_x fun l1 c1=>ba J<|al<|ai ?_;cases so h;exact d7 J J
theorem JE(s:(List ik)){R:(List ik)}(h:eG s=some R):aN aJ 187 [bK (eK) s] (bK (eK) R):=(G5 _ h).spec

theorem Cc(s:(List cu)){R:(List cu)}(h:cG s=some R):d4 aJ 188 [bK (bD) s] false bD 80 R:=by
 refine d4.of Tryz.func188 J J J fun w0 S0=>ap<|bA false bD 80<|zo J (aD mZ)<|al<|ae<|ap<|aB J<|oz t7 (ht J) J fun isnil hisnil=>al<|kE (ht J) (fun hc=>?_) (fun hc=>?_)
 ·have hx:=hisnil hc
  have h:some ([]:List cu)=some R:=by simpa [cG,k5,hx] using h
  refine ap<|bA false bD 80<|zo J (aD mZ)<|al<|ai<|aa ?_;cases so h;exact d7 J J
 ·refine cF<|ap<|fJ (r:=bD) (ys:=([]:List cu)) (xs:=[]) t7 mE J J J J J trivial J fun l c=>aB J<|bp h fun x q_x h=>cg mE J J J J t7 J J (ht J) (ht J) q_x fun l1 c1=>ba J<|al<|ai ?_;cases so h;exact d7 J J
theorem EJ(s:(List cu)){R:(List cu)}(h:cG s=some R):aN aJ 188 [bK (bD) s] (bK (bD) R):=(Cc _ h).spec

theorem G4(s:(List kz)){R:(List kz)}(h:fT s=some R):d4 aJ 189 [bK (ej) s] false ej 51 R:=by
 refine d4.of Tryz.func189 J J J fun w0 S0=>ap<|bA false ej 51<|zo J (aD mZ)<|al<|ae<|ap<|aB J<|oz tZ (ht J) J fun isnil hisnil=>al<|kE (ht J) (fun hc=>?_) (fun hc=>?_)
 ·have hx:=hisnil hc
  have h:some ([]:List kz)=some R:=by simpa [fT,k5,hx] using h
  refine ap<|bA false ej 51<|zo J (aD mZ)<|al<|ai<|aa ?_;cases so h;exact d7 J J
 ·refine cF<|ap<|fJ (r:=ej) (ys:=([]:List kz)) (xs:=[]) tZ qZ J J J J J trivial J fun l c=>aB J<|bp h fun x q_x h=>cg qZ J J J J tZ J J (ht J) (ht J) q_x fun l1 c1=>ba J<|al<|ai ?_;cases so h;exact d7 J J
theorem G3(s:(List cK)){R:(List cK)}(h:fy s=some R):d4 aJ 190 [bK (bY) s] false bY 49 R:=by
 refine d4.of Tryz.func190 J J J fun w0 S0=>ap<|bA false bY 49<|zo J (aD mZ)<|al<|ae<|ap<|aB J<|oz vb (ht J) J fun isnil hisnil=>al<|kE (ht J) (fun hc=>?_) (fun hc=>?_)
 ·have hx:=hisnil hc
  have h:some ([]:List cK)=some R:=by simpa [fy,k5,hx] using h
  refine ap<|bA false bY 49<|zo J (aD mZ)<|al<|ai<|aa ?_;cases so h;exact d7 J J
 ·refine cF<|ap<|fJ (r:=bY) (ys:=([]:List cK)) (xs:=[]) vb jg J J J J J trivial J fun l c=>aB J<|bp h fun x q_x h=>cg jg J J J J vb J J (ht J) (ht J) q_x fun l1 c1=>ba J<|al<|ai ?_;cases so h;exact d7 J J
theorem Ka(n:aC)(by1:Int){R:aC}(h:uu n by1=some R):aN aJ 110 [tD aM n,bu by1] (tD aM R):=by
 refine aN.of Tryz.func110 J J J fun w0 S0=>ap<|sD (ht J) J fun b=>aV (r:=aM) (x:=Bu) fu (fun _=>k6 _) J fun b1=>al ?_;refine gv (Z:=fun n1=>mY by1 n1=some R) (Of:=fun n1=>[bx aM 71 b n1,bx aM 71 b1 Bu]) (Gf:=fun n1=>[(1,bu by1),(2,tV (aO b 0)),(4,tV (aO b1 0))]) (fun n1 h=>?_) (fun K=>?_)
 ·skip
  refine gv (Z:=fun n2=>mX n2=some R) (Of:=fun n2=>[bx aM 71 b n2,bx aM 71 b1 Bu]) (Gf:=fun n2=>[(2,tV (aO b 0)),(4,tV (aO b1 0))]) (fun n2 h=>?_) (fun K1=>?_)
  ·skip
   refine ae<|bp h fun r q_r h=>bp h fun r1 q_r1 h=>bp h fun r2 q_r2 h=>?_
   refine oH 10 (ts:=[tV (aO b 4),iA n2.Kinds,iA r,tV (aO b 7),iA n2.Keys,iA r1,tV (aO b 10),bK (eK) n2.Order,bK (eK) r2,tV (aO b 4)]) mixed J J J
    ⟨dp 2 J J J (gQ 4 ql J J J),
    ⟨bH 23 0 J J J (bL c0 J J kO (.head _) (ht J)),
    ⟨bH 24 1 J J J (ax Ho (GT _ q_r) ⟨(ht J),aP⟩),
    ⟨dp 2 J J J (gQ 7 pl J J J),
    ⟨bH 26 3 J J J (bL c0 J J jT (.head _) (ht J)),
    ⟨bH 27 4 J J J (ax Ho (GT _ q_r1) ⟨(ht J),aP⟩),
    ⟨dp 2 J J J (gQ 10 qm J J J),
    ⟨bH 29 6 J J J (bL BB J J mL (.head _) (ht J)),
    ⟨bH 30 7 J J J (ax Pa (JE _ q_r2) ⟨(ht J),aP⟩),
    ⟨dp 2 J J J (gQ 4 ql J J J),
    aP⟩⟩⟩⟩⟩⟩⟩⟩⟩⟩ ?_
   refine av c0 J th J (ht J) (ht J)<|zo J (gQ 7 pl J J J)<|av c0 J xy J (ht J) (ht J)<|zo J (gQ 10 qm J J J)<|av BB J vX J (ht J) (ht J)<|al<|ap<|zo J (gQ 6 qk J J J)<|zo J (gQ 6 m3 J J J)<|zo J (bL wD J J (pM kN j9) (.head _) (ht J))<|bp h fun r3 q_r3 h=>fe Hy (Cc _ q_r3) ⟨(ht J),aP⟩ J fun l c=>zo J (gQ 6 qk J J J)<|zo J (gQ 6 m3 J J J)<|eP<|dZ 38 J<|bz<|av wD J (zg kN tg sd) J (ht J) (gz (ht J))<|al<|ae<|bp h fun r4 q_r4 h=>?_
   obtain⟨r5,q_r5,h⟩:=bs h
   refine kA 7 [tc (tV (aO b 8)),tc (bK (ej) (({(aC.mk n2.Op n2.A n2.B n2.Table r n2.Left n2.Cond r1 n2.Aggs n2.Items r2 n2.Limit)with Cond:=({(aC.mk n2.Op n2.A n2.B n2.Table r n2.Left n2.Cond r1 n2.Aggs n2.Items r2 n2.Limit).Cond with Nodes:=r3}:cK)}:aC).Aggs)),([2],fun s=>tV (aQ ((s.getD 0 kY).h 0).1 ((s.getD 0 kY).h 0).2 r4.length)),tc (tV (aO b 9)),tc (bK (bY) (({(aC.mk n2.Op n2.A n2.B n2.Table r n2.Left n2.Cond r1 n2.Aggs n2.Items r2 n2.Limit)with Cond:=({(aC.mk n2.Op n2.A n2.B n2.Table r n2.Left n2.Cond r1 n2.Aggs n2.Items r2 n2.Limit).Cond with Nodes:=r3}:cK)}:aC).Items)),([5],fun s=>tV (aQ ((s.getD 0 kY).h 0).1 ((s.getD 0 kY).h 0).2 r5.length)),tc (tV (aO b 8))] [false,false,true,false,false,true,false] [fun _=>[bx aM 71 b ({(aC.mk n2.Op n2.A n2.B n2.Table r n2.Left n2.Cond r1 n2.Aggs n2.Items r2 n2.Limit)with Cond:=({(aC.mk n2.Op n2.A n2.B n2.Table r n2.Left n2.Cond r1 n2.Aggs n2.Items r2 n2.Limit).Cond with Nodes:=r3}:cK)}:aC),db bD 80 l c r3,bx aM 71 b1 Bu],fun sg=>[dJ ej 51 ((sg 2).h 0).1 ((sg 2).h 0).2 r4,bx aM 71 b ({(aC.mk n2.Op n2.A n2.B n2.Table r n2.Left n2.Cond r1 n2.Aggs n2.Items r2 n2.Limit)with Cond:=({(aC.mk n2.Op n2.A n2.B n2.Table r n2.Left n2.Cond r1 n2.Aggs n2.Items r2 n2.Limit).Cond with Nodes:=r3}:cK)}:aC),db bD 80 l c r3,bx aM 71 b1 Bu],fun sg=>[dJ bY 49 ((sg 5).h 0).1 ((sg 5).h 0).2 r5,dJ ej 51 ((sg 2).h 0).1 ((sg 2).h 0).2 r4,bx aM 71 b ({(aC.mk n2.Op n2.A n2.B n2.Table r n2.Left n2.Cond r1 n2.Aggs n2.Items r2 n2.Limit)with Cond:=({(aC.mk n2.Op n2.A n2.B n2.Table r n2.Left n2.Cond r1 n2.Aggs n2.Items r2 n2.Limit).Cond with Nodes:=r3}:cK)}:aC),db bD 80 l c r3,bx aM 71 b1 Bu]] J mixed J J J J J
    ⟨⟨[⟨2,fun _=>tV (aO b 0),none⟩],_,0,0,J,⟨(fun _=>J),aP⟩,J,J,J,J,J,fun _ sg _ _=>aA J (gQ 8 od J J J)⟩,
    ⟨⟨[⟨41,fun _=>tV (aO b 8),some 0⟩],_,0,0,J,⟨(fun _=>J),aP⟩,J,J,J,J,J,s9 (fun sg=>aA J (bL xq J J lX (.head _) (ht J)))⟩,
    ⟨⟨[⟨42,fun _=>tD (ea ej) (({(aC.mk n2.Op n2.A n2.B n2.Table r n2.Left n2.Cond r1 n2.Aggs n2.Items r2 n2.Limit)with Cond:=({(aC.mk n2.Op n2.A n2.B n2.Table r n2.Left n2.Cond r1 n2.Aggs n2.Items r2 n2.Limit).Cond with Nodes:=r3}:cK)}:aC).Aggs),some 1⟩],_,J,⟨(fun _=>J),aP⟩,J,J,J,fun sg=>dA J (zI (xs:=[.tmp 42]) (ts:=[tD (ea ej) (({(aC.mk n2.Op n2.A n2.B n2.Table r n2.Left n2.Cond r1 n2.Aggs n2.Items r2 n2.Limit)with Cond:=({(aC.mk n2.Op n2.A n2.B n2.Table r n2.Left n2.Cond r1 n2.Aggs n2.Items r2 n2.Limit).Cond with Nodes:=r3}:cK)}:aC).Aggs)]) O9 (G4 _ q_r4) ⟨(ht J),aP⟩)⟩,
    ⟨⟨[⟨2,fun _=>tV (aO b 0),none⟩],_,0,1,J,⟨(fun _=>J),aP⟩,J,J,J,J,J,fun _ sg _ _=>aA J (gQ 9 oc J J J)⟩,
    ⟨⟨[⟨44,fun _=>tV (aO b 9),some 3⟩],_,0,1,J,⟨(fun _=>J),aP⟩,J,J,J,J,J,yI (fun sg=>aA J (bL wC J J kM (.head _) (ht J))) (s9 (fun sg=>aA J (bL wC J J kM (.tail _ (.head _)) (ht J))))⟩,
    ⟨⟨[⟨45,fun _=>tD (ea bY) (({(aC.mk n2.Op n2.A n2.B n2.Table r n2.Left n2.Cond r1 n2.Aggs n2.Items r2 n2.Limit)with Cond:=({(aC.mk n2.Op n2.A n2.B n2.Table r n2.Left n2.Cond r1 n2.Aggs n2.Items r2 n2.Limit).Cond with Nodes:=r3}:cK)}:aC).Items),some 4⟩],_,J,⟨(fun _=>J),aP⟩,J,J,J,fun sg=>dA J (zI (xs:=[.tmp 45]) (ts:=[tD (ea bY) (({(aC.mk n2.Op n2.A n2.B n2.Table r n2.Left n2.Cond r1 n2.Aggs n2.Items r2 n2.Limit)with Cond:=({(aC.mk n2.Op n2.A n2.B n2.Table r n2.Left n2.Cond r1 n2.Aggs n2.Items r2 n2.Limit).Cond with Nodes:=r3}:cK)}:aC).Items)]) O8 (G3 _ q_r5) ⟨(ht J),aP⟩)⟩,
    ⟨⟨[⟨2,fun _=>tV (aO b 0),none⟩],_,1,2,J,⟨(fun _=>J),aP⟩,J,J,J,J,J,fun _ sg _ _=>aA J (gQ 8 od J J J)⟩,
    aP⟩⟩⟩⟩⟩⟩⟩ (fun sg=>?_)
   refine(show RG _ _ _ _ [dJ bY 49 ((sg 5).h 0).1 ((sg 5).h 0).2 r5,dJ ej 51 ((sg 2).h 0).1 ((sg 2).h 0).2 r4,bx aM 71 b ({(aC.mk n2.Op n2.A n2.B n2.Table r n2.Left n2.Cond r1 n2.Aggs n2.Items r2 n2.Limit)with Cond:=({(aC.mk n2.Op n2.A n2.B n2.Table r n2.Left n2.Cond r1 n2.Aggs n2.Items r2 n2.Limit).Cond with Nodes:=r3}:cK)}:aC),db bD 80 l c r3,bx aM 71 b1 Bu] _ from ?_);refine eO<|tM xq J (td _ _) J (ht J) (GJ (ht J))<|zo J (gQ 9 oc J J J)<|tM wC J (p5 _ _ _) J (ht J) (GJ (ht J))<|al<|ae<|ap<|zo J (gQ 8 od J J J)<|zo J (lP xq n8 (.head _) J (ht J))<|zo J (fO tZ (.tail _ (.tail _ (.head _))) (ht J))<|zo J (br hI)<|al<|au<|kc (.tail _ (.tail _ (.head _))) fun hN=>bo<|kW<|mC<|fA<|mo<|mo<|kW ?_;refine aI (u0 (Z:=fun ls i n3 l1 c1 l2 c2=>(r4.drop i=ls)∧mW ls i n3=some R) (Of:=fun _ i n3 l1 c1 l2 c2=>[bx aM 71 b1 Bu,bx g9 71 b (j6 n3 (aQ l1 c1 n3.Aggs.length) (aQ l2 c2 n3.Items.length)),dJ ej 51 l1 c1 n3.Aggs,dJ bY 49 l2 c2 n3.Items]) (Gf:=fun _ i n3 l1 c1 l2 c2=>[(2,tV (aO b 0)),(4,tV (aO b1 0)),(51,fC r4),(52,bu (i:Int))]) (fun i n3 l1 c1 l2 c2 h=>?_) (fun e tl ih i n3 l1 c1 l2 c2 h=>?_) r4 0 ({({({(aC.mk n2.Op n2.A n2.B n2.Table r n2.Left n2.Cond r1 n2.Aggs n2.Items r2 n2.Limit)with Cond:=({(aC.mk n2.Op n2.A n2.B n2.Table r n2.Left n2.Cond r1 n2.Aggs n2.Items r2 n2.Limit).Cond with Nodes:=r3}:cK)}:aC)with Aggs:=r4}:aC)with Items:=r5}:aC) ((sg 2).h 0).1 ((sg 2).h 0).2 ((sg 5).h 0).1 ((sg 5).h 0).2 ⟨J,h⟩) (bh J)
   ·obtain⟨hx,h⟩:=h
    refine aw<|ap<|zo J (dC J J)<|al<|ae<|bm (ht J) (cx hx)<|be ?_;refine af (af (aE ?_));refine ak<|ae<|ap<|zo rfl (gQ 9 oc rfl rfl rfl)<|zo rfl (lP wC n7 (.tail _ (.head _)) rfl (ht rfl))<|zo rfl (fO vb (.tail _ (.tail _ (.tail _ (.head _)))) (ht rfl))<|zo rfl (br hI)<|al<|au<|kc (.tail _ (.tail _ (.tail _ (.head _)))) fun hN1=>bo ?_;refine aI (u0 (Z:=fun ls1 i1 n4 l3 c3 l4 c4=>(n3.Items.drop i1=ls1)∧mV ls1 i1 n4=some R) (Of:=fun _ i1 n4 l3 c3 l4 c4=>[bx aM 71 b1 Bu,bx g9 71 b (j6 n4 (aQ l3 c3 n4.Aggs.length) (aQ l4 c4 n4.Items.length)),dJ ej 51 l3 c3 n4.Aggs,dJ bY 49 l4 c4 n4.Items]) (Gf:=fun _ i1 n4 l3 c3 l4 c4=>[(2,tV (aO b 0)),(4,tV (aO b1 0)),(72,fC n3.Items),(73,bu (i1:Int))]) (fun i1 n4 l3 c3 l4 c4 h=>?_) (fun e1 tl1 ih1 i1 n4 l3 c3 l4 c4 h=>?_) n3.Items 0 n3 l1 c1 l2 c2 ⟨J,h⟩) (bh J)
    ·obtain⟨hx1,h⟩:=h
     refine aw<|ap<|zo J (dC J J)<|al<|ae<|bm (ht J) (cx hx1)<|be ?_;refine af (af (aE ?_));refine ak<|ap<|eO<|eP<|mn<|eP<|zo rfl (xQ (q:=aM) (y:=n4) fu J J J J (.tail _ (.tail _ (.tail _ (.head _)))) (fun _ _ _ ho h=>uR (Aw ho (.tail _ (.head _))) (Aw ho (.head _)) h) (ht J))<|eO<|av fu J am J (ht J) (ht J)<|aS 4 J<|al<|ai<|aY<|aY<|aY ?_;cases so h;exact fq J fu J J J
    ·obtain⟨hx1,h⟩:=h
     refine aw<|ap<|zo J (dC J J)<|al<|ae<|bl (ht J) (cw hx1)<|cF<|ae<|au<|ap<|aB J<|ba J<|al<|bp h fun e2 q_e2 h=>bp h fun r6 q_r6 h=>?_
     refine oH 12 (ts:=[tV (aO b 9),mp l4 c4 n4.Items,bu (i1:Int),tV (aO b 9),mp l4 c4 n4.Items,bu (i1:Int),tV (k4 l4 ((i1:Int).toNat*1+0)),tV (k4 l4 ((i1:Int).toNat*1+0)),bK (bD) e2.Nodes,bK (bD) r6,tV (k4 l4 ((i1:Int).toNat*1+0)),tV (k4 l4 ((i1:Int).toNat*1+0))]) mixed J J J
      ⟨dp 2 J J J (gQ 9 oc J J J),
      ⟨bH 76 0 J J J (lP wC n7 (.tail _ (.head _)) J (ht J)),
      ⟨dp 6 J J J (cr J),
      ⟨dp 2 J J J (gQ 9 oc J J J),
      ⟨bH 79 3 J J J (lP wC n7 (.tail _ (.head _)) J (ht J)),
      ⟨dp 6 J J J (cr J),
      ⟨cO 80 4 81 5 J J J J (ck vb jg (.tail _ (.tail _ (.tail _ (.head _)))) (ht J) (ht J) q_e2),
      ⟨bH 82 6 J J J (jq (o:=(i1:Int).toNat*1+0) (n:=(i1:Int).toNat*1+0) m3 J (.tail _ (.tail _ (.tail _ (.head _)))) q_e2 (ht J) J),
      ⟨bH 83 7 J J J (eo (r:=bY) (i:=(i1:Int)) (foff:=0) wD J J j9 J (.tail _ (.tail _ (.tail _ (.head _)))) q_e2 (ht J)),
      ⟨bH 84 8 J J J (ax Hy (EJ _ q_r6) ⟨(ht J),aP⟩),
      ⟨cO 77 1 78 2 J J J J (ck vb jg (.tail _ (.tail _ (.tail _ (.head _)))) (ht J) (ht J) q_e2),
      ⟨bH 86 10 J J J (jq (o:=(i1:Int).toNat*1+0) (n:=(i1:Int).toNat*1+0) m3 J (.tail _ (.tail _ (.tail _ (.head _)))) q_e2 (ht J) J),
      aP⟩⟩⟩⟩⟩⟩⟩⟩⟩⟩⟩⟩ ?_
     refine mn<|bp h fun st q_st h=>nD wD J sd J q_e2 (so q_st) (ht J) (ht J)<|fj (iS (so q_st)) 77 J<|fj (iS (so q_st)) 80 J<|yu (O' :=[dJ bY 49 l4 c4 st,bx aM 71 b1 Bu,bx g9 71 b (j6 n4 (aQ l3 c3 n4.Aggs.length) (aQ l4 c4 st.length)),dJ ej 51 l3 c3 n4.Aggs]) (by rw [iS (so q_st)])<|aL<|aj<|ak<|an<|zo rfl (iq (bW hx1 hN1) rfl)<|aB rfl<|aL<|co<|co<|co ?_;exact aT (aI (ih1 (i1+1) ({n4 with Items:=st}:aC) l3 c3 l4 c4 ⟨bV hx1,h⟩) (bh J))
   ·obtain⟨hx,h⟩:=h
    refine aw<|ap<|zo J (dC J J)<|al<|ae<|bl (ht J) (cw hx)<|cF<|ae<|au<|ap<|aB J<|ba J<|al<|bp h fun e3 q_e3 h=>bp h fun r7 q_r7 h=>?_
    refine oH 14 (ts:=[tV (aO b 8),mp l1 c1 n3.Aggs,bu (i:Int),tV (aO b 8),mp l1 c1 n3.Aggs,bu (i:Int),tV (k4 l1 ((i:Int).toNat*2+0)),tV (k4 l1 ((i:Int).toNat*2+1)),tV (k4 l1 ((i:Int).toNat*2+1)),bK (bD) e3.Arg.Nodes,bK (bD) r7,tV (k4 l1 ((i:Int).toNat*2+0)),tV (k4 l1 ((i:Int).toNat*2+1)),tV (k4 l1 ((i:Int).toNat*2+1))]) mixed J J J
     ⟨dp 2 J J J (gQ 8 od J J J),
     ⟨bH 55 0 J J J (lP xq n8 (.tail _ (.head _)) J (ht J)),
     ⟨dp 5 J J J (cr J),
     ⟨dp 2 J J J (gQ 8 od J J J),
     ⟨bH 58 3 J J J (lP xq n8 (.tail _ (.head _)) J (ht J)),
     ⟨dp 5 J J J (cr J),
     ⟨cO 59 4 60 5 J J J J (ck tZ qZ (.tail _ (.tail _ (.head _))) (ht J) (ht J) q_e3),
     ⟨bH 61 6 J J J (jq (o:=(i:Int).toNat*2+0) (n:=(i:Int).toNat*2+1) yh J (.tail _ (.tail _ (.head _))) q_e3 (ht J) J),
     ⟨bH 62 7 J J J (jq (o:=(i:Int).toNat*2+1) (n:=(i:Int).toNat*2+1) m3 J (.tail _ (.tail _ (.head _))) q_e3 (ht J) J),
     ⟨bH 63 8 J J J (eo (r:=ej) (i:=(i:Int)) (foff:=1) wD J J (pM rN j9) J (.tail _ (.tail _ (.head _))) q_e3 (ht J)),
     ⟨bH 64 9 J J J (ax Hy (EJ _ q_r7) ⟨(ht J),aP⟩),
     ⟨cO 56 1 57 2 J J J J (ck tZ qZ (.tail _ (.tail _ (.head _))) (ht J) (ht J) q_e3),
     ⟨bH 66 11 J J J (jq (o:=(i:Int).toNat*2+0) (n:=(i:Int).toNat*2+1) yh J (.tail _ (.tail _ (.head _))) q_e3 (ht J) J),
     ⟨bH 67 12 J J J (jq (o:=(i:Int).toNat*2+1) (n:=(i:Int).toNat*2+1) m3 J (.tail _ (.tail _ (.head _))) q_e3 (ht J) J),
     aP⟩⟩⟩⟩⟩⟩⟩⟩⟩⟩⟩⟩⟩⟩ ?_
    refine eO<|bp h fun st1 q_st1 h=>nD wD J (zg rN BH sd) J q_e3 (so q_st1) (ht J) (ht J)<|fj (iS (so q_st1)) 56 J<|fj (iS (so q_st1)) 59 J<|yu (O' :=[dJ ej 51 l1 c1 st1,bx aM 71 b1 Bu,bx g9 71 b (j6 n3 (aQ l1 c1 st1.length) (aQ l2 c2 n3.Items.length)),dJ bY 49 l2 c2 n3.Items]) (by rw [iS (so q_st1)])<|aL<|aj<|ak<|an<|zo rfl (iq (bW hx hN) rfl)<|aB rfl<|aL<|co<|bt<|co<|co ?_;exact aT (aI (ih (i+1) ({n3 with Aggs:=st1}:aC) l1 c1 l2 c2 ⟨bV hx,h⟩) (bh J))
  ·skip
   refine ap<|zo J (gQ 2 m2 J J J)<|zo J (bL bP J J gJ (.head _) (ht J))<|zo J (dU (ht J) hI)<|al<|bX h J (fun h=>?_) (fun h=>?_)
   ·refine an<|zo J (gQ 2 m2 J J J)<|zo J (bL bP J J gJ (.head _) (ht J))<|aB J<|zo J (fF (ht J) (ht J))<|zo J (gQ 2 m2 J J J)<|av bP J tk J (ht J) (ht J)<|aL ?_;exact cn (K1 (aC.mk n1.Op n1.A (IntKind.i64.wrap (n1.B+by1)) n1.Table n1.Kinds n1.Left n1.Cond n1.Keys n1.Aggs n1.Items n1.Order n1.Limit) h) (bh J)
   ·refine bi ?_;exact cn (K1 n1 h) (bh J)
 ·skip
  refine ap<|zo J (gQ 1 gm J J J)<|zo J (bL bP J J cW (.tail _ (.head _)) (ht J))<|zo J (dU (ht J) hI)<|al<|bX h J (fun h=>?_) (fun h=>?_)
  ·refine an<|zo J (gQ 1 gm J J J)<|zo J (bL bP J J cW (.tail _ (.head _)) (ht J))<|aB J<|zo J (fF (ht J) (ht J))<|zo J (gQ 1 gm J J J)<|bz<|av bP J xz J (ht J) (ht J)<|aL ?_;exact cn (K (aC.mk n.Op (IntKind.i64.wrap (n.A+by1)) n.B n.Table n.Kinds n.Left n.Cond n.Keys n.Aggs n.Items n.Order n.Limit) h) (bh J)
  ·refine bi<|bt ?_;exact cn (K n h) (bh J)

theorem L7(l:dM)(place:Int){R:dM×Int}(h:xX l place=some R):aN aJ 60 [tD cT l,bu place] (tT [tD cT R.1,bu R.2]):=by
 refine aN.of Tryz.func60 J J J fun w0 S0=>ap<|zo J (ff J)<|aV (r:=cT) (x:=Bv) mF (fun _=>nJ _) J fun b=>zo J (bO)<|al<|ap<|zo J (bn mF J J)<|bp h fun r q_r h=>zo J (ax ME (DK _ q_r) ⟨(ht J),aP⟩)<|aB J<|zo J (eT J J)<|zo J (eT J J)<|zo J (eT J J)<|ba J<|ba J<|ba J<|al<|ae<|au ?_;refine ap<|aB J<|zo J (cH (ht J))<|ba J<|al<|bX h J (fun h=>?_) (fun h=>?_)
 ·refine ap<|zo J (bM (y:=Bv) mF LU nJ (J))<|av mF J am J (ht J) (ht J)<|zo J (bO)<|al<|ai ?_;refine aq (aa ?_);refine bg 4 J ?_;cases so h;exact bF J J ⟨bq mF J J J,aW J,aP⟩
 ·refine ap<|aB J<|zo J (dO (ht J) hI)<|aB J<|dv J J (fun hg=>cr J)<|dv J J (fun hg=>bS pm jS J J)<|dv J J (fun hg=>bj yL J J (bk J hg))<|dv J J (fun hg=>cD t6 (bk J hg))<|dv J J (fun hg=>dU (bk J hg) (bk J hg))<|zo J (qY J J)<|ba J<|al<|bX h J (fun h=>?_) (fun h=>?_)
  ·refine ap<|zo J (bM (y:=Bv) mF LU nJ (J))<|av mF J am J (ht J) (ht J)<|zo J (bO)<|al<|ai ?_;refine aq (aa ?_);refine bg 4 J ?_;cases so h;exact bF J J ⟨bq mF J J J,aW J,aP⟩
  ·refine bi<|aj<|ak<|ap<|bA true aM 71<|aV (r:=kK) (x:=lR Bv (aQ none 0 (([]:List aC).length))) mF CQ J fun b1=>al<|ae<|ap<|aB J<|zo J (AA (ht J))<|zo J (bS o4 uE J J)<|zo J (bn c0 J J)<|aB J<|bp h fun e q_e h=>zo J (gw ed bP J J J q_e)<|zo J (bn bP J J)<|ba J<|al<|au ?_;refine bo<|fA<|fA<|mo ?_;refine aI (w8 (Z:=fun n i out l1 c=>pj l place e n i out=some R) (Of:=fun i out l1 c=>[bx cT 24 b Bv,bx kK 24 b1 (lR out (aQ l1 c out.Nodes.length)),db aM 71 l1 c out.Nodes]) (Gf:=fun i out l1 c=>[(1,bu place),(2,bv cT l),(4,tV (aO b 0)),(6,bv bc r.1),(9,tV (aO b1 0)),(10,bu i)]) (fun i out l1 c h=>nn h) (fun n ih i out l1 c h=>?_) ip e ({Bv with Nodes:=([]:List aC)}:dM) none 0 h) (bh J);refine aw<|ae<|ap<|aB J<|aB J<|zo J (gH (ht J) (ht J))<|al<|bX h J (fun h=>?_) (fun h=>?_)
   ·refine cF<|ae<|au<|bp h fun e1 q_e1 h=>bp h fun r1 q_r1 h=>?_
    refine oH 17 (ts:=[tV (aO b1 0),tO aM l1 c out.Nodes,bv (ea aM) l.Nodes,bK (aM) l.Nodes,bu i,bv aM e1,tD aM e1,bv bc r.1,bv bc r.1,bv jG r.1.first,iA r.1.first,bu place,bv bI e,bu e,bu (IntKind.i64.wrap (0-e)),tD aM r1,bK (aM) ([r1])]) mixed J J J
     ⟨dp 9 J J J (gQ 0 pm J J J),
     ⟨bH 44 0 J J J (Fv yL AM (.tail _ (.head _)) (.tail _ (.tail _ (.head _))) J (ht J)),
     ⟨dp 2 J J J (bS pm jS J J),
     ⟨bH 46 2 J J J (bn yL J J),
     ⟨dp 10 J J J (cr J),
     ⟨cO 47 3 48 4 J J J J (gw t6 fu J J J q_e1),
     ⟨bH 49 5 J J J (bn fu J J),
     ⟨dp 6 J J J (cr J),
     ⟨bH 51 7 J J J (AA (ht J)),
     ⟨bH 52 8 J J J (bS o4 uE J J),
     ⟨bH 53 9 J J J (bn c0 J J),
     ⟨dp 1 J J J (cr J),
     ⟨cO 54 10 55 11 J J J J (gw ed bP J J J q_e),
     ⟨bH 56 12 J J J (bn bP J J),
     ⟨bH 57 13 J J J (AC (ht J)),
     ⟨cO 50 6 58 14 J J J J (ax PK (Ka _ _ q_r1) ⟨(ht J),(ht J),aP⟩),
     ⟨bH 59 15 J J J (aR (r:=aM) (ys:=[r1]) (xs:=[.tmp 59]) t6 fu J J J J J ⟨(ht J),aP⟩),
     aP⟩⟩⟩⟩⟩⟩⟩⟩⟩⟩⟩⟩⟩⟩⟩⟩⟩ ?_
    refine eO<|bp h fun l2 q_l2 h=>D3 fu J J J J t6 J J (ht J) (ht J) q_l2 fun l3 c1=>zo J (gQ 0 pm J J J)<|eO<|tM yL J (ri _ _ _) J (ht J) (GJ (C1 (ht J)))<|aL<|aj<|ak<|an<|aB rfl<|zo rfl (fF (ht rfl) hI)<|ba rfl<|aL<|bt<|bt<|aK ?_;exact aT (aI (ih (IntKind.i64.wrap (i+(1:Int))) ({out with Nodes:=l2}:dM) l3 c1 h) (bh J))
   ·refine be ?_;refine af (af (aE ?_));refine ak<|ap<|eO<|zo rfl (xQ (q:=cT) (y:=out) mF J J J J (.tail _ (.tail _ (.head _))) (fun _ _ _ ho h=>wI (Aw ho (.head _)) h) (ht J))<|bz<|av mF J am J (ht J) (ht J)<|zo J (bO)<|al<|ai<|bg 4 J<|aY<|aY ?_;cases so h;exact bF J J ⟨bq mF J J J,aW J,aP⟩

theorem Mu(l:dM)(b:eU){R:(List (List M))×Int}(h:wl l b=some R):aN aJ 15 [tD cT l,tD fN b] (tT [bK (cE) R.1,bu R.2]):=by
 refine aN.of Tryz.func15 J J J fun w0 S0=>ap<|zo J (ff J)<|zo J (ff J)<|zo J (aD (show aH _ _ _ pY from gr))<|zo J (bO)<|al<|ae<|ap<|zo J (bn mF J J)<|bp h fun r q_r h=>zo J (ax Nv (GV _ q_r) ⟨(ht J),aP⟩)<|aB J<|zo J (eT J J)<|zo J (eT J J)<|ba J<|ba J<|al<|ap ?_;refine aB J<|zo J (pt J)<|al<|bX h J (fun h=>?_) (fun h=>?_)
 ·refine ap<|aB J<|zo J (aD (show aH _ _ _ pY from gr))<|ba J<|al<|ai<|aa ?_;cases so h;exact ca J J J
 ·refine cF<|ae<|ap<|zo J (bn mF J J)<|zo J (bn Ao J J)<|bp h fun r1 q_r1 h=>zo J (ax QV (Mt _ _ q_r1) ⟨(ht J),(ht J),aP⟩)<|zo J (cH (ht J))<|al<|bX h J (fun h=>?_) (fun h=>?_)
  ·refine ap<|zo J (aD (show aH _ _ _ pY from gr))<|zo J (bO)<|al<|ai<|aa ?_;cases so h;exact ca J J J
  ·refine cF<|ap<|zo J (bn Ao J J)<|zo J (bM (r:=rH dn [(1,.slice none 0 0),(2,.slice none 0 0)]) (y:=(⟨b,[],[]⟩:cU)) PY Qq (zH Lf ⟨J,J,aP⟩) (⟨_,_,_,_,_,J,Ky Gt J J,J,(ht J),J⟩))<|sD (ht J) J fun b1=>bA true da 32<|bA true bI 3 ?_;refine(show RG _ _ _ _ [db bI 3 none 0 nL,db da 32 none 0 ([]:List (List (List M))),bx (rH dn [(1,aQ none 0 ([]:List (List (List M))).length),(2,aQ none 0 nL.length)]) 96 b1 (⟨b,[],[]⟩:cU)] _ from ?_);refine ba J<|al<|ap<|tN (q0 (fun y:(cU→aC→Option (((List (List M))×Int)×cU))=>cV aJ kS (fG b1) lE y)) jE J fun b2=>aB J ?_
   refine lA ((show bB _ _ _ _ (cV aJ kS (fG b1) lE Lm)from f8 QM (ht J) (fun c x R h i=>by
     obtain⟨r,h1,rfl⟩:=pW.1 h
     exact fi (Ob:=fun j=>fG b1 c j) (i:=i) (Nn _ i c _ h1)))) J ?_
   refine dE (γ:=(fun y:(cU→aC→Option (((List (List M))×Int)×cU))=>cV aJ kS (fG b1) lE y)) (y:=Lm) Ad (de nE) (ht J) (jP hI) (ht J) fun os=>aB J ?_
   refine lA ((show bB _ _ _ _ (cV aJ kS (fG b1) lE Ll)from f8 QL (ht J) (fun c x R h i=>by
     obtain⟨r,h1,rfl⟩:=pW.1 h
     exact fi (Ob:=fun j=>fG b1 c j) (i:=i) (Nm _ i c _ h1)))) J ?_
   refine dE (γ:=(fun y:(cU→aC→Option (((List (List M))×Int)×cU))=>cV aJ kS (fG b1) lE y)) (y:=Ll) Ad (de nE) (ht J) (jP hI) (ht J) fun os1=>aB J ?_
   refine lA ((show bB _ _ _ _ (cV aJ kS (fG b1) lE Lq)from f8 QK (ht J) (fun c x R h i=>by
     obtain⟨r,h1,rfl⟩:=pW.1 h
     exact fi (Ob:=fun j=>fG b1 c j) (i:=i) (Nl _ i c _ h1)))) J ?_
   refine dE (γ:=(fun y:(cU→aC→Option (((List (List M))×Int)×cU))=>cV aJ kS (fG b1) lE y)) (y:=Lq) Ad (de nE) (ht J) (jP hI) (ht J) fun os2=>aB J ?_
   refine lA ((show bB _ _ _ _ (cV aJ kS (fG b1) lE Ln)from f8 QJ (ht J) (fun c x R h i=>by
     obtain⟨r,h1,rfl⟩:=pW.1 h
     exact fi (Ob:=fun j=>fG b1 c j) (i:=i) (Nk _ i c _ h1)))) J ?_
   refine dE (γ:=(fun y:(cU→aC→Option (((List (List M))×Int)×cU))=>cV aJ kS (fG b1) lE y)) (y:=Ln) Ad (de nE) (ht J) (jP hI) (ht J) fun os3=>aB J ?_
   refine lA ((show bB _ _ _ _ (cV aJ kS (fG b1) lE Lr)from f8 QI (ht J) (fun c x R h i=>by
     obtain⟨r,h1,rfl⟩:=pW.1 h
     exact fi (Ob:=fun j=>fG b1 c j) (i:=i) (Nj _ i c _ h1)))) J ?_
   refine dE (γ:=(fun y:(cU→aC→Option (((List (List M))×Int)×cU))=>cV aJ kS (fG b1) lE y)) (y:=Lr) Ad (de nE) (ht J) (jP hI) (ht J) fun os4=>aB J ?_
   refine lA ((show bB _ _ _ _ (cV aJ kS (fG b1) lE Ls)from f8 QH (ht J) (fun c x R h i=>by
     obtain⟨r,h1,rfl⟩:=pW.1 h
     exact fi (Ob:=fun j=>fG b1 c j) (i:=i) (Ni _ i c _ h1)))) J ?_
   refine dE (γ:=(fun y:(cU→aC→Option (((List (List M))×Int)×cU))=>cV aJ kS (fG b1) lE y)) (y:=Ls) Ad (de nE) (ht J) (jP hI) (ht J) fun os5=>aB J ?_
   refine lA ((show bB _ _ _ _ (cV aJ kS (fG b1) lE Lp)from f8 QG (ht J) (fun c x R h i=>by
     obtain⟨r,h1,rfl⟩:=pW.1 h
     exact fi (Ob:=fun j=>fG b1 c j) (i:=i) (Nh _ i c _ h1)))) J ?_
   refine dE (γ:=(fun y:(cU→aC→Option (((List (List M))×Int)×cU))=>cV aJ kS (fG b1) lE y)) (y:=Lp) Ad (de nE) (ht J) (jP hI) (ht J) fun os6=>aB J ?_
   refine lA ((show bB _ _ _ _ (cV aJ kS (fG b1) lE Lo)from f8 QF (ht J) (fun c x R h i=>by
     obtain⟨r,h1,rfl⟩:=pW.1 h
     exact fi (Ob:=fun j=>fG b1 c j) (i:=i) (Ng _ i c _ h1)))) J ?_
   refine dE (γ:=(fun y:(cU→aC→Option (((List (List M))×Int)×cU))=>cV aJ kS (fG b1) lE y)) (y:=Lo) Ad (de nE) (ht J) (jP hI) (ht J) fun os7=>aB J<|ba J<|al<|ae<|ap<|zo J (bS pm jS J J)<|zo J (bn yL J J)<|zo J (eH t6 J)<|zo J (br hI)<|al<|au<|aU (k:=52) J fun hN=>bo<|fA<|mo<|kW<|kW ?_;refine aI (u0 (Z:=fun ls i ob l1 c l2 c1=>(l.Nodes.drop i=ls)∧iL l ls i ob=some R) (Of:=fun _ i ob l1 c l2 c1=>[jF (q0 (fun y:(cU→aC→Option (((List (List M))×Int)×cU))=>cV aJ kS (fG b1) lE y)) jE b2 none os7 Gd,bx (rH dn [(1,aQ l1 c ob.rows.length),(2,aQ l2 c1 ob.width.length)]) 96 b1 ob,db da 32 l1 c ob.rows,db bI 3 l2 c1 ob.width]) (Gf:=fun _ i ob l1 c l2 c1=>[(2,bv cT l),(8,tV (aO b1 0)),(9,tV (lS b2)),(52,bK (aM) l.Nodes),(53,fC l.Nodes),(54,bu (i:Int))]) (fun i ob l1 c l2 c1 h=>?_) (fun e tl ih i ob l1 c l2 c1 h=>?_) l.Nodes 0 (⟨b,[],[]⟩:cU) none 0 none 0 ⟨J,h⟩) (bh J)
   ·obtain⟨hx,h⟩:=h
    refine aw<|ap<|zo J (dC J J)<|al<|ae<|bm (ht J) (cx hx)<|be ?_;refine af (af (aE ?_));refine ak<|ae<|bp h fun e1 q_e1 h=>?_
    refine bZ (ts:=[_,_,_,_,_,_,_,_,_,_,_,_,_,_]) mixed J J
     ⟨dp 8 J J J (cr J),
     ⟨bH 119 0 J J J (cQ (ht J)),
     ⟨bH 120 1 J J J (gQ 1 l0 J J J),
     ⟨bH 121 2 J J J (cC oL J (.tail _ (.head _)) (.tail _ (.tail _ (.head _))) (ht J)),
     ⟨dp 8 J J J (cr J),
     ⟨bH 123 4 J J J (cQ (ht J)),
     ⟨bH 124 5 J J J (gQ 1 l0 J J J),
     ⟨bH 125 6 J J J (cC oL J (.tail _ (.head _)) (.tail _ (.tail _ (.head _))) (ht J)),
     ⟨bH 126 7 J J J (cD jH (gz (ht J))),
     ⟨bH 127 8 J J J (eZ (ht J) hI),
     ⟨cO 122 3 128 9 J J J J (bf jH eu J (gz (ht J)) (ht J) q_e1),
     ⟨bH 129 10 J J J (bn eu J J),
     ⟨bH 130 11 J J J (pe J),
     ⟨Fg J J (bO),
     aP⟩⟩⟩⟩⟩⟩⟩⟩⟩⟩⟩⟩⟩⟩ ?_
    refine ak<|ai<|aY<|aY<|aY<|aY ?_;cases so h;exact ca J J J
   ·obtain⟨hx,h⟩:=h
    refine aw<|ap<|zo J (dC J J)<|al<|ae<|bl (ht J) (cw hx)<|cF<|ae<|au<|ap<|aB J<|zo J (gw t6 fu J J J (ci hx))<|zo J (bn fu J J)<|aV (r:=aM) (x:=Bu) fu (fun _=>k6 _) J fun b3=>ba J<|av fu J am J (ht J) (ht J)<|aS 11 J<|al<|ae ?_;refine an<|aB J<|zo J (bS vw lZ J J)<|zo J (bn bP J J)<|zo J (Dq (γ:=(fun y:(cU→aC→Option (((List (List M))×Int)×cU))=>cV aJ kS (fG b1) (fun(x:(List (List M))×Int)=>tT [tD da x.1,tD bI x.2]) y)) (z:=fun _ _=>none) Ad (de nE) PW (fun _=>zb) (.head _) (ht J) (jP (ht J)))<|zo J (bn fu J J)<|bp h fun r2 q_r2 h=>tP (EffOK.fr3 (EffOK.fr3 (EffOK.fr3 (uN (args:=kS) (Ob:=fG b1) (res:=lE) (f:=((pi Gd e.Op).getD (fun _ _=>none))) (x:=ob) (y:=((e):aC)) (R:=r2) (i:=(KB [(l1,c),(l2,c1)])) (xs:=[.tmp 64]) _ J (ht J) q_r2 ⟨(ht J),aP⟩ (fun _=>J))))) J fun i1=>?_;refine(show RG _ _ _ _ [bx (rH dn [(1,aQ (i1.h 0).1 (i1.h 0).2 r2.2.rows.length),(2,aQ (i1.h 1).1 (i1.h 1).2 r2.2.width.length)]) 96 b1 r2.2,db da 32 (i1.h 0).1 (i1.h 0).2 r2.2.rows,db bI 3 (i1.h 1).1 (i1.h 1).2 r2.2.width,jF (q0 (fun y:(cU→aC→Option (((List (List M))×Int)×cU))=>cV aJ kS (fG b1) lE y)) jE b2 none os7 Gd] ((65,tT [bK (cE) r2.1.1,bu r2.1.2])::_)from ?_);refine aB J<|zo J (eT J J)<|zo J (eT J J)<|ba J<|ba J<|al ?_;refine gv (Z:=fun e2=>ou l (iL l tl) i e r2 e2=some R) (Of:=fun e2=>[jF (q0 (fun y:(cU→aC→Option (((List (List M))×Int)×cU))=>cV aJ kS (fG b1) lE y)) jE b2 none os7 Gd,bx (rH dn [(1,aQ (i1.h 0).1 (i1.h 0).2 r2.2.rows.length),(2,aQ (i1.h 1).1 (i1.h 1).2 r2.2.width.length)]) 96 b1 r2.2,db da 32 (i1.h 0).1 (i1.h 0).2 r2.2.rows,db bI 3 (i1.h 1).1 (i1.h 1).2 r2.2.width]) (Gf:=fun e2=>[(2,bv cT l),(8,tV (aO b1 0)),(9,tV (lS b2)),(10,bu (i:Int)),(11,bv aM e),(12,bK (cE) r2.1.1),(13,bu e2),(52,bK (aM) l.Nodes),(53,fC l.Nodes),(54,bu (i:Int))]) (fun e2 h=>?_) (fun K=>?_)
    ·skip
     refine ae<|ap<|aB J<|zo J (pt J)<|al<|bX h J (fun h=>?_) (fun h=>?_)
     ·refine ap<|aB J<|zo J (aD (show aH _ _ _ pY from gr))<|ba J<|al<|ai ?_;refine aa (aq (aa (aa (aq (aa ?_)))));refine aY<|aY<|aY<|aY ?_;cases so h;exact ca J J J
     ·refine cF ?_;refine gv (Z:=fun rows=>ot l (iL l tl) i r2 rows=some R) (Of:=fun rows=>[jF (q0 (fun y:(cU→aC→Option (((List (List M))×Int)×cU))=>cV aJ kS (fG b1) lE y)) jE b2 none os7 Gd,bx (rH dn [(1,aQ (i1.h 0).1 (i1.h 0).2 r2.2.rows.length),(2,aQ (i1.h 1).1 (i1.h 1).2 r2.2.width.length)]) 96 b1 r2.2,db da 32 (i1.h 0).1 (i1.h 0).2 r2.2.rows,db bI 3 (i1.h 1).1 (i1.h 1).2 r2.2.width]) (Gf:=fun rows=>[(2,bv cT l),(8,tV (aO b1 0)),(9,tV (lS b2)),(10,bu (i:Int)),(12,bK (cE) rows),(52,bK (aM) l.Nodes),(53,fC l.Nodes),(54,bu (i:Int))]) (fun rows h=>?_) (fun K1=>?_)
      ·skip
       refine ap<|zo J (bn mF J J)<|aB J<|bp h fun r3 q_r3 h=>zo J (ax QD (L7 _ _ q_r3) ⟨(ht J),(ht J),aP⟩)<|aB J<|zo J (eT J J)<|zo J (eT J J)<|aV (r:=cT) (x:=Bv) mF (fun _=>nJ _) J fun b4=>av mF J am J (ht J) (ht J)<|aS 14 J<|ba J<|al<|ap<|zo J (bn mF J J)<|bp h fun r4 q_r4 h=>zo J (ax QU (Mi _ q_r4) ⟨(ht J),aP⟩)<|aB J<|zo J (eT J J)<|zo J (eT J J)<|ba J ?_;refine ba J<|al<|bp h fun l3 q_l3 h=>bp h fun l4 q_l4 h=>?_
       refine kA 20 [tc (tV (aO b1 0)),tc (tV (aO b1 0)),tc (tV (aO b1 0)),tc (tV (aO b1 0)),tc (tV (aO b1 1)),tc (tO da (i1.h 0).1 (i1.h 0).2 r2.2.rows),tc (bK (cE) rows),tc (bK (da) ([rows])),([8],fun s=>tO da ((s.getD 0 kY).h 0).1 ((s.getD 0 kY).h 0).2 l3),tc (tV (aO b1 0)),tc (tV (aO b1 0)),tc (tV (aO b1 2)),tc (tO bI (i1.h 1).1 (i1.h 1).2 r2.2.width),tc (iA r4.1),tc (fC r4.1),tc (iA ([(r4.1.length:Int)])),([16],fun s=>tO bI ((s.getD 0 kY).h 0).1 ((s.getD 0 kY).h 0).2 l4),tc (tV (aO b1 0)),tc (tV (aO b1 1)),tc (wE)] [false,false,false,false,false,false,false,false,true,false,false,false,false,false,false,false,true,false,false,true] [fun _=>[jF (q0 (fun y:(cU→aC→Option (((List (List M))×Int)×cU))=>cV aJ kS (fG b1) lE y)) jE b2 none os7 Gd,bx (rH dn [(1,aQ (i1.h 0).1 (i1.h 0).2 r2.2.rows.length),(2,aQ (i1.h 1).1 (i1.h 1).2 r2.2.width.length)]) 96 b1 r2.2,db da 32 (i1.h 0).1 (i1.h 0).2 r2.2.rows,db bI 3 (i1.h 1).1 (i1.h 1).2 r2.2.width],fun sg=>[db da 32 ((sg 8).h 0).1 ((sg 8).h 0).2 l3,jF (q0 (fun y:(cU→aC→Option (((List (List M))×Int)×cU))=>cV aJ kS (fG b1) lE y)) jE b2 none os7 Gd,bx (rH dn [(1,aQ (i1.h 0).1 (i1.h 0).2 r2.2.rows.length),(2,aQ (i1.h 1).1 (i1.h 1).2 r2.2.width.length)]) 96 b1 r2.2,db bI 3 (i1.h 1).1 (i1.h 1).2 r2.2.width],fun sg=>[db bI 3 ((sg 16).h 0).1 ((sg 16).h 0).2 l4,db da 32 ((sg 8).h 0).1 ((sg 8).h 0).2 l3,jF (q0 (fun y:(cU→aC→Option (((List (List M))×Int)×cU))=>cV aJ kS (fG b1) lE y)) jE b2 none os7 Gd,bx (rH dn [(1,aQ (i1.h 0).1 (i1.h 0).2 r2.2.rows.length),(2,aQ (i1.h 1).1 (i1.h 1).2 r2.2.width.length)]) 96 b1 r2.2],fun sg=>[bx (rH dn [(1,aQ ((sg 8).h 0).1 ((sg 8).h 0).2 l3.length),(2,aQ (i1.h 1).1 (i1.h 1).2 r2.2.width.length)]) 96 b1 ({r2.2 with rows:=l3}:cU),db bI 3 ((sg 16).h 0).1 ((sg 16).h 0).2 l4,db da 32 ((sg 8).h 0).1 ((sg 8).h 0).2 l3,jF (q0 (fun y:(cU→aC→Option (((List (List M))×Int)×cU))=>cV aJ kS (fG b1) lE y)) jE b2 none os7 Gd]] J mixed J J J J J
        ⟨⟨[⟨8,fun _=>tV (aO b1 0),none⟩],_,0,2,J,⟨(fun _=>J),aP⟩,J,J,J,J,J,fun _ sg _ _=>aA J (cr J)⟩,
        ⟨⟨[⟨8,fun _=>tV (aO b1 0),none⟩],_,0,3,J,⟨(fun _=>J),aP⟩,J,J,J,J,J,fun _ sg _ _=>aA J (cr J)⟩,
        ⟨⟨[⟨8,fun _=>tV (aO b1 0),none⟩],_,0,0,J,⟨(fun _=>J),aP⟩,J,J,J,J,J,fun _ sg _ _=>aA J (cr J)⟩,
        ⟨⟨[⟨99,fun _=>tV (aO b1 0),some 2⟩],_,0,0,J,⟨(fun _=>J),aP⟩,J,J,J,J,J,fun _ sg _ _=>aA J (cQ (ht J))⟩,
        ⟨⟨[⟨100,fun _=>tV (aO b1 0),some 3⟩],_,0,0,J,⟨(fun _=>J),aP⟩,J,J,J,J,J,fun _ sg _ _=>aA J (gQ 1 l0 J J J)⟩,
        ⟨⟨[⟨101,fun _=>tV (aO b1 1),some 4⟩],_,0,0,J,⟨(fun _=>J),aP⟩,J,J,J,J,J,s9 (fun sg=>aA J (cC oL J (.tail _ (.head _)) (.tail _ (.tail _ (.head _))) (ht J)))⟩,
        ⟨⟨[⟨12,fun _=>tD da rows,none⟩],_,0,0,J,⟨(fun _=>J),aP⟩,J,J,J,J,J,fun _ sg _ _=>aA J (cr J)⟩,
        ⟨⟨[⟨103,fun _=>tD da rows,some 6⟩],_,0,0,J,⟨(fun _=>J),aP⟩,J,J,J,J,J,fun _ sg _ _=>aA J (aR (r:=da) (ys:=[rows]) (xs:=[.tmp 103]) jH eu J J J J J ⟨(ht J),aP⟩)⟩,
        ⟨⟨[⟨102,fun _=>tO da (i1.h 0).1 (i1.h 0).2 r2.2.rows,some 5⟩,⟨104,fun _=>tD (ea da) ([rows]),some 7⟩],_,J,⟨(fun _=>J),(fun _=>J),aP⟩,J,J,J,fun sg=>dA J (EffOK.fr2 (o6 eu J J J J jH J (ht J) (ht J) q_l3))⟩,
        ⟨⟨[⟨8,fun _=>tV (aO b1 0),none⟩],_,0,1,J,⟨(fun _=>J),aP⟩,J,J,J,J,J,fun _ sg _ _=>aA J (cr J)⟩,
        ⟨⟨[⟨106,fun _=>tV (aO b1 0),some 9⟩],_,0,1,J,⟨(fun _=>J),aP⟩,J,J,J,J,J,fun _ sg _ _=>aA J (cQ (ht J))⟩,
        ⟨⟨[⟨107,fun _=>tV (aO b1 0),some 10⟩],_,0,1,J,⟨(fun _=>J),aP⟩,J,J,J,J,J,fun _ sg _ _=>aA J (gQ 2 DD J J J)⟩,
        ⟨⟨[⟨108,fun _=>tV (aO b1 2),some 11⟩],_,0,1,J,⟨(fun _=>J),aP⟩,J,J,J,J,J,yI (fun sg=>aA J (cC c0 J (.tail _ (.head _)) (.tail _ (.tail _ (.tail _ (.head _)))) (ht J))) (s9 (fun sg=>aA J (cC c0 J (.tail _ (.tail _ (.head _))) (.tail _ (.tail _ (.tail _ (.head _)))) (ht J))))⟩,
        ⟨⟨[⟨16,fun _=>tD rb r4.1,none⟩],_,0,1,J,⟨(fun _=>J),aP⟩,J,J,J,J,J,fun _ sg _ _=>aA J (cr J)⟩,
        ⟨⟨[⟨110,fun _=>tD rb r4.1,some 13⟩],_,0,1,J,⟨(fun _=>J),aP⟩,J,J,J,J,J,fun _ sg _ _=>aA J (eH ed J)⟩,
        ⟨⟨[⟨111,fun _=>tD bI (r4.1.length:Int),some 14⟩],_,0,1,J,⟨(fun _=>J),aP⟩,J,J,J,J,J,fun _ sg _ _=>aA J (aR (r:=bI) (ys:=[(r4.1.length:Int)]) (xs:=[.tmp 111]) ed bP J J J J J ⟨(ht J),aP⟩)⟩,
        ⟨⟨[⟨109,fun _=>tO bI (i1.h 1).1 (i1.h 1).2 r2.2.width,some 12⟩,⟨112,fun _=>tD rb ([(r4.1.length:Int)]),some 15⟩],_,J,⟨(fun _=>J),(fun _=>J),aP⟩,J,J,J,fun sg=>dA J (EffOK.fr3 (o6 bP J J J J ed J (ht J) (ht J) q_l4))⟩,
        ⟨⟨[⟨97,fun _=>tV (aO b1 0),some 0⟩],_,2,2,J,⟨(fun _=>J),aP⟩,J,J,J,J,J,fun _ sg _ _=>aA J (cQ (ht J))⟩,
        ⟨⟨[⟨114,fun _=>tV (aO b1 0),some 17⟩],_,2,2,J,⟨(fun _=>J),aP⟩,J,J,J,J,J,fun _ sg _ _=>aA J (gQ 1 l0 J J J)⟩,
        ⟨⟨[⟨115,fun _=>tV (aO b1 1),some 18⟩,⟨105,fun sg=>tO da ((sg 8).h 0).1 ((sg 8).h 0).2 l3,some 8⟩],_,J,⟨(fun _=>J),(fun _=>J),aP⟩,J,J,J,fun sg=>dA J (EffOK.fr3 (qx (hs' :=[(1,aQ ((sg 8).h 0).1 ((sg 8).h 0).2 l3.length),(2,aQ (i1.h 1).1 (i1.h 1).2 r2.2.width.length)]) (u:=aQ ((sg 8).h 0).1 ((sg 8).h 0).2 l3.length) oL J J Gs J ⟨.inl ⟨J,J,J⟩,.inr ⟨J,J⟩,aP⟩ (ht J) (gz (ht J)) (C1 (ht J))))⟩,
        aP⟩⟩⟩⟩⟩⟩⟩⟩⟩⟩⟩⟩⟩⟩⟩⟩⟩⟩⟩⟩ (fun sg=>?_)
       refine(show RG _ _ _ _ [bx (rH dn [(1,aQ ((sg 8).h 0).1 ((sg 8).h 0).2 l3.length),(2,aQ (i1.h 1).1 (i1.h 1).2 r2.2.width.length)]) 96 b1 ({r2.2 with rows:=l3}:cU),db bI 3 ((sg 16).h 0).1 ((sg 16).h 0).2 l4,db da 32 ((sg 8).h 0).1 ((sg 8).h 0).2 l3,jF (q0 (fun y:(cU→aC→Option (((List (List M))×Int)×cU))=>cV aJ kS (fG b1) lE y)) jE b2 none os7 Gd] _ from ?_);refine zo J (cQ (ht J))<|zo J (gQ 2 DD J J J)<|qH (qx (hs' :=[(1,aQ ((sg 8).h 0).1 ((sg 8).h 0).2 l3.length),(2,aQ ((sg 16).h 0).1 ((sg 16).h 0).2 l4.length)]) (u:=aQ ((sg 16).h 0).1 ((sg 16).h 0).2 l4.length) c0 J J Gr J ⟨.inr ⟨J,J⟩,.inl ⟨J,J,J⟩,aP⟩ (ht J) (gz (ht J)) (C1 (ht J))) fun i2=>?_;refine(show RG _ _ _ _ [bx (rH dn [(1,aQ ((sg 8).h 0).1 ((sg 8).h 0).2 l3.length),(2,aQ ((sg 16).h 0).1 ((sg 16).h 0).2 l4.length)]) 96 b1 ({({r2.2 with rows:=l3}:cU)with width:=l4}:cU),db bI 3 ((sg 16).h 0).1 ((sg 16).h 0).2 l4,db da 32 ((sg 8).h 0).1 ((sg 8).h 0).2 l3,jF (q0 (fun y:(cU→aC→Option (((List (List M))×Int)×cU))=>cV aJ kS (fG b1) lE y)) jE b2 none os7 Gd] _ from ?_);refine aL<|aj<|ak<|an<|zo rfl (iq (bW hx hN) rfl)<|aB rfl<|aL<|bt<|aK<|aK<|co ?_;exact aT (aI (ih (i+1) ({({r2.2 with rows:=l3}:cU)with width:=l4}:cU) ((sg 8).h 0).1 ((sg 8).h 0).2 ((sg 16).h 0).1 ((sg 16).h 0).2 ⟨bV hx,h⟩) (bh J))
      ·skip
       refine ap<|zo J (bS vw lZ J J)<|zo J (bn bP J J)<|zo J (pt J)<|al<|bX h J (fun h=>?_) (fun h=>?_)
       ·refine an<|aB J<|bp h fun r5 q_r5 h=>zo J (ax QE (L8 _ q_r5) ⟨(ht J),aP⟩)<|aB J<|zo J (eT J J)<|zo J (eT J J)<|ba J<|aL ?_;exact cn (K1 r5.1 h) (bh J)
       ·refine bi ?_;exact cn (K1 r2.1.1 h) (bh J)
    ·skip
     refine ap<|aB J<|zo J (io J)<|aB J<|cd J J (fun hg=>cr J)<|cd J J (fun hg=>cD ge (bk J hg))<|cd J J (fun hg=>eb (bk J hg) hI)<|zo J (ms J J)<|al<|bX h J (fun h=>?_) (fun h=>?_)
     ·refine an<|zo J (bO)<|aL<|aK<|aK<|aK<|co ?_;exact cn (K (3:Int) h) (bh J)
     ·refine bi<|aK<|aK<|aK<|co ?_;exact cn (K r2.1.2 h) (bh J)

end Go.Proofs.YtfhhakidodmdfaaGreatDoor

