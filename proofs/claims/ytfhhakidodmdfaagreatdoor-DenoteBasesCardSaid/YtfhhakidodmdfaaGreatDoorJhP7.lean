/- cX of this claim: P7. -/
import Derived.Test.YtfhhakidodmdfaaGreatDoorJhT
import Derived.Test.YtfhhakidodmdfaaGreatDoorJhP6
set_option linter.all false
namespace Go.Proofs.YtfhhakidodmdfaaGreatDoor
open Go
set_option maxRecDepth 100000

theorem JG(e:cK)(do1:(cu→(List M)→Option (M×Int))){R:M×Int}(h:nd e do1=some R):aN aJ 184 [tD bY e,(cB aJ H1 nK (fun(x:cu×(List M))=>do1 x.1 x.2))] (tT [tD ac R.1,bu R.2]):=by
 refine aN.of Tryz.func184 J J J fun w0 S0=>ap<|zo J (ff J)<|aV (r:=ac) (x:=eS) aG (fun _=>aZ _) J fun b=>zo J (bO)<|al<|CC<|ap<|bA false ac 46<|aV (x:=aQ none 0 0) An (fun _=>xO) J fun b1=>al<|ap<|aV (r:=ac) (x:=eS) aG (fun _=>aZ _) J fun b2=>aS 7 J<|al<|ap<|zo J (BX (cts:=[tV (aO b1 0)]) (caps:=[.tmp 6]) ⟨(ht J),aP⟩) ?_;refine ba J<|al<|ap<|zo J (bO)<|al<|ae<|CD<|ak<|ae<|ap<|zo rfl (bS m3 j9 rfl rfl)<|zo rfl (bn wD rfl rfl)<|zo rfl (eH t7 rfl)<|zo rfl (br hI)<|al ?_;refine zY (Z:=fun bad stack l c=>i8 bad stack=some R) (Of:=fun bad stack l c=>[bx ac 46 b eS,bx rV 42 b1 (aQ l c stack.length),dJ ac 46 l c stack]) (Gf:=fun bad stack l c=>[(4,tV (aO b 0)),(6,tV (aO b1 0)),(7,bv ac eS),(9,bu bad)]) (fun bad stack l c h=>?_) (fun K=>?_)
 ·skip
  refine ak<|ae<|ap<|aB rfl<|zo rfl (pt rfl)<|al<|bX h rfl (fun h=>?_) (fun h=>?_)
  ·refine ap<|zo J (bn aG J J)<|aB J<|av aG J am J (ht J) (ht J)<|ba J<|al<|ai ?_;refine aa (sG ?_);refine bg 4 J<|aY<|aY ?_;cases so h;exact bF J J ⟨bq aG J J J,aW J,aP⟩
  ·refine cF<|ap<|zo J (eN An (.tail _ (.head _)) (ht J))<|bp h fun e1 q_e1 h=>zo J (ck ns aG (.tail _ (.tail _ (.head _))) (ht J) hI q_e1)<|zo J (eo (r:=ac) (i:=(0:Int)) (foff:=0) aG J J bG J (.tail _ (.tail _ (.head _))) q_e1 (ht J))<|av aG J am J (ht J) (ht J)<|zo J (bO)<|al<|ai<|sG<|bg 4 J<|aY<|aY ?_;cases so h;exact bF J J ⟨bq aG J J J,aW J,aP⟩
 ·skip
  refine aU (k:=16) J fun hN=>bo<|fA<|fA<|mo ?_;refine aI (oG (Z:=fun ls i bad1 stack1 l1 c1=>(e.Nodes.drop i=ls)∧i7 do1 ls bad1 stack1=some R) (Of:=fun _ i bad1 stack1 l1 c1=>[bx ac 46 b eS,bx rV 42 b1 (aQ l1 c1 stack1.length),dJ ac 46 l1 c1 stack1]) (Gf:=fun _ i bad1 stack1 l1 c1=>[(1,(cB aJ H1 nK (fun(x:cu×(List M))=>do1 x.1 x.2))),(4,tV (aO b 0)),(6,tV (aO b1 0)),(7,bv ac eS),(8,tC 275 [tV (aO b1 0)]),(9,bu bad1),(16,bK (bD) e.Nodes),(17,fC e.Nodes),(18,bu (i:Int))]) (fun i bad1 stack1 l1 c1 h=>?_) (fun e2 tl ih i bad1 stack1 l1 c1 h=>?_) e.Nodes 0 (0:Int) Aj none 0 ⟨J,h⟩) (bh J)
  ·obtain⟨hx,h⟩:=h
   refine aw<|ap<|zo J (dC J J)<|al<|ae<|bm (ht J) (cx hx)<|be ?_;refine af (af (aE ?_));exact cn (K bad1 stack1 l1 c1 h) (bh J)
  ·obtain⟨hx,h⟩:=h
   refine aw<|ap<|zo J (dC J J)<|al<|ae<|bl (ht J) (cw hx)<|cF<|ae<|au<|ap<|zo J (gw t7 mE J J J (ci hx))<|zo J (bn mE J J)<|aV (r:=bD) (x:=HY) mE (fun _=>ra _) J fun b3=>av mE J am J (ht J) (ht J)<|aS 11 J<|al<|ae<|bp h fun r q_r h=>bp h fun r1 q_r1 h=>?_
   obtain⟨r2,q_r2,h⟩:=bs h
   refine HN 13 [tc ((cB aJ H1 nK (fun(x:cu×(List M))=>do1 x.1 x.2))),tc (tD bD e2),tc (tC 275 [tV (aO b1 0)]),tc (bv bI e2.Tag),tc (bu e2.Tag),tc (bu r),tc (bK (ac) r1.1),tc (tT [tD ac r2.1,bu r2.2]),tc (tT [tD ac r2.1,bu r2.2]),tc (tD ac r2.1),tc (bu r2.2),([11],fun s=>tV (aO ((s.getD 0 kY).h 0).2 0)),tc (wE)] [false,false,false,false,false,false,true,false,false,false,false,true,true] [([],fun _=>[bx ac 46 b eS,bx rV 42 b1 (aQ l1 c1 stack1.length),dJ ac 46 l1 c1 stack1]),([6],fun sg=>[bx rV 42 b1 (aQ ((sg 6).h 0).1 ((sg 6).h 0).2 r1.2.length),dJ ac 46 ((sg 6).h 0).1 ((sg 6).h 0).2 r1.2,bx ac 46 b eS]),([11],fun sg=>[bx ac 46 ((sg 11).h 0).2 eS,bx ac 46 b eS,bx rV 42 b1 (aQ l1 c1 stack1.length),dJ ac 46 l1 c1 stack1]),([6,11],fun sg=>[bx ac 46 ((sg 11).h 0).2 eS,bx rV 42 b1 (aQ ((sg 6).h 0).1 ((sg 6).h 0).2 r1.2.length),dJ ac 46 ((sg 6).h 0).1 ((sg 6).h 0).2 r1.2,bx ac 46 b eS]),([6,11,12],fun sg=>[bx ac 46 ((sg 11).h 0).2 r2.1,bx rV 42 b1 (aQ ((sg 6).h 0).1 ((sg 6).h 0).2 r1.2.length),dJ ac 46 ((sg 6).h 0).1 ((sg 6).h 0).2 r1.2,bx ac 46 b eS])] (fun _=>J) mixed J J J J
    ⟨⟨[⟨1,fun _=>(cB aJ H0 wz (fun(x:cu×(List M))=>do1 x.1 x.2)),none⟩],_,[[],[6],[11],[6,11]],J,⟨(fun _=>J),aP⟩,J,J,J,J,J,⟨fun sg=>aA J (cr J),fun sg=>aA J (cr J),fun sg=>aA J (cr J),fun sg=>aA J (cr J),aP⟩⟩,
    ⟨⟨[⟨11,fun _=>bv bD e2,none⟩],_,[[],[6],[11],[6,11]],J,⟨(fun _=>J),aP⟩,J,J,J,J,J,⟨fun sg=>aA J (bn mE J J),fun sg=>aA J (bn mE J J),fun sg=>aA J (bn mE J J),fun sg=>aA J (bn mE J J),aP⟩⟩,
    ⟨⟨[⟨8,fun _=>tC 275 [tV (aO b1 0)],none⟩],_,[[],[11]],J,⟨(fun _=>J),aP⟩,J,J,J,J,J,⟨fun sg=>aA J (cr J),fun sg=>aA J (cr J),aP⟩⟩,
    ⟨⟨[⟨11,fun _=>bv bD e2,none⟩],_,[[],[11]],J,⟨(fun _=>J),aP⟩,J,J,J,J,J,⟨fun sg=>aA J (bS lr fc J J),fun sg=>aA J (bS lr fc J J),aP⟩⟩,
    ⟨⟨[⟨26,fun _=>bv bI e2.Tag,some 3⟩],_,[[],[11]],J,⟨(fun _=>J),aP⟩,J,J,J,J,J,⟨fun sg=>aA J (bn bP J J),fun sg=>aA J (bn bP J J),aP⟩⟩,
    ⟨⟨[⟨27,fun _=>tD bI e2.Tag,some 4⟩],_,[[],[11]],J,⟨(fun _=>J),aP⟩,J,J,J,J,J,⟨fun sg=>aA J (ax ET (wX _ q_r) ⟨(ht J),aP⟩),fun sg=>aA J (ax ET (wX _ q_r) ⟨(ht J),aP⟩),aP⟩⟩,
    ⟨⟨[⟨25,fun _=>tC 275 [tV (aO b1 0)],some 2⟩,⟨28,fun _=>tD bI r,some 5⟩],_,[([],[6]),([11],[6,11])],J,⟨(fun _=>J),(fun _=>J),aP⟩,J,J,J,J,J,⟨fun sg=>dA J (EffOK.fr2 (EffOK.fr2 (vA (xs:=[.tmp 28]) (ts:=[tD bI r]) (cts:=[tV (aO b1 0)]) [bx rV 42 b1 (aQ l1 c1 stack1.length),dJ ac 46 l1 c1 stack1] _ J KP (G1 b1 l1 c1 _ _ q_r1) (ht J) ⟨(ht J),aP⟩ (fun _=>J)))),fun sg=>dA J (EffOK.post_imp (post:=fun x__=>(fun(sg:Nat→OI)=>[bx rV 42 b1 (aQ ((sg 6).h 0).1 ((sg 6).h 0).2 r1.2.length),dJ ac 46 ((sg 6).h 0).1 ((sg 6).h 0).2 r1.2,bx ac 46 ((sg 11).h 0).2 eS,bx ac 46 b eS]) (CX sg 6 x__)) (EffOK.fr3 (EffOK.fr3 (vA (xs:=[.tmp 28]) (ts:=[tD bI r]) (cts:=[tV (aO b1 0)]) [bx rV 42 b1 (aQ l1 c1 stack1.length),dJ ac 46 l1 c1 stack1] _ J KP (G1 b1 l1 c1 _ _ q_r1) (ht J) ⟨(ht J),aP⟩ (fun _=>J)))) (fun h=>cj.pick [2,0,1,3] J h)),aP⟩⟩,
    ⟨⟨[⟨23,fun _=>(cB aJ H0 wz (fun(x:cu×(List M))=>do1 x.1 x.2)),some 0⟩,⟨24,fun _=>tD bD e2,some 1⟩,⟨29,fun _=>tD cE r1.1,some 6⟩],_,[[6],[6,11]],J,⟨(fun _=>J),(fun _=>J),(fun _=>J),aP⟩,J,J,J,J,J,⟨fun sg=>aA J (dz (args:=H0) (res:=wz) (f:=(fun(x:cu×(List M))=>do1 x.1 x.2)) (x:=((e2,r1.1):cu×(List M))) (ht J) q_r2 ⟨(ht J),(ht J),aP⟩),fun sg=>aA J (dz (args:=H0) (res:=wz) (f:=(fun(x:cu×(List M))=>do1 x.1 x.2)) (x:=((e2,r1.1):cu×(List M))) (ht J) q_r2 ⟨(ht J),(ht J),aP⟩),aP⟩⟩,
    ⟨⟨[⟨30,fun _=>tT [tD ac r2.1,tD bI r2.2],some 7⟩],_,[[6],[6,11]],J,⟨(fun _=>J),aP⟩,J,J,J,J,J,⟨fun sg=>aA J (cr J),fun sg=>aA J (cr J),aP⟩⟩,
    ⟨⟨[⟨22,fun _=>tT [tD ac r2.1,tD bI r2.2],some 8⟩],_,[[6],[6,11]],J,⟨(fun _=>J),aP⟩,J,J,J,J,J,⟨fun sg=>aA J (eT J J),fun sg=>aA J (eT J J),aP⟩⟩,
    ⟨⟨[⟨22,fun _=>tT [tD ac r2.1,tD bI r2.2],some 8⟩],_,[[6],[6,11],[6,11,12]],J,⟨(fun _=>J),aP⟩,J,J,J,J,J,⟨fun sg=>aA J (eT J J),fun sg=>aA J (eT J J),fun sg=>aA J (eT J J),aP⟩⟩,
    ⟨⟨[],_,[([],[11]),([6],[6,11])],J,aP,J,J,J,J,J,⟨fun sg=>dA J (sx (r:=ac) (x:=eS) aG (fun _=>aZ _)),fun sg=>dA J (sx (r:=ac) (x:=eS) aG (fun _=>aZ _)),aP⟩⟩,
    ⟨⟨[⟨12,fun sg=>tV (aO ((sg 11).h 0).2 0),some 11⟩,⟨31,fun _=>tD ac r2.1,some 9⟩],_,[([6,11],[6,11,12])],J,⟨(fun _=>J),(fun _=>J),aP⟩,J,J,J,J,J,⟨fun sg=>dA J (jV aG J (te am) J (ht J) (ht J)),aP⟩⟩,
    aP⟩⟩⟩⟩⟩⟩⟩⟩⟩⟩⟩⟩⟩ (fun sg=>?_)
   refine(show RG _ _ _ _ [bx ac 46 ((sg 11).h 0).2 r2.1,bx rV 42 b1 (aQ ((sg 6).h 0).1 ((sg 6).h 0).2 r1.2.length),dJ ac 46 ((sg 6).h 0).1 ((sg 6).h 0).2 r1.2,bx ac 46 b eS] _ from ?_);refine aS 12 J<|ba J<|al<|ae<|ap<|aB J<|zo J (pt J)<|al<|bX h J (fun h=>?_) (fun h=>?_)
   ·refine ap<|aB J<|ba J<|al<|be ?_;refine af (bN J (af (af (aE ?_))));refine bt<|bt<|aK ?_;exact cn (K r2.2 r1.2 ((sg 6).h 0).1 ((sg 6).h 0).2 h) (bh J)
   ·refine cF<|an<|zo J (eN An (.head _) (ht J))<|zo J (bn aG J J)<|zo J (aR (r:=ac) (ys:=[r2.1]) (xs:=[.tmp 37]) ns aG J J J J J ⟨(ht J),aP⟩)<|bz<|bp h fun l2 q_l2 h=>cg aG J J J J ns J J (ht J) (ht J) q_l2 fun l3 c2=>bz<|av An J am J (ht J) (GJ (ht J))<|aL<|aj<|ak<|an<|zo rfl (iq (bW hx hN) rfl)<|aB rfl<|aL<|bt<|bt<|aK ?_;exact aT (aI (ih (i+1) bad1 l2 l3 c2 ⟨bV hx,h⟩) (bh J))

theorem JF(r:(List M))(do1:(List (Int×(M→M→Option (M×Int)))))(n:cu)(l:(List M)){R:M×Int}(h:rR r do1 n l=some R):aN aJ 185 [tD bD n,bK (ac) l,bv cE r,bv (rT (Ed (fun y:(M→M→Option (M×Int))=>sL aJ lC nK (fun(x:M×M)=>y x.1 x.2)) jE do1)) ()] (tT [tD ac R.1,bu R.2]):=by
 refine aN.of Tryz.func185 J J J fun w0 S0=>ap<|zo J (ff J)<|aV (r:=ac) (x:=eS) aG (fun _=>aZ _) J fun b=>zo J (bO)<|al<|ae<|ap<|zo J (bS lr fc J J)<|zo J (bn bP J J)<|al<|au<|ap<|zo J (io J)<|ba J<|al<|bX h J (fun h=>?_) (fun h=>?_)
 ·refine ap<|zo J (bS yg n9 J J)<|zo J (bn aG J J)<|av aG J am J (ht J) (ht J)<|zo J (bO)<|al<|ai ?_;refine aq (aa ?_);refine bg 6 J ?_;cases so h;exact bF J J ⟨bq aG J J J,aW J,aP⟩
 ·refine ap<|zo J (io J)<|ba J<|al<|bX h J (fun h=>?_) (fun h=>?_)
  ·refine ap<|zo J (bn dd J J)<|zo J (bS tA kP J J)<|zo J (bn bP J J)<|bp h fun e q_e h=>zo J (gw lG aG J J J q_e)<|zo J (bn aG J J)<|av aG J am J (ht J) (ht J)<|zo J (bO)<|al<|ai ?_;refine aq (aa ?_);refine bg 6 J ?_;cases so h;exact bF J J ⟨bq aG J J J,aW J,aP⟩
  ·refine bi<|aj<|ak<|ae<|bp h fun e1 q_e1 h=>bp h fun e2 q_e2 h=>bp h fun r1 q_r1 h=>?_
   refine kA 19 [tc (Ed (fun y:(M→M→Option (M×Int))=>sL aJ lC nK (fun(x:M×M)=>y x.1 x.2)) jE do1),tc (bv bI n.Tag),tc (bu n.Tag),tc (sL aJ lC nK (fun(x:M×M)=>((pi do1 n.Tag).getD (fun _ _=>none)) x.1 x.2)),tc (bK (ac) l),tc (bv ac e1),tc (tD ac e1),tc (bK (ac) l),tc (bK (ac) l),tc (fC l),tc (bu (IntKind.i64.wrap ((l.length:Int)-(1:Int)))),tc (bv ac e2),tc (tD ac e2),tc (tT [tD ac r1.1,bu r1.2]),tc (tT [tD ac r1.1,bu r1.2]),tc (tD ac r1.1),tc (bu r1.2),([17],fun s=>tV (aO ((s.getD 0 kY).h 0).2 0)),tc (wE)] [false,false,false,false,false,false,false,false,false,false,false,false,false,false,false,false,false,true,true] [fun _=>[bx ac 46 b eS],fun sg=>[bx ac 46 ((sg 17).h 0).2 eS,bx ac 46 b eS],fun sg=>[bx ac 46 ((sg 17).h 0).2 r1.1,bx ac 46 b eS]] J mixed J J J J J
    ⟨⟨[⟨3,fun _=>bv (rT (Ed (fun y:(M→M→Option (M×Int))=>sL aJ lC wz (fun(x:M×M)=>y x.1 x.2)) jE do1)) (),none⟩],_,0,1,J,⟨(fun _=>J),aP⟩,J,J,J,J,J,fun _ sg _ _=>aA J (mJ Gj (ht J))⟩,
    ⟨⟨[⟨4,fun _=>bv bD n,none⟩],_,0,1,J,⟨(fun _=>J),aP⟩,J,J,J,J,J,fun _ sg _ _=>aA J (bS lr fc J J)⟩,
    ⟨⟨[⟨25,fun _=>bv bI n.Tag,some 1⟩],_,0,1,J,⟨(fun _=>J),aP⟩,J,J,J,J,J,fun _ sg _ _=>aA J (bn bP J J)⟩,
    ⟨⟨[⟨24,fun _=>Ed (fun y:(M→M→Option (M×Int))=>sL aJ lC wz (fun(x:M×M)=>y x.1 x.2)) jE do1,some 0⟩,⟨26,fun _=>tD bI n.Tag,some 2⟩],_,0,1,J,⟨(fun _=>J),(fun _=>J),aP⟩,J,J,J,J,J,fun _ sg _ _=>aA J (BZ (γ:=(fun y:(M→M→Option (M×Int))=>sL aJ lC wz (fun(x:M×M)=>y x.1 x.2))) (z:=(fun _ _=>none)) q8 (de nE) ML (fun _=>H2) (ht J) (jP (ht J)))⟩,
    ⟨⟨[⟨1,fun _=>tD cE l,none⟩],_,0,1,J,⟨(fun _=>J),aP⟩,J,J,J,J,J,fun _ sg _ _=>aA J (cr J)⟩,
    ⟨⟨[⟨28,fun _=>tD cE l,some 4⟩],_,0,1,J,⟨(fun _=>J),aP⟩,J,J,J,J,J,fun _ sg _ _=>aA J (bf ns aG J (ht J) hI q_e1)⟩,
    ⟨⟨[⟨29,fun _=>bv ac e1,some 5⟩],_,0,1,J,⟨(fun _=>J),aP⟩,J,J,J,J,J,fun _ sg _ _=>aA J (bn aG J J)⟩,
    ⟨⟨[⟨1,fun _=>tD cE l,none⟩],_,0,1,J,⟨(fun _=>J),aP⟩,J,J,J,J,J,fun _ sg _ _=>aA J (cr J)⟩,
    ⟨⟨[⟨1,fun _=>tD cE l,none⟩],_,0,1,J,⟨(fun _=>J),aP⟩,J,J,J,J,J,fun _ sg _ _=>aA J (cr J)⟩,
    ⟨⟨[⟨32,fun _=>tD cE l,some 8⟩],_,0,1,J,⟨(fun _=>J),aP⟩,J,J,J,J,J,fun _ sg _ _=>aA J (eH ns J)⟩,
    ⟨⟨[⟨33,fun _=>tD bI (l.length:Int),some 9⟩],_,0,1,J,⟨(fun _=>J),aP⟩,J,J,J,J,J,fun _ sg _ _=>aA J (eZ (ht J) hI)⟩,
    ⟨⟨[⟨31,fun _=>tD cE l,some 7⟩,⟨34,fun _=>tD bI (IntKind.i64.wrap ((l.length:Int)-(1:Int))),some 10⟩],_,0,1,J,⟨(fun _=>J),(fun _=>J),aP⟩,J,J,J,J,J,fun _ sg _ _=>aA J (gw ns aG J J J q_e2)⟩,
    ⟨⟨[⟨35,fun _=>bv ac e2,some 11⟩],_,0,1,J,⟨(fun _=>J),aP⟩,J,J,J,J,J,fun _ sg _ _=>aA J (bn aG J J)⟩,
    ⟨⟨[⟨27,fun _=>sL aJ lC wz (fun(x:M×M)=>((pi do1 n.Tag).getD (fun _ _=>none)) x.1 x.2),some 3⟩,⟨30,fun _=>tD ac e1,some 6⟩,⟨36,fun _=>tD ac e2,some 12⟩],_,0,1,J,⟨(fun _=>J),(fun _=>J),(fun _=>J),aP⟩,J,J,J,J,J,fun _ sg _ _=>aA J (Fy (args:=lC) (res:=wz) (f:=(fun(x:M×M)=>((pi do1 n.Tag).getD (fun _ _=>none)) x.1 x.2)) (x:=((e1,e2):M×M)) (ht J) q_r1 ⟨(ht J),(ht J),aP⟩)⟩,
    ⟨⟨[⟨37,fun _=>tT [tD ac r1.1,tD bI r1.2],some 13⟩],_,0,1,J,⟨(fun _=>J),aP⟩,J,J,J,J,J,fun _ sg _ _=>aA J (cr J)⟩,
    ⟨⟨[⟨23,fun _=>tT [tD ac r1.1,tD bI r1.2],some 14⟩],_,0,1,J,⟨(fun _=>J),aP⟩,J,J,J,J,J,fun _ sg _ _=>aA J (eT J J)⟩,
    ⟨⟨[⟨23,fun _=>tT [tD ac r1.1,tD bI r1.2],some 14⟩],_,0,2,J,⟨(fun _=>J),aP⟩,J,J,J,J,J,fun _ sg _ _=>aA J (eT J J)⟩,
    ⟨⟨[],_,J,aP,J,J,J,fun sg=>dA J (sx (r:=ac) (x:=eS) aG (fun _=>aZ _))⟩,
    ⟨⟨[⟨8,fun sg=>tV (aO ((sg 17).h 0).2 0),some 17⟩,⟨38,fun _=>tD ac r1.1,some 15⟩],_,J,⟨(fun _=>J),(fun _=>J),aP⟩,J,J,J,fun sg=>dA J (jV aG J (te am) J (ht J) (ht J))⟩,
    aP⟩⟩⟩⟩⟩⟩⟩⟩⟩⟩⟩⟩⟩⟩⟩⟩⟩⟩⟩ (fun sg=>?_)
   refine(show RG _ _ _ _ [bx ac 46 ((sg 17).h 0).2 r1.1,bx ac 46 b eS] _ from ?_);refine aS 8 J<|ba J<|al ?_;refine gv (Z:=fun no=>oj r1 no=some R) (Of:=fun no=>[bx ac 46 b eS]) (Gf:=fun no=>[(6,tV (aO b 0)),(8,bv ac r1.1),(9,bu no)]) (fun no h=>?_) (fun K=>?_)
   ·skip
    refine ap<|zo J (bn aG J J)<|aB J<|av aG J am J (ht J) (ht J)<|ba J<|al<|ai<|bg 6 J ?_;cases so h;exact bF J J ⟨bq aG J J J,aW J,aP⟩
   ·skip
    refine ap<|aB J<|zo J (pt J)<|aB J<|cd J J (fun hg=>cr J)<|cd J J (fun hg=>dc (bk J hg) hI)<|zo J (ms J J)<|al<|bX h J (fun h=>?_) (fun h=>?_)
    ·refine an<|zo J (bO)<|aL ?_;exact cn (K (201:Int) h) (bh J)
    ·refine bi ?_;exact cn (K r1.2 h) (bh J)

theorem A5(e:cK)(r:(List M)){R:M×Int}(h:sw e r=some R):aN aJ 107 [tD bY e,bK (ac) r] (tT [tD ac R.1,bu R.2]):=by
 refine aN.of Tryz.func107 J J J fun w0 S0=>ap<|zo J (ff J)<|zo J (ff J)<|aV (r:=ac) (x:=eS) aG (fun _=>aZ _) J fun b=>zo J (bO)<|al<|ae<|ap<|zo J (bn jg J J)<|bp h fun r1 q_r1 h=>zo J (ax MD (DI _ q_r1) ⟨(ht J),aP⟩)<|ba J<|al<|ap<|aB J<|zo J (pt J)<|al ?_;refine bX h J (fun h=>?_) (fun h=>?_)
 ·refine ap<|zo J (bM (y:=eS) aG lq aZ (J))<|aB J<|av aG J am J (ht J) (ht J)<|ba J<|al<|ai<|aa<|bg 4 J ?_;cases so h;exact bF J J ⟨bq aG J J J,aW J,aP⟩
 ·refine cF<|ae<|ap<|zo J (bn jg J J)<|bp h fun r2 q_r2 h=>fe KY (Cd _ q_r2) ⟨(ht J),aP⟩ J fun l c=>zo J (fO ed (.head _) (ht J))<|zo J (br hI)<|al<|au<|kc (.head _) fun hN=>bo ?_;refine aI (jk (Z:=fun ls i x=>(r2.drop i=ls)∧qv e r ls x=some R) (Of:=fun _ i x=>[dJ bI 3 l c r2,bx ac 46 b x]) (Gf:=fun _ i x=>[(2,bv bY e),(3,bv cE r),(4,tV (aO b 0)),(17,mp l c r2),(18,fC r2),(19,bu (i:Int))]) (fun i x h=>?_) (fun e1 tl ih i x h=>?_) r2 0 eS ⟨J,h⟩) (bh J)
  ·obtain⟨hx,h⟩:=h
   refine aw<|ap<|zo J (dC J J)<|al<|ae<|bm (ht J) (cx hx)<|be ?_;refine af (af (aE ?_));refine ak<|ap<|bp h fun r3 q_r3 h=>zo J (ax Pe (JH q_r3) trivial)<|aV (r:=rV) (x:= .map none) Gj (fun _=>⟨J,J⟩) J fun b1=>qH (jV (r' :=rT (Ed (fun y:(M→M→Option (M×Int))=>sL aJ lC nK (fun(x:M×M)=>y x.1 x.2)) jE r3)) (x' :=()) (q:=rT (Ed (fun y:(M→M→Option (M×Int))=>sL aJ lC nK (fun(x:M×M)=>y x.1 x.2)) jE r3)) (y:=()) Gj J (sb J) J (ht J) (hTT H7 (show aH _ _ _ (Ed (fun y:(M→M→Option (M×Int))=>sL aJ lC nK (fun(x:M×M)=>y x.1 x.2)) jE r3)from(ht J)))) fun _=>?_;refine(show RG _ _ _ _ (bx (rT (Ed (fun y:(M→M→Option (M×Int))=>sL aJ lC nK (fun(x:M×M)=>y x.1 x.2)) jE r3)) 219 b1 ()::_) _ from ?_);refine aS 9 J<|al<|ap<|zo J (bn jg J J)<|zo J ((show bB _ _ _ _ ((cB aJ H1 nK (fun(x:cu×(List M))=>(rR r r3) x.1 x.2)))from eB (cts:=[bv cE r,bv (rT (Ed (fun y:(M→M→Option (M×Int))=>sL aJ lC nK (fun(x:M×M)=>y x.1 x.2)) jE r3)) ()]) (caps:=[.tmp 3,.tmp 9]) Pc ⟨(ht J),(ht J),aP⟩ (fun x y h=>JF _ _ _ _ h)))<|bp h fun r4 q_r4 h=>zo J (ax Pd (JG _ _ q_r4) ⟨(ht J),(ht J),aP⟩)<|zo J (eT J J)<|zo J (eT J J)<|bz<|av aG J am J (ht J) (ht J)<|ba J<|al<|ai<|bg 4 J<|aY ?_;cases so h;exact bF J J ⟨bq aG J J J,aW J,aP⟩
  ·obtain⟨hx,h⟩:=h
   refine aw<|ap<|zo J (dC J J)<|al<|ae<|bl (ht J) (cw hx)<|cF<|ae<|au<|ap<|zo J (ck ed bP (.head _) (ht J) (ht J) (ci hx))<|zo J (eo (r:=bI) (i:=(i:Int)) (foff:=0) bP J J bG J (.head _) (ci hx) (ht J))<|ba J<|al<|ap<|aB J<|zo J (bn dd J J)<|zo J (eH lG J) ?_;refine zo J (dU (ht J) (ht J))<|aB J<|bp h fun t q_t h=>dv J J (fun hg=>bn dd J J)<|dv J J (fun hg=>cr J) ?_
   obtain⟨e2,h1t,h0t⟩:=og q_t
   have q_e2g:=fun hb=>(h1t hb).1
   refine dv J J (fun hg=>bf lG aG J (bk J hg) (bk J hg) (q_e2g hg))<|dv J J (fun hg=>bj aG J J (bk J hg)) ?_
   obtain⟨r5,h1t⟩:=Ep (fun hb=>(h1t hb).2)
   have q_r5g:=fun hb=>(h1t hb).1
   refine dv J J (fun hg=>ax EU (wY _ (q_r5g hg)) ⟨(bk J hg),aP⟩)<|dv J J (fun hg=>cH (bk J hg))<|zo J (dy (ht J) (fun hb=>(bk J (mU hb))) (fun hb=>(h1t hb).2) h0t)<|al<|bX h J (fun h=>?_) (fun h=>?_)
   ·refine ap<|zo J (bM (y:=eS) aG lq aZ (J))<|bz<|av aG J am J (ht J) (ht J)<|zo J (bO)<|al<|ai ?_;refine aq (aa (aa (aq (aa ?_))));refine bg 4 J<|aY ?_;cases so h;exact bF J J ⟨bq aG J J J,aW J,aP⟩
   ·refine bi<|aj<|ak<|an<|zo rfl (iq (bW hx hN) rfl)<|aB rfl<|aL ?_;exact aT (aI (ih (i+1) x ⟨bV hx,h⟩) (bh J))

theorem JM(a1:M){R:Bool}(h:xk a1=some R):aN aJ 171 [tD ac a1] (er R):=by
 refine aN.of Tryz.func171 J J J fun w0 S0=>ap<|zo J (ff J)<|zo J (ef)<|al<|ae<|bp h fun r q_r h=>?_
 refine bZ (ts:=[_,_,_,_]) mixed J J
  ⟨dp 1 J J J (bn aG J J),
  ⟨Fg J J (ax Hu (AY _ q_r) ⟨hB,aP⟩),
  ⟨cO 3 0 4 1 J J J J (uq DN (ht J) (ht J)),
  ⟨bH 5 2 J J J (pe J),
  aP⟩⟩⟩⟩ ?_
 refine ak<|ai ?_;cases so h;exact ay J J

theorem EM(e:cK)(r:(List M)){R:Bool×Int}(h:qz e r=some R):aN aJ 103 [tD bY e,bK (ac) r] (tT [er R.1,bu R.2]):=by
 refine aN.of Tryz.func103 J J J fun w0 S0=>ap<|zo J (ff J)<|zo J (ef)<|zo J (bO)<|al<|ap<|zo J (bn jg J J)<|aB J<|bp h fun r1 q_r1 h=>zo J (ax HC (A5 _ _ q_r1) ⟨(ht J),(ht J),aP⟩)<|aB J<|zo J (eT J J)<|zo J (eT J J)<|aV (r:=ac) (x:=eS) aG (fun _=>aZ _) J fun b=>av aG J am J (ht J) (ht J)<|aS 6 J<|ba J<|al<|ae ?_;refine an<|zo J (bn aG J J)<|bp h fun r2 q_r2 h=>zo J (ax Pl (JM _ q_r2) ⟨(ht J),aP⟩)<|aB J<|ba J<|ba J<|al<|ai ?_;cases so h;exact ca J J J

theorem Nm(b:Nat)(ix:OI)(r:cU)(n:aC){R:(List (List M))×Int}(h:m5 r n=some R):cy aJ 52 [tV (aO b 0),tD aM n] (fG b r ix) (fun _:OI=>tT [bK (cE) R.1,bu R.2]) (fun _=>(fG b r ix)):=by
 refine FT Tryz.func52 J J J fun w0 S0=>?_;refine(show CG _ _ _ [bx (rH dn [(1,aQ (ix.h 0).1 (ix.h 0).2 r.rows.length),(2,aQ (ix.h 1).1 (ix.h 1).2 r.width.length)]) 96 b r,db da 32 (ix.h 0).1 (ix.h 0).2 r.rows,db bI 3 (ix.h 1).1 (ix.h 1).2 r.width] _ from ?_);refine ap<|zo J (ff J)<|aV (r:=da) (x:=[]) eu (fun _=>⟨none,0,J,ia _,gx _,.inl J⟩) J fun b1=>aV (r:=bI) (x:=(0:Int)) CY (fun _=>J) J fun b2=>al<|ae<|bp h fun e q_e h=>bp h fun e1 q_e1 h=>?_
 refine bZ (ts:=[_,_,_,_,_,_,_,_,_,_,_,_,_,_,_,_,_,_]) mixed J J
  ⟨dp 0 J J J (cr J),
  ⟨bH 16 0 J J J (cQ (ht J)),
  ⟨bH 17 1 J J J (gQ 1 l0 J J J),
  ⟨bH 18 2 J J J (cC oL J (.tail _ (.tail _ (.head _))) (.tail _ (.tail _ (.tail _ (.head _)))) (ht J)),
  ⟨dp 3 J J J (bS gm cW J J),
  ⟨bH 20 4 J J J (bn bP J J),
  ⟨cO 19 3 21 5 J J J J (bf jH eu J (gz (ht J)) (ht J) q_e),
  ⟨bH 22 6 J J J (bn eu J J),
  ⟨dp 0 J J J (cr J),
  ⟨bH 24 8 J J J (cQ (ht J)),
  ⟨bH 25 9 J J J (gQ 1 l0 J J J),
  ⟨bH 26 10 J J J (cC oL J (.tail _ (.tail _ (.head _))) (.tail _ (.tail _ (.tail _ (.head _)))) (ht J)),
  ⟨dp 3 J J J (bS m2 gJ J J),
  ⟨bH 28 12 J J J (bn bP J J),
  ⟨cO 27 11 29 13 J J J J (bf jH eu J (gz (ht J)) (ht J) q_e1),
  ⟨bH 30 14 J J J (bn eu J J),
  ⟨bH 23 7 J J J (pe J),
  ⟨bH 31 15 J J J (pe J),
  aP⟩⟩⟩⟩⟩⟩⟩⟩⟩⟩⟩⟩⟩⟩⟩⟩⟩⟩ ?_
 refine ak<|ae<|ap<|aB rfl<|zo rfl (eH ge rfl)<|aB rfl<|zo rfl (eH ge rfl)<|zo rfl (tv (ht rfl) (ht rfl))<|zo rfl (eb (ht rfl) hI)<|al<|bX h rfl (fun h=>?_) (fun h=>?_)
 ·refine ap<|bz<|av eu J am J (ht J) gr<|bz<|av CY J am J (ht J) hI<|al<|ai<|aa<|bt<|bg 4 J<|bg 5 J<|aK<|aK<|aK<|mR ?_;cases so h;exact df (ts:=[bK (cE) ([]),bu 3]) (rvs:=[.cell 4 32,.cell 5 33]) J J ⟨bq eu J J J,bq CY J J J,aP⟩ kY J J
 ·refine cF<|ap<|aB J<|zo J (eH ge J)<|bp h fun mk q_mk h=>tP (Hh (r:=rB) (x:=false) BC J J J Tryz.underlying143 (fun _=>J) (ht J) (ht J) q_mk) J fun i=>bA false rB 4<|aV (x:=aQ none 0 0) Eb (fun _=>xO) J fun b3=>bz<|Kt<|av Eb J am J (ht J) (GJ (ht J))<|al<|ap<|bA false cE 43<|aV (x:=aQ none 0 0) eu (fun _=>xO) J fun b4=>al<|ae<|ap ?_;refine aB J<|aB J<|bp h fun it q_it h=>zT PN (Hc _ _ q_it) ⟨(ht J),(ht J),aP⟩ J fun v fp=>al<|au<|bp h fun r1 q_r1 h=>MI ?_;refine zX (fun(ix1:Option Nat×Nat×List (List M)×Option Nat×Nat×List Bool×Int×(List (List M)))=>[bx rV 32 b4 (aQ ix1.1 ix1.2.1 ix1.2.2.1.length),dJ cE 43 ix1.1 ix1.2.1 ix1.2.2.1,bx rV 143 b3 (aQ ix1.2.2.2.1 ix1.2.2.2.2.1 ix1.2.2.2.2.2.1.length),dJ rB 4 ix1.2.2.2.1 ix1.2.2.2.2.1 ix1.2.2.2.2.2.1,bx bI 33 b2 ix1.2.2.2.2.2.2.1,bx da 32 b1 ix1.2.2.2.2.2.2.2,bx (rH dn [(1,aQ (ix.h 0).1 (ix.h 0).2 r.rows.length),(2,aQ (ix.h 1).1 (ix.h 1).2 r.width.length)]) 96 b r,db da 32 (ix.h 0).1 (ix.h 0).2 r.rows,db bI 3 (ix.h 1).1 (ix.h 1).2 r.width]) (fun(ix1:Option Nat×Nat×List (List M)×Option Nat×Nat×List Bool×Int×(List (List M)))=>(ix1.2.2.1,ix1.2.2.2.2.2.1,ix1.2.2.2.2.2.2.1,ix1.2.2.2.2.2.2.2)) (fun _=> .ret) J (ht J) (none,0,Ak,(i.h 0).1,(i.h 0).2,mk,(0:Int),[]) J q_r1 (fun _=>J) J (fun ix1 x r2 h lp rec1 _ _ _=>?_) (fun i1 j hi bd=>⟨fun hj=>?_,fun _ hj=>?_⟩)
  ·obtain⟨l,c,xs,l1,c1,xs1,x1,x2⟩:=ix1
   replace h:om n x xs xs1 x1 x2=some r2:=h
   refine(show CG _ _ _ [mI lp rec1 .ready none,bx rV 32 b4 (aQ l c xs.length),dJ cE 43 l c xs,bx rV 143 b3 (aQ l1 c1 xs1.length),dJ rB 4 l1 c1 xs1,bx bI 33 b2 x1,bx da 32 b1 x2,bx (rH dn [(1,aQ (ix.h 0).1 (ix.h 0).2 r.rows.length),(2,aQ (ix.h 1).1 (ix.h 1).2 r.width.length)]) 96 b r,db da 32 (ix.h 0).1 (ix.h 0).2 r.rows,db bI 3 (ix.h 1).1 (ix.h 1).2 r.width] _ from ?_);refine yA (G' :=[(0,tV (aO b 0)),(1,tD aM n),(3,bv aM n),(4,tV (aO b1 0)),(5,tV (aO b2 0)),(6,bK (cE) e),(7,bK (cE) e1),(8,tV (aO b3 0)),(9,tV (aO b4 0)),(16,tV (aO b 0)),(17,tV (aO b 0)),(18,tV (aO b 1)),(19,tO da (ix.h 0).1 (ix.h 0).2 r.rows),(20,bv bI n.A),(21,bu n.A),(22,bv da e),(23,bK (cE) e),(24,tV (aO b 0)),(25,tV (aO b 0)),(26,tV (aO b 1)),(27,tO da (ix.h 0).1 (ix.h 0).2 r.rows),(28,bv bI n.B),(29,bu n.B),(30,bv da e1),(31,bK (cE) e1),(32,bK (cE) e),(33,fC e),(34,bK (cE) e1),(35,fC e1),(36,bu (IntKind.i64.wrap ((e.length:Int)*(e1.length:Int)))),(37,er (decide ((40000:Int)<(IntKind.i64.wrap ((e.length:Int)*(e1.length:Int)))))),(38,bK (cE) e),(39,fC e),(41,bK (cE) e),(42,bK (cE) e1),(44,bu x.1),(45,bK (ac) x.2)]) ?_ ⟨J,J,J,J,J,J,J,J,J,J,J,J,J,J,J,J,J,J,J,J,J,J,J,J,J,J,J,J,J,J,J,J,J,J,J,J,J,aP⟩;refine ap<|ba J<|al<|an<|ba J<|aL<|z8<|au<|ap<|zo J (bS qk kN J J)<|zo J (bn jg J J)<|aB J<|bp h fun r3 q_r3 h=>zo J (ax K8 (EM _ _ q_r3) ⟨(ht J),(ht J),aP⟩)<|aB J<|zo J (eT J J)<|zo J (eT J J)<|ba J<|ba J<|al ?_;refine ae<|ap<|aB J<|zo J (pt J)<|al<|bX h J (fun h=>?_) (fun h=>?_)
   ·refine ap<|aB J<|sB<|av eu J am J (ht J) gr<|sB<|av CY J am J (ht J) (ht J)<|al<|ai ?_;refine aa (aq ?_);refine dB<|dB<|dB<|dT<|dT<|dB<|dB<|dB<|dB<|dB ?_;cases so h;exact u6 0 J (l,c,xs,l1,c1,xs1,r3.2,[]) J J
   ·refine cF<|ap<|aB J<|al<|bX h J (fun h=>?_) (fun h=>?_)
    ·refine ap<|zo J (eN Eb (.tail _ (.tail _ (.tail _ (.head _)))) (ht J))<|aB J<|bp h fun e2 q_e2 h=>zo J (ck Tryz.underlying143 BC (.tail _ (.tail _ (.tail _ (.tail _ (.head _))))) (ht J) (ht J) q_e2)<|sC<|bp h fun st q_st h=>nD BC J am J q_e2 (so q_st) (ht J) hB<|fj (iS (so q_st)) 57 J<|yu (O' :=[dJ rB 4 l1 c1 st,mI lp rec1 .busy none,bx rV 32 b4 (aQ l c xs.length),dJ cE 43 l c xs,bx rV 143 b3 (aQ l1 c1 st.length),bx bI 33 b2 x1,bx da 32 b1 x2,bx (rH dn [(1,aQ (ix.h 0).1 (ix.h 0).2 r.rows.length),(2,aQ (ix.h 1).1 (ix.h 1).2 r.width.length)]) 96 b r,db da 32 (ix.h 0).1 (ix.h 0).2 r.rows,db bI 3 (ix.h 1).1 (ix.h 1).2 r.width]) (by rw [iS (so q_st)])<|al<|an<|zo J (eN eu (.tail _ (.tail _ (.head _))) (ht J))<|aB J<|zo J (aR (r:=cE) (ys:=[x.2]) (xs:=[.tmp 61]) ge dd J J J J J ⟨(ht J),aP⟩)<|mn<|bp h fun l2 q_l2 h=>cg dd J J J J ge J J (ht J) (ht J) q_l2 fun l3 c2=>mn<|av eu J am J (ht J) (GJ (ht J))<|aL<|aj ?_;refine dB<|dB<|dB<|dB<|dB<|F4<|dB<|z6<|z6<|dB ?_;cases so h;exact qJ (l3,c2,l2,l1,c1,st,x1,x2) J J
    ·refine bi<|aj ?_;cases so h;exact qJ (l,c,xs,l1,c1,xs1,x1,x2) J J
  ·skip
   obtain⟨l4,c3,xs2,l5,c4,xs3,x3,x4⟩:=i1
   obtain rfl:xs2=r1.1.2.1:=congrArg (fun q:List (List M)×List Bool×Int×(List (List M))=>q.1) hi
   obtain rfl:xs3=r1.1.2.2.1:=congrArg (fun q:List (List M)×List Bool×Int×(List (List M))=>q.2.1) hi
   obtain rfl:x3=r1.1.2.2.2.1:=congrArg (fun q:List (List M)×List Bool×Int×(List (List M))=>q.2.2.1) hi
   obtain rfl:x4=r1.1.2.2.2.2:=congrArg (fun q:List (List M)×List Bool×Int×(List (List M))=>q.2.2.2) hi
   have h:=ct h (by rw [hj];rfl);refine(show AT _ _ _ [uO bd,bx rV 32 b4 (aQ l4 c3 r1.1.2.1.length),dJ cE 43 l4 c3 r1.1.2.1,bx rV 143 b3 (aQ l5 c4 r1.1.2.2.1.length),dJ rB 4 l5 c4 r1.1.2.2.1,bx bI 33 b2 r1.1.2.2.2.1,bx da 32 b1 r1.1.2.2.2.2,bx (rH dn [(1,aQ (ix.h 0).1 (ix.h 0).2 r.rows.length),(2,aQ (ix.h 1).1 (ix.h 1).2 r.width.length)]) 96 b r,db da 32 (ix.h 0).1 (ix.h 0).2 r.rows,db bI 3 (ix.h 1).1 (ix.h 1).2 r.width] _ from ?_);refine cn (G' :=[(0,tV (aO b 0)),(1,tD aM n),(3,bv aM n),(4,tV (aO b1 0)),(5,tV (aO b2 0)),(6,bK (cE) e),(7,bK (cE) e1),(8,tV (aO b3 0)),(9,tV (aO b4 0)),(16,tV (aO b 0)),(17,tV (aO b 0)),(18,tV (aO b 1)),(19,tO da (ix.h 0).1 (ix.h 0).2 r.rows),(20,bv bI n.A),(21,bu n.A),(22,bv da e),(23,bK (cE) e),(24,tV (aO b 0)),(25,tV (aO b 0)),(26,tV (aO b 1)),(27,tO da (ix.h 0).1 (ix.h 0).2 r.rows),(28,bv bI n.B),(29,bu n.B),(30,bv da e1),(31,bK (cE) e1),(32,bK (cE) e),(33,fC e),(34,bK (cE) e1),(35,fC e1),(36,bu (IntKind.i64.wrap ((e.length:Int)*(e1.length:Int)))),(37,er (decide ((40000:Int)<(IntKind.i64.wrap ((e.length:Int)*(e1.length:Int)))))),(38,bK (cE) e),(39,fC e),(41,bK (cE) e),(42,bK (cE) e1)]) ?_ ⟨J,J,J,J,J,J,J,J,J,J,J,J,J,J,J,J,J,J,J,J,J,J,J,J,J,J,J,J,J,J,J,J,J,J,J,aP⟩;refine aj<|ak<|ae<|ap<|aB rfl<|zo rfl (eH ge rfl)<|zo rfl (br hI)<|al<|au<|aU (k:=64) J fun hN=>bo<|sE<|sE<|sE<|kW<|zU<|zV<|zV<|zU<|FX<|sE ?_;refine aI (gb (Z:=fun ls i2 out l6 c5=>(e.drop i2=ls)∧i9 r n r1 ls i2 out=some R) (Of:=fun _ i2 out l6 c5=>[bx da 32 b1 r1.1.2.2.2.2,bx bI 33 b2 r1.1.2.2.2.1,bx rV 143 b3 (aQ l5 c4 r1.1.2.2.1.length),bx rV 32 b4 (aQ l6 c5 out.length),dJ cE 43 l6 c5 out,dJ rB 4 l5 c4 r1.1.2.2.1,uO bd,bx (rH dn [(1,aQ (ix.h 0).1 (ix.h 0).2 r.rows.length),(2,aQ (ix.h 1).1 (ix.h 1).2 r.width.length)]) 96 b r,db da 32 (ix.h 0).1 (ix.h 0).2 r.rows,db bI 3 (ix.h 1).1 (ix.h 1).2 r.width]) (Gf:=fun _ i2 out l6 c5=>[(0,tV (aO b 0)),(3,bv aM n),(4,tV (aO b1 0)),(5,tV (aO b2 0)),(8,tV (aO b3 0)),(9,tV (aO b4 0)),(64,bK (cE) e),(65,fC e),(66,bu (i2:Int))]) (fun i2 out l6 c5 h=>?_) (fun e3 tl ih i2 out l6 c5 h=>?_) e 0 r1.1.2.1 l4 c3 ⟨J,h⟩) (bh J)
   ·obtain⟨hx,h⟩:=h
    refine aw<|ap<|zo J (dC J J)<|al<|ae<|bm (ht J) (cx hx)<|be ?_;refine af (af (aE ?_));refine ak<|ap<|zo rfl (eN eu (.tail _ (.tail _ (.tail _ (.head _)))) (ht rfl))<|sC<|eP<|dZ 96 rfl<|bz<|av eu rfl am rfl (ht rfl) (gz (ht rfl))<|eO<|av CY rfl am rfl (ht rfl) hI<|al<|ai<|bt<|bg 4 rfl<|bg 5 rfl<|aY<|aY<|aY<|aY<|co<|co<|co ?_;refine co<|u5<|mR ?_;cases so h;exact df (ts:=[bK (cE) out,bu 0]) (rvs:=[.cell 4 32,.cell 5 33]) J J ⟨bq eu J J J,bq CY J J J,aP⟩ kY J J
   ·obtain⟨hx,h⟩:=h
    refine aw<|ap<|zo J (dC J J)<|al<|ae<|bl (ht J) (cw hx)<|cF<|ae<|au<|ap<|aB J<|zo J (gw ge dd J J J (ci hx))<|zo J (bn dd J J)<|ba J<|ba J<|al<|ap<|zo J (bS DE yb J J) ?_;refine zo J (bn BC J J)<|aB J<|bp h fun t q_t h=>cd J J (fun hg=>eN Eb (.tail _ (.tail _ (.head _))) (ht J))<|cd J J (fun hg=>cr J) ?_
    obtain⟨e4,h1t,h0t⟩:=og q_t
    have q_e4g:=fun hb=>(h1t hb).1
    refine cd J J (fun hg=>ck Tryz.underlying143 BC (.tail _ (.tail _ (.tail _ (.tail _ (.tail _ (.head _)))))) (bk J hg) (bk J hg) (q_e4g hg))<|cd J J (fun hg=>eo (r:=rB) (i:=(i2:Int)) (foff:=0) BC J J bG J (.tail _ (.tail _ (.tail _ (.tail _ (.tail _ (.head _)))))) (q_e4g hg) (bk J hg))<|cd J J (fun hg=>cH (bk J hg))<|zo J (cJ (ht J) (fun hb=>(bk J hb)) (fun hb=>(h1t hb).2) h0t)<|al<|bX h J (fun h=>?_) (fun h=>?_)
    ·refine bp h fun e5 q_e5 h=>bp h fun mk1 q_mk1 h=>bp h fun r4 q_r4 h=>?_
     refine kA 14 [tc (mp l6 c5 out),tc (bK (ac) e3),tc (tV (aO b 0)),tc (tV (aO b 0)),tc (tV (aO b 2)),tc (tO bI (ix.h 1).1 (ix.h 1).2 r.width),tc (bv bI n.B),tc (bu n.B),tc (bv bI e5),tc (bu e5),([10],fun s=>tO ac ((s.getD 0 kY).h 0).1 ((s.getD 0 kY).h 0).2 mk1),tc (bK (cE) ([e3,mk1])),tc (bK (ac) r4),tc (bK (cE) ([r4]))] [false,false,false,false,false,false,false,false,false,false,true,false,false,false] [fun _=>[bx da 32 b1 r1.1.2.2.2.2,bx bI 33 b2 r1.1.2.2.2.1,bx rV 143 b3 (aQ l5 c4 r1.1.2.2.1.length),bx rV 32 b4 (aQ l6 c5 out.length),dJ cE 43 l6 c5 out,dJ rB 4 l5 c4 r1.1.2.2.1,uO bd,bx (rH dn [(1,aQ (ix.h 0).1 (ix.h 0).2 r.rows.length),(2,aQ (ix.h 1).1 (ix.h 1).2 r.width.length)]) 96 b r,db da 32 (ix.h 0).1 (ix.h 0).2 r.rows,db bI 3 (ix.h 1).1 (ix.h 1).2 r.width],fun sg=>[db ac 46 ((sg 10).h 0).1 ((sg 10).h 0).2 mk1,bx da 32 b1 r1.1.2.2.2.2,bx bI 33 b2 r1.1.2.2.2.1,bx rV 143 b3 (aQ l5 c4 r1.1.2.2.1.length),bx rV 32 b4 (aQ l6 c5 out.length),dJ cE 43 l6 c5 out,dJ rB 4 l5 c4 r1.1.2.2.1,uO bd,bx (rH dn [(1,aQ (ix.h 0).1 (ix.h 0).2 r.rows.length),(2,aQ (ix.h 1).1 (ix.h 1).2 r.width.length)]) 96 b r,db da 32 (ix.h 0).1 (ix.h 0).2 r.rows,db bI 3 (ix.h 1).1 (ix.h 1).2 r.width]] J mixed J J J J J
      ⟨⟨[⟨9,fun _=>tV (aO b4 0),none⟩],_,0,1,J,⟨(fun _=>J),aP⟩,J,J,J,J,J,yI (fun sg=>aA J (eN eu (.tail _ (.tail _ (.tail _ (.head _)))) (ht J))) (s9 (fun sg=>aA J (eN eu (.tail _ (.tail _ (.tail _ (.tail _ (.head _))))) (ht J))))⟩,
      ⟨⟨[⟨15,fun _=>tD cE e3,none⟩],_,0,1,J,⟨(fun _=>J),aP⟩,J,J,J,J,J,fun _ sg _ _=>aA J (cr J)⟩,
      ⟨⟨[⟨0,fun _=>tV (aO b 0),none⟩],_,0,0,J,⟨(fun _=>J),aP⟩,J,J,J,J,J,fun _ sg _ _=>aA J (cr J)⟩,
      ⟨⟨[⟨82,fun _=>tV (aO b 0),some 2⟩],_,0,0,J,⟨(fun _=>J),aP⟩,J,J,J,J,J,fun _ sg _ _=>aA J (cQ (ht J))⟩,
      ⟨⟨[⟨83,fun _=>tV (aO b 0),some 3⟩],_,0,0,J,⟨(fun _=>J),aP⟩,J,J,J,J,J,fun _ sg _ _=>aA J (gQ 2 DD J J J)⟩,
      ⟨⟨[⟨84,fun _=>tV (aO b 2),some 4⟩],_,0,0,J,⟨(fun _=>J),aP⟩,J,J,J,J,J,s9 (fun sg=>aA J (cC c0 J (.tail _ (.tail _ (.tail _ (.tail _ (.tail _ (.tail _ (.tail _ (.head _)))))))) (.tail _ (.tail _ (.tail _ (.tail _ (.tail _ (.tail _ (.tail _ (.tail _ (.tail _ (.head _)))))))))) (ht J)))⟩,
      ⟨⟨[⟨3,fun _=>bv aM n,none⟩],_,0,0,J,⟨(fun _=>J),aP⟩,J,J,J,J,J,fun _ sg _ _=>aA J (bS m2 gJ J J)⟩,
      ⟨⟨[⟨86,fun _=>bv bI n.B,some 6⟩],_,0,0,J,⟨(fun _=>J),aP⟩,J,J,J,J,J,fun _ sg _ _=>aA J (bn bP J J)⟩,
      ⟨⟨[⟨85,fun _=>tO bI (ix.h 1).1 (ix.h 1).2 r.width,some 5⟩,⟨87,fun _=>tD bI n.B,some 7⟩],_,0,0,J,⟨(fun _=>J),(fun _=>J),aP⟩,J,J,J,J,J,fun _ sg _ _=>aA J (bf ed bP J (gz (ht J)) (ht J) q_e5)⟩,
      ⟨⟨[⟨88,fun _=>bv bI e5,some 8⟩],_,0,0,J,⟨(fun _=>J),aP⟩,J,J,J,J,J,fun _ sg _ _=>aA J (bn bP J J)⟩,
      ⟨⟨[⟨89,fun _=>tD bI e5,some 9⟩],_,J,⟨(fun _=>J),aP⟩,J,J,J,fun sg=>dA J (FK (r:=ac) (x:=eS) aG J J J lG (fun _=>aZ _) (ht J) (ht J) q_mk1)⟩,
      ⟨⟨[⟨81,fun _=>tD cE e3,some 1⟩,⟨90,fun sg=>tO ac ((sg 10).h 0).1 ((sg 10).h 0).2 mk1,some 10⟩],_,1,1,J,⟨(fun _=>J),(fun _=>J),aP⟩,J,J,J,J,J,fun _ sg _ _=>aA J (aR (r:=cE) (ys:=[e3,mk1]) (xs:=[.tmp 81,.tmp 90]) ge dd J J J J J ⟨(ht J),(gz (ht J)),aP⟩)⟩,
      ⟨⟨[⟨91,fun _=>tD da ([e3,mk1]),some 11⟩],_,1,1,J,⟨(fun _=>J),aP⟩,J,J,J,J,J,fun _ sg _ _=>aA J (ax K7 (Kd _ q_r4) ⟨(ht J),aP⟩)⟩,
      ⟨⟨[⟨92,fun _=>tD cE r4,some 12⟩],_,1,1,J,⟨(fun _=>J),aP⟩,J,J,J,J,J,fun _ sg _ _=>aA J (aR (r:=cE) (ys:=[r4]) (xs:=[.tmp 92]) ge dd J J J J J ⟨(ht J),aP⟩)⟩,
      aP⟩⟩⟩⟩⟩⟩⟩⟩⟩⟩⟩⟩⟩⟩ (fun sg=>?_)
     refine(show RG _ _ _ _ [db ac 46 ((sg 10).h 0).1 ((sg 10).h 0).2 mk1,bx da 32 b1 r1.1.2.2.2.2,bx bI 33 b2 r1.1.2.2.2.1,bx rV 143 b3 (aQ l5 c4 r1.1.2.2.1.length),bx rV 32 b4 (aQ l6 c5 out.length),dJ cE 43 l6 c5 out,dJ rB 4 l5 c4 r1.1.2.2.1,uO bd,bx (rH dn [(1,aQ (ix.h 0).1 (ix.h 0).2 r.rows.length),(2,aQ (ix.h 1).1 (ix.h 1).2 r.width.length)]) 96 b r,db da 32 (ix.h 0).1 (ix.h 0).2 r.rows,db bI 3 (ix.h 1).1 (ix.h 1).2 r.width] _ from ?_);refine zR<|bp h fun l7 q_l7 h=>cg dd J J J J ge J J (ht J) (ht J) q_l7 fun l8 c6=>zR<|av eu J am J (ht J) (GJ (ht J))<|aL<|aj<|ak<|an<|zo rfl (iq (bW hx hN) rfl)<|aB rfl<|aL<|aK<|aY<|dB<|dB<|dB<|dB<|dB<|pT<|pT<|dB<|dB<|dB ?_;exact aT (aI (ih (i2+1) l7 l8 c6 ⟨bV hx,h⟩) (bh J))
    ·refine bi<|aj<|ak<|an<|zo rfl (iq (bW hx hN) rfl)<|aB rfl<|aL ?_;exact aT (aI (ih (i2+1) out l6 c5 ⟨bV hx,h⟩) (bh J))
  ·skip
   obtain⟨l9,c7,xs4,l10,c8,xs5,x5,x6⟩:=i1
   obtain rfl:xs4=r1.1.2.1:=congrArg (fun q:List (List M)×List Bool×Int×(List (List M))=>q.1) hi
   obtain rfl:xs5=r1.1.2.2.1:=congrArg (fun q:List (List M)×List Bool×Int×(List (List M))=>q.2.1) hi
   obtain rfl:x5=r1.1.2.2.2.1:=congrArg (fun q:List (List M)×List Bool×Int×(List (List M))=>q.2.2.1) hi
   obtain rfl:x6=r1.1.2.2.2.2:=congrArg (fun q:List (List M)×List Bool×Int×(List (List M))=>q.2.2.2) hi
   have h:=cf h (by rw [hj];rfl);refine(show CG _ _ _ [uO bd,bx rV 32 b4 (aQ l9 c7 r1.1.2.1.length),dJ cE 43 l9 c7 r1.1.2.1,bx rV 143 b3 (aQ l10 c8 r1.1.2.2.1.length),dJ rB 4 l10 c8 r1.1.2.2.1,bx bI 33 b2 r1.1.2.2.2.1,bx da 32 b1 r1.1.2.2.2.2,bx (rH dn [(1,aQ (ix.h 0).1 (ix.h 0).2 r.rows.length),(2,aQ (ix.h 1).1 (ix.h 1).2 r.width.length)]) 96 b r,db da 32 (ix.h 0).1 (ix.h 0).2 r.rows,db bI 3 (ix.h 1).1 (ix.h 1).2 r.width] _ from ?_);refine yA (G' :=[(0,tV (aO b 0)),(1,tD aM n),(3,bv aM n),(4,tV (aO b1 0)),(5,tV (aO b2 0)),(6,bK (cE) e),(7,bK (cE) e1),(8,tV (aO b3 0)),(9,tV (aO b4 0)),(16,tV (aO b 0)),(17,tV (aO b 0)),(18,tV (aO b 1)),(19,tO da (ix.h 0).1 (ix.h 0).2 r.rows),(20,bv bI n.A),(21,bu n.A),(22,bv da e),(23,bK (cE) e),(24,tV (aO b 0)),(25,tV (aO b 0)),(26,tV (aO b 1)),(27,tO da (ix.h 0).1 (ix.h 0).2 r.rows),(28,bv bI n.B),(29,bu n.B),(30,bv da e1),(31,bK (cE) e1),(32,bK (cE) e),(33,fC e),(34,bK (cE) e1),(35,fC e1),(36,bu (IntKind.i64.wrap ((e.length:Int)*(e1.length:Int)))),(37,er (decide ((40000:Int)<(IntKind.i64.wrap ((e.length:Int)*(e1.length:Int)))))),(38,bK (cE) e),(39,fC e),(41,bK (cE) e),(42,bK (cE) e1)]) ?_ ⟨J,J,J,J,J,J,J,J,J,J,J,J,J,J,J,J,J,J,J,J,J,J,J,J,J,J,J,J,J,J,J,J,J,J,J,aP⟩;refine ai ?_;refine aq (aa ?_);refine pT<|bg 4 J<|z7<|bg 5 J<|bt<|aY<|bt<|aY<|bt<|aY<|bt<|aY<|co<|co<|co<|co<|u5<|mR ?_;cases so h;exact df (ts:=[bK (cE) r1.1.2.2.2.2,bu r1.1.2.2.2.1]) (rvs:=[.cell 4 32,.cell 5 33]) J J ⟨bq eu J J J,bq CY J J J,aP⟩ kY J J

end Go.Proofs.YtfhhakidodmdfaaGreatDoor

