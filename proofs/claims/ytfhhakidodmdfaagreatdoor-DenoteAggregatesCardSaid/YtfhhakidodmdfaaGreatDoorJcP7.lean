/- di of this claim: P7. -/
import Derived.Test.YtfhhakidodmdfaaGreatDoorJcT
import Derived.Test.YtfhhakidodmdfaaGreatDoorJcP6
set_option linter.all false
namespace Go.Proofs.YtfhhakidodmdfaaGreatDoor
open Go
set_option maxRecDepth 100000

theorem VF(e:bS)(do1:(bC→(List ac)→Option (ac×Int))){R:ac×Int}(h:iU e do1=some R):aR aU 184 [tD ck e,(ei aU TP tA (fun(x:bC×(List ac))=>do1 x.1 x.2))] (tT [tD af R.1,bM R.2]):=by
 refine aR.of Tryz.func184 J J J fun w0 S0=>av<|zo J (gi J)<|aP (r:=af) (x:=d3) au (fun _=>aJ _) J fun b=>zo J (bW)<|aq<|LR<|av<|ca false af 46<|aP (x:=bc none 0 0) HX (fun _=>EN) J fun b1=>aq<|av<|aP (r:=af) (x:=d3) au (fun _=>aJ _) J fun b2=>aY 7 J<|aq<|av<|zo J (Kw (cts:=[tV (aS b1 0)]) (caps:=[.tmp 6]) ⟨(ht J),aL⟩) ?_;refine bg J<|aq<|av<|zo J (bW)<|aq<|ah<|LS<|ax<|ah<|av<|zo rfl (bX ku fQ rfl rfl)<|zo rfl (bh sQ rfl rfl)<|zo rfl (jw p6 rfl)<|zo rfl (bJ hI)<|aq ?_;refine HG (Z:=fun bad stack l c=>gJ bad stack=some R) (Of:=fun bad stack l c=>[bx af 46 b d3,bx rV 42 b1 (bc l c stack.length),fL af 46 l c stack]) (Gf:=fun bad stack l c=>[(4,tV (aS b 0)),(6,tV (aS b1 0)),(7,bN af d3),(9,bM bad)]) (fun bad stack l c h=>?_) (fun K=>?_)
 ·skip
  refine ax<|ah<|av<|aE rfl<|zo rfl (sx rfl)<|aq<|ce h rfl (fun h=>?_) (fun h=>?_)
  ·refine av<|zo J (bh au J J)<|aE J<|am au J ai J (ht J) (ht J)<|bg J<|aq<|aj ?_;refine ae (y8 ?_);refine aF 4 J<|aZ<|aZ ?_;cases so h;exact be J J ⟨aN au J J J,aK J,aL⟩
  ·refine df<|av<|zo J (im HX (.tail _ (.head _)) (ht J))<|bo h fun e1 q_e1 h=>zo J (cB i7 au (.tail _ (.tail _ (.head _))) (ht J) hI q_e1)<|zo J (fJ (r:=af) (i:=(0:Int)) (foff:=0) au J J bw J (.tail _ (.tail _ (.head _))) q_e1 (ht J))<|am au J ai J (ht J) (ht J)<|zo J (bW)<|aq<|aj<|y8<|aF 4 J<|aZ<|aZ ?_;cases so h;exact be J J ⟨aN au J J J,aK J,aL⟩
 ·skip
  refine bp (k:=16) J fun hN=>bQ<|iq<|iq<|pX ?_;refine ba (su (Z:=fun ls i bad1 stack1 l1 c1=>(e.Nodes.drop i=ls)∧dT do1 ls bad1 stack1=some R) (Of:=fun _ i bad1 stack1 l1 c1=>[bx af 46 b d3,bx rV 42 b1 (bc l1 c1 stack1.length),fL af 46 l1 c1 stack1]) (Gf:=fun _ i bad1 stack1 l1 c1=>[(1,(ei aU TP tA (fun(x:bC×(List ac))=>do1 x.1 x.2))),(4,tV (aS b 0)),(6,tV (aS b1 0)),(7,bN af d3),(8,tC 275 [tV (aS b1 0)]),(9,bM bad1),(16,cq (bO) e.Nodes),(17,ky e.Nodes),(18,bM (i:Int))]) (fun i bad1 stack1 l1 c1 h=>?_) (fun e2 tl ih i bad1 stack1 l1 c1 h=>?_) e.Nodes 0 (0:Int) F2 none 0 ⟨J,h⟩) (bD J)
  ·obtain⟨hx,h⟩:=h
   refine aG<|av<|zo J (fY J J)<|aq<|ah<|bL (ht J) (dO hx)<|bG ?_;refine ak (ak (aV ?_));exact ci (K bad1 stack1 l1 c1 h) (bD J)
  ·obtain⟨hx,h⟩:=h
   refine aG<|av<|zo J (fY J J)<|aq<|ah<|bK (ht J) (dL hx)<|df<|ah<|aC<|av<|zo J (ne p6 lI J J J (dA hx))<|zo J (bh lI J J)<|aP (r:=bO) (x:=JC) lI (fun _=>qa _) J fun b3=>am lI J ai J (ht J) (ht J)<|aY 11 J<|aq<|ah<|bo h fun r q_r h=>bo h fun r1 q_r1 h=>?_
   obtain⟨r2,q_r2,h⟩:=bs h
   refine Tz 13 [tc ((ei aU TP tA (fun(x:bC×(List ac))=>do1 x.1 x.2))),tc (tD bO e2),tc (tC 275 [tV (aS b1 0)]),tc (bN cj e2.Tag),tc (bM e2.Tag),tc (bM r),tc (cq (af) r1.1),tc (tT [tD af r2.1,bM r2.2]),tc (tT [tD af r2.1,bM r2.2]),tc (tD af r2.1),tc (bM r2.2),([11],fun s=>tV (aS ((s.getD 0 pj).h 0).2 0)),tc (AX)] [false,false,false,false,false,false,true,false,false,false,false,true,true] [([],fun _=>[bx af 46 b d3,bx rV 42 b1 (bc l1 c1 stack1.length),fL af 46 l1 c1 stack1]),([6],fun sg=>[bx rV 42 b1 (bc ((sg 6).h 0).1 ((sg 6).h 0).2 r1.2.length),fL af 46 ((sg 6).h 0).1 ((sg 6).h 0).2 r1.2,bx af 46 b d3]),([11],fun sg=>[bx af 46 ((sg 11).h 0).2 d3,bx af 46 b d3,bx rV 42 b1 (bc l1 c1 stack1.length),fL af 46 l1 c1 stack1]),([6,11],fun sg=>[bx af 46 ((sg 11).h 0).2 d3,bx rV 42 b1 (bc ((sg 6).h 0).1 ((sg 6).h 0).2 r1.2.length),fL af 46 ((sg 6).h 0).1 ((sg 6).h 0).2 r1.2,bx af 46 b d3]),([6,11,12],fun sg=>[bx af 46 ((sg 11).h 0).2 r2.1,bx rV 42 b1 (bc ((sg 6).h 0).1 ((sg 6).h 0).2 r1.2.length),fL af 46 ((sg 6).h 0).1 ((sg 6).h 0).2 r1.2,bx af 46 b d3])] (fun _=>J) mixed J J J J
    ⟨⟨[⟨1,fun _=>(ei aU TO Dr (fun(x:bC×(List ac))=>do1 x.1 x.2)),none⟩],_,[[],[6],[11],[6,11]],J,⟨(fun _=>J),aL⟩,J,J,J,J,J,⟨fun sg=>aD J (cX J),fun sg=>aD J (cX J),fun sg=>aD J (cX J),fun sg=>aD J (cX J),aL⟩⟩,
    ⟨⟨[⟨11,fun _=>bN bO e2,none⟩],_,[[],[6],[11],[6,11]],J,⟨(fun _=>J),aL⟩,J,J,J,J,J,⟨fun sg=>aD J (bh lI J J),fun sg=>aD J (bh lI J J),fun sg=>aD J (bh lI J J),fun sg=>aD J (bh lI J J),aL⟩⟩,
    ⟨⟨[⟨8,fun _=>tC 275 [tV (aS b1 0)],none⟩],_,[[],[11]],J,⟨(fun _=>J),aL⟩,J,J,J,J,J,⟨fun sg=>aD J (cX J),fun sg=>aD J (cX J),aL⟩⟩,
    ⟨⟨[⟨11,fun _=>bN bO e2,none⟩],_,[[],[11]],J,⟨(fun _=>J),aL⟩,J,J,J,J,J,⟨fun sg=>aD J (bX mS fz J J),fun sg=>aD J (bX mS fz J J),aL⟩⟩,
    ⟨⟨[⟨26,fun _=>bN cj e2.Tag,some 3⟩],_,[[],[11]],J,⟨(fun _=>J),aL⟩,J,J,J,J,J,⟨fun sg=>aD J (bh cg J J),fun sg=>aD J (bh cg J J),aL⟩⟩,
    ⟨⟨[⟨27,fun _=>tD cj e2.Tag,some 4⟩],_,[[],[11]],J,⟨(fun _=>J),aL⟩,J,J,J,J,J,⟨fun sg=>aD J (ap Pn (DX _ q_r) ⟨(ht J),aL⟩),fun sg=>aD J (ap Pn (DX _ q_r) ⟨(ht J),aL⟩),aL⟩⟩,
    ⟨⟨[⟨25,fun _=>tC 275 [tV (aS b1 0)],some 2⟩,⟨28,fun _=>tD cj r,some 5⟩],_,[([],[6]),([11],[6,11])],J,⟨(fun _=>J),(fun _=>J),aL⟩,J,J,J,J,J,⟨fun sg=>eF J (EffOK.fr2 (EffOK.fr2 (Ct (xs:=[.tmp 28]) (ts:=[tD cj r]) (cts:=[tV (aS b1 0)]) [bx rV 42 b1 (bc l1 c1 stack1.length),fL af 46 l1 c1 stack1] _ J Xq (Su b1 l1 c1 _ _ q_r1) (ht J) ⟨(ht J),aL⟩ (fun _=>J)))),fun sg=>eF J (EffOK.post_imp (post:=fun x__=>(fun(sg:Nat→OI)=>[bx rV 42 b1 (bc ((sg 6).h 0).1 ((sg 6).h 0).2 r1.2.length),fL af 46 ((sg 6).h 0).1 ((sg 6).h 0).2 r1.2,bx af 46 ((sg 11).h 0).2 d3,bx af 46 b d3]) (Mg sg 6 x__)) (EffOK.fr3 (EffOK.fr3 (Ct (xs:=[.tmp 28]) (ts:=[tD cj r]) (cts:=[tV (aS b1 0)]) [bx rV 42 b1 (bc l1 c1 stack1.length),fL af 46 l1 c1 stack1] _ J Xq (Su b1 l1 c1 _ _ q_r1) (ht J) ⟨(ht J),aL⟩ (fun _=>J)))) (fun h=>cZ.pick [2,0,1,3] J h)),aL⟩⟩,
    ⟨⟨[⟨23,fun _=>(ei aU TO Dr (fun(x:bC×(List ac))=>do1 x.1 x.2)),some 0⟩,⟨24,fun _=>tD bO e2,some 1⟩,⟨29,fun _=>tD dg r1.1,some 6⟩],_,[[6],[6,11]],J,⟨(fun _=>J),(fun _=>J),(fun _=>J),aL⟩,J,J,J,J,J,⟨fun sg=>aD J (io (args:=TO) (res:=Dr) (f:=(fun(x:bC×(List ac))=>do1 x.1 x.2)) (x:=((e2,r1.1):bC×(List ac))) (ht J) q_r2 ⟨(ht J),(ht J),aL⟩),fun sg=>aD J (io (args:=TO) (res:=Dr) (f:=(fun(x:bC×(List ac))=>do1 x.1 x.2)) (x:=((e2,r1.1):bC×(List ac))) (ht J) q_r2 ⟨(ht J),(ht J),aL⟩),aL⟩⟩,
    ⟨⟨[⟨30,fun _=>tT [tD af r2.1,tD cj r2.2],some 7⟩],_,[[6],[6,11]],J,⟨(fun _=>J),aL⟩,J,J,J,J,J,⟨fun sg=>aD J (cX J),fun sg=>aD J (cX J),aL⟩⟩,
    ⟨⟨[⟨22,fun _=>tT [tD af r2.1,tD cj r2.2],some 8⟩],_,[[6],[6,11]],J,⟨(fun _=>J),aL⟩,J,J,J,J,J,⟨fun sg=>aD J (dX J J),fun sg=>aD J (dX J J),aL⟩⟩,
    ⟨⟨[⟨22,fun _=>tT [tD af r2.1,tD cj r2.2],some 8⟩],_,[[6],[6,11],[6,11,12]],J,⟨(fun _=>J),aL⟩,J,J,J,J,J,⟨fun sg=>aD J (dX J J),fun sg=>aD J (dX J J),fun sg=>aD J (dX J J),aL⟩⟩,
    ⟨⟨[],_,[([],[11]),([6],[6,11])],J,aL,J,J,J,J,J,⟨fun sg=>eF J (vL (r:=af) (x:=d3) au (fun _=>aJ _)),fun sg=>eF J (vL (r:=af) (x:=d3) au (fun _=>aJ _)),aL⟩⟩,
    ⟨⟨[⟨12,fun sg=>tV (aS ((sg 11).h 0).2 0),some 11⟩,⟨31,fun _=>tD af r2.1,some 9⟩],_,[([6,11],[6,11,12])],J,⟨(fun _=>J),(fun _=>J),aL⟩,J,J,J,J,J,⟨fun sg=>eF J (mZ au J (oS ai) J (ht J) (ht J)),aL⟩⟩,
    aL⟩⟩⟩⟩⟩⟩⟩⟩⟩⟩⟩⟩⟩ (fun sg=>?_)
   refine(show RG _ _ _ _ [bx af 46 ((sg 11).h 0).2 r2.1,bx rV 42 b1 (bc ((sg 6).h 0).1 ((sg 6).h 0).2 r1.2.length),fL af 46 ((sg 6).h 0).1 ((sg 6).h 0).2 r1.2,bx af 46 b d3] _ from ?_);refine aY 12 J<|bg J<|aq<|ah<|av<|aE J<|zo J (sx J)<|aq<|ce h J (fun h=>?_) (fun h=>?_)
   ·refine av<|aE J<|bg J<|aq<|bG ?_;refine ak (cE J (ak (ak (aV ?_))));refine bI<|bI<|aM ?_;exact ci (K r2.2 r1.2 ((sg 6).h 0).1 ((sg 6).h 0).2 h) (bD J)
   ·refine df<|aA<|zo J (im HX (.head _) (ht J))<|zo J (bh au J J)<|zo J (bf (r:=af) (ys:=[r2.1]) (xs:=[.tmp 37]) i7 au J J J J J ⟨(ht J),aL⟩)<|bq<|bo h fun l2 q_l2 h=>cV au J J J J i7 J J (ht J) (ht J) q_l2 fun l3 c2=>bq<|am HX J ai J (ht J) (R1 (ht J))<|aQ<|aw<|ax<|aA<|zo rfl (nf (dd hx hN) rfl)<|aE rfl<|aQ<|bI<|bI<|aM ?_;exact bn (ba (ih (i+1) bad1 l2 l3 c2 ⟨dc hx,h⟩) (bD J))

theorem VE(r:(List ac))(do1:(List (Int×(ac→ac→Option (ac×Int)))))(n:bC)(l:(List ac)){R:ac×Int}(h:i9 r do1 n l=some R):aR aU 185 [tD bO n,cq (af) l,bN dg r,bN (rT (N3 (fun y:(ac→ac→Option (ac×Int))=>zg aU qH tA (fun(x:ac×ac)=>y x.1 x.2)) nO do1)) ()] (tT [tD af R.1,bM R.2]):=by
 refine aR.of Tryz.func185 J J J fun w0 S0=>av<|zo J (gi J)<|aP (r:=af) (x:=d3) au (fun _=>aJ _) J fun b=>zo J (bW)<|aq<|ah<|av<|zo J (bX mS fz J J)<|zo J (bh cg J J)<|aq<|aC<|av<|zo J (hM J)<|bg J<|aq<|ce h J (fun h=>?_) (fun h=>?_)
 ·refine av<|zo J (bX vb lP J J)<|zo J (bh au J J)<|am au J ai J (ht J) (ht J)<|zo J (bW)<|aq<|aj ?_;refine aB (ae ?_);refine aF 6 J ?_;cases so h;exact be J J ⟨aN au J J J,aK J,aL⟩
 ·refine av<|zo J (hM J)<|bg J<|aq<|ce h J (fun h=>?_) (fun h=>?_)
  ·refine av<|zo J (bh eg J J)<|zo J (bX qw iO J J)<|zo J (bh cg J J)<|bo h fun e q_e h=>zo J (ne iw au J J J q_e)<|zo J (bh au J J)<|am au J ai J (ht J) (ht J)<|zo J (bW)<|aq<|aj ?_;refine aB (ae ?_);refine aF 6 J ?_;cases so h;exact be J J ⟨aN au J J J,aK J,aL⟩
  ·refine bA<|aw<|ax<|ah<|bo h fun e1 q_e1 h=>bo h fun e2 q_e2 h=>bo h fun r1 q_r1 h=>?_
   refine oy 19 [tc (N3 (fun y:(ac→ac→Option (ac×Int))=>zg aU qH tA (fun(x:ac×ac)=>y x.1 x.2)) nO do1),tc (bN cj n.Tag),tc (bM n.Tag),tc (zg aU qH tA (fun(x:ac×ac)=>((pw do1 n.Tag).getD (fun _ _=>none)) x.1 x.2)),tc (cq (af) l),tc (bN af e1),tc (tD af e1),tc (cq (af) l),tc (cq (af) l),tc (ky l),tc (bM (IntKind.i64.wrap ((l.length:Int)-(1:Int)))),tc (bN af e2),tc (tD af e2),tc (tT [tD af r1.1,bM r1.2]),tc (tT [tD af r1.1,bM r1.2]),tc (tD af r1.1),tc (bM r1.2),([17],fun s=>tV (aS ((s.getD 0 pj).h 0).2 0)),tc (AX)] [false,false,false,false,false,false,false,false,false,false,false,false,false,false,false,false,false,true,true] [fun _=>[bx af 46 b d3],fun sg=>[bx af 46 ((sg 17).h 0).2 d3,bx af 46 b d3],fun sg=>[bx af 46 ((sg 17).h 0).2 r1.1,bx af 46 b d3]] J mixed J J J J J
    ⟨⟨[⟨3,fun _=>bN (rT (N3 (fun y:(ac→ac→Option (ac×Int))=>zg aU qH Dr (fun(x:ac×ac)=>y x.1 x.2)) nO do1)) (),none⟩],_,0,1,J,⟨(fun _=>J),aL⟩,J,J,J,J,J,fun _ sg _ _=>aD J (vD Rd (ht J))⟩,
    ⟨⟨[⟨4,fun _=>bN bO n,none⟩],_,0,1,J,⟨(fun _=>J),aL⟩,J,J,J,J,J,fun _ sg _ _=>aD J (bX mS fz J J)⟩,
    ⟨⟨[⟨25,fun _=>bN cj n.Tag,some 1⟩],_,0,1,J,⟨(fun _=>J),aL⟩,J,J,J,J,J,fun _ sg _ _=>aD J (bh cg J J)⟩,
    ⟨⟨[⟨24,fun _=>N3 (fun y:(ac→ac→Option (ac×Int))=>zg aU qH Dr (fun(x:ac×ac)=>y x.1 x.2)) nO do1,some 0⟩,⟨26,fun _=>tD cj n.Tag,some 2⟩],_,0,1,J,⟨(fun _=>J),(fun _=>J),aL⟩,J,J,J,J,J,fun _ sg _ _=>aD J (Ky (γ:=(fun y:(ac→ac→Option (ac×Int))=>zg aU qH Dr (fun(x:ac×ac)=>y x.1 x.2))) (z:=(fun _ _=>none)) xp (eK lj) ZC (fun _=>TV) (ht J) (oc (ht J)))⟩,
    ⟨⟨[⟨1,fun _=>tD dg l,none⟩],_,0,1,J,⟨(fun _=>J),aL⟩,J,J,J,J,J,fun _ sg _ _=>aD J (cX J)⟩,
    ⟨⟨[⟨28,fun _=>tD dg l,some 4⟩],_,0,1,J,⟨(fun _=>J),aL⟩,J,J,J,J,J,fun _ sg _ _=>aD J (bF i7 au J (ht J) hI q_e1)⟩,
    ⟨⟨[⟨29,fun _=>bN af e1,some 5⟩],_,0,1,J,⟨(fun _=>J),aL⟩,J,J,J,J,J,fun _ sg _ _=>aD J (bh au J J)⟩,
    ⟨⟨[⟨1,fun _=>tD dg l,none⟩],_,0,1,J,⟨(fun _=>J),aL⟩,J,J,J,J,J,fun _ sg _ _=>aD J (cX J)⟩,
    ⟨⟨[⟨1,fun _=>tD dg l,none⟩],_,0,1,J,⟨(fun _=>J),aL⟩,J,J,J,J,J,fun _ sg _ _=>aD J (cX J)⟩,
    ⟨⟨[⟨32,fun _=>tD dg l,some 8⟩],_,0,1,J,⟨(fun _=>J),aL⟩,J,J,J,J,J,fun _ sg _ _=>aD J (jw i7 J)⟩,
    ⟨⟨[⟨33,fun _=>tD cj (l.length:Int),some 9⟩],_,0,1,J,⟨(fun _=>J),aL⟩,J,J,J,J,J,fun _ sg _ _=>aD J (ft (ht J) hI)⟩,
    ⟨⟨[⟨31,fun _=>tD dg l,some 7⟩,⟨34,fun _=>tD cj (IntKind.i64.wrap ((l.length:Int)-(1:Int))),some 10⟩],_,0,1,J,⟨(fun _=>J),(fun _=>J),aL⟩,J,J,J,J,J,fun _ sg _ _=>aD J (ne i7 au J J J q_e2)⟩,
    ⟨⟨[⟨35,fun _=>bN af e2,some 11⟩],_,0,1,J,⟨(fun _=>J),aL⟩,J,J,J,J,J,fun _ sg _ _=>aD J (bh au J J)⟩,
    ⟨⟨[⟨27,fun _=>zg aU qH Dr (fun(x:ac×ac)=>((pw do1 n.Tag).getD (fun _ _=>none)) x.1 x.2),some 3⟩,⟨30,fun _=>tD af e1,some 6⟩,⟨36,fun _=>tD af e2,some 12⟩],_,0,1,J,⟨(fun _=>J),(fun _=>J),(fun _=>J),aL⟩,J,J,J,J,J,fun _ sg _ _=>aD J (Qc (args:=qH) (res:=Dr) (f:=(fun(x:ac×ac)=>((pw do1 n.Tag).getD (fun _ _=>none)) x.1 x.2)) (x:=((e1,e2):ac×ac)) (ht J) q_r1 ⟨(ht J),(ht J),aL⟩)⟩,
    ⟨⟨[⟨37,fun _=>tT [tD af r1.1,tD cj r1.2],some 13⟩],_,0,1,J,⟨(fun _=>J),aL⟩,J,J,J,J,J,fun _ sg _ _=>aD J (cX J)⟩,
    ⟨⟨[⟨23,fun _=>tT [tD af r1.1,tD cj r1.2],some 14⟩],_,0,1,J,⟨(fun _=>J),aL⟩,J,J,J,J,J,fun _ sg _ _=>aD J (dX J J)⟩,
    ⟨⟨[⟨23,fun _=>tT [tD af r1.1,tD cj r1.2],some 14⟩],_,0,2,J,⟨(fun _=>J),aL⟩,J,J,J,J,J,fun _ sg _ _=>aD J (dX J J)⟩,
    ⟨⟨[],_,J,aL,J,J,J,fun sg=>eF J (vL (r:=af) (x:=d3) au (fun _=>aJ _))⟩,
    ⟨⟨[⟨8,fun sg=>tV (aS ((sg 17).h 0).2 0),some 17⟩,⟨38,fun _=>tD af r1.1,some 15⟩],_,J,⟨(fun _=>J),(fun _=>J),aL⟩,J,J,J,fun sg=>eF J (mZ au J (oS ai) J (ht J) (ht J))⟩,
    aL⟩⟩⟩⟩⟩⟩⟩⟩⟩⟩⟩⟩⟩⟩⟩⟩⟩⟩⟩ (fun sg=>?_)
   refine(show RG _ _ _ _ [bx af 46 ((sg 17).h 0).2 r1.1,bx af 46 b d3] _ from ?_);refine aY 8 J<|bg J<|aq ?_;refine i6 (Z:=fun no=>qy r1 no=some R) (Of:=fun no=>[bx af 46 b d3]) (Gf:=fun no=>[(6,tV (aS b 0)),(8,bN af r1.1),(9,bM no)]) (fun no h=>?_) (fun K=>?_)
   ·skip
    refine av<|zo J (bh au J J)<|aE J<|am au J ai J (ht J) (ht J)<|bg J<|aq<|aj<|aF 6 J ?_;cases so h;exact be J J ⟨aN au J J J,aK J,aL⟩
   ·skip
    refine av<|aE J<|zo J (sx J)<|aE J<|co J J (fun hg=>cX J)<|co J J (fun hg=>c9 (bm J hg) hI)<|zo J (pH J J)<|aq<|ce h J (fun h=>?_) (fun h=>?_)
    ·refine aA<|zo J (bW)<|aQ ?_;exact ci (K (201:Int) h) (bD J)
    ·refine bA ?_;exact ci (K r1.2 h) (bD J)

theorem I6(e:bS)(r:(List ac)){R:ac×Int}(h:tk e r=some R):aR aU 107 [tD ck e,cq (af) r] (tT [tD af R.1,bM R.2]):=by
 refine aR.of Tryz.func107 J J J fun w0 S0=>av<|zo J (gi J)<|zo J (gi J)<|aP (r:=af) (x:=d3) au (fun _=>aJ _) J fun b=>zo J (bW)<|aq<|ah<|av<|zo J (bh k5 J J)<|bo h fun r1 q_r1 h=>zo J (ap Wm (IR _ q_r1) ⟨(ht J),aL⟩)<|bg J<|aq<|av<|aE J<|zo J (sx J)<|aq ?_;refine ce h J (fun h=>?_) (fun h=>?_)
 ·refine av<|zo J (bB (y:=d3) au gW aJ (J))<|aE J<|am au J ai J (ht J) (ht J)<|bg J<|aq<|aj<|ae<|aF 4 J ?_;cases so h;exact be J J ⟨aN au J J J,aK J,aL⟩
 ·refine df<|ah<|av<|zo J (bh k5 J J)<|bo h fun r2 q_r2 h=>jh Xz (Le _ q_r2) ⟨(ht J),aL⟩ J fun l c=>zo J (jB iv (.head _) (ht J))<|zo J (bJ hI)<|aq<|aC<|oN (.head _) fun hN=>bQ ?_;refine ba (ox (Z:=fun ls i x=>(r2.drop i=ls)∧oG e r ls x=some R) (Of:=fun _ i x=>[fL cj 3 l c r2,bx af 46 b x]) (Gf:=fun _ i x=>[(2,bN ck e),(3,bN dg r),(4,tV (aS b 0)),(17,sw l c r2),(18,ky r2),(19,bM (i:Int))]) (fun i x h=>?_) (fun e1 tl ih i x h=>?_) r2 0 d3 ⟨J,h⟩) (bD J)
  ·obtain⟨hx,h⟩:=h
   refine aG<|av<|zo J (fY J J)<|aq<|ah<|bL (ht J) (dO hx)<|bG ?_;refine ak (ak (aV ?_));refine ax<|av<|bo h fun r3 q_r3 h=>zo J (ap abZ (VG q_r3) trivial)<|aP (r:=rV) (x:= .map none) Rd (fun _=>⟨J,J⟩) J fun b1=>nd (mZ (r' :=rT (N3 (fun y:(ac→ac→Option (ac×Int))=>zg aU qH tA (fun(x:ac×ac)=>y x.1 x.2)) nO r3)) (x' :=()) (q:=rT (N3 (fun y:(ac→ac→Option (ac×Int))=>zg aU qH tA (fun(x:ac×ac)=>y x.1 x.2)) nO r3)) (y:=()) Rd J (yC J) J (ht J) (hTT Ud (show aO _ _ _ (N3 (fun y:(ac→ac→Option (ac×Int))=>zg aU qH tA (fun(x:ac×ac)=>y x.1 x.2)) nO r3)from(ht J)))) fun _=>?_;refine(show RG _ _ _ _ (bx (rT (N3 (fun y:(ac→ac→Option (ac×Int))=>zg aU qH tA (fun(x:ac×ac)=>y x.1 x.2)) nO r3)) 219 b1 ()::_) _ from ?_);refine aY 9 J<|aq<|av<|zo J (bh k5 J J)<|zo J ((show bZ _ _ _ _ ((ei aU TP tA (fun(x:bC×(List ac))=>(i9 r r3) x.1 x.2)))from i8 (cts:=[bN dg r,bN (rT (N3 (fun y:(ac→ac→Option (ac×Int))=>zg aU qH tA (fun(x:ac×ac)=>y x.1 x.2)) nO r3)) ()]) (caps:=[.tmp 3,.tmp 9]) abX ⟨(ht J),(ht J),aL⟩ (fun x y h=>VE _ _ _ _ h)))<|bo h fun r4 q_r4 h=>zo J (ap abY (VF _ _ q_r4) ⟨(ht J),(ht J),aL⟩)<|zo J (dX J J)<|zo J (dX J J)<|bq<|am au J ai J (ht J) (ht J)<|bg J<|aq<|aj<|aF 4 J<|aZ ?_;cases so h;exact be J J ⟨aN au J J J,aK J,aL⟩
  ·obtain⟨hx,h⟩:=h
   refine aG<|av<|zo J (fY J J)<|aq<|ah<|bK (ht J) (dL hx)<|df<|ah<|aC<|av<|zo J (cB iv cg (.head _) (ht J) (ht J) (dA hx))<|zo J (fJ (r:=cj) (i:=(i:Int)) (foff:=0) cg J J bw J (.head _) (dA hx) (ht J))<|bg J<|aq<|av<|aE J<|zo J (bh eg J J)<|zo J (jw iw J) ?_;refine zo J (gh (ht J) (ht J))<|aE J<|bo h fun t q_t h=>dD J J (fun hg=>bh eg J J)<|dD J J (fun hg=>cX J) ?_
   obtain⟨e2,h1t,h0t⟩:=og q_t
   have q_e2g:=fun hb=>(h1t hb).1
   refine dD J J (fun hg=>bF iw au J (bm J hg) (bm J hg) (q_e2g hg))<|dD J J (fun hg=>bj au J J (bm J hg)) ?_
   obtain⟨r5,h1t⟩:=WR (fun hb=>(h1t hb).2)
   have q_r5g:=fun hb=>(h1t hb).1
   refine dD J J (fun hg=>ap Po (DY _ (q_r5g hg)) ⟨(bm J hg),aL⟩)<|dD J J (fun hg=>cx (bm J hg))<|zo J (eO (ht J) (fun hb=>(bm J (qo hb))) (fun hb=>(h1t hb).2) h0t)<|aq<|ce h J (fun h=>?_) (fun h=>?_)
   ·refine av<|zo J (bB (y:=d3) au gW aJ (J))<|bq<|am au J ai J (ht J) (ht J)<|zo J (bW)<|aq<|aj ?_;refine aB (ae (ae (aB (ae ?_))));refine aF 4 J<|aZ ?_;cases so h;exact be J J ⟨aN au J J J,aK J,aL⟩
   ·refine bA<|aw<|ax<|aA<|zo rfl (nf (dd hx hN) rfl)<|aE rfl<|aQ ?_;exact bn (ba (ih (i+1) x ⟨dc hx,h⟩) (bD J))

theorem VL(a1:ac){R:Bool}(h:wg a1=some R):aR aU 171 [tD af a1] (hJ R):=by
 refine aR.of Tryz.func171 J J J fun w0 S0=>av<|zo J (gi J)<|zo J (jU)<|aq<|ah<|bo h fun r q_r h=>?_
 refine cD (ts:=[_,_,_,_]) mixed J J
  ⟨dB 1 J J J (bh au J J),
  ⟨NX J J (ap SZ (IZ _ q_r) ⟨hB,aL⟩),
  ⟨cK 3 0 4 1 J J J J (pc Cr (ht J) (ht J)),
  ⟨bT 5 2 J J J (rN J),
  aL⟩⟩⟩⟩ ?_
 refine ax<|aj ?_;cases so h;exact aH J J

theorem O7(e:bS)(r:(List ac)){R:Bool×Int}(h:qA e r=some R):aR aU 103 [tD ck e,cq (af) r] (tT [hJ R.1,bM R.2]):=by
 refine aR.of Tryz.func103 J J J fun w0 S0=>av<|zo J (gi J)<|zo J (jU)<|zo J (bW)<|aq<|av<|zo J (bh k5 J J)<|aE J<|bo h fun r1 q_r1 h=>zo J (ap Tb (I6 _ _ q_r1) ⟨(ht J),(ht J),aL⟩)<|aE J<|zo J (dX J J)<|zo J (dX J J)<|aP (r:=af) (x:=d3) au (fun _=>aJ _) J fun b=>am au J ai J (ht J) (ht J)<|aY 6 J<|bg J<|aq<|ah ?_;refine aA<|zo J (bh au J J)<|bo h fun r2 q_r2 h=>zo J (ap ab6 (VL _ q_r2) ⟨(ht J),aL⟩)<|aE J<|bg J<|bg J<|aq<|aj ?_;cases so h;exact cW J J J

theorem aar(b:Nat)(ix:OI)(r:dh)(n:ay){R:(List (List ac))×Int}(h:j3 r n=some R):dl aU 52 [tV (aS b 0),tD aW n] (jE b r ix) (fun _:OI=>tT [cq (dg) R.1,bM R.2]) (fun _=>(jE b r ix)):=by
 refine QI Tryz.func52 J J J fun w0 S0=>?_;refine(show CG _ _ _ [bx (rH eS [(1,bc (ix.h 0).1 (ix.h 0).2 r.rows.length),(2,bc (ix.h 1).1 (ix.h 1).2 r.width.length)]) 96 b r,ez ee 32 (ix.h 0).1 (ix.h 0).2 r.rows,ez cj 3 (ix.h 1).1 (ix.h 1).2 r.width] _ from ?_);refine av<|zo J (gi J)<|aP (r:=ee) (x:=[]) iy (fun _=>⟨none,0,J,dY _,mA _,.inl J⟩) J fun b1=>aP (r:=cj) (x:=(0:Int)) Ml (fun _=>J) J fun b2=>aq<|ah<|bo h fun e q_e h=>bo h fun e1 q_e1 h=>?_
 refine cD (ts:=[_,_,_,_,_,_,_,_,_,_,_,_,_,_,_,_,_,_]) mixed J J
  ⟨dB 0 J J J (cX J),
  ⟨bT 16 0 J J J (dQ (ht J)),
  ⟨bT 17 1 J J J (je 1 rl J J J),
  ⟨bT 18 2 J J J (dx zf J (.tail _ (.tail _ (.head _))) (.tail _ (.tail _ (.tail _ (.head _)))) (ht J)),
  ⟨dB 3 J J J (bX kq d9 J J),
  ⟨bT 20 4 J J J (bh cg J J),
  ⟨cK 19 3 21 5 J J J J (bF qP iy J (lJ (ht J)) (ht J) q_e),
  ⟨bT 22 6 J J J (bh iy J J),
  ⟨dB 0 J J J (cX J),
  ⟨bT 24 8 J J J (dQ (ht J)),
  ⟨bT 25 9 J J J (je 1 rl J J J),
  ⟨bT 26 10 J J J (dx zf J (.tail _ (.tail _ (.head _))) (.tail _ (.tail _ (.tail _ (.head _)))) (ht J)),
  ⟨dB 3 J J J (bX sG kV J J),
  ⟨bT 28 12 J J J (bh cg J J),
  ⟨cK 27 11 29 13 J J J J (bF qP iy J (lJ (ht J)) (ht J) q_e1),
  ⟨bT 30 14 J J J (bh iy J J),
  ⟨bT 23 7 J J J (rN J),
  ⟨bT 31 15 J J J (rN J),
  aL⟩⟩⟩⟩⟩⟩⟩⟩⟩⟩⟩⟩⟩⟩⟩⟩⟩⟩ ?_
 refine ax<|ah<|av<|aE rfl<|zo rfl (jw jN rfl)<|aE rfl<|zo rfl (jw jN rfl)<|zo rfl (xV (ht rfl) (ht rfl))<|zo rfl (iz (ht rfl) hI)<|aq<|ce h rfl (fun h=>?_) (fun h=>?_)
 ·refine av<|bq<|am iy J ai J (ht J) kJ<|bq<|am Ml J ai J (ht J) hI<|aq<|aj<|ae<|bI<|aF 4 J<|aF 5 J<|aM<|aM<|aM<|sv ?_;cases so h;exact eN (ts:=[cq (dg) ([]),bM 3]) (rvs:=[.cell 4 32,.cell 5 33]) J J ⟨aN iy J J J,aN Ml J J J,aL⟩ pj J J
 ·refine df<|av<|aE J<|zo J (jw jN J)<|bo h fun mk q_mk h=>Av (SM (r:=rB) (x:=false) yy J J J Tryz.underlying143 (fun _=>J) (ht J) (ht J) q_mk) J fun i=>ca false rB 4<|aP (x:=bc none 0 0) NZ (fun _=>EN) J fun b3=>bq<|WC<|am NZ J ai J (ht J) (R1 (ht J))<|aq<|av<|ca false dg 43<|aP (x:=bc none 0 0) iy (fun _=>EN) J fun b4=>aq<|ah<|av ?_;refine aE J<|aE J<|bo h fun it q_it h=>Hw acy (SF _ _ q_it) ⟨(ht J),(ht J),aL⟩ J fun v fp=>aq<|aC<|bo h fun r1 q_r1 h=>Zy ?_;refine HF (fun(ix1:Option Nat×Nat×List (List ac)×Option Nat×Nat×List Bool×Int×(List (List ac)))=>[bx rV 32 b4 (bc ix1.1 ix1.2.1 ix1.2.2.1.length),fL dg 43 ix1.1 ix1.2.1 ix1.2.2.1,bx rV 143 b3 (bc ix1.2.2.2.1 ix1.2.2.2.2.1 ix1.2.2.2.2.2.1.length),fL rB 4 ix1.2.2.2.1 ix1.2.2.2.2.1 ix1.2.2.2.2.2.1,bx cj 33 b2 ix1.2.2.2.2.2.2.1,bx ee 32 b1 ix1.2.2.2.2.2.2.2,bx (rH eS [(1,bc (ix.h 0).1 (ix.h 0).2 r.rows.length),(2,bc (ix.h 1).1 (ix.h 1).2 r.width.length)]) 96 b r,ez ee 32 (ix.h 0).1 (ix.h 0).2 r.rows,ez cj 3 (ix.h 1).1 (ix.h 1).2 r.width]) (fun(ix1:Option Nat×Nat×List (List ac)×Option Nat×Nat×List Bool×Int×(List (List ac)))=>(ix1.2.2.1,ix1.2.2.2.2.2.1,ix1.2.2.2.2.2.2.1,ix1.2.2.2.2.2.2.2)) (fun _=> .ret) J (ht J) (none,0,HP,(i.h 0).1,(i.h 0).2,mk,(0:Int),[]) J q_r1 (fun _=>J) J (fun ix1 x r2 h lp rec1 _ _ _=>?_) (fun i1 j hi bd=>⟨fun hj=>?_,fun _ hj=>?_⟩)
  ·obtain⟨l,c,xs,l1,c1,xs1,x1,x2⟩:=ix1
   replace h:ic n x xs xs1 x1 x2=some r2:=h
   refine(show CG _ _ _ [r0 lp rec1 .ready none,bx rV 32 b4 (bc l c xs.length),fL dg 43 l c xs,bx rV 143 b3 (bc l1 c1 xs1.length),fL rB 4 l1 c1 xs1,bx cj 33 b2 x1,bx ee 32 b1 x2,bx (rH eS [(1,bc (ix.h 0).1 (ix.h 0).2 r.rows.length),(2,bc (ix.h 1).1 (ix.h 1).2 r.width.length)]) 96 b r,ez ee 32 (ix.h 0).1 (ix.h 0).2 r.rows,ez cj 3 (ix.h 1).1 (ix.h 1).2 r.width] _ from ?_);refine FS (G' :=[(0,tV (aS b 0)),(1,tD aW n),(3,bN aW n),(4,tV (aS b1 0)),(5,tV (aS b2 0)),(6,cq (dg) e),(7,cq (dg) e1),(8,tV (aS b3 0)),(9,tV (aS b4 0)),(16,tV (aS b 0)),(17,tV (aS b 0)),(18,tV (aS b 1)),(19,tO ee (ix.h 0).1 (ix.h 0).2 r.rows),(20,bN cj n.A),(21,bM n.A),(22,bN ee e),(23,cq (dg) e),(24,tV (aS b 0)),(25,tV (aS b 0)),(26,tV (aS b 1)),(27,tO ee (ix.h 0).1 (ix.h 0).2 r.rows),(28,bN cj n.B),(29,bM n.B),(30,bN ee e1),(31,cq (dg) e1),(32,cq (dg) e),(33,ky e),(34,cq (dg) e1),(35,ky e1),(36,bM (IntKind.i64.wrap ((e.length:Int)*(e1.length:Int)))),(37,hJ (decide ((40000:Int)<(IntKind.i64.wrap ((e.length:Int)*(e1.length:Int)))))),(38,cq (dg) e),(39,ky e),(41,cq (dg) e),(42,cq (dg) e1),(44,bM x.1),(45,cq (af) x.2)]) ?_ ⟨J,J,J,J,J,J,J,J,J,J,J,J,J,J,J,J,J,J,J,J,J,J,J,J,J,J,J,J,J,J,J,J,J,J,J,J,J,aL⟩;refine av<|bg J<|aq<|aA<|bg J<|aQ<|HK<|aC<|av<|zo J (bX wC pz J J)<|zo J (bh k5 J J)<|aE J<|bo h fun r3 q_r3 h=>zo J (ap XG (O7 _ _ q_r3) ⟨(ht J),(ht J),aL⟩)<|aE J<|zo J (dX J J)<|zo J (dX J J)<|bg J<|bg J<|aq ?_;refine ah<|av<|aE J<|zo J (sx J)<|aq<|ce h J (fun h=>?_) (fun h=>?_)
   ·refine av<|aE J<|y5<|am iy J ai J (ht J) kJ<|y5<|am Ml J ai J (ht J) (ht J)<|aq<|aj ?_;refine ae (aB ?_);refine eX<|eX<|eX<|fR<|fR<|eX<|eX<|eX<|eX<|eX ?_;cases so h;exact BW 0 J (l,c,xs,l1,c1,xs1,r3.2,[]) J J
   ·refine df<|av<|aE J<|aq<|ce h J (fun h=>?_) (fun h=>?_)
    ·refine av<|zo J (im NZ (.tail _ (.tail _ (.tail _ (.head _)))) (ht J))<|aE J<|bo h fun e2 q_e2 h=>zo J (cB Tryz.underlying143 yy (.tail _ (.tail _ (.tail _ (.tail _ (.head _))))) (ht J) (ht J) q_e2)<|y6<|bo h fun st q_st h=>tq yy J ai J q_e2 (so q_st) (ht J) hB<|iZ (mM (so q_st)) 57 J<|FH (O' :=[fL rB 4 l1 c1 st,r0 lp rec1 .busy none,bx rV 32 b4 (bc l c xs.length),fL dg 43 l c xs,bx rV 143 b3 (bc l1 c1 st.length),bx cj 33 b2 x1,bx ee 32 b1 x2,bx (rH eS [(1,bc (ix.h 0).1 (ix.h 0).2 r.rows.length),(2,bc (ix.h 1).1 (ix.h 1).2 r.width.length)]) 96 b r,ez ee 32 (ix.h 0).1 (ix.h 0).2 r.rows,ez cj 3 (ix.h 1).1 (ix.h 1).2 r.width]) (by rw [mM (so q_st)])<|aq<|aA<|zo J (im iy (.tail _ (.tail _ (.head _))) (ht J))<|aE J<|zo J (bf (r:=dg) (ys:=[x.2]) (xs:=[.tmp 61]) jN eg J J J J J ⟨(ht J),aL⟩)<|oM<|bo h fun l2 q_l2 h=>cV eg J J J J jN J J (ht J) (ht J) q_l2 fun l3 c2=>oM<|am iy J ai J (ht J) (R1 (ht J))<|aQ<|aw ?_;refine eX<|eX<|eX<|eX<|eX<|QX<|eX<|HI<|HI<|eX ?_;cases so h;exact wV (l3,c2,l2,l1,c1,st,x1,x2) J J
    ·refine bA<|aw ?_;cases so h;exact wV (l,c,xs,l1,c1,xs1,x1,x2) J J
  ·skip
   obtain⟨l4,c3,xs2,l5,c4,xs3,x3,x4⟩:=i1
   obtain rfl:xs2=r1.1.2.1:=congrArg (fun q:List (List ac)×List Bool×Int×(List (List ac))=>q.1) hi
   obtain rfl:xs3=r1.1.2.2.1:=congrArg (fun q:List (List ac)×List Bool×Int×(List (List ac))=>q.2.1) hi
   obtain rfl:x3=r1.1.2.2.2.1:=congrArg (fun q:List (List ac)×List Bool×Int×(List (List ac))=>q.2.2.1) hi
   obtain rfl:x4=r1.1.2.2.2.2:=congrArg (fun q:List (List ac)×List Bool×Int×(List (List ac))=>q.2.2.2) hi
   have h:=ct h (by rw [hj];rfl);refine(show AT _ _ _ [BF bd,bx rV 32 b4 (bc l4 c3 r1.1.2.1.length),fL dg 43 l4 c3 r1.1.2.1,bx rV 143 b3 (bc l5 c4 r1.1.2.2.1.length),fL rB 4 l5 c4 r1.1.2.2.1,bx cj 33 b2 r1.1.2.2.2.1,bx ee 32 b1 r1.1.2.2.2.2,bx (rH eS [(1,bc (ix.h 0).1 (ix.h 0).2 r.rows.length),(2,bc (ix.h 1).1 (ix.h 1).2 r.width.length)]) 96 b r,ez ee 32 (ix.h 0).1 (ix.h 0).2 r.rows,ez cj 3 (ix.h 1).1 (ix.h 1).2 r.width] _ from ?_);refine ci (G' :=[(0,tV (aS b 0)),(1,tD aW n),(3,bN aW n),(4,tV (aS b1 0)),(5,tV (aS b2 0)),(6,cq (dg) e),(7,cq (dg) e1),(8,tV (aS b3 0)),(9,tV (aS b4 0)),(16,tV (aS b 0)),(17,tV (aS b 0)),(18,tV (aS b 1)),(19,tO ee (ix.h 0).1 (ix.h 0).2 r.rows),(20,bN cj n.A),(21,bM n.A),(22,bN ee e),(23,cq (dg) e),(24,tV (aS b 0)),(25,tV (aS b 0)),(26,tV (aS b 1)),(27,tO ee (ix.h 0).1 (ix.h 0).2 r.rows),(28,bN cj n.B),(29,bM n.B),(30,bN ee e1),(31,cq (dg) e1),(32,cq (dg) e),(33,ky e),(34,cq (dg) e1),(35,ky e1),(36,bM (IntKind.i64.wrap ((e.length:Int)*(e1.length:Int)))),(37,hJ (decide ((40000:Int)<(IntKind.i64.wrap ((e.length:Int)*(e1.length:Int)))))),(38,cq (dg) e),(39,ky e),(41,cq (dg) e),(42,cq (dg) e1)]) ?_ ⟨J,J,J,J,J,J,J,J,J,J,J,J,J,J,J,J,J,J,J,J,J,J,J,J,J,J,J,J,J,J,J,J,J,J,J,aL⟩;refine aw<|ax<|ah<|av<|aE rfl<|zo rfl (jw jN rfl)<|zo rfl (bJ hI)<|aq<|aC<|bp (k:=64) J fun hN=>bQ<|y7<|y7<|y7<|mw<|Hz<|HA<|HA<|Hz<|QN<|y7 ?_;refine ba (kX (Z:=fun ls i2 out l6 c5=>(e.drop i2=ls)∧hZ r n r1 ls i2 out=some R) (Of:=fun _ i2 out l6 c5=>[bx ee 32 b1 r1.1.2.2.2.2,bx cj 33 b2 r1.1.2.2.2.1,bx rV 143 b3 (bc l5 c4 r1.1.2.2.1.length),bx rV 32 b4 (bc l6 c5 out.length),fL dg 43 l6 c5 out,fL rB 4 l5 c4 r1.1.2.2.1,BF bd,bx (rH eS [(1,bc (ix.h 0).1 (ix.h 0).2 r.rows.length),(2,bc (ix.h 1).1 (ix.h 1).2 r.width.length)]) 96 b r,ez ee 32 (ix.h 0).1 (ix.h 0).2 r.rows,ez cj 3 (ix.h 1).1 (ix.h 1).2 r.width]) (Gf:=fun _ i2 out l6 c5=>[(0,tV (aS b 0)),(3,bN aW n),(4,tV (aS b1 0)),(5,tV (aS b2 0)),(8,tV (aS b3 0)),(9,tV (aS b4 0)),(64,cq (dg) e),(65,ky e),(66,bM (i2:Int))]) (fun i2 out l6 c5 h=>?_) (fun e3 tl ih i2 out l6 c5 h=>?_) e 0 r1.1.2.1 l4 c3 ⟨J,h⟩) (bD J)
   ·obtain⟨hx,h⟩:=h
    refine aG<|av<|zo J (fY J J)<|aq<|ah<|bL (ht J) (dO hx)<|bG ?_;refine ak (ak (aV ?_));refine ax<|av<|zo rfl (im iy (.tail _ (.tail _ (.tail _ (.head _)))) (ht rfl))<|y6<|kO<|jM 96 rfl<|bq<|am iy rfl ai rfl (ht rfl) (lJ (ht rfl))<|gj<|am Ml rfl ai rfl (ht rfl) hI<|aq<|aj<|bI<|aF 4 rfl<|aF 5 rfl<|aZ<|aZ<|aZ<|aZ<|cy<|cy<|cy ?_;refine cy<|BV<|sv ?_;cases so h;exact eN (ts:=[cq (dg) out,bM 0]) (rvs:=[.cell 4 32,.cell 5 33]) J J ⟨aN iy J J J,aN Ml J J J,aL⟩ pj J J
   ·obtain⟨hx,h⟩:=h
    refine aG<|av<|zo J (fY J J)<|aq<|ah<|bK (ht J) (dL hx)<|df<|ah<|aC<|av<|aE J<|zo J (ne jN eg J J J (dA hx))<|zo J (bh eg J J)<|bg J<|bg J<|aq<|av<|zo J (bX Ni Fe J J) ?_;refine zo J (bh yy J J)<|aE J<|bo h fun t q_t h=>co J J (fun hg=>im NZ (.tail _ (.tail _ (.head _))) (ht J))<|co J J (fun hg=>cX J) ?_
    obtain⟨e4,h1t,h0t⟩:=og q_t
    have q_e4g:=fun hb=>(h1t hb).1
    refine co J J (fun hg=>cB Tryz.underlying143 yy (.tail _ (.tail _ (.tail _ (.tail _ (.tail _ (.head _)))))) (bm J hg) (bm J hg) (q_e4g hg))<|co J J (fun hg=>fJ (r:=rB) (i:=(i2:Int)) (foff:=0) yy J J bw J (.tail _ (.tail _ (.tail _ (.tail _ (.tail _ (.head _)))))) (q_e4g hg) (bm J hg))<|co J J (fun hg=>cx (bm J hg))<|zo J (cH (ht J) (fun hb=>(bm J hb)) (fun hb=>(h1t hb).2) h0t)<|aq<|ce h J (fun h=>?_) (fun h=>?_)
    ·refine bo h fun e5 q_e5 h=>bo h fun mk1 q_mk1 h=>bo h fun r4 q_r4 h=>?_
     refine oy 14 [tc (sw l6 c5 out),tc (cq (af) e3),tc (tV (aS b 0)),tc (tV (aS b 0)),tc (tV (aS b 2)),tc (tO cj (ix.h 1).1 (ix.h 1).2 r.width),tc (bN cj n.B),tc (bM n.B),tc (bN cj e5),tc (bM e5),([10],fun s=>tO af ((s.getD 0 pj).h 0).1 ((s.getD 0 pj).h 0).2 mk1),tc (cq (dg) ([e3,mk1])),tc (cq (af) r4),tc (cq (dg) ([r4]))] [false,false,false,false,false,false,false,false,false,false,true,false,false,false] [fun _=>[bx ee 32 b1 r1.1.2.2.2.2,bx cj 33 b2 r1.1.2.2.2.1,bx rV 143 b3 (bc l5 c4 r1.1.2.2.1.length),bx rV 32 b4 (bc l6 c5 out.length),fL dg 43 l6 c5 out,fL rB 4 l5 c4 r1.1.2.2.1,BF bd,bx (rH eS [(1,bc (ix.h 0).1 (ix.h 0).2 r.rows.length),(2,bc (ix.h 1).1 (ix.h 1).2 r.width.length)]) 96 b r,ez ee 32 (ix.h 0).1 (ix.h 0).2 r.rows,ez cj 3 (ix.h 1).1 (ix.h 1).2 r.width],fun sg=>[ez af 46 ((sg 10).h 0).1 ((sg 10).h 0).2 mk1,bx ee 32 b1 r1.1.2.2.2.2,bx cj 33 b2 r1.1.2.2.2.1,bx rV 143 b3 (bc l5 c4 r1.1.2.2.1.length),bx rV 32 b4 (bc l6 c5 out.length),fL dg 43 l6 c5 out,fL rB 4 l5 c4 r1.1.2.2.1,BF bd,bx (rH eS [(1,bc (ix.h 0).1 (ix.h 0).2 r.rows.length),(2,bc (ix.h 1).1 (ix.h 1).2 r.width.length)]) 96 b r,ez ee 32 (ix.h 0).1 (ix.h 0).2 r.rows,ez cj 3 (ix.h 1).1 (ix.h 1).2 r.width]] J mixed J J J J J
      ⟨⟨[⟨9,fun _=>tV (aS b4 0),none⟩],_,0,1,J,⟨(fun _=>J),aL⟩,J,J,J,J,J,F3 (fun sg=>aD J (im iy (.tail _ (.tail _ (.tail _ (.head _)))) (ht J))) (z7 (fun sg=>aD J (im iy (.tail _ (.tail _ (.tail _ (.tail _ (.head _))))) (ht J))))⟩,
      ⟨⟨[⟨15,fun _=>tD dg e3,none⟩],_,0,1,J,⟨(fun _=>J),aL⟩,J,J,J,J,J,fun _ sg _ _=>aD J (cX J)⟩,
      ⟨⟨[⟨0,fun _=>tV (aS b 0),none⟩],_,0,0,J,⟨(fun _=>J),aL⟩,J,J,J,J,J,fun _ sg _ _=>aD J (cX J)⟩,
      ⟨⟨[⟨82,fun _=>tV (aS b 0),some 2⟩],_,0,0,J,⟨(fun _=>J),aL⟩,J,J,J,J,J,fun _ sg _ _=>aD J (dQ (ht J))⟩,
      ⟨⟨[⟨83,fun _=>tV (aS b 0),some 3⟩],_,0,0,J,⟨(fun _=>J),aL⟩,J,J,J,J,J,fun _ sg _ _=>aD J (je 2 Nh J J J)⟩,
      ⟨⟨[⟨84,fun _=>tV (aS b 2),some 4⟩],_,0,0,J,⟨(fun _=>J),aL⟩,J,J,J,J,J,z7 (fun sg=>aD J (dx eQ J (.tail _ (.tail _ (.tail _ (.tail _ (.tail _ (.tail _ (.tail _ (.head _)))))))) (.tail _ (.tail _ (.tail _ (.tail _ (.tail _ (.tail _ (.tail _ (.tail _ (.tail _ (.head _)))))))))) (ht J)))⟩,
      ⟨⟨[⟨3,fun _=>bN aW n,none⟩],_,0,0,J,⟨(fun _=>J),aL⟩,J,J,J,J,J,fun _ sg _ _=>aD J (bX sG kV J J)⟩,
      ⟨⟨[⟨86,fun _=>bN cj n.B,some 6⟩],_,0,0,J,⟨(fun _=>J),aL⟩,J,J,J,J,J,fun _ sg _ _=>aD J (bh cg J J)⟩,
      ⟨⟨[⟨85,fun _=>tO cj (ix.h 1).1 (ix.h 1).2 r.width,some 5⟩,⟨87,fun _=>tD cj n.B,some 7⟩],_,0,0,J,⟨(fun _=>J),(fun _=>J),aL⟩,J,J,J,J,J,fun _ sg _ _=>aD J (bF iv cg J (lJ (ht J)) (ht J) q_e5)⟩,
      ⟨⟨[⟨88,fun _=>bN cj e5,some 8⟩],_,0,0,J,⟨(fun _=>J),aL⟩,J,J,J,J,J,fun _ sg _ _=>aD J (bh cg J J)⟩,
      ⟨⟨[⟨89,fun _=>tD cj e5,some 9⟩],_,J,⟨(fun _=>J),aL⟩,J,J,J,fun sg=>eF J (Qx (r:=af) (x:=d3) au J J J iw (fun _=>aJ _) (ht J) (ht J) q_mk1)⟩,
      ⟨⟨[⟨81,fun _=>tD dg e3,some 1⟩,⟨90,fun sg=>tO af ((sg 10).h 0).1 ((sg 10).h 0).2 mk1,some 10⟩],_,1,1,J,⟨(fun _=>J),(fun _=>J),aL⟩,J,J,J,J,J,fun _ sg _ _=>aD J (bf (r:=dg) (ys:=[e3,mk1]) (xs:=[.tmp 81,.tmp 90]) jN eg J J J J J ⟨(ht J),(lJ (ht J)),aL⟩)⟩,
      ⟨⟨[⟨91,fun _=>tD ee ([e3,mk1]),some 11⟩],_,1,1,J,⟨(fun _=>J),aL⟩,J,J,J,J,J,fun _ sg _ _=>aD J (ap XF (Wb _ q_r4) ⟨(ht J),aL⟩)⟩,
      ⟨⟨[⟨92,fun _=>tD dg r4,some 12⟩],_,1,1,J,⟨(fun _=>J),aL⟩,J,J,J,J,J,fun _ sg _ _=>aD J (bf (r:=dg) (ys:=[r4]) (xs:=[.tmp 92]) jN eg J J J J J ⟨(ht J),aL⟩)⟩,
      aL⟩⟩⟩⟩⟩⟩⟩⟩⟩⟩⟩⟩⟩⟩ (fun sg=>?_)
     refine(show RG _ _ _ _ [ez af 46 ((sg 10).h 0).1 ((sg 10).h 0).2 mk1,bx ee 32 b1 r1.1.2.2.2.2,bx cj 33 b2 r1.1.2.2.2.1,bx rV 143 b3 (bc l5 c4 r1.1.2.2.1.length),bx rV 32 b4 (bc l6 c5 out.length),fL dg 43 l6 c5 out,fL rB 4 l5 c4 r1.1.2.2.1,BF bd,bx (rH eS [(1,bc (ix.h 0).1 (ix.h 0).2 r.rows.length),(2,bc (ix.h 1).1 (ix.h 1).2 r.width.length)]) 96 b r,ez ee 32 (ix.h 0).1 (ix.h 0).2 r.rows,ez cj 3 (ix.h 1).1 (ix.h 1).2 r.width] _ from ?_);refine Hu<|bo h fun l7 q_l7 h=>cV eg J J J J jN J J (ht J) (ht J) q_l7 fun l8 c6=>Hu<|am iy J ai J (ht J) (R1 (ht J))<|aQ<|aw<|ax<|aA<|zo rfl (nf (dd hx hN) rfl)<|aE rfl<|aQ<|aM<|aZ<|eX<|eX<|eX<|eX<|eX<|vX<|vX<|eX<|eX<|eX ?_;exact bn (ba (ih (i2+1) l7 l8 c6 ⟨dc hx,h⟩) (bD J))
    ·refine bA<|aw<|ax<|aA<|zo rfl (nf (dd hx hN) rfl)<|aE rfl<|aQ ?_;exact bn (ba (ih (i2+1) out l6 c5 ⟨dc hx,h⟩) (bD J))
  ·skip
   obtain⟨l9,c7,xs4,l10,c8,xs5,x5,x6⟩:=i1
   obtain rfl:xs4=r1.1.2.1:=congrArg (fun q:List (List ac)×List Bool×Int×(List (List ac))=>q.1) hi
   obtain rfl:xs5=r1.1.2.2.1:=congrArg (fun q:List (List ac)×List Bool×Int×(List (List ac))=>q.2.1) hi
   obtain rfl:x5=r1.1.2.2.2.1:=congrArg (fun q:List (List ac)×List Bool×Int×(List (List ac))=>q.2.2.1) hi
   obtain rfl:x6=r1.1.2.2.2.2:=congrArg (fun q:List (List ac)×List Bool×Int×(List (List ac))=>q.2.2.2) hi
   have h:=cf h (by rw [hj];rfl);refine(show CG _ _ _ [BF bd,bx rV 32 b4 (bc l9 c7 r1.1.2.1.length),fL dg 43 l9 c7 r1.1.2.1,bx rV 143 b3 (bc l10 c8 r1.1.2.2.1.length),fL rB 4 l10 c8 r1.1.2.2.1,bx cj 33 b2 r1.1.2.2.2.1,bx ee 32 b1 r1.1.2.2.2.2,bx (rH eS [(1,bc (ix.h 0).1 (ix.h 0).2 r.rows.length),(2,bc (ix.h 1).1 (ix.h 1).2 r.width.length)]) 96 b r,ez ee 32 (ix.h 0).1 (ix.h 0).2 r.rows,ez cj 3 (ix.h 1).1 (ix.h 1).2 r.width] _ from ?_);refine FS (G' :=[(0,tV (aS b 0)),(1,tD aW n),(3,bN aW n),(4,tV (aS b1 0)),(5,tV (aS b2 0)),(6,cq (dg) e),(7,cq (dg) e1),(8,tV (aS b3 0)),(9,tV (aS b4 0)),(16,tV (aS b 0)),(17,tV (aS b 0)),(18,tV (aS b 1)),(19,tO ee (ix.h 0).1 (ix.h 0).2 r.rows),(20,bN cj n.A),(21,bM n.A),(22,bN ee e),(23,cq (dg) e),(24,tV (aS b 0)),(25,tV (aS b 0)),(26,tV (aS b 1)),(27,tO ee (ix.h 0).1 (ix.h 0).2 r.rows),(28,bN cj n.B),(29,bM n.B),(30,bN ee e1),(31,cq (dg) e1),(32,cq (dg) e),(33,ky e),(34,cq (dg) e1),(35,ky e1),(36,bM (IntKind.i64.wrap ((e.length:Int)*(e1.length:Int)))),(37,hJ (decide ((40000:Int)<(IntKind.i64.wrap ((e.length:Int)*(e1.length:Int)))))),(38,cq (dg) e),(39,ky e),(41,cq (dg) e),(42,cq (dg) e1)]) ?_ ⟨J,J,J,J,J,J,J,J,J,J,J,J,J,J,J,J,J,J,J,J,J,J,J,J,J,J,J,J,J,J,J,J,J,J,J,aL⟩;refine aj ?_;refine aB (ae ?_);refine vX<|aF 4 J<|HJ<|aF 5 J<|bI<|aZ<|bI<|aZ<|bI<|aZ<|bI<|aZ<|cy<|cy<|cy<|cy<|BV<|sv ?_;cases so h;exact eN (ts:=[cq (dg) r1.1.2.2.2.2,bM r1.1.2.2.2.1]) (rvs:=[.cell 4 32,.cell 5 33]) J J ⟨aN iy J J J,aN Ml J J J,aL⟩ pj J J

end Go.Proofs.YtfhhakidodmdfaaGreatDoor

