/- bS of this claim: P4. -/
import Derived.Test.YtdohlidddcgfjaaGreatFfT
import Derived.Test.YtdohlidddcgfjaaGreatFfP3
set_option linter.all false
namespace Go.Proofs.YtdohlidddcgfjaaGreat
open Go
set_option maxRecDepth 100000

def Zk(b:Nat)(ix:OI) l{R}(h:eC l=some R):bk aY 167 [Z (M b 0)] (eN b l ix) (fun _:OI=>gR R.1) (fun j=>eN b R.2 j):=by
 refine bk.of Tryz.func167 J J J fun w0 S0=>?_;refine(show CG _ _ _ [Q (rH bu [(1,av (ix.h 0).1 (ix.h 0).2 l.kinds.length),(2,av (ix.h 1).1 (ix.h 1).2 l.open_.length)]) 168 b l,tip pJ 69 (ix.h 0).1 (ix.h 0).2 l.kinds,dr bP 3 (ix.h 1).1 (ix.h 1).2 l.open_] _ from ?_);refine bc<|bz<|br<|aB J<|s (aC (D J))<|aW 3 ie J<|s (aE (r:=rH bu [(1,av (ix.h 0).1 (ix.h 0).2 l.kinds.length),(2,av (ix.h 1).1 (ix.h 1).2 l.open_.length)]) (x:=l) gB J J (eI fT) (.head _) (D J))<|bv gB k9 J fun b1=>bw gB aw J<|be 3 J<|br<|bc<|bG qj iU dc J<|cr fD J<|s (hX (D J) hI)<|aR J<|ai J (ci nT gx J J) ?_;refine ai J (ce xh J J)<|ai J (mf qG J)<|ai J (fun K=>hX (bM J K) hI)<|de J<|aR J<|ai J (ci qj iU J J)<|ai J (ce dc J J)<|ai J (mf fD J)<|ai J (ci nT gx J J)<|ai J (ce xh J J)<|ai J (mf qG J)<|ai J (fun K=>fY (bM J K) (bM J K))<|ai J (fun K=>gm (bM J K) hI)<|de J<|a8 J<|aB J<|s (aC (D J))<|aW 17 gk J<|cU false bP 3<|cN ?_;refine lr dc J (tI (hs' :=[(1,av (ix.h 0).1 (ix.h 0).2 l.kinds.length),(2,av (ix.h 1).1 (ix.h 1).2 l.open_.length)]) (lL _ _) ⟨.inr ⟨J,J⟩,.inr ⟨J,J⟩,aM⟩ J) J (D J) (KX (show aJ _ _ _ (Z HV)from xj)) ?_;refine(show RG _ _ _ _ [_,_,_,_] _ from ?_);refine br<|bm<|bG qj iU dc J<|cr fD J<|s (bR hI)<|br<|aA<|bt (k:=40) J fun hN=>bN<|gN<|hE<|hE<|hE ?_;refine aV (vR (tV:=fun ls i ob l1 c l2 c1 l3 c2=>(l.n.Keys.drop i=ls)/\dB l ls ob=some R) (Of:=fun _ i ob l1 c l2 c1 l3 c2=>[Q (rH cn [(1,av l1 c ob.kinds.length),(2,av l2 c1 ob.open_.length)]) 168 b (cG ob (av l3 c2 ob.result.length)),tip pJ 69 l1 c ob.kinds,dr bP 3 l2 c1 ob.open_,dr bP 3 l3 c2 ob.result]) (Gf:=fun _ i ob l1 c l2 c1 l3 c2=>[(0,Z (M b 0)),(3,dk bl l.n),(4,gR (((decide ((l.n.Keys.length:Int)<=(3:Int)))&&(decide ((l.n.Aggs.length:Int)<=(12:Int))))&&(decide ((0:Int)<(IntKind.i64.wrap ((l.n.Keys.length:Int)+(l.n.Aggs.length:Int))))))),(40,pF l.n.Keys),(41,nL l.n.Keys),(42,bB (i:Int))]) (fun i ob l1 c l2 c1 l3 c2 h=>?_) (fun e tl ih i ob l1 c l2 c1 l3 c2 h=>?_) l.n.Keys 0 ({l with result:=rm}:al) (ix.h 0).1 (ix.h 0).2 (ix.h 1).1 (ix.h 1).2 none 0 ⟨J,h⟩) (bp J)
 ·obtain⟨V,h⟩:=h
  refine fv V J<|aG<|bm<|bG nT gx xh J<|cr qG J<|s (bR hI)<|br<|aA<|bt (k:=75) J fun hN1=>?_;refine bN ?_;refine aV (BR (tV:=fun ls1 i1 ok ob1 l4 c3 l5 c4 l6 c5=>(l.n.Aggs.drop i1=ls1)/\cA ls1 ok ob1=some R) (Of:=fun _ i1 ok ob1 l4 c3 l5 c4 l6 c5=>[Q (rH cn [(1,av l4 c3 ob1.kinds.length),(2,av l5 c4 ob1.open_.length)]) 168 b (cG ob1 (av l6 c5 ob1.result.length)),tip pJ 69 l4 c3 ob1.kinds,dr bP 3 l5 c4 ob1.open_,dr bP 3 l6 c5 ob1.result]) (Gf:=fun _ i1 ok ob1 l4 c3 l5 c4 l6 c5=>[(0,Z (M b 0)),(4,gR ok),(75,eg (fN) l.n.Aggs),(76,nL l.n.Aggs),(77,bB (i1:Int))]) (fun i1 ok ob1 l4 c3 l5 c4 l6 c5 h=>?_) (fun e1 tl1 ih1 i1 ok ob1 l4 c3 l5 c4 l6 c5 h=>?_) l.n.Aggs 0 (((decide ((l.n.Keys.length:Int)<=(3:Int)))&&(decide ((l.n.Aggs.length:Int)<=(12:Int))))&&(decide ((0:Int)<(IntKind.i64.wrap ((l.n.Keys.length:Int)+(l.n.Aggs.length:Int)))))) ob l1 c l2 c1 l3 c2 ⟨J,h⟩) (bp J)
  ·obtain⟨hx1,h⟩:=h
   refine fv hx1 J<|aG<|aB J<|bq J<|aS<|du<|ah<|vi (r' :=rH bu [(1,av l4 c3 ob1.kinds.length),(2,av l5 c4 ob1.open_.length)]) (x' :=ob1) (fun _ _ _ ho h=>Up h (fun h=>iV (rX ho (.head _)) h)) ?_;exact ah<|aZ<|aH<|aH<|aH<|so h▸bF J (rf [(l4,c3),(l5,c4)]) J J (fun _ _ h=>h)
  ·obtain⟨hx1,h⟩:=h
   refine ft hx1 J<|aU<|aA<|bc<|fV qG kR J (eK hx1)<|bv kR u0 J fun b2=>bw kR aw J<|be 8 J<|br<|bc<|cO ?_;refine br ?_;refine HM (tV:=fun ok1 k=>eO (cA tl1) ob1 ok1 k=some R) (Of:=fun ok1 k=>[Q (rH cn [(1,av l4 c3 ob1.kinds.length),(2,av l5 c4 ob1.open_.length)]) 168 b (cG ob1 (av l6 c5 ob1.result.length)),tip pJ 69 l4 c3 ob1.kinds,dr bP 3 l5 c4 ob1.open_,dr bP 3 l6 c5 ob1.result]) (Gf:=fun ok1 k=>[(0,Z (M b 0)),(4,gR ok1),(9,bB k),(75,eg (fN) l.n.Aggs),(76,nL l.n.Aggs),(77,bB (i1:Int))]) (fun ok1 k h=>?_) (fun hg=>?_)
   ·skip
    refine ax<|aR J<|aR J<|s (aC (D J))<|aW 17 gk J<|s (nD dc (eI lS) (.head _) J (D J))<|aR J<|s (ba (r:=bP) (ys:=[k]) (xs:=[.tmp 139]) fD b9 J J J J J ⟨(D J),aM⟩)<|kZ<|bL h fun l7 q_l7 h=>cY b9 J J J J fD J J (D J) (D J) q_l7 fun l8 c6=>s (aC (D J))<|aW 17 gk J<|cN<|lr dc J (tI (hs' :=[(1,av l4 c3 ob1.kinds.length),(2,av l5 c4 ob1.open_.length)]) (iY _ _ _) ⟨.inr ⟨J,J⟩,.inr ⟨J,J⟩,aM⟩ J) J (D J) (KX (D J)) ?_;refine(show RG _ _ _ _ [_,_,_,_] _ from ?_);refine aX<|d6 hx1 hN1 J<|ah<|aS<|aS<|aS ?_;exact bj (aV (ih1 (i1+1) ok1 ({ob1 with result:=l7}:al) l4 c3 l5 c4 l8 c6 ⟨dZ hx1,h⟩) (bp J))
   ·skip
    refine bc<|bG px mR b9 J<|bU J<|c0 h J (fun h=>?_) (fun h=>?_)
    ·refine ax<|aR J<|aR J<|ai J (ci s5 q0 J J)<|ai J (fun K=>gK rF J kY J (bM J K))<|ai J (ce B2 J J)<|ai J (mf sK J)<|ai J (mD J)<|de J<|ia J<|aX ?_;exact bZ (hg (ok&&((e1.Arg.Nodes.length:Int)==(0:Int))) (2:Int) h) (bp J)
    ·refine aU<|bL h fun r q_r h=>?_
     refine lx (ts:=[_,_,_,_,_,_,_,_,_,_,_,_]) mixed J J
      ⟨LZ 8 J J (xm s5 q0 J J),
      ⟨vo 0 lc J J,
      ⟨iH J J,
      ⟨gE 95 2 J J (aC (D J)),
      ⟨gE 96 3 J J (oZ 15 jO J J J),
      ⟨gE 97 4 J J (aE (r:=rH cn [(1,av l4 c3 ob1.kinds.length),(2,av l5 c4 ob1.open_.length)]) (x:=cG ob1 (av l6 c5 ob1.result.length)) dc J J (eI kT) (.head _) (D J)),
      ⟨kV 94 1 98 5 J J J (dz Pb (DN _ _ q_r) ⟨(D J),(D J),aM⟩),
      ⟨gE 99 6 J J (mn J),
      ⟨gE 92 7 J J (LY J J),
      ⟨gE 92 7 J J (LY J J),
      ⟨gE 100 8 J J (LS J),
      ⟨gE 101 9 J J (LS J),
      aM⟩⟩⟩⟩⟩⟩⟩⟩⟩⟩⟩⟩ ?_
     refine aG<|aB J<|aR J<|ai J (dy J)<|ai J (mD J)<|de J<|aR J<|ai J (ci px mR J J)<|ai J (ce b9 J J)<|ai J (fun K=>gm (bM J K) hI)<|de J<|aR J<|ai J (ci px mR J J)<|ai J (ce b9 J J)<|ai J (fun K=>hX (bM J K) hI)<|de J<|a8 J<|bc<|sf px mR J ?_;refine fL b9 J<|br<|aA<|bc<|bU J<|a8 J<|jE h J (fun h=>?_) (fun h=>?_)
     ·refine ax<|aR J<|aR J<|ai J (dy J)<|ai J (mD J)<|ai J (ut J)<|dL J J J J (fun K=>mn J)<|dL J J J J (fun K=>eh (bM J K) hI)<|ai J (fun K=>nC (bM J K) (fun H=>(bM J (Au K (zb H)))))<|de J<|ia J<|aX<|aF ?_;exact bZ (hg ((((ok&&(r.2==(0:Int)))&&(decide ((1:Int)<e1.Tag)))&&(decide (e1.Tag<=(5:Int))))&&((r.1==(2:Int))||(r.1==(0:Int)))) (2:Int) h) (bp J)
     ·refine i0 (tV:=fun x=>ii (cA tl1) e1 ok ob1 r x=some R) (Of:=fun x=>[Q (rH cn [(1,av l4 c3 ob1.kinds.length),(2,av l5 c4 ob1.open_.length)]) 168 b (cG ob1 (av l6 c5 ob1.result.length)),tip pJ 69 l4 c3 ob1.kinds,dr bP 3 l5 c4 ob1.open_,dr bP 3 l6 c5 ob1.result]) (Gf:=fun x=>[(0,Z (M b 0)),(4,gR (((ok&&(r.2==(0:Int)))&&(decide ((1:Int)<e1.Tag)))&&(decide (e1.Tag<=(5:Int))))),(9,bB 2),(10,bB r.1),(75,eg (fN) l.n.Aggs),(76,nL l.n.Aggs),(77,bB (i1:Int)),(130,gR x)]) (fun x h=>?_) (fun K1=>?_)
      ·skip
       refine jE h J (fun h=>?_) (fun h=>?_)
       ·refine ax<|aR J<|ia J<|aX<|aF ?_;exact bZ (hg (((ok&&(r.2==(0:Int)))&&(decide ((1:Int)<e1.Tag)))&&(decide (e1.Tag<=(5:Int)))) r.1 h) (bp J)
       ·refine bE<|aF ?_;exact bZ (hg (((ok&&(r.2==(0:Int)))&&(decide ((1:Int)<e1.Tag)))&&(decide (e1.Tag<=(5:Int)))) (2:Int) h) (bp J)
      ·skip
       refine bc<|bU J<|a8 J<|jE h J (fun h=>?_) (fun h=>?_)
       ·refine bE ?_;exact bZ (K1 (e1.Tag==(4:Int)) h) (bp J)
       ·refine ax<|bU J<|ia J<|aX ?_;exact bZ (K1 (e1.Tag==(5:Int)) h) (bp J)
 ·obtain⟨V,h⟩:=h
  refine ft V J<|aU<|aA<|bc<|fV fD b9 J (eK V)<|a8 J<|bm<|aR J<|s (jd (D J) hI) ?_;refine aR J<|bD J (dy J)<|bD J (dy J)<|bD J (fun K=>aC (bM J K))<|bD J (fun K=>bV (n:=15) jO J (bM J K) J)<|bD J (fun K=>aE (r:=rH cn [(1,av l1 c ob.kinds.length),(2,av l2 c1 ob.open_.length)]) (x:=cG ob (av l3 c2 ob.result.length)) dc J J (eI kT) (.head _) (bM J K))<|bD J (mf fD J)<|bD J (fun K=>iN (bM J K) (bM J K))<|j5 J<|c0 h J (fun h=>?_) (fun h=>?_)
  ·exact bc<|bz<|bQ<|au<|eu<|au<|eu<|aS<|du<|ah<|vi (r' :=rH bu [(1,av l1 c ob.kinds.length),(2,av l2 c1 ob.open_.length)]) (x' :=ob) (fun _ _ _ ho h=>Up h (fun h=>iV (rX ho (.head _)) h))<|ah<|aZ<|aH<|aH<|aH<|so h▸bF J (rf [(l1,c),(l2,c1)]) J J (fun _ _ h=>h)
  ·refine jf<|bL h fun e2 q_e2 h=>bL h fun l9 q_l9 h=>?_
   refine iX 14 [tc (Z (M b 0)),tc (Z (M b 0)),tc (Z (M b 0)),tc (Z (M b 17)),tc (sa l3 c2 ob.result),tc (Z (M b 0)),tc (Z (M b 0)),tc (Z (M b 15)),tc (pF ob.a_),tc (bB e),tc (dk bP e2),tc (bB e2),tc (pF ([e2])),([13],fun ae=>Z (av ((ae.getD 0 jQ).h 0).1 ((ae.getD 0 jQ).h 0).2 l9.length))] [false,false,false,false,false,false,false,false,false,false,false,false,false,true] [fun _=>[Q (rH cn [(1,av l1 c ob.kinds.length),(2,av l2 c1 ob.open_.length)]) 168 b (cG ob (av l3 c2 ob.result.length)),tip pJ 69 l1 c ob.kinds,dr bP 3 l2 c1 ob.open_,dr bP 3 l3 c2 ob.result],fun sg=>[dr bP 3 ((sg 13).h 0).1 ((sg 13).h 0).2 l9,Q (rH cn [(1,av l1 c ob.kinds.length),(2,av l2 c1 ob.open_.length)]) 168 b (cG ob (av l3 c2 ob.result.length)),tip pJ 69 l1 c ob.kinds,dr bP 3 l2 c1 ob.open_]] J mixed J J J J J
    ⟨⟨[⟨0,fun _=>Z (M b 0),none⟩],_,0,1,J,⟨(fun _=>J),aM⟩,J,J,J,J,J,fun _ sg _ _=>ac J (mn J)⟩,
    ⟨⟨[⟨0,fun _=>Z (M b 0),none⟩],_,0,0,J,⟨(fun _=>J),aM⟩,J,J,J,J,J,fun _ sg _ _=>ac J (mn J)⟩,
    ⟨⟨[⟨58,fun _=>Z (M b 0),some 1⟩],_,0,0,J,⟨(fun _=>J),aM⟩,J,J,J,J,J,fun _ sg _ _=>ac J (aC (D J))⟩,
    ⟨⟨[⟨59,fun _=>Z (M b 0),some 2⟩],_,0,0,J,⟨(fun _=>J),aM⟩,J,J,J,J,J,fun _ sg _ _=>ac J (oZ 17 gk J J J)⟩,
    ⟨⟨[⟨60,fun _=>Z (M b 17),some 3⟩],_,0,0,J,⟨(fun _=>J),aM⟩,J,J,J,J,J,nO (fun sg=>ac J (nD dc (eI lS) (.head _) J (D J)))⟩,
    ⟨⟨[⟨0,fun _=>Z (M b 0),none⟩],_,0,0,J,⟨(fun _=>J),aM⟩,J,J,J,J,J,fun _ sg _ _=>ac J (mn J)⟩,
    ⟨⟨[⟨62,fun _=>Z (M b 0),some 5⟩],_,0,0,J,⟨(fun _=>J),aM⟩,J,J,J,J,J,fun _ sg _ _=>ac J (aC (D J))⟩,
    ⟨⟨[⟨63,fun _=>Z (M b 0),some 6⟩],_,0,0,J,⟨(fun _=>J),aM⟩,J,J,J,J,J,fun _ sg _ _=>ac J (oZ 15 jO J J J)⟩,
    ⟨⟨[⟨64,fun _=>Z (M b 15),some 7⟩],_,0,0,J,⟨(fun _=>J),aM⟩,J,J,J,J,J,nO (fun sg=>ac J (aE (r:=rH cn [(1,av l1 c ob.kinds.length),(2,av l2 c1 ob.open_.length)]) (x:=cG ob (av l3 c2 ob.result.length)) dc J J (eI kT) (.head _) (D J)))⟩,
    ⟨⟨[⟨6,fun _=>tD bP e,none⟩],_,0,0,J,⟨(fun _=>J),aM⟩,J,J,J,J,J,fun _ sg _ _=>ac J (mn J)⟩,
    ⟨⟨[⟨65,fun _=>tD zK ob.a_,some 8⟩,⟨66,fun _=>tD bP e,some 9⟩],_,0,0,J,⟨(fun _=>J),(fun _=>J),aM⟩,J,J,J,J,J,fun _ sg _ _=>ac J (N1 fD b9 J J J q_e2)⟩,
    ⟨⟨[⟨67,fun _=>dk bP e2,some 10⟩],_,0,0,J,⟨(fun _=>J),aM⟩,J,J,J,J,J,fun _ sg _ _=>ac J (Eb b9 J J)⟩,
    ⟨⟨[⟨68,fun _=>tD bP e2,some 11⟩],_,0,0,J,⟨(fun _=>J),aM⟩,J,J,J,J,J,fun _ sg _ _=>ac J (ba (r:=bP) (ys:=[e2]) (xs:=[.tmp 68]) fD b9 J J J J J ⟨(D J),aM⟩)⟩,
    ⟨⟨[⟨61,fun _=>Z (av l3 c2 ob.result.length),some 4⟩,⟨69,fun _=>tD zK ([e2]),some 12⟩],_,J,⟨(fun _=>J),(fun _=>J),aM⟩,J,J,J,fun sg=>bY J (EffOK.fr3 (uQ b9 J J J J fD J (D J) (D J) q_l9))⟩,
    aM⟩⟩⟩⟩⟩⟩⟩⟩⟩⟩⟩⟩⟩⟩ (fun sg=>?_)
   refine(show RG _ _ _ _ [_,_,_,_] _ from ?_);refine s (aC (D J))<|aW 17 gk J<|cN<|lr dc J (tI (hs' :=[(1,av l1 c ob.kinds.length),(2,av l2 c1 ob.open_.length)]) (iY _ _ _) ⟨.inr ⟨J,J⟩,.inr ⟨J,J⟩,aM⟩ J) J (D J) (KX (D J)) ?_;refine(show RG _ _ _ _ [_,_,_,_] _ from ?_);refine aX<|d6 V hN J<|ah<|aS<|aS<|aS ?_;exact bj (aV (ih (i+1) ({ob with result:=l9}:al) l1 c l2 c1 ((sg 13).h 0).1 ((sg 13).h 0).2 ⟨dZ V,h⟩) (bp J))

def Zj(b:Nat)(ix:OI) l{R}(h:eC l=some R):bk aY 167 [Z (M b 0)] (eN b l ix) (fun _:OI=>gR R.1) (fun j=>Ym b R.2 j):=by
 refine bk.of Tryz.func167 J J J fun w0 S0=>?_;refine(show CG _ _ _ [Q (rH bu [(1,av (ix.h 0).1 (ix.h 0).2 l.kinds.length),(2,av (ix.h 1).1 (ix.h 1).2 l.open_.length)]) 168 b l,tip pJ 69 (ix.h 0).1 (ix.h 0).2 l.kinds,dr bP 3 (ix.h 1).1 (ix.h 1).2 l.open_] _ from ?_);refine bc<|bz<|br<|aB J<|s (aC (D J))<|aW 3 ie J<|s (aE (r:=rH bu [(1,av (ix.h 0).1 (ix.h 0).2 l.kinds.length),(2,av (ix.h 1).1 (ix.h 1).2 l.open_.length)]) (x:=l) gB J J (eI fT) (.head _) (D J))<|bv gB k9 J fun b1=>bw gB aw J<|be 3 J<|br<|bc<|bG qj iU dc J<|cr fD J<|s (hX (D J) hI)<|aR J<|ai J (ci nT gx J J) ?_;refine ai J (ce xh J J)<|ai J (mf qG J)<|ai J (fun K=>hX (bM J K) hI)<|de J<|aR J<|ai J (ci qj iU J J)<|ai J (ce dc J J)<|ai J (mf fD J)<|ai J (ci nT gx J J)<|ai J (ce xh J J)<|ai J (mf qG J)<|ai J (fun K=>fY (bM J K) (bM J K))<|ai J (fun K=>gm (bM J K) hI)<|de J<|a8 J<|aB J<|s (aC (D J))<|aW 17 gk J<|cU false bP 3<|cN ?_;refine lr dc J (tI (hs' :=[(1,av (ix.h 0).1 (ix.h 0).2 l.kinds.length),(2,av (ix.h 1).1 (ix.h 1).2 l.open_.length)]) (lL _ _) ⟨.inr ⟨J,J⟩,.inr ⟨J,J⟩,aM⟩ J) J (D J) (KX (show aJ _ _ _ (Z HV)from xj)) ?_;refine(show RG _ _ _ _ [_,_,_,_] _ from ?_);refine br<|bm<|bG qj iU dc J<|cr fD J<|s (bR hI)<|br<|aA<|bt (k:=40) J fun hN=>bN<|gN<|hE<|hE<|hE ?_;refine aV (vR (tV:=fun ls i ob l1 c l2 c1 l3 c2=>(l.n.Keys.drop i=ls)/\dB l ls ob=some R) (Of:=fun _ i ob l1 c l2 c1 l3 c2=>[Q (rH cn [(1,av l1 c ob.kinds.length),(2,av l2 c1 ob.open_.length)]) 168 b (cG ob (av l3 c2 ob.result.length)),tip pJ 69 l1 c ob.kinds,dr bP 3 l2 c1 ob.open_,dr bP 3 l3 c2 ob.result]) (Gf:=fun _ i ob l1 c l2 c1 l3 c2=>[(0,Z (M b 0)),(3,dk bl l.n),(4,gR (((decide ((l.n.Keys.length:Int)<=(3:Int)))&&(decide ((l.n.Aggs.length:Int)<=(12:Int))))&&(decide ((0:Int)<(IntKind.i64.wrap ((l.n.Keys.length:Int)+(l.n.Aggs.length:Int))))))),(40,pF l.n.Keys),(41,nL l.n.Keys),(42,bB (i:Int))]) (fun i ob l1 c l2 c1 l3 c2 h=>?_) (fun e tl ih i ob l1 c l2 c1 l3 c2 h=>?_) l.n.Keys 0 ({l with result:=rm}:al) (ix.h 0).1 (ix.h 0).2 (ix.h 1).1 (ix.h 1).2 none 0 ⟨J,h⟩) (bp J)
 ·obtain⟨V,h⟩:=h
  refine fv V J<|aG<|bm<|bG nT gx xh J<|cr qG J<|s (bR hI)<|br<|aA<|bt (k:=75) J fun hN1=>?_;refine bN ?_;refine aV (BR (tV:=fun ls1 i1 ok ob1 l4 c3 l5 c4 l6 c5=>(l.n.Aggs.drop i1=ls1)/\cA ls1 ok ob1=some R) (Of:=fun _ i1 ok ob1 l4 c3 l5 c4 l6 c5=>[Q (rH cn [(1,av l4 c3 ob1.kinds.length),(2,av l5 c4 ob1.open_.length)]) 168 b (cG ob1 (av l6 c5 ob1.result.length)),tip pJ 69 l4 c3 ob1.kinds,dr bP 3 l5 c4 ob1.open_,dr bP 3 l6 c5 ob1.result]) (Gf:=fun _ i1 ok ob1 l4 c3 l5 c4 l6 c5=>[(0,Z (M b 0)),(4,gR ok),(75,eg (fN) l.n.Aggs),(76,nL l.n.Aggs),(77,bB (i1:Int))]) (fun i1 ok ob1 l4 c3 l5 c4 l6 c5 h=>?_) (fun e1 tl1 ih1 i1 ok ob1 l4 c3 l5 c4 l6 c5 h=>?_) l.n.Aggs 0 (((decide ((l.n.Keys.length:Int)<=(3:Int)))&&(decide ((l.n.Aggs.length:Int)<=(12:Int))))&&(decide ((0:Int)<(IntKind.i64.wrap ((l.n.Keys.length:Int)+(l.n.Aggs.length:Int)))))) ob l1 c l2 c1 l3 c2 ⟨J,h⟩) (bp J)
  ·obtain⟨hx1,h⟩:=h
   exact fv hx1 J<|aG<|aB J<|bq J<|aS<|aS<|aS<|aS<|so h▸bF J (rf [(l4,c3),(l5,c4),(l6,c5)]) J J (fun _ _ h=>h)
  ·obtain⟨hx1,h⟩:=h
   refine ft hx1 J<|aU<|aA<|bc<|fV qG kR J (eK hx1)<|bv kR u0 J fun b2=>bw kR aw J<|be 8 J<|br<|bc<|cO ?_;refine br ?_;refine HM (tV:=fun ok1 k=>eO (cA tl1) ob1 ok1 k=some R) (Of:=fun ok1 k=>[Q (rH cn [(1,av l4 c3 ob1.kinds.length),(2,av l5 c4 ob1.open_.length)]) 168 b (cG ob1 (av l6 c5 ob1.result.length)),tip pJ 69 l4 c3 ob1.kinds,dr bP 3 l5 c4 ob1.open_,dr bP 3 l6 c5 ob1.result]) (Gf:=fun ok1 k=>[(0,Z (M b 0)),(4,gR ok1),(9,bB k),(75,eg (fN) l.n.Aggs),(76,nL l.n.Aggs),(77,bB (i1:Int))]) (fun ok1 k h=>?_) (fun hg=>?_)
   ·skip
    refine ax<|aR J<|aR J<|s (aC (D J))<|aW 17 gk J<|s (nD dc (eI lS) (.head _) J (D J))<|aR J<|s (ba (r:=bP) (ys:=[k]) (xs:=[.tmp 139]) fD b9 J J J J J ⟨(D J),aM⟩)<|kZ<|bL h fun l7 q_l7 h=>cY b9 J J J J fD J J (D J) (D J) q_l7 fun l8 c6=>s (aC (D J))<|aW 17 gk J<|cN<|lr dc J (tI (hs' :=[(1,av l4 c3 ob1.kinds.length),(2,av l5 c4 ob1.open_.length)]) (iY _ _ _) ⟨.inr ⟨J,J⟩,.inr ⟨J,J⟩,aM⟩ J) J (D J) (KX (D J)) ?_;refine(show RG _ _ _ _ [_,_,_,_] _ from ?_);refine aX<|d6 hx1 hN1 J<|ah<|aS<|aS<|aS ?_;exact bj (aV (ih1 (i1+1) ok1 ({ob1 with result:=l7}:al) l4 c3 l5 c4 l8 c6 ⟨dZ hx1,h⟩) (bp J))
   ·skip
    refine bc<|bG px mR b9 J<|bU J<|c0 h J (fun h=>?_) (fun h=>?_)
    ·refine ax<|aR J<|aR J<|ai J (ci s5 q0 J J)<|ai J (fun K=>gK rF J kY J (bM J K))<|ai J (ce B2 J J)<|ai J (mf sK J)<|ai J (mD J)<|de J<|ia J<|aX ?_;exact bZ (hg (ok&&((e1.Arg.Nodes.length:Int)==(0:Int))) (2:Int) h) (bp J)
    ·refine aU<|bL h fun r q_r h=>?_
     refine lx (ts:=[_,_,_,_,_,_,_,_,_,_,_,_]) mixed J J
      ⟨LZ 8 J J (xm s5 q0 J J),
      ⟨vo 0 lc J J,
      ⟨iH J J,
      ⟨gE 95 2 J J (aC (D J)),
      ⟨gE 96 3 J J (oZ 15 jO J J J),
      ⟨gE 97 4 J J (aE (r:=rH cn [(1,av l4 c3 ob1.kinds.length),(2,av l5 c4 ob1.open_.length)]) (x:=cG ob1 (av l6 c5 ob1.result.length)) dc J J (eI kT) (.head _) (D J)),
      ⟨kV 94 1 98 5 J J J (dz Pb (DN _ _ q_r) ⟨(D J),(D J),aM⟩),
      ⟨gE 99 6 J J (mn J),
      ⟨gE 92 7 J J (LY J J),
      ⟨gE 92 7 J J (LY J J),
      ⟨gE 100 8 J J (LS J),
      ⟨gE 101 9 J J (LS J),
      aM⟩⟩⟩⟩⟩⟩⟩⟩⟩⟩⟩⟩ ?_
     refine aG<|aB J<|aR J<|ai J (dy J)<|ai J (mD J)<|de J<|aR J<|ai J (ci px mR J J)<|ai J (ce b9 J J)<|ai J (fun K=>gm (bM J K) hI)<|de J<|aR J<|ai J (ci px mR J J)<|ai J (ce b9 J J)<|ai J (fun K=>hX (bM J K) hI)<|de J<|a8 J<|bc<|sf px mR J ?_;refine fL b9 J<|br<|aA<|bc<|bU J<|a8 J<|jE h J (fun h=>?_) (fun h=>?_)
     ·refine ax<|aR J<|aR J<|ai J (dy J)<|ai J (mD J)<|ai J (ut J)<|dL J J J J (fun K=>mn J)<|dL J J J J (fun K=>eh (bM J K) hI)<|ai J (fun K=>nC (bM J K) (fun H=>(bM J (Au K (zb H)))))<|de J<|ia J<|aX<|aF ?_;exact bZ (hg ((((ok&&(r.2==(0:Int)))&&(decide ((1:Int)<e1.Tag)))&&(decide (e1.Tag<=(5:Int))))&&((r.1==(2:Int))||(r.1==(0:Int)))) (2:Int) h) (bp J)
     ·refine i0 (tV:=fun x=>ii (cA tl1) e1 ok ob1 r x=some R) (Of:=fun x=>[Q (rH cn [(1,av l4 c3 ob1.kinds.length),(2,av l5 c4 ob1.open_.length)]) 168 b (cG ob1 (av l6 c5 ob1.result.length)),tip pJ 69 l4 c3 ob1.kinds,dr bP 3 l5 c4 ob1.open_,dr bP 3 l6 c5 ob1.result]) (Gf:=fun x=>[(0,Z (M b 0)),(4,gR (((ok&&(r.2==(0:Int)))&&(decide ((1:Int)<e1.Tag)))&&(decide (e1.Tag<=(5:Int))))),(9,bB 2),(10,bB r.1),(75,eg (fN) l.n.Aggs),(76,nL l.n.Aggs),(77,bB (i1:Int)),(130,gR x)]) (fun x h=>?_) (fun K1=>?_)
      ·skip
       refine jE h J (fun h=>?_) (fun h=>?_)
       ·refine ax<|aR J<|ia J<|aX<|aF ?_;exact bZ (hg (((ok&&(r.2==(0:Int)))&&(decide ((1:Int)<e1.Tag)))&&(decide (e1.Tag<=(5:Int)))) r.1 h) (bp J)
       ·refine bE<|aF ?_;exact bZ (hg (((ok&&(r.2==(0:Int)))&&(decide ((1:Int)<e1.Tag)))&&(decide (e1.Tag<=(5:Int)))) (2:Int) h) (bp J)
      ·skip
       refine bc<|bU J<|a8 J<|jE h J (fun h=>?_) (fun h=>?_)
       ·refine bE ?_;exact bZ (K1 (e1.Tag==(4:Int)) h) (bp J)
       ·refine ax<|bU J<|ia J<|aX ?_;exact bZ (K1 (e1.Tag==(5:Int)) h) (bp J)
 ·obtain⟨V,h⟩:=h
  refine ft V J<|aU<|aA<|bc<|fV fD b9 J (eK V)<|a8 J<|bm<|aR J<|s (jd (D J) hI) ?_;refine aR J<|bD J (dy J)<|bD J (dy J)<|bD J (fun K=>aC (bM J K))<|bD J (fun K=>bV (n:=15) jO J (bM J K) J)<|bD J (fun K=>aE (r:=rH cn [(1,av l1 c ob.kinds.length),(2,av l2 c1 ob.open_.length)]) (x:=cG ob (av l3 c2 ob.result.length)) dc J J (eI kT) (.head _) (bM J K))<|bD J (mf fD J)<|bD J (fun K=>iN (bM J K) (bM J K))<|j5 J<|c0 h J (fun h=>?_) (fun h=>?_)
  ·exact bc<|bz<|bQ<|au<|eu<|au<|eu<|aS<|aS<|aS<|aS<|so h▸bF J (rf [(l1,c),(l2,c1),(l3,c2)]) J J (fun _ _ h=>h)
  ·refine jf<|bL h fun e2 q_e2 h=>bL h fun l9 q_l9 h=>?_
   refine iX 14 [tc (Z (M b 0)),tc (Z (M b 0)),tc (Z (M b 0)),tc (Z (M b 17)),tc (sa l3 c2 ob.result),tc (Z (M b 0)),tc (Z (M b 0)),tc (Z (M b 15)),tc (pF ob.a_),tc (bB e),tc (dk bP e2),tc (bB e2),tc (pF ([e2])),([13],fun ae=>Z (av ((ae.getD 0 jQ).h 0).1 ((ae.getD 0 jQ).h 0).2 l9.length))] [false,false,false,false,false,false,false,false,false,false,false,false,false,true] [fun _=>[Q (rH cn [(1,av l1 c ob.kinds.length),(2,av l2 c1 ob.open_.length)]) 168 b (cG ob (av l3 c2 ob.result.length)),tip pJ 69 l1 c ob.kinds,dr bP 3 l2 c1 ob.open_,dr bP 3 l3 c2 ob.result],fun sg=>[dr bP 3 ((sg 13).h 0).1 ((sg 13).h 0).2 l9,Q (rH cn [(1,av l1 c ob.kinds.length),(2,av l2 c1 ob.open_.length)]) 168 b (cG ob (av l3 c2 ob.result.length)),tip pJ 69 l1 c ob.kinds,dr bP 3 l2 c1 ob.open_]] J mixed J J J J J
    ⟨⟨[⟨0,fun _=>Z (M b 0),none⟩],_,0,1,J,⟨(fun _=>J),aM⟩,J,J,J,J,J,fun _ sg _ _=>ac J (mn J)⟩,
    ⟨⟨[⟨0,fun _=>Z (M b 0),none⟩],_,0,0,J,⟨(fun _=>J),aM⟩,J,J,J,J,J,fun _ sg _ _=>ac J (mn J)⟩,
    ⟨⟨[⟨58,fun _=>Z (M b 0),some 1⟩],_,0,0,J,⟨(fun _=>J),aM⟩,J,J,J,J,J,fun _ sg _ _=>ac J (aC (D J))⟩,
    ⟨⟨[⟨59,fun _=>Z (M b 0),some 2⟩],_,0,0,J,⟨(fun _=>J),aM⟩,J,J,J,J,J,fun _ sg _ _=>ac J (oZ 17 gk J J J)⟩,
    ⟨⟨[⟨60,fun _=>Z (M b 17),some 3⟩],_,0,0,J,⟨(fun _=>J),aM⟩,J,J,J,J,J,nO (fun sg=>ac J (nD dc (eI lS) (.head _) J (D J)))⟩,
    ⟨⟨[⟨0,fun _=>Z (M b 0),none⟩],_,0,0,J,⟨(fun _=>J),aM⟩,J,J,J,J,J,fun _ sg _ _=>ac J (mn J)⟩,
    ⟨⟨[⟨62,fun _=>Z (M b 0),some 5⟩],_,0,0,J,⟨(fun _=>J),aM⟩,J,J,J,J,J,fun _ sg _ _=>ac J (aC (D J))⟩,
    ⟨⟨[⟨63,fun _=>Z (M b 0),some 6⟩],_,0,0,J,⟨(fun _=>J),aM⟩,J,J,J,J,J,fun _ sg _ _=>ac J (oZ 15 jO J J J)⟩,
    ⟨⟨[⟨64,fun _=>Z (M b 15),some 7⟩],_,0,0,J,⟨(fun _=>J),aM⟩,J,J,J,J,J,nO (fun sg=>ac J (aE (r:=rH cn [(1,av l1 c ob.kinds.length),(2,av l2 c1 ob.open_.length)]) (x:=cG ob (av l3 c2 ob.result.length)) dc J J (eI kT) (.head _) (D J)))⟩,
    ⟨⟨[⟨6,fun _=>tD bP e,none⟩],_,0,0,J,⟨(fun _=>J),aM⟩,J,J,J,J,J,fun _ sg _ _=>ac J (mn J)⟩,
    ⟨⟨[⟨65,fun _=>tD zK ob.a_,some 8⟩,⟨66,fun _=>tD bP e,some 9⟩],_,0,0,J,⟨(fun _=>J),(fun _=>J),aM⟩,J,J,J,J,J,fun _ sg _ _=>ac J (N1 fD b9 J J J q_e2)⟩,
    ⟨⟨[⟨67,fun _=>dk bP e2,some 10⟩],_,0,0,J,⟨(fun _=>J),aM⟩,J,J,J,J,J,fun _ sg _ _=>ac J (Eb b9 J J)⟩,
    ⟨⟨[⟨68,fun _=>tD bP e2,some 11⟩],_,0,0,J,⟨(fun _=>J),aM⟩,J,J,J,J,J,fun _ sg _ _=>ac J (ba (r:=bP) (ys:=[e2]) (xs:=[.tmp 68]) fD b9 J J J J J ⟨(D J),aM⟩)⟩,
    ⟨⟨[⟨61,fun _=>Z (av l3 c2 ob.result.length),some 4⟩,⟨69,fun _=>tD zK ([e2]),some 12⟩],_,J,⟨(fun _=>J),(fun _=>J),aM⟩,J,J,J,fun sg=>bY J (EffOK.fr3 (uQ b9 J J J J fD J (D J) (D J) q_l9))⟩,
    aM⟩⟩⟩⟩⟩⟩⟩⟩⟩⟩⟩⟩⟩⟩ (fun sg=>?_)
   refine(show RG _ _ _ _ [_,_,_,_] _ from ?_);refine s (aC (D J))<|aW 17 gk J<|cN<|lr dc J (tI (hs' :=[(1,av l1 c ob.kinds.length),(2,av l2 c1 ob.open_.length)]) (iY _ _ _) ⟨.inr ⟨J,J⟩,.inr ⟨J,J⟩,aM⟩ J) J (D J) (KX (D J)) ?_;refine(show RG _ _ _ _ [_,_,_,_] _ from ?_);refine aX<|d6 V hN J<|ah<|aS<|aS<|aS ?_;exact bj (aV (ih (i+1) ({ob with result:=l9}:al) l1 c l2 c1 ((sg 13).h 0).1 ((sg 13).h 0).2 ⟨dZ V,h⟩) (bp J))

def Zi(b:Nat)(ix:OI) l{R}(h:d8 l=some R):bk aY 168 [Z (M b 0)] (eN b l ix) (fun _:OI=>gR R.1) (fun j=>eN b R.2 j):=by
 refine bk.of Tryz.func168 J J J fun w0 S0=>?_;refine(show CG _ _ _ [Q (rH bu [(1,av (ix.h 0).1 (ix.h 0).2 l.kinds.length),(2,av (ix.h 1).1 (ix.h 1).2 l.open_.length)]) 168 b l,tip pJ 69 (ix.h 0).1 (ix.h 0).2 l.kinds,dr bP 3 (ix.h 1).1 (ix.h 1).2 l.open_] _ from ?_);refine bc<|bz<|br<|aB J<|bL h fun r q_r h=>aL (EffOK.fr2 (EffOK.fr2 (EffOK.fr2 (an (xs:=[.tmp 6]) (ts:=[Z (M b 0)]) (eN b l ix) _ J Xs (Zj b ix l q_r) ⟨(D J),aM⟩ (fun _=>J))))) J fun i=>?_;refine(show RG _ _ _ _ [_,_,_,_] ((7,gR r.1)::_)from ?_);refine a8 J<|bm<|aR J<|s (gO (D J))<|c0 h J (fun h=>?_) (fun h=>?_)
 ·exact bc<|bz<|bQ<|au<|aS<|du<|ah<|vi (r' :=rH bu [(1,av (i.h 0).1 (i.h 0).2 r.2.kinds.length),(2,av (i.h 1).1 (i.h 1).2 r.2.open_.length)]) (x' :=r.2) (fun _ _ _ ho h=>Up h (fun h=>iV (rX ho (.head _)) h))<|ah<|aZ<|aH<|aH<|aH<|so h▸bF J i J J (fun _ _ h=>h)
 ·refine jf<|bm<|aR J<|s (aC (D J))<|aW 3 ie J<|aW 11 nT J<|s (aE (r:=rH cn [(1,av (i.h 0).1 (i.h 0).2 r.2.kinds.length),(2,av (i.h 1).1 (i.h 1).2 r.2.open_.length)]) (x:=cG r.2 (av (i.h 2).1 (i.h 2).2 r.2.result.length)) xh J J (eI (er yc gx)) (.head _) (D J))<|cr qG J<|s (bR hI)<|br<|aA<|bt (k:=14) J fun hN=>bN ?_;refine aV (vR (tV:=fun ls i1 ob l1 c l2 c1 l3 c2=>(r.2.n.Aggs.drop i1=ls)/\fy ls i1 ob=some R) (Of:=fun _ i1 ob l1 c l2 c1 l3 c2=>[Q (rH cn [(1,av l1 c ob.kinds.length),(2,av l2 c1 ob.open_.length)]) 168 b (cG ob (av l3 c2 ob.result.length)),tip pJ 69 l1 c ob.kinds,dr bP 3 l2 c1 ob.open_,dr bP 3 l3 c2 ob.result]) (Gf:=fun _ i1 ob l1 c l2 c1 l3 c2=>[(0,Z (M b 0)),(14,eg (fN) r.2.n.Aggs),(15,nL r.2.n.Aggs),(16,bB (i1:Int))]) (fun i1 ob l1 c l2 c1 l3 c2 h=>?_) (fun e tl ih i1 ob l1 c l2 c1 l3 c2 h=>?_) r.2.n.Aggs 0 r.2 (i.h 0).1 (i.h 0).2 (i.h 1).1 (i.h 1).2 (i.h 2).1 (i.h 2).2 ⟨J,h⟩) (bp J)
  ·obtain⟨V,h⟩:=h
   refine fv V J<|aG<|bc<|bz<|bQ<|aS<|du<|ah<|vi (r' :=rH bu [(1,av l1 c ob.kinds.length),(2,av l2 c1 ob.open_.length)]) (x' :=ob) (fun _ _ _ ho h=>Up h (fun h=>iV (rX ho (.head _)) h))<|ah ?_;exact aZ<|aH<|aH<|aH<|so h▸bF J (rf [(l1,c),(l2,c1)]) J J (fun _ _ h=>h)
  ·obtain⟨V,h⟩:=h
   refine ft V J<|aU<|aA<|aB J<|fV qG kR J (eK V)<|bv kR u0 J fun b1=>ia J<|bw kR aw J<|be 5 J<|br<|aU ?_;refine ax<|bG px mR b9 J<|bU J<|c0 h J (fun h=>?_) (fun h=>?_)
   ·refine bL h fun e1 q_e1 h=>?_
    refine sx 13 (ts:=[Z (M b 0),Z (M b 0),Z (M b 17),sa l3 c2 ob.result,Z (M b 0),Z (M b 0),Z (M b 3),Z (M b 10),pF ob.n.Keys,nL ob.n.Keys,bB (i1:Int),bB (IntKind.i64.wrap ((ob.n.Keys.length:Int)+(i1:Int))),Z (Ap l3 ((IntKind.i64.wrap ((ob.n.Keys.length:Int)+(i1:Int))).toNat*1+0))]) mixed J J J
     ⟨iH J J,
     ⟨gE 24 0 J J (aC (D J)),
     ⟨gE 25 1 J J (oZ 17 gk J J J),
     ⟨gE 26 2 J J (nD dc (eI lS) (.head _) J (D J)),
     ⟨iH J J,
     ⟨gE 28 4 J J (aC (D J)),
     ⟨gE 29 5 J J (oZ 3 ie J J J),
     ⟨gE 30 6 J J (oZ 10 qj J J J),
     ⟨gE 31 7 J J (aE (r:=rH cn [(1,av l1 c ob.kinds.length),(2,av l2 c1 ob.open_.length)]) (x:=cG ob (av l3 c2 ob.result.length)) dc J J (eI (er yc iU)) (.head _) (D J)),
     ⟨gE 32 8 J J (XD fD J),
     ⟨iH J J,
     ⟨kV 33 9 34 10 J J J (fY (D J) (D J)),
     ⟨kV 27 3 35 11 J J J (gA fD b9 (.tail _ (.tail _ (.tail _ (.head _)))) (D J) (D J) q_e1),
     aM⟩⟩⟩⟩⟩⟩⟩⟩⟩⟩⟩⟩⟩ ?_
    refine kZ<|bL h fun st q_st h=>yZ b9 J aw J q_e1 (so q_st) (D J) hI<|pA (sS (so q_st)) 27 J<|FD (O' :=[dr bP 3 l3 c2 st,Q (rH cn [(1,av l1 c ob.kinds.length),(2,av l2 c1 ob.open_.length)]) 168 b (cG ob (av l3 c2 st.length)),tip pJ 69 l1 c ob.kinds,dr bP 3 l2 c1 ob.open_]) (by rw [sS (so q_st)])<|aX<|d6 V hN J<|aS<|aS<|aS ?_;exact bj (aV (ih (i1+1) ({ob with result:=st}:al) l1 c l2 c1 l3 c2 ⟨dZ V,h⟩) (bp J))
   ·refine bE<|d6 V hN J ?_;exact bj (aV (ih (i1+1) ob l1 c l2 c1 l3 c2 ⟨dZ V,h⟩) (bp J))

end Go.Proofs.YtdohlidddcgfjaaGreat

