/- bS of this claim: P5. -/
import Derived.Test.YtdohlidddcgfjaaGreatFfT
import Derived.Test.YtdohlidddcgfjaaGreatFfP4
set_option linter.all false
namespace Go.Proofs.YtdohlidddcgfjaaGreat
open Go
set_option maxRecDepth 100000

def Zh(b:Nat)(ix:OI) l{R}(h:dF l=some R):bk aY 169 [Z (M b 0)] (eN b l ix) (fun _:OI=>gR R.1) (fun j=>eN b R.2 j):=by
 refine bk.of Tryz.func169 J J J fun w0 S0=>?_;refine(show CG _ _ _ [Q (rH bu [(1,av (ix.h 0).1 (ix.h 0).2 l.kinds.length),(2,av (ix.h 1).1 (ix.h 1).2 l.open_.length)]) 168 b l,tip pJ 69 (ix.h 0).1 (ix.h 0).2 l.kinds,dr bP 3 (ix.h 1).1 (ix.h 1).2 l.open_] _ from ?_);refine bc<|bz<|br<|aB J<|s (aC (D J))<|aW 3 ie J<|s (aE (r:=rH bu [(1,av (ix.h 0).1 (ix.h 0).2 l.kinds.length),(2,av (ix.h 1).1 (ix.h 1).2 l.open_.length)]) (x:=l) gB J J (eI fT) (.head _) (D J))<|bv gB k9 J fun b1=>bw gB aw J<|be 3 J<|br<|bc<|bG qj iU dc J<|cr fD J<|a8 J ?_;refine aU<|bL h fun e q_e h=>?_
 refine lx (ts:=[_,_,_,_,_,_,_,_,_,_,_,_,_,_,_,_,_,_,_,_,_,_,_,_,_,_,_,_,_,_,_,_,_,_]) mixed J J
  ⟨iH J J,
  ⟨gE 18 0 J J (aC (D J)),
  ⟨gE 19 1 J J (oZ 0 IV J J J),
  ⟨gE 20 2 J J (aE (r:=rH bu [(1,av (ix.h 0).1 (ix.h 0).2 l.kinds.length),(2,av (ix.h 1).1 (ix.h 1).2 l.open_.length)]) (x:=l) FY J J (eI Cq) (.head _) (D J)),
  ⟨LZ 3 J J (xm sD ww J J),
  ⟨vo 4 b9 J J,
  ⟨kV 21 3 23 5 J J J (N1 uj gB J J J q_e),
  ⟨gE 24 6 J J (xm mb eQ J J),
  ⟨vo 7 b9 J J,
  ⟨gE 26 8 J J (zei J),
  ⟨gE 27 9 J J (mn J),
  ⟨FX 4 28 10 J J J (oW J J J J (fun K=>mn J)),
  ⟨u3 29 11 28 10 J J J (oW J J J J (fun K=>hX (bM J K) hI)),
  ⟨kV 28 10 30 12 J J J (zpa J J),
  ⟨gE 31 13 J J (mn J),
  ⟨FX 3 32 14 J J J (oW J J J J (fun K=>xm nT gx J J)),
  ⟨u3 33 15 32 14 J J J (oW J J J J (fun K=>kK xh J J (bM J K))),
  ⟨u3 34 16 32 14 J J J (oW J J J J (fun K=>mO qG (bM J K))),
  ⟨u3 35 17 32 14 J J J (oW J J J J (fun K=>hX (bM J K) hI)),
  ⟨kV 32 14 36 18 J J J (zpa J J),
  ⟨gE 37 19 J J (mn J),
  ⟨FX 4 38 20 J J J (oW J J J J (fun K=>mn J)),
  ⟨FX 3 38 20 J J J (oW J J J J (fun K=>xm nT gx J J)),
  ⟨u3 40 22 38 20 J J J (oW J J J J (fun K=>kK xh J J (bM J K))),
  ⟨u3 41 23 38 20 J J J (oW J J J J (fun K=>mO qG (bM J K))),
  ⟨Rz 39 21 42 24 38 20 J J J J (oW J J J J (fun K=>fY (bM J K) (bM J K))),
  ⟨FX 0 38 20 J J J (oW J J J J (fun K=>mn J)),
  ⟨u3 44 26 38 20 J J J (oW J J J J (fun K=>aC (bM J K))),
  ⟨u3 45 27 38 20 J J J (oW J J J J (fun K=>bV (n:=15) jO J (bM J K) J)),
  ⟨u3 46 28 38 20 J J J (oW J J J J (fun K=>aE (r:=rH bu [(1,av (ix.h 0).1 (ix.h 0).2 l.kinds.length),(2,av (ix.h 1).1 (ix.h 1).2 l.open_.length)]) (x:=l) dc J J (eI pt) (.head _) (bM J K))),
  ⟨u3 47 29 38 20 J J J (oW J J J J (fun K=>mO fD (bM J K))),
  ⟨Rz 43 25 48 30 38 20 J J J J (oW J J J J (fun K=>eh (bM J K) (bM J K))),
  ⟨kV 38 20 49 31 J J J (zpa J J),
  ⟨gE 50 32 J J (LS J),
  aM⟩⟩⟩⟩⟩⟩⟩⟩⟩⟩⟩⟩⟩⟩⟩⟩⟩⟩⟩⟩⟩⟩⟩⟩⟩⟩⟩⟩⟩⟩⟩⟩⟩⟩ ?_
 refine aG<|bm<|aR J<|s (gO (D J))<|c0 h J (fun h=>?_) (fun h=>?_)
 ·exact bc<|bz<|bQ<|au<|aH<|aH<|aH<|so h▸bF J ix J J (fun _ _ h=>h)
 ·refine jf<|aB J<|aR J<|s (aC (D J))<|aW 15 jO J<|s (aE (r:=rH bu [(1,av (ix.h 0).1 (ix.h 0).2 l.kinds.length),(2,av (ix.h 1).1 (ix.h 1).2 l.open_.length)]) (x:=l) dc J J (eI pt) (.head _) (D J))<|tE h T0 (Lo _) (ez J) fun r h l1 c=>s (aC (D J))<|aW 17 gk J<|cN<|lr dc J (tI (hs' :=[(1,av (ix.h 0).1 (ix.h 0).2 l.kinds.length),(2,av (ix.h 1).1 (ix.h 1).2 l.open_.length)]) (lL _ _) ⟨.inr ⟨J,J⟩,.inr ⟨J,J⟩,aM⟩ J) J (D J) (KX (D J)) ?_;refine(show RG _ _ _ _ [_,_,_,_] _ from ?_);refine br<|bm<|bG qj iU dc J<|cr fD J<|s (bR hI)<|br<|aA<|bt (k:=62) J fun hN=>bN<|gN<|hE<|hE<|hE ?_;refine aV (yA (tV:=fun ls i ok=>(l.n.Keys.drop i=ls)/\ea l r ls i ok=some R) (Of:=fun _ i ok=>[Q (rH cn [(1,av (ix.h 0).1 (ix.h 0).2 l.kinds.length),(2,av (ix.h 1).1 (ix.h 1).2 l.open_.length)]) 168 b (cG l (av l1 c r.length)),tip pJ 69 (ix.h 0).1 (ix.h 0).2 l.kinds,dr bP 3 (ix.h 1).1 (ix.h 1).2 l.open_,dr bP 3 l1 c r]) (Gf:=fun _ i ok=>[(0,Z (M b 0)),(3,dk bl l.n),(4,nL l.n.Keys),(5,gR ok),(62,pF l.n.Keys),(63,nL l.n.Keys),(64,bB (i:Int))]) (fun i ok h=>?_) (fun e1 tl ih i ok h=>?_) l.n.Keys 0 ((((e.Op==(9:Int))&&(decide ((l.n.Keys.length:Int)<=(3:Int))))&&(decide ((l.n.Aggs.length:Int)<=(12:Int))))&&((IntKind.i64.wrap ((l.n.Keys.length:Int)+(l.n.Aggs.length:Int)))==(l.a_.length:Int))) ⟨J,h⟩) (bp J)
  ·obtain⟨V,h⟩:=h
   refine fv V J<|aG<|bm<|bG nT gx xh J<|cr qG J<|s (bR hI)<|br<|aA<|bt (k:=87) J fun hN1=>?_;refine bN ?_;refine aV (BR (tV:=fun ls1 i1 ok1 ob l2 c1 l3 c2 l4 c3=>(l.n.Aggs.drop i1=ls1)/\ca l ls1 i1 ok1 ob=some R) (Of:=fun _ i1 ok1 ob l2 c1 l3 c2 l4 c3=>[Q (rH cn [(1,av l2 c1 ob.kinds.length),(2,av l3 c2 ob.open_.length)]) 168 b (cG ob (av l4 c3 ob.result.length)),tip pJ 69 l2 c1 ob.kinds,dr bP 3 l3 c2 ob.open_,dr bP 3 l4 c3 ob.result]) (Gf:=fun _ i1 ok1 ob l2 c1 l3 c2 l4 c3=>[(0,Z (M b 0)),(4,nL l.n.Keys),(5,gR ok1),(87,eg (fN) l.n.Aggs),(88,nL l.n.Aggs),(89,bB (i1:Int))]) (fun i1 ok1 ob l2 c1 l3 c2 l4 c3 h=>?_) (fun e2 tl1 ih1 i1 ok1 ob l2 c1 l3 c2 l4 c3 h=>?_) l.n.Aggs 0 ok ({l with result:=r}:al) (ix.h 0).1 (ix.h 0).2 (ix.h 1).1 (ix.h 1).2 l1 c ⟨J,h⟩) (bp J)
   ·obtain⟨hx1,h⟩:=h
    refine fv hx1 J<|aG<|aB J<|bq J<|aS<|du<|ah<|vi (r' :=rH bu [(1,av l2 c1 ob.kinds.length),(2,av l3 c2 ob.open_.length)]) (x' :=ob) (fun _ _ _ ho h=>Up h (fun h=>iV (rX ho (.head _)) h)) ?_;exact ah<|aZ<|aH<|aH<|aH<|so h▸bF J (rf [(l2,c1),(l3,c2)]) J J (fun _ _ h=>h)
   ·obtain⟨hx1,h⟩:=h
    refine ft hx1 J<|aU<|aA<|aB J<|fV qG kR J (eK hx1)<|bv kR u0 J fun b2=>ia J<|bw kR aw J<|be 9 J<|br<|aU ?_;refine ax<|aR J<|s (aC (D J))<|aW 15 jO J<|s (aE (r:=rH cn [(1,av l2 c1 ob.kinds.length),(2,av l3 c2 ob.open_.length)]) (x:=cG ob (av l4 c3 ob.result.length)) dc J J (eI kT) (.head _) (D J))<|aR J<|aR J<|s (fY (D J) (D J))<|bL h fun e3 q_e3 h=>fV fD b9 J q_e3<|a8 J<|aB J<|aR J<|ai J (ci s5 q0 J J)<|ai J (fun K=>gK rF J kY J (bM J K))<|ai J (ce B2 J J)<|ai J (mf sK J)<|ai J (mD J)<|de J ?_;refine a8 J<|bc<|bG px mR b9 J<|br<|aA ?_;refine i0 (tV:=fun x=>fG l (ca l tl1) i1 e2 ok1 ob e3 x=some R) (Of:=fun x=>[Q (rH cn [(1,av l2 c1 ob.kinds.length),(2,av l3 c2 ob.open_.length)]) 168 b (cG ob (av l4 c3 ob.result.length)),tip pJ 69 l2 c1 ob.kinds,dr bP 3 l3 c2 ob.open_,dr bP 3 l4 c3 ob.result]) (Gf:=fun x=>[(0,Z (M b 0)),(4,nL l.n.Keys),(5,gR (ok1&&((e2.Arg.Nodes.length:Int)==(0:Int)))),(8,bB (i1:Int)),(10,bB e3),(87,eg (fN) l.n.Aggs),(88,nL l.n.Aggs),(89,bB (i1:Int)),(112,bB e2.Tag),(113,gR x)]) (fun x h=>?_) (fun hg=>?_)
    ·skip
     refine jE h J (fun h=>?_) (fun h=>?_)
     ·refine ax<|aR J<|aR J<|ai J (dy J)<|ai J (mD J)<|de J<|ia J<|aX<|aF<|d6 hx1 hN1 J ?_;exact bj (aV (ih1 (i1+1) ((ok1&&((e2.Arg.Nodes.length:Int)==(0:Int)))&&(e3==(2:Int))) ob l2 c1 l3 c2 l4 c3 ⟨dZ hx1,h⟩) (bp J))
     ·refine bc<|bU J<|a8 J<|jE h J (fun h=>?_) (fun h=>?_)
      ·refine aB J<|aR J<|ai J (dy J)<|ai J (mD J)<|de J<|a8 J<|ax<|aR J<|s (aC (D J))<|aW 17 gk J<|s (nD dc (eI lS) (.head _) J (D J))<|aR J<|aR J<|s (fY (D J) (D J))<|bL h fun e4 q_e4 h=>s (gA fD b9 (.tail _ (.tail _ (.tail _ (.head _)))) (D J) (D J) q_e4)<|kZ<|bL h fun st q_st h=>yZ b9 J aw J q_e4 (so q_st) (D J) hI<|pA (sS (so q_st)) 131 J ?_;refine FD (O' :=[dr bP 3 l4 c3 st,Q (rH cn [(1,av l2 c1 ob.kinds.length),(2,av l3 c2 ob.open_.length)]) 168 b (cG ob (av l4 c3 st.length)),tip pJ 69 l2 c1 ob.kinds,dr bP 3 l3 c2 ob.open_]) (by rw [sS (so q_st)])<|aX<|aF<|d6 hx1 hN1 J<|aS<|aS<|aS ?_;exact bj (aV (ih1 (i1+1) ((ok1&&((e2.Arg.Nodes.length:Int)==(0:Int)))&&(e3==(4:Int))) ({ob with result:=st}:al) l2 c1 l3 c2 l4 c3 ⟨dZ hx1,h⟩) (bp J))
      ·refine i0 (tV:=fun x1=>ij (ca l tl1) i1 e2 ok1 ob e3 x1=some R) (Of:=fun x1=>[Q (rH cn [(1,av l2 c1 ob.kinds.length),(2,av l3 c2 ob.open_.length)]) 168 b (cG ob (av l4 c3 ob.result.length)),tip pJ 69 l2 c1 ob.kinds,dr bP 3 l3 c2 ob.open_,dr bP 3 l4 c3 ob.result]) (Gf:=fun x1=>[(0,Z (M b 0)),(4,nL l.n.Keys),(5,gR (ok1&&((e2.Arg.Nodes.length:Int)==(0:Int)))),(10,bB e3),(87,eg (fN) l.n.Aggs),(88,nL l.n.Aggs),(89,bB (i1:Int)),(136,gR x1)]) (fun x1 h=>?_) (fun K1=>?_)
       ·skip
        refine jE h J (fun h=>?_) (fun h=>?_)
        ·refine ax<|aR J<|aR J<|ai J (dy J)<|ai J (CS J)<|de J<|ia J<|aX<|aF<|d6 hx1 hN1 J ?_;exact bj (aV (ih1 (i1+1) ((ok1&&((e2.Arg.Nodes.length:Int)==(0:Int)))&&(e3 !=(4:Int))) ob l2 c1 l3 c2 l4 c3 ⟨dZ hx1,h⟩) (bp J))
        ·refine ax<|bz<|aX<|aF<|d6 hx1 hN1 J ?_;exact bj (aV (ih1 (i1+1) false ob l2 c1 l3 c2 l4 c3 ⟨dZ hx1,h⟩) (bp J))
       ·skip
        refine bc<|bU J<|a8 J<|jE h J (fun h=>?_) (fun h=>?_)
        ·refine bE ?_;exact bZ (K1 (e2.Tag==(4:Int)) h) (bp J)
        ·refine ax<|bU J<|ia J<|aX ?_;exact bZ (K1 (e2.Tag==(5:Int)) h) (bp J)
    ·skip
     refine bc<|bU J<|a8 J<|jE h J (fun h=>?_) (fun h=>?_)
     ·refine bE ?_;exact bZ (hg (e2.Tag==(1:Int)) h) (bp J)
     ·refine ax<|bU J<|ia J<|aX ?_;exact bZ (hg (e2.Tag==(2:Int)) h) (bp J)
  ·obtain⟨V,h⟩:=h
   refine ft V J<|aU<|aA<|aB J<|fV fD b9 J (eK V)<|ia J<|a8 J<|ax<|aR J<|aR J ?_;refine ai J (dy J)<|ai J (dy J)<|ai J (fun K=>eh (bM J K) (bM J K))<|de J<|aR J<|bL h fun t q_t h=>ai J (dy J)<|ai J (fun K=>aC (bM J K))<|ai J (fun K=>bV (n:=15) jO J (bM J K) J)<|ai J (fun K=>aE (r:=rH cn [(1,av (ix.h 0).1 (ix.h 0).2 l.kinds.length),(2,av (ix.h 1).1 (ix.h 1).2 l.open_.length)]) (x:=cG l (av l1 c r.length)) dc J J (eI kT) (.head _) (bM J K))<|ai J (dy J) ?_
   obtain⟨e5,h1t,h0t⟩:=og q_t
   have q_e5g:=fun H=>(h1t H).1
   refine ai J (fun K=>wk fD b9 J (bM J K) (bM J K) (q_e5g K))<|ai J (ce b9 J J)<|ai J (CS J)<|s (dj (D J) (fun H=>(bM J H)) (fun H=>(h1t H).2) h0t)<|ia J<|aX<|d6 V hN J ?_;exact bj (aV (ih (i+1) t ⟨dZ V,h⟩) (bp J))

def Zg(b:Nat)(ix:OI) l{R}(h:iL l=some R):bk aY 170 [Z (M b 0)] (eN b l ix) (fun _:OI=>gR R.1) (fun j=>eN b R.2 j):=by
 refine bk.of Tryz.func170 J J J fun w0 S0=>?_;refine(show CG _ _ _ [Q (rH bu [(1,av (ix.h 0).1 (ix.h 0).2 l.kinds.length),(2,av (ix.h 1).1 (ix.h 1).2 l.open_.length)]) 168 b l,tip pJ 69 (ix.h 0).1 (ix.h 0).2 l.kinds,dr bP 3 (ix.h 1).1 (ix.h 1).2 l.open_] _ from ?_);refine bc<|bz<|br<|aB J<|s (aC (D J))<|aW 17 gk J<|cU false bP 3<|cN<|lr dc J (tI (hs' :=[(1,av (ix.h 0).1 (ix.h 0).2 l.kinds.length),(2,av (ix.h 1).1 (ix.h 1).2 l.open_.length)]) (lL _ _) ⟨.inr ⟨J,J⟩,.inr ⟨J,J⟩,aM⟩ J) J (D J) (KX (show aJ _ _ _ (Z HV)from xj)) ?_;refine(show RG _ _ _ _ [_,_,_,_] _ from ?_);refine br<|bm<|aR J<|s (aC (D J))<|aW 3 ie J<|aW 12 wx J<|s (aE (r:=rH cn [(1,av (ix.h 0).1 (ix.h 0).2 l.kinds.length),(2,av (ix.h 1).1 (ix.h 1).2 l.open_.length)]) (x:=cG l (av none 0 (rm.length))) Ii J J (eI (er yc oM)) (.head _) (D J))<|cr xr J<|s (bR hI)<|br<|aA<|bt (k:=14) J fun hN=>bN<|gN<|hE<|hE<|hE ?_;refine aV (vR (tV:=fun ls i ob l1 c l2 c1 l3 c2=>(l.n.Items.drop i=ls)/\eF ls ob=some R) (Of:=fun _ i ob l1 c l2 c1 l3 c2=>[Q (rH cn [(1,av l1 c ob.kinds.length),(2,av l2 c1 ob.open_.length)]) 168 b (cG ob (av l3 c2 ob.result.length)),tip pJ 69 l1 c ob.kinds,dr bP 3 l2 c1 ob.open_,dr bP 3 l3 c2 ob.result]) (Gf:=fun _ i ob l1 c l2 c1 l3 c2=>[(0,Z (M b 0)),(14,eg (cW) l.n.Items),(15,nL l.n.Items),(16,bB (i:Int))]) (fun i ob l1 c l2 c1 l3 c2 h=>?_) (fun e tl ih i ob l1 c l2 c1 l3 c2 h=>?_) l.n.Items 0 ({l with result:=rm}:al) (ix.h 0).1 (ix.h 0).2 (ix.h 1).1 (ix.h 1).2 none 0 ⟨J,h⟩) (bp J)
 ·obtain⟨V,h⟩:=h
  refine fv V J<|aG<|aB J<|s (aC (D J))<|aW 17 gk J<|s (nD dc (eI lS) (.head _) J (D J))<|s (jg fD (.tail _ (.tail _ (.tail _ (.head _)))) (D J))<|s (gm (D J) hI)<|a8 J ?_;exact rN<|aS<|du<|bA 45 J<|ah<|vi (r' :=rH bu [(1,av l1 c ob.kinds.length),(2,av l2 c1 ob.open_.length)]) (x' :=ob) (fun _ _ _ ho h=>Up h (fun h=>iV (rX ho (.head _)) h))<|ah<|aZ<|aH<|aH<|aH<|so h▸bF J (rf [(l1,c),(l2,c1)]) J J (fun _ _ h=>h)
 ·obtain⟨V,h⟩:=h
  refine ft V J<|aU<|aA<|bc<|fV xr lc J (eK V)<|bv lc sM J fun b1=>bw lc aw J<|be 4 J<|br<|aU<|bL h fun r q_r h=>?_
  refine lx (ts:=[_,_,_,_,_,_,_,_,_,_,_]) mixed J J
   ⟨LZ 4 J J (Eb lc J J),
   ⟨iH J J,
   ⟨gE 22 1 J J (aC (D J)),
   ⟨gE 23 2 J J (oZ 15 jO J J J),
   ⟨gE 24 3 J J (aE (r:=rH cn [(1,av l1 c ob.kinds.length),(2,av l2 c1 ob.open_.length)]) (x:=cG ob (av l3 c2 ob.result.length)) dc J J (eI kT) (.head _) (D J)),
   ⟨kV 21 0 25 4 J J J (dz Pb (DN _ _ q_r) ⟨(D J),(D J),aM⟩),
   ⟨gE 26 5 J J (mn J),
   ⟨gE 20 6 J J (LY J J),
   ⟨gE 20 6 J J (LY J J),
   ⟨gE 27 7 J J (LS J),
   ⟨gE 28 8 J J (LS J),
   aM⟩⟩⟩⟩⟩⟩⟩⟩⟩⟩⟩ ?_
  refine aG<|bm<|aR J<|nU J<|c0 h J (fun h=>?_) (fun h=>?_)
  ·exact bc<|bz<|bQ<|au<|eu<|au<|eu<|aS<|du<|ah<|vi (r' :=rH bu [(1,av l1 c ob.kinds.length),(2,av l2 c1 ob.open_.length)]) (x' :=ob) (fun _ _ _ ho h=>Up h (fun h=>iV (rX ho (.head _)) h))<|ah<|aZ<|aH<|aH<|aH<|so h▸bF J (rf [(l1,c),(l2,c1)]) J J (fun _ _ h=>h)
  ·refine jf<|ax<|aR J<|aR J<|s (aC (D J))<|aW 17 gk J<|s (nD dc (eI lS) (.head _) J (D J))<|aR J<|s (ba (r:=bP) (ys:=[r.1]) (xs:=[.tmp 36]) fD b9 J J J J J ⟨(D J),aM⟩)<|kZ<|bL h fun l4 q_l4 h=>cY b9 J J J J fD J J (D J) (D J) q_l4 fun l5 c3=>s (aC (D J))<|aW 17 gk J<|cN<|lr dc J (tI (hs' :=[(1,av l1 c ob.kinds.length),(2,av l2 c1 ob.open_.length)]) (iY _ _ _) ⟨.inr ⟨J,J⟩,.inr ⟨J,J⟩,aM⟩ J) J (D J) (KX (D J)) ?_;refine(show RG _ _ _ _ [_,_,_,_] _ from ?_);refine aX<|d6 V hN J<|ah<|aS<|aS<|aS ?_;exact bj (aV (ih (i+1) ({ob with result:=l4}:al) l1 c l2 c1 l5 c3 ⟨dZ V,h⟩) (bp J))

def Zf(b:Nat)(ix:OI) l{R}(h:lD l=some R):bk aY 171 [Z (M b 0)] (eN b l ix) (fun _:OI=>gR R.1) (fun j=>eN b R.2 j):=by
 refine bk.of Tryz.func171 J J J fun w0 S0=>?_;refine(show CG _ _ _ [Q (rH bu [(1,av (ix.h 0).1 (ix.h 0).2 l.kinds.length),(2,av (ix.h 1).1 (ix.h 1).2 l.open_.length)]) 168 b l,tip pJ 69 (ix.h 0).1 (ix.h 0).2 l.kinds,dr bP 3 (ix.h 1).1 (ix.h 1).2 l.open_] _ from ?_);refine bc<|bz<|br<|aB J<|aR J<|s (aC (D J))<|aW 15 jO J<|s (aE (r:=rH bu [(1,av (ix.h 0).1 (ix.h 0).2 l.kinds.length),(2,av (ix.h 1).1 (ix.h 1).2 l.open_.length)]) (x:=l) dc J J (eI pt) (.head _) (D J))<|s (aC (D J))<|aW 17 gk J<|fb (dq dc J (ot (hs' :=[(1,av (ix.h 0).1 (ix.h 0).2 l.kinds.length),(2,av (ix.h 1).1 (ix.h 1).2 l.open_.length)]) tf ⟨.inr ⟨J,J⟩,.inr ⟨J,J⟩,aM⟩ J) J (D J) (D J)) fun i=>?_;refine(show RG _ _ _ _ [_,_,_] _ from ?_);exact br<|bc<|bz<|bQ<|aH<|aH<|aH<|so h▸bF J ix J J (fun _ _ h=>h)

def Ze(b:Nat)(ix:OI) l{R}(h:jb l=some R):bk aY 172 [Z (M b 0)] (eN b l ix) (fun _:OI=>gR R.1) (fun j=>eN b R.2 j):=by
 refine bk.of Tryz.func172 J J J fun w0 S0=>?_;refine(show CG _ _ _ [Q (rH bu [(1,av (ix.h 0).1 (ix.h 0).2 l.kinds.length),(2,av (ix.h 1).1 (ix.h 1).2 l.open_.length)]) 168 b l,tip pJ 69 (ix.h 0).1 (ix.h 0).2 l.kinds,dr bP 3 (ix.h 1).1 (ix.h 1).2 l.open_] _ from ?_);refine bc<|bz<|br<|aU<|aU ?_
 refine lx (ts:=[_,_,_,_,_,_,_,_,_,_,_]) mixed J J
  ⟨iH J J,
  ⟨gE 6 0 J J (aC (D J)),
  ⟨gE 7 1 J J (oZ 15 jO J J J),
  ⟨gE 8 2 J J (aE (r:=rH bu [(1,av (ix.h 0).1 (ix.h 0).2 l.kinds.length),(2,av (ix.h 1).1 (ix.h 1).2 l.open_.length)]) (x:=l) dc J J (eI pt) (.head _) (D J)),
  ⟨gE 9 3 J J (XD fD J),
  ⟨iH J J,
  ⟨gE 11 5 J J (aC (D J)),
  ⟨gE 12 6 J J (oZ 16 BA J J J),
  ⟨gE 13 7 J J (aE (r:=rH bu [(1,av (ix.h 0).1 (ix.h 0).2 l.kinds.length),(2,av (ix.h 1).1 (ix.h 1).2 l.open_.length)]) (x:=l) dc J J (eI Ho) (.head _) (D J)),
  ⟨gE 14 8 J J (XD fD J),
  ⟨kV 10 4 15 9 J J J (kJ (D J) (D J)),
  aM⟩⟩⟩⟩⟩⟩⟩⟩⟩⟩⟩ ?_
 refine aG<|jE h J (fun h=>?_) (fun h=>?_)
 ·exact bc<|bz<|bQ<|au<|aH<|aH<|aH<|so h▸bF J ix J J (fun _ _ h=>h)
 ·refine jf<|aB J<|s (aC (D J))<|aW 17 gk J<|cU false bP 3<|cN<|lr dc J (tI (hs' :=[(1,av (ix.h 0).1 (ix.h 0).2 l.kinds.length),(2,av (ix.h 1).1 (ix.h 1).2 l.open_.length)]) (lL _ _) ⟨.inr ⟨J,J⟩,.inr ⟨J,J⟩,aM⟩ J) J (D J) (KX (show aJ _ _ _ (Z HV)from xj)) ?_;refine(show RG _ _ _ _ [_,_,_,_] _ from ?_);refine br<|bm<|aR J<|s (aC (D J))<|aW 15 jO J<|s (aE (r:=rH cn [(1,av (ix.h 0).1 (ix.h 0).2 l.kinds.length),(2,av (ix.h 1).1 (ix.h 1).2 l.open_.length)]) (x:=cG l (av none 0 (rm.length))) dc J J (eI kT) (.head _) (D J))<|cr fD J<|s (bR hI)<|br<|aA<|bt (k:=23) J fun hN=>bN<|gN<|hE<|hE<|hE ?_;refine aV (vR (tV:=fun ls i ob l1 c l2 c1 l3 c2=>(l.a_.drop i=ls)/\dA ls i ob=some R) (Of:=fun _ i ob l1 c l2 c1 l3 c2=>[Q (rH cn [(1,av l1 c ob.kinds.length),(2,av l2 c1 ob.open_.length)]) 168 b (cG ob (av l3 c2 ob.result.length)),tip pJ 69 l1 c ob.kinds,dr bP 3 l2 c1 ob.open_,dr bP 3 l3 c2 ob.result]) (Gf:=fun _ i ob l1 c l2 c1 l3 c2=>[(0,Z (M b 0)),(23,pF l.a_),(24,nL l.a_),(25,bB (i:Int))]) (fun i ob l1 c l2 c1 l3 c2 h=>?_) (fun e tl ih i ob l1 c l2 c1 l3 c2 h=>?_) l.a_ 0 ({l with result:=rm}:al) (ix.h 0).1 (ix.h 0).2 (ix.h 1).1 (ix.h 1).2 none 0 ⟨J,h⟩) (bp J)
  ·obtain⟨V,h⟩:=h
   refine fv V J<|aG<|bc<|bz<|bQ<|aS<|du<|ah<|vi (r' :=rH bu [(1,av l1 c ob.kinds.length),(2,av l2 c1 ob.open_.length)]) (x' :=ob) (fun _ _ _ ho h=>Up h (fun h=>iV (rX ho (.head _)) h))<|ah ?_;exact aZ<|aH<|aH<|aH<|so h▸bF J (rf [(l1,c),(l2,c1)]) J J (fun _ _ h=>h)
  ·obtain⟨V,h⟩:=h
   refine ft V J<|aU<|aA<|aB J<|fV fD b9 J (eK V)<|ia J<|a8 J<|aB J ?_;refine s (aC (D J))<|aW 16 BA J<|s (aE (r:=rH cn [(1,av l1 c ob.kinds.length),(2,av l2 c1 ob.open_.length)]) (x:=cG ob (av l3 c2 ob.result.length)) dc J J (eI Lg) (.head _) (D J))<|aR J<|bL h fun e1 q_e1 h=>fV fD b9 J q_e1<|a8 J ?_;refine i0 (tV:=fun k=>fF (dA tl) i ob e1 k=some R) (Of:=fun k=>[Q (rH cn [(1,av l1 c ob.kinds.length),(2,av l2 c1 ob.open_.length)]) 168 b (cG ob (av l3 c2 ob.result.length)),tip pJ 69 l1 c ob.kinds,dr bP 3 l2 c1 ob.open_,dr bP 3 l3 c2 ob.result]) (Gf:=fun k=>[(0,Z (M b 0)),(4,bB k),(5,bB e1),(23,pF l.a_),(24,nL l.a_),(25,bB (i:Int))]) (fun k h=>?_) (fun hg=>?_)
   ·skip
    refine bm<|aR J<|nU J<|aR J<|ai J (dy J)<|ai J (dy J)<|ai J (fun K=>kJ (bM J K) (bM J K))<|de J<|c0 h J (fun h=>?_) (fun h=>?_)
    ·exact bc<|bz<|bQ<|au<|eu<|au<|eu<|aS<|du<|ah<|vi (r' :=rH bu [(1,av l1 c ob.kinds.length),(2,av l2 c1 ob.open_.length)]) (x' :=ob) (fun _ _ _ ho h=>Up h (fun h=>iV (rX ho (.head _)) h))<|ah<|aZ<|aH<|aH<|aH<|so h▸bF J (rf [(l1,c),(l2,c1)]) J J (fun _ _ h=>h)
    ·refine jf<|ax<|aR J<|aR J<|s (aC (D J))<|aW 17 gk J<|s (nD dc (eI lS) (.head _) J (D J))<|aR J<|s (ba (r:=bP) (ys:=[k]) (xs:=[.tmp 52]) fD b9 J J J J J ⟨(D J),aM⟩)<|kZ<|bL h fun l4 q_l4 h=>cY b9 J J J J fD J J (D J) (D J) q_l4 fun l5 c3=>s (aC (D J))<|aW 17 gk J<|cN<|lr dc J (tI (hs' :=[(1,av l1 c ob.kinds.length),(2,av l2 c1 ob.open_.length)]) (iY _ _ _) ⟨.inr ⟨J,J⟩,.inr ⟨J,J⟩,aM⟩ J) J (D J) (KX (D J)) ?_;refine(show RG _ _ _ _ [_,_,_,_] _ from ?_);refine aX<|d6 V hN J<|ah<|aS<|aS<|aS ?_;exact bj (aV (ih (i+1) ({ob with result:=l4}:al) l1 c l2 c1 l5 c3 ⟨dZ V,h⟩) (bp J))
   ·skip
    refine aB J<|bU J<|c0 h J (fun h=>?_) (fun h=>?_)
    ·refine ax<|aR J<|ia J<|aX ?_;exact bZ (hg e1 h) (bp J)
    ·refine bE ?_;exact bZ (hg e h) (bp J)

def VJ ae f{R}(h:iJ ae f=some R):dR aY 238 [eg (iE) ae,(lK aY Rv p9 (fun(x:ku)=>f x))] (bB R):=by
 refine fc Tryz.func238 J<|bc<|cO<|br<|bm<|aR J<|cr y8 J<|s (bR hI)<|br<|aA<|bt (k:=6) J fun hN=>bN ?_;refine aV (fC (tV:=fun ls i=>(ae.drop i=ls)/\dW f ls i=some R) (Of:=fun _ i=>[]) (Gf:=fun _ i=>[(0,eg (iE) ae),(1,(lK aY Rv p9 (fun(x:ku)=>f x))),(7,nL ae),(8,bB (i:Int))]) (fun i h=>?_) (fun e tl ih i h=>?_) ae 0 ⟨J,h⟩) (bp J)
 ·obtain⟨V,h⟩:=h
  exact fv V J<|aG<|bc<|gZ<|so h▸aN J J
 ·obtain⟨V,h⟩:=h
  refine ft V J<|aU<|aA<|aB J<|a8 J<|aB J<|aR J<|aR J<|GE y8 tH J (eK V) ?_;refine fL tH J<|bL h fun r q_r h=>s (lM (args:=Rv) (res:=AN) (f:=(fun(x:ku)=>f x)) (x:=((e):ku)) (D J) q_r ⟨(D J),aM⟩)<|c0 h J (fun h=>?_) (fun h=>?_)
  ·exact aB J<|bq J<|eu<|au<|eu<|so h▸aN J J
  ·refine bE<|d6 V hN J ?_;exact bj (aV (ih (i+1) ⟨dZ V,h⟩) (bp J))

def VU ae f{R}(h:fg ae f=some R):dR aY 207 [eg (iE) ae,(lK aY Rv p9 (fun(x:ku)=>f x))] (gR R):=by
 exact fc Tryz.func207 J<|bc<|bz<|br<|aB J<|aR J<|iq h abF (VJ _ _) (ez J) fun r h=>s (iN (D J) hI)<|bq J<|so h▸aN J J

end Go.Proofs.YtdohlidddcgfjaaGreat

