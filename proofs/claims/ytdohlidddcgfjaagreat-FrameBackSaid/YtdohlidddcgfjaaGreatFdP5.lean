/- bT of this claim: P5. -/
import Derived.Test.YtdohlidddcgfjaaGreatFdT
import Derived.Test.YtdohlidddcgfjaaGreatFdP4
set_option linter.all false
namespace Go.Proofs.YtdohlidddcgfjaaGreat
open Go
set_option maxRecDepth 100000

def Yn(b:Nat)(ix:OI) l{R}(h:dA l=some R):bk aY 169 [Z (M b 0)] (eG b l ix) (fun _:OI=>gI R.1) (fun j=>eG b R.2 j):=by
 refine bk.of Tryz.func169 J J J fun w0 S0=>?_;refine(show CG _ _ _ [Q (rH bu [(1,au (ix.h 0).1 (ix.h 0).2 l.kinds.length),(2,au (ix.h 1).1 (ix.h 1).2 l.open_.length)]) 168 b l,tip po 69 (ix.h 0).1 (ix.h 0).2 l.kinds,dk bP 3 (ix.h 1).1 (ix.h 1).2 l.open_] _ from ?_);refine a8<|bA<|br<|aB J<|s (aC (D J))<|aW 3 hU J<|s (aE (r:=rH bu [(1,au (ix.h 0).1 (ix.h 0).2 l.kinds.length),(2,au (ix.h 1).1 (ix.h 1).2 l.open_.length)]) (x:=l) gv J J (eD fO) (.head _) (D J))<|bw gv kV J fun b1=>bv gv ax J<|bf 3 J<|br<|a8<|bG pX iQ c0 J<|cw fx J<|aZ J ?_;refine aT<|bM h fun e q_e h=>?_
 refine kM (ts:=[_,_,_,_,_,_,_,_,_,_,_,_,_,_,_,_,_,_,_,_,_,_,_,_,_,_,_,_,_,_,_,_,_,_]) mixed J J
  ⟨iy J J,
  ⟨gk 18 0 J J (aC (D J)),
  ⟨gk 19 1 J J (oK 0 Iy J J J),
  ⟨gk 20 2 J J (aE (r:=rH bu [(1,au (ix.h 0).1 (ix.h 0).2 l.kinds.length),(2,au (ix.h 1).1 (ix.h 1).2 l.open_.length)]) (x:=l) FC J J (eD B5) (.head _) (D J)),
  ⟨Lr 3 J J (w6 sj we J J),
  ⟨u7 4 b9 J J,
  ⟨kx 21 3 23 5 J J J (Nt tR gv J J J q_e),
  ⟨gk 24 6 J J (w6 lX eJ J J),
  ⟨u7 7 b9 J J,
  ⟨gk 26 8 J J (zei J),
  ⟨gk 27 9 J J (lQ J),
  ⟨Ax 4 28 10 J J J (oI J J J J (fun H=>lQ J)),
  ⟨uJ 29 11 28 10 J J J (oI J J J J (fun H=>g9 (bL J H) hI)),
  ⟨kx 28 10 30 12 J J J (zpa J J),
  ⟨gk 31 13 J J (lQ J),
  ⟨Ax 3 32 14 J J J (oI J J J J (fun H=>w6 nI gr J J)),
  ⟨uJ 33 15 32 14 J J J (oI J J J J (fun H=>kE wY J J (bL J H))),
  ⟨uJ 34 16 32 14 J J J (oI J J J J (fun H=>mG qr (bL J H))),
  ⟨uJ 35 17 32 14 J J J (oI J J J J (fun H=>g9 (bL J H) hI)),
  ⟨kx 32 14 36 18 J J J (zpa J J),
  ⟨gk 37 19 J J (lQ J),
  ⟨Ax 4 38 20 J J J (oI J J J J (fun H=>lQ J)),
  ⟨Ax 3 38 20 J J J (oI J J J J (fun H=>w6 nI gr J J)),
  ⟨uJ 40 22 38 20 J J J (oI J J J J (fun H=>kE wY J J (bL J H))),
  ⟨uJ 41 23 38 20 J J J (oI J J J J (fun H=>mG qr (bL J H))),
  ⟨Gd 39 21 42 24 38 20 J J J J (oI J J J J (fun H=>fS (bL J H) (bL J H))),
  ⟨Ax 0 38 20 J J J (oI J J J J (fun H=>lQ J)),
  ⟨uJ 44 26 38 20 J J J (oI J J J J (fun H=>aC (bL J H))),
  ⟨uJ 45 27 38 20 J J J (oI J J J J (fun H=>bU (n:=15) jI J (bL J H) J)),
  ⟨uJ 46 28 38 20 J J J (oI J J J J (fun H=>aE (r:=rH bu [(1,au (ix.h 0).1 (ix.h 0).2 l.kinds.length),(2,au (ix.h 1).1 (ix.h 1).2 l.open_.length)]) (x:=l) c0 J J (eD o9) (.head _) (bL J H))),
  ⟨uJ 47 29 38 20 J J J (oI J J J J (fun H=>mG fx (bL J H))),
  ⟨Gd 43 25 48 30 38 20 J J J J (oI J J J J (fun H=>d9 (bL J H) (bL J H))),
  ⟨kx 38 20 49 31 J J J (zpa J J),
  ⟨gk 50 32 J J (Jo J),
  aM⟩⟩⟩⟩⟩⟩⟩⟩⟩⟩⟩⟩⟩⟩⟩⟩⟩⟩⟩⟩⟩⟩⟩⟩⟩⟩⟩⟩⟩⟩⟩⟩⟩⟩ ?_
 refine aG<|bm<|aS J<|s (gG (D J))<|cZ h J (fun h=>?_) (fun h=>?_)
 ·exact a8<|bA<|bS<|av<|aH<|aH<|aH<|so h▸bF J ix J J (fun _ _ h=>h)
 ·refine jg<|aB J<|aS J<|s (aC (D J))<|aW 15 jI J<|s (aE (r:=rH bu [(1,au (ix.h 0).1 (ix.h 0).2 l.kinds.length),(2,au (ix.h 1).1 (ix.h 1).2 l.open_.length)]) (x:=l) c0 J J (eD o9) (.head _) (D J))<|u6 h Tf (KI _) (ea J) fun r h l1 c=>s (aC (D J))<|aW 17 gc J<|cL<|lk c0 J (te (hs' :=[(1,au (ix.h 0).1 (ix.h 0).2 l.kinds.length),(2,au (ix.h 1).1 (ix.h 1).2 l.open_.length)]) (lG _ _) ⟨.inr ⟨J,J⟩,.inr ⟨J,J⟩,aM⟩ J) J (D J) (Kp (D J)) ?_;refine(show RG _ _ _ _ [_,_,_,_] _ from ?_);refine br<|bm<|bG pX iQ c0 J<|cw fx J<|s (bQ hI)<|br<|aA<|bt (k:=62) J fun hN=>bN<|gE<|gV<|gV<|gV ?_;refine aV (yj (tV:=fun ls i ok=>(l.n.Keys.drop i=ls)/\d5 l r ls i ok=some R) (Of:=fun _ i ok=>[Q (rH co [(1,au (ix.h 0).1 (ix.h 0).2 l.kinds.length),(2,au (ix.h 1).1 (ix.h 1).2 l.open_.length)]) 168 b (cD l (au l1 c r.length)),tip po 69 (ix.h 0).1 (ix.h 0).2 l.kinds,dk bP 3 (ix.h 1).1 (ix.h 1).2 l.open_,dk bP 3 l1 c r]) (Gf:=fun _ i ok=>[(0,Z (M b 0)),(3,df bl l.n),(4,nz l.n.Keys),(5,gI ok),(62,pi l.n.Keys),(63,nz l.n.Keys),(64,bC (i:Int))]) (fun i ok h=>?_) (fun e1 tl ih i ok h=>?_) l.n.Keys 0 ((((e.Op==(9:Int))&&(decide ((l.n.Keys.length:Int)<=(3:Int))))&&(decide ((l.n.Aggs.length:Int)<=(12:Int))))&&((IntKind.i64.wrap ((l.n.Keys.length:Int)+(l.n.Aggs.length:Int)))==(l.a_.length:Int))) ⟨J,h⟩) (bo J)
  ·obtain⟨V,h⟩:=h
   refine fm V J<|aG<|bm<|bG nI gr wY J<|cw qr J<|s (bQ hI)<|br<|aA<|bt (k:=87) J fun hN1=>?_;refine bN ?_;refine aV (Bv (tV:=fun ls1 i1 ok1 ob l2 c1 l3 c2 l4 c3=>(l.n.Aggs.drop i1=ls1)/\ca l ls1 i1 ok1 ob=some R) (Of:=fun _ i1 ok1 ob l2 c1 l3 c2 l4 c3=>[Q (rH co [(1,au l2 c1 ob.kinds.length),(2,au l3 c2 ob.open_.length)]) 168 b (cD ob (au l4 c3 ob.result.length)),tip po 69 l2 c1 ob.kinds,dk bP 3 l3 c2 ob.open_,dk bP 3 l4 c3 ob.result]) (Gf:=fun _ i1 ok1 ob l2 c1 l3 c2 l4 c3=>[(0,Z (M b 0)),(4,nz l.n.Keys),(5,gI ok1),(87,d8 (fI) l.n.Aggs),(88,nz l.n.Aggs),(89,bC (i1:Int))]) (fun i1 ok1 ob l2 c1 l3 c2 l4 c3 h=>?_) (fun e2 tl1 ih1 i1 ok1 ob l2 c1 l3 c2 l4 c3 h=>?_) l.n.Aggs 0 ok ({l with result:=r}:al) (ix.h 0).1 (ix.h 0).2 (ix.h 1).1 (ix.h 1).2 l1 c ⟨J,h⟩) (bo J)
   ·obtain⟨hx1,h⟩:=h
    refine fm hx1 J<|aG<|aB J<|bq J<|aQ<|dm<|ah<|uW (r' :=rH bu [(1,au l2 c1 ob.kinds.length),(2,au l3 c2 ob.open_.length)]) (x' :=ob) (fun _ _ _ ho h=>TE h (fun h=>iR (rF ho (.head _)) h)) ?_;exact ah<|ba<|aH<|aH<|aH<|so h▸bF J (qZ [(l2,c1),(l3,c2)]) J J (fun _ _ h=>h)
   ·obtain⟨hx1,h⟩:=h
    refine fj hx1 J<|aT<|aA<|aB J<|fQ qr kN J (eF hx1)<|bw kN uI J fun b2=>hE J<|bv kN ax J<|bf 9 J<|br<|aT ?_;refine aw<|aS J<|s (aC (D J))<|aW 15 jI J<|s (aE (r:=rH co [(1,au l2 c1 ob.kinds.length),(2,au l3 c2 ob.open_.length)]) (x:=cD ob (au l4 c3 ob.result.length)) c0 J J (eD kP) (.head _) (D J))<|aS J<|aS J<|s (fS (D J) (D J))<|bM h fun e3 q_e3 h=>fQ fx b9 J q_e3<|aZ J<|aB J<|aS J<|ai J (cj sJ qN J J)<|ai J (fun H=>gB rq J kS J (bL J H))<|ai J (ce BG J J)<|ai J (ma sq J)<|ai J (mw J)<|c8 J ?_;refine aZ J<|a8<|bG pc mJ b9 J<|br<|aA ?_;refine iV (tV:=fun x=>fD l (ca l tl1) i1 e2 ok1 ob e3 x=some R) (Of:=fun x=>[Q (rH co [(1,au l2 c1 ob.kinds.length),(2,au l3 c2 ob.open_.length)]) 168 b (cD ob (au l4 c3 ob.result.length)),tip po 69 l2 c1 ob.kinds,dk bP 3 l3 c2 ob.open_,dk bP 3 l4 c3 ob.result]) (Gf:=fun x=>[(0,Z (M b 0)),(4,nz l.n.Keys),(5,gI (ok1&&((e2.Arg.Nodes.length:Int)==(0:Int)))),(8,bC (i1:Int)),(10,bC e3),(87,d8 (fI) l.n.Aggs),(88,nz l.n.Aggs),(89,bC (i1:Int)),(112,bC e2.Tag),(113,gI x)]) (fun x h=>?_) (fun hb=>?_)
    ·skip
     refine jz h J (fun h=>?_) (fun h=>?_)
     ·refine aw<|aS J<|aS J<|ai J (du J)<|ai J (mw J)<|c8 J<|hE J<|aX<|aF<|dW hx1 hN1 J ?_;exact bj (aV (ih1 (i1+1) ((ok1&&((e2.Arg.Nodes.length:Int)==(0:Int)))&&(e3==(2:Int))) ob l2 c1 l3 c2 l4 c3 ⟨dQ hx1,h⟩) (bo J))
     ·refine a8<|bW J<|aZ J<|jz h J (fun h=>?_) (fun h=>?_)
      ·refine aB J<|aS J<|ai J (du J)<|ai J (mw J)<|c8 J<|aZ J<|aw<|aS J<|s (aC (D J))<|aW 17 gc J<|s (nq c0 (eD lO) (.head _) J (D J))<|aS J<|aS J<|s (fS (D J) (D J))<|bM h fun e4 q_e4 h=>s (iC fx b9 (.tail _ (.tail _ (.tail _ (.head _)))) (D J) (D J) q_e4)<|kT<|bM h fun st q_st h=>Ch b9 J ax J q_e4 (so q_st) (D J) hI<|sZ (yq (so q_st)) 131 J ?_;refine Fh (O' :=[dk bP 3 l4 c3 st,Q (rH co [(1,au l2 c1 ob.kinds.length),(2,au l3 c2 ob.open_.length)]) 168 b (cD ob (au l4 c3 st.length)),tip po 69 l2 c1 ob.kinds,dk bP 3 l3 c2 ob.open_]) (by rw [yq (so q_st)])<|aX<|aF<|dW hx1 hN1 J<|aQ<|aQ<|aQ ?_;exact bj (aV (ih1 (i1+1) ((ok1&&((e2.Arg.Nodes.length:Int)==(0:Int)))&&(e3==(4:Int))) ({ob with result:=st}:al) l2 c1 l3 c2 l4 c3 ⟨dQ hx1,h⟩) (bo J))
      ·refine iV (tV:=fun x1=>hZ (ca l tl1) i1 e2 ok1 ob e3 x1=some R) (Of:=fun x1=>[Q (rH co [(1,au l2 c1 ob.kinds.length),(2,au l3 c2 ob.open_.length)]) 168 b (cD ob (au l4 c3 ob.result.length)),tip po 69 l2 c1 ob.kinds,dk bP 3 l3 c2 ob.open_,dk bP 3 l4 c3 ob.result]) (Gf:=fun x1=>[(0,Z (M b 0)),(4,nz l.n.Keys),(5,gI (ok1&&((e2.Arg.Nodes.length:Int)==(0:Int)))),(10,bC e3),(87,d8 (fI) l.n.Aggs),(88,nz l.n.Aggs),(89,bC (i1:Int)),(136,gI x1)]) (fun x1 h=>?_) (fun K1=>?_)
       ·skip
        refine jz h J (fun h=>?_) (fun h=>?_)
        ·refine aw<|aS J<|aS J<|ai J (du J)<|ai J (Cx J)<|c8 J<|hE J<|aX<|aF<|dW hx1 hN1 J ?_;exact bj (aV (ih1 (i1+1) ((ok1&&((e2.Arg.Nodes.length:Int)==(0:Int)))&&(e3 !=(4:Int))) ob l2 c1 l3 c2 l4 c3 ⟨dQ hx1,h⟩) (bo J))
        ·refine aw<|bA<|aX<|aF<|dW hx1 hN1 J ?_;exact bj (aV (ih1 (i1+1) false ob l2 c1 l3 c2 l4 c3 ⟨dQ hx1,h⟩) (bo J))
       ·skip
        refine a8<|bW J<|aZ J<|jz h J (fun h=>?_) (fun h=>?_)
        ·refine bE ?_;exact bZ (K1 (e2.Tag==(4:Int)) h) (bo J)
        ·refine aw<|bW J<|hE J<|aX ?_;exact bZ (K1 (e2.Tag==(5:Int)) h) (bo J)
    ·skip
     refine a8<|bW J<|aZ J<|jz h J (fun h=>?_) (fun h=>?_)
     ·refine bE ?_;exact bZ (hb (e2.Tag==(1:Int)) h) (bo J)
     ·refine aw<|bW J<|hE J<|aX ?_;exact bZ (hb (e2.Tag==(2:Int)) h) (bo J)
  ·obtain⟨V,h⟩:=h
   refine fj V J<|aT<|aA<|aB J<|fQ fx b9 J (eF V)<|hE J<|aZ J<|aw<|aS J<|aS J ?_;refine ai J (du J)<|ai J (du J)<|ai J (fun H=>d9 (bL J H) (bL J H))<|c8 J<|aS J<|bM h fun t q_t h=>ai J (du J)<|ai J (fun H=>aC (bL J H))<|ai J (fun H=>bU (n:=15) jI J (bL J H) J)<|ai J (fun H=>aE (r:=rH co [(1,au (ix.h 0).1 (ix.h 0).2 l.kinds.length),(2,au (ix.h 1).1 (ix.h 1).2 l.open_.length)]) (x:=cD l (au l1 c r.length)) c0 J J (eD kP) (.head _) (bL J H))<|ai J (du J) ?_
   obtain⟨e5,h1t,h0t⟩:=og q_t
   have q_e5g:=fun K=>(h1t K).1
   refine ai J (fun H=>vS fx b9 J (bL J H) (bL J H) (q_e5g H))<|ai J (ce b9 J J)<|ai J (Cx J)<|s (de (D J) (fun K=>(bL J K)) (fun K=>(h1t K).2) h0t)<|hE J<|aX<|dW V hN J ?_;exact bj (aV (ih (i+1) t ⟨dQ V,h⟩) (bo J))

def Ym(b:Nat)(ix:OI) l{R}(h:iG l=some R):bk aY 170 [Z (M b 0)] (eG b l ix) (fun _:OI=>gI R.1) (fun j=>eG b R.2 j):=by
 refine bk.of Tryz.func170 J J J fun w0 S0=>?_;refine(show CG _ _ _ [Q (rH bu [(1,au (ix.h 0).1 (ix.h 0).2 l.kinds.length),(2,au (ix.h 1).1 (ix.h 1).2 l.open_.length)]) 168 b l,tip po 69 (ix.h 0).1 (ix.h 0).2 l.kinds,dk bP 3 (ix.h 1).1 (ix.h 1).2 l.open_] _ from ?_);refine a8<|bA<|br<|aB J<|s (aC (D J))<|aW 17 gc J<|cS false bP 3<|cL<|lk c0 J (te (hs' :=[(1,au (ix.h 0).1 (ix.h 0).2 l.kinds.length),(2,au (ix.h 1).1 (ix.h 1).2 l.open_.length)]) (lG _ _) ⟨.inr ⟨J,J⟩,.inr ⟨J,J⟩,aM⟩ J) J (D J) (Kp (show aJ _ _ _ (Z Hx)from w3)) ?_;refine(show RG _ _ _ _ [_,_,_,_] _ from ?_);refine br<|bm<|aS J<|s (aC (D J))<|aW 3 hU J<|aW 12 wg J<|s (aE (r:=rH co [(1,au (ix.h 0).1 (ix.h 0).2 l.kinds.length),(2,au (ix.h 1).1 (ix.h 1).2 l.open_.length)]) (x:=cD l (au none 0 (ss.length))) HK J J (eD (eh xM oz)) (.head _) (D J))<|cw xb J<|s (bQ hI)<|br<|aA<|bt (k:=14) J fun hN=>bN<|gE<|gV<|gV<|gV ?_;refine aV (vA (tV:=fun ls i ob l1 c l2 c1 l3 c2=>(l.n.Items.drop i=ls)/\ew ls ob=some R) (Of:=fun _ i ob l1 c l2 c1 l3 c2=>[Q (rH co [(1,au l1 c ob.kinds.length),(2,au l2 c1 ob.open_.length)]) 168 b (cD ob (au l3 c2 ob.result.length)),tip po 69 l1 c ob.kinds,dk bP 3 l2 c1 ob.open_,dk bP 3 l3 c2 ob.result]) (Gf:=fun _ i ob l1 c l2 c1 l3 c2=>[(0,Z (M b 0)),(14,d8 (cU) l.n.Items),(15,nz l.n.Items),(16,bC (i:Int))]) (fun i ob l1 c l2 c1 l3 c2 h=>?_) (fun e tl ih i ob l1 c l2 c1 l3 c2 h=>?_) l.n.Items 0 ({l with result:=ss}:al) (ix.h 0).1 (ix.h 0).2 (ix.h 1).1 (ix.h 1).2 none 0 ⟨J,h⟩) (bo J)
 ·obtain⟨V,h⟩:=h
  refine fm V J<|aG<|aB J<|s (aC (D J))<|aW 17 gc J<|s (nq c0 (eD lO) (.head _) J (D J))<|s (ja fx (.tail _ (.tail _ (.tail _ (.head _)))) (D J))<|s (ge (D J) hI)<|aZ J ?_;exact qU<|aQ<|dm<|bB 45 J<|ah<|uW (r' :=rH bu [(1,au l1 c ob.kinds.length),(2,au l2 c1 ob.open_.length)]) (x' :=ob) (fun _ _ _ ho h=>TE h (fun h=>iR (rF ho (.head _)) h))<|ah<|ba<|aH<|aH<|aH<|so h▸bF J (qZ [(l1,c),(l2,c1)]) J J (fun _ _ h=>h)
 ·obtain⟨V,h⟩:=h
  refine fj V J<|aT<|aA<|a8<|fQ xb kY J (eF V)<|bw kY sr J fun b1=>bv kY ax J<|bf 4 J<|br<|aT<|bM h fun r q_r h=>?_
  refine kM (ts:=[_,_,_,_,_,_,_,_,_,_,_]) mixed J J
   ⟨Lr 4 J J (BA kY J J),
   ⟨iy J J,
   ⟨gk 22 1 J J (aC (D J)),
   ⟨gk 23 2 J J (oK 15 jI J J J),
   ⟨gk 24 3 J J (aE (r:=rH co [(1,au l1 c ob.kinds.length),(2,au l2 c1 ob.open_.length)]) (x:=cD ob (au l3 c2 ob.result.length)) c0 J J (eD kP) (.head _) (D J)),
   ⟨kx 21 0 25 4 J J J (db OC (Dt _ _ q_r) ⟨(D J),(D J),aM⟩),
   ⟨gk 26 5 J J (lQ J),
   ⟨gk 20 6 J J (Lq J J),
   ⟨gk 20 6 J J (Lq J J),
   ⟨gk 27 7 J J (Jo J),
   ⟨gk 28 8 J J (Jo J),
   aM⟩⟩⟩⟩⟩⟩⟩⟩⟩⟩⟩ ?_
  refine aG<|bm<|aS J<|nW J<|cZ h J (fun h=>?_) (fun h=>?_)
  ·exact a8<|bA<|bS<|av<|ei<|av<|ei<|aQ<|dm<|ah<|uW (r' :=rH bu [(1,au l1 c ob.kinds.length),(2,au l2 c1 ob.open_.length)]) (x' :=ob) (fun _ _ _ ho h=>TE h (fun h=>iR (rF ho (.head _)) h))<|ah<|ba<|aH<|aH<|aH<|so h▸bF J (qZ [(l1,c),(l2,c1)]) J J (fun _ _ h=>h)
  ·refine jg<|aw<|aS J<|aS J<|s (aC (D J))<|aW 17 gc J<|s (nq c0 (eD lO) (.head _) J (D J))<|aS J<|s (bc (r:=bP) (ys:=[r.1]) (xs:=[.tmp 36]) fx b9 J J J J J ⟨(D J),aM⟩)<|kT<|bM h fun l4 q_l4 h=>dl b9 J J J J fx J J (D J) (D J) q_l4 fun l5 c3=>s (aC (D J))<|aW 17 gc J<|cL<|lk c0 J (te (hs' :=[(1,au l1 c ob.kinds.length),(2,au l2 c1 ob.open_.length)]) (iU _ _ _) ⟨.inr ⟨J,J⟩,.inr ⟨J,J⟩,aM⟩ J) J (D J) (Kp (D J)) ?_;refine(show RG _ _ _ _ [_,_,_,_] _ from ?_);refine aX<|dW V hN J<|ah<|aQ<|aQ<|aQ ?_;exact bj (aV (ih (i+1) ({ob with result:=l4}:al) l1 c l2 c1 l5 c3 ⟨dQ V,h⟩) (bo J))

def Yl(b:Nat)(ix:OI) l{R}(h:ly l=some R):bk aY 171 [Z (M b 0)] (eG b l ix) (fun _:OI=>gI R.1) (fun j=>eG b R.2 j):=by
 refine bk.of Tryz.func171 J J J fun w0 S0=>?_;refine(show CG _ _ _ [Q (rH bu [(1,au (ix.h 0).1 (ix.h 0).2 l.kinds.length),(2,au (ix.h 1).1 (ix.h 1).2 l.open_.length)]) 168 b l,tip po 69 (ix.h 0).1 (ix.h 0).2 l.kinds,dk bP 3 (ix.h 1).1 (ix.h 1).2 l.open_] _ from ?_);refine a8<|bA<|br<|aB J<|aS J<|s (aC (D J))<|aW 15 jI J<|s (aE (r:=rH bu [(1,au (ix.h 0).1 (ix.h 0).2 l.kinds.length),(2,au (ix.h 1).1 (ix.h 1).2 l.open_.length)]) (x:=l) c0 J J (eD o9) (.head _) (D J))<|s (aC (D J))<|aW 17 gc J<|eW (dj c0 J (n7 (hs' :=[(1,au (ix.h 0).1 (ix.h 0).2 l.kinds.length),(2,au (ix.h 1).1 (ix.h 1).2 l.open_.length)]) sR ⟨.inr ⟨J,J⟩,.inr ⟨J,J⟩,aM⟩ J) J (D J) (D J)) fun i=>?_;refine(show RG _ _ _ _ [_,_,_] _ from ?_);exact br<|a8<|bA<|bS<|aH<|aH<|aH<|so h▸bF J ix J J (fun _ _ h=>h)

def Yk(b:Nat)(ix:OI) l{R}(h:iX l=some R):bk aY 172 [Z (M b 0)] (eG b l ix) (fun _:OI=>gI R.1) (fun j=>eG b R.2 j):=by
 refine bk.of Tryz.func172 J J J fun w0 S0=>?_;refine(show CG _ _ _ [Q (rH bu [(1,au (ix.h 0).1 (ix.h 0).2 l.kinds.length),(2,au (ix.h 1).1 (ix.h 1).2 l.open_.length)]) 168 b l,tip po 69 (ix.h 0).1 (ix.h 0).2 l.kinds,dk bP 3 (ix.h 1).1 (ix.h 1).2 l.open_] _ from ?_);refine a8<|bA<|br<|aT<|aT ?_
 refine kM (ts:=[_,_,_,_,_,_,_,_,_,_,_]) mixed J J
  ⟨iy J J,
  ⟨gk 6 0 J J (aC (D J)),
  ⟨gk 7 1 J J (oK 15 jI J J J),
  ⟨gk 8 2 J J (aE (r:=rH bu [(1,au (ix.h 0).1 (ix.h 0).2 l.kinds.length),(2,au (ix.h 1).1 (ix.h 1).2 l.open_.length)]) (x:=l) c0 J J (eD o9) (.head _) (D J)),
  ⟨gk 9 3 J J (WF fx J),
  ⟨iy J J,
  ⟨gk 11 5 J J (aC (D J)),
  ⟨gk 12 6 J J (oK 16 Bf J J J),
  ⟨gk 13 7 J J (aE (r:=rH bu [(1,au (ix.h 0).1 (ix.h 0).2 l.kinds.length),(2,au (ix.h 1).1 (ix.h 1).2 l.open_.length)]) (x:=l) c0 J J (eD GW) (.head _) (D J)),
  ⟨gk 14 8 J J (WF fx J),
  ⟨kx 10 4 15 9 J J J (kD (D J) (D J)),
  aM⟩⟩⟩⟩⟩⟩⟩⟩⟩⟩⟩ ?_
 refine aG<|jz h J (fun h=>?_) (fun h=>?_)
 ·exact a8<|bA<|bS<|av<|aH<|aH<|aH<|so h▸bF J ix J J (fun _ _ h=>h)
 ·refine jg<|aB J<|s (aC (D J))<|aW 17 gc J<|cS false bP 3<|cL<|lk c0 J (te (hs' :=[(1,au (ix.h 0).1 (ix.h 0).2 l.kinds.length),(2,au (ix.h 1).1 (ix.h 1).2 l.open_.length)]) (lG _ _) ⟨.inr ⟨J,J⟩,.inr ⟨J,J⟩,aM⟩ J) J (D J) (Kp (show aJ _ _ _ (Z Hx)from w3)) ?_;refine(show RG _ _ _ _ [_,_,_,_] _ from ?_);refine br<|bm<|aS J<|s (aC (D J))<|aW 15 jI J<|s (aE (r:=rH co [(1,au (ix.h 0).1 (ix.h 0).2 l.kinds.length),(2,au (ix.h 1).1 (ix.h 1).2 l.open_.length)]) (x:=cD l (au none 0 (ss.length))) c0 J J (eD kP) (.head _) (D J))<|cw fx J<|s (bQ hI)<|br<|aA<|bt (k:=23) J fun hN=>bN<|gE<|gV<|gV<|gV ?_;refine aV (vA (tV:=fun ls i ob l1 c l2 c1 l3 c2=>(l.a_.drop i=ls)/\dv ls i ob=some R) (Of:=fun _ i ob l1 c l2 c1 l3 c2=>[Q (rH co [(1,au l1 c ob.kinds.length),(2,au l2 c1 ob.open_.length)]) 168 b (cD ob (au l3 c2 ob.result.length)),tip po 69 l1 c ob.kinds,dk bP 3 l2 c1 ob.open_,dk bP 3 l3 c2 ob.result]) (Gf:=fun _ i ob l1 c l2 c1 l3 c2=>[(0,Z (M b 0)),(23,pi l.a_),(24,nz l.a_),(25,bC (i:Int))]) (fun i ob l1 c l2 c1 l3 c2 h=>?_) (fun e tl ih i ob l1 c l2 c1 l3 c2 h=>?_) l.a_ 0 ({l with result:=ss}:al) (ix.h 0).1 (ix.h 0).2 (ix.h 1).1 (ix.h 1).2 none 0 ⟨J,h⟩) (bo J)
  ·obtain⟨V,h⟩:=h
   refine fm V J<|aG<|a8<|bA<|bS<|aQ<|dm<|ah<|uW (r' :=rH bu [(1,au l1 c ob.kinds.length),(2,au l2 c1 ob.open_.length)]) (x' :=ob) (fun _ _ _ ho h=>TE h (fun h=>iR (rF ho (.head _)) h))<|ah ?_;exact ba<|aH<|aH<|aH<|so h▸bF J (qZ [(l1,c),(l2,c1)]) J J (fun _ _ h=>h)
  ·obtain⟨V,h⟩:=h
   refine fj V J<|aT<|aA<|aB J<|fQ fx b9 J (eF V)<|hE J<|aZ J<|aB J ?_;refine s (aC (D J))<|aW 16 Bf J<|s (aE (r:=rH co [(1,au l1 c ob.kinds.length),(2,au l2 c1 ob.open_.length)]) (x:=cD ob (au l3 c2 ob.result.length)) c0 J J (eD KB) (.head _) (D J))<|aS J<|bM h fun e1 q_e1 h=>fQ fx b9 J q_e1<|aZ J ?_;refine iV (tV:=fun k=>fC (dv tl) i ob e1 k=some R) (Of:=fun k=>[Q (rH co [(1,au l1 c ob.kinds.length),(2,au l2 c1 ob.open_.length)]) 168 b (cD ob (au l3 c2 ob.result.length)),tip po 69 l1 c ob.kinds,dk bP 3 l2 c1 ob.open_,dk bP 3 l3 c2 ob.result]) (Gf:=fun k=>[(0,Z (M b 0)),(4,bC k),(5,bC e1),(23,pi l.a_),(24,nz l.a_),(25,bC (i:Int))]) (fun k h=>?_) (fun hb=>?_)
   ·skip
    refine bm<|aS J<|nW J<|aS J<|ai J (du J)<|ai J (du J)<|ai J (fun H=>kD (bL J H) (bL J H))<|c8 J<|cZ h J (fun h=>?_) (fun h=>?_)
    ·exact a8<|bA<|bS<|av<|ei<|av<|ei<|aQ<|dm<|ah<|uW (r' :=rH bu [(1,au l1 c ob.kinds.length),(2,au l2 c1 ob.open_.length)]) (x' :=ob) (fun _ _ _ ho h=>TE h (fun h=>iR (rF ho (.head _)) h))<|ah<|ba<|aH<|aH<|aH<|so h▸bF J (qZ [(l1,c),(l2,c1)]) J J (fun _ _ h=>h)
    ·refine jg<|aw<|aS J<|aS J<|s (aC (D J))<|aW 17 gc J<|s (nq c0 (eD lO) (.head _) J (D J))<|aS J<|s (bc (r:=bP) (ys:=[k]) (xs:=[.tmp 52]) fx b9 J J J J J ⟨(D J),aM⟩)<|kT<|bM h fun l4 q_l4 h=>dl b9 J J J J fx J J (D J) (D J) q_l4 fun l5 c3=>s (aC (D J))<|aW 17 gc J<|cL<|lk c0 J (te (hs' :=[(1,au l1 c ob.kinds.length),(2,au l2 c1 ob.open_.length)]) (iU _ _ _) ⟨.inr ⟨J,J⟩,.inr ⟨J,J⟩,aM⟩ J) J (D J) (Kp (D J)) ?_;refine(show RG _ _ _ _ [_,_,_,_] _ from ?_);refine aX<|dW V hN J<|ah<|aQ<|aQ<|aQ ?_;exact bj (aV (ih (i+1) ({ob with result:=l4}:al) l1 c l2 c1 l5 c3 ⟨dQ V,h⟩) (bo J))
   ·skip
    refine aB J<|bW J<|cZ h J (fun h=>?_) (fun h=>?_)
    ·refine aw<|aS J<|hE J<|aX ?_;exact bZ (hb e1 h) (bo J)
    ·refine bE ?_;exact bZ (hb e h) (bo J)

def UX ae f{R}(h:iE ae f=some R):dJ aY 238 [d8 (iA) ae,(lF aY QR pN (fun(x:kg)=>f x))] (bC R):=by
 refine eX Tryz.func238 J<|a8<|cM<|br<|bm<|aS J<|cw yT J<|s (bQ hI)<|br<|aA<|bt (k:=6) J fun hN=>bN ?_;refine aV (fv (tV:=fun ls i=>(ae.drop i=ls)/\dM f ls i=some R) (Of:=fun _ i=>[]) (Gf:=fun _ i=>[(0,d8 (iA) ae),(1,(lF aY QR pN (fun(x:kg)=>f x))),(7,nz ae),(8,bC (i:Int))]) (fun i h=>?_) (fun e tl ih i h=>?_) ae 0 ⟨J,h⟩) (bo J)
 ·obtain⟨V,h⟩:=h
  exact fm V J<|aG<|a8<|gQ<|so h▸aN J J
 ·obtain⟨V,h⟩:=h
  refine fj V J<|aT<|aA<|aB J<|aZ J<|aB J<|aS J<|aS J<|Gi yT td J (eF V) ?_;refine fi td J<|bM h fun r q_r h=>s (lH (args:=QR) (res:=Aw) (f:=(fun(x:kg)=>f x)) (x:=((e):kg)) (D J) q_r ⟨(D J),aM⟩)<|cZ h J (fun h=>?_) (fun h=>?_)
  ·exact aB J<|bq J<|ei<|av<|ei<|so h▸aN J J
  ·refine bE<|dW V hN J ?_;exact bj (aV (ih (i+1) ⟨dQ V,h⟩) (bo J))

def U7 ae f{R}(h:fc ae f=some R):dJ aY 207 [d8 (iA) ae,(lF aY QR pN (fun(x:kg)=>f x))] (gI R):=by
 exact eX Tryz.func207 J<|a8<|bA<|br<|aB J<|aS J<|iw h aaS (UX _ _) (ea J) fun r h=>s (iJ (D J) hI)<|bq J<|so h▸aN J J

end Go.Proofs.YtdohlidddcgfjaaGreat

