/- bR of this claim: P5. -/
import Derived.Test.YtdohlidddcgfjaaGreatFbT
import Derived.Test.YtdohlidddcgfjaaGreatFbP4
set_option linter.all false
namespace Go.Proofs.YtdohlidddcgfjaaGreat
open Go
set_option maxRecDepth 100000

def Sh(b:Nat)(ix:OI) l{R}(h:dG l=some R):bd aV 169 [K (M b 0)] (dM b l ix) (fun _:OI=>gw R.1) (fun j=>dM b R.2 j):=by
 refine bd.of Tryz.func169 J J J fun w0 S0=>?_;refine(show CG _ _ _ [Z (rH bh [(1,an (ix.h 0).1 (ix.h 0).2 l.kinds.length),(2,an (ix.h 1).1 (ix.h 1).2 l.open_.length)]) 168 b l,tip nt 69 (ix.h 0).1 (ix.h 0).2 l.kinds,cM bH 3 (ix.h 1).1 (ix.h 1).2 l.open_] _ from ?_);refine a8<|bE<|bp<|ay J<|s (aD (D J))<|aX 3 fX J<|s (aE (r:=rH bh [(1,an (ix.h 0).1 (ix.h 0).2 l.kinds.length),(2,an (ix.h 1).1 (ix.h 1).2 l.open_.length)]) (x:=l) fG J J (dZ eD) (.head _) (D J))<|bw fG j7 J fun b1=>bG fG aB J<|bg 3 J<|bp<|a8<|bz oT iq cF J<|cw er J<|aW J ?_;refine aP<|bT h fun e q_e h=>?_
 refine jV (ts:=[_,_,_,_,_,_,_,_,_,_,_,_,_,_,_,_,_,_,_,_,_,_,_,_,_,_,_,_,_,_,_,_,_,_]) mixed J J
  ⟨gx J J,
  ⟨fm 18 0 J J (aD (D J)),
  ⟨fm 19 1 J J (oz 0 EL J J J),
  ⟨fm 20 2 J J (aE (r:=rH bh [(1,an (ix.h 0).1 (ix.h 0).2 l.kinds.length),(2,an (ix.h 1).1 (ix.h 1).2 l.open_.length)]) (x:=l) Ej J J (dZ y8) (.head _) (D J)),
  ⟨Ho 3 J J (uv qe tL J J),
  ⟨sH 4 bS J J,
  ⟨jz 21 3 23 5 J J J (Jh um fG J J J q_e),
  ⟨fm 24 6 J J (uv kI dQ J J),
  ⟨sH 7 bS J J,
  ⟨fm 26 8 J J (VR J),
  ⟨fm 27 9 J J (m1 J),
  ⟨Ct 4 28 10 J J J (mX J J J J (fun X=>m1 J)),
  ⟨se 29 11 28 10 J J J (mX J J J J (fun X=>gu (bC J X) hI)),
  ⟨jz 28 10 30 12 J J J (VQ J J),
  ⟨fm 31 13 J J (m1 J),
  ⟨Ct 3 32 14 J J J (mX J J J J (fun X=>uv nr gc J J)),
  ⟨se 33 15 32 14 J J J (mX J J J J (fun X=>jn vY J J (bC J X))),
  ⟨se 34 16 32 14 J J J (mX J J J J (fun X=>ld p7 (bC J X))),
  ⟨se 35 17 32 14 J J J (mX J J J J (fun X=>gu (bC J X) hI)),
  ⟨jz 32 14 36 18 J J J (VQ J J),
  ⟨fm 37 19 J J (m1 J),
  ⟨Ct 4 38 20 J J J (mX J J J J (fun X=>m1 J)),
  ⟨Ct 3 38 20 J J J (mX J J J J (fun X=>uv nr gc J J)),
  ⟨se 40 22 38 20 J J J (mX J J J J (fun X=>jn vY J J (bC J X))),
  ⟨se 41 23 38 20 J J J (mX J J J J (fun X=>ld p7 (bC J X))),
  ⟨LV 39 21 42 24 38 20 J J J J (mX J J J J (fun X=>fc (bC J X) (bC J X))),
  ⟨Ct 0 38 20 J J J (mX J J J J (fun X=>m1 J)),
  ⟨se 44 26 38 20 J J J (mX J J J J (fun X=>aD (bC J X))),
  ⟨se 45 27 38 20 J J J (mX J J J J (fun X=>bK (n:=15) iF J (bC J X) J)),
  ⟨se 46 28 38 20 J J J (mX J J J J (fun X=>aE (r:=rH bh [(1,an (ix.h 0).1 (ix.h 0).2 l.kinds.length),(2,an (ix.h 1).1 (ix.h 1).2 l.open_.length)]) (x:=l) cF J J (dZ nf) (.head _) (bC J X))),
  ⟨se 47 29 38 20 J J J (mX J J J J (fun X=>ld er (bC J X))),
  ⟨LV 43 25 48 30 38 20 J J J J (mX J J J J (fun X=>dx (bC J X) (bC J X))),
  ⟨jz 38 20 49 31 J J J (VQ J J),
  ⟨fm 50 32 J J (Hp J),
  d⟩⟩⟩⟩⟩⟩⟩⟩⟩⟩⟩⟩⟩⟩⟩⟩⟩⟩⟩⟩⟩⟩⟩⟩⟩⟩⟩⟩⟩⟩⟩⟩⟩⟩ ?_
 refine aH<|bm<|aO J<|s (fH (D J))<|dd h J (fun h=>?_) (fun h=>?_)
 ·exact a8<|bE<|cj<|aC<|aG<|aG<|aG<|so h▸bB J ix J J (fun _ _ h=>h)
 ·refine ji<|ay J<|aO J<|s (aD (D J))<|aX 15 iF J<|s (aE (r:=rH bh [(1,an (ix.h 0).1 (ix.h 0).2 l.kinds.length),(2,an (ix.h 1).1 (ix.h 1).2 l.open_.length)]) (x:=l) cF J J (dZ nf) (.head _) (D J))<|uE h NC (GJ _) (eb J) fun r h l1 c=>s (aD (D J))<|aX 17 eU J<|cu<|jQ cF J (qS (hs' :=[(1,an (ix.h 0).1 (ix.h 0).2 l.kinds.length),(2,an (ix.h 1).1 (ix.h 1).2 l.open_.length)]) (kf _ _) ⟨.inr ⟨J,J⟩,.inr ⟨J,J⟩,d⟩ J) J (D J) (Gs (D J)) ?_;refine(show RG _ _ _ _ [_,_,_,_] _ from ?_);refine bp<|bm<|bz oT iq cF J<|cw er J<|s (bU hI)<|bp<|aA<|bt (k:=62) J fun hN=>bV<|fD<|fO<|fO<|fO ?_;refine aT (vu (bx:=fun ls i ok=>(l.n.Keys.drop i=ls)/\du l r ls i ok=some R) (Of:=fun _ i ok=>[Z (rH bW [(1,an (ix.h 0).1 (ix.h 0).2 l.kinds.length),(2,an (ix.h 1).1 (ix.h 1).2 l.open_.length)]) 168 b (ce l (an l1 c r.length)),tip nt 69 (ix.h 0).1 (ix.h 0).2 l.kinds,cM bH 3 (ix.h 1).1 (ix.h 1).2 l.open_,cM bH 3 l1 c r]) (Gf:=fun _ i ok=>[(0,K (M b 0)),(3,cH bc l.n),(4,nu l.n.Keys),(5,gw ok),(62,nj l.n.Keys),(63,nu l.n.Keys),(64,bA (i:Int))]) (fun i ok h=>?_) (fun e1 tl ih i ok h=>?_) l.n.Keys 0 ((((e.Op==(9:Int))&&(decide ((l.n.Keys.length:Int)<=(3:Int))))&&(decide ((l.n.Aggs.length:Int)<=(12:Int))))&&((IntKind.i64.wrap ((l.n.Keys.length:Int)+(l.n.Aggs.length:Int)))==(l.a_.length:Int))) ⟨J,h⟩) (bj J)
  ·obtain⟨V,h⟩:=h
   refine ft V J<|aH<|bm<|bz nr gc vY J<|cw p7 J<|s (bU hI)<|bp<|aA<|bt (k:=87) J fun hN1=>?_;refine bV ?_;refine aT (yz (bx:=fun ls1 i1 ok1 ob l2 c1 l3 c2 l4 c3=>(l.n.Aggs.drop i1=ls1)/\bN l ls1 i1 ok1 ob=some R) (Of:=fun _ i1 ok1 ob l2 c1 l3 c2 l4 c3=>[Z (rH bW [(1,an l2 c1 ob.kinds.length),(2,an l3 c2 ob.open_.length)]) 168 b (ce ob (an l4 c3 ob.result.length)),tip nt 69 l2 c1 ob.kinds,cM bH 3 l3 c2 ob.open_,cM bH 3 l4 c3 ob.result]) (Gf:=fun _ i1 ok1 ob l2 c1 l3 c2 l4 c3=>[(0,K (M b 0)),(4,nu l.n.Keys),(5,gw ok1),(87,ep (eV) l.n.Aggs),(88,nu l.n.Aggs),(89,bA (i1:Int))]) (fun i1 ok1 ob l2 c1 l3 c2 l4 c3 h=>?_) (fun e2 tl1 ih1 i1 ok1 ob l2 c1 l3 c2 l4 c3 h=>?_) l.n.Aggs 0 ok ({l with result:=r}:ai) (ix.h 0).1 (ix.h 0).2 (ix.h 1).1 (ix.h 1).2 l1 c ⟨J,h⟩) (bj J)
   ·obtain⟨hx1,h⟩:=h
    refine ft hx1 J<|aH<|ay J<|bk J<|aK<|df<|aj<|sw (r' :=rH bh [(1,an l2 c1 ob.kinds.length),(2,an l3 c2 ob.open_.length)]) (x' :=ob) (fun _ _ _ ho h=>NZ h (fun h=>gM (pI ho (.head _)) h)) ?_;exact aj<|ba<|aG<|aG<|aG<|so h▸bB J (o5 [(l2,c1),(l3,c2)]) J J (fun _ _ h=>h)
   ·obtain⟨hx1,h⟩:=h
    refine fq hx1 J<|aP<|aA<|ay J<|fP p7 kc J (eo hx1)<|bw kc tm J fun b2=>gU J<|bG kc aB J<|bg 9 J<|bp<|aP ?_;refine av<|aO J<|s (aD (D J))<|aX 15 iF J<|s (aE (r:=rH bW [(1,an l2 c1 ob.kinds.length),(2,an l3 c2 ob.open_.length)]) (x:=ce ob (an l4 c3 ob.result.length)) cF J J (dZ jx) (.head _) (D J))<|aO J<|aO J<|s (fc (D J) (D J))<|bT h fun e3 q_e3 h=>fP er bS J q_e3<|aW J<|ay J<|aO J<|ah J (ca rR pT J J)<|ah J (fun X=>gG ra J lk J (bC J X))<|ah J (b7 AS J J)<|ah J (ml sE J)<|ah J (kL J)<|cB J ?_;refine aW J<|a8<|bz nh ll bS J<|bp<|aA ?_;refine gR (bx:=fun x=>ek l (bN l tl1) i1 e2 ok1 ob e3 x=some R) (Of:=fun x=>[Z (rH bW [(1,an l2 c1 ob.kinds.length),(2,an l3 c2 ob.open_.length)]) 168 b (ce ob (an l4 c3 ob.result.length)),tip nt 69 l2 c1 ob.kinds,cM bH 3 l3 c2 ob.open_,cM bH 3 l4 c3 ob.result]) (Gf:=fun x=>[(0,K (M b 0)),(4,nu l.n.Keys),(5,gw (ok1&&((e2.Arg.Nodes.length:Int)==(0:Int)))),(8,bA (i1:Int)),(10,bA e3),(87,ep (eV) l.n.Aggs),(88,nu l.n.Aggs),(89,bA (i1:Int)),(112,bA e2.Tag),(113,gw x)]) (fun x h=>?_) (fun tV=>?_)
    ·skip
     refine iX h J (fun h=>?_) (fun h=>?_)
     ·refine av<|aO J<|aO J<|ah J (cN J)<|ah J (kL J)<|cB J<|gU J<|aS<|aF<|dY hx1 hN1 J ?_;exact bf (aT (ih1 (i1+1) ((ok1&&((e2.Arg.Nodes.length:Int)==(0:Int)))&&(e3==(2:Int))) ob l2 c1 l3 c2 l4 c3 ⟨dO hx1,h⟩) (bj J))
     ·refine a8<|bM J<|aW J<|iX h J (fun h=>?_) (fun h=>?_)
      ·refine ay J<|aO J<|ah J (cN J)<|ah J (kL J)<|cB J<|aW J<|av<|aO J<|s (aD (D J))<|aX 17 eU J<|s (lX cF (dZ kx) (.head _) J (D J))<|aO J<|aO J<|s (fc (D J) (D J))<|bT h fun e4 q_e4 h=>s (gy er bS (.tail _ (.tail _ (.tail _ (.head _)))) (D J) (D J) q_e4)<|qI<|bT h fun st q_st h=>zn bS J aB J q_e4 (so q_st) (D J) hI<|qH (vA (so q_st)) 131 J ?_;refine B8 (O' :=[cM bH 3 l4 c3 st,Z (rH bW [(1,an l2 c1 ob.kinds.length),(2,an l3 c2 ob.open_.length)]) 168 b (ce ob (an l4 c3 st.length)),tip nt 69 l2 c1 ob.kinds,cM bH 3 l3 c2 ob.open_]) (by rw [vA (so q_st)])<|aS<|aF<|dY hx1 hN1 J<|aK<|aK<|aK ?_;exact bf (aT (ih1 (i1+1) ((ok1&&((e2.Arg.Nodes.length:Int)==(0:Int)))&&(e3==(4:Int))) ({ob with result:=st}:ai) l2 c1 l3 c2 l4 c3 ⟨dO hx1,h⟩) (bj J))
      ·refine gR (bx:=fun x1=>f7 (bN l tl1) i1 e2 ok1 ob e3 x1=some R) (Of:=fun x1=>[Z (rH bW [(1,an l2 c1 ob.kinds.length),(2,an l3 c2 ob.open_.length)]) 168 b (ce ob (an l4 c3 ob.result.length)),tip nt 69 l2 c1 ob.kinds,cM bH 3 l3 c2 ob.open_,cM bH 3 l4 c3 ob.result]) (Gf:=fun x1=>[(0,K (M b 0)),(4,nu l.n.Keys),(5,gw (ok1&&((e2.Arg.Nodes.length:Int)==(0:Int)))),(10,bA e3),(87,ep (eV) l.n.Aggs),(88,nu l.n.Aggs),(89,bA (i1:Int)),(136,gw x1)]) (fun x1 h=>?_) (fun K1=>?_)
       ·skip
        refine iX h J (fun h=>?_) (fun h=>?_)
        ·refine av<|aO J<|aO J<|ah J (cN J)<|ah J (zB J)<|cB J<|gU J<|aS<|aF<|dY hx1 hN1 J ?_;exact bf (aT (ih1 (i1+1) ((ok1&&((e2.Arg.Nodes.length:Int)==(0:Int)))&&(e3 !=(4:Int))) ob l2 c1 l3 c2 l4 c3 ⟨dO hx1,h⟩) (bj J))
        ·refine av<|bE<|aS<|aF<|dY hx1 hN1 J ?_;exact bf (aT (ih1 (i1+1) false ob l2 c1 l3 c2 l4 c3 ⟨dO hx1,h⟩) (bj J))
       ·skip
        refine a8<|bM J<|aW J<|iX h J (fun h=>?_) (fun h=>?_)
        ·refine bD ?_;exact bP (K1 (e2.Tag==(4:Int)) h) (bj J)
        ·refine av<|bM J<|gU J<|aS ?_;exact bP (K1 (e2.Tag==(5:Int)) h) (bj J)
    ·skip
     refine a8<|bM J<|aW J<|iX h J (fun h=>?_) (fun h=>?_)
     ·refine bD ?_;exact bP (tV (e2.Tag==(1:Int)) h) (bj J)
     ·refine av<|bM J<|gU J<|aS ?_;exact bP (tV (e2.Tag==(2:Int)) h) (bj J)
  ·obtain⟨V,h⟩:=h
   refine fq V J<|aP<|aA<|ay J<|fP er bS J (eo V)<|gU J<|aW J<|av<|aO J<|aO J ?_;refine ah J (cN J)<|ah J (cN J)<|ah J (fun X=>dx (bC J X) (bC J X))<|cB J<|aO J<|bT h fun t q_t h=>ah J (cN J)<|ah J (fun X=>aD (bC J X))<|ah J (fun X=>bK (n:=15) iF J (bC J X) J)<|ah J (fun X=>aE (r:=rH bW [(1,an (ix.h 0).1 (ix.h 0).2 l.kinds.length),(2,an (ix.h 1).1 (ix.h 1).2 l.open_.length)]) (x:=ce l (an l1 c r.length)) cF J J (dZ jx) (.head _) (bC J X))<|ah J (cN J) ?_
   obtain⟨e5,h1t,h0t⟩:=og q_t
   have q_e5g:=fun W=>(h1t W).1
   refine ah J (fun X=>tE er bS J (bC J X) (bC J X) (q_e5g X))<|ah J (b7 bS J J)<|ah J (zB J)<|s (cA (D J) (fun W=>(bC J W)) (fun W=>(h1t W).2) h0t)<|gU J<|aS<|dY V hN J ?_;exact bf (aT (ih (i+1) t ⟨dO V,h⟩) (bj J))

def Sg(b:Nat)(ix:OI) l{R}(h:gC l=some R):bd aV 170 [K (M b 0)] (dM b l ix) (fun _:OI=>gw R.1) (fun j=>dM b R.2 j):=by
 refine bd.of Tryz.func170 J J J fun w0 S0=>?_;refine(show CG _ _ _ [Z (rH bh [(1,an (ix.h 0).1 (ix.h 0).2 l.kinds.length),(2,an (ix.h 1).1 (ix.h 1).2 l.open_.length)]) 168 b l,tip nt 69 (ix.h 0).1 (ix.h 0).2 l.kinds,cM bH 3 (ix.h 1).1 (ix.h 1).2 l.open_] _ from ?_);refine a8<|bE<|bp<|ay J<|s (aD (D J))<|aX 17 eU J<|cz false bH 3<|cu<|jQ cF J (qS (hs' :=[(1,an (ix.h 0).1 (ix.h 0).2 l.kinds.length),(2,an (ix.h 1).1 (ix.h 1).2 l.open_.length)]) (kf _ _) ⟨.inr ⟨J,J⟩,.inr ⟨J,J⟩,d⟩ J) J (D J) (Gs (show aI _ _ _ (K Eb)from u5)) ?_;refine(show RG _ _ _ _ [_,_,_,_] _ from ?_);refine bp<|bm<|aO J<|s (aD (D J))<|aX 3 fX J<|aX 12 w8 J<|s (aE (r:=rH bW [(1,an (ix.h 0).1 (ix.h 0).2 l.kinds.length),(2,an (ix.h 1).1 (ix.h 1).2 l.open_.length)]) (x:=ce l (an none 0 (p9.length))) HA J J (dZ (dJ u9 pp)) (.head _) (D J))<|cw yI J<|s (bU hI)<|bp<|aA<|bt (k:=14) J fun hN=>bV<|fD<|fO<|fO<|fO ?_;refine aT (ta (bx:=fun ls i ob l1 c l2 c1 l3 c2=>(l.n.Items.drop i=ls)/\dH ls ob=some R) (Of:=fun _ i ob l1 c l2 c1 l3 c2=>[Z (rH bW [(1,an l1 c ob.kinds.length),(2,an l2 c1 ob.open_.length)]) 168 b (ce ob (an l3 c2 ob.result.length)),tip nt 69 l1 c ob.kinds,cM bH 3 l2 c1 ob.open_,cM bH 3 l3 c2 ob.result]) (Gf:=fun _ i ob l1 c l2 c1 l3 c2=>[(0,K (M b 0)),(14,ep (cD) l.n.Items),(15,nu l.n.Items),(16,bA (i:Int))]) (fun i ob l1 c l2 c1 l3 c2 h=>?_) (fun e tl ih i ob l1 c l2 c1 l3 c2 h=>?_) l.n.Items 0 ({l with result:=p9}:ai) (ix.h 0).1 (ix.h 0).2 (ix.h 1).1 (ix.h 1).2 none 0 ⟨J,h⟩) (bj J)
 ·obtain⟨V,h⟩:=h
  refine ft V J<|aH<|ay J<|s (aD (D J))<|aX 17 eU J<|s (lX cF (dZ kx) (.head _) J (D J))<|s (hD er (.tail _ (.tail _ (.tail _ (.head _)))) (D J))<|s (jL (D J) hI)<|aW J ?_;exact pA<|aK<|df<|bJ 45 J<|aj<|sw (r' :=rH bh [(1,an l1 c ob.kinds.length),(2,an l2 c1 ob.open_.length)]) (x' :=ob) (fun _ _ _ ho h=>NZ h (fun h=>gM (pI ho (.head _)) h))<|aj<|ba<|aG<|aG<|aG<|so h▸bB J (o5 [(l1,c),(l2,c1)]) J J (fun _ _ h=>h)
 ·obtain⟨V,h⟩:=h
  refine fq V J<|aP<|aA<|a8<|fP yI kX J (eo V)<|bw kX rr J fun b1=>bG kX aB J<|bg 4 J<|bp<|aP<|bT h fun r q_r h=>?_
  refine jV (ts:=[_,_,_,_,_,_,_,_,_,_,_]) mixed J J
   ⟨Ho 4 J J (AJ kX J J),
   ⟨gx J J,
   ⟨fm 22 1 J J (aD (D J)),
   ⟨fm 23 2 J J (oz 15 iF J J J),
   ⟨fm 24 3 J J (aE (r:=rH bW [(1,an l1 c ob.kinds.length),(2,an l2 c1 ob.open_.length)]) (x:=ce ob (an l3 c2 ob.result.length)) cF J J (dZ jx) (.head _) (D J)),
   ⟨jz 21 0 25 4 J J J (c7 JZ (An _ _ q_r) ⟨(D J),(D J),d⟩),
   ⟨fm 26 5 J J (m1 J),
   ⟨fm 20 6 J J (Hn J J),
   ⟨fm 20 6 J J (Hn J J),
   ⟨fm 27 7 J J (Hp J),
   ⟨fm 28 8 J J (Hp J),
   d⟩⟩⟩⟩⟩⟩⟩⟩⟩⟩⟩ ?_
  refine aH<|bm<|aO J<|nW J<|dd h J (fun h=>?_) (fun h=>?_)
  ·exact a8<|bE<|cj<|aC<|fa<|aC<|fa<|aK<|df<|aj<|sw (r' :=rH bh [(1,an l1 c ob.kinds.length),(2,an l2 c1 ob.open_.length)]) (x' :=ob) (fun _ _ _ ho h=>NZ h (fun h=>gM (pI ho (.head _)) h))<|aj<|ba<|aG<|aG<|aG<|so h▸bB J (o5 [(l1,c),(l2,c1)]) J J (fun _ _ h=>h)
  ·refine ji<|av<|aO J<|aO J<|s (aD (D J))<|aX 17 eU J<|s (lX cF (dZ kx) (.head _) J (D J))<|aO J<|s (aY (r:=bH) (ys:=[r.1]) (xs:=[.tmp 36]) er bS J J J J J ⟨(D J),d⟩)<|qI<|bT h fun l4 q_l4 h=>cU bS J J J J er J J (D J) (D J) q_l4 fun l5 c3=>s (aD (D J))<|aX 17 eU J<|cu<|jQ cF J (qS (hs' :=[(1,an l1 c ob.kinds.length),(2,an l2 c1 ob.open_.length)]) (gQ _ _ _) ⟨.inr ⟨J,J⟩,.inr ⟨J,J⟩,d⟩ J) J (D J) (Gs (D J)) ?_;refine(show RG _ _ _ _ [_,_,_,_] _ from ?_);refine aS<|dY V hN J<|aj<|aK<|aK<|aK ?_;exact bf (aT (ih (i+1) ({ob with result:=l4}:ai) l1 c l2 c1 l5 c3 ⟨dO V,h⟩) (bj J))

def Sf(b:Nat)(ix:OI) l{R}(h:j4 l=some R):bd aV 171 [K (M b 0)] (dM b l ix) (fun _:OI=>gw R.1) (fun j=>dM b R.2 j):=by
 refine bd.of Tryz.func171 J J J fun w0 S0=>?_;refine(show CG _ _ _ [Z (rH bh [(1,an (ix.h 0).1 (ix.h 0).2 l.kinds.length),(2,an (ix.h 1).1 (ix.h 1).2 l.open_.length)]) 168 b l,tip nt 69 (ix.h 0).1 (ix.h 0).2 l.kinds,cM bH 3 (ix.h 1).1 (ix.h 1).2 l.open_] _ from ?_);refine a8<|bE<|bp<|ay J<|aO J<|s (aD (D J))<|aX 15 iF J<|s (aE (r:=rH bh [(1,an (ix.h 0).1 (ix.h 0).2 l.kinds.length),(2,an (ix.h 1).1 (ix.h 1).2 l.open_.length)]) (x:=l) cF J J (dZ nf) (.head _) (D J))<|s (aD (D J))<|aX 17 eU J<|d6 (cK cF J (mF (hs' :=[(1,an (ix.h 0).1 (ix.h 0).2 l.kinds.length),(2,an (ix.h 1).1 (ix.h 1).2 l.open_.length)]) qC ⟨.inr ⟨J,J⟩,.inr ⟨J,J⟩,d⟩ J) J (D J) (D J)) fun i=>?_;refine(show RG _ _ _ _ [_,_,_] _ from ?_);exact bp<|a8<|bE<|cj<|aG<|aG<|aG<|so h▸bB J ix J J (fun _ _ h=>h)

def Se(b:Nat)(ix:OI) l{R}(h:gV l=some R):bd aV 172 [K (M b 0)] (dM b l ix) (fun _:OI=>gw R.1) (fun j=>dM b R.2 j):=by
 refine bd.of Tryz.func172 J J J fun w0 S0=>?_;refine(show CG _ _ _ [Z (rH bh [(1,an (ix.h 0).1 (ix.h 0).2 l.kinds.length),(2,an (ix.h 1).1 (ix.h 1).2 l.open_.length)]) 168 b l,tip nt 69 (ix.h 0).1 (ix.h 0).2 l.kinds,cM bH 3 (ix.h 1).1 (ix.h 1).2 l.open_] _ from ?_);refine a8<|bE<|bp<|aP<|aP ?_
 refine jV (ts:=[_,_,_,_,_,_,_,_,_,_,_]) mixed J J
  ⟨gx J J,
  ⟨fm 6 0 J J (aD (D J)),
  ⟨fm 7 1 J J (oz 15 iF J J J),
  ⟨fm 8 2 J J (aE (r:=rH bh [(1,an (ix.h 0).1 (ix.h 0).2 l.kinds.length),(2,an (ix.h 1).1 (ix.h 1).2 l.open_.length)]) (x:=l) cF J J (dZ nf) (.head _) (D J)),
  ⟨fm 9 3 J J (QK er J),
  ⟨gx J J,
  ⟨fm 11 5 J J (aD (D J)),
  ⟨fm 12 6 J J (oz 16 yi J J J),
  ⟨fm 13 7 J J (aE (r:=rH bh [(1,an (ix.h 0).1 (ix.h 0).2 l.kinds.length),(2,an (ix.h 1).1 (ix.h 1).2 l.open_.length)]) (x:=l) cF J J (dZ DG) (.head _) (D J)),
  ⟨fm 14 8 J J (QK er J),
  ⟨jz 10 4 15 9 J J J (jm (D J) (D J)),
  d⟩⟩⟩⟩⟩⟩⟩⟩⟩⟩⟩ ?_
 refine aH<|iX h J (fun h=>?_) (fun h=>?_)
 ·exact a8<|bE<|cj<|aC<|aG<|aG<|aG<|so h▸bB J ix J J (fun _ _ h=>h)
 ·refine ji<|ay J<|s (aD (D J))<|aX 17 eU J<|cz false bH 3<|cu<|jQ cF J (qS (hs' :=[(1,an (ix.h 0).1 (ix.h 0).2 l.kinds.length),(2,an (ix.h 1).1 (ix.h 1).2 l.open_.length)]) (kf _ _) ⟨.inr ⟨J,J⟩,.inr ⟨J,J⟩,d⟩ J) J (D J) (Gs (show aI _ _ _ (K Eb)from u5)) ?_;refine(show RG _ _ _ _ [_,_,_,_] _ from ?_);refine bp<|bm<|aO J<|s (aD (D J))<|aX 15 iF J<|s (aE (r:=rH bW [(1,an (ix.h 0).1 (ix.h 0).2 l.kinds.length),(2,an (ix.h 1).1 (ix.h 1).2 l.open_.length)]) (x:=ce l (an none 0 (p9.length))) cF J J (dZ jx) (.head _) (D J))<|cw er J<|s (bU hI)<|bp<|aA<|bt (k:=23) J fun hN=>bV<|fD<|fO<|fO<|fO ?_;refine aT (ta (bx:=fun ls i ob l1 c l2 c1 l3 c2=>(l.a_.drop i=ls)/\cS ls i ob=some R) (Of:=fun _ i ob l1 c l2 c1 l3 c2=>[Z (rH bW [(1,an l1 c ob.kinds.length),(2,an l2 c1 ob.open_.length)]) 168 b (ce ob (an l3 c2 ob.result.length)),tip nt 69 l1 c ob.kinds,cM bH 3 l2 c1 ob.open_,cM bH 3 l3 c2 ob.result]) (Gf:=fun _ i ob l1 c l2 c1 l3 c2=>[(0,K (M b 0)),(23,nj l.a_),(24,nu l.a_),(25,bA (i:Int))]) (fun i ob l1 c l2 c1 l3 c2 h=>?_) (fun e tl ih i ob l1 c l2 c1 l3 c2 h=>?_) l.a_ 0 ({l with result:=p9}:ai) (ix.h 0).1 (ix.h 0).2 (ix.h 1).1 (ix.h 1).2 none 0 ⟨J,h⟩) (bj J)
  ·obtain⟨V,h⟩:=h
   refine ft V J<|aH<|a8<|bE<|cj<|aK<|df<|aj<|sw (r' :=rH bh [(1,an l1 c ob.kinds.length),(2,an l2 c1 ob.open_.length)]) (x' :=ob) (fun _ _ _ ho h=>NZ h (fun h=>gM (pI ho (.head _)) h))<|aj ?_;exact ba<|aG<|aG<|aG<|so h▸bB J (o5 [(l1,c),(l2,c1)]) J J (fun _ _ h=>h)
  ·obtain⟨V,h⟩:=h
   refine fq V J<|aP<|aA<|ay J<|fP er bS J (eo V)<|gU J<|aW J<|ay J ?_;refine s (aD (D J))<|aX 16 yi J<|s (aE (r:=rH bW [(1,an l1 c ob.kinds.length),(2,an l2 c1 ob.open_.length)]) (x:=ce ob (an l3 c2 ob.result.length)) cF J J (dZ GB) (.head _) (D J))<|aO J<|bT h fun e1 q_e1 h=>fP er bS J q_e1<|aW J ?_;refine gR (bx:=fun k=>ej (cS tl) i ob e1 k=some R) (Of:=fun k=>[Z (rH bW [(1,an l1 c ob.kinds.length),(2,an l2 c1 ob.open_.length)]) 168 b (ce ob (an l3 c2 ob.result.length)),tip nt 69 l1 c ob.kinds,cM bH 3 l2 c1 ob.open_,cM bH 3 l3 c2 ob.result]) (Gf:=fun k=>[(0,K (M b 0)),(4,bA k),(5,bA e1),(23,nj l.a_),(24,nu l.a_),(25,bA (i:Int))]) (fun k h=>?_) (fun tV=>?_)
   ·skip
    refine bm<|aO J<|nW J<|aO J<|ah J (cN J)<|ah J (cN J)<|ah J (fun X=>jm (bC J X) (bC J X))<|cB J<|dd h J (fun h=>?_) (fun h=>?_)
    ·exact a8<|bE<|cj<|aC<|fa<|aC<|fa<|aK<|df<|aj<|sw (r' :=rH bh [(1,an l1 c ob.kinds.length),(2,an l2 c1 ob.open_.length)]) (x' :=ob) (fun _ _ _ ho h=>NZ h (fun h=>gM (pI ho (.head _)) h))<|aj<|ba<|aG<|aG<|aG<|so h▸bB J (o5 [(l1,c),(l2,c1)]) J J (fun _ _ h=>h)
    ·refine ji<|av<|aO J<|aO J<|s (aD (D J))<|aX 17 eU J<|s (lX cF (dZ kx) (.head _) J (D J))<|aO J<|s (aY (r:=bH) (ys:=[k]) (xs:=[.tmp 52]) er bS J J J J J ⟨(D J),d⟩)<|qI<|bT h fun l4 q_l4 h=>cU bS J J J J er J J (D J) (D J) q_l4 fun l5 c3=>s (aD (D J))<|aX 17 eU J<|cu<|jQ cF J (qS (hs' :=[(1,an l1 c ob.kinds.length),(2,an l2 c1 ob.open_.length)]) (gQ _ _ _) ⟨.inr ⟨J,J⟩,.inr ⟨J,J⟩,d⟩ J) J (D J) (Gs (D J)) ?_;refine(show RG _ _ _ _ [_,_,_,_] _ from ?_);refine aS<|dY V hN J<|aj<|aK<|aK<|aK ?_;exact bf (aT (ih (i+1) ({ob with result:=l4}:ai) l1 c l2 c1 l5 c3 ⟨dO V,h⟩) (bj J))
   ·skip
    refine ay J<|bM J<|dd h J (fun h=>?_) (fun h=>?_)
    ·refine av<|aO J<|gU J<|aS ?_;exact bP (tV e1 h) (bj J)
    ·refine bD ?_;exact bP (tV e h) (bj J)

def Pd ae f{R}(h:gz ae f=some R):dy aV 238 [ep (gB) ae,(ke aV LS nM (fun(x:j3)=>f x))] (bA R):=by
 refine eu Tryz.func238 J<|a8<|cC<|bp<|bm<|aO J<|cw xp J<|s (bU hI)<|bp<|aA<|bt (k:=6) J fun hN=>bV ?_;refine aT (gO (bx:=fun ls i=>(ae.drop i=ls)/\di f ls i=some R) (Of:=fun _ i=>[]) (Gf:=fun _ i=>[(0,ep (gB) ae),(1,(ke aV LS nM (fun(x:j3)=>f x))),(7,nu ae),(8,bA (i:Int))]) (fun i h=>?_) (fun e tl ih i h=>?_) ae 0 ⟨J,h⟩) (bj J)
 ·obtain⟨V,h⟩:=h
  exact ft V J<|aH<|a8<|fZ<|so h▸aQ J J
 ·obtain⟨V,h⟩:=h
  refine fq V J<|aP<|aA<|ay J<|aW J<|ay J<|aO J<|aO J<|C2 xp qR J (eo V) ?_;refine eJ qR J<|bT h fun r q_r h=>s (ko (args:=LS) (res:=xB) (f:=(fun(x:j3)=>f x)) (x:=((e):j3)) (D J) q_r ⟨(D J),d⟩)<|dd h J (fun h=>?_) (fun h=>?_)
  ·exact ay J<|bk J<|fa<|aC<|fa<|so h▸aQ J J
  ·refine bD<|dY V hN J ?_;exact bf (aT (ih (i+1) ⟨dO V,h⟩) (bj J))

def Pn ae f{R}(h:ec ae f=some R):dy aV 207 [ep (gB) ae,(ke aV LS nM (fun(x:j3)=>f x))] (gw R):=by
 exact eu Tryz.func207 J<|a8<|bE<|bp<|ay J<|aO J<|iw h UB (Pd _ _) (eb J) fun r h=>s (gE (D J) hI)<|bk J<|so h▸aQ J J

end Go.Proofs.YtdohlidddcgfjaaGreat

