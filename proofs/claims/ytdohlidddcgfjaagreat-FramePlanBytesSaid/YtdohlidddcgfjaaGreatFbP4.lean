/- bR of this claim: P4. -/
import Derived.Test.YtdohlidddcgfjaaGreatFbT
import Derived.Test.YtdohlidddcgfjaaGreatFbP3
set_option linter.all false
namespace Go.Proofs.YtdohlidddcgfjaaGreat
open Go
set_option maxRecDepth 100000

def Sk(b:Nat)(ix:OI) l{R}(h:dF l=some R):bd aV 167 [K (M b 0)] (dM b l ix) (fun _:OI=>gw R.1) (fun j=>dM b R.2 j):=by
 refine bd.of Tryz.func167 J J J fun w0 S0=>?_;refine(show CG _ _ _ [Z (rH bh [(1,an (ix.h 0).1 (ix.h 0).2 l.kinds.length),(2,an (ix.h 1).1 (ix.h 1).2 l.open_.length)]) 168 b l,tip nt 69 (ix.h 0).1 (ix.h 0).2 l.kinds,cM bH 3 (ix.h 1).1 (ix.h 1).2 l.open_] _ from ?_);refine a8<|bE<|bp<|ay J<|s (aD (D J))<|aX 3 fX J<|s (aE (r:=rH bh [(1,an (ix.h 0).1 (ix.h 0).2 l.kinds.length),(2,an (ix.h 1).1 (ix.h 1).2 l.open_.length)]) (x:=l) fG J J (dZ eD) (.head _) (D J))<|bw fG j7 J fun b1=>bG fG aB J<|bg 3 J<|bp<|a8<|bz oT iq cF J<|cw er J<|s (gu (D J) hI)<|aO J<|ah J (ca nr gc J J) ?_;refine ah J (b7 vY J J)<|ah J (ml p7 J)<|ah J (fun X=>gu (bC J X) hI)<|cB J<|aO J<|ah J (ca oT iq J J)<|ah J (b7 cF J J)<|ah J (ml er J)<|ah J (ca nr gc J J)<|ah J (b7 vY J J)<|ah J (ml p7 J)<|ah J (fun X=>fc (bC J X) (bC J X))<|ah J (fun X=>jL (bC J X) hI)<|cB J<|aW J<|ay J<|s (aD (D J))<|aX 17 eU J<|cz false bH 3<|cu ?_;refine jQ cF J (qS (hs' :=[(1,an (ix.h 0).1 (ix.h 0).2 l.kinds.length),(2,an (ix.h 1).1 (ix.h 1).2 l.open_.length)]) (kf _ _) ⟨.inr ⟨J,J⟩,.inr ⟨J,J⟩,d⟩ J) J (D J) (Gs (show aI _ _ _ (K Eb)from u5)) ?_;refine(show RG _ _ _ _ [_,_,_,_] _ from ?_);refine bp<|bm<|bz oT iq cF J<|cw er J<|s (bU hI)<|bp<|aA<|bt (k:=40) J fun hN=>bV<|fD<|fO<|fO<|fO ?_;refine aT (ta (bx:=fun ls i ob l1 c l2 c1 l3 c2=>(l.n.Keys.drop i=ls)/\cT l ls ob=some R) (Of:=fun _ i ob l1 c l2 c1 l3 c2=>[Z (rH bW [(1,an l1 c ob.kinds.length),(2,an l2 c1 ob.open_.length)]) 168 b (ce ob (an l3 c2 ob.result.length)),tip nt 69 l1 c ob.kinds,cM bH 3 l2 c1 ob.open_,cM bH 3 l3 c2 ob.result]) (Gf:=fun _ i ob l1 c l2 c1 l3 c2=>[(0,K (M b 0)),(3,cH bc l.n),(4,gw (((decide ((l.n.Keys.length:Int)<=(3:Int)))&&(decide ((l.n.Aggs.length:Int)<=(12:Int))))&&(decide ((0:Int)<(IntKind.i64.wrap ((l.n.Keys.length:Int)+(l.n.Aggs.length:Int))))))),(40,nj l.n.Keys),(41,nu l.n.Keys),(42,bA (i:Int))]) (fun i ob l1 c l2 c1 l3 c2 h=>?_) (fun e tl ih i ob l1 c l2 c1 l3 c2 h=>?_) l.n.Keys 0 ({l with result:=p9}:ai) (ix.h 0).1 (ix.h 0).2 (ix.h 1).1 (ix.h 1).2 none 0 ⟨J,h⟩) (bj J)
 ·obtain⟨V,h⟩:=h
  refine ft V J<|aH<|bm<|bz nr gc vY J<|cw p7 J<|s (bU hI)<|bp<|aA<|bt (k:=75) J fun hN1=>?_;refine bV ?_;refine aT (yz (bx:=fun ls1 i1 ok ob1 l4 c3 l5 c4 l6 c5=>(l.n.Aggs.drop i1=ls1)/\cd ls1 ok ob1=some R) (Of:=fun _ i1 ok ob1 l4 c3 l5 c4 l6 c5=>[Z (rH bW [(1,an l4 c3 ob1.kinds.length),(2,an l5 c4 ob1.open_.length)]) 168 b (ce ob1 (an l6 c5 ob1.result.length)),tip nt 69 l4 c3 ob1.kinds,cM bH 3 l5 c4 ob1.open_,cM bH 3 l6 c5 ob1.result]) (Gf:=fun _ i1 ok ob1 l4 c3 l5 c4 l6 c5=>[(0,K (M b 0)),(4,gw ok),(75,ep (eV) l.n.Aggs),(76,nu l.n.Aggs),(77,bA (i1:Int))]) (fun i1 ok ob1 l4 c3 l5 c4 l6 c5 h=>?_) (fun e1 tl1 ih1 i1 ok ob1 l4 c3 l5 c4 l6 c5 h=>?_) l.n.Aggs 0 (((decide ((l.n.Keys.length:Int)<=(3:Int)))&&(decide ((l.n.Aggs.length:Int)<=(12:Int))))&&(decide ((0:Int)<(IntKind.i64.wrap ((l.n.Keys.length:Int)+(l.n.Aggs.length:Int)))))) ob l1 c l2 c1 l3 c2 ⟨J,h⟩) (bj J)
  ·obtain⟨hx1,h⟩:=h
   refine ft hx1 J<|aH<|ay J<|bk J<|aK<|df<|aj<|sw (r' :=rH bh [(1,an l4 c3 ob1.kinds.length),(2,an l5 c4 ob1.open_.length)]) (x' :=ob1) (fun _ _ _ ho h=>NZ h (fun h=>gM (pI ho (.head _)) h)) ?_;exact aj<|ba<|aG<|aG<|aG<|so h▸bB J (o5 [(l4,c3),(l5,c4)]) J J (fun _ _ h=>h)
  ·obtain⟨hx1,h⟩:=h
   refine fq hx1 J<|aP<|aA<|a8<|fP p7 kc J (eo hx1)<|bw kc tm J fun b2=>bG kc aB J<|bg 8 J<|bp<|a8<|cC ?_;refine bp ?_;refine D1 (bx:=fun ok1 k=>dP (cd tl1) ob1 ok1 k=some R) (Of:=fun ok1 k=>[Z (rH bW [(1,an l4 c3 ob1.kinds.length),(2,an l5 c4 ob1.open_.length)]) 168 b (ce ob1 (an l6 c5 ob1.result.length)),tip nt 69 l4 c3 ob1.kinds,cM bH 3 l5 c4 ob1.open_,cM bH 3 l6 c5 ob1.result]) (Gf:=fun ok1 k=>[(0,K (M b 0)),(4,gw ok1),(9,bA k),(75,ep (eV) l.n.Aggs),(76,nu l.n.Aggs),(77,bA (i1:Int))]) (fun ok1 k h=>?_) (fun tV=>?_)
   ·skip
    refine av<|aO J<|aO J<|s (aD (D J))<|aX 17 eU J<|s (lX cF (dZ kx) (.head _) J (D J))<|aO J<|s (aY (r:=bH) (ys:=[k]) (xs:=[.tmp 139]) er bS J J J J J ⟨(D J),d⟩)<|qI<|bT h fun l7 q_l7 h=>cU bS J J J J er J J (D J) (D J) q_l7 fun l8 c6=>s (aD (D J))<|aX 17 eU J<|cu<|jQ cF J (qS (hs' :=[(1,an l4 c3 ob1.kinds.length),(2,an l5 c4 ob1.open_.length)]) (gQ _ _ _) ⟨.inr ⟨J,J⟩,.inr ⟨J,J⟩,d⟩ J) J (D J) (Gs (D J)) ?_;refine(show RG _ _ _ _ [_,_,_,_] _ from ?_);refine aS<|dY hx1 hN1 J<|aj<|aK<|aK<|aK ?_;exact bf (aT (ih1 (i1+1) ok1 ({ob1 with result:=l7}:ai) l4 c3 l5 c4 l8 c6 ⟨dO hx1,h⟩) (bj J))
   ·skip
    refine a8<|bz nh ll bS J<|bM J<|dd h J (fun h=>?_) (fun h=>?_)
    ·refine av<|aO J<|aO J<|ah J (ca rR pT J J)<|ah J (fun X=>gG ra J lk J (bC J X))<|ah J (b7 AS J J)<|ah J (ml sE J)<|ah J (kL J)<|cB J<|gU J<|aS ?_;exact bP (tV (ok&&((e1.Arg.Nodes.length:Int)==(0:Int))) (2:Int) h) (bj J)
    ·refine aP<|bT h fun r q_r h=>?_
     refine jV (ts:=[_,_,_,_,_,_,_,_,_,_,_,_]) mixed J J
      ⟨Ho 8 J J (uv rR pT J J),
      ⟨sH 0 kX J J,
      ⟨gx J J,
      ⟨fm 95 2 J J (aD (D J)),
      ⟨fm 96 3 J J (oz 15 iF J J J),
      ⟨fm 97 4 J J (aE (r:=rH bW [(1,an l4 c3 ob1.kinds.length),(2,an l5 c4 ob1.open_.length)]) (x:=ce ob1 (an l6 c5 ob1.result.length)) cF J J (dZ jx) (.head _) (D J)),
      ⟨jz 94 1 98 5 J J J (c7 JZ (An _ _ q_r) ⟨(D J),(D J),d⟩),
      ⟨fm 99 6 J J (m1 J),
      ⟨fm 92 7 J J (Hn J J),
      ⟨fm 92 7 J J (Hn J J),
      ⟨fm 100 8 J J (Hp J),
      ⟨fm 101 9 J J (Hp J),
      d⟩⟩⟩⟩⟩⟩⟩⟩⟩⟩⟩⟩ ?_
     refine aH<|ay J<|aO J<|ah J (cN J)<|ah J (kL J)<|cB J<|aO J<|ah J (ca nh ll J J)<|ah J (b7 bS J J)<|ah J (fun X=>jL (bC J X) hI)<|cB J<|aO J<|ah J (ca nh ll J J)<|ah J (b7 bS J J)<|ah J (fun X=>gu (bC J X) hI)<|cB J<|aW J<|a8<|sG nh ll J ?_;refine eJ bS J<|bp<|aA<|a8<|bM J<|aW J<|iX h J (fun h=>?_) (fun h=>?_)
     ·refine av<|aO J<|aO J<|ah J (cN J)<|ah J (kL J)<|ah J (rs J)<|c0 J J J J (fun X=>m1 J)<|c0 J J J J (fun X=>dx (bC J X) hI)<|ah J (fun X=>lW (bC J X) (fun W=>(bC J (xk X (y3 W)))))<|cB J<|gU J<|aS<|aF ?_;exact bP (tV ((((ok&&(r.2==(0:Int)))&&(decide ((1:Int)<e1.Tag)))&&(decide (e1.Tag<=(5:Int))))&&((r.1==(2:Int))||(r.1==(0:Int)))) (2:Int) h) (bj J)
     ·refine gR (bx:=fun x=>f6 (cd tl1) e1 ok ob1 r x=some R) (Of:=fun x=>[Z (rH bW [(1,an l4 c3 ob1.kinds.length),(2,an l5 c4 ob1.open_.length)]) 168 b (ce ob1 (an l6 c5 ob1.result.length)),tip nt 69 l4 c3 ob1.kinds,cM bH 3 l5 c4 ob1.open_,cM bH 3 l6 c5 ob1.result]) (Gf:=fun x=>[(0,K (M b 0)),(4,gw (((ok&&(r.2==(0:Int)))&&(decide ((1:Int)<e1.Tag)))&&(decide (e1.Tag<=(5:Int))))),(9,bA 2),(10,bA r.1),(75,ep (eV) l.n.Aggs),(76,nu l.n.Aggs),(77,bA (i1:Int)),(130,gw x)]) (fun x h=>?_) (fun K1=>?_)
      ·skip
       refine iX h J (fun h=>?_) (fun h=>?_)
       ·refine av<|aO J<|gU J<|aS<|aF ?_;exact bP (tV (((ok&&(r.2==(0:Int)))&&(decide ((1:Int)<e1.Tag)))&&(decide (e1.Tag<=(5:Int)))) r.1 h) (bj J)
       ·refine bD<|aF ?_;exact bP (tV (((ok&&(r.2==(0:Int)))&&(decide ((1:Int)<e1.Tag)))&&(decide (e1.Tag<=(5:Int)))) (2:Int) h) (bj J)
      ·skip
       refine a8<|bM J<|aW J<|iX h J (fun h=>?_) (fun h=>?_)
       ·refine bD ?_;exact bP (K1 (e1.Tag==(4:Int)) h) (bj J)
       ·refine av<|bM J<|gU J<|aS ?_;exact bP (K1 (e1.Tag==(5:Int)) h) (bj J)
 ·obtain⟨V,h⟩:=h
  refine fq V J<|aP<|aA<|a8<|fP er bS J (eo V)<|aW J<|bm<|aO J<|s (ij (D J) hI) ?_;refine aO J<|bX J (cN J)<|bX J (cN J)<|bX J (fun X=>aD (bC J X))<|bX J (fun X=>bK (n:=15) iF J (bC J X) J)<|bX J (fun X=>aE (r:=rH bW [(1,an l1 c ob.kinds.length),(2,an l2 c1 ob.open_.length)]) (x:=ce ob (an l3 c2 ob.result.length)) cF J J (dZ jx) (.head _) (bC J X))<|bX J (ml er J)<|bX J (fun X=>gE (bC J X) (bC J X))<|ka J<|dd h J (fun h=>?_) (fun h=>?_)
  ·exact a8<|bE<|cj<|aC<|fa<|aC<|fa<|aK<|df<|aj<|sw (r' :=rH bh [(1,an l1 c ob.kinds.length),(2,an l2 c1 ob.open_.length)]) (x' :=ob) (fun _ _ _ ho h=>NZ h (fun h=>gM (pI ho (.head _)) h))<|aj<|ba<|aG<|aG<|aG<|so h▸bB J (o5 [(l1,c),(l2,c1)]) J J (fun _ _ h=>h)
  ·refine ji<|bT h fun e2 q_e2 h=>bT h fun l9 q_l9 h=>?_
   refine ic 14 [tc (K (M b 0)),tc (K (M b 0)),tc (K (M b 0)),tc (K (M b 17)),tc (pY l3 c2 ob.result),tc (K (M b 0)),tc (K (M b 0)),tc (K (M b 15)),tc (nj ob.a_),tc (bA e),tc (cH bH e2),tc (bA e2),tc (nj ([e2])),([13],fun ae=>K (an ((ae.getD 0 j8).h 0).1 ((ae.getD 0 j8).h 0).2 l9.length))] [false,false,false,false,false,false,false,false,false,false,false,false,false,true] [fun _=>[Z (rH bW [(1,an l1 c ob.kinds.length),(2,an l2 c1 ob.open_.length)]) 168 b (ce ob (an l3 c2 ob.result.length)),tip nt 69 l1 c ob.kinds,cM bH 3 l2 c1 ob.open_,cM bH 3 l3 c2 ob.result],fun sg=>[cM bH 3 ((sg 13).h 0).1 ((sg 13).h 0).2 l9,Z (rH bW [(1,an l1 c ob.kinds.length),(2,an l2 c1 ob.open_.length)]) 168 b (ce ob (an l3 c2 ob.result.length)),tip nt 69 l1 c ob.kinds,cM bH 3 l2 c1 ob.open_]] J mixed J J J J J
    ⟨⟨[⟨0,fun _=>K (M b 0),none⟩],_,0,1,J,⟨(fun _=>J),d⟩,J,J,J,J,J,fun _ sg _ _=>ac J (m1 J)⟩,
    ⟨⟨[⟨0,fun _=>K (M b 0),none⟩],_,0,0,J,⟨(fun _=>J),d⟩,J,J,J,J,J,fun _ sg _ _=>ac J (m1 J)⟩,
    ⟨⟨[⟨58,fun _=>K (M b 0),some 1⟩],_,0,0,J,⟨(fun _=>J),d⟩,J,J,J,J,J,fun _ sg _ _=>ac J (aD (D J))⟩,
    ⟨⟨[⟨59,fun _=>K (M b 0),some 2⟩],_,0,0,J,⟨(fun _=>J),d⟩,J,J,J,J,J,fun _ sg _ _=>ac J (oz 17 eU J J J)⟩,
    ⟨⟨[⟨60,fun _=>K (M b 17),some 3⟩],_,0,0,J,⟨(fun _=>J),d⟩,J,J,J,J,J,mC (fun sg=>ac J (lX cF (dZ kx) (.head _) J (D J)))⟩,
    ⟨⟨[⟨0,fun _=>K (M b 0),none⟩],_,0,0,J,⟨(fun _=>J),d⟩,J,J,J,J,J,fun _ sg _ _=>ac J (m1 J)⟩,
    ⟨⟨[⟨62,fun _=>K (M b 0),some 5⟩],_,0,0,J,⟨(fun _=>J),d⟩,J,J,J,J,J,fun _ sg _ _=>ac J (aD (D J))⟩,
    ⟨⟨[⟨63,fun _=>K (M b 0),some 6⟩],_,0,0,J,⟨(fun _=>J),d⟩,J,J,J,J,J,fun _ sg _ _=>ac J (oz 15 iF J J J)⟩,
    ⟨⟨[⟨64,fun _=>K (M b 15),some 7⟩],_,0,0,J,⟨(fun _=>J),d⟩,J,J,J,J,J,mC (fun sg=>ac J (aE (r:=rH bW [(1,an l1 c ob.kinds.length),(2,an l2 c1 ob.open_.length)]) (x:=ce ob (an l3 c2 ob.result.length)) cF J J (dZ jx) (.head _) (D J)))⟩,
    ⟨⟨[⟨6,fun _=>tD bH e,none⟩],_,0,0,J,⟨(fun _=>J),d⟩,J,J,J,J,J,fun _ sg _ _=>ac J (m1 J)⟩,
    ⟨⟨[⟨65,fun _=>tD wF ob.a_,some 8⟩,⟨66,fun _=>tD bH e,some 9⟩],_,0,0,J,⟨(fun _=>J),(fun _=>J),d⟩,J,J,J,J,J,fun _ sg _ _=>ac J (Jh er bS J J J q_e2)⟩,
    ⟨⟨[⟨67,fun _=>cH bH e2,some 10⟩],_,0,0,J,⟨(fun _=>J),d⟩,J,J,J,J,J,fun _ sg _ _=>ac J (AJ bS J J)⟩,
    ⟨⟨[⟨68,fun _=>tD bH e2,some 11⟩],_,0,0,J,⟨(fun _=>J),d⟩,J,J,J,J,J,fun _ sg _ _=>ac J (aY (r:=bH) (ys:=[e2]) (xs:=[.tmp 68]) er bS J J J J J ⟨(D J),d⟩)⟩,
    ⟨⟨[⟨61,fun _=>K (an l3 c2 ob.result.length),some 4⟩,⟨69,fun _=>tD wF ([e2]),some 12⟩],_,J,⟨(fun _=>J),(fun _=>J),d⟩,J,J,J,fun sg=>cm J (EffOK.fr3 (rW bS J J J J er J (D J) (D J) q_l9))⟩,
    d⟩⟩⟩⟩⟩⟩⟩⟩⟩⟩⟩⟩⟩⟩ (fun sg=>?_)
   refine(show RG _ _ _ _ [_,_,_,_] _ from ?_);refine s (aD (D J))<|aX 17 eU J<|cu<|jQ cF J (qS (hs' :=[(1,an l1 c ob.kinds.length),(2,an l2 c1 ob.open_.length)]) (gQ _ _ _) ⟨.inr ⟨J,J⟩,.inr ⟨J,J⟩,d⟩ J) J (D J) (Gs (D J)) ?_;refine(show RG _ _ _ _ [_,_,_,_] _ from ?_);refine aS<|dY V hN J<|aj<|aK<|aK<|aK ?_;exact bf (aT (ih (i+1) ({ob with result:=l9}:ai) l1 c l2 c1 ((sg 13).h 0).1 ((sg 13).h 0).2 ⟨dO V,h⟩) (bj J))

def Sj(b:Nat)(ix:OI) l{R}(h:dF l=some R):bd aV 167 [K (M b 0)] (dM b l ix) (fun _:OI=>gw R.1) (fun j=>Ro b R.2 j):=by
 refine bd.of Tryz.func167 J J J fun w0 S0=>?_;refine(show CG _ _ _ [Z (rH bh [(1,an (ix.h 0).1 (ix.h 0).2 l.kinds.length),(2,an (ix.h 1).1 (ix.h 1).2 l.open_.length)]) 168 b l,tip nt 69 (ix.h 0).1 (ix.h 0).2 l.kinds,cM bH 3 (ix.h 1).1 (ix.h 1).2 l.open_] _ from ?_);refine a8<|bE<|bp<|ay J<|s (aD (D J))<|aX 3 fX J<|s (aE (r:=rH bh [(1,an (ix.h 0).1 (ix.h 0).2 l.kinds.length),(2,an (ix.h 1).1 (ix.h 1).2 l.open_.length)]) (x:=l) fG J J (dZ eD) (.head _) (D J))<|bw fG j7 J fun b1=>bG fG aB J<|bg 3 J<|bp<|a8<|bz oT iq cF J<|cw er J<|s (gu (D J) hI)<|aO J<|ah J (ca nr gc J J) ?_;refine ah J (b7 vY J J)<|ah J (ml p7 J)<|ah J (fun X=>gu (bC J X) hI)<|cB J<|aO J<|ah J (ca oT iq J J)<|ah J (b7 cF J J)<|ah J (ml er J)<|ah J (ca nr gc J J)<|ah J (b7 vY J J)<|ah J (ml p7 J)<|ah J (fun X=>fc (bC J X) (bC J X))<|ah J (fun X=>jL (bC J X) hI)<|cB J<|aW J<|ay J<|s (aD (D J))<|aX 17 eU J<|cz false bH 3<|cu ?_;refine jQ cF J (qS (hs' :=[(1,an (ix.h 0).1 (ix.h 0).2 l.kinds.length),(2,an (ix.h 1).1 (ix.h 1).2 l.open_.length)]) (kf _ _) ⟨.inr ⟨J,J⟩,.inr ⟨J,J⟩,d⟩ J) J (D J) (Gs (show aI _ _ _ (K Eb)from u5)) ?_;refine(show RG _ _ _ _ [_,_,_,_] _ from ?_);refine bp<|bm<|bz oT iq cF J<|cw er J<|s (bU hI)<|bp<|aA<|bt (k:=40) J fun hN=>bV<|fD<|fO<|fO<|fO ?_;refine aT (ta (bx:=fun ls i ob l1 c l2 c1 l3 c2=>(l.n.Keys.drop i=ls)/\cT l ls ob=some R) (Of:=fun _ i ob l1 c l2 c1 l3 c2=>[Z (rH bW [(1,an l1 c ob.kinds.length),(2,an l2 c1 ob.open_.length)]) 168 b (ce ob (an l3 c2 ob.result.length)),tip nt 69 l1 c ob.kinds,cM bH 3 l2 c1 ob.open_,cM bH 3 l3 c2 ob.result]) (Gf:=fun _ i ob l1 c l2 c1 l3 c2=>[(0,K (M b 0)),(3,cH bc l.n),(4,gw (((decide ((l.n.Keys.length:Int)<=(3:Int)))&&(decide ((l.n.Aggs.length:Int)<=(12:Int))))&&(decide ((0:Int)<(IntKind.i64.wrap ((l.n.Keys.length:Int)+(l.n.Aggs.length:Int))))))),(40,nj l.n.Keys),(41,nu l.n.Keys),(42,bA (i:Int))]) (fun i ob l1 c l2 c1 l3 c2 h=>?_) (fun e tl ih i ob l1 c l2 c1 l3 c2 h=>?_) l.n.Keys 0 ({l with result:=p9}:ai) (ix.h 0).1 (ix.h 0).2 (ix.h 1).1 (ix.h 1).2 none 0 ⟨J,h⟩) (bj J)
 ·obtain⟨V,h⟩:=h
  refine ft V J<|aH<|bm<|bz nr gc vY J<|cw p7 J<|s (bU hI)<|bp<|aA<|bt (k:=75) J fun hN1=>?_;refine bV ?_;refine aT (yz (bx:=fun ls1 i1 ok ob1 l4 c3 l5 c4 l6 c5=>(l.n.Aggs.drop i1=ls1)/\cd ls1 ok ob1=some R) (Of:=fun _ i1 ok ob1 l4 c3 l5 c4 l6 c5=>[Z (rH bW [(1,an l4 c3 ob1.kinds.length),(2,an l5 c4 ob1.open_.length)]) 168 b (ce ob1 (an l6 c5 ob1.result.length)),tip nt 69 l4 c3 ob1.kinds,cM bH 3 l5 c4 ob1.open_,cM bH 3 l6 c5 ob1.result]) (Gf:=fun _ i1 ok ob1 l4 c3 l5 c4 l6 c5=>[(0,K (M b 0)),(4,gw ok),(75,ep (eV) l.n.Aggs),(76,nu l.n.Aggs),(77,bA (i1:Int))]) (fun i1 ok ob1 l4 c3 l5 c4 l6 c5 h=>?_) (fun e1 tl1 ih1 i1 ok ob1 l4 c3 l5 c4 l6 c5 h=>?_) l.n.Aggs 0 (((decide ((l.n.Keys.length:Int)<=(3:Int)))&&(decide ((l.n.Aggs.length:Int)<=(12:Int))))&&(decide ((0:Int)<(IntKind.i64.wrap ((l.n.Keys.length:Int)+(l.n.Aggs.length:Int)))))) ob l1 c l2 c1 l3 c2 ⟨J,h⟩) (bj J)
  ·obtain⟨hx1,h⟩:=h
   exact ft hx1 J<|aH<|ay J<|bk J<|aK<|aK<|aK<|aK<|so h▸bB J (o5 [(l4,c3),(l5,c4),(l6,c5)]) J J (fun _ _ h=>h)
  ·obtain⟨hx1,h⟩:=h
   refine fq hx1 J<|aP<|aA<|a8<|fP p7 kc J (eo hx1)<|bw kc tm J fun b2=>bG kc aB J<|bg 8 J<|bp<|a8<|cC ?_;refine bp ?_;refine D1 (bx:=fun ok1 k=>dP (cd tl1) ob1 ok1 k=some R) (Of:=fun ok1 k=>[Z (rH bW [(1,an l4 c3 ob1.kinds.length),(2,an l5 c4 ob1.open_.length)]) 168 b (ce ob1 (an l6 c5 ob1.result.length)),tip nt 69 l4 c3 ob1.kinds,cM bH 3 l5 c4 ob1.open_,cM bH 3 l6 c5 ob1.result]) (Gf:=fun ok1 k=>[(0,K (M b 0)),(4,gw ok1),(9,bA k),(75,ep (eV) l.n.Aggs),(76,nu l.n.Aggs),(77,bA (i1:Int))]) (fun ok1 k h=>?_) (fun tV=>?_)
   ·skip
    refine av<|aO J<|aO J<|s (aD (D J))<|aX 17 eU J<|s (lX cF (dZ kx) (.head _) J (D J))<|aO J<|s (aY (r:=bH) (ys:=[k]) (xs:=[.tmp 139]) er bS J J J J J ⟨(D J),d⟩)<|qI<|bT h fun l7 q_l7 h=>cU bS J J J J er J J (D J) (D J) q_l7 fun l8 c6=>s (aD (D J))<|aX 17 eU J<|cu<|jQ cF J (qS (hs' :=[(1,an l4 c3 ob1.kinds.length),(2,an l5 c4 ob1.open_.length)]) (gQ _ _ _) ⟨.inr ⟨J,J⟩,.inr ⟨J,J⟩,d⟩ J) J (D J) (Gs (D J)) ?_;refine(show RG _ _ _ _ [_,_,_,_] _ from ?_);refine aS<|dY hx1 hN1 J<|aj<|aK<|aK<|aK ?_;exact bf (aT (ih1 (i1+1) ok1 ({ob1 with result:=l7}:ai) l4 c3 l5 c4 l8 c6 ⟨dO hx1,h⟩) (bj J))
   ·skip
    refine a8<|bz nh ll bS J<|bM J<|dd h J (fun h=>?_) (fun h=>?_)
    ·refine av<|aO J<|aO J<|ah J (ca rR pT J J)<|ah J (fun X=>gG ra J lk J (bC J X))<|ah J (b7 AS J J)<|ah J (ml sE J)<|ah J (kL J)<|cB J<|gU J<|aS ?_;exact bP (tV (ok&&((e1.Arg.Nodes.length:Int)==(0:Int))) (2:Int) h) (bj J)
    ·refine aP<|bT h fun r q_r h=>?_
     refine jV (ts:=[_,_,_,_,_,_,_,_,_,_,_,_]) mixed J J
      ⟨Ho 8 J J (uv rR pT J J),
      ⟨sH 0 kX J J,
      ⟨gx J J,
      ⟨fm 95 2 J J (aD (D J)),
      ⟨fm 96 3 J J (oz 15 iF J J J),
      ⟨fm 97 4 J J (aE (r:=rH bW [(1,an l4 c3 ob1.kinds.length),(2,an l5 c4 ob1.open_.length)]) (x:=ce ob1 (an l6 c5 ob1.result.length)) cF J J (dZ jx) (.head _) (D J)),
      ⟨jz 94 1 98 5 J J J (c7 JZ (An _ _ q_r) ⟨(D J),(D J),d⟩),
      ⟨fm 99 6 J J (m1 J),
      ⟨fm 92 7 J J (Hn J J),
      ⟨fm 92 7 J J (Hn J J),
      ⟨fm 100 8 J J (Hp J),
      ⟨fm 101 9 J J (Hp J),
      d⟩⟩⟩⟩⟩⟩⟩⟩⟩⟩⟩⟩ ?_
     refine aH<|ay J<|aO J<|ah J (cN J)<|ah J (kL J)<|cB J<|aO J<|ah J (ca nh ll J J)<|ah J (b7 bS J J)<|ah J (fun X=>jL (bC J X) hI)<|cB J<|aO J<|ah J (ca nh ll J J)<|ah J (b7 bS J J)<|ah J (fun X=>gu (bC J X) hI)<|cB J<|aW J<|a8<|sG nh ll J ?_;refine eJ bS J<|bp<|aA<|a8<|bM J<|aW J<|iX h J (fun h=>?_) (fun h=>?_)
     ·refine av<|aO J<|aO J<|ah J (cN J)<|ah J (kL J)<|ah J (rs J)<|c0 J J J J (fun X=>m1 J)<|c0 J J J J (fun X=>dx (bC J X) hI)<|ah J (fun X=>lW (bC J X) (fun W=>(bC J (xk X (y3 W)))))<|cB J<|gU J<|aS<|aF ?_;exact bP (tV ((((ok&&(r.2==(0:Int)))&&(decide ((1:Int)<e1.Tag)))&&(decide (e1.Tag<=(5:Int))))&&((r.1==(2:Int))||(r.1==(0:Int)))) (2:Int) h) (bj J)
     ·refine gR (bx:=fun x=>f6 (cd tl1) e1 ok ob1 r x=some R) (Of:=fun x=>[Z (rH bW [(1,an l4 c3 ob1.kinds.length),(2,an l5 c4 ob1.open_.length)]) 168 b (ce ob1 (an l6 c5 ob1.result.length)),tip nt 69 l4 c3 ob1.kinds,cM bH 3 l5 c4 ob1.open_,cM bH 3 l6 c5 ob1.result]) (Gf:=fun x=>[(0,K (M b 0)),(4,gw (((ok&&(r.2==(0:Int)))&&(decide ((1:Int)<e1.Tag)))&&(decide (e1.Tag<=(5:Int))))),(9,bA 2),(10,bA r.1),(75,ep (eV) l.n.Aggs),(76,nu l.n.Aggs),(77,bA (i1:Int)),(130,gw x)]) (fun x h=>?_) (fun K1=>?_)
      ·skip
       refine iX h J (fun h=>?_) (fun h=>?_)
       ·refine av<|aO J<|gU J<|aS<|aF ?_;exact bP (tV (((ok&&(r.2==(0:Int)))&&(decide ((1:Int)<e1.Tag)))&&(decide (e1.Tag<=(5:Int)))) r.1 h) (bj J)
       ·refine bD<|aF ?_;exact bP (tV (((ok&&(r.2==(0:Int)))&&(decide ((1:Int)<e1.Tag)))&&(decide (e1.Tag<=(5:Int)))) (2:Int) h) (bj J)
      ·skip
       refine a8<|bM J<|aW J<|iX h J (fun h=>?_) (fun h=>?_)
       ·refine bD ?_;exact bP (K1 (e1.Tag==(4:Int)) h) (bj J)
       ·refine av<|bM J<|gU J<|aS ?_;exact bP (K1 (e1.Tag==(5:Int)) h) (bj J)
 ·obtain⟨V,h⟩:=h
  refine fq V J<|aP<|aA<|a8<|fP er bS J (eo V)<|aW J<|bm<|aO J<|s (ij (D J) hI) ?_;refine aO J<|bX J (cN J)<|bX J (cN J)<|bX J (fun X=>aD (bC J X))<|bX J (fun X=>bK (n:=15) iF J (bC J X) J)<|bX J (fun X=>aE (r:=rH bW [(1,an l1 c ob.kinds.length),(2,an l2 c1 ob.open_.length)]) (x:=ce ob (an l3 c2 ob.result.length)) cF J J (dZ jx) (.head _) (bC J X))<|bX J (ml er J)<|bX J (fun X=>gE (bC J X) (bC J X))<|ka J<|dd h J (fun h=>?_) (fun h=>?_)
  ·exact a8<|bE<|cj<|aC<|fa<|aC<|fa<|aK<|aK<|aK<|aK<|so h▸bB J (o5 [(l1,c),(l2,c1),(l3,c2)]) J J (fun _ _ h=>h)
  ·refine ji<|bT h fun e2 q_e2 h=>bT h fun l9 q_l9 h=>?_
   refine ic 14 [tc (K (M b 0)),tc (K (M b 0)),tc (K (M b 0)),tc (K (M b 17)),tc (pY l3 c2 ob.result),tc (K (M b 0)),tc (K (M b 0)),tc (K (M b 15)),tc (nj ob.a_),tc (bA e),tc (cH bH e2),tc (bA e2),tc (nj ([e2])),([13],fun ae=>K (an ((ae.getD 0 j8).h 0).1 ((ae.getD 0 j8).h 0).2 l9.length))] [false,false,false,false,false,false,false,false,false,false,false,false,false,true] [fun _=>[Z (rH bW [(1,an l1 c ob.kinds.length),(2,an l2 c1 ob.open_.length)]) 168 b (ce ob (an l3 c2 ob.result.length)),tip nt 69 l1 c ob.kinds,cM bH 3 l2 c1 ob.open_,cM bH 3 l3 c2 ob.result],fun sg=>[cM bH 3 ((sg 13).h 0).1 ((sg 13).h 0).2 l9,Z (rH bW [(1,an l1 c ob.kinds.length),(2,an l2 c1 ob.open_.length)]) 168 b (ce ob (an l3 c2 ob.result.length)),tip nt 69 l1 c ob.kinds,cM bH 3 l2 c1 ob.open_]] J mixed J J J J J
    ⟨⟨[⟨0,fun _=>K (M b 0),none⟩],_,0,1,J,⟨(fun _=>J),d⟩,J,J,J,J,J,fun _ sg _ _=>ac J (m1 J)⟩,
    ⟨⟨[⟨0,fun _=>K (M b 0),none⟩],_,0,0,J,⟨(fun _=>J),d⟩,J,J,J,J,J,fun _ sg _ _=>ac J (m1 J)⟩,
    ⟨⟨[⟨58,fun _=>K (M b 0),some 1⟩],_,0,0,J,⟨(fun _=>J),d⟩,J,J,J,J,J,fun _ sg _ _=>ac J (aD (D J))⟩,
    ⟨⟨[⟨59,fun _=>K (M b 0),some 2⟩],_,0,0,J,⟨(fun _=>J),d⟩,J,J,J,J,J,fun _ sg _ _=>ac J (oz 17 eU J J J)⟩,
    ⟨⟨[⟨60,fun _=>K (M b 17),some 3⟩],_,0,0,J,⟨(fun _=>J),d⟩,J,J,J,J,J,mC (fun sg=>ac J (lX cF (dZ kx) (.head _) J (D J)))⟩,
    ⟨⟨[⟨0,fun _=>K (M b 0),none⟩],_,0,0,J,⟨(fun _=>J),d⟩,J,J,J,J,J,fun _ sg _ _=>ac J (m1 J)⟩,
    ⟨⟨[⟨62,fun _=>K (M b 0),some 5⟩],_,0,0,J,⟨(fun _=>J),d⟩,J,J,J,J,J,fun _ sg _ _=>ac J (aD (D J))⟩,
    ⟨⟨[⟨63,fun _=>K (M b 0),some 6⟩],_,0,0,J,⟨(fun _=>J),d⟩,J,J,J,J,J,fun _ sg _ _=>ac J (oz 15 iF J J J)⟩,
    ⟨⟨[⟨64,fun _=>K (M b 15),some 7⟩],_,0,0,J,⟨(fun _=>J),d⟩,J,J,J,J,J,mC (fun sg=>ac J (aE (r:=rH bW [(1,an l1 c ob.kinds.length),(2,an l2 c1 ob.open_.length)]) (x:=ce ob (an l3 c2 ob.result.length)) cF J J (dZ jx) (.head _) (D J)))⟩,
    ⟨⟨[⟨6,fun _=>tD bH e,none⟩],_,0,0,J,⟨(fun _=>J),d⟩,J,J,J,J,J,fun _ sg _ _=>ac J (m1 J)⟩,
    ⟨⟨[⟨65,fun _=>tD wF ob.a_,some 8⟩,⟨66,fun _=>tD bH e,some 9⟩],_,0,0,J,⟨(fun _=>J),(fun _=>J),d⟩,J,J,J,J,J,fun _ sg _ _=>ac J (Jh er bS J J J q_e2)⟩,
    ⟨⟨[⟨67,fun _=>cH bH e2,some 10⟩],_,0,0,J,⟨(fun _=>J),d⟩,J,J,J,J,J,fun _ sg _ _=>ac J (AJ bS J J)⟩,
    ⟨⟨[⟨68,fun _=>tD bH e2,some 11⟩],_,0,0,J,⟨(fun _=>J),d⟩,J,J,J,J,J,fun _ sg _ _=>ac J (aY (r:=bH) (ys:=[e2]) (xs:=[.tmp 68]) er bS J J J J J ⟨(D J),d⟩)⟩,
    ⟨⟨[⟨61,fun _=>K (an l3 c2 ob.result.length),some 4⟩,⟨69,fun _=>tD wF ([e2]),some 12⟩],_,J,⟨(fun _=>J),(fun _=>J),d⟩,J,J,J,fun sg=>cm J (EffOK.fr3 (rW bS J J J J er J (D J) (D J) q_l9))⟩,
    d⟩⟩⟩⟩⟩⟩⟩⟩⟩⟩⟩⟩⟩⟩ (fun sg=>?_)
   refine(show RG _ _ _ _ [_,_,_,_] _ from ?_);refine s (aD (D J))<|aX 17 eU J<|cu<|jQ cF J (qS (hs' :=[(1,an l1 c ob.kinds.length),(2,an l2 c1 ob.open_.length)]) (gQ _ _ _) ⟨.inr ⟨J,J⟩,.inr ⟨J,J⟩,d⟩ J) J (D J) (Gs (D J)) ?_;refine(show RG _ _ _ _ [_,_,_,_] _ from ?_);refine aS<|dY V hN J<|aj<|aK<|aK<|aK ?_;exact bf (aT (ih (i+1) ({ob with result:=l9}:ai) l1 c l2 c1 ((sg 13).h 0).1 ((sg 13).h 0).2 ⟨dO V,h⟩) (bj J))

def Si(b:Nat)(ix:OI) l{R}(h:ed l=some R):bd aV 168 [K (M b 0)] (dM b l ix) (fun _:OI=>gw R.1) (fun j=>dM b R.2 j):=by
 refine bd.of Tryz.func168 J J J fun w0 S0=>?_;refine(show CG _ _ _ [Z (rH bh [(1,an (ix.h 0).1 (ix.h 0).2 l.kinds.length),(2,an (ix.h 1).1 (ix.h 1).2 l.open_.length)]) 168 b l,tip nt 69 (ix.h 0).1 (ix.h 0).2 l.kinds,cM bH 3 (ix.h 1).1 (ix.h 1).2 l.open_] _ from ?_);refine a8<|bE<|bp<|ay J<|bT h fun r q_r h=>aR (EffOK.fr2 (EffOK.fr2 (EffOK.fr2 (au (xs:=[.tmp 6]) (ts:=[K (M b 0)]) (dM b l ix) _ J QB (Sj b ix l q_r) ⟨(D J),d⟩ (fun _=>J))))) J fun i=>?_;refine(show RG _ _ _ _ [_,_,_,_] ((7,gw r.1)::_)from ?_);refine aW J<|bm<|aO J<|s (fH (D J))<|dd h J (fun h=>?_) (fun h=>?_)
 ·exact a8<|bE<|cj<|aC<|aK<|df<|aj<|sw (r' :=rH bh [(1,an (i.h 0).1 (i.h 0).2 r.2.kinds.length),(2,an (i.h 1).1 (i.h 1).2 r.2.open_.length)]) (x' :=r.2) (fun _ _ _ ho h=>NZ h (fun h=>gM (pI ho (.head _)) h))<|aj<|ba<|aG<|aG<|aG<|so h▸bB J i J J (fun _ _ h=>h)
 ·refine ji<|bm<|aO J<|s (aD (D J))<|aX 3 fX J<|aX 11 nr J<|s (aE (r:=rH bW [(1,an (i.h 0).1 (i.h 0).2 r.2.kinds.length),(2,an (i.h 1).1 (i.h 1).2 r.2.open_.length)]) (x:=ce r.2 (an (i.h 2).1 (i.h 2).2 r.2.result.length)) vY J J (dZ (dJ u9 gc)) (.head _) (D J))<|cw p7 J<|s (bU hI)<|bp<|aA<|bt (k:=14) J fun hN=>bV ?_;refine aT (ta (bx:=fun ls i1 ob l1 c l2 c1 l3 c2=>(r.2.n.Aggs.drop i1=ls)/\eg ls i1 ob=some R) (Of:=fun _ i1 ob l1 c l2 c1 l3 c2=>[Z (rH bW [(1,an l1 c ob.kinds.length),(2,an l2 c1 ob.open_.length)]) 168 b (ce ob (an l3 c2 ob.result.length)),tip nt 69 l1 c ob.kinds,cM bH 3 l2 c1 ob.open_,cM bH 3 l3 c2 ob.result]) (Gf:=fun _ i1 ob l1 c l2 c1 l3 c2=>[(0,K (M b 0)),(14,ep (eV) r.2.n.Aggs),(15,nu r.2.n.Aggs),(16,bA (i1:Int))]) (fun i1 ob l1 c l2 c1 l3 c2 h=>?_) (fun e tl ih i1 ob l1 c l2 c1 l3 c2 h=>?_) r.2.n.Aggs 0 r.2 (i.h 0).1 (i.h 0).2 (i.h 1).1 (i.h 1).2 (i.h 2).1 (i.h 2).2 ⟨J,h⟩) (bj J)
  ·obtain⟨V,h⟩:=h
   refine ft V J<|aH<|a8<|bE<|cj<|aK<|df<|aj<|sw (r' :=rH bh [(1,an l1 c ob.kinds.length),(2,an l2 c1 ob.open_.length)]) (x' :=ob) (fun _ _ _ ho h=>NZ h (fun h=>gM (pI ho (.head _)) h))<|aj ?_;exact ba<|aG<|aG<|aG<|so h▸bB J (o5 [(l1,c),(l2,c1)]) J J (fun _ _ h=>h)
  ·obtain⟨V,h⟩:=h
   refine fq V J<|aP<|aA<|ay J<|fP p7 kc J (eo V)<|bw kc tm J fun b1=>gU J<|bG kc aB J<|bg 5 J<|bp<|aP ?_;refine av<|bz nh ll bS J<|bM J<|dd h J (fun h=>?_) (fun h=>?_)
   ·refine bT h fun e1 q_e1 h=>?_
    refine pX 13 (ts:=[K (M b 0),K (M b 0),K (M b 17),pY l3 c2 ob.result,K (M b 0),K (M b 0),K (M b 3),K (M b 10),nj ob.n.Keys,nu ob.n.Keys,bA (i1:Int),bA (IntKind.i64.wrap ((ob.n.Keys.length:Int)+(i1:Int))),K (xg l3 ((IntKind.i64.wrap ((ob.n.Keys.length:Int)+(i1:Int))).toNat*1+0))]) mixed J J J
     ⟨gx J J,
     ⟨fm 24 0 J J (aD (D J)),
     ⟨fm 25 1 J J (oz 17 eU J J J),
     ⟨fm 26 2 J J (lX cF (dZ kx) (.head _) J (D J)),
     ⟨gx J J,
     ⟨fm 28 4 J J (aD (D J)),
     ⟨fm 29 5 J J (oz 3 fX J J J),
     ⟨fm 30 6 J J (oz 10 oT J J J),
     ⟨fm 31 7 J J (aE (r:=rH bW [(1,an l1 c ob.kinds.length),(2,an l2 c1 ob.open_.length)]) (x:=ce ob (an l3 c2 ob.result.length)) cF J J (dZ (dJ u9 iq)) (.head _) (D J)),
     ⟨fm 32 8 J J (QK er J),
     ⟨gx J J,
     ⟨jz 33 9 34 10 J J J (fc (D J) (D J)),
     ⟨jz 27 3 35 11 J J J (gy er bS (.tail _ (.tail _ (.tail _ (.head _)))) (D J) (D J) q_e1),
     d⟩⟩⟩⟩⟩⟩⟩⟩⟩⟩⟩⟩⟩ ?_
    refine qI<|bT h fun st q_st h=>zn bS J aB J q_e1 (so q_st) (D J) hI<|qH (vA (so q_st)) 27 J<|B8 (O' :=[cM bH 3 l3 c2 st,Z (rH bW [(1,an l1 c ob.kinds.length),(2,an l2 c1 ob.open_.length)]) 168 b (ce ob (an l3 c2 st.length)),tip nt 69 l1 c ob.kinds,cM bH 3 l2 c1 ob.open_]) (by rw [vA (so q_st)])<|aS<|dY V hN J<|aK<|aK<|aK ?_;exact bf (aT (ih (i1+1) ({ob with result:=st}:ai) l1 c l2 c1 l3 c2 ⟨dO V,h⟩) (bj J))
   ·refine bD<|dY V hN J ?_;exact bf (aT (ih (i1+1) ob l1 c l2 c1 l3 c2 ⟨dO V,h⟩) (bj J))

end Go.Proofs.YtdohlidddcgfjaaGreat

