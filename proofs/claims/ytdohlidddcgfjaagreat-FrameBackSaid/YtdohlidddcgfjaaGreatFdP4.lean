/- bT of this claim: P4. -/
import Derived.Test.YtdohlidddcgfjaaGreatFdT
import Derived.Test.YtdohlidddcgfjaaGreatFdP3
set_option linter.all false
namespace Go.Proofs.YtdohlidddcgfjaaGreat
open Go
set_option maxRecDepth 100000

def Yq(b:Nat)(ix:OI) l{R}(h:eo l=some R):bk aY 167 [Z (M b 0)] (eG b l ix) (fun _:OI=>gI R.1) (fun j=>eG b R.2 j):=by
 refine bk.of Tryz.func167 J J J fun w0 S0=>?_;refine(show CG _ _ _ [Q (rH bu [(1,au (ix.h 0).1 (ix.h 0).2 l.kinds.length),(2,au (ix.h 1).1 (ix.h 1).2 l.open_.length)]) 168 b l,tip po 69 (ix.h 0).1 (ix.h 0).2 l.kinds,dk bP 3 (ix.h 1).1 (ix.h 1).2 l.open_] _ from ?_);refine a8<|bA<|br<|aB J<|s (aC (D J))<|aW 3 hU J<|s (aE (r:=rH bu [(1,au (ix.h 0).1 (ix.h 0).2 l.kinds.length),(2,au (ix.h 1).1 (ix.h 1).2 l.open_.length)]) (x:=l) gv J J (eD fO) (.head _) (D J))<|bw gv kV J fun b1=>bv gv ax J<|bf 3 J<|br<|a8<|bG pX iQ c0 J<|cw fx J<|s (g9 (D J) hI)<|aS J<|ai J (cj nI gr J J) ?_;refine ai J (ce wY J J)<|ai J (ma qr J)<|ai J (fun H=>g9 (bL J H) hI)<|c8 J<|aS J<|ai J (cj pX iQ J J)<|ai J (ce c0 J J)<|ai J (ma fx J)<|ai J (cj nI gr J J)<|ai J (ce wY J J)<|ai J (ma qr J)<|ai J (fun H=>fS (bL J H) (bL J H))<|ai J (fun H=>ge (bL J H) hI)<|c8 J<|aZ J<|aB J<|s (aC (D J))<|aW 17 gc J<|cS false bP 3<|cL ?_;refine lk c0 J (te (hs' :=[(1,au (ix.h 0).1 (ix.h 0).2 l.kinds.length),(2,au (ix.h 1).1 (ix.h 1).2 l.open_.length)]) (lG _ _) ⟨.inr ⟨J,J⟩,.inr ⟨J,J⟩,aM⟩ J) J (D J) (Kp (show aJ _ _ _ (Z Hx)from w3)) ?_;refine(show RG _ _ _ _ [_,_,_,_] _ from ?_);refine br<|bm<|bG pX iQ c0 J<|cw fx J<|s (bQ hI)<|br<|aA<|bt (k:=40) J fun hN=>bN<|gE<|gV<|gV<|gV ?_;refine aV (vA (tV:=fun ls i ob l1 c l2 c1 l3 c2=>(l.n.Keys.drop i=ls)/\dw l ls ob=some R) (Of:=fun _ i ob l1 c l2 c1 l3 c2=>[Q (rH co [(1,au l1 c ob.kinds.length),(2,au l2 c1 ob.open_.length)]) 168 b (cD ob (au l3 c2 ob.result.length)),tip po 69 l1 c ob.kinds,dk bP 3 l2 c1 ob.open_,dk bP 3 l3 c2 ob.result]) (Gf:=fun _ i ob l1 c l2 c1 l3 c2=>[(0,Z (M b 0)),(3,df bl l.n),(4,gI (((decide ((l.n.Keys.length:Int)<=(3:Int)))&&(decide ((l.n.Aggs.length:Int)<=(12:Int))))&&(decide ((0:Int)<(IntKind.i64.wrap ((l.n.Keys.length:Int)+(l.n.Aggs.length:Int))))))),(40,pi l.n.Keys),(41,nz l.n.Keys),(42,bC (i:Int))]) (fun i ob l1 c l2 c1 l3 c2 h=>?_) (fun e tl ih i ob l1 c l2 c1 l3 c2 h=>?_) l.n.Keys 0 ({l with result:=ss}:al) (ix.h 0).1 (ix.h 0).2 (ix.h 1).1 (ix.h 1).2 none 0 ⟨J,h⟩) (bo J)
 ·obtain⟨V,h⟩:=h
  refine fm V J<|aG<|bm<|bG nI gr wY J<|cw qr J<|s (bQ hI)<|br<|aA<|bt (k:=75) J fun hN1=>?_;refine bN ?_;refine aV (Bv (tV:=fun ls1 i1 ok ob1 l4 c3 l5 c4 l6 c5=>(l.n.Aggs.drop i1=ls1)/\cy ls1 ok ob1=some R) (Of:=fun _ i1 ok ob1 l4 c3 l5 c4 l6 c5=>[Q (rH co [(1,au l4 c3 ob1.kinds.length),(2,au l5 c4 ob1.open_.length)]) 168 b (cD ob1 (au l6 c5 ob1.result.length)),tip po 69 l4 c3 ob1.kinds,dk bP 3 l5 c4 ob1.open_,dk bP 3 l6 c5 ob1.result]) (Gf:=fun _ i1 ok ob1 l4 c3 l5 c4 l6 c5=>[(0,Z (M b 0)),(4,gI ok),(75,d8 (fI) l.n.Aggs),(76,nz l.n.Aggs),(77,bC (i1:Int))]) (fun i1 ok ob1 l4 c3 l5 c4 l6 c5 h=>?_) (fun e1 tl1 ih1 i1 ok ob1 l4 c3 l5 c4 l6 c5 h=>?_) l.n.Aggs 0 (((decide ((l.n.Keys.length:Int)<=(3:Int)))&&(decide ((l.n.Aggs.length:Int)<=(12:Int))))&&(decide ((0:Int)<(IntKind.i64.wrap ((l.n.Keys.length:Int)+(l.n.Aggs.length:Int)))))) ob l1 c l2 c1 l3 c2 ⟨J,h⟩) (bo J)
  ·obtain⟨hx1,h⟩:=h
   refine fm hx1 J<|aG<|aB J<|bq J<|aQ<|dm<|ah<|uW (r' :=rH bu [(1,au l4 c3 ob1.kinds.length),(2,au l5 c4 ob1.open_.length)]) (x' :=ob1) (fun _ _ _ ho h=>TE h (fun h=>iR (rF ho (.head _)) h)) ?_;exact ah<|ba<|aH<|aH<|aH<|so h▸bF J (qZ [(l4,c3),(l5,c4)]) J J (fun _ _ h=>h)
  ·obtain⟨hx1,h⟩:=h
   refine fj hx1 J<|aT<|aA<|a8<|fQ qr kN J (eF hx1)<|bw kN uI J fun b2=>bv kN ax J<|bf 8 J<|br<|a8<|cM ?_;refine br ?_;refine Ho (tV:=fun ok1 k=>eH (cy tl1) ob1 ok1 k=some R) (Of:=fun ok1 k=>[Q (rH co [(1,au l4 c3 ob1.kinds.length),(2,au l5 c4 ob1.open_.length)]) 168 b (cD ob1 (au l6 c5 ob1.result.length)),tip po 69 l4 c3 ob1.kinds,dk bP 3 l5 c4 ob1.open_,dk bP 3 l6 c5 ob1.result]) (Gf:=fun ok1 k=>[(0,Z (M b 0)),(4,gI ok1),(9,bC k),(75,d8 (fI) l.n.Aggs),(76,nz l.n.Aggs),(77,bC (i1:Int))]) (fun ok1 k h=>?_) (fun hb=>?_)
   ·skip
    refine aw<|aS J<|aS J<|s (aC (D J))<|aW 17 gc J<|s (nq c0 (eD lO) (.head _) J (D J))<|aS J<|s (bc (r:=bP) (ys:=[k]) (xs:=[.tmp 139]) fx b9 J J J J J ⟨(D J),aM⟩)<|kT<|bM h fun l7 q_l7 h=>dl b9 J J J J fx J J (D J) (D J) q_l7 fun l8 c6=>s (aC (D J))<|aW 17 gc J<|cL<|lk c0 J (te (hs' :=[(1,au l4 c3 ob1.kinds.length),(2,au l5 c4 ob1.open_.length)]) (iU _ _ _) ⟨.inr ⟨J,J⟩,.inr ⟨J,J⟩,aM⟩ J) J (D J) (Kp (D J)) ?_;refine(show RG _ _ _ _ [_,_,_,_] _ from ?_);refine aX<|dW hx1 hN1 J<|ah<|aQ<|aQ<|aQ ?_;exact bj (aV (ih1 (i1+1) ok1 ({ob1 with result:=l7}:al) l4 c3 l5 c4 l8 c6 ⟨dQ hx1,h⟩) (bo J))
   ·skip
    refine a8<|bG pc mJ b9 J<|bW J<|cZ h J (fun h=>?_) (fun h=>?_)
    ·refine aw<|aS J<|aS J<|ai J (cj sJ qN J J)<|ai J (fun H=>gB rq J kS J (bL J H))<|ai J (ce BG J J)<|ai J (ma sq J)<|ai J (mw J)<|c8 J<|hE J<|aX ?_;exact bZ (hb (ok&&((e1.Arg.Nodes.length:Int)==(0:Int))) (2:Int) h) (bo J)
    ·refine aT<|bM h fun r q_r h=>?_
     refine kM (ts:=[_,_,_,_,_,_,_,_,_,_,_,_]) mixed J J
      ⟨Lr 8 J J (w6 sJ qN J J),
      ⟨u7 0 kY J J,
      ⟨iy J J,
      ⟨gk 95 2 J J (aC (D J)),
      ⟨gk 96 3 J J (oK 15 jI J J J),
      ⟨gk 97 4 J J (aE (r:=rH co [(1,au l4 c3 ob1.kinds.length),(2,au l5 c4 ob1.open_.length)]) (x:=cD ob1 (au l6 c5 ob1.result.length)) c0 J J (eD kP) (.head _) (D J)),
      ⟨kx 94 1 98 5 J J J (db OC (Dt _ _ q_r) ⟨(D J),(D J),aM⟩),
      ⟨gk 99 6 J J (lQ J),
      ⟨gk 92 7 J J (Lq J J),
      ⟨gk 92 7 J J (Lq J J),
      ⟨gk 100 8 J J (Jo J),
      ⟨gk 101 9 J J (Jo J),
      aM⟩⟩⟩⟩⟩⟩⟩⟩⟩⟩⟩⟩ ?_
     refine aG<|aB J<|aS J<|ai J (du J)<|ai J (mw J)<|c8 J<|aS J<|ai J (cj pc mJ J J)<|ai J (ce b9 J J)<|ai J (fun H=>ge (bL J H) hI)<|c8 J<|aS J<|ai J (cj pc mJ J J)<|ai J (ce b9 J J)<|ai J (fun H=>g9 (bL J H) hI)<|c8 J<|aZ J<|a8<|rP pc mJ J ?_;refine fi b9 J<|br<|aA<|a8<|bW J<|aZ J<|jz h J (fun h=>?_) (fun h=>?_)
     ·refine aw<|aS J<|aS J<|ai J (du J)<|ai J (mw J)<|ai J (ua J)<|dF J J J J (fun H=>lQ J)<|dF J J J J (fun H=>d9 (bL J H) hI)<|ai J (fun H=>np (bL J H) (fun K=>(bL J (Ab H (vT K)))))<|c8 J<|hE J<|aX<|aF ?_;exact bZ (hb ((((ok&&(r.2==(0:Int)))&&(decide ((1:Int)<e1.Tag)))&&(decide (e1.Tag<=(5:Int))))&&((r.1==(2:Int))||(r.1==(0:Int)))) (2:Int) h) (bo J)
     ·refine iV (tV:=fun x=>hY (cy tl1) e1 ok ob1 r x=some R) (Of:=fun x=>[Q (rH co [(1,au l4 c3 ob1.kinds.length),(2,au l5 c4 ob1.open_.length)]) 168 b (cD ob1 (au l6 c5 ob1.result.length)),tip po 69 l4 c3 ob1.kinds,dk bP 3 l5 c4 ob1.open_,dk bP 3 l6 c5 ob1.result]) (Gf:=fun x=>[(0,Z (M b 0)),(4,gI (((ok&&(r.2==(0:Int)))&&(decide ((1:Int)<e1.Tag)))&&(decide (e1.Tag<=(5:Int))))),(9,bC 2),(10,bC r.1),(75,d8 (fI) l.n.Aggs),(76,nz l.n.Aggs),(77,bC (i1:Int)),(130,gI x)]) (fun x h=>?_) (fun K1=>?_)
      ·skip
       refine jz h J (fun h=>?_) (fun h=>?_)
       ·refine aw<|aS J<|hE J<|aX<|aF ?_;exact bZ (hb (((ok&&(r.2==(0:Int)))&&(decide ((1:Int)<e1.Tag)))&&(decide (e1.Tag<=(5:Int)))) r.1 h) (bo J)
       ·refine bE<|aF ?_;exact bZ (hb (((ok&&(r.2==(0:Int)))&&(decide ((1:Int)<e1.Tag)))&&(decide (e1.Tag<=(5:Int)))) (2:Int) h) (bo J)
      ·skip
       refine a8<|bW J<|aZ J<|jz h J (fun h=>?_) (fun h=>?_)
       ·refine bE ?_;exact bZ (K1 (e1.Tag==(4:Int)) h) (bo J)
       ·refine aw<|bW J<|hE J<|aX ?_;exact bZ (K1 (e1.Tag==(5:Int)) h) (bo J)
 ·obtain⟨V,h⟩:=h
  refine fj V J<|aT<|aA<|a8<|fQ fx b9 J (eF V)<|aZ J<|bm<|aS J<|s (iZ (D J) hI) ?_;refine aS J<|bz J (du J)<|bz J (du J)<|bz J (fun H=>aC (bL J H))<|bz J (fun H=>bU (n:=15) jI J (bL J H) J)<|bz J (fun H=>aE (r:=rH co [(1,au l1 c ob.kinds.length),(2,au l2 c1 ob.open_.length)]) (x:=cD ob (au l3 c2 ob.result.length)) c0 J J (eD kP) (.head _) (bL J H))<|bz J (ma fx J)<|bz J (fun H=>iJ (bL J H) (bL J H))<|jW J<|cZ h J (fun h=>?_) (fun h=>?_)
  ·exact a8<|bA<|bS<|av<|ei<|av<|ei<|aQ<|dm<|ah<|uW (r' :=rH bu [(1,au l1 c ob.kinds.length),(2,au l2 c1 ob.open_.length)]) (x' :=ob) (fun _ _ _ ho h=>TE h (fun h=>iR (rF ho (.head _)) h))<|ah<|ba<|aH<|aH<|aH<|so h▸bF J (qZ [(l1,c),(l2,c1)]) J J (fun _ _ h=>h)
  ·refine jg<|bM h fun e2 q_e2 h=>bM h fun l9 q_l9 h=>?_
   refine iT 14 [tc (Z (M b 0)),tc (Z (M b 0)),tc (Z (M b 0)),tc (Z (M b 17)),tc (rL l3 c2 ob.result),tc (Z (M b 0)),tc (Z (M b 0)),tc (Z (M b 15)),tc (pi ob.a_),tc (bC e),tc (df bP e2),tc (bC e2),tc (pi ([e2])),([13],fun ae=>Z (au ((ae.getD 0 jK).h 0).1 ((ae.getD 0 jK).h 0).2 l9.length))] [false,false,false,false,false,false,false,false,false,false,false,false,false,true] [fun _=>[Q (rH co [(1,au l1 c ob.kinds.length),(2,au l2 c1 ob.open_.length)]) 168 b (cD ob (au l3 c2 ob.result.length)),tip po 69 l1 c ob.kinds,dk bP 3 l2 c1 ob.open_,dk bP 3 l3 c2 ob.result],fun sg=>[dk bP 3 ((sg 13).h 0).1 ((sg 13).h 0).2 l9,Q (rH co [(1,au l1 c ob.kinds.length),(2,au l2 c1 ob.open_.length)]) 168 b (cD ob (au l3 c2 ob.result.length)),tip po 69 l1 c ob.kinds,dk bP 3 l2 c1 ob.open_]] J mixed J J J J J
    ⟨⟨[⟨0,fun _=>Z (M b 0),none⟩],_,0,1,J,⟨(fun _=>J),aM⟩,J,J,J,J,J,fun _ sg _ _=>ac J (lQ J)⟩,
    ⟨⟨[⟨0,fun _=>Z (M b 0),none⟩],_,0,0,J,⟨(fun _=>J),aM⟩,J,J,J,J,J,fun _ sg _ _=>ac J (lQ J)⟩,
    ⟨⟨[⟨58,fun _=>Z (M b 0),some 1⟩],_,0,0,J,⟨(fun _=>J),aM⟩,J,J,J,J,J,fun _ sg _ _=>ac J (aC (D J))⟩,
    ⟨⟨[⟨59,fun _=>Z (M b 0),some 2⟩],_,0,0,J,⟨(fun _=>J),aM⟩,J,J,J,J,J,fun _ sg _ _=>ac J (oK 17 gc J J J)⟩,
    ⟨⟨[⟨60,fun _=>Z (M b 17),some 3⟩],_,0,0,J,⟨(fun _=>J),aM⟩,J,J,J,J,J,nD (fun sg=>ac J (nq c0 (eD lO) (.head _) J (D J)))⟩,
    ⟨⟨[⟨0,fun _=>Z (M b 0),none⟩],_,0,0,J,⟨(fun _=>J),aM⟩,J,J,J,J,J,fun _ sg _ _=>ac J (lQ J)⟩,
    ⟨⟨[⟨62,fun _=>Z (M b 0),some 5⟩],_,0,0,J,⟨(fun _=>J),aM⟩,J,J,J,J,J,fun _ sg _ _=>ac J (aC (D J))⟩,
    ⟨⟨[⟨63,fun _=>Z (M b 0),some 6⟩],_,0,0,J,⟨(fun _=>J),aM⟩,J,J,J,J,J,fun _ sg _ _=>ac J (oK 15 jI J J J)⟩,
    ⟨⟨[⟨64,fun _=>Z (M b 15),some 7⟩],_,0,0,J,⟨(fun _=>J),aM⟩,J,J,J,J,J,nD (fun sg=>ac J (aE (r:=rH co [(1,au l1 c ob.kinds.length),(2,au l2 c1 ob.open_.length)]) (x:=cD ob (au l3 c2 ob.result.length)) c0 J J (eD kP) (.head _) (D J)))⟩,
    ⟨⟨[⟨6,fun _=>tD bP e,none⟩],_,0,0,J,⟨(fun _=>J),aM⟩,J,J,J,J,J,fun _ sg _ _=>ac J (lQ J)⟩,
    ⟨⟨[⟨65,fun _=>tD zu ob.a_,some 8⟩,⟨66,fun _=>tD bP e,some 9⟩],_,0,0,J,⟨(fun _=>J),(fun _=>J),aM⟩,J,J,J,J,J,fun _ sg _ _=>ac J (Nt fx b9 J J J q_e2)⟩,
    ⟨⟨[⟨67,fun _=>df bP e2,some 10⟩],_,0,0,J,⟨(fun _=>J),aM⟩,J,J,J,J,J,fun _ sg _ _=>ac J (BA b9 J J)⟩,
    ⟨⟨[⟨68,fun _=>tD bP e2,some 11⟩],_,0,0,J,⟨(fun _=>J),aM⟩,J,J,J,J,J,fun _ sg _ _=>ac J (bc (r:=bP) (ys:=[e2]) (xs:=[.tmp 68]) fx b9 J J J J J ⟨(D J),aM⟩)⟩,
    ⟨⟨[⟨61,fun _=>Z (au l3 c2 ob.result.length),some 4⟩,⟨69,fun _=>tD zu ([e2]),some 12⟩],_,J,⟨(fun _=>J),(fun _=>J),aM⟩,J,J,J,fun sg=>bY J (EffOK.fr3 (uB b9 J J J J fx J (D J) (D J) q_l9))⟩,
    aM⟩⟩⟩⟩⟩⟩⟩⟩⟩⟩⟩⟩⟩⟩ (fun sg=>?_)
   refine(show RG _ _ _ _ [_,_,_,_] _ from ?_);refine s (aC (D J))<|aW 17 gc J<|cL<|lk c0 J (te (hs' :=[(1,au l1 c ob.kinds.length),(2,au l2 c1 ob.open_.length)]) (iU _ _ _) ⟨.inr ⟨J,J⟩,.inr ⟨J,J⟩,aM⟩ J) J (D J) (Kp (D J)) ?_;refine(show RG _ _ _ _ [_,_,_,_] _ from ?_);refine aX<|dW V hN J<|ah<|aQ<|aQ<|aQ ?_;exact bj (aV (ih (i+1) ({ob with result:=l9}:al) l1 c l2 c1 ((sg 13).h 0).1 ((sg 13).h 0).2 ⟨dQ V,h⟩) (bo J))

def Yp(b:Nat)(ix:OI) l{R}(h:eo l=some R):bk aY 167 [Z (M b 0)] (eG b l ix) (fun _:OI=>gI R.1) (fun j=>Xw b R.2 j):=by
 refine bk.of Tryz.func167 J J J fun w0 S0=>?_;refine(show CG _ _ _ [Q (rH bu [(1,au (ix.h 0).1 (ix.h 0).2 l.kinds.length),(2,au (ix.h 1).1 (ix.h 1).2 l.open_.length)]) 168 b l,tip po 69 (ix.h 0).1 (ix.h 0).2 l.kinds,dk bP 3 (ix.h 1).1 (ix.h 1).2 l.open_] _ from ?_);refine a8<|bA<|br<|aB J<|s (aC (D J))<|aW 3 hU J<|s (aE (r:=rH bu [(1,au (ix.h 0).1 (ix.h 0).2 l.kinds.length),(2,au (ix.h 1).1 (ix.h 1).2 l.open_.length)]) (x:=l) gv J J (eD fO) (.head _) (D J))<|bw gv kV J fun b1=>bv gv ax J<|bf 3 J<|br<|a8<|bG pX iQ c0 J<|cw fx J<|s (g9 (D J) hI)<|aS J<|ai J (cj nI gr J J) ?_;refine ai J (ce wY J J)<|ai J (ma qr J)<|ai J (fun H=>g9 (bL J H) hI)<|c8 J<|aS J<|ai J (cj pX iQ J J)<|ai J (ce c0 J J)<|ai J (ma fx J)<|ai J (cj nI gr J J)<|ai J (ce wY J J)<|ai J (ma qr J)<|ai J (fun H=>fS (bL J H) (bL J H))<|ai J (fun H=>ge (bL J H) hI)<|c8 J<|aZ J<|aB J<|s (aC (D J))<|aW 17 gc J<|cS false bP 3<|cL ?_;refine lk c0 J (te (hs' :=[(1,au (ix.h 0).1 (ix.h 0).2 l.kinds.length),(2,au (ix.h 1).1 (ix.h 1).2 l.open_.length)]) (lG _ _) ⟨.inr ⟨J,J⟩,.inr ⟨J,J⟩,aM⟩ J) J (D J) (Kp (show aJ _ _ _ (Z Hx)from w3)) ?_;refine(show RG _ _ _ _ [_,_,_,_] _ from ?_);refine br<|bm<|bG pX iQ c0 J<|cw fx J<|s (bQ hI)<|br<|aA<|bt (k:=40) J fun hN=>bN<|gE<|gV<|gV<|gV ?_;refine aV (vA (tV:=fun ls i ob l1 c l2 c1 l3 c2=>(l.n.Keys.drop i=ls)/\dw l ls ob=some R) (Of:=fun _ i ob l1 c l2 c1 l3 c2=>[Q (rH co [(1,au l1 c ob.kinds.length),(2,au l2 c1 ob.open_.length)]) 168 b (cD ob (au l3 c2 ob.result.length)),tip po 69 l1 c ob.kinds,dk bP 3 l2 c1 ob.open_,dk bP 3 l3 c2 ob.result]) (Gf:=fun _ i ob l1 c l2 c1 l3 c2=>[(0,Z (M b 0)),(3,df bl l.n),(4,gI (((decide ((l.n.Keys.length:Int)<=(3:Int)))&&(decide ((l.n.Aggs.length:Int)<=(12:Int))))&&(decide ((0:Int)<(IntKind.i64.wrap ((l.n.Keys.length:Int)+(l.n.Aggs.length:Int))))))),(40,pi l.n.Keys),(41,nz l.n.Keys),(42,bC (i:Int))]) (fun i ob l1 c l2 c1 l3 c2 h=>?_) (fun e tl ih i ob l1 c l2 c1 l3 c2 h=>?_) l.n.Keys 0 ({l with result:=ss}:al) (ix.h 0).1 (ix.h 0).2 (ix.h 1).1 (ix.h 1).2 none 0 ⟨J,h⟩) (bo J)
 ·obtain⟨V,h⟩:=h
  refine fm V J<|aG<|bm<|bG nI gr wY J<|cw qr J<|s (bQ hI)<|br<|aA<|bt (k:=75) J fun hN1=>?_;refine bN ?_;refine aV (Bv (tV:=fun ls1 i1 ok ob1 l4 c3 l5 c4 l6 c5=>(l.n.Aggs.drop i1=ls1)/\cy ls1 ok ob1=some R) (Of:=fun _ i1 ok ob1 l4 c3 l5 c4 l6 c5=>[Q (rH co [(1,au l4 c3 ob1.kinds.length),(2,au l5 c4 ob1.open_.length)]) 168 b (cD ob1 (au l6 c5 ob1.result.length)),tip po 69 l4 c3 ob1.kinds,dk bP 3 l5 c4 ob1.open_,dk bP 3 l6 c5 ob1.result]) (Gf:=fun _ i1 ok ob1 l4 c3 l5 c4 l6 c5=>[(0,Z (M b 0)),(4,gI ok),(75,d8 (fI) l.n.Aggs),(76,nz l.n.Aggs),(77,bC (i1:Int))]) (fun i1 ok ob1 l4 c3 l5 c4 l6 c5 h=>?_) (fun e1 tl1 ih1 i1 ok ob1 l4 c3 l5 c4 l6 c5 h=>?_) l.n.Aggs 0 (((decide ((l.n.Keys.length:Int)<=(3:Int)))&&(decide ((l.n.Aggs.length:Int)<=(12:Int))))&&(decide ((0:Int)<(IntKind.i64.wrap ((l.n.Keys.length:Int)+(l.n.Aggs.length:Int)))))) ob l1 c l2 c1 l3 c2 ⟨J,h⟩) (bo J)
  ·obtain⟨hx1,h⟩:=h
   exact fm hx1 J<|aG<|aB J<|bq J<|aQ<|aQ<|aQ<|aQ<|so h▸bF J (qZ [(l4,c3),(l5,c4),(l6,c5)]) J J (fun _ _ h=>h)
  ·obtain⟨hx1,h⟩:=h
   refine fj hx1 J<|aT<|aA<|a8<|fQ qr kN J (eF hx1)<|bw kN uI J fun b2=>bv kN ax J<|bf 8 J<|br<|a8<|cM ?_;refine br ?_;refine Ho (tV:=fun ok1 k=>eH (cy tl1) ob1 ok1 k=some R) (Of:=fun ok1 k=>[Q (rH co [(1,au l4 c3 ob1.kinds.length),(2,au l5 c4 ob1.open_.length)]) 168 b (cD ob1 (au l6 c5 ob1.result.length)),tip po 69 l4 c3 ob1.kinds,dk bP 3 l5 c4 ob1.open_,dk bP 3 l6 c5 ob1.result]) (Gf:=fun ok1 k=>[(0,Z (M b 0)),(4,gI ok1),(9,bC k),(75,d8 (fI) l.n.Aggs),(76,nz l.n.Aggs),(77,bC (i1:Int))]) (fun ok1 k h=>?_) (fun hb=>?_)
   ·skip
    refine aw<|aS J<|aS J<|s (aC (D J))<|aW 17 gc J<|s (nq c0 (eD lO) (.head _) J (D J))<|aS J<|s (bc (r:=bP) (ys:=[k]) (xs:=[.tmp 139]) fx b9 J J J J J ⟨(D J),aM⟩)<|kT<|bM h fun l7 q_l7 h=>dl b9 J J J J fx J J (D J) (D J) q_l7 fun l8 c6=>s (aC (D J))<|aW 17 gc J<|cL<|lk c0 J (te (hs' :=[(1,au l4 c3 ob1.kinds.length),(2,au l5 c4 ob1.open_.length)]) (iU _ _ _) ⟨.inr ⟨J,J⟩,.inr ⟨J,J⟩,aM⟩ J) J (D J) (Kp (D J)) ?_;refine(show RG _ _ _ _ [_,_,_,_] _ from ?_);refine aX<|dW hx1 hN1 J<|ah<|aQ<|aQ<|aQ ?_;exact bj (aV (ih1 (i1+1) ok1 ({ob1 with result:=l7}:al) l4 c3 l5 c4 l8 c6 ⟨dQ hx1,h⟩) (bo J))
   ·skip
    refine a8<|bG pc mJ b9 J<|bW J<|cZ h J (fun h=>?_) (fun h=>?_)
    ·refine aw<|aS J<|aS J<|ai J (cj sJ qN J J)<|ai J (fun H=>gB rq J kS J (bL J H))<|ai J (ce BG J J)<|ai J (ma sq J)<|ai J (mw J)<|c8 J<|hE J<|aX ?_;exact bZ (hb (ok&&((e1.Arg.Nodes.length:Int)==(0:Int))) (2:Int) h) (bo J)
    ·refine aT<|bM h fun r q_r h=>?_
     refine kM (ts:=[_,_,_,_,_,_,_,_,_,_,_,_]) mixed J J
      ⟨Lr 8 J J (w6 sJ qN J J),
      ⟨u7 0 kY J J,
      ⟨iy J J,
      ⟨gk 95 2 J J (aC (D J)),
      ⟨gk 96 3 J J (oK 15 jI J J J),
      ⟨gk 97 4 J J (aE (r:=rH co [(1,au l4 c3 ob1.kinds.length),(2,au l5 c4 ob1.open_.length)]) (x:=cD ob1 (au l6 c5 ob1.result.length)) c0 J J (eD kP) (.head _) (D J)),
      ⟨kx 94 1 98 5 J J J (db OC (Dt _ _ q_r) ⟨(D J),(D J),aM⟩),
      ⟨gk 99 6 J J (lQ J),
      ⟨gk 92 7 J J (Lq J J),
      ⟨gk 92 7 J J (Lq J J),
      ⟨gk 100 8 J J (Jo J),
      ⟨gk 101 9 J J (Jo J),
      aM⟩⟩⟩⟩⟩⟩⟩⟩⟩⟩⟩⟩ ?_
     refine aG<|aB J<|aS J<|ai J (du J)<|ai J (mw J)<|c8 J<|aS J<|ai J (cj pc mJ J J)<|ai J (ce b9 J J)<|ai J (fun H=>ge (bL J H) hI)<|c8 J<|aS J<|ai J (cj pc mJ J J)<|ai J (ce b9 J J)<|ai J (fun H=>g9 (bL J H) hI)<|c8 J<|aZ J<|a8<|rP pc mJ J ?_;refine fi b9 J<|br<|aA<|a8<|bW J<|aZ J<|jz h J (fun h=>?_) (fun h=>?_)
     ·refine aw<|aS J<|aS J<|ai J (du J)<|ai J (mw J)<|ai J (ua J)<|dF J J J J (fun H=>lQ J)<|dF J J J J (fun H=>d9 (bL J H) hI)<|ai J (fun H=>np (bL J H) (fun K=>(bL J (Ab H (vT K)))))<|c8 J<|hE J<|aX<|aF ?_;exact bZ (hb ((((ok&&(r.2==(0:Int)))&&(decide ((1:Int)<e1.Tag)))&&(decide (e1.Tag<=(5:Int))))&&((r.1==(2:Int))||(r.1==(0:Int)))) (2:Int) h) (bo J)
     ·refine iV (tV:=fun x=>hY (cy tl1) e1 ok ob1 r x=some R) (Of:=fun x=>[Q (rH co [(1,au l4 c3 ob1.kinds.length),(2,au l5 c4 ob1.open_.length)]) 168 b (cD ob1 (au l6 c5 ob1.result.length)),tip po 69 l4 c3 ob1.kinds,dk bP 3 l5 c4 ob1.open_,dk bP 3 l6 c5 ob1.result]) (Gf:=fun x=>[(0,Z (M b 0)),(4,gI (((ok&&(r.2==(0:Int)))&&(decide ((1:Int)<e1.Tag)))&&(decide (e1.Tag<=(5:Int))))),(9,bC 2),(10,bC r.1),(75,d8 (fI) l.n.Aggs),(76,nz l.n.Aggs),(77,bC (i1:Int)),(130,gI x)]) (fun x h=>?_) (fun K1=>?_)
      ·skip
       refine jz h J (fun h=>?_) (fun h=>?_)
       ·refine aw<|aS J<|hE J<|aX<|aF ?_;exact bZ (hb (((ok&&(r.2==(0:Int)))&&(decide ((1:Int)<e1.Tag)))&&(decide (e1.Tag<=(5:Int)))) r.1 h) (bo J)
       ·refine bE<|aF ?_;exact bZ (hb (((ok&&(r.2==(0:Int)))&&(decide ((1:Int)<e1.Tag)))&&(decide (e1.Tag<=(5:Int)))) (2:Int) h) (bo J)
      ·skip
       refine a8<|bW J<|aZ J<|jz h J (fun h=>?_) (fun h=>?_)
       ·refine bE ?_;exact bZ (K1 (e1.Tag==(4:Int)) h) (bo J)
       ·refine aw<|bW J<|hE J<|aX ?_;exact bZ (K1 (e1.Tag==(5:Int)) h) (bo J)
 ·obtain⟨V,h⟩:=h
  refine fj V J<|aT<|aA<|a8<|fQ fx b9 J (eF V)<|aZ J<|bm<|aS J<|s (iZ (D J) hI) ?_;refine aS J<|bz J (du J)<|bz J (du J)<|bz J (fun H=>aC (bL J H))<|bz J (fun H=>bU (n:=15) jI J (bL J H) J)<|bz J (fun H=>aE (r:=rH co [(1,au l1 c ob.kinds.length),(2,au l2 c1 ob.open_.length)]) (x:=cD ob (au l3 c2 ob.result.length)) c0 J J (eD kP) (.head _) (bL J H))<|bz J (ma fx J)<|bz J (fun H=>iJ (bL J H) (bL J H))<|jW J<|cZ h J (fun h=>?_) (fun h=>?_)
  ·exact a8<|bA<|bS<|av<|ei<|av<|ei<|aQ<|aQ<|aQ<|aQ<|so h▸bF J (qZ [(l1,c),(l2,c1),(l3,c2)]) J J (fun _ _ h=>h)
  ·refine jg<|bM h fun e2 q_e2 h=>bM h fun l9 q_l9 h=>?_
   refine iT 14 [tc (Z (M b 0)),tc (Z (M b 0)),tc (Z (M b 0)),tc (Z (M b 17)),tc (rL l3 c2 ob.result),tc (Z (M b 0)),tc (Z (M b 0)),tc (Z (M b 15)),tc (pi ob.a_),tc (bC e),tc (df bP e2),tc (bC e2),tc (pi ([e2])),([13],fun ae=>Z (au ((ae.getD 0 jK).h 0).1 ((ae.getD 0 jK).h 0).2 l9.length))] [false,false,false,false,false,false,false,false,false,false,false,false,false,true] [fun _=>[Q (rH co [(1,au l1 c ob.kinds.length),(2,au l2 c1 ob.open_.length)]) 168 b (cD ob (au l3 c2 ob.result.length)),tip po 69 l1 c ob.kinds,dk bP 3 l2 c1 ob.open_,dk bP 3 l3 c2 ob.result],fun sg=>[dk bP 3 ((sg 13).h 0).1 ((sg 13).h 0).2 l9,Q (rH co [(1,au l1 c ob.kinds.length),(2,au l2 c1 ob.open_.length)]) 168 b (cD ob (au l3 c2 ob.result.length)),tip po 69 l1 c ob.kinds,dk bP 3 l2 c1 ob.open_]] J mixed J J J J J
    ⟨⟨[⟨0,fun _=>Z (M b 0),none⟩],_,0,1,J,⟨(fun _=>J),aM⟩,J,J,J,J,J,fun _ sg _ _=>ac J (lQ J)⟩,
    ⟨⟨[⟨0,fun _=>Z (M b 0),none⟩],_,0,0,J,⟨(fun _=>J),aM⟩,J,J,J,J,J,fun _ sg _ _=>ac J (lQ J)⟩,
    ⟨⟨[⟨58,fun _=>Z (M b 0),some 1⟩],_,0,0,J,⟨(fun _=>J),aM⟩,J,J,J,J,J,fun _ sg _ _=>ac J (aC (D J))⟩,
    ⟨⟨[⟨59,fun _=>Z (M b 0),some 2⟩],_,0,0,J,⟨(fun _=>J),aM⟩,J,J,J,J,J,fun _ sg _ _=>ac J (oK 17 gc J J J)⟩,
    ⟨⟨[⟨60,fun _=>Z (M b 17),some 3⟩],_,0,0,J,⟨(fun _=>J),aM⟩,J,J,J,J,J,nD (fun sg=>ac J (nq c0 (eD lO) (.head _) J (D J)))⟩,
    ⟨⟨[⟨0,fun _=>Z (M b 0),none⟩],_,0,0,J,⟨(fun _=>J),aM⟩,J,J,J,J,J,fun _ sg _ _=>ac J (lQ J)⟩,
    ⟨⟨[⟨62,fun _=>Z (M b 0),some 5⟩],_,0,0,J,⟨(fun _=>J),aM⟩,J,J,J,J,J,fun _ sg _ _=>ac J (aC (D J))⟩,
    ⟨⟨[⟨63,fun _=>Z (M b 0),some 6⟩],_,0,0,J,⟨(fun _=>J),aM⟩,J,J,J,J,J,fun _ sg _ _=>ac J (oK 15 jI J J J)⟩,
    ⟨⟨[⟨64,fun _=>Z (M b 15),some 7⟩],_,0,0,J,⟨(fun _=>J),aM⟩,J,J,J,J,J,nD (fun sg=>ac J (aE (r:=rH co [(1,au l1 c ob.kinds.length),(2,au l2 c1 ob.open_.length)]) (x:=cD ob (au l3 c2 ob.result.length)) c0 J J (eD kP) (.head _) (D J)))⟩,
    ⟨⟨[⟨6,fun _=>tD bP e,none⟩],_,0,0,J,⟨(fun _=>J),aM⟩,J,J,J,J,J,fun _ sg _ _=>ac J (lQ J)⟩,
    ⟨⟨[⟨65,fun _=>tD zu ob.a_,some 8⟩,⟨66,fun _=>tD bP e,some 9⟩],_,0,0,J,⟨(fun _=>J),(fun _=>J),aM⟩,J,J,J,J,J,fun _ sg _ _=>ac J (Nt fx b9 J J J q_e2)⟩,
    ⟨⟨[⟨67,fun _=>df bP e2,some 10⟩],_,0,0,J,⟨(fun _=>J),aM⟩,J,J,J,J,J,fun _ sg _ _=>ac J (BA b9 J J)⟩,
    ⟨⟨[⟨68,fun _=>tD bP e2,some 11⟩],_,0,0,J,⟨(fun _=>J),aM⟩,J,J,J,J,J,fun _ sg _ _=>ac J (bc (r:=bP) (ys:=[e2]) (xs:=[.tmp 68]) fx b9 J J J J J ⟨(D J),aM⟩)⟩,
    ⟨⟨[⟨61,fun _=>Z (au l3 c2 ob.result.length),some 4⟩,⟨69,fun _=>tD zu ([e2]),some 12⟩],_,J,⟨(fun _=>J),(fun _=>J),aM⟩,J,J,J,fun sg=>bY J (EffOK.fr3 (uB b9 J J J J fx J (D J) (D J) q_l9))⟩,
    aM⟩⟩⟩⟩⟩⟩⟩⟩⟩⟩⟩⟩⟩⟩ (fun sg=>?_)
   refine(show RG _ _ _ _ [_,_,_,_] _ from ?_);refine s (aC (D J))<|aW 17 gc J<|cL<|lk c0 J (te (hs' :=[(1,au l1 c ob.kinds.length),(2,au l2 c1 ob.open_.length)]) (iU _ _ _) ⟨.inr ⟨J,J⟩,.inr ⟨J,J⟩,aM⟩ J) J (D J) (Kp (D J)) ?_;refine(show RG _ _ _ _ [_,_,_,_] _ from ?_);refine aX<|dW V hN J<|ah<|aQ<|aQ<|aQ ?_;exact bj (aV (ih (i+1) ({ob with result:=l9}:al) l1 c l2 c1 ((sg 13).h 0).1 ((sg 13).h 0).2 ⟨dQ V,h⟩) (bo J))

def Yo(b:Nat)(ix:OI) l{R}(h:dY l=some R):bk aY 168 [Z (M b 0)] (eG b l ix) (fun _:OI=>gI R.1) (fun j=>eG b R.2 j):=by
 refine bk.of Tryz.func168 J J J fun w0 S0=>?_;refine(show CG _ _ _ [Q (rH bu [(1,au (ix.h 0).1 (ix.h 0).2 l.kinds.length),(2,au (ix.h 1).1 (ix.h 1).2 l.open_.length)]) 168 b l,tip po 69 (ix.h 0).1 (ix.h 0).2 l.kinds,dk bP 3 (ix.h 1).1 (ix.h 1).2 l.open_] _ from ?_);refine a8<|bA<|br<|aB J<|bM h fun r q_r h=>aL (EffOK.fr2 (EffOK.fr2 (EffOK.fr2 (an (xs:=[.tmp 6]) (ts:=[Z (M b 0)]) (eG b l ix) _ J Wv (Yp b ix l q_r) ⟨(D J),aM⟩ (fun _=>J))))) J fun i=>?_;refine(show RG _ _ _ _ [_,_,_,_] ((7,gI r.1)::_)from ?_);refine aZ J<|bm<|aS J<|s (gG (D J))<|cZ h J (fun h=>?_) (fun h=>?_)
 ·exact a8<|bA<|bS<|av<|aQ<|dm<|ah<|uW (r' :=rH bu [(1,au (i.h 0).1 (i.h 0).2 r.2.kinds.length),(2,au (i.h 1).1 (i.h 1).2 r.2.open_.length)]) (x' :=r.2) (fun _ _ _ ho h=>TE h (fun h=>iR (rF ho (.head _)) h))<|ah<|ba<|aH<|aH<|aH<|so h▸bF J i J J (fun _ _ h=>h)
 ·refine jg<|bm<|aS J<|s (aC (D J))<|aW 3 hU J<|aW 11 nI J<|s (aE (r:=rH co [(1,au (i.h 0).1 (i.h 0).2 r.2.kinds.length),(2,au (i.h 1).1 (i.h 1).2 r.2.open_.length)]) (x:=cD r.2 (au (i.h 2).1 (i.h 2).2 r.2.result.length)) wY J J (eD (eh xM gr)) (.head _) (D J))<|cw qr J<|s (bQ hI)<|br<|aA<|bt (k:=14) J fun hN=>bN ?_;refine aV (vA (tV:=fun ls i1 ob l1 c l2 c1 l3 c2=>(r.2.n.Aggs.drop i1=ls)/\fq ls i1 ob=some R) (Of:=fun _ i1 ob l1 c l2 c1 l3 c2=>[Q (rH co [(1,au l1 c ob.kinds.length),(2,au l2 c1 ob.open_.length)]) 168 b (cD ob (au l3 c2 ob.result.length)),tip po 69 l1 c ob.kinds,dk bP 3 l2 c1 ob.open_,dk bP 3 l3 c2 ob.result]) (Gf:=fun _ i1 ob l1 c l2 c1 l3 c2=>[(0,Z (M b 0)),(14,d8 (fI) r.2.n.Aggs),(15,nz r.2.n.Aggs),(16,bC (i1:Int))]) (fun i1 ob l1 c l2 c1 l3 c2 h=>?_) (fun e tl ih i1 ob l1 c l2 c1 l3 c2 h=>?_) r.2.n.Aggs 0 r.2 (i.h 0).1 (i.h 0).2 (i.h 1).1 (i.h 1).2 (i.h 2).1 (i.h 2).2 ⟨J,h⟩) (bo J)
  ·obtain⟨V,h⟩:=h
   refine fm V J<|aG<|a8<|bA<|bS<|aQ<|dm<|ah<|uW (r' :=rH bu [(1,au l1 c ob.kinds.length),(2,au l2 c1 ob.open_.length)]) (x' :=ob) (fun _ _ _ ho h=>TE h (fun h=>iR (rF ho (.head _)) h))<|ah ?_;exact ba<|aH<|aH<|aH<|so h▸bF J (qZ [(l1,c),(l2,c1)]) J J (fun _ _ h=>h)
  ·obtain⟨V,h⟩:=h
   refine fj V J<|aT<|aA<|aB J<|fQ qr kN J (eF V)<|bw kN uI J fun b1=>hE J<|bv kN ax J<|bf 5 J<|br<|aT ?_;refine aw<|bG pc mJ b9 J<|bW J<|cZ h J (fun h=>?_) (fun h=>?_)
   ·refine bM h fun e1 q_e1 h=>?_
    refine se 13 (ts:=[Z (M b 0),Z (M b 0),Z (M b 17),rL l3 c2 ob.result,Z (M b 0),Z (M b 0),Z (M b 3),Z (M b 10),pi ob.n.Keys,nz ob.n.Keys,bC (i1:Int),bC (IntKind.i64.wrap ((ob.n.Keys.length:Int)+(i1:Int))),Z (z6 l3 ((IntKind.i64.wrap ((ob.n.Keys.length:Int)+(i1:Int))).toNat*1+0))]) mixed J J J
     ⟨iy J J,
     ⟨gk 24 0 J J (aC (D J)),
     ⟨gk 25 1 J J (oK 17 gc J J J),
     ⟨gk 26 2 J J (nq c0 (eD lO) (.head _) J (D J)),
     ⟨iy J J,
     ⟨gk 28 4 J J (aC (D J)),
     ⟨gk 29 5 J J (oK 3 hU J J J),
     ⟨gk 30 6 J J (oK 10 pX J J J),
     ⟨gk 31 7 J J (aE (r:=rH co [(1,au l1 c ob.kinds.length),(2,au l2 c1 ob.open_.length)]) (x:=cD ob (au l3 c2 ob.result.length)) c0 J J (eD (eh xM iQ)) (.head _) (D J)),
     ⟨gk 32 8 J J (WF fx J),
     ⟨iy J J,
     ⟨kx 33 9 34 10 J J J (fS (D J) (D J)),
     ⟨kx 27 3 35 11 J J J (iC fx b9 (.tail _ (.tail _ (.tail _ (.head _)))) (D J) (D J) q_e1),
     aM⟩⟩⟩⟩⟩⟩⟩⟩⟩⟩⟩⟩⟩ ?_
    refine kT<|bM h fun st q_st h=>Ch b9 J ax J q_e1 (so q_st) (D J) hI<|sZ (yq (so q_st)) 27 J<|Fh (O' :=[dk bP 3 l3 c2 st,Q (rH co [(1,au l1 c ob.kinds.length),(2,au l2 c1 ob.open_.length)]) 168 b (cD ob (au l3 c2 st.length)),tip po 69 l1 c ob.kinds,dk bP 3 l2 c1 ob.open_]) (by rw [yq (so q_st)])<|aX<|dW V hN J<|aQ<|aQ<|aQ ?_;exact bj (aV (ih (i1+1) ({ob with result:=st}:al) l1 c l2 c1 l3 c2 ⟨dQ V,h⟩) (bo J))
   ·refine bE<|dW V hN J ?_;exact bj (aV (ih (i1+1) ob l1 c l2 c1 l3 c2 ⟨dQ V,h⟩) (bo J))

end Go.Proofs.YtdohlidddcgfjaaGreat

