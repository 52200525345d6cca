/- bO of this claim: P4. -/
import Derived.Test.YtdohlidddcgfjaaGreatFeT
import Derived.Test.YtdohlidddcgfjaaGreatFeP3
set_option linter.all false
namespace Go.Proofs.YtdohlidddcgfjaaGreat
open Go
set_option maxRecDepth 100000

def Vx(b:Nat)(ix:OI) l{R}(h:d7 l=some R):bf a8 167 [K (M b 0)] (ei b l ix) (fun _:OI=>gA R.1) (fun j=>ei b R.2 j):=by
 refine bf.of Tryz.func167 J J J fun w0 S0=>?_;refine(show CG _ _ _ [Z (rH br [(1,au (ix.h 0).1 (ix.h 0).2 l.kinds.length),(2,au (ix.h 1).1 (ix.h 1).2 l.open_.length)]) 168 b l,tip oz 69 (ix.h 0).1 (ix.h 0).2 l.kinds,de bN 3 (ix.h 1).1 (ix.h 1).2 l.open_] _ from ?_);refine be<|bL<|bt<|ay J<|Q (aA (D J))<|aT 3 gH J<|Q (aD (r:=rH br [(1,au (ix.h 0).1 (ix.h 0).2 l.kinds.length),(2,au (ix.h 1).1 (ix.h 1).2 l.open_.length)]) (x:=l) ge J J (ee fh) (.head _) (D J))<|bz ge kR J fun b1=>bu ge ax J<|bh 3 J<|bt<|be<|bI pS iW c0 J<|cM fc J<|Q (gy (D J) hI)<|aQ J<|ai J (cq ox gL J J) ?_;refine ai J (ck xq J J)<|ai J (m2 q9 J)<|ai J (fun V=>gy (bJ J V) hI)<|cU J<|aQ J<|ai J (cq pS iW J J)<|ai J (ck c0 J J)<|ai J (m2 fc J)<|ai J (cq ox gL J J)<|ai J (ck xq J J)<|ai J (m2 q9 J)<|ai J (fun V=>fq (bJ J V) (bJ J V))<|ai J (fun V=>jW (bJ J V) hI)<|cU J<|aX J<|ay J<|Q (aA (D J))<|aT 17 fH J<|cP false bN 3<|cH ?_;refine ky c0 J (sa (hs' :=[(1,au (ix.h 0).1 (ix.h 0).2 l.kinds.length),(2,au (ix.h 1).1 (ix.h 1).2 l.open_.length)]) (kV _ _) ⟨.inr ⟨J,J⟩,.inr ⟨J,J⟩,d⟩ J) J (D J) (IE (show aI _ _ _ (K FR)from vC)) ?_;refine(show RG _ _ _ _ [_,_,_,_] _ from ?_);refine bt<|bp<|bI pS iW c0 J<|cM fc J<|Q (ca hI)<|bt<|aC<|bD (k:=40) J fun hN=>b7<|gc<|gp<|gp<|gp ?_;refine aZ (uv (bx:=fun ls i ob l1 c l2 c1 l3 c2=>(l.n.Keys.drop i=ls)/\dk l ls ob=some R) (Of:=fun _ i ob l1 c l2 c1 l3 c2=>[Z (rH cg [(1,au l1 c ob.kinds.length),(2,au l2 c1 ob.open_.length)]) 168 b (cz ob (au l3 c2 ob.result.length)),tip oz 69 l1 c ob.kinds,de bN 3 l2 c1 ob.open_,de bN 3 l3 c2 ob.result]) (Gf:=fun _ i ob l1 c l2 c1 l3 c2=>[(0,K (M b 0)),(3,c8 bl l.n),(4,gA (((decide ((l.n.Keys.length:Int)<=(3:Int)))&&(decide ((l.n.Aggs.length:Int)<=(12:Int))))&&(decide ((0:Int)<(IntKind.i64.wrap ((l.n.Keys.length:Int)+(l.n.Aggs.length:Int))))))),(40,oo l.n.Keys),(41,oA l.n.Keys),(42,bw (i:Int))]) (fun i ob l1 c l2 c1 l3 c2 h=>?_) (fun e tl ih i ob l1 c l2 c1 l3 c2 h=>?_) l.n.Keys 0 ({l with result:=ra}:al) (ix.h 0).1 (ix.h 0).2 (ix.h 1).1 (ix.h 1).2 none 0 ⟨J,h⟩) (bq J)
 ·obtain⟨X,h⟩:=h
  refine fY X J<|aG<|bp<|bI ox gL xq J<|cM q9 J<|Q (ca hI)<|bt<|aC<|bD (k:=75) J fun hN1=>?_;refine b7 ?_;refine aZ (zW (bx:=fun ls1 i1 ok ob1 l4 c3 l5 c4 l6 c5=>(l.n.Aggs.drop i1=ls1)/\cr ls1 ok ob1=some R) (Of:=fun _ i1 ok ob1 l4 c3 l5 c4 l6 c5=>[Z (rH cg [(1,au l4 c3 ob1.kinds.length),(2,au l5 c4 ob1.open_.length)]) 168 b (cz ob1 (au l6 c5 ob1.result.length)),tip oz 69 l4 c3 ob1.kinds,de bN 3 l5 c4 ob1.open_,de bN 3 l6 c5 ob1.result]) (Gf:=fun _ i1 ok ob1 l4 c3 l5 c4 l6 c5=>[(0,K (M b 0)),(4,gA ok),(75,eg (fK) l.n.Aggs),(76,oA l.n.Aggs),(77,bw (i1:Int))]) (fun i1 ok ob1 l4 c3 l5 c4 l6 c5 h=>?_) (fun e1 tl1 ih1 i1 ok ob1 l4 c3 l5 c4 l6 c5 h=>?_) l.n.Aggs 0 (((decide ((l.n.Keys.length:Int)<=(3:Int)))&&(decide ((l.n.Aggs.length:Int)<=(12:Int))))&&(decide ((0:Int)<(IntKind.i64.wrap ((l.n.Keys.length:Int)+(l.n.Aggs.length:Int)))))) ob l1 c l2 c1 l3 c2 ⟨J,h⟩) (bq J)
  ·obtain⟨hx1,h⟩:=h
   refine fY hx1 J<|aG<|ay J<|bk J<|aN<|df<|af<|tR (r' :=rH br [(1,au l4 c3 ob1.kinds.length),(2,au l5 c4 ob1.open_.length)]) (x' :=ob1) (fun _ _ _ ho h=>Q7 h (fun h=>iq (qK ho (.head _)) h)) ?_;exact af<|aY<|aH<|aH<|aH<|so h▸bA J (p9 [(l4,c3),(l5,c4)]) J J (fun _ _ h=>h)
  ·obtain⟨hx1,h⟩:=h
   refine fX hx1 J<|aS<|aC<|be<|gq q9 kT J (fa hx1)<|bz kT uC J fun b2=>bu kT ax J<|bh 8 J<|bt<|be<|cJ ?_;refine bt ?_;refine FI (bx:=fun ok1 k=>ek (cr tl1) ob1 ok1 k=some R) (Of:=fun ok1 k=>[Z (rH cg [(1,au l4 c3 ob1.kinds.length),(2,au l5 c4 ob1.open_.length)]) 168 b (cz ob1 (au l6 c5 ob1.result.length)),tip oz 69 l4 c3 ob1.kinds,de bN 3 l5 c4 ob1.open_,de bN 3 l6 c5 ob1.result]) (Gf:=fun ok1 k=>[(0,K (M b 0)),(4,gA ok1),(9,bw k),(75,eg (fK) l.n.Aggs),(76,oA l.n.Aggs),(77,bw (i1:Int))]) (fun ok1 k h=>?_) (fun tV=>?_)
   ·skip
    refine av<|aQ J<|aQ J<|Q (aA (D J))<|aT 17 fH J<|Q (mP c0 (ee la) (.head _) J (D J))<|aQ J<|Q (ba (r:=bN) (ys:=[k]) (xs:=[.tmp 139]) fc bW J J J J J ⟨(D J),d⟩)<|kb<|bK h fun l7 q_l7 h=>c9 bW J J J J fc J J (D J) (D J) q_l7 fun l8 c6=>Q (aA (D J))<|aT 17 fH J<|cH<|ky c0 J (sa (hs' :=[(1,au l4 c3 ob1.kinds.length),(2,au l5 c4 ob1.open_.length)]) (iw _ _ _) ⟨.inr ⟨J,J⟩,.inr ⟨J,J⟩,d⟩ J) J (D J) (IE (D J)) ?_;refine(show RG _ _ _ _ [_,_,_,_] _ from ?_);refine aU<|eu hx1 hN1 J<|af<|aN<|aN<|aN ?_;exact bm (aZ (ih1 (i1+1) ok1 ({ob1 with result:=l7}:al) l4 c3 l5 c4 l8 c6 ⟨ej hx1,h⟩) (bq J))
   ·skip
    refine be<|bI oe lX bW J<|bP J<|di h J (fun h=>?_) (fun h=>?_)
    ·refine av<|aQ J<|aQ J<|ai J (cq tg q0 J J)<|ai J (fun V=>ig ss J lW J (bJ J V))<|ai J (ck Cn J J)<|ai J (m2 tU J)<|ai J (lr J)<|cU J<|gB J<|aU ?_;exact bU (tV (ok&&((e1.Arg.Nodes.length:Int)==(0:Int))) (2:Int) h) (bq J)
    ·refine aS<|bK h fun r q_r h=>?_
     refine kE (ts:=[_,_,_,_,_,_,_,_,_,_,_,_]) mixed J J
      ⟨JA 8 J J (vF tg q0 J J),
      ⟨tY 0 lL J J,
      ⟨hT J J,
      ⟨fW 95 2 J J (aA (D J)),
      ⟨fW 96 3 J J (nR 15 jg J J J),
      ⟨fW 97 4 J J (aD (r:=rH cg [(1,au l4 c3 ob1.kinds.length),(2,au l5 c4 ob1.open_.length)]) (x:=cz ob1 (au l6 c5 ob1.result.length)) c0 J J (ee j7) (.head _) (D J)),
      ⟨j9 94 1 98 5 J J J (dx Mz (BV _ _ q_r) ⟨(D J),(D J),d⟩),
      ⟨fW 99 6 J J (lz J),
      ⟨fW 92 7 J J (Jz J J),
      ⟨fW 92 7 J J (Jz J J),
      ⟨fW 100 8 J J (Js J),
      ⟨fW 101 9 J J (Js J),
      d⟩⟩⟩⟩⟩⟩⟩⟩⟩⟩⟩⟩ ?_
     refine aG<|ay J<|aQ J<|ai J (dd J)<|ai J (lr J)<|cU J<|aQ J<|ai J (cq oe lX J J)<|ai J (ck bW J J)<|ai J (fun V=>jW (bJ J V) hI)<|cU J<|aQ J<|ai J (cq oe lX J J)<|ai J (ck bW J J)<|ai J (fun V=>gy (bJ J V) hI)<|cU J<|aX J<|be<|tX oe lX J ?_;refine fP bW J<|bt<|aC<|be<|bP J<|aX J<|iY h J (fun h=>?_) (fun h=>?_)
     ·refine av<|aQ J<|aQ J<|ai J (dd J)<|ai J (lr J)<|ai J (sO J)<|dw J J J J (fun V=>lz J)<|dw J J J J (fun V=>dW (bJ J V) hI)<|ai J (fun V=>mO (bJ J V) (fun W=>(bJ J (yK V (Au W)))))<|cU J<|gB J<|aU<|aE ?_;exact bU (tV ((((ok&&(r.2==(0:Int)))&&(decide ((1:Int)<e1.Tag)))&&(decide (e1.Tag<=(5:Int))))&&((r.1==(2:Int))||(r.1==(0:Int)))) (2:Int) h) (bq J)
     ·refine iy (bx:=fun x=>gI (cr tl1) e1 ok ob1 r x=some R) (Of:=fun x=>[Z (rH cg [(1,au l4 c3 ob1.kinds.length),(2,au l5 c4 ob1.open_.length)]) 168 b (cz ob1 (au l6 c5 ob1.result.length)),tip oz 69 l4 c3 ob1.kinds,de bN 3 l5 c4 ob1.open_,de bN 3 l6 c5 ob1.result]) (Gf:=fun x=>[(0,K (M b 0)),(4,gA (((ok&&(r.2==(0:Int)))&&(decide ((1:Int)<e1.Tag)))&&(decide (e1.Tag<=(5:Int))))),(9,bw 2),(10,bw r.1),(75,eg (fK) l.n.Aggs),(76,oA l.n.Aggs),(77,bw (i1:Int)),(130,gA x)]) (fun x h=>?_) (fun K1=>?_)
      ·skip
       refine iY h J (fun h=>?_) (fun h=>?_)
       ·refine av<|aQ J<|gB J<|aU<|aE ?_;exact bU (tV (((ok&&(r.2==(0:Int)))&&(decide ((1:Int)<e1.Tag)))&&(decide (e1.Tag<=(5:Int)))) r.1 h) (bq J)
       ·refine bG<|aE ?_;exact bU (tV (((ok&&(r.2==(0:Int)))&&(decide ((1:Int)<e1.Tag)))&&(decide (e1.Tag<=(5:Int)))) (2:Int) h) (bq J)
      ·skip
       refine be<|bP J<|aX J<|iY h J (fun h=>?_) (fun h=>?_)
       ·refine bG ?_;exact bU (K1 (e1.Tag==(4:Int)) h) (bq J)
       ·refine av<|bP J<|gB J<|aU ?_;exact bU (K1 (e1.Tag==(5:Int)) h) (bq J)
 ·obtain⟨X,h⟩:=h
  refine fX X J<|aS<|aC<|be<|gq fc bW J (fa X)<|aX J<|bp<|aQ J<|Q (iC (D J) hI) ?_;refine aQ J<|b8 J (dd J)<|b8 J (dd J)<|b8 J (fun V=>aA (bJ J V))<|b8 J (fun V=>bQ (n:=15) jg J (bJ J V) J)<|b8 J (fun V=>aD (r:=rH cg [(1,au l1 c ob.kinds.length),(2,au l2 c1 ob.open_.length)]) (x:=cz ob (au l3 c2 ob.result.length)) c0 J J (ee j7) (.head _) (bJ J V))<|b8 J (m2 fc J)<|b8 J (fun V=>ie (bJ J V) (bJ J V))<|kG J<|di h J (fun h=>?_) (fun h=>?_)
  ·exact be<|bL<|co<|aF<|fJ<|aF<|fJ<|aN<|df<|af<|tR (r' :=rH br [(1,au l1 c ob.kinds.length),(2,au l2 c1 ob.open_.length)]) (x' :=ob) (fun _ _ _ ho h=>Q7 h (fun h=>iq (qK ho (.head _)) h))<|af<|aY<|aH<|aH<|aH<|so h▸bA J (p9 [(l1,c),(l2,c1)]) J J (fun _ _ h=>h)
  ·refine jv<|bK h fun e2 q_e2 h=>bK h fun l9 q_l9 h=>?_
   refine iv 14 [tc (K (M b 0)),tc (K (M b 0)),tc (K (M b 0)),tc (K (M b 17)),tc (qP l3 c2 ob.result),tc (K (M b 0)),tc (K (M b 0)),tc (K (M b 15)),tc (oo ob.a_),tc (bw e),tc (c8 bN e2),tc (bw e2),tc (oo ([e2])),([13],fun h3=>K (au ((h3.getD 0 jj).h 0).1 ((h3.getD 0 jj).h 0).2 l9.length))] [false,false,false,false,false,false,false,false,false,false,false,false,false,true] [fun _=>[Z (rH cg [(1,au l1 c ob.kinds.length),(2,au l2 c1 ob.open_.length)]) 168 b (cz ob (au l3 c2 ob.result.length)),tip oz 69 l1 c ob.kinds,de bN 3 l2 c1 ob.open_,de bN 3 l3 c2 ob.result],fun sg=>[de bN 3 ((sg 13).h 0).1 ((sg 13).h 0).2 l9,Z (rH cg [(1,au l1 c ob.kinds.length),(2,au l2 c1 ob.open_.length)]) 168 b (cz ob (au l3 c2 ob.result.length)),tip oz 69 l1 c ob.kinds,de bN 3 l2 c1 ob.open_]] J mixed J J J J J
    ⟨⟨[⟨0,fun _=>K (M b 0),none⟩],_,0,1,J,⟨(fun _=>J),d⟩,J,J,J,J,J,fun _ sg _ _=>ac J (lz J)⟩,
    ⟨⟨[⟨0,fun _=>K (M b 0),none⟩],_,0,0,J,⟨(fun _=>J),d⟩,J,J,J,J,J,fun _ sg _ _=>ac J (lz J)⟩,
    ⟨⟨[⟨58,fun _=>K (M b 0),some 1⟩],_,0,0,J,⟨(fun _=>J),d⟩,J,J,J,J,J,fun _ sg _ _=>ac J (aA (D J))⟩,
    ⟨⟨[⟨59,fun _=>K (M b 0),some 2⟩],_,0,0,J,⟨(fun _=>J),d⟩,J,J,J,J,J,fun _ sg _ _=>ac J (nR 17 fH J J J)⟩,
    ⟨⟨[⟨60,fun _=>K (M b 17),some 3⟩],_,0,0,J,⟨(fun _=>J),d⟩,J,J,J,J,J,mW (fun sg=>ac J (mP c0 (ee la) (.head _) J (D J)))⟩,
    ⟨⟨[⟨0,fun _=>K (M b 0),none⟩],_,0,0,J,⟨(fun _=>J),d⟩,J,J,J,J,J,fun _ sg _ _=>ac J (lz J)⟩,
    ⟨⟨[⟨62,fun _=>K (M b 0),some 5⟩],_,0,0,J,⟨(fun _=>J),d⟩,J,J,J,J,J,fun _ sg _ _=>ac J (aA (D J))⟩,
    ⟨⟨[⟨63,fun _=>K (M b 0),some 6⟩],_,0,0,J,⟨(fun _=>J),d⟩,J,J,J,J,J,fun _ sg _ _=>ac J (nR 15 jg J J J)⟩,
    ⟨⟨[⟨64,fun _=>K (M b 15),some 7⟩],_,0,0,J,⟨(fun _=>J),d⟩,J,J,J,J,J,mW (fun sg=>ac J (aD (r:=rH cg [(1,au l1 c ob.kinds.length),(2,au l2 c1 ob.open_.length)]) (x:=cz ob (au l3 c2 ob.result.length)) c0 J J (ee j7) (.head _) (D J)))⟩,
    ⟨⟨[⟨6,fun _=>tD bN e,none⟩],_,0,0,J,⟨(fun _=>J),d⟩,J,J,J,J,J,fun _ sg _ _=>ac J (lz J)⟩,
    ⟨⟨[⟨65,fun _=>tD xX ob.a_,some 8⟩,⟨66,fun _=>tD bN e,some 9⟩],_,0,0,J,⟨(fun _=>J),(fun _=>J),d⟩,J,J,J,J,J,fun _ sg _ _=>ac J (Ly fc bW J J J q_e2)⟩,
    ⟨⟨[⟨67,fun _=>c8 bN e2,some 10⟩],_,0,0,J,⟨(fun _=>J),d⟩,J,J,J,J,J,fun _ sg _ _=>ac J (Cf bW J J)⟩,
    ⟨⟨[⟨68,fun _=>tD bN e2,some 11⟩],_,0,0,J,⟨(fun _=>J),d⟩,J,J,J,J,J,fun _ sg _ _=>ac J (ba (r:=bN) (ys:=[e2]) (xs:=[.tmp 68]) fc bW J J J J J ⟨(D J),d⟩)⟩,
    ⟨⟨[⟨61,fun _=>K (au l3 c2 ob.result.length),some 4⟩,⟨69,fun _=>tD xX ([e2]),some 12⟩],_,J,⟨(fun _=>J),(fun _=>J),d⟩,J,J,J,fun sg=>bT J (EffOK.fr3 (tk bW J J J J fc J (D J) (D J) q_l9))⟩,
    d⟩⟩⟩⟩⟩⟩⟩⟩⟩⟩⟩⟩⟩⟩ (fun sg=>?_)
   refine(show RG _ _ _ _ [_,_,_,_] _ from ?_);refine Q (aA (D J))<|aT 17 fH J<|cH<|ky c0 J (sa (hs' :=[(1,au l1 c ob.kinds.length),(2,au l2 c1 ob.open_.length)]) (iw _ _ _) ⟨.inr ⟨J,J⟩,.inr ⟨J,J⟩,d⟩ J) J (D J) (IE (D J)) ?_;refine(show RG _ _ _ _ [_,_,_,_] _ from ?_);refine aU<|eu X hN J<|af<|aN<|aN<|aN ?_;exact bm (aZ (ih (i+1) ({ob with result:=l9}:al) l1 c l2 c1 ((sg 13).h 0).1 ((sg 13).h 0).2 ⟨ej X,h⟩) (bq J))

def Vw(b:Nat)(ix:OI) l{R}(h:d7 l=some R):bf a8 167 [K (M b 0)] (ei b l ix) (fun _:OI=>gA R.1) (fun j=>UE b R.2 j):=by
 refine bf.of Tryz.func167 J J J fun w0 S0=>?_;refine(show CG _ _ _ [Z (rH br [(1,au (ix.h 0).1 (ix.h 0).2 l.kinds.length),(2,au (ix.h 1).1 (ix.h 1).2 l.open_.length)]) 168 b l,tip oz 69 (ix.h 0).1 (ix.h 0).2 l.kinds,de bN 3 (ix.h 1).1 (ix.h 1).2 l.open_] _ from ?_);refine be<|bL<|bt<|ay J<|Q (aA (D J))<|aT 3 gH J<|Q (aD (r:=rH br [(1,au (ix.h 0).1 (ix.h 0).2 l.kinds.length),(2,au (ix.h 1).1 (ix.h 1).2 l.open_.length)]) (x:=l) ge J J (ee fh) (.head _) (D J))<|bz ge kR J fun b1=>bu ge ax J<|bh 3 J<|bt<|be<|bI pS iW c0 J<|cM fc J<|Q (gy (D J) hI)<|aQ J<|ai J (cq ox gL J J) ?_;refine ai J (ck xq J J)<|ai J (m2 q9 J)<|ai J (fun V=>gy (bJ J V) hI)<|cU J<|aQ J<|ai J (cq pS iW J J)<|ai J (ck c0 J J)<|ai J (m2 fc J)<|ai J (cq ox gL J J)<|ai J (ck xq J J)<|ai J (m2 q9 J)<|ai J (fun V=>fq (bJ J V) (bJ J V))<|ai J (fun V=>jW (bJ J V) hI)<|cU J<|aX J<|ay J<|Q (aA (D J))<|aT 17 fH J<|cP false bN 3<|cH ?_;refine ky c0 J (sa (hs' :=[(1,au (ix.h 0).1 (ix.h 0).2 l.kinds.length),(2,au (ix.h 1).1 (ix.h 1).2 l.open_.length)]) (kV _ _) ⟨.inr ⟨J,J⟩,.inr ⟨J,J⟩,d⟩ J) J (D J) (IE (show aI _ _ _ (K FR)from vC)) ?_;refine(show RG _ _ _ _ [_,_,_,_] _ from ?_);refine bt<|bp<|bI pS iW c0 J<|cM fc J<|Q (ca hI)<|bt<|aC<|bD (k:=40) J fun hN=>b7<|gc<|gp<|gp<|gp ?_;refine aZ (uv (bx:=fun ls i ob l1 c l2 c1 l3 c2=>(l.n.Keys.drop i=ls)/\dk l ls ob=some R) (Of:=fun _ i ob l1 c l2 c1 l3 c2=>[Z (rH cg [(1,au l1 c ob.kinds.length),(2,au l2 c1 ob.open_.length)]) 168 b (cz ob (au l3 c2 ob.result.length)),tip oz 69 l1 c ob.kinds,de bN 3 l2 c1 ob.open_,de bN 3 l3 c2 ob.result]) (Gf:=fun _ i ob l1 c l2 c1 l3 c2=>[(0,K (M b 0)),(3,c8 bl l.n),(4,gA (((decide ((l.n.Keys.length:Int)<=(3:Int)))&&(decide ((l.n.Aggs.length:Int)<=(12:Int))))&&(decide ((0:Int)<(IntKind.i64.wrap ((l.n.Keys.length:Int)+(l.n.Aggs.length:Int))))))),(40,oo l.n.Keys),(41,oA l.n.Keys),(42,bw (i:Int))]) (fun i ob l1 c l2 c1 l3 c2 h=>?_) (fun e tl ih i ob l1 c l2 c1 l3 c2 h=>?_) l.n.Keys 0 ({l with result:=ra}:al) (ix.h 0).1 (ix.h 0).2 (ix.h 1).1 (ix.h 1).2 none 0 ⟨J,h⟩) (bq J)
 ·obtain⟨X,h⟩:=h
  refine fY X J<|aG<|bp<|bI ox gL xq J<|cM q9 J<|Q (ca hI)<|bt<|aC<|bD (k:=75) J fun hN1=>?_;refine b7 ?_;refine aZ (zW (bx:=fun ls1 i1 ok ob1 l4 c3 l5 c4 l6 c5=>(l.n.Aggs.drop i1=ls1)/\cr ls1 ok ob1=some R) (Of:=fun _ i1 ok ob1 l4 c3 l5 c4 l6 c5=>[Z (rH cg [(1,au l4 c3 ob1.kinds.length),(2,au l5 c4 ob1.open_.length)]) 168 b (cz ob1 (au l6 c5 ob1.result.length)),tip oz 69 l4 c3 ob1.kinds,de bN 3 l5 c4 ob1.open_,de bN 3 l6 c5 ob1.result]) (Gf:=fun _ i1 ok ob1 l4 c3 l5 c4 l6 c5=>[(0,K (M b 0)),(4,gA ok),(75,eg (fK) l.n.Aggs),(76,oA l.n.Aggs),(77,bw (i1:Int))]) (fun i1 ok ob1 l4 c3 l5 c4 l6 c5 h=>?_) (fun e1 tl1 ih1 i1 ok ob1 l4 c3 l5 c4 l6 c5 h=>?_) l.n.Aggs 0 (((decide ((l.n.Keys.length:Int)<=(3:Int)))&&(decide ((l.n.Aggs.length:Int)<=(12:Int))))&&(decide ((0:Int)<(IntKind.i64.wrap ((l.n.Keys.length:Int)+(l.n.Aggs.length:Int)))))) ob l1 c l2 c1 l3 c2 ⟨J,h⟩) (bq J)
  ·obtain⟨hx1,h⟩:=h
   exact fY hx1 J<|aG<|ay J<|bk J<|aN<|aN<|aN<|aN<|so h▸bA J (p9 [(l4,c3),(l5,c4),(l6,c5)]) J J (fun _ _ h=>h)
  ·obtain⟨hx1,h⟩:=h
   refine fX hx1 J<|aS<|aC<|be<|gq q9 kT J (fa hx1)<|bz kT uC J fun b2=>bu kT ax J<|bh 8 J<|bt<|be<|cJ ?_;refine bt ?_;refine FI (bx:=fun ok1 k=>ek (cr tl1) ob1 ok1 k=some R) (Of:=fun ok1 k=>[Z (rH cg [(1,au l4 c3 ob1.kinds.length),(2,au l5 c4 ob1.open_.length)]) 168 b (cz ob1 (au l6 c5 ob1.result.length)),tip oz 69 l4 c3 ob1.kinds,de bN 3 l5 c4 ob1.open_,de bN 3 l6 c5 ob1.result]) (Gf:=fun ok1 k=>[(0,K (M b 0)),(4,gA ok1),(9,bw k),(75,eg (fK) l.n.Aggs),(76,oA l.n.Aggs),(77,bw (i1:Int))]) (fun ok1 k h=>?_) (fun tV=>?_)
   ·skip
    refine av<|aQ J<|aQ J<|Q (aA (D J))<|aT 17 fH J<|Q (mP c0 (ee la) (.head _) J (D J))<|aQ J<|Q (ba (r:=bN) (ys:=[k]) (xs:=[.tmp 139]) fc bW J J J J J ⟨(D J),d⟩)<|kb<|bK h fun l7 q_l7 h=>c9 bW J J J J fc J J (D J) (D J) q_l7 fun l8 c6=>Q (aA (D J))<|aT 17 fH J<|cH<|ky c0 J (sa (hs' :=[(1,au l4 c3 ob1.kinds.length),(2,au l5 c4 ob1.open_.length)]) (iw _ _ _) ⟨.inr ⟨J,J⟩,.inr ⟨J,J⟩,d⟩ J) J (D J) (IE (D J)) ?_;refine(show RG _ _ _ _ [_,_,_,_] _ from ?_);refine aU<|eu hx1 hN1 J<|af<|aN<|aN<|aN ?_;exact bm (aZ (ih1 (i1+1) ok1 ({ob1 with result:=l7}:al) l4 c3 l5 c4 l8 c6 ⟨ej hx1,h⟩) (bq J))
   ·skip
    refine be<|bI oe lX bW J<|bP J<|di h J (fun h=>?_) (fun h=>?_)
    ·refine av<|aQ J<|aQ J<|ai J (cq tg q0 J J)<|ai J (fun V=>ig ss J lW J (bJ J V))<|ai J (ck Cn J J)<|ai J (m2 tU J)<|ai J (lr J)<|cU J<|gB J<|aU ?_;exact bU (tV (ok&&((e1.Arg.Nodes.length:Int)==(0:Int))) (2:Int) h) (bq J)
    ·refine aS<|bK h fun r q_r h=>?_
     refine kE (ts:=[_,_,_,_,_,_,_,_,_,_,_,_]) mixed J J
      ⟨JA 8 J J (vF tg q0 J J),
      ⟨tY 0 lL J J,
      ⟨hT J J,
      ⟨fW 95 2 J J (aA (D J)),
      ⟨fW 96 3 J J (nR 15 jg J J J),
      ⟨fW 97 4 J J (aD (r:=rH cg [(1,au l4 c3 ob1.kinds.length),(2,au l5 c4 ob1.open_.length)]) (x:=cz ob1 (au l6 c5 ob1.result.length)) c0 J J (ee j7) (.head _) (D J)),
      ⟨j9 94 1 98 5 J J J (dx Mz (BV _ _ q_r) ⟨(D J),(D J),d⟩),
      ⟨fW 99 6 J J (lz J),
      ⟨fW 92 7 J J (Jz J J),
      ⟨fW 92 7 J J (Jz J J),
      ⟨fW 100 8 J J (Js J),
      ⟨fW 101 9 J J (Js J),
      d⟩⟩⟩⟩⟩⟩⟩⟩⟩⟩⟩⟩ ?_
     refine aG<|ay J<|aQ J<|ai J (dd J)<|ai J (lr J)<|cU J<|aQ J<|ai J (cq oe lX J J)<|ai J (ck bW J J)<|ai J (fun V=>jW (bJ J V) hI)<|cU J<|aQ J<|ai J (cq oe lX J J)<|ai J (ck bW J J)<|ai J (fun V=>gy (bJ J V) hI)<|cU J<|aX J<|be<|tX oe lX J ?_;refine fP bW J<|bt<|aC<|be<|bP J<|aX J<|iY h J (fun h=>?_) (fun h=>?_)
     ·refine av<|aQ J<|aQ J<|ai J (dd J)<|ai J (lr J)<|ai J (sO J)<|dw J J J J (fun V=>lz J)<|dw J J J J (fun V=>dW (bJ J V) hI)<|ai J (fun V=>mO (bJ J V) (fun W=>(bJ J (yK V (Au W)))))<|cU J<|gB J<|aU<|aE ?_;exact bU (tV ((((ok&&(r.2==(0:Int)))&&(decide ((1:Int)<e1.Tag)))&&(decide (e1.Tag<=(5:Int))))&&((r.1==(2:Int))||(r.1==(0:Int)))) (2:Int) h) (bq J)
     ·refine iy (bx:=fun x=>gI (cr tl1) e1 ok ob1 r x=some R) (Of:=fun x=>[Z (rH cg [(1,au l4 c3 ob1.kinds.length),(2,au l5 c4 ob1.open_.length)]) 168 b (cz ob1 (au l6 c5 ob1.result.length)),tip oz 69 l4 c3 ob1.kinds,de bN 3 l5 c4 ob1.open_,de bN 3 l6 c5 ob1.result]) (Gf:=fun x=>[(0,K (M b 0)),(4,gA (((ok&&(r.2==(0:Int)))&&(decide ((1:Int)<e1.Tag)))&&(decide (e1.Tag<=(5:Int))))),(9,bw 2),(10,bw r.1),(75,eg (fK) l.n.Aggs),(76,oA l.n.Aggs),(77,bw (i1:Int)),(130,gA x)]) (fun x h=>?_) (fun K1=>?_)
      ·skip
       refine iY h J (fun h=>?_) (fun h=>?_)
       ·refine av<|aQ J<|gB J<|aU<|aE ?_;exact bU (tV (((ok&&(r.2==(0:Int)))&&(decide ((1:Int)<e1.Tag)))&&(decide (e1.Tag<=(5:Int)))) r.1 h) (bq J)
       ·refine bG<|aE ?_;exact bU (tV (((ok&&(r.2==(0:Int)))&&(decide ((1:Int)<e1.Tag)))&&(decide (e1.Tag<=(5:Int)))) (2:Int) h) (bq J)
      ·skip
       refine be<|bP J<|aX J<|iY h J (fun h=>?_) (fun h=>?_)
       ·refine bG ?_;exact bU (K1 (e1.Tag==(4:Int)) h) (bq J)
       ·refine av<|bP J<|gB J<|aU ?_;exact bU (K1 (e1.Tag==(5:Int)) h) (bq J)
 ·obtain⟨X,h⟩:=h
  refine fX X J<|aS<|aC<|be<|gq fc bW J (fa X)<|aX J<|bp<|aQ J<|Q (iC (D J) hI) ?_;refine aQ J<|b8 J (dd J)<|b8 J (dd J)<|b8 J (fun V=>aA (bJ J V))<|b8 J (fun V=>bQ (n:=15) jg J (bJ J V) J)<|b8 J (fun V=>aD (r:=rH cg [(1,au l1 c ob.kinds.length),(2,au l2 c1 ob.open_.length)]) (x:=cz ob (au l3 c2 ob.result.length)) c0 J J (ee j7) (.head _) (bJ J V))<|b8 J (m2 fc J)<|b8 J (fun V=>ie (bJ J V) (bJ J V))<|kG J<|di h J (fun h=>?_) (fun h=>?_)
  ·exact be<|bL<|co<|aF<|fJ<|aF<|fJ<|aN<|aN<|aN<|aN<|so h▸bA J (p9 [(l1,c),(l2,c1),(l3,c2)]) J J (fun _ _ h=>h)
  ·refine jv<|bK h fun e2 q_e2 h=>bK h fun l9 q_l9 h=>?_
   refine iv 14 [tc (K (M b 0)),tc (K (M b 0)),tc (K (M b 0)),tc (K (M b 17)),tc (qP l3 c2 ob.result),tc (K (M b 0)),tc (K (M b 0)),tc (K (M b 15)),tc (oo ob.a_),tc (bw e),tc (c8 bN e2),tc (bw e2),tc (oo ([e2])),([13],fun h3=>K (au ((h3.getD 0 jj).h 0).1 ((h3.getD 0 jj).h 0).2 l9.length))] [false,false,false,false,false,false,false,false,false,false,false,false,false,true] [fun _=>[Z (rH cg [(1,au l1 c ob.kinds.length),(2,au l2 c1 ob.open_.length)]) 168 b (cz ob (au l3 c2 ob.result.length)),tip oz 69 l1 c ob.kinds,de bN 3 l2 c1 ob.open_,de bN 3 l3 c2 ob.result],fun sg=>[de bN 3 ((sg 13).h 0).1 ((sg 13).h 0).2 l9,Z (rH cg [(1,au l1 c ob.kinds.length),(2,au l2 c1 ob.open_.length)]) 168 b (cz ob (au l3 c2 ob.result.length)),tip oz 69 l1 c ob.kinds,de bN 3 l2 c1 ob.open_]] J mixed J J J J J
    ⟨⟨[⟨0,fun _=>K (M b 0),none⟩],_,0,1,J,⟨(fun _=>J),d⟩,J,J,J,J,J,fun _ sg _ _=>ac J (lz J)⟩,
    ⟨⟨[⟨0,fun _=>K (M b 0),none⟩],_,0,0,J,⟨(fun _=>J),d⟩,J,J,J,J,J,fun _ sg _ _=>ac J (lz J)⟩,
    ⟨⟨[⟨58,fun _=>K (M b 0),some 1⟩],_,0,0,J,⟨(fun _=>J),d⟩,J,J,J,J,J,fun _ sg _ _=>ac J (aA (D J))⟩,
    ⟨⟨[⟨59,fun _=>K (M b 0),some 2⟩],_,0,0,J,⟨(fun _=>J),d⟩,J,J,J,J,J,fun _ sg _ _=>ac J (nR 17 fH J J J)⟩,
    ⟨⟨[⟨60,fun _=>K (M b 17),some 3⟩],_,0,0,J,⟨(fun _=>J),d⟩,J,J,J,J,J,mW (fun sg=>ac J (mP c0 (ee la) (.head _) J (D J)))⟩,
    ⟨⟨[⟨0,fun _=>K (M b 0),none⟩],_,0,0,J,⟨(fun _=>J),d⟩,J,J,J,J,J,fun _ sg _ _=>ac J (lz J)⟩,
    ⟨⟨[⟨62,fun _=>K (M b 0),some 5⟩],_,0,0,J,⟨(fun _=>J),d⟩,J,J,J,J,J,fun _ sg _ _=>ac J (aA (D J))⟩,
    ⟨⟨[⟨63,fun _=>K (M b 0),some 6⟩],_,0,0,J,⟨(fun _=>J),d⟩,J,J,J,J,J,fun _ sg _ _=>ac J (nR 15 jg J J J)⟩,
    ⟨⟨[⟨64,fun _=>K (M b 15),some 7⟩],_,0,0,J,⟨(fun _=>J),d⟩,J,J,J,J,J,mW (fun sg=>ac J (aD (r:=rH cg [(1,au l1 c ob.kinds.length),(2,au l2 c1 ob.open_.length)]) (x:=cz ob (au l3 c2 ob.result.length)) c0 J J (ee j7) (.head _) (D J)))⟩,
    ⟨⟨[⟨6,fun _=>tD bN e,none⟩],_,0,0,J,⟨(fun _=>J),d⟩,J,J,J,J,J,fun _ sg _ _=>ac J (lz J)⟩,
    ⟨⟨[⟨65,fun _=>tD xX ob.a_,some 8⟩,⟨66,fun _=>tD bN e,some 9⟩],_,0,0,J,⟨(fun _=>J),(fun _=>J),d⟩,J,J,J,J,J,fun _ sg _ _=>ac J (Ly fc bW J J J q_e2)⟩,
    ⟨⟨[⟨67,fun _=>c8 bN e2,some 10⟩],_,0,0,J,⟨(fun _=>J),d⟩,J,J,J,J,J,fun _ sg _ _=>ac J (Cf bW J J)⟩,
    ⟨⟨[⟨68,fun _=>tD bN e2,some 11⟩],_,0,0,J,⟨(fun _=>J),d⟩,J,J,J,J,J,fun _ sg _ _=>ac J (ba (r:=bN) (ys:=[e2]) (xs:=[.tmp 68]) fc bW J J J J J ⟨(D J),d⟩)⟩,
    ⟨⟨[⟨61,fun _=>K (au l3 c2 ob.result.length),some 4⟩,⟨69,fun _=>tD xX ([e2]),some 12⟩],_,J,⟨(fun _=>J),(fun _=>J),d⟩,J,J,J,fun sg=>bT J (EffOK.fr3 (tk bW J J J J fc J (D J) (D J) q_l9))⟩,
    d⟩⟩⟩⟩⟩⟩⟩⟩⟩⟩⟩⟩⟩⟩ (fun sg=>?_)
   refine(show RG _ _ _ _ [_,_,_,_] _ from ?_);refine Q (aA (D J))<|aT 17 fH J<|cH<|ky c0 J (sa (hs' :=[(1,au l1 c ob.kinds.length),(2,au l2 c1 ob.open_.length)]) (iw _ _ _) ⟨.inr ⟨J,J⟩,.inr ⟨J,J⟩,d⟩ J) J (D J) (IE (D J)) ?_;refine(show RG _ _ _ _ [_,_,_,_] _ from ?_);refine aU<|eu X hN J<|af<|aN<|aN<|aN ?_;exact bm (aZ (ih (i+1) ({ob with result:=l9}:al) l1 c l2 c1 ((sg 13).h 0).1 ((sg 13).h 0).2 ⟨ej X,h⟩) (bq J))

def Vv(b:Nat)(ix:OI) l{R}(h:eJ l=some R):bf a8 168 [K (M b 0)] (ei b l ix) (fun _:OI=>gA R.1) (fun j=>ei b R.2 j):=by
 refine bf.of Tryz.func168 J J J fun w0 S0=>?_;refine(show CG _ _ _ [Z (rH br [(1,au (ix.h 0).1 (ix.h 0).2 l.kinds.length),(2,au (ix.h 1).1 (ix.h 1).2 l.open_.length)]) 168 b l,tip oz 69 (ix.h 0).1 (ix.h 0).2 l.kinds,de bN 3 (ix.h 1).1 (ix.h 1).2 l.open_] _ from ?_);refine be<|bL<|bt<|ay J<|bK h fun r q_r h=>aK (EffOK.fr2 (EffOK.fr2 (EffOK.fr2 (an (xs:=[.tmp 6]) (ts:=[K (M b 0)]) (ei b l ix) _ J TN (Vw b ix l q_r) ⟨(D J),d⟩ (fun _=>J))))) J fun i=>?_;refine(show RG _ _ _ _ [_,_,_,_] ((7,gA r.1)::_)from ?_);refine aX J<|bp<|aQ J<|Q (gg (D J))<|di h J (fun h=>?_) (fun h=>?_)
 ·exact be<|bL<|co<|aF<|aN<|df<|af<|tR (r' :=rH br [(1,au (i.h 0).1 (i.h 0).2 r.2.kinds.length),(2,au (i.h 1).1 (i.h 1).2 r.2.open_.length)]) (x' :=r.2) (fun _ _ _ ho h=>Q7 h (fun h=>iq (qK ho (.head _)) h))<|af<|aY<|aH<|aH<|aH<|so h▸bA J i J J (fun _ _ h=>h)
 ·refine jv<|bp<|aQ J<|Q (aA (D J))<|aT 3 gH J<|aT 11 ox J<|Q (aD (r:=rH cg [(1,au (i.h 0).1 (i.h 0).2 r.2.kinds.length),(2,au (i.h 1).1 (i.h 1).2 r.2.open_.length)]) (x:=cz r.2 (au (i.h 2).1 (i.h 2).2 r.2.result.length)) xq J J (ee (d5 wq gL)) (.head _) (D J))<|cM q9 J<|Q (ca hI)<|bt<|aC<|bD (k:=14) J fun hN=>b7 ?_;refine aZ (uv (bx:=fun ls i1 ob l1 c l2 c1 l3 c2=>(r.2.n.Aggs.drop i1=ls)/\eS ls i1 ob=some R) (Of:=fun _ i1 ob l1 c l2 c1 l3 c2=>[Z (rH cg [(1,au l1 c ob.kinds.length),(2,au l2 c1 ob.open_.length)]) 168 b (cz ob (au l3 c2 ob.result.length)),tip oz 69 l1 c ob.kinds,de bN 3 l2 c1 ob.open_,de bN 3 l3 c2 ob.result]) (Gf:=fun _ i1 ob l1 c l2 c1 l3 c2=>[(0,K (M b 0)),(14,eg (fK) r.2.n.Aggs),(15,oA r.2.n.Aggs),(16,bw (i1:Int))]) (fun i1 ob l1 c l2 c1 l3 c2 h=>?_) (fun e tl ih i1 ob l1 c l2 c1 l3 c2 h=>?_) r.2.n.Aggs 0 r.2 (i.h 0).1 (i.h 0).2 (i.h 1).1 (i.h 1).2 (i.h 2).1 (i.h 2).2 ⟨J,h⟩) (bq J)
  ·obtain⟨X,h⟩:=h
   refine fY X J<|aG<|be<|bL<|co<|aN<|df<|af<|tR (r' :=rH br [(1,au l1 c ob.kinds.length),(2,au l2 c1 ob.open_.length)]) (x' :=ob) (fun _ _ _ ho h=>Q7 h (fun h=>iq (qK ho (.head _)) h))<|af ?_;exact aY<|aH<|aH<|aH<|so h▸bA J (p9 [(l1,c),(l2,c1)]) J J (fun _ _ h=>h)
  ·obtain⟨X,h⟩:=h
   refine fX X J<|aS<|aC<|ay J<|gq q9 kT J (fa X)<|bz kT uC J fun b1=>gB J<|bu kT ax J<|bh 5 J<|bt<|aS ?_;refine av<|bI oe lX bW J<|bP J<|di h J (fun h=>?_) (fun h=>?_)
   ·refine bK h fun e1 q_e1 h=>?_
    refine q7 13 (ts:=[K (M b 0),K (M b 0),K (M b 17),qP l3 c2 ob.result,K (M b 0),K (M b 0),K (M b 3),K (M b 10),oo ob.n.Keys,oA ob.n.Keys,bw (i1:Int),bw (IntKind.i64.wrap ((ob.n.Keys.length:Int)+(i1:Int))),K (yG l3 ((IntKind.i64.wrap ((ob.n.Keys.length:Int)+(i1:Int))).toNat*1+0))]) mixed J J J
     ⟨hT J J,
     ⟨fW 24 0 J J (aA (D J)),
     ⟨fW 25 1 J J (nR 17 fH J J J),
     ⟨fW 26 2 J J (mP c0 (ee la) (.head _) J (D J)),
     ⟨hT J J,
     ⟨fW 28 4 J J (aA (D J)),
     ⟨fW 29 5 J J (nR 3 gH J J J),
     ⟨fW 30 6 J J (nR 10 pS J J J),
     ⟨fW 31 7 J J (aD (r:=rH cg [(1,au l1 c ob.kinds.length),(2,au l2 c1 ob.open_.length)]) (x:=cz ob (au l3 c2 ob.result.length)) c0 J J (ee (d5 wq iW)) (.head _) (D J)),
     ⟨fW 32 8 J J (T0 fc J),
     ⟨hT J J,
     ⟨j9 33 9 34 10 J J J (fq (D J) (D J)),
     ⟨j9 27 3 35 11 J J J (hU fc bW (.tail _ (.tail _ (.tail _ (.head _)))) (D J) (D J) q_e1),
     d⟩⟩⟩⟩⟩⟩⟩⟩⟩⟩⟩⟩⟩ ?_
    refine kb<|bK h fun st q_st h=>AP bW J ax J q_e1 (so q_st) (D J) hI<|rN (wU (so q_st)) 27 J<|DD (O' :=[de bN 3 l3 c2 st,Z (rH cg [(1,au l1 c ob.kinds.length),(2,au l2 c1 ob.open_.length)]) 168 b (cz ob (au l3 c2 st.length)),tip oz 69 l1 c ob.kinds,de bN 3 l2 c1 ob.open_]) (by rw [wU (so q_st)])<|aU<|eu X hN J<|aN<|aN<|aN ?_;exact bm (aZ (ih (i1+1) ({ob with result:=st}:al) l1 c l2 c1 l3 c2 ⟨ej X,h⟩) (bq J))
   ·refine bG<|eu X hN J ?_;exact bm (aZ (ih (i1+1) ob l1 c l2 c1 l3 c2 ⟨ej X,h⟩) (bq J))

end Go.Proofs.YtdohlidddcgfjaaGreat

