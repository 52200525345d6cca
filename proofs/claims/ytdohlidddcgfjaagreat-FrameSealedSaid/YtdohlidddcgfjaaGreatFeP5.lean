/- bO of this claim: P5. -/
import Derived.Test.YtdohlidddcgfjaaGreatFeT
import Derived.Test.YtdohlidddcgfjaaGreatFeP4
set_option linter.all false
namespace Go.Proofs.YtdohlidddcgfjaaGreat
open Go
set_option maxRecDepth 100000

def Vu(b:Nat)(ix:OI) l{R}(h:d8 l=some R):bf a8 169 [K (M b 0)] (ei b l ix) (fun _:OI=>gA R.1) (fun j=>ei b R.2 j):=by
 refine bf.of Tryz.func169 J J J fun w0 S0=>?_;refine(show CG _ _ _ [Z (rH br [(1,au (ix.h 0).1 (ix.h 0).2 l.kinds.length),(2,au (ix.h 1).1 (ix.h 1).2 l.open_.length)]) 168 b l,tip oz 69 (ix.h 0).1 (ix.h 0).2 l.kinds,de bN 3 (ix.h 1).1 (ix.h 1).2 l.open_] _ from ?_);refine be<|bL<|bt<|ay J<|Q (aA (D J))<|aT 3 gH J<|Q (aD (r:=rH br [(1,au (ix.h 0).1 (ix.h 0).2 l.kinds.length),(2,au (ix.h 1).1 (ix.h 1).2 l.open_.length)]) (x:=l) ge J J (ee fh) (.head _) (D J))<|bz ge kR J fun b1=>bu ge ax J<|bh 3 J<|bt<|be<|bI pS iW c0 J<|cM fc J<|aX J ?_;refine aS<|bK h fun e q_e h=>?_
 refine kE (ts:=[_,_,_,_,_,_,_,_,_,_,_,_,_,_,_,_,_,_,_,_,_,_,_,_,_,_,_,_,_,_,_,_,_,_]) mixed J J
  ⟨hT J J,
  ⟨fW 18 0 J J (aA (D J)),
  ⟨fW 19 1 J J (nR 0 GA J J J),
  ⟨fW 20 2 J J (aD (r:=rH br [(1,au (ix.h 0).1 (ix.h 0).2 l.kinds.length),(2,au (ix.h 1).1 (ix.h 1).2 l.open_.length)]) (x:=l) F2 J J (ee AA) (.head _) (D J)),
  ⟨JA 3 J J (vF rh uX J J),
  ⟨tY 4 bW J J,
  ⟨j9 21 3 23 5 J J J (Ly vy ge J J J q_e),
  ⟨fW 24 6 J J (vF ln em J J),
  ⟨tY 7 bW J J,
  ⟨fW 26 8 J J (YX J),
  ⟨fW 27 9 J J (lz J),
  ⟨D3 4 28 10 J J J (nN J J J J (fun V=>lz J)),
  ⟨tB 29 11 28 10 J J J (nN J J J J (fun V=>gy (bJ J V) hI)),
  ⟨j9 28 10 30 12 J J J (YW J J),
  ⟨fW 31 13 J J (lz J),
  ⟨D3 3 32 14 J J J (nN J J J J (fun V=>vF ox gL J J)),
  ⟨tB 33 15 32 14 J J J (nN J J J J (fun V=>jV xq J J (bJ J V))),
  ⟨tB 34 16 32 14 J J J (nN J J J J (fun V=>lS q9 (bJ J V))),
  ⟨tB 35 17 32 14 J J J (nN J J J J (fun V=>gy (bJ J V) hI)),
  ⟨j9 32 14 36 18 J J J (YW J J),
  ⟨fW 37 19 J J (lz J),
  ⟨D3 4 38 20 J J J (nN J J J J (fun V=>lz J)),
  ⟨D3 3 38 20 J J J (nN J J J J (fun V=>vF ox gL J J)),
  ⟨tB 40 22 38 20 J J J (nN J J J J (fun V=>jV xq J J (bJ J V))),
  ⟨tB 41 23 38 20 J J J (nN J J J J (fun V=>lS q9 (bJ J V))),
  ⟨OJ 39 21 42 24 38 20 J J J J (nN J J J J (fun V=>fq (bJ J V) (bJ J V))),
  ⟨D3 0 38 20 J J J (nN J J J J (fun V=>lz J)),
  ⟨tB 44 26 38 20 J J J (nN J J J J (fun V=>aA (bJ J V))),
  ⟨tB 45 27 38 20 J J J (nN J J J J (fun V=>bQ (n:=15) jg J (bJ J V) J)),
  ⟨tB 46 28 38 20 J J J (nN J J J J (fun V=>aD (r:=rH br [(1,au (ix.h 0).1 (ix.h 0).2 l.kinds.length),(2,au (ix.h 1).1 (ix.h 1).2 l.open_.length)]) (x:=l) c0 J J (ee od) (.head _) (bJ J V))),
  ⟨tB 47 29 38 20 J J J (nN J J J J (fun V=>lS fc (bJ J V))),
  ⟨OJ 43 25 48 30 38 20 J J J J (nN J J J J (fun V=>dW (bJ J V) (bJ J V))),
  ⟨j9 38 20 49 31 J J J (YW J J),
  ⟨fW 50 32 J J (Js J),
  d⟩⟩⟩⟩⟩⟩⟩⟩⟩⟩⟩⟩⟩⟩⟩⟩⟩⟩⟩⟩⟩⟩⟩⟩⟩⟩⟩⟩⟩⟩⟩⟩⟩⟩ ?_
 refine aG<|bp<|aQ J<|Q (gg (D J))<|di h J (fun h=>?_) (fun h=>?_)
 ·exact be<|bL<|co<|aF<|aH<|aH<|aH<|so h▸bA J ix J J (fun _ _ h=>h)
 ·refine jv<|ay J<|aQ J<|Q (aA (D J))<|aT 15 jg J<|Q (aD (r:=rH br [(1,au (ix.h 0).1 (ix.h 0).2 l.kinds.length),(2,au (ix.h 1).1 (ix.h 1).2 l.open_.length)]) (x:=l) c0 J J (ee od) (.head _) (D J))<|sN h QK (IY _) (ez J) fun r h l1 c=>Q (aA (D J))<|aT 17 fH J<|cH<|ky c0 J (sa (hs' :=[(1,au (ix.h 0).1 (ix.h 0).2 l.kinds.length),(2,au (ix.h 1).1 (ix.h 1).2 l.open_.length)]) (kV _ _) ⟨.inr ⟨J,J⟩,.inr ⟨J,J⟩,d⟩ J) J (D J) (IE (D J)) ?_;refine(show RG _ _ _ _ [_,_,_,_] _ from ?_);refine bt<|bp<|bI pS iW c0 J<|cM fc J<|Q (ca hI)<|bt<|aC<|bD (k:=62) J fun hN=>b7<|gc<|gp<|gp<|gp ?_;refine aZ (wM (bx:=fun ls i ok=>(l.n.Keys.drop i=ls)/\dP l r ls i ok=some R) (Of:=fun _ i ok=>[Z (rH cg [(1,au (ix.h 0).1 (ix.h 0).2 l.kinds.length),(2,au (ix.h 1).1 (ix.h 1).2 l.open_.length)]) 168 b (cz l (au l1 c r.length)),tip oz 69 (ix.h 0).1 (ix.h 0).2 l.kinds,de bN 3 (ix.h 1).1 (ix.h 1).2 l.open_,de bN 3 l1 c r]) (Gf:=fun _ i ok=>[(0,K (M b 0)),(3,c8 bl l.n),(4,oA l.n.Keys),(5,gA ok),(62,oo l.n.Keys),(63,oA l.n.Keys),(64,bw (i:Int))]) (fun i ok h=>?_) (fun e1 tl ih i ok h=>?_) l.n.Keys 0 ((((e.Op==(9:Int))&&(decide ((l.n.Keys.length:Int)<=(3:Int))))&&(decide ((l.n.Aggs.length:Int)<=(12:Int))))&&((IntKind.i64.wrap ((l.n.Keys.length:Int)+(l.n.Aggs.length:Int)))==(l.a_.length:Int))) ⟨J,h⟩) (bq J)
  ·obtain⟨X,h⟩:=h
   refine fY X J<|aG<|bp<|bI ox gL xq J<|cM q9 J<|Q (ca hI)<|bt<|aC<|bD (k:=87) J fun hN1=>?_;refine b7 ?_;refine aZ (zW (bx:=fun ls1 i1 ok1 ob l2 c1 l3 c2 l4 c3=>(l.n.Aggs.drop i1=ls1)/\bX l ls1 i1 ok1 ob=some R) (Of:=fun _ i1 ok1 ob l2 c1 l3 c2 l4 c3=>[Z (rH cg [(1,au l2 c1 ob.kinds.length),(2,au l3 c2 ob.open_.length)]) 168 b (cz ob (au l4 c3 ob.result.length)),tip oz 69 l2 c1 ob.kinds,de bN 3 l3 c2 ob.open_,de bN 3 l4 c3 ob.result]) (Gf:=fun _ i1 ok1 ob l2 c1 l3 c2 l4 c3=>[(0,K (M b 0)),(4,oA l.n.Keys),(5,gA ok1),(87,eg (fK) l.n.Aggs),(88,oA l.n.Aggs),(89,bw (i1:Int))]) (fun i1 ok1 ob l2 c1 l3 c2 l4 c3 h=>?_) (fun e2 tl1 ih1 i1 ok1 ob l2 c1 l3 c2 l4 c3 h=>?_) l.n.Aggs 0 ok ({l with result:=r}:al) (ix.h 0).1 (ix.h 0).2 (ix.h 1).1 (ix.h 1).2 l1 c ⟨J,h⟩) (bq J)
   ·obtain⟨hx1,h⟩:=h
    refine fY hx1 J<|aG<|ay J<|bk J<|aN<|df<|af<|tR (r' :=rH br [(1,au l2 c1 ob.kinds.length),(2,au l3 c2 ob.open_.length)]) (x' :=ob) (fun _ _ _ ho h=>Q7 h (fun h=>iq (qK ho (.head _)) h)) ?_;exact af<|aY<|aH<|aH<|aH<|so h▸bA J (p9 [(l2,c1),(l3,c2)]) J J (fun _ _ h=>h)
   ·obtain⟨hx1,h⟩:=h
    refine fX hx1 J<|aS<|aC<|ay J<|gq q9 kT J (fa hx1)<|bz kT uC J fun b2=>gB J<|bu kT ax J<|bh 9 J<|bt<|aS ?_;refine av<|aQ J<|Q (aA (D J))<|aT 15 jg J<|Q (aD (r:=rH cg [(1,au l2 c1 ob.kinds.length),(2,au l3 c2 ob.open_.length)]) (x:=cz ob (au l4 c3 ob.result.length)) c0 J J (ee j7) (.head _) (D J))<|aQ J<|aQ J<|Q (fq (D J) (D J))<|bK h fun e3 q_e3 h=>gq fc bW J q_e3<|aX J<|ay J<|aQ J<|ai J (cq tg q0 J J)<|ai J (fun V=>ig ss J lW J (bJ J V))<|ai J (ck Cn J J)<|ai J (m2 tU J)<|ai J (lr J)<|cU J ?_;refine aX J<|be<|bI oe lX bW J<|bt<|aC ?_;refine iy (bx:=fun x=>eV l (bX l tl1) i1 e2 ok1 ob e3 x=some R) (Of:=fun x=>[Z (rH cg [(1,au l2 c1 ob.kinds.length),(2,au l3 c2 ob.open_.length)]) 168 b (cz ob (au l4 c3 ob.result.length)),tip oz 69 l2 c1 ob.kinds,de bN 3 l3 c2 ob.open_,de bN 3 l4 c3 ob.result]) (Gf:=fun x=>[(0,K (M b 0)),(4,oA l.n.Keys),(5,gA (ok1&&((e2.Arg.Nodes.length:Int)==(0:Int)))),(8,bw (i1:Int)),(10,bw e3),(87,eg (fK) l.n.Aggs),(88,oA l.n.Aggs),(89,bw (i1:Int)),(112,bw e2.Tag),(113,gA x)]) (fun x h=>?_) (fun tV=>?_)
    ·skip
     refine iY h J (fun h=>?_) (fun h=>?_)
     ·refine av<|aQ J<|aQ J<|ai J (dd J)<|ai J (lr J)<|cU J<|gB J<|aU<|aE<|eu hx1 hN1 J ?_;exact bm (aZ (ih1 (i1+1) ((ok1&&((e2.Arg.Nodes.length:Int)==(0:Int)))&&(e3==(2:Int))) ob l2 c1 l3 c2 l4 c3 ⟨ej hx1,h⟩) (bq J))
     ·refine be<|bP J<|aX J<|iY h J (fun h=>?_) (fun h=>?_)
      ·refine ay J<|aQ J<|ai J (dd J)<|ai J (lr J)<|cU J<|aX J<|av<|aQ J<|Q (aA (D J))<|aT 17 fH J<|Q (mP c0 (ee la) (.head _) J (D J))<|aQ J<|aQ J<|Q (fq (D J) (D J))<|bK h fun e4 q_e4 h=>Q (hU fc bW (.tail _ (.tail _ (.tail _ (.head _)))) (D J) (D J) q_e4)<|kb<|bK h fun st q_st h=>AP bW J ax J q_e4 (so q_st) (D J) hI<|rN (wU (so q_st)) 131 J ?_;refine DD (O' :=[de bN 3 l4 c3 st,Z (rH cg [(1,au l2 c1 ob.kinds.length),(2,au l3 c2 ob.open_.length)]) 168 b (cz ob (au l4 c3 st.length)),tip oz 69 l2 c1 ob.kinds,de bN 3 l3 c2 ob.open_]) (by rw [wU (so q_st)])<|aU<|aE<|eu hx1 hN1 J<|aN<|aN<|aN ?_;exact bm (aZ (ih1 (i1+1) ((ok1&&((e2.Arg.Nodes.length:Int)==(0:Int)))&&(e3==(4:Int))) ({ob with result:=st}:al) l2 c1 l3 c2 l4 c3 ⟨ej hx1,h⟩) (bq J))
      ·refine iy (bx:=fun x1=>gJ (bX l tl1) i1 e2 ok1 ob e3 x1=some R) (Of:=fun x1=>[Z (rH cg [(1,au l2 c1 ob.kinds.length),(2,au l3 c2 ob.open_.length)]) 168 b (cz ob (au l4 c3 ob.result.length)),tip oz 69 l2 c1 ob.kinds,de bN 3 l3 c2 ob.open_,de bN 3 l4 c3 ob.result]) (Gf:=fun x1=>[(0,K (M b 0)),(4,oA l.n.Keys),(5,gA (ok1&&((e2.Arg.Nodes.length:Int)==(0:Int)))),(10,bw e3),(87,eg (fK) l.n.Aggs),(88,oA l.n.Aggs),(89,bw (i1:Int)),(136,gA x1)]) (fun x1 h=>?_) (fun K1=>?_)
       ·skip
        refine iY h J (fun h=>?_) (fun h=>?_)
        ·refine av<|aQ J<|aQ J<|ai J (dd J)<|ai J (A4 J)<|cU J<|gB J<|aU<|aE<|eu hx1 hN1 J ?_;exact bm (aZ (ih1 (i1+1) ((ok1&&((e2.Arg.Nodes.length:Int)==(0:Int)))&&(e3 !=(4:Int))) ob l2 c1 l3 c2 l4 c3 ⟨ej hx1,h⟩) (bq J))
        ·refine av<|bL<|aU<|aE<|eu hx1 hN1 J ?_;exact bm (aZ (ih1 (i1+1) false ob l2 c1 l3 c2 l4 c3 ⟨ej hx1,h⟩) (bq J))
       ·skip
        refine be<|bP J<|aX J<|iY h J (fun h=>?_) (fun h=>?_)
        ·refine bG ?_;exact bU (K1 (e2.Tag==(4:Int)) h) (bq J)
        ·refine av<|bP J<|gB J<|aU ?_;exact bU (K1 (e2.Tag==(5:Int)) h) (bq J)
    ·skip
     refine be<|bP J<|aX J<|iY h J (fun h=>?_) (fun h=>?_)
     ·refine bG ?_;exact bU (tV (e2.Tag==(1:Int)) h) (bq J)
     ·refine av<|bP J<|gB J<|aU ?_;exact bU (tV (e2.Tag==(2:Int)) h) (bq J)
  ·obtain⟨X,h⟩:=h
   refine fX X J<|aS<|aC<|ay J<|gq fc bW J (fa X)<|gB J<|aX J<|av<|aQ J<|aQ J ?_;refine ai J (dd J)<|ai J (dd J)<|ai J (fun V=>dW (bJ J V) (bJ J V))<|cU J<|aQ J<|bK h fun t q_t h=>ai J (dd J)<|ai J (fun V=>aA (bJ J V))<|ai J (fun V=>bQ (n:=15) jg J (bJ J V) J)<|ai J (fun V=>aD (r:=rH cg [(1,au (ix.h 0).1 (ix.h 0).2 l.kinds.length),(2,au (ix.h 1).1 (ix.h 1).2 l.open_.length)]) (x:=cz l (au l1 c r.length)) c0 J J (ee j7) (.head _) (bJ J V))<|ai J (dd J) ?_
   obtain⟨e5,h1t,h0t⟩:=og q_t
   have q_e5g:=fun W=>(h1t W).1
   refine ai J (fun V=>uN fc bW J (bJ J V) (bJ J V) (q_e5g V))<|ai J (ck bW J J)<|ai J (A4 J)<|Q (cR (D J) (fun W=>(bJ J W)) (fun W=>(h1t W).2) h0t)<|gB J<|aU<|eu X hN J ?_;exact bm (aZ (ih (i+1) t ⟨ej X,h⟩) (bq J))

def Vt(b:Nat)(ix:OI) l{R}(h:ib l=some R):bf a8 170 [K (M b 0)] (ei b l ix) (fun _:OI=>gA R.1) (fun j=>ei b R.2 j):=by
 refine bf.of Tryz.func170 J J J fun w0 S0=>?_;refine(show CG _ _ _ [Z (rH br [(1,au (ix.h 0).1 (ix.h 0).2 l.kinds.length),(2,au (ix.h 1).1 (ix.h 1).2 l.open_.length)]) 168 b l,tip oz 69 (ix.h 0).1 (ix.h 0).2 l.kinds,de bN 3 (ix.h 1).1 (ix.h 1).2 l.open_] _ from ?_);refine be<|bL<|bt<|ay J<|Q (aA (D J))<|aT 17 fH J<|cP false bN 3<|cH<|ky c0 J (sa (hs' :=[(1,au (ix.h 0).1 (ix.h 0).2 l.kinds.length),(2,au (ix.h 1).1 (ix.h 1).2 l.open_.length)]) (kV _ _) ⟨.inr ⟨J,J⟩,.inr ⟨J,J⟩,d⟩ J) J (D J) (IE (show aI _ _ _ (K FR)from vC)) ?_;refine(show RG _ _ _ _ [_,_,_,_] _ from ?_);refine bt<|bp<|aQ J<|Q (aA (D J))<|aT 3 gH J<|aT 12 yx J<|Q (aD (r:=rH cg [(1,au (ix.h 0).1 (ix.h 0).2 l.kinds.length),(2,au (ix.h 1).1 (ix.h 1).2 l.open_.length)]) (x:=cz l (au none 0 (ra.length))) JN J J (ee (d5 wq qu)) (.head _) (D J))<|cM Ac J<|Q (ca hI)<|bt<|aC<|bD (k:=14) J fun hN=>b7<|gc<|gp<|gp<|gp ?_;refine aZ (uv (bx:=fun ls i ob l1 c l2 c1 l3 c2=>(l.n.Items.drop i=ls)/\eb ls ob=some R) (Of:=fun _ i ob l1 c l2 c1 l3 c2=>[Z (rH cg [(1,au l1 c ob.kinds.length),(2,au l2 c1 ob.open_.length)]) 168 b (cz ob (au l3 c2 ob.result.length)),tip oz 69 l1 c ob.kinds,de bN 3 l2 c1 ob.open_,de bN 3 l3 c2 ob.result]) (Gf:=fun _ i ob l1 c l2 c1 l3 c2=>[(0,K (M b 0)),(14,eg (cY) l.n.Items),(15,oA l.n.Items),(16,bw (i:Int))]) (fun i ob l1 c l2 c1 l3 c2 h=>?_) (fun e tl ih i ob l1 c l2 c1 l3 c2 h=>?_) l.n.Items 0 ({l with result:=ra}:al) (ix.h 0).1 (ix.h 0).2 (ix.h 1).1 (ix.h 1).2 none 0 ⟨J,h⟩) (bq J)
 ·obtain⟨X,h⟩:=h
  refine fY X J<|aG<|ay J<|Q (aA (D J))<|aT 17 fH J<|Q (mP c0 (ee la) (.head _) J (D J))<|Q (iD fc (.tail _ (.tail _ (.tail _ (.head _)))) (D J))<|Q (jW (D J) hI)<|aX J ?_;exact qD<|aN<|df<|bv 45 J<|af<|tR (r' :=rH br [(1,au l1 c ob.kinds.length),(2,au l2 c1 ob.open_.length)]) (x' :=ob) (fun _ _ _ ho h=>Q7 h (fun h=>iq (qK ho (.head _)) h))<|af<|aY<|aH<|aH<|aH<|so h▸bA J (p9 [(l1,c),(l2,c1)]) J J (fun _ _ h=>h)
 ·obtain⟨X,h⟩:=h
  refine fX X J<|aS<|aC<|be<|gq Ac lL J (fa X)<|bz lL sM J fun b1=>bu lL ax J<|bh 4 J<|bt<|aS<|bK h fun r q_r h=>?_
  refine kE (ts:=[_,_,_,_,_,_,_,_,_,_,_]) mixed J J
   ⟨JA 4 J J (Cf lL J J),
   ⟨hT J J,
   ⟨fW 22 1 J J (aA (D J)),
   ⟨fW 23 2 J J (nR 15 jg J J J),
   ⟨fW 24 3 J J (aD (r:=rH cg [(1,au l1 c ob.kinds.length),(2,au l2 c1 ob.open_.length)]) (x:=cz ob (au l3 c2 ob.result.length)) c0 J J (ee j7) (.head _) (D J)),
   ⟨j9 21 0 25 4 J J J (dx Mz (BV _ _ q_r) ⟨(D J),(D J),d⟩),
   ⟨fW 26 5 J J (lz J),
   ⟨fW 20 6 J J (Jz J J),
   ⟨fW 20 6 J J (Jz J J),
   ⟨fW 27 7 J J (Js J),
   ⟨fW 28 8 J J (Js J),
   d⟩⟩⟩⟩⟩⟩⟩⟩⟩⟩⟩ ?_
  refine aG<|bp<|aQ J<|oj J<|di h J (fun h=>?_) (fun h=>?_)
  ·exact be<|bL<|co<|aF<|fJ<|aF<|fJ<|aN<|df<|af<|tR (r' :=rH br [(1,au l1 c ob.kinds.length),(2,au l2 c1 ob.open_.length)]) (x' :=ob) (fun _ _ _ ho h=>Q7 h (fun h=>iq (qK ho (.head _)) h))<|af<|aY<|aH<|aH<|aH<|so h▸bA J (p9 [(l1,c),(l2,c1)]) J J (fun _ _ h=>h)
  ·refine jv<|av<|aQ J<|aQ J<|Q (aA (D J))<|aT 17 fH J<|Q (mP c0 (ee la) (.head _) J (D J))<|aQ J<|Q (ba (r:=bN) (ys:=[r.1]) (xs:=[.tmp 36]) fc bW J J J J J ⟨(D J),d⟩)<|kb<|bK h fun l4 q_l4 h=>c9 bW J J J J fc J J (D J) (D J) q_l4 fun l5 c3=>Q (aA (D J))<|aT 17 fH J<|cH<|ky c0 J (sa (hs' :=[(1,au l1 c ob.kinds.length),(2,au l2 c1 ob.open_.length)]) (iw _ _ _) ⟨.inr ⟨J,J⟩,.inr ⟨J,J⟩,d⟩ J) J (D J) (IE (D J)) ?_;refine(show RG _ _ _ _ [_,_,_,_] _ from ?_);refine aU<|eu X hN J<|af<|aN<|aN<|aN ?_;exact bm (aZ (ih (i+1) ({ob with result:=l4}:al) l1 c l2 c1 l5 c3 ⟨ej X,h⟩) (bq J))

def Vs(b:Nat)(ix:OI) l{R}(h:kM l=some R):bf a8 171 [K (M b 0)] (ei b l ix) (fun _:OI=>gA R.1) (fun j=>ei b R.2 j):=by
 refine bf.of Tryz.func171 J J J fun w0 S0=>?_;refine(show CG _ _ _ [Z (rH br [(1,au (ix.h 0).1 (ix.h 0).2 l.kinds.length),(2,au (ix.h 1).1 (ix.h 1).2 l.open_.length)]) 168 b l,tip oz 69 (ix.h 0).1 (ix.h 0).2 l.kinds,de bN 3 (ix.h 1).1 (ix.h 1).2 l.open_] _ from ?_);refine be<|bL<|bt<|ay J<|aQ J<|Q (aA (D J))<|aT 15 jg J<|Q (aD (r:=rH br [(1,au (ix.h 0).1 (ix.h 0).2 l.kinds.length),(2,au (ix.h 1).1 (ix.h 1).2 l.open_.length)]) (x:=l) c0 J J (ee od) (.head _) (D J))<|Q (aA (D J))<|aT 17 fH J<|eE (dc c0 J (nq (hs' :=[(1,au (ix.h 0).1 (ix.h 0).2 l.kinds.length),(2,au (ix.h 1).1 (ix.h 1).2 l.open_.length)]) rG ⟨.inr ⟨J,J⟩,.inr ⟨J,J⟩,d⟩ J) J (D J) (D J)) fun i=>?_;refine(show RG _ _ _ _ [_,_,_] _ from ?_);exact bt<|be<|bL<|co<|aH<|aH<|aH<|so h▸bA J ix J J (fun _ _ h=>h)

def Vr(b:Nat)(ix:OI) l{R}(h:iA l=some R):bf a8 172 [K (M b 0)] (ei b l ix) (fun _:OI=>gA R.1) (fun j=>ei b R.2 j):=by
 refine bf.of Tryz.func172 J J J fun w0 S0=>?_;refine(show CG _ _ _ [Z (rH br [(1,au (ix.h 0).1 (ix.h 0).2 l.kinds.length),(2,au (ix.h 1).1 (ix.h 1).2 l.open_.length)]) 168 b l,tip oz 69 (ix.h 0).1 (ix.h 0).2 l.kinds,de bN 3 (ix.h 1).1 (ix.h 1).2 l.open_] _ from ?_);refine be<|bL<|bt<|aS<|aS ?_
 refine kE (ts:=[_,_,_,_,_,_,_,_,_,_,_]) mixed J J
  ⟨hT J J,
  ⟨fW 6 0 J J (aA (D J)),
  ⟨fW 7 1 J J (nR 15 jg J J J),
  ⟨fW 8 2 J J (aD (r:=rH br [(1,au (ix.h 0).1 (ix.h 0).2 l.kinds.length),(2,au (ix.h 1).1 (ix.h 1).2 l.open_.length)]) (x:=l) c0 J J (ee od) (.head _) (D J)),
  ⟨fW 9 3 J J (T0 fc J),
  ⟨hT J J,
  ⟨fW 11 5 J J (aA (D J)),
  ⟨fW 12 6 J J (nR 16 zE J J J),
  ⟨fW 13 7 J J (aD (r:=rH br [(1,au (ix.h 0).1 (ix.h 0).2 l.kinds.length),(2,au (ix.h 1).1 (ix.h 1).2 l.open_.length)]) (x:=l) c0 J J (ee Fm) (.head _) (D J)),
  ⟨fW 14 8 J J (T0 fc J),
  ⟨j9 10 4 15 9 J J J (jU (D J) (D J)),
  d⟩⟩⟩⟩⟩⟩⟩⟩⟩⟩⟩ ?_
 refine aG<|iY h J (fun h=>?_) (fun h=>?_)
 ·exact be<|bL<|co<|aF<|aH<|aH<|aH<|so h▸bA J ix J J (fun _ _ h=>h)
 ·refine jv<|ay J<|Q (aA (D J))<|aT 17 fH J<|cP false bN 3<|cH<|ky c0 J (sa (hs' :=[(1,au (ix.h 0).1 (ix.h 0).2 l.kinds.length),(2,au (ix.h 1).1 (ix.h 1).2 l.open_.length)]) (kV _ _) ⟨.inr ⟨J,J⟩,.inr ⟨J,J⟩,d⟩ J) J (D J) (IE (show aI _ _ _ (K FR)from vC)) ?_;refine(show RG _ _ _ _ [_,_,_,_] _ from ?_);refine bt<|bp<|aQ J<|Q (aA (D J))<|aT 15 jg J<|Q (aD (r:=rH cg [(1,au (ix.h 0).1 (ix.h 0).2 l.kinds.length),(2,au (ix.h 1).1 (ix.h 1).2 l.open_.length)]) (x:=cz l (au none 0 (ra.length))) c0 J J (ee j7) (.head _) (D J))<|cM fc J<|Q (ca hI)<|bt<|aC<|bD (k:=23) J fun hN=>b7<|gc<|gp<|gp<|gp ?_;refine aZ (uv (bx:=fun ls i ob l1 c l2 c1 l3 c2=>(l.a_.drop i=ls)/\dj ls i ob=some R) (Of:=fun _ i ob l1 c l2 c1 l3 c2=>[Z (rH cg [(1,au l1 c ob.kinds.length),(2,au l2 c1 ob.open_.length)]) 168 b (cz ob (au l3 c2 ob.result.length)),tip oz 69 l1 c ob.kinds,de bN 3 l2 c1 ob.open_,de bN 3 l3 c2 ob.result]) (Gf:=fun _ i ob l1 c l2 c1 l3 c2=>[(0,K (M b 0)),(23,oo l.a_),(24,oA l.a_),(25,bw (i:Int))]) (fun i ob l1 c l2 c1 l3 c2 h=>?_) (fun e tl ih i ob l1 c l2 c1 l3 c2 h=>?_) l.a_ 0 ({l with result:=ra}:al) (ix.h 0).1 (ix.h 0).2 (ix.h 1).1 (ix.h 1).2 none 0 ⟨J,h⟩) (bq J)
  ·obtain⟨X,h⟩:=h
   refine fY X J<|aG<|be<|bL<|co<|aN<|df<|af<|tR (r' :=rH br [(1,au l1 c ob.kinds.length),(2,au l2 c1 ob.open_.length)]) (x' :=ob) (fun _ _ _ ho h=>Q7 h (fun h=>iq (qK ho (.head _)) h))<|af ?_;exact aY<|aH<|aH<|aH<|so h▸bA J (p9 [(l1,c),(l2,c1)]) J J (fun _ _ h=>h)
  ·obtain⟨X,h⟩:=h
   refine fX X J<|aS<|aC<|ay J<|gq fc bW J (fa X)<|gB J<|aX J<|ay J ?_;refine Q (aA (D J))<|aT 16 zE J<|Q (aD (r:=rH cg [(1,au l1 c ob.kinds.length),(2,au l2 c1 ob.open_.length)]) (x:=cz ob (au l3 c2 ob.result.length)) c0 J J (ee IQ) (.head _) (D J))<|aQ J<|bK h fun e1 q_e1 h=>gq fc bW J q_e1<|aX J ?_;refine iy (bx:=fun k=>eU (dj tl) i ob e1 k=some R) (Of:=fun k=>[Z (rH cg [(1,au l1 c ob.kinds.length),(2,au l2 c1 ob.open_.length)]) 168 b (cz ob (au l3 c2 ob.result.length)),tip oz 69 l1 c ob.kinds,de bN 3 l2 c1 ob.open_,de bN 3 l3 c2 ob.result]) (Gf:=fun k=>[(0,K (M b 0)),(4,bw k),(5,bw e1),(23,oo l.a_),(24,oA l.a_),(25,bw (i:Int))]) (fun k h=>?_) (fun tV=>?_)
   ·skip
    refine bp<|aQ J<|oj J<|aQ J<|ai J (dd J)<|ai J (dd J)<|ai J (fun V=>jU (bJ J V) (bJ J V))<|cU J<|di h J (fun h=>?_) (fun h=>?_)
    ·exact be<|bL<|co<|aF<|fJ<|aF<|fJ<|aN<|df<|af<|tR (r' :=rH br [(1,au l1 c ob.kinds.length),(2,au l2 c1 ob.open_.length)]) (x' :=ob) (fun _ _ _ ho h=>Q7 h (fun h=>iq (qK ho (.head _)) h))<|af<|aY<|aH<|aH<|aH<|so h▸bA J (p9 [(l1,c),(l2,c1)]) J J (fun _ _ h=>h)
    ·refine jv<|av<|aQ J<|aQ J<|Q (aA (D J))<|aT 17 fH J<|Q (mP c0 (ee la) (.head _) J (D J))<|aQ J<|Q (ba (r:=bN) (ys:=[k]) (xs:=[.tmp 52]) fc bW J J J J J ⟨(D J),d⟩)<|kb<|bK h fun l4 q_l4 h=>c9 bW J J J J fc J J (D J) (D J) q_l4 fun l5 c3=>Q (aA (D J))<|aT 17 fH J<|cH<|ky c0 J (sa (hs' :=[(1,au l1 c ob.kinds.length),(2,au l2 c1 ob.open_.length)]) (iw _ _ _) ⟨.inr ⟨J,J⟩,.inr ⟨J,J⟩,d⟩ J) J (D J) (IE (D J)) ?_;refine(show RG _ _ _ _ [_,_,_,_] _ from ?_);refine aU<|eu X hN J<|af<|aN<|aN<|aN ?_;exact bm (aZ (ih (i+1) ({ob with result:=l4}:al) l1 c l2 c1 l5 c3 ⟨ej X,h⟩) (bq J))
   ·skip
    refine ay J<|bP J<|di h J (fun h=>?_) (fun h=>?_)
    ·refine av<|aQ J<|gB J<|aU ?_;exact bU (tV e1 h) (bq J)
    ·refine bG ?_;exact bU (tV e h) (bq J)

def Sh h3 f{R}(h:hY h3 f=some R):dV a8 238 [eg (ia) h3,(kU a8 OD oR (fun(x:kF)=>f x))] (bw R):=by
 refine fb Tryz.func238 J<|be<|cJ<|bt<|bp<|aQ J<|cM yO J<|Q (ca hI)<|bt<|aC<|bD (k:=6) J fun hN=>b7 ?_;refine aZ (iu (bx:=fun ls i=>(h3.drop i=ls)/\dG f ls i=some R) (Of:=fun _ i=>[]) (Gf:=fun _ i=>[(0,eg (ia) h3),(1,(kU a8 OD oR (fun(x:kF)=>f x))),(7,oA h3),(8,bw (i:Int))]) (fun i h=>?_) (fun e tl ih i h=>?_) h3 0 ⟨J,h⟩) (bq J)
 ·obtain⟨X,h⟩:=h
  exact fY X J<|aG<|be<|gm<|so h▸aW J J
 ·obtain⟨X,h⟩:=h
  refine fX X J<|aS<|aC<|ay J<|aX J<|ay J<|aQ J<|aQ J<|EK yO r0 J (fa X) ?_;refine fP r0 J<|bK h fun r q_r h=>Q (kX (args:=OD) (res:=y0) (f:=(fun(x:kF)=>f x)) (x:=((e):kF)) (D J) q_r ⟨(D J),d⟩)<|di h J (fun h=>?_) (fun h=>?_)
  ·exact ay J<|bk J<|fJ<|aF<|fJ<|so h▸aW J J
  ·refine bG<|eu X hN J ?_;exact bm (aZ (ih (i+1) ⟨ej X,h⟩) (bq J))

def Sr h3 f{R}(h:eI h3 f=some R):dV a8 207 [eg (ia) h3,(kU a8 OD oR (fun(x:kF)=>f x))] (gA R):=by
 exact fb Tryz.func207 J<|be<|bL<|bt<|ay J<|aQ J<|iI h XJ (Sh _ _) (ez J) fun r h=>Q (ie (D J) hI)<|bk J<|so h▸aW J J

end Go.Proofs.YtdohlidddcgfjaaGreat

