/- cG of this claim: P2. -/
import Derived.Test.YtmogpgcfognefaaGreatDoorNaT
import Derived.Test.YtmogpgcfognefaaGreatDoorNaP1
set_option linter.all false
namespace Go.Proofs.YtmogpgcfognefaaGreatDoor
open Go
set_option maxRecDepth 100000

theorem EO(e:bo)(kinds:(List Int)){R:Bool}(h:lS e kinds=some R):bg aP 159 [tD be e,lx kinds] (gU R):=by
 refine bg.of Tryz.func159 J J J fun w0 S0=>au<|zo J (ms J)<|zo J (fC)<|ap<|au<|zo J (bC gn J J)<|aA J<|bO h fun r q_r h=>zo J (aL EX (wB _ _ q_r) ⟨(ht J),(ht J),aY⟩)<|aA J<|zo J (lA J J)<|zo J (lA J J)<|bv J<|bv J<|ap<|au<|aA J<|zo J (kc J) ?_;refine aA J<|bE J J (fun hg=>cM J)<|bE J J (fun hg=>bG (aJ J hg) hI)<|bE J J (fun hg=>bj (aJ J hg))<|bw J J J J (fun hg=>cM J)<|bw J J J J (fun hg=>bG (aJ J hg) hI)<|bE J J (fun hg=>jB (aJ J hg) (fun hb=>(aJ J (oO hg (m6 hb)))))<|zo J (kM J J)<|bv J<|ap<|am ?_;cases so h;exact aH J J

theorem Nw(b:Nat)(ix:OI)(l:af){R:Bool×af}(h:jA l=some R):fT aP 85 [tV (aD b 0)] (du b l ix) (fun _:OI=>gU R.1) (fun j=>du b R.2 j):=by
 refine fT.of Tryz.func85 J J J fun w0 S0=>?_;refine(show CG _ _ _ [bx (rH aN [(1,ai (ix.h 0).1 (ix.h 0).2 l.kinds.length),(2,ai (ix.h 1).1 (ix.h 1).2 l.open_.length)]) 124 b l,gX gz 29 (ix.h 0).1 (ix.h 0).2 l.kinds,cu bW 3 (ix.h 1).1 (ix.h 1).2 l.open_] _ from ?_);refine au<|zo J (fC)<|ap<|ae<|bO h fun r q_r h=>?_
 refine nJ 13 (ts:=[tV (aD b 0),tV (aD b 0),tV (aD b 0),tV (aD b 15),lx l.a_,tV (aD b 0),tV (aD b 0),tV (aD b 16),lx l.b,fE (gz) ([l.a_,l.b]),lx r,tV (aD b 0),tV (aD b 17)]) mixed J J J
  ⟨ij 0 J J J (cM J),
  ⟨ij 0 J J J (cM J),
  ⟨cO 4 1 J J J (aS (ht J)),
  ⟨cO 5 2 J J J (eY 15 gw J J J),
  ⟨cO 6 3 J J J (aT (r:=rH aN [(1,ai (ix.h 0).1 (ix.h 0).2 l.kinds.length),(2,ai (ix.h 1).1 (ix.h 1).2 l.open_.length)]) (x:=l) bT J J (fD ll) (.head _) (ht J)),
  ⟨ij 0 J J J (cM J),
  ⟨cO 8 5 J J J (aS (ht J)),
  ⟨cO 9 6 J J J (eY 16 t7 J J J),
  ⟨cO 10 7 J J J (aT (r:=rH aN [(1,ai (ix.h 0).1 (ix.h 0).2 l.kinds.length),(2,ai (ix.h 1).1 (ix.h 1).2 l.open_.length)]) (x:=l) bT J J (fD zF) (.head _) (ht J)),
  ⟨fG 7 4 11 8 J J J J (bX (r:=pT) (ys:=[l.a_,l.b]) (xs:=[.tmp 7,.tmp 11]) pR bT J J J J J ⟨(ht J),(ht J),aY⟩),
  ⟨cO 12 9 J J J (aL Ol (JC _ q_r) ⟨(ht J),aY⟩),
  ⟨cO 3 0 J J J (aS (ht J)),
  ⟨cO 14 11 J J J (eY 17 ef J J J),
  aY⟩⟩⟩⟩⟩⟩⟩⟩⟩⟩⟩⟩⟩ ?_
 refine lO (gR bT J (qT (hs' :=[(1,ai (ix.h 0).1 (ix.h 0).2 l.kinds.length),(2,ai (ix.h 1).1 (ix.h 1).2 l.open_.length)]) od ⟨.inr ⟨J,J⟩,.inr ⟨J,J⟩,aY⟩ J) J (ht J) (ht J)) (fun i=>?_);refine(show RG _ _ _ _ [bx (rH aN [(1,ai (ix.h 0).1 (ix.h 0).2 l.kinds.length),(2,ai (ix.h 1).1 (ix.h 1).2 l.open_.length)]) 124 b ({l with result:=r}:af),gX gz 29 (ix.h 0).1 (ix.h 0).2 l.kinds,cu bW 3 (ix.h 1).1 (ix.h 1).2 l.open_] _ from ?_);refine ap<|ae<|bO h fun r1 q_r1 h=>?_
 refine eQ (ts:=[_,_,_,_,_,_,_,_,_,_,_]) mixed J J
  ⟨ij 0 J J J (cM J),
  ⟨cO 16 0 J J J (aS (ht J)),
  ⟨cO 17 1 J J J (eY 3 fb J J J),
  ⟨cO 18 2 J J J (eY 9 sY J J J),
  ⟨cO 19 3 J J J (aT (r:=rH aN [(1,ai (ix.h 0).1 (ix.h 0).2 l.kinds.length),(2,ai (ix.h 1).1 (ix.h 1).2 l.open_.length)]) (x:=({l with result:=r}:af)) gn J J (fD (eD dX oI)) (.head _) (ht J)),
  ⟨ij 0 J J J (cM J),
  ⟨cO 21 5 J J J (aS (ht J)),
  ⟨cO 22 6 J J J (eY 17 ef J J J),
  ⟨cO 23 7 J J J (aT (r:=rH aN [(1,ai (ix.h 0).1 (ix.h 0).2 l.kinds.length),(2,ai (ix.h 1).1 (ix.h 1).2 l.open_.length)]) (x:=({l with result:=r}:af)) bT J J (fD uZ) (.head _) (ht J)),
  ⟨fG 20 4 24 8 J J J J (aL KJ (EO _ _ q_r1) ⟨(ht J),(ht J),aY⟩),
  ⟨cO 25 9 J J J (yD J),
  aY⟩⟩⟩⟩⟩⟩⟩⟩⟩⟩⟩ ?_
 refine an<|am<|aI<|aI<|aI ?_;cases so h;exact c0 J ix J J (fun _ _ h=>h)

theorem Nv(b:Nat)(ix:OI)(l:af){R:Bool×af}(h:ib l=some R):fT aP 86 [tV (aD b 0)] (du b l ix) (fun _:OI=>gU R.1) (fun j=>du b R.2 j):=by
 refine fT.of Tryz.func86 J J J fun w0 S0=>?_;refine(show CG _ _ _ [bx (rH aN [(1,ai (ix.h 0).1 (ix.h 0).2 l.kinds.length),(2,ai (ix.h 1).1 (ix.h 1).2 l.open_.length)]) 124 b l,gX gz 29 (ix.h 0).1 (ix.h 0).2 l.kinds,cu bW 3 (ix.h 1).1 (ix.h 1).2 l.open_] _ from ?_);refine au<|zo J (fC)<|ap<|au<|aA J<|aA J<|zo J (aS (ht J))<|zo J (eY 15 gw J J J)<|zo J (aT (r:=rH aN [(1,ai (ix.h 0).1 (ix.h 0).2 l.kinds.length),(2,ai (ix.h 1).1 (ix.h 1).2 l.open_.length)]) (x:=l) bT J J (fD ll) (.head _) (ht J))<|zo J (aS (ht J))<|zo J (eY 17 ef J J J)<|lO (gR bT J (qT (hs' :=[(1,ai (ix.h 0).1 (ix.h 0).2 l.kinds.length),(2,ai (ix.h 1).1 (ix.h 1).2 l.open_.length)]) od ⟨.inr ⟨J,J⟩,.inr ⟨J,J⟩,aY⟩ J) J (ht J) (ht J)) fun i=>?_;refine(show RG _ _ _ _ [bx (rH aN [(1,ai (ix.h 0).1 (ix.h 0).2 l.kinds.length),(2,ai (ix.h 1).1 (ix.h 1).2 l.open_.length)]) 124 b ({l with result:=l.a_}:af),gX gz 29 (ix.h 0).1 (ix.h 0).2 l.kinds,cu bW 3 (ix.h 1).1 (ix.h 1).2 l.open_] _ from ?_);refine ap<|ae<|bO h fun r q_r h=>?_
 refine eQ (ts:=[_,_,_,_,_,_,_,_,_,_,_]) mixed J J
  ⟨ij 0 J J J (cM J),
  ⟨cO 10 0 J J J (aS (ht J)),
  ⟨cO 11 1 J J J (eY 3 fb J J J),
  ⟨cO 12 2 J J J (eY 9 sY J J J),
  ⟨cO 13 3 J J J (aT (r:=rH aN [(1,ai (ix.h 0).1 (ix.h 0).2 l.kinds.length),(2,ai (ix.h 1).1 (ix.h 1).2 l.open_.length)]) (x:=({l with result:=l.a_}:af)) gn J J (fD (eD dX oI)) (.head _) (ht J)),
  ⟨ij 0 J J J (cM J),
  ⟨cO 15 5 J J J (aS (ht J)),
  ⟨cO 16 6 J J J (eY 15 gw J J J),
  ⟨cO 17 7 J J J (aT (r:=rH aN [(1,ai (ix.h 0).1 (ix.h 0).2 l.kinds.length),(2,ai (ix.h 1).1 (ix.h 1).2 l.open_.length)]) (x:=({l with result:=l.a_}:af)) bT J J (fD ll) (.head _) (ht J)),
  ⟨fG 14 4 18 8 J J J J (aL KJ (EO _ _ q_r) ⟨(ht J),(ht J),aY⟩),
  ⟨cO 19 9 J J J (yD J),
  aY⟩⟩⟩⟩⟩⟩⟩⟩⟩⟩⟩ ?_
 refine an<|am<|aI<|aI<|aI ?_;cases so h;exact c0 J ix J J (fun _ _ h=>h)

theorem Nu(b:Nat)(ix:OI)(l:af){R:Bool×af}(h:fa l=some R):fT aP 87 [tV (aD b 0)] (du b l ix) (fun _:OI=>gU R.1) (fun j=>du b R.2 j):=by
 refine fT.of Tryz.func87 J J J fun w0 S0=>?_;refine(show CG _ _ _ [bx (rH aN [(1,ai (ix.h 0).1 (ix.h 0).2 l.kinds.length),(2,ai (ix.h 1).1 (ix.h 1).2 l.open_.length)]) 124 b l,gX gz 29 (ix.h 0).1 (ix.h 0).2 l.kinds,cu bW 3 (ix.h 1).1 (ix.h 1).2 l.open_] _ from ?_);refine au<|zo J (fC)<|ap<|au<|aA J<|zo J (aS (ht J))<|zo J (eY 3 fb J J J)<|zo J (aT (r:=rH aN [(1,ai (ix.h 0).1 (ix.h 0).2 l.kinds.length),(2,ai (ix.h 1).1 (ix.h 1).2 l.open_.length)]) (x:=l) eu J J (fD dX) (.head _) (ht J))<|aZ (r:=aE) (x:=Bh) eu (fun _=>fF _) J fun b1=>aC eu J aw J (ht J) (ht J)<|aU 3 J<|ap<|au<|zo J (cc lv fh J J)<|zo J (bC bT J J)<|zo J (jk dr J)<|zo J (jh (ht J) hI)<|aA J<|bE J J (fun hg=>cc la fM J J) ?_;refine bE J J (fun hg=>aO qQ J J (aJ J hg))<|bE J J (fun hg=>bS mS (aJ J hg))<|bE J J (fun hg=>jh (aJ J hg) hI)<|zo J (kM J J)<|aA J<|bE J J (fun hg=>cc lv fh J J)<|bE J J (fun hg=>aO bT J J (aJ J hg))<|bE J J (fun hg=>bS dr (aJ J hg))<|bE J J (fun hg=>cc la fM J J)<|bE J J (fun hg=>aO qQ J J (aJ J hg))<|bE J J (fun hg=>bS mS (aJ J hg))<|bE J J (fun hg=>nO (aJ J hg) (aJ J hg))<|bE J J (fun hg=>gZ (aJ J hg) hI)<|zo J (kM J J)<|bv J<|ap<|au<|aA J<|zo J (aS (ht J))<|zo J (eY 17 ef J J J)<|cm false bW 3<|bM ?_;refine dV bT J (ou (hs' :=[(1,ai (ix.h 0).1 (ix.h 0).2 l.kinds.length),(2,ai (ix.h 1).1 (ix.h 1).2 l.open_.length)]) (iR _ _) ⟨.inr ⟨J,J⟩,.inr ⟨J,J⟩,aY⟩ J) J (ht J) (zy (show ay _ _ _ Io from q6)) ?_;refine(show RG _ _ _ _ [bx (rH bc [(1,ai (ix.h 0).1 (ix.h 0).2 l.kinds.length),(2,ai (ix.h 1).1 (ix.h 1).2 l.open_.length)]) 124 b (bm l (ai none 0 (mW.length))),cu bW 3 none 0 mW,gX gz 29 (ix.h 0).1 (ix.h 0).2 l.kinds,cu bW 3 (ix.h 1).1 (ix.h 1).2 l.open_] _ from ?_);refine ap<|ae<|au<|zo J (cc lv fh J J)<|zo J (bC bT J J)<|zo J (jk dr J)<|zo J (bj hI)<|ap<|av<|aX (k:=40) J fun hN=>bK<|dM<|ep<|ep<|ep ?_;refine aM (pK (Z:=fun ls i ob l1 c l2 c1 l3 c2=>(l.n.Keys.drop i=ls)∧ff l ls ob=some R) (Of:=fun _ i ob l1 c l2 c1 l3 c2=>[bx (rH bc [(1,ai l1 c ob.kinds.length),(2,ai l2 c1 ob.open_.length)]) 124 b (bm ob (ai l3 c2 ob.result.length)),gX gz 29 l1 c ob.kinds,cu bW 3 l2 c1 ob.open_,cu bW 3 l3 c2 ob.result]) (Gf:=fun _ i ob l1 c l2 c1 l3 c2=>[(0,tV (aD b 0)),(3,bz aE l.n),(4,gU (((decide ((l.n.Keys.length:Int)≤(3:Int)))&&(decide ((l.n.Aggs.length:Int)≤(12:Int))))&&(decide ((0:Int)<(IntKind.i64.wrap ((l.n.Keys.length:Int)+(l.n.Aggs.length:Int))))))),(40,lx l.n.Keys),(41,je l.n.Keys),(42,ce (i:Int))]) (fun i ob l1 c l2 c1 l3 c2 h=>?_) (fun e tl ih i ob l1 c l2 c1 l3 c2 h=>?_) l.n.Keys 0 ({l with result:=mW}:af) (ix.h 0).1 (ix.h 0).2 (ix.h 1).1 (ix.h 1).2 none 0 ⟨J,h⟩) (bh J)
 ·obtain⟨hx,h⟩:=h
  refine aq<|au<|zo J (fx J J)<|ap<|ae<|br (ht J) (dp hx)<|bk ?_;refine ac (ac (aG ?_));refine an<|ae<|au<|zo rfl (cc la fM rfl rfl)<|zo rfl (bC qQ rfl rfl)<|zo rfl (jk mS rfl)<|zo rfl (bj hI)<|ap<|av<|aX (k:=75) J fun hN1=>bK ?_;refine aM (uo (Z:=fun ls1 i1 ok ob1 l4 c3 l5 c4 l6 c5=>(l.n.Aggs.drop i1=ls1)∧cx ls1 ok ob1=some R) (Of:=fun _ i1 ok ob1 l4 c3 l5 c4 l6 c5=>[bx (rH bc [(1,ai l4 c3 ob1.kinds.length),(2,ai l5 c4 ob1.open_.length)]) 124 b (bm ob1 (ai l6 c5 ob1.result.length)),gX gz 29 l4 c3 ob1.kinds,cu bW 3 l5 c4 ob1.open_,cu bW 3 l6 c5 ob1.result]) (Gf:=fun _ i1 ok ob1 l4 c3 l5 c4 l6 c5=>[(0,tV (aD b 0)),(4,gU ok),(75,fE (cS) l.n.Aggs),(76,je l.n.Aggs),(77,ce (i1:Int))]) (fun i1 ok ob1 l4 c3 l5 c4 l6 c5 h=>?_) (fun e1 tl1 ih1 i1 ok ob1 l4 c3 l5 c4 l6 c5 h=>?_) l.n.Aggs 0 (((decide ((l.n.Keys.length:Int)≤(3:Int)))&&(decide ((l.n.Aggs.length:Int)≤(12:Int))))&&(decide ((0:Int)<(IntKind.i64.wrap ((l.n.Keys.length:Int)+(l.n.Aggs.length:Int)))))) ob l1 c l2 c1 l3 c2 ⟨J,h⟩) (bh J)
  ·obtain⟨hx1,h⟩:=h
   refine aq<|au<|zo J (fx J J)<|ap<|ae<|br (ht J) (dp hx1)<|bk ?_;refine ac (ac (aG ?_));refine an<|au<|aA rfl<|bv rfl<|ap<|am<|bn<|ii<|bf<|pq (r' :=rH aN [(1,ai l4 c3 ob1.kinds.length),(2,ai l5 c4 ob1.open_.length)]) (x' :=ob1) (fun _ _ _ ho h=>J6 h (fun h=>fN (iE ho (.head _)) h))<|bf<|bl<|aI<|aI<|aI ?_;cases so h;exact c0 J (F3 [(l4,c3),(l5,c4)]) J J (fun _ _ h=>h)
  ·obtain⟨hx1,h⟩:=h
   refine aq<|au<|zo J (fx J J)<|ap<|ae<|bq (ht J) (dh hx1)<|eK<|ae<|av<|au<|zo J (ka mS gL J J J (dy hx1))<|zo J (bC gL J J)<|aZ (r:=cS) (x:=CV) gL (fun _=>sC _) J fun b2=>aC gL J aw J (ht J) (ht J)<|aU 8 J<|ap<|au<|zo J (fi) ?_;refine ap ?_;refine zY (Z:=fun ok1 k=>dR (cx tl1) ob1 ok1 k=some R) (Of:=fun ok1 k=>[bx (rH bc [(1,ai l4 c3 ob1.kinds.length),(2,ai l5 c4 ob1.open_.length)]) 124 b (bm ob1 (ai l6 c5 ob1.result.length)),gX gz 29 l4 c3 ob1.kinds,cu bW 3 l5 c4 ob1.open_,cu bW 3 l6 c5 ob1.result]) (Gf:=fun ok1 k=>[(0,tV (aD b 0)),(4,gU ok1),(9,ce k),(75,fE (cS) l.n.Aggs),(76,je l.n.Aggs),(77,ce (i1:Int))]) (fun ok1 k h=>?_) (fun K=>?_)
   ·skip
    refine ak<|aA J<|aA J<|zo J (aS (ht J))<|zo J (eY 17 ef J J J)<|zo J (dw bT (fD iX) (.head _) J (ht J))<|aA J<|zo J (bX (r:=bW) (ys:=[k]) (xs:=[.tmp 139]) dr bL J J J J J ⟨(ht J),aY⟩)<|eJ<|bO h fun l7 q_l7 h=>dk bL J J J J dr J J (ht J) (ht J) q_l7 fun l8 c6=>zo J (aS (ht J))<|zo J (eY 17 ef J J J)<|bM<|dV bT J (ou (hs' :=[(1,ai l4 c3 ob1.kinds.length),(2,ai l5 c4 ob1.open_.length)]) (fR _ _ _) ⟨.inr ⟨J,J⟩,.inr ⟨J,J⟩,aY⟩ J) J (ht J) (zy (ht J)) ?_;refine(show RG _ _ _ _ [bx (rH bc [(1,ai l4 c3 ob1.kinds.length),(2,ai l5 c4 ob1.open_.length)]) 124 b (bm ob1 (ai l8 c6 l7.length)),cu bW 3 l8 c6 l7,gX gz 29 l4 c3 ob1.kinds,cu bW 3 l5 c4 ob1.open_] _ from ?_);refine aK<|al<|an<|ak<|zo rfl (lb (cL hx1 hN1) rfl)<|aA rfl<|aK<|bf<|bn<|bn<|bn ?_;exact aW (aM (ih1 (i1+1) ok1 ({ob1 with result:=l7}:af) l4 c3 l5 c4 l8 c6 ⟨cK hx1,h⟩) (bh J))
   ·skip
    refine au<|zo J (cc lM kj J J)<|zo J (bC bL J J)<|zo J (kc J)<|ap<|dN h J (fun h=>?_) (fun h=>?_)
    ·refine ak<|aA J<|aA J<|bE J J (fun hg=>cc qi pG J J)<|bE J J (fun hg=>cB fB J dc J (aJ J hg))<|bE J J (fun hg=>aO mt J J (aJ J hg))<|bE J J (fun hg=>bS ju (aJ J hg))<|bE J J (fun hg=>bG (aJ J hg) hI)<|zo J (kM J J)<|bv J<|aK ?_;exact cg (K (ok&&((e1.Arg.Nodes.length:Int)==(0:Int))) (2:Int) h) (bh J)
    ·refine ae<|bO h fun r q_r h=>?_
     refine eQ (ts:=[_,_,_,_,_,_,_,_,_,_,_,_]) mixed J J
      ⟨ij 8 J J J (cc qi pG J J),
      ⟨cO 93 0 J J J (bC gn J J),
      ⟨ij 0 J J J (cM J),
      ⟨cO 95 2 J J J (aS (ht J)),
      ⟨cO 96 3 J J J (eY 15 gw J J J),
      ⟨cO 97 4 J J J (aT (r:=rH bc [(1,ai l4 c3 ob1.kinds.length),(2,ai l5 c4 ob1.open_.length)]) (x:=bm ob1 (ai l6 c5 ob1.result.length)) bT J J (fD hZ) (.head _) (ht J)),
      ⟨fG 94 1 98 5 J J J J (aL EX (wB _ _ q_r) ⟨(ht J),(ht J),aY⟩),
      ⟨cO 99 6 J J J (cM J),
      ⟨cO 92 7 J J J (lA J J),
      ⟨cO 92 7 J J J (lA J J),
      ⟨cO 100 8 J J J (yD J),
      ⟨cO 101 9 J J J (yD J),
      aY⟩⟩⟩⟩⟩⟩⟩⟩⟩⟩⟩⟩ ?_
     refine an<|au<|aA rfl<|aA rfl<|bE rfl rfl (fun hg=>cM J)<|bE J J (fun hg=>bG (aJ J hg) hI)<|zo J (kM J J)<|aA J<|bE J J (fun hg=>cc lM kj J J)<|bE J J (fun hg=>aO bL J J (aJ J hg))<|bE J J (fun hg=>gZ (aJ J hg) hI)<|zo J (kM J J)<|aA J<|bE J J (fun hg=>cc lM kj J J)<|bE J J (fun hg=>aO bL J J (aJ J hg))<|bE J J (fun hg=>jh (aJ J hg) hI)<|zo J (kM J J)<|bv J<|ap<|au<|zo J (cc lM kj J J) ?_;refine zo J (bC bL J J)<|ap<|av<|au<|zo J (kc J)<|bv J<|ap<|dN h J (fun h=>?_) (fun h=>?_)
     ·refine ak<|aA J<|aA J<|bE J J (fun hg=>cM J)<|bE J J (fun hg=>bG (aJ J hg) hI)<|bE J J (fun hg=>bj (aJ J hg))<|bw J J J J (fun hg=>cM J)<|bw J J J J (fun hg=>bG (aJ J hg) hI)<|bE J J (fun hg=>jB (aJ J hg) (fun hb=>(aJ J (oO hg (m6 hb)))))<|zo J (kM J J)<|bv J<|aK<|al ?_;exact cg (K ((((ok&&(r.2==(0:Int)))&&(decide ((1:Int)<e1.Tag)))&&(decide (e1.Tag≤(5:Int))))&&((r.1==(2:Int))||(r.1==(0:Int)))) (2:Int) h) (bh J)
     ·refine gj (Z:=fun x=>gh (cx tl1) e1 ok ob1 r x=some R) (Of:=fun x=>[bx (rH bc [(1,ai l4 c3 ob1.kinds.length),(2,ai l5 c4 ob1.open_.length)]) 124 b (bm ob1 (ai l6 c5 ob1.result.length)),gX gz 29 l4 c3 ob1.kinds,cu bW 3 l5 c4 ob1.open_,cu bW 3 l6 c5 ob1.result]) (Gf:=fun x=>[(0,tV (aD b 0)),(4,gU (((ok&&(r.2==(0:Int)))&&(decide ((1:Int)<e1.Tag)))&&(decide (e1.Tag≤(5:Int))))),(9,ce 2),(10,ce r.1),(75,fE (cS) l.n.Aggs),(76,je l.n.Aggs),(77,ce (i1:Int)),(130,gU x)]) (fun x h=>?_) (fun K1=>?_)
      ·skip
       refine dN h J (fun h=>?_) (fun h=>?_)
       ·refine ak<|aA J<|bv J<|aK<|al ?_;exact cg (K (((ok&&(r.2==(0:Int)))&&(decide ((1:Int)<e1.Tag)))&&(decide (e1.Tag≤(5:Int)))) r.1 h) (bh J)
       ·refine bD<|al ?_;exact cg (K (((ok&&(r.2==(0:Int)))&&(decide ((1:Int)<e1.Tag)))&&(decide (e1.Tag≤(5:Int)))) (2:Int) h) (bh J)
      ·skip
       refine au<|zo J (kc J)<|bv J<|ap<|dN h J (fun h=>?_) (fun h=>?_)
       ·refine bD ?_;exact cg (K1 (e1.Tag==(4:Int)) h) (bh J)
       ·refine ak<|zo J (kc J)<|bv J<|aK ?_;exact cg (K1 (e1.Tag==(5:Int)) h) (bh J)
 ·obtain⟨hx,h⟩:=h
  refine aq<|au<|zo J (fx J J)<|ap<|ae<|bq (ht J) (dh hx)<|eK<|ae<|av<|au<|zo J (ka dr bL J J J (dy hx))<|zo J (bC bL J J)<|bv J<|ap<|ae<|au<|aA J<|zo J (fz (ht J) hI) ?_;refine aA J<|cQ J J (fun hg=>cM J)<|cQ J J (fun hg=>cM J)<|cQ J J (fun hg=>aS (aJ J hg))<|cQ J J (fun hg=>bB (n:=15) gw J (aJ J hg) J)<|cQ J J (fun hg=>aT (r:=rH bc [(1,ai l1 c ob.kinds.length),(2,ai l2 c1 ob.open_.length)]) (x:=bm ob (ai l3 c2 ob.result.length)) bT J J (fD hZ) (.head _) (aJ J hg))<|cQ J J (fun hg=>bS dr (aJ J hg))<|cQ J J (fun hg=>ek (aJ J hg) (aJ J hg))<|zo J (pr J J)<|ap<|dN h J (fun h=>?_) (fun h=>?_)
  ·refine au<|zo J (fC)<|ap<|am ?_;refine aa (aB (aa (aa (aB (aa ?_)))));refine bn<|ii<|bf<|pq (r' :=rH aN [(1,ai l1 c ob.kinds.length),(2,ai l2 c1 ob.open_.length)]) (x' :=ob) (fun _ _ _ ho h=>J6 h (fun h=>fN (iE ho (.head _)) h))<|bf<|bl<|aI<|aI<|aI ?_;cases so h;exact c0 J (F3 [(l1,c),(l2,c1)]) J J (fun _ _ h=>h)
  ·refine eK<|bO h fun e2 q_e2 h=>bO h fun l9 q_l9 h=>?_
   refine nI 14 [tc (tV (aD b 0)),tc (tV (aD b 0)),tc (tV (aD b 0)),tc (tV (aD b 17)),tc (oc l3 c2 ob.result),tc (tV (aD b 0)),tc (tV (aD b 0)),tc (tV (aD b 15)),tc (lx ob.a_),tc (ce e),tc (bz bW e2),tc (ce e2),tc (lx ([e2])),([13],fun s=>tV (ai ((s.getD 0 rx).h 0).1 ((s.getD 0 rx).h 0).2 l9.length))] [false,false,false,false,false,false,false,false,false,false,false,false,false,true] [fun _=>[bx (rH bc [(1,ai l1 c ob.kinds.length),(2,ai l2 c1 ob.open_.length)]) 124 b (bm ob (ai l3 c2 ob.result.length)),gX gz 29 l1 c ob.kinds,cu bW 3 l2 c1 ob.open_,cu bW 3 l3 c2 ob.result],fun sg=>[cu bW 3 ((sg 13).h 0).1 ((sg 13).h 0).2 l9,bx (rH bc [(1,ai l1 c ob.kinds.length),(2,ai l2 c1 ob.open_.length)]) 124 b (bm ob (ai l3 c2 ob.result.length)),gX gz 29 l1 c ob.kinds,cu bW 3 l2 c1 ob.open_]] J mixed J J J J J
    ⟨⟨[⟨0,fun _=>tV (aD b 0),none⟩],_,0,1,J,⟨(fun _=>J),aY⟩,J,J,J,J,J,fun _ sg _ _=>ah J (cM J)⟩,
    ⟨⟨[⟨0,fun _=>tV (aD b 0),none⟩],_,0,0,J,⟨(fun _=>J),aY⟩,J,J,J,J,J,fun _ sg _ _=>ah J (cM J)⟩,
    ⟨⟨[⟨58,fun _=>tV (aD b 0),some 1⟩],_,0,0,J,⟨(fun _=>J),aY⟩,J,J,J,J,J,fun _ sg _ _=>ah J (aS (ht J))⟩,
    ⟨⟨[⟨59,fun _=>tV (aD b 0),some 2⟩],_,0,0,J,⟨(fun _=>J),aY⟩,J,J,J,J,J,fun _ sg _ _=>ah J (eY 17 ef J J J)⟩,
    ⟨⟨[⟨60,fun _=>tV (aD b 17),some 3⟩],_,0,0,J,⟨(fun _=>J),aY⟩,J,J,J,J,J,oL (fun sg=>ah J (dw bT (fD iX) (.head _) J (ht J)))⟩,
    ⟨⟨[⟨0,fun _=>tV (aD b 0),none⟩],_,0,0,J,⟨(fun _=>J),aY⟩,J,J,J,J,J,fun _ sg _ _=>ah J (cM J)⟩,
    ⟨⟨[⟨62,fun _=>tV (aD b 0),some 5⟩],_,0,0,J,⟨(fun _=>J),aY⟩,J,J,J,J,J,fun _ sg _ _=>ah J (aS (ht J))⟩,
    ⟨⟨[⟨63,fun _=>tV (aD b 0),some 6⟩],_,0,0,J,⟨(fun _=>J),aY⟩,J,J,J,J,J,fun _ sg _ _=>ah J (eY 15 gw J J J)⟩,
    ⟨⟨[⟨64,fun _=>tV (aD b 15),some 7⟩],_,0,0,J,⟨(fun _=>J),aY⟩,J,J,J,J,J,oL (fun sg=>ah J (aT (r:=rH bc [(1,ai l1 c ob.kinds.length),(2,ai l2 c1 ob.open_.length)]) (x:=bm ob (ai l3 c2 ob.result.length)) bT J J (fD hZ) (.head _) (ht J)))⟩,
    ⟨⟨[⟨6,fun _=>tD bW e,none⟩],_,0,0,J,⟨(fun _=>J),aY⟩,J,J,J,J,J,fun _ sg _ _=>ah J (cM J)⟩,
    ⟨⟨[⟨65,fun _=>tD pT ob.a_,some 8⟩,⟨66,fun _=>tD bW e,some 9⟩],_,0,0,J,⟨(fun _=>J),(fun _=>J),aY⟩,J,J,J,J,J,fun _ sg _ _=>ah J (ka dr bL J J J q_e2)⟩,
    ⟨⟨[⟨67,fun _=>bz bW e2,some 10⟩],_,0,0,J,⟨(fun _=>J),aY⟩,J,J,J,J,J,fun _ sg _ _=>ah J (bC bL J J)⟩,
    ⟨⟨[⟨68,fun _=>tD bW e2,some 11⟩],_,0,0,J,⟨(fun _=>J),aY⟩,J,J,J,J,J,fun _ sg _ _=>ah J (bX (r:=bW) (ys:=[e2]) (xs:=[.tmp 68]) dr bL J J J J J ⟨(ht J),aY⟩)⟩,
    ⟨⟨[⟨61,fun _=>tV (ai l3 c2 ob.result.length),some 4⟩,⟨69,fun _=>tD pT ([e2]),some 12⟩],_,J,⟨(fun _=>J),(fun _=>J),aY⟩,J,J,J,fun sg=>dD J (EffOK.fr3 (ri bL J J J J dr J (ht J) (ht J) q_l9))⟩,
    aY⟩⟩⟩⟩⟩⟩⟩⟩⟩⟩⟩⟩⟩⟩ (fun sg=>?_)
   refine(show RG _ _ _ _ [cu bW 3 ((sg 13).h 0).1 ((sg 13).h 0).2 l9,bx (rH bc [(1,ai l1 c ob.kinds.length),(2,ai l2 c1 ob.open_.length)]) 124 b (bm ob (ai l3 c2 ob.result.length)),gX gz 29 l1 c ob.kinds,cu bW 3 l2 c1 ob.open_] _ from ?_);refine zo J (aS (ht J))<|zo J (eY 17 ef J J J)<|bM<|dV bT J (ou (hs' :=[(1,ai l1 c ob.kinds.length),(2,ai l2 c1 ob.open_.length)]) (fR _ _ _) ⟨.inr ⟨J,J⟩,.inr ⟨J,J⟩,aY⟩ J) J (ht J) (zy (ht J)) ?_;refine(show RG _ _ _ _ [bx (rH bc [(1,ai l1 c ob.kinds.length),(2,ai l2 c1 ob.open_.length)]) 124 b (bm ob (ai ((sg 13).h 0).1 ((sg 13).h 0).2 l9.length)),cu bW 3 ((sg 13).h 0).1 ((sg 13).h 0).2 l9,gX gz 29 l1 c ob.kinds,cu bW 3 l2 c1 ob.open_] _ from ?_);refine aK<|al<|an<|ak<|zo rfl (lb (cL hx hN) rfl)<|aA rfl<|aK<|bf<|bn<|bn<|bn ?_;exact aW (aM (ih (i+1) ({ob with result:=l9}:af) l1 c l2 c1 ((sg 13).h 0).1 ((sg 13).h 0).2 ⟨cK hx,h⟩) (bh J))

theorem Nt(b:Nat)(ix:OI)(l:af){R:Bool×af}(h:fa l=some R):fT aP 87 [tV (aD b 0)] (du b l ix) (fun _:OI=>gU R.1) (fun j=>Ls b R.2 j):=by
 refine fT.of Tryz.func87 J J J fun w0 S0=>?_;refine(show CG _ _ _ [bx (rH aN [(1,ai (ix.h 0).1 (ix.h 0).2 l.kinds.length),(2,ai (ix.h 1).1 (ix.h 1).2 l.open_.length)]) 124 b l,gX gz 29 (ix.h 0).1 (ix.h 0).2 l.kinds,cu bW 3 (ix.h 1).1 (ix.h 1).2 l.open_] _ from ?_);refine au<|zo J (fC)<|ap<|au<|aA J<|zo J (aS (ht J))<|zo J (eY 3 fb J J J)<|zo J (aT (r:=rH aN [(1,ai (ix.h 0).1 (ix.h 0).2 l.kinds.length),(2,ai (ix.h 1).1 (ix.h 1).2 l.open_.length)]) (x:=l) eu J J (fD dX) (.head _) (ht J))<|aZ (r:=aE) (x:=Bh) eu (fun _=>fF _) J fun b1=>aC eu J aw J (ht J) (ht J)<|aU 3 J<|ap<|au<|zo J (cc lv fh J J)<|zo J (bC bT J J)<|zo J (jk dr J)<|zo J (jh (ht J) hI)<|aA J<|bE J J (fun hg=>cc la fM J J) ?_;refine bE J J (fun hg=>aO qQ J J (aJ J hg))<|bE J J (fun hg=>bS mS (aJ J hg))<|bE J J (fun hg=>jh (aJ J hg) hI)<|zo J (kM J J)<|aA J<|bE J J (fun hg=>cc lv fh J J)<|bE J J (fun hg=>aO bT J J (aJ J hg))<|bE J J (fun hg=>bS dr (aJ J hg))<|bE J J (fun hg=>cc la fM J J)<|bE J J (fun hg=>aO qQ J J (aJ J hg))<|bE J J (fun hg=>bS mS (aJ J hg))<|bE J J (fun hg=>nO (aJ J hg) (aJ J hg))<|bE J J (fun hg=>gZ (aJ J hg) hI)<|zo J (kM J J)<|bv J<|ap<|au<|aA J<|zo J (aS (ht J))<|zo J (eY 17 ef J J J)<|cm false bW 3<|bM ?_;refine dV bT J (ou (hs' :=[(1,ai (ix.h 0).1 (ix.h 0).2 l.kinds.length),(2,ai (ix.h 1).1 (ix.h 1).2 l.open_.length)]) (iR _ _) ⟨.inr ⟨J,J⟩,.inr ⟨J,J⟩,aY⟩ J) J (ht J) (zy (show ay _ _ _ Io from q6)) ?_;refine(show RG _ _ _ _ [bx (rH bc [(1,ai (ix.h 0).1 (ix.h 0).2 l.kinds.length),(2,ai (ix.h 1).1 (ix.h 1).2 l.open_.length)]) 124 b (bm l (ai none 0 (mW.length))),cu bW 3 none 0 mW,gX gz 29 (ix.h 0).1 (ix.h 0).2 l.kinds,cu bW 3 (ix.h 1).1 (ix.h 1).2 l.open_] _ from ?_);refine ap<|ae<|au<|zo J (cc lv fh J J)<|zo J (bC bT J J)<|zo J (jk dr J)<|zo J (bj hI)<|ap<|av<|aX (k:=40) J fun hN=>bK<|dM<|ep<|ep<|ep ?_;refine aM (pK (Z:=fun ls i ob l1 c l2 c1 l3 c2=>(l.n.Keys.drop i=ls)∧ff l ls ob=some R) (Of:=fun _ i ob l1 c l2 c1 l3 c2=>[bx (rH bc [(1,ai l1 c ob.kinds.length),(2,ai l2 c1 ob.open_.length)]) 124 b (bm ob (ai l3 c2 ob.result.length)),gX gz 29 l1 c ob.kinds,cu bW 3 l2 c1 ob.open_,cu bW 3 l3 c2 ob.result]) (Gf:=fun _ i ob l1 c l2 c1 l3 c2=>[(0,tV (aD b 0)),(3,bz aE l.n),(4,gU (((decide ((l.n.Keys.length:Int)≤(3:Int)))&&(decide ((l.n.Aggs.length:Int)≤(12:Int))))&&(decide ((0:Int)<(IntKind.i64.wrap ((l.n.Keys.length:Int)+(l.n.Aggs.length:Int))))))),(40,lx l.n.Keys),(41,je l.n.Keys),(42,ce (i:Int))]) (fun i ob l1 c l2 c1 l3 c2 h=>?_) (fun e tl ih i ob l1 c l2 c1 l3 c2 h=>?_) l.n.Keys 0 ({l with result:=mW}:af) (ix.h 0).1 (ix.h 0).2 (ix.h 1).1 (ix.h 1).2 none 0 ⟨J,h⟩) (bh J)
 ·obtain⟨hx,h⟩:=h
  refine aq<|au<|zo J (fx J J)<|ap<|ae<|br (ht J) (dp hx)<|bk ?_;refine ac (ac (aG ?_));refine an<|ae<|au<|zo rfl (cc la fM rfl rfl)<|zo rfl (bC qQ rfl rfl)<|zo rfl (jk mS rfl)<|zo rfl (bj hI)<|ap<|av<|aX (k:=75) J fun hN1=>bK ?_;refine aM (uo (Z:=fun ls1 i1 ok ob1 l4 c3 l5 c4 l6 c5=>(l.n.Aggs.drop i1=ls1)∧cx ls1 ok ob1=some R) (Of:=fun _ i1 ok ob1 l4 c3 l5 c4 l6 c5=>[bx (rH bc [(1,ai l4 c3 ob1.kinds.length),(2,ai l5 c4 ob1.open_.length)]) 124 b (bm ob1 (ai l6 c5 ob1.result.length)),gX gz 29 l4 c3 ob1.kinds,cu bW 3 l5 c4 ob1.open_,cu bW 3 l6 c5 ob1.result]) (Gf:=fun _ i1 ok ob1 l4 c3 l5 c4 l6 c5=>[(0,tV (aD b 0)),(4,gU ok),(75,fE (cS) l.n.Aggs),(76,je l.n.Aggs),(77,ce (i1:Int))]) (fun i1 ok ob1 l4 c3 l5 c4 l6 c5 h=>?_) (fun e1 tl1 ih1 i1 ok ob1 l4 c3 l5 c4 l6 c5 h=>?_) l.n.Aggs 0 (((decide ((l.n.Keys.length:Int)≤(3:Int)))&&(decide ((l.n.Aggs.length:Int)≤(12:Int))))&&(decide ((0:Int)<(IntKind.i64.wrap ((l.n.Keys.length:Int)+(l.n.Aggs.length:Int)))))) ob l1 c l2 c1 l3 c2 ⟨J,h⟩) (bh J)
  ·obtain⟨hx1,h⟩:=h
   refine aq<|au<|zo J (fx J J)<|ap<|ae<|br (ht J) (dp hx1)<|bk ?_;refine ac (ac (aG ?_));refine an<|au<|aA rfl<|bv rfl<|ap<|am<|bn<|bn<|bn<|bn ?_;cases so h;exact c0 J (F3 [(l4,c3),(l5,c4),(l6,c5)]) J J (fun _ _ h=>h)
  ·obtain⟨hx1,h⟩:=h
   refine aq<|au<|zo J (fx J J)<|ap<|ae<|bq (ht J) (dh hx1)<|eK<|ae<|av<|au<|zo J (ka mS gL J J J (dy hx1))<|zo J (bC gL J J)<|aZ (r:=cS) (x:=CV) gL (fun _=>sC _) J fun b2=>aC gL J aw J (ht J) (ht J)<|aU 8 J<|ap<|au<|zo J (fi) ?_;refine ap ?_;refine zY (Z:=fun ok1 k=>dR (cx tl1) ob1 ok1 k=some R) (Of:=fun ok1 k=>[bx (rH bc [(1,ai l4 c3 ob1.kinds.length),(2,ai l5 c4 ob1.open_.length)]) 124 b (bm ob1 (ai l6 c5 ob1.result.length)),gX gz 29 l4 c3 ob1.kinds,cu bW 3 l5 c4 ob1.open_,cu bW 3 l6 c5 ob1.result]) (Gf:=fun ok1 k=>[(0,tV (aD b 0)),(4,gU ok1),(9,ce k),(75,fE (cS) l.n.Aggs),(76,je l.n.Aggs),(77,ce (i1:Int))]) (fun ok1 k h=>?_) (fun K=>?_)
   ·skip
    refine ak<|aA J<|aA J<|zo J (aS (ht J))<|zo J (eY 17 ef J J J)<|zo J (dw bT (fD iX) (.head _) J (ht J))<|aA J<|zo J (bX (r:=bW) (ys:=[k]) (xs:=[.tmp 139]) dr bL J J J J J ⟨(ht J),aY⟩)<|eJ<|bO h fun l7 q_l7 h=>dk bL J J J J dr J J (ht J) (ht J) q_l7 fun l8 c6=>zo J (aS (ht J))<|zo J (eY 17 ef J J J)<|bM<|dV bT J (ou (hs' :=[(1,ai l4 c3 ob1.kinds.length),(2,ai l5 c4 ob1.open_.length)]) (fR _ _ _) ⟨.inr ⟨J,J⟩,.inr ⟨J,J⟩,aY⟩ J) J (ht J) (zy (ht J)) ?_;refine(show RG _ _ _ _ [bx (rH bc [(1,ai l4 c3 ob1.kinds.length),(2,ai l5 c4 ob1.open_.length)]) 124 b (bm ob1 (ai l8 c6 l7.length)),cu bW 3 l8 c6 l7,gX gz 29 l4 c3 ob1.kinds,cu bW 3 l5 c4 ob1.open_] _ from ?_);refine aK<|al<|an<|ak<|zo rfl (lb (cL hx1 hN1) rfl)<|aA rfl<|aK<|bf<|bn<|bn<|bn ?_;exact aW (aM (ih1 (i1+1) ok1 ({ob1 with result:=l7}:af) l4 c3 l5 c4 l8 c6 ⟨cK hx1,h⟩) (bh J))
   ·skip
    refine au<|zo J (cc lM kj J J)<|zo J (bC bL J J)<|zo J (kc J)<|ap<|dN h J (fun h=>?_) (fun h=>?_)
    ·refine ak<|aA J<|aA J<|bE J J (fun hg=>cc qi pG J J)<|bE J J (fun hg=>cB fB J dc J (aJ J hg))<|bE J J (fun hg=>aO mt J J (aJ J hg))<|bE J J (fun hg=>bS ju (aJ J hg))<|bE J J (fun hg=>bG (aJ J hg) hI)<|zo J (kM J J)<|bv J<|aK ?_;exact cg (K (ok&&((e1.Arg.Nodes.length:Int)==(0:Int))) (2:Int) h) (bh J)
    ·refine ae<|bO h fun r q_r h=>?_
     refine eQ (ts:=[_,_,_,_,_,_,_,_,_,_,_,_]) mixed J J
      ⟨ij 8 J J J (cc qi pG J J),
      ⟨cO 93 0 J J J (bC gn J J),
      ⟨ij 0 J J J (cM J),
      ⟨cO 95 2 J J J (aS (ht J)),
      ⟨cO 96 3 J J J (eY 15 gw J J J),
      ⟨cO 97 4 J J J (aT (r:=rH bc [(1,ai l4 c3 ob1.kinds.length),(2,ai l5 c4 ob1.open_.length)]) (x:=bm ob1 (ai l6 c5 ob1.result.length)) bT J J (fD hZ) (.head _) (ht J)),
      ⟨fG 94 1 98 5 J J J J (aL EX (wB _ _ q_r) ⟨(ht J),(ht J),aY⟩),
      ⟨cO 99 6 J J J (cM J),
      ⟨cO 92 7 J J J (lA J J),
      ⟨cO 92 7 J J J (lA J J),
      ⟨cO 100 8 J J J (yD J),
      ⟨cO 101 9 J J J (yD J),
      aY⟩⟩⟩⟩⟩⟩⟩⟩⟩⟩⟩⟩ ?_
     refine an<|au<|aA rfl<|aA rfl<|bE rfl rfl (fun hg=>cM J)<|bE J J (fun hg=>bG (aJ J hg) hI)<|zo J (kM J J)<|aA J<|bE J J (fun hg=>cc lM kj J J)<|bE J J (fun hg=>aO bL J J (aJ J hg))<|bE J J (fun hg=>gZ (aJ J hg) hI)<|zo J (kM J J)<|aA J<|bE J J (fun hg=>cc lM kj J J)<|bE J J (fun hg=>aO bL J J (aJ J hg))<|bE J J (fun hg=>jh (aJ J hg) hI)<|zo J (kM J J)<|bv J<|ap<|au<|zo J (cc lM kj J J) ?_;refine zo J (bC bL J J)<|ap<|av<|au<|zo J (kc J)<|bv J<|ap<|dN h J (fun h=>?_) (fun h=>?_)
     ·refine ak<|aA J<|aA J<|bE J J (fun hg=>cM J)<|bE J J (fun hg=>bG (aJ J hg) hI)<|bE J J (fun hg=>bj (aJ J hg))<|bw J J J J (fun hg=>cM J)<|bw J J J J (fun hg=>bG (aJ J hg) hI)<|bE J J (fun hg=>jB (aJ J hg) (fun hb=>(aJ J (oO hg (m6 hb)))))<|zo J (kM J J)<|bv J<|aK<|al ?_;exact cg (K ((((ok&&(r.2==(0:Int)))&&(decide ((1:Int)<e1.Tag)))&&(decide (e1.Tag≤(5:Int))))&&((r.1==(2:Int))||(r.1==(0:Int)))) (2:Int) h) (bh J)
     ·refine gj (Z:=fun x=>gh (cx tl1) e1 ok ob1 r x=some R) (Of:=fun x=>[bx (rH bc [(1,ai l4 c3 ob1.kinds.length),(2,ai l5 c4 ob1.open_.length)]) 124 b (bm ob1 (ai l6 c5 ob1.result.length)),gX gz 29 l4 c3 ob1.kinds,cu bW 3 l5 c4 ob1.open_,cu bW 3 l6 c5 ob1.result]) (Gf:=fun x=>[(0,tV (aD b 0)),(4,gU (((ok&&(r.2==(0:Int)))&&(decide ((1:Int)<e1.Tag)))&&(decide (e1.Tag≤(5:Int))))),(9,ce 2),(10,ce r.1),(75,fE (cS) l.n.Aggs),(76,je l.n.Aggs),(77,ce (i1:Int)),(130,gU x)]) (fun x h=>?_) (fun K1=>?_)
      ·skip
       refine dN h J (fun h=>?_) (fun h=>?_)
       ·refine ak<|aA J<|bv J<|aK<|al ?_;exact cg (K (((ok&&(r.2==(0:Int)))&&(decide ((1:Int)<e1.Tag)))&&(decide (e1.Tag≤(5:Int)))) r.1 h) (bh J)
       ·refine bD<|al ?_;exact cg (K (((ok&&(r.2==(0:Int)))&&(decide ((1:Int)<e1.Tag)))&&(decide (e1.Tag≤(5:Int)))) (2:Int) h) (bh J)
      ·skip
       refine au<|zo J (kc J)<|bv J<|ap<|dN h J (fun h=>?_) (fun h=>?_)
       ·refine bD ?_;exact cg (K1 (e1.Tag==(4:Int)) h) (bh J)
       ·refine ak<|zo J (kc J)<|bv J<|aK ?_;exact cg (K1 (e1.Tag==(5:Int)) h) (bh J)
 ·obtain⟨hx,h⟩:=h
  refine aq<|au<|zo J (fx J J)<|ap<|ae<|bq (ht J) (dh hx)<|eK<|ae<|av<|au<|zo J (ka dr bL J J J (dy hx))<|zo J (bC bL J J)<|bv J<|ap<|ae<|au<|aA J<|zo J (fz (ht J) hI) ?_;refine aA J<|cQ J J (fun hg=>cM J)<|cQ J J (fun hg=>cM J)<|cQ J J (fun hg=>aS (aJ J hg))<|cQ J J (fun hg=>bB (n:=15) gw J (aJ J hg) J)<|cQ J J (fun hg=>aT (r:=rH bc [(1,ai l1 c ob.kinds.length),(2,ai l2 c1 ob.open_.length)]) (x:=bm ob (ai l3 c2 ob.result.length)) bT J J (fD hZ) (.head _) (aJ J hg))<|cQ J J (fun hg=>bS dr (aJ J hg))<|cQ J J (fun hg=>ek (aJ J hg) (aJ J hg))<|zo J (pr J J)<|ap<|dN h J (fun h=>?_) (fun h=>?_)
  ·refine au<|zo J (fC)<|ap<|am ?_;refine aa (aB (aa (aa (aB (aa ?_)))));refine bn<|bn<|bn<|bn ?_;cases so h;exact c0 J (F3 [(l1,c),(l2,c1),(l3,c2)]) J J (fun _ _ h=>h)
  ·refine eK<|bO h fun e2 q_e2 h=>bO h fun l9 q_l9 h=>?_
   refine nI 14 [tc (tV (aD b 0)),tc (tV (aD b 0)),tc (tV (aD b 0)),tc (tV (aD b 17)),tc (oc l3 c2 ob.result),tc (tV (aD b 0)),tc (tV (aD b 0)),tc (tV (aD b 15)),tc (lx ob.a_),tc (ce e),tc (bz bW e2),tc (ce e2),tc (lx ([e2])),([13],fun s=>tV (ai ((s.getD 0 rx).h 0).1 ((s.getD 0 rx).h 0).2 l9.length))] [false,false,false,false,false,false,false,false,false,false,false,false,false,true] [fun _=>[bx (rH bc [(1,ai l1 c ob.kinds.length),(2,ai l2 c1 ob.open_.length)]) 124 b (bm ob (ai l3 c2 ob.result.length)),gX gz 29 l1 c ob.kinds,cu bW 3 l2 c1 ob.open_,cu bW 3 l3 c2 ob.result],fun sg=>[cu bW 3 ((sg 13).h 0).1 ((sg 13).h 0).2 l9,bx (rH bc [(1,ai l1 c ob.kinds.length),(2,ai l2 c1 ob.open_.length)]) 124 b (bm ob (ai l3 c2 ob.result.length)),gX gz 29 l1 c ob.kinds,cu bW 3 l2 c1 ob.open_]] J mixed J J J J J
    ⟨⟨[⟨0,fun _=>tV (aD b 0),none⟩],_,0,1,J,⟨(fun _=>J),aY⟩,J,J,J,J,J,fun _ sg _ _=>ah J (cM J)⟩,
    ⟨⟨[⟨0,fun _=>tV (aD b 0),none⟩],_,0,0,J,⟨(fun _=>J),aY⟩,J,J,J,J,J,fun _ sg _ _=>ah J (cM J)⟩,
    ⟨⟨[⟨58,fun _=>tV (aD b 0),some 1⟩],_,0,0,J,⟨(fun _=>J),aY⟩,J,J,J,J,J,fun _ sg _ _=>ah J (aS (ht J))⟩,
    ⟨⟨[⟨59,fun _=>tV (aD b 0),some 2⟩],_,0,0,J,⟨(fun _=>J),aY⟩,J,J,J,J,J,fun _ sg _ _=>ah J (eY 17 ef J J J)⟩,
    ⟨⟨[⟨60,fun _=>tV (aD b 17),some 3⟩],_,0,0,J,⟨(fun _=>J),aY⟩,J,J,J,J,J,oL (fun sg=>ah J (dw bT (fD iX) (.head _) J (ht J)))⟩,
    ⟨⟨[⟨0,fun _=>tV (aD b 0),none⟩],_,0,0,J,⟨(fun _=>J),aY⟩,J,J,J,J,J,fun _ sg _ _=>ah J (cM J)⟩,
    ⟨⟨[⟨62,fun _=>tV (aD b 0),some 5⟩],_,0,0,J,⟨(fun _=>J),aY⟩,J,J,J,J,J,fun _ sg _ _=>ah J (aS (ht J))⟩,
    ⟨⟨[⟨63,fun _=>tV (aD b 0),some 6⟩],_,0,0,J,⟨(fun _=>J),aY⟩,J,J,J,J,J,fun _ sg _ _=>ah J (eY 15 gw J J J)⟩,
    ⟨⟨[⟨64,fun _=>tV (aD b 15),some 7⟩],_,0,0,J,⟨(fun _=>J),aY⟩,J,J,J,J,J,oL (fun sg=>ah J (aT (r:=rH bc [(1,ai l1 c ob.kinds.length),(2,ai l2 c1 ob.open_.length)]) (x:=bm ob (ai l3 c2 ob.result.length)) bT J J (fD hZ) (.head _) (ht J)))⟩,
    ⟨⟨[⟨6,fun _=>tD bW e,none⟩],_,0,0,J,⟨(fun _=>J),aY⟩,J,J,J,J,J,fun _ sg _ _=>ah J (cM J)⟩,
    ⟨⟨[⟨65,fun _=>tD pT ob.a_,some 8⟩,⟨66,fun _=>tD bW e,some 9⟩],_,0,0,J,⟨(fun _=>J),(fun _=>J),aY⟩,J,J,J,J,J,fun _ sg _ _=>ah J (ka dr bL J J J q_e2)⟩,
    ⟨⟨[⟨67,fun _=>bz bW e2,some 10⟩],_,0,0,J,⟨(fun _=>J),aY⟩,J,J,J,J,J,fun _ sg _ _=>ah J (bC bL J J)⟩,
    ⟨⟨[⟨68,fun _=>tD bW e2,some 11⟩],_,0,0,J,⟨(fun _=>J),aY⟩,J,J,J,J,J,fun _ sg _ _=>ah J (bX (r:=bW) (ys:=[e2]) (xs:=[.tmp 68]) dr bL J J J J J ⟨(ht J),aY⟩)⟩,
    ⟨⟨[⟨61,fun _=>tV (ai l3 c2 ob.result.length),some 4⟩,⟨69,fun _=>tD pT ([e2]),some 12⟩],_,J,⟨(fun _=>J),(fun _=>J),aY⟩,J,J,J,fun sg=>dD J (EffOK.fr3 (ri bL J J J J dr J (ht J) (ht J) q_l9))⟩,
    aY⟩⟩⟩⟩⟩⟩⟩⟩⟩⟩⟩⟩⟩⟩ (fun sg=>?_)
   refine(show RG _ _ _ _ [cu bW 3 ((sg 13).h 0).1 ((sg 13).h 0).2 l9,bx (rH bc [(1,ai l1 c ob.kinds.length),(2,ai l2 c1 ob.open_.length)]) 124 b (bm ob (ai l3 c2 ob.result.length)),gX gz 29 l1 c ob.kinds,cu bW 3 l2 c1 ob.open_] _ from ?_);refine zo J (aS (ht J))<|zo J (eY 17 ef J J J)<|bM<|dV bT J (ou (hs' :=[(1,ai l1 c ob.kinds.length),(2,ai l2 c1 ob.open_.length)]) (fR _ _ _) ⟨.inr ⟨J,J⟩,.inr ⟨J,J⟩,aY⟩ J) J (ht J) (zy (ht J)) ?_;refine(show RG _ _ _ _ [bx (rH bc [(1,ai l1 c ob.kinds.length),(2,ai l2 c1 ob.open_.length)]) 124 b (bm ob (ai ((sg 13).h 0).1 ((sg 13).h 0).2 l9.length)),cu bW 3 ((sg 13).h 0).1 ((sg 13).h 0).2 l9,gX gz 29 l1 c ob.kinds,cu bW 3 l2 c1 ob.open_] _ from ?_);refine aK<|al<|an<|ak<|zo rfl (lb (cL hx hN) rfl)<|aA rfl<|aK<|bf<|bn<|bn<|bn ?_;exact aW (aM (ih (i+1) ({ob with result:=l9}:af) l1 c l2 c1 ((sg 13).h 0).1 ((sg 13).h 0).2 ⟨cK hx,h⟩) (bh J))

end Go.Proofs.YtmogpgcfognefaaGreatDoor

