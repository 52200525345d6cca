/- cF of this claim: P2. -/
import Derived.Test.YtmogpgcfognefaaGreatDoorNbT
import Derived.Test.YtmogpgcfognefaaGreatDoorNbP1
set_option linter.all false
namespace Go.Proofs.YtmogpgcfognefaaGreatDoor
open Go
set_option maxRecDepth 100000

theorem Ez(e:bk)(kinds:(List Int)){R:Bool}(h:lO e kinds=some R):bg aP 159 [tD bc e,lW kinds] (ij R):=by
 refine bg.of Tryz.func159 J J J fun w0 S0=>aq<|zo J (mp J)<|zo J (fP)<|ap<|aq<|zo J (bE gj J J)<|aA J<|bP h fun r q_r h=>zo J (aO EI (wk _ _ q_r) ⟨(ht J),(ht J),be⟩)<|aA J<|zo J (lv J J)<|zo J (lv J J)<|bu J<|bu J<|ap<|aq<|aA J<|zo J (j6 J) ?_;refine aA J<|bD J J (fun hg=>cN J)<|bD J J (fun hg=>bv (aI J hg) hI)<|bD J J (fun hg=>bj (aI J hg))<|bW J J J J (fun hg=>cN J)<|bW J J J J (fun hg=>bv (aI J hg) hI)<|bD J J (fun hg=>iJ (aI J hg) (fun hb=>(aI J (oI hg (mR hb)))))<|zo J (ky J J)<|bu J<|ap<|am ?_;cases so h;exact aH J J

theorem Na(b:Nat)(ix:OI)(l:af){R:Bool×af}(h:jA l=some R):fQ aP 85 [tV (aD b 0)] (dm b l ix) (fun _:OI=>ij R.1) (fun j=>dm b R.2 j):=by
 refine fQ.of Tryz.func85 J J J fun w0 S0=>?_;refine(show CG _ _ _ [bx (rH aN [(1,ai (ix.h 0).1 (ix.h 0).2 l.kinds.length),(2,ai (ix.h 1).1 (ix.h 1).2 l.open_.length)]) 124 b l,gX gH 29 (ix.h 0).1 (ix.h 0).2 l.kinds,cr bU 3 (ix.h 1).1 (ix.h 1).2 l.open_] _ from ?_);refine aq<|zo J (fP)<|ap<|ae<|bP h fun r q_r h=>?_
 refine oF 13 (ts:=[tV (aD b 0),tV (aD b 0),tV (aD b 0),tV (aD b 15),lW l.a_,tV (aD b 0),tV (aD b 0),tV (aD b 16),lW l.b,fX (gH) ([l.a_,l.b]),lW r,tV (aD b 0),tV (aD b 17)]) mixed J J J
  ⟨iD 0 J J J (cN J),
  ⟨iD 0 J J J (cN J),
  ⟨cR 4 1 J J J (aR (ht J)),
  ⟨cR 5 2 J J J (fq 15 gu J J J),
  ⟨cR 6 3 J J J (aV (r:=rH aN [(1,ai (ix.h 0).1 (ix.h 0).2 l.kinds.length),(2,ai (ix.h 1).1 (ix.h 1).2 l.open_.length)]) (x:=l) bV J J (fy lh) (.head _) (ht J)),
  ⟨iD 0 J J J (cN J),
  ⟨cR 8 5 J J J (aR (ht J)),
  ⟨cR 9 6 J J J (fq 16 tY J J J),
  ⟨cR 10 7 J J J (aV (r:=rH aN [(1,ai (ix.h 0).1 (ix.h 0).2 l.kinds.length),(2,ai (ix.h 1).1 (ix.h 1).2 l.open_.length)]) (x:=l) bV J J (fy zi) (.head _) (ht J)),
  ⟨fB 7 4 11 8 J J J J (bF (r:=pP) (ys:=[l.a_,l.b]) (xs:=[.tmp 7,.tmp 11]) qK bV J J J J J ⟨(ht J),(ht J),be⟩),
  ⟨cR 12 9 J J J (aO NX (Jk _ q_r) ⟨(ht J),be⟩),
  ⟨cR 3 0 J J J (aR (ht J)),
  ⟨cR 14 11 J J J (fq 17 ed J J J),
  be⟩⟩⟩⟩⟩⟩⟩⟩⟩⟩⟩⟩⟩ ?_
 refine lH (gS bV J (qS (hs' :=[(1,ai (ix.h 0).1 (ix.h 0).2 l.kinds.length),(2,ai (ix.h 1).1 (ix.h 1).2 l.open_.length)]) n8 ⟨.inr ⟨J,J⟩,.inr ⟨J,J⟩,be⟩ J) J (ht J) (ht J)) (fun i=>?_);refine(show RG _ _ _ _ [bx (rH aN [(1,ai (ix.h 0).1 (ix.h 0).2 l.kinds.length),(2,ai (ix.h 1).1 (ix.h 1).2 l.open_.length)]) 124 b ({l with result:=r}:af),gX gH 29 (ix.h 0).1 (ix.h 0).2 l.kinds,cr bU 3 (ix.h 1).1 (ix.h 1).2 l.open_] _ from ?_);refine ap<|ae<|bP h fun r1 q_r1 h=>?_
 refine eN (ts:=[_,_,_,_,_,_,_,_,_,_,_]) mixed J J
  ⟨iD 0 J J J (cN J),
  ⟨cR 16 0 J J J (aR (ht J)),
  ⟨cR 17 1 J J J (fq 3 eX J J J),
  ⟨cR 18 2 J J J (fq 9 sV J J J),
  ⟨cR 19 3 J J J (aV (r:=rH aN [(1,ai (ix.h 0).1 (ix.h 0).2 l.kinds.length),(2,ai (ix.h 1).1 (ix.h 1).2 l.open_.length)]) (x:=({l with result:=r}:af)) gj J J (fy (ew dS oB)) (.head _) (ht J)),
  ⟨iD 0 J J J (cN J),
  ⟨cR 21 5 J J J (aR (ht J)),
  ⟨cR 22 6 J J J (fq 17 ed J J J),
  ⟨cR 23 7 J J J (aV (r:=rH aN [(1,ai (ix.h 0).1 (ix.h 0).2 l.kinds.length),(2,ai (ix.h 1).1 (ix.h 1).2 l.open_.length)]) (x:=({l with result:=r}:af)) bV J J (fy uT) (.head _) (ht J)),
  ⟨fB 20 4 24 8 J J J J (aO Ku (Ez _ _ q_r1) ⟨(ht J),(ht J),be⟩),
  ⟨cR 25 9 J J J (yk J),
  be⟩⟩⟩⟩⟩⟩⟩⟩⟩⟩⟩ ?_
 refine an<|am<|aJ<|aJ<|aJ ?_;cases so h;exact cZ J ix J J (fun _ _ h=>h)

theorem M9(b:Nat)(ix:OI)(l:af){R:Bool×af}(h:ib l=some R):fQ aP 86 [tV (aD b 0)] (dm b l ix) (fun _:OI=>ij R.1) (fun j=>dm b R.2 j):=by
 refine fQ.of Tryz.func86 J J J fun w0 S0=>?_;refine(show CG _ _ _ [bx (rH aN [(1,ai (ix.h 0).1 (ix.h 0).2 l.kinds.length),(2,ai (ix.h 1).1 (ix.h 1).2 l.open_.length)]) 124 b l,gX gH 29 (ix.h 0).1 (ix.h 0).2 l.kinds,cr bU 3 (ix.h 1).1 (ix.h 1).2 l.open_] _ from ?_);refine aq<|zo J (fP)<|ap<|aq<|aA J<|aA J<|zo J (aR (ht J))<|zo J (fq 15 gu J J J)<|zo J (aV (r:=rH aN [(1,ai (ix.h 0).1 (ix.h 0).2 l.kinds.length),(2,ai (ix.h 1).1 (ix.h 1).2 l.open_.length)]) (x:=l) bV J J (fy lh) (.head _) (ht J))<|zo J (aR (ht J))<|zo J (fq 17 ed J J J)<|lH (gS bV J (qS (hs' :=[(1,ai (ix.h 0).1 (ix.h 0).2 l.kinds.length),(2,ai (ix.h 1).1 (ix.h 1).2 l.open_.length)]) n8 ⟨.inr ⟨J,J⟩,.inr ⟨J,J⟩,be⟩ J) J (ht J) (ht J)) fun i=>?_;refine(show RG _ _ _ _ [bx (rH aN [(1,ai (ix.h 0).1 (ix.h 0).2 l.kinds.length),(2,ai (ix.h 1).1 (ix.h 1).2 l.open_.length)]) 124 b ({l with result:=l.a_}:af),gX gH 29 (ix.h 0).1 (ix.h 0).2 l.kinds,cr bU 3 (ix.h 1).1 (ix.h 1).2 l.open_] _ from ?_);refine ap<|ae<|bP h fun r q_r h=>?_
 refine eN (ts:=[_,_,_,_,_,_,_,_,_,_,_]) mixed J J
  ⟨iD 0 J J J (cN J),
  ⟨cR 10 0 J J J (aR (ht J)),
  ⟨cR 11 1 J J J (fq 3 eX J J J),
  ⟨cR 12 2 J J J (fq 9 sV J J J),
  ⟨cR 13 3 J J J (aV (r:=rH aN [(1,ai (ix.h 0).1 (ix.h 0).2 l.kinds.length),(2,ai (ix.h 1).1 (ix.h 1).2 l.open_.length)]) (x:=({l with result:=l.a_}:af)) gj J J (fy (ew dS oB)) (.head _) (ht J)),
  ⟨iD 0 J J J (cN J),
  ⟨cR 15 5 J J J (aR (ht J)),
  ⟨cR 16 6 J J J (fq 15 gu J J J),
  ⟨cR 17 7 J J J (aV (r:=rH aN [(1,ai (ix.h 0).1 (ix.h 0).2 l.kinds.length),(2,ai (ix.h 1).1 (ix.h 1).2 l.open_.length)]) (x:=({l with result:=l.a_}:af)) bV J J (fy lh) (.head _) (ht J)),
  ⟨fB 14 4 18 8 J J J J (aO Ku (Ez _ _ q_r) ⟨(ht J),(ht J),be⟩),
  ⟨cR 19 9 J J J (yk J),
  be⟩⟩⟩⟩⟩⟩⟩⟩⟩⟩⟩ ?_
 refine an<|am<|aJ<|aJ<|aJ ?_;cases so h;exact cZ J ix J J (fun _ _ h=>h)

theorem M8(b:Nat)(ix:OI)(l:af){R:Bool×af}(h:eW l=some R):fQ aP 87 [tV (aD b 0)] (dm b l ix) (fun _:OI=>ij R.1) (fun j=>dm b R.2 j):=by
 refine fQ.of Tryz.func87 J J J fun w0 S0=>?_;refine(show CG _ _ _ [bx (rH aN [(1,ai (ix.h 0).1 (ix.h 0).2 l.kinds.length),(2,ai (ix.h 1).1 (ix.h 1).2 l.open_.length)]) 124 b l,gX gH 29 (ix.h 0).1 (ix.h 0).2 l.kinds,cr bU 3 (ix.h 1).1 (ix.h 1).2 l.open_] _ from ?_);refine aq<|zo J (fP)<|ap<|aq<|aA J<|zo J (aR (ht J))<|zo J (fq 3 eX J J J)<|zo J (aV (r:=rH aN [(1,ai (ix.h 0).1 (ix.h 0).2 l.kinds.length),(2,ai (ix.h 1).1 (ix.h 1).2 l.open_.length)]) (x:=l) d3 J J (fy dS) (.head _) (ht J))<|aX (r:=aE) (x:=AW) d3 (fun _=>fh _) J fun b1=>aC d3 J ax J (ht J) (ht J)<|aT 3 J<|ap<|aq<|zo J (bZ lq ff J J)<|zo J (bE bV J J)<|zo J (jL dp J)<|zo J (jB (ht J) hI)<|aA J<|bD J J (fun hg=>bZ kZ fI J J) ?_;refine bD J J (fun hg=>aL qP J J (aI J hg))<|bD J J (fun hg=>bI mO (aI J hg))<|bD J J (fun hg=>jB (aI J hg) hI)<|zo J (ky J J)<|aA J<|bD J J (fun hg=>bZ lq ff J J)<|bD J J (fun hg=>aL bV J J (aI J hg))<|bD J J (fun hg=>bI dp (aI J hg))<|bD J J (fun hg=>bZ kZ fI J J)<|bD J J (fun hg=>aL qP J J (aI J hg))<|bD J J (fun hg=>bI mO (aI J hg))<|bD J J (fun hg=>nF (aI J hg) (aI J hg))<|bD J J (fun hg=>iu (aI J hg) hI)<|zo J (ky J J)<|bu J<|ap<|aq<|aA J<|zo J (aR (ht J))<|zo J (fq 17 ed J J J)<|ci false bU 3<|bT ?_;refine d9 bV J (om (hs' :=[(1,ai (ix.h 0).1 (ix.h 0).2 l.kinds.length),(2,ai (ix.h 1).1 (ix.h 1).2 l.open_.length)]) (iP _ _) ⟨.inr ⟨J,J⟩,.inr ⟨J,J⟩,be⟩ J) J (ht J) (Aq (show ay _ _ _ H2 from q5)) ?_;refine(show RG _ _ _ _ [bx (rH ba [(1,ai (ix.h 0).1 (ix.h 0).2 l.kinds.length),(2,ai (ix.h 1).1 (ix.h 1).2 l.open_.length)]) 124 b (bl l (ai none 0 (mP.length))),cr bU 3 none 0 mP,gX gH 29 (ix.h 0).1 (ix.h 0).2 l.kinds,cr bU 3 (ix.h 1).1 (ix.h 1).2 l.open_] _ from ?_);refine ap<|ae<|aq<|zo J (bZ lq ff J J)<|zo J (bE bV J J)<|zo J (jL dp J)<|zo J (bj hI)<|ap<|av<|aY (k:=40) J fun hN=>bO<|dV<|ej<|ej<|ej ?_;refine aM (pH (Z:=fun ls i ob l1 c l2 c1 l3 c2=>(l.n.Keys.drop i=ls)∧eZ l ls ob=some R) (Of:=fun _ i ob l1 c l2 c1 l3 c2=>[bx (rH ba [(1,ai l1 c ob.kinds.length),(2,ai l2 c1 ob.open_.length)]) 124 b (bl ob (ai l3 c2 ob.result.length)),gX gH 29 l1 c ob.kinds,cr bU 3 l2 c1 ob.open_,cr bU 3 l3 c2 ob.result]) (Gf:=fun _ i ob l1 c l2 c1 l3 c2=>[(0,tV (aD b 0)),(3,bB aE l.n),(4,ij (((decide ((l.n.Keys.length:Int)≤(3:Int)))&&(decide ((l.n.Aggs.length:Int)≤(12:Int))))&&(decide ((0:Int)<(IntKind.i64.wrap ((l.n.Keys.length:Int)+(l.n.Aggs.length:Int))))))),(40,lW l.n.Keys),(41,jt l.n.Keys),(42,cd (i:Int))]) (fun i ob l1 c l2 c1 l3 c2 h=>?_) (fun e tl ih i ob l1 c l2 c1 l3 c2 h=>?_) l.n.Keys 0 ({l with result:=mP}:af) (ix.h 0).1 (ix.h 0).2 (ix.h 1).1 (ix.h 1).2 none 0 ⟨J,h⟩) (bh J)
 ·obtain⟨hx,h⟩:=h
  refine au<|aq<|zo J (fM J J)<|ap<|ae<|bt (ht J) (du hx)<|bn ?_;refine ac (ac (aG ?_));refine an<|ae<|aq<|zo rfl (bZ kZ fI rfl rfl)<|zo rfl (bE qP rfl rfl)<|zo rfl (jL mO rfl)<|zo rfl (bj hI)<|ap<|av<|aY (k:=75) J fun hN1=>bO ?_;refine aM (uj (Z:=fun ls1 i1 ok ob1 l4 c3 l5 c4 l6 c5=>(l.n.Aggs.drop i1=ls1)∧cu ls1 ok ob1=some R) (Of:=fun _ i1 ok ob1 l4 c3 l5 c4 l6 c5=>[bx (rH ba [(1,ai l4 c3 ob1.kinds.length),(2,ai l5 c4 ob1.open_.length)]) 124 b (bl ob1 (ai l6 c5 ob1.result.length)),gX gH 29 l4 c3 ob1.kinds,cr bU 3 l5 c4 ob1.open_,cr bU 3 l6 c5 ob1.result]) (Gf:=fun _ i1 ok ob1 l4 c3 l5 c4 l6 c5=>[(0,tV (aD b 0)),(4,ij ok),(75,fX (cT) l.n.Aggs),(76,jt l.n.Aggs),(77,cd (i1:Int))]) (fun i1 ok ob1 l4 c3 l5 c4 l6 c5 h=>?_) (fun e1 tl1 ih1 i1 ok ob1 l4 c3 l5 c4 l6 c5 h=>?_) l.n.Aggs 0 (((decide ((l.n.Keys.length:Int)≤(3:Int)))&&(decide ((l.n.Aggs.length:Int)≤(12:Int))))&&(decide ((0:Int)<(IntKind.i64.wrap ((l.n.Keys.length:Int)+(l.n.Aggs.length:Int)))))) ob l1 c l2 c1 l3 c2 ⟨J,h⟩) (bh J)
  ·obtain⟨hx1,h⟩:=h
   refine au<|aq<|zo J (fM J J)<|ap<|ae<|bt (ht J) (du hx1)<|bn ?_;refine ac (ac (aG ?_));refine an<|aq<|aA rfl<|bu rfl<|ap<|am<|bm<|ii<|bf<|pm (r' :=rH aN [(1,ai l4 c3 ob1.kinds.length),(2,ai l5 c4 ob1.open_.length)]) (x' :=ob1) (fun _ _ _ ho h=>JP h (fun h=>fJ (iT ho (.head _)) h))<|bf<|bw<|aJ<|aJ<|aJ ?_;cases so h;exact cZ J (FJ [(l4,c3),(l5,c4)]) J J (fun _ _ h=>h)
  ·obtain⟨hx1,h⟩:=h
   refine au<|aq<|zo J (fM J J)<|ap<|ae<|br (ht J) (dn hx1)<|eK<|ae<|av<|aq<|zo J (j8 mO gJ J J J (dB hx1))<|zo J (bE gJ J J)<|aX (r:=cT) (x:=CB) gJ (fun _=>sD _) J fun b2=>aC gJ J ax J (ht J) (ht J)<|aT 8 J<|ap<|aq<|zo J (fg) ?_;refine ap ?_;refine zD (Z:=fun ok1 k=>dM (cu tl1) ob1 ok1 k=some R) (Of:=fun ok1 k=>[bx (rH ba [(1,ai l4 c3 ob1.kinds.length),(2,ai l5 c4 ob1.open_.length)]) 124 b (bl ob1 (ai l6 c5 ob1.result.length)),gX gH 29 l4 c3 ob1.kinds,cr bU 3 l5 c4 ob1.open_,cr bU 3 l6 c5 ob1.result]) (Gf:=fun ok1 k=>[(0,tV (aD b 0)),(4,ij ok1),(9,cd k),(75,fX (cT) l.n.Aggs),(76,jt l.n.Aggs),(77,cd (i1:Int))]) (fun ok1 k h=>?_) (fun K=>?_)
   ·skip
    refine ak<|aA J<|aA J<|zo J (aR (ht J))<|zo J (fq 17 ed J J J)<|zo J (dG bV (fy iX) (.head _) J (ht J))<|aA J<|zo J (bF (r:=bU) (ys:=[k]) (xs:=[.tmp 139]) dp bJ J J J J J ⟨(ht J),be⟩)<|eT<|bP h fun l7 q_l7 h=>dj bJ J J J J dp J J (ht J) (ht J) q_l7 fun l8 c6=>zo J (aR (ht J))<|zo J (fq 17 ed J J J)<|bT<|d9 bV J (om (hs' :=[(1,ai l4 c3 ob1.kinds.length),(2,ai l5 c4 ob1.open_.length)]) (fN _ _ _) ⟨.inr ⟨J,J⟩,.inr ⟨J,J⟩,be⟩ J) J (ht J) (Aq (ht J)) ?_;refine(show RG _ _ _ _ [bx (rH ba [(1,ai l4 c3 ob1.kinds.length),(2,ai l5 c4 ob1.open_.length)]) 124 b (bl ob1 (ai l8 c6 l7.length)),cr bU 3 l8 c6 l7,gX gH 29 l4 c3 ob1.kinds,cr bU 3 l5 c4 ob1.open_] _ from ?_);refine aK<|al<|an<|ak<|zo rfl (lk (cQ hx1 hN1) rfl)<|aA rfl<|aK<|bf<|bm<|bm<|bm ?_;exact aW (aM (ih1 (i1+1) ok1 ({ob1 with result:=l7}:af) l4 c3 l5 c4 l8 c6 ⟨cP hx1,h⟩) (bh J))
   ·skip
    refine aq<|zo J (bZ lF kh J J)<|zo J (bE bJ J J)<|zo J (j6 J)<|ap<|dQ h J (fun h=>?_) (fun h=>?_)
    ·refine ak<|aA J<|aA J<|bD J J (fun hg=>bZ qk pC J J)<|bD J J (fun hg=>cB fv J c9 J (aI J hg))<|bD J J (fun hg=>aL mo J J (aI J hg))<|bD J J (fun hg=>bI jv (aI J hg))<|bD J J (fun hg=>bv (aI J hg) hI)<|zo J (ky J J)<|bu J<|aK ?_;exact cb (K (ok&&((e1.Arg.Nodes.length:Int)==(0:Int))) (2:Int) h) (bh J)
    ·refine ae<|bP h fun r q_r h=>?_
     refine eN (ts:=[_,_,_,_,_,_,_,_,_,_,_,_]) mixed J J
      ⟨iD 8 J J J (bZ qk pC J J),
      ⟨cR 93 0 J J J (bE gj J J),
      ⟨iD 0 J J J (cN J),
      ⟨cR 95 2 J J J (aR (ht J)),
      ⟨cR 96 3 J J J (fq 15 gu J J J),
      ⟨cR 97 4 J J J (aV (r:=rH ba [(1,ai l4 c3 ob1.kinds.length),(2,ai l5 c4 ob1.open_.length)]) (x:=bl ob1 (ai l6 c5 ob1.result.length)) bV J J (fy ia) (.head _) (ht J)),
      ⟨fB 94 1 98 5 J J J J (aO EI (wk _ _ q_r) ⟨(ht J),(ht J),be⟩),
      ⟨cR 99 6 J J J (cN J),
      ⟨cR 92 7 J J J (lv J J),
      ⟨cR 92 7 J J J (lv J J),
      ⟨cR 100 8 J J J (yk J),
      ⟨cR 101 9 J J J (yk J),
      be⟩⟩⟩⟩⟩⟩⟩⟩⟩⟩⟩⟩ ?_
     refine an<|aq<|aA rfl<|aA rfl<|bD rfl rfl (fun hg=>cN J)<|bD J J (fun hg=>bv (aI J hg) hI)<|zo J (ky J J)<|aA J<|bD J J (fun hg=>bZ lF kh J J)<|bD J J (fun hg=>aL bJ J J (aI J hg))<|bD J J (fun hg=>iu (aI J hg) hI)<|zo J (ky J J)<|aA J<|bD J J (fun hg=>bZ lF kh J J)<|bD J J (fun hg=>aL bJ J J (aI J hg))<|bD J J (fun hg=>jB (aI J hg) hI)<|zo J (ky J J)<|bu J<|ap<|aq<|zo J (bZ lF kh J J) ?_;refine zo J (bE bJ J J)<|ap<|av<|aq<|zo J (j6 J)<|bu J<|ap<|dQ h J (fun h=>?_) (fun h=>?_)
     ·refine ak<|aA J<|aA J<|bD J J (fun hg=>cN J)<|bD J J (fun hg=>bv (aI J hg) hI)<|bD J J (fun hg=>bj (aI J hg))<|bW J J J J (fun hg=>cN J)<|bW J J J J (fun hg=>bv (aI J hg) hI)<|bD J J (fun hg=>iJ (aI J hg) (fun hb=>(aI J (oI hg (mR hb)))))<|zo J (ky J J)<|bu J<|aK<|al ?_;exact cb (K ((((ok&&(r.2==(0:Int)))&&(decide ((1:Int)<e1.Tag)))&&(decide (e1.Tag≤(5:Int))))&&((r.1==(2:Int))||(r.1==(0:Int)))) (2:Int) h) (bh J)
     ·refine ge (Z:=fun x=>ga (cu tl1) e1 ok ob1 r x=some R) (Of:=fun x=>[bx (rH ba [(1,ai l4 c3 ob1.kinds.length),(2,ai l5 c4 ob1.open_.length)]) 124 b (bl ob1 (ai l6 c5 ob1.result.length)),gX gH 29 l4 c3 ob1.kinds,cr bU 3 l5 c4 ob1.open_,cr bU 3 l6 c5 ob1.result]) (Gf:=fun x=>[(0,tV (aD b 0)),(4,ij (((ok&&(r.2==(0:Int)))&&(decide ((1:Int)<e1.Tag)))&&(decide (e1.Tag≤(5:Int))))),(9,cd 2),(10,cd r.1),(75,fX (cT) l.n.Aggs),(76,jt l.n.Aggs),(77,cd (i1:Int)),(130,ij x)]) (fun x h=>?_) (fun K1=>?_)
      ·skip
       refine dQ h J (fun h=>?_) (fun h=>?_)
       ·refine ak<|aA J<|bu J<|aK<|al ?_;exact cb (K (((ok&&(r.2==(0:Int)))&&(decide ((1:Int)<e1.Tag)))&&(decide (e1.Tag≤(5:Int)))) r.1 h) (bh J)
       ·refine bC<|al ?_;exact cb (K (((ok&&(r.2==(0:Int)))&&(decide ((1:Int)<e1.Tag)))&&(decide (e1.Tag≤(5:Int)))) (2:Int) h) (bh J)
      ·skip
       refine aq<|zo J (j6 J)<|bu J<|ap<|dQ h J (fun h=>?_) (fun h=>?_)
       ·refine bC ?_;exact cb (K1 (e1.Tag==(4:Int)) h) (bh J)
       ·refine ak<|zo J (j6 J)<|bu J<|aK ?_;exact cb (K1 (e1.Tag==(5:Int)) h) (bh J)
 ·obtain⟨hx,h⟩:=h
  refine au<|aq<|zo J (fM J J)<|ap<|ae<|br (ht J) (dn hx)<|eK<|ae<|av<|aq<|zo J (j8 dp bJ J J J (dB hx))<|zo J (bE bJ J J)<|bu J<|ap<|ae<|aq<|aA J<|zo J (fH (ht J) hI) ?_;refine aA J<|cD J J (fun hg=>cN J)<|cD J J (fun hg=>cN J)<|cD J J (fun hg=>aR (aI J hg))<|cD J J (fun hg=>bA (n:=15) gu J (aI J hg) J)<|cD J J (fun hg=>aV (r:=rH ba [(1,ai l1 c ob.kinds.length),(2,ai l2 c1 ob.open_.length)]) (x:=bl ob (ai l3 c2 ob.result.length)) bV J J (fy ia) (.head _) (aI J hg))<|cD J J (fun hg=>bI dp (aI J hg))<|cD J J (fun hg=>ev (aI J hg) (aI J hg))<|zo J (pn J J)<|ap<|dQ h J (fun h=>?_) (fun h=>?_)
  ·refine aq<|zo J (fP)<|ap<|am ?_;refine aa (aF (aa (aa (aF (aa ?_)))));refine bm<|ii<|bf<|pm (r' :=rH aN [(1,ai l1 c ob.kinds.length),(2,ai l2 c1 ob.open_.length)]) (x' :=ob) (fun _ _ _ ho h=>JP h (fun h=>fJ (iT ho (.head _)) h))<|bf<|bw<|aJ<|aJ<|aJ ?_;cases so h;exact cZ J (FJ [(l1,c),(l2,c1)]) J J (fun _ _ h=>h)
  ·refine eK<|bP h fun e2 q_e2 h=>bP h fun l9 q_l9 h=>?_
   refine nB 14 [tc (tV (aD b 0)),tc (tV (aD b 0)),tc (tV (aD b 0)),tc (tV (aD b 17)),tc (n6 l3 c2 ob.result),tc (tV (aD b 0)),tc (tV (aD b 0)),tc (tV (aD b 15)),tc (lW ob.a_),tc (cd e),tc (bB bU e2),tc (cd e2),tc (lW ([e2])),([13],fun s=>tV (ai ((s.getD 0 sa).h 0).1 ((s.getD 0 sa).h 0).2 l9.length))] [false,false,false,false,false,false,false,false,false,false,false,false,false,true] [fun _=>[bx (rH ba [(1,ai l1 c ob.kinds.length),(2,ai l2 c1 ob.open_.length)]) 124 b (bl ob (ai l3 c2 ob.result.length)),gX gH 29 l1 c ob.kinds,cr bU 3 l2 c1 ob.open_,cr bU 3 l3 c2 ob.result],fun sg=>[cr bU 3 ((sg 13).h 0).1 ((sg 13).h 0).2 l9,bx (rH ba [(1,ai l1 c ob.kinds.length),(2,ai l2 c1 ob.open_.length)]) 124 b (bl ob (ai l3 c2 ob.result.length)),gX gH 29 l1 c ob.kinds,cr bU 3 l2 c1 ob.open_]] J mixed J J J J J
    ⟨⟨[⟨0,fun _=>tV (aD b 0),none⟩],_,0,1,J,⟨(fun _=>J),be⟩,J,J,J,J,J,fun _ sg _ _=>ah J (cN J)⟩,
    ⟨⟨[⟨0,fun _=>tV (aD b 0),none⟩],_,0,0,J,⟨(fun _=>J),be⟩,J,J,J,J,J,fun _ sg _ _=>ah J (cN J)⟩,
    ⟨⟨[⟨58,fun _=>tV (aD b 0),some 1⟩],_,0,0,J,⟨(fun _=>J),be⟩,J,J,J,J,J,fun _ sg _ _=>ah J (aR (ht J))⟩,
    ⟨⟨[⟨59,fun _=>tV (aD b 0),some 2⟩],_,0,0,J,⟨(fun _=>J),be⟩,J,J,J,J,J,fun _ sg _ _=>ah J (fq 17 ed J J J)⟩,
    ⟨⟨[⟨60,fun _=>tV (aD b 17),some 3⟩],_,0,0,J,⟨(fun _=>J),be⟩,J,J,J,J,J,oG (fun sg=>ah J (dG bV (fy iX) (.head _) J (ht J)))⟩,
    ⟨⟨[⟨0,fun _=>tV (aD b 0),none⟩],_,0,0,J,⟨(fun _=>J),be⟩,J,J,J,J,J,fun _ sg _ _=>ah J (cN J)⟩,
    ⟨⟨[⟨62,fun _=>tV (aD b 0),some 5⟩],_,0,0,J,⟨(fun _=>J),be⟩,J,J,J,J,J,fun _ sg _ _=>ah J (aR (ht J))⟩,
    ⟨⟨[⟨63,fun _=>tV (aD b 0),some 6⟩],_,0,0,J,⟨(fun _=>J),be⟩,J,J,J,J,J,fun _ sg _ _=>ah J (fq 15 gu J J J)⟩,
    ⟨⟨[⟨64,fun _=>tV (aD b 15),some 7⟩],_,0,0,J,⟨(fun _=>J),be⟩,J,J,J,J,J,oG (fun sg=>ah J (aV (r:=rH ba [(1,ai l1 c ob.kinds.length),(2,ai l2 c1 ob.open_.length)]) (x:=bl ob (ai l3 c2 ob.result.length)) bV J J (fy ia) (.head _) (ht J)))⟩,
    ⟨⟨[⟨6,fun _=>tD bU e,none⟩],_,0,0,J,⟨(fun _=>J),be⟩,J,J,J,J,J,fun _ sg _ _=>ah J (cN J)⟩,
    ⟨⟨[⟨65,fun _=>tD pP ob.a_,some 8⟩,⟨66,fun _=>tD bU e,some 9⟩],_,0,0,J,⟨(fun _=>J),(fun _=>J),be⟩,J,J,J,J,J,fun _ sg _ _=>ah J (j8 dp bJ J J J q_e2)⟩,
    ⟨⟨[⟨67,fun _=>bB bU e2,some 10⟩],_,0,0,J,⟨(fun _=>J),be⟩,J,J,J,J,J,fun _ sg _ _=>ah J (bE bJ J J)⟩,
    ⟨⟨[⟨68,fun _=>tD bU e2,some 11⟩],_,0,0,J,⟨(fun _=>J),be⟩,J,J,J,J,J,fun _ sg _ _=>ah J (bF (r:=bU) (ys:=[e2]) (xs:=[.tmp 68]) dp bJ J J J J J ⟨(ht J),be⟩)⟩,
    ⟨⟨[⟨61,fun _=>tV (ai l3 c2 ob.result.length),some 4⟩,⟨69,fun _=>tD pP ([e2]),some 12⟩],_,J,⟨(fun _=>J),(fun _=>J),be⟩,J,J,J,fun sg=>eJ J (EffOK.fr3 (ri bJ J J J J dp J (ht J) (ht J) q_l9))⟩,
    be⟩⟩⟩⟩⟩⟩⟩⟩⟩⟩⟩⟩⟩⟩ (fun sg=>?_)
   refine(show RG _ _ _ _ [cr bU 3 ((sg 13).h 0).1 ((sg 13).h 0).2 l9,bx (rH ba [(1,ai l1 c ob.kinds.length),(2,ai l2 c1 ob.open_.length)]) 124 b (bl ob (ai l3 c2 ob.result.length)),gX gH 29 l1 c ob.kinds,cr bU 3 l2 c1 ob.open_] _ from ?_);refine zo J (aR (ht J))<|zo J (fq 17 ed J J J)<|bT<|d9 bV J (om (hs' :=[(1,ai l1 c ob.kinds.length),(2,ai l2 c1 ob.open_.length)]) (fN _ _ _) ⟨.inr ⟨J,J⟩,.inr ⟨J,J⟩,be⟩ J) J (ht J) (Aq (ht J)) ?_;refine(show RG _ _ _ _ [bx (rH ba [(1,ai l1 c ob.kinds.length),(2,ai l2 c1 ob.open_.length)]) 124 b (bl ob (ai ((sg 13).h 0).1 ((sg 13).h 0).2 l9.length)),cr bU 3 ((sg 13).h 0).1 ((sg 13).h 0).2 l9,gX gH 29 l1 c ob.kinds,cr bU 3 l2 c1 ob.open_] _ from ?_);refine aK<|al<|an<|ak<|zo rfl (lk (cQ hx hN) rfl)<|aA rfl<|aK<|bf<|bm<|bm<|bm ?_;exact aW (aM (ih (i+1) ({ob with result:=l9}:af) l1 c l2 c1 ((sg 13).h 0).1 ((sg 13).h 0).2 ⟨cP hx,h⟩) (bh J))

theorem M7(b:Nat)(ix:OI)(l:af){R:Bool×af}(h:eW l=some R):fQ aP 87 [tV (aD b 0)] (dm b l ix) (fun _:OI=>ij R.1) (fun j=>Ld b R.2 j):=by
 refine fQ.of Tryz.func87 J J J fun w0 S0=>?_;refine(show CG _ _ _ [bx (rH aN [(1,ai (ix.h 0).1 (ix.h 0).2 l.kinds.length),(2,ai (ix.h 1).1 (ix.h 1).2 l.open_.length)]) 124 b l,gX gH 29 (ix.h 0).1 (ix.h 0).2 l.kinds,cr bU 3 (ix.h 1).1 (ix.h 1).2 l.open_] _ from ?_);refine aq<|zo J (fP)<|ap<|aq<|aA J<|zo J (aR (ht J))<|zo J (fq 3 eX J J J)<|zo J (aV (r:=rH aN [(1,ai (ix.h 0).1 (ix.h 0).2 l.kinds.length),(2,ai (ix.h 1).1 (ix.h 1).2 l.open_.length)]) (x:=l) d3 J J (fy dS) (.head _) (ht J))<|aX (r:=aE) (x:=AW) d3 (fun _=>fh _) J fun b1=>aC d3 J ax J (ht J) (ht J)<|aT 3 J<|ap<|aq<|zo J (bZ lq ff J J)<|zo J (bE bV J J)<|zo J (jL dp J)<|zo J (jB (ht J) hI)<|aA J<|bD J J (fun hg=>bZ kZ fI J J) ?_;refine bD J J (fun hg=>aL qP J J (aI J hg))<|bD J J (fun hg=>bI mO (aI J hg))<|bD J J (fun hg=>jB (aI J hg) hI)<|zo J (ky J J)<|aA J<|bD J J (fun hg=>bZ lq ff J J)<|bD J J (fun hg=>aL bV J J (aI J hg))<|bD J J (fun hg=>bI dp (aI J hg))<|bD J J (fun hg=>bZ kZ fI J J)<|bD J J (fun hg=>aL qP J J (aI J hg))<|bD J J (fun hg=>bI mO (aI J hg))<|bD J J (fun hg=>nF (aI J hg) (aI J hg))<|bD J J (fun hg=>iu (aI J hg) hI)<|zo J (ky J J)<|bu J<|ap<|aq<|aA J<|zo J (aR (ht J))<|zo J (fq 17 ed J J J)<|ci false bU 3<|bT ?_;refine d9 bV J (om (hs' :=[(1,ai (ix.h 0).1 (ix.h 0).2 l.kinds.length),(2,ai (ix.h 1).1 (ix.h 1).2 l.open_.length)]) (iP _ _) ⟨.inr ⟨J,J⟩,.inr ⟨J,J⟩,be⟩ J) J (ht J) (Aq (show ay _ _ _ H2 from q5)) ?_;refine(show RG _ _ _ _ [bx (rH ba [(1,ai (ix.h 0).1 (ix.h 0).2 l.kinds.length),(2,ai (ix.h 1).1 (ix.h 1).2 l.open_.length)]) 124 b (bl l (ai none 0 (mP.length))),cr bU 3 none 0 mP,gX gH 29 (ix.h 0).1 (ix.h 0).2 l.kinds,cr bU 3 (ix.h 1).1 (ix.h 1).2 l.open_] _ from ?_);refine ap<|ae<|aq<|zo J (bZ lq ff J J)<|zo J (bE bV J J)<|zo J (jL dp J)<|zo J (bj hI)<|ap<|av<|aY (k:=40) J fun hN=>bO<|dV<|ej<|ej<|ej ?_;refine aM (pH (Z:=fun ls i ob l1 c l2 c1 l3 c2=>(l.n.Keys.drop i=ls)∧eZ l ls ob=some R) (Of:=fun _ i ob l1 c l2 c1 l3 c2=>[bx (rH ba [(1,ai l1 c ob.kinds.length),(2,ai l2 c1 ob.open_.length)]) 124 b (bl ob (ai l3 c2 ob.result.length)),gX gH 29 l1 c ob.kinds,cr bU 3 l2 c1 ob.open_,cr bU 3 l3 c2 ob.result]) (Gf:=fun _ i ob l1 c l2 c1 l3 c2=>[(0,tV (aD b 0)),(3,bB aE l.n),(4,ij (((decide ((l.n.Keys.length:Int)≤(3:Int)))&&(decide ((l.n.Aggs.length:Int)≤(12:Int))))&&(decide ((0:Int)<(IntKind.i64.wrap ((l.n.Keys.length:Int)+(l.n.Aggs.length:Int))))))),(40,lW l.n.Keys),(41,jt l.n.Keys),(42,cd (i:Int))]) (fun i ob l1 c l2 c1 l3 c2 h=>?_) (fun e tl ih i ob l1 c l2 c1 l3 c2 h=>?_) l.n.Keys 0 ({l with result:=mP}:af) (ix.h 0).1 (ix.h 0).2 (ix.h 1).1 (ix.h 1).2 none 0 ⟨J,h⟩) (bh J)
 ·obtain⟨hx,h⟩:=h
  refine au<|aq<|zo J (fM J J)<|ap<|ae<|bt (ht J) (du hx)<|bn ?_;refine ac (ac (aG ?_));refine an<|ae<|aq<|zo rfl (bZ kZ fI rfl rfl)<|zo rfl (bE qP rfl rfl)<|zo rfl (jL mO rfl)<|zo rfl (bj hI)<|ap<|av<|aY (k:=75) J fun hN1=>bO ?_;refine aM (uj (Z:=fun ls1 i1 ok ob1 l4 c3 l5 c4 l6 c5=>(l.n.Aggs.drop i1=ls1)∧cu ls1 ok ob1=some R) (Of:=fun _ i1 ok ob1 l4 c3 l5 c4 l6 c5=>[bx (rH ba [(1,ai l4 c3 ob1.kinds.length),(2,ai l5 c4 ob1.open_.length)]) 124 b (bl ob1 (ai l6 c5 ob1.result.length)),gX gH 29 l4 c3 ob1.kinds,cr bU 3 l5 c4 ob1.open_,cr bU 3 l6 c5 ob1.result]) (Gf:=fun _ i1 ok ob1 l4 c3 l5 c4 l6 c5=>[(0,tV (aD b 0)),(4,ij ok),(75,fX (cT) l.n.Aggs),(76,jt l.n.Aggs),(77,cd (i1:Int))]) (fun i1 ok ob1 l4 c3 l5 c4 l6 c5 h=>?_) (fun e1 tl1 ih1 i1 ok ob1 l4 c3 l5 c4 l6 c5 h=>?_) l.n.Aggs 0 (((decide ((l.n.Keys.length:Int)≤(3:Int)))&&(decide ((l.n.Aggs.length:Int)≤(12:Int))))&&(decide ((0:Int)<(IntKind.i64.wrap ((l.n.Keys.length:Int)+(l.n.Aggs.length:Int)))))) ob l1 c l2 c1 l3 c2 ⟨J,h⟩) (bh J)
  ·obtain⟨hx1,h⟩:=h
   refine au<|aq<|zo J (fM J J)<|ap<|ae<|bt (ht J) (du hx1)<|bn ?_;refine ac (ac (aG ?_));refine an<|aq<|aA rfl<|bu rfl<|ap<|am<|bm<|bm<|bm<|bm ?_;cases so h;exact cZ J (FJ [(l4,c3),(l5,c4),(l6,c5)]) J J (fun _ _ h=>h)
  ·obtain⟨hx1,h⟩:=h
   refine au<|aq<|zo J (fM J J)<|ap<|ae<|br (ht J) (dn hx1)<|eK<|ae<|av<|aq<|zo J (j8 mO gJ J J J (dB hx1))<|zo J (bE gJ J J)<|aX (r:=cT) (x:=CB) gJ (fun _=>sD _) J fun b2=>aC gJ J ax J (ht J) (ht J)<|aT 8 J<|ap<|aq<|zo J (fg) ?_;refine ap ?_;refine zD (Z:=fun ok1 k=>dM (cu tl1) ob1 ok1 k=some R) (Of:=fun ok1 k=>[bx (rH ba [(1,ai l4 c3 ob1.kinds.length),(2,ai l5 c4 ob1.open_.length)]) 124 b (bl ob1 (ai l6 c5 ob1.result.length)),gX gH 29 l4 c3 ob1.kinds,cr bU 3 l5 c4 ob1.open_,cr bU 3 l6 c5 ob1.result]) (Gf:=fun ok1 k=>[(0,tV (aD b 0)),(4,ij ok1),(9,cd k),(75,fX (cT) l.n.Aggs),(76,jt l.n.Aggs),(77,cd (i1:Int))]) (fun ok1 k h=>?_) (fun K=>?_)
   ·skip
    refine ak<|aA J<|aA J<|zo J (aR (ht J))<|zo J (fq 17 ed J J J)<|zo J (dG bV (fy iX) (.head _) J (ht J))<|aA J<|zo J (bF (r:=bU) (ys:=[k]) (xs:=[.tmp 139]) dp bJ J J J J J ⟨(ht J),be⟩)<|eT<|bP h fun l7 q_l7 h=>dj bJ J J J J dp J J (ht J) (ht J) q_l7 fun l8 c6=>zo J (aR (ht J))<|zo J (fq 17 ed J J J)<|bT<|d9 bV J (om (hs' :=[(1,ai l4 c3 ob1.kinds.length),(2,ai l5 c4 ob1.open_.length)]) (fN _ _ _) ⟨.inr ⟨J,J⟩,.inr ⟨J,J⟩,be⟩ J) J (ht J) (Aq (ht J)) ?_;refine(show RG _ _ _ _ [bx (rH ba [(1,ai l4 c3 ob1.kinds.length),(2,ai l5 c4 ob1.open_.length)]) 124 b (bl ob1 (ai l8 c6 l7.length)),cr bU 3 l8 c6 l7,gX gH 29 l4 c3 ob1.kinds,cr bU 3 l5 c4 ob1.open_] _ from ?_);refine aK<|al<|an<|ak<|zo rfl (lk (cQ hx1 hN1) rfl)<|aA rfl<|aK<|bf<|bm<|bm<|bm ?_;exact aW (aM (ih1 (i1+1) ok1 ({ob1 with result:=l7}:af) l4 c3 l5 c4 l8 c6 ⟨cP hx1,h⟩) (bh J))
   ·skip
    refine aq<|zo J (bZ lF kh J J)<|zo J (bE bJ J J)<|zo J (j6 J)<|ap<|dQ h J (fun h=>?_) (fun h=>?_)
    ·refine ak<|aA J<|aA J<|bD J J (fun hg=>bZ qk pC J J)<|bD J J (fun hg=>cB fv J c9 J (aI J hg))<|bD J J (fun hg=>aL mo J J (aI J hg))<|bD J J (fun hg=>bI jv (aI J hg))<|bD J J (fun hg=>bv (aI J hg) hI)<|zo J (ky J J)<|bu J<|aK ?_;exact cb (K (ok&&((e1.Arg.Nodes.length:Int)==(0:Int))) (2:Int) h) (bh J)
    ·refine ae<|bP h fun r q_r h=>?_
     refine eN (ts:=[_,_,_,_,_,_,_,_,_,_,_,_]) mixed J J
      ⟨iD 8 J J J (bZ qk pC J J),
      ⟨cR 93 0 J J J (bE gj J J),
      ⟨iD 0 J J J (cN J),
      ⟨cR 95 2 J J J (aR (ht J)),
      ⟨cR 96 3 J J J (fq 15 gu J J J),
      ⟨cR 97 4 J J J (aV (r:=rH ba [(1,ai l4 c3 ob1.kinds.length),(2,ai l5 c4 ob1.open_.length)]) (x:=bl ob1 (ai l6 c5 ob1.result.length)) bV J J (fy ia) (.head _) (ht J)),
      ⟨fB 94 1 98 5 J J J J (aO EI (wk _ _ q_r) ⟨(ht J),(ht J),be⟩),
      ⟨cR 99 6 J J J (cN J),
      ⟨cR 92 7 J J J (lv J J),
      ⟨cR 92 7 J J J (lv J J),
      ⟨cR 100 8 J J J (yk J),
      ⟨cR 101 9 J J J (yk J),
      be⟩⟩⟩⟩⟩⟩⟩⟩⟩⟩⟩⟩ ?_
     refine an<|aq<|aA rfl<|aA rfl<|bD rfl rfl (fun hg=>cN J)<|bD J J (fun hg=>bv (aI J hg) hI)<|zo J (ky J J)<|aA J<|bD J J (fun hg=>bZ lF kh J J)<|bD J J (fun hg=>aL bJ J J (aI J hg))<|bD J J (fun hg=>iu (aI J hg) hI)<|zo J (ky J J)<|aA J<|bD J J (fun hg=>bZ lF kh J J)<|bD J J (fun hg=>aL bJ J J (aI J hg))<|bD J J (fun hg=>jB (aI J hg) hI)<|zo J (ky J J)<|bu J<|ap<|aq<|zo J (bZ lF kh J J) ?_;refine zo J (bE bJ J J)<|ap<|av<|aq<|zo J (j6 J)<|bu J<|ap<|dQ h J (fun h=>?_) (fun h=>?_)
     ·refine ak<|aA J<|aA J<|bD J J (fun hg=>cN J)<|bD J J (fun hg=>bv (aI J hg) hI)<|bD J J (fun hg=>bj (aI J hg))<|bW J J J J (fun hg=>cN J)<|bW J J J J (fun hg=>bv (aI J hg) hI)<|bD J J (fun hg=>iJ (aI J hg) (fun hb=>(aI J (oI hg (mR hb)))))<|zo J (ky J J)<|bu J<|aK<|al ?_;exact cb (K ((((ok&&(r.2==(0:Int)))&&(decide ((1:Int)<e1.Tag)))&&(decide (e1.Tag≤(5:Int))))&&((r.1==(2:Int))||(r.1==(0:Int)))) (2:Int) h) (bh J)
     ·refine ge (Z:=fun x=>ga (cu tl1) e1 ok ob1 r x=some R) (Of:=fun x=>[bx (rH ba [(1,ai l4 c3 ob1.kinds.length),(2,ai l5 c4 ob1.open_.length)]) 124 b (bl ob1 (ai l6 c5 ob1.result.length)),gX gH 29 l4 c3 ob1.kinds,cr bU 3 l5 c4 ob1.open_,cr bU 3 l6 c5 ob1.result]) (Gf:=fun x=>[(0,tV (aD b 0)),(4,ij (((ok&&(r.2==(0:Int)))&&(decide ((1:Int)<e1.Tag)))&&(decide (e1.Tag≤(5:Int))))),(9,cd 2),(10,cd r.1),(75,fX (cT) l.n.Aggs),(76,jt l.n.Aggs),(77,cd (i1:Int)),(130,ij x)]) (fun x h=>?_) (fun K1=>?_)
      ·skip
       refine dQ h J (fun h=>?_) (fun h=>?_)
       ·refine ak<|aA J<|bu J<|aK<|al ?_;exact cb (K (((ok&&(r.2==(0:Int)))&&(decide ((1:Int)<e1.Tag)))&&(decide (e1.Tag≤(5:Int)))) r.1 h) (bh J)
       ·refine bC<|al ?_;exact cb (K (((ok&&(r.2==(0:Int)))&&(decide ((1:Int)<e1.Tag)))&&(decide (e1.Tag≤(5:Int)))) (2:Int) h) (bh J)
      ·skip
       refine aq<|zo J (j6 J)<|bu J<|ap<|dQ h J (fun h=>?_) (fun h=>?_)
       ·refine bC ?_;exact cb (K1 (e1.Tag==(4:Int)) h) (bh J)
       ·refine ak<|zo J (j6 J)<|bu J<|aK ?_;exact cb (K1 (e1.Tag==(5:Int)) h) (bh J)
 ·obtain⟨hx,h⟩:=h
  refine au<|aq<|zo J (fM J J)<|ap<|ae<|br (ht J) (dn hx)<|eK<|ae<|av<|aq<|zo J (j8 dp bJ J J J (dB hx))<|zo J (bE bJ J J)<|bu J<|ap<|ae<|aq<|aA J<|zo J (fH (ht J) hI) ?_;refine aA J<|cD J J (fun hg=>cN J)<|cD J J (fun hg=>cN J)<|cD J J (fun hg=>aR (aI J hg))<|cD J J (fun hg=>bA (n:=15) gu J (aI J hg) J)<|cD J J (fun hg=>aV (r:=rH ba [(1,ai l1 c ob.kinds.length),(2,ai l2 c1 ob.open_.length)]) (x:=bl ob (ai l3 c2 ob.result.length)) bV J J (fy ia) (.head _) (aI J hg))<|cD J J (fun hg=>bI dp (aI J hg))<|cD J J (fun hg=>ev (aI J hg) (aI J hg))<|zo J (pn J J)<|ap<|dQ h J (fun h=>?_) (fun h=>?_)
  ·refine aq<|zo J (fP)<|ap<|am ?_;refine aa (aF (aa (aa (aF (aa ?_)))));refine bm<|bm<|bm<|bm ?_;cases so h;exact cZ J (FJ [(l1,c),(l2,c1),(l3,c2)]) J J (fun _ _ h=>h)
  ·refine eK<|bP h fun e2 q_e2 h=>bP h fun l9 q_l9 h=>?_
   refine nB 14 [tc (tV (aD b 0)),tc (tV (aD b 0)),tc (tV (aD b 0)),tc (tV (aD b 17)),tc (n6 l3 c2 ob.result),tc (tV (aD b 0)),tc (tV (aD b 0)),tc (tV (aD b 15)),tc (lW ob.a_),tc (cd e),tc (bB bU e2),tc (cd e2),tc (lW ([e2])),([13],fun s=>tV (ai ((s.getD 0 sa).h 0).1 ((s.getD 0 sa).h 0).2 l9.length))] [false,false,false,false,false,false,false,false,false,false,false,false,false,true] [fun _=>[bx (rH ba [(1,ai l1 c ob.kinds.length),(2,ai l2 c1 ob.open_.length)]) 124 b (bl ob (ai l3 c2 ob.result.length)),gX gH 29 l1 c ob.kinds,cr bU 3 l2 c1 ob.open_,cr bU 3 l3 c2 ob.result],fun sg=>[cr bU 3 ((sg 13).h 0).1 ((sg 13).h 0).2 l9,bx (rH ba [(1,ai l1 c ob.kinds.length),(2,ai l2 c1 ob.open_.length)]) 124 b (bl ob (ai l3 c2 ob.result.length)),gX gH 29 l1 c ob.kinds,cr bU 3 l2 c1 ob.open_]] J mixed J J J J J
    ⟨⟨[⟨0,fun _=>tV (aD b 0),none⟩],_,0,1,J,⟨(fun _=>J),be⟩,J,J,J,J,J,fun _ sg _ _=>ah J (cN J)⟩,
    ⟨⟨[⟨0,fun _=>tV (aD b 0),none⟩],_,0,0,J,⟨(fun _=>J),be⟩,J,J,J,J,J,fun _ sg _ _=>ah J (cN J)⟩,
    ⟨⟨[⟨58,fun _=>tV (aD b 0),some 1⟩],_,0,0,J,⟨(fun _=>J),be⟩,J,J,J,J,J,fun _ sg _ _=>ah J (aR (ht J))⟩,
    ⟨⟨[⟨59,fun _=>tV (aD b 0),some 2⟩],_,0,0,J,⟨(fun _=>J),be⟩,J,J,J,J,J,fun _ sg _ _=>ah J (fq 17 ed J J J)⟩,
    ⟨⟨[⟨60,fun _=>tV (aD b 17),some 3⟩],_,0,0,J,⟨(fun _=>J),be⟩,J,J,J,J,J,oG (fun sg=>ah J (dG bV (fy iX) (.head _) J (ht J)))⟩,
    ⟨⟨[⟨0,fun _=>tV (aD b 0),none⟩],_,0,0,J,⟨(fun _=>J),be⟩,J,J,J,J,J,fun _ sg _ _=>ah J (cN J)⟩,
    ⟨⟨[⟨62,fun _=>tV (aD b 0),some 5⟩],_,0,0,J,⟨(fun _=>J),be⟩,J,J,J,J,J,fun _ sg _ _=>ah J (aR (ht J))⟩,
    ⟨⟨[⟨63,fun _=>tV (aD b 0),some 6⟩],_,0,0,J,⟨(fun _=>J),be⟩,J,J,J,J,J,fun _ sg _ _=>ah J (fq 15 gu J J J)⟩,
    ⟨⟨[⟨64,fun _=>tV (aD b 15),some 7⟩],_,0,0,J,⟨(fun _=>J),be⟩,J,J,J,J,J,oG (fun sg=>ah J (aV (r:=rH ba [(1,ai l1 c ob.kinds.length),(2,ai l2 c1 ob.open_.length)]) (x:=bl ob (ai l3 c2 ob.result.length)) bV J J (fy ia) (.head _) (ht J)))⟩,
    ⟨⟨[⟨6,fun _=>tD bU e,none⟩],_,0,0,J,⟨(fun _=>J),be⟩,J,J,J,J,J,fun _ sg _ _=>ah J (cN J)⟩,
    ⟨⟨[⟨65,fun _=>tD pP ob.a_,some 8⟩,⟨66,fun _=>tD bU e,some 9⟩],_,0,0,J,⟨(fun _=>J),(fun _=>J),be⟩,J,J,J,J,J,fun _ sg _ _=>ah J (j8 dp bJ J J J q_e2)⟩,
    ⟨⟨[⟨67,fun _=>bB bU e2,some 10⟩],_,0,0,J,⟨(fun _=>J),be⟩,J,J,J,J,J,fun _ sg _ _=>ah J (bE bJ J J)⟩,
    ⟨⟨[⟨68,fun _=>tD bU e2,some 11⟩],_,0,0,J,⟨(fun _=>J),be⟩,J,J,J,J,J,fun _ sg _ _=>ah J (bF (r:=bU) (ys:=[e2]) (xs:=[.tmp 68]) dp bJ J J J J J ⟨(ht J),be⟩)⟩,
    ⟨⟨[⟨61,fun _=>tV (ai l3 c2 ob.result.length),some 4⟩,⟨69,fun _=>tD pP ([e2]),some 12⟩],_,J,⟨(fun _=>J),(fun _=>J),be⟩,J,J,J,fun sg=>eJ J (EffOK.fr3 (ri bJ J J J J dp J (ht J) (ht J) q_l9))⟩,
    be⟩⟩⟩⟩⟩⟩⟩⟩⟩⟩⟩⟩⟩⟩ (fun sg=>?_)
   refine(show RG _ _ _ _ [cr bU 3 ((sg 13).h 0).1 ((sg 13).h 0).2 l9,bx (rH ba [(1,ai l1 c ob.kinds.length),(2,ai l2 c1 ob.open_.length)]) 124 b (bl ob (ai l3 c2 ob.result.length)),gX gH 29 l1 c ob.kinds,cr bU 3 l2 c1 ob.open_] _ from ?_);refine zo J (aR (ht J))<|zo J (fq 17 ed J J J)<|bT<|d9 bV J (om (hs' :=[(1,ai l1 c ob.kinds.length),(2,ai l2 c1 ob.open_.length)]) (fN _ _ _) ⟨.inr ⟨J,J⟩,.inr ⟨J,J⟩,be⟩ J) J (ht J) (Aq (ht J)) ?_;refine(show RG _ _ _ _ [bx (rH ba [(1,ai l1 c ob.kinds.length),(2,ai l2 c1 ob.open_.length)]) 124 b (bl ob (ai ((sg 13).h 0).1 ((sg 13).h 0).2 l9.length)),cr bU 3 ((sg 13).h 0).1 ((sg 13).h 0).2 l9,gX gH 29 l1 c ob.kinds,cr bU 3 l2 c1 ob.open_] _ from ?_);refine aK<|al<|an<|ak<|zo rfl (lk (cQ hx hN) rfl)<|aA rfl<|aK<|bf<|bm<|bm<|bm ?_;exact aW (aM (ih (i+1) ({ob with result:=l9}:af) l1 c l2 c1 ((sg 13).h 0).1 ((sg 13).h 0).2 ⟨cP hx,h⟩) (bh J))

end Go.Proofs.YtmogpgcfognefaaGreatDoor

