/- cd of this claim: P2. -/
import Derived.Test.YtmogpgcfognefaaGreatDoorNcT
import Derived.Test.YtmogpgcfognefaaGreatDoorNcP1
set_option linter.all false
namespace Go.Proofs.YtmogpgcfognefaaGreatDoor
open Go
set_option maxRecDepth 100000

theorem FQ(e:bT)(kinds:(List Int)){R:Bool}(h:lu e kinds=some R):aW aM 159 [tD cm e,kC kinds] (gu R):=by
 refine aW.of Tryz.func159 J J J fun w0 S0=>au<|zo J (kZ J)<|zo J (eL)<|ap<|au<|zo J (bw kV J J)<|ax J<|bF h fun r q_r h=>zo J (aJ F1 (xa _ _ q_r) ⟨(ht J),(ht J),be⟩)<|ax J<|zo J (lg J J)<|zo J (lg J J)<|bo J<|bo J<|ap<|au<|ax J<|zo J (jk J) ?_;refine ax J<|bC J J (fun hg=>cz J)<|bC J J (fun hg=>bD (aI J hg) hI)<|bC J J (fun hg=>bg (aI J hg))<|cb J J J J (fun hg=>cz J)<|cb J J J J (fun hg=>bD (aI J hg) hI)<|bC J J (fun hg=>jT (aI J hg) (fun hb=>(aI J (pF hg (mz hb)))))<|zo J (ki J J)<|bo J<|ap<|al ?_;cases so h;exact aB J J

theorem Pq(b:Nat)(ix:OI)(l:af){R:Bool×af}(h:iY l=some R):eV aM 85 [tV (aF b 0)] (dl b l ix) (fun _:OI=>gu R.1) (fun j=>dl b R.2 j):=by
 refine eV.of Tryz.func85 J J J fun w0 S0=>?_;refine(show CG _ _ _ [bx (rH aN [(1,an (ix.h 0).1 (ix.h 0).2 l.kinds.length),(2,an (ix.h 1).1 (ix.h 1).2 l.open_.length)]) 124 b l,fA gr 29 (ix.h 0).1 (ix.h 0).2 l.kinds,cC bV 3 (ix.h 1).1 (ix.h 1).2 l.open_] _ from ?_);refine au<|zo J (eL)<|ap<|ae<|bF h fun r q_r h=>?_
 refine oP 13 (ts:=[tV (aF b 0),tV (aF b 0),tV (aF b 0),tV (aF b 15),kC l.a_,tV (aF b 0),tV (aF b 0),tV (aF b 16),kC l.b,d6 (gr) ([l.a_,l.b]),kC r,tV (aF b 0),tV (aF b 17)]) mixed J J J
  ⟨gF 0 J J J (cz J),
  ⟨gF 0 J J J (cz J),
  ⟨cL 4 1 J J J (aR (ht J)),
  ⟨cL 5 2 J J J (gq 15 gc J J J),
  ⟨cL 6 3 J J J (bk (r:=rH aN [(1,an (ix.h 0).1 (ix.h 0).2 l.kinds.length),(2,an (ix.h 1).1 (ix.h 1).2 l.open_.length)]) (x:=l) bZ J J (fi kN) (.head _) (ht J)),
  ⟨gF 0 J J J (cz J),
  ⟨cL 8 5 J J J (aR (ht J)),
  ⟨cL 9 6 J J J (gq 16 uP J J J),
  ⟨cL 10 7 J J J (bk (r:=rH aN [(1,an (ix.h 0).1 (ix.h 0).2 l.kinds.length),(2,an (ix.h 1).1 (ix.h 1).2 l.open_.length)]) (x:=l) bZ J J (fi AA) (.head _) (ht J)),
  ⟨eu 7 4 11 8 J J J J (ba (r:=rp) (ys:=[l.a_,l.b]) (xs:=[.tmp 7,.tmp 11]) ro bZ J J J J J ⟨(ht J),(ht J),be⟩),
  ⟨cL 12 9 J J J (aJ Qu (Lf _ q_r) ⟨(ht J),be⟩),
  ⟨cL 3 0 J J J (aR (ht J)),
  ⟨cL 14 11 J J J (gq 17 dZ J J J),
  be⟩⟩⟩⟩⟩⟩⟩⟩⟩⟩⟩⟩⟩ ?_
 refine ll (gD bZ J (rA (hs' :=[(1,an (ix.h 0).1 (ix.h 0).2 l.kinds.length),(2,an (ix.h 1).1 (ix.h 1).2 l.open_.length)]) nY ⟨.inr ⟨J,J⟩,.inr ⟨J,J⟩,be⟩ J) J (ht J) (ht J)) (fun i=>?_);refine(show RG _ _ _ _ [bx (rH aN [(1,an (ix.h 0).1 (ix.h 0).2 l.kinds.length),(2,an (ix.h 1).1 (ix.h 1).2 l.open_.length)]) 124 b ({l with result:=r}:af),fA gr 29 (ix.h 0).1 (ix.h 0).2 l.kinds,cC bV 3 (ix.h 1).1 (ix.h 1).2 l.open_] _ from ?_);refine ap<|ae<|bF h fun r1 q_r1 h=>?_
 refine eb (ts:=[_,_,_,_,_,_,_,_,_,_,_]) mixed J J
  ⟨gF 0 J J J (cz J),
  ⟨cL 16 0 J J J (aR (ht J)),
  ⟨cL 17 1 J J J (gq 3 eU J J J),
  ⟨cL 18 2 J J J (gq 9 yJ J J J),
  ⟨cL 19 3 J J J (bk (r:=rH aN [(1,an (ix.h 0).1 (ix.h 0).2 l.kinds.length),(2,an (ix.h 1).1 (ix.h 1).2 l.open_.length)]) (x:=({l with result:=r}:af)) kV J J (fi (eP dL oI)) (.head _) (ht J)),
  ⟨gF 0 J J J (cz J),
  ⟨cL 21 5 J J J (aR (ht J)),
  ⟨cL 22 6 J J J (gq 17 dZ J J J),
  ⟨cL 23 7 J J J (bk (r:=rH aN [(1,an (ix.h 0).1 (ix.h 0).2 l.kinds.length),(2,an (ix.h 1).1 (ix.h 1).2 l.open_.length)]) (x:=({l with result:=r}:af)) bZ J J (fi vD) (.head _) (ht J)),
  ⟨eu 20 4 24 8 J J J J (aJ Mr (FQ _ _ q_r1) ⟨(ht J),(ht J),be⟩),
  ⟨cL 25 9 J J J (xx J),
  be⟩⟩⟩⟩⟩⟩⟩⟩⟩⟩⟩ ?_
 refine am<|al<|aK<|aK<|aK ?_;cases so h;exact cX J ix J J (fun _ _ h=>h)

theorem Pp(b:Nat)(ix:OI)(l:af){R:Bool×af}(h:gS l=some R):eV aM 86 [tV (aF b 0)] (dl b l ix) (fun _:OI=>gu R.1) (fun j=>dl b R.2 j):=by
 refine eV.of Tryz.func86 J J J fun w0 S0=>?_;refine(show CG _ _ _ [bx (rH aN [(1,an (ix.h 0).1 (ix.h 0).2 l.kinds.length),(2,an (ix.h 1).1 (ix.h 1).2 l.open_.length)]) 124 b l,fA gr 29 (ix.h 0).1 (ix.h 0).2 l.kinds,cC bV 3 (ix.h 1).1 (ix.h 1).2 l.open_] _ from ?_);refine au<|zo J (eL)<|ap<|au<|ax J<|ax J<|zo J (aR (ht J))<|zo J (gq 15 gc J J J)<|zo J (bk (r:=rH aN [(1,an (ix.h 0).1 (ix.h 0).2 l.kinds.length),(2,an (ix.h 1).1 (ix.h 1).2 l.open_.length)]) (x:=l) bZ J J (fi kN) (.head _) (ht J))<|zo J (aR (ht J))<|zo J (gq 17 dZ J J J)<|ll (gD bZ J (rA (hs' :=[(1,an (ix.h 0).1 (ix.h 0).2 l.kinds.length),(2,an (ix.h 1).1 (ix.h 1).2 l.open_.length)]) nY ⟨.inr ⟨J,J⟩,.inr ⟨J,J⟩,be⟩ J) J (ht J) (ht J)) fun i=>?_;refine(show RG _ _ _ _ [bx (rH aN [(1,an (ix.h 0).1 (ix.h 0).2 l.kinds.length),(2,an (ix.h 1).1 (ix.h 1).2 l.open_.length)]) 124 b ({l with result:=l.a_}:af),fA gr 29 (ix.h 0).1 (ix.h 0).2 l.kinds,cC bV 3 (ix.h 1).1 (ix.h 1).2 l.open_] _ from ?_);refine ap<|ae<|bF h fun r q_r h=>?_
 refine eb (ts:=[_,_,_,_,_,_,_,_,_,_,_]) mixed J J
  ⟨gF 0 J J J (cz J),
  ⟨cL 10 0 J J J (aR (ht J)),
  ⟨cL 11 1 J J J (gq 3 eU J J J),
  ⟨cL 12 2 J J J (gq 9 yJ J J J),
  ⟨cL 13 3 J J J (bk (r:=rH aN [(1,an (ix.h 0).1 (ix.h 0).2 l.kinds.length),(2,an (ix.h 1).1 (ix.h 1).2 l.open_.length)]) (x:=({l with result:=l.a_}:af)) kV J J (fi (eP dL oI)) (.head _) (ht J)),
  ⟨gF 0 J J J (cz J),
  ⟨cL 15 5 J J J (aR (ht J)),
  ⟨cL 16 6 J J J (gq 15 gc J J J),
  ⟨cL 17 7 J J J (bk (r:=rH aN [(1,an (ix.h 0).1 (ix.h 0).2 l.kinds.length),(2,an (ix.h 1).1 (ix.h 1).2 l.open_.length)]) (x:=({l with result:=l.a_}:af)) bZ J J (fi kN) (.head _) (ht J)),
  ⟨eu 14 4 18 8 J J J J (aJ Mr (FQ _ _ q_r) ⟨(ht J),(ht J),be⟩),
  ⟨cL 19 9 J J J (xx J),
  be⟩⟩⟩⟩⟩⟩⟩⟩⟩⟩⟩ ?_
 refine am<|al<|aK<|aK<|aK ?_;cases so h;exact cX J ix J J (fun _ _ h=>h)

theorem Po(b:Nat)(ix:OI)(l:af){R:Bool×af}(h:eS l=some R):eV aM 87 [tV (aF b 0)] (dl b l ix) (fun _:OI=>gu R.1) (fun j=>dl b R.2 j):=by
 refine eV.of Tryz.func87 J J J fun w0 S0=>?_;refine(show CG _ _ _ [bx (rH aN [(1,an (ix.h 0).1 (ix.h 0).2 l.kinds.length),(2,an (ix.h 1).1 (ix.h 1).2 l.open_.length)]) 124 b l,fA gr 29 (ix.h 0).1 (ix.h 0).2 l.kinds,cC bV 3 (ix.h 1).1 (ix.h 1).2 l.open_] _ from ?_);refine au<|zo J (eL)<|ap<|au<|ax J<|zo J (aR (ht J))<|zo J (gq 3 eU J J J)<|zo J (bk (r:=rH aN [(1,an (ix.h 0).1 (ix.h 0).2 l.kinds.length),(2,an (ix.h 1).1 (ix.h 1).2 l.open_.length)]) (x:=l) eM J J (fi dL) (.head _) (ht J))<|bc (r:=aS) (x:=Ck) eM (fun _=>eK _) J fun b1=>aE eM J ay J (ht J) (ht J)<|aV 3 J<|ap<|au<|zo J (bY mg fv J J)<|zo J (bw bZ J J)<|zo J (gJ dd J)<|zo J (hU (ht J) hI)<|ax J<|bC J J (fun hg=>bY mV fU J J) ?_;refine bC J J (fun hg=>aL vl J J (aI J hg))<|bC J J (fun hg=>bR pJ (aI J hg))<|bC J J (fun hg=>hU (aI J hg) hI)<|zo J (ki J J)<|ax J<|bC J J (fun hg=>bY mg fv J J)<|bC J J (fun hg=>aL bZ J J (aI J hg))<|bC J J (fun hg=>bR dd (aI J hg))<|bC J J (fun hg=>bY mV fU J J)<|bC J J (fun hg=>aL vl J J (aI J hg))<|bC J J (fun hg=>bR pJ (aI J hg))<|bC J J (fun hg=>kw (aI J hg) (aI J hg))<|bC J J (fun hg=>fG (aI J hg) hI)<|zo J (ki J J)<|bo J<|ap<|au<|ax J<|zo J (aR (ht J))<|zo J (gq 17 dZ J J J)<|ci false bV 3<|ca ?_;refine fy bZ J (om (hs' :=[(1,an (ix.h 0).1 (ix.h 0).2 l.kinds.length),(2,an (ix.h 1).1 (ix.h 1).2 l.open_.length)]) (iw _ _) ⟨.inr ⟨J,J⟩,.inr ⟨J,J⟩,be⟩ J) J (ht J) (DL (show aw _ _ _ JG from rQ)) ?_;refine(show RG _ _ _ _ [bx (rH bl [(1,an (ix.h 0).1 (ix.h 0).2 l.kinds.length),(2,an (ix.h 1).1 (ix.h 1).2 l.open_.length)]) 124 b (bq l (an none 0 (lS.length))),cC bV 3 none 0 lS,fA gr 29 (ix.h 0).1 (ix.h 0).2 l.kinds,cC bV 3 (ix.h 1).1 (ix.h 1).2 l.open_] _ from ?_);refine ap<|ae<|au<|zo J (bY mg fv J J)<|zo J (bw bZ J J)<|zo J (gJ dd J)<|zo J (bg hI)<|ap<|av<|aP (k:=40) J fun hN=>bu<|fe<|er<|er<|er ?_;refine aG (qb (Z:=fun ls i ob l1 c l2 c1 l3 c2=>(l.n.Keys.drop i=ls)∧eX l ls ob=some R) (Of:=fun _ i ob l1 c l2 c1 l3 c2=>[bx (rH bl [(1,an l1 c ob.kinds.length),(2,an l2 c1 ob.open_.length)]) 124 b (bq ob (an l3 c2 ob.result.length)),fA gr 29 l1 c ob.kinds,cC bV 3 l2 c1 ob.open_,cC bV 3 l3 c2 ob.result]) (Gf:=fun _ i ob l1 c l2 c1 l3 c2=>[(0,tV (aF b 0)),(3,bp aS l.n),(4,gu (((decide ((l.n.Keys.length:Int)≤(3:Int)))&&(decide ((l.n.Aggs.length:Int)≤(12:Int))))&&(decide ((0:Int)<(IntKind.i64.wrap ((l.n.Keys.length:Int)+(l.n.Aggs.length:Int))))))),(40,kC l.n.Keys),(41,gR l.n.Keys),(42,bQ (i:Int))]) (fun i ob l1 c l2 c1 l3 c2 h=>?_) (fun e tl ih i ob l1 c l2 c1 l3 c2 h=>?_) l.n.Keys 0 ({l with result:=lS}:af) (ix.h 0).1 (ix.h 0).2 (ix.h 1).1 (ix.h 1).2 none 0 ⟨J,h⟩) (aX J)
 ·obtain⟨hx,h⟩:=h
  refine aq<|au<|zo J (eD J J)<|ap<|ae<|bn (ht J) (cW hx)<|aY ?_;refine ac (ac (aC ?_));refine am<|ae<|au<|zo rfl (bY mV fU rfl rfl)<|zo rfl (bw vl rfl rfl)<|zo rfl (gJ pJ rfl)<|zo rfl (bg hI)<|ap<|av<|aP (k:=75) J fun hN1=>bu ?_;refine aG (u7 (Z:=fun ls1 i1 ok ob1 l4 c3 l5 c4 l6 c5=>(l.n.Aggs.drop i1=ls1)∧cn ls1 ok ob1=some R) (Of:=fun _ i1 ok ob1 l4 c3 l5 c4 l6 c5=>[bx (rH bl [(1,an l4 c3 ob1.kinds.length),(2,an l5 c4 ob1.open_.length)]) 124 b (bq ob1 (an l6 c5 ob1.result.length)),fA gr 29 l4 c3 ob1.kinds,cC bV 3 l5 c4 ob1.open_,cC bV 3 l6 c5 ob1.result]) (Gf:=fun _ i1 ok ob1 l4 c3 l5 c4 l6 c5=>[(0,tV (aF b 0)),(4,gu ok),(75,d6 (fu) l.n.Aggs),(76,gR l.n.Aggs),(77,bQ (i1:Int))]) (fun i1 ok ob1 l4 c3 l5 c4 l6 c5 h=>?_) (fun e1 tl1 ih1 i1 ok ob1 l4 c3 l5 c4 l6 c5 h=>?_) l.n.Aggs 0 (((decide ((l.n.Keys.length:Int)≤(3:Int)))&&(decide ((l.n.Aggs.length:Int)≤(12:Int))))&&(decide ((0:Int)<(IntKind.i64.wrap ((l.n.Keys.length:Int)+(l.n.Aggs.length:Int)))))) ob l1 c l2 c1 l3 c2 ⟨J,h⟩) (aX J)
  ·obtain⟨hx1,h⟩:=h
   refine aq<|au<|zo J (eD J J)<|ap<|ae<|bn (ht J) (cW hx1)<|aY ?_;refine ac (ac (aC ?_));refine am<|au<|ax rfl<|bo rfl<|ap<|al<|bA<|gy<|br<|pH (r' :=rH aN [(1,an l4 c3 ob1.kinds.length),(2,an l5 c4 ob1.open_.length)]) (x' :=ob1) (fun _ _ _ ho h=>LM h (fun h=>fx (kc ho (.head _)) h))<|br<|bv<|aK<|aK<|aK ?_;cases so h;exact cX J (G7 [(l4,c3),(l5,c4)]) J J (fun _ _ h=>h)
  ·obtain⟨hx1,h⟩:=h
   refine aq<|au<|zo J (eD J J)<|ap<|ae<|bm (ht J) (cR hx1)<|dz<|ae<|av<|au<|zo J (im pJ jo J J J (cS hx1))<|zo J (bw jo J J)<|bc (r:=fu) (x:=Gq) jo (fun _=>vj _) J fun b2=>aE jo J ay J (ht J) (ht J)<|aV 8 J<|ap<|au<|zo J (dA) ?_;refine ap ?_;refine AS (Z:=fun ok1 k=>dF (cn tl1) ob1 ok1 k=some R) (Of:=fun ok1 k=>[bx (rH bl [(1,an l4 c3 ob1.kinds.length),(2,an l5 c4 ob1.open_.length)]) 124 b (bq ob1 (an l6 c5 ob1.result.length)),fA gr 29 l4 c3 ob1.kinds,cC bV 3 l5 c4 ob1.open_,cC bV 3 l6 c5 ob1.result]) (Gf:=fun ok1 k=>[(0,tV (aF b 0)),(4,gu ok1),(9,bQ k),(75,d6 (fu) l.n.Aggs),(76,gR l.n.Aggs),(77,bQ (i1:Int))]) (fun ok1 k h=>?_) (fun K=>?_)
   ·skip
    refine ai<|ax J<|ax J<|zo J (aR (ht J))<|zo J (gq 17 dZ J J J)<|zo J (fC bZ (fi iD) (.head _) J (ht J))<|ax J<|zo J (ba (r:=bV) (ys:=[k]) (xs:=[.tmp 139]) dd bK J J J J J ⟨(ht J),be⟩)<|fW<|bF h fun l7 q_l7 h=>dv bK J J J J dd J J (ht J) (ht J) q_l7 fun l8 c6=>zo J (aR (ht J))<|zo J (gq 17 dZ J J J)<|ca<|fy bZ J (om (hs' :=[(1,an l4 c3 ob1.kinds.length),(2,an l5 c4 ob1.open_.length)]) (fB _ _ _) ⟨.inr ⟨J,J⟩,.inr ⟨J,J⟩,be⟩ J) J (ht J) (DL (ht J)) ?_;refine(show RG _ _ _ _ [bx (rH bl [(1,an l4 c3 ob1.kinds.length),(2,an l5 c4 ob1.open_.length)]) 124 b (bq ob1 (an l8 c6 l7.length)),cC bV 3 l8 c6 l7,fA gr 29 l4 c3 ob1.kinds,cC bV 3 l5 c4 ob1.open_] _ from ?_);refine aH<|ak<|am<|ai<|zo rfl (jN (cy hx1 hN1) rfl)<|ax rfl<|aH<|br<|bA<|bA<|bA ?_;exact aO (aG (ih1 (i1+1) ok1 ({ob1 with result:=l7}:af) l4 c3 l5 c4 l8 c6 ⟨cx hx1,h⟩) (aX J))
   ·skip
    refine au<|zo J (bY lj jM J J)<|zo J (bw bK J J)<|zo J (jk J)<|ap<|dh h J (fun h=>?_) (fun h=>?_)
    ·refine ai<|ax J<|ax J<|bC J J (fun hg=>bY uQ rU J J)<|bC J J (fun hg=>cI fV J dj J (aI J hg))<|bC J J (fun hg=>aL mJ J J (aI J hg))<|bC J J (fun hg=>bR kE (aI J hg))<|bC J J (fun hg=>bD (aI J hg) hI)<|zo J (ki J J)<|bo J<|aH ?_;exact bX (K (ok&&((e1.Arg.Nodes.length:Int)==(0:Int))) (2:Int) h) (aX J)
    ·refine ae<|bF h fun r q_r h=>?_
     refine eb (ts:=[_,_,_,_,_,_,_,_,_,_,_,_]) mixed J J
      ⟨gF 8 J J J (bY uQ rU J J),
      ⟨cL 93 0 J J J (bw kV J J),
      ⟨gF 0 J J J (cz J),
      ⟨cL 95 2 J J J (aR (ht J)),
      ⟨cL 96 3 J J J (gq 15 gc J J J),
      ⟨cL 97 4 J J J (bk (r:=rH bl [(1,an l4 c3 ob1.kinds.length),(2,an l5 c4 ob1.open_.length)]) (x:=bq ob1 (an l6 c5 ob1.result.length)) bZ J J (fi gP) (.head _) (ht J)),
      ⟨eu 94 1 98 5 J J J J (aJ F1 (xa _ _ q_r) ⟨(ht J),(ht J),be⟩),
      ⟨cL 99 6 J J J (cz J),
      ⟨cL 92 7 J J J (lg J J),
      ⟨cL 92 7 J J J (lg J J),
      ⟨cL 100 8 J J J (xx J),
      ⟨cL 101 9 J J J (xx J),
      be⟩⟩⟩⟩⟩⟩⟩⟩⟩⟩⟩⟩ ?_
     refine am<|au<|ax rfl<|ax rfl<|bC rfl rfl (fun hg=>cz J)<|bC J J (fun hg=>bD (aI J hg) hI)<|zo J (ki J J)<|ax J<|bC J J (fun hg=>bY lj jM J J)<|bC J J (fun hg=>aL bK J J (aI J hg))<|bC J J (fun hg=>fG (aI J hg) hI)<|zo J (ki J J)<|ax J<|bC J J (fun hg=>bY lj jM J J)<|bC J J (fun hg=>aL bK J J (aI J hg))<|bC J J (fun hg=>hU (aI J hg) hI)<|zo J (ki J J)<|bo J<|ap<|au<|zo J (bY lj jM J J) ?_;refine zo J (bw bK J J)<|ap<|av<|au<|zo J (jk J)<|bo J<|ap<|dh h J (fun h=>?_) (fun h=>?_)
     ·refine ai<|ax J<|ax J<|bC J J (fun hg=>cz J)<|bC J J (fun hg=>bD (aI J hg) hI)<|bC J J (fun hg=>bg (aI J hg))<|cb J J J J (fun hg=>cz J)<|cb J J J J (fun hg=>bD (aI J hg) hI)<|bC J J (fun hg=>jT (aI J hg) (fun hb=>(aI J (pF hg (mz hb)))))<|zo J (ki J J)<|bo J<|aH<|ak ?_;exact bX (K ((((ok&&(r.2==(0:Int)))&&(decide ((1:Int)<e1.Tag)))&&(decide (e1.Tag≤(5:Int))))&&((r.1==(2:Int))||(r.1==(0:Int)))) (2:Int) h) (aX J)
     ·refine fX (Z:=fun x=>fQ (cn tl1) e1 ok ob1 r x=some R) (Of:=fun x=>[bx (rH bl [(1,an l4 c3 ob1.kinds.length),(2,an l5 c4 ob1.open_.length)]) 124 b (bq ob1 (an l6 c5 ob1.result.length)),fA gr 29 l4 c3 ob1.kinds,cC bV 3 l5 c4 ob1.open_,cC bV 3 l6 c5 ob1.result]) (Gf:=fun x=>[(0,tV (aF b 0)),(4,gu (((ok&&(r.2==(0:Int)))&&(decide ((1:Int)<e1.Tag)))&&(decide (e1.Tag≤(5:Int))))),(9,bQ 2),(10,bQ r.1),(75,d6 (fu) l.n.Aggs),(76,gR l.n.Aggs),(77,bQ (i1:Int)),(130,gu x)]) (fun x h=>?_) (fun K1=>?_)
      ·skip
       refine dh h J (fun h=>?_) (fun h=>?_)
       ·refine ai<|ax J<|bo J<|aH<|ak ?_;exact bX (K (((ok&&(r.2==(0:Int)))&&(decide ((1:Int)<e1.Tag)))&&(decide (e1.Tag≤(5:Int)))) r.1 h) (aX J)
       ·refine bt<|ak ?_;exact bX (K (((ok&&(r.2==(0:Int)))&&(decide ((1:Int)<e1.Tag)))&&(decide (e1.Tag≤(5:Int)))) (2:Int) h) (aX J)
      ·skip
       refine au<|zo J (jk J)<|bo J<|ap<|dh h J (fun h=>?_) (fun h=>?_)
       ·refine bt ?_;exact bX (K1 (e1.Tag==(4:Int)) h) (aX J)
       ·refine ai<|zo J (jk J)<|bo J<|aH ?_;exact bX (K1 (e1.Tag==(5:Int)) h) (aX J)
 ·obtain⟨hx,h⟩:=h
  refine aq<|au<|zo J (eD J J)<|ap<|ae<|bm (ht J) (cR hx)<|dz<|ae<|av<|au<|zo J (im dd bK J J J (cS hx))<|zo J (bw bK J J)<|bo J<|ap<|ae<|au<|ax J<|zo J (ep (ht J) hI) ?_;refine ax J<|cw J J (fun hg=>cz J)<|cw J J (fun hg=>cz J)<|cw J J (fun hg=>aR (aI J hg))<|cw J J (fun hg=>bz (n:=15) gc J (aI J hg) J)<|cw J J (fun hg=>bk (r:=rH bl [(1,an l1 c ob.kinds.length),(2,an l2 c1 ob.open_.length)]) (x:=bq ob (an l3 c2 ob.result.length)) bZ J J (fi gP) (.head _) (aI J hg))<|cw J J (fun hg=>bR dd (aI J hg))<|cw J J (fun hg=>dG (aI J hg) (aI J hg))<|zo J (oQ J J)<|ap<|dh h J (fun h=>?_) (fun h=>?_)
  ·refine au<|zo J (eL)<|ap<|al ?_;refine aa (aA (aa (aa (aA (aa ?_)))));refine bA<|gy<|br<|pH (r' :=rH aN [(1,an l1 c ob.kinds.length),(2,an l2 c1 ob.open_.length)]) (x' :=ob) (fun _ _ _ ho h=>LM h (fun h=>fx (kc ho (.head _)) h))<|br<|bv<|aK<|aK<|aK ?_;cases so h;exact cX J (G7 [(l1,c),(l2,c1)]) J J (fun _ _ h=>h)
  ·refine dz<|bF h fun e2 q_e2 h=>bF h fun l9 q_l9 h=>?_
   refine mt 14 [tc (tV (aF b 0)),tc (tV (aF b 0)),tc (tV (aF b 0)),tc (tV (aF b 17)),tc (nJ l3 c2 ob.result),tc (tV (aF b 0)),tc (tV (aF b 0)),tc (tV (aF b 15)),tc (kC ob.a_),tc (bQ e),tc (bp bV e2),tc (bQ e2),tc (kC ([e2])),([13],fun s=>tV (an ((s.getD 0 sR).h 0).1 ((s.getD 0 sR).h 0).2 l9.length))] [false,false,false,false,false,false,false,false,false,false,false,false,false,true] [fun _=>[bx (rH bl [(1,an l1 c ob.kinds.length),(2,an l2 c1 ob.open_.length)]) 124 b (bq ob (an l3 c2 ob.result.length)),fA gr 29 l1 c ob.kinds,cC bV 3 l2 c1 ob.open_,cC bV 3 l3 c2 ob.result],fun sg=>[cC bV 3 ((sg 13).h 0).1 ((sg 13).h 0).2 l9,bx (rH bl [(1,an l1 c ob.kinds.length),(2,an l2 c1 ob.open_.length)]) 124 b (bq ob (an l3 c2 ob.result.length)),fA gr 29 l1 c ob.kinds,cC bV 3 l2 c1 ob.open_]] J mixed J J J J J
    ⟨⟨[⟨0,fun _=>tV (aF b 0),none⟩],_,0,1,J,⟨(fun _=>J),be⟩,J,J,J,J,J,fun _ sg _ _=>ah J (cz J)⟩,
    ⟨⟨[⟨0,fun _=>tV (aF b 0),none⟩],_,0,0,J,⟨(fun _=>J),be⟩,J,J,J,J,J,fun _ sg _ _=>ah J (cz J)⟩,
    ⟨⟨[⟨58,fun _=>tV (aF b 0),some 1⟩],_,0,0,J,⟨(fun _=>J),be⟩,J,J,J,J,J,fun _ sg _ _=>ah J (aR (ht J))⟩,
    ⟨⟨[⟨59,fun _=>tV (aF b 0),some 2⟩],_,0,0,J,⟨(fun _=>J),be⟩,J,J,J,J,J,fun _ sg _ _=>ah J (gq 17 dZ J J J)⟩,
    ⟨⟨[⟨60,fun _=>tV (aF b 17),some 3⟩],_,0,0,J,⟨(fun _=>J),be⟩,J,J,J,J,J,rr (fun sg=>ah J (fC bZ (fi iD) (.head _) J (ht J)))⟩,
    ⟨⟨[⟨0,fun _=>tV (aF b 0),none⟩],_,0,0,J,⟨(fun _=>J),be⟩,J,J,J,J,J,fun _ sg _ _=>ah J (cz J)⟩,
    ⟨⟨[⟨62,fun _=>tV (aF b 0),some 5⟩],_,0,0,J,⟨(fun _=>J),be⟩,J,J,J,J,J,fun _ sg _ _=>ah J (aR (ht J))⟩,
    ⟨⟨[⟨63,fun _=>tV (aF b 0),some 6⟩],_,0,0,J,⟨(fun _=>J),be⟩,J,J,J,J,J,fun _ sg _ _=>ah J (gq 15 gc J J J)⟩,
    ⟨⟨[⟨64,fun _=>tV (aF b 15),some 7⟩],_,0,0,J,⟨(fun _=>J),be⟩,J,J,J,J,J,rr (fun sg=>ah J (bk (r:=rH bl [(1,an l1 c ob.kinds.length),(2,an l2 c1 ob.open_.length)]) (x:=bq ob (an l3 c2 ob.result.length)) bZ J J (fi gP) (.head _) (ht J)))⟩,
    ⟨⟨[⟨6,fun _=>tD bV e,none⟩],_,0,0,J,⟨(fun _=>J),be⟩,J,J,J,J,J,fun _ sg _ _=>ah J (cz J)⟩,
    ⟨⟨[⟨65,fun _=>tD rp ob.a_,some 8⟩,⟨66,fun _=>tD bV e,some 9⟩],_,0,0,J,⟨(fun _=>J),(fun _=>J),be⟩,J,J,J,J,J,fun _ sg _ _=>ah J (im dd bK J J J q_e2)⟩,
    ⟨⟨[⟨67,fun _=>bp bV e2,some 10⟩],_,0,0,J,⟨(fun _=>J),be⟩,J,J,J,J,J,fun _ sg _ _=>ah J (bw bK J J)⟩,
    ⟨⟨[⟨68,fun _=>tD bV e2,some 11⟩],_,0,0,J,⟨(fun _=>J),be⟩,J,J,J,J,J,fun _ sg _ _=>ah J (ba (r:=bV) (ys:=[e2]) (xs:=[.tmp 68]) dd bK J J J J J ⟨(ht J),be⟩)⟩,
    ⟨⟨[⟨61,fun _=>tV (an l3 c2 ob.result.length),some 4⟩,⟨69,fun _=>tD rp ([e2]),some 12⟩],_,J,⟨(fun _=>J),(fun _=>J),be⟩,J,J,J,fun sg=>eG J (EffOK.fr3 (r8 bK J J J J dd J (ht J) (ht J) q_l9))⟩,
    be⟩⟩⟩⟩⟩⟩⟩⟩⟩⟩⟩⟩⟩⟩ (fun sg=>?_)
   refine(show RG _ _ _ _ [cC bV 3 ((sg 13).h 0).1 ((sg 13).h 0).2 l9,bx (rH bl [(1,an l1 c ob.kinds.length),(2,an l2 c1 ob.open_.length)]) 124 b (bq ob (an l3 c2 ob.result.length)),fA gr 29 l1 c ob.kinds,cC bV 3 l2 c1 ob.open_] _ from ?_);refine zo J (aR (ht J))<|zo J (gq 17 dZ J J J)<|ca<|fy bZ J (om (hs' :=[(1,an l1 c ob.kinds.length),(2,an l2 c1 ob.open_.length)]) (fB _ _ _) ⟨.inr ⟨J,J⟩,.inr ⟨J,J⟩,be⟩ J) J (ht J) (DL (ht J)) ?_;refine(show RG _ _ _ _ [bx (rH bl [(1,an l1 c ob.kinds.length),(2,an l2 c1 ob.open_.length)]) 124 b (bq ob (an ((sg 13).h 0).1 ((sg 13).h 0).2 l9.length)),cC bV 3 ((sg 13).h 0).1 ((sg 13).h 0).2 l9,fA gr 29 l1 c ob.kinds,cC bV 3 l2 c1 ob.open_] _ from ?_);refine aH<|ak<|am<|ai<|zo rfl (jN (cy hx hN) rfl)<|ax rfl<|aH<|br<|bA<|bA<|bA ?_;exact aO (aG (ih (i+1) ({ob with result:=l9}:af) l1 c l2 c1 ((sg 13).h 0).1 ((sg 13).h 0).2 ⟨cx hx,h⟩) (aX J))

theorem Pn(b:Nat)(ix:OI)(l:af){R:Bool×af}(h:eS l=some R):eV aM 87 [tV (aF b 0)] (dl b l ix) (fun _:OI=>gu R.1) (fun j=>M9 b R.2 j):=by
 refine eV.of Tryz.func87 J J J fun w0 S0=>?_;refine(show CG _ _ _ [bx (rH aN [(1,an (ix.h 0).1 (ix.h 0).2 l.kinds.length),(2,an (ix.h 1).1 (ix.h 1).2 l.open_.length)]) 124 b l,fA gr 29 (ix.h 0).1 (ix.h 0).2 l.kinds,cC bV 3 (ix.h 1).1 (ix.h 1).2 l.open_] _ from ?_);refine au<|zo J (eL)<|ap<|au<|ax J<|zo J (aR (ht J))<|zo J (gq 3 eU J J J)<|zo J (bk (r:=rH aN [(1,an (ix.h 0).1 (ix.h 0).2 l.kinds.length),(2,an (ix.h 1).1 (ix.h 1).2 l.open_.length)]) (x:=l) eM J J (fi dL) (.head _) (ht J))<|bc (r:=aS) (x:=Ck) eM (fun _=>eK _) J fun b1=>aE eM J ay J (ht J) (ht J)<|aV 3 J<|ap<|au<|zo J (bY mg fv J J)<|zo J (bw bZ J J)<|zo J (gJ dd J)<|zo J (hU (ht J) hI)<|ax J<|bC J J (fun hg=>bY mV fU J J) ?_;refine bC J J (fun hg=>aL vl J J (aI J hg))<|bC J J (fun hg=>bR pJ (aI J hg))<|bC J J (fun hg=>hU (aI J hg) hI)<|zo J (ki J J)<|ax J<|bC J J (fun hg=>bY mg fv J J)<|bC J J (fun hg=>aL bZ J J (aI J hg))<|bC J J (fun hg=>bR dd (aI J hg))<|bC J J (fun hg=>bY mV fU J J)<|bC J J (fun hg=>aL vl J J (aI J hg))<|bC J J (fun hg=>bR pJ (aI J hg))<|bC J J (fun hg=>kw (aI J hg) (aI J hg))<|bC J J (fun hg=>fG (aI J hg) hI)<|zo J (ki J J)<|bo J<|ap<|au<|ax J<|zo J (aR (ht J))<|zo J (gq 17 dZ J J J)<|ci false bV 3<|ca ?_;refine fy bZ J (om (hs' :=[(1,an (ix.h 0).1 (ix.h 0).2 l.kinds.length),(2,an (ix.h 1).1 (ix.h 1).2 l.open_.length)]) (iw _ _) ⟨.inr ⟨J,J⟩,.inr ⟨J,J⟩,be⟩ J) J (ht J) (DL (show aw _ _ _ JG from rQ)) ?_;refine(show RG _ _ _ _ [bx (rH bl [(1,an (ix.h 0).1 (ix.h 0).2 l.kinds.length),(2,an (ix.h 1).1 (ix.h 1).2 l.open_.length)]) 124 b (bq l (an none 0 (lS.length))),cC bV 3 none 0 lS,fA gr 29 (ix.h 0).1 (ix.h 0).2 l.kinds,cC bV 3 (ix.h 1).1 (ix.h 1).2 l.open_] _ from ?_);refine ap<|ae<|au<|zo J (bY mg fv J J)<|zo J (bw bZ J J)<|zo J (gJ dd J)<|zo J (bg hI)<|ap<|av<|aP (k:=40) J fun hN=>bu<|fe<|er<|er<|er ?_;refine aG (qb (Z:=fun ls i ob l1 c l2 c1 l3 c2=>(l.n.Keys.drop i=ls)∧eX l ls ob=some R) (Of:=fun _ i ob l1 c l2 c1 l3 c2=>[bx (rH bl [(1,an l1 c ob.kinds.length),(2,an l2 c1 ob.open_.length)]) 124 b (bq ob (an l3 c2 ob.result.length)),fA gr 29 l1 c ob.kinds,cC bV 3 l2 c1 ob.open_,cC bV 3 l3 c2 ob.result]) (Gf:=fun _ i ob l1 c l2 c1 l3 c2=>[(0,tV (aF b 0)),(3,bp aS l.n),(4,gu (((decide ((l.n.Keys.length:Int)≤(3:Int)))&&(decide ((l.n.Aggs.length:Int)≤(12:Int))))&&(decide ((0:Int)<(IntKind.i64.wrap ((l.n.Keys.length:Int)+(l.n.Aggs.length:Int))))))),(40,kC l.n.Keys),(41,gR l.n.Keys),(42,bQ (i:Int))]) (fun i ob l1 c l2 c1 l3 c2 h=>?_) (fun e tl ih i ob l1 c l2 c1 l3 c2 h=>?_) l.n.Keys 0 ({l with result:=lS}:af) (ix.h 0).1 (ix.h 0).2 (ix.h 1).1 (ix.h 1).2 none 0 ⟨J,h⟩) (aX J)
 ·obtain⟨hx,h⟩:=h
  refine aq<|au<|zo J (eD J J)<|ap<|ae<|bn (ht J) (cW hx)<|aY ?_;refine ac (ac (aC ?_));refine am<|ae<|au<|zo rfl (bY mV fU rfl rfl)<|zo rfl (bw vl rfl rfl)<|zo rfl (gJ pJ rfl)<|zo rfl (bg hI)<|ap<|av<|aP (k:=75) J fun hN1=>bu ?_;refine aG (u7 (Z:=fun ls1 i1 ok ob1 l4 c3 l5 c4 l6 c5=>(l.n.Aggs.drop i1=ls1)∧cn ls1 ok ob1=some R) (Of:=fun _ i1 ok ob1 l4 c3 l5 c4 l6 c5=>[bx (rH bl [(1,an l4 c3 ob1.kinds.length),(2,an l5 c4 ob1.open_.length)]) 124 b (bq ob1 (an l6 c5 ob1.result.length)),fA gr 29 l4 c3 ob1.kinds,cC bV 3 l5 c4 ob1.open_,cC bV 3 l6 c5 ob1.result]) (Gf:=fun _ i1 ok ob1 l4 c3 l5 c4 l6 c5=>[(0,tV (aF b 0)),(4,gu ok),(75,d6 (fu) l.n.Aggs),(76,gR l.n.Aggs),(77,bQ (i1:Int))]) (fun i1 ok ob1 l4 c3 l5 c4 l6 c5 h=>?_) (fun e1 tl1 ih1 i1 ok ob1 l4 c3 l5 c4 l6 c5 h=>?_) l.n.Aggs 0 (((decide ((l.n.Keys.length:Int)≤(3:Int)))&&(decide ((l.n.Aggs.length:Int)≤(12:Int))))&&(decide ((0:Int)<(IntKind.i64.wrap ((l.n.Keys.length:Int)+(l.n.Aggs.length:Int)))))) ob l1 c l2 c1 l3 c2 ⟨J,h⟩) (aX J)
  ·obtain⟨hx1,h⟩:=h
   refine aq<|au<|zo J (eD J J)<|ap<|ae<|bn (ht J) (cW hx1)<|aY ?_;refine ac (ac (aC ?_));refine am<|au<|ax rfl<|bo rfl<|ap<|al<|bA<|bA<|bA<|bA ?_;cases so h;exact cX J (G7 [(l4,c3),(l5,c4),(l6,c5)]) J J (fun _ _ h=>h)
  ·obtain⟨hx1,h⟩:=h
   refine aq<|au<|zo J (eD J J)<|ap<|ae<|bm (ht J) (cR hx1)<|dz<|ae<|av<|au<|zo J (im pJ jo J J J (cS hx1))<|zo J (bw jo J J)<|bc (r:=fu) (x:=Gq) jo (fun _=>vj _) J fun b2=>aE jo J ay J (ht J) (ht J)<|aV 8 J<|ap<|au<|zo J (dA) ?_;refine ap ?_;refine AS (Z:=fun ok1 k=>dF (cn tl1) ob1 ok1 k=some R) (Of:=fun ok1 k=>[bx (rH bl [(1,an l4 c3 ob1.kinds.length),(2,an l5 c4 ob1.open_.length)]) 124 b (bq ob1 (an l6 c5 ob1.result.length)),fA gr 29 l4 c3 ob1.kinds,cC bV 3 l5 c4 ob1.open_,cC bV 3 l6 c5 ob1.result]) (Gf:=fun ok1 k=>[(0,tV (aF b 0)),(4,gu ok1),(9,bQ k),(75,d6 (fu) l.n.Aggs),(76,gR l.n.Aggs),(77,bQ (i1:Int))]) (fun ok1 k h=>?_) (fun K=>?_)
   ·skip
    refine ai<|ax J<|ax J<|zo J (aR (ht J))<|zo J (gq 17 dZ J J J)<|zo J (fC bZ (fi iD) (.head _) J (ht J))<|ax J<|zo J (ba (r:=bV) (ys:=[k]) (xs:=[.tmp 139]) dd bK J J J J J ⟨(ht J),be⟩)<|fW<|bF h fun l7 q_l7 h=>dv bK J J J J dd J J (ht J) (ht J) q_l7 fun l8 c6=>zo J (aR (ht J))<|zo J (gq 17 dZ J J J)<|ca<|fy bZ J (om (hs' :=[(1,an l4 c3 ob1.kinds.length),(2,an l5 c4 ob1.open_.length)]) (fB _ _ _) ⟨.inr ⟨J,J⟩,.inr ⟨J,J⟩,be⟩ J) J (ht J) (DL (ht J)) ?_;refine(show RG _ _ _ _ [bx (rH bl [(1,an l4 c3 ob1.kinds.length),(2,an l5 c4 ob1.open_.length)]) 124 b (bq ob1 (an l8 c6 l7.length)),cC bV 3 l8 c6 l7,fA gr 29 l4 c3 ob1.kinds,cC bV 3 l5 c4 ob1.open_] _ from ?_);refine aH<|ak<|am<|ai<|zo rfl (jN (cy hx1 hN1) rfl)<|ax rfl<|aH<|br<|bA<|bA<|bA ?_;exact aO (aG (ih1 (i1+1) ok1 ({ob1 with result:=l7}:af) l4 c3 l5 c4 l8 c6 ⟨cx hx1,h⟩) (aX J))
   ·skip
    refine au<|zo J (bY lj jM J J)<|zo J (bw bK J J)<|zo J (jk J)<|ap<|dh h J (fun h=>?_) (fun h=>?_)
    ·refine ai<|ax J<|ax J<|bC J J (fun hg=>bY uQ rU J J)<|bC J J (fun hg=>cI fV J dj J (aI J hg))<|bC J J (fun hg=>aL mJ J J (aI J hg))<|bC J J (fun hg=>bR kE (aI J hg))<|bC J J (fun hg=>bD (aI J hg) hI)<|zo J (ki J J)<|bo J<|aH ?_;exact bX (K (ok&&((e1.Arg.Nodes.length:Int)==(0:Int))) (2:Int) h) (aX J)
    ·refine ae<|bF h fun r q_r h=>?_
     refine eb (ts:=[_,_,_,_,_,_,_,_,_,_,_,_]) mixed J J
      ⟨gF 8 J J J (bY uQ rU J J),
      ⟨cL 93 0 J J J (bw kV J J),
      ⟨gF 0 J J J (cz J),
      ⟨cL 95 2 J J J (aR (ht J)),
      ⟨cL 96 3 J J J (gq 15 gc J J J),
      ⟨cL 97 4 J J J (bk (r:=rH bl [(1,an l4 c3 ob1.kinds.length),(2,an l5 c4 ob1.open_.length)]) (x:=bq ob1 (an l6 c5 ob1.result.length)) bZ J J (fi gP) (.head _) (ht J)),
      ⟨eu 94 1 98 5 J J J J (aJ F1 (xa _ _ q_r) ⟨(ht J),(ht J),be⟩),
      ⟨cL 99 6 J J J (cz J),
      ⟨cL 92 7 J J J (lg J J),
      ⟨cL 92 7 J J J (lg J J),
      ⟨cL 100 8 J J J (xx J),
      ⟨cL 101 9 J J J (xx J),
      be⟩⟩⟩⟩⟩⟩⟩⟩⟩⟩⟩⟩ ?_
     refine am<|au<|ax rfl<|ax rfl<|bC rfl rfl (fun hg=>cz J)<|bC J J (fun hg=>bD (aI J hg) hI)<|zo J (ki J J)<|ax J<|bC J J (fun hg=>bY lj jM J J)<|bC J J (fun hg=>aL bK J J (aI J hg))<|bC J J (fun hg=>fG (aI J hg) hI)<|zo J (ki J J)<|ax J<|bC J J (fun hg=>bY lj jM J J)<|bC J J (fun hg=>aL bK J J (aI J hg))<|bC J J (fun hg=>hU (aI J hg) hI)<|zo J (ki J J)<|bo J<|ap<|au<|zo J (bY lj jM J J) ?_;refine zo J (bw bK J J)<|ap<|av<|au<|zo J (jk J)<|bo J<|ap<|dh h J (fun h=>?_) (fun h=>?_)
     ·refine ai<|ax J<|ax J<|bC J J (fun hg=>cz J)<|bC J J (fun hg=>bD (aI J hg) hI)<|bC J J (fun hg=>bg (aI J hg))<|cb J J J J (fun hg=>cz J)<|cb J J J J (fun hg=>bD (aI J hg) hI)<|bC J J (fun hg=>jT (aI J hg) (fun hb=>(aI J (pF hg (mz hb)))))<|zo J (ki J J)<|bo J<|aH<|ak ?_;exact bX (K ((((ok&&(r.2==(0:Int)))&&(decide ((1:Int)<e1.Tag)))&&(decide (e1.Tag≤(5:Int))))&&((r.1==(2:Int))||(r.1==(0:Int)))) (2:Int) h) (aX J)
     ·refine fX (Z:=fun x=>fQ (cn tl1) e1 ok ob1 r x=some R) (Of:=fun x=>[bx (rH bl [(1,an l4 c3 ob1.kinds.length),(2,an l5 c4 ob1.open_.length)]) 124 b (bq ob1 (an l6 c5 ob1.result.length)),fA gr 29 l4 c3 ob1.kinds,cC bV 3 l5 c4 ob1.open_,cC bV 3 l6 c5 ob1.result]) (Gf:=fun x=>[(0,tV (aF b 0)),(4,gu (((ok&&(r.2==(0:Int)))&&(decide ((1:Int)<e1.Tag)))&&(decide (e1.Tag≤(5:Int))))),(9,bQ 2),(10,bQ r.1),(75,d6 (fu) l.n.Aggs),(76,gR l.n.Aggs),(77,bQ (i1:Int)),(130,gu x)]) (fun x h=>?_) (fun K1=>?_)
      ·skip
       refine dh h J (fun h=>?_) (fun h=>?_)
       ·refine ai<|ax J<|bo J<|aH<|ak ?_;exact bX (K (((ok&&(r.2==(0:Int)))&&(decide ((1:Int)<e1.Tag)))&&(decide (e1.Tag≤(5:Int)))) r.1 h) (aX J)
       ·refine bt<|ak ?_;exact bX (K (((ok&&(r.2==(0:Int)))&&(decide ((1:Int)<e1.Tag)))&&(decide (e1.Tag≤(5:Int)))) (2:Int) h) (aX J)
      ·skip
       refine au<|zo J (jk J)<|bo J<|ap<|dh h J (fun h=>?_) (fun h=>?_)
       ·refine bt ?_;exact bX (K1 (e1.Tag==(4:Int)) h) (aX J)
       ·refine ai<|zo J (jk J)<|bo J<|aH ?_;exact bX (K1 (e1.Tag==(5:Int)) h) (aX J)
 ·obtain⟨hx,h⟩:=h
  refine aq<|au<|zo J (eD J J)<|ap<|ae<|bm (ht J) (cR hx)<|dz<|ae<|av<|au<|zo J (im dd bK J J J (cS hx))<|zo J (bw bK J J)<|bo J<|ap<|ae<|au<|ax J<|zo J (ep (ht J) hI) ?_;refine ax J<|cw J J (fun hg=>cz J)<|cw J J (fun hg=>cz J)<|cw J J (fun hg=>aR (aI J hg))<|cw J J (fun hg=>bz (n:=15) gc J (aI J hg) J)<|cw J J (fun hg=>bk (r:=rH bl [(1,an l1 c ob.kinds.length),(2,an l2 c1 ob.open_.length)]) (x:=bq ob (an l3 c2 ob.result.length)) bZ J J (fi gP) (.head _) (aI J hg))<|cw J J (fun hg=>bR dd (aI J hg))<|cw J J (fun hg=>dG (aI J hg) (aI J hg))<|zo J (oQ J J)<|ap<|dh h J (fun h=>?_) (fun h=>?_)
  ·refine au<|zo J (eL)<|ap<|al ?_;refine aa (aA (aa (aa (aA (aa ?_)))));refine bA<|bA<|bA<|bA ?_;cases so h;exact cX J (G7 [(l1,c),(l2,c1),(l3,c2)]) J J (fun _ _ h=>h)
  ·refine dz<|bF h fun e2 q_e2 h=>bF h fun l9 q_l9 h=>?_
   refine mt 14 [tc (tV (aF b 0)),tc (tV (aF b 0)),tc (tV (aF b 0)),tc (tV (aF b 17)),tc (nJ l3 c2 ob.result),tc (tV (aF b 0)),tc (tV (aF b 0)),tc (tV (aF b 15)),tc (kC ob.a_),tc (bQ e),tc (bp bV e2),tc (bQ e2),tc (kC ([e2])),([13],fun s=>tV (an ((s.getD 0 sR).h 0).1 ((s.getD 0 sR).h 0).2 l9.length))] [false,false,false,false,false,false,false,false,false,false,false,false,false,true] [fun _=>[bx (rH bl [(1,an l1 c ob.kinds.length),(2,an l2 c1 ob.open_.length)]) 124 b (bq ob (an l3 c2 ob.result.length)),fA gr 29 l1 c ob.kinds,cC bV 3 l2 c1 ob.open_,cC bV 3 l3 c2 ob.result],fun sg=>[cC bV 3 ((sg 13).h 0).1 ((sg 13).h 0).2 l9,bx (rH bl [(1,an l1 c ob.kinds.length),(2,an l2 c1 ob.open_.length)]) 124 b (bq ob (an l3 c2 ob.result.length)),fA gr 29 l1 c ob.kinds,cC bV 3 l2 c1 ob.open_]] J mixed J J J J J
    ⟨⟨[⟨0,fun _=>tV (aF b 0),none⟩],_,0,1,J,⟨(fun _=>J),be⟩,J,J,J,J,J,fun _ sg _ _=>ah J (cz J)⟩,
    ⟨⟨[⟨0,fun _=>tV (aF b 0),none⟩],_,0,0,J,⟨(fun _=>J),be⟩,J,J,J,J,J,fun _ sg _ _=>ah J (cz J)⟩,
    ⟨⟨[⟨58,fun _=>tV (aF b 0),some 1⟩],_,0,0,J,⟨(fun _=>J),be⟩,J,J,J,J,J,fun _ sg _ _=>ah J (aR (ht J))⟩,
    ⟨⟨[⟨59,fun _=>tV (aF b 0),some 2⟩],_,0,0,J,⟨(fun _=>J),be⟩,J,J,J,J,J,fun _ sg _ _=>ah J (gq 17 dZ J J J)⟩,
    ⟨⟨[⟨60,fun _=>tV (aF b 17),some 3⟩],_,0,0,J,⟨(fun _=>J),be⟩,J,J,J,J,J,rr (fun sg=>ah J (fC bZ (fi iD) (.head _) J (ht J)))⟩,
    ⟨⟨[⟨0,fun _=>tV (aF b 0),none⟩],_,0,0,J,⟨(fun _=>J),be⟩,J,J,J,J,J,fun _ sg _ _=>ah J (cz J)⟩,
    ⟨⟨[⟨62,fun _=>tV (aF b 0),some 5⟩],_,0,0,J,⟨(fun _=>J),be⟩,J,J,J,J,J,fun _ sg _ _=>ah J (aR (ht J))⟩,
    ⟨⟨[⟨63,fun _=>tV (aF b 0),some 6⟩],_,0,0,J,⟨(fun _=>J),be⟩,J,J,J,J,J,fun _ sg _ _=>ah J (gq 15 gc J J J)⟩,
    ⟨⟨[⟨64,fun _=>tV (aF b 15),some 7⟩],_,0,0,J,⟨(fun _=>J),be⟩,J,J,J,J,J,rr (fun sg=>ah J (bk (r:=rH bl [(1,an l1 c ob.kinds.length),(2,an l2 c1 ob.open_.length)]) (x:=bq ob (an l3 c2 ob.result.length)) bZ J J (fi gP) (.head _) (ht J)))⟩,
    ⟨⟨[⟨6,fun _=>tD bV e,none⟩],_,0,0,J,⟨(fun _=>J),be⟩,J,J,J,J,J,fun _ sg _ _=>ah J (cz J)⟩,
    ⟨⟨[⟨65,fun _=>tD rp ob.a_,some 8⟩,⟨66,fun _=>tD bV e,some 9⟩],_,0,0,J,⟨(fun _=>J),(fun _=>J),be⟩,J,J,J,J,J,fun _ sg _ _=>ah J (im dd bK J J J q_e2)⟩,
    ⟨⟨[⟨67,fun _=>bp bV e2,some 10⟩],_,0,0,J,⟨(fun _=>J),be⟩,J,J,J,J,J,fun _ sg _ _=>ah J (bw bK J J)⟩,
    ⟨⟨[⟨68,fun _=>tD bV e2,some 11⟩],_,0,0,J,⟨(fun _=>J),be⟩,J,J,J,J,J,fun _ sg _ _=>ah J (ba (r:=bV) (ys:=[e2]) (xs:=[.tmp 68]) dd bK J J J J J ⟨(ht J),be⟩)⟩,
    ⟨⟨[⟨61,fun _=>tV (an l3 c2 ob.result.length),some 4⟩,⟨69,fun _=>tD rp ([e2]),some 12⟩],_,J,⟨(fun _=>J),(fun _=>J),be⟩,J,J,J,fun sg=>eG J (EffOK.fr3 (r8 bK J J J J dd J (ht J) (ht J) q_l9))⟩,
    be⟩⟩⟩⟩⟩⟩⟩⟩⟩⟩⟩⟩⟩⟩ (fun sg=>?_)
   refine(show RG _ _ _ _ [cC bV 3 ((sg 13).h 0).1 ((sg 13).h 0).2 l9,bx (rH bl [(1,an l1 c ob.kinds.length),(2,an l2 c1 ob.open_.length)]) 124 b (bq ob (an l3 c2 ob.result.length)),fA gr 29 l1 c ob.kinds,cC bV 3 l2 c1 ob.open_] _ from ?_);refine zo J (aR (ht J))<|zo J (gq 17 dZ J J J)<|ca<|fy bZ J (om (hs' :=[(1,an l1 c ob.kinds.length),(2,an l2 c1 ob.open_.length)]) (fB _ _ _) ⟨.inr ⟨J,J⟩,.inr ⟨J,J⟩,be⟩ J) J (ht J) (DL (ht J)) ?_;refine(show RG _ _ _ _ [bx (rH bl [(1,an l1 c ob.kinds.length),(2,an l2 c1 ob.open_.length)]) 124 b (bq ob (an ((sg 13).h 0).1 ((sg 13).h 0).2 l9.length)),cC bV 3 ((sg 13).h 0).1 ((sg 13).h 0).2 l9,fA gr 29 l1 c ob.kinds,cC bV 3 l2 c1 ob.open_] _ from ?_);refine aH<|ak<|am<|ai<|zo rfl (jN (cy hx hN) rfl)<|ax rfl<|aH<|br<|bA<|bA<|bA ?_;exact aO (aG (ih (i+1) ({ob with result:=l9}:af) l1 c l2 c1 ((sg 13).h 0).1 ((sg 13).h 0).2 ⟨cx hx,h⟩) (aX J))

end Go.Proofs.YtmogpgcfognefaaGreatDoor

