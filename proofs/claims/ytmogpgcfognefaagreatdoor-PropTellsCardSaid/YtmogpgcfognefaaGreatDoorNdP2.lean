/- di of this claim: P2. -/
import Derived.Test.YtmogpgcfognefaaGreatDoorNdT
import Derived.Test.YtmogpgcfognefaaGreatDoorNdP1
set_option linter.all false
namespace Go.Proofs.YtmogpgcfognefaaGreatDoor
open Go
set_option maxRecDepth 100000

theorem Lp(e:bp)(kinds:(List Int)){R:Bool}(h:lq e kinds=some R):bh be 159 [tD bn e,ji kinds] (gD R):=by
 refine bh.of Tryz.func159 J J J fun w0 S0=>an<|zo J (lK J)<|zo J (ei)<|al<|an<|zo J (bj fG J J)<|ax J<|bM h fun r q_r h=>zo J (aH LA (B7 _ _ q_r) ⟨(ht J),(ht J),bm⟩)<|ax J<|zo J (iA J J)<|zo J (iA J J)<|aY J<|aY J<|al<|an<|ax J<|zo J (eQ J) ?_;refine ax J<|bo J J (fun hg=>cq J)<|bo J J (fun hg=>bq (aG J hg) hI)<|bo J J (fun hg=>bk (aG J hg))<|ck J J J J (fun hg=>cq J)<|ck J J J J (fun hg=>bq (aG J hg) hI)<|bo J J (fun hg=>j7 (aG J hg) (fun hb=>(aG J (oa hg (mW hb)))))<|zo J (hZ J J)<|aY J<|al<|aj ?_;cases so h;exact aB J J

theorem VZ(b:Nat)(ix:OI)(l:aq){R:Bool×aq}(h:jP l=some R):jh be 85 [tV (aN b 0)] (eW b l ix) (fun _:OI=>gD R.1) (fun j=>eW b R.2 j):=by
 refine jh.of Tryz.func85 J J J fun w0 S0=>?_;refine(show CG _ _ _ [bx (rH bC [(1,aD (ix.h 0).1 (ix.h 0).2 l.kinds.length),(2,aD (ix.h 1).1 (ix.h 1).2 l.open_.length)]) 124 b l,jx jd 29 (ix.h 0).1 (ix.h 0).2 l.kinds,cY cC 3 (ix.h 1).1 (ix.h 1).2 l.open_] _ from ?_);refine an<|zo J (ei)<|al<|ae<|bM h fun r q_r h=>?_
 refine pr 13 (ts:=[tV (aN b 0),tV (aN b 0),tV (aN b 0),tV (aN b 15),ji l.a_,tV (aN b 0),tV (aN b 0),tV (aN b 16),ji l.b,eV (jd) ([l.a_,l.b]),ji r,tV (aN b 0),tV (aN b 17)]) mixed J J J
  ⟨ic 0 J J J (cq J),
  ⟨ic 0 J J J (cq J),
  ⟨dc 4 1 J J J (bK (ht J)),
  ⟨dc 5 2 J J J (fi 15 jH J J J),
  ⟨dc 6 3 J J J (bl (r:=rH bC [(1,aD (ix.h 0).1 (ix.h 0).2 l.kinds.length),(2,aD (ix.h 1).1 (ix.h 1).2 l.open_.length)]) (x:=l) bV J J (iw o6) (.head _) (ht J)),
  ⟨ic 0 J J J (cq J),
  ⟨dc 8 5 J J J (bK (ht J)),
  ⟨dc 9 6 J J J (fi 16 zC J J J),
  ⟨dc 10 7 J J J (bl (r:=rH bC [(1,aD (ix.h 0).1 (ix.h 0).2 l.kinds.length),(2,aD (ix.h 1).1 (ix.h 1).2 l.open_.length)]) (x:=l) bV J J (iw Fb) (.head _) (ht J)),
  ⟨eT 7 4 11 8 J J J J (ba (r:=sd) (ys:=[l.a_,l.b]) (xs:=[.tmp 7,.tmp 11]) n7 bV J J J J J ⟨(ht J),(ht J),bm⟩),
  ⟨dc 12 9 J J J (aH W0 (Ry _ q_r) ⟨(ht J),bm⟩),
  ⟨dc 3 0 J J J (bK (ht J)),
  ⟨dc 14 11 J J J (fi 17 ga J J J),
  bm⟩⟩⟩⟩⟩⟩⟩⟩⟩⟩⟩⟩⟩ ?_
 refine pz (jv bV J (wy (hs' :=[(1,aD (ix.h 0).1 (ix.h 0).2 l.kinds.length),(2,aD (ix.h 1).1 (ix.h 1).2 l.open_.length)]) sL ⟨.inr ⟨J,J⟩,.inr ⟨J,J⟩,bm⟩ J) J (ht J) (ht J)) (fun i=>?_);refine(show RG _ _ _ _ [bx (rH bC [(1,aD (ix.h 0).1 (ix.h 0).2 l.kinds.length),(2,aD (ix.h 1).1 (ix.h 1).2 l.open_.length)]) 124 b ({l with result:=r}:aq),jx jd 29 (ix.h 0).1 (ix.h 0).2 l.kinds,cY cC 3 (ix.h 1).1 (ix.h 1).2 l.open_] _ from ?_);refine al<|ae<|bM h fun r1 q_r1 h=>?_
 refine er (ts:=[_,_,_,_,_,_,_,_,_,_,_]) mixed J J
  ⟨ic 0 J J J (cq J),
  ⟨dc 16 0 J J J (bK (ht J)),
  ⟨dc 17 1 J J J (fi 3 ia J J J),
  ⟨dc 18 2 J J J (fi 9 uE J J J),
  ⟨dc 19 3 J J J (bl (r:=rH bC [(1,aD (ix.h 0).1 (ix.h 0).2 l.kinds.length),(2,aD (ix.h 1).1 (ix.h 1).2 l.open_.length)]) (x:=({l with result:=r}:aq)) fG J J (iw (gw fQ oP)) (.head _) (ht J)),
  ⟨ic 0 J J J (cq J),
  ⟨dc 21 5 J J J (bK (ht J)),
  ⟨dc 22 6 J J J (fi 17 ga J J J),
  ⟨dc 23 7 J J J (bl (r:=rH bC [(1,aD (ix.h 0).1 (ix.h 0).2 l.kinds.length),(2,aD (ix.h 1).1 (ix.h 1).2 l.open_.length)]) (x:=({l with result:=r}:aq)) bV J J (iw AD) (.head _) (ht J)),
  ⟨eT 20 4 24 8 J J J J (aH S7 (Lp _ _ q_r1) ⟨(ht J),(ht J),bm⟩),
  ⟨dc 25 9 J J J (yG J),
  bm⟩⟩⟩⟩⟩⟩⟩⟩⟩⟩⟩ ?_
 refine ai<|aj<|bc<|bc<|bc ?_;cases so h;exact eD J ix J J (fun _ _ h=>h)

theorem VY(b:Nat)(ix:OI)(l:aq){R:Bool×aq}(h:im l=some R):jh be 86 [tV (aN b 0)] (eW b l ix) (fun _:OI=>gD R.1) (fun j=>eW b R.2 j):=by
 refine jh.of Tryz.func86 J J J fun w0 S0=>?_;refine(show CG _ _ _ [bx (rH bC [(1,aD (ix.h 0).1 (ix.h 0).2 l.kinds.length),(2,aD (ix.h 1).1 (ix.h 1).2 l.open_.length)]) 124 b l,jx jd 29 (ix.h 0).1 (ix.h 0).2 l.kinds,cY cC 3 (ix.h 1).1 (ix.h 1).2 l.open_] _ from ?_);refine an<|zo J (ei)<|al<|an<|ax J<|ax J<|zo J (bK (ht J))<|zo J (fi 15 jH J J J)<|zo J (bl (r:=rH bC [(1,aD (ix.h 0).1 (ix.h 0).2 l.kinds.length),(2,aD (ix.h 1).1 (ix.h 1).2 l.open_.length)]) (x:=l) bV J J (iw o6) (.head _) (ht J))<|zo J (bK (ht J))<|zo J (fi 17 ga J J J)<|pz (jv bV J (wy (hs' :=[(1,aD (ix.h 0).1 (ix.h 0).2 l.kinds.length),(2,aD (ix.h 1).1 (ix.h 1).2 l.open_.length)]) sL ⟨.inr ⟨J,J⟩,.inr ⟨J,J⟩,bm⟩ J) J (ht J) (ht J)) fun i=>?_;refine(show RG _ _ _ _ [bx (rH bC [(1,aD (ix.h 0).1 (ix.h 0).2 l.kinds.length),(2,aD (ix.h 1).1 (ix.h 1).2 l.open_.length)]) 124 b ({l with result:=l.a_}:aq),jx jd 29 (ix.h 0).1 (ix.h 0).2 l.kinds,cY cC 3 (ix.h 1).1 (ix.h 1).2 l.open_] _ from ?_);refine al<|ae<|bM h fun r q_r h=>?_
 refine er (ts:=[_,_,_,_,_,_,_,_,_,_,_]) mixed J J
  ⟨ic 0 J J J (cq J),
  ⟨dc 10 0 J J J (bK (ht J)),
  ⟨dc 11 1 J J J (fi 3 ia J J J),
  ⟨dc 12 2 J J J (fi 9 uE J J J),
  ⟨dc 13 3 J J J (bl (r:=rH bC [(1,aD (ix.h 0).1 (ix.h 0).2 l.kinds.length),(2,aD (ix.h 1).1 (ix.h 1).2 l.open_.length)]) (x:=({l with result:=l.a_}:aq)) fG J J (iw (gw fQ oP)) (.head _) (ht J)),
  ⟨ic 0 J J J (cq J),
  ⟨dc 15 5 J J J (bK (ht J)),
  ⟨dc 16 6 J J J (fi 15 jH J J J),
  ⟨dc 17 7 J J J (bl (r:=rH bC [(1,aD (ix.h 0).1 (ix.h 0).2 l.kinds.length),(2,aD (ix.h 1).1 (ix.h 1).2 l.open_.length)]) (x:=({l with result:=l.a_}:aq)) bV J J (iw o6) (.head _) (ht J)),
  ⟨eT 14 4 18 8 J J J J (aH S7 (Lp _ _ q_r) ⟨(ht J),(ht J),bm⟩),
  ⟨dc 19 9 J J J (yG J),
  bm⟩⟩⟩⟩⟩⟩⟩⟩⟩⟩⟩ ?_
 refine ai<|aj<|bc<|bc<|bc ?_;cases so h;exact eD J ix J J (fun _ _ h=>h)

theorem VX(b:Nat)(ix:OI)(l:aq){R:Bool×aq}(h:ff l=some R):jh be 87 [tV (aN b 0)] (eW b l ix) (fun _:OI=>gD R.1) (fun j=>eW b R.2 j):=by
 refine jh.of Tryz.func87 J J J fun w0 S0=>?_;refine(show CG _ _ _ [bx (rH bC [(1,aD (ix.h 0).1 (ix.h 0).2 l.kinds.length),(2,aD (ix.h 1).1 (ix.h 1).2 l.open_.length)]) 124 b l,jx jd 29 (ix.h 0).1 (ix.h 0).2 l.kinds,cY cC 3 (ix.h 1).1 (ix.h 1).2 l.open_] _ from ?_);refine an<|zo J (ei)<|al<|an<|ax J<|zo J (bK (ht J))<|zo J (fi 3 ia J J J)<|zo J (bl (r:=rH bC [(1,aD (ix.h 0).1 (ix.h 0).2 l.kinds.length),(2,aD (ix.h 1).1 (ix.h 1).2 l.open_.length)]) (x:=l) db J J (iw fQ) (.head _) (ht J))<|aZ (r:=aA) (x:=yF) db (fun _=>ev _) J fun b1=>aE db J ay J (ht J) (ht J)<|aW 3 J<|al<|an<|zo J (bw jk dO J J)<|zo J (bj bV J J)<|zo J (fU cZ J)<|zo J (fM (ht J) hI)<|ax J<|bo J J (fun hg=>bw ki eO J J) ?_;refine bo J J (fun hg=>aF sf J J (aG J hg))<|bo J J (fun hg=>bg nw (aG J hg))<|bo J J (fun hg=>fM (aG J hg) hI)<|zo J (hZ J J)<|ax J<|bo J J (fun hg=>bw jk dO J J)<|bo J J (fun hg=>aF bV J J (aG J hg))<|bo J J (fun hg=>bg cZ (aG J hg))<|bo J J (fun hg=>bw ki eO J J)<|bo J J (fun hg=>aF sf J J (aG J hg))<|bo J J (fun hg=>bg nw (aG J hg))<|bo J J (fun hg=>fm (aG J hg) (aG J hg))<|bo J J (fun hg=>dZ (aG J hg) hI)<|zo J (hZ J J)<|aY J<|al<|an<|ax J<|zo J (bK (ht J))<|zo J (fi 17 ga J J J)<|cm false cC 3<|cg ?_;refine dP bV J (sY (hs' :=[(1,aD (ix.h 0).1 (ix.h 0).2 l.kinds.length),(2,aD (ix.h 1).1 (ix.h 1).2 l.open_.length)]) (lT _ _) ⟨.inr ⟨J,J⟩,.inr ⟨J,J⟩,bm⟩ J) J (ht J) (Bg (show aL _ _ _ PQ from tE)) ?_;refine(show RG _ _ _ _ [bx (rH ca [(1,aD (ix.h 0).1 (ix.h 0).2 l.kinds.length),(2,aD (ix.h 1).1 (ix.h 1).2 l.open_.length)]) 124 b (cb l (aD none 0 (ny.length))),cY cC 3 none 0 ny,jx jd 29 (ix.h 0).1 (ix.h 0).2 l.kinds,cY cC 3 (ix.h 1).1 (ix.h 1).2 l.open_] _ from ?_);refine al<|ae<|an<|zo J (bw jk dO J J)<|zo J (bj bV J J)<|zo J (fU cZ J)<|zo J (bk hI)<|al<|ap<|aT (k:=40) J fun hN=>bE<|dW<|fE<|fE<|fE ?_;refine aJ (u9 (Z:=fun ls i ob l1 c l2 c1 l3 c2=>(l.n.Keys.drop i=ls)∧eY l ls ob=some R) (Of:=fun _ i ob l1 c l2 c1 l3 c2=>[bx (rH ca [(1,aD l1 c ob.kinds.length),(2,aD l2 c1 ob.open_.length)]) 124 b (cb ob (aD l3 c2 ob.result.length)),jx jd 29 l1 c ob.kinds,cY cC 3 l2 c1 ob.open_,cY cC 3 l3 c2 ob.result]) (Gf:=fun _ i ob l1 c l2 c1 l3 c2=>[(0,tV (aN b 0)),(3,bF aA l.n),(4,gD (((decide ((l.n.Keys.length:Int)≤(3:Int)))&&(decide ((l.n.Aggs.length:Int)≤(12:Int))))&&(decide ((0:Int)<(IntKind.i64.wrap ((l.n.Keys.length:Int)+(l.n.Aggs.length:Int))))))),(40,ji l.n.Keys),(41,gA l.n.Keys),(42,bY (i:Int))]) (fun i ob l1 c l2 c1 l3 c2 h=>?_) (fun e tl ih i ob l1 c l2 c1 l3 c2 h=>?_) l.n.Keys 0 ({l with result:=ny}:aq) (ix.h 0).1 (ix.h 0).2 (ix.h 1).1 (ix.h 1).2 none 0 ⟨J,h⟩) (aQ J)
 ·obtain⟨hx,h⟩:=h
  refine av<|an<|zo J (eu J J)<|al<|ae<|bu (ht J) (dh hx)<|bf ?_;refine ac (ac (aI ?_));refine ai<|ae<|an<|zo rfl (bw ki eO rfl rfl)<|zo rfl (bj sf rfl rfl)<|zo rfl (fU nw rfl)<|zo rfl (bk hI)<|al<|ap<|aT (k:=75) J fun hN1=>bE ?_;refine aJ (zS (Z:=fun ls1 i1 ok ob1 l4 c3 l5 c4 l6 c5=>(l.n.Aggs.drop i1=ls1)∧cP ls1 ok ob1=some R) (Of:=fun _ i1 ok ob1 l4 c3 l5 c4 l6 c5=>[bx (rH ca [(1,aD l4 c3 ob1.kinds.length),(2,aD l5 c4 ob1.open_.length)]) 124 b (cb ob1 (aD l6 c5 ob1.result.length)),jx jd 29 l4 c3 ob1.kinds,cY cC 3 l5 c4 ob1.open_,cY cC 3 l6 c5 ob1.result]) (Gf:=fun _ i1 ok ob1 l4 c3 l5 c4 l6 c5=>[(0,tV (aN b 0)),(4,gD ok),(75,eV (dz) l.n.Aggs),(76,gA l.n.Aggs),(77,bY (i1:Int))]) (fun i1 ok ob1 l4 c3 l5 c4 l6 c5 h=>?_) (fun e1 tl1 ih1 i1 ok ob1 l4 c3 l5 c4 l6 c5 h=>?_) l.n.Aggs 0 (((decide ((l.n.Keys.length:Int)≤(3:Int)))&&(decide ((l.n.Aggs.length:Int)≤(12:Int))))&&(decide ((0:Int)<(IntKind.i64.wrap ((l.n.Keys.length:Int)+(l.n.Aggs.length:Int)))))) ob l1 c l2 c1 l3 c2 ⟨J,h⟩) (aQ J)
  ·obtain⟨hx1,h⟩:=h
   refine av<|an<|zo J (eu J J)<|al<|ae<|bu (ht J) (dh hx1)<|bf ?_;refine ac (ac (aI ?_));refine ai<|an<|ax rfl<|aY rfl<|al<|aj<|bS<|gL<|aU<|uI (r' :=rH bC [(1,aD l4 c3 ob1.kinds.length),(2,aD l5 c4 ob1.open_.length)]) (x' :=ob1) (fun _ _ _ ho h=>Sb h (fun h=>iU (jl ho (.head _)) h))<|aU<|aX<|bc<|bc<|bc ?_;cases so h;exact eD J (MM [(l4,c3),(l5,c4)]) J J (fun _ _ h=>h)
  ·obtain⟨hx1,h⟩:=h
   refine av<|an<|zo J (eu J J)<|al<|ae<|bt (ht J) (dg hx1)<|dF<|ae<|ap<|an<|zo J (gM nw gS J J J (dl hx1))<|zo J (bj gS J J)<|aZ (r:=dz) (x:=FK) gS (fun _=>vi _) J fun b2=>aE gS J ay J (ht J) (ht J)<|aW 8 J<|al<|an<|zo J (dv) ?_;refine al ?_;refine AP (Z:=fun ok1 k=>eZ (cP tl1) ob1 ok1 k=some R) (Of:=fun ok1 k=>[bx (rH ca [(1,aD l4 c3 ob1.kinds.length),(2,aD l5 c4 ob1.open_.length)]) 124 b (cb ob1 (aD l6 c5 ob1.result.length)),jx jd 29 l4 c3 ob1.kinds,cY cC 3 l5 c4 ob1.open_,cY cC 3 l6 c5 ob1.result]) (Gf:=fun ok1 k=>[(0,tV (aN b 0)),(4,gD ok1),(9,bY k),(75,eV (dz) l.n.Aggs),(76,gA l.n.Aggs),(77,bY (i1:Int))]) (fun ok1 k h=>?_) (fun K=>?_)
   ·skip
    refine ah<|ax J<|ax J<|zo J (bK (ht J))<|zo J (fi 17 ga J J J)<|zo J (fa bV (iw ma) (.head _) J (ht J))<|ax J<|zo J (ba (r:=cC) (ys:=[k]) (xs:=[.tmp 139]) cZ br J J J J J ⟨(ht J),bm⟩)<|em<|bM h fun l7 q_l7 h=>cn br J J J J cZ J J (ht J) (ht J) q_l7 fun l8 c6=>zo J (bK (ht J))<|zo J (fi 17 ga J J J)<|cg<|dP bV J (sY (hs' :=[(1,aD l4 c3 ob1.kinds.length),(2,aD l5 c4 ob1.open_.length)]) (iW _ _ _) ⟨.inr ⟨J,J⟩,.inr ⟨J,J⟩,bm⟩ J) J (ht J) (Bg (ht J)) ?_;refine(show RG _ _ _ _ [bx (rH ca [(1,aD l4 c3 ob1.kinds.length),(2,aD l5 c4 ob1.open_.length)]) 124 b (cb ob1 (aD l8 c6 l7.length)),cY cC 3 l8 c6 l7,jx jd 29 l4 c3 ob1.kinds,cY cC 3 l5 c4 ob1.open_] _ from ?_);refine aC<|af<|ai<|ah<|zo rfl (je (cx hx1 hN1) rfl)<|ax rfl<|aC<|aU<|bS<|bS<|bS ?_;exact aM (aJ (ih1 (i1+1) ok1 ({ob1 with result:=l7}:aq) l4 c3 l5 c4 l8 c6 ⟨cw hx1,h⟩) (aQ J))
   ·skip
    refine an<|zo J (bw kJ iR J J)<|zo J (bj br J J)<|zo J (eQ J)<|al<|cz h J (fun h=>?_) (fun h=>?_)
    ·refine ah<|ax J<|ax J<|bo J J (fun hg=>bw ry qH J J)<|bo J J (fun hg=>cR d3 J cU J (aG J hg))<|bo J J (fun hg=>aF jZ J J (aG J hg))<|bo J J (fun hg=>bg pi (aG J hg))<|bo J J (fun hg=>bq (aG J hg) hI)<|zo J (hZ J J)<|aY J<|aC ?_;exact bz (K (ok&&((e1.Arg.Nodes.length:Int)==(0:Int))) (2:Int) h) (aQ J)
    ·refine ae<|bM h fun r q_r h=>?_
     refine er (ts:=[_,_,_,_,_,_,_,_,_,_,_,_]) mixed J J
      ⟨ic 8 J J J (bw ry qH J J),
      ⟨dc 93 0 J J J (bj fG J J),
      ⟨ic 0 J J J (cq J),
      ⟨dc 95 2 J J J (bK (ht J)),
      ⟨dc 96 3 J J J (fi 15 jH J J J),
      ⟨dc 97 4 J J J (bl (r:=rH ca [(1,aD l4 c3 ob1.kinds.length),(2,aD l5 c4 ob1.open_.length)]) (x:=cb ob1 (aD l6 c5 ob1.result.length)) bV J J (iw kR) (.head _) (ht J)),
      ⟨eT 94 1 98 5 J J J J (aH LA (B7 _ _ q_r) ⟨(ht J),(ht J),bm⟩),
      ⟨dc 99 6 J J J (cq J),
      ⟨dc 92 7 J J J (iA J J),
      ⟨dc 92 7 J J J (iA J J),
      ⟨dc 100 8 J J J (yG J),
      ⟨dc 101 9 J J J (yG J),
      bm⟩⟩⟩⟩⟩⟩⟩⟩⟩⟩⟩⟩ ?_
     refine ai<|an<|ax rfl<|ax rfl<|bo rfl rfl (fun hg=>cq J)<|bo J J (fun hg=>bq (aG J hg) hI)<|zo J (hZ J J)<|ax J<|bo J J (fun hg=>bw kJ iR J J)<|bo J J (fun hg=>aF br J J (aG J hg))<|bo J J (fun hg=>dZ (aG J hg) hI)<|zo J (hZ J J)<|ax J<|bo J J (fun hg=>bw kJ iR J J)<|bo J J (fun hg=>aF br J J (aG J hg))<|bo J J (fun hg=>fM (aG J hg) hI)<|zo J (hZ J J)<|aY J<|al<|an<|zo J (bw kJ iR J J) ?_;refine zo J (bj br J J)<|al<|ap<|an<|zo J (eQ J)<|aY J<|al<|cz h J (fun h=>?_) (fun h=>?_)
     ·refine ah<|ax J<|ax J<|bo J J (fun hg=>cq J)<|bo J J (fun hg=>bq (aG J hg) hI)<|bo J J (fun hg=>bk (aG J hg))<|ck J J J J (fun hg=>cq J)<|ck J J J J (fun hg=>bq (aG J hg) hI)<|bo J J (fun hg=>j7 (aG J hg) (fun hb=>(aG J (oa hg (mW hb)))))<|zo J (hZ J J)<|aY J<|aC<|af ?_;exact bz (K ((((ok&&(r.2==(0:Int)))&&(decide ((1:Int)<e1.Tag)))&&(decide (e1.Tag≤(5:Int))))&&((r.1==(2:Int))||(r.1==(0:Int)))) (2:Int) h) (aQ J)
     ·refine c0 (Z:=fun x=>ig (cP tl1) e1 ok ob1 r x=some R) (Of:=fun x=>[bx (rH ca [(1,aD l4 c3 ob1.kinds.length),(2,aD l5 c4 ob1.open_.length)]) 124 b (cb ob1 (aD l6 c5 ob1.result.length)),jx jd 29 l4 c3 ob1.kinds,cY cC 3 l5 c4 ob1.open_,cY cC 3 l6 c5 ob1.result]) (Gf:=fun x=>[(0,tV (aN b 0)),(4,gD (((ok&&(r.2==(0:Int)))&&(decide ((1:Int)<e1.Tag)))&&(decide (e1.Tag≤(5:Int))))),(9,bY 2),(10,bY r.1),(75,eV (dz) l.n.Aggs),(76,gA l.n.Aggs),(77,bY (i1:Int)),(130,gD x)]) (fun x h=>?_) (fun K1=>?_)
      ·skip
       refine cz h J (fun h=>?_) (fun h=>?_)
       ·refine ah<|ax J<|aY J<|aC<|af ?_;exact bz (K (((ok&&(r.2==(0:Int)))&&(decide ((1:Int)<e1.Tag)))&&(decide (e1.Tag≤(5:Int)))) r.1 h) (aQ J)
       ·refine aO<|af ?_;exact bz (K (((ok&&(r.2==(0:Int)))&&(decide ((1:Int)<e1.Tag)))&&(decide (e1.Tag≤(5:Int)))) (2:Int) h) (aQ J)
      ·skip
       refine an<|zo J (eQ J)<|aY J<|al<|cz h J (fun h=>?_) (fun h=>?_)
       ·refine aO ?_;exact bz (K1 (e1.Tag==(4:Int)) h) (aQ J)
       ·refine ah<|zo J (eQ J)<|aY J<|aC ?_;exact bz (K1 (e1.Tag==(5:Int)) h) (aQ J)
 ·obtain⟨hx,h⟩:=h
  refine av<|an<|zo J (eu J J)<|al<|ae<|bt (ht J) (dg hx)<|dF<|ae<|ap<|an<|zo J (gM cZ br J J J (dl hx))<|zo J (bj br J J)<|aY J<|al<|ae<|an<|ax J<|zo J (eg (ht J) hI) ?_;refine ax J<|bX J J (fun hg=>cq J)<|bX J J (fun hg=>cq J)<|bX J J (fun hg=>bK (aG J hg))<|bX J J (fun hg=>cr (n:=15) jH J (aG J hg) J)<|bX J J (fun hg=>bl (r:=rH ca [(1,aD l1 c ob.kinds.length),(2,aD l2 c1 ob.open_.length)]) (x:=cb ob (aD l3 c2 ob.result.length)) bV J J (iw kR) (.head _) (aG J hg))<|bX J J (fun hg=>bg cZ (aG J hg))<|bX J J (fun hg=>cS (aG J hg) (aG J hg))<|zo J (lH J J)<|al<|cz h J (fun h=>?_) (fun h=>?_)
  ·refine an<|zo J (ei)<|al<|aj ?_;refine aa (am (aa (aa (am (aa ?_)))));refine bS<|gL<|aU<|uI (r' :=rH bC [(1,aD l1 c ob.kinds.length),(2,aD l2 c1 ob.open_.length)]) (x' :=ob) (fun _ _ _ ho h=>Sb h (fun h=>iU (jl ho (.head _)) h))<|aU<|aX<|bc<|bc<|bc ?_;cases so h;exact eD J (MM [(l1,c),(l2,c1)]) J J (fun _ _ h=>h)
  ·refine dF<|bM h fun e2 q_e2 h=>bM h fun l9 q_l9 h=>?_
   refine rZ 14 [tc (tV (aN b 0)),tc (tV (aN b 0)),tc (tV (aN b 0)),tc (tV (aN b 17)),tc (mU l3 c2 ob.result),tc (tV (aN b 0)),tc (tV (aN b 0)),tc (tV (aN b 15)),tc (ji ob.a_),tc (bY e),tc (bF cC e2),tc (bY e2),tc (ji ([e2])),([13],fun s=>tV (aD ((s.getD 0 wk).h 0).1 ((s.getD 0 wk).h 0).2 l9.length))] [false,false,false,false,false,false,false,false,false,false,false,false,false,true] [fun _=>[bx (rH ca [(1,aD l1 c ob.kinds.length),(2,aD l2 c1 ob.open_.length)]) 124 b (cb ob (aD l3 c2 ob.result.length)),jx jd 29 l1 c ob.kinds,cY cC 3 l2 c1 ob.open_,cY cC 3 l3 c2 ob.result],fun sg=>[cY cC 3 ((sg 13).h 0).1 ((sg 13).h 0).2 l9,bx (rH ca [(1,aD l1 c ob.kinds.length),(2,aD l2 c1 ob.open_.length)]) 124 b (cb ob (aD l3 c2 ob.result.length)),jx jd 29 l1 c ob.kinds,cY cC 3 l2 c1 ob.open_]] J mixed J J J J J
    ⟨⟨[⟨0,fun _=>tV (aN b 0),none⟩],_,0,1,J,⟨(fun _=>J),bm⟩,J,J,J,J,J,fun _ sg _ _=>ak J (cq J)⟩,
    ⟨⟨[⟨0,fun _=>tV (aN b 0),none⟩],_,0,0,J,⟨(fun _=>J),bm⟩,J,J,J,J,J,fun _ sg _ _=>ak J (cq J)⟩,
    ⟨⟨[⟨58,fun _=>tV (aN b 0),some 1⟩],_,0,0,J,⟨(fun _=>J),bm⟩,J,J,J,J,J,fun _ sg _ _=>ak J (bK (ht J))⟩,
    ⟨⟨[⟨59,fun _=>tV (aN b 0),some 2⟩],_,0,0,J,⟨(fun _=>J),bm⟩,J,J,J,J,J,fun _ sg _ _=>ak J (fi 17 ga J J J)⟩,
    ⟨⟨[⟨60,fun _=>tV (aN b 17),some 3⟩],_,0,0,J,⟨(fun _=>J),bm⟩,J,J,J,J,J,tG (fun sg=>ak J (fa bV (iw ma) (.head _) J (ht J)))⟩,
    ⟨⟨[⟨0,fun _=>tV (aN b 0),none⟩],_,0,0,J,⟨(fun _=>J),bm⟩,J,J,J,J,J,fun _ sg _ _=>ak J (cq J)⟩,
    ⟨⟨[⟨62,fun _=>tV (aN b 0),some 5⟩],_,0,0,J,⟨(fun _=>J),bm⟩,J,J,J,J,J,fun _ sg _ _=>ak J (bK (ht J))⟩,
    ⟨⟨[⟨63,fun _=>tV (aN b 0),some 6⟩],_,0,0,J,⟨(fun _=>J),bm⟩,J,J,J,J,J,fun _ sg _ _=>ak J (fi 15 jH J J J)⟩,
    ⟨⟨[⟨64,fun _=>tV (aN b 15),some 7⟩],_,0,0,J,⟨(fun _=>J),bm⟩,J,J,J,J,J,tG (fun sg=>ak J (bl (r:=rH ca [(1,aD l1 c ob.kinds.length),(2,aD l2 c1 ob.open_.length)]) (x:=cb ob (aD l3 c2 ob.result.length)) bV J J (iw kR) (.head _) (ht J)))⟩,
    ⟨⟨[⟨6,fun _=>tD cC e,none⟩],_,0,0,J,⟨(fun _=>J),bm⟩,J,J,J,J,J,fun _ sg _ _=>ak J (cq J)⟩,
    ⟨⟨[⟨65,fun _=>tD sd ob.a_,some 8⟩,⟨66,fun _=>tD cC e,some 9⟩],_,0,0,J,⟨(fun _=>J),(fun _=>J),bm⟩,J,J,J,J,J,fun _ sg _ _=>ak J (gM cZ br J J J q_e2)⟩,
    ⟨⟨[⟨67,fun _=>bF cC e2,some 10⟩],_,0,0,J,⟨(fun _=>J),bm⟩,J,J,J,J,J,fun _ sg _ _=>ak J (bj br J J)⟩,
    ⟨⟨[⟨68,fun _=>tD cC e2,some 11⟩],_,0,0,J,⟨(fun _=>J),bm⟩,J,J,J,J,J,fun _ sg _ _=>ak J (ba (r:=cC) (ys:=[e2]) (xs:=[.tmp 68]) cZ br J J J J J ⟨(ht J),bm⟩)⟩,
    ⟨⟨[⟨61,fun _=>tV (aD l3 c2 ob.result.length),some 4⟩,⟨69,fun _=>tD sd ([e2]),some 12⟩],_,J,⟨(fun _=>J),(fun _=>J),bm⟩,J,J,J,fun sg=>ea J (EffOK.fr3 (wU br J J J J cZ J (ht J) (ht J) q_l9))⟩,
    bm⟩⟩⟩⟩⟩⟩⟩⟩⟩⟩⟩⟩⟩⟩ (fun sg=>?_)
   refine(show RG _ _ _ _ [cY cC 3 ((sg 13).h 0).1 ((sg 13).h 0).2 l9,bx (rH ca [(1,aD l1 c ob.kinds.length),(2,aD l2 c1 ob.open_.length)]) 124 b (cb ob (aD l3 c2 ob.result.length)),jx jd 29 l1 c ob.kinds,cY cC 3 l2 c1 ob.open_] _ from ?_);refine zo J (bK (ht J))<|zo J (fi 17 ga J J J)<|cg<|dP bV J (sY (hs' :=[(1,aD l1 c ob.kinds.length),(2,aD l2 c1 ob.open_.length)]) (iW _ _ _) ⟨.inr ⟨J,J⟩,.inr ⟨J,J⟩,bm⟩ J) J (ht J) (Bg (ht J)) ?_;refine(show RG _ _ _ _ [bx (rH ca [(1,aD l1 c ob.kinds.length),(2,aD l2 c1 ob.open_.length)]) 124 b (cb ob (aD ((sg 13).h 0).1 ((sg 13).h 0).2 l9.length)),cY cC 3 ((sg 13).h 0).1 ((sg 13).h 0).2 l9,jx jd 29 l1 c ob.kinds,cY cC 3 l2 c1 ob.open_] _ from ?_);refine aC<|af<|ai<|ah<|zo rfl (je (cx hx hN) rfl)<|ax rfl<|aC<|aU<|bS<|bS<|bS ?_;exact aM (aJ (ih (i+1) ({ob with result:=l9}:aq) l1 c l2 c1 ((sg 13).h 0).1 ((sg 13).h 0).2 ⟨cw hx,h⟩) (aQ J))

theorem VW(b:Nat)(ix:OI)(l:aq){R:Bool×aq}(h:ff l=some R):jh be 87 [tV (aN b 0)] (eW b l ix) (fun _:OI=>gD R.1) (fun j=>TH b R.2 j):=by
 refine jh.of Tryz.func87 J J J fun w0 S0=>?_;refine(show CG _ _ _ [bx (rH bC [(1,aD (ix.h 0).1 (ix.h 0).2 l.kinds.length),(2,aD (ix.h 1).1 (ix.h 1).2 l.open_.length)]) 124 b l,jx jd 29 (ix.h 0).1 (ix.h 0).2 l.kinds,cY cC 3 (ix.h 1).1 (ix.h 1).2 l.open_] _ from ?_);refine an<|zo J (ei)<|al<|an<|ax J<|zo J (bK (ht J))<|zo J (fi 3 ia J J J)<|zo J (bl (r:=rH bC [(1,aD (ix.h 0).1 (ix.h 0).2 l.kinds.length),(2,aD (ix.h 1).1 (ix.h 1).2 l.open_.length)]) (x:=l) db J J (iw fQ) (.head _) (ht J))<|aZ (r:=aA) (x:=yF) db (fun _=>ev _) J fun b1=>aE db J ay J (ht J) (ht J)<|aW 3 J<|al<|an<|zo J (bw jk dO J J)<|zo J (bj bV J J)<|zo J (fU cZ J)<|zo J (fM (ht J) hI)<|ax J<|bo J J (fun hg=>bw ki eO J J) ?_;refine bo J J (fun hg=>aF sf J J (aG J hg))<|bo J J (fun hg=>bg nw (aG J hg))<|bo J J (fun hg=>fM (aG J hg) hI)<|zo J (hZ J J)<|ax J<|bo J J (fun hg=>bw jk dO J J)<|bo J J (fun hg=>aF bV J J (aG J hg))<|bo J J (fun hg=>bg cZ (aG J hg))<|bo J J (fun hg=>bw ki eO J J)<|bo J J (fun hg=>aF sf J J (aG J hg))<|bo J J (fun hg=>bg nw (aG J hg))<|bo J J (fun hg=>fm (aG J hg) (aG J hg))<|bo J J (fun hg=>dZ (aG J hg) hI)<|zo J (hZ J J)<|aY J<|al<|an<|ax J<|zo J (bK (ht J))<|zo J (fi 17 ga J J J)<|cm false cC 3<|cg ?_;refine dP bV J (sY (hs' :=[(1,aD (ix.h 0).1 (ix.h 0).2 l.kinds.length),(2,aD (ix.h 1).1 (ix.h 1).2 l.open_.length)]) (lT _ _) ⟨.inr ⟨J,J⟩,.inr ⟨J,J⟩,bm⟩ J) J (ht J) (Bg (show aL _ _ _ PQ from tE)) ?_;refine(show RG _ _ _ _ [bx (rH ca [(1,aD (ix.h 0).1 (ix.h 0).2 l.kinds.length),(2,aD (ix.h 1).1 (ix.h 1).2 l.open_.length)]) 124 b (cb l (aD none 0 (ny.length))),cY cC 3 none 0 ny,jx jd 29 (ix.h 0).1 (ix.h 0).2 l.kinds,cY cC 3 (ix.h 1).1 (ix.h 1).2 l.open_] _ from ?_);refine al<|ae<|an<|zo J (bw jk dO J J)<|zo J (bj bV J J)<|zo J (fU cZ J)<|zo J (bk hI)<|al<|ap<|aT (k:=40) J fun hN=>bE<|dW<|fE<|fE<|fE ?_;refine aJ (u9 (Z:=fun ls i ob l1 c l2 c1 l3 c2=>(l.n.Keys.drop i=ls)∧eY l ls ob=some R) (Of:=fun _ i ob l1 c l2 c1 l3 c2=>[bx (rH ca [(1,aD l1 c ob.kinds.length),(2,aD l2 c1 ob.open_.length)]) 124 b (cb ob (aD l3 c2 ob.result.length)),jx jd 29 l1 c ob.kinds,cY cC 3 l2 c1 ob.open_,cY cC 3 l3 c2 ob.result]) (Gf:=fun _ i ob l1 c l2 c1 l3 c2=>[(0,tV (aN b 0)),(3,bF aA l.n),(4,gD (((decide ((l.n.Keys.length:Int)≤(3:Int)))&&(decide ((l.n.Aggs.length:Int)≤(12:Int))))&&(decide ((0:Int)<(IntKind.i64.wrap ((l.n.Keys.length:Int)+(l.n.Aggs.length:Int))))))),(40,ji l.n.Keys),(41,gA l.n.Keys),(42,bY (i:Int))]) (fun i ob l1 c l2 c1 l3 c2 h=>?_) (fun e tl ih i ob l1 c l2 c1 l3 c2 h=>?_) l.n.Keys 0 ({l with result:=ny}:aq) (ix.h 0).1 (ix.h 0).2 (ix.h 1).1 (ix.h 1).2 none 0 ⟨J,h⟩) (aQ J)
 ·obtain⟨hx,h⟩:=h
  refine av<|an<|zo J (eu J J)<|al<|ae<|bu (ht J) (dh hx)<|bf ?_;refine ac (ac (aI ?_));refine ai<|ae<|an<|zo rfl (bw ki eO rfl rfl)<|zo rfl (bj sf rfl rfl)<|zo rfl (fU nw rfl)<|zo rfl (bk hI)<|al<|ap<|aT (k:=75) J fun hN1=>bE ?_;refine aJ (zS (Z:=fun ls1 i1 ok ob1 l4 c3 l5 c4 l6 c5=>(l.n.Aggs.drop i1=ls1)∧cP ls1 ok ob1=some R) (Of:=fun _ i1 ok ob1 l4 c3 l5 c4 l6 c5=>[bx (rH ca [(1,aD l4 c3 ob1.kinds.length),(2,aD l5 c4 ob1.open_.length)]) 124 b (cb ob1 (aD l6 c5 ob1.result.length)),jx jd 29 l4 c3 ob1.kinds,cY cC 3 l5 c4 ob1.open_,cY cC 3 l6 c5 ob1.result]) (Gf:=fun _ i1 ok ob1 l4 c3 l5 c4 l6 c5=>[(0,tV (aN b 0)),(4,gD ok),(75,eV (dz) l.n.Aggs),(76,gA l.n.Aggs),(77,bY (i1:Int))]) (fun i1 ok ob1 l4 c3 l5 c4 l6 c5 h=>?_) (fun e1 tl1 ih1 i1 ok ob1 l4 c3 l5 c4 l6 c5 h=>?_) l.n.Aggs 0 (((decide ((l.n.Keys.length:Int)≤(3:Int)))&&(decide ((l.n.Aggs.length:Int)≤(12:Int))))&&(decide ((0:Int)<(IntKind.i64.wrap ((l.n.Keys.length:Int)+(l.n.Aggs.length:Int)))))) ob l1 c l2 c1 l3 c2 ⟨J,h⟩) (aQ J)
  ·obtain⟨hx1,h⟩:=h
   refine av<|an<|zo J (eu J J)<|al<|ae<|bu (ht J) (dh hx1)<|bf ?_;refine ac (ac (aI ?_));refine ai<|an<|ax rfl<|aY rfl<|al<|aj<|bS<|bS<|bS<|bS ?_;cases so h;exact eD J (MM [(l4,c3),(l5,c4),(l6,c5)]) J J (fun _ _ h=>h)
  ·obtain⟨hx1,h⟩:=h
   refine av<|an<|zo J (eu J J)<|al<|ae<|bt (ht J) (dg hx1)<|dF<|ae<|ap<|an<|zo J (gM nw gS J J J (dl hx1))<|zo J (bj gS J J)<|aZ (r:=dz) (x:=FK) gS (fun _=>vi _) J fun b2=>aE gS J ay J (ht J) (ht J)<|aW 8 J<|al<|an<|zo J (dv) ?_;refine al ?_;refine AP (Z:=fun ok1 k=>eZ (cP tl1) ob1 ok1 k=some R) (Of:=fun ok1 k=>[bx (rH ca [(1,aD l4 c3 ob1.kinds.length),(2,aD l5 c4 ob1.open_.length)]) 124 b (cb ob1 (aD l6 c5 ob1.result.length)),jx jd 29 l4 c3 ob1.kinds,cY cC 3 l5 c4 ob1.open_,cY cC 3 l6 c5 ob1.result]) (Gf:=fun ok1 k=>[(0,tV (aN b 0)),(4,gD ok1),(9,bY k),(75,eV (dz) l.n.Aggs),(76,gA l.n.Aggs),(77,bY (i1:Int))]) (fun ok1 k h=>?_) (fun K=>?_)
   ·skip
    refine ah<|ax J<|ax J<|zo J (bK (ht J))<|zo J (fi 17 ga J J J)<|zo J (fa bV (iw ma) (.head _) J (ht J))<|ax J<|zo J (ba (r:=cC) (ys:=[k]) (xs:=[.tmp 139]) cZ br J J J J J ⟨(ht J),bm⟩)<|em<|bM h fun l7 q_l7 h=>cn br J J J J cZ J J (ht J) (ht J) q_l7 fun l8 c6=>zo J (bK (ht J))<|zo J (fi 17 ga J J J)<|cg<|dP bV J (sY (hs' :=[(1,aD l4 c3 ob1.kinds.length),(2,aD l5 c4 ob1.open_.length)]) (iW _ _ _) ⟨.inr ⟨J,J⟩,.inr ⟨J,J⟩,bm⟩ J) J (ht J) (Bg (ht J)) ?_;refine(show RG _ _ _ _ [bx (rH ca [(1,aD l4 c3 ob1.kinds.length),(2,aD l5 c4 ob1.open_.length)]) 124 b (cb ob1 (aD l8 c6 l7.length)),cY cC 3 l8 c6 l7,jx jd 29 l4 c3 ob1.kinds,cY cC 3 l5 c4 ob1.open_] _ from ?_);refine aC<|af<|ai<|ah<|zo rfl (je (cx hx1 hN1) rfl)<|ax rfl<|aC<|aU<|bS<|bS<|bS ?_;exact aM (aJ (ih1 (i1+1) ok1 ({ob1 with result:=l7}:aq) l4 c3 l5 c4 l8 c6 ⟨cw hx1,h⟩) (aQ J))
   ·skip
    refine an<|zo J (bw kJ iR J J)<|zo J (bj br J J)<|zo J (eQ J)<|al<|cz h J (fun h=>?_) (fun h=>?_)
    ·refine ah<|ax J<|ax J<|bo J J (fun hg=>bw ry qH J J)<|bo J J (fun hg=>cR d3 J cU J (aG J hg))<|bo J J (fun hg=>aF jZ J J (aG J hg))<|bo J J (fun hg=>bg pi (aG J hg))<|bo J J (fun hg=>bq (aG J hg) hI)<|zo J (hZ J J)<|aY J<|aC ?_;exact bz (K (ok&&((e1.Arg.Nodes.length:Int)==(0:Int))) (2:Int) h) (aQ J)
    ·refine ae<|bM h fun r q_r h=>?_
     refine er (ts:=[_,_,_,_,_,_,_,_,_,_,_,_]) mixed J J
      ⟨ic 8 J J J (bw ry qH J J),
      ⟨dc 93 0 J J J (bj fG J J),
      ⟨ic 0 J J J (cq J),
      ⟨dc 95 2 J J J (bK (ht J)),
      ⟨dc 96 3 J J J (fi 15 jH J J J),
      ⟨dc 97 4 J J J (bl (r:=rH ca [(1,aD l4 c3 ob1.kinds.length),(2,aD l5 c4 ob1.open_.length)]) (x:=cb ob1 (aD l6 c5 ob1.result.length)) bV J J (iw kR) (.head _) (ht J)),
      ⟨eT 94 1 98 5 J J J J (aH LA (B7 _ _ q_r) ⟨(ht J),(ht J),bm⟩),
      ⟨dc 99 6 J J J (cq J),
      ⟨dc 92 7 J J J (iA J J),
      ⟨dc 92 7 J J J (iA J J),
      ⟨dc 100 8 J J J (yG J),
      ⟨dc 101 9 J J J (yG J),
      bm⟩⟩⟩⟩⟩⟩⟩⟩⟩⟩⟩⟩ ?_
     refine ai<|an<|ax rfl<|ax rfl<|bo rfl rfl (fun hg=>cq J)<|bo J J (fun hg=>bq (aG J hg) hI)<|zo J (hZ J J)<|ax J<|bo J J (fun hg=>bw kJ iR J J)<|bo J J (fun hg=>aF br J J (aG J hg))<|bo J J (fun hg=>dZ (aG J hg) hI)<|zo J (hZ J J)<|ax J<|bo J J (fun hg=>bw kJ iR J J)<|bo J J (fun hg=>aF br J J (aG J hg))<|bo J J (fun hg=>fM (aG J hg) hI)<|zo J (hZ J J)<|aY J<|al<|an<|zo J (bw kJ iR J J) ?_;refine zo J (bj br J J)<|al<|ap<|an<|zo J (eQ J)<|aY J<|al<|cz h J (fun h=>?_) (fun h=>?_)
     ·refine ah<|ax J<|ax J<|bo J J (fun hg=>cq J)<|bo J J (fun hg=>bq (aG J hg) hI)<|bo J J (fun hg=>bk (aG J hg))<|ck J J J J (fun hg=>cq J)<|ck J J J J (fun hg=>bq (aG J hg) hI)<|bo J J (fun hg=>j7 (aG J hg) (fun hb=>(aG J (oa hg (mW hb)))))<|zo J (hZ J J)<|aY J<|aC<|af ?_;exact bz (K ((((ok&&(r.2==(0:Int)))&&(decide ((1:Int)<e1.Tag)))&&(decide (e1.Tag≤(5:Int))))&&((r.1==(2:Int))||(r.1==(0:Int)))) (2:Int) h) (aQ J)
     ·refine c0 (Z:=fun x=>ig (cP tl1) e1 ok ob1 r x=some R) (Of:=fun x=>[bx (rH ca [(1,aD l4 c3 ob1.kinds.length),(2,aD l5 c4 ob1.open_.length)]) 124 b (cb ob1 (aD l6 c5 ob1.result.length)),jx jd 29 l4 c3 ob1.kinds,cY cC 3 l5 c4 ob1.open_,cY cC 3 l6 c5 ob1.result]) (Gf:=fun x=>[(0,tV (aN b 0)),(4,gD (((ok&&(r.2==(0:Int)))&&(decide ((1:Int)<e1.Tag)))&&(decide (e1.Tag≤(5:Int))))),(9,bY 2),(10,bY r.1),(75,eV (dz) l.n.Aggs),(76,gA l.n.Aggs),(77,bY (i1:Int)),(130,gD x)]) (fun x h=>?_) (fun K1=>?_)
      ·skip
       refine cz h J (fun h=>?_) (fun h=>?_)
       ·refine ah<|ax J<|aY J<|aC<|af ?_;exact bz (K (((ok&&(r.2==(0:Int)))&&(decide ((1:Int)<e1.Tag)))&&(decide (e1.Tag≤(5:Int)))) r.1 h) (aQ J)
       ·refine aO<|af ?_;exact bz (K (((ok&&(r.2==(0:Int)))&&(decide ((1:Int)<e1.Tag)))&&(decide (e1.Tag≤(5:Int)))) (2:Int) h) (aQ J)
      ·skip
       refine an<|zo J (eQ J)<|aY J<|al<|cz h J (fun h=>?_) (fun h=>?_)
       ·refine aO ?_;exact bz (K1 (e1.Tag==(4:Int)) h) (aQ J)
       ·refine ah<|zo J (eQ J)<|aY J<|aC ?_;exact bz (K1 (e1.Tag==(5:Int)) h) (aQ J)
 ·obtain⟨hx,h⟩:=h
  refine av<|an<|zo J (eu J J)<|al<|ae<|bt (ht J) (dg hx)<|dF<|ae<|ap<|an<|zo J (gM cZ br J J J (dl hx))<|zo J (bj br J J)<|aY J<|al<|ae<|an<|ax J<|zo J (eg (ht J) hI) ?_;refine ax J<|bX J J (fun hg=>cq J)<|bX J J (fun hg=>cq J)<|bX J J (fun hg=>bK (aG J hg))<|bX J J (fun hg=>cr (n:=15) jH J (aG J hg) J)<|bX J J (fun hg=>bl (r:=rH ca [(1,aD l1 c ob.kinds.length),(2,aD l2 c1 ob.open_.length)]) (x:=cb ob (aD l3 c2 ob.result.length)) bV J J (iw kR) (.head _) (aG J hg))<|bX J J (fun hg=>bg cZ (aG J hg))<|bX J J (fun hg=>cS (aG J hg) (aG J hg))<|zo J (lH J J)<|al<|cz h J (fun h=>?_) (fun h=>?_)
  ·refine an<|zo J (ei)<|al<|aj ?_;refine aa (am (aa (aa (am (aa ?_)))));refine bS<|bS<|bS<|bS ?_;cases so h;exact eD J (MM [(l1,c),(l2,c1),(l3,c2)]) J J (fun _ _ h=>h)
  ·refine dF<|bM h fun e2 q_e2 h=>bM h fun l9 q_l9 h=>?_
   refine rZ 14 [tc (tV (aN b 0)),tc (tV (aN b 0)),tc (tV (aN b 0)),tc (tV (aN b 17)),tc (mU l3 c2 ob.result),tc (tV (aN b 0)),tc (tV (aN b 0)),tc (tV (aN b 15)),tc (ji ob.a_),tc (bY e),tc (bF cC e2),tc (bY e2),tc (ji ([e2])),([13],fun s=>tV (aD ((s.getD 0 wk).h 0).1 ((s.getD 0 wk).h 0).2 l9.length))] [false,false,false,false,false,false,false,false,false,false,false,false,false,true] [fun _=>[bx (rH ca [(1,aD l1 c ob.kinds.length),(2,aD l2 c1 ob.open_.length)]) 124 b (cb ob (aD l3 c2 ob.result.length)),jx jd 29 l1 c ob.kinds,cY cC 3 l2 c1 ob.open_,cY cC 3 l3 c2 ob.result],fun sg=>[cY cC 3 ((sg 13).h 0).1 ((sg 13).h 0).2 l9,bx (rH ca [(1,aD l1 c ob.kinds.length),(2,aD l2 c1 ob.open_.length)]) 124 b (cb ob (aD l3 c2 ob.result.length)),jx jd 29 l1 c ob.kinds,cY cC 3 l2 c1 ob.open_]] J mixed J J J J J
    ⟨⟨[⟨0,fun _=>tV (aN b 0),none⟩],_,0,1,J,⟨(fun _=>J),bm⟩,J,J,J,J,J,fun _ sg _ _=>ak J (cq J)⟩,
    ⟨⟨[⟨0,fun _=>tV (aN b 0),none⟩],_,0,0,J,⟨(fun _=>J),bm⟩,J,J,J,J,J,fun _ sg _ _=>ak J (cq J)⟩,
    ⟨⟨[⟨58,fun _=>tV (aN b 0),some 1⟩],_,0,0,J,⟨(fun _=>J),bm⟩,J,J,J,J,J,fun _ sg _ _=>ak J (bK (ht J))⟩,
    ⟨⟨[⟨59,fun _=>tV (aN b 0),some 2⟩],_,0,0,J,⟨(fun _=>J),bm⟩,J,J,J,J,J,fun _ sg _ _=>ak J (fi 17 ga J J J)⟩,
    ⟨⟨[⟨60,fun _=>tV (aN b 17),some 3⟩],_,0,0,J,⟨(fun _=>J),bm⟩,J,J,J,J,J,tG (fun sg=>ak J (fa bV (iw ma) (.head _) J (ht J)))⟩,
    ⟨⟨[⟨0,fun _=>tV (aN b 0),none⟩],_,0,0,J,⟨(fun _=>J),bm⟩,J,J,J,J,J,fun _ sg _ _=>ak J (cq J)⟩,
    ⟨⟨[⟨62,fun _=>tV (aN b 0),some 5⟩],_,0,0,J,⟨(fun _=>J),bm⟩,J,J,J,J,J,fun _ sg _ _=>ak J (bK (ht J))⟩,
    ⟨⟨[⟨63,fun _=>tV (aN b 0),some 6⟩],_,0,0,J,⟨(fun _=>J),bm⟩,J,J,J,J,J,fun _ sg _ _=>ak J (fi 15 jH J J J)⟩,
    ⟨⟨[⟨64,fun _=>tV (aN b 15),some 7⟩],_,0,0,J,⟨(fun _=>J),bm⟩,J,J,J,J,J,tG (fun sg=>ak J (bl (r:=rH ca [(1,aD l1 c ob.kinds.length),(2,aD l2 c1 ob.open_.length)]) (x:=cb ob (aD l3 c2 ob.result.length)) bV J J (iw kR) (.head _) (ht J)))⟩,
    ⟨⟨[⟨6,fun _=>tD cC e,none⟩],_,0,0,J,⟨(fun _=>J),bm⟩,J,J,J,J,J,fun _ sg _ _=>ak J (cq J)⟩,
    ⟨⟨[⟨65,fun _=>tD sd ob.a_,some 8⟩,⟨66,fun _=>tD cC e,some 9⟩],_,0,0,J,⟨(fun _=>J),(fun _=>J),bm⟩,J,J,J,J,J,fun _ sg _ _=>ak J (gM cZ br J J J q_e2)⟩,
    ⟨⟨[⟨67,fun _=>bF cC e2,some 10⟩],_,0,0,J,⟨(fun _=>J),bm⟩,J,J,J,J,J,fun _ sg _ _=>ak J (bj br J J)⟩,
    ⟨⟨[⟨68,fun _=>tD cC e2,some 11⟩],_,0,0,J,⟨(fun _=>J),bm⟩,J,J,J,J,J,fun _ sg _ _=>ak J (ba (r:=cC) (ys:=[e2]) (xs:=[.tmp 68]) cZ br J J J J J ⟨(ht J),bm⟩)⟩,
    ⟨⟨[⟨61,fun _=>tV (aD l3 c2 ob.result.length),some 4⟩,⟨69,fun _=>tD sd ([e2]),some 12⟩],_,J,⟨(fun _=>J),(fun _=>J),bm⟩,J,J,J,fun sg=>ea J (EffOK.fr3 (wU br J J J J cZ J (ht J) (ht J) q_l9))⟩,
    bm⟩⟩⟩⟩⟩⟩⟩⟩⟩⟩⟩⟩⟩⟩ (fun sg=>?_)
   refine(show RG _ _ _ _ [cY cC 3 ((sg 13).h 0).1 ((sg 13).h 0).2 l9,bx (rH ca [(1,aD l1 c ob.kinds.length),(2,aD l2 c1 ob.open_.length)]) 124 b (cb ob (aD l3 c2 ob.result.length)),jx jd 29 l1 c ob.kinds,cY cC 3 l2 c1 ob.open_] _ from ?_);refine zo J (bK (ht J))<|zo J (fi 17 ga J J J)<|cg<|dP bV J (sY (hs' :=[(1,aD l1 c ob.kinds.length),(2,aD l2 c1 ob.open_.length)]) (iW _ _ _) ⟨.inr ⟨J,J⟩,.inr ⟨J,J⟩,bm⟩ J) J (ht J) (Bg (ht J)) ?_;refine(show RG _ _ _ _ [bx (rH ca [(1,aD l1 c ob.kinds.length),(2,aD l2 c1 ob.open_.length)]) 124 b (cb ob (aD ((sg 13).h 0).1 ((sg 13).h 0).2 l9.length)),cY cC 3 ((sg 13).h 0).1 ((sg 13).h 0).2 l9,jx jd 29 l1 c ob.kinds,cY cC 3 l2 c1 ob.open_] _ from ?_);refine aC<|af<|ai<|ah<|zo rfl (je (cx hx hN) rfl)<|ax rfl<|aC<|aU<|bS<|bS<|bS ?_;exact aM (aJ (ih (i+1) ({ob with result:=l9}:aq) l1 c l2 c1 ((sg 13).h 0).1 ((sg 13).h 0).2 ⟨cw hx,h⟩) (aQ J))

end Go.Proofs.YtmogpgcfognefaaGreatDoor

