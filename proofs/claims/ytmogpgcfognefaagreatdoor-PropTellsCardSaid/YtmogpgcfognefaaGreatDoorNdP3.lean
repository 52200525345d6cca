/- di of this claim: P3. -/
import Derived.Test.YtmogpgcfognefaaGreatDoorNdT
import Derived.Test.YtmogpgcfognefaaGreatDoorNdP2
set_option linter.all false
namespace Go.Proofs.YtmogpgcfognefaaGreatDoor
open Go
set_option maxRecDepth 100000

theorem VV(b:Nat)(ix:OI)(l:aq){R:Bool×aq}(h:gT l=some R):jh be 88 [tV (aN b 0)] (eW b l ix) (fun _:OI=>gD R.1) (fun j=>eW b R.2 j):=by
 refine jh.of Tryz.func88 J J J fun w0 S0=>?_;refine(show CG _ _ _ [bx (rH bC [(1,aD (ix.h 0).1 (ix.h 0).2 l.kinds.length),(2,aD (ix.h 1).1 (ix.h 1).2 l.open_.length)]) 124 b l,jx jd 29 (ix.h 0).1 (ix.h 0).2 l.kinds,cY cC 3 (ix.h 1).1 (ix.h 1).2 l.open_] _ from ?_);refine an<|zo J (ei)<|al<|an<|ax J<|bM h fun r q_r h=>DE (EffOK.fr2 (EffOK.fr2 (EffOK.fr2 (Fl (xs:=[.tmp 6]) (ts:=[tV (aN b 0)]) (eW b l ix) _ J Wb (VW b ix l q_r) ⟨(ht J),bm⟩ (fun _=>J))))) J fun i=>?_;refine(show RG _ _ _ _ [bx (rH ca [(1,aD (i.h 0).1 (i.h 0).2 r.2.kinds.length),(2,aD (i.h 1).1 (i.h 1).2 r.2.open_.length)]) 124 b (cb r.2 (aD (i.h 2).1 (i.h 2).2 r.2.result.length)),jx jd 29 (i.h 0).1 (i.h 0).2 r.2.kinds,cY cC 3 (i.h 1).1 (i.h 1).2 r.2.open_,cY cC 3 (i.h 2).1 (i.h 2).2 r.2.result] ((7,gD r.1)::_)from ?_);refine aY J<|al<|ae<|an<|ax J<|zo J (dD (ht J))<|al<|cz h J (fun h=>?_) (fun h=>?_)
 ·refine an<|zo J (ei)<|al<|aj<|aa<|bS<|gL<|aU<|uI (r' :=rH bC [(1,aD (i.h 0).1 (i.h 0).2 r.2.kinds.length),(2,aD (i.h 1).1 (i.h 1).2 r.2.open_.length)]) (x' :=r.2) (fun _ _ _ ho h=>Sb h (fun h=>iU (jl ho (.head _)) h))<|aU<|aX<|bc<|bc<|bc ?_;cases so h;exact eD J i J J (fun _ _ h=>h)
 ·refine dF<|ae<|an<|ax J<|zo J (bK (ht J))<|zo J (fi 3 ia J J J)<|zo J (fi 11 ki J J J)<|zo J (bl (r:=rH ca [(1,aD (i.h 0).1 (i.h 0).2 r.2.kinds.length),(2,aD (i.h 1).1 (i.h 1).2 r.2.open_.length)]) (x:=cb r.2 (aD (i.h 2).1 (i.h 2).2 r.2.result.length)) sf J J (iw (gw wO eO)) (.head _) (ht J))<|zo J (fU nw J)<|zo J (bk hI)<|al<|ap<|aT (k:=14) J fun hN=>bE ?_;refine aJ (u9 (Z:=fun ls i1 ob l1 c l2 c1 l3 c2=>(r.2.n.Aggs.drop i1=ls)∧fy ls i1 ob=some R) (Of:=fun _ i1 ob l1 c l2 c1 l3 c2=>[bx (rH ca [(1,aD l1 c ob.kinds.length),(2,aD l2 c1 ob.open_.length)]) 124 b (cb ob (aD l3 c2 ob.result.length)),jx jd 29 l1 c ob.kinds,cY cC 3 l2 c1 ob.open_,cY cC 3 l3 c2 ob.result]) (Gf:=fun _ i1 ob l1 c l2 c1 l3 c2=>[(0,tV (aN b 0)),(14,eV (dz) r.2.n.Aggs),(15,gA r.2.n.Aggs),(16,bY (i1:Int))]) (fun i1 ob l1 c l2 c1 l3 c2 h=>?_) (fun e tl ih i1 ob l1 c l2 c1 l3 c2 h=>?_) r.2.n.Aggs 0 r.2 (i.h 0).1 (i.h 0).2 (i.h 1).1 (i.h 1).2 (i.h 2).1 (i.h 2).2 ⟨J,h⟩) (aQ J)
  ·obtain⟨hx,h⟩:=h
   refine av<|an<|zo J (eu J J)<|al<|ae<|bu (ht J) (dh hx)<|bf ?_;refine ac (ac (aI ?_));refine ai<|an<|zo rfl (ei)<|al<|aj<|bS<|gL<|aU<|uI (r' :=rH bC [(1,aD l1 c ob.kinds.length),(2,aD l2 c1 ob.open_.length)]) (x' :=ob) (fun _ _ _ ho h=>Sb h (fun h=>iU (jl ho (.head _)) h))<|aU<|aX<|bc<|bc<|bc ?_;cases so h;exact eD J (MM [(l1,c),(l2,c1)]) J J (fun _ _ h=>h)
  ·obtain⟨hx,h⟩:=h
   refine av<|an<|zo J (eu J J)<|al<|ae<|bt (ht J) (dg hx)<|dF<|ae<|ap<|an<|ax J<|zo J (gM nw gS J J J (dl hx))<|zo J (bj gS J J)<|aZ (r:=dz) (x:=FK) gS (fun _=>vi _) J fun b1=>aY J<|aE gS J ay J (ht J) (ht J)<|aW 5 J<|al<|ae ?_;refine ah<|zo J (bw kJ iR J J)<|zo J (bj br J J)<|zo J (eQ J)<|al<|cz h J (fun h=>?_) (fun h=>?_)
   ·obtain⟨e1,q_e1,h⟩:=bs h
    refine pr 13 (ts:=[tV (aN b 0),tV (aN b 0),tV (aN b 17),mU l3 c2 ob.result,tV (aN b 0),tV (aN b 0),tV (aN b 3),tV (aN b 10),ji ob.n.Keys,gA ob.n.Keys,bY (i1:Int),bY (IntKind.i64.wrap ((ob.n.Keys.length:Int)+(i1:Int))),tV (kz l3 ((IntKind.i64.wrap ((ob.n.Keys.length:Int)+(i1:Int))).toNat*1+0))]) mixed J J J
     ⟨ic 0 J J J (cq J),
     ⟨dc 24 0 J J J (bK (ht J)),
     ⟨dc 25 1 J J J (fi 17 ga J J J),
     ⟨dc 26 2 J J J (fa bV (iw ma) (.head _) J (ht J)),
     ⟨ic 0 J J J (cq J),
     ⟨dc 28 4 J J J (bK (ht J)),
     ⟨dc 29 5 J J J (fi 3 ia J J J),
     ⟨dc 30 6 J J J (fi 10 jk J J J),
     ⟨dc 31 7 J J J (bl (r:=rH ca [(1,aD l1 c ob.kinds.length),(2,aD l2 c1 ob.open_.length)]) (x:=cb ob (aD l3 c2 ob.result.length)) bV J J (iw (gw wO dO)) (.head _) (ht J)),
     ⟨dc 32 8 J J J (fU cZ J),
     ⟨ic 4 J J J (cq J),
     ⟨eT 33 9 34 10 J J J J (fm (ht J) (ht J)),
     ⟨eT 27 3 35 11 J J J J (bT cZ br (.tail _ (.tail _ (.tail _ (.head _)))) (ht J) (ht J) q_e1),
     bm⟩⟩⟩⟩⟩⟩⟩⟩⟩⟩⟩⟩⟩ ?_
    refine em<|bM h fun st q_st h=>lP br J ay J q_e1 (so q_st) (ht J) hI<|jw (iq (so q_st)) 27 J<|pq (O' :=[cY cC 3 l3 c2 st,bx (rH ca [(1,aD l1 c ob.kinds.length),(2,aD l2 c1 ob.open_.length)]) 124 b (cb ob (aD l3 c2 st.length)),jx jd 29 l1 c ob.kinds,cY cC 3 l2 c1 ob.open_]) (by rw [iq (so q_st)])<|aC<|af<|ai<|ah<|zo rfl (je (cx hx hN) rfl)<|ax rfl<|aC<|bS<|bS<|bS ?_;exact aM (aJ (ih (i1+1) ({ob with result:=st}:aq) l1 c l2 c1 l3 c2 ⟨cw hx,h⟩) (aQ J))
   ·refine aO<|af<|ai<|ah<|zo rfl (je (cx hx hN) rfl)<|ax rfl<|aC ?_;exact aM (aJ (ih (i1+1) ob l1 c l2 c1 l3 c2 ⟨cw hx,h⟩) (aQ J))

theorem VU(b:Nat)(ix:OI)(l:aq){R:Bool×aq}(h:fL l=some R):jh be 89 [tV (aN b 0)] (eW b l ix) (fun _:OI=>gD R.1) (fun j=>eW b R.2 j):=by
 refine jh.of Tryz.func89 J J J fun w0 S0=>?_;refine(show CG _ _ _ [bx (rH bC [(1,aD (ix.h 0).1 (ix.h 0).2 l.kinds.length),(2,aD (ix.h 1).1 (ix.h 1).2 l.open_.length)]) 124 b l,jx jd 29 (ix.h 0).1 (ix.h 0).2 l.kinds,cY cC 3 (ix.h 1).1 (ix.h 1).2 l.open_] _ from ?_);refine an<|zo J (ei)<|al<|an<|ax J<|zo J (bK (ht J))<|zo J (fi 3 ia J J J)<|zo J (bl (r:=rH bC [(1,aD (ix.h 0).1 (ix.h 0).2 l.kinds.length),(2,aD (ix.h 1).1 (ix.h 1).2 l.open_.length)]) (x:=l) db J J (iw fQ) (.head _) (ht J))<|aZ (r:=aA) (x:=yF) db (fun _=>ev _) J fun b1=>aE db J ay J (ht J) (ht J)<|aW 3 J<|al<|an<|zo J (bw jk dO J J)<|zo J (bj bV J J)<|zo J (fU cZ J)<|aY J<|al ?_;refine ae<|bM h fun e q_e h=>?_
 refine er (ts:=[_,_,_,_,_,_,_,_,_,_,_,_,_,_,_,_,_,_,_,_,_,_,_,_,_,_,_,_,_,_,_,_,_,_]) mixed J J
  ⟨ic 0 J J J (cq J),
  ⟨dc 18 0 J J J (bK (ht J)),
  ⟨dc 19 1 J J J (fi 0 Gw J J J),
  ⟨dc 20 2 J J J (bl (r:=rH bC [(1,aD (ix.h 0).1 (ix.h 0).2 l.kinds.length),(2,aD (ix.h 1).1 (ix.h 1).2 l.open_.length)]) (x:=l) n8 J J (iw AE) (.head _) (ht J)),
  ⟨ic 3 J J J (bw iS dE J J),
  ⟨dc 22 4 J J J (bj br J J),
  ⟨eT 21 3 23 5 J J J J (gM ib db J J J q_e),
  ⟨dc 24 6 J J J (bw eh cj J J),
  ⟨dc 25 7 J J J (bj br J J),
  ⟨dc 26 8 J J J (eQ J),
  ⟨dc 27 9 J J J (cq J),
  ⟨jn 4 28 10 J J J J (bP J J J J (fun hg=>cq J)),
  ⟨dR 29 11 28 10 J J J J (bP J J J J (fun hg=>fM (aG J hg) hI)),
  ⟨eT 28 10 30 12 J J J J (hZ J J),
  ⟨dc 31 13 J J J (cq J),
  ⟨jn 3 32 14 J J J J (bP J J J J (fun hg=>bw ki eO J J)),
  ⟨dR 33 15 32 14 J J J J (bP J J J J (fun hg=>aF sf J J (aG J hg))),
  ⟨dR 34 16 32 14 J J J J (bP J J J J (fun hg=>bg nw (aG J hg))),
  ⟨dR 35 17 32 14 J J J J (bP J J J J (fun hg=>fM (aG J hg) hI)),
  ⟨eT 32 14 36 18 J J J J (hZ J J),
  ⟨dc 37 19 J J J (cq J),
  ⟨jn 4 38 20 J J J J (bP J J J J (fun hg=>cq J)),
  ⟨jn 3 38 20 J J J J (bP J J J J (fun hg=>bw ki eO J J)),
  ⟨dR 40 22 38 20 J J J J (bP J J J J (fun hg=>aF sf J J (aG J hg))),
  ⟨dR 41 23 38 20 J J J J (bP J J J J (fun hg=>bg nw (aG J hg))),
  ⟨mB 39 21 42 24 38 20 J J J J J (bP J J J J (fun hg=>fm (aG J hg) (aG J hg))),
  ⟨jn 0 38 20 J J J J (bP J J J J (fun hg=>cq J)),
  ⟨dR 44 26 38 20 J J J J (bP J J J J (fun hg=>bK (aG J hg))),
  ⟨dR 45 27 38 20 J J J J (bP J J J J (fun hg=>cr (n:=15) jH J (aG J hg) J)),
  ⟨dR 46 28 38 20 J J J J (bP J J J J (fun hg=>bl (r:=rH bC [(1,aD (ix.h 0).1 (ix.h 0).2 l.kinds.length),(2,aD (ix.h 1).1 (ix.h 1).2 l.open_.length)]) (x:=l) bV J J (iw o6) (.head _) (aG J hg))),
  ⟨dR 47 29 38 20 J J J J (bP J J J J (fun hg=>bg cZ (aG J hg))),
  ⟨mB 43 25 48 30 38 20 J J J J J (bP J J J J (fun hg=>bq (aG J hg) (aG J hg))),
  ⟨eT 38 20 49 31 J J J J (hZ J J),
  ⟨dc 50 32 J J J (yG J),
  bm⟩⟩⟩⟩⟩⟩⟩⟩⟩⟩⟩⟩⟩⟩⟩⟩⟩⟩⟩⟩⟩⟩⟩⟩⟩⟩⟩⟩⟩⟩⟩⟩⟩⟩ ?_
 refine ai<|ae<|an<|ax rfl<|zo rfl (dD (ht rfl))<|al<|cz h rfl (fun h=>?_) (fun h=>?_)
 ·refine an<|zo J (ei)<|al<|aj<|aa<|bc<|bc<|bc ?_;cases so h;exact eD J ix J J (fun _ _ h=>h)
 ·refine dF<|an<|ax J<|ax J<|zo J (bK (ht J))<|zo J (fi 15 jH J J J)<|zo J (bl (r:=rH bC [(1,aD (ix.h 0).1 (ix.h 0).2 l.kinds.length),(2,aD (ix.h 1).1 (ix.h 1).2 l.open_.length)]) (x:=l) bV J J (iw o6) (.head _) (ht J))<|bM h fun r q_r h=>kC Pj (B5 _ q_r) ⟨(ht J),bm⟩ J fun l1 c=>zo J (bK (ht J))<|zo J (fi 17 ga J J J)<|cg<|dP bV J (sY (hs' :=[(1,aD (ix.h 0).1 (ix.h 0).2 l.kinds.length),(2,aD (ix.h 1).1 (ix.h 1).2 l.open_.length)]) (lT _ _) ⟨.inr ⟨J,J⟩,.inr ⟨J,J⟩,bm⟩ J) J (ht J) (Bg (ht J)) ?_;refine(show RG _ _ _ _ [bx (rH ca [(1,aD (ix.h 0).1 (ix.h 0).2 l.kinds.length),(2,aD (ix.h 1).1 (ix.h 1).2 l.open_.length)]) 124 b (cb l (aD l1 c r.length)),cY cC 3 l1 c r,jx jd 29 (ix.h 0).1 (ix.h 0).2 l.kinds,cY cC 3 (ix.h 1).1 (ix.h 1).2 l.open_] _ from ?_);refine al<|ae<|an<|zo J (bw jk dO J J)<|zo J (bj bV J J)<|zo J (fU cZ J)<|zo J (bk hI)<|al<|ap<|aT (k:=62) J fun hN=>bE<|dW<|fE<|fE<|fE ?_;refine aJ (jY (Z:=fun ls i ok=>(l.n.Keys.drop i=ls)∧gr l r ls i ok=some R) (Of:=fun _ i ok=>[bx (rH ca [(1,aD (ix.h 0).1 (ix.h 0).2 l.kinds.length),(2,aD (ix.h 1).1 (ix.h 1).2 l.open_.length)]) 124 b (cb l (aD l1 c r.length)),jx jd 29 (ix.h 0).1 (ix.h 0).2 l.kinds,cY cC 3 (ix.h 1).1 (ix.h 1).2 l.open_,cY cC 3 l1 c r]) (Gf:=fun _ i ok=>[(0,tV (aN b 0)),(3,bF aA l.n),(4,gA l.n.Keys),(5,gD ok),(62,ji l.n.Keys),(63,gA l.n.Keys),(64,bY (i:Int))]) (fun i ok h=>?_) (fun e1 tl ih i ok h=>?_) l.n.Keys 0 ((((e.Op==(9:Int))&&(decide ((l.n.Keys.length:Int)≤(3:Int))))&&(decide ((l.n.Aggs.length:Int)≤(12:Int))))&&((IntKind.i64.wrap ((l.n.Keys.length:Int)+(l.n.Aggs.length:Int)))==(l.a_.length:Int))) ⟨J,h⟩) (aQ J)
  ·obtain⟨hx,h⟩:=h
   refine av<|an<|zo J (eu J J)<|al<|ae<|bu (ht J) (dh hx)<|bf ?_;refine ac (ac (aI ?_));refine ai<|ae<|an<|zo rfl (bw ki eO rfl rfl)<|zo rfl (bj sf rfl rfl)<|zo rfl (fU nw rfl)<|zo rfl (bk hI)<|al<|ap<|aT (k:=87) J fun hN1=>bE ?_;refine aJ (zS (Z:=fun ls1 i1 ok1 ob l2 c1 l3 c2 l4 c3=>(l.n.Aggs.drop i1=ls1)∧de l ls1 i1 ok1 ob=some R) (Of:=fun _ i1 ok1 ob l2 c1 l3 c2 l4 c3=>[bx (rH ca [(1,aD l2 c1 ob.kinds.length),(2,aD l3 c2 ob.open_.length)]) 124 b (cb ob (aD l4 c3 ob.result.length)),jx jd 29 l2 c1 ob.kinds,cY cC 3 l3 c2 ob.open_,cY cC 3 l4 c3 ob.result]) (Gf:=fun _ i1 ok1 ob l2 c1 l3 c2 l4 c3=>[(0,tV (aN b 0)),(4,gA l.n.Keys),(5,gD ok1),(87,eV (dz) l.n.Aggs),(88,gA l.n.Aggs),(89,bY (i1:Int))]) (fun i1 ok1 ob l2 c1 l3 c2 l4 c3 h=>?_) (fun e2 tl1 ih1 i1 ok1 ob l2 c1 l3 c2 l4 c3 h=>?_) l.n.Aggs 0 ok ({l with result:=r}:aq) (ix.h 0).1 (ix.h 0).2 (ix.h 1).1 (ix.h 1).2 l1 c ⟨J,h⟩) (aQ J)
   ·obtain⟨hx1,h⟩:=h
    refine av<|an<|zo J (eu J J)<|al<|ae<|bu (ht J) (dh hx1)<|bf ?_;refine ac (ac (aI ?_));refine ai<|an<|ax rfl<|aY rfl<|al<|aj<|bS<|gL<|aU<|uI (r' :=rH bC [(1,aD l2 c1 ob.kinds.length),(2,aD l3 c2 ob.open_.length)]) (x' :=ob) (fun _ _ _ ho h=>Sb h (fun h=>iU (jl ho (.head _)) h))<|aU<|aX<|bc<|bc<|bc ?_;cases so h;exact eD J (MM [(l2,c1),(l3,c2)]) J J (fun _ _ h=>h)
   ·obtain⟨hx1,h⟩:=h
    refine av<|an<|zo J (eu J J)<|al<|ae<|bt (ht J) (dg hx1)<|dF<|ae<|ap<|an<|ax J<|zo J (gM nw gS J J J (dl hx1))<|zo J (bj gS J J)<|aZ (r:=dz) (x:=FK) gS (fun _=>vi _) J fun b2=>aY J<|aE gS J ay J (ht J) (ht J)<|aW 9 J<|al<|ae ?_;refine ah<|ax J<|zo J (bK (ht J))<|zo J (fi 15 jH J J J)<|zo J (bl (r:=rH ca [(1,aD l2 c1 ob.kinds.length),(2,aD l3 c2 ob.open_.length)]) (x:=cb ob (aD l4 c3 ob.result.length)) bV J J (iw kR) (.head _) (ht J))<|ax J<|ax J<|zo J (fm (ht J) (ht J))<|bM h fun e3 q_e3 h=>zo J (gM cZ br J J J q_e3)<|zo J (bj br J J)<|aY J<|al<|an<|ax J<|ax J<|bo J J (fun hg=>bw ry qH J J)<|bo J J (fun hg=>cR d3 J cU J (aG J hg))<|bo J J (fun hg=>aF jZ J J (aG J hg))<|bo J J (fun hg=>bg pi (aG J hg))<|bo J J (fun hg=>bq (aG J hg) hI)<|zo J (hZ J J) ?_;refine aY J<|al<|an<|zo J (bw kJ iR J J)<|zo J (bj br J J)<|al<|ap ?_;refine c0 (Z:=fun x=>ii l (de l tl1) i1 e2 ok1 ob e3 x=some R) (Of:=fun x=>[bx (rH ca [(1,aD l2 c1 ob.kinds.length),(2,aD l3 c2 ob.open_.length)]) 124 b (cb ob (aD l4 c3 ob.result.length)),jx jd 29 l2 c1 ob.kinds,cY cC 3 l3 c2 ob.open_,cY cC 3 l4 c3 ob.result]) (Gf:=fun x=>[(0,tV (aN b 0)),(4,gA l.n.Keys),(5,gD (ok1&&((e2.Arg.Nodes.length:Int)==(0:Int)))),(8,bY (i1:Int)),(10,bY e3),(87,eV (dz) l.n.Aggs),(88,gA l.n.Aggs),(89,bY (i1:Int)),(112,bY e2.Tag),(113,gD x)]) (fun x h=>?_) (fun K=>?_)
    ·skip
     refine cz h J (fun h=>?_) (fun h=>?_)
     ·refine ah<|ax J<|ax J<|bo J J (fun hg=>cq J)<|bo J J (fun hg=>bq (aG J hg) hI)<|zo J (hZ J J)<|aY J<|aC<|af<|af<|ai<|ah<|zo rfl (je (cx hx1 hN1) rfl)<|ax rfl<|aC ?_;exact aM (aJ (ih1 (i1+1) ((ok1&&((e2.Arg.Nodes.length:Int)==(0:Int)))&&(e3==(2:Int))) ob l2 c1 l3 c2 l4 c3 ⟨cw hx1,h⟩) (aQ J))
     ·refine an<|zo J (eQ J)<|aY J<|al<|cz h J (fun h=>?_) (fun h=>?_)
      ·refine an<|ax J<|ax J<|bo J J (fun hg=>cq J)<|bo J J (fun hg=>bq (aG J hg) hI)<|zo J (hZ J J)<|aY J<|al<|ah<|ax J<|zo J (bK (ht J))<|zo J (fi 17 ga J J J)<|zo J (fa bV (iw ma) (.head _) J (ht J))<|ax J<|ax J<|zo J (fm (ht J) (ht J))<|bM h fun e4 q_e4 h=>zo J (bT cZ br (.tail _ (.tail _ (.tail _ (.head _)))) (ht J) (ht J) q_e4)<|em<|bM h fun st q_st h=>lP br J ay J q_e4 (so q_st) (ht J) hI<|jw (iq (so q_st)) 131 J ?_;refine pq (O' :=[cY cC 3 l4 c3 st,bx (rH ca [(1,aD l2 c1 ob.kinds.length),(2,aD l3 c2 ob.open_.length)]) 124 b (cb ob (aD l4 c3 st.length)),jx jd 29 l2 c1 ob.kinds,cY cC 3 l3 c2 ob.open_]) (by rw [iq (so q_st)])<|aC<|af<|af<|ai<|ah<|zo rfl (je (cx hx1 hN1) rfl)<|ax rfl<|aC<|bS<|bS<|bS ?_;exact aM (aJ (ih1 (i1+1) ((ok1&&((e2.Arg.Nodes.length:Int)==(0:Int)))&&(e3==(4:Int))) ({ob with result:=st}:aq) l2 c1 l3 c2 l4 c3 ⟨cw hx1,h⟩) (aQ J))
      ·refine c0 (Z:=fun x1=>lu (de l tl1) i1 e2 ok1 ob e3 x1=some R) (Of:=fun x1=>[bx (rH ca [(1,aD l2 c1 ob.kinds.length),(2,aD l3 c2 ob.open_.length)]) 124 b (cb ob (aD l4 c3 ob.result.length)),jx jd 29 l2 c1 ob.kinds,cY cC 3 l3 c2 ob.open_,cY cC 3 l4 c3 ob.result]) (Gf:=fun x1=>[(0,tV (aN b 0)),(4,gA l.n.Keys),(5,gD (ok1&&((e2.Arg.Nodes.length:Int)==(0:Int)))),(10,bY e3),(87,eV (dz) l.n.Aggs),(88,gA l.n.Aggs),(89,bY (i1:Int)),(136,gD x1)]) (fun x1 h=>?_) (fun K1=>?_)
       ·skip
        refine cz h J (fun h=>?_) (fun h=>?_)
        ·refine ah<|ax J<|ax J<|bo J J (fun hg=>cq J)<|bo J J (fun hg=>cA (aG J hg) hI)<|zo J (hZ J J)<|aY J<|aC<|af<|af<|ai<|ah<|zo rfl (je (cx hx1 hN1) rfl)<|ax rfl<|aC ?_;exact aM (aJ (ih1 (i1+1) ((ok1&&((e2.Arg.Nodes.length:Int)==(0:Int)))&&(e3 !=(4:Int))) ob l2 c1 l3 c2 l4 c3 ⟨cw hx1,h⟩) (aQ J))
        ·refine ah<|zo J (ei)<|aC<|af<|af<|ai<|ah<|zo rfl (je (cx hx1 hN1) rfl)<|ax rfl<|aC ?_;exact aM (aJ (ih1 (i1+1) false ob l2 c1 l3 c2 l4 c3 ⟨cw hx1,h⟩) (aQ J))
       ·skip
        refine an<|zo J (eQ J)<|aY J<|al<|cz h J (fun h=>?_) (fun h=>?_)
        ·refine aO ?_;exact bz (K1 (e2.Tag==(4:Int)) h) (aQ J)
        ·refine ah<|zo J (eQ J)<|aY J<|aC ?_;exact bz (K1 (e2.Tag==(5:Int)) h) (aQ J)
    ·skip
     refine an<|zo J (eQ J)<|aY J<|al<|cz h J (fun h=>?_) (fun h=>?_)
     ·refine aO ?_;exact bz (K (e2.Tag==(1:Int)) h) (aQ J)
     ·refine ah<|zo J (eQ J)<|aY J<|aC ?_;exact bz (K (e2.Tag==(2:Int)) h) (aQ J)
  ·obtain⟨hx,h⟩:=h
   refine av<|an<|zo J (eu J J)<|al<|ae<|bt (ht J) (dg hx)<|dF<|ae<|ap<|an<|ax J<|zo J (gM cZ br J J J (dl hx))<|zo J (bj br J J)<|aY J<|aY J<|al<|ah<|ax J<|ax J ?_;refine bo J J (fun hg=>cq J)<|bo J J (fun hg=>cq J)<|bo J J (fun hg=>bq (aG J hg) (aG J hg))<|zo J (hZ J J)<|ax J<|bM h fun t q_t h=>bo J J (fun hg=>cq J)<|bo J J (fun hg=>bK (aG J hg))<|bo J J (fun hg=>cr (n:=15) jH J (aG J hg) J)<|bo J J (fun hg=>bl (r:=rH ca [(1,aD (ix.h 0).1 (ix.h 0).2 l.kinds.length),(2,aD (ix.h 1).1 (ix.h 1).2 l.open_.length)]) (x:=cb l (aD l1 c r.length)) bV J J (iw kR) (.head _) (aG J hg))<|bo J J (fun hg=>cq J) ?_
   obtain⟨e5,h1t,h0t⟩:=og q_t
   have q_e5g:=fun hb=>(h1t hb).1
   refine bo J J (fun hg=>bW cZ br J (aG J hg) (aG J hg) (q_e5g hg))<|bo J J (fun hg=>aF br J J (aG J hg))<|bo J J (fun hg=>cA (aG J hg) hI)<|zo J (cu (ht J) (fun hb=>(aG J hb)) (fun hb=>(h1t hb).2) h0t)<|aY J<|aC<|af<|ai<|ah<|zo rfl (je (cx hx hN) rfl)<|ax rfl<|aC ?_;exact aM (aJ (ih (i+1) t ⟨cw hx,h⟩) (aQ J))

theorem VS(b:Nat)(ix:OI)(l:aq){R:Bool×aq}(h:j5 l=some R):jh be 90 [tV (aN b 0)] (eW b l ix) (fun _:OI=>gD R.1) (fun j=>eW b R.2 j):=by
 refine jh.of Tryz.func90 J J J fun w0 S0=>?_;refine(show CG _ _ _ [bx (rH bC [(1,aD (ix.h 0).1 (ix.h 0).2 l.kinds.length),(2,aD (ix.h 1).1 (ix.h 1).2 l.open_.length)]) 124 b l,jx jd 29 (ix.h 0).1 (ix.h 0).2 l.kinds,cY cC 3 (ix.h 1).1 (ix.h 1).2 l.open_] _ from ?_);refine an<|zo J (ei)<|al<|an<|ax J<|zo J (bK (ht J))<|zo J (fi 17 ga J J J)<|cm false cC 3<|cg<|dP bV J (sY (hs' :=[(1,aD (ix.h 0).1 (ix.h 0).2 l.kinds.length),(2,aD (ix.h 1).1 (ix.h 1).2 l.open_.length)]) (lT _ _) ⟨.inr ⟨J,J⟩,.inr ⟨J,J⟩,bm⟩ J) J (ht J) (Bg (show aL _ _ _ PQ from tE)) ?_;refine(show RG _ _ _ _ [bx (rH ca [(1,aD (ix.h 0).1 (ix.h 0).2 l.kinds.length),(2,aD (ix.h 1).1 (ix.h 1).2 l.open_.length)]) 124 b (cb l (aD none 0 (ny.length))),cY cC 3 none 0 ny,jx jd 29 (ix.h 0).1 (ix.h 0).2 l.kinds,cY cC 3 (ix.h 1).1 (ix.h 1).2 l.open_] _ from ?_);refine al<|ae<|an<|ax J<|zo J (bK (ht J))<|zo J (fi 3 ia J J J)<|zo J (fi 12 rh J J J)<|zo J (bl (r:=rH ca [(1,aD (ix.h 0).1 (ix.h 0).2 l.kinds.length),(2,aD (ix.h 1).1 (ix.h 1).2 l.open_.length)]) (x:=cb l (aD none 0 (ny.length))) yW J J (iw (gw wO nh)) (.head _) (ht J))<|zo J (fU rD J)<|zo J (bk hI)<|al<|ap<|aT (k:=14) J fun hN=>bE<|dW<|fE<|fE<|fE ?_;refine aJ (u9 (Z:=fun ls i ob l1 c l2 c1 l3 c2=>(l.n.Items.drop i=ls)∧gq ls ob=some R) (Of:=fun _ i ob l1 c l2 c1 l3 c2=>[bx (rH ca [(1,aD l1 c ob.kinds.length),(2,aD l2 c1 ob.open_.length)]) 124 b (cb ob (aD l3 c2 ob.result.length)),jx jd 29 l1 c ob.kinds,cY cC 3 l2 c1 ob.open_,cY cC 3 l3 c2 ob.result]) (Gf:=fun _ i ob l1 c l2 c1 l3 c2=>[(0,tV (aN b 0)),(14,eV (bn) l.n.Items),(15,gA l.n.Items),(16,bY (i:Int))]) (fun i ob l1 c l2 c1 l3 c2 h=>?_) (fun e tl ih i ob l1 c l2 c1 l3 c2 h=>?_) l.n.Items 0 ({l with result:=ny}:aq) (ix.h 0).1 (ix.h 0).2 (ix.h 1).1 (ix.h 1).2 none 0 ⟨J,h⟩) (aQ J)
 ·obtain⟨hx,h⟩:=h
  refine av<|an<|zo J (eu J J)<|al<|ae<|bu (ht J) (dh hx)<|bf ?_;refine ac (ac (aI ?_));refine ai<|an<|ax rfl<|zo rfl (bK (ht rfl))<|zo rfl (fi 17 ga rfl rfl rfl)<|zo rfl (fa bV (iw ma) (.head _) rfl (ht rfl))<|zo rfl (fc cZ (.tail _ (.tail _ (.tail _ (.head _)))) (ht rfl))<|zo rfl (dZ (ht rfl) hI)<|aY rfl<|al<|aj<|bS<|gL<|eK 45 rfl<|aU<|uI (r' :=rH bC [(1,aD l1 c ob.kinds.length),(2,aD l2 c1 ob.open_.length)]) (x' :=ob) (fun _ _ _ ho h=>Sb h (fun h=>iU (jl ho (.head _)) h))<|aU<|aX<|bc<|bc<|bc ?_;cases so h;exact eD J (MM [(l1,c),(l2,c1)]) J J (fun _ _ h=>h)
 ·obtain⟨hx,h⟩:=h
  refine av<|an<|zo J (eu J J)<|al<|ae<|bt (ht J) (dg hx)<|dF<|ae<|ap<|an<|zo J (gM rD fG J J J (dl hx))<|zo J (bj fG J J)<|aZ (r:=bn) (x:=se) fG (fun _=>qe _) J fun b1=>aE fG J ay J (ht J) (ht J)<|aW 4 J<|al<|ae<|bM h fun r q_r h=>?_
  refine er (ts:=[_,_,_,_,_,_,_,_,_,_,_]) mixed J J
   ⟨ic 4 J J J (bj fG J J),
   ⟨ic 0 J J J (cq J),
   ⟨dc 22 1 J J J (bK (ht J)),
   ⟨dc 23 2 J J J (fi 15 jH J J J),
   ⟨dc 24 3 J J J (bl (r:=rH ca [(1,aD l1 c ob.kinds.length),(2,aD l2 c1 ob.open_.length)]) (x:=cb ob (aD l3 c2 ob.result.length)) bV J J (iw kR) (.head _) (ht J)),
   ⟨eT 21 0 25 4 J J J J (aH LA (B7 _ _ q_r) ⟨(ht J),(ht J),bm⟩),
   ⟨dc 26 5 J J J (cq J),
   ⟨dc 20 6 J J J (iA J J),
   ⟨dc 20 6 J J J (iA J J),
   ⟨dc 27 7 J J J (yG J),
   ⟨dc 28 8 J J J (yG J),
   bm⟩⟩⟩⟩⟩⟩⟩⟩⟩⟩⟩ ?_
  refine ai<|ae<|an<|ax rfl<|zo rfl (uP rfl)<|al<|cz h rfl (fun h=>?_) (fun h=>?_)
  ·refine an<|zo J (ei)<|al<|aj ?_;refine aa (am (aa (aa (am (aa ?_)))));refine bS<|gL<|aU<|uI (r' :=rH bC [(1,aD l1 c ob.kinds.length),(2,aD l2 c1 ob.open_.length)]) (x' :=ob) (fun _ _ _ ho h=>Sb h (fun h=>iU (jl ho (.head _)) h))<|aU<|aX<|bc<|bc<|bc ?_;cases so h;exact eD J (MM [(l1,c),(l2,c1)]) J J (fun _ _ h=>h)
  ·refine dF<|ah<|ax J<|ax J<|zo J (bK (ht J))<|zo J (fi 17 ga J J J)<|zo J (fa bV (iw ma) (.head _) J (ht J))<|ax J<|zo J (ba (r:=cC) (ys:=[r.1]) (xs:=[.tmp 36]) cZ br J J J J J ⟨(ht J),bm⟩)<|em<|bM h fun l4 q_l4 h=>cn br J J J J cZ J J (ht J) (ht J) q_l4 fun l5 c3=>zo J (bK (ht J))<|zo J (fi 17 ga J J J)<|cg<|dP bV J (sY (hs' :=[(1,aD l1 c ob.kinds.length),(2,aD l2 c1 ob.open_.length)]) (iW _ _ _) ⟨.inr ⟨J,J⟩,.inr ⟨J,J⟩,bm⟩ J) J (ht J) (Bg (ht J)) ?_;refine(show RG _ _ _ _ [bx (rH ca [(1,aD l1 c ob.kinds.length),(2,aD l2 c1 ob.open_.length)]) 124 b (cb ob (aD l5 c3 l4.length)),cY cC 3 l5 c3 l4,jx jd 29 l1 c ob.kinds,cY cC 3 l2 c1 ob.open_] _ from ?_);refine aC<|af<|ai<|ah<|zo rfl (je (cx hx hN) rfl)<|ax rfl<|aC<|aU<|bS<|bS<|bS ?_;exact aM (aJ (ih (i+1) ({ob with result:=l4}:aq) l1 c l2 c1 l5 c3 ⟨cw hx,h⟩) (aQ J))

theorem VR(b:Nat)(ix:OI)(l:aq){R:Bool×aq}(h:lN l=some R):jh be 91 [tV (aN b 0)] (eW b l ix) (fun _:OI=>gD R.1) (fun j=>eW b R.2 j):=by
 refine jh.of Tryz.func91 J J J fun w0 S0=>?_;refine(show CG _ _ _ [bx (rH bC [(1,aD (ix.h 0).1 (ix.h 0).2 l.kinds.length),(2,aD (ix.h 1).1 (ix.h 1).2 l.open_.length)]) 124 b l,jx jd 29 (ix.h 0).1 (ix.h 0).2 l.kinds,cY cC 3 (ix.h 1).1 (ix.h 1).2 l.open_] _ from ?_);refine an<|zo J (ei)<|al<|an<|ax J<|ax J<|zo J (bK (ht J))<|zo J (fi 15 jH J J J)<|zo J (bl (r:=rH bC [(1,aD (ix.h 0).1 (ix.h 0).2 l.kinds.length),(2,aD (ix.h 1).1 (ix.h 1).2 l.open_.length)]) (x:=l) bV J J (iw o6) (.head _) (ht J))<|zo J (bK (ht J))<|zo J (fi 17 ga J J J)<|pz (jv bV J (wy (hs' :=[(1,aD (ix.h 0).1 (ix.h 0).2 l.kinds.length),(2,aD (ix.h 1).1 (ix.h 1).2 l.open_.length)]) sL ⟨.inr ⟨J,J⟩,.inr ⟨J,J⟩,bm⟩ J) J (ht J) (ht J)) fun i=>?_;refine(show RG _ _ _ _ [bx (rH bC [(1,aD (ix.h 0).1 (ix.h 0).2 l.kinds.length),(2,aD (ix.h 1).1 (ix.h 1).2 l.open_.length)]) 124 b ({l with result:=l.a_}:aq),jx jd 29 (ix.h 0).1 (ix.h 0).2 l.kinds,cY cC 3 (ix.h 1).1 (ix.h 1).2 l.open_] _ from ?_);refine al<|an<|zo J (ei)<|al<|aj<|bc<|bc<|bc ?_;cases so h;exact eD J ix J J (fun _ _ h=>h)

theorem VQ(b:Nat)(ix:OI)(l:aq){R:Bool×aq}(h:jf l=some R):jh be 92 [tV (aN b 0)] (eW b l ix) (fun _:OI=>gD R.1) (fun j=>eW b R.2 j):=by
 refine jh.of Tryz.func92 J J J fun w0 S0=>?_;refine(show CG _ _ _ [bx (rH bC [(1,aD (ix.h 0).1 (ix.h 0).2 l.kinds.length),(2,aD (ix.h 1).1 (ix.h 1).2 l.open_.length)]) 124 b l,jx jd 29 (ix.h 0).1 (ix.h 0).2 l.kinds,cY cC 3 (ix.h 1).1 (ix.h 1).2 l.open_] _ from ?_);refine an<|zo J (ei)<|al<|ae<|ae ?_
 refine er (ts:=[_,_,_,_,_,_,_,_,_,_,_]) mixed J J
  ⟨ic 0 J J J (cq J),
  ⟨dc 6 0 J J J (bK (ht J)),
  ⟨dc 7 1 J J J (fi 15 jH J J J),
  ⟨dc 8 2 J J J (bl (r:=rH bC [(1,aD (ix.h 0).1 (ix.h 0).2 l.kinds.length),(2,aD (ix.h 1).1 (ix.h 1).2 l.open_.length)]) (x:=l) bV J J (iw o6) (.head _) (ht J)),
  ⟨dc 9 3 J J J (fU cZ J),
  ⟨ic 0 J J J (cq J),
  ⟨dc 11 5 J J J (bK (ht J)),
  ⟨dc 12 6 J J J (fi 16 zC J J J),
  ⟨dc 13 7 J J J (bl (r:=rH bC [(1,aD (ix.h 0).1 (ix.h 0).2 l.kinds.length),(2,aD (ix.h 1).1 (ix.h 1).2 l.open_.length)]) (x:=l) bV J J (iw Fb) (.head _) (ht J)),
  ⟨dc 14 8 J J J (fU cZ J),
  ⟨eT 10 4 15 9 J J J J (cA (ht J) (ht J)),
  bm⟩⟩⟩⟩⟩⟩⟩⟩⟩⟩⟩ ?_
 refine ai<|cz h rfl (fun h=>?_) (fun h=>?_)
 ·refine an<|zo J (ei)<|al<|aj<|aa<|bc<|bc<|bc ?_;cases so h;exact eD J ix J J (fun _ _ h=>h)
 ·refine dF<|an<|ax J<|zo J (bK (ht J))<|zo J (fi 17 ga J J J)<|cm false cC 3<|cg<|dP bV J (sY (hs' :=[(1,aD (ix.h 0).1 (ix.h 0).2 l.kinds.length),(2,aD (ix.h 1).1 (ix.h 1).2 l.open_.length)]) (lT _ _) ⟨.inr ⟨J,J⟩,.inr ⟨J,J⟩,bm⟩ J) J (ht J) (Bg (show aL _ _ _ PQ from tE)) ?_;refine(show RG _ _ _ _ [bx (rH ca [(1,aD (ix.h 0).1 (ix.h 0).2 l.kinds.length),(2,aD (ix.h 1).1 (ix.h 1).2 l.open_.length)]) 124 b (cb l (aD none 0 (ny.length))),cY cC 3 none 0 ny,jx jd 29 (ix.h 0).1 (ix.h 0).2 l.kinds,cY cC 3 (ix.h 1).1 (ix.h 1).2 l.open_] _ from ?_);refine al<|ae<|an<|ax J<|zo J (bK (ht J))<|zo J (fi 15 jH J J J)<|zo J (bl (r:=rH ca [(1,aD (ix.h 0).1 (ix.h 0).2 l.kinds.length),(2,aD (ix.h 1).1 (ix.h 1).2 l.open_.length)]) (x:=cb l (aD none 0 (ny.length))) bV J J (iw kR) (.head _) (ht J))<|zo J (fU cZ J)<|zo J (bk hI)<|al<|ap<|aT (k:=23) J fun hN=>bE<|dW<|fE<|fE<|fE ?_;refine aJ (u9 (Z:=fun ls i ob l1 c l2 c1 l3 c2=>(l.a_.drop i=ls)∧dN ls i ob=some R) (Of:=fun _ i ob l1 c l2 c1 l3 c2=>[bx (rH ca [(1,aD l1 c ob.kinds.length),(2,aD l2 c1 ob.open_.length)]) 124 b (cb ob (aD l3 c2 ob.result.length)),jx jd 29 l1 c ob.kinds,cY cC 3 l2 c1 ob.open_,cY cC 3 l3 c2 ob.result]) (Gf:=fun _ i ob l1 c l2 c1 l3 c2=>[(0,tV (aN b 0)),(23,ji l.a_),(24,gA l.a_),(25,bY (i:Int))]) (fun i ob l1 c l2 c1 l3 c2 h=>?_) (fun e tl ih i ob l1 c l2 c1 l3 c2 h=>?_) l.a_ 0 ({l with result:=ny}:aq) (ix.h 0).1 (ix.h 0).2 (ix.h 1).1 (ix.h 1).2 none 0 ⟨J,h⟩) (aQ J)
  ·obtain⟨hx,h⟩:=h
   refine av<|an<|zo J (eu J J)<|al<|ae<|bu (ht J) (dh hx)<|bf ?_;refine ac (ac (aI ?_));refine ai<|an<|zo rfl (ei)<|al<|aj<|bS<|gL<|aU<|uI (r' :=rH bC [(1,aD l1 c ob.kinds.length),(2,aD l2 c1 ob.open_.length)]) (x' :=ob) (fun _ _ _ ho h=>Sb h (fun h=>iU (jl ho (.head _)) h))<|aU<|aX<|bc<|bc<|bc ?_;cases so h;exact eD J (MM [(l1,c),(l2,c1)]) J J (fun _ _ h=>h)
  ·obtain⟨hx,h⟩:=h
   refine av<|an<|zo J (eu J J)<|al<|ae<|bt (ht J) (dg hx)<|dF<|ae<|ap<|an<|ax J<|zo J (gM cZ br J J J (dl hx))<|zo J (bj br J J)<|aY J<|aY J<|al<|an<|ax J ?_;refine zo J (bK (ht J))<|zo J (fi 16 zC J J J)<|zo J (bl (r:=rH ca [(1,aD l1 c ob.kinds.length),(2,aD l2 c1 ob.open_.length)]) (x:=cb ob (aD l3 c2 ob.result.length)) bV J J (iw Ia) (.head _) (ht J))<|ax J<|bM h fun e1 q_e1 h=>zo J (gM cZ br J J J q_e1)<|zo J (bj br J J)<|aY J<|al ?_;refine c0 (Z:=fun k=>fH (dN tl) i ob e1 k=some R) (Of:=fun k=>[bx (rH ca [(1,aD l1 c ob.kinds.length),(2,aD l2 c1 ob.open_.length)]) 124 b (cb ob (aD l3 c2 ob.result.length)),jx jd 29 l1 c ob.kinds,cY cC 3 l2 c1 ob.open_,cY cC 3 l3 c2 ob.result]) (Gf:=fun k=>[(0,tV (aN b 0)),(4,bY k),(5,bY e1),(23,ji l.a_),(24,gA l.a_),(25,bY (i:Int))]) (fun k h=>?_) (fun K=>?_)
   ·skip
    refine ae<|an<|ax J<|zo J (uP J)<|ax J<|bo J J (fun hg=>cq J)<|bo J J (fun hg=>cq J)<|bo J J (fun hg=>cA (aG J hg) (aG J hg))<|zo J (hZ J J)<|al<|cz h J (fun h=>?_) (fun h=>?_)
    ·refine an<|zo J (ei)<|al<|aj ?_;refine aa (am (aa (aa (am (aa ?_)))));refine bS<|gL<|aU<|uI (r' :=rH bC [(1,aD l1 c ob.kinds.length),(2,aD l2 c1 ob.open_.length)]) (x' :=ob) (fun _ _ _ ho h=>Sb h (fun h=>iU (jl ho (.head _)) h))<|aU<|aX<|bc<|bc<|bc ?_;cases so h;exact eD J (MM [(l1,c),(l2,c1)]) J J (fun _ _ h=>h)
    ·refine dF<|ah<|ax J<|ax J<|zo J (bK (ht J))<|zo J (fi 17 ga J J J)<|zo J (fa bV (iw ma) (.head _) J (ht J))<|ax J<|zo J (ba (r:=cC) (ys:=[k]) (xs:=[.tmp 52]) cZ br J J J J J ⟨(ht J),bm⟩)<|em<|bM h fun l4 q_l4 h=>cn br J J J J cZ J J (ht J) (ht J) q_l4 fun l5 c3=>zo J (bK (ht J))<|zo J (fi 17 ga J J J)<|cg<|dP bV J (sY (hs' :=[(1,aD l1 c ob.kinds.length),(2,aD l2 c1 ob.open_.length)]) (iW _ _ _) ⟨.inr ⟨J,J⟩,.inr ⟨J,J⟩,bm⟩ J) J (ht J) (Bg (ht J)) ?_;refine(show RG _ _ _ _ [bx (rH ca [(1,aD l1 c ob.kinds.length),(2,aD l2 c1 ob.open_.length)]) 124 b (cb ob (aD l5 c3 l4.length)),cY cC 3 l5 c3 l4,jx jd 29 l1 c ob.kinds,cY cC 3 l2 c1 ob.open_] _ from ?_);refine aC<|af<|ai<|ah<|zo rfl (je (cx hx hN) rfl)<|ax rfl<|aC<|aU<|bS<|bS<|bS ?_;exact aM (aJ (ih (i+1) ({ob with result:=l4}:aq) l1 c l2 c1 l5 c3 ⟨cw hx,h⟩) (aQ J))
   ·skip
    refine an<|ax J<|zo J (eQ J)<|al<|cz h J (fun h=>?_) (fun h=>?_)
    ·refine ah<|ax J<|aY J<|aC ?_;exact bz (K e1 h) (aQ J)
    ·refine aO ?_;exact bz (K e h) (aQ J)

end Go.Proofs.YtmogpgcfognefaaGreatDoor

