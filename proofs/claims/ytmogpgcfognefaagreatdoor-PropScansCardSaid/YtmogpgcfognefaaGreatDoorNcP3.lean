/- cd of this claim: P3. -/
import Derived.Test.YtmogpgcfognefaaGreatDoorNcT
import Derived.Test.YtmogpgcfognefaaGreatDoorNcP2
set_option linter.all false
namespace Go.Proofs.YtmogpgcfognefaaGreatDoor
open Go
set_option maxRecDepth 100000

theorem Pm(b:Nat)(ix:OI)(l:af){R:Bool×af}(h:gv l=some R):eV aM 88 [tV (aF b 0)] (dl b l ix) (fun _:OI=>gu R.1) (fun j=>dl b R.2 j):=by
 refine eV.of Tryz.func88 J J J fun w0 S0=>?_;refine(show CG _ _ _ [bx (rH aN [(1,an (ix.h 0).1 (ix.h 0).2 l.kinds.length),(2,an (ix.h 1).1 (ix.h 1).2 l.open_.length)]) 124 b l,fA gr 29 (ix.h 0).1 (ix.h 0).2 l.kinds,cC bV 3 (ix.h 1).1 (ix.h 1).2 l.open_] _ from ?_);refine au<|zo J (eL)<|ap<|au<|ax J<|bF h fun r q_r h=>vM (EffOK.fr2 (EffOK.fr2 (EffOK.fr2 (vI (xs:=[.tmp 6]) (ts:=[tV (aF b 0)]) (dl b l ix) _ J Pz (Pn b ix l q_r) ⟨(ht J),be⟩ (fun _=>J))))) J fun i=>?_;refine(show RG _ _ _ _ [bx (rH bl [(1,an (i.h 0).1 (i.h 0).2 r.2.kinds.length),(2,an (i.h 1).1 (i.h 1).2 r.2.open_.length)]) 124 b (bq r.2 (an (i.h 2).1 (i.h 2).2 r.2.result.length)),fA gr 29 (i.h 0).1 (i.h 0).2 r.2.kinds,cC bV 3 (i.h 1).1 (i.h 1).2 r.2.open_,cC bV 3 (i.h 2).1 (i.h 2).2 r.2.result] ((7,gu r.1)::_)from ?_);refine bo J<|ap<|ae<|au<|ax J<|zo J (dn (ht J))<|ap<|dh h J (fun h=>?_) (fun h=>?_)
 ·refine au<|zo J (eL)<|ap<|al<|aa<|bA<|gy<|br<|pH (r' :=rH aN [(1,an (i.h 0).1 (i.h 0).2 r.2.kinds.length),(2,an (i.h 1).1 (i.h 1).2 r.2.open_.length)]) (x' :=r.2) (fun _ _ _ ho h=>LM h (fun h=>fx (kc ho (.head _)) h))<|br<|bv<|aK<|aK<|aK ?_;cases so h;exact cX J i J J (fun _ _ h=>h)
 ·refine dz<|ae<|au<|ax J<|zo J (aR (ht J))<|zo J (gq 3 eU J J J)<|zo J (gq 11 mV J J J)<|zo J (bk (r:=rH bl [(1,an (i.h 0).1 (i.h 0).2 r.2.kinds.length),(2,an (i.h 1).1 (i.h 1).2 r.2.open_.length)]) (x:=bq r.2 (an (i.h 2).1 (i.h 2).2 r.2.result.length)) vl J J (fi (eP rR fU)) (.head _) (ht J))<|zo J (gJ pJ J)<|zo J (bg hI)<|ap<|av<|aP (k:=14) J fun hN=>bu ?_;refine aG (qb (Z:=fun ls i1 ob l1 c l2 c1 l3 c2=>(r.2.n.Aggs.drop i1=ls)∧e8 ls i1 ob=some R) (Of:=fun _ i1 ob l1 c l2 c1 l3 c2=>[bx (rH bl [(1,an l1 c ob.kinds.length),(2,an l2 c1 ob.open_.length)]) 124 b (bq ob (an l3 c2 ob.result.length)),fA gr 29 l1 c ob.kinds,cC bV 3 l2 c1 ob.open_,cC bV 3 l3 c2 ob.result]) (Gf:=fun _ i1 ob l1 c l2 c1 l3 c2=>[(0,tV (aF b 0)),(14,d6 (fu) r.2.n.Aggs),(15,gR r.2.n.Aggs),(16,bQ (i1:Int))]) (fun i1 ob l1 c l2 c1 l3 c2 h=>?_) (fun e tl ih i1 ob l1 c l2 c1 l3 c2 h=>?_) r.2.n.Aggs 0 r.2 (i.h 0).1 (i.h 0).2 (i.h 1).1 (i.h 1).2 (i.h 2).1 (i.h 2).2 ⟨J,h⟩) (aX J)
  ·obtain⟨hx,h⟩:=h
   refine aq<|au<|zo J (eD J J)<|ap<|ae<|bn (ht J) (cW hx)<|aY ?_;refine ac (ac (aC ?_));refine am<|au<|zo rfl (eL)<|ap<|al<|bA<|gy<|br<|pH (r' :=rH aN [(1,an l1 c ob.kinds.length),(2,an l2 c1 ob.open_.length)]) (x' :=ob) (fun _ _ _ ho h=>LM h (fun h=>fx (kc ho (.head _)) h))<|br<|bv<|aK<|aK<|aK ?_;cases so h;exact cX J (G7 [(l1,c),(l2,c1)]) J J (fun _ _ h=>h)
  ·obtain⟨hx,h⟩:=h
   refine aq<|au<|zo J (eD J J)<|ap<|ae<|bm (ht J) (cR hx)<|dz<|ae<|av<|au<|ax J<|zo J (im pJ jo J J J (cS hx))<|zo J (bw jo J J)<|bc (r:=fu) (x:=Gq) jo (fun _=>vj _) J fun b1=>bo J<|aE jo J ay J (ht J) (ht J)<|aV 5 J<|ap<|ae ?_;refine ai<|zo J (bY lj jM J J)<|zo J (bw bK J J)<|zo J (jk J)<|ap<|dh h J (fun h=>?_) (fun h=>?_)
   ·obtain⟨e1,q_e1,h⟩:=bs h
    refine oP 13 (ts:=[tV (aF b 0),tV (aF b 0),tV (aF b 17),nJ l3 c2 ob.result,tV (aF b 0),tV (aF b 0),tV (aF b 3),tV (aF b 10),kC ob.n.Keys,gR ob.n.Keys,bQ (i1:Int),bQ (IntKind.i64.wrap ((ob.n.Keys.length:Int)+(i1:Int))),tV (iJ l3 ((IntKind.i64.wrap ((ob.n.Keys.length:Int)+(i1:Int))).toNat*1+0))]) mixed J J J
     ⟨gF 0 J J J (cz J),
     ⟨cL 24 0 J J J (aR (ht J)),
     ⟨cL 25 1 J J J (gq 17 dZ J J J),
     ⟨cL 26 2 J J J (fC bZ (fi iD) (.head _) J (ht J)),
     ⟨gF 0 J J J (cz J),
     ⟨cL 28 4 J J J (aR (ht J)),
     ⟨cL 29 5 J J J (gq 3 eU J J J),
     ⟨cL 30 6 J J J (gq 10 mg J J J),
     ⟨cL 31 7 J J J (bk (r:=rH bl [(1,an l1 c ob.kinds.length),(2,an l2 c1 ob.open_.length)]) (x:=bq ob (an l3 c2 ob.result.length)) bZ J J (fi (eP rR fv)) (.head _) (ht J)),
     ⟨cL 32 8 J J J (gJ dd J),
     ⟨gF 4 J J J (cz J),
     ⟨eu 33 9 34 10 J J J J (kw (ht J) (ht J)),
     ⟨eu 27 3 35 11 J J J J (cH dd bK (.tail _ (.tail _ (.tail _ (.head _)))) (ht J) (ht J) q_e1),
     be⟩⟩⟩⟩⟩⟩⟩⟩⟩⟩⟩⟩⟩ ?_
    refine fW<|bF h fun st q_st h=>m2 bK J ay J q_e1 (so q_st) (ht J) hI<|ji (iO (so q_st)) 27 J<|qa (O' :=[cC bV 3 l3 c2 st,bx (rH bl [(1,an l1 c ob.kinds.length),(2,an l2 c1 ob.open_.length)]) 124 b (bq ob (an l3 c2 st.length)),fA gr 29 l1 c ob.kinds,cC bV 3 l2 c1 ob.open_]) (by rw [iO (so q_st)])<|aH<|ak<|am<|ai<|zo rfl (jN (cy hx hN) rfl)<|ax rfl<|aH<|bA<|bA<|bA ?_;exact aO (aG (ih (i1+1) ({ob with result:=st}:af) l1 c l2 c1 l3 c2 ⟨cx hx,h⟩) (aX J))
   ·refine bt<|ak<|am<|ai<|zo rfl (jN (cy hx hN) rfl)<|ax rfl<|aH ?_;exact aO (aG (ih (i1+1) ob l1 c l2 c1 l3 c2 ⟨cx hx,h⟩) (aX J))

theorem Pl(b:Nat)(ix:OI)(l:af){R:Bool×af}(h:ir l=some R):eV aM 89 [tV (aF b 0)] (dl b l ix) (fun _:OI=>gu R.1) (fun j=>dl b R.2 j):=by
 refine eV.of Tryz.func89 J J J fun w0 S0=>?_;refine(show CG _ _ _ [bx (rH aN [(1,an (ix.h 0).1 (ix.h 0).2 l.kinds.length),(2,an (ix.h 1).1 (ix.h 1).2 l.open_.length)]) 124 b l,fA gr 29 (ix.h 0).1 (ix.h 0).2 l.kinds,cC bV 3 (ix.h 1).1 (ix.h 1).2 l.open_] _ from ?_);refine au<|zo J (eL)<|ap<|au<|ax J<|zo J (aR (ht J))<|zo J (gq 3 eU J J J)<|zo J (bk (r:=rH aN [(1,an (ix.h 0).1 (ix.h 0).2 l.kinds.length),(2,an (ix.h 1).1 (ix.h 1).2 l.open_.length)]) (x:=l) eM J J (fi dL) (.head _) (ht J))<|bc (r:=aS) (x:=Ck) eM (fun _=>eK _) J fun b1=>aE eM J ay J (ht J) (ht J)<|aV 3 J<|ap<|au<|zo J (bY mg fv J J)<|zo J (bw bZ J J)<|zo J (gJ dd J)<|bo J<|ap ?_;refine ae<|bF h fun e q_e h=>?_
 refine eb (ts:=[_,_,_,_,_,_,_,_,_,_,_,_,_,_,_,_,_,_,_,_,_,_,_,_,_,_,_,_,_,_,_,_,_,_]) mixed J J
  ⟨gF 0 J J J (cz J),
  ⟨cL 18 0 J J J (aR (ht J)),
  ⟨cL 19 1 J J J (gq 0 BH J J J),
  ⟨cL 20 2 J J J (bk (r:=rH aN [(1,an (ix.h 0).1 (ix.h 0).2 l.kinds.length),(2,an (ix.h 1).1 (ix.h 1).2 l.open_.length)]) (x:=l) wI J J (fi vE) (.head _) (ht J)),
  ⟨gF 3 J J J (bY rX ky J J),
  ⟨cL 22 4 J J J (bw bK J J),
  ⟨eu 21 3 23 5 J J J J (im n9 eM J J J q_e),
  ⟨cL 24 6 J J J (bY gN cT J J),
  ⟨cL 25 7 J J J (bw bK J J),
  ⟨cL 26 8 J J J (jk J),
  ⟨cL 27 9 J J J (cz J),
  ⟨mH 4 28 10 J J J J (cK J J J J (fun hg=>cz J)),
  ⟨fj 29 11 28 10 J J J J (cK J J J J (fun hg=>hU (aI J hg) hI)),
  ⟨eu 28 10 30 12 J J J J (ki J J),
  ⟨cL 31 13 J J J (cz J),
  ⟨mH 3 32 14 J J J J (cK J J J J (fun hg=>bY mV fU J J)),
  ⟨fj 33 15 32 14 J J J J (cK J J J J (fun hg=>aL vl J J (aI J hg))),
  ⟨fj 34 16 32 14 J J J J (cK J J J J (fun hg=>bR pJ (aI J hg))),
  ⟨fj 35 17 32 14 J J J J (cK J J J J (fun hg=>hU (aI J hg) hI)),
  ⟨eu 32 14 36 18 J J J J (ki J J),
  ⟨cL 37 19 J J J (cz J),
  ⟨mH 4 38 20 J J J J (cK J J J J (fun hg=>cz J)),
  ⟨mH 3 38 20 J J J J (cK J J J J (fun hg=>bY mV fU J J)),
  ⟨fj 40 22 38 20 J J J J (cK J J J J (fun hg=>aL vl J J (aI J hg))),
  ⟨fj 41 23 38 20 J J J J (cK J J J J (fun hg=>bR pJ (aI J hg))),
  ⟨pL 39 21 42 24 38 20 J J J J J (cK J J J J (fun hg=>kw (aI J hg) (aI J hg))),
  ⟨mH 0 38 20 J J J J (cK J J J J (fun hg=>cz J)),
  ⟨fj 44 26 38 20 J J J J (cK J J J J (fun hg=>aR (aI J hg))),
  ⟨fj 45 27 38 20 J J J J (cK J J J J (fun hg=>bz (n:=15) gc J (aI J hg) J)),
  ⟨fj 46 28 38 20 J J J J (cK J J J J (fun hg=>bk (r:=rH aN [(1,an (ix.h 0).1 (ix.h 0).2 l.kinds.length),(2,an (ix.h 1).1 (ix.h 1).2 l.open_.length)]) (x:=l) bZ J J (fi kN) (.head _) (aI J hg))),
  ⟨fj 47 29 38 20 J J J J (cK J J J J (fun hg=>bR dd (aI J hg))),
  ⟨pL 43 25 48 30 38 20 J J J J J (cK J J J J (fun hg=>bD (aI J hg) (aI J hg))),
  ⟨eu 38 20 49 31 J J J J (ki J J),
  ⟨cL 50 32 J J J (xx J),
  be⟩⟩⟩⟩⟩⟩⟩⟩⟩⟩⟩⟩⟩⟩⟩⟩⟩⟩⟩⟩⟩⟩⟩⟩⟩⟩⟩⟩⟩⟩⟩⟩⟩⟩ ?_
 refine am<|ae<|au<|ax rfl<|zo rfl (dn (ht rfl))<|ap<|dh h rfl (fun h=>?_) (fun h=>?_)
 ·refine au<|zo J (eL)<|ap<|al<|aa<|aK<|aK<|aK ?_;cases so h;exact cX J ix J J (fun _ _ h=>h)
 ·refine dz<|au<|ax J<|ax J<|zo J (aR (ht J))<|zo J (gq 15 gc J J J)<|zo J (bk (r:=rH aN [(1,an (ix.h 0).1 (ix.h 0).2 l.kinds.length),(2,an (ix.h 1).1 (ix.h 1).2 l.open_.length)]) (x:=l) bZ J J (fi kN) (.head _) (ht J))<|bF h fun r q_r h=>jj I9 (w9 _ q_r) ⟨(ht J),be⟩ J fun l1 c=>zo J (aR (ht J))<|zo J (gq 17 dZ J J J)<|ca<|fy bZ J (om (hs' :=[(1,an (ix.h 0).1 (ix.h 0).2 l.kinds.length),(2,an (ix.h 1).1 (ix.h 1).2 l.open_.length)]) (iw _ _) ⟨.inr ⟨J,J⟩,.inr ⟨J,J⟩,be⟩ J) J (ht J) (DL (ht J)) ?_;refine(show RG _ _ _ _ [bx (rH bl [(1,an (ix.h 0).1 (ix.h 0).2 l.kinds.length),(2,an (ix.h 1).1 (ix.h 1).2 l.open_.length)]) 124 b (bq l (an l1 c r.length)),cC bV 3 l1 c r,fA gr 29 (ix.h 0).1 (ix.h 0).2 l.kinds,cC bV 3 (ix.h 1).1 (ix.h 1).2 l.open_] _ from ?_);refine ap<|ae<|au<|zo J (bY mg fv J J)<|zo J (bw bZ J J)<|zo J (gJ dd J)<|zo J (bg hI)<|ap<|av<|aP (k:=62) J fun hN=>bu<|fe<|er<|er<|er ?_;refine aG (kB (Z:=fun ls i ok=>(l.n.Keys.drop i=ls)∧hG l r ls i ok=some R) (Of:=fun _ i ok=>[bx (rH bl [(1,an (ix.h 0).1 (ix.h 0).2 l.kinds.length),(2,an (ix.h 1).1 (ix.h 1).2 l.open_.length)]) 124 b (bq l (an l1 c r.length)),fA gr 29 (ix.h 0).1 (ix.h 0).2 l.kinds,cC bV 3 (ix.h 1).1 (ix.h 1).2 l.open_,cC bV 3 l1 c r]) (Gf:=fun _ i ok=>[(0,tV (aF b 0)),(3,bp aS l.n),(4,gR l.n.Keys),(5,gu ok),(62,kC l.n.Keys),(63,gR l.n.Keys),(64,bQ (i:Int))]) (fun i ok h=>?_) (fun e1 tl ih i ok h=>?_) l.n.Keys 0 ((((e.Op==(9:Int))&&(decide ((l.n.Keys.length:Int)≤(3:Int))))&&(decide ((l.n.Aggs.length:Int)≤(12:Int))))&&((IntKind.i64.wrap ((l.n.Keys.length:Int)+(l.n.Aggs.length:Int)))==(l.a_.length:Int))) ⟨J,h⟩) (aX J)
  ·obtain⟨hx,h⟩:=h
   refine aq<|au<|zo J (eD J J)<|ap<|ae<|bn (ht J) (cW hx)<|aY ?_;refine ac (ac (aC ?_));refine am<|ae<|au<|zo rfl (bY mV fU rfl rfl)<|zo rfl (bw vl rfl rfl)<|zo rfl (gJ pJ rfl)<|zo rfl (bg hI)<|ap<|av<|aP (k:=87) J fun hN1=>bu ?_;refine aG (u7 (Z:=fun ls1 i1 ok1 ob l2 c1 l3 c2 l4 c3=>(l.n.Aggs.drop i1=ls1)∧dm l ls1 i1 ok1 ob=some R) (Of:=fun _ i1 ok1 ob l2 c1 l3 c2 l4 c3=>[bx (rH bl [(1,an l2 c1 ob.kinds.length),(2,an l3 c2 ob.open_.length)]) 124 b (bq ob (an l4 c3 ob.result.length)),fA gr 29 l2 c1 ob.kinds,cC bV 3 l3 c2 ob.open_,cC bV 3 l4 c3 ob.result]) (Gf:=fun _ i1 ok1 ob l2 c1 l3 c2 l4 c3=>[(0,tV (aF b 0)),(4,gR l.n.Keys),(5,gu ok1),(87,d6 (fu) l.n.Aggs),(88,gR l.n.Aggs),(89,bQ (i1:Int))]) (fun i1 ok1 ob l2 c1 l3 c2 l4 c3 h=>?_) (fun e2 tl1 ih1 i1 ok1 ob l2 c1 l3 c2 l4 c3 h=>?_) l.n.Aggs 0 ok ({l with result:=r}:af) (ix.h 0).1 (ix.h 0).2 (ix.h 1).1 (ix.h 1).2 l1 c ⟨J,h⟩) (aX J)
   ·obtain⟨hx1,h⟩:=h
    refine aq<|au<|zo J (eD J J)<|ap<|ae<|bn (ht J) (cW hx1)<|aY ?_;refine ac (ac (aC ?_));refine am<|au<|ax rfl<|bo rfl<|ap<|al<|bA<|gy<|br<|pH (r' :=rH aN [(1,an l2 c1 ob.kinds.length),(2,an l3 c2 ob.open_.length)]) (x' :=ob) (fun _ _ _ ho h=>LM h (fun h=>fx (kc ho (.head _)) h))<|br<|bv<|aK<|aK<|aK ?_;cases so h;exact cX J (G7 [(l2,c1),(l3,c2)]) J J (fun _ _ h=>h)
   ·obtain⟨hx1,h⟩:=h
    refine aq<|au<|zo J (eD J J)<|ap<|ae<|bm (ht J) (cR hx1)<|dz<|ae<|av<|au<|ax J<|zo J (im pJ jo J J J (cS hx1))<|zo J (bw jo J J)<|bc (r:=fu) (x:=Gq) jo (fun _=>vj _) J fun b2=>bo J<|aE jo J ay J (ht J) (ht J)<|aV 9 J<|ap<|ae ?_;refine ai<|ax J<|zo J (aR (ht J))<|zo J (gq 15 gc J J J)<|zo J (bk (r:=rH bl [(1,an l2 c1 ob.kinds.length),(2,an l3 c2 ob.open_.length)]) (x:=bq ob (an l4 c3 ob.result.length)) bZ J J (fi gP) (.head _) (ht J))<|ax J<|ax J<|zo J (kw (ht J) (ht J))<|bF h fun e3 q_e3 h=>zo J (im dd bK J J J q_e3)<|zo J (bw bK J J)<|bo J<|ap<|au<|ax J<|ax J<|bC J J (fun hg=>bY uQ rU J J)<|bC J J (fun hg=>cI fV J dj J (aI J hg))<|bC J J (fun hg=>aL mJ J J (aI J hg))<|bC J J (fun hg=>bR kE (aI J hg))<|bC J J (fun hg=>bD (aI J hg) hI)<|zo J (ki J J) ?_;refine bo J<|ap<|au<|zo J (bY lj jM J J)<|zo J (bw bK J J)<|ap<|av ?_;refine fX (Z:=fun x=>hJ l (dm l tl1) i1 e2 ok1 ob e3 x=some R) (Of:=fun x=>[bx (rH bl [(1,an l2 c1 ob.kinds.length),(2,an l3 c2 ob.open_.length)]) 124 b (bq ob (an l4 c3 ob.result.length)),fA gr 29 l2 c1 ob.kinds,cC bV 3 l3 c2 ob.open_,cC bV 3 l4 c3 ob.result]) (Gf:=fun x=>[(0,tV (aF b 0)),(4,gR l.n.Keys),(5,gu (ok1&&((e2.Arg.Nodes.length:Int)==(0:Int)))),(8,bQ (i1:Int)),(10,bQ e3),(87,d6 (fu) l.n.Aggs),(88,gR l.n.Aggs),(89,bQ (i1:Int)),(112,bQ e2.Tag),(113,gu x)]) (fun x h=>?_) (fun K=>?_)
    ·skip
     refine dh h J (fun h=>?_) (fun h=>?_)
     ·refine ai<|ax J<|ax J<|bC J J (fun hg=>cz J)<|bC J J (fun hg=>bD (aI J hg) hI)<|zo J (ki J J)<|bo J<|aH<|ak<|ak<|am<|ai<|zo rfl (jN (cy hx1 hN1) rfl)<|ax rfl<|aH ?_;exact aO (aG (ih1 (i1+1) ((ok1&&((e2.Arg.Nodes.length:Int)==(0:Int)))&&(e3==(2:Int))) ob l2 c1 l3 c2 l4 c3 ⟨cx hx1,h⟩) (aX J))
     ·refine au<|zo J (jk J)<|bo J<|ap<|dh h J (fun h=>?_) (fun h=>?_)
      ·refine au<|ax J<|ax J<|bC J J (fun hg=>cz J)<|bC J J (fun hg=>bD (aI J hg) hI)<|zo J (ki J J)<|bo J<|ap<|ai<|ax J<|zo J (aR (ht J))<|zo J (gq 17 dZ J J J)<|zo J (fC bZ (fi iD) (.head _) J (ht J))<|ax J<|ax J<|zo J (kw (ht J) (ht J))<|bF h fun e4 q_e4 h=>zo J (cH dd bK (.tail _ (.tail _ (.tail _ (.head _)))) (ht J) (ht J) q_e4)<|fW<|bF h fun st q_st h=>m2 bK J ay J q_e4 (so q_st) (ht J) hI<|ji (iO (so q_st)) 131 J ?_;refine qa (O' :=[cC bV 3 l4 c3 st,bx (rH bl [(1,an l2 c1 ob.kinds.length),(2,an l3 c2 ob.open_.length)]) 124 b (bq ob (an l4 c3 st.length)),fA gr 29 l2 c1 ob.kinds,cC bV 3 l3 c2 ob.open_]) (by rw [iO (so q_st)])<|aH<|ak<|ak<|am<|ai<|zo rfl (jN (cy hx1 hN1) rfl)<|ax rfl<|aH<|bA<|bA<|bA ?_;exact aO (aG (ih1 (i1+1) ((ok1&&((e2.Arg.Nodes.length:Int)==(0:Int)))&&(e3==(4:Int))) ({ob with result:=st}:af) l2 c1 l3 c2 l4 c3 ⟨cx hx1,h⟩) (aX J))
      ·refine fX (Z:=fun x1=>jx (dm l tl1) i1 e2 ok1 ob e3 x1=some R) (Of:=fun x1=>[bx (rH bl [(1,an l2 c1 ob.kinds.length),(2,an l3 c2 ob.open_.length)]) 124 b (bq ob (an l4 c3 ob.result.length)),fA gr 29 l2 c1 ob.kinds,cC bV 3 l3 c2 ob.open_,cC bV 3 l4 c3 ob.result]) (Gf:=fun x1=>[(0,tV (aF b 0)),(4,gR l.n.Keys),(5,gu (ok1&&((e2.Arg.Nodes.length:Int)==(0:Int)))),(10,bQ e3),(87,d6 (fu) l.n.Aggs),(88,gR l.n.Aggs),(89,bQ (i1:Int)),(136,gu x1)]) (fun x1 h=>?_) (fun K1=>?_)
       ·skip
        refine dh h J (fun h=>?_) (fun h=>?_)
        ·refine ai<|ax J<|ax J<|bC J J (fun hg=>cz J)<|bC J J (fun hg=>cZ (aI J hg) hI)<|zo J (ki J J)<|bo J<|aH<|ak<|ak<|am<|ai<|zo rfl (jN (cy hx1 hN1) rfl)<|ax rfl<|aH ?_;exact aO (aG (ih1 (i1+1) ((ok1&&((e2.Arg.Nodes.length:Int)==(0:Int)))&&(e3 !=(4:Int))) ob l2 c1 l3 c2 l4 c3 ⟨cx hx1,h⟩) (aX J))
        ·refine ai<|zo J (eL)<|aH<|ak<|ak<|am<|ai<|zo rfl (jN (cy hx1 hN1) rfl)<|ax rfl<|aH ?_;exact aO (aG (ih1 (i1+1) false ob l2 c1 l3 c2 l4 c3 ⟨cx hx1,h⟩) (aX J))
       ·skip
        refine au<|zo J (jk J)<|bo J<|ap<|dh h J (fun h=>?_) (fun h=>?_)
        ·refine bt ?_;exact bX (K1 (e2.Tag==(4:Int)) h) (aX J)
        ·refine ai<|zo J (jk J)<|bo J<|aH ?_;exact bX (K1 (e2.Tag==(5:Int)) h) (aX J)
    ·skip
     refine au<|zo J (jk J)<|bo J<|ap<|dh h J (fun h=>?_) (fun h=>?_)
     ·refine bt ?_;exact bX (K (e2.Tag==(1:Int)) h) (aX J)
     ·refine ai<|zo J (jk J)<|bo J<|aH ?_;exact bX (K (e2.Tag==(2:Int)) h) (aX J)
  ·obtain⟨hx,h⟩:=h
   refine aq<|au<|zo J (eD J J)<|ap<|ae<|bm (ht J) (cR hx)<|dz<|ae<|av<|au<|ax J<|zo J (im dd bK J J J (cS hx))<|zo J (bw bK J J)<|bo J<|bo J<|ap<|ai<|ax J<|ax J ?_;refine bC J J (fun hg=>cz J)<|bC J J (fun hg=>cz J)<|bC J J (fun hg=>bD (aI J hg) (aI J hg))<|zo J (ki J J)<|ax J<|bF h fun t q_t h=>bC J J (fun hg=>cz J)<|bC J J (fun hg=>aR (aI J hg))<|bC J J (fun hg=>bz (n:=15) gc J (aI J hg) J)<|bC J J (fun hg=>bk (r:=rH bl [(1,an (ix.h 0).1 (ix.h 0).2 l.kinds.length),(2,an (ix.h 1).1 (ix.h 1).2 l.open_.length)]) (x:=bq l (an l1 c r.length)) bZ J J (fi gP) (.head _) (aI J hg))<|bC J J (fun hg=>cz J) ?_
   obtain⟨e5,h1t,h0t⟩:=og q_t
   have q_e5g:=fun hb=>(h1t hb).1
   refine bC J J (fun hg=>b9 dd bK J (aI J hg) (aI J hg) (q_e5g hg))<|bC J J (fun hg=>aL bK J J (aI J hg))<|bC J J (fun hg=>cZ (aI J hg) hI)<|zo J (cV (ht J) (fun hb=>(aI J hb)) (fun hb=>(h1t hb).2) h0t)<|bo J<|aH<|ak<|am<|ai<|zo rfl (jN (cy hx hN) rfl)<|ax rfl<|aH ?_;exact aO (aG (ih (i+1) t ⟨cx hx,h⟩) (aX J))

theorem Pj(b:Nat)(ix:OI)(l:af){R:Bool×af}(h:iB l=some R):eV aM 90 [tV (aF b 0)] (dl b l ix) (fun _:OI=>gu R.1) (fun j=>dl b R.2 j):=by
 refine eV.of Tryz.func90 J J J fun w0 S0=>?_;refine(show CG _ _ _ [bx (rH aN [(1,an (ix.h 0).1 (ix.h 0).2 l.kinds.length),(2,an (ix.h 1).1 (ix.h 1).2 l.open_.length)]) 124 b l,fA gr 29 (ix.h 0).1 (ix.h 0).2 l.kinds,cC bV 3 (ix.h 1).1 (ix.h 1).2 l.open_] _ from ?_);refine au<|zo J (eL)<|ap<|au<|ax J<|zo J (aR (ht J))<|zo J (gq 17 dZ J J J)<|ci false bV 3<|ca<|fy bZ J (om (hs' :=[(1,an (ix.h 0).1 (ix.h 0).2 l.kinds.length),(2,an (ix.h 1).1 (ix.h 1).2 l.open_.length)]) (iw _ _) ⟨.inr ⟨J,J⟩,.inr ⟨J,J⟩,be⟩ J) J (ht J) (DL (show aw _ _ _ JG from rQ)) ?_;refine(show RG _ _ _ _ [bx (rH bl [(1,an (ix.h 0).1 (ix.h 0).2 l.kinds.length),(2,an (ix.h 1).1 (ix.h 1).2 l.open_.length)]) 124 b (bq l (an none 0 (lS.length))),cC bV 3 none 0 lS,fA gr 29 (ix.h 0).1 (ix.h 0).2 l.kinds,cC bV 3 (ix.h 1).1 (ix.h 1).2 l.open_] _ from ?_);refine ap<|ae<|au<|ax J<|zo J (aR (ht J))<|zo J (gq 3 eU J J J)<|zo J (gq 12 EG J J J)<|zo J (bk (r:=rH bl [(1,an (ix.h 0).1 (ix.h 0).2 l.kinds.length),(2,an (ix.h 1).1 (ix.h 1).2 l.open_.length)]) (x:=bq l (an none 0 (lS.length))) MS J J (fi (eP rR tJ)) (.head _) (ht J))<|zo J (gJ A2 J)<|zo J (bg hI)<|ap<|av<|aP (k:=14) J fun hN=>bu<|fe<|er<|er<|er ?_;refine aG (qb (Z:=fun ls i ob l1 c l2 c1 l3 c2=>(l.n.Items.drop i=ls)∧gi ls ob=some R) (Of:=fun _ i ob l1 c l2 c1 l3 c2=>[bx (rH bl [(1,an l1 c ob.kinds.length),(2,an l2 c1 ob.open_.length)]) 124 b (bq ob (an l3 c2 ob.result.length)),fA gr 29 l1 c ob.kinds,cC bV 3 l2 c1 ob.open_,cC bV 3 l3 c2 ob.result]) (Gf:=fun _ i ob l1 c l2 c1 l3 c2=>[(0,tV (aF b 0)),(14,d6 (cm) l.n.Items),(15,gR l.n.Items),(16,bQ (i:Int))]) (fun i ob l1 c l2 c1 l3 c2 h=>?_) (fun e tl ih i ob l1 c l2 c1 l3 c2 h=>?_) l.n.Items 0 ({l with result:=lS}:af) (ix.h 0).1 (ix.h 0).2 (ix.h 1).1 (ix.h 1).2 none 0 ⟨J,h⟩) (aX J)
 ·obtain⟨hx,h⟩:=h
  refine aq<|au<|zo J (eD J J)<|ap<|ae<|bn (ht J) (cW hx)<|aY ?_;refine ac (ac (aC ?_));refine am<|au<|ax rfl<|zo rfl (aR (ht rfl))<|zo rfl (gq 17 dZ rfl rfl rfl)<|zo rfl (fC bZ (fi iD) (.head _) rfl (ht rfl))<|zo rfl (eT dd (.tail _ (.tail _ (.tail _ (.head _)))) (ht rfl))<|zo rfl (fG (ht rfl) hI)<|bo rfl<|ap<|al<|bA<|gy<|ii 45 rfl<|br<|pH (r' :=rH aN [(1,an l1 c ob.kinds.length),(2,an l2 c1 ob.open_.length)]) (x' :=ob) (fun _ _ _ ho h=>LM h (fun h=>fx (kc ho (.head _)) h))<|br<|bv<|aK<|aK<|aK ?_;cases so h;exact cX J (G7 [(l1,c),(l2,c1)]) J J (fun _ _ h=>h)
 ·obtain⟨hx,h⟩:=h
  refine aq<|au<|zo J (eD J J)<|ap<|ae<|bm (ht J) (cR hx)<|dz<|ae<|av<|au<|zo J (im A2 kV J J J (cS hx))<|zo J (bw kV J J)<|bc (r:=cm) (x:=tm) kV (fun _=>wQ _) J fun b1=>aE kV J ay J (ht J) (ht J)<|aV 4 J<|ap<|ae<|bF h fun r q_r h=>?_
  refine eb (ts:=[_,_,_,_,_,_,_,_,_,_,_]) mixed J J
   ⟨gF 4 J J J (bw kV J J),
   ⟨gF 0 J J J (cz J),
   ⟨cL 22 1 J J J (aR (ht J)),
   ⟨cL 23 2 J J J (gq 15 gc J J J),
   ⟨cL 24 3 J J J (bk (r:=rH bl [(1,an l1 c ob.kinds.length),(2,an l2 c1 ob.open_.length)]) (x:=bq ob (an l3 c2 ob.result.length)) bZ J J (fi gP) (.head _) (ht J)),
   ⟨eu 21 0 25 4 J J J J (aJ F1 (xa _ _ q_r) ⟨(ht J),(ht J),be⟩),
   ⟨cL 26 5 J J J (cz J),
   ⟨cL 20 6 J J J (lg J J),
   ⟨cL 20 6 J J J (lg J J),
   ⟨cL 27 7 J J J (xx J),
   ⟨cL 28 8 J J J (xx J),
   be⟩⟩⟩⟩⟩⟩⟩⟩⟩⟩⟩ ?_
  refine am<|ae<|au<|ax rfl<|zo rfl (qZ rfl)<|ap<|dh h rfl (fun h=>?_) (fun h=>?_)
  ·refine au<|zo J (eL)<|ap<|al ?_;refine aa (aA (aa (aa (aA (aa ?_)))));refine bA<|gy<|br<|pH (r' :=rH aN [(1,an l1 c ob.kinds.length),(2,an l2 c1 ob.open_.length)]) (x' :=ob) (fun _ _ _ ho h=>LM h (fun h=>fx (kc ho (.head _)) h))<|br<|bv<|aK<|aK<|aK ?_;cases so h;exact cX J (G7 [(l1,c),(l2,c1)]) J J (fun _ _ h=>h)
  ·refine dz<|ai<|ax J<|ax J<|zo J (aR (ht J))<|zo J (gq 17 dZ J J J)<|zo J (fC bZ (fi iD) (.head _) J (ht J))<|ax J<|zo J (ba (r:=bV) (ys:=[r.1]) (xs:=[.tmp 36]) dd bK J J J J J ⟨(ht J),be⟩)<|fW<|bF h fun l4 q_l4 h=>dv bK J J J J dd J J (ht J) (ht J) q_l4 fun l5 c3=>zo J (aR (ht J))<|zo J (gq 17 dZ J J J)<|ca<|fy bZ J (om (hs' :=[(1,an l1 c ob.kinds.length),(2,an l2 c1 ob.open_.length)]) (fB _ _ _) ⟨.inr ⟨J,J⟩,.inr ⟨J,J⟩,be⟩ J) J (ht J) (DL (ht J)) ?_;refine(show RG _ _ _ _ [bx (rH bl [(1,an l1 c ob.kinds.length),(2,an l2 c1 ob.open_.length)]) 124 b (bq ob (an l5 c3 l4.length)),cC bV 3 l5 c3 l4,fA gr 29 l1 c ob.kinds,cC bV 3 l2 c1 ob.open_] _ from ?_);refine aH<|ak<|am<|ai<|zo rfl (jN (cy hx hN) rfl)<|ax rfl<|aH<|br<|bA<|bA<|bA ?_;exact aO (aG (ih (i+1) ({ob with result:=l4}:af) l1 c l2 c1 l5 c3 ⟨cx hx,h⟩) (aX J))

theorem Pi(b:Nat)(ix:OI)(l:af){R:Bool×af}(h:jL l=some R):eV aM 91 [tV (aF b 0)] (dl b l ix) (fun _:OI=>gu R.1) (fun j=>dl b R.2 j):=by
 refine eV.of Tryz.func91 J J J fun w0 S0=>?_;refine(show CG _ _ _ [bx (rH aN [(1,an (ix.h 0).1 (ix.h 0).2 l.kinds.length),(2,an (ix.h 1).1 (ix.h 1).2 l.open_.length)]) 124 b l,fA gr 29 (ix.h 0).1 (ix.h 0).2 l.kinds,cC bV 3 (ix.h 1).1 (ix.h 1).2 l.open_] _ from ?_);refine au<|zo J (eL)<|ap<|au<|ax J<|ax J<|zo J (aR (ht J))<|zo J (gq 15 gc J J J)<|zo J (bk (r:=rH aN [(1,an (ix.h 0).1 (ix.h 0).2 l.kinds.length),(2,an (ix.h 1).1 (ix.h 1).2 l.open_.length)]) (x:=l) bZ J J (fi kN) (.head _) (ht J))<|zo J (aR (ht J))<|zo J (gq 17 dZ J J J)<|ll (gD bZ J (rA (hs' :=[(1,an (ix.h 0).1 (ix.h 0).2 l.kinds.length),(2,an (ix.h 1).1 (ix.h 1).2 l.open_.length)]) nY ⟨.inr ⟨J,J⟩,.inr ⟨J,J⟩,be⟩ J) J (ht J) (ht J)) fun i=>?_;refine(show RG _ _ _ _ [bx (rH aN [(1,an (ix.h 0).1 (ix.h 0).2 l.kinds.length),(2,an (ix.h 1).1 (ix.h 1).2 l.open_.length)]) 124 b ({l with result:=l.a_}:af),fA gr 29 (ix.h 0).1 (ix.h 0).2 l.kinds,cC bV 3 (ix.h 1).1 (ix.h 1).2 l.open_] _ from ?_);refine ap<|au<|zo J (eL)<|ap<|al<|aK<|aK<|aK ?_;cases so h;exact cX J ix J J (fun _ _ h=>h)

theorem Ph(b:Nat)(ix:OI)(l:af){R:Bool×af}(h:ip l=some R):eV aM 92 [tV (aF b 0)] (dl b l ix) (fun _:OI=>gu R.1) (fun j=>dl b R.2 j):=by
 refine eV.of Tryz.func92 J J J fun w0 S0=>?_;refine(show CG _ _ _ [bx (rH aN [(1,an (ix.h 0).1 (ix.h 0).2 l.kinds.length),(2,an (ix.h 1).1 (ix.h 1).2 l.open_.length)]) 124 b l,fA gr 29 (ix.h 0).1 (ix.h 0).2 l.kinds,cC bV 3 (ix.h 1).1 (ix.h 1).2 l.open_] _ from ?_);refine au<|zo J (eL)<|ap<|ae<|ae ?_
 refine eb (ts:=[_,_,_,_,_,_,_,_,_,_,_]) mixed J J
  ⟨gF 0 J J J (cz J),
  ⟨cL 6 0 J J J (aR (ht J)),
  ⟨cL 7 1 J J J (gq 15 gc J J J),
  ⟨cL 8 2 J J J (bk (r:=rH aN [(1,an (ix.h 0).1 (ix.h 0).2 l.kinds.length),(2,an (ix.h 1).1 (ix.h 1).2 l.open_.length)]) (x:=l) bZ J J (fi kN) (.head _) (ht J)),
  ⟨cL 9 3 J J J (gJ dd J),
  ⟨gF 0 J J J (cz J),
  ⟨cL 11 5 J J J (aR (ht J)),
  ⟨cL 12 6 J J J (gq 16 uP J J J),
  ⟨cL 13 7 J J J (bk (r:=rH aN [(1,an (ix.h 0).1 (ix.h 0).2 l.kinds.length),(2,an (ix.h 1).1 (ix.h 1).2 l.open_.length)]) (x:=l) bZ J J (fi AA) (.head _) (ht J)),
  ⟨cL 14 8 J J J (gJ dd J),
  ⟨eu 10 4 15 9 J J J J (cZ (ht J) (ht J)),
  be⟩⟩⟩⟩⟩⟩⟩⟩⟩⟩⟩ ?_
 refine am<|dh h rfl (fun h=>?_) (fun h=>?_)
 ·refine au<|zo J (eL)<|ap<|al<|aa<|aK<|aK<|aK ?_;cases so h;exact cX J ix J J (fun _ _ h=>h)
 ·refine dz<|au<|ax J<|zo J (aR (ht J))<|zo J (gq 17 dZ J J J)<|ci false bV 3<|ca<|fy bZ J (om (hs' :=[(1,an (ix.h 0).1 (ix.h 0).2 l.kinds.length),(2,an (ix.h 1).1 (ix.h 1).2 l.open_.length)]) (iw _ _) ⟨.inr ⟨J,J⟩,.inr ⟨J,J⟩,be⟩ J) J (ht J) (DL (show aw _ _ _ JG from rQ)) ?_;refine(show RG _ _ _ _ [bx (rH bl [(1,an (ix.h 0).1 (ix.h 0).2 l.kinds.length),(2,an (ix.h 1).1 (ix.h 1).2 l.open_.length)]) 124 b (bq l (an none 0 (lS.length))),cC bV 3 none 0 lS,fA gr 29 (ix.h 0).1 (ix.h 0).2 l.kinds,cC bV 3 (ix.h 1).1 (ix.h 1).2 l.open_] _ from ?_);refine ap<|ae<|au<|ax J<|zo J (aR (ht J))<|zo J (gq 15 gc J J J)<|zo J (bk (r:=rH bl [(1,an (ix.h 0).1 (ix.h 0).2 l.kinds.length),(2,an (ix.h 1).1 (ix.h 1).2 l.open_.length)]) (x:=bq l (an none 0 (lS.length))) bZ J J (fi gP) (.head _) (ht J))<|zo J (gJ dd J)<|zo J (bg hI)<|ap<|av<|aP (k:=23) J fun hN=>bu<|fe<|er<|er<|er ?_;refine aG (qb (Z:=fun ls i ob l1 c l2 c1 l3 c2=>(l.a_.drop i=ls)∧ef ls i ob=some R) (Of:=fun _ i ob l1 c l2 c1 l3 c2=>[bx (rH bl [(1,an l1 c ob.kinds.length),(2,an l2 c1 ob.open_.length)]) 124 b (bq ob (an l3 c2 ob.result.length)),fA gr 29 l1 c ob.kinds,cC bV 3 l2 c1 ob.open_,cC bV 3 l3 c2 ob.result]) (Gf:=fun _ i ob l1 c l2 c1 l3 c2=>[(0,tV (aF b 0)),(23,kC l.a_),(24,gR l.a_),(25,bQ (i:Int))]) (fun i ob l1 c l2 c1 l3 c2 h=>?_) (fun e tl ih i ob l1 c l2 c1 l3 c2 h=>?_) l.a_ 0 ({l with result:=lS}:af) (ix.h 0).1 (ix.h 0).2 (ix.h 1).1 (ix.h 1).2 none 0 ⟨J,h⟩) (aX J)
  ·obtain⟨hx,h⟩:=h
   refine aq<|au<|zo J (eD J J)<|ap<|ae<|bn (ht J) (cW hx)<|aY ?_;refine ac (ac (aC ?_));refine am<|au<|zo rfl (eL)<|ap<|al<|bA<|gy<|br<|pH (r' :=rH aN [(1,an l1 c ob.kinds.length),(2,an l2 c1 ob.open_.length)]) (x' :=ob) (fun _ _ _ ho h=>LM h (fun h=>fx (kc ho (.head _)) h))<|br<|bv<|aK<|aK<|aK ?_;cases so h;exact cX J (G7 [(l1,c),(l2,c1)]) J J (fun _ _ h=>h)
  ·obtain⟨hx,h⟩:=h
   refine aq<|au<|zo J (eD J J)<|ap<|ae<|bm (ht J) (cR hx)<|dz<|ae<|av<|au<|ax J<|zo J (im dd bK J J J (cS hx))<|zo J (bw bK J J)<|bo J<|bo J<|ap<|au<|ax J ?_;refine zo J (aR (ht J))<|zo J (gq 16 uP J J J)<|zo J (bk (r:=rH bl [(1,an l1 c ob.kinds.length),(2,an l2 c1 ob.open_.length)]) (x:=bq ob (an l3 c2 ob.result.length)) bZ J J (fi C8) (.head _) (ht J))<|ax J<|bF h fun e1 q_e1 h=>zo J (im dd bK J J J q_e1)<|zo J (bw bK J J)<|bo J<|ap ?_;refine fX (Z:=fun k=>fP (ef tl) i ob e1 k=some R) (Of:=fun k=>[bx (rH bl [(1,an l1 c ob.kinds.length),(2,an l2 c1 ob.open_.length)]) 124 b (bq ob (an l3 c2 ob.result.length)),fA gr 29 l1 c ob.kinds,cC bV 3 l2 c1 ob.open_,cC bV 3 l3 c2 ob.result]) (Gf:=fun k=>[(0,tV (aF b 0)),(4,bQ k),(5,bQ e1),(23,kC l.a_),(24,gR l.a_),(25,bQ (i:Int))]) (fun k h=>?_) (fun K=>?_)
   ·skip
    refine ae<|au<|ax J<|zo J (qZ J)<|ax J<|bC J J (fun hg=>cz J)<|bC J J (fun hg=>cz J)<|bC J J (fun hg=>cZ (aI J hg) (aI J hg))<|zo J (ki J J)<|ap<|dh h J (fun h=>?_) (fun h=>?_)
    ·refine au<|zo J (eL)<|ap<|al ?_;refine aa (aA (aa (aa (aA (aa ?_)))));refine bA<|gy<|br<|pH (r' :=rH aN [(1,an l1 c ob.kinds.length),(2,an l2 c1 ob.open_.length)]) (x' :=ob) (fun _ _ _ ho h=>LM h (fun h=>fx (kc ho (.head _)) h))<|br<|bv<|aK<|aK<|aK ?_;cases so h;exact cX J (G7 [(l1,c),(l2,c1)]) J J (fun _ _ h=>h)
    ·refine dz<|ai<|ax J<|ax J<|zo J (aR (ht J))<|zo J (gq 17 dZ J J J)<|zo J (fC bZ (fi iD) (.head _) J (ht J))<|ax J<|zo J (ba (r:=bV) (ys:=[k]) (xs:=[.tmp 52]) dd bK J J J J J ⟨(ht J),be⟩)<|fW<|bF h fun l4 q_l4 h=>dv bK J J J J dd J J (ht J) (ht J) q_l4 fun l5 c3=>zo J (aR (ht J))<|zo J (gq 17 dZ J J J)<|ca<|fy bZ J (om (hs' :=[(1,an l1 c ob.kinds.length),(2,an l2 c1 ob.open_.length)]) (fB _ _ _) ⟨.inr ⟨J,J⟩,.inr ⟨J,J⟩,be⟩ J) J (ht J) (DL (ht J)) ?_;refine(show RG _ _ _ _ [bx (rH bl [(1,an l1 c ob.kinds.length),(2,an l2 c1 ob.open_.length)]) 124 b (bq ob (an l5 c3 l4.length)),cC bV 3 l5 c3 l4,fA gr 29 l1 c ob.kinds,cC bV 3 l2 c1 ob.open_] _ from ?_);refine aH<|ak<|am<|ai<|zo rfl (jN (cy hx hN) rfl)<|ax rfl<|aH<|br<|bA<|bA<|bA ?_;exact aO (aG (ih (i+1) ({ob with result:=l4}:af) l1 c l2 c1 l5 c3 ⟨cx hx,h⟩) (aX J))
   ·skip
    refine au<|ax J<|zo J (jk J)<|ap<|dh h J (fun h=>?_) (fun h=>?_)
    ·refine ai<|ax J<|bo J<|aH ?_;exact bX (K e1 h) (aX J)
    ·refine bt ?_;exact bX (K e h) (aX J)

end Go.Proofs.YtmogpgcfognefaaGreatDoor

