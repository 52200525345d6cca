/- cF of this claim: P3. -/
import Derived.Test.YtmogpgcfognefaaGreatDoorNbT
import Derived.Test.YtmogpgcfognefaaGreatDoorNbP2
set_option linter.all false
namespace Go.Proofs.YtmogpgcfognefaaGreatDoor
open Go
set_option maxRecDepth 100000

theorem M6(b:Nat)(ix:OI)(l:af){R:Bool×af}(h:gL l=some R):fQ aP 88 [tV (aD b 0)] (dm b l ix) (fun _:OI=>ij R.1) (fun j=>dm b R.2 j):=by
 refine fQ.of Tryz.func88 J J J fun w0 S0=>?_;refine(show CG _ _ _ [bx (rH aN [(1,ai (ix.h 0).1 (ix.h 0).2 l.kinds.length),(2,ai (ix.h 1).1 (ix.h 1).2 l.open_.length)]) 124 b l,gX gH 29 (ix.h 0).1 (ix.h 0).2 l.kinds,cr bU 3 (ix.h 1).1 (ix.h 1).2 l.open_] _ from ?_);refine aq<|zo J (fP)<|ap<|aq<|aA J<|bP h fun r q_r h=>xP (EffOK.fr2 (EffOK.fr2 (EffOK.fr2 (zr (xs:=[.tmp 6]) (ts:=[tV (aD b 0)]) (dm b l ix) _ J Nl (M7 b ix l q_r) ⟨(ht J),be⟩ (fun _=>J))))) J fun i=>?_;refine(show RG _ _ _ _ [bx (rH ba [(1,ai (i.h 0).1 (i.h 0).2 r.2.kinds.length),(2,ai (i.h 1).1 (i.h 1).2 r.2.open_.length)]) 124 b (bl r.2 (ai (i.h 2).1 (i.h 2).2 r.2.result.length)),gX gH 29 (i.h 0).1 (i.h 0).2 r.2.kinds,cr bU 3 (i.h 1).1 (i.h 1).2 r.2.open_,cr bU 3 (i.h 2).1 (i.h 2).2 r.2.result] ((7,ij r.1)::_)from ?_);refine bu J<|ap<|ae<|aq<|aA J<|zo J (d7 (ht J))<|ap<|dQ h J (fun h=>?_) (fun h=>?_)
 ·refine aq<|zo J (fP)<|ap<|am<|aa<|bm<|ii<|bf<|pm (r' :=rH aN [(1,ai (i.h 0).1 (i.h 0).2 r.2.kinds.length),(2,ai (i.h 1).1 (i.h 1).2 r.2.open_.length)]) (x' :=r.2) (fun _ _ _ ho h=>JP h (fun h=>fJ (iT ho (.head _)) h))<|bf<|bw<|aJ<|aJ<|aJ ?_;cases so h;exact cZ J i J J (fun _ _ h=>h)
 ·refine eK<|ae<|aq<|aA J<|zo J (aR (ht J))<|zo J (fq 3 eX J J J)<|zo J (fq 11 kZ J J J)<|zo J (aV (r:=rH ba [(1,ai (i.h 0).1 (i.h 0).2 r.2.kinds.length),(2,ai (i.h 1).1 (i.h 1).2 r.2.open_.length)]) (x:=bl r.2 (ai (i.h 2).1 (i.h 2).2 r.2.result.length)) qP J J (fy (ew q6 fI)) (.head _) (ht J))<|zo J (jL mO J)<|zo J (bj hI)<|ap<|av<|aY (k:=14) J fun hN=>bO ?_;refine aM (pH (Z:=fun ls i1 ob l1 c l2 c1 l3 c2=>(r.2.n.Aggs.drop i1=ls)∧fk ls i1 ob=some R) (Of:=fun _ i1 ob l1 c l2 c1 l3 c2=>[bx (rH ba [(1,ai l1 c ob.kinds.length),(2,ai l2 c1 ob.open_.length)]) 124 b (bl ob (ai l3 c2 ob.result.length)),gX gH 29 l1 c ob.kinds,cr bU 3 l2 c1 ob.open_,cr bU 3 l3 c2 ob.result]) (Gf:=fun _ i1 ob l1 c l2 c1 l3 c2=>[(0,tV (aD b 0)),(14,fX (cT) r.2.n.Aggs),(15,jt r.2.n.Aggs),(16,cd (i1:Int))]) (fun i1 ob l1 c l2 c1 l3 c2 h=>?_) (fun e tl ih i1 ob l1 c l2 c1 l3 c2 h=>?_) r.2.n.Aggs 0 r.2 (i.h 0).1 (i.h 0).2 (i.h 1).1 (i.h 1).2 (i.h 2).1 (i.h 2).2 ⟨J,h⟩) (bh J)
  ·obtain⟨hx,h⟩:=h
   refine au<|aq<|zo J (fM J J)<|ap<|ae<|bt (ht J) (du hx)<|bn ?_;refine ac (ac (aG ?_));refine an<|aq<|zo rfl (fP)<|ap<|am<|bm<|ii<|bf<|pm (r' :=rH aN [(1,ai l1 c ob.kinds.length),(2,ai l2 c1 ob.open_.length)]) (x' :=ob) (fun _ _ _ ho h=>JP h (fun h=>fJ (iT ho (.head _)) h))<|bf<|bw<|aJ<|aJ<|aJ ?_;cases so h;exact cZ J (FJ [(l1,c),(l2,c1)]) J J (fun _ _ h=>h)
  ·obtain⟨hx,h⟩:=h
   refine au<|aq<|zo J (fM J J)<|ap<|ae<|br (ht J) (dn hx)<|eK<|ae<|av<|aq<|aA J<|zo J (j8 mO gJ J J J (dB hx))<|zo J (bE gJ J J)<|aX (r:=cT) (x:=CB) gJ (fun _=>sD _) J fun b1=>bu J<|aC gJ J ax J (ht J) (ht J)<|aT 5 J<|ap<|ae ?_;refine ak<|zo J (bZ lF kh J J)<|zo J (bE bJ J J)<|zo J (j6 J)<|ap<|dQ h J (fun h=>?_) (fun h=>?_)
   ·obtain⟨e1,q_e1,h⟩:=bs h
    refine oF 13 (ts:=[tV (aD b 0),tV (aD b 0),tV (aD b 17),n6 l3 c2 ob.result,tV (aD b 0),tV (aD b 0),tV (aD b 3),tV (aD b 10),lW ob.n.Keys,jt ob.n.Keys,cd (i1:Int),cd (IntKind.i64.wrap ((ob.n.Keys.length:Int)+(i1:Int))),tV (iE l3 ((IntKind.i64.wrap ((ob.n.Keys.length:Int)+(i1:Int))).toNat*1+0))]) mixed J J J
     ⟨iD 0 J J J (cN J),
     ⟨cR 24 0 J J J (aR (ht J)),
     ⟨cR 25 1 J J J (fq 17 ed J J J),
     ⟨cR 26 2 J J J (dG bV (fy iX) (.head _) J (ht J)),
     ⟨iD 0 J J J (cN J),
     ⟨cR 28 4 J J J (aR (ht J)),
     ⟨cR 29 5 J J J (fq 3 eX J J J),
     ⟨cR 30 6 J J J (fq 10 lq J J J),
     ⟨cR 31 7 J J J (aV (r:=rH ba [(1,ai l1 c ob.kinds.length),(2,ai l2 c1 ob.open_.length)]) (x:=bl ob (ai l3 c2 ob.result.length)) bV J J (fy (ew q6 ff)) (.head _) (ht J)),
     ⟨cR 32 8 J J J (jL dp J),
     ⟨iD 4 J J J (cN J),
     ⟨fB 33 9 34 10 J J J J (nF (ht J) (ht J)),
     ⟨fB 27 3 35 11 J J J J (cz dp bJ (.tail _ (.tail _ (.tail _ (.head _)))) (ht J) (ht J) q_e1),
     be⟩⟩⟩⟩⟩⟩⟩⟩⟩⟩⟩⟩⟩ ?_
    refine eT<|bP h fun st q_st h=>ku bJ J ax J q_e1 (so q_st) (ht J) hI<|iM (gK (so q_st)) 27 J<|mI (O' :=[cr bU 3 l3 c2 st,bx (rH ba [(1,ai l1 c ob.kinds.length),(2,ai l2 c1 ob.open_.length)]) 124 b (bl ob (ai l3 c2 st.length)),gX gH 29 l1 c ob.kinds,cr bU 3 l2 c1 ob.open_]) (by rw [gK (so q_st)])<|aK<|al<|an<|ak<|zo rfl (lk (cQ hx hN) rfl)<|aA rfl<|aK<|bm<|bm<|bm ?_;exact aW (aM (ih (i1+1) ({ob with result:=st}:af) l1 c l2 c1 l3 c2 ⟨cP hx,h⟩) (bh J))
   ·refine bC<|al<|an<|ak<|zo rfl (lk (cQ hx hN) rfl)<|aA rfl<|aK ?_;exact aW (aM (ih (i1+1) ob l1 c l2 c1 l3 c2 ⟨cP hx,h⟩) (bh J))

theorem M5(b:Nat)(ix:OI)(l:af){R:Bool×af}(h:iI l=some R):fQ aP 89 [tV (aD b 0)] (dm b l ix) (fun _:OI=>ij R.1) (fun j=>dm b R.2 j):=by
 refine fQ.of Tryz.func89 J J J fun w0 S0=>?_;refine(show CG _ _ _ [bx (rH aN [(1,ai (ix.h 0).1 (ix.h 0).2 l.kinds.length),(2,ai (ix.h 1).1 (ix.h 1).2 l.open_.length)]) 124 b l,gX gH 29 (ix.h 0).1 (ix.h 0).2 l.kinds,cr bU 3 (ix.h 1).1 (ix.h 1).2 l.open_] _ from ?_);refine aq<|zo J (fP)<|ap<|aq<|aA J<|zo J (aR (ht J))<|zo J (fq 3 eX J J J)<|zo J (aV (r:=rH aN [(1,ai (ix.h 0).1 (ix.h 0).2 l.kinds.length),(2,ai (ix.h 1).1 (ix.h 1).2 l.open_.length)]) (x:=l) d3 J J (fy dS) (.head _) (ht J))<|aX (r:=aE) (x:=AW) d3 (fun _=>fh _) J fun b1=>aC d3 J ax J (ht J) (ht J)<|aT 3 J<|ap<|aq<|zo J (bZ lq ff J J)<|zo J (bE bV J J)<|zo J (jL dp J)<|bu J<|ap ?_;refine ae<|bP h fun e q_e h=>?_
 refine eN (ts:=[_,_,_,_,_,_,_,_,_,_,_,_,_,_,_,_,_,_,_,_,_,_,_,_,_,_,_,_,_,_,_,_,_,_]) mixed J J
  ⟨iD 0 J J J (cN J),
  ⟨cR 18 0 J J J (aR (ht J)),
  ⟨cR 19 1 J J J (fq 0 Az J J J),
  ⟨cR 20 2 J J J (aV (r:=rH aN [(1,ai (ix.h 0).1 (ix.h 0).2 l.kinds.length),(2,ai (ix.h 1).1 (ix.h 1).2 l.open_.length)]) (x:=l) rX J J (fy uU) (.head _) (ht J)),
  ⟨iD 3 J J J (bZ rb kY J J),
  ⟨cR 22 4 J J J (bE bJ J J),
  ⟨fB 21 3 23 5 J J J J (j8 la d3 J J J q_e),
  ⟨cR 24 6 J J J (bZ gD cK J J),
  ⟨cR 25 7 J J J (bE bJ J J),
  ⟨cR 26 8 J J J (j6 J),
  ⟨cR 27 9 J J J (cN J),
  ⟨oe 4 28 10 J J J J (cL J J J J (fun hg=>cN J)),
  ⟨gi 29 11 28 10 J J J J (cL J J J J (fun hg=>jB (aI J hg) hI)),
  ⟨fB 28 10 30 12 J J J J (ky J J),
  ⟨cR 31 13 J J J (cN J),
  ⟨oe 3 32 14 J J J J (cL J J J J (fun hg=>bZ kZ fI J J)),
  ⟨gi 33 15 32 14 J J J J (cL J J J J (fun hg=>aL qP J J (aI J hg))),
  ⟨gi 34 16 32 14 J J J J (cL J J J J (fun hg=>bI mO (aI J hg))),
  ⟨gi 35 17 32 14 J J J J (cL J J J J (fun hg=>jB (aI J hg) hI)),
  ⟨fB 32 14 36 18 J J J J (ky J J),
  ⟨cR 37 19 J J J (cN J),
  ⟨oe 4 38 20 J J J J (cL J J J J (fun hg=>cN J)),
  ⟨oe 3 38 20 J J J J (cL J J J J (fun hg=>bZ kZ fI J J)),
  ⟨gi 40 22 38 20 J J J J (cL J J J J (fun hg=>aL qP J J (aI J hg))),
  ⟨gi 41 23 38 20 J J J J (cL J J J J (fun hg=>bI mO (aI J hg))),
  ⟨sb 39 21 42 24 38 20 J J J J J (cL J J J J (fun hg=>nF (aI J hg) (aI J hg))),
  ⟨oe 0 38 20 J J J J (cL J J J J (fun hg=>cN J)),
  ⟨gi 44 26 38 20 J J J J (cL J J J J (fun hg=>aR (aI J hg))),
  ⟨gi 45 27 38 20 J J J J (cL J J J J (fun hg=>bA (n:=15) gu J (aI J hg) J)),
  ⟨gi 46 28 38 20 J J J J (cL J J J J (fun hg=>aV (r:=rH aN [(1,ai (ix.h 0).1 (ix.h 0).2 l.kinds.length),(2,ai (ix.h 1).1 (ix.h 1).2 l.open_.length)]) (x:=l) bV J J (fy lh) (.head _) (aI J hg))),
  ⟨gi 47 29 38 20 J J J J (cL J J J J (fun hg=>bI dp (aI J hg))),
  ⟨sb 43 25 48 30 38 20 J J J J J (cL J J J J (fun hg=>bv (aI J hg) (aI J hg))),
  ⟨fB 38 20 49 31 J J J J (ky J J),
  ⟨cR 50 32 J J J (yk J),
  be⟩⟩⟩⟩⟩⟩⟩⟩⟩⟩⟩⟩⟩⟩⟩⟩⟩⟩⟩⟩⟩⟩⟩⟩⟩⟩⟩⟩⟩⟩⟩⟩⟩⟩ ?_
 refine an<|ae<|aq<|aA rfl<|zo rfl (d7 (ht rfl))<|ap<|dQ h rfl (fun h=>?_) (fun h=>?_)
 ·refine aq<|zo J (fP)<|ap<|am<|aa<|aJ<|aJ<|aJ ?_;cases so h;exact cZ J ix J J (fun _ _ h=>h)
 ·refine eK<|aq<|aA J<|aA J<|zo J (aR (ht J))<|zo J (fq 15 gu J J J)<|zo J (aV (r:=rH aN [(1,ai (ix.h 0).1 (ix.h 0).2 l.kinds.length),(2,ai (ix.h 1).1 (ix.h 1).2 l.open_.length)]) (x:=l) bV J J (fy lh) (.head _) (ht J))<|bP h fun r q_r h=>jb Hy (wj _ q_r) ⟨(ht J),be⟩ J fun l1 c=>zo J (aR (ht J))<|zo J (fq 17 ed J J J)<|bT<|d9 bV J (om (hs' :=[(1,ai (ix.h 0).1 (ix.h 0).2 l.kinds.length),(2,ai (ix.h 1).1 (ix.h 1).2 l.open_.length)]) (iP _ _) ⟨.inr ⟨J,J⟩,.inr ⟨J,J⟩,be⟩ J) J (ht J) (Aq (ht J)) ?_;refine(show RG _ _ _ _ [bx (rH ba [(1,ai (ix.h 0).1 (ix.h 0).2 l.kinds.length),(2,ai (ix.h 1).1 (ix.h 1).2 l.open_.length)]) 124 b (bl l (ai l1 c r.length)),cr bU 3 l1 c r,gX gH 29 (ix.h 0).1 (ix.h 0).2 l.kinds,cr bU 3 (ix.h 1).1 (ix.h 1).2 l.open_] _ from ?_);refine ap<|ae<|aq<|zo J (bZ lq ff J J)<|zo J (bE bV J J)<|zo J (jL dp J)<|zo J (bj hI)<|ap<|av<|aY (k:=62) J fun hN=>bO<|dV<|ej<|ej<|ej ?_;refine aM (ki (Z:=fun ls i ok=>(l.n.Keys.drop i=ls)∧iq l r ls i ok=some R) (Of:=fun _ i ok=>[bx (rH ba [(1,ai (ix.h 0).1 (ix.h 0).2 l.kinds.length),(2,ai (ix.h 1).1 (ix.h 1).2 l.open_.length)]) 124 b (bl l (ai l1 c r.length)),gX gH 29 (ix.h 0).1 (ix.h 0).2 l.kinds,cr bU 3 (ix.h 1).1 (ix.h 1).2 l.open_,cr bU 3 l1 c r]) (Gf:=fun _ i ok=>[(0,tV (aD b 0)),(3,bB aE l.n),(4,jt l.n.Keys),(5,ij ok),(62,lW l.n.Keys),(63,jt l.n.Keys),(64,cd (i:Int))]) (fun i ok h=>?_) (fun e1 tl ih i ok h=>?_) l.n.Keys 0 ((((e.Op==(9:Int))&&(decide ((l.n.Keys.length:Int)≤(3:Int))))&&(decide ((l.n.Aggs.length:Int)≤(12:Int))))&&((IntKind.i64.wrap ((l.n.Keys.length:Int)+(l.n.Aggs.length:Int)))==(l.a_.length:Int))) ⟨J,h⟩) (bh J)
  ·obtain⟨hx,h⟩:=h
   refine au<|aq<|zo J (fM J J)<|ap<|ae<|bt (ht J) (du hx)<|bn ?_;refine ac (ac (aG ?_));refine an<|ae<|aq<|zo rfl (bZ kZ fI rfl rfl)<|zo rfl (bE qP rfl rfl)<|zo rfl (jL mO rfl)<|zo rfl (bj hI)<|ap<|av<|aY (k:=87) J fun hN1=>bO ?_;refine aM (uj (Z:=fun ls1 i1 ok1 ob l2 c1 l3 c2 l4 c3=>(l.n.Aggs.drop i1=ls1)∧dq l ls1 i1 ok1 ob=some R) (Of:=fun _ i1 ok1 ob l2 c1 l3 c2 l4 c3=>[bx (rH ba [(1,ai l2 c1 ob.kinds.length),(2,ai l3 c2 ob.open_.length)]) 124 b (bl ob (ai l4 c3 ob.result.length)),gX gH 29 l2 c1 ob.kinds,cr bU 3 l3 c2 ob.open_,cr bU 3 l4 c3 ob.result]) (Gf:=fun _ i1 ok1 ob l2 c1 l3 c2 l4 c3=>[(0,tV (aD b 0)),(4,jt l.n.Keys),(5,ij ok1),(87,fX (cT) l.n.Aggs),(88,jt l.n.Aggs),(89,cd (i1:Int))]) (fun i1 ok1 ob l2 c1 l3 c2 l4 c3 h=>?_) (fun e2 tl1 ih1 i1 ok1 ob l2 c1 l3 c2 l4 c3 h=>?_) l.n.Aggs 0 ok ({l with result:=r}:af) (ix.h 0).1 (ix.h 0).2 (ix.h 1).1 (ix.h 1).2 l1 c ⟨J,h⟩) (bh J)
   ·obtain⟨hx1,h⟩:=h
    refine au<|aq<|zo J (fM J J)<|ap<|ae<|bt (ht J) (du hx1)<|bn ?_;refine ac (ac (aG ?_));refine an<|aq<|aA rfl<|bu rfl<|ap<|am<|bm<|ii<|bf<|pm (r' :=rH aN [(1,ai l2 c1 ob.kinds.length),(2,ai l3 c2 ob.open_.length)]) (x' :=ob) (fun _ _ _ ho h=>JP h (fun h=>fJ (iT ho (.head _)) h))<|bf<|bw<|aJ<|aJ<|aJ ?_;cases so h;exact cZ J (FJ [(l2,c1),(l3,c2)]) J J (fun _ _ h=>h)
   ·obtain⟨hx1,h⟩:=h
    refine au<|aq<|zo J (fM J J)<|ap<|ae<|br (ht J) (dn hx1)<|eK<|ae<|av<|aq<|aA J<|zo J (j8 mO gJ J J J (dB hx1))<|zo J (bE gJ J J)<|aX (r:=cT) (x:=CB) gJ (fun _=>sD _) J fun b2=>bu J<|aC gJ J ax J (ht J) (ht J)<|aT 9 J<|ap<|ae ?_;refine ak<|aA J<|zo J (aR (ht J))<|zo J (fq 15 gu J J J)<|zo J (aV (r:=rH ba [(1,ai l2 c1 ob.kinds.length),(2,ai l3 c2 ob.open_.length)]) (x:=bl ob (ai l4 c3 ob.result.length)) bV J J (fy ia) (.head _) (ht J))<|aA J<|aA J<|zo J (nF (ht J) (ht J))<|bP h fun e3 q_e3 h=>zo J (j8 dp bJ J J J q_e3)<|zo J (bE bJ J J)<|bu J<|ap<|aq<|aA J<|aA J<|bD J J (fun hg=>bZ qk pC J J)<|bD J J (fun hg=>cB fv J c9 J (aI J hg))<|bD J J (fun hg=>aL mo J J (aI J hg))<|bD J J (fun hg=>bI jv (aI J hg))<|bD J J (fun hg=>bv (aI J hg) hI)<|zo J (ky J J) ?_;refine bu J<|ap<|aq<|zo J (bZ lF kh J J)<|zo J (bE bJ J J)<|ap<|av ?_;refine ge (Z:=fun x=>ir l (dq l tl1) i1 e2 ok1 ob e3 x=some R) (Of:=fun x=>[bx (rH ba [(1,ai l2 c1 ob.kinds.length),(2,ai l3 c2 ob.open_.length)]) 124 b (bl ob (ai l4 c3 ob.result.length)),gX gH 29 l2 c1 ob.kinds,cr bU 3 l3 c2 ob.open_,cr bU 3 l4 c3 ob.result]) (Gf:=fun x=>[(0,tV (aD b 0)),(4,jt l.n.Keys),(5,ij (ok1&&((e2.Arg.Nodes.length:Int)==(0:Int)))),(8,cd (i1:Int)),(10,cd e3),(87,fX (cT) l.n.Aggs),(88,jt l.n.Aggs),(89,cd (i1:Int)),(112,cd e2.Tag),(113,ij x)]) (fun x h=>?_) (fun K=>?_)
    ·skip
     refine dQ h J (fun h=>?_) (fun h=>?_)
     ·refine ak<|aA J<|aA J<|bD J J (fun hg=>cN J)<|bD J J (fun hg=>bv (aI J hg) hI)<|zo J (ky J J)<|bu J<|aK<|al<|al<|an<|ak<|zo rfl (lk (cQ hx1 hN1) rfl)<|aA rfl<|aK ?_;exact aW (aM (ih1 (i1+1) ((ok1&&((e2.Arg.Nodes.length:Int)==(0:Int)))&&(e3==(2:Int))) ob l2 c1 l3 c2 l4 c3 ⟨cP hx1,h⟩) (bh J))
     ·refine aq<|zo J (j6 J)<|bu J<|ap<|dQ h J (fun h=>?_) (fun h=>?_)
      ·refine aq<|aA J<|aA J<|bD J J (fun hg=>cN J)<|bD J J (fun hg=>bv (aI J hg) hI)<|zo J (ky J J)<|bu J<|ap<|ak<|aA J<|zo J (aR (ht J))<|zo J (fq 17 ed J J J)<|zo J (dG bV (fy iX) (.head _) J (ht J))<|aA J<|aA J<|zo J (nF (ht J) (ht J))<|bP h fun e4 q_e4 h=>zo J (cz dp bJ (.tail _ (.tail _ (.tail _ (.head _)))) (ht J) (ht J) q_e4)<|eT<|bP h fun st q_st h=>ku bJ J ax J q_e4 (so q_st) (ht J) hI<|iM (gK (so q_st)) 131 J ?_;refine mI (O' :=[cr bU 3 l4 c3 st,bx (rH ba [(1,ai l2 c1 ob.kinds.length),(2,ai l3 c2 ob.open_.length)]) 124 b (bl ob (ai l4 c3 st.length)),gX gH 29 l2 c1 ob.kinds,cr bU 3 l3 c2 ob.open_]) (by rw [gK (so q_st)])<|aK<|al<|al<|an<|ak<|zo rfl (lk (cQ hx1 hN1) rfl)<|aA rfl<|aK<|bm<|bm<|bm ?_;exact aW (aM (ih1 (i1+1) ((ok1&&((e2.Arg.Nodes.length:Int)==(0:Int)))&&(e3==(4:Int))) ({ob with result:=st}:af) l2 c1 l3 c2 l4 c3 ⟨cP hx1,h⟩) (bh J))
      ·refine ge (Z:=fun x1=>jU (dq l tl1) i1 e2 ok1 ob e3 x1=some R) (Of:=fun x1=>[bx (rH ba [(1,ai l2 c1 ob.kinds.length),(2,ai l3 c2 ob.open_.length)]) 124 b (bl ob (ai l4 c3 ob.result.length)),gX gH 29 l2 c1 ob.kinds,cr bU 3 l3 c2 ob.open_,cr bU 3 l4 c3 ob.result]) (Gf:=fun x1=>[(0,tV (aD b 0)),(4,jt l.n.Keys),(5,ij (ok1&&((e2.Arg.Nodes.length:Int)==(0:Int)))),(10,cd e3),(87,fX (cT) l.n.Aggs),(88,jt l.n.Aggs),(89,cd (i1:Int)),(136,ij x1)]) (fun x1 h=>?_) (fun K1=>?_)
       ·skip
        refine dQ h J (fun h=>?_) (fun h=>?_)
        ·refine ak<|aA J<|aA J<|bD J J (fun hg=>cN J)<|bD J J (fun hg=>dd (aI J hg) hI)<|zo J (ky J J)<|bu J<|aK<|al<|al<|an<|ak<|zo rfl (lk (cQ hx1 hN1) rfl)<|aA rfl<|aK ?_;exact aW (aM (ih1 (i1+1) ((ok1&&((e2.Arg.Nodes.length:Int)==(0:Int)))&&(e3 !=(4:Int))) ob l2 c1 l3 c2 l4 c3 ⟨cP hx1,h⟩) (bh J))
        ·refine ak<|zo J (fP)<|aK<|al<|al<|an<|ak<|zo rfl (lk (cQ hx1 hN1) rfl)<|aA rfl<|aK ?_;exact aW (aM (ih1 (i1+1) false ob l2 c1 l3 c2 l4 c3 ⟨cP hx1,h⟩) (bh J))
       ·skip
        refine aq<|zo J (j6 J)<|bu J<|ap<|dQ h J (fun h=>?_) (fun h=>?_)
        ·refine bC ?_;exact cb (K1 (e2.Tag==(4:Int)) h) (bh J)
        ·refine ak<|zo J (j6 J)<|bu J<|aK ?_;exact cb (K1 (e2.Tag==(5:Int)) h) (bh J)
    ·skip
     refine aq<|zo J (j6 J)<|bu J<|ap<|dQ h J (fun h=>?_) (fun h=>?_)
     ·refine bC ?_;exact cb (K (e2.Tag==(1:Int)) h) (bh J)
     ·refine ak<|zo J (j6 J)<|bu J<|aK ?_;exact cb (K (e2.Tag==(2:Int)) h) (bh J)
  ·obtain⟨hx,h⟩:=h
   refine au<|aq<|zo J (fM J J)<|ap<|ae<|br (ht J) (dn hx)<|eK<|ae<|av<|aq<|aA J<|zo J (j8 dp bJ J J J (dB hx))<|zo J (bE bJ J J)<|bu J<|bu J<|ap<|ak<|aA J<|aA J ?_;refine bD J J (fun hg=>cN J)<|bD J J (fun hg=>cN J)<|bD J J (fun hg=>bv (aI J hg) (aI J hg))<|zo J (ky J J)<|aA J<|bP h fun t q_t h=>bD J J (fun hg=>cN J)<|bD J J (fun hg=>aR (aI J hg))<|bD J J (fun hg=>bA (n:=15) gu J (aI J hg) J)<|bD J J (fun hg=>aV (r:=rH ba [(1,ai (ix.h 0).1 (ix.h 0).2 l.kinds.length),(2,ai (ix.h 1).1 (ix.h 1).2 l.open_.length)]) (x:=bl l (ai l1 c r.length)) bV J J (fy ia) (.head _) (aI J hg))<|bD J J (fun hg=>cN J) ?_
   obtain⟨e5,h1t,h0t⟩:=og q_t
   have q_e5g:=fun hb=>(h1t hb).1
   refine bD J J (fun hg=>cq dp bJ J (aI J hg) (aI J hg) (q_e5g hg))<|bD J J (fun hg=>aL bJ J J (aI J hg))<|bD J J (fun hg=>dd (aI J hg) hI)<|zo J (dv (ht J) (fun hb=>(aI J hb)) (fun hb=>(h1t hb).2) h0t)<|bu J<|aK<|al<|an<|ak<|zo rfl (lk (cQ hx hN) rfl)<|aA rfl<|aK ?_;exact aW (aM (ih (i+1) t ⟨cP hx,h⟩) (bh J))

theorem M3(b:Nat)(ix:OI)(l:af){R:Bool×af}(h:iR l=some R):fQ aP 90 [tV (aD b 0)] (dm b l ix) (fun _:OI=>ij R.1) (fun j=>dm b R.2 j):=by
 refine fQ.of Tryz.func90 J J J fun w0 S0=>?_;refine(show CG _ _ _ [bx (rH aN [(1,ai (ix.h 0).1 (ix.h 0).2 l.kinds.length),(2,ai (ix.h 1).1 (ix.h 1).2 l.open_.length)]) 124 b l,gX gH 29 (ix.h 0).1 (ix.h 0).2 l.kinds,cr bU 3 (ix.h 1).1 (ix.h 1).2 l.open_] _ from ?_);refine aq<|zo J (fP)<|ap<|aq<|aA J<|zo J (aR (ht J))<|zo J (fq 17 ed J J J)<|ci false bU 3<|bT<|d9 bV J (om (hs' :=[(1,ai (ix.h 0).1 (ix.h 0).2 l.kinds.length),(2,ai (ix.h 1).1 (ix.h 1).2 l.open_.length)]) (iP _ _) ⟨.inr ⟨J,J⟩,.inr ⟨J,J⟩,be⟩ J) J (ht J) (Aq (show ay _ _ _ H2 from q5)) ?_;refine(show RG _ _ _ _ [bx (rH ba [(1,ai (ix.h 0).1 (ix.h 0).2 l.kinds.length),(2,ai (ix.h 1).1 (ix.h 1).2 l.open_.length)]) 124 b (bl l (ai none 0 (mP.length))),cr bU 3 none 0 mP,gX gH 29 (ix.h 0).1 (ix.h 0).2 l.kinds,cr bU 3 (ix.h 1).1 (ix.h 1).2 l.open_] _ from ?_);refine ap<|ae<|aq<|aA J<|zo J (aR (ht J))<|zo J (fq 3 eX J J J)<|zo J (fq 12 sU J J J)<|zo J (aV (r:=rH ba [(1,ai (ix.h 0).1 (ix.h 0).2 l.kinds.length),(2,ai (ix.h 1).1 (ix.h 1).2 l.open_.length)]) (x:=bl l (ai none 0 (mP.length))) Bc J J (fy (ew q6 oA)) (.head _) (ht J))<|zo J (jL qL J)<|zo J (bj hI)<|ap<|av<|aY (k:=14) J fun hN=>bO<|dV<|ej<|ej<|ej ?_;refine aM (pH (Z:=fun ls i ob l1 c l2 c1 l3 c2=>(l.n.Items.drop i=ls)∧gx ls ob=some R) (Of:=fun _ i ob l1 c l2 c1 l3 c2=>[bx (rH ba [(1,ai l1 c ob.kinds.length),(2,ai l2 c1 ob.open_.length)]) 124 b (bl ob (ai l3 c2 ob.result.length)),gX gH 29 l1 c ob.kinds,cr bU 3 l2 c1 ob.open_,cr bU 3 l3 c2 ob.result]) (Gf:=fun _ i ob l1 c l2 c1 l3 c2=>[(0,tV (aD b 0)),(14,fX (bc) l.n.Items),(15,jt l.n.Items),(16,cd (i:Int))]) (fun i ob l1 c l2 c1 l3 c2 h=>?_) (fun e tl ih i ob l1 c l2 c1 l3 c2 h=>?_) l.n.Items 0 ({l with result:=mP}:af) (ix.h 0).1 (ix.h 0).2 (ix.h 1).1 (ix.h 1).2 none 0 ⟨J,h⟩) (bh J)
 ·obtain⟨hx,h⟩:=h
  refine au<|aq<|zo J (fM J J)<|ap<|ae<|bt (ht J) (du hx)<|bn ?_;refine ac (ac (aG ?_));refine an<|aq<|aA rfl<|zo rfl (aR (ht rfl))<|zo rfl (fq 17 ed rfl rfl rfl)<|zo rfl (dG bV (fy iX) (.head _) rfl (ht rfl))<|zo rfl (em dp (.tail _ (.tail _ (.tail _ (.head _)))) (ht rfl))<|zo rfl (iu (ht rfl) hI)<|bu rfl<|ap<|am<|bm<|ii<|jK 45 rfl<|bf<|pm (r' :=rH aN [(1,ai l1 c ob.kinds.length),(2,ai l2 c1 ob.open_.length)]) (x' :=ob) (fun _ _ _ ho h=>JP h (fun h=>fJ (iT ho (.head _)) h))<|bf<|bw<|aJ<|aJ<|aJ ?_;cases so h;exact cZ J (FJ [(l1,c),(l2,c1)]) J J (fun _ _ h=>h)
 ·obtain⟨hx,h⟩:=h
  refine au<|aq<|zo J (fM J J)<|ap<|ae<|br (ht J) (dn hx)<|eK<|ae<|av<|aq<|zo J (j8 qL gj J J J (dB hx))<|zo J (bE gj J J)<|aX (r:=bc) (x:=qG) gj (fun _=>pO _) J fun b1=>aC gj J ax J (ht J) (ht J)<|aT 4 J<|ap<|ae<|bP h fun r q_r h=>?_
  refine eN (ts:=[_,_,_,_,_,_,_,_,_,_,_]) mixed J J
   ⟨iD 4 J J J (bE gj J J),
   ⟨iD 0 J J J (cN J),
   ⟨cR 22 1 J J J (aR (ht J)),
   ⟨cR 23 2 J J J (fq 15 gu J J J),
   ⟨cR 24 3 J J J (aV (r:=rH ba [(1,ai l1 c ob.kinds.length),(2,ai l2 c1 ob.open_.length)]) (x:=bl ob (ai l3 c2 ob.result.length)) bV J J (fy ia) (.head _) (ht J)),
   ⟨fB 21 0 25 4 J J J J (aO EI (wk _ _ q_r) ⟨(ht J),(ht J),be⟩),
   ⟨cR 26 5 J J J (cN J),
   ⟨cR 20 6 J J J (lv J J),
   ⟨cR 20 6 J J J (lv J J),
   ⟨cR 27 7 J J J (yk J),
   ⟨cR 28 8 J J J (yk J),
   be⟩⟩⟩⟩⟩⟩⟩⟩⟩⟩⟩ ?_
  refine an<|ae<|aq<|aA rfl<|zo rfl (s3 rfl)<|ap<|dQ h rfl (fun h=>?_) (fun h=>?_)
  ·refine aq<|zo J (fP)<|ap<|am ?_;refine aa (aF (aa (aa (aF (aa ?_)))));refine bm<|ii<|bf<|pm (r' :=rH aN [(1,ai l1 c ob.kinds.length),(2,ai l2 c1 ob.open_.length)]) (x' :=ob) (fun _ _ _ ho h=>JP h (fun h=>fJ (iT ho (.head _)) h))<|bf<|bw<|aJ<|aJ<|aJ ?_;cases so h;exact cZ J (FJ [(l1,c),(l2,c1)]) J J (fun _ _ h=>h)
  ·refine eK<|ak<|aA J<|aA J<|zo J (aR (ht J))<|zo J (fq 17 ed J J J)<|zo J (dG bV (fy iX) (.head _) J (ht J))<|aA J<|zo J (bF (r:=bU) (ys:=[r.1]) (xs:=[.tmp 36]) dp bJ J J J J J ⟨(ht J),be⟩)<|eT<|bP h fun l4 q_l4 h=>dj bJ J J J J dp J J (ht J) (ht J) q_l4 fun l5 c3=>zo J (aR (ht J))<|zo J (fq 17 ed J J J)<|bT<|d9 bV J (om (hs' :=[(1,ai l1 c ob.kinds.length),(2,ai l2 c1 ob.open_.length)]) (fN _ _ _) ⟨.inr ⟨J,J⟩,.inr ⟨J,J⟩,be⟩ J) J (ht J) (Aq (ht J)) ?_;refine(show RG _ _ _ _ [bx (rH ba [(1,ai l1 c ob.kinds.length),(2,ai l2 c1 ob.open_.length)]) 124 b (bl ob (ai l5 c3 l4.length)),cr bU 3 l5 c3 l4,gX gH 29 l1 c ob.kinds,cr bU 3 l2 c1 ob.open_] _ from ?_);refine aK<|al<|an<|ak<|zo rfl (lk (cQ hx hN) rfl)<|aA rfl<|aK<|bf<|bm<|bm<|bm ?_;exact aW (aM (ih (i+1) ({ob with result:=l4}:af) l1 c l2 c1 l5 c3 ⟨cP hx,h⟩) (bh J))

theorem M2(b:Nat)(ix:OI)(l:af){R:Bool×af}(h:kg l=some R):fQ aP 91 [tV (aD b 0)] (dm b l ix) (fun _:OI=>ij R.1) (fun j=>dm b R.2 j):=by
 refine fQ.of Tryz.func91 J J J fun w0 S0=>?_;refine(show CG _ _ _ [bx (rH aN [(1,ai (ix.h 0).1 (ix.h 0).2 l.kinds.length),(2,ai (ix.h 1).1 (ix.h 1).2 l.open_.length)]) 124 b l,gX gH 29 (ix.h 0).1 (ix.h 0).2 l.kinds,cr bU 3 (ix.h 1).1 (ix.h 1).2 l.open_] _ from ?_);refine aq<|zo J (fP)<|ap<|aq<|aA J<|aA J<|zo J (aR (ht J))<|zo J (fq 15 gu J J J)<|zo J (aV (r:=rH aN [(1,ai (ix.h 0).1 (ix.h 0).2 l.kinds.length),(2,ai (ix.h 1).1 (ix.h 1).2 l.open_.length)]) (x:=l) bV J J (fy lh) (.head _) (ht J))<|zo J (aR (ht J))<|zo J (fq 17 ed J J J)<|lH (gS bV J (qS (hs' :=[(1,ai (ix.h 0).1 (ix.h 0).2 l.kinds.length),(2,ai (ix.h 1).1 (ix.h 1).2 l.open_.length)]) n8 ⟨.inr ⟨J,J⟩,.inr ⟨J,J⟩,be⟩ J) J (ht J) (ht J)) fun i=>?_;refine(show RG _ _ _ _ [bx (rH aN [(1,ai (ix.h 0).1 (ix.h 0).2 l.kinds.length),(2,ai (ix.h 1).1 (ix.h 1).2 l.open_.length)]) 124 b ({l with result:=l.a_}:af),gX gH 29 (ix.h 0).1 (ix.h 0).2 l.kinds,cr bU 3 (ix.h 1).1 (ix.h 1).2 l.open_] _ from ?_);refine ap<|aq<|zo J (fP)<|ap<|am<|aJ<|aJ<|aJ ?_;cases so h;exact cZ J ix J J (fun _ _ h=>h)

theorem M1(b:Nat)(ix:OI)(l:af){R:Bool×af}(h:iG l=some R):fQ aP 92 [tV (aD b 0)] (dm b l ix) (fun _:OI=>ij R.1) (fun j=>dm b R.2 j):=by
 refine fQ.of Tryz.func92 J J J fun w0 S0=>?_;refine(show CG _ _ _ [bx (rH aN [(1,ai (ix.h 0).1 (ix.h 0).2 l.kinds.length),(2,ai (ix.h 1).1 (ix.h 1).2 l.open_.length)]) 124 b l,gX gH 29 (ix.h 0).1 (ix.h 0).2 l.kinds,cr bU 3 (ix.h 1).1 (ix.h 1).2 l.open_] _ from ?_);refine aq<|zo J (fP)<|ap<|ae<|ae ?_
 refine eN (ts:=[_,_,_,_,_,_,_,_,_,_,_]) mixed J J
  ⟨iD 0 J J J (cN J),
  ⟨cR 6 0 J J J (aR (ht J)),
  ⟨cR 7 1 J J J (fq 15 gu J J J),
  ⟨cR 8 2 J J J (aV (r:=rH aN [(1,ai (ix.h 0).1 (ix.h 0).2 l.kinds.length),(2,ai (ix.h 1).1 (ix.h 1).2 l.open_.length)]) (x:=l) bV J J (fy lh) (.head _) (ht J)),
  ⟨cR 9 3 J J J (jL dp J),
  ⟨iD 0 J J J (cN J),
  ⟨cR 11 5 J J J (aR (ht J)),
  ⟨cR 12 6 J J J (fq 16 tY J J J),
  ⟨cR 13 7 J J J (aV (r:=rH aN [(1,ai (ix.h 0).1 (ix.h 0).2 l.kinds.length),(2,ai (ix.h 1).1 (ix.h 1).2 l.open_.length)]) (x:=l) bV J J (fy zi) (.head _) (ht J)),
  ⟨cR 14 8 J J J (jL dp J),
  ⟨fB 10 4 15 9 J J J J (dd (ht J) (ht J)),
  be⟩⟩⟩⟩⟩⟩⟩⟩⟩⟩⟩ ?_
 refine an<|dQ h rfl (fun h=>?_) (fun h=>?_)
 ·refine aq<|zo J (fP)<|ap<|am<|aa<|aJ<|aJ<|aJ ?_;cases so h;exact cZ J ix J J (fun _ _ h=>h)
 ·refine eK<|aq<|aA J<|zo J (aR (ht J))<|zo J (fq 17 ed J J J)<|ci false bU 3<|bT<|d9 bV J (om (hs' :=[(1,ai (ix.h 0).1 (ix.h 0).2 l.kinds.length),(2,ai (ix.h 1).1 (ix.h 1).2 l.open_.length)]) (iP _ _) ⟨.inr ⟨J,J⟩,.inr ⟨J,J⟩,be⟩ J) J (ht J) (Aq (show ay _ _ _ H2 from q5)) ?_;refine(show RG _ _ _ _ [bx (rH ba [(1,ai (ix.h 0).1 (ix.h 0).2 l.kinds.length),(2,ai (ix.h 1).1 (ix.h 1).2 l.open_.length)]) 124 b (bl l (ai none 0 (mP.length))),cr bU 3 none 0 mP,gX gH 29 (ix.h 0).1 (ix.h 0).2 l.kinds,cr bU 3 (ix.h 1).1 (ix.h 1).2 l.open_] _ from ?_);refine ap<|ae<|aq<|aA J<|zo J (aR (ht J))<|zo J (fq 15 gu J J J)<|zo J (aV (r:=rH ba [(1,ai (ix.h 0).1 (ix.h 0).2 l.kinds.length),(2,ai (ix.h 1).1 (ix.h 1).2 l.open_.length)]) (x:=bl l (ai none 0 (mP.length))) bV J J (fy ia) (.head _) (ht J))<|zo J (jL dp J)<|zo J (bj hI)<|ap<|av<|aY (k:=23) J fun hN=>bO<|dV<|ej<|ej<|ej ?_;refine aM (pH (Z:=fun ls i ob l1 c l2 c1 l3 c2=>(l.a_.drop i=ls)∧eu ls i ob=some R) (Of:=fun _ i ob l1 c l2 c1 l3 c2=>[bx (rH ba [(1,ai l1 c ob.kinds.length),(2,ai l2 c1 ob.open_.length)]) 124 b (bl ob (ai l3 c2 ob.result.length)),gX gH 29 l1 c ob.kinds,cr bU 3 l2 c1 ob.open_,cr bU 3 l3 c2 ob.result]) (Gf:=fun _ i ob l1 c l2 c1 l3 c2=>[(0,tV (aD b 0)),(23,lW l.a_),(24,jt l.a_),(25,cd (i:Int))]) (fun i ob l1 c l2 c1 l3 c2 h=>?_) (fun e tl ih i ob l1 c l2 c1 l3 c2 h=>?_) l.a_ 0 ({l with result:=mP}:af) (ix.h 0).1 (ix.h 0).2 (ix.h 1).1 (ix.h 1).2 none 0 ⟨J,h⟩) (bh J)
  ·obtain⟨hx,h⟩:=h
   refine au<|aq<|zo J (fM J J)<|ap<|ae<|bt (ht J) (du hx)<|bn ?_;refine ac (ac (aG ?_));refine an<|aq<|zo rfl (fP)<|ap<|am<|bm<|ii<|bf<|pm (r' :=rH aN [(1,ai l1 c ob.kinds.length),(2,ai l2 c1 ob.open_.length)]) (x' :=ob) (fun _ _ _ ho h=>JP h (fun h=>fJ (iT ho (.head _)) h))<|bf<|bw<|aJ<|aJ<|aJ ?_;cases so h;exact cZ J (FJ [(l1,c),(l2,c1)]) J J (fun _ _ h=>h)
  ·obtain⟨hx,h⟩:=h
   refine au<|aq<|zo J (fM J J)<|ap<|ae<|br (ht J) (dn hx)<|eK<|ae<|av<|aq<|aA J<|zo J (j8 dp bJ J J J (dB hx))<|zo J (bE bJ J J)<|bu J<|bu J<|ap<|aq<|aA J ?_;refine zo J (aR (ht J))<|zo J (fq 16 tY J J J)<|zo J (aV (r:=rH ba [(1,ai l1 c ob.kinds.length),(2,ai l2 c1 ob.open_.length)]) (x:=bl ob (ai l3 c2 ob.result.length)) bV J J (fy BM) (.head _) (ht J))<|aA J<|bP h fun e1 q_e1 h=>zo J (j8 dp bJ J J J q_e1)<|zo J (bE bJ J J)<|bu J<|ap ?_;refine ge (Z:=fun k=>f9 (eu tl) i ob e1 k=some R) (Of:=fun k=>[bx (rH ba [(1,ai l1 c ob.kinds.length),(2,ai l2 c1 ob.open_.length)]) 124 b (bl ob (ai l3 c2 ob.result.length)),gX gH 29 l1 c ob.kinds,cr bU 3 l2 c1 ob.open_,cr bU 3 l3 c2 ob.result]) (Gf:=fun k=>[(0,tV (aD b 0)),(4,cd k),(5,cd e1),(23,lW l.a_),(24,jt l.a_),(25,cd (i:Int))]) (fun k h=>?_) (fun K=>?_)
   ·skip
    refine ae<|aq<|aA J<|zo J (s3 J)<|aA J<|bD J J (fun hg=>cN J)<|bD J J (fun hg=>cN J)<|bD J J (fun hg=>dd (aI J hg) (aI J hg))<|zo J (ky J J)<|ap<|dQ h J (fun h=>?_) (fun h=>?_)
    ·refine aq<|zo J (fP)<|ap<|am ?_;refine aa (aF (aa (aa (aF (aa ?_)))));refine bm<|ii<|bf<|pm (r' :=rH aN [(1,ai l1 c ob.kinds.length),(2,ai l2 c1 ob.open_.length)]) (x' :=ob) (fun _ _ _ ho h=>JP h (fun h=>fJ (iT ho (.head _)) h))<|bf<|bw<|aJ<|aJ<|aJ ?_;cases so h;exact cZ J (FJ [(l1,c),(l2,c1)]) J J (fun _ _ h=>h)
    ·refine eK<|ak<|aA J<|aA J<|zo J (aR (ht J))<|zo J (fq 17 ed J J J)<|zo J (dG bV (fy iX) (.head _) J (ht J))<|aA J<|zo J (bF (r:=bU) (ys:=[k]) (xs:=[.tmp 52]) dp bJ J J J J J ⟨(ht J),be⟩)<|eT<|bP h fun l4 q_l4 h=>dj bJ J J J J dp J J (ht J) (ht J) q_l4 fun l5 c3=>zo J (aR (ht J))<|zo J (fq 17 ed J J J)<|bT<|d9 bV J (om (hs' :=[(1,ai l1 c ob.kinds.length),(2,ai l2 c1 ob.open_.length)]) (fN _ _ _) ⟨.inr ⟨J,J⟩,.inr ⟨J,J⟩,be⟩ J) J (ht J) (Aq (ht J)) ?_;refine(show RG _ _ _ _ [bx (rH ba [(1,ai l1 c ob.kinds.length),(2,ai l2 c1 ob.open_.length)]) 124 b (bl ob (ai l5 c3 l4.length)),cr bU 3 l5 c3 l4,gX gH 29 l1 c ob.kinds,cr bU 3 l2 c1 ob.open_] _ from ?_);refine aK<|al<|an<|ak<|zo rfl (lk (cQ hx hN) rfl)<|aA rfl<|aK<|bf<|bm<|bm<|bm ?_;exact aW (aM (ih (i+1) ({ob with result:=l4}:af) l1 c l2 c1 l5 c3 ⟨cP hx,h⟩) (bh J))
   ·skip
    refine aq<|aA J<|zo J (j6 J)<|ap<|dQ h J (fun h=>?_) (fun h=>?_)
    ·refine ak<|aA J<|bu J<|aK ?_;exact cb (K e1 h) (bh J)
    ·refine bC ?_;exact cb (K e h) (bh J)

end Go.Proofs.YtmogpgcfognefaaGreatDoor

