/- cG of this claim: P3. -/
import Derived.Test.YtmogpgcfognefaaGreatDoorNaT
import Derived.Test.YtmogpgcfognefaaGreatDoorNaP2
set_option linter.all false
namespace Go.Proofs.YtmogpgcfognefaaGreatDoor
open Go
set_option maxRecDepth 100000

theorem Ns(b:Nat)(ix:OI)(l:af){R:Bool×af}(h:gM l=some R):fT aP 88 [tV (aD b 0)] (du b l ix) (fun _:OI=>gU R.1) (fun j=>du b R.2 j):=by
 refine fT.of Tryz.func88 J J J fun w0 S0=>?_;refine(show CG _ _ _ [bx (rH aN [(1,ai (ix.h 0).1 (ix.h 0).2 l.kinds.length),(2,ai (ix.h 1).1 (ix.h 1).2 l.open_.length)]) 124 b l,gX gz 29 (ix.h 0).1 (ix.h 0).2 l.kinds,cu bW 3 (ix.h 1).1 (ix.h 1).2 l.open_] _ from ?_);refine au<|zo J (fC)<|ap<|au<|aA J<|bO h fun r q_r h=>yh (EffOK.fr2 (EffOK.fr2 (EffOK.fr2 (zP (xs:=[.tmp 6]) (ts:=[tV (aD b 0)]) (du b l ix) _ J NH (Nt b ix l q_r) ⟨(ht J),aY⟩ (fun _=>J))))) J fun i=>?_;refine(show RG _ _ _ _ [bx (rH bc [(1,ai (i.h 0).1 (i.h 0).2 r.2.kinds.length),(2,ai (i.h 1).1 (i.h 1).2 r.2.open_.length)]) 124 b (bm r.2 (ai (i.h 2).1 (i.h 2).2 r.2.result.length)),gX gz 29 (i.h 0).1 (i.h 0).2 r.2.kinds,cu bW 3 (i.h 1).1 (i.h 1).2 r.2.open_,cu bW 3 (i.h 2).1 (i.h 2).2 r.2.result] ((7,gU r.1)::_)from ?_);refine bv J<|ap<|ae<|au<|aA J<|zo J (d9 (ht J))<|ap<|dN h J (fun h=>?_) (fun h=>?_)
 ·refine au<|zo J (fC)<|ap<|am<|aa<|bn<|ii<|bf<|pq (r' :=rH aN [(1,ai (i.h 0).1 (i.h 0).2 r.2.kinds.length),(2,ai (i.h 1).1 (i.h 1).2 r.2.open_.length)]) (x' :=r.2) (fun _ _ _ ho h=>J6 h (fun h=>fN (iE ho (.head _)) h))<|bf<|bl<|aI<|aI<|aI ?_;cases so h;exact c0 J i J J (fun _ _ h=>h)
 ·refine eK<|ae<|au<|aA J<|zo J (aS (ht J))<|zo J (eY 3 fb J J J)<|zo J (eY 11 la J J J)<|zo J (aT (r:=rH bc [(1,ai (i.h 0).1 (i.h 0).2 r.2.kinds.length),(2,ai (i.h 1).1 (i.h 1).2 r.2.open_.length)]) (x:=bm r.2 (ai (i.h 2).1 (i.h 2).2 r.2.result.length)) qQ J J (fD (eD q7 fM)) (.head _) (ht J))<|zo J (jk mS J)<|zo J (bj hI)<|ap<|av<|aX (k:=14) J fun hN=>bK ?_;refine aM (pK (Z:=fun ls i1 ob l1 c l2 c1 l3 c2=>(r.2.n.Aggs.drop i1=ls)∧fm ls i1 ob=some R) (Of:=fun _ i1 ob l1 c l2 c1 l3 c2=>[bx (rH bc [(1,ai l1 c ob.kinds.length),(2,ai l2 c1 ob.open_.length)]) 124 b (bm ob (ai l3 c2 ob.result.length)),gX gz 29 l1 c ob.kinds,cu bW 3 l2 c1 ob.open_,cu bW 3 l3 c2 ob.result]) (Gf:=fun _ i1 ob l1 c l2 c1 l3 c2=>[(0,tV (aD b 0)),(14,fE (cS) r.2.n.Aggs),(15,je r.2.n.Aggs),(16,ce (i1:Int))]) (fun i1 ob l1 c l2 c1 l3 c2 h=>?_) (fun e tl ih i1 ob l1 c l2 c1 l3 c2 h=>?_) r.2.n.Aggs 0 r.2 (i.h 0).1 (i.h 0).2 (i.h 1).1 (i.h 1).2 (i.h 2).1 (i.h 2).2 ⟨J,h⟩) (bh J)
  ·obtain⟨hx,h⟩:=h
   refine aq<|au<|zo J (fx J J)<|ap<|ae<|br (ht J) (dp hx)<|bk ?_;refine ac (ac (aG ?_));refine an<|au<|zo rfl (fC)<|ap<|am<|bn<|ii<|bf<|pq (r' :=rH aN [(1,ai l1 c ob.kinds.length),(2,ai l2 c1 ob.open_.length)]) (x' :=ob) (fun _ _ _ ho h=>J6 h (fun h=>fN (iE ho (.head _)) h))<|bf<|bl<|aI<|aI<|aI ?_;cases so h;exact c0 J (F3 [(l1,c),(l2,c1)]) J J (fun _ _ h=>h)
  ·obtain⟨hx,h⟩:=h
   refine aq<|au<|zo J (fx J J)<|ap<|ae<|bq (ht J) (dh hx)<|eK<|ae<|av<|au<|aA J<|zo J (ka mS gL J J J (dy hx))<|zo J (bC gL J J)<|aZ (r:=cS) (x:=CV) gL (fun _=>sC _) J fun b1=>bv J<|aC gL J aw J (ht J) (ht J)<|aU 5 J<|ap<|ae ?_;refine ak<|zo J (cc lM kj J J)<|zo J (bC bL J J)<|zo J (kc J)<|ap<|dN h J (fun h=>?_) (fun h=>?_)
   ·obtain⟨e1,q_e1,h⟩:=bs h
    refine nJ 13 (ts:=[tV (aD b 0),tV (aD b 0),tV (aD b 17),oc l3 c2 ob.result,tV (aD b 0),tV (aD b 0),tV (aD b 3),tV (aD b 10),lx ob.n.Keys,je ob.n.Keys,ce (i1:Int),ce (IntKind.i64.wrap ((ob.n.Keys.length:Int)+(i1:Int))),tV (iG l3 ((IntKind.i64.wrap ((ob.n.Keys.length:Int)+(i1:Int))).toNat*1+0))]) mixed J J J
     ⟨ij 0 J J J (cM J),
     ⟨cO 24 0 J J J (aS (ht J)),
     ⟨cO 25 1 J J J (eY 17 ef J J J),
     ⟨cO 26 2 J J J (dw bT (fD iX) (.head _) J (ht J)),
     ⟨ij 0 J J J (cM J),
     ⟨cO 28 4 J J J (aS (ht J)),
     ⟨cO 29 5 J J J (eY 3 fb J J J),
     ⟨cO 30 6 J J J (eY 10 lv J J J),
     ⟨cO 31 7 J J J (aT (r:=rH bc [(1,ai l1 c ob.kinds.length),(2,ai l2 c1 ob.open_.length)]) (x:=bm ob (ai l3 c2 ob.result.length)) bT J J (fD (eD q7 fh)) (.head _) (ht J)),
     ⟨cO 32 8 J J J (jk dr J),
     ⟨ij 4 J J J (cM J),
     ⟨fG 33 9 34 10 J J J J (nO (ht J) (ht J)),
     ⟨fG 27 3 35 11 J J J J (cw dr bL (.tail _ (.tail _ (.tail _ (.head _)))) (ht J) (ht J) q_e1),
     aY⟩⟩⟩⟩⟩⟩⟩⟩⟩⟩⟩⟩⟩ ?_
    refine eJ<|bO h fun st q_st h=>jI bL J aw J q_e1 (so q_st) (ht J) hI<|ig (fW (so q_st)) 27 J<|lH (O' :=[cu bW 3 l3 c2 st,bx (rH bc [(1,ai l1 c ob.kinds.length),(2,ai l2 c1 ob.open_.length)]) 124 b (bm ob (ai l3 c2 st.length)),gX gz 29 l1 c ob.kinds,cu bW 3 l2 c1 ob.open_]) (by rw [fW (so q_st)])<|aK<|al<|an<|ak<|zo rfl (lb (cL hx hN) rfl)<|aA rfl<|aK<|bn<|bn<|bn ?_;exact aW (aM (ih (i1+1) ({ob with result:=st}:af) l1 c l2 c1 l3 c2 ⟨cK hx,h⟩) (bh J))
   ·refine bD<|al<|an<|ak<|zo rfl (lb (cL hx hN) rfl)<|aA rfl<|aK ?_;exact aW (aM (ih (i1+1) ob l1 c l2 c1 l3 c2 ⟨cK hx,h⟩) (bh J))

theorem Nr(b:Nat)(ix:OI)(l:af){R:Bool×af}(h:iK l=some R):fT aP 89 [tV (aD b 0)] (du b l ix) (fun _:OI=>gU R.1) (fun j=>du b R.2 j):=by
 refine fT.of Tryz.func89 J J J fun w0 S0=>?_;refine(show CG _ _ _ [bx (rH aN [(1,ai (ix.h 0).1 (ix.h 0).2 l.kinds.length),(2,ai (ix.h 1).1 (ix.h 1).2 l.open_.length)]) 124 b l,gX gz 29 (ix.h 0).1 (ix.h 0).2 l.kinds,cu bW 3 (ix.h 1).1 (ix.h 1).2 l.open_] _ from ?_);refine au<|zo J (fC)<|ap<|au<|aA J<|zo J (aS (ht J))<|zo J (eY 3 fb J J J)<|zo J (aT (r:=rH aN [(1,ai (ix.h 0).1 (ix.h 0).2 l.kinds.length),(2,ai (ix.h 1).1 (ix.h 1).2 l.open_.length)]) (x:=l) eu J J (fD dX) (.head _) (ht J))<|aZ (r:=aE) (x:=Bh) eu (fun _=>fF _) J fun b1=>aC eu J aw J (ht J) (ht J)<|aU 3 J<|ap<|au<|zo J (cc lv fh J J)<|zo J (bC bT J J)<|zo J (jk dr J)<|bv J<|ap ?_;refine ae<|bO h fun e q_e h=>?_
 refine eQ (ts:=[_,_,_,_,_,_,_,_,_,_,_,_,_,_,_,_,_,_,_,_,_,_,_,_,_,_,_,_,_,_,_,_,_,_]) mixed J J
  ⟨ij 0 J J J (cM J),
  ⟨cO 18 0 J J J (aS (ht J)),
  ⟨cO 19 1 J J J (eY 0 AS J J J),
  ⟨cO 20 2 J J J (aT (r:=rH aN [(1,ai (ix.h 0).1 (ix.h 0).2 l.kinds.length),(2,ai (ix.h 1).1 (ix.h 1).2 l.open_.length)]) (x:=l) rW J J (fD u0) (.head _) (ht J)),
  ⟨ij 3 J J J (cc rb k7 J J),
  ⟨cO 22 4 J J J (bC bL J J),
  ⟨fG 21 3 23 5 J J J J (ka mp eu J J J q_e),
  ⟨cO 24 6 J J J (cc hJ cV J J),
  ⟨cO 25 7 J J J (bC bL J J),
  ⟨cO 26 8 J J J (kc J),
  ⟨cO 27 9 J J J (cM J),
  ⟨om 4 28 10 J J J J (cJ J J J J (fun hg=>cM J)),
  ⟨gm 29 11 28 10 J J J J (cJ J J J J (fun hg=>jh (aJ J hg) hI)),
  ⟨fG 28 10 30 12 J J J J (kM J J),
  ⟨cO 31 13 J J J (cM J),
  ⟨om 3 32 14 J J J J (cJ J J J J (fun hg=>cc la fM J J)),
  ⟨gm 33 15 32 14 J J J J (cJ J J J J (fun hg=>aO qQ J J (aJ J hg))),
  ⟨gm 34 16 32 14 J J J J (cJ J J J J (fun hg=>bS mS (aJ J hg))),
  ⟨gm 35 17 32 14 J J J J (cJ J J J J (fun hg=>jh (aJ J hg) hI)),
  ⟨fG 32 14 36 18 J J J J (kM J J),
  ⟨cO 37 19 J J J (cM J),
  ⟨om 4 38 20 J J J J (cJ J J J J (fun hg=>cM J)),
  ⟨om 3 38 20 J J J J (cJ J J J J (fun hg=>cc la fM J J)),
  ⟨gm 40 22 38 20 J J J J (cJ J J J J (fun hg=>aO qQ J J (aJ J hg))),
  ⟨gm 41 23 38 20 J J J J (cJ J J J J (fun hg=>bS mS (aJ J hg))),
  ⟨rZ 39 21 42 24 38 20 J J J J J (cJ J J J J (fun hg=>nO (aJ J hg) (aJ J hg))),
  ⟨om 0 38 20 J J J J (cJ J J J J (fun hg=>cM J)),
  ⟨gm 44 26 38 20 J J J J (cJ J J J J (fun hg=>aS (aJ J hg))),
  ⟨gm 45 27 38 20 J J J J (cJ J J J J (fun hg=>bB (n:=15) gw J (aJ J hg) J)),
  ⟨gm 46 28 38 20 J J J J (cJ J J J J (fun hg=>aT (r:=rH aN [(1,ai (ix.h 0).1 (ix.h 0).2 l.kinds.length),(2,ai (ix.h 1).1 (ix.h 1).2 l.open_.length)]) (x:=l) bT J J (fD ll) (.head _) (aJ J hg))),
  ⟨gm 47 29 38 20 J J J J (cJ J J J J (fun hg=>bS dr (aJ J hg))),
  ⟨rZ 43 25 48 30 38 20 J J J J J (cJ J J J J (fun hg=>bG (aJ J hg) (aJ J hg))),
  ⟨fG 38 20 49 31 J J J J (kM J J),
  ⟨cO 50 32 J J J (yD J),
  aY⟩⟩⟩⟩⟩⟩⟩⟩⟩⟩⟩⟩⟩⟩⟩⟩⟩⟩⟩⟩⟩⟩⟩⟩⟩⟩⟩⟩⟩⟩⟩⟩⟩⟩ ?_
 refine an<|ae<|au<|aA rfl<|zo rfl (d9 (ht rfl))<|ap<|dN h rfl (fun h=>?_) (fun h=>?_)
 ·refine au<|zo J (fC)<|ap<|am<|aa<|aI<|aI<|aI ?_;cases so h;exact c0 J ix J J (fun _ _ h=>h)
 ·refine eK<|au<|aA J<|aA J<|zo J (aS (ht J))<|zo J (eY 15 gw J J J)<|zo J (aT (r:=rH aN [(1,ai (ix.h 0).1 (ix.h 0).2 l.kinds.length),(2,ai (ix.h 1).1 (ix.h 1).2 l.open_.length)]) (x:=l) bT J J (fD ll) (.head _) (ht J))<|bO h fun r q_r h=>jb HV (wA _ q_r) ⟨(ht J),aY⟩ J fun l1 c=>zo J (aS (ht J))<|zo J (eY 17 ef J J J)<|bM<|dV bT J (ou (hs' :=[(1,ai (ix.h 0).1 (ix.h 0).2 l.kinds.length),(2,ai (ix.h 1).1 (ix.h 1).2 l.open_.length)]) (iR _ _) ⟨.inr ⟨J,J⟩,.inr ⟨J,J⟩,aY⟩ J) J (ht J) (zy (ht J)) ?_;refine(show RG _ _ _ _ [bx (rH bc [(1,ai (ix.h 0).1 (ix.h 0).2 l.kinds.length),(2,ai (ix.h 1).1 (ix.h 1).2 l.open_.length)]) 124 b (bm l (ai l1 c r.length)),cu bW 3 l1 c r,gX gz 29 (ix.h 0).1 (ix.h 0).2 l.kinds,cu bW 3 (ix.h 1).1 (ix.h 1).2 l.open_] _ from ?_);refine ap<|ae<|au<|zo J (cc lv fh J J)<|zo J (bC bT J J)<|zo J (jk dr J)<|zo J (bj hI)<|ap<|av<|aX (k:=62) J fun hN=>bK<|dM<|ep<|ep<|ep ?_;refine aM (jd (Z:=fun ls i ok=>(l.n.Keys.drop i=ls)∧ir l r ls i ok=some R) (Of:=fun _ i ok=>[bx (rH bc [(1,ai (ix.h 0).1 (ix.h 0).2 l.kinds.length),(2,ai (ix.h 1).1 (ix.h 1).2 l.open_.length)]) 124 b (bm l (ai l1 c r.length)),gX gz 29 (ix.h 0).1 (ix.h 0).2 l.kinds,cu bW 3 (ix.h 1).1 (ix.h 1).2 l.open_,cu bW 3 l1 c r]) (Gf:=fun _ i ok=>[(0,tV (aD b 0)),(3,bz aE l.n),(4,je l.n.Keys),(5,gU ok),(62,lx l.n.Keys),(63,je l.n.Keys),(64,ce (i:Int))]) (fun i ok h=>?_) (fun e1 tl ih i ok h=>?_) l.n.Keys 0 ((((e.Op==(9:Int))&&(decide ((l.n.Keys.length:Int)≤(3:Int))))&&(decide ((l.n.Aggs.length:Int)≤(12:Int))))&&((IntKind.i64.wrap ((l.n.Keys.length:Int)+(l.n.Aggs.length:Int)))==(l.a_.length:Int))) ⟨J,h⟩) (bh J)
  ·obtain⟨hx,h⟩:=h
   refine aq<|au<|zo J (fx J J)<|ap<|ae<|br (ht J) (dp hx)<|bk ?_;refine ac (ac (aG ?_));refine an<|ae<|au<|zo rfl (cc la fM rfl rfl)<|zo rfl (bC qQ rfl rfl)<|zo rfl (jk mS rfl)<|zo rfl (bj hI)<|ap<|av<|aX (k:=87) J fun hN1=>bK ?_;refine aM (uo (Z:=fun ls1 i1 ok1 ob l2 c1 l3 c2 l4 c3=>(l.n.Aggs.drop i1=ls1)∧dv l ls1 i1 ok1 ob=some R) (Of:=fun _ i1 ok1 ob l2 c1 l3 c2 l4 c3=>[bx (rH bc [(1,ai l2 c1 ob.kinds.length),(2,ai l3 c2 ob.open_.length)]) 124 b (bm ob (ai l4 c3 ob.result.length)),gX gz 29 l2 c1 ob.kinds,cu bW 3 l3 c2 ob.open_,cu bW 3 l4 c3 ob.result]) (Gf:=fun _ i1 ok1 ob l2 c1 l3 c2 l4 c3=>[(0,tV (aD b 0)),(4,je l.n.Keys),(5,gU ok1),(87,fE (cS) l.n.Aggs),(88,je l.n.Aggs),(89,ce (i1:Int))]) (fun i1 ok1 ob l2 c1 l3 c2 l4 c3 h=>?_) (fun e2 tl1 ih1 i1 ok1 ob l2 c1 l3 c2 l4 c3 h=>?_) l.n.Aggs 0 ok ({l with result:=r}:af) (ix.h 0).1 (ix.h 0).2 (ix.h 1).1 (ix.h 1).2 l1 c ⟨J,h⟩) (bh J)
   ·obtain⟨hx1,h⟩:=h
    refine aq<|au<|zo J (fx J J)<|ap<|ae<|br (ht J) (dp hx1)<|bk ?_;refine ac (ac (aG ?_));refine an<|au<|aA rfl<|bv rfl<|ap<|am<|bn<|ii<|bf<|pq (r' :=rH aN [(1,ai l2 c1 ob.kinds.length),(2,ai l3 c2 ob.open_.length)]) (x' :=ob) (fun _ _ _ ho h=>J6 h (fun h=>fN (iE ho (.head _)) h))<|bf<|bl<|aI<|aI<|aI ?_;cases so h;exact c0 J (F3 [(l2,c1),(l3,c2)]) J J (fun _ _ h=>h)
   ·obtain⟨hx1,h⟩:=h
    refine aq<|au<|zo J (fx J J)<|ap<|ae<|bq (ht J) (dh hx1)<|eK<|ae<|av<|au<|aA J<|zo J (ka mS gL J J J (dy hx1))<|zo J (bC gL J J)<|aZ (r:=cS) (x:=CV) gL (fun _=>sC _) J fun b2=>bv J<|aC gL J aw J (ht J) (ht J)<|aU 9 J<|ap<|ae ?_;refine ak<|aA J<|zo J (aS (ht J))<|zo J (eY 15 gw J J J)<|zo J (aT (r:=rH bc [(1,ai l2 c1 ob.kinds.length),(2,ai l3 c2 ob.open_.length)]) (x:=bm ob (ai l4 c3 ob.result.length)) bT J J (fD hZ) (.head _) (ht J))<|aA J<|aA J<|zo J (nO (ht J) (ht J))<|bO h fun e3 q_e3 h=>zo J (ka dr bL J J J q_e3)<|zo J (bC bL J J)<|bv J<|ap<|au<|aA J<|aA J<|bE J J (fun hg=>cc qi pG J J)<|bE J J (fun hg=>cB fB J dc J (aJ J hg))<|bE J J (fun hg=>aO mt J J (aJ J hg))<|bE J J (fun hg=>bS ju (aJ J hg))<|bE J J (fun hg=>bG (aJ J hg) hI)<|zo J (kM J J) ?_;refine bv J<|ap<|au<|zo J (cc lM kj J J)<|zo J (bC bL J J)<|ap<|av ?_;refine gj (Z:=fun x=>iu l (dv l tl1) i1 e2 ok1 ob e3 x=some R) (Of:=fun x=>[bx (rH bc [(1,ai l2 c1 ob.kinds.length),(2,ai l3 c2 ob.open_.length)]) 124 b (bm ob (ai l4 c3 ob.result.length)),gX gz 29 l2 c1 ob.kinds,cu bW 3 l3 c2 ob.open_,cu bW 3 l4 c3 ob.result]) (Gf:=fun x=>[(0,tV (aD b 0)),(4,je l.n.Keys),(5,gU (ok1&&((e2.Arg.Nodes.length:Int)==(0:Int)))),(8,ce (i1:Int)),(10,ce e3),(87,fE (cS) l.n.Aggs),(88,je l.n.Aggs),(89,ce (i1:Int)),(112,ce e2.Tag),(113,gU x)]) (fun x h=>?_) (fun K=>?_)
    ·skip
     refine dN h J (fun h=>?_) (fun h=>?_)
     ·refine ak<|aA J<|aA J<|bE J J (fun hg=>cM J)<|bE J J (fun hg=>bG (aJ J hg) hI)<|zo J (kM J J)<|bv J<|aK<|al<|al<|an<|ak<|zo rfl (lb (cL hx1 hN1) rfl)<|aA rfl<|aK ?_;exact aW (aM (ih1 (i1+1) ((ok1&&((e2.Arg.Nodes.length:Int)==(0:Int)))&&(e3==(2:Int))) ob l2 c1 l3 c2 l4 c3 ⟨cK hx1,h⟩) (bh J))
     ·refine au<|zo J (kc J)<|bv J<|ap<|dN h J (fun h=>?_) (fun h=>?_)
      ·refine au<|aA J<|aA J<|bE J J (fun hg=>cM J)<|bE J J (fun hg=>bG (aJ J hg) hI)<|zo J (kM J J)<|bv J<|ap<|ak<|aA J<|zo J (aS (ht J))<|zo J (eY 17 ef J J J)<|zo J (dw bT (fD iX) (.head _) J (ht J))<|aA J<|aA J<|zo J (nO (ht J) (ht J))<|bO h fun e4 q_e4 h=>zo J (cw dr bL (.tail _ (.tail _ (.tail _ (.head _)))) (ht J) (ht J) q_e4)<|eJ<|bO h fun st q_st h=>jI bL J aw J q_e4 (so q_st) (ht J) hI<|ig (fW (so q_st)) 131 J ?_;refine lH (O' :=[cu bW 3 l4 c3 st,bx (rH bc [(1,ai l2 c1 ob.kinds.length),(2,ai l3 c2 ob.open_.length)]) 124 b (bm ob (ai l4 c3 st.length)),gX gz 29 l2 c1 ob.kinds,cu bW 3 l3 c2 ob.open_]) (by rw [fW (so q_st)])<|aK<|al<|al<|an<|ak<|zo rfl (lb (cL hx1 hN1) rfl)<|aA rfl<|aK<|bn<|bn<|bn ?_;exact aW (aM (ih1 (i1+1) ((ok1&&((e2.Arg.Nodes.length:Int)==(0:Int)))&&(e3==(4:Int))) ({ob with result:=st}:af) l2 c1 l3 c2 l4 c3 ⟨cK hx1,h⟩) (bh J))
      ·refine gj (Z:=fun x1=>jU (dv l tl1) i1 e2 ok1 ob e3 x1=some R) (Of:=fun x1=>[bx (rH bc [(1,ai l2 c1 ob.kinds.length),(2,ai l3 c2 ob.open_.length)]) 124 b (bm ob (ai l4 c3 ob.result.length)),gX gz 29 l2 c1 ob.kinds,cu bW 3 l3 c2 ob.open_,cu bW 3 l4 c3 ob.result]) (Gf:=fun x1=>[(0,tV (aD b 0)),(4,je l.n.Keys),(5,gU (ok1&&((e2.Arg.Nodes.length:Int)==(0:Int)))),(10,ce e3),(87,fE (cS) l.n.Aggs),(88,je l.n.Aggs),(89,ce (i1:Int)),(136,gU x1)]) (fun x1 h=>?_) (fun K1=>?_)
       ·skip
        refine dN h J (fun h=>?_) (fun h=>?_)
        ·refine ak<|aA J<|aA J<|bE J J (fun hg=>cM J)<|bE J J (fun hg=>dn (aJ J hg) hI)<|zo J (kM J J)<|bv J<|aK<|al<|al<|an<|ak<|zo rfl (lb (cL hx1 hN1) rfl)<|aA rfl<|aK ?_;exact aW (aM (ih1 (i1+1) ((ok1&&((e2.Arg.Nodes.length:Int)==(0:Int)))&&(e3 !=(4:Int))) ob l2 c1 l3 c2 l4 c3 ⟨cK hx1,h⟩) (bh J))
        ·refine ak<|zo J (fC)<|aK<|al<|al<|an<|ak<|zo rfl (lb (cL hx1 hN1) rfl)<|aA rfl<|aK ?_;exact aW (aM (ih1 (i1+1) false ob l2 c1 l3 c2 l4 c3 ⟨cK hx1,h⟩) (bh J))
       ·skip
        refine au<|zo J (kc J)<|bv J<|ap<|dN h J (fun h=>?_) (fun h=>?_)
        ·refine bD ?_;exact cg (K1 (e2.Tag==(4:Int)) h) (bh J)
        ·refine ak<|zo J (kc J)<|bv J<|aK ?_;exact cg (K1 (e2.Tag==(5:Int)) h) (bh J)
    ·skip
     refine au<|zo J (kc J)<|bv J<|ap<|dN h J (fun h=>?_) (fun h=>?_)
     ·refine bD ?_;exact cg (K (e2.Tag==(1:Int)) h) (bh J)
     ·refine ak<|zo J (kc J)<|bv J<|aK ?_;exact cg (K (e2.Tag==(2:Int)) h) (bh J)
  ·obtain⟨hx,h⟩:=h
   refine aq<|au<|zo J (fx J J)<|ap<|ae<|bq (ht J) (dh hx)<|eK<|ae<|av<|au<|aA J<|zo J (ka dr bL J J J (dy hx))<|zo J (bC bL J J)<|bv J<|bv J<|ap<|ak<|aA J<|aA J ?_;refine bE J J (fun hg=>cM J)<|bE J J (fun hg=>cM J)<|bE J J (fun hg=>bG (aJ J hg) (aJ J hg))<|zo J (kM J J)<|aA J<|bO h fun t q_t h=>bE J J (fun hg=>cM J)<|bE J J (fun hg=>aS (aJ J hg))<|bE J J (fun hg=>bB (n:=15) gw J (aJ J hg) J)<|bE J J (fun hg=>aT (r:=rH bc [(1,ai (ix.h 0).1 (ix.h 0).2 l.kinds.length),(2,ai (ix.h 1).1 (ix.h 1).2 l.open_.length)]) (x:=bm l (ai l1 c r.length)) bT J J (fD hZ) (.head _) (aJ J hg))<|bE J J (fun hg=>cM J) ?_
   obtain⟨e5,h1t,h0t⟩:=og q_t
   have q_e5g:=fun hb=>(h1t hb).1
   refine bE J J (fun hg=>cr dr bL J (aJ J hg) (aJ J hg) (q_e5g hg))<|bE J J (fun hg=>aO bL J J (aJ J hg))<|bE J J (fun hg=>dn (aJ J hg) hI)<|zo J (dm (ht J) (fun hb=>(aJ J hb)) (fun hb=>(h1t hb).2) h0t)<|bv J<|aK<|al<|an<|ak<|zo rfl (lb (cL hx hN) rfl)<|aA rfl<|aK ?_;exact aW (aM (ih (i+1) t ⟨cK hx,h⟩) (bh J))

theorem Np(b:Nat)(ix:OI)(l:af){R:Bool×af}(h:iT l=some R):fT aP 90 [tV (aD b 0)] (du b l ix) (fun _:OI=>gU R.1) (fun j=>du b R.2 j):=by
 refine fT.of Tryz.func90 J J J fun w0 S0=>?_;refine(show CG _ _ _ [bx (rH aN [(1,ai (ix.h 0).1 (ix.h 0).2 l.kinds.length),(2,ai (ix.h 1).1 (ix.h 1).2 l.open_.length)]) 124 b l,gX gz 29 (ix.h 0).1 (ix.h 0).2 l.kinds,cu bW 3 (ix.h 1).1 (ix.h 1).2 l.open_] _ from ?_);refine au<|zo J (fC)<|ap<|au<|aA J<|zo J (aS (ht J))<|zo J (eY 17 ef J J J)<|cm false bW 3<|bM<|dV bT J (ou (hs' :=[(1,ai (ix.h 0).1 (ix.h 0).2 l.kinds.length),(2,ai (ix.h 1).1 (ix.h 1).2 l.open_.length)]) (iR _ _) ⟨.inr ⟨J,J⟩,.inr ⟨J,J⟩,aY⟩ J) J (ht J) (zy (show ay _ _ _ Io from q6)) ?_;refine(show RG _ _ _ _ [bx (rH bc [(1,ai (ix.h 0).1 (ix.h 0).2 l.kinds.length),(2,ai (ix.h 1).1 (ix.h 1).2 l.open_.length)]) 124 b (bm l (ai none 0 (mW.length))),cu bW 3 none 0 mW,gX gz 29 (ix.h 0).1 (ix.h 0).2 l.kinds,cu bW 3 (ix.h 1).1 (ix.h 1).2 l.open_] _ from ?_);refine ap<|ae<|au<|aA J<|zo J (aS (ht J))<|zo J (eY 3 fb J J J)<|zo J (eY 12 sX J J J)<|zo J (aT (r:=rH bc [(1,ai (ix.h 0).1 (ix.h 0).2 l.kinds.length),(2,ai (ix.h 1).1 (ix.h 1).2 l.open_.length)]) (x:=bm l (ai none 0 (mW.length))) Bw J J (fD (eD q7 oH)) (.head _) (ht J))<|zo J (jk qL J)<|zo J (bj hI)<|ap<|av<|aX (k:=14) J fun hN=>bK<|dM<|ep<|ep<|ep ?_;refine aM (pK (Z:=fun ls i ob l1 c l2 c1 l3 c2=>(l.n.Items.drop i=ls)∧gD ls ob=some R) (Of:=fun _ i ob l1 c l2 c1 l3 c2=>[bx (rH bc [(1,ai l1 c ob.kinds.length),(2,ai l2 c1 ob.open_.length)]) 124 b (bm ob (ai l3 c2 ob.result.length)),gX gz 29 l1 c ob.kinds,cu bW 3 l2 c1 ob.open_,cu bW 3 l3 c2 ob.result]) (Gf:=fun _ i ob l1 c l2 c1 l3 c2=>[(0,tV (aD b 0)),(14,fE (be) l.n.Items),(15,je l.n.Items),(16,ce (i:Int))]) (fun i ob l1 c l2 c1 l3 c2 h=>?_) (fun e tl ih i ob l1 c l2 c1 l3 c2 h=>?_) l.n.Items 0 ({l with result:=mW}:af) (ix.h 0).1 (ix.h 0).2 (ix.h 1).1 (ix.h 1).2 none 0 ⟨J,h⟩) (bh J)
 ·obtain⟨hx,h⟩:=h
  refine aq<|au<|zo J (fx J J)<|ap<|ae<|br (ht J) (dp hx)<|bk ?_;refine ac (ac (aG ?_));refine an<|au<|aA rfl<|zo rfl (aS (ht rfl))<|zo rfl (eY 17 ef rfl rfl rfl)<|zo rfl (dw bT (fD iX) (.head _) rfl (ht rfl))<|zo rfl (ee dr (.tail _ (.tail _ (.tail _ (.head _)))) (ht rfl))<|zo rfl (gZ (ht rfl) hI)<|bv rfl<|ap<|am<|bn<|ii<|jL 45 rfl<|bf<|pq (r' :=rH aN [(1,ai l1 c ob.kinds.length),(2,ai l2 c1 ob.open_.length)]) (x' :=ob) (fun _ _ _ ho h=>J6 h (fun h=>fN (iE ho (.head _)) h))<|bf<|bl<|aI<|aI<|aI ?_;cases so h;exact c0 J (F3 [(l1,c),(l2,c1)]) J J (fun _ _ h=>h)
 ·obtain⟨hx,h⟩:=h
  refine aq<|au<|zo J (fx J J)<|ap<|ae<|bq (ht J) (dh hx)<|eK<|ae<|av<|au<|zo J (ka qL gn J J J (dy hx))<|zo J (bC gn J J)<|aZ (r:=be) (x:=uF) gn (fun _=>pS _) J fun b1=>aC gn J aw J (ht J) (ht J)<|aU 4 J<|ap<|ae<|bO h fun r q_r h=>?_
  refine eQ (ts:=[_,_,_,_,_,_,_,_,_,_,_]) mixed J J
   ⟨ij 4 J J J (bC gn J J),
   ⟨ij 0 J J J (cM J),
   ⟨cO 22 1 J J J (aS (ht J)),
   ⟨cO 23 2 J J J (eY 15 gw J J J),
   ⟨cO 24 3 J J J (aT (r:=rH bc [(1,ai l1 c ob.kinds.length),(2,ai l2 c1 ob.open_.length)]) (x:=bm ob (ai l3 c2 ob.result.length)) bT J J (fD hZ) (.head _) (ht J)),
   ⟨fG 21 0 25 4 J J J J (aL EX (wB _ _ q_r) ⟨(ht J),(ht J),aY⟩),
   ⟨cO 26 5 J J J (cM J),
   ⟨cO 20 6 J J J (lA J J),
   ⟨cO 20 6 J J J (lA J J),
   ⟨cO 27 7 J J J (yD J),
   ⟨cO 28 8 J J J (yD J),
   aY⟩⟩⟩⟩⟩⟩⟩⟩⟩⟩⟩ ?_
  refine an<|ae<|au<|aA rfl<|zo rfl (uz rfl)<|ap<|dN h rfl (fun h=>?_) (fun h=>?_)
  ·refine au<|zo J (fC)<|ap<|am ?_;refine aa (aB (aa (aa (aB (aa ?_)))));refine bn<|ii<|bf<|pq (r' :=rH aN [(1,ai l1 c ob.kinds.length),(2,ai l2 c1 ob.open_.length)]) (x' :=ob) (fun _ _ _ ho h=>J6 h (fun h=>fN (iE ho (.head _)) h))<|bf<|bl<|aI<|aI<|aI ?_;cases so h;exact c0 J (F3 [(l1,c),(l2,c1)]) J J (fun _ _ h=>h)
  ·refine eK<|ak<|aA J<|aA J<|zo J (aS (ht J))<|zo J (eY 17 ef J J J)<|zo J (dw bT (fD iX) (.head _) J (ht J))<|aA J<|zo J (bX (r:=bW) (ys:=[r.1]) (xs:=[.tmp 36]) dr bL J J J J J ⟨(ht J),aY⟩)<|eJ<|bO h fun l4 q_l4 h=>dk bL J J J J dr J J (ht J) (ht J) q_l4 fun l5 c3=>zo J (aS (ht J))<|zo J (eY 17 ef J J J)<|bM<|dV bT J (ou (hs' :=[(1,ai l1 c ob.kinds.length),(2,ai l2 c1 ob.open_.length)]) (fR _ _ _) ⟨.inr ⟨J,J⟩,.inr ⟨J,J⟩,aY⟩ J) J (ht J) (zy (ht J)) ?_;refine(show RG _ _ _ _ [bx (rH bc [(1,ai l1 c ob.kinds.length),(2,ai l2 c1 ob.open_.length)]) 124 b (bm ob (ai l5 c3 l4.length)),cu bW 3 l5 c3 l4,gX gz 29 l1 c ob.kinds,cu bW 3 l2 c1 ob.open_] _ from ?_);refine aK<|al<|an<|ak<|zo rfl (lb (cL hx hN) rfl)<|aA rfl<|aK<|bf<|bn<|bn<|bn ?_;exact aW (aM (ih (i+1) ({ob with result:=l4}:af) l1 c l2 c1 l5 c3 ⟨cK hx,h⟩) (bh J))

theorem No(b:Nat)(ix:OI)(l:af){R:Bool×af}(h:ki l=some R):fT aP 91 [tV (aD b 0)] (du b l ix) (fun _:OI=>gU R.1) (fun j=>du b R.2 j):=by
 refine fT.of Tryz.func91 J J J fun w0 S0=>?_;refine(show CG _ _ _ [bx (rH aN [(1,ai (ix.h 0).1 (ix.h 0).2 l.kinds.length),(2,ai (ix.h 1).1 (ix.h 1).2 l.open_.length)]) 124 b l,gX gz 29 (ix.h 0).1 (ix.h 0).2 l.kinds,cu bW 3 (ix.h 1).1 (ix.h 1).2 l.open_] _ from ?_);refine au<|zo J (fC)<|ap<|au<|aA J<|aA J<|zo J (aS (ht J))<|zo J (eY 15 gw J J J)<|zo J (aT (r:=rH aN [(1,ai (ix.h 0).1 (ix.h 0).2 l.kinds.length),(2,ai (ix.h 1).1 (ix.h 1).2 l.open_.length)]) (x:=l) bT J J (fD ll) (.head _) (ht J))<|zo J (aS (ht J))<|zo J (eY 17 ef J J J)<|lO (gR bT J (qT (hs' :=[(1,ai (ix.h 0).1 (ix.h 0).2 l.kinds.length),(2,ai (ix.h 1).1 (ix.h 1).2 l.open_.length)]) od ⟨.inr ⟨J,J⟩,.inr ⟨J,J⟩,aY⟩ J) J (ht J) (ht J)) fun i=>?_;refine(show RG _ _ _ _ [bx (rH aN [(1,ai (ix.h 0).1 (ix.h 0).2 l.kinds.length),(2,ai (ix.h 1).1 (ix.h 1).2 l.open_.length)]) 124 b ({l with result:=l.a_}:af),gX gz 29 (ix.h 0).1 (ix.h 0).2 l.kinds,cu bW 3 (ix.h 1).1 (ix.h 1).2 l.open_] _ from ?_);refine ap<|au<|zo J (fC)<|ap<|am<|aI<|aI<|aI ?_;cases so h;exact c0 J ix J J (fun _ _ h=>h)

theorem Nn(b:Nat)(ix:OI)(l:af){R:Bool×af}(h:iI l=some R):fT aP 92 [tV (aD b 0)] (du b l ix) (fun _:OI=>gU R.1) (fun j=>du b R.2 j):=by
 refine fT.of Tryz.func92 J J J fun w0 S0=>?_;refine(show CG _ _ _ [bx (rH aN [(1,ai (ix.h 0).1 (ix.h 0).2 l.kinds.length),(2,ai (ix.h 1).1 (ix.h 1).2 l.open_.length)]) 124 b l,gX gz 29 (ix.h 0).1 (ix.h 0).2 l.kinds,cu bW 3 (ix.h 1).1 (ix.h 1).2 l.open_] _ from ?_);refine au<|zo J (fC)<|ap<|ae<|ae ?_
 refine eQ (ts:=[_,_,_,_,_,_,_,_,_,_,_]) mixed J J
  ⟨ij 0 J J J (cM J),
  ⟨cO 6 0 J J J (aS (ht J)),
  ⟨cO 7 1 J J J (eY 15 gw J J J),
  ⟨cO 8 2 J J J (aT (r:=rH aN [(1,ai (ix.h 0).1 (ix.h 0).2 l.kinds.length),(2,ai (ix.h 1).1 (ix.h 1).2 l.open_.length)]) (x:=l) bT J J (fD ll) (.head _) (ht J)),
  ⟨cO 9 3 J J J (jk dr J),
  ⟨ij 0 J J J (cM J),
  ⟨cO 11 5 J J J (aS (ht J)),
  ⟨cO 12 6 J J J (eY 16 t7 J J J),
  ⟨cO 13 7 J J J (aT (r:=rH aN [(1,ai (ix.h 0).1 (ix.h 0).2 l.kinds.length),(2,ai (ix.h 1).1 (ix.h 1).2 l.open_.length)]) (x:=l) bT J J (fD zF) (.head _) (ht J)),
  ⟨cO 14 8 J J J (jk dr J),
  ⟨fG 10 4 15 9 J J J J (dn (ht J) (ht J)),
  aY⟩⟩⟩⟩⟩⟩⟩⟩⟩⟩⟩ ?_
 refine an<|dN h rfl (fun h=>?_) (fun h=>?_)
 ·refine au<|zo J (fC)<|ap<|am<|aa<|aI<|aI<|aI ?_;cases so h;exact c0 J ix J J (fun _ _ h=>h)
 ·refine eK<|au<|aA J<|zo J (aS (ht J))<|zo J (eY 17 ef J J J)<|cm false bW 3<|bM<|dV bT J (ou (hs' :=[(1,ai (ix.h 0).1 (ix.h 0).2 l.kinds.length),(2,ai (ix.h 1).1 (ix.h 1).2 l.open_.length)]) (iR _ _) ⟨.inr ⟨J,J⟩,.inr ⟨J,J⟩,aY⟩ J) J (ht J) (zy (show ay _ _ _ Io from q6)) ?_;refine(show RG _ _ _ _ [bx (rH bc [(1,ai (ix.h 0).1 (ix.h 0).2 l.kinds.length),(2,ai (ix.h 1).1 (ix.h 1).2 l.open_.length)]) 124 b (bm l (ai none 0 (mW.length))),cu bW 3 none 0 mW,gX gz 29 (ix.h 0).1 (ix.h 0).2 l.kinds,cu bW 3 (ix.h 1).1 (ix.h 1).2 l.open_] _ from ?_);refine ap<|ae<|au<|aA J<|zo J (aS (ht J))<|zo J (eY 15 gw J J J)<|zo J (aT (r:=rH bc [(1,ai (ix.h 0).1 (ix.h 0).2 l.kinds.length),(2,ai (ix.h 1).1 (ix.h 1).2 l.open_.length)]) (x:=bm l (ai none 0 (mW.length))) bT J J (fD hZ) (.head _) (ht J))<|zo J (jk dr J)<|zo J (bj hI)<|ap<|av<|aX (k:=23) J fun hN=>bK<|dM<|ep<|ep<|ep ?_;refine aM (pK (Z:=fun ls i ob l1 c l2 c1 l3 c2=>(l.a_.drop i=ls)∧ez ls i ob=some R) (Of:=fun _ i ob l1 c l2 c1 l3 c2=>[bx (rH bc [(1,ai l1 c ob.kinds.length),(2,ai l2 c1 ob.open_.length)]) 124 b (bm ob (ai l3 c2 ob.result.length)),gX gz 29 l1 c ob.kinds,cu bW 3 l2 c1 ob.open_,cu bW 3 l3 c2 ob.result]) (Gf:=fun _ i ob l1 c l2 c1 l3 c2=>[(0,tV (aD b 0)),(23,lx l.a_),(24,je l.a_),(25,ce (i:Int))]) (fun i ob l1 c l2 c1 l3 c2 h=>?_) (fun e tl ih i ob l1 c l2 c1 l3 c2 h=>?_) l.a_ 0 ({l with result:=mW}:af) (ix.h 0).1 (ix.h 0).2 (ix.h 1).1 (ix.h 1).2 none 0 ⟨J,h⟩) (bh J)
  ·obtain⟨hx,h⟩:=h
   refine aq<|au<|zo J (fx J J)<|ap<|ae<|br (ht J) (dp hx)<|bk ?_;refine ac (ac (aG ?_));refine an<|au<|zo rfl (fC)<|ap<|am<|bn<|ii<|bf<|pq (r' :=rH aN [(1,ai l1 c ob.kinds.length),(2,ai l2 c1 ob.open_.length)]) (x' :=ob) (fun _ _ _ ho h=>J6 h (fun h=>fN (iE ho (.head _)) h))<|bf<|bl<|aI<|aI<|aI ?_;cases so h;exact c0 J (F3 [(l1,c),(l2,c1)]) J J (fun _ _ h=>h)
  ·obtain⟨hx,h⟩:=h
   refine aq<|au<|zo J (fx J J)<|ap<|ae<|bq (ht J) (dh hx)<|eK<|ae<|av<|au<|aA J<|zo J (ka dr bL J J J (dy hx))<|zo J (bC bL J J)<|bv J<|bv J<|ap<|au<|aA J ?_;refine zo J (aS (ht J))<|zo J (eY 16 t7 J J J)<|zo J (aT (r:=rH bc [(1,ai l1 c ob.kinds.length),(2,ai l2 c1 ob.open_.length)]) (x:=bm ob (ai l3 c2 ob.result.length)) bT J J (fD Ca) (.head _) (ht J))<|aA J<|bO h fun e1 q_e1 h=>zo J (ka dr bL J J J q_e1)<|zo J (bC bL J J)<|bv J<|ap ?_;refine gj (Z:=fun k=>ge (ez tl) i ob e1 k=some R) (Of:=fun k=>[bx (rH bc [(1,ai l1 c ob.kinds.length),(2,ai l2 c1 ob.open_.length)]) 124 b (bm ob (ai l3 c2 ob.result.length)),gX gz 29 l1 c ob.kinds,cu bW 3 l2 c1 ob.open_,cu bW 3 l3 c2 ob.result]) (Gf:=fun k=>[(0,tV (aD b 0)),(4,ce k),(5,ce e1),(23,lx l.a_),(24,je l.a_),(25,ce (i:Int))]) (fun k h=>?_) (fun K=>?_)
   ·skip
    refine ae<|au<|aA J<|zo J (uz J)<|aA J<|bE J J (fun hg=>cM J)<|bE J J (fun hg=>cM J)<|bE J J (fun hg=>dn (aJ J hg) (aJ J hg))<|zo J (kM J J)<|ap<|dN h J (fun h=>?_) (fun h=>?_)
    ·refine au<|zo J (fC)<|ap<|am ?_;refine aa (aB (aa (aa (aB (aa ?_)))));refine bn<|ii<|bf<|pq (r' :=rH aN [(1,ai l1 c ob.kinds.length),(2,ai l2 c1 ob.open_.length)]) (x' :=ob) (fun _ _ _ ho h=>J6 h (fun h=>fN (iE ho (.head _)) h))<|bf<|bl<|aI<|aI<|aI ?_;cases so h;exact c0 J (F3 [(l1,c),(l2,c1)]) J J (fun _ _ h=>h)
    ·refine eK<|ak<|aA J<|aA J<|zo J (aS (ht J))<|zo J (eY 17 ef J J J)<|zo J (dw bT (fD iX) (.head _) J (ht J))<|aA J<|zo J (bX (r:=bW) (ys:=[k]) (xs:=[.tmp 52]) dr bL J J J J J ⟨(ht J),aY⟩)<|eJ<|bO h fun l4 q_l4 h=>dk bL J J J J dr J J (ht J) (ht J) q_l4 fun l5 c3=>zo J (aS (ht J))<|zo J (eY 17 ef J J J)<|bM<|dV bT J (ou (hs' :=[(1,ai l1 c ob.kinds.length),(2,ai l2 c1 ob.open_.length)]) (fR _ _ _) ⟨.inr ⟨J,J⟩,.inr ⟨J,J⟩,aY⟩ J) J (ht J) (zy (ht J)) ?_;refine(show RG _ _ _ _ [bx (rH bc [(1,ai l1 c ob.kinds.length),(2,ai l2 c1 ob.open_.length)]) 124 b (bm ob (ai l5 c3 l4.length)),cu bW 3 l5 c3 l4,gX gz 29 l1 c ob.kinds,cu bW 3 l2 c1 ob.open_] _ from ?_);refine aK<|al<|an<|ak<|zo rfl (lb (cL hx hN) rfl)<|aA rfl<|aK<|bf<|bn<|bn<|bn ?_;exact aW (aM (ih (i+1) ({ob with result:=l4}:af) l1 c l2 c1 l5 c3 ⟨cK hx,h⟩) (bh J))
   ·skip
    refine au<|aA J<|zo J (kc J)<|ap<|dN h J (fun h=>?_) (fun h=>?_)
    ·refine ak<|aA J<|bv J<|aK ?_;exact cg (K e1 h) (bh J)
    ·refine bD ?_;exact cg (K e h) (bh J)

end Go.Proofs.YtmogpgcfognefaaGreatDoor

