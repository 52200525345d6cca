/- co of this claim: P3. -/
import Derived.Test.YtmogpgcfognefaaGreatDoorNeT
import Derived.Test.YtmogpgcfognefaaGreatDoorNeP2
set_option linter.all false
namespace Go.Proofs.YtmogpgcfognefaaGreatDoor
open Go
set_option maxRecDepth 100000

theorem U0(b:Nat)(ix:OI)(l:al){R:Bool×al}(h:iy l=some R):fq aM 88 [tV (aI b 0)] (dS b l ix) (fun _:OI=>gK R.1) (fun j=>dS b R.2 j):=by
 refine fq.of Tryz.func88 J J J fun w0 S0=>?_;refine(show CG _ _ _ [bx (rH be [(1,aw (ix.h 0).1 (ix.h 0).2 l.kinds.length),(2,aw (ix.h 1).1 (ix.h 1).2 l.open_.length)]) 124 b l,eF iv 29 (ix.h 0).1 (ix.h 0).2 l.kinds,cG bQ 3 (ix.h 1).1 (ix.h 1).2 l.open_] _ from ?_);refine aq<|zo J (fJ)<|an<|aq<|aA J<|bF h fun r q_r h=>vo (EffOK.fr2 (EffOK.fr2 (EffOK.fr2 (zm (xs:=[.tmp 6]) (ts:=[tV (aI b 0)]) (dS b l ix) _ J Ve (U1 b ix l q_r) ⟨(ht J),aU⟩ (fun _=>J))))) J fun i=>?_;refine(show RG _ _ _ _ [bx (rH bC [(1,aw (i.h 0).1 (i.h 0).2 r.2.kinds.length),(2,aw (i.h 1).1 (i.h 1).2 r.2.open_.length)]) 124 b (bI r.2 (aw (i.h 2).1 (i.h 2).2 r.2.result.length)),eF iv 29 (i.h 0).1 (i.h 0).2 r.2.kinds,cG bQ 3 (i.h 1).1 (i.h 1).2 r.2.open_,cG bQ 3 (i.h 2).1 (i.h 2).2 r.2.result] ((7,gK r.1)::_)from ?_);refine bk J<|an<|ae<|aq<|aA J<|zo J (dH (ht J))<|an<|cX h J (fun h=>?_) (fun h=>?_)
 ·refine aq<|zo J (fJ)<|an<|aj<|aa<|bv<|gG<|aX<|sq (r' :=rH be [(1,aw (i.h 0).1 (i.h 0).2 r.2.kinds.length),(2,aw (i.h 1).1 (i.h 1).2 r.2.open_.length)]) (x' :=r.2) (fun _ _ _ ho h=>QM h (fun h=>gz (ju ho (.head _)) h))<|aX<|ba<|aR<|aR<|aR ?_;cases so h;exact dc J i J J (fun _ _ h=>h)
 ·refine dA<|ae<|aq<|aA J<|zo J (bj (ht J))<|zo J (fI 3 fW J J J)<|zo J (fI 11 oV J J J)<|zo J (br (r:=rH bC [(1,aw (i.h 0).1 (i.h 0).2 r.2.kinds.length),(2,aw (i.h 1).1 (i.h 1).2 r.2.open_.length)]) (x:=bI r.2 (aw (i.h 2).1 (i.h 2).2 r.2.result.length)) yT J J (gk (fQ u4 gY)) (.head _) (ht J))<|zo J (ja ss J)<|zo J (bl hI)<|an<|ax<|aV (k:=14) J fun hN=>bB ?_;refine aJ (sM (Z:=fun ls i1 ob l1 c l2 c1 l3 c2=>(r.2.n.Aggs.drop i1=ls)∧gc ls i1 ob=some R) (Of:=fun _ i1 ob l1 c l2 c1 l3 c2=>[bx (rH bC [(1,aw l1 c ob.kinds.length),(2,aw l2 c1 ob.open_.length)]) 124 b (bI ob (aw l3 c2 ob.result.length)),eF iv 29 l1 c ob.kinds,cG bQ 3 l2 c1 ob.open_,cG bQ 3 l3 c2 ob.result]) (Gf:=fun _ i1 ob l1 c l2 c1 l3 c2=>[(0,tV (aI b 0)),(14,d7 (fY) r.2.n.Aggs),(15,hM r.2.n.Aggs),(16,bH (i1:Int))]) (fun i1 ob l1 c l2 c1 l3 c2 h=>?_) (fun e tl ih i1 ob l1 c l2 c1 l3 c2 h=>?_) r.2.n.Aggs 0 r.2 (i.h 0).1 (i.h 0).2 (i.h 1).1 (i.h 1).2 (i.h 2).1 (i.h 2).2 ⟨J,h⟩) (aZ J)
  ·obtain⟨hx,h⟩:=h
   refine av<|aq<|zo J (eK J J)<|an<|ae<|bp (ht J) (cW hx)<|bg ?_;refine ac (ac (aF ?_));refine au<|aq<|zo rfl (fJ)<|an<|aj<|bv<|gG<|aX<|sq (r' :=rH be [(1,aw l1 c ob.kinds.length),(2,aw l2 c1 ob.open_.length)]) (x' :=ob) (fun _ _ _ ho h=>QM h (fun h=>gz (ju ho (.head _)) h))<|aX<|ba<|aR<|aR<|aR ?_;cases so h;exact dc J (K0 [(l1,c),(l2,c1)]) J J (fun _ _ h=>h)
  ·obtain⟨hx,h⟩:=h
   refine av<|aq<|zo J (eK J J)<|an<|ae<|bo (ht J) (cU hx)<|dA<|ae<|ax<|aq<|aA J<|zo J (iX ss kC J J J (cP hx))<|zo J (bz kC J J)<|aO (r:=fY) (x:=Kn) kC (fun _=>yQ _) J fun b1=>bk J<|ay kC J ap J (ht J) (ht J)<|aL 5 J<|an<|ae ?_;refine ai<|zo J (cd m4 lk J J)<|zo J (bz bJ J J)<|zo J (jy J)<|an<|cX h J (fun h=>?_) (fun h=>?_)
   ·obtain⟨e1,q_e1,h⟩:=bs h
    refine oh 13 (ts:=[tV (aI b 0),tV (aI b 0),tV (aI b 17),pQ l3 c2 ob.result,tV (aI b 0),tV (aI b 0),tV (aI b 3),tV (aI b 10),kz ob.n.Keys,hM ob.n.Keys,bH (i1:Int),bH (IntKind.i64.wrap ((ob.n.Keys.length:Int)+(i1:Int))),tV (oX l3 ((IntKind.i64.wrap ((ob.n.Keys.length:Int)+(i1:Int))).toNat*1+0))]) mixed J J J
     ⟨ia 0 J J J (cL J),
     ⟨cO 24 0 J J J (bj (ht J)),
     ⟨cO 25 1 J J J (fI 17 eW J J J),
     ⟨cO 26 2 J J J (jF ce (gk jT) (.head _) J (ht J)),
     ⟨ia 0 J J J (cL J),
     ⟨cO 28 4 J J J (bj (ht J)),
     ⟨cO 29 5 J J J (fI 3 fW J J J),
     ⟨cO 30 6 J J J (fI 10 kq J J J),
     ⟨cO 31 7 J J J (br (r:=rH bC [(1,aw l1 c ob.kinds.length),(2,aw l2 c1 ob.open_.length)]) (x:=bI ob (aw l3 c2 ob.result.length)) ce J J (gk (fQ u4 fZ)) (.head _) (ht J)),
     ⟨cO 32 8 J J J (ja dm J),
     ⟨ia 4 J J J (cL J),
     ⟨ft 33 9 34 10 J J J J (jZ (ht J) (ht J)),
     ⟨ft 27 3 35 11 J J J J (dk dm bJ (.tail _ (.tail _ (.tail _ (.head _)))) (ht J) (ht J) q_e1),
     aU⟩⟩⟩⟩⟩⟩⟩⟩⟩⟩⟩⟩⟩ ?_
    refine dZ<|bF h fun st q_st h=>qu bJ J ap J q_e1 (so q_st) (ht J) hI<|mH (nO (so q_st)) 27 J<|yx (O' :=[cG bQ 3 l3 c2 st,bx (rH bC [(1,aw l1 c ob.kinds.length),(2,aw l2 c1 ob.open_.length)]) 124 b (bI ob (aw l3 c2 st.length)),eF iv 29 l1 c ob.kinds,cG bQ 3 l2 c1 ob.open_]) (by rw [nO (so q_st)])<|aH<|am<|au<|ai<|zo rfl (jU (cz hx hN) rfl)<|aA rfl<|aH<|bv<|bv<|bv ?_;exact aT (aJ (ih (i1+1) ({ob with result:=st}:al) l1 c l2 c1 l3 c2 ⟨cy hx,h⟩) (aZ J))
   ·refine bA<|am<|au<|ai<|zo rfl (jU (cz hx hN) rfl)<|aA rfl<|aH ?_;exact aT (aJ (ih (i1+1) ob l1 c l2 c1 l3 c2 ⟨cy hx,h⟩) (aZ J))

theorem UZ(b:Nat)(ix:OI)(l:al){R:Bool×al}(h:jE l=some R):fq aM 89 [tV (aI b 0)] (dS b l ix) (fun _:OI=>gK R.1) (fun j=>dS b R.2 j):=by
 refine fq.of Tryz.func89 J J J fun w0 S0=>?_;refine(show CG _ _ _ [bx (rH be [(1,aw (ix.h 0).1 (ix.h 0).2 l.kinds.length),(2,aw (ix.h 1).1 (ix.h 1).2 l.open_.length)]) 124 b l,eF iv 29 (ix.h 0).1 (ix.h 0).2 l.kinds,cG bQ 3 (ix.h 1).1 (ix.h 1).2 l.open_] _ from ?_);refine aq<|zo J (fJ)<|an<|aq<|aA J<|zo J (bj (ht J))<|zo J (fI 3 fW J J J)<|zo J (br (r:=rH be [(1,aw (ix.h 0).1 (ix.h 0).2 l.kinds.length),(2,aw (ix.h 1).1 (ix.h 1).2 l.open_.length)]) (x:=l) eC J J (gk eH) (.head _) (ht J))<|aO (r:=aW) (x:=Dj) eC (fun _=>fE _) J fun b1=>ay eC J ap J (ht J) (ht J)<|aL 3 J<|an<|aq<|zo J (cd kq fZ J J)<|zo J (bz ce J J)<|zo J (ja dm J)<|bk J<|an ?_;refine ae<|bF h fun e q_e h=>?_
 refine eG (ts:=[_,_,_,_,_,_,_,_,_,_,_,_,_,_,_,_,_,_,_,_,_,_,_,_,_,_,_,_,_,_,_,_,_,_]) mixed J J
  ⟨ia 0 J J J (cL J),
  ⟨cO 18 0 J J J (bj (ht J)),
  ⟨cO 19 1 J J J (fI 0 Fg J J J),
  ⟨cO 20 2 J J J (br (r:=rH be [(1,aw (ix.h 0).1 (ix.h 0).2 l.kinds.length),(2,aw (ix.h 1).1 (ix.h 1).2 l.open_.length)]) (x:=l) AB J J (gk zg) (.head _) (ht J)),
  ⟨ia 3 J J J (cd u7 ml J J),
  ⟨cO 22 4 J J J (bz bJ J J),
  ⟨ft 21 3 23 5 J J J J (iX qy eC J J J q_e),
  ⟨cO 24 6 J J J (cd iq da J J),
  ⟨cO 25 7 J J J (bz bJ J J),
  ⟨cO 26 8 J J J (jy J),
  ⟨cO 27 9 J J J (cL J),
  ⟨qD 4 28 10 J J J J (db J J J J (fun hg=>cL J)),
  ⟨hZ 29 11 28 10 J J J J (db J J J J (fun hg=>iT (aS J hg) hI)),
  ⟨ft 28 10 30 12 J J J J (la J J),
  ⟨cO 31 13 J J J (cL J),
  ⟨qD 3 32 14 J J J J (db J J J J (fun hg=>cd oV gY J J)),
  ⟨hZ 33 15 32 14 J J J J (db J J J J (fun hg=>aY yT J J (aS J hg))),
  ⟨hZ 34 16 32 14 J J J J (db J J J J (fun hg=>bN ss (aS J hg))),
  ⟨hZ 35 17 32 14 J J J J (db J J J J (fun hg=>iT (aS J hg) hI)),
  ⟨ft 32 14 36 18 J J J J (la J J),
  ⟨cO 37 19 J J J (cL J),
  ⟨qD 4 38 20 J J J J (db J J J J (fun hg=>cL J)),
  ⟨qD 3 38 20 J J J J (db J J J J (fun hg=>cd oV gY J J)),
  ⟨hZ 40 22 38 20 J J J J (db J J J J (fun hg=>aY yT J J (aS J hg))),
  ⟨hZ 41 23 38 20 J J J J (db J J J J (fun hg=>bN ss (aS J hg))),
  ⟨wl 39 21 42 24 38 20 J J J J J (db J J J J (fun hg=>jZ (aS J hg) (aS J hg))),
  ⟨qD 0 38 20 J J J J (db J J J J (fun hg=>cL J)),
  ⟨hZ 44 26 38 20 J J J J (db J J J J (fun hg=>bj (aS J hg))),
  ⟨hZ 45 27 38 20 J J J J (db J J J J (fun hg=>bP (n:=15) il J (aS J hg) J)),
  ⟨hZ 46 28 38 20 J J J J (db J J J J (fun hg=>br (r:=rH be [(1,aw (ix.h 0).1 (ix.h 0).2 l.kinds.length),(2,aw (ix.h 1).1 (ix.h 1).2 l.open_.length)]) (x:=l) ce J J (gk mB) (.head _) (aS J hg))),
  ⟨hZ 47 29 38 20 J J J J (db J J J J (fun hg=>bN dm (aS J hg))),
  ⟨wl 43 25 48 30 38 20 J J J J J (db J J J J (fun hg=>bK (aS J hg) (aS J hg))),
  ⟨ft 38 20 49 31 J J J J (la J J),
  ⟨cO 50 32 J J J (zM J),
  aU⟩⟩⟩⟩⟩⟩⟩⟩⟩⟩⟩⟩⟩⟩⟩⟩⟩⟩⟩⟩⟩⟩⟩⟩⟩⟩⟩⟩⟩⟩⟩⟩⟩⟩ ?_
 refine au<|ae<|aq<|aA rfl<|zo rfl (dH (ht rfl))<|an<|cX h rfl (fun h=>?_) (fun h=>?_)
 ·refine aq<|zo J (fJ)<|an<|aj<|aa<|aR<|aR<|aR ?_;cases so h;exact dc J ix J J (fun _ _ h=>h)
 ·refine dA<|aq<|aA J<|aA J<|zo J (bj (ht J))<|zo J (fI 15 il J J J)<|zo J (br (r:=rH be [(1,aw (ix.h 0).1 (ix.h 0).2 l.kinds.length),(2,aw (ix.h 1).1 (ix.h 1).2 l.open_.length)]) (x:=l) ce J J (gk mB) (.head _) (ht J))<|bF h fun r q_r h=>ll Nv (A2 _ q_r) ⟨(ht J),aU⟩ J fun l1 c=>zo J (bj (ht J))<|zo J (fI 17 eW J J J)<|bD<|dB ce J (qK (hs' :=[(1,aw (ix.h 0).1 (ix.h 0).2 l.kinds.length),(2,aw (ix.h 1).1 (ix.h 1).2 l.open_.length)]) (jM _ _) ⟨.inr ⟨J,J⟩,.inr ⟨J,J⟩,aU⟩ J) J (ht J) (AW (ht J)) ?_;refine(show RG _ _ _ _ [bx (rH bC [(1,aw (ix.h 0).1 (ix.h 0).2 l.kinds.length),(2,aw (ix.h 1).1 (ix.h 1).2 l.open_.length)]) 124 b (bI l (aw l1 c r.length)),cG bQ 3 l1 c r,eF iv 29 (ix.h 0).1 (ix.h 0).2 l.kinds,cG bQ 3 (ix.h 1).1 (ix.h 1).2 l.open_] _ from ?_);refine an<|ae<|aq<|zo J (cd kq fZ J J)<|zo J (bz ce J J)<|zo J (ja dm J)<|zo J (bl hI)<|an<|ax<|aV (k:=62) J fun hN=>bB<|fc<|d3<|d3<|d3 ?_;refine aJ (ln (Z:=fun ls i ok=>(l.n.Keys.drop i=ls)∧jm l r ls i ok=some R) (Of:=fun _ i ok=>[bx (rH bC [(1,aw (ix.h 0).1 (ix.h 0).2 l.kinds.length),(2,aw (ix.h 1).1 (ix.h 1).2 l.open_.length)]) 124 b (bI l (aw l1 c r.length)),eF iv 29 (ix.h 0).1 (ix.h 0).2 l.kinds,cG bQ 3 (ix.h 1).1 (ix.h 1).2 l.open_,cG bQ 3 l1 c r]) (Gf:=fun _ i ok=>[(0,tV (aI b 0)),(3,bq aW l.n),(4,hM l.n.Keys),(5,gK ok),(62,kz l.n.Keys),(63,hM l.n.Keys),(64,bH (i:Int))]) (fun i ok h=>?_) (fun e1 tl ih i ok h=>?_) l.n.Keys 0 ((((e.Op==(9:Int))&&(decide ((l.n.Keys.length:Int)≤(3:Int))))&&(decide ((l.n.Aggs.length:Int)≤(12:Int))))&&((IntKind.i64.wrap ((l.n.Keys.length:Int)+(l.n.Aggs.length:Int)))==(l.a_.length:Int))) ⟨J,h⟩) (aZ J)
  ·obtain⟨hx,h⟩:=h
   refine av<|aq<|zo J (eK J J)<|an<|ae<|bp (ht J) (cW hx)<|bg ?_;refine ac (ac (aF ?_));refine au<|ae<|aq<|zo rfl (cd oV gY rfl rfl)<|zo rfl (bz yT rfl rfl)<|zo rfl (ja ss rfl)<|zo rfl (bl hI)<|an<|ax<|aV (k:=87) J fun hN1=>bB ?_;refine aJ (yD (Z:=fun ls1 i1 ok1 ob l2 c1 l3 c2 l4 c3=>(l.n.Aggs.drop i1=ls1)∧dW l ls1 i1 ok1 ob=some R) (Of:=fun _ i1 ok1 ob l2 c1 l3 c2 l4 c3=>[bx (rH bC [(1,aw l2 c1 ob.kinds.length),(2,aw l3 c2 ob.open_.length)]) 124 b (bI ob (aw l4 c3 ob.result.length)),eF iv 29 l2 c1 ob.kinds,cG bQ 3 l3 c2 ob.open_,cG bQ 3 l4 c3 ob.result]) (Gf:=fun _ i1 ok1 ob l2 c1 l3 c2 l4 c3=>[(0,tV (aI b 0)),(4,hM l.n.Keys),(5,gK ok1),(87,d7 (fY) l.n.Aggs),(88,hM l.n.Aggs),(89,bH (i1:Int))]) (fun i1 ok1 ob l2 c1 l3 c2 l4 c3 h=>?_) (fun e2 tl1 ih1 i1 ok1 ob l2 c1 l3 c2 l4 c3 h=>?_) l.n.Aggs 0 ok ({l with result:=r}:al) (ix.h 0).1 (ix.h 0).2 (ix.h 1).1 (ix.h 1).2 l1 c ⟨J,h⟩) (aZ J)
   ·obtain⟨hx1,h⟩:=h
    refine av<|aq<|zo J (eK J J)<|an<|ae<|bp (ht J) (cW hx1)<|bg ?_;refine ac (ac (aF ?_));refine au<|aq<|aA rfl<|bk rfl<|an<|aj<|bv<|gG<|aX<|sq (r' :=rH be [(1,aw l2 c1 ob.kinds.length),(2,aw l3 c2 ob.open_.length)]) (x' :=ob) (fun _ _ _ ho h=>QM h (fun h=>gz (ju ho (.head _)) h))<|aX<|ba<|aR<|aR<|aR ?_;cases so h;exact dc J (K0 [(l2,c1),(l3,c2)]) J J (fun _ _ h=>h)
   ·obtain⟨hx1,h⟩:=h
    refine av<|aq<|zo J (eK J J)<|an<|ae<|bo (ht J) (cU hx1)<|dA<|ae<|ax<|aq<|aA J<|zo J (iX ss kC J J J (cP hx1))<|zo J (bz kC J J)<|aO (r:=fY) (x:=Kn) kC (fun _=>yQ _) J fun b2=>bk J<|ay kC J ap J (ht J) (ht J)<|aL 9 J<|an<|ae ?_;refine ai<|aA J<|zo J (bj (ht J))<|zo J (fI 15 il J J J)<|zo J (br (r:=rH bC [(1,aw l2 c1 ob.kinds.length),(2,aw l3 c2 ob.open_.length)]) (x:=bI ob (aw l4 c3 ob.result.length)) ce J J (gk iZ) (.head _) (ht J))<|aA J<|aA J<|zo J (jZ (ht J) (ht J))<|bF h fun e3 q_e3 h=>zo J (iX dm bJ J J J q_e3)<|zo J (bz bJ J J)<|bk J<|an<|aq<|aA J<|aA J<|bO J J (fun hg=>cd yf u5 J J)<|bO J J (fun hg=>dh fa J dw J (aS J hg))<|bO J J (fun hg=>aY lU J J (aS J hg))<|bO J J (fun hg=>bN jB (aS J hg))<|bO J J (fun hg=>bK (aS J hg) hI)<|zo J (la J J) ?_;refine bk J<|an<|aq<|zo J (cd m4 lk J J)<|zo J (bz bJ J J)<|an<|ax ?_;refine fD (Z:=fun x=>jn l (dW l tl1) i1 e2 ok1 ob e3 x=some R) (Of:=fun x=>[bx (rH bC [(1,aw l2 c1 ob.kinds.length),(2,aw l3 c2 ob.open_.length)]) 124 b (bI ob (aw l4 c3 ob.result.length)),eF iv 29 l2 c1 ob.kinds,cG bQ 3 l3 c2 ob.open_,cG bQ 3 l4 c3 ob.result]) (Gf:=fun x=>[(0,tV (aI b 0)),(4,hM l.n.Keys),(5,gK (ok1&&((e2.Arg.Nodes.length:Int)==(0:Int)))),(8,bH (i1:Int)),(10,bH e3),(87,d7 (fY) l.n.Aggs),(88,hM l.n.Aggs),(89,bH (i1:Int)),(112,bH e2.Tag),(113,gK x)]) (fun x h=>?_) (fun K=>?_)
    ·skip
     refine cX h J (fun h=>?_) (fun h=>?_)
     ·refine ai<|aA J<|aA J<|bO J J (fun hg=>cL J)<|bO J J (fun hg=>bK (aS J hg) hI)<|zo J (la J J)<|bk J<|aH<|am<|am<|au<|ai<|zo rfl (jU (cz hx1 hN1) rfl)<|aA rfl<|aH ?_;exact aT (aJ (ih1 (i1+1) ((ok1&&((e2.Arg.Nodes.length:Int)==(0:Int)))&&(e3==(2:Int))) ob l2 c1 l3 c2 l4 c3 ⟨cy hx1,h⟩) (aZ J))
     ·refine aq<|zo J (jy J)<|bk J<|an<|cX h J (fun h=>?_) (fun h=>?_)
      ·refine aq<|aA J<|aA J<|bO J J (fun hg=>cL J)<|bO J J (fun hg=>bK (aS J hg) hI)<|zo J (la J J)<|bk J<|an<|ai<|aA J<|zo J (bj (ht J))<|zo J (fI 17 eW J J J)<|zo J (jF ce (gk jT) (.head _) J (ht J))<|aA J<|aA J<|zo J (jZ (ht J) (ht J))<|bF h fun e4 q_e4 h=>zo J (dk dm bJ (.tail _ (.tail _ (.tail _ (.head _)))) (ht J) (ht J) q_e4)<|dZ<|bF h fun st q_st h=>qu bJ J ap J q_e4 (so q_st) (ht J) hI<|mH (nO (so q_st)) 131 J ?_;refine yx (O' :=[cG bQ 3 l4 c3 st,bx (rH bC [(1,aw l2 c1 ob.kinds.length),(2,aw l3 c2 ob.open_.length)]) 124 b (bI ob (aw l4 c3 st.length)),eF iv 29 l2 c1 ob.kinds,cG bQ 3 l3 c2 ob.open_]) (by rw [nO (so q_st)])<|aH<|am<|am<|au<|ai<|zo rfl (jU (cz hx1 hN1) rfl)<|aA rfl<|aH<|bv<|bv<|bv ?_;exact aT (aJ (ih1 (i1+1) ((ok1&&((e2.Arg.Nodes.length:Int)==(0:Int)))&&(e3==(4:Int))) ({ob with result:=st}:al) l2 c1 l3 c2 l4 c3 ⟨cy hx1,h⟩) (aZ J))
      ·refine fD (Z:=fun x1=>kL (dW l tl1) i1 e2 ok1 ob e3 x1=some R) (Of:=fun x1=>[bx (rH bC [(1,aw l2 c1 ob.kinds.length),(2,aw l3 c2 ob.open_.length)]) 124 b (bI ob (aw l4 c3 ob.result.length)),eF iv 29 l2 c1 ob.kinds,cG bQ 3 l3 c2 ob.open_,cG bQ 3 l4 c3 ob.result]) (Gf:=fun x1=>[(0,tV (aI b 0)),(4,hM l.n.Keys),(5,gK (ok1&&((e2.Arg.Nodes.length:Int)==(0:Int)))),(10,bH e3),(87,d7 (fY) l.n.Aggs),(88,hM l.n.Aggs),(89,bH (i1:Int)),(136,gK x1)]) (fun x1 h=>?_) (fun K1=>?_)
       ·skip
        refine cX h J (fun h=>?_) (fun h=>?_)
        ·refine ai<|aA J<|aA J<|bO J J (fun hg=>cL J)<|bO J J (fun hg=>dg (aS J hg) hI)<|zo J (la J J)<|bk J<|aH<|am<|am<|au<|ai<|zo rfl (jU (cz hx1 hN1) rfl)<|aA rfl<|aH ?_;exact aT (aJ (ih1 (i1+1) ((ok1&&((e2.Arg.Nodes.length:Int)==(0:Int)))&&(e3 !=(4:Int))) ob l2 c1 l3 c2 l4 c3 ⟨cy hx1,h⟩) (aZ J))
        ·refine ai<|zo J (fJ)<|aH<|am<|am<|au<|ai<|zo rfl (jU (cz hx1 hN1) rfl)<|aA rfl<|aH ?_;exact aT (aJ (ih1 (i1+1) false ob l2 c1 l3 c2 l4 c3 ⟨cy hx1,h⟩) (aZ J))
       ·skip
        refine aq<|zo J (jy J)<|bk J<|an<|cX h J (fun h=>?_) (fun h=>?_)
        ·refine bA ?_;exact bL (K1 (e2.Tag==(4:Int)) h) (aZ J)
        ·refine ai<|zo J (jy J)<|bk J<|aH ?_;exact bL (K1 (e2.Tag==(5:Int)) h) (aZ J)
    ·skip
     refine aq<|zo J (jy J)<|bk J<|an<|cX h J (fun h=>?_) (fun h=>?_)
     ·refine bA ?_;exact bL (K (e2.Tag==(1:Int)) h) (aZ J)
     ·refine ai<|zo J (jy J)<|bk J<|aH ?_;exact bL (K (e2.Tag==(2:Int)) h) (aZ J)
  ·obtain⟨hx,h⟩:=h
   refine av<|aq<|zo J (eK J J)<|an<|ae<|bo (ht J) (cU hx)<|dA<|ae<|ax<|aq<|aA J<|zo J (iX dm bJ J J J (cP hx))<|zo J (bz bJ J J)<|bk J<|bk J<|an<|ai<|aA J<|aA J ?_;refine bO J J (fun hg=>cL J)<|bO J J (fun hg=>cL J)<|bO J J (fun hg=>bK (aS J hg) (aS J hg))<|zo J (la J J)<|aA J<|bF h fun t q_t h=>bO J J (fun hg=>cL J)<|bO J J (fun hg=>bj (aS J hg))<|bO J J (fun hg=>bP (n:=15) il J (aS J hg) J)<|bO J J (fun hg=>br (r:=rH bC [(1,aw (ix.h 0).1 (ix.h 0).2 l.kinds.length),(2,aw (ix.h 1).1 (ix.h 1).2 l.open_.length)]) (x:=bI l (aw l1 c r.length)) ce J J (gk iZ) (.head _) (aS J hg))<|bO J J (fun hg=>cL J) ?_
   obtain⟨e5,h1t,h0t⟩:=og q_t
   have q_e5g:=fun hb=>(h1t hb).1
   refine bO J J (fun hg=>bX dm bJ J (aS J hg) (aS J hg) (q_e5g hg))<|bO J J (fun hg=>aY bJ J J (aS J hg))<|bO J J (fun hg=>dg (aS J hg) hI)<|zo J (dF (ht J) (fun hb=>(aS J hb)) (fun hb=>(h1t hb).2) h0t)<|bk J<|aH<|am<|au<|ai<|zo rfl (jU (cz hx hN) rfl)<|aA rfl<|aH ?_;exact aT (aJ (ih (i+1) t ⟨cy hx,h⟩) (aZ J))

theorem UX(b:Nat)(ix:OI)(l:al){R:Bool×al}(h:gv l=some R):fq aM 90 [tV (aI b 0)] (dS b l ix) (fun _:OI=>gK R.1) (fun j=>dS b R.2 j):=by
 refine fq.of Tryz.func90 J J J fun w0 S0=>?_;refine(show CG _ _ _ [bx (rH be [(1,aw (ix.h 0).1 (ix.h 0).2 l.kinds.length),(2,aw (ix.h 1).1 (ix.h 1).2 l.open_.length)]) 124 b l,eF iv 29 (ix.h 0).1 (ix.h 0).2 l.kinds,cG bQ 3 (ix.h 1).1 (ix.h 1).2 l.open_] _ from ?_);refine aq<|zo J (fJ)<|an<|aq<|aA J<|zo J (bj (ht J))<|zo J (fI 17 eW J J J)<|cm false bQ 3<|bD<|dB ce J (qK (hs' :=[(1,aw (ix.h 0).1 (ix.h 0).2 l.kinds.length),(2,aw (ix.h 1).1 (ix.h 1).2 l.open_.length)]) (jM _ _) ⟨.inr ⟨J,J⟩,.inr ⟨J,J⟩,aU⟩ J) J (ht J) (AW (show aE _ _ _ N4 from vP)) ?_;refine(show RG _ _ _ _ [bx (rH bC [(1,aw (ix.h 0).1 (ix.h 0).2 l.kinds.length),(2,aw (ix.h 1).1 (ix.h 1).2 l.open_.length)]) 124 b (bI l (aw none 0 (mu.length))),cG bQ 3 none 0 mu,eF iv 29 (ix.h 0).1 (ix.h 0).2 l.kinds,cG bQ 3 (ix.h 1).1 (ix.h 1).2 l.open_] _ from ?_);refine an<|ae<|aq<|aA J<|zo J (bj (ht J))<|zo J (fI 3 fW J J J)<|zo J (fI 12 sl J J J)<|zo J (br (r:=rH bC [(1,aw (ix.h 0).1 (ix.h 0).2 l.kinds.length),(2,aw (ix.h 1).1 (ix.h 1).2 l.open_.length)]) (x:=bI l (aw none 0 (mu.length))) CT J J (gk (fQ u4 tE)) (.head _) (ht J))<|zo J (ja sX J)<|zo J (bl hI)<|an<|ax<|aV (k:=14) J fun hN=>bB<|fc<|d3<|d3<|d3 ?_;refine aJ (sM (Z:=fun ls i ob l1 c l2 c1 l3 c2=>(l.n.Items.drop i=ls)∧fh ls ob=some R) (Of:=fun _ i ob l1 c l2 c1 l3 c2=>[bx (rH bC [(1,aw l1 c ob.kinds.length),(2,aw l2 c1 ob.open_.length)]) 124 b (bI ob (aw l3 c2 ob.result.length)),eF iv 29 l1 c ob.kinds,cG bQ 3 l2 c1 ob.open_,cG bQ 3 l3 c2 ob.result]) (Gf:=fun _ i ob l1 c l2 c1 l3 c2=>[(0,tV (aI b 0)),(14,d7 (bn) l.n.Items),(15,hM l.n.Items),(16,bH (i:Int))]) (fun i ob l1 c l2 c1 l3 c2 h=>?_) (fun e tl ih i ob l1 c l2 c1 l3 c2 h=>?_) l.n.Items 0 ({l with result:=mu}:al) (ix.h 0).1 (ix.h 0).2 (ix.h 1).1 (ix.h 1).2 none 0 ⟨J,h⟩) (aZ J)
 ·obtain⟨hx,h⟩:=h
  refine av<|aq<|zo J (eK J J)<|an<|ae<|bp (ht J) (cW hx)<|bg ?_;refine ac (ac (aF ?_));refine au<|aq<|aA rfl<|zo rfl (bj (ht rfl))<|zo rfl (fI 17 eW rfl rfl rfl)<|zo rfl (jF ce (gk jT) (.head _) rfl (ht rfl))<|zo rfl (fA dm (.tail _ (.tail _ (.tail _ (.head _)))) (ht rfl))<|zo rfl (gx (ht rfl) hI)<|bk rfl<|an<|aj<|bv<|gG<|gh 45 rfl<|aX<|sq (r' :=rH be [(1,aw l1 c ob.kinds.length),(2,aw l2 c1 ob.open_.length)]) (x' :=ob) (fun _ _ _ ho h=>QM h (fun h=>gz (ju ho (.head _)) h))<|aX<|ba<|aR<|aR<|aR ?_;cases so h;exact dc J (K0 [(l1,c),(l2,c1)]) J J (fun _ _ h=>h)
 ·obtain⟨hx,h⟩:=h
  refine av<|aq<|zo J (eK J J)<|an<|ae<|bo (ht J) (cU hx)<|dA<|ae<|ax<|aq<|zo J (iX sX gj J J J (cP hx))<|zo J (bz gj J J)<|aO (r:=bn) (x:=nH) gj (fun _=>nJ _) J fun b1=>ay gj J ap J (ht J) (ht J)<|aL 4 J<|an<|ae<|bF h fun r q_r h=>?_
  refine eG (ts:=[_,_,_,_,_,_,_,_,_,_,_]) mixed J J
   ⟨ia 4 J J J (bz gj J J),
   ⟨ia 0 J J J (cL J),
   ⟨cO 22 1 J J J (bj (ht J)),
   ⟨cO 23 2 J J J (fI 15 il J J J),
   ⟨cO 24 3 J J J (br (r:=rH bC [(1,aw l1 c ob.kinds.length),(2,aw l2 c1 ob.open_.length)]) (x:=bI ob (aw l3 c2 ob.result.length)) ce J J (gk iZ) (.head _) (ht J)),
   ⟨ft 21 0 25 4 J J J J (aD JW (A5 _ _ q_r) ⟨(ht J),(ht J),aU⟩),
   ⟨cO 26 5 J J J (cL J),
   ⟨cO 20 6 J J J (hY J J),
   ⟨cO 20 6 J J J (hY J J),
   ⟨cO 27 7 J J J (zM J),
   ⟨cO 28 8 J J J (zM J),
   aU⟩⟩⟩⟩⟩⟩⟩⟩⟩⟩⟩ ?_
  refine au<|ae<|aq<|aA rfl<|zo rfl (rn rfl)<|an<|cX h rfl (fun h=>?_) (fun h=>?_)
  ·refine aq<|zo J (fJ)<|an<|aj ?_;refine aa (aC (aa (aa (aC (aa ?_)))));refine bv<|gG<|aX<|sq (r' :=rH be [(1,aw l1 c ob.kinds.length),(2,aw l2 c1 ob.open_.length)]) (x' :=ob) (fun _ _ _ ho h=>QM h (fun h=>gz (ju ho (.head _)) h))<|aX<|ba<|aR<|aR<|aR ?_;cases so h;exact dc J (K0 [(l1,c),(l2,c1)]) J J (fun _ _ h=>h)
  ·refine dA<|ai<|aA J<|aA J<|zo J (bj (ht J))<|zo J (fI 17 eW J J J)<|zo J (jF ce (gk jT) (.head _) J (ht J))<|aA J<|zo J (aP (r:=bQ) (ys:=[r.1]) (xs:=[.tmp 36]) dm bJ J J J J J ⟨(ht J),aU⟩)<|dZ<|bF h fun l4 q_l4 h=>ep bJ J J J J dm J J (ht J) (ht J) q_l4 fun l5 c3=>zo J (bj (ht J))<|zo J (fI 17 eW J J J)<|bD<|dB ce J (qK (hs' :=[(1,aw l1 c ob.kinds.length),(2,aw l2 c1 ob.open_.length)]) (gB _ _ _) ⟨.inr ⟨J,J⟩,.inr ⟨J,J⟩,aU⟩ J) J (ht J) (AW (ht J)) ?_;refine(show RG _ _ _ _ [bx (rH bC [(1,aw l1 c ob.kinds.length),(2,aw l2 c1 ob.open_.length)]) 124 b (bI ob (aw l5 c3 l4.length)),cG bQ 3 l5 c3 l4,eF iv 29 l1 c ob.kinds,cG bQ 3 l2 c1 ob.open_] _ from ?_);refine aH<|am<|au<|ai<|zo rfl (jU (cz hx hN) rfl)<|aA rfl<|aH<|aX<|bv<|bv<|bv ?_;exact aT (aJ (ih (i+1) ({ob with result:=l4}:al) l1 c l2 c1 l5 c3 ⟨cy hx,h⟩) (aZ J))

theorem UW(b:Nat)(ix:OI)(l:al){R:Bool×al}(h:li l=some R):fq aM 91 [tV (aI b 0)] (dS b l ix) (fun _:OI=>gK R.1) (fun j=>dS b R.2 j):=by
 refine fq.of Tryz.func91 J J J fun w0 S0=>?_;refine(show CG _ _ _ [bx (rH be [(1,aw (ix.h 0).1 (ix.h 0).2 l.kinds.length),(2,aw (ix.h 1).1 (ix.h 1).2 l.open_.length)]) 124 b l,eF iv 29 (ix.h 0).1 (ix.h 0).2 l.kinds,cG bQ 3 (ix.h 1).1 (ix.h 1).2 l.open_] _ from ?_);refine aq<|zo J (fJ)<|an<|aq<|aA J<|aA J<|zo J (bj (ht J))<|zo J (fI 15 il J J J)<|zo J (br (r:=rH be [(1,aw (ix.h 0).1 (ix.h 0).2 l.kinds.length),(2,aw (ix.h 1).1 (ix.h 1).2 l.open_.length)]) (x:=l) ce J J (gk mB) (.head _) (ht J))<|zo J (bj (ht J))<|zo J (fI 17 eW J J J)<|mJ (f6 ce J (uA (hs' :=[(1,aw (ix.h 0).1 (ix.h 0).2 l.kinds.length),(2,aw (ix.h 1).1 (ix.h 1).2 l.open_.length)]) qp ⟨.inr ⟨J,J⟩,.inr ⟨J,J⟩,aU⟩ J) J (ht J) (ht J)) fun i=>?_;refine(show RG _ _ _ _ [bx (rH be [(1,aw (ix.h 0).1 (ix.h 0).2 l.kinds.length),(2,aw (ix.h 1).1 (ix.h 1).2 l.open_.length)]) 124 b ({l with result:=l.a_}:al),eF iv 29 (ix.h 0).1 (ix.h 0).2 l.kinds,cG bQ 3 (ix.h 1).1 (ix.h 1).2 l.open_] _ from ?_);refine an<|aq<|zo J (fJ)<|an<|aj<|aR<|aR<|aR ?_;cases so h;exact dc J ix J J (fun _ _ h=>h)

theorem UV(b:Nat)(ix:OI)(l:al){R:Bool×al}(h:jD l=some R):fq aM 92 [tV (aI b 0)] (dS b l ix) (fun _:OI=>gK R.1) (fun j=>dS b R.2 j):=by
 refine fq.of Tryz.func92 J J J fun w0 S0=>?_;refine(show CG _ _ _ [bx (rH be [(1,aw (ix.h 0).1 (ix.h 0).2 l.kinds.length),(2,aw (ix.h 1).1 (ix.h 1).2 l.open_.length)]) 124 b l,eF iv 29 (ix.h 0).1 (ix.h 0).2 l.kinds,cG bQ 3 (ix.h 1).1 (ix.h 1).2 l.open_] _ from ?_);refine aq<|zo J (fJ)<|an<|ae<|ae ?_
 refine eG (ts:=[_,_,_,_,_,_,_,_,_,_,_]) mixed J J
  ⟨ia 0 J J J (cL J),
  ⟨cO 6 0 J J J (bj (ht J)),
  ⟨cO 7 1 J J J (fI 15 il J J J),
  ⟨cO 8 2 J J J (br (r:=rH be [(1,aw (ix.h 0).1 (ix.h 0).2 l.kinds.length),(2,aw (ix.h 1).1 (ix.h 1).2 l.open_.length)]) (x:=l) ce J J (gk mB) (.head _) (ht J)),
  ⟨cO 9 3 J J J (ja dm J),
  ⟨ia 0 J J J (cL J),
  ⟨cO 11 5 J J J (bj (ht J)),
  ⟨cO 12 6 J J J (fI 16 ye J J J),
  ⟨cO 13 7 J J J (br (r:=rH be [(1,aw (ix.h 0).1 (ix.h 0).2 l.kinds.length),(2,aw (ix.h 1).1 (ix.h 1).2 l.open_.length)]) (x:=l) ce J J (gk D2) (.head _) (ht J)),
  ⟨cO 14 8 J J J (ja dm J),
  ⟨ft 10 4 15 9 J J J J (dg (ht J) (ht J)),
  aU⟩⟩⟩⟩⟩⟩⟩⟩⟩⟩⟩ ?_
 refine au<|cX h rfl (fun h=>?_) (fun h=>?_)
 ·refine aq<|zo J (fJ)<|an<|aj<|aa<|aR<|aR<|aR ?_;cases so h;exact dc J ix J J (fun _ _ h=>h)
 ·refine dA<|aq<|aA J<|zo J (bj (ht J))<|zo J (fI 17 eW J J J)<|cm false bQ 3<|bD<|dB ce J (qK (hs' :=[(1,aw (ix.h 0).1 (ix.h 0).2 l.kinds.length),(2,aw (ix.h 1).1 (ix.h 1).2 l.open_.length)]) (jM _ _) ⟨.inr ⟨J,J⟩,.inr ⟨J,J⟩,aU⟩ J) J (ht J) (AW (show aE _ _ _ N4 from vP)) ?_;refine(show RG _ _ _ _ [bx (rH bC [(1,aw (ix.h 0).1 (ix.h 0).2 l.kinds.length),(2,aw (ix.h 1).1 (ix.h 1).2 l.open_.length)]) 124 b (bI l (aw none 0 (mu.length))),cG bQ 3 none 0 mu,eF iv 29 (ix.h 0).1 (ix.h 0).2 l.kinds,cG bQ 3 (ix.h 1).1 (ix.h 1).2 l.open_] _ from ?_);refine an<|ae<|aq<|aA J<|zo J (bj (ht J))<|zo J (fI 15 il J J J)<|zo J (br (r:=rH bC [(1,aw (ix.h 0).1 (ix.h 0).2 l.kinds.length),(2,aw (ix.h 1).1 (ix.h 1).2 l.open_.length)]) (x:=bI l (aw none 0 (mu.length))) ce J J (gk iZ) (.head _) (ht J))<|zo J (ja dm J)<|zo J (bl hI)<|an<|ax<|aV (k:=23) J fun hN=>bB<|fc<|d3<|d3<|d3 ?_;refine aJ (sM (Z:=fun ls i ob l1 c l2 c1 l3 c2=>(l.a_.drop i=ls)∧fg ls i ob=some R) (Of:=fun _ i ob l1 c l2 c1 l3 c2=>[bx (rH bC [(1,aw l1 c ob.kinds.length),(2,aw l2 c1 ob.open_.length)]) 124 b (bI ob (aw l3 c2 ob.result.length)),eF iv 29 l1 c ob.kinds,cG bQ 3 l2 c1 ob.open_,cG bQ 3 l3 c2 ob.result]) (Gf:=fun _ i ob l1 c l2 c1 l3 c2=>[(0,tV (aI b 0)),(23,kz l.a_),(24,hM l.a_),(25,bH (i:Int))]) (fun i ob l1 c l2 c1 l3 c2 h=>?_) (fun e tl ih i ob l1 c l2 c1 l3 c2 h=>?_) l.a_ 0 ({l with result:=mu}:al) (ix.h 0).1 (ix.h 0).2 (ix.h 1).1 (ix.h 1).2 none 0 ⟨J,h⟩) (aZ J)
  ·obtain⟨hx,h⟩:=h
   refine av<|aq<|zo J (eK J J)<|an<|ae<|bp (ht J) (cW hx)<|bg ?_;refine ac (ac (aF ?_));refine au<|aq<|zo rfl (fJ)<|an<|aj<|bv<|gG<|aX<|sq (r' :=rH be [(1,aw l1 c ob.kinds.length),(2,aw l2 c1 ob.open_.length)]) (x' :=ob) (fun _ _ _ ho h=>QM h (fun h=>gz (ju ho (.head _)) h))<|aX<|ba<|aR<|aR<|aR ?_;cases so h;exact dc J (K0 [(l1,c),(l2,c1)]) J J (fun _ _ h=>h)
  ·obtain⟨hx,h⟩:=h
   refine av<|aq<|zo J (eK J J)<|an<|ae<|bo (ht J) (cU hx)<|dA<|ae<|ax<|aq<|aA J<|zo J (iX dm bJ J J J (cP hx))<|zo J (bz bJ J J)<|bk J<|bk J<|an<|aq<|aA J ?_;refine zo J (bj (ht J))<|zo J (fI 16 ye J J J)<|zo J (br (r:=rH bC [(1,aw l1 c ob.kinds.length),(2,aw l2 c1 ob.open_.length)]) (x:=bI ob (aw l3 c2 ob.result.length)) ce J J (gk GO) (.head _) (ht J))<|aA J<|bF h fun e1 q_e1 h=>zo J (iX dm bJ J J J q_e1)<|zo J (bz bJ J J)<|bk J<|an ?_;refine fD (Z:=fun k=>gT (fg tl) i ob e1 k=some R) (Of:=fun k=>[bx (rH bC [(1,aw l1 c ob.kinds.length),(2,aw l2 c1 ob.open_.length)]) 124 b (bI ob (aw l3 c2 ob.result.length)),eF iv 29 l1 c ob.kinds,cG bQ 3 l2 c1 ob.open_,cG bQ 3 l3 c2 ob.result]) (Gf:=fun k=>[(0,tV (aI b 0)),(4,bH k),(5,bH e1),(23,kz l.a_),(24,hM l.a_),(25,bH (i:Int))]) (fun k h=>?_) (fun K=>?_)
   ·skip
    refine ae<|aq<|aA J<|zo J (rn J)<|aA J<|bO J J (fun hg=>cL J)<|bO J J (fun hg=>cL J)<|bO J J (fun hg=>dg (aS J hg) (aS J hg))<|zo J (la J J)<|an<|cX h J (fun h=>?_) (fun h=>?_)
    ·refine aq<|zo J (fJ)<|an<|aj ?_;refine aa (aC (aa (aa (aC (aa ?_)))));refine bv<|gG<|aX<|sq (r' :=rH be [(1,aw l1 c ob.kinds.length),(2,aw l2 c1 ob.open_.length)]) (x' :=ob) (fun _ _ _ ho h=>QM h (fun h=>gz (ju ho (.head _)) h))<|aX<|ba<|aR<|aR<|aR ?_;cases so h;exact dc J (K0 [(l1,c),(l2,c1)]) J J (fun _ _ h=>h)
    ·refine dA<|ai<|aA J<|aA J<|zo J (bj (ht J))<|zo J (fI 17 eW J J J)<|zo J (jF ce (gk jT) (.head _) J (ht J))<|aA J<|zo J (aP (r:=bQ) (ys:=[k]) (xs:=[.tmp 52]) dm bJ J J J J J ⟨(ht J),aU⟩)<|dZ<|bF h fun l4 q_l4 h=>ep bJ J J J J dm J J (ht J) (ht J) q_l4 fun l5 c3=>zo J (bj (ht J))<|zo J (fI 17 eW J J J)<|bD<|dB ce J (qK (hs' :=[(1,aw l1 c ob.kinds.length),(2,aw l2 c1 ob.open_.length)]) (gB _ _ _) ⟨.inr ⟨J,J⟩,.inr ⟨J,J⟩,aU⟩ J) J (ht J) (AW (ht J)) ?_;refine(show RG _ _ _ _ [bx (rH bC [(1,aw l1 c ob.kinds.length),(2,aw l2 c1 ob.open_.length)]) 124 b (bI ob (aw l5 c3 l4.length)),cG bQ 3 l5 c3 l4,eF iv 29 l1 c ob.kinds,cG bQ 3 l2 c1 ob.open_] _ from ?_);refine aH<|am<|au<|ai<|zo rfl (jU (cz hx hN) rfl)<|aA rfl<|aH<|aX<|bv<|bv<|bv ?_;exact aT (aJ (ih (i+1) ({ob with result:=l4}:al) l1 c l2 c1 l5 c3 ⟨cy hx,h⟩) (aZ J))
   ·skip
    refine aq<|aA J<|zo J (jy J)<|an<|cX h J (fun h=>?_) (fun h=>?_)
    ·refine ai<|aA J<|bk J<|aH ?_;exact bL (K e1 h) (aZ J)
    ·refine bA ?_;exact bL (K e h) (aZ J)

end Go.Proofs.YtmogpgcfognefaaGreatDoor

