/- co of this claim: P2. -/
import Derived.Test.YtmogpgcfognefaaGreatDoorNeT
import Derived.Test.YtmogpgcfognefaaGreatDoorNeP1
set_option linter.all false
namespace Go.Proofs.YtmogpgcfognefaaGreatDoor
open Go
set_option maxRecDepth 100000

theorem JG(e:bf)(kinds:(List Int)){R:Bool}(h:nd e kinds=some R):aN aM 159 [tD bn e,kz kinds] (gK R):=by
 refine aN.of Tryz.func159 J J J fun w0 S0=>aq<|zo J (jh J)<|zo J (fJ)<|an<|aq<|zo J (bz gj J J)<|aA J<|bF h fun r q_r h=>zo J (aD JW (A5 _ _ q_r) ⟨(ht J),(ht J),aU⟩)<|aA J<|zo J (hY J J)<|zo J (hY J J)<|bk J<|bk J<|an<|aq<|aA J<|zo J (jy J) ?_;refine aA J<|bO J J (fun hg=>cL J)<|bO J J (fun hg=>bK (aS J hg) hI)<|bO J J (fun hg=>bl (aS J hg))<|cA J J J J (fun hg=>cL J)<|cA J J J J (fun hg=>bK (aS J hg) hI)<|bO J J (fun hg=>lA (aS J hg) (fun hb=>(aS J (sK hg (oL hb)))))<|zo J (la J J)<|bk J<|an<|aj ?_;cases so h;exact aB J J

theorem U4(b:Nat)(ix:OI)(l:al){R:Bool×al}(h:ko l=some R):fq aM 85 [tV (aI b 0)] (dS b l ix) (fun _:OI=>gK R.1) (fun j=>dS b R.2 j):=by
 refine fq.of Tryz.func85 J J J fun w0 S0=>?_;refine(show CG _ _ _ [bx (rH be [(1,aw (ix.h 0).1 (ix.h 0).2 l.kinds.length),(2,aw (ix.h 1).1 (ix.h 1).2 l.open_.length)]) 124 b l,eF iv 29 (ix.h 0).1 (ix.h 0).2 l.kinds,cG bQ 3 (ix.h 1).1 (ix.h 1).2 l.open_] _ from ?_);refine aq<|zo J (fJ)<|an<|ae<|bF h fun r q_r h=>?_
 refine oh 13 (ts:=[tV (aI b 0),tV (aI b 0),tV (aI b 0),tV (aI b 15),kz l.a_,tV (aI b 0),tV (aI b 0),tV (aI b 16),kz l.b,d7 (iv) ([l.a_,l.b]),kz r,tV (aI b 0),tV (aI b 17)]) mixed J J J
  ⟨ia 0 J J J (cL J),
  ⟨ia 0 J J J (cL J),
  ⟨cO 4 1 J J J (bj (ht J)),
  ⟨cO 5 2 J J J (fI 15 il J J J),
  ⟨cO 6 3 J J J (br (r:=rH be [(1,aw (ix.h 0).1 (ix.h 0).2 l.kinds.length),(2,aw (ix.h 1).1 (ix.h 1).2 l.open_.length)]) (x:=l) ce J J (gk mB) (.head _) (ht J)),
  ⟨ia 0 J J J (cL J),
  ⟨cO 8 5 J J J (bj (ht J)),
  ⟨cO 9 6 J J J (fI 16 ye J J J),
  ⟨cO 10 7 J J J (br (r:=rH be [(1,aw (ix.h 0).1 (ix.h 0).2 l.kinds.length),(2,aw (ix.h 1).1 (ix.h 1).2 l.open_.length)]) (x:=l) ce J J (gk D2) (.head _) (ht J)),
  ⟨ft 7 4 11 8 J J J J (aP (r:=wd) (ys:=[l.a_,l.b]) (xs:=[.tmp 7,.tmp 11]) uh ce J J J J J ⟨(ht J),(ht J),aU⟩),
  ⟨cO 12 9 J J J (aD Wm (PZ _ q_r) ⟨(ht J),aU⟩),
  ⟨cO 3 0 J J J (bj (ht J)),
  ⟨cO 14 11 J J J (fI 17 eW J J J),
  aU⟩⟩⟩⟩⟩⟩⟩⟩⟩⟩⟩⟩⟩ ?_
 refine mJ (f6 ce J (uA (hs' :=[(1,aw (ix.h 0).1 (ix.h 0).2 l.kinds.length),(2,aw (ix.h 1).1 (ix.h 1).2 l.open_.length)]) qp ⟨.inr ⟨J,J⟩,.inr ⟨J,J⟩,aU⟩ J) J (ht J) (ht J)) (fun i=>?_);refine(show RG _ _ _ _ [bx (rH be [(1,aw (ix.h 0).1 (ix.h 0).2 l.kinds.length),(2,aw (ix.h 1).1 (ix.h 1).2 l.open_.length)]) 124 b ({l with result:=r}:al),eF iv 29 (ix.h 0).1 (ix.h 0).2 l.kinds,cG bQ 3 (ix.h 1).1 (ix.h 1).2 l.open_] _ from ?_);refine an<|ae<|bF h fun r1 q_r1 h=>?_
 refine eG (ts:=[_,_,_,_,_,_,_,_,_,_,_]) mixed J J
  ⟨ia 0 J J J (cL J),
  ⟨cO 16 0 J J J (bj (ht J)),
  ⟨cO 17 1 J J J (fI 3 fW J J J),
  ⟨cO 18 2 J J J (fI 9 B9 J J J),
  ⟨cO 19 3 J J J (br (r:=rH be [(1,aw (ix.h 0).1 (ix.h 0).2 l.kinds.length),(2,aw (ix.h 1).1 (ix.h 1).2 l.open_.length)]) (x:=({l with result:=r}:al)) gj J J (gk (fQ eH ra)) (.head _) (ht J)),
  ⟨ia 0 J J J (cL J),
  ⟨cO 21 5 J J J (bj (ht J)),
  ⟨cO 22 6 J J J (fI 17 eW J J J),
  ⟨cO 23 7 J J J (br (r:=rH be [(1,aw (ix.h 0).1 (ix.h 0).2 l.kinds.length),(2,aw (ix.h 1).1 (ix.h 1).2 l.open_.length)]) (x:=({l with result:=r}:al)) ce J J (gk zf) (.head _) (ht J)),
  ⟨ft 20 4 24 8 J J J J (aD RS (JG _ _ q_r1) ⟨(ht J),(ht J),aU⟩),
  ⟨cO 25 9 J J J (zM J),
  aU⟩⟩⟩⟩⟩⟩⟩⟩⟩⟩⟩ ?_
 refine au<|aj<|aR<|aR<|aR ?_;cases so h;exact dc J ix J J (fun _ _ h=>h)

theorem U3(b:Nat)(ix:OI)(l:al){R:Bool×al}(h:jd l=some R):fq aM 86 [tV (aI b 0)] (dS b l ix) (fun _:OI=>gK R.1) (fun j=>dS b R.2 j):=by
 refine fq.of Tryz.func86 J J J fun w0 S0=>?_;refine(show CG _ _ _ [bx (rH be [(1,aw (ix.h 0).1 (ix.h 0).2 l.kinds.length),(2,aw (ix.h 1).1 (ix.h 1).2 l.open_.length)]) 124 b l,eF iv 29 (ix.h 0).1 (ix.h 0).2 l.kinds,cG bQ 3 (ix.h 1).1 (ix.h 1).2 l.open_] _ from ?_);refine aq<|zo J (fJ)<|an<|aq<|aA J<|aA J<|zo J (bj (ht J))<|zo J (fI 15 il J J J)<|zo J (br (r:=rH be [(1,aw (ix.h 0).1 (ix.h 0).2 l.kinds.length),(2,aw (ix.h 1).1 (ix.h 1).2 l.open_.length)]) (x:=l) ce J J (gk mB) (.head _) (ht J))<|zo J (bj (ht J))<|zo J (fI 17 eW J J J)<|mJ (f6 ce J (uA (hs' :=[(1,aw (ix.h 0).1 (ix.h 0).2 l.kinds.length),(2,aw (ix.h 1).1 (ix.h 1).2 l.open_.length)]) qp ⟨.inr ⟨J,J⟩,.inr ⟨J,J⟩,aU⟩ J) J (ht J) (ht J)) fun i=>?_;refine(show RG _ _ _ _ [bx (rH be [(1,aw (ix.h 0).1 (ix.h 0).2 l.kinds.length),(2,aw (ix.h 1).1 (ix.h 1).2 l.open_.length)]) 124 b ({l with result:=l.a_}:al),eF iv 29 (ix.h 0).1 (ix.h 0).2 l.kinds,cG bQ 3 (ix.h 1).1 (ix.h 1).2 l.open_] _ from ?_);refine an<|ae<|bF h fun r q_r h=>?_
 refine eG (ts:=[_,_,_,_,_,_,_,_,_,_,_]) mixed J J
  ⟨ia 0 J J J (cL J),
  ⟨cO 10 0 J J J (bj (ht J)),
  ⟨cO 11 1 J J J (fI 3 fW J J J),
  ⟨cO 12 2 J J J (fI 9 B9 J J J),
  ⟨cO 13 3 J J J (br (r:=rH be [(1,aw (ix.h 0).1 (ix.h 0).2 l.kinds.length),(2,aw (ix.h 1).1 (ix.h 1).2 l.open_.length)]) (x:=({l with result:=l.a_}:al)) gj J J (gk (fQ eH ra)) (.head _) (ht J)),
  ⟨ia 0 J J J (cL J),
  ⟨cO 15 5 J J J (bj (ht J)),
  ⟨cO 16 6 J J J (fI 15 il J J J),
  ⟨cO 17 7 J J J (br (r:=rH be [(1,aw (ix.h 0).1 (ix.h 0).2 l.kinds.length),(2,aw (ix.h 1).1 (ix.h 1).2 l.open_.length)]) (x:=({l with result:=l.a_}:al)) ce J J (gk mB) (.head _) (ht J)),
  ⟨ft 14 4 18 8 J J J J (aD RS (JG _ _ q_r) ⟨(ht J),(ht J),aU⟩),
  ⟨cO 19 9 J J J (zM J),
  aU⟩⟩⟩⟩⟩⟩⟩⟩⟩⟩⟩ ?_
 refine au<|aj<|aR<|aR<|aR ?_;cases so h;exact dc J ix J J (fun _ _ h=>h)

theorem U2(b:Nat)(ix:OI)(l:al){R:Bool×al}(h:eD l=some R):fq aM 87 [tV (aI b 0)] (dS b l ix) (fun _:OI=>gK R.1) (fun j=>dS b R.2 j):=by
 refine fq.of Tryz.func87 J J J fun w0 S0=>?_;refine(show CG _ _ _ [bx (rH be [(1,aw (ix.h 0).1 (ix.h 0).2 l.kinds.length),(2,aw (ix.h 1).1 (ix.h 1).2 l.open_.length)]) 124 b l,eF iv 29 (ix.h 0).1 (ix.h 0).2 l.kinds,cG bQ 3 (ix.h 1).1 (ix.h 1).2 l.open_] _ from ?_);refine aq<|zo J (fJ)<|an<|aq<|aA J<|zo J (bj (ht J))<|zo J (fI 3 fW J J J)<|zo J (br (r:=rH be [(1,aw (ix.h 0).1 (ix.h 0).2 l.kinds.length),(2,aw (ix.h 1).1 (ix.h 1).2 l.open_.length)]) (x:=l) eC J J (gk eH) (.head _) (ht J))<|aO (r:=aW) (x:=Dj) eC (fun _=>fE _) J fun b1=>ay eC J ap J (ht J) (ht J)<|aL 3 J<|an<|aq<|zo J (cd kq fZ J J)<|zo J (bz ce J J)<|zo J (ja dm J)<|zo J (iT (ht J) hI)<|aA J<|bO J J (fun hg=>cd oV gY J J) ?_;refine bO J J (fun hg=>aY yT J J (aS J hg))<|bO J J (fun hg=>bN ss (aS J hg))<|bO J J (fun hg=>iT (aS J hg) hI)<|zo J (la J J)<|aA J<|bO J J (fun hg=>cd kq fZ J J)<|bO J J (fun hg=>aY ce J J (aS J hg))<|bO J J (fun hg=>bN dm (aS J hg))<|bO J J (fun hg=>cd oV gY J J)<|bO J J (fun hg=>aY yT J J (aS J hg))<|bO J J (fun hg=>bN ss (aS J hg))<|bO J J (fun hg=>jZ (aS J hg) (aS J hg))<|bO J J (fun hg=>gx (aS J hg) hI)<|zo J (la J J)<|bk J<|an<|aq<|aA J<|zo J (bj (ht J))<|zo J (fI 17 eW J J J)<|cm false bQ 3<|bD ?_;refine dB ce J (qK (hs' :=[(1,aw (ix.h 0).1 (ix.h 0).2 l.kinds.length),(2,aw (ix.h 1).1 (ix.h 1).2 l.open_.length)]) (jM _ _) ⟨.inr ⟨J,J⟩,.inr ⟨J,J⟩,aU⟩ J) J (ht J) (AW (show aE _ _ _ N4 from vP)) ?_;refine(show RG _ _ _ _ [bx (rH bC [(1,aw (ix.h 0).1 (ix.h 0).2 l.kinds.length),(2,aw (ix.h 1).1 (ix.h 1).2 l.open_.length)]) 124 b (bI l (aw none 0 (mu.length))),cG bQ 3 none 0 mu,eF iv 29 (ix.h 0).1 (ix.h 0).2 l.kinds,cG bQ 3 (ix.h 1).1 (ix.h 1).2 l.open_] _ from ?_);refine an<|ae<|aq<|zo J (cd kq fZ J J)<|zo J (bz ce J J)<|zo J (ja dm J)<|zo J (bl hI)<|an<|ax<|aV (k:=40) J fun hN=>bB<|fc<|d3<|d3<|d3 ?_;refine aJ (sM (Z:=fun ls i ob l1 c l2 c1 l3 c2=>(l.n.Keys.drop i=ls)∧dl l ls ob=some R) (Of:=fun _ i ob l1 c l2 c1 l3 c2=>[bx (rH bC [(1,aw l1 c ob.kinds.length),(2,aw l2 c1 ob.open_.length)]) 124 b (bI ob (aw l3 c2 ob.result.length)),eF iv 29 l1 c ob.kinds,cG bQ 3 l2 c1 ob.open_,cG bQ 3 l3 c2 ob.result]) (Gf:=fun _ i ob l1 c l2 c1 l3 c2=>[(0,tV (aI b 0)),(3,bq aW l.n),(4,gK (((decide ((l.n.Keys.length:Int)≤(3:Int)))&&(decide ((l.n.Aggs.length:Int)≤(12:Int))))&&(decide ((0:Int)<(IntKind.i64.wrap ((l.n.Keys.length:Int)+(l.n.Aggs.length:Int))))))),(40,kz l.n.Keys),(41,hM l.n.Keys),(42,bH (i:Int))]) (fun i ob l1 c l2 c1 l3 c2 h=>?_) (fun e tl ih i ob l1 c l2 c1 l3 c2 h=>?_) l.n.Keys 0 ({l with result:=mu}:al) (ix.h 0).1 (ix.h 0).2 (ix.h 1).1 (ix.h 1).2 none 0 ⟨J,h⟩) (aZ J)
 ·obtain⟨hx,h⟩:=h
  refine av<|aq<|zo J (eK J J)<|an<|ae<|bp (ht J) (cW hx)<|bg ?_;refine ac (ac (aF ?_));refine au<|ae<|aq<|zo rfl (cd oV gY rfl rfl)<|zo rfl (bz yT rfl rfl)<|zo rfl (ja ss rfl)<|zo rfl (bl hI)<|an<|ax<|aV (k:=75) J fun hN1=>bB ?_;refine aJ (yD (Z:=fun ls1 i1 ok ob1 l4 c3 l5 c4 l6 c5=>(l.n.Aggs.drop i1=ls1)∧cw ls1 ok ob1=some R) (Of:=fun _ i1 ok ob1 l4 c3 l5 c4 l6 c5=>[bx (rH bC [(1,aw l4 c3 ob1.kinds.length),(2,aw l5 c4 ob1.open_.length)]) 124 b (bI ob1 (aw l6 c5 ob1.result.length)),eF iv 29 l4 c3 ob1.kinds,cG bQ 3 l5 c4 ob1.open_,cG bQ 3 l6 c5 ob1.result]) (Gf:=fun _ i1 ok ob1 l4 c3 l5 c4 l6 c5=>[(0,tV (aI b 0)),(4,gK ok),(75,d7 (fY) l.n.Aggs),(76,hM l.n.Aggs),(77,bH (i1:Int))]) (fun i1 ok ob1 l4 c3 l5 c4 l6 c5 h=>?_) (fun e1 tl1 ih1 i1 ok ob1 l4 c3 l5 c4 l6 c5 h=>?_) l.n.Aggs 0 (((decide ((l.n.Keys.length:Int)≤(3:Int)))&&(decide ((l.n.Aggs.length:Int)≤(12:Int))))&&(decide ((0:Int)<(IntKind.i64.wrap ((l.n.Keys.length:Int)+(l.n.Aggs.length:Int)))))) ob l1 c l2 c1 l3 c2 ⟨J,h⟩) (aZ J)
  ·obtain⟨hx1,h⟩:=h
   refine av<|aq<|zo J (eK J J)<|an<|ae<|bp (ht J) (cW hx1)<|bg ?_;refine ac (ac (aF ?_));refine au<|aq<|aA rfl<|bk rfl<|an<|aj<|bv<|gG<|aX<|sq (r' :=rH be [(1,aw l4 c3 ob1.kinds.length),(2,aw l5 c4 ob1.open_.length)]) (x' :=ob1) (fun _ _ _ ho h=>QM h (fun h=>gz (ju ho (.head _)) h))<|aX<|ba<|aR<|aR<|aR ?_;cases so h;exact dc J (K0 [(l4,c3),(l5,c4)]) J J (fun _ _ h=>h)
  ·obtain⟨hx1,h⟩:=h
   refine av<|aq<|zo J (eK J J)<|an<|ae<|bo (ht J) (cU hx1)<|dA<|ae<|ax<|aq<|zo J (iX ss kC J J J (cP hx1))<|zo J (bz kC J J)<|aO (r:=fY) (x:=Kn) kC (fun _=>yQ _) J fun b2=>ay kC J ap J (ht J) (ht J)<|aL 8 J<|an<|aq<|zo J (cQ) ?_;refine an ?_;refine Ek (Z:=fun ok1 k=>eu (cw tl1) ob1 ok1 k=some R) (Of:=fun ok1 k=>[bx (rH bC [(1,aw l4 c3 ob1.kinds.length),(2,aw l5 c4 ob1.open_.length)]) 124 b (bI ob1 (aw l6 c5 ob1.result.length)),eF iv 29 l4 c3 ob1.kinds,cG bQ 3 l5 c4 ob1.open_,cG bQ 3 l6 c5 ob1.result]) (Gf:=fun ok1 k=>[(0,tV (aI b 0)),(4,gK ok1),(9,bH k),(75,d7 (fY) l.n.Aggs),(76,hM l.n.Aggs),(77,bH (i1:Int))]) (fun ok1 k h=>?_) (fun K=>?_)
   ·skip
    refine ai<|aA J<|aA J<|zo J (bj (ht J))<|zo J (fI 17 eW J J J)<|zo J (jF ce (gk jT) (.head _) J (ht J))<|aA J<|zo J (aP (r:=bQ) (ys:=[k]) (xs:=[.tmp 139]) dm bJ J J J J J ⟨(ht J),aU⟩)<|dZ<|bF h fun l7 q_l7 h=>ep bJ J J J J dm J J (ht J) (ht J) q_l7 fun l8 c6=>zo J (bj (ht J))<|zo J (fI 17 eW J J J)<|bD<|dB ce J (qK (hs' :=[(1,aw l4 c3 ob1.kinds.length),(2,aw l5 c4 ob1.open_.length)]) (gB _ _ _) ⟨.inr ⟨J,J⟩,.inr ⟨J,J⟩,aU⟩ J) J (ht J) (AW (ht J)) ?_;refine(show RG _ _ _ _ [bx (rH bC [(1,aw l4 c3 ob1.kinds.length),(2,aw l5 c4 ob1.open_.length)]) 124 b (bI ob1 (aw l8 c6 l7.length)),cG bQ 3 l8 c6 l7,eF iv 29 l4 c3 ob1.kinds,cG bQ 3 l5 c4 ob1.open_] _ from ?_);refine aH<|am<|au<|ai<|zo rfl (jU (cz hx1 hN1) rfl)<|aA rfl<|aH<|aX<|bv<|bv<|bv ?_;exact aT (aJ (ih1 (i1+1) ok1 ({ob1 with result:=l7}:al) l4 c3 l5 c4 l8 c6 ⟨cy hx1,h⟩) (aZ J))
   ·skip
    refine aq<|zo J (cd m4 lk J J)<|zo J (bz bJ J J)<|zo J (jy J)<|an<|cX h J (fun h=>?_) (fun h=>?_)
    ·refine ai<|aA J<|aA J<|bO J J (fun hg=>cd yf u5 J J)<|bO J J (fun hg=>dh fa J dw J (aS J hg))<|bO J J (fun hg=>aY lU J J (aS J hg))<|bO J J (fun hg=>bN jB (aS J hg))<|bO J J (fun hg=>bK (aS J hg) hI)<|zo J (la J J)<|bk J<|aH ?_;exact bL (K (ok&&((e1.Arg.Nodes.length:Int)==(0:Int))) (2:Int) h) (aZ J)
    ·refine ae<|bF h fun r q_r h=>?_
     refine eG (ts:=[_,_,_,_,_,_,_,_,_,_,_,_]) mixed J J
      ⟨ia 8 J J J (cd yf u5 J J),
      ⟨cO 93 0 J J J (bz gj J J),
      ⟨ia 0 J J J (cL J),
      ⟨cO 95 2 J J J (bj (ht J)),
      ⟨cO 96 3 J J J (fI 15 il J J J),
      ⟨cO 97 4 J J J (br (r:=rH bC [(1,aw l4 c3 ob1.kinds.length),(2,aw l5 c4 ob1.open_.length)]) (x:=bI ob1 (aw l6 c5 ob1.result.length)) ce J J (gk iZ) (.head _) (ht J)),
      ⟨ft 94 1 98 5 J J J J (aD JW (A5 _ _ q_r) ⟨(ht J),(ht J),aU⟩),
      ⟨cO 99 6 J J J (cL J),
      ⟨cO 92 7 J J J (hY J J),
      ⟨cO 92 7 J J J (hY J J),
      ⟨cO 100 8 J J J (zM J),
      ⟨cO 101 9 J J J (zM J),
      aU⟩⟩⟩⟩⟩⟩⟩⟩⟩⟩⟩⟩ ?_
     refine au<|aq<|aA rfl<|aA rfl<|bO rfl rfl (fun hg=>cL J)<|bO J J (fun hg=>bK (aS J hg) hI)<|zo J (la J J)<|aA J<|bO J J (fun hg=>cd m4 lk J J)<|bO J J (fun hg=>aY bJ J J (aS J hg))<|bO J J (fun hg=>gx (aS J hg) hI)<|zo J (la J J)<|aA J<|bO J J (fun hg=>cd m4 lk J J)<|bO J J (fun hg=>aY bJ J J (aS J hg))<|bO J J (fun hg=>iT (aS J hg) hI)<|zo J (la J J)<|bk J<|an<|aq<|zo J (cd m4 lk J J) ?_;refine zo J (bz bJ J J)<|an<|ax<|aq<|zo J (jy J)<|bk J<|an<|cX h J (fun h=>?_) (fun h=>?_)
     ·refine ai<|aA J<|aA J<|bO J J (fun hg=>cL J)<|bO J J (fun hg=>bK (aS J hg) hI)<|bO J J (fun hg=>bl (aS J hg))<|cA J J J J (fun hg=>cL J)<|cA J J J J (fun hg=>bK (aS J hg) hI)<|bO J J (fun hg=>lA (aS J hg) (fun hb=>(aS J (sK hg (oL hb)))))<|zo J (la J J)<|bk J<|aH<|am ?_;exact bL (K ((((ok&&(r.2==(0:Int)))&&(decide ((1:Int)<e1.Tag)))&&(decide (e1.Tag≤(5:Int))))&&((r.1==(2:Int))||(r.1==(0:Int)))) (2:Int) h) (aZ J)
     ·refine fD (Z:=fun x=>gU (cw tl1) e1 ok ob1 r x=some R) (Of:=fun x=>[bx (rH bC [(1,aw l4 c3 ob1.kinds.length),(2,aw l5 c4 ob1.open_.length)]) 124 b (bI ob1 (aw l6 c5 ob1.result.length)),eF iv 29 l4 c3 ob1.kinds,cG bQ 3 l5 c4 ob1.open_,cG bQ 3 l6 c5 ob1.result]) (Gf:=fun x=>[(0,tV (aI b 0)),(4,gK (((ok&&(r.2==(0:Int)))&&(decide ((1:Int)<e1.Tag)))&&(decide (e1.Tag≤(5:Int))))),(9,bH 2),(10,bH r.1),(75,d7 (fY) l.n.Aggs),(76,hM l.n.Aggs),(77,bH (i1:Int)),(130,gK x)]) (fun x h=>?_) (fun K1=>?_)
      ·skip
       refine cX h J (fun h=>?_) (fun h=>?_)
       ·refine ai<|aA J<|bk J<|aH<|am ?_;exact bL (K (((ok&&(r.2==(0:Int)))&&(decide ((1:Int)<e1.Tag)))&&(decide (e1.Tag≤(5:Int)))) r.1 h) (aZ J)
       ·refine bA<|am ?_;exact bL (K (((ok&&(r.2==(0:Int)))&&(decide ((1:Int)<e1.Tag)))&&(decide (e1.Tag≤(5:Int)))) (2:Int) h) (aZ J)
      ·skip
       refine aq<|zo J (jy J)<|bk J<|an<|cX h J (fun h=>?_) (fun h=>?_)
       ·refine bA ?_;exact bL (K1 (e1.Tag==(4:Int)) h) (aZ J)
       ·refine ai<|zo J (jy J)<|bk J<|aH ?_;exact bL (K1 (e1.Tag==(5:Int)) h) (aZ J)
 ·obtain⟨hx,h⟩:=h
  refine av<|aq<|zo J (eK J J)<|an<|ae<|bo (ht J) (cU hx)<|dA<|ae<|ax<|aq<|zo J (iX dm bJ J J J (cP hx))<|zo J (bz bJ J J)<|bk J<|an<|ae<|aq<|aA J<|zo J (dI (ht J) hI) ?_;refine aA J<|cN J J (fun hg=>cL J)<|cN J J (fun hg=>cL J)<|cN J J (fun hg=>bj (aS J hg))<|cN J J (fun hg=>bP (n:=15) il J (aS J hg) J)<|cN J J (fun hg=>br (r:=rH bC [(1,aw l1 c ob.kinds.length),(2,aw l2 c1 ob.open_.length)]) (x:=bI ob (aw l3 c2 ob.result.length)) ce J J (gk iZ) (.head _) (aS J hg))<|cN J J (fun hg=>bN dm (aS J hg))<|cN J J (fun hg=>dQ (aS J hg) (aS J hg))<|zo J (pZ J J)<|an<|cX h J (fun h=>?_) (fun h=>?_)
  ·refine aq<|zo J (fJ)<|an<|aj ?_;refine aa (aC (aa (aa (aC (aa ?_)))));refine bv<|gG<|aX<|sq (r' :=rH be [(1,aw l1 c ob.kinds.length),(2,aw l2 c1 ob.open_.length)]) (x' :=ob) (fun _ _ _ ho h=>QM h (fun h=>gz (ju ho (.head _)) h))<|aX<|ba<|aR<|aR<|aR ?_;cases so h;exact dc J (K0 [(l1,c),(l2,c1)]) J J (fun _ _ h=>h)
  ·refine dA<|bF h fun e2 q_e2 h=>bF h fun l9 q_l9 h=>?_
   refine oe 14 [tc (tV (aI b 0)),tc (tV (aI b 0)),tc (tV (aI b 0)),tc (tV (aI b 17)),tc (pQ l3 c2 ob.result),tc (tV (aI b 0)),tc (tV (aI b 0)),tc (tV (aI b 15)),tc (kz ob.a_),tc (bH e),tc (bq bQ e2),tc (bH e2),tc (kz ([e2])),([13],fun s=>tV (aw ((s.getD 0 wc).h 0).1 ((s.getD 0 wc).h 0).2 l9.length))] [false,false,false,false,false,false,false,false,false,false,false,false,false,true] [fun _=>[bx (rH bC [(1,aw l1 c ob.kinds.length),(2,aw l2 c1 ob.open_.length)]) 124 b (bI ob (aw l3 c2 ob.result.length)),eF iv 29 l1 c ob.kinds,cG bQ 3 l2 c1 ob.open_,cG bQ 3 l3 c2 ob.result],fun sg=>[cG bQ 3 ((sg 13).h 0).1 ((sg 13).h 0).2 l9,bx (rH bC [(1,aw l1 c ob.kinds.length),(2,aw l2 c1 ob.open_.length)]) 124 b (bI ob (aw l3 c2 ob.result.length)),eF iv 29 l1 c ob.kinds,cG bQ 3 l2 c1 ob.open_]] J mixed J J J J J
    ⟨⟨[⟨0,fun _=>tV (aI b 0),none⟩],_,0,1,J,⟨(fun _=>J),aU⟩,J,J,J,J,J,fun _ sg _ _=>ak J (cL J)⟩,
    ⟨⟨[⟨0,fun _=>tV (aI b 0),none⟩],_,0,0,J,⟨(fun _=>J),aU⟩,J,J,J,J,J,fun _ sg _ _=>ak J (cL J)⟩,
    ⟨⟨[⟨58,fun _=>tV (aI b 0),some 1⟩],_,0,0,J,⟨(fun _=>J),aU⟩,J,J,J,J,J,fun _ sg _ _=>ak J (bj (ht J))⟩,
    ⟨⟨[⟨59,fun _=>tV (aI b 0),some 2⟩],_,0,0,J,⟨(fun _=>J),aU⟩,J,J,J,J,J,fun _ sg _ _=>ak J (fI 17 eW J J J)⟩,
    ⟨⟨[⟨60,fun _=>tV (aI b 17),some 3⟩],_,0,0,J,⟨(fun _=>J),aU⟩,J,J,J,J,J,yR (fun sg=>ak J (jF ce (gk jT) (.head _) J (ht J)))⟩,
    ⟨⟨[⟨0,fun _=>tV (aI b 0),none⟩],_,0,0,J,⟨(fun _=>J),aU⟩,J,J,J,J,J,fun _ sg _ _=>ak J (cL J)⟩,
    ⟨⟨[⟨62,fun _=>tV (aI b 0),some 5⟩],_,0,0,J,⟨(fun _=>J),aU⟩,J,J,J,J,J,fun _ sg _ _=>ak J (bj (ht J))⟩,
    ⟨⟨[⟨63,fun _=>tV (aI b 0),some 6⟩],_,0,0,J,⟨(fun _=>J),aU⟩,J,J,J,J,J,fun _ sg _ _=>ak J (fI 15 il J J J)⟩,
    ⟨⟨[⟨64,fun _=>tV (aI b 15),some 7⟩],_,0,0,J,⟨(fun _=>J),aU⟩,J,J,J,J,J,yR (fun sg=>ak J (br (r:=rH bC [(1,aw l1 c ob.kinds.length),(2,aw l2 c1 ob.open_.length)]) (x:=bI ob (aw l3 c2 ob.result.length)) ce J J (gk iZ) (.head _) (ht J)))⟩,
    ⟨⟨[⟨6,fun _=>tD bQ e,none⟩],_,0,0,J,⟨(fun _=>J),aU⟩,J,J,J,J,J,fun _ sg _ _=>ak J (cL J)⟩,
    ⟨⟨[⟨65,fun _=>tD wd ob.a_,some 8⟩,⟨66,fun _=>tD bQ e,some 9⟩],_,0,0,J,⟨(fun _=>J),(fun _=>J),aU⟩,J,J,J,J,J,fun _ sg _ _=>ak J (iX dm bJ J J J q_e2)⟩,
    ⟨⟨[⟨67,fun _=>bq bQ e2,some 10⟩],_,0,0,J,⟨(fun _=>J),aU⟩,J,J,J,J,J,fun _ sg _ _=>ak J (bz bJ J J)⟩,
    ⟨⟨[⟨68,fun _=>tD bQ e2,some 11⟩],_,0,0,J,⟨(fun _=>J),aU⟩,J,J,J,J,J,fun _ sg _ _=>ak J (aP (r:=bQ) (ys:=[e2]) (xs:=[.tmp 68]) dm bJ J J J J J ⟨(ht J),aU⟩)⟩,
    ⟨⟨[⟨61,fun _=>tV (aw l3 c2 ob.result.length),some 4⟩,⟨69,fun _=>tD wd ([e2]),some 12⟩],_,J,⟨(fun _=>J),(fun _=>J),aU⟩,J,J,J,fun sg=>dN J (EffOK.fr3 (vc bJ J J J J dm J (ht J) (ht J) q_l9))⟩,
    aU⟩⟩⟩⟩⟩⟩⟩⟩⟩⟩⟩⟩⟩⟩ (fun sg=>?_)
   refine(show RG _ _ _ _ [cG bQ 3 ((sg 13).h 0).1 ((sg 13).h 0).2 l9,bx (rH bC [(1,aw l1 c ob.kinds.length),(2,aw l2 c1 ob.open_.length)]) 124 b (bI ob (aw l3 c2 ob.result.length)),eF iv 29 l1 c ob.kinds,cG bQ 3 l2 c1 ob.open_] _ from ?_);refine zo J (bj (ht J))<|zo J (fI 17 eW J J J)<|bD<|dB ce J (qK (hs' :=[(1,aw l1 c ob.kinds.length),(2,aw l2 c1 ob.open_.length)]) (gB _ _ _) ⟨.inr ⟨J,J⟩,.inr ⟨J,J⟩,aU⟩ J) J (ht J) (AW (ht J)) ?_;refine(show RG _ _ _ _ [bx (rH bC [(1,aw l1 c ob.kinds.length),(2,aw l2 c1 ob.open_.length)]) 124 b (bI ob (aw ((sg 13).h 0).1 ((sg 13).h 0).2 l9.length)),cG bQ 3 ((sg 13).h 0).1 ((sg 13).h 0).2 l9,eF iv 29 l1 c ob.kinds,cG bQ 3 l2 c1 ob.open_] _ from ?_);refine aH<|am<|au<|ai<|zo rfl (jU (cz hx hN) rfl)<|aA rfl<|aH<|aX<|bv<|bv<|bv ?_;exact aT (aJ (ih (i+1) ({ob with result:=l9}:al) l1 c l2 c1 ((sg 13).h 0).1 ((sg 13).h 0).2 ⟨cy hx,h⟩) (aZ J))

theorem U1(b:Nat)(ix:OI)(l:al){R:Bool×al}(h:eD l=some R):fq aM 87 [tV (aI b 0)] (dS b l ix) (fun _:OI=>gK R.1) (fun j=>SS b R.2 j):=by
 refine fq.of Tryz.func87 J J J fun w0 S0=>?_;refine(show CG _ _ _ [bx (rH be [(1,aw (ix.h 0).1 (ix.h 0).2 l.kinds.length),(2,aw (ix.h 1).1 (ix.h 1).2 l.open_.length)]) 124 b l,eF iv 29 (ix.h 0).1 (ix.h 0).2 l.kinds,cG bQ 3 (ix.h 1).1 (ix.h 1).2 l.open_] _ from ?_);refine aq<|zo J (fJ)<|an<|aq<|aA J<|zo J (bj (ht J))<|zo J (fI 3 fW J J J)<|zo J (br (r:=rH be [(1,aw (ix.h 0).1 (ix.h 0).2 l.kinds.length),(2,aw (ix.h 1).1 (ix.h 1).2 l.open_.length)]) (x:=l) eC J J (gk eH) (.head _) (ht J))<|aO (r:=aW) (x:=Dj) eC (fun _=>fE _) J fun b1=>ay eC J ap J (ht J) (ht J)<|aL 3 J<|an<|aq<|zo J (cd kq fZ J J)<|zo J (bz ce J J)<|zo J (ja dm J)<|zo J (iT (ht J) hI)<|aA J<|bO J J (fun hg=>cd oV gY J J) ?_;refine bO J J (fun hg=>aY yT J J (aS J hg))<|bO J J (fun hg=>bN ss (aS J hg))<|bO J J (fun hg=>iT (aS J hg) hI)<|zo J (la J J)<|aA J<|bO J J (fun hg=>cd kq fZ J J)<|bO J J (fun hg=>aY ce J J (aS J hg))<|bO J J (fun hg=>bN dm (aS J hg))<|bO J J (fun hg=>cd oV gY J J)<|bO J J (fun hg=>aY yT J J (aS J hg))<|bO J J (fun hg=>bN ss (aS J hg))<|bO J J (fun hg=>jZ (aS J hg) (aS J hg))<|bO J J (fun hg=>gx (aS J hg) hI)<|zo J (la J J)<|bk J<|an<|aq<|aA J<|zo J (bj (ht J))<|zo J (fI 17 eW J J J)<|cm false bQ 3<|bD ?_;refine dB ce J (qK (hs' :=[(1,aw (ix.h 0).1 (ix.h 0).2 l.kinds.length),(2,aw (ix.h 1).1 (ix.h 1).2 l.open_.length)]) (jM _ _) ⟨.inr ⟨J,J⟩,.inr ⟨J,J⟩,aU⟩ J) J (ht J) (AW (show aE _ _ _ N4 from vP)) ?_;refine(show RG _ _ _ _ [bx (rH bC [(1,aw (ix.h 0).1 (ix.h 0).2 l.kinds.length),(2,aw (ix.h 1).1 (ix.h 1).2 l.open_.length)]) 124 b (bI l (aw none 0 (mu.length))),cG bQ 3 none 0 mu,eF iv 29 (ix.h 0).1 (ix.h 0).2 l.kinds,cG bQ 3 (ix.h 1).1 (ix.h 1).2 l.open_] _ from ?_);refine an<|ae<|aq<|zo J (cd kq fZ J J)<|zo J (bz ce J J)<|zo J (ja dm J)<|zo J (bl hI)<|an<|ax<|aV (k:=40) J fun hN=>bB<|fc<|d3<|d3<|d3 ?_;refine aJ (sM (Z:=fun ls i ob l1 c l2 c1 l3 c2=>(l.n.Keys.drop i=ls)∧dl l ls ob=some R) (Of:=fun _ i ob l1 c l2 c1 l3 c2=>[bx (rH bC [(1,aw l1 c ob.kinds.length),(2,aw l2 c1 ob.open_.length)]) 124 b (bI ob (aw l3 c2 ob.result.length)),eF iv 29 l1 c ob.kinds,cG bQ 3 l2 c1 ob.open_,cG bQ 3 l3 c2 ob.result]) (Gf:=fun _ i ob l1 c l2 c1 l3 c2=>[(0,tV (aI b 0)),(3,bq aW l.n),(4,gK (((decide ((l.n.Keys.length:Int)≤(3:Int)))&&(decide ((l.n.Aggs.length:Int)≤(12:Int))))&&(decide ((0:Int)<(IntKind.i64.wrap ((l.n.Keys.length:Int)+(l.n.Aggs.length:Int))))))),(40,kz l.n.Keys),(41,hM l.n.Keys),(42,bH (i:Int))]) (fun i ob l1 c l2 c1 l3 c2 h=>?_) (fun e tl ih i ob l1 c l2 c1 l3 c2 h=>?_) l.n.Keys 0 ({l with result:=mu}:al) (ix.h 0).1 (ix.h 0).2 (ix.h 1).1 (ix.h 1).2 none 0 ⟨J,h⟩) (aZ J)
 ·obtain⟨hx,h⟩:=h
  refine av<|aq<|zo J (eK J J)<|an<|ae<|bp (ht J) (cW hx)<|bg ?_;refine ac (ac (aF ?_));refine au<|ae<|aq<|zo rfl (cd oV gY rfl rfl)<|zo rfl (bz yT rfl rfl)<|zo rfl (ja ss rfl)<|zo rfl (bl hI)<|an<|ax<|aV (k:=75) J fun hN1=>bB ?_;refine aJ (yD (Z:=fun ls1 i1 ok ob1 l4 c3 l5 c4 l6 c5=>(l.n.Aggs.drop i1=ls1)∧cw ls1 ok ob1=some R) (Of:=fun _ i1 ok ob1 l4 c3 l5 c4 l6 c5=>[bx (rH bC [(1,aw l4 c3 ob1.kinds.length),(2,aw l5 c4 ob1.open_.length)]) 124 b (bI ob1 (aw l6 c5 ob1.result.length)),eF iv 29 l4 c3 ob1.kinds,cG bQ 3 l5 c4 ob1.open_,cG bQ 3 l6 c5 ob1.result]) (Gf:=fun _ i1 ok ob1 l4 c3 l5 c4 l6 c5=>[(0,tV (aI b 0)),(4,gK ok),(75,d7 (fY) l.n.Aggs),(76,hM l.n.Aggs),(77,bH (i1:Int))]) (fun i1 ok ob1 l4 c3 l5 c4 l6 c5 h=>?_) (fun e1 tl1 ih1 i1 ok ob1 l4 c3 l5 c4 l6 c5 h=>?_) l.n.Aggs 0 (((decide ((l.n.Keys.length:Int)≤(3:Int)))&&(decide ((l.n.Aggs.length:Int)≤(12:Int))))&&(decide ((0:Int)<(IntKind.i64.wrap ((l.n.Keys.length:Int)+(l.n.Aggs.length:Int)))))) ob l1 c l2 c1 l3 c2 ⟨J,h⟩) (aZ J)
  ·obtain⟨hx1,h⟩:=h
   refine av<|aq<|zo J (eK J J)<|an<|ae<|bp (ht J) (cW hx1)<|bg ?_;refine ac (ac (aF ?_));refine au<|aq<|aA rfl<|bk rfl<|an<|aj<|bv<|bv<|bv<|bv ?_;cases so h;exact dc J (K0 [(l4,c3),(l5,c4),(l6,c5)]) J J (fun _ _ h=>h)
  ·obtain⟨hx1,h⟩:=h
   refine av<|aq<|zo J (eK J J)<|an<|ae<|bo (ht J) (cU hx1)<|dA<|ae<|ax<|aq<|zo J (iX ss kC J J J (cP hx1))<|zo J (bz kC J J)<|aO (r:=fY) (x:=Kn) kC (fun _=>yQ _) J fun b2=>ay kC J ap J (ht J) (ht J)<|aL 8 J<|an<|aq<|zo J (cQ) ?_;refine an ?_;refine Ek (Z:=fun ok1 k=>eu (cw tl1) ob1 ok1 k=some R) (Of:=fun ok1 k=>[bx (rH bC [(1,aw l4 c3 ob1.kinds.length),(2,aw l5 c4 ob1.open_.length)]) 124 b (bI ob1 (aw l6 c5 ob1.result.length)),eF iv 29 l4 c3 ob1.kinds,cG bQ 3 l5 c4 ob1.open_,cG bQ 3 l6 c5 ob1.result]) (Gf:=fun ok1 k=>[(0,tV (aI b 0)),(4,gK ok1),(9,bH k),(75,d7 (fY) l.n.Aggs),(76,hM l.n.Aggs),(77,bH (i1:Int))]) (fun ok1 k h=>?_) (fun K=>?_)
   ·skip
    refine ai<|aA J<|aA J<|zo J (bj (ht J))<|zo J (fI 17 eW J J J)<|zo J (jF ce (gk jT) (.head _) J (ht J))<|aA J<|zo J (aP (r:=bQ) (ys:=[k]) (xs:=[.tmp 139]) dm bJ J J J J J ⟨(ht J),aU⟩)<|dZ<|bF h fun l7 q_l7 h=>ep bJ J J J J dm J J (ht J) (ht J) q_l7 fun l8 c6=>zo J (bj (ht J))<|zo J (fI 17 eW J J J)<|bD<|dB ce J (qK (hs' :=[(1,aw l4 c3 ob1.kinds.length),(2,aw l5 c4 ob1.open_.length)]) (gB _ _ _) ⟨.inr ⟨J,J⟩,.inr ⟨J,J⟩,aU⟩ J) J (ht J) (AW (ht J)) ?_;refine(show RG _ _ _ _ [bx (rH bC [(1,aw l4 c3 ob1.kinds.length),(2,aw l5 c4 ob1.open_.length)]) 124 b (bI ob1 (aw l8 c6 l7.length)),cG bQ 3 l8 c6 l7,eF iv 29 l4 c3 ob1.kinds,cG bQ 3 l5 c4 ob1.open_] _ from ?_);refine aH<|am<|au<|ai<|zo rfl (jU (cz hx1 hN1) rfl)<|aA rfl<|aH<|aX<|bv<|bv<|bv ?_;exact aT (aJ (ih1 (i1+1) ok1 ({ob1 with result:=l7}:al) l4 c3 l5 c4 l8 c6 ⟨cy hx1,h⟩) (aZ J))
   ·skip
    refine aq<|zo J (cd m4 lk J J)<|zo J (bz bJ J J)<|zo J (jy J)<|an<|cX h J (fun h=>?_) (fun h=>?_)
    ·refine ai<|aA J<|aA J<|bO J J (fun hg=>cd yf u5 J J)<|bO J J (fun hg=>dh fa J dw J (aS J hg))<|bO J J (fun hg=>aY lU J J (aS J hg))<|bO J J (fun hg=>bN jB (aS J hg))<|bO J J (fun hg=>bK (aS J hg) hI)<|zo J (la J J)<|bk J<|aH ?_;exact bL (K (ok&&((e1.Arg.Nodes.length:Int)==(0:Int))) (2:Int) h) (aZ J)
    ·refine ae<|bF h fun r q_r h=>?_
     refine eG (ts:=[_,_,_,_,_,_,_,_,_,_,_,_]) mixed J J
      ⟨ia 8 J J J (cd yf u5 J J),
      ⟨cO 93 0 J J J (bz gj J J),
      ⟨ia 0 J J J (cL J),
      ⟨cO 95 2 J J J (bj (ht J)),
      ⟨cO 96 3 J J J (fI 15 il J J J),
      ⟨cO 97 4 J J J (br (r:=rH bC [(1,aw l4 c3 ob1.kinds.length),(2,aw l5 c4 ob1.open_.length)]) (x:=bI ob1 (aw l6 c5 ob1.result.length)) ce J J (gk iZ) (.head _) (ht J)),
      ⟨ft 94 1 98 5 J J J J (aD JW (A5 _ _ q_r) ⟨(ht J),(ht J),aU⟩),
      ⟨cO 99 6 J J J (cL J),
      ⟨cO 92 7 J J J (hY J J),
      ⟨cO 92 7 J J J (hY J J),
      ⟨cO 100 8 J J J (zM J),
      ⟨cO 101 9 J J J (zM J),
      aU⟩⟩⟩⟩⟩⟩⟩⟩⟩⟩⟩⟩ ?_
     refine au<|aq<|aA rfl<|aA rfl<|bO rfl rfl (fun hg=>cL J)<|bO J J (fun hg=>bK (aS J hg) hI)<|zo J (la J J)<|aA J<|bO J J (fun hg=>cd m4 lk J J)<|bO J J (fun hg=>aY bJ J J (aS J hg))<|bO J J (fun hg=>gx (aS J hg) hI)<|zo J (la J J)<|aA J<|bO J J (fun hg=>cd m4 lk J J)<|bO J J (fun hg=>aY bJ J J (aS J hg))<|bO J J (fun hg=>iT (aS J hg) hI)<|zo J (la J J)<|bk J<|an<|aq<|zo J (cd m4 lk J J) ?_;refine zo J (bz bJ J J)<|an<|ax<|aq<|zo J (jy J)<|bk J<|an<|cX h J (fun h=>?_) (fun h=>?_)
     ·refine ai<|aA J<|aA J<|bO J J (fun hg=>cL J)<|bO J J (fun hg=>bK (aS J hg) hI)<|bO J J (fun hg=>bl (aS J hg))<|cA J J J J (fun hg=>cL J)<|cA J J J J (fun hg=>bK (aS J hg) hI)<|bO J J (fun hg=>lA (aS J hg) (fun hb=>(aS J (sK hg (oL hb)))))<|zo J (la J J)<|bk J<|aH<|am ?_;exact bL (K ((((ok&&(r.2==(0:Int)))&&(decide ((1:Int)<e1.Tag)))&&(decide (e1.Tag≤(5:Int))))&&((r.1==(2:Int))||(r.1==(0:Int)))) (2:Int) h) (aZ J)
     ·refine fD (Z:=fun x=>gU (cw tl1) e1 ok ob1 r x=some R) (Of:=fun x=>[bx (rH bC [(1,aw l4 c3 ob1.kinds.length),(2,aw l5 c4 ob1.open_.length)]) 124 b (bI ob1 (aw l6 c5 ob1.result.length)),eF iv 29 l4 c3 ob1.kinds,cG bQ 3 l5 c4 ob1.open_,cG bQ 3 l6 c5 ob1.result]) (Gf:=fun x=>[(0,tV (aI b 0)),(4,gK (((ok&&(r.2==(0:Int)))&&(decide ((1:Int)<e1.Tag)))&&(decide (e1.Tag≤(5:Int))))),(9,bH 2),(10,bH r.1),(75,d7 (fY) l.n.Aggs),(76,hM l.n.Aggs),(77,bH (i1:Int)),(130,gK x)]) (fun x h=>?_) (fun K1=>?_)
      ·skip
       refine cX h J (fun h=>?_) (fun h=>?_)
       ·refine ai<|aA J<|bk J<|aH<|am ?_;exact bL (K (((ok&&(r.2==(0:Int)))&&(decide ((1:Int)<e1.Tag)))&&(decide (e1.Tag≤(5:Int)))) r.1 h) (aZ J)
       ·refine bA<|am ?_;exact bL (K (((ok&&(r.2==(0:Int)))&&(decide ((1:Int)<e1.Tag)))&&(decide (e1.Tag≤(5:Int)))) (2:Int) h) (aZ J)
      ·skip
       refine aq<|zo J (jy J)<|bk J<|an<|cX h J (fun h=>?_) (fun h=>?_)
       ·refine bA ?_;exact bL (K1 (e1.Tag==(4:Int)) h) (aZ J)
       ·refine ai<|zo J (jy J)<|bk J<|aH ?_;exact bL (K1 (e1.Tag==(5:Int)) h) (aZ J)
 ·obtain⟨hx,h⟩:=h
  refine av<|aq<|zo J (eK J J)<|an<|ae<|bo (ht J) (cU hx)<|dA<|ae<|ax<|aq<|zo J (iX dm bJ J J J (cP hx))<|zo J (bz bJ J J)<|bk J<|an<|ae<|aq<|aA J<|zo J (dI (ht J) hI) ?_;refine aA J<|cN J J (fun hg=>cL J)<|cN J J (fun hg=>cL J)<|cN J J (fun hg=>bj (aS J hg))<|cN J J (fun hg=>bP (n:=15) il J (aS J hg) J)<|cN J J (fun hg=>br (r:=rH bC [(1,aw l1 c ob.kinds.length),(2,aw l2 c1 ob.open_.length)]) (x:=bI ob (aw l3 c2 ob.result.length)) ce J J (gk iZ) (.head _) (aS J hg))<|cN J J (fun hg=>bN dm (aS J hg))<|cN J J (fun hg=>dQ (aS J hg) (aS J hg))<|zo J (pZ J J)<|an<|cX h J (fun h=>?_) (fun h=>?_)
  ·refine aq<|zo J (fJ)<|an<|aj ?_;refine aa (aC (aa (aa (aC (aa ?_)))));refine bv<|bv<|bv<|bv ?_;cases so h;exact dc J (K0 [(l1,c),(l2,c1),(l3,c2)]) J J (fun _ _ h=>h)
  ·refine dA<|bF h fun e2 q_e2 h=>bF h fun l9 q_l9 h=>?_
   refine oe 14 [tc (tV (aI b 0)),tc (tV (aI b 0)),tc (tV (aI b 0)),tc (tV (aI b 17)),tc (pQ l3 c2 ob.result),tc (tV (aI b 0)),tc (tV (aI b 0)),tc (tV (aI b 15)),tc (kz ob.a_),tc (bH e),tc (bq bQ e2),tc (bH e2),tc (kz ([e2])),([13],fun s=>tV (aw ((s.getD 0 wc).h 0).1 ((s.getD 0 wc).h 0).2 l9.length))] [false,false,false,false,false,false,false,false,false,false,false,false,false,true] [fun _=>[bx (rH bC [(1,aw l1 c ob.kinds.length),(2,aw l2 c1 ob.open_.length)]) 124 b (bI ob (aw l3 c2 ob.result.length)),eF iv 29 l1 c ob.kinds,cG bQ 3 l2 c1 ob.open_,cG bQ 3 l3 c2 ob.result],fun sg=>[cG bQ 3 ((sg 13).h 0).1 ((sg 13).h 0).2 l9,bx (rH bC [(1,aw l1 c ob.kinds.length),(2,aw l2 c1 ob.open_.length)]) 124 b (bI ob (aw l3 c2 ob.result.length)),eF iv 29 l1 c ob.kinds,cG bQ 3 l2 c1 ob.open_]] J mixed J J J J J
    ⟨⟨[⟨0,fun _=>tV (aI b 0),none⟩],_,0,1,J,⟨(fun _=>J),aU⟩,J,J,J,J,J,fun _ sg _ _=>ak J (cL J)⟩,
    ⟨⟨[⟨0,fun _=>tV (aI b 0),none⟩],_,0,0,J,⟨(fun _=>J),aU⟩,J,J,J,J,J,fun _ sg _ _=>ak J (cL J)⟩,
    ⟨⟨[⟨58,fun _=>tV (aI b 0),some 1⟩],_,0,0,J,⟨(fun _=>J),aU⟩,J,J,J,J,J,fun _ sg _ _=>ak J (bj (ht J))⟩,
    ⟨⟨[⟨59,fun _=>tV (aI b 0),some 2⟩],_,0,0,J,⟨(fun _=>J),aU⟩,J,J,J,J,J,fun _ sg _ _=>ak J (fI 17 eW J J J)⟩,
    ⟨⟨[⟨60,fun _=>tV (aI b 17),some 3⟩],_,0,0,J,⟨(fun _=>J),aU⟩,J,J,J,J,J,yR (fun sg=>ak J (jF ce (gk jT) (.head _) J (ht J)))⟩,
    ⟨⟨[⟨0,fun _=>tV (aI b 0),none⟩],_,0,0,J,⟨(fun _=>J),aU⟩,J,J,J,J,J,fun _ sg _ _=>ak J (cL J)⟩,
    ⟨⟨[⟨62,fun _=>tV (aI b 0),some 5⟩],_,0,0,J,⟨(fun _=>J),aU⟩,J,J,J,J,J,fun _ sg _ _=>ak J (bj (ht J))⟩,
    ⟨⟨[⟨63,fun _=>tV (aI b 0),some 6⟩],_,0,0,J,⟨(fun _=>J),aU⟩,J,J,J,J,J,fun _ sg _ _=>ak J (fI 15 il J J J)⟩,
    ⟨⟨[⟨64,fun _=>tV (aI b 15),some 7⟩],_,0,0,J,⟨(fun _=>J),aU⟩,J,J,J,J,J,yR (fun sg=>ak J (br (r:=rH bC [(1,aw l1 c ob.kinds.length),(2,aw l2 c1 ob.open_.length)]) (x:=bI ob (aw l3 c2 ob.result.length)) ce J J (gk iZ) (.head _) (ht J)))⟩,
    ⟨⟨[⟨6,fun _=>tD bQ e,none⟩],_,0,0,J,⟨(fun _=>J),aU⟩,J,J,J,J,J,fun _ sg _ _=>ak J (cL J)⟩,
    ⟨⟨[⟨65,fun _=>tD wd ob.a_,some 8⟩,⟨66,fun _=>tD bQ e,some 9⟩],_,0,0,J,⟨(fun _=>J),(fun _=>J),aU⟩,J,J,J,J,J,fun _ sg _ _=>ak J (iX dm bJ J J J q_e2)⟩,
    ⟨⟨[⟨67,fun _=>bq bQ e2,some 10⟩],_,0,0,J,⟨(fun _=>J),aU⟩,J,J,J,J,J,fun _ sg _ _=>ak J (bz bJ J J)⟩,
    ⟨⟨[⟨68,fun _=>tD bQ e2,some 11⟩],_,0,0,J,⟨(fun _=>J),aU⟩,J,J,J,J,J,fun _ sg _ _=>ak J (aP (r:=bQ) (ys:=[e2]) (xs:=[.tmp 68]) dm bJ J J J J J ⟨(ht J),aU⟩)⟩,
    ⟨⟨[⟨61,fun _=>tV (aw l3 c2 ob.result.length),some 4⟩,⟨69,fun _=>tD wd ([e2]),some 12⟩],_,J,⟨(fun _=>J),(fun _=>J),aU⟩,J,J,J,fun sg=>dN J (EffOK.fr3 (vc bJ J J J J dm J (ht J) (ht J) q_l9))⟩,
    aU⟩⟩⟩⟩⟩⟩⟩⟩⟩⟩⟩⟩⟩⟩ (fun sg=>?_)
   refine(show RG _ _ _ _ [cG bQ 3 ((sg 13).h 0).1 ((sg 13).h 0).2 l9,bx (rH bC [(1,aw l1 c ob.kinds.length),(2,aw l2 c1 ob.open_.length)]) 124 b (bI ob (aw l3 c2 ob.result.length)),eF iv 29 l1 c ob.kinds,cG bQ 3 l2 c1 ob.open_] _ from ?_);refine zo J (bj (ht J))<|zo J (fI 17 eW J J J)<|bD<|dB ce J (qK (hs' :=[(1,aw l1 c ob.kinds.length),(2,aw l2 c1 ob.open_.length)]) (gB _ _ _) ⟨.inr ⟨J,J⟩,.inr ⟨J,J⟩,aU⟩ J) J (ht J) (AW (ht J)) ?_;refine(show RG _ _ _ _ [bx (rH bC [(1,aw l1 c ob.kinds.length),(2,aw l2 c1 ob.open_.length)]) 124 b (bI ob (aw ((sg 13).h 0).1 ((sg 13).h 0).2 l9.length)),cG bQ 3 ((sg 13).h 0).1 ((sg 13).h 0).2 l9,eF iv 29 l1 c ob.kinds,cG bQ 3 l2 c1 ob.open_] _ from ?_);refine aH<|am<|au<|ai<|zo rfl (jU (cz hx hN) rfl)<|aA rfl<|aH<|aX<|bv<|bv<|bv ?_;exact aT (aJ (ih (i+1) ({ob with result:=l9}:al) l1 c l2 c1 ((sg 13).h 0).1 ((sg 13).h 0).2 ⟨cy hx,h⟩) (aZ J))

end Go.Proofs.YtmogpgcfognefaaGreatDoor

