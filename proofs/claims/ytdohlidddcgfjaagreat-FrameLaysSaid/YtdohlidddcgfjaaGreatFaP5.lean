/- cT of this claim: P5. -/
import Derived.Test.YtdohlidddcgfjaaGreatFaT
import Derived.Test.YtdohlidddcgfjaaGreatFaP4
set_option linter.all false
namespace Go.Proofs.YtdohlidddcgfjaaGreat
open Go
set_option maxRecDepth 100000

theorem Rs(b:Nat)(ix:OI)(l:al){R:Bool×al}(h:eu l=some R):dK ba 169 [tV (aL b 0)] (eD b l ix) (fun _:OI=>fx R.1) (fun j=>eD b R.2 j):=by
 refine dK.of Tryz.func169 I I I fun w0 S0=>?_;refine(show CG _ _ _ [bx (rH bo [(1,ax (ix.h 0).1 (ix.h 0).2 l.kinds.length),(2,ax (ix.h 1).1 (ix.h 1).2 l.open_.length)]) 168 b l,tip iW 69 (ix.h 0).1 (ix.h 0).2 l.kinds,df cq 3 (ix.h 1).1 (ix.h 1).2 l.open_] _ from ?_);refine aj<|zo I (dd)<|ai<|aj<|av I<|zo I (bg (ht I))<|zo I (fe 3 gH I I I)<|zo I (br (r:=rH bo [(1,ax (ix.h 0).1 (ix.h 0).2 l.kinds.length),(2,ax (ix.h 1).1 (ix.h 1).2 l.open_.length)]) (x:=l) ej I I (gW fD) (.head _) (ht I))<|bJ (r:=aJ) (x:=DK) ej (fun _=>iX _) I fun b1=>aQ ej I aY I (ht I) (ht I)<|bE 3 I<|ai<|aj<|zo I (aU iw dl I I)<|zo I (bf bV I I)<|zo I (d5 cR I)<|aS I<|ai ?_;refine aa<|bA h fun e q_e h=>?_
 refine fq (ts:=[_,_,_,_,_,_,_,_,_,_,_,_,_,_,_,_,_,_,_,_,_,_,_,_,_,_,_,_,_,_,_,_,_,_]) mixed I I
  ⟨im 0 I I I (cw I),
  ⟨dQ 18 0 I I I (bg (ht I)),
  ⟨dQ 19 1 I I I (fe 0 Er I I I),
  ⟨dQ 20 2 I I I (br (r:=rH bo [(1,ax (ix.h 0).1 (ix.h 0).2 l.kinds.length),(2,ax (ix.h 1).1 (ix.h 1).2 l.open_.length)]) (x:=l) ox I I (gW zl) (.head _) (ht I)),
  ⟨im 3 I I I (aU lh eW I I),
  ⟨dQ 22 4 I I I (bf bp I I),
  ⟨eF 21 3 23 5 I I I I (gI ji ej I I I q_e),
  ⟨dQ 24 6 I I I (aU eJ cg I I),
  ⟨dQ 25 7 I I I (bf bp I I),
  ⟨dQ 26 8 I I I (d6 I),
  ⟨dQ 27 9 I I I (cw I),
  ⟨p6 4 28 10 I I I I (dA I I I I (fun hg=>cw I)),
  ⟨iL 29 11 28 10 I I I I (dA I I I I (fun hg=>dV (aA I hg) hI)),
  ⟨eF 28 10 30 12 I I I I (fV I I),
  ⟨dQ 31 13 I I I (cw I),
  ⟨p6 3 32 14 I I I I (dA I I I I (fun hg=>aU fM cz I I)),
  ⟨iL 33 15 32 14 I I I I (dA I I I I (fun hg=>am nd I I (aA I hg))),
  ⟨iL 34 16 32 14 I I I I (dA I I I I (fun hg=>bw jR (aA I hg))),
  ⟨iL 35 17 32 14 I I I I (dA I I I I (fun hg=>dV (aA I hg) hI)),
  ⟨eF 32 14 36 18 I I I I (fV I I),
  ⟨dQ 37 19 I I I (cw I),
  ⟨p6 4 38 20 I I I I (dA I I I I (fun hg=>cw I)),
  ⟨p6 3 38 20 I I I I (dA I I I I (fun hg=>aU fM cz I I)),
  ⟨iL 40 22 38 20 I I I I (dA I I I I (fun hg=>am nd I I (aA I hg))),
  ⟨iL 41 23 38 20 I I I I (dA I I I I (fun hg=>bw jR (aA I hg))),
  ⟨xT 39 21 42 24 38 20 I I I I I (dA I I I I (fun hg=>dI (aA I hg) (aA I hg))),
  ⟨p6 0 38 20 I I I I (dA I I I I (fun hg=>cw I)),
  ⟨iL 44 26 38 20 I I I I (dA I I I I (fun hg=>bg (aA I hg))),
  ⟨iL 45 27 38 20 I I I I (dA I I I I (fun hg=>bU (n:=15) iT I (aA I hg) I)),
  ⟨iL 46 28 38 20 I I I I (dA I I I I (fun hg=>br (r:=rH bo [(1,ax (ix.h 0).1 (ix.h 0).2 l.kinds.length),(2,ax (ix.h 1).1 (ix.h 1).2 l.open_.length)]) (x:=l) bV I I (gW ot) (.head _) (aA I hg))),
  ⟨iL 47 29 38 20 I I I I (dA I I I I (fun hg=>bw cR (aA I hg))),
  ⟨xT 43 25 48 30 38 20 I I I I I (dA I I I I (fun hg=>bz (aA I hg) (aA I hg))),
  ⟨eF 38 20 49 31 I I I I (fV I I),
  ⟨dQ 50 32 I I I (Cd I),
  aZ⟩⟩⟩⟩⟩⟩⟩⟩⟩⟩⟩⟩⟩⟩⟩⟩⟩⟩⟩⟩⟩⟩⟩⟩⟩⟩⟩⟩⟩⟩⟩⟩⟩⟩ ?_
 refine af<|aa<|aj<|av rfl<|zo rfl (dP (ht rfl))<|ai<|bR h rfl (fun h=>?_) (fun h=>?_)
 ·refine aj<|zo I (dd)<|ai<|ah<|J<|bl<|bl<|bl ?_;cases so h;exact ee I ix I I (fun _ _ h=>h)
 ·refine dk<|aj<|av I<|av I<|zo I (bg (ht I))<|zo I (fe 15 iT I I I)<|zo I (br (r:=rH bo [(1,ax (ix.h 0).1 (ix.h 0).2 l.kinds.length),(2,ax (ix.h 1).1 (ix.h 1).2 l.open_.length)]) (x:=l) bV I I (gW ot) (.head _) (ht I))<|bA h fun r q_r h=>cY MF (Gw _ q_r) ⟨(ht I),aZ⟩ I fun l1 c=>zo I (bg (ht I))<|zo I (fe 17 fK I I I)<|bT<|gc bV I (rW (hs' :=[(1,ax (ix.h 0).1 (ix.h 0).2 l.kinds.length),(2,ax (ix.h 1).1 (ix.h 1).2 l.open_.length)]) (kH _ _) ⟨.inr ⟨I,I⟩,.inr ⟨I,I⟩,aZ⟩ I) I (ht I) (EX (ht I)) ?_;refine(show RG _ _ _ _ [bx (rH bK [(1,ax (ix.h 0).1 (ix.h 0).2 l.kinds.length),(2,ax (ix.h 1).1 (ix.h 1).2 l.open_.length)]) 168 b (bO l (ax l1 c r.length)),df cq 3 l1 c r,tip iW 69 (ix.h 0).1 (ix.h 0).2 l.kinds,df cq 3 (ix.h 1).1 (ix.h 1).2 l.open_] _ from ?_);refine ai<|aa<|aj<|zo I (aU iw dl I I)<|zo I (bf bV I I)<|zo I (d5 cR I)<|zo I (bm hI)<|ai<|ak<|aT (k:=62) I fun hN=>bn<|dB<|fS<|fS<|fS ?_;refine aD (q5 (Z:=fun ls i ok=>(l.n.Keys.drop i=ls)∧ec l r ls i ok=some R) (Of:=fun _ i ok=>[bx (rH bK [(1,ax (ix.h 0).1 (ix.h 0).2 l.kinds.length),(2,ax (ix.h 1).1 (ix.h 1).2 l.open_.length)]) 168 b (bO l (ax l1 c r.length)),tip iW 69 (ix.h 0).1 (ix.h 0).2 l.kinds,df cq 3 (ix.h 1).1 (ix.h 1).2 l.open_,df cq 3 l1 c r]) (Gf:=fun _ i ok=>[(0,tV (aL b 0)),(3,ce aJ l.n),(4,iB l.n.Keys),(5,fx ok),(62,iK l.n.Keys),(63,iB l.n.Keys),(64,cb (i:Int))]) (fun i ok h=>?_) (fun e1 tl ih i ok h=>?_) l.n.Keys 0 ((((e.Op==(9:Int))&&(decide ((l.n.Keys.length:Int)≤(3:Int))))&&(decide ((l.n.Aggs.length:Int)≤(12:Int))))&&((IntKind.i64.wrap ((l.n.Keys.length:Int)+(l.n.Aggs.length:Int)))==(l.a_.length:Int))) ⟨I,h⟩) (aR I)
  ·obtain⟨hx,h⟩:=h
   refine aq<|aj<|zo I (ek I I)<|ai<|aa<|bu (ht I) (de hx)<|bc ?_;refine M (M (aC ?_));refine af<|aa<|aj<|zo rfl (aU fM cz rfl rfl)<|zo rfl (bf nd rfl rfl)<|zo rfl (d5 jR rfl)<|zo rfl (bm hI)<|ai<|ak<|aT (k:=87) I fun hN1=>bn ?_;refine aD (yO (Z:=fun ls1 i1 ok1 ob l2 c1 l3 c2 l4 c3=>(l.n.Aggs.drop i1=ls1)∧bY l ls1 i1 ok1 ob=some R) (Of:=fun _ i1 ok1 ob l2 c1 l3 c2 l4 c3=>[bx (rH bK [(1,ax l2 c1 ob.kinds.length),(2,ax l3 c2 ob.open_.length)]) 168 b (bO ob (ax l4 c3 ob.result.length)),tip iW 69 l2 c1 ob.kinds,df cq 3 l3 c2 ob.open_,df cq 3 l4 c3 ob.result]) (Gf:=fun _ i1 ok1 ob l2 c1 l3 c2 l4 c3=>[(0,tV (aL b 0)),(4,iB l.n.Keys),(5,fx ok1),(87,dM (eQ) l.n.Aggs),(88,iB l.n.Aggs),(89,cb (i1:Int))]) (fun i1 ok1 ob l2 c1 l3 c2 l4 c3 h=>?_) (fun e2 tl1 ih1 i1 ok1 ob l2 c1 l3 c2 l4 c3 h=>?_) l.n.Aggs 0 ok ({l with result:=r}:al) (ix.h 0).1 (ix.h 0).2 (ix.h 1).1 (ix.h 1).2 l1 c ⟨I,h⟩) (aR I)
   ·obtain⟨hx1,h⟩:=h
    refine aq<|aj<|zo I (ek I I)<|ai<|aa<|bu (ht I) (de hx1)<|bc ?_;refine M (M (aC ?_));refine af<|aj<|av rfl<|aS rfl<|ai<|ah<|bX<|ea<|aV<|uM (r' :=rH bo [(1,ax l2 c1 ob.kinds.length),(2,ax l3 c2 ob.open_.length)]) (x' :=ob) (fun _ _ _ ho h=>O6 h (fun h=>ig (oR ho (.head _)) h))<|aV<|aX<|bl<|bl<|bl ?_;cases so h;exact ee I (wT [(l2,c1),(l3,c2)]) I I (fun _ _ h=>h)
   ·obtain⟨hx1,h⟩:=h
    refine aq<|aj<|zo I (ek I I)<|ai<|aa<|bt (ht I) (cX hx1)<|dk<|aa<|ak<|aj<|av I<|zo I (gI jR fE I I I (cS hx1))<|zo I (bf fE I I)<|bJ (r:=eQ) (x:=Co) fE (fun _=>s5 _) I fun b2=>aS I<|aQ fE I aY I (ht I) (ht I)<|bE 9 I<|ai<|aa ?_;refine ae<|av I<|zo I (bg (ht I))<|zo I (fe 15 iT I I I)<|zo I (br (r:=rH bK [(1,ax l2 c1 ob.kinds.length),(2,ax l3 c2 ob.open_.length)]) (x:=bO ob (ax l4 c3 ob.result.length)) bV I I (gW jP) (.head _) (ht I))<|av I<|av I<|zo I (dI (ht I) (ht I))<|bA h fun e3 q_e3 h=>zo I (gI cR bp I I I q_e3)<|zo I (bf bp I I)<|aS I<|ai<|aj<|av I<|av I<|aO I I (fun hg=>aU md kf I I)<|aO I I (fun hg=>cK fd I di I (aA I hg))<|aO I I (fun hg=>am lN I I (aA I hg))<|aO I I (fun hg=>bw jh (aA I hg))<|aO I I (fun hg=>bz (aA I hg) hI)<|zo I (fV I I) ?_;refine aS I<|ai<|aj<|zo I (aU ie ga I I)<|zo I (bf bp I I)<|ai<|ak ?_;refine dj (Z:=fun x=>fj l (bY l tl1) i1 e2 ok1 ob e3 x=some R) (Of:=fun x=>[bx (rH bK [(1,ax l2 c1 ob.kinds.length),(2,ax l3 c2 ob.open_.length)]) 168 b (bO ob (ax l4 c3 ob.result.length)),tip iW 69 l2 c1 ob.kinds,df cq 3 l3 c2 ob.open_,df cq 3 l4 c3 ob.result]) (Gf:=fun x=>[(0,tV (aL b 0)),(4,iB l.n.Keys),(5,fx (ok1&&((e2.Arg.Nodes.length:Int)==(0:Int)))),(8,cb (i1:Int)),(10,cb e3),(87,dM (eQ) l.n.Aggs),(88,iB l.n.Aggs),(89,cb (i1:Int)),(112,cb e2.Tag),(113,fx x)]) (fun x h=>?_) (fun K=>?_)
    ·skip
     refine bR h I (fun h=>?_) (fun h=>?_)
     ·refine ae<|av I<|av I<|aO I I (fun hg=>cw I)<|aO I I (fun hg=>bz (aA I hg) hI)<|zo I (fV I I)<|aS I<|ay<|ac<|ac<|af<|ae<|zo rfl (jL (cy hx1 hN1) rfl)<|av rfl<|ay ?_;exact aM (aD (ih1 (i1+1) ((ok1&&((e2.Arg.Nodes.length:Int)==(0:Int)))&&(e3==(2:Int))) ob l2 c1 l3 c2 l4 c3 ⟨cx hx1,h⟩) (aR I))
     ·refine aj<|zo I (d6 I)<|aS I<|ai<|bR h I (fun h=>?_) (fun h=>?_)
      ·refine aj<|av I<|av I<|aO I I (fun hg=>cw I)<|aO I I (fun hg=>bz (aA I hg) hI)<|zo I (fV I I)<|aS I<|ai<|ae<|av I<|zo I (bg (ht I))<|zo I (fe 17 fK I I I)<|zo I (mP bV (gW kR) (.head _) I (ht I))<|av I<|av I<|zo I (dI (ht I) (ht I))<|bA h fun e4 q_e4 h=>zo I (eh cR bp (.tail _ (.tail _ (.tail _ (.head _)))) (ht I) (ht I) q_e4)<|ju<|bA h fun st q_st h=>wJ bp I aY I q_e4 (so q_st) (ht I) hI<|pn (sE (so q_st)) 131 I ?_;refine GN (O' :=[df cq 3 l4 c3 st,bx (rH bK [(1,ax l2 c1 ob.kinds.length),(2,ax l3 c2 ob.open_.length)]) 168 b (bO ob (ax l4 c3 st.length)),tip iW 69 l2 c1 ob.kinds,df cq 3 l3 c2 ob.open_]) (by rw [sE (so q_st)])<|ay<|ac<|ac<|af<|ae<|zo rfl (jL (cy hx1 hN1) rfl)<|av rfl<|ay<|bX<|bX<|bX ?_;exact aM (aD (ih1 (i1+1) ((ok1&&((e2.Arg.Nodes.length:Int)==(0:Int)))&&(e3==(4:Int))) ({ob with result:=st}:al) l2 c1 l3 c2 l4 c3 ⟨cx hx1,h⟩) (aR I))
      ·refine dj (Z:=fun x1=>gK (bY l tl1) i1 e2 ok1 ob e3 x1=some R) (Of:=fun x1=>[bx (rH bK [(1,ax l2 c1 ob.kinds.length),(2,ax l3 c2 ob.open_.length)]) 168 b (bO ob (ax l4 c3 ob.result.length)),tip iW 69 l2 c1 ob.kinds,df cq 3 l3 c2 ob.open_,df cq 3 l4 c3 ob.result]) (Gf:=fun x1=>[(0,tV (aL b 0)),(4,iB l.n.Keys),(5,fx (ok1&&((e2.Arg.Nodes.length:Int)==(0:Int)))),(10,cb e3),(87,dM (eQ) l.n.Aggs),(88,iB l.n.Aggs),(89,cb (i1:Int)),(136,fx x1)]) (fun x1 h=>?_) (fun K1=>?_)
       ·skip
        refine bR h I (fun h=>?_) (fun h=>?_)
        ·refine ae<|av I<|av I<|aO I I (fun hg=>cw I)<|aO I I (fun hg=>bM (aA I hg) hI)<|zo I (fV I I)<|aS I<|ay<|ac<|ac<|af<|ae<|zo rfl (jL (cy hx1 hN1) rfl)<|av rfl<|ay ?_;exact aM (aD (ih1 (i1+1) ((ok1&&((e2.Arg.Nodes.length:Int)==(0:Int)))&&(e3 !=(4:Int))) ob l2 c1 l3 c2 l4 c3 ⟨cx hx1,h⟩) (aR I))
        ·refine ae<|zo I (dd)<|ay<|ac<|ac<|af<|ae<|zo rfl (jL (cy hx1 hN1) rfl)<|av rfl<|ay ?_;exact aM (aD (ih1 (i1+1) false ob l2 c1 l3 c2 l4 c3 ⟨cx hx1,h⟩) (aR I))
       ·skip
        refine aj<|zo I (d6 I)<|aS I<|ai<|bR h I (fun h=>?_) (fun h=>?_)
        ·refine aP ?_;exact bD (K1 (e2.Tag==(4:Int)) h) (aR I)
        ·refine ae<|zo I (d6 I)<|aS I<|ay ?_;exact bD (K1 (e2.Tag==(5:Int)) h) (aR I)
    ·skip
     refine aj<|zo I (d6 I)<|aS I<|ai<|bR h I (fun h=>?_) (fun h=>?_)
     ·refine aP ?_;exact bD (K (e2.Tag==(1:Int)) h) (aR I)
     ·refine ae<|zo I (d6 I)<|aS I<|ay ?_;exact bD (K (e2.Tag==(2:Int)) h) (aR I)
  ·obtain⟨hx,h⟩:=h
   refine aq<|aj<|zo I (ek I I)<|ai<|aa<|bt (ht I) (cX hx)<|dk<|aa<|ak<|aj<|av I<|zo I (gI cR bp I I I (cS hx))<|zo I (bf bp I I)<|aS I<|aS I<|ai<|ae<|av I<|av I ?_;refine aO I I (fun hg=>cw I)<|aO I I (fun hg=>cw I)<|aO I I (fun hg=>bz (aA I hg) (aA I hg))<|zo I (fV I I)<|av I<|bA h fun t q_t h=>aO I I (fun hg=>cw I)<|aO I I (fun hg=>bg (aA I hg))<|aO I I (fun hg=>bU (n:=15) iT I (aA I hg) I)<|aO I I (fun hg=>br (r:=rH bK [(1,ax (ix.h 0).1 (ix.h 0).2 l.kinds.length),(2,ax (ix.h 1).1 (ix.h 1).2 l.open_.length)]) (x:=bO l (ax l1 c r.length)) bV I I (gW jP) (.head _) (aA I hg))<|aO I I (fun hg=>cw I) ?_
   obtain⟨e5,h1t,h0t⟩:=og q_t
   have q_e5g:=fun hb=>(h1t hb).1
   refine aO I I (fun hg=>eT cR bp I (aA I hg) (aA I hg) (q_e5g hg))<|aO I I (fun hg=>am bp I I (aA I hg))<|aO I I (fun hg=>bM (aA I hg) hI)<|zo I (bN (ht I) (fun hb=>(aA I hb)) (fun hb=>(h1t hb).2) h0t)<|aS I<|ay<|ac<|af<|ae<|zo rfl (jL (cy hx hN) rfl)<|av rfl<|ay ?_;exact aM (aD (ih (i+1) t ⟨cx hx,h⟩) (aR I))

theorem Rq(b:Nat)(ix:OI)(l:al){R:Bool×al}(h:hU l=some R):dK ba 170 [tV (aL b 0)] (eD b l ix) (fun _:OI=>fx R.1) (fun j=>eD b R.2 j):=by
 refine dK.of Tryz.func170 I I I fun w0 S0=>?_;refine(show CG _ _ _ [bx (rH bo [(1,ax (ix.h 0).1 (ix.h 0).2 l.kinds.length),(2,ax (ix.h 1).1 (ix.h 1).2 l.open_.length)]) 168 b l,tip iW 69 (ix.h 0).1 (ix.h 0).2 l.kinds,df cq 3 (ix.h 1).1 (ix.h 1).2 l.open_] _ from ?_);refine aj<|zo I (dd)<|ai<|aj<|av I<|zo I (bg (ht I))<|zo I (fe 17 fK I I I)<|cd false cq 3<|bT<|gc bV I (rW (hs' :=[(1,ax (ix.h 0).1 (ix.h 0).2 l.kinds.length),(2,ax (ix.h 1).1 (ix.h 1).2 l.open_.length)]) (kH _ _) ⟨.inr ⟨I,I⟩,.inr ⟨I,I⟩,aZ⟩ I) I (ht I) (EX (show aK _ _ _ MW from sf)) ?_;refine(show RG _ _ _ _ [bx (rH bK [(1,ax (ix.h 0).1 (ix.h 0).2 l.kinds.length),(2,ax (ix.h 1).1 (ix.h 1).2 l.open_.length)]) 168 b (bO l (ax none 0 (sr.length))),df cq 3 none 0 sr,tip iW 69 (ix.h 0).1 (ix.h 0).2 l.kinds,df cq 3 (ix.h 1).1 (ix.h 1).2 l.open_] _ from ?_);refine ai<|aa<|aj<|av I<|zo I (bg (ht I))<|zo I (fe 3 gH I I I)<|zo I (fe 12 m2 I I I)<|zo I (br (r:=rH bK [(1,ax (ix.h 0).1 (ix.h 0).2 l.kinds.length),(2,ax (ix.h 1).1 (ix.h 1).2 l.open_.length)]) (x:=bO l (ax none 0 (sr.length))) u4 I I (gW (gD vV gq)) (.head _) (ht I))<|zo I (d5 pr I)<|zo I (bm hI)<|ai<|ak<|aT (k:=14) I fun hN=>bn<|dB<|fS<|fS<|fS ?_;refine aD (tW (Z:=fun ls i ob l1 c l2 c1 l3 c2=>(l.n.Items.drop i=ls)∧ev ls ob=some R) (Of:=fun _ i ob l1 c l2 c1 l3 c2=>[bx (rH bK [(1,ax l1 c ob.kinds.length),(2,ax l2 c1 ob.open_.length)]) 168 b (bO ob (ax l3 c2 ob.result.length)),tip iW 69 l1 c ob.kinds,df cq 3 l2 c1 ob.open_,df cq 3 l3 c2 ob.result]) (Gf:=fun _ i ob l1 c l2 c1 l3 c2=>[(0,tV (aL b 0)),(14,dM (bL) l.n.Items),(15,iB l.n.Items),(16,cb (i:Int))]) (fun i ob l1 c l2 c1 l3 c2 h=>?_) (fun e tl ih i ob l1 c l2 c1 l3 c2 h=>?_) l.n.Items 0 ({l with result:=sr}:al) (ix.h 0).1 (ix.h 0).2 (ix.h 1).1 (ix.h 1).2 none 0 ⟨I,h⟩) (aR I)
 ·obtain⟨hx,h⟩:=h
  refine aq<|aj<|zo I (ek I I)<|ai<|aa<|bu (ht I) (de hx)<|bc ?_;refine M (M (aC ?_));refine af<|aj<|av rfl<|zo rfl (bg (ht rfl))<|zo rfl (fe 17 fK rfl rfl rfl)<|zo rfl (mP bV (gW kR) (.head _) rfl (ht rfl))<|zo rfl (hY cR (.tail _ (.tail _ (.tail _ (.head _)))) (ht rfl))<|zo rfl (cH (ht rfl) hI)<|aS rfl<|ai<|ah<|bX<|ea<|bS 45 rfl<|aV<|uM (r' :=rH bo [(1,ax l1 c ob.kinds.length),(2,ax l2 c1 ob.open_.length)]) (x' :=ob) (fun _ _ _ ho h=>O6 h (fun h=>ig (oR ho (.head _)) h))<|aV<|aX<|bl<|bl<|bl ?_;cases so h;exact ee I (wT [(l1,c),(l2,c1)]) I I (fun _ _ h=>h)
 ·obtain⟨hx,h⟩:=h
  refine aq<|aj<|zo I (ek I I)<|ai<|aa<|bt (ht I) (cX hx)<|dk<|aa<|ak<|aj<|zo I (gI pr fv I I I (cS hx))<|zo I (bf fv I I)<|bJ (r:=bL) (x:=u0) fv (fun _=>qx _) I fun b1=>aQ fv I aY I (ht I) (ht I)<|bE 4 I<|ai<|aa<|bA h fun r q_r h=>?_
  refine fq (ts:=[_,_,_,_,_,_,_,_,_,_,_]) mixed I I
   ⟨im 4 I I I (bf fv I I),
   ⟨im 0 I I I (cw I),
   ⟨dQ 22 1 I I I (bg (ht I)),
   ⟨dQ 23 2 I I I (fe 15 iT I I I),
   ⟨dQ 24 3 I I I (br (r:=rH bK [(1,ax l1 c ob.kinds.length),(2,ax l2 c1 ob.open_.length)]) (x:=bO ob (ax l3 c2 ob.result.length)) bV I I (gW jP) (.head _) (ht I)),
   ⟨eF 21 0 25 4 I I I I (aG Jd (AE _ _ q_r) ⟨(ht I),(ht I),aZ⟩),
   ⟨dQ 26 5 I I I (cw I),
   ⟨dQ 20 6 I I I (nj I I),
   ⟨dQ 20 6 I I I (nj I I),
   ⟨dQ 27 7 I I I (Cd I),
   ⟨dQ 28 8 I I I (Cd I),
   aZ⟩⟩⟩⟩⟩⟩⟩⟩⟩⟩⟩ ?_
  refine af<|aa<|aj<|av rfl<|zo rfl (Aq rfl)<|ai<|bR h rfl (fun h=>?_) (fun h=>?_)
  ·refine aj<|zo I (dd)<|ai<|ah ?_;refine J (au (J (J (au (J ?_)))));refine bX<|ea<|aV<|uM (r' :=rH bo [(1,ax l1 c ob.kinds.length),(2,ax l2 c1 ob.open_.length)]) (x' :=ob) (fun _ _ _ ho h=>O6 h (fun h=>ig (oR ho (.head _)) h))<|aV<|aX<|bl<|bl<|bl ?_;cases so h;exact ee I (wT [(l1,c),(l2,c1)]) I I (fun _ _ h=>h)
  ·refine dk<|ae<|av I<|av I<|zo I (bg (ht I))<|zo I (fe 17 fK I I I)<|zo I (mP bV (gW kR) (.head _) I (ht I))<|av I<|zo I (aH (r:=cq) (ys:=[r.1]) (xs:=[.tmp 36]) cR bp I I I I I ⟨(ht I),aZ⟩)<|ju<|bA h fun l4 q_l4 h=>be bp I I I I cR I I (ht I) (ht I) q_l4 fun l5 c3=>zo I (bg (ht I))<|zo I (fe 17 fK I I I)<|bT<|gc bV I (rW (hs' :=[(1,ax l1 c ob.kinds.length),(2,ax l2 c1 ob.open_.length)]) (il _ _ _) ⟨.inr ⟨I,I⟩,.inr ⟨I,I⟩,aZ⟩ I) I (ht I) (EX (ht I)) ?_;refine(show RG _ _ _ _ [bx (rH bK [(1,ax l1 c ob.kinds.length),(2,ax l2 c1 ob.open_.length)]) 168 b (bO ob (ax l5 c3 l4.length)),df cq 3 l5 c3 l4,tip iW 69 l1 c ob.kinds,df cq 3 l2 c1 ob.open_] _ from ?_);refine ay<|ac<|af<|ae<|zo rfl (jL (cy hx hN) rfl)<|av rfl<|ay<|aV<|bX<|bX<|bX ?_;exact aM (aD (ih (i+1) ({ob with result:=l4}:al) l1 c l2 c1 l5 c3 ⟨cx hx,h⟩) (aR I))

theorem Ro(b:Nat)(ix:OI)(l:al){R:Bool×al}(h:ky l=some R):dK ba 171 [tV (aL b 0)] (eD b l ix) (fun _:OI=>fx R.1) (fun j=>eD b R.2 j):=by
 refine dK.of Tryz.func171 I I I fun w0 S0=>?_;refine(show CG _ _ _ [bx (rH bo [(1,ax (ix.h 0).1 (ix.h 0).2 l.kinds.length),(2,ax (ix.h 1).1 (ix.h 1).2 l.open_.length)]) 168 b l,tip iW 69 (ix.h 0).1 (ix.h 0).2 l.kinds,df cq 3 (ix.h 1).1 (ix.h 1).2 l.open_] _ from ?_);refine aj<|zo I (dd)<|ai<|aj<|av I<|av I<|zo I (bg (ht I))<|zo I (fe 15 iT I I I)<|zo I (br (r:=rH bo [(1,ax (ix.h 0).1 (ix.h 0).2 l.kinds.length),(2,ax (ix.h 1).1 (ix.h 1).2 l.open_.length)]) (x:=l) bV I I (gW ot) (.head _) (ht I))<|zo I (bg (ht I))<|zo I (fe 17 fK I I I)<|iV (jD bV I (vv (hs' :=[(1,ax (ix.h 0).1 (ix.h 0).2 l.kinds.length),(2,ax (ix.h 1).1 (ix.h 1).2 l.open_.length)]) rJ ⟨.inr ⟨I,I⟩,.inr ⟨I,I⟩,aZ⟩ I) I (ht I) (ht I)) fun i=>?_;refine(show RG _ _ _ _ [bx (rH bo [(1,ax (ix.h 0).1 (ix.h 0).2 l.kinds.length),(2,ax (ix.h 1).1 (ix.h 1).2 l.open_.length)]) 168 b ({l with result:=l.a_}:al),tip iW 69 (ix.h 0).1 (ix.h 0).2 l.kinds,df cq 3 (ix.h 1).1 (ix.h 1).2 l.open_] _ from ?_);refine ai<|aj<|zo I (dd)<|ai<|ah<|bl<|bl<|bl ?_;cases so h;exact ee I ix I I (fun _ _ h=>h)

theorem Rn(b:Nat)(ix:OI)(l:al){R:Bool×al}(h:ip l=some R):dK ba 172 [tV (aL b 0)] (eD b l ix) (fun _:OI=>fx R.1) (fun j=>eD b R.2 j):=by
 refine dK.of Tryz.func172 I I I fun w0 S0=>?_;refine(show CG _ _ _ [bx (rH bo [(1,ax (ix.h 0).1 (ix.h 0).2 l.kinds.length),(2,ax (ix.h 1).1 (ix.h 1).2 l.open_.length)]) 168 b l,tip iW 69 (ix.h 0).1 (ix.h 0).2 l.kinds,df cq 3 (ix.h 1).1 (ix.h 1).2 l.open_] _ from ?_);refine aj<|zo I (dd)<|ai<|aa<|aa ?_
 refine fq (ts:=[_,_,_,_,_,_,_,_,_,_,_]) mixed I I
  ⟨im 0 I I I (cw I),
  ⟨dQ 6 0 I I I (bg (ht I)),
  ⟨dQ 7 1 I I I (fe 15 iT I I I),
  ⟨dQ 8 2 I I I (br (r:=rH bo [(1,ax (ix.h 0).1 (ix.h 0).2 l.kinds.length),(2,ax (ix.h 1).1 (ix.h 1).2 l.open_.length)]) (x:=l) bV I I (gW ot) (.head _) (ht I)),
  ⟨dQ 9 3 I I I (d5 cR I),
  ⟨im 0 I I I (cw I),
  ⟨dQ 11 5 I I I (bg (ht I)),
  ⟨dQ 12 6 I I I (fe 16 yC I I I),
  ⟨dQ 13 7 I I I (br (r:=rH bo [(1,ax (ix.h 0).1 (ix.h 0).2 l.kinds.length),(2,ax (ix.h 1).1 (ix.h 1).2 l.open_.length)]) (x:=l) bV I I (gW Do) (.head _) (ht I)),
  ⟨dQ 14 8 I I I (d5 cR I),
  ⟨eF 10 4 15 9 I I I I (bM (ht I) (ht I)),
  aZ⟩⟩⟩⟩⟩⟩⟩⟩⟩⟩⟩ ?_
 refine af<|bR h rfl (fun h=>?_) (fun h=>?_)
 ·refine aj<|zo I (dd)<|ai<|ah<|J<|bl<|bl<|bl ?_;cases so h;exact ee I ix I I (fun _ _ h=>h)
 ·refine dk<|aj<|av I<|zo I (bg (ht I))<|zo I (fe 17 fK I I I)<|cd false cq 3<|bT<|gc bV I (rW (hs' :=[(1,ax (ix.h 0).1 (ix.h 0).2 l.kinds.length),(2,ax (ix.h 1).1 (ix.h 1).2 l.open_.length)]) (kH _ _) ⟨.inr ⟨I,I⟩,.inr ⟨I,I⟩,aZ⟩ I) I (ht I) (EX (show aK _ _ _ MW from sf)) ?_;refine(show RG _ _ _ _ [bx (rH bK [(1,ax (ix.h 0).1 (ix.h 0).2 l.kinds.length),(2,ax (ix.h 1).1 (ix.h 1).2 l.open_.length)]) 168 b (bO l (ax none 0 (sr.length))),df cq 3 none 0 sr,tip iW 69 (ix.h 0).1 (ix.h 0).2 l.kinds,df cq 3 (ix.h 1).1 (ix.h 1).2 l.open_] _ from ?_);refine ai<|aa<|aj<|av I<|zo I (bg (ht I))<|zo I (fe 15 iT I I I)<|zo I (br (r:=rH bK [(1,ax (ix.h 0).1 (ix.h 0).2 l.kinds.length),(2,ax (ix.h 1).1 (ix.h 1).2 l.open_.length)]) (x:=bO l (ax none 0 (sr.length))) bV I I (gW jP) (.head _) (ht I))<|zo I (d5 cR I)<|zo I (bm hI)<|ai<|ak<|aT (k:=23) I fun hN=>bn<|dB<|fS<|fS<|fS ?_;refine aD (tW (Z:=fun ls i ob l1 c l2 c1 l3 c2=>(l.a_.drop i=ls)∧dx ls i ob=some R) (Of:=fun _ i ob l1 c l2 c1 l3 c2=>[bx (rH bK [(1,ax l1 c ob.kinds.length),(2,ax l2 c1 ob.open_.length)]) 168 b (bO ob (ax l3 c2 ob.result.length)),tip iW 69 l1 c ob.kinds,df cq 3 l2 c1 ob.open_,df cq 3 l3 c2 ob.result]) (Gf:=fun _ i ob l1 c l2 c1 l3 c2=>[(0,tV (aL b 0)),(23,iK l.a_),(24,iB l.a_),(25,cb (i:Int))]) (fun i ob l1 c l2 c1 l3 c2 h=>?_) (fun e tl ih i ob l1 c l2 c1 l3 c2 h=>?_) l.a_ 0 ({l with result:=sr}:al) (ix.h 0).1 (ix.h 0).2 (ix.h 1).1 (ix.h 1).2 none 0 ⟨I,h⟩) (aR I)
  ·obtain⟨hx,h⟩:=h
   refine aq<|aj<|zo I (ek I I)<|ai<|aa<|bu (ht I) (de hx)<|bc ?_;refine M (M (aC ?_));refine af<|aj<|zo rfl (dd)<|ai<|ah<|bX<|ea<|aV<|uM (r' :=rH bo [(1,ax l1 c ob.kinds.length),(2,ax l2 c1 ob.open_.length)]) (x' :=ob) (fun _ _ _ ho h=>O6 h (fun h=>ig (oR ho (.head _)) h))<|aV<|aX<|bl<|bl<|bl ?_;cases so h;exact ee I (wT [(l1,c),(l2,c1)]) I I (fun _ _ h=>h)
  ·obtain⟨hx,h⟩:=h
   refine aq<|aj<|zo I (ek I I)<|ai<|aa<|bt (ht I) (cX hx)<|dk<|aa<|ak<|aj<|av I<|zo I (gI cR bp I I I (cS hx))<|zo I (bf bp I I)<|aS I<|aS I<|ai<|aj<|av I ?_;refine zo I (bg (ht I))<|zo I (fe 16 yC I I I)<|zo I (br (r:=rH bK [(1,ax l1 c ob.kinds.length),(2,ax l2 c1 ob.open_.length)]) (x:=bO ob (ax l3 c2 ob.result.length)) bV I I (gW Gp) (.head _) (ht I))<|av I<|bA h fun e1 q_e1 h=>zo I (gI cR bp I I I q_e1)<|zo I (bf bp I I)<|aS I<|ai ?_;refine dj (Z:=fun k=>fi (dx tl) i ob e1 k=some R) (Of:=fun k=>[bx (rH bK [(1,ax l1 c ob.kinds.length),(2,ax l2 c1 ob.open_.length)]) 168 b (bO ob (ax l3 c2 ob.result.length)),tip iW 69 l1 c ob.kinds,df cq 3 l2 c1 ob.open_,df cq 3 l3 c2 ob.result]) (Gf:=fun k=>[(0,tV (aL b 0)),(4,cb k),(5,cb e1),(23,iK l.a_),(24,iB l.a_),(25,cb (i:Int))]) (fun k h=>?_) (fun K=>?_)
   ·skip
    refine aa<|aj<|av I<|zo I (Aq I)<|av I<|aO I I (fun hg=>cw I)<|aO I I (fun hg=>cw I)<|aO I I (fun hg=>bM (aA I hg) (aA I hg))<|zo I (fV I I)<|ai<|bR h I (fun h=>?_) (fun h=>?_)
    ·refine aj<|zo I (dd)<|ai<|ah ?_;refine J (au (J (J (au (J ?_)))));refine bX<|ea<|aV<|uM (r' :=rH bo [(1,ax l1 c ob.kinds.length),(2,ax l2 c1 ob.open_.length)]) (x' :=ob) (fun _ _ _ ho h=>O6 h (fun h=>ig (oR ho (.head _)) h))<|aV<|aX<|bl<|bl<|bl ?_;cases so h;exact ee I (wT [(l1,c),(l2,c1)]) I I (fun _ _ h=>h)
    ·refine dk<|ae<|av I<|av I<|zo I (bg (ht I))<|zo I (fe 17 fK I I I)<|zo I (mP bV (gW kR) (.head _) I (ht I))<|av I<|zo I (aH (r:=cq) (ys:=[k]) (xs:=[.tmp 52]) cR bp I I I I I ⟨(ht I),aZ⟩)<|ju<|bA h fun l4 q_l4 h=>be bp I I I I cR I I (ht I) (ht I) q_l4 fun l5 c3=>zo I (bg (ht I))<|zo I (fe 17 fK I I I)<|bT<|gc bV I (rW (hs' :=[(1,ax l1 c ob.kinds.length),(2,ax l2 c1 ob.open_.length)]) (il _ _ _) ⟨.inr ⟨I,I⟩,.inr ⟨I,I⟩,aZ⟩ I) I (ht I) (EX (ht I)) ?_;refine(show RG _ _ _ _ [bx (rH bK [(1,ax l1 c ob.kinds.length),(2,ax l2 c1 ob.open_.length)]) 168 b (bO ob (ax l5 c3 l4.length)),df cq 3 l5 c3 l4,tip iW 69 l1 c ob.kinds,df cq 3 l2 c1 ob.open_] _ from ?_);refine ay<|ac<|af<|ae<|zo rfl (jL (cy hx hN) rfl)<|av rfl<|ay<|aV<|bX<|bX<|bX ?_;exact aM (aD (ih (i+1) ({ob with result:=l4}:al) l1 c l2 c1 l5 c3 ⟨cx hx,h⟩) (aR I))
   ·skip
    refine aj<|av I<|zo I (d6 I)<|ai<|bR h I (fun h=>?_) (fun h=>?_)
    ·refine ae<|av I<|aS I<|ay ?_;exact bD (K e1 h) (aR I)
    ·refine aP ?_;exact bD (K e h) (aR I)

theorem N7(s:(List kq))(f:(kq→Option Bool)){R:Int}(h:g9 s f=some R):bk ba 238 [dM (iY) s,(kG ba K0 o0 (fun(x:kq)=>f x))] (cb R):=by
 refine bk.of Tryz.func238 I I I fun w0 S0=>aj<|zo I (dD)<|ai<|aa<|aj<|av I<|zo I (d5 pR I)<|zo I (bm hI)<|ai<|ak<|aT (k:=6) I fun hN=>bn ?_;refine aD (dv (Z:=fun ls i=>(s.drop i=ls)∧dX f ls i=some R) (Of:=fun _ i=>[]) (Gf:=fun _ i=>[(0,dM (iY) s),(1,(kG ba K0 o0 (fun(x:kq)=>f x))),(7,iB s),(8,cb (i:Int))]) (fun i h=>?_) (fun e tl ih i h=>?_) s 0 ⟨I,h⟩) (aR I)
 ·obtain⟨hx,h⟩:=h
  refine aq<|aj<|zo I (ek I I)<|ai<|aa<|bu (ht I) (de hx)<|bc ?_;refine M (M (aC ?_));refine af<|aj<|zo rfl (dD)<|ai<|ah ?_;cases so h;exact aw I I
 ·obtain⟨hx,h⟩:=h
  refine aq<|aj<|zo I (ek I I)<|ai<|aa<|bt (ht I) (cX hx)<|dk<|aa<|ak<|aj<|av I<|aS I<|ai<|aj<|av I<|av I<|av I<|zo I (gI pR pU I I I (cS hx)) ?_;refine zo I (bf pU I I)<|bA h fun r q_r h=>zo I (kM (args:=K0) (res:=xS) (f:=(fun(x:kq)=>f x)) (x:=((e):kq)) (ht I) q_r ⟨(ht I),aZ⟩)<|ai<|bR h I (fun h=>?_) (fun h=>?_)
  ·refine aj<|av I<|aS I<|ai<|ah ?_;refine au (J (J (au (J ?_))));cases so h;exact aw I I
  ·refine aP<|ac<|af<|ae<|zo rfl (jL (cy hx hN) rfl)<|av rfl<|ay ?_;exact aM (aD (ih (i+1) ⟨cx hx,h⟩) (aR I))

theorem Ol(s:(List kq))(f:(kq→Option Bool)){R:Bool}(h:eZ s f=some R):bk ba 207 [dM (iY) s,(kG ba K0 o0 (fun(x:kq)=>f x))] (fx R):=by
 refine bk.of Tryz.func207 I I I fun w0 S0=>aj<|zo I (dd)<|ai<|aj<|av I<|av I<|bA h fun r q_r h=>zo I (aG Ts (N7 _ _ q_r) ⟨(ht I),(ht I),aZ⟩)<|zo I (dc (ht I) hI)<|aS I<|ai<|ah ?_;cases so h;exact aw I I

end Go.Proofs.YtdohlidddcgfjaaGreat

