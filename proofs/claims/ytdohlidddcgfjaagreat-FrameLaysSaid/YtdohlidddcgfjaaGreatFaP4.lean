/- cT of this claim: P4. -/
import Derived.Test.YtdohlidddcgfjaaGreatFaT
import Derived.Test.YtdohlidddcgfjaaGreatFaP3
set_option linter.all false
namespace Go.Proofs.YtdohlidddcgfjaaGreat
open Go
set_option maxRecDepth 100000

theorem Rv(b:Nat)(ix:OI)(l:al){R:Bool×al}(h:ep l=some R):dK ba 167 [tV (aL b 0)] (eD b l ix) (fun _:OI=>fx R.1) (fun j=>eD b R.2 j):=by
 refine dK.of Tryz.func167 I I I fun w0 S0=>?_;refine(show CG _ _ _ [bx (rH bo [(1,ax (ix.h 0).1 (ix.h 0).2 l.kinds.length),(2,ax (ix.h 1).1 (ix.h 1).2 l.open_.length)]) 168 b l,tip iW 69 (ix.h 0).1 (ix.h 0).2 l.kinds,df cq 3 (ix.h 1).1 (ix.h 1).2 l.open_] _ from ?_);refine aj<|zo I (dd)<|ai<|aj<|av I<|zo I (bg (ht I))<|zo I (fe 3 gH I I I)<|zo I (br (r:=rH bo [(1,ax (ix.h 0).1 (ix.h 0).2 l.kinds.length),(2,ax (ix.h 1).1 (ix.h 1).2 l.open_.length)]) (x:=l) ej I I (gW fD) (.head _) (ht I))<|bJ (r:=aJ) (x:=DK) ej (fun _=>iX _) I fun b1=>aQ ej I aY I (ht I) (ht I)<|bE 3 I<|ai<|aj<|zo I (aU iw dl I I)<|zo I (bf bV I I)<|zo I (d5 cR I)<|zo I (dV (ht I) hI)<|av I<|aO I I (fun hg=>aU fM cz I I) ?_;refine aO I I (fun hg=>am nd I I (aA I hg))<|aO I I (fun hg=>bw jR (aA I hg))<|aO I I (fun hg=>dV (aA I hg) hI)<|zo I (fV I I)<|av I<|aO I I (fun hg=>aU iw dl I I)<|aO I I (fun hg=>am bV I I (aA I hg))<|aO I I (fun hg=>bw cR (aA I hg))<|aO I I (fun hg=>aU fM cz I I)<|aO I I (fun hg=>am nd I I (aA I hg))<|aO I I (fun hg=>bw jR (aA I hg))<|aO I I (fun hg=>dI (aA I hg) (aA I hg))<|aO I I (fun hg=>cH (aA I hg) hI)<|zo I (fV I I)<|aS I<|ai<|aj<|av I<|zo I (bg (ht I))<|zo I (fe 17 fK I I I)<|cd false cq 3<|bT ?_;refine gc bV I (rW (hs' :=[(1,ax (ix.h 0).1 (ix.h 0).2 l.kinds.length),(2,ax (ix.h 1).1 (ix.h 1).2 l.open_.length)]) (kH _ _) ⟨.inr ⟨I,I⟩,.inr ⟨I,I⟩,aZ⟩ I) I (ht I) (EX (show aK _ _ _ MW from sf)) ?_;refine(show RG _ _ _ _ [bx (rH bK [(1,ax (ix.h 0).1 (ix.h 0).2 l.kinds.length),(2,ax (ix.h 1).1 (ix.h 1).2 l.open_.length)]) 168 b (bO l (ax none 0 (sr.length))),df cq 3 none 0 sr,tip iW 69 (ix.h 0).1 (ix.h 0).2 l.kinds,df cq 3 (ix.h 1).1 (ix.h 1).2 l.open_] _ from ?_);refine ai<|aa<|aj<|zo I (aU iw dl I I)<|zo I (bf bV I I)<|zo I (d5 cR I)<|zo I (bm hI)<|ai<|ak<|aT (k:=40) I fun hN=>bn<|dB<|fS<|fS<|fS ?_;refine aD (tW (Z:=fun ls i ob l1 c l2 c1 l3 c2=>(l.n.Keys.drop i=ls)∧dy l ls ob=some R) (Of:=fun _ i ob l1 c l2 c1 l3 c2=>[bx (rH bK [(1,ax l1 c ob.kinds.length),(2,ax l2 c1 ob.open_.length)]) 168 b (bO ob (ax l3 c2 ob.result.length)),tip iW 69 l1 c ob.kinds,df cq 3 l2 c1 ob.open_,df cq 3 l3 c2 ob.result]) (Gf:=fun _ i ob l1 c l2 c1 l3 c2=>[(0,tV (aL b 0)),(3,ce aJ l.n),(4,fx (((decide ((l.n.Keys.length:Int)≤(3:Int)))&&(decide ((l.n.Aggs.length:Int)≤(12:Int))))&&(decide ((0:Int)<(IntKind.i64.wrap ((l.n.Keys.length:Int)+(l.n.Aggs.length:Int))))))),(40,iK l.n.Keys),(41,iB l.n.Keys),(42,cb (i:Int))]) (fun i ob l1 c l2 c1 l3 c2 h=>?_) (fun e tl ih i ob l1 c l2 c1 l3 c2 h=>?_) l.n.Keys 0 ({l with result:=sr}:al) (ix.h 0).1 (ix.h 0).2 (ix.h 1).1 (ix.h 1).2 none 0 ⟨I,h⟩) (aR I)
 ·obtain⟨hx,h⟩:=h
  refine aq<|aj<|zo I (ek I I)<|ai<|aa<|bu (ht I) (de hx)<|bc ?_;refine M (M (aC ?_));refine af<|aa<|aj<|zo rfl (aU fM cz rfl rfl)<|zo rfl (bf nd rfl rfl)<|zo rfl (d5 jR rfl)<|zo rfl (bm hI)<|ai<|ak<|aT (k:=75) I fun hN1=>bn ?_;refine aD (yO (Z:=fun ls1 i1 ok ob1 l4 c3 l5 c4 l6 c5=>(l.n.Aggs.drop i1=ls1)∧cr ls1 ok ob1=some R) (Of:=fun _ i1 ok ob1 l4 c3 l5 c4 l6 c5=>[bx (rH bK [(1,ax l4 c3 ob1.kinds.length),(2,ax l5 c4 ob1.open_.length)]) 168 b (bO ob1 (ax l6 c5 ob1.result.length)),tip iW 69 l4 c3 ob1.kinds,df cq 3 l5 c4 ob1.open_,df cq 3 l6 c5 ob1.result]) (Gf:=fun _ i1 ok ob1 l4 c3 l5 c4 l6 c5=>[(0,tV (aL b 0)),(4,fx ok),(75,dM (eQ) l.n.Aggs),(76,iB l.n.Aggs),(77,cb (i1:Int))]) (fun i1 ok ob1 l4 c3 l5 c4 l6 c5 h=>?_) (fun e1 tl1 ih1 i1 ok ob1 l4 c3 l5 c4 l6 c5 h=>?_) l.n.Aggs 0 (((decide ((l.n.Keys.length:Int)≤(3:Int)))&&(decide ((l.n.Aggs.length:Int)≤(12:Int))))&&(decide ((0:Int)<(IntKind.i64.wrap ((l.n.Keys.length:Int)+(l.n.Aggs.length:Int)))))) ob l1 c l2 c1 l3 c2 ⟨I,h⟩) (aR I)
  ·obtain⟨hx1,h⟩:=h
   refine aq<|aj<|zo I (ek I I)<|ai<|aa<|bu (ht I) (de hx1)<|bc ?_;refine M (M (aC ?_));refine af<|aj<|av rfl<|aS rfl<|ai<|ah<|bX<|ea<|aV<|uM (r' :=rH bo [(1,ax l4 c3 ob1.kinds.length),(2,ax l5 c4 ob1.open_.length)]) (x' :=ob1) (fun _ _ _ ho h=>O6 h (fun h=>ig (oR ho (.head _)) h))<|aV<|aX<|bl<|bl<|bl ?_;cases so h;exact ee I (wT [(l4,c3),(l5,c4)]) I I (fun _ _ h=>h)
  ·obtain⟨hx1,h⟩:=h
   refine aq<|aj<|zo I (ek I I)<|ai<|aa<|bt (ht I) (cX hx1)<|dk<|aa<|ak<|aj<|zo I (gI jR fE I I I (cS hx1))<|zo I (bf fE I I)<|bJ (r:=eQ) (x:=Co) fE (fun _=>s5 _) I fun b2=>aQ fE I aY I (ht I) (ht I)<|bE 8 I<|ai<|aj<|zo I (dD) ?_;refine ai ?_;refine zB (Z:=fun ok1 k=>eG (cr tl1) ob1 ok1 k=some R) (Of:=fun ok1 k=>[bx (rH bK [(1,ax l4 c3 ob1.kinds.length),(2,ax l5 c4 ob1.open_.length)]) 168 b (bO ob1 (ax l6 c5 ob1.result.length)),tip iW 69 l4 c3 ob1.kinds,df cq 3 l5 c4 ob1.open_,df cq 3 l6 c5 ob1.result]) (Gf:=fun ok1 k=>[(0,tV (aL b 0)),(4,fx ok1),(9,cb k),(75,dM (eQ) l.n.Aggs),(76,iB l.n.Aggs),(77,cb (i1:Int))]) (fun ok1 k h=>?_) (fun K=>?_)
   ·skip
    refine ae<|av I<|av I<|zo I (bg (ht I))<|zo I (fe 17 fK I I I)<|zo I (mP bV (gW kR) (.head _) I (ht I))<|av I<|zo I (aH (r:=cq) (ys:=[k]) (xs:=[.tmp 139]) cR bp I I I I I ⟨(ht I),aZ⟩)<|ju<|bA h fun l7 q_l7 h=>be bp I I I I cR I I (ht I) (ht I) q_l7 fun l8 c6=>zo I (bg (ht I))<|zo I (fe 17 fK I I I)<|bT<|gc bV I (rW (hs' :=[(1,ax l4 c3 ob1.kinds.length),(2,ax l5 c4 ob1.open_.length)]) (il _ _ _) ⟨.inr ⟨I,I⟩,.inr ⟨I,I⟩,aZ⟩ I) I (ht I) (EX (ht I)) ?_;refine(show RG _ _ _ _ [bx (rH bK [(1,ax l4 c3 ob1.kinds.length),(2,ax l5 c4 ob1.open_.length)]) 168 b (bO ob1 (ax l8 c6 l7.length)),df cq 3 l8 c6 l7,tip iW 69 l4 c3 ob1.kinds,df cq 3 l5 c4 ob1.open_] _ from ?_);refine ay<|ac<|af<|ae<|zo rfl (jL (cy hx1 hN1) rfl)<|av rfl<|ay<|aV<|bX<|bX<|bX ?_;exact aM (aD (ih1 (i1+1) ok1 ({ob1 with result:=l7}:al) l4 c3 l5 c4 l8 c6 ⟨cx hx1,h⟩) (aR I))
   ·skip
    refine aj<|zo I (aU ie ga I I)<|zo I (bf bp I I)<|zo I (d6 I)<|ai<|bR h I (fun h=>?_) (fun h=>?_)
    ·refine ae<|av I<|av I<|aO I I (fun hg=>aU md kf I I)<|aO I I (fun hg=>cK fd I di I (aA I hg))<|aO I I (fun hg=>am lN I I (aA I hg))<|aO I I (fun hg=>bw jh (aA I hg))<|aO I I (fun hg=>bz (aA I hg) hI)<|zo I (fV I I)<|aS I<|ay ?_;exact bD (K (ok&&((e1.Arg.Nodes.length:Int)==(0:Int))) (2:Int) h) (aR I)
    ·refine aa<|bA h fun r q_r h=>?_
     refine fq (ts:=[_,_,_,_,_,_,_,_,_,_,_,_]) mixed I I
      ⟨im 8 I I I (aU md kf I I),
      ⟨dQ 93 0 I I I (bf fv I I),
      ⟨im 0 I I I (cw I),
      ⟨dQ 95 2 I I I (bg (ht I)),
      ⟨dQ 96 3 I I I (fe 15 iT I I I),
      ⟨dQ 97 4 I I I (br (r:=rH bK [(1,ax l4 c3 ob1.kinds.length),(2,ax l5 c4 ob1.open_.length)]) (x:=bO ob1 (ax l6 c5 ob1.result.length)) bV I I (gW jP) (.head _) (ht I)),
      ⟨eF 94 1 98 5 I I I I (aG Jd (AE _ _ q_r) ⟨(ht I),(ht I),aZ⟩),
      ⟨dQ 99 6 I I I (cw I),
      ⟨dQ 92 7 I I I (nj I I),
      ⟨dQ 92 7 I I I (nj I I),
      ⟨dQ 100 8 I I I (Cd I),
      ⟨dQ 101 9 I I I (Cd I),
      aZ⟩⟩⟩⟩⟩⟩⟩⟩⟩⟩⟩⟩ ?_
     refine af<|aj<|av rfl<|av rfl<|aO rfl rfl (fun hg=>cw I)<|aO I I (fun hg=>bz (aA I hg) hI)<|zo I (fV I I)<|av I<|aO I I (fun hg=>aU ie ga I I)<|aO I I (fun hg=>am bp I I (aA I hg))<|aO I I (fun hg=>cH (aA I hg) hI)<|zo I (fV I I)<|av I<|aO I I (fun hg=>aU ie ga I I)<|aO I I (fun hg=>am bp I I (aA I hg))<|aO I I (fun hg=>dV (aA I hg) hI)<|zo I (fV I I)<|aS I<|ai<|aj<|zo I (aU ie ga I I) ?_;refine zo I (bf bp I I)<|ai<|ak<|aj<|zo I (d6 I)<|aS I<|ai<|bR h I (fun h=>?_) (fun h=>?_)
     ·refine ae<|av I<|av I<|aO I I (fun hg=>cw I)<|aO I I (fun hg=>bz (aA I hg) hI)<|aO I I (fun hg=>bm (aA I hg))<|ck I I I I (fun hg=>cw I)<|ck I I I I (fun hg=>bz (aA I hg) hI)<|aO I I (fun hg=>jn (aA I hg) (fun hb=>(aA I (pT hg (oH hb)))))<|zo I (fV I I)<|aS I<|ay<|ac ?_;exact bD (K ((((ok&&(r.2==(0:Int)))&&(decide ((1:Int)<e1.Tag)))&&(decide (e1.Tag≤(5:Int))))&&((r.1==(2:Int))||(r.1==(0:Int)))) (2:Int) h) (aR I)
     ·refine dj (Z:=fun x=>gJ (cr tl1) e1 ok ob1 r x=some R) (Of:=fun x=>[bx (rH bK [(1,ax l4 c3 ob1.kinds.length),(2,ax l5 c4 ob1.open_.length)]) 168 b (bO ob1 (ax l6 c5 ob1.result.length)),tip iW 69 l4 c3 ob1.kinds,df cq 3 l5 c4 ob1.open_,df cq 3 l6 c5 ob1.result]) (Gf:=fun x=>[(0,tV (aL b 0)),(4,fx (((ok&&(r.2==(0:Int)))&&(decide ((1:Int)<e1.Tag)))&&(decide (e1.Tag≤(5:Int))))),(9,cb 2),(10,cb r.1),(75,dM (eQ) l.n.Aggs),(76,iB l.n.Aggs),(77,cb (i1:Int)),(130,fx x)]) (fun x h=>?_) (fun K1=>?_)
      ·skip
       refine bR h I (fun h=>?_) (fun h=>?_)
       ·refine ae<|av I<|aS I<|ay<|ac ?_;exact bD (K (((ok&&(r.2==(0:Int)))&&(decide ((1:Int)<e1.Tag)))&&(decide (e1.Tag≤(5:Int)))) r.1 h) (aR I)
       ·refine aP<|ac ?_;exact bD (K (((ok&&(r.2==(0:Int)))&&(decide ((1:Int)<e1.Tag)))&&(decide (e1.Tag≤(5:Int)))) (2:Int) h) (aR I)
      ·skip
       refine aj<|zo I (d6 I)<|aS I<|ai<|bR h I (fun h=>?_) (fun h=>?_)
       ·refine aP ?_;exact bD (K1 (e1.Tag==(4:Int)) h) (aR I)
       ·refine ae<|zo I (d6 I)<|aS I<|ay ?_;exact bD (K1 (e1.Tag==(5:Int)) h) (aR I)
 ·obtain⟨hx,h⟩:=h
  refine aq<|aj<|zo I (ek I I)<|ai<|aa<|bt (ht I) (cX hx)<|dk<|aa<|ak<|aj<|zo I (gI cR bp I I I (cS hx))<|zo I (bf bp I I)<|aS I<|ai<|aa<|aj<|av I<|zo I (d8 (ht I) hI) ?_;refine av I<|bI I I (fun hg=>cw I)<|bI I I (fun hg=>cw I)<|bI I I (fun hg=>bg (aA I hg))<|bI I I (fun hg=>bU (n:=15) iT I (aA I hg) I)<|bI I I (fun hg=>br (r:=rH bK [(1,ax l1 c ob.kinds.length),(2,ax l2 c1 ob.open_.length)]) (x:=bO ob (ax l3 c2 ob.result.length)) bV I I (gW jP) (.head _) (aA I hg))<|bI I I (fun hg=>bw cR (aA I hg))<|bI I I (fun hg=>dc (aA I hg) (aA I hg))<|zo I (kh I I)<|ai<|bR h I (fun h=>?_) (fun h=>?_)
  ·refine aj<|zo I (dd)<|ai<|ah ?_;refine J (au (J (J (au (J ?_)))));refine bX<|ea<|aV<|uM (r' :=rH bo [(1,ax l1 c ob.kinds.length),(2,ax l2 c1 ob.open_.length)]) (x' :=ob) (fun _ _ _ ho h=>O6 h (fun h=>ig (oR ho (.head _)) h))<|aV<|aX<|bl<|bl<|bl ?_;cases so h;exact ee I (wT [(l1,c),(l2,c1)]) I I (fun _ _ h=>h)
  ·refine dk<|bA h fun e2 q_e2 h=>bA h fun l9 q_l9 h=>?_
   refine lJ 14 [tc (tV (aL b 0)),tc (tV (aL b 0)),tc (tV (aL b 0)),tc (tV (aL b 17)),tc (oY l3 c2 ob.result),tc (tV (aL b 0)),tc (tV (aL b 0)),tc (tV (aL b 15)),tc (iK ob.a_),tc (cb e),tc (ce cq e2),tc (cb e2),tc (iK ([e2])),([13],fun s=>tV (ax ((s.getD 0 u7).h 0).1 ((s.getD 0 u7).h 0).2 l9.length))] [false,false,false,false,false,false,false,false,false,false,false,false,false,true] [fun _=>[bx (rH bK [(1,ax l1 c ob.kinds.length),(2,ax l2 c1 ob.open_.length)]) 168 b (bO ob (ax l3 c2 ob.result.length)),tip iW 69 l1 c ob.kinds,df cq 3 l2 c1 ob.open_,df cq 3 l3 c2 ob.result],fun sg=>[df cq 3 ((sg 13).h 0).1 ((sg 13).h 0).2 l9,bx (rH bK [(1,ax l1 c ob.kinds.length),(2,ax l2 c1 ob.open_.length)]) 168 b (bO ob (ax l3 c2 ob.result.length)),tip iW 69 l1 c ob.kinds,df cq 3 l2 c1 ob.open_]] I mixed I I I I I
    ⟨⟨[⟨0,fun _=>tV (aL b 0),none⟩],_,0,1,I,⟨(fun _=>I),aZ⟩,I,I,I,I,I,fun _ sg _ _=>aB I (cw I)⟩,
    ⟨⟨[⟨0,fun _=>tV (aL b 0),none⟩],_,0,0,I,⟨(fun _=>I),aZ⟩,I,I,I,I,I,fun _ sg _ _=>aB I (cw I)⟩,
    ⟨⟨[⟨58,fun _=>tV (aL b 0),some 1⟩],_,0,0,I,⟨(fun _=>I),aZ⟩,I,I,I,I,I,fun _ sg _ _=>aB I (bg (ht I))⟩,
    ⟨⟨[⟨59,fun _=>tV (aL b 0),some 2⟩],_,0,0,I,⟨(fun _=>I),aZ⟩,I,I,I,I,I,fun _ sg _ _=>aB I (fe 17 fK I I I)⟩,
    ⟨⟨[⟨60,fun _=>tV (aL b 17),some 3⟩],_,0,0,I,⟨(fun _=>I),aZ⟩,I,I,I,I,I,u3 (fun sg=>aB I (mP bV (gW kR) (.head _) I (ht I)))⟩,
    ⟨⟨[⟨0,fun _=>tV (aL b 0),none⟩],_,0,0,I,⟨(fun _=>I),aZ⟩,I,I,I,I,I,fun _ sg _ _=>aB I (cw I)⟩,
    ⟨⟨[⟨62,fun _=>tV (aL b 0),some 5⟩],_,0,0,I,⟨(fun _=>I),aZ⟩,I,I,I,I,I,fun _ sg _ _=>aB I (bg (ht I))⟩,
    ⟨⟨[⟨63,fun _=>tV (aL b 0),some 6⟩],_,0,0,I,⟨(fun _=>I),aZ⟩,I,I,I,I,I,fun _ sg _ _=>aB I (fe 15 iT I I I)⟩,
    ⟨⟨[⟨64,fun _=>tV (aL b 15),some 7⟩],_,0,0,I,⟨(fun _=>I),aZ⟩,I,I,I,I,I,u3 (fun sg=>aB I (br (r:=rH bK [(1,ax l1 c ob.kinds.length),(2,ax l2 c1 ob.open_.length)]) (x:=bO ob (ax l3 c2 ob.result.length)) bV I I (gW jP) (.head _) (ht I)))⟩,
    ⟨⟨[⟨6,fun _=>tD cq e,none⟩],_,0,0,I,⟨(fun _=>I),aZ⟩,I,I,I,I,I,fun _ sg _ _=>aB I (cw I)⟩,
    ⟨⟨[⟨65,fun _=>tD tw ob.a_,some 8⟩,⟨66,fun _=>tD cq e,some 9⟩],_,0,0,I,⟨(fun _=>I),(fun _=>I),aZ⟩,I,I,I,I,I,fun _ sg _ _=>aB I (gI cR bp I I I q_e2)⟩,
    ⟨⟨[⟨67,fun _=>ce cq e2,some 10⟩],_,0,0,I,⟨(fun _=>I),aZ⟩,I,I,I,I,I,fun _ sg _ _=>aB I (bf bp I I)⟩,
    ⟨⟨[⟨68,fun _=>tD cq e2,some 11⟩],_,0,0,I,⟨(fun _=>I),aZ⟩,I,I,I,I,I,fun _ sg _ _=>aB I (aH (r:=cq) (ys:=[e2]) (xs:=[.tmp 68]) cR bp I I I I I ⟨(ht I),aZ⟩)⟩,
    ⟨⟨[⟨61,fun _=>tV (ax l3 c2 ob.result.length),some 4⟩,⟨69,fun _=>tD tw ([e2]),some 12⟩],_,I,⟨(fun _=>I),(fun _=>I),aZ⟩,I,I,I,fun sg=>gP I (EffOK.fr3 (pl bp I I I I cR I (ht I) (ht I) q_l9))⟩,
    aZ⟩⟩⟩⟩⟩⟩⟩⟩⟩⟩⟩⟩⟩⟩ (fun sg=>?_)
   refine(show RG _ _ _ _ [df cq 3 ((sg 13).h 0).1 ((sg 13).h 0).2 l9,bx (rH bK [(1,ax l1 c ob.kinds.length),(2,ax l2 c1 ob.open_.length)]) 168 b (bO ob (ax l3 c2 ob.result.length)),tip iW 69 l1 c ob.kinds,df cq 3 l2 c1 ob.open_] _ from ?_);refine zo I (bg (ht I))<|zo I (fe 17 fK I I I)<|bT<|gc bV I (rW (hs' :=[(1,ax l1 c ob.kinds.length),(2,ax l2 c1 ob.open_.length)]) (il _ _ _) ⟨.inr ⟨I,I⟩,.inr ⟨I,I⟩,aZ⟩ I) I (ht I) (EX (ht I)) ?_;refine(show RG _ _ _ _ [bx (rH bK [(1,ax l1 c ob.kinds.length),(2,ax l2 c1 ob.open_.length)]) 168 b (bO ob (ax ((sg 13).h 0).1 ((sg 13).h 0).2 l9.length)),df cq 3 ((sg 13).h 0).1 ((sg 13).h 0).2 l9,tip iW 69 l1 c ob.kinds,df cq 3 l2 c1 ob.open_] _ from ?_);refine ay<|ac<|af<|ae<|zo rfl (jL (cy hx hN) rfl)<|av rfl<|ay<|aV<|bX<|bX<|bX ?_;exact aM (aD (ih (i+1) ({ob with result:=l9}:al) l1 c l2 c1 ((sg 13).h 0).1 ((sg 13).h 0).2 ⟨cx hx,h⟩) (aR I))

theorem Ru(b:Nat)(ix:OI)(l:al){R:Bool×al}(h:ep l=some R):dK ba 167 [tV (aL b 0)] (eD b l ix) (fun _:OI=>fx R.1) (fun j=>Qw b R.2 j):=by
 refine dK.of Tryz.func167 I I I fun w0 S0=>?_;refine(show CG _ _ _ [bx (rH bo [(1,ax (ix.h 0).1 (ix.h 0).2 l.kinds.length),(2,ax (ix.h 1).1 (ix.h 1).2 l.open_.length)]) 168 b l,tip iW 69 (ix.h 0).1 (ix.h 0).2 l.kinds,df cq 3 (ix.h 1).1 (ix.h 1).2 l.open_] _ from ?_);refine aj<|zo I (dd)<|ai<|aj<|av I<|zo I (bg (ht I))<|zo I (fe 3 gH I I I)<|zo I (br (r:=rH bo [(1,ax (ix.h 0).1 (ix.h 0).2 l.kinds.length),(2,ax (ix.h 1).1 (ix.h 1).2 l.open_.length)]) (x:=l) ej I I (gW fD) (.head _) (ht I))<|bJ (r:=aJ) (x:=DK) ej (fun _=>iX _) I fun b1=>aQ ej I aY I (ht I) (ht I)<|bE 3 I<|ai<|aj<|zo I (aU iw dl I I)<|zo I (bf bV I I)<|zo I (d5 cR I)<|zo I (dV (ht I) hI)<|av I<|aO I I (fun hg=>aU fM cz I I) ?_;refine aO I I (fun hg=>am nd I I (aA I hg))<|aO I I (fun hg=>bw jR (aA I hg))<|aO I I (fun hg=>dV (aA I hg) hI)<|zo I (fV I I)<|av I<|aO I I (fun hg=>aU iw dl I I)<|aO I I (fun hg=>am bV I I (aA I hg))<|aO I I (fun hg=>bw cR (aA I hg))<|aO I I (fun hg=>aU fM cz I I)<|aO I I (fun hg=>am nd I I (aA I hg))<|aO I I (fun hg=>bw jR (aA I hg))<|aO I I (fun hg=>dI (aA I hg) (aA I hg))<|aO I I (fun hg=>cH (aA I hg) hI)<|zo I (fV I I)<|aS I<|ai<|aj<|av I<|zo I (bg (ht I))<|zo I (fe 17 fK I I I)<|cd false cq 3<|bT ?_;refine gc bV I (rW (hs' :=[(1,ax (ix.h 0).1 (ix.h 0).2 l.kinds.length),(2,ax (ix.h 1).1 (ix.h 1).2 l.open_.length)]) (kH _ _) ⟨.inr ⟨I,I⟩,.inr ⟨I,I⟩,aZ⟩ I) I (ht I) (EX (show aK _ _ _ MW from sf)) ?_;refine(show RG _ _ _ _ [bx (rH bK [(1,ax (ix.h 0).1 (ix.h 0).2 l.kinds.length),(2,ax (ix.h 1).1 (ix.h 1).2 l.open_.length)]) 168 b (bO l (ax none 0 (sr.length))),df cq 3 none 0 sr,tip iW 69 (ix.h 0).1 (ix.h 0).2 l.kinds,df cq 3 (ix.h 1).1 (ix.h 1).2 l.open_] _ from ?_);refine ai<|aa<|aj<|zo I (aU iw dl I I)<|zo I (bf bV I I)<|zo I (d5 cR I)<|zo I (bm hI)<|ai<|ak<|aT (k:=40) I fun hN=>bn<|dB<|fS<|fS<|fS ?_;refine aD (tW (Z:=fun ls i ob l1 c l2 c1 l3 c2=>(l.n.Keys.drop i=ls)∧dy l ls ob=some R) (Of:=fun _ i ob l1 c l2 c1 l3 c2=>[bx (rH bK [(1,ax l1 c ob.kinds.length),(2,ax l2 c1 ob.open_.length)]) 168 b (bO ob (ax l3 c2 ob.result.length)),tip iW 69 l1 c ob.kinds,df cq 3 l2 c1 ob.open_,df cq 3 l3 c2 ob.result]) (Gf:=fun _ i ob l1 c l2 c1 l3 c2=>[(0,tV (aL b 0)),(3,ce aJ l.n),(4,fx (((decide ((l.n.Keys.length:Int)≤(3:Int)))&&(decide ((l.n.Aggs.length:Int)≤(12:Int))))&&(decide ((0:Int)<(IntKind.i64.wrap ((l.n.Keys.length:Int)+(l.n.Aggs.length:Int))))))),(40,iK l.n.Keys),(41,iB l.n.Keys),(42,cb (i:Int))]) (fun i ob l1 c l2 c1 l3 c2 h=>?_) (fun e tl ih i ob l1 c l2 c1 l3 c2 h=>?_) l.n.Keys 0 ({l with result:=sr}:al) (ix.h 0).1 (ix.h 0).2 (ix.h 1).1 (ix.h 1).2 none 0 ⟨I,h⟩) (aR I)
 ·obtain⟨hx,h⟩:=h
  refine aq<|aj<|zo I (ek I I)<|ai<|aa<|bu (ht I) (de hx)<|bc ?_;refine M (M (aC ?_));refine af<|aa<|aj<|zo rfl (aU fM cz rfl rfl)<|zo rfl (bf nd rfl rfl)<|zo rfl (d5 jR rfl)<|zo rfl (bm hI)<|ai<|ak<|aT (k:=75) I fun hN1=>bn ?_;refine aD (yO (Z:=fun ls1 i1 ok ob1 l4 c3 l5 c4 l6 c5=>(l.n.Aggs.drop i1=ls1)∧cr ls1 ok ob1=some R) (Of:=fun _ i1 ok ob1 l4 c3 l5 c4 l6 c5=>[bx (rH bK [(1,ax l4 c3 ob1.kinds.length),(2,ax l5 c4 ob1.open_.length)]) 168 b (bO ob1 (ax l6 c5 ob1.result.length)),tip iW 69 l4 c3 ob1.kinds,df cq 3 l5 c4 ob1.open_,df cq 3 l6 c5 ob1.result]) (Gf:=fun _ i1 ok ob1 l4 c3 l5 c4 l6 c5=>[(0,tV (aL b 0)),(4,fx ok),(75,dM (eQ) l.n.Aggs),(76,iB l.n.Aggs),(77,cb (i1:Int))]) (fun i1 ok ob1 l4 c3 l5 c4 l6 c5 h=>?_) (fun e1 tl1 ih1 i1 ok ob1 l4 c3 l5 c4 l6 c5 h=>?_) l.n.Aggs 0 (((decide ((l.n.Keys.length:Int)≤(3:Int)))&&(decide ((l.n.Aggs.length:Int)≤(12:Int))))&&(decide ((0:Int)<(IntKind.i64.wrap ((l.n.Keys.length:Int)+(l.n.Aggs.length:Int)))))) ob l1 c l2 c1 l3 c2 ⟨I,h⟩) (aR I)
  ·obtain⟨hx1,h⟩:=h
   refine aq<|aj<|zo I (ek I I)<|ai<|aa<|bu (ht I) (de hx1)<|bc ?_;refine M (M (aC ?_));refine af<|aj<|av rfl<|aS rfl<|ai<|ah<|bX<|bX<|bX<|bX ?_;cases so h;exact ee I (wT [(l4,c3),(l5,c4),(l6,c5)]) I I (fun _ _ h=>h)
  ·obtain⟨hx1,h⟩:=h
   refine aq<|aj<|zo I (ek I I)<|ai<|aa<|bt (ht I) (cX hx1)<|dk<|aa<|ak<|aj<|zo I (gI jR fE I I I (cS hx1))<|zo I (bf fE I I)<|bJ (r:=eQ) (x:=Co) fE (fun _=>s5 _) I fun b2=>aQ fE I aY I (ht I) (ht I)<|bE 8 I<|ai<|aj<|zo I (dD) ?_;refine ai ?_;refine zB (Z:=fun ok1 k=>eG (cr tl1) ob1 ok1 k=some R) (Of:=fun ok1 k=>[bx (rH bK [(1,ax l4 c3 ob1.kinds.length),(2,ax l5 c4 ob1.open_.length)]) 168 b (bO ob1 (ax l6 c5 ob1.result.length)),tip iW 69 l4 c3 ob1.kinds,df cq 3 l5 c4 ob1.open_,df cq 3 l6 c5 ob1.result]) (Gf:=fun ok1 k=>[(0,tV (aL b 0)),(4,fx ok1),(9,cb k),(75,dM (eQ) l.n.Aggs),(76,iB l.n.Aggs),(77,cb (i1:Int))]) (fun ok1 k h=>?_) (fun K=>?_)
   ·skip
    refine ae<|av I<|av I<|zo I (bg (ht I))<|zo I (fe 17 fK I I I)<|zo I (mP bV (gW kR) (.head _) I (ht I))<|av I<|zo I (aH (r:=cq) (ys:=[k]) (xs:=[.tmp 139]) cR bp I I I I I ⟨(ht I),aZ⟩)<|ju<|bA h fun l7 q_l7 h=>be bp I I I I cR I I (ht I) (ht I) q_l7 fun l8 c6=>zo I (bg (ht I))<|zo I (fe 17 fK I I I)<|bT<|gc bV I (rW (hs' :=[(1,ax l4 c3 ob1.kinds.length),(2,ax l5 c4 ob1.open_.length)]) (il _ _ _) ⟨.inr ⟨I,I⟩,.inr ⟨I,I⟩,aZ⟩ I) I (ht I) (EX (ht I)) ?_;refine(show RG _ _ _ _ [bx (rH bK [(1,ax l4 c3 ob1.kinds.length),(2,ax l5 c4 ob1.open_.length)]) 168 b (bO ob1 (ax l8 c6 l7.length)),df cq 3 l8 c6 l7,tip iW 69 l4 c3 ob1.kinds,df cq 3 l5 c4 ob1.open_] _ from ?_);refine ay<|ac<|af<|ae<|zo rfl (jL (cy hx1 hN1) rfl)<|av rfl<|ay<|aV<|bX<|bX<|bX ?_;exact aM (aD (ih1 (i1+1) ok1 ({ob1 with result:=l7}:al) l4 c3 l5 c4 l8 c6 ⟨cx hx1,h⟩) (aR I))
   ·skip
    refine aj<|zo I (aU ie ga I I)<|zo I (bf bp I I)<|zo I (d6 I)<|ai<|bR h I (fun h=>?_) (fun h=>?_)
    ·refine ae<|av I<|av I<|aO I I (fun hg=>aU md kf I I)<|aO I I (fun hg=>cK fd I di I (aA I hg))<|aO I I (fun hg=>am lN I I (aA I hg))<|aO I I (fun hg=>bw jh (aA I hg))<|aO I I (fun hg=>bz (aA I hg) hI)<|zo I (fV I I)<|aS I<|ay ?_;exact bD (K (ok&&((e1.Arg.Nodes.length:Int)==(0:Int))) (2:Int) h) (aR I)
    ·refine aa<|bA h fun r q_r h=>?_
     refine fq (ts:=[_,_,_,_,_,_,_,_,_,_,_,_]) mixed I I
      ⟨im 8 I I I (aU md kf I I),
      ⟨dQ 93 0 I I I (bf fv I I),
      ⟨im 0 I I I (cw I),
      ⟨dQ 95 2 I I I (bg (ht I)),
      ⟨dQ 96 3 I I I (fe 15 iT I I I),
      ⟨dQ 97 4 I I I (br (r:=rH bK [(1,ax l4 c3 ob1.kinds.length),(2,ax l5 c4 ob1.open_.length)]) (x:=bO ob1 (ax l6 c5 ob1.result.length)) bV I I (gW jP) (.head _) (ht I)),
      ⟨eF 94 1 98 5 I I I I (aG Jd (AE _ _ q_r) ⟨(ht I),(ht I),aZ⟩),
      ⟨dQ 99 6 I I I (cw I),
      ⟨dQ 92 7 I I I (nj I I),
      ⟨dQ 92 7 I I I (nj I I),
      ⟨dQ 100 8 I I I (Cd I),
      ⟨dQ 101 9 I I I (Cd I),
      aZ⟩⟩⟩⟩⟩⟩⟩⟩⟩⟩⟩⟩ ?_
     refine af<|aj<|av rfl<|av rfl<|aO rfl rfl (fun hg=>cw I)<|aO I I (fun hg=>bz (aA I hg) hI)<|zo I (fV I I)<|av I<|aO I I (fun hg=>aU ie ga I I)<|aO I I (fun hg=>am bp I I (aA I hg))<|aO I I (fun hg=>cH (aA I hg) hI)<|zo I (fV I I)<|av I<|aO I I (fun hg=>aU ie ga I I)<|aO I I (fun hg=>am bp I I (aA I hg))<|aO I I (fun hg=>dV (aA I hg) hI)<|zo I (fV I I)<|aS I<|ai<|aj<|zo I (aU ie ga I I) ?_;refine zo I (bf bp I I)<|ai<|ak<|aj<|zo I (d6 I)<|aS I<|ai<|bR h I (fun h=>?_) (fun h=>?_)
     ·refine ae<|av I<|av I<|aO I I (fun hg=>cw I)<|aO I I (fun hg=>bz (aA I hg) hI)<|aO I I (fun hg=>bm (aA I hg))<|ck I I I I (fun hg=>cw I)<|ck I I I I (fun hg=>bz (aA I hg) hI)<|aO I I (fun hg=>jn (aA I hg) (fun hb=>(aA I (pT hg (oH hb)))))<|zo I (fV I I)<|aS I<|ay<|ac ?_;exact bD (K ((((ok&&(r.2==(0:Int)))&&(decide ((1:Int)<e1.Tag)))&&(decide (e1.Tag≤(5:Int))))&&((r.1==(2:Int))||(r.1==(0:Int)))) (2:Int) h) (aR I)
     ·refine dj (Z:=fun x=>gJ (cr tl1) e1 ok ob1 r x=some R) (Of:=fun x=>[bx (rH bK [(1,ax l4 c3 ob1.kinds.length),(2,ax l5 c4 ob1.open_.length)]) 168 b (bO ob1 (ax l6 c5 ob1.result.length)),tip iW 69 l4 c3 ob1.kinds,df cq 3 l5 c4 ob1.open_,df cq 3 l6 c5 ob1.result]) (Gf:=fun x=>[(0,tV (aL b 0)),(4,fx (((ok&&(r.2==(0:Int)))&&(decide ((1:Int)<e1.Tag)))&&(decide (e1.Tag≤(5:Int))))),(9,cb 2),(10,cb r.1),(75,dM (eQ) l.n.Aggs),(76,iB l.n.Aggs),(77,cb (i1:Int)),(130,fx x)]) (fun x h=>?_) (fun K1=>?_)
      ·skip
       refine bR h I (fun h=>?_) (fun h=>?_)
       ·refine ae<|av I<|aS I<|ay<|ac ?_;exact bD (K (((ok&&(r.2==(0:Int)))&&(decide ((1:Int)<e1.Tag)))&&(decide (e1.Tag≤(5:Int)))) r.1 h) (aR I)
       ·refine aP<|ac ?_;exact bD (K (((ok&&(r.2==(0:Int)))&&(decide ((1:Int)<e1.Tag)))&&(decide (e1.Tag≤(5:Int)))) (2:Int) h) (aR I)
      ·skip
       refine aj<|zo I (d6 I)<|aS I<|ai<|bR h I (fun h=>?_) (fun h=>?_)
       ·refine aP ?_;exact bD (K1 (e1.Tag==(4:Int)) h) (aR I)
       ·refine ae<|zo I (d6 I)<|aS I<|ay ?_;exact bD (K1 (e1.Tag==(5:Int)) h) (aR I)
 ·obtain⟨hx,h⟩:=h
  refine aq<|aj<|zo I (ek I I)<|ai<|aa<|bt (ht I) (cX hx)<|dk<|aa<|ak<|aj<|zo I (gI cR bp I I I (cS hx))<|zo I (bf bp I I)<|aS I<|ai<|aa<|aj<|av I<|zo I (d8 (ht I) hI) ?_;refine av I<|bI I I (fun hg=>cw I)<|bI I I (fun hg=>cw I)<|bI I I (fun hg=>bg (aA I hg))<|bI I I (fun hg=>bU (n:=15) iT I (aA I hg) I)<|bI I I (fun hg=>br (r:=rH bK [(1,ax l1 c ob.kinds.length),(2,ax l2 c1 ob.open_.length)]) (x:=bO ob (ax l3 c2 ob.result.length)) bV I I (gW jP) (.head _) (aA I hg))<|bI I I (fun hg=>bw cR (aA I hg))<|bI I I (fun hg=>dc (aA I hg) (aA I hg))<|zo I (kh I I)<|ai<|bR h I (fun h=>?_) (fun h=>?_)
  ·refine aj<|zo I (dd)<|ai<|ah ?_;refine J (au (J (J (au (J ?_)))));refine bX<|bX<|bX<|bX ?_;cases so h;exact ee I (wT [(l1,c),(l2,c1),(l3,c2)]) I I (fun _ _ h=>h)
  ·refine dk<|bA h fun e2 q_e2 h=>bA h fun l9 q_l9 h=>?_
   refine lJ 14 [tc (tV (aL b 0)),tc (tV (aL b 0)),tc (tV (aL b 0)),tc (tV (aL b 17)),tc (oY l3 c2 ob.result),tc (tV (aL b 0)),tc (tV (aL b 0)),tc (tV (aL b 15)),tc (iK ob.a_),tc (cb e),tc (ce cq e2),tc (cb e2),tc (iK ([e2])),([13],fun s=>tV (ax ((s.getD 0 u7).h 0).1 ((s.getD 0 u7).h 0).2 l9.length))] [false,false,false,false,false,false,false,false,false,false,false,false,false,true] [fun _=>[bx (rH bK [(1,ax l1 c ob.kinds.length),(2,ax l2 c1 ob.open_.length)]) 168 b (bO ob (ax l3 c2 ob.result.length)),tip iW 69 l1 c ob.kinds,df cq 3 l2 c1 ob.open_,df cq 3 l3 c2 ob.result],fun sg=>[df cq 3 ((sg 13).h 0).1 ((sg 13).h 0).2 l9,bx (rH bK [(1,ax l1 c ob.kinds.length),(2,ax l2 c1 ob.open_.length)]) 168 b (bO ob (ax l3 c2 ob.result.length)),tip iW 69 l1 c ob.kinds,df cq 3 l2 c1 ob.open_]] I mixed I I I I I
    ⟨⟨[⟨0,fun _=>tV (aL b 0),none⟩],_,0,1,I,⟨(fun _=>I),aZ⟩,I,I,I,I,I,fun _ sg _ _=>aB I (cw I)⟩,
    ⟨⟨[⟨0,fun _=>tV (aL b 0),none⟩],_,0,0,I,⟨(fun _=>I),aZ⟩,I,I,I,I,I,fun _ sg _ _=>aB I (cw I)⟩,
    ⟨⟨[⟨58,fun _=>tV (aL b 0),some 1⟩],_,0,0,I,⟨(fun _=>I),aZ⟩,I,I,I,I,I,fun _ sg _ _=>aB I (bg (ht I))⟩,
    ⟨⟨[⟨59,fun _=>tV (aL b 0),some 2⟩],_,0,0,I,⟨(fun _=>I),aZ⟩,I,I,I,I,I,fun _ sg _ _=>aB I (fe 17 fK I I I)⟩,
    ⟨⟨[⟨60,fun _=>tV (aL b 17),some 3⟩],_,0,0,I,⟨(fun _=>I),aZ⟩,I,I,I,I,I,u3 (fun sg=>aB I (mP bV (gW kR) (.head _) I (ht I)))⟩,
    ⟨⟨[⟨0,fun _=>tV (aL b 0),none⟩],_,0,0,I,⟨(fun _=>I),aZ⟩,I,I,I,I,I,fun _ sg _ _=>aB I (cw I)⟩,
    ⟨⟨[⟨62,fun _=>tV (aL b 0),some 5⟩],_,0,0,I,⟨(fun _=>I),aZ⟩,I,I,I,I,I,fun _ sg _ _=>aB I (bg (ht I))⟩,
    ⟨⟨[⟨63,fun _=>tV (aL b 0),some 6⟩],_,0,0,I,⟨(fun _=>I),aZ⟩,I,I,I,I,I,fun _ sg _ _=>aB I (fe 15 iT I I I)⟩,
    ⟨⟨[⟨64,fun _=>tV (aL b 15),some 7⟩],_,0,0,I,⟨(fun _=>I),aZ⟩,I,I,I,I,I,u3 (fun sg=>aB I (br (r:=rH bK [(1,ax l1 c ob.kinds.length),(2,ax l2 c1 ob.open_.length)]) (x:=bO ob (ax l3 c2 ob.result.length)) bV I I (gW jP) (.head _) (ht I)))⟩,
    ⟨⟨[⟨6,fun _=>tD cq e,none⟩],_,0,0,I,⟨(fun _=>I),aZ⟩,I,I,I,I,I,fun _ sg _ _=>aB I (cw I)⟩,
    ⟨⟨[⟨65,fun _=>tD tw ob.a_,some 8⟩,⟨66,fun _=>tD cq e,some 9⟩],_,0,0,I,⟨(fun _=>I),(fun _=>I),aZ⟩,I,I,I,I,I,fun _ sg _ _=>aB I (gI cR bp I I I q_e2)⟩,
    ⟨⟨[⟨67,fun _=>ce cq e2,some 10⟩],_,0,0,I,⟨(fun _=>I),aZ⟩,I,I,I,I,I,fun _ sg _ _=>aB I (bf bp I I)⟩,
    ⟨⟨[⟨68,fun _=>tD cq e2,some 11⟩],_,0,0,I,⟨(fun _=>I),aZ⟩,I,I,I,I,I,fun _ sg _ _=>aB I (aH (r:=cq) (ys:=[e2]) (xs:=[.tmp 68]) cR bp I I I I I ⟨(ht I),aZ⟩)⟩,
    ⟨⟨[⟨61,fun _=>tV (ax l3 c2 ob.result.length),some 4⟩,⟨69,fun _=>tD tw ([e2]),some 12⟩],_,I,⟨(fun _=>I),(fun _=>I),aZ⟩,I,I,I,fun sg=>gP I (EffOK.fr3 (pl bp I I I I cR I (ht I) (ht I) q_l9))⟩,
    aZ⟩⟩⟩⟩⟩⟩⟩⟩⟩⟩⟩⟩⟩⟩ (fun sg=>?_)
   refine(show RG _ _ _ _ [df cq 3 ((sg 13).h 0).1 ((sg 13).h 0).2 l9,bx (rH bK [(1,ax l1 c ob.kinds.length),(2,ax l2 c1 ob.open_.length)]) 168 b (bO ob (ax l3 c2 ob.result.length)),tip iW 69 l1 c ob.kinds,df cq 3 l2 c1 ob.open_] _ from ?_);refine zo I (bg (ht I))<|zo I (fe 17 fK I I I)<|bT<|gc bV I (rW (hs' :=[(1,ax l1 c ob.kinds.length),(2,ax l2 c1 ob.open_.length)]) (il _ _ _) ⟨.inr ⟨I,I⟩,.inr ⟨I,I⟩,aZ⟩ I) I (ht I) (EX (ht I)) ?_;refine(show RG _ _ _ _ [bx (rH bK [(1,ax l1 c ob.kinds.length),(2,ax l2 c1 ob.open_.length)]) 168 b (bO ob (ax ((sg 13).h 0).1 ((sg 13).h 0).2 l9.length)),df cq 3 ((sg 13).h 0).1 ((sg 13).h 0).2 l9,tip iW 69 l1 c ob.kinds,df cq 3 l2 c1 ob.open_] _ from ?_);refine ay<|ac<|af<|ae<|zo rfl (jL (cy hx hN) rfl)<|av rfl<|ay<|aV<|bX<|bX<|bX ?_;exact aM (aD (ih (i+1) ({ob with result:=l9}:al) l1 c l2 c1 ((sg 13).h 0).1 ((sg 13).h 0).2 ⟨cx hx,h⟩) (aR I))

theorem Rt(b:Nat)(ix:OI)(l:al){R:Bool×al}(h:fb l=some R):dK ba 168 [tV (aL b 0)] (eD b l ix) (fun _:OI=>fx R.1) (fun j=>eD b R.2 j):=by
 refine dK.of Tryz.func168 I I I fun w0 S0=>?_;refine(show CG _ _ _ [bx (rH bo [(1,ax (ix.h 0).1 (ix.h 0).2 l.kinds.length),(2,ax (ix.h 1).1 (ix.h 1).2 l.open_.length)]) 168 b l,tip iW 69 (ix.h 0).1 (ix.h 0).2 l.kinds,df cq 3 (ix.h 1).1 (ix.h 1).2 l.open_] _ from ?_);refine aj<|zo I (dd)<|ai<|aj<|av I<|bA h fun r q_r h=>eS (EffOK.fr2 (EffOK.fr2 (EffOK.fr2 (da (xs:=[.tmp 6]) (ts:=[tV (aL b 0)]) (eD b l ix) _ I PL (Ru b ix l q_r) ⟨(ht I),aZ⟩ (fun _=>I))))) I fun i=>?_;refine(show RG _ _ _ _ [bx (rH bK [(1,ax (i.h 0).1 (i.h 0).2 r.2.kinds.length),(2,ax (i.h 1).1 (i.h 1).2 r.2.open_.length)]) 168 b (bO r.2 (ax (i.h 2).1 (i.h 2).2 r.2.result.length)),tip iW 69 (i.h 0).1 (i.h 0).2 r.2.kinds,df cq 3 (i.h 1).1 (i.h 1).2 r.2.open_,df cq 3 (i.h 2).1 (i.h 2).2 r.2.result] ((7,fx r.1)::_)from ?_);refine aS I<|ai<|aa<|aj<|av I<|zo I (dP (ht I))<|ai<|bR h I (fun h=>?_) (fun h=>?_)
 ·refine aj<|zo I (dd)<|ai<|ah<|J<|bX<|ea<|aV<|uM (r' :=rH bo [(1,ax (i.h 0).1 (i.h 0).2 r.2.kinds.length),(2,ax (i.h 1).1 (i.h 1).2 r.2.open_.length)]) (x' :=r.2) (fun _ _ _ ho h=>O6 h (fun h=>ig (oR ho (.head _)) h))<|aV<|aX<|bl<|bl<|bl ?_;cases so h;exact ee I i I I (fun _ _ h=>h)
 ·refine dk<|aa<|aj<|av I<|zo I (bg (ht I))<|zo I (fe 3 gH I I I)<|zo I (fe 11 fM I I I)<|zo I (br (r:=rH bK [(1,ax (i.h 0).1 (i.h 0).2 r.2.kinds.length),(2,ax (i.h 1).1 (i.h 1).2 r.2.open_.length)]) (x:=bO r.2 (ax (i.h 2).1 (i.h 2).2 r.2.result.length)) nd I I (gW (gD vV cz)) (.head _) (ht I))<|zo I (d5 jR I)<|zo I (bm hI)<|ai<|ak<|aT (k:=14) I fun hN=>bn ?_;refine aD (tW (Z:=fun ls i1 ob l1 c l2 c1 l3 c2=>(r.2.n.Aggs.drop i1=ls)∧ff ls i1 ob=some R) (Of:=fun _ i1 ob l1 c l2 c1 l3 c2=>[bx (rH bK [(1,ax l1 c ob.kinds.length),(2,ax l2 c1 ob.open_.length)]) 168 b (bO ob (ax l3 c2 ob.result.length)),tip iW 69 l1 c ob.kinds,df cq 3 l2 c1 ob.open_,df cq 3 l3 c2 ob.result]) (Gf:=fun _ i1 ob l1 c l2 c1 l3 c2=>[(0,tV (aL b 0)),(14,dM (eQ) r.2.n.Aggs),(15,iB r.2.n.Aggs),(16,cb (i1:Int))]) (fun i1 ob l1 c l2 c1 l3 c2 h=>?_) (fun e tl ih i1 ob l1 c l2 c1 l3 c2 h=>?_) r.2.n.Aggs 0 r.2 (i.h 0).1 (i.h 0).2 (i.h 1).1 (i.h 1).2 (i.h 2).1 (i.h 2).2 ⟨I,h⟩) (aR I)
  ·obtain⟨hx,h⟩:=h
   refine aq<|aj<|zo I (ek I I)<|ai<|aa<|bu (ht I) (de hx)<|bc ?_;refine M (M (aC ?_));refine af<|aj<|zo rfl (dd)<|ai<|ah<|bX<|ea<|aV<|uM (r' :=rH bo [(1,ax l1 c ob.kinds.length),(2,ax l2 c1 ob.open_.length)]) (x' :=ob) (fun _ _ _ ho h=>O6 h (fun h=>ig (oR ho (.head _)) h))<|aV<|aX<|bl<|bl<|bl ?_;cases so h;exact ee I (wT [(l1,c),(l2,c1)]) I I (fun _ _ h=>h)
  ·obtain⟨hx,h⟩:=h
   refine aq<|aj<|zo I (ek I I)<|ai<|aa<|bt (ht I) (cX hx)<|dk<|aa<|ak<|aj<|av I<|zo I (gI jR fE I I I (cS hx))<|zo I (bf fE I I)<|bJ (r:=eQ) (x:=Co) fE (fun _=>s5 _) I fun b1=>aS I<|aQ fE I aY I (ht I) (ht I)<|bE 5 I<|ai<|aa ?_;refine ae<|zo I (aU ie ga I I)<|zo I (bf bp I I)<|zo I (d6 I)<|ai<|bR h I (fun h=>?_) (fun h=>?_)
   ·obtain⟨e1,q_e1,h⟩:=bs h
    refine q6 13 (ts:=[tV (aL b 0),tV (aL b 0),tV (aL b 17),oY l3 c2 ob.result,tV (aL b 0),tV (aL b 0),tV (aL b 3),tV (aL b 10),iK ob.n.Keys,iB ob.n.Keys,cb (i1:Int),cb (IntKind.i64.wrap ((ob.n.Keys.length:Int)+(i1:Int))),tV (xB l3 ((IntKind.i64.wrap ((ob.n.Keys.length:Int)+(i1:Int))).toNat*1+0))]) mixed I I I
     ⟨im 0 I I I (cw I),
     ⟨dQ 24 0 I I I (bg (ht I)),
     ⟨dQ 25 1 I I I (fe 17 fK I I I),
     ⟨dQ 26 2 I I I (mP bV (gW kR) (.head _) I (ht I)),
     ⟨im 0 I I I (cw I),
     ⟨dQ 28 4 I I I (bg (ht I)),
     ⟨dQ 29 5 I I I (fe 3 gH I I I),
     ⟨dQ 30 6 I I I (fe 10 iw I I I),
     ⟨dQ 31 7 I I I (br (r:=rH bK [(1,ax l1 c ob.kinds.length),(2,ax l2 c1 ob.open_.length)]) (x:=bO ob (ax l3 c2 ob.result.length)) bV I I (gW (gD vV dl)) (.head _) (ht I)),
     ⟨dQ 32 8 I I I (d5 cR I),
     ⟨im 4 I I I (cw I),
     ⟨eF 33 9 34 10 I I I I (dI (ht I) (ht I)),
     ⟨eF 27 3 35 11 I I I I (eh cR bp (.tail _ (.tail _ (.tail _ (.head _)))) (ht I) (ht I) q_e1),
     aZ⟩⟩⟩⟩⟩⟩⟩⟩⟩⟩⟩⟩⟩ ?_
    refine ju<|bA h fun st q_st h=>wJ bp I aY I q_e1 (so q_st) (ht I) hI<|pn (sE (so q_st)) 27 I<|GN (O' :=[df cq 3 l3 c2 st,bx (rH bK [(1,ax l1 c ob.kinds.length),(2,ax l2 c1 ob.open_.length)]) 168 b (bO ob (ax l3 c2 st.length)),tip iW 69 l1 c ob.kinds,df cq 3 l2 c1 ob.open_]) (by rw [sE (so q_st)])<|ay<|ac<|af<|ae<|zo rfl (jL (cy hx hN) rfl)<|av rfl<|ay<|bX<|bX<|bX ?_;exact aM (aD (ih (i1+1) ({ob with result:=st}:al) l1 c l2 c1 l3 c2 ⟨cx hx,h⟩) (aR I))
   ·refine aP<|ac<|af<|ae<|zo rfl (jL (cy hx hN) rfl)<|av rfl<|ay ?_;exact aM (aD (ih (i1+1) ob l1 c l2 c1 l3 c2 ⟨cx hx,h⟩) (aR I))

end Go.Proofs.YtdohlidddcgfjaaGreat

