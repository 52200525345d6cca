/- cT of this claim: P12. -/
import Derived.Test.YtdohlidddcgfjaaGreatFaT
import Derived.Test.YtdohlidddcgfjaaGreatFaP11
set_option linter.all false
namespace Go.Proofs.YtdohlidddcgfjaaGreat
open Go
set_option maxRecDepth 100000

theorem Rb(a1:co)(b:co){R:Bool}(h:n6 a1 b=some R):bk ba 33 [tD eU a1,tD eU b] (fx R):=by
 refine bk.of Tryz.func33 I I I fun w0 S0=>aj<|zo I (kp I)<|zo I (kp I)<|zo I (dd)<|ai<|aa<|aj<|zo I (aU uB kT I I)<|zo I (bf bp I I)<|zo I (aU uB kT I I)<|zo I (bf bp I I)<|zo I (bM (ht I) (ht I))<|av I<|bI I I (fun hg=>aU uA kS I I)<|bI I I (fun hg=>am oy I I (aA I hg))<|bI I I (fun hg=>aU uA kS I I)<|bI I I (fun hg=>am oy I I (aA I hg))<|bI I I (fun hg=>bM (aA I hg) (aA I hg))<|zo I (kh I I)<|av I ?_;refine bI I I (fun hg=>aU o9 f6 I I)<|bI I I (fun hg=>am jZ I I (aA I hg))<|bI I I (fun hg=>aU o9 f6 I I)<|bI I I (fun hg=>am jZ I I (aA I hg))<|bI I I (fun hg=>bM (aA I hg) (aA I hg))<|zo I (kh I I)<|av I<|bI I I (fun hg=>aU rh ir I I)<|bI I I (fun hg=>am jZ I I (aA I hg))<|bI I I (fun hg=>aU rh ir I I)<|bI I I (fun hg=>am jZ I I (aA I hg))<|bI I I (fun hg=>bM (aA I hg) (aA I hg))<|zo I (kh I I)<|ai<|bR h I (fun h=>?_) (fun h=>?_)
 ·refine aj<|zo I (dd)<|ai<|ah<|J ?_;cases so h;exact aw I I
 ·refine dk<|aj<|zo I (aU iI cU I I)<|zo I (aU qq iG I I)<|zo I (bf As I I)<|zo I (aU iI cU I I)<|zo I (aU qq iG I I)<|zo I (bf As I I)<|zo I (Az DF (ht I) (ht I))<|av I<|aO I I (fun hg=>aU iI cU I I)<|aO I I (fun hg=>cK qp I iF I (aA I hg))<|aO I I (fun hg=>am jZ I I (aA I hg))<|aO I I (fun hg=>aU iI cU I I)<|aO I I (fun hg=>cK qp I iF I (aA I hg))<|aO I I (fun hg=>am jZ I I (aA I hg))<|aO I I (fun hg=>bz (aA I hg) (aA I hg))<|zo I (fV I I)<|av I<|bA h fun t q_t h=>aO I I (fun hg=>aU iI cU I I)<|aO I I (fun hg=>cK pL I ic I (aA I hg)) ?_;refine aO I I (fun hg=>am xW I I (aA I hg))<|aO I I (fun hg=>aU iI cU I I)<|aO I I (fun hg=>cK pL I ic I (aA I hg))<|aO I I (fun hg=>am xW I I (aA I hg)) ?_
  obtain⟨r,h1t,h0t⟩:=og q_t
  have q_rg:=fun hb=>(h1t hb).1
  refine aO I I (fun hg=>aG Vf (QP _ _ (q_rg hg)) ⟨(aA I hg),(aA I hg),aZ⟩)<|zo I (bN (ht I) (fun hb=>(aA I hb)) (fun hb=>(h1t hb).2) h0t)<|aS I<|ai<|ah ?_;cases so h;exact aw I I

theorem BK(a1:cu)(b:cu){R:Bool}(h:nq a1 b=some R):bk ba 15 [tD dN a1,tD dN b] (fx R):=by
 refine bk.of Tryz.func15 I I I fun w0 S0=>aj<|zo I (kp I)<|zo I (kp I)<|zo I (dd)<|ai<|aa<|aj<|zo I (aU pK lD I I)<|zo I (bf bp I I)<|zo I (aU pK lD I I)<|zo I (bf bp I I)<|zo I (bM (ht I) (ht I))<|av I<|bI I I (fun hg=>aU sj oK I I)<|bI I I (fun hg=>am bp I I (aA I hg))<|bI I I (fun hg=>aU sj oK I I)<|bI I I (fun hg=>am bp I I (aA I hg))<|bI I I (fun hg=>bM (aA I hg) (aA I hg))<|zo I (kh I I)<|av I ?_;refine bI I I (fun hg=>aU si oJ I I)<|bI I I (fun hg=>am bp I I (aA I hg))<|bI I I (fun hg=>aU si oJ I I)<|bI I I (fun hg=>am bp I I (aA I hg))<|bI I I (fun hg=>bM (aA I hg) (aA I hg))<|zo I (kh I I)<|av I<|bI I I (fun hg=>aU rg nP I I)<|bI I I (fun hg=>am bp I I (aA I hg))<|bI I I (fun hg=>aU rg nP I I)<|bI I I (fun hg=>am bp I I (aA I hg))<|bI I I (fun hg=>bM (aA I hg) (aA I hg))<|zo I (kh I I)<|av I<|bI I I (fun hg=>aU pJ mu I I)<|bI I I (fun hg=>am bp I I (aA I hg))<|bI I I (fun hg=>aU pJ mu I I)<|bI I I (fun hg=>am bp I I (aA I hg))<|bI I I (fun hg=>bM (aA I hg) (aA I hg))<|zo I (kh I I)<|av I<|bI I I (fun hg=>aU qo nO I I)<|bI I I (fun hg=>am bp I I (aA I hg))<|bI I I (fun hg=>aU qo nO I I) ?_;refine bI I I (fun hg=>am bp I I (aA I hg))<|bI I I (fun hg=>bM (aA I hg) (aA I hg))<|zo I (kh I I)<|av I<|bI I I (fun hg=>aU qn nN I I)<|bI I I (fun hg=>am yZ I I (aA I hg))<|bI I I (fun hg=>aU qn nN I I)<|bI I I (fun hg=>am yZ I I (aA I hg))<|bI I I (fun hg=>bM (aA I hg) (aA I hg))<|zo I (kh I I)<|ai<|bR h I (fun h=>?_) (fun h=>?_)
 ·refine aj<|zo I (dd)<|ai<|ah<|J ?_;cases so h;exact aw I I
 ·refine dk<|aj<|zo I (aU pI mt I I)<|zo I (bf xV I I)<|zo I (aU pI mt I I)<|zo I (bf xV I I)<|bA h fun r q_r h=>zo I (aG VD (Rb _ _ q_r) ⟨(ht I),(ht I),aZ⟩)<|av I<|bA h fun t q_t h=>aO I I (fun hg=>aU rf oI I I)<|aO I I (fun hg=>am y0 I I (aA I hg))<|aO I I (fun hg=>aU rf oI I I)<|aO I I (fun hg=>am y0 I I (aA I hg)) ?_
  obtain⟨r1,h1t,h0t⟩:=og q_t
  have q_r1g:=fun hb=>(h1t hb).1
  refine aO I I (fun hg=>aG VL (Ri _ _ (q_r1g hg)) ⟨(aA I hg),(aA I hg),aZ⟩)<|zo I (bN (ht I) (fun hb=>(aA I hb)) (fun hb=>(h1t hb).2) h0t)<|aS I<|ai<|ah ?_;cases so h;exact aw I I

theorem Es(l:(List Int)){R:(List Int)}(h:mz l=some R):eN ba 46 [iK l] false (rI .u8) 5 R:=by
 refine eN.of Tryz.func46 I I I fun w0 S0=>aj<|cd false (rI .u8) 5<|zo I (aN sf)<|ai<|aj<|av I<|zo I (d5 cR I)<|zo I (cI ov kV (ht I))<|ge (r:=(rI .u8)) (ys:=[(IntKind.u8.wrap (l.length:Int))]) (xs:=[.tmp 7]) gV iv I I I I I ⟨(ht I),aZ⟩ I fun l1 c=>aS I<|ai<|aa<|aj<|zo I (dD)<|ai<|ak<|aT (k:=0) I fun hN=>?_;refine bn<|dB<|jv ?_;refine aD (gF (Z:=fun ls i out l2 c1=>(l.drop i=ls)∧jT ls out=some R) (Of:=fun _ i out l2 c1=>[df (rI .u8) 5 l2 c1 out]) (Gf:=fun _ i out l2 c1=>[(0,iK l),(3,oY l2 c1 out),(4,cb (i:Int))]) (fun i out l2 c1 h=>?_) (fun e tl ih i out l2 c1 h=>?_) l 0 ([(IntKind.u8.wrap (l.length:Int))]) l1 c ⟨I,h⟩) (aR I)
 ·obtain⟨hx,h⟩:=h
  refine aq<|aa<|aj<|av I<|av I<|zo I (d5 cR I)<|zo I (ek I I)<|ai<|bu (ht I) (de hx)<|bc ?_;refine M (M (aC ?_));refine af<|aj<|av rfl<|aS rfl<|ai<|ah ?_;cases so h;exact dL I I
 ·obtain⟨hx,h⟩:=h
  refine aq<|aa<|aj<|av I<|av I<|zo I (d5 cR I)<|zo I (ek I I)<|ai<|bt (ht I) (cX hx)<|dk<|aa<|ak<|ae<|av I<|av I<|av I<|zo I (gI cR bp I I I (cS hx))<|zo I (bf bp I I)<|zo I (cI ov kV (ht I))<|zo I (aH (r:=(rI .u8)) (ys:=[(IntKind.u8.wrap e)]) (xs:=[.tmp 20]) gV iv I I I I I ⟨(ht I),aZ⟩)<|bA h fun out1 q_out1 h=>?_;refine be iv I I I I gV I I (ht I) (ht I) q_out1 fun l3 c2=>aS I<|ay<|ac<|af<|ae<|av rfl<|zo rfl (jL (cy hx hN) rfl)<|aS rfl<|ay ?_;exact aM (aD (ih (i+1) out1 l3 c2 ⟨cx hx,h⟩) (aR I))
theorem sX(n:Int)(width:Int){R:(List Int)}(h:fh n width=some R):eN ba 35 [tD o3 n,cb width] false (rI .u8) 5 R:=by
 refine eN.of Tryz.func35 I I I fun w0 S0=>aj<|cd false (rI .u8) 5<|zo I (aN sf)<|ai<|aj<|cd false (rI .u8) 5<|zo I (aN sf)<|ai<|aa<|aj<|zo I (dD)<|ai<|ak<|bn<|dB<|jv ?_;refine aD (AI (Z:=fun n2 out l c n1 i=>ku width n2 out n1 i=some R) (Of:=fun out l c n1 i=>[df (rI .u8) 5 l c out]) (Gf:=fun out l c n1 i=>[(0,tD o3 n1),(1,cb width),(5,oY l c out),(6,cb i)]) (fun out l c n1 i h=>nn h) (fun n2 ih out l c n1 i h=>?_) ef sr none 0 n (0:Int) h) (aR I);refine aq<|aa<|aj<|av I<|av I<|zo I (ek I I)<|ai<|bR h I (fun h=>?_) (fun h=>?_)
 ·refine dk<|aa<|ak<|aj<|av I<|zo I (Bq (ht I) hI (by decide))<|zo I (cI vc kV (ht I))<|ge (r:=(rI .u8)) (ys:=[(IntKind.u8.wrap ((n1).tmod (256:Int)))]) (xs:=[.tmp 14]) gV iv I I I I I ⟨(ht I),aZ⟩ I fun l1 c1=>av I<|bT<|db<|ca 5 I<|ca 16 I<|bT<|bA h fun out1 q_out1 h=>be iv I I I I gV I I (ht I) (io (ht I)) q_out1 fun l2 c2=>aS I<|ai<|ae<|av I<|zo I (xv (ht I) hI (by decide)) ?_;refine aS I<|ay<|ac<|af<|ae<|av rfl<|zo rfl (dI (ht rfl) hI)<|aS rfl<|ay<|aV<|aX ?_;exact aM (aD (ih out1 l2 c2 (IntKind.u64.wrap ((n1).tdiv (256:Int))) (IntKind.i64.wrap (i+(1:Int))) h) (aR I))
 ·refine bc ?_;refine M (M (aC ?_));refine af<|aj<|av rfl<|aS rfl<|ai<|ah ?_;cases so h;exact dL I I
theorem Et(is1:Bool){R:Int}(h:p9 is1=some R):bk ba 36 [fx is1] (tD (rI .u8) R):=by
 refine bk.of Tryz.func36 I I I fun w0 S0=>aj<|zo I (dD)<|ai<|aa<|aj<|av I<|ai<|bR h I (fun h=>?_) (fun h=>?_)
 ·refine aj<|zo I (dD)<|ai<|ah<|J ?_;cases so h;exact aw I I
 ·refine dk<|aj<|zo I (dD)<|ai<|ah ?_;cases so h;exact aw I I

theorem BJ(n:Int){R:(List Int)}(h:lZ n=some R):eN ba 162 [tD o3 n] false (rI .u8) 5 R:=by
 refine eN.of Tryz.func162 I I I fun w0 S0=>aj<|cd false (rI .u8) 5<|zo I (aN sf)<|ai<|aj<|cd false (rI .u8) 5<|zo I (aN sf)<|ai<|aa<|aj<|zo I (dD)<|ai<|ak<|bn<|dB<|jv ?_;refine aD (oX (Z:=fun n1 out l c i=>kx n n1 out i=some R) (Of:=fun out l c i=>[df (rI .u8) 5 l c out]) (Gf:=fun out l c i=>[(0,tD o3 n),(3,oY l c out),(4,cb i)]) (fun out l c i h=>nn h) (fun n1 ih out l c i h=>?_) ef sr none 0 (7:Int) h) (aR I);refine aq<|aa<|aj<|av I<|zo I (dc (ht I) hI)<|ai<|bR h I (fun h=>?_) (fun h=>?_)
 ·refine dk<|aa<|ak<|ae<|av I<|av I<|av I<|zo I (zd hI (ht I))<|bA h fun u q_u h=>zo I (xu (ht I) (ht I) (yw q_u))<|zo I (cI vc kV (ht I))<|zo I (aH (r:=(rI .u8)) (ys:=[(IntKind.u8.wrap ((n).fdiv (2^(min (Int.toNat (IntKind.i64.wrap ((8:Int)*i))) IntKind.u64.bits))))]) (xs:=[.tmp 14]) gV iv I I I I I ⟨(ht I),aZ⟩)<|bA h fun out1 q_out1 h=>be iv I I I I gV I I (ht I) (ht I) q_out1 fun l1 c1=>aS I<|ay<|ac<|af<|ae<|av rfl<|zo rfl (dG (ht rfl) hI)<|aS rfl<|ay ?_;exact aM (aD (ih out1 l1 c1 (IntKind.i64.wrap (i-(1:Int))) h) (aR I))
 ·refine bc ?_;refine M (M (aC ?_));refine af<|aj<|av rfl<|aS rfl<|ai<|ah ?_;cases so h;exact dL I I
theorem OC(n:Int){R:(List Int)}(h:lZ n=some R):bk ba 162 [tD o3 n] (dM ((rI .u8)) R):=(BJ _ h).spec

theorem Gx(v:aF){R:(List Int)}(h:qR v=some R):eN ba 124 [tD bF v] false (rI .u8) 5 R:=by
 refine eN.of Tryz.func124 I I I fun w0 S0=>aj<|zo I (kp I)<|cd false (rI .u8) 5<|zo I (aN sf)<|ai<|aj<|zo I (aU nc jB I I)<|zo I (bf bp I I)<|zo I (cI ov kV (ht I))<|ge (r:=(rI .u8)) (ys:=[(IntKind.u8.wrap v.Kind)]) (xs:=[.tmp 6]) gV iv I I I I I ⟨(ht I),aZ⟩ I fun l c=>aS I<|ai<|aa<|aj<|zo I (aU nc jB I I)<|zo I (bf bp I I)<|ai ?_;refine ak<|aj<|zo I (d6 I)<|aS I<|ai<|bR h I (fun h=>?_) (fun h=>?_)
 ·refine ae<|av I<|zo I (aU ou jA I I)<|zo I (bf Iy I I)<|zo I (cI zG kV (ht I))<|zo I (aH (r:=(rI .u8)) (ys:=[(IntKind.u8.wrap v.N)]) (xs:=[.tmp 15]) gV iv I I I I I ⟨(ht I),aZ⟩)<|bA h fun out q_out h=>be iv I I I I gV I I (ht I) (ht I) q_out fun l1 c1=>aS I<|ay<|ac<|af<|aj<|av rfl<|aS rfl<|ai<|ah ?_;cases so h;exact dL I I
 ·refine aj<|zo I (d6 I)<|aS I<|ai<|bR h I (fun h=>?_) (fun h=>?_)
  ·refine ae<|av I<|zo I (aU ou jA I I)<|zo I (bf Iy I I)<|zo I (cI zG vc (ht I))<|bA h fun r q_r h=>cY MB (BJ _ q_r) ⟨(ht I),aZ⟩ I fun l2 c2=>db<|ca 24 I<|bT<|bA h fun out1 q_out1 h=>be iv I I I I gV I I (ht I) (io (ht I)) q_out1 fun l3 c3=>aS I<|ay<|ac<|af<|aj<|av rfl<|aS rfl<|ai<|ah ?_;cases so h;exact dL I I
  ·refine aj<|zo I (d6 I)<|aS I<|ai<|bR h I (fun h=>?_) (fun h=>?_)
   ·obtain⟨l4,q_l4,h⟩:=bs h
    refine lJ 9 [tc (tV (ax l c (([(IntKind.u8.wrap v.Kind)]).length))),tc (ce rS v.S),tc (tD rS v.S),tc (iB v.S),tc (tD (rI .u8) (IntKind.u8.wrap (v.S.length:Int))),tc (dM ((rI .u8)) ([(IntKind.u8.wrap (v.S.length:Int))])),([6],fun s=>tV (ax ((s.getD 0 u7).h 0).1 ((s.getD 0 u7).h 0).2 l4.length)),tc (ce rS v.S),tc (tD rS v.S)] [false,false,false,false,false,false,true,false,false] [fun _=>[df (rI .u8) 5 l c ([(IntKind.u8.wrap v.Kind)]),df (rI .u8) 5 none 0 sr],fun sg=>[df (rI .u8) 5 ((sg 6).h 0).1 ((sg 6).h 0).2 l4,df (rI .u8) 5 none 0 sr]] I mixed I I I I I
     ⟨⟨[⟨3,fun _=>tV (ax l c (([(IntKind.u8.wrap v.Kind)]).length)),none⟩],_,0,0,I,⟨(fun _=>I),aZ⟩,I,I,I,I,I,fun _ sg _ _=>aB I (cw I)⟩,
     ⟨⟨[⟨1,fun _=>ce bF v,none⟩],_,0,0,I,⟨(fun _=>I),aZ⟩,I,I,I,I,I,fun _ sg _ _=>aB I (aU oT jz I I)⟩,
     ⟨⟨[⟨29,fun _=>ce rS v.S,some 1⟩],_,0,0,I,⟨(fun _=>I),aZ⟩,I,I,I,I,I,fun _ sg _ _=>aB I (bf JD I I)⟩,
     ⟨⟨[⟨30,fun _=>tD rS v.S,some 2⟩],_,0,0,I,⟨(fun _=>I),aZ⟩,I,I,I,I,I,fun _ sg _ _=>aB I (wv Ad (ht I))⟩,
     ⟨⟨[⟨31,fun _=>tD cq (v.S.length:Int),some 3⟩],_,0,0,I,⟨(fun _=>I),aZ⟩,I,I,I,I,I,fun _ sg _ _=>aB I (cI ov kV (ht I))⟩,
     ⟨⟨[⟨32,fun _=>tD (rI .u8) (IntKind.u8.wrap (v.S.length:Int)),some 4⟩],_,0,0,I,⟨(fun _=>I),aZ⟩,I,I,I,I,I,fun _ sg _ _=>aB I (aH (r:=(rI .u8)) (ys:=[(IntKind.u8.wrap (v.S.length:Int))]) (xs:=[.tmp 32]) gV iv I I I I I ⟨(ht I),aZ⟩)⟩,
     ⟨⟨[⟨28,fun _=>tV (ax l c (([(IntKind.u8.wrap v.Kind)]).length)),some 0⟩,⟨33,fun _=>tD DI ([(IntKind.u8.wrap (v.S.length:Int))]),some 5⟩],_,I,⟨(fun _=>I),(fun _=>I),aZ⟩,I,I,I,fun sg=>gP I (pl iv I I I I gV I (ht I) (ht I) q_l4)⟩,
     ⟨⟨[⟨1,fun _=>ce bF v,none⟩],_,0,1,I,⟨(fun _=>I),aZ⟩,I,I,I,I,I,fun _ sg _ _=>aB I (aU oT jz I I)⟩,
     ⟨⟨[⟨35,fun _=>ce rS v.S,some 7⟩],_,0,1,I,⟨(fun _=>I),aZ⟩,I,I,I,I,I,fun _ sg _ _=>aB I (bf JD I I)⟩,
     aZ⟩⟩⟩⟩⟩⟩⟩⟩⟩ (fun sg=>?_)
    refine(show RG _ _ _ _ [df (rI .u8) 5 ((sg 6).h 0).1 ((sg 6).h 0).2 l4,df (rI .u8) 5 none 0 sr] _ from ?_);refine bA h fun out2 q_out2 h=>B0 iv I I gV Ad I (ht I) (ht I) q_out2 fun l5 c4=>aS I<|ay<|ac<|af<|aj<|av rfl<|aS rfl<|ai<|ah ?_;cases so h;exact dL I I
   ·refine aj<|zo I (d6 I)<|aS I<|ai<|bR h I (fun h=>?_) (fun h=>?_)
    ·refine bA h fun r1 q_r1 h=>bA h fun l6 q_l6 h=>?_
     refine lJ 8 [tc (tV (ax l c (([(IntKind.u8.wrap v.Kind)]).length))),tc (ce cq v.N),tc (cb v.N),tc (tD o3 (IntKind.u64.wrap v.N)),tc (dM ((rI .u8)) r1),([5],fun s=>tV (ax ((s.getD 0 u7).h 0).1 ((s.getD 0 u7).h 0).2 l6.length)),tc (ce o3 v.U),tc (tD o3 v.U)] [false,false,false,false,false,true,false,false] [fun _=>[df (rI .u8) 5 l c ([(IntKind.u8.wrap v.Kind)]),df (rI .u8) 5 none 0 sr],fun sg1=>[df (rI .u8) 5 ((sg1 5).h 0).1 ((sg1 5).h 0).2 l6,df (rI .u8) 5 none 0 sr]] I mixed I I I I I
      ⟨⟨[⟨3,fun _=>tV (ax l c (([(IntKind.u8.wrap v.Kind)]).length)),none⟩],_,0,0,I,⟨(fun _=>I),aZ⟩,I,I,I,I,I,fun _ sg1 _ _=>aB I (cw I)⟩,
      ⟨⟨[⟨1,fun _=>ce bF v,none⟩],_,0,0,I,⟨(fun _=>I),aZ⟩,I,I,I,I,I,fun _ sg1 _ _=>aB I (aU ou jA I I)⟩,
      ⟨⟨[⟨41,fun _=>ce cq v.N,some 1⟩],_,0,0,I,⟨(fun _=>I),aZ⟩,I,I,I,I,I,fun _ sg1 _ _=>aB I (bf Iy I I)⟩,
      ⟨⟨[⟨42,fun _=>tD cq v.N,some 2⟩],_,0,0,I,⟨(fun _=>I),aZ⟩,I,I,I,I,I,fun _ sg1 _ _=>aB I (cI zG vc (ht I))⟩,
      ⟨⟨[⟨43,fun _=>tD o3 (IntKind.u64.wrap v.N),some 3⟩],_,0,0,I,⟨(fun _=>I),aZ⟩,I,I,I,I,I,fun _ sg1 _ _=>aB I (aG MB (OC _ q_r1) ⟨(ht I),aZ⟩)⟩,
      ⟨⟨[⟨40,fun _=>tV (ax l c (([(IntKind.u8.wrap v.Kind)]).length)),some 0⟩,⟨44,fun _=>tD DI r1,some 4⟩],_,I,⟨(fun _=>I),(fun _=>I),aZ⟩,I,I,I,fun sg1=>gP I (pl iv I I I I gV I (ht I) (ht I) q_l6)⟩,
      ⟨⟨[⟨1,fun _=>ce bF v,none⟩],_,0,1,I,⟨(fun _=>I),aZ⟩,I,I,I,I,I,fun _ sg1 _ _=>aB I (aU wD ql I I)⟩,
      ⟨⟨[⟨46,fun _=>ce o3 v.U,some 6⟩],_,0,1,I,⟨(fun _=>I),aZ⟩,I,I,I,I,I,fun _ sg1 _ _=>aB I (bf jZ I I)⟩,
      aZ⟩⟩⟩⟩⟩⟩⟩⟩ (fun sg1=>?_)
     refine(show RG _ _ _ _ [df (rI .u8) 5 ((sg1 5).h 0).1 ((sg1 5).h 0).2 l6,df (rI .u8) 5 none 0 sr] _ from ?_);refine bA h fun r2 q_r2 h=>cY MB (BJ _ q_r2) ⟨(ht I),aZ⟩ I fun l7 c5=>db<|ca 48 I<|bT<|bA h fun out3 q_out3 h=>be iv I I I I gV I I (ht I) (io (ht I)) q_out3 fun l8 c6=>aS I<|ay<|ac<|af<|aj<|av rfl<|aS rfl<|ai<|ah ?_;cases so h;exact dL I I
    ·refine aP<|ac<|af<|aj<|av rfl<|aS rfl<|ai<|ah ?_;cases so h;exact dL I I
theorem yD(e:bv){R:(List Int)}(h:o5 e=some R):eN ba 103 [tD bL e] false (rI .u8) 5 R:=by
 refine eN.of Tryz.func103 I I I fun w0 S0=>aj<|zo I (kp I)<|cd false (rI .u8) 5<|zo I (aN sf)<|ai<|aj<|zo I (aU fd di I I)<|zo I (bf lN I I)<|zo I (d5 jh I)<|zo I (cI ov vc (ht I))<|bA h fun r q_r h=>cY GI (sX _ _ q_r) ⟨(ht I),hI,aZ⟩ I fun l c=>aS I<|ai<|aa<|aj<|zo I (dD)<|ay ?_;refine af<|ak<|bn<|dB<|jv ?_;refine aD (oX (Z:=fun n out l1 c1 i=>iQ e n out i=some R) (Of:=fun out l1 c1 i=>[df (rI .u8) 5 l1 c1 out]) (Gf:=fun out l1 c1 i=>[(1,ce bL e),(3,oY l1 c1 out),(4,cb i)]) (fun out l1 c1 i h=>nn h) (fun n ih out l1 c1 i h=>?_) ef r l c (0:Int) h) (aR I);refine aq<|aa<|aj<|av I<|zo I (aU fd di I I)<|zo I (bf lN I I)<|zo I (d5 jh I)<|zo I (ek I I)<|ai<|bR h I (fun h=>?_) (fun h=>?_)
 ·refine dk<|aa<|ak<|aj<|zo I (aU fd di I I)<|zo I (bf lN I I)<|av I<|bA h fun e1 q_e1 h=>zo I (gI jh eb I I I q_e1)<|zo I (bf eb I I)<|bJ (r:=bG) (x:=AQ) eb (fun _=>lp _) I fun b=>aQ eb I aY I (ht I) (ht I)<|bE 5 I<|ai<|aj<|av I<|zo I (aU iU eo I I)<|zo I (bf bp I I)<|zo I (cI ov kV (ht I))<|zo I (aH (r:=(rI .u8)) (ys:=[(IntKind.u8.wrap e1.Tag)]) (xs:=[.tmp 26]) gV iv I I I I I ⟨(ht I),aZ⟩) ?_;refine bA h fun out1 q_out1 h=>be iv I I I I gV I I (ht I) (ht I) q_out1 fun l2 c2=>aS I<|ai ?_;refine wP (Z:=fun out2 l3 c3=>qz (iQ e n) i e1 out2=some R) (Of:=fun out2 l3 c3=>[df (rI .u8) 5 l3 c3 out2]) (Gf:=fun out2 l3 c3=>[(1,ce bL e),(3,oY l3 c3 out2),(4,cb i),(5,ce bG e1)]) (fun out2 l3 c3 h=>?_) (fun K=>?_)
  ·skip
   refine aj<|zo I (aU iU eo I I)<|zo I (bf bp I I)<|zo I (d6 I)<|ai<|bR h I (fun h=>?_) (fun h=>?_)
   ·refine ae<|av I<|zo I (aU pM jC I I)<|zo I (bf ft I I)<|bA h fun r1 q_r1 h=>cY PN (Gx _ q_r1) ⟨(ht I),aZ⟩ I fun l4 c4=>db<|ca 44 I<|bT<|bA h fun out3 q_out3 h=>be iv I I I I gV I I (ht I) (io (ht I)) q_out3 fun l5 c5=>aS I<|ay<|ac<|af<|ae<|av rfl<|zo rfl (dI (ht rfl) hI)<|aS rfl<|ay<|aV<|aX ?_;exact aM (aD (ih out3 l5 c5 (IntKind.i64.wrap (i+(1:Int))) h) (aR I))
   ·refine aP<|ac<|af<|ae<|av rfl<|zo rfl (dI (ht rfl) hI)<|aS rfl<|ay ?_;exact aM (aD (ih out2 l3 c3 (IntKind.i64.wrap (i+(1:Int))) h) (aR I))
  ·skip
   refine aj<|zo I (aU iU eo I I)<|zo I (bf bp I I)<|zo I (d6 I)<|ai<|bR h I (fun h=>?_) (fun h=>?_)
   ·refine ae<|av I<|zo I (aU na gO I I)<|zo I (bf bp I I)<|zo I (cI ov kV (ht I))<|zo I (aH (r:=(rI .u8)) (ys:=[(IntKind.u8.wrap e1.Col)]) (xs:=[.tmp 35]) gV iv I I I I I ⟨(ht I),aZ⟩)<|bA h fun out4 q_out4 h=>be iv I I I I gV I I (ht I) (ht I) q_out4 fun l6 c6=>aS I<|ay ?_;exact bD (K out4 l6 c6 h) (aR I)
   ·refine aP ?_;exact bD (K out1 l2 c2 h) (aR I)
 ·refine bc ?_;refine M (M (aC ?_));refine af<|aj<|av rfl<|aS rfl<|ai<|ah ?_;cases so h;exact dL I I
theorem NO(n:ap){R:(List Int)}(h:uh n=some R):eN ba 47 [tD aJ n] false (rI .u8) 5 R:=by
 refine eN.of Tryz.func47 I I I fun w0 S0=>aj<|zo I (kp I)<|cd false (rI .u8) 5<|zo I (aN sf)<|ai<|aj<|zo I (aU eJ cg I I)<|zo I (bf bp I I)<|zo I (cI ov kV (ht I))<|ge (r:=(rI .u8)) (ys:=[(IntKind.u8.wrap n.Op)]) (xs:=[.tmp 9]) gV iv I I I I I ⟨(ht I),aZ⟩ I fun l c=>aS I<|ai<|aa<|aj<|zo I (aU eJ cg I I)<|zo I (bf bp I I)<|ai ?_;refine ak ?_;refine dj (Z:=fun x=>mE n x=some R) (Of:=fun x=>[df (rI .u8) 5 l c ([(IntKind.u8.wrap n.Op)])]) (Gf:=fun x=>[(1,ce aJ n),(3,tV (ax l c (([(IntKind.u8.wrap n.Op)]).length))),(12,cb n.Op),(13,fx x)]) (fun x h=>?_) (fun K=>?_)
 ·skip
  refine bR h I (fun h=>?_) (fun h=>?_)
  ·refine aj<|av I<|zo I (aU oA gr I I)<|zo I (bf bp I I)<|zo I (cI ov kV (ht I))<|zo I (aH (r:=(rI .u8)) (ys:=[(IntKind.u8.wrap n.Table)]) (xs:=[.tmp 19]) gV iv I I I I I ⟨(ht I),aZ⟩)<|bA h fun out q_out h=>be iv I I I I gV I I (ht I) (ht I) q_out fun l1 c1=>aS I<|ai<|ae<|av I<|zo I (aU iH dz I I)<|zo I (bf bV I I)<|bA h fun r q_r h=>cY RR (Es _ q_r) ⟨(ht I),aZ⟩ I fun l2 c2=>db<|ca 25 I<|bT<|bA h fun out1 q_out1 h=>be iv I I I I gV I I (ht I) (io (ht I)) q_out1 fun l3 c3=>aS I ?_;refine ay<|ac<|af<|aj<|av rfl<|aS rfl<|ai<|ah ?_;cases so h;exact dL I I
  ·refine aj<|zo I (d6 I)<|aS I<|ai<|bR h I (fun h=>?_) (fun h=>?_)
   ·refine aj<|av I<|zo I (aU vW nQ I I)<|zo I (bf As I I)<|bA h fun r1 q_r1 h=>zo I (aG O9 (Et _ q_r1) ⟨(ht I),aZ⟩)<|zo I (aH (r:=(rI .u8)) (ys:=[r1]) (xs:=[.tmp 32]) gV iv I I I I I ⟨(ht I),aZ⟩)<|bA h fun out2 q_out2 h=>be iv I I I I gV I I (ht I) (ht I) q_out2 fun l4 c4=>aS I<|ai<|ae<|av I<|zo I (aU o8 gN I I)<|zo I (bf fv I I)<|bA h fun r2 q_r2 h=>cY Jh (yD _ q_r2) ⟨(ht I),aZ⟩ I fun l5 c5=>db<|ca 38 I<|bT<|bA h fun out3 q_out3 h=>be iv I I I I gV I I (ht I) (io (ht I)) q_out3 fun l6 c6=>?_;refine aS I<|ay<|ac<|af<|aj<|av rfl<|aS rfl<|ai<|ah ?_;cases so h;exact dL I I
   ·refine aj<|zo I (d6 I)<|aS I<|ai<|bR h I (fun h=>?_) (fun h=>?_)
    ·refine ae<|av I<|zo I (aU o8 gN I I)<|zo I (bf fv I I)<|bA h fun r3 q_r3 h=>cY Jh (yD _ q_r3) ⟨(ht I),aZ⟩ I fun l7 c7=>db<|ca 45 I<|bT<|bA h fun out4 q_out4 h=>be iv I I I I gV I I (ht I) (io (ht I)) q_out4 fun l8 c8=>aS I<|ay<|ac<|af<|aj<|av rfl<|aS rfl<|ai<|ah ?_;cases so h;exact dL I I
    ·refine dj (Z:=fun x1=>k5 n x1=some R) (Of:=fun x1=>[df (rI .u8) 5 l c ([(IntKind.u8.wrap n.Op)])]) (Gf:=fun x1=>[(1,ce aJ n),(3,tV (ax l c (([(IntKind.u8.wrap n.Op)]).length))),(12,cb n.Op),(47,fx x1)]) (fun x1 h=>?_) (fun K1=>?_)
     ·skip
      refine bR h I (fun h=>?_) (fun h=>?_)
      ·refine aj<|av I<|zo I (aU iw dl I I)<|zo I (bf bV I I)<|bA h fun r4 q_r4 h=>cY RR (Es _ q_r4) ⟨(ht I),aZ⟩ I fun l9 c9=>db<|ca 54 I<|bT<|bA h fun out5 q_out5 h=>be iv I I I I gV I I (ht I) (io (ht I)) q_out5 fun l10 c10=>aS I<|ai<|aj<|av I<|zo I (aU fM cz I I)<|zo I (bf nd I I)<|zo I (d5 jR I)<|zo I (cI ov kV (ht I))<|zo I (aH (r:=(rI .u8)) (ys:=[(IntKind.u8.wrap (n.Aggs.length:Int))]) (xs:=[.tmp 60]) gV iv I I I I I ⟨(ht I),aZ⟩)<|bA h fun out6 q_out6 h=>?_;refine be iv I I I I gV I I (ht I) (ht I) q_out6 fun l11 c11=>aS I<|ai<|aj<|zo I (dD)<|ai<|ak<|bn<|dB<|jv ?_;refine aD (oX (Z:=fun n1 out7 l12 c12 i=>mD n n1 out7 i=some R) (Of:=fun out7 l12 c12 i=>[df (rI .u8) 5 l12 c12 out7]) (Gf:=fun out7 l12 c12 i=>[(1,ce aJ n),(3,oY l12 c12 out7),(4,cb i)]) (fun out7 l12 c12 i h=>nn h) (fun n1 ih out7 l12 c12 i h=>?_) ef out6 l11 c11 (0:Int) h) (aR I);refine aq<|aa<|aj<|av I<|zo I (aU fM cz I I)<|zo I (bf nd I I)<|zo I (d5 jR I)<|zo I (ek I I)<|ai<|bR h I (fun h=>?_) (fun h=>?_)
       ·refine dk<|aa<|ak<|aj<|av I<|zo I (aU fM cz I I)<|zo I (bf nd I I)<|av I<|bA h fun e q_e h=>zo I (gI jR fE I I I q_e)<|zo I (aU ie ga I I)<|zo I (bf bp I I)<|zo I (cI ov kV (ht I))<|zo I (aH (r:=(rI .u8)) (ys:=[(IntKind.u8.wrap e.Tag)]) (xs:=[.tmp 77]) gV iv I I I I I ⟨(ht I),aZ⟩)<|bA h fun out8 q_out8 h=>be iv I I I I gV I I (ht I) (ht I) q_out8 fun l13 c13=>aS I<|ai<|ae<|av I<|zo I (aU fM cz I I) ?_;refine zo I (bf nd I I)<|av I<|zo I (gI jR fE I I I q_e)<|zo I (aU md kf I I)<|zo I (bf fv I I)<|bA h fun r5 q_r5 h=>cY Jh (yD _ q_r5) ⟨(ht I),aZ⟩ I fun l14 c14=>db<|ca 87 I<|bT<|bA h fun out9 q_out9 h=>be iv I I I I gV I I (ht I) (io (ht I)) q_out9 fun l15 c15=>aS I<|ay<|ac<|af<|ae<|av rfl<|zo rfl (dI (ht rfl) hI)<|aS rfl<|ay<|aV<|aX ?_;exact aM (aD (ih out9 l15 c15 (IntKind.i64.wrap (i+(1:Int))) h) (aR I))
       ·refine bc ?_;refine M (M (aC ?_));refine ac<|af<|aj<|av rfl<|aS rfl<|ai<|ah ?_;cases so h;exact dL I I
      ·refine aj<|zo I (d6 I)<|aS I<|ai<|bR h I (fun h=>?_) (fun h=>?_)
       ·refine aj<|av I<|zo I (aU m2 gq I I)<|zo I (bf u4 I I)<|zo I (d5 pr I)<|zo I (cI ov kV (ht I))<|zo I (aH (r:=(rI .u8)) (ys:=[(IntKind.u8.wrap (n.Items.length:Int))]) (xs:=[.tmp 95]) gV iv I I I I I ⟨(ht I),aZ⟩)<|bA h fun out10 q_out10 h=>be iv I I I I gV I I (ht I) (ht I) q_out10 fun l16 c16=>aS I<|ai<|aj<|zo I (dD)<|ai<|ak<|bn ?_;refine aD (oX (Z:=fun n2 out11 l17 c17 i1=>mC n n2 out11 i1=some R) (Of:=fun out11 l17 c17 i1=>[df (rI .u8) 5 l17 c17 out11]) (Gf:=fun out11 l17 c17 i1=>[(1,ce aJ n),(3,oY l17 c17 out11),(5,cb i1)]) (fun out11 l17 c17 i1 h=>nn h) (fun n2 ih1 out11 l17 c17 i1 h=>?_) ef out10 l16 c16 (0:Int) h) (aR I);refine aq<|aa<|aj<|av I<|zo I (aU m2 gq I I)<|zo I (bf u4 I I)<|zo I (d5 pr I)<|zo I (ek I I)<|ai<|bR h I (fun h=>?_) (fun h=>?_)
        ·refine dk<|aa<|ak<|ae<|av I<|zo I (aU m2 gq I I)<|zo I (bf u4 I I)<|av I<|bA h fun e1 q_e1 h=>zo I (gI pr fv I I I q_e1)<|zo I (bf fv I I)<|bA h fun r6 q_r6 h=>cY Jh (yD _ q_r6) ⟨(ht I),aZ⟩ I fun l18 c18=>db<|ca 111 I<|bT<|bA h fun out12 q_out12 h=>be iv I I I I gV I I (ht I) (io (ht I)) q_out12 fun l19 c19=>aS I<|ay<|ac<|af<|ae ?_;refine av I<|zo I (dI (ht I) hI)<|aS I<|ay<|aV<|aX ?_;exact aM (aD (ih1 out12 l19 c19 (IntKind.i64.wrap (i1+(1:Int))) h) (aR I))
        ·refine bc ?_;refine M (M (aC ?_));refine ac<|af<|aj<|av rfl<|aS rfl<|ai<|ah ?_;cases so h;exact dL I I
       ·refine aj<|zo I (d6 I)<|aS I<|ai<|bR h I (fun h=>?_) (fun h=>?_)
        ·refine aj<|av I<|zo I (aU iA dR I I)<|zo I (bf sv I I)<|zo I (d5 pR I)<|zo I (cI ov kV (ht I))<|zo I (aH (r:=(rI .u8)) (ys:=[(IntKind.u8.wrap (n.Order.length:Int))]) (xs:=[.tmp 119]) gV iv I I I I I ⟨(ht I),aZ⟩)<|bA h fun out13 q_out13 h=>be iv I I I I gV I I (ht I) (ht I) q_out13 fun l20 c20=>aS I<|ai<|aa<|aj<|zo I (dD)<|ai<|ak<|bn ?_;refine aD (oX (Z:=fun n3 out14 l21 c21 i2=>mB n n3 out14 i2=some R) (Of:=fun out14 l21 c21 i2=>[df (rI .u8) 5 l21 c21 out14]) (Gf:=fun out14 l21 c21 i2=>[(1,ce aJ n),(3,oY l21 c21 out14),(6,cb i2)]) (fun out14 l21 c21 i2 h=>nn h) (fun n3 ih2 out14 l21 c21 i2 h=>?_) ef out13 l20 c20 (0:Int) h) (aR I);refine aq<|aa<|aj<|av I<|zo I (aU iA dR I I)<|zo I (bf sv I I)<|zo I (d5 pR I)<|zo I (ek I I)<|ai<|bR h I (fun h=>?_) (fun h=>?_)
         ·refine dk<|aa<|ak<|bA h fun e2 q_e2 h=>bA h fun r7 q_r7 h=>?_
          refine q6 16 (ts:=[oY l21 c21 out14,ce (gB iY) n.Order,dM (iY) n.Order,cb i2,ce iY e2,ce cq e2.Col,cb e2.Col,tD (rI .u8) (IntKind.u8.wrap e2.Col),ce (gB iY) n.Order,dM (iY) n.Order,cb i2,ce iY e2,ce rB e2.Desc,fx e2.Desc,tD (rI .u8) r7,dM ((rI .u8)) ([(IntKind.u8.wrap e2.Col),r7])]) mixed I I I
           ⟨im 3 I I I (cw I),
           ⟨im 1 I I I (aU iA dR I I),
           ⟨dQ 130 1 I I I (bf sv I I),
           ⟨im 6 I I I (cw I),
           ⟨eF 131 2 132 3 I I I I (gI pR pU I I I q_e2),
           ⟨dQ 133 4 I I I (aU wC sh I I),
           ⟨dQ 134 5 I I I (bf bp I I),
           ⟨dQ 135 6 I I I (cI ov kV (ht I)),
           ⟨im 1 I I I (aU iA dR I I),
           ⟨dQ 137 8 I I I (bf sv I I),
           ⟨im 6 I I I (cw I),
           ⟨eF 138 9 139 10 I I I I (gI pR pU I I I q_e2),
           ⟨dQ 140 11 I I I (aU IZ BG I I),
           ⟨dQ 141 12 I I I (bf As I I),
           ⟨dQ 142 13 I I I (aG O9 (Et _ q_r7) ⟨(ht I),aZ⟩),
           ⟨eF 136 7 143 14 I I I I (aH (r:=(rI .u8)) (ys:=[(IntKind.u8.wrap e2.Col),r7]) (xs:=[.tmp 136,.tmp 143]) gV iv I I I I I ⟨(ht I),(ht I),aZ⟩),
           aZ⟩⟩⟩⟩⟩⟩⟩⟩⟩⟩⟩⟩⟩⟩⟩⟩ ?_
          refine bA h fun out15 q_out15 h=>be iv I I I I gV I I (ht I) (ht I) q_out15 fun l22 c22=>aS I<|ay<|ac<|af<|ae<|av rfl<|zo rfl (dI (ht rfl) hI)<|aS rfl<|ay ?_;exact aM (aD (ih2 out15 l22 c22 (IntKind.i64.wrap (i2+(1:Int))) h) (aR I))
         ·refine bc ?_;refine M (M (aC ?_));refine af<|ae<|av rfl<|zo rfl (aU oS iu rfl rfl)<|zo rfl (bf bp rfl rfl)<|zo rfl (dI (ht rfl) hI)<|zo rfl (cI ov vc (ht rfl))<|bA h fun r8 q_r8 h=>cY GI (sX _ _ q_r8) ⟨(ht I),hI,aZ⟩ I fun l23 c23=>db<|ca 151 I<|bT<|bA h fun out16 q_out16 h=>be iv I I I I gV I I (ht I) (io (ht I)) q_out16 fun l24 c24=>aS I<|ay<|ac<|af<|aj<|av rfl<|aS rfl<|ai ?_;refine ah ?_;cases so h;exact dL I I
        ·refine aP<|ac<|af<|aj<|av rfl<|aS rfl<|ai<|ah ?_;cases so h;exact dL I I
     ·skip
      refine aj<|zo I (d6 I)<|aS I<|ai<|bR h I (fun h=>?_) (fun h=>?_)
      ·refine aP ?_;exact bD (K1 (n.Op==(4:Int)) h) (aR I)
      ·refine aj<|zo I (d6 I)<|aS I<|ai<|bR h I (fun h=>?_) (fun h=>?_)
       ·refine aP ?_;exact bD (K1 (n.Op==(10:Int)) h) (aR I)
       ·refine ae<|zo I (d6 I)<|aS I<|ay ?_;exact bD (K1 (n.Op==(11:Int)) h) (aR I)
 ·skip
  refine aj<|zo I (d6 I)<|aS I<|ai<|bR h I (fun h=>?_) (fun h=>?_)
  ·refine aP<|aV<|aX ?_;exact bD (K (n.Op==(1:Int)) h) (aR I)
  ·refine ae<|zo I (d6 I)<|aS I<|ay<|aV<|aX ?_;exact bD (K (n.Op==(9:Int)) h) (aR I)
end Go.Proofs.YtdohlidddcgfjaaGreat

