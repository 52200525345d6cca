/- cT of this claim: P13. -/
import Derived.Test.YtdohlidddcgfjaaGreatFaT
import Derived.Test.YtdohlidddcgfjaaGreatFaP12
set_option linter.all false
namespace Go.Proofs.YtdohlidddcgfjaaGreat
open Go
set_option maxRecDepth 100000

theorem N5(p:dn){R:(List Int)}(h:xm p=some R):eN ba 23 [tD iy p] false (rI .u8) 5 R:=by
 refine eN.of Tryz.func23 I I I fun w0 S0=>aj<|zo I (kp I)<|cd false (rI .u8) 5<|zo I (aN sf)<|ai<|aj<|zo I (aU lE fQ I I)<|zo I (bf tA I I)<|zo I (d5 pS I)<|zo I (cI ov kV (ht I))<|ge (r:=(rI .u8)) (ys:=[(IntKind.u8.wrap (p.Frags.length:Int))]) (xs:=[.tmp 10]) gV iv I I I I I ⟨(ht I),aZ⟩ I fun l c=>aS I<|ai<|aa<|aj<|zo I (dD)<|ai ?_;refine ak<|bn<|dB<|jv ?_;refine aD (oX (Z:=fun n out l1 c1 i=>kZ p n out i=some R) (Of:=fun out l1 c1 i=>[df (rI .u8) 5 l1 c1 out]) (Gf:=fun out l1 c1 i=>[(1,ce iy p),(3,oY l1 c1 out),(4,cb i)]) (fun out l1 c1 i h=>nn h) (fun n ih out l1 c1 i h=>?_) ef ([(IntKind.u8.wrap (p.Frags.length:Int))]) l c (0:Int) h) (aR I);refine aq<|aa<|aj<|av I<|zo I (aU lE fQ I I)<|zo I (bf tA I I)<|zo I (d5 pS I)<|zo I (ek I I)<|ai<|bR h I (fun h=>?_) (fun h=>?_)
 ·refine dk<|aa<|ak<|aj<|zo I (aU lE fQ I I)<|zo I (bf tA I I)<|av I<|bA h fun e q_e h=>zo I (gI pS ml I I I q_e)<|zo I (bf ml I I)<|bJ (r:=fa) (x:=DL) ml (fun _=>rn _) I fun b=>aQ ml I aY I (ht I) (ht I)<|bE 5 I<|ai<|aj<|av I<|zo I (aU tm mU I I)<|zo I (bf bp I I)<|zo I (cI ov kV (ht I))<|zo I (aU tk mT I I) ?_;refine zo I (bf bp I I)<|zo I (cI ov kV (ht I))<|zo I (aH (r:=(rI .u8)) (ys:=[(IntKind.u8.wrap e.At),(IntKind.u8.wrap e.Way)]) (xs:=[.tmp 27,.tmp 30]) gV iv I I I I I ⟨(ht I),(ht I),aZ⟩)<|bA h fun out1 q_out1 h=>be iv I I I I gV I I (ht I) (ht I) q_out1 fun l2 c2=>aS I<|ai<|aj<|av I<|zo I (aU qm jV I I)<|zo I (bf bV I I)<|bA h fun r q_r h=>cY RR (Es _ q_r) ⟨(ht I),aZ⟩ I fun l3 c3=>db<|ca 36 I<|bT<|bA h fun out2 q_out2 h=>be iv I I I I gV I I (ht I) (io (ht I)) q_out2 fun l4 c4=>aS I<|ai<|aa ?_;refine ae<|av I<|zo I (aU re kC I I)<|zo I (bf ox I I)<|zo I (d5 ji I)<|zo I (cI ov kV (ht I))<|zo I (aH (r:=(rI .u8)) (ys:=[(IntKind.u8.wrap (e.Nodes.length:Int))]) (xs:=[.tmp 42]) gV iv I I I I I ⟨(ht I),aZ⟩)<|bA h fun out3 q_out3 h=>be iv I I I I gV I I (ht I) (ht I) q_out3 fun l5 c5=>aS I<|ai<|aj<|zo I (dD)<|ai<|ak<|bn<|dB<|jv ?_;refine aD (oX (Z:=fun n1 out4 l6 c6 k=>mA (kZ p n) i e n1 out4 k=some R) (Of:=fun out4 l6 c6 k=>[df (rI .u8) 5 l6 c6 out4]) (Gf:=fun out4 l6 c6 k=>[(1,ce iy p),(3,oY l6 c6 out4),(4,cb i),(5,ce fa e),(6,cb k)]) (fun out4 l6 c6 k h=>nn h) (fun n1 ih1 out4 l6 c6 k h=>?_) ef out3 l5 c5 (0:Int) h) (aR I);refine aq<|aa<|aj<|av I<|zo I (aU re kC I I)<|zo I (bf ox I I)<|zo I (d5 ji I)<|zo I (ek I I)<|ai<|bR h I (fun h=>?_) (fun h=>?_)
  ·refine dk<|aa<|ak<|ae<|av I<|zo I (aU re kC I I)<|zo I (bf ox I I)<|av I<|bA h fun e1 q_e1 h=>zo I (gI ji ej I I I q_e1)<|zo I (bf ej I I)<|bA h fun r1 q_r1 h=>cY Vw (NO _ q_r1) ⟨(ht I),aZ⟩ I fun l7 c7=>db<|ca 58 I<|bT<|bA h fun out5 q_out5 h=>be iv I I I I gV I I (ht I) (io (ht I)) q_out5 fun l8 c8=>aS I<|ay<|ac<|af<|ae ?_;refine av I<|zo I (dI (ht I) hI)<|aS I<|ay<|aV<|aX ?_;exact aM (aD (ih1 out5 l8 c8 (IntKind.i64.wrap (k+(1:Int))) h) (aR I))
  ·refine bc ?_;refine M (M (aC ?_));refine ac<|af<|ae<|av rfl<|zo rfl (dI (ht rfl) hI)<|aS rfl<|ay ?_;exact aM (aD (ih out4 l6 c6 (IntKind.i64.wrap (i+(1:Int))) h) (aR I))
 ·refine bc ?_;refine M (M (aC ?_));refine af<|aj<|av rfl<|aS rfl<|ai<|ah ?_;cases so h;exact dL I I
theorem Ey(v:aF){R:Bool}(h:kJ v=some R):bk ba 123 [tD bF v] (fx R):=by
 refine bk.of Tryz.func123 I I I fun w0 S0=>aj<|zo I (kp I)<|zo I (dd)<|ai<|aa<|aj<|zo I (aU nc jB I I)<|zo I (bf bp I I)<|ai<|ak<|aj<|zo I (d6 I)<|aS I<|ai<|bR h I (fun h=>?_) (fun h=>?_)
 ·refine aj<|zo I (bf ft I I)<|zo I (fX (y:=DH) ft Dm ni (I))<|zo I (wx zT (ht I) (ht I))<|aS I<|ai<|ah ?_;refine au (J ?_);cases so h;exact aw I I
 ·refine aj<|zo I (d6 I)<|aS I<|ai<|bR h I (fun h=>?_) (fun h=>?_)
  ·refine aj<|zo I (aU wD ql I I)<|zo I (bf jZ I I)<|zo I (d6 I)<|av I<|aO I I (fun hg=>aU oT jz I I)<|aO I I (fun hg=>am JD I I (aA I hg))<|aO I I (fun hg=>Ay (aA I hg) hS)<|zo I (fV I I)<|av I<|aO I I (fun hg=>aU ou jA I I)<|aO I I (fun hg=>am Iy I I (aA I hg))<|aO I I (fun hg=>bz (aA I hg) hI)<|aO I I (fun hg=>bm (aA I hg))<|ck I I I I (fun hg=>aU ou jA I I)<|ck I I I I (fun hg=>am Iy I I (aA I hg))<|ck I I I I (fun hg=>bz (aA I hg) hI)<|aO I I (fun hg=>jn (aA I hg) (fun hb=>(aA I (pT hg (oH hb)))))<|zo I (fV I I)<|aS I<|ai<|ah ?_;refine au (J ?_);cases so h;exact aw I I
  ·refine aj<|zo I (d6 I)<|aS I<|ai<|bR h I (fun h=>?_) (fun h=>?_)
   ·refine aj<|zo I (aU wD ql I I)<|zo I (bf jZ I I)<|zo I (d6 I)<|av I<|aO I I (fun hg=>aU oT jz I I)<|aO I I (fun hg=>am JD I I (aA I hg))<|aO I I (fun hg=>Ay (aA I hg) hS)<|zo I (fV I I)<|aS I<|ai<|ah ?_;refine au (J ?_);cases so h;exact aw I I
   ·refine aj<|zo I (d6 I)<|aS I<|ai<|bR h I (fun h=>?_) (fun h=>?_)
    ·refine aj<|zo I (aU ou jA I I)<|zo I (bf Iy I I)<|zo I (d6 I)<|av I<|aO I I (fun hg=>aU wD ql I I)<|aO I I (fun hg=>am jZ I I (aA I hg))<|aO I I (fun hg=>bz (aA I hg) hI)<|zo I (fV I I)<|av I<|aO I I (fun hg=>aU oT jz I I)<|aO I I (fun hg=>am JD I I (aA I hg))<|aO I I (fun hg=>wv Ad (aA I hg))<|aO I I (fun hg=>dV (aA I hg) hI)<|zo I (fV I I)<|aS I<|ai<|ah ?_;refine au (J ?_);cases so h;exact aw I I
    ·refine aP<|ac<|af<|aj<|zo rfl (aU nc jB rfl rfl)<|zo rfl (bf bp rfl rfl)<|zo rfl (d6 rfl)<|av rfl<|aO rfl rfl (fun hg=>aU oT jz I I)<|aO I I (fun hg=>am JD I I (aA I hg))<|aO I I (fun hg=>Ay (aA I hg) hS)<|zo I (fV I I)<|aS I<|ai<|ah ?_;cases so h;exact aw I I

theorem QN(r:(List aF)){R:(List Int)×Int}(h:wm r=some R):bk ba 77 [dM (bF) r] (tT [dM ((rI .u8)) R.1,cb R.2]):=by
 refine bk.of Tryz.func77 I I I fun w0 S0=>aj<|zo I (aN (show aK _ _ _ vl from iE))<|zo I (dD)<|ai<|aa<|aj<|av I<|zo I (d5 pY I)<|zo I (cH (ht I) hI)<|ai<|bR h I (fun h=>?_) (fun h=>?_)
 ·refine aj<|zo I (aN (show aK _ _ _ vl from iE))<|zo I (dD)<|ai<|ah<|J ?_;cases so h;exact bQ I I I
 ·refine dk<|aj<|av I<|zo I (d5 pY I)<|zo I (cI ov kV (ht I))<|ge (r:=(rI .u8)) (ys:=[(IntKind.u8.wrap (r.length:Int))]) (xs:=[.tmp 12]) gV iv I I I I I ⟨(ht I),aZ⟩ I fun l c=>aS I<|ai<|aa<|aj<|av I<|zo I (d5 pY I)<|zo I (bm hI)<|ai<|ak<|aT (k:=14) I fun hN=>bn ?_;refine aD (gF (Z:=fun ls i out l1 c1=>(r.drop i=ls)∧oc ls out=some R) (Of:=fun _ i out l1 c1=>[df (rI .u8) 5 l1 c1 out]) (Gf:=fun _ i out l1 c1=>[(4,oY l1 c1 out),(14,dM (bF) r),(15,iB r),(16,cb (i:Int))]) (fun i out l1 c1 h=>?_) (fun e tl ih i out l1 c1 h=>?_) r 0 ([(IntKind.u8.wrap (r.length:Int))]) l c ⟨I,h⟩) (aR I)
  ·obtain⟨hx,h⟩:=h
   refine aq<|aj<|zo I (ek I I)<|ai<|aa<|bu (ht I) (de hx)<|bc ?_;refine M (M (aC ?_));refine af<|aj<|av rfl<|aS rfl<|zo rfl (dD)<|ai<|ah<|ea<|bS 4 rfl<|bS 28 rfl<|bS 2 rfl<|fT 2 rfl<|aX ?_;cases so h;exact bQ I I I
  ·obtain⟨hx,h⟩:=h
   refine aq<|aj<|zo I (ek I I)<|ai<|aa<|bt (ht I) (cX hx)<|dk<|aa<|ak<|aj<|zo I (gI pY ft I I I (cS hx))<|zo I (bf ft I I)<|bJ (r:=bF) (x:=DH) ft (fun _=>ni _) I fun b=>aQ ft I aY I (ht I) (ht I)<|bE 6 I<|ai<|aa<|aj ?_;refine zo I (bf ft I I)<|bA h fun r1 q_r1 h=>zo I (aG MG (Ey _ q_r1) ⟨(ht I),aZ⟩)<|zo I (dP (ht I))<|ai<|bR h I (fun h=>?_) (fun h=>?_)
   ·refine aj<|zo I (aN (show aK _ _ _ vl from iE))<|zo I (dD)<|ai<|ah ?_;refine J (au (J (J (au (J ?_)))));refine aX ?_;cases so h;exact bQ I I I
   ·refine dk<|ae<|av I<|zo I (bf ft I I)<|bA h fun r2 q_r2 h=>cY PN (Gx _ q_r2) ⟨(ht I),aZ⟩ I fun l2 c2=>db<|ca 25 I<|bT<|bA h fun out1 q_out1 h=>be iv I I I I gV I I (ht I) (io (ht I)) q_out1 fun l3 c3=>aS I<|ay<|ac<|af<|ae<|zo rfl (jL (cy hx hN) rfl)<|av rfl<|ay<|aV<|aX ?_;exact aM (aD (ih (i+1) out1 l3 c3 ⟨cx hx,h⟩) (aR I))

theorem Q9(l:(List (List aF))){R:(List Int)×Int×Int}(h:ut l=some R):bk ba 37 [dM (pZ) l] (tT [dM ((rI .u8)) R.1,cb R.2.1,cb R.2.2]):=by
 refine bk.of Tryz.func37 I I I fun w0 S0=>aj<|zo I (aN (show aK _ _ _ vl from iE))<|zo I (dD)<|zo I (dD)<|ai<|aa<|aj<|av I<|zo I (d5 nV I)<|zo I (cH (ht I) hI)<|ai<|bR h I (fun h=>?_) (fun h=>?_)
 ·refine aj<|zo I (aN (show aK _ _ _ vl from iE))<|zo I (dD)<|zo I (dD)<|ai<|ah<|J ?_;cases so h;exact rG I I I I
 ·refine dk<|aj<|av I<|zo I (d5 nV I)<|zo I (xv (ht I) hI (by decide))<|zo I (cI ov kV (ht I))<|av I<|zo I (d5 nV I)<|zo I (Bq (ht I) hI (by decide))<|zo I (cI ov kV (ht I))<|ge (r:=(rI .u8)) (ys:=[(IntKind.u8.wrap (IntKind.i64.wrap (((l.length:Int)).tdiv (256:Int)))),(IntKind.u8.wrap (((l.length:Int)).tmod (256:Int)))]) (xs:=[.tmp 16,.tmp 20]) gV iv I I I I I ⟨(ht I),(ht I),aZ⟩ I fun l1 c=>aS I<|ai<|aa<|aj<|av I<|zo I (d5 nV I)<|zo I (bm hI)<|ai ?_;refine ak<|aT (k:=22) I fun hN=>bn ?_;refine aD (gF (Z:=fun ls i out l2 c1=>(l.drop i=ls)∧mL ls i out=some R) (Of:=fun _ i out l2 c1=>[df (rI .u8) 5 l2 c1 out]) (Gf:=fun _ i out l2 c1=>[(5,oY l2 c1 out),(22,dM (pZ) l),(23,iB l),(24,cb (i:Int))]) (fun i out l2 c1 h=>?_) (fun e tl ih i out l2 c1 h=>?_) l 0 ([(IntKind.u8.wrap (IntKind.i64.wrap (((l.length:Int)).tdiv (256:Int)))),(IntKind.u8.wrap (((l.length:Int)).tmod (256:Int)))]) l1 c ⟨I,h⟩) (aR I)
  ·obtain⟨hx,h⟩:=h
   refine aq<|aj<|zo I (ek I I)<|ai<|aa<|bu (ht I) (de hx)<|bc ?_;refine M (M (aC ?_));refine af<|aj<|av rfl<|aS rfl<|zo rfl (dD)<|zo rfl (dD)<|ai<|ah<|ea<|bS 5 rfl<|bS 42 rfl<|bS 2 rfl<|fT 2 rfl<|aX ?_;cases so h;exact rG I I I I
  ·obtain⟨hx,h⟩:=h
   refine aq<|aj<|zo I (ek I I)<|ai<|aa<|bt (ht I) (cX hx)<|dk<|aa<|ak<|aj<|av I<|zo I (gI nV pV I I I (cS hx))<|zo I (bf pV I I)<|aS I<|aS I<|ai<|aj<|av I ?_;refine bA h fun r q_r h=>zo I (aG Vd (QN _ q_r) ⟨(ht I),aZ⟩)<|av I<|zo I (nj I I)<|zo I (nj I I)<|aS I<|aS I<|ai<|aa<|aj<|av I<|zo I (Aq I)<|ai<|bR h I (fun h=>?_) (fun h=>?_)
   ·refine aj<|av I<|av I<|zo I (aN (show aK _ _ _ vl from iE))<|aS I<|aS I<|ai<|ah ?_;refine J (au (J (J (au (J ?_)))));refine aX ?_;cases so h;exact rG I I I I
   ·refine dk<|ae<|av I<|av I<|bA h fun out1 q_out1 h=>be iv I I I I gV I I (ht I) (ht I) q_out1 fun l3 c2=>aS I<|ay<|ac<|af<|ae<|zo rfl (jL (cy hx hN) rfl)<|av rfl<|ay ?_;exact aM (aD (ih (i+1) out1 l3 c2 ⟨cx hx,h⟩) (aR I))

theorem OR(register:Int)(one:Bool){R:Int}(h:wn register one=some R):bk ba 125 [tD lq register,fx one] (tD lq R):=by
 refine bk.of Tryz.func125 I I I fun w0 S0=>aj<|zo I (dD)<|ai<|aj<|av I<|zo I (Bq (ht I) hI (by decide))<|zo I (d6 I)<|aS I<|ai<|aj<|av I<|zo I (xv (ht I) hI (by decide))<|aS I<|ai ?_;refine dj (Z:=fun register1=>rx register1=some R) (Of:=fun register1=>[]) (Gf:=fun register1=>[(0,tD lq register1)]) (fun register1 h=>?_) (fun K=>?_)
 ·skip
  refine aj<|av I<|aS I<|ai<|ah ?_;cases so h;exact aw I I
 ·skip
  refine aj<|av I<|av I<|zo I (Ee DF (ht I) (ht I))<|ai<|bR h I (fun h=>?_) (fun h=>?_)
  ·refine ae<|av I<|zo I (Bp (ht I) hI)<|aS I<|ay ?_;exact bD (K (oB .xor .u32 (IntKind.u32.wrap ((register).tdiv (2:Int))) (2197175160:Int)) h) (aR I)
  ·refine aP ?_;exact bD (K (IntKind.u32.wrap ((register).tdiv (2:Int))) h) (aR I)

theorem QM(b:(List Int)){R:Int}(h:vD b=some R):bk ba 78 [dM ((rI .u8)) b] (tD lq R):=by
 refine bk.of Tryz.func78 I I I fun w0 S0=>aj<|zo I (dD)<|ai<|aj<|zo I (dD)<|ai<|aa<|aj<|zo I (dD)<|ai<|ak<|aT (k:=0) I fun hN=>bn ?_;refine aD (q5 (Z:=fun ls i register=>(b.drop i=ls)∧kb ls register=some R) (Of:=fun _ i register=>[]) (Gf:=fun _ i register=>[(0,dM ((rI .u8)) b),(3,tD lq register),(4,cb (i:Int))]) (fun i register h=>?_) (fun e tl ih i register h=>?_) b 0 (4294967295:Int) ⟨I,h⟩) (aR I)
 ·obtain⟨hx,h⟩:=h
  refine aq<|aa<|aj<|av I<|av I<|zo I (d5 gV I)<|zo I (ek I I)<|ai<|bu (ht I) (de hx)<|bc ?_;refine M (M (aC ?_));refine af<|aj<|av rfl<|zo rfl (dG hI (ht rfl))<|aS rfl<|ai<|ah ?_;cases so h;exact aw I I
 ·obtain⟨hx,h⟩:=h
  refine aq<|aa<|aj<|av I<|av I<|zo I (d5 gV I)<|zo I (ek I I)<|ai<|bt (ht I) (cX hx)<|dk<|aa<|ak<|aj<|av I<|av I<|zo I (gI gV iv I I I (cS hx))<|zo I (bf iv I I)<|aS I<|ai ?_;refine aj<|zo I (dD)<|ai<|ak<|bn ?_;refine aD (EQ (Z:=fun k i1 register1 c=>(8-i1=k)∧lz (kb tl) k register1 c=some R) (Of:=fun _ i1 register1 c=>[]) (Gf:=fun _ i1 register1 c=>[(0,dM ((rI .u8)) b),(3,tD lq register1),(4,cb (i:Int)),(5,tD (rI .u8) c),(6,cb (i1:Int))]) (fun i1 register1 c h=>?_) (fun k1 ih1 i1 register1 c h=>?_) 8 0 register e ⟨I,h⟩) (aR I)
  ·obtain⟨hx1,h⟩:=h
   refine aq<|aa<|aj<|av I<|zo I (d8 (ht I) hI)<|ai<|bu (ht I) (NA hx1)<|bc ?_;refine M (M (aC ?_));refine ac<|af<|ae<|av rfl<|zo rfl (jL (cy hx hN) rfl)<|aS rfl<|ay ?_;exact aM (aD (ih (i+1) register1 ⟨cx hx,h⟩) (aR I))
  ·obtain⟨hx1,h⟩:=h
   refine aq<|aa<|aj<|av I<|zo I (d8 (ht I) hI)<|ai<|bt (ht I) (Nz hx1)<|dk<|aa<|ak<|aj<|av I<|av I<|zo I (Bq (ht I) hI (by decide))<|zo I (d6 I)<|bA h fun r q_r h=>zo I (aG Up (OR _ _ q_r) ⟨(ht I),(ht I),aZ⟩)<|aS I<|ai ?_;refine ae<|av I<|zo I (xv (ht I) hI (by decide))<|aS I<|ay<|ac<|af<|ae<|av rfl<|zo rfl (ww (LM hx1 (by decide)) (ht rfl) hI)<|aS rfl<|ay ?_;exact aM (aD (ih1 (i1+1) r (IntKind.u8.wrap ((c).tdiv (2:Int))) ⟨LL hx1,h⟩) (aR I))

theorem NM(a1:(List Int))(b:(List Int)){R:(List Int)}(h:uu a1 b=some R):eN ba 79 [dM ((rI .u8)) a1,dM ((rI .u8)) b] false (rI .u8) 5 R:=by
 refine eN.of Tryz.func79 I I I fun w0 S0=>aj<|cd false (rI .u8) 5<|zo I (aN sf)<|ai<|aj<|ge (r:=(rI .u8)) (ys:=sr) (xs:=[]) gV iv I I I I I trivial I fun l c=>av I<|bA h fun l1 q_l1 h=>be iv I I I I gV I I (ht I) (ht I) q_l1 fun l2 c1=>av I<|bA h fun x q_x h=>be iv I I I I gV I I (ht I) (ht I) q_x fun l3 c2=>aS I<|ai<|ah ?_;cases so h;exact dL I I
theorem wE(b:(List Int)){R:(List Int)}(h:la b=some R):eN ba 38 [dM ((rI .u8)) b] false (rI .u8) 5 R:=by
 refine eN.of Tryz.func38 I I I fun w0 S0=>aj<|cd false (rI .u8) 5<|zo I (aN sf)<|ai<|aj<|av I<|bA h fun r q_r h=>zo I (aG Vc (QM _ q_r) ⟨(ht I),aZ⟩)<|aS I<|ai<|aj<|cd false (rI .u8) 5<|zo I (aN sf)<|ai<|aa<|aj ?_;refine zo I (dD)<|ai<|ak<|bn<|dB<|jv ?_;refine aD (EP (Z:=fun k i last l c n=>(4-i=k)∧mM b k last n=some R) (Of:=fun _ i last l c n=>[df (rI .u8) 5 l c last]) (Gf:=fun _ i last l c n=>[(0,dM ((rI .u8)) b),(3,tD lq n),(4,oY l c last),(5,cb (i:Int))]) (fun i last l c n h=>?_) (fun k1 ih i last l c n h=>?_) 4 0 sr none 0 r ⟨I,h⟩) (aR I)
 ·obtain⟨hx,h⟩:=h
  refine aq<|aa<|aj<|av I<|zo I (d8 (ht I) hI)<|ai<|bu (ht I) (NA hx)<|bc ?_;refine M (M (aC ?_));refine af<|aj<|av rfl<|av rfl<|db<|ca 4 rfl<|ca 21 rfl<|bA h fun r1 q_r1 h=>cY Vb (NM _ _ q_r1) ⟨(ht I),(io (ht I)),aZ⟩ I fun l1 c1=>aS I<|ai<|ah ?_;cases so h;exact dL I I
 ·obtain⟨hx,h⟩:=h
  refine aq<|aa<|aj<|av I<|zo I (d8 (ht I) hI)<|ai<|bt (ht I) (Nz hx)<|dk<|aa<|ak<|aj<|av I<|av I<|zo I (Bq (ht I) hI (by decide))<|zo I (cI E0 kV (ht I))<|zo I (aH (r:=(rI .u8)) (ys:=[(IntKind.u8.wrap ((n).tmod (256:Int)))]) (xs:=[.tmp 15]) gV iv I I I I I ⟨(ht I),aZ⟩)<|bA h fun last1 q_last1 h=>be iv I I I I gV I I (ht I) (ht I) q_last1 fun l2 c2=>aS I<|ay ?_;refine af<|ae<|av rfl<|zo rfl (xv (ht rfl) hI (by decide))<|aS rfl<|ay<|ac<|af<|ae<|av rfl<|zo rfl (ww (LM hx (by decide)) (ht rfl) hI)<|aS rfl<|ay ?_;exact aM (aD (ih (i+1) last1 l2 c2 (IntKind.u32.wrap ((n).tdiv (256:Int))) ⟨LL hx,h⟩) (aR I))
theorem Ow(m:cu){R:(List Int)}(h:nt m=some R):eN ba 18 [tD dN m] false (rI .u8) 5 R:=by
 refine eN.of Tryz.func18 I I I fun w0 S0=>aj<|zo I (kp I)<|cd false (rI .u8) 5<|zo I (aN sf)<|ai<|aj<|zo I (aU pK lD I I)<|zo I (bf bp I I)<|zo I (cI ov kV (ht I))<|zo I (aU sj oK I I)<|zo I (bf bp I I)<|zo I (cI ov kV (ht I))<|zo I (aU si oJ I I)<|zo I (bf bp I I)<|zo I (cI ov kV (ht I))<|zo I (aU rg nP I I)<|zo I (bf bp I I)<|zo I (cI ov kV (ht I))<|ge (r:=(rI .u8)) (ys:=[(IntKind.u8.wrap m.Kind),(IntKind.u8.wrap m.From),(IntKind.u8.wrap m.To),(IntKind.u8.wrap m.Epoch)]) (xs:=[.tmp 10,.tmp 13,.tmp 16,.tmp 19]) gV iv I I I I I ⟨(ht I),(ht I),(ht I),(ht I),aZ⟩ I fun l c=>aS I ?_;refine ai<|aj<|zo I (aU pI mt I I)<|zo I (bf xV I I)<|bJ (r:=eU) (x:=uO) xV (fun _=>yW _) I fun b=>aQ xV I aY I (ht I) (ht I)<|bE 4 I<|ai<|aa<|aj<|zo I (aU pK lD I I)<|zo I (bf bp I I)<|ai<|ak<|aj<|zo I (d6 I)<|aS I<|ay ?_;refine af<|bR h rfl (fun h=>?_) (fun h=>?_)
 ·refine aj<|av I<|zo I (aU qo nO I I)<|zo I (bf bp I I)<|zo I (cI ov kV (ht I))<|zo I (aH (r:=(rI .u8)) (ys:=[(IntKind.u8.wrap m.Sites)]) (xs:=[.tmp 30]) gV iv I I I I I ⟨(ht I),aZ⟩)<|bA h fun out q_out h=>be iv I I I I gV I I (ht I) (ht I) q_out fun l1 c1=>aS I<|ai<|ae<|av I<|zo I (aU rf oI I I)<|zo I (bf y0 I I)<|bA h fun r q_r h=>cY VM (N5 _ q_r) ⟨(ht I),aZ⟩ I fun l2 c2=>db<|ca 36 I<|bT<|bA h fun out1 q_out1 h=>be iv I I I I gV I I (ht I) (io (ht I)) q_out1 fun l3 c3=>aS I ?_;refine ay<|ac<|af<|aj<|av rfl<|db<|ca 37 rfl<|ca 3 rfl<|ca 117 rfl<|bA h fun r1 q_r1 h=>cY Kv (wE _ q_r1) ⟨(io (ht I)),aZ⟩ I fun l4 c4=>aS I<|ai<|ah ?_;cases so h;exact dL I I
 ·refine aj<|zo I (d6 I)<|aS I<|ai<|bR h I (fun h=>?_) (fun h=>?_)
  ·refine aj<|av I<|zo I (aU pJ mu I I)<|zo I (bf bp I I)<|zo I (cI ov kV (ht I))<|zo I (aH (r:=(rI .u8)) (ys:=[(IntKind.u8.wrap m.Frag)]) (xs:=[.tmp 43]) gV iv I I I I I ⟨(ht I),aZ⟩)<|bA h fun out2 q_out2 h=>be iv I I I I gV I I (ht I) (ht I) q_out2 fun l5 c5=>aS I<|ai<|aj<|av I<|zo I (aU uA kS I I)<|zo I (bf oy I I)<|zo I (cI E0 vc (ht I))<|bA h fun r2 q_r2 h=>cY GI (sX _ _ q_r2) ⟨(ht I),hI,aZ⟩ I fun l6 c6=>db<|ca 50 I<|bT<|bA h fun out3 q_out3 h=>?_;refine be iv I I I I gV I I (ht I) (io (ht I)) q_out3 fun l7 c7=>aS I<|ai<|aj<|av I<|zo I (aU o9 f6 I I)<|zo I (bf jZ I I)<|bA h fun r3 q_r3 h=>cY GI (sX _ _ q_r3) ⟨(ht I),hI,aZ⟩ I fun l8 c8=>db<|ca 55 I<|bT<|bA h fun out4 q_out4 h=>be iv I I I I gV I I (ht I) (io (ht I)) q_out4 fun l9 c9=>aS I<|ai<|aj<|av I<|zo I (aU iI cU I I)<|zo I (aU qq iG I I) ?_;refine zo I (bf As I I)<|bA h fun r4 q_r4 h=>zo I (aG O9 (Et _ q_r4) ⟨(ht I),aZ⟩)<|zo I (aH (r:=(rI .u8)) (ys:=[r4]) (xs:=[.tmp 61]) gV iv I I I I I ⟨(ht I),aZ⟩)<|bA h fun out5 q_out5 h=>be iv I I I I gV I I (ht I) (ht I) q_out5 fun l10 c10=>aS I<|ai<|aj<|zo I (aU iI cU I I)<|zo I (aU qq iG I I)<|zo I (bf As I I)<|ai<|bR h I (fun h=>?_) (fun h=>?_)
   ·refine ae<|av I<|zo I (aU iI cU I I)<|zo I (aU qp iF I I)<|zo I (bf jZ I I)<|bA h fun r5 q_r5 h=>cY GI (sX _ _ q_r5) ⟨(ht I),hI,aZ⟩ I fun l11 c11=>db<|ca 71 I<|bT<|bA h fun out6 q_out6 h=>be iv I I I I gV I I (ht I) (io (ht I)) q_out6 fun l12 c12=>aS I<|ay<|ac<|af<|aj<|av rfl<|db<|ca 72 rfl<|ca 3 rfl<|ca 117 rfl<|bA h fun r6 q_r6 h=>?_;refine cY Kv (wE _ q_r6) ⟨(io (ht I)),aZ⟩ I fun l13 c13=>aS I<|ai<|ah ?_;cases so h;exact dL I I
   ·refine aj<|zo I (aU iI cU I I)<|zo I (aU pL ic I I)<|zo I (bf xW I I)<|bA h fun r7 q_r7 h=>zo I (aG VB (Q9 _ q_r7) ⟨(ht I),aZ⟩)<|av I<|zo I (nj I I)<|zo I (nj I I)<|zo I (nj I I)<|aS I<|aS I<|aS I<|ai<|ae<|av I<|av I<|bA h fun out7 q_out7 h=>be iv I I I I gV I I (ht I) (ht I) q_out7 fun l14 c14=>aS I<|ay<|ac ?_;refine af<|aj<|av rfl<|db<|ca 83 rfl<|ca 3 rfl<|ca 117 rfl<|bA h fun r8 q_r8 h=>cY Kv (wE _ q_r8) ⟨(io (ht I)),aZ⟩ I fun l15 c15=>aS I<|ai<|ah ?_;cases so h;exact dL I I
  ·refine aj<|zo I (d6 I)<|aS I<|ai<|bR h I (fun h=>?_) (fun h=>?_)
   ·refine aj<|av I<|zo I (aU pJ mu I I)<|zo I (bf bp I I)<|zo I (cI ov kV (ht I))<|zo I (aH (r:=(rI .u8)) (ys:=[(IntKind.u8.wrap m.Frag)]) (xs:=[.tmp 89]) gV iv I I I I I ⟨(ht I),aZ⟩)<|bA h fun out8 q_out8 h=>be iv I I I I gV I I (ht I) (ht I) q_out8 fun l16 c16=>aS I<|ai<|aj<|av I<|zo I (aU uA kS I I)<|zo I (bf oy I I)<|zo I (cI E0 vc (ht I))<|bA h fun r9 q_r9 h=>cY GI (sX _ _ q_r9) ⟨(ht I),hI,aZ⟩ I fun l17 c17=>db<|ca 96 I<|bT<|bA h fun out9 q_out9 h=>?_;refine be iv I I I I gV I I (ht I) (io (ht I)) q_out9 fun l18 c18=>aS I<|ai<|aj<|av I<|zo I (aU o9 f6 I I)<|zo I (bf jZ I I)<|bA h fun r10 q_r10 h=>cY GI (sX _ _ q_r10) ⟨(ht I),hI,aZ⟩ I fun l19 c19=>db<|ca 101 I<|bT<|bA h fun out10 q_out10 h=>be iv I I I I gV I I (ht I) (io (ht I)) q_out10 fun l20 c20=>aS I<|ai<|ae<|av I<|zo I (aU rh ir I I)<|zo I (bf jZ I I)<|bA h fun r11 q_r11 h=>?_;refine cY GI (sX _ _ q_r11) ⟨(ht I),hI,aZ⟩ I fun l21 c21=>db<|ca 106 I<|bT<|bA h fun out11 q_out11 h=>be iv I I I I gV I I (ht I) (io (ht I)) q_out11 fun l22 c22=>aS I<|ay<|ac<|af<|aj<|av rfl<|db<|ca 107 rfl<|ca 3 rfl<|ca 117 rfl<|bA h fun r12 q_r12 h=>cY Kv (wE _ q_r12) ⟨(io (ht I)),aZ⟩ I fun l23 c23=>aS I<|ai<|ah ?_;cases so h;exact dL I I
   ·refine aj<|zo I (d6 I)<|aS I<|ai<|bR h I (fun h=>?_) (fun h=>?_)
    ·refine ae<|av I<|zo I (aU qn nN I I)<|zo I (bf yZ I I)<|zo I (d6 I)<|bA h fun r13 q_r13 h=>zo I (aG O9 (Et _ q_r13) ⟨(ht I),aZ⟩)<|zo I (aH (r:=(rI .u8)) (ys:=[r13]) (xs:=[.tmp 114]) gV iv I I I I I ⟨(ht I),aZ⟩)<|bA h fun out12 q_out12 h=>be iv I I I I gV I I (ht I) (ht I) q_out12 fun l24 c24=>aS I<|ay<|ac<|af<|aj<|av rfl<|db<|ca 116 rfl<|ca 3 rfl<|ca 117 rfl<|bA h fun r14 q_r14 h=>cY Kv (wE _ q_r14) ⟨(io (ht I)),aZ⟩ I fun l25 c25=>aS I ?_;refine ai<|ah ?_;cases so h;exact dL I I
    ·refine aP<|ac<|af<|aj<|av rfl<|db<|ca 20 rfl<|ca 3 rfl<|ca 117 rfl<|bA h fun r15 q_r15 h=>cY Kv (wE _ q_r15) ⟨(io (ht I)),aZ⟩ I fun l26 c26=>aS I<|ai<|ah ?_;cases so h;exact dL I I
theorem Mm(m:cu){R:(List Int)}(h:nt m=some R):bk ba 18 [tD dN m] (dM ((rI .u8)) R):=(Ow _ h).spec

theorem I6(op:Int){R:Int}(h:pd op=some R):bk ba 178 [cb op] (cb R):=by
 refine bk.of Tryz.func178 I I I fun w0 S0=>aj<|zo I (dD)<|ai<|aa<|aj<|av I<|ai<|ak<|aj<|zo I (d6 I)<|aS I<|ai<|bR h I (fun h=>?_) (fun h=>?_)
 ·refine aj<|zo I (dD)<|ai<|ah ?_;refine au (J ?_);cases so h;exact aw I I
 ·refine dj (Z:=fun x=>nC op x=some R) (Of:=fun x=>[]) (Gf:=fun x=>[(3,cb op),(6,fx x)]) (fun x h=>?_) (fun K=>?_)
  ·skip
   refine bR h I (fun h=>?_) (fun h=>?_)
   ·refine aj<|zo I (dD)<|ai<|ah ?_;refine au (J ?_);cases so h;exact aw I I
   ·refine dj (Z:=fun x1=>iZ x1=some R) (Of:=fun x1=>[]) (Gf:=fun x1=>[(9,fx x1)]) (fun x1 h=>?_) (fun K1=>?_)
    ·skip
     refine bR h I (fun h=>?_) (fun h=>?_)
     ·refine aj<|zo I (dD)<|ai<|ah ?_;refine au (J ?_);cases so h;exact aw I I
     ·refine aP<|ac<|af<|aj<|zo rfl (dD)<|ai<|ah ?_;cases so h;exact aw I I
    ·skip
     refine aj<|zo I (d6 I)<|aS I<|ai<|bR h I (fun h=>?_) (fun h=>?_)
     ·refine aP ?_;exact bD (K1 (op==(3:Int)) h) (aR I)
     ·refine aj<|zo I (d6 I)<|aS I<|ai<|bR h I (fun h=>?_) (fun h=>?_)
      ·refine aP ?_;exact bD (K1 (op==(4:Int)) h) (aR I)
      ·refine aj<|zo I (d6 I)<|aS I<|ai<|bR h I (fun h=>?_) (fun h=>?_)
       ·refine aP ?_;exact bD (K1 (op==(5:Int)) h) (aR I)
       ·refine aj<|zo I (d6 I)<|aS I<|ai<|bR h I (fun h=>?_) (fun h=>?_)
        ·refine aP ?_;exact bD (K1 (op==(6:Int)) h) (aR I)
        ·refine ae<|zo I (d6 I)<|aS I<|ay ?_;exact bD (K1 (op==(8:Int)) h) (aR I)
  ·skip
   refine aj<|zo I (d6 I)<|aS I<|ai<|bR h I (fun h=>?_) (fun h=>?_)
   ·refine aP ?_;exact bD (K (op==(2:Int)) h) (aR I)
   ·refine ae<|zo I (d6 I)<|aS I<|ay ?_;exact bD (K (op==(7:Int)) h) (aR I)

end Go.Proofs.YtdohlidddcgfjaaGreat

