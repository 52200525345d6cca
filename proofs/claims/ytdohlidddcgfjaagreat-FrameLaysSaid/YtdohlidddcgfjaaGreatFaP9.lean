/- cT of this claim: P9. -/
import Derived.Test.YtdohlidddcgfjaaGreatFaT
import Derived.Test.YtdohlidddcgfjaaGreatFaP8
set_option linter.all false
namespace Go.Proofs.YtdohlidddcgfjaaGreat
open Go
set_option maxRecDepth 100000

theorem Mp(b:(List Int))(p:Int)(bytes:Int){R:(List Int)}(h:qh b p bytes=some R):eN ba 158 [dM ((rI .u8)) b,tD lq p,cb bytes] false (rI .u8) 5 R:=by
 refine eN.of Tryz.func158 I I I fun w0 S0=>aj<|cd false (rI .u8) 5<|zo I (aN sf)<|ai<|aj<|av I<|zo I (d5 gV I)<|av I<|zo I (dI (ht I) (ht I))<|bA h fun mk q_mk h=>eS (zp (r:=(rI .u8)) (x:=(0:Int)) iv I I I gV (fun _=>I) hI (ht I) q_mk) I fun i=>aS I<|ai<|aj<|av I<|av I<|bA h fun out q_out h=>be iv I I I I gV I I (ht I) (ht I) q_out fun l c=>?_;refine aS I<|ai<|aa<|aj<|av I<|zo I (bm hI)<|ai<|ak<|bn<|dB<|jv ?_;refine aD (oX (Z:=fun n out1 l1 c1 x=>jE p bytes n out1 x=some R) (Of:=fun out1 l1 c1 x=>[df (rI .u8) 5 l1 c1 out1]) (Gf:=fun out1 l1 c1 x=>[(1,tD lq p),(2,cb bytes),(7,oY l1 c1 out1),(17,cb bytes),(18,cb x)]) (fun out1 l1 c1 x h=>nn h) (fun n ih out1 l1 c1 x h=>?_) ef out l c (0:Int) h) (aR I);refine aq<|aj<|zo I (ek I I)<|ai<|aa<|bR h I (fun h=>?_) (fun h=>?_)
 ·refine dk<|aa<|ak<|aj<|av I<|aS I<|ai<|ae<|av I<|av I<|zo I (cI E0 vc (ht I))<|av I<|av I<|zo I (dG (ht I) (ht I))<|zo I (zd hI (ht I))<|zo I (dG (ht I) hI)<|bA h fun u q_u h=>zo I (xu (ht I) (ht I) (yw q_u))<|zo I (cI vc kV (ht I))<|zo I (aH (r:=(rI .u8)) (ys:=[(IntKind.u8.wrap (((IntKind.u64.wrap p)).fdiv (2^(min (Int.toNat (IntKind.i64.wrap ((IntKind.i64.wrap ((8:Int)*(IntKind.i64.wrap (bytes-x))))-(8:Int)))) IntKind.u64.bits))))]) (xs:=[.tmp 30]) gV iv I I I I I ⟨(ht I),aZ⟩)<|bA h fun out2 q_out2 h=>?_;refine be iv I I I I gV I I (ht I) (ht I) q_out2 fun l2 c2=>aS I<|ay<|ac<|af<|ae<|zo rfl (dI (ht rfl) hI)<|av rfl<|ay ?_;exact aM (aD (ih out2 l2 c2 (IntKind.i64.wrap (x+(1:Int))) h) (aR I))
 ·refine bc ?_;refine M (M (aC ?_));refine af<|aj<|av rfl<|aS rfl<|ai<|ah ?_;cases so h;exact dL I I
theorem Gy(b:(List Int))(p:Int){R:(List Int)}(h:lS b p=some R):eN ba 117 [dM ((rI .u8)) b,tD lq p] false (rI .u8) 5 R:=by
 refine eN.of Tryz.func117 I I I fun w0 S0=>aj<|cd false (rI .u8) 5<|zo I (aN sf)<|ai<|aj<|av I<|av I<|bA h fun r q_r h=>cY Ud (Mp _ _ _ q_r) ⟨(ht I),(ht I),hI,aZ⟩ I fun l c=>aS I<|ai<|ah ?_;cases so h;exact dL I I
theorem OX(b:(List Int))(p:Int){R:(List Int)}(h:lS b p=some R):bk ba 117 [dM ((rI .u8)) b,tD lq p] (dM ((rI .u8)) R):=(Gy _ _ h).spec

theorem SU(b:Nat)(ix:OI)(w1:aI)(n:ap){R:aI}(h:gM w1 n=some R):dK ba 89 [tV (aL b 0),tD aJ n] (eH b w1 ix) (fun _:OI=>tT []) (fun j=>eH b R j):=by
 refine dK.of Tryz.func89 I I I fun w0 S0=>?_;refine(show CG _ _ _ [bx (rH bd [(0,ax (ix.h 0).1 (ix.h 0).2 w1.bytes.length)]) 60 b w1,tip (rI .u8) 5 (ix.h 0).1 (ix.h 0).2 w1.bytes] _ from ?_);refine aj<|zo I (kp I)<|ai<|aj<|av I<|zo I (aU iA dR I I)<|zo I (bf sv I I)<|zo I (d5 pR I)<|zo I (aH (r:=cq) (ys:=[(n.Order.length:Int)]) (xs:=[.tmp 9]) cR bp I I I I I ⟨(ht I),aZ⟩)<|bA h fun r q_r h=>eS (EffOK.fr1 (EffOK.fr1 (da (xs:=[.tmp 6,.tmp 10]) (ts:=[tV (aL b 0),iK ([(n.Order.length:Int)])]) (eH b w1 ix) _ I u6 (pW b ix w1 _ q_r) ⟨(ht I),(ht I),aZ⟩ (fun _=>I)))) I fun i=>?_;refine(show RG _ _ _ _ [bx (rH bd [(0,ax (i.h 0).1 (i.h 0).2 r.bytes.length)]) 60 b r,tip (rI .u8) 5 (i.h 0).1 (i.h 0).2 r.bytes] ((11,tT [])::_)from ?_);refine ai<|aa<|aj<|zo I (aU iA dR I I)<|zo I (bf sv I I)<|zo I (d5 pR I)<|zo I (bm hI)<|ai<|ak<|aT (k:=13) I fun hN=>bn ?_;refine aD (gF (Z:=fun ls i1 ob l c=>(n.Order.drop i1=ls)∧gy n ls ob=some R) (Of:=fun _ i1 ob l c=>[bx (rH bd [(0,ax l c ob.bytes.length)]) 60 b ob,tip (rI .u8) 5 l c ob.bytes]) (Gf:=fun _ i1 ob l c=>[(0,tV (aL b 0)),(3,ce aJ n),(13,dM (iY) n.Order),(14,iB n.Order),(15,cb (i1:Int))]) (fun i1 ob l c h=>?_) (fun e tl ih i1 ob l c h=>?_) n.Order 0 r (i.h 0).1 (i.h 0).2 ⟨I,h⟩) (aR I)
 ·obtain⟨hx,h⟩:=h
  refine aq<|aj<|zo I (ek I I)<|ai<|aa<|bu (ht I) (de hx)<|bc ?_;refine M (M (aC ?_));refine af<|bA h fun r1 q_r1 h=>?_
  refine lJ 10 [tc (tV (aL b 0)),tc (tV (aL b 0)),tc (tV (aL b 0)),tc (tV (aL b 0)),tc (tO (rI .u8) l c ob.bytes),tc (ce cq n.Limit),tc (cb n.Limit),tc (cb (IntKind.i64.wrap (n.Limit+(1:Int)))),tc (tD lq (IntKind.u32.wrap (IntKind.i64.wrap (n.Limit+(1:Int))))),([9],fun s=>tO (rI .u8) ((s.getD 0 u7).h 0).1 ((s.getD 0 u7).h 0).2 r1)] [false,false,false,false,false,false,false,false,false,true] [fun _=>[bx (rH bd [(0,ax l c ob.bytes.length)]) 60 b ob,tip (rI .u8) 5 l c ob.bytes],fun sg=>[tip (rI .u8) 5 ((sg 9).h 0).1 ((sg 9).h 0).2 r1,bx (rH bd [(0,ax l c ob.bytes.length)]) 60 b ob,tip (rI .u8) 5 l c ob.bytes]] I mixed I I I I I
   ⟨⟨[⟨0,fun _=>tV (aL b 0),none⟩],_,0,1,I,⟨(fun _=>I),aZ⟩,I,I,I,I,I,fun _ sg _ _=>aB I (cw I)⟩,
   ⟨⟨[⟨0,fun _=>tV (aL b 0),none⟩],_,0,0,I,⟨(fun _=>I),aZ⟩,I,I,I,I,I,fun _ sg _ _=>aB I (cw I)⟩,
   ⟨⟨[⟨30,fun _=>tV (aL b 0),some 1⟩],_,0,0,I,⟨(fun _=>I),aZ⟩,I,I,I,I,I,fun _ sg _ _=>aB I (bg (ht I))⟩,
   ⟨⟨[⟨31,fun _=>tV (aL b 0),some 2⟩],_,0,0,I,⟨(fun _=>I),aZ⟩,I,I,I,I,I,fun _ sg _ _=>aB I (fe 0 nS I I I)⟩,
   ⟨⟨[⟨32,fun _=>tV (aL b 0),some 3⟩],_,0,0,I,⟨(fun _=>I),aZ⟩,I,I,I,I,I,u3 (fun sg=>aB I (mn vq I (.head _) (.tail _ (.head _)) (ht I)))⟩,
   ⟨⟨[⟨3,fun _=>ce aJ n,none⟩],_,0,0,I,⟨(fun _=>I),aZ⟩,I,I,I,I,I,fun _ sg _ _=>aB I (aU oS iu I I)⟩,
   ⟨⟨[⟨34,fun _=>ce cq n.Limit,some 5⟩],_,0,0,I,⟨(fun _=>I),aZ⟩,I,I,I,I,I,fun _ sg _ _=>aB I (bf bp I I)⟩,
   ⟨⟨[⟨35,fun _=>tD cq n.Limit,some 6⟩],_,0,0,I,⟨(fun _=>I),aZ⟩,I,I,I,I,I,fun _ sg _ _=>aB I (dI (ht I) hI)⟩,
   ⟨⟨[⟨36,fun _=>tD cq (IntKind.i64.wrap (n.Limit+(1:Int))),some 7⟩],_,0,0,I,⟨(fun _=>I),aZ⟩,I,I,I,I,I,fun _ sg _ _=>aB I (cI ov E0 (ht I))⟩,
   ⟨⟨[⟨33,fun _=>tO (rI .u8) l c ob.bytes,some 4⟩,⟨37,fun _=>tD lq (IntKind.u32.wrap (IntKind.i64.wrap (n.Limit+(1:Int)))),some 8⟩],_,I,⟨(fun _=>I),(fun _=>I),aZ⟩,I,I,I,fun sg=>gP I (tS (xs:=[.tmp 33,.tmp 37]) (ts:=[tD DI ob.bytes,tD lq (IntKind.u32.wrap (IntKind.i64.wrap (n.Limit+(1:Int))))]) PO (Gy _ _ q_r1) ⟨(io (ht I)),(ht I),aZ⟩)⟩,
   aZ⟩⟩⟩⟩⟩⟩⟩⟩⟩⟩ (fun sg=>?_)
  refine(show RG _ _ _ _ [tip (rI .u8) 5 ((sg 9).h 0).1 ((sg 9).h 0).2 r1,bx (rH bd [(0,ax l c ob.bytes.length)]) 60 b ob,tip (rI .u8) 5 l c ob.bytes] _ from ?_);refine zo I (bg (ht I))<|zo I (fe 0 nS I I I)<|iV (EffOK.fr1 (li (hs' :=[(0,ax ((sg 9).h 0).1 ((sg 9).h 0).2 r1.length)]) (u:=ax ((sg 9).h 0).1 ((sg 9).h 0).2 r1.length) vq I I lQ I ⟨.inl ⟨I,I,I⟩,aZ⟩ (ht I) (io (ht I)) (vr (ht I)))) fun i2=>?_;refine(show RG _ _ _ _ [bx (rH bd [(0,ax ((sg 9).h 0).1 ((sg 9).h 0).2 r1.length)]) 60 b ({ob with bytes:=r1}:aI),tip (rI .u8) 5 ((sg 9).h 0).1 ((sg 9).h 0).2 r1,tip (rI .u8) 5 l c ob.bytes] _ from ?_);refine kE<|wK<|ay<|aV<|aV ?_;cases so h;exact gU I (sg 9) I I
 ·obtain⟨hx,h⟩:=h
  refine aq<|aj<|zo I (ek I I)<|ai<|aa<|bt (ht I) (cX hx)<|dk<|aa<|ak<|aj<|zo I (gI pR pU I I I (cS hx))<|zo I (bf pU I I)<|bJ (r:=iY) (x:=(⟨(0:Int),false⟩:kq)) pU (fun _=>PT _) I fun b1=>aQ pU I aY I (ht I) (ht I)<|bE 5 I<|ai<|aj<|av I ?_;refine zo I (aU wC sh I I)<|zo I (bf bp I I)<|zo I (aH (r:=cq) (ys:=[e.Col]) (xs:=[.tmp 21]) cR bp I I I I I ⟨(ht I),aZ⟩)<|bA h fun r2 q_r2 h=>eS (EffOK.fr1 (EffOK.fr1 (da (xs:=[.tmp 19,.tmp 22]) (ts:=[tV (aL b 0),iK ([e.Col])]) (eH b ob (wT [(l,c)])) _ I u6 (pW b (wT [(l,c)]) ob _ q_r2) ⟨(ht I),(ht I),aZ⟩ (fun _=>I)))) I fun i3=>?_;refine(show RG _ _ _ _ [bx (rH bd [(0,ax (i3.h 0).1 (i3.h 0).2 r2.bytes.length)]) 60 b r2,tip (rI .u8) 5 (i3.h 0).1 (i3.h 0).2 r2.bytes] ((23,tT [])::_)from ?_);refine ai<|ae<|av I<|zo I (aU IZ BG I I)<|zo I (bf As I I)<|bA h fun r3 q_r3 h=>eS (EffOK.fr1 (EffOK.fr1 (da (xs:=[.tmp 24,.tmp 26]) (ts:=[tV (aL b 0),fx e.Desc]) (eH b r2 i3) _ I O8 (I0 b i3 r2 _ q_r3) ⟨(ht I),(ht I),aZ⟩ (fun _=>I)))) I fun i4=>?_;refine(show RG _ _ _ _ [bx (rH bd [(0,ax (i4.h 0).1 (i4.h 0).2 r3.bytes.length)]) 60 b r3,tip (rI .u8) 5 (i4.h 0).1 (i4.h 0).2 r3.bytes] ((27,tT [])::_)from ?_);refine ay<|ac<|af<|ae<|zo rfl (jL (cy hx hN) rfl)<|av rfl<|ay ?_;exact aM (aD (ih (i1+1) r3 (i4.h 0).1 (i4.h 0).2 ⟨cx hx,h⟩) (aR I))

theorem SZ(b:Nat)(ix:OI)(w1:aI)(p:dn){R:aI}(h:m9 w1 p=some R):dK ba 41 [tV (aL b 0),tD iy p] (eH b w1 ix) (fun _:OI=>tT []) (fun j=>eH b R j):=by
 refine dK.of Tryz.func41 I I I fun w0 S0=>?_;refine(show CG _ _ _ [bx (rH bd [(0,ax (ix.h 0).1 (ix.h 0).2 w1.bytes.length)]) 60 b w1,tip (rI .u8) 5 (ix.h 0).1 (ix.h 0).2 w1.bytes] _ from ?_);refine aj<|zo I (kp I)<|ai<|aj<|BY (Di (fun y:(aI→ap→Option (Unit×aI))=>eg ba xQ (eH b) xP y)) Ah I fun b1=>av I ?_
 refine uW ((show cE _ _ _ _ (eg ba xQ (eH b) xP Jv)from pF S6 (ht I) (fun c x R h i=>by
   obtain⟨r,h1,rfl⟩:=Ck.1 h
   exact PB _ _ _ _ h1))) I ?_
 refine jt (γ:=(fun y:(aI→ap→Option (Unit×aI))=>eg ba xQ (eH b) xP y)) (y:=Jv) Ci (iz ov) (ht I) (sw hI) (ht I) fun os=>av I ?_
 refine uW ((show cE _ _ _ _ (eg ba xQ (eH b) xP Jv)from pF S6 (ht I) (fun c x R h i=>by
   obtain⟨r,h1,rfl⟩:=Ck.1 h
   exact PB _ _ _ _ h1))) I ?_
 refine jt (γ:=(fun y:(aI→ap→Option (Unit×aI))=>eg ba xQ (eH b) xP y)) (y:=Jv) Ci (iz ov) (ht I) (sw hI) (ht I) fun os1=>av I ?_
 refine uW ((show cE _ _ _ _ (eg ba xQ (eH b) xP Qa)from pF U8 (ht I) (fun c x R h i=>by
   obtain⟨r,h1,rfl⟩:=Ck.1 h
   exact SX _ _ _ _ h1))) I ?_
 refine jt (γ:=(fun y:(aI→ap→Option (Unit×aI))=>eg ba xQ (eH b) xP y)) (y:=Qa) Ci (iz ov) (ht I) (sw hI) (ht I) fun os2=>av I ?_
 refine uW ((show cE _ _ _ _ (eg ba xQ (eH b) xP Qc)from pF U7 (ht I) (fun c x R h i=>by
   obtain⟨r,h1,rfl⟩:=Ck.1 h
   exact SW _ _ _ _ h1))) I ?_
 refine jt (γ:=(fun y:(aI→ap→Option (Unit×aI))=>eg ba xQ (eH b) xP y)) (y:=Qc) Ci (iz ov) (ht I) (sw hI) (ht I) fun os3=>av I ?_
 refine uW ((show cE _ _ _ _ (eg ba xQ (eH b) xP DM)from pF RL (ht I) (fun c x R h i=>by
   obtain⟨r,h1,rfl⟩:=Ck.1 h
   exact Me _ _ _ _ h1))) I ?_
 refine jt (γ:=(fun y:(aI→ap→Option (Unit×aI))=>eg ba xQ (eH b) xP y)) (y:=DM) Ci (iz ov) (ht I) (sw hI) (ht I) fun os4=>av I ?_
 refine uW ((show cE _ _ _ _ (eg ba xQ (eH b) xP DM)from pF RL (ht I) (fun c x R h i=>by
   obtain⟨r,h1,rfl⟩:=Ck.1 h
   exact Me _ _ _ _ h1))) I ?_
 refine jt (γ:=(fun y:(aI→ap→Option (Unit×aI))=>eg ba xQ (eH b) xP y)) (y:=DM) Ci (iz ov) (ht I) (sw hI) (ht I) fun os5=>av I ?_
 refine uW ((show cE _ _ _ _ (eg ba xQ (eH b) xP DM)from pF RL (ht I) (fun c x R h i=>by
   obtain⟨r,h1,rfl⟩:=Ck.1 h
   exact Me _ _ _ _ h1))) I ?_
 refine jt (γ:=(fun y:(aI→ap→Option (Unit×aI))=>eg ba xQ (eH b) xP y)) (y:=DM) Ci (iz ov) (ht I) (sw hI) (ht I) fun os6=>av I ?_
 refine uW ((show cE _ _ _ _ (eg ba xQ (eH b) xP Qd)from pF U6 (ht I) (fun c x R h i=>by
   obtain⟨r,h1,rfl⟩:=Ck.1 h
   exact SV _ _ _ _ h1))) I ?_
 refine jt (γ:=(fun y:(aI→ap→Option (Unit×aI))=>eg ba xQ (eH b) xP y)) (y:=Qd) Ci (iz ov) (ht I) (sw hI) (ht I) fun os7=>av I ?_
 refine uW ((show cE _ _ _ _ (eg ba xQ (eH b) xP Qb)from pF U5 (ht I) (fun c x R h i=>by
   obtain⟨r,h1,rfl⟩:=Ck.1 h
   exact SU _ _ _ _ h1))) I ?_
 refine jt (γ:=(fun y:(aI→ap→Option (Unit×aI))=>eg ba xQ (eH b) xP y)) (y:=Qb) Ci (iz ov) (ht I) (sw hI) (ht I) fun os8=>av I<|aS I<|ai<|aj<|av I<|zo I (aU lE fQ I I)<|zo I (bf tA I I)<|zo I (d5 pS I)<|zo I (aH (r:=cq) (ys:=[(p.Frags.length:Int)]) (xs:=[.tmp 34]) cR bp I I I I I ⟨(ht I),aZ⟩)<|bA h fun r q_r h=>eS (EffOK.fr2 (EffOK.fr2 (da (xs:=[.tmp 31,.tmp 35]) (ts:=[tV (aL b 0),iK ([(p.Frags.length:Int)])]) (eH b w1 ix) _ I u6 (pW b ix w1 _ q_r) ⟨(ht I),(ht I),aZ⟩ (fun _=>I)))) I fun i=>?_;refine(show RG _ _ _ _ [bx (rH bd [(0,ax (i.h 0).1 (i.h 0).2 r.bytes.length)]) 60 b r,tip (rI .u8) 5 (i.h 0).1 (i.h 0).2 r.bytes,tP (Di (fun y:(aI→ap→Option (Unit×aI))=>eg ba xQ (eH b) xP y)) Ah b1 none os8 M3] ((36,tT [])::_)from ?_);refine ai<|aj<|zo I (aU lE fQ I I)<|zo I (bf tA I I)<|zo I (d5 pS I)<|zo I (bm hI)<|ai<|ak<|aT (k:=38) I fun hN=>bn<|dB<|dB<|po ?_;refine aD (gF (Z:=fun ls i1 ob l c=>(p.Frags.drop i1=ls)∧fZ ls ob=some R) (Of:=fun _ i1 ob l c=>[tP (Di (fun y:(aI→ap→Option (Unit×aI))=>eg ba xQ (eH b) xP y)) Ah b1 none os8 M3,bx (rH bd [(0,ax l c ob.bytes.length)]) 60 b ob,tip (rI .u8) 5 l c ob.bytes]) (Gf:=fun _ i1 ob l c=>[(0,tV (aL b 0)),(4,tV (th b1)),(38,dM (fa) p.Frags),(39,iB p.Frags),(40,cb (i1:Int))]) (fun i1 ob l c h=>?_) (fun e tl ih i1 ob l c h=>?_) p.Frags 0 r (i.h 0).1 (i.h 0).2 ⟨I,h⟩) (aR I)
 ·obtain⟨hx,h⟩:=h
  refine aq<|aj<|zo I (ek I I)<|ai<|aa<|bu (ht I) (de hx)<|bc ?_;refine M (M (aC ?_));refine aX<|aV<|aV ?_;cases so h;exact gU I (wT [(l,c)]) I I
 ·obtain⟨hx,h⟩:=h
  refine aq<|aj<|zo I (ek I I)<|ai<|aa<|bt (ht I) (cX hx)<|dk<|aa<|ak<|aj<|zo I (gI pS ml I I I (cS hx))<|zo I (bf ml I I)<|bJ (r:=fa) (x:=DL) ml (fun _=>rn _) I fun b2=>aQ ml I aY I (ht I) (ht I)<|bE 6 I<|ai<|aj<|av I ?_;refine zo I (aU tm mU I I)<|zo I (bf bp I I)<|zo I (aU tk mT I I)<|zo I (bf bp I I)<|zo I (aH (r:=cq) (ys:=[e.At,e.Way]) (xs:=[.tmp 46,.tmp 48]) cR bp I I I I I ⟨(ht I),(ht I),aZ⟩)<|bA h fun r1 q_r1 h=>eS (EffOK.fr2 (EffOK.fr2 (da (xs:=[.tmp 44,.tmp 49]) (ts:=[tV (aL b 0),iK ([e.At,e.Way])]) (eH b ob (wT [(l,c)])) _ I u6 (pW b (wT [(l,c)]) ob _ q_r1) ⟨(ht I),(ht I),aZ⟩ (fun _=>I)))) I fun i2=>?_;refine(show RG _ _ _ _ [bx (rH bd [(0,ax (i2.h 0).1 (i2.h 0).2 r1.bytes.length)]) 60 b r1,tip (rI .u8) 5 (i2.h 0).1 (i2.h 0).2 r1.bytes,tP (Di (fun y:(aI→ap→Option (Unit×aI))=>eg ba xQ (eH b) xP y)) Ah b1 none os8 M3] ((50,tT [])::_)from ?_);refine ai<|aj<|av I<|zo I (aU qm jV I I)<|zo I (bf bV I I)<|bA h fun r2 q_r2 h=>eS (EffOK.fr1 (EffOK.fr1 (da (xs:=[.tmp 51,.tmp 53]) (ts:=[tV (aL b 0),iK e.Cols]) (eH b r1 i2) _ I RK (Md b i2 r1 _ q_r2) ⟨(ht I),(ht I),aZ⟩ (fun _=>I)))) I fun i3=>?_;refine(show RG _ _ _ _ [bx (rH bd [(0,ax (i3.h 0).1 (i3.h 0).2 r2.bytes.length)]) 60 b r2,tip (rI .u8) 5 (i3.h 0).1 (i3.h 0).2 r2.bytes,tP (Di (fun y:(aI→ap→Option (Unit×aI))=>eg ba xQ (eH b) xP y)) Ah b1 none os8 M3] ((54,tT [])::_)from ?_);refine ai<|aj<|av I<|zo I (aU re kC I I)<|zo I (bf ox I I)<|zo I (d5 ji I)<|zo I (aH (r:=cq) (ys:=[(e.Nodes.length:Int)]) (xs:=[.tmp 58]) cR bp I I I I I ⟨(ht I),aZ⟩)<|bA h fun r3 q_r3 h=>eS (EffOK.fr1 (EffOK.fr1 (da (xs:=[.tmp 55,.tmp 59]) (ts:=[tV (aL b 0),iK ([(e.Nodes.length:Int)])]) (eH b r2 i3) _ I u6 (pW b i3 r2 _ q_r3) ⟨(ht I),(ht I),aZ⟩ (fun _=>I)))) I fun i4=>?_;refine(show RG _ _ _ _ [bx (rH bd [(0,ax (i4.h 0).1 (i4.h 0).2 r3.bytes.length)]) 60 b r3,tip (rI .u8) 5 (i4.h 0).1 (i4.h 0).2 r3.bytes,tP (Di (fun y:(aI→ap→Option (Unit×aI))=>eg ba xQ (eH b) xP y)) Ah b1 none os8 M3] ((60,tT [])::_)from ?_);refine ai<|aj<|zo I (aU re kC I I)<|zo I (bf ox I I)<|zo I (d5 ji I)<|zo I (bm hI)<|ai<|ak<|aT (k:=62) I fun hN1=>bn<|dB<|dB<|po ?_;refine aD (gF (Z:=fun ls1 i5 ob1 l1 c1=>(e.Nodes.drop i5=ls1)∧ew (fZ tl) ls1 ob1=some R) (Of:=fun _ i5 ob1 l1 c1=>[tP (Di (fun y:(aI→ap→Option (Unit×aI))=>eg ba xQ (eH b) xP y)) Ah b1 none os8 M3,bx (rH bd [(0,ax l1 c1 ob1.bytes.length)]) 60 b ob1,tip (rI .u8) 5 l1 c1 ob1.bytes]) (Gf:=fun _ i5 ob1 l1 c1=>[(0,tV (aL b 0)),(4,tV (th b1)),(38,dM (fa) p.Frags),(39,iB p.Frags),(40,cb (i1:Int)),(62,dM (aJ) e.Nodes),(63,iB e.Nodes),(64,cb (i5:Int))]) (fun i5 ob1 l1 c1 h=>?_) (fun e1 tl1 ih1 i5 ob1 l1 c1 h=>?_) e.Nodes 0 r3 (i4.h 0).1 (i4.h 0).2 ⟨I,h⟩) (aR I)
  ·obtain⟨hx1,h⟩:=h
   refine aq<|aj<|zo I (ek I I)<|ai<|aa<|bu (ht I) (de hx1)<|bc ?_;refine M (M (aC ?_));refine ac<|af<|ae<|zo rfl (jL (cy hx hN) rfl)<|av rfl<|ay ?_;exact aM (aD (ih (i1+1) ob1 l1 c1 ⟨cx hx,h⟩) (aR I))
  ·obtain⟨hx1,h⟩:=h
   refine aq<|aj<|zo I (ek I I)<|ai<|aa<|bt (ht I) (cX hx1)<|dk<|aa<|ak<|aj<|zo I (gI ji ej I I I (cS hx1))<|zo I (bf ej I I)<|bJ (r:=aJ) (x:=DK) ej (fun _=>iX _) I fun b3=>aQ ej I aY I (ht I) (ht I)<|bE 8 I<|ai<|aj<|av I ?_;refine zo I (aU eJ cg I I)<|zo I (bf bp I I)<|zo I (aH (r:=cq) (ys:=[e1.Op]) (xs:=[.tmp 70]) cR bp I I I I I ⟨(ht I),aZ⟩)<|bA h fun r4 q_r4 h=>eS (EffOK.fr2 (EffOK.fr2 (da (xs:=[.tmp 68,.tmp 71]) (ts:=[tV (aL b 0),iK ([e1.Op])]) (eH b ob1 (wT [(l1,c1)])) _ I u6 (pW b (wT [(l1,c1)]) ob1 _ q_r4) ⟨(ht I),(ht I),aZ⟩ (fun _=>I)))) I fun i6=>?_;refine(show RG _ _ _ _ [bx (rH bd [(0,ax (i6.h 0).1 (i6.h 0).2 r4.bytes.length)]) 60 b r4,tip (rI .u8) 5 (i6.h 0).1 (i6.h 0).2 r4.bytes,tP (Di (fun y:(aI→ap→Option (Unit×aI))=>eg ba xQ (eH b) xP y)) Ah b1 none os8 M3] ((72,tT [])::_)from ?_);refine ai<|aj<|av I<|zo I (aU eJ cg I I)<|zo I (bf bp I I)<|zo I (FZ (γ:=(fun y:(aI→ap→Option (Unit×aI))=>eg ba xQ (eH b) xP y)) (z:=fun _ _=>none) Ci (iz ov) R9 (fun _=>CX) (.tail _ (.tail _ (.head _))) (ht I) (sw (ht I)))<|av I<|zo I (nj I I)<|zo I (nj I I)<|aS I<|aS I<|ai<|aj<|av I<|ai<|bR h I (fun h=>?_) (fun h=>?_)
   ·refine ae<|av I<|zo I (bf ej I I)<|bA h fun r5 q_r5 h=>eS (EffOK.fr1 (EffOK.fr1 (yF (args:=xQ) (Ob:=eH b) (res:=xP) (f:=((tg M3 e1.Op).getD (fun _ _=>none))) (x:=r4) (y:=((e1):ap)) (R:=r5) (i:=i6) (xs:=[.tmp 82]) _ I (ht I) q_r5 ⟨(ht I),aZ⟩ (fun _=>I)))) I fun i7=>?_;refine(show RG _ _ _ _ [bx (rH bd [(0,ax (i7.h 0).1 (i7.h 0).2 r5.2.bytes.length)]) 60 b r5.2,tip (rI .u8) 5 (i7.h 0).1 (i7.h 0).2 r5.2.bytes,tP (Di (fun y:(aI→ap→Option (Unit×aI))=>eg ba xQ (eH b) xP y)) Ah b1 none os8 M3] ((83,tT [])::_)from ?_);refine ay<|ac<|af<|ae<|zo rfl (jL (cy hx1 hN1) rfl)<|av rfl<|ay<|aV<|aV<|bl ?_;exact aM (aD (ih1 (i5+1) r5.2 (i7.h 0).1 (i7.h 0).2 ⟨cx hx1,h⟩) (aR I))
   ·refine aP<|ac<|af<|ae<|zo rfl (jL (cy hx1 hN1) rfl)<|av rfl<|ay<|aV<|aV<|bl ?_;exact aM (aD (ih1 (i5+1) r4 (i6.h 0).1 (i6.h 0).2 ⟨cx hx1,h⟩) (aR I))

theorem Rk(l:Option Nat)(c:Nat)(b:(List Int))(l1:(List aF)){R:(List Int)×Int}(h:uD b l1=some R):dK ba 200 [oY l c b,dM (bF) l1] [tip (rI .u8) 5 l c b] (fun _:OI=>tT [dM ((rI .u8)) R.1,cb R.2]) (fun _=>[]):=by
 refine dK.of Tryz.func200 I I I fun w0 S0=>B9 0 I<|aj<|cd false (rI .u8) 5<|zo I (aN sf)<|zo I (dD)<|ai<|aa<|aj<|av I<|zo I (d5 Tryz.underlying101 I)<|zo I (bm hI)<|ai<|ak<|aT (k:=10) I fun hN=>bn<|jv ?_;refine aD (gF (Z:=fun ls i b1 l2 c1=>(l1.drop i=ls)∧kD ls b1=some R) (Of:=fun _ i b1 l2 c1=>[tip (rI .u8) 5 l2 c1 b1]) (Gf:=fun _ i b1 l2 c1=>[(0,tO (rI .u8) l2 c1 b1),(10,dM (bF) l1),(11,iB l1),(12,cb (i:Int))]) (fun i b1 l2 c1 h=>?_) (fun e tl ih i b1 l2 c1 h=>?_) l1 0 b l c ⟨I,h⟩) (aR I)
 ·obtain⟨hx,h⟩:=h
  refine aq<|aj<|zo I (ek I I)<|ai<|aa<|bu (ht I) (de hx)<|bc ?_;refine M (M (aC ?_));refine af<|aj<|av rfl<|aS rfl<|zo rfl (dD)<|ai<|ah<|fT 4 rfl<|aX ?_;cases so h;exact GW (ts:=[dM ((rI .u8)) b1,cb 0]) (rvs:=[.tmp 4,.tmp 5]) I I ⟨Av I,Av I,aZ⟩ u7 I I
 ·obtain⟨hx,h⟩:=h
  refine aq<|aj<|zo I (ek I I)<|ai<|aa<|bt (ht I) (cX hx)<|dk<|aa<|ak<|aj<|zo I (gI Tryz.underlying101 ft I I I (cS hx))<|zo I (bf ft I I)<|bJ (r:=bF) (x:=DH) ft (fun _=>ni _) I fun b2=>aQ ft I aY I (ht I) (ht I)<|bE 7 I<|ai<|aj<|zo I (bf ft I I) ?_;refine bA h fun r q_r h=>zo I (aG PK (I7 _ q_r) ⟨(ht I),aZ⟩)<|av I<|zo I (nj I I)<|zo I (nj I I)<|aS I<|aS I<|ai<|aa<|aj<|av I<|zo I (Aq I)<|ai<|bR h I (fun h=>?_) (fun h=>?_)
  ·refine aj<|av I<|cd false (rI .u8) 5<|zo I (aN sf)<|aS I<|ai<|ah ?_;refine J (au (J (J (au (J ?_)))));refine ea<|bS 4 I<|fT 4 I<|aX<|aX ?_;cases so h;exact GW (ts:=[dM ((rI .u8)) sr,cb r.2]) (rvs:=[.tmp 4,.tmp 5]) I I ⟨Av I,Av I,aZ⟩ u7 I I
  ·refine dk<|ae<|av I<|av I<|bA h fun b3 q_b3 h=>mh iv I I I I gV I I (ht I) (ht I) q_b3 fun l3 c2=>aS I<|ay<|ac<|af<|ae<|zo rfl (jL (cy hx hN) rfl)<|av rfl<|ay ?_;exact aM (aD (ih (i+1) b3 l3 c2 ⟨cx hx,h⟩) (aR I))

theorem OF(r:(List aF)){R:(List Int)×Int}(h:wF r=some R):bk ba 160 [dM (bF) r] (tT [dM ((rI .u8)) R.1,cb R.2]):=by
 refine bk.of Tryz.func160 I I I fun w0 S0=>aj<|zo I (aN (show aK _ _ _ vl from iE))<|zo I (dD)<|ai<|aa<|aj<|av I<|zo I (d5 pY I)<|zo I (cH (ht I) hI)<|ai<|bR h I (fun h=>?_) (fun h=>?_)
 ·refine aj<|zo I (aN (show aK _ _ _ vl from iE))<|zo I (dD)<|ai<|ah<|J ?_;cases so h;exact bQ I I I
 ·refine dk<|aj<|av I<|zo I (d5 pY I)<|zo I (cI ov kV (ht I))<|ge (r:=(rI .u8)) (ys:=[(IntKind.u8.wrap (r.length:Int))]) (xs:=[.tmp 9]) gV iv I I I I I ⟨(ht I),aZ⟩ I fun l c=>av I<|db<|ca 10 I<|bA h fun r1 q_r1 h=>BZ [tip (rI .u8) 5 l c ([(IntKind.u8.wrap (r.length:Int))])] _ I TN (Rk l c _ _ q_r1) ⟨(vr (ht I)),(ht I),aZ⟩ I fun i=>?_;refine(show RG _ _ _ _ [] ((12,tT [dM ((rI .u8)) r1.1,cb r1.2])::_)from ?_);refine zo I (nj I I)<|zo I (nj I I)<|aS I<|aS I<|ai<|ah ?_;cases so h;exact bQ I I I

theorem OW(l:(List (List aF))){R:(List Int)×Int×Int}(h:uE l=some R):bk ba 118 [dM (pZ) l] (tT [dM ((rI .u8)) R.1,cb R.2.1,cb R.2.2]):=by
 refine bk.of Tryz.func118 I I I fun w0 S0=>aj<|zo I (aN (show aK _ _ _ vl from iE))<|zo I (dD)<|zo I (dD)<|ai<|Ca<|aa<|aj<|av I<|zo I (d5 nV I)<|zo I (cH (ht I) hI)<|ai<|bR h I (fun h=>?_) (fun h=>?_)
 ·refine aj<|zo I (aN (show aK _ _ _ vl from iE))<|zo I (dD)<|zo I (dD)<|ai<|ah ?_;refine J (pp ?_);cases so h;exact rG I I I I
 ·refine dk<|aj<|av I<|zo I (d5 nV I)<|zo I (cI ov Tryz.underlying207 (ht I))<|bA h fun r q_r h=>cY PM (Gv _ _ q_r) ⟨iE,(ht I),aZ⟩ I fun l1 c=>aS I<|ai<|aj<|zo I (dD)<|zo I (dD)<|ai<|aa<|Cb<|af<|aa<|aj ?_;refine av I<|zo I (d5 nV I)<|zo I (bm hI)<|ai ?_;refine KN (Z:=fun b l2 c1 at1 e=>oM b at1 e=some R) (Of:=fun b l2 c1 at1 e=>[df (rI .u8) 5 l2 c1 b]) (Gf:=fun b l2 c1 at1 e=>[(5,oY l2 c1 b),(6,cb at1),(7,cb e)]) (fun b l2 c1 at1 e h=>?_) (fun K=>?_)
  ·skip
   refine af<|aa<|aj<|av rfl<|zo rfl (Aq rfl)<|ai<|bR h rfl (fun h=>?_) (fun h=>?_)
   ·refine aj<|av I<|av I<|zo I (aN (show aK _ _ _ vl from iE))<|aS I<|aS I<|ai<|ah ?_;refine J (pp ?_);refine aX ?_;cases so h;exact rG I I I I
   ·refine dk<|aj<|av I<|aS I<|zo I (dD)<|zo I (dD)<|ai<|ah<|pp<|ea<|bS 5 I<|bS 41 I<|bS 2 I<|fT 2 I<|aX ?_;cases so h;exact rG I I I I
  ·skip
   refine aT (k:=18) I fun hN=>bn ?_;refine aD (GQ (Z:=fun ls i b1 l3 c2 at2 e1=>(l.drop i=ls)∧mW ls i b1 at2 e1=some R) (Of:=fun _ i b1 l3 c2 at2 e1=>[df (rI .u8) 5 l3 c2 b1]) (Gf:=fun _ i b1 l3 c2 at2 e1=>[(5,oY l3 c2 b1),(6,cb at2),(7,cb e1),(18,dM (pZ) l),(19,iB l),(20,cb (i:Int))]) (fun i b1 l3 c2 at2 e1 h=>?_) (fun e2 tl ih i b1 l3 c2 at2 e1 h=>?_) l 0 r l1 c (0:Int) (0:Int) ⟨I,h⟩) (aR I)
   ·obtain⟨hx,h⟩:=h
    refine aq<|aj<|zo I (ek I I)<|ai<|aa<|bu (ht I) (de hx)<|bc ?_;refine M (M (aC ?_));exact bD (K b1 l3 c2 at2 e1 h) (aR I)
   ·obtain⟨hx,h⟩:=h
    refine aq<|aj<|zo I (ek I I)<|ai<|aa<|bt (ht I) (cX hx)<|dk<|aa<|ak<|aj<|av I<|zo I (gI nV pV I I I (cS hx))<|zo I (bf pV I I)<|aS I<|aS I<|ai<|aj<|zo I (aN (show aK _ _ _ vl from iE)) ?_;refine ai<|aa<|aj<|av I<|bA h fun r1 q_r1 h=>zo I (aG Uc (OF _ q_r1) ⟨(ht I),aZ⟩)<|av I<|zo I (nj I I)<|zo I (nj I I)<|aS I<|aS I<|ai<|aj<|av I<|zo I (Aq I)<|ai<|bR h I (fun h=>?_) (fun h=>?_)
    ·refine aj<|av I<|aS I<|ai<|bc ?_;refine M (cF I (M (M (aC ?_))));exact bD (K b1 l3 c2 (i:Int) r1.2 h) (aR I)
    ·refine dk<|ae<|av I<|av I<|bA h fun b2 q_b2 h=>be iv I I I I gV I I (ht I) (ht I) q_b2 fun l4 c3=>aS I<|ay<|ac<|af<|ae<|zo rfl (jL (cy hx hN) rfl)<|av rfl<|ay ?_;exact aM (aD (ih (i+1) b2 l4 c3 at2 r1.2 ⟨cx hx,h⟩) (aR I))

end Go.Proofs.YtdohlidddcgfjaaGreat

