/- cT of this claim: P0. -/
import Derived.Test.YtdohlidddcgfjaaGreatFaT
import Derived.Test.YtdohlidddcgfjaaGreatFaF
set_option linter.all false
namespace Go.Proofs.YtdohlidddcgfjaaGreat
open Go
abbrev Jv:=fun(mc:aI) (mx:ap)=>(fc mc mx).map fun mr=>((),mr)
abbrev Qa:=fun(mc:aI) (mx:ap)=>(hZ mc mx).map fun mr=>((),mr)
abbrev Qc:=fun(mc:aI) (mx:ap)=>(gp mc mx).map fun mr=>((),mr)
abbrev DM:=fun(mc:aI) (mx:ap)=>(ed mc mx).map fun mr=>((),mr)
abbrev Qd:=fun(mc:aI) (mx:ap)=>(fY mc mx).map fun mr=>((),mr)
abbrev Qb:=fun(mc:aI) (mx:ap)=>(gM mc mx).map fun mr=>((),mr)
abbrev M3:=gi (gi (gi (gi (gi (gi (gi (gi (gi ([]:List (Int×(aI→ap→Option (Unit×aI)))) (1:Int) Jv) (9:Int) Jv) (2:Int) Qa) (3:Int) Qc) (4:Int) DM) (10:Int) DM) (11:Int) DM) (5:Int) Qd) (8:Int) Qb
abbrev uO:=(⟨(0:Int),(0:Int),(0:Int),(0:Int),(⟨[],false,(0:Int)⟩:dH)⟩:co)
abbrev u0:=(⟨[]⟩:bv)
abbrev DK:=(⟨(0:Int),(0:Int),(0:Int),(0:Int),[],false,u0,[],[],[],[],(0:Int)⟩:ap)
abbrev cq:=rI .i64
abbrev o0:=fun(x:Bool)=>fx x
abbrev DH:=(⟨(0:Int),(0:Int),(0:Int),[]⟩:aF)
abbrev xQ:=fun(x:ap)=>[tD aJ x]
abbrev xP:=fun(x:Unit)=>tT []
abbrev uZ:=(⟨[]⟩:dn)
abbrev sr:=([]:List Int)
abbrev K8:=fun(x:ap×ap)=>[tD aJ x.1,tD aJ x.2]
abbrev xR:=(-1:Int)
abbrev M2:=(⟨(1:Int),xR,xR,(0:Int),[(1:Int),(2:Int),(3:Int)],false,u0,[],[],[],[],(0:Int)⟩:ap)
abbrev AQ:=(⟨(0:Int),(0:Int),(0:Int),(0:Int),DH⟩:bC)
abbrev Jw:=(⟨(0:Int),(0:Int),(0:Int),(0:Int),(0:Int),(0:Int),uZ,uO,(0:Int)⟩:cu)
abbrev DL:=(⟨[],(0:Int),(0:Int),[]⟩:ez)
abbrev xS:=fun(x:Bool)=>tD rB x
noncomputable abbrev K7:=kG ba K8 o0 (fun(x:ap×ap)=>nE x.1 x.2)
abbrev lq:=rI .u32
abbrev vl:=dM ((rI .u8)) ([])
abbrev pZ:=gB bF
abbrev o3:=rI .u64
abbrev Co:=(⟨(0:Int),u0⟩:fy)
abbrev M1:=fun(x:ez×ez)=>[tD fa x.1,tD fa x.2]
abbrev M0:=fun(x:bC×(List Int))=>[tD bG x.1,iK x.2]
abbrev qN:=iK ([])
abbrev MZ:=fun(x:fy×fy)=>[tD eQ x.1,tD eQ x.2]
abbrev E7:=fun(x:Int)=>[cb x]
abbrev K5:=fun(x:aF)=>[tD bF x]
abbrev tw:=gB cq
abbrev PZ:=fun(x:bC×(List Int))=>[tD bG x.1,tD tw x.2]
abbrev MY:=fun(x:Int×Int)=>tT [cb x.1,cb x.2]
abbrev K0:=fun(x:kq)=>[tD iY x]
abbrev PY:=fun(x:bv×bv)=>[tD bL x.1,tD bL x.2]
abbrev Cn:=oz lq 256
abbrev KZ:=fun(x:Int)=>[tD cq x]
abbrev PX:=fun(x:Int×Int)=>tT [tD cq x.1,tD cq x.2]
abbrev PW:=2^(min (Int.toNat (8:Int)) IntKind.u32.bits)
abbrev DI:=gB (rI .u8)
abbrev PV:=fun(x:(List aF))=>[dM (bF) x]
abbrev Cm:=oz cq 2
abbrev Ha:=dM (iW) ([])
abbrev Ah:=US .i64
abbrev KY:=([]:List (List Int))
abbrev PU:=fun(x:Int)=>mR x
abbrev Ju:=[xR,xR]
abbrev MX:=(⟨[]⟩:aI)
abbrev MW:=tV (ax none 0 0)
set_option maxRecDepth 100000

theorem O0{R:(List Int)}(h:y5=some R):bk ba 112 [] (tD Cn R):=by
 refine bk.of Tryz.func112 I I I fun w0 S0=>aj<|bJ (r:=Cn) (x:=(List.replicate 256 (0:Int))) CW (fun _=>yI (r:=lq) 256 (fun _=>I) _) I fun b=>ai<|aj<|bA h fun e q_e h=>zo I (iS DE oy (.head _) (ht I) hI q_e)<|bA h fun ar q_ar h=>wI oy I q_e (so q_ar) (ht I) hI<|ai<|aa<|aj<|zo I (dD)<|ai<|ak<|bn ?_;refine aD (wN (Z:=fun n1 n out=>rq n1 n out=some R) (Of:=fun n out=>[bx Cn 152 b out]) (Gf:=fun n out=>[(0,tV (aL b 0)),(1,cb n)]) (fun n out h=>nn h) (fun n1 ih n out h=>?_) ef (64:Int) ar h) (aR I);refine aq<|aa<|aj<|av I<|zo I (cH (ht I) hI)<|ai<|bR h I (fun h=>?_) (fun h=>?_)
 ·refine dk<|aa<|ak<|aj<|av I<|zo I (zd hI (ht I))<|bA h fun e1 q_e1 h=>zo I (iS DE oy (.head _) (ht I) (ht I) q_e1)<|zo I (yn oy I I (.head _) q_e1 (ht I))<|aS I<|ai<|aj<|av I<|av I<|zo I (xu (ht I) hI (by decide))<|bA h fun e2 q_e2 h=>zo I (iS DE oy (.head _) (ht I) (ht I) q_e2)<|bA h fun ar1 q_ar1 h=>wI oy I q_e2 (so q_ar1) (ht I) (ht I)<|ay ?_;refine af<|aj<|av rfl<|zo rfl (Qt (ht rfl) hI)<|zo rfl (d6 rfl)<|ai<|bR h rfl (fun h=>?_) (fun h=>?_)
  ·refine ae<|av I<|bA h fun e3 q_e3 h=>zo I (iS DE oy (.head _) (ht I) (ht I) q_e3)<|zo I (yn oy I I (.head _) q_e3 (ht I))<|zo I (Bp (ht I) hI)<|zo I (iS DE oy (.head _) (ht I) (ht I) q_e3)<|bA h fun ar2 q_ar2 h=>wI oy I q_e3 (so q_ar2) (ht I) (ht I)<|ay<|ac<|af<|ae<|av rfl<|zo rfl (xv (ht rfl) hI (by decide))<|aS rfl<|ay ?_;exact aM (aD (ih (IntKind.i64.wrap ((n).tdiv (2:Int))) ar2 h) (aR I))
  ·refine aP<|ac<|af<|ae<|av rfl<|zo rfl (xv (ht rfl) hI (by decide))<|aS rfl<|ay ?_;exact aM (aD (ih (IntKind.i64.wrap ((n).tdiv (2:Int))) ar1 h) (aR I))
 ·refine bc ?_;refine M (M (aC ?_));refine af<|aa<|aj<|zo rfl (dD)<|ai<|ak<|bn ?_;refine aD (wN (Z:=fun n3 n2 out1=>rp n3 n2 out1=some R) (Of:=fun n2 out1=>[bx Cn 152 b out1]) (Gf:=fun n2 out1=>[(0,tV (aL b 0)),(3,cb n2)]) (fun n2 out1 h=>nn h) (fun n3 ih1 n2 out1 h=>?_) ef (2:Int) out h) (aR I);refine aq<|aa<|aj<|av I<|zo I (d8 (ht I) hI)<|ai<|bR h I (fun h=>?_) (fun h=>?_)
  ·refine dk<|aa<|ak<|aj<|av I<|zo I (bm hI)<|ai<|ak<|bn ?_;refine aD (wN (Z:=fun n4 x out2=>ue (rp n3) n2 n4 x out2=some R) (Of:=fun x out2=>[bx Cn 152 b out2]) (Gf:=fun x out2=>[(0,tV (aL b 0)),(3,cb n2),(30,cb n2),(31,cb x)]) (fun x out2 h=>nn h) (fun n4 ih2 x out2 h=>?_) ef (0:Int) out1 h) (aR I);refine aq<|aj<|zo I (ek I I)<|ai<|aa<|bR h I (fun h=>?_) (fun h=>?_)
   ·refine dk<|aa<|ak<|aj<|av I<|aS I<|ai<|bA h fun e4 q_e4 h=>bA h fun e5 q_e5 h=>bA h fun e6 q_e6 h=>?_
    refine q6 11 (ts:=[cb n2,cb x,cb (IntKind.i64.wrap (n2+x)),cb n2,tV (aL b (n2.toNat*1)),tD lq e4,cb x,tV (aL b (x.toNat*1)),tD lq e5,tD lq (oB .xor .u32 e4 e5),tV (aL b ((IntKind.i64.wrap (n2+x)).toNat*1))]) mixed I I I
     ⟨im 3 I I I (cw I),
     ⟨im 4 I I I (cw I),
     ⟨eF 34 0 35 1 I I I I (dI (ht I) (ht I)),
     ⟨im 3 I I I (cw I),
     ⟨M4 0 37 3 I I I I (iS DE oy (.head _) (ht I) (ht I) q_e4),
     ⟨dQ 38 4 I I I (yn oy I I (.head _) q_e4 (ht I)),
     ⟨im 4 I I I (cw I),
     ⟨M4 0 40 6 I I I I (iS DE oy (.head _) (ht I) (ht I) q_e5),
     ⟨dQ 41 7 I I I (yn oy I I (.head _) q_e5 (ht I)),
     ⟨eF 39 5 42 8 I I I I (Bp (ht I) (ht I)),
     ⟨M4 0 36 2 I I I I (iS DE oy (.head _) (ht I) (ht I) q_e6),
     aZ⟩⟩⟩⟩⟩⟩⟩⟩⟩⟩⟩ ?_
    refine bA h fun ar3 q_ar3 h=>wI oy I q_e6 (so q_ar3) (ht I) (ht I)<|ay<|ac<|af<|ae<|zo rfl (dI (ht rfl) hI)<|av rfl<|ay ?_;exact aM (aD (ih2 (IntKind.i64.wrap (x+(1:Int))) ar3 h) (aR I))
   ·refine bc ?_;refine M (M (aC ?_));refine ac<|af<|ae<|av rfl<|zo rfl (zd (ht rfl) hI)<|aS rfl<|ay ?_;exact aM (aD (ih1 (IntKind.i64.wrap (n2*(2:Int))) out2 h) (aR I))
  ·refine bc ?_;refine M (M (aC ?_));refine af<|aj<|zo rfl (br CW rfl rfl cA (.head _) (ht rfl))<|aQ CW rfl aY rfl (ht rfl) (ht rfl)<|ai<|ah<|Il 0 rfl ?_;cases so h;exact Cc I CW I I I

theorem RD(b:Nat)(register:Int)(uP:(List Int))(c:Int){R:Int}(h:sC register uP c=some R):dK ba 113 [tD (rI .u8) c,tV (aL b 0),ce Cn uP] [bx lq 25 b register] (fun i:OI=>tT []) (fun i=>[bx lq 25 b R]):=by
 refine dK.of Tryz.func113 I I I fun w0 S0=>bA h fun e q_e h=>?_
 refine q6 9 (ts:=[tD lq register,tD lq ((register).fdiv PW),tD lq register,tD (rI .u8) (IntKind.u8.wrap register),tD (rI .u8) c,tD (rI .u8) (oB .xor .u8 (IntKind.u8.wrap register) c),ce lq e,tD lq e,tD lq (oB .xor .u32 ((register).fdiv PW) e)]) mixed I I I
  ⟨im 1 I I I (br oy I I cA (.head _) (ht I)),
  ⟨dQ 4 0 I I I (xu (ht I) hI (by decide)),
  ⟨im 1 I I I (br oy I I cA (.head _) (ht I)),
  ⟨dQ 6 2 I I I (cI E0 kV (ht I)),
  ⟨im 0 I I I (cw I),
  ⟨eF 7 3 8 4 I I I I (Bp (ht I) (ht I)),
  ⟨M4 2 9 5 I I I I (Cz DE oy I (ht I) (ht I) q_e),
  ⟨dQ 10 6 I I I (bf oy I I),
  ⟨eF 5 1 11 7 I I I I (Bp (ht I) (ht I)),
  aZ⟩⟩⟩⟩⟩⟩⟩⟩⟩ ?_
 refine aQ oy I aY I (ht I) (ht I)<|ay ?_;cases so h;exact gU I (oi none 0) I I

theorem Q4(b:(List Int)){R:Int}(h:wh b=some R):bk ba 54 [dM ((rI .u8)) b] (tD lq R):=by
 refine bk.of Tryz.func54 I I I fun w0 S0=>aj<|zo I (dD)<|ai<|aj<|bA h fun r q_r h=>zo I (aG Uy (O0 q_r) trivial)<|bJ (r:=Cn) (x:=(List.replicate 256 (0:Int))) CW (fun _=>yI (r:=lq) 256 (fun _=>I) _) I fun b1=>aQ CW I aY I (ht I) (ht I)<|bE 3 I<|ai<|aj<|bJ (r:=lq) (x:=(0:Int)) oy (fun _=>I) I fun b2=>aQ oy I aY I (ht I) hI<|ai<|aj<|zo I (FY (cts:=[tV (aL b2 0),ce Cn r]) (caps:=[.tmp 4,.tmp 3]) ⟨(ht I),(ht I),aZ⟩) ?_;refine aS I<|ai<|aa<|aj<|av I<|zo I (d5 gV I)<|zo I (bm hI)<|ai<|ak<|aT (k:=10) I fun hN=>bn ?_;refine aD (q5 (Z:=fun ls i register=>(b.drop i=ls)∧nZ r ls register=some R) (Of:=fun _ i register=>[bx lq 25 b2 register]) (Gf:=fun _ i register=>[(4,tV (aL b2 0)),(5,tC 113 [tV (aL b2 0),ce Cn r]),(10,dM ((rI .u8)) b),(11,iB b),(12,cb (i:Int))]) (fun i register h=>?_) (fun e tl ih i register h=>?_) b 0 (4294967295:Int) ⟨I,h⟩) (aR I)
 ·obtain⟨hx,h⟩:=h
  refine aq<|aj<|zo I (ek I I)<|ai<|aa<|bu (ht I) (de hx)<|bc ?_;refine M (M (aC ?_));refine af<|aj<|zo rfl (br oy rfl rfl cA (.head _) (ht rfl))<|zo rfl (Qs (ht rfl))<|aS rfl<|ai<|ah<|aX ?_;cases so h;exact aw I I
 ·obtain⟨hx,h⟩:=h
  refine aq<|aj<|zo I (ek I I)<|ai<|aa<|bt (ht I) (cX hx)<|dk<|aa<|ak<|aj<|zo I (gI gV iv I I I (cS hx))<|zo I (bf iv I I)<|aS I<|ai<|ae<|av I<|av I<|bA h fun r1 q_r1 h=>eS (Dt (xs:=[.tmp 17]) (ts:=[tD (rI .u8) e]) (cts:=[tV (aL b2 0),ce Cn r]) (post:=fun i=>[bx lq 25 b2 r1]) [bx lq 25 b2 register] [] I Ux (RD b2 _ _ _ q_r1) (ht I) ⟨(ht I),aZ⟩ (fun _=>I)) I fun i1=>?_;refine(show RG _ _ _ _ [bx lq 25 b2 r1] _ from ?_);refine ay<|ac<|af<|ae<|zo rfl (jL (cy hx hN) rfl)<|av rfl<|ay ?_;exact aM (aD (ih (i+1) r1 ⟨cx hx,h⟩) (aR I))

theorem NN(b:(List Int)){R:(List Int)}(h:s0 b=some R):eN ba 55 [dM ((rI .u8)) b] false (rI .u8) 5 R:=by
 refine eN.of Tryz.func55 I I I fun w0 S0=>aj<|cd false (rI .u8) 5<|zo I (aN sf)<|ai<|aa<|aj<|av I<|GM gV (ht I) I fun isnil hisnil=>ai<|rF (ht I) (fun hc=>?_) (fun hc=>?_)
 ·have hx:=hisnil hc
  have h:some sr=some R:=by simpa [s0,gn,hx] using h
  refine aj<|cd false (rI .u8) 5<|zo I (aN sf)<|ai<|ah<|J ?_;cases so h;exact dL I I
 ·refine dk<|aj<|ge (r:=(rI .u8)) (ys:=sr) (xs:=[]) gV iv I I I I I trivial I fun l c=>av I<|bA h fun x q_x h=>be iv I I I I gV I I (ht I) (ht I) q_x fun l1 c1=>aS I<|ai<|ah ?_;cases so h;exact dL I I
theorem NP(b:(List Int)){R:(List Int)}(h:rU b=some R):eN ba 27 [dM ((rI .u8)) b] false (rI .u8) 5 R:=by
 refine eN.of Tryz.func27 I I I fun w0 S0=>aj<|cd false (rI .u8) 5<|zo I (aN sf)<|ai<|aj<|av I<|bA h fun r q_r h=>zo I (aG Vu (Q4 _ q_r) ⟨(ht I),aZ⟩)<|aS I<|ai<|aj<|av I<|bA h fun r1 q_r1 h=>cY Vt (NN _ q_r1) ⟨(ht I),aZ⟩ I fun l c=>aS I<|ai<|aa ?_;refine aj<|zo I (bm hI)<|ai<|ak<|bn<|dB<|jv ?_;refine aD (EP (Z:=fun k i out l1 c1 n=>(4-i=k)∧mw k out n=some R) (Of:=fun _ i out l1 c1 n=>[df (rI .u8) 5 l1 c1 out]) (Gf:=fun _ i out l1 c1 n=>[(3,tD lq n),(4,oY l1 c1 out),(9,cb (i:Int))]) (fun i out l1 c1 n h=>?_) (fun k1 ih i out l1 c1 n h=>?_) 4 0 r1 l c r ⟨I,h⟩) (aR I)
 ·obtain⟨hx,h⟩:=h
  refine aq<|aj<|zo I (d8 (ht I) hI)<|ai<|aa<|bu (ht I) (NA hx)<|bc ?_;refine M (M (aC ?_));refine af<|aj<|av rfl<|aS rfl<|ai<|ah ?_;cases so h;exact dL I I
 ·obtain⟨hx,h⟩:=h
  refine aq<|aj<|zo I (d8 (ht I) hI)<|ai<|aa<|bt (ht I) (Nz hx)<|dk<|aa<|ak<|aj<|av I<|av I<|zo I (cI E0 kV (ht I))<|zo I (aH (r:=(rI .u8)) (ys:=[(IntKind.u8.wrap n)]) (xs:=[.tmp 13]) gV iv I I I I I ⟨(ht I),aZ⟩)<|bA h fun out1 q_out1 h=>be iv I I I I gV I I (ht I) (ht I) q_out1 fun l2 c2=>aS I<|ai<|ae ?_;refine av I<|zo I (xu (ht I) hI (by decide))<|aS I<|ay<|ac<|af<|ae<|zo rfl (ww (LM hx (by decide)) (ht rfl) hI)<|av rfl<|ay ?_;exact aM (aD (ih (i+1) out1 l2 c2 ((n).fdiv PW) ⟨LL hx,h⟩) (aR I))
theorem Q3(n:Int){R:Bool}(h:mR n=some R):bk ba 56 [cb n] (fx R):=by
 refine bk.of Tryz.func56 I I I fun w0 S0=>aj<|zo I (dd)<|ai<|aj<|av I<|zo I (dc (ht I) hI)<|av I<|aO I I (fun hg=>cw I)<|aO I I (fun hg=>dV (aA I hg) hI)<|zo I (fV I I)<|aS I<|ai<|ah ?_;cases so h;exact aw I I

theorem Mg(s1:(List (List aF)))(s2:(List (List aF)))(eq:((List aF)→(List aF)→Option Bool)){R:Bool}(h:cm s1 s2 eq=some R):bk ba 62 [dM (pZ) s1,dM (pZ) s2,(kG ba (fun(x:(List aF)×(List aF))=>[dM (bF) x.1,dM (bF) x.2]) o0 (fun(x:(List aF)×(List aF))=>eq x.1 x.2))] (fx R):=by
 refine bk.of Tryz.func62 I I I fun w0 S0=>aj<|zo I (dd)<|ai<|aa<|aj<|av I<|zo I (d5 nV I)<|av I<|zo I (d5 nV I)<|zo I (bM (ht I) (ht I))<|ai<|bR h I (fun h=>?_) (fun h=>?_)
 ·refine aj<|zo I (dd)<|ai<|ah<|J ?_;cases so h;exact aw I I
 ·refine dk<|aa<|aj<|av I<|zo I (d5 nV I)<|zo I (bm hI)<|ai<|ak<|aT (k:=15) I fun hN=>bn ?_;refine aD (dv (Z:=fun ls i=>(s1.drop i=ls)∧bW s2 eq ls i=some R) (Of:=fun _ i=>[]) (Gf:=fun _ i=>[(1,dM (pZ) s2),(2,(kG ba (fun(x:(List aF)×(List aF))=>[dM (bF) x.1,dM (bF) x.2]) o0 (fun(x:(List aF)×(List aF))=>eq x.1 x.2))),(15,dM (pZ) s1),(16,iB s1),(17,cb (i:Int))]) (fun i h=>?_) (fun e tl ih i h=>?_) s1 0 ⟨I,h⟩) (aR I)
  ·obtain⟨hx,h⟩:=h
   refine aq<|aj<|zo I (ek I I)<|ai<|aa<|bu (ht I) (de hx)<|bc ?_;refine M (M (aC ?_));refine af<|aj<|zo rfl (dd)<|ai<|ah ?_;cases so h;exact aw I I
  ·obtain⟨hx,h⟩:=h
   refine aq<|aj<|zo I (ek I I)<|ai<|aa<|bt (ht I) (cX hx)<|dk<|aa<|ak<|aj<|av I<|zo I (gI nV pV I I I (cS hx))<|zo I (bf pV I I)<|aS I<|aS I<|ai<|aj<|av I ?_;refine av I<|bA h fun e1 q_e1 h=>zo I (gI nV pV I I I q_e1)<|zo I (bf pV I I)<|aS I<|ai<|aj<|av I<|av I<|av I<|bA h fun r q_r h=>zo I (kM (args:=(fun(x:(List aF)×(List aF))=>[tD pZ x.1,tD pZ x.2])) (res:=xS) (f:=(fun(x:(List aF)×(List aF))=>eq x.1 x.2)) (x:=((e,e1):(List aF)×(List aF))) (ht I) q_r ⟨(ht I),(ht I),aZ⟩)<|zo I (dP (ht I))<|ai<|bR h I (fun h=>?_) (fun h=>?_)
   ·refine aj<|zo I (dd)<|ai<|ah ?_;refine au (J (J (au (J ?_))));cases so h;exact aw I I
   ·refine aP<|ac<|af<|ae<|zo rfl (jL (cy hx hN) rfl)<|av rfl<|ay ?_;exact aM (aD (ih (i+1) ⟨cx hx,h⟩) (aR I))

theorem Mf(s1:(List aF))(s2:(List aF)){R:Bool}(h:d7 s1 s2=some R):bk ba 64 [dM (bF) s1,dM (bF) s2] (fx R):=by
 refine bk.of Tryz.func64 I I I fun w0 S0=>aj<|zo I (dd)<|ai<|aa<|aj<|av I<|zo I (d5 pY I)<|av I<|zo I (d5 pY I)<|zo I (bM (ht I) (ht I))<|ai<|bR h I (fun h=>?_) (fun h=>?_)
 ·refine aj<|zo I (dd)<|ai<|ah<|J ?_;cases so h;exact aw I I
 ·refine dk<|aa<|aj<|av I<|zo I (d5 pY I)<|zo I (bm hI)<|ai<|ak<|aT (k:=11) I fun hN=>bn ?_;refine aD (dv (Z:=fun ls i=>(s1.drop i=ls)∧dE s2 ls i=some R) (Of:=fun _ i=>[]) (Gf:=fun _ i=>[(0,dM (bF) s1),(1,dM (bF) s2),(12,iB s1),(13,cb (i:Int))]) (fun i h=>?_) (fun e tl ih i h=>?_) s1 0 ⟨I,h⟩) (aR I)
  ·obtain⟨hx,h⟩:=h
   refine aq<|aj<|zo I (ek I I)<|ai<|aa<|bu (ht I) (de hx)<|bc ?_;refine M (M (aC ?_));refine af<|aj<|zo rfl (dd)<|ai<|ah ?_;cases so h;exact aw I I
  ·obtain⟨hx,h⟩:=h
   refine aq<|aj<|zo I (ek I I)<|ai<|aa<|bt (ht I) (cX hx)<|dk<|aa<|ak<|aj<|av I<|aS I<|ai<|aa<|bA h fun e1 q_e1 h=>?_
   refine fq (ts:=[_,_,_,_,_,_,_,_,_]) mixed I I
    ⟨im 0 I I I (cw I),
    ⟨im 5 I I I (cw I),
    ⟨eF 16 0 17 1 I I I I (gI pY ft I I I (cS hx)),
    ⟨dQ 18 2 I I I (bf ft I I),
    ⟨im 1 I I I (cw I),
    ⟨im 5 I I I (cw I),
    ⟨eF 20 4 21 5 I I I I (gI pY ft I I I q_e1),
    ⟨dQ 22 6 I I I (bf ft I I),
    ⟨eF 19 3 23 7 I I I I (rz zT (ht I) (ht I)),
    aZ⟩⟩⟩⟩⟩⟩⟩⟩⟩ ?_
   refine af<|bR h rfl (fun h=>?_) (fun h=>?_)
   ·refine aj<|zo I (dd)<|ai<|ah ?_;refine au (J (J (au (J ?_))));cases so h;exact aw I I
   ·refine aP<|ac<|af<|ae<|zo rfl (jL (cy hx hN) rfl)<|av rfl<|ay ?_;exact aM (aD (ih (i+1) ⟨cx hx,h⟩) (aR I))

theorem QY(p:(List aF))(y:(List aF)){R:Bool}(h:o7 p y=some R):bk ba 63 [dM (bF) p,dM (bF) y] (fx R):=by
 refine bk.of Tryz.func63 I I I fun w0 S0=>aj<|zo I (dd)<|ai<|aj<|av I<|av I<|bA h fun r q_r h=>zo I (aG S7 (Mf _ _ q_r) ⟨(ht I),(ht I),aZ⟩)<|aS I<|ai<|ah ?_;cases so h;exact aw I I

theorem Rd(a1:co)(b:co){R:Bool}(h:oo a1 b=some R):bk ba 31 [tD eU a1,tD eU b] (fx R):=by
 refine bk.of Tryz.func31 I I I fun w0 S0=>aj<|zo I (kp I)<|zo I (kp I)<|zo I (dd)<|ai<|aj<|zo I (aU iI cU I I)<|zo I (aU pL ic I I)<|zo I (bf xW I I)<|zo I (aU iI cU I I)<|zo I (aU pL ic I I)<|zo I (bf xW I I)<|bA h fun r q_r h=>zo I (aG S8 (Mg _ _ _ q_r) ⟨(ht I),(ht I),(L6 Vo fun x y h=>QY _ _ h),aZ⟩)<|aS I<|ai<|aj<|zo I (aU uB kT I I) ?_;refine zo I (bf bp I I)<|zo I (aU uB kT I I)<|zo I (bf bp I I)<|zo I (bz (ht I) (ht I))<|av I<|aO I I (fun hg=>aU uA kS I I)<|aO I I (fun hg=>am oy I I (aA I hg))<|aO I I (fun hg=>aU uA kS I I)<|aO I I (fun hg=>am oy I I (aA I hg))<|aO I I (fun hg=>bz (aA I hg) (aA I hg))<|zo I (fV I I)<|av I<|aO I I (fun hg=>aU o9 f6 I I)<|aO I I (fun hg=>am jZ I I (aA I hg))<|aO I I (fun hg=>aU o9 f6 I I)<|aO I I (fun hg=>am jZ I I (aA I hg))<|aO I I (fun hg=>bz (aA I hg) (aA I hg))<|zo I (fV I I)<|av I<|aO I I (fun hg=>aU rh ir I I)<|aO I I (fun hg=>am jZ I I (aA I hg))<|aO I I (fun hg=>aU rh ir I I)<|aO I I (fun hg=>am jZ I I (aA I hg))<|aO I I (fun hg=>bz (aA I hg) (aA I hg)) ?_;refine zo I (fV I I)<|av I<|aO I I (fun hg=>aU iI cU I I)<|aO I I (fun hg=>cK qq I iG I (aA I hg))<|aO I I (fun hg=>am As I I (aA I hg))<|aO I I (fun hg=>aU iI cU I I)<|aO I I (fun hg=>cK qq I iG I (aA I hg))<|aO I I (fun hg=>am As I I (aA I hg))<|aO I I (fun hg=>Az DF (aA I hg) (aA I hg))<|zo I (fV I I)<|av I<|aO I I (fun hg=>aU iI cU I I)<|aO I I (fun hg=>cK qp I iF I (aA I hg))<|aO I I (fun hg=>am jZ I I (aA I hg))<|aO I I (fun hg=>aU iI cU I I)<|aO I I (fun hg=>cK qp I iF I (aA I hg))<|aO I I (fun hg=>am jZ I I (aA I hg))<|aO I I (fun hg=>bz (aA I hg) (aA I hg))<|zo I (fV I I)<|av I<|aO I I (fun hg=>cw I)<|zo I (fV I I)<|aS I<|ay ?_;refine af<|ah ?_;cases so h;exact aw I I

theorem HY(s1:(List Int))(s2:(List Int)){R:Bool}(h:gR s1 s2=some R):bk ba 66 [iK s1,iK s2] (fx R):=by
 refine bk.of Tryz.func66 I I I fun w0 S0=>aj<|zo I (dd)<|ai<|aa<|aj<|av I<|zo I (d5 cR I)<|av I<|zo I (d5 cR I)<|zo I (bM (ht I) (ht I))<|ai<|bR h I (fun h=>?_) (fun h=>?_)
 ·refine aj<|zo I (dd)<|ai<|ah<|J ?_;cases so h;exact aw I I
 ·refine dk<|aa<|aj<|av I<|zo I (d5 cR I)<|zo I (bm hI)<|ai<|ak<|aT (k:=11) I fun hN=>bn ?_;refine aD (dv (Z:=fun ls i=>(s1.drop i=ls)∧jj s2 ls i=some R) (Of:=fun _ i=>[]) (Gf:=fun _ i=>[(0,iK s1),(1,iK s2),(12,iB s1),(13,cb (i:Int))]) (fun i h=>?_) (fun e tl ih i h=>?_) s1 0 ⟨I,h⟩) (aR I)
  ·obtain⟨hx,h⟩:=h
   refine aq<|aj<|zo I (ek I I)<|ai<|aa<|bu (ht I) (de hx)<|bc ?_;refine M (M (aC ?_));refine af<|aj<|zo rfl (dd)<|ai<|ah ?_;cases so h;exact aw I I
  ·obtain⟨hx,h⟩:=h
   refine aq<|aj<|zo I (ek I I)<|ai<|aa<|bt (ht I) (cX hx)<|dk<|aa<|ak<|aj<|av I<|aS I<|ai<|aa<|bA h fun e1 q_e1 h=>?_
   refine fq (ts:=[_,_,_,_,_,_,_,_,_]) mixed I I
    ⟨im 0 I I I (cw I),
    ⟨im 5 I I I (cw I),
    ⟨eF 16 0 17 1 I I I I (gI cR bp I I I (cS hx)),
    ⟨dQ 18 2 I I I (bf bp I I),
    ⟨im 1 I I I (cw I),
    ⟨im 5 I I I (cw I),
    ⟨eF 20 4 21 5 I I I I (gI cR bp I I I q_e1),
    ⟨dQ 22 6 I I I (bf bp I I),
    ⟨eF 19 3 23 7 I I I I (bM (ht I) (ht I)),
    aZ⟩⟩⟩⟩⟩⟩⟩⟩⟩ ?_
   refine af<|bR h rfl (fun h=>?_) (fun h=>?_)
   ·refine aj<|zo I (dd)<|ai<|ah ?_;refine au (J (J (au (J ?_))));cases so h;exact aw I I
   ·refine aP<|ac<|af<|ae<|zo rfl (jL (cy hx hN) rfl)<|av rfl<|ay ?_;exact aM (aD (ih (i+1) ⟨cx hx,h⟩) (aR I))

theorem QW(s1:(List kq))(s2:(List kq)){R:Bool}(h:gG s1 s2=some R):bk ba 67 [dM (iY) s1,dM (iY) s2] (fx R):=by
 refine bk.of Tryz.func67 I I I fun w0 S0=>aj<|zo I (dd)<|ai<|aa<|aj<|av I<|zo I (d5 pR I)<|av I<|zo I (d5 pR I)<|zo I (bM (ht I) (ht I))<|ai<|bR h I (fun h=>?_) (fun h=>?_)
 ·refine aj<|zo I (dd)<|ai<|ah<|J ?_;cases so h;exact aw I I
 ·refine dk<|aa<|aj<|av I<|zo I (d5 pR I)<|zo I (bm hI)<|ai<|ak<|aT (k:=11) I fun hN=>bn ?_;refine aD (dv (Z:=fun ls i=>(s1.drop i=ls)∧fU s2 ls i=some R) (Of:=fun _ i=>[]) (Gf:=fun _ i=>[(0,dM (iY) s1),(1,dM (iY) s2),(12,iB s1),(13,cb (i:Int))]) (fun i h=>?_) (fun e tl ih i h=>?_) s1 0 ⟨I,h⟩) (aR I)
  ·obtain⟨hx,h⟩:=h
   refine aq<|aj<|zo I (ek I I)<|ai<|aa<|bu (ht I) (de hx)<|bc ?_;refine M (M (aC ?_));refine af<|aj<|zo rfl (dd)<|ai<|ah ?_;cases so h;exact aw I I
  ·obtain⟨hx,h⟩:=h
   refine aq<|aj<|zo I (ek I I)<|ai<|aa<|bt (ht I) (cX hx)<|dk<|aa<|ak<|aj<|av I<|aS I<|ai<|aa<|bA h fun e1 q_e1 h=>?_
   refine fq (ts:=[_,_,_,_,_,_,_,_,_]) mixed I I
    ⟨im 0 I I I (cw I),
    ⟨im 5 I I I (cw I),
    ⟨eF 16 0 17 1 I I I I (gI pR pU I I I (cS hx)),
    ⟨dQ 18 2 I I I (bf pU I I),
    ⟨im 1 I I I (cw I),
    ⟨im 5 I I I (cw I),
    ⟨eF 20 4 21 5 I I I I (gI pR pU I I I q_e1),
    ⟨dQ 22 6 I I I (bf pU I I),
    ⟨eF 19 3 23 7 I I I I (rz PE (ht I) (ht I)),
    aZ⟩⟩⟩⟩⟩⟩⟩⟩⟩ ?_
   refine af<|bR h rfl (fun h=>?_) (fun h=>?_)
   ·refine aj<|zo I (dd)<|ai<|ah ?_;refine au (J (J (au (J ?_))));cases so h;exact aw I I
   ·refine aP<|ac<|af<|ae<|zo rfl (jL (cy hx hN) rfl)<|av rfl<|ay ?_;exact aM (aD (ih (i+1) ⟨cx hx,h⟩) (aR I))

theorem OV(s1:(List bC))(s2:(List bC)){R:Bool}(h:fI s1 s2=some R):bk ba 119 [dM (bG) s1,dM (bG) s2] (fx R):=by
 refine bk.of Tryz.func119 I I I fun w0 S0=>aj<|zo I (dd)<|ai<|aa<|aj<|av I<|zo I (d5 jh I)<|av I<|zo I (d5 jh I)<|zo I (bM (ht I) (ht I))<|ai<|bR h I (fun h=>?_) (fun h=>?_)
 ·refine aj<|zo I (dd)<|ai<|ah<|J ?_;cases so h;exact aw I I
 ·refine dk<|aa<|aj<|av I<|zo I (d5 jh I)<|zo I (bm hI)<|ai<|ak<|aT (k:=11) I fun hN=>bn ?_;refine aD (dv (Z:=fun ls i=>(s1.drop i=ls)∧eX s2 ls i=some R) (Of:=fun _ i=>[]) (Gf:=fun _ i=>[(0,dM (bG) s1),(1,dM (bG) s2),(12,iB s1),(13,cb (i:Int))]) (fun i h=>?_) (fun e tl ih i h=>?_) s1 0 ⟨I,h⟩) (aR I)
  ·obtain⟨hx,h⟩:=h
   refine aq<|aj<|zo I (ek I I)<|ai<|aa<|bu (ht I) (de hx)<|bc ?_;refine M (M (aC ?_));refine af<|aj<|zo rfl (dd)<|ai<|ah ?_;cases so h;exact aw I I
  ·obtain⟨hx,h⟩:=h
   refine aq<|aj<|zo I (ek I I)<|ai<|aa<|bt (ht I) (cX hx)<|dk<|aa<|ak<|aj<|av I<|aS I<|ai<|aa<|bA h fun e1 q_e1 h=>?_
   refine fq (ts:=[_,_,_,_,_,_,_,_,_]) mixed I I
    ⟨im 0 I I I (cw I),
    ⟨im 5 I I I (cw I),
    ⟨eF 16 0 17 1 I I I I (gI jh eb I I I (cS hx)),
    ⟨dQ 18 2 I I I (bf eb I I),
    ⟨im 1 I I I (cw I),
    ⟨im 5 I I I (cw I),
    ⟨eF 20 4 21 5 I I I I (gI jh eb I I I q_e1),
    ⟨dQ 22 6 I I I (bf eb I I),
    ⟨eF 19 3 23 7 I I I I (rz PD (ht I) (ht I)),
    aZ⟩⟩⟩⟩⟩⟩⟩⟩⟩ ?_
   refine af<|bR h rfl (fun h=>?_) (fun h=>?_)
   ·refine aj<|zo I (dd)<|ai<|ah ?_;refine au (J (J (au (J ?_))));cases so h;exact aw I I
   ·refine aP<|ac<|af<|ae<|zo rfl (jL (cy hx hN) rfl)<|av rfl<|ay ?_;exact aM (aD (ih (i+1) ⟨cx hx,h⟩) (aR I))

theorem HX(a1:bv)(b:bv){R:Bool}(h:rM a1 b=some R):bk ba 69 [tD bL a1,tD bL b] (fx R):=by
 refine bk.of Tryz.func69 I I I fun w0 S0=>aj<|zo I (kp I)<|zo I (kp I)<|zo I (dd)<|ai<|aj<|zo I (aU fd di I I)<|zo I (bf lN I I)<|zo I (aU fd di I I)<|zo I (bf lN I I)<|bA h fun r q_r h=>zo I (aG Ut (OV _ _ q_r) ⟨(ht I),(ht I),aZ⟩)<|aS I<|ai<|ah ?_;cases so h;exact aw I I

theorem QV(p:fy)(q:fy){R:Bool}(h:oG p q=some R):bk ba 68 [tD eQ p,tD eQ q] (fx R):=by
 refine bk.of Tryz.func68 I I I fun w0 S0=>aj<|zo I (kp I)<|zo I (kp I)<|zo I (dd)<|ai<|aj<|zo I (aU ie ga I I)<|zo I (bf bp I I)<|zo I (aU ie ga I I)<|zo I (bf bp I I)<|zo I (bz (ht I) (ht I))<|av I<|bA h fun t q_t h=>aO I I (fun hg=>aU md kf I I)<|aO I I (fun hg=>am fv I I (aA I hg))<|aO I I (fun hg=>aU md kf I I)<|aO I I (fun hg=>am fv I I (aA I hg)) ?_
 obtain⟨r,h1t,h0t⟩:=og q_t
 have q_rg:=fun hb=>(h1t hb).1
 refine aO I I (fun hg=>aG RO (HX _ _ (q_rg hg)) ⟨(aA I hg),(aA I hg),aZ⟩)<|zo I (bN (ht I) (fun hb=>(aA I hb)) (fun hb=>(h1t hb).2) h0t)<|aS I<|ai<|ah ?_;cases so h;exact aw I I

theorem QU(s1:(List fy))(s2:(List fy))(eq:(fy→fy→Option Bool)){R:Bool}(h:dp s1 s2 eq=some R):bk ba 70 [dM (eQ) s1,dM (eQ) s2,(kG ba MZ o0 (fun(x:fy×fy)=>eq x.1 x.2))] (fx R):=by
 refine bk.of Tryz.func70 I I I fun w0 S0=>aj<|zo I (dd)<|ai<|aa<|aj<|av I<|zo I (d5 jR I)<|av I<|zo I (d5 jR I)<|zo I (bM (ht I) (ht I))<|ai<|bR h I (fun h=>?_) (fun h=>?_)
 ·refine aj<|zo I (dd)<|ai<|ah<|J ?_;cases so h;exact aw I I
 ·refine dk<|aa<|aj<|av I<|zo I (d5 jR I)<|zo I (bm hI)<|ai<|ak<|aT (k:=15) I fun hN=>bn ?_;refine aD (dv (Z:=fun ls i=>(s1.drop i=ls)∧c0 s2 eq ls i=some R) (Of:=fun _ i=>[]) (Gf:=fun _ i=>[(1,dM (eQ) s2),(2,(kG ba MZ o0 (fun(x:fy×fy)=>eq x.1 x.2))),(15,dM (eQ) s1),(16,iB s1),(17,cb (i:Int))]) (fun i h=>?_) (fun e tl ih i h=>?_) s1 0 ⟨I,h⟩) (aR I)
  ·obtain⟨hx,h⟩:=h
   refine aq<|aj<|zo I (ek I I)<|ai<|aa<|bu (ht I) (de hx)<|bc ?_;refine M (M (aC ?_));refine af<|aj<|zo rfl (dd)<|ai<|ah ?_;cases so h;exact aw I I
  ·obtain⟨hx,h⟩:=h
   refine aq<|aj<|zo I (ek I I)<|ai<|aa<|bt (ht I) (cX hx)<|dk<|aa<|ak<|aj<|av I<|zo I (gI jR fE I I I (cS hx))<|zo I (bf fE I I)<|bJ (r:=eQ) (x:=Co) fE (fun _=>s5 _) I fun b=>aS I<|aQ fE I aY I (ht I) (ht I)<|bE 8 I<|ai<|aa ?_;refine ae<|av I<|av I<|bA h fun e1 q_e1 h=>zo I (gI jR fE I I I q_e1)<|zo I (bf fE I I)<|bJ (r:=eQ) (x:=Co) fE (fun _=>s5 _) I fun b1=>aQ fE I aY I (ht I) (ht I)<|bE 9 I<|ai<|aj<|av I<|zo I (bf fE I I)<|zo I (bf fE I I)<|bA h fun r q_r h=>zo I (kM (args:=MZ) (res:=xS) (f:=(fun(x:fy×fy)=>eq x.1 x.2)) (x:=((e,e1):fy×fy)) (ht I) q_r ⟨(ht I),(ht I),aZ⟩)<|zo I (dP (ht I))<|ai<|bR h I (fun h=>?_) (fun h=>?_)
   ·refine aj<|zo I (dd)<|ai<|ah ?_;refine au (J (J (au (J ?_))));cases so h;exact aw I I
   ·refine aP<|ac<|af<|ae<|zo rfl (jL (cy hx hN) rfl)<|av rfl<|ay ?_;exact aM (aD (ih (i+1) ⟨cx hx,h⟩) (aR I))

end Go.Proofs.YtdohlidddcgfjaaGreat

