/- cR of this claim: P0. -/
import Derived.Test.YtnmjbolollcokaaGreatDoorRcT
import Derived.Test.YtnmjbolollcokaaGreatDoorRcF
set_option linter.all false
namespace Go.Proofs.YtnmjbolollcokaaGreatDoor
open Go
abbrev Rd:=fun(mc:aq) (mx:M)=>(ff mc mx).map fun mr=>(mr,mc)
abbrev Rc:=fun(mc:aq) (mx:M)=>(gk mc mx).map fun mr=>(mr,mc)
abbrev Rh:=fun(mc:aq) (mx:M)=>(fg mc mx).map fun mr=>(mr,mc)
abbrev Re:=fun(mc:aq) (mx:M)=>(fT mc mx).map fun mr=>(mr,mc)
abbrev Ri:=fun(mc:aq) (mx:M)=>(eM mc mx).map fun mr=>(mr,mc)
abbrev Rj:=fun(mc:aq) (mx:M)=>(em mc mx).map fun mr=>(mr,mc)
abbrev Rg:=fun(mc:aq) (mx:M)=>(fR mc mx).map fun mr=>(mr,mc)
abbrev Rf:=fun(mc:aq) (mx:M)=>(fS mc mx).map fun mr=>(mr,mc)
abbrev Ih:=dM (dM (dM (dM (dM (dM (dM (dM ([]:List (Int×(aq→M→Option (((List Int)×Bool)×aq)))) (1:Int) Rd) (2:Int) Rc) (3:Int) Rh) (4:Int) Re) (5:Int) Ri) (6:Int) Rj) (7:Int) Rg) (8:Int) Rf
abbrev Rt:=fun(mc:ay) (mx:M×(List Int)×(List aG))=>(ij mc mx.1 mx.2.1 mx.2.2).map fun mr=>(mr,mc)
abbrev Ru:=fun(mc:ay) (mx:M×(List Int)×(List aG))=>(gG mc mx.1 mx.2.1 mx.2.2).map fun mr=>(mr,mc)
abbrev Rv:=fun(mc:ay) (mx:M×(List Int)×(List aG))=>(gp mc mx.1 mx.2.1 mx.2.2).map fun mr=>(mr,mc)
abbrev Rl:=fun(mc:ay) (mx:M×(List Int)×(List aG))=>ik mc mx.1 mx.2.1 mx.2.2
abbrev Rm:=fun(mc:ay) (mx:M×(List Int)×(List aG))=>gS mc mx.1 mx.2.1 mx.2.2
abbrev Rs:=fun(mc:ay) (mx:M×(List Int)×(List aG))=>f9 mc mx.1 mx.2.1 mx.2.2
abbrev Ro:=fun(mc:ay) (mx:M×(List Int)×(List aG))=>gQ mc mx.1 mx.2.1 mx.2.2
abbrev Rn:=fun(mc:ay) (mx:M×(List Int)×(List aG))=>gR mc mx.1 mx.2.1 mx.2.2
abbrev S8:=dM (dM (dM (dM (dM (dM (dM (dM ([]:List (Int×(ay→(M×(List Int)×(List aG))→Option (aG×ay)))) (1:Int) Rt) (3:Int) Ru) (5:Int) Rv) (2:Int) Rl) (4:Int) Rm) (6:Int) Rs) (7:Int) Ro) (8:Int) Rn
abbrev iF:=(⟨[],[],(0:Int),[]⟩:aG)
abbrev rb:=(⟨[]⟩:aT)
abbrev BN:=(⟨(0:Int),(0:Int),(0:Int),(0:Int),[],false,rb,[],[],[],[],(0:Int)⟩:M)
abbrev CY:=fun(x:M×(List Int)×(List aG))=>[tD ai x.1,fP x.2.1,fZ (ah) x.2.2]
abbrev cn:=rI .i64
abbrev EN:=(⟨(0:Int),(0:Int),(0:Int),[]⟩:cB)
abbrev Gh:=(⟨(0:Int),(0:Int),(0:Int),(0:Int),EN⟩:aU)
abbrev wU:=fun(x:(List Int)×Bool)=>tT [fP x.1,gX x.2]
abbrev wO:=fun(x:M)=>[tD ai x]
abbrev q9:=(-1:Int)
abbrev Rq:=(⟨(1:Int),q9,q9,(1:Int),[(2:Int)],false,rb,[],[],[],[],(0:Int)⟩:M)
abbrev Q5:=(⟨(1:Int),rb⟩:gF)
abbrev Rr:=(⟨(4:Int),(0:Int),q9,(0:Int),[],false,rb,[],[Q5],[],[],(0:Int)⟩:M)
abbrev Vm:=(⟨[Rq,Rr]⟩:bK)
abbrev rd:=fun(x:aG)=>tD ah x
abbrev n9:=fun(x:Bool)=>gX x
abbrev yn:=fun(x:br)=>[tD di x]
abbrev A6:=fun(x:bn)=>[tD dk x]
abbrev wP:=fun(x:gV)=>tD rS x
abbrev Ig:=fun(x:dr×Int)=>[tD ft x.1,cm x.2]
abbrev tw:=(⟨[]⟩:cC)
abbrev ra:=([]:List Int)
abbrev Q6:=(⟨[97],(2:Int)⟩:bn)
abbrev Q7:=(⟨[98],(2:Int)⟩:bn)
abbrev Rk:=(⟨[116],[Q6,Q7],[(0:Int)]⟩:br)
abbrev o8:=fP ([])
abbrev n8:=eU cn
abbrev OR:=fun(x:aU×(List Int))=>[tD aY x.1,fP x.2]
abbrev If:=fun(x:Bool)=>tD rB x
abbrev tu:=Vz .i64
abbrev Gj:=([]:List (List Int))
abbrev OQ:=fun(x:Int×Int)=>tT [cm x.1,cm x.2]
abbrev Mw:=fun(x:bk)=>[tD aP x]
abbrev Rb:=fun(x:aU×(List Int))=>[tD aY x.1,tD n8 x.2]
abbrev zG:=eU ah
abbrev Ra:=(⟨[99],(2:Int)⟩:bn)
abbrev Mv:=fun(x:kT)=>[tD ke x]
abbrev Gi:=(⟨[]⟩:bK)
abbrev OP:=fun(x:aU)=>[tD aY x]
abbrev Q9:=fun(x:Int×Int)=>tT [tD cn x.1,tD cn x.2]
abbrev C1:=eU ai
abbrev Mu:=fun(x:Int)=>[cm x]
abbrev Ie:=([]:List M)
abbrev OO:=(⟨[],(0:Int)⟩:bn)
abbrev ON:=(⟨(0:Int),rb⟩:gF)
abbrev Q8:=(⟨[117],[Ra],[]⟩:br)
abbrev KT:=eU aY
abbrev Mt:=([]:List gF)
abbrev KS:=s5 cn 2
abbrev Q4:=fZ (ft) ([])
set_option maxRecDepth 100000

theorem PS(s:(List Int))(f:(Int→Option Bool)){R:Int}(h:j9 s f=some R):bA bc 193 [fP s,(iH bc Mu n9 (fun(x:Int)=>f x))] (cm R):=by
 refine bA.of Tryz.func193 J J J fun w0 S0=>aA<|zo J (gv)<|ax<|af<|aA<|aJ J<|zo J (lx d8 J)<|zo J (bJ hI)<|ax<|aB<|bl (k:=6) J fun hN=>bU ?_;refine aW (fM (Z:=fun ls i=>(s.drop i=ls)∧eP f ls i=some R) (Of:=fun _ i=>[]) (Gf:=fun _ i=>[(0,fP s),(1,(iH bc Mu n9 (fun(x:Int)=>f x))),(7,jB s),(8,cm (i:Int))]) (fun i h=>?_) (fun e tl ih i h=>?_) s 0 ⟨J,h⟩) (bu J)
 ·obtain⟨hx,h⟩:=h
  refine aC<|aA<|zo J (gP J J)<|ax<|af<|bF (ht J) (d5 hx)<|bt ?_;refine ac (ac (aN ?_));refine aw<|aA<|zo rfl (gv)<|ax<|av ?_;cases so h;exact ba J J
 ·obtain⟨hx,h⟩:=h
  refine aC<|aA<|zo J (gP J J)<|ax<|af<|bE (ht J) (dZ hx)<|fO<|af<|aB<|aA<|aJ J<|bN J<|ax<|aA<|aJ J<|aJ J<|aJ J<|zo J (nY d8 ce J J J (d4 hx)) ?_;refine zo J (bH ce J J)<|bT h fun r q_r h=>zo J (jV (args:=(fun(x:Int)=>[tD cn x])) (res:=If) (f:=(fun(x:Int)=>f x)) (x:=((e):Int)) (ht J) q_r ⟨(ht J),aV⟩)<|ax<|eE h J (fun h=>?_) (fun h=>?_)
  ·refine aA<|aJ J<|bN J<|ax<|av ?_;refine aF (aa (aa (aF (aa ?_))));cases so h;exact ba J J
  ·refine bO<|an<|aw<|am<|zo rfl (nF (dv hx hN) rfl)<|aJ rfl<|aR ?_;exact bj (aW (ih (i+1) ⟨du hx,h⟩) (bu J))

theorem Ko(s:(List Int))(f:(Int→Option Bool)){R:Bool}(h:dF s f=some R):bA bc 127 [fP s,(iH bc Mu n9 (fun(x:Int)=>f x))] (gX R):=by
 refine bA.of Tryz.func127 J J J fun w0 S0=>aA<|zo J (iO)<|ax<|aA<|aJ J<|aJ J<|bT h fun r q_r h=>zo J (aL UC (PS _ _ q_r) ⟨(ht J),(ht J),aV⟩)<|zo J (fF (ht J) hI)<|bN J<|ax<|av ?_;cases so h;exact ba J J

theorem PO(k:Int){R:Bool}(h:AJ k=some R):bA bc 205 [cm k] (gX R):=by
 refine bA.of Tryz.func205 J J J fun w0 S0=>aA<|zo J (iO)<|ax<|aA<|aJ J<|zo J (mU J)<|aJ J<|dQ J J (fun hg=>dw J)<|dQ J J (fun hg=>cO (bB J hg) hI)<|zo J (ua J J)<|aJ J<|dQ J J (fun hg=>dw J)<|dQ J J (fun hg=>cO (bB J hg) hI)<|zo J (ua J J)<|bN J<|ax<|av ?_;cases so h;exact ba J J

theorem PP(k:Int){R:Bool}(h:jW k=some R):bA bc 204 [cm k] (gX R):=by
 refine bA.of Tryz.func204 J J J fun w0 S0=>aA<|zo J (iO)<|ax<|aA<|aJ J<|bT h fun r q_r h=>zo J (aL Uy (PO _ q_r) ⟨(ht J),aV⟩)<|zo J (gj (ht J))<|bN J<|ax<|av ?_;cases so h;exact ba J J

theorem SG(b:Nat)(ix:OI)(c:aq)(n:M){R:(List Int)×Bool}(h:ff c n=some R):c9 bc 148 [tV (aE b 0),tD ai n] (dc b c ix) (fun _:OI=>tT [fP R.1,gX R.2]) (fun _=>(dc b c ix)):=by
 refine c9.of Tryz.func148 J J J fun w0 S0=>?_;refine(show CG _ _ _ [bx (rH aZ [(1,aD (ix.h 0).1 (ix.h 0).2 c.kinds.length),(2,aD (ix.h 1).1 (ix.h 1).2 c.first.length)]) 123 b c,cv fk 42 (ix.h 0).1 (ix.h 0).2 c.kinds,cv cn 3 (ix.h 1).1 (ix.h 1).2 c.first] _ from ?_);refine aA<|zo J (l9 J)<|zo J (aS (show aK _ _ _ o8 from lU))<|zo J (iO)<|ax<|aA<|zo J (aS (show aK _ _ _ ((iH bc Mu n9 (fun(x:Int)=>jW x)))from(RS Uz fun x y h=>PP _ h)))<|ax<|aA<|zo J (cQ vX nv J J)<|zo J (bH ce J J)<|zo J (fF (ht J) hI)<|aJ J<|cP J J (fun hg=>cQ vX nv J J)<|cP J J (fun hg=>bD ce J J (bB J hg))<|cP J J (fun hg=>iA (bB J hg) hI)<|zo J (r0 J J)<|aJ J<|cP J J (fun hg=>cQ tf mq J J) ?_;refine cP J J (fun hg=>bD cS J J (bB J hg))<|cP J J (fun hg=>cA d8 (bB J hg))<|cP J J (fun hg=>fF (bB J hg) hI)<|zo J (r0 J J)<|aJ J<|cP J J (fun hg=>cQ tf mq J J)<|cP J J (fun hg=>bD cS J J (bB J hg))<|cP J J (fun hg=>cA d8 (bB J hg))<|cP J J (fun hg=>lT (bB J hg) hI)<|zo J (r0 J J)<|bN J<|ax<|af<|bT h fun t q_t h=>?_
 obtain⟨r,h1t,h0t⟩:=og q_t
 have q_rg:=fun hb=>(h1t hb).1
 refine iq (ts:=[_,_,_,_,_,_,_,_,_,_,_,_]) mixed J J
  ⟨gK 3 J J J (cQ tf mq J J),
  ⟨dR 28 0 J J J (bH cS J J),
  ⟨gK 7 J J J (dw J),
  ⟨dR 30 2 J J J (dw J),
  ⟨C2 3 31 3 J J J J (kp J J J J (fun hg=>cQ tf mq J J)),
  ⟨qG 32 4 31 3 J J J J (kp J J J J (fun hg=>bD cS J J (bB J hg))),
  ⟨C2 6 31 3 J J J J (kp J J J J (fun hg=>dw J)),
  ⟨JP 33 5 34 6 31 3 J J J J J (kp J J J J (fun hg=>aL QS (Ko _ _ (q_rg hg)) ⟨(bB J hg),(bB J hg),aV⟩)),
  ⟨qG 35 7 31 3 J J J J (kp J J J J (fun hg=>gj (bB J hg))),
  ⟨gL 31 3 36 8 J J J J (fe (ht J) (fun hb=>(bB J hb)) (fun hb=>(h1t hb).2) h0t),
  ⟨dR 29 1 J J J (BQ J),
  ⟨dR 37 9 J J J (BQ J),
  aV⟩⟩⟩⟩⟩⟩⟩⟩⟩⟩⟩⟩ ?_
 refine aw<|av<|au<|au<|au ?_;cases so h;exact jy (ts:=[fP n.Kinds,gX t]) (rvs:=[.tmp 4,.tmp 5]) J J ⟨dl J,dl J,aV⟩ o7 J J

theorem NR(n:Int){R:(List Int)}(h:kq n=some R):ja bc 237 [tV (.slice none 0 0),cm n] false cn 3 R:=by
 refine ja.of Tryz.func237 J J J fun w0 S0=>aA<|cj false cn 3<|zo J (aS u7)<|ax ?_;refine Ml (Z:=k6 n=some R) (Of:=[]) (Gf:=[(0,tV (.slice none 0 0)),(1,cm n)]) (fun h=>?_) (fun K=>?_)
 ·skip
  refine Mk (Z:=fun s l c=>k5 s=some R) (Of:=fun s l c=>[gu cn 3 l c s]) (Gf:=fun s l c=>[(0,rU l c s)]) (fun s l c h=>?_) (fun K1=>?_)
  ·skip
   refine aA<|aJ J<|bN J<|ax<|av ?_;cases so h;exact ir J J
  ·skip
   refine aA<|aJ J<|aJ J<|zo J (D9 d8 (ht J))<|aJ J<|zo J (D7 d8 (ht J))<|zo J (ib (ht J) (ht J))<|zo J (ib (ht J) (ht J))<|bN J<|ax<|aA<|aJ J<|zo J (gU (ht J) hI)<|ax<|eE h J (fun h=>?_) (fun h=>?_)
   ·refine am<|aJ J<|aJ J<|zo J (D9 d8 (ht J))<|zo J (G6 d8 ce (ht J) (ht J))<|aJ J<|bT h fun u q_u h=>bT h fun mk q_mk h=>lv (HH (r:=cn) (x:=(0:Int)) ce J J J J d8 pU (fun _=>J) (ht J) (ht J) (NI q_u) q_mk) J fun i=>aJ J<|zo J (D7 d8 (ht J))<|bT h fun y q_y h=>zo J (qf d8 ce J (.head _) (ht J) (ht J) q_y)<|CP q_y<|bN J<|aR ?_;exact cE (K1 y (i.h 0).1 (i.h 0).2 h) (bu J)
   ·refine bO<|OC false cn 3 ?_;exact cE (K1 ra none 0 h) (bu J)
 ·skip
  refine aA<|aJ J<|zo J (iA (ht J) hI)<|ax<|eE h J (fun h=>?_) (fun h=>?_)
  ·refine am ?_;exact(nn h).elim
  ·refine bO<|bb ?_;exact cE (K h) (bu J)
theorem NT(slices:(List (List Int))){R:(List Int)}(h:gM slices=some R):ja bc 206 [fZ (fk) slices] false cn 3 R:=by
 refine ja.of Tryz.func206 J J J fun w0 S0=>aA<|cj false cn 3<|zo J (aS u7)<|ax<|aA<|zo J (gv)<|ax<|af<|aA<|aJ J<|zo J (lx rW J)<|zo J (bJ hI)<|ax<|aB<|bl (k:=9) J fun hN=>bU<|sP ?_;refine aW (nd (Z:=fun ls i size=>(slices.drop i=ls)∧gZ slices ls size=some R) (Of:=fun _ i size=>[]) (Gf:=fun _ i size=>[(0,fZ (fk) slices),(3,cm size),(9,fZ (fk) slices),(10,jB slices),(11,cm (i:Int))]) (fun i size h=>?_) (fun e tl ih i size h=>?_) slices 0 (0:Int) ⟨J,h⟩) (bu J)
 ·obtain⟨hx,h⟩:=h
  refine aC<|aA<|zo J (gP J J)<|ax<|af<|bF (ht J) (d5 hx)<|bt ?_;refine ac (ac (aN ?_));refine aw<|aA<|aJ rfl<|bT h fun r q_r h=>lF Um (NR _ q_r) ⟨hV,(ht J),aV⟩ J fun l c=>bN J<|ax<|af<|aA<|aJ J<|zo J (lx rW J)<|zo J (bJ hI)<|ax<|aB<|bl (k:=25) J fun hN1=>bU ?_;refine aW (oP (Z:=fun ls1 i1 newslice l1 c1=>(slices.drop i1=ls1)∧gY ls1 newslice=some R) (Of:=fun _ i1 newslice l1 c1=>[gu cn 3 l1 c1 newslice]) (Gf:=fun _ i1 newslice l1 c1=>[(6,rU l1 c1 newslice),(25,fZ (fk) slices),(26,jB slices),(27,cm (i1:Int))]) (fun i1 newslice l1 c1 h=>?_) (fun e1 tl1 ih1 i1 newslice l1 c1 h=>?_) slices 0 r l c ⟨J,h⟩) (bu J)
  ·obtain⟨hx1,h⟩:=h
   refine aC<|aA<|zo J (gP J J)<|ax<|af<|bF (ht J) (d5 hx1)<|bt ?_;refine ac (ac (aN ?_));refine aw<|aA<|aJ rfl<|bN rfl<|ax<|av ?_;cases so h;exact ir J J
  ·obtain⟨hx1,h⟩:=h
   refine aC<|aA<|zo J (gP J J)<|ax<|af<|bE (ht J) (dZ hx1)<|fO<|af<|aB<|aA<|zo J (nY rW cS J J J (d4 hx1))<|zo J (bH cS J J)<|bN J<|ax<|am<|aJ J<|aJ J<|bT h fun newslice1 q_newslice1 h=>dJ ce J J J J d8 J J (ht J) (ht J) q_newslice1 fun l2 c2=>?_;refine bN J<|aR<|an<|aw<|am<|zo rfl (nF (dv hx1 hN1) rfl)<|aJ rfl<|aR ?_;exact bj (aW (ih1 (i1+1) newslice1 l2 c2 ⟨du hx1,h⟩) (bu J))
 ·obtain⟨hx,h⟩:=h
  refine aC<|aA<|zo J (gP J J)<|ax<|af<|bE (ht J) (dZ hx)<|fO<|af<|aB<|aA<|zo J (nY rW cS J J J (d4 hx))<|zo J (bH cS J J)<|bN J<|ax<|aA<|aJ J<|aJ J<|zo J (lx d8 J) ?_;refine zo J (pt (ht J) (ht J))<|bN J<|ax<|aA<|aJ J<|zo J (iA (ht J) hI)<|ax<|eE h J (fun h=>?_) (fun h=>?_)
  ·refine am ?_;exact(nn h).elim
  ·refine bO<|an<|aw<|am<|zo rfl (nF (dv hx hN) rfl)<|aJ rfl<|aR ?_;exact bj (aW (ih (i+1) (IntKind.i64.wrap (size+(e.length:Int))) ⟨du hx,h⟩) (bu J))
theorem PN(slices:(List (List Int))){R:(List Int)}(h:gM slices=some R):bA bc 206 [fZ (fk) slices] (fP R):=(NT _ h).spec

theorem Kj(tag:Int){R:Int}(h:pA tag=some R):bA bc 235 [cm tag] (cm R):=by
 refine bA.of Tryz.func235 J J J fun w0 S0=>aA<|zo J (gv)<|ax<|af<|aB<|aA<|aJ J<|zo J (mU J)<|aJ J<|dQ J J (fun hg=>dw J)<|dQ J J (fun hg=>cO (bB J hg) hI)<|zo J (ua J J)<|bN J<|ax<|eE h J (fun h=>?_) (fun h=>?_)
 ·refine aA<|zo J (gv)<|ax<|av ?_;refine aF (aa ?_);cases so h;exact ba J J
 ·refine aA<|aJ J<|zo J (fF (ht J) hI)<|aJ J<|cP J J (fun hg=>dw J)<|cP J J (fun hg=>lT (bB J hg) hI)<|zo J (r0 J J)<|bN J<|ax<|eE h J (fun h=>?_) (fun h=>?_)
  ·refine aA<|zo J (gv)<|ax<|av ?_;refine aF (aa ?_);cases so h;exact ba J J
  ·refine aA<|aJ J<|zo J (fF (ht J) hI)<|aJ J<|cP J J (fun hg=>dw J)<|cP J J (fun hg=>lT (bB J hg) hI)<|zo J (r0 J J)<|bN J<|ax<|eE h J (fun h=>?_) (fun h=>?_)
   ·refine aA<|zo J (gv)<|ax<|av ?_;refine aF (aa ?_);cases so h;exact ba J J
   ·refine bO<|an<|aw<|aA<|zo rfl (gv)<|ax<|av ?_;cases so h;exact ba J J

theorem Pv(v:cB){R:cB}(h:vi v=some R):bA bc 273 [tD dV v] (tD dV R):=by
 refine bA.of Tryz.func273 J J J fun w0 S0=>aA<|sO (ht J) J fun b=>bh (r:=dV) (x:=EN) uU (fun _=>vh _) J fun b1=>ax<|af<|aA<|zo J (fX 0 wH J J J)<|zo J (aX ce J J uI (.tail _ (.head _)) (ht J))<|ax ?_;refine EF (Z:=fun v1=>jg v1=some R) (Of:=fun v1=>[bx dV 128 b v1,bx dV 128 b1 EN]) (Gf:=fun v1=>[(1,tV (aE b 0)),(2,tV (aE b1 0))]) (fun v1 h=>?_) (fun K=>?_)
 ·skip
  refine aw<|aA<|zo rfl (aX uU rfl rfl bq (.head _) (ht rfl))<|cb<|ap uU rfl aj rfl (ht rfl) (ht rfl)<|bf 2 rfl<|ax<|av<|bb ?_;cases so h;exact lI J uU J J J
 ·skip
  refine af<|aB<|af<|aB<|af ?_;refine EF (Z:=fun v2=>oe v2=some R) (Of:=fun v2=>[bx dV 128 b v2,bx dV 128 b1 EN]) (Gf:=fun v2=>[(1,tV (aE b 0)),(2,tV (aE b1 0))]) (fun v2 h=>?_) (fun K1=>?_)
  ·skip
   refine aw<|aA<|zo rfl (fX 0 wH rfl rfl rfl)<|ap ce rfl xv rfl (ht rfl) hI<|ax<|bt ?_;refine cz J (ac (cz J (ac (aN ?_))));exact cE (K (cB.mk (0:Int) v2.N v2.U v2.S) h) (bu J)
  ·skip
   refine af ?_;refine EG (Z:=od v=some R) (Of:=[bx dV 128 b v,bx dV 128 b1 EN]) (Gf:=[(1,tV (aE b 0)),(2,tV (aE b1 0))]) (fun h=>?_) (fun K2=>?_)
   ·skip
    refine aw<|am<|zo rfl (fX 1 By rfl rfl rfl)<|ap Tq rfl B3 rfl (ht rfl) hI<|aR<|an ?_;exact cE (K1 (cB.mk v.Kind (0:Int) v.U v.S) h) (bu J)
   ·skip
    refine af<|aB<|af<|af<|aA<|zo J (mU J)<|bN J<|ax<|eE h J (fun h=>?_) (fun h=>?_)
    ·refine bt ?_;refine ac (ac (aN ?_));refine aw<|aA<|zo rfl (fX 1 By rfl rfl rfl)<|zo rfl (aX Tq rfl rfl xO (.tail _ (.head _)) (ht rfl))<|zo rfl (H8 rfl)<|aJ rfl<|cP rfl rfl (fun hg=>fX 1 By J J J)<|cP J J (fun hg=>aX Tq J J xO (.tail _ (.head _)) (bB J hg))<|cP J J (fun hg=>fE (bB J hg) hI)<|zo J (r0 J J)<|ax<|eE h J (fun h=>?_) (fun h=>?_)
     ·refine bt ?_;refine cz J (ac (cz J (ac (cz J (ac (cz J (ac (aN ?_))))))));refine cu ?_;exact cE (K v h) (bu J)
     ·refine bO<|an<|cu ?_;exact cE (K2 h) (bu J)
    ·refine fO<|af<|aA<|zo J (mU J)<|bN J<|ax<|eE h J (fun h=>?_) (fun h=>?_)
     ·refine bt ?_;refine ac (ac (cz J (ac (aN ?_))));refine cu ?_;exact cE (K2 h) (bu J)
     ·refine fO<|af<|aA<|zo J (mU J)<|bN J<|ax<|eE h J (fun h=>?_) (fun h=>?_)
      ·refine bt ?_;refine ac (ac (cz J (ac (cz J (ac (aN ?_))))));refine cu ?_;exact cE (K1 v h) (bu J)
      ·refine fO<|af<|aA<|zo J (mU J)<|bN J<|ax<|eE h J (fun h=>?_) (fun h=>?_)
       ·refine bt ?_;refine ac (ac (cz J (ac (cz J (ac (cz J (ac (aN ?_))))))));refine aw ?_;refine jK (Z:=fun v3=>oc v3=some R) (Of:=fun v3=>[bx dV 128 b v3,bx dV 128 b1 EN]) (Gf:=fun v3=>[(1,tV (aE b 0)),(2,tV (aE b1 0))]) (fun v3 h=>?_) (fun K3=>?_)
        ·skip
         refine bt ?_;refine cz J (ac (aN ?_));exact cE (K v3 h) (bu J)
        ·skip
         refine aA<|zo J (fX 3 FF J J J)<|zo J (aX Io J J xN (.tail _ (.head _)) (ht J))<|zo J (yM kV (ht J))<|zo J (lT (ht J) hI)<|ax<|eE h J (fun h=>?_) (fun h=>?_)
         ·refine am<|zo J (fX 0 wH J J J)<|cb<|ap ce J xv J (ht J) hI<|zo J (fX 3 FF J J J)<|ap Io J Iz J (ht J) hS<|aR ?_;exact cE (K3 (cB.mk (0:Int) v.N v.U ([])) h) (bu J)
         ·refine bO<|cu ?_;exact cE (K3 v h) (bu J)
       ·refine fO<|aA<|zo J (mU J)<|bN J<|ax<|eE h J (fun h=>?_) (fun h=>?_)
        ·refine bt ?_;refine ac (cz J (ac (cz J (ac (cz J (ac (cz J (ac (aN ?_)))))))));refine aw<|aA<|zo rfl (fX 0 wH rfl rfl rfl)<|cb<|ap ce rfl xv rfl (ht rfl) hI<|zo rfl (fX 1 By rfl rfl rfl)<|ap Tq rfl B3 rfl (ht rfl) hI<|zo rfl (fX 2 Pr rfl rfl rfl)<|ap QA rfl IA rfl (ht rfl) hI<|ax<|bt<|aN ?_;exact cE (K (cB.mk (0:Int) (0:Int) (0:Int) v.S) h) (bu J)
        ·refine fO<|bt ?_;refine cz J (ac (cz J (ac (cz J (ac (cz J (ac (cz J (ac (aN ?_))))))))));refine cu ?_;exact cE (K v h) (bu J)

theorem Pw(v:cB){R:Int}(h:sf v=some R):bA bc 265 [tD dV v] (cm R):=by
 refine bA.of Tryz.func265 J J J fun w0 S0=>aA<|zo J (l9 J)<|zo J (gv)<|ax<|af<|aA<|zo J (bH uU J J)<|bT h fun r q_r h=>zo J (aL Ua (Pv _ q_r) ⟨(ht J),aV⟩)<|zo J (c0 (y:=EN) uU NJ vh (J))<|zo J (J4 N5 (ht J) (ht J))<|ax<|eE h J (fun h=>?_) (fun h=>?_)
 ·refine aA<|zo J (gv)<|ax<|av<|aa ?_;cases so h;exact ba J J
 ·refine fO<|aA<|zo J (gv)<|ax<|av ?_;cases so h;exact ba J J

theorem Px(v:cB){R:Bool}(h:se v=some R):bA bc 254 [tD dV v] (gX R):=by
 refine bA.of Tryz.func254 J J J fun w0 S0=>aA<|zo J (l9 J)<|zo J (iO)<|ax<|aA<|zo J (bH uU J J)<|bT h fun r q_r h=>zo J (aL Ub (Pw _ q_r) ⟨(ht J),aV⟩)<|zo J (mU J)<|aJ J<|cP J J (fun hg=>cQ wH uI J J)<|cP J J (fun hg=>bD ce J J (bB J hg))<|cP J J (fun hg=>fE (bB J hg) hI)<|zo J (r0 J J)<|bN J<|ax<|av ?_;cases so h;exact ba J J

theorem PD(n:aU){R:Bool}(h:sI n=some R):bA bc 236 [tD aY n] (gX R):=by
 refine bA.of Tryz.func236 J J J fun w0 S0=>aA<|zo J (l9 J)<|zo J (iO)<|ax<|af<|aA<|zo J (cQ kz fV J J)<|zo J (bH ce J J)<|ax<|aB<|aA<|zo J (mU J)<|bN J<|ax<|eE h J (fun h=>?_) (fun h=>?_)
 ·refine aA<|zo J (cQ y5 rC J J)<|zo J (bH uU J J)<|bT h fun r q_r h=>zo J (aL Uf (Px _ q_r) ⟨(ht J),aV⟩)<|aJ J<|cP J J (fun hg=>cQ oJ ju J J)<|cP J J (fun hg=>bD ce J J (bB J hg))<|cP J J (fun hg=>cO (bB J hg) hI)<|zo J (r0 J J)<|bN J<|ax<|av ?_;refine aF (aa ?_);cases so h;exact ba J J
 ·refine aA<|zo J (mU J)<|bN J<|ax<|eE h J (fun h=>?_) (fun h=>?_)
  ·refine aA<|zo J (cQ y5 rC J J)<|zo J (bH uU J J)<|zo J (c0 (y:=EN) uU NJ vh (J))<|zo J (J7 N5 (ht J) (ht J))<|aJ J<|cP J J (fun hg=>cQ oJ ju J J)<|cP J J (fun hg=>bD ce J J (bB J hg))<|cP J J (fun hg=>fF (bB J hg) hI)<|zo J (r0 J J)<|aJ J<|cP J J (fun hg=>cQ oJ ju J J)<|cP J J (fun hg=>bD ce J J (bB J hg))<|cP J J (fun hg=>iA (bB J hg) hI)<|zo J (r0 J J)<|bN J<|ax<|av ?_;refine aF (aa ?_);cases so h;exact ba J J
  ·refine bO<|an<|aw<|aA<|zo rfl (cQ y5 rC rfl rfl)<|zo rfl (bH uU rfl rfl)<|zo rfl (c0 (y:=EN) uU NJ vh (J))<|zo J (J7 N5 (ht J) (ht J))<|aJ J<|cP J J (fun hg=>cQ oJ ju J J)<|cP J J (fun hg=>bD ce J J (bB J hg))<|cP J J (fun hg=>cO (bB J hg) hI)<|zo J (r0 J J)<|bN J<|ax<|av ?_;cases so h;exact ba J J

theorem Kl(e:aT){R:(List Int)×Bool}(h:qo e=some R):bA bc 203 [tD bz e] (tT [fP R.1,gX R.2]):=by
 refine bA.of Tryz.func203 J J J fun w0 S0=>aA<|zo J (l9 J)<|zo J (aS (show aK _ _ _ o8 from lU))<|zo J (iO)<|ax<|aA<|cj false cn 3<|zo J (aS u7)<|cj false cn 3<|zo J (aS u7)<|ax<|af<|aA<|zo J (cQ fW db J J)<|zo J (bH mR J J)<|zo J (lx l8 J)<|zo J (bJ hI)<|aR ?_;refine aw<|aB<|bl (k:=15) J fun hN=>bU<|ip ?_;refine aW (CS (Z:=fun ls i all l c open1 l1 c1=>(e.Nodes.drop i=ls)∧jw ls i all open1=some R) (Of:=fun _ i all l c open1 l1 c1=>[gu cn 3 l c all,gu cn 3 l1 c1 open1]) (Gf:=fun _ i all l c open1 l1 c1=>[(4,rU l c all),(5,rU l1 c1 open1),(15,fZ (aY) e.Nodes),(16,jB e.Nodes),(17,cm (i:Int))]) (fun i all l c open1 l1 c1 h=>?_) (fun e1 tl ih i all l c open1 l1 c1 h=>?_) e.Nodes 0 ra none 0 ra none 0 ⟨J,h⟩) (bu J)
 ·obtain⟨hx,h⟩:=h
  refine aC<|aA<|zo J (gP J J)<|ax<|af<|bF (ht J) (d5 hx)<|bt ?_;refine ac (ac (aN ?_));refine aw<|aA<|aJ rfl<|aJ rfl<|zo rfl (hX d8 (.tail _ (.head _)) (ht rfl))<|zo rfl (mU rfl)<|aJ rfl<|cP rfl rfl (fun hg=>dw J)<|cP J J (fun hg=>hX d8 (.head _) (bB J hg))<|cP J J (fun hg=>lT (bB J hg) hI)<|zo J (r0 J J)<|bN J<|bN J<|ax<|av<|jL<|da 4 J<|da 84 J<|da 2 J<|kU 2 J<|bb<|bb ?_;cases so h;exact df J J J
 ·obtain⟨hx,h⟩:=h
  refine aC<|aA<|zo J (gP J J)<|ax<|af<|bE (ht J) (dZ hx)<|fO<|af<|aB<|aA<|aJ J<|zo J (nY l8 dS J J J (d4 hx))<|zo J (bH dS J J)<|bh (r:=aY) (x:=Gh) dS (fun _=>n7 _) J fun b=>bN J<|ap dS J aj J (ht J) (ht J)<|bf 7 J<|ax<|af ?_;refine am<|zo J (cQ kz fV J J)<|zo J (bH ce J J)<|bT h fun r q_r h=>zo J (aL QN (Kj _ q_r) ⟨(ht J),aV⟩)<|bN J<|ax<|af<|aA<|aJ J<|zo J (iA (ht J) hI)<|aJ J<|dQ J J (fun hg=>dw J)<|dQ J J (fun hg=>dw J)<|dQ J J (fun hg=>hX d8 (.tail _ (.head _)) (bB J hg))<|dQ J J (fun hg=>gU (bB J hg) (bB J hg))<|zo J (ua J J)<|aJ J<|bT h fun t q_t h=>dQ J J (fun hg=>bH dS J J) ?_
  obtain⟨r1,h1t,h0t⟩:=og q_t
  have q_r1g:=fun hb=>(h1t hb).1
  refine dQ J J (fun hg=>aL Un (PD _ (q_r1g hg)) ⟨(bB J hg),aV⟩)<|dQ J J (fun hg=>gj (bB J hg))<|zo J (gT (ht J) (fun hb=>(bB J (vN hb))) (fun hb=>(h1t hb).2) h0t)<|ax<|eE h J (fun h=>?_) (fun h=>?_)
  ·refine aA<|zo J (aS (show aK _ _ _ o8 from lU))<|zo J (iO)<|ax<|av ?_;refine aa (aF (aa (aa (aF (aa ?_)))));refine bb<|bb ?_;cases so h;exact df J J J
  ·refine fO<|aA<|aJ J<|aJ J<|zo J (hX d8 (.tail _ (.head _)) (ht J))<|aJ J<|zo J (ib (ht J) (ht J))<|bT h fun y q_y h=>zo J (qe d8 ce J (.tail _ (.head _)) (ht J) (ht J) q_y)<|oO (.tail _ (.head _)) q_y fun hv=>bN J<|ax<|aA<|zo J (zW (r:=cn) (ys:=[q9,q9]) (xs:=[.const (.int .i64 (-1)),.const (.int .i64 (-1))]) Dw ce J DD J J ⟨hI,hI,aV⟩)<|bh (r:=KS) (x:=(List.replicate 2 (0:Int))) DD (fun _=>Oo (r:=cn) 2 (fun _=>J) _) J fun b1=>ap DD J aj J (ht J) (ht J)<|ax<|aA ?_;refine aJ J<|bN J<|ax<|af<|aA<|aJ J<|zo J (Pb d8 (.tail _ (.tail _ (.head _))) q_y (ht J))<|zo J (bJ hI)<|ax<|aB ?_
   have hN1:=hv.2
   refine bU<|mN<|mN ?_;refine aW (oQ (Z:=fun ls1 i1 first at1=>(y.drop i1=ls1)∧kO (jw tl) i e1 all open1 r ls1 i1 first at1=some R) (Of:=fun _ i1 first at1=>[gu cn 3 l c all,gu cn 3 l1 c1 open1,bx KS 141 b1 at1]) (Gf:=fun _ i1 first at1=>[(4,rU l c all),(5,rU l1 c1 open1),(6,cm (i:Int)),(7,bw aY e1),(8,cm r),(10,tV (aE b1 0)),(11,cm first),(15,fZ (aY) e.Nodes),(16,jB e.Nodes),(17,cm (i:Int)),(46,tV (md 1 l1 c1 (IntKind.i64.wrap ((open1.length:Int)-r)).toNat y.length)),(47,jB y),(48,cm (i1:Int))]) (fun i1 first at1 h=>?_) (fun e2 tl1 ih1 i1 first at1 h=>?_) y 0 (i:Int) ([q9,q9]) ⟨J,h⟩) (bu J)
   ·obtain⟨hx1,h⟩:=h
    refine aC<|aA<|zo J (gP J J)<|ax<|af<|bF (ht J) (d5 hx1)<|bt ?_;refine ac (ac (aN ?_));refine aw<|af<|aA<|zo rfl (aX DD rfl rfl bq (.tail _ (.tail _ (.head _))) (ht rfl))<|zo rfl (cQ y7 uL rfl rfl)<|zo rfl (bH ce rfl rfl)<|zo rfl (cQ y6 uK rfl rfl)<|zo rfl (bH ce rfl rfl)<|zo rfl (zW (r:=cn) (ys:=[e1.L,e1.R]) (xs:=[.tmp 65,.tmp 67]) Dw ce J DD J J ⟨(ht J),(ht J),aV⟩)<|zo J (J4 T5 (ht J) (ht J))<|ax<|eE h J (fun h=>?_) (fun h=>?_)
    ·refine aA<|zo J (aS (show aK _ _ _ o8 from lU))<|zo J (iO)<|ax<|av ?_;refine aa (aF (aa (aa (aF (aa ?_)))));refine bb<|bb<|bb ?_;cases so h;exact df J J J
    ·refine fO<|aA<|aJ J<|aJ J<|zo J (aQ (r:=cn) (ys:=[first]) (xs:=[.tmp 71]) d8 ce J J J J J ⟨(ht J),aV⟩)<|bT h fun all1 q_all1 h=>dJ ce J J J J d8 J J (ht J) (ht J) q_all1 fun l2 c2=>bN J<|ax<|am<|aJ J<|aJ J<|zo J (hX d8 (.tail _ (.head _)) (ht J))<|aJ J<|zo J (ib (ht J) (ht J))<|bT h fun y1 q_y1 h=>zo J (qf d8 ce J (.tail _ (.head _)) (ht J) (ht J) q_y1)<|aJ J<|zo J (aQ (r:=cn) (ys:=[(i:Int)]) (xs:=[.tmp 80]) d8 ce J J J J J ⟨(ht J),aV⟩)<|cb<|CP q_y1 ?_;refine bT h fun open2 q_open2 h=>dJ ce J J J J d8 J J (ht J) (ht J) q_open2 fun l3 c3=>bN J<|aR<|an<|aw<|am<|zo rfl (nF (dv hx hN) rfl)<|aJ rfl<|aR<|au<|bb<|cu ?_;exact bj (aW (ih (i+1) all1 l2 c2 open2 l3 c3 ⟨du hx,h⟩) (bu J))
   ·obtain⟨hx1,h⟩:=h
    refine aC<|aA<|zo J (gP J J)<|ax<|af<|bE (ht J) (dZ hx1)<|fO<|af<|aB<|aA<|aJ J<|zo J (De d8 ce J (.tail _ (.head _)) q_y (ht J) (ht J) (d4 hx1))<|zo J (ge (r:=cn) (i:=((IntKind.i64.wrap ((open1.length:Int)-r))+(i1:Int))) (foff:=0) ce J J bq J (.tail _ (.head _)) (B0 q_y (d4 hx1)).1 (ht J))<|bN J<|bN J<|ax<|bT h fun e3 q_e3 h=>bT h fun e4 q_e4 h=>bT h fun ar q_ar h=>?_
    refine j6 10 [tc (cm (i1:Int)),tc (cm e2),tc (cm first),tc (rU l c all),tc (cm e2),tc (tV (mb l (e2.toNat*1+0))),tc (cm e3),tc (cm (min first e3)),tc (tV (aE b1 ((i1:Int).toNat*1))),tc (zJ)] [false,false,false,false,false,false,false,false,false,true] [fun _=>[gu cn 3 l c all,gu cn 3 l1 c1 open1,bx KS 141 b1 at1],fun sg=>[bx KS 141 b1 ar,gu cn 3 l c all,gu cn 3 l1 c1 open1]] J mixed J J J J J
     ⟨⟨[⟨12,fun _=>tD cn (i1:Int),none⟩],_,0,0,J,⟨(fun _=>J),aV⟩,J,J,J,J,J,fun _ sg _ _=>ae J (dw J)⟩,
     ⟨⟨[⟨13,fun _=>tD cn e2,none⟩],_,0,0,J,⟨(fun _=>J),aV⟩,J,J,J,J,J,fun _ sg _ _=>ae J (dw J)⟩,
     ⟨⟨[⟨11,fun _=>tD cn first,none⟩],_,0,1,J,⟨(fun _=>J),aV⟩,J,J,J,J,J,fun _ sg _ _=>ae J (dw J)⟩,
     ⟨⟨[⟨4,fun _=>tV (aD l c all.length),none⟩],_,0,1,J,⟨(fun _=>J),aV⟩,J,J,J,J,J,fun _ sg _ _=>ae J (dw J)⟩,
     ⟨⟨[⟨13,fun _=>tD cn e2,none⟩],_,0,1,J,⟨(fun _=>J),aV⟩,J,J,J,J,J,fun _ sg _ _=>ae J (dw J)⟩,
     ⟨⟨[⟨56,fun _=>tV (aD l c all.length),some 3⟩,⟨57,fun _=>tD cn e2,some 4⟩],_,0,1,J,⟨(fun _=>J),(fun _=>J),aV⟩,J,J,J,J,J,EP (fun sg=>ae J (cF d8 ce (.head _) (ht J) (ht J) q_e3)) (yo (fun sg=>ae J (cF d8 ce (.tail _ (.head _)) (ht J) (ht J) q_e3)))⟩,
     ⟨⟨[⟨58,fun _=>tV (mb l (e2.toNat*1+0)),some 5⟩],_,0,1,J,⟨(fun _=>J),aV⟩,J,J,J,J,J,EP (fun sg=>ae J (ge (r:=cn) (i:=e2) (foff:=0) ce J J bq J (.head _) q_e3 (ht J))) (yo (fun sg=>ae J (ge (r:=cn) (i:=e2) (foff:=0) ce J J bq J (.tail _ (.head _)) q_e3 (ht J))))⟩,
     ⟨⟨[⟨55,fun _=>tD cn first,some 2⟩,⟨59,fun _=>tD cn e3,some 6⟩],_,0,1,J,⟨(fun _=>J),(fun _=>J),aV⟩,J,J,J,J,J,fun _ sg _ _=>ae J (J5 (ht J) (ht J))⟩,
     ⟨⟨[⟨10,fun _=>tV (aE b1 0),none⟩,⟨53,fun _=>tD cn (i1:Int),some 0⟩],_,0,0,J,⟨(fun _=>J),(fun _=>J),aV⟩,J,J,J,J,J,yo (fun sg=>ae J (Dd Dw ce (.tail _ (.tail _ (.head _))) (ht J) (ht J) q_e4))⟩,
     ⟨⟨[⟨61,fun _=>tV (aE b1 ((i1:Int).toNat*1)),some 8⟩,⟨54,fun _=>tD cn e2,some 1⟩],_,J,⟨(fun _=>J),(fun _=>J),aV⟩,J,J,J,fun sg=>cy J (EffOK.fr2 (Jp ce J q_e4 (so q_ar) (ht J) (ht J)))⟩,
     aV⟩⟩⟩⟩⟩⟩⟩⟩⟩⟩ (fun sg=>?_)
    refine(show RG _ _ _ _ [bx KS 141 b1 ar,gu cn 3 l c all,gu cn 3 l1 c1 open1] _ from ?_);refine bN J<|aR<|an<|aw<|am<|zo rfl (nF (dv hx1 hN1) rfl)<|aJ rfl<|aR<|au<|au ?_;exact bj (aW (ih1 (i1+1) (min first e3) ar ⟨du hx1,h⟩) (bu J))

end Go.Proofs.YtnmjbolollcokaaGreatDoor

