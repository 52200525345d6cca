/- cN of this claim: P0. -/
import Derived.Test.YtnmjbolollcokaaGreatDoorRaT
import Derived.Test.YtnmjbolollcokaaGreatDoorRaF
set_option linter.all false
namespace Go.Proofs.YtnmjbolollcokaaGreatDoor
open Go
abbrev H3:=fun(mc:aB) (mx:ai)=>(ir mc mx).map fun mr=>(mr,mc)
abbrev H2:=fun(mc:aB) (mx:ai)=>(iu mc mx).map fun mr=>(mr,mc)
abbrev H7:=fun(mc:aB) (mx:ai)=>(gv mc mx).map fun mr=>(mr,mc)
abbrev H4:=fun(mc:aB) (mx:ai)=>(gT mc mx).map fun mr=>(mr,mc)
abbrev H8:=fun(mc:aB) (mx:ai)=>(fQ mc mx).map fun mr=>(mr,mc)
abbrev H9:=fun(mc:aB) (mx:ai)=>(fx mc mx).map fun mr=>(mr,mc)
abbrev H6:=fun(mc:aB) (mx:ai)=>(gR mc mx).map fun mr=>(mr,mc)
abbrev H5:=fun(mc:aB) (mx:ai)=>(gS mc mx).map fun mr=>(mr,mc)
abbrev Bn:=eK (eK (eK (eK (eK (eK (eK (eK ([]:List (Int×(aB→ai→Option (((List Int)×Bool)×aB)))) (1:Int) H3) (2:Int) H2) (3:Int) H7) (4:Int) H4) (5:Int) H8) (6:Int) H9) (7:Int) H6) (8:Int) H5
abbrev Ii:=fun(mc:aD) (mx:ai×(List Int)×(List bb))=>(kV mc mx.1 mx.2.1 mx.2.2).map fun mr=>(mr,mc)
abbrev Ij:=fun(mc:aD) (mx:ai×(List Int)×(List bb))=>(jU mc mx.1 mx.2.1 mx.2.2).map fun mr=>(mr,mc)
abbrev Ik:=fun(mc:aD) (mx:ai×(List Int)×(List bb))=>(jl mc mx.1 mx.2.1 mx.2.2).map fun mr=>(mr,mc)
abbrev Ic:=fun(mc:aD) (mx:ai×(List Int)×(List bb))=>kW mc mx.1 mx.2.1 mx.2.2
abbrev Id:=fun(mc:aD) (mx:ai×(List Int)×(List bb))=>kh mc mx.1 mx.2.1 mx.2.2
abbrev Ig:=fun(mc:aD) (mx:ai×(List Int)×(List bb))=>iX mc mx.1 mx.2.1 mx.2.2
abbrev If:=fun(mc:aD) (mx:ai×(List Int)×(List bb))=>kf mc mx.1 mx.2.1 mx.2.2
abbrev Ie:=fun(mc:aD) (mx:ai×(List Int)×(List bb))=>kg mc mx.1 mx.2.1 mx.2.2
abbrev JS:=eK (eK (eK (eK (eK (eK (eK (eK ([]:List (Int×(aD→(ai×(List Int)×(List bb))→Option (bb×aD)))) (1:Int) Ii) (3:Int) Ij) (5:Int) Ik) (2:Int) Ic) (4:Int) Id) (6:Int) Ig) (7:Int) If) (8:Int) Ie
abbrev fc:=(⟨[],[],(0:Int),[]⟩:bb)
abbrev mT:=(⟨[]⟩:bA)
abbrev vG:=(⟨(0:Int),(0:Int),(0:Int),(0:Int),[],false,mT,[],[],[],[],(0:Int)⟩:ai)
abbrev wS:=fun(x:ai×(List Int)×(List bb))=>[tD aj x.1,dE x.2.1,dS (ah) x.2.2]
abbrev bR:=rI .i64
abbrev yz:=(⟨(0:Int),(0:Int),(0:Int),[]⟩:dh)
abbrev zR:=(⟨(0:Int),(0:Int),(0:Int),(0:Int),yz⟩:bT)
abbrev rr:=fun(x:(List Int)×Bool)=>tT [dE x.1,eD x.2]
abbrev rm:=fun(x:ai)=>[tD aj x]
abbrev kM:=(-1:Int)
abbrev Ia:=(⟨(1:Int),kM,kM,(1:Int),[(2:Int)],false,mT,[],[],[],[],(0:Int)⟩:ai)
abbrev HS:=(⟨(1:Int),mT⟩:kF)
abbrev Ih:=(⟨(4:Int),(0:Int),kM,(0:Int),[],false,mT,[],[HS],[],[],(0:Int)⟩:ai)
abbrev LR:=(⟨[Ia,Ih]⟩:cI)
abbrev kb:=fun(x:Bool)=>eD x
abbrev mU:=fun(x:bb)=>tD ah x
abbrev sB:=fun(x:ci)=>[tD c0 x]
abbrev yA:=fun(x:aN×Int)=>[tD bC x.1,bK x.2]
abbrev u6:=fun(x:bX)=>[tD cX x]
abbrev rn:=fun(x:jy)=>tD rS x
abbrev mE:=([]:List Int)
abbrev oX:=(⟨[]⟩:bI)
abbrev HU:=(⟨[97],(2:Int)⟩:bX)
abbrev HV:=(⟨[98],(2:Int)⟩:bX)
abbrev Ib:=(⟨[116],[HU,HV],[(0:Int)]⟩:ci)
abbrev ln:=dE ([])
abbrev kL:=dG bR
abbrev Ga:=fun(x:bT×(List Int))=>[tD aY x.1,dE x.2]
abbrev Bm:=fun(x:Bool)=>tD rB x
abbrev zT:=([]:List (List Int))
abbrev F9:=fun(x:Int×Int)=>tT [bK x.1,bK x.2]
abbrev EA:=fun(x:cz)=>[tD aR x]
abbrev H1:=fun(x:bT×(List Int))=>[tD aY x.1,tD kL x.2]
abbrev tI:=dG ah
abbrev H0:=(⟨[99],(2:Int)⟩:bX)
abbrev Ez:=fun(x:jP)=>[tD gE x]
abbrev pZ:=Ma .i64
abbrev Bl:=dS (bC) ([])
abbrev zS:=(⟨[]⟩:cI)
abbrev F8:=fun(x:bT)=>[tD aY x]
abbrev HY:=fun(x:Int×Int)=>tT [tD bR x.1,tD bR x.2]
abbrev wW:=dG aj
abbrev Ey:=fun(x:Int)=>[bK x]
abbrev Bk:=([]:List ai)
abbrev HX:=(⟨[],(0:Int),(0:Int),[]⟩:cz)
abbrev F7:=(⟨(0:Int),mT⟩:kF)
abbrev HW:=(⟨[117],[H0],[]⟩:ci)
abbrev HT:=(⟨[],(0:Int)⟩:bX)
abbrev Dm:=dG aY
abbrev Ex:=([]:List kF)
abbrev Dl:=oF bR 2
set_option maxRecDepth 100000

theorem G3(s:(List Int))(f:(Int→Option Bool)){R:Int}(h:jZ s f=some R):bo aX 193 [dE s,(eS aX Ey kb (fun(x:Int)=>f x))] (bK R):=by
 refine bo.of Tryz.func193 J J J fun w0 S0=>ay<|zo J (dW)<|aw<|ae<|ay<|aG J<|zo J (fV cW J)<|zo J (bv hI)<|aw<|ax<|bh (k:=6) J fun hN=>bF ?_;refine aT (dH (Z:=fun ls i=>(s.drop i=ls)∧fk f ls i=some R) (Of:=fun _ i=>[]) (Gf:=fun _ i=>[(0,dE s),(1,(eS aX Ey kb (fun(x:Int)=>f x))),(7,f7 s),(8,bK (i:Int))]) (fun i h=>?_) (fun e tl ih i h=>?_) s 0 ⟨J,h⟩) (bn J)
 ·obtain⟨hx,h⟩:=h
  refine aA<|ay<|zo J (em J J)<|aw<|ae<|bz (ht J) (da hx)<|bk ?_;refine ac (ac (aM ?_));refine aq<|ay<|zo rfl (dW)<|aw<|ap ?_;cases so h;exact aU J J
 ·obtain⟨hx,h⟩:=h
  refine aA<|ay<|zo J (em J J)<|aw<|ae<|bw (ht J) (c9 hx)<|dB<|ae<|ax<|ay<|aG J<|bB J<|aw<|ay<|aG J<|aG J<|aG J<|zo J (jA cW bD J J J (cV hx)) ?_;refine zo J (bq bD J J)<|bG h fun r q_r h=>zo J (gu (args:=(fun(x:Int)=>[tD bR x])) (res:=Bm) (f:=(fun(x:Int)=>f x)) (x:=((e):Int)) (ht J) q_r ⟨(ht J),aV⟩)<|aw<|db h J (fun h=>?_) (fun h=>?_)
  ·refine ay<|aG J<|bB J<|aw<|ap ?_;refine aH (M (M (aH (M ?_))));cases so h;exact aU J J
  ·refine bE<|an<|aq<|am<|zo rfl (jY (cG hx hN) rfl)<|aG rfl<|aQ ?_;exact bf (aT (ih (i+1) ⟨cF hx,h⟩) (bn J))

theorem CU(s:(List Int))(f:(Int→Option Bool)){R:Bool}(h:fm s f=some R):bo aX 127 [dE s,(eS aX Ey kb (fun(x:Int)=>f x))] (eD R):=by
 refine bo.of Tryz.func127 J J J fun w0 S0=>ay<|zo J (eL)<|aw<|ay<|aG J<|aG J<|bG h fun r q_r h=>zo J (aF Lg (G3 _ _ q_r) ⟨(ht J),(ht J),aV⟩)<|zo J (dm (ht J) hI)<|bB J<|aw<|ap ?_;cases so h;exact aU J J

theorem GZ(k:Int){R:Bool}(h:uI k=some R):bo aX 205 [bK k] (eD R):=by
 refine bo.of Tryz.func205 J J J fun w0 S0=>ay<|zo J (eL)<|aw<|ay<|aG J<|zo J (jS J)<|aG J<|cR J J (fun hg=>cn J)<|cR J J (fun hg=>bW (bc J hg) hI)<|zo J (oB J J)<|aG J<|cR J J (fun hg=>cn J)<|cR J J (fun hg=>bW (bc J hg) hI)<|zo J (oB J J)<|bB J<|aw<|ap ?_;cases so h;exact aU J J

theorem G0(k:Int){R:Bool}(h:jq k=some R):bo aX 204 [bK k] (eD R):=by
 refine bo.of Tryz.func204 J J J fun w0 S0=>ay<|zo J (eL)<|aw<|ay<|aG J<|bG h fun r q_r h=>zo J (aF Lb (GZ _ q_r) ⟨(ht J),aV⟩)<|zo J (dy (ht J))<|bB J<|aw<|ap ?_;cases so h;exact aU J J

theorem Jr(b:Nat)(ix:OI)(c:aB)(n:ai){R:(List Int)×Bool}(h:ir c n=some R):cA aX 148 [tV (aE b 0),tD aj n] (cE b c ix) (fun _:OI=>tT [dE R.1,eD R.2]) (fun _=>(cE b c ix)):=by
 refine cA.of Tryz.func148 J J J fun w0 S0=>?_;refine(show CG _ _ _ [bx (rH aZ [(1,aC (ix.h 0).1 (ix.h 0).2 c.kinds.length),(2,aC (ix.h 1).1 (ix.h 1).2 c.first.length)]) 123 b c,bV dK 42 (ix.h 0).1 (ix.h 0).2 c.kinds,bV bR 3 (ix.h 1).1 (ix.h 1).2 c.first] _ from ?_);refine ay<|zo J (gP J)<|zo J (aP (show aL _ _ _ ln from hP))<|zo J (eL)<|aw<|ay<|zo J (aP (show aL _ _ _ ((eS aX Ey kb (fun(x:Int)=>jq x)))from(ID Lc fun x y h=>G0 _ h)))<|aw<|ay<|zo J (cc pB jt J J)<|zo J (bq bD J J)<|zo J (dm (ht J) hI)<|aG J<|cb J J (fun hg=>cc pB jt J J)<|cb J J (fun hg=>be bD J J (bc J hg))<|cb J J (fun hg=>eg (bc J hg) hI)<|zo J (kG J J)<|aG J<|cb J J (fun hg=>cc ou js J J) ?_;refine cb J J (fun hg=>be cy J J (bc J hg))<|cb J J (fun hg=>bY cW (bc J hg))<|cb J J (fun hg=>dm (bc J hg) hI)<|zo J (kG J J)<|aG J<|cb J J (fun hg=>cc ou js J J)<|cb J J (fun hg=>be cy J J (bc J hg))<|cb J J (fun hg=>bY cW (bc J hg))<|cb J J (fun hg=>io (bc J hg) hI)<|zo J (kG J J)<|bB J<|aw<|ae<|bG h fun t q_t h=>?_
 obtain⟨r,h1t,h0t⟩:=og q_t
 have q_rg:=fun hb=>(h1t hb).1
 refine ec (ts:=[_,_,_,_,_,_,_,_,_,_,_,_]) mixed J J
  ⟨dT 3 J J J (cc ou js J J),
  ⟨cP 28 0 J J J (bq cy J J),
  ⟨dT 7 J J J (cn J),
  ⟨cP 30 2 J J J (cn J),
  ⟨nz 3 31 3 J J J J (dg J J J J (fun hg=>cc ou js J J)),
  ⟨ie 32 4 31 3 J J J J (dg J J J J (fun hg=>be cy J J (bc J hg))),
  ⟨nz 6 31 3 J J J J (dg J J J J (fun hg=>cn J)),
  ⟨rs 33 5 34 6 31 3 J J J J J (dg J J J J (fun hg=>aF HK (CU _ _ (q_rg hg)) ⟨(bc J hg),(bc J hg),aV⟩)),
  ⟨ie 35 7 31 3 J J J J (dg J J J J (fun hg=>dy (bc J hg))),
  ⟨dL 31 3 36 8 J J J J (dj (ht J) (fun hb=>(bc J hb)) (fun hb=>(h1t hb).2) h0t),
  ⟨cP 29 1 J J J (tK J),
  ⟨cP 37 9 J J J (tK J),
  aV⟩⟩⟩⟩⟩⟩⟩⟩⟩⟩⟩⟩ ?_
 refine aq<|ap<|av<|av<|av ?_;cases so h;exact fP (ts:=[dE n.Kinds,eD t]) (rvs:=[.tmp 4,.tmp 5]) J J ⟨cJ J,cJ J,aV⟩ lm J J

theorem Fk(n:Int){R:(List Int)}(h:mz n=some R):eG aX 237 [tV (.slice none 0 0),bK n] false bR 3 R:=by
 refine eG.of Tryz.func237 J J J fun w0 S0=>ay<|bM false bR 3<|zo J (aP oS)<|aw ?_;refine Ej (Z:=kQ n=some R) (Of:=[]) (Gf:=[(0,tV (.slice none 0 0)),(1,bK n)]) (fun h=>?_) (fun K=>?_)
 ·skip
  refine Ei (Z:=fun s l c=>ij s=some R) (Of:=fun s l c=>[d9 bR 3 l c s]) (Gf:=fun s l c=>[(0,mg l c s)]) (fun s l c h=>?_) (fun K1=>?_)
  ·skip
   refine ay<|aG J<|bB J<|aw<|ap ?_;cases so h;exact el J J
  ·skip
   refine ay<|aG J<|aG J<|zo J (xI cW (ht J))<|aG J<|zo J (xG cW (ht J))<|zo J (fb (ht J) (ht J))<|zo J (fb (ht J) (ht J))<|bB J<|aw<|ay<|aG J<|zo J (fq (ht J) hI)<|aw<|db h J (fun h=>?_) (fun h=>?_)
   ·refine am<|aG J<|aG J<|zo J (xI cW (ht J))<|zo J (Ar cW bD (ht J) (ht J))<|aG J<|bG h fun u q_u h=>bG h fun mk q_mk h=>iE (AL (r:=bR) (x:=(0:Int)) bD J J J J cW lj (fun _=>J) (ht J) (ht J) (E9 q_u) q_mk) J fun i=>aG J<|zo J (xG cW (ht J))<|bG h fun y q_y h=>zo J (l9 cW bD J (.head _) (ht J) (ht J) q_y)<|wJ q_y<|bB J<|aQ ?_;exact ce (K1 y (i.h 0).1 (i.h 0).2 h) (bn J)
   ·refine bE<|FX false bR 3 ?_;exact ce (K1 mE none 0 h) (bn J)
 ·skip
  refine ay<|aG J<|zo J (eg (ht J) hI)<|aw<|db h J (fun h=>?_) (fun h=>?_)
  ·refine am ?_;exact(nn h).elim
  ·refine bE<|ba ?_;exact ce (K h) (bn J)
theorem Fn(slices:(List (List Int))){R:(List Int)}(h:iS slices=some R):eG aX 206 [dS (dK) slices] false bR 3 R:=by
 refine eG.of Tryz.func206 J J J fun w0 S0=>ay<|bM false bR 3<|zo J (aP oS)<|aw<|ay<|zo J (dW)<|aw<|ae<|ay<|aG J<|zo J (fV nw J)<|zo J (bv hI)<|aw<|ax<|bh (k:=9) J fun hN=>bF<|lS ?_;refine aT (j7 (Z:=fun ls i size=>(slices.drop i=ls)∧gD slices ls size=some R) (Of:=fun _ i size=>[]) (Gf:=fun _ i size=>[(0,dS (dK) slices),(3,bK size),(9,dS (dK) slices),(10,f7 slices),(11,bK (i:Int))]) (fun i size h=>?_) (fun e tl ih i size h=>?_) slices 0 (0:Int) ⟨J,h⟩) (bn J)
 ·obtain⟨hx,h⟩:=h
  refine aA<|ay<|zo J (em J J)<|aw<|ae<|bz (ht J) (da hx)<|bk ?_;refine ac (ac (aM ?_));refine aq<|ay<|aG rfl<|bG h fun r q_r h=>hY KS (Fk _ q_r) ⟨hV,(ht J),aV⟩ J fun l c=>bB J<|aw<|ae<|ay<|aG J<|zo J (fV nw J)<|zo J (bv hI)<|aw<|ax<|bh (k:=25) J fun hN1=>bF ?_;refine aT (jx (Z:=fun ls1 i1 newslice l1 c1=>(slices.drop i1=ls1)∧gC ls1 newslice=some R) (Of:=fun _ i1 newslice l1 c1=>[d9 bR 3 l1 c1 newslice]) (Gf:=fun _ i1 newslice l1 c1=>[(6,mg l1 c1 newslice),(25,dS (dK) slices),(26,f7 slices),(27,bK (i1:Int))]) (fun i1 newslice l1 c1 h=>?_) (fun e1 tl1 ih1 i1 newslice l1 c1 h=>?_) slices 0 r l c ⟨J,h⟩) (bn J)
  ·obtain⟨hx1,h⟩:=h
   refine aA<|ay<|zo J (em J J)<|aw<|ae<|bz (ht J) (da hx1)<|bk ?_;refine ac (ac (aM ?_));refine aq<|ay<|aG rfl<|bB rfl<|aw<|ap ?_;cases so h;exact el J J
  ·obtain⟨hx1,h⟩:=h
   refine aA<|ay<|zo J (em J J)<|aw<|ae<|bw (ht J) (c9 hx1)<|dB<|ae<|ax<|ay<|zo J (jA nw cy J J J (cV hx1))<|zo J (bq cy J J)<|bB J<|aw<|am<|aG J<|aG J<|bG h fun newslice1 q_newslice1 h=>cM bD J J J J cW J J (ht J) (ht J) q_newslice1 fun l2 c2=>?_;refine bB J<|aQ<|an<|aq<|am<|zo rfl (jY (cG hx1 hN1) rfl)<|aG rfl<|aQ ?_;exact bf (aT (ih1 (i1+1) newslice1 l2 c2 ⟨cF hx1,h⟩) (bn J))
 ·obtain⟨hx,h⟩:=h
  refine aA<|ay<|zo J (em J J)<|aw<|ae<|bw (ht J) (c9 hx)<|dB<|ae<|ax<|ay<|zo J (jA nw cy J J J (cV hx))<|zo J (bq cy J J)<|bB J<|aw<|ay<|aG J<|aG J<|zo J (fV cW J) ?_;refine zo J (jp (ht J) (ht J))<|bB J<|aw<|ay<|aG J<|zo J (eg (ht J) hI)<|aw<|db h J (fun h=>?_) (fun h=>?_)
  ·refine am ?_;exact(nn h).elim
  ·refine bE<|an<|aq<|am<|zo rfl (jY (cG hx hN) rfl)<|aG rfl<|aQ ?_;exact bf (aT (ih (i+1) (IntKind.i64.wrap (size+(e.length:Int))) ⟨cF hx,h⟩) (bn J))
theorem GY(slices:(List (List Int))){R:(List Int)}(h:iS slices=some R):bo aX 206 [dS (dK) slices] (dE R):=(Fn _ h).spec

theorem CO(tag:Int){R:Int}(h:sn tag=some R):bo aX 235 [bK tag] (bK R):=by
 refine bo.of Tryz.func235 J J J fun w0 S0=>ay<|zo J (dW)<|aw<|ae<|ax<|ay<|aG J<|zo J (jS J)<|aG J<|cR J J (fun hg=>cn J)<|cR J J (fun hg=>bW (bc J hg) hI)<|zo J (oB J J)<|bB J<|aw<|db h J (fun h=>?_) (fun h=>?_)
 ·refine ay<|zo J (dW)<|aw<|ap ?_;refine aH (M ?_);cases so h;exact aU J J
 ·refine ay<|aG J<|zo J (dm (ht J) hI)<|aG J<|cb J J (fun hg=>cn J)<|cb J J (fun hg=>io (bc J hg) hI)<|zo J (kG J J)<|bB J<|aw<|db h J (fun h=>?_) (fun h=>?_)
  ·refine ay<|zo J (dW)<|aw<|ap ?_;refine aH (M ?_);cases so h;exact aU J J
  ·refine ay<|aG J<|zo J (dm (ht J) hI)<|aG J<|cb J J (fun hg=>cn J)<|cb J J (fun hg=>io (bc J hg) hI)<|zo J (kG J J)<|bB J<|aw<|db h J (fun h=>?_) (fun h=>?_)
   ·refine ay<|zo J (dW)<|aw<|ap ?_;refine aH (M ?_);cases so h;exact aU J J
   ·refine bE<|an<|aq<|ay<|zo rfl (dW)<|aw<|ap ?_;cases so h;exact aU J J

theorem GE(v:dh){R:dh}(h:uA v=some R):bo aX 273 [tD de v] (tD de R):=by
 refine bo.of Tryz.func273 J J J fun w0 S0=>ay<|n7 (ht J) J fun b=>bj (r:=de) (x:=yz) pR (fun _=>p8 _) J fun b1=>aw<|ae<|ay<|zo J (d3 0 ri J J J)<|zo J (aW bD J J px (.tail _ (.head _)) (ht J))<|aw ?_;refine yh (Z:=fun v1=>gY v1=some R) (Of:=fun v1=>[bx de 128 b v1,bx de 128 b1 yz]) (Gf:=fun v1=>[(1,tV (aE b 0)),(2,tV (aE b1 0))]) (fun v1 h=>?_) (fun K=>?_)
 ·skip
  refine aq<|ay<|zo rfl (aW pR rfl rfl bp (.head _) (ht rfl))<|bQ<|au pR rfl al rfl (ht rfl) (ht rfl)<|bg 2 rfl<|aw<|ap<|ba ?_;cases so h;exact iI J pR J J J
 ·skip
  refine ae<|ax<|ae<|ax<|ae ?_;refine yh (Z:=fun v2=>mX v2=some R) (Of:=fun v2=>[bx de 128 b v2,bx de 128 b1 yz]) (Gf:=fun v2=>[(1,tV (aE b 0)),(2,tV (aE b1 0))]) (fun v2 h=>?_) (fun K1=>?_)
  ·skip
   refine aq<|ay<|zo rfl (d3 0 ri rfl rfl rfl)<|au bD rfl r0 rfl (ht rfl) hI<|aw<|bk ?_;refine ca J (ac (ca J (ac (aM ?_))));exact ce (K (dh.mk (0:Int) v2.N v2.U v2.S) h) (bn J)
  ·skip
   refine ae ?_;refine yi (Z:=mW v=some R) (Of:=[bx de 128 b v,bx de 128 b1 yz]) (Gf:=[(1,tV (aE b 0)),(2,tV (aE b1 0))]) (fun h=>?_) (fun K2=>?_)
   ·skip
    refine aq<|am<|zo rfl (d3 1 vu rfl rfl rfl)<|au J7 rfl vO rfl (ht rfl) hI<|aQ<|an ?_;exact ce (K1 (dh.mk v.Kind (0:Int) v.U v.S) h) (bn J)
   ·skip
    refine ae<|ax<|ae<|ae<|ay<|zo J (jS J)<|bB J<|aw<|db h J (fun h=>?_) (fun h=>?_)
    ·refine bk ?_;refine ac (ac (aM ?_));refine aq<|ay<|zo rfl (d3 1 vu rfl rfl rfl)<|zo rfl (aW J7 rfl rfl sj (.tail _ (.head _)) (ht rfl))<|zo rfl (zQ rfl)<|aG rfl<|cb rfl rfl (fun hg=>d3 1 vu J J J)<|cb J J (fun hg=>aW J7 J J sj (.tail _ (.head _)) (bc J hg))<|cb J J (fun hg=>cK (bc J hg) hI)<|zo J (kG J J)<|aw<|db h J (fun h=>?_) (fun h=>?_)
     ·refine bk ?_;refine ca J (ac (ca J (ac (ca J (ac (ca J (ac (aM ?_))))))));refine bU ?_;exact ce (K v h) (bn J)
     ·refine bE<|an<|bU ?_;exact ce (K2 h) (bn J)
    ·refine dB<|ae<|ay<|zo J (jS J)<|bB J<|aw<|db h J (fun h=>?_) (fun h=>?_)
     ·refine bk ?_;refine ac (ac (ca J (ac (aM ?_))));refine bU ?_;exact ce (K2 h) (bn J)
     ·refine dB<|ae<|ay<|zo J (jS J)<|bB J<|aw<|db h J (fun h=>?_) (fun h=>?_)
      ·refine bk ?_;refine ac (ac (ca J (ac (ca J (ac (aM ?_))))));refine bU ?_;exact ce (K1 v h) (bn J)
      ·refine dB<|ae<|ay<|zo J (jS J)<|bB J<|aw<|db h J (fun h=>?_) (fun h=>?_)
       ·refine bk ?_;refine ac (ac (ca J (ac (ca J (ac (ca J (ac (aM ?_))))))));refine aq ?_;refine ge (Z:=fun v3=>mV v3=some R) (Of:=fun v3=>[bx de 128 b v3,bx de 128 b1 yz]) (Gf:=fun v3=>[(1,tV (aE b 0)),(2,tV (aE b1 0))]) (fun v3 h=>?_) (fun K3=>?_)
        ·skip
         refine bk ?_;refine ca J (ac (aM ?_));exact ce (K v3 h) (bn J)
        ·skip
         refine ay<|zo J (d3 3 zi J J J)<|zo J (aW Dr J J si (.tail _ (.head _)) (ht J))<|zo J (y0 pQ (ht J))<|zo J (io (ht J) hI)<|aw<|db h J (fun h=>?_) (fun h=>?_)
         ·refine am<|zo J (d3 0 ri J J J)<|bQ<|au bD J r0 J (ht J) hI<|zo J (d3 3 zi J J J)<|au Dr J Bv J (ht J) hS<|aQ ?_;exact ce (K3 (dh.mk (0:Int) v.N v.U ([])) h) (bn J)
         ·refine bE<|bU ?_;exact ce (K3 v h) (bn J)
       ·refine dB<|ay<|zo J (jS J)<|bB J<|aw<|db h J (fun h=>?_) (fun h=>?_)
        ·refine bk ?_;refine ac (ca J (ac (ca J (ac (ca J (ac (ca J (ac (aM ?_)))))))));refine aq<|ay<|zo rfl (d3 0 ri rfl rfl rfl)<|bQ<|au bD rfl r0 rfl (ht rfl) hI<|zo rfl (d3 1 vu rfl rfl rfl)<|au J7 rfl vO rfl (ht rfl) hI<|zo rfl (d3 2 GA rfl rfl rfl)<|au Hy rfl Bw rfl (ht rfl) hI<|aw<|bk<|aM ?_;exact ce (K (dh.mk (0:Int) (0:Int) (0:Int) v.S) h) (bn J)
        ·refine dB<|bk ?_;refine ca J (ac (ca J (ac (ca J (ac (ca J (ac (ca J (ac (aM ?_))))))))));refine bU ?_;exact ce (K v h) (bn J)

theorem GF(v:dh){R:Int}(h:uC v=some R):bo aX 265 [tD de v] (bK R):=by
 refine bo.of Tryz.func265 J J J fun w0 S0=>ay<|zo J (gP J)<|zo J (dW)<|aw<|ae<|ay<|zo J (bq pR J J)<|bG h fun r q_r h=>zo J (aF KG (GE _ q_r) ⟨(ht J),aV⟩)<|zo J (cr (y:=yz) pR Fb p8 (J))<|zo J (yY Fy (ht J) (ht J))<|aw<|db h J (fun h=>?_) (fun h=>?_)
 ·refine ay<|zo J (dW)<|aw<|ap<|M ?_;cases so h;exact aU J J
 ·refine dB<|ay<|zo J (dW)<|aw<|ap ?_;cases so h;exact aU J J

theorem GG(v:dh){R:Bool}(h:uB v=some R):bo aX 254 [tD de v] (eD R):=by
 refine bo.of Tryz.func254 J J J fun w0 S0=>ay<|zo J (gP J)<|zo J (eL)<|aw<|ay<|zo J (bq pR J J)<|bG h fun r q_r h=>zo J (aF KH (GF _ q_r) ⟨(ht J),aV⟩)<|zo J (jS J)<|aG J<|cb J J (fun hg=>cc ri px J J)<|cb J J (fun hg=>be bD J J (bc J hg))<|cb J J (fun hg=>cK (bc J hg) hI)<|zo J (kG J J)<|bB J<|aw<|ap ?_;cases so h;exact aU J J

theorem GN(n:bT){R:Bool}(h:uQ n=some R):bo aX 236 [tD aY n] (eD R):=by
 refine bo.of Tryz.func236 J J J fun w0 S0=>ay<|zo J (gP J)<|zo J (eL)<|aw<|ae<|ay<|zo J (cc gU dZ J J)<|zo J (bq bD J J)<|aw<|ax<|ay<|zo J (jS J)<|bB J<|aw<|db h J (fun h=>?_) (fun h=>?_)
 ·refine ay<|zo J (cc s8 nd J J)<|zo J (bq pR J J)<|bG h fun r q_r h=>zo J (aF KL (GG _ q_r) ⟨(ht J),aV⟩)<|aG J<|cb J J (fun hg=>cc k6 fL J J)<|cb J J (fun hg=>be bD J J (bc J hg))<|cb J J (fun hg=>bW (bc J hg) hI)<|zo J (kG J J)<|bB J<|aw<|ap ?_;refine aH (M ?_);cases so h;exact aU J J
 ·refine ay<|zo J (jS J)<|bB J<|aw<|db h J (fun h=>?_) (fun h=>?_)
  ·refine ay<|zo J (cc s8 nd J J)<|zo J (bq pR J J)<|zo J (cr (y:=yz) pR Fb p8 (J))<|zo J (CI Fy (ht J) (ht J))<|aG J<|cb J J (fun hg=>cc k6 fL J J)<|cb J J (fun hg=>be bD J J (bc J hg))<|cb J J (fun hg=>dm (bc J hg) hI)<|zo J (kG J J)<|aG J<|cb J J (fun hg=>cc k6 fL J J)<|cb J J (fun hg=>be bD J J (bc J hg))<|cb J J (fun hg=>eg (bc J hg) hI)<|zo J (kG J J)<|bB J<|aw<|ap ?_;refine aH (M ?_);cases so h;exact aU J J
  ·refine bE<|an<|aq<|ay<|zo rfl (cc s8 nd rfl rfl)<|zo rfl (bq pR rfl rfl)<|zo rfl (cr (y:=yz) pR Fb p8 (J))<|zo J (CI Fy (ht J) (ht J))<|aG J<|cb J J (fun hg=>cc k6 fL J J)<|cb J J (fun hg=>be bD J J (bc J hg))<|cb J J (fun hg=>bW (bc J hg) hI)<|zo J (kG J J)<|bB J<|aw<|ap ?_;cases so h;exact aU J J

theorem CR(e:bA){R:(List Int)×Bool}(h:qN e=some R):bo aX 203 [tD bu e] (tT [dE R.1,eD R.2]):=by
 refine bo.of Tryz.func203 J J J fun w0 S0=>ay<|zo J (gP J)<|zo J (aP (show aL _ _ _ ln from hP))<|zo J (eL)<|aw<|ay<|bM false bR 3<|zo J (aP oS)<|bM false bR 3<|zo J (aP oS)<|aw<|ae<|ay<|zo J (cc d2 cC J J)<|zo J (bq jT J J)<|zo J (fV je J)<|zo J (bv hI)<|aQ ?_;refine aq<|ax<|bh (k:=15) J fun hN=>bF<|ep ?_;refine aT (wN (Z:=fun ls i all l c open1 l1 c1=>(e.Nodes.drop i=ls)∧k7 ls i all open1=some R) (Of:=fun _ i all l c open1 l1 c1=>[d9 bR 3 l c all,d9 bR 3 l1 c1 open1]) (Gf:=fun _ i all l c open1 l1 c1=>[(4,mg l c all),(5,mg l1 c1 open1),(15,dS (aY) e.Nodes),(16,f7 e.Nodes),(17,bK (i:Int))]) (fun i all l c open1 l1 c1 h=>?_) (fun e1 tl ih i all l c open1 l1 c1 h=>?_) e.Nodes 0 mE none 0 mE none 0 ⟨J,h⟩) (bn J)
 ·obtain⟨hx,h⟩:=h
  refine aA<|ay<|zo J (em J J)<|aw<|ae<|bz (ht J) (da hx)<|bk ?_;refine ac (ac (aM ?_));refine aq<|ay<|aG rfl<|aG rfl<|zo rfl (eJ cW (.tail _ (.head _)) (ht rfl))<|zo rfl (jS rfl)<|aG rfl<|cb rfl rfl (fun hg=>cn J)<|cb J J (fun hg=>eJ cW (.head _) (bc J hg))<|cb J J (fun hg=>io (bc J hg) hI)<|zo J (kG J J)<|bB J<|bB J<|aw<|ap<|gh<|cB 4 J<|cB 84 J<|cB 2 J<|ia 2 J<|ba<|ba ?_;cases so h;exact cw J J J
 ·obtain⟨hx,h⟩:=h
  refine aA<|ay<|zo J (em J J)<|aw<|ae<|bw (ht J) (c9 hx)<|dB<|ae<|ax<|ay<|aG J<|zo J (jA je dc J J J (cV hx))<|zo J (bq dc J J)<|bj (r:=aY) (x:=zR) dc (fun _=>kK _) J fun b=>bB J<|au dc J al J (ht J) (ht J)<|bg 7 J<|aw<|ae ?_;refine am<|zo J (cc gU dZ J J)<|zo J (bq bD J J)<|bG h fun r q_r h=>zo J (aF HF (CO _ q_r) ⟨(ht J),aV⟩)<|bB J<|aw<|ae<|ay<|aG J<|zo J (eg (ht J) hI)<|aG J<|cR J J (fun hg=>cn J)<|cR J J (fun hg=>cn J)<|cR J J (fun hg=>eJ cW (.tail _ (.head _)) (bc J hg))<|cR J J (fun hg=>fq (bc J hg) (bc J hg))<|zo J (oB J J)<|aG J<|bG h fun t q_t h=>cR J J (fun hg=>bq dc J J) ?_
  obtain⟨r1,h1t,h0t⟩:=og q_t
  have q_r1g:=fun hb=>(h1t hb).1
  refine cR J J (fun hg=>aF KT (GN _ (q_r1g hg)) ⟨(bc J hg),aV⟩)<|cR J J (fun hg=>dy (bc J hg))<|zo J (dx (ht J) (fun hb=>(bc J (mj hb))) (fun hb=>(h1t hb).2) h0t)<|aw<|db h J (fun h=>?_) (fun h=>?_)
  ·refine ay<|zo J (aP (show aL _ _ _ ln from hP))<|zo J (eL)<|aw<|ap ?_;refine M (aH (M (M (aH (M ?_)))));refine ba<|ba ?_;cases so h;exact cw J J J
  ·refine dB<|ay<|aG J<|aG J<|zo J (eJ cW (.tail _ (.head _)) (ht J))<|aG J<|zo J (fb (ht J) (ht J))<|bG h fun y q_y h=>zo J (l8 cW bD J (.tail _ (.head _)) (ht J) (ht J) q_y)<|lg (.tail _ (.head _)) q_y fun hv=>bB J<|aw<|ay<|zo J (ub (r:=bR) (ys:=[kM,kM]) (xs:=[.const (.int .i64 (-1)),.const (.int .i64 (-1))]) Dh bD J xm J J ⟨hI,hI,aV⟩)<|bj (r:=Dl) (x:=(List.replicate 2 (0:Int))) xm (fun _=>FM (r:=bR) 2 (fun _=>J) _) J fun b1=>au xm J al J (ht J) (ht J)<|aw<|ay ?_;refine aG J<|bB J<|aw<|ae<|ay<|aG J<|zo J (Gm cW (.tail _ (.tail _ (.head _))) q_y (ht J))<|zo J (bv hI)<|aw<|ax ?_
   have hN1:=hv.2
   refine bF<|jO<|jO ?_;refine aT (mf (Z:=fun ls1 i1 first at1=>(y.drop i1=ls1)∧nf (k7 tl) i e1 all open1 r ls1 i1 first at1=some R) (Of:=fun _ i1 first at1=>[d9 bR 3 l c all,d9 bR 3 l1 c1 open1,bx Dl 141 b1 at1]) (Gf:=fun _ i1 first at1=>[(4,mg l c all),(5,mg l1 c1 open1),(6,bK (i:Int)),(7,bl aY e1),(8,bK r),(10,tV (aE b1 0)),(11,bK first),(15,dS (aY) e.Nodes),(16,f7 e.Nodes),(17,bK (i:Int)),(46,tV (jh 1 l1 c1 (IntKind.i64.wrap ((open1.length:Int)-r)).toNat y.length)),(47,f7 y),(48,bK (i1:Int))]) (fun i1 first at1 h=>?_) (fun e2 tl1 ih1 i1 first at1 h=>?_) y 0 (i:Int) ([kM,kM]) ⟨J,h⟩) (bn J)
   ·obtain⟨hx1,h⟩:=h
    refine aA<|ay<|zo J (em J J)<|aw<|ae<|bz (ht J) (da hx1)<|bk ?_;refine ac (ac (aM ?_));refine aq<|ae<|ay<|zo rfl (aW xm rfl rfl bp (.tail _ (.tail _ (.head _))) (ht rfl))<|zo rfl (cc ta pz rfl rfl)<|zo rfl (bq bD rfl rfl)<|zo rfl (cc s9 py rfl rfl)<|zo rfl (bq bD rfl rfl)<|zo rfl (ub (r:=bR) (ys:=[e1.L,e1.R]) (xs:=[.tmp 65,.tmp 67]) Dh bD J xm J J ⟨(ht J),(ht J),aV⟩)<|zo J (yY KC (ht J) (ht J))<|aw<|db h J (fun h=>?_) (fun h=>?_)
    ·refine ay<|zo J (aP (show aL _ _ _ ln from hP))<|zo J (eL)<|aw<|ap ?_;refine M (aH (M (M (aH (M ?_)))));refine ba<|ba<|ba ?_;cases so h;exact cw J J J
    ·refine dB<|ay<|aG J<|aG J<|zo J (aS (r:=bR) (ys:=[first]) (xs:=[.tmp 71]) cW bD J J J J J ⟨(ht J),aV⟩)<|bG h fun all1 q_all1 h=>cM bD J J J J cW J J (ht J) (ht J) q_all1 fun l2 c2=>bB J<|aw<|am<|aG J<|aG J<|zo J (eJ cW (.tail _ (.head _)) (ht J))<|aG J<|zo J (fb (ht J) (ht J))<|bG h fun y1 q_y1 h=>zo J (l9 cW bD J (.tail _ (.head _)) (ht J) (ht J) q_y1)<|aG J<|zo J (aS (r:=bR) (ys:=[(i:Int)]) (xs:=[.tmp 80]) cW bD J J J J J ⟨(ht J),aV⟩)<|bQ<|wJ q_y1 ?_;refine bG h fun open2 q_open2 h=>cM bD J J J J cW J J (ht J) (ht J) q_open2 fun l3 c3=>bB J<|aQ<|an<|aq<|am<|zo rfl (jY (cG hx hN) rfl)<|aG rfl<|aQ<|av<|ba<|bU ?_;exact bf (aT (ih (i+1) all1 l2 c2 open2 l3 c3 ⟨cF hx,h⟩) (bn J))
   ·obtain⟨hx1,h⟩:=h
    refine aA<|ay<|zo J (em J J)<|aw<|ae<|bw (ht J) (c9 hx1)<|dB<|ae<|ax<|ay<|aG J<|zo J (xa cW bD J (.tail _ (.head _)) q_y (ht J) (ht J) (cV hx1))<|zo J (d8 (r:=bR) (i:=((IntKind.i64.wrap ((open1.length:Int)-r))+(i1:Int))) (foff:=0) bD J J bp J (.tail _ (.head _)) (vL q_y (cV hx1)).1 (ht J))<|bB J<|bB J<|aw<|bG h fun e3 q_e3 h=>bG h fun e4 q_e4 h=>bG h fun ar q_ar h=>?_
    refine gA 10 [tc (bK (i1:Int)),tc (bK e2),tc (bK first),tc (mg l c all),tc (bK e2),tc (tV (jg l (e2.toNat*1+0))),tc (bK e3),tc (bK (min first e3)),tc (tV (aE b1 ((i1:Int).toNat*1))),tc (tL)] [false,false,false,false,false,false,false,false,false,true] [fun _=>[d9 bR 3 l c all,d9 bR 3 l1 c1 open1,bx Dl 141 b1 at1],fun sg=>[bx Dl 141 b1 ar,d9 bR 3 l c all,d9 bR 3 l1 c1 open1]] J mixed J J J J J
     ⟨⟨[⟨12,fun _=>tD bR (i1:Int),none⟩],_,0,0,J,⟨(fun _=>J),aV⟩,J,J,J,J,J,fun _ sg _ _=>af J (cn J)⟩,
     ⟨⟨[⟨13,fun _=>tD bR e2,none⟩],_,0,0,J,⟨(fun _=>J),aV⟩,J,J,J,J,J,fun _ sg _ _=>af J (cn J)⟩,
     ⟨⟨[⟨11,fun _=>tD bR first,none⟩],_,0,1,J,⟨(fun _=>J),aV⟩,J,J,J,J,J,fun _ sg _ _=>af J (cn J)⟩,
     ⟨⟨[⟨4,fun _=>tV (aC l c all.length),none⟩],_,0,1,J,⟨(fun _=>J),aV⟩,J,J,J,J,J,fun _ sg _ _=>af J (cn J)⟩,
     ⟨⟨[⟨13,fun _=>tD bR e2,none⟩],_,0,1,J,⟨(fun _=>J),aV⟩,J,J,J,J,J,fun _ sg _ _=>af J (cn J)⟩,
     ⟨⟨[⟨56,fun _=>tV (aC l c all.length),some 3⟩,⟨57,fun _=>tD bR e2,some 4⟩],_,0,1,J,⟨(fun _=>J),(fun _=>J),aV⟩,J,J,J,J,J,yC (fun sg=>af J (cj cW bD (.head _) (ht J) (ht J) q_e3)) (sC (fun sg=>af J (cj cW bD (.tail _ (.head _)) (ht J) (ht J) q_e3)))⟩,
     ⟨⟨[⟨58,fun _=>tV (jg l (e2.toNat*1+0)),some 5⟩],_,0,1,J,⟨(fun _=>J),aV⟩,J,J,J,J,J,yC (fun sg=>af J (d8 (r:=bR) (i:=e2) (foff:=0) bD J J bp J (.head _) q_e3 (ht J))) (sC (fun sg=>af J (d8 (r:=bR) (i:=e2) (foff:=0) bD J J bp J (.tail _ (.head _)) q_e3 (ht J))))⟩,
     ⟨⟨[⟨55,fun _=>tD bR first,some 2⟩,⟨59,fun _=>tD bR e3,some 6⟩],_,0,1,J,⟨(fun _=>J),(fun _=>J),aV⟩,J,J,J,J,J,fun _ sg _ _=>af J (CF (ht J) (ht J))⟩,
     ⟨⟨[⟨10,fun _=>tV (aE b1 0),none⟩,⟨53,fun _=>tD bR (i1:Int),some 0⟩],_,0,0,J,⟨(fun _=>J),(fun _=>J),aV⟩,J,J,J,J,J,sC (fun sg=>af J (w9 Dh bD (.tail _ (.tail _ (.head _))) (ht J) (ht J) q_e4))⟩,
     ⟨⟨[⟨61,fun _=>tV (aE b1 ((i1:Int).toNat*1)),some 8⟩,⟨54,fun _=>tD bR e2,some 1⟩],_,J,⟨(fun _=>J),(fun _=>J),aV⟩,J,J,J,fun sg=>bZ J (EffOK.fr2 (Cc bD J q_e4 (so q_ar) (ht J) (ht J)))⟩,
     aV⟩⟩⟩⟩⟩⟩⟩⟩⟩⟩ (fun sg=>?_)
    refine(show RG _ _ _ _ [bx Dl 141 b1 ar,d9 bR 3 l c all,d9 bR 3 l1 c1 open1] _ from ?_);refine bB J<|aQ<|an<|aq<|am<|zo rfl (jY (cG hx1 hN1) rfl)<|aG rfl<|aQ<|av<|av ?_;exact bf (aT (ih1 (i1+1) (min first e3) ar ⟨cF hx1,h⟩) (bn J))

end Go.Proofs.YtnmjbolollcokaaGreatDoor

