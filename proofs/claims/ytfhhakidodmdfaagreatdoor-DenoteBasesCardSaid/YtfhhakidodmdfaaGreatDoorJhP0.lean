/- cX of this claim: P0. -/
import Derived.Test.YtfhhakidodmdfaaGreatDoorJhT
import Derived.Test.YtfhhakidodmdfaaGreatDoorJhF
set_option linter.all false
namespace Go.Proofs.YtfhhakidodmdfaaGreatDoor
open Go
abbrev Lu:=fun(mc:aF) (mx:aC)=>(iU mc mx).map fun mr=>(mr,mc)
abbrev Lt:=fun(mc:aF) (mx:aC)=>(iV mc mx).map fun mr=>(mr,mc)
abbrev Ly:=fun(mc:aF) (mx:aC)=>(hP mc mx).map fun mr=>(mr,mc)
abbrev Lv:=fun(mc:aF) (mx:aC)=>(iv mc mx).map fun mr=>(mr,mc)
abbrev Lz:=fun(mc:aF) (mx:aC)=>(gL mc mx).map fun mr=>(mr,mc)
abbrev LA:=fun(mc:aF) (mx:aC)=>(gk mc mx).map fun mr=>(mr,mc)
abbrev Lx:=fun(mc:aF) (mx:aC)=>(ir mc mx).map fun mr=>(mr,mc)
abbrev Lw:=fun(mc:aF) (mx:aC)=>(iu mc mx).map fun mr=>(mr,mc)
abbrev CS:=ee (ee (ee (ee (ee (ee (ee (ee ([]:List (Int×(aF→aC→Option (((List Int)×Bool)×aF)))) (1:Int) Lu) (2:Int) Lt) (3:Int) Ly) (4:Int) Lv) (5:Int) Lz) (6:Int) LA) (7:Int) Lx) (8:Int) Lw
abbrev Lm:=fun(mc:cU) (mx:aC)=>(m4 mc mx).map fun mr=>(mr,mc)
abbrev Ll:=fun(mc:cU) (mx:aC)=>(m5 mc mx).map fun mr=>(mr,mc)
abbrev Lq:=fun(mc:cU) (mx:aC)=>(lv mc mx).map fun mr=>(mr,mc)
abbrev Ln:=fun(mc:cU) (mx:aC)=>(mh mc mx).map fun mr=>(mr,mc)
abbrev Lr:=fun(mc:cU) (mx:aC)=>(kQ mc mx).map fun mr=>(mr,mc)
abbrev Ls:=fun(mc:cU) (mx:aC)=>(kj mc mx).map fun mr=>(mr,mc)
abbrev Lp:=fun(mc:cU) (mx:aC)=>(mf mc mx).map fun mr=>(mr,mc)
abbrev Lo:=fun(mc:cU) (mx:aC)=>(mg mc mx).map fun mr=>(mr,mc)
abbrev Gd:=ee (ee (ee (ee (ee (ee (ee (ee ([]:List (Int×(cU→aC→Option (((List (List M))×Int)×cU)))) (1:Int) Lm) (2:Int) Ll) (3:Int) Lq) (4:Int) Ln) (5:Int) Lr) (6:Int) Ls) (7:Int) Lp) (8:Int) Lo
abbrev eS:=(⟨(0:Int),(0:Int),(0:Int),[]⟩:M)
abbrev cE:=ea ac
abbrev lC:=fun(x:M×M)=>[tD ac x.1,tD ac x.2]
abbrev nK:=fun(x:M×Int)=>tT [tD ac x.1,bu x.2]
abbrev kS:=fun(x:aC)=>[tD aM x]
abbrev bI:=rI .i64
abbrev vf:=(⟨[]⟩:cK)
abbrev Bu:=(⟨(0:Int),(0:Int),(0:Int),(0:Int),[],false,vf,[],[],[],[],(0:Int)⟩:aC)
abbrev yG:=fun(x:(List M)×(List M))=>[bK (ac) x.1,bK (ac) x.2]
abbrev kq:=fun(x:(List Int)×Bool)=>tT [iA x.1,er x.2]
abbrev ib:=fun(x:Bool)=>er x
abbrev lE:=fun(x:(List (List M))×Int)=>tT [bK (cE) x.1,bu x.2]
abbrev wz:=fun(x:M×Int)=>tT [tD ac x.1,tD bI x.2]
abbrev da:=ea cE
abbrev uc:=fun(x:M)=>[tD ac x]
abbrev ub:=fun(x:bw)=>[tD cS x]
abbrev wy:=fun(x:bC)=>[tD dm x]
abbrev sJ:=fun(x:eA)=>tD rS x
abbrev sI:=fun(x:Int)=>bu x
abbrev nL:=([]:List Int)
abbrev jE:=Qd .i64
abbrev pY:=bK (cE) ([])
abbrev H1:=fun(x:cu×(List M))=>[tD bD x.1,bK (ac) x.2]
abbrev yH:=fun(x:Bool)=>tD rB x
abbrev Gc:=(⟨(1:Int),(0:Int),(0:Int),[]⟩:M)
abbrev H0:=fun(x:cu×(List M))=>[tD bD x.1,tD cE x.2]
abbrev HY:=(⟨(0:Int),(0:Int),(0:Int),(0:Int),eS⟩:cu)
abbrev HX:=fun(x:cu×(List Int))=>[tD bD x.1,iA x.2]
abbrev Ak:=([]:List (List M))
abbrev Bw:=fun(x:Int)=>[bu x]
abbrev rb:=ea bI
abbrev Lk:=fun(x:cu×(List Int))=>[tD bD x.1,tD rb x.2]
abbrev Lj:=fun(x:(List M)×(List M))=>[tD cE x.1,tD cE x.2]
abbrev HW:=fun(x:Int×Int)=>tT [bu x.1,bu x.2]
abbrev pX:=(-1:Int)
abbrev Aj:=([]:List M)
abbrev Gb:=fun(x:ik)=>[tD eK x]
abbrev rd:=iA ([])
abbrev Bv:=(⟨[]⟩:dM)
abbrev Ga:=(⟨[],(0:Int)⟩:bC)
abbrev F9:=(⟨(1:Int),vf⟩:kz)
abbrev Li:=fun(x:Int×Int)=>tT [tD bI x.1,tD bI x.2]
abbrev Ff:=([]:List (List Int))
abbrev HV:=fun(x:Int)=>tD bI x
abbrev HU:=(⟨[],[]⟩:il)
abbrev Ai:=rI .u64
abbrev Lh:=(⟨[],[],[]⟩:bw)
set_option maxRecDepth 100000

theorem IW(s:(List Int))(f:(Int→Option Bool)){R:Int}(h:ku s f=some R):aN aJ 321 [iA s,(cB aJ Bw ib (fun(x:Int)=>f x))] (bu R):=by
 refine aN.of Tryz.func321 J J J fun w0 S0=>ap<|zo J (bO)<|al<|ae<|ap<|aB J<|zo J (eH ed J)<|zo J (br hI)<|al<|au<|aU (k:=6) J fun hN=>bo ?_;refine aI (cN (Z:=fun ls i=>(s.drop i=ls)∧gh f ls i=some R) (Of:=fun _ i=>[]) (Gf:=fun _ i=>[(0,iA s),(1,(cB aJ Bw ib (fun(x:Int)=>f x))),(7,fC s),(8,bu (i:Int))]) (fun i h=>?_) (fun e tl ih i h=>?_) s 0 ⟨J,h⟩) (bh J)
 ·obtain⟨hx,h⟩:=h
  refine aw<|ap<|zo J (dC J J)<|al<|ae<|bm (ht J) (cx hx)<|be ?_;refine af (af (aE ?_));refine ak<|ap<|zo rfl (bO)<|al<|ai ?_;cases so h;exact ay J J
 ·obtain⟨hx,h⟩:=h
  refine aw<|ap<|zo J (dC J J)<|al<|ae<|bl (ht J) (cw hx)<|cF<|ae<|au<|ap<|aB J<|ba J<|al<|ap<|aB J<|aB J<|aB J<|zo J (gw ed bP J J J (ci hx)) ?_;refine zo J (bn bP J J)<|bp h fun r q_r h=>zo J (dz (args:=(fun(x:Int)=>[tD bI x])) (res:=yH) (f:=(fun(x:Int)=>f x)) (x:=((e):Int)) (ht J) q_r ⟨(ht J),aP⟩)<|al<|bX h J (fun h=>?_) (fun h=>?_)
  ·refine ap<|aB J<|ba J<|al<|ai ?_;refine aq (aa (aa (aq (aa ?_))));cases so h;exact ay J J
  ·refine bi<|aj<|ak<|an<|zo rfl (iq (bW hx hN) rfl)<|aB rfl<|aL ?_;exact aT (aI (ih (i+1) ⟨bV hx,h⟩) (bh J))

theorem wW(s:(List Int))(f:(Int→Option Bool)){R:Bool}(h:dW s f=some R):aN aJ 258 [iA s,(cB aJ Bw ib (fun(x:Int)=>f x))] (er R):=by
 refine aN.of Tryz.func258 J J J fun w0 S0=>ap<|zo J (ef)<|al<|ap<|aB J<|aB J<|bp h fun r q_r h=>zo J (ax N3 (IW _ _ q_r) ⟨(ht J),(ht J),aP⟩)<|zo J (dU (ht J) hI)<|ba J<|al<|ai ?_;cases so h;exact ay J J

theorem I9(k:Int){R:Bool}(h:vY k=some R):aN aJ 280 [bu k] (er R):=by
 refine aN.of Tryz.func280 J J J fun w0 S0=>ap<|zo J (ef)<|al<|ap<|aB J<|zo J (io J)<|aB J<|dv J J (fun hg=>cr J)<|dv J J (fun hg=>cA (bk J hg) hI)<|zo J (qY J J)<|aB J<|dv J J (fun hg=>cr J)<|dv J J (fun hg=>cA (bk J hg) hI)<|zo J (qY J J)<|ba J<|al<|ai ?_;cases so h;exact ay J J

theorem Ja(k:Int){R:Bool}(h:jO k=some R):aN aJ 279 [bu k] (er R):=by
 refine aN.of Tryz.func279 J J J fun w0 S0=>ap<|zo J (ef)<|al<|ap<|aB J<|bp h fun r q_r h=>zo J (ax Ok (I9 _ q_r) ⟨(ht J),aP⟩)<|zo J (cH (ht J))<|ba J<|al<|ai ?_;cases so h;exact ay J J

theorem Mr(b:Nat)(ix:OI)(c:aF)(n:aC){R:(List Int)×Bool}(h:iU c n=some R):cy aJ 202 [tV (aO b 0),tD aM n] (cP b c ix) (fun _:OI=>tT [iA R.1,er R.2]) (fun _=>(cP b c ix)):=by
 refine cy.of Tryz.func202 J J J fun w0 S0=>?_;refine(show CG _ _ _ [bx (rH bc [(1,aQ (ix.h 0).1 (ix.h 0).2 c.kinds.length),(2,aQ (ix.h 1).1 (ix.h 1).2 c.first.length)]) 115 b c,db jG 39 (ix.h 0).1 (ix.h 0).2 c.kinds,db bI 3 (ix.h 1).1 (ix.h 1).2 c.first] _ from ?_);refine ap<|zo J (ff J)<|zo J (aD (show aH _ _ _ rd from gr))<|zo J (ef)<|al<|ap<|zo J (aD (show aH _ _ _ ((cB aJ Bw ib (fun(x:Int)=>jO x)))from(sr Ol fun x y h=>Ja _ h)))<|al<|ap<|zo J (bS tB lY J J)<|zo J (bn bP J J)<|zo J (dU (ht J) hI)<|aB J<|cd J J (fun hg=>bS tB lY J J)<|cd J J (fun hg=>bj bP J J (bk J hg))<|cd J J (fun hg=>dO (bk J hg) hI)<|zo J (ms J J)<|aB J<|cd J J (fun hg=>bS ql kO J J) ?_;refine cd J J (fun hg=>bj c0 J J (bk J hg))<|cd J J (fun hg=>cD ed (bk J hg))<|cd J J (fun hg=>dU (bk J hg) hI)<|zo J (ms J J)<|aB J<|cd J J (fun hg=>bS ql kO J J)<|cd J J (fun hg=>bj c0 J J (bk J hg))<|cd J J (fun hg=>cD ed (bk J hg))<|cd J J (fun hg=>gH (bk J hg) hI)<|zo J (ms J J)<|ba J<|al<|ae<|bp h fun t q_t h=>?_
 obtain⟨r,h1t,h0t⟩:=og q_t
 have q_rg:=fun hb=>(h1t hb).1
 refine bZ (ts:=[_,_,_,_,_,_,_,_,_,_,_,_]) mixed J J
  ⟨dp 3 J J J (bS ql kO J J),
  ⟨bH 28 0 J J J (bn c0 J J),
  ⟨dp 7 J J J (cr J),
  ⟨bH 30 2 J J J (cr J),
  ⟨jI 3 31 3 J J J J (dP J J J J (fun hg=>bS ql kO J J)),
  ⟨fk 32 4 31 3 J J J J (dP J J J J (fun hg=>bj c0 J J (bk J hg))),
  ⟨jI 6 31 3 J J J J (dP J J J J (fun hg=>cr J)),
  ⟨kr 33 5 34 6 31 3 J J J J J (dP J J J J (fun hg=>ax ES (wW _ _ (q_rg hg)) ⟨(bk J hg),(bk J hg),aP⟩)),
  ⟨fk 35 7 31 3 J J J J (dP J J J J (fun hg=>cH (bk J hg))),
  ⟨cO 31 3 36 8 J J J J (cJ (ht J) (fun hb=>(bk J hb)) (fun hb=>(h1t hb).2) h0t),
  ⟨bH 29 1 J J J (pe J),
  ⟨bH 37 9 J J J (pe J),
  aP⟩⟩⟩⟩⟩⟩⟩⟩⟩⟩⟩⟩ ?_
 refine ak<|ai<|aK<|aK<|aK ?_;cases so h;exact df (ts:=[iA n.Kinds,er t]) (rvs:=[.tmp 4,.tmp 5]) J J ⟨aW J,aW J,aP⟩ kY J J

theorem GY(n:Int){R:(List Int)}(h:nb n=some R):d4 aJ 343 [tV (.slice none 0 0),bu n] false bI 3 R:=by
 refine d4.of Tryz.func343 J J J fun w0 S0=>ap<|bA false bI 3<|zo J (aD mZ)<|al ?_;refine pS (Z:=lf n=some R) (Of:=[]) (Gf:=[(0,tV (.slice none 0 0)),(1,bu n)]) (fun h=>?_) (fun K=>?_)
 ·skip
  refine sF (Z:=fun s l c=>iR s=some R) (Of:=fun s l c=>[dJ bI 3 l c s]) (Gf:=fun s l c=>[(0,mp l c s)]) (fun s l c h=>?_) (fun K1=>?_)
  ·skip
   refine ap<|aB J<|ba J<|al<|ai ?_;cases so h;exact d7 J J
  ·skip
   refine ap<|aB J<|aB J<|zo J (nB ed (ht J))<|aB J<|zo J (ny ed (ht J))<|zo J (eZ (ht J) (ht J))<|zo J (eZ (ht J) (ht J))<|ba J<|al<|ap<|aB J<|zo J (eb (ht J) hI)<|al<|bX h J (fun h=>?_) (fun h=>?_)
   ·refine an<|aB J<|aB J<|zo J (nB ed (ht J))<|zo J (rD ed bP (ht J) (ht J))<|aB J<|bp h fun u q_u h=>bp h fun mk q_mk h=>tP (rW (r:=bI) (x:=(0:Int)) bP J J J J ed nE (fun _=>J) (ht J) (ht J) (xZ q_u) q_mk) J fun i=>aB J<|zo J (ny ed (ht J))<|bp h fun y q_y h=>zo J (hJ ed bP J (.head _) (ht J) (ht J) q_y)<|qI q_y<|ba J<|aL ?_;exact cn (K1 y (i.h 0).1 (i.h 0).2 h) (bh J)
   ·refine bi<|yB false bI 3 ?_;exact cn (K1 nL none 0 h) (bh J)
 ·skip
  refine ap<|aB J<|zo J (dO (ht J) hI)<|al<|bX h J (fun h=>?_) (fun h=>?_)
  ·refine an ?_;exact(nn h).elim
  ·refine bi<|aY ?_;exact cn (K h) (bh J)
theorem G0(slices:(List (List Int))){R:(List Int)}(h:jt slices=some R):d4 aJ 281 [bK (jG) slices] false bI 3 R:=by
 refine d4.of Tryz.func281 J J J fun w0 S0=>ap<|bA false bI 3<|zo J (aD mZ)<|al<|ap<|zo J (bO)<|al<|ae<|ap<|aB J<|zo J (eH pV J)<|zo J (br hI)<|al<|au<|aU (k:=9) J fun hN=>bo<|mC ?_;refine aI (jk (Z:=fun ls i size=>(slices.drop i=ls)∧ig slices ls size=some R) (Of:=fun _ i size=>[]) (Gf:=fun _ i size=>[(0,bK (jG) slices),(3,bu size),(9,bK (jG) slices),(10,fC slices),(11,bu (i:Int))]) (fun i size h=>?_) (fun e tl ih i size h=>?_) slices 0 (0:Int) ⟨J,h⟩) (bh J)
 ·obtain⟨hx,h⟩:=h
  refine aw<|ap<|zo J (dC J J)<|al<|ae<|bm (ht J) (cx hx)<|be ?_;refine af (af (aE ?_));refine ak<|ap<|aB rfl<|bp h fun r q_r h=>fe NM (GY _ q_r) ⟨hV,(ht J),aP⟩ J fun l c=>ba J<|al<|ae<|ap<|aB J<|zo J (eH pV J)<|zo J (br hI)<|al<|au<|aU (k:=25) J fun hN1=>bo ?_;refine aI (gb (Z:=fun ls1 i1 newslice l1 c1=>(slices.drop i1=ls1)∧ie ls1 newslice=some R) (Of:=fun _ i1 newslice l1 c1=>[dJ bI 3 l1 c1 newslice]) (Gf:=fun _ i1 newslice l1 c1=>[(6,mp l1 c1 newslice),(25,bK (jG) slices),(26,fC slices),(27,bu (i1:Int))]) (fun i1 newslice l1 c1 h=>?_) (fun e1 tl1 ih1 i1 newslice l1 c1 h=>?_) slices 0 r l c ⟨J,h⟩) (bh J)
  ·obtain⟨hx1,h⟩:=h
   refine aw<|ap<|zo J (dC J J)<|al<|ae<|bm (ht J) (cx hx1)<|be ?_;refine af (af (aE ?_));refine ak<|ap<|aB rfl<|ba rfl<|al<|ai ?_;cases so h;exact d7 J J
  ·obtain⟨hx1,h⟩:=h
   refine aw<|ap<|zo J (dC J J)<|al<|ae<|bl (ht J) (cw hx1)<|cF<|ae<|au<|ap<|zo J (gw pV c0 J J J (ci hx1))<|zo J (bn c0 J J)<|ba J<|al<|an<|aB J<|aB J<|bp h fun newslice1 q_newslice1 h=>cg bP J J J J ed J J (ht J) (ht J) q_newslice1 fun l2 c2=>?_;refine ba J<|aL<|aj<|ak<|an<|zo rfl (iq (bW hx1 hN1) rfl)<|aB rfl<|aL ?_;exact aT (aI (ih1 (i1+1) newslice1 l2 c2 ⟨bV hx1,h⟩) (bh J))
 ·obtain⟨hx,h⟩:=h
  refine aw<|ap<|zo J (dC J J)<|al<|ae<|bl (ht J) (cw hx)<|cF<|ae<|au<|ap<|zo J (gw pV c0 J J J (ci hx))<|zo J (bn c0 J J)<|ba J<|al<|ap<|aB J<|aB J<|zo J (eH ed J) ?_;refine zo J (fF (ht J) (ht J))<|ba J<|al<|ap<|aB J<|zo J (dO (ht J) hI)<|al<|bX h J (fun h=>?_) (fun h=>?_)
  ·refine an ?_;exact(nn h).elim
  ·refine bi<|aj<|ak<|an<|zo rfl (iq (bW hx hN) rfl)<|aB rfl<|aL ?_;exact aT (aI (ih (i+1) (IntKind.i64.wrap (size+(e.length:Int))) ⟨bV hx,h⟩) (bh J))
theorem I8(slices:(List (List Int))){R:(List Int)}(h:jt slices=some R):aN aJ 281 [bK (jG) slices] (iA R):=(G0 _ h).spec

theorem wX(tag:Int){R:Int}(h:qq tag=some R):aN aJ 213 [bu tag] (bu R):=by
 refine aN.of Tryz.func213 J J J fun w0 S0=>ap<|zo J (bO)<|al<|ae<|au<|ap<|aB J<|zo J (io J)<|aB J<|dv J J (fun hg=>cr J)<|dv J J (fun hg=>cA (bk J hg) hI)<|zo J (qY J J)<|ba J<|al<|bX h J (fun h=>?_) (fun h=>?_)
 ·refine ap<|zo J (bO)<|al<|ai ?_;refine aq (aa ?_);cases so h;exact ay J J
 ·refine ap<|aB J<|zo J (dU (ht J) hI)<|aB J<|cd J J (fun hg=>cr J)<|cd J J (fun hg=>gH (bk J hg) hI)<|zo J (ms J J)<|ba J<|al<|bX h J (fun h=>?_) (fun h=>?_)
  ·refine ap<|zo J (bO)<|al<|ai ?_;refine aq (aa ?_);cases so h;exact ay J J
  ·refine ap<|aB J<|zo J (dU (ht J) hI)<|aB J<|cd J J (fun hg=>cr J)<|cd J J (fun hg=>gH (bk J hg) hI)<|zo J (ms J J)<|ba J<|al<|bX h J (fun h=>?_) (fun h=>?_)
   ·refine ap<|zo J (bO)<|al<|ai ?_;refine aq (aa ?_);cases so h;exact ay J J
   ·refine bi<|aj<|ak<|ap<|zo rfl (bO)<|al<|ai ?_;cases so h;exact ay J J

theorem JD(v:M){R:M}(h:rh v=some R):aN aJ 191 [tD ac v] (tD ac R):=by
 refine aN.of Tryz.func191 J J J fun w0 S0=>ap<|sD (ht J) J fun b=>aV (r:=ac) (x:=eS) aG (fun _=>aZ _) J fun b1=>al<|ae<|ap<|zo J (gQ 0 em J J J)<|zo J (bL bP J J bU (.tail _ (.head _)) (ht J))<|al ?_;refine zZ (Z:=fun v1=>gy v1=some R) (Of:=fun v1=>[bx ac 46 b v1,bx ac 46 b1 eS]) (Gf:=fun v1=>[(1,tV (aO b 0)),(2,tV (aO b1 0))]) (fun v1 h=>?_) (fun K=>?_)
 ·skip
  refine ak<|ap<|zo rfl (bL aG rfl rfl bG (.head _) (ht rfl))<|bz<|av aG rfl am rfl (ht rfl) (ht rfl)<|aS 2 rfl<|al<|ai<|aY ?_;cases so h;exact fq J aG J J J
 ·skip
  refine ae<|au<|ae<|au<|ae ?_;refine zZ (Z:=fun v2=>lb v2=some R) (Of:=fun v2=>[bx ac 46 b v2,bx ac 46 b1 eS]) (Gf:=fun v2=>[(1,tV (aO b 0)),(2,tV (aO b1 0))]) (fun v2 h=>?_) (fun K1=>?_)
  ·skip
   refine ak<|ap<|zo rfl (gQ 0 em rfl rfl rfl)<|av bP rfl jK rfl (ht rfl) hI<|al<|be ?_;refine bN J (af (bN J (af (aE ?_))));exact cn (K (M.mk (0:Int) v2.N v2.U v2.S) h) (bh J)
  ·skip
   refine ae ?_;refine F1 (Z:=la v=some R) (Of:=[bx ac 46 b v,bx ac 46 b1 eS]) (Gf:=[(1,tV (aO b 0)),(2,tV (aO b1 0))]) (fun h=>?_) (fun K2=>?_)
   ·skip
    refine ak<|an<|zo rfl (gQ 1 gK rfl rfl rfl)<|av wM rfl kJ rfl (ht rfl) hI<|aL<|aj ?_;exact cn (K1 (M.mk v.Kind (0:Int) v.U v.S) h) (bh J)
   ·skip
    refine ae<|au<|ae<|ae<|ap<|zo J (io J)<|ba J<|al<|bX h J (fun h=>?_) (fun h=>?_)
    ·refine be ?_;refine af (af (aE ?_));refine ak<|ap<|zo rfl (gQ 1 gK rfl rfl rfl)<|zo rfl (bL wM rfl rfl dg (.tail _ (.head _)) (ht rfl))<|zo rfl (pt rfl)<|aB rfl<|cd rfl rfl (fun hg=>gQ 1 gK J J J)<|cd J J (fun hg=>bL wM J J dg (.tail _ (.head _)) (bk J hg))<|cd J J (fun hg=>dc (bk J hg) hI)<|zo J (ms J J)<|al<|bX h J (fun h=>?_) (fun h=>?_)
     ·refine be ?_;refine bN J (af (bN J (af (bN J (af (bN J (af (aE ?_))))))));refine bt ?_;exact cn (K v h) (bh J)
     ·refine bi<|aj<|bt ?_;exact cn (K2 h) (bh J)
    ·refine cF<|ae<|ap<|zo J (io J)<|ba J<|al<|bX h J (fun h=>?_) (fun h=>?_)
     ·refine be ?_;refine af (af (bN J (af (aE ?_))));refine bt ?_;exact cn (K2 h) (bh J)
     ·refine cF<|ae<|ap<|zo J (io J)<|ba J<|al<|bX h J (fun h=>?_) (fun h=>?_)
      ·refine be ?_;refine af (af (bN J (af (bN J (af (aE ?_))))));refine bt ?_;exact cn (K1 v h) (bh J)
      ·refine cF<|ae<|ap<|zo J (io J)<|ba J<|al<|bX h J (fun h=>?_) (fun h=>?_)
       ·refine be ?_;refine af (af (bN J (af (bN J (af (bN J (af (aE ?_))))))));refine ak ?_;refine gv (Z:=fun v3=>k7 v3=some R) (Of:=fun v3=>[bx ac 46 b v3,bx ac 46 b1 eS]) (Gf:=fun v3=>[(1,tV (aO b 0)),(2,tV (aO b1 0))]) (fun v3 h=>?_) (fun K3=>?_)
        ·skip
         refine be ?_;refine bN J (af (aE ?_));exact cn (K v3 h) (bh J)
        ·skip
         refine ap<|zo J (gQ 3 oe J J J)<|zo J (bL sQ J J gI (.tail _ (.head _)) (ht J))<|zo J (mv mq (ht J))<|zo J (gH (ht J) hI)<|al<|bX h J (fun h=>?_) (fun h=>?_)
         ·refine an<|zo J (gQ 0 em J J J)<|bz<|av bP J jK J (ht J) hI<|zo J (gQ 3 oe J J J)<|av sQ J C5 J (ht J) hS<|aL ?_;exact cn (K3 (M.mk (0:Int) v.N v.U ([])) h) (bh J)
         ·refine bi<|bt ?_;exact cn (K3 v h) (bh J)
       ·refine cF<|ap<|zo J (io J)<|ba J<|al<|bX h J (fun h=>?_) (fun h=>?_)
        ·refine be ?_;refine af (bN J (af (bN J (af (bN J (af (bN J (af (aE ?_)))))))));refine ak<|ap<|zo rfl (gQ 0 em rfl rfl rfl)<|bz<|av bP rfl jK rfl (ht rfl) hI<|zo rfl (gQ 1 gK rfl rfl rfl)<|av wM rfl kJ rfl (ht rfl) hI<|zo rfl (gQ 2 qn rfl rfl rfl)<|av yK rfl tf rfl (ht rfl) hI<|al<|be<|aE ?_;exact cn (K (M.mk (0:Int) (0:Int) (0:Int) v.S) h) (bh J)
        ·refine cF<|be ?_;refine bN J (af (bN J (af (bN J (af (bN J (af (bN J (af (aE ?_))))))))));refine bt ?_;exact cn (K v h) (bh J)

theorem uK(v:M){R:Int}(h:iP v=some R):aN aJ 111 [tD ac v] (bu R):=by
 refine aN.of Tryz.func111 J J J fun w0 S0=>ap<|zo J (ff J)<|zo J (bO)<|al<|ae<|ap<|zo J (bn aG J J)<|bp h fun r q_r h=>zo J (ax O7 (JD _ q_r) ⟨(ht J),aP⟩)<|zo J (bM (y:=eS) aG lq aZ (J))<|zo J (AB DN (ht J) (ht J))<|al<|bX h J (fun h=>?_) (fun h=>?_)
 ·refine ap<|zo J (bO)<|al<|ai<|aa ?_;cases so h;exact ay J J
 ·refine cF<|ap<|zo J (bO)<|al<|ai ?_;cases so h;exact ay J J

theorem wY(v:M){R:Bool}(h:mD v=some R):aN aJ 182 [tD ac v] (er R):=by
 refine aN.of Tryz.func182 J J J fun w0 S0=>ap<|zo J (ff J)<|zo J (ef)<|al<|ap<|zo J (bn aG J J)<|bp h fun r q_r h=>zo J (ax Cm (uK _ q_r) ⟨(ht J),aP⟩)<|zo J (io J)<|aB J<|cd J J (fun hg=>bS em bU J J)<|cd J J (fun hg=>bj bP J J (bk J hg))<|cd J J (fun hg=>dc (bk J hg) hI)<|zo J (ms J J)<|ba J<|al<|ai ?_;cases so h;exact ay J J

theorem Jz(n:cu){R:Bool}(h:wd n=some R):aN aJ 214 [tD bD n] (er R):=by
 refine aN.of Tryz.func214 J J J fun w0 S0=>ap<|zo J (ff J)<|zo J (ef)<|al<|ae<|ap<|zo J (bS lr fc J J)<|zo J (bn bP J J)<|al<|au<|ap<|zo J (io J)<|ba J<|al<|bX h J (fun h=>?_) (fun h=>?_)
 ·refine ap<|zo J (bS yg n9 J J)<|zo J (bn aG J J)<|bp h fun r q_r h=>zo J (ax EU (wY _ q_r) ⟨(ht J),aP⟩)<|aB J<|cd J J (fun hg=>bS tA kP J J)<|cd J J (fun hg=>bj bP J J (bk J hg))<|cd J J (fun hg=>cA (bk J hg) hI)<|zo J (ms J J)<|ba J<|al<|ai ?_;refine aq (aa ?_);cases so h;exact ay J J
 ·refine ap<|zo J (io J)<|ba J<|al<|bX h J (fun h=>?_) (fun h=>?_)
  ·refine ap<|zo J (bS yg n9 J J)<|zo J (bn aG J J)<|zo J (bM (y:=eS) aG lq aZ (J))<|zo J (uq DN (ht J) (ht J))<|aB J<|cd J J (fun hg=>bS tA kP J J)<|cd J J (fun hg=>bj bP J J (bk J hg))<|cd J J (fun hg=>dU (bk J hg) hI)<|zo J (ms J J)<|aB J<|cd J J (fun hg=>bS tA kP J J)<|cd J J (fun hg=>bj bP J J (bk J hg))<|cd J J (fun hg=>dO (bk J hg) hI)<|zo J (ms J J)<|ba J<|al<|ai ?_;refine aq (aa ?_);cases so h;exact ay J J
  ·refine bi<|aj<|ak<|ap<|zo rfl (bS yg n9 rfl rfl)<|zo rfl (bn aG rfl rfl)<|zo rfl (bM (y:=eS) aG lq aZ (J))<|zo J (uq DN (ht J) (ht J))<|aB J<|cd J J (fun hg=>bS tA kP J J)<|cd J J (fun hg=>bj bP J J (bk J hg))<|cd J J (fun hg=>cA (bk J hg) hI)<|zo J (ms J J)<|ba J<|al<|ai ?_;cases so h;exact ay J J

theorem J8(e:cK){R:(List Int)×Bool}(h:wc e=some R):aN aJ 129 [tD bY e] (tT [iA R.1,er R.2]):=by
 refine aN.of Tryz.func129 J J J fun w0 S0=>ap<|zo J (ff J)<|zo J (aD (show aH _ _ _ rd from gr))<|zo J (ef)<|al<|ap<|bA false bI 3<|zo J (aD mZ)<|bA false bI 3<|zo J (aD mZ)<|al<|ae<|ap<|zo J (bS m3 j9 J J)<|zo J (bn wD J J)<|zo J (eH t7 J)<|zo J (br hI)<|aL ?_;refine ak<|au<|aU (k:=15) J fun hN=>bo<|fA ?_;refine aI (Cx (Z:=fun ls i all l c open1 l1 c1=>(e.Nodes.drop i=ls)∧lu ls i all open1=some R) (Of:=fun _ i all l c open1 l1 c1=>[dJ bI 3 l c all,dJ bI 3 l1 c1 open1]) (Gf:=fun _ i all l c open1 l1 c1=>[(4,mp l c all),(5,mp l1 c1 open1),(15,bK (bD) e.Nodes),(16,fC e.Nodes),(17,bu (i:Int))]) (fun i all l c open1 l1 c1 h=>?_) (fun e1 tl ih i all l c open1 l1 c1 h=>?_) e.Nodes 0 nL none 0 nL none 0 ⟨J,h⟩) (bh J)
 ·obtain⟨hx,h⟩:=h
  refine aw<|ap<|zo J (dC J J)<|al<|ae<|bm (ht J) (cx hx)<|be ?_;refine af (af (aE ?_));refine ak<|ap<|aB rfl<|aB rfl<|zo rfl (fO ed (.tail _ (.head _)) (ht rfl))<|zo rfl (io rfl)<|aB rfl<|cd rfl rfl (fun hg=>cr J)<|cd J J (fun hg=>fO ed (.head _) (bk J hg))<|cd J J (fun hg=>gH (bk J hg) hI)<|zo J (ms J J)<|ba J<|ba J<|al<|ai<|fQ<|ce 4 J<|ce 84 J<|ce 2 J<|fR 2 J<|aY<|aY ?_;cases so h;exact ca J J J
 ·obtain⟨hx,h⟩:=h
  refine aw<|ap<|zo J (dC J J)<|al<|ae<|bl (ht J) (cw hx)<|cF<|ae<|au<|ap<|aB J<|zo J (gw t7 mE J J J (ci hx))<|zo J (bn mE J J)<|aV (r:=bD) (x:=HY) mE (fun _=>ra _) J fun b=>ba J<|av mE J am J (ht J) (ht J)<|aS 7 J<|al<|ae ?_;refine an<|zo J (bS lr fc J J)<|zo J (bn bP J J)<|bp h fun r q_r h=>zo J (ax ET (wX _ q_r) ⟨(ht J),aP⟩)<|ba J<|al<|ae<|ap<|aB J<|zo J (dO (ht J) hI)<|aB J<|dv J J (fun hg=>cr J)<|dv J J (fun hg=>cr J)<|dv J J (fun hg=>fO ed (.tail _ (.head _)) (bk J hg))<|dv J J (fun hg=>eb (bk J hg) (bk J hg))<|zo J (qY J J)<|aB J<|bp h fun t q_t h=>dv J J (fun hg=>bn mE J J) ?_
  obtain⟨r1,h1t,h0t⟩:=og q_t
  have q_r1g:=fun hb=>(h1t hb).1
  refine dv J J (fun hg=>ax OR (Jz _ (q_r1g hg)) ⟨(bk J hg),aP⟩)<|dv J J (fun hg=>cH (bk J hg))<|zo J (dy (ht J) (fun hb=>(bk J (mU hb))) (fun hb=>(h1t hb).2) h0t)<|al<|bX h J (fun h=>?_) (fun h=>?_)
  ·refine ap<|zo J (aD (show aH _ _ _ rd from gr))<|zo J (ef)<|al<|ai ?_;refine aa (aq (aa (aa (aq (aa ?_)))));refine aY<|aY ?_;cases so h;exact ca J J J
  ·refine cF<|ap<|aB J<|aB J<|zo J (fO ed (.tail _ (.head _)) (ht J))<|aB J<|zo J (eZ (ht J) (ht J))<|bp h fun y q_y h=>zo J (jN ed bP J (.tail _ (.head _)) (ht J) (ht J) q_y)<|je (.tail _ (.head _)) q_y fun hv=>ba J<|al<|ap<|zo J (zp (r:=bI) (ys:=[pX,pX]) (xs:=[.const (.int .i64 (-1)),.const (.int .i64 (-1))]) Tryz.underlying243 bP J BD J J ⟨hI,hI,aP⟩)<|aV (r:=(lF bI 2)) (x:=(List.replicate 2 (0:Int))) BD (fun _=>HG (r:=bI) 2 (fun _=>J) _) J fun b1=>av BD J am J (ht J) (ht J)<|al<|ap ?_;refine aB J<|ba J<|al<|ae<|ap<|aB J<|zo J (Ia ed (.tail _ (.tail _ (.head _))) q_y (ht J))<|zo J (br hI)<|al<|au ?_
   have hN1:=hv.2
   refine bo<|mo<|mo ?_;refine aI (pQ (Z:=fun ls1 i1 first at1=>(y.drop i1=ls1)∧oh (lu tl) i e1 all open1 r ls1 i1 first at1=some R) (Of:=fun _ i1 first at1=>[dJ bI 3 l c all,dJ bI 3 l1 c1 open1,bx (lF bI 2) 243 b1 at1]) (Gf:=fun _ i1 first at1=>[(4,mp l c all),(5,mp l1 c1 open1),(6,bu (i:Int)),(7,bv bD e1),(8,bu r),(10,tV (aO b1 0)),(11,bu first),(15,bK (bD) e.Nodes),(16,fC e.Nodes),(17,bu (i:Int)),(46,tV (kd 1 l1 c1 (IntKind.i64.wrap ((open1.length:Int)-r)).toNat y.length)),(47,fC y),(48,bu (i1:Int))]) (fun i1 first at1 h=>?_) (fun e2 tl1 ih1 i1 first at1 h=>?_) y 0 (i:Int) ([pX,pX]) ⟨J,h⟩) (bh J)
   ·obtain⟨hx1,h⟩:=h
    refine aw<|ap<|zo J (dC J J)<|al<|ae<|bm (ht J) (cx hx1)<|be ?_;refine af (af (aE ?_));refine ak<|ae<|ap<|zo rfl (bL BD rfl rfl bG (.tail _ (.tail _ (.head _))) (ht rfl))<|zo rfl (bS LY DA rfl rfl)<|zo rfl (bn bP rfl rfl)<|zo rfl (bS LX Dz rfl rfl)<|zo rfl (bn bP rfl rfl)<|zo rfl (zp (r:=bI) (ys:=[e1.L,e1.R]) (xs:=[.tmp 65,.tmp 67]) Tryz.underlying243 bP J BD J J ⟨(ht J),(ht J),aP⟩)<|zo J (AB Np (ht J) (ht J))<|al<|bX h J (fun h=>?_) (fun h=>?_)
    ·refine ap<|zo J (aD (show aH _ _ _ rd from gr))<|zo J (ef)<|al<|ai ?_;refine aa (aq (aa (aa (aq (aa ?_)))));refine aY<|aY<|aY ?_;cases so h;exact ca J J J
    ·refine cF<|ap<|aB J<|aB J<|zo J (aR (r:=bI) (ys:=[first]) (xs:=[.tmp 71]) ed bP J J J J J ⟨(ht J),aP⟩)<|bp h fun all1 q_all1 h=>cg bP J J J J ed J J (ht J) (ht J) q_all1 fun l2 c2=>ba J<|al<|an<|aB J<|aB J<|zo J (fO ed (.tail _ (.head _)) (ht J))<|aB J<|zo J (eZ (ht J) (ht J))<|bp h fun y1 q_y1 h=>zo J (hJ ed bP J (.tail _ (.head _)) (ht J) (ht J) q_y1)<|aB J<|zo J (aR (r:=bI) (ys:=[(i:Int)]) (xs:=[.tmp 80]) ed bP J J J J J ⟨(ht J),aP⟩)<|bz<|qI q_y1 ?_;refine bp h fun open2 q_open2 h=>cg bP J J J J ed J J (ht J) (ht J) q_open2 fun l3 c3=>ba J<|aL<|aj<|ak<|an<|zo rfl (iq (bW hx hN) rfl)<|aB rfl<|aL<|aK<|aY<|bt ?_;exact aT (aI (ih (i+1) all1 l2 c2 open2 l3 c3 ⟨bV hx,h⟩) (bh J))
   ·obtain⟨hx1,h⟩:=h
    refine aw<|ap<|zo J (dC J J)<|al<|ae<|bl (ht J) (cw hx1)<|cF<|ae<|au<|ap<|aB J<|zo J (yT ed bP J (.tail _ (.head _)) q_y (ht J) (ht J) (ci hx1))<|zo J (eo (r:=bI) (i:=((IntKind.i64.wrap ((open1.length:Int)-r))+(i1:Int))) (foff:=0) bP J J bG J (.tail _ (.head _)) (xv q_y (ci hx1)).1 (ht J))<|ba J<|ba J<|al<|bp h fun e3 q_e3 h=>bp h fun e4 q_e4 h=>bp h fun ar q_ar h=>?_
    refine kA 10 [tc (bu (i1:Int)),tc (bu e2),tc (bu first),tc (mp l c all),tc (bu e2),tc (tV (k4 l (e2.toNat*1+0))),tc (bu e3),tc (bu (min first e3)),tc (tV (aO b1 ((i1:Int).toNat*1))),tc (wE)] [false,false,false,false,false,false,false,false,false,true] [fun _=>[dJ bI 3 l c all,dJ bI 3 l1 c1 open1,bx (lF bI 2) 243 b1 at1],fun sg=>[bx (lF bI 2) 243 b1 ar,dJ bI 3 l c all,dJ bI 3 l1 c1 open1]] J mixed J J J J J
     ⟨⟨[⟨12,fun _=>tD bI (i1:Int),none⟩],_,0,0,J,⟨(fun _=>J),aP⟩,J,J,J,J,J,fun _ sg _ _=>aA J (cr J)⟩,
     ⟨⟨[⟨13,fun _=>tD bI e2,none⟩],_,0,0,J,⟨(fun _=>J),aP⟩,J,J,J,J,J,fun _ sg _ _=>aA J (cr J)⟩,
     ⟨⟨[⟨11,fun _=>tD bI first,none⟩],_,0,1,J,⟨(fun _=>J),aP⟩,J,J,J,J,J,fun _ sg _ _=>aA J (cr J)⟩,
     ⟨⟨[⟨4,fun _=>tV (aQ l c all.length),none⟩],_,0,1,J,⟨(fun _=>J),aP⟩,J,J,J,J,J,fun _ sg _ _=>aA J (cr J)⟩,
     ⟨⟨[⟨13,fun _=>tD bI e2,none⟩],_,0,1,J,⟨(fun _=>J),aP⟩,J,J,J,J,J,fun _ sg _ _=>aA J (cr J)⟩,
     ⟨⟨[⟨56,fun _=>tV (aQ l c all.length),some 3⟩,⟨57,fun _=>tD bI e2,some 4⟩],_,0,1,J,⟨(fun _=>J),(fun _=>J),aP⟩,J,J,J,J,J,yI (fun sg=>aA J (ck ed bP (.head _) (ht J) (ht J) q_e3)) (s9 (fun sg=>aA J (ck ed bP (.tail _ (.head _)) (ht J) (ht J) q_e3)))⟩,
     ⟨⟨[⟨58,fun _=>tV (k4 l (e2.toNat*1+0)),some 5⟩],_,0,1,J,⟨(fun _=>J),aP⟩,J,J,J,J,J,yI (fun sg=>aA J (eo (r:=bI) (i:=e2) (foff:=0) bP J J bG J (.head _) q_e3 (ht J))) (s9 (fun sg=>aA J (eo (r:=bI) (i:=e2) (foff:=0) bP J J bG J (.tail _ (.head _)) q_e3 (ht J))))⟩,
     ⟨⟨[⟨55,fun _=>tD bI first,some 2⟩,⟨59,fun _=>tD bI e3,some 6⟩],_,0,1,J,⟨(fun _=>J),(fun _=>J),aP⟩,J,J,J,J,J,fun _ sg _ _=>aA J (Eo (ht J) (ht J))⟩,
     ⟨⟨[⟨10,fun _=>tV (aO b1 0),none⟩,⟨53,fun _=>tD bI (i1:Int),some 0⟩],_,0,0,J,⟨(fun _=>J),(fun _=>J),aP⟩,J,J,J,J,J,s9 (fun sg=>aA J (yS Tryz.underlying243 bP (.tail _ (.tail _ (.head _))) (ht J) (ht J) q_e4))⟩,
     ⟨⟨[⟨61,fun _=>tV (aO b1 ((i1:Int).toNat*1)),some 8⟩,⟨54,fun _=>tD bI e2,some 1⟩],_,J,⟨(fun _=>J),(fun _=>J),aP⟩,J,J,J,fun sg=>dA J (EffOK.fr2 (DQ bP J q_e4 (so q_ar) (ht J) (ht J)))⟩,
     aP⟩⟩⟩⟩⟩⟩⟩⟩⟩⟩ (fun sg=>?_)
    refine(show RG _ _ _ _ [bx (lF bI 2) 243 b1 ar,dJ bI 3 l c all,dJ bI 3 l1 c1 open1] _ from ?_);refine ba J<|aL<|aj<|ak<|an<|zo rfl (iq (bW hx1 hN1) rfl)<|aB rfl<|aL<|aK<|aK ?_;exact aT (aI (ih1 (i1+1) (min first e3) ar ⟨bV hx1,h⟩) (bh J))

end Go.Proofs.YtfhhakidodmdfaaGreatDoor

