/- di of this claim: P6. -/
import Derived.Test.YtmogpgcfognefaaGreatDoorNdT
import Derived.Test.YtmogpgcfognefaaGreatDoorNdP5
set_option linter.all false
namespace Go.Proofs.YtmogpgcfognefaaGreatDoor
open Go
set_option maxRecDepth 100000

theorem RT(s:(List bU))(f:(bU→Option Bool)){R:Bool}(h:ge s f=some R):bh be 107 [eV (cT) s,(iB be yU pQ (fun(x:bU)=>f x))] (gD R):=by
 refine bh.of Tryz.func107 J J J fun w0 S0=>an<|zo J (ei)<|al<|an<|ax J<|ax J<|bM h fun r q_r h=>zo J (aH S3 (Ll _ _ q_r) ⟨(ht J),(ht J),bm⟩)<|zo J (cS (ht J) hI)<|aY J<|al<|aj ?_;cases so h;exact aB J J

theorem QY(of:(bU→Option iZ))(name:iZ)(p:bU){R:Bool}(h:fR of name p=some R):bh be 231 [tD cT p,bF (rT ((iB be yU xw (fun(x:bU)=>of x)))) (),bF rS name] (gD R):=by
 refine bh.of Tryz.func231 J J J fun w0 S0=>an<|zo J (lK J)<|zo J (ei)<|al<|ae<|bM h fun r q_r h=>?_
 refine er (ts:=[_,_,_,_,_,_]) mixed J J
  ⟨ic 1 J J J (C1 Vl (ht J)),
  ⟨ic 3 J J J (bj qi J J),
  ⟨eT 5 0 6 1 J J J J (jR (args:=yU) (res:=xw) (f:=(fun(x:bU)=>of x)) (x:=((p):bU)) (ht J) q_r ⟨(ht J),bm⟩),
  ⟨ic 2 J J J (bj z6 J J),
  ⟨eT 7 2 8 3 J J J J (qE (ht J) (ht J)),
  ⟨dc 9 4 J J J (yG J),
  bm⟩⟩⟩⟩⟩⟩ ?_
 refine ai<|aj ?_;cases so h;exact aB J J

theorem Ro(l:(List bU))(of:(bU→Option iZ))(name:iZ){R:Int×Bool}(h:kK l of name=some R):bh be 174 [eV (cT) l,(iB be yU xw (fun(x:bU)=>of x)),tD rS name] (tT [bY R.1,gD R.2]):=by
 refine bh.of Tryz.func174 J J J fun w0 S0=>an<|zo J (KL (ht J))<|zo J (lK J)<|zo J (dv)<|zo J (ei)<|al<|an<|ax J<|zo J ((show cO _ _ _ _ ((iB be yU pQ (fun(x:bU)=>(fR of name) x)))from kQ (cts:=[bF (rT ((iB be yU xw (fun(x:bU)=>of x)))) (),bF rS name]) (caps:=[.tmp 4,.tmp 5]) Wu ⟨(ht J),(ht J),bm⟩ (fun x y h=>QY _ _ _ h)))<|bM h fun r q_r h=>zo J (aH S3 (Ll _ _ q_r) ⟨(ht J),(ht J),bm⟩)<|aY J<|al<|an<|ax J<|zo J (F9 (ht J) hI)<|ax J<|zo J (cS (ht J) hI) ?_;refine aY J<|aY J<|al<|aj ?_;cases so h;exact cy J J J

theorem RS(l:(List bU))(of:(bU→Option iZ)){R:Bool}(h:nm l of=some R):bh be 108 [eV (cT) l,(iB be yU xw (fun(x:bU)=>of x))] (gD R):=by
 refine bh.of Tryz.func108 J J J fun w0 S0=>an<|zo J (ei)<|al<|ae<|an<|ax J<|zo J (fU rC J)<|zo J (bk hI)<|al<|ap<|aT (k:=9) J fun hN=>bE ?_;refine aJ (dB (Z:=fun ls i=>(l.drop i=ls)∧gO l of ls i=some R) (Of:=fun _ i=>[]) (Gf:=fun _ i=>[(0,eV (cT) l),(1,(iB be yU xw (fun(x:bU)=>of x))),(9,eV (cT) l),(10,gA l),(11,bY (i:Int))]) (fun i h=>?_) (fun e tl ih i h=>?_) l 0 ⟨J,h⟩) (aQ J)
 ·obtain⟨hx,h⟩:=h
  refine av<|an<|zo J (eu J J)<|al<|ae<|bu (ht J) (dh hx)<|bf ?_;refine ac (ac (aI ?_));refine ai<|an<|zo rfl (ei)<|al<|aj ?_;cases so h;exact aB J J
 ·obtain⟨hx,h⟩:=h
  refine av<|an<|zo J (eu J J)<|al<|ae<|bt (ht J) (dg hx)<|dF<|ae<|ap<|an<|ax J<|zo J (gM rC qi J J J (dl hx))<|zo J (bj qi J J)<|aZ (r:=cT) (x:=(⟨[],[],[]⟩:bU)) qi (fun _=>Cm _) J fun b=>aY J<|aE qi J ay J (ht J) (ht J)<|aW 6 J<|al<|ae ?_;refine ah<|ax J<|ax J<|ax J<|zo J (bj qi J J)<|bM h fun r q_r h=>zo J (jR (args:=yU) (res:=xw) (f:=(fun(x:bU)=>of x)) (x:=((e):bU)) (ht J) q_r ⟨(ht J),bm⟩)<|bM h fun r1 q_r1 h=>zo J (aH WR (Ro _ _ _ q_r1) ⟨(ht J),(ht J),(ht J),bm⟩)<|ax J<|zo J (iA J J)<|zo J (iA J J)<|aY J<|aY J<|al<|an<|ax J<|ax J<|zo J (cA (ht J) (ht J))<|ax J<|bM h fun t q_t h=>bX J J (fun hg=>cq J) ?_;refine bX J J (fun hg=>bj qi J J) ?_
  obtain⟨r2,h1t,h0t⟩:=og q_t
  have q_r2g:=fun hb=>(h1t hb).1
  refine bX J J (fun hg=>jR (args:=yU) (res:=xw) (f:=(fun(x:bU)=>of x)) (x:=((e):bU)) (aG J hg) (q_r2g hg) ⟨(aG J hg),bm⟩) ?_
  obtain⟨r3,h1t⟩:=G1 (fun hb=>(h1t hb).2)
  have q_r3g:=fun hb=>(h1t hb).1
  refine bX J J (fun hg=>aH Pp (GC _ (q_r3g hg)) ⟨(aG J hg),bm⟩)<|bX J J (fun hg=>dD (aG J hg))<|zo J (dY (ht J) (fun hb=>(aG J (mW hb))) (fun hb=>(h1t hb).2) h0t)<|al<|cz h J (fun h=>?_) (fun h=>?_)
  ·refine an<|zo J (ei)<|al<|aj ?_;refine am (aa (aa (am (aa ?_))));cases so h;exact aB J J
  ·refine aO<|af<|ai<|ah<|zo rfl (je (cx hx hN) rfl)<|ax rfl<|aC ?_;exact aM (aJ (ih (i+1) ⟨cw hx,h⟩) (aQ J))

theorem RR(t:bU){R:iZ}(h:gb t=some R):bh be 109 [tD cT t] (tD rS R):=by
 refine bh.of Tryz.func109 J J J fun w0 S0=>an<|zo J (lK J)<|zo J (aP hS)<|al<|an<|zo J (bw Dj tm J J)<|zo J (bj z6 J J)<|aY J<|al<|aj ?_;cases so h;exact aB J J

theorem Ug(c:bG){R:Int}(h:rz c=some R):bh be 59 [tD bJ c] (bY R):=by
 refine bh.of Tryz.func59 J J J fun w0 S0=>an<|zo J (lK J)<|zo J (dv)<|al<|an<|zo J (aP (show aL _ _ _ ((iB be yU pQ (fun(x:bU)=>lO x)))from(Gm Xy fun x y h=>RV _ h)))<|al<|ae<|an<|zo J (bw nV fI J J)<|zo J (bj vl J J)<|zo J (fU rC J)<|zo J (dZ (ht J) hI)<|ax J<|bM h fun t q_t h=>bX J J (fun hg=>bw nV fI J J)<|bX J J (fun hg=>aF vl J J (aG J hg))<|bX J J (fun hg=>cq J) ?_
 obtain⟨r,h1t,h0t⟩:=og q_t
 have q_rg:=fun hb=>(h1t hb).1
 refine bX J J (fun hg=>aH Xw (RT _ _ (q_rg hg)) ⟨(aG J hg),(aG J hg),bm⟩)<|zo J (dY (ht J) (fun hb=>(aG J (mW hb))) (fun hb=>(h1t hb).2) h0t)<|ax J<|bM h fun t1 q_t1 h=>bX J J (fun hg=>bw nV fI J J)<|bX J J (fun hg=>aF vl J J (aG J hg)) ?_
 obtain⟨r1,h1t1,h0t1⟩:=og q_t1
 have q_r1g:=fun hb=>(h1t1 hb).1
 refine bX J J (fun hg=>aH Xv (RS _ _ (q_r1g hg)) ⟨(aG J hg),(Gm Xu fun x y h=>RR _ h),bm⟩)<|bX J J (fun hg=>dD (aG J hg))<|zo J (dY (ht J) (fun hb=>(aG J (mW hb))) (fun hb=>(h1t1 hb).2) h0t1)<|al<|cz h J (fun h=>?_) (fun h=>?_)
 ·refine an<|zo J (dv)<|al<|aj<|aa ?_;cases so h;exact aB J J
 ·refine dF<|an<|zo J (dv)<|al<|aj ?_;cases so h;exact aB J J

theorem RO(root:(List Int))(c:Int){R:Bool}(h:df root c=some R):bh be 137 [bY c,bF jd root] (gD R):=by
 refine bh.of Tryz.func137 J J J fun w0 S0=>an<|zo J (ei)<|al<|an<|ax J<|zo J (eg (ht J) hI)<|ax J<|bX J J (fun hg=>cq J)<|bX J J (fun hg=>bj bV J J)<|bX J J (fun hg=>bg cZ (aG J hg))<|bX J J (fun hg=>cS (aG J hg) (aG J hg))<|zo J (lH J J)<|ax J<|bM h fun t q_t h=>bX J J (fun hg=>bj bV J J)<|bX J J (fun hg=>cq J) ?_
 obtain⟨e,h1t,h0t⟩:=og q_t
 have q_eg:=fun hb=>(h1t hb).1
 refine bX J J (fun hg=>bW cZ br J (aG J hg) (aG J hg) (q_eg hg))<|bX J J (fun hg=>aF br J J (aG J hg))<|bX J J (fun hg=>bq (aG J hg) hI)<|zo J (dY (ht J) (fun hb=>(aG J (mW hb))) (fun hb=>(h1t hb).2) h0t)<|aY J<|al<|aj ?_;cases so h;exact aB J J

theorem Lq(s:(List aw))(f:(aw→Option Bool)){R:Int}(h:fb s f=some R):bh be 150 [eV (aA) s,(iB be LW pQ (fun(x:aw)=>f x))] (bY R):=by
 refine bh.of Tryz.func150 J J J fun w0 S0=>an<|zo J (dv)<|al<|ae<|an<|ax J<|zo J (fU ib J)<|zo J (bk hI)<|al<|ap<|aT (k:=6) J fun hN=>bE ?_;refine aJ (dB (Z:=fun ls i=>(s.drop i=ls)∧dS f ls i=some R) (Of:=fun _ i=>[]) (Gf:=fun _ i=>[(0,eV (aA) s),(1,(iB be LW pQ (fun(x:aw)=>f x))),(7,gA s),(8,bY (i:Int))]) (fun i h=>?_) (fun e tl ih i h=>?_) s 0 ⟨J,h⟩) (aQ J)
 ·obtain⟨hx,h⟩:=h
  refine av<|an<|zo J (eu J J)<|al<|ae<|bu (ht J) (dh hx)<|bf ?_;refine ac (ac (aI ?_));refine ai<|an<|zo rfl (dv)<|al<|aj ?_;cases so h;exact aB J J
 ·obtain⟨hx,h⟩:=h
  refine av<|an<|zo J (eu J J)<|al<|ae<|bt (ht J) (dg hx)<|dF<|ae<|ap<|an<|ax J<|aY J<|al<|an<|ax J<|ax J<|ax J<|zo J (gM ib db J J J (dl hx)) ?_;refine zo J (bj db J J)<|bM h fun r q_r h=>zo J (jR (args:=LW) (res:=D3) (f:=(fun(x:aw)=>f x)) (x:=((e):aw)) (ht J) q_r ⟨(ht J),bm⟩)<|al<|cz h J (fun h=>?_) (fun h=>?_)
  ·refine an<|ax J<|aY J<|al<|aj ?_;refine am (aa (aa (am (aa ?_))));cases so h;exact aB J J
  ·refine aO<|af<|ai<|ah<|zo rfl (je (cx hx hN) rfl)<|ax rfl<|aC ?_;exact aM (aJ (ih (i+1) ⟨cw hx,h⟩) (aQ J))

theorem RN(s:(List aw))(f:(aw→Option Bool)){R:Bool}(h:eM s f=some R):bh be 138 [eV (aA) s,(iB be LW pQ (fun(x:aw)=>f x))] (gD R):=by
 refine bh.of Tryz.func138 J J J fun w0 S0=>an<|zo J (ei)<|al<|an<|ax J<|ax J<|bM h fun r q_r h=>zo J (aH S8 (Lq _ _ q_r) ⟨(ht J),(ht J),bm⟩)<|zo J (cS (ht J) hI)<|aY J<|al<|aj ?_;cases so h;exact aB J J

theorem RL(s1:(List Int))(s2:(List bL))(eq:(Int→bL→Option Bool)){R:Bool}(h:cM s1 s2 eq=some R):bh be 140 [ji s1,eV (cH) s2,(iB be (fun(x:Int×bL)=>[bY x.1,tD cH x.2]) pQ (fun(x:Int×bL)=>eq x.1 x.2))] (gD R):=by
 refine bh.of Tryz.func140 J J J fun w0 S0=>an<|zo J (ei)<|al<|ae<|an<|ax J<|zo J (fU cZ J)<|ax J<|zo J (fU sb J)<|zo J (cA (ht J) (ht J))<|al<|cz h J (fun h=>?_) (fun h=>?_)
 ·refine an<|zo J (ei)<|al<|aj<|aa ?_;cases so h;exact aB J J
 ·refine dF<|ae<|an<|ax J<|zo J (fU cZ J)<|zo J (bk hI)<|al<|ap<|aT (k:=15) J fun hN=>bE ?_;refine aJ (dB (Z:=fun ls i=>(s1.drop i=ls)∧bZ s2 eq ls i=some R) (Of:=fun _ i=>[]) (Gf:=fun _ i=>[(1,eV (cH) s2),(2,(iB be (fun(x:Int×bL)=>[bY x.1,tD cH x.2]) pQ (fun(x:Int×bL)=>eq x.1 x.2))),(15,ji s1),(16,gA s1),(17,bY (i:Int))]) (fun i h=>?_) (fun e tl ih i h=>?_) s1 0 ⟨J,h⟩) (aQ J)
  ·obtain⟨hx,h⟩:=h
   refine av<|an<|zo J (eu J J)<|al<|ae<|bu (ht J) (dh hx)<|bf ?_;refine ac (ac (aI ?_));refine ai<|an<|zo rfl (ei)<|al<|aj ?_;cases so h;exact aB J J
  ·obtain⟨hx,h⟩:=h
   refine av<|an<|zo J (eu J J)<|al<|ae<|bt (ht J) (dg hx)<|dF<|ae<|ap<|an<|ax J<|zo J (gM cZ br J J J (dl hx))<|zo J (bj br J J)<|aY J<|aY J<|al<|an<|ax J ?_;refine ax J<|bM h fun e1 q_e1 h=>zo J (gM sb pg J J J q_e1)<|zo J (bj pg J J)<|aZ (r:=cH) (x:=NN) pg (fun _=>qT _) J fun b=>aE pg J ay J (ht J) (ht J)<|aW 9 J<|al<|an<|ax J<|ax J<|zo J (bj pg J J)<|bM h fun r q_r h=>zo J (jR (args:=(fun(x:Int×bL)=>[tD cC x.1,tD cH x.2])) (res:=D3) (f:=(fun(x:Int×bL)=>eq x.1 x.2)) (x:=((e,e1):Int×bL)) (ht J) q_r ⟨(ht J),(ht J),bm⟩)<|zo J (dD (ht J))<|al<|cz h J (fun h=>?_) (fun h=>?_)
   ·refine an<|zo J (ei)<|al<|aj ?_;refine am (aa (aa (am (aa ?_))));cases so h;exact aB J J
   ·refine aO<|af<|ai<|ah<|zo rfl (je (cx hx hN) rfl)<|ax rfl<|aC ?_;exact aM (aJ (ih (i+1) ⟨cw hx,h⟩) (aQ J))

theorem RK(k:Int)(c:bL){R:Bool}(h:gX k c=some R):bh be 141 [bY k,tD cH c] (gD R):=by
 refine bh.of Tryz.func141 J J J fun w0 S0=>an<|zo J (lK J)<|zo J (ei)<|al<|an<|ax J<|zo J (bw Gs uf J J)<|zo J (bj br J J)<|zo J (bq (ht J) (ht J))<|aY J<|al<|aj ?_;cases so h;exact aB J J

theorem RM(f:cL)(p:(Option ci))(n:aw){R:Bool}(h:ed f p n=some R):bh be 139 [tD aA n,bF bR f,bF qU p] (gD R):=by
 refine bh.of Tryz.func139 J J J fun w0 S0=>an<|zo J (lK J)<|zo J (ei)<|al<|ae<|an<|zo J (bw eh cj J J)<|zo J (bj br J J)<|zo J (uP J)<|al<|cz h J (fun h=>?_) (fun h=>?_)
 ·refine an<|zo J (ei)<|al<|aj<|aa ?_;cases so h;exact aB J J
 ·refine dF<|ae<|ae<|bM h fun t q_t h=>?_
  obtain⟨p1,h1t,h0t⟩:=og q_t
  have q_p1g:=fun hb=>(h1t hb).1
  refine er (ts:=[_,_,_,_,_,_,_,_,_,_,_,_,_,_]) mixed J J
   ⟨ic 1 J J J (bw mN gj J J),
   ⟨dc 8 0 J J J (bj br J J),
   ⟨dc 9 1 J J J (uP J),
   ⟨dc 10 2 J J J (cq J),
   ⟨jn 3 11 3 J J J J (d9 J J J J (fun hg=>bw kj d8 J J)),
   ⟨dR 12 4 11 3 J J J J (d9 J J J J (fun hg=>aF br J J (aG J hg))),
   ⟨jn 2 11 3 J J J J (d9 J J J J (fun hg=>bj xE J J)),
   ⟨dR 14 6 11 3 J J J J (d9 J J J J (fun hg=>f9 (aG J hg) (q_p1g hg))),
   ⟨dR 15 7 11 3 J J J J (d9 J J J J (fun hg=>cR Gv J vF J (aG J hg))),
   ⟨dR 16 8 11 3 J J J J (d9 J J J J (fun hg=>cR nV J fI J (aG J hg))),
   ⟨dR 17 9 11 3 J J J J (d9 J J J J (fun hg=>aF vl J J (aG J hg))),
   ⟨dR 18 10 11 3 J J J J (d9 J J J J (fun hg=>bg rC (aG J hg))),
   ⟨mB 13 5 19 11 11 3 J J J J J (d9 J J J J (fun hg=>cS (aG J hg) (aG J hg))),
   ⟨eT 11 3 20 12 J J J J (dY (ht J) (fun hb=>(aG J (mW hb))) (fun hb=>(h1t hb).2) h0t),
   bm⟩⟩⟩⟩⟩⟩⟩⟩⟩⟩⟩⟩⟩⟩ ?_
  refine ai<|cz h rfl (fun h=>?_) (fun h=>?_)
  ·refine an<|zo J (ei)<|al<|aj<|aa ?_;cases so h;exact aB J J
  ·refine dF<|ae<|bM h fun p2 q_p2 h=>bM h fun e q_e h=>bM h fun r q_r h=>?_
   refine er (ts:=[_,_,_,_,_,_,_,_,_,_,_,_,_,_,_]) mixed J J
    ⟨ic 3 J J J (bw jV d7 J J),
    ⟨dc 22 0 J J J (bj bV J J),
    ⟨ic 2 J J J (bj xE J J),
    ⟨dc 24 2 J J J (f9 (ht J) q_p2),
    ⟨dc 25 3 J J J (bw Gv vF J J),
    ⟨dc 26 4 J J J (bw nV fI J J),
    ⟨dc 27 5 J J J (bj vl J J),
    ⟨ic 3 J J J (bw kj d8 J J),
    ⟨dc 29 7 J J J (bj br J J),
    ⟨eT 28 6 30 8 J J J J (gM rC qi J J J q_e),
    ⟨dc 31 9 J J J (bw pJ iQ J J),
    ⟨dc 32 10 J J J (bj yc J J),
    ⟨eT 23 1 33 11 J J J J (aH Xm (RL _ _ _ q_r) ⟨(ht J),(ht J),(Gm Xl fun x y h=>RK _ _ h),bm⟩),
    ⟨dc 34 12 J J J (dD (ht J)),
    ⟨dc 35 13 J J J (yG J),
    bm⟩⟩⟩⟩⟩⟩⟩⟩⟩⟩⟩⟩⟩⟩⟩ ?_
   refine ai<|aj ?_;cases so h;exact aB J J

theorem Ud(p:(Option ci))(f:cL)(root:(List Int)){R:Bool}(h:iO p f root=some R):bh be 73 [tD qU p,tD bR f,ji root] (gD R):=by
 refine bh.of Tryz.func73 J J J fun w0 S0=>an<|zo J (lK J)<|zo J (lK J)<|zo J (lK J)<|zo J (ei)<|al<|ae<|an<|zo J (bw mN gj J J)<|zo J (bj br J J)<|zo J (uP J)<|ax J<|bo J J (fun hg=>bw mN gj J J)<|bo J J (fun hg=>aF br J J (aG J hg))<|bo J J (fun hg=>cA (aG J hg) hI)<|zo J (hZ J J)<|ax J<|bX J J (fun hg=>bw pK ju J J)<|bX J J (fun hg=>aF br J J (aG J hg))<|bX J J (fun hg=>eg (aG J hg) hI) ?_;refine zo J (lH J J)<|ax J<|bX J J (fun hg=>bw pK ju J J)<|bX J J (fun hg=>aF br J J (aG J hg))<|bX J J (fun hg=>dZ (aG J hg) hI)<|zo J (lH J J)<|ax J<|bX J J (fun hg=>bw pK ju J J)<|bX J J (fun hg=>aF br J J (aG J hg))<|bX J J (fun hg=>bq (aG J hg) hI)<|bX J J (fun hg=>bw uF o7 J J)<|bX J J (fun hg=>aF bV J J (aG J hg))<|bX J J (fun hg=>bg cZ (aG J hg))<|bX J J (fun hg=>dZ (aG J hg) hI)<|bX J J (fun hg=>zj FD (aG J hg) (aG J hg))<|zo J (lH J J)<|ax J<|bX J J (fun hg=>bw uF o7 J J)<|bX J J (fun hg=>aF bV J J (aG J hg))<|bX J J (fun hg=>bg cZ (aG J hg))<|bX J J (fun hg=>dZ (aG J hg) hI)<|zo J (lH J J)<|al ?_;refine cz h J (fun h=>?_) (fun h=>?_)
 ·refine an<|zo J (ei)<|al<|aj<|aa ?_;cases so h;exact aB J J
 ·refine dF<|ae<|an<|zo J (bw uF o7 J J)<|zo J (bj bV J J)<|zo J ((show cO _ _ _ _ ((iB be FJ pQ (fun(x:Int)=>(df root) x)))from kQ (cts:=[bF jd root]) (caps:=[.tmp 5]) Xp ⟨(ht J),bm⟩ (fun x y h=>RO _ _ h)))<|bM h fun r q_r h=>zo J (aH LC (B9 _ _ q_r) ⟨(ht J),(ht J),bm⟩)<|al<|cz h J (fun h=>?_) (fun h=>?_)
  ·refine an<|zo J (ei)<|al<|aj<|aa ?_;cases so h;exact aB J J
  ·refine dF<|an<|zo J (bw mO gJ J J)<|zo J (bj n8 J J)<|zo J ((show cO _ _ _ _ ((iB be LW pQ (fun(x:aw)=>(ed f p) x)))from kQ (cts:=[bF bR f,bF qU p]) (caps:=[.tmp 4,.tmp 3]) Xn ⟨(ht J),(ht J),bm⟩ (fun x y h=>RM _ _ _ h)))<|bM h fun r1 q_r1 h=>zo J (aH Xo (RN _ _ q_r1) ⟨(ht J),(ht J),bm⟩)<|zo J (dD (ht J))<|aY J<|al<|aj ?_;cases so h;exact aB J J

theorem T5(p:da)(from1:Int):DO be 82 (fun(x:Int×Int)=>[bY x.1,bY x.2]) (fun _=>uz p from1) [] [bF ce p,bF cC from1]:=by
 refine DO.of Tryz.func82 J J J fun Sg yld s R h I yv hy e he w0 S0 B hB=>?_
 replace h:uz p from1 yld s=some R:=h
 refine an<|zo J (bw fY dp J J)<|zo J (bj nS J J)<|zo J (fU kE J)<|zo J (bk hI)<|al<|ap<|aT (k:=9) J fun hN=>bE ?_;refine aJ (tB (Z:=fun ls i e1 s1=>(p.Frags.drop i=ls)∧I s1 e1∧kU from1 yld ls i s1=some R) (Of:=fun _ i e1 s1=>[e1]) (Gf:=fun _ i e1 s1=>[(0,tV yv),(2,bF cC from1),(9,eV (bR) p.Frags),(10,gA p.Frags),(11,bY (i:Int))]) (fun i e1 s1 h=>?_) (fun e2 tl ih i e1 s1 h=>?_) p.Frags 0 e s ⟨J,⟨he,h⟩⟩) (aQ J)
 ·obtain⟨hx,h⟩:=h
  obtain⟨he1,h⟩:=h
  refine av<|an<|zo J (eu J J)<|al<|ae<|bu (ht J) (dh hx)<|bf ?_;refine ac (ac (aI ?_));cases so h;exact PI J he1 hB trivial
 ·obtain⟨hx,h⟩:=h
  obtain⟨he1,h⟩:=h
  refine av<|an<|zo J (eu J J)<|al<|ae<|bt (ht J) (dg hx)<|dF<|ae<|ap<|an<|ax J<|zo J (gM kE fN J J J (dl hx))<|zo J (bj fN J J)<|aZ (r:=bR) (x:=IT) fN (fun _=>mu _) J fun b=>aY J<|aE fN J ay J (ht J) (ht J)<|aW 5 J<|al<|ae ?_;refine ah<|zo J (bw mO gJ J J)<|zo J (bj n8 J J)<|zo J (fU ib J)<|zo J (bk hI)<|al<|ap<|aT (k:=17) J fun hN1=>bE ?_;refine aJ (tB (Z:=fun ls1 i1 e3 s2=>(e2.Nodes.drop i1=ls1)∧I s2 e3∧kT from1 yld (kU from1 yld tl) i ls1 i1 s2=some R) (Of:=fun _ i1 e3 s2=>[e3]) (Gf:=fun _ i1 e3 s2=>[(0,tV yv),(2,bF cC from1),(4,bY (i:Int)),(9,eV (bR) p.Frags),(10,gA p.Frags),(11,bY (i:Int)),(17,eV (aA) e2.Nodes),(18,gA e2.Nodes),(19,bY (i1:Int))]) (fun i1 e3 s2 h=>?_) (fun e4 tl1 ih1 i1 e3 s2 h=>?_) e2.Nodes 0 e1 s1 ⟨J,⟨he1,h⟩⟩) (aQ J)
  ·obtain⟨hx1,h⟩:=h
   obtain⟨he2,h⟩:=h
   refine av<|an<|zo J (eu J J)<|al<|ae<|bu (ht J) (dh hx1)<|bf ?_;refine ac (ac (aI ?_));refine af<|ai<|ah<|zo rfl (je (cx hx hN) rfl)<|ax rfl<|aC ?_;exact aM (aJ (ih (i+1) e3 s2 ⟨cw hx,⟨he2,h⟩⟩) (aQ J))
  ·obtain⟨hx1,h⟩:=h
   obtain⟨he2,h⟩:=h
   refine av<|an<|zo J (eu J J)<|al<|ae<|bt (ht J) (dg hx1)<|dF<|ae<|ap<|an<|ax J<|zo J (gM ib db J J J (dl hx1))<|zo J (bj db J J)<|aZ (r:=aA) (x:=yF) db (fun _=>ev _) J fun b1=>aY J<|aE db J ay J (ht J) (ht J)<|aW 7 J<|al<|ae ?_;refine ah<|zo J (bw eh cj J J)<|zo J (bj br J J)<|zo J (eQ J)<|ax J<|bo J J (fun hg=>bw kj d8 J J)<|bo J J (fun hg=>aF br J J (aG J hg))<|bo J J (fun hg=>bj br J J)<|bo J J (fun hg=>bq (aG J hg) (aG J hg))<|zo J (hZ J J)<|ax J ?_;refine Iz ((e4.Op==(9:Int))&&(e4.Table==from1)) (fun hg=>?_) (fun hg=>?_)
   ·have h:=ct h hg;refine zP J J J hg<|ax J<|zP J J J hg<|ax J<|zP J J J hg<|ax J<|zP J J J hg<|bM h fun r q_r h=>Pz hy he2 q_r (ht J) ⟨(ht J),(ht J),bm⟩ J fun e5 he3=>zP J J J hg<|zo J (dD (ht J))<|zo J (Aw (ht J) hg (ht J))<|al<|cz h J (fun h=>?_) (fun h=>?_)
    ·refine aj ?_;refine am (aa (aa (am (am (aa (aa (am ?_)))))));cases so h;exact LT J he3 hB trivial
    ·refine aO<|af<|ai<|ah<|zo rfl (je (cx hx1 hN1) rfl)<|ax rfl<|aC ?_;exact aM (aJ (ih1 (i1+1) e5 r.2 ⟨cw hx1,⟨he3,h⟩⟩) (aQ J))
   ·have h:=cf h hg;refine pN J J J hg J<|pN J J J hg J<|pN J J J hg J<|pN J J J hg J<|pN J J J hg J<|zo J (EW (ht J) hg XX)<|al<|rA (ht J) (fun hc=>?_) (fun hc=>?_)
    ·cases hc
    ·refine aO<|af<|ai<|ah<|zo rfl (je (cx hx1 hN1) rfl)<|ax rfl<|aC ?_;exact aM (aJ (ih1 (i1+1) e3 s2 ⟨cw hx1,⟨he2,h⟩⟩) (aQ J))

theorem Lf(p:da)(from1:Int){R:It (Int×Int)}(h:rQ p from1=some R):DB be 45 [tD ce p,bY from1] (fun(x:Int×Int)=>[bY x.1,bY x.2]) R:=by
 refine DB.of Tryz.func45 J J J fun w0 S0=>an<|zo J (lK J)<|zo J (lK J)<|zo J (aP hV)<|al<|an<|ID (O1:=[]) (cts:=[bF ce p,bF cC from1]) (caps:=[.tmp 2,.tmp 3]) J Yl (T5 p from1) ⟨(ht J),(ht J),bm⟩ J fun v fp=>aY J<|al<|aj ?_;cases so h;exact PH J J

theorem Ls(s1:(List Int))(s2:(List Int)){R:Bool}(h:fv s1 s2=some R):bh be 142 [ji s1,ji s2] (gD R):=by
 refine bh.of Tryz.func142 J J J fun w0 S0=>an<|zo J (ei)<|al<|ae<|an<|ax J<|zo J (fU cZ J)<|ax J<|zo J (fU cZ J)<|zo J (cA (ht J) (ht J))<|al<|cz h J (fun h=>?_) (fun h=>?_)
 ·refine an<|zo J (ei)<|al<|aj<|aa ?_;cases so h;exact aB J J
 ·refine dF<|ae<|an<|ax J<|zo J (fU cZ J)<|zo J (bk hI)<|al<|ap<|aT (k:=11) J fun hN=>bE ?_;refine aJ (dB (Z:=fun ls i=>(s1.drop i=ls)∧gh s2 ls i=some R) (Of:=fun _ i=>[]) (Gf:=fun _ i=>[(0,ji s1),(1,ji s2),(12,gA s1),(13,bY (i:Int))]) (fun i h=>?_) (fun e tl ih i h=>?_) s1 0 ⟨J,h⟩) (aQ J)
  ·obtain⟨hx,h⟩:=h
   refine av<|an<|zo J (eu J J)<|al<|ae<|bu (ht J) (dh hx)<|bf ?_;refine ac (ac (aI ?_));refine ai<|an<|zo rfl (ei)<|al<|aj ?_;cases so h;exact aB J J
  ·obtain⟨hx,h⟩:=h
   refine av<|an<|zo J (eu J J)<|al<|ae<|bt (ht J) (dg hx)<|dF<|ae<|ap<|an<|ax J<|aY J<|al<|ae<|bM h fun e1 q_e1 h=>?_
   refine er (ts:=[_,_,_,_,_,_,_,_,_]) mixed J J
    ⟨ic 0 J J J (cq J),
    ⟨ic 5 J J J (cq J),
    ⟨eT 16 0 17 1 J J J J (gM cZ br J J J (dl hx)),
    ⟨dc 18 2 J J J (bj br J J),
    ⟨ic 1 J J J (cq J),
    ⟨ic 5 J J J (cq J),
    ⟨eT 20 4 21 5 J J J J (gM cZ br J J J q_e1),
    ⟨dc 22 6 J J J (bj br J J),
    ⟨eT 19 3 23 7 J J J J (cA (ht J) (ht J)),
    bm⟩⟩⟩⟩⟩⟩⟩⟩⟩ ?_
   refine ai<|cz h rfl (fun h=>?_) (fun h=>?_)
   ·refine an<|zo J (ei)<|al<|aj ?_;refine am (aa (aa (am (aa ?_))));cases so h;exact aB J J
   ·refine aO<|af<|ai<|ah<|zo rfl (je (cx hx hN) rfl)<|ax rfl<|aC ?_;exact aM (aJ (ih (i+1) ⟨cw hx,h⟩) (aQ J))

theorem Lr(p:(Option ci))(frag:Int){R:(List Int)}(h:dK p frag=some R):bh be 143 [tD qU p,bY frag] (ji R):=by
 refine bh.of Tryz.func143 J J J fun w0 S0=>an<|zo J (aP (show aL _ _ _ pD from lJ))<|al<|an<|ax J<|bM h fun p1 q_p1 h=>zo J (f9 (ht J) q_p1)<|zo J (bw B2 zB J J)<|zo J (bj Kv J J)<|ax J<|bM h fun e q_e h=>zo J (gM Tryz.underlying161 D7 J J J q_e)<|zo J (bj D7 J J)<|aY J<|al<|an<|ax J<|ax J ?_;refine zo J (fU n7 J)<|zo J (dn (ht J) hI)<|bM h fun e1 q_e1 h=>zo J (gM n7 bV J J J q_e1)<|zo J (bj bV J J)<|aY J<|al<|aj ?_;cases so h;exact aB J J

theorem Uc(p:(Option ci))(at1:Int){R:Bool}(h:gu p at1=some R):bh be 74 [tD qU p,bY at1] (gD R):=by
 refine Iy Tryz.func74 J J J fun w0 S0=>an<|zo J (lK J)<|zo J (ei)<|al<|an<|zo J (bj xE J J)<|bM h fun p1 q_p1 h=>zo J (f9 (ht J) q_p1)<|zo J (bw rx jG J J)<|zo J (bw fY dp J J)<|zo J (bj nS J J)<|ax J<|bM h fun e q_e h=>zo J (gM kE fN J J J q_e)<|zo J (bj fN J J)<|aZ (r:=bR) (x:=IT) fN (fun _=>mu _) J fun b=>aE fN J ay J (ht J) (ht J)<|aW 5 J<|al ?_;refine ae<|an<|zo J (bw mO gJ J J)<|zo J (bj n8 J J)<|zo J (fU ib J)<|zo J (bk hI)<|al<|ap<|aT (k:=20) J fun hN=>bE ?_;refine aJ (dB (Z:=fun ls i=>(e.Nodes.drop i=ls)∧eE p at1 e ls=some R) (Of:=fun _ i=>[]) (Gf:=fun _ i=>[(1,bY at1),(2,bF qU p),(5,bF bR e),(20,eV (aA) e.Nodes),(21,gA e.Nodes),(22,bY (i:Int))]) (fun i h=>?_) (fun e1 tl ih i h=>?_) e.Nodes 0 ⟨J,h⟩) (aQ J)
 ·obtain⟨hx,h⟩:=h
  refine av<|an<|zo J (eu J J)<|al<|ae<|bu (ht J) (dh hx)<|bf ?_;refine ac (ac (aI ?_));refine ai<|an<|aZ (r:=cC) (x:=(0:Int)) br (fun _=>J) J fun b1=>aZ (r:=rB) (x:=false) NB (fun _=>J) J fun b2=>cg<|aE br J ay J (ht J) hI<|cg<|aE NB J ay J (ht J) hB<|al<|ae<|an<|zo J (bj xE J J)<|bM h fun p2 q_p2 h=>zo J (f9 (ht J) q_p2)<|zo J (bw rx jG J J)<|zo J (bj mg J J)<|ax J<|bM h fun it q_it h=>Fv Wd (Lf _ _ q_it) ⟨(ht J),(ht J),bm⟩ J fun v fp=>al ?_;refine ap<|bM h fun s q_s h=>?_;refine Nv (fun(i:Bool×Int)=>[bx rB 4 b2 i.1,bx cC 3 b1 i.2]) (fun(i:Bool×Int)=>(i.1,i.2)) J (ht J) (false,(0:Int)) J q_s (fun _=>J) J (fun i x s2 h lp rec1 _ _ _=>?_) (fun i hi bd=>?_)
  ·obtain⟨one,many⟩:=i
   replace h:dr p x one many=some s2:=h
   refine(show CG _ _ _ [vy lp rec1 .ready,bx rB 4 b2 one,bx cC 3 b1 many] _ from ?_);refine Kk (G' :=[(1,bY at1),(2,bF qU p),(5,bF bR e),(8,tV (aN b1 0)),(9,tV (aN b2 0)),(20,eV (aA) e.Nodes),(21,gA e.Nodes),(22,bY (i:Int)),(23,gD (decide ((i:Int)<(e.Nodes.length:Int)))),(46,tD qU p),(47,bF ie p2),(48,bF ce p2.Plan),(49,tD ce p2.Plan),(50,bY at1),(52,bY x.1),(53,bY x.2)]) ?_ ⟨J,J,J,J,J,J,J,J,J,J,J,J,J,J,J,J,bm⟩;refine ah<|aY J<|aC<|PK<|ap<|an<|zo J (bl br J J bO (.tail _ (.tail _ (.head _))) (ht J))<|zo J (fm (ht J) hI)<|fD<|aE br J ay J (ht J) (ht J)<|al<|ah<|zo J (bj xE J J)<|bM h fun p3 q_p3 h=>zo J (f9 (ht J) q_p3)<|zo J (bw rx jG J J)<|zo J (bw fY dp J J)<|zo J (bj nS J J)<|ax J<|bM h fun e2 q_e2 h=>zo J (gM kE fN J J J q_e2)<|zo J (bw mN gj J J) ?_;refine zo J (bj br J J)<|zo J (eQ J)<|fD<|aE NB J ay J (ht J) (ht J)<|aC<|af<|aU<|aU<|bc ?_;exact IS ((e2.At==(2:Int)),(IntKind.i64.wrap (many+(1:Int)))) (so h) J
  ·skip
   obtain⟨x1,x2⟩:=i
   have hi:(x1,x2)=s:=hi
   subst hi
   dsimp only at h
   refine(show AT _ _ _ [G2 bd,bx rB 4 b2 x1,bx cC 3 b1 x2] _ from ?_);refine bz (G' :=[(1,bY at1),(2,bF qU p),(5,bF bR e),(8,tV (aN b1 0)),(9,tV (aN b2 0)),(20,eV (aA) e.Nodes),(21,gA e.Nodes),(22,bY (i:Int)),(23,gD (decide ((i:Int)<(e.Nodes.length:Int)))),(46,tD qU p),(47,bF ie p2),(48,bF ce p2.Plan),(49,tD ce p2.Plan),(50,bY at1)]) ?_ ⟨J,J,J,J,J,J,J,J,J,J,J,J,J,J,bm⟩;refine af<|ai<|ae<|an<|ax rfl<|zo rfl (bj xE rfl rfl)<|bM h fun p4 q_p4 h=>zo J (f9 (ht J) q_p4)<|zo J (bw rx jG J J)<|zo J (bw fY dp J J)<|zo J (bj nS J J)<|zo J (fU kE J)<|zo J (dn (ht J) hI)<|zo J (bq (ht J) (ht J))<|al<|cz h J (fun h=>?_) (fun h=>?_)
   ·refine an<|zo J (bw pK ju J J)<|zo J (bj br J J)<|zo J (eQ J)<|ax J<|bo J J (fun hg=>bw mN gj J J)<|bo J J (fun hg=>aF br J J (aG J hg))<|bo J J (fun hg=>bq (aG J hg) hI)<|zo J (hZ J J)<|ax J<|bo J J (fun hg=>bl br J J bO (.tail _ (.tail _ (.head _))) (ht J))<|bo J J (fun hg=>bq (aG J hg) hI)<|zo J (hZ J J)<|ax J<|bM h fun t q_t h=>bo J J (fun hg=>bj xE J J)<|bo J J (fun hg=>cq J) ?_
    obtain⟨r,h1t,h0t⟩:=og q_t
    have q_rg:=fun hb=>(h1t hb).1
    refine bo J J (fun hg=>aH S9 (Lr _ _ (q_rg hg)) ⟨(aG J hg),(aG J hg),bm⟩) ?_
    obtain⟨r1,h1t⟩:=G1 (fun hb=>(h1t hb).2)
    have q_r1g:=fun hb=>(h1t hb).1
    refine bo J J (fun hg=>aH UH (JU _ _ (q_r1g hg)) ⟨(aG J hg),hI,bm⟩)<|bo J J (fun hg=>dD (aG J hg))<|zo J (cu (ht J) (fun hb=>(aG J hb)) (fun hb=>(h1t hb).2) h0t)<|aY J<|al<|aj<|aa<|aU<|aX<|aU<|aX<|Cc<|xc ?_;cases so h;exact aB J J
   ·refine dF<|an<|zo J (bw pK ju J J)<|zo J (bj br J J)<|zo J (uP J)<|ax J<|bo J J (fun hg=>bl br J J bO (.tail _ (.tail _ (.head _))) (ht J))<|bo J J (fun hg=>bq (aG J hg) hI)<|zo J (hZ J J)<|ax J<|bo J J (fun hg=>bw pK ju J J)<|bo J J (fun hg=>aF br J J (aG J hg))<|bo J J (fun hg=>bq (aG J hg) hI)<|bo J J (fun hg=>bl NB J J bO (.tail _ (.head _)) (ht J))<|bo J J (fun hg=>KK FD (aG J hg) (aG J hg))<|zo J (hZ J J)<|aY J<|al<|aj<|aU<|aX ?_;refine aU<|aX<|Cc<|xc ?_;cases so h;exact aB J J
 ·obtain⟨hx,h⟩:=h
  refine av<|an<|zo J (eu J J)<|al<|ae<|bt (ht J) (dg hx)<|dF<|ae<|ap<|an<|zo J (gM ib db J J J (dl hx))<|zo J (bj db J J)<|aZ (r:=aA) (x:=yF) db (fun _=>ev _) J fun b3=>aE db J ay J (ht J) (ht J)<|aW 7 J<|al<|ae<|bM h fun t1 q_t1 h=>?_
  obtain⟨t2,h1t1,h0t1⟩:=og q_t1
  have q_t2g:=fun hb=>(h1t1 hb).1
  obtain⟨r2,h1t2,h0t2⟩:=Vx q_t2g
  have q_r2g:=fun hb=>(h1t2 hb).1
  obtain⟨r3,h1t2⟩:=G1 (fun hb=>(h1t2 hb).2)
  have q_r3g:=fun hb=>(h1t2 hb).1
  refine er (ts:=[_,_,_,_,_,_,_,_,_,_,_,_,_,_,_,_,_,_,_]) mixed J J
   ⟨ic 7 J J J (bw eh cj J J),
   ⟨dc 26 0 J J J (bj br J J),
   ⟨dc 27 1 J J J (eQ J),
   ⟨dc 28 2 J J J (cq J),
   ⟨jn 7 29 3 J J J J (bP J J J J (fun hg=>bw kj d8 J J)),
   ⟨dR 30 4 29 3 J J J J (bP J J J J (fun hg=>aF br J J (aG J hg))),
   ⟨jn 1 29 3 J J J J (bP J J J J (fun hg=>cq J)),
   ⟨mB 31 5 32 6 29 3 J J J J J (bP J J J J (fun hg=>cS (aG J hg) (aG J hg))),
   ⟨dR 33 7 29 3 J J J J (bP J J J J (fun hg=>bk (aG J hg))),
   ⟨jn 7 34 8 J J J J (kL J J J J (fun hg=>bw jV d7 J J)),
   ⟨dR 35 9 34 8 J J J J (kL J J J J (fun hg=>aF bV J J (aG J hg))),
   ⟨jn 2 34 8 J J J J (kL J J J J (fun hg=>bj xE J J)),
   ⟨jn 7 34 8 J J J J (kL J J J J (fun hg=>bw kj d8 J J)),
   ⟨dR 38 12 34 8 J J J J (kL J J J J (fun hg=>aF br J J (aG J hg))),
   ⟨mB 37 11 39 13 34 8 J J J J J (kL J J J J (fun hg=>aH S9 (Lr _ _ (q_r2g hg)) ⟨(aG J hg),(aG J hg),bm⟩)),
   ⟨mB 36 10 40 14 34 8 J J J J J (kL J J J J (fun hg=>aH Ta (Ls _ _ (q_r3g hg)) ⟨(aG J hg),(aG J hg),bm⟩)),
   ⟨dR 41 15 34 8 J J J J (kL J J J J (fun hg=>dD (aG J hg))),
   ⟨mB 34 8 42 16 29 3 J J J J J (bP J J J J (fun hg=>dY (aG J hg) (fun hb=>(aG J (oa hg (mW hb)))) (fun hb=>(h1t2 (oa hg hb)).2) (fun hb=>h0t2 hg hb))),
   ⟨eT 29 3 43 17 J J J J (cu (ht J) (fun hb=>(aG J hb)) (fun hb=>(h1t1 hb).2) h0t1),
   bm⟩⟩⟩⟩⟩⟩⟩⟩⟩⟩⟩⟩⟩⟩⟩⟩⟩⟩⟩ ?_
  refine ai<|cz h rfl (fun h=>?_) (fun h=>?_)
  ·refine an<|zo J (ei)<|al<|aj ?_;refine am (aa (aa (am (aa ?_))));refine xc ?_;cases so h;exact aB J J
  ·refine aO<|af<|ai<|ah<|zo rfl (je (cx hx hN) rfl)<|ax rfl<|aC ?_;exact aM (aJ (ih (i+1) ⟨cw hx,h⟩) (aQ J))

end Go.Proofs.YtmogpgcfognefaaGreatDoor

