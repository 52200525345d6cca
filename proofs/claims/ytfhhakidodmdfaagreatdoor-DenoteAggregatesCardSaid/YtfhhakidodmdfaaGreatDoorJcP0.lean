/- di of this claim: P0. -/
import Derived.Test.YtfhhakidodmdfaaGreatDoorJcT
import Derived.Test.YtfhhakidodmdfaaGreatDoorJcF
set_option linter.all false
namespace Go.Proofs.YtfhhakidodmdfaaGreatDoor
open Go
abbrev X4:=fun(mc:aI) (mx:ay)=>(gp mc mx).map fun mr=>(mr,mc)
abbrev X3:=fun(mc:aI) (mx:ay)=>(hX mc mx).map fun mr=>(mr,mc)
abbrev X8:=fun(mc:aI) (mx:ay)=>(gq mc mx).map fun mr=>(mr,mc)
abbrev X5:=fun(mc:aI) (mx:ay)=>(gR mc mx).map fun mr=>(mr,mc)
abbrev X9:=fun(mc:aI) (mx:ay)=>(fW mc mx).map fun mr=>(mr,mc)
abbrev Ya:=fun(mc:aI) (mx:ay)=>(fy mc mx).map fun mr=>(mr,mc)
abbrev X7:=fun(mc:aI) (mx:ay)=>(gO mc mx).map fun mr=>(mr,mc)
abbrev X6:=fun(mc:aI) (mx:ay)=>(gQ mc mx).map fun mr=>(mr,mc)
abbrev Mc:=dF (dF (dF (dF (dF (dF (dF (dF ([]:List (Int×(aI→ay→Option (((List Int)×Bool)×aI)))) (1:Int) X4) (2:Int) X3) (3:Int) X8) (4:Int) X5) (5:Int) X9) (6:Int) Ya) (7:Int) X7) (8:Int) X6
abbrev d3:=(⟨(0:Int),(0:Int),(0:Int),[]⟩:ac)
abbrev XW:=fun(mc:dh) (mx:ay)=>(lg mc mx).map fun mr=>(mr,mc)
abbrev XV:=fun(mc:dh) (mx:ay)=>(j3 mc mx).map fun mr=>(mr,mc)
abbrev X0:=fun(mc:dh) (mx:ay)=>(jR mc mx).map fun mr=>(mr,mc)
abbrev XX:=fun(mc:dh) (mx:ay)=>(js mc mx).map fun mr=>(mr,mc)
abbrev X1:=fun(mc:dh) (mx:ay)=>(jr mc mx).map fun mr=>(mr,mc)
abbrev X2:=fun(mc:dh) (mx:ay)=>(iX mc mx).map fun mr=>(mr,mc)
abbrev XZ:=fun(mc:dh) (mx:ay)=>(kL mc mx).map fun mr=>(mr,mc)
abbrev XY:=fun(mc:dh) (mx:ay)=>(kM mc mx).map fun mr=>(mr,mc)
abbrev Q5:=dF (dF (dF (dF (dF (dF (dF (dF ([]:List (Int×(dh→ay→Option (((List (List ac))×Int)×dh)))) (1:Int) XW) (2:Int) XV) (3:Int) X0) (4:Int) XX) (5:Int) X1) (6:Int) X2) (7:Int) XZ) (8:Int) XY
abbrev dg:=ik af
abbrev qH:=fun(x:ac×ac)=>[tD af x.1,tD af x.2]
abbrev tA:=fun(x:ac×Int)=>tT [tD af x.1,bM x.2]
abbrev pI:=fun(x:ay)=>[tD aW x]
abbrev cj:=rI .i64
abbrev B2:=(⟨[]⟩:bS)
abbrev Jz:=(⟨(0:Int),(0:Int),(0:Int),(0:Int),[],false,B2,[],[],[],[],(0:Int)⟩:ay)
abbrev F1:=fun(x:(List ac)×(List ac))=>[cq (af) x.1,cq (af) x.2]
abbrev oW:=fun(x:(List Int)×Bool)=>tT [mH x.1,hJ x.2]
abbrev PJ:=List.replicate 8 (0:Int)
abbrev qQ:=(⟨PJ,false⟩:cu)
abbrev qI:=fun(x:(List (List ac))×Int)=>tT [cq (dg) x.1,bM x.2]
abbrev zZ:=min (Int.toNat (32:Int)) IntKind.u64.bits
abbrev mI:=fun(x:Bool)=>hJ x
abbrev Dr:=fun(x:ac×Int)=>tT [tD af x.1,tD cj x.2]
abbrev ee:=ik dg
abbrev AR:=fun(x:ac)=>[tD af x]
abbrev JC:=(⟨(0:Int),(0:Int),(0:Int),(0:Int),d3⟩:bC)
abbrev ze:=fun(x:Int)=>bM x
abbrev nO:=kvI .i64
abbrev PK:=(⟨(1:Int),(0:Int),(0:Int),[]⟩:ac)
abbrev we:=cq (dg) ([])
abbrev vn:=([]:List Int)
abbrev ni:=rI .u64
abbrev TP:=fun(x:bC×(List ac))=>[tD bO x.1,cq (af) x.2]
abbrev TO:=fun(x:bC×(List ac))=>[tD bO x.1,tD dg x.2]
abbrev HQ:=fun(x:Bool)=>tD rB x
abbrev TN:=fun(x:bC×(List Int))=>[tD bO x.1,mH x.2]
abbrev HP:=([]:List (List ac))
abbrev JB:=fun(x:Int)=>[bM x]
abbrev xA:=ik cj
abbrev XU:=fun(x:bC×(List Int))=>[tD bO x.1,tD xA x.2]
abbrev F2:=([]:List ac)
abbrev XT:=fun(x:(List ac)×(List ac))=>[tD dg x.1,tD dg x.2]
abbrev TM:=fun(x:Int×Int)=>tT [bM x.1,bM x.2]
abbrev TL:=fun(x:(List ac))=>[cq (af) x]
abbrev wd:=(-1:Int)
abbrev Q4:=fun(x:ig)=>[tD hT x]
abbrev xB:=mH ([])
abbrev JA:=(⟨[]⟩:cm)
abbrev Q0:=(⟨(1:Int),B2⟩:gv)
abbrev XR:=fun(x:Int×Int)=>tT [tD cj x.1,tD cj x.2]
abbrev PI:=([]:List (List Int))
abbrev AQ:=2^zZ
abbrev TK:=fun(x:Int)=>tD cj x
abbrev TJ:=(⟨[],[]⟩:iB)
set_option maxRecDepth 100000

theorem U2(s:(List Int))(f:(Int→Option Bool)){R:Int}(h:lK s f=some R):aR aU 321 [mH s,(ei aU JB mI (fun(x:Int)=>f x))] (bM R):=by
 refine aR.of Tryz.func321 J J J fun w0 S0=>av<|zo J (bW)<|aq<|ah<|av<|aE J<|zo J (jw iv J)<|zo J (bJ hI)<|aq<|aC<|bp (k:=6) J fun hN=>bQ ?_;refine ba (fK (Z:=fun ls i=>(s.drop i=ls)∧fZ f ls i=some R) (Of:=fun _ i=>[]) (Gf:=fun _ i=>[(0,mH s),(1,(ei aU JB mI (fun(x:Int)=>f x))),(7,ky s),(8,bM (i:Int))]) (fun i h=>?_) (fun e tl ih i h=>?_) s 0 ⟨J,h⟩) (bD J)
 ·obtain⟨hx,h⟩:=h
  refine aG<|av<|zo J (fY J J)<|aq<|ah<|bL (ht J) (dO hx)<|bG ?_;refine ak (ak (aV ?_));refine ax<|av<|zo rfl (bW)<|aq<|aj ?_;cases so h;exact aH J J
 ·obtain⟨hx,h⟩:=h
  refine aG<|av<|zo J (fY J J)<|aq<|ah<|bK (ht J) (dL hx)<|df<|ah<|aC<|av<|aE J<|bg J<|aq<|av<|aE J<|aE J<|aE J<|zo J (ne iv cg J J J (dA hx)) ?_;refine zo J (bh cg J J)<|bo h fun r q_r h=>zo J (io (args:=(fun(x:Int)=>[tD cj x])) (res:=HQ) (f:=(fun(x:Int)=>f x)) (x:=((e):Int)) (ht J) q_r ⟨(ht J),aL⟩)<|aq<|ce h J (fun h=>?_) (fun h=>?_)
  ·refine av<|aE J<|bg J<|aq<|aj ?_;refine aB (ae (ae (aB (ae ?_))));cases so h;exact aH J J
  ·refine bA<|aw<|ax<|aA<|zo rfl (nf (dd hx hN) rfl)<|aE rfl<|aQ ?_;exact bn (ba (ih (i+1) ⟨dc hx,h⟩) (bD J))

theorem DW(s:(List Int))(f:(Int→Option Bool)){R:Bool}(h:cO s f=some R):aR aU 258 [mH s,(ei aU JB mI (fun(x:Int)=>f x))] (hJ R):=by
 refine aR.of Tryz.func258 J J J fun w0 S0=>av<|zo J (jU)<|aq<|av<|aE J<|aE J<|bo h fun r q_r h=>zo J (ap aa6 (U2 _ _ q_r) ⟨(ht J),(ht J),aL⟩)<|zo J (gh (ht J) hI)<|bg J<|aq<|aj ?_;cases so h;exact aH J J

theorem Vc(k:Int){R:Bool}(h:C5 k=some R):aR aU 280 [bM k] (hJ R):=by
 refine aR.of Tryz.func280 J J J fun w0 S0=>av<|zo J (jU)<|aq<|av<|aE J<|zo J (hM J)<|aE J<|dD J J (fun hg=>cX J)<|dD J J (fun hg=>cd (bm J hg) hI)<|zo J (uo J J)<|aE J<|dD J J (fun hg=>cX J)<|dD J J (fun hg=>cd (bm J hg) hI)<|zo J (uo J J)<|bg J<|aq<|aj ?_;cases so h;exact aH J J

theorem Vd(k:Int){R:Bool}(h:jF k=some R):aR aU 279 [bM k] (hJ R):=by
 refine aR.of Tryz.func279 J J J fun w0 S0=>av<|zo J (jU)<|aq<|av<|aE J<|bo h fun r q_r h=>zo J (ap abg (Vc _ q_r) ⟨(ht J),aL⟩)<|zo J (cx (ht J))<|bg J<|aq<|aj ?_;cases so h;exact aH J J

theorem Za(b:Nat)(ix:OI)(c:aI)(n:ay){R:(List Int)×Bool}(h:gp c n=some R):dl aU 202 [tV (aS b 0),tD aW n] (dN b c ix) (fun _:OI=>tT [mH R.1,hJ R.2]) (fun _=>(dN b c ix)):=by
 refine dl.of Tryz.func202 J J J fun w0 S0=>?_;refine(show CG _ _ _ [bx (rH bz [(1,bc (ix.h 0).1 (ix.h 0).2 c.kinds.length),(2,bc (ix.h 1).1 (ix.h 1).2 c.first.length)]) 115 b c,ez nQ 39 (ix.h 0).1 (ix.h 0).2 c.kinds,ez cj 3 (ix.h 1).1 (ix.h 1).2 c.first] _ from ?_);refine av<|zo J (gi J)<|zo J (aT (show aO _ _ _ xB from kJ))<|zo J (jU)<|aq<|av<|zo J (aT (show aO _ _ _ ((ei aU JB mI (fun(x:Int)=>jF x)))from(zJ abh fun x y h=>Vd _ h)))<|aq<|av<|zo J (bX Ao ri J J)<|zo J (bh cg J J)<|zo J (gh (ht J) hI)<|aE J<|co J J (fun hg=>bX Ao ri J J)<|co J J (fun hg=>bj cg J J (bm J hg))<|co J J (fun hg=>dJ (bm J hg) hI)<|zo J (pH J J)<|aE J<|co J J (fun hg=>bX wD pC J J) ?_;refine co J J (fun hg=>bj eQ J J (bm J hg))<|co J J (fun hg=>dK iv (bm J hg))<|co J J (fun hg=>gh (bm J hg) hI)<|zo J (pH J J)<|aE J<|co J J (fun hg=>bX wD pC J J)<|co J J (fun hg=>bj eQ J J (bm J hg))<|co J J (fun hg=>dK iv (bm J hg))<|co J J (fun hg=>jZ (bm J hg) hI)<|zo J (pH J J)<|bg J<|aq<|ah<|bo h fun t q_t h=>?_
 obtain⟨r,h1t,h0t⟩:=og q_t
 have q_rg:=fun hb=>(h1t hb).1
 refine cD (ts:=[_,_,_,_,_,_,_,_,_,_,_,_]) mixed J J
  ⟨dB 3 J J J (bX wD pC J J),
  ⟨bT 28 0 J J J (bh eQ J J),
  ⟨dB 7 J J J (cX J),
  ⟨bT 30 2 J J J (cX J),
  ⟨qR 3 31 3 J J J J (dC J J J J (fun hg=>bX wD pC J J)),
  ⟨kj 32 4 31 3 J J J J (dC J J J J (fun hg=>bj eQ J J (bm J hg))),
  ⟨qR 6 31 3 J J J J (dC J J J J (fun hg=>cX J)),
  ⟨uw 33 5 34 6 31 3 J J J J J (dC J J J J (fun hg=>ap Pm (DW _ _ (q_rg hg)) ⟨(bm J hg),(bm J hg),aL⟩)),
  ⟨kj 35 7 31 3 J J J J (dC J J J J (fun hg=>cx (bm J hg))),
  ⟨cK 31 3 36 8 J J J J (cH (ht J) (fun hb=>(bm J hb)) (fun hb=>(h1t hb).2) h0t),
  ⟨bT 29 1 J J J (rN J),
  ⟨bT 37 9 J J J (rN J),
  aL⟩⟩⟩⟩⟩⟩⟩⟩⟩⟩⟩⟩ ?_
 refine ax<|aj<|aM<|aM<|aM ?_;cases so h;exact eN (ts:=[mH n.Kinds,hJ t]) (rvs:=[.tmp 4,.tmp 5]) J J ⟨aK J,aK J,aL⟩ pj J J

theorem Sp(n:Int){R:(List Int)}(h:lT n=some R):gA aU 343 [tV (.slice none 0 0),bM n] false cj 3 R:=by
 refine gA.of Tryz.func343 J J J fun w0 S0=>av<|ca false cj 3<|zo J (aT tg)<|aq ?_;refine vW (Z:=mL n=some R) (Of:=[]) (Gf:=[(0,tV (.slice none 0 0)),(1,bM n)]) (fun h=>?_) (fun K=>?_)
 ·skip
  refine vV (Z:=fun s l c=>mK s=some R) (Of:=fun s l c=>[fL cj 3 l c s]) (Gf:=fun s l c=>[(0,sw l c s)]) (fun s l c h=>?_) (fun K1=>?_)
  ·skip
   refine av<|aE J<|bg J<|aq<|aj ?_;cases so h;exact gK J J
  ·skip
   refine av<|aE J<|aE J<|zo J (tf iv (ht J))<|aE J<|zo J (te iv (ht J))<|zo J (ft (ht J) (ht J))<|zo J (ft (ht J) (ht J))<|bg J<|aq<|av<|aE J<|zo J (iz (ht J) hI)<|aq<|ce h J (fun h=>?_) (fun h=>?_)
   ·refine aA<|aE J<|aE J<|zo J (tf iv (ht J))<|zo J (xU iv cg (ht J) (ht J))<|aE J<|bo h fun u q_u h=>bo h fun mk q_mk h=>Av (yh (r:=cj) (x:=(0:Int)) cg J J J J iv lj (fun _=>J) (ht J) (ht J) (E9 q_u) q_mk) J fun i=>aE J<|zo J (te iv (ht J))<|bo h fun y q_y h=>zo J (lx iv cg J (.head _) (ht J) (ht J) q_y)<|wT q_y<|bg J<|aQ ?_;exact ci (K1 y (i.h 0).1 (i.h 0).2 h) (bD J)
   ·refine bA<|FU false cj 3 ?_;exact ci (K1 vn none 0 h) (bD J)
 ·skip
  refine av<|aE J<|zo J (dJ (ht J) hI)<|aq<|ce h J (fun h=>?_) (fun h=>?_)
  ·refine aA ?_;exact(nn h).elim
  ·refine bA<|aZ ?_;exact ci (K h) (bD J)
theorem Sq(slices:(List (List Int))){R:(List Int)}(h:jg slices=some R):gA aU 281 [cq (nQ) slices] false cj 3 R:=by
 refine gA.of Tryz.func281 J J J fun w0 S0=>av<|ca false cj 3<|zo J (aT tg)<|aq<|av<|zo J (bW)<|aq<|ah<|av<|aE J<|zo J (jw wa J)<|zo J (bJ hI)<|aq<|aC<|bp (k:=9) J fun hN=>bQ<|rL ?_;refine ba (ox (Z:=fun ls i size=>(slices.drop i=ls)∧jz slices ls size=some R) (Of:=fun _ i size=>[]) (Gf:=fun _ i size=>[(0,cq (nQ) slices),(3,bM size),(9,cq (nQ) slices),(10,ky slices),(11,bM (i:Int))]) (fun i size h=>?_) (fun e tl ih i size h=>?_) slices 0 (0:Int) ⟨J,h⟩) (bD J)
 ·obtain⟨hx,h⟩:=h
  refine aG<|av<|zo J (fY J J)<|aq<|ah<|bL (ht J) (dO hx)<|bG ?_;refine ak (ak (aV ?_));refine ax<|av<|aE rfl<|bo h fun r q_r h=>jh aaQ (Sp _ q_r) ⟨hV,(ht J),aL⟩ J fun l c=>bg J<|aq<|ah<|av<|aE J<|zo J (jw wa J)<|zo J (bJ hI)<|aq<|aC<|bp (k:=25) J fun hN1=>bQ ?_;refine ba (kX (Z:=fun ls1 i1 newslice l1 c1=>(slices.drop i1=ls1)∧jy ls1 newslice=some R) (Of:=fun _ i1 newslice l1 c1=>[fL cj 3 l1 c1 newslice]) (Gf:=fun _ i1 newslice l1 c1=>[(6,sw l1 c1 newslice),(25,cq (nQ) slices),(26,ky slices),(27,bM (i1:Int))]) (fun i1 newslice l1 c1 h=>?_) (fun e1 tl1 ih1 i1 newslice l1 c1 h=>?_) slices 0 r l c ⟨J,h⟩) (bD J)
  ·obtain⟨hx1,h⟩:=h
   refine aG<|av<|zo J (fY J J)<|aq<|ah<|bL (ht J) (dO hx1)<|bG ?_;refine ak (ak (aV ?_));refine ax<|av<|aE rfl<|bg rfl<|aq<|aj ?_;cases so h;exact gK J J
  ·obtain⟨hx1,h⟩:=h
   refine aG<|av<|zo J (fY J J)<|aq<|ah<|bK (ht J) (dL hx1)<|df<|ah<|aC<|av<|zo J (ne wa eQ J J J (dA hx1))<|zo J (bh eQ J J)<|bg J<|aq<|aA<|aE J<|aE J<|bo h fun newslice1 q_newslice1 h=>cV cg J J J J iv J J (ht J) (ht J) q_newslice1 fun l2 c2=>?_;refine bg J<|aQ<|aw<|ax<|aA<|zo rfl (nf (dd hx1 hN1) rfl)<|aE rfl<|aQ ?_;exact bn (ba (ih1 (i1+1) newslice1 l2 c2 ⟨dc hx1,h⟩) (bD J))
 ·obtain⟨hx,h⟩:=h
  refine aG<|av<|zo J (fY J J)<|aq<|ah<|bK (ht J) (dL hx)<|df<|ah<|aC<|av<|zo J (ne wa eQ J J J (dA hx))<|zo J (bh eQ J J)<|bg J<|aq<|av<|aE J<|aE J<|zo J (jw iv J) ?_;refine zo J (fV (ht J) (ht J))<|bg J<|aq<|av<|aE J<|zo J (dJ (ht J) hI)<|aq<|ce h J (fun h=>?_) (fun h=>?_)
  ·refine aA ?_;exact(nn h).elim
  ·refine bA<|aw<|ax<|aA<|zo rfl (nf (dd hx hN) rfl)<|aE rfl<|aQ ?_;exact bn (ba (ih (i+1) (IntKind.i64.wrap (size+(e.length:Int))) ⟨dc hx,h⟩) (bD J))
theorem Vb(slices:(List (List Int))){R:(List Int)}(h:jg slices=some R):aR aU 281 [cq (nQ) slices] (mH R):=(Sq _ h).spec

theorem DX(tag:Int){R:Int}(h:pE tag=some R):aR aU 213 [bM tag] (bM R):=by
 refine aR.of Tryz.func213 J J J fun w0 S0=>av<|zo J (bW)<|aq<|ah<|aC<|av<|aE J<|zo J (hM J)<|aE J<|dD J J (fun hg=>cX J)<|dD J J (fun hg=>cd (bm J hg) hI)<|zo J (uo J J)<|bg J<|aq<|ce h J (fun h=>?_) (fun h=>?_)
 ·refine av<|zo J (bW)<|aq<|aj ?_;refine aB (ae ?_);cases so h;exact aH J J
 ·refine av<|aE J<|zo J (gh (ht J) hI)<|aE J<|co J J (fun hg=>cX J)<|co J J (fun hg=>jZ (bm J hg) hI)<|zo J (pH J J)<|bg J<|aq<|ce h J (fun h=>?_) (fun h=>?_)
  ·refine av<|zo J (bW)<|aq<|aj ?_;refine aB (ae ?_);cases so h;exact aH J J
  ·refine av<|aE J<|zo J (gh (ht J) hI)<|aE J<|co J J (fun hg=>cX J)<|co J J (fun hg=>jZ (bm J hg) hI)<|zo J (pH J J)<|bg J<|aq<|ce h J (fun h=>?_) (fun h=>?_)
   ·refine av<|zo J (bW)<|aq<|aj ?_;refine aB (ae ?_);cases so h;exact aH J J
   ·refine bA<|aw<|ax<|av<|zo rfl (bW)<|aq<|aj ?_;cases so h;exact aH J J

theorem VC(v:ac){R:ac}(h:xE v=some R):aR aU 191 [tD af v] (tD af R):=by
 refine aR.of Tryz.func191 J J J fun w0 S0=>av<|s6 (ht J) J fun b=>aP (r:=af) (x:=d3) au (fun _=>aJ _) J fun b1=>aq<|ah<|av<|zo J (je 0 cz J J J)<|zo J (bE cg J J br (.tail _ (.head _)) (ht J))<|aq ?_;refine HH (Z:=fun v1=>kQ v1=some R) (Of:=fun v1=>[bx af 46 b v1,bx af 46 b1 d3]) (Gf:=fun v1=>[(1,tV (aS b 0)),(2,tV (aS b1 0))]) (fun v1 h=>?_) (fun K=>?_)
 ·skip
  refine ax<|av<|zo rfl (bE au rfl rfl bw (.head _) (ht rfl))<|bq<|am au rfl ai rfl (ht rfl) (ht rfl)<|aY 2 rfl<|aq<|aj<|aZ ?_;cases so h;exact eP J au J J J
 ·skip
  refine ah<|aC<|ah<|aC<|ah ?_;refine HH (Z:=fun v2=>qd v2=some R) (Of:=fun v2=>[bx af 46 b v2,bx af 46 b1 d3]) (Gf:=fun v2=>[(1,tV (aS b 0)),(2,tV (aS b1 0))]) (fun v2 h=>?_) (fun K1=>?_)
  ·skip
   refine ax<|av<|zo rfl (je 0 cz rfl rfl rfl)<|am cg rfl jV rfl (ht rfl) hI<|aq<|bG ?_;refine cE J (ak (cE J (ak (aV ?_))));exact ci (K (ac.mk (0:Int) v2.N v2.U v2.S) h) (bD J)
  ·skip
   refine ah ?_;refine QU (Z:=qc v=some R) (Of:=[bx af 46 b v,bx af 46 b1 d3]) (Gf:=[(1,tV (aS b 0)),(2,tV (aS b1 0))]) (fun h=>?_) (fun K2=>?_)
   ·skip
    refine ax<|aA<|zo rfl (je 1 eE rfl rfl rfl)<|am uq rfl lL rfl (ht rfl) hI<|aQ<|aw ?_;exact ci (K1 (ac.mk v.Kind (0:Int) v.U v.S) h) (bD J)
   ·skip
    refine ah<|aC<|ah<|ah<|av<|zo J (hM J)<|bg J<|aq<|ce h J (fun h=>?_) (fun h=>?_)
    ·refine bG ?_;refine ak (ak (aV ?_));refine ax<|av<|zo rfl (je 1 eE rfl rfl rfl)<|zo rfl (bE uq rfl rfl bY (.tail _ (.head _)) (ht rfl))<|zo rfl (sx rfl)<|aE rfl<|co rfl rfl (fun hg=>je 1 eE J J J)<|co J J (fun hg=>bE uq J J bY (.tail _ (.head _)) (bm J hg))<|co J J (fun hg=>c9 (bm J hg) hI)<|zo J (pH J J)<|aq<|ce h J (fun h=>?_) (fun h=>?_)
     ·refine bG ?_;refine cE J (ak (cE J (ak (cE J (ak (cE J (ak (aV ?_))))))));refine bI ?_;exact ci (K v h) (bD J)
     ·refine bA<|aw<|bI ?_;exact ci (K2 h) (bD J)
    ·refine df<|ah<|av<|zo J (hM J)<|bg J<|aq<|ce h J (fun h=>?_) (fun h=>?_)
     ·refine bG ?_;refine ak (ak (cE J (ak (aV ?_))));refine bI ?_;exact ci (K2 h) (bD J)
     ·refine df<|ah<|av<|zo J (hM J)<|bg J<|aq<|ce h J (fun h=>?_) (fun h=>?_)
      ·refine bG ?_;refine ak (ak (cE J (ak (cE J (ak (aV ?_))))));refine bI ?_;exact ci (K1 v h) (bD J)
      ·refine df<|ah<|av<|zo J (hM J)<|bg J<|aq<|ce h J (fun h=>?_) (fun h=>?_)
       ·refine bG ?_;refine ak (ak (cE J (ak (cE J (ak (cE J (ak (aV ?_))))))));refine ax ?_;refine i6 (Z:=fun v3=>qb v3=some R) (Of:=fun v3=>[bx af 46 b v3,bx af 46 b1 d3]) (Gf:=fun v3=>[(1,tV (aS b 0)),(2,tV (aS b1 0))]) (fun v3 h=>?_) (fun K3=>?_)
        ·skip
         refine bG ?_;refine cE J (ak (aV ?_));exact ci (K v3 h) (bD J)
        ·skip
         refine av<|zo J (je 3 jG J J J)<|zo J (bE B6 J J dy (.tail _ (.head _)) (ht J))<|zo J (rE v7 (ht J))<|zo J (jZ (ht J) hI)<|aq<|ce h J (fun h=>?_) (fun h=>?_)
         ·refine aA<|zo J (je 0 cz J J J)<|bq<|am cg J jV J (ht J) hI<|zo J (je 3 jG J J J)<|am B6 J Mp J (ht J) hS<|aQ ?_;exact ci (K3 (ac.mk (0:Int) v.N v.U ([])) h) (bD J)
         ·refine bA<|bI ?_;exact ci (K3 v h) (bD J)
       ·refine df<|av<|zo J (hM J)<|bg J<|aq<|ce h J (fun h=>?_) (fun h=>?_)
        ·refine bG ?_;refine ak (cE J (ak (cE J (ak (cE J (ak (cE J (ak (aV ?_)))))))));refine ax<|av<|zo rfl (je 0 cz rfl rfl rfl)<|bq<|am cg rfl jV rfl (ht rfl) hI<|zo rfl (je 1 eE rfl rfl rfl)<|am uq rfl lL rfl (ht rfl) hI<|zo rfl (je 2 pD rfl rfl rfl)<|am fU rfl wn rfl (ht rfl) hI<|aq<|bG<|aV ?_;exact ci (K (ac.mk (0:Int) (0:Int) (0:Int) v.S) h) (bD J)
        ·refine df<|bG ?_;refine cE J (ak (cE J (ak (cE J (ak (cE J (ak (cE J (ak (aV ?_))))))))));refine bI ?_;exact ci (K v h) (bD J)

theorem Bu(v:ac){R:Int}(h:ln v=some R):aR aU 111 [tD af v] (bM R):=by
 refine aR.of Tryz.func111 J J J fun w0 S0=>av<|zo J (gi J)<|zo J (bW)<|aq<|ah<|av<|zo J (bh au J J)<|bo h fun r q_r h=>zo J (ap abS (VC _ q_r) ⟨(ht J),aL⟩)<|zo J (bB (y:=d3) au gW aJ (J))<|zo J (Iq Cr (ht J) (ht J))<|aq<|ce h J (fun h=>?_) (fun h=>?_)
 ·refine av<|zo J (bW)<|aq<|aj<|ae ?_;cases so h;exact aH J J
 ·refine df<|av<|zo J (bW)<|aq<|aj ?_;cases so h;exact aH J J

theorem DY(v:ac){R:Bool}(h:mC v=some R):aR aU 182 [tD af v] (hJ R):=by
 refine aR.of Tryz.func182 J J J fun w0 S0=>av<|zo J (gi J)<|zo J (jU)<|aq<|av<|zo J (bh au J J)<|bo h fun r q_r h=>zo J (ap Lw (Bu _ q_r) ⟨(ht J),aL⟩)<|zo J (hM J)<|aE J<|co J J (fun hg=>bX cz br J J)<|co J J (fun hg=>bj cg J J (bm J hg))<|co J J (fun hg=>c9 (bm J hg) hI)<|zo J (pH J J)<|bg J<|aq<|aj ?_;cases so h;exact aH J J

theorem Vz(n:bC){R:Bool}(h:uP n=some R):aR aU 214 [tD bO n] (hJ R):=by
 refine aR.of Tryz.func214 J J J fun w0 S0=>av<|zo J (gi J)<|zo J (jU)<|aq<|ah<|av<|zo J (bX mS fz J J)<|zo J (bh cg J J)<|aq<|aC<|av<|zo J (hM J)<|bg J<|aq<|ce h J (fun h=>?_) (fun h=>?_)
 ·refine av<|zo J (bX vb lP J J)<|zo J (bh au J J)<|bo h fun r q_r h=>zo J (ap Po (DY _ q_r) ⟨(ht J),aL⟩)<|aE J<|co J J (fun hg=>bX qw iO J J)<|co J J (fun hg=>bj cg J J (bm J hg))<|co J J (fun hg=>cd (bm J hg) hI)<|zo J (pH J J)<|bg J<|aq<|aj ?_;refine aB (ae ?_);cases so h;exact aH J J
 ·refine av<|zo J (hM J)<|bg J<|aq<|ce h J (fun h=>?_) (fun h=>?_)
  ·refine av<|zo J (bX vb lP J J)<|zo J (bh au J J)<|zo J (bB (y:=d3) au gW aJ (J))<|zo J (pc Cr (ht J) (ht J))<|aE J<|co J J (fun hg=>bX qw iO J J)<|co J J (fun hg=>bj cg J J (bm J hg))<|co J J (fun hg=>gh (bm J hg) hI)<|zo J (pH J J)<|aE J<|co J J (fun hg=>bX qw iO J J)<|co J J (fun hg=>bj cg J J (bm J hg))<|co J J (fun hg=>dJ (bm J hg) hI)<|zo J (pH J J)<|bg J<|aq<|aj ?_;refine aB (ae ?_);cases so h;exact aH J J
  ·refine bA<|aw<|ax<|av<|zo rfl (bX vb lP rfl rfl)<|zo rfl (bh au rfl rfl)<|zo rfl (bB (y:=d3) au gW aJ (J))<|zo J (pc Cr (ht J) (ht J))<|aE J<|co J J (fun hg=>bX qw iO J J)<|co J J (fun hg=>bj cg J J (bm J hg))<|co J J (fun hg=>cd (bm J hg) hI)<|zo J (pH J J)<|bg J<|aq<|aj ?_;cases so h;exact aH J J

theorem V4(e:bS){R:(List Int)×Bool}(h:yg e=some R):aR aU 129 [tD ck e] (tT [mH R.1,hJ R.2]):=by
 refine aR.of Tryz.func129 J J J fun w0 S0=>av<|zo J (gi J)<|zo J (aT (show aO _ _ _ xB from kJ))<|zo J (jU)<|aq<|av<|ca false cj 3<|zo J (aT tg)<|ca false cj 3<|zo J (aT tg)<|aq<|ah<|av<|zo J (bX ku fQ J J)<|zo J (bh sQ J J)<|zo J (jw p6 J)<|zo J (bJ hI)<|aQ ?_;refine ax<|aC<|bp (k:=15) J fun hN=>bQ<|iq ?_;refine ba (LK (Z:=fun ls i all l c open1 l1 c1=>(e.Nodes.drop i=ls)∧kW ls i all open1=some R) (Of:=fun _ i all l c open1 l1 c1=>[fL cj 3 l c all,fL cj 3 l1 c1 open1]) (Gf:=fun _ i all l c open1 l1 c1=>[(4,sw l c all),(5,sw l1 c1 open1),(15,cq (bO) e.Nodes),(16,ky e.Nodes),(17,bM (i:Int))]) (fun i all l c open1 l1 c1 h=>?_) (fun e1 tl ih i all l c open1 l1 c1 h=>?_) e.Nodes 0 vn none 0 vn none 0 ⟨J,h⟩) (bD J)
 ·obtain⟨hx,h⟩:=h
  refine aG<|av<|zo J (fY J J)<|aq<|ah<|bL (ht J) (dO hx)<|bG ?_;refine ak (ak (aV ?_));refine ax<|av<|aE rfl<|aE rfl<|zo rfl (jB iv (.tail _ (.head _)) (ht rfl))<|zo rfl (hM rfl)<|aE rfl<|co rfl rfl (fun hg=>cX J)<|co J J (fun hg=>jB iv (.head _) (bm J hg))<|co J J (fun hg=>jZ (bm J hg) hI)<|zo J (pH J J)<|bg J<|bg J<|aq<|aj<|jS<|cP 4 J<|cP 84 J<|cP 2 J<|jT 2 J<|aZ<|aZ ?_;cases so h;exact cW J J J
 ·obtain⟨hx,h⟩:=h
  refine aG<|av<|zo J (fY J J)<|aq<|ah<|bK (ht J) (dL hx)<|df<|ah<|aC<|av<|aE J<|zo J (ne p6 lI J J J (dA hx))<|zo J (bh lI J J)<|aP (r:=bO) (x:=JC) lI (fun _=>qa _) J fun b=>bg J<|am lI J ai J (ht J) (ht J)<|aY 7 J<|aq<|ah ?_;refine aA<|zo J (bX mS fz J J)<|zo J (bh cg J J)<|bo h fun r q_r h=>zo J (ap Pn (DX _ q_r) ⟨(ht J),aL⟩)<|bg J<|aq<|ah<|av<|aE J<|zo J (dJ (ht J) hI)<|aE J<|dD J J (fun hg=>cX J)<|dD J J (fun hg=>cX J)<|dD J J (fun hg=>jB iv (.tail _ (.head _)) (bm J hg))<|dD J J (fun hg=>iz (bm J hg) (bm J hg))<|zo J (uo J J)<|aE J<|bo h fun t q_t h=>dD J J (fun hg=>bh lI J J) ?_
  obtain⟨r1,h1t,h0t⟩:=og q_t
  have q_r1g:=fun hb=>(h1t hb).1
  refine dD J J (fun hg=>ap abF (Vz _ (q_r1g hg)) ⟨(bm J hg),aL⟩)<|dD J J (fun hg=>cx (bm J hg))<|zo J (eO (ht J) (fun hb=>(bm J (qo hb))) (fun hb=>(h1t hb).2) h0t)<|aq<|ce h J (fun h=>?_) (fun h=>?_)
  ·refine av<|zo J (aT (show aO _ _ _ xB from kJ))<|zo J (jU)<|aq<|aj ?_;refine ae (aB (ae (ae (aB (ae ?_)))));refine aZ<|aZ ?_;cases so h;exact cW J J J
  ·refine df<|av<|aE J<|aE J<|zo J (jB iv (.tail _ (.head _)) (ht J))<|aE J<|zo J (ft (ht J) (ht J))<|bo h fun y q_y h=>zo J (n9 iv cg J (.tail _ (.head _)) (ht J) (ht J) q_y)<|nc (.tail _ (.head _)) q_y fun hv=>bg J<|aq<|av<|zo J (G1 (r:=cj) (ys:=[wd,wd]) (xs:=[.const (.int .i64 (-1)),.const (.int .i64 (-1))]) Tryz.underlying243 cg J JO J J ⟨hI,hI,aL⟩)<|aP (r:=(n8 cj 2)) (x:=(List.replicate 2 (0:Int))) JO (fun _=>BL (r:=cj) 2 (fun _=>J) _) J fun b1=>am JO J ai J (ht J) (ht J)<|aq<|av ?_;refine aE J<|bg J<|aq<|ah<|av<|aE J<|zo J (Uf iv (.tail _ (.tail _ (.head _))) q_y (ht J))<|zo J (bJ hI)<|aq<|aC ?_
   have hN1:=hv.2
   refine bQ<|pX<|pX ?_;refine ba (vS (Z:=fun ls1 i1 first at1=>(y.drop i1=ls1)∧mo (kW tl) i e1 all open1 r ls1 i1 first at1=some R) (Of:=fun _ i1 first at1=>[fL cj 3 l c all,fL cj 3 l1 c1 open1,bx (n8 cj 2) 243 b1 at1]) (Gf:=fun _ i1 first at1=>[(4,sw l c all),(5,sw l1 c1 open1),(6,bM (i:Int)),(7,bN bO e1),(8,bM r),(10,tV (aS b1 0)),(11,bM first),(15,cq (bO) e.Nodes),(16,ky e.Nodes),(17,bM (i:Int)),(46,tV (oQ 1 l1 c1 (IntKind.i64.wrap ((open1.length:Int)-r)).toNat y.length)),(47,ky y),(48,bM (i1:Int))]) (fun i1 first at1 h=>?_) (fun e2 tl1 ih1 i1 first at1 h=>?_) y 0 (i:Int) ([wd,wd]) ⟨J,h⟩) (bD J)
   ·obtain⟨hx1,h⟩:=h
    refine aG<|av<|zo J (fY J J)<|aq<|ah<|bL (ht J) (dO hx1)<|bG ?_;refine ak (ak (aV ?_));refine ax<|ah<|av<|zo rfl (bE JO rfl rfl bw (.tail _ (.tail _ (.head _))) (ht rfl))<|zo rfl (bX Fj t6 rfl rfl)<|zo rfl (bh cg rfl rfl)<|zo rfl (bX Co rk rfl rfl)<|zo rfl (bh cg rfl rfl)<|zo rfl (G1 (r:=cj) (ys:=[e1.L,e1.R]) (xs:=[.tmp 65,.tmp 67]) Tryz.underlying243 cg J JO J J ⟨(ht J),(ht J),aL⟩)<|zo J (Iq aav (ht J) (ht J))<|aq<|ce h J (fun h=>?_) (fun h=>?_)
    ·refine av<|zo J (aT (show aO _ _ _ xB from kJ))<|zo J (jU)<|aq<|aj ?_;refine ae (aB (ae (ae (aB (ae ?_)))));refine aZ<|aZ<|aZ ?_;cases so h;exact cW J J J
    ·refine df<|av<|aE J<|aE J<|zo J (bf (r:=cj) (ys:=[first]) (xs:=[.tmp 71]) iv cg J J J J J ⟨(ht J),aL⟩)<|bo h fun all1 q_all1 h=>cV cg J J J J iv J J (ht J) (ht J) q_all1 fun l2 c2=>bg J<|aq<|aA<|aE J<|aE J<|zo J (jB iv (.tail _ (.head _)) (ht J))<|aE J<|zo J (ft (ht J) (ht J))<|bo h fun y1 q_y1 h=>zo J (lx iv cg J (.tail _ (.head _)) (ht J) (ht J) q_y1)<|aE J<|zo J (bf (r:=cj) (ys:=[(i:Int)]) (xs:=[.tmp 80]) iv cg J J J J J ⟨(ht J),aL⟩)<|bq<|wT q_y1 ?_;refine bo h fun open2 q_open2 h=>cV cg J J J J iv J J (ht J) (ht J) q_open2 fun l3 c3=>bg J<|aQ<|aw<|ax<|aA<|zo rfl (nf (dd hx hN) rfl)<|aE rfl<|aQ<|aM<|aZ<|bI ?_;exact bn (ba (ih (i+1) all1 l2 c2 open2 l3 c3 ⟨dc hx,h⟩) (bD J))
   ·obtain⟨hx1,h⟩:=h
    refine aG<|av<|zo J (fY J J)<|aq<|ah<|bK (ht J) (dL hx1)<|df<|ah<|aC<|av<|aE J<|zo J (Gi iv cg J (.tail _ (.head _)) q_y (ht J) (ht J) (dA hx1))<|zo J (fJ (r:=cj) (i:=((IntKind.i64.wrap ((open1.length:Int)-r))+(i1:Int))) (foff:=0) cg J J bw J (.tail _ (.head _)) (Es q_y (dA hx1)).1 (ht J))<|bg J<|bg J<|aq<|bo h fun e3 q_e3 h=>bo h fun e4 q_e4 h=>bo h fun ar q_ar h=>?_
    refine oy 10 [tc (bM (i1:Int)),tc (bM e2),tc (bM first),tc (sw l c all),tc (bM e2),tc (tV (p8 l (e2.toNat*1+0))),tc (bM e3),tc (bM (min first e3)),tc (tV (aS b1 ((i1:Int).toNat*1))),tc (AX)] [false,false,false,false,false,false,false,false,false,true] [fun _=>[fL cj 3 l c all,fL cj 3 l1 c1 open1,bx (n8 cj 2) 243 b1 at1],fun sg=>[bx (n8 cj 2) 243 b1 ar,fL cj 3 l c all,fL cj 3 l1 c1 open1]] J mixed J J J J J
     ⟨⟨[⟨12,fun _=>tD cj (i1:Int),none⟩],_,0,0,J,⟨(fun _=>J),aL⟩,J,J,J,J,J,fun _ sg _ _=>aD J (cX J)⟩,
     ⟨⟨[⟨13,fun _=>tD cj e2,none⟩],_,0,0,J,⟨(fun _=>J),aL⟩,J,J,J,J,J,fun _ sg _ _=>aD J (cX J)⟩,
     ⟨⟨[⟨11,fun _=>tD cj first,none⟩],_,0,1,J,⟨(fun _=>J),aL⟩,J,J,J,J,J,fun _ sg _ _=>aD J (cX J)⟩,
     ⟨⟨[⟨4,fun _=>tV (bc l c all.length),none⟩],_,0,1,J,⟨(fun _=>J),aL⟩,J,J,J,J,J,fun _ sg _ _=>aD J (cX J)⟩,
     ⟨⟨[⟨13,fun _=>tD cj e2,none⟩],_,0,1,J,⟨(fun _=>J),aL⟩,J,J,J,J,J,fun _ sg _ _=>aD J (cX J)⟩,
     ⟨⟨[⟨56,fun _=>tV (bc l c all.length),some 3⟩,⟨57,fun _=>tD cj e2,some 4⟩],_,0,1,J,⟨(fun _=>J),(fun _=>J),aL⟩,J,J,J,J,J,F3 (fun sg=>aD J (cB iv cg (.head _) (ht J) (ht J) q_e3)) (z7 (fun sg=>aD J (cB iv cg (.tail _ (.head _)) (ht J) (ht J) q_e3)))⟩,
     ⟨⟨[⟨58,fun _=>tV (p8 l (e2.toNat*1+0)),some 5⟩],_,0,1,J,⟨(fun _=>J),aL⟩,J,J,J,J,J,F3 (fun sg=>aD J (fJ (r:=cj) (i:=e2) (foff:=0) cg J J bw J (.head _) q_e3 (ht J))) (z7 (fun sg=>aD J (fJ (r:=cj) (i:=e2) (foff:=0) cg J J bw J (.tail _ (.head _)) q_e3 (ht J))))⟩,
     ⟨⟨[⟨55,fun _=>tD cj first,some 2⟩,⟨59,fun _=>tD cj e3,some 6⟩],_,0,1,J,⟨(fun _=>J),(fun _=>J),aL⟩,J,J,J,J,J,fun _ sg _ _=>aD J (Oe (ht J) (ht J))⟩,
     ⟨⟨[⟨10,fun _=>tV (aS b1 0),none⟩,⟨53,fun _=>tD cj (i1:Int),some 0⟩],_,0,0,J,⟨(fun _=>J),(fun _=>J),aL⟩,J,J,J,J,J,z7 (fun sg=>aD J (Gh Tryz.underlying243 cg (.tail _ (.tail _ (.head _))) (ht J) (ht J) q_e4))⟩,
     ⟨⟨[⟨61,fun _=>tV (aS b1 ((i1:Int).toNat*1)),some 8⟩,⟨54,fun _=>tD cj e2,some 1⟩],_,J,⟨(fun _=>J),(fun _=>J),aL⟩,J,J,J,fun sg=>eF J (EffOK.fr2 (Np cg J q_e4 (so q_ar) (ht J) (ht J)))⟩,
     aL⟩⟩⟩⟩⟩⟩⟩⟩⟩⟩ (fun sg=>?_)
    refine(show RG _ _ _ _ [bx (n8 cj 2) 243 b1 ar,fL cj 3 l c all,fL cj 3 l1 c1 open1] _ from ?_);refine bg J<|aQ<|aw<|ax<|aA<|zo rfl (nf (dd hx1 hN1) rfl)<|aE rfl<|aQ<|aM<|aM ?_;exact bn (ba (ih1 (i1+1) (min first e3) ar ⟨dc hx1,h⟩) (bD J))

end Go.Proofs.YtfhhakidodmdfaaGreatDoor

