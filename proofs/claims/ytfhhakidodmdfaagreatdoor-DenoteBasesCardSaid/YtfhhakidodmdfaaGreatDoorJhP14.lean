/- cX of this claim: P14. -/
import Derived.Test.YtfhhakidodmdfaaGreatDoorJhT
import Derived.Test.YtfhhakidodmdfaaGreatDoorJhP13
set_option linter.all false
namespace Go.Proofs.YtfhhakidodmdfaaGreatDoor
open Go
set_option maxRecDepth 100000

theorem JS(t:bw){R:Int}(h:jb t=some R):aN aJ 164 [tD cS t] (bu R):=by
 refine aN.of Tryz.func164 J J J fun w0 S0=>ap<|zo J (ff J)<|zo J (bO)<|al<|ap<|zo J (bS su lW J J)<|zo J (bn sQ J J)<|bp h fun r q_r h=>zo J (ax Hw (A1 _ q_r) ⟨(ht J),aP⟩)<|aB J<|cd J J (fun hg=>bS iy ew J J)<|cd J J (fun hg=>bj m9 J J (bk J hg))<|cd J J (fun hg=>cD nH (bk J hg))<|cd J J (fun hg=>dU (bk J hg) hI)<|zo J (ms J J)<|aB J<|cd J J (fun hg=>bS iy ew J J)<|cd J J (fun hg=>bj m9 J J (bk J hg))<|cd J J (fun hg=>cD nH (bk J hg))<|cd J J (fun hg=>gH (bk J hg) hI) ?_;refine zo J (ms J J)<|aB J<|bp h fun t1 q_t1 h=>cd J J (fun hg=>bS iy ew J J)<|cd J J (fun hg=>bj m9 J J (bk J hg)) ?_
 obtain⟨r1,h1t1,h0t1⟩:=og q_t1
 have q_r1g:=fun hb=>(h1t1 hb).1
 refine cd J J (fun hg=>ax OJ (Jr _ _ (q_r1g hg)) ⟨(bk J hg),(sr OH fun x y h=>Jq _ h),aP⟩)<|zo J (cJ (ht J) (fun hb=>(bk J hb)) (fun hb=>(h1t1 hb).2) h0t1)<|ba J<|al<|ae<|ap<|zo J (bS iy ew J J)<|zo J (bn m9 J J)<|zo J (eH nH J)<|zo J (br hI)<|al<|au<|aU (k:=29) J fun hN=>bo ?_;refine aI (jk (Z:=fun ls i ok=>(t.Columns.drop i=ls)∧eD t ls ok=some R) (Of:=fun _ i ok=>[]) (Gf:=fun _ i ok=>[(1,bv cS t),(3,er ok),(29,bK (dm) t.Columns),(30,fC t.Columns),(31,bu (i:Int))]) (fun i ok h=>?_) (fun e tl ih i ok h=>?_) t.Columns 0 t1 ⟨J,h⟩) (bh J)
 ·obtain⟨hx,h⟩:=h
  refine aw<|ap<|zo J (dC J J)<|al<|ae<|bm (ht J) (cx hx)<|be ?_;refine af (af (aE ?_));refine ak<|ae<|ap<|zo rfl (bS o3 jR rfl rfl)<|zo rfl (bn c0 rfl rfl)<|zo rfl (eH ed rfl)<|zo rfl (br hI)<|al<|au<|aU (k:=44) J fun hN1=>bo ?_;refine aI (jk (Z:=fun ls1 i1 ok1=>(t.Keys.drop i1=ls1)∧dV t ls1 i1 ok1=some R) (Of:=fun _ i1 ok1=>[]) (Gf:=fun _ i1 ok1=>[(1,bv cS t),(3,er ok1),(44,iA t.Keys),(45,fC t.Keys),(46,bu (i1:Int))]) (fun i1 ok1 h=>?_) (fun e1 tl1 ih1 i1 ok1 h=>?_) t.Keys 0 ok ⟨J,h⟩) (bh J)
  ·obtain⟨hx1,h⟩:=h
   refine aw<|ap<|zo J (dC J J)<|al<|ae<|bm (ht J) (cx hx1)<|be ?_;refine af (af (aE ?_));refine ak<|ae<|ap<|aB rfl<|zo rfl (cH (ht rfl))<|al<|bX h rfl (fun h=>?_) (fun h=>?_)
   ·refine ap<|zo J (bO)<|al<|ai<|aa ?_;cases so h;exact ay J J
   ·refine cF<|ap<|zo J (bO)<|al<|ai ?_;cases so h;exact ay J J
  ·obtain⟨hx1,h⟩:=h
   refine aw<|ap<|zo J (dC J J)<|al<|ae<|bl (ht J) (cw hx1)<|cF<|ae<|au<|ap<|aB J<|zo J (gw ed bP J J J (ci hx1))<|zo J (bn bP J J)<|ba J<|ba J<|al<|an<|aB J<|aB J ?_;refine cd J J (fun hg=>cr J)<|cd J J (fun hg=>dU (bk J hg) hI)<|zo J (ms J J)<|aB J<|cd J J (fun hg=>cr J)<|cd J J (fun hg=>bS iy ew J J)<|cd J J (fun hg=>bj m9 J J (bk J hg))<|cd J J (fun hg=>cD nH (bk J hg))<|cd J J (fun hg=>dO (bk J hg) (bk J hg))<|zo J (ms J J)<|aB J<|bp h fun t2 q_t2 h=>cd J J (fun hg=>cr J)<|cd J J (fun hg=>cA (bk J hg) hI)<|cd J J (fun hg=>br (bk J hg)) ?_
   obtain⟨t3,h1t2,h0t2⟩:=og q_t2
   have q_t3g:=fun hb=>(h1t2 hb).1
   refine fI J J J J (fun hg=>bS o3 jR J J)<|fI J J J J (fun hg=>bj c0 J J (bk J hg))<|fI J J J J (fun hg=>cr J)<|fI J J J J (fun hg=>eZ (bk J hg) hI) ?_
   obtain⟨e2,h1t3,h0t3⟩:=PU q_t3g
   have q_e2g:=fun hb=>(h1t3 hb).1
   refine fI J J J J (fun hg=>bf ed bP J (bk J hg) (bk J hg) (q_e2g hg))<|fI J J J J (fun hg=>bj bP J J (bk J hg))<|fI J J J J (fun hg=>cr J)<|fI J J J J (fun hg=>dO (bk J hg) (bk J hg))<|cd J J (fun hg=>dy (bk J hg) (fun hb=>(bk J (q5 hg (mU hb)))) (fun hb=>(h1t3 (q5 hg hb)).2) (fun hb=>h0t3 hg hb))<|zo J (cJ (ht J) (fun hb=>(bk J hb)) (fun hb=>(h1t2 hb).2) h0t2)<|ba J<|aL<|aj<|ak<|an<|zo rfl (iq (bW hx1 hN1) rfl)<|aB rfl<|aL ?_;exact aT (aI (ih1 (i1+1) t2 ⟨bV hx1,h⟩) (bh J))
 ·obtain⟨hx,h⟩:=h
  refine aw<|ap<|zo J (dC J J)<|al<|ae<|bl (ht J) (cw hx)<|cF<|ae<|au<|ap<|zo J (gw nH iB J J J (ci hx))<|zo J (bn iB J J)<|aV (r:=dm) (x:=Ga) iB (fun _=>pu _) J fun b=>av iB J am J (ht J) (ht J)<|aS 5 J<|al<|an<|aB J<|aB J ?_;refine bp h fun t4 q_t4 h=>cd J J (fun hg=>bS wS oZ J J)<|cd J J (fun hg=>bj bP J J (bk J hg)) ?_
  obtain⟨r2,h1t4,h0t4⟩:=og q_t4
  have q_r2g:=fun hb=>(h1t4 hb).1
  refine cd J J (fun hg=>ax OG (Jp _ (q_r2g hg)) ⟨(bk J hg),aP⟩)<|cd J J (fun hg=>El (bk J hg) hS)<|zo J (cJ (ht J) (fun hb=>(bk J hb)) (fun hb=>(h1t4 hb).2) h0t4)<|ba J<|aL<|aj<|ak<|an<|zo rfl (iq (bW hx hN) rfl)<|aB rfl<|aL ?_;exact aT (aI (ih (i+1) t4 ⟨bV hx,h⟩) (bh J))

theorem JT(t:bw){R:Bool}(h:gS t=some R):aN aJ 163 [tD cS t] (er R):=by
 refine aN.of Tryz.func163 J J J fun w0 S0=>ap<|zo J (ff J)<|zo J (ef)<|al<|ap<|zo J (bn jw J J)<|bp h fun r q_r h=>zo J (ax Pr (JS _ q_r) ⟨(ht J),aP⟩)<|zo J (pt J)<|ba J<|al<|ai ?_;cases so h;exact ay J J

theorem EH(s:(List bw))(f:(bw→Option Bool)){R:Int}(h:cL s f=some R):aN aJ 250 [bK (cS) s,(cB aJ ub ib (fun(x:bw)=>f x))] (bu R):=by
 refine aN.of Tryz.func250 J J J fun w0 S0=>ap<|zo J (bO)<|al<|ae<|ap<|aB J<|zo J (eH o9 J)<|zo J (br hI)<|al<|au<|aU (k:=6) J fun hN=>bo ?_;refine aI (cN (Z:=fun ls i=>(s.drop i=ls)∧bE f ls i=some R) (Of:=fun _ i=>[]) (Gf:=fun _ i=>[(0,bK (cS) s),(1,(cB aJ ub ib (fun(x:bw)=>f x))),(7,fC s),(8,bu (i:Int))]) (fun i h=>?_) (fun e tl ih i h=>?_) s 0 ⟨J,h⟩) (bh J)
 ·obtain⟨hx,h⟩:=h
  refine aw<|ap<|zo J (dC J J)<|al<|ae<|bm (ht J) (cx hx)<|be ?_;refine af (af (aE ?_));refine ak<|ap<|zo rfl (bO)<|al<|ai ?_;cases so h;exact ay J J
 ·obtain⟨hx,h⟩:=h
  refine aw<|ap<|zo J (dC J J)<|al<|ae<|bl (ht J) (cw hx)<|cF<|ae<|au<|ap<|aB J<|ba J<|al<|ap<|aB J<|aB J<|aB J<|zo J (gw o9 jw J J J (ci hx)) ?_;refine zo J (bn jw J J)<|bp h fun r q_r h=>zo J (dz (args:=ub) (res:=yH) (f:=(fun(x:bw)=>f x)) (x:=((e):bw)) (ht J) q_r ⟨(ht J),aP⟩)<|al<|bX h J (fun h=>?_) (fun h=>?_)
  ·refine ap<|aB J<|ba J<|al<|ai ?_;refine aq (aa (aa (aq (aa ?_))));cases so h;exact ay J J
  ·refine bi<|aj<|ak<|an<|zo rfl (iq (bW hx hN) rfl)<|aB rfl<|aL ?_;exact aT (aI (ih (i+1) ⟨bV hx,h⟩) (bh J))

theorem JR(s:(List bw))(f:(bw→Option Bool)){R:Bool}(h:d3 s f=some R):aN aJ 165 [bK (cS) s,(cB aJ ub ib (fun(x:bw)=>f x))] (er R):=by
 refine aN.of Tryz.func165 J J J fun w0 S0=>ap<|zo J (ef)<|al<|ap<|aB J<|aB J<|bp h fun r q_r h=>zo J (ax KW (EH _ _ q_r) ⟨(ht J),(ht J),aP⟩)<|zo J (dU (ht J) hI)<|ba J<|al<|ai ?_;cases so h;exact ay J J

theorem IY(of:(bw→Option eA))(name:eA)(p:bw){R:Bool}(h:dR of name p=some R):aN aJ 318 [tD cS p,bv (rT ((cB aJ ub sJ (fun(x:bw)=>of x)))) (),bv rS name] (er R):=by
 refine aN.of Tryz.func318 J J J fun w0 S0=>ap<|zo J (ff J)<|zo J (ef)<|al<|ae<|bp h fun r q_r h=>?_
 refine bZ (ts:=[_,_,_,_,_,_]) mixed J J
  ⟨dp 1 J J J (mJ MY (ht J)),
  ⟨dp 3 J J J (bn jw J J),
  ⟨cO 5 0 6 1 J J J J (dz (args:=ub) (res:=sJ) (f:=(fun(x:bw)=>of x)) (x:=((p):bw)) (ht J) q_r ⟨(ht J),aP⟩),
  ⟨dp 2 J J J (bn sQ J J),
  ⟨cO 7 2 8 3 J J J J (lk (ht J) (ht J)),
  ⟨bH 9 4 J J J (pe J),
  aP⟩⟩⟩⟩⟩⟩ ?_
 refine ak<|ai ?_;cases so h;exact ay J J

theorem Jo(l:(List bw))(of:(bw→Option eA))(name:eA){R:Int×Bool}(h:gn l of name=some R):aN aJ 251 [bK (cS) l,(cB aJ ub sJ (fun(x:bw)=>of x)),tD rS name] (tT [bu R.1,er R.2]):=by
 refine aN.of Tryz.func251 J J J fun w0 S0=>ap<|zo J (sk (ht J))<|zo J (ff J)<|zo J (bO)<|zo J (ef)<|al<|ap<|aB J<|zo J ((show bB _ _ _ _ ((cB aJ ub ib (fun(x:bw)=>(dR of name) x)))from eB (cts:=[bv (rT ((cB aJ ub sJ (fun(x:bw)=>of x)))) (),bv rS name]) (caps:=[.tmp 4,.tmp 5]) N6 ⟨(ht J),(ht J),aP⟩ (fun x y h=>IY _ _ _ h)))<|bp h fun r q_r h=>zo J (ax KW (EH _ _ q_r) ⟨(ht J),(ht J),aP⟩)<|ba J<|al<|ap<|aB J<|zo J (wP (ht J) hI)<|aB J<|zo J (dU (ht J) hI) ?_;refine ba J<|ba J<|al<|ai ?_;cases so h;exact ca J J J

theorem JQ(l:(List bw))(of:(bw→Option eA)){R:Bool}(h:ja l of=some R):aN aJ 166 [bK (cS) l,(cB aJ ub sJ (fun(x:bw)=>of x))] (er R):=by
 refine aN.of Tryz.func166 J J J fun w0 S0=>ap<|zo J (ef)<|al<|ae<|ap<|aB J<|zo J (eH o9 J)<|zo J (br hI)<|al<|au<|aU (k:=9) J fun hN=>bo ?_;refine aI (cN (Z:=fun ls i=>(l.drop i=ls)∧ep l of ls i=some R) (Of:=fun _ i=>[]) (Gf:=fun _ i=>[(0,bK (cS) l),(1,(cB aJ ub sJ (fun(x:bw)=>of x))),(9,bK (cS) l),(10,fC l),(11,bu (i:Int))]) (fun i h=>?_) (fun e tl ih i h=>?_) l 0 ⟨J,h⟩) (bh J)
 ·obtain⟨hx,h⟩:=h
  refine aw<|ap<|zo J (dC J J)<|al<|ae<|bm (ht J) (cx hx)<|be ?_;refine af (af (aE ?_));refine ak<|ap<|zo rfl (ef)<|al<|ai ?_;cases so h;exact ay J J
 ·obtain⟨hx,h⟩:=h
  refine aw<|ap<|zo J (dC J J)<|al<|ae<|bl (ht J) (cw hx)<|cF<|ae<|au<|ap<|aB J<|zo J (gw o9 jw J J J (ci hx))<|zo J (bn jw J J)<|aV (r:=cS) (x:=Lh) jw (fun _=>xh _) J fun b=>ba J<|av jw J am J (ht J) (ht J)<|aS 6 J<|al<|ae ?_;refine an<|aB J<|aB J<|aB J<|zo J (bn jw J J)<|bp h fun r q_r h=>zo J (dz (args:=ub) (res:=sJ) (f:=(fun(x:bw)=>of x)) (x:=((e):bw)) (ht J) q_r ⟨(ht J),aP⟩)<|bp h fun r1 q_r1 h=>zo J (ax OF (Jo _ _ _ q_r1) ⟨(ht J),(ht J),(ht J),aP⟩)<|aB J<|zo J (eT J J)<|zo J (eT J J)<|ba J<|ba J<|al<|ap<|aB J<|aB J<|zo J (dc (ht J) (ht J))<|aB J<|bp h fun t q_t h=>dv J J (fun hg=>cr J) ?_;refine dv J J (fun hg=>bn jw J J) ?_
  obtain⟨r2,h1t,h0t⟩:=og q_t
  have q_r2g:=fun hb=>(h1t hb).1
  refine dv J J (fun hg=>dz (args:=ub) (res:=sJ) (f:=(fun(x:bw)=>of x)) (x:=((e):bw)) (bk J hg) (q_r2g hg) ⟨(bk J hg),aP⟩) ?_
  obtain⟨r3,h1t⟩:=Ep (fun hb=>(h1t hb).2)
  have q_r3g:=fun hb=>(h1t hb).1
  refine dv J J (fun hg=>ax Hw (A1 _ (q_r3g hg)) ⟨(bk J hg),aP⟩)<|dv J J (fun hg=>cH (bk J hg))<|zo J (dy (ht J) (fun hb=>(bk J (mU hb))) (fun hb=>(h1t hb).2) h0t)<|al<|bX h J (fun h=>?_) (fun h=>?_)
  ·refine ap<|zo J (ef)<|al<|ai ?_;refine aq (aa (aa (aq (aa ?_))));cases so h;exact ay J J
  ·refine bi<|aj<|ak<|an<|zo rfl (iq (bW hx hN) rfl)<|aB rfl<|aL ?_;exact aT (aI (ih (i+1) ⟨bV hx,h⟩) (bh J))

theorem JP(t:bw){R:eA}(h:dY t=some R):aN aJ 167 [tD cS t] (tD rS R):=by
 refine aN.of Tryz.func167 J J J fun w0 S0=>ap<|zo J (ff J)<|zo J (aD hS)<|al<|ap<|zo J (bS su lW J J)<|zo J (bn sQ J J)<|ba J<|al<|ai ?_;cases so h;exact ay J J

theorem L0(c:cY){R:Int}(h:mA c=some R):aN aJ 99 [tD fU c] (bu R):=by
 refine aN.of Tryz.func99 J J J fun w0 S0=>ap<|zo J (ff J)<|zo J (bO)<|al<|ap<|zo J (aD (show aH _ _ _ ((cB aJ ub ib (fun(x:bw)=>gS x)))from(sr Ps fun x y h=>JT _ h)))<|al<|ae<|ap<|zo J (bS kg du J J)<|zo J (bn sK J J)<|zo J (eH o9 J)<|zo J (eb (ht J) hI)<|aB J<|bp h fun t q_t h=>dv J J (fun hg=>bS kg du J J)<|dv J J (fun hg=>bj sK J J (bk J hg))<|dv J J (fun hg=>cr J) ?_
 obtain⟨r,h1t,h0t⟩:=og q_t
 have q_rg:=fun hb=>(h1t hb).1
 refine dv J J (fun hg=>ax Pq (JR _ _ (q_rg hg)) ⟨(bk J hg),(bk J hg),aP⟩)<|zo J (dy (ht J) (fun hb=>(bk J (mU hb))) (fun hb=>(h1t hb).2) h0t)<|aB J<|bp h fun t1 q_t1 h=>dv J J (fun hg=>bS kg du J J)<|dv J J (fun hg=>bj sK J J (bk J hg)) ?_
 obtain⟨r1,h1t1,h0t1⟩:=og q_t1
 have q_r1g:=fun hb=>(h1t1 hb).1
 refine dv J J (fun hg=>ax Pp (JQ _ _ (q_r1g hg)) ⟨(bk J hg),(sr Po fun x y h=>JP _ h),aP⟩)<|dv J J (fun hg=>cH (bk J hg))<|zo J (dy (ht J) (fun hb=>(bk J (mU hb))) (fun hb=>(h1t1 hb).2) h0t1)<|al<|bX h J (fun h=>?_) (fun h=>?_)
 ·refine ap<|zo J (bO)<|al<|ai<|aa ?_;cases so h;exact ay J J
 ·refine cF<|ap<|zo J (bO)<|al<|ai ?_;cases so h;exact ay J J

theorem Md(c:cY)(b:eU){R:Int}(h:kb c b=some R):aN aJ 43 [tD fU c,tD fN b] (bu R):=by
 refine aN.of Tryz.func43 J J J fun w0 S0=>ap<|zo J (ff J)<|zo J (ff J)<|zo J (bO)<|al<|ae<|ap<|zo J (bn Fl J J)<|bp h fun r q_r h=>zo J (ax Qu (L0 _ q_r) ⟨(ht J),aP⟩)<|ba J<|al<|ap<|aB J<|zo J (pt J)<|al<|bX h J (fun h=>?_) (fun h=>?_)
 ·refine ap<|aB J<|ba J<|al<|ai<|aa ?_;cases so h;exact ay J J
 ·refine cF<|ae<|ap<|zo J (bS qo ka J J)<|zo J (bn oL J J)<|zo J (eH jH J)<|zo J (bS kg du J J)<|zo J (bn sK J J)<|zo J (eH o9 J)<|zo J (dc (ht J) (ht J))<|al<|bX h J (fun h=>?_) (fun h=>?_)
  ·refine ap<|zo J (bO)<|al<|ai<|aa ?_;cases so h;exact ay J J
  ·refine cF<|ae<|ap<|zo J (bS kg du J J)<|zo J (bn sK J J)<|zo J (eH o9 J)<|zo J (br hI)<|al<|au<|aU (k:=24) J fun hN=>bo ?_;refine aI (cN (Z:=fun ls i=>(c.Tables.drop i=ls)∧ez b ls i=some R) (Of:=fun _ i=>[]) (Gf:=fun _ i=>[(3,bv fN b),(24,bK (cS) c.Tables),(25,fC c.Tables),(26,bu (i:Int))]) (fun i h=>?_) (fun e tl ih i h=>?_) c.Tables 0 ⟨J,h⟩) (bh J)
   ·obtain⟨hx,h⟩:=h
    refine aw<|ap<|zo J (dC J J)<|al<|ae<|bm (ht J) (cx hx)<|be ?_;refine af (af (aE ?_));refine ak<|ap<|zo rfl (bO)<|al<|ai ?_;cases so h;exact ay J J
   ·obtain⟨hx,h⟩:=h
    refine aw<|ap<|zo J (dC J J)<|al<|ae<|bl (ht J) (cw hx)<|cF<|ae<|au<|ap<|aB J<|zo J (gw o9 jw J J J (ci hx))<|zo J (bn jw J J)<|aV (r:=cS) (x:=Lh) jw (fun _=>xh _) J fun b1=>ba J<|av jw J am J (ht J) (ht J)<|aS 7 J<|al<|ae ?_;refine an<|bA false bI 3<|zo J (aD mZ)<|al<|ae<|ap<|zo J (bS iy ew J J)<|zo J (bn m9 J J)<|zo J (eH nH J)<|zo J (br hI)<|al<|au<|aU (k:=32) J fun hN1=>bo ?_;refine aI (gb (Z:=fun ls1 i1 kinds l c1=>(e.Columns.drop i1=ls1)∧fh b (ez b tl) i ls1 kinds=some R) (Of:=fun _ i1 kinds l c1=>[dJ bI 3 l c1 kinds]) (Gf:=fun _ i1 kinds l c1=>[(3,bv fN b),(6,bu (i:Int)),(8,mp l c1 kinds),(24,bK (cS) c.Tables),(25,fC c.Tables),(26,bu (i:Int)),(32,bK (dm) e.Columns),(33,fC e.Columns),(34,bu (i1:Int))]) (fun i1 kinds l c1 h=>?_) (fun e1 tl1 ih1 i1 kinds l c1 h=>?_) e.Columns 0 nL none 0 ⟨J,h⟩) (bh J)
    ·obtain⟨hx1,h⟩:=h
     refine aw<|ap<|zo J (dC J J)<|al<|ae<|bm (ht J) (cx hx1)<|be ?_;refine af (af (aE ?_));refine ak<|ap<|zo rfl (bS qo ka rfl rfl)<|zo rfl (bn oL rfl rfl)<|aB rfl<|bp h fun e2 q_e2 h=>zo J (gw jH eu J J J q_e2)<|zo J (bn eu J J)<|aB J<|eP<|dZ 8 J<|dZ 49 J<|bp h fun r1 q_r1 h=>zo J (ax Nu (GU _ _ q_r1) ⟨(ht J),(gz (ht J)),aP⟩)<|zo J (cH (ht J))<|al<|bX h J (fun h=>?_) (fun h=>?_)
     ·refine ap<|zo J (bO)<|al<|ai ?_;refine aq (aa (aa (aq (aa ?_))));refine aY ?_;cases so h;exact ay J J
     ·refine bi<|aj<|ak<|an<|zo rfl (iq (bW hx hN) rfl)<|aB rfl<|aL<|aY ?_;exact aT (aI (ih (i+1) ⟨bV hx,h⟩) (bh J))
    ·obtain⟨hx1,h⟩:=h
     refine aw<|ap<|zo J (dC J J)<|al<|ae<|bl (ht J) (cw hx1)<|cF<|ae<|au<|ap<|zo J (gw nH iB J J J (ci hx1))<|zo J (bn iB J J)<|aV (r:=dm) (x:=Ga) iB (fun _=>pu _) J fun b2=>av iB J am J (ht J) (ht J)<|aS 10 J<|al<|an<|aB J<|zo J (bS wS oZ J J) ?_;refine zo J (bn bP J J)<|zo J (aR (r:=bI) (ys:=[e1.Kind]) (xs:=[.tmp 40]) ed bP J J J J J ⟨(ht J),aP⟩)<|bp h fun kinds1 q_kinds1 h=>cg bP J J J J ed J J (ht J) (ht J) q_kinds1 fun l1 c2=>ba J<|aL<|aj<|ak<|an<|zo rfl (iq (bW hx1 hN1) rfl)<|aB rfl<|aL ?_;exact aT (aI (ih1 (i1+1) kinds1 l1 c2 ⟨bV hx1,h⟩) (bh J))

theorem AZ(c:Int){R:Bool}(h:mH c=some R):aN aJ 252 [tD (rI .u8) c] (er R):=by
 refine aN.of Tryz.func252 J J J fun w0 S0=>ap<|zo J (ef)<|al<|ap<|aB J<|zo J (dU (ht J) hI)<|aB J<|cd J J (fun hg=>cr J)<|cd J J (fun hg=>gH (bk J hg) hI)<|zo J (ms J J)<|ba J<|al<|ai ?_;cases so h;exact ay J J

theorem IX(l:(List eA))(s:eA){R:Bool}(h:vo l s=some R):aN aJ 319 [bK (rS) l,tD rS s] (er R):=by
 refine aN.of Tryz.func319 J J J fun w0 S0=>ap<|zo J (ef)<|al<|ae<|ap<|zo J (bO)<|al<|au<|aU (k:=0) J fun hN=>bo ?_;refine aI (cN (Z:=fun ls i=>(l.drop i=ls)∧li s ls=some R) (Of:=fun _ i=>[]) (Gf:=fun _ i=>[(0,bK (rS) l),(1,tD rS s),(5,bu (i:Int))]) (fun i h=>?_) (fun e tl ih i h=>?_) l 0 ⟨J,h⟩) (bh J)
 ·obtain⟨hx,h⟩:=h
  refine aw<|ae<|ap<|aB J<|aB J<|zo J (eH Fa J)<|zo J (dC J J)<|al<|bm (ht J) (cx hx)<|be ?_;refine af (af (aE ?_));refine ak<|ap<|zo rfl (ef)<|al<|ai ?_;cases so h;exact ay J J
 ·obtain⟨hx,h⟩:=h
  refine aw<|ae<|ap<|aB J<|aB J<|zo J (eH Fa J)<|zo J (dC J J)<|al<|bl (ht J) (cw hx)<|cF<|ae<|au<|ap<|aB J<|aB J<|zo J (gw Fa sQ J J J (ci hx))<|zo J (bn sQ J J)<|aB J<|zo J (lk (ht J) (ht J))<|aL ?_;refine ak<|bX h rfl (fun h=>?_) (fun h=>?_)
  ·refine ap<|zo J (ef)<|al<|ai ?_;refine aq (aa (aa (aq (aa ?_))));cases so h;exact ay J J
  ·refine bi<|aj<|ak<|an<|aB rfl<|zo rfl (iq (bW hx hN) rfl)<|ba rfl<|aL ?_;exact aT (aI (ih (i+1) ⟨bV hx,h⟩) (bh J))

theorem GZ{R:(List eA)}(h:ry=some R):d4 aJ 320 [] false rS 9 R:=by
 refine d4.of Tryz.func320 J J J fun w0 S0=>ap<|bA false rS 9<|zo J (aD mZ)<|al<|ap<|fJ (r:=rS) (ys:=[[83,69,76,69,67,84],[68,73,83,84,73,78,67,84],[70,82,79,77],[76,69,70,84],[74,79,73,78],[79,78],[87,72,69,82,69],[71,82,79,85,80],[66,89],[72,65,86,73,78,71],[85,78,73,79,78],[65,76,76],[79,82,68,69,82],[76,73,77,73,84],[65,83,67],[68,69,83,67],[65,83],[65,78,68],[79,82],[78,79,84],[73,83],[78,85,76,76],[84,82,85,69],[70,65,76,83,69],[67,79,85,78,84],[83,85,77],[77,73,78],[77,65,88]]) (xs:=[.const (.string ⟨#[83,69,76,69,67,84]⟩),.const (.string ⟨#[68,73,83,84,73,78,67,84]⟩),.const (.string ⟨#[70,82,79,77]⟩),.const (.string ⟨#[76,69,70,84]⟩),.const (.string ⟨#[74,79,73,78]⟩),.const (.string ⟨#[79,78]⟩),.const (.string ⟨#[87,72,69,82,69]⟩),.const (.string ⟨#[71,82,79,85,80]⟩),.const (.string ⟨#[66,89]⟩),.const (.string ⟨#[72,65,86,73,78,71]⟩),.const (.string ⟨#[85,78,73,79,78]⟩),.const (.string ⟨#[65,76,76]⟩),.const (.string ⟨#[79,82,68,69,82]⟩),.const (.string ⟨#[76,73,77,73,84]⟩),.const (.string ⟨#[65,83,67]⟩),.const (.string ⟨#[68,69,83,67]⟩),.const (.string ⟨#[65,83]⟩),.const (.string ⟨#[65,78,68]⟩),.const (.string ⟨#[79,82]⟩),.const (.string ⟨#[78,79,84]⟩),.const (.string ⟨#[73,83]⟩),.const (.string ⟨#[78,85,76,76]⟩),.const (.string ⟨#[84,82,85,69]⟩),.const (.string ⟨#[70,65,76,83,69]⟩),.const (.string ⟨#[67,79,85,78,84]⟩),.const (.string ⟨#[83,85,77]⟩),.const (.string ⟨#[77,73,78]⟩),.const (.string ⟨#[77,65,88]⟩)]) Fa sQ J J J J J ⟨hS,hS,hS,hS,hS,hS,hS,hS,hS,hS,hS,hS,hS,hS,hS,hS,hS,hS,hS,hS,hS,hS,hS,hS,hS,hS,hS,hS,aP⟩ J fun l c=>ba J<|al<|ai ?_;cases so h;exact d7 J J
theorem Jn(s:eA){R:Bool}(h:nj s=some R):aN aJ 253 [tD rS s] (er R):=by
 refine aN.of Tryz.func253 J J J fun w0 S0=>ap<|zo J (ef)<|al<|ap<|bp h fun r q_r h=>fe N4 (GZ q_r) trivial J fun l c=>aB J<|eP<|dZ 3 J<|bp h fun r1 q_r1 h=>zo J (ax N5 (IX _ _ q_r1) ⟨(gz (ht J)),(ht J),aP⟩)<|ba J<|al<|ai<|aY ?_;cases so h;exact ay J J

theorem Jm(s:eA){R:eA}(h:oQ s=some R):aN aJ 254 [tD rS s] (tD rS R):=by
 refine aN.of Tryz.func254 J J J fun w0 S0=>ap<|zo J (aD hS)<|al<|ap<|bA false (rI .u8) 5<|zo J (aD mZ)<|al<|ae<|ap<|zo J (bO)<|al<|au<|bo ?_;refine aI (w8 (Z:=fun n out l c i=>gG s n out i=some R) (Of:=fun out l c i=>[dJ (rI .u8) 5 l c out]) (Gf:=fun out l c i=>[(0,tD rS s),(3,mp l c out),(4,bu i)]) (fun out l c i h=>nn h) (fun n ih out l c i h=>?_) ip nL none 0 (0:Int) h) (bh J);refine aw<|ae<|ap<|aB J<|aB J<|zo J (mv mq (ht J))<|zo J (dC J J)<|al<|bX h J (fun h=>?_) (fun h=>?_)
 ·refine cF<|ae<|au<|ap<|aB J<|aB J<|bp h fun b q_b h=>zo J (nA mq (ht J) (ht J) q_b)<|ba J<|al ?_;refine gv (Z:=fun c1=>jM (gG s n) out i c1=some R) (Of:=fun c1=>[dJ (rI .u8) 5 l c out]) (Gf:=fun c1=>[(0,tD rS s),(3,mp l c out),(4,bu i),(5,tD (rI .u8) c1)]) (fun c1 h=>?_) (fun K=>?_)
  ·skip
   refine an<|aB J<|aB J<|zo J (aR (r:=(rI .u8)) (ys:=[c1]) (xs:=[.tmp 21]) Tryz.underlying308 PZ J J J J J ⟨(ht J),aP⟩)<|bp h fun out1 q_out1 h=>cg PZ J J J J Tryz.underlying308 J J (ht J) (ht J) q_out1 fun l1 c2=>ba J<|aL<|aj<|ak<|an<|aB rfl<|zo rfl (fF (ht rfl) hI)<|ba rfl<|aL ?_;exact aT (aI (ih out1 l1 c2 (IntKind.i64.wrap (i+(1:Int))) h) (bh J))
  ·skip
   refine ap<|aB J<|bp h fun r q_r h=>zo J (ax Hv (AZ _ q_r) ⟨(ht J),aP⟩)<|al<|bX h J (fun h=>?_) (fun h=>?_)
   ·refine an<|aB J<|zo J (eZ (ht J) hI)<|zo J (fF (ht J) hI)<|ba J<|aL ?_;exact cn (K (IntKind.u8.wrap ((IntKind.u8.wrap (b-(97:Int)))+(65:Int))) h) (bh J)
   ·refine bi ?_;exact cn (K b h) (bh J)
 ·refine be ?_;refine af (af (aE ?_));refine ak<|ap<|aB rfl<|eP<|dZ 3 rfl<|dZ 24 rfl<|zo rfl (Fx Tryz.underlying308 F8 mq PZ rfl (gz (ht rfl)))<|ba rfl<|al<|ai<|aY ?_;cases so h;exact ay J J

theorem Jl(c:Int){R:Bool}(h:rx c=some R):aN aJ 255 [tD (rI .u8) c] (er R):=by
 refine aN.of Tryz.func255 J J J fun w0 S0=>ap<|zo J (ef)<|al<|ap<|aB J<|zo J (dU (ht J) hI)<|aB J<|cd J J (fun hg=>cr J)<|cd J J (fun hg=>gH (bk J hg) hI)<|zo J (ms J J)<|ba J<|al<|ai ?_;cases so h;exact ay J J

theorem EK(s:eA){R:Bool}(h:lj s=some R):aN aJ 168 [tD rS s] (er R):=by
 refine aN.of Tryz.func168 J J J fun w0 S0=>ap<|zo J (ef)<|al<|ae<|ap<|aB J<|zo J (mv mq (ht J))<|zo J (dO (ht J) hI)<|aB J<|dv J J (fun hg=>cr J)<|dv J J (fun hg=>mv mq (bk J hg))<|dv J J (fun hg=>eb (bk J hg) hI)<|zo J (qY J J)<|aB J<|bp h fun t q_t h=>dv J J (fun hg=>cr J) ?_
 obtain⟨b,h1t,h0t⟩:=og q_t
 have q_bg:=fun hb=>(h1t hb).1
 refine dv J J (fun hg=>nA mq (bk J hg) hI (q_bg hg)) ?_
 obtain⟨r,h1t⟩:=Ep (fun hb=>(h1t hb).2)
 have q_rg:=fun hb=>(h1t hb).1
 refine dv J J (fun hg=>ax Hv (AZ _ (q_rg hg)) ⟨(bk J hg),aP⟩)<|dv J J (fun hg=>cH (bk J hg))<|zo J (dy (ht J) (fun hb=>(bk J (mU hb))) (fun hb=>(h1t hb).2) h0t)<|aB J<|bp h fun t1 q_t1 h=>dv J J (fun hg=>cr J) ?_
 obtain⟨r1,h1t1,h0t1⟩:=og q_t1
 have q_r1g:=fun hb=>(h1t1 hb).1
 refine dv J J (fun hg=>ax OC (Jm _ (q_r1g hg)) ⟨(bk J hg),aP⟩) ?_
 obtain⟨r2,h1t1⟩:=Ep (fun hb=>(h1t1 hb).2)
 have q_r2g:=fun hb=>(h1t1 hb).1
 refine dv J J (fun hg=>ax OD (Jn _ (q_r2g hg)) ⟨(bk J hg),aP⟩)<|zo J (dy (ht J) (fun hb=>(bk J (mU hb))) (fun hb=>(h1t1 hb).2) h0t1)<|al<|bX h J (fun h=>?_) (fun h=>?_)
 ·refine ap<|zo J (ef)<|al<|ai<|aa ?_;cases so h;exact ay J J
 ·refine cF<|ae<|ap<|zo J (bO)<|al<|au<|bo ?_;refine aI (nr (Z:=fun n i=>ji s n i=some R) (Of:=fun i=>[]) (Gf:=fun i=>[(0,tD rS s),(3,bu i)]) (fun i h=>nn h) (fun n ih i h=>?_) ip (0:Int) h) (bh J);refine aw<|ae<|ap<|aB J<|aB J<|zo J (mv mq (ht J))<|zo J (dC J J)<|al<|bX h J (fun h=>?_) (fun h=>?_)
  ·refine cF<|ae<|au<|ap<|aB J<|aB J<|bp h fun b1 q_b1 h=>zo J (nA mq (ht J) (ht J) q_b1)<|bp h fun r3 q_r3 h=>zo J (ax Hv (AZ _ q_r3) ⟨(ht J),aP⟩)<|zo J (cH (ht J))<|aB J<|bp h fun t2 q_t2 h=>cd J J (fun hg=>cr J)<|cd J J (fun hg=>cr J) ?_
   obtain⟨b2,h1t2,h0t2⟩:=og q_t2
   have q_b2g:=fun hb=>(h1t2 hb).1
   refine cd J J (fun hg=>nA mq (bk J hg) (bk J hg) (q_b2g hg)) ?_
   obtain⟨r4,h1t2⟩:=Ep (fun hb=>(h1t2 hb).2)
   have q_r4g:=fun hb=>(h1t2 hb).1
   refine cd J J (fun hg=>ax OB (Jl _ (q_r4g hg)) ⟨(bk J hg),aP⟩)<|cd J J (fun hg=>cH (bk J hg))<|zo J (cJ (ht J) (fun hb=>(bk J hb)) (fun hb=>(h1t2 hb).2) h0t2)<|aB J<|bp h fun t3 q_t3 h=>cd J J (fun hg=>cr J)<|cd J J (fun hg=>cr J) ?_
   obtain⟨b3,h1t3,h0t3⟩:=og q_t3
   have q_b3g:=fun hb=>(h1t3 hb).1
   refine cd J J (fun hg=>nA mq (bk J hg) (bk J hg) (q_b3g hg))<|cd J J (fun hg=>dc (bk J hg) hI)<|zo J (cJ (ht J) (fun hb=>(bk J hb)) (fun hb=>(h1t3 hb).2) h0t3)<|al<|bX h J (fun h=>?_) (fun h=>?_)
   ·refine ap<|zo J (ef)<|al<|ai ?_;refine aq (aa (aa (aq (aa ?_))));cases so h;exact ay J J
   ·refine bi<|aj<|ak<|an<|aB rfl<|zo rfl (fF (ht rfl) hI)<|ba rfl<|aL ?_;exact aT (aI (ih (IntKind.i64.wrap (i+(1:Int))) h) (bh J))
  ·refine be ?_;refine af (af (aE ?_));refine ak<|ap<|zo rfl (ef)<|al<|ai ?_;cases so h;exact ay J J

theorem JO(kind:Int){R:eA}(h:qb kind=some R):aN aJ 169 [bu kind] (tD rS R):=by
 refine aN.of Tryz.func169 J J J fun w0 S0=>ap<|zo J (aD hS)<|al<|ae<|ap<|aB J<|al<|au<|ap<|zo J (io J)<|ba J<|al<|bX h J (fun h=>?_) (fun h=>?_)
 ·refine ap<|zo J (aD hS)<|al<|ai ?_;refine aq (aa ?_);cases so h;exact ay J J
 ·refine ap<|zo J (io J)<|ba J<|al<|bX h J (fun h=>?_) (fun h=>?_)
  ·refine ap<|zo J (aD hS)<|al<|ai ?_;refine aq (aa ?_);cases so h;exact ay J J
  ·refine ap<|zo J (io J)<|ba J<|al<|bX h J (fun h=>?_) (fun h=>?_)
   ·refine ap<|zo J (aD hS)<|al<|ai ?_;refine aq (aa ?_);cases so h;exact ay J J
   ·refine bi<|aj<|ak<|ap<|zo rfl (aD hS)<|al<|ai ?_;cases so h;exact ay J J

end Go.Proofs.YtfhhakidodmdfaaGreatDoor

