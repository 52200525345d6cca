/- cX of this claim: P10. -/
import Derived.Test.YtfhhakidodmdfaaGreatDoorJhT
import Derived.Test.YtfhhakidodmdfaaGreatDoorJhP9
set_option linter.all false
namespace Go.Proofs.YtfhhakidodmdfaaGreatDoor
open Go
set_option maxRecDepth 100000

theorem Ce(l:(List (List M))){R:(List (List M))}(h:tq l=some R):d4 aJ 174 [bK (cE) l] false cE 43 R:=by
 refine d4.of Tryz.func174 J J J fun w0 S0=>ap<|bA false cE 43<|zo J (aD mZ)<|al<|ap<|bA false cE 43<|zo J (aD mZ)<|al<|ae<|ap<|aB J<|zo J (eH ge J)<|zo J (br hI)<|al<|au<|aU (k:=6) J fun hN=>bo ?_;refine fA<|mC ?_;refine aI (gb (Z:=fun ls i out l1 c=>(l.drop i=ls)∧ph ls out=some R) (Of:=fun _ i out l1 c=>[dJ cE 43 l1 c out]) (Gf:=fun _ i out l1 c=>[(3,mp l1 c out),(6,bK (cE) l),(7,fC l),(8,bu (i:Int))]) (fun i out l1 c h=>?_) (fun e tl ih i out l1 c h=>?_) l 0 Ak none 0 ⟨J,h⟩) (bh J)
 ·obtain⟨hx,h⟩:=h
  refine aw<|ap<|zo J (dC J J)<|al<|ae<|bm (ht J) (cx hx)<|be ?_;refine af (af (aE ?_));refine ak<|ap<|aB rfl<|ba rfl<|al<|ai ?_;cases so h;exact d7 J J
 ·obtain⟨hx,h⟩:=h
  refine aw<|ap<|zo J (dC J J)<|al<|ae<|bl (ht J) (cw hx)<|cF<|ae<|au<|ap<|zo J (gw ge dd J J J (ci hx))<|zo J (bn dd J J)<|ba J<|al<|an<|aB J<|aB J<|bp h fun r q_r h=>fe HD (yj _ q_r) ⟨(ht J),aP⟩ J fun l2 c1=>?_;refine eP<|dZ 14 J<|zo J (aR (r:=cE) (ys:=[r]) (xs:=[.tmp 14]) ge dd J J J J J ⟨(gz (ht J)),aP⟩)<|bz<|bp h fun out1 q_out1 h=>cg dd J J J J ge J J (ht J) (ht J) q_out1 fun l3 c2=>ba J<|aL<|aj<|ak<|an<|zo rfl (iq (bW hx hN) rfl)<|aB rfl<|aL<|bt<|aY ?_;exact aT (aI (ih (i+1) out1 l3 c2 ⟨bV hx,h⟩) (bh J))
theorem G8(r:(List M))(columns:(List Int)){R:(List M)}(h:nT r columns=some R):d4 aJ 177 [bK (ac) r,iA columns] false ac 46 R:=by
 refine d4.of Tryz.func177 J J J fun w0 S0=>ap<|bA false ac 46<|zo J (aD mZ)<|al<|ap<|bA false ac 46<|zo J (aD mZ)<|al<|ae<|ap<|aB J<|zo J (eH ed J)<|zo J (br hI)<|al<|au<|aU (k:=8) J fun hN=>bo ?_;refine fA<|mC ?_;refine aI (gb (Z:=fun ls i out l c=>(columns.drop i=ls)∧ro r ls out=some R) (Of:=fun _ i out l c=>[dJ ac 46 l c out]) (Gf:=fun _ i out l c=>[(0,bK (ac) r),(5,mp l c out),(8,iA columns),(9,fC columns),(10,bu (i:Int))]) (fun i out l c h=>?_) (fun e tl ih i out l c h=>?_) columns 0 Aj none 0 ⟨J,h⟩) (bh J)
 ·obtain⟨hx,h⟩:=h
  refine aw<|ap<|zo J (dC J J)<|al<|ae<|bm (ht J) (cx hx)<|be ?_;refine af (af (aE ?_));refine ak<|ap<|aB rfl<|ba rfl<|al<|ai ?_;cases so h;exact d7 J J
 ·obtain⟨hx,h⟩:=h
  refine aw<|ap<|zo J (dC J J)<|al<|ae<|bl (ht J) (cw hx)<|cF<|ae<|au<|ap<|zo J (gw ed bP J J J (ci hx))<|zo J (bn bP J J)<|ba J<|al<|an<|aB J<|aB J<|aB J<|bp h fun e1 q_e1 h=>?_;refine zo J (gw lG aG J J J q_e1)<|zo J (bn aG J J)<|zo J (aR (r:=ac) (ys:=[e1]) (xs:=[.tmp 18]) lG aG J J J J J ⟨(ht J),aP⟩)<|bp h fun out1 q_out1 h=>cg aG J J J J lG J J (ht J) (ht J) q_out1 fun l1 c1=>ba J<|aL<|aj<|ak<|an<|zo rfl (iq (bW hx hN) rfl)<|aB rfl<|aL ?_;exact aT (aI (ih (i+1) out1 l1 c1 ⟨bV hx,h⟩) (bh J))
theorem uI(r:(List M))(columns:(List Int)){R:(List M)}(h:nT r columns=some R):aN aJ 177 [bK (ac) r,iA columns] (bK (ac) R):=(G8 _ _ h).spec

theorem JK(columns:(List Int))(a1:(List M))(b:(List M)){R:Int}(h:lh columns a1 b=some R):aN aJ 175 [bK (ac) a1,bK (ac) b,bv jG columns] (bu R):=by
 refine aN.of Tryz.func175 J J J fun w0 S0=>ap<|zo J (bO)<|al<|ae<|bp h fun r q_r h=>bp h fun r1 q_r1 h=>bp h fun r2 q_r2 h=>bp h fun r3 q_r3 h=>bp h fun r4 q_r4 h=>?_
 refine bZ (ts:=[_,_,_,_,_,_,_,_,_,_,_,_,_]) mixed J J
  ⟨dp 0 J J J (cr J),
  ⟨dp 2 J J J (bn c0 J J),
  ⟨cO 6 0 7 1 J J J J (ax Ck (uI _ _ q_r) ⟨(ht J),(ht J),aP⟩),
  ⟨dp 1 J J J (cr J),
  ⟨dp 2 J J J (bn c0 J J),
  ⟨cO 9 3 10 4 J J J J (ax Ck (uI _ _ q_r1) ⟨(ht J),(ht J),aP⟩),
  ⟨cO 8 2 11 5 J J J J (ax Km (AQ _ _ q_r2) ⟨(ht J),(ht J),aP⟩),
  ⟨dp 0 J J J (cr J),
  ⟨dp 1 J J J (cr J),
  ⟨cO 13 7 14 8 J J J J (ax Km (AQ _ _ q_r3) ⟨(ht J),(ht J),aP⟩),
  ⟨cO 12 6 15 9 J J J J (aR (r:=bI) (ys:=[r2,r3]) (xs:=[.tmp 12,.tmp 15]) ed bP J J J J J ⟨(ht J),(ht J),aP⟩),
  ⟨bH 16 10 J J J (ax Hz (A3 _ q_r4) ⟨(ht J),aP⟩),
  ⟨bH 17 11 J J J (pe J),
  aP⟩⟩⟩⟩⟩⟩⟩⟩⟩⟩⟩⟩⟩ ?_
 refine ak<|ai ?_;cases so h;exact ay J J

theorem JY(s1:(List M))(s2:(List M)){R:Bool}(h:iD s1 s2=some R):aN aJ 157 [bK (ac) s1,bK (ac) s2] (er R):=by
 refine aN.of Tryz.func157 J J J fun w0 S0=>ap<|zo J (ef)<|al<|ae<|ap<|aB J<|zo J (eH lG J)<|aB J<|zo J (eH lG J)<|zo J (dc (ht J) (ht J))<|al<|bX h J (fun h=>?_) (fun h=>?_)
 ·refine ap<|zo J (ef)<|al<|ai<|aa ?_;cases so h;exact ay J J
 ·refine cF<|ae<|ap<|aB J<|zo J (eH lG J)<|zo J (br hI)<|al<|au<|aU (k:=11) J fun hN=>bo ?_;refine aI (cN (Z:=fun ls i=>(s1.drop i=ls)∧eR s2 ls i=some R) (Of:=fun _ i=>[]) (Gf:=fun _ i=>[(0,bK (ac) s1),(1,bK (ac) s2),(12,fC s1),(13,bu (i:Int))]) (fun i h=>?_) (fun e tl ih i h=>?_) s1 0 ⟨J,h⟩) (bh J)
  ·obtain⟨hx,h⟩:=h
   refine aw<|ap<|zo J (dC J J)<|al<|ae<|bm (ht J) (cx hx)<|be ?_;refine af (af (aE ?_));refine ak<|ap<|zo rfl (ef)<|al<|ai ?_;cases so h;exact ay J J
  ·obtain⟨hx,h⟩:=h
   refine aw<|ap<|zo J (dC J J)<|al<|ae<|bl (ht J) (cw hx)<|cF<|ae<|au<|ap<|aB J<|ba J<|al<|ae<|bp h fun e1 q_e1 h=>?_
   refine bZ (ts:=[_,_,_,_,_,_,_,_,_]) mixed J J
    ⟨dp 0 J J J (cr J),
    ⟨dp 5 J J J (cr J),
    ⟨cO 16 0 17 1 J J J J (gw lG aG J J J (ci hx)),
    ⟨bH 18 2 J J J (bn aG J J),
    ⟨dp 1 J J J (cr J),
    ⟨dp 5 J J J (cr J),
    ⟨cO 20 4 21 5 J J J J (gw lG aG J J J q_e1),
    ⟨bH 22 6 J J J (bn aG J J),
    ⟨cO 19 3 23 7 J J J J (AB DN (ht J) (ht J)),
    aP⟩⟩⟩⟩⟩⟩⟩⟩⟩ ?_
   refine ak<|bX h rfl (fun h=>?_) (fun h=>?_)
   ·refine ap<|zo J (ef)<|al<|ai ?_;refine aq (aa (aa (aq (aa ?_))));cases so h;exact ay J J
   ·refine bi<|aj<|ak<|an<|zo rfl (iq (bW hx hN) rfl)<|aB rfl<|aL ?_;exact aT (aI (ih (i+1) ⟨bV hx,h⟩) (bh J))

theorem GQ(a1:(List M))(b:(List M)){R:Bool}(h:vl a1 b=some R):aN aJ 93 [bK (ac) a1,bK (ac) b] (er R):=by
 refine aN.of Tryz.func93 J J J fun w0 S0=>ap<|zo J (ef)<|al<|ap<|aB J<|aB J<|bp h fun r q_r h=>zo J (ax Py (JY _ _ q_r) ⟨(ht J),(ht J),aP⟩)<|ba J<|al<|ai ?_;cases so h;exact ay J J

theorem JJ(columns:(List Int))(a1:(List M))(b:(List M)){R:Bool}(h:gi columns a1 b=some R):aN aJ 178 [bK (ac) a1,bK (ac) b,bv jG columns] (er R):=by
 refine aN.of Tryz.func178 J J J fun w0 S0=>ap<|zo J (ef)<|al<|ae<|bp h fun r q_r h=>bp h fun r1 q_r1 h=>bp h fun r2 q_r2 h=>?_
 refine bZ (ts:=[_,_,_,_,_,_,_,_]) mixed J J
  ⟨dp 0 J J J (cr J),
  ⟨dp 2 J J J (bn c0 J J),
  ⟨cO 6 0 7 1 J J J J (ax Ck (uI _ _ q_r) ⟨(ht J),(ht J),aP⟩),
  ⟨dp 1 J J J (cr J),
  ⟨dp 2 J J J (bn c0 J J),
  ⟨cO 9 3 10 4 J J J J (ax Ck (uI _ _ q_r1) ⟨(ht J),(ht J),aP⟩),
  ⟨cO 8 2 11 5 J J J J (ax Ns (GQ _ _ q_r2) ⟨(ht J),(ht J),aP⟩),
  ⟨bH 12 6 J J J (pe J),
  aP⟩⟩⟩⟩⟩⟩⟩⟩ ?_
 refine ak<|ai ?_;cases so h;exact ay J J

theorem Ji(l:(List (List M)))(alike:((List M)→(List M)→Option Bool))(b:Nat):tU aJ 260 (fun(x:(List (List M)))=>[bK (cE) x]) (fun _=>tp l alike) [bx da 32 b l] [tV (aO b 0),bv (rT ((cB aJ yG ib (fun(x:(List M)×(List M))=>alike x.1 x.2)))) ()]:=by
 refine tU.of Tryz.func260 J J J fun Sg yld s R h I yv hy e he w0 S0 B hB=>?_
 replace h:tp l alike yld s=some R:=h
 refine au<|bo<|fA ?_;refine aI (E3 (Z:=fun n e1 s1 x=>I s1 e1∧mt alike yld n s1 x=some R) (Of:=fun e1 s1 x=>[bx da 32 b x,e1]) (Gf:=fun e1 s1 x=>[(0,tV yv),(1,tV (aO b 0)),(2,bv (rT ((cB aJ yG ib (fun(x:(List M)×(List M))=>alike x.1 x.2)))) ())]) (fun e1 s1 x h=>nn h.2) (fun n ih e1 s1 x h=>?_) ip e s l ⟨he,h⟩) (bh J);refine aw ?_
 obtain⟨he1,h⟩:=h
 refine ae<|ap<|zo J (bL eu J J bG (.head _) (ht J))<|zo J (eH ge J)<|zo J (eb (ht J) hI)<|al<|bX h J (fun h=>?_) (fun h=>?_)
 ·refine cF<|au<|ap<|zo J (bO)<|al<|ae<|au<|bo ?_;refine aI (nr (Z:=fun n2 n1=>pg alike yld (mt alike yld n) s1 x n2 n1=some R) (Of:=fun n1=>[bx da 32 b x,e1]) (Gf:=fun n1=>[(0,tV yv),(1,tV (aO b 0)),(2,bv (rT ((cB aJ yG ib (fun(x:(List M)×(List M))=>alike x.1 x.2)))) ()),(4,bu n1)]) (fun n1 h=>nn h) (fun n2 ih1 n1 h=>?_) ip (1:Int) h) (bh J);refine aw<|ae<|ae<|bp h fun t q_t h=>?_
  obtain⟨e2,h1t,h0t⟩:=og q_t
  have q_e2g:=fun hb=>(h1t hb).1
  obtain⟨e3,h1t⟩:=Ep (fun hb=>(h1t hb).2)
  have q_e3g:=fun hb=>(h1t hb).1
  obtain⟨r,h1t⟩:=Ep (fun hb=>(h1t hb).2)
  have q_rg:=fun hb=>(h1t hb).1
  refine bZ (ts:=[_,_,_,_,_,_,_,_,_,_,_,_,_,_,_]) mixed J J
   ⟨dp 4 J J J (cr J),
   ⟨dp 1 J J J (bL eu J J bG (.head _) (ht J)),
   ⟨bH 9 1 J J J (eH ge J),
   ⟨cO 8 0 10 2 J J J J (dC J J),
   ⟨bH 11 3 J J J (cr J),
   ⟨jI 2 12 4 J J J J (dP J J J J (fun hg=>mJ MZ (ht J))),
   ⟨jI 1 12 4 J J J J (dP J J J J (fun hg=>bL eu J J bG (.head _) (ht J))),
   ⟨fk 14 6 12 4 J J J J (dP J J J J (fun hg=>bf ge dd J (bk J hg) hI (q_e2g hg))),
   ⟨fk 15 7 12 4 J J J J (dP J J J J (fun hg=>bj dd J J (bk J hg))),
   ⟨jI 1 12 4 J J J J (dP J J J J (fun hg=>bL eu J J bG (.head _) (ht J))),
   ⟨jI 4 12 4 J J J J (dP J J J J (fun hg=>cr J)),
   ⟨kr 17 9 18 10 12 4 J J J J J (dP J J J J (fun hg=>bf ge dd J (bk J hg) (bk J hg) (q_e3g hg))),
   ⟨fk 19 11 12 4 J J J J (dP J J J J (fun hg=>bj dd J J (bk J hg))),
   ⟨⟨[⟨13,_,some 5⟩,⟨16,_,some 8⟩,⟨20,_,some 12⟩,⟨12,_,some 4⟩],_,J,⟨J,J,J,J,aP⟩,J,J,dP J J J J (fun hg=>dz (args:=Lj) (res:=yH) (f:=(fun(x:(List M)×(List M))=>alike x.1 x.2)) (x:=((e2,e3):(List M)×(List M))) (bk J hg) (q_rg hg) ⟨(bk J hg),(bk J hg),aP⟩)⟩,
   ⟨cO 12 4 21 13 J J J J (cJ (ht J) (fun hb=>(bk J hb)) (fun hb=>(h1t hb).2) h0t),
   aP⟩⟩⟩⟩⟩⟩⟩⟩⟩⟩⟩⟩⟩⟩⟩ ?_
  refine ak<|bX h rfl (fun h=>?_) (fun h=>?_)
  ·refine cF<|au<|an<|aB J<|zo J (fF (ht J) hI)<|ba J<|aL<|aj ?_;exact aT (aI (ih1 (IntKind.i64.wrap (n1+(1:Int))) h) (bh J))
  ·refine be ?_;refine af (af (aE ?_));refine ak<|ae<|ap<|aB rfl<|zo rfl (bL eu rfl rfl bG (.head _) (ht rfl))<|aB rfl<|bp h fun y q_y h=>zo J (Dp ge dd J (ht J) (ht J) q_y)<|bz<|bp h fun r1 q_r1 h=>yq hy he1 q_r1 (ht J) ⟨(ht J),aP⟩ J fun e4 he2=>zo J (cH (ht J))<|al<|bX h J (fun h=>?_) (fun h=>?_)
   ·refine ai ?_;refine aa (aq (aa (aq ?_)));refine bt<|bt ?_;cases so h;exact Bj J he2 hB ⟨fun _ h=>h,aP⟩
   ·refine cF<|an<|zo J (bL eu J J bG (.tail _ (.head _)) (ht J))<|aB J<|bp h fun y1 q_y1 h=>zo J (Do ge dd J (ht J) (ht J) q_y1)<|bz<|av eu J am J (ht J) (ht J)<|aL<|aj ?_;exact aT (aI (ih e4 r1.2 y1 ⟨he2,h⟩) (bh J))
 ·refine be ?_;refine af (af (aE ?_));refine bt ?_;cases so h;exact CJ J he1 hB ⟨fun _ h=>h,aP⟩

theorem G7(l:(List (List M)))(alike:((List M)→(List M)→Option Bool)){R:It (List (List M))}(h:BM l alike=some R):tL aJ 179 [bK (cE) l,(cB aJ yG ib (fun(x:(List M)×(List M))=>alike x.1 x.2))] (fun(x:(List (List M)))=>[bK (cE) x]) R:=by
 refine tL.of Tryz.func179 J J J fun w0 S0=>ap<|sD (ht J) J fun b=>zo J (sk (ht J))<|zo J (aD hV)<|al<|ap<|wt (O1:=[bx da 32 b l]) (cts:=[tV (aO b 0),bv (rT ((cB aJ yG ib (fun(x:(List M)×(List M))=>alike x.1 x.2)))) ()]) (caps:=[.tmp 2,.tmp 3]) J Oy (Ji l alike b) ⟨(ht J),(ht J),aP⟩ J fun v fp=>ba J<|al<|ai ?_;cases so h;exact CH J J

theorem G6(s:(List (List M))){R:(List (List M))}(h:eF s=some R):d4 aJ 180 [bK (cE) s] false cE 43 R:=by
 refine d4.of Tryz.func180 J J J fun w0 S0=>ap<|bA false cE 43<|zo J (aD mZ)<|al<|ae<|ap<|aB J<|oz ge (ht J) J fun isnil hisnil=>al<|kE (ht J) (fun hc=>?_) (fun hc=>?_)
 ·have hx:=hisnil hc
  have h:some Ak=some R:=by simpa [eF,k5,hx] using h
  refine ap<|bA false cE 43<|zo J (aD mZ)<|al<|ai<|aa ?_;cases so h;exact d7 J J
 ·refine cF<|ap<|fJ (r:=cE) (ys:=Ak) (xs:=[]) ge dd J J J J J trivial J fun l c=>aB J<|bp h fun x q_x h=>cg dd J J J J ge J J (ht J) (ht J) q_x fun l1 c1=>ba J<|al<|ai ?_;cases so h;exact d7 J J
theorem JI(s:(List (List M))){R:(List (List M))}(h:eF s=some R):aN aJ 180 [bK (cE) s] (bK (cE) R):=(G6 _ h).spec

theorem Kc(l:(List (List M)))(columns:(List Int)){R:(List il)×Int}(h:xI l columns=some R):aN aJ 105 [bK (cE) l,iA columns] (tT [bK (d9) R.1,bu R.2]):=by
 refine Cs Tryz.func105 J J J fun w0 S0=>ap<|zo J (ff J)<|zo J (aD (show aH _ _ _ (bK (d9) ([]))from gr))<|zo J (bO)<|al<|ae<|ap<|aB J<|zo J (bn c0 J J)<|bp h fun r q_r h=>zo J (ax Pj (JL _ _ q_r) ⟨(ht J),(ht J),aP⟩)<|ba J<|al<|ap<|aB J<|zo J (pt J)<|al ?_;refine bX h J (fun h=>?_) (fun h=>?_)
 ·refine ap<|aB J<|zo J (aD (show aH _ _ _ (bK (d9) ([]))from gr))<|ba J<|al<|ai<|aa<|mR ?_;cases so h;exact ca J J J
 ·refine cF<|ap<|aB J<|bp h fun r1 q_r1 h=>fe KZ (Ce _ q_r1) ⟨(ht J),aP⟩ J fun l1 c=>ba J<|al<|ap<|aB J<|zo J ((show bB _ _ _ _ ((cB aJ yG sI (fun(x:(List M)×(List M))=>(lh columns) x.1 x.2)))from eB (cts:=[bv jG columns]) (caps:=[.tmp 3]) Pi ⟨(ht J),aP⟩ (fun x y h=>JK _ _ _ h)))<|bp h fun u7 q_srt h=>?_;refine yr (n:=r1.length) qG ?_ HA ?_ q_srt ?_ ?_ ?_ ?_ ?_
  ·rfl
  ·rfl
  ·exact(ht J)
  ·rfl
  ·exact(ht J)
  ·rfl
  intro hl
  refine ky hl 18 J<|ky hl 7 J<|ky hl 19 J<|al<|ap<|zo J ((show bB _ _ _ _ ((cB aJ yG ib (fun(x:(List M)×(List M))=>(gi columns) x.1 x.2)))from eB (cts:=[bv jG columns]) (caps:=[.tmp 3]) Ph ⟨(ht J),aP⟩ (fun x y h=>JJ _ _ _ h)))<|ba J<|al<|ap<|bA false d9 154<|aV (x:=aQ none 0 0) Ea (fun _=>xO) J fun b=>al<|ae<|ap<|aB J<|aB J<|eO<|eP ?_;refine dZ 18 J<|dZ 7 J<|dZ 19 J<|dZ 23 J<|bp h fun it q_it h=>zT Pg (G7 _ _ q_it) ⟨(gz (ht J)),(ht J),aP⟩ J fun v fp=>al<|au<|bp h fun s q_s h=>?_;refine F0 (fun(i:Option Nat×Nat×List il)=>[db cE 43 l1 c u7,bx rV 150 b (aQ i.1 i.2.1 i.2.2.length),dJ d9 154 i.1 i.2.1 i.2.2]) (fun(i:Option Nat×Nat×List il)=>(i.2.2)) J (ht J) (none,0,([]:List il)) J q_s (fun _=>J) J (fun i x s2 h lp rec1 _ _ _=>?_) (fun i hi bd=>?_)
  ·obtain⟨l2,c1,xs⟩:=i
   replace h:sS columns x xs=some s2:=h
   refine(show CG _ _ _ [qc lp rec1 .ready,db cE 43 l1 c u7,bx rV 150 b (aQ l2 c1 xs.length),dJ d9 154 l2 c1 xs] _ from ?_);refine yA (G' :=[(0,bK (cE) l),(1,iA columns),(3,bv jG columns),(4,bK (d9) ([])),(5,bu 0),(6,bu r),(7,tO cE l1 c u7),(8,(cB aJ yG ib (fun(x:(List M)×(List M))=>(gi columns) x.1 x.2))),(9,tV (aO b 0)),(11,bK (cE) l),(12,iA columns),(13,bu r),(14,bu r),(15,er (r !=(0:Int))),(17,bK (cE) l),(18,tO cE l1 c u7),(19,tO cE l1 c u7),(20,(cB aJ yG sI (fun(x:(List M)×(List M))=>(lh columns) x.1 x.2))),(22,(cB aJ yG ib (fun(x:(List M)×(List M))=>(gi columns) x.1 x.2))),(23,tO cE l1 c u7),(24,(cB aJ yG ib (fun(x:(List M)×(List M))=>(gi columns) x.1 x.2))),(26,bK (cE) x)]) ?_ ⟨J,J,J,J,J,J,J,J,J,J,J,J,J,J,J,J,J,J,J,J,J,J,aP⟩;refine an<|ba J<|aL<|HQ<|au<|bp h fun e q_e h=>bp h fun r2 q_r2 h=>bp h fun r3 q_r3 h=>?_
   refine oH 10 (ts:=[mp l2 c1 xs,bK (cE) x,bv cE e,bK (ac) e,iA columns,bK (ac) r2,bK (cE) x,bK (cE) r3,tD d9 (⟨r2,r3⟩:il),bK (d9) ([(⟨r2,r3⟩:il)])]) mixed J J J
    ⟨dp 9 J J J (eN Ea (.tail _ (.tail _ (.head _))) (ht J)),
    ⟨dp 10 J J J (cr J),
    ⟨bH 28 1 J J J (bf ge dd J (ht J) hI q_e),
    ⟨bH 29 2 J J J (bn dd J J),
    ⟨dp 3 J J J (bn c0 J J),
    ⟨cO 30 3 31 4 J J J J (ax Ck (uI _ _ q_r2) ⟨(ht J),(ht J),aP⟩),
    ⟨dp 10 J J J (cr J),
    ⟨bH 33 6 J J J (ax Pf (JI _ q_r3) ⟨(ht J),aP⟩),
    ⟨cO 32 5 34 7 J J J J (bM (y:=(⟨r2,r3⟩:il)) ue KF xi (⟨_,_,_,_,_,J,Db,J,(ht J),⟨_,_,_,_,_,J,Da,J,(ht J),J⟩⟩)),
    ⟨bH 35 8 J J J (aR (r:=d9) (ys:=[(⟨r2,r3⟩:il)]) (xs:=[.tmp 35]) E9 ue J J J J J ⟨(ht J),aP⟩),
    aP⟩⟩⟩⟩⟩⟩⟩⟩⟩⟩ ?_
   refine mn<|bp h fun l3 q_l3 h=>cg ue J J J J E9 J J (ht J) (ht J) q_l3 fun l4 c2=>mn<|av Ea J am J (ht J) (GJ (ht J))<|aL<|aj<|bt<|bt<|co<|co ?_;exact CK (l4,c2,l3) (so h) J
  ·skip
   obtain⟨l5,c3,xs1⟩:=i
   have hi:xs1=s:=hi
   subst hi
   refine(show AT _ _ _ [uO bd,db cE 43 l1 c u7,bx rV 150 b (aQ l5 c3 xs1.length),dJ d9 154 l5 c3 xs1] _ from ?_);refine cn (G' :=[(0,bK (cE) l),(1,iA columns),(3,bv jG columns),(4,bK (d9) ([])),(5,bu 0),(6,bu r),(7,tO cE l1 c u7),(8,(cB aJ yG ib (fun(x:(List M)×(List M))=>(gi columns) x.1 x.2))),(9,tV (aO b 0)),(11,bK (cE) l),(12,iA columns),(13,bu r),(14,bu r),(15,er (r !=(0:Int))),(17,bK (cE) l),(18,tO cE l1 c u7),(19,tO cE l1 c u7),(20,(cB aJ yG sI (fun(x:(List M)×(List M))=>(lh columns) x.1 x.2))),(22,(cB aJ yG ib (fun(x:(List M)×(List M))=>(gi columns) x.1 x.2))),(23,tO cE l1 c u7),(24,(cB aJ yG ib (fun(x:(List M)×(List M))=>(gi columns) x.1 x.2)))]) ?_ ⟨J,J,J,J,J,J,J,J,J,J,J,J,J,J,J,J,J,J,J,J,J,aP⟩;refine aj<|ak<|ap<|zo rfl (eN Ea (.tail _ (.tail _ (.head _))) (ht rfl))<|ba rfl<|zo rfl (bO)<|al<|ai<|co<|fQ<|ce 4 rfl<|ce 38 rfl<|fR 4 rfl<|aY<|bt<|aY<|bt<|aY<|u5<|mR ?_;cases so h;exact ca J J J

theorem Nk(b:Nat)(ix:OI)(r:cU)(n:aC){R:(List (List M))×Int}(h:mh r n=some R):cy aJ 54 [tV (aO b 0),tD aM n] (fG b r ix) (fun _:OI=>tT [bK (cE) R.1,bu R.2]) (fun _=>(fG b r ix)):=by
 refine cy.of Tryz.func54 J J J fun w0 S0=>?_;refine(show CG _ _ _ [bx (rH dn [(1,aQ (ix.h 0).1 (ix.h 0).2 r.rows.length),(2,aQ (ix.h 1).1 (ix.h 1).2 r.width.length)]) 96 b r,db da 32 (ix.h 0).1 (ix.h 0).2 r.rows,db bI 3 (ix.h 1).1 (ix.h 1).2 r.width] _ from ?_);refine ap<|zo J (ff J)<|zo J (aD (show aH _ _ _ pY from gr))<|zo J (bO)<|al<|ae<|bp h fun e q_e h=>bp h fun r1 q_r1 h=>?_
 refine bZ (ts:=[_,_,_,_,_,_,_,_,_,_,_,_,_,_,_,_]) mixed J J
  ⟨dp 0 J J J (cr J),
  ⟨bH 17 0 J J J (cQ (ht J)),
  ⟨bH 18 1 J J J (gQ 1 l0 J J J),
  ⟨bH 19 2 J J J (cC oL J (.head _) (.tail _ (.head _)) (ht J)),
  ⟨dp 3 J J J (bS gm cW J J),
  ⟨bH 21 4 J J J (bn bP J J),
  ⟨cO 20 3 22 5 J J J J (bf jH eu J (gz (ht J)) (ht J) q_e),
  ⟨bH 23 6 J J J (bn eu J J),
  ⟨dp 3 J J J (bS pl jT J J),
  ⟨bH 25 8 J J J (bn c0 J J),
  ⟨cO 24 7 26 9 J J J J (ax PM (Kc _ _ q_r1) ⟨(ht J),(ht J),aP⟩),
  ⟨bH 27 10 J J J (cr J),
  ⟨bH 16 11 J J J (eT J J),
  ⟨bH 16 11 J J J (eT J J),
  ⟨bH 28 12 J J J (pe J),
  ⟨bH 29 13 J J J (pe J),
  aP⟩⟩⟩⟩⟩⟩⟩⟩⟩⟩⟩⟩⟩⟩⟩⟩ ?_
 refine ak<|ae<|ap<|aB rfl<|zo rfl (pt rfl)<|al<|bX h rfl (fun h=>?_) (fun h=>?_)
 ·refine ap<|aB J<|zo J (aD (show aH _ _ _ pY from gr))<|ba J<|al<|ai<|aa<|aK<|aK<|aK ?_;cases so h;exact df (ts:=[bK (cE) ([]),bu r1.2]) (rvs:=[.tmp 4,.tmp 5]) J J ⟨aW J,aW J,aP⟩ kY J J
 ·refine cF ?_;refine gv (Z:=fun groups=>ki n groups=some R) (Of:=fun groups=>[bx (rH dn [(1,aQ (ix.h 0).1 (ix.h 0).2 r.rows.length),(2,aQ (ix.h 1).1 (ix.h 1).2 r.width.length)]) 96 b r,db da 32 (ix.h 0).1 (ix.h 0).2 r.rows,db bI 3 (ix.h 1).1 (ix.h 1).2 r.width]) (Gf:=fun groups=>[(3,bv aM n),(6,bK (d9) groups)]) (fun groups h=>?_) (fun K=>?_)
  ·skip
   refine ap<|bA false cE 43<|zo J (aD mZ)<|al<|ae<|ap<|aB J<|zo J (eH E9 J)<|zo J (br hI)<|al<|au<|aU (k:=44) J fun hN=>bo ?_;refine aI (gb (Z:=fun ls i out l c=>(groups.drop i=ls)∧iz n ls out=some R) (Of:=fun _ i out l c=>[dJ cE 43 l c out,bx (rH dn [(1,aQ (ix.h 0).1 (ix.h 0).2 r.rows.length),(2,aQ (ix.h 1).1 (ix.h 1).2 r.width.length)]) 96 b r,db da 32 (ix.h 0).1 (ix.h 0).2 r.rows,db bI 3 (ix.h 1).1 (ix.h 1).2 r.width]) (Gf:=fun _ i out l c=>[(3,bv aM n),(8,mp l c out),(44,bK (d9) groups),(45,fC groups),(46,bu (i:Int))]) (fun i out l c h=>?_) (fun e1 tl ih i out l c h=>?_) groups 0 Ak none 0 ⟨J,h⟩) (bh J)
   ·obtain⟨hx,h⟩:=h
    refine aw<|ap<|zo J (dC J J)<|al<|ae<|bm (ht J) (cx hx)<|be ?_;refine af (af (aE ?_));refine ak<|ap<|aB rfl<|ba rfl<|zo rfl (bO)<|al<|ai<|fQ<|ce 8 rfl<|ce 80 rfl<|ce 4 rfl<|fR 4 rfl<|aY<|aK<|aK<|aK ?_;cases so h;exact df (ts:=[bK (cE) out,bu 0]) (rvs:=[.tmp 4,.tmp 5]) J J ⟨aW J,aW J,aP⟩ kY J J
   ·obtain⟨hx,h⟩:=h
    refine aw<|ap<|zo J (dC J J)<|al<|ae<|bl (ht J) (cw hx)<|cF<|ae<|au<|ap<|zo J (gw E9 ue J J J (ci hx))<|zo J (bn ue J J)<|aV (r:=d9) (x:=HU) ue (fun _=>xi _) J fun b1=>av ue J am J (ht J) (ht J)<|aS 10 J<|al<|ap<|zo J (bS Ir Dy J J) ?_;refine zo J (bn dd J J)<|bp h fun r2 q_r2 h=>fe HD (yj _ q_r2) ⟨(ht J),aP⟩ J fun l1 c1=>ba J<|al<|ae<|ap<|zo J (bS od lX J J)<|zo J (bn xq J J)<|zo J (eH tZ J)<|zo J (br hI)<|al<|au<|aU (k:=54) J fun hN1=>bo<|gT<|gT<|gT<|kW<|gT ?_;refine aI (gb (Z:=fun ls1 i1 x l2 c2=>(n.Aggs.drop i1=ls1)∧kh (iz n tl) e1 out ls1 x=some R) (Of:=fun _ i1 x l2 c2=>[dJ cE 43 l c out,dJ ac 46 l2 c2 x,bx (rH dn [(1,aQ (ix.h 0).1 (ix.h 0).2 r.rows.length),(2,aQ (ix.h 1).1 (ix.h 1).2 r.width.length)]) 96 b r,db da 32 (ix.h 0).1 (ix.h 0).2 r.rows,db bI 3 (ix.h 1).1 (ix.h 1).2 r.width]) (Gf:=fun _ i1 x l2 c2=>[(3,bv aM n),(8,mp l c out),(10,bv d9 e1),(11,mp l2 c2 x),(44,bK (d9) groups),(45,fC groups),(46,bu (i:Int)),(54,bK (ej) n.Aggs),(55,fC n.Aggs),(56,bu (i1:Int))]) (fun i1 x l2 c2 h=>?_) (fun e2 tl1 ih1 i1 x l2 c2 h=>?_) n.Aggs 0 r2 l1 c1 ⟨J,h⟩) (bh J)
    ·obtain⟨hx1,h⟩:=h
     refine aw<|ap<|zo J (dC J J)<|al<|ae<|bm (ht J) (cx hx1)<|be ?_;refine af (af (aE ?_));refine ak<|an<|aB rfl<|aB rfl<|bz<|eP<|dZ 11 rfl<|dZ 76 rfl<|zo rfl (aR (r:=cE) (ys:=[x]) (xs:=[.tmp 76]) ge dd J J J J J ⟨(gz (ht J)),aP⟩)<|bz<|bp h fun out1 q_out1 h=>cg dd J J J J ge J J (ht J) (ht J) q_out1 fun l3 c3=>ba J<|aL<|aj<|ak<|an<|zo rfl (iq (bW hx hN) rfl)<|aB rfl<|aL<|bt<|aY ?_;exact aT (aI (ih (i+1) out1 l3 c3 ⟨bV hx,h⟩) (bh J))
    ·obtain⟨hx1,h⟩:=h
     refine aw<|ap<|zo J (dC J J)<|al<|ae<|bl (ht J) (cw hx1)<|cF<|ae<|au<|ap<|zo J (gw tZ qZ J J J (ci hx1))<|zo J (bn qZ J J)<|aV (r:=ej) (x:=(⟨(0:Int),vf⟩:kz)) qZ (fun _=>Ah _) J fun b2=>av qZ J am J (ht J) (ht J)<|aS 13 J<|al<|ap<|zo J (bn qZ J J) ?_;refine zo J (bS Iq Dx J J)<|zo J (bn eu J J)<|bp h fun r3 q_r3 h=>zo J (ax QB (L5 _ _ q_r3) ⟨(ht J),(ht J),aP⟩)<|aB J<|zo J (eT J J)<|zo J (eT J J)<|aV (r:=ac) (x:=eS) aG (fun _=>aZ _) J fun b3=>av aG J am J (ht J) (ht J)<|aS 14 J<|ba J<|al<|ae<|ap<|aB J<|zo J (pt J)<|al<|bX h J (fun h=>?_) (fun h=>?_)
     ·refine ap<|aB J<|zo J (aD (show aH _ _ _ pY from gr))<|ba J<|al<|ai ?_;refine aa (aq (aa (aa (aq (aa (aq (aa (aa (aq (aa ?_))))))))));refine aY<|aY<|aK<|aK<|aK ?_;cases so h;exact df (ts:=[bK (cE) ([]),bu r3.2]) (rvs:=[.tmp 4,.tmp 5]) J J ⟨aW J,aW J,aP⟩ kY J J
     ·refine cF<|an<|aB J<|zo J (bn aG J J)<|zo J (aR (r:=ac) (ys:=[r3.1]) (xs:=[.tmp 71]) lG aG J J J J J ⟨(ht J),aP⟩)<|bz<|bp h fun x1 q_x1 h=>cg aG J J J J lG J J (ht J) (ht J) q_x1 fun l4 c4=>ba J<|aL<|aj<|ak<|an<|zo rfl (iq (bW hx1 hN1) rfl)<|aB rfl<|aL<|dT<|dT<|dT<|co<|dT ?_;exact aT (aI (ih1 (i1+1) x1 l4 c4 ⟨bV hx1,h⟩) (bh J))
  ·skip
   refine ap<|zo J (bS pl jT J J)<|zo J (bn c0 J J)<|zo J (eH ed J)<|zo J (io J)<|aB J<|cd J J (fun hg=>cr J)<|cd J J (fun hg=>cD E9 (bk J hg))<|cd J J (fun hg=>cA (bk J hg) hI)<|zo J (ms J J)<|al<|bX h J (fun h=>?_) (fun h=>?_)
   ·refine an<|zo J (bM (y:=HU) ue KF xi (J))<|zo J (aR (r:=d9) (ys:=[HU]) (xs:=[.tmp 42]) E9 ue J J J J J ⟨(ht J),aP⟩)<|ba J<|aL ?_;exact cn (K ([HU]) h) (bh J)
   ·refine bi ?_;exact cn (K r1.1 h) (bh J)

end Go.Proofs.YtfhhakidodmdfaaGreatDoor

