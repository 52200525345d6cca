/- cX of this claim: P11. -/
import Derived.Test.YtfhhakidodmdfaaGreatDoorJhT
import Derived.Test.YtfhhakidodmdfaaGreatDoorJhP10
set_option linter.all false
namespace Go.Proofs.YtfhhakidodmdfaaGreatDoor
open Go
set_option maxRecDepth 100000

theorem Nj(b:Nat)(ix:OI)(r:cU)(n:aC){R:(List (List M))×Int}(h:kQ r n=some R):cy aJ 55 [tV (aO b 0),tD aM n] (fG b r ix) (fun _:OI=>tT [bK (cE) R.1,bu R.2]) (fun _=>(fG b r ix)):=by
 refine cy.of Tryz.func55 J J J fun w0 S0=>?_;refine(show CG _ _ _ [bx (rH dn [(1,aQ (ix.h 0).1 (ix.h 0).2 r.rows.length),(2,aQ (ix.h 1).1 (ix.h 1).2 r.width.length)]) 96 b r,db da 32 (ix.h 0).1 (ix.h 0).2 r.rows,db bI 3 (ix.h 1).1 (ix.h 1).2 r.width] _ from ?_);refine ap<|zo J (ff J)<|zo J (aD (show aH _ _ _ pY from gr))<|zo J (bO)<|al<|ap<|bA false cE 43<|zo J (aD mZ)<|al<|ae<|ae<|bp h fun e q_e h=>?_
 refine bZ (ts:=[_,_,_,_,_,_,_,_,_,_]) mixed J J
  ⟨dp 0 J J J (cr J),
  ⟨bH 14 0 J J J (cQ (ht J)),
  ⟨bH 15 1 J J J (gQ 1 l0 J J J),
  ⟨bH 16 2 J J J (cC oL J (.tail _ (.head _)) (.tail _ (.tail _ (.head _))) (ht J)),
  ⟨dp 3 J J J (bS gm cW J J),
  ⟨bH 18 4 J J J (bn bP J J),
  ⟨cO 17 3 19 5 J J J J (bf jH eu J (gz (ht J)) (ht J) q_e),
  ⟨bH 20 6 J J J (bn eu J J),
  ⟨bH 21 7 J J J (eH ge J),
  ⟨Fg J J (br hI),
  aP⟩⟩⟩⟩⟩⟩⟩⟩⟩⟩ ?_
 refine ak<|au<|aU (k:=21) J fun hN=>bo ?_;refine aI (gb (Z:=fun ls i out l c=>(e.drop i=ls)∧gM n ls out=some R) (Of:=fun _ i out l c=>[dJ cE 43 l c out,bx (rH dn [(1,aQ (ix.h 0).1 (ix.h 0).2 r.rows.length),(2,aQ (ix.h 1).1 (ix.h 1).2 r.width.length)]) 96 b r,db da 32 (ix.h 0).1 (ix.h 0).2 r.rows,db bI 3 (ix.h 1).1 (ix.h 1).2 r.width]) (Gf:=fun _ i out l c=>[(3,bv aM n),(6,mp l c out),(21,bK (cE) e),(22,fC e),(23,bu (i:Int))]) (fun i out l c h=>?_) (fun e1 tl ih i out l c h=>?_) e 0 Ak none 0 ⟨J,h⟩) (bh J)
 ·obtain⟨hx,h⟩:=h
  refine aw<|ap<|zo J (dC J J)<|al<|ae<|bm (ht J) (cx hx)<|be ?_;refine af (af (aE ?_));refine ak<|ap<|aB rfl<|ba rfl<|zo rfl (bO)<|al<|ai<|fQ<|ce 6 rfl<|ce 53 rfl<|ce 4 rfl<|fR 4 rfl<|aY<|aK<|aK<|aK ?_;cases so h;exact df (ts:=[bK (cE) out,bu 0]) (rvs:=[.tmp 4,.tmp 5]) J J ⟨aW J,aW J,aP⟩ kY J J
 ·obtain⟨hx,h⟩:=h
  refine aw<|ap<|zo J (dC J J)<|al<|ae<|bl (ht J) (cw hx)<|cF<|ae<|au<|ap<|zo J (gw ge dd J J J (ci hx))<|zo J (bn dd J J)<|ba J<|al<|ap<|bA false ac 46<|zo J (aD mZ)<|aL ?_;refine ak<|ae<|ap<|zo rfl (bS oc kM rfl rfl)<|zo rfl (bn wC rfl rfl)<|zo rfl (eH vb rfl)<|zo rfl (br hI)<|al<|au<|aU (k:=28) J fun hN1=>bo<|gT<|gT<|gT<|kW<|gT ?_;refine aI (gb (Z:=fun ls1 i1 y l1 c1=>(n.Items.drop i1=ls1)∧jv (gM n tl) e1 out ls1 y=some R) (Of:=fun _ i1 y l1 c1=>[dJ cE 43 l c out,dJ ac 46 l1 c1 y,bx (rH dn [(1,aQ (ix.h 0).1 (ix.h 0).2 r.rows.length),(2,aQ (ix.h 1).1 (ix.h 1).2 r.width.length)]) 96 b r,db da 32 (ix.h 0).1 (ix.h 0).2 r.rows,db bI 3 (ix.h 1).1 (ix.h 1).2 r.width]) (Gf:=fun _ i1 y l1 c1=>[(3,bv aM n),(6,mp l c out),(8,bK (ac) e1),(9,mp l1 c1 y),(21,bK (cE) e),(22,fC e),(23,bu (i:Int)),(28,bK (bY) n.Items),(29,fC n.Items),(30,bu (i1:Int))]) (fun i1 y l1 c1 h=>?_) (fun e2 tl1 ih1 i1 y l1 c1 h=>?_) n.Items 0 Aj none 0 ⟨J,h⟩) (bh J)
  ·obtain⟨hx1,h⟩:=h
   refine aw<|ap<|zo J (dC J J)<|al<|ae<|bm (ht J) (cx hx1)<|be ?_;refine af (af (aE ?_));refine ak<|an<|aB rfl<|aB rfl<|bz<|eP<|dZ 9 rfl<|dZ 49 rfl<|zo rfl (aR (r:=cE) (ys:=[y]) (xs:=[.tmp 49]) ge dd J J J J J ⟨(gz (ht J)),aP⟩)<|bz<|bp h fun out1 q_out1 h=>cg dd J J J J ge J J (ht J) (ht J) q_out1 fun l2 c2=>ba J<|aL<|aj<|ak<|an<|zo rfl (iq (bW hx hN) rfl)<|aB rfl<|aL<|bt<|aY ?_;exact aT (aI (ih (i+1) out1 l2 c2 ⟨bV hx,h⟩) (bh J))
  ·obtain⟨hx1,h⟩:=h
   refine aw<|ap<|zo J (dC J J)<|al<|ae<|bl (ht J) (cw hx1)<|cF<|ae<|au<|ap<|zo J (gw vb jg J J J (ci hx1))<|zo J (bn jg J J)<|aV (r:=bY) (x:=vf) jg (fun _=>oM _) J fun b1=>av jg J am J (ht J) (ht J)<|aS 11 J<|al<|ap<|zo J (bn jg J J) ?_;refine aB J<|bp h fun r1 q_r1 h=>zo J (ax HC (A5 _ _ q_r1) ⟨(ht J),(ht J),aP⟩)<|aB J<|zo J (eT J J)<|zo J (eT J J)<|aV (r:=ac) (x:=eS) aG (fun _=>aZ _) J fun b2=>av aG J am J (ht J) (ht J)<|aS 12 J<|ba J<|al<|ae<|ap<|aB J<|zo J (pt J)<|al<|bX h J (fun h=>?_) (fun h=>?_)
   ·refine ap<|aB J<|zo J (aD (show aH _ _ _ pY from gr))<|ba J<|al<|ai ?_;refine aa (aq (aa (aa (aq (aa (aq (aa (aa (aq (aa ?_))))))))));refine aY<|aY<|aK<|aK<|aK ?_;cases so h;exact df (ts:=[bK (cE) ([]),bu r1.2]) (rvs:=[.tmp 4,.tmp 5]) J J ⟨aW J,aW J,aP⟩ kY J J
   ·refine cF<|an<|aB J<|zo J (bn aG J J)<|zo J (aR (r:=ac) (ys:=[r1.1]) (xs:=[.tmp 44]) lG aG J J J J J ⟨(ht J),aP⟩)<|bz<|bp h fun y1 q_y1 h=>cg aG J J J J lG J J (ht J) (ht J) q_y1 fun l3 c3=>ba J<|aL<|aj<|ak<|an<|zo rfl (iq (bW hx1 hN1) rfl)<|aB rfl<|aL<|dT<|dT<|dT<|co<|dT ?_;exact aT (aI (ih1 (i1+1) y1 l3 c3 ⟨bV hx1,h⟩) (bh J))

theorem Cf(l:(List (List M))){R:(List (List M))}(h:tn l=some R):d4 aJ 109 [bK (cE) l] false cE 43 R:=by
 refine d4.of Tryz.func109 J J J fun w0 S0=>ap<|bA false cE 43<|zo J (aD mZ)<|al<|ap<|aB J<|bp h fun r q_r h=>fe KZ (Ce _ q_r) ⟨(ht J),aP⟩ J fun l1 c=>ba J<|al<|ap<|aB J<|bp h fun u7 q_srt h=>?_;refine yr (n:=r.length) qG ?_ HA ?_ q_srt ?_ ?_ ?_ ?_ ?_
 ·rfl
 ·rfl
 ·exact(ht J)
 ·rfl
 ·exact(show aH _ _ _ ((cB aJ yG sI (fun(x:(List M)×(List M))=>nw x.1 x.2)))from(sr Km fun x y h=>AQ _ _ h))
 ·rfl
 intro hl
 refine ky hl 5 J<|ky hl 3 J<|ky hl 6 J<|al<|ap<|aB J<|ba J<|al<|ai ?_;cases so h;exact d7 J J
theorem Ms(l:Option Nat)(c:Nat)(s:(List (List M)))(eq:((List M)→(List M)→Option Bool)){R:(List (List M))}(h:gE s eq=some R):cy aJ 186 [mp l c s,(cB aJ yG ib (fun(x:(List M)×(List M))=>eq x.1 x.2))] [dJ cE 43 l c s] (fun i:OI=>mp (i.h 0).1 (i.h 0).2 R) (fun i=>[dJ cE 43 (i.h 0).1 (i.h 0).2 R]):=by
 refine cy.of Tryz.func186 J J J fun w0 S0=>ap<|bA false cE 43<|zo J (aD mZ)<|al<|ae<|ap<|aB J<|zo J (fO ge (.tail _ (.head _)) (ht J))<|zo J (dO (ht J) hI)<|al<|bX h J (fun h=>?_) (fun h=>?_)
 ·refine ap<|aB J<|ba J<|al<|ai<|aa<|aY ?_;cases so h;exact jl J (oi l c) J J (fun _ _ h=>h)
 ·refine cF<|ae<|ap<|zo J (bO)<|al<|au<|kc (.tail _ (.head _)) fun hN=>bo<|mC ?_;refine aI (cN (Z:=fun ls i=>(s.drop i=ls)∧ei s eq ls i=some R) (Of:=fun _ i=>[dJ cE 43 l c s]) (Gf:=fun _ i=>[(0,mp l c s),(1,(cB aJ yG ib (fun(x:(List M)×(List M))=>eq x.1 x.2))),(5,bu (i:Int))]) (fun i h=>?_) (fun e tl ih i h=>?_) (s.drop (1)) 1 ⟨J,h⟩) (bh J)
  ·obtain⟨hx,h⟩:=h
   refine aw<|ae<|ap<|aB J<|aB J<|zo J (fO ge (.head _) (ht J))<|zo J (dC J J)<|al<|bm (ht J) (cx hx)<|be ?_;refine af (af (aE ?_));refine ak<|ap<|aB rfl<|ba rfl<|al<|ai ?_;cases so h;exact jl J (oi l c) J J (fun _ _ h=>h)
  ·obtain⟨hx,h⟩:=h
   refine aw<|ae<|ap<|aB J<|aB J<|zo J (fO ge (.head _) (ht J))<|zo J (dC J J)<|al<|bl (ht J) (cw hx)<|cF<|ae<|au<|ae<|bp h fun e1 q_e1 h=>bp h fun r q_r h=>?_
   refine bZ (ts:=[_,_,_,_,_,_,_,_,_,_,_]) mixed J J
    ⟨dp 1 J J J (cr J),
    ⟨dp 0 J J J (cr J),
    ⟨dp 5 J J J (cr J),
    ⟨cO 19 1 20 2 J J J J (ck ge dd (.head _) (ht J) (ht J) (ci hx)),
    ⟨bH 21 3 J J J (eo (r:=cE) (i:=(i:Int)) (foff:=0) dd J J bG J (.head _) (ci hx) (ht J)),
    ⟨dp 0 J J J (cr J),
    ⟨dp 5 J J J (cr J),
    ⟨bH 24 6 J J J (eZ (ht J) hI),
    ⟨cO 23 5 25 7 J J J J (ck ge dd (.head _) (ht J) (ht J) q_e1),
    ⟨bH 26 8 J J J (eo (r:=cE) (i:=(IntKind.i64.wrap ((i:Int)-(1:Int)))) (foff:=0) dd J J bG J (.head _) q_e1 (ht J)),
    ⟨y9 18 0 22 4 27 9 J J J J J (dz (args:=Lj) (res:=yH) (f:=(fun(x:(List M)×(List M))=>eq x.1 x.2)) (x:=((e,e1):(List M)×(List M))) (ht J) q_r ⟨(ht J),(ht J),aP⟩),
    aP⟩⟩⟩⟩⟩⟩⟩⟩⟩⟩⟩ ?_
   refine ak<|bX h rfl (fun h=>?_) (fun h=>?_)
   ·refine ap<|aB J<|aB J<|bp h fun y q_y h=>zo J (jN ge dd J (.head _) (ht J) (ht J) q_y)<|je (.head _) q_y fun hv=>ba J<|al<|ae<|ap<|zo J (bO)<|al<|au<|bo ?_;refine aI (Bh (Z:=fun k1 i1 s1 k=>(y.length-i1=k1)∧dl eq i y k1 i1 s1 k=some R) (Of:=fun _ i1 s1 k=>[dJ cE 43 l c s1]) (Gf:=fun _ i1 s1 k=>[(0,mp l c s1),(1,(cB aJ yG ib (fun(x:(List M)×(List M))=>eq x.1 x.2))),(5,bu k),(6,tV (kd 1 l c (i:Int).toNat y.length)),(7,bu (i1:Int))]) (fun i1 s1 k h=>?_) (fun k2 ih1 i1 s1 k h=>?_) (y.length-1) 1 s (i:Int) ⟨J,h⟩) (bh J)
    ·obtain⟨hx1,h⟩:=h
     refine aw<|ae<|ap<|aB J<|aB J<|zo J (wQ ge hv.1 (ht J))<|zo J (dC J J)<|al<|bm (ht J) (LO hx1)<|be ?_;refine af (af (aE ?_));refine ak<|ap<|aB rfl<|aB rfl<|bp h fun y1 q_y1 h=>zo J (jN ge dd J (.head _) (ht J) (ht J) q_y1)<|je (.head _) q_y1 fun hv1=>bp h fun cl q_cl h=>zS dd J J ge (fun _=>⟨none,0,J,ia _,gx _,.inl J⟩) J q_y1 (ht J) (so q_cl)<|fj (sy q_y1 (so q_cl)) 0 J<|fj (sy q_y1 (so q_cl)) 59 J<|al<|ap<|aB J<|aB J<|bp h fun y2 q_y2 h=>zo J (hJ ge dd J (.head _) (ht J) (ht J) q_y2)<|qI q_y2<|ba J<|al ?_;refine ai ?_;refine aq (aa (aa (aq (aa ?_))));cases so h;exact jl J (oi l c) J J (fun _ _ h=>h)
    ·obtain⟨hx1,h⟩:=h
     refine aw<|ae<|ap<|aB J<|aB J<|zo J (wQ ge hv.1 (ht J))<|zo J (dC J J)<|al<|bl (ht J) (LN hx1)<|cF<|ae<|au<|ae<|bp h fun e3 q_e3 h=>bp h fun e4 q_e4 h=>bp h fun r1 q_r1 h=>?_
     refine bZ (ts:=[_,_,_,_,_,_,_,_,_,_,_,_]) mixed J J
      ⟨dp 1 J J J (cr J),
      ⟨dp 6 J J J (cr J),
      ⟨dp 7 J J J (cr J),
      ⟨cO 39 1 40 2 J J J J (jp ge dd J (.head _) (nv q_y) (ht J) (ht J) q_e3),
      ⟨bH 41 3 J J J (eo (r:=cE) (i:=((i:Int)+(i1:Int))) (foff:=0) dd J J bG J (.head _) (lU q_e3).2.2 (ht J)),
      ⟨dp 6 J J J (cr J),
      ⟨dp 7 J J J (cr J),
      ⟨bH 44 6 J J J (eZ (ht J) hI),
      ⟨cO 43 5 45 7 J J J J (jp ge dd J (.head _) (nv q_y) (ht J) (ht J) q_e4),
      ⟨bH 46 8 J J J (eo (r:=cE) (i:=((i:Int)+(IntKind.i64.wrap ((i1:Int)-(1:Int))))) (foff:=0) dd J J bG J (.head _) (lU q_e4).2.2 (ht J)),
      ⟨y9 38 0 42 4 47 9 J J J J J (dz (args:=Lj) (res:=yH) (f:=(fun(x:(List M)×(List M))=>eq x.1 x.2)) (x:=((e3,e4):(List M)×(List M))) (ht J) q_r1 ⟨(ht J),(ht J),aP⟩),
      ⟨bH 48 10 J J J (cH (ht J)),
      aP⟩⟩⟩⟩⟩⟩⟩⟩⟩⟩⟩⟩ ?_
     refine ak<|bX h rfl (fun h=>?_) (fun h=>?_)
     ·refine ap<|aB J<|aB J<|aB J<|aB J<|bp h fun e5 q_e5 h=>zo J (jp ge dd J (.head _) (nv q_y) (ht J) (ht J) q_e5)<|zo J (eo (r:=cE) (i:=((i:Int)+(i1:Int))) (foff:=0) dd J J bG J (.head _) (lU q_e5).2.2 (ht J))<|bp h fun e6 q_e6 h=>zo J (ck ge dd (.head _) (ht J) (ht J) q_e6)<|bp h fun st q_st h=>nD dd J am J q_e6 (so q_st) (ht J) (ht J)<|fj (iS (so q_st)) 0 J<|fj (iS (so q_st)) 50 J<|al<|an<|aB J<|zo J (fF (ht J) hI)<|ba J<|aL<|aj<|ak ?_;refine an<|aB J<|zo J (sj (GB hx1 (Ih hv.2)) (ht J) hI)<|ba J<|aL ?_;exact aT (aI (ih1 (i1+1) st (IntKind.i64.wrap (k+(1:Int))) ⟨GA hx1,h⟩) (bh J))
     ·refine bi<|aj<|ak<|an<|aB rfl<|zo rfl (sj (GB hx1 (Ih hv.2)) (ht rfl) hI)<|ba rfl<|aL ?_;exact aT (aI (ih1 (i1+1) s1 k ⟨GA hx1,h⟩) (bh J))
   ·refine bi<|aj<|ak<|an<|aB rfl<|zo rfl (iq (bW hx hN) rfl)<|ba rfl<|aL ?_;exact aT (aI (ih (i+1) ⟨bV hx,h⟩) (bh J))

theorem Kb(l:(List (List M))){R:(List (List M))×Int}(h:ui l=some R):aN aJ 108 [bK (cE) l] (tT [bK (cE) R.1,bu R.2]):=by
 refine aN.of Tryz.func108 J J J fun w0 S0=>ap<|zo J (aD (show aH _ _ _ pY from gr))<|zo J (bO)<|al<|ae<|ap<|aB J<|zo J (aR (r:=da) (ys:=[l]) (xs:=[.tmp 5]) jH eu J J J J J ⟨(ht J),aP⟩)<|bp h fun r q_r h=>zo J (ax MB (DG _ q_r) ⟨(ht J),aP⟩)<|ba J<|al<|ap<|aB J<|zo J (pt J)<|al<|bX h J (fun h=>?_) (fun h=>?_)
 ·refine ap<|aB J<|zo J (aD (show aH _ _ _ pY from gr))<|ba J<|al<|ai<|aa ?_;cases so h;exact ca J J J
 ·refine cF<|ap<|aB J<|bp h fun r1 q_r1 h=>fe K6 (Cf _ q_r1) ⟨(ht J),aP⟩ J fun l1 c=>bp h fun r2 q_r2 h=>uY [dJ cE 43 l1 c r1] _ J Pb (Ms l1 c _ _ q_r2) ⟨(ht J),(sr Ns fun x y h=>GQ _ _ h),aP⟩ J fun i=>?_;refine(show RG _ _ _ _ [dJ cE 43 (i.h 0).1 (i.h 0).2 r2] ((13,mp (i.h 0).1 (i.h 0).2 r2)::_)from ?_);refine ba J<|zo J (bO)<|al<|ai<|fQ<|ce 2 J<|ce 13 J<|fR 2 J<|aY ?_;cases so h;exact ca J J J

theorem Ni(b:Nat)(ix:OI)(r:cU)(n:aC){R:(List (List M))×Int}(h:kj r n=some R):cy aJ 56 [tV (aO b 0),tD aM n] (fG b r ix) (fun _:OI=>tT [bK (cE) R.1,bu R.2]) (fun _=>(fG b r ix)):=by
 refine cy.of Tryz.func56 J J J fun w0 S0=>?_;refine(show CG _ _ _ [bx (rH dn [(1,aQ (ix.h 0).1 (ix.h 0).2 r.rows.length),(2,aQ (ix.h 1).1 (ix.h 1).2 r.width.length)]) 96 b r,db da 32 (ix.h 0).1 (ix.h 0).2 r.rows,db bI 3 (ix.h 1).1 (ix.h 1).2 r.width] _ from ?_);refine ap<|zo J (ff J)<|zo J (aD (show aH _ _ _ pY from gr))<|zo J (bO)<|al<|ae<|bp h fun e q_e h=>bp h fun r1 q_r1 h=>?_
 refine bZ (ts:=[_,_,_,_,_,_,_,_,_,_,_,_,_]) mixed J J
  ⟨dp 0 J J J (cr J),
  ⟨bH 6 0 J J J (cQ (ht J)),
  ⟨bH 7 1 J J J (gQ 1 l0 J J J),
  ⟨bH 8 2 J J J (cC oL J (.head _) (.tail _ (.head _)) (ht J)),
  ⟨dp 3 J J J (bS gm cW J J),
  ⟨bH 10 4 J J J (bn bP J J),
  ⟨cO 9 3 11 5 J J J J (bf jH eu J (gz (ht J)) (ht J) q_e),
  ⟨bH 12 6 J J J (bn eu J J),
  ⟨bH 13 7 J J J (ax PL (Kb _ q_r1) ⟨(ht J),aP⟩),
  ⟨bH 14 8 J J J (eT J J),
  ⟨bH 14 8 J J J (eT J J),
  ⟨bH 15 9 J J J (pe J),
  ⟨bH 16 10 J J J (pe J),
  aP⟩⟩⟩⟩⟩⟩⟩⟩⟩⟩⟩⟩⟩ ?_
 refine ak<|ai<|aK<|aK<|aK ?_;cases so h;exact df (ts:=[bK (cE) r1.1,bu r1.2]) (rvs:=[.tmp 4,.tmp 5]) J J ⟨aW J,aW J,aP⟩ kY J J

theorem Ha(n:Int){R:(List (List M))}(h:jy n=some R):d4 aJ 162 [tV (.slice none 0 0),bu n] false cE 43 R:=by
 refine d4.of Tryz.func162 J J J fun w0 S0=>ap<|bA false cE 43<|zo J (aD mZ)<|al ?_;refine pS (Z:=iC n=some R) (Of:=[]) (Gf:=[(0,tV (.slice none 0 0)),(1,bu n)]) (fun h=>?_) (fun K=>?_)
 ·skip
  refine sF (Z:=fun s l c=>fx s=some R) (Of:=fun s l c=>[dJ cE 43 l c s]) (Gf:=fun s l c=>[(0,mp l c s)]) (fun s l c h=>?_) (fun K1=>?_)
  ·skip
   refine ap<|aB J<|ba J<|al<|ai ?_;cases so h;exact d7 J J
  ·skip
   refine ap<|aB J<|aB J<|zo J (nB ge (ht J))<|aB J<|zo J (ny ge (ht J))<|zo J (eZ (ht J) (ht J))<|zo J (eZ (ht J) (ht J))<|ba J<|al<|ap<|aB J<|zo J (eb (ht J) hI)<|al<|bX h J (fun h=>?_) (fun h=>?_)
   ·refine an<|aB J<|aB J<|zo J (nB ge (ht J))<|zo J (rD ge dd (ht J) (ht J))<|aB J<|bp h fun u q_u h=>bp h fun mk q_mk h=>tP (rW (r:=cE) (x:=[]) dd J J J J ge nE (fun _=>⟨none,0,J,ia _,gx _,.inl J⟩) (ht J) (ht J) (xZ q_u) q_mk) J fun i=>aB J<|zo J (ny ge (ht J))<|bp h fun y q_y h=>zo J (hJ ge dd J (.head _) (ht J) (ht J) q_y)<|qI q_y<|ba J<|aL ?_;exact cn (K1 y (i.h 0).1 (i.h 0).2 h) (bh J)
   ·refine bi<|yB false cE 43 ?_;exact cn (K1 Ak none 0 h) (bh J)
 ·skip
  refine ap<|aB J<|zo J (dO (ht J) hI)<|al<|bX h J (fun h=>?_) (fun h=>?_)
  ·refine an ?_;exact(nn h).elim
  ·refine bi<|aY ?_;exact cn (K h) (bh J)
theorem Is(slices:(List (List (List M)))){R:(List (List M))}(h:fE slices=some R):d4 aJ 98 [bK (da) slices] false cE 43 R:=by
 refine d4.of Tryz.func98 J J J fun w0 S0=>ap<|bA false cE 43<|zo J (aD mZ)<|al<|ap<|zo J (bO)<|al<|ae<|ap<|aB J<|zo J (eH jH J)<|zo J (br hI)<|al<|au<|aU (k:=9) J fun hN=>bo<|mC ?_;refine aI (jk (Z:=fun ls i size=>(slices.drop i=ls)∧eX slices ls size=some R) (Of:=fun _ i size=>[]) (Gf:=fun _ i size=>[(0,bK (da) slices),(3,bu size),(9,bK (da) slices),(10,fC slices),(11,bu (i:Int))]) (fun i size h=>?_) (fun e tl ih i size h=>?_) slices 0 (0:Int) ⟨J,h⟩) (bh J)
 ·obtain⟨hx,h⟩:=h
  refine aw<|ap<|zo J (dC J J)<|al<|ae<|bm (ht J) (cx hx)<|be ?_;refine af (af (aE ?_));refine ak<|ap<|aB rfl<|bp h fun r q_r h=>fe Pt (Ha _ q_r) ⟨hV,(ht J),aP⟩ J fun l c=>ba J<|al<|ae<|ap<|aB J<|zo J (eH jH J)<|zo J (br hI)<|al<|au<|aU (k:=25) J fun hN1=>bo ?_;refine aI (gb (Z:=fun ls1 i1 newslice l1 c1=>(slices.drop i1=ls1)∧eW ls1 newslice=some R) (Of:=fun _ i1 newslice l1 c1=>[dJ cE 43 l1 c1 newslice]) (Gf:=fun _ i1 newslice l1 c1=>[(6,mp l1 c1 newslice),(25,bK (da) slices),(26,fC slices),(27,bu (i1:Int))]) (fun i1 newslice l1 c1 h=>?_) (fun e1 tl1 ih1 i1 newslice l1 c1 h=>?_) slices 0 r l c ⟨J,h⟩) (bh J)
  ·obtain⟨hx1,h⟩:=h
   refine aw<|ap<|zo J (dC J J)<|al<|ae<|bm (ht J) (cx hx1)<|be ?_;refine af (af (aE ?_));refine ak<|ap<|aB rfl<|ba rfl<|al<|ai ?_;cases so h;exact d7 J J
  ·obtain⟨hx1,h⟩:=h
   refine aw<|ap<|zo J (dC J J)<|al<|ae<|bl (ht J) (cw hx1)<|cF<|ae<|au<|ap<|zo J (gw jH eu J J J (ci hx1))<|zo J (bn eu J J)<|ba J<|al<|an<|aB J<|aB J<|bp h fun newslice1 q_newslice1 h=>cg dd J J J J ge J J (ht J) (ht J) q_newslice1 fun l2 c2=>?_;refine ba J<|aL<|aj<|ak<|an<|zo rfl (iq (bW hx1 hN1) rfl)<|aB rfl<|aL ?_;exact aT (aI (ih1 (i1+1) newslice1 l2 c2 ⟨bV hx1,h⟩) (bh J))
 ·obtain⟨hx,h⟩:=h
  refine aw<|ap<|zo J (dC J J)<|al<|ae<|bl (ht J) (cw hx)<|cF<|ae<|au<|ap<|zo J (gw jH eu J J J (ci hx))<|zo J (bn eu J J)<|ba J<|al<|ap<|aB J<|aB J<|zo J (eH ge J) ?_;refine zo J (fF (ht J) (ht J))<|ba J<|al<|ap<|aB J<|zo J (dO (ht J) hI)<|al<|bX h J (fun h=>?_) (fun h=>?_)
  ·refine an ?_;exact(nn h).elim
  ·refine bi<|aj<|ak<|an<|zo rfl (iq (bW hx hN) rfl)<|aB rfl<|aL ?_;exact aT (aI (ih (i+1) (IntKind.i64.wrap (size+(e.length:Int))) ⟨bV hx,h⟩) (bh J))
theorem L1(slices:(List (List (List M)))){R:(List (List M))}(h:fE slices=some R):aN aJ 98 [bK (da) slices] (bK (cE) R):=(Is _ h).spec

theorem Nh(b:Nat)(ix:OI)(r:cU)(n:aC){R:(List (List M))×Int}(h:mf r n=some R):cy aJ 57 [tV (aO b 0),tD aM n] (fG b r ix) (fun _:OI=>tT [bK (cE) R.1,bu R.2]) (fun _=>(fG b r ix)):=by
 refine cy.of Tryz.func57 J J J fun w0 S0=>?_;refine(show CG _ _ _ [bx (rH dn [(1,aQ (ix.h 0).1 (ix.h 0).2 r.rows.length),(2,aQ (ix.h 1).1 (ix.h 1).2 r.width.length)]) 96 b r,db da 32 (ix.h 0).1 (ix.h 0).2 r.rows,db bI 3 (ix.h 1).1 (ix.h 1).2 r.width] _ from ?_);refine ap<|zo J (ff J)<|zo J (aD (show aH _ _ _ pY from gr))<|zo J (bO)<|al<|ae<|bp h fun e q_e h=>bp h fun e1 q_e1 h=>bp h fun r1 q_r1 h=>?_
 refine bZ (ts:=[_,_,_,_,_,_,_,_,_,_,_,_,_,_,_,_,_,_,_,_]) mixed J J
  ⟨dp 0 J J J (cr J),
  ⟨bH 6 0 J J J (cQ (ht J)),
  ⟨bH 7 1 J J J (gQ 1 l0 J J J),
  ⟨bH 8 2 J J J (cC oL J (.head _) (.tail _ (.head _)) (ht J)),
  ⟨dp 3 J J J (bS gm cW J J),
  ⟨bH 10 4 J J J (bn bP J J),
  ⟨cO 9 3 11 5 J J J J (bf jH eu J (gz (ht J)) (ht J) q_e),
  ⟨bH 12 6 J J J (bn eu J J),
  ⟨dp 0 J J J (cr J),
  ⟨bH 14 8 J J J (cQ (ht J)),
  ⟨bH 15 9 J J J (gQ 1 l0 J J J),
  ⟨bH 16 10 J J J (cC oL J (.head _) (.tail _ (.head _)) (ht J)),
  ⟨dp 3 J J J (bS m2 gJ J J),
  ⟨bH 18 12 J J J (bn bP J J),
  ⟨cO 17 11 19 13 J J J J (bf jH eu J (gz (ht J)) (ht J) q_e1),
  ⟨bH 20 14 J J J (bn eu J J),
  ⟨cO 13 7 21 15 J J J J (aR (r:=da) (ys:=[e,e1]) (xs:=[.tmp 13,.tmp 21]) jH eu J J J J J ⟨(ht J),(ht J),aP⟩),
  ⟨bH 22 16 J J J (ax Qv (L1 _ q_r1) ⟨(ht J),aP⟩),
  ⟨bH 23 17 J J J (pe J),
  ⟨Fg J J (bO),
  aP⟩⟩⟩⟩⟩⟩⟩⟩⟩⟩⟩⟩⟩⟩⟩⟩⟩⟩⟩⟩ ?_
 refine ak<|ai<|aK<|aK<|aK ?_;cases so h;exact df (ts:=[bK (cE) r1,bu 0]) (rvs:=[.tmp 4,.tmp 5]) J J ⟨aW J,aW J,aP⟩ kY J J

theorem J0(order:(List ik))(a1:(List M))(b:(List M)){R:Int}(h:rY order a1 b=some R):aN aJ 154 [bK (ac) a1,bK (ac) b,bv (ea eK) order] (bu R):=by
 refine aN.of Tryz.func154 J J J fun w0 S0=>ap<|zo J (bO)<|al<|ae<|ap<|zo J (bn BB J J)<|zo J (eH Ae J)<|zo J (br hI)<|al<|au<|aU (k:=9) J fun hN=>bo ?_;refine aI (cN (Z:=fun ls i=>(order.drop i=ls)∧jW a1 b ls=some R) (Of:=fun _ i=>[]) (Gf:=fun _ i=>[(0,bK (ac) a1),(1,bK (ac) b),(9,bK (eK) order),(10,fC order),(11,bu (i:Int))]) (fun i h=>?_) (fun e tl ih i h=>?_) order 0 ⟨J,h⟩) (bh J)
 ·obtain⟨hx,h⟩:=h
  refine aw<|ap<|zo J (dC J J)<|al<|ae<|bm (ht J) (cx hx)<|be ?_;refine af (af (aE ?_));refine ak<|ap<|aB rfl<|aB rfl<|bp h fun r q_r h=>zo J (ax Ny (GX _ _ q_r) ⟨(ht J),(ht J),aP⟩)<|ba J<|al<|ai ?_;cases so h;exact ay J J
 ·obtain⟨hx,h⟩:=h
  refine aw<|ap<|zo J (dC J J)<|al<|ae<|bl (ht J) (cw hx)<|cF<|ae<|au<|ap<|zo J (gw Ae BA J J J (ci hx))<|zo J (bn BA J J)<|aV (r:=eK) (x:=(⟨(0:Int),false⟩:ik)) BA (fun _=>Lg _) J fun b1=>av BA J am J (ht J) (ht J)<|aS 7 J<|al<|ae<|bp h fun e1 q_e1 h=>bp h fun e2 q_e2 h=>?_
  obtain⟨r1,q_r1,h⟩:=bs h
  refine bZ (ts:=[_,_,_,_,_,_,_,_,_,_,_,_]) mixed J J
   ⟨dp 0 J J J (cr J),
   ⟨dp 7 J J J (bS AO uF J J),
   ⟨bH 16 1 J J J (bn bP J J),
   ⟨cO 15 0 17 2 J J J J (gw lG aG J J J q_e1),
   ⟨bH 18 3 J J J (bn aG J J),
   ⟨dp 1 J J J (cr J),
   ⟨dp 7 J J J (bS AO uF J J),
   ⟨bH 21 6 J J J (bn bP J J),
   ⟨cO 20 5 22 7 J J J J (gw lG aG J J J q_e2),
   ⟨bH 23 8 J J J (bn aG J J),
   ⟨cO 19 4 24 9 J J J J (ax HB (A4 _ _ q_r1) ⟨(ht J),(ht J),aP⟩),
   ⟨bH 25 10 J J J (pe J),
   aP⟩⟩⟩⟩⟩⟩⟩⟩⟩⟩⟩⟩ ?_
  refine ak ?_;refine gv (Z:=fun n=>oq (jW a1 b tl) n=some R) (Of:=fun n=>[]) (Gf:=fun n=>[(0,bK (ac) a1),(1,bK (ac) b),(8,bu n),(9,bK (eK) order),(10,fC order),(11,bu (i:Int))]) (fun n h=>?_) (fun K=>?_)
  ·skip
   refine ap<|aB J<|zo J (pt J)<|al<|bX h J (fun h=>?_) (fun h=>?_)
   ·refine ap<|aB J<|ba J<|al<|ai ?_;refine aq (aa (aa (aq (aa ?_))));cases so h;exact ay J J
   ·refine bi<|aj<|ak<|an<|zo rfl (iq (bW hx hN) rfl)<|aB rfl<|aL ?_;exact aT (aI (ih (i+1) ⟨bV hx,h⟩) (bh J))
  ·skip
   refine ap<|zo J (bS LZ GO J J)<|zo J (bn BC J J)<|al<|bX h J (fun h=>?_) (fun h=>?_)
   ·refine an<|aB J<|zo J (AC (ht J))<|ba J<|aL ?_;exact cn (K (IntKind.i64.wrap (0-r1)) h) (bh J)
   ·refine bi ?_;exact cn (K r1 h) (bh J)

theorem L2(order:(List ik)){R:((List M)→(List M)→Option Int)}(h:zJ order=some R):aN aJ 89 [bK (eK) order] ((cB aJ yG sI (fun(x:(List M)×(List M))=>R x.1 x.2))):=by
 refine aN.of Tryz.func89 J J J fun w0 S0=>ap<|zo J (ff J)<|zo J (aD hV)<|al<|ap<|zo J ((show bB _ _ _ _ ((cB aJ yG sI (fun(x:(List M)×(List M))=>(rY order) x.1 x.2)))from eB (cts:=[bv (ea eK) order]) (caps:=[.tmp 1]) Pz ⟨(ht J),aP⟩ (fun x y h=>J0 _ _ _ h)))<|ba J<|al<|ai ?_;cases so h;exact ay J J

theorem Iu(rows:(List (List M)))(order:(List ik))(limit:Int){R:(List (List M))}(h:po rows order limit=some R):d4 aJ 86 [bK (cE) rows,bK (eK) order,bu limit] false cE 43 R:=by
 refine d4.of Tryz.func86 J J J fun w0 S0=>ap<|bA false cE 43<|zo J (aD mZ)<|al<|ap<|bA false cE 43<|zo J (aD mZ)<|al<|ae<|ap<|aB J<|zo J (eH ge J)<|zo J (br hI)<|al<|au<|aU (k:=10) J fun hN=>bo ?_;refine fA<|mC ?_;refine aI (gb (Z:=fun ls i out l c=>(rows.drop i=ls)∧md order limit ls out=some R) (Of:=fun _ i out l c=>[dJ cE 43 l c out]) (Gf:=fun _ i out l c=>[(1,bK (eK) order),(2,bu limit),(7,mp l c out),(10,bK (cE) rows),(11,fC rows),(12,bu (i:Int))]) (fun i out l c h=>?_) (fun e tl ih i out l c h=>?_) rows 0 Ak none 0 ⟨J,h⟩) (bh J)
 ·obtain⟨hx,h⟩:=h
  refine aw<|ap<|zo J (dC J J)<|al<|ae<|bm (ht J) (cx hx)<|be ?_;refine af (af (aE ?_));refine ak<|ap<|aB rfl<|aB rfl<|bp h fun r q_r h=>zo J (ax Qy (L2 _ q_r) ⟨(ht J),aP⟩)<|bp h fun u7 q_srt h=>?_;refine yr (n:=out.length) qG ?_ HA ?_ q_srt ?_ ?_ ?_ ?_ ?_
  ·rfl
  ·rfl
  ·exact(ht J)
  ·rfl
  ·exact(ht J)
  ·rfl
  intro hl
  refine ky hl 7 J<|ky hl 22 J<|al ?_;refine sF (Z:=fun out1 l1 c1=>me out1=some R) (Of:=fun out1 l1 c1=>[dJ cE 43 l1 c1 out1]) (Gf:=fun out1 l1 c1=>[(7,mp l1 c1 out1)]) (fun out1 l1 c1 h=>?_) (fun K=>?_)
  ·skip
   refine ap<|aB J<|ba J<|al<|ai ?_;cases so h;exact d7 J J
  ·skip
   refine ap<|aB J<|zo J (dU (ht J) hI)<|aB J<|cd J J (fun hg=>cr J)<|cd J J (fun hg=>cr J)<|cd J J (fun hg=>fO ge (.head _) (bk J hg))<|cd J J (fun hg=>dO (bk J hg) (bk J hg))<|zo J (ms J J)<|al<|bX h J (fun h=>?_) (fun h=>?_)
   ·refine an<|aB J<|aB J<|bp h fun y q_y h=>zo J (hJ ge dd J (.head _) (ht J) (ht J) q_y)<|qI q_y<|ba J<|aL ?_;exact cn (K y l c h) (bh J)
   ·refine bi ?_;exact cn (K u7 l c h) (bh J)
 ·obtain⟨hx,h⟩:=h
  refine aw<|ap<|zo J (dC J J)<|al<|ae<|bl (ht J) (cw hx)<|cF<|ae<|au<|ap<|zo J (gw ge dd J J J (ci hx))<|zo J (bn dd J J)<|ba J<|al<|an<|aB J<|aB J<|bp h fun r1 q_r1 h=>fe HD (yj _ q_r1) ⟨(ht J),aP⟩ J fun l2 c2=>?_;refine eP<|dZ 18 J<|zo J (aR (r:=cE) (ys:=[r1]) (xs:=[.tmp 18]) ge dd J J J J J ⟨(gz (ht J)),aP⟩)<|bz<|bp h fun out2 q_out2 h=>cg dd J J J J ge J J (ht J) (ht J) q_out2 fun l3 c3=>ba J<|aL<|aj<|ak<|an<|zo rfl (iq (bW hx hN) rfl)<|aB rfl<|aL<|bt<|aY ?_;exact aT (aI (ih (i+1) out2 l3 c3 ⟨bV hx,h⟩) (bh J))
theorem L4(rows:(List (List M)))(order:(List ik))(limit:Int){R:(List (List M))}(h:po rows order limit=some R):aN aJ 86 [bK (cE) rows,bK (eK) order,bu limit] (bK (cE) R):=(Iu _ _ _ h).spec

end Go.Proofs.YtfhhakidodmdfaaGreatDoor

