/- cd of this claim: P1. -/
import Derived.Test.YtmogpgcfognefaaGreatDoorNcT
import Derived.Test.YtmogpgcfognefaaGreatDoorNcP0
set_option linter.all false
namespace Go.Proofs.YtmogpgcfognefaaGreatDoor
open Go
set_option maxRecDepth 100000

theorem BI(e:bT){R:Int}(h:lC e=some R):aW aM 66 [tD cm e] (bQ R):=by
 refine aW.of Tryz.func66 J J J fun w0 S0=>au<|zo J (kZ J)<|zo J (dA)<|ap<|ae<|au<|zo J (bw kV J J)<|bF h fun r q_r h=>zo J (aJ Mw (FV _ q_r) ⟨(ht J),be⟩)<|ax J<|zo J (lg J J)<|zo J (lg J J)<|bo J<|bo J<|ap<|au<|ax J<|zo J (dn (ht J)) ?_;refine ap<|dh h J (fun h=>?_) (fun h=>?_)
 ·refine au<|zo J (dA)<|ap<|al<|aa ?_;cases so h;exact aB J J
 ·refine dz<|au<|zo J (dA)<|ap<|al ?_;cases so h;exact aB J J

theorem NX(l:Option Nat)(c:Nat)(s:(List Int)){R:(List Int)}(h:gL s=some R):eV aM 117 [nJ l c s] [cC bV 3 l c s] (fun i:OI=>nJ (i.h 0).1 (i.h 0).2 R) (fun i=>[cC bV 3 (i.h 0).1 (i.h 0).2 R]):=by
 refine eV.of Tryz.func117 J J J fun w0 S0=>au<|ci false bV 3<|zo J (a8 rQ)<|ap<|ae<|au<|ax J<|zo J (eT dd (.tail _ (.head _)) (ht J))<|zo J (ep (ht J) hI)<|ap<|dh h J (fun h=>?_) (fun h=>?_)
 ·refine au<|ax J<|bo J<|ap<|al<|aa<|bv ?_;cases so h;exact cX J (oi l c) J J (fun _ _ h=>h)
 ·refine dz<|ae<|au<|zo J (dA)<|ap<|av<|kQ (.tail _ (.head _)) fun hN=>bu<|nd ?_;refine aG (dk (Z:=fun ls i=>(s.drop i=ls)∧dC s ls i=some R) (Of:=fun _ i=>[cC bV 3 l c s]) (Gf:=fun _ i=>[(0,nJ l c s),(3,bQ (i:Int))]) (fun i h=>?_) (fun e tl ih i h=>?_) (s.drop (1)) 1 ⟨J,h⟩) (aX J)
  ·obtain⟨hx,h⟩:=h
   refine aq<|ae<|au<|ax J<|ax J<|zo J (eT dd (.head _) (ht J))<|zo J (eD J J)<|ap<|bn (ht J) (cW hx)<|aY ?_;refine ac (ac (aC ?_));refine am<|au<|ax rfl<|bo rfl<|ap<|al ?_;cases so h;exact cX J (oi l c) J J (fun _ _ h=>h)
  ·obtain⟨hx,h⟩:=h
   refine aq<|ae<|au<|ax J<|ax J<|zo J (eT dd (.head _) (ht J))<|zo J (eD J J)<|ap<|bm (ht J) (cR hx)<|dz<|ae<|av<|ae<|bF h fun e1 q_e1 h=>?_
   refine eb (ts:=[_,_,_,_,_,_,_,_,_,_]) mixed J J
    ⟨gF 0 J J J (cz J),
    ⟨gF 3 J J J (cz J),
    ⟨eu 16 0 17 1 J J J J (cH dd bK (.head _) (ht J) (ht J) (cS hx)),
    ⟨cL 18 2 J J J (ew (r:=bV) (i:=(i:Int)) (foff:=0) bK J J cO J (.head _) (cS hx) (ht J)),
    ⟨gF 0 J J J (cz J),
    ⟨gF 3 J J J (cz J),
    ⟨cL 21 5 J J J (gj (ht J) hI),
    ⟨eu 20 4 22 6 J J J J (cH dd bK (.head _) (ht J) (ht J) q_e1),
    ⟨cL 23 7 J J J (ew (r:=bV) (i:=(IntKind.i64.wrap ((i:Int)-(1:Int)))) (foff:=0) bK J J cO J (.head _) q_e1 (ht J)),
    ⟨eu 19 3 24 8 J J J J (bD (ht J) (ht J)),
    be⟩⟩⟩⟩⟩⟩⟩⟩⟩⟩ ?_
   refine am<|dh h rfl (fun h=>?_) (fun h=>?_)
   ·refine au<|ax J<|ax J<|bF h fun y q_y h=>zo J (lJ dd bK J (.head _) (ht J) (ht J) q_y)<|mr (.head _) q_y fun hv=>bo J<|ap<|ae<|au<|zo J (dA)<|ap<|av<|bu ?_;refine aG (Gc (Z:=fun k1 i1 s1 k=>(y.length-i1=k1)∧di i y k1 i1 s1 k=some R) (Of:=fun _ i1 s1 k=>[cC bV 3 l c s1]) (Gf:=fun _ i1 s1 k=>[(0,nJ l c s1),(3,bQ k),(4,tV (jY 1 l c (i:Int).toNat y.length)),(5,bQ (i1:Int))]) (fun i1 s1 k h=>?_) (fun k2 ih1 i1 s1 k h=>?_) (y.length-1) 1 s (i:Int) ⟨J,h⟩) (aX J)
    ·obtain⟨hx1,h⟩:=h
     refine aq<|ae<|au<|ax J<|ax J<|zo J (Fv dd hv.1 (ht J))<|zo J (eD J J)<|ap<|bn (ht J) (Nb hx1)<|aY ?_;refine ac (ac (aC ?_));refine am<|au<|ax rfl<|ax rfl<|bF h fun y1 q_y1 h=>zo J (lJ dd bK J (.head _) (ht J) (ht J) q_y1)<|mr (.head _) q_y1 fun hv1=>bF h fun cl q_cl h=>Hz bK J J dd (fun _=>J) J q_y1 (ht J) (so q_cl)<|ji (AL q_y1 (so q_cl)) 0 J<|ji (AL q_y1 (so q_cl)) 54 J<|ap<|au<|ax J<|ax J<|bF h fun y2 q_y2 h=>zo J (kq dd bK J (.head _) (ht J) (ht J) q_y2)<|y5 q_y2<|bo J<|ap ?_;refine al ?_;refine aA (aa (aa (aA (aa ?_))));cases so h;exact cX J (oi l c) J J (fun _ _ h=>h)
    ·obtain⟨hx1,h⟩:=h
     refine aq<|ae<|au<|ax J<|ax J<|zo J (Fv dd hv.1 (ht J))<|zo J (eD J J)<|ap<|bm (ht J) (Na hx1)<|dz<|ae<|av<|ae<|bF h fun e3 q_e3 h=>bF h fun e4 q_e4 h=>?_
     refine eb (ts:=[_,_,_,_,_,_,_,_,_,_]) mixed J J
      ⟨gF 4 J J J (cz J),
      ⟨gF 5 J J J (cz J),
      ⟨eu 35 0 36 1 J J J J (pB dd bK J (.head _) (vp q_y) (ht J) (ht J) q_e3),
      ⟨cL 37 2 J J J (ew (r:=bV) (i:=((i:Int)+(i1:Int))) (foff:=0) bK J J cO J (.head _) (sC q_e3).2.2 (ht J)),
      ⟨gF 4 J J J (cz J),
      ⟨gF 5 J J J (cz J),
      ⟨cL 40 5 J J J (gj (ht J) hI),
      ⟨eu 39 4 41 6 J J J J (pB dd bK J (.head _) (vp q_y) (ht J) (ht J) q_e4),
      ⟨cL 42 7 J J J (ew (r:=bV) (i:=((i:Int)+(IntKind.i64.wrap ((i1:Int)-(1:Int))))) (foff:=0) bK J J cO J (.head _) (sC q_e4).2.2 (ht J)),
      ⟨eu 38 3 43 8 J J J J (cZ (ht J) (ht J)),
      be⟩⟩⟩⟩⟩⟩⟩⟩⟩⟩ ?_
     refine am<|dh h rfl (fun h=>?_) (fun h=>?_)
     ·refine au<|ax J<|ax J<|ax J<|ax J<|bF h fun e5 q_e5 h=>zo J (pB dd bK J (.head _) (vp q_y) (ht J) (ht J) q_e5)<|zo J (ew (r:=bV) (i:=((i:Int)+(i1:Int))) (foff:=0) bK J J cO J (.head _) (sC q_e5).2.2 (ht J))<|bF h fun e6 q_e6 h=>zo J (cH dd bK (.head _) (ht J) (ht J) q_e6)<|bF h fun st q_st h=>m2 bK J ay J q_e6 (so q_st) (ht J) (ht J)<|ji (iO (so q_st)) 0 J<|ji (iO (so q_st)) 45 J<|ap<|ai<|ax J<|zo J (kw (ht J) hI)<|bo J<|aH<|ak<|am ?_;refine ai<|ax J<|zo J (uy (J9 hx1 (Nc hv.2)) (ht J) hI)<|bo J<|aH ?_;exact aO (aG (ih1 (i1+1) st (IntKind.i64.wrap (k+(1:Int))) ⟨J8 hx1,h⟩) (aX J))
     ·refine bt<|ak<|am<|ai<|ax rfl<|zo rfl (uy (J9 hx1 (Nc hv.2)) (ht rfl) hI)<|bo rfl<|aH ?_;exact aO (aG (ih1 (i1+1) s1 k ⟨J8 hx1,h⟩) (aX J))
   ·refine bt<|ak<|am<|ai<|ax rfl<|zo rfl (jN (cy hx hN) rfl)<|bo rfl<|aH ?_;exact aO (aG (ih (i+1) ⟨cx hx,h⟩) (aX J))

theorem Kl(e:bT){R:(List Int)}(h:pZ e=some R):io aM 67 [tD cm e] false bV 3 R:=by
 refine io.of Tryz.func67 J J J fun w0 S0=>au<|zo J (kZ J)<|ci false bV 3<|zo J (a8 rQ)<|ap<|ae<|au<|zo J (bw kV J J)<|bF h fun r q_r h=>zo J (aJ LQ (BI _ q_r) ⟨(ht J),be⟩)<|zo J (qZ J)<|ap<|dh h J (fun h=>?_) (fun h=>?_)
 ·refine au<|ci false bV 3<|zo J (a8 rQ)<|ap<|al<|aa ?_;cases so h;exact iT J J
 ·refine dz<|au<|ci false bV 3<|zo J (a8 rQ)<|ap<|ae<|au<|zo J (bY fV dj J J)<|zo J (bw mJ J J)<|zo J (gJ kE J)<|zo J (bg hI)<|ap<|av<|aP (k:=10) J fun hN=>bu<|fe<|nd ?_;refine aG (ld (Z:=fun ls i out l c=>(e.Nodes.drop i=ls)∧jB ls out=some R) (Of:=fun _ i out l c=>[cC bV 3 l c out]) (Gf:=fun _ i out l c=>[(3,nJ l c out),(10,d6 (bh) e.Nodes),(11,gR e.Nodes),(12,bQ (i:Int))]) (fun i out l c h=>?_) (fun e1 tl ih i out l c h=>?_) e.Nodes 0 lS none 0 ⟨J,h⟩) (aX J)
  ·obtain⟨hx,h⟩:=h
   refine aq<|au<|zo J (eD J J)<|ap<|ae<|bn (ht J) (cW hx)<|aY ?_;refine ac (ac (aC ?_));refine am<|au<|ax rfl<|bF h fun OR q_srt h=>?_;refine Jl (n:=out.length) (ys:=OR) zO ?_ QO ?_ ?_ ?_ ?_ ?_
   ·rfl
   ·exact q_srt
   ·exact(ht J)
   ·rfl
   ·rfl
   intro hl
   refine Dt hl 3 J<|Dt hl 25 J<|ap<|au<|ax J<|bF h fun r1 q_r1 h=>y6 [cC bV 3 l c OR] _ J QN (NX l c _ q_r1) ⟨(ht J),be⟩ J fun i1=>?_;refine(show RG _ _ _ _ [cC bV 3 (i1.h 0).1 (i1.h 0).2 r1] ((28,nJ (i1.h 0).1 (i1.h 0).2 r1)::_)from ?_);refine bo J<|ap<|al ?_;cases so h;exact iT J J
  ·obtain⟨hx,h⟩:=h
   refine aq<|au<|zo J (eD J J)<|ap<|ae<|bm (ht J) (cR hx)<|dz<|ae<|av<|au<|zo J (im kE dK J J J (cS hx))<|zo J (bw dK J J)<|bc (r:=bh) (x:=DH) dK (fun _=>nh _) J fun b=>aE dK J ay J (ht J) (ht J)<|aV 5 J<|ap<|au<|zo J (bY iS eE J J) ?_;refine zo J (bw bK J J)<|zo J (jk J)<|ap<|dh h J (fun h=>?_) (fun h=>?_)
   ·refine ai<|ax J<|zo J (bY mh ic J J)<|zo J (bw bK J J)<|zo J (ba (r:=bV) (ys:=[e1.Col]) (xs:=[.tmp 21]) dd bK J J J J J ⟨(ht J),be⟩)<|bF h fun out1 q_out1 h=>dv bK J J J J dd J J (ht J) (ht J) q_out1 fun l2 c2=>bo J<|aH<|ak<|am<|ai<|zo rfl (jN (cy hx hN) rfl)<|ax rfl<|aH ?_;exact aO (aG (ih (i+1) out1 l2 c2 ⟨cx hx,h⟩) (aX J))
   ·refine bt<|ak<|am<|ai<|zo rfl (jN (cy hx hN) rfl)<|ax rfl<|aH ?_;exact aO (aG (ih (i+1) out l c ⟨cx hx,h⟩) (aX J))
theorem w9(s:(List Int)){R:(List Int)}(h:cu s=some R):io aM 48 [kC s] false bV 3 R:=by
 refine io.of Tryz.func48 J J J fun w0 S0=>au<|ci false bV 3<|zo J (a8 rQ)<|ap<|ae<|au<|ax J<|Dx dd (ht J) J fun isnil hisnil=>ap<|ne (ht J) (fun hc=>?_) (fun hc=>?_)
 ·have hx:=hisnil hc
  have h:some lS=some R:=by simpa [cu,mC,hx] using h
  refine au<|ci false bV 3<|zo J (a8 rQ)<|ap<|al<|aa ?_;cases so h;exact iT J J
 ·refine dz<|au<|jq (r:=bV) (ys:=lS) (xs:=[]) dd bK J J J J J trivial J fun l c=>ax J<|bF h fun x q_x h=>dv bK J J J J dd J J (ht J) (ht J) q_x fun l1 c1=>bo J<|ap<|al ?_;cases so h;exact iT J J
theorem Pu{l:Option Nat}{c:Nat}{xs s:List Int}{lo:Int}{R:List Int}(hs:cG xs lo (xs.length:Int)=some s)(h:cu s=some R):eV aM 48 [tV (jY 1 l c lo.toNat s.length)] [cC bV 3 l c xs] (fun i:OI=>nJ (i.h 0).1 (i.h 0).2 R) (fun i=>[cC bV 3 (i.h 0).1 (i.h 0).2 R,cC bV 3 l c xs]):=by
 refine eV.of Tryz.func48 J J J fun w0 S0=>au<|zo J (a8 rQ)<|ap<|ae<|au<|ax J<|Hy (r:=bV) dd (.head _) hs (ht J) J fun isnil hisnil=>ap<|ne (ht J) (fun hc=>?_) (fun hc=>?_)
 ·have hx:=hisnil hc
  have h:some lS=some R:=by simpa [cu,mC,hx] using h
  refine au<|ci false bV 3<|zo J (a8 rQ)<|ap<|al<|aa ?_;cases so h;exact cX J (oi none 0) J J (fun _ _ h=>h)
 ·refine dz<|au<|jq (r:=bV) (ys:=lS) (xs:=[]) dd bK J J J J J trivial J fun l1 c1=>ax J<|bF h fun x q_x h=>EX bK J J J J dd J J (ht J) (.tail _ (.head _)) hs (ht J) q_x fun l2 c2=>bo J<|ap<|al ?_;cases so h;exact cX J (oi l2 c2) J J (fun _ _ h=>h)

theorem NQ(b:Nat)(l:Option Nat)(c:Nat)(stack:(List Int))(k:Int){R:(List Int)×(List Int)}(h:lk stack k=some R):eV aM 251 [bQ k,tV (aF b 0)] [bx rV 29 b (an l c stack.length),cC bV 3 l c stack] (fun i:OI=>kC R.1) (fun i=>[bx rV 29 b (an (i.h 0).1 (i.h 0).2 R.2.length),cC bV 3 (i.h 0).1 (i.h 0).2 R.2]):=by
 refine eV.of Tryz.func251 J J J fun w0 S0=>au<|zo J (a8 (show aw _ _ _ (kC ([]))from tI))<|ap<|au<|zo J (pV bZ (.head _) (ht J))<|zo J (pV bZ (.head _) (ht J))<|zo J (eT dd (.tail _ (.head _)) (ht J))<|ax J<|zo J (gj (ht J) (ht J))<|bF h fun y q_y h=>zo J (lJ dd bK J (.tail _ (.head _)) (ht J) (ht J) q_y)<|mr (.tail _ (.head _)) q_y fun hv=>ca<|bF h fun r q_r h=>y6 [cC bV 3 l c stack] _ J I9 (Pu q_y q_r) ⟨(ht J),be⟩ J fun i=>?_;refine(show RG _ _ _ _ [cC bV 3 (i.h 0).1 (i.h 0).2 r,cC bV 3 l c stack,bx rV 29 b (an l c stack.length)] _ from ?_);refine bo J<|ap<|au<|zo J (pV bZ (.tail _ (.tail _ (.head _))) (ht J))<|zo J (pV bZ (.tail _ (.tail _ (.head _))) (ht J))<|zo J (eT dd (.tail _ (.head _)) (ht J))<|ax J<|zo J (gj (ht J) (ht J))<|bF h fun y1 q_y1 h=>zo J (kq dd bK J (.tail _ (.head _)) (ht J) (ht J) q_y1)<|ca<|y5 q_y1<|p9<|aE bZ J ay J (ht J) (DL (ht J))<|ap<|au<|ax J<|bo J<|ap ?_;refine al<|aK<|gy<|ii 3 J<|ii 11 J<|ii 4 J<|ii 18 J<|qe 3 J<|bv<|br<|br ?_;cases so h;exact cX J (oi l c) J J (fun _ _ h=>h)

theorem KH(e:bT)(do1:(bH→(List Int)→Option (Int×Int))){R:Int×Int}(h:lc e do1=some R):aW aM 216 [tD cm e,(eN aM JL JK (fun(x:bH×(List Int))=>do1 x.1 x.2))] (tT [bQ R.1,bQ R.2]):=by
 refine aW.of Tryz.func216 J J J fun w0 S0=>au<|zo J (kZ J)<|zo J (dA)<|zo J (dA)<|ap<|zf<|au<|ci false bV 3<|bc (x:=an none 0 0) bZ (fun _=>MZ) J fun b=>ap<|au<|zo J (dA)<|ap<|au<|zo J (CU (cts:=[tV (aF b 0)]) (caps:=[.tmp 6]) ⟨(ht J),be⟩)<|bo J ?_;refine ap<|au<|zo J (dA)<|ap<|ae<|zg<|am<|ae<|au<|zo rfl (bY fV dj rfl rfl)<|zo rfl (bw mJ rfl rfl)<|zo rfl (gJ kE rfl)<|zo rfl (bg hI)<|ap ?_;refine HI (Z:=fun bad stack l c=>jb bad stack=some R) (Of:=fun bad stack l c=>[bx rV 29 b (an l c stack.length),cC bV 3 l c stack]) (Gf:=fun bad stack l c=>[(6,tV (aF b 0)),(7,bQ 0),(9,bQ bad)]) (fun bad stack l c h=>?_) (fun K=>?_)
 ·skip
  refine am<|ae<|au<|ax rfl<|zo rfl (qZ rfl)<|ap<|dh h rfl (fun h=>?_) (fun h=>?_)
  ·refine au<|ax J<|ax J<|bo J<|bo J<|ap<|al ?_;refine aa (lQ ?_);refine bv<|bv ?_;cases so h;exact d5 J J J
  ·refine dz<|au<|zo J (pV bZ (.head _) (ht J))<|bF h fun e1 q_e1 h=>zo J (cH dd bK (.tail _ (.head _)) (ht J) hI q_e1)<|zo J (ew (r:=bV) (i:=(0:Int)) (foff:=0) bK J J cO J (.tail _ (.head _)) q_e1 (ht J))<|bo J<|zo J (dA)<|ap<|al<|lQ<|bv<|bv ?_;cases so h;exact d5 J J J
 ·skip
  refine aP (k:=16) J fun hN=>bu ?_;refine aG (za (Z:=fun ls i bad1 stack1 l1 c1=>(e.Nodes.drop i=ls)∧fb do1 ls bad1 stack1=some R) (Of:=fun _ i bad1 stack1 l1 c1=>[bx rV 29 b (an l1 c1 stack1.length),cC bV 3 l1 c1 stack1]) (Gf:=fun _ i bad1 stack1 l1 c1=>[(1,(eN aM JL JK (fun(x:bH×(List Int))=>do1 x.1 x.2))),(6,tV (aF b 0)),(7,bQ 0),(8,tC 251 [tV (aF b 0)]),(9,bQ bad1),(16,d6 (bh) e.Nodes),(17,gR e.Nodes),(18,bQ (i:Int))]) (fun i bad1 stack1 l1 c1 h=>?_) (fun e2 tl ih i bad1 stack1 l1 c1 h=>?_) e.Nodes 0 (0:Int) lS none 0 ⟨J,h⟩) (aX J)
  ·obtain⟨hx,h⟩:=h
   refine aq<|au<|zo J (eD J J)<|ap<|ae<|bn (ht J) (cW hx)<|aY ?_;refine ac (ac (aC ?_));exact bX (K bad1 stack1 l1 c1 h) (aX J)
  ·obtain⟨hx,h⟩:=h
   refine aq<|au<|zo J (eD J J)<|ap<|ae<|bm (ht J) (cR hx)<|dz<|ae<|av<|au<|zo J (im kE dK J J J (cS hx))<|zo J (bw dK J J)<|bc (r:=bh) (x:=DH) dK (fun _=>nh _) J fun b1=>aE dK J ay J (ht J) (ht J)<|aV 11 J<|ap<|ae<|bF h fun r q_r h=>bF h fun r1 q_r1 h=>?_
   obtain⟨r2,q_r2,h⟩:=bs h
   refine mt 12 [tc ((eN aM JL JK (fun(x:bH×(List Int))=>do1 x.1 x.2))),tc (tD bh e2),tc (tC 251 [tV (aF b 0)]),tc (bp bV e2.Tag),tc (bQ e2.Tag),tc (bQ r),tc (kC r1.1),tc (tT [bQ r2.1,bQ r2.2]),tc (tT [bQ r2.1,bQ r2.2]),tc (bQ r2.1),tc (bQ r2.2),tc (bQ r2.1)] [false,false,false,false,false,false,true,false,false,false,false,false] [fun _=>[bx rV 29 b (an l1 c1 stack1.length),cC bV 3 l1 c1 stack1],fun sg=>[bx rV 29 b (an ((sg 6).h 0).1 ((sg 6).h 0).2 r1.2.length),cC bV 3 ((sg 6).h 0).1 ((sg 6).h 0).2 r1.2]] J mixed J J J J J
    ⟨⟨[⟨1,fun _=>(eN aM ML MJ (fun(x:bH×(List Int))=>do1 x.1 x.2)),none⟩],_,0,1,J,⟨(fun _=>J),be⟩,J,J,J,J,J,fun _ sg _ _=>ah J (cz J)⟩,
    ⟨⟨[⟨11,fun _=>bp bh e2,none⟩],_,0,1,J,⟨(fun _=>J),be⟩,J,J,J,J,J,fun _ sg _ _=>ah J (bw dK J J)⟩,
    ⟨⟨[⟨8,fun _=>tC 251 [tV (aF b 0)],none⟩],_,0,0,J,⟨(fun _=>J),be⟩,J,J,J,J,J,fun _ sg _ _=>ah J (cz J)⟩,
    ⟨⟨[⟨11,fun _=>bp bh e2,none⟩],_,0,0,J,⟨(fun _=>J),be⟩,J,J,J,J,J,fun _ sg _ _=>ah J (bY iS eE J J)⟩,
    ⟨⟨[⟨26,fun _=>bp bV e2.Tag,some 3⟩],_,0,0,J,⟨(fun _=>J),be⟩,J,J,J,J,J,fun _ sg _ _=>ah J (bw bK J J)⟩,
    ⟨⟨[⟨27,fun _=>tD bV e2.Tag,some 4⟩],_,0,0,J,⟨(fun _=>J),be⟩,J,J,J,J,J,fun _ sg _ _=>ah J (aJ Mv (FU _ q_r) ⟨(ht J),be⟩)⟩,
    ⟨⟨[⟨25,fun _=>tC 251 [tV (aF b 0)],some 2⟩,⟨28,fun _=>tD bV r,some 5⟩],_,J,⟨(fun _=>J),(fun _=>J),be⟩,J,J,J,fun sg=>eG J (EffOK.fr1 (EffOK.fr1 (AJ (xs:=[.tmp 28]) (ts:=[tD bV r]) (cts:=[tV (aF b 0)]) [bx rV 29 b (an l1 c1 stack1.length),cC bV 3 l1 c1 stack1] _ J PL (NQ b l1 c1 _ _ q_r1) (ht J) ⟨(ht J),be⟩ (fun _=>J))))⟩,
    ⟨⟨[⟨23,fun _=>(eN aM ML MJ (fun(x:bH×(List Int))=>do1 x.1 x.2)),some 0⟩,⟨24,fun _=>tD bh e2,some 1⟩,⟨29,fun _=>tD rp r1.1,some 6⟩],_,1,1,J,⟨(fun _=>J),(fun _=>J),(fun _=>J),be⟩,J,J,J,J,J,fun _ sg _ _=>ah J (fK (args:=ML) (res:=MJ) (f:=(fun(x:bH×(List Int))=>do1 x.1 x.2)) (x:=((e2,r1.1):bH×(List Int))) (ht J) q_r2 ⟨(ht J),(ht J),be⟩)⟩,
    ⟨⟨[⟨30,fun _=>tT [tD bV r2.1,tD bV r2.2],some 7⟩],_,1,1,J,⟨(fun _=>J),be⟩,J,J,J,J,J,fun _ sg _ _=>ah J (cz J)⟩,
    ⟨⟨[⟨22,fun _=>tT [tD bV r2.1,tD bV r2.2],some 8⟩],_,1,1,J,⟨(fun _=>J),be⟩,J,J,J,J,J,fun _ sg _ _=>ah J (lg J J)⟩,
    ⟨⟨[⟨22,fun _=>tT [tD bV r2.1,tD bV r2.2],some 8⟩],_,1,1,J,⟨(fun _=>J),be⟩,J,J,J,J,J,fun _ sg _ _=>ah J (lg J J)⟩,
    ⟨⟨[⟨31,fun _=>tD bV r2.1,some 9⟩],_,1,1,J,⟨(fun _=>J),be⟩,J,J,J,J,J,fun _ sg _ _=>ah J (xx J)⟩,
    be⟩⟩⟩⟩⟩⟩⟩⟩⟩⟩⟩⟩ (fun sg=>?_)
   refine(show RG _ _ _ _ [bx rV 29 b (an ((sg 6).h 0).1 ((sg 6).h 0).2 r1.2.length),cC bV 3 ((sg 6).h 0).1 ((sg 6).h 0).2 r1.2] _ from ?_);refine bo J<|ap<|ae<|au<|ax J<|zo J (qZ J)<|ap<|dh h J (fun h=>?_) (fun h=>?_)
   ·refine au<|ax J<|bo J<|ap<|aY ?_;refine ac (bE J (ac (ac (aC ?_))));exact bX (K r2.2 r1.2 ((sg 6).h 0).1 ((sg 6).h 0).2 h) (aX J)
   ·refine dz<|ai<|zo J (pV bZ (.head _) (ht J))<|ax J<|zo J (ba (r:=bV) (ys:=[r2.1]) (xs:=[.tmp 37]) dd bK J J J J J ⟨(ht J),be⟩)<|ca<|bF h fun l2 q_l2 h=>dv bK J J J J dd J J (ht J) (ht J) q_l2 fun l3 c2=>ca<|aE bZ J ay J (ht J) (DL (ht J))<|aH<|ak<|am<|ai<|zo rfl (jN (cy hx hN) rfl)<|ax rfl<|aH ?_;exact aO (aG (ih (i+1) bad1 l2 l3 c2 ⟨cx hx,h⟩) (aX J))

theorem FM(tag:Int){R:Bool}(h:nF tag=some R):aW aM 213 [bQ tag] (gu R):=by
 refine aW.of Tryz.func213 J J J fun w0 S0=>au<|zo J (eL)<|ap<|au<|ax J<|zo J (jk J)<|ax J<|cw J J (fun hg=>cz J)<|cw J J (fun hg=>dG (aI J hg) hI)<|cw J J (fun hg=>bg (aI J hg))<|fN J J J J (fun hg=>cz J)<|fN J J J J (fun hg=>hU (aI J hg) hI)<|cw J J (fun hg=>lv (aI J hg) (fun hb=>(aI J (pF hg hb))))<|zo J (oQ J J)<|bo J<|ap<|al ?_;cases so h;exact aB J J

theorem KG(kinds:(List Int))(n:bH)(l:(List Int)){R:Int×Int}(h:gp kinds n l=some R):aW aM 217 [tD bh n,kC l,bp gr kinds] (tT [bQ R.1,bQ R.2]):=by
 refine aW.of Tryz.func217 J J J fun w0 S0=>au<|zo J (kZ J)<|zo J (dA)<|zo J (dA)<|ap<|au<|zo J (dA)<|ap<|ae<|au<|ax J<|zo J (gJ dd J)<|zo J (bg hI)<|ap<|av<|aP (k:=12) J fun hN=>bu ?_;refine aG (kB (Z:=fun ls i own=>(l.drop i=ls)∧je kinds n ls own=some R) (Of:=fun _ i own=>[]) (Gf:=fun _ i own=>[(2,bp gr kinds),(3,bp bh n),(7,bQ own),(12,kC l),(13,gR l),(14,bQ (i:Int))]) (fun i own h=>?_) (fun e tl ih i own h=>?_) l 0 (0:Int) ⟨J,h⟩) (aX J)
 ·obtain⟨hx,h⟩:=h
  refine aq<|au<|zo J (eD J J)<|ap<|ae<|bn (ht J) (cW hx)<|aY ?_;refine ac (ac (aC ?_));refine am<|au<|ax rfl<|bo rfl<|ap<|au<|zo rfl (dA)<|ap<|ae<|av<|au<|zo rfl (bY iS eE rfl rfl)<|zo rfl (bw bK rfl rfl)<|zo rfl (jk rfl)<|bo rfl<|ap<|dh h rfl (fun h=>?_) (fun h=>?_)
  ·refine au<|zo J (bY w7 qG J J)<|zo J (bY qJ lA J J)<|zo J (bw bK J J)<|bo J<|zo J (dA)<|ap<|al ?_;refine aA (aa ?_);cases so h;exact d5 J J J
  ·refine au<|zo J (bY iS eE J J)<|zo J (bw bK J J)<|zo J (jk J)<|bo J<|ap<|dh h J (fun h=>?_) (fun h=>?_)
   ·refine au<|zo J (bw bZ J J)<|zo J (bY mh ic J J)<|zo J (bw bK J J)<|bF h fun e1 q_e1 h=>zo J (im dd bK J J J q_e1)<|zo J (bw bK J J)<|bo J<|zo J (dA)<|ap<|al ?_;refine aA (aa ?_);cases so h;exact d5 J J J
   ·refine au<|zo J (bY iS eE J J)<|zo J (bw bK J J)<|bF h fun r q_r h=>zo J (aJ Mn (FM _ q_r) ⟨(ht J),be⟩)<|bo J<|ap<|dh h J (fun h=>?_) (fun h=>?_)
    ·refine ai<|zo J (dA)<|zo J (dA)<|aH<|ak<|am<|ae<|au<|ax rfl<|zo rfl (jk rfl)<|ax rfl<|cw rfl rfl (fun hg=>cz J)<|cw J J (fun hg=>cZ (aI J hg) hI)<|cw J J (fun hg=>bg (aI J hg))<|fN J J J J (fun hg=>cz J)<|fN J J J J (fun hg=>cz J)<|fN J J J J (fun hg=>cZ (aI J hg) (aI J hg))<|cw J J (fun hg=>lv (aI J hg) (fun hb=>(aI J (pF hg hb))))<|zo J (oQ J J)<|ap<|dh h J (fun h=>?_) (fun h=>?_)
     ·refine au<|zo J (dA)<|zo J (dA)<|ap<|al<|aa ?_;cases so h;exact d5 J J J
     ·refine dz<|au<|ax J<|bo J<|zo J (dA)<|ap<|al ?_;cases so h;exact d5 J J J
    ·refine au<|zo J (bY iS eE J J)<|zo J (bw bK J J)<|zo J (jk J)<|ax J<|cw J J (fun hg=>bY iS eE J J)<|cw J J (fun hg=>aL bK J J (aI J hg))<|cw J J (fun hg=>bD (aI J hg) hI)<|zo J (oQ J J)<|ax J<|cw J J (fun hg=>bY iS eE J J)<|cw J J (fun hg=>aL bK J J (aI J hg))<|cw J J (fun hg=>bD (aI J hg) hI)<|zo J (oQ J J)<|bo J<|ap<|dh h J (fun h=>?_) (fun h=>?_)
     ·refine ai<|zo J (dA)<|aH<|ak<|am<|ae<|au<|ax rfl<|zo rfl (jk rfl)<|ax rfl<|cw rfl rfl (fun hg=>cz J)<|cw J J (fun hg=>cZ (aI J hg) hI)<|cw J J (fun hg=>bg (aI J hg))<|fN J J J J (fun hg=>cz J)<|fN J J J J (fun hg=>cz J)<|fN J J J J (fun hg=>cZ (aI J hg) (aI J hg))<|cw J J (fun hg=>lv (aI J hg) (fun hb=>(aI J (pF hg hb))))<|zo J (oQ J J)<|ap<|dh h J (fun h=>?_) (fun h=>?_)
      ·refine au<|zo J (dA)<|zo J (dA)<|ap<|al<|aa ?_;cases so h;exact d5 J J J
      ·refine dz<|au<|ax J<|bo J<|zo J (dA)<|ap<|al ?_;cases so h;exact d5 J J J
     ·refine bt<|ak<|am<|ae<|au<|ax rfl<|zo rfl (jk rfl)<|ax rfl<|cw rfl rfl (fun hg=>cz J)<|cw J J (fun hg=>cZ (aI J hg) hI)<|cw J J (fun hg=>bg (aI J hg))<|fN J J J J (fun hg=>cz J)<|fN J J J J (fun hg=>cz J)<|fN J J J J (fun hg=>cZ (aI J hg) (aI J hg))<|cw J J (fun hg=>lv (aI J hg) (fun hb=>(aI J (pF hg hb))))<|zo J (oQ J J)<|ap<|dh h J (fun h=>?_) (fun h=>?_)
      ·refine au<|zo J (dA)<|zo J (dA)<|ap<|al<|aa ?_;cases so h;exact d5 J J J
      ·refine dz<|au<|ax J<|bo J<|zo J (dA)<|ap<|al ?_;cases so h;exact d5 J J J
 ·obtain⟨hx,h⟩:=h
  refine aq<|au<|zo J (eD J J)<|ap<|ae<|bm (ht J) (cR hx)<|dz<|ae<|av<|au<|zo J (im dd bK J J J (cS hx))<|zo J (bw bK J J)<|bo J<|ap<|av<|au<|ax J<|zo J (jk J) ?_;refine ax J<|cw J J (fun hg=>cz J)<|cw J J (fun hg=>cz J)<|cw J J (fun hg=>bD (aI J hg) (aI J hg))<|zo J (oQ J J)<|bo J<|ap<|dh h J (fun h=>?_) (fun h=>?_)
  ·refine bt<|ak<|ak<|am<|ai<|zo rfl (jN (cy hx hN) rfl)<|ax rfl<|aH ?_;exact aO (aG (ih (i+1) own ⟨cx hx,h⟩) (aX J))
  ·refine au<|ax J<|zo J (jk J)<|bo J<|ap<|dh h J (fun h=>?_) (fun h=>?_)
   ·refine ai<|ax J<|bo J<|aH<|ak<|ak<|am<|ai<|zo rfl (jN (cy hx hN) rfl)<|ax rfl<|aH ?_;exact aO (aG (ih (i+1) e ⟨cx hx,h⟩) (aX J))
   ·refine ai<|zo J (dA)<|aH<|ak<|ak<|am<|ai<|zo rfl (jN (cy hx hN) rfl)<|ax rfl<|aH ?_;exact aO (aG (ih (i+1) my ⟨cx hx,h⟩) (aX J))

theorem xa(e:bT)(kinds:(List Int)){R:Int×Int}(h:lO e kinds=some R):aW aM 160 [tD cm e,kC kinds] (tT [bQ R.1,bQ R.2]):=by
 refine aW.of Tryz.func160 J J J fun w0 S0=>au<|zo J (kZ J)<|zo J (kZ J)<|zo J (dA)<|zo J (dA)<|ap<|ae<|au<|zo J (bw kV J J)<|bF h fun r q_r h=>zo J (aJ LQ (BI _ q_r) ⟨(ht J),be⟩)<|bo J<|ap<|au<|ax J<|zo J (qZ J)<|ap ?_;refine dh h J (fun h=>?_) (fun h=>?_)
 ·refine au<|ax J<|zo J (dA)<|bo J<|ap<|al<|aa ?_;cases so h;exact d5 J J J
 ·refine dz<|ae<|au<|zo J (bw bZ J J)<|zo J (gJ dd J)<|zo J (bg hI)<|ap<|av<|aP (k:=16) J fun hN=>bu ?_;refine aG (dk (Z:=fun ls i=>(kinds.drop i=ls)∧mi e kinds ls=some R) (Of:=fun _ i=>[]) (Gf:=fun _ i=>[(2,bp cm e),(3,bp gr kinds),(16,kC kinds),(17,gR kinds),(18,bQ (i:Int))]) (fun i h=>?_) (fun e1 tl ih i h=>?_) kinds 0 ⟨J,h⟩) (aX J)
  ·obtain⟨hx,h⟩:=h
   refine aq<|au<|zo J (eD J J)<|ap<|ae<|bn (ht J) (cW hx)<|aY ?_;refine ac (ac (aC ?_));refine am<|ae<|au<|zo rfl (bw kV rfl rfl)<|bF h fun r1 q_r1 h=>jj R9 (Kl _ q_r1) ⟨(ht J),be⟩ J fun l c=>zo J (eT dd (.head _) (ht J))<|zo J (bg hI)<|ap<|av<|kQ (.head _) fun hN1=>bu ?_;refine aG (dk (Z:=fun ls1 i1=>(r1.drop i1=ls1)∧jA e kinds ls1=some R) (Of:=fun _ i1=>[cC bV 3 l c r1]) (Gf:=fun _ i1=>[(2,bp cm e),(3,bp gr kinds),(30,nJ l c r1),(31,gR r1),(32,bQ (i1:Int))]) (fun i1 h=>?_) (fun e2 tl1 ih1 i1 h=>?_) r1 0 ⟨J,h⟩) (aX J)
   ·obtain⟨hx1,h⟩:=h
    refine aq<|au<|zo J (eD J J)<|ap<|ae<|bn (ht J) (cW hx1)<|aY ?_;refine ac (ac (aC ?_));refine am<|au<|zo rfl (bw kV rfl rfl)<|zo rfl ((show bL _ _ _ _ ((eN aM JL JK (fun(x:bH×(List Int))=>(gp kinds) x.1 x.2)))from gk (cts:=[bp gr kinds]) (caps:=[.tmp 3]) PV ⟨(ht J),be⟩ (fun x y h=>KG _ _ _ h)))<|bF h fun r2 q_r2 h=>zo J (aJ PW (KH _ _ q_r2) ⟨(ht J),(ht J),be⟩)<|zo J (lg J J)<|zo J (lg J J)<|bo J<|bo J<|ap<|al<|bv ?_;cases so h;exact d5 J J J
   ·obtain⟨hx1,h⟩:=h
    refine aq<|au<|zo J (eD J J)<|ap<|ae<|bm (ht J) (cR hx1)<|dz<|ae<|av<|au<|zo J (cH dd bK (.head _) (ht J) (ht J) (cS hx1))<|zo J (ew (r:=bV) (i:=(i1:Int)) (foff:=0) bK J J cO J (.head _) (cS hx1) (ht J))<|bo J<|ap<|au<|ax J<|zo J (bw bZ J J)<|zo J (gJ dd J) ?_;refine zo J (dG (ht J) (ht J))<|ap<|dh h J (fun h=>?_) (fun h=>?_)
    ·refine au<|zo J (dA)<|zo J (dA)<|ap<|al ?_;refine aA (aa (aa (aA (aa ?_))));refine bv ?_;cases so h;exact d5 J J J
    ·refine bt<|ak<|am<|ai<|zo rfl (jN (cy hx1 hN1) rfl)<|ax rfl<|aH ?_;exact aO (aG (ih1 (i1+1) ⟨cx hx1,h⟩) (aX J))
  ·obtain⟨hx,h⟩:=h
   refine aq<|au<|zo J (eD J J)<|ap<|ae<|bm (ht J) (cR hx)<|dz<|ae<|av<|au<|zo J (im dd bK J J J (cS hx))<|zo J (bw bK J J)<|bo J<|ap<|au<|ax J<|zo J (ep (ht J) hI)<|ax J ?_;refine cw J J (fun hg=>cz J)<|cw J J (fun hg=>fG (aI J hg) hI)<|zo J (oQ J J)<|ap<|dh h J (fun h=>?_) (fun h=>?_)
   ·refine au<|zo J (dA)<|zo J (dA)<|ap<|al ?_;refine aA (aa (aa (aA (aa ?_))));cases so h;exact d5 J J J
   ·refine bt<|ak<|am<|ai<|zo rfl (jN (cy hx hN) rfl)<|ax rfl<|aH ?_;exact aO (aG (ih (i+1) ⟨cx hx,h⟩) (aX J))

end Go.Proofs.YtmogpgcfognefaaGreatDoor

