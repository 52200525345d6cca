/- dm of this claim: P11. -/
import Derived.Test.YthbdkceckjihgaaGreatDoorBcT
import Derived.Test.YthbdkceckjihgaaGreatDoorBcP10
set_option linter.all false
namespace Go.Proofs.YthbdkceckjihgaaGreatDoor
open Go
set_option maxRecDepth 100000

def Kr c{R}(h:tX c=some R):cN bd 158 [Z (rI .u8) c] (iD R):=by
 exact dp Tryz.func158 I<|aV<|bC<|bP<|aI I<|d (ff (M I) hI)<|aY I<|ax I (de I)<|ax I (fun V=>kr (bE I V) hI)<|eZ I<|bj I<|so h▸au I I

def VQ l s{R}(h:D1 l s=some R):cN bd 201 [gb (rS) l,Z rS s] (iD R):=by
 refine dp Tryz.func201 I<|aV<|bC<|bP<|aR<|bF<|bP<|ai<|aN (k:=0) I fun hN=>bp ?_;refine ay (dx (tD:=fun ls i=>(l.drop i=ls)/\rY s ls=some R) (Of:=fun _ i=>[]) (Gf:=fun _ i=>[(0,gb (rS) l),(1,Z rS s),(5,bf (i:Int))]) (fun i h=>?_) (fun e tl ih i h=>?_) l 0 ⟨I,h⟩) (a8 I)
 ·obtain⟨D,h⟩:=h
  exact ZD tK D I<|aq<|aV<|bC<|cA<|so h▸au I I
 ·obtain⟨D,h⟩:=h
  refine ZC tK D I<|aA<|ai<|aI I<|aY I<|d9 tK ja I (cW D)<|aY I<|d (fW (M I) (M I))<|br ?_;refine aq<|lO h I (fun h=>?_) (fun h=>?_)
  ·exact aV<|bC<|cA<|bT<|af<|bT<|so h▸au I I
  ·refine bl<|WS D hN I ?_;exact aO (ay (ih (i+1) ⟨cO D,h⟩) (a8 I))

def TD{R}(h:zF=some R):jB bd 202 [] false rS 9 R:=by
 exact jB.of Tryz.func202 I I I fun w0 S0=>aV<|ck false rS 9<|d (cg zf)<|bP<|aV<|iY (r:=rS) (ys:=[[83,69,76,69,67,84],[68,73,83,84,73,78,67,84],[70,82,79,77],[76,69,70,84],[74,79,73,78],[79,78],[87,72,69,82,69],[71,82,79,85,80],[66,89],[72,65,86,73,78,71],[85,78,73,79,78],[65,76,76],[79,82,68,69,82],[76,73,77,73,84],[65,83,67],[68,69,83,67],[65,83],[65,78,68],[79,82],[78,79,84],[73,83],[78,85,76,76],[84,82,85,69],[70,65,76,83,69],[67,79,85,78,84],[83,85,77],[77,73,78],[77,65,88]]) (xs:=[.const (.string ⟨#[83,69,76,69,67,84]⟩),.const (.string ⟨#[68,73,83,84,73,78,67,84]⟩),.const (.string ⟨#[70,82,79,77]⟩),.const (.string ⟨#[76,69,70,84]⟩),.const (.string ⟨#[74,79,73,78]⟩),.const (.string ⟨#[79,78]⟩),.const (.string ⟨#[87,72,69,82,69]⟩),.const (.string ⟨#[71,82,79,85,80]⟩),.const (.string ⟨#[66,89]⟩),.const (.string ⟨#[72,65,86,73,78,71]⟩),.const (.string ⟨#[85,78,73,79,78]⟩),.const (.string ⟨#[65,76,76]⟩),.const (.string ⟨#[79,82,68,69,82]⟩),.const (.string ⟨#[76,73,77,73,84]⟩),.const (.string ⟨#[65,83,67]⟩),.const (.string ⟨#[68,69,83,67]⟩),.const (.string ⟨#[65,83]⟩),.const (.string ⟨#[65,78,68]⟩),.const (.string ⟨#[79,82]⟩),.const (.string ⟨#[78,79,84]⟩),.const (.string ⟨#[73,83]⟩),.const (.string ⟨#[78,85,76,76]⟩),.const (.string ⟨#[84,82,85,69]⟩),.const (.string ⟨#[70,65,76,83,69]⟩),.const (.string ⟨#[67,79,85,78,84]⟩),.const (.string ⟨#[83,85,77]⟩),.const (.string ⟨#[77,73,78]⟩),.const (.string ⟨#[77,65,88]⟩)]) tK ja I I I I I ⟨hS,hS,hS,hS,hS,hS,hS,hS,hS,hS,hS,hS,hS,hS,hS,hS,hS,hS,hS,hS,hS,hS,hS,hS,hS,hS,hS,hS,Q⟩ I fun l c=>bj I<|so h▸na I I
def V8 s{R}(h:u5 s=some R):cN bd 159 [Z rS s] (iD R):=by
 exact dp Tryz.func159 I<|aV<|bC<|bP<|aV<|F6 h abc TD trivial fun r h l c=>aY I<|qf<|xK 3 I<|eg h abd (VQ _ _) ⟨(kp (M I)),(M I),Q⟩ fun r1 h=>bj I<|aM<|so h▸au I I

def V7 s{R}(h:ww s=some R):cN bd 160 [Z rS s] (Z rS R):=by
 refine dp Tryz.func160 I<|aV<|d (cg hS)<|bP<|aV<|ck false (rI .u8) 5<|d (cg zf)<|bP<|aR<|bF<|bP<|ai<|bp ?_;refine ay (KM (tD:=fun n out l c i=>lW s n out i=some R) (Of:=fun out l c i=>[f6 (rI .u8) 5 l c out]) (Gf:=fun out l c i=>[(0,Z rS s),(3,sy l c out),(4,bf i)]) (fun out l c i h=>nn h) (fun n ih out l c i h=>?_) fc xo none 0 (0:Int) h) (a8 I);refine dw<|aR<|aY I<|aY I<|d (nT nG (M I))<|qq I<|bX h I (fun h=>?_) (fun h=>?_)
 ·refine gp<|aA<|ai<|aI I<|aY I<|cu h fun b q_b h=>d (lK nG (M I) (M I) q_b)<|bh I ?_;refine ia (tD:=fun c1=>pw (lW s n) out i c1=some R) (Of:=fun c1=>[f6 (rI .u8) 5 l c out]) (Gf:=fun c1=>[(0,Z rS s),(3,sy l c out),(4,bf i),(5,Z (rI .u8) c1)]) (fun c1 h=>?_) (fun aw=>?_)
  ·skip
   refine aL<|aY I<|aY I<|d (ba (r:=(rI .u8)) (ys:=[c1]) (xs:=[.tmp 21]) FY X3 I I I I I ⟨(M I),Q⟩)<|cu h fun out1 q_out1 h=>dZ X3 I I I I FY I I (M I) (M I) q_out1 fun l1 c2=>gx I<|br<|bn<|aq<|aL<|aY I<|d (fq (M I) hI)<|gx I<|br ?_;exact aO (ay (ih out1 l1 c2 (IntKind.i64.wrap (i+(1:Int))) h) (a8 I))
  ·skip
   refine aI I<|eg h T7 (Kr _) (da I) fun r h=>bX h I (fun h=>?_) (fun h=>?_)
   ·refine aL<|aY I<|d (fm (M I) hI)<|d (fq (M I) hI)<|gx I<|br ?_;exact cj (aw (IntKind.u8.wrap ((IntKind.u8.wrap (b-(97:Int)))+(65:Int))) h) (a8 I)
   ·refine bl ?_;exact cj (aw b h) (a8 I)
 ·exact ep<|aE<|aE<|cK<|aq<|aI I<|qf<|xK 3 I<|xK 24 I<|d (I1 FY O9 nG X3 I (kp (M I)))<|bj I<|aM<|so h▸au I I

def V6 c{R}(h:zE c=some R):cN bd 161 [Z (rI .u8) c] (iD R):=by
 exact dp Tryz.func161 I<|aV<|bC<|bP<|aI I<|d (ff (M I) hI)<|aY I<|ax I (de I)<|ax I (fun V=>kr (bE I V) hI)<|eZ I<|bj I<|so h▸au I I

def Qj s{R}(h:rZ s=some R):cN bd 121 [Z rS s] (iD R):=by
 refine dp Tryz.func121 I<|aV<|bC<|bP<|aR<|aY I<|d (nT nG (M I))<|d (eN (M I) hI)<|aY I<|ap I (de I)<|ap I (fun V=>nT nG (bE I V))<|ap I (fun V=>eX (bE I V) hI)<|dU I<|aY I<|cu h fun t q_t h=>ap I (de I) ?_
 obtain⟨b,h1t,h0t⟩:=og q_t
 have q_bg:=fun A=>(h1t A).1
 refine ap I (fun V=>lK nG (bE I V) hI (q_bg V)) ?_
 obtain⟨r,h1t⟩:=Sk (fun A=>(h1t A).2)
 have q_rg:=fun A=>(h1t A).1
 refine ap I (fun V=>bq T7 (Kr _ (q_rg V)) ⟨(bE I V),Q⟩)<|ap I (rJ I)<|d (cD (M I) (fun A=>(bE I (mD A))) (fun A=>(h1t A).2) h0t)<|aY I<|cu h fun t1 q_t1 h=>ap I (de I) ?_
 obtain⟨r1,h1t1,h0t1⟩:=og q_t1
 have q_r1g:=fun A=>(h1t1 A).1
 refine ap I (fun V=>bq abv (V7 _ (q_r1g V)) ⟨(bE I V),Q⟩) ?_
 obtain⟨r2,h1t1⟩:=Sk (fun A=>(h1t1 A).2)
 have q_r2g:=fun A=>(h1t1 A).1
 refine ap I (fun V=>bq abw (V8 _ (q_r2g V)) ⟨(bE I V),Q⟩)<|d (cD (M I) (fun A=>(bE I (mD A))) (fun A=>(h1t1 A).2) h0t1)<|bX h I (fun h=>?_) (fun h=>?_)
 ·exact aV<|bC<|cA<|af<|so h▸au I I
 ·refine gp<|aR<|bF<|bP<|ai<|bp ?_;refine ay (pd (tD:=fun n i=>ox s n i=some R) (Of:=fun i=>[]) (Gf:=fun i=>[(0,Z rS s),(3,bf i)]) (fun i h=>nn h) (fun n ih i h=>?_) fc (0:Int) h) (a8 I);refine dw<|aR<|aY I<|aY I<|d (nT nG (M I))<|qq I<|bX h I (fun h=>?_) (fun h=>?_)
  ·refine gp<|aA<|ai<|aI I<|aY I<|cu h fun b1 q_b1 h=>d (lK nG (M I) (M I) q_b1)<|eg h T7 (Kr _) (da I) fun r3 h=>d (fD (M I))<|aY I<|cu h fun t2 q_t2 h=>ax I (de I)<|ax I (de I) ?_
   obtain⟨b2,h1t2,h0t2⟩:=og q_t2
   have q_b2g:=fun A=>(h1t2 A).1
   refine ax I (fun V=>lK nG (bE I V) (bE I V) (q_b2g V)) ?_
   obtain⟨r4,h1t2⟩:=Sk (fun A=>(h1t2 A).2)
   have q_r4g:=fun A=>(h1t2 A).1
   refine ax I (fun V=>bq abu (V6 _ (q_r4g V)) ⟨(bE I V),Q⟩)<|ax I (rJ I)<|d (co (M I) (fun A=>(bE I A)) (fun A=>(h1t2 A).2) h0t2)<|aY I<|cu h fun t3 q_t3 h=>ax I (de I)<|ax I (de I) ?_
   obtain⟨b3,h1t3,h0t3⟩:=og q_t3
   have q_b3g:=fun A=>(h1t3 A).1
   refine ax I (fun V=>lK nG (bE I V) (bE I V) (q_b3g V))<|ax I (uI I)<|d (co (M I) (fun A=>(bE I A)) (fun A=>(h1t3 A).2) h0t3)<|bX h I (fun h=>?_) (fun h=>?_)
   ·exact aV<|bC<|cA<|bT<|af<|bT<|so h▸au I I
   ·refine bl<|bn<|aq<|aL<|aY I<|d (fq (M I) hI)<|gx I<|br ?_;exact aO (ay (ih (IntKind.i64.wrap (i+(1:Int))) h) (a8 I))
  ·exact ep<|aE<|aE<|cK<|aq<|aV<|bC<|cA<|so h▸au I I

def Wn kind{R}(h:ya kind=some R):cN bd 122 [bf kind] (Z rS R):=by
 refine dp Tryz.func122 I<|aV<|d (cg hS)<|bP<|aR<|aY I<|bP<|ai<|aV<|dn I<|bh I<|lO h I (fun h=>?_) (fun h=>?_)
 ·exact aV<|d (cg hS)<|cA<|bT<|so h▸au I I
 ·refine aV<|dn I<|bh I<|lO h I (fun h=>?_) (fun h=>?_)
  ·exact aV<|d (cg hS)<|cA<|bT<|so h▸au I I
  ·refine aV<|dn I<|bh I<|lO h I (fun h=>?_) (fun h=>?_)
   ·exact aV<|d (cg hS)<|cA<|bT<|so h▸au I I
   ·exact bl<|bn<|aq<|aV<|d (cg hS)<|cA<|so h▸au I I

def YH t{R}(h:pW t=some R):cN bd 75 [Z cv t] (iD R):=by
 refine dp Tryz.func75 I<|aV<|cL I<|bC<|bP<|aR<|aU wO pF ja I<|eg h XA (Qj _) (da I) fun r h=>d (fD (M I))<|aY I<|ap I (bQ iF ev I I)<|ap I (bN oq I I)<|ap I (gy ol I)<|ap I (fun V=>eN (bE I V) hI)<|dU I<|aY I<|ap I (bQ iF ev I I)<|ap I (bN oq I I) ?_;refine ap I (gy ol I)<|ap I (fun V=>eX (bE I V) hI)<|dU I<|bX h I (fun h=>?_) (fun h=>?_)
 ·exact aV<|bC<|cA<|af<|so h▸au I I
 ·refine gp<|aR<|bF<|bP<|ai<|bp ?_;refine ay (pd (tD:=fun n i=>jI t n i=some R) (Of:=fun i=>[]) (Gf:=fun i=>[(1,bo cv t),(3,bf i)]) (fun i h=>nn h) (fun n ih i h=>?_) fc (0:Int) h) (a8 I);refine dw<|aR<|aY I<|aU iF ev oq I<|bY ol I<|qq I<|bX h I (fun h=>?_) (fun h=>?_)
  ·refine gp<|aA<|ai<|aV<|aU iF ev oq I<|aY I<|cu h fun e q_e h=>d9 ol jg I q_e<|aX jg oC I fun b=>bM jg aj I<|aQ 4 I<|bP<|aR<|aU tA ky ja I<|eg h XA (Qj _) (da I) fun r1 h=>?_;refine d (fD (M I))<|aY I<|cu h fun t1 q_t1 h=>ap I (bQ FE ud I I)<|ap I (bN cF I I) ?_
   obtain⟨r2,h1t1,h0t1⟩:=og q_t1
   have q_r2g:=fun A=>(h1t1 A).1
   refine ap I (fun V=>bq abL (Wn _ (q_r2g V)) ⟨(bE I V),Q⟩)<|ap I (fun V=>fW (bE I V) hS)<|d (cD (M I) (fun A=>(bE I (mD A))) (fun A=>(h1t1 A).2) h0t1)<|bX h I (fun h=>?_) (fun h=>?_)
   ·exact aV<|bC<|cA<|af<|bT<|af<|bT<|so h▸au I I
   ·refine gp<|aV<|bF<|bP<|ai<|bp ?_;refine ay (pd (tD:=fun n1 k=>lj t (jI t n) i e n1 k=some R) (Of:=fun k=>[]) (Gf:=fun k=>[(1,bo cv t),(3,bf i),(4,bo cQ e),(5,bf k)]) (fun k h=>nn h) (fun n1 ih1 k h=>?_) fc (0:Int) h) (a8 I);refine dw<|aR<|aY I<|aY I<|qq I<|bX h I (fun h=>?_) (fun h=>?_)
    ·refine gp<|aA<|ai<|aA<|cu h fun e1 q_e1 h=>?_
     refine d8 (ts:=[_,_,_,_,_,_,_,_,_]) mixed I I
      ⟨qN 1 I I (kO iF ev I I),
      ⟨fA 0 oq I I,
      ⟨fv I I,
      ⟨eh 51 1 52 2 I I I (uR ol jg I I I q_e1),
      ⟨fL 53 3 I I (kO tA ky I I),
      ⟨fA 4 ja I I,
      ⟨qN 4 I I (kO tA ky I I),
      ⟨fA 6 ja I I,
      ⟨eh 55 5 57 7 I I I (fW (M I) (M I)),
      Q⟩⟩⟩⟩⟩⟩⟩⟩⟩ ?_
     refine aq<|lO h I (fun h=>?_) (fun h=>?_)
     ·exact aV<|bC<|cA<|bT<|af<|xO<|bT<|af<|bT<|so h▸au I I
     ·refine bl<|bn<|aq<|aL<|aY I<|d (fq (M I) hI)<|gx I<|br ?_;exact aO (ay (ih1 (IntKind.i64.wrap (k+(1:Int))) h) (a8 I))
    ·refine ep<|aE<|aE<|cK<|bn<|aq<|aL<|aY I<|d (fq (M I) hI)<|gx I<|br ?_;exact aO (ay (ih (IntKind.i64.wrap (i+(1:Int))) h) (a8 I))
  ·refine ep<|aE<|aE<|cK<|aq<|aR<|bF<|bP<|ai<|bp ?_;refine ay (pd (tD:=fun n2 i1=>li t n2 i1=some R) (Of:=fun i1=>[]) (Gf:=fun i1=>[(1,bo cv t),(6,bf i1)]) (fun i1 h=>nn h) (fun n2 ih2 i1 h=>?_) fc (0:Int) h) (a8 I);refine dw<|aR<|aY I<|aU o7 j7 fV I<|bY fH I<|qq I<|bX h I (fun h=>?_) (fun h=>?_)
   ·refine gp<|aA<|ai<|aA<|cu h fun e2 q_e2 h=>cu h fun t2 q_t2 h=>?_
    obtain⟨t3,h1t2,h0t2⟩:=og q_t2
    have q_t3g:=fun A=>(h1t2 A).1
    obtain⟨e3,h1t3,h0t3⟩:=Yg q_t3g
    have q_e3g:=fun A=>(h1t3 A).1
    refine d8 (ts:=[_,_,_,_,_,_,_,_,_,_,_,_,_,_,_,_,_,_,_,_,_,_,_,_,_,_,_,_,_,_,_,_,_,_,_]) mixed I I
     ⟨qN 1 I I (kO o7 j7 I I),
     ⟨fA 0 fV I I,
     ⟨fv I I,
     ⟨eh 67 1 68 2 I I I (uR fH cF I I I q_e2),
     ⟨fA 3 cF I I,
     ⟨fL 70 4 I I (eN (M I) hI),
     ⟨fL 71 5 I I (fR I),
     ⟨oo 1 72 6 I I I (cI I I I I (fun V=>kO o7 j7 I I)),
     ⟨jS 73 7 72 6 I I I (cI I I I I (fun V=>eS fV I I (bE I V))),
     ⟨oo 6 72 6 I I I (cI I I I I (fun V=>fR I)),
     ⟨pi 74 8 75 9 72 6 I I I I (cI I I I I (fun V=>d6 fH cF I (bE I V) (bE I V) q_e2)),
     ⟨jS 76 10 72 6 I I I (cI I I I I (fun V=>eS cF I I (bE I V))),
     ⟨oo 1 72 6 I I I (cI I I I I (fun V=>kO iF ev I I)),
     ⟨jS 78 12 72 6 I I I (cI I I I I (fun V=>eS oq I I (bE I V))),
     ⟨jS 79 13 72 6 I I I (cI I I I I (fun V=>fO ol (bE I V))),
     ⟨pi 77 11 80 14 72 6 I I I I (cI I I I I (fun V=>ff (bE I V) (bE I V))),
     ⟨eh 72 6 81 15 I I I (zpo I I),
     ⟨fL 82 16 I I (fR I),
     ⟨oo 6 83 17 I I I (cI I I I I (fun V=>fR I)),
     ⟨jS 84 18 83 17 I I I (cI I I I I (fun V=>eX (bE I V) hI)),
     ⟨jS 85 19 83 17 I I I (cI I I I I (fun V=>bB (bE I V))),
     ⟨oo 1 86 20 I I I (qX I I I I (fun V=>kO o7 j7 I I)),
     ⟨jS 87 21 86 20 I I I (qX I I I I (fun V=>eS fV I I (bE I V))),
     ⟨oo 6 86 20 I I I (qX I I I I (fun V=>fR I)),
     ⟨jS 89 23 86 20 I I I (qX I I I I (fun V=>fm (bE I V) hI)),
     ⟨pi 88 22 90 24 86 20 I I I I (qX I I I I (fun V=>d6 fH cF I (bE I V) (bE I V) (q_e3g V))),
     ⟨jS 91 25 86 20 I I I (qX I I I I (fun V=>eS cF I I (bE I V))),
     ⟨oo 1 86 20 I I I (qX I I I I (fun V=>kO o7 j7 I I)),
     ⟨jS 93 27 86 20 I I I (qX I I I I (fun V=>eS fV I I (bE I V))),
     ⟨oo 6 86 20 I I I (qX I I I I (fun V=>fR I)),
     ⟨pi 94 28 95 29 86 20 I I I I (qX I I I I (fun V=>d6 fH cF I (bE I V) (bE I V) q_e2)),
     ⟨jS 96 30 86 20 I I I (qX I I I I (fun V=>eS cF I I (bE I V))),
     ⟨pi 92 26 97 31 86 20 I I I I (qX I I I I (fun V=>ff (bE I V) (bE I V))),
     ⟨pi 86 20 98 32 83 17 I I I I (cI I I I I (fun V=>co (bE I V) (fun A=>(bE I (sr V A))) (fun A=>(h1t3 (sr V A)).2) (fun A=>h0t3 V A))),
     ⟨eh 83 17 99 33 I I I (cD (M I) (fun A=>(bE I (mD A))) (fun A=>(h1t2 A).2) h0t2),
     Q⟩⟩⟩⟩⟩⟩⟩⟩⟩⟩⟩⟩⟩⟩⟩⟩⟩⟩⟩⟩⟩⟩⟩⟩⟩⟩⟩⟩⟩⟩⟩⟩⟩⟩⟩ ?_
    refine aq<|lO h I (fun h=>?_) (fun h=>?_)
    ·exact aV<|bC<|cA<|bT<|af<|bT<|so h▸au I I
    ·refine bl<|bn<|aq<|aL<|aY I<|d (fq (M I) hI)<|gx I<|br ?_;exact aO (ay (ih2 (IntKind.i64.wrap (i1+(1:Int))) h) (a8 I))
   ·exact ep<|aE<|aE<|cK<|aq<|aV<|bC<|cA<|so h▸au I I

def Y3 c{R}(h:wr c=some R):cN bd 23 [Z bG c] (iD R):=by
 refine dp Tryz.func23 I<|aV<|cL I<|bC<|bP<|aR<|aU kX dE sL I<|bY qp I<|d (eX (M I) hI)<|bX h I (fun h=>?_) (fun h=>?_)
 ·exact aV<|bC<|cA<|af<|so h▸au I I
 ·refine gp<|aR<|bF<|bP<|ai<|bp ?_;refine ay (pd (tD:=fun n i=>nh c n i=some R) (Of:=fun i=>[]) (Gf:=fun i=>[(1,bo bG c),(3,bf i)]) (fun i h=>nn h) (fun n ih i h=>?_) fc (0:Int) h) (a8 I);refine dw<|aR<|aY I<|aU kX dE sL I<|bY qp I<|qq I<|bX h I (fun h=>?_) (fun h=>?_)
  ·refine gp<|aA<|ai<|aR<|aU kX dE sL I<|aY I<|cu h fun e q_e h=>d9 qp jN I q_e<|eg h acF (YH _) (da I) fun r h=>d (fD (M I))<|bX h I (fun h=>?_) (fun h=>?_)
   ·exact aV<|bC<|cA<|af<|bT<|af<|bT<|so h▸au I I
   ·refine gp<|aV<|bF<|bP<|ai<|bp ?_;refine ay (pd (tD:=fun n1 k=>pr c (nh c n) i e n1 k=some R) (Of:=fun k=>[]) (Gf:=fun k=>[(1,bo bG c),(3,bf i),(4,bf k)]) (fun k h=>nn h) (fun n1 ih1 k h=>?_) fc (0:Int) h) (a8 I);refine dw<|aR<|aY I<|aY I<|qq I<|bX h I (fun h=>?_) (fun h=>?_)
    ·refine gp<|aA<|ai<|aA<|cu h fun e1 q_e1 h=>?_
     refine d8 (ts:=[_,_,_,_,_,_,_,_,_,_,_,_,_]) mixed I I
      ⟨qN 1 I I (kO kX dE I I),
      ⟨fA 0 sL I I,
      ⟨fv I I,
      ⟨eh 29 1 30 2 I I I (uR qp jN I I I q_e1),
      ⟨fL 31 3 I I (kO wO pF I I),
      ⟨fA 4 ja I I,
      ⟨qN 1 I I (kO kX dE I I),
      ⟨fA 6 sL I I,
      ⟨fv I I,
      ⟨eh 35 7 36 8 I I I (uR qp jN I I I q_e),
      ⟨fL 37 9 I I (kO wO pF I I),
      ⟨fA 10 ja I I,
      ⟨eh 33 5 39 11 I I I (fW (M I) (M I)),
      Q⟩⟩⟩⟩⟩⟩⟩⟩⟩⟩⟩⟩⟩ ?_
     refine aq<|lO h I (fun h=>?_) (fun h=>?_)
     ·exact aV<|bC<|cA<|bT<|af<|xO<|bT<|af<|bT<|so h▸au I I
     ·refine bl<|bn<|aq<|aL<|aY I<|d (fq (M I) hI)<|gx I<|br ?_;exact aO (ay (ih1 (IntKind.i64.wrap (k+(1:Int))) h) (a8 I))
    ·refine ep<|aE<|aE<|cK<|bn<|aq<|aL<|aY I<|d (fq (M I) hI)<|gx I<|br ?_;exact aO (ay (ih (IntKind.i64.wrap (i+(1:Int))) h) (a8 I))
  ·exact ep<|aE<|aE<|cK<|aq<|aV<|bC<|cA<|so h▸au I I

def VT{R}(h:zD=some R):cN bd 184 [] (Z (qD rS 28) R):=by
 exact dp Tryz.func184 I<|aV<|aX (r:=(qD rS 28)) (x:=(List.replicate 28 [])) Pk (fun _=>HG (r:=rS) 28 (fun _=>I) _) I fun b=>bP<|aV<|d (sQ (r:=rS) (ys:=[[83,69,76,69,67,84],[68,73,83,84,73,78,67,84],[70,82,79,77],[76,69,70,84],[74,79,73,78],[79,78],[87,72,69,82,69],[71,82,79,85,80],[66,89],[72,65,86,73,78,71],[85,78,73,79,78],[65,76,76],[79,82,68,69,82],[76,73,77,73,84],[65,83,67],[68,69,83,67],[65,83],[65,78,68],[79,82],[78,79,84],[73,83],[78,85,76,76],[84,82,85,69],[70,65,76,83,69],[67,79,85,78,84],[83,85,77],[77,73,78],[77,65,88]]) (xs:=[.const (.string ⟨#[83,69,76,69,67,84]⟩),.const (.string ⟨#[68,73,83,84,73,78,67,84]⟩),.const (.string ⟨#[70,82,79,77]⟩),.const (.string ⟨#[76,69,70,84]⟩),.const (.string ⟨#[74,79,73,78]⟩),.const (.string ⟨#[79,78]⟩),.const (.string ⟨#[87,72,69,82,69]⟩),.const (.string ⟨#[71,82,79,85,80]⟩),.const (.string ⟨#[66,89]⟩),.const (.string ⟨#[72,65,86,73,78,71]⟩),.const (.string ⟨#[85,78,73,79,78]⟩),.const (.string ⟨#[65,76,76]⟩),.const (.string ⟨#[79,82,68,69,82]⟩),.const (.string ⟨#[76,73,77,73,84]⟩),.const (.string ⟨#[65,83,67]⟩),.const (.string ⟨#[68,69,83,67]⟩),.const (.string ⟨#[65,83]⟩),.const (.string ⟨#[65,78,68]⟩),.const (.string ⟨#[79,82]⟩),.const (.string ⟨#[78,79,84]⟩),.const (.string ⟨#[73,83]⟩),.const (.string ⟨#[78,85,76,76]⟩),.const (.string ⟨#[84,82,85,69]⟩),.const (.string ⟨#[70,65,76,83,69]⟩),.const (.string ⟨#[67,79,85,78,84]⟩),.const (.string ⟨#[83,85,77]⟩),.const (.string ⟨#[77,73,78]⟩),.const (.string ⟨#[77,65,88]⟩)]) Tryz.underlying228 ja I Pk I I ⟨hS,hS,hS,hS,hS,hS,hS,hS,hS,hS,hS,hS,hS,hS,hS,hS,hS,hS,hS,hS,hS,hS,hS,hS,hS,hS,hS,hS,Q⟩)<|bM Pk aj I<|aQ 0 I<|cA<|so h▸sw I Pk I I I

def FH s{R}(h:nR s=some R):cN bd 146 [Z rS s] (iD R):=by
 refine dp Tryz.func146 I<|aV<|bC<|bP<|aR<|aY I<|d (nT nG (M I))<|d (eN (M I) hI)<|aY I<|ap I (de I)<|ap I (fun V=>nT nG (bE I V))<|ap I (fun V=>eX (bE I V) hI)<|dU I<|aY I<|cu h fun t q_t h=>ap I (de I) ?_
 obtain⟨b,h1t,h0t⟩:=og q_t
 have q_bg:=fun A=>(h1t A).1
 refine ap I (fun V=>lK nG (bE I V) hI (q_bg V))<|ap I (fun V=>eN (bE I V) hI)<|d (cD (M I) (fun A=>(bE I (mD A))) (fun A=>(h1t A).2) h0t)<|aY I<|cu h fun t1 q_t1 h=>ap I (de I) ?_
 obtain⟨b1,h1t1,h0t1⟩:=og q_t1
 have q_b1g:=fun A=>(h1t1 A).1
 refine ap I (fun V=>lK nG (bE I V) hI (q_b1g V))<|ap I (fun V=>eX (bE I V) hI)<|d (cD (M I) (fun A=>(bE I (mD A))) (fun A=>(h1t1 A).2) h0t1)<|bX h I (fun h=>?_) (fun h=>?_)
 ·exact aV<|bC<|cA<|af<|so h▸au I I
 ·refine gp<|aV<|iY (r:=(rI .u8)) (ys:=xo) (xs:=[]) FY X3 I I I I I trivial I fun l c=>bh I<|aR<|aY I<|d (nT nG (M I))<|d (bB hI)<|bP<|ai<|bp ?_;refine ay (KM (tD:=fun n up l1 c1 x=>kV s n up x=some R) (Of:=fun up l1 c1 x=>[f6 (rI .u8) 5 l1 c1 up]) (Gf:=fun up l1 c1 x=>[(0,Z rS s),(3,sy l1 c1 up),(29,iG s),(30,bf x)]) (fun up l1 c1 x h=>nn h) (fun n ih up l1 c1 x h=>?_) fc xo l c (0:Int) h) (a8 I);refine dw<|aV<|qq I<|bP<|aA<|lO h I (fun h=>?_) (fun h=>?_)
  ·refine gp<|aA<|ai<|aI I<|bh I<|aI I<|aY I<|cu h fun b2 q_b2 h=>d (lK nG (M I) (M I) q_b2)<|bh I<|aI I<|d (ff (M I) hI)<|aY I ?_;refine ax I (de I)<|ax I (fun V=>kr (bE I V) hI)<|eZ I<|bh I<|aR<|aY I<|d (fD (M I))<|aY I<|ax I (de I)<|ax I (fun V=>eN (bE I V) hI)<|ax I (rn I)<|fk I I I I (fun V=>fR I)<|fk I I I I (fun V=>eX (bE I V) hI)<|ax I (fun V=>D3 (bE I V) (fun A=>(bE I (sr V (mD A)))))<|eZ I<|aY I<|ax I (de I)<|ax I (uI I)<|eZ I<|br ?_;refine aq<|lO h I (fun h=>?_) (fun h=>?_)
   ·exact aV<|bC<|cA<|af<|bT<|af<|bT<|aM<|so h▸au I I
   ·refine gp ?_;refine ia (tD:=fun c2=>ow (kV s n) up x c2=some R) (Of:=fun c2=>[f6 (rI .u8) 5 l1 c1 up]) (Gf:=fun c2=>[(0,Z rS s),(3,sy l1 c1 up),(5,Z (rI .u8) c2),(29,iG s),(30,bf x)]) (fun c2 h=>?_) (fun aw=>?_)
    ·skip
     refine aL<|aY I<|aY I<|d (ba (r:=(rI .u8)) (ys:=[c2]) (xs:=[.tmp 60]) FY X3 I I I I I ⟨(M I),Q⟩)<|cu h fun up1 q_up1 h=>dZ X3 I I I I FY I I (M I) (M I) q_up1 fun l2 c3=>gx I<|br<|bn<|aq<|aL<|d (fq (M I) hI)<|aY I<|br ?_;exact aO (ay (ih up1 l2 c3 (IntKind.i64.wrap (x+(1:Int))) h) (a8 I))
    ·skip
     refine aI I<|bX h I (fun h=>?_) (fun h=>?_)
     ·refine aL<|aY I<|d (fm (M I) hI)<|gx I<|br ?_;exact cj (aw (IntKind.u8.wrap (b2-(32:Int))) h) (a8 I)
     ·refine bl ?_;exact cj (aw b2 h) (a8 I)
  ·refine ep<|aE<|aE<|cK<|aq<|aR<|eg h abg VT trivial fun r h=>d (bB hI)<|bP<|ai<|bp<|Ew<|HP 3 I ?_;refine ay (KL (tD:=fun k i=>(28-i=k)/\mn up r k i=some R) (Of:=fun _ i=>[K (rI .u8) 5 l1 c1 up]) (Gf:=fun _ i=>[(3,tO (rI .u8) l1 c1 up),(64,Z (qD rS 28) r),(65,bf (i:Int))]) (fun i h=>?_) (fun k1 ih1 i h=>?_) 28 0 ⟨I,h⟩) (a8 I)
   ·obtain⟨D,h⟩:=h
    exact dw<|aV<|d (eN (M I) hI)<|bP<|aA<|qM (M I) (Rx D)<|ep<|aE<|aE<|cK<|aq<|aV<|bC<|cA<|aM<|so h▸au I I
   ·obtain⟨D,h⟩:=h
    refine dw<|aV<|d (eN (M I) hI)<|bP<|aA<|qL (M I) (Rw D)<|gp<|aA<|ai<|aV<|cu h fun e1 q_e1 h=>d (xz Tryz.underlying228 ja I I (M I) (M I) q_e1)<|bh I<|aI I<|aY I<|d (I1 FY O9 nG X3 I (kp (M I))) ?_;refine d (fW (M I) (M I))<|bX h I (fun h=>?_) (fun h=>?_)
    ·exact aV<|bC<|cA<|bT<|af<|bT<|aM<|so h▸au I I
    ·refine bl<|bn<|aq<|aL<|d (wB (NV D (by decide)) (M I) hI)<|aY I<|br ?_;exact aO (ay (ih1 (i+1) ⟨NU D,h⟩) (a8 I))

end Go.Proofs.YthbdkceckjihgaaGreatDoor

