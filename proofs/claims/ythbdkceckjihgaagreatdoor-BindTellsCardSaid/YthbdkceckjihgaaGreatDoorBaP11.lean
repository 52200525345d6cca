/- cH of this claim: P11. -/
import Derived.Test.YthbdkceckjihgaaGreatDoorBaT
import Derived.Test.YthbdkceckjihgaaGreatDoorBaP10
set_option linter.all false
namespace Go.Proofs.YthbdkceckjihgaaGreatDoor
open Go
set_option maxRecDepth 100000

def A9 c{R}(h:mu c=some R):cw aH 158 [V (rI .u8) c] (ia R):=by
 exact cX Tryz.func158 I<|aU<|bQ<|bG<|aG I<|d (e9 (Y I) hI)<|a8 I<|aB I (cO I)<|aB I (fun K=>jg (bI I K) hI)<|fF I<|aR I<|so h▸aA I I

def JA l s{R}(h:vi l s=some R):cw aH 201 [fO (rS) l,V rS s] (ia R):=by
 refine cX Tryz.func201 I<|aU<|bQ<|bG<|aZ<|bJ<|bG<|ai<|aQ (k:=0) I fun hN=>bq ?_;refine aE (eH (aw:=fun ls i=>(l.drop i=ls)/\k6 s ls=some R) (Of:=fun _ i=>[]) (Gf:=fun _ i=>[(0,fO (rS) l),(1,V rS s),(5,aO (i:Int))]) (fun i h=>?_) (fun e tl ih i h=>?_) l 0 ⟨I,h⟩) (be I)
 ·obtain⟨A,h⟩:=h
  exact MB tE A I<|av<|aU<|bQ<|dh<|so h▸aA I I
 ·obtain⟨A,h⟩:=h
  refine MA tE A I<|aF<|ai<|aG I<|a8 I<|eM tE j5 I (dv A)<|a8 I<|d (jj (Y I) (Y I))<|bu ?_;refine av<|m3 h I (fun h=>?_) (fun h=>?_)
  ·exact aU<|bQ<|dh<|cz<|ah<|cz<|so h▸aA I I
  ·refine bA<|Kr A hN I ?_;exact aM (aE (ih (i+1) ⟨cW A,h⟩) (be I))

def HV{R}(h:qO=some R):fL aH 202 [] false rS 9 R:=by
 exact fL.of Tryz.func202 I I I fun w0 S0=>aU<|bS false rS 9<|d (bC tw)<|bG<|aU<|fk (r:=rS) (ys:=[[83,69,76,69,67,84],[68,73,83,84,73,78,67,84],[70,82,79,77],[76,69,70,84],[74,79,73,78],[79,78],[87,72,69,82,69],[71,82,79,85,80],[66,89],[72,65,86,73,78,71],[85,78,73,79,78],[65,76,76],[79,82,68,69,82],[76,73,77,73,84],[65,83,67],[68,69,83,67],[65,83],[65,78,68],[79,82],[78,79,84],[73,83],[78,85,76,76],[84,82,85,69],[70,65,76,83,69],[67,79,85,78,84],[83,85,77],[77,73,78],[77,65,88]]) (xs:=[.const (.string ⟨#[83,69,76,69,67,84]⟩),.const (.string ⟨#[68,73,83,84,73,78,67,84]⟩),.const (.string ⟨#[70,82,79,77]⟩),.const (.string ⟨#[76,69,70,84]⟩),.const (.string ⟨#[74,79,73,78]⟩),.const (.string ⟨#[79,78]⟩),.const (.string ⟨#[87,72,69,82,69]⟩),.const (.string ⟨#[71,82,79,85,80]⟩),.const (.string ⟨#[66,89]⟩),.const (.string ⟨#[72,65,86,73,78,71]⟩),.const (.string ⟨#[85,78,73,79,78]⟩),.const (.string ⟨#[65,76,76]⟩),.const (.string ⟨#[79,82,68,69,82]⟩),.const (.string ⟨#[76,73,77,73,84]⟩),.const (.string ⟨#[65,83,67]⟩),.const (.string ⟨#[68,69,83,67]⟩),.const (.string ⟨#[65,83]⟩),.const (.string ⟨#[65,78,68]⟩),.const (.string ⟨#[79,82]⟩),.const (.string ⟨#[78,79,84]⟩),.const (.string ⟨#[73,83]⟩),.const (.string ⟨#[78,85,76,76]⟩),.const (.string ⟨#[84,82,85,69]⟩),.const (.string ⟨#[70,65,76,83,69]⟩),.const (.string ⟨#[67,79,85,78,84]⟩),.const (.string ⟨#[83,85,77]⟩),.const (.string ⟨#[77,73,78]⟩),.const (.string ⟨#[77,65,88]⟩)]) tE j5 I I I I I ⟨hS,hS,hS,hS,hS,hS,hS,hS,hS,hS,hS,hS,hS,hS,hS,hS,hS,hS,hS,hS,hS,hS,hS,hS,hS,hS,hS,hS,Q⟩ I fun l c=>aR I<|so h▸jp I I
def JO s{R}(h:nc s=some R):cw aH 159 [V rS s] (ia R):=by
 exact cX Tryz.func159 I<|aU<|bQ<|bG<|aU<|xk h N0 HV trivial fun r h l c=>a8 I<|jc<|lv 3 I<|eD h N1 (JA _ _) ⟨(kS (Y I)),(Y I),Q⟩ fun r1 h=>aR I<|aI<|so h▸aA I I

def JN s{R}(h:oz s=some R):cw aH 160 [V rS s] (V rS R):=by
 refine cX Tryz.func160 I<|aU<|d (bC hS)<|bG<|aU<|bS false (rI .u8) 5<|d (bC tw)<|bG<|aZ<|bJ<|bG<|ai<|bq ?_;refine aE (Fq (aw:=fun n out l c i=>gA s n out i=some R) (Of:=fun out l c i=>[eg (rI .u8) 5 l c out]) (Gf:=fun out l c i=>[(0,V rS s),(3,oq l c out),(4,aO i)]) (fun out l c i h=>nn h) (fun n ih out l c i h=>?_) kw sM none 0 (0:Int) h) (be I);refine dg<|aZ<|a8 I<|a8 I<|d (me kx (Y I))<|ou I<|cE h I (fun h=>?_) (fun h=>?_)
 ·refine ip<|aF<|ai<|aG I<|a8 I<|ck h fun b q_b h=>d (kJ kx (Y I) (Y I) q_b)<|bk I ?_;refine iL (aw:=fun c1=>jw (gA s n) out i c1=some R) (Of:=fun c1=>[eg (rI .u8) 5 l c out]) (Gf:=fun c1=>[(0,V rS s),(3,oq l c out),(4,aO i),(5,V (rI .u8) c1)]) (fun c1 h=>?_) (fun hg=>?_)
  ·skip
   refine aL<|a8 I<|a8 I<|d (aW (r:=(rI .u8)) (ys:=[c1]) (xs:=[.tmp 21]) Tryz.underlying230 O0 I I I I I ⟨(Y I),Q⟩)<|ck h fun out1 q_out1 h=>dH O0 I I I I Tryz.underlying230 I I (Y I) (Y I) q_out1 fun l1 c2=>gJ I<|bu<|bl<|av<|aL<|a8 I<|d (iA (Y I) hI)<|gJ I<|bu ?_;exact aM (aE (ih out1 l1 c2 (IntKind.i64.wrap (i+(1:Int))) h) (be I))
  ·skip
   refine aG I<|eD h If (A9 _) (dc I) fun r h=>cE h I (fun h=>?_) (fun h=>?_)
   ·refine aL<|a8 I<|d (j9 (Y I) hI)<|d (iA (Y I) hI)<|gJ I<|bu ?_;exact cx (hg (IntKind.u8.wrap ((IntKind.u8.wrap (b-(97:Int)))+(65:Int))) h) (be I)
   ·refine bA ?_;exact cx (hg b h) (be I)
 ·exact dU<|au<|au<|cj<|av<|aG I<|jc<|lv 3 I<|lv 24 I<|d (F3 Tryz.underlying230 GQ kx O0 I (kS (Y I)))<|aR I<|aI<|so h▸aA I I

def JM c{R}(h:qN c=some R):cw aH 161 [V (rI .u8) c] (ia R):=by
 exact cX Tryz.func161 I<|aU<|bQ<|bG<|aG I<|d (e9 (Y I) hI)<|a8 I<|aB I (cO I)<|aB I (fun K=>jg (bI I K) hI)<|fF I<|aR I<|so h▸aA I I

def E7 s{R}(h:k7 s=some R):cw aH 121 [V rS s] (ia R):=by
 refine cX Tryz.func121 I<|aU<|bQ<|bG<|aZ<|a8 I<|d (me kx (Y I))<|d (fl (Y I) hI)<|a8 I<|aK I (cO I)<|aK I (fun K=>me kx (bI I K))<|aK I (fun K=>fz (bI I K) hI)<|gU I<|a8 I<|ck h fun t q_t h=>aK I (cO I) ?_
 obtain⟨b,h1t,h0t⟩:=og q_t
 have q_bg:=fun D=>(h1t D).1
 refine aK I (fun K=>kJ kx (bI I K) hI (q_bg K)) ?_
 obtain⟨r,h1t⟩:=IB (fun D=>(h1t D).2)
 have q_rg:=fun D=>(h1t D).1
 refine aK I (fun K=>bp If (A9 _ (q_rg K)) ⟨(bI I K),Q⟩)<|aK I (qC I)<|d (cP (Y I) (fun D=>(bI I (lD D))) (fun D=>(h1t D).2) h0t)<|a8 I<|ck h fun t1 q_t1 h=>aK I (cO I) ?_
 obtain⟨r1,h1t1,h0t1⟩:=og q_t1
 have q_r1g:=fun D=>(h1t1 D).1
 refine aK I (fun K=>bp Oj (JN _ (q_r1g K)) ⟨(bI I K),Q⟩) ?_
 obtain⟨r2,h1t1⟩:=IB (fun D=>(h1t1 D).2)
 have q_r2g:=fun D=>(h1t1 D).1
 refine aK I (fun K=>bp Ok (JO _ (q_r2g K)) ⟨(bI I K),Q⟩)<|d (cP (Y I) (fun D=>(bI I (lD D))) (fun D=>(h1t1 D).2) h0t1)<|cE h I (fun h=>?_) (fun h=>?_)
 ·exact aU<|bQ<|dh<|ah<|so h▸aA I I
 ·refine ip<|aZ<|bJ<|bG<|ai<|bq ?_;refine aE (oU (aw:=fun n i=>i0 s n i=some R) (Of:=fun i=>[]) (Gf:=fun i=>[(0,V rS s),(3,aO i)]) (fun i h=>nn h) (fun n ih i h=>?_) kw (0:Int) h) (be I);refine dg<|aZ<|a8 I<|a8 I<|d (me kx (Y I))<|ou I<|cE h I (fun h=>?_) (fun h=>?_)
  ·refine ip<|aF<|ai<|aG I<|a8 I<|ck h fun b1 q_b1 h=>d (kJ kx (Y I) (Y I) q_b1)<|eD h If (A9 _) (dc I) fun r3 h=>d (iz (Y I))<|a8 I<|ck h fun t2 q_t2 h=>aB I (cO I)<|aB I (cO I) ?_
   obtain⟨b2,h1t2,h0t2⟩:=og q_t2
   have q_b2g:=fun D=>(h1t2 D).1
   refine aB I (fun K=>kJ kx (bI I K) (bI I K) (q_b2g K)) ?_
   obtain⟨r4,h1t2⟩:=IB (fun D=>(h1t2 D).2)
   have q_r4g:=fun D=>(h1t2 D).1
   refine aB I (fun K=>bp Oi (JM _ (q_r4g K)) ⟨(bI I K),Q⟩)<|aB I (qC I)<|d (cb (Y I) (fun D=>(bI I D)) (fun D=>(h1t2 D).2) h0t2)<|a8 I<|ck h fun t3 q_t3 h=>aB I (cO I)<|aB I (cO I) ?_
   obtain⟨b3,h1t3,h0t3⟩:=og q_t3
   have q_b3g:=fun D=>(h1t3 D).1
   refine aB I (fun K=>kJ kx (bI I K) (bI I K) (q_b3g K))<|aB I (sq I)<|d (cb (Y I) (fun D=>(bI I D)) (fun D=>(h1t3 D).2) h0t3)<|cE h I (fun h=>?_) (fun h=>?_)
   ·exact aU<|bQ<|dh<|cz<|ah<|cz<|so h▸aA I I
   ·refine bA<|bl<|av<|aL<|a8 I<|d (iA (Y I) hI)<|gJ I<|bu ?_;exact aM (aE (ih (IntKind.i64.wrap (i+(1:Int))) h) (be I))
  ·exact dU<|au<|au<|cj<|av<|aU<|bQ<|dh<|so h▸aA I I

def J0 kind{R}(h:pE kind=some R):cw aH 122 [aO kind] (V rS R):=by
 refine cX Tryz.func122 I<|aU<|d (bC hS)<|bG<|aZ<|a8 I<|bG<|ai<|aU<|eN I<|bk I<|m3 h I (fun h=>?_) (fun h=>?_)
 ·exact aU<|d (bC hS)<|dh<|cz<|so h▸aA I I
 ·refine aU<|eN I<|bk I<|m3 h I (fun h=>?_) (fun h=>?_)
  ·exact aU<|d (bC hS)<|dh<|cz<|so h▸aA I I
  ·refine aU<|eN I<|bk I<|m3 h I (fun h=>?_) (fun h=>?_)
   ·exact aU<|d (bC hS)<|dh<|cz<|so h▸aA I I
   ·exact bA<|bl<|av<|aU<|d (bC hS)<|dh<|so h▸aA I I

def LX t{R}(h:jS t=some R):cw aH 75 [V bW t] (ia R):=by
 refine cX Tryz.func75 I<|aU<|cY I<|bQ<|bG<|aZ<|bN uA nP j5 I<|eD h KP (E7 _) (dc I) fun r h=>d (iz (Y I))<|a8 I<|aK I (dP g9 ew I I)<|aK I (du mp I I)<|aK I (kV kQ I)<|aK I (fun K=>fl (bI I K) hI)<|gU I<|a8 I<|aK I (dP g9 ew I I)<|aK I (du mp I I) ?_;refine aK I (kV kQ I)<|aK I (fun K=>fz (bI I K) hI)<|gU I<|cE h I (fun h=>?_) (fun h=>?_)
 ·exact aU<|bQ<|dh<|ah<|so h▸aA I I
 ·refine ip<|aZ<|bJ<|bG<|ai<|bq ?_;refine aE (oU (aw:=fun n i=>ff t n i=some R) (Of:=fun i=>[]) (Gf:=fun i=>[(1,bb bW t),(3,aO i)]) (fun i h=>nn h) (fun n ih i h=>?_) kw (0:Int) h) (be I);refine dg<|aZ<|a8 I<|bN g9 ew mp I<|cu kQ I<|ou I<|cE h I (fun h=>?_) (fun h=>?_)
  ·refine ip<|aF<|ai<|aU<|bN g9 ew mp I<|a8 I<|ck h fun e q_e h=>eM kQ fG I q_e<|aT fG i7 I fun b=>bX fG al I<|aP 4 I<|bG<|aZ<|bN oM iP j5 I<|eD h KP (E7 _) (dc I) fun r1 h=>?_;refine d (iz (Y I))<|a8 I<|ck h fun t1 q_t1 h=>aK I (dP uz mC I I)<|aK I (du cF I I) ?_
   obtain⟨r2,h1t1,h0t1⟩:=og q_t1
   have q_r2g:=fun D=>(h1t1 D).1
   refine aK I (fun K=>bp OB (J0 _ (q_r2g K)) ⟨(bI I K),Q⟩)<|aK I (fun K=>jj (bI I K) hS)<|d (cP (Y I) (fun D=>(bI I (lD D))) (fun D=>(h1t1 D).2) h0t1)<|cE h I (fun h=>?_) (fun h=>?_)
   ·exact aU<|bQ<|dh<|ah<|cz<|ah<|cz<|so h▸aA I I
   ·refine ip<|aU<|bJ<|bG<|ai<|bq ?_;refine aE (oU (aw:=fun n1 k=>gh t (ff t n) i e n1 k=some R) (Of:=fun k=>[]) (Gf:=fun k=>[(1,bb bW t),(3,aO i),(4,bb bO e),(5,aO k)]) (fun k h=>nn h) (fun n1 ih1 k h=>?_) kw (0:Int) h) (be I);refine dg<|aZ<|a8 I<|a8 I<|ou I<|cE h I (fun h=>?_) (fun h=>?_)
    ·refine ip<|aF<|ai<|aF<|ck h fun e1 q_e1 h=>?_
     refine fX (ts:=[_,_,_,_,_,_,_,_,_]) mixed I I
      ⟨rp 1 I I (oo g9 ew I I),
      ⟨mQ 0 mp I I,
      ⟨iQ I I,
      ⟨ij 51 1 52 2 I I I (IP kQ fG I I I q_e1),
      ⟨gH 53 3 I I (oo oM iP I I),
      ⟨mQ 4 j5 I I,
      ⟨rp 4 I I (oo oM iP I I),
      ⟨mQ 6 j5 I I,
      ⟨ij 55 5 57 7 I I I (jj (Y I) (Y I)),
      Q⟩⟩⟩⟩⟩⟩⟩⟩⟩ ?_
     refine av<|m3 h I (fun h=>?_) (fun h=>?_)
     ·exact aU<|bQ<|dh<|cz<|ah<|rX<|cz<|ah<|cz<|so h▸aA I I
     ·refine bA<|bl<|av<|aL<|a8 I<|d (iA (Y I) hI)<|gJ I<|bu ?_;exact aM (aE (ih1 (IntKind.i64.wrap (k+(1:Int))) h) (be I))
    ·refine dU<|au<|au<|cj<|bl<|av<|aL<|a8 I<|d (iA (Y I) hI)<|gJ I<|bu ?_;exact aM (aE (ih (IntKind.i64.wrap (i+(1:Int))) h) (be I))
  ·refine dU<|au<|au<|cj<|av<|aZ<|bJ<|bG<|ai<|bq ?_;refine aE (oU (aw:=fun n2 i1=>ge t n2 i1=some R) (Of:=fun i1=>[]) (Gf:=fun i1=>[(1,bb bW t),(6,aO i1)]) (fun i1 h=>nn h) (fun n2 ih2 i1 h=>?_) kw (0:Int) h) (be I);refine dg<|aZ<|a8 I<|bN nj jB gc I<|cu eu I<|ou I<|cE h I (fun h=>?_) (fun h=>?_)
   ·refine ip<|aF<|ai<|aF<|ck h fun e2 q_e2 h=>ck h fun t2 q_t2 h=>?_
    obtain⟨t3,h1t2,h0t2⟩:=og q_t2
    have q_t3g:=fun D=>(h1t2 D).1
    obtain⟨e3,h1t3,h0t3⟩:=I4 q_t3g
    have q_e3g:=fun D=>(h1t3 D).1
    refine fX (ts:=[_,_,_,_,_,_,_,_,_,_,_,_,_,_,_,_,_,_,_,_,_,_,_,_,_,_,_,_,_,_,_,_,_,_,_]) mixed I I
     ⟨rp 1 I I (oo nj jB I I),
     ⟨mQ 0 gc I I,
     ⟨iQ I I,
     ⟨ij 67 1 68 2 I I I (IP eu cF I I I q_e2),
     ⟨mQ 3 cF I I,
     ⟨gH 70 4 I I (fl (Y I) hI),
     ⟨gH 71 5 I I (fh I),
     ⟨tL 1 72 6 I I I (gO I I I I (fun K=>oo nj jB I I)),
     ⟨nz 73 7 72 6 I I I (gO I I I I (fun K=>fS gc I I (bI I K))),
     ⟨tL 6 72 6 I I I (gO I I I I (fun K=>fh I)),
     ⟨vU 74 8 75 9 72 6 I I I I (gO I I I I (fun K=>eL eu cF I (bI I K) (bI I K) q_e2)),
     ⟨nz 76 10 72 6 I I I (gO I I I I (fun K=>fS cF I I (bI I K))),
     ⟨tL 1 72 6 I I I (gO I I I I (fun K=>oo g9 ew I I)),
     ⟨nz 78 12 72 6 I I I (gO I I I I (fun K=>fS mp I I (bI I K))),
     ⟨nz 79 13 72 6 I I I (gO I I I I (fun K=>fJ kQ (bI I K))),
     ⟨vU 77 11 80 14 72 6 I I I I (gO I I I I (fun K=>e9 (bI I K) (bI I K))),
     ⟨ij 72 6 81 15 I I I (OU I I),
     ⟨gH 82 16 I I (fh I),
     ⟨tL 6 83 17 I I I (gO I I I I (fun K=>fh I)),
     ⟨nz 84 18 83 17 I I I (gO I I I I (fun K=>fz (bI I K) hI)),
     ⟨nz 85 19 83 17 I I I (gO I I I I (fun K=>bt (bI I K))),
     ⟨tL 1 86 20 I I I (kz I I I I (fun K=>oo nj jB I I)),
     ⟨nz 87 21 86 20 I I I (kz I I I I (fun K=>fS gc I I (bI I K))),
     ⟨tL 6 86 20 I I I (kz I I I I (fun K=>fh I)),
     ⟨nz 89 23 86 20 I I I (kz I I I I (fun K=>j9 (bI I K) hI)),
     ⟨vU 88 22 90 24 86 20 I I I I (kz I I I I (fun K=>eL eu cF I (bI I K) (bI I K) (q_e3g K))),
     ⟨nz 91 25 86 20 I I I (kz I I I I (fun K=>fS cF I I (bI I K))),
     ⟨tL 1 86 20 I I I (kz I I I I (fun K=>oo nj jB I I)),
     ⟨nz 93 27 86 20 I I I (kz I I I I (fun K=>fS gc I I (bI I K))),
     ⟨tL 6 86 20 I I I (kz I I I I (fun K=>fh I)),
     ⟨vU 94 28 95 29 86 20 I I I I (kz I I I I (fun K=>eL eu cF I (bI I K) (bI I K) q_e2)),
     ⟨nz 96 30 86 20 I I I (kz I I I I (fun K=>fS cF I I (bI I K))),
     ⟨vU 92 26 97 31 86 20 I I I I (kz I I I I (fun K=>e9 (bI I K) (bI I K))),
     ⟨vU 86 20 98 32 83 17 I I I I (gO I I I I (fun K=>cb (bI I K) (fun D=>(bI I (ku K D))) (fun D=>(h1t3 (ku K D)).2) (fun D=>h0t3 K D))),
     ⟨ij 83 17 99 33 I I I (cP (Y I) (fun D=>(bI I (lD D))) (fun D=>(h1t2 D).2) h0t2),
     Q⟩⟩⟩⟩⟩⟩⟩⟩⟩⟩⟩⟩⟩⟩⟩⟩⟩⟩⟩⟩⟩⟩⟩⟩⟩⟩⟩⟩⟩⟩⟩⟩⟩⟩⟩ ?_
    refine av<|m3 h I (fun h=>?_) (fun h=>?_)
    ·exact aU<|bQ<|dh<|cz<|ah<|cz<|so h▸aA I I
    ·refine bA<|bl<|av<|aL<|a8 I<|d (iA (Y I) hI)<|gJ I<|bu ?_;exact aM (aE (ih2 (IntKind.i64.wrap (i1+(1:Int))) h) (be I))
   ·exact dU<|au<|au<|cj<|av<|aU<|bQ<|dh<|so h▸aA I I

def Mc c{R}(h:oy c=some R):cw aH 23 [V bc c] (ia R):=by
 refine cX Tryz.func23 I<|aU<|cY I<|bQ<|bG<|aZ<|bN iU dw pd I<|cu mj I<|d (fz (Y I) hI)<|cE h I (fun h=>?_) (fun h=>?_)
 ·exact aU<|bQ<|dh<|ah<|so h▸aA I I
 ·refine ip<|aZ<|bJ<|bG<|ai<|bq ?_;refine aE (oU (aw:=fun n i=>iw c n i=some R) (Of:=fun i=>[]) (Gf:=fun i=>[(1,bb bc c),(3,aO i)]) (fun i h=>nn h) (fun n ih i h=>?_) kw (0:Int) h) (be I);refine dg<|aZ<|a8 I<|bN iU dw pd I<|cu mj I<|ou I<|cE h I (fun h=>?_) (fun h=>?_)
  ·refine ip<|aF<|ai<|aZ<|bN iU dw pd I<|a8 I<|ck h fun e q_e h=>eM mj ie I q_e<|eD h PJ (LX _) (dc I) fun r h=>d (iz (Y I))<|cE h I (fun h=>?_) (fun h=>?_)
   ·exact aU<|bQ<|dh<|ah<|cz<|ah<|cz<|so h▸aA I I
   ·refine ip<|aU<|bJ<|bG<|ai<|bq ?_;refine aE (oU (aw:=fun n1 k=>jv c (iw c n) i e n1 k=some R) (Of:=fun k=>[]) (Gf:=fun k=>[(1,bb bc c),(3,aO i),(4,aO k)]) (fun k h=>nn h) (fun n1 ih1 k h=>?_) kw (0:Int) h) (be I);refine dg<|aZ<|a8 I<|a8 I<|ou I<|cE h I (fun h=>?_) (fun h=>?_)
    ·refine ip<|aF<|ai<|aF<|ck h fun e1 q_e1 h=>?_
     refine fX (ts:=[_,_,_,_,_,_,_,_,_,_,_,_,_]) mixed I I
      ⟨rp 1 I I (oo iU dw I I),
      ⟨mQ 0 pd I I,
      ⟨iQ I I,
      ⟨ij 29 1 30 2 I I I (IP mj ie I I I q_e1),
      ⟨gH 31 3 I I (oo uA nP I I),
      ⟨mQ 4 j5 I I,
      ⟨rp 1 I I (oo iU dw I I),
      ⟨mQ 6 pd I I,
      ⟨iQ I I,
      ⟨ij 35 7 36 8 I I I (IP mj ie I I I q_e),
      ⟨gH 37 9 I I (oo uA nP I I),
      ⟨mQ 10 j5 I I,
      ⟨ij 33 5 39 11 I I I (jj (Y I) (Y I)),
      Q⟩⟩⟩⟩⟩⟩⟩⟩⟩⟩⟩⟩⟩ ?_
     refine av<|m3 h I (fun h=>?_) (fun h=>?_)
     ·exact aU<|bQ<|dh<|cz<|ah<|rX<|cz<|ah<|cz<|so h▸aA I I
     ·refine bA<|bl<|av<|aL<|a8 I<|d (iA (Y I) hI)<|gJ I<|bu ?_;exact aM (aE (ih1 (IntKind.i64.wrap (k+(1:Int))) h) (be I))
    ·refine dU<|au<|au<|cj<|bl<|av<|aL<|a8 I<|d (iA (Y I) hI)<|gJ I<|bu ?_;exact aM (aE (ih (IntKind.i64.wrap (i+(1:Int))) h) (be I))
  ·exact dU<|au<|au<|cj<|av<|aU<|bQ<|dh<|so h▸aA I I

end Go.Proofs.YthbdkceckjihgaaGreatDoor

