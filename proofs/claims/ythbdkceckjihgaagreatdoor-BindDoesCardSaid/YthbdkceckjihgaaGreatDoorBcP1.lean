/- dm of this claim: P1. -/
import Derived.Test.YthbdkceckjihgaaGreatDoorBcT
import Derived.Test.YthbdkceckjihgaaGreatDoorBcP0
set_option linter.all false
namespace Go.Proofs.YthbdkceckjihgaaGreatDoor
open Go
set_option maxRecDepth 100000

def Yx s f{R}(h:eF s f=some R):cN bd 90 [gb (aW) s,(jT bd UK E0 (fun(x:aK)=>f x))] (iD R):=by
 exact dp Tryz.func90 I<|aV<|bC<|bP<|aI I<|aY I<|eg h abC (We _ _) (da I) fun r h=>d (ff (M I) hI)<|bj I<|so h▸au I I

def FI s{R}(h:s7 s=some R):cN bd 138 [Z rS s] (iD R):=by
 refine dp Tryz.func138 I<|aV<|bC<|bP<|aI I<|d (fW (M I) hS)<|aY I<|cu h fun t q_t h=>ap I (de I) ?_
 obtain⟨r,h1t,h0t⟩:=og q_t
 have q_rg:=fun A=>(h1t A).1
 exact ap I (fun V=>bq Mw (zR _ (q_rg V)) ⟨(bE I V),Q⟩)<|d (cD (M I) (fun A=>(bE I (mD A))) (fun A=>(h1t A).2) h0t)<|bj I<|so h▸au I I

def Qe s{R}(h:wa s=some R):cN bd 136 [Z be s] (iD R):=by
 refine dp Tryz.func136 I<|aV<|cL I<|bC<|bP<|aV<|aU Ek pH ja I<|eg h Mw (zR _) (da I) fun r h=>aY I<|cu h fun t q_t h=>ax I (bQ Ej pG I I)<|ax I (bN ja I I) ?_
 obtain⟨r1,h1t,h0t⟩:=og q_t
 have q_r1g:=fun A=>(h1t A).1
 exact ax I (fun V=>bq Qw (FI _ (q_r1g V)) ⟨(bE I V),Q⟩)<|d (co (M I) (fun A=>(bE I A)) (fun A=>(h1t A).2) h0t)<|bj I<|so h▸au I I

def VN s f{R}(h:iH s f=some R):cN bd 212 [gb (bD) s,(jT bd UJ E0 (fun(x:db)=>f x))] (bf R):=by
 refine dp Tryz.func212 I<|aV<|bF<|bP<|aR<|aY I<|bY KR I<|d (bB hI)<|bP<|ai<|aN (k:=6) I fun hN=>bp ?_;refine ay (dx (tD:=fun ls i=>(s.drop i=ls)/\fg f ls i=some R) (Of:=fun _ i=>[]) (Gf:=fun _ i=>[(0,gb (bD) s),(1,(jT bd UJ E0 (fun(x:db)=>f x))),(7,iG s),(8,bf (i:Int))]) (fun i h=>?_) (fun e tl ih i h=>?_) s 0 ⟨I,h⟩) (a8 I)
 ·obtain⟨D,h⟩:=h
  exact dh D I<|aq<|aV<|dG<|so h▸au I I
 ·obtain⟨D,h⟩:=h
  refine dg D I<|aA<|ai<|aI I<|bh I<|aI I<|aY I<|aY I<|uH KR iw I (cW D) ?_;refine cM iw I<|cu h fun r q_r h=>d (ku (args:=UJ) (res:=MW) (f:=(fun(x:db)=>f x)) (x:=((e):db)) (M I) q_r ⟨(M I),Q⟩)<|bX h I (fun h=>?_) (fun h=>?_)
  ·exact aI I<|bj I<|bT<|af<|bT<|so h▸au I I
  ·refine bl<|cS D hN I ?_;exact aO (ay (ih (i+1) ⟨cO D,h⟩) (a8 I))

def V3 s f{R}(h:gS s f=some R):cN bd 170 [gb (bD) s,(jT bd UJ E0 (fun(x:db)=>f x))] (iD R):=by
 exact dp Tryz.func170 I<|aV<|bC<|bP<|aI I<|aY I<|eg h aa9 (VN _ _) (da I) fun r h=>d (ff (M I) hI)<|bj I<|so h▸au I I

def VD tag{R}(h:AI tag=some R):cN bd 233 [bf tag] (bf R):=by
 refine dp Tryz.func233 I<|aV<|bF<|bP<|aA<|ai<|aI I<|d (eN (M I) hI)<|aY I<|ap I (de I)<|ap I (fun V=>eX (bE I V) hI)<|dU I<|bh I<|lO h I (fun h=>?_) (fun h=>?_)
 ·exact aV<|dG<|bT<|so h▸au I I
 ·refine aI I<|d (kr (M I) hI)<|bh I<|lO h I (fun h=>?_) (fun h=>?_)
  ·exact aV<|dG<|bT<|so h▸au I I
  ·refine aI I<|d (kr (M I) hI)<|bh I<|lO h I (fun h=>?_) (fun h=>?_)
   ·exact aV<|dG<|bT<|so h▸au I I
   ·exact bl<|bn<|aq<|aV<|dG<|so h▸au I I

def VA v{R}(h:zl v=some R):cN bd 238 [Z ek v] (Z ek R):=by
 refine dp Tryz.func238 I<|aV<|AL (M I) I fun b=>aX lg om I fun b1=>bP<|aR<|bu 0 tB I<|d (bA cF I I pE (.tail _ (.head _)) (M I))<|bP ?_;refine Jy (tD:=fun v1=>lP v1=some R) (Of:=fun v1=>[bx ek 104 b v1,bx ek 104 b1 HV]) (Gf:=fun v1=>[(1,tV (an b 0)),(2,tV (an b1 0))]) (fun v1 h=>?_) (fun aw=>?_)
 ·skip
  exact aq<|aV<|d (bA lg I I cE (.head _) (M I))<|dS<|bM lg aj I<|aQ 2 I<|cA<|aM<|so h▸sw I lg I I I
 ·skip
  refine aA<|ai<|aA<|ai<|aA ?_;refine Jy (tD:=fun v2=>rM v2=some R) (Of:=fun v2=>[bx ek 104 b v2,bx ek 104 b1 HV]) (Gf:=fun v2=>[(1,tV (an b 0)),(2,tV (an b1 0))]) (fun v2 h=>?_) (fun K1=>?_)
  ·skip
   refine aq<|aV<|bu 0 tB I<|mt cF I BJ I (M I) hI<|bP<|ep<|cY I<|aE<|cY I<|aE<|cK ?_;exact cj (aw (cJ.mk (0:Int) v2.N v2.U v2.S) h) (a8 I)
  ·skip
   refine aA ?_;refine Jz (tD:=rL v=some R) (Of:=[bx ek 104 b v,bx ek 104 b1 HV]) (Gf:=[(1,tV (an b 0)),(2,tV (an b1 0))]) (fun h=>?_) (fun K2=>?_)
   ·skip
    refine aq<|aL<|bu 1 vd I<|mt UC I Gp I (M I) hI<|br<|bn ?_;exact cj (K1 (cJ.mk v.Kind (0:Int) v.U v.S) h) (a8 I)
   ·skip
    refine aA<|ai<|aA<|aR<|dn I<|bh I<|lO h I (fun h=>?_) (fun h=>?_)
    ·refine ep<|aE<|aE<|cK<|aq<|aV<|bu 1 vd I<|d (bA UC I I pD (.tail _ (.head _)) (M I))<|ib I<|aY I<|ax I (fun V=>lu 1 vd I I I)<|ax I (fun V=>bA UC I I pD (.tail _ (.head _)) (bE I V))<|ax I (uI I)<|eZ I<|bX h I (fun h=>?_) (fun h=>?_)
     ·refine ep<|cY I<|aE<|cY I<|aE<|cY I<|aE<|cY I<|aE<|cK<|dI ?_;exact cj (aw v h) (a8 I)
     ·refine bl<|bn<|dI ?_;exact cj (K2 h) (a8 I)
    ·refine gp<|aR<|dn I<|bh I<|lO h I (fun h=>?_) (fun h=>?_)
     ·refine ep<|aE<|aE<|cY I<|aE<|cK<|dI ?_;exact cj (K2 h) (a8 I)
     ·refine gp<|aR<|dn I<|bh I<|lO h I (fun h=>?_) (fun h=>?_)
      ·refine ep<|aE<|aE<|cY I<|aE<|cY I<|aE<|cK<|dI ?_;exact cj (K1 v h) (a8 I)
      ·refine gp<|aR<|dn I<|bh I<|lO h I (fun h=>?_) (fun h=>?_)
       ·refine ep<|aE<|aE<|cY I<|aE<|cY I<|aE<|cY I<|aE<|cK<|aq ?_;refine ia (tD:=fun v3=>rK v3=some R) (Of:=fun v3=>[bx ek 104 b v3,bx ek 104 b1 HV]) (Gf:=fun v3=>[(1,tV (an b 0)),(2,tV (an b1 0))]) (fun v3 h=>?_) (fun K3=>?_)
        ·skip
         refine ep<|cY I<|aE<|cK ?_;exact cj (aw v3 h) (a8 I)
        ·skip
         refine aV<|bu 3 qa I<|d (bA ja I I kW (.tail _ (.head _)) (M I))<|d (nT nG (M I))<|d (kr (M I) hI)<|bX h I (fun h=>?_) (fun h=>?_)
         ·refine aL<|bu 0 tB I<|dS<|mt cF I BJ I (M I) hI<|bu 3 qa I<|mt ja I Gn I (M I) hS<|br ?_;exact cj (K3 (cJ.mk (0:Int) v.N v.U ([])) h) (a8 I)
         ·refine bl<|dI ?_;exact cj (K3 v h) (a8 I)
       ·refine gp<|aV<|dn I<|bh I<|lO h I (fun h=>?_) (fun h=>?_)
        ·refine ep<|aE<|cY I<|aE<|cY I<|aE<|cY I<|aE<|cY I<|aE<|cK<|aq<|aV<|bu 0 tB I<|dS<|mt cF I BJ I (M I) hI<|bu 1 vd I<|mt UC I Gp I (M I) hI<|bu 2 FF I<|mt Lb I Nq I (M I) hI<|bP<|ep ?_;refine cK ?_;exact cj (aw (cJ.mk (0:Int) (0:Int) (0:Int) v.S) h) (a8 I)
        ·refine gp<|ep<|cY I<|aE<|cY I<|aE<|cY I<|aE<|cY I<|aE<|cY I<|aE<|cK<|dI ?_;exact cj (aw v h) (a8 I)

def VF v{R}(h:wm v=some R):cN bd 221 [Z ek v] (bf R):=by
 refine dp Tryz.func221 I<|aV<|cL I<|bF<|bP<|aR<|cM lg I<|eg h aaW (VA _) (da I) fun r h=>d (bS lg C7 om I)<|d (qS Dg (M I) (M I))<|bX h I (fun h=>?_) (fun h=>?_)
 ·exact aV<|dG<|af<|so h▸au I I
 ·exact gp<|aV<|dG<|so h▸au I I

def PZ v{R}(h:tP v=some R):cN bd 189 [Z ek v] (iD R):=by
 exact dp Tryz.func189 I<|aV<|cL I<|bC<|bP<|aV<|cM lg I<|eg h aa1 (VF _) (da I) fun r h=>dn I<|aY I<|ax I (bQ tB pE I I)<|ax I (bN cF I I)<|ax I (uI I)<|eZ I<|bj I<|so h▸au I I

def Vz s{R}(h:z7 s=some R):cN bd 243 [Z rS s] (iD R):=by
 refine dp Tryz.func243 I<|aV<|bC<|bP<|aR<|aY I<|d (nT nG (M I))<|d (bB hI)<|bP<|ai<|bp ?_;refine ay (pd (tD:=fun n x=>pP s n x=some R) (Of:=fun x=>[]) (Gf:=fun x=>[(0,Z rS s),(5,iG s),(6,bf x)]) (fun x h=>nn h) (fun n ih x h=>?_) fc (0:Int) h) (a8 I);refine dw<|aV<|qq I<|bP<|aA<|lO h I (fun h=>?_) (fun h=>?_)
 ·refine gp<|aA<|ai<|aI I<|bh I<|aI I<|aY I<|cu h fun b q_b h=>d (lK nG (M I) (M I) q_b)<|d (eN (M I) hI)<|aY I<|cu h fun t q_t h=>ap I (de I)<|ap I (de I) ?_
  obtain⟨b1,h1t,h0t⟩:=og q_t
  have q_b1g:=fun A=>(h1t A).1
  refine ap I (fun V=>lK nG (bE I V) (bE I V) (q_b1g V))<|ap I (fun V=>eX (bE I V) hI)<|d (cD (M I) (fun A=>(bE I (mD A))) (fun A=>(h1t A).2) h0t)<|bX h I (fun h=>?_) (fun h=>?_)
  ·exact aV<|bC<|cA<|bT<|af<|bT<|so h▸au I I
  ·refine bl<|bn<|aq<|aL<|d (fq (M I) hI)<|aY I<|br ?_;exact aO (ay (ih (IntKind.i64.wrap (x+(1:Int))) h) (a8 I))
 ·exact ep<|aE<|aE<|cK<|aq<|aV<|bC<|cA<|so h▸au I I

def VC n{R}(h:yD n=some R):cN bd 234 [Z dd n] (iD R):=by
 refine dp Tryz.func234 I<|aV<|cL I<|bC<|bP<|aA ?_
 refine d8 (ts:=[_,_,_,_,_,_,_,_,_,_,_,_,_,_]) mixed I I
  ⟨qN 1 I I (kO tz oM I I),
  ⟨fA 0 ja I I,
  ⟨fL 6 1 I I (va (M I) hS),
  ⟨fL 7 2 I I (fR I),
  ⟨oo 1 8 3 I I I (cI I I I I (fun V=>kO qT mo I I)),
  ⟨jS 9 4 8 3 I I I (cI I I I I (fun V=>eS ja I I (bE I V))),
  ⟨jS 10 5 8 3 I I I (cI I I I I (fun V=>va (bE I V) hS)),
  ⟨eh 8 3 11 6 I I I (zpo I I),
  ⟨qN 1 I I (kO qU lL I I),
  ⟨fA 8 lg I I,
  ⟨zd0 I (bS lg C7 om I),
  ⟨eh 14 9 15 10 I I I (qS Dg (M I) (M I)),
  ⟨fL 12 7 I I (Cm I),
  ⟨fL 16 11 I I (Cm I),
  Q⟩⟩⟩⟩⟩⟩⟩⟩⟩⟩⟩⟩⟩⟩ ?_
 refine aq<|aR<|aU mf gY cF I<|bP<|ai<|aV<|dn I<|bh I<|lO h I (fun h=>?_) (fun h=>?_)
 ·refine aI I<|d (fD (M I))<|aY I<|cu h fun t q_t h=>ax I (bQ qU lL I I)<|ax I (bN lg I I) ?_
  obtain⟨r,h1t,h0t⟩:=og q_t
  have q_rg:=fun A=>(h1t A).1
  refine ax I (fun V=>bq Xn (PZ _ (q_rg V)) ⟨(bE I V),Q⟩)<|d (co (M I) (fun A=>(bE I A)) (fun A=>(h1t A).2) h0t)<|aY I<|ax I (bQ qU lL I I)<|ax I (fun V=>gz vd I pD I (bE I V))<|ax I (bN UC I I)<|ax I (fun V=>ff (bE I V) hI)<|eZ I<|aY I<|cu h fun t1 q_t1 h=>ax I (bQ qU lL I I)<|ax I (fun V=>gz qa I kW I (bE I V))<|ax I (bN ja I I) ?_
  obtain⟨r1,h1t1,h0t1⟩:=og q_t1
  have q_r1g:=fun A=>(h1t1 A).1
  exact ax I (fun V=>bq aaV (Vz _ (q_r1g V)) ⟨(bE I V),Q⟩)<|d (co (M I) (fun A=>(bE I A)) (fun A=>(h1t1 A).2) h0t1)<|bj I<|bT<|so h▸au I I
 ·refine aV<|dn I<|bh I<|lO h I (fun h=>?_) (fun h=>?_)
  ·refine aI I<|d (fD (M I))<|aY I<|cu h fun t2 q_t2 h=>ax I (bQ qT mo I I)<|ax I (bN ja I I) ?_
   obtain⟨r2,h1t2,h0t2⟩:=og q_t2
   have q_r2g:=fun A=>(h1t2 A).1
   refine ax I (fun V=>bq Mw (zR _ (q_r2g V)) ⟨(bE I V),Q⟩)<|d (co (M I) (fun A=>(bE I A)) (fun A=>(h1t2 A).2) h0t2)<|aY I<|cu h fun t3 q_t3 h=>ax I (bQ tz oM I I)<|ax I (bN ja I I) ?_
   obtain⟨r3,h1t3,h0t3⟩:=og q_t3
   have q_r3g:=fun A=>(h1t3 A).1
   exact ax I (fun V=>bq Qw (FI _ (q_r3g V)) ⟨(bE I V),Q⟩)<|d (co (M I) (fun A=>(bE I A)) (fun A=>(h1t3 A).2) h0t3)<|bj I<|bT<|so h▸au I I
  ·exact bl<|bn<|aq<|aI I<|d (fD (M I))<|aY I<|ax I (de I)<|ax I (rJ I)<|eZ I<|bj I<|so h▸au I I

def VM t{R}(h:Es t=some R):cN bd 213 [Z bD t] (tT [gb (ic) R.1,iD R.2]):=by
 refine dp Tryz.func213 I<|aV<|cL I<|xp (ic)<|bC<|bP<|aV<|ck false ic 300<|d (cg zf)<|bP<|aV<|ck false aP 3<|d (cg zf)<|bP<|aR<|oU ik dX I ?_;refine cM qi I<|bY nb I<|d (bB hI)<|bP<|ai<|aN (k:=15) I fun hN=>bp<|hZ ?_;refine ay (Ah (tD:=fun ls i all l c open1 l1 c1=>(t.Nodes.drop i=ls)/\od ls i all open1=some R) (Of:=fun _ i all l c open1 l1 c1=>[f6 ic 300 l c all,f6 aP 3 l1 c1 open1]) (Gf:=fun _ i all l c open1 l1 c1=>[(4,sy l c all),(5,sy l1 c1 open1),(15,gb (dd) t.Nodes),(16,iG t.Nodes),(17,bf (i:Int))]) (fun i all l c open1 l1 c1 h=>?_) (fun e tl ih i all l c open1 l1 c1 h=>?_) t.Nodes 0 ([]:List me) none 0 xo none 0 ⟨I,h⟩) (a8 I)
 ·obtain⟨D,h⟩:=h
  refine dh D I<|aq<|aA<|cu h fun t1 q_t1 h=>?_
  obtain⟨e1,h1t1,h0t1⟩:=og q_t1
  have q_e1g:=fun A=>(h1t1 A).1
  refine d8 (ts:=[_,_,_,_,_,_,_,_,_,_,_,_,_,_,_,_,_,_,_,_,_]) mixed I I
   ⟨fv I I,
   ⟨fv I I,
   ⟨fL 105 1 I I (ip fH (.tail _ (.head _)) (M I)),
   ⟨fL 106 2 I I (zei I),
   ⟨fL 107 3 I I (fR I),
   ⟨oo 4 108 4 I I I (kZ I I I I (fun V=>fR I)),
   ⟨jS 109 5 108 4 I I I (kZ I I I I (fun V=>ip EF (.head _) (bE I V))),
   ⟨jS 110 6 108 4 I I I (kZ I I I I (fun V=>kr (bE I V) hI)),
   ⟨eh 108 4 111 7 I I I (zpa I I),
   ⟨fL 112 8 I I (fR I),
   ⟨oo 4 113 9 I I I (kZ I I I I (fun V=>fR I)),
   ⟨oo 4 113 9 I I I (kZ I I I I (fun V=>fR I)),
   ⟨jS 115 11 113 9 I I I (kZ I I I I (fun V=>ip EF (.head _) (bE I V))),
   ⟨jS 116 12 113 9 I I I (kZ I I I I (fun V=>fm (bE I V) hI)),
   ⟨pi 114 10 117 13 113 9 I I I I (kZ I I I I (fun V=>cz EF A9 (.head _) (bE I V) (bE I V) (q_e1g V))),
   ⟨jS 118 14 113 9 I I I (kZ I I I I (fun V=>dQ (o:=(IntKind.i64.wrap ((all.length:Int)-(1:Int))).toNat*2+0) (n:=(IntKind.i64.wrap ((all.length:Int)-(1:Int))).toNat*2+1) Dd I (.head _) (q_e1g V) (bE I V) I)),
   ⟨jS 119 15 113 9 I I I (kZ I I I I (fun V=>dN (r:=ic) (i:=(IntKind.i64.wrap ((all.length:Int)-(1:Int)))) (foff:=1) cF I I yk I (.head _) (q_e1g V) (bE I V))),
   ⟨jS 120 16 113 9 I I I (kZ I I I I (fun V=>kr (bE I V) hI)),
   ⟨eh 113 9 121 17 I I I (co (M I) (fun A=>(bE I A)) (fun A=>(h1t1 A).2) h0t1),
   ⟨fL 104 0 I I (Cm I),
   ⟨fL 122 18 I I (Cm I),
   Q⟩⟩⟩⟩⟩⟩⟩⟩⟩⟩⟩⟩⟩⟩⟩⟩⟩⟩⟩⟩⟩ ?_
  exact aq<|yJ<|tf<|iZ 4 I<|iZ 104 I<|iZ 2 I<|nF 2 I<|aM<|aM<|so h▸c0 I I I
 ·obtain⟨D,h⟩:=h
  refine dg D I<|aA<|ai<|aI I<|d9 nb ko I (cW D)<|aX ko wl I fun b=>gx I<|bM ko aj I<|aQ 7 I<|bP<|aA ?_;refine aL<|aU mf gY cF I<|eg h aa0 (VD _) (da I) fun r h=>bh I<|aR<|aY I<|d (eN (M I) hI)<|aY I<|ap I (de I)<|ap I (de I)<|ap I (fun V=>ip fH (.tail _ (.head _)) (bE I V))<|ap I (fun V=>eX (bE I V) (bE I V))<|dU I<|aY I<|cu h fun t2 q_t2 h=>ap I (fun V=>nM ko I I) ?_
  obtain⟨r1,h1t2,h0t2⟩:=og q_t2
  have q_r1g:=fun A=>(h1t2 A).1
  refine ap I (fun V=>bq aaZ (VC _ (q_r1g V)) ⟨(bE I V),Q⟩)<|ap I (rJ I)<|d (cD (M I) (fun A=>(bE I (mD A))) (fun A=>(h1t2 A).2) h0t2)<|bX h I (fun h=>?_) (fun h=>?_)
  ·exact aV<|xp (ic)<|bC<|cA<|af<|bT<|af<|bT<|aM<|aM<|so h▸c0 I I I
  ·refine gp<|aI I<|aY I<|d (ip fH (.tail _ (.head _)) (M I))<|aY I<|d (fm (M I) (M I))<|cu h fun y q_y h=>d (t8 fH cF I (.tail _ (.head _)) (M I) (M I) q_y)<|sv (.tail _ (.head _)) q_y fun hv=>bh I<|aV<|iY (r:=aP) (ys:=[mg,mg]) (xs:=[.const (.int .i64 (-1)),.const (.int .i64 (-1))]) fH cF I I I I I ⟨hI,hI,Q⟩ I fun l2 c2=>bh I<|aI I ?_;refine aY I<|cu h fun cp q_cp h=>jf (Ot (.tail _ (.tail _ (.head _))) q_y fH (UT cF) (M I) (M I) (so q_cp)) I fun i1=>?_;refine(show RG _ _ _ _ [_,_,_] ((47,bf ((min y.length ([mg,mg]).length:Nat):Int))::_)from ?_);refine kL (Hu (so q_cp)) 44 I<|kL (Hu (so q_cp)) 10 I<|kL (Hu (so q_cp)) 45 I<|bP<|aA<|aA<|cu h fun e2 q_e2 h=>cu h fun t3 q_t3 h=>?_
   obtain⟨e3,h1t3,h0t3⟩:=og q_t3
   have q_e3g:=fun A=>(h1t3 A).1
   refine d8 (ts:=[_,_,_,_,_,_,_,_,_,_,_,_,_,_]) mixed I I
    ⟨qN 7 I I (kO wL p8 I I),
    ⟨fA 0 cF I I,
    ⟨fv I I,
    ⟨fL 50 2 I I (cz fH cF (.head _) (M I) hI q_e2),
    ⟨fL 51 3 I I (dN (r:=aP) (i:=(0:Int)) (foff:=0) cF I I cE I (.head _) q_e2 (M I)),
    ⟨eh 49 1 52 4 I I I (du (M I) (M I)),
    ⟨fL 53 5 I I (fR I),
    ⟨oo 7 54 6 I I I (cI I I I I (fun V=>kO yr ru I I)),
    ⟨jS 55 7 54 6 I I I (cI I I I I (fun V=>eS cF I I (bE I V))),
    ⟨oo 10 54 6 I I I (cI I I I I (fun V=>fR I)),
    ⟨jS 57 9 54 6 I I I (cI I I I I (fun V=>cz fH cF (.head _) (bE I V) hI (q_e3g V))),
    ⟨jS 58 10 54 6 I I I (cI I I I I (fun V=>dN (r:=aP) (i:=(1:Int)) (foff:=0) cF I I cE I (.head _) (q_e3g V) (bE I V))),
    ⟨pi 56 8 59 11 54 6 I I I I (cI I I I I (fun V=>du (bE I V) (bE I V))),
    ⟨eh 54 6 60 12 I I I (cD (M I) (fun A=>(bE I (mD A))) (fun A=>(h1t3 A).2) h0t3),
    Q⟩⟩⟩⟩⟩⟩⟩⟩⟩⟩⟩⟩⟩⟩ ?_
   refine aq<|lO h I (fun h=>?_) (fun h=>?_)
   ·exact aV<|xp (ic)<|bC<|cA<|af<|bT<|af<|bT<|aM<|aM<|aM<|so h▸c0 I I I
   ·refine gp<|aI I<|d (bS (y:=(⟨(i:Int),(1:Int)⟩:me)) A9 aaj KV (⟨_,_,_,_,_,I,Gm,I,(M I),⟨_,_,_,_,_,I,Gl,I,hI,I⟩⟩))<|aX A9 KV I fun b1=>bM A9 aj I<|bP<|aR<|aY I<|d (PA fH (.tail _ (.tail _ (.tail _ (.head _)))) q_y (M I))<|d (bB hI)<|bP<|ai ?_
    have hN1:=hv.2
    refine bp<|hZ<|yH<|kb<|kb ?_;refine ay (jX (tD:=fun ls1 i2 b2=>(y.drop i2=ls1)/\qc (od tl) i all open1 r ls1 b2=some R) (Of:=fun _ i2 b2=>[f6 ic 300 l c all,f6 aP 3 l1 c1 open1,bx ic 300 b1 b2]) (Gf:=fun _ i2 b2=>[(4,sy l c all),(5,sy l1 c1 open1),(6,bf (i:Int)),(8,bf r),(11,tV (an b1 0)),(15,gb (dd) t.Nodes),(16,iG t.Nodes),(17,bf (i:Int)),(64,tV (pf 1 l1 c1 (IntKind.i64.wrap ((open1.length:Int)-r)).toNat y.length)),(65,iG y),(66,bf (i2:Int))]) (fun i2 b2 h=>?_) (fun e4 tl1 ih1 i2 b2 h=>?_) y 0 (⟨(i:Int),(1:Int)⟩:me) ⟨I,h⟩) (a8 I)
    ·obtain⟨hx1,h⟩:=h
     refine dh hx1 I<|aq<|aI I<|d (bA A9 I I cE (.tail _ (.tail _ (.head _))) (M I))<|d (ba (r:=ic) (ys:=[b2]) (xs:=[.tmp 91]) EF A9 I I I I I ⟨(M I),Q⟩)<|cu h fun all1 q_all1 h=>dZ A9 I I I I EF I I (M I) (M I) q_all1 fun l3 c3=>bh I<|aL ?_;refine aY I<|aY I<|d (ip fH (.tail _ (.head _)) (M I))<|aY I<|d (fm (M I) (M I))<|cu h fun y1 q_y1 h=>d (wz fH cF I (.tail _ (.head _)) (M I) (M I) q_y1)<|aY I<|d (ba (r:=aP) (ys:=[(i:Int)]) (xs:=[.tmp 100]) fH cF I I I I I ⟨(M I),Q⟩)<|dS<|KJ q_y1<|cu h fun open2 q_open2 h=>dZ cF I I I I fH I I (M I) (M I) q_open2 fun l4 c4=>gx I<|br<|cS D hN I<|gj<|aM<|dI ?_;exact aO (ay (ih (i+1) all1 l3 c3 open2 l4 c4 ⟨cO D,h⟩) (a8 I))
    ·obtain⟨hx1,h⟩:=h
     refine dg hx1 I<|aA<|ai<|aV<|d (Bg fH cF I (.tail _ (.head _)) q_y (M I) (M I) (cW hx1))<|d (dN (r:=aP) (i:=((IntKind.i64.wrap ((open1.length:Int)-r))+(i2:Int))) (foff:=0) cF I I cE I (.tail _ (.head _)) (BH q_y (cW hx1)).1 (M I))<|bh I<|cu h fun e5 q_e5 h=>?_
     refine er 19 [tc (tV (an b1 0)),tc (bf b2.first),tc (sy l c all),tc (bf e4),tc (tV (dO l (e4.toNat*2+0))),tc (tV (dO l (e4.toNat*2+0))),tc (bf e5.first),tc (bf (min b2.first e5.first)),tc (tV (an b1 1)),tc (bf b2.depth),tc (sy l c all),tc (bf e4),tc (tV (dO l (e4.toNat*2+0))),tc (tV (dO l (e4.toNat*2+1))),tc (bf e5.depth),tc (bf (IntKind.i64.wrap (e5.depth+(1:Int)))),tc (bf (max b2.depth (IntKind.i64.wrap (e5.depth+(1:Int))))),tc (tV (an b1 0)),tc (tS)] [false,false,false,false,false,false,false,false,false,false,false,false,false,false,false,false,false,false,true] [fun _=>[f6 ic 300 l c all,f6 aP 3 l1 c1 open1,bx ic 300 b1 b2],fun sg=>[bx ic 300 b1 ({b2 with first:=(min b2.first e5.first)}:me),f6 ic 300 l c all,f6 aP 3 l1 c1 open1]] I mixed I I I I I
      ⟨⟨[⟨11,fun _=>tV (an b1 0),none⟩],_,0,0,I,⟨(fun _=>I),Q⟩,I,I,I,I,I,fun _ sg _ _=>h2 I (lu 0 Ki I I I)⟩,
      ⟨⟨[⟨70,fun _=>tV (an b1 0),some 0⟩],_,0,0,I,⟨(fun _=>I),Q⟩,I,I,I,I,I,fM (fun sg=>h2 I (bA cF I I Hd (.tail _ (.tail _ (.head _))) (M I)))⟩,
      ⟨⟨[⟨4,fun _=>tV (Y l c all.length),none⟩],_,0,0,I,⟨(fun _=>I),Q⟩,I,I,I,I,I,fun _ sg _ _=>h2 I (fR I)⟩,
      ⟨⟨[⟨13,fun _=>Z aP e4,none⟩],_,0,0,I,⟨(fun _=>I),Q⟩,I,I,I,I,I,fun _ sg _ _=>h2 I (fR I)⟩,
      ⟨⟨[⟨72,fun _=>tV (Y l c all.length),some 2⟩,⟨73,fun _=>Z aP e4,some 3⟩],_,0,0,I,⟨(fun _=>I),(fun _=>I),Q⟩,I,I,I,I,I,fM (fun sg=>h2 I (cz EF A9 (.head _) (M I) (M I) q_e5))⟩,
      ⟨⟨[⟨74,fun _=>tV (dO l (e4.toNat*2+0)),some 4⟩],_,0,0,I,⟨(fun _=>I),Q⟩,I,I,I,I,I,fM (fun sg=>h2 I (dQ (o:=e4.toNat*2+0) (n:=e4.toNat*2+0) Ki I (.head _) q_e5 (M I) I))⟩,
      ⟨⟨[⟨75,fun _=>tV (dO l (e4.toNat*2+0)),some 5⟩],_,0,0,I,⟨(fun _=>I),Q⟩,I,I,I,I,I,fM (fun sg=>h2 I (dN (r:=ic) (i:=e4) (foff:=0) cF I I Hd I (.head _) q_e5 (M I)))⟩,
      ⟨⟨[⟨71,fun _=>Z aP b2.first,some 1⟩,⟨76,fun _=>Z aP e5.first,some 6⟩],_,0,0,I,⟨(fun _=>I),(fun _=>I),Q⟩,I,I,I,I,I,fun _ sg _ _=>h2 I (o3 (M I) (M I))⟩,
      ⟨⟨[⟨11,fun _=>tV (an b1 0),none⟩],_,0,0,I,⟨(fun _=>I),Q⟩,I,I,I,I,I,fun _ sg _ _=>h2 I (lu 1 Dd I I I)⟩,
      ⟨⟨[⟨78,fun _=>tV (an b1 1),some 8⟩],_,0,0,I,⟨(fun _=>I),Q⟩,I,I,I,I,I,fM (fun sg=>h2 I (bA cF I I yk (.tail _ (.tail _ (.head _))) (M I)))⟩,
      ⟨⟨[⟨4,fun _=>tV (Y l c all.length),none⟩],_,0,1,I,⟨(fun _=>I),Q⟩,I,I,I,I,I,fun _ sg _ _=>h2 I (fR I)⟩,
      ⟨⟨[⟨13,fun _=>Z aP e4,none⟩],_,0,1,I,⟨(fun _=>I),Q⟩,I,I,I,I,I,fun _ sg _ _=>h2 I (fR I)⟩,
      ⟨⟨[⟨80,fun _=>tV (Y l c all.length),some 10⟩,⟨81,fun _=>Z aP e4,some 11⟩],_,0,1,I,⟨(fun _=>I),(fun _=>I),Q⟩,I,I,I,I,I,ur (fun sg=>h2 I (cz EF A9 (.head _) (M I) (M I) q_e5)) (fM (fun sg=>h2 I (cz EF A9 (.tail _ (.head _)) (M I) (M I) q_e5)))⟩,
      ⟨⟨[⟨82,fun _=>tV (dO l (e4.toNat*2+0)),some 12⟩],_,0,1,I,⟨(fun _=>I),Q⟩,I,I,I,I,I,ur (fun sg=>h2 I (dQ (o:=e4.toNat*2+0) (n:=e4.toNat*2+1) Dd I (.head _) q_e5 (M I) I)) (fM (fun sg=>h2 I (dQ (o:=e4.toNat*2+0) (n:=e4.toNat*2+1) Dd I (.tail _ (.head _)) q_e5 (M I) I)))⟩,
      ⟨⟨[⟨83,fun _=>tV (dO l (e4.toNat*2+1)),some 13⟩],_,0,1,I,⟨(fun _=>I),Q⟩,I,I,I,I,I,ur (fun sg=>h2 I (dN (r:=ic) (i:=e4) (foff:=1) cF I I yk I (.head _) q_e5 (M I))) (fM (fun sg=>h2 I (dN (r:=ic) (i:=e4) (foff:=1) cF I I yk I (.tail _ (.head _)) q_e5 (M I))))⟩,
      ⟨⟨[⟨84,fun _=>Z aP e5.depth,some 14⟩],_,0,1,I,⟨(fun _=>I),Q⟩,I,I,I,I,I,fun _ sg _ _=>h2 I (fq (M I) hI)⟩,
      ⟨⟨[⟨79,fun _=>Z aP b2.depth,some 9⟩,⟨85,fun _=>Z aP (IntKind.i64.wrap (e5.depth+(1:Int))),some 15⟩],_,0,1,I,⟨(fun _=>I),(fun _=>I),Q⟩,I,I,I,I,I,fun _ sg _ _=>h2 I (Fx (M I) (M I))⟩,
      ⟨⟨[⟨11,fun _=>tV (an b1 0),none⟩],_,0,0,I,⟨(fun _=>I),Q⟩,I,I,I,I,I,fun _ sg _ _=>h2 I (lu 0 Ki I I I)⟩,
      ⟨⟨[⟨87,fun _=>tV (an b1 0),some 17⟩,⟨77,fun _=>Z aP (min b2.first e5.first),some 7⟩],_,I,⟨(fun _=>I),(fun _=>I),Q⟩,I,I,I,fun sg=>bL I (EffOK.fr2 (dr cF I (uy Gm) I (M I) (M I)))⟩,
      Q⟩⟩⟩⟩⟩⟩⟩⟩⟩⟩⟩⟩⟩⟩⟩⟩⟩⟩⟩ (fun sg=>?_)
     refine(show RG _ _ _ _ [_,_,_] _ from ?_);refine bu 1 Dd I<|bM cF Gl I<|br<|cS hx1 hN1 I<|gj<|gj ?_;exact aO (ay (ih1 (i2+1) (me.mk ({b2 with first:=(min b2.first e5.first)}:me).first (max b2.depth (IntKind.i64.wrap (e5.depth+(1:Int))))) ⟨cO hx1,h⟩) (a8 I))

end Go.Proofs.YthbdkceckjihgaaGreatDoor

