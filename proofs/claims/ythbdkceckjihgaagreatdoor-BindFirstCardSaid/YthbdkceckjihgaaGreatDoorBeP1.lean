/- cu of this claim: P1. -/
import Derived.Test.YthbdkceckjihgaaGreatDoorBeT
import Derived.Test.YthbdkceckjihgaaGreatDoorBeP0
set_option linter.all false
namespace Go.Proofs.YthbdkceckjihgaaGreatDoor
open Go
set_option maxRecDepth 100000

def Vl s f{R}(h:dy s f=some R):dn aO 90 [iL (aB) s,(gX aO RW Cr (fun(x:al)=>f x))] (ml R):=by
 exact eu Tryz.func90 I<|bB<|dA<|ci<|aL I<|bE I<|hU h XM (Ta _ _) (eS I) fun r h=>af (kj (M I) hI)<|bm I<|so h▸aT I I

def C4 s{R}(h:pX s=some R):dn aO 138 [K rS s] (ml R):=by
 refine eu Tryz.func138 I<|bB<|dA<|ci<|aL I<|af (qd (M I) hS)<|bE I<|cI h fun t q_t h=>br I (eC I) ?_
 obtain⟨r,h1t,h0t⟩:=og q_t
 have q_rg:=fun H=>(h1t H).1
 exact br I (fun hg=>bL JI (wC _ (q_rg hg)) ⟨(db I hg),J⟩)<|af (fy (M I) (fun H=>(db I (vG H))) (fun H=>(h1t H).2) h0t)<|bm I<|so h▸aT I I

def Nl s{R}(h:sq s=some R):dn aO 136 [K gm s] (ml R):=by
 refine eu Tryz.func136 I<|bB<|ea I<|dA<|ci<|bB<|cK Lk wu oH I<|hU h JI (wC _) (eS I) fun r h=>bE I<|cI h fun t q_t h=>aI I (fE Lj wt I I)<|aI I (eE oH I I) ?_
 obtain⟨r1,h1t,h0t⟩:=og q_t
 have q_r1g:=fun H=>(h1t H).1
 exact aI I (fun hg=>bL Nv (C4 _ (q_r1g hg)) ⟨(db I hg),J⟩)<|af (cW (M I) (fun H=>(db I H)) (fun H=>(h1t H).2) h0t)<|bm I<|so h▸aT I I

def ST s f{R}(h:gc s f=some R):dn aO 212 [iL (aY) s,(gX aO RV Cr (fun(x:ce)=>f x))] (ba R):=by
 refine eu Tryz.func212 I<|bB<|cz<|ci<|bJ<|bE I<|dN If I<|af (bU hI)<|ci<|av<|bF (k:=6) I fun hN=>bY ?_;refine aR (jk (aA:=fun ls i=>(s.drop i=ls)/\dS f ls i=some R) (Of:=fun _ i=>[]) (Gf:=fun _ i=>[(0,iL (aY) s),(1,(gX aO RV Cr (fun(x:ce)=>f x))),(7,ni s),(8,ba (i:Int))]) (fun i h=>?_) (fun e tl ih i h=>?_) s 0 ⟨I,h⟩) (bI I)
 ·obtain⟨V,h⟩:=h
  exact eQ V I<|aJ<|bB<|gb<|so h▸aT I I
 ·obtain⟨V,h⟩:=h
  refine eP V I<|aM<|av<|aL I<|bH I<|aL I<|bE I<|bE I<|vh If jQ I (fF V) ?_;refine dM jQ I<|cI h fun r q_r h=>af (iE (args:=RV) (res:=Kc) (f:=(fun(x:ce)=>f x)) (x:=((e):ce)) (M I) q_r ⟨(M I),J⟩)<|dY h I (fun h=>?_) (fun h=>?_)
  ·exact aL I<|bm I<|dP<|aw<|dP<|so h▸aT I I
  ·refine co<|eB V hN I ?_;exact bu (aR (ih (i+1) ⟨ee V,h⟩) (bI I))

def S6 s f{R}(h:fG s f=some R):dn aO 170 [iL (aY) s,(gX aO RV Cr (fun(x:ce)=>f x))] (ml R):=by
 exact eu Tryz.func170 I<|bB<|dA<|ci<|aL I<|bE I<|hU h Xv (ST _ _) (eS I) fun r h=>af (kj (M I) hI)<|bm I<|so h▸aT I I

def SM tag{R}(h:xz tag=some R):dn aO 233 [ba tag] (ba R):=by
 refine eu Tryz.func233 I<|bB<|cz<|ci<|aM<|av<|aL I<|af (jn (M I) hI)<|bE I<|br I (eC I)<|br I (fun hg=>ki (db I hg) hI)<|mp I<|bH I<|tY h I (fun h=>?_) (fun h=>?_)
 ·exact bB<|gb<|dP<|so h▸aT I I
 ·refine aL I<|af (n5 (M I) hI)<|bH I<|tY h I (fun h=>?_) (fun h=>?_)
  ·exact bB<|gb<|dP<|so h▸aT I I
  ·refine aL I<|af (n5 (M I) hI)<|bH I<|tY h I (fun h=>?_) (fun h=>?_)
   ·exact bB<|gb<|dP<|so h▸aT I I
   ·exact co<|bR<|aJ<|bB<|gb<|so h▸aT I I

def SK v{R}(h:vT v=some R):dn aO 238 [K dF v] (K dF R):=by
 refine eu Tryz.func238 I<|bB<|AH (M I) I fun b=>aW qn rL I fun b1=>ci<|bJ<|bt 0 xu I<|af (aV dC I I uR (.tail _ (.head _)) (M I))<|ci ?_;refine GQ (aA:=fun v1=>jC v1=some R) (Of:=fun v1=>[bx dF 104 b v1,bx dF 104 b1 Kb]) (Gf:=fun v1=>[(1,Q (ai b 0)),(2,Q (ai b1 0))]) (fun v1 h=>?_) (fun tD=>?_)
 ·skip
  exact aJ<|bB<|af (aV qn I I bS (.head _) (M I))<|cE<|cm qn am I<|aX 2 I<|ie<|aK<|so h▸sC I qn I I I
 ·skip
  refine aM<|av<|aM<|av<|aM ?_;refine GQ (aA:=fun v2=>oO v2=some R) (Of:=fun v2=>[bx dF 104 b v2,bx dF 104 b1 Kb]) (Gf:=fun v2=>[(1,Q (ai b 0)),(2,Q (ai b1 0))]) (fun v2 h=>?_) (fun K1=>?_)
  ·skip
   refine aJ<|bB<|bt 0 xu I<|lZ dC I yT I (M I) hI<|ci<|gZ<|cg I<|aH<|cg I<|aH<|dK ?_;exact dh (tD (bO.mk (0:Int) v2.N v2.U v2.S) h) (bI I)
  ·skip
   refine aM ?_;refine Px (aA:=oN v=some R) (Of:=[bx dF 104 b v,bx dF 104 b1 Kb]) (Gf:=[(1,Q (ai b 0)),(2,Q (ai b1 0))]) (fun h=>?_) (fun K2=>?_)
   ·skip
    refine aJ<|bg<|bt 1 At I<|lZ VW I DC I (M I) hI<|bN<|bR ?_;exact dh (K1 (bO.mk v.Kind (0:Int) v.U v.S) h) (bI I)
   ·skip
    refine aM<|av<|aM<|bJ<|hM I<|bH I<|tY h I (fun h=>?_) (fun h=>?_)
    ·refine gZ<|aH<|aH<|dK<|aJ<|bB<|bt 1 At I<|af (aV VW I I uQ (.tail _ (.head _)) (M I))<|lk I<|bE I<|aI I (fun hg=>mW 1 At I I I)<|aI I (fun hg=>aV VW I I uQ (.tail _ (.head _)) (db I hg))<|aI I (BT I)<|jp I<|dY h I (fun h=>?_) (fun h=>?_)
     ·refine gZ<|cg I<|aH<|cg I<|aH<|cg I<|aH<|cg I<|aH<|dK<|dc ?_;exact dh (tD v h) (bI I)
     ·refine co<|bR<|dc ?_;exact dh (K2 h) (bI I)
    ·refine nw<|bJ<|hM I<|bH I<|tY h I (fun h=>?_) (fun h=>?_)
     ·refine gZ<|aH<|aH<|cg I<|aH<|dK<|dc ?_;exact dh (K2 h) (bI I)
     ·refine nw<|bJ<|hM I<|bH I<|tY h I (fun h=>?_) (fun h=>?_)
      ·refine gZ<|aH<|aH<|cg I<|aH<|cg I<|aH<|dK<|dc ?_;exact dh (K1 v h) (bI I)
      ·refine nw<|bJ<|hM I<|bH I<|tY h I (fun h=>?_) (fun h=>?_)
       ·refine gZ<|aH<|aH<|cg I<|aH<|cg I<|aH<|cg I<|aH<|dK<|aJ ?_;refine oB (aA:=fun v3=>oM v3=some R) (Of:=fun v3=>[bx dF 104 b v3,bx dF 104 b1 Kb]) (Gf:=fun v3=>[(1,Q (ai b 0)),(2,Q (ai b1 0))]) (fun v3 h=>?_) (fun K3=>?_)
        ·skip
         refine gZ<|cg I<|aH<|dK ?_;exact dh (tD v3 h) (bI I)
        ·skip
         refine bB<|bt 3 xr I<|af (aV oH I I si (.tail _ (.head _)) (M I))<|af (xi ik (M I))<|af (n5 (M I) hI)<|dY h I (fun h=>?_) (fun h=>?_)
         ·refine bg<|bt 0 xu I<|cE<|lZ dC I yT I (M I) hI<|bt 3 xr I<|lZ oH I DB I (M I) hS<|bN ?_;exact dh (K3 (bO.mk (0:Int) v.N v.U ([])) h) (bI I)
         ·refine co<|dc ?_;exact dh (K3 v h) (bI I)
       ·refine nw<|bB<|hM I<|bH I<|tY h I (fun h=>?_) (fun h=>?_)
        ·refine gZ<|aH<|cg I<|aH<|cg I<|aH<|cg I<|aH<|cg I<|aH<|dK<|aJ<|bB<|bt 0 xu I<|cE<|lZ dC I yT I (M I) hI<|bt 1 At I<|lZ VW I DC I (M I) hI<|bt 2 SC I<|lZ TW I Ku I (M I) hI<|ci<|gZ ?_;refine dK ?_;exact dh (tD (bO.mk (0:Int) (0:Int) (0:Int) v.S) h) (bI I)
        ·refine nw<|gZ<|cg I<|aH<|cg I<|aH<|cg I<|aH<|cg I<|aH<|cg I<|aH<|dK<|dc ?_;exact dh (tD v h) (bI I)

def SO v{R}(h:sH v=some R):dn aO 221 [K dF v] (ba R):=by
 refine eu Tryz.func221 I<|bB<|ea I<|cz<|ci<|bJ<|dM qn I<|hU h Xm (SK _) (eS I) fun r h=>af (cd qn MU rL I)<|af (CX Nr (M I) (M I))<|dY h I (fun h=>?_) (fun h=>?_)
 ·exact bB<|gb<|aw<|so h▸aT I I
 ·exact nw<|bB<|gb<|so h▸aT I I

def Nj v{R}(h:qm v=some R):dn aO 189 [K dF v] (ml R):=by
 exact eu Tryz.func189 I<|bB<|ea I<|dA<|ci<|bB<|dM qn I<|hU h Xq (SO _) (eS I) fun r h=>hM I<|bE I<|aI I (fE xu uR I I)<|aI I (eE dC I I)<|aI I (BT I)<|jp I<|bm I<|so h▸aT I I

def SJ s{R}(h:wN s=some R):dn aO 243 [K rS s] (ml R):=by
 refine eu Tryz.func243 I<|bB<|dA<|ci<|bJ<|bE I<|af (xi ik (M I))<|af (bU hI)<|ci<|av<|bY ?_;refine aR (NI (aA:=fun n x=>mQ s n x=some R) (Of:=fun x=>[]) (Gf:=fun x=>[(0,K rS s),(5,ni s),(6,ba x)]) (fun x h=>nn h) (fun n ih x h=>?_) gx (0:Int) h) (bI I);refine gR<|bB<|Dl I<|ci<|aM<|tY h I (fun h=>?_) (fun h=>?_)
 ·refine nw<|aM<|av<|aL I<|bH I<|aL I<|bE I<|cI h fun b q_b h=>af (Bi ik (M I) (M I) q_b)<|af (jn (M I) hI)<|bE I<|cI h fun t q_t h=>br I (eC I)<|br I (eC I) ?_
  obtain⟨b1,h1t,h0t⟩:=og q_t
  have q_b1g:=fun H=>(h1t H).1
  refine br I (fun hg=>Bi ik (db I hg) (db I hg) (q_b1g hg))<|br I (fun hg=>ki (db I hg) hI)<|af (fy (M I) (fun H=>(db I (vG H))) (fun H=>(h1t H).2) h0t)<|dY h I (fun h=>?_) (fun h=>?_)
  ·exact bB<|dA<|ie<|dP<|aw<|dP<|so h▸aT I I
  ·refine co<|bR<|aJ<|bg<|af (tJ (M I) hI)<|bE I<|bN ?_;exact bu (aR (ih (IntKind.i64.wrap (x+(1:Int))) h) (bI I))
 ·exact gZ<|aH<|aH<|dK<|aJ<|bB<|dA<|ie<|so h▸aT I I

def SL n{R}(h:u9 n=some R):dn aO 234 [K cB n] (ml R):=by
 refine eu Tryz.func234 I<|bB<|ea I<|dA<|ci<|aM ?_
 refine ne (ts:=[_,_,_,_,_,_,_,_,_,_,_,_,_,_]) mixed I I
  ⟨xQ 1 I I (yb xp uh I I),
  ⟨yM 0 oH I I,
  ⟨ka 6 1 I I (CW (M I) hS),
  ⟨ka 7 2 I I (jz I),
  ⟨NQ 1 8 3 I I I (vd I I I I (fun hg=>yb uU rz I I)),
  ⟨Cw 9 4 8 3 I I I (vd I I I I (fun hg=>nO oH I I (db I hg))),
  ⟨Cw 10 5 8 3 I I I (vd I I I I (fun hg=>CW (db I hg) hS)),
  ⟨oF 8 3 11 6 I I I (zpo I I),
  ⟨xQ 1 I I (yb ta ow I I),
  ⟨yM 8 qn I I,
  ⟨zd0 I (cd qn MU rL I),
  ⟨oF 14 9 15 10 I I I (CX Nr (M I) (M I)),
  ⟨ka 12 7 I I (FQ I),
  ⟨ka 16 11 I I (FQ I),
  J⟩⟩⟩⟩⟩⟩⟩⟩⟩⟩⟩⟩⟩⟩ ?_
 refine aJ<|bJ<|cK td ox dC I<|ci<|av<|bB<|hM I<|bH I<|tY h I (fun h=>?_) (fun h=>?_)
 ·refine aL I<|af (nZ (M I))<|bE I<|cI h fun t q_t h=>aI I (fE ta ow I I)<|aI I (eE qn I I) ?_
  obtain⟨r,h1t,h0t⟩:=og q_t
  have q_rg:=fun H=>(h1t H).1
  refine aI I (fun hg=>bL Ub (Nj _ (q_rg hg)) ⟨(db I hg),J⟩)<|af (cW (M I) (fun H=>(db I H)) (fun H=>(h1t H).2) h0t)<|bE I<|aI I (fE ta ow I I)<|aI I (fun hg=>lx At I uQ I (db I hg))<|aI I (eE VW I I)<|aI I (fun hg=>kj (db I hg) hI)<|jp I<|bE I<|cI h fun t1 q_t1 h=>aI I (fE ta ow I I)<|aI I (fun hg=>lx xr I si I (db I hg))<|aI I (eE oH I I) ?_
  obtain⟨r1,h1t1,h0t1⟩:=og q_t1
  have q_r1g:=fun H=>(h1t1 H).1
  exact aI I (fun hg=>bL Xl (SJ _ (q_r1g hg)) ⟨(db I hg),J⟩)<|af (cW (M I) (fun H=>(db I H)) (fun H=>(h1t1 H).2) h0t1)<|bm I<|dP<|so h▸aT I I
 ·refine bB<|hM I<|bH I<|tY h I (fun h=>?_) (fun h=>?_)
  ·refine aL I<|af (nZ (M I))<|bE I<|cI h fun t2 q_t2 h=>aI I (fE uU rz I I)<|aI I (eE oH I I) ?_
   obtain⟨r2,h1t2,h0t2⟩:=og q_t2
   have q_r2g:=fun H=>(h1t2 H).1
   refine aI I (fun hg=>bL JI (wC _ (q_r2g hg)) ⟨(db I hg),J⟩)<|af (cW (M I) (fun H=>(db I H)) (fun H=>(h1t2 H).2) h0t2)<|bE I<|cI h fun t3 q_t3 h=>aI I (fE xp uh I I)<|aI I (eE oH I I) ?_
   obtain⟨r3,h1t3,h0t3⟩:=og q_t3
   have q_r3g:=fun H=>(h1t3 H).1
   exact aI I (fun hg=>bL Nv (C4 _ (q_r3g hg)) ⟨(db I hg),J⟩)<|af (cW (M I) (fun H=>(db I H)) (fun H=>(h1t3 H).2) h0t3)<|bm I<|dP<|so h▸aT I I
  ·exact co<|bR<|aJ<|aL I<|af (nZ (M I))<|bE I<|aI I (eC I)<|aI I (zO I)<|jp I<|bm I<|so h▸aT I I

def SS t{R}(h:BF t=some R):dn aO 213 [K aY t] (tT [iL (fO) R.1,ml R.2]):=by
 refine eu Tryz.func213 I<|bB<|ea I<|yd (fO)<|dA<|ci<|bB<|cn false fO 300<|af (cy C0)<|ci<|bB<|cn false aG 3<|af (cy C0)<|ci<|bJ<|yc pR kQ I ?_;refine dM AX I<|dN tU I<|af (bU hI)<|ci<|av<|bF (k:=15) I fun hN=>bY<|gS ?_;refine aR (Fa (aA:=fun ls i all l c open1 l1 c1=>(t.Nodes.drop i=ls)/\lK ls i all open1=some R) (Of:=fun _ i all l c open1 l1 c1=>[d7 fO 300 l c all,d7 aG 3 l1 c1 open1]) (Gf:=fun _ i all l c open1 l1 c1=>[(4,ve l c all),(5,ve l1 c1 open1),(15,iL (cB) t.Nodes),(16,ni t.Nodes),(17,ba (i:Int))]) (fun i all l c open1 l1 c1 h=>?_) (fun e tl ih i all l c open1 l1 c1 h=>?_) t.Nodes 0 ([]:List jO) none 0 Cu none 0 ⟨I,h⟩) (bI I)
 ·obtain⟨V,h⟩:=h
  refine eQ V I<|aJ<|aM<|cI h fun t1 q_t1 h=>?_
  obtain⟨e1,h1t1,h0t1⟩:=og q_t1
  have q_e1g:=fun H=>(h1t1 H).1
  refine ne (ts:=[_,_,_,_,_,_,_,_,_,_,_,_,_,_,_,_,_,_,_,_,_]) mixed I I
   ⟨oL I I,
   ⟨oL I I,
   ⟨ka 105 1 I I (fh iO (.tail _ (.head _)) (M I)),
   ⟨ka 106 2 I I (zei I),
   ⟨ka 107 3 I I (jz I),
   ⟨NQ 4 108 4 I I I (sy I I I I (fun hg=>jz I)),
   ⟨Cw 109 5 108 4 I I I (sy I I I I (fun hg=>fh BQ (.head _) (db I hg))),
   ⟨Cw 110 6 108 4 I I I (sy I I I I (fun hg=>n5 (db I hg) hI)),
   ⟨oF 108 4 111 7 I I I (zpa I I),
   ⟨ka 112 8 I I (jz I),
   ⟨NQ 4 113 9 I I I (sy I I I I (fun hg=>jz I)),
   ⟨NQ 4 113 9 I I I (sy I I I I (fun hg=>jz I)),
   ⟨Cw 115 11 113 9 I I I (sy I I I I (fun hg=>fh BQ (.head _) (db I hg))),
   ⟨Cw 116 12 113 9 I I I (sy I I I I (fun hg=>o9 (db I hg) hI)),
   ⟨TN 114 10 117 13 113 9 I I I I (sy I I I I (fun hg=>bK BQ yg (.head _) (db I hg) (db I hg) (q_e1g hg))),
   ⟨Cw 118 14 113 9 I I I (sy I I I I (fun hg=>cC (o:=(IntKind.i64.wrap ((all.length:Int)-(1:Int))).toNat*2+0) (n:=(IntKind.i64.wrap ((all.length:Int)-(1:Int))).toNat*2+1) Ao I (.head _) (q_e1g hg) (db I hg) I)),
   ⟨Cw 119 15 113 9 I I I (sy I I I I (fun hg=>cS (r:=fO) (i:=(IntKind.i64.wrap ((all.length:Int)-(1:Int)))) (foff:=1) dC I I uP I (.head _) (q_e1g hg) (db I hg))),
   ⟨Cw 120 16 113 9 I I I (sy I I I I (fun hg=>n5 (db I hg) hI)),
   ⟨oF 113 9 121 17 I I I (cW (M I) (fun H=>(db I H)) (fun H=>(h1t1 H).2) h0t1),
   ⟨ka 104 0 I I (FQ I),
   ⟨ka 122 18 I I (FQ I),
   J⟩⟩⟩⟩⟩⟩⟩⟩⟩⟩⟩⟩⟩⟩⟩⟩⟩⟩⟩⟩⟩ ?_
  exact aJ<|zB<|xH<|ld 4 I<|ld 104 I<|ld 2 I<|oC 2 I<|aK<|aK<|so h▸fj I I I
 ·obtain⟨V,h⟩:=h
  refine eP V I<|aM<|av<|aL I<|jB tU pu I (fF V)<|aW pu CO I fun b=>lj I<|cm pu am I<|aX 7 I<|ci<|aM ?_;refine bg<|cK td ox dC I<|hU h Xp (SM _) (eS I) fun r h=>bH I<|bJ<|bE I<|af (jn (M I) hI)<|bE I<|br I (eC I)<|br I (eC I)<|br I (fun hg=>fh iO (.tail _ (.head _)) (db I hg))<|br I (fun hg=>ki (db I hg) (db I hg))<|mp I<|bE I<|cI h fun t2 q_t2 h=>br I (fun hg=>ur pu I I) ?_
  obtain⟨r1,h1t2,h0t2⟩:=og q_t2
  have q_r1g:=fun H=>(h1t2 H).1
  refine br I (fun hg=>bL Xo (SL _ (q_r1g hg)) ⟨(db I hg),J⟩)<|br I (zO I)<|af (fy (M I) (fun H=>(db I (vG H))) (fun H=>(h1t2 H).2) h0t2)<|dY h I (fun h=>?_) (fun h=>?_)
  ·exact bB<|yd (fO)<|dA<|ie<|aw<|dP<|aw<|dP<|aK<|aK<|so h▸fj I I I
  ·refine nw<|aL I<|bE I<|af (fh iO (.tail _ (.head _)) (M I))<|bE I<|af (o9 (M I) (M I))<|cI h fun y q_y h=>af (qq iO dC I (.tail _ (.head _)) (M I) (M I) q_y)<|pn (.tail _ (.head _)) q_y fun hv=>bH I<|bB<|iJ (r:=aG) (ys:=[j9,j9]) (xs:=[.const (.int .i64 (-1)),.const (.int .i64 (-1))]) iO dC I I I I I ⟨hI,hI,J⟩ I fun l2 c2=>bH I<|aL I ?_;refine bE I<|cI h fun cp q_cp h=>nt (Lv (.tail _ (.tail _ (.head _))) q_y iO (R4 dC) (M I) (M I) (so q_cp)) I fun i1=>?_;refine(show RG _ _ _ _ [_,_,_] ((47,ba ((min y.length ([j9,j9]).length:Nat):Int))::_)from ?_);refine gw (EM (so q_cp)) 44 I<|gw (EM (so q_cp)) 10 I<|gw (EM (so q_cp)) 45 I<|ci<|aM<|aM<|cI h fun e2 q_e2 h=>cI h fun t3 q_t3 h=>?_
   obtain⟨e3,h1t3,h0t3⟩:=og q_t3
   have q_e3g:=fun H=>(h1t3 H).1
   refine ne (ts:=[_,_,_,_,_,_,_,_,_,_,_,_,_,_]) mixed I I
    ⟨xQ 7 I I (yb MZ Gw I I),
    ⟨yM 0 dC I I,
    ⟨oL I I,
    ⟨ka 50 2 I I (bK iO dC (.head _) (M I) hI q_e2),
    ⟨ka 51 3 I I (cS (r:=aG) (i:=(0:Int)) (foff:=0) dC I I bS I (.head _) q_e2 (M I)),
    ⟨oF 49 1 52 4 I I I (lw (M I) (M I)),
    ⟨ka 53 5 I I (jz I),
    ⟨NQ 7 54 6 I I I (vd I I I I (fun hg=>yb MY Gv I I)),
    ⟨Cw 55 7 54 6 I I I (vd I I I I (fun hg=>nO dC I I (db I hg))),
    ⟨NQ 10 54 6 I I I (vd I I I I (fun hg=>jz I)),
    ⟨Cw 57 9 54 6 I I I (vd I I I I (fun hg=>bK iO dC (.head _) (db I hg) hI (q_e3g hg))),
    ⟨Cw 58 10 54 6 I I I (vd I I I I (fun hg=>cS (r:=aG) (i:=(1:Int)) (foff:=0) dC I I bS I (.head _) (q_e3g hg) (db I hg))),
    ⟨TN 56 8 59 11 54 6 I I I I (vd I I I I (fun hg=>lw (db I hg) (db I hg))),
    ⟨oF 54 6 60 12 I I I (fy (M I) (fun H=>(db I (vG H))) (fun H=>(h1t3 H).2) h0t3),
    J⟩⟩⟩⟩⟩⟩⟩⟩⟩⟩⟩⟩⟩⟩ ?_
   refine aJ<|tY h I (fun h=>?_) (fun h=>?_)
   ·exact bB<|yd (fO)<|dA<|ie<|aw<|dP<|aw<|dP<|aK<|aK<|aK<|so h▸fj I I I
   ·refine nw<|aL I<|af (cd (y:=(⟨(i:Int),(1:Int)⟩:jO)) yg WG Il (⟨_,_,_,_,_,I,DA,I,(M I),⟨_,_,_,_,_,I,Dz,I,hI,I⟩⟩))<|aW yg Il I fun b1=>cm yg am I<|ci<|bJ<|bE I<|af (My iO (.tail _ (.tail _ (.tail _ (.head _)))) q_y (M I))<|af (bU hI)<|ci<|av ?_
    have hN1:=hv.2
    refine bY<|gS<|C5<|iY<|iY ?_;refine aR (gM (aA:=fun ls1 i2 b2=>(y.drop i2=ls1)/\nc (lK tl) i all open1 r ls1 b2=some R) (Of:=fun _ i2 b2=>[d7 fO 300 l c all,d7 aG 3 l1 c1 open1,bx fO 300 b1 b2]) (Gf:=fun _ i2 b2=>[(4,ve l c all),(5,ve l1 c1 open1),(6,ba (i:Int)),(8,ba r),(11,Q (ai b1 0)),(15,iL (cB) t.Nodes),(16,ni t.Nodes),(17,ba (i:Int)),(64,Q (mn 1 l1 c1 (IntKind.i64.wrap ((open1.length:Int)-r)).toNat y.length)),(65,ni y),(66,ba (i2:Int))]) (fun i2 b2 h=>?_) (fun e4 tl1 ih1 i2 b2 h=>?_) y 0 (⟨(i:Int),(1:Int)⟩:jO) ⟨I,h⟩) (bI I)
    ·obtain⟨hx1,h⟩:=h
     refine eQ hx1 I<|aJ<|aL I<|af (aV yg I I bS (.tail _ (.tail _ (.head _))) (M I))<|af (aZ (r:=fO) (ys:=[b2]) (xs:=[.tmp 91]) BQ yg I I I I I ⟨(M I),J⟩)<|cI h fun all1 q_all1 h=>fN yg I I I I BQ I I (M I) (M I) q_all1 fun l3 c3=>bH I<|bg ?_;refine bE I<|bE I<|af (fh iO (.tail _ (.head _)) (M I))<|bE I<|af (o9 (M I) (M I))<|cI h fun y1 q_y1 h=>af (sQ iO dC I (.tail _ (.head _)) (M I) (M I) q_y1)<|bE I<|af (aZ (r:=aG) (ys:=[(i:Int)]) (xs:=[.tmp 100]) iO dC I I I I I ⟨(M I),J⟩)<|cE<|Ia q_y1<|cI h fun open2 q_open2 h=>fN dC I I I I iO I I (M I) (M I) q_open2 fun l4 c4=>lj I<|bN<|eB V hN I<|gT<|aK<|dc ?_;exact bu (aR (ih (i+1) all1 l3 c3 open2 l4 c4 ⟨ee V,h⟩) (bI I))
    ·obtain⟨hx1,h⟩:=h
     refine eP hx1 I<|aM<|av<|bB<|af (yp iO dC I (.tail _ (.head _)) q_y (M I) (M I) (fF hx1))<|af (cS (r:=aG) (i:=((IntKind.i64.wrap ((open1.length:Int)-r))+(i2:Int))) (foff:=0) dC I I bS I (.tail _ (.head _)) (yR q_y (fF hx1)).1 (M I))<|bH I<|cI h fun e5 q_e5 h=>?_
     refine eH 19 [tc (Q (ai b1 0)),tc (ba b2.first),tc (ve l c all),tc (ba e4),tc (Q (cJ l (e4.toNat*2+0))),tc (Q (cJ l (e4.toNat*2+0))),tc (ba e5.first),tc (ba (min b2.first e5.first)),tc (Q (ai b1 1)),tc (ba b2.depth),tc (ve l c all),tc (ba e4),tc (Q (cJ l (e4.toNat*2+0))),tc (Q (cJ l (e4.toNat*2+1))),tc (ba e5.depth),tc (ba (IntKind.i64.wrap (e5.depth+(1:Int)))),tc (ba (max b2.depth (IntKind.i64.wrap (e5.depth+(1:Int))))),tc (Q (ai b1 0)),tc (tz)] [false,false,false,false,false,false,false,false,false,false,false,false,false,false,false,false,false,false,true] [fun _=>[d7 fO 300 l c all,d7 aG 3 l1 c1 open1,bx fO 300 b1 b2],fun sg=>[bx fO 300 b1 ({b2 with first:=(min b2.first e5.first)}:jO),d7 fO 300 l c all,d7 aG 3 l1 c1 open1]] I mixed I I I I I
      ⟨⟨[⟨11,fun _=>Q (ai b1 0),none⟩],_,0,0,I,⟨(fun _=>I),J⟩,I,I,I,I,I,fun _ sg _ _=>aC I (mW 0 HM I I I)⟩,
      ⟨⟨[⟨70,fun _=>Q (ai b1 0),some 0⟩],_,0,0,I,⟨(fun _=>I),J⟩,I,I,I,I,I,eD (fun sg=>aC I (aV dC I I Et (.tail _ (.tail _ (.head _))) (M I)))⟩,
      ⟨⟨[⟨4,fun _=>Q (Y l c all.length),none⟩],_,0,0,I,⟨(fun _=>I),J⟩,I,I,I,I,I,fun _ sg _ _=>aC I (jz I)⟩,
      ⟨⟨[⟨13,fun _=>K aG e4,none⟩],_,0,0,I,⟨(fun _=>I),J⟩,I,I,I,I,I,fun _ sg _ _=>aC I (jz I)⟩,
      ⟨⟨[⟨72,fun _=>Q (Y l c all.length),some 2⟩,⟨73,fun _=>K aG e4,some 3⟩],_,0,0,I,⟨(fun _=>I),(fun _=>I),J⟩,I,I,I,I,I,eD (fun sg=>aC I (bK BQ yg (.head _) (M I) (M I) q_e5))⟩,
      ⟨⟨[⟨74,fun _=>Q (cJ l (e4.toNat*2+0)),some 4⟩],_,0,0,I,⟨(fun _=>I),J⟩,I,I,I,I,I,eD (fun sg=>aC I (cC (o:=e4.toNat*2+0) (n:=e4.toNat*2+0) HM I (.head _) q_e5 (M I) I))⟩,
      ⟨⟨[⟨75,fun _=>Q (cJ l (e4.toNat*2+0)),some 5⟩],_,0,0,I,⟨(fun _=>I),J⟩,I,I,I,I,I,eD (fun sg=>aC I (cS (r:=fO) (i:=e4) (foff:=0) dC I I Et I (.head _) q_e5 (M I)))⟩,
      ⟨⟨[⟨71,fun _=>K aG b2.first,some 1⟩,⟨76,fun _=>K aG e5.first,some 6⟩],_,0,0,I,⟨(fun _=>I),(fun _=>I),J⟩,I,I,I,I,I,fun _ sg _ _=>aC I (me (M I) (M I))⟩,
      ⟨⟨[⟨11,fun _=>Q (ai b1 0),none⟩],_,0,0,I,⟨(fun _=>I),J⟩,I,I,I,I,I,fun _ sg _ _=>aC I (mW 1 Ao I I I)⟩,
      ⟨⟨[⟨78,fun _=>Q (ai b1 1),some 8⟩],_,0,0,I,⟨(fun _=>I),J⟩,I,I,I,I,I,eD (fun sg=>aC I (aV dC I I uP (.tail _ (.tail _ (.head _))) (M I)))⟩,
      ⟨⟨[⟨4,fun _=>Q (Y l c all.length),none⟩],_,0,1,I,⟨(fun _=>I),J⟩,I,I,I,I,I,fun _ sg _ _=>aC I (jz I)⟩,
      ⟨⟨[⟨13,fun _=>K aG e4,none⟩],_,0,1,I,⟨(fun _=>I),J⟩,I,I,I,I,I,fun _ sg _ _=>aC I (jz I)⟩,
      ⟨⟨[⟨80,fun _=>Q (Y l c all.length),some 10⟩,⟨81,fun _=>K aG e4,some 11⟩],_,0,1,I,⟨(fun _=>I),(fun _=>I),J⟩,I,I,I,I,I,pF (fun sg=>aC I (bK BQ yg (.head _) (M I) (M I) q_e5)) (eD (fun sg=>aC I (bK BQ yg (.tail _ (.head _)) (M I) (M I) q_e5)))⟩,
      ⟨⟨[⟨82,fun _=>Q (cJ l (e4.toNat*2+0)),some 12⟩],_,0,1,I,⟨(fun _=>I),J⟩,I,I,I,I,I,pF (fun sg=>aC I (cC (o:=e4.toNat*2+0) (n:=e4.toNat*2+1) Ao I (.head _) q_e5 (M I) I)) (eD (fun sg=>aC I (cC (o:=e4.toNat*2+0) (n:=e4.toNat*2+1) Ao I (.tail _ (.head _)) q_e5 (M I) I)))⟩,
      ⟨⟨[⟨83,fun _=>Q (cJ l (e4.toNat*2+1)),some 13⟩],_,0,1,I,⟨(fun _=>I),J⟩,I,I,I,I,I,pF (fun sg=>aC I (cS (r:=fO) (i:=e4) (foff:=1) dC I I uP I (.head _) q_e5 (M I))) (eD (fun sg=>aC I (cS (r:=fO) (i:=e4) (foff:=1) dC I I uP I (.tail _ (.head _)) q_e5 (M I))))⟩,
      ⟨⟨[⟨84,fun _=>K aG e5.depth,some 14⟩],_,0,1,I,⟨(fun _=>I),J⟩,I,I,I,I,I,fun _ sg _ _=>aC I (tJ (M I) hI)⟩,
      ⟨⟨[⟨79,fun _=>K aG b2.depth,some 9⟩,⟨85,fun _=>K aG (IntKind.i64.wrap (e5.depth+(1:Int))),some 15⟩],_,0,1,I,⟨(fun _=>I),(fun _=>I),J⟩,I,I,I,I,I,fun _ sg _ _=>aC I (Ht (M I) (M I))⟩,
      ⟨⟨[⟨11,fun _=>Q (ai b1 0),none⟩],_,0,0,I,⟨(fun _=>I),J⟩,I,I,I,I,I,fun _ sg _ _=>aC I (mW 0 HM I I I)⟩,
      ⟨⟨[⟨87,fun _=>Q (ai b1 0),some 17⟩,⟨77,fun _=>K aG (min b2.first e5.first),some 7⟩],_,I,⟨(fun _=>I),(fun _=>I),J⟩,I,I,I,fun sg=>bw I (EffOK.fr2 (dB dC I (wa DA) I (M I) (M I)))⟩,
      J⟩⟩⟩⟩⟩⟩⟩⟩⟩⟩⟩⟩⟩⟩⟩⟩⟩⟩⟩ (fun sg=>?_)
     refine(show RG _ _ _ _ [_,_,_] _ from ?_);refine bt 1 Ao I<|cm dC Dz I<|bN<|eB hx1 hN1 I<|gT<|gT ?_;exact bu (aR (ih1 (i2+1) (jO.mk ({b2 with first:=(min b2.first e5.first)}:jO).first (max b2.depth (IntKind.i64.wrap (e5.depth+(1:Int))))) ⟨ee hx1,h⟩) (bI I))

end Go.Proofs.YthbdkceckjihgaaGreatDoor

