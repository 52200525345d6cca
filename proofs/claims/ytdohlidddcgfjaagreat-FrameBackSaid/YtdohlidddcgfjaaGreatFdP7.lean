/- bT of this claim: P7. -/
import Derived.Test.YtdohlidddcgfjaaGreatFdT
import Derived.Test.YtdohlidddcgfjaaGreatFdP6
set_option linter.all false
namespace Go.Proofs.YtdohlidddcgfjaaGreat
open Go
set_option maxRecDepth 100000

def XJ nodes{R}(h:iH nodes=some R):dJ aY 82 [d8 (bl) nodes] (tT [d8 (po) R.1,bC R.2.1,bC R.2.2]):=by
 refine eX Tryz.func82 J<|a8<|jh (po)<|cM<|cM<|br<|Fu<|bm<|aS J<|cw tR J<|s (iZ (D J) hI)<|aS J<|bz J (du J)<|bz J (ma tR J)<|bz J (fun H=>ge (bL J H) hI)<|jW J<|cZ h J (fun h=>?_) (fun h=>?_)
 ·exact a8<|jh (po)<|cM<|gQ<|av<|qo<|so h▸wE J J J J
 ·refine jg<|aB J<|s (ez (r:=rH bu [(1,.slice none 0 0),(2,.slice none 0 0)]) (y:=(⟨nodes,[],[],TP,[],[],[]⟩:al)) ZH Z8 (zH TH ⟨J,J,aM⟩) (⟨_,_,_,_,_,J,Gv Pq J J,J,(D J),J⟩))<|uE (D J) J fun b=>cS true po 69<|cS false bP 3 ?_;refine(show RG _ _ _ _ [_,_,_] _ from ?_);refine aZ J<|a8<|iw h abQ Vm trivial fun r h=>aZ J<|a8<|cM<|br<|aT<|Fv<|aG<|bm<|aS J<|cw tR J<|s (bQ hI) ?_;refine br ?_;refine QG (tV:=fun wrong ob l c l1 c1=>jE nodes wrong ob=some R) (Of:=fun wrong ob l c l1 c1=>[Q (rH bu [(1,au l c ob.kinds.length),(2,au l1 c1 ob.open_.length)]) 168 b ob,tip po 69 l c ob.kinds,dk bP 3 l1 c1 ob.open_]) (Gf:=fun wrong ob l c l1 c1=>[(0,d8 (bl) nodes),(5,Z (M b 0)),(7,bC wrong)]) (fun wrong ob l c l1 c1 h=>?_) (fun hb=>?_)
  ·skip
   refine aG ?_;refine iV (tV:=fun wrong1=>lU ob wrong1=some R) (Of:=fun wrong1=>[Q (rH bu [(1,au l c ob.kinds.length),(2,au l1 c1 ob.open_.length)]) 168 b ob,tip po 69 l c ob.kinds,dk bP 3 l1 c1 ob.open_]) (Gf:=fun wrong1=>[(5,Z (M b 0)),(7,bC wrong1)]) (fun wrong1 h=>?_) (fun K1=>?_)
   ·skip
    refine bm<|aS J<|s (iJ (D J) hI)<|cZ h J (fun h=>?_) (fun h=>?_)
    ·exact aB J<|jh (po)<|hE J<|gQ<|av<|qo<|ba<|ba<|ba<|so h▸wE J J J J
    ·refine jg<|a8<|cS false po 69<|s (cg w3)<|br<|bm<|aS J<|s (aC (D J))<|aW 1 Dq J<|s (na TX J (.tail _ (.head _)) (.tail _ (.tail _ (.head _))) (D J))<|s (mG CX (tX (D J)))<|s (bQ hI)<|br<|aA<|QD<|QF 61 J<|bt (k:=61) J fun hN=>bN ?_;refine gV<|gE<|gV<|gV ?_;refine aV (ni (tV:=fun ls i out l2 c2=>(ob.kinds.drop i=ls)/\nk ls out=some R) (Of:=fun _ i out l2 c2=>[dk po 69 l2 c2 out,Q (rH bu [(1,au l c ob.kinds.length),(2,au l1 c1 ob.open_.length)]) 168 b ob,tip po 69 l c ob.kinds,dk bP 3 l1 c1 ob.open_]) (Gf:=fun _ i out l2 c2=>[(10,rL l2 c2 out),(61,d8 (po) ob.kinds),(62,nz ob.kinds),(63,bC (i:Int))]) (fun i out l2 c2 h=>?_) (fun e tl ih i out l2 c2 h=>?_) ob.kinds 0 ([]:List (List Int)) none 0 ⟨J,h⟩) (bo J)
     ·obtain⟨V,h⟩:=h
      refine fm V J<|aG<|aB J<|hE J<|cM<|gQ<|qo<|dm ?_;exact bB 10 J<|bB 73 J<|bB 2 J<|eY 2 J<|ba<|ba<|ba<|ba<|so h▸wE J J J J
     ·obtain⟨V,h⟩:=h
      refine fj V J<|aT<|aA<|a8<|fQ CX c0 J (eF V)<|aZ J<|aw<|aS J<|aS J<|u6 h Tf (KI _) (ea J) fun r1 h l3 c3=>?_;refine vy<|qS 69 J<|s (bc (r:=zu) (ys:=[r1]) (xs:=[.tmp 69]) CX c0 J J J J J ⟨(tX (D J)),aM⟩)<|cL<|bM h fun out1 q_out1 h=>dl c0 J J J J CX J J (D J) (D J) q_out1 fun l4 c4=>hE J<|aX<|dW V hN J<|ah<|ba ?_;exact bj (aV (ih (i+1) out1 l4 c4 ⟨dQ V,h⟩) (bo J))
   ·skip
    refine aB J<|s (iZ (D J) hI)<|aS J<|ai J (du J)<|ai J (fun H=>aC (bL J H))<|ai J (fun H=>bU (n:=2) sI J (bL J H) J)<|ai J (fun H=>cO c0 J (.head _) (bL J H))<|ai J (fun H=>ja fx (.tail _ (.tail _ (.head _))) (bL J H))<|ai J (Cx J)<|c8 J<|cZ h J (fun h=>?_) (fun h=>?_)
    ·refine aw<|aS J<|cw tR J<|s (iI (D J) hI)<|hE J<|aX ?_;exact bZ (K1 (IntKind.i64.wrap ((nodes.length:Int)-(1:Int))) h) (bo J)
    ·refine bE ?_;exact bZ (K1 wrong h) (bo J)
  ·skip
   refine bt (k:=25) J fun hN1=>bN<|gE<|mP ?_;refine aV (Fl (tV:=fun ls1 i1 wrong2 ob1 l5 c5 l6 c6=>(nodes.drop i1=ls1)/\fd nodes r ls1 i1 wrong2 ob1=some R) (Of:=fun _ i1 wrong2 ob1 l5 c5 l6 c6=>[Q (rH bu [(1,au l5 c5 ob1.kinds.length),(2,au l6 c6 ob1.open_.length)]) 168 b ob1,tip po 69 l5 c5 ob1.kinds,dk bP 3 l6 c6 ob1.open_]) (Gf:=fun _ i1 wrong2 ob1 l5 c5 l6 c6=>[(0,d8 (bl) nodes),(5,Z (M b 0)),(6,ZK (fun y:(al->Unit->Option (Bool×al))=>pP (fun bb=>eT aY (fun(x:Unit)=>[Z (M bb 0)]) (eG bb) pN y)) (V9 .i64) r),(7,bC wrong2),(25,d8 (bl) nodes),(26,nz nodes),(27,bC (i1:Int))]) (fun i1 wrong2 ob1 l5 c5 l6 c6 h=>?_) (fun e1 tl1 ih1 i1 wrong2 ob1 l5 c5 l6 c6 h=>?_) nodes 0 C0 (⟨nodes,[],[],TP,[],[],[]⟩:al) none 0 none 0 ⟨J,h⟩) (bo J)
   ·obtain⟨hx1,h⟩:=h
    refine fm hx1 J ?_;exact bZ (hb wrong2 ob1 l5 c5 l6 c6 h) (bo J)
   ·obtain⟨hx1,h⟩:=h
    refine fj hx1 J<|aT<|aA<|aB J<|fQ tR gv J (eF hx1)<|bw gv kV J fun b1=>hE J<|bv gv ax J<|bf 9 J<|br<|aT ?_;refine aw<|aS J<|aS J<|aS J<|bG lX eJ b9 J<|s (J9 (γ:=(fun y:(al->Unit->Option (Bool×al))=>pP (fun bb=>eT aY (fun(x:Unit)=>[Z (M bb 0)]) (eG bb) Aw y))) (z:=(fun _ _=>none)) CY (jb lr) Zf (fun _ _=>Gn) (D J) (t7 (D J)))<|bM h fun r2 q_r2 h=>aL (EffOK.fr2 (EffOK.fr2 (EffOK.fr2 (an (xs:=[.tmp 32,.tmp 33,.tmp 37]) (ts:=[Z (M b 0),bC (i1:Int),pP (fun bb=>eT aY (fun(x:Unit)=>[Z (M bb 0)]) (eG bb) pN ((tZ r e1.Op).getD (fun _ _=>none)))]) (eG b ob1 (qZ [(l5,c5),(l6,c6)])) _ J abP (Yy b (qZ [(l5,c5),(l6,c6)]) ob1 _ _ q_r2) ⟨(D J),(D J),(D J),aM⟩ (fun _=>J))))) J fun i2=>?_;refine(show RG _ _ _ _ [_,_,_] ((38,gI r2.1)::_)from ?_);refine s (gG (D J))<|cZ h J (fun h=>?_) (fun h=>?_)
    ·refine aB J<|aZ J<|dB<|bO J<|aq<|aq<|bV ?_;exact bZ (hb (i1:Int) r2.2 (i2.h 0).1 (i2.h 0).2 (i2.h 1).1 (i2.h 1).2 h) (bo J)
    ·refine bE<|dW hx1 hN1 J ?_;exact bj (aV (ih1 (i1+1) wrong2 r2.2 (i2.h 0).1 (i2.h 0).2 (i2.h 1).1 (i2.h 1).2 ⟨dQ hx1,h⟩) (bo J))

def XZ p{R}(h:tw p=some R):dJ aY 40 [tD mh p] (gI R):=by
 refine eX Tryz.func40 J<|a8<|eZ J<|bA<|br<|a8<|s (cg (show aJ _ _ _ ((lF aY Jm pN (fun(x:Int)=>qL x)))from(Sp acu fun x y h=>XK _ h)))<|br<|bm<|bG wm pb HN J<|cw wV J<|s (bQ hI)<|br<|aA<|bt (k:=12) J fun hN=>bN ?_;refine aV (fv (tV:=fun ls i=>(p.Frags.drop i=ls)/\nu p ls=some R) (Of:=fun _ i=>[]) (Gf:=fun _ i=>[(1,df mh p),(3,(lF aY Jm pN (fun(x:Int)=>qL x))),(12,d8 (cG) p.Frags),(13,nz p.Frags),(14,bC (i:Int))]) (fun i h=>?_) (fun e tl ih i h=>?_) p.Frags 0 ⟨J,h⟩) (bo J)
 ·obtain⟨V,h⟩:=h
  refine fm V J<|aG<|a8<|bG wm pb HN J<|cw wV J<|s (iJ (D J) hI)<|aS J<|ai J (cj wm pb J J)<|ai J (ce HN J J)<|ai J (ma wV J)<|ai J (fun H=>g9 (bL J H) hI) ?_;exact c8 J<|bq J<|so h▸aN J J
 ·obtain⟨V,h⟩:=h
  refine fj V J<|aT<|aA<|a8<|fQ wV qq J (eF V)<|bw qq pF J fun b=>bv qq ax J<|bf 5 J<|br<|a8<|rP zT sW J ?_;refine fi FC J<|iw h act (XJ _) (ea J) fun r h=>aS J<|ek J J<|ek J J<|ek J J<|hE J<|hE J<|aZ J<|a8<|bG EY vr b9 J<|bW J<|aS J<|bz J (cj EY vr J J)<|bz J (ce b9 J J)<|bz J (mw J)<|jW J<|hE J<|aX ?_;refine aG<|a8<|bG EX vq b9 J<|s (iJ (D J) hI)<|aS J<|ai J (cj EX vq J J)<|ai J (ce b9 J J)<|ai J (fun H=>g9 (bL J H) hI)<|c8 J<|aS J<|ai J (cj B6 sV J J)<|ai J (ce c0 J J)<|ai J (ma fx J)<|ai J (fun H=>g9 (bL J H) hI)<|c8 J<|aS J<|bM h fun t q_t h=>ai J (cj B6 sV J J)<|ai J (ce c0 J J)<|ai J (du J) ?_
  obtain⟨r1,h1t,h0t⟩:=og q_t
  have q_r1g:=fun K=>(h1t K).1
  refine ai J (fun H=>db YH (MD _ _ (q_r1g H)) ⟨(bL J H),(bL J H),aM⟩)<|ai J (y0 J)<|s (de (D J) (fun K=>(bL J K)) (fun K=>(h1t K).2) h0t)<|aZ J<|aB J<|nW J<|aS J<|bz J (du J)<|bz J (y0 J)<|jW J<|aS J<|bz J (du J)<|bz J (y0 J)<|jW J<|cZ h J (fun h=>?_) (fun h=>?_)
  ·exact a8<|bA<|bS<|ei<|av<|ei<|so h▸aN J J
  ·refine bE<|dW V hN J ?_;exact bj (aV (ih (i+1) ⟨dQ V,h⟩) (bo J))

def Vj n{R}(h:vW n=some R):dJ aY 154 [tD nT n] (gI R):=by
 exact eX Tryz.func154 J<|a8<|bA<|br<|aB J<|s (iJ (D J) hI)<|aS J<|ai J (du J)<|ai J (fun H=>g9 (bL J H) hI)<|c8 J<|bq J<|so h▸aN J J

def UU ae f{R}(h:iD ae f=some R):dJ aY 248 [d8 (me) ae,(lF aY WH pN (fun(x:(List am))=>f x))] (bC R):=by
 refine eX Tryz.func248 J<|a8<|cM<|br<|bm<|aS J<|cw u4 J<|s (bQ hI)<|br<|aA<|bt (k:=6) J fun hN=>bN ?_;refine aV (fv (tV:=fun ls i=>(ae.drop i=ls)/\dL f ls i=some R) (Of:=fun _ i=>[]) (Gf:=fun _ i=>[(0,d8 (me) ae),(1,(lF aY WH pN (fun(x:(List am))=>f x))),(7,nz ae),(8,bC (i:Int))]) (fun i h=>?_) (fun e tl ih i h=>?_) ae 0 ⟨J,h⟩) (bo J)
 ·obtain⟨V,h⟩:=h
  exact fm V J<|aG<|a8<|gQ<|so h▸aN J J
 ·obtain⟨V,h⟩:=h
  refine fj V J<|aT<|aA<|aB J<|aZ J<|aB J<|aS J<|aS J<|Gi u4 Cy J (eF V) ?_;refine fi Cy J<|bM h fun r q_r h=>s (lH (args:=(fun(x:(List am))=>[tD me x])) (res:=Aw) (f:=(fun(x:(List am))=>f x)) (x:=((e):(List am))) (D J) q_r ⟨(D J),aM⟩)<|cZ h J (fun h=>?_) (fun h=>?_)
  ·exact aB J<|bq J<|ei<|av<|ei<|so h▸aN J J
  ·refine bE<|dW V hN J ?_;exact bj (aV (ih (i+1) ⟨dQ V,h⟩) (bo J))

def U4 ae f{R}(h:fb ae f=some R):dJ aY 228 [d8 (me) ae,(lF aY WH pN (fun(x:(List am))=>f x))] (gI R):=by
 exact eX Tryz.func228 J<|a8<|bA<|br<|aB J<|aS J<|iw h aaO (UU _ _) (ea J) fun r h=>s (iJ (D J) hI)<|bq J<|so h▸aN J J

def UR v{R}(h:rR v=some R):dJ aY 258 [tD be v] (gI R):=by
 exact eX Tryz.func258 J<|a8<|eZ J<|bA<|br<|a8<|fi dd J<|iw h Bl (sK _) (ea J) fun r h=>nW J<|bq J<|so h▸aN J J

def UO ae f{R}(h:kZ ae f=some R):dJ aY 264 [d8 (be) ae,(lF aY QS pN (fun(x:am)=>f x))] (bC R):=by
 refine eX Tryz.func264 J<|a8<|cM<|br<|bm<|aS J<|cw Aj J<|s (bQ hI)<|br<|aA<|bt (k:=6) J fun hN=>bN ?_;refine aV (fv (tV:=fun ls i=>(ae.drop i=ls)/\c9 f ls i=some R) (Of:=fun _ i=>[]) (Gf:=fun _ i=>[(0,d8 (be) ae),(1,(lF aY QS pN (fun(x:am)=>f x))),(7,nz ae),(8,bC (i:Int))]) (fun i h=>?_) (fun e tl ih i h=>?_) ae 0 ⟨J,h⟩) (bo J)
 ·obtain⟨V,h⟩:=h
  exact fm V J<|aG<|a8<|gQ<|so h▸aN J J
 ·obtain⟨V,h⟩:=h
  refine fj V J<|aT<|aA<|aB J<|aZ J<|aB J<|aS J<|aS J<|Gi Aj dd J (eF V) ?_;refine fi dd J<|bM h fun r q_r h=>s (lH (args:=QS) (res:=Aw) (f:=(fun(x:am)=>f x)) (x:=((e):am)) (D J) q_r ⟨(D J),aM⟩)<|cZ h J (fun h=>?_) (fun h=>?_)
  ·exact aB J<|bq J<|ei<|av<|ei<|so h▸aN J J
  ·refine bE<|dW V hN J ?_;exact bj (aV (ih (i+1) ⟨dQ V,h⟩) (bo J))

def UQ ae f{R}(h:gy ae f=some R):dJ aY 259 [d8 (be) ae,(lF aY QS pN (fun(x:am)=>f x))] (gI R):=by
 exact eX Tryz.func259 J<|a8<|bA<|br<|aB J<|aS J<|iw h aaE (UO _ _) (ea J) fun r h=>s (iJ (D J) hI)<|bq J<|so h▸aN J J

def UT r{R}(h:yr r=some R):dJ aY 249 [d8 (be) r] (gI R):=by
 refine eX Tryz.func249 J<|a8<|bA<|br<|a8<|s (cg (show aJ _ _ _ ((lF aY QS pN (fun(x:am)=>rR x)))from(Sp aaH fun x y h=>UR _ h)))<|br<|aB J<|cw Aj J<|s (g9 (D J) hI)<|aS J<|bM h fun t q_t h=>ai J (du J)<|ai J (du J) ?_
 obtain⟨r1,h1t,h0t⟩:=og q_t
 have q_r1g:=fun K=>(h1t K).1
 exact ai J (fun H=>db aaG (UQ _ _ (q_r1g H)) ⟨(bL J H),(bL J H),aM⟩)<|ai J (y0 J)<|s (de (D J) (fun K=>(bL J K)) (fun K=>(h1t K).2) h0t)<|bq J<|so h▸aN J J

def U2 r{R}(h:yu r=some R):dJ aY 230 [d8 (be) r] (bC R):=by
 refine eX Tryz.func230 J<|a8<|cM<|br<|bm<|aS J<|iw h aaN (UT _) (ea J) fun r1 h=>s (gG (D J))<|cZ h J (fun h=>?_) (fun h=>?_)
 ·exact a8<|gQ<|av<|so h▸aN J J
 ·exact jg<|a8<|gQ<|so h▸aN J J

def U3 r{R}(h:xI r=some R):dJ aY 229 [d8 (be) r] (gI R):=by
 exact eX Tryz.func229 J<|a8<|bA<|br<|aB J<|iw h aaZ (U2 _) (ea J) fun r1 h=>nW J<|bq J<|so h▸aN J J

def Vc l{R}(h:yF l=some R):dJ aY 197 [d8 (me) l] (gI R):=by
 refine eX Tryz.func197 J<|a8<|bA<|br<|aB J<|cw u4 J<|s (ge (D J) hI)<|aS J<|ai J (du J)<|ai J (ma u4 J)<|ai J (fun H=>g9 (bL J H) hI)<|c8 J<|aS J<|bM h fun t q_t h=>ai J (du J) ?_
 obtain⟨r,h1t,h0t⟩:=og q_t
 have q_rg:=fun K=>(h1t K).1
 exact ai J (fun H=>db aa1 (U4 _ _ (q_rg H)) ⟨(bL J H),(Sp aa0 fun x y h=>U3 _ h),aM⟩)<|ai J (y0 J)<|s (de (D J) (fun K=>(bL J K)) (fun K=>(h1t K).2) h0t)<|bq J<|so h▸aN J J

def Vi b seq{R}(h:vX b seq=some R):dJ aY 155 [tD kj b,tD md seq] (gI R):=by
 refine eX Tryz.func155 J<|a8<|eZ J<|bA<|br<|bm<|aS J<|s (iZ (D J) hI)<|aS J<|bz J (du J)<|bz J (fun H=>ge (bL J H) hI)<|jW J<|cZ h J (fun h=>?_) (fun h=>?_)
 ·exact a8<|bA<|bS<|av<|so h▸aN J J
 ·refine jg<|bm<|bG wk oD Ad J<|cZ h J (fun h=>?_) (fun h=>?_)
  ·exact a8<|bG wl oE HM J<|cw u4 J<|bW J<|aS J<|ai J (cj xX pW J J)<|ai J (ce pt J J)<|ai J (du J)<|ai J (fun H=>iI (bL J H) hI)<|ai J (fun H=>d9 (bL J H) (bL J H))<|c8 J<|bq J<|av<|so h▸aN J J
  ·refine jg<|a8<|bG xX pW pt J<|bW J<|aS J<|bM h fun t q_t h=>ai J (cj wl oE J J)<|ai J (ce HM J J) ?_
   obtain⟨r,h1t,h0t⟩:=og q_t
   have q_rg:=fun K=>(h1t K).1
   exact ai J (fun H=>db abi (Vc _ (q_rg H)) ⟨(bL J H),aM⟩)<|s (de (D J) (fun K=>(bL J K)) (fun K=>(h1t K).2) h0t)<|bq J<|so h▸aN J J

def U1 a1 b{R}(h:vc a1 b=some R):dJ aY 231 [d8 (be) a1,d8 (be) b] (gI R):=by
 exact eX Tryz.func231 J<|a8<|bA<|br<|aB J<|aS J<|iw h aay (SD _ _) (ea J) fun r h=>bq J<|so h▸aN J J

def Vb a1 b{R}(h:AD a1 b=some R):dJ aY 198 [d8 (me) a1,d8 (me) b] (gI R):=by
 exact eX Tryz.func198 J<|a8<|bA<|br<|aB J<|aS J<|iw h aaz (SE _ _ _) ⟨(D J),(D J),(Sp aaY fun x y h=>U1 _ _ h),aM⟩ fun r h=>bq J<|so h▸aN J J

def Vh a1 b{R}(h:yE a1 b=some R):dJ aY 156 [tD kj a1,tD kj b] (gI R):=by
 refine eX Tryz.func156 J<|a8<|eZ J<|eZ J<|bA<|br<|a8<|bG wk oD Ad J<|bG wk oD Ad J<|s (Dm Ga (D J) (D J))<|aS J<|ai J (cj xX pW J J)<|ai J (ce pt J J)<|ai J (cj xX pW J J)<|ai J (ce pt J J)<|ai J (fun H=>d9 (bL J H) (bL J H))<|c8 J<|aS J<|bM h fun t q_t h=>?_;refine ai J (cj wl oE J J)<|ai J (ce HM J J)<|ai J (cj wl oE J J)<|ai J (ce HM J J) ?_
 obtain⟨r,h1t,h0t⟩:=og q_t
 have q_rg:=fun K=>(h1t K).1
 exact ai J (fun H=>db abh (Vb _ _ (q_rg H)) ⟨(bL J H),(bL J H),aM⟩)<|s (de (D J) (fun K=>(bL J K)) (fun K=>(h1t K).2) h0t)<|bq J<|so h▸aN J J

def Vq p{R}(h:oX p=some R):dJ aY 115 [tD cx p] (bC R):=by
 refine eX Tryz.func115 J<|a8<|eZ J<|cM<|br<|a8<|bG Ix ux qY J<|iw h abJ (Vj _) (ea J) fun r h=>aZ J<|bm<|bG E1 rZ b9 J<|br<|aA ?_;refine a8<|bW J<|aZ J<|jz h J (fun h=>?_) (fun h=>?_)
 ·refine aw<|aS J<|aS J<|ai J (cj zW qj J J)<|ai J (ce pt J J)<|ai J (mw J)<|c8 J<|aS J<|bM h fun t q_t h=>ai J (cj oG ft J J)<|ai J (ce Xc J J)<|ai J (cj zX oy J J)<|ai J (ce pt J J) ?_
  obtain⟨r1,h1t,h0t⟩:=og q_t
  have q_r1g:=fun K=>(h1t K).1
  refine ai J (fun H=>db abI (Vi _ _ (q_r1g H)) ⟨(bL J H),(bL J H),aM⟩)<|s (de (D J) (fun K=>(bL J K)) (fun K=>(h1t K).2) h0t)<|hE J<|aX<|aF<|aG<|bm<|aS J<|s (gG (D J))<|cZ h J (fun h=>?_) (fun h=>?_)
  ·exact a8<|gQ<|av<|so h▸aN J J
  ·exact jg<|a8<|gQ<|so h▸aN J J
 ·refine a8<|bW J<|aZ J<|jz h J (fun h=>?_) (fun h=>?_)
  ·refine aw<|aS J<|aS J<|bM h fun t1 q_t1 h=>ai J (cj oG ft J J)<|ai J (ce Xc J J)<|ai J (fun H=>ez Xc acj Jk J) ?_
   obtain⟨r2,h1t1,h0t1⟩:=og q_t1
   have q_r2g:=fun K=>(h1t1 K).1
   refine ai J (fun H=>db abH (Vh _ _ (q_r2g H)) ⟨(bL J H),(bL J H),aM⟩)<|s (de (D J) (fun K=>(bL J K)) (fun K=>(h1t1 K).2) h0t1)<|aS J<|ai J (cj zX oy J J)<|ai J (ce pt J J)<|ai J (fun H=>iJ (bL J H) hI)<|c8 J<|aS J<|ai J (cj zX oy J J)<|ai J (ce pt J J)<|ai J (fun H=>g9 (bL J H) hI)<|c8 J<|aS J<|ai J (cj zW qj J J)<|ai J (ce pt J J)<|ai J (cj zX oy J J)<|ai J (ce pt J J)<|ai J (fun H=>iI (bL J H) hI)<|ai J (fun H=>iJ (bL J H) (bL J H))<|c8 J<|aS J<|ai J (cj zW qj J J)<|ai J (ce pt J J)<|ai J (fun H=>g9 (bL J H) hI) ?_;refine c8 J<|hE J<|aX<|aF<|aG<|bm<|aS J<|s (gG (D J))<|cZ h J (fun h=>?_) (fun h=>?_)
   ·exact a8<|gQ<|av<|so h▸aN J J
   ·exact jg<|a8<|gQ<|so h▸aN J J
  ·refine aw<|bA<|aX<|aF<|aG<|bm<|aS J<|s (gG (D J))<|cZ h J (fun h=>?_) (fun h=>?_)
   ·exact a8<|gQ<|av<|so h▸aN J J
   ·exact jg<|a8<|gQ<|so h▸aN J J

def Vr m kind{R}(h:iP m kind=some R):dJ aY 114 [bC kind,df fz m] (gI R):=by
 refine eX Tryz.func114 J<|a8<|bA<|br<|a8<|bG xV xR b9 J<|s (iJ (D J) hI)<|aS J<|ai J (cj xV xR J J)<|ai J (ce b9 J J)<|ai J (fun H=>iZ (bL J H) hI)<|c8 J<|aS J<|ai J (cj wj vp J J)<|ai J (fun H=>gB E1 J rZ J (bL J H))<|ai J (ce b9 J J)<|ai J (du J)<|ai J (fun H=>d9 (bL J H) (bL J H))<|c8 J<|aS J ?_;refine bM h fun t q_t h=>ai J (cj wj vp J J)<|ai J (ce sx J J) ?_
 obtain⟨r,h1t,h0t⟩:=og q_t
 have q_rg:=fun K=>(h1t K).1
 exact ai J (fun H=>db abT (Vq _ (q_rg H)) ⟨(bL J H),aM⟩)<|ai J (mw J)<|s (de (D J) (fun K=>(bL J K)) (fun K=>(h1t K).2) h0t)<|bq J<|so h▸aN J J

def XU m{R}(h:sG m=some R):dJ aY 58 [tD fz m] (gI R):=by
 refine eX Tryz.func58 J<|a8<|eZ J<|bA<|br<|a8<|s ((show cr _ _ _ _ ((lF aY Jm pN (fun(x:Int)=>(iP m) x)))from xE (cts:=[df fz m]) (caps:=[.tmp 1]) abU ⟨(D J),aM⟩ (fun x y h=>Vr _ _ h)))<|aZ J<|bm<|bG xW tB b9 J<|br<|aA<|a8<|bW J ?_;refine aZ J<|jz h J (fun h=>?_) (fun h=>?_)
 ·refine a8<|bG zV xQ b9 J<|s (iJ (D J) hI)<|aS J<|ai J (cj zV xQ J J)<|ai J (ce b9 J J)<|ai J (fun H=>g9 (bL J H) hI)<|c8 J<|aS J<|bM h fun t q_t h=>ai J (cj zU xP J J)<|ai J (ce C3 J J) ?_
  obtain⟨r,h1t,h0t⟩:=og q_t
  have q_rg:=fun K=>(h1t K).1
  exact ai J (fun H=>db acP (XZ _ (q_rg H)) ⟨(bL J H),aM⟩)<|s (de (D J) (fun K=>(bL J K)) (fun K=>(h1t K).2) h0t)<|bq J<|ei<|so h▸aN J J
 ·refine iV (tV:=fun x=>nh m x=some R) (Of:=fun x=>[]) (Gf:=fun x=>[(1,df fz m),(3,(lF aY Jm pN (fun(x:Int)=>(iP m) x))),(6,bC m.Kind),(22,gI x)]) (fun x h=>?_) (fun hb=>?_)
  ·skip
   refine jz h J (fun h=>?_) (fun h=>?_)
   ·exact a8<|bA<|bS<|ei<|so h▸aN J J
   ·refine a8<|bW J<|aZ J<|jz h J (fun h=>?_) (fun h=>?_)
    ·exact aB J<|bM h fun r1 q_r1 h=>s (lH (args:=QQ) (res:=Aw) (f:=(fun(x:Int)=>(iP m) x)) (x:=(((1:Int)):Int)) (D J) q_r1 ⟨hI,aM⟩)<|bq J<|ei<|so h▸aN J J
    ·refine a8<|bW J<|aZ J<|jz h J (fun h=>?_) (fun h=>?_)
     ·exact aB J<|bM h fun r2 q_r2 h=>s (lH (args:=QQ) (res:=Aw) (f:=(fun(x:Int)=>(iP m) x)) (x:=(((2:Int)):Int)) (D J) q_r2 ⟨hI,aM⟩)<|bq J<|ei<|so h▸aN J J
     ·refine a8<|bW J<|aZ J<|jz h J (fun h=>?_) (fun h=>?_)
      ·exact a8<|bG xU xO zx J<|bW J<|aS J<|bz J (cj xU xO J J)<|bz J (ce zx J J)<|bz J (mw J)<|jW J<|bq J<|ei<|so h▸aN J J
      ·exact bE<|aF<|aG<|a8<|bA<|bS<|so h▸aN J J
  ·skip
   refine a8<|bW J<|aZ J<|jz h J (fun h=>?_) (fun h=>?_)
   ·refine bE ?_;exact bZ (hb (m.Kind==(2:Int)) h) (bo J)
   ·refine a8<|bW J<|aZ J<|jz h J (fun h=>?_) (fun h=>?_)
    ·refine bE ?_;exact bZ (hb (m.Kind==(6:Int)) h) (bo J)
    ·refine aw<|bW J<|hE J<|aX ?_;exact bZ (hb (m.Kind==(7:Int)) h) (bo J)

end Go.Proofs.YtdohlidddcgfjaaGreat

