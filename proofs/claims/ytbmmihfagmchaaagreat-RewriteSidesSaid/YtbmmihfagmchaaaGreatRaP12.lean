/- db of this claim: P12. -/
import Derived.Test.YtbmmihfagmchaaaGreatRaT
import Derived.Test.YtbmmihfagmchaaaGreatRaP11
set_option linter.all false
namespace Go.Proofs.YtbmmihfagmchaaaGreat
open Go
set_option maxRecDepth 100000

def zR a1 b{R}(h:iB a1 b=some R):cj bf 11 [eE (hf) a1,eE (hf) b] (ec R):=by
 refine de Tryz.func11 J<|T<|cu<|bO<|ba<|bg J<|cM gx J<|bg J<|cM gx J<|K (ia (D J) (D J))<|cw h J (fun h=>?_) (fun h=>?_)
 ·exact T<|cu<|cU<|ak<|so h▸bl J J
 ·refine gg<|ba<|bg J<|cM gx J<|K (bS hI)<|bO<|am<|br (k:=11) J fun hN=>bP ?_;refine aN (iw (hg:=fun ls i=>(a1.drop i=ls)/\gX b ls i=some R) (Of:=fun _ i=>[]) (Gf:=fun _ i=>[(0,eE (hf) a1),(1,eE (hf) b),(12,f6 a1),(13,bX (i:Int))]) (fun i h=>?_) (fun e tl ih i h=>?_) a1 0 ⟨J,h⟩) (bk J)
  ·obtain⟨I,h⟩:=h
   exact dt I J<|au<|T<|cu<|cU<|so h▸bl J J
  ·obtain⟨I,h⟩:=h
   refine dr I J<|aF<|am<|aW J<|aP J<|aF<|cq h fun e1 q_e1 h=>cq h fun r q_r h=>?_
   refine eC (ts:=[_,_,_,_,_,_,_,_,_,_]) mixed J J
    ⟨gK J J,
    ⟨gK J J,
    ⟨eI 16 0 17 1 J J J (DV gx aL J J J (dm I)),
    ⟨ga 2 aL J J,
    ⟨gK J J,
    ⟨gK J J,
    ⟨eI 20 4 21 5 J J J (DV gx aL J J J q_e1),
    ⟨ga 6 aL J J,
    ⟨eI 19 3 23 7 J J J (cg HC (CY _ _ q_r) ⟨(D J),(D J),aX⟩),
    ⟨dg 24 8 J J (fV (D J)),
    aX⟩⟩⟩⟩⟩⟩⟩⟩⟩⟩ ?_
   refine au<|jH h J (fun h=>?_) (fun h=>?_)
   ·exact T<|cu<|cU<|cZ<|ak<|cZ<|so h▸bl J J
   ·refine bH<|cP I hN J ?_;exact aY (aN (ih (i+1) ⟨cI I,h⟩) (bk J))

def Hq l lefts outer{R}(h:ki l lefts outer=some R):cj bf 3 [eE (hf) l,jT lefts,ec outer] (ec R):=by
 refine de Tryz.func3 J<|T<|cu<|bO<|ba<|da h cb6 Hk trivial fun r h=>K (fV (D J))<|cw h J (fun h=>?_) (fun h=>?_)
 ·exact T<|cu<|cU<|ak<|so h▸bl J J
 ·refine gg<|ba<|bg J<|cM gx J<|K (bS hI)<|bO ?_;refine sJ (hg:=iN=some R) (Of:=[]) (Gf:=[]) (fun h=>?_) (fun ae=>?_)
  ·skip
   exact au<|T<|cu<|cU<|so h▸bl J J
  ·skip
   refine br (k:=21) J fun hN=>bP ?_;refine aN (iw (hg:=fun ls i=>(l.drop i=ls)/\dx lefts outer ls i=some R) (Of:=fun _ i=>[]) (Gf:=fun _ i=>[(1,jT lefts),(2,ec outer),(21,eE (hf) l),(22,f6 l),(23,bX (i:Int))]) (fun i h=>?_) (fun e tl ih i h=>?_) l 0 ⟨J,h⟩) (bk J)
   ·obtain⟨I,h⟩:=h
    refine dt I J ?_;exact bY (ae h) trivial
   ·obtain⟨I,h⟩:=h
    refine dr I J<|aF<|am<|aW J<|ej gx aL J (dm I)<|av aL bU J fun b=>f9 J<|aR aL aa J<|aB 8 J<|bO<|aF ?_;refine aW J<|cb J<|cw h J (fun h=>?_) (fun h=>?_)
    ·refine d8<|ax<|bA J<|ax<|ax<|cE ?_;exact bY (ae h) trivial
    ·refine gg<|T<|bn aL J<|da h cb7 (Hj _) (bQ J) fun r1 h=>av aL bU J fun b1=>aR aL aa J<|aB 9 J<|bO<|aW J<|cM ed J<|K (bS hI)<|bO ?_;refine sJ (hg:=iM (dx lefts outer tl) i=some R) (Of:=[]) (Gf:=[(1,jT lefts),(2,ec outer),(21,eE (hf) l),(22,f6 l),(23,bX (i:Int))]) (fun h=>?_) (fun K1=>?_)
     ·skip
      refine cP I hN J ?_;exact aY (aN (ih (i+1) ⟨cI I,h⟩) (bk J))
     ·skip
      refine br (k:=32) J fun hN1=>bP ?_;refine aN (iw (hg:=fun ls1 i1=>(lefts.drop i1=ls1)/\dw outer (dx lefts outer tl) i r1 ls1 i1=some R) (Of:=fun _ i1=>[]) (Gf:=fun _ i1=>[(1,jT lefts),(2,ec outer),(9,bp hf r1),(21,eE (hf) l),(22,f6 l),(23,bX (i:Int)),(32,jT lefts),(33,f6 lefts),(34,bX (i1:Int))]) (fun i1 h=>?_) (fun e1 tl1 ih1 i1 h=>?_) lefts 0 ⟨J,h⟩) (bk J)
      ·obtain⟨hx1,h⟩:=h
       refine dt hx1 J ?_;exact bY (K1 h) (bk J)
      ·obtain⟨hx1,h⟩:=h
       refine dr hx1 J<|aF<|am<|aW J<|ej ed bR J (dm hx1)<|f9 J<|aP J<|ba ?_;refine bg J<|cb J<|cw h J (fun h=>?_) (fun h=>?_)
       ·refine d8<|ax<|bA J<|ax<|ax<|cE ?_;exact bY (K1 h) (bk J)
       ·refine gg<|T<|bn aL J<|bg J<|bg J<|da h cb8 (Hh _ _ _) (bQ J) fun r2 h=>bg J<|bM J J<|bM J J<|bM J J<|bM J J<|f9 J<|f9 J<|f9 J<|aP J<|am<|T<|bn aL J ?_;refine da h cb9 (G8 _) (bQ J) fun r3 h=>K (fV (D J))<|aP J<|jH h J (fun h=>?_) (fun h=>?_)
        ·refine aW J<|gk J<|bg J<|aV J (cB J)<|aV J (i5 gx J)<|aV J (cB J)<|aV J (i5 gx J)<|aV J (fun Z=>eh (ca J Z) (ca J Z))<|aV J (cB J)<|aV J (i5 gx J)<|aV J (fun Z=>eh (ca J Z) (ca J Z))<|aV J (pu J)<|fg J<|cw h J (fun h=>?_) (fun h=>?_)
         ·exact T<|cu<|cU<|jG<|cZ<|ak<|jG<|cZ<|ak<|cZ<|so h▸bl J J
         ·refine bH<|aO<|cP hx1 hN1 J ?_;exact aY (aN (ih1 (i1+1) ⟨cI hx1,h⟩) (bk J))
        ·refine aW J<|K (eO (D J) hI)<|bg J<|aV J (cB J)<|aV J (fun Z=>mf (ca J Z) hI)<|fg J<|aP J<|jH h J (fun h=>?_) (fun h=>?_)
         ·refine aW J<|gk J<|bg J<|aV J (cB J)<|aV J (i5 gx J)<|aV J (cB J)<|aV J (i5 gx J)<|aV J (fun Z=>eh (ca J Z) (ca J Z))<|aV J (cB J)<|aV J (i5 gx J)<|aV J (fun Z=>eh (ca J Z) (ca J Z))<|aV J (pu J)<|fg J<|cw h J (fun h=>?_) (fun h=>?_)
          ·exact T<|cu<|cU<|jG<|cZ<|ak<|jG<|cZ<|ak<|cZ<|so h▸bl J J
          ·refine bH<|aO<|cP hx1 hN1 J ?_;exact aY (aN (ih1 (i1+1) ⟨cI hx1,h⟩) (bk J))
         ·refine T<|bn aL J<|bg J<|bg J<|da h Jh (Gp _ _ _) (bQ J) fun r4 h=>bg J<|bM J J<|bM J J<|bM J J<|f9 J<|f9 J<|aP J<|aW J<|gk J<|bg J<|cq h fun t q_t h=>aV J (cB J)<|aV J (cB J) ?_
          obtain⟨r5,h1t,h0t⟩:=og q_t
          have q_r5g:=fun V=>(h1t V).1
          refine aV J (fun Z=>cg GC (zR _ _ (q_r5g Z)) ⟨(ca J Z),(ca J Z),aX⟩)<|aV J (pt J)<|K (jk (D J) (fun V=>(ca J (sw V))) (fun V=>(h1t V).2) h0t)<|bg J<|cq h fun t1 q_t1 h=>aV J (cB J)<|aV J (cB J) ?_
          obtain⟨r6,h1t1,h0t1⟩:=og q_t1
          have q_r6g:=fun V=>(h1t1 V).1
          refine aV J (fun Z=>cg GC (zR _ _ (q_r6g Z)) ⟨(ca J Z),(ca J Z),aX⟩)<|aV J (pt J)<|K (jk (D J) (fun V=>(ca J (sw V))) (fun V=>(h1t1 V).2) h0t1)<|bg J<|cq h fun t2 q_t2 h=>aV J (cB J)<|aV J (cB J) ?_
          obtain⟨r7,h1t2,h0t2⟩:=og q_t2
          have q_r7g:=fun V=>(h1t2 V).1
          refine aV J (fun Z=>cg GC (zR _ _ (q_r7g Z)) ⟨(ca J Z),(ca J Z),aX⟩)<|aV J (pt J)<|K (jk (D J) (fun V=>(ca J (sw V))) (fun V=>(h1t2 V).2) h0t2)<|cw h J (fun h=>?_) (fun h=>?_)
          ·exact T<|cu<|cU<|jG<|cZ<|ak<|jG<|cZ<|ak<|cZ<|so h▸bl J J
          ·refine bH<|aO<|cP hx1 hN1 J ?_;exact aY (aN (ih1 (i1+1) ⟨cI hx1,h⟩) (bk J))

end Go.Proofs.YtbmmihfagmchaaaGreat

