/- db of this claim: P2. -/
import Derived.Test.YtbmmihfagmchaaaGreatRaT
import Derived.Test.YtbmmihfagmchaaaGreatRaP1
set_option linter.all false
namespace Go.Proofs.YtbmmihfagmchaaaGreat
open Go
set_option maxRecDepth 100000

def AG e kinds{R}(h:pG e kinds=some R):cj bf 129 [X hf e,jT kinds] (ec R):=by
 refine de Tryz.func129 J<|T<|cA J<|cu<|bO<|T<|bn aL J<|bg J<|da h Dj (xf _ _) (bQ J) fun r h=>bg J<|bM J J<|bM J J<|f9 J<|aP J<|aW J<|cb J ?_;exact bg J<|aI J (cB J)<|aI J (i6 J)<|aI J (rf J)<|kV J J J J (fun Z=>jJ J)<|kV J J J J (fun Z=>fF (ca J Z) hI)<|aI J (fun Z=>oh (ca J Z) (fun V=>(ca J (xo Z (sw V)))))<|dq J<|bt J<|so h▸bl J J

def Hf(b:Nat)(ix:OI) c n{R}(h:ig c n=some R):df bf 92 [tV (aq b 0),X ap n] (cS b c ix) (fun _:OI=>tT [jT R.1,ec R.2]) (fun _=>(cS b c ix)):=by
 refine df.of Tryz.func92 J J J fun w0 S0=>?_;refine(show CG _ _ _ [bx (rH aZ [(1,aM (ix.h 0).1 (ix.h 0).2 c.kinds.length),(2,aM (ix.h 1).1 (ix.h 1).2 c.first.length)]) 102 b c,tip lK 23 (ix.h 0).1 (ix.h 0).2 c.kinds,tip ce 3 (ix.h 1).1 (ix.h 1).2 c.first] _ from ?_);refine T<|cA J<|gb ce<|cu<|bO<|aF<|cq h fun e q_e h=>cq h fun e1 q_e1 h=>cq h fun r q_r h=>?_
 refine eC (ts:=[_,_,_,_,_,_,_,_,_,_,_,_,_,_,_,_,_,_,_]) mixed J J
  ⟨gK J J,
  ⟨dg 7 0 J J (eK (D J)),
  ⟨dg 8 1 J J (pr 1 iX J J J),
  ⟨dg 9 2 J J (eg mN J (.head _) (.tail _ (.head _)) (D J)),
  ⟨lV 3 J J (jK g9 dI J J),
  ⟨ga 4 bR J J,
  ⟨eI 10 3 12 5 J J J (bj oy dJ J (i7 (D J)) (D J) q_e),
  ⟨ga 6 dJ J J,
  ⟨gK J J,
  ⟨dg 15 8 J J (eK (D J)),
  ⟨dg 16 9 J J (pr 1 iX J J J),
  ⟨dg 17 10 J J (eg mN J (.head _) (.tail _ (.head _)) (D J)),
  ⟨lV 3 J J (jK mo io J J),
  ⟨ga 12 bR J J,
  ⟨eI 18 11 20 13 J J J (bj oy dJ J (i7 (D J)) (D J) q_e1),
  ⟨ga 14 dJ J J,
  ⟨eI 14 7 22 15 J J J (aQ (r:=r8) (ys:=[e,e1]) (xs:=[.tmp 14,.tmp 22]) oy dJ J J J J J ⟨(D J),(D J),aX⟩),
  ⟨dg 23 16 J J (cg HW (ED _ q_r) ⟨(D J),aX⟩),
  ⟨dg 24 17 J J (re J),
  aX⟩⟩⟩⟩⟩⟩⟩⟩⟩⟩⟩⟩⟩⟩⟩⟩⟩⟩⟩ ?_
 exact au<|aW J<|bw jS eq aL J<|bg J<|da h Fk (AG _ _) (bQ J) fun r1 h=>f9 J<|bt J<|aA<|aA<|aA<|so h▸fZ (ts:=[jT r,ec r1]) (rvs:=[.tmp 4,.tmp 5]) J J ⟨aS J,aS J,aX⟩ nh J J

def He(b:Nat)(ix:OI) c n{R}(h:gr c n=some R):df bf 93 [tV (aq b 0),X ap n] (cS b c ix) (fun _:OI=>tT [jT R.1,ec R.2]) (fun _=>(cS b c ix)):=by
 refine df.of Tryz.func93 J J J fun w0 S0=>?_;refine(show CG _ _ _ [bx (rH aZ [(1,aM (ix.h 0).1 (ix.h 0).2 c.kinds.length),(2,aM (ix.h 1).1 (ix.h 1).2 c.first.length)]) 102 b c,tip lK 23 (ix.h 0).1 (ix.h 0).2 c.kinds,tip ce 3 (ix.h 1).1 (ix.h 1).2 c.first] _ from ?_);refine T<|cA J<|gb ce<|cu<|bO<|aF<|cq h fun e q_e h=>cq h fun r q_r h=>?_
 refine eC (ts:=[_,_,_,_,_,_,_,_,_,_,_,_,_,_,_,_,_,_,_,_,_]) mixed J J
  ⟨gK J J,
  ⟨dg 6 0 J J (eK (D J)),
  ⟨dg 7 1 J J (pr 1 iX J J J),
  ⟨dg 8 2 J J (eg mN J (.head _) (.tail _ (.head _)) (D J)),
  ⟨lV 3 J J (jK g9 dI J J),
  ⟨ga 4 bR J J,
  ⟨eI 9 3 11 5 J J J (bj oy dJ J (i7 (D J)) (D J) q_e),
  ⟨ga 6 dJ J J,
  ⟨lV 3 J J (jK jS eq J J),
  ⟨ga 8 aL J J,
  ⟨gK J J,
  ⟨dg 16 10 J J (eK (D J)),
  ⟨dg 17 11 J J (pr 1 iX J J J),
  ⟨dg 18 12 J J (eg mN J (.head _) (.tail _ (.head _)) (D J)),
  ⟨lV 3 J J (jK g9 dI J J),
  ⟨ga 14 bR J J,
  ⟨eI 19 13 21 15 J J J (bj oy dJ J (i7 (D J)) (D J) q_e),
  ⟨ga 16 dJ J J,
  ⟨eI 15 9 23 17 J J J (cg Fk (AG _ _ q_r) ⟨(D J),(D J),aX⟩),
  ⟨dg 13 7 J J (re J),
  ⟨dg 24 18 J J (re J),
  aX⟩⟩⟩⟩⟩⟩⟩⟩⟩⟩⟩⟩⟩⟩⟩⟩⟩⟩⟩⟩⟩ ?_
 exact au<|hJ<|aA<|aA<|aA<|so h▸fZ (ts:=[jT e,ec r]) (rvs:=[.tmp 4,.tmp 5]) J J ⟨aS J,aS J,aX⟩ nh J J

def Et kinds c{R}(h:m0 kinds c=some R):cj bf 150 [bX c,bp lK kinds] (ec R):=by
 exact de Tryz.func150 J<|T<|cu<|bO<|aW J<|K (eO (D J) hI)<|bg J<|aV J (cB J)<|aV J (fun Z=>lc dJ J J)<|aV J (i5 ed J)<|aV J (fun Z=>dB (ca J Z) (ca J Z))<|fg J<|bt J<|so h▸bl J J

def EC l kinds{R}(h:ru l kinds=some R):cj bf 130 [jT l,jT kinds] (ec R):=by
 exact de Tryz.func130 J<|T<|cA J<|cu<|bO<|aW J<|K ((show bJ _ _ _ _ ((jW bf Ca qB (fun(x:Int)=>(m0 kinds) x)))from nB (cts:=[bp lK kinds]) (caps:=[.tmp 3]) HK ⟨(D J),aX⟩ (fun x y h=>Et _ _ h)))<|da h Fl (AH _ _) (bQ J) fun r h=>K (fV (D J))<|bt J<|so h▸bl J J

def EB a1 kinds{R}(h:vU a1 kinds=some R):cj bf 131 [X fm a1,jT kinds] (tT [bX R.1,ec R.2]):=by
 refine de Tryz.func131 J<|T<|cA J<|cx<|cu<|bO<|ba<|bw CN yJ bR J<|cb J<|cw h J (fun h=>?_) (fun h=>?_)
 ·refine aF ?_
  refine eC (ts:=[_,_,_,_,_,_,_]) mixed J J
   ⟨lV 2 J J (jK wZ rE J J),
   ⟨dg 11 0 J J (jK bZ bL J J),
   ⟨ga 1 ee J J,
   ⟨dg 13 2 J J (GG hM J),
   ⟨dg 14 3 J J (GJ J),
   ⟨Cd J (If),
   ⟨dg 15 4 J J (re J),
   aX⟩⟩⟩⟩⟩⟩⟩ ?_
  exact au<|hJ<|ak<|so h▸dE J J J
 ·refine gg<|T<|bw wZ rE aL J<|bg J<|da h Dj (xf _ _) (bQ J) fun r h=>bg J<|bM J J<|bM J J<|f9 J<|aP J<|ba<|bw CN yJ bR J<|bO<|am ?_;refine T<|cb J<|aP J<|jH h J (fun h=>?_) (fun h=>?_)
  ·exact aW J<|cb J<|cx<|bt J<|cZ<|so h▸dE J J J
  ·refine T<|cb J<|aP J<|jH h J (fun h=>?_) (fun h=>?_)
   ·exact aW J<|cb J<|bg J<|aI J (cB J)<|aI J (i6 J)<|aI J (rf J)<|kV J J J J (fun Z=>jJ J)<|kV J J J J (fun Z=>fF (ca J Z) hI)<|aI J (fun Z=>oh (ca J Z) (fun V=>(ca J (xo Z (sw V)))))<|dq J<|cx<|bt J<|cZ<|so h▸dE J J J
   ·refine eT (hg:=fun x=>oN r x=some R) (Of:=fun x=>[]) (Gf:=fun x=>[(6,bX r.1),(7,bX r.2),(41,ec x)]) (fun x h=>?_) (fun ae=>?_)
    ·skip
     refine jH h J (fun h=>?_) (fun h=>?_)
     ·exact aW J<|bg J<|cb J<|f9 J<|bt J<|cZ<|so h▸dE J J J
     ·exact bH<|aO<|au<|T<|cx<|cu<|cU<|so h▸dE J J J
    ·skip
     refine T<|cb J<|aP J<|jH h J (fun h=>?_) (fun h=>?_)
     ·refine bH ?_;exact bY (ae (a1.Tag==(4:Int)) h) (bk J)
     ·refine aC<|cb J<|f9 J<|bc ?_;exact bY (ae (a1.Tag==(5:Int)) h) (bk J)

def Hd(b:Nat)(ix:OI) c n{R}(h:gP c n=some R):df bf 94 [tV (aq b 0),X ap n] (cS b c ix) (fun _:OI=>tT [jT R.1,ec R.2]) (fun _=>(cS b c ix)):=by
 refine df.of Tryz.func94 J J J fun w0 S0=>?_;refine(show CG _ _ _ [bx (rH aZ [(1,aM (ix.h 0).1 (ix.h 0).2 c.kinds.length),(2,aM (ix.h 1).1 (ix.h 1).2 c.first.length)]) 102 b c,tip lK 23 (ix.h 0).1 (ix.h 0).2 c.kinds,tip ce 3 (ix.h 1).1 (ix.h 1).2 c.first] _ from ?_);refine T<|cA J<|gb ce<|cu<|bO<|aF<|cq h fun e q_e h=>?_
 refine eC (ts:=[_,_,_,_,_,_,_,_,_]) mixed J J
  ⟨gK J J,
  ⟨dg 15 0 J J (eK (D J)),
  ⟨dg 16 1 J J (pr 1 iX J J J),
  ⟨dg 17 2 J J (eg mN J (.head _) (.tail _ (.head _)) (D J)),
  ⟨lV 3 J J (jK g9 dI J J),
  ⟨ga 4 bR J J,
  ⟨eI 18 3 20 5 J J J (bj oy dJ J (i7 (D J)) (D J) q_e),
  ⟨ga 6 dJ J J,
  ⟨dg 22 7 J J (re J),
  aX⟩⟩⟩⟩⟩⟩⟩⟩⟩ ?_
 refine au<|T<|bw oT kl dJ J<|cM ed J<|K (iK (D J) hI)<|bg J<|aI J (dv n7 m7 J J)<|aI J (du vo J J)<|aI J (i5 tJ J)<|aI J (fun Z=>iK (ca J Z) hI)<|dq J<|bg J<|aI J (dv oT kl J J)<|aI J (du dJ J J)<|aI J (i5 ed J)<|aI J (dv n7 m7 J J)<|aI J (du vo J J)<|aI J (i5 tJ J)<|aI J (fun Z=>eh (ca J Z) (ca J Z))<|aI J (fun Z=>mf (ca J Z) hI)<|dq J<|bg J ?_;refine cq h fun t q_t h=>aI J (dv oT kl J J)<|aI J (du dJ J J)<|aI J (cB J) ?_
 obtain⟨r,h1t,h0t⟩:=og q_t
 have q_rg:=fun V=>(h1t V).1
 refine aI J (fun Z=>cg HV (EC _ _ (q_rg Z)) ⟨(ca J Z),(ca J Z),aX⟩)<|K (ef (D J) (fun V=>(ca J V)) (fun V=>(h1t V).2) h0t)<|aP J<|ba<|bg J<|K (fV (D J))<|cw h J (fun h=>?_) (fun h=>?_)
 ·exact T<|gb ce<|cu<|cU<|ak<|aA<|aA<|aA<|so h▸fZ (ts:=[jT ([]),ec false]) (rvs:=[.tmp 4,.tmp 5]) J J ⟨aS J,aS J,aX⟩ nh J J
 ·refine gg<|T<|bE false ce 3<|K (bF pl)<|bO<|ba<|bw oT kl dJ J<|cM ed J<|K (bS hI)<|bO<|am<|br (k:=52) J fun hN=>bP ?_;refine aN (kY (hg:=fun ls i out l c1=>(n.Keys.drop i=ls)/\ij n e t ls out=some R) (Of:=fun _ i out l c1=>[dX ce 3 l c1 out,bx (rH aZ [(1,aM (ix.h 0).1 (ix.h 0).2 c.kinds.length),(2,aM (ix.h 1).1 (ix.h 1).2 c.first.length)]) 102 b c,tip lK 23 (ix.h 0).1 (ix.h 0).2 c.kinds,tip ce 3 (ix.h 1).1 (ix.h 1).2 c.first]) (Gf:=fun _ i out l c1=>[(3,bp ap n),(6,jT e),(7,ec t),(8,n9 l c1 out),(52,jT n.Keys),(53,f6 n.Keys),(54,bX (i:Int))]) (fun i out l c1 h=>?_) (fun e1 tl ih i out l c1 h=>?_) n.Keys 0 tg none 0 ⟨J,h⟩) (bk J)
  ·obtain⟨I,h⟩:=h
   refine dt I J<|au<|ba<|bw n7 m7 vo J<|cM tJ J<|K (bS hI)<|bO<|am<|br (k:=67) J fun hN1=>?_;refine bP ?_;refine aN (j8 (hg:=fun ls1 i1 out1 l1 c2 ok=>(n.Aggs.drop i1=ls1)/\ii e ls1 out1 ok=some R) (Of:=fun _ i1 out1 l1 c2 ok=>[dX ce 3 l1 c2 out1,bx (rH aZ [(1,aM (ix.h 0).1 (ix.h 0).2 c.kinds.length),(2,aM (ix.h 1).1 (ix.h 1).2 c.first.length)]) 102 b c,tip lK 23 (ix.h 0).1 (ix.h 0).2 c.kinds,tip ce 3 (ix.h 1).1 (ix.h 1).2 c.first]) (Gf:=fun _ i1 out1 l1 c2 ok=>[(6,jT e),(7,ec ok),(8,n9 l1 c2 out1),(67,eE (fm) n.Aggs),(68,f6 n.Aggs),(69,bX (i1:Int))]) (fun i1 out1 l1 c2 ok h=>?_) (fun e2 tl1 ih1 i1 out1 l1 c2 ok h=>?_) n.Aggs 0 out l c1 t ⟨J,h⟩) (bk J)
   ·obtain⟨hx1,h⟩:=h
    refine dt hx1 J<|au<|aW J<|bg J<|f9 J<|bt J<|kx<|dz 8 J ?_;exact dz 88 J<|dz 4 J<|iG 4 J<|aH<|aA<|aA<|aA<|so h▸fZ (ts:=[jT out1,ec ok]) (rvs:=[.tmp 4,.tmp 5]) J J ⟨aS J,aS J,aX⟩ nh J J
   ·obtain⟨hx1,h⟩:=h
    refine dr hx1 J<|aF<|am<|T<|ej tJ xQ J (dm hx1)<|av xQ Fs J fun b1=>aR xQ aa J<|aB 12 J<|bO<|T<|bn xQ J ?_;refine bg J<|da h HU (EB _ _) (bQ J) fun r1 h=>bg J<|bM J J<|bM J J<|f9 J<|aP J<|aC<|bg J<|bg J<|K (aQ (r:=ce) (ys:=[r1.1]) (xs:=[.tmp 80]) ed bR J J J J J ⟨(D J),aX⟩)<|cq h fun out2 q_out2 h=>dd bR J J J J ed J J (D J) (D J) q_out2 fun l2 c3=>bg J<|bg J<|aI J (cB J)<|dq J<|f9 J<|f9 J<|bc<|aO ?_;refine au<|aC<|K (Ie (AJ hx1 hN1) J)<|bg J<|bc ?_;exact aY (aN (ih1 (i1+1) out2 l2 c3 (ok&&r1.2) ⟨cI hx1,h⟩) (bk J))
  ·obtain⟨I,h⟩:=h
   refine dr I J<|aF<|am<|T<|ej ed bR J (dm I)<|aP J<|aC<|bg J<|bg J<|bg J<|cq h fun e3 q_e3 h=>?_;refine ej ed bR J q_e3<|K (aQ (r:=ce) (ys:=[e3]) (xs:=[.tmp 62]) ed bR J J J J J ⟨(D J),aX⟩)<|cq h fun out3 q_out3 h=>dd bR J J J J ed J J (D J) (D J) q_out3 fun l3 c4=>f9 J<|bc<|cP I hN J ?_;exact aY (aN (ih (i+1) out3 l3 c4 ⟨cI I,h⟩) (bk J))

def Hc(b:Nat)(ix:OI) c n{R}(h:f7 c n=some R):df bf 95 [tV (aq b 0),X ap n] (cS b c ix) (fun _:OI=>tT [jT R.1,ec R.2]) (fun _=>(cS b c ix)):=by
 refine df.of Tryz.func95 J J J fun w0 S0=>?_;refine(show CG _ _ _ [bx (rH aZ [(1,aM (ix.h 0).1 (ix.h 0).2 c.kinds.length),(2,aM (ix.h 1).1 (ix.h 1).2 c.first.length)]) 102 b c,tip lK 23 (ix.h 0).1 (ix.h 0).2 c.kinds,tip ce 3 (ix.h 1).1 (ix.h 1).2 c.first] _ from ?_);refine T<|cA J<|gb ce<|cu<|bO<|T<|bw kO gF dC J<|cM gx J<|K (dB (D J) hI)<|bg J<|aI J (dv kO gF J J)<|aI J (du dC J J)<|aI J (i5 gx J)<|aI J (fun Z=>iK (ca J Z) hI)<|dq J<|aP J<|T ?_;refine bE false ce 3<|K (bF pl)<|bO<|ba<|bw kO gF dC J<|cM gx J<|K (bS hI)<|bO<|am<|br (k:=23) J fun hN=>bP ?_;refine aN (j8 (hg:=fun ls i out l c1 ok=>(n.Items.drop i=ls)/\gE c n ls out ok=some R) (Of:=fun _ i out l c1 ok=>[dX ce 3 l c1 out,bx (rH aZ [(1,aM (ix.h 0).1 (ix.h 0).2 c.kinds.length),(2,aM (ix.h 1).1 (ix.h 1).2 c.first.length)]) 102 b c,tip lK 23 (ix.h 0).1 (ix.h 0).2 c.kinds,tip ce 3 (ix.h 1).1 (ix.h 1).2 c.first]) (Gf:=fun _ i out l c1 ok=>[(0,tV (aq b 0)),(3,bp ap n),(6,ec ok),(7,n9 l c1 out),(23,eE (hf) n.Items),(24,f6 n.Items),(25,bX (i:Int))]) (fun i out l c1 ok h=>?_) (fun e tl ih i out l c1 ok h=>?_) n.Items 0 tg none 0 ((decide ((1:Int)<=(n.Items.length:Int)))&&(decide ((n.Items.length:Int)<=(16:Int)))) ⟨J,h⟩) (bk J)
 ·obtain⟨I,h⟩:=h
  refine dt I J<|au<|aW J<|bg J<|f9 J<|bt J<|kx<|dz 7 J ?_;exact dz 52 J<|dz 4 J<|iG 4 J<|aH<|aA<|aA<|aA<|so h▸fZ (ts:=[jT out,ec ok]) (rvs:=[.tmp 4,.tmp 5]) J J ⟨aS J,aS J,aX⟩ nh J J
 ·obtain⟨I,h⟩:=h
  refine dr I J<|aF<|am<|T<|ej gx aL J (dm I)<|av aL bU J fun b1=>aR aL aa J<|aB 9 J<|bO<|aF<|cq h fun e1 q_e1 h=>cq h fun r q_r h=>?_
  refine eC (ts:=[_,_,_,_,_,_,_,_,_,_,_,_,_,_,_]) mixed J J
   ⟨lV 9 J J (lc aL J J),
   ⟨gK J J,
   ⟨dg 31 1 J J (eK (D J)),
   ⟨dg 32 2 J J (pr 1 iX J J J),
   ⟨dg 33 3 J J (eg mN J (.tail _ (.head _)) (.tail _ (.tail _ (.head _))) (D J)),
   ⟨lV 3 J J (jK g9 dI J J),
   ⟨ga 5 bR J J,
   ⟨eI 34 4 36 6 J J J (bj oy dJ J (i7 (D J)) (D J) q_e1),
   ⟨ga 7 dJ J J,
   ⟨eI 30 0 38 8 J J J (cg Dj (xf _ _ q_r) ⟨(D J),(D J),aX⟩),
   ⟨dg 39 9 J J (jJ J),
   ⟨dg 29 10 J J (vc J J),
   ⟨dg 29 10 J J (vc J J),
   ⟨dg 40 11 J J (re J),
   ⟨dg 41 12 J J (re J),
   aX⟩⟩⟩⟩⟩⟩⟩⟩⟩⟩⟩⟩⟩⟩⟩ ?_
  refine au<|aC<|bg J<|bg J<|K (aQ (r:=ce) (ys:=[r.1]) (xs:=[.tmp 43]) ed bR J J J J J ⟨(D J),aX⟩)<|cq h fun out1 q_out1 h=>dd bR J J J J ed J J (D J) (D J) q_out1 fun l1 c2=>bg J<|bg J<|aI J (cB J)<|aI J (i6 J)<|dq J<|f9 J<|f9 J<|bc<|cP I hN J ?_;exact aY (aN (ih (i+1) out1 l1 c2 (ok&&(r.2==(0:Int))) ⟨cI I,h⟩) (bk J))

def Hb(b:Nat)(ix:OI) c n{R}(h:fG c n=some R):df bf 96 [tV (aq b 0),X ap n] (cS b c ix) (fun _:OI=>tT [jT R.1,ec R.2]) (fun _=>(cS b c ix)):=by
 refine df.of Tryz.func96 J J J fun w0 S0=>?_;refine(show CG _ _ _ [bx (rH aZ [(1,aM (ix.h 0).1 (ix.h 0).2 c.kinds.length),(2,aM (ix.h 1).1 (ix.h 1).2 c.first.length)]) 102 b c,tip lK 23 (ix.h 0).1 (ix.h 0).2 c.kinds,tip ce 3 (ix.h 1).1 (ix.h 1).2 c.first] _ from ?_);refine T<|cA J<|gb ce<|cu<|bO<|aF<|cq h fun e q_e h=>?_
 refine eC (ts:=[_,_,_,_,_,_,_,_,_,_]) mixed J J
  ⟨gK J J,
  ⟨dg 6 0 J J (eK (D J)),
  ⟨dg 7 1 J J (pr 1 iX J J J),
  ⟨dg 8 2 J J (eg mN J (.head _) (.tail _ (.head _)) (D J)),
  ⟨lV 3 J J (jK g9 dI J J),
  ⟨ga 4 bR J J,
  ⟨eI 9 3 11 5 J J J (bj oy dJ J (i7 (D J)) (D J) q_e),
  ⟨ga 6 dJ J J,
  ⟨dg 13 7 J J (re J),
  ⟨Cd J (Ig),
  aX⟩⟩⟩⟩⟩⟩⟩⟩⟩⟩ ?_
 exact au<|hJ<|aA<|aA<|aA<|so h▸fZ (ts:=[jT e,ec true]) (rvs:=[.tmp 4,.tmp 5]) J J ⟨aS J,aS J,aX⟩ nh J J

def Ha(b:Nat)(ix:OI) c n{R}(h:gN c n=some R):df bf 97 [tV (aq b 0),X ap n] (cS b c ix) (fun _:OI=>tT [jT R.1,ec R.2]) (fun _=>(cS b c ix)):=by
 refine df.of Tryz.func97 J J J fun w0 S0=>?_;refine(show CG _ _ _ [bx (rH aZ [(1,aM (ix.h 0).1 (ix.h 0).2 c.kinds.length),(2,aM (ix.h 1).1 (ix.h 1).2 c.first.length)]) 102 b c,tip lK 23 (ix.h 0).1 (ix.h 0).2 c.kinds,tip ce 3 (ix.h 1).1 (ix.h 1).2 c.first] _ from ?_);refine T<|cA J<|gb ce<|cu<|bO<|aF<|cq h fun e q_e h=>cq h fun e1 q_e1 h=>?_
 refine eC (ts:=[_,_,_,_,_,_,_,_,_,_,_,_,_,_,_,_,_,_]) mixed J J
  ⟨gK J J,
  ⟨dg 12 0 J J (eK (D J)),
  ⟨dg 13 1 J J (pr 1 iX J J J),
  ⟨dg 14 2 J J (eg mN J (.head _) (.tail _ (.head _)) (D J)),
  ⟨lV 3 J J (jK g9 dI J J),
  ⟨ga 4 bR J J,
  ⟨eI 15 3 17 5 J J J (bj oy dJ J (i7 (D J)) (D J) q_e),
  ⟨ga 6 dJ J J,
  ⟨gK J J,
  ⟨dg 20 8 J J (eK (D J)),
  ⟨dg 21 9 J J (pr 1 iX J J J),
  ⟨dg 22 10 J J (eg mN J (.head _) (.tail _ (.head _)) (D J)),
  ⟨lV 3 J J (jK mo io J J),
  ⟨ga 12 bR J J,
  ⟨eI 23 11 25 13 J J J (bj oy dJ J (i7 (D J)) (D J) q_e1),
  ⟨ga 14 dJ J J,
  ⟨dg 19 7 J J (re J),
  ⟨dg 27 15 J J (re J),
  aX⟩⟩⟩⟩⟩⟩⟩⟩⟩⟩⟩⟩⟩⟩⟩⟩⟩⟩ ?_
 refine au<|ba<|bg J<|cM ed J<|bg J<|cM ed J<|K (ia (D J) (D J))<|cw h J (fun h=>?_) (fun h=>?_)
 ·exact T<|gb ce<|cu<|cU<|ak<|aA<|aA<|aA<|so h▸fZ (ts:=[jT ([]),ec false]) (rvs:=[.tmp 4,.tmp 5]) J J ⟨aS J,aS J,aX⟩ nh J J
 ·refine gg<|aW J<|mM h Dh (xd _) (bQ J) fun r h l c1=>aP J<|T<|cu<|bO<|ba<|bg J<|cM ed J<|K (bS hI)<|bO<|am ?_;refine br (k:=35) J fun hN=>bP ?_;refine aN (ou (hg:=fun ls i out ok=>(e1.drop i=ls)/\ep ls i out ok=some R) (Of:=fun _ i out ok=>[dX ce 3 l c1 out,bx (rH aZ [(1,aM (ix.h 0).1 (ix.h 0).2 c.kinds.length),(2,aM (ix.h 1).1 (ix.h 1).2 c.first.length)]) 102 b c,tip lK 23 (ix.h 0).1 (ix.h 0).2 c.kinds,tip ce 3 (ix.h 1).1 (ix.h 1).2 c.first]) (Gf:=fun _ i out ok=>[(8,n9 l c1 out),(9,ec ok),(35,jT e1),(36,f6 e1),(37,bX (i:Int))]) (fun i out ok h=>?_) (fun e2 tl ih i out ok h=>?_) e1 0 r true ⟨J,h⟩) (bk J)
  ·obtain⟨I,h⟩:=h
   refine dt I J<|au<|aW J<|bg J<|f9 J<|bt J<|kx<|dz 8 J ?_;exact dz 65 J<|dz 4 J<|iG 4 J<|aH<|aA<|aA<|aA<|so h▸fZ (ts:=[jT out,ec ok]) (rvs:=[.tmp 4,.tmp 5]) J J ⟨aS J,aS J,aX⟩ nh J J
  ·obtain⟨I,h⟩:=h
   refine dr I J<|aF<|am<|aW J<|ej ed bR J (dm I)<|f9 J<|aP J ?_;refine eT (hg:=fun out1=>ic (ep tl) i e2 ok out1=some R) (Of:=fun out1=>[dX ce 3 l c1 out1,bx (rH aZ [(1,aM (ix.h 0).1 (ix.h 0).2 c.kinds.length),(2,aM (ix.h 1).1 (ix.h 1).2 c.first.length)]) 102 b c,tip lK 23 (ix.h 0).1 (ix.h 0).2 c.kinds,tip ce 3 (ix.h 1).1 (ix.h 1).2 c.first]) (Gf:=fun out1=>[(8,n9 l c1 out1),(9,ec ok),(10,bX (i:Int)),(11,bX e2),(35,jT e1),(36,f6 e1),(37,bX (i:Int))]) (fun out1 h=>?_) (fun ae=>?_)
   ·skip
    refine aC<|bg J<|bg J<|cq h fun t q_t h=>aI J (cB J)<|aI J (cB J) ?_
    obtain⟨e3,h1t,h0t⟩:=og q_t
    have q_e3g:=fun V=>(h1t V).1
    refine aI J (fun Z=>bI ed bR (.head _) (ca J Z) (ca J Z) (q_e3g Z))<|aI J (fun Z=>cD (r:=ce) (i:=(i:Int)) (foff:=0) bR J J bC J (.head _) (q_e3g Z) (ca J Z))<|aI J (cB J)<|aI J (fun Z=>fF (ca J Z) (ca J Z))<|aI J (rf J)<|kV J J J J (fun Z=>jJ J)<|kV J J J J (fun Z=>fF (ca J Z) hI)<|aI J (fun Z=>oh (ca J Z) (fun V=>(ca J (xo Z (sw V)))))<|K (ef (D J) (fun V=>(ca J V)) (fun V=>(h1t V).2) h0t)<|f9 J<|bc<|cP I hN J ?_;exact aY (aN (ih (i+1) out1 t ⟨cI I,h⟩) (bk J))
   ·skip
    refine aW J<|bg J<|cq h fun e4 q_e4 h=>K (bI ed bR (.head _) (D J) (D J) q_e4)<|K (cD (r:=ce) (i:=(i:Int)) (foff:=0) bR J J bC J (.head _) q_e4 (D J))<|cb J<|cw h J (fun h=>?_) (fun h=>?_)
    ·refine aC<|bg J<|bg J<|bg J<|K (bI ed bR (.head _) (D J) (D J) q_e4)<|cq h fun st q_st h=>jA bR J aa J q_e4 (so q_st) (D J) (D J)<|eS (dM (so q_st)) 8 J<|eS (dM (so q_st)) 42 J<|eS (dM (so q_st)) 47 J<|bc ?_;exact bY (ae st h) (bk J)
    ·refine bH ?_;exact bY (ae out h) (bk J)

def EA in1 o{R}(h:iL in1 o=some R):cj bf 133 [X gT o,bp lK in1] (ec R):=by
 exact de Tryz.func133 J<|T<|cA J<|cu<|bO<|T<|bw CM yI bR J<|K (eO (D J) hI)<|bg J<|aV J (dv CM yI J J)<|aV J (du bR J J)<|aV J (fun Z=>lc dJ J J)<|aV J (i5 ed J)<|aV J (fun Z=>dB (ca J Z) (ca J Z))<|fg J<|bt J<|so h▸bl J J

def Ep s f{R}(h:gn s f=some R):cj bf 153 [eE (gT) s,(jW bf Cb qB (fun(x:ne)=>f x))] (bX R):=by
 refine de Tryz.func153 J<|T<|cx<|bO<|ba<|bg J<|cM y9 J<|K (bS hI)<|bO<|am<|br (k:=6) J fun hN=>bP ?_;refine aN (iw (hg:=fun ls i=>(s.drop i=ls)/\dY f ls i=some R) (Of:=fun _ i=>[]) (Gf:=fun _ i=>[(0,eE (gT) s),(1,(jW bf Cb qB (fun(x:ne)=>f x))),(7,f6 s),(8,bX (i:Int))]) (fun i h=>?_) (fun e tl ih i h=>?_) s 0 ⟨J,h⟩) (bk J)
 ·obtain⟨I,h⟩:=h
  exact dt I J<|au<|T<|dh<|so h▸bl J J
 ·obtain⟨I,h⟩:=h
  refine dr I J<|aF<|am<|aW J<|aP J<|aW J<|bg J<|bg J<|tW y9 DY J (dm I) ?_;refine bn DY J<|cq h fun r q_r h=>K (mZ (args:=Cb) (res:=DH) (f:=(fun(x:ne)=>f x)) (x:=((e):ne)) (D J) q_r ⟨(D J),aX⟩)<|cw h J (fun h=>?_) (fun h=>?_)
  ·exact aW J<|bt J<|cZ<|ak<|cZ<|so h▸bl J J
  ·refine bH<|cP I hN J ?_;exact aY (aN (ih (i+1) ⟨cI I,h⟩) (bk J))

end Go.Proofs.YtbmmihfagmchaaaGreat

