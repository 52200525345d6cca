/- db of this claim: P8. -/
import Derived.Test.YtbmmihfagmchaaaGreatRaT
import Derived.Test.YtbmmihfagmchaaaGreatRaP7
set_option linter.all false
namespace Go.Proofs.YtbmmihfagmchaaaGreat
open Go
set_option maxRecDepth 100000

def Ev c n parts{R}(h:qV c n parts=some R):cj bf 147 [X ai n,eE (hf) parts,bp rd c] (tT [X hf R.1,bX R.2]):=by
 refine de Tryz.func147 J<|T<|cA J<|av aL bU J fun b=>cx<|bO<|ba<|bw fW cJ bR J<|cb J<|cw h J (fun h=>?_) (fun h=>?_)
 ·exact T<|bn dC J<|bw gZ dk bR J<|cq h fun e q_e h=>tW gx aL J q_e<|bw bZ bL ee J<|mM h Ab (p9 _) (bQ J) fun r h l c1=>fi<|jp 16 J<|K (bz (y:=(⟨r⟩:af)) aL pg bU (⟨_,_,_,_,_,J,mI,J,(i7 (D J)),J⟩))<|aU<|aR aL aa J<|dh<|ak<|aG 5 J<|aH<|so h▸bv J J ⟨bb aL J J J,aS J,aX⟩
 ·exact gg<|T<|bn cO J<|bg J<|da h Fi (AE _ _) (bQ J) fun r1 h=>aR aL aa J<|dh<|aG 5 J<|so h▸bv J J ⟨bb aL J J J,aS J,aX⟩

def EG e l{R}(h:yK e l=some R):cj bf 124 [X hf e,eE (hf) l] (tT [X hf R.1,bX R.2]):=by
 refine de Tryz.func124 J<|T<|cA J<|cA J<|av aL bU J fun b=>cx<|bO<|T<|bn aL J<|eJ (r:=hf) (ys:=[e]) (xs:=[.tmp 14]) gx aL J J J J J ⟨(D J),aX⟩ J fun l1 c=>bn dC J<|cq h fun l2 q_l2 h=>dd aL J J J J gx J J (D J) (D J) q_l2 fun l3 c1=>fi<|jp 17 J<|da h Fj (AF _) ⟨(i7 (D J)),aX⟩ fun r h=>bg J<|bM J J<|bM J J<|f9 J ?_;refine aP J<|ba<|bg J<|gk J<|cw h J (fun h=>?_) (fun h=>?_)
 ·exact T<|K (bz aL pg bU J)<|bg J<|aU<|aR aL aa J<|bt J<|ak<|aG 4 J<|aH<|so h▸bv J J ⟨bb aL J J J,aS J,aX⟩
 ·refine gg<|ba<|bn aL J<|mM h Gw (xc _) (bQ J) fun r1 h l4 c2=>K (dD ed (.head _) (D J))<|K (bS hI)<|bO<|am<|d7 (.head _) fun hN=>bP<|cr<|jD ?_;refine aN (gv (hg:=fun ls i x=>(r1.drop i=ls)/\pO e l ls x=some R) (Of:=fun _ i x=>[dX ce 3 l4 c2 r1,bx hf 27 b x]) (Gf:=fun _ i x=>[(2,bp hf e),(3,bp rd l),(4,tV (aq b 0)),(26,n9 l4 c2 r1),(27,f6 r1),(28,bX (i:Int))]) (fun i x h=>?_) (fun e1 tl ih i x h=>?_) r1 0 fQ ⟨J,h⟩) (bk J)
  ·obtain⟨I,h⟩:=h
   refine dt I J<|au<|T<|cx<|bO<|ba<|bw bZ bL ee J<|cM hM J ?_;refine K (bS hI)<|bO<|am<|br (k:=39) J fun hN1=>bP<|jD ?_;refine aN (gv (hg:=fun ls1 i1 n=>(e.Nodes.drop i1=ls1)/\nM e l ls1 n=some R) (Of:=fun _ i1 n=>[bx hf 27 b x]) (Gf:=fun _ i1 n=>[(2,bp hf e),(3,bp rd l),(4,tV (aq b 0)),(10,bX n),(39,eE (ai) e.Nodes),(40,f6 e.Nodes),(41,bX (i1:Int))]) (fun i1 n h=>?_) (fun e2 tl1 ih1 i1 n h=>?_) e.Nodes 0 (0:Int) ⟨J,h⟩) (bk J)
   ·obtain⟨hx1,h⟩:=h
    refine dt hx1 J<|au<|ba<|bg J<|K (mf (D J) hI)<|cw h J (fun h=>?_) (fun h=>?_)
    ·exact T<|K (bz aL pg bU J)<|aR aL aa J<|dh<|ak<|aG 4 J<|so h▸bv J J ⟨bb aL J J J,aS J,aX⟩
    ·exact gg<|T<|bn aL J<|K ((show bJ _ _ _ _ ((jW bf DP DM (fun(x:aj×(List af))=>(qV l) x.1 x.2)))from nB (cts:=[bp rd l]) (caps:=[.tmp 3]) HO ⟨(D J),aX⟩ (fun x y h=>Ev _ _ _ h)))<|da h HP (Ew _ _) (bQ J) fun r2 h=>bM J J<|bM J J<|aR aL aa J<|bt J<|aG 4 J<|so h▸bv J J ⟨bb aL J J J,aS J,aX⟩
   ·obtain⟨hx1,h⟩:=h
    refine dr hx1 J<|aF<|am<|T<|ej hM cO J (dm hx1)<|av cO dS J fun b1=>aR cO aa J<|aB 12 J<|bO<|aW J ?_;refine K (eh (D J) hI)<|aP J<|T<|bw fW cJ bR J<|cb J<|cw h J (fun h=>?_) (fun h=>?_)
    ·refine aC<|bg J<|bn dC J<|bw gZ dk bR J<|cq h fun e3 q_e3 h=>tW gx aL J q_e3<|bw bZ bL ee J<|cM hM J<|K (cY (D J) hI)<|K (eh (D J) (D J))<|f9 J<|bc<|cP hx1 hN1 J ?_;exact aY (aN (ih1 (i1+1) (IntKind.i64.wrap ((IntKind.i64.wrap (n+(1:Int)))+(IntKind.i64.wrap ((e3.Nodes.length:Int)-(1:Int))))) ⟨cI hx1,h⟩) (bk J))
    ·refine bH<|cP hx1 hN1 J ?_;exact aY (aN (ih1 (i1+1) (IntKind.i64.wrap (n+(1:Int))) ⟨cI hx1,h⟩) (bk J))
  ·obtain⟨I,h⟩:=h
   refine dr I J<|aF<|am<|T<|K (bI ed bR (.head _) (D J) (D J) (dm I))<|K (cD (r:=ce) (i:=(i:Int)) (foff:=0) bR J J bC J (.head _) (dm I) (D J))<|aP J<|aW J<|bn dC J<|cM gx J ?_;refine K (dB (D J) (D J))<|cw h J (fun h=>?_) (fun h=>?_)
   ·exact T<|K (bz aL pg bU J)<|aU<|aR aL aa J<|dh<|cZ<|ak<|cZ<|aG 4 J<|aH<|so h▸bv J J ⟨bb aL J J J,aS J,aX⟩
   ·refine bH<|cP I hN J ?_;exact aY (aN (ih (i+1) x ⟨cI I,h⟩) (bk J))

def F1 s f{R}(h:fS s f=some R):cj bf 75 [eE (hf) s,(jW bf DI qB (fun(x:af)=>f x))] (bX R):=by
 refine de Tryz.func75 J<|T<|cx<|bO<|ba<|bg J<|cM gx J<|K (bS hI)<|bO<|am<|br (k:=6) J fun hN=>bP ?_;refine aN (iw (hg:=fun ls i=>(s.drop i=ls)/\dL f ls i=some R) (Of:=fun _ i=>[]) (Gf:=fun _ i=>[(0,eE (hf) s),(1,(jW bf DI qB (fun(x:af)=>f x))),(7,f6 s),(8,bX (i:Int))]) (fun i h=>?_) (fun e tl ih i h=>?_) s 0 ⟨J,h⟩) (bk J)
 ·obtain⟨I,h⟩:=h
  exact dt I J<|au<|T<|dh<|so h▸bl J J
 ·obtain⟨I,h⟩:=h
  refine dr I J<|aF<|am<|aW J<|aP J<|aW J<|bg J<|bg J<|tW gx aL J (dm I) ?_;refine bn aL J<|cq h fun r q_r h=>K (mZ (args:=DI) (res:=DH) (f:=(fun(x:af)=>f x)) (x:=((e):af)) (D J) q_r ⟨(D J),aX⟩)<|cw h J (fun h=>?_) (fun h=>?_)
  ·exact aW J<|bt J<|cZ<|ak<|cZ<|so h▸bl J J
  ·refine bH<|cP I hN J ?_;exact aY (aN (ih (i+1) ⟨cI I,h⟩) (bk J))

def Gb s f{R}(h:fh s f=some R):cj bf 48 [eE (hf) s,(jW bf DI qB (fun(x:af)=>f x))] (ec R):=by
 exact de Tryz.func48 J<|T<|cu<|bO<|aW J<|bg J<|da h IV (F1 _ _) (bQ J) fun r h=>K (dB (D J) hI)<|bt J<|so h▸bl J J

def FX t x{R}(h:mb t x=some R):cj bf 87 [X al t,ec x] (tT [X al R.1,bX R.2]):=by
 refine de Tryz.func87 J<|T<|cA J<|av bo dn J fun b=>cx<|bO<|T<|bw iO eH pf J<|cq h fun e q_e h=>K (bj kb bo J (D J) hI q_e)<|bn bo J<|av bo dn J fun b1=>aR bo aa J<|aB 6 J<|bO<|ba<|k6 fd c9 J ?_;refine bw kP er bR J<|gk J<|bg J<|cq h fun t1 q_t1 h=>aV J (dv fd c9 J J)<|aV J (fun Z=>fE kO J gF J (ca J Z))<|aV J (du dC J J) ?_
 obtain⟨r,h1t1,h0t1⟩:=og q_t1
 have q_rg:=fun V=>(h1t1 V).1
 refine aV J (fun Z=>cg Jb (Gb _ _ (q_rg Z)) ⟨(ca J Z),(GM H1 fun x y h=>EH _ h),aX⟩)<|K (jk (D J) (fun V=>(ca J (sw V))) (fun V=>(h1t1 V).2) h0t1)<|cw h J (fun h=>?_) (fun h=>?_)
 ·exact T<|bn bo J<|aR bo aa J<|dh<|ak<|aG 4 J<|so h▸bv J J ⟨bb bo J J J,aS J,aX⟩
 ·refine gg<|T<|bE false hf 27<|K (bF pl)<|bO<|ba<|k6 fd c9 J<|bw kO gF dC J<|cM gx J<|K (bS hI)<|bO<|am<|br (k:=29) J fun hN=>bP ?_;refine aN (j8 (hg:=fun ls i items l c x1=>(t.root.Items.drop i=ls)/\kg t e ls items x1=some R) (Of:=fun _ i items l c x1=>[dX hf 27 l c items,bx al 87 b x1]) (Gf:=fun _ i items l c x1=>[(2,bp al t),(4,tV (aq b 0)),(6,bp al e),(7,n9 l c items),(29,eE (hf) t.root.Items),(30,f6 t.root.Items),(31,bX (i:Int))]) (fun i items l c x1 h=>?_) (fun e1 tl ih i items l c x1 h=>?_) t.root.Items 0 nS none 0 rW ⟨J,h⟩) (bk J)
  ·obtain⟨I,h⟩:=h
   refine dt I J<|au<|aW J<|fi<|jp 7 J<|jp 51 J<|K (bz (y:=(⟨(5:Int),(0:Int),(0:Int),(0:Int),[],false,fQ,[],[],items,[],(0:Int)⟩:an)) dK yE fP (⟨_,_,_,_,_,J,jf,J,hI,⟨_,_,_,_,_,J,uj,J,(i7 (D J)),J⟩⟩))<|bw iO eH pf J<|cq h fun e2 q_e2 h=>K (bj kb bo J (D J) hI q_e2) ?_;exact bn bo J<|K (aQ (r:=al) (ys:=[e2]) (xs:=[.tmp 56]) kb bo J J J J J ⟨(D J),aX⟩)<|da h Di (uO _ _) (bQ J) fun r1 h=>bM J J<|bM J J<|da h Dk (xg _ _) (bQ J) fun r2 h=>bM J J<|bM J J<|aU<|aR bo aa J<|bt J<|aG 4 J<|aH<|so h▸bv J J ⟨bb bo J J J,aS J,aX⟩
  ·obtain⟨I,h⟩:=h
   refine dr I J<|aF<|am<|T<|ej gx aL J (dm I)<|av aL bU J fun b2=>aR aL aa J<|aB 9 J<|bO<|T<|bn aL J ?_;refine k6 fd c9 J<|bw kO gF dC J<|da h H0 (EG _ _) (bQ J) fun r3 h=>bg J<|bM J J<|bM J J<|av aL bU J fun b3=>aR aL aa J<|aB 10 J<|aP J<|ba<|bg J<|gk J<|cw h J (fun h=>?_) (fun h=>?_)
   ·exact T<|bn bo J<|aU<|aR bo aa J<|dh<|ak<|cZ<|ak<|cZ<|aG 4 J<|aH<|so h▸bv J J ⟨bb bo J J J,aS J,aX⟩
   ·refine gg<|aC<|bg J<|bn aL J<|K (aQ (r:=hf) (ys:=[r3.1]) (xs:=[.tmp 47]) gx aL J J J J J ⟨(D J),aX⟩)<|cq h fun items1 q_items1 h=>dd aL J J J J gx J J (D J) (D J) q_items1 fun l1 c1=>f9 J<|bc<|cP I hN J ?_;exact aY (aN (ih (i+1) items1 l1 c1 x1 ⟨cI I,h⟩) (bk J))

def FW t x{R}(h:lj t x=some R):cj bf 88 [X al t,ec x] (tT [X al R.1,bX R.2]):=by
 refine de Tryz.func88 J<|T<|cA J<|av bo dn J fun b=>cx<|bO<|T<|bw iO eH pf J<|cq h fun e q_e h=>K (bj kb bo J (D J) hI q_e)<|bn bo J<|av bo dn J fun b1=>aR bo aa J<|aB 6 J<|bO<|ba<|k6 fd c9 J ?_;refine bw kP er bR J<|cb J<|cw h J (fun h=>?_) (fun h=>?_)
 ·exact T<|bn bo J<|aR bo aa J<|dh<|ak<|aG 4 J<|so h▸bv J J ⟨bb bo J J J,aS J,aX⟩
 ·refine gg<|ba<|k6 fd c9 J<|bw kP er bR J<|gk J<|cw h J (fun h=>?_) (fun h=>?_)
  ·exact T<|bn bo J<|aR bo aa J<|dh<|ak<|aG 4 J<|so h▸bv J J ⟨bb bo J J J,aS J,aX⟩
  ·refine gg<|T<|bw iO eH pf J<|cq h fun e1 q_e1 h=>K (bj kb bo J (D J) hI q_e1)<|bn bo J<|av bo dn J fun b2=>aR bo aa J<|bO ?_;refine eT (hg:=fun y=>jP t e y=some R) (Of:=fun y=>[bx al 87 b rW,bx al 87 b2 y]) (Gf:=fun y=>[(2,bp al t),(4,tV (aq b 0)),(6,bp al e),(7,tV (aq b2 0))]) (fun y h=>?_) (fun ae=>?_)
   ·skip
    refine ba<|bD 1 fd J<|bD 1 kP J<|K (be bR J J (iv c9 er) (.tail _ (.head _)) (D J))<|gk J<|cw h J (fun h=>?_) (fun h=>?_)
    ·exact T<|bn bo J<|aR bo aa J<|dh<|ak<|aG 4 J<|aH<|so h▸bv J J ⟨bb bo J J J,aS J,aX⟩
    ·refine gg<|T<|qX Fu nR J fun b3=>aP J<|ba<|k6 fd c9 J<|bw kO gF dC J<|cM gx J<|K (bS hI)<|bO<|am<|br (k:=47) J fun hN=>bP<|dp<|dp ?_;refine aN (ou (hg:=fun ls i has os=>(e.root.Items.drop i=ls)/\gL t e y ls has=some R) (Of:=fun _ i has os=>[bx al 87 b rW,bx al 87 b2 y,lR Fu nR b3 none os has]) (Gf:=fun _ i has os=>[(2,bp al t),(4,tV (aq b 0)),(6,bp al e),(7,tV (aq b2 0)),(8,tV (k4 b3)),(47,eE (hf) e.root.Items),(48,f6 e.root.Items),(49,bX (i:Int))]) (fun i has os h=>?_) (fun e2 tl ih i has os h=>?_) e.root.Items 0 ([]:List (Int×Bool)) [] ⟨J,h⟩) (bk J)
     ·obtain⟨I,h⟩:=h
      refine dt I J<|au<|ba<|bD 1 fd J<|bD 8 oT J<|K (be dJ J J (iv c9 kl) (.tail _ (.head _)) (D J))<|cM ed J<|K (bS hI)<|bO<|am ?_;refine br (k:=72) J fun hN1=>bP<|cr<|jD ?_;refine aN (gv (hg:=fun ls1 i1 x1=>(y.root.Keys.drop i1=ls1)/\jO t e has ls1 i1 x1=some R) (Of:=fun _ i1 x1=>[bx al 87 b x1,lR Fu nR b3 none os has]) (Gf:=fun _ i1 x1=>[(2,bp al t),(4,tV (aq b 0)),(6,bp al e),(8,tV (k4 b3)),(73,f6 y.root.Keys),(74,bX (i1:Int))]) (fun i1 x1 h=>?_) (fun e3 tl1 ih1 i1 x1 h=>?_) y.root.Keys 0 rW ⟨J,h⟩) (bk J)
      ·obtain⟨hx1,h⟩:=h
       exact dt hx1 J<|au<|T<|bn bo J<|aR bo aa J<|dh<|aG 4 J<|aH<|so h▸bv J J ⟨bb bo J J J,aS J,aX⟩
      ·obtain⟨hx1,h⟩:=h
       refine dr hx1 J<|aF<|am<|aW J<|aP J<|aW J<|bg J<|K (zF (γ:=fun y:Bool=>X rB y) (z:=false) Tryz.underlying167 (im mL) zv4 (fun S=>⟨_,J,(fun _=>J) S⟩) (.tail _ (.head _)) (D J) (qN (D J)))<|K (fV (D J)) ?_;refine cw h J (fun h=>?_) (fun h=>?_)
       ·exact T<|bn bo J<|aR bo aa J<|dh<|cZ<|ak<|cZ<|aG 4 J<|aH<|so h▸bv J J ⟨bb bo J J J,aS J,aX⟩
       ·refine bH<|cP hx1 hN1 J ?_;exact aY (aN (ih1 (i1+1) x1 ⟨cI hx1,h⟩) (bk J))
     ·obtain⟨I,h⟩:=h
      refine dr I J<|aF<|am<|T<|ej gx aL J (dm I)<|av aL bU J fun b4=>aR aL aa J<|aB 10 J<|bO<|T<|k6 bZ bL J ?_;refine bn ee J<|cq h fun e4 q_e4 h=>K (bj hM cO J (D J) hI q_e4)<|bn cO J<|av cO dS J fun b5=>aR cO aa J<|aB 11 J<|bO<|T<|bw bZ bL ee J<|cM hM J<|cb J<|bg J<|aI J (dv fW cJ J J)<|aI J (du bR J J)<|aI J (i6 J)<|dq J<|cw h J (fun h=>?_) (fun h=>?_)
      ·refine aC<|bg J<|bw gZ dk bR J<|cn<|E0 (γ:=fun y:Bool=>ec y) Tryz.underlying167 (im mL) (D J) (qN (D J)) hB fun os1=>bc<|cP I hN J<|aA<|aA ?_;exact aY (aN (ih (i+1) (ge has e4.Col true) os1 ⟨cI I,h⟩) (bk J))
      ·refine bH<|cP I hN J ?_;exact aY (aN (ih (i+1) has os ⟨cI I,h⟩) (bk J))
   ·skip
    refine T<|bD 1 fd J<|bD 1 kP J<|K (be bR J J (iv c9 er) (.head _) (D J))<|cb J<|cw h J (fun h=>?_) (fun h=>?_)
    ·refine aC<|bD 13 iO J<|K (be pf J J eH (.head _) (D J))<|cq h fun e5 q_e5 h=>K (bj kb bo J (D J) hI q_e5)<|bn bo J<|aR bo aa J<|bc<|bm ?_;exact bY (ae e5 h) (bk J)
    ·refine bH<|bm ?_;exact bY (ae e1 h) (bk J)

def Hl{rec__:Option (List (Int×(ay->Bool->Option (ay×Int))))}(hr__: ∀{R:(List (Int×(ay->Bool->Option (ay×Int))))},rec__=some R->cj bf 65 [] (B5 (fun y:(ay->Bool->Option (ay×Int))=>xR bf A5 A6 (fun(x:ay×Bool)=>y x.1 x.2)) nR R)){R}(h:o6 rec__=some R):cj bf 65 [] (B5 (fun y:(ay->Bool->Option (ay×Int))=>xR bf A5 A6 (fun(x:ay×Bool)=>y x.1 x.2)) nR R):=by
 exact de Tryz.func65 J<|T<|K (bF (show aD _ _ (.const (.map none)) (tV (.map none))from fun _ _ _=>J))<|bO<|T<|qX (sU (fun y:(ay->Bool->Option (ay×Int))=>xR bf A5 A6 (fun(x:ay×Bool)=>y x.1 x.2))) nR J fun b=>kW (γ:=(fun y:(ay->Bool->Option (ay×Int))=>xR bf A5 A6 (fun(x:ay×Bool)=>y x.1 x.2))) (y:=(li rec__)) Tryz.underlying118 (im mL) (D J) (qN hI) (zi (GM IR fun x y h=>Hi hr__ _ _ h)) fun os=>kW (γ:=(fun y:(ay->Bool->Option (ay×Int))=>xR bf A5 A6 (fun(x:ay×Bool)=>y x.1 x.2))) (y:=mb) Tryz.underlying118 (im mL) (D J) (qN hI) (zi (GM IQ fun x y h=>FX _ _ h)) fun os1=>kW (γ:=(fun y:(ay->Bool->Option (ay×Int))=>xR bf A5 A6 (fun(x:ay×Bool)=>y x.1 x.2))) (y:=lj) Tryz.underlying118 (im mL) (D J) (qN hI) (zi (GM IP fun x y h=>FW _ _ h)) fun os2=>bg J<|bt J<|y5 0 J<|so h▸bl J J
def Ef: ∀(fu:Nat) {R:(List (Int×(ay->Bool->Option (ay×Int))))} (h:ma fu=some R),cj bf 65 [] (B5 (fun y:(ay->Bool->Option (ay×Int))=>xR bf A5 A6 (fun(x:ay×Bool)=>y x.1 x.2)) nR R):=by
 intro fu
 induction fu with
 |zero=>intro R h;exact(nn h).elim
 |succ fu ih=>intro R h;exact Hl ih h
def CR{R}(h:nU=some R):cj bf 65 [] (B5 (fun y:(ay->Bool->Option (ay×Int))=>xR bf A5 A6 (fun(x:ay×Bool)=>y x.1 x.2)) nR R):=Ef mG h
def Gc x0 x1{R}(h:qo x0 x1=some R):cj bf 40 [X al x0,ec x1] (tT [X al R.1,bX R.2]):=Fb CR _ _ h
def Gd x0{R}(h:rm x0=some R):cj bf 38 [X al x0] (tT [X al R.1,ec R.2]):=Fc CR _ h
def Ei: ∀(fu:Nat) (bslf:Nat) (t:ay) {R:ay×Bool} (h:gM fu t=some R),cj bf 36 [X al t,tk 36 bslf] (tT [X al R.1,ec R.2]):=by
 intro fu
 induction fu with
 |zero=>intro bslf t R h;exact(nn h).elim
 |succ fu ihR=>
  intro bslf t R h
  refine de Tryz.func36 J<|T<|cA J<|av bo dn J fun b=>cu<|bO<|ba<|bw iO eH pf J<|cM kb J<|cb J<|cw h J (fun h=>?_) (fun h=>?_)
  ·exact T<|bn bo J<|aR bo aa J<|cu<|cU<|ak<|aG 3 J<|so h▸bv J J ⟨bb bo J J J,aS J,aX⟩
  ·refine gg<|T<|bE false al 87<|K (bF pl)<|bO<|ba<|bw iO eH pf J<|cM kb J<|K (bS hI)<|bO<|am<|br (k:=18) J fun hN=>bP ?_;refine aN (j8 (hg:=fun ls i parts l c x=>(t.parts.drop i=ls)/\jh (gM fu) t ls parts x=some R) (Of:=fun _ i parts l c x=>[dX al 87 l c parts,bx al 87 b x]) (Gf:=fun _ i parts l c x=>[(1,tk 36 bslf),(2,bp al t),(3,tV (aq b 0)),(5,n9 l c parts),(18,eE (al) t.parts),(19,f6 t.parts),(20,bX (i:Int))]) (fun i parts l c x h=>?_) (fun e tl ih i parts l c x h=>?_) t.parts 0 zd none 0 rW ⟨J,h⟩) (bk J)
   ·obtain⟨I,h⟩:=h
    refine dt I J<|au<|T<|bw fd c9 dK J<|bg J<|fi<|jp 5 J<|jp 41 J<|da h Di (uO _ _) ⟨(D J),(i7 (D J)),aX⟩ fun r h=>bg J ?_;refine bM J J<|bM J J<|av bo dn J fun b1=>aR bo aa J<|aB 10 J<|aP J<|ba<|bg J<|K (fV (D J))<|cw h J (fun h=>?_) (fun h=>?_)
    ·exact T<|bn bo J<|aU<|aR bo aa J<|cu<|cU<|ak<|aG 3 J<|aH<|so h▸bv J J ⟨bb bo J J J,aS J,aX⟩
    ·exact gg<|T<|bn bo J<|da h Hy (Gd _) (bQ J) fun r1 h=>bM J J<|bM J J<|aU<|aR bo aa J<|bt J<|aG 3 J<|aH<|so h▸bv J J ⟨bb bo J J J,aS J,aX⟩
   ·obtain⟨I,h⟩:=h
    refine dr I J<|aF<|am<|T<|ej kb bo J (dm I)<|av bo dn J fun b2=>aR bo aa J<|aB 7 J<|bO<|T<|K (yq DX (D J)) ?_;refine bn bo J<|cq h fun r2 q_r2 h=>K (yr (ts:=[X al e]) (D J) (cp:= .tmp 1) (D J) Hz (ihR _ _ q_r2) ⟨(D J),aX⟩)<|bg J<|bM J J<|bM J J<|av bo dn J fun b3=>aR bo aa J<|aB 8 J<|aP J<|ba<|bg J<|K (fV (D J))<|cw h J (fun h=>?_) (fun h=>?_)
    ·exact T<|bn bo J<|aU<|aR bo aa J<|cu<|cU<|ak<|cZ<|ak<|cZ<|aG 3 J<|aH<|so h▸bv J J ⟨bb bo J J J,aS J,aX⟩
    ·refine gg<|aC<|bg J<|bn bo J<|K (aQ (r:=al) (ys:=[r2.1]) (xs:=[.tmp 34]) kb bo J J J J J ⟨(D J),aX⟩)<|cq h fun parts1 q_parts1 h=>dd bo J J J J kb J J (D J) (D J) q_parts1 fun l1 c1=>f9 J<|bc<|cP I hN J ?_;exact aY (aN (ih (i+1) parts1 l1 c1 x ⟨cI I,h⟩) (bk J))
def Ge(bslf:Nat) t{R}(h:nr t=some R):cj bf 36 [X al t,tk 36 bslf] (tT [X al R.1,ec R.2]):=Ei mG bslf t h

end Go.Proofs.YtbmmihfagmchaaaGreat

