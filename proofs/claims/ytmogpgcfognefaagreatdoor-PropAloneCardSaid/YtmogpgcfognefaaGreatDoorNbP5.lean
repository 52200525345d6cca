/- cF of this claim: P5. -/
import Derived.Test.YtmogpgcfognefaaGreatDoorNbT
import Derived.Test.YtmogpgcfognefaaGreatDoorNbP4
set_option linter.all false
namespace Go.Proofs.YtmogpgcfognefaaGreatDoor
open Go
set_option maxRecDepth 100000

theorem LM(nodes:(List aB)){R:(List (List Int))×Int×Int}(h:ox nodes=some R):bg aP 16 [fX (aE) nodes] (tT [fX (gH) R.1,cd R.2.1,cd R.2.2]):=by
 refine bg.of Tryz.func16 J J J fun w0 S0=>aq<|zo J (aZ (show ay _ _ _ (fX (gH) ([]))from uR))<|zo J (fg)<|zo J (fg)<|ap<|ya<|ae<|aq<|aA J<|zo J (jL la J)<|zo J (fH (ht J) hI)<|aA J<|cD J J (fun hg=>cN J)<|cD J J (fun hg=>bI la (aI J hg))<|cD J J (fun hg=>iu (aI J hg) hI)<|zo J (pn J J)<|ap<|dQ h J (fun h=>?_) (fun h=>?_)
 ·refine aq<|zo J (aZ (show ay _ _ _ (fX (gH) ([]))from uR))<|zo J (fg)<|zo J (fg)<|ap<|am ?_;refine aa (mj ?_);cases so h;exact mK J J J J
 ·refine eK<|aq<|aA J<|zo J (cJ (r:=rH aN [(1,.slice none 0 0),(2,.slice none 0 0)]) (y:=(⟨nodes,[],[],AW,[],[],[]⟩:af)) MC MW (zH HX ⟨J,J,be⟩) (⟨_,_,_,_,_,J,ME Fs J J,J,(ht J),J⟩))<|wn (ht J) J fun b=>ci true gH 29<|ci false bU 3 ?_;refine(show RG _ _ _ _ [cr bU 3 none 0 mP,gX gH 29 none 0 KF,bx (rH aN [(1,ai none 0 KF.length),(2,ai none 0 mP.length)]) 124 b (⟨nodes,[],[],AW,[],[],[]⟩:af)] _ from ?_);refine bu J<|ap<|aq<|bP h fun r q_r h=>zo J (aO PA (LF q_r) trivial)<|bu J<|ap<|aq<|zo J (fg)<|ap<|ae<|yb<|an<|ae<|aq<|aA rfl<|zo rfl (jL la rfl)<|zo rfl (bj hI) ?_;refine ap ?_;refine zF (Z:=fun wrong ob l c l1 c1=>lz nodes wrong ob=some R) (Of:=fun wrong ob l c l1 c1=>[bx (rH aN [(1,ai l c ob.kinds.length),(2,ai l1 c1 ob.open_.length)]) 124 b ob,gX gH 29 l c ob.kinds,cr bU 3 l1 c1 ob.open_]) (Gf:=fun wrong ob l c l1 c1=>[(0,fX (aE) nodes),(5,tV (aD b 0)),(7,cd wrong)]) (fun wrong ob l c l1 c1 h=>?_) (fun K=>?_)
  ·skip
   refine an ?_;refine ge (Z:=fun wrong1=>km ob wrong1=some R) (Of:=fun wrong1=>[bx (rH aN [(1,ai l c ob.kinds.length),(2,ai l1 c1 ob.open_.length)]) 124 b ob,gX gH 29 l c ob.kinds,cr bU 3 l1 c1 ob.open_]) (Gf:=fun wrong1=>[(5,tV (aD b 0)),(7,cd wrong1)]) (fun wrong1 h=>?_) (fun K1=>?_)
   ·skip
    refine ae<|aq<|aA J<|zo J (ev (ht J) hI)<|ap<|dQ h J (fun h=>?_) (fun h=>?_)
    ·refine aq<|aA J<|zo J (aZ (show ay _ _ _ (fX (gH) ([]))from uR))<|bu J<|zo J (fg)<|ap<|am ?_;refine aa (mj ?_);refine bw<|bw<|bw ?_;cases so h;exact mK J J J J
    ·refine eK<|aq<|ci false gH 29<|zo J (aZ q5)<|ap<|ae<|aq<|aA J<|zo J (aR (ht J))<|zo J (fq 1 wi J J J)<|zo J (xg yn J (.tail _ (.head _)) (.tail _ (.tail _ (.head _))) (ht J))<|zo J (bI qK (uC (ht J)))<|zo J (bj hI)<|ap<|av<|Gk<|Gl 61 J<|aY (k:=61) J fun hN=>bO ?_;refine ej<|dV<|ej<|ej ?_;refine aM (oD (Z:=fun ls i out l2 c2=>(ob.kinds.drop i=ls)∧kl ls out=some R) (Of:=fun _ i out l2 c2=>[cr gH 29 l2 c2 out,bx (rH aN [(1,ai l c ob.kinds.length),(2,ai l1 c1 ob.open_.length)]) 124 b ob,gX gH 29 l c ob.kinds,cr bU 3 l1 c1 ob.open_]) (Gf:=fun _ i out l2 c2=>[(10,n6 l2 c2 out),(61,fX (gH) ob.kinds),(62,jt ob.kinds),(63,cd (i:Int))]) (fun i out l2 c2 h=>?_) (fun e tl ih i out l2 c2 h=>?_) ob.kinds 0 KF none 0 ⟨J,h⟩) (bh J)
     ·obtain⟨hx,h⟩:=h
      refine au<|aq<|zo J (fM J J)<|ap<|ae<|bt (ht J) (du hx)<|bn ?_;refine ac (ac (aG ?_));refine an<|aq<|aA rfl<|bu rfl<|zo rfl (fg)<|zo rfl (fg)<|ap<|am<|mj<|ii<|jK 10 rfl<|jK 73 rfl<|jK 2 rfl<|rR 2 rfl<|bw<|bw<|bw<|bw ?_;cases so h;exact mK J J J J
     ·obtain⟨hx,h⟩:=h
      refine au<|aq<|zo J (fM J J)<|ap<|ae<|br (ht J) (dn hx)<|eK<|ae<|av<|aq<|zo J (j8 qK bV J J J (dB hx))<|zo J (bE bV J J)<|bu J<|ap<|ak<|aA J<|aA J<|bP h fun r1 q_r1 h=>jb Hy (wj _ q_r1) ⟨(ht J),be⟩ J fun l3 c3=>?_;refine jI<|nA 69 J<|zo J (bF (r:=pP) (ys:=[r1]) (xs:=[.tmp 69]) qK bV J J J J J ⟨(uC (ht J)),be⟩)<|bT<|bP h fun out1 q_out1 h=>dj bV J J J J qK J J (ht J) (ht J) q_out1 fun l4 c4=>bu J<|aK<|al<|an<|ak<|zo rfl (lk (cQ hx hN) rfl)<|aA rfl<|aK<|bf<|bw ?_;exact aW (aM (ih (i+1) out1 l4 c4 ⟨cP hx,h⟩) (bh J))
   ·skip
    refine aq<|aA J<|zo J (fH (ht J) hI)<|aA J<|bD J J (fun hg=>cN J)<|bD J J (fun hg=>aR (aI J hg))<|bD J J (fun hg=>bA (n:=2) nY J (aI J hg) J)<|bD J J (fun hg=>kT bV J (.head _) (aI J hg))<|bD J J (fun hg=>em dp (.tail _ (.tail _ (.head _))) (aI J hg))<|bD J J (fun hg=>dd (aI J hg) hI)<|zo J (ky J J)<|ap<|dQ h J (fun h=>?_) (fun h=>?_)
    ·refine ak<|aA J<|zo J (jL la J)<|zo J (gy (ht J) hI)<|bu J<|aK ?_;exact cb (K1 (IntKind.i64.wrap ((nodes.length:Int)-(1:Int))) h) (bh J)
    ·refine bC ?_;exact cb (K1 wrong h) (bh J)
  ·skip
   refine aY (k:=25) J fun hN1=>bO<|dV<|lj ?_;refine aM (xU (Z:=fun ls1 i1 wrong2 ob1 l5 c5 l6 c6=>(nodes.drop i1=ls1)∧kj nodes r ls1 i1 wrong2 ob1=some R) (Of:=fun _ i1 wrong2 ob1 l5 c5 l6 c6=>[bx (rH aN [(1,ai l5 c5 ob1.kinds.length),(2,ai l6 c6 ob1.open_.length)]) 124 b ob1,gX gH 29 l5 c5 ob1.kinds,cr bU 3 l6 c6 ob1.open_]) (Gf:=fun _ i1 wrong2 ob1 l5 c5 l6 c6=>[(0,fX (aE) nodes),(5,tV (aD b 0)),(6,HU (fun y:(af→Unit→Option (Bool×af))=>lM (fun bb=>gU aP (fun(x:Unit)=>[tV (aD bb 0)]) (dm bb) lX y)) zQ r),(7,cd wrong2),(25,fX (aE) nodes),(26,jt nodes),(27,cd (i1:Int))]) (fun i1 wrong2 ob1 l5 c5 l6 c6 h=>?_) (fun e1 tl1 ih1 i1 wrong2 ob1 l5 c5 l6 c6 h=>?_) nodes 0 nO (⟨nodes,[],[],AW,[],[],[]⟩:af) none 0 none 0 ⟨J,h⟩) (bh J)
   ·obtain⟨hx1,h⟩:=h
    refine au<|aq<|zo J (fM J J)<|ap<|ae<|bt (ht J) (du hx1)<|bn ?_;refine ac (ac (aG ?_));exact cb (K wrong2 ob1 l5 c5 l6 c6 h) (bh J)
   ·obtain⟨hx1,h⟩:=h
    refine au<|aq<|zo J (fM J J)<|ap<|ae<|br (ht J) (dn hx1)<|eK<|ae<|av<|aq<|aA J<|zo J (j8 la d3 J J J (dB hx1))<|zo J (bE d3 J J)<|aX (r:=aE) (x:=AW) d3 (fun _=>fh _) J fun b1=>bu J<|aC d3 J ax J (ht J) (ht J)<|aT 9 J<|ap<|ae ?_;refine ak<|aA J<|aA J<|aA J<|zo J (bZ gD cK J J)<|zo J (bE bJ J J)<|zo J (vl (γ:=(fun y:(af→Unit→Option (Bool×af))=>lM (fun bb=>gU aP (fun(x:Unit)=>[tV (aD bb 0)]) (dm bb) yi y))) (z:=(fun _ _=>none)) vJ (ft k7) Mf (fun _ _=>Fe) (ht J) (nX (ht J)))<|bP h fun r2 q_r2 h=>xP (EffOK.fr2 (EffOK.fr2 (EffOK.fr2 (zr (xs:=[.tmp 32,.tmp 33,.tmp 37]) (ts:=[tV (aD b 0),cd (i1:Int),lM (fun bb=>gU aP (fun(x:Unit)=>[tV (aD bb 0)]) (dm bb) lX ((nW r e1.Op).getD (fun _ _=>none)))]) (dm b ob1 (FJ [(l5,c5),(l6,c6)])) _ J Pz (Ng b (FJ [(l5,c5),(l6,c6)]) ob1 _ _ q_r2) ⟨(ht J),(ht J),(ht J),be⟩ (fun _=>J))))) J fun i2=>?_;refine(show RG _ _ _ _ [bx (rH aN [(1,ai (i2.h 0).1 (i2.h 0).2 r2.2.kinds.length),(2,ai (i2.h 1).1 (i2.h 1).2 r2.2.open_.length)]) 124 b r2.2,gX gH 29 (i2.h 0).1 (i2.h 0).2 r2.2.kinds,cr bU 3 (i2.h 1).1 (i2.h 1).2 r2.2.open_] ((38,ij r2.1)::_)from ?_);refine zo J (d7 (ht J))<|ap<|dQ h J (fun h=>?_) (fun h=>?_)
    ·refine aq<|aA J<|bu J<|ap<|bn ?_;refine bM J (ac (ac (aG ?_)));exact cb (K (i1:Int) r2.2 (i2.h 0).1 (i2.h 0).2 (i2.h 1).1 (i2.h 1).2 h) (bh J)
    ·refine bC<|al<|an<|ak<|zo rfl (lk (cQ hx1 hN1) rfl)<|aA rfl<|aK ?_;exact aW (aM (ih1 (i1+1) wrong2 r2.2 (i2.h 0).1 (i2.h 0).2 (i2.h 1).1 (i2.h 1).2 ⟨cP hx1,h⟩) (bh J))

theorem Eu(c:Int){R:Bool}(h:pA c=some R):bg aP 226 [tD (rI .i32) c] (ij R):=by
 refine bg.of Tryz.func226 J J J fun w0 S0=>aq<|zo J (fP)<|ap<|aq<|aA J<|zo J (ev (ht J) hI)<|aA J<|bD J J (fun hg=>cN J)<|bD J J (fun hg=>jB (aI J hg) hI)<|zo J (ky J J)<|bu J<|ap<|am ?_;cases so h;exact aH J J

theorem IS(s:(List ji))(v:ji){R:Int}(h:im s v=some R):bg aP 279 [fX (rS) s,tD rS v] (cd R):=by
 refine bg.of Tryz.func279 J J J fun w0 S0=>aq<|zo J (fg)<|ap<|ae<|aq<|aA J<|zo J (jL Tryz.underlying90 J)<|zo J (bj hI)<|ap<|av<|aY (k:=6) J fun hN=>bO ?_;refine aM (eC (Z:=fun ls i=>(s.drop i=ls)∧dE v ls i=some R) (Of:=fun _ i=>[]) (Gf:=fun _ i=>[(0,fX (rS) s),(1,tD rS v),(7,jt s),(8,cd (i:Int))]) (fun i h=>?_) (fun e tl ih i h=>?_) s 0 ⟨J,h⟩) (bh J)
 ·obtain⟨hx,h⟩:=h
  refine au<|aq<|zo J (fM J J)<|ap<|ae<|bt (ht J) (du hx)<|bn ?_;refine ac (ac (aG ?_));refine an<|aq<|zo rfl (fg)<|ap<|am ?_;cases so h;exact aH J J
 ·obtain⟨hx,h⟩:=h
  refine au<|aq<|zo J (fM J J)<|ap<|ae<|br (ht J) (dn hx)<|eK<|ae<|av<|aq<|aA J<|bu J<|ap<|aq<|aA J<|aA J<|aA J<|zo J (j8 Tryz.underlying90 CI J J J (dB hx)) ?_;refine zo J (bE CI J J)<|zo J (wc (ht J) (ht J))<|ap<|dQ h J (fun h=>?_) (fun h=>?_)
  ·refine aq<|aA J<|bu J<|ap<|am ?_;refine aF (aa (aa (aF (aa ?_))));cases so h;exact aH J J
  ·refine bC<|al<|an<|ak<|zo rfl (lk (cQ hx hN) rfl)<|aA rfl<|aK ?_;exact aW (aM (ih (i+1) ⟨cP hx,h⟩) (bh J))

theorem IV(s:(List ji))(v:ji){R:Bool}(h:gw s v=some R):bg aP 256 [fX (rS) s,tD rS v] (ij R):=by
 refine bg.of Tryz.func256 J J J fun w0 S0=>aq<|zo J (fP)<|ap<|aq<|aA J<|aA J<|bP h fun r q_r h=>zo J (aO Np (IS _ _ q_r) ⟨(ht J),(ht J),be⟩)<|zo J (ev (ht J) hI)<|bu J<|ap<|am ?_;cases so h;exact aH J J

theorem I1(s:ji){R:Bool}(h:p8 s=some R):bg aP 227 [tD rS s] (ij R):=by
 refine bg.of Tryz.func227 J J J fun w0 S0=>aq<|zo J (fP)<|ap<|aq<|zo J (zB (r:=lN rS 28) (x:=MP) gm2 gr2 (FB Tryz.underlying292 CI J Kn))<|aA J<|bP h fun r q_r h=>zo J (aO Ns (IV _ _ q_r) ⟨(ht J),(ht J),be⟩)<|bu J<|ap<|am ?_;cases so h;exact aH J J

theorem I0(s:ji){R:ji}(h:gO s=some R):bg aP 228 [tD rS s] (tD rS R):=by
 unfold gO at h
 split at h
 ·rename_i hl
  cases h
  refine Cb fun w hw=>?_
  have:=Any.strings_ToUpper_any pl upX ⟨s.toArray⟩ w (by rw [EL];exact hl) hw.1 hw.2
  simp only [List.toList_toArray]at this
  exact this
 ·cases h

theorem IZ(c:Int){R:Bool}(h:rJ c=some R):bg aP 229 [tD (rI .i32) c] (ij R):=by
 refine bg.of Tryz.func229 J J J fun w0 S0=>aq<|zo J (fP)<|ap<|aq<|aA J<|zo J (ev (ht J) hI)<|aA J<|bD J J (fun hg=>cN J)<|bD J J (fun hg=>jB (aI J hg) hI)<|zo J (ky J J)<|bu J<|ap<|am ?_;cases so h;exact aH J J

theorem AB(s:ji){R:Bool}(h:m2 s=some R):bg aP 169 [tD rS s] (ij R):=by
 refine bg.of Tryz.func169 J J J fun w0 S0=>aq<|zo J (fP)<|ap<|ae<|aq<|aA J<|zo J (wc (ht J) hS)<|aA J<|cD J J (fun hg=>cN J)<|cD J J (fun hg=>Ak jP (aI J hg))<|cD J J (fun hg=>iu (aI J hg) hI)<|zo J (pn J J)<|aA J<|bP h fun t q_t h=>cD J J (fun hg=>cN J) ?_
 obtain⟨b,h1t,h0t⟩:=og q_t
 have q_bg:=fun hb=>(h1t hb).1
 refine cD J J (fun hg=>FF jP (aI J hg) hI (q_bg hg))<|cD J J (fun hg=>Iu Tryz.underlying5 Tryz.underlying21 (aI J hg)) ?_
 obtain⟨r,h1t⟩:=Kf (fun hb=>(h1t hb).2)
 have q_rg:=fun hb=>(h1t hb).1
 refine cD J J (fun hg=>aO Kp (Eu _ (q_rg hg)) ⟨(aI J hg),be⟩)<|cD J J (fun hg=>d7 (aI J hg))<|zo J (eH (ht J) (fun hb=>(aI J (mR hb))) (fun hb=>(h1t hb).2) h0t)<|aA J<|bP h fun t1 q_t1 h=>cD J J (fun hg=>cN J) ?_
 obtain⟨r1,h1t1,h0t1⟩:=og q_t1
 have q_r1g:=fun hb=>(h1t1 hb).1
 refine cD J J (fun hg=>aO Ny (I0 _ (q_r1g hg)) ⟨(aI J hg),be⟩) ?_
 obtain⟨r2,h1t1⟩:=Kf (fun hb=>(h1t1 hb).2)
 have q_r2g:=fun hb=>(h1t1 hb).1
 refine cD J J (fun hg=>aO Nz (I1 _ (q_r2g hg)) ⟨(aI J hg),be⟩)<|zo J (eH (ht J) (fun hb=>(aI J (mR hb))) (fun hb=>(h1t1 hb).2) h0t1)<|ap<|dQ h J (fun h=>?_) (fun h=>?_)
 ·refine aq<|zo J (fP)<|ap<|am<|aa ?_;cases so h;exact aH J J
 ·refine eK<|ae<|aq<|aA J<|Cf jP (ht J) J fun rg=>ap<|av<|bO ?_;refine aM (L0 (β:=Int×Int) (Z:=fun ls=>lA ls=some R) (Of:=fun ls=>[yp rg s ls]) (Gf:=[(25,tV (aD rg 0))]) (fun ls h ih=>?_) (Bj s) h) (bh J);refine au<|aq ?_;refine DD (ht J) J (fun hl=>?_) (fun e tl hk=>?_)
  ·subst hl
   refine zo J (Al (ht J))<|ap<|ae<|bt (ht J) J<|bn ?_;refine ac (ac (aG ?_));refine an<|aq<|zo rfl (fP)<|ap<|am<|bw ?_;cases so h;exact aH J J
  ·subst hk
   refine zo J (sm (i:=0) J (ht J))<|ap<|ae<|br (ht J) J<|eK<|av<|aq<|zo J (sm (i:=2) J (ht J))<|bu J<|ap<|aq<|aA J<|bP h fun r3 q_r3 h=>zo J (aO Nx (IZ _ q_r3) ⟨(ht J),be⟩)<|zo J (d7 (ht J))<|aA J<|bP h fun t2 q_t2 h=>bD J J (fun hg=>cN J) ?_
   obtain⟨r4,h1t2,h0t2⟩:=og q_t2
   have q_r4g:=fun hb=>(h1t2 hb).1
   refine bD J J (fun hg=>aO Kp (Eu _ (q_r4g hg)) ⟨(aI J hg),be⟩)<|bD J J (fun hg=>d7 (aI J hg))<|zo J (dv (ht J) (fun hb=>(aI J hb)) (fun hb=>(h1t2 hb).2) h0t2)<|aA J<|bD J J (fun hg=>cN J)<|bD J J (fun hg=>dd (aI J hg) hI)<|zo J (ky J J)<|ap<|dQ h J (fun h=>?_) (fun h=>?_)
   ·refine aq<|zo J (fP)<|ap<|am ?_;refine aF (aa (aF (aa ?_)));refine bw ?_;cases so h;exact aH J J
   ·refine bC<|al ?_;exact aW (aM (ih tl (by simp) h) (bh J))

theorem IU(s:(List aU))(f:(aU→Option Bool)){R:Int}(h:eo s f=some R):bg aP 263 [fX (bR) s,(fC aP vM lX (fun(x:aU)=>f x))] (cd R):=by
 refine bg.of Tryz.func263 J J J fun w0 S0=>aq<|zo J (fg)<|ap<|ae<|aq<|aA J<|zo J (jL pN J)<|zo J (bj hI)<|ap<|av<|aY (k:=6) J fun hN=>bO ?_;refine aM (eC (Z:=fun ls i=>(s.drop i=ls)∧cc f ls i=some R) (Of:=fun _ i=>[]) (Gf:=fun _ i=>[(0,fX (bR) s),(1,(fC aP vM lX (fun(x:aU)=>f x))),(7,jt s),(8,cd (i:Int))]) (fun i h=>?_) (fun e tl ih i h=>?_) s 0 ⟨J,h⟩) (bh J)
 ·obtain⟨hx,h⟩:=h
  refine au<|aq<|zo J (fM J J)<|ap<|ae<|bt (ht J) (du hx)<|bn ?_;refine ac (ac (aG ?_));refine an<|aq<|zo rfl (fg)<|ap<|am ?_;cases so h;exact aH J J
 ·obtain⟨hx,h⟩:=h
  refine au<|aq<|zo J (fM J J)<|ap<|ae<|br (ht J) (dn hx)<|eK<|ae<|av<|aq<|aA J<|bu J<|ap<|aq<|aA J<|aA J<|aA J<|zo J (j8 pN mQ J J J (dB hx)) ?_;refine zo J (bE mQ J J)<|bP h fun r q_r h=>zo J (gz (args:=vM) (res:=yi) (f:=(fun(x:aU)=>f x)) (x:=((e):aU)) (ht J) q_r ⟨(ht J),be⟩)<|ap<|dQ h J (fun h=>?_) (fun h=>?_)
  ·refine aq<|aA J<|bu J<|ap<|am ?_;refine aF (aa (aa (aF (aa ?_))));cases so h;exact aH J J
  ·refine bC<|al<|an<|ak<|zo rfl (lk (cQ hx hN) rfl)<|aA rfl<|aK ?_;exact aW (aM (ih (i+1) ⟨cP hx,h⟩) (bh J))

theorem IT(of:(aU→Option ji))(name:ji)(p:aU){R:Bool}(h:dH of name p=some R):bg aP 264 [tD bR p,bB (rT ((fC aP vM rW (fun(x:aU)=>of x)))) (),bB rS name] (ij R):=by
 refine bg.of Tryz.func264 J J J fun w0 S0=>aq<|zo J (mp J)<|zo J (fP)<|ap<|ae<|bP h fun r q_r h=>?_
 refine eN (ts:=[_,_,_,_,_,_]) mixed J J
  ⟨iD 1 J J J (xh Mx (ht J)),
  ⟨iD 3 J J J (bE mQ J J),
  ⟨fB 5 0 6 1 J J J J (gz (args:=vM) (res:=rW) (f:=(fun(x:aU)=>of x)) (x:=((p):aU)) (ht J) q_r ⟨(ht J),be⟩),
  ⟨iD 2 J J J (bE CI J J),
  ⟨fB 7 2 8 3 J J J J (wc (ht J) (ht J)),
  ⟨cR 9 4 J J J (yk J),
  be⟩⟩⟩⟩⟩⟩ ?_
 refine an<|am ?_;cases so h;exact aH J J

theorem IY(l:(List aU))(of:(aU→Option ji))(name:ji){R:Int×Bool}(h:gM l of name=some R):bg aP 230 [fX (bR) l,(fC aP vM rW (fun(x:aU)=>of x)),tD rS name] (tT [cd R.1,ij R.2]):=by
 refine bg.of Tryz.func230 J J J fun w0 S0=>aq<|zo J (Eh (ht J))<|zo J (mp J)<|zo J (fg)<|zo J (fP)<|ap<|aq<|aA J<|zo J ((show bS _ _ _ _ ((fC aP vM lX (fun(x:aU)=>(dH of name) x)))from hZ (cts:=[bB (rT ((fC aP vM rW (fun(x:aU)=>of x)))) (),bB rS name]) (caps:=[.tmp 4,.tmp 5]) Nq ⟨(ht J),(ht J),be⟩ (fun x y h=>IT _ _ _ h)))<|bP h fun r q_r h=>zo J (aO Nr (IU _ _ q_r) ⟨(ht J),(ht J),be⟩)<|bu J<|ap<|aq<|aA J<|zo J (Ai (ht J) hI)<|aA J<|zo J (ev (ht J) hI) ?_;refine bu J<|bu J<|ap<|am ?_;cases so h;exact fW J J J

theorem Jh(l:(List aU))(of:(aU→Option ji)){R:Bool}(h:jH l of=some R):bg aP 170 [fX (bR) l,(fC aP vM rW (fun(x:aU)=>of x))] (ij R):=by
 refine bg.of Tryz.func170 J J J fun w0 S0=>aq<|zo J (fP)<|ap<|ae<|aq<|aA J<|zo J (jL pN J)<|zo J (bj hI)<|ap<|av<|aY (k:=9) J fun hN=>bO ?_;refine aM (eC (Z:=fun ls i=>(l.drop i=ls)∧ez l of ls i=some R) (Of:=fun _ i=>[]) (Gf:=fun _ i=>[(0,fX (bR) l),(1,(fC aP vM rW (fun(x:aU)=>of x))),(9,fX (bR) l),(10,jt l),(11,cd (i:Int))]) (fun i h=>?_) (fun e tl ih i h=>?_) l 0 ⟨J,h⟩) (bh J)
 ·obtain⟨hx,h⟩:=h
  refine au<|aq<|zo J (fM J J)<|ap<|ae<|bt (ht J) (du hx)<|bn ?_;refine ac (ac (aG ?_));refine an<|aq<|zo rfl (fP)<|ap<|am ?_;cases so h;exact aH J J
 ·obtain⟨hx,h⟩:=h
  refine au<|aq<|zo J (fM J J)<|ap<|ae<|br (ht J) (dn hx)<|eK<|ae<|av<|aq<|aA J<|zo J (j8 pN mQ J J J (dB hx))<|zo J (bE mQ J J)<|aX (r:=bR) (x:=H4) mQ (fun _=>n7 _) J fun b=>bu J<|aC mQ J ax J (ht J) (ht J)<|aT 6 J<|ap<|ae ?_;refine ak<|aA J<|aA J<|aA J<|zo J (bE mQ J J)<|bP h fun r q_r h=>zo J (gz (args:=vM) (res:=rW) (f:=(fun(x:aU)=>of x)) (x:=((e):aU)) (ht J) q_r ⟨(ht J),be⟩)<|bP h fun r1 q_r1 h=>zo J (aO Nw (IY _ _ _ q_r1) ⟨(ht J),(ht J),(ht J),be⟩)<|aA J<|zo J (lv J J)<|zo J (lv J J)<|bu J<|bu J<|ap<|aq<|aA J<|aA J<|zo J (dd (ht J) (ht J))<|aA J<|bP h fun t q_t h=>cD J J (fun hg=>cN J) ?_;refine cD J J (fun hg=>bE mQ J J) ?_
  obtain⟨r2,h1t,h0t⟩:=og q_t
  have q_r2g:=fun hb=>(h1t hb).1
  refine cD J J (fun hg=>gz (args:=vM) (res:=rW) (f:=(fun(x:aU)=>of x)) (x:=((e):aU)) (aI J hg) (q_r2g hg) ⟨(aI J hg),be⟩) ?_
  obtain⟨r3,h1t⟩:=Kf (fun hb=>(h1t hb).2)
  have q_r3g:=fun hb=>(h1t hb).1
  refine cD J J (fun hg=>aO Hz (AB _ (q_r3g hg)) ⟨(aI J hg),be⟩)<|cD J J (fun hg=>d7 (aI J hg))<|zo J (eH (ht J) (fun hb=>(aI J (mR hb))) (fun hb=>(h1t hb).2) h0t)<|ap<|dQ h J (fun h=>?_) (fun h=>?_)
  ·refine aq<|zo J (fP)<|ap<|am ?_;refine aF (aa (aa (aF (aa ?_))));cases so h;exact aH J J
  ·refine bC<|al<|an<|ak<|zo rfl (lk (cQ hx hN) rfl)<|aA rfl<|aK ?_;exact aW (aM (ih (i+1) ⟨cP hx,h⟩) (bh J))

theorem Jg(c:aU){R:ji}(h:dN c=some R):bg aP 171 [tD bR c] (tD rS R):=by
 refine bg.of Tryz.func171 J J J fun w0 S0=>aq<|zo J (mp J)<|zo J (aZ hS)<|ap<|aq<|zo J (bZ Lr BN J J)<|zo J (bE CI J J)<|bu J<|ap<|am ?_;cases so h;exact aH J J

theorem Jf(kind:Int){R:ji}(h:n4 kind=some R):bg aP 172 [cd kind] (tD rS R):=by
 refine bg.of Tryz.func172 J J J fun w0 S0=>aq<|zo J (aZ hS)<|ap<|ae<|aq<|zo J (zB (r:=(lN pY 3)) (x:=Ll) gm0 gr0 (aL Mw J J Kn))<|zo J (bj hI)<|ap<|av<|bO ?_;refine aM (ES (Z:=fun k i=>(3-i=k)∧gT kind k i=some R) (Of:=fun _ i=>[]) (Gf:=fun _ i=>[(0,cd kind),(5,tD (lN pY 3) Ll),(6,cd (i:Int))]) (fun i h=>?_) (fun k1 ih i h=>?_) 3 0 ⟨J,h⟩) (bh J)
 ·obtain⟨hx,h⟩:=h
  refine au<|aq<|zo J (fH (ht J) hI)<|ap<|ae<|bt (ht J) (Lf hx)<|bn ?_;refine ac (ac (aG ?_));refine an<|aq<|zo rfl (aZ hS)<|ap<|am ?_;cases so h;exact aH J J
 ·obtain⟨hx,h⟩:=h
  refine au<|aq<|zo J (fH (ht J) hI)<|ap<|ae<|br (ht J) (Le hx)<|eK<|ae<|av<|aq<|bP h fun e1 q_e1 h=>zo J (FG Tryz.underlying271 GG J J (ht J) (ht J) q_e1)<|aX (r:=pY) (x:=(⟨[],(0:Int)⟩:xZ)) GG (fun _=>HY _) J fun b=>aC GG J ax J (ht J) (ht J)<|aT 4 J<|ap<|aq<|zo J (bZ IG FV J J) ?_;refine zo J (bE bJ J J)<|aA J<|zo J (bv (ht J) (ht J))<|ap<|dQ h J (fun h=>?_) (fun h=>?_)
  ·refine aq<|zo J (bZ IH FW J J)<|zo J (bE CI J J)<|bu J<|ap<|am ?_;refine aF (aa (aa (aF (aa ?_))));cases so h;exact aH J J
  ·refine bC<|al<|an<|ak<|zo rfl (tE (Ix hx (by decide)) (ht rfl) hI)<|aA rfl<|aK ?_;exact aW (aM (ih (i+1) ⟨Iw hx,h⟩) (bh J))

theorem JF(t:bo){R:Int}(h:j4 t=some R):bg aP 106 [tD cg t] (cd R):=by
 refine bg.of Tryz.func106 J J J fun w0 S0=>aq<|zo J (mp J)<|zo J (fg)<|ap<|aq<|zo J (bZ Hf xw J J)<|zo J (bE CI J J)<|bP h fun r q_r h=>zo J (aO Hz (AB _ q_r) ⟨(ht J),be⟩)<|aA J<|bD J J (fun hg=>bZ qi kX J J)<|bD J J (fun hg=>aL zY J J (aI J hg))<|bD J J (fun hg=>bI pN (aI J hg))<|bD J J (fun hg=>ev (aI J hg) hI)<|zo J (ky J J)<|aA J<|bD J J (fun hg=>bZ qi kX J J)<|bD J J (fun hg=>aL zY J J (aI J hg))<|bD J J (fun hg=>bI pN (aI J hg))<|bD J J (fun hg=>jB (aI J hg) hI) ?_;refine zo J (ky J J)<|aA J<|bP h fun t1 q_t1 h=>bD J J (fun hg=>bZ qi kX J J)<|bD J J (fun hg=>aL zY J J (aI J hg)) ?_
 obtain⟨r1,h1t1,h0t1⟩:=og q_t1
 have q_r1g:=fun hb=>(h1t1 hb).1
 refine bD J J (fun hg=>aO NU (Jh _ _ (q_r1g hg)) ⟨(aI J hg),(Ar NT fun x y h=>Jg _ h),be⟩)<|zo J (dv (ht J) (fun hb=>(aI J hb)) (fun hb=>(h1t1 hb).2) h0t1)<|bu J<|ap<|ae<|aq<|zo J (bZ qi kX J J)<|zo J (bE zY J J)<|zo J (jL pN J)<|zo J (bj hI)<|ap<|av<|aY (k:=29) J fun hN=>bO ?_;refine aM (ki (Z:=fun ls i ok=>(t.Columns.drop i=ls)∧eS t ls ok=some R) (Of:=fun _ i ok=>[]) (Gf:=fun _ i ok=>[(1,bB cg t),(3,ij ok),(29,fX (bR) t.Columns),(30,jt t.Columns),(31,cd (i:Int))]) (fun i ok h=>?_) (fun e tl ih i ok h=>?_) t.Columns 0 t1 ⟨J,h⟩) (bh J)
 ·obtain⟨hx,h⟩:=h
  refine au<|aq<|zo J (fM J J)<|ap<|ae<|bt (ht J) (du hx)<|bn ?_;refine ac (ac (aG ?_));refine an<|ae<|aq<|zo rfl (bZ xA qe rfl rfl)<|zo rfl (bE bV rfl rfl)<|zo rfl (jL dp rfl)<|zo rfl (bj hI)<|ap<|av<|aY (k:=44) J fun hN1=>bO ?_;refine aM (ki (Z:=fun ls1 i1 ok1=>(t.Keys.drop i1=ls1)∧d8 t ls1 i1 ok1=some R) (Of:=fun _ i1 ok1=>[]) (Gf:=fun _ i1 ok1=>[(1,bB cg t),(3,ij ok1),(44,lW t.Keys),(45,jt t.Keys),(46,cd (i1:Int))]) (fun i1 ok1 h=>?_) (fun e1 tl1 ih1 i1 ok1 h=>?_) t.Keys 0 ok ⟨J,h⟩) (bh J)
  ·obtain⟨hx1,h⟩:=h
   refine au<|aq<|zo J (fM J J)<|ap<|ae<|bt (ht J) (du hx1)<|bn ?_;refine ac (ac (aG ?_));refine an<|ae<|aq<|aA rfl<|zo rfl (d7 (ht rfl))<|ap<|dQ h rfl (fun h=>?_) (fun h=>?_)
   ·refine aq<|zo J (fg)<|ap<|am<|aa ?_;cases so h;exact aH J J
   ·refine eK<|aq<|zo J (fg)<|ap<|am ?_;cases so h;exact aH J J
  ·obtain⟨hx1,h⟩:=h
   refine au<|aq<|zo J (fM J J)<|ap<|ae<|br (ht J) (dn hx1)<|eK<|ae<|av<|aq<|aA J<|zo J (j8 dp bJ J J J (dB hx1))<|zo J (bE bJ J J)<|bu J<|bu J<|ap<|ak<|aA J<|aA J ?_;refine bD J J (fun hg=>cN J)<|bD J J (fun hg=>ev (aI J hg) hI)<|zo J (ky J J)<|aA J<|bD J J (fun hg=>cN J)<|bD J J (fun hg=>bZ qi kX J J)<|bD J J (fun hg=>aL zY J J (aI J hg))<|bD J J (fun hg=>bI pN (aI J hg))<|bD J J (fun hg=>fH (aI J hg) (aI J hg))<|zo J (ky J J)<|aA J<|bP h fun t2 q_t2 h=>bD J J (fun hg=>cN J)<|bD J J (fun hg=>bv (aI J hg) hI)<|bD J J (fun hg=>bj (aI J hg)) ?_
   obtain⟨t3,h1t2,h0t2⟩:=og q_t2
   have q_t3g:=fun hb=>(h1t2 hb).1
   refine bW J J J J (fun hg=>bZ xA qe J J)<|bW J J J J (fun hg=>aL bV J J (aI J hg))<|bW J J J J (fun hg=>cN J)<|bW J J J J (fun hg=>gy (aI J hg) hI) ?_
   obtain⟨e2,h1t3,h0t3⟩:=og3 q_t3g
   have q_e2g:=fun hb=>(h1t3 hb).1
   refine bW J J J J (fun hg=>cq dp bJ J (aI J hg) (aI J hg) (q_e2g hg))<|bW J J J J (fun hg=>aL bJ J J (aI J hg))<|bW J J J J (fun hg=>cN J)<|bW J J J J (fun hg=>fH (aI J hg) (aI J hg))<|bD J J (fun hg=>eH (aI J hg) (fun hb=>(aI J (oI hg (mR hb)))) (fun hb=>(h1t3 (oI hg hb)).2) (fun hb=>h0t3 hg hb))<|zo J (dv (ht J) (fun hb=>(aI J hb)) (fun hb=>(h1t2 hb).2) h0t2)<|bu J<|aK<|al<|an<|ak<|zo rfl (lk (cQ hx1 hN1) rfl)<|aA rfl<|aK ?_;exact aW (aM (ih1 (i1+1) t2 ⟨cP hx1,h⟩) (bh J))
 ·obtain⟨hx,h⟩:=h
  refine au<|aq<|zo J (fM J J)<|ap<|ae<|br (ht J) (dn hx)<|eK<|ae<|av<|aq<|zo J (j8 pN mQ J J J (dB hx))<|zo J (bE mQ J J)<|aX (r:=bR) (x:=H4) mQ (fun _=>n7 _) J fun b=>aC mQ J ax J (ht J) (ht J)<|aT 5 J<|ap<|ak<|aA J<|aA J ?_;refine bP h fun t4 q_t4 h=>bD J J (fun hg=>bZ Dk q9 J J)<|bD J J (fun hg=>aL bJ J J (aI J hg)) ?_
  obtain⟨r2,h1t4,h0t4⟩:=og q_t4
  have q_r2g:=fun hb=>(h1t4 hb).1
  refine bD J J (fun hg=>aO NR (Jf _ (q_r2g hg)) ⟨(aI J hg),be⟩)<|bD J J (fun hg=>Iq (aI J hg) hS)<|zo J (dv (ht J) (fun hb=>(aI J hb)) (fun hb=>(h1t4 hb).2) h0t4)<|bu J<|aK<|al<|an<|ak<|zo rfl (lk (cQ hx hN) rfl)<|aA rfl<|aK ?_;exact aW (aM (ih (i+1) t4 ⟨cP hx,h⟩) (bh J))

theorem JG(t:bo){R:Bool}(h:iL t=some R):bg aP 105 [tD cg t] (ij R):=by
 refine bg.of Tryz.func105 J J J fun w0 S0=>aq<|zo J (mp J)<|zo J (fP)<|ap<|aq<|zo J (bE nQ J J)<|bP h fun r q_r h=>zo J (aO Ou (JF _ q_r) ⟨(ht J),be⟩)<|zo J (s3 J)<|bu J<|ap<|am ?_;cases so h;exact aH J J

theorem Ex(s:(List bo))(f:(bo→Option Bool)){R:Int}(h:cS s f=some R):bg aP 173 [fX (cg) s,(fC aP DX lX (fun(x:bo)=>f x))] (cd R):=by
 refine bg.of Tryz.func173 J J J fun w0 S0=>aq<|zo J (fg)<|ap<|ae<|aq<|aA J<|zo J (jL pq J)<|zo J (bj hI)<|ap<|av<|aY (k:=6) J fun hN=>bO ?_;refine aM (eC (Z:=fun ls i=>(s.drop i=ls)∧bG f ls i=some R) (Of:=fun _ i=>[]) (Gf:=fun _ i=>[(0,fX (cg) s),(1,(fC aP DX lX (fun(x:bo)=>f x))),(7,jt s),(8,cd (i:Int))]) (fun i h=>?_) (fun e tl ih i h=>?_) s 0 ⟨J,h⟩) (bh J)
 ·obtain⟨hx,h⟩:=h
  refine au<|aq<|zo J (fM J J)<|ap<|ae<|bt (ht J) (du hx)<|bn ?_;refine ac (ac (aG ?_));refine an<|aq<|zo rfl (fg)<|ap<|am ?_;cases so h;exact aH J J
 ·obtain⟨hx,h⟩:=h
  refine au<|aq<|zo J (fM J J)<|ap<|ae<|br (ht J) (dn hx)<|eK<|ae<|av<|aq<|aA J<|bu J<|ap<|aq<|aA J<|aA J<|aA J<|zo J (j8 pq nQ J J J (dB hx)) ?_;refine zo J (bE nQ J J)<|bP h fun r q_r h=>zo J (gz (args:=DX) (res:=yi) (f:=(fun(x:bo)=>f x)) (x:=((e):bo)) (ht J) q_r ⟨(ht J),be⟩)<|ap<|dQ h J (fun h=>?_) (fun h=>?_)
  ·refine aq<|aA J<|bu J<|ap<|am ?_;refine aF (aa (aa (aF (aa ?_))));cases so h;exact aH J J
  ·refine bC<|al<|an<|ak<|zo rfl (lk (cQ hx hN) rfl)<|aA rfl<|aK ?_;exact aW (aM (ih (i+1) ⟨cP hx,h⟩) (bh J))

end Go.Proofs.YtmogpgcfognefaaGreatDoor

