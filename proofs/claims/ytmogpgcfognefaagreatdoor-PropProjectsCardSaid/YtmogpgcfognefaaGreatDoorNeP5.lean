/- co of this claim: P5. -/
import Derived.Test.YtmogpgcfognefaaGreatDoorNeT
import Derived.Test.YtmogpgcfognefaaGreatDoorNeP4
set_option linter.all false
namespace Go.Proofs.YtmogpgcfognefaaGreatDoor
open Go
set_option maxRecDepth 100000

theorem TH(nodes:(List aK)){R:(List (List Int))×Int×Int}(h:jY nodes=some R):aN aM 16 [d7 (aW) nodes] (tT [d7 (iv) R.1,bH R.2.1,bH R.2.2]):=by
 refine aN.of Tryz.func16 J J J fun w0 S0=>aq<|zo J (bm (show aE _ _ _ (d7 (iv) ([]))from uf))<|zo J (cQ)<|zo J (cQ)<|an<|yI<|ae<|aq<|aA J<|zo J (ja qy J)<|zo J (dI (ht J) hI)<|aA J<|cN J J (fun hg=>cL J)<|cN J J (fun hg=>bN qy (aS J hg))<|cN J J (fun hg=>gx (aS J hg) hI)<|zo J (pZ J J)<|an<|cX h J (fun h=>?_) (fun h=>?_)
 ·refine aq<|zo J (bm (show aE _ _ _ (d7 (iv) ([]))from uf))<|zo J (cQ)<|zo J (cQ)<|an<|aj ?_;refine aa (lG ?_);cases so h;exact ol J J J J
 ·refine dA<|aq<|aA J<|zo J (cb (r:=rH be [(1,.slice none 0 0),(2,.slice none 0 0)]) (y:=(⟨nodes,[],[],Dj,[],[],[]⟩:al)) Ut UR (zH N0 ⟨J,J,aU⟩) (⟨_,_,_,_,_,J,Ux KN J J,J,(ht J),J⟩))<|yz (ht J) J fun b=>cm true iv 29<|cm false bQ 3 ?_;refine(show RG _ _ _ _ [cG bQ 3 none 0 mu,eF iv 29 none 0 Sb,bx (rH be [(1,aw none 0 Sb.length),(2,aw none 0 mu.length)]) 124 b (⟨nodes,[],[],Dj,[],[],[]⟩:al)] _ from ?_);refine bk J<|an<|aq<|bF h fun r q_r h=>zo J (aD Yl (Tx q_r) trivial)<|bk J<|an<|aq<|zo J (cQ)<|an<|ae<|yJ<|au<|ae<|aq<|aA rfl<|zo rfl (ja qy rfl)<|zo rfl (bl hI) ?_;refine an ?_;refine zE (Z:=fun wrong ob l c l1 c1=>pe nodes wrong ob=some R) (Of:=fun wrong ob l c l1 c1=>[bx (rH be [(1,aw l c ob.kinds.length),(2,aw l1 c1 ob.open_.length)]) 124 b ob,eF iv 29 l c ob.kinds,cG bQ 3 l1 c1 ob.open_]) (Gf:=fun wrong ob l c l1 c1=>[(0,d7 (aW) nodes),(5,tV (aI b 0)),(7,bH wrong)]) (fun wrong ob l c l1 c1 h=>?_) (fun K=>?_)
  ·skip
   refine au ?_;refine fD (Z:=fun wrong1=>pc ob wrong1=some R) (Of:=fun wrong1=>[bx (rH be [(1,aw l c ob.kinds.length),(2,aw l1 c1 ob.open_.length)]) 124 b ob,eF iv 29 l c ob.kinds,cG bQ 3 l1 c1 ob.open_]) (Gf:=fun wrong1=>[(5,tV (aI b 0)),(7,bH wrong1)]) (fun wrong1 h=>?_) (fun K1=>?_)
   ·skip
    refine ae<|aq<|aA J<|zo J (dQ (ht J) hI)<|an<|cX h J (fun h=>?_) (fun h=>?_)
    ·refine aq<|aA J<|zo J (bm (show aE _ _ _ (d7 (iv) ([]))from uf))<|bk J<|zo J (cQ)<|an<|aj ?_;refine aa (lG ?_);refine ba<|ba<|ba ?_;cases so h;exact ol J J J J
    ·refine dA<|aq<|cm false iv 29<|zo J (bm vP)<|an<|ae<|aq<|aA J<|zo J (bj (ht J))<|zo J (fI 1 A1 J J J)<|zo J (BI CS J (.tail _ (.head _)) (.tail _ (.tail _ (.head _))) (ht J))<|zo J (bN uh (pC (ht J)))<|zo J (bl hI)<|an<|ax<|LM<|LO 61 J<|aV (k:=61) J fun hN=>bB ?_;refine d3<|fc<|d3<|d3 ?_;refine aJ (mp (Z:=fun ls i out l2 c2=>(ob.kinds.drop i=ls)∧lx ls out=some R) (Of:=fun _ i out l2 c2=>[cG iv 29 l2 c2 out,bx (rH be [(1,aw l c ob.kinds.length),(2,aw l1 c1 ob.open_.length)]) 124 b ob,eF iv 29 l c ob.kinds,cG bQ 3 l1 c1 ob.open_]) (Gf:=fun _ i out l2 c2=>[(10,pQ l2 c2 out),(61,d7 (iv) ob.kinds),(62,hM ob.kinds),(63,bH (i:Int))]) (fun i out l2 c2 h=>?_) (fun e tl ih i out l2 c2 h=>?_) ob.kinds 0 Sb none 0 ⟨J,h⟩) (aZ J)
     ·obtain⟨hx,h⟩:=h
      refine av<|aq<|zo J (eK J J)<|an<|ae<|bp (ht J) (cW hx)<|bg ?_;refine ac (ac (aF ?_));refine au<|aq<|aA rfl<|bk rfl<|zo rfl (cQ)<|zo rfl (cQ)<|an<|aj<|lG<|gG<|gh 10 rfl<|gh 73 rfl<|gh 2 rfl<|qv 2 rfl<|ba<|ba<|ba<|ba ?_;cases so h;exact ol J J J J
     ·obtain⟨hx,h⟩:=h
      refine av<|aq<|zo J (eK J J)<|an<|ae<|bo (ht J) (cU hx)<|dA<|ae<|ax<|aq<|zo J (iX uh ce J J J (cP hx))<|zo J (bz ce J J)<|bk J<|an<|ai<|aA J<|aA J<|bF h fun r1 q_r1 h=>ll Nv (A2 _ q_r1) ⟨(ht J),aU⟩ J fun l3 c3=>?_;refine oZ<|oc 69 J<|zo J (aP (r:=wd) (ys:=[r1]) (xs:=[.tmp 69]) uh ce J J J J J ⟨(pC (ht J)),aU⟩)<|bD<|bF h fun out1 q_out1 h=>ep ce J J J J uh J J (ht J) (ht J) q_out1 fun l4 c4=>bk J<|aH<|am<|au<|ai<|zo rfl (jU (cz hx hN) rfl)<|aA rfl<|aH<|aX<|ba ?_;exact aT (aJ (ih (i+1) out1 l4 c4 ⟨cy hx,h⟩) (aZ J))
   ·skip
    refine aq<|aA J<|zo J (dI (ht J) hI)<|aA J<|bO J J (fun hg=>cL J)<|bO J J (fun hg=>bj (aS J hg))<|bO J J (fun hg=>bP (n:=2) qi J (aS J hg) J)<|bO J J (fun hg=>mh ce J (.head _) (aS J hg))<|bO J J (fun hg=>fA dm (.tail _ (.tail _ (.head _))) (aS J hg))<|bO J J (fun hg=>dg (aS J hg) hI)<|zo J (la J J)<|an<|cX h J (fun h=>?_) (fun h=>?_)
    ·refine ai<|aA J<|zo J (ja qy J)<|zo J (fK (ht J) hI)<|bk J<|aH ?_;exact bL (K1 (IntKind.i64.wrap ((nodes.length:Int)-(1:Int))) h) (aZ J)
    ·refine bA ?_;exact bL (K1 wrong h) (aZ J)
  ·skip
   refine aV (k:=25) J fun hN1=>bB<|fc<|jI ?_;refine aJ (yE (Z:=fun ls1 i1 wrong2 ob1 l5 c5 l6 c6=>(nodes.drop i1=ls1)∧gn nodes r ls1 i1 wrong2 ob1=some R) (Of:=fun _ i1 wrong2 ob1 l5 c5 l6 c6=>[bx (rH be [(1,aw l5 c5 ob1.kinds.length),(2,aw l6 c6 ob1.open_.length)]) 124 b ob1,eF iv 29 l5 c5 ob1.kinds,cG bQ 3 l6 c6 ob1.open_]) (Gf:=fun _ i1 wrong2 ob1 l5 c5 l6 c6=>[(0,d7 (aW) nodes),(5,tV (aI b 0)),(6,CU (fun y:(al→Unit→Option (Bool×al))=>na (fun bb=>iI aM (fun(x:Unit)=>[tV (aI bb 0)]) (dS bb) mr y)) sx r),(7,bH wrong2),(25,d7 (aW) nodes),(26,hM nodes),(27,bH (i1:Int))]) (fun i1 wrong2 ob1 l5 c5 l6 c6 h=>?_) (fun e1 tl1 ih1 i1 wrong2 ob1 l5 c5 l6 c6 h=>?_) nodes 0 mt (⟨nodes,[],[],Dj,[],[],[]⟩:al) none 0 none 0 ⟨J,h⟩) (aZ J)
   ·obtain⟨hx1,h⟩:=h
    refine av<|aq<|zo J (eK J J)<|an<|ae<|bp (ht J) (cW hx1)<|bg ?_;refine ac (ac (aF ?_));exact bL (K wrong2 ob1 l5 c5 l6 c6 h) (aZ J)
   ·obtain⟨hx1,h⟩:=h
    refine av<|aq<|zo J (eK J J)<|an<|ae<|bo (ht J) (cU hx1)<|dA<|ae<|ax<|aq<|aA J<|zo J (iX qy eC J J J (cP hx1))<|zo J (bz eC J J)<|aO (r:=aW) (x:=Dj) eC (fun _=>fE _) J fun b1=>bk J<|ay eC J ap J (ht J) (ht J)<|aL 9 J<|an<|ae ?_;refine ai<|aA J<|aA J<|aA J<|zo J (cd iq da J J)<|zo J (bz bJ J J)<|zo J (uY (γ:=(fun y:(al→Unit→Option (Bool×al))=>na (fun bb=>iI aM (fun(x:Unit)=>[tV (aI bb 0)]) (dS bb) Av y))) (z:=(fun _ _=>none)) Ar (di ou) Uj (fun _ _=>KB) (ht J) (kp (ht J)))<|bF h fun r2 q_r2 h=>vo (EffOK.fr2 (EffOK.fr2 (EffOK.fr2 (zm (xs:=[.tmp 32,.tmp 33,.tmp 37]) (ts:=[tV (aI b 0),bH (i1:Int),na (fun bb=>iI aM (fun(x:Unit)=>[tV (aI bb 0)]) (dS bb) mr ((nV r e1.Op).getD (fun _ _=>none)))]) (dS b ob1 (K0 [(l5,c5),(l6,c6)])) _ J Yk (U9 b (K0 [(l5,c5),(l6,c6)]) ob1 _ _ q_r2) ⟨(ht J),(ht J),(ht J),aU⟩ (fun _=>J))))) J fun i2=>?_;refine(show RG _ _ _ _ [bx (rH be [(1,aw (i2.h 0).1 (i2.h 0).2 r2.2.kinds.length),(2,aw (i2.h 1).1 (i2.h 1).2 r2.2.open_.length)]) 124 b r2.2,eF iv 29 (i2.h 0).1 (i2.h 0).2 r2.2.kinds,cG bQ 3 (i2.h 1).1 (i2.h 1).2 r2.2.open_] ((38,gK r2.1)::_)from ?_);refine zo J (dH (ht J))<|an<|cX h J (fun h=>?_) (fun h=>?_)
    ·refine aq<|aA J<|bk J<|an<|bg ?_;refine bM J (ac (ac (aF ?_)));exact bL (K (i1:Int) r2.2 (i2.h 0).1 (i2.h 0).2 (i2.h 1).1 (i2.h 1).2 h) (aZ J)
    ·refine bA<|am<|au<|ai<|zo rfl (jU (cz hx1 hN1) rfl)<|aA rfl<|aH ?_;exact aT (aJ (ih1 (i1+1) wrong2 r2.2 (i2.h 0).1 (i2.h 0).2 (i2.h 1).1 (i2.h 1).2 ⟨cy hx1,h⟩) (aZ J))

theorem Jy(c:Int){R:Bool}(h:sG c=some R):aN aM 226 [tD (rI .i32) c] (gK R):=by
 refine aN.of Tryz.func226 J J J fun w0 S0=>aq<|zo J (fJ)<|an<|aq<|aA J<|zo J (dQ (ht J) hI)<|aA J<|bO J J (fun hg=>cL J)<|bO J J (fun hg=>iT (aS J hg) hI)<|zo J (la J J)<|bk J<|an<|aj ?_;cases so h;exact aB J J

theorem O3(s:(List im))(v:im){R:Int}(h:jj s v=some R):aN aM 279 [d7 (rS) s,tD rS v] (bH R):=by
 refine aN.of Tryz.func279 J J J fun w0 S0=>aq<|zo J (cQ)<|an<|ae<|aq<|aA J<|zo J (ja FP J)<|zo J (bl hI)<|an<|ax<|aV (k:=6) J fun hN=>bB ?_;refine aJ (d6 (Z:=fun ls i=>(s.drop i=ls)∧ei v ls i=some R) (Of:=fun _ i=>[]) (Gf:=fun _ i=>[(0,d7 (rS) s),(1,tD rS v),(7,hM s),(8,bH (i:Int))]) (fun i h=>?_) (fun e tl ih i h=>?_) s 0 ⟨J,h⟩) (aZ J)
 ·obtain⟨hx,h⟩:=h
  refine av<|aq<|zo J (eK J J)<|an<|ae<|bp (ht J) (cW hx)<|bg ?_;refine ac (ac (aF ?_));refine au<|aq<|zo rfl (cQ)<|an<|aj ?_;cases so h;exact aB J J
 ·obtain⟨hx,h⟩:=h
  refine av<|aq<|zo J (eK J J)<|an<|ae<|bo (ht J) (cU hx)<|dA<|ae<|ax<|aq<|aA J<|bk J<|an<|aq<|aA J<|aA J<|aA J<|zo J (iX FP ED J J J (cP hx)) ?_;refine zo J (bz ED J J)<|zo J (AV (ht J) (ht J))<|an<|cX h J (fun h=>?_) (fun h=>?_)
  ·refine aq<|aA J<|bk J<|an<|aj ?_;refine aC (aa (aa (aC (aa ?_))));cases so h;exact aB J J
  ·refine bA<|am<|au<|ai<|zo rfl (jU (cz hx hN) rfl)<|aA rfl<|aH ?_;exact aT (aJ (ih (i+1) ⟨cy hx,h⟩) (aZ J))

theorem Pc(s:(List im))(v:im){R:Bool}(h:ip s v=some R):aN aM 256 [d7 (rS) s,tD rS v] (gK R):=by
 refine aN.of Tryz.func256 J J J fun w0 S0=>aq<|zo J (fJ)<|an<|aq<|aA J<|aA J<|bF h fun r q_r h=>zo J (aD Vm (O3 _ _ q_r) ⟨(ht J),(ht J),aU⟩)<|zo J (dQ (ht J) hI)<|bk J<|an<|aj ?_;cases so h;exact aB J J

theorem Po(s:im){R:Bool}(h:tt s=some R):aN aM 227 [tD rS s] (gK R):=by
 refine aN.of Tryz.func227 J J J fun w0 S0=>aq<|zo J (fJ)<|an<|aq<|zo J (zA (r:=iS rS 28) (x:=UM) gm2 gr2 (KW Tryz.underlying292 ED J MW))<|aA J<|bF h fun r q_r h=>zo J (aD Vw (Pc _ _ q_r) ⟨(ht J),(ht J),aU⟩)<|bk J<|an<|aj ?_;cases so h;exact aB J J

theorem Pn(s:im){R:im}(h:iD s=some R):aN aM 228 [tD rS s] (tD rS R):=by
 unfold iD at h
 split at h
 ·rename_i hl
  cases h
  refine Hc fun w hw=>?_
  have:=Any.strings_ToUpper_any sn upX ⟨s.toArray⟩ w (by rw [J1];exact hl) hw.1 hw.2
  simp only [List.toList_toArray]at this
  exact this
 ·cases h

theorem Pm(c:Int){R:Bool}(h:vM c=some R):aN aM 229 [tD (rI .i32) c] (gK R):=by
 refine aN.of Tryz.func229 J J J fun w0 S0=>aq<|zo J (fJ)<|an<|aq<|aA J<|zo J (dQ (ht J) hI)<|aA J<|bO J J (fun hg=>cL J)<|bO J J (fun hg=>iT (aS J hg) hI)<|zo J (la J J)<|bk J<|an<|aj ?_;cases so h;exact aB J J

theorem Fj(s:im){R:Bool}(h:oM s=some R):aN aM 169 [tD rS s] (gK R):=by
 refine aN.of Tryz.func169 J J J fun w0 S0=>aq<|zo J (fJ)<|an<|ae<|aq<|aA J<|zo J (AV (ht J) hS)<|aA J<|cN J J (fun hg=>cL J)<|cN J J (fun hg=>E1 kc (aS J hg))<|cN J J (fun hg=>gx (aS J hg) hI)<|zo J (pZ J J)<|aA J<|bF h fun t q_t h=>cN J J (fun hg=>cL J) ?_
 obtain⟨b,h1t,h0t⟩:=og q_t
 have q_bg:=fun hb=>(h1t hb).1
 refine cN J J (fun hg=>KY kc (aS J hg) hI (q_bg hg))<|cN J J (fun hg=>pf Dh Tryz.underlying21 (aS J hg)) ?_
 obtain⟨r,h1t⟩:=OG (fun hb=>(h1t hb).2)
 have q_rg:=fun hb=>(h1t hb).1
 refine cN J J (fun hg=>aD RK (Jy _ (q_rg hg)) ⟨(aS J hg),aU⟩)<|cN J J (fun hg=>dH (aS J hg))<|zo J (fi (ht J) (fun hb=>(aS J (oL hb))) (fun hb=>(h1t hb).2) h0t)<|aA J<|bF h fun t1 q_t1 h=>cN J J (fun hg=>cL J) ?_
 obtain⟨r1,h1t1,h0t1⟩:=og q_t1
 have q_r1g:=fun hb=>(h1t1 hb).1
 refine cN J J (fun hg=>aD VH (Pn _ (q_r1g hg)) ⟨(aS J hg),aU⟩) ?_
 obtain⟨r2,h1t1⟩:=OG (fun hb=>(h1t1 hb).2)
 have q_r2g:=fun hb=>(h1t1 hb).1
 refine cN J J (fun hg=>aD VI (Po _ (q_r2g hg)) ⟨(aS J hg),aU⟩)<|zo J (fi (ht J) (fun hb=>(aS J (oL hb))) (fun hb=>(h1t1 hb).2) h0t1)<|an<|cX h J (fun h=>?_) (fun h=>?_)
 ·refine aq<|zo J (fJ)<|an<|aj<|aa ?_;cases so h;exact aB J J
 ·refine dA<|ae<|aq<|aA J<|Hg kc (ht J) J fun rg=>an<|ax<|bB ?_;refine aJ (T6 (β:=Int×Int) (Z:=fun ls=>mW ls=some R) (Of:=fun ls=>[CV rg s ls]) (Gf:=[(25,tV (aI rg 0))]) (fun ls h ih=>?_) (Gb s) h) (aZ J);refine av<|aq ?_;refine IK (ht J) J (fun hl=>?_) (fun e tl hk=>?_)
  ·subst hl
   refine zo J (E2 (ht J))<|an<|ae<|bp (ht J) J<|bg ?_;refine ac (ac (aF ?_));refine au<|aq<|zo rfl (fJ)<|an<|aj<|ba ?_;cases so h;exact aB J J
  ·subst hk
   refine zo J (wD (i:=0) J (ht J))<|an<|ae<|bo (ht J) J<|dA<|ax<|aq<|zo J (wD (i:=2) J (ht J))<|bk J<|an<|aq<|aA J<|bF h fun r3 q_r3 h=>zo J (aD VG (Pm _ q_r3) ⟨(ht J),aU⟩)<|zo J (dH (ht J))<|aA J<|bF h fun t2 q_t2 h=>bO J J (fun hg=>cL J) ?_
   obtain⟨r4,h1t2,h0t2⟩:=og q_t2
   have q_r4g:=fun hb=>(h1t2 hb).1
   refine bO J J (fun hg=>aD RK (Jy _ (q_r4g hg)) ⟨(aS J hg),aU⟩)<|bO J J (fun hg=>dH (aS J hg))<|zo J (dF (ht J) (fun hb=>(aS J hb)) (fun hb=>(h1t2 hb).2) h0t2)<|aA J<|bO J J (fun hg=>cL J)<|bO J J (fun hg=>dg (aS J hg) hI)<|zo J (la J J)<|an<|cX h J (fun h=>?_) (fun h=>?_)
   ·refine aq<|zo J (fJ)<|an<|aj ?_;refine aC (aa (aC (aa ?_)));refine ba ?_;cases so h;exact aB J J
   ·refine bA<|am ?_;exact aT (aJ (ih tl (by simp) h) (aZ J))

theorem Pb(s:(List bw))(f:(bw→Option Bool)){R:Int}(h:ff s f=some R):aN aM 263 [d7 (cB) s,(dJ aM Aw mr (fun(x:bw)=>f x))] (bH R):=by
 refine aN.of Tryz.func263 J J J fun w0 S0=>aq<|zo J (cQ)<|an<|ae<|aq<|aA J<|zo J (ja xj J)<|zo J (bl hI)<|an<|ax<|aV (k:=6) J fun hN=>bB ?_;refine aJ (d6 (Z:=fun ls i=>(s.drop i=ls)∧cu f ls i=some R) (Of:=fun _ i=>[]) (Gf:=fun _ i=>[(0,d7 (cB) s),(1,(dJ aM Aw mr (fun(x:bw)=>f x))),(7,hM s),(8,bH (i:Int))]) (fun i h=>?_) (fun e tl ih i h=>?_) s 0 ⟨J,h⟩) (aZ J)
 ·obtain⟨hx,h⟩:=h
  refine av<|aq<|zo J (eK J J)<|an<|ae<|bp (ht J) (cW hx)<|bg ?_;refine ac (ac (aF ?_));refine au<|aq<|zo rfl (cQ)<|an<|aj ?_;cases so h;exact aB J J
 ·obtain⟨hx,h⟩:=h
  refine av<|aq<|zo J (eK J J)<|an<|ae<|bo (ht J) (cU hx)<|dA<|ae<|ax<|aq<|aA J<|bk J<|an<|aq<|aA J<|aA J<|aA J<|zo J (iX xj p8 J J J (cP hx)) ?_;refine zo J (bz p8 J J)<|bF h fun r q_r h=>zo J (ej (args:=Aw) (res:=Av) (f:=(fun(x:bw)=>f x)) (x:=((e):bw)) (ht J) q_r ⟨(ht J),aU⟩)<|an<|cX h J (fun h=>?_) (fun h=>?_)
  ·refine aq<|aA J<|bk J<|an<|aj ?_;refine aC (aa (aa (aC (aa ?_))));cases so h;exact aB J J
  ·refine bA<|am<|au<|ai<|zo rfl (jU (cz hx hN) rfl)<|aA rfl<|aH ?_;exact aT (aJ (ih (i+1) ⟨cy hx,h⟩) (aZ J))

theorem Pa(of:(bw→Option im))(name:im)(p:bw){R:Bool}(h:eo of name p=some R):aN aM 264 [tD cB p,bq (rT ((dJ aM Aw we (fun(x:bw)=>of x)))) (),bq rS name] (gK R):=by
 refine aN.of Tryz.func264 J J J fun w0 S0=>aq<|zo J (jh J)<|zo J (fJ)<|an<|ae<|bF h fun r q_r h=>?_
 refine eG (ts:=[_,_,_,_,_,_]) mixed J J
  ⟨ia 1 J J J (q5 Uo (ht J)),
  ⟨ia 3 J J J (bz p8 J J),
  ⟨ft 5 0 6 1 J J J J (ej (args:=Aw) (res:=we) (f:=(fun(x:bw)=>of x)) (x:=((p):bw)) (ht J) q_r ⟨(ht J),aU⟩),
  ⟨ia 2 J J J (bz ED J J),
  ⟨ft 7 2 8 3 J J J J (AV (ht J) (ht J)),
  ⟨cO 9 4 J J J (zM J),
  aU⟩⟩⟩⟩⟩⟩ ?_
 refine au<|aj ?_;cases so h;exact aB J J

theorem Pk(l:(List bw))(of:(bw→Option im))(name:im){R:Int×Bool}(h:iB l of name=some R):aN aM 230 [d7 (cB) l,(dJ aM Aw we (fun(x:bw)=>of x)),tD rS name] (tT [bH R.1,gK R.2]):=by
 refine aN.of Tryz.func230 J J J fun w0 S0=>aq<|zo J (xQ (ht J))<|zo J (jh J)<|zo J (cQ)<|zo J (fJ)<|an<|aq<|aA J<|zo J ((show bS _ _ _ _ ((dJ aM Aw mr (fun(x:bw)=>(eo of name) x)))from eJ (cts:=[bq (rT ((dJ aM Aw we (fun(x:bw)=>of x)))) (),bq rS name]) (caps:=[.tmp 4,.tmp 5]) Vu ⟨(ht J),(ht J),aU⟩ (fun x y h=>Pa _ _ _ h)))<|bF h fun r q_r h=>zo J (aD Vv (Pb _ _ q_r) ⟨(ht J),(ht J),aU⟩)<|bk J<|an<|aq<|aA J<|zo J (xO (ht J) hI)<|aA J<|zo J (dQ (ht J) hI) ?_;refine bk J<|bk J<|an<|aj ?_;cases so h;exact d5 J J J

theorem PW(l:(List bw))(of:(bw→Option im)){R:Bool}(h:kx l of=some R):aN aM 170 [d7 (cB) l,(dJ aM Aw we (fun(x:bw)=>of x))] (gK R):=by
 refine aN.of Tryz.func170 J J J fun w0 S0=>aq<|zo J (fJ)<|an<|ae<|aq<|aA J<|zo J (ja xj J)<|zo J (bl hI)<|an<|ax<|aV (k:=9) J fun hN=>bB ?_;refine aJ (d6 (Z:=fun ls i=>(l.drop i=ls)∧fj l of ls i=some R) (Of:=fun _ i=>[]) (Gf:=fun _ i=>[(0,d7 (cB) l),(1,(dJ aM Aw we (fun(x:bw)=>of x))),(9,d7 (cB) l),(10,hM l),(11,bH (i:Int))]) (fun i h=>?_) (fun e tl ih i h=>?_) l 0 ⟨J,h⟩) (aZ J)
 ·obtain⟨hx,h⟩:=h
  refine av<|aq<|zo J (eK J J)<|an<|ae<|bp (ht J) (cW hx)<|bg ?_;refine ac (ac (aF ?_));refine au<|aq<|zo rfl (fJ)<|an<|aj ?_;cases so h;exact aB J J
 ·obtain⟨hx,h⟩:=h
  refine av<|aq<|zo J (eK J J)<|an<|ae<|bo (ht J) (cU hx)<|dA<|ae<|ax<|aq<|aA J<|zo J (iX xj p8 J J J (cP hx))<|zo J (bz p8 J J)<|aO (r:=cB) (x:=Sf) p8 (fun _=>qm _) J fun b=>bk J<|ay p8 J ap J (ht J) (ht J)<|aL 6 J<|an<|ae ?_;refine ai<|aA J<|aA J<|aA J<|zo J (bz p8 J J)<|bF h fun r q_r h=>zo J (ej (args:=Aw) (res:=we) (f:=(fun(x:bw)=>of x)) (x:=((e):bw)) (ht J) q_r ⟨(ht J),aU⟩)<|bF h fun r1 q_r1 h=>zo J (aD VF (Pk _ _ _ q_r1) ⟨(ht J),(ht J),(ht J),aU⟩)<|aA J<|zo J (hY J J)<|zo J (hY J J)<|bk J<|bk J<|an<|aq<|aA J<|aA J<|zo J (dg (ht J) (ht J))<|aA J<|bF h fun t q_t h=>cN J J (fun hg=>cL J) ?_;refine cN J J (fun hg=>bz p8 J J) ?_
  obtain⟨r2,h1t,h0t⟩:=og q_t
  have q_r2g:=fun hb=>(h1t hb).1
  refine cN J J (fun hg=>ej (args:=Aw) (res:=we) (f:=(fun(x:bw)=>of x)) (x:=((e):bw)) (aS J hg) (q_r2g hg) ⟨(aS J hg),aU⟩) ?_
  obtain⟨r3,h1t⟩:=OG (fun hb=>(h1t hb).2)
  have q_r3g:=fun hb=>(h1t hb).1
  refine cN J J (fun hg=>aD Nx (Fj _ (q_r3g hg)) ⟨(aS J hg),aU⟩)<|cN J J (fun hg=>dH (aS J hg))<|zo J (fi (ht J) (fun hb=>(aS J (oL hb))) (fun hb=>(h1t hb).2) h0t)<|an<|cX h J (fun h=>?_) (fun h=>?_)
  ·refine aq<|zo J (fJ)<|an<|aj ?_;refine aC (aa (aa (aC (aa ?_))));cases so h;exact aB J J
  ·refine bA<|am<|au<|ai<|zo rfl (jU (cz hx hN) rfl)<|aA rfl<|aH ?_;exact aT (aJ (ih (i+1) ⟨cy hx,h⟩) (aZ J))

theorem PV(c:bw){R:im}(h:ew c=some R):aN aM 171 [tD cB c] (tD rS R):=by
 refine aN.of Tryz.func171 J J J fun w0 S0=>aq<|zo J (jh J)<|zo J (bm hS)<|an<|aq<|zo J (cd Tc GP J J)<|zo J (bz ED J J)<|bk J<|an<|aj ?_;cases so h;exact aB J J

theorem PU(kind:Int){R:im}(h:ql kind=some R):aN aM 172 [bH kind] (tD rS R):=by
 refine aN.of Tryz.func172 J J J fun w0 S0=>aq<|zo J (bm hS)<|an<|ae<|aq<|zo J (zA (r:=(iS tf 3)) (x:=S6) gm0 gr0 (aY Un J J MW))<|zo J (bl hI)<|an<|ax<|bB ?_;refine aJ (FD (Z:=fun k i=>(3-i=k)∧iH kind k i=some R) (Of:=fun _ i=>[]) (Gf:=fun _ i=>[(0,bH kind),(5,tD (iS tf 3) S6),(6,bH (i:Int))]) (fun i h=>?_) (fun k1 ih i h=>?_) 3 0 ⟨J,h⟩) (aZ J)
 ·obtain⟨hx,h⟩:=h
  refine av<|aq<|zo J (dI (ht J) hI)<|an<|ae<|bp (ht J) (Ld hx)<|bg ?_;refine ac (ac (aF ?_));refine au<|aq<|zo rfl (bm hS)<|an<|aj ?_;cases so h;exact aB J J
 ·obtain⟨hx,h⟩:=h
  refine av<|aq<|zo J (dI (ht J) hI)<|an<|ae<|bo (ht J) (Lc hx)<|dA<|ae<|ax<|aq<|bF h fun e1 q_e1 h=>zo J (y8 Tryz.underlying271 Mh J J (ht J) (ht J) q_e1)<|aO (r:=tf) (x:=(⟨[],(0:Int)⟩:CB)) Mh (fun _=>N1 _) J fun b=>ay Mh J ap J (ht J) (ht J)<|aL 4 J<|an<|aq<|zo J (cd OW Ls J J) ?_;refine zo J (bz bJ J J)<|aA J<|zo J (bK (ht J) (ht J))<|an<|cX h J (fun h=>?_) (fun h=>?_)
  ·refine aq<|zo J (cd OX Lt J J)<|zo J (bz ED J J)<|bk J<|an<|aj ?_;refine aC (aa (aa (aC (aa ?_))));cases so h;exact aB J J
  ·refine bA<|am<|au<|ai<|zo rfl (rA (Ii hx (by decide)) (ht rfl) hI)<|aA rfl<|aH ?_;exact aT (aJ (ih (i+1) ⟨Ih hx,h⟩) (aZ J))

theorem QB(t:bu){R:Int}(h:kV t=some R):aN aM 106 [tD dO t] (bH R):=by
 refine aN.of Tryz.func106 J J J fun w0 S0=>aq<|zo J (jh J)<|zo J (cQ)<|an<|aq<|zo J (cd M5 B5 J J)<|zo J (bz ED J J)<|bF h fun r q_r h=>zo J (aD Nx (Fj _ q_r) ⟨(ht J),aU⟩)<|aA J<|bO J J (fun hg=>cd u9 oP J J)<|bO J J (fun hg=>aY F4 J J (aS J hg))<|bO J J (fun hg=>bN xj (aS J hg))<|bO J J (fun hg=>dQ (aS J hg) hI)<|zo J (la J J)<|aA J<|bO J J (fun hg=>cd u9 oP J J)<|bO J J (fun hg=>aY F4 J J (aS J hg))<|bO J J (fun hg=>bN xj (aS J hg))<|bO J J (fun hg=>iT (aS J hg) hI) ?_;refine zo J (la J J)<|aA J<|bF h fun t1 q_t1 h=>bO J J (fun hg=>cd u9 oP J J)<|bO J J (fun hg=>aY F4 J J (aS J hg)) ?_
 obtain⟨r1,h1t1,h0t1⟩:=og q_t1
 have q_r1g:=fun hb=>(h1t1 hb).1
 refine bO J J (fun hg=>aD Wj (PW _ _ (q_r1g hg)) ⟨(aS J hg),(sj Wi fun x y h=>PV _ h),aU⟩)<|zo J (dF (ht J) (fun hb=>(aS J hb)) (fun hb=>(h1t1 hb).2) h0t1)<|bk J<|an<|ae<|aq<|zo J (cd u9 oP J J)<|zo J (bz F4 J J)<|zo J (ja xj J)<|zo J (bl hI)<|an<|ax<|aV (k:=29) J fun hN=>bB ?_;refine aJ (ln (Z:=fun ls i ok=>(t.Columns.drop i=ls)∧fO t ls ok=some R) (Of:=fun _ i ok=>[]) (Gf:=fun _ i ok=>[(1,bq dO t),(3,gK ok),(29,d7 (cB) t.Columns),(30,hM t.Columns),(31,bH (i:Int))]) (fun i ok h=>?_) (fun e tl ih i ok h=>?_) t.Columns 0 t1 ⟨J,h⟩) (aZ J)
 ·obtain⟨hx,h⟩:=h
  refine av<|aq<|zo J (eK J J)<|an<|ae<|bp (ht J) (cW hx)<|bg ?_;refine ac (ac (aF ?_));refine au<|ae<|aq<|zo rfl (cd Ca w7 rfl rfl)<|zo rfl (bz ce rfl rfl)<|zo rfl (ja dm rfl)<|zo rfl (bl hI)<|an<|ax<|aV (k:=44) J fun hN1=>bB ?_;refine aJ (ln (Z:=fun ls1 i1 ok1=>(t.Keys.drop i1=ls1)∧eR t ls1 i1 ok1=some R) (Of:=fun _ i1 ok1=>[]) (Gf:=fun _ i1 ok1=>[(1,bq dO t),(3,gK ok1),(44,kz t.Keys),(45,hM t.Keys),(46,bH (i1:Int))]) (fun i1 ok1 h=>?_) (fun e1 tl1 ih1 i1 ok1 h=>?_) t.Keys 0 ok ⟨J,h⟩) (aZ J)
  ·obtain⟨hx1,h⟩:=h
   refine av<|aq<|zo J (eK J J)<|an<|ae<|bp (ht J) (cW hx1)<|bg ?_;refine ac (ac (aF ?_));refine au<|ae<|aq<|aA rfl<|zo rfl (dH (ht rfl))<|an<|cX h rfl (fun h=>?_) (fun h=>?_)
   ·refine aq<|zo J (cQ)<|an<|aj<|aa ?_;cases so h;exact aB J J
   ·refine dA<|aq<|zo J (cQ)<|an<|aj ?_;cases so h;exact aB J J
  ·obtain⟨hx1,h⟩:=h
   refine av<|aq<|zo J (eK J J)<|an<|ae<|bo (ht J) (cU hx1)<|dA<|ae<|ax<|aq<|aA J<|zo J (iX dm bJ J J J (cP hx1))<|zo J (bz bJ J J)<|bk J<|bk J<|an<|ai<|aA J<|aA J ?_;refine bO J J (fun hg=>cL J)<|bO J J (fun hg=>dQ (aS J hg) hI)<|zo J (la J J)<|aA J<|bO J J (fun hg=>cL J)<|bO J J (fun hg=>cd u9 oP J J)<|bO J J (fun hg=>aY F4 J J (aS J hg))<|bO J J (fun hg=>bN xj (aS J hg))<|bO J J (fun hg=>dI (aS J hg) (aS J hg))<|zo J (la J J)<|aA J<|bF h fun t2 q_t2 h=>bO J J (fun hg=>cL J)<|bO J J (fun hg=>bK (aS J hg) hI)<|bO J J (fun hg=>bl (aS J hg)) ?_
   obtain⟨t3,h1t2,h0t2⟩:=og q_t2
   have q_t3g:=fun hb=>(h1t2 hb).1
   refine cA J J J J (fun hg=>cd Ca w7 J J)<|cA J J J J (fun hg=>aY ce J J (aS J hg))<|cA J J J J (fun hg=>cL J)<|cA J J J J (fun hg=>fK (aS J hg) hI) ?_
   obtain⟨e2,h1t3,h0t3⟩:=og3 q_t3g
   have q_e2g:=fun hb=>(h1t3 hb).1
   refine cA J J J J (fun hg=>bX dm bJ J (aS J hg) (aS J hg) (q_e2g hg))<|cA J J J J (fun hg=>aY bJ J J (aS J hg))<|cA J J J J (fun hg=>cL J)<|cA J J J J (fun hg=>dI (aS J hg) (aS J hg))<|bO J J (fun hg=>fi (aS J hg) (fun hb=>(aS J (sK hg (oL hb)))) (fun hb=>(h1t3 (sK hg hb)).2) (fun hb=>h0t3 hg hb))<|zo J (dF (ht J) (fun hb=>(aS J hb)) (fun hb=>(h1t2 hb).2) h0t2)<|bk J<|aH<|am<|au<|ai<|zo rfl (jU (cz hx1 hN1) rfl)<|aA rfl<|aH ?_;exact aT (aJ (ih1 (i1+1) t2 ⟨cy hx1,h⟩) (aZ J))
 ·obtain⟨hx,h⟩:=h
  refine av<|aq<|zo J (eK J J)<|an<|ae<|bo (ht J) (cU hx)<|dA<|ae<|ax<|aq<|zo J (iX xj p8 J J J (cP hx))<|zo J (bz p8 J J)<|aO (r:=cB) (x:=Sf) p8 (fun _=>qm _) J fun b=>ay p8 J ap J (ht J) (ht J)<|aL 5 J<|an<|ai<|aA J<|aA J ?_;refine bF h fun t4 q_t4 h=>bO J J (fun hg=>cd M4 z8 J J)<|bO J J (fun hg=>aY bJ J J (aS J hg)) ?_
  obtain⟨r2,h1t4,h0t4⟩:=og q_t4
  have q_r2g:=fun hb=>(h1t4 hb).1
  refine bO J J (fun hg=>aD Wh (PU _ (q_r2g hg)) ⟨(aS J hg),aU⟩)<|bO J J (fun hg=>OC (aS J hg) hS)<|zo J (dF (ht J) (fun hb=>(aS J hb)) (fun hb=>(h1t4 hb).2) h0t4)<|bk J<|aH<|am<|au<|ai<|zo rfl (jU (cz hx hN) rfl)<|aA rfl<|aH ?_;exact aT (aJ (ih (i+1) t4 ⟨cy hx,h⟩) (aZ J))

theorem QC(t:bu){R:Bool}(h:jH t=some R):aN aM 105 [tD dO t] (gK R):=by
 refine aN.of Tryz.func105 J J J fun w0 S0=>aq<|zo J (jh J)<|zo J (fJ)<|an<|aq<|zo J (bz s6 J J)<|bF h fun r q_r h=>zo J (aD WV (QB _ q_r) ⟨(ht J),aU⟩)<|zo J (rn J)<|bk J<|an<|aj ?_;cases so h;exact aB J J

theorem JE(s:(List bu))(f:(bu→Option Bool)){R:Int}(h:dn s f=some R):aN aM 173 [d7 (dO) s,(dJ aM xu mr (fun(x:bu)=>f x))] (bH R):=by
 refine aN.of Tryz.func173 J J J fun w0 S0=>aq<|zo J (cQ)<|an<|ae<|aq<|aA J<|zo J (ja CJ J)<|zo J (bl hI)<|an<|ax<|aV (k:=6) J fun hN=>bB ?_;refine aJ (d6 (Z:=fun ls i=>(s.drop i=ls)∧bT f ls i=some R) (Of:=fun _ i=>[]) (Gf:=fun _ i=>[(0,d7 (dO) s),(1,(dJ aM xu mr (fun(x:bu)=>f x))),(7,hM s),(8,bH (i:Int))]) (fun i h=>?_) (fun e tl ih i h=>?_) s 0 ⟨J,h⟩) (aZ J)
 ·obtain⟨hx,h⟩:=h
  refine av<|aq<|zo J (eK J J)<|an<|ae<|bp (ht J) (cW hx)<|bg ?_;refine ac (ac (aF ?_));refine au<|aq<|zo rfl (cQ)<|an<|aj ?_;cases so h;exact aB J J
 ·obtain⟨hx,h⟩:=h
  refine av<|aq<|zo J (eK J J)<|an<|ae<|bo (ht J) (cU hx)<|dA<|ae<|ax<|aq<|aA J<|bk J<|an<|aq<|aA J<|aA J<|aA J<|zo J (iX CJ s6 J J J (cP hx)) ?_;refine zo J (bz s6 J J)<|bF h fun r q_r h=>zo J (ej (args:=xu) (res:=Av) (f:=(fun(x:bu)=>f x)) (x:=((e):bu)) (ht J) q_r ⟨(ht J),aU⟩)<|an<|cX h J (fun h=>?_) (fun h=>?_)
  ·refine aq<|aA J<|bk J<|an<|aj ?_;refine aC (aa (aa (aC (aa ?_))));cases so h;exact aB J J
  ·refine bA<|am<|au<|ai<|zo rfl (jU (cz hx hN) rfl)<|aA rfl<|aH ?_;exact aT (aJ (ih (i+1) ⟨cy hx,h⟩) (aZ J))

end Go.Proofs.YtmogpgcfognefaaGreatDoor

