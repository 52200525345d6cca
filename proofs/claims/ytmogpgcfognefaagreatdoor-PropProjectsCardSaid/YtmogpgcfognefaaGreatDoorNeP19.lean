/- co of this claim: P19. -/
import Derived.Test.YtmogpgcfognefaaGreatDoorNeT
import Derived.Test.YtmogpgcfognefaaGreatDoorNeP18
set_option linter.all false
namespace Go.Proofs.YtmogpgcfognefaaGreatDoor
open Go
set_option maxRecDepth 100000

theorem TF(l:(List aK))(kinds:(List Int)){R:hJ}(h:si l kinds=some R):aN aM 24 [d7 (aW) l,kz kinds] (tD dK R):=by
 refine aN.of Tryz.func24 J J J fun w0 S0=>aq<|aO (r:=dK) (x:=N3) rW (fun _=>sZ _) J fun b=>an<|aq<|aA J<|zo J (cb (y:=(⟨l,(1:Int),(3:Int),[]⟩:gJ)) lg OT nI (⟨_,_,_,_,_,J,vA,J,hI,⟨_,_,_,_,_,J,vz,J,hI,⟨_,_,_,_,_,J,vB,J,(ht J),J⟩⟩⟩))<|aA J<|zo J (cb (y:=(⟨(9:Int),mt,mt,(0:Int),kinds,false,nH,[],[],[],[],(0:Int)⟩:aK)) eC E9 fE (⟨_,_,_,_,_,J,qO,J,hI,⟨_,_,_,_,_,J,qN,J,hI,⟨_,_,_,_,_,J,qM,J,hI,⟨_,_,_,_,_,J,ta,J,(ht J),J⟩⟩⟩⟩))<|zo J (aP (r:=aW) (ys:=[(⟨(9:Int),mt,mt,(0:Int),kinds,false,nH,[],[],[],[],(0:Int)⟩:aK)]) (xs:=[.tmp 8]) qy eC J J J J J ⟨(ht J),aU⟩)<|zo J (cb (y:=(⟨[(⟨(9:Int),mt,mt,(0:Int),kinds,false,nH,[],[],[],[],(0:Int)⟩:aK)],(2:Int),(4:Int),[]⟩:gJ)) lg OT nI (⟨_,_,_,_,_,J,vA,J,hI,⟨_,_,_,_,_,J,vz,J,hI,⟨_,_,_,_,_,J,vB,J,(ht J),J⟩⟩⟩))<|zo J (aP (r:=cM) (ys:=[(⟨l,(1:Int),(3:Int),[]⟩:gJ),(⟨[(⟨(9:Int),mt,mt,(0:Int),kinds,false,nH,[],[],[],[],(0:Int)⟩:aK)],(2:Int),(4:Int),[]⟩:gJ)]) (xs:=[.tmp 6,.tmp 10]) su lg J J J J J ⟨(ht J),(ht J),aU⟩)<|zo J (cb (y:=(⟨[(⟨l,(1:Int),(3:Int),[]⟩:gJ),(⟨[(⟨(9:Int),mt,mt,(0:Int),kinds,false,nH,[],[],[],[],(0:Int)⟩:aK)],(2:Int),(4:Int),[]⟩:gJ)]⟩:hJ)) rW S9 sZ (⟨_,_,_,_,_,J,Dx,J,(ht J),J⟩))<|ay rW J ap J (ht J) (ht J)<|aL 4 J<|an<|aj ?_;cases so h;exact eE J rW J J J

theorem O9(v:M){R:Bool}(h:pq v=some R):aN aM 265 [tD af v] (gK R):=by
 refine aN.of Tryz.func265 J J J fun w0 S0=>aq<|zo J (jh J)<|zo J (fJ)<|an<|aq<|zo J (bz bt J J)<|bF h fun r q_r h=>zo J (aD JZ (A8 _ q_r) ⟨(ht J),aU⟩)<|zo J (rn J)<|bk J<|an<|aj ?_;cases so h;exact aB J J

theorem OZ(s:(List M))(f:(M→Option Bool)){R:Int}(h:jk s f=some R):aN aM 287 [d7 (af) s,(dJ aM Ew mr (fun(x:M)=>f x))] (bH R):=by
 refine aN.of Tryz.func287 J J J fun w0 S0=>aq<|zo J (cQ)<|an<|ae<|aq<|aA J<|zo J (ja sW J)<|zo J (bl hI)<|an<|ax<|aV (k:=6) J fun hN=>bB ?_;refine aJ (d6 (Z:=fun ls i=>(s.drop i=ls)∧cE f ls i=some R) (Of:=fun _ i=>[]) (Gf:=fun _ i=>[(0,d7 (af) s),(1,(dJ aM Ew mr (fun(x:M)=>f x))),(7,hM s),(8,bH (i:Int))]) (fun i h=>?_) (fun e tl ih i h=>?_) s 0 ⟨J,h⟩) (aZ J)
 ·obtain⟨hx,h⟩:=h
  refine av<|aq<|zo J (eK J J)<|an<|ae<|bp (ht J) (cW hx)<|bg ?_;refine ac (ac (aF ?_));refine au<|aq<|zo rfl (cQ)<|an<|aj ?_;cases so h;exact aB J J
 ·obtain⟨hx,h⟩:=h
  refine av<|aq<|zo J (eK J J)<|an<|ae<|bo (ht J) (cU hx)<|dA<|ae<|ax<|aq<|aA J<|bk J<|an<|aq<|aA J<|aA J<|aA J<|zo J (iX sW bt J J J (cP hx)) ?_;refine zo J (bz bt J J)<|bF h fun r q_r h=>zo J (ej (args:=Ew) (res:=Av) (f:=(fun(x:M)=>f x)) (x:=((e):M)) (ht J) q_r ⟨(ht J),aU⟩)<|an<|cX h J (fun h=>?_) (fun h=>?_)
  ·refine aq<|aA J<|bk J<|an<|aj ?_;refine aC (aa (aa (aC (aa ?_))));cases so h;exact aB J J
  ·refine bA<|am<|au<|ai<|zo rfl (jU (cz hx hN) rfl)<|aA rfl<|aH ?_;exact aT (aJ (ih (i+1) ⟨cy hx,h⟩) (aZ J))

theorem O8(s:(List M))(f:(M→Option Bool)){R:Bool}(h:fv s f=some R):aN aM 266 [d7 (af) s,(dJ aM Ew mr (fun(x:M)=>f x))] (gK R):=by
 refine aN.of Tryz.func266 J J J fun w0 S0=>aq<|zo J (fJ)<|an<|aq<|aA J<|aA J<|bF h fun r q_r h=>zo J (aD Vl (OZ _ _ q_r) ⟨(ht J),(ht J),aU⟩)<|zo J (dQ (ht J) hI)<|bk J<|an<|aj ?_;cases so h;exact aB J J

theorem Pi(r:(List M)){R:Bool}(h:vC r=some R):aN aM 232 [d7 (af) r] (gK R):=by
 refine aN.of Tryz.func232 J J J fun w0 S0=>aq<|zo J (fJ)<|an<|aq<|zo J (bm (show aE _ _ _ ((dJ aM Ew mr (fun(x:M)=>pq x)))from(sj Vt fun x y h=>O9 _ h)))<|an<|aq<|aA J<|zo J (ja sW J)<|zo J (iT (ht J) hI)<|aA J<|bF h fun t q_t h=>bO J J (fun hg=>cL J)<|bO J J (fun hg=>cL J) ?_
 obtain⟨r1,h1t,h0t⟩:=og q_t
 have q_r1g:=fun hb=>(h1t hb).1
 refine bO J J (fun hg=>aD Vs (O8 _ _ (q_r1g hg)) ⟨(aS J hg),(aS J hg),aU⟩)<|bO J J (fun hg=>dH (aS J hg))<|zo J (dF (ht J) (fun hb=>(aS J hb)) (fun hb=>(h1t hb).2) h0t)<|bk J<|an<|aj ?_;cases so h;exact aB J J

theorem PS(l:(List (List (List M)))){R:Int}(h:y6 l=some R):aN aM 176 [d7 ((fz rp)) l] (bH R):=by
 refine aN.of Tryz.func176 J J J fun w0 S0=>aq<|zo J (cQ)<|an<|aq<|zo J (cQ)<|an<|ae<|aq<|aA J<|zo J (ja Tryz.underlying194 J)<|zo J (bl hI)<|an<|ax<|aV (k:=8) J fun hN=>bB ?_;refine aJ (ln (Z:=fun ls i n=>(l.drop i=ls)∧jN ls n=some R) (Of:=fun _ i n=>[]) (Gf:=fun _ i n=>[(3,bH n),(8,d7 ((fz rp)) l),(9,hM l),(10,bH (i:Int))]) (fun i n h=>?_) (fun e tl ih i n h=>?_) l 0 (0:Int) ⟨J,h⟩) (aZ J)
 ·obtain⟨hx,h⟩:=h
  refine av<|aq<|zo J (eK J J)<|an<|ae<|bp (ht J) (cW hx)<|bg ?_;refine ac (ac (aF ?_));refine au<|ae<|aq<|aA rfl<|zo rfl (gx (ht rfl) hI)<|an<|cX h rfl (fun h=>?_) (fun h=>?_)
  ·refine aq<|zo J (cQ)<|an<|aj<|aa ?_;cases so h;exact aB J J
  ·refine dA<|aq<|zo J (cQ)<|an<|aj ?_;cases so h;exact aB J J
 ·obtain⟨hx,h⟩:=h
  refine av<|aq<|zo J (eK J J)<|an<|ae<|bo (ht J) (cU hx)<|dA<|ae<|ax<|aq<|zo J (iX Tryz.underlying194 Sx J J J (cP hx))<|zo J (bz Sx J J)<|bk J<|an<|ae<|aq<|aA J<|zo J (ja Dc J) ?_;refine zo J (bl hI)<|an<|ax<|aV (k:=14) J fun hN1=>bB ?_;refine aJ (d6 (Z:=fun ls1 i1=>(e.drop i1=ls1)∧nP (jN tl) e n ls1=some R) (Of:=fun _ i1=>[]) (Gf:=fun _ i1=>[(3,bH n),(5,d7 (rp) e),(8,d7 ((fz rp)) l),(9,hM l),(10,bH (i:Int)),(14,d7 (rp) e),(15,hM e),(16,bH (i1:Int))]) (fun i1 h=>?_) (fun e1 tl1 ih1 i1 h=>?_) e 0 ⟨J,h⟩) (aZ J)
  ·obtain⟨hx1,h⟩:=h
   refine av<|aq<|zo J (eK J J)<|an<|ae<|bp (ht J) (cW hx1)<|bg ?_;refine ac (ac (aF ?_));refine au<|ai<|aA rfl<|aA rfl<|zo rfl (ja Dc rfl)<|zo rfl (xO (ht rfl) (ht rfl))<|bk rfl<|aH<|am<|au<|ai<|zo rfl (jU (cz hx hN) rfl)<|aA rfl<|aH ?_;exact aT (aJ (ih (i+1) (max n (e.length:Int)) ⟨cy hx,h⟩) (aZ J))
  ·obtain⟨hx1,h⟩:=h
   refine av<|aq<|zo J (eK J J)<|an<|ae<|bo (ht J) (cU hx1)<|dA<|ae<|ax<|aq<|zo J (iX Dc EE J J J (cP hx1))<|zo J (bz EE J J)<|bk J<|an<|aq<|aA J<|bF h fun r q_r h=>zo J (aD VD (Pi _ q_r) ⟨(ht J),aU⟩) ?_;refine zo J (dH (ht J))<|an<|cX h J (fun h=>?_) (fun h=>?_)
   ·refine aq<|zo J (cQ)<|an<|aj ?_;refine aC (aa (aa (aC (aa (aC (aa (aa (aC (aa ?_)))))))));cases so h;exact aB J J
   ·refine bA<|am<|au<|ai<|zo rfl (jU (cz hx1 hN1) rfl)<|aA rfl<|aH ?_;exact aT (aJ (ih1 (i1+1) ⟨cy hx1,h⟩) (aZ J))

theorem PR(c:Int){R:Bool}(h:ry c=some R):aN aM 177 [bH c] (gK R):=by
 refine aN.of Tryz.func177 J J J fun w0 S0=>aq<|zo J (fJ)<|an<|aq<|aA J<|zo J (dI (ht J) hI)<|bk J<|an<|aj ?_;cases so h;exact aB J J

theorem Ph(r:(List M))(c:Int){R:Bool}(h:vD r c=some R):aN aM 233 [bH c,bq rp r] (gK R):=by
 refine aN.of Tryz.func233 J J J fun w0 S0=>aq<|zo J (fJ)<|an<|aq<|aA J<|zo J (dI (ht J) hI)<|aA J<|cN J J (fun hg=>cL J)<|cN J J (fun hg=>bz EE J J)<|cN J J (fun hg=>bN sW (aS J hg))<|cN J J (fun hg=>dQ (aS J hg) (aS J hg))<|zo J (pZ J J)<|bk J<|an<|aj ?_;cases so h;exact aB J J

theorem PQ(r:(List M))(columns:(List Int)){R:Bool}(h:AQ r columns=some R):aN aM 178 [d7 (af) r,kz columns] (gK R):=by
 refine aN.of Tryz.func178 J J J fun w0 S0=>aq<|zo J (jh J)<|zo J (fJ)<|an<|aq<|zo J ((show bS _ _ _ _ ((dJ aM Au mr (fun(x:Int)=>(vD r) x)))from eJ (cts:=[bq rp r]) (caps:=[.tmp 2]) VC ⟨(ht J),aU⟩ (fun x y h=>Ph _ _ h)))<|bk J<|an<|aq<|aA J<|zo J (ja dm J)<|zo J (iT (ht J) hI)<|aA J<|bF h fun t q_t h=>bO J J (fun hg=>cL J)<|bO J J (fun hg=>cL J) ?_
 obtain⟨r1,h1t,h0t⟩:=og q_t
 have q_r1g:=fun hb=>(h1t hb).1
 refine bO J J (fun hg=>aD Ec (vS _ _ (q_r1g hg)) ⟨(aS J hg),(aS J hg),aU⟩)<|bO J J (fun hg=>dH (aS J hg))<|zo J (dF (ht J) (fun hb=>(aS J hb)) (fun hb=>(h1t hb).2) h0t)<|bk J<|an<|aj ?_;cases so h;exact aB J J

theorem Qx(l:(List (List M)))(columns:(List Int)){R:Int}(h:vE l columns=some R):aN aM 111 [d7 (rp) l,kz columns] (bH R):=by
 refine aN.of Tryz.func111 J J J fun w0 S0=>aq<|zo J (cQ)<|an<|ae<|aq<|aA J<|zo J (aP (r:=(fz rp)) (ys:=[l]) (xs:=[.tmp 9]) Tryz.underlying194 Sx J J J J J ⟨(ht J),aU⟩)<|bF h fun r q_r h=>zo J (aD Wf (PS _ q_r) ⟨(ht J),aU⟩)<|bk J<|an<|aq<|aA J<|zo J (rn J)<|an<|cX h J (fun h=>?_) (fun h=>?_)
 ·refine aq<|aA J<|bk J<|an<|aj<|aa ?_;cases so h;exact aB J J
 ·refine dA<|aq<|zo J (bm (show aE _ _ _ ((dJ aM Au mr (fun(x:Int)=>ry x)))from(sj We fun x y h=>PR _ h)))<|an<|ae<|aq<|aA J<|zo J (ja dm J)<|zo J (gx (ht J) hI)<|aA J<|bF h fun t q_t h=>cN J J (fun hg=>cL J)<|cN J J (fun hg=>cL J) ?_
  obtain⟨r1,h1t,h0t⟩:=og q_t
  have q_r1g:=fun hb=>(h1t hb).1
  refine cN J J (fun hg=>aD Ec (vS _ _ (q_r1g hg)) ⟨(aS J hg),(aS J hg),aU⟩)<|zo J (fi (ht J) (fun hb=>(aS J (oL hb))) (fun hb=>(h1t hb).2) h0t)<|an<|cX h J (fun h=>?_) (fun h=>?_)
  ·refine aq<|zo J (cQ)<|an<|aj<|aa ?_;cases so h;exact aB J J
  ·refine dA<|ae<|aq<|aA J<|zo J (ja Dc J)<|zo J (bl hI)<|an<|ax<|aV (k:=23) J fun hN=>bB ?_;refine aJ (d6 (Z:=fun ls i=>(l.drop i=ls)∧qd columns ls=some R) (Of:=fun _ i=>[]) (Gf:=fun _ i=>[(1,kz columns),(23,d7 (rp) l),(24,hM l),(25,bH (i:Int))]) (fun i h=>?_) (fun e tl ih i h=>?_) l 0 ⟨J,h⟩) (aZ J)
   ·obtain⟨hx,h⟩:=h
    refine av<|aq<|zo J (eK J J)<|an<|ae<|bp (ht J) (cW hx)<|bg ?_;refine ac (ac (aF ?_));refine au<|aq<|zo rfl (cQ)<|an<|aj ?_;cases so h;exact aB J J
   ·obtain⟨hx,h⟩:=h
    refine av<|aq<|zo J (eK J J)<|an<|ae<|bo (ht J) (cU hx)<|dA<|ae<|ax<|aq<|zo J (iX Dc EE J J J (cP hx))<|zo J (bz EE J J)<|bk J<|an<|aq<|aA J<|aA J<|bF h fun r2 q_r2 h=>?_;refine zo J (aD Wd (PQ _ _ q_r2) ⟨(ht J),(ht J),aU⟩)<|zo J (dH (ht J))<|an<|cX h J (fun h=>?_) (fun h=>?_)
    ·refine aq<|zo J (cQ)<|an<|aj ?_;refine aC (aa (aa (aC (aa ?_))));cases so h;exact aB J J
    ·refine bA<|am<|au<|ai<|zo rfl (jU (cz hx hN) rfl)<|aA rfl<|aH ?_;exact aT (aJ (ih (i+1) ⟨cy hx,h⟩) (aZ J))

theorem Nk(r:(List M))(columns:(List Int)){R:(List M)}(h:uF r columns=some R):mM aM 112 [d7 (af) r,kz columns] false af 82 R:=by
 refine mM.of Tryz.func112 J J J fun w0 S0=>aq<|cm false af 82<|zo J (bm vP)<|an<|aq<|cm false af 82<|zo J (bm vP)<|an<|ae<|aq<|aA J<|zo J (ja dm J)<|zo J (bl hI)<|an<|ax<|aV (k:=8) J fun hN=>bB ?_;refine fc<|mK ?_;refine aJ (mp (Z:=fun ls i out l c=>(columns.drop i=ls)∧nr r ls out=some R) (Of:=fun _ i out l c=>[cG af 82 l c out]) (Gf:=fun _ i out l c=>[(0,d7 (af) r),(5,pQ l c out),(8,kz columns),(9,hM columns),(10,bH (i:Int))]) (fun i out l c h=>?_) (fun e tl ih i out l c h=>?_) columns 0 Ev none 0 ⟨J,h⟩) (aZ J)
 ·obtain⟨hx,h⟩:=h
  refine av<|aq<|zo J (eK J J)<|an<|ae<|bp (ht J) (cW hx)<|bg ?_;refine ac (ac (aF ?_));refine au<|aq<|aA rfl<|bk rfl<|an<|aj ?_;cases so h;exact m7 J J
 ·obtain⟨hx,h⟩:=h
  refine av<|aq<|zo J (eK J J)<|an<|ae<|bo (ht J) (cU hx)<|dA<|ae<|ax<|aq<|zo J (iX dm bJ J J J (cP hx))<|zo J (bz bJ J J)<|bk J<|an<|ai<|aA J<|aA J<|aA J<|bF h fun e1 q_e1 h=>?_;refine zo J (iX sW bt J J J q_e1)<|zo J (bz bt J J)<|zo J (aP (r:=af) (ys:=[e1]) (xs:=[.tmp 18]) sW bt J J J J J ⟨(ht J),aU⟩)<|bF h fun out1 q_out1 h=>ep bt J J J J sW J J (ht J) (ht J) q_out1 fun l1 c1=>bk J<|aH<|am<|au<|ai<|zo rfl (jU (cz hx hN) rfl)<|aA rfl<|aH ?_;exact aT (aJ (ih (i+1) out1 l1 c1 ⟨cy hx,h⟩) (aZ J))
theorem Tv(r:(List M))(columns:(List Int)){R:(List M)×Int}(h:xG r columns=some R):aN aM 62 [d7 (af) r,kz columns] (tT [d7 (af) R.1,bH R.2]):=by
 refine aN.of Tryz.func62 J J J fun w0 S0=>aq<|zo J (bm (show aE _ _ _ (d7 (af) ([]))from uf))<|zo J (cQ)<|an<|ae<|aq<|aA J<|zo J (aP (r:=rp) (ys:=[r]) (xs:=[.tmp 7]) Dc EE J J J J J ⟨(ht J),aU⟩)<|aA J<|bF h fun r1 q_r1 h=>zo J (aD WR (Qx _ _ q_r1) ⟨(ht J),(ht J),aU⟩)<|bk J<|an<|aq<|aA J<|zo J (rn J)<|an ?_;refine cX h J (fun h=>?_) (fun h=>?_)
 ·refine aq<|aA J<|zo J (bm (show aE _ _ _ (d7 (af) ([]))from uf))<|bk J<|an<|aj<|aa ?_;cases so h;exact d5 J J J
 ·refine dA<|aq<|aA J<|aA J<|bF h fun r2 q_r2 h=>ll WQ (Nk _ _ q_r2) ⟨(ht J),(ht J),aU⟩ J fun l c=>bk J<|zo J (cQ)<|an<|aj<|gG<|gh 4 J<|gh 16 J<|qv 4 J<|ba ?_;cases so h;exact d5 J J J

theorem Nj(l:Option Nat)(c:Nat)(b:(List Int))(n:Int){R:(List Int)}(h:tg b n=some R):fq aM 113 [pQ l c b,tD xr n] [eF (rI .u8) 5 l c b] (fun i:OI=>tO (rI .u8) (i.h 0).1 (i.h 0).2 R) (fun i=>[eF (rI .u8) 5 (i.h 0).1 (i.h 0).2 R]):=by
 refine fq.of Tryz.func113 J J J fun w0 S0=>Hp 0 J<|aq<|cm false (rI .u8) 5<|zo J (bm vP)<|an<|ae<|aq<|zo J (cQ)<|an<|ax<|bB<|mK ?_;refine aJ (Ke (Z:=fun n1 b1 l1 c1 i=>lr n n1 b1 i=some R) (Of:=fun b1 l1 c1 i=>[eF (rI .u8) 5 l1 c1 b1]) (Gf:=fun b1 l1 c1 i=>[(0,tO (rI .u8) l1 c1 b1),(1,tD xr n),(5,bH i)]) (fun b1 l1 c1 i h=>nn h) (fun n1 ih b1 l1 c1 i h=>?_) sR b l c (56:Int) h) (aZ J);refine av<|ae<|aq<|aA J<|zo J (dQ (ht J) hI)<|an<|cX h J (fun h=>?_) (fun h=>?_)
 ·refine dA<|ae<|ax<|ai<|aA J<|aA J<|aA J<|bF h fun u q_u h=>zo J (uW (ht J) (ht J) (MY q_u))<|zo J (pf CK Dh (ht J))<|zo J (aP (r:=(rI .u8)) (ys:=[(IntKind.u8.wrap ((n).fdiv (2^(min (Int.toNat i) IntKind.u64.bits))))]) (xs:=[.tmp 14]) Es Ok J J J J J ⟨(ht J),aU⟩)<|bF h fun b2 q_b2 h=>j5 Ok J J J J Es J J (ht J) (ht J) q_b2 fun l2 c2=>bk J<|aH<|am<|au<|ai<|aA rfl<|zo rfl (fK (ht rfl) hI)<|bk rfl<|aH ?_;exact aT (aJ (ih b2 l2 c2 (IntKind.i64.wrap (i-(8:Int))) h) (aZ J))
 ·refine bg ?_;refine ac (ac (aF ?_));refine au<|aq<|aA rfl<|bk rfl<|an<|aj ?_;cases so h;exact dc J (oi l1 c1) J J (fun _ _ h=>h)

theorem PP{R:(List Int)}(h:yV=some R):aN aM 179 [] (tD CO R):=by
 refine aN.of Tryz.func179 J J J fun w0 S0=>aq<|aO (r:=CO) (x:=(List.replicate 256 (0:Int))) Dn (fun _=>vm (r:=ro) 256 (fun _=>J) _) J fun b=>an<|aq<|bF h fun e q_e h=>zo J (ig Er p7 (.head _) (ht J) hI q_e)<|bF h fun ar q_ar h=>vX p7 J q_e (so q_ar) (ht J) hI<|an<|ae<|aq<|zo J (cQ)<|an<|ax<|bB ?_;refine aJ (A9 (Z:=fun n1 n out=>qa n1 n out=some R) (Of:=fun n out=>[bx CO 238 b out]) (Gf:=fun n out=>[(0,tV (aI b 0)),(1,bH n)]) (fun n out h=>nn h) (fun n1 ih n out h=>?_) sR (64:Int) ar h) (aZ J);refine av<|ae<|aq<|aA J<|zo J (gx (ht J) hI)<|an<|cX h J (fun h=>?_) (fun h=>?_)
 ·refine dA<|ae<|ax<|aq<|aA J<|zo J (uX hI (ht J))<|bF h fun e1 q_e1 h=>zo J (ig Er p7 (.head _) (ht J) (ht J) q_e1)<|zo J (xP p7 J J (.head _) q_e1 (ht J))<|bk J<|an<|aq<|aA J<|aA J<|zo J (uW (ht J) hI (by decide))<|bF h fun e2 q_e2 h=>zo J (ig Er p7 (.head _) (ht J) (ht J) q_e2)<|bF h fun ar1 q_ar1 h=>vX p7 J q_e2 (so q_ar1) (ht J) (ht J)<|aH ?_;refine au<|aq<|aA rfl<|zo rfl (y9 (ht rfl) hI)<|zo rfl (jy rfl)<|an<|cX h rfl (fun h=>?_) (fun h=>?_)
  ·refine ai<|aA J<|bF h fun e3 q_e3 h=>zo J (ig Er p7 (.head _) (ht J) (ht J) q_e3)<|zo J (xP p7 J J (.head _) q_e3 (ht J))<|zo J (uV (ht J) hI)<|zo J (ig Er p7 (.head _) (ht J) (ht J) q_e3)<|bF h fun ar2 q_ar2 h=>vX p7 J q_e3 (so q_ar2) (ht J) (ht J)<|aH<|am<|au<|ai<|aA rfl<|zo rfl (Ia (ht rfl) hI (by decide))<|bk rfl<|aH ?_;exact aT (aJ (ih (IntKind.i64.wrap ((n).tdiv (2:Int))) ar2 h) (aZ J))
  ·refine bA<|am<|au<|ai<|aA rfl<|zo rfl (Ia (ht rfl) hI (by decide))<|bk rfl<|aH ?_;exact aT (aJ (ih (IntKind.i64.wrap ((n).tdiv (2:Int))) ar1 h) (aZ J))
 ·refine bg ?_;refine ac (ac (aF ?_));refine au<|ae<|aq<|zo rfl (cQ)<|an<|ax<|bB ?_;refine aJ (A9 (Z:=fun n3 n2 out1=>p9 n3 n2 out1=some R) (Of:=fun n2 out1=>[bx CO 238 b out1]) (Gf:=fun n2 out1=>[(0,tV (aI b 0)),(3,bH n2)]) (fun n2 out1 h=>nn h) (fun n3 ih1 n2 out1 h=>?_) sR (2:Int) out h) (aZ J);refine av<|ae<|aq<|aA J<|zo J (dI (ht J) hI)<|an<|cX h J (fun h=>?_) (fun h=>?_)
  ·refine dA<|ae<|ax<|aq<|aA J<|zo J (bl hI)<|an<|ax<|bB ?_;refine aJ (A9 (Z:=fun n4 x out2=>s8 (p9 n3) n2 n4 x out2=some R) (Of:=fun x out2=>[bx CO 238 b out2]) (Gf:=fun x out2=>[(0,tV (aI b 0)),(3,bH n2),(30,bH n2),(31,bH x)]) (fun x out2 h=>nn h) (fun n4 ih2 x out2 h=>?_) sR (0:Int) out1 h) (aZ J);refine av<|aq<|zo J (eK J J)<|an<|ae<|cX h J (fun h=>?_) (fun h=>?_)
   ·refine dA<|ae<|ax<|aq<|aA J<|bk J<|an<|bF h fun e4 q_e4 h=>bF h fun e5 q_e5 h=>bF h fun e6 q_e6 h=>?_
    refine oh 11 (ts:=[bH n2,bH x,bH (IntKind.i64.wrap (n2+x)),bH n2,tV (aI b (n2.toNat*1)),tD ro e4,bH x,tV (aI b (x.toNat*1)),tD ro e5,tD ro (gM .xor .u32 e4 e5),tV (aI b ((IntKind.i64.wrap (n2+x)).toNat*1))]) mixed J J J
     ⟨ia 3 J J J (cL J),
     ⟨ia 4 J J J (cL J),
     ⟨ft 34 0 35 1 J J J J (jZ (ht J) (ht J)),
     ⟨ia 3 J J J (cL J),
     ⟨Od 0 37 3 J J J J (ig Er p7 (.head _) (ht J) (ht J) q_e4),
     ⟨cO 38 4 J J J (xP p7 J J (.head _) q_e4 (ht J)),
     ⟨ia 4 J J J (cL J),
     ⟨Od 0 40 6 J J J J (ig Er p7 (.head _) (ht J) (ht J) q_e5),
     ⟨cO 41 7 J J J (xP p7 J J (.head _) q_e5 (ht J)),
     ⟨ft 39 5 42 8 J J J J (uV (ht J) (ht J)),
     ⟨Od 0 36 2 J J J J (ig Er p7 (.head _) (ht J) (ht J) q_e6),
     aU⟩⟩⟩⟩⟩⟩⟩⟩⟩⟩⟩ ?_
    refine bF h fun ar3 q_ar3 h=>vX p7 J q_e6 (so q_ar3) (ht J) (ht J)<|aH<|am<|au<|ai<|zo rfl (jZ (ht rfl) hI)<|aA rfl<|aH ?_;exact aT (aJ (ih2 (IntKind.i64.wrap (x+(1:Int))) ar3 h) (aZ J))
   ·refine bg ?_;refine ac (ac (aF ?_));refine am<|au<|ai<|aA rfl<|zo rfl (uX (ht rfl) hI)<|bk rfl<|aH ?_;exact aT (aJ (ih1 (IntKind.i64.wrap (n2*(2:Int))) out2 h) (aZ J))
  ·refine bg ?_;refine ac (ac (aF ?_));refine au<|aq<|zo rfl (br Dn rfl rfl cF (.head _) (ht rfl))<|ay Dn rfl ap rfl (ht rfl) (ht rfl)<|an<|aj<|bR 0 rfl ?_;cases so h;exact eE J Dn J J J

end Go.Proofs.YtmogpgcfognefaaGreatDoor

