/- co of this claim: P8. -/
import Derived.Test.YtmogpgcfognefaaGreatDoorNeT
import Derived.Test.YtmogpgcfognefaaGreatDoorNeP7
set_option linter.all false
namespace Go.Proofs.YtmogpgcfognefaaGreatDoor
open Go
set_option maxRecDepth 100000

theorem Js(p:(Option cj))(frag:Int){R:(List bE)}(h:kN p frag=some R):mM aM 42 [tD oy p,bH frag] false bU 55 R:=by
 refine mM.of Tryz.func42 J J J fun w0 S0=>aq<|cm false bU 55<|zo J (bm vP)<|an<|aq<|aA J<|bF h fun p1 q_p1 h=>zo J (eV (ht J) q_p1)<|zo J (cd pg ij J J)<|zo J (cd ni gX J J)<|zo J (bz wO J J)<|aA J<|bF h fun e q_e h=>zo J (iX su lg J J J q_e)<|zo J (bz lg J J)<|aO (r:=cM) (x:=Ex) lg (fun _=>nI _) J fun b=>ay lg J ap J (ht J) (ht J)<|aL 5 J<|an ?_;refine aq<|cm false bU 55<|zo J (bm vP)<|an<|aq<|bF h fun r q_r h=>zo J (aD Ya (Tl q_r) trivial)<|bk J<|an<|ae<|aq<|zo J (cd tF mC J J)<|zo J (bz AB J J)<|zo J (ja qy J)<|zo J (bl hI)<|an<|ax<|aV (k:=22) J fun hN=>?_;refine bB<|fc<|mK ?_;refine aJ (mp (Z:=fun ls i out l c=>(e.Nodes.drop i=ls)∧dj p e r ls out=some R) (Of:=fun _ i out l c=>[cG bU 55 l c out]) (Gf:=fun _ i out l c=>[(0,tD oy p),(5,bq cM e),(6,pQ l c out),(7,CU (fun y:((Option cK)→Option bE)=>pD aM Eu s0 (fun(x:(Option cK))=>y x)) sx r),(22,d7 (aW) e.Nodes),(23,hM e.Nodes),(24,bH (i:Int))]) (fun i out l c h=>?_) (fun e1 tl ih i out l c h=>?_) e.Nodes 0 ([]:List bE) none 0 ⟨J,h⟩) (aZ J)
 ·obtain⟨hx,h⟩:=h
  refine av<|aq<|zo J (eK J J)<|an<|ae<|bp (ht J) (cW hx)<|bg ?_;refine ac (ac (aF ?_));refine au<|aq<|aA rfl<|bk rfl<|an<|aj ?_;cases so h;exact m7 J J
 ·obtain⟨hx,h⟩:=h
  refine av<|aq<|zo J (eK J J)<|an<|ae<|bo (ht J) (cU hx)<|dA<|ae<|ax<|aq<|zo J (iX qy eC J J J (cP hx))<|zo J (bz eC J J)<|aO (r:=aW) (x:=Dj) eC (fun _=>fE _) J fun b1=>ay eC J ap J (ht J) (ht J)<|aL 9 J<|an<|aq<|aA J ?_;refine zo J (bz eC J J)<|zo J (cb (y:=(⟨p,e1,Bj,Bj⟩:cK)) Ur UP NZ (⟨_,_,_,_,_,J,KJ,J,(ht J),⟨_,_,_,_,_,J,KI,J,(ht J),J⟩⟩))<|yz (ht J) J fun b2=>bk J<|an ?_;refine fD (Z:=fun x=>gO e r (dj p e r tl) e1 out x=some R) (Of:=fun x=>[cG bU 55 l c out,bx j8 170 b2 x]) (Gf:=fun x=>[(0,tD oy p),(5,bq cM e),(6,pQ l c out),(7,CU (fun y:((Option cK)→Option bE)=>pD aM Eu s0 (fun(x:(Option cK))=>y x)) sx r),(9,bq aW e1),(10,tV (aI b2 0)),(22,d7 (aW) e.Nodes),(23,hM e.Nodes),(24,bH (i:Int))]) (fun x h=>?_) (fun K=>?_)
  ·skip
   refine fD (Z:=fun x1=>jt e r (dj p e r tl) e1 out x1=some R) (Of:=fun x1=>[cG bU 55 l c out,bx j8 170 b2 x1]) (Gf:=fun x1=>[(0,tD oy p),(5,bq cM e),(6,pQ l c out),(7,CU (fun y:((Option cK)→Option bE)=>pD aM Eu s0 (fun(x:(Option cK))=>y x)) sx r),(9,bq aW e1),(10,tV (aI b2 0)),(22,d7 (aW) e.Nodes),(23,hM e.Nodes),(24,bH (i:Int))]) (fun x1 h=>?_) (fun K1=>?_)
   ·skip
    refine aq<|zo J (cb (y:=(⟨(4:Int),[]⟩:bE)) fe GN iQ (⟨_,_,_,_,_,J,nq,J,hI,J⟩))<|aO (r:=bU) (x:=Bj) fe (fun _=>iQ _) J fun b3=>ay fe J ap J (ht J) (ht J)<|an ?_;refine fD (Z:=fun x2=>fN (dj p e r tl) out x2=some R) (Of:=fun x2=>[cG bU 55 l c out,bx bU 55 b3 x2]) (Gf:=fun x2=>[(0,tD oy p),(5,bq cM e),(6,pQ l c out),(7,CU (fun y:((Option cK)→Option bE)=>pD aM Eu s0 (fun(x:(Option cK))=>y x)) sx r),(11,tV (aI b3 0)),(22,d7 (aW) e.Nodes),(23,hM e.Nodes),(24,bH (i:Int))]) (fun x2 h=>?_) (fun K2=>?_)
    ·skip
     refine ai<|aA J<|zo J (br fe J J cF (.tail _ (.head _)) (ht J))<|zo J (aP (r:=bU) (ys:=[x2]) (xs:=[.tmp 65]) uj fe J J J J J ⟨(ht J),aU⟩)<|bF h fun out1 q_out1 h=>ep fe J J J J uj J J (ht J) (ht J) q_out1 fun l1 c1=>bk J<|aH<|am<|au<|ai<|zo rfl (jU (cz hx hN) rfl)<|aA rfl<|aH<|aX<|ba ?_;exact aT (aJ (ih (i+1) out1 l1 c1 ⟨cy hx,h⟩) (aZ J))
    ·skip
     refine aq<|zo J (cd w8 oS J J)<|zo J (bz bJ J J)<|zo J (jy J)<|an<|cX h J (fun h=>?_) (fun h=>?_)
     ·refine ai<|aA J<|zo J (cd iq da J J)<|zo J (bz bJ J J)<|zo J (uY (γ:=(fun y:((Option cK)→Option bE)=>pD aM Eu s0 (fun(x:(Option cK))=>y x))) (z:=(fun _=>none)) Aq (di ou) Uh (fun _=>I6) (ht J) (kp (ht J)))<|aA J<|jg<|aL 62 J<|Q7 62 J<|bF h fun r1 q_r1 h=>zo J (DH (args:=Eu) (res:=s0) (f:=(fun(x:(Option cK))=>((nV r e1.Op).getD (fun _=>none)) x)) (x:=(((some x1)):(Option cK))) (ht J) q_r1 ⟨(ht J),aU⟩)<|ay fe J ap J (ht J) (ht J)<|aH<|aX ?_;exact bL (K2 r1 h) (aZ J)
     ·refine bA<|aR<|ba<|aX ?_;exact bL (K2 (⟨(4:Int),[]⟩:bE) h) (aZ J)
   ·skip
    refine aq<|zo J (cd zi oQ J J)<|zo J (bz bJ J J)<|zo J (dQ (ht J) hI)<|an<|cX h J (fun h=>?_) (fun h=>?_)
    ·refine ai<|aA J<|aA J<|zo J (cd zi oQ J J)<|zo J (bz bJ J J)<|bF h fun e2 q_e2 h=>zo J (dk uj fe (.head _) (ht J) (ht J) q_e2)<|zo J (fG (r:=bU) (i:=e1.B) (foff:=0) fe J J cF J (.head _) q_e2 (ht J))<|zo J (bj (ht J))<|zo J (fI 15 Fe J J J)<|bD<|ay fe J KG J (ht J) (ht J)<|aH<|aX ?_;exact bL (K1 (cK.mk x.checker x.n x.a_ e2) h) (aZ J)
    ·refine bA ?_;exact bL (K1 x h) (aZ J)
  ·skip
   refine aq<|zo J (cd u7 ml J J)<|zo J (bz bJ J J)<|zo J (dQ (ht J) hI)<|an<|cX h J (fun h=>?_) (fun h=>?_)
   ·refine ai<|aA J<|aA J<|zo J (cd u7 ml J J)<|zo J (bz bJ J J)<|bF h fun e3 q_e3 h=>zo J (dk uj fe (.tail _ (.head _)) (ht J) (ht J) q_e3)<|zo J (fG (r:=bU) (i:=e1.A) (foff:=0) fe J J cF J (.tail _ (.head _)) q_e3 (ht J))<|zo J (bj (ht J))<|zo J (fI 13 tG J J J)<|ay fe J KH J (ht J) (ht J)<|aH<|aX ?_;exact bL (K (cK.mk (⟨p,e1,Bj,Bj⟩:cK).checker (⟨p,e1,Bj,Bj⟩:cK).n e3 (⟨p,e1,Bj,Bj⟩:cK).b) h) (aZ J)
   ·refine bA<|aX ?_;exact bL (K (⟨p,e1,Bj,Bj⟩:cK) h) (aZ J)
theorem Nc(p:hJ)(from1:Int){R:Int×Int×Bool}(h:uU p from1=some R):aN aM 15 [tD dK p,bH from1] (tT [bH R.1,bH R.2.1,gK R.2.2]):=by
 refine Hd Tryz.func15 J J J fun w0 S0=>aq<|zo J (jh J)<|aO (r:=bQ) (x:=(0:Int)) bJ (fun _=>J) J fun b=>aO (r:=bQ) (x:=(0:Int)) bJ (fun _=>J) J fun b1=>aO (r:=rB) (x:=false) LU (fun _=>J) J fun b2=>an<|ae<|aq<|zo J (bz rW J J)<|aA J<|bF h fun it q_it h=>Eg Vi (Jr _ _ q_it) ⟨(ht J),(ht J),aU⟩ J fun v fp=>an<|ax<|bF h fun r q_r h=>T9 ?_;refine LK (fun(i:Bool×Int×Int)=>[bx rB 4 b2 i.1,bx bQ 3 b1 i.2.1,bx bQ 3 b i.2.2]) (fun(i:Bool×Int×Int)=>(i.1,i.2.1,i.2.2)) (fun _=> .ret) J (ht J) (false,(0:Int),(0:Int)) J q_r (fun _=>J) J (fun i x r1 h lp rec1 _ _ _=>?_) (fun i j hi bd=>⟨fun hj=>?_,fun _ hj=>?_⟩)
 ·obtain⟨x1,x2,x3⟩:=i
  replace h:uT x x1 x2 x3=some r1:=h
  refine(show CG _ _ _ [rq lp rec1 .ready none,bx rB 4 b2 x1,bx bQ 3 b1 x2,bx bQ 3 b x3] _ from ?_);refine IQ (G' :=[(0,tD dK p),(1,bH from1),(2,bq dK p),(4,tV (aI b 0)),(5,tV (aI b1 0)),(6,tV (aI b2 0)),(9,tD dK p),(10,bH from1),(12,bH x.1),(13,bH x.2)]) ?_ ⟨J,J,J,J,J,J,J,J,J,J,aU⟩;refine aq<|bk J<|an<|ai<|bk J<|aH<|LS<|ax<|aq<|aA J<|aA J<|dZ<|ay bJ J ap J (ht J) (ht J)<|dZ<|ay bJ J ap J (ht J) (ht J)<|dZ<|ay LU J ap J (ht J) hB<|an<|aj<|aC ?_;refine aR<|aR<|aR<|bv ?_;cases so h;exact FG 0 J (true,x.2,x.1) J J
 ·skip
  obtain⟨x4,x5,x6⟩:=i
  obtain rfl:x4=r.1.2.1:=congrArg (fun q:Bool×Int×Int=>q.1) hi
  obtain rfl:x5=r.1.2.2.1:=congrArg (fun q:Bool×Int×Int=>q.2.1) hi
  obtain rfl:x6=r.1.2.2.2:=congrArg (fun q:Bool×Int×Int=>q.2.2) hi
  have h:=ct h (by rw [hj];rfl);refine(show AT _ _ _ [FJ bd,bx rB 4 b2 r.1.2.1,bx bQ 3 b1 r.1.2.2.1,bx bQ 3 b r.1.2.2.2] _ from ?_);refine bL (G' :=[(0,tD dK p),(1,bH from1),(2,bq dK p),(4,tV (aI b 0)),(5,tV (aI b1 0)),(6,tV (aI b2 0)),(9,tD dK p),(10,bH from1)]) ?_ ⟨J,J,J,J,J,J,J,J,aU⟩;refine am<|au<|aq<|dZ<|ay bJ rfl ap rfl (ht rfl) hI<|dZ<|ay bJ rfl ap rfl (ht rfl) hI<|dZ<|ay LU rfl ap rfl (ht rfl) hB<|an<|aj<|aR<|bR 4 rfl<|aX<|bR 5 rfl<|bR 6 rfl<|Ba<|vu ?_;cases so h;exact dE (ts:=[bH 0,bH 0,gK false]) (rvs:=[.cell 4 3,.cell 5 3,.cell 6 4]) J J ⟨cC bJ J J J,cC bJ J J J,cC LU J J J,aU⟩
 ·skip
  obtain⟨x7,x8,x9⟩:=i
  obtain rfl:x7=r.1.2.1:=congrArg (fun q:Bool×Int×Int=>q.1) hi
  obtain rfl:x8=r.1.2.2.1:=congrArg (fun q:Bool×Int×Int=>q.2.1) hi
  obtain rfl:x9=r.1.2.2.2:=congrArg (fun q:Bool×Int×Int=>q.2.2) hi
  have h:=cf h (by rw [hj];rfl);refine(show CG _ _ _ [FJ bd,bx rB 4 b2 r.1.2.1,bx bQ 3 b1 r.1.2.2.1,bx bQ 3 b r.1.2.2.2] _ from ?_);refine IQ (G' :=[(0,tD dK p),(1,bH from1),(2,bq dK p),(4,tV (aI b 0)),(5,tV (aI b1 0)),(6,tV (aI b2 0)),(9,tD dK p),(10,bH from1)]) ?_ ⟨J,J,J,J,J,J,J,J,aU⟩;refine aj ?_;refine aC (aa ?_);refine bv<|bR 4 J<|aR<|bR 5 J<|aX<|bR 6 J<|Ba<|vu ?_;cases so h;exact dE (ts:=[bH r.1.2.2.2,bH r.1.2.2.1,gK r.1.2.1]) (rvs:=[.cell 4 3,.cell 5 3,.cell 6 4]) J J ⟨cC bJ J J J,cC bJ J J J,cC LU J J J,aU⟩

theorem Qf(place:Int)(n:aK){R:Bool}(h:mR place n=some R):aN aM 151 [tD aW n,bq bQ place] (gK R):=by
 refine aN.of Tryz.func151 J J J fun w0 S0=>aq<|zo J (jh J)<|zo J (fJ)<|an<|aq<|zo J (cd u7 ml J J)<|zo J (bz bJ J J)<|zo J (bz bJ J J)<|zo J (bK (ht J) (ht J))<|aA J<|cN J J (fun hg=>cd zi oQ J J)<|cN J J (fun hg=>aY bJ J J (aS J hg))<|cN J J (fun hg=>bz bJ J J)<|cN J J (fun hg=>bK (aS J hg) (aS J hg))<|zo J (pZ J J)<|bk J<|an<|aj ?_;cases so h;exact aB J J

theorem M7(p:(Option cj))(frag:Int){R:aK}(h:nS p frag=some R):aN aM 76 [tD oy p,bH frag] (tD aW R):=by
 refine aN.of Tryz.func76 J J J fun w0 S0=>aq<|aO (r:=aW) (x:=Dj) eC (fun _=>fE _) J fun b=>an<|aq<|aA J<|bF h fun p1 q_p1 h=>zo J (eV (ht J) q_p1)<|zo J (cd pg ij J J)<|zo J (bz rW J J)<|aA J<|bF h fun r q_r h=>zo J (aD Wu (Nc _ _ q_r) ⟨(ht J),(ht J),aU⟩)<|aA J<|zo J (hY J J)<|zo J (hY J J)<|zo J (hY J J)<|aO (r:=bQ) (x:=(0:Int)) bJ (fun _=>J) J fun b1=>bk J<|ay bJ J ap J (ht J) (ht J)<|aL 6 J ?_;refine bk J<|an<|ae<|aq<|aA J<|zo J (dH (ht J))<|an<|cX h J (fun h=>?_) (fun h=>?_)
 ·refine aq<|zo J (cb (y:=Dj) eC E9 fE (J))<|ay eC J ap J (ht J) (ht J)<|an<|aj<|aa<|bR 4 J ?_;cases so h;exact eE J eC J J J
 ·refine dA<|aq<|aA J<|bF h fun p2 q_p2 h=>zo J (eV (ht J) q_p2)<|zo J (cd pg ij J J)<|zo J (cd ni gX J J)<|zo J (bz wO J J)<|aA J<|bF h fun e q_e h=>zo J (iX su lg J J J q_e)<|zo J (cd tF mC J J)<|zo J (bz AB J J)<|zo J ((show bS _ _ _ _ ((dJ aM Kp mr (fun(x:aK)=>(mR r.2.1) x)))from eJ (cts:=[bq bQ r.2.1]) (caps:=[.tmp 6]) Wt ⟨(ht J),aU⟩ (fun x y h=>Qf _ _ h)))<|bF h fun r1 q_r1 h=>zo J (aD RT (JH _ _ q_r1) ⟨(ht J),(ht J),aU⟩)<|bk J<|an<|ae<|aq ?_;refine aA J<|zo J (dI (ht J) hI)<|an<|cX h J (fun h=>?_) (fun h=>?_)
  ·refine aq<|zo J (cb (y:=Dj) eC E9 fE (J))<|ay eC J ap J (ht J) (ht J)<|an<|aj<|aa<|bR 4 J ?_;cases so h;exact eE J eC J J J
  ·refine dA<|aq<|aA J<|bF h fun p3 q_p3 h=>zo J (eV (ht J) q_p3)<|zo J (cd pg ij J J)<|zo J (cd ni gX J J)<|zo J (bz wO J J)<|aA J<|bF h fun e1 q_e1 h=>zo J (iX su lg J J J q_e1)<|zo J (cd tF mC J J)<|zo J (bz AB J J)<|aA J<|bF h fun e2 q_e2 h=>zo J (iX qy eC J J J q_e2)<|zo J (bz eC J J)<|ay eC J ap J (ht J) (ht J)<|an<|aj<|bR 4 J ?_;cases so h;exact eE J eC J J J

theorem Tk(s1:(List jx))(s2:(List jx))(eq:(jx→jx→Option Bool)){R:Bool}(h:fF s1 s2 eq=some R):aN aM 77 [d7 (fY) s1,d7 (fY) s2,(dJ aM Sm mr (fun(x:jx×jx)=>eq x.1 x.2))] (gK R):=by
 refine aN.of Tryz.func77 J J J fun w0 S0=>aq<|zo J (fJ)<|an<|ae<|aq<|aA J<|zo J (ja ss J)<|aA J<|zo J (ja ss J)<|zo J (dg (ht J) (ht J))<|an<|cX h J (fun h=>?_) (fun h=>?_)
 ·refine aq<|zo J (fJ)<|an<|aj<|aa ?_;cases so h;exact aB J J
 ·refine dA<|ae<|aq<|aA J<|zo J (ja ss J)<|zo J (bl hI)<|an<|ax<|aV (k:=15) J fun hN=>bB ?_;refine aJ (d6 (Z:=fun ls i=>(s1.drop i=ls)∧dv s2 eq ls i=some R) (Of:=fun _ i=>[]) (Gf:=fun _ i=>[(1,d7 (fY) s2),(2,(dJ aM Sm mr (fun(x:jx×jx)=>eq x.1 x.2))),(15,d7 (fY) s1),(16,hM s1),(17,bH (i:Int))]) (fun i h=>?_) (fun e tl ih i h=>?_) s1 0 ⟨J,h⟩) (aZ J)
  ·obtain⟨hx,h⟩:=h
   refine av<|aq<|zo J (eK J J)<|an<|ae<|bp (ht J) (cW hx)<|bg ?_;refine ac (ac (aF ?_));refine au<|aq<|zo rfl (fJ)<|an<|aj ?_;cases so h;exact aB J J
  ·obtain⟨hx,h⟩:=h
   refine av<|aq<|zo J (eK J J)<|an<|ae<|bo (ht J) (cU hx)<|dA<|ae<|ax<|aq<|aA J<|zo J (iX ss kC J J J (cP hx))<|zo J (bz kC J J)<|aO (r:=fY) (x:=Kn) kC (fun _=>yQ _) J fun b=>bk J<|ay kC J ap J (ht J) (ht J)<|aL 8 J<|an<|ae ?_;refine ai<|aA J<|aA J<|bF h fun e1 q_e1 h=>zo J (iX ss kC J J J q_e1)<|zo J (bz kC J J)<|aO (r:=fY) (x:=Kn) kC (fun _=>yQ _) J fun b1=>ay kC J ap J (ht J) (ht J)<|aL 9 J<|an<|aq<|aA J<|zo J (bz kC J J)<|zo J (bz kC J J)<|bF h fun r q_r h=>zo J (ej (args:=Sm) (res:=Av) (f:=(fun(x:jx×jx)=>eq x.1 x.2)) (x:=((e,e1):jx×jx)) (ht J) q_r ⟨(ht J),(ht J),aU⟩)<|zo J (dH (ht J))<|an<|cX h J (fun h=>?_) (fun h=>?_)
   ·refine aq<|zo J (fJ)<|an<|aj ?_;refine aC (aa (aa (aC (aa ?_))));cases so h;exact aB J J
   ·refine bA<|am<|au<|ai<|zo rfl (jU (cz hx hN) rfl)<|aA rfl<|aH ?_;exact aT (aJ (ih (i+1) ⟨cy hx,h⟩) (aZ J))

theorem Tj(p:jx)(y:jx){R:Bool}(h:pw p y=some R):aN aM 78 [tD fY p,tD fY y] (gK R):=by
 refine aN.of Tryz.func78 J J J fun w0 S0=>aq<|zo J (jh J)<|zo J (jh J)<|zo J (fJ)<|an<|aq<|zo J (cd m4 lk J J)<|zo J (bz bJ J J)<|zo J (cd m4 lk J J)<|zo J (bz bJ J J)<|zo J (bK (ht J) (ht J))<|bk J<|an<|aj ?_;cases so h;exact aB J J

theorem Pd(s:(List bc))(f:(bc→Option Bool)){R:Int}(h:iJ s f=some R):aN aM 250 [d7 (aQ) s,(dJ aM N7 mr (fun(x:bc)=>f x))] (bH R):=by
 refine aN.of Tryz.func250 J J J fun w0 S0=>aq<|zo J (cQ)<|an<|ae<|aq<|aA J<|zo J (ja jB J)<|zo J (bl hI)<|an<|ax<|aV (k:=6) J fun hN=>bB ?_;refine aJ (d6 (Z:=fun ls i=>(s.drop i=ls)∧eY f ls i=some R) (Of:=fun _ i=>[]) (Gf:=fun _ i=>[(0,d7 (aQ) s),(1,(dJ aM N7 mr (fun(x:bc)=>f x))),(7,hM s),(8,bH (i:Int))]) (fun i h=>?_) (fun e tl ih i h=>?_) s 0 ⟨J,h⟩) (aZ J)
 ·obtain⟨hx,h⟩:=h
  refine av<|aq<|zo J (eK J J)<|an<|ae<|bp (ht J) (cW hx)<|bg ?_;refine ac (ac (aF ?_));refine au<|aq<|zo rfl (cQ)<|an<|aj ?_;cases so h;exact aB J J
 ·obtain⟨hx,h⟩:=h
  refine av<|aq<|zo J (eK J J)<|an<|ae<|bo (ht J) (cU hx)<|dA<|ae<|ax<|aq<|aA J<|bk J<|an<|aq<|aA J<|aA J<|aA J<|zo J (iX jB cY J J J (cP hx)) ?_;refine zo J (bz cY J J)<|bF h fun r q_r h=>zo J (ej (args:=N7) (res:=Av) (f:=(fun(x:bc)=>f x)) (x:=((e):bc)) (ht J) q_r ⟨(ht J),aU⟩)<|an<|cX h J (fun h=>?_) (fun h=>?_)
  ·refine aq<|aA J<|bk J<|an<|aj ?_;refine aC (aa (aa (aC (aa ?_))));cases so h;exact aB J J
  ·refine bA<|am<|au<|ai<|zo rfl (jU (cz hx hN) rfl)<|aA rfl<|aH ?_;exact aT (aJ (ih (i+1) ⟨cy hx,h⟩) (aZ J))

theorem Pt(s:(List bc))(f:(bc→Option Bool)){R:Bool}(h:g9 s f=some R):aN aM 211 [d7 (aQ) s,(dJ aM N7 mr (fun(x:bc)=>f x))] (gK R):=by
 refine aN.of Tryz.func211 J J J fun w0 S0=>aq<|zo J (fJ)<|an<|aq<|aA J<|aA J<|bF h fun r q_r h=>zo J (aD Vy (Pd _ _ q_r) ⟨(ht J),(ht J),aU⟩)<|zo J (dQ (ht J) hI)<|bk J<|an<|aj ?_;cases so h;exact aB J J

theorem Ps(n:bc){R:Bool}(h:Ab n=some R):aN aM 212 [tD aQ n] (gK R):=by
 refine aN.of Tryz.func212 J J J fun w0 S0=>aq<|zo J (jh J)<|zo J (fJ)<|an<|aq<|zo J (cd iA ef J J)<|zo J (bz bJ J J)<|bF h fun r q_r h=>zo J (aD RL (Jz _ q_r) ⟨(ht J),aU⟩)<|bk J<|an<|aj ?_;cases so h;exact aB J J

theorem Qe(e:bf){R:Bool}(h:D3 e=some R):aN aM 152 [tD bn e] (gK R):=by
 refine aN.of Tryz.func152 J J J fun w0 S0=>aq<|zo J (jh J)<|zo J (fJ)<|an<|aq<|zo J (bz gj J J)<|bF h fun r q_r h=>zo J (aD Nu (Cc _ q_r) ⟨(ht J),aU⟩)<|zo J (jy J)<|aA J<|bF h fun t q_t h=>bO J J (fun hg=>cd fa dw J J)<|bO J J (fun hg=>aY lU J J (aS J hg)) ?_
 obtain⟨r1,h1t,h0t⟩:=og q_t
 have q_r1g:=fun hb=>(h1t hb).1
 refine bO J J (fun hg=>aD VP (Pt _ _ (q_r1g hg)) ⟨(aS J hg),(sj VO fun x y h=>Ps _ h),aU⟩)<|bO J J (fun hg=>dH (aS J hg))<|zo J (dF (ht J) (fun hb=>(aS J hb)) (fun hb=>(h1t hb).2) h0t)<|bk J<|an<|aj ?_;cases so h;exact aB J J

theorem Nb(s:(List bc)){R:(List bc)}(h:gr s=some R):mM aM 214 [d7 (aQ) s] false aQ 149 R:=by
 refine mM.of Tryz.func214 J J J fun w0 S0=>aq<|cm false aQ 149<|zo J (bm vP)<|an<|ae<|aq<|aA J<|Hj jB (ht J) J fun isnil hisnil=>an<|oj (ht J) (fun hc=>?_) (fun hc=>?_)
 ·have hx:=hisnil hc
  have h:some L6=some R:=by simpa [gr,kE,hx] using h
  refine aq<|cm false aQ 149<|zo J (bm vP)<|an<|aj<|aa ?_;cases so h;exact m7 J J
 ·refine dA<|aq<|pB (r:=aQ) (ys:=L6) (xs:=[]) jB cY J J J J J trivial J fun l c=>aA J<|bF h fun x q_x h=>ep cY J J J J jB J J (ht J) (ht J) q_x fun l1 c1=>bk J<|an<|aj ?_;cases so h;exact m7 J J
theorem Ng(e:bf){R:(List bf)}(h:D5 e=some R):mM aM 153 [tD bn e] false bn 45 R:=by
 refine mM.of Tryz.func153 J J J fun w0 S0=>aq<|zo J (jh J)<|cm false bn 45<|zo J (bm vP)<|an<|aq<|zo J (bz gj J J)<|bF h fun r q_r h=>zo J (aD R4 (JP _ q_r) ⟨(ht J),aU⟩)<|aA J<|zo J (hY J J)<|zo J (hY J J)<|bk J<|bk J<|an<|ae<|aq<|aA J ?_;refine zo J (dH (ht J))<|an<|cX h J (fun h=>?_) (fun h=>?_)
 ·refine aq<|cm false bn 45<|zo J (bm vP)<|an<|aj<|aa ?_;cases so h;exact m7 J J
 ·refine dA<|aq<|cm false bn 45<|zo J (bm vP)<|an<|aq<|zo J (cd fa dw J J)<|zo J (bz lU J J)<|zo J (ja jB J)<|zo J (fK (ht J) hI)<|pB (r:=bQ) (ys:=[(IntKind.i64.wrap ((e.Nodes.length:Int)-(1:Int)))]) (xs:=[.tmp 23]) dm bJ J J J J J ⟨(ht J),aU⟩ J fun l c=>bk J<|an<|ae<|ax<|bB<|jI<|mK<|fc ?_;refine aJ (Kc (Z:=fun n out l1 c1 open1 l2 c2=>kT e r n out open1=some R) (Of:=fun out l1 c1 open1 l2 c2=>[cG bn 45 l1 c1 out,cG bQ 3 l2 c2 open1]) (Gf:=fun out l1 c1 open1 l2 c2=>[(1,bq bn e),(3,kz r.1),(5,pQ l1 c1 out),(6,pQ l2 c2 open1)]) (fun out l1 c1 open1 l2 c2 h=>nn h) (fun n ih out l1 c1 open1 l2 c2 h=>?_) sR N2 none 0 ([(IntKind.i64.wrap ((e.Nodes.length:Int)-(1:Int)))]) l c h) (aZ J);refine av<|ae<|aq<|aA J<|zo J (fA dm (.tail _ (.head _)) (ht J))<|zo J (gx (ht J) hI)<|an<|cX h J (fun h=>?_) (fun h=>?_)
  ·refine dA ?_;refine zE (Z:=fun out1 l3 c3 open2 l4 c4=>tJ (kT e r n) out1 open2=some R) (Of:=fun out1 l3 c3 open2 l4 c4=>[cG bn 45 l3 c3 out1,cG bQ 3 l4 c4 open2]) (Gf:=fun out1 l3 c3 open2 l4 c4=>[(1,bq bn e),(3,kz r.1),(5,pQ l3 c3 out1),(6,pQ l4 c4 open2)]) (fun out1 l3 c3 open2 l4 c4 h=>?_) (fun K=>?_)
   ·skip
    exact aT (aJ (ih out1 l3 c3 open2 l4 c4 h) (aZ J))
   ·skip
    refine aq<|aA J<|aA J<|zo J (fA dm (.tail _ (.head _)) (ht J))<|zo J (fK (ht J) hI)<|bF h fun e1 q_e1 h=>zo J (dk dm bJ (.tail _ (.head _)) (ht J) (ht J) q_e1)<|zo J (fG (r:=bQ) (i:=(IntKind.i64.wrap ((open1.length:Int)-(1:Int)))) (foff:=0) bJ J J cF J (.tail _ (.head _)) q_e1 (ht J))<|bk J<|an<|aq<|aA J<|aA J<|zo J (fA dm (.tail _ (.head _)) (ht J))<|zo J (fK (ht J) hI)<|bF h fun y q_y h=>zo J (kD dm bJ J (.tail _ (.head _)) (ht J) (ht J) q_y)<|bD<|zz q_y<|bk J<|aH ?_;refine au<|aq<|zo rfl (cd fa dw rfl rfl)<|zo rfl (bz lU rfl rfl)<|aA rfl<|bF h fun e2 q_e2 h=>zo J (iX jB cY J J J q_e2)<|zo J (bz cY J J)<|aO (r:=aQ) (x:=ue) cY (fun _=>k8 _) J fun b=>ay cY J ap J (ht J) (ht J)<|aL 8 J<|an<|ae<|aq<|zo J (cd iA ef J J)<|zo J (bz bJ J J)<|zo J (jy J)<|an<|cX h J (fun h=>?_) (fun h=>?_)
    ·refine aq<|aA J<|zo J (cd ph oT J J)<|zo J (bz bJ J J)<|zo J (cd pi oU J J)<|zo J (bz bJ J J)<|zo J (aP (r:=bQ) (ys:=[e2.R,e2.L]) (xs:=[.tmp 49,.tmp 51]) dm bJ J J J J J ⟨(ht J),(ht J),aU⟩)<|bF h fun open3 q_open3 h=>ep bJ J J J J dm J J (ht J) (ht J) q_open3 fun l5 c5=>bk J<|an<|bg ?_;refine ac (aF ?_);refine aX ?_;exact bL (K out l1 c1 open3 l5 c5 h) (aZ J)
    ·refine dA<|aq<|aA J<|aA J<|bF h fun e3 q_e3 h=>zo J (iX dm bJ J J J q_e3)<|zo J (bz bJ J J)<|bk J<|an<|aq<|zo J (cd fa dw J J)<|zo J (bz lU J J)<|aA J<|aA J<|zo J (jZ (ht J) hI)<|bF h fun y1 q_y1 h=>zo J (KX jB cY J (ht J) (ht J) (ht J) q_y1)<|bF h fun r1 q_r1 h=>ll VN (Nb _ q_r1) ⟨(ht J),aU⟩ J fun l6 c6=>zo J (cb (y:=gV (⟨r1⟩:bf) (aw l6 c6 r1.length)) gj XN yP (⟨_,_,_,_,_,J,F8,J,(AW (ht J)),J⟩)) ?_;refine cm false aQ 149<|aO (r:=gC) (x:=gV nH (aw none 0 (L6.length))) gj yP J fun b1=>dB gj J (jb J) J (ht J) (ht J)<|bD<|yw<|an<|ae<|aq<|zo J (fI 0 fa J J J)<|zo J (jF lU mj (.head _) J (ht J))<|zo J (fA jB (.tail _ (.head _)) (ht J))<|zo J (bl hI)<|an<|ax<|mL (.tail _ (.head _)) fun hN=>bB<|fc<|fc<|jI<|d3 ?_;refine aJ (ln (Z:=fun ls i part=>(r1.drop i=ls)∧nZ (kT e r n) out y e3 ls i part=some R) (Of:=fun _ i part=>[cG bn 45 l1 c1 out,cG bQ 3 l2 c2 y,bx gC 45 b1 (gV part (aw l6 c6 part.Nodes.length)),cG aQ 149 l6 c6 part.Nodes]) (Gf:=fun _ i part=>[(1,bq bn e),(3,kz r.1),(5,pQ l1 c1 out),(6,pQ l2 c2 y),(9,bH e3),(10,tV (aI b1 0)),(68,hM r1),(69,bH (i:Int))]) (fun i part h=>?_) (fun e4 tl ih1 i part h=>?_) r1 0 ({(⟨r1⟩:bf)with Nodes:=r1}:bf) ⟨J,h⟩) (aZ J)
     ·obtain⟨hx,h⟩:=h
      refine av<|aq<|zo J (eK J J)<|an<|ae<|bp (ht J) (cW hx)<|bg ?_;refine ac (ac (aF ?_));refine au<|ai<|aA rfl<|dZ<|oZ<|zo rfl (q4 (q:=bn) (y:=part) gj J J J J (.tail _ (.tail _ (.tail _ (.head _)))) (fun _ _ _ ho h=>vi (ju ho (.head _)) h) (ht J))<|zo J (aP (r:=bn) (ys:=[part]) (xs:=[.tmp 104]) sX gj J J J J J ⟨(ht J),aU⟩)<|bD<|bF h fun out2 q_out2 h=>ep gj J J J J sX J J (ht J) (ht J) q_out2 fun l7 c7=>bk J<|aH<|am<|aX<|ba<|aR<|ba ?_;exact bL (K out2 l7 c7 y l2 c2 h) (aZ J)
     ·obtain⟨hx,h⟩:=h
      refine av<|aq<|zo J (eK J J)<|an<|ae<|bo (ht J) (cU hx)<|dA<|ae<|ax<|aq<|aA J<|bk J<|an<|aq<|zo J (fI 0 fa J J J)<|zo J (jF lU mj (.tail _ (.tail _ (.head _))) J (ht J))<|aA J<|bF h fun e5 q_e5 h=>?_;refine zo J (dk jB cY (.tail _ (.tail _ (.tail _ (.head _)))) (ht J) (ht J) q_e5)<|bk J<|an ?_;refine fD (Z:=fun part1=>tI e3 (nZ (kT e r n) out y e3 tl) i part1=some R) (Of:=fun part1=>[cG bn 45 l1 c1 out,cG bQ 3 l2 c2 y,bx gC 45 b1 (gV part1 (aw l6 c6 part1.Nodes.length)),cG aQ 149 l6 c6 part1.Nodes]) (Gf:=fun part1=>[(1,bq bn e),(3,kz r.1),(5,pQ l1 c1 out),(6,pQ l2 c2 y),(9,bH e3),(10,tV (aI b1 0)),(12,tV (oX l6 ((i:Int).toNat*8+0))),(68,hM r1),(69,bH (i:Int))]) (fun part1 h=>?_) (fun K1=>?_)
      ·skip
       refine aq<|aA J<|bF h fun e6 q_e6 h=>zo J (vK (.tail _ (.tail _ (.tail _ (.head _)))) q_e6 (ht J))<|zo J (lB (o:=(i:Int).toNat*8+0) (n:=(i:Int).toNat*8+2) ph J (.tail _ (.tail _ (.tail _ (.head _)))) q_e6 (ht J) J)<|zo J (fG (r:=aQ) (i:=(i:Int)) (foff:=2) bJ J J oT J (.tail _ (.tail _ (.tail _ (.head _)))) q_e6 (ht J))<|zo J (dQ (ht J) hI)<|an<|cX h J (fun h=>?_) (fun h=>?_)
       ·refine ai<|aA J<|zo J (vK (.tail _ (.tail _ (.tail _ (.head _)))) q_e6 (ht J))<|zo J (lB (o:=(i:Int).toNat*8+0) (n:=(i:Int).toNat*8+2) ph J (.tail _ (.tail _ (.tail _ (.head _)))) q_e6 (ht J) J)<|zo J (fG (r:=aQ) (i:=(i:Int)) (foff:=2) bJ J J oT J (.tail _ (.tail _ (.tail _ (.head _)))) q_e6 (ht J))<|aA J<|zo J (fK (ht J) (ht J))<|zo J (vK (.tail _ (.tail _ (.tail _ (.head _)))) q_e6 (ht J))<|zo J (lB (o:=(i:Int).toNat*8+0) (n:=(i:Int).toNat*8+2) ph J (.tail _ (.tail _ (.tail _ (.head _)))) q_e6 (ht J) J)<|dZ<|bF h fun st q_st h=>qu bJ J td J q_e6 (so q_st) (ht J) (ht J)<|yx (O' :=[cG aQ 149 l6 c6 st,cG bn 45 l1 c1 out,cG bQ 3 l2 c2 y,bx gC 45 b1 (gV part1 (aw l6 c6 st.length))]) (by rw [nO (so q_st)])<|aH<|am<|au<|ai<|zo rfl (jU (cz hx hN) rfl)<|aA rfl<|aH<|bv<|bv<|bv ?_;exact aT (aJ (ih1 (i+1) ({part1 with Nodes:=st}:bf) ⟨cy hx,h⟩) (aZ J))
       ·refine bA<|am<|au<|ai<|zo rfl (jU (cz hx hN) rfl)<|aA rfl<|aH ?_;exact aT (aJ (ih1 (i+1) part1 ⟨cy hx,h⟩) (aZ J))
      ·skip
       refine aq<|aA J<|zo J (vK (.tail _ (.tail _ (.tail _ (.head _)))) q_e5 (ht J))<|zo J (lB (o:=(i:Int).toNat*8+0) (n:=(i:Int).toNat*8+1) pi J (.tail _ (.tail _ (.tail _ (.head _)))) q_e5 (ht J) J)<|zo J (fG (r:=aQ) (i:=(i:Int)) (foff:=1) bJ J J oU J (.tail _ (.tail _ (.tail _ (.head _)))) q_e5 (ht J))<|zo J (dQ (ht J) hI)<|an<|cX h J (fun h=>?_) (fun h=>?_)
       ·refine ai<|aA J<|zo J (vK (.tail _ (.tail _ (.tail _ (.head _)))) q_e5 (ht J))<|zo J (lB (o:=(i:Int).toNat*8+0) (n:=(i:Int).toNat*8+1) pi J (.tail _ (.tail _ (.tail _ (.head _)))) q_e5 (ht J) J)<|zo J (fG (r:=aQ) (i:=(i:Int)) (foff:=1) bJ J J oU J (.tail _ (.tail _ (.tail _ (.head _)))) q_e5 (ht J))<|aA J<|zo J (fK (ht J) (ht J))<|zo J (vK (.tail _ (.tail _ (.tail _ (.head _)))) q_e5 (ht J))<|zo J (lB (o:=(i:Int).toNat*8+0) (n:=(i:Int).toNat*8+1) pi J (.tail _ (.tail _ (.tail _ (.head _)))) q_e5 (ht J) J)<|dZ<|bF h fun st1 q_st1 h=>qu bJ J te J q_e5 (so q_st1) (ht J) (ht J)<|mH (nO (so q_st1)) 73 J<|yx (O' :=[cG aQ 149 l6 c6 st1,cG bn 45 l1 c1 out,cG bQ 3 l2 c2 y,bx gC 45 b1 (gV part (aw l6 c6 st1.length))]) (by rw [nO (so q_st1)])<|aH<|bv<|bv<|bv ?_;exact bL (K1 ({part with Nodes:=st1}:bf) h) (aZ J)
       ·refine bA ?_;exact bL (K1 part h) (aZ J)
  ·refine bg ?_;refine ac (ac (aF ?_));refine au<|aq<|aA rfl<|bk rfl<|an<|aj ?_;cases so h;exact m7 J J
end Go.Proofs.YtmogpgcfognefaaGreatDoor

