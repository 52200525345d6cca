/- co of this claim: P7. -/
import Derived.Test.YtmogpgcfognefaaGreatDoorNeT
import Derived.Test.YtmogpgcfognefaaGreatDoorNeP6
set_option linter.all false
namespace Go.Proofs.YtmogpgcfognefaaGreatDoor
open Go
set_option maxRecDepth 100000

theorem Ix(q:hJ)(c:cn){R:(Option cj)×Int×Int×Int}(h:oH q c=some R):aN aM 41 [tD dK q,tD cH c] (tT [tD oy R.1,bH R.2.1,bH R.2.2.1,bH R.2.2.2]):=by
 refine aN.of Tryz.func41 J J J fun w0 S0=>aq<|zo J (jh J)<|zo J (jh J)<|zo J (bm (show aE _ _ _ Ko from Lo))<|zo J (cQ)<|zo J (cQ)<|zo J (cQ)<|an<|ae<|aq<|zo J (bz rX J J)<|bF h fun r q_r h=>zo J (aD Yj (Tw _ q_r) ⟨(ht J),aU⟩)<|bk J<|an<|aq<|aA J<|zo J (rn J) ?_;refine an<|cX h J (fun h=>?_) (fun h=>?_)
 ·refine aq<|aA J<|zo J (bm (show aE _ _ _ Ko from Lo))<|zo J (cQ)<|zo J (cQ)<|bk J<|an<|aj<|aa ?_;cases so h;exact v8 J J J J J
 ·refine dA<|ae<|aq<|zo J (cd ni gX J J)<|zo J (bz wO J J)<|zo J (ja su J)<|zo J (dI (ht J) hI)<|aA J<|cN J J (fun hg=>cd ni gX J J)<|cN J J (fun hg=>aY wO J J (aS J hg))<|cN J J (fun hg=>bN su (aS J hg))<|cN J J (fun hg=>gx (aS J hg) hI)<|zo J (pZ J J)<|an<|cX h J (fun h=>?_) (fun h=>?_)
  ·refine aq<|zo J (bm (show aE _ _ _ Ko from Lo))<|zo J (cQ)<|zo J (cQ)<|zo J (cQ)<|an<|aj<|aa ?_;cases so h;exact v8 J J J J J
  ·refine dA<|aq<|zo J (bz rW J J)<|zo J (bz rX J J)<|cm true (fz iv) 62<|zo J (cb (y:=iU (⟨q,c,[]⟩:cj) (aw none 0 (([]:List (List (List Int))).length))) Us UQ Et (⟨_,_,_,_,_,J,Bu,J,(ht J),⟨_,_,_,_,_,J,Bt,J,(ht J),J⟩⟩))<|yz (ht J) J fun b=>bk J<|an<|ae<|aq<|zo J (cd ni gX J J)<|zo J (bz wO J J)<|zo J (ja su J)<|zo J (bl hI)<|an<|ax<|aV (k:=36) J fun hN=>bB ?_;refine aJ (mp (Z:=fun ls i x l c1=>(q.Frags.drop i=ls)∧jX q ls i x=some R) (Of:=fun _ i x l c1=>[bx gu 163 b (iU x (aw l c1 x.kinds.length)),eF (fz iv) 62 l c1 x.kinds]) (Gf:=fun _ i x l c1=>[(2,bq dK q),(9,tV (aI b 0)),(36,d7 (cM) q.Frags),(37,hM q.Frags),(38,bH (i:Int))]) (fun i x l c1 h=>?_) (fun e tl ih i x l c1 h=>?_) q.Frags 0 ({(⟨q,c,[]⟩:cj)with kinds:=([]:List (List (List Int)))}:cj) none 0 ⟨J,h⟩) (aZ J)
   ·obtain⟨hx,h⟩:=h
    refine av<|aq<|zo J (eK J J)<|an<|ae<|bp (ht J) (cW hx)<|bg ?_;refine ac (ac (aF ?_));refine au<|ae<|aq<|zo rfl (cd ni gX rfl rfl)<|zo rfl (bz wO rfl rfl)<|zo rfl (ja su rfl)<|zo rfl (bl hI)<|an<|ax<|aV (k:=78) J fun hN1=>bB ?_;refine aJ (d6 (Z:=fun ls1 i1=>(q.Frags.drop i1=ls1)∧lw x ls1 i1=some R) (Of:=fun _ i1=>[bx gu 163 b (iU x (aw l c1 x.kinds.length)),eF (fz iv) 62 l c1 x.kinds]) (Gf:=fun _ i1=>[(9,tV (aI b 0)),(79,hM q.Frags),(80,bH (i1:Int))]) (fun i1 h=>?_) (fun e1 tl1 ih1 i1 h=>?_) q.Frags 0 ⟨J,h⟩) (aZ J)
    ·obtain⟨hx1,h⟩:=h
     refine av<|aq<|zo J (eK J J)<|an<|ae<|bp (ht J) (cW hx1)<|bg ?_;refine ac (ac (aF ?_));refine au<|aq<|aA rfl<|bk rfl<|zo rfl (cQ)<|zo rfl (cQ)<|zo rfl (cQ)<|an<|aj<|aX<|aX<|sq (r' :=fX) (x' :=x) (fun _ _ _ ho h=>n6 (ju ho (.head _)) h)<|bR 4 J<|Rf 4 J<|ba ?_;cases so h;exact v8 J J J J J
    ·obtain⟨hx1,h⟩:=h
     refine av<|aq<|zo J (eK J J)<|an<|ae<|bo (ht J) (cU hx1)<|dA<|ae<|ax<|aq<|aA J<|bk J<|an<|aq<|aA J<|aA J<|bF h fun r1 q_r1 h=>zo J (BK (r:=gu) (rd:=fX) (T:=163) (b:=b) (x:=iU x (aw l c1 x.kinds.length)) (y:=x) (.head _) Yb (Tm _ _ q_r1) (fun _ _ _ ho h=>n6 (ju ho (.tail _ (.head _))) h) (fun S S1 a hf hle hk=>po (xy.2 (I5 (ht J) hf hk)) (po (IZ (ht J) hf hle) trivial)) EH) ?_;refine zo J (dH (ht J))<|an<|cX h J (fun h=>?_) (fun h=>?_)
     ·refine aq<|aA J<|zo J (bm (show aE _ _ _ Ko from Lo))<|bk J<|zo J (cQ)<|zo J (cQ)<|an<|aj ?_;refine aC (aa (aa (aC (aa ?_))));refine ba<|ba ?_;cases so h;exact v8 J J J J J
     ·refine bA<|am<|au<|ai<|zo rfl (jU (cz hx1 hN1) rfl)<|aA rfl<|aH ?_;exact aT (aJ (ih1 (i1+1) ⟨cy hx1,h⟩) (aZ J))
   ·obtain⟨hx,h⟩:=h
    refine av<|aq<|zo J (eK J J)<|an<|ae<|bo (ht J) (cU hx)<|dA<|ae<|ax<|aq<|aA J<|zo J (iX su lg J J J (cP hx))<|zo J (bz lg J J)<|aO (r:=cM) (x:=Ex) lg (fun _=>nI _) J fun b1=>bk J<|ay lg J ap J (ht J) (ht J)<|aL 11 J<|an<|ae ?_;refine ai<|zo J (cd tF mC J J)<|zo J (bz AB J J)<|bF h fun r2 q_r2 h=>zo J (aD Ys (TH _ q_r2) ⟨(ht J),aU⟩)<|aA J<|zo J (hY J J)<|zo J (hY J J)<|zo J (hY J J)<|bk J<|bk J<|bk J<|an<|ae<|aq<|aA J<|zo J (rn J)<|an<|cX h J (fun h=>?_) (fun h=>?_)
    ·refine aq<|aA J<|aA J<|aA J<|zo J (bm (show aE _ _ _ Ko from Lo))<|bk J<|bk J<|bk J<|an<|aj ?_;refine aa (aC (aa (aa (aC (aa ?_)))));refine ba<|ba ?_;cases so h;exact v8 J J J J J
    ·refine dA<|ae<|ae<|bF h fun e2 q_e2 h=>bF h fun r3 q_r3 h=>?_
     refine eG (ts:=[_,_,_,_,_,_,_,_,_,_]) mixed J J
      ⟨ia 9 J J J (cL J),
      ⟨ia 11 J J J (bz lg J J),
      ⟨ia 12 J J J (cL J),
      ⟨ia 12 J J J (cL J),
      ⟨cO 58 3 J J J (ja uh J),
      ⟨cO 59 4 J J J (fK (ht J) hI),
      ⟨ft 57 2 60 5 J J J J (iX uh ce J J J q_e2),
      ⟨cO 61 6 J J J (bz ce J J),
      ⟨Rg 55 0 56 1 62 7 J J J J J (BK (r:=gu) (rd:=fX) (T:=163) (b:=b) (x:=iU x (aw l c1 x.kinds.length)) (y:=x) (.head _) Yc (Tn _ _ _ q_r3) (fun _ _ _ ho h=>n6 (ju ho (.tail _ (.head _))) h) (fun S S1 a hf hle hk=>po (xy.2 (I5 (ht J) hf hk)) (po (IZ (ht J) hf hle) (po (IZ (ht J) hf hle) trivial))) EH),
      ⟨cO 63 8 J J J (dH (ht J)),
      aU⟩⟩⟩⟩⟩⟩⟩⟩⟩⟩ ?_
     refine au<|cX h rfl (fun h=>?_) (fun h=>?_)
     ·refine aq<|aA J<|zo J (bm (show aE _ _ _ Ko from Lo))<|bk J<|zo J (cQ)<|zo J (cQ)<|an<|aj ?_;refine aa (aC (aa (aa (aC (aa ?_)))));refine ba<|ba ?_;cases so h;exact v8 J J J J J
     ·refine dA<|ai<|aA J<|aA J<|zo J (bj (ht J))<|zo J (fI 2 AZ J J J)<|zo J (gD I2 B0 (.head _) (.tail _ (.head _)) J (ht J))<|aA J<|zo J (aP (r:=(fz wd)) (ys:=[r2.1]) (xs:=[.tmp 71]) Tryz.underlying161 CS J J J J J ⟨(ht J),aU⟩)<|bD<|bF h fun l1 q_l1 h=>j5 CS J J J J Tryz.underlying161 J J (ht J) (ht J) q_l1 fun l2 c2=>zo J (bj (ht J))<|zo J (fI 2 AZ J J J)<|bD<|dB I2 J (s7 _ _ _) J (ht J) (AW (xz (ht J)))<|aH<|am<|au<|ai<|zo rfl (jU (cz hx hN) rfl)<|aA rfl<|aH ?_;exact aT (aJ (ih (i+1) ({x with kinds:=l1}:cj) l2 c2 ⟨cy hx,h⟩) (aZ J))

theorem TL(p:hJ)(c:cn){R:Int×Int×Int}(h:BE p c=some R):aN aM 11 [tD dK p,tD cH c] (tT [bH R.1,bH R.2.1,bH R.2.2]):=by
 refine aN.of Tryz.func11 J J J fun w0 S0=>aq<|zo J (jh J)<|zo J (jh J)<|zo J (cQ)<|zo J (cQ)<|zo J (cQ)<|an<|aq<|zo J (bz rW J J)<|zo J (bz rX J J)<|bF h fun r q_r h=>zo J (aD TV (Ix _ _ q_r) ⟨(ht J),(ht J),aU⟩)<|aA J<|zo J (hY J J)<|zo J (hY J J)<|zo J (hY J J)<|zo J (hY J J)<|bk J<|bk J<|bk J ?_;refine bk J<|an<|aq<|aA J<|aA J<|aA J<|bk J<|bk J<|bk J<|an<|aj ?_;cases so h;exact ol J J J J

theorem Qj(l:(Option cK)){R:bE}(h:ki l=some R):aN aM 144 [tD uq l] (tD bU R):=by
 refine aN.of Tryz.func144 J J J fun w0 S0=>aq<|aO (r:=bU) (x:=Bj) fe (fun _=>iQ _) J fun b=>an<|ae<|ae<|bF h fun p q_p h=>bF h fun p1 q_p1 h=>bF h fun p2 q_p2 h=>bF h fun e q_e h=>?_
 refine eG (ts:=[_,_,_,_,_,_,_,_,_,_,_,_,_,_,_,_,_]) mixed J J
  ⟨ia 0 J J J (cL J),
  ⟨cO 4 0 J J J (eV (ht J) q_p),
  ⟨cO 5 1 J J J (cd Jo D1 J J),
  ⟨cO 6 2 J J J (bz wo J J),
  ⟨cO 7 3 J J J (eV (ht J) q_p1),
  ⟨cO 8 4 J J J (cd Ff tB J J),
  ⟨cO 9 5 J J J (cd zj mD J J),
  ⟨cO 10 6 J J J (bz Kx J J),
  ⟨ia 0 J J J (cL J),
  ⟨cO 12 8 J J J (eV (ht J) q_p2),
  ⟨cO 13 9 J J J (cd AY vQ J J),
  ⟨cO 14 10 J J J (cd pL iF J J),
  ⟨cO 15 11 J J J (bz bJ J J),
  ⟨ft 11 7 16 12 J J J J (iX CJ s6 J J J q_e),
  ⟨cO 17 13 J J J (cd Ca w7 J J),
  ⟨cO 18 14 J J J (bz ce J J),
  ⟨cO 19 15 J J J (zM J),
  aU⟩⟩⟩⟩⟩⟩⟩⟩⟩⟩⟩⟩⟩⟩⟩⟩⟩ ?_
 refine au<|aq<|aA rfl<|zo rfl (ja dm rfl)<|zo rfl (gx (ht rfl) hI)<|an<|cX h rfl (fun h=>?_) (fun h=>?_)
 ·refine aq<|aA J<|bF h fun r q_r h=>ll Nv (A2 _ q_r) ⟨(ht J),aU⟩ J fun l1 c=>oZ<|oc 24 J<|zo J (cb (y:=(⟨(2:Int),r⟩:bE)) fe GN iQ (⟨_,_,_,_,_,J,nq,J,hI,⟨_,_,_,_,_,J,yY,J,(pC (ht J)),J⟩⟩))<|bD<|ay fe J ap J (ht J) (ht J)<|an<|aj<|aa<|bR 2 J<|ba ?_;cases so h;exact eE J fe J J J
 ·refine dA<|aq<|zo J (cb (y:=Sd) fe GN iQ (⟨_,_,_,_,_,J,nq,J,hI,J⟩))<|ay fe J ap J (ht J) (ht J)<|an<|aj<|bR 2 J ?_;cases so h;exact eE J fe J J J

theorem Qi(l:(Option cK)){R:bE}(h:pH l=some R):aN aM 145 [tD uq l] (tD bU R):=by
 refine aN.of Tryz.func145 J J J fun w0 S0=>aq<|aO (r:=bU) (x:=Bj) fe (fun _=>iQ _) J fun b=>an<|ae<|ae<|bF h fun p q_p h=>bF h fun p1 q_p1 h=>bF h fun p2 q_p2 h=>bF h fun e q_e h=>?_
 refine oe 16 [tc (tD uq l),tc (bq j8 p),tc (bq oy p.checker),tc (tD oy p.checker),tc (bq fX p1),tc (bq dK p1.Plan),tc (bq (fz cM) p1.Plan.Frags),tc (d7 (cM) p1.Plan.Frags),tc (tD uq l),tc (bq j8 p2),tc (bq aW p2.n),tc (bq bQ p2.n.Table),tc (bH p2.n.Table),tc (bq cM e),tc (tD cM e),([15],fun s=>tV (aI ((s.getD 0 wc).h 0).2 0))] [false,false,false,false,false,false,false,false,false,false,false,false,false,false,false,true] [fun _=>[bx bU 55 b Bj],fun sg=>[bx cM 31 ((sg 15).h 0).2 Ex,bx bU 55 b Bj]] J mixed J J J J J
  ⟨⟨[⟨0,fun _=>tD uq l,none⟩],_,0,1,J,⟨(fun _=>J),aU⟩,J,J,J,J,J,fun _ sg _ _=>ak J (cL J)⟩,
  ⟨⟨[⟨4,fun _=>tD uq l,some 0⟩],_,0,1,J,⟨(fun _=>J),aU⟩,J,J,J,J,J,fun _ sg _ _=>ak J (eV (ht J) q_p)⟩,
  ⟨⟨[⟨5,fun _=>bq j8 p,some 1⟩],_,0,1,J,⟨(fun _=>J),aU⟩,J,J,J,J,J,fun _ sg _ _=>ak J (cd Jo D1 J J)⟩,
  ⟨⟨[⟨6,fun _=>bq oy p.checker,some 2⟩],_,0,1,J,⟨(fun _=>J),aU⟩,J,J,J,J,J,fun _ sg _ _=>ak J (bz wo J J)⟩,
  ⟨⟨[⟨7,fun _=>tD oy p.checker,some 3⟩],_,0,1,J,⟨(fun _=>J),aU⟩,J,J,J,J,J,fun _ sg _ _=>ak J (eV (ht J) q_p1)⟩,
  ⟨⟨[⟨8,fun _=>bq fX p1,some 4⟩],_,0,1,J,⟨(fun _=>J),aU⟩,J,J,J,J,J,fun _ sg _ _=>ak J (cd pg ij J J)⟩,
  ⟨⟨[⟨9,fun _=>bq dK p1.Plan,some 5⟩],_,0,1,J,⟨(fun _=>J),aU⟩,J,J,J,J,J,fun _ sg _ _=>ak J (cd ni gX J J)⟩,
  ⟨⟨[⟨10,fun _=>bq (fz cM) p1.Plan.Frags,some 6⟩],_,0,1,J,⟨(fun _=>J),aU⟩,J,J,J,J,J,fun _ sg _ _=>ak J (bz wO J J)⟩,
  ⟨⟨[⟨0,fun _=>tD uq l,none⟩],_,0,1,J,⟨(fun _=>J),aU⟩,J,J,J,J,J,fun _ sg _ _=>ak J (cL J)⟩,
  ⟨⟨[⟨12,fun _=>tD uq l,some 8⟩],_,0,1,J,⟨(fun _=>J),aU⟩,J,J,J,J,J,fun _ sg _ _=>ak J (eV (ht J) q_p2)⟩,
  ⟨⟨[⟨13,fun _=>bq j8 p2,some 9⟩],_,0,1,J,⟨(fun _=>J),aU⟩,J,J,J,J,J,fun _ sg _ _=>ak J (cd AY vQ J J)⟩,
  ⟨⟨[⟨14,fun _=>bq aW p2.n,some 10⟩],_,0,1,J,⟨(fun _=>J),aU⟩,J,J,J,J,J,fun _ sg _ _=>ak J (cd pL iF J J)⟩,
  ⟨⟨[⟨15,fun _=>bq bQ p2.n.Table,some 11⟩],_,0,1,J,⟨(fun _=>J),aU⟩,J,J,J,J,J,fun _ sg _ _=>ak J (bz bJ J J)⟩,
  ⟨⟨[⟨11,fun _=>tD (fz cM) p1.Plan.Frags,some 7⟩,⟨16,fun _=>tD bQ p2.n.Table,some 12⟩],_,0,1,J,⟨(fun _=>J),(fun _=>J),aU⟩,J,J,J,J,J,fun _ sg _ _=>ak J (iX su lg J J J q_e)⟩,
  ⟨⟨[⟨17,fun _=>bq cM e,some 13⟩],_,0,1,J,⟨(fun _=>J),aU⟩,J,J,J,J,J,fun _ sg _ _=>ak J (bz lg J J)⟩,
  ⟨⟨[],_,J,aU,J,J,J,fun sg=>dN J (nA (r:=cM) (x:=Ex) lg (fun _=>nI _))⟩,
  aU⟩⟩⟩⟩⟩⟩⟩⟩⟩⟩⟩⟩⟩⟩⟩⟩ (fun sg=>?_)
 refine(show RG _ _ _ _ [bx cM 31 ((sg 15).h 0).2 Ex,bx bU 55 b Bj] _ from ?_);refine ay lg J ap J (ht J) (ht J)<|aL 3 J<|an<|aq<|zo J (cd va ny J J)<|zo J (bz bJ J J)<|zo J (jy J)<|an<|cX h J (fun h=>?_) (fun h=>?_)
 ·refine aq<|zo J (cd Fc vR J J)<|zo J (bz ce J J)<|bF h fun r q_r h=>ll Nv (A2 _ q_r) ⟨(ht J),aU⟩ J fun l1 c=>oZ<|oc 24 J<|zo J (cb (y:=(⟨(2:Int),r⟩:bE)) fe GN iQ (⟨_,_,_,_,_,J,nq,J,hI,⟨_,_,_,_,_,J,yY,J,(pC (ht J)),J⟩⟩))<|bD<|ay fe J ap J (ht J) (ht J)<|an<|aj<|aa<|bR 2 J<|ba ?_;cases so h;exact eE J fe J J J
 ·refine dA<|aq<|zo J (cb (y:=(⟨(3:Int),[]⟩:bE)) fe GN iQ (⟨_,_,_,_,_,J,nq,J,hI,J⟩))<|ay fe J ap J (ht J) (ht J)<|an<|aj<|bR 2 J ?_;cases so h;exact eE J fe J J J

theorem Qh(l:(Option cK)){R:bE}(h:pG l=some R):aN aM 146 [tD uq l] (tD bU R):=by
 refine aN.of Tryz.func146 J J J fun w0 S0=>aq<|aO (r:=bU) (x:=Bj) fe (fun _=>iQ _) J fun b=>an<|ae<|ae<|bF h fun p q_p h=>bF h fun t q_t h=>?_
 obtain⟨p1,h1t,h0t⟩:=og q_t
 have q_p1g:=fun hb=>(h1t hb).1
 obtain⟨t1,q_t1,h⟩:=bs h
 obtain⟨p2,h1t1,h0t1⟩:=og q_t1
 have q_p2g:=fun hb=>(h1t1 hb).1
 obtain⟨p3,h1t1⟩:=OG (fun hb=>(h1t1 hb).2)
 have q_p3g:=fun hb=>(h1t1 hb).1
 obtain⟨r,h1t1⟩:=OG (fun hb=>(h1t1 hb).2)
 have q_rg:=fun hb=>(h1t1 hb).1
 refine eG (ts:=[_,_,_,_,_,_,_,_,_,_,_,_,_,_,_,_,_,_,_,_,_,_,_,_,_,_,_]) mixed J J
  ⟨ia 0 J J J (cL J),
  ⟨cO 3 0 J J J (eV (ht J) q_p),
  ⟨cO 4 1 J J J (cd tG qr J J),
  ⟨cO 5 2 J J J (cd mS gE J J),
  ⟨cO 6 3 J J J (bz bJ J J),
  ⟨cO 7 4 J J J (jy J),
  ⟨cO 8 5 J J J (cL J),
  ⟨qD 0 9 6 J J J J (db J J J J (fun hg=>cL J)),
  ⟨hZ 10 7 9 6 J J J J (db J J J J (fun hg=>eV (aS J hg) (q_p1g hg))),
  ⟨hZ 11 8 9 6 J J J J (db J J J J (fun hg=>dh Fe J D0 J (aS J hg))),
  ⟨hZ 12 9 9 6 J J J J (db J J J J (fun hg=>dh mS J gE J (aS J hg))),
  ⟨hZ 13 10 9 6 J J J J (db J J J J (fun hg=>aY bJ J J (aS J hg))),
  ⟨hZ 14 11 9 6 J J J J (db J J J J (fun hg=>bK (aS J hg) hI)),
  ⟨ft 9 6 15 12 J J J J (dF (ht J) (fun hb=>(aS J hb)) (fun hb=>(h1t hb).2) h0t),
  ⟨cO 16 13 J J J (cL J),
  ⟨qD 0 17 14 J J J J (db J J J J (fun hg=>cL J)),
  ⟨hZ 18 15 17 14 J J J J (db J J J J (fun hg=>eV (aS J hg) (q_p2g hg))),
  ⟨hZ 19 16 17 14 J J J J (db J J J J (fun hg=>dh tG J qr J (aS J hg))),
  ⟨hZ 20 17 17 14 J J J J (db J J J J (fun hg=>dh pK J jG J (aS J hg))),
  ⟨hZ 21 18 17 14 J J J J (db J J J J (fun hg=>aY ce J J (aS J hg))),
  ⟨qD 0 17 14 J J J J (db J J J J (fun hg=>cL J)),
  ⟨hZ 23 20 17 14 J J J J (db J J J J (fun hg=>eV (aS J hg) (q_p3g hg))),
  ⟨hZ 24 21 17 14 J J J J (db J J J J (fun hg=>dh Fe J D0 J (aS J hg))),
  ⟨hZ 25 22 17 14 J J J J (db J J J J (fun hg=>dh pK J jG J (aS J hg))),
  ⟨hZ 26 23 17 14 J J J J (db J J J J (fun hg=>aY ce J J (aS J hg))),
  ⟨wl 22 19 27 24 17 14 J J J J J (db J J J J (fun hg=>aD RV (JJ _ _ (q_rg hg)) ⟨(aS J hg),(aS J hg),aU⟩)),
  ⟨ft 17 14 28 25 J J J J (dF (ht J) (fun hb=>(aS J hb)) (fun hb=>(h1t1 hb).2) h0t1),
  aU⟩⟩⟩⟩⟩⟩⟩⟩⟩⟩⟩⟩⟩⟩⟩⟩⟩⟩⟩⟩⟩⟩⟩⟩⟩⟩⟩ ?_
 refine au<|cX h rfl (fun h=>?_) (fun h=>?_)
 ·refine aq<|aA J<|bF h fun p4 q_p4 h=>zo J (eV (ht J) q_p4)<|zo J (cd tG qr J J)<|zo J (bz fe J J)<|ay fe J ap J (ht J) (ht J)<|an<|aj<|aa<|bR 2 J ?_;cases so h;exact eE J fe J J J
 ·refine dA<|aq<|zo J (cb (y:=Sd) fe GN iQ (⟨_,_,_,_,_,J,nq,J,hI,J⟩))<|ay fe J ap J (ht J) (ht J)<|an<|aj<|bR 2 J ?_;cases so h;exact eE J fe J J J

theorem JA(p:bE)(at1:(Int→Option Int)){R:bE}(h:jR p at1=some R):aN aM 206 [tD bU p,(dJ aM Au Km (fun(x:Int)=>at1 x))] (tD bU R):=by
 refine aN.of Tryz.func206 J J J fun w0 S0=>aq<|zo J (jh J)<|aO (r:=bU) (x:=Bj) fe (fun _=>iQ _) J fun b=>an<|ae<|aq<|zo J (cd mS gE J J)<|zo J (bz bJ J J)<|zo J (rn J)<|an<|cX h J (fun h=>?_) (fun h=>?_)
 ·refine aq<|zo J (bz fe J J)<|ay fe J ap J (ht J) (ht J)<|an<|aj<|aa<|bR 4 J ?_;cases so h;exact eE J fe J J J
 ·refine dA<|aq<|cm false bQ 3<|zo J (bm vP)<|an<|ae<|aq<|zo J (cd pK jG J J)<|zo J (bz ce J J)<|zo J (ja dm J)<|zo J (bl hI)<|an<|ax<|aV (k:=14) J fun hN=>bB ?_;refine aJ (sN (Z:=fun ls i cols l c x=>(p.Cols.drop i=ls)∧mb at1 ls cols x=some R) (Of:=fun _ i cols l c x=>[cG bQ 3 l c cols,bx bU 55 b x]) (Gf:=fun _ i cols l c x=>[(1,(dJ aM Au Km (fun(x:Int)=>at1 x))),(4,tV (aI b 0)),(5,pQ l c cols),(14,kz p.Cols),(15,hM p.Cols),(16,bH (i:Int))]) (fun i cols l c x h=>?_) (fun e tl ih i cols l c x h=>?_) p.Cols 0 mu none 0 Bj ⟨J,h⟩) (aZ J)
  ·obtain⟨hx,h⟩:=h
   refine av<|aq<|zo J (eK J J)<|an<|ae<|bp (ht J) (cW hx)<|bg ?_;refine ac (ac (aF ?_));refine au<|aq<|aA rfl<|oZ<|oc 5 rfl<|oc 31 rfl<|zo rfl (cb (y:=(⟨(2:Int),cols⟩:bE)) fe GN iQ (⟨_,_,_,_,_,J,nq,J,hI,⟨_,_,_,_,_,J,yY,J,(pC (ht J)),J⟩⟩))<|bD<|ay fe J ap J (ht J) (ht J)<|an<|aj<|bR 4 J<|ba ?_;cases so h;exact eE J fe J J J
  ·obtain⟨hx,h⟩:=h
   refine av<|aq<|zo J (eK J J)<|an<|ae<|bo (ht J) (cU hx)<|dA<|ae<|ax<|aq<|zo J (iX dm bJ J J J (cP hx))<|zo J (bz bJ J J)<|bk J<|an<|aq<|aA J<|aA J<|bF h fun r q_r h=>?_;refine zo J (ej (args:=Sc) (res:=(fun(x:Int)=>tD bQ x)) (f:=(fun(x:Int)=>at1 x)) (x:=((e):Int)) (ht J) q_r ⟨(ht J),aU⟩)<|bk J<|an<|ae<|aq<|aA J<|zo J (dI (ht J) hI)<|an<|cX h J (fun h=>?_) (fun h=>?_)
   ·refine aq<|zo J (cb (y:=Sd) fe GN iQ (⟨_,_,_,_,_,J,nq,J,hI,J⟩))<|bD<|ay fe J ap J (ht J) (ht J)<|an<|aj ?_;refine aa (aC (aa (aa (aC (aa ?_)))));refine bR 4 J<|ba ?_;cases so h;exact eE J fe J J J
   ·refine dA<|ai<|aA J<|aA J<|zo J (aP (r:=bQ) (ys:=[r]) (xs:=[.tmp 27]) dm bJ J J J J J ⟨(ht J),aU⟩)<|bF h fun cols1 q_cols1 h=>ep bJ J J J J dm J J (ht J) (ht J) q_cols1 fun l1 c1=>bk J<|aH<|am<|au<|ai<|zo rfl (jU (cz hx hN) rfl)<|aA rfl<|aH ?_;exact aT (aJ (ih (i+1) cols1 l1 c1 x ⟨cy hx,h⟩) (aZ J))

theorem Pw(s:(List bf))(f:(bf→Option Bool)){R:Int}(h:er s f=some R):aN aM 208 [d7 (bn) s,(dJ aM N6 mr (fun(x:bf)=>f x))] (bH R):=by
 refine aN.of Tryz.func208 J J J fun w0 S0=>aq<|zo J (cQ)<|an<|ae<|aq<|aA J<|zo J (ja sX J)<|zo J (bl hI)<|an<|ax<|aV (k:=6) J fun hN=>bB ?_;refine aJ (d6 (Z:=fun ls i=>(s.drop i=ls)∧de f ls i=some R) (Of:=fun _ i=>[]) (Gf:=fun _ i=>[(0,d7 (bn) s),(1,(dJ aM N6 mr (fun(x:bf)=>f x))),(7,hM s),(8,bH (i:Int))]) (fun i h=>?_) (fun e tl ih i h=>?_) s 0 ⟨J,h⟩) (aZ J)
 ·obtain⟨hx,h⟩:=h
  refine av<|aq<|zo J (eK J J)<|an<|ae<|bp (ht J) (cW hx)<|bg ?_;refine ac (ac (aF ?_));refine au<|aq<|zo rfl (cQ)<|an<|aj ?_;cases so h;exact aB J J
 ·obtain⟨hx,h⟩:=h
  refine av<|aq<|zo J (eK J J)<|an<|ae<|bo (ht J) (cU hx)<|dA<|ae<|ax<|aq<|aA J<|bk J<|an<|aq<|aA J<|aA J<|aA J<|zo J (iX sX gj J J J (cP hx)) ?_;refine zo J (bz gj J J)<|bF h fun r q_r h=>zo J (ej (args:=N6) (res:=Av) (f:=(fun(x:bf)=>f x)) (x:=((e):bf)) (ht J) q_r ⟨(ht J),aU⟩)<|an<|cX h J (fun h=>?_) (fun h=>?_)
  ·refine aq<|aA J<|bk J<|an<|aj ?_;refine aC (aa (aa (aC (aa ?_))));cases so h;exact aB J J
  ·refine bA<|am<|au<|ai<|zo rfl (jU (cz hx hN) rfl)<|aA rfl<|aH ?_;exact aT (aJ (ih (i+1) ⟨cy hx,h⟩) (aZ J))

theorem Pv(c:Int)(e:bf){R:Bool}(h:eL c e=some R):aN aM 209 [tD bn e,bq bQ c] (gK R):=by
 refine aN.of Tryz.func209 J J J fun w0 S0=>aq<|zo J (jh J)<|zo J (fJ)<|an<|ae<|bF h fun t q_t h=>?_
 obtain⟨e1,h1t,h0t⟩:=og q_t
 have q_e1g:=fun hb=>(h1t hb).1
 obtain⟨t1,q_t1,h⟩:=bs h
 obtain⟨e2,h1t1,h0t1⟩:=og q_t1
 have q_e2g:=fun hb=>(h1t1 hb).1
 refine eG (ts:=[_,_,_,_,_,_,_,_,_,_,_,_,_,_,_,_,_,_,_,_,_,_]) mixed J J
  ⟨ia 2 J J J (cd fa dw J J),
  ⟨cO 4 0 J J J (bz lU J J),
  ⟨cO 5 1 J J J (ja jB J),
  ⟨cO 6 2 J J J (jy J),
  ⟨cO 7 3 J J J (cL J),
  ⟨qD 2 8 4 J J J J (db J J J J (fun hg=>cd fa dw J J)),
  ⟨hZ 9 5 8 4 J J J J (db J J J J (fun hg=>aY lU J J (aS J hg))),
  ⟨hZ 10 6 8 4 J J J J (db J J J J (fun hg=>bX jB cY J (aS J hg) hI (q_e1g hg))),
  ⟨hZ 11 7 8 4 J J J J (db J J J J (fun hg=>dh iA J ef J (aS J hg))),
  ⟨hZ 12 8 8 4 J J J J (db J J J J (fun hg=>aY bJ J J (aS J hg))),
  ⟨hZ 13 9 8 4 J J J J (db J J J J (fun hg=>bK (aS J hg) hI)),
  ⟨ft 8 4 14 10 J J J J (dF (ht J) (fun hb=>(aS J hb)) (fun hb=>(h1t hb).2) h0t),
  ⟨cO 15 11 J J J (cL J),
  ⟨qD 2 16 12 J J J J (db J J J J (fun hg=>cd fa dw J J)),
  ⟨hZ 17 13 16 12 J J J J (db J J J J (fun hg=>aY lU J J (aS J hg))),
  ⟨hZ 18 14 16 12 J J J J (db J J J J (fun hg=>bX jB cY J (aS J hg) hI (q_e2g hg))),
  ⟨hZ 19 15 16 12 J J J J (db J J J J (fun hg=>dh m3 J iG J (aS J hg))),
  ⟨hZ 20 16 16 12 J J J J (db J J J J (fun hg=>aY bJ J J (aS J hg))),
  ⟨qD 1 16 12 J J J J (db J J J J (fun hg=>bz bJ J J)),
  ⟨wl 21 17 22 18 16 12 J J J J J (db J J J J (fun hg=>bK (aS J hg) (aS J hg))),
  ⟨ft 16 12 23 19 J J J J (dF (ht J) (fun hb=>(aS J hb)) (fun hb=>(h1t1 hb).2) h0t1),
  ⟨cO 24 20 J J J (zM J),
  aU⟩⟩⟩⟩⟩⟩⟩⟩⟩⟩⟩⟩⟩⟩⟩⟩⟩⟩⟩⟩⟩⟩ ?_
 refine au<|aj ?_;cases so h;exact aB J J

theorem Px(l:(Option cK))(c:Int){R:Int}(h:iK l c=some R):aN aM 207 [bH c,bq uq l] (bH R):=by
 refine aN.of Tryz.func207 J J J fun w0 S0=>aq<|zo J (jh J)<|zo J (cQ)<|an<|aq<|zo J (bz I1 J J)<|bF h fun p q_p h=>zo J (eV (ht J) q_p)<|zo J (cd AY vQ J J)<|zo J (cd sl tE J J)<|zo J (bz CT J J)<|zo J ((show bS _ _ _ _ ((dJ aM N6 mr (fun(x:bf)=>(eL c) x)))from eJ (cts:=[bq bQ c]) (caps:=[.tmp 2]) VR ⟨(ht J),aU⟩ (fun x y h=>Pv _ _ h)))<|bF h fun r q_r h=>zo J (aD VS (Pw _ _ q_r) ⟨(ht J),(ht J),aU⟩)<|bk J<|an<|aj ?_;cases so h;exact aB J J

theorem Qg(l:(Option cK)){R:bE}(h:jP l=some R):aN aM 147 [tD uq l] (tD bU R):=by
 refine aN.of Tryz.func147 J J J fun w0 S0=>aq<|zo J (jh J)<|aO (r:=bU) (x:=Bj) fe (fun _=>iQ _) J fun b=>an<|aq<|zo J (bz I1 J J)<|bF h fun p q_p h=>zo J (eV (ht J) q_p)<|zo J (cd tG qr J J)<|zo J (bz fe J J)<|zo J ((show bS _ _ _ _ ((dJ aM Au Km (fun(x:Int)=>(iK l) x)))from eJ (cts:=[bq uq l]) (caps:=[.tmp 1]) VT ⟨(ht J),aU⟩ (fun x y h=>Px _ _ h)))<|bF h fun r q_r h=>zo J (aD RM (JA _ _ q_r) ⟨(ht J),(ht J),aU⟩)<|ay fe J ap J (ht J) (ht J)<|aL 2 J<|an<|aj ?_;cases so h;exact eE J fe J J J

theorem Pu(l:(Option cK))(c:Int){R:Int}(h:jQ l c=some R):aN aM 210 [bH c,bq uq l] (bH R):=by
 refine aN.of Tryz.func210 J J J fun w0 S0=>aq<|zo J (cQ)<|an<|aq<|zo J (bz I1 J J)<|bF h fun p q_p h=>zo J (eV (ht J) q_p)<|zo J (cd AY vQ J J)<|zo J (cd kq fZ J J)<|zo J (bz ce J J)<|aA J<|bF h fun r q_r h=>zo J (aD RR (JF _ _ q_r) ⟨(ht J),(ht J),aU⟩)<|bk J<|an<|aj ?_;cases so h;exact aB J J

theorem Fk(l:(Option cK)){R:bE}(h:fT l=some R):aN aM 148 [tD uq l] (tD bU R):=by
 refine aN.of Tryz.func148 J J J fun w0 S0=>aq<|zo J (jh J)<|aO (r:=bU) (x:=Bj) fe (fun _=>iQ _) J fun b=>an<|aq<|zo J (bz I1 J J)<|bF h fun p q_p h=>zo J (eV (ht J) q_p)<|zo J (cd tG qr J J)<|zo J (bz fe J J)<|zo J ((show bS _ _ _ _ ((dJ aM Au Km (fun(x:Int)=>(jQ l) x)))from eJ (cts:=[bq uq l]) (caps:=[.tmp 1]) VQ ⟨(ht J),aU⟩ (fun x y h=>Pu _ _ h)))<|bF h fun r q_r h=>zo J (aD RM (JA _ _ q_r) ⟨(ht J),(ht J),aU⟩)<|ay fe J ap J (ht J) (ht J)<|aL 2 J<|an<|aj ?_;cases so h;exact eE J fe J J J

theorem A6(l:(Option cK)){R:bE}(h:fS l=some R):aN aM 149 [tD uq l] (tD bU R):=by
 refine aN.of Tryz.func149 J J J fun w0 S0=>aq<|aO (r:=bU) (x:=Bj) fe (fun _=>iQ _) J fun b=>an<|aq<|aA J<|bF h fun p q_p h=>zo J (eV (ht J) q_p)<|zo J (cd tG qr J J)<|zo J (bz fe J J)<|ay fe J ap J (ht J) (ht J)<|aL 2 J<|an<|aj ?_;cases so h;exact eE J fe J J J

theorem Tl{R:(List (Int×((Option cK)→Option bE)))}(h:qW=some R):aN aM 75 [] (CU (fun y:((Option cK)→Option bE)=>pD aM Eu s0 (fun(x:(Option cK))=>y x)) sx R):=by
 refine aN.of Tryz.func75 J J J fun w0 S0=>aq<|zo J (bm (show aE _ _ (.const (.map none)) (tV (.map none))from fun _ _ _=>J))<|an<|aq<|xg (LW (fun y:((Option cK)→Option bE)=>pD aM Eu s0 (fun(x:(Option cK))=>y x))) sx J fun b=>dx (γ:=(fun y:((Option cK)→Option bE)=>pD aM Eu s0 (fun(x:(Option cK))=>y x))) (y:=ki) Aq (di ou) (ht J) (kp hI) (gS (sj Wy fun x y h=>Qj _ h)) fun os=>dx (γ:=(fun y:((Option cK)→Option bE)=>pD aM Eu s0 (fun(x:(Option cK))=>y x))) (y:=pH) Aq (di ou) (ht J) (kp hI) (gS (sj Wx fun x y h=>Qi _ h)) fun os1=>dx (γ:=(fun y:((Option cK)→Option bE)=>pD aM Eu s0 (fun(x:(Option cK))=>y x))) (y:=pG) Aq (di ou) (ht J) (kp hI) (gS (sj Ww fun x y h=>Qh _ h)) fun os2=>dx (γ:=(fun y:((Option cK)→Option bE)=>pD aM Eu s0 (fun(x:(Option cK))=>y x))) (y:=jP) Aq (di ou) (ht J) (kp hI) (gS (sj Wv fun x y h=>Qg _ h)) fun os3=>dx (γ:=(fun y:((Option cK)→Option bE)=>pD aM Eu s0 (fun(x:(Option cK))=>y x))) (y:=fT) Aq (di ou) (ht J) (kp hI) (gS (sj Ny fun x y h=>Fk _ h)) fun os4=>dx (γ:=(fun y:((Option cK)→Option bE)=>pD aM Eu s0 (fun(x:(Option cK))=>y x))) (y:=fT) Aq (di ou) (ht J) (kp hI) (gS (sj Ny fun x y h=>Fk _ h)) fun os5=>dx (γ:=(fun y:((Option cK)→Option bE)=>pD aM Eu s0 (fun(x:(Option cK))=>y x))) (y:=fT) Aq (di ou) (ht J) (kp hI) (gS (sj Ny fun x y h=>Fk _ h)) fun os6=>dx (γ:=(fun y:((Option cK)→Option bE)=>pD aM Eu s0 (fun(x:(Option cK))=>y x))) (y:=fS) Aq (di ou) (ht J) (kp hI) (gS (sj JX fun x y h=>A6 _ h)) fun os7=>dx (γ:=(fun y:((Option cK)→Option bE)=>pD aM Eu s0 (fun(x:(Option cK))=>y x))) (y:=fS) Aq (di ou) (ht J) (kp hI) (gS (sj JX fun x y h=>A6 _ h)) fun os8=>dx (γ:=(fun y:((Option cK)→Option bE)=>pD aM Eu s0 (fun(x:(Option cK))=>y x))) (y:=fS) Aq (di ou) (ht J) (kp hI) (gS (sj JX fun x y h=>A6 _ h)) fun os9=>dx (γ:=(fun y:((Option cK)→Option bE)=>pD aM Eu s0 (fun(x:(Option cK))=>y x))) (y:=fS) Aq (di ou) (ht J) (kp hI) (gS (sj JX fun x y h=>A6 _ h)) fun os10=>aA J<|bk J<|an ?_;refine aj<|vv 0 J ?_;cases so h;exact aB J J

end Go.Proofs.YtmogpgcfognefaaGreatDoor

