/- di of this claim: P7. -/
import Derived.Test.YtmogpgcfognefaaGreatDoorNdT
import Derived.Test.YtmogpgcfognefaaGreatDoorNdP6
set_option linter.all false
namespace Go.Proofs.YtmogpgcfognefaaGreatDoor
open Go
set_option maxRecDepth 100000

theorem JW(q:da)(c:bG){R:(Option ci)×Int×Int×Int}(h:na q c=some R):bh be 41 [tD ce q,tD bJ c] (tT [tD qU R.1,bY R.2.1,bY R.2.2.1,bY R.2.2.2]):=by
 refine bh.of Tryz.func41 J J J fun w0 S0=>an<|zo J (lK J)<|zo J (lK J)<|zo J (aP (show aL _ _ _ LV from M0))<|zo J (dv)<|zo J (dv)<|zo J (dv)<|al<|ae<|an<|zo J (bj n9 J J)<|bM h fun r q_r h=>zo J (aH Yy (Ug _ q_r) ⟨(ht J),bm⟩)<|aY J<|al<|an<|ax J<|zo J (uP J) ?_;refine al<|cz h J (fun h=>?_) (fun h=>?_)
 ·refine an<|ax J<|zo J (aP (show aL _ _ _ LV from M0))<|zo J (dv)<|zo J (dv)<|aY J<|al<|aj<|aa ?_;cases so h;exact xr J J J J J
 ·refine dF<|ae<|an<|zo J (bw fY dp J J)<|zo J (bj nS J J)<|zo J (fU kE J)<|zo J (eg (ht J) hI)<|ax J<|bX J J (fun hg=>bw fY dp J J)<|bX J J (fun hg=>aF nS J J (aG J hg))<|bX J J (fun hg=>bg kE (aG J hg))<|bX J J (fun hg=>dZ (aG J hg) hI)<|zo J (lH J J)<|al<|cz h J (fun h=>?_) (fun h=>?_)
  ·refine an<|zo J (aP (show aL _ _ _ LV from M0))<|zo J (dv)<|zo J (dv)<|zo J (dv)<|al<|aj<|aa ?_;cases so h;exact xr J J J J J
  ·refine dF<|an<|zo J (bj mg J J)<|zo J (bj n9 J J)<|cm true (eX jd) 62<|zo J (cI (y:=kH (⟨q,c,[]⟩:ci) (aD none 0 (([]:List (List (List Int))).length))) Vn VL FE (⟨_,_,_,_,_,J,Cw,J,(ht J),⟨_,_,_,_,_,J,Cv,J,(ht J),J⟩⟩))<|vQ (ht J) J fun b=>aY J<|al<|ae<|an<|zo J (bw fY dp J J)<|zo J (bj nS J J)<|zo J (fU kE J)<|zo J (bk hI)<|al<|ap<|aT (k:=36) J fun hN=>bE ?_;refine aJ (me (Z:=fun ls i x l c1=>(q.Frags.drop i=ls)∧jE q ls i x=some R) (Of:=fun _ i x l c1=>[bx iE 163 b (kH x (aD l c1 x.kinds.length)),jx (eX jd) 62 l c1 x.kinds]) (Gf:=fun _ i x l c1=>[(2,bF ce q),(9,tV (aN b 0)),(36,eV (bR) q.Frags),(37,gA q.Frags),(38,bY (i:Int))]) (fun i x l c1 h=>?_) (fun e tl ih i x l c1 h=>?_) q.Frags 0 ({(⟨q,c,[]⟩:ci)with kinds:=([]:List (List (List Int)))}:ci) none 0 ⟨J,h⟩) (aQ J)
   ·obtain⟨hx,h⟩:=h
    refine av<|an<|zo J (eu J J)<|al<|ae<|bu (ht J) (dh hx)<|bf ?_;refine ac (ac (aI ?_));refine ai<|ae<|an<|zo rfl (bw fY dp rfl rfl)<|zo rfl (bj nS rfl rfl)<|zo rfl (fU kE rfl)<|zo rfl (bk hI)<|al<|ap<|aT (k:=78) J fun hN1=>bE ?_;refine aJ (dB (Z:=fun ls1 i1=>(q.Frags.drop i1=ls1)∧mj x ls1 i1=some R) (Of:=fun _ i1=>[bx iE 163 b (kH x (aD l c1 x.kinds.length)),jx (eX jd) 62 l c1 x.kinds]) (Gf:=fun _ i1=>[(9,tV (aN b 0)),(79,gA q.Frags),(80,bY (i1:Int))]) (fun i1 h=>?_) (fun e1 tl1 ih1 i1 h=>?_) q.Frags 0 ⟨J,h⟩) (aQ J)
    ·obtain⟨hx1,h⟩:=h
     refine av<|an<|zo J (eu J J)<|al<|ae<|bu (ht J) (dh hx1)<|bf ?_;refine ac (ac (aI ?_));refine ai<|an<|ax rfl<|aY rfl<|zo rfl (dv)<|zo rfl (dv)<|zo rfl (dv)<|al<|aj<|aU<|aU<|uI (r' :=ie) (x' :=x) (fun _ _ _ ho h=>qK (jl ho (.head _)) h)<|eP 4 J<|SF 4 J<|aX ?_;cases so h;exact xr J J J J J
    ·obtain⟨hx1,h⟩:=h
     refine av<|an<|zo J (eu J J)<|al<|ae<|bt (ht J) (dg hx1)<|dF<|ae<|ap<|an<|ax J<|aY J<|al<|an<|ax J<|ax J<|bM h fun r1 q_r1 h=>zo J (C3 (r:=iE) (rd:=ie) (T:=163) (b:=b) (x:=kH x (aD l c1 x.kinds.length)) (y:=x) (.head _) Ys (Uc _ _ q_r1) (fun _ _ _ ho h=>qK (jl ho (.tail _ (.head _))) h) (fun S S1 a hf hle hk=>rF (yY.2 (Kx (ht J) hf hk)) (rF (Kr (ht J) hf hle) trivial)) FR) ?_;refine zo J (dD (ht J))<|al<|cz h J (fun h=>?_) (fun h=>?_)
     ·refine an<|ax J<|zo J (aP (show aL _ _ _ LV from M0))<|aY J<|zo J (dv)<|zo J (dv)<|al<|aj ?_;refine am (aa (aa (am (aa ?_))));refine aX<|aX ?_;cases so h;exact xr J J J J J
     ·refine aO<|af<|ai<|ah<|zo rfl (je (cx hx1 hN1) rfl)<|ax rfl<|aC ?_;exact aM (aJ (ih1 (i1+1) ⟨cw hx1,h⟩) (aQ J))
   ·obtain⟨hx,h⟩:=h
    refine av<|an<|zo J (eu J J)<|al<|ae<|bt (ht J) (dg hx)<|dF<|ae<|ap<|an<|ax J<|zo J (gM kE fN J J J (dl hx))<|zo J (bj fN J J)<|aZ (r:=bR) (x:=IT) fN (fun _=>mu _) J fun b1=>aY J<|aE fN J ay J (ht J) (ht J)<|aW 11 J<|al<|ae ?_;refine ah<|zo J (bw mO gJ J J)<|zo J (bj n8 J J)<|bM h fun r2 q_r2 h=>zo J (aH WZ (O3 _ q_r2) ⟨(ht J),bm⟩)<|ax J<|zo J (iA J J)<|zo J (iA J J)<|zo J (iA J J)<|aY J<|aY J<|aY J<|al<|ae<|an<|ax J<|zo J (uP J)<|al<|cz h J (fun h=>?_) (fun h=>?_)
    ·refine an<|ax J<|ax J<|ax J<|zo J (aP (show aL _ _ _ LV from M0))<|aY J<|aY J<|aY J<|al<|aj ?_;refine aa (am (aa (aa (am (aa ?_)))));refine aX<|aX ?_;cases so h;exact xr J J J J J
    ·refine dF<|ae<|ae<|bM h fun e2 q_e2 h=>bM h fun r3 q_r3 h=>?_
     refine er (ts:=[_,_,_,_,_,_,_,_,_,_]) mixed J J
      ⟨ic 9 J J J (cq J),
      ⟨ic 11 J J J (bj fN J J),
      ⟨ic 12 J J J (cq J),
      ⟨ic 12 J J J (cq J),
      ⟨dc 58 3 J J J (fU n7 J),
      ⟨dc 59 4 J J J (dn (ht J) hI),
      ⟨eT 57 2 60 5 J J J J (gM n7 bV J J J q_e2),
      ⟨dc 61 6 J J J (bj bV J J),
      ⟨U0 55 0 56 1 62 7 J J J J J (C3 (r:=iE) (rd:=ie) (T:=163) (b:=b) (x:=kH x (aD l c1 x.kinds.length)) (y:=x) (.head _) Yt (Ud _ _ _ q_r3) (fun _ _ _ ho h=>qK (jl ho (.tail _ (.head _))) h) (fun S S1 a hf hle hk=>rF (yY.2 (Kx (ht J) hf hk)) (rF (Kr (ht J) hf hle) (rF (Kr (ht J) hf hle) trivial))) FR),
      ⟨dc 63 8 J J J (dD (ht J)),
      bm⟩⟩⟩⟩⟩⟩⟩⟩⟩⟩ ?_
     refine ai<|cz h rfl (fun h=>?_) (fun h=>?_)
     ·refine an<|ax J<|zo J (aP (show aL _ _ _ LV from M0))<|aY J<|zo J (dv)<|zo J (dv)<|al<|aj ?_;refine aa (am (aa (aa (am (aa ?_)))));refine aX<|aX ?_;cases so h;exact xr J J J J J
     ·refine dF<|ah<|ax J<|ax J<|zo J (bK (ht J))<|zo J (fi 2 B2 J J J)<|zo J (j8 Kv De (.head _) (.tail _ (.head _)) J (ht J))<|ax J<|zo J (ba (r:=(eX sd)) (ys:=[r2.1]) (xs:=[.tmp 71]) Tryz.underlying161 D7 J J J J J ⟨(ht J),bm⟩)<|cg<|bM h fun l1 q_l1 h=>pO D7 J J J J Tryz.underlying161 J J (ht J) (ht J) q_l1 fun l2 c2=>zo J (bK (ht J))<|zo J (fi 2 B2 J J J)<|cg<|dP Kv J (vm _ _ _) J (ht J) (Bg (D8 (ht J)))<|aC<|af<|ai<|ah<|zo rfl (je (cx hx hN) rfl)<|ax rfl<|aC ?_;exact aM (aJ (ih (i+1) ({x with kinds:=l1}:ci) l2 c2 ⟨cw hx,h⟩) (aQ J))

theorem Uz(p:da)(c:bG){R:Int×Int×Int}(h:yq p c=some R):bh be 11 [tD ce p,tD bJ c] (tT [bY R.1,bY R.2.1,bY R.2.2]):=by
 refine bh.of Tryz.func11 J J J fun w0 S0=>an<|zo J (lK J)<|zo J (lK J)<|zo J (dv)<|zo J (dv)<|zo J (dv)<|al<|an<|zo J (bj mg J J)<|zo J (bj n9 J J)<|bM h fun r q_r h=>zo J (aH UJ (JW _ _ q_r) ⟨(ht J),(ht J),bm⟩)<|ax J<|zo J (iA J J)<|zo J (iA J J)<|zo J (iA J J)<|zo J (iA J J)<|aY J<|aY J<|aY J ?_;refine aY J<|al<|an<|ax J<|ax J<|ax J<|aY J<|aY J<|aY J<|al<|aj ?_;cases so h;exact lF J J J J

theorem RJ(l:(Option dq)){R:aS}(h:lr l=some R):bh be 144 [tD wq l] (tD aR R):=by
 refine bh.of Tryz.func144 J J J fun w0 S0=>an<|aZ (r:=aR) (x:=vj) cD (fun _=>eo _) J fun b=>al<|ae<|ae<|bM h fun p q_p h=>bM h fun p1 q_p1 h=>bM h fun p2 q_p2 h=>bM h fun e q_e h=>?_
 refine er (ts:=[_,_,_,_,_,_,_,_,_,_,_,_,_,_,_,_,_]) mixed J J
  ⟨ic 0 J J J (cq J),
  ⟨dc 4 0 J J J (f9 (ht J) q_p),
  ⟨dc 5 1 J J J (bw Ld Fa J J),
  ⟨dc 6 2 J J J (bj xE J J),
  ⟨dc 7 3 J J J (f9 (ht J) q_p1),
  ⟨dc 8 4 J J J (bw Gv vF J J),
  ⟨dc 9 5 J J J (bw nV fI J J),
  ⟨dc 10 6 J J J (bj vl J J),
  ⟨ic 0 J J J (cq J),
  ⟨dc 12 8 J J J (f9 (ht J) q_p2),
  ⟨dc 13 9 J J J (bw B0 xp J J),
  ⟨dc 14 10 J J J (bw kj d8 J J),
  ⟨dc 15 11 J J J (bj br J J),
  ⟨eT 11 7 16 12 J J J J (gM rC qi J J J q_e),
  ⟨dc 17 13 J J J (bw tp mp J J),
  ⟨dc 18 14 J J J (bj bV J J),
  ⟨dc 19 15 J J J (yG J),
  bm⟩⟩⟩⟩⟩⟩⟩⟩⟩⟩⟩⟩⟩⟩⟩⟩⟩ ?_
 refine ai<|an<|ax rfl<|zo rfl (fU cZ rfl)<|zo rfl (dZ (ht rfl) hI)<|al<|cz h rfl (fun h=>?_) (fun h=>?_)
 ·refine an<|ax J<|bM h fun r q_r h=>kC Pj (B5 _ q_r) ⟨(ht J),bm⟩ J fun l1 c=>ja<|jq 24 J<|zo J (cI (y:=(⟨(2:Int),r⟩:aS)) cD tI eo (⟨_,_,_,_,_,J,fO,J,hI,⟨_,_,_,_,_,J,uT,J,(su (ht J)),J⟩⟩))<|cg<|aE cD J ay J (ht J) (ht J)<|al<|aj<|aa<|eP 2 J<|aX ?_;cases so h;exact gz J cD J J J
 ·refine dF<|an<|zo J (cI (y:=xZ) cD tI eo (⟨_,_,_,_,_,J,fO,J,hI,J⟩))<|aE cD J ay J (ht J) (ht J)<|al<|aj<|eP 2 J ?_;cases so h;exact gz J cD J J J

theorem RI(l:(Option dq)){R:aS}(h:kh l=some R):bh be 145 [tD wq l] (tD aR R):=by
 refine bh.of Tryz.func145 J J J fun w0 S0=>an<|aZ (r:=aR) (x:=vj) cD (fun _=>eo _) J fun b=>al<|ae<|ae<|bM h fun p q_p h=>bM h fun p1 q_p1 h=>bM h fun p2 q_p2 h=>bM h fun e q_e h=>?_
 refine rZ 16 [tc (tD wq l),tc (bF mw p),tc (bF qU p.checker),tc (tD qU p.checker),tc (bF ie p1),tc (bF ce p1.Plan),tc (bF (eX bR) p1.Plan.Frags),tc (eV (bR) p1.Plan.Frags),tc (tD wq l),tc (bF mw p2),tc (bF aA p2.n),tc (bF cC p2.n.Table),tc (bY p2.n.Table),tc (bF bR e),tc (tD bR e),([15],fun s=>tV (aN ((s.getD 0 wk).h 0).2 0))] [false,false,false,false,false,false,false,false,false,false,false,false,false,false,false,true] [fun _=>[bx aR 55 b vj],fun sg=>[bx bR 31 ((sg 15).h 0).2 IT,bx aR 55 b vj]] J mixed J J J J J
  ⟨⟨[⟨0,fun _=>tD wq l,none⟩],_,0,1,J,⟨(fun _=>J),bm⟩,J,J,J,J,J,fun _ sg _ _=>ak J (cq J)⟩,
  ⟨⟨[⟨4,fun _=>tD wq l,some 0⟩],_,0,1,J,⟨(fun _=>J),bm⟩,J,J,J,J,J,fun _ sg _ _=>ak J (f9 (ht J) q_p)⟩,
  ⟨⟨[⟨5,fun _=>bF mw p,some 1⟩],_,0,1,J,⟨(fun _=>J),bm⟩,J,J,J,J,J,fun _ sg _ _=>ak J (bw Ld Fa J J)⟩,
  ⟨⟨[⟨6,fun _=>bF qU p.checker,some 2⟩],_,0,1,J,⟨(fun _=>J),bm⟩,J,J,J,J,J,fun _ sg _ _=>ak J (bj xE J J)⟩,
  ⟨⟨[⟨7,fun _=>tD qU p.checker,some 3⟩],_,0,1,J,⟨(fun _=>J),bm⟩,J,J,J,J,J,fun _ sg _ _=>ak J (f9 (ht J) q_p1)⟩,
  ⟨⟨[⟨8,fun _=>bF ie p1,some 4⟩],_,0,1,J,⟨(fun _=>J),bm⟩,J,J,J,J,J,fun _ sg _ _=>ak J (bw rx jG J J)⟩,
  ⟨⟨[⟨9,fun _=>bF ce p1.Plan,some 5⟩],_,0,1,J,⟨(fun _=>J),bm⟩,J,J,J,J,J,fun _ sg _ _=>ak J (bw fY dp J J)⟩,
  ⟨⟨[⟨10,fun _=>bF (eX bR) p1.Plan.Frags,some 6⟩],_,0,1,J,⟨(fun _=>J),bm⟩,J,J,J,J,J,fun _ sg _ _=>ak J (bj nS J J)⟩,
  ⟨⟨[⟨0,fun _=>tD wq l,none⟩],_,0,1,J,⟨(fun _=>J),bm⟩,J,J,J,J,J,fun _ sg _ _=>ak J (cq J)⟩,
  ⟨⟨[⟨12,fun _=>tD wq l,some 8⟩],_,0,1,J,⟨(fun _=>J),bm⟩,J,J,J,J,J,fun _ sg _ _=>ak J (f9 (ht J) q_p2)⟩,
  ⟨⟨[⟨13,fun _=>bF mw p2,some 9⟩],_,0,1,J,⟨(fun _=>J),bm⟩,J,J,J,J,J,fun _ sg _ _=>ak J (bw B0 xp J J)⟩,
  ⟨⟨[⟨14,fun _=>bF aA p2.n,some 10⟩],_,0,1,J,⟨(fun _=>J),bm⟩,J,J,J,J,J,fun _ sg _ _=>ak J (bw kj d8 J J)⟩,
  ⟨⟨[⟨15,fun _=>bF cC p2.n.Table,some 11⟩],_,0,1,J,⟨(fun _=>J),bm⟩,J,J,J,J,J,fun _ sg _ _=>ak J (bj br J J)⟩,
  ⟨⟨[⟨11,fun _=>tD (eX bR) p1.Plan.Frags,some 7⟩,⟨16,fun _=>tD cC p2.n.Table,some 12⟩],_,0,1,J,⟨(fun _=>J),(fun _=>J),bm⟩,J,J,J,J,J,fun _ sg _ _=>ak J (gM kE fN J J J q_e)⟩,
  ⟨⟨[⟨17,fun _=>bF bR e,some 13⟩],_,0,1,J,⟨(fun _=>J),bm⟩,J,J,J,J,J,fun _ sg _ _=>ak J (bj fN J J)⟩,
  ⟨⟨[],_,J,bm,J,J,J,fun sg=>ea J (kV (r:=bR) (x:=IT) fN (fun _=>mu _))⟩,
  bm⟩⟩⟩⟩⟩⟩⟩⟩⟩⟩⟩⟩⟩⟩⟩⟩ (fun sg=>?_)
 refine(show RG _ _ _ _ [bx bR 31 ((sg 15).h 0).2 IT,bx aR 55 b vj] _ from ?_);refine aE fN J ay J (ht J) (ht J)<|aW 3 J<|al<|an<|zo J (bw pK ju J J)<|zo J (bj br J J)<|zo J (eQ J)<|al<|cz h J (fun h=>?_) (fun h=>?_)
 ·refine an<|zo J (bw uF o7 J J)<|zo J (bj bV J J)<|bM h fun r q_r h=>kC Pj (B5 _ q_r) ⟨(ht J),bm⟩ J fun l1 c=>ja<|jq 24 J<|zo J (cI (y:=(⟨(2:Int),r⟩:aS)) cD tI eo (⟨_,_,_,_,_,J,fO,J,hI,⟨_,_,_,_,_,J,uT,J,(su (ht J)),J⟩⟩))<|cg<|aE cD J ay J (ht J) (ht J)<|al<|aj<|aa<|eP 2 J<|aX ?_;cases so h;exact gz J cD J J J
 ·refine dF<|an<|zo J (cI (y:=Ti) cD tI eo (⟨_,_,_,_,_,J,fO,J,hI,J⟩))<|aE cD J ay J (ht J) (ht J)<|al<|aj<|eP 2 J ?_;cases so h;exact gz J cD J J J

theorem RH(l:(Option dq)){R:aS}(h:kg l=some R):bh be 146 [tD wq l] (tD aR R):=by
 refine bh.of Tryz.func146 J J J fun w0 S0=>an<|aZ (r:=aR) (x:=vj) cD (fun _=>eo _) J fun b=>al<|ae<|ae<|bM h fun p q_p h=>bM h fun t q_t h=>?_
 obtain⟨p1,h1t,h0t⟩:=og q_t
 have q_p1g:=fun hb=>(h1t hb).1
 obtain⟨t1,q_t1,h⟩:=bs h
 obtain⟨p2,h1t1,h0t1⟩:=og q_t1
 have q_p2g:=fun hb=>(h1t1 hb).1
 obtain⟨p3,h1t1⟩:=G1 (fun hb=>(h1t1 hb).2)
 have q_p3g:=fun hb=>(h1t1 hb).1
 obtain⟨r,h1t1⟩:=G1 (fun hb=>(h1t1 hb).2)
 have q_rg:=fun hb=>(h1t1 hb).1
 refine er (ts:=[_,_,_,_,_,_,_,_,_,_,_,_,_,_,_,_,_,_,_,_,_,_,_,_,_,_,_]) mixed J J
  ⟨ic 0 J J J (cq J),
  ⟨dc 3 0 J J J (f9 (ht J) q_p),
  ⟨dc 4 1 J J J (bw vH sR J J),
  ⟨dc 5 2 J J J (bw mM gi J J),
  ⟨dc 6 3 J J J (bj br J J),
  ⟨dc 7 4 J J J (eQ J),
  ⟨dc 8 5 J J J (cq J),
  ⟨jn 0 9 6 J J J J (bP J J J J (fun hg=>cq J)),
  ⟨dR 10 7 9 6 J J J J (bP J J J J (fun hg=>f9 (aG J hg) (q_p1g hg))),
  ⟨dR 11 8 9 6 J J J J (bP J J J J (fun hg=>cR Gu J E9 J (aG J hg))),
  ⟨dR 12 9 9 6 J J J J (bP J J J J (fun hg=>cR mM J gi J (aG J hg))),
  ⟨dR 13 10 9 6 J J J J (bP J J J J (fun hg=>aF br J J (aG J hg))),
  ⟨dR 14 11 9 6 J J J J (bP J J J J (fun hg=>bq (aG J hg) hI)),
  ⟨eT 9 6 15 12 J J J J (cu (ht J) (fun hb=>(aG J hb)) (fun hb=>(h1t hb).2) h0t),
  ⟨dc 16 13 J J J (cq J),
  ⟨jn 0 17 14 J J J J (bP J J J J (fun hg=>cq J)),
  ⟨dR 18 15 17 14 J J J J (bP J J J J (fun hg=>f9 (aG J hg) (q_p2g hg))),
  ⟨dR 19 16 17 14 J J J J (bP J J J J (fun hg=>cR vH J sR J (aG J hg))),
  ⟨dR 20 17 17 14 J J J J (bP J J J J (fun hg=>cR oQ J jt J (aG J hg))),
  ⟨dR 21 18 17 14 J J J J (bP J J J J (fun hg=>aF bV J J (aG J hg))),
  ⟨jn 0 17 14 J J J J (bP J J J J (fun hg=>cq J)),
  ⟨dR 23 20 17 14 J J J J (bP J J J J (fun hg=>f9 (aG J hg) (q_p3g hg))),
  ⟨dR 24 21 17 14 J J J J (bP J J J J (fun hg=>cR Gu J E9 J (aG J hg))),
  ⟨dR 25 22 17 14 J J J J (bP J J J J (fun hg=>cR oQ J jt J (aG J hg))),
  ⟨dR 26 23 17 14 J J J J (bP J J J J (fun hg=>aF bV J J (aG J hg))),
  ⟨mB 22 19 27 24 17 14 J J J J J (bP J J J J (fun hg=>aH Ta (Ls _ _ (q_rg hg)) ⟨(aG J hg),(aG J hg),bm⟩)),
  ⟨eT 17 14 28 25 J J J J (cu (ht J) (fun hb=>(aG J hb)) (fun hb=>(h1t1 hb).2) h0t1),
  bm⟩⟩⟩⟩⟩⟩⟩⟩⟩⟩⟩⟩⟩⟩⟩⟩⟩⟩⟩⟩⟩⟩⟩⟩⟩⟩⟩ ?_
 refine ai<|cz h rfl (fun h=>?_) (fun h=>?_)
 ·refine an<|ax J<|bM h fun p4 q_p4 h=>zo J (f9 (ht J) q_p4)<|zo J (bw vH sR J J)<|zo J (bj cD J J)<|aE cD J ay J (ht J) (ht J)<|al<|aj<|aa<|eP 2 J ?_;cases so h;exact gz J cD J J J
 ·refine dF<|an<|zo J (cI (y:=xZ) cD tI eo (⟨_,_,_,_,_,J,fO,J,hI,J⟩))<|aE cD J ay J (ht J) (ht J)<|al<|aj<|eP 2 J ?_;cases so h;exact gz J cD J J J

theorem Lk(p:aS)(at1:(Int→Option Int)){R:aS}(h:lX p at1=some R):bh be 206 [tD aR p,(iB be FJ PR (fun(x:Int)=>at1 x))] (tD aR R):=by
 refine bh.of Tryz.func206 J J J fun w0 S0=>an<|zo J (lK J)<|aZ (r:=aR) (x:=vj) cD (fun _=>eo _) J fun b=>al<|ae<|an<|zo J (bw mM gi J J)<|zo J (bj br J J)<|zo J (uP J)<|al<|cz h J (fun h=>?_) (fun h=>?_)
 ·refine an<|zo J (bj cD J J)<|aE cD J ay J (ht J) (ht J)<|al<|aj<|aa<|eP 4 J ?_;cases so h;exact gz J cD J J J
 ·refine dF<|an<|cm false cC 3<|zo J (aP tE)<|al<|ae<|an<|zo J (bw oQ jt J J)<|zo J (bj bV J J)<|zo J (fU cZ J)<|zo J (bk hI)<|al<|ap<|aT (k:=14) J fun hN=>bE ?_;refine aJ (tA (Z:=fun ls i cols l c x=>(p.Cols.drop i=ls)∧jQ at1 ls cols x=some R) (Of:=fun _ i cols l c x=>[cY cC 3 l c cols,bx aR 55 b x]) (Gf:=fun _ i cols l c x=>[(1,(iB be FJ PR (fun(x:Int)=>at1 x))),(4,tV (aN b 0)),(5,mU l c cols),(14,ji p.Cols),(15,gA p.Cols),(16,bY (i:Int))]) (fun i cols l c x h=>?_) (fun e tl ih i cols l c x h=>?_) p.Cols 0 ny none 0 vj ⟨J,h⟩) (aQ J)
  ·obtain⟨hx,h⟩:=h
   refine av<|an<|zo J (eu J J)<|al<|ae<|bu (ht J) (dh hx)<|bf ?_;refine ac (ac (aI ?_));refine ai<|an<|ax rfl<|ja<|jq 5 rfl<|jq 31 rfl<|zo rfl (cI (y:=(⟨(2:Int),cols⟩:aS)) cD tI eo (⟨_,_,_,_,_,J,fO,J,hI,⟨_,_,_,_,_,J,uT,J,(su (ht J)),J⟩⟩))<|cg<|aE cD J ay J (ht J) (ht J)<|al<|aj<|eP 4 J<|aX ?_;cases so h;exact gz J cD J J J
  ·obtain⟨hx,h⟩:=h
   refine av<|an<|zo J (eu J J)<|al<|ae<|bt (ht J) (dg hx)<|dF<|ae<|ap<|an<|zo J (gM cZ br J J J (dl hx))<|zo J (bj br J J)<|aY J<|al<|an<|ax J<|ax J<|bM h fun r q_r h=>?_;refine zo J (jR (args:=(fun(x:Int)=>[tD cC x])) (res:=(fun(x:Int)=>tD cC x)) (f:=(fun(x:Int)=>at1 x)) (x:=((e):Int)) (ht J) q_r ⟨(ht J),bm⟩)<|aY J<|al<|ae<|an<|ax J<|zo J (eg (ht J) hI)<|al<|cz h J (fun h=>?_) (fun h=>?_)
   ·refine an<|zo J (cI (y:=xZ) cD tI eo (⟨_,_,_,_,_,J,fO,J,hI,J⟩))<|cg<|aE cD J ay J (ht J) (ht J)<|al<|aj ?_;refine aa (am (aa (aa (am (aa ?_)))));refine eP 4 J<|aX ?_;cases so h;exact gz J cD J J J
   ·refine dF<|ah<|ax J<|ax J<|zo J (ba (r:=cC) (ys:=[r]) (xs:=[.tmp 27]) cZ br J J J J J ⟨(ht J),bm⟩)<|bM h fun cols1 q_cols1 h=>cn br J J J J cZ J J (ht J) (ht J) q_cols1 fun l1 c1=>aY J<|aC<|af<|ai<|ah<|zo rfl (je (cx hx hN) rfl)<|ax rfl<|aC ?_;exact aM (aJ (ih (i+1) cols1 l1 c1 x ⟨cw hx,h⟩) (aQ J))

theorem Ri(s:(List bp))(f:(bp→Option Bool)){R:Int}(h:dM s f=some R):bh be 208 [eV (bn) s,(iB be PS pQ (fun(x:bp)=>f x))] (bY R):=by
 refine bh.of Tryz.func208 J J J fun w0 S0=>an<|zo J (dv)<|al<|ae<|an<|ax J<|zo J (fU rD J)<|zo J (bk hI)<|al<|ap<|aT (k:=6) J fun hN=>bE ?_;refine aJ (dB (Z:=fun ls i=>(s.drop i=ls)∧cJ f ls i=some R) (Of:=fun _ i=>[]) (Gf:=fun _ i=>[(0,eV (bn) s),(1,(iB be PS pQ (fun(x:bp)=>f x))),(7,gA s),(8,bY (i:Int))]) (fun i h=>?_) (fun e tl ih i h=>?_) s 0 ⟨J,h⟩) (aQ J)
 ·obtain⟨hx,h⟩:=h
  refine av<|an<|zo J (eu J J)<|al<|ae<|bu (ht J) (dh hx)<|bf ?_;refine ac (ac (aI ?_));refine ai<|an<|zo rfl (dv)<|al<|aj ?_;cases so h;exact aB J J
 ·obtain⟨hx,h⟩:=h
  refine av<|an<|zo J (eu J J)<|al<|ae<|bt (ht J) (dg hx)<|dF<|ae<|ap<|an<|ax J<|aY J<|al<|an<|ax J<|ax J<|ax J<|zo J (gM rD fG J J J (dl hx)) ?_;refine zo J (bj fG J J)<|bM h fun r q_r h=>zo J (jR (args:=PS) (res:=D3) (f:=(fun(x:bp)=>f x)) (x:=((e):bp)) (ht J) q_r ⟨(ht J),bm⟩)<|al<|cz h J (fun h=>?_) (fun h=>?_)
  ·refine an<|ax J<|aY J<|al<|aj ?_;refine am (aa (aa (am (aa ?_))));cases so h;exact aB J J
  ·refine aO<|af<|ai<|ah<|zo rfl (je (cx hx hN) rfl)<|ax rfl<|aC ?_;exact aM (aJ (ih (i+1) ⟨cw hx,h⟩) (aQ J))

theorem Rh(c:Int)(e:bp){R:Bool}(h:dI c e=some R):bh be 209 [tD bn e,bF cC c] (gD R):=by
 refine bh.of Tryz.func209 J J J fun w0 S0=>an<|zo J (lK J)<|zo J (ei)<|al<|ae<|bM h fun t q_t h=>?_
 obtain⟨e1,h1t,h0t⟩:=og q_t
 have q_e1g:=fun hb=>(h1t hb).1
 obtain⟨t1,q_t1,h⟩:=bs h
 obtain⟨e2,h1t1,h0t1⟩:=og q_t1
 have q_e2g:=fun hb=>(h1t1 hb).1
 refine er (ts:=[_,_,_,_,_,_,_,_,_,_,_,_,_,_,_,_,_,_,_,_,_,_]) mixed J J
  ⟨ic 2 J J J (bw d3 cU J J),
  ⟨dc 4 0 J J J (bj jZ J J),
  ⟨dc 5 1 J J J (fU pi J),
  ⟨dc 6 2 J J J (eQ J),
  ⟨dc 7 3 J J J (cq J),
  ⟨jn 2 8 4 J J J J (bP J J J J (fun hg=>bw d3 cU J J)),
  ⟨dR 9 5 8 4 J J J J (bP J J J J (fun hg=>aF jZ J J (aG J hg))),
  ⟨dR 10 6 8 4 J J J J (bP J J J J (fun hg=>bW pi dk J (aG J hg) hI (q_e1g hg))),
  ⟨dR 11 7 8 4 J J J J (bP J J J J (fun hg=>cR iT J ez J (aG J hg))),
  ⟨dR 12 8 8 4 J J J J (bP J J J J (fun hg=>aF br J J (aG J hg))),
  ⟨dR 13 9 8 4 J J J J (bP J J J J (fun hg=>bq (aG J hg) hI)),
  ⟨eT 8 4 14 10 J J J J (cu (ht J) (fun hb=>(aG J hb)) (fun hb=>(h1t hb).2) h0t),
  ⟨dc 15 11 J J J (cq J),
  ⟨jn 2 16 12 J J J J (bP J J J J (fun hg=>bw d3 cU J J)),
  ⟨dR 17 13 16 12 J J J J (bP J J J J (fun hg=>aF jZ J J (aG J hg))),
  ⟨dR 18 14 16 12 J J J J (bP J J J J (fun hg=>bW pi dk J (aG J hg) hI (q_e2g hg))),
  ⟨dR 19 15 16 12 J J J J (bP J J J J (fun hg=>cR lD J fX J (aG J hg))),
  ⟨dR 20 16 16 12 J J J J (bP J J J J (fun hg=>aF br J J (aG J hg))),
  ⟨jn 1 16 12 J J J J (bP J J J J (fun hg=>bj br J J)),
  ⟨mB 21 17 22 18 16 12 J J J J J (bP J J J J (fun hg=>bq (aG J hg) (aG J hg))),
  ⟨eT 16 12 23 19 J J J J (cu (ht J) (fun hb=>(aG J hb)) (fun hb=>(h1t1 hb).2) h0t1),
  ⟨dc 24 20 J J J (yG J),
  bm⟩⟩⟩⟩⟩⟩⟩⟩⟩⟩⟩⟩⟩⟩⟩⟩⟩⟩⟩⟩⟩⟩ ?_
 refine ai<|aj ?_;cases so h;exact aB J J

theorem Rj(l:(Option dq))(c:Int){R:Int}(h:gQ l c=some R):bh be 207 [bY c,bF wq l] (bY R):=by
 refine bh.of Tryz.func207 J J J fun w0 S0=>an<|zo J (lK J)<|zo J (dv)<|al<|an<|zo J (bj Ku J J)<|bM h fun p q_p h=>zo J (f9 (ht J) q_p)<|zo J (bw B0 xp J J)<|zo J (bw rh nh J J)<|zo J (bj yW J J)<|zo J ((show cO _ _ _ _ ((iB be PS pQ (fun(x:bp)=>(dI c) x)))from kQ (cts:=[bF cC c]) (caps:=[.tmp 2]) WL ⟨(ht J),bm⟩ (fun x y h=>Rh _ _ h)))<|bM h fun r q_r h=>zo J (aH WM (Ri _ _ q_r) ⟨(ht J),(ht J),bm⟩)<|aY J<|al<|aj ?_;cases so h;exact aB J J

theorem RF(l:(Option dq)){R:aS}(h:iM l=some R):bh be 147 [tD wq l] (tD aR R):=by
 refine bh.of Tryz.func147 J J J fun w0 S0=>an<|zo J (lK J)<|aZ (r:=aR) (x:=vj) cD (fun _=>eo _) J fun b=>al<|an<|zo J (bj Ku J J)<|bM h fun p q_p h=>zo J (f9 (ht J) q_p)<|zo J (bw vH sR J J)<|zo J (bj cD J J)<|zo J ((show cO _ _ _ _ ((iB be FJ PR (fun(x:Int)=>(gQ l) x)))from kQ (cts:=[bF wq l]) (caps:=[.tmp 1]) WN ⟨(ht J),bm⟩ (fun x y h=>Rj _ _ h)))<|bM h fun r q_r h=>zo J (aH SZ (Lk _ _ q_r) ⟨(ht J),(ht J),bm⟩)<|aE cD J ay J (ht J) (ht J)<|aW 2 J<|al<|aj ?_;cases so h;exact gz J cD J J J

theorem Rf(l:(Option dq))(c:Int){R:Int}(h:iN l c=some R):bh be 210 [bY c,bF wq l] (bY R):=by
 refine bh.of Tryz.func210 J J J fun w0 S0=>an<|zo J (dv)<|al<|an<|zo J (bj Ku J J)<|bM h fun p q_p h=>zo J (f9 (ht J) q_p)<|zo J (bw B0 xp J J)<|zo J (bw jk dO J J)<|zo J (bj bV J J)<|ax J<|bM h fun r q_r h=>zo J (aH S6 (Lo _ _ q_r) ⟨(ht J),(ht J),bm⟩)<|aY J<|al<|aj ?_;cases so h;exact aB J J

theorem GE(l:(Option dq)){R:aS}(h:ep l=some R):bh be 148 [tD wq l] (tD aR R):=by
 refine bh.of Tryz.func148 J J J fun w0 S0=>an<|zo J (lK J)<|aZ (r:=aR) (x:=vj) cD (fun _=>eo _) J fun b=>al<|an<|zo J (bj Ku J J)<|bM h fun p q_p h=>zo J (f9 (ht J) q_p)<|zo J (bw vH sR J J)<|zo J (bj cD J J)<|zo J ((show cO _ _ _ _ ((iB be FJ PR (fun(x:Int)=>(iN l) x)))from kQ (cts:=[bF wq l]) (caps:=[.tmp 1]) WK ⟨(ht J),bm⟩ (fun x y h=>Rf _ _ h)))<|bM h fun r q_r h=>zo J (aH SZ (Lk _ _ q_r) ⟨(ht J),(ht J),bm⟩)<|aE cD J ay J (ht J) (ht J)<|aW 2 J<|al<|aj ?_;cases so h;exact gz J cD J J J

theorem B8(l:(Option dq)){R:aS}(h:eU l=some R):bh be 149 [tD wq l] (tD aR R):=by
 refine bh.of Tryz.func149 J J J fun w0 S0=>an<|aZ (r:=aR) (x:=vj) cD (fun _=>eo _) J fun b=>al<|an<|ax J<|bM h fun p q_p h=>zo J (f9 (ht J) q_p)<|zo J (bw vH sR J J)<|zo J (bj cD J J)<|aE cD J ay J (ht J) (ht J)<|aW 2 J<|al<|aj ?_;cases so h;exact gz J cD J J J

theorem Ub{R:(List (Int×((Option dq)→Option aS)))}(h:mJ=some R):bh be 75 [] (PM (fun y:((Option dq)→Option aS)=>D9 be FI FG (fun(x:(Option dq))=>y x)) FH R):=by
 refine bh.of Tryz.func75 J J J fun w0 S0=>an<|zo J (aP (show aL _ _ (.const (.map none)) (tV (.map none))from fun _ _ _=>J))<|al<|an<|DD (Ow (fun y:((Option dq)→Option aS)=>D9 be FI FG (fun(x:(Option dq))=>y x))) FH J fun b=>jm (γ:=(fun y:((Option dq)→Option aS)=>D9 be FI FG (fun(x:(Option dq))=>y x))) (y:=lr) BA (ir oT) (ht J) (sE hI) (sX (Gm Xk fun x y h=>RJ _ h)) fun os=>jm (γ:=(fun y:((Option dq)→Option aS)=>D9 be FI FG (fun(x:(Option dq))=>y x))) (y:=kh) BA (ir oT) (ht J) (sE hI) (sX (Gm Xj fun x y h=>RI _ h)) fun os1=>jm (γ:=(fun y:((Option dq)→Option aS)=>D9 be FI FG (fun(x:(Option dq))=>y x))) (y:=kg) BA (ir oT) (ht J) (sE hI) (sX (Gm Xi fun x y h=>RH _ h)) fun os2=>jm (γ:=(fun y:((Option dq)→Option aS)=>D9 be FI FG (fun(x:(Option dq))=>y x))) (y:=iM) BA (ir oT) (ht J) (sE hI) (sX (Gm Xh fun x y h=>RF _ h)) fun os3=>jm (γ:=(fun y:((Option dq)→Option aS)=>D9 be FI FG (fun(x:(Option dq))=>y x))) (y:=ep) BA (ir oT) (ht J) (sE hI) (sX (Gm Pr fun x y h=>GE _ h)) fun os4=>jm (γ:=(fun y:((Option dq)→Option aS)=>D9 be FI FG (fun(x:(Option dq))=>y x))) (y:=ep) BA (ir oT) (ht J) (sE hI) (sX (Gm Pr fun x y h=>GE _ h)) fun os5=>jm (γ:=(fun y:((Option dq)→Option aS)=>D9 be FI FG (fun(x:(Option dq))=>y x))) (y:=ep) BA (ir oT) (ht J) (sE hI) (sX (Gm Pr fun x y h=>GE _ h)) fun os6=>jm (γ:=(fun y:((Option dq)→Option aS)=>D9 be FI FG (fun(x:(Option dq))=>y x))) (y:=eU) BA (ir oT) (ht J) (sE hI) (sX (Gm LB fun x y h=>B8 _ h)) fun os7=>jm (γ:=(fun y:((Option dq)→Option aS)=>D9 be FI FG (fun(x:(Option dq))=>y x))) (y:=eU) BA (ir oT) (ht J) (sE hI) (sX (Gm LB fun x y h=>B8 _ h)) fun os8=>jm (γ:=(fun y:((Option dq)→Option aS)=>D9 be FI FG (fun(x:(Option dq))=>y x))) (y:=eU) BA (ir oT) (ht J) (sE hI) (sX (Gm LB fun x y h=>B8 _ h)) fun os9=>jm (γ:=(fun y:((Option dq)→Option aS)=>D9 be FI FG (fun(x:(Option dq))=>y x))) (y:=eU) BA (ir oT) (ht J) (sE hI) (sX (Gm LB fun x y h=>B8 _ h)) fun os10=>ax J<|aY J<|al ?_;refine aj<|Bu 0 J ?_;cases so h;exact aB J J

end Go.Proofs.YtmogpgcfognefaaGreatDoor

