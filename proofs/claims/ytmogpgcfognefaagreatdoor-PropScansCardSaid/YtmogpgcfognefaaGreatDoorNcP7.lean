/- cd of this claim: P7. -/
import Derived.Test.YtmogpgcfognefaaGreatDoorNcT
import Derived.Test.YtmogpgcfognefaaGreatDoorNcP6
set_option linter.all false
namespace Go.Proofs.YtmogpgcfognefaaGreatDoor
open Go
set_option maxRecDepth 100000

theorem EK(q:eC)(c:aT){R:(Option bN)×Int×Int×Int}(h:mL q c=some R):aW aM 41 [tD df q,tD bP c] (tT [tD mF R.1,bQ R.2.1,bQ R.2.2.1,bQ R.2.2.2]):=by
 refine aW.of Tryz.func41 J J J fun w0 S0=>au<|zo J (kZ J)<|zo J (kZ J)<|zo J (a8 (show aw _ _ _ Gr from Hg))<|zo J (dA)<|zo J (dA)<|zo J (dA)<|ap<|ae<|au<|zo J (bw kl J J)<|bF h fun r q_r h=>zo J (aJ N5 (EJ _ q_r) ⟨(ht J),be⟩)<|bo J<|ap<|au<|ax J<|zo J (qZ J) ?_;refine ap<|dh h J (fun h=>?_) (fun h=>?_)
 ·refine au<|ax J<|zo J (a8 (show aw _ _ _ Gr from Hg))<|zo J (dA)<|zo J (dA)<|bo J<|ap<|al<|aa ?_;cases so h;exact sK J J J J J
 ·refine dz<|ae<|au<|zo J (bY lB fT J J)<|zo J (bw tt J J)<|zo J (gJ pK J)<|zo J (ep (ht J) hI)<|ax J<|cw J J (fun hg=>bY lB fT J J)<|cw J J (fun hg=>aL tt J J (aI J hg))<|cw J J (fun hg=>bR pK (aI J hg))<|cw J J (fun hg=>fG (aI J hg) hI)<|zo J (oQ J J)<|ap<|dh h J (fun h=>?_) (fun h=>?_)
  ·refine au<|zo J (a8 (show aw _ _ _ Gr from Hg))<|zo J (dA)<|zo J (dA)<|zo J (dA)<|ap<|al<|aa ?_;cases so h;exact sK J J J J J
  ·refine dz<|au<|zo J (bw px J J)<|zo J (bw kl J J)<|ci true (dR gr) 62<|zo J (cE (y:=gM (⟨q,c,[]⟩:bN) (an none 0 (([]:List (List (List Int))).length))) ON Pb A5 (⟨_,_,_,_,_,J,xJ,J,(ht J),⟨_,_,_,_,_,J,xI,J,(ht J),J⟩⟩))<|xd (ht J) J fun b=>bo J<|ap<|ae<|au<|zo J (bY lB fT J J)<|zo J (bw tt J J)<|zo J (gJ pK J)<|zo J (bg hI)<|ap<|av<|aP (k:=36) J fun hN=>bu ?_;refine aG (ld (Z:=fun ls i x l c1=>(q.Frags.drop i=ls)∧k9 q ls i x=some R) (Of:=fun _ i x l c1=>[bx fq 163 b (gM x (an l c1 x.kinds.length)),fA (dR gr) 62 l c1 x.kinds]) (Gf:=fun _ i x l c1=>[(2,bp df q),(9,tV (aF b 0)),(36,d6 (cr) q.Frags),(37,gR q.Frags),(38,bQ (i:Int))]) (fun i x l c1 h=>?_) (fun e tl ih i x l c1 h=>?_) q.Frags 0 ({(⟨q,c,[]⟩:bN)with kinds:=([]:List (List (List Int)))}:bN) none 0 ⟨J,h⟩) (aX J)
   ·obtain⟨hx,h⟩:=h
    refine aq<|au<|zo J (eD J J)<|ap<|ae<|bn (ht J) (cW hx)<|aY ?_;refine ac (ac (aC ?_));refine am<|ae<|au<|zo rfl (bY lB fT rfl rfl)<|zo rfl (bw tt rfl rfl)<|zo rfl (gJ pK rfl)<|zo rfl (bg hI)<|ap<|av<|aP (k:=78) J fun hN1=>bu ?_;refine aG (dk (Z:=fun ls1 i1=>(q.Frags.drop i1=ls1)∧k8 x ls1 i1=some R) (Of:=fun _ i1=>[bx fq 163 b (gM x (an l c1 x.kinds.length)),fA (dR gr) 62 l c1 x.kinds]) (Gf:=fun _ i1=>[(9,tV (aF b 0)),(79,gR q.Frags),(80,bQ (i1:Int))]) (fun i1 h=>?_) (fun e1 tl1 ih1 i1 h=>?_) q.Frags 0 ⟨J,h⟩) (aX J)
    ·obtain⟨hx1,h⟩:=h
     refine aq<|au<|zo J (eD J J)<|ap<|ae<|bn (ht J) (cW hx1)<|aY ?_;refine ac (ac (aC ?_));refine am<|au<|ax rfl<|bo rfl<|zo rfl (dA)<|zo rfl (dA)<|zo rfl (dA)<|ap<|al<|br<|br<|pH (r' :=eW) (x' :=x) (fun _ _ _ ho h=>ml (kc ho (.head _)) h)<|dw 4 J<|L7 4 J<|bv ?_;cases so h;exact sK J J J J J
    ·obtain⟨hx1,h⟩:=h
     refine aq<|au<|zo J (eD J J)<|ap<|ae<|bm (ht J) (cR hx1)<|dz<|ae<|av<|au<|ax J<|bo J<|ap<|au<|ax J<|ax J<|bF h fun r1 q_r1 h=>zo J (ym (r:=fq) (rd:=eW) (T:=163) (b:=b) (x:=gM x (an l c1 x.kinds.length)) (y:=x) (.head _) R6 (NB _ _ q_r1) (fun _ _ _ ho h=>ml (kc ho (.tail _ (.head _))) h) (fun S S1 a hf hle hk=>ni (ue.2 (Fk (ht J) hf hk)) (ni (Ff (ht J) hf hle) trivial)) Bf) ?_;refine zo J (dn (ht J))<|ap<|dh h J (fun h=>?_) (fun h=>?_)
     ·refine au<|ax J<|zo J (a8 (show aw _ _ _ Gr from Hg))<|bo J<|zo J (dA)<|zo J (dA)<|ap<|al ?_;refine aA (aa (aa (aA (aa ?_))));refine bv<|bv ?_;cases so h;exact sK J J J J J
     ·refine bt<|ak<|am<|ai<|zo rfl (jN (cy hx1 hN1) rfl)<|ax rfl<|aH ?_;exact aO (aG (ih1 (i1+1) ⟨cx hx1,h⟩) (aX J))
   ·obtain⟨hx,h⟩:=h
    refine aq<|au<|zo J (eD J J)<|ap<|ae<|bm (ht J) (cR hx)<|dz<|ae<|av<|au<|ax J<|zo J (im pK jI J J J (cS hx))<|zo J (bw jI J J)<|bc (r:=cr) (x:=A9) jI (fun _=>lU _) J fun b1=>bo J<|aE jI J ay J (ht J) (ht J)<|aV 11 J<|ap<|ae ?_;refine ai<|zo J (bY qK kO J J)<|zo J (bw wI J J)<|bF h fun r2 q_r2 h=>zo J (aJ Sq (NU _ q_r2) ⟨(ht J),be⟩)<|ax J<|zo J (lg J J)<|zo J (lg J J)<|zo J (lg J J)<|bo J<|bo J<|bo J<|ap<|ae<|au<|ax J<|zo J (qZ J)<|ap<|dh h J (fun h=>?_) (fun h=>?_)
    ·refine au<|ax J<|ax J<|ax J<|zo J (a8 (show aw _ _ _ Gr from Hg))<|bo J<|bo J<|bo J<|ap<|al ?_;refine aa (aA (aa (aa (aA (aa ?_)))));refine bv<|bv ?_;cases so h;exact sK J J J J J
    ·refine dz<|ae<|ae<|bF h fun e2 q_e2 h=>bF h fun r3 q_r3 h=>?_
     refine eb (ts:=[_,_,_,_,_,_,_,_,_,_]) mixed J J
      ⟨gF 9 J J J (cz J),
      ⟨gF 11 J J J (bw jI J J),
      ⟨gF 12 J J J (cz J),
      ⟨gF 12 J J J (cz J),
      ⟨cL 58 3 J J J (gJ ro J),
      ⟨cL 59 4 J J J (gj (ht J) hI),
      ⟨eu 57 2 60 5 J J J J (im ro bZ J J J q_e2),
      ⟨cL 61 6 J J J (bw bZ J J),
      ⟨Ou 55 0 56 1 62 7 J J J J J (ym (r:=fq) (rd:=eW) (T:=163) (b:=b) (x:=gM x (an l c1 x.kinds.length)) (y:=x) (.head _) R7 (NC _ _ _ q_r3) (fun _ _ _ ho h=>ml (kc ho (.tail _ (.head _))) h) (fun S S1 a hf hle hk=>ni (ue.2 (Fk (ht J) hf hk)) (ni (Ff (ht J) hf hle) (ni (Ff (ht J) hf hle) trivial))) Bf),
      ⟨cL 63 8 J J J (dn (ht J)),
      be⟩⟩⟩⟩⟩⟩⟩⟩⟩⟩ ?_
     refine am<|dh h rfl (fun h=>?_) (fun h=>?_)
     ·refine au<|ax J<|zo J (a8 (show aw _ _ _ Gr from Hg))<|bo J<|zo J (dA)<|zo J (dA)<|ap<|al ?_;refine aa (aA (aa (aa (aA (aa ?_)))));refine bv<|bv ?_;cases so h;exact sK J J J J J
     ·refine dz<|ai<|ax J<|ax J<|zo J (aR (ht J))<|zo J (gq 2 wZ J J J)<|zo J (G2 Fj yz (.head _) (.tail _ (.head _)) J (ht J))<|ax J<|zo J (ba (r:=(dR rp)) (ys:=[r2.1]) (xs:=[.tmp 71]) Tryz.underlying161 zq J J J J J ⟨(ht J),be⟩)<|ca<|bF h fun l1 q_l1 h=>tU zq J J J J Tryz.underlying161 J J (ht J) (ht J) q_l1 fun l2 c2=>zo J (aR (ht J))<|zo J (gq 2 wZ J J J)<|ca<|fy Fj J (qm _ _ _) J (ht J) (DL (D0 (ht J)))<|aH<|ak<|am<|ai<|zo rfl (jN (cy hx hN) rfl)<|ax rfl<|aH ?_;exact aO (aG (ih (i+1) ({x with kinds:=l1}:bN) l2 c2 ⟨cx hx,h⟩) (aX J))

theorem NW(p:eC)(c:aT){R:Int×Int×Int}(h:tE p c=some R):aW aM 11 [tD df p,tD bP c] (tT [bQ R.1,bQ R.2.1,bQ R.2.2]):=by
 refine aW.of Tryz.func11 J J J fun w0 S0=>au<|zo J (kZ J)<|zo J (kZ J)<|zo J (dA)<|zo J (dA)<|zo J (dA)<|ap<|au<|zo J (bw px J J)<|zo J (bw kl J J)<|bF h fun r q_r h=>zo J (aJ N6 (EK _ _ q_r) ⟨(ht J),(ht J),be⟩)<|ax J<|zo J (lg J J)<|zo J (lg J J)<|zo J (lg J J)<|zo J (lg J J)<|bo J<|bo J<|bo J ?_;refine bo J<|ap<|au<|ax J<|ax J<|ax J<|bo J<|bo J<|bo J<|ap<|al ?_;cases so h;exact mu J J J J

theorem Lp(l:(Option cq)){R:bB}(h:ko l=some R):aW aM 144 [tD rq l] (tD bJ R):=by
 refine aW.of Tryz.func144 J J J fun w0 S0=>au<|bc (r:=bJ) (x:=xq) ec (fun _=>gK _) J fun b=>ap<|ae<|ae<|bF h fun p q_p h=>bF h fun p1 q_p1 h=>bF h fun p2 q_p2 h=>bF h fun e q_e h=>?_
 refine eb (ts:=[_,_,_,_,_,_,_,_,_,_,_,_,_,_,_,_,_]) mixed J J
  ⟨gF 0 J J J (cz J),
  ⟨cL 4 0 J J J (dY (ht J) q_p),
  ⟨cL 5 1 J J J (bY FH Az J J),
  ⟨cL 6 2 J J J (bw sU J J),
  ⟨cL 7 3 J J J (dY (ht J) q_p1),
  ⟨cL 8 4 J J J (bY BG qE J J),
  ⟨cL 9 5 J J J (bY j7 dH J J),
  ⟨cL 10 6 J J J (bw ql J J),
  ⟨gF 0 J J J (cz J),
  ⟨cL 12 8 J J J (dY (ht J) q_p2),
  ⟨cL 13 9 J J J (bY wY sE J J),
  ⟨cL 14 10 J J J (bY nE gC J J),
  ⟨cL 15 11 J J J (bw bK J J),
  ⟨eu 11 7 16 12 J J J J (im mw kG J J J q_e),
  ⟨cL 17 13 J J J (bY tM mS J J),
  ⟨cL 18 14 J J J (bw bZ J J),
  ⟨cL 19 15 J J J (xx J),
  be⟩⟩⟩⟩⟩⟩⟩⟩⟩⟩⟩⟩⟩⟩⟩⟩⟩ ?_
 refine am<|au<|ax rfl<|zo rfl (gJ dd rfl)<|zo rfl (fG (ht rfl) hI)<|ap<|dh h rfl (fun h=>?_) (fun h=>?_)
 ·refine au<|ax J<|bF h fun r q_r h=>jj I9 (w9 _ q_r) ⟨(ht J),be⟩ J fun l1 c=>m3<|oN 24 J<|zo J (cE (y:=(⟨(2:Int),r⟩:bB)) ec C7 gK (⟨_,_,_,_,_,J,lG,J,hI,⟨_,_,_,_,_,J,vq,J,(rx (ht J)),J⟩⟩))<|ca<|aE ec J ay J (ht J) (ht J)<|ap<|al<|aa<|dw 2 J<|bv ?_;cases so h;exact fz J ec J J J
 ·refine dz<|au<|zo J (cE (y:=MF) ec C7 gK (⟨_,_,_,_,_,J,lG,J,hI,J⟩))<|aE ec J ay J (ht J) (ht J)<|ap<|al<|dw 2 J ?_;cases so h;exact fz J ec J J J

theorem Lo(l:(Option cq)){R:bB}(h:nD l=some R):aW aM 145 [tD rq l] (tD bJ R):=by
 refine aW.of Tryz.func145 J J J fun w0 S0=>au<|bc (r:=bJ) (x:=xq) ec (fun _=>gK _) J fun b=>ap<|ae<|ae<|bF h fun p q_p h=>bF h fun p1 q_p1 h=>bF h fun p2 q_p2 h=>bF h fun e q_e h=>?_
 refine mt 16 [tc (tD rq l),tc (bp iP p),tc (bp mF p.checker),tc (tD mF p.checker),tc (bp eW p1),tc (bp df p1.Plan),tc (bp (dR cr) p1.Plan.Frags),tc (d6 (cr) p1.Plan.Frags),tc (tD rq l),tc (bp iP p2),tc (bp aS p2.n),tc (bp bV p2.n.Table),tc (bQ p2.n.Table),tc (bp cr e),tc (tD cr e),([15],fun s=>tV (aF ((s.getD 0 sR).h 0).2 0))] [false,false,false,false,false,false,false,false,false,false,false,false,false,false,false,true] [fun _=>[bx bJ 55 b xq],fun sg=>[bx cr 31 ((sg 15).h 0).2 A9,bx bJ 55 b xq]] J mixed J J J J J
  ⟨⟨[⟨0,fun _=>tD rq l,none⟩],_,0,1,J,⟨(fun _=>J),be⟩,J,J,J,J,J,fun _ sg _ _=>ah J (cz J)⟩,
  ⟨⟨[⟨4,fun _=>tD rq l,some 0⟩],_,0,1,J,⟨(fun _=>J),be⟩,J,J,J,J,J,fun _ sg _ _=>ah J (dY (ht J) q_p)⟩,
  ⟨⟨[⟨5,fun _=>bp iP p,some 1⟩],_,0,1,J,⟨(fun _=>J),be⟩,J,J,J,J,J,fun _ sg _ _=>ah J (bY FH Az J J)⟩,
  ⟨⟨[⟨6,fun _=>bp mF p.checker,some 2⟩],_,0,1,J,⟨(fun _=>J),be⟩,J,J,J,J,J,fun _ sg _ _=>ah J (bw sU J J)⟩,
  ⟨⟨[⟨7,fun _=>tD mF p.checker,some 3⟩],_,0,1,J,⟨(fun _=>J),be⟩,J,J,J,J,J,fun _ sg _ _=>ah J (dY (ht J) q_p1)⟩,
  ⟨⟨[⟨8,fun _=>bp eW p1,some 4⟩],_,0,1,J,⟨(fun _=>J),be⟩,J,J,J,J,J,fun _ sg _ _=>ah J (bY nc gb J J)⟩,
  ⟨⟨[⟨9,fun _=>bp df p1.Plan,some 5⟩],_,0,1,J,⟨(fun _=>J),be⟩,J,J,J,J,J,fun _ sg _ _=>ah J (bY lB fT J J)⟩,
  ⟨⟨[⟨10,fun _=>bp (dR cr) p1.Plan.Frags,some 6⟩],_,0,1,J,⟨(fun _=>J),be⟩,J,J,J,J,J,fun _ sg _ _=>ah J (bw tt J J)⟩,
  ⟨⟨[⟨0,fun _=>tD rq l,none⟩],_,0,1,J,⟨(fun _=>J),be⟩,J,J,J,J,J,fun _ sg _ _=>ah J (cz J)⟩,
  ⟨⟨[⟨12,fun _=>tD rq l,some 8⟩],_,0,1,J,⟨(fun _=>J),be⟩,J,J,J,J,J,fun _ sg _ _=>ah J (dY (ht J) q_p2)⟩,
  ⟨⟨[⟨13,fun _=>bp iP p2,some 9⟩],_,0,1,J,⟨(fun _=>J),be⟩,J,J,J,J,J,fun _ sg _ _=>ah J (bY wY sE J J)⟩,
  ⟨⟨[⟨14,fun _=>bp aS p2.n,some 10⟩],_,0,1,J,⟨(fun _=>J),be⟩,J,J,J,J,J,fun _ sg _ _=>ah J (bY nE gC J J)⟩,
  ⟨⟨[⟨15,fun _=>bp bV p2.n.Table,some 11⟩],_,0,1,J,⟨(fun _=>J),be⟩,J,J,J,J,J,fun _ sg _ _=>ah J (bw bK J J)⟩,
  ⟨⟨[⟨11,fun _=>tD (dR cr) p1.Plan.Frags,some 7⟩,⟨16,fun _=>tD bV p2.n.Table,some 12⟩],_,0,1,J,⟨(fun _=>J),(fun _=>J),be⟩,J,J,J,J,J,fun _ sg _ _=>ah J (im pK jI J J J q_e)⟩,
  ⟨⟨[⟨17,fun _=>bp cr e,some 13⟩],_,0,1,J,⟨(fun _=>J),be⟩,J,J,J,J,J,fun _ sg _ _=>ah J (bw jI J J)⟩,
  ⟨⟨[],_,J,be,J,J,J,fun sg=>eG J (p5 (r:=cr) (x:=A9) jI (fun _=>lU _))⟩,
  be⟩⟩⟩⟩⟩⟩⟩⟩⟩⟩⟩⟩⟩⟩⟩⟩ (fun sg=>?_)
 refine(show RG _ _ _ _ [bx cr 31 ((sg 15).h 0).2 A9,bx bJ 55 b xq] _ from ?_);refine aE jI J ay J (ht J) (ht J)<|aV 3 J<|ap<|au<|zo J (bY rY lN J J)<|zo J (bw bK J J)<|zo J (jk J)<|ap<|dh h J (fun h=>?_) (fun h=>?_)
 ·refine au<|zo J (bY BE sF J J)<|zo J (bw bZ J J)<|bF h fun r q_r h=>jj I9 (w9 _ q_r) ⟨(ht J),be⟩ J fun l1 c=>m3<|oN 24 J<|zo J (cE (y:=(⟨(2:Int),r⟩:bB)) ec C7 gK (⟨_,_,_,_,_,J,lG,J,hI,⟨_,_,_,_,_,J,vq,J,(rx (ht J)),J⟩⟩))<|ca<|aE ec J ay J (ht J) (ht J)<|ap<|al<|aa<|dw 2 J<|bv ?_;cases so h;exact fz J ec J J J
 ·refine dz<|au<|zo J (cE (y:=(⟨(3:Int),[]⟩:bB)) ec C7 gK (⟨_,_,_,_,_,J,lG,J,hI,J⟩))<|aE ec J ay J (ht J) (ht J)<|ap<|al<|dw 2 J ?_;cases so h;exact fz J ec J J J

theorem Ln(l:(Option cq)){R:bB}(h:nC l=some R):aW aM 146 [tD rq l] (tD bJ R):=by
 refine aW.of Tryz.func146 J J J fun w0 S0=>au<|bc (r:=bJ) (x:=xq) ec (fun _=>gK _) J fun b=>ap<|ae<|ae<|bF h fun p q_p h=>bF h fun t q_t h=>?_
 obtain⟨p1,h1t,h0t⟩:=og q_t
 have q_p1g:=fun hb=>(h1t hb).1
 obtain⟨t1,q_t1,h⟩:=bs h
 obtain⟨p2,h1t1,h0t1⟩:=og q_t1
 have q_p2g:=fun hb=>(h1t1 hb).1
 obtain⟨p3,h1t1⟩:=J6 (fun hb=>(h1t1 hb).2)
 have q_p3g:=fun hb=>(h1t1 hb).1
 obtain⟨r,h1t1⟩:=J6 (fun hb=>(h1t1 hb).2)
 have q_rg:=fun hb=>(h1t1 hb).1
 refine eb (ts:=[_,_,_,_,_,_,_,_,_,_,_,_,_,_,_,_,_,_,_,_,_,_,_,_,_,_,_]) mixed J J
  ⟨gF 0 J J J (cz J),
  ⟨cL 3 0 J J J (dY (ht J) q_p),
  ⟨cL 4 1 J J J (bY qL n7 J J),
  ⟨cL 5 2 J J J (bY kz fa J J),
  ⟨cL 6 3 J J J (bw bK J J),
  ⟨cL 7 4 J J J (jk J),
  ⟨cL 8 5 J J J (cz J),
  ⟨mH 0 9 6 J J J J (cK J J J J (fun hg=>cz J)),
  ⟨fj 10 7 9 6 J J J J (cK J J J J (fun hg=>dY (aI J hg) (q_p1g hg))),
  ⟨fj 11 8 9 6 J J J J (cK J J J J (fun hg=>cI BF J Ay J (aI J hg))),
  ⟨fj 12 9 9 6 J J J J (cK J J J J (fun hg=>cI kz J fa J (aI J hg))),
  ⟨fj 13 10 9 6 J J J J (cK J J J J (fun hg=>aL bK J J (aI J hg))),
  ⟨fj 14 11 9 6 J J J J (cK J J J J (fun hg=>bD (aI J hg) hI)),
  ⟨eu 9 6 15 12 J J J J (cV (ht J) (fun hb=>(aI J hb)) (fun hb=>(h1t hb).2) h0t),
  ⟨cL 16 13 J J J (cz J),
  ⟨mH 0 17 14 J J J J (cK J J J J (fun hg=>cz J)),
  ⟨fj 18 15 17 14 J J J J (cK J J J J (fun hg=>dY (aI J hg) (q_p2g hg))),
  ⟨fj 19 16 17 14 J J J J (cK J J J J (fun hg=>cI qL J n7 J (aI J hg))),
  ⟨fj 20 17 17 14 J J J J (cK J J J J (fun hg=>cI oJ J ja J (aI J hg))),
  ⟨fj 21 18 17 14 J J J J (cK J J J J (fun hg=>aL bZ J J (aI J hg))),
  ⟨mH 0 17 14 J J J J (cK J J J J (fun hg=>cz J)),
  ⟨fj 23 20 17 14 J J J J (cK J J J J (fun hg=>dY (aI J hg) (q_p3g hg))),
  ⟨fj 24 21 17 14 J J J J (cK J J J J (fun hg=>cI BF J Ay J (aI J hg))),
  ⟨fj 25 22 17 14 J J J J (cK J J J J (fun hg=>cI oJ J ja J (aI J hg))),
  ⟨fj 26 23 17 14 J J J J (cK J J J J (fun hg=>aL bZ J J (aI J hg))),
  ⟨pL 22 19 27 24 17 14 J J J J J (cK J J J J (fun hg=>aJ Mu (FT _ _ (q_rg hg)) ⟨(aI J hg),(aI J hg),be⟩)),
  ⟨eu 17 14 28 25 J J J J (cV (ht J) (fun hb=>(aI J hb)) (fun hb=>(h1t1 hb).2) h0t1),
  be⟩⟩⟩⟩⟩⟩⟩⟩⟩⟩⟩⟩⟩⟩⟩⟩⟩⟩⟩⟩⟩⟩⟩⟩⟩⟩⟩ ?_
 refine am<|dh h rfl (fun h=>?_) (fun h=>?_)
 ·refine au<|ax J<|bF h fun p4 q_p4 h=>zo J (dY (ht J) q_p4)<|zo J (bY qL n7 J J)<|zo J (bw ec J J)<|aE ec J ay J (ht J) (ht J)<|ap<|al<|aa<|dw 2 J ?_;cases so h;exact fz J ec J J J
 ·refine dz<|au<|zo J (cE (y:=MF) ec C7 gK (⟨_,_,_,_,_,J,lG,J,hI,J⟩))<|aE ec J ay J (ht J) (ht J)<|ap<|al<|dw 2 J ?_;cases so h;exact fz J ec J J J

theorem FN(p:bB)(at1:(Int→Option Int)){R:bB}(h:rK p at1=some R):aW aM 206 [tD bJ p,(eN aM xr JH (fun(x:Int)=>at1 x))] (tD bJ R):=by
 refine aW.of Tryz.func206 J J J fun w0 S0=>au<|zo J (kZ J)<|bc (r:=bJ) (x:=xq) ec (fun _=>gK _) J fun b=>ap<|ae<|au<|zo J (bY kz fa J J)<|zo J (bw bK J J)<|zo J (qZ J)<|ap<|dh h J (fun h=>?_) (fun h=>?_)
 ·refine au<|zo J (bw ec J J)<|aE ec J ay J (ht J) (ht J)<|ap<|al<|aa<|dw 4 J ?_;cases so h;exact fz J ec J J J
 ·refine dz<|au<|ci false bV 3<|zo J (a8 rQ)<|ap<|ae<|au<|zo J (bY oJ ja J J)<|zo J (bw bZ J J)<|zo J (gJ dd J)<|zo J (bg hI)<|ap<|av<|aP (k:=14) J fun hN=>bu ?_;refine aG (za (Z:=fun ls i cols l c x=>(p.Cols.drop i=ls)∧oA at1 ls cols x=some R) (Of:=fun _ i cols l c x=>[cC bV 3 l c cols,bx bJ 55 b x]) (Gf:=fun _ i cols l c x=>[(1,(eN aM xr JH (fun(x:Int)=>at1 x))),(4,tV (aF b 0)),(5,nJ l c cols),(14,kC p.Cols),(15,gR p.Cols),(16,bQ (i:Int))]) (fun i cols l c x h=>?_) (fun e tl ih i cols l c x h=>?_) p.Cols 0 lS none 0 xq ⟨J,h⟩) (aX J)
  ·obtain⟨hx,h⟩:=h
   refine aq<|au<|zo J (eD J J)<|ap<|ae<|bn (ht J) (cW hx)<|aY ?_;refine ac (ac (aC ?_));refine am<|au<|ax rfl<|m3<|oN 5 rfl<|oN 31 rfl<|zo rfl (cE (y:=(⟨(2:Int),cols⟩:bB)) ec C7 gK (⟨_,_,_,_,_,J,lG,J,hI,⟨_,_,_,_,_,J,vq,J,(rx (ht J)),J⟩⟩))<|ca<|aE ec J ay J (ht J) (ht J)<|ap<|al<|dw 4 J<|bv ?_;cases so h;exact fz J ec J J J
  ·obtain⟨hx,h⟩:=h
   refine aq<|au<|zo J (eD J J)<|ap<|ae<|bm (ht J) (cR hx)<|dz<|ae<|av<|au<|zo J (im dd bK J J J (cS hx))<|zo J (bw bK J J)<|bo J<|ap<|au<|ax J<|ax J<|bF h fun r q_r h=>?_;refine zo J (fK (args:=(fun(x:Int)=>[tD bV x])) (res:=(fun(x:Int)=>tD bV x)) (f:=(fun(x:Int)=>at1 x)) (x:=((e):Int)) (ht J) q_r ⟨(ht J),be⟩)<|bo J<|ap<|ae<|au<|ax J<|zo J (ep (ht J) hI)<|ap<|dh h J (fun h=>?_) (fun h=>?_)
   ·refine au<|zo J (cE (y:=MF) ec C7 gK (⟨_,_,_,_,_,J,lG,J,hI,J⟩))<|ca<|aE ec J ay J (ht J) (ht J)<|ap<|al ?_;refine aa (aA (aa (aa (aA (aa ?_)))));refine dw 4 J<|bv ?_;cases so h;exact fz J ec J J J
   ·refine dz<|ai<|ax J<|ax J<|zo J (ba (r:=bV) (ys:=[r]) (xs:=[.tmp 27]) dd bK J J J J J ⟨(ht J),be⟩)<|bF h fun cols1 q_cols1 h=>dv bK J J J J dd J J (ht J) (ht J) q_cols1 fun l1 c1=>bo J<|aH<|ak<|am<|ai<|zo rfl (jN (cy hx hN) rfl)<|ax rfl<|aH ?_;exact aO (aG (ih (i+1) cols1 l1 c1 x ⟨cx hx,h⟩) (aX J))

theorem KM(s:(List bT))(f:(bT→Option Bool)){R:Int}(h:gY s f=some R):aW aM 208 [d6 (cm) s,(eN aM JI kS (fun(x:bT)=>f x))] (bQ R):=by
 refine aW.of Tryz.func208 J J J fun w0 S0=>au<|zo J (dA)<|ap<|ae<|au<|ax J<|zo J (gJ A2 J)<|zo J (bg hI)<|ap<|av<|aP (k:=6) J fun hN=>bu ?_;refine aG (dk (Z:=fun ls i=>(s.drop i=ls)∧ej f ls i=some R) (Of:=fun _ i=>[]) (Gf:=fun _ i=>[(0,d6 (cm) s),(1,(eN aM JI kS (fun(x:bT)=>f x))),(7,gR s),(8,bQ (i:Int))]) (fun i h=>?_) (fun e tl ih i h=>?_) s 0 ⟨J,h⟩) (aX J)
 ·obtain⟨hx,h⟩:=h
  refine aq<|au<|zo J (eD J J)<|ap<|ae<|bn (ht J) (cW hx)<|aY ?_;refine ac (ac (aC ?_));refine am<|au<|zo rfl (dA)<|ap<|al ?_;cases so h;exact aB J J
 ·obtain⟨hx,h⟩:=h
  refine aq<|au<|zo J (eD J J)<|ap<|ae<|bm (ht J) (cR hx)<|dz<|ae<|av<|au<|ax J<|bo J<|ap<|au<|ax J<|ax J<|ax J<|zo J (im A2 kV J J J (cS hx)) ?_;refine zo J (bw kV J J)<|bF h fun r q_r h=>zo J (fK (args:=JI) (res:=xu) (f:=(fun(x:bT)=>f x)) (x:=((e):bT)) (ht J) q_r ⟨(ht J),be⟩)<|ap<|dh h J (fun h=>?_) (fun h=>?_)
  ·refine au<|ax J<|bo J<|ap<|al ?_;refine aA (aa (aa (aA (aa ?_))));cases so h;exact aB J J
  ·refine bt<|ak<|am<|ai<|zo rfl (jN (cy hx hN) rfl)<|ax rfl<|aH ?_;exact aO (aG (ih (i+1) ⟨cx hx,h⟩) (aX J))

theorem KL(c:Int)(e:bT){R:Bool}(h:jZ c e=some R):aW aM 209 [tD cm e,bp bV c] (gu R):=by
 refine aW.of Tryz.func209 J J J fun w0 S0=>au<|zo J (kZ J)<|zo J (eL)<|ap<|ae<|bF h fun t q_t h=>?_
 obtain⟨e1,h1t,h0t⟩:=og q_t
 have q_e1g:=fun hb=>(h1t hb).1
 obtain⟨t1,q_t1,h⟩:=bs h
 obtain⟨e2,h1t1,h0t1⟩:=og q_t1
 have q_e2g:=fun hb=>(h1t1 hb).1
 refine eb (ts:=[_,_,_,_,_,_,_,_,_,_,_,_,_,_,_,_,_,_,_,_,_,_]) mixed J J
  ⟨gF 2 J J J (bY fV dj J J),
  ⟨cL 4 0 J J J (bw mJ J J),
  ⟨cL 5 1 J J J (gJ kE J),
  ⟨cL 6 2 J J J (jk J),
  ⟨cL 7 3 J J J (cz J),
  ⟨mH 2 8 4 J J J J (cK J J J J (fun hg=>bY fV dj J J)),
  ⟨fj 9 5 8 4 J J J J (cK J J J J (fun hg=>aL mJ J J (aI J hg))),
  ⟨fj 10 6 8 4 J J J J (cK J J J J (fun hg=>b9 kE dK J (aI J hg) hI (q_e1g hg))),
  ⟨fj 11 7 8 4 J J J J (cK J J J J (fun hg=>cI iS J eE J (aI J hg))),
  ⟨fj 12 8 8 4 J J J J (cK J J J J (fun hg=>aL bK J J (aI J hg))),
  ⟨fj 13 9 8 4 J J J J (cK J J J J (fun hg=>bD (aI J hg) hI)),
  ⟨eu 8 4 14 10 J J J J (cV (ht J) (fun hb=>(aI J hb)) (fun hb=>(h1t hb).2) h0t),
  ⟨cL 15 11 J J J (cz J),
  ⟨mH 2 16 12 J J J J (cK J J J J (fun hg=>bY fV dj J J)),
  ⟨fj 17 13 16 12 J J J J (cK J J J J (fun hg=>aL mJ J J (aI J hg))),
  ⟨fj 18 14 16 12 J J J J (cK J J J J (fun hg=>b9 kE dK J (aI J hg) hI (q_e2g hg))),
  ⟨fj 19 15 16 12 J J J J (cK J J J J (fun hg=>cI mh J ic J (aI J hg))),
  ⟨fj 20 16 16 12 J J J J (cK J J J J (fun hg=>aL bK J J (aI J hg))),
  ⟨mH 1 16 12 J J J J (cK J J J J (fun hg=>bw bK J J)),
  ⟨pL 21 17 22 18 16 12 J J J J J (cK J J J J (fun hg=>bD (aI J hg) (aI J hg))),
  ⟨eu 16 12 23 19 J J J J (cV (ht J) (fun hb=>(aI J hb)) (fun hb=>(h1t1 hb).2) h0t1),
  ⟨cL 24 20 J J J (xx J),
  be⟩⟩⟩⟩⟩⟩⟩⟩⟩⟩⟩⟩⟩⟩⟩⟩⟩⟩⟩⟩⟩⟩ ?_
 refine am<|al ?_;cases so h;exact aB J J

theorem KN(l:(Option cq))(c:Int){R:Int}(h:kX l c=some R):aW aM 207 [bQ c,bp rq l] (bQ R):=by
 refine aW.of Tryz.func207 J J J fun w0 S0=>au<|zo J (kZ J)<|zo J (dA)<|ap<|au<|zo J (bw Fi J J)<|bF h fun p q_p h=>zo J (dY (ht J) q_p)<|zo J (bY wY sE J J)<|zo J (bY EG tJ J J)<|zo J (bw MS J J)<|zo J ((show bL _ _ _ _ ((eN aM JI kS (fun(x:bT)=>(jZ c) x)))from gk (cts:=[bp bV c]) (caps:=[.tmp 2]) Qc ⟨(ht J),be⟩ (fun x y h=>KL _ _ h)))<|bF h fun r q_r h=>zo J (aJ Qd (KM _ _ q_r) ⟨(ht J),(ht J),be⟩)<|bo J<|ap<|al ?_;cases so h;exact aB J J

theorem Lm(l:(Option cq)){R:bB}(h:l0 l=some R):aW aM 147 [tD rq l] (tD bJ R):=by
 refine aW.of Tryz.func147 J J J fun w0 S0=>au<|zo J (kZ J)<|bc (r:=bJ) (x:=xq) ec (fun _=>gK _) J fun b=>ap<|au<|zo J (bw Fi J J)<|bF h fun p q_p h=>zo J (dY (ht J) q_p)<|zo J (bY qL n7 J J)<|zo J (bw ec J J)<|zo J ((show bL _ _ _ _ ((eN aM xr JH (fun(x:Int)=>(kX l) x)))from gk (cts:=[bp rq l]) (caps:=[.tmp 1]) Qe ⟨(ht J),be⟩ (fun x y h=>KN _ _ h)))<|bF h fun r q_r h=>zo J (aJ Mo (FN _ _ q_r) ⟨(ht J),(ht J),be⟩)<|aE ec J ay J (ht J) (ht J)<|aV 2 J<|ap<|al ?_;cases so h;exact fz J ec J J J

theorem KK(l:(Option cq))(c:Int){R:Int}(h:ma l c=some R):aW aM 210 [bQ c,bp rq l] (bQ R):=by
 refine aW.of Tryz.func210 J J J fun w0 S0=>au<|zo J (dA)<|ap<|au<|zo J (bw Fi J J)<|bF h fun p q_p h=>zo J (dY (ht J) q_p)<|zo J (bY wY sE J J)<|zo J (bY mg fv J J)<|zo J (bw bZ J J)<|ax J<|bF h fun r q_r h=>zo J (aJ Mq (FP _ _ q_r) ⟨(ht J),(ht J),be⟩)<|bo J<|ap<|al ?_;cases so h;exact aB J J

theorem BK(l:(Option cq)){R:bB}(h:gB l=some R):aW aM 148 [tD rq l] (tD bJ R):=by
 refine aW.of Tryz.func148 J J J fun w0 S0=>au<|zo J (kZ J)<|bc (r:=bJ) (x:=xq) ec (fun _=>gK _) J fun b=>ap<|au<|zo J (bw Fi J J)<|bF h fun p q_p h=>zo J (dY (ht J) q_p)<|zo J (bY qL n7 J J)<|zo J (bw ec J J)<|zo J ((show bL _ _ _ _ ((eN aM xr JH (fun(x:Int)=>(ma l) x)))from gk (cts:=[bp rq l]) (caps:=[.tmp 1]) Qb ⟨(ht J),be⟩ (fun x y h=>KK _ _ h)))<|bF h fun r q_r h=>zo J (aJ Mo (FN _ _ q_r) ⟨(ht J),(ht J),be⟩)<|aE ec J ay J (ht J) (ht J)<|aV 2 J<|ap<|al ?_;cases so h;exact fz J ec J J J

theorem xb(l:(Option cq)){R:bB}(h:eR l=some R):aW aM 149 [tD rq l] (tD bJ R):=by
 refine aW.of Tryz.func149 J J J fun w0 S0=>au<|bc (r:=bJ) (x:=xq) ec (fun _=>gK _) J fun b=>ap<|au<|ax J<|bF h fun p q_p h=>zo J (dY (ht J) q_p)<|zo J (bY qL n7 J J)<|zo J (bw ec J J)<|aE ec J ay J (ht J) (ht J)<|aV 2 J<|ap<|al ?_;cases so h;exact fz J ec J J J

theorem NA{R:(List (Int×((Option cq)→Option bB)))}(h:yc=some R):aW aM 75 [] (Jz (fun y:((Option cq)→Option bB)=>zt aM A8 A6 (fun(x:(Option cq))=>y x)) A7 R):=by
 refine aW.of Tryz.func75 J J J fun w0 S0=>au<|zo J (a8 (show aw _ _ (.const (.map none)) (tV (.map none))from fun _ _ _=>J))<|ap<|au<|y4 (Iw (fun y:((Option cq)→Option bB)=>zt aM A8 A6 (fun(x:(Option cq))=>y x))) A7 J fun b=>fH (γ:=(fun y:((Option cq)→Option bB)=>zt aM A8 A6 (fun(x:(Option cq))=>y x))) (y:=ko) wC (ff iF) (ht J) (nU hI) (ol (zM QG fun x y h=>Lp _ h)) fun os=>fH (γ:=(fun y:((Option cq)→Option bB)=>zt aM A8 A6 (fun(x:(Option cq))=>y x))) (y:=nD) wC (ff iF) (ht J) (nU hI) (ol (zM QF fun x y h=>Lo _ h)) fun os1=>fH (γ:=(fun y:((Option cq)→Option bB)=>zt aM A8 A6 (fun(x:(Option cq))=>y x))) (y:=nC) wC (ff iF) (ht J) (nU hI) (ol (zM QE fun x y h=>Ln _ h)) fun os2=>fH (γ:=(fun y:((Option cq)→Option bB)=>zt aM A8 A6 (fun(x:(Option cq))=>y x))) (y:=l0) wC (ff iF) (ht J) (nU hI) (ol (zM QD fun x y h=>Lm _ h)) fun os3=>fH (γ:=(fun y:((Option cq)→Option bB)=>zt aM A8 A6 (fun(x:(Option cq))=>y x))) (y:=gB) wC (ff iF) (ht J) (nU hI) (ol (zM Jb fun x y h=>BK _ h)) fun os4=>fH (γ:=(fun y:((Option cq)→Option bB)=>zt aM A8 A6 (fun(x:(Option cq))=>y x))) (y:=gB) wC (ff iF) (ht J) (nU hI) (ol (zM Jb fun x y h=>BK _ h)) fun os5=>fH (γ:=(fun y:((Option cq)→Option bB)=>zt aM A8 A6 (fun(x:(Option cq))=>y x))) (y:=gB) wC (ff iF) (ht J) (nU hI) (ol (zM Jb fun x y h=>BK _ h)) fun os6=>fH (γ:=(fun y:((Option cq)→Option bB)=>zt aM A8 A6 (fun(x:(Option cq))=>y x))) (y:=eR) wC (ff iF) (ht J) (nU hI) (ol (zM F2 fun x y h=>xb _ h)) fun os7=>fH (γ:=(fun y:((Option cq)→Option bB)=>zt aM A8 A6 (fun(x:(Option cq))=>y x))) (y:=eR) wC (ff iF) (ht J) (nU hI) (ol (zM F2 fun x y h=>xb _ h)) fun os8=>fH (γ:=(fun y:((Option cq)→Option bB)=>zt aM A8 A6 (fun(x:(Option cq))=>y x))) (y:=eR) wC (ff iF) (ht J) (nU hI) (ol (zM F2 fun x y h=>xb _ h)) fun os9=>fH (γ:=(fun y:((Option cq)→Option bB)=>zt aM A8 A6 (fun(x:(Option cq))=>y x))) (y:=eR) wC (ff iF) (ht J) (nU hI) (ol (zM F2 fun x y h=>xb _ h)) fun os10=>ax J<|bo J<|ap ?_;refine al<|ww 0 J ?_;cases so h;exact aB J J

end Go.Proofs.YtmogpgcfognefaaGreatDoor

