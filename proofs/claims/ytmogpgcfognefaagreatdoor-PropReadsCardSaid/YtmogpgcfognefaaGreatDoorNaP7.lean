/- cG of this claim: P7. -/
import Derived.Test.YtmogpgcfognefaaGreatDoorNaT
import Derived.Test.YtmogpgcfognefaaGreatDoorNaP6
set_option linter.all false
namespace Go.Proofs.YtmogpgcfognefaaGreatDoor
open Go
set_option maxRecDepth 100000

theorem DC(q:cZ)(c:bA){R:(Option bI)×Int×Int×Int}(h:jW q c=some R):bg aP 41 [tD cb q,tD bF c] (tT [tD mX R.1,ce R.2.1,ce R.2.2.1,ce R.2.2.2]):=by
 refine bg.of Tryz.func41 J J J fun w0 S0=>au<|zo J (ms J)<|zo J (ms J)<|zo J (ba (show ay _ _ _ Fn from Gb))<|zo J (fi)<|zo J (fi)<|zo J (fi)<|ap<|ae<|au<|zo J (bC lq J J)<|bO h fun r q_r h=>zo J (aL PU (LW _ q_r) ⟨(ht J),aY⟩)<|bv J<|ap<|au<|aA J<|zo J (uz J) ?_;refine ap<|dN h J (fun h=>?_) (fun h=>?_)
 ·refine au<|aA J<|zo J (ba (show ay _ _ _ Fn from Gb))<|zo J (fi)<|zo J (fi)<|bv J<|ap<|am<|aa ?_;cases so h;exact rO J J J J J
 ·refine eK<|ae<|au<|zo J (cc iF eo J J)<|zo J (bC oM J J)<|zo J (jk lP J)<|zo J (fz (ht J) hI)<|aA J<|cQ J J (fun hg=>cc iF eo J J)<|cQ J J (fun hg=>aO oM J J (aJ J hg))<|cQ J J (fun hg=>bS lP (aJ J hg))<|cQ J J (fun hg=>gZ (aJ J hg) hI)<|zo J (pr J J)<|ap<|dN h J (fun h=>?_) (fun h=>?_)
  ·refine au<|zo J (ba (show ay _ _ _ Fn from Gb))<|zo J (fi)<|zo J (fi)<|zo J (fi)<|ap<|am<|aa ?_;cases so h;exact rO J J J J J
  ·refine eK<|au<|zo J (bC lg J J)<|zo J (bC lq J J)<|cm true (dE gz) 62<|zo J (cY (y:=hG (⟨q,c,[]⟩:bI) (ai none 0 (([]:List (List (List Int))).length))) MW Ni Af (⟨_,_,_,_,_,J,wZ,J,(ht J),⟨_,_,_,_,_,J,wY,J,(ht J),J⟩⟩))<|wF (ht J) J fun b=>bv J<|ap<|ae<|au<|zo J (cc iF eo J J)<|zo J (bC oM J J)<|zo J (jk lP J)<|zo J (bj hI)<|ap<|av<|aX (k:=36) J fun hN=>bK ?_;refine aM (pL (Z:=fun ls i x l c1=>(q.Frags.drop i=ls)∧lC q ls i x=some R) (Of:=fun _ i x l c1=>[bx fK 163 b (hG x (ai l c1 x.kinds.length)),gX (dE gz) 62 l c1 x.kinds]) (Gf:=fun _ i x l c1=>[(2,bz cb q),(9,tV (aD b 0)),(36,fE (bY) q.Frags),(37,je q.Frags),(38,ce (i:Int))]) (fun i x l c1 h=>?_) (fun e tl ih i x l c1 h=>?_) q.Frags 0 ({(⟨q,c,[]⟩:bI)with kinds:=([]:List (List (List Int)))}:bI) none 0 ⟨J,h⟩) (bh J)
   ·obtain⟨hx,h⟩:=h
    refine aq<|au<|zo J (fx J J)<|ap<|ae<|br (ht J) (dp hx)<|bk ?_;refine ac (ac (aG ?_));refine an<|ae<|au<|zo rfl (cc iF eo rfl rfl)<|zo rfl (bC oM rfl rfl)<|zo rfl (jk lP rfl)<|zo rfl (bj hI)<|ap<|av<|aX (k:=78) J fun hN1=>bK ?_;refine aM (eh (Z:=fun ls1 i1=>(q.Frags.drop i1=ls1)∧lB x ls1 i1=some R) (Of:=fun _ i1=>[bx fK 163 b (hG x (ai l c1 x.kinds.length)),gX (dE gz) 62 l c1 x.kinds]) (Gf:=fun _ i1=>[(9,tV (aD b 0)),(79,je q.Frags),(80,ce (i1:Int))]) (fun i1 h=>?_) (fun e1 tl1 ih1 i1 h=>?_) q.Frags 0 ⟨J,h⟩) (bh J)
    ·obtain⟨hx1,h⟩:=h
     refine aq<|au<|zo J (fx J J)<|ap<|ae<|br (ht J) (dp hx1)<|bk ?_;refine ac (ac (aG ?_));refine an<|au<|aA rfl<|bv rfl<|zo rfl (fi)<|zo rfl (fi)<|zo rfl (fi)<|ap<|am<|bf<|bf<|pq (r' :=fe) (x' :=x) (fun _ _ _ ho h=>mM (iE ho (.head _)) h)<|dW 4 J<|Ks 4 J<|bl ?_;cases so h;exact rO J J J J J
    ·obtain⟨hx1,h⟩:=h
     refine aq<|au<|zo J (fx J J)<|ap<|ae<|bq (ht J) (dh hx1)<|eK<|ae<|av<|au<|aA J<|bv J<|ap<|au<|aA J<|aA J<|bO h fun r1 q_r1 h=>zo J (xC (r:=fK) (rd:=fe) (T:=163) (b:=b) (x:=hG x (ai l c1 x.kinds.length)) (y:=x) (.head _) PP (LT _ _ q_r1) (fun _ _ _ ho h=>mM (iE ho (.tail _ (.head _))) h) (fun S S1 a hf hle hk=>ny (tm.2 (Eh (ht J) hf hk)) (ny (Eb (ht J) hf hle) trivial)) As) ?_;refine zo J (d9 (ht J))<|ap<|dN h J (fun h=>?_) (fun h=>?_)
     ·refine au<|aA J<|zo J (ba (show ay _ _ _ Fn from Gb))<|bv J<|zo J (fi)<|zo J (fi)<|ap<|am ?_;refine aB (aa (aa (aB (aa ?_))));refine bl<|bl ?_;cases so h;exact rO J J J J J
     ·refine bD<|al<|an<|ak<|zo rfl (lb (cL hx1 hN1) rfl)<|aA rfl<|aK ?_;exact aW (aM (ih1 (i1+1) ⟨cK hx1,h⟩) (bh J))
   ·obtain⟨hx,h⟩:=h
    refine aq<|au<|zo J (fx J J)<|ap<|ae<|bq (ht J) (dh hx)<|eK<|ae<|av<|au<|aA J<|zo J (ka lP io J J J (dy hx))<|zo J (bC io J J)<|aZ (r:=bY) (x:=yC) io (fun _=>nj _) J fun b1=>bv J<|aC io J aw J (ht J) (ht J)<|aU 11 J<|ap<|ae ?_;refine ak<|zo J (cc nd iN J J)<|zo J (bC rW J J)<|bO h fun r2 q_r2 h=>zo J (aL Ok (HG _ q_r2) ⟨(ht J),aY⟩)<|aA J<|zo J (lA J J)<|zo J (lA J J)<|zo J (lA J J)<|bv J<|bv J<|bv J<|ap<|ae<|au<|aA J<|zo J (uz J)<|ap<|dN h J (fun h=>?_) (fun h=>?_)
    ·refine au<|aA J<|aA J<|aA J<|zo J (ba (show ay _ _ _ Fn from Gb))<|bv J<|bv J<|bv J<|ap<|am ?_;refine aa (aB (aa (aa (aB (aa ?_)))));refine bl<|bl ?_;cases so h;exact rO J J J J J
    ·refine eK<|ae<|ae<|bO h fun e2 q_e2 h=>bO h fun r3 q_r3 h=>?_
     refine eQ (ts:=[_,_,_,_,_,_,_,_,_,_]) mixed J J
      ⟨ij 9 J J J (cM J),
      ⟨ij 11 J J J (bC io J J),
      ⟨ij 12 J J J (cM J),
      ⟨ij 12 J J J (cM J),
      ⟨cO 58 3 J J J (jk pR J),
      ⟨cO 59 4 J J J (gE (ht J) hI),
      ⟨fG 57 2 60 5 J J J J (ka pR bT J J J q_e2),
      ⟨cO 61 6 J J J (bC bT J J),
      ⟨Mx 55 0 56 1 62 7 J J J J J (xC (r:=fK) (rd:=fe) (T:=163) (b:=b) (x:=hG x (ai l c1 x.kinds.length)) (y:=x) (.head _) PQ (LU _ _ _ q_r3) (fun _ _ _ ho h=>mM (iE ho (.tail _ (.head _))) h) (fun S S1 a hf hle hk=>ny (tm.2 (Eh (ht J) hf hk)) (ny (Eb (ht J) hf hle) (ny (Eb (ht J) hf hle) trivial))) As),
      ⟨cO 63 8 J J J (d9 (ht J)),
      aY⟩⟩⟩⟩⟩⟩⟩⟩⟩⟩ ?_
     refine an<|dN h rfl (fun h=>?_) (fun h=>?_)
     ·refine au<|aA J<|zo J (ba (show ay _ _ _ Fn from Gb))<|bv J<|zo J (fi)<|zo J (fi)<|ap<|am ?_;refine aa (aB (aa (aa (aB (aa ?_)))));refine bl<|bl ?_;cases so h;exact rO J J J J J
     ·refine eK<|ak<|aA J<|aA J<|zo J (aS (ht J))<|zo J (eY 2 wy J J J)<|zo J (FY Eg xM (.head _) (.tail _ (.head _)) J (ht J))<|aA J<|zo J (bX (r:=(dE pT)) (ys:=[r2.1]) (xs:=[.tmp 71]) Tryz.underlying161 yG J J J J J ⟨(ht J),aY⟩)<|bM<|bO h fun l1 q_l1 h=>DV yG J J J J Tryz.underlying161 J J (ht J) (ht J) q_l1 fun l2 c2=>zo J (aS (ht J))<|zo J (eY 2 wy J J J)<|bM<|dV Eg J (pV _ _ _) J (ht J) (zy (IA (ht J)))<|aK<|al<|an<|ak<|zo rfl (lb (cL hx hN) rfl)<|aA rfl<|aK ?_;exact aW (aM (ih (i+1) ({x with kinds:=l1}:bI) l2 c2 ⟨cK hx,h⟩) (bh J))

theorem HK(p:cZ)(c:bA){R:Int×Int×Int}(h:oC p c=some R):bg aP 11 [tD cb p,tD bF c] (tT [ce R.1,ce R.2.1,ce R.2.2]):=by
 refine bg.of Tryz.func11 J J J fun w0 S0=>au<|zo J (ms J)<|zo J (ms J)<|zo J (fi)<|zo J (fi)<|zo J (fi)<|ap<|au<|zo J (bC lg J J)<|zo J (bC lq J J)<|bO h fun r q_r h=>zo J (aL Mh (DC _ _ q_r) ⟨(ht J),(ht J),aY⟩)<|aA J<|zo J (lA J J)<|zo J (lA J J)<|zo J (lA J J)<|zo J (lA J J)<|bv J<|bv J<|bv J ?_;refine bv J<|ap<|au<|aA J<|aA J<|aA J<|bv J<|bv J<|bv J<|ap<|am ?_;cases so h;exact mQ J J J J

theorem JM(l:(Option cq)){R:bu}(h:kQ l=some R):bg aP 144 [tD qN l] (tD bP R):=by
 refine bg.of Tryz.func144 J J J fun w0 S0=>au<|aZ (r:=bP) (x:=wn) er (fun _=>gK _) J fun b=>ap<|ae<|ae<|bO h fun p q_p h=>bO h fun p1 q_p1 h=>bO h fun p2 q_p2 h=>bO h fun e q_e h=>?_
 refine eQ (ts:=[_,_,_,_,_,_,_,_,_,_,_,_,_,_,_,_,_]) mixed J J
  ⟨ij 0 J J J (cM J),
  ⟨cO 4 0 J J J (ed (ht J) q_p),
  ⟨cO 5 1 J J J (cc EE zE J J),
  ⟨cO 6 2 J J J (bC sa J J),
  ⟨cO 7 3 J J J (ed (ht J) q_p1),
  ⟨cO 8 4 J J J (cc AR qa J J),
  ⟨cO 9 5 J J J (cc pn j3 J J),
  ⟨cO 10 6 J J J (bC wT J J),
  ⟨ij 0 J J J (cM J),
  ⟨cO 12 8 J J J (ed (ht J) q_p2),
  ⟨cO 13 9 J J J (cc wx rK J J),
  ⟨cO 14 10 J J J (cc nc gi J J),
  ⟨cO 15 11 J J J (bC bL J J),
  ⟨fG 11 7 16 12 J J J J (ka qD oo J J J q_e),
  ⟨cO 17 13 J J J (cc xS qd J J),
  ⟨cO 18 14 J J J (bC bT J J),
  ⟨cO 19 15 J J J (yD J),
  aY⟩⟩⟩⟩⟩⟩⟩⟩⟩⟩⟩⟩⟩⟩⟩⟩⟩ ?_
 refine an<|au<|aA rfl<|zo rfl (jk dr rfl)<|zo rfl (gZ (ht rfl) hI)<|ap<|dN h rfl (fun h=>?_) (fun h=>?_)
 ·refine au<|aA J<|bO h fun r q_r h=>jb HV (wA _ q_r) ⟨(ht J),aY⟩ J fun l1 c=>kx<|ro 24 J<|zo J (cY (y:=(⟨(2:Int),r⟩:bu)) er B9 gK (⟨_,_,_,_,_,J,ma,J,hI,⟨_,_,_,_,_,J,uK,J,(wV (ht J)),J⟩⟩))<|bM<|aC er J aw J (ht J) (ht J)<|ap<|am<|aa<|dW 2 J<|bl ?_;cases so h;exact fP J er J J J
 ·refine eK<|au<|zo J (cY (y:=KX) er B9 gK (⟨_,_,_,_,_,J,ma,J,hI,J⟩))<|aC er J aw J (ht J) (ht J)<|ap<|am<|dW 2 J ?_;cases so h;exact fP J er J J J

theorem JL(l:(Option cq)){R:bu}(h:kg l=some R):bg aP 145 [tD qN l] (tD bP R):=by
 refine bg.of Tryz.func145 J J J fun w0 S0=>au<|aZ (r:=bP) (x:=wn) er (fun _=>gK _) J fun b=>ap<|ae<|ae<|bO h fun p q_p h=>bO h fun p1 q_p1 h=>bO h fun p2 q_p2 h=>bO h fun e q_e h=>?_
 refine nI 16 [tc (tD qN l),tc (bz jn p),tc (bz mX p.checker),tc (tD mX p.checker),tc (bz fe p1),tc (bz cb p1.Plan),tc (bz (dE bY) p1.Plan.Frags),tc (fE (bY) p1.Plan.Frags),tc (tD qN l),tc (bz jn p2),tc (bz aE p2.n),tc (bz bW p2.n.Table),tc (ce p2.n.Table),tc (bz bY e),tc (tD bY e),([15],fun s=>tV (aD ((s.getD 0 rx).h 0).2 0))] [false,false,false,false,false,false,false,false,false,false,false,false,false,false,false,true] [fun _=>[bx bP 55 b wn],fun sg=>[bx bY 31 ((sg 15).h 0).2 yC,bx bP 55 b wn]] J mixed J J J J J
  ⟨⟨[⟨0,fun _=>tD qN l,none⟩],_,0,1,J,⟨(fun _=>J),aY⟩,J,J,J,J,J,fun _ sg _ _=>ah J (cM J)⟩,
  ⟨⟨[⟨4,fun _=>tD qN l,some 0⟩],_,0,1,J,⟨(fun _=>J),aY⟩,J,J,J,J,J,fun _ sg _ _=>ah J (ed (ht J) q_p)⟩,
  ⟨⟨[⟨5,fun _=>bz jn p,some 1⟩],_,0,1,J,⟨(fun _=>J),aY⟩,J,J,J,J,J,fun _ sg _ _=>ah J (cc EE zE J J)⟩,
  ⟨⟨[⟨6,fun _=>bz mX p.checker,some 2⟩],_,0,1,J,⟨(fun _=>J),aY⟩,J,J,J,J,J,fun _ sg _ _=>ah J (bC sa J J)⟩,
  ⟨⟨[⟨7,fun _=>tD mX p.checker,some 3⟩],_,0,1,J,⟨(fun _=>J),aY⟩,J,J,J,J,J,fun _ sg _ _=>ah J (ed (ht J) q_p1)⟩,
  ⟨⟨[⟨8,fun _=>bz fe p1,some 4⟩],_,0,1,J,⟨(fun _=>J),aY⟩,J,J,J,J,J,fun _ sg _ _=>ah J (cc nr gv J J)⟩,
  ⟨⟨[⟨9,fun _=>bz cb p1.Plan,some 5⟩],_,0,1,J,⟨(fun _=>J),aY⟩,J,J,J,J,J,fun _ sg _ _=>ah J (cc iF eo J J)⟩,
  ⟨⟨[⟨10,fun _=>bz (dE bY) p1.Plan.Frags,some 6⟩],_,0,1,J,⟨(fun _=>J),aY⟩,J,J,J,J,J,fun _ sg _ _=>ah J (bC oM J J)⟩,
  ⟨⟨[⟨0,fun _=>tD qN l,none⟩],_,0,1,J,⟨(fun _=>J),aY⟩,J,J,J,J,J,fun _ sg _ _=>ah J (cM J)⟩,
  ⟨⟨[⟨12,fun _=>tD qN l,some 8⟩],_,0,1,J,⟨(fun _=>J),aY⟩,J,J,J,J,J,fun _ sg _ _=>ah J (ed (ht J) q_p2)⟩,
  ⟨⟨[⟨13,fun _=>bz jn p2,some 9⟩],_,0,1,J,⟨(fun _=>J),aY⟩,J,J,J,J,J,fun _ sg _ _=>ah J (cc wx rK J J)⟩,
  ⟨⟨[⟨14,fun _=>bz aE p2.n,some 10⟩],_,0,1,J,⟨(fun _=>J),aY⟩,J,J,J,J,J,fun _ sg _ _=>ah J (cc nc gi J J)⟩,
  ⟨⟨[⟨15,fun _=>bz bW p2.n.Table,some 11⟩],_,0,1,J,⟨(fun _=>J),aY⟩,J,J,J,J,J,fun _ sg _ _=>ah J (bC bL J J)⟩,
  ⟨⟨[⟨11,fun _=>tD (dE bY) p1.Plan.Frags,some 7⟩,⟨16,fun _=>tD bW p2.n.Table,some 12⟩],_,0,1,J,⟨(fun _=>J),(fun _=>J),aY⟩,J,J,J,J,J,fun _ sg _ _=>ah J (ka lP io J J J q_e)⟩,
  ⟨⟨[⟨17,fun _=>bz bY e,some 13⟩],_,0,1,J,⟨(fun _=>J),aY⟩,J,J,J,J,J,fun _ sg _ _=>ah J (bC io J J)⟩,
  ⟨⟨[],_,J,aY,J,J,J,fun sg=>dD J (lm (r:=bY) (x:=yC) io (fun _=>nj _))⟩,
  aY⟩⟩⟩⟩⟩⟩⟩⟩⟩⟩⟩⟩⟩⟩⟩⟩ (fun sg=>?_)
 refine(show RG _ _ _ _ [bx bY 31 ((sg 15).h 0).2 yC,bx bP 55 b wn] _ from ?_);refine aC io J aw J (ht J) (ht J)<|aU 3 J<|ap<|au<|zo J (cc rf mj J J)<|zo J (bC bL J J)<|zo J (kc J)<|ap<|dN h J (fun h=>?_) (fun h=>?_)
 ·refine au<|zo J (cc u5 pF J J)<|zo J (bC bT J J)<|bO h fun r q_r h=>jb HV (wA _ q_r) ⟨(ht J),aY⟩ J fun l1 c=>kx<|ro 24 J<|zo J (cY (y:=(⟨(2:Int),r⟩:bu)) er B9 gK (⟨_,_,_,_,_,J,ma,J,hI,⟨_,_,_,_,_,J,uK,J,(wV (ht J)),J⟩⟩))<|bM<|aC er J aw J (ht J) (ht J)<|ap<|am<|aa<|dW 2 J<|bl ?_;cases so h;exact fP J er J J J
 ·refine eK<|au<|zo J (cY (y:=(⟨(3:Int),[]⟩:bu)) er B9 gK (⟨_,_,_,_,_,J,ma,J,hI,J⟩))<|aC er J aw J (ht J) (ht J)<|ap<|am<|dW 2 J ?_;cases so h;exact fP J er J J J

theorem JK(l:(Option cq)){R:bu}(h:kf l=some R):bg aP 146 [tD qN l] (tD bP R):=by
 refine bg.of Tryz.func146 J J J fun w0 S0=>au<|aZ (r:=bP) (x:=wn) er (fun _=>gK _) J fun b=>ap<|ae<|ae<|bO h fun p q_p h=>bO h fun t q_t h=>?_
 obtain⟨p1,h1t,h0t⟩:=og q_t
 have q_p1g:=fun hb=>(h1t hb).1
 obtain⟨t1,q_t1,h⟩:=bs h
 obtain⟨p2,h1t1,h0t1⟩:=og q_t1
 have q_p2g:=fun hb=>(h1t1 hb).1
 obtain⟨p3,h1t1⟩:=IQ (fun hb=>(h1t1 hb).2)
 have q_p3g:=fun hb=>(h1t1 hb).1
 obtain⟨r,h1t1⟩:=IQ (fun hb=>(h1t1 hb).2)
 have q_rg:=fun hb=>(h1t1 hb).1
 refine eQ (ts:=[_,_,_,_,_,_,_,_,_,_,_,_,_,_,_,_,_,_,_,_,_,_,_,_,_,_,_]) mixed J J
  ⟨ij 0 J J J (cM J),
  ⟨cO 3 0 J J J (ed (ht J) q_p),
  ⟨cO 4 1 J J J (cc qh oj J J),
  ⟨cO 5 2 J J J (cc lu fS J J),
  ⟨cO 6 3 J J J (bC bL J J),
  ⟨cO 7 4 J J J (kc J),
  ⟨cO 8 5 J J J (cM J),
  ⟨om 0 9 6 J J J J (cJ J J J J (fun hg=>cM J)),
  ⟨gm 10 7 9 6 J J J J (cJ J J J J (fun hg=>ed (aJ J hg) (q_p1g hg))),
  ⟨gm 11 8 9 6 J J J J (cJ J J J J (fun hg=>cB AQ J zD J (aJ J hg))),
  ⟨gm 12 9 9 6 J J J J (cJ J J J J (fun hg=>cB lu J fS J (aJ J hg))),
  ⟨gm 13 10 9 6 J J J J (cJ J J J J (fun hg=>aO bL J J (aJ J hg))),
  ⟨gm 14 11 9 6 J J J J (cJ J J J J (fun hg=>bG (aJ J hg) hI)),
  ⟨fG 9 6 15 12 J J J J (dm (ht J) (fun hb=>(aJ J hb)) (fun hb=>(h1t hb).2) h0t),
  ⟨cO 16 13 J J J (cM J),
  ⟨om 0 17 14 J J J J (cJ J J J J (fun hg=>cM J)),
  ⟨gm 18 15 17 14 J J J J (cJ J J J J (fun hg=>ed (aJ J hg) (q_p2g hg))),
  ⟨gm 19 16 17 14 J J J J (cJ J J J J (fun hg=>cB qh J oj J (aJ J hg))),
  ⟨gm 20 17 17 14 J J J J (cJ J J J J (fun hg=>cB nQ J iM J (aJ J hg))),
  ⟨gm 21 18 17 14 J J J J (cJ J J J J (fun hg=>aO bT J J (aJ J hg))),
  ⟨om 0 17 14 J J J J (cJ J J J J (fun hg=>cM J)),
  ⟨gm 23 20 17 14 J J J J (cJ J J J J (fun hg=>ed (aJ J hg) (q_p3g hg))),
  ⟨gm 24 21 17 14 J J J J (cJ J J J J (fun hg=>cB AQ J zD J (aJ J hg))),
  ⟨gm 25 22 17 14 J J J J (cJ J J J J (fun hg=>cB nQ J iM J (aJ J hg))),
  ⟨gm 26 23 17 14 J J J J (cJ J J J J (fun hg=>aO bT J J (aJ J hg))),
  ⟨rZ 22 19 27 24 17 14 J J J J J (cJ J J J J (fun hg=>aL KM (ER _ _ (q_rg hg)) ⟨(aJ J hg),(aJ J hg),aY⟩)),
  ⟨fG 17 14 28 25 J J J J (dm (ht J) (fun hb=>(aJ J hb)) (fun hb=>(h1t1 hb).2) h0t1),
  aY⟩⟩⟩⟩⟩⟩⟩⟩⟩⟩⟩⟩⟩⟩⟩⟩⟩⟩⟩⟩⟩⟩⟩⟩⟩⟩⟩ ?_
 refine an<|dN h rfl (fun h=>?_) (fun h=>?_)
 ·refine au<|aA J<|bO h fun p4 q_p4 h=>zo J (ed (ht J) q_p4)<|zo J (cc qh oj J J)<|zo J (bC er J J)<|aC er J aw J (ht J) (ht J)<|ap<|am<|aa<|dW 2 J ?_;cases so h;exact fP J er J J J
 ·refine eK<|au<|zo J (cY (y:=KX) er B9 gK (⟨_,_,_,_,_,J,ma,J,hI,J⟩))<|aC er J aw J (ht J) (ht J)<|ap<|am<|dW 2 J ?_;cases so h;exact fP J er J J J

theorem EL(p:bu)(at1:(Int→Option Int)){R:bu}(h:nD p at1=some R):bg aP 206 [tD bP p,(fH aP Ak Ip (fun(x:Int)=>at1 x))] (tD bP R):=by
 refine bg.of Tryz.func206 J J J fun w0 S0=>au<|zo J (ms J)<|aZ (r:=bP) (x:=wn) er (fun _=>gK _) J fun b=>ap<|ae<|au<|zo J (cc lu fS J J)<|zo J (bC bL J J)<|zo J (uz J)<|ap<|dN h J (fun h=>?_) (fun h=>?_)
 ·refine au<|zo J (bC er J J)<|aC er J aw J (ht J) (ht J)<|ap<|am<|aa<|dW 4 J ?_;cases so h;exact fP J er J J J
 ·refine eK<|au<|cm false bW 3<|zo J (ba q6)<|ap<|ae<|au<|zo J (cc nQ iM J J)<|zo J (bC bT J J)<|zo J (jk dr J)<|zo J (bj hI)<|ap<|av<|aX (k:=14) J fun hN=>bK ?_;refine aM (yn (Z:=fun ls i cols l c x=>(p.Cols.drop i=ls)∧kR at1 ls cols x=some R) (Of:=fun _ i cols l c x=>[cu bW 3 l c cols,bx bP 55 b x]) (Gf:=fun _ i cols l c x=>[(1,(fH aP Ak Ip (fun(x:Int)=>at1 x))),(4,tV (aD b 0)),(5,oc l c cols),(14,lx p.Cols),(15,je p.Cols),(16,ce (i:Int))]) (fun i cols l c x h=>?_) (fun e tl ih i cols l c x h=>?_) p.Cols 0 mW none 0 wn ⟨J,h⟩) (bh J)
  ·obtain⟨hx,h⟩:=h
   refine aq<|au<|zo J (fx J J)<|ap<|ae<|br (ht J) (dp hx)<|bk ?_;refine ac (ac (aG ?_));refine an<|au<|aA rfl<|kx<|ro 5 rfl<|ro 31 rfl<|zo rfl (cY (y:=(⟨(2:Int),cols⟩:bu)) er B9 gK (⟨_,_,_,_,_,J,ma,J,hI,⟨_,_,_,_,_,J,uK,J,(wV (ht J)),J⟩⟩))<|bM<|aC er J aw J (ht J) (ht J)<|ap<|am<|dW 4 J<|bl ?_;cases so h;exact fP J er J J J
  ·obtain⟨hx,h⟩:=h
   refine aq<|au<|zo J (fx J J)<|ap<|ae<|bq (ht J) (dh hx)<|eK<|ae<|av<|au<|zo J (ka dr bL J J J (dy hx))<|zo J (bC bL J J)<|bv J<|ap<|au<|aA J<|aA J<|bO h fun r q_r h=>?_;refine zo J (gF (args:=(fun(x:Int)=>[tD bW x])) (res:=(fun(x:Int)=>tD bW x)) (f:=(fun(x:Int)=>at1 x)) (x:=((e):Int)) (ht J) q_r ⟨(ht J),aY⟩)<|bv J<|ap<|ae<|au<|aA J<|zo J (fz (ht J) hI)<|ap<|dN h J (fun h=>?_) (fun h=>?_)
   ·refine au<|zo J (cY (y:=KX) er B9 gK (⟨_,_,_,_,_,J,ma,J,hI,J⟩))<|bM<|aC er J aw J (ht J) (ht J)<|ap<|am ?_;refine aa (aB (aa (aa (aB (aa ?_)))));refine dW 4 J<|bl ?_;cases so h;exact fP J er J J J
   ·refine eK<|ak<|aA J<|aA J<|zo J (bX (r:=bW) (ys:=[r]) (xs:=[.tmp 27]) dr bL J J J J J ⟨(ht J),aY⟩)<|bO h fun cols1 q_cols1 h=>dk bL J J J J dr J J (ht J) (ht J) q_cols1 fun l1 c1=>bv J<|aK<|al<|an<|ak<|zo rfl (lb (cL hx hN) rfl)<|aA rfl<|aK ?_;exact aW (aM (ih (i+1) cols1 l1 c1 x ⟨cK hx,h⟩) (bh J))

theorem Jr(s:(List bo))(f:(bo→Option Bool)){R:Int}(h:dP s f=some R):bg aP 208 [fE (be) s,(fH aP Iq lZ (fun(x:bo)=>f x))] (ce R):=by
 refine bg.of Tryz.func208 J J J fun w0 S0=>au<|zo J (fi)<|ap<|ae<|au<|aA J<|zo J (jk qL J)<|zo J (bj hI)<|ap<|av<|aX (k:=6) J fun hN=>bK ?_;refine aM (eh (Z:=fun ls i=>(s.drop i=ls)∧cN f ls i=some R) (Of:=fun _ i=>[]) (Gf:=fun _ i=>[(0,fE (be) s),(1,(fH aP Iq lZ (fun(x:bo)=>f x))),(7,je s),(8,ce (i:Int))]) (fun i h=>?_) (fun e tl ih i h=>?_) s 0 ⟨J,h⟩) (bh J)
 ·obtain⟨hx,h⟩:=h
  refine aq<|au<|zo J (fx J J)<|ap<|ae<|br (ht J) (dp hx)<|bk ?_;refine ac (ac (aG ?_));refine an<|au<|zo rfl (fi)<|ap<|am ?_;cases so h;exact aH J J
 ·obtain⟨hx,h⟩:=h
  refine aq<|au<|zo J (fx J J)<|ap<|ae<|bq (ht J) (dh hx)<|eK<|ae<|av<|au<|aA J<|bv J<|ap<|au<|aA J<|aA J<|aA J<|zo J (ka qL gn J J J (dy hx)) ?_;refine zo J (bC gn J J)<|bO h fun r q_r h=>zo J (gF (args:=Iq) (res:=yB) (f:=(fun(x:bo)=>f x)) (x:=((e):bo)) (ht J) q_r ⟨(ht J),aY⟩)<|ap<|dN h J (fun h=>?_) (fun h=>?_)
  ·refine au<|aA J<|bv J<|ap<|am ?_;refine aB (aa (aa (aB (aa ?_))));cases so h;exact aH J J
  ·refine bD<|al<|an<|ak<|zo rfl (lb (cL hx hN) rfl)<|aA rfl<|aK ?_;exact aW (aM (ih (i+1) ⟨cK hx,h⟩) (bh J))

theorem Jq(c:Int)(e:bo){R:Bool}(h:d7 c e=some R):bg aP 209 [tD be e,bz bW c] (gU R):=by
 refine bg.of Tryz.func209 J J J fun w0 S0=>au<|zo J (ms J)<|zo J (fC)<|ap<|ae<|bO h fun t q_t h=>?_
 obtain⟨e1,h1t,h0t⟩:=og q_t
 have q_e1g:=fun hb=>(h1t hb).1
 obtain⟨t1,q_t1,h⟩:=bs h
 obtain⟨e2,h1t1,h0t1⟩:=og q_t1
 have q_e2g:=fun hb=>(h1t1 hb).1
 refine eQ (ts:=[_,_,_,_,_,_,_,_,_,_,_,_,_,_,_,_,_,_,_,_,_,_]) mixed J J
  ⟨ij 2 J J J (cc fB dc J J),
  ⟨cO 4 0 J J J (bC mt J J),
  ⟨cO 5 1 J J J (jk ju J),
  ⟨cO 6 2 J J J (kc J),
  ⟨cO 7 3 J J J (cM J),
  ⟨om 2 8 4 J J J J (cJ J J J J (fun hg=>cc fB dc J J)),
  ⟨gm 9 5 8 4 J J J J (cJ J J J J (fun hg=>aO mt J J (aJ J hg))),
  ⟨gm 10 6 8 4 J J J J (cJ J J J J (fun hg=>cr ju dB J (aJ J hg) hI (q_e1g hg))),
  ⟨gm 11 7 8 4 J J J J (cJ J J J J (fun hg=>cB jt J eO J (aJ J hg))),
  ⟨gm 12 8 8 4 J J J J (cJ J J J J (fun hg=>aO bL J J (aJ J hg))),
  ⟨gm 13 9 8 4 J J J J (cJ J J J J (fun hg=>bG (aJ J hg) hI)),
  ⟨fG 8 4 14 10 J J J J (dm (ht J) (fun hb=>(aJ J hb)) (fun hb=>(h1t hb).2) h0t),
  ⟨cO 15 11 J J J (cM J),
  ⟨om 2 16 12 J J J J (cJ J J J J (fun hg=>cc fB dc J J)),
  ⟨gm 17 13 16 12 J J J J (cJ J J J J (fun hg=>aO mt J J (aJ J hg))),
  ⟨gm 18 14 16 12 J J J J (cJ J J J J (fun hg=>cr ju dB J (aJ J hg) hI (q_e2g hg))),
  ⟨gm 19 15 16 12 J J J J (cJ J J J J (fun hg=>cB mJ J iz J (aJ J hg))),
  ⟨gm 20 16 16 12 J J J J (cJ J J J J (fun hg=>aO bL J J (aJ J hg))),
  ⟨om 1 16 12 J J J J (cJ J J J J (fun hg=>bC bL J J)),
  ⟨rZ 21 17 22 18 16 12 J J J J J (cJ J J J J (fun hg=>bG (aJ J hg) (aJ J hg))),
  ⟨fG 16 12 23 19 J J J J (dm (ht J) (fun hb=>(aJ J hb)) (fun hb=>(h1t1 hb).2) h0t1),
  ⟨cO 24 20 J J J (yD J),
  aY⟩⟩⟩⟩⟩⟩⟩⟩⟩⟩⟩⟩⟩⟩⟩⟩⟩⟩⟩⟩⟩⟩ ?_
 refine an<|am ?_;cases so h;exact aH J J

theorem Js(l:(Option cq))(c:Int){R:Int}(h:jp l c=some R):bg aP 207 [ce c,bz qN l] (ce R):=by
 refine bg.of Tryz.func207 J J J fun w0 S0=>au<|zo J (ms J)<|zo J (fi)<|ap<|au<|zo J (bC Ef J J)<|bO h fun p q_p h=>zo J (ed (ht J) q_p)<|zo J (cc wx rK J J)<|zo J (cc sX oH J J)<|zo J (bC Bw J J)<|zo J ((show bU _ _ _ _ ((fH aP Iq lZ (fun(x:bo)=>(d7 c) x)))from hY (cts:=[bz bW c]) (caps:=[.tmp 2]) N5 ⟨(ht J),aY⟩ (fun x y h=>Jq _ _ h)))<|bO h fun r q_r h=>zo J (aL N6 (Jr _ _ q_r) ⟨(ht J),(ht J),aY⟩)<|bv J<|ap<|am ?_;cases so h;exact aH J J

theorem JJ(l:(Option cq)){R:bu}(h:iS l=some R):bg aP 147 [tD qN l] (tD bP R):=by
 refine bg.of Tryz.func147 J J J fun w0 S0=>au<|zo J (ms J)<|aZ (r:=bP) (x:=wn) er (fun _=>gK _) J fun b=>ap<|au<|zo J (bC Ef J J)<|bO h fun p q_p h=>zo J (ed (ht J) q_p)<|zo J (cc qh oj J J)<|zo J (bC er J J)<|zo J ((show bU _ _ _ _ ((fH aP Ak Ip (fun(x:Int)=>(jp l) x)))from hY (cts:=[bz qN l]) (caps:=[.tmp 1]) N7 ⟨(ht J),aY⟩ (fun x y h=>Js _ _ h)))<|bO h fun r q_r h=>zo J (aL KG (EL _ _ q_r) ⟨(ht J),(ht J),aY⟩)<|aC er J aw J (ht J) (ht J)<|aU 2 J<|ap<|am ?_;cases so h;exact fP J er J J J

theorem Jp(l:(Option cq))(c:Int){R:Int}(h:kH l c=some R):bg aP 210 [ce c,bz qN l] (ce R):=by
 refine bg.of Tryz.func210 J J J fun w0 S0=>au<|zo J (fi)<|ap<|au<|zo J (bC Ef J J)<|bO h fun p q_p h=>zo J (ed (ht J) q_p)<|zo J (cc wx rK J J)<|zo J (cc lv fh J J)<|zo J (bC bT J J)<|aA J<|bO h fun r q_r h=>zo J (aL KI (EN _ _ q_r) ⟨(ht J),(ht J),aY⟩)<|bv J<|ap<|am ?_;cases so h;exact aH J J

theorem AY(l:(Option cq)){R:bu}(h:dA l=some R):bg aP 148 [tD qN l] (tD bP R):=by
 refine bg.of Tryz.func148 J J J fun w0 S0=>au<|zo J (ms J)<|aZ (r:=bP) (x:=wn) er (fun _=>gK _) J fun b=>ap<|au<|zo J (bC Ef J J)<|bO h fun p q_p h=>zo J (ed (ht J) q_p)<|zo J (cc qh oj J J)<|zo J (bC er J J)<|zo J ((show bU _ _ _ _ ((fH aP Ak Ip (fun(x:Int)=>(kH l) x)))from hY (cts:=[bz qN l]) (caps:=[.tmp 1]) N4 ⟨(ht J),aY⟩ (fun x y h=>Jp _ _ h)))<|bO h fun r q_r h=>zo J (aL KG (EL _ _ q_r) ⟨(ht J),(ht J),aY⟩)<|aC er J aw J (ht J) (ht J)<|aU 2 J<|ap<|am ?_;cases so h;exact fP J er J J J

theorem wC(l:(Option cq)){R:bu}(h:dj l=some R):bg aP 149 [tD qN l] (tD bP R):=by
 refine bg.of Tryz.func149 J J J fun w0 S0=>au<|aZ (r:=bP) (x:=wn) er (fun _=>gK _) J fun b=>ap<|au<|aA J<|bO h fun p q_p h=>zo J (ed (ht J) q_p)<|zo J (cc qh oj J J)<|zo J (bC er J J)<|aC er J aw J (ht J) (ht J)<|aU 2 J<|ap<|am ?_;cases so h;exact fP J er J J J

theorem LS{R:(List (Int×((Option cq)→Option bu)))}(h:nC=some R):bg aP 75 [] (Ii (fun y:((Option cq)→Option bu)=>yH aP Aj Ah (fun(x:(Option cq))=>y x)) Ai R):=by
 refine bg.of Tryz.func75 J J J fun w0 S0=>au<|zo J (ba (show ay _ _ (.const (.map none)) (tV (.map none))from fun _ _ _=>J))<|ap<|au<|yg (Hn (fun y:((Option cq)→Option bu)=>yH aP Aj Ah (fun(x:(Option cq))=>y x))) Ai J fun b=>fX (γ:=(fun y:((Option cq)→Option bu)=>yH aP Aj Ah (fun(x:(Option cq))=>y x))) (y:=kQ) vY (fv kL) (ht J) (n6 hI) (ot (AM OA fun x y h=>JM _ h)) fun os=>fX (γ:=(fun y:((Option cq)→Option bu)=>yH aP Aj Ah (fun(x:(Option cq))=>y x))) (y:=kg) vY (fv kL) (ht J) (n6 hI) (ot (AM Oz fun x y h=>JL _ h)) fun os1=>fX (γ:=(fun y:((Option cq)→Option bu)=>yH aP Aj Ah (fun(x:(Option cq))=>y x))) (y:=kf) vY (fv kL) (ht J) (n6 hI) (ot (AM Oy fun x y h=>JK _ h)) fun os2=>fX (γ:=(fun y:((Option cq)→Option bu)=>yH aP Aj Ah (fun(x:(Option cq))=>y x))) (y:=iS) vY (fv kL) (ht J) (n6 hI) (ot (AM Ox fun x y h=>JJ _ h)) fun os3=>fX (γ:=(fun y:((Option cq)→Option bu)=>yH aP Aj Ah (fun(x:(Option cq))=>y x))) (y:=dA) vY (fv kL) (ht J) (n6 hI) (ot (AM HX fun x y h=>AY _ h)) fun os4=>fX (γ:=(fun y:((Option cq)→Option bu)=>yH aP Aj Ah (fun(x:(Option cq))=>y x))) (y:=dA) vY (fv kL) (ht J) (n6 hI) (ot (AM HX fun x y h=>AY _ h)) fun os5=>fX (γ:=(fun y:((Option cq)→Option bu)=>yH aP Aj Ah (fun(x:(Option cq))=>y x))) (y:=dA) vY (fv kL) (ht J) (n6 hI) (ot (AM HX fun x y h=>AY _ h)) fun os6=>fX (γ:=(fun y:((Option cq)→Option bu)=>yH aP Aj Ah (fun(x:(Option cq))=>y x))) (y:=dj) vY (fv kL) (ht J) (n6 hI) (ot (AM EY fun x y h=>wC _ h)) fun os7=>fX (γ:=(fun y:((Option cq)→Option bu)=>yH aP Aj Ah (fun(x:(Option cq))=>y x))) (y:=dj) vY (fv kL) (ht J) (n6 hI) (ot (AM EY fun x y h=>wC _ h)) fun os8=>fX (γ:=(fun y:((Option cq)→Option bu)=>yH aP Aj Ah (fun(x:(Option cq))=>y x))) (y:=dj) vY (fv kL) (ht J) (n6 hI) (ot (AM EY fun x y h=>wC _ h)) fun os9=>fX (γ:=(fun y:((Option cq)→Option bu)=>yH aP Aj Ah (fun(x:(Option cq))=>y x))) (y:=dj) vY (fv kL) (ht J) (n6 hI) (ot (AM EY fun x y h=>wC _ h)) fun os10=>aA J<|bv J<|ap ?_;refine am<|vS 0 J ?_;cases so h;exact aH J J

end Go.Proofs.YtmogpgcfognefaaGreatDoor

