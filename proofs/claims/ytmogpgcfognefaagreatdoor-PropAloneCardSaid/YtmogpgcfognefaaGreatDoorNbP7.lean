/- cF of this claim: P7. -/
import Derived.Test.YtmogpgcfognefaaGreatDoorNbT
import Derived.Test.YtmogpgcfognefaaGreatDoorNbP6
set_option linter.all false
namespace Go.Proofs.YtmogpgcfognefaaGreatDoor
open Go
set_option maxRecDepth 100000

theorem Dn(q:eM)(c:bz){R:(Option bH)×Int×Int×Int}(h:kM q c=some R):bg aP 41 [tD dk q,tD ck c] (tT [tD mV R.1,cd R.2.1,cd R.2.2.1,cd R.2.2.2]):=by
 refine bg.of Tryz.func41 J J J fun w0 S0=>aq<|zo J (mp J)<|zo J (mp J)<|zo J (aZ (show ay _ _ _ E4 from FQ))<|zo J (fg)<|zo J (fg)<|zo J (fg)<|ap<|ae<|aq<|zo J (bE lL J J)<|bP h fun r q_r h=>zo J (aO Py (LE _ q_r) ⟨(ht J),be⟩)<|bu J<|ap<|aq<|aA J<|zo J (s3 J) ?_;refine ap<|dQ h J (fun h=>?_) (fun h=>?_)
 ·refine aq<|aA J<|zo J (aZ (show ay _ _ _ E4 from FQ))<|zo J (fg)<|zo J (fg)<|bu J<|ap<|am<|aa ?_;cases so h;exact rQ J J J J J
 ·refine eK<|ae<|aq<|zo J (bZ lT gc J J)<|zo J (bE sH J J)<|zo J (jL o9 J)<|zo J (fH (ht J) hI)<|aA J<|cD J J (fun hg=>bZ lT gc J J)<|cD J J (fun hg=>aL sH J J (aI J hg))<|cD J J (fun hg=>bI o9 (aI J hg))<|cD J J (fun hg=>iu (aI J hg) hI)<|zo J (pn J J)<|ap<|dQ h J (fun h=>?_) (fun h=>?_)
  ·refine aq<|zo J (aZ (show ay _ _ _ E4 from FQ))<|zo J (fg)<|zo J (fg)<|zo J (fg)<|ap<|am<|aa ?_;cases so h;exact rQ J J J J J
  ·refine eK<|aq<|zo J (bE nR J J)<|zo J (bE lL J J)<|ci true (dL gH) 62<|zo J (cJ (y:=g9 (⟨q,c,[]⟩:bH) (ai none 0 (([]:List (List (List Int))).length))) MB MU zN (⟨_,_,_,_,_,J,wH,J,(ht J),⟨_,_,_,_,_,J,wG,J,(ht J),J⟩⟩))<|wn (ht J) J fun b=>bu J<|ap<|ae<|aq<|zo J (bZ lT gc J J)<|zo J (bE sH J J)<|zo J (jL o9 J)<|zo J (bj hI)<|ap<|av<|aY (k:=36) J fun hN=>bO ?_;refine aM (oD (Z:=fun ls i x l c1=>(q.Frags.drop i=ls)∧lx q ls i x=some R) (Of:=fun _ i x l c1=>[bx fF 163 b (g9 x (ai l c1 x.kinds.length)),gX (dL gH) 62 l c1 x.kinds]) (Gf:=fun _ i x l c1=>[(2,bB dk q),(9,tV (aD b 0)),(36,fX (cn) q.Frags),(37,jt q.Frags),(38,cd (i:Int))]) (fun i x l c1 h=>?_) (fun e tl ih i x l c1 h=>?_) q.Frags 0 ({(⟨q,c,[]⟩:bH)with kinds:=([]:List (List (List Int)))}:bH) none 0 ⟨J,h⟩) (bh J)
   ·obtain⟨hx,h⟩:=h
    refine au<|aq<|zo J (fM J J)<|ap<|ae<|bt (ht J) (du hx)<|bn ?_;refine ac (ac (aG ?_));refine an<|ae<|aq<|zo rfl (bZ lT gc rfl rfl)<|zo rfl (bE sH rfl rfl)<|zo rfl (jL o9 rfl)<|zo rfl (bj hI)<|ap<|av<|aY (k:=78) J fun hN1=>bO ?_;refine aM (eC (Z:=fun ls1 i1=>(q.Frags.drop i1=ls1)∧lw x ls1 i1=some R) (Of:=fun _ i1=>[bx fF 163 b (g9 x (ai l c1 x.kinds.length)),gX (dL gH) 62 l c1 x.kinds]) (Gf:=fun _ i1=>[(9,tV (aD b 0)),(79,jt q.Frags),(80,cd (i1:Int))]) (fun i1 h=>?_) (fun e1 tl1 ih1 i1 h=>?_) q.Frags 0 ⟨J,h⟩) (bh J)
    ·obtain⟨hx1,h⟩:=h
     refine au<|aq<|zo J (fM J J)<|ap<|ae<|bt (ht J) (du hx1)<|bn ?_;refine ac (ac (aG ?_));refine an<|aq<|aA rfl<|bu rfl<|zo rfl (fg)<|zo rfl (fg)<|zo rfl (fg)<|ap<|am<|bf<|bf<|pm (r' :=eY) (x' :=x) (fun _ _ _ ho h=>mF (iT ho (.head _)) h)<|dP 4 J<|Kb 4 J<|bw ?_;cases so h;exact rQ J J J J J
    ·obtain⟨hx1,h⟩:=h
     refine au<|aq<|zo J (fM J J)<|ap<|ae<|br (ht J) (dn hx1)<|eK<|ae<|av<|aq<|aA J<|bu J<|ap<|aq<|aA J<|aA J<|bP h fun r1 q_r1 h=>zo J (xj (r:=fF) (rd:=eY) (T:=163) (b:=b) (x:=g9 x (ai l c1 x.kinds.length)) (y:=x) (.head _) Pt (LB _ _ q_r1) (fun _ _ _ ho h=>mF (iT ho (.tail _ (.head _))) h) (fun S S1 a hf hle hk=>nq (tk.2 (D4 (ht J) hf hk)) (nq (DZ (ht J) hf hle) trivial)) z7) ?_;refine zo J (d7 (ht J))<|ap<|dQ h J (fun h=>?_) (fun h=>?_)
     ·refine aq<|aA J<|zo J (aZ (show ay _ _ _ E4 from FQ))<|bu J<|zo J (fg)<|zo J (fg)<|ap<|am ?_;refine aF (aa (aa (aF (aa ?_))));refine bw<|bw ?_;cases so h;exact rQ J J J J J
     ·refine bC<|al<|an<|ak<|zo rfl (lk (cQ hx1 hN1) rfl)<|aA rfl<|aK ?_;exact aW (aM (ih1 (i1+1) ⟨cP hx1,h⟩) (bh J))
   ·obtain⟨hx,h⟩:=h
    refine au<|aq<|zo J (fM J J)<|ap<|ae<|br (ht J) (dn hx)<|eK<|ae<|av<|aq<|aA J<|zo J (j8 o9 je J J J (dB hx))<|zo J (bE je J J)<|aX (r:=cn) (x:=yj) je (fun _=>lD _) J fun b1=>bu J<|aC je J ax J (ht J) (ht J)<|aT 11 J<|ap<|ae ?_;refine ak<|zo J (bZ m7 ig J J)<|zo J (bE rX J J)<|bP h fun r2 q_r2 h=>zo J (aO PJ (LM _ q_r2) ⟨(ht J),be⟩)<|aA J<|zo J (lv J J)<|zo J (lv J J)<|zo J (lv J J)<|bu J<|bu J<|bu J<|ap<|ae<|aq<|aA J<|zo J (s3 J)<|ap<|dQ h J (fun h=>?_) (fun h=>?_)
    ·refine aq<|aA J<|aA J<|aA J<|zo J (aZ (show ay _ _ _ E4 from FQ))<|bu J<|bu J<|bu J<|ap<|am ?_;refine aa (aF (aa (aa (aF (aa ?_)))));refine bw<|bw ?_;cases so h;exact rQ J J J J J
    ·refine eK<|ae<|ae<|bP h fun e2 q_e2 h=>bP h fun r3 q_r3 h=>?_
     refine eN (ts:=[_,_,_,_,_,_,_,_,_,_]) mixed J J
      ⟨iD 9 J J J (cN J),
      ⟨iD 11 J J J (bE je J J),
      ⟨iD 12 J J J (cN J),
      ⟨iD 12 J J J (cN J),
      ⟨cR 58 3 J J J (jL qK J),
      ⟨cR 59 4 J J J (gy (ht J) hI),
      ⟨fB 57 2 60 5 J J J J (j8 qK bV J J J q_e2),
      ⟨cR 61 6 J J J (bE bV J J),
      ⟨Mg 55 0 56 1 62 7 J J J J J (xj (r:=fF) (rd:=eY) (T:=163) (b:=b) (x:=g9 x (ai l c1 x.kinds.length)) (y:=x) (.head _) Pu (LC _ _ _ q_r3) (fun _ _ _ ho h=>mF (iT ho (.tail _ (.head _))) h) (fun S S1 a hf hle hk=>nq (tk.2 (D4 (ht J) hf hk)) (nq (DZ (ht J) hf hle) (nq (DZ (ht J) hf hle) trivial))) z7),
      ⟨cR 63 8 J J J (d7 (ht J)),
      be⟩⟩⟩⟩⟩⟩⟩⟩⟩⟩ ?_
     refine an<|dQ h rfl (fun h=>?_) (fun h=>?_)
     ·refine aq<|aA J<|zo J (aZ (show ay _ _ _ E4 from FQ))<|bu J<|zo J (fg)<|zo J (fg)<|ap<|am ?_;refine aa (aF (aa (aa (aF (aa ?_)))));refine bw<|bw ?_;cases so h;exact rQ J J J J J
     ·refine eK<|ak<|aA J<|aA J<|zo J (aR (ht J))<|zo J (fq 2 wh J J J)<|zo J (FE D3 xu (.head _) (.tail _ (.head _)) J (ht J))<|aA J<|zo J (bF (r:=(dL pP)) (ys:=[r2.1]) (xs:=[.tmp 71]) Tryz.underlying161 yn J J J J J ⟨(ht J),be⟩)<|bT<|bP h fun l1 q_l1 h=>DF yn J J J J Tryz.underlying161 J J (ht J) (ht J) q_l1 fun l2 c2=>zo J (aR (ht J))<|zo J (fq 2 wh J J J)<|bT<|d9 D3 J (pR _ _ _) J (ht J) (Aq (Ie (ht J)))<|aK<|al<|an<|ak<|zo rfl (lk (cQ hx hN) rfl)<|aA rfl<|aK ?_;exact aW (aM (ih (i+1) ({x with kinds:=l1}:bH) l2 c2 ⟨cP hx,h⟩) (bh J))

theorem Dq(p:eM)(c:bz){R:Int×Int×Int}(h:lQ p c=some R):bg aP 11 [tD dk p,tD ck c] (tT [cd R.1,cd R.2.1,cd R.2.2]):=by
 refine bg.of Tryz.func11 J J J fun w0 S0=>aq<|zo J (mp J)<|zo J (mp J)<|zo J (fg)<|zo J (fg)<|zo J (fg)<|ap<|aq<|zo J (bE nR J J)<|zo J (bE lL J J)<|bP h fun r q_r h=>zo J (aO LV (Dn _ _ q_r) ⟨(ht J),(ht J),be⟩)<|aA J<|zo J (lv J J)<|zo J (lv J J)<|zo J (lv J J)<|zo J (lv J J)<|bu J<|bu J<|bu J ?_;refine bu J<|ap<|aq<|aA J<|aA J<|aA J<|bu J<|bu J<|bu J<|ap<|am ?_;cases so h;exact mK J J J J

theorem Ju(l:(Option co)){R:bp}(h:kJ l=some R):bg aP 144 [tD qN l] (tD bN R):=by
 refine bg.of Tryz.func144 J J J fun w0 S0=>aq<|aX (r:=bN) (x:=vZ) ek (fun _=>gI _) J fun b=>ap<|ae<|ae<|bP h fun p q_p h=>bP h fun p1 q_p1 h=>bP h fun p2 q_p2 h=>bP h fun e q_e h=>?_
 refine eN (ts:=[_,_,_,_,_,_,_,_,_,_,_,_,_,_,_,_,_]) mixed J J
  ⟨iD 0 J J J (cN J),
  ⟨cR 4 0 J J J (ec (ht J) q_p),
  ⟨cR 5 1 J J J (bZ Ep zh J J),
  ⟨cR 6 2 J J J (bE se J J),
  ⟨cR 7 3 J J J (ec (ht J) q_p1),
  ⟨cR 8 4 J J J (bZ Ay qb J J),
  ⟨cR 9 5 J J J (bZ nI hG J J),
  ⟨cR 10 6 J J J (bE uz J J),
  ⟨iD 0 J J J (cN J),
  ⟨cR 12 8 J J J (ec (ht J) q_p2),
  ⟨cR 13 9 J J J (bZ wg rM J J),
  ⟨cR 14 10 J J J (bZ nH gR J J),
  ⟨cR 15 11 J J J (bE bJ J J),
  ⟨fB 11 7 16 12 J J J J (j8 pq nQ J J J q_e),
  ⟨cR 17 13 J J J (bZ xA qe J J),
  ⟨cR 18 14 J J J (bE bV J J),
  ⟨cR 19 15 J J J (yk J),
  be⟩⟩⟩⟩⟩⟩⟩⟩⟩⟩⟩⟩⟩⟩⟩⟩⟩ ?_
 refine an<|aq<|aA rfl<|zo rfl (jL dp rfl)<|zo rfl (iu (ht rfl) hI)<|ap<|dQ h rfl (fun h=>?_) (fun h=>?_)
 ·refine aq<|aA J<|bP h fun r q_r h=>jb Hy (wj _ q_r) ⟨(ht J),be⟩ J fun l1 c=>jI<|nA 24 J<|zo J (cJ (y:=(⟨(2:Int),r⟩:bp)) ek BL gI (⟨_,_,_,_,_,J,l0,J,hI,⟨_,_,_,_,_,J,uF,J,(uC (ht J)),J⟩⟩))<|bT<|aC ek J ax J (ht J) (ht J)<|ap<|am<|aa<|dP 2 J<|bw ?_;cases so h;exact f8 J ek J J J
 ·refine eK<|aq<|zo J (cJ (y:=KG) ek BL gI (⟨_,_,_,_,_,J,l0,J,hI,J⟩))<|aC ek J ax J (ht J) (ht J)<|ap<|am<|dP 2 J ?_;cases so h;exact f8 J ek J J J

theorem Jt(l:(Option co)){R:bp}(h:ke l=some R):bg aP 145 [tD qN l] (tD bN R):=by
 refine bg.of Tryz.func145 J J J fun w0 S0=>aq<|aX (r:=bN) (x:=vZ) ek (fun _=>gI _) J fun b=>ap<|ae<|ae<|bP h fun p q_p h=>bP h fun p1 q_p1 h=>bP h fun p2 q_p2 h=>bP h fun e q_e h=>?_
 refine nB 16 [tc (tD qN l),tc (bB jm p),tc (bB mV p.checker),tc (tD mV p.checker),tc (bB eY p1),tc (bB dk p1.Plan),tc (bB (dL cn) p1.Plan.Frags),tc (fX (cn) p1.Plan.Frags),tc (tD qN l),tc (bB jm p2),tc (bB aE p2.n),tc (bB bU p2.n.Table),tc (cd p2.n.Table),tc (bB cn e),tc (tD cn e),([15],fun s=>tV (aD ((s.getD 0 sa).h 0).2 0))] [false,false,false,false,false,false,false,false,false,false,false,false,false,false,false,true] [fun _=>[bx bN 55 b vZ],fun sg=>[bx cn 31 ((sg 15).h 0).2 yj,bx bN 55 b vZ]] J mixed J J J J J
  ⟨⟨[⟨0,fun _=>tD qN l,none⟩],_,0,1,J,⟨(fun _=>J),be⟩,J,J,J,J,J,fun _ sg _ _=>ah J (cN J)⟩,
  ⟨⟨[⟨4,fun _=>tD qN l,some 0⟩],_,0,1,J,⟨(fun _=>J),be⟩,J,J,J,J,J,fun _ sg _ _=>ah J (ec (ht J) q_p)⟩,
  ⟨⟨[⟨5,fun _=>bB jm p,some 1⟩],_,0,1,J,⟨(fun _=>J),be⟩,J,J,J,J,J,fun _ sg _ _=>ah J (bZ Ep zh J J)⟩,
  ⟨⟨[⟨6,fun _=>bB mV p.checker,some 2⟩],_,0,1,J,⟨(fun _=>J),be⟩,J,J,J,J,J,fun _ sg _ _=>ah J (bE se J J)⟩,
  ⟨⟨[⟨7,fun _=>tD mV p.checker,some 3⟩],_,0,1,J,⟨(fun _=>J),be⟩,J,J,J,J,J,fun _ sg _ _=>ah J (ec (ht J) q_p1)⟩,
  ⟨⟨[⟨8,fun _=>bB eY p1,some 4⟩],_,0,1,J,⟨(fun _=>J),be⟩,J,J,J,J,J,fun _ sg _ _=>ah J (bZ nh gr J J)⟩,
  ⟨⟨[⟨9,fun _=>bB dk p1.Plan,some 5⟩],_,0,1,J,⟨(fun _=>J),be⟩,J,J,J,J,J,fun _ sg _ _=>ah J (bZ lT gc J J)⟩,
  ⟨⟨[⟨10,fun _=>bB (dL cn) p1.Plan.Frags,some 6⟩],_,0,1,J,⟨(fun _=>J),be⟩,J,J,J,J,J,fun _ sg _ _=>ah J (bE sH J J)⟩,
  ⟨⟨[⟨0,fun _=>tD qN l,none⟩],_,0,1,J,⟨(fun _=>J),be⟩,J,J,J,J,J,fun _ sg _ _=>ah J (cN J)⟩,
  ⟨⟨[⟨12,fun _=>tD qN l,some 8⟩],_,0,1,J,⟨(fun _=>J),be⟩,J,J,J,J,J,fun _ sg _ _=>ah J (ec (ht J) q_p2)⟩,
  ⟨⟨[⟨13,fun _=>bB jm p2,some 9⟩],_,0,1,J,⟨(fun _=>J),be⟩,J,J,J,J,J,fun _ sg _ _=>ah J (bZ wg rM J J)⟩,
  ⟨⟨[⟨14,fun _=>bB aE p2.n,some 10⟩],_,0,1,J,⟨(fun _=>J),be⟩,J,J,J,J,J,fun _ sg _ _=>ah J (bZ nH gR J J)⟩,
  ⟨⟨[⟨15,fun _=>bB bU p2.n.Table,some 11⟩],_,0,1,J,⟨(fun _=>J),be⟩,J,J,J,J,J,fun _ sg _ _=>ah J (bE bJ J J)⟩,
  ⟨⟨[⟨11,fun _=>tD (dL cn) p1.Plan.Frags,some 7⟩,⟨16,fun _=>tD bU p2.n.Table,some 12⟩],_,0,1,J,⟨(fun _=>J),(fun _=>J),be⟩,J,J,J,J,J,fun _ sg _ _=>ah J (j8 o9 je J J J q_e)⟩,
  ⟨⟨[⟨17,fun _=>bB cn e,some 13⟩],_,0,1,J,⟨(fun _=>J),be⟩,J,J,J,J,J,fun _ sg _ _=>ah J (bE je J J)⟩,
  ⟨⟨[],_,J,be,J,J,J,fun sg=>eJ J (pE (r:=cn) (x:=yj) je (fun _=>lD _))⟩,
  be⟩⟩⟩⟩⟩⟩⟩⟩⟩⟩⟩⟩⟩⟩⟩⟩ (fun sg=>?_)
 refine(show RG _ _ _ _ [bx cn 31 ((sg 15).h 0).2 yj,bx bN 55 b vZ] _ from ?_);refine aC je J ax J (ht J) (ht J)<|aT 3 J<|ap<|aq<|zo J (bZ re mg J J)<|zo J (bE bJ J J)<|zo J (j6 J)<|ap<|dQ h J (fun h=>?_) (fun h=>?_)
 ·refine aq<|zo J (bZ Aw rN J J)<|zo J (bE bV J J)<|bP h fun r q_r h=>jb Hy (wj _ q_r) ⟨(ht J),be⟩ J fun l1 c=>jI<|nA 24 J<|zo J (cJ (y:=(⟨(2:Int),r⟩:bp)) ek BL gI (⟨_,_,_,_,_,J,l0,J,hI,⟨_,_,_,_,_,J,uF,J,(uC (ht J)),J⟩⟩))<|bT<|aC ek J ax J (ht J) (ht J)<|ap<|am<|aa<|dP 2 J<|bw ?_;cases so h;exact f8 J ek J J J
 ·refine eK<|aq<|zo J (cJ (y:=(⟨(3:Int),[]⟩:bp)) ek BL gI (⟨_,_,_,_,_,J,l0,J,hI,J⟩))<|aC ek J ax J (ht J) (ht J)<|ap<|am<|dP 2 J ?_;cases so h;exact f8 J ek J J J

theorem Js(l:(Option co)){R:bp}(h:kc l=some R):bg aP 146 [tD qN l] (tD bN R):=by
 refine bg.of Tryz.func146 J J J fun w0 S0=>aq<|aX (r:=bN) (x:=vZ) ek (fun _=>gI _) J fun b=>ap<|ae<|ae<|bP h fun p q_p h=>bP h fun t q_t h=>?_
 obtain⟨p1,h1t,h0t⟩:=og q_t
 have q_p1g:=fun hb=>(h1t hb).1
 obtain⟨t1,q_t1,h⟩:=bs h
 obtain⟨p2,h1t1,h0t1⟩:=og q_t1
 have q_p2g:=fun hb=>(h1t1 hb).1
 obtain⟨p3,h1t1⟩:=Kf (fun hb=>(h1t1 hb).2)
 have q_p3g:=fun hb=>(h1t1 hb).1
 obtain⟨r,h1t1⟩:=Kf (fun hb=>(h1t1 hb).2)
 have q_rg:=fun hb=>(h1t1 hb).1
 refine eN (ts:=[_,_,_,_,_,_,_,_,_,_,_,_,_,_,_,_,_,_,_,_,_,_,_,_,_,_,_]) mixed J J
  ⟨iD 0 J J J (cN J),
  ⟨cR 3 0 J J J (ec (ht J) q_p),
  ⟨cR 4 1 J J J (bZ qj oc J J),
  ⟨cR 5 2 J J J (bZ ln fO J J),
  ⟨cR 6 3 J J J (bE bJ J J),
  ⟨cR 7 4 J J J (j6 J),
  ⟨cR 8 5 J J J (cN J),
  ⟨oe 0 9 6 J J J J (cL J J J J (fun hg=>cN J)),
  ⟨gi 10 7 9 6 J J J J (cL J J J J (fun hg=>ec (aI J hg) (q_p1g hg))),
  ⟨gi 11 8 9 6 J J J J (cL J J J J (fun hg=>cB Ax J zg J (aI J hg))),
  ⟨gi 12 9 9 6 J J J J (cL J J J J (fun hg=>cB ln J fO J (aI J hg))),
  ⟨gi 13 10 9 6 J J J J (cL J J J J (fun hg=>aL bJ J J (aI J hg))),
  ⟨gi 14 11 9 6 J J J J (cL J J J J (fun hg=>bv (aI J hg) hI)),
  ⟨fB 9 6 15 12 J J J J (dv (ht J) (fun hb=>(aI J hb)) (fun hb=>(h1t hb).2) h0t),
  ⟨cR 16 13 J J J (cN J),
  ⟨oe 0 17 14 J J J J (cL J J J J (fun hg=>cN J)),
  ⟨gi 18 15 17 14 J J J J (cL J J J J (fun hg=>ec (aI J hg) (q_p2g hg))),
  ⟨gi 19 16 17 14 J J J J (cL J J J J (fun hg=>cB qj J oc J (aI J hg))),
  ⟨gi 20 17 17 14 J J J J (cL J J J J (fun hg=>cB pi J kr J (aI J hg))),
  ⟨gi 21 18 17 14 J J J J (cL J J J J (fun hg=>aL bV J J (aI J hg))),
  ⟨oe 0 17 14 J J J J (cL J J J J (fun hg=>cN J)),
  ⟨gi 23 20 17 14 J J J J (cL J J J J (fun hg=>ec (aI J hg) (q_p3g hg))),
  ⟨gi 24 21 17 14 J J J J (cL J J J J (fun hg=>cB Ax J zg J (aI J hg))),
  ⟨gi 25 22 17 14 J J J J (cL J J J J (fun hg=>cB pi J kr J (aI J hg))),
  ⟨gi 26 23 17 14 J J J J (cL J J J J (fun hg=>aL bV J J (aI J hg))),
  ⟨sb 22 19 27 24 17 14 J J J J J (cL J J J J (fun hg=>aO Kx (EC _ _ (q_rg hg)) ⟨(aI J hg),(aI J hg),be⟩)),
  ⟨fB 17 14 28 25 J J J J (dv (ht J) (fun hb=>(aI J hb)) (fun hb=>(h1t1 hb).2) h0t1),
  be⟩⟩⟩⟩⟩⟩⟩⟩⟩⟩⟩⟩⟩⟩⟩⟩⟩⟩⟩⟩⟩⟩⟩⟩⟩⟩⟩ ?_
 refine an<|dQ h rfl (fun h=>?_) (fun h=>?_)
 ·refine aq<|aA J<|bP h fun p4 q_p4 h=>zo J (ec (ht J) q_p4)<|zo J (bZ qj oc J J)<|zo J (bE ek J J)<|aC ek J ax J (ht J) (ht J)<|ap<|am<|aa<|dP 2 J ?_;cases so h;exact f8 J ek J J J
 ·refine eK<|aq<|zo J (cJ (y:=KG) ek BL gI (⟨_,_,_,_,_,J,l0,J,hI,J⟩))<|aC ek J ax J (ht J) (ht J)<|ap<|am<|dP 2 J ?_;cases so h;exact f8 J ek J J J

theorem Ew(p:bp)(at1:(Int→Option Int)){R:bp}(h:nw p at1=some R):bg aP 206 [tD bN p,(fC aP zS H3 (fun(x:Int)=>at1 x))] (tD bN R):=by
 refine bg.of Tryz.func206 J J J fun w0 S0=>aq<|zo J (mp J)<|aX (r:=bN) (x:=vZ) ek (fun _=>gI _) J fun b=>ap<|ae<|aq<|zo J (bZ ln fO J J)<|zo J (bE bJ J J)<|zo J (s3 J)<|ap<|dQ h J (fun h=>?_) (fun h=>?_)
 ·refine aq<|zo J (bE ek J J)<|aC ek J ax J (ht J) (ht J)<|ap<|am<|aa<|dP 4 J ?_;cases so h;exact f8 J ek J J J
 ·refine eK<|aq<|ci false bU 3<|zo J (aZ q5)<|ap<|ae<|aq<|zo J (bZ pi kr J J)<|zo J (bE bV J J)<|zo J (jL dp J)<|zo J (bj hI)<|ap<|av<|aY (k:=14) J fun hN=>bO ?_;refine aM (xV (Z:=fun ls i cols l c x=>(p.Cols.drop i=ls)∧kK at1 ls cols x=some R) (Of:=fun _ i cols l c x=>[cr bU 3 l c cols,bx bN 55 b x]) (Gf:=fun _ i cols l c x=>[(1,(fC aP zS H3 (fun(x:Int)=>at1 x))),(4,tV (aD b 0)),(5,n6 l c cols),(14,lW p.Cols),(15,jt p.Cols),(16,cd (i:Int))]) (fun i cols l c x h=>?_) (fun e tl ih i cols l c x h=>?_) p.Cols 0 mP none 0 vZ ⟨J,h⟩) (bh J)
  ·obtain⟨hx,h⟩:=h
   refine au<|aq<|zo J (fM J J)<|ap<|ae<|bt (ht J) (du hx)<|bn ?_;refine ac (ac (aG ?_));refine an<|aq<|aA rfl<|jI<|nA 5 rfl<|nA 31 rfl<|zo rfl (cJ (y:=(⟨(2:Int),cols⟩:bp)) ek BL gI (⟨_,_,_,_,_,J,l0,J,hI,⟨_,_,_,_,_,J,uF,J,(uC (ht J)),J⟩⟩))<|bT<|aC ek J ax J (ht J) (ht J)<|ap<|am<|dP 4 J<|bw ?_;cases so h;exact f8 J ek J J J
  ·obtain⟨hx,h⟩:=h
   refine au<|aq<|zo J (fM J J)<|ap<|ae<|br (ht J) (dn hx)<|eK<|ae<|av<|aq<|zo J (j8 dp bJ J J J (dB hx))<|zo J (bE bJ J J)<|bu J<|ap<|aq<|aA J<|aA J<|bP h fun r q_r h=>?_;refine zo J (gz (args:=(fun(x:Int)=>[tD bU x])) (res:=(fun(x:Int)=>tD bU x)) (f:=(fun(x:Int)=>at1 x)) (x:=((e):Int)) (ht J) q_r ⟨(ht J),be⟩)<|bu J<|ap<|ae<|aq<|aA J<|zo J (fH (ht J) hI)<|ap<|dQ h J (fun h=>?_) (fun h=>?_)
   ·refine aq<|zo J (cJ (y:=KG) ek BL gI (⟨_,_,_,_,_,J,l0,J,hI,J⟩))<|bT<|aC ek J ax J (ht J) (ht J)<|ap<|am ?_;refine aa (aF (aa (aa (aF (aa ?_)))));refine dP 4 J<|bw ?_;cases so h;exact f8 J ek J J J
   ·refine eK<|ak<|aA J<|aA J<|zo J (bF (r:=bU) (ys:=[r]) (xs:=[.tmp 27]) dp bJ J J J J J ⟨(ht J),be⟩)<|bP h fun cols1 q_cols1 h=>dj bJ J J J J dp J J (ht J) (ht J) q_cols1 fun l1 c1=>bu J<|aK<|al<|an<|ak<|zo rfl (lk (cQ hx hN) rfl)<|aA rfl<|aK ?_;exact aW (aM (ih (i+1) cols1 l1 c1 x ⟨cP hx,h⟩) (bh J))

theorem I9(s:(List bk))(f:(bk→Option Bool)){R:Int}(h:dJ s f=some R):bg aP 208 [fX (bc) s,(fC aP H5 lX (fun(x:bk)=>f x))] (cd R):=by
 refine bg.of Tryz.func208 J J J fun w0 S0=>aq<|zo J (fg)<|ap<|ae<|aq<|aA J<|zo J (jL qL J)<|zo J (bj hI)<|ap<|av<|aY (k:=6) J fun hN=>bO ?_;refine aM (eC (Z:=fun ls i=>(s.drop i=ls)∧cM f ls i=some R) (Of:=fun _ i=>[]) (Gf:=fun _ i=>[(0,fX (bc) s),(1,(fC aP H5 lX (fun(x:bk)=>f x))),(7,jt s),(8,cd (i:Int))]) (fun i h=>?_) (fun e tl ih i h=>?_) s 0 ⟨J,h⟩) (bh J)
 ·obtain⟨hx,h⟩:=h
  refine au<|aq<|zo J (fM J J)<|ap<|ae<|bt (ht J) (du hx)<|bn ?_;refine ac (ac (aG ?_));refine an<|aq<|zo rfl (fg)<|ap<|am ?_;cases so h;exact aH J J
 ·obtain⟨hx,h⟩:=h
  refine au<|aq<|zo J (fM J J)<|ap<|ae<|br (ht J) (dn hx)<|eK<|ae<|av<|aq<|aA J<|bu J<|ap<|aq<|aA J<|aA J<|aA J<|zo J (j8 qL gj J J J (dB hx)) ?_;refine zo J (bE gj J J)<|bP h fun r q_r h=>zo J (gz (args:=H5) (res:=yi) (f:=(fun(x:bk)=>f x)) (x:=((e):bk)) (ht J) q_r ⟨(ht J),be⟩)<|ap<|dQ h J (fun h=>?_) (fun h=>?_)
  ·refine aq<|aA J<|bu J<|ap<|am ?_;refine aF (aa (aa (aF (aa ?_))));cases so h;exact aH J J
  ·refine bC<|al<|an<|ak<|zo rfl (lk (cQ hx hN) rfl)<|aA rfl<|aK ?_;exact aW (aM (ih (i+1) ⟨cP hx,h⟩) (bh J))

theorem I8(c:Int)(e:bk){R:Bool}(h:d5 c e=some R):bg aP 209 [tD bc e,bB bU c] (ij R):=by
 refine bg.of Tryz.func209 J J J fun w0 S0=>aq<|zo J (mp J)<|zo J (fP)<|ap<|ae<|bP h fun t q_t h=>?_
 obtain⟨e1,h1t,h0t⟩:=og q_t
 have q_e1g:=fun hb=>(h1t hb).1
 obtain⟨t1,q_t1,h⟩:=bs h
 obtain⟨e2,h1t1,h0t1⟩:=og q_t1
 have q_e2g:=fun hb=>(h1t1 hb).1
 refine eN (ts:=[_,_,_,_,_,_,_,_,_,_,_,_,_,_,_,_,_,_,_,_,_,_]) mixed J J
  ⟨iD 2 J J J (bZ fv c9 J J),
  ⟨cR 4 0 J J J (bE mo J J),
  ⟨cR 5 1 J J J (jL jv J),
  ⟨cR 6 2 J J J (j6 J),
  ⟨cR 7 3 J J J (cN J),
  ⟨oe 2 8 4 J J J J (cL J J J J (fun hg=>bZ fv c9 J J)),
  ⟨gi 9 5 8 4 J J J J (cL J J J J (fun hg=>aL mo J J (aI J hg))),
  ⟨gi 10 6 8 4 J J J J (cL J J J J (fun hg=>cq jv dy J (aI J hg) hI (q_e1g hg))),
  ⟨gi 11 7 8 4 J J J J (cL J J J J (fun hg=>cB js J eI J (aI J hg))),
  ⟨gi 12 8 8 4 J J J J (cL J J J J (fun hg=>aL bJ J J (aI J hg))),
  ⟨gi 13 9 8 4 J J J J (cL J J J J (fun hg=>bv (aI J hg) hI)),
  ⟨fB 8 4 14 10 J J J J (dv (ht J) (fun hb=>(aI J hb)) (fun hb=>(h1t hb).2) h0t),
  ⟨cR 15 11 J J J (cN J),
  ⟨oe 2 16 12 J J J J (cL J J J J (fun hg=>bZ fv c9 J J)),
  ⟨gi 17 13 16 12 J J J J (cL J J J J (fun hg=>aL mo J J (aI J hg))),
  ⟨gi 18 14 16 12 J J J J (cL J J J J (fun hg=>cq jv dy J (aI J hg) hI (q_e2g hg))),
  ⟨gi 19 15 16 12 J J J J (cL J J J J (fun hg=>cB mC J iw J (aI J hg))),
  ⟨gi 20 16 16 12 J J J J (cL J J J J (fun hg=>aL bJ J J (aI J hg))),
  ⟨oe 1 16 12 J J J J (cL J J J J (fun hg=>bE bJ J J)),
  ⟨sb 21 17 22 18 16 12 J J J J J (cL J J J J (fun hg=>bv (aI J hg) (aI J hg))),
  ⟨fB 16 12 23 19 J J J J (dv (ht J) (fun hb=>(aI J hb)) (fun hb=>(h1t1 hb).2) h0t1),
  ⟨cR 24 20 J J J (yk J),
  be⟩⟩⟩⟩⟩⟩⟩⟩⟩⟩⟩⟩⟩⟩⟩⟩⟩⟩⟩⟩⟩⟩ ?_
 refine an<|am ?_;cases so h;exact aH J J

theorem Ja(l:(Option co))(c:Int){R:Int}(h:jo l c=some R):bg aP 207 [cd c,bB qN l] (cd R):=by
 refine bg.of Tryz.func207 J J J fun w0 S0=>aq<|zo J (mp J)<|zo J (fg)<|ap<|aq<|zo J (bE D2 J J)<|bP h fun p q_p h=>zo J (ec (ht J) q_p)<|zo J (bZ wg rM J J)<|zo J (bZ sU oA J J)<|zo J (bE Bc J J)<|zo J ((show bS _ _ _ _ ((fC aP H5 lX (fun(x:bk)=>(d5 c) x)))from hZ (cts:=[bB bU c]) (caps:=[.tmp 2]) NK ⟨(ht J),be⟩ (fun x y h=>I8 _ _ h)))<|bP h fun r q_r h=>zo J (aO NL (I9 _ _ q_r) ⟨(ht J),(ht J),be⟩)<|bu J<|ap<|am ?_;cases so h;exact aH J J

theorem Jr(l:(Option co)){R:bp}(h:iQ l=some R):bg aP 147 [tD qN l] (tD bN R):=by
 refine bg.of Tryz.func147 J J J fun w0 S0=>aq<|zo J (mp J)<|aX (r:=bN) (x:=vZ) ek (fun _=>gI _) J fun b=>ap<|aq<|zo J (bE D2 J J)<|bP h fun p q_p h=>zo J (ec (ht J) q_p)<|zo J (bZ qj oc J J)<|zo J (bE ek J J)<|zo J ((show bS _ _ _ _ ((fC aP zS H3 (fun(x:Int)=>(jo l) x)))from hZ (cts:=[bB qN l]) (caps:=[.tmp 1]) NM ⟨(ht J),be⟩ (fun x y h=>Ja _ _ h)))<|bP h fun r q_r h=>zo J (aO Kr (Ew _ _ q_r) ⟨(ht J),(ht J),be⟩)<|aC ek J ax J (ht J) (ht J)<|aT 2 J<|ap<|am ?_;cases so h;exact f8 J ek J J J

theorem I7(l:(Option co))(c:Int){R:Int}(h:kD l c=some R):bg aP 210 [cd c,bB qN l] (cd R):=by
 refine bg.of Tryz.func210 J J J fun w0 S0=>aq<|zo J (fg)<|ap<|aq<|zo J (bE D2 J J)<|bP h fun p q_p h=>zo J (ec (ht J) q_p)<|zo J (bZ wg rM J J)<|zo J (bZ lq ff J J)<|zo J (bE bV J J)<|aA J<|bP h fun r q_r h=>zo J (aO Kt (Ey _ _ q_r) ⟨(ht J),(ht J),be⟩)<|bu J<|ap<|am ?_;cases so h;exact aH J J

theorem AC(l:(Option co)){R:bp}(h:dx l=some R):bg aP 148 [tD qN l] (tD bN R):=by
 refine bg.of Tryz.func148 J J J fun w0 S0=>aq<|zo J (mp J)<|aX (r:=bN) (x:=vZ) ek (fun _=>gI _) J fun b=>ap<|aq<|zo J (bE D2 J J)<|bP h fun p q_p h=>zo J (ec (ht J) q_p)<|zo J (bZ qj oc J J)<|zo J (bE ek J J)<|zo J ((show bS _ _ _ _ ((fC aP zS H3 (fun(x:Int)=>(kD l) x)))from hZ (cts:=[bB qN l]) (caps:=[.tmp 1]) NJ ⟨(ht J),be⟩ (fun x y h=>I7 _ _ h)))<|bP h fun r q_r h=>zo J (aO Kr (Ew _ _ q_r) ⟨(ht J),(ht J),be⟩)<|aC ek J ax J (ht J) (ht J)<|aT 2 J<|ap<|am ?_;cases so h;exact f8 J ek J J J

theorem wl(l:(Option co)){R:bp}(h:di l=some R):bg aP 149 [tD qN l] (tD bN R):=by
 refine bg.of Tryz.func149 J J J fun w0 S0=>aq<|aX (r:=bN) (x:=vZ) ek (fun _=>gI _) J fun b=>ap<|aq<|aA J<|bP h fun p q_p h=>zo J (ec (ht J) q_p)<|zo J (bZ qj oc J J)<|zo J (bE ek J J)<|aC ek J ax J (ht J) (ht J)<|aT 2 J<|ap<|am ?_;cases so h;exact f8 J ek J J J

theorem LA{R:(List (Int×((Option co)→Option bp)))}(h:nv=some R):bg aP 75 [] (HU (fun y:((Option co)→Option bp)=>yo aP zR zP (fun(x:(Option co))=>y x)) zQ R):=by
 refine bg.of Tryz.func75 J J J fun w0 S0=>aq<|zo J (aZ (show ay _ _ (.const (.map none)) (tV (.map none))from fun _ _ _=>J))<|ap<|aq<|xO (G2 (fun y:((Option co)→Option bp)=>yo aP zR zP (fun(x:(Option co))=>y x))) zQ J fun b=>fV (γ:=(fun y:((Option co)→Option bp)=>yo aP zR zP (fun(x:(Option co))=>y x))) (y:=kJ) vI (ft k7) (ht J) (nX hI) (oj (Ar N9 fun x y h=>Ju _ h)) fun os=>fV (γ:=(fun y:((Option co)→Option bp)=>yo aP zR zP (fun(x:(Option co))=>y x))) (y:=ke) vI (ft k7) (ht J) (nX hI) (oj (Ar N8 fun x y h=>Jt _ h)) fun os1=>fV (γ:=(fun y:((Option co)→Option bp)=>yo aP zR zP (fun(x:(Option co))=>y x))) (y:=kc) vI (ft k7) (ht J) (nX hI) (oj (Ar N7 fun x y h=>Js _ h)) fun os2=>fV (γ:=(fun y:((Option co)→Option bp)=>yo aP zR zP (fun(x:(Option co))=>y x))) (y:=iQ) vI (ft k7) (ht J) (nX hI) (oj (Ar N6 fun x y h=>Jr _ h)) fun os3=>fV (γ:=(fun y:((Option co)→Option bp)=>yo aP zR zP (fun(x:(Option co))=>y x))) (y:=dx) vI (ft k7) (ht J) (nX hI) (oj (Ar HA fun x y h=>AC _ h)) fun os4=>fV (γ:=(fun y:((Option co)→Option bp)=>yo aP zR zP (fun(x:(Option co))=>y x))) (y:=dx) vI (ft k7) (ht J) (nX hI) (oj (Ar HA fun x y h=>AC _ h)) fun os5=>fV (γ:=(fun y:((Option co)→Option bp)=>yo aP zR zP (fun(x:(Option co))=>y x))) (y:=dx) vI (ft k7) (ht J) (nX hI) (oj (Ar HA fun x y h=>AC _ h)) fun os6=>fV (γ:=(fun y:((Option co)→Option bp)=>yo aP zR zP (fun(x:(Option co))=>y x))) (y:=di) vI (ft k7) (ht J) (nX hI) (oj (Ar EJ fun x y h=>wl _ h)) fun os7=>fV (γ:=(fun y:((Option co)→Option bp)=>yo aP zR zP (fun(x:(Option co))=>y x))) (y:=di) vI (ft k7) (ht J) (nX hI) (oj (Ar EJ fun x y h=>wl _ h)) fun os8=>fV (γ:=(fun y:((Option co)→Option bp)=>yo aP zR zP (fun(x:(Option co))=>y x))) (y:=di) vI (ft k7) (ht J) (nX hI) (oj (Ar EJ fun x y h=>wl _ h)) fun os9=>fV (γ:=(fun y:((Option co)→Option bp)=>yo aP zR zP (fun(x:(Option co))=>y x))) (y:=di) vI (ft k7) (ht J) (nX hI) (oj (Ar EJ fun x y h=>wl _ h)) fun os10=>aA J<|bu J<|ap ?_;refine am<|vD 0 J ?_;cases so h;exact aH J J

end Go.Proofs.YtmogpgcfognefaaGreatDoor

