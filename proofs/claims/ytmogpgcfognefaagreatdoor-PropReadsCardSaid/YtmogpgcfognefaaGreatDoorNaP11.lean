/- cG of this claim: P11. -/
import Derived.Test.YtmogpgcfognefaaGreatDoorNaT
import Derived.Test.YtmogpgcfognefaaGreatDoorNaP10
set_option linter.all false
namespace Go.Proofs.YtmogpgcfognefaaGreatDoor
open Go
set_option maxRecDepth 100000

theorem I2(l:(List cT))(most:Int){R:(List cT)}(h:jY l most=some R):fc aP 44 [fE (bY) l,ce most] false bY 31 R:=by
 refine fc.of Tryz.func44 J J J fun w0 S0=>au<|cm false bY 31<|zo J (ba q6)<|ap<|au<|fu (r:=bY) (ys:=([]:List cT)) (xs:=[]) lP io J J J J J trivial J fun l1 c=>aA J<|aA J<|zo J (jk lP J)<|aA J<|zo J (lL (ht J) (ht J))<|bO h fun y q_y h=>zo J (jX lP io J (ht J) (ht J) q_y)<|bO h fun x q_x h=>dk io J J J J lP J J (ht J) (ht J) q_x fun l2 c1=>bv J<|ap<|am ?_;cases so h;exact gy J J
theorem AX(p:cZ){R:cZ}(h:rF p=some R):bg aP 14 [tD cb p] (tD cb R):=by
 refine bg.of Tryz.func14 J J J fun w0 S0=>au<|zo J (ms J)<|aZ (r:=cb) (x:=uE) lg (fun _=>oQ _) J fun b=>ap<|au<|zo J (cc iF eo J J)<|zo J (bC oM J J)<|bO h fun r q_r h=>jb PX (I2 _ _ q_r) ⟨(ht J),hI,aY⟩ J fun l c=>zo J (cY (y:=oe (⟨r⟩:cZ) (ai l c r.length)) lg LD y9 (⟨_,_,_,_,_,J,BB,J,(zy (ht J)),J⟩))<|cm false bY 31<|aZ (r:=m2) (x:=oe uE (ai none 0 (([]:List cT).length))) lg y9 J fun b1=>dV lg J (kl J) J (ht J) (ht J)<|bM<|rN<|ap<|ae<|au ?_;refine zo J (eY 0 iF J J J)<|zo J (dw oM vF (.head _) J (ht J))<|zo J (ee lP (.tail _ (.head _)) (ht J))<|zo J (bj hI)<|ap<|av<|gx (.tail _ (.head _)) fun hN=>bK<|dM<|dM<|kz ?_;refine aM (jd (Z:=fun ls i out=>(r.drop i=ls)∧mH ls i out=some R) (Of:=fun _ i out=>[bx cb 37 b uE,bx m2 37 b1 (oe out (ai l c out.Frags.length)),cu bY 31 l c out.Frags]) (Gf:=fun _ i out=>[(2,tV (aD b 0)),(3,tV (aD b1 0)),(11,oc l c r),(12,je r),(13,ce (i:Int))]) (fun i out h=>?_) (fun e tl ih i out h=>?_) r 0 ({(⟨r⟩:cZ)with Frags:=r}:cZ) ⟨J,h⟩) (bh J)
 ·obtain⟨hx,h⟩:=h
  refine aq<|au<|zo J (fx J J)<|ap<|ae<|br (ht J) (dp hx)<|bk ?_;refine ac (ac (aG ?_));refine an<|au<|jJ<|kx<|zo rfl (oE (q:=cb) (y:=out) lg J J J J (.tail _ (.tail _ (.head _))) (fun _ _ _ ho h=>yb (iE ho (.head _)) h) (ht J))<|bM<|aC lg J aw J (ht J) (ht J)<|aU 2 J<|ap<|am<|bl<|bl ?_;cases so h;exact fP J lg J J J
 ·obtain⟨hx,h⟩:=h
  refine aq<|au<|zo J (fx J J)<|ap<|ae<|bq (ht J) (dh hx)<|eK<|ae<|av<|au<|aA J<|bO h fun e1 q_e1 h=>zo J (lE lP io (.tail _ (.tail _ (.head _))) (ht J) (ht J) q_e1 (A4 hx))<|bO h fun e2 q_e2 h=>zo J (dJ (r:=bY) (i:=(i:Int)) (foff:=0) io J J cH J (.tail _ (.tail _ (.head _))) q_e2 (ht J))<|aZ (r:=bY) (x:=yC) io (fun _=>nj _) J fun b2=>bv J<|aC io J aw J (ht J) (ht J)<|ap ?_;refine ae<|bO h fun r1 q_r1 h=>bO h fun r2 q_r2 h=>?_
  refine nJ 7 (ts:=[tV (aD b2 0),fE (aE) e2.Nodes,fE (aE) r1,tV (aD b2 3),lx e2.Cols,lx r2,tV (aD b2 0)]) mixed J J J
   ⟨ij 5 J J J (eY 0 nd J J J),
   ⟨cO 18 0 J J J (aT rW J J iN (.head _) (ht J)),
   ⟨cO 19 1 J J J (aL Qh (L9 _ q_r1) ⟨(ht J),aY⟩),
   ⟨ij 5 J J J (eY 3 u5 J J J),
   ⟨cO 21 3 J J J (aT bT J J pF (.head _) (ht J)),
   ⟨cO 22 4 J J J (aL Kh (AV _ _ q_r2) ⟨(ht J),hI,aY⟩),
   ⟨ij 5 J J J (eY 0 nd J J J),
   aY⟩⟩⟩⟩⟩⟩⟩ ?_
  refine aC rW J uL J (ht J) (ht J)<|zo J (eY 3 u5 J J J)<|aC bT J FN J (ht J) (ht J)<|ap<|ak<|zo J (eY 0 iF J J J)<|zo J (dw oM vF (.tail _ (.tail _ (.head _))) J (ht J))<|aA J<|zo J (aT io J J cH (.head _) (ht J))<|zo J (cw lP io (.tail _ (.tail _ (.tail _ (.head _)))) (ht J) (ht J) q_e2)<|eJ<|bO h fun st q_st h=>jI io J aw J q_e2 (so q_st) (ht J) (ht J)<|ig (fW (so q_st)) 27 J<|lH (O' :=[cu bY 31 l c st,bx bY 31 b2 (cT.mk r1 e2.At e2.Way r2),bx cb 37 b uE,bx m2 37 b1 (oe out (ai l c st.length))]) (by rw [fW (so q_st)])<|aK<|al<|an<|ak<|zo rfl (lb (cL hx hN) rfl)<|aA rfl<|aK<|bf ?_;refine bl<|aI<|aI ?_;exact aW (aM (ih (i+1) ({out with Frags:=st}:cZ) ⟨cK hx,h⟩) (bh J))

theorem Nz(p:bA)(y:cZ){R:Bool}(h:nP p y=some R):bg aP 4 [tD bF p,tD cb y] (gU R):=by
 refine bg.of Tryz.func4 J J J fun w0 S0=>au<|zo J (ms J)<|zo J (ms J)<|zo J (fC)<|ap<|ae<|au<|bO h fun r q_r h=>zo J (aL cb8 (Nq q_r) trivial)<|zo J (d9 (ht J))<|ap<|dN h J (fun h=>?_) (fun h=>?_)
 ·refine au<|zo J (fC)<|ap<|am<|aa ?_;cases so h;exact aH J J
 ·refine eK<|ae<|bO h fun r1 q_r1 h=>bO h fun r2 q_r2 h=>?_
  refine CJ 6 [tc (tD bF p),tc (tD bF r1),tc (tD cb y),tc (tD cb r2),([4],fun s=>tV (aD ((s.getD 0 rx).h 0).2 0)),([5],fun s=>tV (aD ((s.getD 0 rx).h 0).2 0))] [false,false,false,false,true,true] [([],fun _=>[]),([4],fun sg=>[bx bF 24 ((sg 4).h 0).2 qO]),([5],fun sg=>[bx cb 37 ((sg 5).h 0).2 uE]),([4,5],fun sg=>[bx cb 37 ((sg 5).h 0).2 uE,bx bF 24 ((sg 4).h 0).2 qO])] (fun _=>J) mixed J J J J
   ⟨⟨[⟨2,fun _=>bz bF p,none⟩],_,[[],[4],[5],[4,5]],J,⟨(fun _=>J),aY⟩,J,J,J,J,J,⟨fun sg=>ah J (bC lq J J),fun sg=>ah J (bC lq J J),fun sg=>ah J (bC lq J J),fun sg=>ah J (bC lq J J),aY⟩⟩,
   ⟨⟨[⟨26,fun _=>tD bF p,some 0⟩],_,[[],[4],[5],[4,5]],J,⟨(fun _=>J),aY⟩,J,J,J,J,J,⟨fun sg=>ah J (aL O7 (EG _ q_r1) ⟨(ht J),aY⟩),fun sg=>ah J (aL O7 (EG _ q_r1) ⟨(ht J),aY⟩),fun sg=>ah J (aL O7 (EG _ q_r1) ⟨(ht J),aY⟩),fun sg=>ah J (aL O7 (EG _ q_r1) ⟨(ht J),aY⟩),aY⟩⟩,
   ⟨⟨[⟨3,fun _=>bz cb y,none⟩],_,[[],[4],[5],[4,5]],J,⟨(fun _=>J),aY⟩,J,J,J,J,J,⟨fun sg=>ah J (bC lg J J),fun sg=>ah J (bC lg J J),fun sg=>ah J (bC lg J J),fun sg=>ah J (bC lg J J),aY⟩⟩,
   ⟨⟨[⟨28,fun _=>tD cb y,some 2⟩],_,[[],[4],[5],[4,5]],J,⟨(fun _=>J),aY⟩,J,J,J,J,J,⟨fun sg=>ah J (aL Ki (AX _ q_r2) ⟨(ht J),aY⟩),fun sg=>ah J (aL Ki (AX _ q_r2) ⟨(ht J),aY⟩),fun sg=>ah J (aL Ki (AX _ q_r2) ⟨(ht J),aY⟩),fun sg=>ah J (aL Ki (AX _ q_r2) ⟨(ht J),aY⟩),aY⟩⟩,
   ⟨⟨[],_,[([],[4]),([5],[4,5])],J,aY,J,J,J,J,J,⟨fun sg=>dD J (lm (r:=bF) (x:=qO) lq (fun _=>kO _)),fun sg=>dD J (EffOK.post_imp (post:=fun x__=>(fun(sg:Nat→OI)=>[bx bF 24 ((sg 4).h 0).2 qO,bx cb 37 ((sg 5).h 0).2 uE]) (CN sg 4 x__)) (lm (r:=bF) (x:=qO) lq (fun _=>kO _)) (fun h=>dd.pick [1,0] J h)),aY⟩⟩,
   ⟨⟨[],_,[([],[5]),([4],[4,5])],J,aY,J,J,J,J,J,⟨fun sg=>dD J (lm (r:=cb) (x:=uE) lg (fun _=>oQ _)),fun sg=>dD J (lm (r:=cb) (x:=uE) lg (fun _=>oQ _)),aY⟩⟩,
   aY⟩⟩⟩⟩⟩⟩ (fun sg=>?_)
  refine(show RG _ _ _ _ [bx cb 37 ((sg 5).h 0).2 uE,bx bF 24 ((sg 4).h 0).2 qO] _ from ?_);refine bM<|aC lq J aw J (ht J) (ht J)<|aU 5 J<|aC lg J aw J (ht J) (ht J)<|aU 6 J<|ap<|ae<|au<|zo J (bC lg J J)<|zo J (bC lq J J)<|bO h fun r3 q_r3 h=>zo J (aL OM (HK _ _ q_r3) ⟨(ht J),(ht J),aY⟩)<|aA J<|zo J (lA J J)<|zo J (lA J J)<|zo J (lA J J)<|bv J<|bv J<|bv J<|ap<|ae ?_;refine ak<|aA J<|zo J (uz J)<|ap<|dN h J (fun h=>?_) (fun h=>?_)
  ·refine au<|zo J (fC)<|ap<|am<|aa ?_;cases so h;exact aH J J
  ·refine eK<|au<|vO (fun y:Bool=>gU y) BY J fun b=>bv J<|ap<|ae<|au<|zo J (cc iF eo J J)<|zo J (bC oM J J)<|zo J (jk lP J)<|zo J (bj hI)<|ap<|av<|aX (k:=41) J fun hN=>bK ?_;refine aM (jd (Z:=fun ls i met=>(r2.Frags.drop i=ls)∧eC r1 r2 ls i met=some R) (Of:=fun _ i met=>[xH (fun y:Bool=>gU y) BY b met]) (Gf:=fun _ i met=>[(5,bz bF r1),(6,bz cb r2),(10,tV (lj b)),(42,je r2.Frags),(43,ce (i:Int))]) (fun i met h=>?_) (fun e tl ih i met h=>?_) r2.Frags 0 ([]:List ((Int×Int)×Bool)) ⟨J,h⟩) (bh J)
   ·obtain⟨hx,h⟩:=h
    refine aq<|au<|zo J (fx J J)<|ap<|ae<|br (ht J) (dp hx)<|bk ?_;refine ac (ac (aG ?_));refine an<|au<|zo rfl (fC)<|ap<|am<|bl ?_;cases so h;exact aH J J
   ·obtain⟨hx,h⟩:=h
    refine aq<|au<|zo J (fx J J)<|ap<|ae<|bq (ht J) (dh hx)<|eK<|ae<|av<|au<|aA J<|bv J<|ap<|au<|zo J (bC lg J J)<|aA J<|bO h fun r4 q_r4 h=>zo J (aL Mj (DE _ _ q_r4) ⟨(ht J),(ht J),aY⟩) ?_;refine aA J<|zo J (lA J J)<|zo J (lA J J)<|zo J (lA J J)<|bv J<|bv J<|bv J<|ap<|ae<|au<|aA J<|aA J<|zo J (cc iF eo J J)<|zo J (bC oM J J)<|zo J (jk lP J)<|zo J (gE (ht J) hI)<|zo J (fx J J)<|zo J (AC Fl (ht J) (ht J))<|ap<|dN h J (fun h=>?_) (fun h=>?_)
    ·refine au<|zo J (fC)<|ap<|am ?_;refine aa (aB (aa (aa (aB (aa ?_)))));refine bl ?_;cases so h;exact aH J J
    ·refine eK<|ae<|au<|aA J<|aA J<|bO h fun t q_t h=>bE J J (fun hg=>cM J)<|bE J J (fun hg=>cM J)<|bE J J (fun hg=>jh (aJ J hg) (aJ J hg))<|bE J J (fun hg=>bj (aJ J hg))<|bw J J J J (fun hg=>cM J)<|bw J J J J (fun hg=>cM J)<|bw J J J J (fun hg=>cM J)<|bw J J J J (fun hg=>mg (r:=bW) (ys:=[r4.1,r4.2.1]) (xs:=[.tmp 68,.tmp 69]) sw bL J tg J J ⟨(aJ J hg),(aJ J hg),aY⟩)<|bw J J J J (fun hg=>xy (γ:=fun y:Bool=>gU y) (z:=false) Tryz.underlying58 (F7 sw kL bL J Gl) zv4 (fun S=>⟨_,J,(fun _=>J) S⟩) (.head _) (aJ J hg) (AJ (aJ J hg)))<|bE J J (fun hg=>jB (aJ J hg) (fun hb=>(aJ J (oO hg (m6 hb)))))<|bE J J (fun hg=>bj (aJ J hg)) ?_
     obtain⟨t1,h1t,h0t⟩:=og q_t
     have q_t1g:=fun hb=>(h1t hb).1
     refine bw J J J J (fun hg=>cc iF eo J J)<|bw J J J J (fun hg=>aO oM J J (aJ J hg))<|bw J J J J (fun hg=>cM J) ?_
     obtain⟨e1,h1t1,h0t1⟩:=Pf q_t1g
     have q_e1g:=fun hb=>(h1t1 hb).1
     refine bw J J J J (fun hg=>cr lP io J (aJ J hg) (aJ J hg) (q_e1g hg))<|bw J J J J (fun hg=>cB nd J iN J (aJ J hg))<|bw J J J J (fun hg=>aO rW J J (aJ J hg))<|bw J J J J (fun hg=>cM J) ?_
     obtain⟨e2,h1t1⟩:=IQ (fun hb=>(h1t1 hb).2)
     have q_e2g:=fun hb=>(h1t1 hb).1
     refine bw J J J J (fun hg=>cr mp eu J (aJ J hg) (aJ J hg) (q_e2g hg))<|bw J J J J (fun hg=>cB nc J gi J (aJ J hg))<|bw J J J J (fun hg=>aO bL J J (aJ J hg))<|bw J J J J (fun hg=>cM J)<|bw J J J J (fun hg=>dn (aJ J hg) (aJ J hg))<|bE J J (fun hg=>eN (aJ J hg) (fun hb=>(aJ J (oO hg (m6 hb)))) (fun hb=>(h1t1 (oO hg hb)).2) (fun hb=>h0t1 hg hb))<|zo J (dm (ht J) (fun hb=>(aJ J hb)) (fun hb=>(h1t hb).2) h0t)<|ap<|dN h J (fun h=>?_) (fun h=>?_)
     ·refine au<|zo J (fC)<|ap<|am ?_;refine aa (aB (aa (aa (aB (aa ?_)))));refine bl ?_;cases so h;exact aH J J
     ·refine eK<|au<|aA J<|aA J<|aA J<|zo J (mg (r:=bW) (ys:=[r4.1,r4.2.1]) (xs:=[.tmp 89,.tmp 90]) sw bL J tg J J ⟨(ht J),(ht J),aY⟩)<|E3 (γ:=fun y:Bool=>gU y) Tryz.underlying58 (F7 sw kL bL J Gl) (ht J) (AJ (ht J)) hB<|ap<|au<|zo J (bC lg J J)<|zo J (bC lq J J)<|aA J<|bO h fun r5 q_r5 h=>zo J (aL OH (HJ _ _ _ q_r5) ⟨(ht J),(ht J),(ht J),aY⟩)<|aA J<|zo J (lA J J)<|zo J (lA J J)<|bv J<|bv J<|aK ?_;refine an<|au<|zo rfl (cc iF eo rfl rfl)<|zo rfl (bC oM rfl rfl)<|aA rfl<|zo rfl (ka lP io rfl rfl rfl (dy hx))<|zo rfl (cc nd iN rfl rfl)<|zo rfl (bC rW rfl rfl)<|bO h fun r6 q_r6 h=>zo J (aL Ok (HG _ q_r6) ⟨(ht J),aY⟩)<|aA J<|zo J (lA J J)<|zo J (lA J J)<|zo J (lA J J)<|bv J<|bv J<|bv J<|ap<|ae<|au<|aA J ?_;refine zo J (uz J)<|aA J<|cQ J J (fun hg=>cM J)<|cQ J J (fun hg=>dn (aJ J hg) hI)<|zo J (pr J J)<|aA J<|cQ J J (fun hg=>cM J)<|cQ J J (fun hg=>bS rQ (aJ J hg))<|cQ J J (fun hg=>cM J)<|cQ J J (fun hg=>bS pR (aJ J hg))<|cQ J J (fun hg=>dn (aJ J hg) (aJ J hg))<|zo J (pr J J)<|ap<|dN h J (fun h=>?_) (fun h=>?_)
      ·refine au<|zo J (fC)<|ap<|am ?_;refine aa (aB (aa (aa (aB (aa ?_)))));refine bl ?_;cases so h;exact aH J J
      ·refine eK<|au<|aA J<|zo J (jk rQ J)<|zo J (bj hI)<|ap<|av<|aX (k:=123) J fun hN1=>bK ?_;refine aM (eh (Z:=fun ls1 i1=>(r5.1.drop i1=ls1)∧fg (eC r1 r2 tl) i met r4 r6 ls1 i1=some R) (Of:=fun _ i1=>[xH (fun y:Bool=>gU y) BY b (fA met (k2 ([r4.1,r4.2.1])) true)]) (Gf:=fun _ i1=>[(5,bz bF r1),(6,bz cb r2),(10,tV (lj b)),(17,fE (gz) r6.1),(42,je r2.Frags),(43,ce (i:Int)),(123,fE (bP) r5.1),(124,je r5.1),(125,ce (i1:Int))]) (fun i1 h=>?_) (fun e3 tl1 ih1 i1 h=>?_) r5.1 0 ⟨J,h⟩) (bh J)
       ·obtain⟨hx1,h⟩:=h
        refine aq<|au<|zo J (fx J J)<|ap<|ae<|br (ht J) (dp hx1)<|bk ?_;refine ac (ac (aG ?_));refine al<|an<|ak<|zo rfl (lb (cL hx hN) rfl)<|aA rfl<|aK ?_;exact aW (aM (ih (i+1) (fA met (k2 ([r4.1,r4.2.1])) true) ⟨cK hx,h⟩) (bh J))
       ·obtain⟨hx1,h⟩:=h
        refine aq<|au<|zo J (fx J J)<|ap<|ae<|bq (ht J) (dh hx1)<|eK<|ae<|av<|au<|aA J<|zo J (ka rQ er J J J (dy hx1))<|zo J (bC er J J)<|aZ (r:=bP) (x:=wn) er (fun _=>gK _) J fun b1=>bv J<|aC er J aw J (ht J) (ht J)<|aU 21 J<|ap<|ae ?_;refine au<|zo J (cc lu fS J J)<|zo J (bC bL J J)<|zo J (kc J)<|zo J (cc nQ iM J J)<|zo J (bC bT J J)<|zo J (jk dr J)<|zo J (gZ (ht J) hI)<|zo J (AC Fl (ht J) (ht J))<|ap<|dN h J (fun h=>?_) (fun h=>?_)
        ·refine au<|zo J (fC)<|ap<|am ?_;refine aa (aB (aa (aa (aB (aB (aa (aa (aB (aa ?_)))))))));refine bl ?_;cases so h;exact aH J J
        ·refine eK<|au<|zo J (cc nQ iM J J)<|zo J (bC bT J J)<|zo J (jk dr J)<|zo J (bj hI)<|ap<|av<|aX (k:=139) J fun hN2=>bK ?_;refine aM (eh (Z:=fun ls2 i2=>(e3.Cols.drop i2=ls2)∧iw r6 (fg (eC r1 r2 tl) i met r4 r6 tl1) i1 ls2=some R) (Of:=fun _ i2=>[xH (fun y:Bool=>gU y) BY b (fA met (k2 ([r4.1,r4.2.1])) true)]) (Gf:=fun _ i2=>[(5,bz bF r1),(6,bz cb r2),(10,tV (lj b)),(17,fE (gz) r6.1),(20,ce (i1:Int)),(42,je r2.Frags),(43,ce (i:Int)),(123,fE (bP) r5.1),(124,je r5.1),(125,ce (i1:Int)),(139,lx e3.Cols),(140,je e3.Cols),(141,ce (i2:Int))]) (fun i2 h=>?_) (fun e4 tl2 ih2 i2 h=>?_) e3.Cols 0 ⟨J,h⟩) (bh J)
         ·obtain⟨hx2,h⟩:=h
          refine aq<|au<|zo J (fx J J)<|ap<|ae<|br (ht J) (dp hx2)<|bk ?_;refine ac (ac (aG ?_));refine al<|an<|ak<|zo rfl (lb (cL hx1 hN1) rfl)<|aA rfl<|aK ?_;exact aW (aM (ih1 (i1+1) ⟨cK hx1,h⟩) (bh J))
         ·obtain⟨hx2,h⟩:=h
          refine aq<|au<|zo J (fx J J)<|ap<|ae<|bq (ht J) (dh hx2)<|eK<|ae<|av<|au<|zo J (ka dr bL J J J (dy hx2))<|zo J (bC bL J J)<|bv J<|ap<|au<|aA J<|zo J (fz (ht J) hI)<|aA J ?_;refine bO h fun t2 q_t2 h=>cQ J J (fun hg=>cM J)<|cQ J J (fun hg=>cM J)<|cQ J J (fun hg=>cM J) ?_
          obtain⟨e5,h1t2,h0t2⟩:=og q_t2
          have q_e5g:=fun hb=>(h1t2 hb).1
          refine cQ J J (fun hg=>cr pR bT J (aJ J hg) (aJ J hg) (q_e5g hg))<|cQ J J (fun hg=>aO bT J J (aJ J hg))<|cQ J J (fun hg=>bS dr (aJ J hg))<|cQ J J (fun hg=>ek (aJ J hg) (aJ J hg))<|zo J (eN (ht J) (fun hb=>(aJ J (m6 hb))) (fun hb=>(h1t2 hb).2) h0t2)<|ap<|dN h J (fun h=>?_) (fun h=>?_)
          ·refine au<|zo J (fC)<|ap<|am ?_;refine aB (aa (aa (aB (aB (aa (aa (aB (aB (aa (aa (aB (aa ?_))))))))))));refine bl ?_;cases so h;exact aH J J
          ·refine bD<|al<|an<|ak<|zo rfl (lb (cL hx2 hN2) rfl)<|aA rfl<|aK ?_;exact aW (aM (ih2 (i2+1) ⟨cK hx2,h⟩) (bh J))

end Go.Proofs.YtmogpgcfognefaaGreatDoor

