/- cT of this claim: P24. -/
import Derived.Test.YtfhhakidodmdfaaGreatDoorJeT
import Derived.Test.YtfhhakidodmdfaaGreatDoorJeP23
set_option linter.all false
namespace Go.Proofs.YtfhhakidodmdfaaGreatDoor
open Go
set_option maxRecDepth 100000

theorem XV(s1:(List (List ac)))(s2:(List (List ac)))(eq:((List ac)→(List ac)→Option Bool)){R:Bool}(h:dY s1 s2 eq=some R):aV aR 92 [bZ (cV) s1,bZ (cV) s2,(dX aR DL nq (fun(x:(List ac)×(List ac))=>eq x.1 x.2))] (iz R):=by
 refine aV.of Tryz.func92 J J J fun w0 S0=>aw<|zo J (jS)<|au<|ah<|aw<|aF J<|zo J (iJ ja J)<|aF J<|zo J (iJ ja J)<|zo J (fM (ht J) (ht J))<|au<|dd h J (fun h=>?_) (fun h=>?_)
 ·refine aw<|zo J (jS)<|au<|am<|ae ?_;cases so h;exact aL J J
 ·refine dU<|ah<|aw<|aF J<|zo J (iJ ja J)<|zo J (bG hI)<|au<|aA<|bc (k:=15) J fun hN=>bJ ?_;refine aT (eI (Z:=fun ls i=>(s1.drop i=ls)∧bX s2 eq ls i=some R) (Of:=fun _ i=>[]) (Gf:=fun _ i=>[(1,bZ (cV) s2),(2,(dX aR DL nq (fun(x:(List ac)×(List ac))=>eq x.1 x.2))),(15,bZ (cV) s1),(16,jr s1),(17,bI (i:Int))]) (fun i h=>?_) (fun e tl ih i h=>?_) s1 0 ⟨J,h⟩) (bt J)
  ·obtain⟨hx,h⟩:=h
   refine aB<|aw<|zo J (fL J J)<|au<|ah<|bz (ht J) (du hx)<|bu ?_;refine ai (ai (aN ?_));refine av<|aw<|zo rfl (jS)<|au<|am ?_;cases so h;exact aL J J
  ·obtain⟨hx,h⟩:=h
   refine aB<|aw<|zo J (fL J J)<|au<|ah<|bw (ht J) (dl hx)<|dU<|ah<|aA<|aw<|aF J<|zo J (ml ja dL J J J (cX hx))<|zo J (bC dL J J)<|bo J<|bo J<|au<|aw<|aF J ?_;refine aF J<|bB h fun e1 q_e1 h=>zo J (ml ja dL J J J q_e1)<|zo J (bC dL J J)<|bo J<|au<|aw<|aF J<|aF J<|aF J<|bB h fun r q_r h=>zo J (gS (args:=S7) (res:=Hx) (f:=(fun(x:(List ac)×(List ac))=>eq x.1 x.2)) (x:=((e,e1):(List ac)×(List ac))) (ht J) q_r ⟨(ht J),(ht J),aS⟩)<|zo J (gg (ht J))<|au<|dd h J (fun h=>?_) (fun h=>?_)
   ·refine aw<|zo J (jS)<|au<|am ?_;refine aD (ae (ae (aD (ae ?_))));cases so h;exact aL J J
   ·refine bA<|ap<|av<|aq<|zo rfl (lZ (cL hx hN) rfl)<|aF rfl<|aQ ?_;exact bg (aT (ih (i+1) ⟨cK hx,h⟩) (bt J))

theorem X5(a1:(List (List ac)))(b:(List (List ac))){R:Bool}(h:Ax a1 b=some R):aV aR 36 [bZ (cV) a1,bZ (cV) b] (iz R):=by
 refine aV.of Tryz.func36 J J J fun w0 S0=>aw<|zo J (jS)<|au<|aw<|aF J<|aF J<|bB h fun r q_r h=>zo J (aE aca (XV _ _ _ q_r) ⟨(ht J),(ht J),(y9 Yz fun x y h=>MK _ _ h),aS⟩)<|bo J<|au<|am ?_;cases so h;exact aL J J

theorem ZH(l:bE)(b:cB)(n:Int){R:Bool}(h:nv l b n=some R):aV aR 7 [tD cD l,tD i6 b,bI n] (iz R):=by
 refine aV.of Tryz.func7 J J J fun w0 S0=>aw<|zo J (js J)<|zo J (js J)<|zo J (jS)<|au<|ah<|aw<|bB h fun r q_r h=>zo J (aE acz (Yn q_r) trivial)<|zo J (gg (ht J))<|au<|dd h J (fun h=>?_) (fun h=>?_)
 ·refine aw<|zo J (jS)<|au<|am<|ae ?_;cases so h;exact aL J J
 ·refine dU<|ah<|aw<|zo J (bC DZ J J)<|bB h fun r1 q_r1 h=>zo J (aE acy (Ym _ q_r1) ⟨(ht J),aS⟩)<|aF J<|bB h fun t q_t h=>gY J J (fun hg=>bC oX J J)<|gY J J (fun hg=>bC DZ J J) ?_
  obtain⟨r2,h1t,h0t⟩:=og q_t
  have q_r2g:=fun hb=>(h1t hb).1
  refine gY J J (fun hg=>aE acx (Yl _ _ (q_r2g hg)) ⟨(bP J hg),(bP J hg),aS⟩)<|zo J (lk (ht J) (fun hb=>(bP J (AL hb))) (fun hb=>(h1t hb).2) h0t)<|au<|dd h J (fun h=>?_) (fun h=>?_)
  ·refine aw<|zo J (jS)<|au<|am<|ae ?_;cases so h;exact aL J J
  ·refine dU<|aw<|zo J (bC oX J J)<|zo J (bC DZ J J)<|bB h fun r3 q_r3 h=>zo J (aE YE (MP _ _ q_r3) ⟨(ht J),(ht J),aS⟩)<|aF J<|zo J (gV J J)<|zo J (gV J J)<|bo J<|bo J<|au<|ah<|aw<|aF J<|zo J (nr J)<|aF J<|gY J J (fun hg=>dv J)<|gY J J (fun hg=>dw (bP J hg) hI)<|zo J (yE J J) ?_;refine au<|dd h J (fun h=>?_) (fun h=>?_)
   ·refine aw<|aF J<|zo J (iJ ja J)<|zo J (nr J)<|bo J<|au<|am<|ae ?_;cases so h;exact aL J J
   ·refine dU<|aw<|wc Jd kP J fun b1=>bo J<|au<|ah<|aw<|zo J (bC oX J J)<|bB h fun r4 q_r4 h=>il act (Uf _ q_r4) ⟨(ht J),aS⟩ J fun l1 c=>zo J (i9 gF (.head _) (ht J))<|zo J (bG hI)<|au<|aA<|mR (.head _) fun hN=>bJ ?_;refine aT (tE (Z:=fun ls i scans os=>(r4.drop i=ls)∧jj l b n r3 ls scans=some R) (Of:=fun _ i scans os=>[eH bT 3 l1 c r4,ki Jd kP b1 none os scans]) (Gf:=fun _ i scans os=>[(2,bI n),(3,bM cD l),(4,bM i6 b),(7,bZ (cV) r3.1),(8,bI r3.2),(9,tV (oA b1)),(45,qS l1 c r4),(46,jr r4),(47,bI (i:Int))]) (fun i scans os h=>?_) (fun e tl ih i scans os h=>?_) r4 0 ([]:List (Int×Bool)) [] ⟨J,h⟩) (bt J)
    ·obtain⟨hx,h⟩:=h
     refine aB<|aw<|zo J (fL J J)<|au<|ah<|bz (ht J) (du hx)<|bu ?_;refine ai (ai (aN ?_));refine av<|aw<|bL true c9 32<|aY (r:=kK) (x:=lM (⟨[]⟩:cB) (aO none 0 (S3.length))) DZ O9 J fun b2=>au<|ah<|aw<|zo J (de ru pp J J)<|zo J (bC ro J J)<|zo J (iJ mj J)<|zo J (bG hI)<|au<|aA<|bc (k:=55) J fun hN1=>bJ<|ow<|oR<|gz<|gz<|ow ?_;refine aT (jq (Z:=fun ls1 i1 other l2 c1=>(b.Tables.drop i1=ls1)∧co l n r3 scans ls1 i1 other=some R) (Of:=fun _ i1 other l2 c1=>[ki Jd kP b1 none os scans,bx kK 27 b2 (lM other (aO l2 c1 other.Tables.length)),dS c9 32 l2 c1 other.Tables]) (Gf:=fun _ i1 other l2 c1=>[(2,bI n),(3,bM cD l),(7,bZ (cV) r3.1),(8,bI r3.2),(9,tV (oA b1)),(12,tV (aP b2 0)),(55,bZ (c9) b.Tables),(56,jr b.Tables),(57,bI (i1:Int))]) (fun i1 other l2 c1 h=>?_) (fun e1 tl1 ih1 i1 other l2 c1 h=>?_) b.Tables 0 ({(⟨[]⟩:cB)with Tables:=S3}:cB) none 0 ⟨J,h⟩) (bt J)
     ·obtain⟨hx1,h⟩:=h
      refine aB<|aw<|zo J (fL J J)<|au<|ah<|bz (ht J) (du hx1)<|bu ?_;refine ai (ai (aN ?_));refine av<|aw<|zo rfl (bC oX rfl rfl)<|fK<|zo rfl (zI (q:=i6) (y:=other) DZ J J J J (.tail _ (.tail _ (.head _))) (fun _ _ _ ho h=>Fe (De ho (.head _)) h) (ht J))<|bB h fun r5 q_r5 h=>zo J (aE YE (MP _ _ q_r5) ⟨(ht J),(ht J),aS⟩)<|aF J<|zo J (gV J J)<|zo J (gV J J)<|bo J<|bo J<|au<|aw<|aF J<|aF J<|zo J (dw (ht J) (ht J))<|aF J<|bB h fun t1 q_t1 h=>dK J J (fun hg=>dv J)<|dK J J (fun hg=>dv J) ?_
      obtain⟨r6,h1t1,h0t1⟩:=og q_t1
      have q_r6g:=fun hb=>(h1t1 hb).1
      refine dK J J (fun hg=>aE acs (X5 _ _ (q_r6g hg)) ⟨(bP J hg),(bP J hg),aS⟩)<|zo J (ff (ht J) (fun hb=>(bP J hb)) (fun hb=>(h1t1 hb).2) h0t1)<|bo J<|au<|am<|be<|be<|be ?_;cases so h;exact aL J J
     ·obtain⟨hx1,h⟩:=h
      refine aB<|aw<|zo J (fL J J)<|au<|ah<|bw (ht J) (dl hx1)<|dU<|ah ?_;refine Qm (Z:=fun other1 l3 c2=>la (co l n r3 scans tl1) i1 other1=some R) (Of:=fun other1 l3 c2=>[ki Jd kP b1 none os scans,bx kK 27 b2 (lM other1 (aO l3 c2 other1.Tables.length)),dS c9 32 l3 c2 other1.Tables]) (Gf:=fun other1 l3 c2=>[(2,bI n),(3,bM cD l),(7,bZ (cV) r3.1),(8,bI r3.2),(9,tV (oA b1)),(12,tV (aP b2 0)),(55,bZ (c9) b.Tables),(56,jr b.Tables),(57,bI (i1:Int))]) (fun other1 l3 c2 h=>?_) (fun K=>?_)
      ·skip
       refine av<|aq<|zo rfl (lZ (cL hx1 hN1) rfl)<|aF rfl<|aQ ?_;exact bg (aT (ih1 (i1+1) other1 l3 c2 ⟨cK hx1,h⟩) (bt J))
      ·skip
       refine aw<|aF J<|zo J (ml mj fN J J J (cX hx1))<|zo J (bC fN J J)<|bo J<|bo J<|au<|ah<|aw<|aF J<|aF J<|zo J (ED (γ:=fun y:Bool=>tD rB y) (z:=false) Tryz.underlying65 (dT kC) zv4 (fun S=>⟨_,J,(fun _=>J) S⟩) (.head _) (ht J) (nt (ht J)))<|zo J (gg (ht J))<|au<|dd h J (fun h=>?_) (fun h=>?_)
       ·refine aw<|zo J (kp 0 ru J J J)<|zo J (BN ro CJ (.tail _ (.head _)) (.tail _ (.tail _ (.head _))) J (ht J))<|zo J (aU (r:=c9) (ys:=[[]]) (xs:=[.const (.slice none 0 0)]) mj fN J J J J J ⟨jO,aS⟩)<|fK<|bB h fun l4 q_l4 h=>zT fN J J J J mj J J (ht J) (ht J) q_l4 fun l5 c3=>zo J (kp 0 ru J J J)<|fK<|tm ro J (rA _ _ _) J (ht J) (PE (HI (ht J)))<|au<|bu ?_;refine ai (aN ?_);refine bv<|bv<|aJ ?_;exact cC (K ({other with Tables:=l4}:cB) l5 c3 h) (bt J)
       ·refine dU<|aw<|zo J (cF)<|au ?_;refine j7 (Z:=fun k=>jk (co l n r3 scans tl1) i1 e1 other k=some R) (Of:=fun k=>[ki Jd kP b1 none os scans,bx kK 27 b2 (lM other (aO l2 c1 other.Tables.length)),dS c9 32 l2 c1 other.Tables]) (Gf:=fun k=>[(2,bI n),(3,bM cD l),(7,bZ (cV) r3.1),(8,bI r3.2),(9,tV (oA b1)),(12,tV (aP b2 0)),(14,bZ (cV) e1),(15,bI k),(55,bZ (c9) b.Tables),(56,jr b.Tables),(57,bI (i1:Int))]) (fun k h=>?_) (fun K1=>?_)
        ·skip
         refine aw<|bL false cV 43<|zo J (aK rr)<|au<|ah<|bB h fun y q_y h=>bB h fun l6 q_l6 h=>bB h fun y1 q_y1 h=>?_
         refine oc 8 [tc (tV (aO none 0 (Bw.length))),tc (bZ (cV) e1),tc (bI k),tc (bZ (cV) y),([4],fun s=>tV (aO ((s.getD 0 oU).h 0).1 ((s.getD 0 oU).h 0).2 l6.length)),tc (bZ (cV) e1),tc (bI k),tc (bZ (cV) y1)] [false,false,false,false,true,false,false,false] [fun _=>[eH cV 43 none 0 Bw,ki Jd kP b1 none os scans,bx kK 27 b2 (lM other (aO l2 c1 other.Tables.length)),dS c9 32 l2 c1 other.Tables],fun sg=>[eH cV 43 ((sg 4).h 0).1 ((sg 4).h 0).2 l6,ki Jd kP b1 none os scans,bx kK 27 b2 (lM other (aO l2 c1 other.Tables.length)),dS c9 32 l2 c1 other.Tables]] J mixed J J J J J
          ⟨⟨[⟨16,fun _=>tV (aO none 0 (Bw.length)),none⟩],_,0,0,J,⟨(fun _=>J),aS⟩,J,J,J,J,J,fun _ sg _ _=>ay J (dv J)⟩,
          ⟨⟨[⟨14,fun _=>tD c9 e1,none⟩],_,0,0,J,⟨(fun _=>J),aS⟩,J,J,J,J,J,fun _ sg _ _=>ay J (dv J)⟩,
          ⟨⟨[⟨15,fun _=>tD bT k,none⟩],_,0,0,J,⟨(fun _=>J),aS⟩,J,J,J,J,J,fun _ sg _ _=>ay J (dv J)⟩,
          ⟨⟨[⟨80,fun _=>tD c9 e1,some 1⟩,⟨81,fun _=>tD bT k,some 2⟩],_,0,0,J,⟨(fun _=>J),(fun _=>J),aS⟩,J,J,J,J,J,fun _ sg _ _=>ay J (EB ja dL J (ht J) (ht J) q_y)⟩,
          ⟨⟨[⟨79,fun _=>tV (aO none 0 (Bw.length)),some 0⟩,⟨82,fun _=>tD c9 y,some 3⟩],_,J,⟨(fun _=>J),(fun _=>J),aS⟩,J,J,J,fun sg=>d8 J (KR dL J J J J ja J (ht J) (ht J) q_l6)⟩,
          ⟨⟨[⟨14,fun _=>tD c9 e1,none⟩],_,0,1,J,⟨(fun _=>J),aS⟩,J,J,J,J,J,fun _ sg _ _=>ay J (dv J)⟩,
          ⟨⟨[⟨15,fun _=>tD bT k,none⟩],_,0,1,J,⟨(fun _=>J),aS⟩,J,J,J,J,J,fun _ sg _ _=>ay J (dv J)⟩,
          ⟨⟨[⟨84,fun _=>tD c9 e1,some 5⟩,⟨85,fun _=>tD bT k,some 6⟩],_,0,1,J,⟨(fun _=>J),(fun _=>J),aS⟩,J,J,J,J,J,fun _ sg _ _=>ay J (EC ja dL J (ht J) (ht J) q_y1)⟩,
          aS⟩⟩⟩⟩⟩⟩⟩⟩ (fun sg=>?_)
         refine(show RG _ _ _ _ [eH cV 43 ((sg 4).h 0).1 ((sg 4).h 0).2 l6,ki Jd kP b1 none os scans,bx kK 27 b2 (lM other (aO l2 c1 other.Tables.length)),dS c9 32 l2 c1 other.Tables] _ from ?_);refine bB h fun sJ q_turned h=>cO dL J J J J ja J J (ht J) (ht J) q_turned fun l7 c4=>bo J<|au<|aq<|zo J (kp 0 ru J J J)<|zo J (BN ro CJ (.tail _ (.tail _ (.head _))) (.tail _ (.tail _ (.tail _ (.head _)))) J (ht J))<|aF J<|ju<|gU 87 J<|gU 16 J<|gU 90 J<|zo J (aU (r:=c9) (ys:=[sJ]) (xs:=[.tmp 90]) mj fN J J J J J ⟨(kT (ht J)),aS⟩)<|ov<|bB h fun l8 q_l8 h=>zT fN J J J J mj J J (ht J) (ht J) q_l8 fun l9 c5=>zo J (kp 0 ru J J J)<|ov<|tm ro J (rA _ _ _) J (ht J) (PE (HI (ht J)))<|aQ<|ap<|aJ<|be ?_;refine bv<|bv<|aJ ?_;exact cC (K ({other with Tables:=l8}:cB) l9 c5 h) (bt J)
        ·skip
         refine aw<|aF J<|zo J (iJ ja J)<|zo J (gm (ht J) hI)<|au<|dd h J (fun h=>?_) (fun h=>?_)
         ·refine aq<|aF J<|zo J (Ib (ht J) hI)<|aF J<|zo J (iJ ja J)<|bB h fun u q_u h=>zo J (Xx (ht J) (ht J) (NR q_u))<|bo J<|aQ ?_;exact cC (K1 (((max n (0:Int))).tmod (e1.length:Int)) h) (bt J)
         ·refine bA ?_;exact cC (K1 (0:Int) h) (bt J)
    ·obtain⟨hx,h⟩:=h
     refine aB<|aw<|zo J (fL J J)<|au<|ah<|bw (ht J) (dl hx)<|dU<|ah<|aA<|aw<|zo J (cw gF cu (.head _) (ht J) (ht J) (cX hx))<|zo J (fR (r:=bT) (i:=(i:Int)) (foff:=0) cu J J bR J (.head _) (cX hx) (ht J))<|bo J<|au<|aq<|aF J<|aF J<|bH<|VP (γ:=fun y:Bool=>iz y) Tryz.underlying65 (dT kC) (ht J) (nt (ht J)) hB fun os1=>?_;refine aQ<|ap<|av<|aq<|zo rfl (lZ (cL hx hN) rfl)<|aF rfl<|aQ<|bv ?_;exact bg (aT (ih (i+1) (cY scans e true) os1 ⟨cK hx,h⟩) (bt J))

end Go.Proofs.YtfhhakidodmdfaaGreatDoor

