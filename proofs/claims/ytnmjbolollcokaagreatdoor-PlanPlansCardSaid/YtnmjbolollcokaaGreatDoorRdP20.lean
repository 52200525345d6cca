/- dr of this claim: P20. -/
import Derived.Test.YtnmjbolollcokaaGreatDoorRdT
import Derived.Test.YtnmjbolollcokaaGreatDoorRdP19
set_option linter.all false
namespace Go.Proofs.YtnmjbolollcokaaGreatDoor
open Go
set_option maxRecDepth 100000

theorem Ux(a1:bR)(b:bR){R:Bool}(h:wd a1 b=some R):bo bl 44 [tD ck a1,tD ck b] (gq R):=by
 refine bo.of Tryz.func44 J J J fun w0 S0=>aw<|zo J (jt J)<|zo J (jt J)<|zo J (ez)<|au<|ac<|aw<|zo J (bD jn dM J J)<|zo J (bm iB J J)<|zo J (fW om J)<|zo J (bD jn dM J J)<|zo J (bm iB J J)<|zo J (fW om J)<|zo J (cF (ht J) (ht J))<|au<|cE h J (fun h=>?_) (fun h=>?_)
 ·refine aw<|zo J (ez)<|au<|ak<|M ?_;cases so h;exact aF J J
 ·refine dz<|ac<|aw<|zo J (dB)<|au<|ax<|bB ?_;refine aP (pg (Z:=fun n i=>nO a1 b n i=some R) (Of:=fun i=>[]) (Gf:=fun i=>[(2,bt ck a1),(3,bt ck b),(5,cb i)]) (fun i h=>nn h) (fun n ih i h=>?_) cZ (0:Int) h) (bg J);refine aB<|ac<|aw<|aE J<|zo J (bD jn dM J J)<|zo J (bm iB J J)<|zo J (fW om J)<|zo J (ft J J)<|au<|cE h J (fun h=>?_) (fun h=>?_)
  ·refine dz<|ac<|ax<|ac<|bz h fun e q_e h=>bz h fun e1 q_e1 h=>bz h fun r q_r h=>?_
   refine eu (ts:=[_,_,_,_,_,_,_,_,_,_,_,_]) mixed J J
    ⟨ef 2 J J J (bD jn dM J J),
    ⟨cT 20 0 J J J (bm iB J J),
    ⟨ef 5 J J J (cG J),
    ⟨dG 21 1 22 2 J J J J (iQ om cz J J J q_e),
    ⟨cT 23 3 J J J (bm cz J J),
    ⟨ef 3 J J J (bD jn dM J J),
    ⟨cT 25 5 J J J (bm iB J J),
    ⟨ef 5 J J J (cG J),
    ⟨dG 26 6 27 7 J J J J (iQ om cz J J J q_e1),
    ⟨cT 28 8 J J J (bm cz J J),
    ⟨dG 24 4 29 9 J J J J (aC Yt (Ui _ _ q_r) ⟨(ht J),(ht J),aT⟩),
    ⟨cT 30 10 J J J (dh (ht J)),
    aT⟩⟩⟩⟩⟩⟩⟩⟩⟩⟩⟩⟩ ?_
   refine aq<|cE h rfl (fun h=>?_) (fun h=>?_)
   ·refine aw<|zo J (ez)<|au<|ak ?_;refine ay (M (M (ay (M ?_))));cases so h;exact aF J J
   ·refine bk<|an<|aq<|am<|aE rfl<|zo rfl (ei (ht rfl) hI)<|bu rfl<|aJ ?_;exact be (aP (ih (IntKind.i64.wrap (i+(1:Int))) h) (bg J))
  ·refine bp ?_;refine ae (ae (aK ?_));refine aq<|aw<|zo rfl (ez)<|au<|ak ?_;cases so h;exact aF J J

theorem UW(a1:dp)(b:dp){R:Bool}(h:oA a1 b=some R):bo bl 13 [tD bG a1,tD bG b] (gq R):=by
 refine bo.of Tryz.func13 J J J fun w0 S0=>aw<|zo J (jt J)<|zo J (jt J)<|zo J (ez)<|au<|ac<|aw<|zo J (bD iN fm J J)<|zo J (bm jh J J)<|zo J (fW kx J)<|zo J (bD iN fm J J)<|zo J (bm jh J J)<|zo J (fW kx J)<|zo J (cF (ht J) (ht J))<|au<|cE h J (fun h=>?_) (fun h=>?_)
 ·refine aw<|zo J (ez)<|au<|ak<|M ?_;cases so h;exact aF J J
 ·refine dz<|ac<|aw<|zo J (dB)<|au<|ax<|bB ?_;refine aP (pg (Z:=fun n i=>jY a1 b n i=some R) (Of:=fun i=>[]) (Gf:=fun i=>[(2,bt bG a1),(3,bt bG b),(5,cb i)]) (fun i h=>nn h) (fun n ih i h=>?_) cZ (0:Int) h) (bg J);refine aB<|ac<|aw<|aE J<|zo J (bD iN fm J J)<|zo J (bm jh J J)<|zo J (fW kx J)<|zo J (ft J J)<|au<|cE h J (fun h=>?_) (fun h=>?_)
  ·refine dz<|ac<|ax<|ac<|bz h fun e q_e h=>bz h fun e1 q_e1 h=>?_
   refine yd 13 [tc (bt zj a1.Frags),tc (fc (aH) a1.Frags),tc (cb i),tc (bt aH e),tc (tD aH e),tc (bt zj b.Frags),tc (fc (aH) b.Frags),tc (cb i),tc (bt aH e1),tc (tD aH e1),([10],fun s=>tV (aM ((s.getD 0 nz).h 0).2 0)),([11],fun s=>tV (aM ((s.getD 0 nz).h 0).2 0)),tc (Af)] [false,false,false,false,false,false,false,false,false,false,true,true,true] [([],fun _=>[]),([10],fun sg=>[bx aH 74 ((sg 10).h 0).2 zl]),([11],fun sg=>[bx aH 74 ((sg 11).h 0).2 zl]),([10,11],fun sg=>[bx aH 74 ((sg 11).h 0).2 zl,bx aH 74 ((sg 10).h 0).2 zl]),([10,11,12],fun sg=>[bx aH 74 ((sg 10).h 0).2 e,bx aH 74 ((sg 11).h 0).2 zl])] (fun _=>J) mixed J J J J
    ⟨⟨[⟨2,fun _=>bt bG a1,none⟩],_,[[],[10],[11],[10,11]],J,⟨(fun _=>J),aT⟩,J,J,J,J,J,⟨fun sg=>aa J (bD iN fm J J),fun sg=>aa J (bD iN fm J J),fun sg=>aa J (bD iN fm J J),fun sg=>aa J (bD iN fm J J),aT⟩⟩,
    ⟨⟨[⟨22,fun _=>bt zj a1.Frags,some 0⟩],_,[[],[10],[11],[10,11]],J,⟨(fun _=>J),aT⟩,J,J,J,J,J,⟨fun sg=>aa J (bm jh J J),fun sg=>aa J (bm jh J J),fun sg=>aa J (bm jh J J),fun sg=>aa J (bm jh J J),aT⟩⟩,
    ⟨⟨[⟨5,fun _=>tD cx i,none⟩],_,[[],[10],[11],[10,11]],J,⟨(fun _=>J),aT⟩,J,J,J,J,J,⟨fun sg=>aa J (cG J),fun sg=>aa J (cG J),fun sg=>aa J (cG J),fun sg=>aa J (cG J),aT⟩⟩,
    ⟨⟨[⟨23,fun _=>tD zj a1.Frags,some 1⟩,⟨24,fun _=>tD cx i,some 2⟩],_,[[],[10],[11],[10,11]],J,⟨(fun _=>J),(fun _=>J),aT⟩,J,J,J,J,J,⟨fun sg=>aa J (iQ kx gk J J J q_e),fun sg=>aa J (iQ kx gk J J J q_e),fun sg=>aa J (iQ kx gk J J J q_e),fun sg=>aa J (iQ kx gk J J J q_e),aT⟩⟩,
    ⟨⟨[⟨25,fun _=>bt aH e,some 3⟩],_,[[],[10],[11],[10,11]],J,⟨(fun _=>J),aT⟩,J,J,J,J,J,⟨fun sg=>aa J (bm gk J J),fun sg=>aa J (bm gk J J),fun sg=>aa J (bm gk J J),fun sg=>aa J (bm gk J J),aT⟩⟩,
    ⟨⟨[⟨3,fun _=>bt bG b,none⟩],_,[[],[10],[11],[10,11],[10,11,12]],J,⟨(fun _=>J),aT⟩,J,J,J,J,J,⟨fun sg=>aa J (bD iN fm J J),fun sg=>aa J (bD iN fm J J),fun sg=>aa J (bD iN fm J J),fun sg=>aa J (bD iN fm J J),fun sg=>aa J (bD iN fm J J),aT⟩⟩,
    ⟨⟨[⟨27,fun _=>bt zj b.Frags,some 5⟩],_,[[],[10],[11],[10,11],[10,11,12]],J,⟨(fun _=>J),aT⟩,J,J,J,J,J,⟨fun sg=>aa J (bm jh J J),fun sg=>aa J (bm jh J J),fun sg=>aa J (bm jh J J),fun sg=>aa J (bm jh J J),fun sg=>aa J (bm jh J J),aT⟩⟩,
    ⟨⟨[⟨5,fun _=>tD cx i,none⟩],_,[[],[10],[11],[10,11],[10,11,12]],J,⟨(fun _=>J),aT⟩,J,J,J,J,J,⟨fun sg=>aa J (cG J),fun sg=>aa J (cG J),fun sg=>aa J (cG J),fun sg=>aa J (cG J),fun sg=>aa J (cG J),aT⟩⟩,
    ⟨⟨[⟨28,fun _=>tD zj b.Frags,some 6⟩,⟨29,fun _=>tD cx i,some 7⟩],_,[[],[10],[11],[10,11],[10,11,12]],J,⟨(fun _=>J),(fun _=>J),aT⟩,J,J,J,J,J,⟨fun sg=>aa J (iQ kx gk J J J q_e1),fun sg=>aa J (iQ kx gk J J J q_e1),fun sg=>aa J (iQ kx gk J J J q_e1),fun sg=>aa J (iQ kx gk J J J q_e1),fun sg=>aa J (iQ kx gk J J J q_e1),aT⟩⟩,
    ⟨⟨[⟨30,fun _=>bt aH e1,some 8⟩],_,[[],[10],[11],[10,11],[10,11,12]],J,⟨(fun _=>J),aT⟩,J,J,J,J,J,⟨fun sg=>aa J (bm gk J J),fun sg=>aa J (bm gk J J),fun sg=>aa J (bm gk J J),fun sg=>aa J (bm gk J J),fun sg=>aa J (bm gk J J),aT⟩⟩,
    ⟨⟨[],_,[([],[10]),([11],[10,11])],J,aT,J,J,J,J,J,⟨fun sg=>bN J (ev (r:=aH) (x:=zl) gk (fun _=>mC _)),fun sg=>bN J (EffOK.post_imp (post:=fun x__=>(fun(sg:Nat→OI)=>[bx aH 74 ((sg 10).h 0).2 zl,bx aH 74 ((sg 11).h 0).2 zl]) (EI sg 10 x__)) (ev (r:=aH) (x:=zl) gk (fun _=>mC _)) (fun h=>du.pick [1,0] J h)),aT⟩⟩,
    ⟨⟨[],_,[([],[11]),([10],[10,11])],J,aT,J,J,J,J,J,⟨fun sg=>bN J (ev (r:=aH) (x:=zl) gk (fun _=>mC _)),fun sg=>bN J (ev (r:=aH) (x:=zl) gk (fun _=>mC _)),aT⟩⟩,
    ⟨⟨[⟨6,fun sg=>tV (aM ((sg 10).h 0).2 0),some 10⟩,⟨26,fun _=>tD aH e,some 4⟩],_,[([10,11],[10,11,12])],J,⟨(fun _=>J),(fun _=>J),aT⟩,J,J,J,J,J,⟨fun sg=>bN J (EffOK.fr1 (mw gk J (ve aj) J (ht J) (ht J))),aT⟩⟩,
    aT⟩⟩⟩⟩⟩⟩⟩⟩⟩⟩⟩⟩⟩ (fun sg=>?_)
   refine(show RG _ _ _ _ [bx aH 74 ((sg 10).h 0).2 e,bx aH 74 ((sg 11).h 0).2 zl] _ from ?_);refine bh 6 J<|ai gk J aj J (ht J) (ht J)<|bh 7 J<|au<|aw<|zo J (bD Hb BG J J)<|zo J (bm bA J J)<|zo J (bD Hb BG J J)<|zo J (bm bA J J)<|zo J (cF (ht J) (ht J))<|aE J<|ci J J (fun hg=>bD Pk F2 J J)<|ci J J (fun hg=>aI bA J J (aS J hg))<|ci J J (fun hg=>bD Pk F2 J J)<|ci J J (fun hg=>aI bA J J (aS J hg))<|ci J J (fun hg=>cF (aS J hg) (aS J hg))<|zo J (nW J J)<|aE J<|bz h fun t q_t h=>ci J J (fun hg=>bD Pj F1 J J)<|ci J J (fun hg=>aI cD J J (aS J hg))<|ci J J (fun hg=>bD Pj F1 J J) ?_;refine ci J J (fun hg=>aI cD J J (aS J hg)) ?_
   obtain⟨r,h1t,h0t⟩:=og q_t
   have q_rg:=fun hb=>(h1t hb).1
   refine ci J J (fun hg=>aC PV (Ej _ _ (q_rg hg)) ⟨(aS J hg),(aS J hg),aT⟩)<|ci J J (fun hg=>dh (aS J hg))<|zo J (dj (ht J) (fun hb=>(aS J (nZ hb))) (fun hb=>(h1t hb).2) h0t)<|aE J<|bz h fun t1 q_t1 h=>ci J J (fun hg=>bD zK rs J J)<|ci J J (fun hg=>aI iB J J (aS J hg))<|ci J J (fun hg=>cm (y:=(⟨e.Nodes⟩:bR)) lx Pg pp (⟨_,_,_,_,_,J,zw,J,(aS J hg),J⟩))<|ci J J (fun hg=>bD zK rs J J)<|ci J J (fun hg=>aI iB J J (aS J hg))<|ci J J (fun hg=>cm (y:=(⟨e1.Nodes⟩:bR)) lx Pg pp (⟨_,_,_,_,_,J,zw,J,(aS J hg),J⟩)) ?_
   obtain⟨r1,h1t1,h0t1⟩:=og q_t1
   have q_r1g:=fun hb=>(h1t1 hb).1
   refine ci J J (fun hg=>aC YQ (Ux _ _ (q_r1g hg)) ⟨(aS J hg),(aS J hg),aT⟩)<|ci J J (fun hg=>dh (aS J hg))<|zo J (dj (ht J) (fun hb=>(aS J (nZ hb))) (fun hb=>(h1t1 hb).2) h0t1)<|au<|cE h J (fun h=>?_) (fun h=>?_)
   ·refine aw<|zo J (ez)<|au<|ak ?_;refine ay (M (M (ay (M ?_))));cases so h;exact aF J J
   ·refine bk<|an<|aq<|am<|aE rfl<|zo rfl (ei (ht rfl) hI)<|bu rfl<|aJ ?_;exact be (aP (ih (IntKind.i64.wrap (i+(1:Int))) h) (bg J))
  ·refine bp ?_;refine ae (ae (aK ?_));refine aq<|aw<|zo rfl (ez)<|au<|ak ?_;cases so h;exact aF J J

theorem Wc(l:bR)(c:ce){R:Bool}(h:sW l c=some R):bo bl 3 [tD ck l,tD da c] (gq R):=by
 refine bo.of Tryz.func3 J J J fun w0 S0=>aw<|zo J (jt J)<|zo J (jt J)<|zo J (ez)<|au<|ac<|aw<|bz h fun r q_r h=>zo J (aC cb8 (V2 q_r) trivial)<|zo J (dh (ht J))<|au<|cE h J (fun h=>?_) (fun h=>?_)
 ·refine aw<|zo J (ez)<|au<|ak<|M ?_;cases so h;exact aF J J
 ·refine dz<|ac<|aw<|zo J (bD jn dM J J)<|zo J (bm iB J J)<|bz h fun r1 q_r1 h=>zo J (aC cb9 (V1 _ q_r1) ⟨(ht J),aT⟩)<|aE J<|bz h fun t q_t h=>ci J J (fun hg=>bm yL J J) ?_
  obtain⟨r2,h1t,h0t⟩:=og q_t
  have q_r2g:=fun hb=>(h1t hb).1
  refine ci J J (fun hg=>aC Y5 (UY _ (q_r2g hg)) ⟨(aS J hg),aT⟩)<|zo J (dj (ht J) (fun hb=>(aS J (nZ hb))) (fun hb=>(h1t hb).2) h0t)<|au<|cE h J (fun h=>?_) (fun h=>?_)
  ·refine aw<|zo J (ez)<|au<|ak<|M ?_;cases so h;exact aF J J
  ·refine dz<|aw<|zo J (bm lx J J)<|zo J (bm yL J J)<|bz h fun r3 q_r3 h=>zo J (aC XL (PB _ _ q_r3) ⟨(ht J),(ht J),aT⟩)<|aE J<|zo J (kG J J)<|zo J (kG J J)<|bj (r:=bG) (x:=jX) jm (fun _=>jG _) J fun b=>ai jm J aj J (ht J) (ht J)<|bh 5 J<|bu J<|au<|aw<|zo J (bm lx J J)<|zo J (bm yL J J)<|bz h fun r4 q_r4 h=>zo J (aC Y4 (UX _ _ q_r4) ⟨(ht J),(ht J),aT⟩)<|aE J ?_;refine zo J (kG J J)<|zo J (kG J J)<|bj (r:=bG) (x:=jX) jm (fun _=>jG _) J fun b1=>ai jm J aj J (ht J) (ht J)<|bh 7 J<|bu J<|au<|aw<|aE J<|aE J<|zo J (cw (ht J) (ht J))<|aE J<|bz h fun t1 q_t1 h=>bX J J (fun hg=>bm jm J J)<|bX J J (fun hg=>bm jm J J) ?_
   obtain⟨r5,h1t1,h0t1⟩:=og q_t1
   have q_r5g:=fun hb=>(h1t1 hb).1
   refine bX J J (fun hg=>aC Y3 (UW _ _ (q_r5g hg)) ⟨(aS J hg),(aS J hg),aT⟩)<|zo J (cS (ht J) (fun hb=>(aS J hb)) (fun hb=>(h1t1 hb).2) h0t1)<|bu J<|au<|ak ?_;cases so h;exact aF J J

end Go.Proofs.YtnmjbolollcokaaGreatDoor

