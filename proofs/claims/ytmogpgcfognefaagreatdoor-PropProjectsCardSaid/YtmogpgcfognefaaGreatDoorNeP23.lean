/- co of this claim: P23. -/
import Derived.Test.YtmogpgcfognefaaGreatDoorNeT
import Derived.Test.YtmogpgcfognefaaGreatDoorNeP22
set_option linter.all false
namespace Go.Proofs.YtmogpgcfognefaaGreatDoor
open Go
set_option maxRecDepth 100000

theorem To(r:(List M))(do1:(List (Int×(M→M→Option (M×Int)))))(n:bc)(l:(List M)){R:M×Int}(h:gI r do1 n l=some R):aN aM 71 [tD aQ n,d7 (af) l,bq rp r,bq (rT (CU (fun y:(M→M→Option (M×Int))=>pD aM qC qB (fun(x:M×M)=>y x.1 x.2)) sx do1)) ()] (tT [tD af R.1,bH R.2]):=by
 refine aN.of Tryz.func71 J J J fun w0 S0=>aq<|zo J (jh J)<|aO (r:=af) (x:=lb) bt (fun _=>ca _) J fun b=>zo J (cQ)<|an<|ae<|aq<|zo J (cd iA ef J J)<|zo J (bz bJ J J)<|an<|ax<|aq<|zo J (jy J)<|bk J<|an<|cX h J (fun h=>?_) (fun h=>?_)
 ·refine aq<|zo J (cd yd rb J J)<|zo J (bz bt J J)<|ay bt J ap J (ht J) (ht J)<|zo J (cQ)<|an<|aj ?_;refine aC (aa ?_);refine bR 6 J ?_;cases so h;exact dE J J ⟨cC bt J J J,dY J,aU⟩
 ·refine aq<|zo J (jy J)<|bk J<|an<|cX h J (fun h=>?_) (fun h=>?_)
  ·refine aq<|zo J (bz EE J J)<|zo J (cd m3 iG J J)<|zo J (bz bJ J J)<|bF h fun e q_e h=>zo J (iX sW bt J J J q_e)<|zo J (bz bt J J)<|ay bt J ap J (ht J) (ht J)<|zo J (cQ)<|an<|aj ?_;refine aC (aa ?_);refine bR 6 J ?_;cases so h;exact dE J J ⟨cC bt J J J,dY J,aU⟩
  ·refine bA<|am<|au<|ae<|bF h fun e1 q_e1 h=>bF h fun e2 q_e2 h=>bF h fun r1 q_r1 h=>?_
   refine oe 19 [tc (CU (fun y:(M→M→Option (M×Int))=>pD aM qC qB (fun(x:M×M)=>y x.1 x.2)) sx do1),tc (bq bQ n.Tag),tc (bH n.Tag),tc (pD aM qC qB (fun(x:M×M)=>((nV do1 n.Tag).getD (fun _ _=>none)) x.1 x.2)),tc (d7 (af) l),tc (bq af e1),tc (tD af e1),tc (d7 (af) l),tc (d7 (af) l),tc (hM l),tc (bH (IntKind.i64.wrap ((l.length:Int)-(1:Int)))),tc (bq af e2),tc (tD af e2),tc (tT [tD af r1.1,bH r1.2]),tc (tT [tD af r1.1,bH r1.2]),tc (tD af r1.1),tc (bH r1.2),([17],fun s=>tV (aI ((s.getD 0 wc).h 0).2 0)),tc (Bq)] [false,false,false,false,false,false,false,false,false,false,false,false,false,false,false,false,false,true,true] [fun _=>[bx af 82 b lb],fun sg=>[bx af 82 ((sg 17).h 0).2 lb,bx af 82 b lb],fun sg=>[bx af 82 ((sg 17).h 0).2 r1.1,bx af 82 b lb]] J mixed J J J J J
    ⟨⟨[⟨3,fun _=>bq (rT (CU (fun y:(M→M→Option (M×Int))=>pD aM qC Ax (fun(x:M×M)=>y x.1 x.2)) sx do1)) (),none⟩],_,0,1,J,⟨(fun _=>J),aU⟩,J,J,J,J,J,fun _ sg _ _=>ak J (q5 Mi (ht J))⟩,
    ⟨⟨[⟨4,fun _=>bq aQ n,none⟩],_,0,1,J,⟨(fun _=>J),aU⟩,J,J,J,J,J,fun _ sg _ _=>ak J (cd iA ef J J)⟩,
    ⟨⟨[⟨25,fun _=>bq bQ n.Tag,some 1⟩],_,0,1,J,⟨(fun _=>J),aU⟩,J,J,J,J,J,fun _ sg _ _=>ak J (bz bJ J J)⟩,
    ⟨⟨[⟨24,fun _=>CU (fun y:(M→M→Option (M×Int))=>pD aM qC Ax (fun(x:M×M)=>y x.1 x.2)) sx do1,some 0⟩,⟨26,fun _=>tD bQ n.Tag,some 2⟩],_,0,1,J,⟨(fun _=>J),(fun _=>J),aU⟩,J,J,J,J,J,fun _ sg _ _=>ak J (uY (γ:=(fun y:(M→M→Option (M×Int))=>pD aM qC Ax (fun(x:M×M)=>y x.1 x.2))) (z:=(fun _ _=>none)) um (di ou) Ui (fun _=>I6) (ht J) (kp (ht J)))⟩,
    ⟨⟨[⟨1,fun _=>tD rp l,none⟩],_,0,1,J,⟨(fun _=>J),aU⟩,J,J,J,J,J,fun _ sg _ _=>ak J (cL J)⟩,
    ⟨⟨[⟨28,fun _=>tD rp l,some 4⟩],_,0,1,J,⟨(fun _=>J),aU⟩,J,J,J,J,J,fun _ sg _ _=>ak J (bX pX bt J (ht J) hI q_e1)⟩,
    ⟨⟨[⟨29,fun _=>bq af e1,some 5⟩],_,0,1,J,⟨(fun _=>J),aU⟩,J,J,J,J,J,fun _ sg _ _=>ak J (bz bt J J)⟩,
    ⟨⟨[⟨1,fun _=>tD rp l,none⟩],_,0,1,J,⟨(fun _=>J),aU⟩,J,J,J,J,J,fun _ sg _ _=>ak J (cL J)⟩,
    ⟨⟨[⟨1,fun _=>tD rp l,none⟩],_,0,1,J,⟨(fun _=>J),aU⟩,J,J,J,J,J,fun _ sg _ _=>ak J (cL J)⟩,
    ⟨⟨[⟨32,fun _=>tD rp l,some 8⟩],_,0,1,J,⟨(fun _=>J),aU⟩,J,J,J,J,J,fun _ sg _ _=>ak J (ja pX J)⟩,
    ⟨⟨[⟨33,fun _=>tD bQ (l.length:Int),some 9⟩],_,0,1,J,⟨(fun _=>J),aU⟩,J,J,J,J,J,fun _ sg _ _=>ak J (fK (ht J) hI)⟩,
    ⟨⟨[⟨31,fun _=>tD rp l,some 7⟩,⟨34,fun _=>tD bQ (IntKind.i64.wrap ((l.length:Int)-(1:Int))),some 10⟩],_,0,1,J,⟨(fun _=>J),(fun _=>J),aU⟩,J,J,J,J,J,fun _ sg _ _=>ak J (iX pX bt J J J q_e2)⟩,
    ⟨⟨[⟨35,fun _=>bq af e2,some 11⟩],_,0,1,J,⟨(fun _=>J),aU⟩,J,J,J,J,J,fun _ sg _ _=>ak J (bz bt J J)⟩,
    ⟨⟨[⟨27,fun _=>pD aM qC Ax (fun(x:M×M)=>((nV do1 n.Tag).getD (fun _ _=>none)) x.1 x.2),some 3⟩,⟨30,fun _=>tD af e1,some 6⟩,⟨36,fun _=>tD af e2,some 12⟩],_,0,1,J,⟨(fun _=>J),(fun _=>J),(fun _=>J),aU⟩,J,J,J,J,J,fun _ sg _ _=>ak J (DH (args:=qC) (res:=Ax) (f:=(fun(x:M×M)=>((nV do1 n.Tag).getD (fun _ _=>none)) x.1 x.2)) (x:=((e1,e2):M×M)) (ht J) q_r1 ⟨(ht J),(ht J),aU⟩)⟩,
    ⟨⟨[⟨37,fun _=>tT [tD af r1.1,tD bQ r1.2],some 13⟩],_,0,1,J,⟨(fun _=>J),aU⟩,J,J,J,J,J,fun _ sg _ _=>ak J (cL J)⟩,
    ⟨⟨[⟨23,fun _=>tT [tD af r1.1,tD bQ r1.2],some 14⟩],_,0,1,J,⟨(fun _=>J),aU⟩,J,J,J,J,J,fun _ sg _ _=>ak J (hY J J)⟩,
    ⟨⟨[⟨23,fun _=>tT [tD af r1.1,tD bQ r1.2],some 14⟩],_,0,2,J,⟨(fun _=>J),aU⟩,J,J,J,J,J,fun _ sg _ _=>ak J (hY J J)⟩,
    ⟨⟨[],_,J,aU,J,J,J,fun sg=>dN J (nA (r:=af) (x:=lb) bt (fun _=>ca _))⟩,
    ⟨⟨[⟨8,fun sg=>tV (aI ((sg 17).h 0).2 0),some 17⟩,⟨38,fun _=>tD af r1.1,some 15⟩],_,J,⟨(fun _=>J),(fun _=>J),aU⟩,J,J,J,fun sg=>dN J (f6 bt J (HG ap) J (ht J) (ht J))⟩,
    aU⟩⟩⟩⟩⟩⟩⟩⟩⟩⟩⟩⟩⟩⟩⟩⟩⟩⟩⟩ (fun sg=>?_)
   refine(show RG _ _ _ _ [bx af 82 ((sg 17).h 0).2 r1.1,bx af 82 b lb] _ from ?_);refine aL 8 J<|bk J<|an ?_;refine fD (Z:=fun no=>nY r1 no=some R) (Of:=fun no=>[bx af 82 b lb]) (Gf:=fun no=>[(6,tV (aI b 0)),(8,bq af r1.1),(9,bH no)]) (fun no h=>?_) (fun K=>?_)
   ·skip
    refine aq<|zo J (bz bt J J)<|aA J<|ay bt J ap J (ht J) (ht J)<|bk J<|an<|aj<|bR 6 J ?_;cases so h;exact dE J J ⟨cC bt J J J,dY J,aU⟩
   ·skip
    refine aq<|aA J<|zo J (rn J)<|aA J<|bO J J (fun hg=>cL J)<|bO J J (fun hg=>dg (aS J hg) hI)<|zo J (la J J)<|an<|cX h J (fun h=>?_) (fun h=>?_)
    ·refine ai<|zo J (cQ)<|aH ?_;exact bL (K (201:Int) h) (aZ J)
    ·refine bA ?_;exact bL (K r1.2 h) (aZ J)

theorem TB(e:bf)(r:(List M)){R:M×Int}(h:sH e r=some R):aN aM 31 [tD bn e,d7 (af) r] (tT [tD af R.1,bH R.2]):=by
 refine aN.of Tryz.func31 J J J fun w0 S0=>aq<|zo J (jh J)<|zo J (jh J)<|aO (r:=af) (x:=lb) bt (fun _=>ca _) J fun b=>zo J (cQ)<|an<|ae<|aq<|zo J (bz gj J J)<|bF h fun r1 q_r1 h=>zo J (aD Nu (Cc _ q_r1) ⟨(ht J),aU⟩)<|bk J<|an<|aq<|aA J<|zo J (rn J)<|an ?_;refine cX h J (fun h=>?_) (fun h=>?_)
 ·refine aq<|zo J (cb (y:=lb) bt wY ca (J))<|aA J<|ay bt J ap J (ht J) (ht J)<|bk J<|an<|aj<|aa<|bR 4 J ?_;cases so h;exact dE J J ⟨cC bt J J J,dY J,aU⟩
 ·refine dA<|ae<|aq<|zo J (bz gj J J)<|bF h fun r2 q_r2 h=>ll Vg (Jq _ q_r2) ⟨(ht J),aU⟩ J fun l c=>zo J (fA dm (.head _) (ht J))<|zo J (bl hI)<|an<|ax<|mL (.head _) fun hN=>bB ?_;refine aJ (ln (Z:=fun ls i x=>(r2.drop i=ls)∧mF e r ls x=some R) (Of:=fun _ i x=>[cG bQ 3 l c r2,bx af 82 b x]) (Gf:=fun _ i x=>[(2,bq bn e),(3,bq rp r),(4,tV (aI b 0)),(17,pQ l c r2),(18,hM r2),(19,bH (i:Int))]) (fun i x h=>?_) (fun e1 tl ih i x h=>?_) r2 0 lb ⟨J,h⟩) (aZ J)
  ·obtain⟨hx,h⟩:=h
   refine av<|aq<|zo J (eK J J)<|an<|ae<|bp (ht J) (cW hx)<|bg ?_;refine ac (ac (aF ?_));refine au<|aq<|bF h fun r3 q_r3 h=>zo J (aD Yf (Tq q_r3) trivial)<|aO (r:=rV) (x:= .map none) Mi (fun _=>⟨J,J⟩) J fun b1=>mJ (f6 (r' :=rT (CU (fun y:(M→M→Option (M×Int))=>pD aM qC qB (fun(x:M×M)=>y x.1 x.2)) sx r3)) (x' :=()) (q:=rT (CU (fun y:(M→M→Option (M×Int))=>pD aM qC qB (fun(x:M×M)=>y x.1 x.2)) sx r3)) (y:=()) Mi J (jb J) J (ht J) (hTT OA (show aE _ _ _ (CU (fun y:(M→M→Option (M×Int))=>pD aM qC qB (fun(x:M×M)=>y x.1 x.2)) sx r3)from(ht J)))) fun _=>?_;refine(show RG _ _ _ _ (bx (rT (CU (fun y:(M→M→Option (M×Int))=>pD aM qC qB (fun(x:M×M)=>y x.1 x.2)) sx r3)) 153 b1 ()::_) _ from ?_);refine aL 9 J<|an<|aq<|zo J (bz gj J J)<|zo J ((show bS _ _ _ _ ((dJ aM Oc qB (fun(x:bc×(List M))=>(gI r r3) x.1 x.2)))from eJ (cts:=[bq rp r,bq (rT (CU (fun y:(M→M→Option (M×Int))=>pD aM qC qB (fun(x:M×M)=>y x.1 x.2)) sx r3)) ()]) (caps:=[.tmp 3,.tmp 9]) Yd ⟨(ht J),(ht J),aU⟩ (fun x y h=>To _ _ _ _ h)))<|bF h fun r4 q_r4 h=>zo J (aD Ye (Tp _ _ q_r4) ⟨(ht J),(ht J),aU⟩)<|zo J (hY J J)<|zo J (hY J J)<|bD<|ay bt J ap J (ht J) (ht J)<|bk J<|an<|aj<|bR 4 J<|ba ?_;cases so h;exact dE J J ⟨cC bt J J J,dY J,aU⟩
  ·obtain⟨hx,h⟩:=h
   refine av<|aq<|zo J (eK J J)<|an<|ae<|bo (ht J) (cU hx)<|dA<|ae<|ax<|aq<|zo J (dk dm bJ (.head _) (ht J) (ht J) (cP hx))<|zo J (fG (r:=bQ) (i:=(i:Int)) (foff:=0) bJ J J cF J (.head _) (cP hx) (ht J))<|bk J<|an<|aq<|aA J<|zo J (bz EE J J)<|zo J (ja sW J) ?_;refine zo J (dQ (ht J) (ht J))<|aA J<|bF h fun t q_t h=>cN J J (fun hg=>bz EE J J)<|cN J J (fun hg=>cL J) ?_
   obtain⟨e2,h1t,h0t⟩:=og q_t
   have q_e2g:=fun hb=>(h1t hb).1
   refine cN J J (fun hg=>bX sW bt J (aS J hg) (aS J hg) (q_e2g hg))<|cN J J (fun hg=>aY bt J J (aS J hg)) ?_
   obtain⟨r5,h1t⟩:=OG (fun hb=>(h1t hb).2)
   have q_r5g:=fun hb=>(h1t hb).1
   refine cN J J (fun hg=>aD QU (Fh _ (q_r5g hg)) ⟨(aS J hg),aU⟩)<|cN J J (fun hg=>dH (aS J hg))<|zo J (fi (ht J) (fun hb=>(aS J (oL hb))) (fun hb=>(h1t hb).2) h0t)<|an<|cX h J (fun h=>?_) (fun h=>?_)
   ·refine aq<|zo J (cb (y:=lb) bt wY ca (J))<|bD<|ay bt J ap J (ht J) (ht J)<|zo J (cQ)<|an<|aj ?_;refine aC (aa (aa (aC (aa ?_))));refine bR 4 J<|ba ?_;cases so h;exact dE J J ⟨cC bt J J J,dY J,aU⟩
   ·refine bA<|am<|au<|ai<|zo rfl (jU (cz hx hN) rfl)<|aA rfl<|aH ?_;exact aT (aJ (ih (i+1) x ⟨cy hx,h⟩) (aZ J))

theorem U7(items:(List Int))(keys:(List Int))(rows:(List (List Int))){R:Bool}(h:kO items keys rows=some R):aN aM 7 [kz items,kz keys,d7 (p5) rows] (gK R):=by
 refine aN.of Tryz.func7 J J J fun w0 S0=>aq<|zo J (fJ)<|an<|ae<|aq<|bF h fun r q_r h=>zo J (aD cb8 (UY q_r) trivial)<|zo J (dH (ht J))<|an<|cX h J (fun h=>?_) (fun h=>?_)
 ·refine aq<|zo J (fJ)<|an<|aj<|aa ?_;cases so h;exact aB J J
 ·refine dA<|aq<|cm true cB 42<|cm true bQ 3<|zo J (cb (y:=fV (⟨[116],[],[]⟩:bu) (aw none 0 (([]:List bw).length)) (aw none 0 (mu.length))) s6 UN xq (⟨_,_,_,_,_,J,Bv,J,hS,J⟩))<|cm true cB 42<|cm true bQ 3<|aO (r:=eU) (x:=fV (⟨[],[],[]⟩:bu) (aw none 0 (([]:List bw).length)) (aw none 0 (mu.length))) s6 xq J fun b=>vY<|bD<|vY<|bD<|dB s6 J (jb J) J (ht J) (ht J)<|dZ<|yw<|dZ<|yw<|an<|ae<|aq ?_;refine zo J (aP (r:=rS) (ys:=[[97],[98],[99],[100]]) (xs:=[.const (.string ⟨#[97]⟩),.const (.string ⟨#[98]⟩),.const (.string ⟨#[99]⟩),.const (.string ⟨#[100]⟩)]) FP ED J J J J J ⟨hS,hS,hS,hS,aU⟩)<|zo J (ja FP J)<|zo J (bl hI)<|an<|ax<|aV (k:=44) J fun hN=>bB<|fc<|jI<|jI ?_;refine aJ (Cw (Z:=fun ls i t l c l1 c1=>(([[97],[98],[99],[100]]).drop i=ls)∧jv items keys rows ls t=some R) (Of:=fun _ i t l c l1 c1=>[bx eU 40 b (fV t (aw l c t.Columns.length) (aw l1 c1 t.Keys.length)),eF cB 42 l c t.Columns,eF bQ 3 l1 c1 t.Keys]) (Gf:=fun _ i t l c l1 c1=>[(0,kz items),(1,kz keys),(2,d7 (p5) rows),(7,tV (aI b 0)),(44,d7 (rS) ([[97],[98],[99],[100]])),(45,bH (([[97],[98],[99],[100]]).length:Int)),(46,bH (i:Int))]) (fun i t l c l1 c1 h=>?_) (fun e tl ih i t l c l1 c1 h=>?_) ([[97],[98],[99],[100]]) 0 ({({(⟨[116],[],[]⟩:bu)with Columns:=([]:List bw)}:bu)with Keys:=mu}:bu) none 0 none 0 ⟨J,h⟩) (aZ J)
  ·obtain⟨hx,h⟩:=h
   refine av<|aq<|zo J (eK J J)<|an<|ae<|bp (ht J) (cW hx)<|bg ?_;refine ac (ac (aF ?_));refine au<|ae<|aq<|zo rfl (bl hI)<|an<|ax<|bB ?_;refine aJ (J8 (Z:=fun k i1 t1 l2 c2 l3 c3=>(4-i1=k)∧cg items keys rows k i1 t1=some R) (Of:=fun _ i1 t1 l2 c2 l3 c3=>[bx eU 40 b (fV t1 (aw l2 c2 t1.Columns.length) (aw l3 c3 t1.Keys.length)),eF cB 42 l2 c2 t1.Columns,eF bQ 3 l3 c3 t1.Keys]) (Gf:=fun _ i1 t1 l2 c2 l3 c3=>[(0,kz items),(1,kz keys),(2,d7 (p5) rows),(7,tV (aI b 0)),(58,bH (i1:Int))]) (fun i1 t1 l2 c2 l3 c3 h=>?_) (fun k1 ih1 i1 t1 l2 c2 l3 c3 h=>?_) 4 0 t l c l1 c1 ⟨J,h⟩) (aZ J)
   ·obtain⟨hx1,h⟩:=h
    refine av<|aq<|zo J (dI (ht J) hI)<|an<|ae<|bp (ht J) (Ld hx1)<|bg ?_;refine ac (ac (aF ?_));refine au<|aq<|bD<|jg<|zo rfl (q4 (q:=dO) (y:=t1) s6 J J J J (.tail _ (.tail _ (.head _))) (fun _ _ _ ho h=>yn (ju ho (.tail _ (.head _))) (ju ho (.head _)) h) (ht J))<|zo J (aP (r:=dO) (ys:=[t1]) (xs:=[.tmp 78]) CJ s6 J J J J J ⟨(ht J),aU⟩)<|zo J (cb (y:=(⟨[t1]⟩:cn)) rX UO m9 (⟨_,_,_,_,_,J,xB,J,(ht J),J⟩))<|aO (r:=cH) (x:=N5) rX (fun _=>m9 _) J fun b1=>ay rX J ap J (ht J) (ht J)<|aL 13 J<|an<|aq<|zo J (aP (r:=bQ) (ys:=[(2:Int),(2:Int),(2:Int),(2:Int)]) (xs:=[.const (.int .i64 (2)),.const (.int .i64 (2)),.const (.int .i64 (2)),.const (.int .i64 (2))]) dm bJ J J J J J ⟨hI,hI,hI,hI,aU⟩)<|bk J<|an<|aq<|cm true bn 45<|zo J (cb (y:=eM (⟨(5:Int),(0:Int),mt,(0:Int),[],false,nH,[],[],[],[],(0:Int)⟩:aK) (aw none 0 (N2.length))) eC E9 Bh (⟨_,_,_,_,_,J,EL,J,hI,⟨_,_,_,_,_,J,EK,J,hI,⟨_,_,_,_,_,J,EJ,J,hI,J⟩⟩⟩))<|cm true bn 45 ?_;refine aO (r:=dU) (x:=eM Dj (aw none 0 (N2.length))) eC Bh J fun b2=>jg<|bD<|dB eC J (jb J) J (ht J) (ht J)<|jg<|yw<|an<|aq<|cm true bQ 3<|zo J (cb (y:=eN (⟨(4:Int),(0:Int),mt,(0:Int),[],false,nH,[],[],[],[],(0:Int)⟩:aK) (aw none 0 (mu.length))) eC E9 Bi (⟨_,_,_,_,_,J,EO,J,hI,⟨_,_,_,_,_,J,EN,J,hI,⟨_,_,_,_,_,J,EM,J,hI,J⟩⟩⟩))<|cm true bQ 3<|aO (r:=dV) (x:=eN Dj (aw none 0 (mu.length))) eC Bi J fun b3=>jg<|bD<|dB eC J (jb J) J (ht J) (ht J)<|jg<|yw<|an<|ae<|aq ?_;refine aA J<|zo J (ja dm J)<|zo J (bl hI)<|an ?_;refine zE (Z:=fun group l4 c4 project l5 c5=>gQ rows t1 group project=some R) (Of:=fun group l4 c4 project l5 c5=>[bx dV 50 b3 (eN group (aw l4 c4 group.Keys.length)),eF bQ 3 l4 c4 group.Keys,bx dU 50 b2 (eM project (aw l5 c5 project.Items.length)),eF bn 45 l5 c5 project.Items]) (Gf:=fun group l4 c4 project l5 c5=>[(2,d7 (p5) rows),(13,bq cH (⟨[t1]⟩:cn)),LT,(15,tV (aI b2 0)),(16,tV (aI b3 0))]) (fun group l4 c4 project l5 c5 h=>?_) (fun K=>?_)
    ·skip
     refine au<|ae<|aq<|zo rfl (fI 9 sl rfl rfl rfl)<|zo rfl (gD CT qg (.tail _ (.tail _ (.head _))) (.tail _ (.tail _ (.tail _ (.head _)))) rfl (ht rfl))<|zo rfl (bN sX (pC (ht rfl)))<|zo rfl (jy rfl)<|aA rfl<|cN rfl rfl (fun hg=>fI 7 kq J J J)<|cN J J (fun hg=>gD ce qh (.head _) (.tail _ (.head _)) J (aS J hg))<|cN J J (fun hg=>bN dm (pC (aS J hg)))<|cN J J (fun hg=>bK (aS J hg) hI)<|zo J (pZ J J)<|an<|cX h J (fun h=>?_) (fun h=>?_)
     ·refine aq<|zo J (fJ)<|an<|aj<|aa<|ba<|ba<|ba<|ba ?_;cases so h;exact aB J J
     ·refine dA<|ae<|aq<|dZ<|zo J (q4 (q:=aW) (y:=project) eC J J J J (.tail _ (.tail _ (.tail _ (.head _)))) (fun _ _ _ ho h=>AJ (ju ho (.head _)) h) (ht J))<|jg<|zo J (q4 (q:=aW) (y:=group) eC J J J J (.tail _ (.tail _ (.head _))) (fun _ _ _ ho h=>AK (ju ho (.head _)) h) (ht J))<|zo J (oJ (r:=aW) (ys:=[project,group]) (xs:=[.tmp 134,.tmp 135]) Tryz.underlying93 eC J Xs J J ⟨(ht J),(ht J),aU⟩)<|zo J (bl hI)<|an<|ax<|bB<|jI<|jI<|d3 ?_;refine aJ (FD (Z:=fun k2 i2=>(2-i2=k2)∧bW rows t1 group project k2 i2=some R) (Of:=fun _ i2=>[bx dU 50 b2 (eM project (aw l5 c5 project.Items.length)),eF bn 45 l5 c5 project.Items,bx dV 50 b3 (eN group (aw l4 c4 group.Keys.length)),eF bQ 3 l4 c4 group.Keys]) (Gf:=fun _ i2=>[(2,d7 (p5) rows),(13,bq cH (⟨[t1]⟩:cn)),LT,(15,tV (aI b2 0)),(16,tV (aI b3 0)),(136,tD CP ([project,group])),(137,bH (i2:Int))]) (fun i2 h=>?_) (fun k3 ih2 i2 h=>?_) 2 0 ⟨J,h⟩) (aZ J)
      ·obtain⟨hx2,h⟩:=h
       refine av<|aq<|zo J (dI (ht J) hI)<|an<|ae<|bp (ht J) (Ld hx2)<|bg ?_;refine ac (ac (aF ?_));refine au<|aq<|zo rfl (fJ)<|an<|aj<|ba<|ba<|ba<|ba ?_;cases so h;exact aB J J
      ·obtain⟨hx2,h⟩:=h
       refine av<|aq<|zo J (dI (ht J) hI)<|an<|ae<|bo (ht J) (Lc hx2)<|dA<|ae ?_;refine zF (Z:=lM (bW rows t1 group project k3) i2=some R) (Of:=[bx dV 50 b3 (eN group (aw l4 c4 group.Keys.length)),eF bQ 3 l4 c4 group.Keys,bx dU 50 b2 (eM project (aw l5 c5 project.Items.length)),eF bn 45 l5 c5 project.Items]) (Gf:=[(2,d7 (p5) rows),(13,bq cH (⟨[t1]⟩:cn)),LT,(15,tV (aI b2 0)),(16,tV (aI b3 0)),(136,tD CP ([project,group])),(137,bH (i2:Int))]) (fun h=>?_) (fun K1=>?_)
       ·skip
        refine au<|ai<|zo rfl (rA (Ii hx2 (by decide)) (ht rfl) hI)<|aA rfl<|aH<|aX<|aX<|bv<|bv ?_;exact aT (aJ (ih2 (i2+1) ⟨Ih hx2,h⟩) (aZ J))
       ·skip
        refine aq<|bF h fun e3 q_e3 h=>zo J (y8 Tryz.underlying93 eC J J (ht J) (ht J) q_e3)<|aO (r:=aW) (x:=Dj) eC (fun _=>fE _) J fun b4=>ay eC J ap J (ht J) (ht J)<|aL 20 J<|an<|aq<|zo J (fI 9 sl J J J)<|zo J (gD CT qg (.head _) (.tail _ (.head _)) J (ht J))<|zo J (bN sX (pC (ht J)))<|bF h fun mk q_mk h=>vo (GW (r:=bQ) (x:=(0:Int)) bJ J J J dm (fun _=>J) (ht J) (ht J) q_mk) J fun i3=>bk J<|an ?_;refine zD (Z:=fun own l6 c6=>gP rows t1 (bW rows t1 group project k3) i2 e3 own=some R) (Of:=fun own l6 c6=>[cG bQ 3 l6 c6 own,bx dU 50 b2 (eM project (aw l5 c5 project.Items.length)),eF bn 45 l5 c5 project.Items,bx dV 50 b3 (eN group (aw l4 c4 group.Keys.length)),eF bQ 3 l4 c4 group.Keys]) (Gf:=fun own l6 c6=>[(2,d7 (p5) rows),(13,bq cH (⟨[t1]⟩:cn)),LT,(15,tV (aI b2 0)),(16,tV (aI b3 0)),(20,bq aW e3),(21,pQ l6 c6 own),(136,tD CP ([project,group])),(137,bH (i2:Int))]) (fun own l6 c6 h=>?_) (fun K2=>?_)
        ·skip
         refine ae<|aq<|aA J<|zo J (fA dm (.head _) (ht J))<|zo J (bl hI)<|an<|ax<|mL (.head _) fun hN3=>bB ?_;refine aJ (Kb (Z:=fun k4 i4 own1=>(own.length-i4=k4)∧eb rows t1 (bW rows t1 group project k3) i2 e3 k4 i4 own1=some R) (Of:=fun _ i4 own1=>[cG bQ 3 l6 c6 own1,bx dU 50 b2 (eM project (aw l5 c5 project.Items.length)),eF bn 45 l5 c5 project.Items,bx dV 50 b3 (eN group (aw l4 c4 group.Keys.length)),eF bQ 3 l4 c4 group.Keys]) (Gf:=fun _ i4 own1=>[(2,d7 (p5) rows),(13,bq cH (⟨[t1]⟩:cn)),LT,(15,tV (aI b2 0)),(16,tV (aI b3 0)),(20,bq aW e3),(21,pQ l6 c6 own1),(136,tD CP ([project,group])),(137,bH (i2:Int)),(152,hM own),(153,bH (i4:Int))]) (fun i4 own1 h=>?_) (fun k5 ih3 i4 own1 h=>?_) own.length 0 own ⟨J,h⟩) (aZ J)
         ·obtain⟨hx3,h⟩:=h
          refine av<|aq<|zo J (eK J J)<|an<|ae<|bp (ht J) (Ld hx3)<|bg ?_;refine ac (ac (aF ?_));refine au<|ae<|LN<|Hp 21 rfl<|bF h fun r1 q_r1 h=>bF h fun r2 q_r2 h=>?_
          refine eG (ts:=[_,_,_,_,_,_,_,_,_,_,_,_,_]) mixed J J
           ⟨ia 14 J J J (cL J),
           ⟨cO 161 0 J J J (cb (y:=(⟨(1:Int),mt,mt,(0:Int),[(2:Int),(2:Int),(2:Int),(2:Int)],false,nH,[],[],[],[],(0:Int)⟩:aK)) eC E9 fE (⟨_,_,_,_,_,J,qO,J,hI,⟨_,_,_,_,_,J,qN,J,hI,⟨_,_,_,_,_,J,qM,J,hI,⟨_,_,_,_,_,J,ta,J,(ht J),J⟩⟩⟩⟩)),
           ⟨ia 20 J J J (bz eC J J),
           ⟨ft 162 1 163 2 J J J J (aP (r:=aW) (ys:=[(⟨(1:Int),mt,mt,(0:Int),[(2:Int),(2:Int),(2:Int),(2:Int)],false,nH,[],[],[],[],(0:Int)⟩:aK),e3]) (xs:=[.tmp 162,.tmp 163]) qy eC J J J J J ⟨(ht J),(ht J),aU⟩),
           ⟨ia 21 J J J (cL J),
           ⟨ft 164 3 165 4 J J J J (aD Yr (TF _ _ q_r1) ⟨(ht J),(pC (ht J)),aU⟩),
           ⟨ia 13 J J J (bz rX J J),
           ⟨ft 166 5 167 6 J J J J (aD WH (Nh _ _ _ q_r2) ⟨(ht J),(ht J),hI,aU⟩),
           ⟨cO 168 7 J J J (cL J),
           ⟨cO 160 8 J J J (hY J J),
           ⟨cO 160 8 J J J (hY J J),
           ⟨cO 169 9 J J J (zM J),
           ⟨cO 170 10 J J J (zM J),
           aU⟩⟩⟩⟩⟩⟩⟩⟩⟩⟩⟩⟩⟩ ?_
          refine au<|ae<|aq<|aA rfl<|zo rfl (rn rfl)<|aA rfl<|cN rfl rfl (fun hg=>cL J)<|cN J J (fun hg=>bN uj (aS J hg))<|cN J J (fun hg=>dg (aS J hg) hI)<|zo J (pZ J J)<|an<|cX h J (fun h=>?_) (fun h=>?_)
          ·refine aq<|zo J (fJ)<|an<|aj ?_;refine aa (aC (aa (aa (aC (aa ?_)))));refine ba<|ba<|ba<|ba<|ba ?_;cases so h;exact aB J J
          ·refine dA<|ae<|aq<|aA J<|bF h fun e5 q_e5 h=>zo J (bX uj fe J (ht J) hI q_e5)<|zo J (cd mS gE J J)<|zo J (bz bJ J J)<|zo J (rn J)<|an<|cX h J (fun h=>?_) (fun h=>?_)
           ·refine bg ?_;refine ac (aF ?_);refine ba<|aX<|aX<|bv<|bv ?_;exact bL (K1 h) (aZ J)
           ·refine dA<|aq<|aA J<|zo J (ja Tryz.underlying89 J)<|zo J (bl hI)<|an ?_;refine zF (Z:=lL (bW rows t1 group project k3) i2=some R) (Of:=[bx dV 50 b3 (eN group (aw l4 c4 group.Keys.length)),eF bQ 3 l4 c4 group.Keys,bx dU 50 b2 (eM project (aw l5 c5 project.Items.length)),eF bn 45 l5 c5 project.Items]) (Gf:=[(2,d7 (p5) rows),(13,bq cH (⟨[t1]⟩:cn)),LT,(15,tV (aI b2 0)),(16,tV (aI b3 0)),(136,tD CP ([project,group])),(137,bH (i2:Int))]) (fun h=>?_) (fun K3=>?_)
            ·skip
             refine am ?_;exact bL (K1 h) (aZ J)
            ·skip
             refine aV (k:=183) J fun hN4=>bB<|mK ?_;refine aJ (d6 (Z:=fun ls1 i5=>(rows.drop i5=ls1)∧dD (bW rows t1 group project k3) i2 e3 r2 e5 ls1 i5=some R) (Of:=fun _ i5=>[bx dU 50 b2 (eM project (aw l5 c5 project.Items.length)),eF bn 45 l5 c5 project.Items,bx dV 50 b3 (eN group (aw l4 c4 group.Keys.length)),eF bQ 3 l4 c4 group.Keys]) (Gf:=fun _ i5=>[(2,d7 (p5) rows),(13,bq cH (⟨[t1]⟩:cn)),LT,(15,tV (aI b2 0)),(16,tV (aI b3 0)),(20,bq aW e3),(23,d7 (bU) r2.1),(136,tD CP ([project,group])),(137,bH (i2:Int)),(183,d7 (p5) rows),(184,hM rows),(185,bH (i5:Int))]) (fun i5 h=>?_) (fun e6 tl1 ih4 i5 h=>?_) rows 0 ⟨J,h⟩) (aZ J)
             ·obtain⟨hx4,h⟩:=h
              refine av<|aq<|zo J (eK J J)<|an<|ae<|bp (ht J) (cW hx4)<|bg ?_;refine ac (ac (aF ?_));refine aX<|aX<|bv<|bv ?_;exact bL (K3 h) (aZ J)
             ·obtain⟨hx4,h⟩:=h
              refine av<|aq<|zo J (eK J J)<|an<|ae<|bo (ht J) (cU hx4)<|dA<|ae<|ax<|aq<|aA J<|zo J (iX Tryz.underlying89 Mf J J J (cP hx4))<|zo J (bz Mf J J)<|aO (r:=p5) (x:=(List.replicate 4 (0:Int))) Mf (fun _=>vm (r:=bQ) 4 (fun _=>J) _) J fun b5=>bk J<|ay Mf J ap J (ht J) (ht J)<|aL 26 J<|an<|ae ?_;refine aq<|aA J<|zo J (jy J)<|an<|cX h J (fun h=>?_) (fun h=>?_)
              ·refine bg ?_;refine ac (bM J (ac (ac (aF ?_))));refine aX<|aX<|bv<|bv ?_;exact bL (K3 h) (aZ J)
              ·refine dA<|aq<|cm false af 82<|zo J (bm vP)<|cm false af 82<|zo J (bm vP)<|an<|ae<|aq<|zo J (bz Mf J J)<|zo J (bl hI)<|an<|ax<|bB<|sO<|sO<|sO<|sO<|vZ ?_;refine sO ?_;refine aJ (J9 (Z:=fun k6 i6 r3 l7 c7=>(4-i6=k6)∧eP e3 r2 e5 (dD (bW rows t1 group project k3) i2 e3 r2 e5 tl1) i5 e6 k6 i6 r3=some R) (Of:=fun _ i6 r3 l7 c7=>[cG af 82 l7 c7 r3,cG af 82 none 0 Ev,bx dU 50 b2 (eM project (aw l5 c5 project.Items.length)),eF bn 45 l5 c5 project.Items,bx dV 50 b3 (eN group (aw l4 c4 group.Keys.length)),eF bQ 3 l4 c4 group.Keys]) (Gf:=fun _ i6 r3 l7 c7=>[(2,d7 (p5) rows),(13,bq cH (⟨[t1]⟩:cn)),LT,(15,tV (aI b2 0)),(16,tV (aI b3 0)),(20,bq aW e3),(23,d7 (bU) r2.1),(27,pQ l7 c7 r3),(28,tV (aw none 0 (Ev.length))),(136,tD CP ([project,group])),(137,bH (i2:Int)),(183,d7 (p5) rows),(184,hM rows),(185,bH (i5:Int)),(192,tD p5 e6),(193,bH (i6:Int))]) (fun i6 r3 l7 c7 h=>?_) (fun k7 ih5 i6 r3 l7 c7 h=>?_) 4 0 Ev none 0 ⟨J,h⟩) (aZ J)
               ·obtain⟨hx5,h⟩:=h
                refine av<|aq<|zo J (dI (ht J) hI)<|an<|ae<|bp (ht J) (Ld hx5)<|bg ?_;refine ac (ac (aF ?_));refine au ?_;refine zD (Z:=fun s l8 c8=>eQ r2 e5 (dD (bW rows t1 group project k3) i2 e3 r2 e5 tl1) i5 r3 s=some R) (Of:=fun s l8 c8=>[eF af 82 l7 c7 r3,cG af 82 l8 c8 s,bx dU 50 b2 (eM project (aw l5 c5 project.Items.length)),eF bn 45 l5 c5 project.Items,bx dV 50 b3 (eN group (aw l4 c4 group.Keys.length)),eF bQ 3 l4 c4 group.Keys]) (Gf:=fun s l8 c8=>[(2,d7 (p5) rows),(13,bq cH (⟨[t1]⟩:cn)),LT,(15,tV (aI b2 0)),(16,tV (aI b3 0)),(20,bq aW e3),(23,d7 (bU) r2.1),(27,tO af l7 c7 r3),(28,pQ l8 c8 s),(136,tD CP ([project,group])),(137,bH (i2:Int)),(183,d7 (p5) rows),(184,hM rows),(185,bH (i5:Int))]) (fun s l8 c8 h=>?_) (fun K4=>?_)
                ·skip
                 refine aq<|aA J<|aA J<|bF h fun e8 q_e8 h=>zo J (bX uj fe J (ht J) hI q_e8)<|zo J (cd pK jG J J)<|zo J (bz ce J J)<|bF h fun r4 q_r4 h=>zo J (aD Vr (M9 _ _ q_r4) ⟨(pC (ht J)),(ht J),aU⟩)<|aA J<|zo J (hY J J)<|zo J (hY J J)<|bk J<|bk J<|an<|aq<|aA J<|aA J<|zo J (bX uj fe J (ht J) hI q_e5)<|zo J (cd pK jG J J)<|zo J (bz ce J J) ?_;refine bD<|oZ<|oc 28 J<|oc 250 J<|bF h fun r5 q_r5 h=>zo J (aD Vr (M9 _ _ q_r5) ⟨(pC (ht J)),(ht J),aU⟩)<|aA J<|zo J (hY J J)<|zo J (hY J J)<|bk J<|bk J<|an<|aq<|aA J<|zo J (rn J)<|aA J<|cN J J (fun hg=>cL J)<|cN J J (fun hg=>dg (aS J hg) hI)<|zo J (pZ J J)<|aA J<|cN J J (fun hg=>cL J)<|cN J J (fun hg=>cL J) ?_;refine cN J J (fun hg=>dg (aS J hg) (aS J hg))<|zo J (pZ J J)<|an<|cX h J (fun h=>?_) (fun h=>?_)
                 ·refine aq<|zo J (fJ)<|an<|aj ?_;refine aC (aa (aa (aC (aC (aa (aa (aC (aa ?_))))))));refine ba<|ba<|ba<|ba<|ba<|ba ?_;cases so h;exact aB J J
                 ·refine bA<|am<|au<|ai<|zo rfl (jU (cz hx4 hN4) rfl)<|aA rfl<|aH<|ba<|ba ?_;exact aT (aJ (ih4 (i5+1) ⟨cy hx4,h⟩) (aZ J))
                ·skip
                 refine aq<|zo J (cd iq da J J)<|zo J (bz bJ J J)<|zo J (jy J)<|an<|cX h J (fun h=>?_) (fun h=>?_)
                 ·refine aq<|zo J (cd kq fZ J J)<|zo J (bz ce J J)<|zo J (ja dm J)<|zo J (bl hI)<|an<|ax<|aV (k:=206) J fun hN6=>bB ?_;refine aJ (mp (Z:=fun ls2 i7 s1 l9 c9=>(e3.Keys.drop i7=ls2)∧ea r2 e5 (dD (bW rows t1 group project k3) i2 e3 r2 e5 tl1) i5 r3 ls2 s1=some R) (Of:=fun _ i7 s1 l9 c9=>[cG af 82 l7 c7 r3,cG af 82 l9 c9 s1,bx dU 50 b2 (eM project (aw l5 c5 project.Items.length)),eF bn 45 l5 c5 project.Items,bx dV 50 b3 (eN group (aw l4 c4 group.Keys.length)),eF bQ 3 l4 c4 group.Keys]) (Gf:=fun _ i7 s1 l9 c9=>[(2,d7 (p5) rows),(13,bq cH (⟨[t1]⟩:cn)),LT,(15,tV (aI b2 0)),(16,tV (aI b3 0)),(20,bq aW e3),(23,d7 (bU) r2.1),(27,pQ l7 c7 r3),(28,pQ l9 c9 s1),(136,tD CP ([project,group])),(137,bH (i2:Int)),(183,d7 (p5) rows),(184,hM rows),(185,bH (i5:Int)),(206,kz e3.Keys),(207,hM e3.Keys),(208,bH (i7:Int))]) (fun i7 s1 l9 c9 h=>?_) (fun e9 tl2 ih6 i7 s1 l9 c9 h=>?_) e3.Keys 0 Ev none 0 ⟨J,h⟩) (aZ J)
                  ·obtain⟨hx6,h⟩:=h
                   refine av<|aq<|zo J (eK J J)<|an<|ae<|bp (ht J) (cW hx6)<|bg ?_;refine ac (ac (aF ?_));refine gG<|gh 27 J ?_;exact bL (K4 s1 l9 c9 h) (aZ J)
                  ·obtain⟨hx6,h⟩:=h
                   refine av<|aq<|zo J (eK J J)<|an<|ae<|bo (ht J) (cU hx6)<|dA<|ae<|ax<|aq<|zo J (iX dm bJ J J J (cP hx6))<|zo J (bz bJ J J)<|bk J<|an<|ai<|aA J<|aA J<|aA J<|bF h fun e10 q_e10 h=>?_;refine zo J (dk sW bt (.head _) (ht J) (ht J) q_e10)<|zo J (fG (r:=af) (i:=e9) (foff:=0) bt J J cF J (.head _) q_e10 (ht J))<|zo J (aP (r:=af) (ys:=[e10]) (xs:=[.tmp 216]) sW bt J J J J J ⟨(ht J),aU⟩)<|bD<|bF h fun s2 q_s2 h=>ep bt J J J J sW J J (ht J) (ht J) q_s2 fun l10 c10=>bk J<|aH<|am<|au<|ai<|zo rfl (jU (cz hx6 hN6) rfl)<|aA rfl<|aH<|lH<|lH<|lH<|lH<|gZ<|lH ?_;exact aT (aJ (ih6 (i7+1) s2 l10 c10 ⟨cy hx6,h⟩) (aZ J))
                 ·refine aq<|zo J (cd sl tE J J)<|zo J (bz CT J J)<|zo J (ja sX J)<|zo J (bl hI)<|an<|ax<|aV (k:=221) J fun hN7=>bB<|zB<|yC 27 J ?_;refine aJ (mp (Z:=fun ls3 i8 s3 l11 c11=>(e3.Items.drop i8=ls3)∧d9 r2 e5 (dD (bW rows t1 group project k3) i2 e3 r2 e5 tl1) i5 r3 ls3 s3=some R) (Of:=fun _ i8 s3 l11 c11=>[eF af 82 l7 c7 r3,cG af 82 l11 c11 s3,bx dU 50 b2 (eM project (aw l5 c5 project.Items.length)),eF bn 45 l5 c5 project.Items,bx dV 50 b3 (eN group (aw l4 c4 group.Keys.length)),eF bQ 3 l4 c4 group.Keys]) (Gf:=fun _ i8 s3 l11 c11=>[(2,d7 (p5) rows),(13,bq cH (⟨[t1]⟩:cn)),LT,(15,tV (aI b2 0)),(16,tV (aI b3 0)),(20,bq aW e3),(23,d7 (bU) r2.1),(27,tO af l7 c7 r3),(28,pQ l11 c11 s3),(136,tD CP ([project,group])),(137,bH (i2:Int)),(183,d7 (p5) rows),(184,hM rows),(185,bH (i5:Int)),(221,d7 (bn) e3.Items),(222,hM e3.Items),(223,bH (i8:Int))]) (fun i8 s3 l11 c11 h=>?_) (fun e11 tl3 ih7 i8 s3 l11 c11 h=>?_) e3.Items 0 Ev none 0 ⟨J,h⟩) (aZ J)
                  ·obtain⟨hx7,h⟩:=h
                   refine av<|aq<|zo J (eK J J)<|an<|ae<|bp (ht J) (cW hx7)<|bg ?_;refine ac (ac (aF ?_));exact bL (K4 s3 l11 c11 h) (aZ J)
                  ·obtain⟨hx7,h⟩:=h
                   refine av<|aq<|zo J (eK J J)<|an<|ae<|bo (ht J) (cU hx7)<|dA<|ae<|ax<|aq<|zo J (iX sX gj J J J (cP hx7))<|zo J (bz gj J J)<|aO (r:=bn) (x:=nH) gj (fun _=>nJ _) J fun b6=>ay gj J ap J (ht J) (ht J)<|aL 34 J<|an<|aq<|zo J (bz gj J J) ?_;refine aA J<|bF h fun r6 q_r6 h=>zo J (aD Yo (TB _ _ q_r6) ⟨(ht J),(pC (ht J)),aU⟩)<|aA J<|zo J (hY J J)<|zo J (hY J J)<|aO (r:=af) (x:=lb) bt (fun _=>ca _) J fun b7=>ay bt J ap J (ht J) (ht J)<|aL 35 J<|bk J<|an<|ae<|aq<|aA J<|zo J (rn J)<|an<|cX h J (fun h=>?_) (fun h=>?_)
                   ·refine aq<|zo J (fJ)<|an<|aj ?_;refine aa (aC (aa (aa (aC (aa (aC (aa (aa (aC (aC (aa (aa (aC (aa ?_))))))))))))));refine ba<|ba<|ba<|ba<|ba<|ba ?_;cases so h;exact aB J J
                   ·refine dA<|ai<|aA J<|zo J (bz bt J J)<|zo J (aP (r:=af) (ys:=[r6.1]) (xs:=[.tmp 236]) sW bt J J J J J ⟨(ht J),aU⟩)<|bD<|bF h fun s4 q_s4 h=>ep bt J J J J sW J J (ht J) (ht J) q_s4 fun l12 c12=>bk J<|aH<|am<|au<|ai<|zo rfl (jU (cz hx7 hN7) rfl)<|aA rfl<|aH<|lH<|lH<|lH<|lH<|gZ<|lH ?_;exact aT (aJ (ih7 (i8+1) s4 l12 c12 ⟨cy hx7,h⟩) (aZ J))
               ·obtain⟨hx5,h⟩:=h
                refine av<|aq<|zo J (dI (ht J) hI)<|an<|ae<|bo (ht J) (Lc hx5)<|dA<|ae<|ax<|aq<|bF h fun e12 q_e12 h=>zo J (y8 Tryz.underlying94 Ky J J (ht J) (ht J) q_e12)<|bk J<|an<|ai<|aA J<|aA J<|bF h fun r7 q_r7 h=>zo J (aD TW (Iy _ q_r7) ⟨(ht J),aU⟩) ?_;refine zo J (aP (r:=af) (ys:=[r7]) (xs:=[.tmp 198]) sW bt J J J J J ⟨(ht J),aU⟩)<|bF h fun r8 q_r8 h=>ep bt J J J J sW J J (ht J) (ht J) q_r8 fun l13 c13=>bk J<|aH<|am<|au<|ai<|zo rfl (rA (Ii hx5 (by decide)) (ht rfl) hI)<|aA rfl<|aH ?_;exact aT (aJ (ih5 (i6+1) r8 l13 c13 ⟨Ih hx5,h⟩) (aZ J))
         ·obtain⟨hx3,h⟩:=h
          refine av<|aq<|zo J (eK J J)<|an<|ae<|bo (ht J) (Lc hx3)<|dA<|ae<|ax<|aq<|aA J<|bk J<|an<|ai<|aA J<|aA J<|bF h fun e13 q_e13 h=>zo J (dk dm bJ (.head _) (ht J) (ht J) q_e13)<|bF h fun st q_st h=>?_;refine qu bJ J ap J q_e13 (so q_st) (ht J) hI<|mH (nO (so q_st)) 21 J<|mH (nO (so q_st)) 156 J<|aH<|am<|au<|ai<|zo rfl (rA (Ii hx3 (SU hN3)) (ht rfl) hI)<|aA rfl<|aH ?_;exact aT (aJ (ih3 (i4+1) st ⟨Ih hx3,h⟩) (aZ J))
        ·skip
         refine aq<|zo J (cd iq da J J)<|zo J (bz bJ J J)<|zo J (jy J)<|an<|cX h J (fun h=>?_) (fun h=>?_)
         ·refine ai<|zo J (fI 7 kq J J J)<|zo J (gD ce qh (.tail _ (.tail _ (.tail _ (.head _)))) (.tail _ (.tail _ (.tail _ (.tail _ (.head _))))) J (ht J))<|zo J (bN dm (pC (ht J)))<|bF h fun mk1 q_mk1 h=>vo (GW (r:=bQ) (x:=(0:Int)) bJ J J J dm (fun _=>J) (ht J) (ht J) q_mk1) J fun i9=>bk J<|aH<|aX<|ba ?_;exact bL (K2 mk1 (i9.h 0).1 (i9.h 0).2 h) (aZ J)
         ·refine bA ?_;exact bL (K2 mk (i3.h 0).1 (i3.h 0).2 h) (aZ J)
    ·skip
     refine aV (k:=84) J fun hN8=>bB<|vZ<|mK<|vZ<|mK<|vZ<|mK<|fc<|fc<|d3<|d3 ?_;refine aJ (yE (Z:=fun ls4 i10 project1 l14 c14 group1 l15 c15=>(items.drop i10=ls4)∧eO rows t1 ls4 i10 project1 group1=some R) (Of:=fun _ i10 project1 l14 c14 group1 l15 c15=>[bx dU 50 b2 (eM project1 (aw l14 c14 project1.Items.length)),eF bn 45 l14 c14 project1.Items,bx dV 50 b3 (eN group1 (aw l15 c15 group1.Keys.length)),eF bQ 3 l15 c15 group1.Keys]) (Gf:=fun _ i10 project1 l14 c14 group1 l15 c15=>[(2,d7 (p5) rows),(13,bq cH (⟨[t1]⟩:cn)),LT,(15,tV (aI b2 0)),(16,tV (aI b3 0)),(84,kz items),(85,hM items),(86,bH (i10:Int))]) (fun i10 project1 l14 c14 group1 l15 c15 h=>?_) (fun e14 tl4 ih8 i10 project1 l14 c14 group1 l15 c15 h=>?_) items 0 ({(⟨(5:Int),(0:Int),mt,(0:Int),[],false,nH,[],[],[],[],(0:Int)⟩:aK)with Items:=N2}:aK) none 0 ({(⟨(4:Int),(0:Int),mt,(0:Int),[],false,nH,[],[],[],[],(0:Int)⟩:aK)with Keys:=mu}:aK) none 0 ⟨J,h⟩) (aZ J)
     ·obtain⟨hx8,h⟩:=h
      refine av<|aq<|zo J (eK J J)<|an<|ae<|bp (ht J) (cW hx8)<|bg ?_;refine ac (ac (aF ?_));refine aX<|aX<|bv<|bv ?_;exact bL (K group1 l15 c15 project1 l14 c14 h) (aZ J)
     ·obtain⟨hx8,h⟩:=h
      refine av<|aq<|zo J (eK J J)<|an<|ae<|bo (ht J) (cU hx8)<|dA<|ae<|ax<|aq<|aA J<|zo J (iX dm bJ J J J (cP hx8))<|zo J (bz bJ J J)<|bk J<|bk J<|an<|ae<|aq ?_;refine aA J<|zo J (jy J)<|an<|cX h J (fun h=>?_) (fun h=>?_)
      ·refine bg ?_;refine ac (bM J (ac (ac (aF ?_))));refine aX<|aX<|bv<|bv ?_;exact bL (K group1 l15 c15 project1 l14 c14 h) (aZ J)
      ·refine dA<|aq<|aA J<|zo J (dQ (ht J) hI)<|aA J<|bO J J (fun hg=>cL J)<|bO J J (fun hg=>dI (aS J hg) hI)<|zo J (la J J)<|an<|cX h J (fun h=>?_) (fun h=>?_)
       ·refine ae<|bF h fun r9 q_r9 h=>?_
        refine oh 5 (ts:=[tV (aI b2 9),tO bn l14 c14 project1.Items,bH e14,tD bn r9,d7 (bn) ([r9])]) mixed J J J
         ⟨ia 15 J J J (fI 9 sl J J J),
         ⟨cO 99 0 J J J (gD CT qg (.head _) (.tail _ (.head _)) J (ht J)),
         ⟨ia 18 J J J (cL J),
         ⟨cO 101 2 J J J (aD Yq (TD _ q_r9) ⟨(ht J),aU⟩),
         ⟨cO 102 3 J J J (aP (r:=bn) (ys:=[r9]) (xs:=[.tmp 102]) sX gj J J J J J ⟨(ht J),aU⟩),
         aU⟩⟩⟩⟩⟩ ?_
        refine bD<|bF h fun l16 q_l16 h=>j5 gj J J J J sX J J (ht J) (ht J) q_l16 fun l17 c16=>zo J (fI 9 sl J J J)<|bD<|dB CT J (pp _ _ _) J (ht J) (AW (xz (ht J)))<|an<|aq<|zo J (fI 7 kq J J J)<|zo J (gD ce qh (.tail _ (.tail _ (.head _))) (.tail _ (.tail _ (.tail _ (.head _)))) J (ht J))<|zo J (bN dm (pC (ht J)))<|zo J (dI (ht J) hI)<|an<|cX h J (fun h=>?_) (fun h=>?_)
        ·refine ai<|zo J (fI 7 kq J J J)<|zo J (gD ce qh (.tail _ (.tail _ (.head _))) (.tail _ (.tail _ (.tail _ (.head _)))) J (ht J))<|aA J<|zo J (aP (r:=bQ) (ys:=[e14]) (xs:=[.tmp 112]) dm bJ J J J J J ⟨(ht J),aU⟩)<|dZ<|bF h fun l18 q_l18 h=>j5 bJ J J J J dm J J (ht J) (ht J) q_l18 fun l19 c17=>zo J (fI 7 kq J J J)<|dZ<|dB ce J (uw _ _ _) J (ht J) (AW (xz (ht J)))<|aH<|am<|au<|ai<|zo rfl (jU (cz hx8 hN8) rfl)<|aA rfl<|aH<|aX<|aX<|bv<|bv ?_;exact aT (aJ (ih8 (i10+1) ({project1 with Items:=l16}:aK) l17 c16 ({group1 with Keys:=l18}:aK) l19 c17 ⟨cy hx8,h⟩) (aZ J))
        ·refine bA<|am<|au<|ai<|zo rfl (jU (cz hx8 hN8) rfl)<|aA rfl<|aH ?_;exact aT (aJ (ih8 (i10+1) ({project1 with Items:=l16}:aK) l17 c16 group1 l15 c15 ⟨cy hx8,h⟩) (aZ J))
       ·obtain⟨r10,q_r10,h⟩:=bs h
        refine oh 5 (ts:=[tV (aI b2 9),tO bn l14 c14 project1.Items,bH e14,tD bn r10,d7 (bn) ([r10])]) mixed J J J
         ⟨ia 15 J J J (fI 9 sl J J J),
         ⟨cO 116 0 J J J (gD CT qg (.head _) (.tail _ (.head _)) J (ht J)),
         ⟨ia 18 J J J (cL J),
         ⟨cO 118 2 J J J (aD Yp (TC _ q_r10) ⟨(ht J),aU⟩),
         ⟨cO 119 3 J J J (aP (r:=bn) (ys:=[r10]) (xs:=[.tmp 119]) sX gj J J J J J ⟨(ht J),aU⟩),
         aU⟩⟩⟩⟩⟩ ?_
        refine bD<|bF h fun l20 q_l20 h=>j5 gj J J J J sX J J (ht J) (ht J) q_l20 fun l21 c18=>zo J (fI 9 sl J J J)<|bD<|dB CT J (pp _ _ _) J (ht J) (AW (xz (ht J)))<|aH<|am<|au<|ai<|zo rfl (jU (cz hx8 hN8) rfl)<|aA rfl<|aH ?_;exact aT (aJ (ih8 (i10+1) ({project1 with Items:=l20}:aK) l21 c18 group1 l15 c15 ⟨cy hx8,h⟩) (aZ J))
   ·obtain⟨hx1,h⟩:=h
    refine av<|aq<|zo J (dI (ht J) hI)<|an<|ae<|bo (ht J) (Lc hx1)<|dA<|ae<|ax<|aq<|aA J<|bk J<|an<|aq<|aA J<|zo J (ja dm J)<|zo J (bl hI)<|aH ?_;refine au ?_;refine LP (Z:=fun t2 l22 c19 l23 c20=>lK (cg items keys rows k1) i1 t2=some R) (Of:=fun t2 l22 c19 l23 c20=>[bx eU 40 b (fV t2 (aw l22 c19 t2.Columns.length) (aw l23 c20 t2.Keys.length)),eF cB 42 l22 c19 t2.Columns,eF bQ 3 l23 c20 t2.Keys]) (Gf:=fun t2 l22 c19 l23 c20=>[(0,kz items),(1,kz keys),(2,d7 (p5) rows),(7,tV (aI b 0)),(58,bH (i1:Int))]) (fun t2 l22 c19 l23 c20 h=>?_) (fun K5=>?_)
    ·skip
     refine am<|au<|ai<|zo rfl (rA (Ii hx1 (by decide)) (ht rfl) hI)<|aA rfl<|aH ?_;exact aT (aJ (ih1 (i1+1) t2 l22 c19 l23 c20 ⟨Ih hx1,h⟩) (aZ J))
    ·skip
     refine aV (k:=61) J fun hN9=>bB ?_;refine aJ (Cw (Z:=fun ls5 i11 t3 l24 c21 l25 c22=>(keys.drop i11=ls5)∧gy (cg items keys rows k1) i1 ls5 t3=some R) (Of:=fun _ i11 t3 l24 c21 l25 c22=>[bx eU 40 b (fV t3 (aw l24 c21 t3.Columns.length) (aw l25 c22 t3.Keys.length)),eF cB 42 l24 c21 t3.Columns,eF bQ 3 l25 c22 t3.Keys]) (Gf:=fun _ i11 t3 l24 c21 l25 c22=>[(0,kz items),(1,kz keys),(2,d7 (p5) rows),(7,tV (aI b 0)),(10,bH (i1:Int)),(58,bH (i1:Int)),(61,kz keys),(62,hM keys),(63,bH (i11:Int))]) (fun i11 t3 l24 c21 l25 c22 h=>?_) (fun e15 tl5 ih9 i11 t3 l24 c21 l25 c22 h=>?_) keys 0 t1 l2 c2 l3 c3 ⟨J,h⟩) (aZ J)
     ·obtain⟨hx9,h⟩:=h
      refine av<|aq<|zo J (eK J J)<|an<|ae<|bp (ht J) (cW hx9)<|bg ?_;refine ac (ac (aF ?_));exact bL (K5 t3 l24 c21 l25 c22 h) (aZ J)
     ·obtain⟨hx9,h⟩:=h
      refine av<|aq<|zo J (eK J J)<|an<|ae<|bo (ht J) (cU hx9)<|dA<|ae<|ax<|aq<|zo J (iX dm bJ J J J (cP hx9))<|zo J (bz bJ J J)<|bk J<|an<|aq<|aA J<|aA J<|zo J (bK (ht J) (ht J)) ?_;refine an<|cX h J (fun h=>?_) (fun h=>?_)
      ·refine aq<|zo J (fI 2 Ca J J J)<|zo J (gD ce B2 (.head _) (.tail _ (.tail _ (.head _))) J (ht J))<|aA J<|zo J (aP (r:=bQ) (ys:=[(i1:Int)]) (xs:=[.tmp 72]) dm bJ J J J J J ⟨(ht J),aU⟩)<|jg<|bF h fun l26 q_l26 h=>j5 bJ J J J J dm J J (ht J) (ht J) q_l26 fun l27 c23=>zo J (fI 2 Ca J J J)<|bD<|dB ce J (rY _ _ _ _) J (ht J) (AW (xz (ht J)))<|an<|bg ?_;refine bM J (ac (ac (aF ?_)));refine aX<|aR<|aR ?_;exact bL (K5 ({t3 with Keys:=l26}:bu) l24 c21 l27 c23 h) (aZ J)
      ·refine bA<|am<|au<|ai<|zo rfl (jU (cz hx9 hN9) rfl)<|aA rfl<|aH ?_;exact aT (aJ (ih9 (i11+1) t3 l24 c21 l25 c22 ⟨cy hx9,h⟩) (aZ J))
  ·obtain⟨hx,h⟩:=h
   refine av<|aq<|zo J (eK J J)<|an<|ae<|bo (ht J) (cU hx)<|dA<|ae<|ax<|aq<|zo J (iX FP ED J J J (cP hx))<|zo J (bz ED J J)<|bk J<|an<|ai<|zo J (fI 1 u9 J J J)<|zo J (gD F4 B3 (.head _) (.tail _ (.head _)) J (ht J))<|aA J<|zo J (cb (y:=(⟨e,(2:Int)⟩:bw)) p8 S8 qm (⟨_,_,_,_,_,J,uC,J,(ht J),⟨_,_,_,_,_,J,uB,J,hI,J⟩⟩)) ?_;refine zo J (aP (r:=cB) (ys:=[(⟨e,(2:Int)⟩:bw)]) (xs:=[.tmp 53]) xj p8 J J J J J ⟨(ht J),aU⟩)<|bD<|bF h fun l28 q_l28 h=>j5 p8 J J J J xj J J (ht J) (ht J) q_l28 fun l29 c24=>zo J (fI 1 u9 J J J)<|bD<|dB F4 J (rZ _ _ _ _) J (ht J) (AW (xz (ht J)))<|aH<|am<|au<|ai<|zo rfl (jU (cz hx hN) rfl)<|aA rfl<|aH ?_;exact aT (aJ (ih (i+1) ({t with Columns:=l28}:bu) l29 c24 l1 c1 ⟨cy hx,h⟩) (aZ J))

end Go.Proofs.YtmogpgcfognefaaGreatDoor

