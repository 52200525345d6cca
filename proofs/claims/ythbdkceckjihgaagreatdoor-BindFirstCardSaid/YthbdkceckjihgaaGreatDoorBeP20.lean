/- cu of this claim: P20. -/
import Derived.Test.YthbdkceckjihgaaGreatDoorBeT
import Derived.Test.YthbdkceckjihgaaGreatDoorBeP19
import Derived.Test.YthbdkceckjihgaaGreatDoorBeMS
set_option linter.all false
namespace Go.Proofs.YthbdkceckjihgaaGreatDoor
open Go
set_option maxRecDepth 100000

def WT p y more{R}(h:qN p y more=some R):dn aO 4 [K bX p,K bd y,K aB more] (ml R):=by
 refine eu Tryz.func4 I<|bB<|ea I<|ea I<|ea I<|dA<|ci<|bJ<|hU h cb9 WM trivial fun r h=>af (nZ (M I))<|dY h I (fun h=>?_) (fun h=>?_)
 ·exact bB<|dA<|ie<|aw<|so h▸aT I I
 ·refine nw<|aM<|cI h fun r1 q_r1 h=>cI h fun r2 q_r2 h=>?_
  refine J2 6 [tc (K bX p),tc (K bX r1),tc (K bd y),tc (K bd r2),([4],fun s=>Q (ai ((s.getD 0 nj).h 0).2 0)),([5],fun s=>Q (ai ((s.getD 0 nj).h 0).2 0))] [false,false,false,false,true,true] [([],fun _=>[]),([4],fun sg=>[bx bX 24 ((sg 4).h 0).2 G1]),([5],fun sg=>[bx bd 31 ((sg 5).h 0).2 yJ]),([4,5],fun sg=>[bx bd 31 ((sg 5).h 0).2 yJ,bx bX 24 ((sg 4).h 0).2 G1])] (fun _=>I) mixed I I I I
   ⟨⟨[⟨3,fun _=>bn bX p,none⟩],_,[[],[4],[5],[4,5]],I,⟨(fun _=>I),J⟩,I,I,I,I,I,⟨fun sg=>aC I (ur rN I I),fun sg=>aC I (ur rN I I),fun sg=>aC I (ur rN I I),fun sg=>aC I (ur rN I I),J⟩⟩,
   ⟨⟨[⟨18,fun _=>K bX p,some 0⟩],_,[[],[4],[5],[4,5]],I,⟨(fun _=>I),J⟩,I,I,I,I,I,⟨fun sg=>aC I (bL Tw (HU _ q_r1) ⟨(M I),J⟩),fun sg=>aC I (bL Tw (HU _ q_r1) ⟨(M I),J⟩),fun sg=>aC I (bL Tw (HU _ q_r1) ⟨(M I),J⟩),fun sg=>aC I (bL Tw (HU _ q_r1) ⟨(M I),J⟩),J⟩⟩,
   ⟨⟨[⟨4,fun _=>bn bd y,none⟩],_,[[],[4],[5],[4,5]],I,⟨(fun _=>I),J⟩,I,I,I,I,I,⟨fun sg=>aC I (ur oQ I I),fun sg=>aC I (ur oQ I I),fun sg=>aC I (ur oQ I I),fun sg=>aC I (ur oQ I I),J⟩⟩,
   ⟨⟨[⟨20,fun _=>K bd y,some 2⟩],_,[[],[4],[5],[4,5]],I,⟨(fun _=>I),J⟩,I,I,I,I,I,⟨fun sg=>aC I (bL Pe (EG _ q_r2) ⟨(M I),J⟩),fun sg=>aC I (bL Pe (EG _ q_r2) ⟨(M I),J⟩),fun sg=>aC I (bL Pe (EG _ q_r2) ⟨(M I),J⟩),fun sg=>aC I (bL Pe (EG _ q_r2) ⟨(M I),J⟩),J⟩⟩,
   ⟨⟨[],_,[([],[4]),([5],[4,5])],I,J,I,I,I,I,I,⟨fun sg=>bw I (na rN pE),fun sg=>bw I (EffOK.post_imp (post:=fun x__=>(fun(sg:Nat->OI)=>[bx bX 24 ((sg 4).h 0).2 G1,bx bd 31 ((sg 5).h 0).2 yJ]) (upd sg 4 x__)) (na rN pE) (fun h=>cN.pick [1,0] I h)),J⟩⟩,
   ⟨⟨[],_,[([],[5]),([4],[4,5])],I,J,I,I,I,I,I,⟨fun sg=>bw I (na oQ rM),fun sg=>bw I (na oQ rM),J⟩⟩,
   J⟩⟩⟩⟩⟩⟩ (fun sg=>?_)
  refine(show RG _ _ _ _ [_,_] _ from ?_);refine cE<|cm rN am I<|aX 7 I<|cm oQ am I<|aX 8 I<|ci<|bB<|dM rN I<|dM oQ I<|hU h Tv (HT _ _) (eS I) fun r3 h=>bE I<|dX I I<|dX I I<|dX I I<|aW oG nz I fun b=>cm oG am I<|aX 9 I<|lj I<|bH I ?_;refine bJ<|bE I<|hM I<|bE I<|br I (eC I)<|br I (oK I)<|mp I<|bE I<|br I (eC I)<|br I (oK I)<|mp I<|dY h I (fun h=>?_) (fun h=>?_)
  ·exact bB<|dA<|ie<|aw<|so h▸aT I I
  ·refine nw<|bB<|dM oQ I<|cI h fun r4 q_r4 h=>wT [] _ I Pe (WY _ q_r4) ⟨(M I),J⟩ I fun i=>?_;refine(show RG _ _ _ _ [_,_] _ from ?_);refine cn true aB 55<|cn true d5 57<|aW (r:=cx) (x:=c0 yJ (Y none 0 (([]:List al).length)) (Y none 0 (([]:List lT).length))) oQ GX I fun b1=>la<|lb<|cE<|rF<|lb<|cE<|eA (r' :=cx) oQ I (eJ I) I (M I) (M I)<|la<|nT<|la<|nT<|ci ?_;refine Ps (aA:=fun longer l c l1 c1=>jJ r1 r3 longer=some R) (Of:=fun longer l c l1 c1=>[bx cx 31 b1 (c0 longer (Y l c longer.Selects.length) (Y l1 c1 longer.Keys.length)),Z aB 55 l c longer.Selects,Z d5 57 l1 c1 longer.Keys]) (Gf:=fun longer l c l1 c1=>[(7,bn bX r1),(10,ba r3.2.1),(11,ba r3.2.2),(12,Q (ai b1 0))]) (fun longer l c l1 c1 h=>?_) (fun tD=>?_)
   ·skip
    refine bB<|dM rN I<|cE<|ib<|af (n4 (q:=bd) (y:=longer) oQ I I I I (.tail _ (.tail _ (.head _))) (fun _ _ _ ho h=>Ax (nN ho (.tail _ (.head _))) (nN ho (.head _)) h) (M I))<|hU h Tv (HT _ _) (eS I) fun r5 h=>bE I<|dX I I<|dX I I<|dX I I<|aW oG nz I fun b2=>cm oG am I<|aX 13 I<|lj I<|bH I<|aL I<|hM I<|bE I ?_;exact br I (eC I)<|br I (eC I)<|br I (fun hg=>qe (db I hg) (db I hg))<|br I (vj I)<|fa I I I I (fun hg=>jz I)<|fa I I I I (fun hg=>jz I)<|fa I I I I (fun hg=>qe (db I hg) (db I hg))<|br I (fun hg=>lv (db I hg) (fun H=>(db I (vK hg H))))<|mp I<|bm I<|aK<|aK<|aK<|so h▸aT I I
   ·skip
    refine aL I<|af (jn (M I) hI)<|dY h I (fun h=>?_) (fun h=>?_)
    ·refine cI h fun r6 q_r6 h=>cI h fun e q_e h=>?_
     refine po 10 (ts:=[Q (ai b1 0),tO aB (i.h 0).1 (i.h 0).2 r4.Selects,K aB more,iL (aB) ([more]),K bd (⟨[more],[],(0:Int)⟩:aN),K bd r6,iL (aB) r6.Selects,bn aB e,K aB e,iL (aB) ([e])]) mixed I I I
      ⟨xQ 12 I I (mW 0 pe I I I),
      ⟨ka 43 0 I I (xh yQ sf (.head _) (.tail _ (.tail _ (.head _))) I (M I)),
      ⟨xQ 5 I I (ur np I I),
      ⟨ka 45 2 I I (aZ (r:=aB) (ys:=[more]) (xs:=[.tmp 45]) sF np I I I I I ⟨(M I),J⟩),
      ⟨ka 46 3 I I (cd (y:=(⟨[more],[],(0:Int)⟩:aN)) oQ WF rM (⟨_,_,_,_,_,I,DE,I,(M I),I⟩)),
      ⟨ka 47 4 I I (bL Pe (EG _ q_r6) ⟨(M I),J⟩),
      ⟨ka 48 5 I I (Qu (show Lf aO 31 0=some (28,0) by kernel_rfl) yQ I I I oa (M I)),
      ⟨ka 49 6 I I (iq sF np I (M I) hI q_e),
      ⟨yM 7 np I I,
      ⟨ka 51 8 I I (aZ (r:=aB) (ys:=[e]) (xs:=[.tmp 51]) sF np I I I I I ⟨(M I),J⟩),
      J⟩⟩⟩⟩⟩⟩⟩⟩⟩⟩ ?_
     refine ib<|cI h fun l2 q_l2 h=>oe np I I I I sF I I (M I) (M I) q_l2 fun l3 c2=>bt 0 pe I<|cE<|eA yQ I (tB r4 _ _ _) I (M I) (J5 (vX (M I)))<|bN ?_;exact dh (tD ({r4 with Selects:=l2}:aN) l3 c2 (i.h 1).1 (i.h 1).2 h) (bI I)
    ·refine bg<|bt 1 tL I<|af (xh CA Er (.head _) (.tail _ (.head _)) I (M I))<|af (cd (y:=(⟨[],(1:Int),false⟩:lT)) yP WD GY (⟨_,_,_,_,_,I,II,I,hI,I⟩))<|af (aZ (r:=d5) (ys:=[(⟨[],(1:Int),false⟩:lT)]) (xs:=[.tmp 57]) AQ yP I I I I I ⟨(M I),J⟩)<|cE<|cI h fun l4 q_l4 h=>oe yP I I I I AQ I I (M I) (M I) q_l4 fun l5 c3=>bt 1 tL I<|cE<|eA CA I (tA r4 _ _ _) I (M I) (J5 (vX (M I)))<|bN<|dc<|gT<|gT ?_;exact dh (tD ({r4 with Keys:=l4}:aN) (i.h 0).1 (i.h 0).2 l5 c3 h) (bI I)

end Go.Proofs.YthbdkceckjihgaaGreatDoor

