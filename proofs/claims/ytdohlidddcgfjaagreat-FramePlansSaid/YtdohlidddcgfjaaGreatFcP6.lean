/- cE of this claim: P6. -/
import Derived.Test.YtdohlidddcgfjaaGreatFcT
import Derived.Test.YtdohlidddcgfjaaGreatFcP5
set_option linter.all false
namespace Go.Proofs.YtdohlidddcgfjaaGreat
open Go
set_option maxRecDepth 100000

def Uy l o{R}(h:nC l o=some R):cX bd 208 [tD gy o,ck (rPt bQ) l] (fM R):=by
 refine dK Tryz.func208 J<|d<|dl J<|bm<|bu<|aP ?_
 refine gO (ts:=[_,_,_,_,_,_,_,_,_,_,_,_,_,_]) mixed J J
  ⟨zZ 2 J J (oq y9 uI J J),
  ⟨lK 0 bB J J,
  ⟨ff 5 1 J J (fH (D J) hI),
  ⟨ff 6 2 J J (mt J),
  ⟨tt 2 7 3 J J J (iS J J J J (fun Y=>oq y9 uI J J)),
  ⟨km 8 4 7 3 J J J (iS J J J J (fun Y=>ej bB J J (bl J Y))),
  ⟨tt 1 7 3 J J J (iS J J J J (fun Y=>(yT D5 J J).imp (fun _ _ h=>Tc.1 h))),
  ⟨km 10 6 7 3 J J J (iS J J J J (fun Y=>TD (bl J Y))),
  ⟨km 11 7 7 3 J J J (iS J J J J (fun Y=>fj kh J qt J (bl J Y))),
  ⟨km 12 8 7 3 J J J (iS J J J J (fun Y=>ej cu J J (bl J Y))),
  ⟨km 13 9 7 3 J J J (iS J J J J (fun Y=>eS df (bl J Y))),
  ⟨CP 9 5 14 10 7 3 J J J J (iS J J J J (fun Y=>dB (bl J Y) (bl J Y))),
  ⟨ga 7 3 15 11 J J J (YQ J J),
  ⟨ff 16 12 J J (DX J),
  aZ⟩⟩⟩⟩⟩⟩⟩⟩⟩⟩⟩⟩⟩⟩ ?_
 exact au<|pd<|so h▸aA J J

def XV(b:Nat)(ix:OI) l{R}(h:kw l=some R):bK bd 173 [M (Z b 0)] (fx b l ix) (fun _:OI=>fM R.1) (fun j=>fx b R.2 j):=by
 refine bK.of Tryz.func173 J J J fun w0 S0=>?_;refine(show CG _ _ _ [bx (rH bQ [(1,ay (ix.h 0).1 (ix.h 0).2 l.kinds.length),(2,ay (ix.h 1).1 (ix.h 1).2 l.open_.length)]) 168 b l,tip nq 69 (ix.h 0).1 (ix.h 0).2 l.kinds,db bV 3 (ix.h 1).1 (ix.h 1).2 l.open_] _ from ?_);refine d<|s (TG (fun _ _ h=>by rw [show _=_ from h];rfl) (D J))<|bm<|bu<|aP ?_
 refine qN 7 (ts:=[M (Z b 0),M (Z b 0),M (Z b 0),M (Z b 15),jK l.a_,M (Z b 0),M (Z b 17)]) mixed J J J
  ⟨zZ 1 J J (wm D5 (D J)),
  ⟨zZ 1 J J (wm D5 (D J)),
  ⟨ff 5 1 J J (aO (D J)),
  ⟨ff 6 2 J J (q9 15 kh J J J),
  ⟨ff 7 3 J J (aL (r:=rH bQ [(1,ay (ix.h 0).1 (ix.h 0).2 l.kinds.length),(2,ay (ix.h 1).1 (ix.h 1).2 l.open_.length)]) (x:=l) cu J J (fF qt) (.head _) (D J)),
  ⟨ff 4 0 J J (aO (D J)),
  ⟨ff 9 5 J J (q9 17 gN J J J),
  aZ⟩⟩⟩⟩⟩⟩⟩ ?_
 refine fK (dF cu J (pC (hs' :=[(1,ay (ix.h 0).1 (ix.h 0).2 l.kinds.length),(2,ay (ix.h 1).1 (ix.h 1).2 l.open_.length)]) ua ⟨.inr ⟨J,J⟩,.inr ⟨J,J⟩,aZ⟩ J) J (D J) (D J)) fun i=>?_;refine(show RG _ _ _ _ [_,_,_] _ from ?_);refine bu<|d<|s (wm D5 (D J))<|s (aO (D J))<|bh 3 iI J<|bh 13 jv J<|s (aL (r:=rH bQ [(1,ay (ix.h 0).1 (ix.h 0).2 l.kinds.length),(2,ay (ix.h 1).1 (ix.h 1).2 l.open_.length)]) (x:=({l with result:=l.a_}:aq)) ur J J (fF (fq gx ep)) (.head _) (D J))<|s ((show cI _ _ _ _ (Qv bQ ({l with result:=l.a_}:aq) b ((mI bd Qb qX (fun(x:kF)=>(nC ({l with result:=l.a_}:aq)) x))))from If (cts:=[ck (rPt bQ) ({l with result:=l.a_}:aq)]) (caps:=[.tmp 1]) aaR (fun S S1 a hf hle hk=>D2 (Mx (D J) hf hle hk) trivial) (fun x y h=>Uy _ _ h)))<|bR h fun r q_r h=>s (Q7 (r:=rH bQ [(1,ay (ix.h 0).1 (ix.h 0).2 l.kinds.length),(2,ay (ix.h 1).1 (ix.h 1).2 l.open_.length)]) (rd:=bQ) (T:=168) (b:=b) (x:=({l with result:=l.a_}:aq)) (y:=({l with result:=l.a_}:aq)) (.head _) aaS (Uz _ _ q_r) (fun _ _ _ _ h=>h.1) (fun S S1 a hf hle hk=>D2 (YX (D J) hf hle) (D2 (S7 (D J) hf hle hk) trivial)) Td)<|aN J<|ax J<|s (fG (D J))<|Q J<|ae J (fun Y=>wm D5 (D J))<|ae J (fun Y=>aO (bl J Y))<|ae J (fun Y=>cr (n:=3) iI J (bl J Y) J)<|ae J (fun Y=>cr (n:=13) jv J (bl J Y) J) ?_;refine ae J (fun Y=>aL (r:=rH bQ [(1,ay (ix.h 0).1 (ix.h 0).2 l.kinds.length),(2,ay (ix.h 1).1 (ix.h 1).2 l.open_.length)]) (x:=({l with result:=l.a_}:aq)) ur J J (fF (fq gx ep)) (.head _) (bl J Y))<|ae J (gp rz J)<|ae J (fun Y=>eY (bl J Y) hI)<|cm J<|Q J<|ae J (fun Y=>wm D5 (D J))<|ae J (fun Y=>aO (bl J Y))<|ae J (fun Y=>cr (n:=3) iI J (bl J Y) J)<|ae J (fun Y=>cr (n:=14) qu J (bl J Y) J)<|ae J (fun Y=>aL (r:=rH bQ [(1,ay (ix.h 0).1 (ix.h 0).2 l.kinds.length),(2,ay (ix.h 1).1 (ix.h 1).2 l.open_.length)]) (x:=({l with result:=l.a_}:aq)) bB J J (fF (fq gx jG)) (.head _) (bl J Y))<|ae J (fun Y=>dB (bl J Y) hI)<|cm J<|Q J<|ae J (fun Y=>wm D5 (D J))<|ae J (fun Y=>aO (bl J Y))<|ae J (fun Y=>cr (n:=3) iI J (bl J Y) J)<|ae J (fun Y=>cr (n:=14) qu J (bl J Y) J)<|ae J (fun Y=>aL (r:=rH bQ [(1,ay (ix.h 0).1 (ix.h 0).2 l.kinds.length),(2,ay (ix.h 1).1 (ix.h 1).2 l.open_.length)]) (x:=({l with result:=l.a_}:aq)) bB J J (fF (fq gx jG)) (.head _) (bl J Y))<|ae J (fun Y=>eY (bl J Y) hI)<|cm J<|bf J ?_;exact aT<|aT<|aT<|so h▸cj J ix J J (fun _ _ h=>h)

def UV{R}(h:mD=some R):cX bd 126 [] (Zm (fun y:(aq->Unit->Option (Bool×aq))=>qY (fun bb=>fI bd (fun(x:Unit)=>[M (Z bb 0)]) (fx bb) qX y)) (VC .i64) R):=by
 refine dK Tryz.func126 J<|d<|s (bU (show aY _ _ (.const (.map none)) (M (.map none))from fun _ _ _=>J))<|bu<|d<|Fq (Nj (fun y:(aq->Unit->Option (Bool×aq))=>qY (fun bb=>fI bd (fun(x:Unit)=>[M (Z bb 0)]) (fx bb) qX y))) (VC .i64) J fun b=>kT (γ:=(fun y:(aq->Unit->Option (Bool×aq))=>qY (fun bb=>fI bd (fun(x:Unit)=>[M (Z bb 0)]) (fx bb) qX y))) (y:=(fun(mc:aq) (mx:Unit)=>kx mc)) Dg (jL iL) (D J) (uZ hI) (show aY _ _ _ (qY (fun bb=>fI bd (fun(x:Unit)=>[M (Z bb 0)]) (fx bb) qX (fun(mc:aq) (mx:Unit)=>kx mc)))from(ET fun bb=>pP abl (fun c x R h i=>X6 _ _ _ h))) fun os=>kT (γ:=(fun y:(aq->Unit->Option (Bool×aq))=>qY (fun bb=>fI bd (fun(x:Unit)=>[M (Z bb 0)]) (fx bb) qX y))) (y:=(fun(mc:aq) (mx:Unit)=>iH mc)) Dg (jL iL) (D J) (uZ hI) (show aY _ _ _ (qY (fun bb=>fI bd (fun(x:Unit)=>[M (Z bb 0)]) (fx bb) qX (fun(mc:aq) (mx:Unit)=>iH mc)))from(ET fun bb=>pP abk (fun c x R h i=>X5 _ _ _ h))) fun os1=>kT (γ:=(fun y:(aq->Unit->Option (Bool×aq))=>qY (fun bb=>fI bd (fun(x:Unit)=>[M (Z bb 0)]) (fx bb) qX y))) (y:=(fun(mc:aq) (mx:Unit)=>iD mc)) Dg (jL iL) (D J) (uZ hI) (show aY _ _ _ (qY (fun bb=>fI bd (fun(x:Unit)=>[M (Z bb 0)]) (fx bb) qX (fun(mc:aq) (mx:Unit)=>iD mc)))from(ET fun bb=>pP abj (fun c x R h i=>X4 _ _ _ h))) fun os2=>kT (γ:=(fun y:(aq->Unit->Option (Bool×aq))=>qY (fun bb=>fI bd (fun(x:Unit)=>[M (Z bb 0)]) (fx bb) qX y))) (y:=(fun(mc:aq) (mx:Unit)=>gu mc)) Dg (jL iL) (D J) (uZ hI) (show aY _ _ _ (qY (fun bb=>fI bd (fun(x:Unit)=>[M (Z bb 0)]) (fx bb) qX (fun(mc:aq) (mx:Unit)=>gu mc)))from(ET fun bb=>pP abi (fun c x R h i=>X3 _ _ _ h))) fun os3=>kT (γ:=(fun y:(aq->Unit->Option (Bool×aq))=>qY (fun bb=>fI bd (fun(x:Unit)=>[M (Z bb 0)]) (fx bb) qX y))) (y:=(fun(mc:aq) (mx:Unit)=>fd mc)) Dg (jL iL) (D J) (uZ hI) (show aY _ _ _ (qY (fun bb=>fI bd (fun(x:Unit)=>[M (Z bb 0)]) (fx bb) qX (fun(mc:aq) (mx:Unit)=>fd mc)))from(ET fun bb=>pP V1 (fun c x R h i=>X2 _ _ _ h))) fun os4=>kT (γ:=(fun y:(aq->Unit->Option (Bool×aq))=>qY (fun bb=>fI bd (fun(x:Unit)=>[M (Z bb 0)]) (fx bb) qX y))) (y:=(fun(mc:aq) (mx:Unit)=>eO mc)) Dg (jL iL) (D J) (uZ hI) (show aY _ _ _ (qY (fun bb=>fI bd (fun(x:Unit)=>[M (Z bb 0)]) (fx bb) qX (fun(mc:aq) (mx:Unit)=>eO mc)))from(ET fun bb=>pP abh (fun c x R h i=>X0 _ _ _ h))) fun os5=>kT (γ:=(fun y:(aq->Unit->Option (Bool×aq))=>qY (fun bb=>fI bd (fun(x:Unit)=>[M (Z bb 0)]) (fx bb) qX y))) (y:=(fun(mc:aq) (mx:Unit)=>d7 mc)) Dg (jL iL) (D J) (uZ hI) (show aY _ _ _ (qY (fun bb=>fI bd (fun(x:Unit)=>[M (Z bb 0)]) (fx bb) qX (fun(mc:aq) (mx:Unit)=>d7 mc)))from(ET fun bb=>pP abg (fun c x R h i=>XZ _ _ _ h))) fun os6=>kT (γ:=(fun y:(aq->Unit->Option (Bool×aq))=>qY (fun bb=>fI bd (fun(x:Unit)=>[M (Z bb 0)]) (fx bb) qX y))) (y:=(fun(mc:aq) (mx:Unit)=>jk mc)) Dg (jL iL) (D J) (uZ hI) (show aY _ _ _ (qY (fun bb=>fI bd (fun(x:Unit)=>[M (Z bb 0)]) (fx bb) qX (fun(mc:aq) (mx:Unit)=>jk mc)))from(ET fun bb=>pP abe (fun c x R h i=>XY _ _ _ h))) fun os7=>kT (γ:=(fun y:(aq->Unit->Option (Bool×aq))=>qY (fun bb=>fI bd (fun(x:Unit)=>[M (Z bb 0)]) (fx bb) qX y))) (y:=(fun(mc:aq) (mx:Unit)=>mC mc)) Dg (jL iL) (D J) (uZ hI) (show aY _ _ _ (qY (fun bb=>fI bd (fun(x:Unit)=>[M (Z bb 0)]) (fx bb) qX (fun(mc:aq) (mx:Unit)=>mC mc)))from(ET fun bb=>pP abd (fun c x R h i=>XX _ _ _ h))) fun os8=>kT (γ:=(fun y:(aq->Unit->Option (Bool×aq))=>qY (fun bb=>fI bd (fun(x:Unit)=>[M (Z bb 0)]) (fx bb) qX y))) (y:=(fun(mc:aq) (mx:Unit)=>jE mc)) Dg (jL iL) (D J) (uZ hI) (show aY _ _ _ (qY (fun bb=>fI bd (fun(x:Unit)=>[M (Z bb 0)]) (fx bb) qX (fun(mc:aq) (mx:Unit)=>jE mc)))from(ET fun bb=>pP abc (fun c x R h i=>XW _ _ _ h))) fun os9=>kT (γ:=(fun y:(aq->Unit->Option (Bool×aq))=>qY (fun bb=>fI bd (fun(x:Unit)=>[M (Z bb 0)]) (fx bb) qX y))) (y:=(fun(mc:aq) (mx:Unit)=>kw mc)) Dg (jL iL) (D J) (uZ hI) (show aY _ _ _ (qY (fun bb=>fI bd (fun(x:Unit)=>[M (Z bb 0)]) (fx bb) qX (fun(mc:aq) (mx:Unit)=>kw mc)))from(ET fun bb=>pP abb (fun c x R h i=>XV _ _ _ h))) fun os10=>Q J<|aN J ?_;exact pd<|KW 0 J<|so h▸aA J J

def UJ op{R}(h:w3 op=some R):cX bd 174 [bH op] (bH R):=by
 refine dK Tryz.func174 J<|d<|ca<|bu<|aS<|Q J<|bu<|ak ?_;refine d5 (aa:=fun x=>s0 op x=some R) (Of:=fun x=>[]) (Gf:=fun x=>[(3,bH op),(4,fM x)]) (fun x h=>?_) (fun h2=>?_)
 ·skip
  refine fy h J (fun h=>?_) (fun h=>?_)
  ·exact d<|eg<|cx<|so h▸aA J J
  ·refine d5 (aa:=fun x1=>sZ op x1=some R) (Of:=fun x1=>[]) (Gf:=fun x1=>[(3,bH op),(7,fM x1)]) (fun x1 h=>?_) (fun K1=>?_)
   ·skip
    refine fy h J (fun h=>?_) (fun h=>?_)
    ·exact d<|eg<|cx<|so h▸aA J J
    ·refine d5 (aa:=fun x2=>kb x2=some R) (Of:=fun x2=>[]) (Gf:=fun x2=>[(10,fM x2)]) (fun x2 h=>?_) (fun K2=>?_)
     ·skip
      refine fy h J (fun h=>?_) (fun h=>?_)
      ·exact d<|eg<|cx<|so h▸aA J J
      ·exact bc<|al<|au<|d<|eg<|so h▸aA J J
     ·skip
      refine d<|bp J<|aN J<|fy h J (fun h=>?_) (fun h=>?_)
      ·refine bc ?_;exact bE (K2 (op==(3:Int)) h) (aX J)
      ·refine d<|bp J<|aN J<|fy h J (fun h=>?_) (fun h=>?_)
       ·refine bc ?_;exact bE (K2 (op==(4:Int)) h) (aX J)
       ·refine d<|bp J<|aN J<|fy h J (fun h=>?_) (fun h=>?_)
        ·refine bc ?_;exact bE (K2 (op==(5:Int)) h) (aX J)
        ·refine d<|bp J<|aN J<|fy h J (fun h=>?_) (fun h=>?_)
         ·refine bc ?_;exact bE (K2 (op==(6:Int)) h) (aX J)
         ·refine d<|bp J<|aN J<|fy h J (fun h=>?_) (fun h=>?_)
          ·refine bc ?_;exact bE (K2 (op==(8:Int)) h) (aX J)
          ·refine d<|bp J<|aN J<|fy h J (fun h=>?_) (fun h=>?_)
           ·refine bc ?_;exact bE (K2 (op==(10:Int)) h) (aX J)
           ·refine aj<|bp J<|d6 J<|aJ ?_;exact bE (K2 (op==(11:Int)) h) (aX J)
   ·skip
    refine d<|bp J<|aN J<|fy h J (fun h=>?_) (fun h=>?_)
    ·refine bc ?_;exact bE (K1 (op==(2:Int)) h) (aX J)
    ·refine aj<|bp J<|d6 J<|aJ ?_;exact bE (K1 (op==(7:Int)) h) (aX J)
 ·skip
  refine d<|bp J<|aN J<|fy h J (fun h=>?_) (fun h=>?_)
  ·refine bc ?_;exact bE (h2 (op==(1:Int)) h) (aX J)
  ·refine aj<|bp J<|d6 J<|aJ ?_;exact bE (h2 (op==(9:Int)) h) (aX J)

def UI n{R}(h:sE n=some R):cX bd 175 [tD aM n] (fM R):=by
 refine dK Tryz.func175 J<|d<|dl J<|bm<|bu<|aP ?_
 refine gO (ts:=[_,_,_,_,_,_,_,_,_,_,_,_,_,_,_,_,_,_,_,_,_,_,_]) mixed J J
  ⟨zZ 1 J J (oq ft cB J J),
  ⟨lK 0 bB J J,
  ⟨ff 7 1 J J (YS J),
  ⟨ff 8 2 J J (mt J),
  ⟨tt 1 9 3 J J J (iS J J J J (fun Y=>oq ft cB J J)),
  ⟨km 10 4 9 3 J J J (iS J J J J (fun Y=>ej bB J J (bl J Y))),
  ⟨km 11 5 9 3 J J J (iS J J J J (fun Y=>di (bl J Y) hI)),
  ⟨ga 9 3 12 6 J J J (YQ J J),
  ⟨zZ 1 J J (oq ft cB J J),
  ⟨lK 8 bB J J,
  ⟨ff 15 9 J J (YS J),
  ⟨ff 16 10 J J (mt J),
  ⟨tt 1 17 11 J J J (iS J J J J (fun Y=>oq ft cB J J)),
  ⟨km 18 12 17 11 J J J (iS J J J J (fun Y=>ej bB J J (bl J Y))),
  ⟨km 19 13 17 11 J J J (iS J J J J (fun Y=>di (bl J Y) hI)),
  ⟨ga 17 11 20 14 J J J (YQ J J),
  ⟨ff 21 15 J J (mt J),
  ⟨tt 1 22 16 J J J (iS J J J J (fun Y=>oq ft cB J J)),
  ⟨km 23 17 22 16 J J J (iS J J J J (fun Y=>ej bB J J (bl J Y))),
  ⟨km 24 18 22 16 J J J (iS J J J J (fun Y=>di (bl J Y) hI)),
  ⟨ga 22 16 25 19 J J J (YQ J J),
  ⟨ff 13 7 J J (DX J),
  ⟨ff 26 20 J J (DX J),
  aZ⟩⟩⟩⟩⟩⟩⟩⟩⟩⟩⟩⟩⟩⟩⟩⟩⟩⟩⟩⟩⟩⟩⟩ ?_
 refine au<|ax J<|Q J<|aD J (bv p6 ip J J)<|aD J (bq bB J J)<|aD J (gQ J)<|aD J (nQ J)<|de J J J J (fun Y=>oq jI dW J J)<|de J J J J (fun Y=>ej cu J J (bl J Y))<|de J J J J (fun Y=>eS df (bl J Y))<|de J J J J (fun Y=>di (bl J Y) hI)<|aD J (fun Y=>jm (bl J Y) (fun H=>(bl J (sd Y H))))<|dG J<|aN J<|ax J<|Q J<|ae J (bv ft cB J J)<|ae J (bq bB J J) ?_;refine ae J (gQ J)<|ae J (nQ J)<|cF J J J J (fun Y=>oq xa pX J J)<|cF J J J J (fun Y=>ej zF J J (bl J Y))<|cF J J J J (fun Y=>fG (bl J Y))<|ae J (fun Y=>kL (bl J Y) (fun H=>(bl J (sd Y (sb H)))))<|cm J<|Q J<|ae J (bv ft cB J J)<|ae J (bq bB J J)<|ae J (gQ J)<|ae J (nQ J)<|cF J J J J (fun Y=>oq ft cB J J)<|cF J J J J (fun Y=>ej bB J J (bl J Y))<|cF J J J J (fun Y=>di (bl J Y) hI)<|ae J (fun Y=>kL (bl J Y) (fun H=>(bl J (sd Y (sb H)))))<|ae J (nQ J)<|cF J J J J (fun Y=>oq pZ iQ J J)<|cF J J J J (fun Y=>fj f7 J dw J (bl J Y))<|cF J J J J (fun Y=>ej nM J J (bl J Y))<|cF J J J J (fun Y=>eS j5 (bl J Y))<|cF J J J J (fun Y=>di (bl J Y) hI)<|ae J (fun Y=>kL (bl J Y) (fun H=>(bl J (sd Y (sb H)))))<|cm J ?_;refine aN J<|ax J<|Q J<|ae J (bX J)<|ae J (nQ J)<|cF J J J J (fun Y=>oq ju dE J J)<|cF J J J J (fun Y=>ej cu J J (bl J Y))<|cF J J J J (fun Y=>eS df (bl J Y))<|cF J J J J (fun Y=>oq gA cO J J)<|cF J J J J (fun Y=>ej o0 J J (bl J Y))<|cF J J J J (fun Y=>eS lb (bl J Y))<|cF J J J J (fun Y=>cW (bl J Y) (bl J Y))<|cF J J J J (fun Y=>di (bl J Y) hI)<|ae J (fun Y=>kL (bl J Y) (fun H=>(bl J (sd Y (sb H)))))<|cm J<|Q J<|ae J (bv ft cB J J)<|ae J (bq bB J J)<|ae J (gQ J)<|ae J (nQ J) ?_;refine cF J J J J (fun Y=>oq oc io J J)<|cF J J J J (fun Y=>ej wH J J (bl J Y))<|cF J J J J (fun Y=>eS qD (bl J Y))<|cF J J J J (fun Y=>di (bl J Y) hI)<|ae J (fun Y=>kL (bl J Y) (fun H=>(bl J (sd Y (sb H)))))<|cm J<|aN J<|ax J<|Q J<|ae J (bv ft cB J J)<|ae J (bq bB J J)<|ae J (gQ J)<|ae J (nQ J)<|cF J J J J (fun Y=>oq jv ep J J)<|cF J J J J (fun Y=>ej ur J J (bl J Y))<|cF J J J J (fun Y=>eS rz (bl J Y))<|cF J J J J (fun Y=>di (bl J Y) hI)<|cF J J J J (fun Y=>bT (bl J Y))<|de J J J J (fun Y=>oq qu jG J J)<|de J J J J (fun Y=>ej bB J J (bl J Y)) ?_;exact de J J J J (fun Y=>di (bl J Y) hI)<|cF J J J J (fun Y=>jm (bl J Y) (fun H=>(bl J (sd Y H))))<|ae J (fun Y=>kL (bl J Y) (fun H=>(bl J (sd Y (sb H)))))<|cm J<|bf J<|so h▸aA J J

def Ux ac v{R}(h:pB ac v=some R):cX bd 209 [jK ac,bH v] (bH R):=by
 refine dK Tryz.func209 J<|d<|ca<|bu<|aS<|Q J<|bI df J<|s (bT hI)<|bu<|ak<|bo (k:=6) J fun hN=>bA ?_;refine aH (eU (aa:=fun ls i=>(ac.drop i=ls)/\iV v ls i=some R) (Of:=fun _ i=>[]) (Gf:=fun _ i=>[(0,jK ac),(1,bH v),(7,kE ac),(8,bH (i:Int))]) (fun i h=>?_) (fun e tl ih i h=>?_) ac 0 ⟨J,h⟩) (aX J)
 ·obtain⟨V,h⟩:=h
  exact ez V J<|au<|d<|eg<|so h▸aA J J
 ·obtain⟨V,h⟩:=h
  refine ew V J<|aP<|ak<|ax J<|aN J<|ax J<|Q J<|Q J<|CT df bB J (dJ V) ?_;refine dH bB J<|s (di (D J) (D J))<|bW h J (fun h=>?_) (fun h=>?_)
  ·exact ax J<|bf J<|cx<|af<|cx<|so h▸aA J J
  ·refine bc<|dd V hN J ?_;exact aU (aH (ih (i+1) ⟨da V,h⟩) (aX J))

def UH ac v{R}(h:gR ac v=some R):cX bd 176 [jK ac,bH v] (fM R):=by
 exact dK Tryz.func176 J<|d<|bm<|bu<|ax J<|Q J<|eE h aaQ (Ux _ _) (cy J) fun r h=>s (dB (D J) hI)<|bf J<|so h▸aA J J

def Ye(b:Nat)(ix:OI) l i ask{R}(h:dC l i ask=some R):bK bd 127 [M (Z b 0),bH i,qY (fun bb=>fI bd (fun(x:Unit)=>[M (Z bb 0)]) (fx bb) qX ask)] (fx b l ix) (fun _:OI=>fM R.1) (fun j=>fx b R.2 j):=by
 refine bK.of Tryz.func127 J J J fun w0 S0=>?_;refine(show CG _ _ _ [bx (rH bQ [(1,ay (ix.h 0).1 (ix.h 0).2 l.kinds.length),(2,ay (ix.h 1).1 (ix.h 1).2 l.open_.length)]) 168 b l,tip nq 69 (ix.h 0).1 (ix.h 0).2 l.kinds,db bV 3 (ix.h 1).1 (ix.h 1).2 l.open_] _ from ?_);refine d<|bm<|bu<|ax J<|s (aO (D J))<|bh 0 Iv J<|s (aL (r:=rH bQ [(1,ay (ix.h 0).1 (ix.h 0).2 l.kinds.length),(2,ay (ix.h 1).1 (ix.h 1).2 l.open_.length)]) (x:=l) qe J J (fF Cr) (.head _) (D J))<|Q J<|bR h fun e q_e h=>dg j4 dA J q_e<|bz dA ie J fun b1=>bO dA aB J<|bj 7 J<|bu<|d<|aQ ft cB bB J ?_;refine eE h aba (UJ _) (cy J) fun r h=>aN J<|aS<|Q J<|s (fH (D J) hI)<|Q J<|aD J (bX J)<|aD J (bX J)<|aD J (fun Y=>aO (bl J Y))<|aD J (fun Y=>cr (n:=2) tS J (bl J Y) J)<|aD J (fun Y=>eQ cu J (.head _) (bl J Y))<|aD J (fun Y=>ir df (.tail _ (.tail _ (.head _))) (bl J Y))<|aD J (fun Y=>dD (bl J Y) (bl J Y))<|dG J<|Q J<|bR h fun t q_t h=>aD J (fun Y=>yT dA J J) ?_
 obtain⟨r1,h1t,h0t⟩:=og q_t
 have q_r1g:=fun H=>(h1t H).1
 refine aD J (fun Y=>cD aa9 (UI _ (q_r1g Y)) ⟨(bl J Y),aZ⟩)<|aD J (uo J)<|s (jl (D J) (fun H=>(bl J (sb H))) (fun H=>(h1t H).2) h0t)<|bu<|tZ (D J) (fun hc=>?_) (fun hc=>?_)
 ·have h:=ct h hc;exact d<|bm<|bM<|af<|aT<|aT<|aT<|so h▸cj J ix J J (fun _ _ h=>h)
 ·have h:=cf h hc;refine fN<|d<|s (uc (r:=bV) (ys:=[xD,xD]) (xs:=[.const (.int .i64 (-1)),.const (.int .i64 (-1))]) DM bB J zG J J ⟨hI,hI,aZ⟩)<|bz (r:=(o7 bV 2)) (x:=(List.replicate 2 (0:Int))) zG (fun _=>BS (r:=bV) 2 (fun _=>J) _) J fun b2=>bO zG aB J<|bu<|aP<|bR h fun y q_y h=>?_
  refine qN 13 (ts:=[M (.slice (some ⟨b2,0,none⟩) 2 2),M (Z b 0),M (Z b 0),M (Z b 2),nO (ix.h 1).1 (ix.h 1).2 l.open_,M (Z b 0),M (Z b 0),M (Z b 2),nO (ix.h 1).1 (ix.h 1).2 l.open_,kE l.open_,bH r,bH (IntKind.i64.wrap ((l.open_.length:Int)-r)),M (oZ 1 (ix.h 1).1 (ix.h 1).2 (IntKind.i64.wrap ((l.open_.length:Int)-r)).toNat y.length)]) mixed J J J
   ⟨zZ 9 J J (J2 DM (Ta bB) (D J)),
   ⟨fP J J,
   ⟨ff 42 1 J J (aO (D J)),
   ⟨ff 43 2 J J (q9 2 tS J J J),
   ⟨ff 44 3 J J (eQ cu J (.tail _ (.head _)) (D J)),
   ⟨fP J J,
   ⟨ff 46 5 J J (aO (D J)),
   ⟨ff 47 6 J J (q9 2 tS J J J),
   ⟨ff 48 7 J J (eQ cu J (.tail _ (.head _)) (D J)),
   ⟨ff 49 8 J J (ir df (.tail _ (.tail _ (.tail _ (.head _)))) (D J)),
   ⟨fP J J,
   ⟨ga 50 9 51 10 J J J (dP (D J) (D J)),
   ⟨ga 45 4 52 11 J J J (rl df bB J (.tail _ (.tail _ (.tail _ (.head _)))) (D J) (D J) q_y),
   aZ⟩⟩⟩⟩⟩⟩⟩⟩⟩⟩⟩⟩⟩ ?_
  refine rX (.tail _ (.tail _ (.tail _ (.head _)))) q_y fun hv=>br (IH (.tail _ (.tail _ (.tail _ (.head _)))) q_y df (HK bB) (D J) (D J)) J fun i1=>?_;refine(show RG _ _ _ _ [_,_,_,_] ((54,bH ((min y.length 2:Nat):Int))::_)from ?_);refine bu<|aS<|s (aL (x:=(qx ([xD,xD]) y)) zG J J bC (.head _) (D J))<|aQ jw fS bB J<|aQ kz hE bB J<|s (uc (r:=bV) (ys:=[e.A,e.B]) (xs:=[.tmp 57,.tmp 59]) DM bB J zG J J ⟨(D J),(D J),aZ⟩)<|s (vm VM (D J) (D J))<|bu<|tZ (D J) (fun hc=>?_) (fun hc=>?_)
  ·have h:=ct h hc;exact d<|bm<|bM<|af<|aV<|aT<|aT<|aT<|so h▸cj J ix J J (fun _ _ h=>h)
  ·have h:=cf h hc;refine fN<|ax J<|Q J<|Q J<|dH dA J<|s (aO (D J))<|bh 3 iI J<|fK (EffOK.fr1 (dF dA J (pC (hs' :=[(1,ay (ix.h 0).1 (ix.h 0).2 l.kinds.length),(2,ay (ix.h 1).1 (ix.h 1).2 l.open_.length)]) OJ ⟨.inr ⟨J,J⟩,.inr ⟨J,J⟩,aZ⟩ J) J (D J) (D J))) fun i2=>?_;refine(show RG _ _ _ _ [_,_,_,_] _ from ?_);refine s (aO (D J))<|bh 15 kh J<|fK (dF cu J (pC (hs' :=[(1,ay (ix.h 0).1 (ix.h 0).2 l.kinds.length),(2,ay (ix.h 1).1 (ix.h 1).2 l.open_.length)]) GG ⟨.inr ⟨J,J⟩,.inr ⟨J,J⟩,aZ⟩ J) J (D J) Pl) fun i3=>?_;refine(show RG _ _ _ _ [_,_,_,_] _ from ?_);refine s (aO (D J))<|bh 16 BI J<|fK (dF cu J (pC (hs' :=[(1,ay (ix.h 0).1 (ix.h 0).2 l.kinds.length),(2,ay (ix.h 1).1 (ix.h 1).2 l.open_.length)]) GF ⟨.inr ⟨J,J⟩,.inr ⟨J,J⟩,aZ⟩ J) J (D J) Pl) fun i4=>?_;refine(show RG _ _ _ _ [_,_,_,_] _ from ?_);refine bu<|aP<|aP<|bR h fun y1 q_y1 h=>?_
   refine gO (ts:=[_,_,_,_,_,_,_,_,_,_,_,_,_,_]) mixed J J
    ⟨fP J J,
    ⟨ff 72 0 J J (aO (D J)),
    ⟨ff 73 1 J J (q9 2 tS J J J),
    ⟨ff 74 2 J J (eQ cu J (.head _) (D J)),
    ⟨fP J J,
    ⟨ff 76 4 J J (aO (D J)),
    ⟨ff 77 5 J J (q9 2 tS J J J),
    ⟨ff 78 6 J J (eQ cu J (.head _) (D J)),
    ⟨ff 79 7 J J (ir df (.tail _ (.tail _ (.tail _ (.head _)))) (D J)),
    ⟨fP J J,
    ⟨ga 80 8 81 9 J J J (dP (D J) (D J)),
    ⟨ga 75 3 82 10 J J J (rl df bB J (.tail _ (.tail _ (.tail _ (.head _)))) (D J) (D J) q_y1),
    ⟨ff 83 11 J J (Nh df (.tail _ (.tail _ (.tail _ (.head _)))) q_y1 (D J)),
    ⟨zd0 J (bT hI),
    aZ⟩⟩⟩⟩⟩⟩⟩⟩⟩⟩⟩⟩⟩⟩ ?_
   refine au<|ak<|IW (.tail _ (.tail _ (.tail _ (.head _)))) q_y1 fun hv1=>?_
   have hN:=hv1.2
   refine bA<|dY<|lu ?_;refine aH (Fz (aa:=fun ls i5 a_ b3=>(y1.drop i5=ls)/\bw l i ask e r ls i5 a_ b3=some R) (Of:=fun _ i5 a_ b3=>[bx (rH bQ [(1,ay (ix.h 0).1 (ix.h 0).2 l.kinds.length),(2,ay (ix.h 1).1 (ix.h 1).2 l.open_.length)]) 168 b ({({({({({l with n:=e}:aq)with a_:=[]}:aq)with b:=[]}:aq)with a_:=a_}:aq)with b:=b3}:aq),tip nq 69 (ix.h 0).1 (ix.h 0).2 l.kinds,db bV 3 (ix.h 1).1 (ix.h 1).2 l.open_]) (Gf:=fun _ i5 a_ b3=>[(0,M (Z b 0)),(1,bH i),(2,qY (fun bb=>fI bd (fun(x:Unit)=>[M (Z bb 0)]) (fx bb) qX ask)),(7,ck aM e),(8,bH r),(83,M (oZ 1 (ix.h 1).1 (ix.h 1).2 (IntKind.i64.wrap ((l.open_.length:Int)-r)).toNat y1.length)),(84,kE y1),(85,bH (i5:Int))]) (fun i5 a_ b3 h=>?_) (fun e1 tl ih i5 a_ b3 h=>?_) y1 0 (({({({l with n:=e}:aq)with a_:=[]}:aq)with b:=[]}:aq).a_) (({({({l with n:=e}:aq)with a_:=[]}:aq)with b:=[]}:aq).b) ⟨J,h⟩) (aX J)
   ·obtain⟨V,h⟩:=h
    refine ez V J<|au<|d<|aQ ft cB bB J<|bp J<|Q J<|aD J (bv ft cB J J)<|aD J (bq bB J J)<|aD J (gQ J)<|dG J<|d6 J ?_;refine bu<|aS<|Q J<|Q J<|ae J (bX J)<|ae J (bX J)<|ae J (fun Y=>aO (bl J Y))<|ae J (fun Y=>cr (n:=0) Iv J (bl J Y) J)<|ae J (fun Y=>aL (r:=rH bQ [(1,ay (ix.h 0).1 (ix.h 0).2 l.kinds.length),(2,ay (ix.h 1).1 (ix.h 1).2 l.open_.length)]) (x:=({({({({({l with n:=e}:aq)with a_:=[]}:aq)with b:=[]}:aq)with a_:=a_}:aq)with b:=b3}:aq)) qe J J (fF Cr) (.head _) (bl J Y))<|ae J (gp j4 J)<|ae J (fun Y=>dP (bl J Y) hI)<|ae J (fun Y=>du (bl J Y) (bl J Y))<|cm J<|Q J ?_;refine yM (((e.Op==(8:Int))||(e.Op==(10:Int)))&&(i !=(IntKind.i64.wrap (((({({({({({l with n:=e}:aq)with a_:=[]}:aq)with b:=[]}:aq)with a_:=a_}:aq)with b:=b3}:aq).nodes).length:Int)-(1:Int))))) (fun Y=>?_) (fun Y=>?_)
    ·have h:=ct h Y;refine fa J J J Y J<|fa J J J Y J<|fa J J J Y J<|fa J J J Y J<|s (ub (D J) Y YL)<|Q J<|fa J J J J J<|fa J J J J J<|fa J J J J J<|fa J J J J J<|fa J J J J J<|fa J J J J J<|s (ub (D J) J YL)<|bu<|tZ (D J) (fun hc=>?_) (fun hc=>?_)
     ·exact d<|bm<|bM<|af<|aT<|aT<|aT<|so h▸cj J ix J J (fun _ _ h=>h)
     ·cases hc
    ·have h:=cf h Y;refine iK J J J Y<|Q J<|iK J J J Y<|Q J<|iK J J J Y<|bR h fun r2 q_r2 h=>br (EffOK.fr2 (EffOK.fr2 (EffOK.fr2 (BM (args:=(fun(x:Unit)=>[M (Z b 0)])) (Ob:=fx b) (res:=qX) (f:=ask) (x:=({({({({({l with n:=e}:aq)with a_:=[]}:aq)with b:=[]}:aq)with a_:=a_}:aq)with b:=b3}:aq)) (y:=(():Unit)) (R:=r2) (i:=ix) (xs:=[.tmp 136]) _ J (ZF (t:=(fun bb=>fI bd (fun(x:Unit)=>[M (Z bb 0)]) (fx bb) qX ask)) b (D J)) q_r2 ⟨(D J),aZ⟩ (fun _=>J))))) J fun i6=>?_;refine(show RG _ _ _ _ [_,_,_] ((137,fM r2.1)::_)from ?_);refine iK J J J Y<|s (fG (D J))<|s (sF (D J) Y (D J))<|Q J<|aD J (bX J)<|aD J (fun Y=>aO (bl J Y))<|aD J (fun Y=>cr (n:=17) gN J (bl J Y) J)<|aD J (fun Y=>aL (r:=rH bQ [(1,ay (i6.h 0).1 (i6.h 0).2 r2.2.kinds.length),(2,ay (i6.h 1).1 (i6.h 1).2 r2.2.open_.length)]) (x:=r2.2) cu J J (fF Cq) (.head _) (bl J Y))<|aD J (gp df J)<|aD J (fun Y=>dD (bl J Y) hI)<|dG J<|bW h J (fun h=>?_) (fun h=>?_)
     ·exact d<|bm<|bM<|af<|aT<|aT<|aT<|so h▸cj J i6 J J (fun _ _ h=>h)
     ·refine fN<|aP<|bR h fun l1 q_l1 h=>bR h fun y2 q_y2 h=>bR h fun l2 q_l2 h=>?_
      refine ja 30 [tc (M (Z b 0)),tc (M (Z b 0)),tc (M (Z b 0)),tc (M (Z b 0)),tc (M (Z b 1)),tc (tO nq (i6.h 0).1 (i6.h 0).2 r2.2.kinds),tc (M (Z b 0)),tc (M (Z b 0)),tc (M (Z b 17)),tc (jK r2.2.result),tc (em (nq) ([r2.2.result])),([11],fun ac=>tO nq ((ac.getD 0 ml).h 0).1 ((ac.getD 0 ml).h 0).2 l1),tc (M (Z b 0)),tc (M (Z b 0)),tc (M (Z b 2)),tc (nO (i6.h 1).1 (i6.h 1).2 r2.2.open_),tc (M (Z b 0)),tc (M (Z b 0)),tc (M (Z b 2)),tc (nO (i6.h 1).1 (i6.h 1).2 r2.2.open_),tc (kE r2.2.open_),tc (bH r),tc (bH (IntKind.i64.wrap ((r2.2.open_.length:Int)-r))),tc (nO (i6.h 1).1 (i6.h 1).2 y2),tc (bH i),tc (jK ([i])),([26],fun ac=>M (ay ((ac.getD 0 ml).h 0).1 ((ac.getD 0 ml).h 0).2 l2.length)),tc (M (Z b 0)),tc (M (Z b 1)),tc (D8)] [false,false,false,false,false,false,false,false,false,false,false,true,false,false,false,false,false,false,false,false,false,false,false,false,false,false,true,false,false,true] [fun _=>[bx (rH bQ [(1,ay (i6.h 0).1 (i6.h 0).2 r2.2.kinds.length),(2,ay (i6.h 1).1 (i6.h 1).2 r2.2.open_.length)]) 168 b r2.2,tip nq 69 (i6.h 0).1 (i6.h 0).2 r2.2.kinds,db bV 3 (i6.h 1).1 (i6.h 1).2 r2.2.open_],fun sg=>[tip nq 69 ((sg 11).h 0).1 ((sg 11).h 0).2 l1,bx (rH bQ [(1,ay (i6.h 0).1 (i6.h 0).2 r2.2.kinds.length),(2,ay (i6.h 1).1 (i6.h 1).2 r2.2.open_.length)]) 168 b r2.2,db bV 3 (i6.h 1).1 (i6.h 1).2 r2.2.open_],fun sg=>[db bV 3 ((sg 26).h 0).1 ((sg 26).h 0).2 l2,tip nq 69 ((sg 11).h 0).1 ((sg 11).h 0).2 l1,bx (rH bQ [(1,ay (i6.h 0).1 (i6.h 0).2 r2.2.kinds.length),(2,ay (i6.h 1).1 (i6.h 1).2 r2.2.open_.length)]) 168 b r2.2],fun sg=>[bx (rH bQ [(1,ay ((sg 11).h 0).1 ((sg 11).h 0).2 l1.length),(2,ay (i6.h 1).1 (i6.h 1).2 r2.2.open_.length)]) 168 b ({r2.2 with kinds:=l1}:aq),db bV 3 ((sg 26).h 0).1 ((sg 26).h 0).2 l2,tip nq 69 ((sg 11).h 0).1 ((sg 11).h 0).2 l1]] J mixed J J J J J
       ⟨⟨[⟨0,fun _=>M (Z b 0),none⟩],_,0,2,J,⟨(fun _=>J),aZ⟩,J,J,J,J,J,fun _ sg _ _=>ai J (mt J)⟩,
       ⟨⟨[⟨0,fun _=>M (Z b 0),none⟩],_,0,3,J,⟨(fun _=>J),aZ⟩,J,J,J,J,J,fun _ sg _ _=>ai J (mt J)⟩,
       ⟨⟨[⟨0,fun _=>M (Z b 0),none⟩],_,0,0,J,⟨(fun _=>J),aZ⟩,J,J,J,J,J,fun _ sg _ _=>ai J (mt J)⟩,
       ⟨⟨[⟨150,fun _=>M (Z b 0),some 2⟩],_,0,0,J,⟨(fun _=>J),aZ⟩,J,J,J,J,J,fun _ sg _ _=>ai J (aO (D J))⟩,
       ⟨⟨[⟨151,fun _=>M (Z b 0),some 3⟩],_,0,0,J,⟨(fun _=>J),aZ⟩,J,J,J,J,J,fun _ sg _ _=>ai J (q9 1 Dz J J J)⟩,
       ⟨⟨[⟨152,fun _=>M (Z b 1),some 4⟩],_,0,0,J,⟨(fun _=>J),aZ⟩,J,J,J,J,J,py (fun sg=>ai J (nE Tb J (.head _) (.tail _ (.head _)) (D J)))⟩,
       ⟨⟨[⟨0,fun _=>M (Z b 0),none⟩],_,0,0,J,⟨(fun _=>J),aZ⟩,J,J,J,J,J,fun _ sg _ _=>ai J (mt J)⟩,
       ⟨⟨[⟨154,fun _=>M (Z b 0),some 6⟩],_,0,0,J,⟨(fun _=>J),aZ⟩,J,J,J,J,J,fun _ sg _ _=>ai J (aO (D J))⟩,
       ⟨⟨[⟨155,fun _=>M (Z b 0),some 7⟩],_,0,0,J,⟨(fun _=>J),aZ⟩,J,J,J,J,J,fun _ sg _ _=>ai J (q9 17 gN J J J)⟩,
       ⟨⟨[⟨156,fun _=>M (Z b 17),some 8⟩],_,0,0,J,⟨(fun _=>J),aZ⟩,J,J,J,J,J,py (fun sg=>ai J (aL (r:=rH bQ [(1,ay (i6.h 0).1 (i6.h 0).2 r2.2.kinds.length),(2,ay (i6.h 1).1 (i6.h 1).2 r2.2.open_.length)]) (x:=r2.2) cu J J (fF Cq) (.head _) (D J)))⟩,
       ⟨⟨[⟨157,fun _=>tD vG r2.2.result,some 9⟩],_,0,0,J,⟨(fun _=>J),aZ⟩,J,J,J,J,J,fun _ sg _ _=>ai J (aI (r:=vG) (ys:=[r2.2.result]) (xs:=[.tmp 157]) uh cu J J J J J ⟨(D J),aZ⟩)⟩,
       ⟨⟨[⟨153,fun _=>tO vG (i6.h 0).1 (i6.h 0).2 r2.2.kinds,some 5⟩,⟨158,fun _=>tD (f6 vG) ([r2.2.result]),some 10⟩],_,J,⟨(fun _=>J),(fun _=>J),aZ⟩,J,J,J,fun sg=>cP J (EffOK.fr1 (KD cu J J J J uh J (D J) (D J) q_l1))⟩,
       ⟨⟨[⟨0,fun _=>M (Z b 0),none⟩],_,0,1,J,⟨(fun _=>J),aZ⟩,J,J,J,J,J,fun _ sg _ _=>ai J (mt J)⟩,
       ⟨⟨[⟨160,fun _=>M (Z b 0),some 12⟩],_,0,1,J,⟨(fun _=>J),aZ⟩,J,J,J,J,J,fun _ sg _ _=>ai J (aO (D J))⟩,
       ⟨⟨[⟨161,fun _=>M (Z b 0),some 13⟩],_,0,1,J,⟨(fun _=>J),aZ⟩,J,J,J,J,J,fun _ sg _ _=>ai J (q9 2 tS J J J)⟩,
       ⟨⟨[⟨162,fun _=>M (Z b 2),some 14⟩],_,0,1,J,⟨(fun _=>J),aZ⟩,J,J,J,J,J,DY (fun sg=>ai J (eQ cu J (.head _) (D J))) (py (fun sg=>ai J (eQ cu J (.tail _ (.head _)) (D J))))⟩,
       ⟨⟨[⟨0,fun _=>M (Z b 0),none⟩],_,0,1,J,⟨(fun _=>J),aZ⟩,J,J,J,J,J,fun _ sg _ _=>ai J (mt J)⟩,
       ⟨⟨[⟨164,fun _=>M (Z b 0),some 16⟩],_,0,1,J,⟨(fun _=>J),aZ⟩,J,J,J,J,J,fun _ sg _ _=>ai J (aO (D J))⟩,
       ⟨⟨[⟨165,fun _=>M (Z b 0),some 17⟩],_,0,1,J,⟨(fun _=>J),aZ⟩,J,J,J,J,J,fun _ sg _ _=>ai J (q9 2 tS J J J)⟩,
       ⟨⟨[⟨166,fun _=>M (Z b 2),some 18⟩],_,0,1,J,⟨(fun _=>J),aZ⟩,J,J,J,J,J,DY (fun sg=>ai J (eQ cu J (.head _) (D J))) (py (fun sg=>ai J (eQ cu J (.tail _ (.head _)) (D J))))⟩,
       ⟨⟨[⟨167,fun _=>M (ay (i6.h 1).1 (i6.h 1).2 r2.2.open_.length),some 19⟩],_,0,1,J,⟨(fun _=>J),aZ⟩,J,J,J,J,J,DY (fun sg=>ai J (ir df (.tail _ (.tail _ (.head _))) (D J))) (py (fun sg=>ai J (ir df (.tail _ (.tail _ (.head _))) (D J))))⟩,
       ⟨⟨[⟨8,fun _=>tD bV r,none⟩],_,0,1,J,⟨(fun _=>J),aZ⟩,J,J,J,J,J,fun _ sg _ _=>ai J (mt J)⟩,
       ⟨⟨[⟨168,fun _=>tD bV (r2.2.open_.length:Int),some 20⟩,⟨169,fun _=>tD bV r,some 21⟩],_,0,1,J,⟨(fun _=>J),(fun _=>J),aZ⟩,J,J,J,J,J,fun _ sg _ _=>ai J (dP (D J) (D J))⟩,
       ⟨⟨[⟨163,fun _=>M (ay (i6.h 1).1 (i6.h 1).2 r2.2.open_.length),some 15⟩,⟨170,fun _=>tD bV (IntKind.i64.wrap ((r2.2.open_.length:Int)-r)),some 22⟩],_,0,1,J,⟨(fun _=>J),(fun _=>J),aZ⟩,J,J,J,J,J,DY (fun sg=>ai J (pO df bB J (.tail _ (.tail _ (.head _))) (D J) (D J) q_y2)) (py (fun sg=>ai J (pO df bB J (.tail _ (.tail _ (.head _))) (D J) (D J) q_y2)))⟩,
       ⟨⟨[⟨1,fun _=>tD bV i,none⟩],_,0,1,J,⟨(fun _=>J),aZ⟩,J,J,J,J,J,fun _ sg _ _=>ai J (mt J)⟩,
       ⟨⟨[⟨172,fun _=>tD bV i,some 24⟩],_,0,1,J,⟨(fun _=>J),aZ⟩,J,J,J,J,J,fun _ sg _ _=>ai J (aI (r:=bV) (ys:=[i]) (xs:=[.tmp 172]) df bB J J J J J ⟨(D J),aZ⟩)⟩,
       ⟨⟨[⟨171,fun _=>M (ay (i6.h 1).1 (i6.h 1).2 y2.length),some 23⟩,⟨173,fun _=>tD vG ([i]),some 25⟩],_,J,⟨(fun _=>J),(fun _=>J),aZ⟩,J,J,J,fun sg=>cP J (EffOK.fr2 (MH q_y2 (rr bB J J J J df J (D J) (D J) q_l2)))⟩,
       ⟨⟨[⟨148,fun _=>M (Z b 0),some 0⟩],_,2,2,J,⟨(fun _=>J),aZ⟩,J,J,J,J,J,fun _ sg _ _=>ai J (aO (D J))⟩,
       ⟨⟨[⟨175,fun _=>M (Z b 0),some 27⟩],_,2,2,J,⟨(fun _=>J),aZ⟩,J,J,J,J,J,fun _ sg _ _=>ai J (q9 1 Dz J J J)⟩,
       ⟨⟨[⟨176,fun _=>M (Z b 1),some 28⟩,⟨159,fun sg=>tO vG ((sg 11).h 0).1 ((sg 11).h 0).2 l1,some 11⟩],_,J,⟨(fun _=>J),(fun _=>J),aZ⟩,J,J,J,fun sg=>cP J (EffOK.fr2 (m9 (hs' :=[(1,ay ((sg 11).h 0).1 ((sg 11).h 0).2 l1.length),(2,ay (i6.h 1).1 (i6.h 1).2 r2.2.open_.length)]) (u:=ay ((sg 11).h 0).1 ((sg 11).h 0).2 l1.length) Tb J J OL J ⟨.inl ⟨J,J,J⟩,.inr ⟨J,J⟩,aZ⟩ (D J) (mX (D J)) (xV (D J))))⟩,
       aZ⟩⟩⟩⟩⟩⟩⟩⟩⟩⟩⟩⟩⟩⟩⟩⟩⟩⟩⟩⟩⟩⟩⟩⟩⟩⟩⟩⟩⟩⟩ (fun sg=>?_)
      refine(show RG _ _ _ _ [_,_,_] _ from ?_);refine s (aO (D J))<|bh 2 tS J<|fK (m9 (hs' :=[(1,ay ((sg 11).h 0).1 ((sg 11).h 0).2 l1.length),(2,ay ((sg 26).h 0).1 ((sg 26).h 0).2 l2.length)]) (u:=ay ((sg 26).h 0).1 ((sg 26).h 0).2 l2.length) cu J J OK J ⟨.inr ⟨J,J⟩,.inl ⟨J,J,J⟩,aZ⟩ (D J) (ab1 (y:=l2) (D J) JY) (D J)) fun i7=>?_;refine(show RG _ _ _ _ [_,_,_] _ from ?_);exact bu<|d<|bm<|bM<|am<|aT<|aT<|so h▸cj J (sj [(((sg 11).h 0).1,((sg 11).h 0).2),(((sg 26).h 0).1,((sg 26).h 0).2)]) J J (fun _ _ h=>h)
   ·obtain⟨V,h⟩:=h
    refine ew V J<|aP<|ak<|ax J<|s (zO df bB J (.tail _ (.tail _ (.head _))) q_y1 (D J) (D J) (dJ V))<|s (jP (r:=bV) (i:=((IntKind.i64.wrap ((l.open_.length:Int)-r))+(i5:Int))) (foff:=0) bB J J bC J (.tail _ (.tail _ (.head _))) (z8 q_y1 (dJ V)).1 (D J))<|d6 J<|aN J<|ax J ?_;refine s (aO (D J))<|bh 1 Dz J<|s (nE Tb J (.head _) (.tail _ (.head _)) (D J))<|Q J<|bR h fun e2 q_e2 h=>s (fJ uh cu J (mX (D J)) (D J) q_e2)<|dH cu J<|aN J<|aS<|aQ ft cB bB J<|nP J<|Q J<|bR h fun t1 q_t1 h=>ae J (bX J) ?_
    obtain⟨r3,h1t1,h0t1⟩:=og q_t1
    have q_r3g:=fun H=>(h1t1 H).1
    refine ae J (fun Y=>cD aa8 (UH _ _ (q_r3g Y)) ⟨(bl J Y),hI,aZ⟩)<|s (co (D J) (fun H=>(bl J H)) (fun H=>(h1t1 H).2) h0t1)<|bW h J (fun h=>?_) (fun h=>?_)
    ·exact d<|bm<|bM<|af<|cx<|af<|cx<|aT<|aT<|aT<|so h▸cj J ix J J (fun _ _ h=>h)
    ·refine fN<|ax J<|bp J<|bW h J (fun h=>?_) (fun h=>?_)
     ·refine aj<|Q J<|Q J<|s (aO (D J))<|bh 15 kh J<|fK (dF cu J (pC (hs' :=[(1,ay (ix.h 0).1 (ix.h 0).2 l.kinds.length),(2,ay (ix.h 1).1 (ix.h 1).2 l.open_.length)]) GG ⟨.inr ⟨J,J⟩,.inr ⟨J,J⟩,aZ⟩ J) J (D J) (D J)) fun i8=>?_;refine(show RG _ _ _ _ [_,_,_] _ from ?_);refine aJ<|dd V hN J ?_;exact aU (aH (ih (i5+1) (({({({({({({l with n:=e}:aq)with a_:=[]}:aq)with b:=[]}:aq)with a_:=a_}:aq)with b:=b3}:aq)with a_:=e2}:aq).a_) (({({({({({({l with n:=e}:aq)with a_:=[]}:aq)with b:=[]}:aq)with a_:=a_}:aq)with b:=b3}:aq)with a_:=e2}:aq).b) ⟨da V,h⟩) (aX J))
     ·refine aj<|Q J<|Q J<|s (aO (D J))<|bh 16 BI J<|fK (dF cu J (pC (hs' :=[(1,ay (ix.h 0).1 (ix.h 0).2 l.kinds.length),(2,ay (ix.h 1).1 (ix.h 1).2 l.open_.length)]) GF ⟨.inr ⟨J,J⟩,.inr ⟨J,J⟩,aZ⟩ J) J (D J) (D J)) fun i9=>?_;refine(show RG _ _ _ _ [_,_,_] _ from ?_);refine aJ<|dd V hN J ?_;exact aU (aH (ih (i5+1) (({({({({({({l with n:=e}:aq)with a_:=[]}:aq)with b:=[]}:aq)with a_:=a_}:aq)with b:=b3}:aq)with b:=e2}:aq).a_) (({({({({({({l with n:=e}:aq)with a_:=[]}:aq)with b:=[]}:aq)with a_:=a_}:aq)with b:=b3}:aq)with b:=e2}:aq).b) ⟨da V,h⟩) (aX J))

end Go.Proofs.YtdohlidddcgfjaaGreat

