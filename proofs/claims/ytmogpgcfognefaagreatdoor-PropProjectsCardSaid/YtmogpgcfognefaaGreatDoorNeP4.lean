/- co of this claim: P4. -/
import Derived.Test.YtmogpgcfognefaaGreatDoorNeT
import Derived.Test.YtmogpgcfognefaaGreatDoorNeP3
set_option linter.all false
namespace Go.Proofs.YtmogpgcfognefaaGreatDoor
open Go
set_option maxRecDepth 100000

theorem Pp(s:(List lN))(f:(lN→Option Bool)){R:Int}(h:gq s f=some R):aN aM 218 [d7 (l0) s,(dJ aM L7 mr (fun(x:lN)=>f x))] (bH R):=by
 refine aN.of Tryz.func218 J J J fun w0 S0=>aq<|zo J (cQ)<|an<|ae<|aq<|aA J<|zo J (ja Ep J)<|zo J (bl hI)<|an<|ax<|aV (k:=6) J fun hN=>bB ?_;refine aJ (d6 (Z:=fun ls i=>(s.drop i=ls)∧du f ls i=some R) (Of:=fun _ i=>[]) (Gf:=fun _ i=>[(0,d7 (l0) s),(1,(dJ aM L7 mr (fun(x:lN)=>f x))),(7,hM s),(8,bH (i:Int))]) (fun i h=>?_) (fun e tl ih i h=>?_) s 0 ⟨J,h⟩) (aZ J)
 ·obtain⟨hx,h⟩:=h
  refine av<|aq<|zo J (eK J J)<|an<|ae<|bp (ht J) (cW hx)<|bg ?_;refine ac (ac (aF ?_));refine au<|aq<|zo rfl (cQ)<|an<|aj ?_;cases so h;exact aB J J
 ·obtain⟨hx,h⟩:=h
  refine av<|aq<|zo J (eK J J)<|an<|ae<|bo (ht J) (cU hx)<|dA<|ae<|ax<|aq<|aA J<|bk J<|an<|aq<|aA J<|aA J<|aA J<|zo J (iX Ep Do J J J (cP hx)) ?_;refine zo J (bz Do J J)<|bF h fun r q_r h=>zo J (ej (args:=L7) (res:=Av) (f:=(fun(x:lN)=>f x)) (x:=((e):lN)) (ht J) q_r ⟨(ht J),aU⟩)<|an<|cX h J (fun h=>?_) (fun h=>?_)
  ·refine aq<|aA J<|bk J<|an<|aj ?_;refine aC (aa (aa (aC (aa ?_))));cases so h;exact aB J J
  ·refine bA<|am<|au<|ai<|zo rfl (jU (cz hx hN) rfl)<|aA rfl<|aH ?_;exact aT (aJ (ih (i+1) ⟨cy hx,h⟩) (aZ J))

theorem PY(s:(List lN))(f:(lN→Option Bool)){R:Bool}(h:eg s f=some R):aN aM 161 [d7 (l0) s,(dJ aM L7 mr (fun(x:lN)=>f x))] (gK R):=by
 refine aN.of Tryz.func161 J J J fun w0 S0=>aq<|zo J (fJ)<|an<|aq<|aA J<|aA J<|bF h fun r q_r h=>zo J (aD VJ (Pp _ _ q_r) ⟨(ht J),(ht J),aU⟩)<|zo J (dQ (ht J) hI)<|bk J<|an<|aj ?_;cases so h;exact aB J J

theorem PX(l:al)(o:lN){R:Bool}(h:my l o=some R):aN aM 162 [tD l0 o,bq (Xg be) l] (gK R):=by
 refine aN.of Tryz.func162 J J J fun w0 S0=>aq<|zo J (jh J)<|zo J (fJ)<|an<|ae ?_
 refine eG (ts:=[_,_,_,_,_,_,_,_,_,_,_,_,_,_]) mixed J J
  ⟨ia 2 J J J (cd Jp B6 J J),
  ⟨cO 4 0 J J J (bz bJ J J),
  ⟨cO 5 1 J J J (dI (ht J) hI),
  ⟨cO 6 2 J J J (cL J),
  ⟨qD 2 7 3 J J J J (iu J J J J (fun hg=>cd Jp B6 J J)),
  ⟨hZ 8 4 7 3 J J J J (iu J J J J (fun hg=>aY bJ J J (aS J hg))),
  ⟨qD 1 7 3 J J J J (iu J J J J (fun hg=>(bz Bo J J).imp (fun _ _ h=>Oo.1 h))),
  ⟨hZ 10 6 7 3 J J J J (iu J J J J (fun hg=>Jb (aS J hg))),
  ⟨hZ 11 7 7 3 J J J J (iu J J J J (fun hg=>dh il J mB J (aS J hg))),
  ⟨hZ 12 8 7 3 J J J J (iu J J J J (fun hg=>aY ce J J (aS J hg))),
  ⟨hZ 13 9 7 3 J J J J (iu J J J J (fun hg=>bN dm (aS J hg))),
  ⟨wl 9 5 14 10 7 3 J J J J J (iu J J J J (fun hg=>dQ (aS J hg) (aS J hg))),
  ⟨ft 7 3 15 11 J J J J (pZ J J),
  ⟨cO 16 12 J J J (zM J),
  aU⟩⟩⟩⟩⟩⟩⟩⟩⟩⟩⟩⟩⟩⟩ ?_
 refine au<|aj ?_;cases so h;exact aB J J

theorem UU(b:Nat)(ix:OI)(l:al){R:Bool×al}(h:kj l=some R):fq aM 93 [tV (aI b 0)] (dS b l ix) (fun _:OI=>gK R.1) (fun j=>dS b R.2 j):=by
 refine fq.of Tryz.func93 J J J fun w0 S0=>?_;refine(show CG _ _ _ [bx (rH be [(1,aw (ix.h 0).1 (ix.h 0).2 l.kinds.length),(2,aw (ix.h 1).1 (ix.h 1).2 l.open_.length)]) 124 b l,eF iv 29 (ix.h 0).1 (ix.h 0).2 l.kinds,cG bQ 3 (ix.h 1).1 (ix.h 1).2 l.open_] _ from ?_);refine aq<|zo J (OF (fun _ _ h=>by rw [show _=_ from h];rfl) (ht J))<|zo J (fJ)<|an<|ae ?_
 refine oh 7 (ts:=[tV (aI b 0),tV (aI b 0),tV (aI b 0),tV (aI b 15),kz l.a_,tV (aI b 0),tV (aI b 17)]) mixed J J J
  ⟨ia 1 J J J (sF Bo (ht J)),
  ⟨ia 1 J J J (sF Bo (ht J)),
  ⟨cO 5 1 J J J (bj (ht J)),
  ⟨cO 6 2 J J J (fI 15 il J J J),
  ⟨cO 7 3 J J J (br (r:=rH be [(1,aw (ix.h 0).1 (ix.h 0).2 l.kinds.length),(2,aw (ix.h 1).1 (ix.h 1).2 l.open_.length)]) (x:=l) ce J J (gk mB) (.head _) (ht J)),
  ⟨cO 4 0 J J J (bj (ht J)),
  ⟨cO 9 5 J J J (fI 17 eW J J J),
  aU⟩⟩⟩⟩⟩⟩⟩ ?_
 refine mJ (f6 ce J (uA (hs' :=[(1,aw (ix.h 0).1 (ix.h 0).2 l.kinds.length),(2,aw (ix.h 1).1 (ix.h 1).2 l.open_.length)]) qp ⟨.inr ⟨J,J⟩,.inr ⟨J,J⟩,aU⟩ J) J (ht J) (ht J)) (fun i=>?_);refine(show RG _ _ _ _ [bx (rH be [(1,aw (ix.h 0).1 (ix.h 0).2 l.kinds.length),(2,aw (ix.h 1).1 (ix.h 1).2 l.open_.length)]) 124 b ({l with result:=l.a_}:al),eF iv 29 (ix.h 0).1 (ix.h 0).2 l.kinds,cG bQ 3 (ix.h 1).1 (ix.h 1).2 l.open_] _ from ?_);refine an<|aq<|zo J (sF Bo (ht J))<|zo J (bj (ht J))<|zo J (fI 3 fW J J J)<|zo J (fI 13 yc J J J)<|zo J (br (r:=rH be [(1,aw (ix.h 0).1 (ix.h 0).2 l.kinds.length),(2,aw (ix.h 1).1 (ix.h 1).2 l.open_.length)]) (x:=({l with result:=l.a_}:al)) Mg J J (gk (fQ eH py)) (.head _) (ht J))<|zo J ((show bS _ _ _ _ (Mn be ({l with result:=l.a_}:al) b ((dJ aM L7 mr (fun(x:lN)=>(my ({l with result:=l.a_}:al)) x))))from E0 (cts:=[bq (Xg be) ({l with result:=l.a_}:al)]) (caps:=[.tmp 1]) Wk (fun S S1 a hf hle hk=>po (IH (ht J) hf hle hk) trivial) (fun x y h=>PX _ _ h)))<|bF h fun r q_r h=>zo J (BK (r:=rH be [(1,aw (ix.h 0).1 (ix.h 0).2 l.kinds.length),(2,aw (ix.h 1).1 (ix.h 1).2 l.open_.length)]) (rd:=be) (T:=124) (b:=b) (x:=({l with result:=l.a_}:al)) (y:=({l with result:=l.a_}:al)) (.head _) Wl (PY _ _ q_r) (fun _ _ _ _ h=>h.1) (fun S S1 a hf hle hk=>po (IZ (ht J) hf hle) (po (Og (ht J) hf hle hk) trivial)) EH)<|bk J<|an<|aq<|aA J<|zo J (dH (ht J))<|aA J<|bO J J (fun hg=>sF Bo (ht J))<|bO J J (fun hg=>bj (aS J hg))<|bO J J (fun hg=>bP (n:=3) fW J (aS J hg) J)<|bO J J (fun hg=>bP (n:=13) yc J (aS J hg) J) ?_;refine bO J J (fun hg=>br (r:=rH be [(1,aw (ix.h 0).1 (ix.h 0).2 l.kinds.length),(2,aw (ix.h 1).1 (ix.h 1).2 l.open_.length)]) (x:=({l with result:=l.a_}:al)) Mg J J (gk (fQ eH py)) (.head _) (aS J hg))<|bO J J (fun hg=>bN Ep (aS J hg))<|bO J J (fun hg=>iT (aS J hg) hI)<|zo J (la J J)<|aA J<|bO J J (fun hg=>sF Bo (ht J))<|bO J J (fun hg=>bj (aS J hg))<|bO J J (fun hg=>bP (n:=3) fW J (aS J hg) J)<|bO J J (fun hg=>bP (n:=14) yb J (aS J hg) J)<|bO J J (fun hg=>br (r:=rH be [(1,aw (ix.h 0).1 (ix.h 0).2 l.kinds.length),(2,aw (ix.h 1).1 (ix.h 1).2 l.open_.length)]) (x:=({l with result:=l.a_}:al)) bJ J J (gk (fQ eH px)) (.head _) (aS J hg))<|bO J J (fun hg=>dQ (aS J hg) hI)<|zo J (la J J)<|aA J<|bO J J (fun hg=>sF Bo (ht J))<|bO J J (fun hg=>bj (aS J hg))<|bO J J (fun hg=>bP (n:=3) fW J (aS J hg) J)<|bO J J (fun hg=>bP (n:=14) yb J (aS J hg) J)<|bO J J (fun hg=>br (r:=rH be [(1,aw (ix.h 0).1 (ix.h 0).2 l.kinds.length),(2,aw (ix.h 1).1 (ix.h 1).2 l.open_.length)]) (x:=({l with result:=l.a_}:al)) bJ J J (gk (fQ eH px)) (.head _) (aS J hg))<|bO J J (fun hg=>iT (aS J hg) hI)<|zo J (la J J)<|bk J<|an<|aj ?_;refine aR<|aR<|aR ?_;cases so h;exact dc J ix J J (fun _ _ h=>h)

theorem Tx{R:(List (Int×(al→Unit→Option (Bool×al))))}(h:mz=some R):aN aM 46 [] (CU (fun y:(al→Unit→Option (Bool×al))=>na (fun bb=>iI aM (fun(x:Unit)=>[tV (aI bb 0)]) (dS bb) mr y)) sx R):=by
 refine aN.of Tryz.func46 J J J fun w0 S0=>aq<|zo J (bm (show aE _ _ (.const (.map none)) (tV (.map none))from fun _ _ _=>J))<|an<|aq<|xg (LW (fun y:(al→Unit→Option (Bool×al))=>na (fun bb=>iI aM (fun(x:Unit)=>[tV (aI bb 0)]) (dS bb) mr y))) sx J fun b=>dx (γ:=(fun y:(al→Unit→Option (Bool×al))=>na (fun bb=>iI aM (fun(x:Unit)=>[tV (aI bb 0)]) (dS bb) mr y))) (y:=(fun(mc:al) (mx:Unit)=>km mc)) Ar (di ou) (ht J) (kp hI) (show aE _ _ _ (na (fun bb=>iI aM (fun(x:Unit)=>[tV (aI bb 0)]) (dS bb) mr (fun(mc:al) (mx:Unit)=>km mc)))from(BY fun bb=>mg X3 (fun c x R h i=>U6 _ _ _ h))) fun os=>dx (γ:=(fun y:(al→Unit→Option (Bool×al))=>na (fun bb=>iI aM (fun(x:Unit)=>[tV (aI bb 0)]) (dS bb) mr y))) (y:=(fun(mc:al) (mx:Unit)=>fU mc)) Ar (di ou) (ht J) (kp hI) (show aE _ _ _ (na (fun bb=>iI aM (fun(x:Unit)=>[tV (aI bb 0)]) (dS bb) mr (fun(mc:al) (mx:Unit)=>fU mc)))from(BY fun bb=>mg X2 (fun c x R h i=>U5 _ _ _ h))) fun os1=>dx (γ:=(fun y:(al→Unit→Option (Bool×al))=>na (fun bb=>iI aM (fun(x:Unit)=>[tV (aI bb 0)]) (dS bb) mr y))) (y:=(fun(mc:al) (mx:Unit)=>ko mc)) Ar (di ou) (ht J) (kp hI) (show aE _ _ _ (na (fun bb=>iI aM (fun(x:Unit)=>[tV (aI bb 0)]) (dS bb) mr (fun(mc:al) (mx:Unit)=>ko mc)))from(BY fun bb=>mg X1 (fun c x R h i=>U4 _ _ _ h))) fun os2=>dx (γ:=(fun y:(al→Unit→Option (Bool×al))=>na (fun bb=>iI aM (fun(x:Unit)=>[tV (aI bb 0)]) (dS bb) mr y))) (y:=(fun(mc:al) (mx:Unit)=>jd mc)) Ar (di ou) (ht J) (kp hI) (show aE _ _ _ (na (fun bb=>iI aM (fun(x:Unit)=>[tV (aI bb 0)]) (dS bb) mr (fun(mc:al) (mx:Unit)=>jd mc)))from(BY fun bb=>mg X0 (fun c x R h i=>U3 _ _ _ h))) fun os3=>dx (γ:=(fun y:(al→Unit→Option (Bool×al))=>na (fun bb=>iI aM (fun(x:Unit)=>[tV (aI bb 0)]) (dS bb) mr y))) (y:=(fun(mc:al) (mx:Unit)=>eD mc)) Ar (di ou) (ht J) (kp hI) (show aE _ _ _ (na (fun bb=>iI aM (fun(x:Unit)=>[tV (aI bb 0)]) (dS bb) mr (fun(mc:al) (mx:Unit)=>eD mc)))from(BY fun bb=>mg Ve (fun c x R h i=>U2 _ _ _ h))) fun os4=>dx (γ:=(fun y:(al→Unit→Option (Bool×al))=>na (fun bb=>iI aM (fun(x:Unit)=>[tV (aI bb 0)]) (dS bb) mr y))) (y:=(fun(mc:al) (mx:Unit)=>iy mc)) Ar (di ou) (ht J) (kp hI) (show aE _ _ _ (na (fun bb=>iI aM (fun(x:Unit)=>[tV (aI bb 0)]) (dS bb) mr (fun(mc:al) (mx:Unit)=>iy mc)))from(BY fun bb=>mg XZ (fun c x R h i=>U0 _ _ _ h))) fun os5=>dx (γ:=(fun y:(al→Unit→Option (Bool×al))=>na (fun bb=>iI aM (fun(x:Unit)=>[tV (aI bb 0)]) (dS bb) mr y))) (y:=(fun(mc:al) (mx:Unit)=>jE mc)) Ar (di ou) (ht J) (kp hI) (show aE _ _ _ (na (fun bb=>iI aM (fun(x:Unit)=>[tV (aI bb 0)]) (dS bb) mr (fun(mc:al) (mx:Unit)=>jE mc)))from(BY fun bb=>mg XY (fun c x R h i=>UZ _ _ _ h))) fun os6=>dx (γ:=(fun y:(al→Unit→Option (Bool×al))=>na (fun bb=>iI aM (fun(x:Unit)=>[tV (aI bb 0)]) (dS bb) mr y))) (y:=(fun(mc:al) (mx:Unit)=>gv mc)) Ar (di ou) (ht J) (kp hI) (show aE _ _ _ (na (fun bb=>iI aM (fun(x:Unit)=>[tV (aI bb 0)]) (dS bb) mr (fun(mc:al) (mx:Unit)=>gv mc)))from(BY fun bb=>mg XX (fun c x R h i=>UX _ _ _ h))) fun os7=>dx (γ:=(fun y:(al→Unit→Option (Bool×al))=>na (fun bb=>iI aM (fun(x:Unit)=>[tV (aI bb 0)]) (dS bb) mr y))) (y:=(fun(mc:al) (mx:Unit)=>li mc)) Ar (di ou) (ht J) (kp hI) (show aE _ _ _ (na (fun bb=>iI aM (fun(x:Unit)=>[tV (aI bb 0)]) (dS bb) mr (fun(mc:al) (mx:Unit)=>li mc)))from(BY fun bb=>mg XW (fun c x R h i=>UW _ _ _ h))) fun os8=>dx (γ:=(fun y:(al→Unit→Option (Bool×al))=>na (fun bb=>iI aM (fun(x:Unit)=>[tV (aI bb 0)]) (dS bb) mr y))) (y:=(fun(mc:al) (mx:Unit)=>jD mc)) Ar (di ou) (ht J) (kp hI) (show aE _ _ _ (na (fun bb=>iI aM (fun(x:Unit)=>[tV (aI bb 0)]) (dS bb) mr (fun(mc:al) (mx:Unit)=>jD mc)))from(BY fun bb=>mg XV (fun c x R h i=>UV _ _ _ h))) fun os9=>dx (γ:=(fun y:(al→Unit→Option (Bool×al))=>na (fun bb=>iI aM (fun(x:Unit)=>[tV (aI bb 0)]) (dS bb) mr y))) (y:=(fun(mc:al) (mx:Unit)=>kj mc)) Ar (di ou) (ht J) (kp hI) (show aE _ _ _ (na (fun bb=>iI aM (fun(x:Unit)=>[tV (aI bb 0)]) (dS bb) mr (fun(mc:al) (mx:Unit)=>kj mc)))from(BY fun bb=>mg XU (fun c x R h i=>UU _ _ _ h))) fun os10=>aA J<|bk J<|an ?_;refine aj<|vv 0 J ?_;cases so h;exact aB J J

theorem Te(op:Int){R:Int}(h:tq op=some R):aN aM 94 [bH op] (bH R):=by
 refine aN.of Tryz.func94 J J J fun w0 S0=>aq<|zo J (cQ)<|an<|ae<|aq<|aA J<|an<|ax ?_;refine fD (Z:=fun x=>o8 op x=some R) (Of:=fun x=>[]) (Gf:=fun x=>[(3,bH op),(4,gK x)]) (fun x h=>?_) (fun K=>?_)
 ·skip
  refine cX h J (fun h=>?_) (fun h=>?_)
  ·refine aq<|zo J (cQ)<|an<|aj ?_;refine aC (aa ?_);cases so h;exact aB J J
  ·refine fD (Z:=fun x1=>o7 op x1=some R) (Of:=fun x1=>[]) (Gf:=fun x1=>[(3,bH op),(7,gK x1)]) (fun x1 h=>?_) (fun K1=>?_)
   ·skip
    refine cX h J (fun h=>?_) (fun h=>?_)
    ·refine aq<|zo J (cQ)<|an<|aj ?_;refine aC (aa ?_);cases so h;exact aB J J
    ·refine fD (Z:=fun x2=>ie x2=some R) (Of:=fun x2=>[]) (Gf:=fun x2=>[(10,gK x2)]) (fun x2 h=>?_) (fun K2=>?_)
     ·skip
      refine cX h J (fun h=>?_) (fun h=>?_)
      ·refine aq<|zo J (cQ)<|an<|aj ?_;refine aC (aa ?_);cases so h;exact aB J J
      ·refine bA<|am<|au<|aq<|zo rfl (cQ)<|an<|aj ?_;cases so h;exact aB J J
     ·skip
      refine aq<|zo J (jy J)<|bk J<|an<|cX h J (fun h=>?_) (fun h=>?_)
      ·refine bA ?_;exact bL (K2 (op==(3:Int)) h) (aZ J)
      ·refine aq<|zo J (jy J)<|bk J<|an<|cX h J (fun h=>?_) (fun h=>?_)
       ·refine bA ?_;exact bL (K2 (op==(4:Int)) h) (aZ J)
       ·refine aq<|zo J (jy J)<|bk J<|an<|cX h J (fun h=>?_) (fun h=>?_)
        ·refine bA ?_;exact bL (K2 (op==(5:Int)) h) (aZ J)
        ·refine aq<|zo J (jy J)<|bk J<|an<|cX h J (fun h=>?_) (fun h=>?_)
         ·refine bA ?_;exact bL (K2 (op==(6:Int)) h) (aZ J)
         ·refine aq<|zo J (jy J)<|bk J<|an<|cX h J (fun h=>?_) (fun h=>?_)
          ·refine bA ?_;exact bL (K2 (op==(8:Int)) h) (aZ J)
          ·refine aq<|zo J (jy J)<|bk J<|an<|cX h J (fun h=>?_) (fun h=>?_)
           ·refine bA ?_;exact bL (K2 (op==(10:Int)) h) (aZ J)
           ·refine ai<|zo J (jy J)<|bk J<|aH ?_;exact bL (K2 (op==(11:Int)) h) (aZ J)
   ·skip
    refine aq<|zo J (jy J)<|bk J<|an<|cX h J (fun h=>?_) (fun h=>?_)
    ·refine bA ?_;exact bL (K1 (op==(2:Int)) h) (aZ J)
    ·refine ai<|zo J (jy J)<|bk J<|aH ?_;exact bL (K1 (op==(7:Int)) h) (aZ J)
 ·skip
  refine aq<|zo J (jy J)<|bk J<|an<|cX h J (fun h=>?_) (fun h=>?_)
  ·refine bA ?_;exact bL (K (op==(1:Int)) h) (aZ J)
  ·refine ai<|zo J (jy J)<|bk J<|aH ?_;exact bL (K (op==(9:Int)) h) (aZ J)

theorem Td(n:aK){R:Bool}(h:oG n=some R):aN aM 95 [tD aW n] (gK R):=by
 refine aN.of Tryz.func95 J J J fun w0 S0=>aq<|zo J (jh J)<|zo J (fJ)<|an<|ae ?_
 refine eG (ts:=[_,_,_,_,_,_,_,_,_,_,_,_,_,_,_,_,_,_,_,_,_,_,_]) mixed J J
  ⟨ia 1 J J J (cd iq da J J),
  ⟨cO 6 0 J J J (bz bJ J J),
  ⟨cO 7 1 J J J (jy J),
  ⟨cO 8 2 J J J (cL J),
  ⟨qD 1 9 3 J J J J (iu J J J J (fun hg=>cd iq da J J)),
  ⟨hZ 10 4 9 3 J J J J (iu J J J J (fun hg=>aY bJ J J (aS J hg))),
  ⟨hZ 11 5 9 3 J J J J (iu J J J J (fun hg=>bK (aS J hg) hI)),
  ⟨ft 9 3 12 6 J J J J (pZ J J),
  ⟨ia 1 J J J (cd iq da J J),
  ⟨cO 14 8 J J J (bz bJ J J),
  ⟨cO 15 9 J J J (jy J),
  ⟨cO 16 10 J J J (cL J),
  ⟨qD 1 17 11 J J J J (iu J J J J (fun hg=>cd iq da J J)),
  ⟨hZ 18 12 17 11 J J J J (iu J J J J (fun hg=>aY bJ J J (aS J hg))),
  ⟨hZ 19 13 17 11 J J J J (iu J J J J (fun hg=>bK (aS J hg) hI)),
  ⟨ft 17 11 20 14 J J J J (pZ J J),
  ⟨cO 21 15 J J J (cL J),
  ⟨qD 1 22 16 J J J J (iu J J J J (fun hg=>cd iq da J J)),
  ⟨hZ 23 17 22 16 J J J J (iu J J J J (fun hg=>aY bJ J J (aS J hg))),
  ⟨hZ 24 18 22 16 J J J J (iu J J J J (fun hg=>bK (aS J hg) hI)),
  ⟨ft 22 16 25 19 J J J J (pZ J J),
  ⟨cO 13 7 J J J (zM J),
  ⟨cO 26 20 J J J (zM J),
  aU⟩⟩⟩⟩⟩⟩⟩⟩⟩⟩⟩⟩⟩⟩⟩⟩⟩⟩⟩⟩⟩⟩⟩ ?_
 refine au<|aq<|aA rfl<|aA rfl<|cN rfl rfl (fun hg=>cd pL iF J J)<|cN J J (fun hg=>aY bJ J J (aS J hg))<|cN J J (fun hg=>bK (aS J hg) hI)<|cN J J (fun hg=>bl (aS J hg))<|fk J J J J (fun hg=>cd rf jp J J)<|fk J J J J (fun hg=>aY ce J J (aS J hg))<|fk J J J J (fun hg=>bN dm (aS J hg))<|fk J J J J (fun hg=>bK (aS J hg) hI)<|cN J J (fun hg=>mf (aS J hg) (fun hb=>(aS J (sK hg hb))))<|zo J (pZ J J)<|bk J<|an<|aq<|aA J<|aA J<|bO J J (fun hg=>cd iq da J J)<|bO J J (fun hg=>aY bJ J J (aS J hg)) ?_;refine bO J J (fun hg=>bK (aS J hg) hI)<|bO J J (fun hg=>bl (aS J hg))<|cA J J J J (fun hg=>cd Tb Iq J J)<|cA J J J J (fun hg=>aY LU J J (aS J hg))<|cA J J J J (fun hg=>dH (aS J hg))<|bO J J (fun hg=>lA (aS J hg) (fun hb=>(aS J (sK hg (oL hb)))))<|zo J (la J J)<|aA J<|bO J J (fun hg=>cd iq da J J)<|bO J J (fun hg=>aY bJ J J (aS J hg))<|bO J J (fun hg=>bK (aS J hg) hI)<|bO J J (fun hg=>bl (aS J hg))<|cA J J J J (fun hg=>cd iq da J J)<|cA J J J J (fun hg=>aY bJ J J (aS J hg))<|cA J J J J (fun hg=>bK (aS J hg) hI)<|bO J J (fun hg=>lA (aS J hg) (fun hb=>(aS J (sK hg (oL hb)))))<|bO J J (fun hg=>bl (aS J hg))<|cA J J J J (fun hg=>cd B9 ra J J)<|cA J J J J (fun hg=>dh fa J dw J (aS J hg))<|cA J J J J (fun hg=>aY lU J J (aS J hg))<|cA J J J J (fun hg=>bN jB (aS J hg))<|cA J J J J (fun hg=>bK (aS J hg) hI)<|bO J J (fun hg=>lA (aS J hg) (fun hb=>(aS J (sK hg (oL hb)))))<|zo J (la J J) ?_;refine bk J<|an<|aq<|aA J<|aA J<|bO J J (fun hg=>cL J)<|bO J J (fun hg=>bl (aS J hg))<|cA J J J J (fun hg=>cd kq fZ J J)<|cA J J J J (fun hg=>aY ce J J (aS J hg))<|cA J J J J (fun hg=>bN dm (aS J hg))<|cA J J J J (fun hg=>cd oV gY J J)<|cA J J J J (fun hg=>aY yT J J (aS J hg))<|cA J J J J (fun hg=>bN ss (aS J hg))<|cA J J J J (fun hg=>jZ (aS J hg) (aS J hg))<|cA J J J J (fun hg=>bK (aS J hg) hI)<|bO J J (fun hg=>lA (aS J hg) (fun hb=>(aS J (sK hg (oL hb)))))<|zo J (la J J)<|aA J<|bO J J (fun hg=>cd iq da J J)<|bO J J (fun hg=>aY bJ J J (aS J hg))<|bO J J (fun hg=>bK (aS J hg) hI)<|bO J J (fun hg=>bl (aS J hg)) ?_;refine cA J J J J (fun hg=>cd sl tE J J)<|cA J J J J (fun hg=>aY CT J J (aS J hg))<|cA J J J J (fun hg=>bN sX (aS J hg))<|cA J J J J (fun hg=>bK (aS J hg) hI)<|bO J J (fun hg=>lA (aS J hg) (fun hb=>(aS J (sK hg (oL hb)))))<|zo J (la J J)<|bk J<|an<|aq<|aA J<|aA J<|bO J J (fun hg=>cd iq da J J)<|bO J J (fun hg=>aY bJ J J (aS J hg))<|bO J J (fun hg=>bK (aS J hg) hI)<|bO J J (fun hg=>bl (aS J hg))<|cA J J J J (fun hg=>cd yc py J J)<|cA J J J J (fun hg=>aY Mg J J (aS J hg))<|cA J J J J (fun hg=>bN Ep (aS J hg))<|cA J J J J (fun hg=>bK (aS J hg) hI)<|cA J J J J (fun hg=>bl (aS J hg))<|fk J J J J (fun hg=>cd yb px J J)<|fk J J J J (fun hg=>aY bJ J J (aS J hg)) ?_;refine fk J J J J (fun hg=>bK (aS J hg) hI)<|cA J J J J (fun hg=>mf (aS J hg) (fun hb=>(aS J (sK hg hb))))<|bO J J (fun hg=>lA (aS J hg) (fun hb=>(aS J (sK hg (oL hb)))))<|zo J (la J J)<|bk J<|an<|aj ?_;cases so h;exact aB J J

theorem JF(s:(List Int))(v:Int){R:Int}(h:f9 s v=some R):aN aM 163 [kz s,bH v] (bH R):=by
 refine aN.of Tryz.func163 J J J fun w0 S0=>aq<|zo J (cQ)<|an<|ae<|aq<|aA J<|zo J (ja dm J)<|zo J (bl hI)<|an<|ax<|aV (k:=6) J fun hN=>bB ?_;refine aJ (d6 (Z:=fun ls i=>(s.drop i=ls)∧f8 v ls i=some R) (Of:=fun _ i=>[]) (Gf:=fun _ i=>[(0,kz s),(1,bH v),(7,hM s),(8,bH (i:Int))]) (fun i h=>?_) (fun e tl ih i h=>?_) s 0 ⟨J,h⟩) (aZ J)
 ·obtain⟨hx,h⟩:=h
  refine av<|aq<|zo J (eK J J)<|an<|ae<|bp (ht J) (cW hx)<|bg ?_;refine ac (ac (aF ?_));refine au<|aq<|zo rfl (cQ)<|an<|aj ?_;cases so h;exact aB J J
 ·obtain⟨hx,h⟩:=h
  refine av<|aq<|zo J (eK J J)<|an<|ae<|bo (ht J) (cU hx)<|dA<|ae<|ax<|aq<|aA J<|bk J<|an<|aq<|aA J<|aA J<|aA J<|zo J (iX dm bJ J J J (cP hx)) ?_;refine zo J (bz bJ J J)<|zo J (bK (ht J) (ht J))<|an<|cX h J (fun h=>?_) (fun h=>?_)
  ·refine aq<|aA J<|bk J<|an<|aj ?_;refine aC (aa (aa (aC (aa ?_))));cases so h;exact aB J J
  ·refine bA<|am<|au<|ai<|zo rfl (jU (cz hx hN) rfl)<|aA rfl<|aH ?_;exact aT (aJ (ih (i+1) ⟨cy hx,h⟩) (aZ J))

theorem Iw(s:(List Int))(v:Int){R:Bool}(h:df s v=some R):aN aM 96 [kz s,bH v] (gK R):=by
 refine aN.of Tryz.func96 J J J fun w0 S0=>aq<|zo J (fJ)<|an<|aq<|aA J<|aA J<|bF h fun r q_r h=>zo J (aD RR (JF _ _ q_r) ⟨(ht J),(ht J),aU⟩)<|zo J (dQ (ht J) hI)<|bk J<|an<|aj ?_;cases so h;exact aB J J

theorem U9(b:Nat)(ix:OI)(l:al)(i:Int)(ask:(al→Unit→Option (Bool×al))){R:Bool×al}(h:gH l i ask=some R):fq aM 47 [tV (aI b 0),bH i,na (fun bb=>iI aM (fun(x:Unit)=>[tV (aI bb 0)]) (dS bb) mr ask)] (dS b l ix) (fun _:OI=>gK R.1) (fun j=>dS b R.2 j):=by
 refine fq.of Tryz.func47 J J J fun w0 S0=>?_;refine(show CG _ _ _ [bx (rH be [(1,aw (ix.h 0).1 (ix.h 0).2 l.kinds.length),(2,aw (ix.h 1).1 (ix.h 1).2 l.open_.length)]) 124 b l,eF iv 29 (ix.h 0).1 (ix.h 0).2 l.kinds,cG bQ 3 (ix.h 1).1 (ix.h 1).2 l.open_] _ from ?_);refine aq<|zo J (fJ)<|an<|aq<|aA J<|zo J (bj (ht J))<|zo J (fI 0 Fg J J J)<|zo J (br (r:=rH be [(1,aw (ix.h 0).1 (ix.h 0).2 l.kinds.length),(2,aw (ix.h 1).1 (ix.h 1).2 l.open_.length)]) (x:=l) AB J J (gk zg) (.head _) (ht J))<|aA J<|bF h fun e q_e h=>zo J (iX qy eC J J J q_e)<|zo J (bz eC J J)<|aO (r:=aW) (x:=Dj) eC (fun _=>fE _) J fun b1=>ay eC J ap J (ht J) (ht J)<|aL 7 J<|an<|aq<|zo J (cd iq da J J)<|zo J (bz bJ J J) ?_;refine bF h fun r q_r h=>zo J (aD XT (Te _ q_r) ⟨(ht J),aU⟩)<|bk J<|an<|ae<|aq<|aA J<|zo J (dI (ht J) hI)<|aA J<|cN J J (fun hg=>cL J)<|cN J J (fun hg=>cL J)<|cN J J (fun hg=>bj (aS J hg))<|cN J J (fun hg=>bP (n:=2) qi J (aS J hg) J)<|cN J J (fun hg=>mh ce J (.head _) (aS J hg))<|cN J J (fun hg=>fA dm (.tail _ (.tail _ (.head _))) (aS J hg))<|cN J J (fun hg=>gx (aS J hg) (aS J hg))<|zo J (pZ J J)<|aA J<|bF h fun t q_t h=>cN J J (fun hg=>bz eC J J) ?_
 obtain⟨r1,h1t,h0t⟩:=og q_t
 have q_r1g:=fun hb=>(h1t hb).1
 refine cN J J (fun hg=>aD XS (Td _ (q_r1g hg)) ⟨(aS J hg),aU⟩)<|cN J J (fun hg=>dH (aS J hg))<|zo J (fi (ht J) (fun hb=>(aS J (oL hb))) (fun hb=>(h1t hb).2) h0t)<|an<|oj (ht J) (fun hc=>?_) (fun hc=>?_)
 ·have h:=ct h hc;refine aq<|zo J (fJ)<|an<|aj<|aa<|aR<|aR<|aR ?_;cases so h;exact dc J ix J J (fun _ _ h=>h)
 ·have h:=cf h hc;refine dA<|aq<|zo J (oJ (r:=bQ) (ys:=[mt,mt]) (xs:=[.const (.int .i64 (-1)),.const (.int .i64 (-1))]) Bd bJ J AA J J ⟨hI,hI,aU⟩)<|aO (r:=CN) (x:=(List.replicate 2 (0:Int))) AA (fun _=>vm (r:=bQ) 2 (fun _=>J) _) J fun b2=>ay AA J ap J (ht J) (ht J)<|an<|ae<|bF h fun y q_y h=>?_
  refine oh 13 (ts:=[tV (.slice (some ⟨b2,0,none⟩) 2 2),tV (aI b 0),tV (aI b 0),tV (aI b 2),pQ (ix.h 1).1 (ix.h 1).2 l.open_,tV (aI b 0),tV (aI b 0),tV (aI b 2),pQ (ix.h 1).1 (ix.h 1).2 l.open_,hM l.open_,bH r,bH (IntKind.i64.wrap ((l.open_.length:Int)-r)),tV (lc 1 (ix.h 1).1 (ix.h 1).2 (IntKind.i64.wrap ((l.open_.length:Int)-r)).toNat y.length)]) mixed J J J
   ⟨ia 9 J J J (Gy Bd (Oj bJ) (ht J)),
   ⟨ia 0 J J J (cL J),
   ⟨cO 42 1 J J J (bj (ht J)),
   ⟨cO 43 2 J J J (fI 2 qi J J J),
   ⟨cO 44 3 J J J (mh ce J (.tail _ (.head _)) (ht J)),
   ⟨ia 0 J J J (cL J),
   ⟨cO 46 5 J J J (bj (ht J)),
   ⟨cO 47 6 J J J (fI 2 qi J J J),
   ⟨cO 48 7 J J J (mh ce J (.tail _ (.head _)) (ht J)),
   ⟨cO 49 8 J J J (fA dm (.tail _ (.tail _ (.tail _ (.head _)))) (ht J)),
   ⟨ia 8 J J J (cL J),
   ⟨ft 50 9 51 10 J J J J (fK (ht J) (ht J)),
   ⟨ft 45 4 52 11 J J J J (me dm bJ J (.tail _ (.tail _ (.tail _ (.head _)))) (ht J) (ht J) q_y),
   aU⟩⟩⟩⟩⟩⟩⟩⟩⟩⟩⟩⟩⟩ ?_
  refine mI (.tail _ (.tail _ (.tail _ (.head _)))) q_y fun hv=>vo (Fp (.tail _ (.tail _ (.tail _ (.head _)))) q_y dm (I0 bJ) (ht J) (ht J)) J fun i1=>?_;refine(show RG _ _ _ _ [bx CN 61 b2 (rN L0 y),bx (rH be [(1,aw (ix.h 0).1 (ix.h 0).2 l.kinds.length),(2,aw (ix.h 1).1 (ix.h 1).2 l.open_.length)]) 124 b l,eF iv 29 (ix.h 0).1 (ix.h 0).2 l.kinds,cG bQ 3 (ix.h 1).1 (ix.h 1).2 l.open_] ((54,bH ((min y.length 2:Nat):Int))::_)from ?_);refine an<|ae<|aq<|zo J (br AA J J cF (.head _) (ht J))<|zo J (cd u7 ml J J)<|zo J (bz bJ J J)<|zo J (cd zi oQ J J)<|zo J (bz bJ J J)<|zo J (oJ (r:=bQ) (ys:=[e.A,e.B]) (xs:=[.tmp 57,.tmp 59]) Bd bJ J AA J J ⟨(ht J),(ht J),aU⟩)<|zo J (AU QG (ht J) (ht J))<|an<|oj (ht J) (fun hc=>?_) (fun hc=>?_)
  ·have h:=ct h hc;refine aq<|zo J (fJ)<|an<|aj<|aa<|ba<|aR<|aR<|aR ?_;cases so h;exact dc J ix J J (fun _ _ h=>h)
  ·have h:=cf h hc;refine dA<|aq<|aA J<|aA J<|aA J<|zo J (bz eC J J)<|zo J (bj (ht J))<|zo J (fI 3 fW J J J)<|mJ (EffOK.fr1 (f6 eC J (uA (hs' :=[(1,aw (ix.h 0).1 (ix.h 0).2 l.kinds.length),(2,aw (ix.h 1).1 (ix.h 1).2 l.open_.length)]) KK ⟨.inr ⟨J,J⟩,.inr ⟨J,J⟩,aU⟩ J) J (ht J) (ht J))) fun i2=>?_;refine(show RG _ _ _ _ [bx (rH be [(1,aw (ix.h 0).1 (ix.h 0).2 l.kinds.length),(2,aw (ix.h 1).1 (ix.h 1).2 l.open_.length)]) 124 b ({l with n:=e}:al),bx CN 61 b2 (rN L0 y),eF iv 29 (ix.h 0).1 (ix.h 0).2 l.kinds,cG bQ 3 (ix.h 1).1 (ix.h 1).2 l.open_] _ from ?_);refine zo J (bj (ht J))<|zo J (fI 15 il J J J)<|mJ (f6 ce J (uA (hs' :=[(1,aw (ix.h 0).1 (ix.h 0).2 l.kinds.length),(2,aw (ix.h 1).1 (ix.h 1).2 l.open_.length)]) Dw ⟨.inr ⟨J,J⟩,.inr ⟨J,J⟩,aU⟩ J) J (ht J) uf) fun i3=>?_;refine(show RG _ _ _ _ [bx (rH be [(1,aw (ix.h 0).1 (ix.h 0).2 l.kinds.length),(2,aw (ix.h 1).1 (ix.h 1).2 l.open_.length)]) 124 b ({({l with n:=e}:al)with a_:=[]}:al),bx CN 61 b2 (rN L0 y),eF iv 29 (ix.h 0).1 (ix.h 0).2 l.kinds,cG bQ 3 (ix.h 1).1 (ix.h 1).2 l.open_] _ from ?_);refine zo J (bj (ht J))<|zo J (fI 16 ye J J J)<|mJ (f6 ce J (uA (hs' :=[(1,aw (ix.h 0).1 (ix.h 0).2 l.kinds.length),(2,aw (ix.h 1).1 (ix.h 1).2 l.open_.length)]) Dv ⟨.inr ⟨J,J⟩,.inr ⟨J,J⟩,aU⟩ J) J (ht J) uf) fun i4=>?_;refine(show RG _ _ _ _ [bx (rH be [(1,aw (ix.h 0).1 (ix.h 0).2 l.kinds.length),(2,aw (ix.h 1).1 (ix.h 1).2 l.open_.length)]) 124 b ({({({l with n:=e}:al)with a_:=[]}:al)with b:=[]}:al),bx CN 61 b2 (rN L0 y),eF iv 29 (ix.h 0).1 (ix.h 0).2 l.kinds,cG bQ 3 (ix.h 1).1 (ix.h 1).2 l.open_] _ from ?_);refine an<|ae<|ae<|bF h fun y1 q_y1 h=>?_
   refine eG (ts:=[_,_,_,_,_,_,_,_,_,_,_,_,_,_]) mixed J J
    ⟨ia 0 J J J (cL J),
    ⟨cO 72 0 J J J (bj (ht J)),
    ⟨cO 73 1 J J J (fI 2 qi J J J),
    ⟨cO 74 2 J J J (mh ce J (.head _) (ht J)),
    ⟨ia 0 J J J (cL J),
    ⟨cO 76 4 J J J (bj (ht J)),
    ⟨cO 77 5 J J J (fI 2 qi J J J),
    ⟨cO 78 6 J J J (mh ce J (.head _) (ht J)),
    ⟨cO 79 7 J J J (fA dm (.tail _ (.tail _ (.tail _ (.head _)))) (ht J)),
    ⟨ia 8 J J J (cL J),
    ⟨ft 80 8 81 9 J J J J (fK (ht J) (ht J)),
    ⟨ft 75 3 82 10 J J J J (me dm bJ J (.tail _ (.tail _ (.tail _ (.head _)))) (ht J) (ht J) q_y1),
    ⟨cO 83 11 J J J (Jd dm (.tail _ (.tail _ (.tail _ (.head _)))) q_y1 (ht J)),
    ⟨zd0 J J (bl hI),
    aU⟩⟩⟩⟩⟩⟩⟩⟩⟩⟩⟩⟩⟩⟩ ?_
   refine au<|ax<|FF (.tail _ (.tail _ (.tail _ (.head _)))) q_y1 fun hv1=>?_
   have hN:=hv1.2
   refine bB<|fc<|mK ?_;refine aJ (rm (Z:=fun ls i5 a_ b3=>(y1.drop i5=ls)∧bh l i ask e r ls i5 a_ b3=some R) (Of:=fun _ i5 a_ b3=>[bx (rH be [(1,aw (ix.h 0).1 (ix.h 0).2 l.kinds.length),(2,aw (ix.h 1).1 (ix.h 1).2 l.open_.length)]) 124 b ({({({({({l with n:=e}:al)with a_:=[]}:al)with b:=[]}:al)with a_:=a_}:al)with b:=b3}:al),eF iv 29 (ix.h 0).1 (ix.h 0).2 l.kinds,cG bQ 3 (ix.h 1).1 (ix.h 1).2 l.open_]) (Gf:=fun _ i5 a_ b3=>[(0,tV (aI b 0)),(1,bH i),(2,na (fun bb=>iI aM (fun(x:Unit)=>[tV (aI bb 0)]) (dS bb) mr ask)),(7,bq aW e),(8,bH r),(83,tV (lc 1 (ix.h 1).1 (ix.h 1).2 (IntKind.i64.wrap ((l.open_.length:Int)-r)).toNat y1.length)),(84,hM y1),(85,bH (i5:Int))]) (fun i5 a_ b3 h=>?_) (fun e1 tl ih i5 a_ b3 h=>?_) y1 0 (({({({l with n:=e}:al)with a_:=[]}:al)with b:=[]}:al).a_) (({({({l with n:=e}:al)with a_:=[]}:al)with b:=[]}:al).b) ⟨J,h⟩) (aZ J)
   ·obtain⟨hx,h⟩:=h
    refine av<|aq<|zo J (eK J J)<|an<|ae<|bp (ht J) (cW hx)<|bg ?_;refine ac (ac (aF ?_));refine au<|aq<|zo rfl (cd iq da rfl rfl)<|zo rfl (bz bJ rfl rfl)<|zo rfl (jy rfl)<|aA rfl<|cN rfl rfl (fun hg=>cd iq da J J)<|cN J J (fun hg=>aY bJ J J (aS J hg))<|cN J J (fun hg=>bK (aS J hg) hI)<|zo J (pZ J J)<|bk J<|an<|ae<|aq<|aA J<|aA J<|bO J J (fun hg=>cL J)<|bO J J (fun hg=>cL J)<|bO J J (fun hg=>bj (aS J hg))<|bO J J (fun hg=>bP (n:=0) Fg J (aS J hg) J)<|bO J J (fun hg=>br (r:=rH be [(1,aw (ix.h 0).1 (ix.h 0).2 l.kinds.length),(2,aw (ix.h 1).1 (ix.h 1).2 l.open_.length)]) (x:=({({({({({l with n:=e}:al)with a_:=[]}:al)with b:=[]}:al)with a_:=a_}:al)with b:=b3}:al)) AB J J (gk zg) (.head _) (aS J hg)) ?_;refine bO J J (fun hg=>bN qy (aS J hg))<|bO J J (fun hg=>fK (aS J hg) hI)<|bO J J (fun hg=>dg (aS J hg) (aS J hg))<|zo J (la J J)<|aA J ?_;refine He (((e.Op==(8:Int))||(e.Op==(10:Int)))&&(i !=(IntKind.i64.wrap (((({({({({({l with n:=e}:al)with a_:=[]}:al)with b:=[]}:al)with a_:=a_}:al)with b:=b3}:al).nodes).length:Int)-(1:Int))))) (fun hg=>?_) (fun hg=>?_)
    ·have h:=ct h hg;refine nl J J J hg J<|nl J J J hg J<|nl J J J hg J<|nl J J J hg J<|zo J (y7 (ht J) hg XB)<|aA J<|nl J J J J J<|nl J J J J J<|nl J J J J J<|nl J J J J J<|nl J J J J J<|nl J J J J J<|zo J (y7 (ht J) J XB)<|an<|oj (ht J) (fun hc=>?_) (fun hc=>?_)
     ·refine aq<|zo J (fJ)<|an<|aj<|aa<|aR<|aR<|aR ?_;cases so h;exact dc J ix J J (fun _ _ h=>h)
     ·cases hc
    ·have h:=cf h hg;refine yu J J J hg<|aA J<|yu J J J hg<|aA J<|yu J J J hg<|bF h fun r2 q_r2 h=>vo (EffOK.fr2 (EffOK.fr2 (EffOK.fr2 (Fq (args:=(fun(x:Unit)=>[tV (aI b 0)])) (Ob:=dS b) (res:=mr) (f:=ask) (x:=({({({({({l with n:=e}:al)with a_:=[]}:al)with b:=[]}:al)with a_:=a_}:al)with b:=b3}:al)) (y:=(():Unit)) (R:=r2) (i:=ix) (xs:=[.tmp 136]) _ J (UL (t:=(fun bb=>iI aM (fun(x:Unit)=>[tV (aI bb 0)]) (dS bb) mr ask)) b (ht J)) q_r2 ⟨(ht J),aU⟩ (fun _=>J))))) J fun i6=>?_;refine(show RG _ _ _ _ [bx (rH be [(1,aw (i6.h 0).1 (i6.h 0).2 r2.2.kinds.length),(2,aw (i6.h 1).1 (i6.h 1).2 r2.2.open_.length)]) 124 b r2.2,eF iv 29 (i6.h 0).1 (i6.h 0).2 r2.2.kinds,cG bQ 3 (i6.h 1).1 (i6.h 1).2 r2.2.open_] ((137,gK r2.1)::_)from ?_);refine yu J J J hg<|zo J (dH (ht J))<|zo J (DE (ht J) hg (ht J))<|aA J<|cN J J (fun hg=>cL J)<|cN J J (fun hg=>bj (aS J hg))<|cN J J (fun hg=>bP (n:=17) eW J (aS J hg) J)<|cN J J (fun hg=>br (r:=rH be [(1,aw (i6.h 0).1 (i6.h 0).2 r2.2.kinds.length),(2,aw (i6.h 1).1 (i6.h 1).2 r2.2.open_.length)]) (x:=r2.2) ce J J (gk zf) (.head _) (aS J hg))<|cN J J (fun hg=>bN dm (aS J hg))<|cN J J (fun hg=>gx (aS J hg) hI)<|zo J (pZ J J)<|an<|cX h J (fun h=>?_) (fun h=>?_)
     ·refine aq<|zo J (fJ)<|an<|aj<|aa<|aR<|aR<|aR ?_;cases so h;exact dc J i6 J J (fun _ _ h=>h)
     ·refine dA<|ae<|bF h fun l1 q_l1 h=>bF h fun y2 q_y2 h=>bF h fun l2 q_l2 h=>?_
      refine oe 30 [tc (tV (aI b 0)),tc (tV (aI b 0)),tc (tV (aI b 0)),tc (tV (aI b 0)),tc (tV (aI b 1)),tc (tO iv (i6.h 0).1 (i6.h 0).2 r2.2.kinds),tc (tV (aI b 0)),tc (tV (aI b 0)),tc (tV (aI b 17)),tc (kz r2.2.result),tc (d7 (iv) ([r2.2.result])),([11],fun s=>tO iv ((s.getD 0 wc).h 0).1 ((s.getD 0 wc).h 0).2 l1),tc (tV (aI b 0)),tc (tV (aI b 0)),tc (tV (aI b 2)),tc (pQ (i6.h 1).1 (i6.h 1).2 r2.2.open_),tc (tV (aI b 0)),tc (tV (aI b 0)),tc (tV (aI b 2)),tc (pQ (i6.h 1).1 (i6.h 1).2 r2.2.open_),tc (hM r2.2.open_),tc (bH r),tc (bH (IntKind.i64.wrap ((r2.2.open_.length:Int)-r))),tc (pQ (i6.h 1).1 (i6.h 1).2 y2),tc (bH i),tc (kz ([i])),([26],fun s=>tV (aw ((s.getD 0 wc).h 0).1 ((s.getD 0 wc).h 0).2 l2.length)),tc (tV (aI b 0)),tc (tV (aI b 1)),tc (Bq)] [false,false,false,false,false,false,false,false,false,false,false,true,false,false,false,false,false,false,false,false,false,false,false,false,false,false,true,false,false,true] [fun _=>[bx (rH be [(1,aw (i6.h 0).1 (i6.h 0).2 r2.2.kinds.length),(2,aw (i6.h 1).1 (i6.h 1).2 r2.2.open_.length)]) 124 b r2.2,eF iv 29 (i6.h 0).1 (i6.h 0).2 r2.2.kinds,cG bQ 3 (i6.h 1).1 (i6.h 1).2 r2.2.open_],fun sg=>[eF iv 29 ((sg 11).h 0).1 ((sg 11).h 0).2 l1,bx (rH be [(1,aw (i6.h 0).1 (i6.h 0).2 r2.2.kinds.length),(2,aw (i6.h 1).1 (i6.h 1).2 r2.2.open_.length)]) 124 b r2.2,cG bQ 3 (i6.h 1).1 (i6.h 1).2 r2.2.open_],fun sg=>[cG bQ 3 ((sg 26).h 0).1 ((sg 26).h 0).2 l2,eF iv 29 ((sg 11).h 0).1 ((sg 11).h 0).2 l1,bx (rH be [(1,aw (i6.h 0).1 (i6.h 0).2 r2.2.kinds.length),(2,aw (i6.h 1).1 (i6.h 1).2 r2.2.open_.length)]) 124 b r2.2],fun sg=>[bx (rH be [(1,aw ((sg 11).h 0).1 ((sg 11).h 0).2 l1.length),(2,aw (i6.h 1).1 (i6.h 1).2 r2.2.open_.length)]) 124 b ({r2.2 with kinds:=l1}:al),cG bQ 3 ((sg 26).h 0).1 ((sg 26).h 0).2 l2,eF iv 29 ((sg 11).h 0).1 ((sg 11).h 0).2 l1]] J mixed J J J J J
       ⟨⟨[⟨0,fun _=>tV (aI b 0),none⟩],_,0,2,J,⟨(fun _=>J),aU⟩,J,J,J,J,J,fun _ sg _ _=>ak J (cL J)⟩,
       ⟨⟨[⟨0,fun _=>tV (aI b 0),none⟩],_,0,3,J,⟨(fun _=>J),aU⟩,J,J,J,J,J,fun _ sg _ _=>ak J (cL J)⟩,
       ⟨⟨[⟨0,fun _=>tV (aI b 0),none⟩],_,0,0,J,⟨(fun _=>J),aU⟩,J,J,J,J,J,fun _ sg _ _=>ak J (cL J)⟩,
       ⟨⟨[⟨150,fun _=>tV (aI b 0),some 2⟩],_,0,0,J,⟨(fun _=>J),aU⟩,J,J,J,J,J,fun _ sg _ _=>ak J (bj (ht J))⟩,
       ⟨⟨[⟨151,fun _=>tV (aI b 0),some 3⟩],_,0,0,J,⟨(fun _=>J),aU⟩,J,J,J,J,J,fun _ sg _ _=>ak J (fI 1 A1 J J J)⟩,
       ⟨⟨[⟨152,fun _=>tV (aI b 1),some 4⟩],_,0,0,J,⟨(fun _=>J),aU⟩,J,J,J,J,J,yR (fun sg=>ak J (BI CS J (.head _) (.tail _ (.head _)) (ht J)))⟩,
       ⟨⟨[⟨0,fun _=>tV (aI b 0),none⟩],_,0,0,J,⟨(fun _=>J),aU⟩,J,J,J,J,J,fun _ sg _ _=>ak J (cL J)⟩,
       ⟨⟨[⟨154,fun _=>tV (aI b 0),some 6⟩],_,0,0,J,⟨(fun _=>J),aU⟩,J,J,J,J,J,fun _ sg _ _=>ak J (bj (ht J))⟩,
       ⟨⟨[⟨155,fun _=>tV (aI b 0),some 7⟩],_,0,0,J,⟨(fun _=>J),aU⟩,J,J,J,J,J,fun _ sg _ _=>ak J (fI 17 eW J J J)⟩,
       ⟨⟨[⟨156,fun _=>tV (aI b 17),some 8⟩],_,0,0,J,⟨(fun _=>J),aU⟩,J,J,J,J,J,yR (fun sg=>ak J (br (r:=rH be [(1,aw (i6.h 0).1 (i6.h 0).2 r2.2.kinds.length),(2,aw (i6.h 1).1 (i6.h 1).2 r2.2.open_.length)]) (x:=r2.2) ce J J (gk zf) (.head _) (ht J)))⟩,
       ⟨⟨[⟨157,fun _=>tD wd r2.2.result,some 9⟩],_,0,0,J,⟨(fun _=>J),aU⟩,J,J,J,J,J,fun _ sg _ _=>ak J (aP (r:=wd) (ys:=[r2.2.result]) (xs:=[.tmp 157]) uh ce J J J J J ⟨(ht J),aU⟩)⟩,
       ⟨⟨[⟨153,fun _=>tO wd (i6.h 0).1 (i6.h 0).2 r2.2.kinds,some 5⟩,⟨158,fun _=>tD (fz wd) ([r2.2.result]),some 10⟩],_,J,⟨(fun _=>J),(fun _=>J),aU⟩,J,J,J,fun sg=>dN J (EffOK.fr1 (Ah ce J J J J uh J (ht J) (ht J) q_l1))⟩,
       ⟨⟨[⟨0,fun _=>tV (aI b 0),none⟩],_,0,1,J,⟨(fun _=>J),aU⟩,J,J,J,J,J,fun _ sg _ _=>ak J (cL J)⟩,
       ⟨⟨[⟨160,fun _=>tV (aI b 0),some 12⟩],_,0,1,J,⟨(fun _=>J),aU⟩,J,J,J,J,J,fun _ sg _ _=>ak J (bj (ht J))⟩,
       ⟨⟨[⟨161,fun _=>tV (aI b 0),some 13⟩],_,0,1,J,⟨(fun _=>J),aU⟩,J,J,J,J,J,fun _ sg _ _=>ak J (fI 2 qi J J J)⟩,
       ⟨⟨[⟨162,fun _=>tV (aI b 2),some 14⟩],_,0,1,J,⟨(fun _=>J),aU⟩,J,J,J,J,J,Ks (fun sg=>ak J (mh ce J (.head _) (ht J))) (yR (fun sg=>ak J (mh ce J (.tail _ (.head _)) (ht J))))⟩,
       ⟨⟨[⟨0,fun _=>tV (aI b 0),none⟩],_,0,1,J,⟨(fun _=>J),aU⟩,J,J,J,J,J,fun _ sg _ _=>ak J (cL J)⟩,
       ⟨⟨[⟨164,fun _=>tV (aI b 0),some 16⟩],_,0,1,J,⟨(fun _=>J),aU⟩,J,J,J,J,J,fun _ sg _ _=>ak J (bj (ht J))⟩,
       ⟨⟨[⟨165,fun _=>tV (aI b 0),some 17⟩],_,0,1,J,⟨(fun _=>J),aU⟩,J,J,J,J,J,fun _ sg _ _=>ak J (fI 2 qi J J J)⟩,
       ⟨⟨[⟨166,fun _=>tV (aI b 2),some 18⟩],_,0,1,J,⟨(fun _=>J),aU⟩,J,J,J,J,J,Ks (fun sg=>ak J (mh ce J (.head _) (ht J))) (yR (fun sg=>ak J (mh ce J (.tail _ (.head _)) (ht J))))⟩,
       ⟨⟨[⟨167,fun _=>tV (aw (i6.h 1).1 (i6.h 1).2 r2.2.open_.length),some 19⟩],_,0,1,J,⟨(fun _=>J),aU⟩,J,J,J,J,J,Ks (fun sg=>ak J (fA dm (.tail _ (.tail _ (.head _))) (ht J))) (yR (fun sg=>ak J (fA dm (.tail _ (.tail _ (.head _))) (ht J))))⟩,
       ⟨⟨[⟨8,fun _=>tD bQ r,none⟩],_,0,1,J,⟨(fun _=>J),aU⟩,J,J,J,J,J,fun _ sg _ _=>ak J (cL J)⟩,
       ⟨⟨[⟨168,fun _=>tD bQ (r2.2.open_.length:Int),some 20⟩,⟨169,fun _=>tD bQ r,some 21⟩],_,0,1,J,⟨(fun _=>J),(fun _=>J),aU⟩,J,J,J,J,J,fun _ sg _ _=>ak J (fK (ht J) (ht J))⟩,
       ⟨⟨[⟨163,fun _=>tV (aw (i6.h 1).1 (i6.h 1).2 r2.2.open_.length),some 15⟩,⟨170,fun _=>tD bQ (IntKind.i64.wrap ((r2.2.open_.length:Int)-r)),some 22⟩],_,0,1,J,⟨(fun _=>J),(fun _=>J),aU⟩,J,J,J,J,J,Ks (fun sg=>ak J (kD dm bJ J (.tail _ (.tail _ (.head _))) (ht J) (ht J) q_y2)) (yR (fun sg=>ak J (kD dm bJ J (.tail _ (.tail _ (.head _))) (ht J) (ht J) q_y2)))⟩,
       ⟨⟨[⟨1,fun _=>tD bQ i,none⟩],_,0,1,J,⟨(fun _=>J),aU⟩,J,J,J,J,J,fun _ sg _ _=>ak J (cL J)⟩,
       ⟨⟨[⟨172,fun _=>tD bQ i,some 24⟩],_,0,1,J,⟨(fun _=>J),aU⟩,J,J,J,J,J,fun _ sg _ _=>ak J (aP (r:=bQ) (ys:=[i]) (xs:=[.tmp 172]) dm bJ J J J J J ⟨(ht J),aU⟩)⟩,
       ⟨⟨[⟨171,fun _=>tV (aw (i6.h 1).1 (i6.h 1).2 y2.length),some 23⟩,⟨173,fun _=>tD wd ([i]),some 25⟩],_,J,⟨(fun _=>J),(fun _=>J),aU⟩,J,J,J,fun sg=>dN J (EffOK.fr2 (IN q_y2 (vc bJ J J J J dm J (ht J) (ht J) q_l2)))⟩,
       ⟨⟨[⟨148,fun _=>tV (aI b 0),some 0⟩],_,2,2,J,⟨(fun _=>J),aU⟩,J,J,J,J,J,fun _ sg _ _=>ak J (bj (ht J))⟩,
       ⟨⟨[⟨175,fun _=>tV (aI b 0),some 27⟩],_,2,2,J,⟨(fun _=>J),aU⟩,J,J,J,J,J,fun _ sg _ _=>ak J (fI 1 A1 J J J)⟩,
       ⟨⟨[⟨176,fun _=>tV (aI b 1),some 28⟩,⟨159,fun sg=>tO wd ((sg 11).h 0).1 ((sg 11).h 0).2 l1,some 11⟩],_,J,⟨(fun _=>J),(fun _=>J),aU⟩,J,J,J,fun sg=>dN J (EffOK.fr2 (Ch (hs' :=[(1,aw ((sg 11).h 0).1 ((sg 11).h 0).2 l1.length),(2,aw (i6.h 1).1 (i6.h 1).2 r2.2.open_.length)]) (u:=aw ((sg 11).h 0).1 ((sg 11).h 0).2 l1.length) CS J J KM J ⟨.inl ⟨J,J,J⟩,.inr ⟨J,J⟩,aU⟩ (ht J) (pC (ht J)) (xz (ht J))))⟩,
       aU⟩⟩⟩⟩⟩⟩⟩⟩⟩⟩⟩⟩⟩⟩⟩⟩⟩⟩⟩⟩⟩⟩⟩⟩⟩⟩⟩⟩⟩⟩ (fun sg=>?_)
      refine(show RG _ _ _ _ [bx (rH be [(1,aw ((sg 11).h 0).1 ((sg 11).h 0).2 l1.length),(2,aw (i6.h 1).1 (i6.h 1).2 r2.2.open_.length)]) 124 b ({r2.2 with kinds:=l1}:al),cG bQ 3 ((sg 26).h 0).1 ((sg 26).h 0).2 l2,eF iv 29 ((sg 11).h 0).1 ((sg 11).h 0).2 l1] _ from ?_);refine zo J (bj (ht J))<|zo J (fI 2 qi J J J)<|mJ (Ch (hs' :=[(1,aw ((sg 11).h 0).1 ((sg 11).h 0).2 l1.length),(2,aw ((sg 26).h 0).1 ((sg 26).h 0).2 l2.length)]) (u:=aw ((sg 26).h 0).1 ((sg 26).h 0).2 l2.length) ce J J KL J ⟨.inr ⟨J,J⟩,.inl ⟨J,J,J⟩,aU⟩ (ht J) (XC (y:=l2) (ht J) MA) (ht J)) fun i7=>?_;refine(show RG _ _ _ _ [bx (rH be [(1,aw ((sg 11).h 0).1 ((sg 11).h 0).2 l1.length),(2,aw ((sg 26).h 0).1 ((sg 26).h 0).2 l2.length)]) 124 b ({({r2.2 with kinds:=l1}:al)with open_:=l2}:al),cG bQ 3 ((sg 26).h 0).1 ((sg 26).h 0).2 l2,eF iv 29 ((sg 11).h 0).1 ((sg 11).h 0).2 l1] _ from ?_);refine an<|aq<|zo J (fJ)<|an<|aj<|aX<|aR<|aR ?_;cases so h;exact dc J (K0 [(((sg 11).h 0).1,((sg 11).h 0).2),(((sg 26).h 0).1,((sg 26).h 0).2)]) J J (fun _ _ h=>h)
   ·obtain⟨hx,h⟩:=h
    refine av<|aq<|zo J (eK J J)<|an<|ae<|bo (ht J) (cU hx)<|dA<|ae<|ax<|aq<|aA J<|zo J (wB dm bJ J (.tail _ (.tail _ (.head _))) q_y1 (ht J) (ht J) (cP hx))<|zo J (fG (r:=bQ) (i:=((IntKind.i64.wrap ((l.open_.length:Int)-r))+(i5:Int))) (foff:=0) bJ J J cF J (.tail _ (.tail _ (.head _))) (wQ q_y1 (cP hx)).1 (ht J))<|bk J<|bk J<|an<|aq<|aA J ?_;refine zo J (bj (ht J))<|zo J (fI 1 A1 J J J)<|zo J (BI CS J (.head _) (.tail _ (.head _)) (ht J))<|aA J<|bF h fun e2 q_e2 h=>zo J (bX uh ce J (pC (ht J)) (ht J) q_e2)<|zo J (bz ce J J)<|bk J<|an<|ae<|aq<|zo J (cd iq da J J)<|zo J (bz bJ J J)<|zo J (rn J)<|aA J<|bF h fun t1 q_t1 h=>bO J J (fun hg=>cL J) ?_
    obtain⟨r3,h1t1,h0t1⟩:=og q_t1
    have q_r3g:=fun hb=>(h1t1 hb).1
    refine bO J J (fun hg=>aD TU (Iw _ _ (q_r3g hg)) ⟨(aS J hg),hI,aU⟩)<|zo J (dF (ht J) (fun hb=>(aS J hb)) (fun hb=>(h1t1 hb).2) h0t1)<|an<|cX h J (fun h=>?_) (fun h=>?_)
    ·refine aq<|zo J (fJ)<|an<|aj ?_;refine aa (aC (aa (aa (aC (aa ?_)))));refine aR<|aR<|aR ?_;cases so h;exact dc J ix J J (fun _ _ h=>h)
    ·refine dA<|aq<|aA J<|zo J (jy J)<|an<|cX h J (fun h=>?_) (fun h=>?_)
     ·refine ai<|aA J<|aA J<|zo J (bj (ht J))<|zo J (fI 15 il J J J)<|mJ (f6 ce J (uA (hs' :=[(1,aw (ix.h 0).1 (ix.h 0).2 l.kinds.length),(2,aw (ix.h 1).1 (ix.h 1).2 l.open_.length)]) Dw ⟨.inr ⟨J,J⟩,.inr ⟨J,J⟩,aU⟩ J) J (ht J) (ht J)) fun i8=>?_;refine(show RG _ _ _ _ [bx (rH be [(1,aw (ix.h 0).1 (ix.h 0).2 l.kinds.length),(2,aw (ix.h 1).1 (ix.h 1).2 l.open_.length)]) 124 b ({({({({({({l with n:=e}:al)with a_:=[]}:al)with b:=[]}:al)with a_:=a_}:al)with b:=b3}:al)with a_:=e2}:al),eF iv 29 (ix.h 0).1 (ix.h 0).2 l.kinds,cG bQ 3 (ix.h 1).1 (ix.h 1).2 l.open_] _ from ?_);refine aH<|am<|au<|ai<|zo rfl (jU (cz hx hN) rfl)<|aA rfl<|aH ?_;exact aT (aJ (ih (i5+1) (({({({({({({l with n:=e}:al)with a_:=[]}:al)with b:=[]}:al)with a_:=a_}:al)with b:=b3}:al)with a_:=e2}:al).a_) (({({({({({({l with n:=e}:al)with a_:=[]}:al)with b:=[]}:al)with a_:=a_}:al)with b:=b3}:al)with a_:=e2}:al).b) ⟨cy hx,h⟩) (aZ J))
     ·refine ai<|aA J<|aA J<|zo J (bj (ht J))<|zo J (fI 16 ye J J J)<|mJ (f6 ce J (uA (hs' :=[(1,aw (ix.h 0).1 (ix.h 0).2 l.kinds.length),(2,aw (ix.h 1).1 (ix.h 1).2 l.open_.length)]) Dv ⟨.inr ⟨J,J⟩,.inr ⟨J,J⟩,aU⟩ J) J (ht J) (ht J)) fun i9=>?_;refine(show RG _ _ _ _ [bx (rH be [(1,aw (ix.h 0).1 (ix.h 0).2 l.kinds.length),(2,aw (ix.h 1).1 (ix.h 1).2 l.open_.length)]) 124 b ({({({({({({l with n:=e}:al)with a_:=[]}:al)with b:=[]}:al)with a_:=a_}:al)with b:=b3}:al)with b:=e2}:al),eF iv 29 (ix.h 0).1 (ix.h 0).2 l.kinds,cG bQ 3 (ix.h 1).1 (ix.h 1).2 l.open_] _ from ?_);refine aH<|am<|au<|ai<|zo rfl (jU (cz hx hN) rfl)<|aA rfl<|aH ?_;exact aT (aJ (ih (i5+1) (({({({({({({l with n:=e}:al)with a_:=[]}:al)with b:=[]}:al)with a_:=a_}:al)with b:=b3}:al)with b:=e2}:al).a_) (({({({({({({l with n:=e}:al)with a_:=[]}:al)with b:=[]}:al)with a_:=a_}:al)with b:=b3}:al)with b:=e2}:al).b) ⟨cy hx,h⟩) (aZ J))

end Go.Proofs.YtmogpgcfognefaaGreatDoor

