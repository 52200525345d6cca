/- da of this claim: P14. -/
import Derived.Test.YtfhhakidodmdfaaGreatDoorJdT
import Derived.Test.YtfhhakidodmdfaaGreatDoorJdP13
set_option linter.all false
namespace Go.Proofs.YtfhhakidodmdfaaGreatDoor
open Go
set_option maxRecDepth 100000

theorem XR(r:(List ac)){R:Bool}(h:tL r=some R):aU aO 31 [bR (af) r] (gY R):=by
 refine aU.of Tryz.func31 J J J fun w0 S0=>au<|zo J (jE)<|aq<|ah<|au<|aF J<|zo J (iw gc J)<|zo J (jm (ht J) hI)<|aq<|cU h J (fun h=>?_) (fun h=>?_)
 ·refine au<|zo J (jE)<|aq<|ak<|ae ?_;cases so h;exact aG J J
 ·refine dR<|ah<|au<|zo J (cq)<|aq<|ay<|ba (k:=0) J fun hN=>bG ?_;refine aT (eH (Z:=fun ls i=>(r.drop i=ls)∧nv ls=some R) (Of:=fun _ i=>[]) (Gf:=fun _ i=>[(0,bR (af) r),(3,bH (i:Int))]) (fun i h=>?_) (fun e tl ih i h=>?_) r 0 ⟨J,h⟩) (bt J)
  ·obtain⟨hx,h⟩:=h
   refine aC<|ah<|au<|aF J<|aF J<|zo J (iw gc J)<|zo J (fG J J)<|aq<|bA (ht J) (dC hx)<|bu ?_;refine ai (ai (aN ?_));refine av<|au<|zo rfl (jE)<|aq<|ak ?_;cases so h;exact aG J J
  ·obtain⟨hx,h⟩:=h
   refine aC<|ah<|au<|aF J<|aF J<|zo J (iw gc J)<|zo J (fG J J)<|aq<|bz (ht J) (du hx)<|dR<|ah<|ay<|au<|aF J<|aF J<|zo J (lq gc aH J J J (cW hx))<|zo J (bB aH J J)<|bv h fun r1 q_r1 h=>zo J (aA abW (XE _ q_r1) ⟨(ht J),aR⟩)<|zo J (ei (ht J)) ?_;refine aq<|cU h J (fun h=>?_) (fun h=>?_)
   ·refine au<|zo J (jE)<|aq<|ak ?_;refine aD (ae (ae (aD (ae ?_))));cases so h;exact aG J J
   ·refine bw<|ap<|av<|aw<|aF rfl<|zo rfl (mI (cQ hx hN) rfl)<|bm rfl<|aQ ?_;exact bg (aT (ih (i+1) ⟨cP hx,h⟩) (bt J))

theorem AU(less:Bool){R:Int}(h:lc less=some R):aU aO 112 [gY less] (bH R):=by
 refine aU.of Tryz.func112 J J J fun w0 S0=>au<|zo J (cq)<|aq<|ah<|au<|aF J<|aq<|cU h J (fun h=>?_) (fun h=>?_)
 ·refine au<|zo J (cq)<|aq<|ak<|ae ?_;cases so h;exact aG J J
 ·refine dR<|au<|zo J (cq)<|aq<|ak ?_;cases so h;exact aG J J

theorem Rz(a1:ac)(b:ac){R:Int}(h:kU a1 b=some R):aU aO 81 [tD af a1,tD af b] (bH R):=by
 refine aU.of Tryz.func81 J J J fun w0 S0=>au<|zo J (jw J)<|zo J (jw J)<|zo J (cq)<|aq<|ah<|au<|zo J (cY fR cg J J)<|zo J (bB cv J J)<|zo J (cY fR cg J J)<|zo J (bB cv J J)<|zo J (eZ (ht J) (ht J))<|aq<|cU h J (fun h=>?_) (fun h=>?_)
 ·refine au<|zo J (cY fR cg J J)<|zo J (bB cv J J)<|zo J (cY fR cg J J)<|zo J (bB cv J J)<|zo J (fG J J)<|bv h fun r q_r h=>zo J (aA KD (AU _ q_r) ⟨(ht J),aR⟩)<|bm J<|aq<|ak<|ae ?_;cases so h;exact aG J J
 ·refine dR<|ah<|au<|zo J (cY iZ dm J J)<|zo J (bB Bl J J)<|zo J (cY iZ dm J J)<|zo J (bB Bl J J)<|zo J (eZ (ht J) (ht J))<|aq<|cU h J (fun h=>?_) (fun h=>?_)
  ·refine au<|zo J (cY iZ dm J J)<|zo J (bB Bl J J)<|zo J (cY iZ dm J J)<|zo J (bB Bl J J)<|zo J (fG J J)<|bv h fun r1 q_r1 h=>zo J (aA KD (AU _ q_r1) ⟨(ht J),aR⟩)<|bm J<|aq<|ak<|ae ?_;cases so h;exact aG J J
  ·refine dR<|ah<|au<|zo J (cY qr iY J J)<|zo J (bB Al J J)<|zo J (cY qr iY J J)<|zo J (bB Al J J)<|zo J (eZ (ht J) (ht J))<|aq<|cU h J (fun h=>?_) (fun h=>?_)
   ·refine au<|zo J (cY qr iY J J)<|zo J (bB Al J J)<|zo J (cY qr iY J J)<|zo J (bB Al J J)<|zo J (fG J J)<|bv h fun r2 q_r2 h=>zo J (aA KD (AU _ q_r2) ⟨(ht J),aR⟩)<|bm J<|aq<|ak<|ae ?_;cases so h;exact aG J J
   ·refine dR<|ah<|au<|zo J (cY oX gN J J)<|zo J (bB Le J J)<|zo J (cY oX gN J J)<|zo J (bB Le J J)<|zo J (Ny (ht J) (ht J))<|aq<|cU h J (fun h=>?_) (fun h=>?_)
    ·refine au<|zo J (cY oX gN J J)<|zo J (bB Le J J)<|zo J (cY oX gN J J)<|zo J (bB Le J J)<|zo J (ND (ht J) (ht J))<|bv h fun r3 q_r3 h=>zo J (aA KD (AU _ q_r3) ⟨(ht J),aR⟩)<|bm J<|aq<|ak<|ae ?_;cases so h;exact aG J J
    ·refine dR<|au<|zo J (cq)<|aq<|ak ?_;cases so h;exact aG J J

theorem RC(a1:(List ac))(b:(List ac)){R:Int}(h:oo a1 b=some R):aU aO 62 [bR (af) a1,bR (af) b] (bH R):=by
 refine aU.of Tryz.func62 J J J fun w0 S0=>au<|zo J (cq)<|aq<|ah<|au<|zo J (cq)<|aq<|ay<|bG ?_;refine aT (Dn (Z:=fun n i=>lJ a1 b n i=some R) (Of:=fun i=>[]) (Gf:=fun i=>[(0,bR (af) a1),(1,bR (af) b),(5,bH i)]) (fun i h=>nn h) (fun n ih i h=>?_) ge (0:Int) h) (bt J);refine aC<|ah<|au<|aF J<|aF J<|zo J (iw gc J)<|zo J (fG J J)<|aF J<|cR J J (fun hg=>cD J)<|cR J J (fun hg=>cD J)<|cR J J (fun hg=>dW gc (bD J hg))<|cR J J (fun hg=>fa (bD J hg) (bD J hg))<|zo J (rE J J)<|aq<|cU h J (fun h=>?_) (fun h=>?_)
 ·refine dR<|ah<|ay<|ah<|bv h fun e q_e h=>bv h fun e1 q_e1 h=>bv h fun r q_r h=>?_
  refine cJ (ts:=[_,_,_,_,_,_,_,_,_,_]) mixed J J
   ⟨ep 0 J J J (cD J),
   ⟨ep 5 J J J (cD J),
   ⟨dv 19 0 20 1 J J J J (lq gc aH J J J q_e),
   ⟨bT 21 2 J J J (bB aH J J),
   ⟨ep 1 J J J (cD J),
   ⟨ep 5 J J J (cD J),
   ⟨dv 23 4 24 5 J J J J (lq gc aH J J J q_e1),
   ⟨bT 25 6 J J J (bB aH J J),
   ⟨dv 22 3 26 7 J J J J (aA ZB (Rz _ _ q_r) ⟨(ht J),(ht J),aR⟩),
   ⟨bT 27 8 J J J (tA J),
   aR⟩⟩⟩⟩⟩⟩⟩⟩⟩⟩ ?_
  refine av<|au<|aF rfl<|zo rfl (tE rfl)<|aq<|cU h rfl (fun h=>?_) (fun h=>?_)
  ·refine au<|aF J<|bm J<|aq<|ak ?_;refine aD (ae (ae (aD (ae ?_))));cases so h;exact aG J J
  ·refine bw<|ap<|av<|aw<|aF rfl<|zo rfl (nc (ht rfl) hI)<|bm rfl<|aQ ?_;exact bg (aT (ih (IntKind.i64.wrap (i+(1:Int))) h) (bt J))
 ·refine bu ?_;refine ai (ai (aN ?_));refine av<|ah<|au<|aF rfl<|zo rfl (iw gc rfl)<|aF rfl<|zo rfl (iw gc rfl)<|zo rfl (dd (ht rfl) (ht rfl))<|aq<|cU h rfl (fun h=>?_) (fun h=>?_)
  ·refine au<|zo J (cq)<|aq<|ak<|ae ?_;cases so h;exact aG J J
  ·refine dR<|au<|aF J<|zo J (iw gc J)<|aF J<|zo J (iw gc J)<|zo J (fG J J)<|bv h fun r1 q_r1 h=>zo J (aA KD (AU _ q_r1) ⟨(ht J),aR⟩)<|bm J<|aq<|ak ?_;cases so h;exact aG J J

theorem X7(a1:(List (List ac)))(b:(List (List ac))){R:Bool}(h:vF a1 b=some R):aU aO 18 [bR (cK) a1,bR (cK) b] (gY R):=by
 refine aU.of Tryz.func18 J J J fun w0 S0=>au<|zo J (jE)<|aq<|ah<|au<|aF J<|zo J (iw gR J)<|aF J<|zo J (iw gR J)<|zo J (eZ (ht J) (ht J))<|aq<|cU h J (fun h=>?_) (fun h=>?_)
 ·refine au<|zo J (jE)<|aq<|ak<|ae ?_;cases so h;exact aG J J
 ·refine dR<|ah<|au<|zo J (cq)<|aq<|ay<|ba (k:=0) J fun hN=>bG ?_;refine aT (eH (Z:=fun ls i=>(a1.drop i=ls)∧om b ls i=some R) (Of:=fun _ i=>[]) (Gf:=fun _ i=>[(0,bR (cK) a1),(1,bR (cK) b),(5,bH (i:Int))]) (fun i h=>?_) (fun e tl ih i h=>?_) a1 0 ⟨J,h⟩) (bt J)
  ·obtain⟨hx,h⟩:=h
   refine aC<|ah<|au<|aF J<|aF J<|zo J (iw gR J)<|zo J (fG J J)<|aq<|bA (ht J) (dC hx)<|bu ?_;refine ai (ai (aN ?_));refine av<|au<|zo rfl (jE)<|aq<|ak ?_;cases so h;exact aG J J
  ·obtain⟨hx,h⟩:=h
   refine aC<|ah<|au<|aF J<|aF J<|zo J (iw gR J)<|zo J (fG J J)<|aq<|bz (ht J) (du hx)<|dR<|ah<|ay<|ah<|bv h fun e1 q_e1 h=>bv h fun r q_r h=>?_
   refine cJ (ts:=[_,_,_,_,_,_,_,_,_,_]) mixed J J
    ⟨ep 0 J J J (cD J),
    ⟨ep 5 J J J (cD J),
    ⟨dv 17 0 18 1 J J J J (lq gR cO J J J (cW hx)),
    ⟨bT 19 2 J J J (bB cO J J),
    ⟨ep 1 J J J (cD J),
    ⟨ep 5 J J J (cD J),
    ⟨dv 21 4 22 5 J J J J (lq gR cO J J J q_e1),
    ⟨bT 23 6 J J J (bB cO J J),
    ⟨dv 20 3 24 7 J J J J (aA ZD (RC _ _ q_r) ⟨(ht J),(ht J),aR⟩),
    ⟨bT 25 8 J J J (tE J),
    aR⟩⟩⟩⟩⟩⟩⟩⟩⟩⟩ ?_
   refine av<|cU h rfl (fun h=>?_) (fun h=>?_)
   ·refine au<|zo J (jE)<|aq<|ak ?_;refine aD (ae (ae (aD (ae ?_))));cases so h;exact aG J J
   ·refine bw<|ap<|av<|aw<|aF rfl<|zo rfl (mI (cQ hx hN) rfl)<|bm rfl<|aQ ?_;exact bg (aT (ih (i+1) ⟨cP hx,h⟩) (bt J))

end Go.Proofs.YtfhhakidodmdfaaGreatDoor

