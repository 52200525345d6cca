/- dr of this claim: P12. -/
import Derived.Test.YtnmjbolollcokaaGreatDoorRdT
import Derived.Test.YtnmjbolollcokaaGreatDoorRdP11
set_option linter.all false
namespace Go.Proofs.YtnmjbolollcokaaGreatDoor
open Go
set_option maxRecDepth 100000

theorem Ej(a1:(List Int))(b:(List Int)){R:Bool}(h:eH a1 b=some R):bo bl 23 [dI a1,dI b] (gq R):=by
 refine bo.of Tryz.func23 J J J fun w0 S0=>aw<|zo J (ez)<|au<|ac<|aw<|aE J<|zo J (fW dc J)<|aE J<|zo J (fW dc J)<|zo J (cF (ht J) (ht J))<|au<|cE h J (fun h=>?_) (fun h=>?_)
 ·refine aw<|zo J (ez)<|au<|ak<|M ?_;cases so h;exact aF J J
 ·refine dz<|ac<|aw<|zo J (dB)<|au<|ax<|br (k:=0) J fun hN=>bB ?_;refine aP (em (Z:=fun ls i=>(a1.drop i=ls)∧ia b ls i=some R) (Of:=fun _ i=>[]) (Gf:=fun _ i=>[(0,dI a1),(1,dI b),(5,cb (i:Int))]) (fun i h=>?_) (fun e tl ih i h=>?_) a1 0 ⟨J,h⟩) (bg J)
  ·obtain⟨hx,h⟩:=h
   refine aB<|ac<|aw<|aE J<|aE J<|zo J (fW dc J)<|zo J (ft J J)<|au<|bP (ht J) (dU hx)<|bp ?_;refine ae (ae (aK ?_));refine aq<|aw<|zo rfl (ez)<|au<|ak ?_;cases so h;exact aF J J
  ·obtain⟨hx,h⟩:=h
   refine aB<|ac<|aw<|aE J<|aE J<|zo J (fW dc J)<|zo J (ft J J)<|au<|bO (ht J) (dN hx)<|dz<|ac<|ax<|ac<|bz h fun e1 q_e1 h=>?_
   refine eu (ts:=[_,_,_,_,_,_,_,_,_]) mixed J J
    ⟨ef 0 J J J (cG J),
    ⟨ef 5 J J J (cG J),
    ⟨dG 17 0 18 1 J J J J (iQ dc bA J J J (dO hx)),
    ⟨cT 19 2 J J J (bm bA J J),
    ⟨ef 1 J J J (cG J),
    ⟨ef 5 J J J (cG J),
    ⟨dG 21 4 22 5 J J J J (iQ dc bA J J J q_e1),
    ⟨cT 23 6 J J J (bm bA J J),
    ⟨dG 20 3 24 7 J J J J (cF (ht J) (ht J)),
    aT⟩⟩⟩⟩⟩⟩⟩⟩⟩ ?_
   refine aq<|cE h rfl (fun h=>?_) (fun h=>?_)
   ·refine aw<|zo J (ez)<|au<|ak ?_;refine ay (M (M (ay (M ?_))));cases so h;exact aF J J
   ·refine bk<|an<|aq<|am<|aE rfl<|zo rfl (nh (dm hx hN) rfl)<|bu rfl<|aJ ?_;exact be (aP (ih (i+1) ⟨dl hx,h⟩) (bg J))

end Go.Proofs.YtnmjbolollcokaaGreatDoor

