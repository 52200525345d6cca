/- di of this claim: P11. -/
import Derived.Test.YtmogpgcfognefaaGreatDoorNdT
import Derived.Test.YtmogpgcfognefaaGreatDoorNdP10
set_option linter.all false
namespace Go.Proofs.YtmogpgcfognefaaGreatDoor
open Go
set_option maxRecDepth 100000

theorem QC(l:(List cL))(most:Int){R:(List cL)}(h:ne l most=some R):gk be 44 [eV (bR) l,bY most] false bR 31 R:=by
 refine gk.of Tryz.func44 J J J fun w0 S0=>an<|cm false bR 31<|zo J (aP tE)<|al<|an<|gy (r:=bR) (ys:=([]:List cL)) (xs:=[]) kE fN J J J J J trivial J fun l1 c=>ax J<|ax J<|zo J (fU kE J)<|ax J<|zo J (pw (ht J) (ht J))<|bM h fun y q_y h=>zo J (nc kE fN J (ht J) (ht J) q_y)<|bM h fun x q_x h=>cn fN J J J J kE J J (ht J) (ht J) q_x fun l2 c1=>aY J<|al<|aj ?_;cases so h;exact iu J J
theorem GD(p:da){R:da}(h:xk p=some R):bh be 14 [tD ce p] (tD ce R):=by
 refine bh.of Tryz.func14 J J J fun w0 S0=>an<|zo J (lK J)<|aZ (r:=ce) (x:=Ad) mg (fun _=>tK _) J fun b=>al<|an<|zo J (bw fY dp J J)<|zo J (bj nS J J)<|bM h fun r q_r h=>kC YJ (QC _ _ q_r) ⟨(ht J),hI,bm⟩ J fun l c=>zo J (cI (y:=sP (⟨r⟩:da) (aD l c r.length)) mg TW EE (⟨_,_,_,_,_,J,Hv,J,(Bg (ht J)),J⟩))<|cm false bR 31<|aZ (r:=qY) (x:=sP Ad (aD none 0 (([]:List cL).length))) mg EE J fun b1=>dP mg J (iX J) J (ht J) (ht J)<|cg<|uo<|al<|ae<|an ?_;refine zo J (fi 0 fY J J J)<|zo J (fa nS Bi (.head _) J (ht J))<|zo J (fc kE (.tail _ (.head _)) (ht J))<|zo J (bk hI)<|al<|ap<|jI (.tail _ (.head _)) fun hN=>bE<|dW<|dW<|ka ?_;refine aJ (jY (Z:=fun ls i out=>(r.drop i=ls)∧qF ls i out=some R) (Of:=fun _ i out=>[bx ce 37 b Ad,bx qY 37 b1 (sP out (aD l c out.Frags.length)),cY bR 31 l c out.Frags]) (Gf:=fun _ i out=>[(2,tV (aN b 0)),(3,tV (aN b1 0)),(11,mU l c r),(12,gA r),(13,bY (i:Int))]) (fun i out h=>?_) (fun e tl ih i out h=>?_) r 0 ({(⟨r⟩:da)with Frags:=r}:da) ⟨J,h⟩) (aQ J)
 ·obtain⟨hx,h⟩:=h
  refine av<|an<|zo J (eu J J)<|al<|ae<|bu (ht J) (dh hx)<|bf ?_;refine ac (ac (aI ?_));refine ai<|an<|fD<|ja<|zo rfl (nd (q:=ce) (y:=out) mg J J J J (.tail _ (.tail _ (.head _))) (fun _ _ _ ho h=>Dw (jl ho (.head _)) h) (ht J))<|cg<|aE mg J ay J (ht J) (ht J)<|aW 2 J<|al<|aj<|aX<|aX ?_;cases so h;exact gz J mg J J J
 ·obtain⟨hx,h⟩:=h
  refine av<|an<|zo J (eu J J)<|al<|ae<|bt (ht J) (dg hx)<|dF<|ae<|ap<|an<|ax J<|bM h fun e1 q_e1 h=>zo J (pn kE fN (.tail _ (.tail _ (.head _))) (ht J) (ht J) q_e1 (GJ hx))<|bM h fun e2 q_e2 h=>zo J (dj (r:=bR) (i:=(i:Int)) (foff:=0) fN J J bO J (.tail _ (.tail _ (.head _))) q_e2 (ht J))<|aZ (r:=bR) (x:=IT) fN (fun _=>mu _) J fun b2=>aY J<|aE fN J ay J (ht J) (ht J)<|al ?_;refine ae<|bM h fun r1 q_r1 h=>bM h fun r2 q_r2 h=>?_
  refine pr 7 (ts:=[tV (aN b2 0),eV (aA) e2.Nodes,eV (aA) r1,tV (aN b2 3),ji e2.Cols,ji r2,tV (aN b2 0)]) mixed J J J
   ⟨ic 5 J J J (fi 0 mO J J J),
   ⟨dc 18 0 J J J (bl n8 J J gJ (.head _) (ht J)),
   ⟨dc 19 1 J J J (aH YY (UB _ q_r1) ⟨(ht J),bm⟩),
   ⟨ic 5 J J J (fi 3 uF J J J),
   ⟨dc 21 3 J J J (bl bV J J o7 (.head _) (ht J)),
   ⟨dc 22 4 J J J (aH Sm (Gy _ _ q_r2) ⟨(ht J),hI,bm⟩),
   ⟨ic 5 J J J (fi 0 mO J J J),
   bm⟩⟩⟩⟩⟩⟩⟩ ?_
  refine aE n8 J Ah J (ht J) (ht J)<|zo J (fi 3 uF J J J)<|aE bV J Mt J (ht J) (ht J)<|al<|ah<|zo J (fi 0 fY J J J)<|zo J (fa nS Bi (.tail _ (.tail _ (.head _))) J (ht J))<|ax J<|zo J (bl fN J J bO (.head _) (ht J))<|zo J (bT kE fN (.tail _ (.tail _ (.tail _ (.head _)))) (ht J) (ht J) q_e2)<|em<|bM h fun st q_st h=>lP fN J ay J q_e2 (so q_st) (ht J) (ht J)<|jw (iq (so q_st)) 27 J<|pq (O' :=[cY bR 31 l c st,bx bR 31 b2 (cL.mk r1 e2.At e2.Way r2),bx ce 37 b Ad,bx qY 37 b1 (sP out (aD l c st.length))]) (by rw [iq (so q_st)])<|aC<|af<|ai<|ah<|zo rfl (je (cx hx hN) rfl)<|ax rfl<|aC<|aU ?_;refine aX<|bc<|bc ?_;exact aM (aJ (ih (i+1) ({out with Frags:=st}:da) ⟨cw hx,h⟩) (aQ J))

end Go.Proofs.YtmogpgcfognefaaGreatDoor

