/- dr of this claim: P11. -/
import Derived.Test.YtnmjbolollcokaaGreatDoorRdT
import Derived.Test.YtnmjbolollcokaaGreatDoorRdP10
set_option linter.all false
namespace Go.Proofs.YtnmjbolollcokaaGreatDoor
open Go
set_option maxRecDepth 100000

theorem V1(l:(List af)){R:Bool}(h:wr l=some R):bo bl 9 [fc (ah) l] (gq R):=by
 refine bo.of Tryz.func9 J J J fun w0 S0=>aw<|zo J (ez)<|au<|ac<|aw<|aE J<|zo J (fW om J)<|zo J (d5 (ht J) hI)<|au<|cE h J (fun h=>?_) (fun h=>?_)
 ·refine aw<|zo J (ez)<|au<|ak<|M ?_;cases so h;exact aF J J
 ·refine dz<|ac<|aw<|aE J<|zo J (fW om J)<|zo J (bQ hI)<|au<|ax<|br (k:=12) J fun hN=>bB ?_;refine aP (em (Z:=fun ls i=>(l.drop i=ls)∧kS ls=some R) (Of:=fun _ i=>[]) (Gf:=fun _ i=>[(12,fc (ah) l),(13,jV l),(14,cb (i:Int))]) (fun i h=>?_) (fun e tl ih i h=>?_) l 0 ⟨J,h⟩) (bg J)
  ·obtain⟨hx,h⟩:=h
   refine aB<|aw<|zo J (ft J J)<|au<|ac<|bP (ht J) (dU hx)<|bp ?_;refine ae (ae (aK ?_));refine aq<|aw<|zo rfl (ez)<|au<|ak ?_;cases so h;exact aF J J
  ·obtain⟨hx,h⟩:=h
   refine aB<|aw<|zo J (ft J J)<|au<|ac<|bO (ht J) (dN hx)<|dz<|ac<|ax<|aw<|zo J (iQ om cz J J J (dO hx))<|zo J (bm cz J J)<|bj (r:=ah) (x:=zk) cz (fun _=>iT _) J fun b=>ai cz J aj J (ht J) (ht J)<|bh 4 J<|au<|ac<|aw ?_;refine zo J (bD ly fq J J)<|zo J (bm cD J J)<|zo J (fW dc J)<|zo J (d5 (ht J) hI)<|aE J<|ci J J (fun hg=>bD jP d8 J J)<|ci J J (fun hg=>aI cD J J (aS J hg))<|ci J J (fun hg=>bU dc (aS J hg))<|ci J J (fun hg=>d5 (aS J hg) hI)<|zo J (nW J J)<|aE J<|ci J J (fun hg=>bD lX gD J J)<|ci J J (fun hg=>aI xh J J (aS J hg))<|ci J J (fun hg=>bU vS (aS J hg))<|ci J J (fun hg=>d5 (aS J hg) hI)<|zo J (nW J J)<|aE J<|ci J J (fun hg=>bD lg fN J J)<|ci J J (fun hg=>aI te J J (aS J hg))<|ci J J (fun hg=>bU nc (aS J hg))<|ci J J (fun hg=>d5 (aS J hg) hI)<|zo J (nW J J)<|aE J<|ci J J (fun hg=>bD io ek J J) ?_;refine ci J J (fun hg=>aI pr J J (aS J hg))<|ci J J (fun hg=>bU nC (aS J hg))<|ci J J (fun hg=>d5 (aS J hg) hI)<|zo J (nW J J)<|aE J<|bz h fun t q_t h=>ci J J (fun hg=>bD p7 jB J J)<|ci J J (fun hg=>aI eN J J (aS J hg)) ?_
   obtain⟨r,h1t,h0t⟩:=og q_t
   have q_rg:=fun hb=>(h1t hb).1
   refine ci J J (fun hg=>aC Vi (Kz _ (q_rg hg)) ⟨(aS J hg),aT⟩)<|zo J (dj (ht J) (fun hb=>(aS J (nZ hb))) (fun hb=>(h1t hb).2) h0t)<|au<|cE h J (fun h=>?_) (fun h=>?_)
   ·refine aw<|zo J (ez)<|au<|ak ?_;refine M (ay (M (M (ay (M ?_)))));cases so h;exact aF J J
   ·refine dz<|ac<|aw<|zo J (bD lg fN J J)<|zo J (bm te J J)<|zo J (fW nc J)<|zo J (bQ hI)<|au<|ax<|br (k:=52) J fun hN1=>bB ?_;refine aP (em (Z:=fun ls1 i1=>(e.Items.drop i1=ls1)∧pJ (kS tl) e ls1=some R) (Of:=fun _ i1=>[]) (Gf:=fun _ i1=>[(4,bt ah e),(12,fc (ah) l),(13,jV l),(14,cb (i:Int)),(52,fc (bn) e.Items),(53,jV e.Items),(54,cb (i1:Int))]) (fun i1 h=>?_) (fun e1 tl1 ih1 i1 h=>?_) e.Items 0 ⟨J,h⟩) (bg J)
    ·obtain⟨hx1,h⟩:=h
     refine aB<|aw<|zo J (ft J J)<|au<|ac<|bP (ht J) (dU hx1)<|bp ?_;refine ae (ae (aK ?_));refine aq<|aw<|zo rfl (bD io ek rfl rfl)<|zo rfl (bm pr rfl rfl)<|zo rfl (fW nC rfl)<|zo rfl (bQ hI)<|au<|ax<|br (k:=62) J fun hN2=>bB ?_;refine aP (em (Z:=fun ls2 i2=>(e.Aggs.drop i2=ls2)∧pI (kS tl) ls2=some R) (Of:=fun _ i2=>[]) (Gf:=fun _ i2=>[(12,fc (ah) l),(13,jV l),(14,cb (i:Int)),(62,fc (dP) e.Aggs),(63,jV e.Aggs),(64,cb (i2:Int))]) (fun i2 h=>?_) (fun e2 tl2 ih2 i2 h=>?_) e.Aggs 0 ⟨J,h⟩) (bg J)
     ·obtain⟨hx2,h⟩:=h
      refine aB<|aw<|zo J (ft J J)<|au<|ac<|bP (ht J) (dU hx2)<|bp ?_;refine ae (ae (aK ?_));refine an<|aq<|am<|zo rfl (nh (dm hx hN) rfl)<|aE rfl<|aJ ?_;exact be (aP (ih (i+1) ⟨dl hx,h⟩) (bg J))
     ·obtain⟨hx2,h⟩:=h
      refine aB<|aw<|zo J (ft J J)<|au<|ac<|bO (ht J) (dN hx2)<|dz<|ac<|ax<|aw<|zo J (iQ nC nX J J J (dO hx2))<|zo J (bm nX J J)<|bj (r:=dP) (x:=Qx) nX (fun _=>zi _) J fun b1=>ai nX J aj J (ht J) (ht J)<|bh 8 J<|au<|aw<|zo J (bD wx qM J J) ?_;refine zo J (bm eN J J)<|bz h fun r1 q_r1 h=>zo J (aC Vi (Kz _ q_r1) ⟨(ht J),aT⟩)<|au<|cE h J (fun h=>?_) (fun h=>?_)
      ·refine aw<|zo J (ez)<|au<|ak ?_;refine ay (M (M (ay (ay (M (M (ay (M ?_))))))));cases so h;exact aF J J
      ·refine bk<|an<|aq<|am<|zo rfl (nh (dm hx2 hN2) rfl)<|aE rfl<|aJ ?_;exact be (aP (ih2 (i2+1) ⟨dl hx2,h⟩) (bg J))
    ·obtain⟨hx1,h⟩:=h
     refine aB<|aw<|zo J (ft J J)<|au<|ac<|bO (ht J) (dN hx1)<|dz<|ac<|ax<|aw<|zo J (iQ nc eN J J J (dO hx1))<|zo J (bm eN J J)<|bj (r:=bn) (x:=nD) eN (fun _=>rA _) J fun b2=>ai eN J aj J (ht J) (ht J)<|bh 6 J<|au<|aw<|zo J (bm eN J J) ?_;refine bz h fun r2 q_r2 h=>zo J (aC Vi (Kz _ q_r2) ⟨(ht J),aT⟩)<|au<|cE h J (fun h=>?_) (fun h=>?_)
     ·refine aw<|zo J (ez)<|au<|ak ?_;refine ay (M (M (ay (M (ay (M (M (ay (M ?_)))))))));cases so h;exact aF J J
     ·refine bk<|an<|aq<|am<|zo rfl (nh (dm hx1 hN1) rfl)<|aE rfl<|aJ ?_;exact be (aP (ih1 (i1+1) ⟨dl hx1,h⟩) (bg J))

end Go.Proofs.YtnmjbolollcokaaGreatDoor

