/- bS of this claim: P28. -/
import Derived.Test.YtdohlidddcgfjaaGreatFfT
import Derived.Test.YtdohlidddcgfjaaGreatFfP27
set_option linter.all false
namespace Go.Proofs.YtdohlidddcgfjaaGreat
open Go
set_option maxRecDepth 100000

def aa2 m at1 by1{R}(h:pm m at1 by1=some R):dR aY 8 [tD fM m,bB at1,tD (rI .u8) by1] (gR R):=by
 refine fc Tryz.func8 J<|bc<|fx J<|bz<|br<|bm<|iq h adM Zv trivial fun r h=>s (gO (D J))<|c0 h J (fun h=>?_) (fun h=>?_)
 ·exact bc<|bz<|bQ<|au<|so h▸aN J J
 ·refine jf<|bm<|fL jc J<|iq h adL (Zt _) (ez J) fun r1 h=>c0 h J (fun h=>?_) (fun h=>?_)
  ·exact bc<|bz<|bQ<|au<|so h▸aN J J
  ·refine jf<|bc<|fL jc J<|iq h acF (TF _) (ez J) fun r2 h=>aR J<|ei J J<|ei J J<|ia J<|a8 J<|bm<|aR J<|nU J<|c0 h J (fun h=>?_) (fun h=>?_)
   ·exact aB J<|cr oh J<|bU J<|bq J<|au<|so h▸aN J J
   ·refine jf<|aB J<|s (Ow (D J) hI)<|aR J<|cr oh J<|bL h fun u q_u h=>s (SG (D J) (D J) (Oz q_u))<|a8 J<|bc<|m6 (r:=(rI .u8)) (ys:=rm) (xs:=[]) oh qL J J J J J trivial J fun l c=>aR J<|bL h fun c1 q_c1 h=>cY qL J J J J oh J J (D J) (D J) q_c1 fun l1 c2=>a8 J<|bc ?_;refine aR J<|aR J<|bL h fun e q_e h=>s (gA oh qL (.head _) (D J) (D J) q_e)<|s (mN (r:=(rI .u8)) (i:=(((max at1 (0:Int))).tmod (r2.1.length:Int))) (foff:=0) qL J J bo J (.head _) q_e (D J))<|aR J<|s (Ow (D J) hI)<|s (EV (D J) (D J))<|s (gA oh qL (.head _) (D J) (D J) q_e)<|bL h fun st q_st h=>yZ qL J aw J q_e (so q_st) (D J) (D J)<|pA (sS (so q_st)) 36 J<|pA (sS (so q_st)) 9 J<|pA (sS (so q_st)) 37 J<|br<|bm<|aR J<|nJ<|j4 36 J<|j4 9 J<|j4 37 J ?_;refine j4 46 J<|iq h ZI (Ng _) ⟨(rq (D J)),aM⟩ fun r3 h=>aR J<|ei J J<|ei J J<|bv jc p7 J fun b=>bw jc aw J<|be 10 J<|a8 J<|aB J<|nU J<|c0 h J (fun h=>?_) (fun h=>?_)
    ·exact bc<|bz<|bQ<|au<|aZ<|so h▸aN J J
    ·refine jf<|aB J<|aR J<|cr oh J<|s (iF (D J) hI)<|bL h fun y q_y h=>s (z7 oh qL J (D J) (D J) q_y)<|a8 J<|bm<|m6 (r:=(rI .u8)) (ys:=rm) (xs:=[]) oh qL J J J J J trivial J fun l2 c3=>aR J<|bL h fun l3 q_l3 h=>cY qL J J J J oh J J (D J) (D J) q_l3 fun l4 c4=>s (ba (r:=(rI .u8)) (ys:=[(0:Int)]) (xs:=[.const (.int .u8 (0))]) oh qL J J J J J ⟨hI,aM⟩)<|bL h fun l5 q_l5 h=>cY qL J J J J oh J J (D J) (D J) q_l5 fun l6 c5=>nJ ?_;refine j4 62 J<|tE h Wo (DM _) ⟨(rq (D J)),aM⟩ fun r4 h l7 c6=>nJ<|j4 63 J<|iq h ZI (Ng _) ⟨(rq (D J)),aM⟩ fun r5 h=>aR J<|ei J J<|ei J J<|bv jc p7 J fun b1=>bw jc aw J<|be 13 J<|a8 J<|aB J<|nU J<|c0 h J (fun h=>?_) (fun h=>?_)
     ·exact bc<|bz<|bQ<|au<|aZ<|aZ<|aZ<|so h▸aN J J
     ·refine jf<|bc<|m6 (r:=(rI .u8)) (ys:=rm) (xs:=[]) oh qL J J J J J trivial J fun l8 c7=>aR J<|aR J<|aR J<|cr oh J<|bL h fun u1 q_u1 h=>s (SG (D J) (D J) (Oz q_u1))<|bL h fun y1 q_y1 h=>s (z7 oh qL J (D J) (D J) q_y1)<|bL h fun l9 q_l9 h=>cY qL J J J J oh J J (D J) (D J) q_l9 fun l10 c8=>nJ<|j4 77 J<|tE h Wo (DM _) ⟨(rq (D J)),aM⟩ fun r6 h l11 c9=>nJ<|j4 78 J<|iq h ZI (Ng _) ⟨(rq (D J)),aM⟩ fun r7 h=>aR J ?_;exact ei J J<|ei J J<|a8 J<|aB J<|bU J<|bq J<|aZ<|aZ<|aZ<|aZ<|aZ<|so h▸aN J J

end Go.Proofs.YtdohlidddcgfjaaGreat

