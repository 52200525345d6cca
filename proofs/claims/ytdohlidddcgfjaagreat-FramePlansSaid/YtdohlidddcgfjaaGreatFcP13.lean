/- cE of this claim: P13. -/
import Derived.Test.YtdohlidddcgfjaaGreatFcT
import Derived.Test.YtdohlidddcgfjaaGreatFcP12
set_option linter.all false
namespace Go.Proofs.YtdohlidddcgfjaaGreat
open Go
set_option maxRecDepth 100000

def Ul p{R}(h:wQ p=some R):gm bd 23 [tD gq p] false (rI .u8) 5 R:=by
 refine gm.of Tryz.func23 J J J fun w0 S0=>d<|dl J<|ci false (rI .u8) 5<|s (bU tE)<|bu<|d<|aQ nI gV v8 J<|bI rA J<|s (c0 iL nV (D J))<|kD (r:=(rI .u8)) (ys:=[(IntKind.u8.wrap (p.Frags.length:Int))]) (xs:=[.tmp 10]) kG me J J J J J ⟨(D J),aZ⟩ J fun l c=>aN J<|aS<|ca<|bu ?_;refine ak<|bA<|dY<|lu ?_;refine aH (qW (aa:=fun n out l1 c1 i=>m1 p n out i=some R) (Of:=fun out l1 c1 i=>[db (rI .u8) 5 l1 c1 out]) (Gf:=fun out l1 c1 i=>[(1,ck gq p),(3,nO l1 c1 out),(4,bH i)]) (fun out l1 c1 i h=>nn h) (fun n ih out l1 c1 i h=>?_) dk ([(IntKind.u8.wrap (p.Frags.length:Int))]) l c (0:Int) h) (aX J);refine cJ<|aS<|Q J<|aQ nI gV v8 J<|bI rA J<|jC J<|bW h J (fun h=>?_) (fun h=>?_)
 ·refine fN<|aP<|ak<|d<|aQ nI gV v8 J<|Q J<|bR h fun e q_e h=>dg rA nc J q_e<|bz nc nf J fun b=>bO nc aB J<|bj 5 J<|bu<|ax J<|aQ vR oT bB J<|s (c0 iL nV (D J))<|qE vQ oS J ?_;refine dH bB J<|s (c0 iL nV (D J))<|s (aI (r:=(rI .u8)) (ys:=[(IntKind.u8.wrap e.At),(IntKind.u8.wrap e.Way)]) (xs:=[.tmp 27,.tmp 30]) kG me J J J J J ⟨(D J),(D J),aZ⟩)<|bR h fun out1 q_out1 h=>bD me J J J J kG J J (D J) (D J) q_out1 fun l2 c2=>aN J<|ax J<|aQ sM lG cu J<|ot h Yt (Iw _) (cy J) fun r h l3 c3=>ic<|fT 36 J<|bY<|bR h fun out2 q_out2 h=>bD me J J J J kG J J (D J) (mX (D J)) q_out2 fun l4 c4=>aN J<|aP ?_;refine aj<|Q J<|aQ sN mF qe J<|bI j4 J<|s (c0 iL nV (D J))<|s (aI (r:=(rI .u8)) (ys:=[(IntKind.u8.wrap (e.Nodes.length:Int))]) (xs:=[.tmp 42]) kG me J J J J J ⟨(D J),aZ⟩)<|bR h fun out3 q_out3 h=>bD me J J J J kG J J (D J) (D J) q_out3 fun l5 c5=>aN J<|d<|ca<|bu<|ak<|bA<|dY<|lu ?_;refine aH (qW (aa:=fun n1 out4 l6 c6 k=>oA (m1 p n) i e n1 out4 k=some R) (Of:=fun out4 l6 c6 k=>[db (rI .u8) 5 l6 c6 out4]) (Gf:=fun out4 l6 c6 k=>[(1,ck gq p),(3,nO l6 c6 out4),(4,bH i),(5,ck cM e),(6,bH k)]) (fun out4 l6 c6 k h=>nn h) (fun n1 ih1 out4 l6 c6 k h=>?_) dk out3 l5 c5 (0:Int) h) (aX J);refine cJ<|aS<|Q J<|aQ sN mF qe J<|bI j4 J<|jC J<|bW h J (fun h=>?_) (fun h=>?_)
  ·refine fN<|aP<|ak<|aj<|Q J<|aQ sN mF qe J<|Q J<|bR h fun e1 q_e1 h=>dg j4 dA J q_e1<|ot h acA (T4 _) (cy J) fun r1 h l7 c7=>ic<|fT 58 J<|bY<|bR h fun out5 q_out5 h=>bD me J J J J kG J J (D J) (mX (D J)) q_out5 fun l8 c8=>d6 J<|aJ<|al<|au<|aj ?_;refine Q J<|s (cW (D J) hI)<|d6 J<|aJ<|am<|aV ?_;exact aU (aH (ih1 out5 l8 c8 (IntKind.i64.wrap (k+(1:Int))) h) (aX J))
  ·refine cQ<|ap<|ap<|bL<|al<|au<|aj<|Q J<|s (cW (D J) hI)<|d6 J<|aJ ?_;exact aU (aH (ih out4 l6 c6 (IntKind.i64.wrap (i+(1:Int))) h) (aX J))
 ·exact cQ<|ap<|ap<|bL<|au<|ax J<|bf J<|so h▸fL J J
def XH p{R}(h:wQ p=some R):cX bd 23 [tD gq p] (em ((rI .u8)) R):=(Ul _ h).spec

def UW v{R}(h:jD v=some R):cX bd 123 [tD bF v] (fM R):=by
 refine dK Tryz.func123 J<|d<|dl J<|bm<|bu<|aS<|aQ mT js bB J<|bu<|ak<|d<|bp J<|aN J<|fy h J (fun h=>?_) (fun h=>?_)
 ·exact d<|dH dh J<|s (ee dh G9 lJ J)<|s (y6 Fa (D J) (D J))<|bf J<|cx<|so h▸aA J J
 ·refine d<|bp J<|aN J<|fy h J (fun h=>?_) (fun h=>?_)
  ·refine d<|aQ xd sL qf J<|bp J<|Q J<|ae J (bv qS lZ J J)<|ae J (bq Ow J J)<|ae J (fun Y=>Dv (bl J Y) hS)<|cm J<|Q J<|ae J (bv nl kZ J J)<|ae J (bq Jr J J)<|ae J (gQ J)<|ae J (nQ J)<|cF J J J J (fun Y=>oq nl kZ J J)<|cF J J J J (fun Y=>ej Jr J J (bl J Y))<|cF J J J J (fun Y=>di (bl J Y) hI)<|ae J (fun Y=>kL (bl J Y) (fun H=>(bl J (sd Y (sb H)))))<|cm J<|bf J ?_;exact cx<|so h▸aA J J
  ·refine d<|bp J<|aN J<|fy h J (fun h=>?_) (fun h=>?_)
   ·exact d<|aQ xd sL qf J<|bp J<|Q J<|ae J (bv qS lZ J J)<|ae J (bq Ow J J)<|ae J (fun Y=>Dv (bl J Y) hS)<|cm J<|bf J<|cx<|so h▸aA J J
   ·refine d<|bp J<|aN J<|fy h J (fun h=>?_) (fun h=>?_)
    ·exact d<|aQ nl kZ Jr J<|bp J<|Q J<|ae J (bv xd sL J J)<|ae J (bq qf J J)<|ae J (gQ J)<|cm J<|Q J<|ae J (bv qS lZ J J)<|ae J (bq Ow J J)<|ae J (fun Y=>Bi Df (bl J Y))<|ae J (fun Y=>eY (bl J Y) hI)<|cm J<|bf J<|cx<|so h▸aA J J
    ·exact bc<|al<|au<|d<|aQ mT js bB J<|bp J<|Q J<|ae J (bv qS lZ J J)<|ae J (bq Ow J J)<|ae J (fun Y=>Dv (bl J Y) hS)<|cm J<|bf J<|so h▸aA J J

def NH op{R}(h:rh op=some R):cX bd 178 [bH op] (bH R):=by
 refine dK Tryz.func178 J<|d<|ca<|bu<|aS<|Q J<|bu<|ak<|d<|bp J<|aN J<|fy h J (fun h=>?_) (fun h=>?_)
 ·exact d<|eg<|cx<|so h▸aA J J
 ·refine d5 (aa:=fun x=>pL op x=some R) (Of:=fun x=>[]) (Gf:=fun x=>[(3,bH op),(6,fM x)]) (fun x h=>?_) (fun h2=>?_)
  ·skip
   refine fy h J (fun h=>?_) (fun h=>?_)
   ·exact d<|eg<|cx<|so h▸aA J J
   ·refine d5 (aa:=fun x1=>kq x1=some R) (Of:=fun x1=>[]) (Gf:=fun x1=>[(9,fM x1)]) (fun x1 h=>?_) (fun K1=>?_)
    ·skip
     refine fy h J (fun h=>?_) (fun h=>?_)
     ·exact d<|eg<|cx<|so h▸aA J J
     ·exact bc<|al<|au<|d<|eg<|so h▸aA J J
    ·skip
     refine d<|bp J<|aN J<|fy h J (fun h=>?_) (fun h=>?_)
     ·refine bc ?_;exact bE (K1 (op==(3:Int)) h) (aX J)
     ·refine d<|bp J<|aN J<|fy h J (fun h=>?_) (fun h=>?_)
      ·refine bc ?_;exact bE (K1 (op==(4:Int)) h) (aX J)
      ·refine d<|bp J<|aN J<|fy h J (fun h=>?_) (fun h=>?_)
       ·refine bc ?_;exact bE (K1 (op==(5:Int)) h) (aX J)
       ·refine d<|bp J<|aN J<|fy h J (fun h=>?_) (fun h=>?_)
        ·refine bc ?_;exact bE (K1 (op==(6:Int)) h) (aX J)
        ·refine aj<|bp J<|d6 J<|aJ ?_;exact bE (K1 (op==(8:Int)) h) (aX J)
  ·skip
   refine d<|bp J<|aN J<|fy h J (fun h=>?_) (fun h=>?_)
   ·refine bc ?_;exact bE (h2 (op==(2:Int)) h) (aX J)
   ·refine aj<|bp J<|d6 J<|aJ ?_;exact bE (h2 (op==(7:Int)) h) (aX J)

end Go.Proofs.YtdohlidddcgfjaaGreat

