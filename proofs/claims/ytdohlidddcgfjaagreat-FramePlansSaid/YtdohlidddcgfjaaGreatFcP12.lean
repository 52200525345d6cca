/- cE of this claim: P12. -/
import Derived.Test.YtdohlidddcgfjaaGreatFcT
import Derived.Test.YtdohlidddcgfjaaGreatFcP11
set_option linter.all false
namespace Go.Proofs.YtdohlidddcgfjaaGreat
open Go
set_option maxRecDepth 100000

def Iw l{R}(h:oz l=some R):gm bd 46 [jK l] false (rI .u8) 5 R:=by
 refine gm.of Tryz.func46 J J J fun w0 S0=>d<|ci false (rI .u8) 5<|s (bU tE)<|bu<|ax J<|bI df J<|s (c0 iL nV (D J))<|kD (r:=(rI .u8)) (ys:=[(IntKind.u8.wrap (l.length:Int))]) (xs:=[.tmp 7]) kG me J J J J J ⟨(D J),aZ⟩ J fun l1 c=>aN J<|aS<|ca<|bu<|ak<|bo (k:=0) J fun hN=>?_;refine bA<|dY<|lu ?_;refine aH (jz (aa:=fun ls i out l2 c1=>(l.drop i=ls)/\lC ls out=some R) (Of:=fun _ i out l2 c1=>[db (rI .u8) 5 l2 c1 out]) (Gf:=fun _ i out l2 c1=>[(0,jK l),(3,nO l2 c1 out),(4,bH (i:Int))]) (fun i out l2 c1 h=>?_) (fun e tl ih i out l2 c1 h=>?_) l 0 ([(IntKind.u8.wrap (l.length:Int))]) l1 c ⟨J,h⟩) (aX J)
 ·obtain⟨V,h⟩:=h
  exact Qi df V J<|au<|ax J<|bf J<|so h▸fL J J
 ·obtain⟨V,h⟩:=h
  refine Qh df V J<|aP<|ak<|aj<|Q J<|Q J<|Q J<|dg df bB J (dJ V)<|s (c0 iL nV (D J))<|s (aI (r:=(rI .u8)) (ys:=[(IntKind.u8.wrap e)]) (xs:=[.tmp 20]) kG me J J J J J ⟨(D J),aZ⟩)<|bR h fun out1 q_out1 h=>?_;refine bD me J J J J kG J J (D J) (D J) q_out1 fun l3 c2=>d6 J<|aJ<|MR V hN J ?_;exact aU (aH (ih (i+1) out1 l3 c2 ⟨da V,h⟩) (aX J))
def NA n width{R}(h:n6 n width=some R):gm bd 35 [tD lA n,bH width] false (rI .u8) 5 R:=by
 refine gm.of Tryz.func35 J J J fun w0 S0=>d<|ci false (rI .u8) 5<|s (bU tE)<|bu<|d<|ci false (rI .u8) 5<|s (bU tE)<|bu<|aS<|ca<|bu<|ak<|bA<|dY<|lu ?_;refine aH (zj (aa:=fun n2 out l c n1 i=>mz width n2 out n1 i=some R) (Of:=fun out l c n1 i=>[db (rI .u8) 5 l c out]) (Gf:=fun out l c n1 i=>[(0,tD lA n1),(1,bH width),(5,nO l c out),(6,bH i)]) (fun out l c n1 i h=>nn h) (fun n2 ih out l c n1 i h=>?_) dk pu none 0 n (0:Int) h) (aX J);refine cJ<|aS<|Q J<|Q J<|jC J<|bW h J (fun h=>?_) (fun h=>?_)
 ·refine fN<|aP<|ak<|ax J<|s (WO (D J) hI (by decide))<|s (c0 vF nV (D J))<|kD (r:=(rI .u8)) (ys:=[(IntKind.u8.wrap ((n1).tmod (256:Int)))]) (xs:=[.tmp 14]) kG me J J J J J ⟨(D J),aZ⟩ J fun l1 c1=>Q J<|bY<|ic<|fT 5 J<|fT 16 J<|bY<|bR h fun out1 q_out1 h=>bD me J J J J kG J J (D J) (mX (D J)) q_out1 fun l2 c2=>aN J<|aj<|Q J<|s (LJ (D J) hI (by decide)) ?_;refine d6 J<|aJ<|al<|au<|aj<|Q J<|s (cW (D J) hI)<|d6 J<|aJ<|am<|aV ?_;exact aU (aH (ih out1 l2 c2 (IntKind.u64.wrap ((n1).tdiv (256:Int))) (IntKind.i64.wrap (i+(1:Int))) h) (aX J))
 ·exact cQ<|ap<|ap<|bL<|au<|ax J<|bf J<|so h▸fL J J
def RH is1{R}(h:wP is1=some R):cX bd 36 [fM is1] (tD (rI .u8) R):=by
 refine dK Tryz.func36 J<|d<|ca<|bu<|aS<|Q J<|bW h J (fun h=>?_) (fun h=>?_)
 ·exact d<|eg<|af<|so h▸aA J J
 ·exact fN<|d<|eg<|so h▸aA J J

def E5 n{R}(h:n8 n=some R):gm bd 162 [tD lA n] false (rI .u8) 5 R:=by
 refine gm.of Tryz.func162 J J J fun w0 S0=>d<|ci false (rI .u8) 5<|s (bU tE)<|bu<|d<|ci false (rI .u8) 5<|s (bU tE)<|bu<|aS<|ca<|bu<|ak<|bA<|dY<|lu ?_;refine aH (qW (aa:=fun n1 out l c i=>mB n n1 out i=some R) (Of:=fun out l c i=>[db (rI .u8) 5 l c out]) (Gf:=fun out l c i=>[(0,tD lA n),(3,nO l c out),(4,bH i)]) (fun out l c i h=>nn h) (fun n1 ih out l c i h=>?_) dk pu none 0 (7:Int) h) (aX J);refine cJ<|aS<|Q J<|s (dB (D J) hI)<|bW h J (fun h=>?_) (fun h=>?_)
 ·refine fN<|aP<|ak<|aj<|Q J<|Q J<|Q J<|s (Ch hI (D J))<|bR h fun u q_u h=>s (Ak (D J) (D J) (Bs q_u))<|s (c0 vF nV (D J))<|s (aI (r:=(rI .u8)) (ys:=[(IntKind.u8.wrap ((n).fdiv (2^(min (Int.toNat (IntKind.i64.wrap ((8:Int)*i))) IntKind.u64.bits))))]) (xs:=[.tmp 14]) kG me J J J J J ⟨(D J),aZ⟩)<|bR h fun out1 q_out1 h=>bD me J J J J kG J J (D J) (D J) q_out1 fun l1 c1=>d6 J<|aJ<|al<|au<|aj<|Q J<|s (dP (D J) hI)<|d6 J<|aJ ?_;exact aU (aH (ih out1 l1 c1 (IntKind.i64.wrap (i-(1:Int))) h) (aX J))
 ·exact cQ<|ap<|ap<|bL<|au<|ax J<|bf J<|so h▸fL J J
def UK n{R}(h:n8 n=some R):cX bd 162 [tD lA n] (em ((rI .u8)) R):=(E5 _ h).spec

def RV v{R}(h:vh v=some R):gm bd 124 [tD bF v] false (rI .u8) 5 R:=by
 refine gm.of Tryz.func124 J J J fun w0 S0=>d<|dl J<|ci false (rI .u8) 5<|s (bU tE)<|bu<|d<|aQ mT js bB J<|s (c0 iL nV (D J))<|kD (r:=(rI .u8)) (ys:=[(IntKind.u8.wrap v.Kind)]) (xs:=[.tmp 6]) kG me J J J J J ⟨(D J),aZ⟩ J fun l c=>aN J<|aS<|aQ mT js bB J<|bu ?_;refine ak<|d<|bp J<|aN J<|fy h J (fun h=>?_) (fun h=>?_)
 ·exact aj<|Q J<|aQ nl kZ Jr J<|s (c0 DH nV (D J))<|s (aI (r:=(rI .u8)) (ys:=[(IntKind.u8.wrap v.N)]) (xs:=[.tmp 15]) kG me J J J J J ⟨(D J),aZ⟩)<|bR h fun out q_out h=>bD me J J J J kG J J (D J) (D J) q_out fun l1 c1=>d6 J<|aJ<|al<|au<|ax J<|bf J<|so h▸fL J J
 ·refine d<|bp J<|aN J<|fy h J (fun h=>?_) (fun h=>?_)
  ·exact aj<|Q J<|aQ nl kZ Jr J<|s (c0 DH vF (D J))<|ot h Si (E5 _) (cy J) fun r h l2 c2=>ic<|fT 24 J<|bY<|bR h fun out1 q_out1 h=>bD me J J J J kG J J (D J) (mX (D J)) q_out1 fun l3 c3=>d6 J<|aJ<|al<|au<|ax J<|bf J<|so h▸fL J J
  ·refine d<|bp J<|aN J<|fy h J (fun h=>?_) (fun h=>?_)
   ·refine bR h fun l4 q_l4 h=>?_
    refine ja 9 [tc (M (ay l c (([(IntKind.u8.wrap v.Kind)]).length))),tc (ck rS v.S),tc (tD rS v.S),tc (kE v.S),tc (tD (rI .u8) (IntKind.u8.wrap (v.S.length:Int))),tc (em ((rI .u8)) ([(IntKind.u8.wrap (v.S.length:Int))])),([6],fun ac=>M (ay ((ac.getD 0 ml).h 0).1 ((ac.getD 0 ml).h 0).2 l4.length)),tc (ck rS v.S),tc (tD rS v.S)] [false,false,false,false,false,false,true,false,false] [fun _=>[db (rI .u8) 5 l c ([(IntKind.u8.wrap v.Kind)]),db (rI .u8) 5 none 0 pu],fun sg=>[db (rI .u8) 5 ((sg 6).h 0).1 ((sg 6).h 0).2 l4,db (rI .u8) 5 none 0 pu]] J mixed J J J J J
     ⟨⟨[⟨3,fun _=>M (ay l c (([(IntKind.u8.wrap v.Kind)]).length)),none⟩],_,0,0,J,⟨(fun _=>J),aZ⟩,J,J,J,J,J,fun _ sg _ _=>ai J (mt J)⟩,
     ⟨⟨[⟨1,fun _=>ck bF v,none⟩],_,0,0,J,⟨(fun _=>J),aZ⟩,J,J,J,J,J,fun _ sg _ _=>ai J (oq qS lZ J J)⟩,
     ⟨⟨[⟨29,fun _=>ck rS v.S,some 1⟩],_,0,0,J,⟨(fun _=>J),aZ⟩,J,J,J,J,J,fun _ sg _ _=>ai J (yT Ow J J)⟩,
     ⟨⟨[⟨30,fun _=>tD rS v.S,some 2⟩],_,0,0,J,⟨(fun _=>J),aZ⟩,J,J,J,J,J,fun _ sg _ _=>ai J (Bi Df (D J))⟩,
     ⟨⟨[⟨31,fun _=>tD bV (v.S.length:Int),some 3⟩],_,0,0,J,⟨(fun _=>J),aZ⟩,J,J,J,J,J,fun _ sg _ _=>ai J (c0 iL nV (D J))⟩,
     ⟨⟨[⟨32,fun _=>tD (rI .u8) (IntKind.u8.wrap (v.S.length:Int)),some 4⟩],_,0,0,J,⟨(fun _=>J),aZ⟩,J,J,J,J,J,fun _ sg _ _=>ai J (aI (r:=(rI .u8)) (ys:=[(IntKind.u8.wrap (v.S.length:Int))]) (xs:=[.tmp 32]) kG me J J J J J ⟨(D J),aZ⟩)⟩,
     ⟨⟨[⟨28,fun _=>M (ay l c (([(IntKind.u8.wrap v.Kind)]).length)),some 0⟩,⟨33,fun _=>tD FN ([(IntKind.u8.wrap (v.S.length:Int))]),some 5⟩],_,J,⟨(fun _=>J),(fun _=>J),aZ⟩,J,J,J,fun sg=>cP J (rr me J J J J kG J (D J) (D J) q_l4)⟩,
     ⟨⟨[⟨1,fun _=>ck bF v,none⟩],_,0,1,J,⟨(fun _=>J),aZ⟩,J,J,J,J,J,fun _ sg _ _=>ai J (oq qS lZ J J)⟩,
     ⟨⟨[⟨35,fun _=>ck rS v.S,some 7⟩],_,0,1,J,⟨(fun _=>J),aZ⟩,J,J,J,J,J,fun _ sg _ _=>ai J (yT Ow J J)⟩,
     aZ⟩⟩⟩⟩⟩⟩⟩⟩⟩ (fun sg=>?_)
    refine(show RG _ _ _ _ [_,_] _ from ?_);exact bR h fun out2 q_out2 h=>Fv me J J kG Df J (D J) (D J) q_out2 fun l5 c4=>d6 J<|aJ<|al<|au<|ax J<|bf J<|so h▸fL J J
   ·refine d<|bp J<|aN J<|fy h J (fun h=>?_) (fun h=>?_)
    ·refine bR h fun r1 q_r1 h=>bR h fun l6 q_l6 h=>?_
     refine ja 8 [tc (M (ay l c (([(IntKind.u8.wrap v.Kind)]).length))),tc (ck bV v.N),tc (bH v.N),tc (tD lA (IntKind.u64.wrap v.N)),tc (em ((rI .u8)) r1),([5],fun ac=>M (ay ((ac.getD 0 ml).h 0).1 ((ac.getD 0 ml).h 0).2 l6.length)),tc (ck lA v.U),tc (tD lA v.U)] [false,false,false,false,false,true,false,false] [fun _=>[db (rI .u8) 5 l c ([(IntKind.u8.wrap v.Kind)]),db (rI .u8) 5 none 0 pu],fun sg1=>[db (rI .u8) 5 ((sg1 5).h 0).1 ((sg1 5).h 0).2 l6,db (rI .u8) 5 none 0 pu]] J mixed J J J J J
      ⟨⟨[⟨3,fun _=>M (ay l c (([(IntKind.u8.wrap v.Kind)]).length)),none⟩],_,0,0,J,⟨(fun _=>J),aZ⟩,J,J,J,J,J,fun _ sg1 _ _=>ai J (mt J)⟩,
      ⟨⟨[⟨1,fun _=>ck bF v,none⟩],_,0,0,J,⟨(fun _=>J),aZ⟩,J,J,J,J,J,fun _ sg1 _ _=>ai J (oq nl kZ J J)⟩,
      ⟨⟨[⟨41,fun _=>ck bV v.N,some 1⟩],_,0,0,J,⟨(fun _=>J),aZ⟩,J,J,J,J,J,fun _ sg1 _ _=>ai J (yT Jr J J)⟩,
      ⟨⟨[⟨42,fun _=>tD bV v.N,some 2⟩],_,0,0,J,⟨(fun _=>J),aZ⟩,J,J,J,J,J,fun _ sg1 _ _=>ai J (c0 DH vF (D J))⟩,
      ⟨⟨[⟨43,fun _=>tD lA (IntKind.u64.wrap v.N),some 3⟩],_,0,0,J,⟨(fun _=>J),aZ⟩,J,J,J,J,J,fun _ sg1 _ _=>ai J (cD Si (UK _ q_r1) ⟨(D J),aZ⟩)⟩,
      ⟨⟨[⟨40,fun _=>M (ay l c (([(IntKind.u8.wrap v.Kind)]).length)),some 0⟩,⟨44,fun _=>tD FN r1,some 4⟩],_,J,⟨(fun _=>J),(fun _=>J),aZ⟩,J,J,J,fun sg1=>cP J (rr me J J J J kG J (D J) (D J) q_l6)⟩,
      ⟨⟨[⟨1,fun _=>ck bF v,none⟩],_,0,1,J,⟨(fun _=>J),aZ⟩,J,J,J,J,J,fun _ sg1 _ _=>ai J (oq xd sL J J)⟩,
      ⟨⟨[⟨46,fun _=>ck lA v.U,some 6⟩],_,0,1,J,⟨(fun _=>J),aZ⟩,J,J,J,J,J,fun _ sg1 _ _=>ai J (yT qf J J)⟩,
      aZ⟩⟩⟩⟩⟩⟩⟩⟩ (fun sg1=>?_)
     refine(show RG _ _ _ _ [_,_] _ from ?_);exact ot h Si (E5 _) (cy J) fun r2 h l7 c5=>ic<|fT 48 J<|bY<|bR h fun out3 q_out3 h=>bD me J J J J kG J J (D J) (mX (D J)) q_out3 fun l8 c6=>d6 J<|aJ<|al<|au<|ax J<|bf J<|so h▸fL J J
    ·exact bc<|al<|au<|ax J<|bf J<|so h▸fL J J
def BJ e{R}(h:qZ e=some R):gm bd 103 [tD bN e] false (rI .u8) 5 R:=by
 refine gm.of Tryz.func103 J J J fun w0 S0=>d<|dl J<|ci false (rI .u8) 5<|s (bU tE)<|bu<|d<|aQ f7 dw nM J<|bI j5 J<|s (c0 iL vF (D J))<|ot h aac (NA _ _) (cy J) fun r h l c=>aN J<|aS<|ca<|aJ ?_;refine au<|ak<|bA<|dY<|lu ?_;refine aH (qW (aa:=fun n out l1 c1 i=>j9 e n out i=some R) (Of:=fun out l1 c1 i=>[db (rI .u8) 5 l1 c1 out]) (Gf:=fun out l1 c1 i=>[(1,ck bN e),(3,nO l1 c1 out),(4,bH i)]) (fun out l1 c1 i h=>nn h) (fun n ih out l1 c1 i h=>?_) dk r l c (0:Int) h) (aX J);refine cJ<|aS<|Q J<|aQ f7 dw nM J<|bI j5 J<|jC J<|bW h J (fun h=>?_) (fun h=>?_)
 ·refine fN<|aP<|ak<|d<|aQ f7 dw nM J<|Q J<|bR h fun e1 q_e1 h=>dg j5 eo J q_e1<|bz eo lc J fun b=>bO eo aB J<|bj 5 J<|bu<|ax J<|aQ iJ ef bB J<|s (c0 iL nV (D J))<|s (aI (r:=(rI .u8)) (ys:=[(IntKind.u8.wrap e1.Tag)]) (xs:=[.tmp 26]) kG me J J J J J ⟨(D J),aZ⟩) ?_;refine bR h fun out1 q_out1 h=>bD me J J J J kG J J (D J) (D J) q_out1 fun l2 c2=>aN J ?_;refine zn (aa:=fun out2 l3 c3=>sV (j9 e n) i e1 out2=some R) (Of:=fun out2 l3 c3=>[db (rI .u8) 5 l3 c3 out2]) (Gf:=fun out2 l3 c3=>[(1,ck bN e),(3,nO l3 c3 out2),(4,bH i),(5,ck bt e1)]) (fun out2 l3 c3 h=>?_) (fun h2=>?_)
  ·skip
   refine d<|aQ iJ ef bB J<|bp J<|bW h J (fun h=>?_) (fun h=>?_)
   ·refine aj<|Q J<|aQ qR k7 dh J<|ot h abF (RV _) (cy J) fun r1 h l4 c4=>ic<|fT 44 J<|bY<|bR h fun out3 q_out3 h=>bD me J J J J kG J J (D J) (mX (D J)) q_out3 fun l5 c5=>d6 J<|aJ<|al<|au<|aj<|Q J<|s (cW (D J) hI)<|d6 J<|aJ<|am<|aV ?_;exact aU (aH (ih out3 l5 c5 (IntKind.i64.wrap (i+(1:Int))) h) (aX J))
   ·refine bc<|al<|au<|aj<|Q J<|s (cW (D J) hI)<|d6 J<|aJ ?_;exact aU (aH (ih out2 l3 c3 (IntKind.i64.wrap (i+(1:Int))) h) (aX J))
  ·skip
   refine d<|aQ iJ ef bB J<|bp J<|bW h J (fun h=>?_) (fun h=>?_)
   ·refine aj<|Q J<|aQ od iR bB J<|s (c0 iL nV (D J))<|s (aI (r:=(rI .u8)) (ys:=[(IntKind.u8.wrap e1.Col)]) (xs:=[.tmp 35]) kG me J J J J J ⟨(D J),aZ⟩)<|bR h fun out4 q_out4 h=>bD me J J J J kG J J (D J) (D J) q_out4 fun l6 c6=>d6 J<|aJ ?_;exact bE (h2 out4 l6 c6 h) (aX J)
   ·refine bc ?_;exact bE (h2 out1 l2 c2 h) (aX J)
 ·exact cQ<|ap<|ap<|bL<|au<|ax J<|bf J<|so h▸fL J J
def T4 n{R}(h:wS n=some R):gm bd 47 [tD aM n] false (rI .u8) 5 R:=by
 refine gm.of Tryz.func47 J J J fun w0 S0=>d<|dl J<|ci false (rI .u8) 5<|s (bU tE)<|bu<|d<|aQ ft cB bB J<|s (c0 iL nV (D J))<|kD (r:=(rI .u8)) (ys:=[(IntKind.u8.wrap n.Op)]) (xs:=[.tmp 9]) kG me J J J J J ⟨(D J),aZ⟩ J fun l c=>aN J<|aS<|aQ ft cB bB J<|bu ?_;refine ak ?_;refine d5 (aa:=fun x=>oE n x=some R) (Of:=fun x=>[db (rI .u8) 5 l c ([(IntKind.u8.wrap n.Op)])]) (Gf:=fun x=>[(1,ck aM n),(3,M (ay l c (([(IntKind.u8.wrap n.Op)]).length))),(12,bH n.Op),(13,fM x)]) (fun x h=>?_) (fun h2=>?_)
 ·skip
  refine fy h J (fun h=>?_) (fun h=>?_)
  ·refine ax J<|aQ p6 ip bB J<|s (c0 iL nV (D J))<|s (aI (r:=(rI .u8)) (ys:=[(IntKind.u8.wrap n.Table)]) (xs:=[.tmp 19]) kG me J J J J J ⟨(D J),aZ⟩)<|bR h fun out q_out h=>bD me J J J J kG J J (D J) (D J) q_out fun l1 c1=>aN J<|aj<|Q J<|aQ jI dW cu J<|ot h Yt (Iw _) (cy J) fun r h l2 c2=>ic<|fT 25 J<|bY<|bR h fun out1 q_out1 h=>bD me J J J J kG J J (D J) (mX (D J)) q_out1 fun l3 c3=>d6 J ?_;exact aJ<|al<|au<|ax J<|bf J<|so h▸fL J J
  ·refine d<|bp J<|aN J<|fy h J (fun h=>?_) (fun h=>?_)
   ·refine ax J<|aQ xa pX zF J<|eE h aab (RH _) (cy J) fun r1 h=>s (aI (r:=(rI .u8)) (ys:=[r1]) (xs:=[.tmp 32]) kG me J J J J J ⟨(D J),aZ⟩)<|bR h fun out2 q_out2 h=>bD me J J J J kG J J (D J) (D J) q_out2 fun l4 c4=>aN J<|aj<|Q J<|aQ pZ iQ gn J<|ot h NX (BJ _) (cy J) fun r2 h l5 c5=>ic<|fT 38 J<|bY<|bR h fun out3 q_out3 h=>bD me J J J J kG J J (D J) (mX (D J)) q_out3 fun l6 c6=>?_;exact d6 J<|aJ<|al<|au<|ax J<|bf J<|so h▸fL J J
   ·refine d<|bp J<|aN J<|fy h J (fun h=>?_) (fun h=>?_)
    ·exact aj<|Q J<|aQ pZ iQ gn J<|ot h NX (BJ _) (cy J) fun r3 h l7 c7=>ic<|fT 45 J<|bY<|bR h fun out4 q_out4 h=>bD me J J J J kG J J (D J) (mX (D J)) q_out4 fun l8 c8=>d6 J<|aJ<|al<|au<|ax J<|bf J<|so h▸fL J J
    ·refine d5 (aa:=fun x1=>m2 n x1=some R) (Of:=fun x1=>[db (rI .u8) 5 l c ([(IntKind.u8.wrap n.Op)])]) (Gf:=fun x1=>[(1,ck aM n),(3,M (ay l c (([(IntKind.u8.wrap n.Op)]).length))),(12,bH n.Op),(47,fM x1)]) (fun x1 h=>?_) (fun K1=>?_)
     ·skip
      refine fy h J (fun h=>?_) (fun h=>?_)
      ·refine ax J<|aQ ju dE cu J<|ot h Yt (Iw _) (cy J) fun r4 h l9 c9=>ic<|fT 54 J<|bY<|bR h fun out5 q_out5 h=>bD me J J J J kG J J (D J) (mX (D J)) q_out5 fun l10 c10=>aN J<|ax J<|aQ gA cO o0 J<|bI lb J<|s (c0 iL nV (D J))<|s (aI (r:=(rI .u8)) (ys:=[(IntKind.u8.wrap (n.Aggs.length:Int))]) (xs:=[.tmp 60]) kG me J J J J J ⟨(D J),aZ⟩)<|bR h fun out6 q_out6 h=>?_;refine bD me J J J J kG J J (D J) (D J) q_out6 fun l11 c11=>aN J<|d<|ca<|bu<|ak<|bA<|dY<|lu ?_;refine aH (qW (aa:=fun n1 out7 l12 c12 i=>oD n n1 out7 i=some R) (Of:=fun out7 l12 c12 i=>[db (rI .u8) 5 l12 c12 out7]) (Gf:=fun out7 l12 c12 i=>[(1,ck aM n),(3,nO l12 c12 out7),(4,bH i)]) (fun out7 l12 c12 i h=>nn h) (fun n1 ih out7 l12 c12 i h=>?_) dk out6 l11 c11 (0:Int) h) (aX J);refine cJ<|aS<|Q J<|aQ gA cO o0 J<|bI lb J<|jC J<|bW h J (fun h=>?_) (fun h=>?_)
       ·refine fN<|aP<|ak<|ax J<|aQ gA cO o0 J<|Q J<|bR h fun e q_e h=>CT lb ig J q_e<|aQ jx hM bB J<|s (c0 iL nV (D J))<|s (aI (r:=(rI .u8)) (ys:=[(IntKind.u8.wrap e.Tag)]) (xs:=[.tmp 77]) kG me J J J J J ⟨(D J),aZ⟩)<|bR h fun out8 q_out8 h=>bD me J J J J kG J J (D J) (D J) q_out8 fun l13 c13=>aN J<|aj<|Q J<|qE gA cO J ?_;refine dH o0 J<|Q J<|CT lb ig J q_e<|aQ oe ma gn J<|ot h NX (BJ _) (cy J) fun r5 h l14 c14=>ic<|fT 87 J<|bY<|bR h fun out9 q_out9 h=>bD me J J J J kG J J (D J) (mX (D J)) q_out9 fun l15 c15=>d6 J<|aJ<|al<|au<|aj<|Q J<|s (cW (D J) hI)<|d6 J<|aJ<|am<|aV ?_;exact aU (aH (ih out9 l15 c15 (IntKind.i64.wrap (i+(1:Int))) h) (aX J))
       ·exact cQ<|ap<|ap<|bL<|al<|au<|ax J<|bf J<|so h▸fL J J
      ·refine d<|bp J<|aN J<|fy h J (fun h=>?_) (fun h=>?_)
       ·refine ax J<|aQ oc io wH J<|bI qD J<|s (c0 iL nV (D J))<|s (aI (r:=(rI .u8)) (ys:=[(IntKind.u8.wrap (n.Items.length:Int))]) (xs:=[.tmp 95]) kG me J J J J J ⟨(D J),aZ⟩)<|bR h fun out10 q_out10 h=>bD me J J J J kG J J (D J) (D J) q_out10 fun l16 c16=>aN J<|d<|ca<|bu<|ak<|bA ?_;refine aH (qW (aa:=fun n2 out11 l17 c17 i1=>oC n n2 out11 i1=some R) (Of:=fun out11 l17 c17 i1=>[db (rI .u8) 5 l17 c17 out11]) (Gf:=fun out11 l17 c17 i1=>[(1,ck aM n),(3,nO l17 c17 out11),(5,bH i1)]) (fun out11 l17 c17 i1 h=>nn h) (fun n2 ih1 out11 l17 c17 i1 h=>?_) dk out10 l16 c16 (0:Int) h) (aX J);refine cJ<|aS<|Q J<|aQ oc io wH J<|bI qD J<|jC J<|bW h J (fun h=>?_) (fun h=>?_)
        ·refine fN<|aP<|ak<|aj<|Q J<|aQ oc io wH J<|Q J<|bR h fun e1 q_e1 h=>dg qD gn J q_e1<|ot h NX (BJ _) (cy J) fun r6 h l18 c18=>ic<|fT 111 J<|bY<|bR h fun out12 q_out12 h=>bD me J J J J kG J J (D J) (mX (D J)) q_out12 fun l19 c19=>d6 J<|aJ<|al<|au<|aj ?_;refine Q J<|s (cW (D J) hI)<|d6 J<|aJ<|am<|aV ?_;exact aU (aH (ih1 out12 l19 c19 (IntKind.i64.wrap (i1+(1:Int))) h) (aX J))
        ·exact cQ<|ap<|ap<|bL<|al<|au<|ax J<|bf J<|so h▸fL J J
       ·refine d<|bp J<|aN J<|fy h J (fun h=>?_) (fun h=>?_)
        ·refine ax J<|aQ jv ep ur J<|bI rz J<|s (c0 iL nV (D J))<|s (aI (r:=(rI .u8)) (ys:=[(IntKind.u8.wrap (n.Order.length:Int))]) (xs:=[.tmp 119]) kG me J J J J J ⟨(D J),aZ⟩)<|bR h fun out13 q_out13 h=>bD me J J J J kG J J (D J) (D J) q_out13 fun l20 c20=>aN J<|aS<|ca<|bu<|ak<|bA ?_;refine aH (qW (aa:=fun n3 out14 l21 c21 i2=>oB n n3 out14 i2=some R) (Of:=fun out14 l21 c21 i2=>[db (rI .u8) 5 l21 c21 out14]) (Gf:=fun out14 l21 c21 i2=>[(1,ck aM n),(3,nO l21 c21 out14),(6,bH i2)]) (fun out14 l21 c21 i2 h=>nn h) (fun n3 ih2 out14 l21 c21 i2 h=>?_) dk out13 l20 c20 (0:Int) h) (aX J);refine cJ<|aS<|Q J<|aQ jv ep ur J<|bI rz J<|jC J<|bW h J (fun h=>?_) (fun h=>?_)
         ·refine fN<|aP<|ak<|bR h fun e2 q_e2 h=>bR h fun r7 q_r7 h=>?_
          refine qN 16 (ts:=[nO l21 c21 out14,ck (f6 gy) n.Order,em (gy) n.Order,bH i2,ck gy e2,ck bV e2.Col,bH e2.Col,tD (rI .u8) (IntKind.u8.wrap e2.Col),ck (f6 gy) n.Order,em (gy) n.Order,bH i2,ck gy e2,ck rB e2.Desc,fM e2.Desc,tD (rI .u8) r7,em ((rI .u8)) ([(IntKind.u8.wrap e2.Col),r7])]) mixed J J J
           ⟨fP J J,
           ⟨zZ 1 J J (oq jv ep J J),
           ⟨lK 1 ur J J,
           ⟨fP J J,
           ⟨ga 131 2 132 3 J J J (B3 rz pA J J J q_e2),
           ⟨ff 133 4 J J (oq y9 uI J J),
           ⟨lK 5 bB J J,
           ⟨ff 135 6 J J (c0 iL nV (D J)),
           ⟨zZ 1 J J (oq jv ep J J),
           ⟨lK 8 ur J J,
           ⟨fP J J,
           ⟨ga 138 9 139 10 J J J (B3 rz pA J J J q_e2),
           ⟨ff 140 11 J J (oq Ny EX J J),
           ⟨lK 12 zF J J,
           ⟨ff 142 13 J J (cD aab (RH _ q_r7) ⟨(D J),aZ⟩),
           ⟨ga 136 7 143 14 J J J (aI (r:=(rI .u8)) (ys:=[(IntKind.u8.wrap e2.Col),r7]) (xs:=[.tmp 136,.tmp 143]) kG me J J J J J ⟨(D J),(D J),aZ⟩),
           aZ⟩⟩⟩⟩⟩⟩⟩⟩⟩⟩⟩⟩⟩⟩⟩⟩ ?_
          refine bR h fun out15 q_out15 h=>bD me J J J J kG J J (D J) (D J) q_out15 fun l22 c22=>d6 J<|aJ<|al<|au<|aj<|Q J<|s (cW (D J) hI)<|d6 J<|aJ ?_;exact aU (aH (ih2 out15 l22 c22 (IntKind.i64.wrap (i2+(1:Int))) h) (aX J))
         ·refine cQ<|ap<|ap<|bL<|au<|aj<|Q J<|aQ qu jG bB J<|s (cW (D J) hI)<|s (c0 iL vF (D J))<|ot h aac (NA _ _) (cy J) fun r8 h l23 c23=>ic<|fT 151 J<|bY<|bR h fun out16 q_out16 h=>bD me J J J J kG J J (D J) (mX (D J)) q_out16 fun l24 c24=>d6 J<|aJ<|al<|au<|d ?_;exact Q J<|bf J<|so h▸fL J J
        ·exact bc<|al<|au<|ax J<|bf J<|so h▸fL J J
     ·skip
      refine d<|bp J<|aN J<|fy h J (fun h=>?_) (fun h=>?_)
      ·refine bc ?_;exact bE (K1 (n.Op==(4:Int)) h) (aX J)
      ·refine d<|bp J<|aN J<|fy h J (fun h=>?_) (fun h=>?_)
       ·refine bc ?_;exact bE (K1 (n.Op==(10:Int)) h) (aX J)
       ·refine aj<|bp J<|d6 J<|aJ ?_;exact bE (K1 (n.Op==(11:Int)) h) (aX J)
 ·skip
  refine d<|bp J<|aN J<|fy h J (fun h=>?_) (fun h=>?_)
  ·refine bc<|am<|aV ?_;exact bE (h2 (n.Op==(1:Int)) h) (aX J)
  ·refine aj<|bp J<|d6 J<|aJ<|am<|aV ?_;exact bE (h2 (n.Op==(9:Int)) h) (aX J)
end Go.Proofs.YtdohlidddcgfjaaGreat

