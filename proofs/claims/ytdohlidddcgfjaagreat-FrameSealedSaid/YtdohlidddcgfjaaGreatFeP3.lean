/- bO of this claim: P3. -/
import Derived.Test.YtdohlidddcgfjaaGreatFeT
import Derived.Test.YtdohlidddcgfjaaGreatFeP2
set_option linter.all false
namespace Go.Proofs.YtdohlidddcgfjaaGreat
open Go
set_option maxRecDepth 100000

def Qe e{R}(h:ul e=some R):iX a8 234 [tD cY e] false bN 3 R:=by
 refine iX.of Tryz.func234 J J J fun w0 S0=>be<|fv J<|cP false bN 3<|Q (b9 vC)<|bt<|bp<|fP lL J<|iI h TE (Mq _) (ez J) fun r h=>oj J<|di h J (fun h=>?_) (fun h=>?_)
 ·exact be<|cP false bN 3<|Q (b9 vC)<|co<|aF<|so h▸mA J J
 ·refine jv<|be<|cP false bN 3<|Q (b9 vC)<|bt<|bp<|bI ss lW Cn J<|cM tU J<|Q (ca hI)<|bt<|aC<|bD (k:=10) J fun hN=>b7<|gc<|rE ?_;refine aZ (mJ (bx:=fun ls i out l c=>(e.Nodes.drop i=ls)/\mz ls out=some R) (Of:=fun _ i out l c=>[de bN 3 l c out]) (Gf:=fun _ i out l c=>[(3,qP l c out),(10,eg (bC) e.Nodes),(11,oA e.Nodes),(12,bw (i:Int))]) (fun i out l c h=>?_) (fun e1 tl ih i out l c h=>?_) e.Nodes 0 ra none 0 ⟨J,h⟩) (bq J)
  ·obtain⟨X,h⟩:=h
   refine fY X J<|aG<|ay J<|bK h fun V1 q_srt h=>?_;refine QT (n:=out.length) (ys:=V1) Et ?_ XC ?_ ?_ ?_ ?_ ?_
   ·rfl
   ·exact q_srt
   ·exact(D J)
   ·rfl
   ·rfl
   intro hl
   refine Jf hl 3 J<|Jf hl 25 J<|bt<|ay J<|bK h fun r1 q_r1 h=>DE [de bN 3 l c V1] _ J XB (Vf l c _ q_r1) ⟨(D J),d⟩ J fun i1=>?_;refine(show RG _ _ _ _ [_] ((28,qP (i1.h 0).1 (i1.h 0).2 r1)::_)from ?_);exact bk J<|so h▸mA J J
  ·obtain⟨X,h⟩:=h
   refine fX X J<|aS<|aC<|be<|gq tU jL J (fa X)<|bz jL rW J fun b=>bu jL ax J<|bh 5 J<|bt<|be<|tX lF fT J ?_;refine fP bW J<|bP J<|di h J (fun h=>?_) (fun h=>?_)
   ·refine av<|aQ J<|bI te nJ bW J<|Q (ba (r:=bN) (ys:=[e1.Col]) (xs:=[.tmp 21]) fc bW J J J J J ⟨(D J),d⟩)<|bK h fun out1 q_out1 h=>c9 bW J J J J fc J J (D J) (D J) q_out1 fun l2 c2=>gB J<|aU<|eu X hN J ?_;exact bm (aZ (ih (i+1) out1 l2 c2 ⟨ej X,h⟩) (bq J))
   ·refine bG<|eu X hN J ?_;exact bm (aZ (ih (i+1) out l c ⟨ej X,h⟩) (bq J))
def IY h3{R}(h:dH h3=some R):iX a8 128 [oo h3] false bN 3 R:=by
 refine iX.of Tryz.func128 J J J fun w0 S0=>be<|cP false bN 3<|Q (b9 vC)<|bt<|bp<|aQ J<|Jg fc (D J) J fun isnil hisnil=>bt<|pY (D J) (fun hc=>?_) (fun hc=>?_)
 ·have X:=hisnil hc
  have h:some ra=some R:=by simpa [dH,jh,X] using h
  exact be<|cP false bN 3<|Q (b9 vC)<|co<|aF<|so h▸mA J J
 ·exact jv<|be<|pq (r:=bN) (ys:=ra) (xs:=[]) fc bW J J J J J trivial J fun l c=>aQ J<|bK h fun x q_x h=>c9 bW J J J J fc J J (D J) (D J) q_x fun l1 c1=>bk J<|so h▸mA J J
def VF{l:Option Nat}{c:Nat}{xs h3:List Int}{lo:Int}{R}(hs:dK xs lo (xs.length:Int)=some h3)(h:dH h3=some R):bf a8 128 [K (mX 1 l c lo.toNat h3.length)] [de bN 3 l c xs] (fun i:OI=>qP (i.h 0).1 (i.h 0).2 R) (fun i=>[de bN 3 (i.h 0).1 (i.h 0).2 R,de bN 3 l c xs]):=by
 refine bf.of Tryz.func128 J J J fun w0 S0=>be<|Q (b9 vC)<|bt<|bp<|aQ J<|N9 (r:=bN) fc (.head _) hs (D J) J fun isnil hisnil=>bt<|pY (D J) (fun hc=>?_) (fun hc=>?_)
 ·have X:=hisnil hc
  have h:some ra=some R:=by simpa [dH,jh,X] using h
  exact be<|cP false bN 3<|Q (b9 vC)<|co<|aF<|so h▸bA J (oi none 0) J J (fun _ _ h=>h)
 ·exact jv<|be<|pq (r:=bN) (ys:=ra) (xs:=[]) fc bW J J J J J trivial J fun l1 c1=>aQ J<|bK h fun x q_x h=>Lj bW J J J J fc J J (D J) (.tail _ (.head _)) hs (D J) q_x fun l2 c2=>bk J<|so h▸bA J (oi l2 c2) J J (fun _ _ h=>h)

def Ve(b:Nat)(l:Option Nat)(c:Nat) stack k{R}(h:oN stack k=some R):bf a8 253 [bw k,K (M b 0)] [Z rV 69 b (au l c stack.length),de bN 3 l c stack] (fun i:OI=>oo R.1) (fun i=>[Z rV 69 b (au (i.h 0).1 (i.h 0).2 R.2.length),de bN 3 (i.h 0).1 (i.h 0).2 R.2]):=by
 refine bf.of Tryz.func253 J J J fun w0 S0=>be<|iJ bN<|bt<|be<|Q (oI c0 (.head _) (D J))<|Q (oI c0 (.head _) (D J))<|Q (iD fc (.tail _ (.head _)) (D J))<|aQ J<|Q (ic (D J) (D J))<|bK h fun y q_y h=>Q (pg fc bW J (.tail _ (.head _)) (D J) (D J) q_y)<|pW (.tail _ (.head _)) q_y fun hv=>cH<|bK h fun r q_r h=>DE [de bN 3 l c stack] _ J QK (VF q_y q_r) ⟨(D J),d⟩ J fun i=>?_;refine(show RG _ _ _ _ [_,_,_] _ from ?_);refine aX J<|be<|Q (oI c0 (.tail _ (.tail _ (.head _))) (D J))<|Q (oI c0 (.tail _ (.tail _ (.head _))) (D J))<|Q (iD fc (.tail _ (.head _)) (D J))<|aQ J<|Q (ic (D J) (D J))<|bK h fun y1 q_y1 h=>Q (nC fc bW J (.tail _ (.head _)) (D J) (D J) q_y1)<|cH<|DC q_y1<|cB<|dX c0 J ax J (D J) (IE (D J))<|bt<|ay J<|aX J ?_;exact qD<|aH<|df<|bv 3 J<|bv 11 J<|bv 4 J<|bv 18 J<|eF 3 J<|aY<|af<|af<|so h▸bA J (oi l c) J J (fun _ _ h=>h)

def Sk e do1{R}(h:oJ e do1=some R):dV a8 235 [tD cY e,(kU a8 Re Rb (fun(x:ap×(List Int))=>do1 x.1 x.2))] (tT [bw R.1,bw R.2]):=by
 refine fb Tryz.func235 J<|be<|fv J<|cJ<|cJ<|bt<|DQ<|be<|cP false bN 3<|bz (x:=au none 0 0) c0 (fun _=>Gb) J fun b=>bt<|be<|cJ<|bt<|be<|Q (ud (cts:=[K (M b 0)]) (caps:=[.tmp 6]) ⟨(D J),d⟩)<|gB J ?_;refine bt<|be<|cJ<|bt<|aS<|DU<|aG<|bp<|bI ss lW Cn J<|cM tU J<|Q (ca hI)<|bt ?_;refine FK (bx:=fun bad stack l c=>lY bad stack=some R) (Of:=fun bad stack l c=>[Z rV 69 b (au l c stack.length),de bN 3 l c stack]) (Gf:=fun bad stack l c=>[(6,K (M b 0)),(7,bw 0),(9,bw bad)]) (fun bad stack l c h=>?_) (fun tV=>?_)
 ·skip
  refine aG<|bp<|aQ J<|oj J<|di h J (fun h=>?_) (fun h=>?_)
  ·exact ay J<|aQ J<|gB J<|bk J<|aF<|pt<|aY<|aY<|so h▸eZ J J J
  ·exact jv<|be<|Q (oI c0 (.head _) (D J))<|bK h fun e1 q_e1 h=>Q (hU fc bW (.tail _ (.head _)) (D J) hI q_e1)<|Q (mF (r:=bN) (i:=(0:Int)) (foff:=0) bW J J bj J (.tail _ (.head _)) q_e1 (D J))<|gB J<|gm<|pt<|aY<|aY<|so h▸eZ J J J
 ·skip
  refine bD (k:=16) J fun hN=>b7 ?_;refine aZ (Jj (bx:=fun ls i bad1 stack1 l1 c1=>(e.Nodes.drop i=ls)/\hD do1 ls bad1 stack1=some R) (Of:=fun _ i bad1 stack1 l1 c1=>[Z rV 69 b (au l1 c1 stack1.length),de bN 3 l1 c1 stack1]) (Gf:=fun _ i bad1 stack1 l1 c1=>[(1,(kU a8 Re Rb (fun(x:ap×(List Int))=>do1 x.1 x.2))),(6,K (M b 0)),(7,bw 0),(8,tC 253 [K (M b 0)]),(9,bw bad1),(16,eg (bC) e.Nodes),(17,oA e.Nodes),(18,bw (i:Int))]) (fun i bad1 stack1 l1 c1 h=>?_) (fun e2 tl ih i bad1 stack1 l1 c1 h=>?_) e.Nodes 0 (0:Int) ra none 0 ⟨J,h⟩) (bq J)
  ·obtain⟨X,h⟩:=h
   refine fY X J ?_;exact bU (tV bad1 stack1 l1 c1 h) (bq J)
  ·obtain⟨X,h⟩:=h
   refine fX X J<|aS<|aC<|be<|gq tU jL J (fa X)<|bz jL rW J fun b1=>bu jL ax J<|bh 11 J<|bt<|aS<|bK h fun r q_r h=>bK h fun r1 q_r1 h=>?_;refine bK h fun r2 q_r2 h=>?_
   refine iv 12 [tc ((kU a8 Re Rb (fun(x:ap×(List Int))=>do1 x.1 x.2))),tc (tD bC e2),tc (tC 253 [K (M b 0)]),tc (c8 bN e2.Tag),tc (bw e2.Tag),tc (bw r),tc (oo r1.1),tc (tT [bw r2.1,bw r2.2]),tc (tT [bw r2.1,bw r2.2]),tc (bw r2.1),tc (bw r2.2),tc (bw r2.1)] [false,false,false,false,false,false,true,false,false,false,false,false] [fun _=>[Z rV 69 b (au l1 c1 stack1.length),de bN 3 l1 c1 stack1],fun sg=>[Z rV 69 b (au ((sg 6).h 0).1 ((sg 6).h 0).2 r1.2.length),de bN 3 ((sg 6).h 0).1 ((sg 6).h 0).2 r1.2]] J mixed J J J J J
    ⟨⟨[⟨1,fun _=>(kU a8 T9 T7 (fun(x:ap×(List Int))=>do1 x.1 x.2)),none⟩],_,0,1,J,⟨(fun _=>J),d⟩,J,J,J,J,J,fun _ sg _ _=>ac J (lz J)⟩,
    ⟨⟨[⟨11,fun _=>c8 bC e2,none⟩],_,0,1,J,⟨(fun _=>J),d⟩,J,J,J,J,J,fun _ sg _ _=>ac J (Cf jL J J)⟩,
    ⟨⟨[⟨8,fun _=>tC 253 [K (M b 0)],none⟩],_,0,0,J,⟨(fun _=>J),d⟩,J,J,J,J,J,fun _ sg _ _=>ac J (lz J)⟩,
    ⟨⟨[⟨11,fun _=>c8 bC e2,none⟩],_,0,0,J,⟨(fun _=>J),d⟩,J,J,J,J,J,fun _ sg _ _=>ac J (vF lF fT J J)⟩,
    ⟨⟨[⟨26,fun _=>c8 bN e2.Tag,some 3⟩],_,0,0,J,⟨(fun _=>J),d⟩,J,J,J,J,J,fun _ sg _ _=>ac J (Cf bW J J)⟩,
    ⟨⟨[⟨27,fun _=>tD bN e2.Tag,some 4⟩],_,0,0,J,⟨(fun _=>J),d⟩,J,J,J,J,J,fun _ sg _ _=>ac J (dx TC (Mp _ q_r) ⟨(D J),d⟩)⟩,
    ⟨⟨[⟨25,fun _=>tC 253 [K (M b 0)],some 2⟩,⟨28,fun _=>tD bN r,some 5⟩],_,J,⟨(fun _=>J),(fun _=>J),d⟩,J,J,J,fun sg=>bT J (EffOK.fr1 (EffOK.fr1 (rM (xs:=[.tmp 28]) (ts:=[tD bN r]) (cts:=[K (M b 0)]) [Z rV 69 b (au l1 c1 stack1.length),de bN 3 l1 c1 stack1] _ J XA (Ve b l1 c1 _ _ q_r1) (D J) ⟨(D J),d⟩ (fun _=>J))))⟩,
    ⟨⟨[⟨23,fun _=>(kU a8 T9 T7 (fun(x:ap×(List Int))=>do1 x.1 x.2)),some 0⟩,⟨24,fun _=>tD bC e2,some 1⟩,⟨29,fun _=>tD xX r1.1,some 6⟩],_,1,1,J,⟨(fun _=>J),(fun _=>J),(fun _=>J),d⟩,J,J,J,J,J,fun _ sg _ _=>ac J (kX (args:=T9) (res:=T7) (f:=(fun(x:ap×(List Int))=>do1 x.1 x.2)) (x:=((e2,r1.1):ap×(List Int))) (D J) q_r2 ⟨(D J),(D J),d⟩)⟩,
    ⟨⟨[⟨30,fun _=>tT [tD bN r2.1,tD bN r2.2],some 7⟩],_,1,1,J,⟨(fun _=>J),d⟩,J,J,J,J,J,fun _ sg _ _=>ac J (lz J)⟩,
    ⟨⟨[⟨22,fun _=>tT [tD bN r2.1,tD bN r2.2],some 8⟩],_,1,1,J,⟨(fun _=>J),d⟩,J,J,J,J,J,fun _ sg _ _=>ac J (Jz J J)⟩,
    ⟨⟨[⟨22,fun _=>tT [tD bN r2.1,tD bN r2.2],some 8⟩],_,1,1,J,⟨(fun _=>J),d⟩,J,J,J,J,J,fun _ sg _ _=>ac J (Jz J J)⟩,
    ⟨⟨[⟨31,fun _=>tD bN r2.1,some 9⟩],_,1,1,J,⟨(fun _=>J),d⟩,J,J,J,J,J,fun _ sg _ _=>ac J (Js J)⟩,
    d⟩⟩⟩⟩⟩⟩⟩⟩⟩⟩⟩⟩ (fun sg=>?_)
   refine(show RG _ _ _ _ [_,_] _ from ?_);refine aX J<|bp<|aQ J<|oj J<|di h J (fun h=>?_) (fun h=>?_)
   ·refine ay J<|aX J<|dq<|aq<|bM J<|aq<|aq<|bR ?_;exact bU (tV r2.2 r1.2 ((sg 6).h 0).1 ((sg 6).h 0).2 h) (bq J)
   ·refine jv<|av<|Q (oI c0 (.head _) (D J))<|aQ J<|Q (ba (r:=bN) (ys:=[r2.1]) (xs:=[.tmp 37]) fc bW J J J J J ⟨(D J),d⟩)<|cH<|bK h fun l2 q_l2 h=>c9 bW J J J J fc J J (D J) (D J) q_l2 fun l3 c2=>cH<|dX c0 J ax J (D J) (IE (D J))<|aU<|eu X hN J ?_;exact bm (aZ (ih (i+1) bad1 l2 l3 c2 ⟨ej X,h⟩) (bq J))

def Si tag{R}(h:vt tag=some R):dV a8 237 [bw tag] (gA R):=by
 exact fb Tryz.func237 J<|be<|bL<|bt<|ay J<|bP J<|aQ J<|b8 J (dd J)<|b8 J (fun V=>ie (bJ J V) hI)<|b8 J (sO J)<|iO J J J J (fun V=>lz J)<|iO J J J J (fun V=>gy (bJ J V) hI)<|b8 J (fun V=>oU (bJ J V) (fun W=>(bJ J (yK V W))))<|kG J<|bk J<|so h▸aW J J

def Sj kinds n l{R}(h:jt kinds n l=some R):dV a8 236 [tD bC n,oo l,c8 oz kinds] (tT [bw R.1,bw R.2]):=by
 refine fb Tryz.func236 J<|be<|fv J<|cJ<|cJ<|bt<|be<|cJ<|bt<|bp<|aQ J<|cM fc J<|Q (ca hI)<|bt<|aC<|bD (k:=12) J fun hN=>b7 ?_;refine aZ (wM (bx:=fun ls i own=>(l.drop i=ls)/\ma kinds n ls own=some R) (Of:=fun _ i own=>[]) (Gf:=fun _ i own=>[(2,c8 oz kinds),(3,c8 bC n),(7,bw own),(12,oo l),(13,oA l),(14,bw (i:Int))]) (fun i own h=>?_) (fun e tl ih i own h=>?_) l 0 (0:Int) ⟨J,h⟩) (bq J)
 ·obtain⟨X,h⟩:=h
  refine fY X J<|aG<|ay J<|aX J<|be<|cJ<|bt ?_;refine aS<|aC<|be<|bI lF fT bW J<|bP J<|aX J<|iY h J (fun h=>?_) (fun h=>?_)
  ·exact be<|tX xf qv J<|bI pT nF bW J<|gB J<|gm<|fJ<|so h▸eZ J J J
  ·refine be<|bI lF fT bW J<|bP J<|aX J<|iY h J (fun h=>?_) (fun h=>?_)
   ·exact be<|fP c0 J<|bI te nJ bW J<|bK h fun e1 q_e1 h=>gq fc bW J q_e1<|gB J<|gm<|fJ<|so h▸eZ J J J
   ·refine be<|bI lF fT bW J<|iI h XK (Si _) (ez J) fun r h=>aX J<|iY h J (fun h=>?_) (fun h=>?_)
    ·refine av<|cJ<|cJ<|aU<|aE<|aG<|bp<|aQ J<|bP J<|aQ J<|b8 J (dd J)<|b8 J (A4 J)<|b8 J (sO J)<|iO J J J J (fun V=>lz J)<|iO J J J J (fun V=>lz J)<|iO J J J J (fun V=>jU (bJ J V) (bJ J V))<|b8 J (fun V=>oU (bJ J V) (fun W=>(bJ J (yK V W))))<|kG J<|di h J (fun h=>?_) (fun h=>?_)
     ·exact be<|cJ<|gm<|aF<|so h▸eZ J J J
     ·exact jv<|ay J<|gB J<|gm<|so h▸eZ J J J
    ·refine be<|bI lF fT bW J<|bP J<|aQ J<|b8 J (cq lF fT J J)<|b8 J (ck bW J J)<|b8 J (lr J)<|kG J<|aQ J<|b8 J (cq lF fT J J)<|b8 J (ck bW J J)<|b8 J (lr J)<|kG J<|aX J<|iY h J (fun h=>?_) (fun h=>?_)
     ·refine av<|cJ<|aU<|aE<|aG<|bp<|aQ J<|bP J<|aQ J<|b8 J (dd J)<|b8 J (A4 J)<|b8 J (sO J)<|iO J J J J (fun V=>lz J)<|iO J J J J (fun V=>lz J)<|iO J J J J (fun V=>jU (bJ J V) (bJ J V))<|b8 J (fun V=>oU (bJ J V) (fun W=>(bJ J (yK V W))))<|kG J<|di h J (fun h=>?_) (fun h=>?_)
      ·exact be<|cJ<|gm<|aF<|so h▸eZ J J J
      ·exact jv<|ay J<|gB J<|gm<|so h▸eZ J J J
     ·refine bG<|aE<|aG<|bp<|aQ J<|bP J<|aQ J<|b8 J (dd J)<|b8 J (A4 J)<|b8 J (sO J)<|iO J J J J (fun V=>lz J)<|iO J J J J (fun V=>lz J)<|iO J J J J (fun V=>jU (bJ J V) (bJ J V))<|b8 J (fun V=>oU (bJ J V) (fun W=>(bJ J (yK V W))))<|kG J<|di h J (fun h=>?_) (fun h=>?_)
      ·exact be<|cJ<|gm<|aF<|so h▸eZ J J J
      ·exact jv<|ay J<|gB J<|gm<|so h▸eZ J J J
 ·obtain⟨X,h⟩:=h
  refine fX X J<|aS<|aC<|be<|gq fc bW J (fa X)<|aX J<|aC<|ay J<|bP J ?_;refine aQ J<|b8 J (dd J)<|b8 J (dd J)<|b8 J (fun V=>dW (bJ J V) (bJ J V))<|kG J<|aX J<|iY h J (fun h=>?_) (fun h=>?_)
  ·refine bG<|aE<|eu X hN J ?_;exact bm (aZ (ih (i+1) own ⟨ej X,h⟩) (bq J))
  ·refine ay J<|bP J<|aX J<|iY h J (fun h=>?_) (fun h=>?_)
   ·refine av<|aQ J<|gB J<|aU<|aE<|eu X hN J ?_;exact bm (aZ (ih (i+1) e ⟨ej X,h⟩) (bq J))
   ·refine av<|cJ<|aU<|aE<|eu X hN J ?_;exact bm (aZ (ih (i+1) Bx ⟨ej X,h⟩) (bq J))

def BV e kinds{R}(h:mT e kinds=some R):dV a8 206 [tD cY e,oo kinds] (tT [bw R.1,bw R.2]):=by
 refine fb Tryz.func206 J<|be<|fv J<|fv J<|cJ<|cJ<|bt<|bp<|fP lL J<|iI h TE (Mq _) (ez J) fun r h=>aX J<|ay J<|oj J<|bt ?_;refine iY h J (fun h=>?_) (fun h=>?_)
 ·exact ay J<|cJ<|bk J<|aF<|so h▸eZ J J J
 ·refine jv<|bp<|fP c0 J<|cM fc J<|Q (ca hI)<|bt<|aC<|bD (k:=16) J fun hN=>b7 ?_;refine aZ (iu (bx:=fun ls i=>(kinds.drop i=ls)/\pU e kinds ls=some R) (Of:=fun _ i=>[]) (Gf:=fun _ i=>[(2,c8 cY e),(3,c8 oz kinds),(16,oo kinds),(17,oA kinds),(18,bw (i:Int))]) (fun i h=>?_) (fun e1 tl ih i h=>?_) kinds 0 ⟨J,h⟩) (bq J)
  ·obtain⟨X,h⟩:=h
   refine fY X J<|aG<|bp<|fP lL J<|sN h XN (Qe _) (ez J) fun r1 h l c=>Q (iD fc (.head _) (D J))<|Q (ca hI)<|bt<|aC ?_;refine zY (.head _) fun hN1=>b7 ?_;refine aZ (iu (bx:=fun ls1 i1=>(r1.drop i1=ls1)/\mw e kinds ls1=some R) (Of:=fun _ i1=>[de bN 3 l c r1]) (Gf:=fun _ i1=>[(2,c8 cY e),(3,c8 oz kinds),(30,qP l c r1),(31,oA r1),(32,bw (i1:Int))]) (fun i1 h=>?_) (fun e2 tl1 ih1 i1 h=>?_) r1 0 ⟨J,h⟩) (bq J)
   ·obtain⟨hx1,h⟩:=h
    refine fY hx1 J<|aG<|be<|fP lL J<|Q ((show cm _ _ _ _ ((kU a8 Re Rb (fun(x:ap×(List Int))=>(jt kinds) x.1 x.2)))from wi (cts:=[c8 oz kinds]) (caps:=[.tmp 3]) XL ⟨(D J),d⟩ (fun x y h=>Sj _ _ _ h)))<|iI h XM (Sk _ _) (ez J) fun r2 h=>eh J J<|eh J J<|gB J<|gB J<|aU ?_;exact aG<|qD<|aY<|so h▸eZ J J J
   ·obtain⟨hx1,h⟩:=h
    refine fX hx1 J<|aS<|aC<|be<|Q (hU fc bW (.head _) (D J) (D J) (fa hx1))<|Q (mF (r:=bN) (i:=(i1:Int)) (foff:=0) bW J J bj J (.head _) (fa hx1) (D J))<|aX J<|ay J<|fP c0 J<|cM fc J ?_;refine Q (ie (D J) (D J))<|di h J (fun h=>?_) (fun h=>?_)
    ·exact be<|cJ<|gm<|fJ<|aF<|fJ<|aY<|so h▸eZ J J J
    ·refine bG<|eu hx1 hN1 J ?_;exact bm (aZ (ih1 (i1+1) ⟨ej hx1,h⟩) (bq J))
  ·obtain⟨X,h⟩:=h
   refine fX X J<|aS<|aC<|be<|gq fc bW J (fa X)<|aX J<|ay J<|Q (iC (D J) hI)<|aQ J ?_;refine b8 J (dd J)<|b8 J (fun V=>jW (bJ J V) hI)<|kG J<|di h J (fun h=>?_) (fun h=>?_)
   ·exact be<|cJ<|gm<|fJ<|aF<|fJ<|so h▸eZ J J J
   ·refine bG<|eu X hN J ?_;exact bm (aZ (ih (i+1) ⟨ej X,h⟩) (bq J))

def Mr e kinds{R}(h:jH e kinds=some R):dV a8 205 [tD cY e,oo kinds] (gA R):=by
 refine fb Tryz.func205 J<|be<|fv J<|bL<|bt<|be<|fP lL J<|aQ J<|iI h Mz (BV _ _) (ez J) fun r h=>aQ J<|eh J J<|eh J J<|gB J<|aX J<|ay J<|bP J ?_;exact aQ J<|ai J (dd J)<|ai J (lr J)<|ai J (sO J)<|dw J J J J (fun V=>lz J)<|dw J J J J (fun V=>dW (bJ J V) hI)<|ai J (fun V=>mO (bJ J V) (fun W=>(bJ J (yK V (Au W)))))<|cU J<|bk J<|so h▸aW J J

def Vz(b:Nat)(ix:OI) l{R}(h:gx l=some R):bf a8 165 [K (M b 0)] (ei b l ix) (fun _:OI=>gA R.1) (fun j=>ei b R.2 j):=by
 refine bf.of Tryz.func165 J J J fun w0 S0=>?_;refine(show CG _ _ _ [Z (rH br [(1,au (ix.h 0).1 (ix.h 0).2 l.kinds.length),(2,au (ix.h 1).1 (ix.h 1).2 l.open_.length)]) 168 b l,tip oz 69 (ix.h 0).1 (ix.h 0).2 l.kinds,de bN 3 (ix.h 1).1 (ix.h 1).2 l.open_] _ from ?_);refine be<|bL<|bt<|aS<|bK h fun r q_r h=>?_
 refine q7 13 (ts:=[K (M b 0),K (M b 0),K (M b 0),K (M b 15),oo l.a_,K (M b 0),K (M b 0),K (M b 16),oo l.b,eg (oz) ([l.a_,l.b]),oo r,K (M b 0),K (M b 17)]) mixed J J J
  ⟨hT J J,
  ⟨hT J J,
  ⟨fW 4 1 J J (aA (D J)),
  ⟨fW 5 2 J J (nR 15 jg J J J),
  ⟨fW 6 3 J J (aD (r:=rH br [(1,au (ix.h 0).1 (ix.h 0).2 l.kinds.length),(2,au (ix.h 1).1 (ix.h 1).2 l.open_.length)]) (x:=l) c0 J J (ee od) (.head _) (D J)),
  ⟨hT J J,
  ⟨fW 8 5 J J (aA (D J)),
  ⟨fW 9 6 J J (nR 16 zE J J J),
  ⟨fW 10 7 J J (aD (r:=rH br [(1,au (ix.h 0).1 (ix.h 0).2 l.kinds.length),(2,au (ix.h 1).1 (ix.h 1).2 l.open_.length)]) (x:=l) c0 J J (ee Fm) (.head _) (D J)),
  ⟨j9 7 4 11 8 J J J (ba (r:=xX) (ys:=[l.a_,l.b]) (xs:=[.tmp 7,.tmp 11]) Bu c0 J J J J J ⟨(D J),(D J),d⟩),
  ⟨fW 12 9 J J (dx X3 (Su _ q_r) ⟨(D J),d⟩),
  ⟨fW 3 0 J J (aA (D J)),
  ⟨fW 14 11 J J (nR 17 fH J J J),
  d⟩⟩⟩⟩⟩⟩⟩⟩⟩⟩⟩⟩⟩ ?_
 refine eE (dc c0 J (nq (hs' :=[(1,au (ix.h 0).1 (ix.h 0).2 l.kinds.length),(2,au (ix.h 1).1 (ix.h 1).2 l.open_.length)]) rG ⟨.inr ⟨J,J⟩,.inr ⟨J,J⟩,d⟩ J) J (D J) (D J)) fun i=>?_;refine(show RG _ _ _ _ [_,_,_] _ from ?_);refine bt<|aS<|bK h fun r1 q_r1 h=>?_
 refine kE (ts:=[_,_,_,_,_,_,_,_,_,_,_]) mixed J J
  ⟨hT J J,
  ⟨fW 16 0 J J (aA (D J)),
  ⟨fW 17 1 J J (nR 3 gH J J J),
  ⟨fW 18 2 J J (nR 9 uY J J J),
  ⟨fW 19 3 J J (aD (r:=rH br [(1,au (ix.h 0).1 (ix.h 0).2 l.kinds.length),(2,au (ix.h 1).1 (ix.h 1).2 l.open_.length)]) (x:=({l with result:=r}:al)) lL J J (ee (d5 fh oY)) (.head _) (D J)),
  ⟨hT J J,
  ⟨fW 21 5 J J (aA (D J)),
  ⟨fW 22 6 J J (nR 17 fH J J J),
  ⟨fW 23 7 J J (aD (r:=rH br [(1,au (ix.h 0).1 (ix.h 0).2 l.kinds.length),(2,au (ix.h 1).1 (ix.h 1).2 l.open_.length)]) (x:=({l with result:=r}:al)) c0 J J (ee Az) (.head _) (D J)),
  ⟨j9 20 4 24 8 J J J (dx TJ (Mr _ _ q_r1) ⟨(D J),(D J),d⟩),
  ⟨fW 25 9 J J (Js J),
  d⟩⟩⟩⟩⟩⟩⟩⟩⟩⟩⟩ ?_
 exact aG<|qD<|aH<|aH<|aH<|so h▸bA J ix J J (fun _ _ h=>h)

def Vy(b:Nat)(ix:OI) l{R}(h:fd l=some R):bf a8 166 [K (M b 0)] (ei b l ix) (fun _:OI=>gA R.1) (fun j=>ei b R.2 j):=by
 refine bf.of Tryz.func166 J J J fun w0 S0=>?_;refine(show CG _ _ _ [Z (rH br [(1,au (ix.h 0).1 (ix.h 0).2 l.kinds.length),(2,au (ix.h 1).1 (ix.h 1).2 l.open_.length)]) 168 b l,tip oz 69 (ix.h 0).1 (ix.h 0).2 l.kinds,de bN 3 (ix.h 1).1 (ix.h 1).2 l.open_] _ from ?_);refine be<|bL<|bt<|ay J<|aQ J<|Q (aA (D J))<|aT 15 jg J<|Q (aD (r:=rH br [(1,au (ix.h 0).1 (ix.h 0).2 l.kinds.length),(2,au (ix.h 1).1 (ix.h 1).2 l.open_.length)]) (x:=l) c0 J J (ee od) (.head _) (D J))<|Q (aA (D J))<|aT 17 fH J<|eE (dc c0 J (nq (hs' :=[(1,au (ix.h 0).1 (ix.h 0).2 l.kinds.length),(2,au (ix.h 1).1 (ix.h 1).2 l.open_.length)]) rG ⟨.inr ⟨J,J⟩,.inr ⟨J,J⟩,d⟩ J) J (D J) (D J)) fun i=>?_;refine(show RG _ _ _ _ [_,_,_] _ from ?_);refine bt<|aS<|bK h fun r q_r h=>?_
 refine kE (ts:=[_,_,_,_,_,_,_,_,_,_,_]) mixed J J
  ⟨hT J J,
  ⟨fW 10 0 J J (aA (D J)),
  ⟨fW 11 1 J J (nR 3 gH J J J),
  ⟨fW 12 2 J J (nR 9 uY J J J),
  ⟨fW 13 3 J J (aD (r:=rH br [(1,au (ix.h 0).1 (ix.h 0).2 l.kinds.length),(2,au (ix.h 1).1 (ix.h 1).2 l.open_.length)]) (x:=({l with result:=l.a_}:al)) lL J J (ee (d5 fh oY)) (.head _) (D J)),
  ⟨hT J J,
  ⟨fW 15 5 J J (aA (D J)),
  ⟨fW 16 6 J J (nR 15 jg J J J),
  ⟨fW 17 7 J J (aD (r:=rH br [(1,au (ix.h 0).1 (ix.h 0).2 l.kinds.length),(2,au (ix.h 1).1 (ix.h 1).2 l.open_.length)]) (x:=({l with result:=l.a_}:al)) c0 J J (ee od) (.head _) (D J)),
  ⟨j9 14 4 18 8 J J J (dx TJ (Mr _ _ q_r) ⟨(D J),(D J),d⟩),
  ⟨fW 19 9 J J (Js J),
  d⟩⟩⟩⟩⟩⟩⟩⟩⟩⟩⟩ ?_
 exact aG<|qD<|aH<|aH<|aH<|so h▸bA J ix J J (fun _ _ h=>h)

end Go.Proofs.YtdohlidddcgfjaaGreat

