/- de of this claim: P3. -/
import Derived.Test.YtigldkegamffhaaGreatDoorBfT
import Derived.Test.YtigldkegamffhaaGreatDoorBfP2
set_option linter.all false
namespace Go.Proofs.YtigldkegamffhaaGreatDoor
open Go
set_option maxRecDepth 100000

set_option maxHeartbeats 4000000 in
def abi(b:Nat)(ix:OI) s{R}(h:dk s=some R):eJ aY 50 [Z (al b 0)] (dh b s ix) (fun _:OI=>br R.1) (fun j=>dh b R.2 j):=by
 refine eJ.of Tryz.func50 I I I fun w0 S0=>?_;refine(show CG _ _ _ [bx (rH aD [(10,Y (ix.h 0).1 (ix.h 0).2 s.out.Tables.length),(11,Y (ix.h 1).1 (ix.h 1).2 s.out.Joins.length),(16,Y (ix.h 2).1 (ix.h 2).2 s.out.Keys.length),(17,Y (ix.h 3).1 (ix.h 3).2 s.out.Aggs.length),(18,Y (ix.h 4).1 (ix.h 4).2 s.out.Items.length),(22,Y (ix.h 5).1 (ix.h 5).2 s.kinds.length),(23,Y (ix.h 6).1 (ix.h 6).2 s.groups.length),(19,au (ix.h 7).2),(20,au (ix.h 8).2),(21,au (ix.h 9).2)]) 103 b s,d aU 3 (ix.h 0).1 (ix.h 0).2 s.out.Tables,d aM 115 (ix.h 1).1 (ix.h 1).2 s.out.Joins,d aU 3 (ix.h 2).1 (ix.h 2).2 s.out.Keys,d bg 119 (ix.h 3).1 (ix.h 3).2 s.out.Aggs,d ah 76 (ix.h 4).1 (ix.h 4).2 s.out.Items,d aU 3 (ix.h 5).1 (ix.h 5).2 s.kinds,d aU 3 (ix.h 6).1 (ix.h 6).2 s.groups,bQ lW ez (ix.h 7).2 none (ix.oss 0) s.called,bQ fq ez (ix.h 8).2 none (ix.oss 1) s.alone,eQ (fun y:Int=>br y) kj (ix.h 9).2 s.behind] _ from ?_);refine bA<|dg<|co<|aQ I<|Q (bZ (M I))<|ca 24 xk I<|jl (em er I (AJ (hs' :=[(10,Y (ix.h 0).1 (ix.h 0).2 s.out.Tables.length),(11,Y (ix.h 1).1 (ix.h 1).2 s.out.Joins.length),(16,Y (ix.h 2).1 (ix.h 2).2 s.out.Keys.length),(17,Y (ix.h 3).1 (ix.h 3).2 s.out.Aggs.length),(18,Y (ix.h 4).1 (ix.h 4).2 s.out.Items.length),(22,Y (ix.h 5).1 (ix.h 5).2 s.kinds.length),(23,Y (ix.h 6).1 (ix.h 6).2 s.groups.length),(19,au (ix.h 7).2),(20,au (ix.h 8).2),(21,au (ix.h 9).2)]) rt ⟨.inr ⟨I,I⟩,.inr ⟨I,I⟩,.inr ⟨I,I⟩,.inr ⟨I,I⟩,.inr ⟨I,I⟩,.inr ⟨I,I⟩,.inr ⟨I,I⟩,.inr ⟨I,I⟩,.inr ⟨I,I⟩,.inr ⟨I,I⟩,J⟩ I) I (M I) hI) fun i=>?_;refine(show RG _ _ _ _ [_,_,_,_,_,_,_,_,_,_,_] _ from ?_);refine co<|aQ I<|bC I<|Q (bZ (M I))<|ca 1 nQ I<|ca 4 Pg I<|Q (bn (r:=rH aD [(10,Y (ix.h 0).1 (ix.h 0).2 s.out.Tables.length),(11,Y (ix.h 1).1 (ix.h 1).2 s.out.Joins.length),(16,Y (ix.h 2).1 (ix.h 2).2 s.out.Keys.length),(17,Y (ix.h 3).1 (ix.h 3).2 s.out.Aggs.length),(18,Y (ix.h 4).1 (ix.h 4).2 s.out.Items.length),(22,Y (ix.h 5).1 (ix.h 5).2 s.kinds.length),(23,Y (ix.h 6).1 (ix.h 6).2 s.groups.length),(19,au (ix.h 7).2),(20,au (ix.h 8).2),(21,au (ix.h 9).2)]) (x:=({s with at_:=(0:Int)}:ac)) RR I I (tM (fV ji Fc)) (.head _) (M I))<|cV h fun r q_r h=>pd (kb (xs:=[.tmp 6,.tmp 11]) (ts:=[Z (al b 0),K fS ((({s with at_:=(0:Int)}:ac).from_).From)]) (dh b ({s with at_:=(0:Int)}:ac) ix) _ I abx (Yb b ix ({s with at_:=(0:Int)}:ac) _ q_r) ⟨(M I),(M I),J⟩ (fun _=>I)) I fun i1=>?_;refine(show RG _ _ _ _ [_,_,_,_,_,_,_,_,_,_,_] ((12,br r.1)::_)from ?_);exact bF I<|so h▸eZ I i1 I I (fun _ _ h=>h)

def Rl tag{R}(h:rG tag=some R):dZ aY 115 [br tag] (br R):=by
 refine fc Tryz.func115 I<|bA<|dg<|co<|aE<|am<|aQ I<|jK I<|bC I<|bY I (gB I)<|bY I (sv I)<|ph I<|bP I<|u7 h I (fun h=>?_) (fun h=>?_)
 ·exact bA<|iG<|ej<|so h▸aT I I
 ·refine aQ I<|Q (lQ (M I) hI)<|bC I<|aB I (gB I)<|aB I (fun hg=>pJ (df I hg) hI)<|j5 I<|bP I<|u7 h I (fun h=>?_) (fun h=>?_)
  ·exact bA<|iG<|ej<|so h▸aT I I
  ·refine aQ I<|Q (lQ (M I) hI)<|bC I<|aB I (gB I)<|aB I (fun hg=>pJ (df I hg) hI)<|j5 I<|bP I<|u7 h I (fun h=>?_) (fun h=>?_)
   ·exact bA<|iG<|ej<|so h▸aT I I
   ·exact ck<|bW<|aC<|bA<|iG<|so h▸aT I I

def Xa n{R}(h:vy n=some R):dZ aY 132 [K bK n] (mb R):=by
 refine fc Tryz.func132 I<|bA<|eA I<|cJ<|co<|bN<|cU vP kX er I<|co<|am<|bA<|jK I<|bP I<|u7 h I (fun h=>?_) (fun h=>?_)
 ·exact bA<|cU KP uM yC I<|jE h Yd (Rk _) (gm I) fun r h=>bC I<|aB I (dQ BL ol I I)<|aB I (dw er I I)<|aB I (sv I)<|j5 I<|bF I<|ej<|so h▸aT I I
 ·refine bA<|jK I<|bP I<|u7 h I (fun h=>?_) (fun h=>?_)
  ·exact bA<|cU KP uM yC I<|Q (cQ yC WM uo I)<|Q (QG Xu (M I) (M I))<|bC I<|aB I (dQ BL ol I I)<|aB I (dw er I I)<|aB I (fun hg=>lQ (df I hg) hI)<|j5 I<|bC I<|aB I (dQ BL ol I I)<|aB I (dw er I I)<|aB I (fun hg=>jh (df I hg) hI)<|j5 I<|bF I<|ej<|so h▸aT I I
  ·exact ck<|bW<|aC<|bA<|cU KP uM yC I<|Q (cQ yC WM uo I)<|Q (QG Xu (M I) (M I))<|bC I<|aB I (dQ BL ol I I)<|aB I (dw er I I)<|aB I (sv I)<|j5 I<|bF I<|so h▸aT I I

def Xl e{R}(h:zi e=some R):dZ aY 110 [K ah e] (tT [yl R.1,mb R.2]):=by
 refine fc Tryz.func110 I<|bA<|eA I<|AE aU<|cJ<|co<|bA<|cM false aU 3<|Q (cR F1)<|cM false aU 3<|Q (cR F1)<|co<|bN<|cU BK rF NY I<|dr vX I<|Q (bG hI)<|bu ?_;refine aC<|am<|bE (k:=15) I fun hN=>cc<|gx ?_;refine aP (Ih (tV:=fun ls i all l c open1 l1 c1=>(e.Nodes.drop i=ls)/\kY ls i all open1=some R) (Of:=fun _ i all l c open1 l1 c1=>[dv aU 3 l c all,dv aU 3 l1 c1 open1]) (Gf:=fun _ i all l c open1 l1 c1=>[(4,uZ l c all),(5,uZ l1 c1 open1),(15,jo (bK) e.Nodes),(16,mY e.Nodes),(17,br (i:Int))]) (fun i all l c open1 l1 c1 h=>?_) (fun e1 tl ih i all l c open1 l1 c1 h=>?_) e.Nodes 0 Fs none 0 Fs none 0 ⟨I,h⟩) (bO I)
 ·obtain⟨D,h⟩:=h
  refine fH D I<|aC<|aQ I<|bC I<|Q (fa jL (.tail _ (.head _)) (M I))<|jK I<|bC I<|aB I (gB I)<|aB I (fun hg=>fa jL (.head _) (df I hg))<|aB I (fun hg=>pJ (df I hg) hI)<|j5 I ?_;exact lI I<|bF I<|Al<|mS 4 I<|mS 84 I<|mS 2 I<|qb 2 I<|aZ<|aZ<|so h▸gP I I I
 ·obtain⟨D,h⟩:=h
  refine fG D I<|aE<|am<|aQ I<|i9 vX oD I (d6 D)<|ba oD pf I fun b=>lI I<|cG oD ak I<|a8 7 I<|co<|aE ?_;refine aO<|cU vP kX er I<|jE h Ye (Rl _) (gm I) fun r h=>bP I<|bN<|bC I<|Q (jh (M I) hI)<|bC I<|bY I (gB I)<|bY I (gB I)<|bY I (fun hg=>fa jL (.tail _ (.head _)) (df I hg))<|bY I (fun hg=>lP (df I hg) (df I hg))<|ph I<|bC I<|cV h fun t q_t h=>bY I (fun hg=>wx oD I I) ?_
  obtain⟨r1,h1t,h0t⟩:=og q_t
  have q_r1g:=fun H=>(h1t H).1
  refine bY I (fun hg=>bH abS (Xa _ (q_r1g hg)) ⟨(df I hg),J⟩)<|bY I (Cp I)<|Q (gV (M I) (fun H=>(df I (yf H))) (fun H=>(h1t H).2) h0t)<|eK h I (fun h=>?_) (fun h=>?_)
  ·exact bA<|AE aU<|cJ<|fh<|an<|ej<|an<|ej<|aZ<|aZ<|so h▸gP I I I
  ·refine nG<|aQ I<|bC I<|Q (fa jL (.tail _ (.head _)) (M I))<|bC I<|Q (qF (M I) (M I))<|cV h fun y q_y h=>Q (sC jL er I (.tail _ (.head _)) (M I) (M I) q_y)<|qU (.tail _ (.head _)) q_y fun hv=>bP I<|bA<|Q (ub (r:=aU) (ys:=[lJ,lJ]) (xs:=[.const (.int .i64 (-1)),.const (.int .i64 (-1))]) Ce er I Ke I I ⟨hI,hI,J⟩)<|ba (r:=DC) (x:=(List.replicate 2 (0:Int))) Ke (fun _=>Na (r:=aU) 2 (fun _=>I) _) I fun b1=>cG Ke ak I<|co<|bA ?_;refine bC I<|bP I<|bN<|bC I<|Q (QF jL (.tail _ (.tail _ (.head _))) q_y (M I))<|Q (bG hI)<|co<|am ?_
   have hN1:=hv.2
   refine cc<|jt<|jt ?_;refine aP (sM (tV:=fun ls1 i1 first at1=>(y.drop i1=ls1)/\mH (kY tl) i e1 all open1 r ls1 i1 first at1=some R) (Of:=fun _ i1 first at1=>[dv aU 3 l c all,dv aU 3 l1 c1 open1,bx DC 29 b1 at1]) (Gf:=fun _ i1 first at1=>[(4,uZ l c all),(5,uZ l1 c1 open1),(6,br (i:Int)),(7,bt bK e1),(8,br r),(10,Z (al b1 0)),(11,br first),(15,jo (bK) e.Nodes),(16,mY e.Nodes),(17,br (i:Int)),(46,Z (nS 1 l1 c1 (IntKind.i64.wrap ((open1.length:Int)-r)).toNat y.length)),(47,mY y),(48,br (i1:Int))]) (fun i1 first at1 h=>?_) (fun e2 tl1 ih1 i1 first at1 h=>?_) y 0 (i:Int) ([lJ,lJ]) ⟨I,h⟩) (bO I)
   ·obtain⟨hx1,h⟩:=h
    refine fH hx1 I<|aC<|bN<|Q (bn Ke I I cg (.tail _ (.tail _ (.head _))) (M I))<|cU HD xe er I<|cU HC xd er I<|Q (ub (r:=aU) (ys:=[e1.L,e1.R]) (xs:=[.tmp 65,.tmp 67]) Ce er I Ke I I ⟨(M I),(M I),J⟩)<|Q (CM acK (M I) (M I))<|bu ?_;refine aC<|u7 h I (fun h=>?_) (fun h=>?_)
    ·exact bA<|AE aU<|cJ<|fh<|an<|ej<|an<|ej<|aZ<|aZ<|aZ<|so h▸gP I I I
    ·refine nG<|aQ I<|bC I<|Q (bI (r:=aU) (ys:=[first]) (xs:=[.tmp 71]) jL er I I I I I ⟨(M I),J⟩)<|cV h fun all1 q_all1 h=>gM er I I I I jL I I (M I) (M I) q_all1 fun l2 c2=>bP I<|aO<|bC I<|bC I<|Q (fa jL (.tail _ (.head _)) (M I))<|bC I<|Q (qF (M I) (M I))<|cV h fun y1 q_y1 h=>Q (vi jL er I (.tail _ (.head _)) (M I) (M I) q_y1)<|bC I<|Q (bI (r:=aU) (ys:=[(i:Int)]) (xs:=[.tmp 80]) jL er I I I I I ⟨(M I),J⟩)<|cY<|Ll q_y1 ?_;refine cV h fun open2 q_open2 h=>gM er I I I I jL I I (M I) (M I) q_open2 fun l3 c3=>lI I<|bu<|eP D hN I<|fF<|aZ<|dW ?_;exact bl (aP (ih (i+1) all1 l2 c2 open2 l3 c3 ⟨eg D,h⟩) (bO I))
   ·obtain⟨hx1,h⟩:=h
    refine fG hx1 I<|aE<|am<|aQ I<|Q (AR jL er I (.tail _ (.head _)) q_y (M I) (M I) (d6 hx1))<|Q (cb (r:=aU) (i:=((IntKind.i64.wrap ((open1.length:Int)-r))+(i1:Int))) (foff:=0) er I I cg I (.tail _ (.head _)) (Bj q_y (d6 hx1)).1 (M I))<|lI I<|bP I<|cV h fun e3 q_e3 h=>cV h fun e4 q_e4 h=>cV h fun ar q_ar h=>?_
    refine fY 10 [tc (br (i1:Int)),tc (br e2),tc (br first),tc (uZ l c all),tc (br e2),tc (Z (bh l (e2.toNat*1+0))),tc (br e3),tc (br (min first e3)),tc (Z (al b1 ((i1:Int).toNat*1))),tc (tw)] [false,false,false,false,false,false,false,false,false,true] [fun _=>[dv aU 3 l c all,dv aU 3 l1 c1 open1,bx DC 29 b1 at1],fun sg=>[bx DC 29 b1 ar,dv aU 3 l c all,dv aU 3 l1 c1 open1]] I mixed I I I I I
     ⟨⟨[⟨12,fun _=>K aU (i1:Int),none⟩],_,0,0,I,⟨(fun _=>I),J⟩,I,I,I,I,I,fun _ sg _ _=>aK I (jM I)⟩,
     ⟨⟨[⟨13,fun _=>K aU e2,none⟩],_,0,0,I,⟨(fun _=>I),J⟩,I,I,I,I,I,fun _ sg _ _=>aK I (jM I)⟩,
     ⟨⟨[⟨11,fun _=>K aU first,none⟩],_,0,1,I,⟨(fun _=>I),J⟩,I,I,I,I,I,fun _ sg _ _=>aK I (jM I)⟩,
     ⟨⟨[⟨4,fun _=>Z (Y l c all.length),none⟩],_,0,1,I,⟨(fun _=>I),J⟩,I,I,I,I,I,fun _ sg _ _=>aK I (jM I)⟩,
     ⟨⟨[⟨13,fun _=>K aU e2,none⟩],_,0,1,I,⟨(fun _=>I),J⟩,I,I,I,I,I,fun _ sg _ _=>aK I (jM I)⟩,
     ⟨⟨[⟨56,fun _=>Z (Y l c all.length),some 3⟩,⟨57,fun _=>K aU e2,some 4⟩],_,0,1,I,⟨(fun _=>I),(fun _=>I),J⟩,I,I,I,I,I,rq (fun sg=>aK I (bo jL er (.head _) (M I) (M I) q_e3)) (dX (fun sg=>aK I (bo jL er (.tail _ (.head _)) (M I) (M I) q_e3)))⟩,
     ⟨⟨[⟨58,fun _=>Z (bh l (e2.toNat*1+0)),some 5⟩],_,0,1,I,⟨(fun _=>I),J⟩,I,I,I,I,I,rq (fun sg=>aK I (cb (r:=aU) (i:=e2) (foff:=0) er I I cg I (.head _) q_e3 (M I))) (dX (fun sg=>aK I (cb (r:=aU) (i:=e2) (foff:=0) er I I cg I (.tail _ (.head _)) q_e3 (M I))))⟩,
     ⟨⟨[⟨55,fun _=>K aU first,some 2⟩,⟨59,fun _=>K aU e3,some 6⟩],_,0,1,I,⟨(fun _=>I),(fun _=>I),J⟩,I,I,I,I,I,fun _ sg _ _=>aK I (lz (M I) (M I))⟩,
     ⟨⟨[⟨10,fun _=>Z (al b1 0),none⟩,⟨53,fun _=>K aU (i1:Int),some 0⟩],_,0,0,I,⟨(fun _=>I),(fun _=>I),J⟩,I,I,I,I,I,dX (fun sg=>aK I (pr Ce er (.tail _ (.tail _ (.head _))) (M I) (M I) q_e4))⟩,
     ⟨⟨[⟨61,fun _=>Z (al b1 ((i1:Int).toNat*1)),some 8⟩,⟨54,fun _=>K aU e2,some 1⟩],_,I,⟨(fun _=>I),(fun _=>I),J⟩,I,I,I,fun sg=>bL I (EffOK.fr2 (Ps er I q_e4 (so q_ar) (M I) (M I)))⟩,
     J⟩⟩⟩⟩⟩⟩⟩⟩⟩⟩ (fun sg=>?_)
    refine(show RG _ _ _ _ [_,_,_] _ from ?_);refine lI I<|bu<|eP hx1 hN1 I<|fF<|fF ?_;exact bl (aP (ih1 (i1+1) (min first e3) ar ⟨eg hx1,h⟩) (bO I))

def KY e{R}(h:pS e=some R):dZ aY 79 [K ah e] (br R):=by
 refine fc Tryz.func79 I<|bA<|eA I<|dg<|co<|bN<|d5 cI I<|jE h ab6 (Xl _) (gm I) fun r h=>bC I<|fI I I<|fI I I<|lI I<|bP I<|aQ I<|Q (m9 (M I)) ?_;refine eK h I (fun h=>?_) (fun h=>?_)
 ·exact bA<|iG<|an<|so h▸aT I I
 ·exact nG<|bA<|iG<|so h▸aT I I

def ZY(l:Option Nat)(c:Nat) s{R}(h:kA s=some R):eJ aY 112 [uZ l c s] [dv aU 3 l c s] (fun i:OI=>uZ (i.h 0).1 (i.h 0).2 R) (fun i=>[dv aU 3 (i.h 0).1 (i.h 0).2 R]):=by
 refine eJ.of Tryz.func112 I I I fun w0 S0=>bA<|cM false aU 3<|Q (cR F1)<|co<|bN<|bC I<|Q (fa jL (.tail _ (.head _)) (M I))<|Q (jh (M I) hI)<|eK h I (fun h=>?_) (fun h=>?_)
 ·exact aQ I<|bF I<|an<|aZ<|so h▸eZ I (oi l c) I I (fun _ _ h=>h)
 ·refine nG<|bN<|dg<|co<|am<|fQ (.tail _ (.head _)) fun hN=>cc<|F3 ?_;refine aP (gG (tV:=fun ls i=>(s.drop i=ls)/\gb s ls i=some R) (Of:=fun _ i=>[dv aU 3 l c s]) (Gf:=fun _ i=>[(0,uZ l c s),(3,br (i:Int))]) (fun i h=>?_) (fun e tl ih i h=>?_) (s.drop (1)) 1 ⟨I,h⟩) (bO I)
  ·obtain⟨D,h⟩:=h
   exact d7<|bN<|bC I<|bC I<|Q (fa jL (.head _) (M I))<|uq I<|co<|lb (M I) (Da D)<|gH<|aH<|aH<|dA<|aC<|aQ I<|bF I<|so h▸eZ I (oi l c) I I (fun _ _ h=>h)
  ·obtain⟨D,h⟩:=h
   refine d7<|bN<|bC I<|bC I<|Q (fa jL (.head _) (M I))<|uq I<|co<|la (M I) (zm D)<|nG<|aE<|am<|aE<|cV h fun e1 q_e1 h=>?_
   refine mn (ts:=[_,_,_,_,_,_,_,_,_,_]) mixed I I
    ⟨kO I I,
    ⟨kO I I,
    ⟨ma 16 0 17 1 I I I (bo jL er (.head _) (M I) (M I) (d6 D)),
    ⟨mU 18 2 I I (cb (r:=aU) (i:=(i:Int)) (foff:=0) er I I cg I (.head _) (d6 D) (M I)),
    ⟨kO I I,
    ⟨kO I I,
    ⟨mU 21 5 I I (qF (M I) hI),
    ⟨ma 20 4 22 6 I I I (bo jL er (.head _) (M I) (M I) q_e1),
    ⟨mU 23 7 I I (cb (r:=aU) (i:=(IntKind.i64.wrap ((i:Int)-(1:Int)))) (foff:=0) er I I cg I (.head _) q_e1 (M I)),
    ⟨ma 19 3 24 8 I I I (sf (M I) (M I)),
    J⟩⟩⟩⟩⟩⟩⟩⟩⟩⟩ ?_
   refine aC<|u7 h I (fun h=>?_) (fun h=>?_)
   ·refine aQ I<|bC I<|cV h fun y q_y h=>Q (sC jL er I (.head _) (M I) (M I) q_y)<|qU (.head _) q_y fun hv=>bP I<|bN<|dg<|co<|am<|cc ?_;refine aP (Ry (tV:=fun k1 i1 s1 k=>(y.length-i1=k1)/\fe i y k1 i1 s1 k=some R) (Of:=fun _ i1 s1 k=>[dv aU 3 l c s1]) (Gf:=fun _ i1 s1 k=>[(0,uZ l c s1),(3,br k),(4,Z (nS 1 l c (i:Int).toNat y.length)),(5,br (i1:Int))]) (fun i1 s1 k h=>?_) (fun k2 ih1 i1 s1 k h=>?_) (y.length-1) 1 s (i:Int) ⟨I,h⟩) (bO I)
    ·obtain⟨hx1,h⟩:=h
     refine d7<|bN<|bC I<|bC I<|Q (QE jL hv.1 (M I))<|uq I<|co<|lb (M I) (UD hx1)<|gH<|aH<|aH<|dA<|aC<|aQ I<|bC I<|cV h fun y1 q_y1 h=>Q (sC jL er I (.head _) (M I) (M I) q_y1)<|qU (.head _) q_y1 fun hv1=>cV h fun cl q_cl h=>?_;exact Tf er I I jL (fun _=>I) I q_y1 (M I) (so q_cl)<|iW (JM q_y1 (so q_cl)) 0 I<|iW (JM q_y1 (so q_cl)) 54 I<|co<|aQ I<|bC I<|cV h fun y2 q_y2 h=>Q (vi jL er I (.head _) (M I) (M I) q_y2)<|Ll q_y2<|bF I<|ej<|an<|ej<|so h▸eZ I (oi l c) I I (fun _ _ h=>h)
    ·obtain⟨hx1,h⟩:=h
     refine d7<|bN<|bC I<|bC I<|Q (QE jL hv.1 (M I))<|uq I<|co<|la (M I) (UC hx1)<|nG<|aE<|am<|aE<|cV h fun e3 q_e3 h=>cV h fun e4 q_e4 h=>?_
     refine mn (ts:=[_,_,_,_,_,_,_,_,_,_]) mixed I I
      ⟨kO I I,
      ⟨kO I I,
      ⟨ma 35 0 36 1 I I I (vL jL er I (.head _) (DI q_y) (M I) (M I) q_e3),
      ⟨mU 37 2 I I (cb (r:=aU) (i:=((i:Int)+(i1:Int))) (foff:=0) er I I cg I (.head _) (z2 q_e3).2.2 (M I)),
      ⟨kO I I,
      ⟨kO I I,
      ⟨mU 40 5 I I (qF (M I) hI),
      ⟨ma 39 4 41 6 I I I (vL jL er I (.head _) (DI q_y) (M I) (M I) q_e4),
      ⟨mU 42 7 I I (cb (r:=aU) (i:=((i:Int)+(IntKind.i64.wrap ((i1:Int)-(1:Int))))) (foff:=0) er I I cg I (.head _) (z2 q_e4).2.2 (M I)),
      ⟨ma 38 3 43 8 I I I (jg (M I) (M I)),
      J⟩⟩⟩⟩⟩⟩⟩⟩⟩⟩ ?_
     refine aC<|u7 h I (fun h=>?_) (fun h=>?_)
     ·refine aQ I<|bC I<|bC I<|bC I<|cV h fun e5 q_e5 h=>Q (vL jL er I (.head _) (DI q_y) (M I) (M I) q_e5)<|Q (cb (r:=aU) (i:=((i:Int)+(i1:Int))) (foff:=0) er I I cg I (.head _) (z2 q_e5).2.2 (M I))<|cV h fun e6 q_e6 h=>Q (bo jL er (.head _) (M I) (M I) q_e6)<|cV h fun st q_st h=>ir er I ak I q_e6 (so q_st) (M I) (M I)<|iW (dS (so q_st)) 0 I<|iW (dS (so q_st)) 45 I<|co<|aO<|bC I<|Q (vO (M I) hI)<|lI I<|bu<|bW<|aC ?_;refine aO<|bC I<|Q (mh (Sw hx1 (aaR hv.2)) (M I) hI)<|lI I<|bu ?_;exact bl (aP (ih1 (i1+1) st (IntKind.i64.wrap (k+(1:Int))) ⟨Sv hx1,h⟩) (bO I))
     ·refine ck<|bW<|aC<|aO<|bC I<|Q (mh (Sw hx1 (aaR hv.2)) (M I) hI)<|lI I<|bu ?_;exact bl (aP (ih1 (i1+1) s1 k ⟨Sv hx1,h⟩) (bO I))
   ·refine ck<|aah D hN I ?_;exact bl (aP (ih (i+1) ⟨eg D,h⟩) (bO I))

def WS e{R}(h:wt e=some R):lH aY 80 [K ah e] false aU 3 R:=by
 refine lH.of Tryz.func80 I I I fun w0 S0=>bA<|eA I<|cM false aU 3<|Q (cR F1)<|co<|bN<|d5 cI I<|jE h Xz (KY _) (gm I) fun r h=>mp I<|eK h I (fun h=>?_) (fun h=>?_)
 ·exact bA<|cM false aU 3<|Q (cR F1)<|fh<|an<|so h▸qW I I
 ·refine nG<|bA<|cM false aU 3<|Q (cR F1)<|co<|bN<|cU BK rF NY I<|dr vX I<|Q (bG hI)<|co<|am<|bE (k:=10) I fun hN=>cc<|gx<|F3 ?_;refine aP (sL (tV:=fun ls i out l c=>(e.Nodes.drop i=ls)/\nj ls out=some R) (Of:=fun _ i out l c=>[dv aU 3 l c out]) (Gf:=fun _ i out l c=>[(3,uZ l c out),(10,jo (bK) e.Nodes),(11,mY e.Nodes),(12,br (i:Int))]) (fun i out l c h=>?_) (fun e1 tl ih i out l c h=>?_) e.Nodes 0 Fs none 0 ⟨I,h⟩) (bO I)
  ·obtain⟨D,h⟩:=h
   refine fH D I<|aC<|aQ I<|cV h fun srt q_srt h=>?_;refine VN (n:=out.length) (ys:=srt) IK ?_ ab5 ?_ ?_ ?_ ?_ ?_
   ·rfl
   ·exact q_srt
   ·exact(M I)
   ·rfl
   ·rfl
   intro hl
   refine Ni hl 3 I<|Ni hl 25 I<|co<|aQ I<|cV h fun r1 q_r1 h=>uT [dv aU 3 l c srt] _ I ab4 (ZY l c _ q_r1) ⟨(M I),J⟩ I fun i1=>?_;refine(show RG _ _ _ _ [_] ((28,uZ (i1.h 0).1 (i1.h 0).2 r1)::_)from ?_);exact bF I<|so h▸qW I I
  ·obtain⟨D,h⟩:=h
   refine fG D I<|aE<|am<|bA<|i9 vX oD I (d6 D)<|ba oD pf I fun b=>cG oD ak I<|a8 5 I<|co<|bA<|AD vP kX I ?_;refine d5 er I<|jK I<|eK h I (fun h=>?_) (fun h=>?_)
   ·refine aO<|bC I<|cU BL ol er I<|Q (bI (r:=aU) (ys:=[e1.Col]) (xs:=[.tmp 21]) jL er I I I I I ⟨(M I),J⟩)<|cV h fun out1 q_out1 h=>gM er I I I I jL I I (M I) (M I) q_out1 fun l2 c2=>lI I<|bu<|eP D hN I ?_;exact bl (aP (ih (i+1) out1 l2 c2 ⟨eg D,h⟩) (bO I))
   ·refine ck<|eP D hN I ?_;exact bl (aP (ih (i+1) out l c ⟨eg D,h⟩) (bO I))
def ZW{l:Option Nat}{c:Nat}{xs s:List Int}{lo:Int}{R}(hs:dH xs lo (xs.length:Int)=some s)(h:lw s=some R):eJ aY 114 [Z (nS 1 l c lo.toNat s.length)] [dv aU 3 l c xs] (fun i:OI=>uZ (i.h 0).1 (i.h 0).2 R) (fun i=>[dv aU 3 (i.h 0).1 (i.h 0).2 R,dv aU 3 l c xs]):=by
 refine eJ.of Tryz.func114 I I I fun w0 S0=>bA<|Q (cR F1)<|co<|bN<|bC I<|Td (r:=aU) jL (.head _) hs (M I) I fun isnil hisnil=>co<|tX (M I) (fun hc=>?_) (fun hc=>?_)
 ·have D:=hisnil hc
  have h:some Fs=some R:=by simpa [lw,lr,D] using h
  exact bA<|cM false aU 3<|Q (cR F1)<|fh<|an<|so h▸eZ I (oi none 0) I I (fun _ _ h=>h)
 ·exact nG<|bA<|jw (r:=aU) (ys:=Fs) (xs:=[]) jL er I I I I I trivial I fun l1 c1=>bC I<|cV h fun x q_x h=>PN er I I I I jL I I (M I) (.tail _ (.head _)) hs (M I) q_x fun l2 c2=>bF I<|so h▸eZ I (oi l2 c2) I I (fun _ _ h=>h)

def ZX(b:Nat)(l:Option Nat)(c:Nat) stack k{R}(h:pD stack k=some R):eJ aY 113 [br k,Z (al b 0)] [bx rV 35 b (Y l c stack.length),dv aU 3 l c stack] (fun i:OI=>yl R.1) (fun i=>[bx rV 35 b (Y (i.h 0).1 (i.h 0).2 R.2.length),dv aU 3 (i.h 0).1 (i.h 0).2 R.2]):=by
 refine eJ.of Tryz.func113 I I I fun w0 S0=>bA<|AE aU<|co<|bA<|Q (wj ky (.head _) (M I))<|Q (wj ky (.head _) (M I))<|Q (fa jL (.tail _ (.head _)) (M I))<|bC I<|Q (qF (M I) (M I))<|cV h fun y q_y h=>Q (sC jL er I (.tail _ (.head _)) (M I) (M I) q_y)<|qU (.tail _ (.head _)) q_y fun hv=>cY<|cV h fun r q_r h=>uT [dv aU 3 l c stack] _ I ab2 (ZW q_y q_r) ⟨(M I),J⟩ I fun i=>?_;refine(show RG _ _ _ _ [_,_,_] _ from ?_);refine bP I<|bA<|Q (wj ky (.tail _ (.tail _ (.head _))) (M I))<|Q (wj ky (.tail _ (.tail _ (.head _))) (M I))<|Q (fa jL (.tail _ (.head _)) (M I))<|bC I<|Q (qF (M I) (M I))<|cV h fun y1 q_y1 h=>Q (vi jL er I (.tail _ (.head _)) (M I) (M I) q_y1)<|cY<|Ll q_y1<|gw<|jJ ky I ak I (M I) (Nz (M I))<|co<|aQ I<|bP I ?_;exact zE<|fF<|Al<|mS 3 I<|mS 11 I<|mS 4 I<|mS 18 I<|qb 3 I<|aZ<|dW<|dW<|so h▸eZ I (oi l c) I I (fun _ _ h=>h)

def Zp e do1{R}(h:pu e do1=some R):dZ aY 81 [K ah e,(gZ aY V8 V7 (fun(x:ap×(List Int))=>do1 x.1 x.2))] (tT [br R.1,br R.2]):=by
 refine fc Tryz.func81 I<|bA<|eA I<|dg<|dg<|co<|Nt<|bA<|cM false aU 3<|ba (x:=Y none 0 0) ky (fun _=>YH) I fun b=>co<|bA<|dg<|co<|bA<|Q (Uv (cts:=[Z (al b 0)]) (caps:=[.tmp 6]) ⟨(M I),J⟩)<|lI I ?_;refine co<|bA<|dg<|co<|aE<|Nu<|aC<|bN<|cU BK rF NY I<|dr vX I<|Q (bG hI)<|co ?_;refine Tp (tV:=fun bad stack l c=>mF bad stack=some R) (Of:=fun bad stack l c=>[bx rV 35 b (Y l c stack.length),dv aU 3 l c stack]) (Gf:=fun bad stack l c=>[(6,Z (al b 0)),(7,br 0),(9,br bad)]) (fun bad stack l c h=>?_) (fun tD=>?_)
 ·skip
  refine aC<|bN<|bC I<|mp I<|eK h I (fun h=>?_) (fun h=>?_)
  ·exact aQ I<|bC I<|lI I<|bF I<|an<|EE<|aZ<|aZ<|so h▸gP I I I
  ·exact nG<|bA<|Q (wj ky (.head _) (M I))<|cV h fun e1 q_e1 h=>Q (bo jL er (.tail _ (.head _)) (M I) hI q_e1)<|Q (cb (r:=aU) (i:=(0:Int)) (foff:=0) er I I cg I (.tail _ (.head _)) q_e1 (M I))<|lI I<|iG<|EE<|aZ<|aZ<|so h▸gP I I I
 ·skip
  refine bE (k:=16) I fun hN=>cc ?_;refine aP (Ii (tV:=fun ls i bad1 stack1 l1 c1=>(e.Nodes.drop i=ls)/\iQ do1 ls bad1 stack1=some R) (Of:=fun _ i bad1 stack1 l1 c1=>[bx rV 35 b (Y l1 c1 stack1.length),dv aU 3 l1 c1 stack1]) (Gf:=fun _ i bad1 stack1 l1 c1=>[(1,(gZ aY V8 V7 (fun(x:ap×(List Int))=>do1 x.1 x.2))),(6,Z (al b 0)),(7,br 0),(8,tC 113 [Z (al b 0)]),(9,br bad1),(16,jo (bK) e.Nodes),(17,mY e.Nodes),(18,br (i:Int))]) (fun i bad1 stack1 l1 c1 h=>?_) (fun e2 tl ih i bad1 stack1 l1 c1 h=>?_) e.Nodes 0 (0:Int) Fs none 0 ⟨I,h⟩) (bO I)
  ·obtain⟨D,h⟩:=h
   refine fH D I ?_;exact ed (tD bad1 stack1 l1 c1 h) (bO I)
  ·obtain⟨D,h⟩:=h
   refine fG D I<|aE<|am<|bA<|i9 vX oD I (d6 D)<|ba oD pf I fun b1=>cG oD ak I<|a8 11 I<|co<|aE<|cV h fun r q_r h=>cV h fun r1 q_r1 h=>?_;refine cV h fun r2 q_r2 h=>?_
   refine fY 12 [tc ((gZ aY V8 V7 (fun(x:ap×(List Int))=>do1 x.1 x.2))),tc (K bK e2),tc (tC 113 [Z (al b 0)]),tc (bt aU e2.Tag),tc (br e2.Tag),tc (br r),tc (yl r1.1),tc (tT [br r2.1,br r2.2]),tc (tT [br r2.1,br r2.2]),tc (br r2.1),tc (br r2.2),tc (br r2.1)] [false,false,false,false,false,false,true,false,false,false,false,false] [fun _=>[bx rV 35 b (Y l1 c1 stack1.length),dv aU 3 l1 c1 stack1],fun sg=>[bx rV 35 b (Y ((sg 6).h 0).1 ((sg 6).h 0).2 r1.2.length),dv aU 3 ((sg 6).h 0).1 ((sg 6).h 0).2 r1.2]] I mixed I I I I I
    ⟨⟨[⟨1,fun _=>(gZ aY Yz Yp (fun(x:ap×(List Int))=>do1 x.1 x.2)),none⟩],_,0,1,I,⟨(fun _=>I),J⟩,I,I,I,I,I,fun _ sg _ _=>aK I (jM I)⟩,
    ⟨⟨[⟨11,fun _=>bt bK e2,none⟩],_,0,1,I,⟨(fun _=>I),J⟩,I,I,I,I,I,fun _ sg _ _=>aK I (wx oD I I)⟩,
    ⟨⟨[⟨8,fun _=>tC 113 [Z (al b 0)],none⟩],_,0,0,I,⟨(fun _=>I),J⟩,I,I,I,I,I,fun _ sg _ _=>aK I (jM I)⟩,
    ⟨⟨[⟨11,fun _=>bt bK e2,none⟩],_,0,0,I,⟨(fun _=>I),J⟩,I,I,I,I,I,fun _ sg _ _=>aK I (AC vP kX I I)⟩,
    ⟨⟨[⟨26,fun _=>bt aU e2.Tag,some 3⟩],_,0,0,I,⟨(fun _=>I),J⟩,I,I,I,I,I,fun _ sg _ _=>aK I (wx er I I)⟩,
    ⟨⟨[⟨27,fun _=>K aU e2.Tag,some 4⟩],_,0,0,I,⟨(fun _=>I),J⟩,I,I,I,I,I,fun _ sg _ _=>aK I (bH Ye (Rl _ q_r) ⟨(M I),J⟩)⟩,
    ⟨⟨[⟨25,fun _=>tC 113 [Z (al b 0)],some 2⟩,⟨28,fun _=>K aU r,some 5⟩],_,I,⟨(fun _=>I),(fun _=>I),J⟩,I,I,I,fun sg=>bL I (EffOK.fr1 (EffOK.fr1 (ST (xs:=[.tmp 28]) (ts:=[K aU r]) (cts:=[Z (al b 0)]) [bx rV 35 b (Y l1 c1 stack1.length),dv aU 3 l1 c1 stack1] _ I ab3 (ZX b l1 c1 _ _ q_r1) (M I) ⟨(M I),J⟩ (fun _=>I))))⟩,
    ⟨⟨[⟨23,fun _=>(gZ aY Yz Yp (fun(x:ap×(List Int))=>do1 x.1 x.2)),some 0⟩,⟨24,fun _=>K bK e2,some 1⟩,⟨29,fun _=>K Fq r1.1,some 6⟩],_,1,1,I,⟨(fun _=>I),(fun _=>I),(fun _=>I),J⟩,I,I,I,I,I,fun _ sg _ _=>aK I (iy (args:=Yz) (res:=Yp) (f:=(fun(x:ap×(List Int))=>do1 x.1 x.2)) (x:=((e2,r1.1):ap×(List Int))) (M I) q_r2 ⟨(M I),(M I),J⟩)⟩,
    ⟨⟨[⟨30,fun _=>tT [K aU r2.1,K aU r2.2],some 7⟩],_,1,1,I,⟨(fun _=>I),J⟩,I,I,I,I,I,fun _ sg _ _=>aK I (jM I)⟩,
    ⟨⟨[⟨22,fun _=>tT [K aU r2.1,K aU r2.2],some 8⟩],_,1,1,I,⟨(fun _=>I),J⟩,I,I,I,I,I,fun _ sg _ _=>aK I (Bd I I)⟩,
    ⟨⟨[⟨22,fun _=>tT [K aU r2.1,K aU r2.2],some 8⟩],_,1,1,I,⟨(fun _=>I),J⟩,I,I,I,I,I,fun _ sg _ _=>aK I (Bd I I)⟩,
    ⟨⟨[⟨31,fun _=>K aU r2.1,some 9⟩],_,1,1,I,⟨(fun _=>I),J⟩,I,I,I,I,I,fun _ sg _ _=>aK I (IV I)⟩,
    J⟩⟩⟩⟩⟩⟩⟩⟩⟩⟩⟩⟩ (fun sg=>?_)
   refine(show RG _ _ _ _ [_,_] _ from ?_);refine bP I<|bN<|bC I<|mp I<|eK h I (fun h=>?_) (fun h=>?_)
   ·refine aQ I<|bP I<|gH<|aH<|cN I<|aH<|aH<|dA ?_;exact ed (tD r2.2 r1.2 ((sg 6).h 0).1 ((sg 6).h 0).2 h) (bO I)
   ·refine nG<|aO<|Q (wj ky (.head _) (M I))<|bC I<|Q (bI (r:=aU) (ys:=[r2.1]) (xs:=[.tmp 37]) jL er I I I I I ⟨(M I),J⟩)<|cY<|cV h fun l2 q_l2 h=>gM er I I I I jL I I (M I) (M I) q_l2 fun l3 c2=>cY<|jJ ky I ak I (M I) (Nz (M I))<|bu<|eP D hN I ?_;exact bl (aP (ih (i+1) bad1 l2 l3 c2 ⟨eg D,h⟩) (bO I))

end Go.Proofs.YtigldkegamffhaaGreatDoor

