/- bO of this claim: P2. -/
import Derived.Test.YtdohlidddcgfjaaGreatFeT
import Derived.Test.YtdohlidddcgfjaaGreatFeP1
set_option linter.all false
namespace Go.Proofs.YtdohlidddcgfjaaGreat
open Go
set_option maxRecDepth 100000

def Qf n{R}(h:lA n=some R):iX a8 232 [K (.slice none 0 0),bw n] false bN 3 R:=by
 refine iX.of Tryz.func232 J J J fun w0 S0=>be<|cP false bN 3<|Q (b9 vC)<|bt ?_;refine Oh (bx:=mu n=some R) (Of:=[]) (Gf:=[(0,K (.slice none 0 0)),(1,bw n)]) (fun h=>?_) (fun tV=>?_)
 ·skip
  refine FH (bx:=fun h3 l c=>mt h3=some R) (Of:=fun h3 l c=>[de bN 3 l c h3]) (Gf:=fun h3 l c=>[(0,qP l c h3)]) (fun h3 l c h=>?_) (fun K1=>?_)
  ·skip
   exact ay J<|bk J<|so h▸mA J J
  ·skip
   refine ay J<|aQ J<|Q (E9 fc (D J))<|aQ J<|Q (E8 fc (D J))<|Q (ic (D J) (D J))<|Q (ic (D J) (D J))<|aX J<|ay J<|Q (jW (D J) hI)<|di h J (fun h=>?_) (fun h=>?_)
   ·refine av<|aQ J<|aQ J<|Q (E9 fc (D J))<|Q (Ik fc bW (D J) (D J))<|aQ J<|bK h fun u q_u h=>bK h fun mk q_mk h=>aK (I4 (r:=bN) (x:=(0:Int)) bW J J J J fc kI (fun _=>J) (D J) (D J) (PP q_u) q_mk) J fun i=>aQ J<|Q (E8 fc (D J))<|bK h fun y q_y h=>Q (nC fc bW J (.head _) (D J) (D J) q_y)<|DC q_y<|gB J<|aU ?_;exact bU (K1 y (i.h 0).1 (i.h 0).2 h) (bq J)
   ·refine bG<|Q3 false bN 3 ?_;exact bU (K1 ra none 0 h) (bq J)
 ·skip
  refine ay J<|Q (iC (D J) hI)<|di h J (fun h=>?_) (fun h=>?_)
  ·refine av ?_;exact(nn h).elim
  ·refine bG<|aY ?_;exact bU (tV h) (bq J)
def Qi slices{R}(h:iK slices=some R):iX a8 204 [eg (oz) slices] false bN 3 R:=by
 refine iX.of Tryz.func204 J J J fun w0 S0=>be<|cP false bN 3<|Q (b9 vC)<|bt<|be<|cJ<|bt<|bp<|aQ J<|cM Bu J<|Q (ca hI)<|bt<|aC<|bD (k:=9) J fun hN=>b7<|rE ?_;refine aZ (wM (bx:=fun ls i size=>(slices.drop i=ls)/\ja slices ls size=some R) (Of:=fun _ i size=>[]) (Gf:=fun _ i size=>[(0,eg (oz) slices),(3,bw size),(9,eg (oz) slices),(10,oA slices),(11,bw (i:Int))]) (fun i size h=>?_) (fun e tl ih i size h=>?_) slices 0 (0:Int) ⟨J,h⟩) (bq J)
 ·obtain⟨X,h⟩:=h
  refine fY X J<|aG<|ay J<|sN h XO (Qf _) ⟨hV,(D J),d⟩ fun r h l c=>aX J<|bp ?_;refine aQ J<|cM Bu J<|Q (ca hI)<|bt<|aC<|bD (k:=25) J fun hN1=>b7 ?_;refine aZ (mJ (bx:=fun ls1 i1 newslice l1 c1=>(slices.drop i1=ls1)/\i0 ls1 newslice=some R) (Of:=fun _ i1 newslice l1 c1=>[de bN 3 l1 c1 newslice]) (Gf:=fun _ i1 newslice l1 c1=>[(6,qP l1 c1 newslice),(25,eg (oz) slices),(26,oA slices),(27,bw (i1:Int))]) (fun i1 newslice l1 c1 h=>?_) (fun e1 tl1 ih1 i1 newslice l1 c1 h=>?_) slices 0 r l c ⟨J,h⟩) (bq J)
  ·obtain⟨hx1,h⟩:=h
   exact fY hx1 J<|aG<|ay J<|bk J<|so h▸mA J J
  ·obtain⟨hx1,h⟩:=h
   refine fX hx1 J<|aS<|aC<|be<|gq Bu c0 J (fa hx1)<|aX J<|av<|aQ J<|aQ J<|bK h fun newslice1 q_newslice1 h=>c9 bW J J J J fc J J (D J) (D J) q_newslice1 fun l2 c2=>?_;refine gB J<|aU<|eu hx1 hN1 J ?_;exact bm (aZ (ih1 (i1+1) newslice1 l2 c2 ⟨ej hx1,h⟩) (bq J))
 ·obtain⟨X,h⟩:=h
  refine fX X J<|aS<|aC<|be<|gq Bu c0 J (fa X)<|aX J<|ay J<|aQ J<|cM fc J ?_;refine Q (fq (D J) (D J))<|aX J<|ay J<|Q (iC (D J) hI)<|di h J (fun h=>?_) (fun h=>?_)
  ·refine av ?_;exact(nn h).elim
  ·refine bG<|eu X hN J ?_;exact bm (aZ (ih (i+1) (IntKind.i64.wrap (size+(e.length:Int))) ⟨ej X,h⟩) (bq J))
def Su slices{R}(h:iK slices=some R):dV a8 204 [eg (oz) slices] (oo R):=(Qi _ h).spec

def Mp tag{R}(h:qx tag=some R):dV a8 254 [bw tag] (bw R):=by
 refine fb Tryz.func254 J<|be<|cJ<|bt<|aS<|aC<|ay J<|bP J<|aQ J<|b8 J (dd J)<|b8 J (lr J)<|kG J<|aX J<|iY h J (fun h=>?_) (fun h=>?_)
 ·exact be<|gm<|fJ<|so h▸aW J J
 ·refine ay J<|Q (ie (D J) hI)<|aQ J<|ai J (dd J)<|ai J (fun V=>gy (bJ J V) hI)<|cU J<|aX J<|iY h J (fun h=>?_) (fun h=>?_)
  ·exact be<|gm<|fJ<|so h▸aW J J
  ·refine ay J<|Q (ie (D J) hI)<|aQ J<|ai J (dd J)<|ai J (fun V=>gy (bJ J V) hI)<|cU J<|aX J<|iY h J (fun h=>?_) (fun h=>?_)
   ·exact be<|gm<|fJ<|so h▸aW J J
   ·exact bG<|aE<|aG<|be<|gm<|so h▸aW J J

def Sg v{R}(h:vP v=some R):dV a8 239 [tD bd v] (tD bd R):=by
 refine fb Tryz.func239 J<|be<|tp (D J) J fun b=>bz db mB J fun b1=>bt<|bp<|aT 0 pT J<|Q (aD bW J J nF (.tail _ (.head _)) (D J))<|bt ?_;refine FL (bx:=fun v1=>ke v1=some R) (Of:=fun v1=>[Z bd 104 b v1,Z bd 104 b1 gQ]) (Gf:=fun v1=>[(1,K (M b 0)),(2,K (M b1 0))]) (fun v1 h=>?_) (fun tV=>?_)
 ·skip
  exact aG<|be<|Q (aD db J J bj (.head _) (D J))<|cH<|bu db ax J<|bh 2 J<|co<|aY<|so h▸Jr J db J J J
 ·skip
  refine aS<|aC<|aS<|aC<|aS ?_;refine FL (bx:=fun v2=>pC v2=some R) (Of:=fun v2=>[Z bd 104 b v2,Z bd 104 b1 gQ]) (Gf:=fun v2=>[(1,K (M b 0)),(2,K (M b1 0))]) (fun v2 h=>?_) (fun K1=>?_)
  ·skip
   refine aG<|be<|aT 0 pT J<|dX bW J uJ J (D J) hI<|bt<|dq<|bM J<|aq<|bM J<|aq<|bR ?_;exact bU (tV (am.mk (0:Int) v2.N v2.U v2.S) h) (bq J)
  ·skip
   refine aS ?_;refine Oo (bx:=pB v=some R) (Of:=[Z bd 104 b v,Z bd 104 b1 gQ]) (Gf:=[(1,K (M b 0)),(2,K (M b1 0))]) (fun h=>?_) (fun K2=>?_)
   ·skip
    refine aG<|av<|aT 1 qN J<|dX OX J sb J (D J) hI<|aU<|aE ?_;exact bU (K1 (am.mk v.Kind (0:Int) v.U v.S) h) (bq J)
   ·skip
    refine aS<|aC<|aS<|bp<|bP J<|aX J<|iY h J (fun h=>?_) (fun h=>?_)
    ·refine dq<|aq<|aq<|bR<|aG<|be<|aT 1 qN J<|Q (aD OX J J qr (.tail _ (.head _)) (D J))<|oj J<|aQ J<|ai J (fun V=>nR 1 qN J J J)<|ai J (fun V=>aD OX J J qr (.tail _ (.head _)) (bJ J V))<|ai J (A4 J)<|cU J<|di h J (fun h=>?_) (fun h=>?_)
     ·refine dq<|bM J<|aq<|bM J<|aq<|bM J<|aq<|bM J<|aq<|bR<|af ?_;exact bU (tV v h) (bq J)
     ·refine bG<|aE<|af ?_;exact bU (K2 h) (bq J)
    ·refine jv<|bp<|bP J<|aX J<|iY h J (fun h=>?_) (fun h=>?_)
     ·refine dq<|aq<|aq<|bM J<|aq<|bR<|af ?_;exact bU (K2 h) (bq J)
     ·refine jv<|bp<|bP J<|aX J<|iY h J (fun h=>?_) (fun h=>?_)
      ·refine dq<|aq<|aq<|bM J<|aq<|bM J<|aq<|bR<|af ?_;exact bU (K1 v h) (bq J)
      ·refine jv<|bp<|bP J<|aX J<|iY h J (fun h=>?_) (fun h=>?_)
       ·refine dq<|aq<|aq<|bM J<|aq<|bM J<|aq<|bM J<|aq<|bR<|aG ?_;refine iy (bx:=fun v3=>pA v3=some R) (Of:=fun v3=>[Z bd 104 b v3,Z bd 104 b1 gQ]) (Gf:=fun v3=>[(1,K (M b 0)),(2,K (M b1 0))]) (fun v3 h=>?_) (fun K3=>?_)
        ·skip
         refine dq<|bM J<|aq<|bR ?_;exact bU (tV v3 h) (bq J)
        ·skip
         refine be<|aT 3 zF J<|Q (aD V0 J J uV (.tail _ (.head _)) (D J))<|Q (LY Cb (D J))<|Q (gy (D J) hI)<|di h J (fun h=>?_) (fun h=>?_)
         ·refine av<|aT 0 pT J<|cH<|dX bW J uJ J (D J) hI<|aT 3 zF J<|dX V0 J Cy J (D J) hS<|aU ?_;exact bU (K3 (am.mk (0:Int) v.N v.U ([])) h) (bq J)
         ·refine bG<|af ?_;exact bU (K3 v h) (bq J)
       ·refine jv<|be<|bP J<|aX J<|iY h J (fun h=>?_) (fun h=>?_)
        ·refine dq<|aq<|bM J<|aq<|bM J<|aq<|bM J<|aq<|bM J<|aq<|bR<|aG<|be<|aT 0 pT J<|cH<|dX bW J uJ J (D J) hI<|aT 1 qN J<|dX OX J sb J (D J) hI<|aT 2 GC J<|dX oE J Cz J (D J) hI<|bt<|dq ?_;refine bR ?_;exact bU (tV (am.mk (0:Int) (0:Int) (0:Int) v.S) h) (bq J)
        ·refine jv<|dq<|bM J<|aq<|bM J<|aq<|bM J<|aq<|bM J<|aq<|bM J<|aq<|bR<|af ?_;exact bU (tV v h) (bq J)

def ry v{R}(h:gR v=some R):dV a8 210 [tD bd v] (bw R):=by
 refine fb Tryz.func210 J<|be<|fv J<|cJ<|bt<|bp<|fP db J<|iI h XI (Sg _) (ez J) fun r h=>Q (ec db PT mB J)<|Q (w7 Mv (D J) (D J))<|di h J (fun h=>?_) (fun h=>?_)
 ·exact be<|gm<|aF<|so h▸aW J J
 ·exact jv<|be<|gm<|so h▸aW J J

def R7 v{R}(h:sP v=some R):dV a8 265 [tD bd v] (gA R):=by
 exact fb Tryz.func265 J<|be<|fv J<|bL<|bt<|be<|fP db J<|iI h zL (ry _) (ez J) fun r h=>bP J<|aQ J<|ai J (cq pT nF J J)<|ai J (ck bW J J)<|ai J (A4 J)<|cU J<|bk J<|so h▸aW J J

def R9 n{R}(h:th n=some R):dV a8 260 [tD bC n] (gA R):=by
 refine fb Tryz.func260 J<|be<|fv J<|bL<|bt<|bp<|bI lF fT bW J<|bt<|aC<|be<|bP J<|aX J<|iY h J (fun h=>?_) (fun h=>?_)
 ·exact be<|bI xf qv db J<|iI h Xu (R7 _) (ez J) fun r h=>aQ J<|ai J (cq te nJ J J)<|ai J (ck bW J J)<|ai J (lr J)<|cU J<|bk J<|fJ<|so h▸aW J J
 ·refine be<|bP J<|aX J<|iY h J (fun h=>?_) (fun h=>?_)
  ·exact be<|bI xf qv db J<|Q (ec db PT mB J)<|Q (Gp Mv (D J) (D J))<|aQ J<|ai J (cq te nJ J J)<|ai J (ck bW J J)<|ai J (fun V=>ie (bJ J V) hI)<|cU J<|aQ J<|ai J (cq te nJ J J)<|ai J (ck bW J J)<|ai J (fun V=>iC (bJ J V) hI)<|cU J<|bk J<|fJ<|so h▸aW J J
  ·exact bG<|aE<|aG<|be<|bI xf qv db J<|Q (ec db PT mB J)<|Q (Gp Mv (D J) (D J))<|aQ J<|ai J (cq te nJ J J)<|ai J (ck bW J J)<|ai J (lr J)<|cU J<|bk J<|so h▸aW J J

def Sc e{R}(h:wF e=some R):dV a8 250 [tD cY e] (tT [oo R.1,gA R.2]):=by
 refine fb Tryz.func250 J<|be<|fv J<|iJ bN<|bL<|bt<|be<|cP false bN 3<|Q (b9 vC)<|cP false bN 3<|Q (b9 vC)<|bt<|bp<|bI ss lW Cn J<|cM tU J<|Q (ca hI)<|aU ?_;refine aG<|aC<|bD (k:=15) J fun hN=>b7<|gc ?_;refine aZ (DH (bx:=fun ls i all l c open1 l1 c1=>(e.Nodes.drop i=ls)/\kx ls i all open1=some R) (Of:=fun _ i all l c open1 l1 c1=>[de bN 3 l c all,de bN 3 l1 c1 open1]) (Gf:=fun _ i all l c open1 l1 c1=>[(4,qP l c all),(5,qP l1 c1 open1),(15,eg (bC) e.Nodes),(16,oA e.Nodes),(17,bw (i:Int))]) (fun i all l c open1 l1 c1 h=>?_) (fun e1 tl ih i all l c open1 l1 c1 h=>?_) e.Nodes 0 ra none 0 ra none 0 ⟨J,h⟩) (bq J)
 ·obtain⟨X,h⟩:=h
  refine fY X J<|aG<|ay J<|aQ J<|Q (iD fc (.tail _ (.head _)) (D J))<|bP J<|aQ J<|ai J (dd J)<|ai J (fun V=>iD fc (.head _) (bJ J V))<|ai J (fun V=>gy (bJ J V) hI)<|cU J ?_;exact gB J<|bk J<|df<|bv 4 J<|bv 84 J<|bv 2 J<|eF 2 J<|aY<|aY<|so h▸eZ J J J
 ·obtain⟨X,h⟩:=h
  refine fX X J<|aS<|aC<|ay J<|gq tU jL J (fa X)<|bz jL rW J fun b=>gB J<|bu jL ax J<|bh 7 J<|bt<|aS ?_;refine av<|bI lF fT bW J<|iI h TC (Mp _) (ez J) fun r h=>aX J<|bp<|aQ J<|Q (iC (D J) hI)<|aQ J<|b8 J (dd J)<|b8 J (dd J)<|b8 J (fun V=>iD fc (.tail _ (.head _)) (bJ J V))<|b8 J (fun V=>jW (bJ J V) (bJ J V))<|kG J<|aQ J<|bK h fun t q_t h=>b8 J (fun V=>Cf jL J J) ?_
  obtain⟨r1,h1t,h0t⟩:=og q_t
  have q_r1g:=fun W=>(h1t W).1
  refine b8 J (fun V=>dx Xw (R9 _ (q_r1g V)) ⟨(bJ J V),d⟩)<|b8 J (y3 J)<|Q (ym (D J) (fun W=>(bJ J (Au W))) (fun W=>(h1t W).2) h0t)<|di h J (fun h=>?_) (fun h=>?_)
  ·exact be<|iJ bN<|bL<|co<|aF<|fJ<|aF<|fJ<|aY<|aY<|so h▸eZ J J J
  ·refine jv<|ay J<|aQ J<|Q (iD fc (.tail _ (.head _)) (D J))<|aQ J<|Q (ic (D J) (D J))<|bK h fun y q_y h=>Q (pg fc bW J (.tail _ (.head _)) (D J) (D J) q_y)<|pW (.tail _ (.head _)) q_y fun hv=>aX J<|be<|Q (rJ (r:=bN) (ys:=[Bx,Bx]) (xs:=[.const (.int .i64 (-1)),.const (.int .i64 (-1))]) B9 bW J xB J J ⟨hI,hI,d⟩)<|bz (r:=(mZ bN 2)) (x:=(List.replicate 2 (0:Int))) xB (fun _=>zS (r:=bN) 2 (fun _=>J) _) J fun b1=>bu xB ax J<|bt<|be ?_;refine aQ J<|aX J<|bp<|aQ J<|Q (LX fc (.tail _ (.tail _ (.head _))) q_y (D J))<|Q (ca hI)<|bt<|aC ?_
   have hN1:=hv.2
   refine b7<|mf<|mf ?_;refine aZ (DI (bx:=fun ls1 i1 first at1=>(y.drop i1=ls1)/\lZ (kx tl) i e1 all open1 r ls1 i1 first at1=some R) (Of:=fun _ i1 first at1=>[de bN 3 l c all,de bN 3 l1 c1 open1,Z (mZ bN 2) 209 b1 at1]) (Gf:=fun _ i1 first at1=>[(4,qP l c all),(5,qP l1 c1 open1),(6,bw (i:Int)),(7,c8 bC e1),(8,bw r),(10,K (M b1 0)),(11,bw first),(15,eg (bC) e.Nodes),(16,oA e.Nodes),(17,bw (i:Int)),(46,K (mX 1 l1 c1 (IntKind.i64.wrap ((open1.length:Int)-r)).toNat y.length)),(47,oA y),(48,bw (i1:Int))]) (fun i1 first at1 h=>?_) (fun e2 tl1 ih1 i1 first at1 h=>?_) y 0 (i:Int) ([Bx,Bx]) ⟨J,h⟩) (bq J)
   ·obtain⟨hx1,h⟩:=h
    refine fY hx1 J<|aG<|bp<|Q (aD xB J J bj (.tail _ (.tail _ (.head _))) (D J))<|bI BU C9 bW J<|bI BT C8 bW J<|Q (rJ (r:=bN) (ys:=[e1.L,e1.R]) (xs:=[.tmp 65,.tmp 67]) B9 bW J xB J J ⟨(D J),(D J),d⟩)<|Q (w7 Tz (D J) (D J))<|aU ?_;refine aG<|iY h J (fun h=>?_) (fun h=>?_)
    ·exact be<|iJ bN<|bL<|co<|aF<|fJ<|aF<|fJ<|aY<|aY<|aY<|so h▸eZ J J J
    ·refine jv<|ay J<|aQ J<|Q (ba (r:=bN) (ys:=[first]) (xs:=[.tmp 71]) fc bW J J J J J ⟨(D J),d⟩)<|bK h fun all1 q_all1 h=>c9 bW J J J J fc J J (D J) (D J) q_all1 fun l2 c2=>aX J<|av<|aQ J<|aQ J<|Q (iD fc (.tail _ (.head _)) (D J))<|aQ J<|Q (ic (D J) (D J))<|bK h fun y1 q_y1 h=>Q (nC fc bW J (.tail _ (.head _)) (D J) (D J) q_y1)<|aQ J<|Q (ba (r:=bN) (ys:=[(i:Int)]) (xs:=[.tmp 80]) fc bW J J J J J ⟨(D J),d⟩)<|cH<|DC q_y1 ?_;refine bK h fun open2 q_open2 h=>c9 bW J J J J fc J J (D J) (D J) q_open2 fun l3 c3=>gB J<|aU<|eu X hN J<|aH<|aY<|af ?_;exact bm (aZ (ih (i+1) all1 l2 c2 open2 l3 c3 ⟨ej X,h⟩) (bq J))
   ·obtain⟨hx1,h⟩:=h
    refine fX hx1 J<|aS<|aC<|ay J<|Q (xK fc bW J (.tail _ (.head _)) q_y (D J) (D J) (fa hx1))<|Q (mF (r:=bN) (i:=((IntKind.i64.wrap ((open1.length:Int)-r))+(i1:Int))) (foff:=0) bW J J bj J (.tail _ (.head _)) (yc q_y (fa hx1)).1 (D J))<|gB J<|aX J<|bK h fun e3 q_e3 h=>bK h fun e4 q_e4 h=>bK h fun ar q_ar h=>?_
    refine iv 10 [tc (bw (i1:Int)),tc (bw e2),tc (bw first),tc (qP l c all),tc (bw e2),tc (K (yG l (e2.toNat*1+0))),tc (bw e3),tc (bw (min first e3)),tc (K (M b1 ((i1:Int).toNat*1))),tc (Cs)] [false,false,false,false,false,false,false,false,false,true] [fun _=>[de bN 3 l c all,de bN 3 l1 c1 open1,Z (mZ bN 2) 209 b1 at1],fun sg=>[Z (mZ bN 2) 209 b1 ar,de bN 3 l c all,de bN 3 l1 c1 open1]] J mixed J J J J J
     ⟨⟨[⟨12,fun _=>tD bN (i1:Int),none⟩],_,0,0,J,⟨(fun _=>J),d⟩,J,J,J,J,J,fun _ sg _ _=>ac J (lz J)⟩,
     ⟨⟨[⟨13,fun _=>tD bN e2,none⟩],_,0,0,J,⟨(fun _=>J),d⟩,J,J,J,J,J,fun _ sg _ _=>ac J (lz J)⟩,
     ⟨⟨[⟨11,fun _=>tD bN first,none⟩],_,0,1,J,⟨(fun _=>J),d⟩,J,J,J,J,J,fun _ sg _ _=>ac J (lz J)⟩,
     ⟨⟨[⟨4,fun _=>K (au l c all.length),none⟩],_,0,1,J,⟨(fun _=>J),d⟩,J,J,J,J,J,fun _ sg _ _=>ac J (lz J)⟩,
     ⟨⟨[⟨13,fun _=>tD bN e2,none⟩],_,0,1,J,⟨(fun _=>J),d⟩,J,J,J,J,J,fun _ sg _ _=>ac J (lz J)⟩,
     ⟨⟨[⟨56,fun _=>K (au l c all.length),some 3⟩,⟨57,fun _=>tD bN e2,some 4⟩],_,0,1,J,⟨(fun _=>J),(fun _=>J),d⟩,J,J,J,J,J,By (fun sg=>ac J (hU fc bW (.head _) (D J) (D J) q_e3)) (mW (fun sg=>ac J (hU fc bW (.tail _ (.head _)) (D J) (D J) q_e3)))⟩,
     ⟨⟨[⟨58,fun _=>K (yG l (e2.toNat*1+0)),some 5⟩],_,0,1,J,⟨(fun _=>J),d⟩,J,J,J,J,J,By (fun sg=>ac J (mF (r:=bN) (i:=e2) (foff:=0) bW J J bj J (.head _) q_e3 (D J))) (mW (fun sg=>ac J (mF (r:=bN) (i:=e2) (foff:=0) bW J J bj J (.tail _ (.head _)) q_e3 (D J))))⟩,
     ⟨⟨[⟨55,fun _=>tD bN first,some 2⟩,⟨59,fun _=>tD bN e3,some 6⟩],_,0,1,J,⟨(fun _=>J),(fun _=>J),d⟩,J,J,J,J,J,fun _ sg _ _=>ac J (RL (D J) (D J))⟩,
     ⟨⟨[⟨10,fun _=>K (M b1 0),none⟩,⟨53,fun _=>tD bN (i1:Int),some 0⟩],_,0,0,J,⟨(fun _=>J),(fun _=>J),d⟩,J,J,J,J,J,mW (fun sg=>ac J (jd B9 bW (.tail _ (.tail _ (.head _))) (D J) (D J) q_e4))⟩,
     ⟨⟨[⟨61,fun _=>K (M b1 ((i1:Int).toNat*1)),some 8⟩,⟨54,fun _=>tD bN e2,some 1⟩],_,J,⟨(fun _=>J),(fun _=>J),d⟩,J,J,J,fun sg=>bT J (EffOK.fr2 (K5 bW J q_e4 (so q_ar) (D J) (D J)))⟩,
     d⟩⟩⟩⟩⟩⟩⟩⟩⟩⟩ (fun sg=>?_)
    refine(show RG _ _ _ _ [_,_,_] _ from ?_);refine gB J<|aU<|eu hx1 hN1 J<|aH<|aH ?_;exact bm (aZ (ih1 (i1+1) (min first e3) ar ⟨ej hx1,h⟩) (bq J))

def Mq e{R}(h:sw e=some R):dV a8 233 [tD cY e] (bw R):=by
 refine fb Tryz.func233 J<|be<|fv J<|cJ<|bt<|bp<|fP lL J<|iI h XD (Sc _) (ez J) fun r h=>aQ J<|eh J J<|eh J J<|gB J<|aX J<|ay J<|Q (gg (D J)) ?_;refine di h J (fun h=>?_) (fun h=>?_)
 ·exact be<|gm<|aF<|so h▸aW J J
 ·exact jv<|be<|gm<|so h▸aW J J

def Vf(l:Option Nat)(c:Nat) h3{R}(h:jS h3=some R):bf a8 252 [qP l c h3] [de bN 3 l c h3] (fun i:OI=>qP (i.h 0).1 (i.h 0).2 R) (fun i=>[de bN 3 (i.h 0).1 (i.h 0).2 R]):=by
 refine bf.of Tryz.func252 J J J fun w0 S0=>be<|cP false bN 3<|Q (b9 vC)<|bt<|bp<|aQ J<|Q (iD fc (.tail _ (.head _)) (D J))<|Q (iC (D J) hI)<|di h J (fun h=>?_) (fun h=>?_)
 ·exact ay J<|bk J<|aF<|aY<|so h▸bA J (oi l c) J J (fun _ _ h=>h)
 ·refine jv<|bp<|cJ<|bt<|aC<|zY (.tail _ (.head _)) fun hN=>b7<|rE ?_;refine aZ (iu (bx:=fun ls i=>(h3.drop i=ls)/\eT h3 ls i=some R) (Of:=fun _ i=>[de bN 3 l c h3]) (Gf:=fun _ i=>[(0,qP l c h3),(3,bw (i:Int))]) (fun i h=>?_) (fun e tl ih i h=>?_) (h3.drop (1)) 1 ⟨J,h⟩) (bq J)
  ·obtain⟨X,h⟩:=h
   exact ea<|bp<|aQ J<|aQ J<|Q (iD fc (.head _) (D J))<|nk J<|bt<|z1 (D J) (TB X)<|dq<|aq<|aq<|bR<|aG<|ay J<|bk J<|so h▸bA J (oi l c) J J (fun _ _ h=>h)
  ·obtain⟨X,h⟩:=h
   refine ea<|bp<|aQ J<|aQ J<|Q (iD fc (.head _) (D J))<|nk J<|bt<|zZ (D J) (QC X)<|jv<|aS<|aC<|aS<|bK h fun e1 q_e1 h=>?_
   refine kE (ts:=[_,_,_,_,_,_,_,_,_,_]) mixed J J
    ⟨hT J J,
    ⟨hT J J,
    ⟨j9 16 0 17 1 J J J (hU fc bW (.head _) (D J) (D J) (fa X)),
    ⟨fW 18 2 J J (mF (r:=bN) (i:=(i:Int)) (foff:=0) bW J J bj J (.head _) (fa X) (D J)),
    ⟨hT J J,
    ⟨hT J J,
    ⟨fW 21 5 J J (ic (D J) hI),
    ⟨j9 20 4 22 6 J J J (hU fc bW (.head _) (D J) (D J) q_e1),
    ⟨fW 23 7 J J (mF (r:=bN) (i:=(IntKind.i64.wrap ((i:Int)-(1:Int)))) (foff:=0) bW J J bj J (.head _) q_e1 (D J)),
    ⟨j9 19 3 24 8 J J J (dW (D J) (D J)),
    d⟩⟩⟩⟩⟩⟩⟩⟩⟩⟩ ?_
   refine aG<|iY h J (fun h=>?_) (fun h=>?_)
   ·refine ay J<|aQ J<|bK h fun y q_y h=>Q (pg fc bW J (.head _) (D J) (D J) q_y)<|pW (.head _) q_y fun hv=>aX J<|bp<|cJ<|bt<|aC<|b7 ?_;refine aZ (MM (bx:=fun k1 i1 s1 k=>(y.length-i1=k1)/\d6 i y k1 i1 s1 k=some R) (Of:=fun _ i1 s1 k=>[de bN 3 l c s1]) (Gf:=fun _ i1 s1 k=>[(0,qP l c s1),(3,bw k),(4,K (mX 1 l c (i:Int).toNat y.length)),(5,bw (i1:Int))]) (fun i1 s1 k h=>?_) (fun k2 ih1 i1 s1 k h=>?_) (y.length-1) 1 h3 (i:Int) ⟨J,h⟩) (bq J)
    ·obtain⟨hx1,h⟩:=h
     refine ea<|bp<|aQ J<|aQ J<|Q (LW fc hv.1 (D J))<|nk J<|bt<|z1 (D J) (WA hx1)<|dq<|aq<|aq<|bR<|aG<|ay J<|aQ J<|bK h fun y1 q_y1 h=>Q (pg fc bW J (.head _) (D J) (D J) q_y1)<|pW (.head _) q_y1 fun hv1=>bK h fun cl q_cl h=>?_;exact Oa bW J J fc (fun _=>J) J q_y1 (D J) (so q_cl)<|rN (Fw q_y1 (so q_cl)) 0 J<|rN (Fw q_y1 (so q_cl)) 54 J<|bt<|ay J<|aQ J<|bK h fun y2 q_y2 h=>Q (nC fc bW J (.head _) (D J) (D J) q_y2)<|DC q_y2<|bk J<|fJ<|aF<|fJ<|so h▸bA J (oi l c) J J (fun _ _ h=>h)
    ·obtain⟨hx1,h⟩:=h
     refine ea<|bp<|aQ J<|aQ J<|Q (LW fc hv.1 (D J))<|nk J<|bt<|zZ (D J) (Wz hx1)<|jv<|aS<|aC<|aS<|bK h fun e3 q_e3 h=>bK h fun e4 q_e4 h=>?_
     refine kE (ts:=[_,_,_,_,_,_,_,_,_,_]) mixed J J
      ⟨hT J J,
      ⟨hT J J,
      ⟨j9 35 0 36 1 J J J (tK fc bW J (.head _) (Ak q_y) (D J) (D J) q_e3),
      ⟨fW 37 2 J J (mF (r:=bN) (i:=((i:Int)+(i1:Int))) (foff:=0) bW J J bj J (.head _) (xc q_e3).2.2 (D J)),
      ⟨hT J J,
      ⟨hT J J,
      ⟨fW 40 5 J J (ic (D J) hI),
      ⟨j9 39 4 41 6 J J J (tK fc bW J (.head _) (Ak q_y) (D J) (D J) q_e4),
      ⟨fW 42 7 J J (mF (r:=bN) (i:=((i:Int)+(IntKind.i64.wrap ((i1:Int)-(1:Int))))) (foff:=0) bW J J bj J (.head _) (xc q_e4).2.2 (D J)),
      ⟨j9 38 3 43 8 J J J (jU (D J) (D J)),
      d⟩⟩⟩⟩⟩⟩⟩⟩⟩⟩ ?_
     refine aG<|iY h J (fun h=>?_) (fun h=>?_)
     ·refine ay J<|aQ J<|aQ J<|aQ J<|bK h fun e5 q_e5 h=>Q (tK fc bW J (.head _) (Ak q_y) (D J) (D J) q_e5)<|Q (mF (r:=bN) (i:=((i:Int)+(i1:Int))) (foff:=0) bW J J bj J (.head _) (xc q_e5).2.2 (D J))<|bK h fun e6 q_e6 h=>Q (hU fc bW (.head _) (D J) (D J) q_e6)<|bK h fun st q_st h=>AP bW J ax J q_e6 (so q_st) (D J) (D J)<|rN (wU (so q_st)) 0 J<|rN (wU (so q_st)) 45 J<|bt<|av<|aQ J<|Q (fq (D J) hI)<|gB J<|aU<|aE<|aG ?_;refine av<|aQ J<|Q (BN (UG hx1 (WC hv.2)) (D J) hI)<|gB J<|aU ?_;exact bm (aZ (ih1 (i1+1) st (IntKind.i64.wrap (k+(1:Int))) ⟨UF hx1,h⟩) (bq J))
     ·refine bG<|aE<|aG<|av<|aQ J<|Q (BN (UG hx1 (WC hv.2)) (D J) hI)<|gB J<|aU ?_;exact bm (aZ (ih1 (i1+1) s1 k ⟨UF hx1,h⟩) (bq J))
   ·refine bG<|Wb X hN J ?_;exact bm (aZ (ih (i+1) ⟨ej X,h⟩) (bq J))

end Go.Proofs.YtdohlidddcgfjaaGreat

