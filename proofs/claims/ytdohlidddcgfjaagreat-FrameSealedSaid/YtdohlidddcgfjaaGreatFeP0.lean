/- bO of this claim: P0. -/
import Derived.Test.YtdohlidddcgfjaaGreatFeT
import Derived.Test.YtdohlidddcgfjaaGreatFeF
set_option linter.all false
namespace Go.Proofs.YtdohlidddcgfjaaGreat
open Go
abbrev gQ:=(⟨(0:Int),(0:Int),(0:Int),[]⟩:am)
abbrev vA:=(⟨[],false,(0:Int)⟩:bH)
abbrev qe:=(⟨(0:Int),(0:Int),(0:Int),(0:Int),vA⟩:aO)
abbrev cw:=rH gV []
abbrev bN:=rI .i64
abbrev MR:=fun(mc:aP) (mx:aa)=>(eM mc mx).map fun mr=>((),mr)
abbrev Ua:=fun(mc:aP) (mx:aa)=>(ii mc mx).map fun mr=>((),mr)
abbrev Uc:=fun(mc:aP) (mx:aa)=>(gh mc mx).map fun mr=>((),mr)
abbrev FT:=fun(mc:aP) (mx:aa)=>(dQ mc mx).map fun mr=>((),mr)
abbrev Ud:=fun(mc:aP) (mx:aa)=>(fR mc mx).map fun mr=>((),mr)
abbrev Ub:=fun(mc:aP) (mx:aa)=>(gK mc mx).map fun mr=>((),mr)
abbrev Zi:=fV (fV (fV (fV (fV (fV (fV (fV (fV ([]:List (Int×(aP->aa->Option (Unit×aP)))) (1:Int) MR) (9:Int) MR) (2:Int) Ua) (3:Int) Uc) (4:Int) FT) (10:Int) FT) (11:Int) FT) (5:Int) Ud) (8:Int) Ub
abbrev oR:=fun(x:Bool)=>gA x
abbrev mh:=(⟨[]⟩:aR)
abbrev EG:=(⟨[],(0:Int),(0:Int),[]⟩:dC)
abbrev Cg:=fun(x:aa)=>[tD bl x]
abbrev tW:=(⟨[]⟩:da)
abbrev OH:=fun(x:aa×aa)=>[tD bl x.1,tD bl x.2]
abbrev rX:=fun(x:Unit)=>tT []
abbrev FS:=(⟨(0:Int),(0:Int),(0:Int),(0:Int),gQ⟩:ap)
abbrev mp:=gE bd
abbrev y0:=fun(x:Bool)=>tD rB x
abbrev Rh:=(⟨(0:Int),(0:Int),(0:Int),(0:Int),[],false,mh,[],[],[],[],(0:Int)⟩:aa)
noncomputable abbrev OG:=kU a8 OH oR (fun(x:aa×aa)=>nz x.1 x.2)
abbrev ra:=([]:List Int)
abbrev nh:=rI .u32
abbrev lx:=rI .u64
abbrev Rg:=(⟨(0:Int),(0:Int)⟩:lq)
abbrev Rf:=fun(x:dC×dC)=>[tD cG x.1,tD cG x.2]
abbrev Re:=fun(x:ap×(List Int))=>[tD bC x.1,oo x.2]
abbrev Rc:=fun(x:fI×fI)=>[tD fK x.1,tD fK x.2]
abbrev Hr:=fun(x:Int)=>[bw x]
abbrev OF:=fun(x:am)=>[tD bd x]
abbrev xX:=gE bN
abbrev T9:=fun(x:ap×(List Int))=>[tD bC x.1,tD xX x.2]
abbrev Rb:=fun(x:Int×Int)=>tT [bw x.1,bw x.2]
abbrev OD:=fun(x:kF)=>[tD ia x]
abbrev T8:=fun(x:aR×aR)=>[tD cY x.1,tD cY x.2]
abbrev D2:=mZ nh 256
abbrev OC:=fun(x:Int)=>[tD bN x]
abbrev T7:=fun(x:Int×Int)=>tT [tD bN x.1,tD bN x.2]
abbrev FR:=au none 0 0
abbrev T6:=2^(min (Int.toNat (8:Int)) IntKind.u32.bits)
abbrev T5:=fun(x:(List am))=>[eg (bd) x]
abbrev Bx:=(-1:Int)
abbrev Hq:=gE (rI .u8)
abbrev Ra:=(⟨Rg,[]⟩:ae)
abbrev T4:=fun(x:Int)=>mR x
abbrev FQ:=rI .u16
abbrev MQ:=(81,tT [])
set_option maxRecDepth 100000

def SQ{R}(h:Ai=some R):dV a8 112 [] (tD D2 R):=by
 refine fb Tryz.func112 J<|be<|bz (r:=D2) (x:=(List.replicate 256 (0:Int))) EM (fun _=>zS (r:=nh) 256 (fun _=>J) _) J fun b=>bt<|be<|bK h fun e q_e h=>Q (jd FM p7 (.head _) (D J) hI q_e)<|bK h fun ar q_ar h=>xi p7 J q_e (so q_ar) (D J) hI<|bt<|bp<|cJ<|bt<|aC<|b7 ?_;refine aZ (BY (bx:=fun n1 n out=>rp n1 n out=some R) (Of:=fun n out=>[Z D2 152 b out]) (Gf:=fun n out=>[(0,K (M b 0)),(1,bw n)]) (fun n out h=>nn h) (fun n1 ih n out h=>?_) eQ (64:Int) ar h) (bq J);refine ea<|bp<|aQ J<|Q (jW (D J) hI)<|di h J (fun h=>?_) (fun h=>?_)
 ·refine jv<|aS<|aC<|ay J<|Q (CV hI (D J))<|bK h fun e1 q_e1 h=>Q (jd FM p7 (.head _) (D J) (D J) q_e1)<|Q (zg p7 J J (.head _) q_e1 (D J))<|aX J<|ay J<|aQ J<|Q (Ar (D J) hI (by decide))<|bK h fun e2 q_e2 h=>Q (jd FM p7 (.head _) (D J) (D J) q_e2)<|bK h fun ar1 q_ar1 h=>xi p7 J q_e2 (so q_ar1) (D J) (D J)<|aU ?_;refine aG<|ay J<|Q (UC (D J) hI)<|bP J<|di h J (fun h=>?_) (fun h=>?_)
  ·refine av<|aQ J<|bK h fun e3 q_e3 h=>Q (jd FM p7 (.head _) (D J) (D J) q_e3)<|Q (zg p7 J J (.head _) q_e3 (D J))<|Q (Gm (D J) hI)<|Q (jd FM p7 (.head _) (D J) (D J) q_e3)<|bK h fun ar2 q_ar2 h=>xi p7 J q_e3 (so q_ar2) (D J) (D J)<|aU<|aE<|aG<|av<|aQ J<|Q (Pp (D J) hI (by decide))<|gB J<|aU ?_;exact bm (aZ (ih (IntKind.i64.wrap ((n).tdiv (2:Int))) ar2 h) (bq J))
  ·refine bG<|aE<|aG<|av<|aQ J<|Q (Pp (D J) hI (by decide))<|gB J<|aU ?_;exact bm (aZ (ih (IntKind.i64.wrap ((n).tdiv (2:Int))) ar1 h) (bq J))
 ·refine dq<|aq<|aq<|bR<|aG<|bp<|cJ<|bt<|aC<|b7 ?_;refine aZ (BY (bx:=fun n3 n2 out1=>ro n3 n2 out1=some R) (Of:=fun n2 out1=>[Z D2 152 b out1]) (Gf:=fun n2 out1=>[(0,K (M b 0)),(3,bw n2)]) (fun n2 out1 h=>nn h) (fun n3 ih1 n2 out1 h=>?_) eQ (2:Int) out h) (bq J);refine ea<|bp<|aQ J<|Q (iC (D J) hI)<|di h J (fun h=>?_) (fun h=>?_)
  ·refine jv<|aS<|aC<|ay J<|Q (ca hI)<|bt<|aC<|b7 ?_;refine aZ (BY (bx:=fun n4 x out2=>uF (ro n3) n2 n4 x out2=some R) (Of:=fun x out2=>[Z D2 152 b out2]) (Gf:=fun x out2=>[(0,K (M b 0)),(3,bw n2),(30,bw n2),(31,bw x)]) (fun x out2 h=>nn h) (fun n4 ih2 x out2 h=>?_) eQ (0:Int) out1 h) (bq J);refine ea<|be<|nk J<|bt<|aS<|iY h J (fun h=>?_) (fun h=>?_)
   ·refine jv<|aS<|aC<|ay J<|aX J<|bK h fun e4 q_e4 h=>bK h fun e5 q_e5 h=>bK h fun e6 q_e6 h=>?_
    refine q7 11 (ts:=[bw n2,bw x,bw (IntKind.i64.wrap (n2+x)),bw n2,K (M b (n2.toNat*1)),tD nh e4,bw x,K (M b (x.toNat*1)),tD nh e5,tD nh (pV .xor .u32 e4 e5),K (M b ((IntKind.i64.wrap (n2+x)).toNat*1))]) mixed J J J
     ⟨hT J J,
     ⟨hT J J,
     ⟨j9 34 0 35 1 J J J (fq (D J) (D J)),
     ⟨hT J J,
     ⟨Ri 0 37 3 J J J (jd FM p7 (.head _) (D J) (D J) q_e4),
     ⟨fW 38 4 J J (zg p7 J J (.head _) q_e4 (D J)),
     ⟨hT J J,
     ⟨Ri 0 40 6 J J J (jd FM p7 (.head _) (D J) (D J) q_e5),
     ⟨fW 41 7 J J (zg p7 J J (.head _) q_e5 (D J)),
     ⟨j9 39 5 42 8 J J J (Gm (D J) (D J)),
     ⟨Ri 0 36 2 J J J (jd FM p7 (.head _) (D J) (D J) q_e6),
     d⟩⟩⟩⟩⟩⟩⟩⟩⟩⟩⟩ ?_
    refine bK h fun ar3 q_ar3 h=>xi p7 J q_e6 (so q_ar3) (D J) (D J)<|aU<|aE<|aG<|av<|Q (fq (D J) hI)<|aQ J<|aU ?_;exact bm (aZ (ih2 (IntKind.i64.wrap (x+(1:Int))) ar3 h) (bq J))
   ·refine dq<|aq<|aq<|bR<|aE<|aG<|av<|aQ J<|Q (CV (D J) hI)<|gB J<|aU ?_;exact bm (aZ (ih1 (IntKind.i64.wrap (n2*(2:Int))) out2 h) (bq J))
  ·exact dq<|aq<|aq<|bR<|aG<|be<|Q (aD EM J J bj (.head _) (D J))<|bu EM ax J<|co<|eY 0 J<|so h▸Jr J EM J J J

def VH(b:Nat) register vp c{R}(h:sR register vp c=some R):bf a8 113 [tD (rI .u8) c,K (M b 0),c8 D2 vp] [Z nh 25 b register] (fun i:OI=>tT []) (fun i=>[Z nh 25 b R]):=by
 refine bf.of Tryz.func113 J J J fun w0 S0=>bK h fun e q_e h=>?_
 refine q7 9 (ts:=[tD nh register,tD nh ((register).fdiv T6),tD nh register,tD (rI .u8) (IntKind.u8.wrap register),tD (rI .u8) c,tD (rI .u8) (pV .xor .u8 (IntKind.u8.wrap register) c),c8 nh e,tD nh e,tD nh (pV .xor .u32 ((register).fdiv T6) e)]) mixed J J J
  ⟨JA 1 J J (aD p7 J J bj (.head _) (D J)),
  ⟨fW 4 0 J J (Ar (D J) hI (by decide)),
  ⟨JA 1 J J (aD p7 J J bj (.head _) (D J)),
  ⟨fW 6 2 J J (eW ED tw (D J)),
  ⟨hT J J,
  ⟨j9 7 3 8 4 J J J (Gm (D J) (D J)),
  ⟨Ri 2 9 5 J J J (Ef FM p7 J (D J) (D J) q_e),
  ⟨tY 6 p7 J J,
  ⟨j9 5 1 11 7 J J J (Gm (D J) (D J)),
  d⟩⟩⟩⟩⟩⟩⟩⟩⟩ ?_
 exact bu p7 ax J<|aU<|so h▸ep J (oi none 0) J J

def U7 b{R}(h:wT b=some R):dV a8 54 [eg ((rI .u8)) b] (tD nh R):=by
 refine fb Tryz.func54 J<|be<|cJ<|bt<|be<|iI h YO SQ trivial fun r h=>bz (r:=D2) (x:=(List.replicate 256 (0:Int))) EM (fun _=>zS (r:=nh) 256 (fun _=>J) _) J fun b1=>bu EM ax J<|bh 3 J<|bt<|be<|bz (r:=nh) (x:=(0:Int)) p7 (fun _=>J) J fun b2=>dX p7 J ax J (D J) hI<|bt<|be<|Q (ud (cts:=[K (M b2 0),c8 D2 r]) (caps:=[.tmp 4,.tmp 3]) ⟨(D J),(D J),d⟩) ?_;refine aX J<|bp<|aQ J<|cM hM J<|Q (ca hI)<|bt<|aC<|bD (k:=10) J fun hN=>b7 ?_;refine aZ (wM (bx:=fun ls i register=>(b.drop i=ls)/\nU r ls register=some R) (Of:=fun _ i register=>[Z nh 25 b2 register]) (Gf:=fun _ i register=>[(4,K (M b2 0)),(5,tC 113 [K (M b2 0),c8 D2 r]),(10,eg ((rI .u8)) b),(11,oA b),(12,bw (i:Int))]) (fun i register h=>?_) (fun e tl ih i register h=>?_) b 0 (4294967295:Int) ⟨J,h⟩) (bq J)
 ·obtain⟨X,h⟩:=h
  exact fY X J<|aG<|be<|Q (aD p7 J J bj (.head _) (D J))<|Q (UB (D J))<|bk J<|aY<|so h▸aW J J
 ·obtain⟨X,h⟩:=h
  refine fX X J<|aS<|aC<|be<|gq hM rZ J (fa X)<|aX J<|av<|aQ J<|aQ J<|bK h fun r1 q_r1 h=>aK (rM (xs:=[.tmp 17]) (ts:=[tD (rI .u8) e]) (cts:=[K (M b2 0),c8 D2 r]) (post:=fun i=>[Z nh 25 b2 r1]) [Z nh 25 b2 register] [] J YN (VH b2 _ _ _ q_r1) (D J) ⟨(D J),d⟩ (fun _=>J)) J fun i1=>?_;refine(show RG _ _ _ _ [_] _ from ?_);refine aU<|eu X hN J ?_;exact bm (aZ (ih (i+1) r1 ⟨ej X,h⟩) (bq J))

def Mo b{R}(h:nM b=some R):iX a8 55 [eg ((rI .u8)) b] false (rI .u8) 5 R:=by
 refine iX.of Tryz.func55 J J J fun w0 S0=>be<|cP false (rI .u8) 5<|Q (b9 vC)<|bt<|bp<|aQ J<|Jg hM (D J) J fun isnil hisnil=>bt<|pY (D J) (fun hc=>?_) (fun hc=>?_)
 ·have X:=hisnil hc
  have h:some ra=some R:=by simpa [nM,jh,X] using h
  exact be<|cP false (rI .u8) 5<|Q (b9 vC)<|co<|aF<|so h▸mA J J
 ·exact jv<|be<|pq (r:=(rI .u8)) (ys:=ra) (xs:=[]) hM rZ J J J J J trivial J fun l c=>aQ J<|bK h fun x q_x h=>c9 rZ J J J J hM J J (D J) (D J) q_x fun l1 c1=>bk J<|so h▸mA J J
def GD b{R}(h:mq b=some R):iX a8 27 [eg ((rI .u8)) b] false (rI .u8) 5 R:=by
 refine iX.of Tryz.func27 J J J fun w0 S0=>be<|cP false (rI .u8) 5<|Q (b9 vC)<|bt<|ay J<|iI h Z0 (U7 _) (ez J) fun r h=>aX J<|ay J<|sN h Xs (Mo _) (ez J) fun r1 h l c=>aX J<|aS ?_;refine be<|Q (ca hI)<|bt<|aC<|b7<|gc<|rE ?_;refine aZ (ML (bx:=fun k i out l1 c1 n=>(4-i=k)/\mK k out n=some R) (Of:=fun _ i out l1 c1 n=>[de (rI .u8) 5 l1 c1 out]) (Gf:=fun _ i out l1 c1 n=>[(3,tD nh n),(4,qP l1 c1 out),(9,bw (i:Int))]) (fun i out l1 c1 n h=>?_) (fun k1 ih i out l1 c1 n h=>?_) 4 0 r1 l c r ⟨J,h⟩) (bq J)
 ·obtain⟨X,h⟩:=h
  exact ea<|be<|Q (iC (D J) hI)<|bt<|aS<|z1 (D J) (WA X)<|dq<|aq<|aq<|bR<|aG<|ay J<|bk J<|so h▸mA J J
 ·obtain⟨X,h⟩:=h
  refine ea<|be<|Q (iC (D J) hI)<|bt<|aS<|zZ (D J) (Wz X)<|jv<|aS<|aC<|ay J<|aQ J<|Q (eW ED tw (D J))<|Q (ba (r:=(rI .u8)) (ys:=[(IntKind.u8.wrap n)]) (xs:=[.tmp 13]) hM rZ J J J J J ⟨(D J),d⟩)<|bK h fun out1 q_out1 h=>c9 rZ J J J J hM J J (D J) (D J) q_out1 fun l2 c2=>aX J<|av ?_;refine aQ J<|Q (Ar (D J) hI (by decide))<|gB J<|aU<|aE<|aG<|av<|Q (BN (UG X (by decide)) (D J) hI)<|aQ J<|aU ?_;exact bm (aZ (ih (i+1) out1 l2 c2 ((n).fdiv T6) ⟨UF X,h⟩) (bq J))
def U6 n{R}(h:mR n=some R):dV a8 56 [bw n] (gA R):=by
 exact fb Tryz.func56 J<|be<|bL<|bt<|ay J<|Q (ie (D J) hI)<|aQ J<|ai J (dd J)<|ai J (fun V=>gy (bJ J V) hI)<|cU J<|bk J<|so h▸aW J J

def Qb s1 s2 eq{R}(h:ce s1 s2 eq=some R):dV a8 62 [eg (mp) s1,eg (mp) s2,(kU a8 (fun(x:(List am)×(List am))=>[eg (bd) x.1,eg (bd) x.2]) oR (fun(x:(List am)×(List am))=>eq x.1 x.2))] (gA R):=by
 refine fb Tryz.func62 J<|be<|bL<|bt<|bp<|aQ J<|cM xo J<|aQ J<|cM xo J<|Q (jU (D J) (D J))<|di h J (fun h=>?_) (fun h=>?_)
 ·exact be<|bL<|co<|aF<|so h▸aW J J
 ·refine jv<|bp<|aQ J<|cM xo J<|Q (ca hI)<|bt<|aC<|bD (k:=15) J fun hN=>b7 ?_;refine aZ (iu (bx:=fun ls i=>(s1.drop i=ls)/\bV s2 eq ls i=some R) (Of:=fun _ i=>[]) (Gf:=fun _ i=>[(1,eg (mp) s2),(2,(kU a8 (fun(x:(List am)×(List am))=>[eg (bd) x.1,eg (bd) x.2]) oR (fun(x:(List am)×(List am))=>eq x.1 x.2))),(15,eg (mp) s1),(16,oA s1),(17,bw (i:Int))]) (fun i h=>?_) (fun e tl ih i h=>?_) s1 0 ⟨J,h⟩) (bq J)
  ·obtain⟨X,h⟩:=h
   exact fY X J<|aG<|be<|bL<|co<|so h▸aW J J
  ·obtain⟨X,h⟩:=h
   refine fX X J<|aS<|aC<|ay J<|gq xo Cq J (fa X)<|gB J<|aX J<|ay J ?_;refine aQ J<|bK h fun e1 q_e1 h=>gq xo Cq J q_e1<|aX J<|ay J<|aQ J<|aQ J<|bK h fun r q_r h=>Q (kX (args:=(fun(x:(List am)×(List am))=>[tD mp x.1,tD mp x.2])) (res:=y0) (f:=(fun(x:(List am)×(List am))=>eq x.1 x.2)) (x:=((e,e1):(List am)×(List am))) (D J) q_r ⟨(D J),(D J),d⟩)<|Q (gg (D J))<|di h J (fun h=>?_) (fun h=>?_)
   ·exact be<|bL<|co<|fJ<|aF<|fJ<|so h▸aW J J
   ·refine bG<|eu X hN J ?_;exact bm (aZ (ih (i+1) ⟨ej X,h⟩) (bq J))

def Qa s1 s2{R}(h:dJ s1 s2=some R):dV a8 64 [eg (bd) s1,eg (bd) s2] (gA R):=by
 refine fb Tryz.func64 J<|be<|bL<|bt<|bp<|aQ J<|cM DX J<|aQ J<|cM DX J<|Q (jU (D J) (D J))<|di h J (fun h=>?_) (fun h=>?_)
 ·exact be<|bL<|co<|aF<|so h▸aW J J
 ·refine jv<|bp<|aQ J<|cM DX J<|Q (ca hI)<|bt<|aC<|bD (k:=11) J fun hN=>b7 ?_;refine aZ (iu (bx:=fun ls i=>(s1.drop i=ls)/\dr s2 ls i=some R) (Of:=fun _ i=>[]) (Gf:=fun _ i=>[(0,eg (bd) s1),(1,eg (bd) s2),(12,oA s1),(13,bw (i:Int))]) (fun i h=>?_) (fun e tl ih i h=>?_) s1 0 ⟨J,h⟩) (bq J)
  ·obtain⟨X,h⟩:=h
   exact fY X J<|aG<|be<|bL<|co<|so h▸aW J J
  ·obtain⟨X,h⟩:=h
   refine fX X J<|aS<|aC<|ay J<|aX J<|aS<|bK h fun e1 q_e1 h=>?_
   refine kE (ts:=[_,_,_,_,_,_,_,_,_]) mixed J J
    ⟨hT J J,
    ⟨hT J J,
    ⟨j9 16 0 17 1 J J J (Ly DX db J J J (fa X)),
    ⟨tY 2 db J J,
    ⟨hT J J,
    ⟨hT J J,
    ⟨j9 20 4 21 5 J J J (Ly DX db J J J q_e1),
    ⟨tY 6 db J J,
    ⟨j9 19 3 23 7 J J J (w7 Mv (D J) (D J)),
    d⟩⟩⟩⟩⟩⟩⟩⟩⟩ ?_
   refine aG<|iY h J (fun h=>?_) (fun h=>?_)
   ·exact be<|bL<|co<|fJ<|aF<|fJ<|so h▸aW J J
   ·refine bG<|eu X hN J ?_;exact bm (aZ (ih (i+1) ⟨ej X,h⟩) (bq J))

def U3 p y{R}(h:oW p y=some R):dV a8 63 [eg (bd) p,eg (bd) y] (gA R):=by
 exact fb Tryz.func63 J<|be<|bL<|bt<|ay J<|aQ J<|iI h Xq (Qa _ _) (ez J) fun r h=>bk J<|so h▸aW J J

def Vb a1 b{R}(h:n8 a1 b=some R):dV a8 31 [tD cu a1,tD cu b] (gA R):=by
 refine fb Tryz.func31 J<|be<|fv J<|fv J<|bL<|bt<|be<|tX oy fm J<|bI wD o0 HF J<|tX oy fm J<|bI wD o0 HF J<|iI h Xr (Qb _ _ _) ⟨(D J),(D J),(PO ZU fun x y h=>U3 _ _ h),d⟩ fun r h=>aX J<|be<|tX Di qY J ?_;refine fP bW J<|bI Di qY bW J<|Q (dW (D J) (D J))<|aQ J<|ai J (cq Gz ta J J)<|ai J (ck p7 J J)<|ai J (cq Gz ta J J)<|ai J (ck p7 J J)<|ai J (fun V=>dW (bJ J V) (bJ J V))<|cU J<|aQ J<|ai J (cq yA nG J J)<|ai J (ck oE J J)<|ai J (cq yA nG J J)<|ai J (ck oE J J)<|ai J (fun V=>dW (bJ J V) (bJ J V))<|cU J<|aQ J<|ai J (cq yz pn J J)<|ai J (ck oE J J)<|ai J (cq yz pn J J)<|ai J (ck oE J J)<|ai J (fun V=>dW (bJ J V) (bJ J V)) ?_;refine cU J<|aQ J<|ai J (cq oy fm J J)<|ai J (fun V=>ig u4 J nK J (bJ J V))<|ai J (ck yM J J)<|ai J (cq oy fm J J)<|ai J (fun V=>ig u4 J nK J (bJ J V))<|ai J (ck yM J J)<|ai J (fun V=>Gq Lv (bJ J V) (bJ J V))<|cU J<|aQ J<|ai J (cq oy fm J J)<|ai J (fun V=>ig wC J oZ J (bJ J V))<|ai J (ck oE J J)<|ai J (cq oy fm J J)<|ai J (fun V=>ig wC J oZ J (bJ J V))<|ai J (ck oE J J)<|ai J (fun V=>dW (bJ J V) (bJ J V))<|cU J<|aQ J<|ai J (dd J)<|cU J<|gB J<|aU ?_;exact aG<|qD<|so h▸aW J J

def KK s1 s2{R}(h:gU s1 s2=some R):dV a8 66 [oo s1,oo s2] (gA R):=by
 refine fb Tryz.func66 J<|be<|bL<|bt<|bp<|aQ J<|cM fc J<|aQ J<|cM fc J<|Q (jU (D J) (D J))<|di h J (fun h=>?_) (fun h=>?_)
 ·exact be<|bL<|co<|aF<|so h▸aW J J
 ·refine jv<|bp<|aQ J<|cM fc J<|Q (ca hI)<|bt<|aC<|bD (k:=11) J fun hN=>b7 ?_;refine aZ (iu (bx:=fun ls i=>(s1.drop i=ls)/\jx s2 ls i=some R) (Of:=fun _ i=>[]) (Gf:=fun _ i=>[(0,oo s1),(1,oo s2),(12,oA s1),(13,bw (i:Int))]) (fun i h=>?_) (fun e tl ih i h=>?_) s1 0 ⟨J,h⟩) (bq J)
  ·obtain⟨X,h⟩:=h
   exact fY X J<|aG<|be<|bL<|co<|so h▸aW J J
  ·obtain⟨X,h⟩:=h
   refine fX X J<|aS<|aC<|ay J<|aX J<|aS<|bK h fun e1 q_e1 h=>?_
   refine kE (ts:=[_,_,_,_,_,_,_,_,_]) mixed J J
    ⟨hT J J,
    ⟨hT J J,
    ⟨j9 16 0 17 1 J J J (Ly fc bW J J J (fa X)),
    ⟨tY 2 bW J J,
    ⟨hT J J,
    ⟨hT J J,
    ⟨j9 20 4 21 5 J J J (Ly fc bW J J J q_e1),
    ⟨tY 6 bW J J,
    ⟨j9 19 3 23 7 J J J (jU (D J) (D J)),
    d⟩⟩⟩⟩⟩⟩⟩⟩⟩ ?_
   refine aG<|iY h J (fun h=>?_) (fun h=>?_)
   ·exact be<|bL<|co<|fJ<|aF<|fJ<|so h▸aW J J
   ·refine bG<|eu X hN J ?_;exact bm (aZ (ih (i+1) ⟨ej X,h⟩) (bq J))

def U1 s1 s2{R}(h:gC s1 s2=some R):dV a8 67 [eg (ia) s1,eg (ia) s2] (gA R):=by
 refine fb Tryz.func67 J<|be<|bL<|bt<|bp<|aQ J<|cM yO J<|aQ J<|cM yO J<|Q (jU (D J) (D J))<|di h J (fun h=>?_) (fun h=>?_)
 ·exact be<|bL<|co<|aF<|so h▸aW J J
 ·refine jv<|bp<|aQ J<|cM yO J<|Q (ca hI)<|bt<|aC<|bD (k:=11) J fun hN=>b7 ?_;refine aZ (iu (bx:=fun ls i=>(s1.drop i=ls)/\fO s2 ls i=some R) (Of:=fun _ i=>[]) (Gf:=fun _ i=>[(0,eg (ia) s1),(1,eg (ia) s2),(12,oA s1),(13,bw (i:Int))]) (fun i h=>?_) (fun e tl ih i h=>?_) s1 0 ⟨J,h⟩) (bq J)
  ·obtain⟨X,h⟩:=h
   exact fY X J<|aG<|be<|bL<|co<|so h▸aW J J
  ·obtain⟨X,h⟩:=h
   refine fX X J<|aS<|aC<|ay J<|aX J<|aS<|bK h fun e1 q_e1 h=>?_
   refine kE (ts:=[_,_,_,_,_,_,_,_,_]) mixed J J
    ⟨hT J J,
    ⟨hT J J,
    ⟨j9 16 0 17 1 J J J (Ly yO r0 J J J (fa X)),
    ⟨tY 2 r0 J J,
    ⟨hT J J,
    ⟨hT J J,
    ⟨j9 20 4 21 5 J J J (Ly yO r0 J J J q_e1),
    ⟨tY 6 r0 J J,
    ⟨j9 19 3 23 7 J J J (w7 Xj (D J) (D J)),
    d⟩⟩⟩⟩⟩⟩⟩⟩⟩ ?_
   refine aG<|iY h J (fun h=>?_) (fun h=>?_)
   ·exact be<|bL<|co<|fJ<|aF<|fJ<|so h▸aW J J
   ·refine bG<|eu X hN J ?_;exact bm (aZ (ih (i+1) ⟨ej X,h⟩) (bq J))

def SL s1 s2{R}(h:fy s1 s2=some R):dV a8 119 [eg (bC) s1,eg (bC) s2] (gA R):=by
 refine fb Tryz.func119 J<|be<|bL<|bt<|bp<|aQ J<|cM tU J<|aQ J<|cM tU J<|Q (jU (D J) (D J))<|di h J (fun h=>?_) (fun h=>?_)
 ·exact be<|bL<|co<|aF<|so h▸aW J J
 ·refine jv<|bp<|aQ J<|cM tU J<|Q (ca hI)<|bt<|aC<|bD (k:=11) J fun hN=>b7 ?_;refine aZ (iu (bx:=fun ls i=>(s1.drop i=ls)/\eG s2 ls i=some R) (Of:=fun _ i=>[]) (Gf:=fun _ i=>[(0,eg (bC) s1),(1,eg (bC) s2),(12,oA s1),(13,bw (i:Int))]) (fun i h=>?_) (fun e tl ih i h=>?_) s1 0 ⟨J,h⟩) (bq J)
  ·obtain⟨X,h⟩:=h
   exact fY X J<|aG<|be<|bL<|co<|so h▸aW J J
  ·obtain⟨X,h⟩:=h
   refine fX X J<|aS<|aC<|ay J<|aX J<|aS<|bK h fun e1 q_e1 h=>?_
   refine kE (ts:=[_,_,_,_,_,_,_,_,_]) mixed J J
    ⟨hT J J,
    ⟨hT J J,
    ⟨j9 16 0 17 1 J J J (Ly tU jL J J J (fa X)),
    ⟨tY 2 jL J J,
    ⟨hT J J,
    ⟨hT J J,
    ⟨j9 20 4 21 5 J J J (Ly tU jL J J J q_e1),
    ⟨tY 6 jL J J,
    ⟨j9 19 3 23 7 J J J (w7 Xi (D J) (D J)),
    d⟩⟩⟩⟩⟩⟩⟩⟩⟩ ?_
   refine aG<|iY h J (fun h=>?_) (fun h=>?_)
   ·exact be<|bL<|co<|fJ<|aF<|fJ<|so h▸aW J J
   ·refine bG<|eu X hN J ?_;exact bm (aZ (ih (i+1) ⟨ej X,h⟩) (bq J))

def KJ a1 b{R}(h:rL a1 b=some R):dV a8 69 [tD cY a1,tD cY b] (gA R):=by
 exact fb Tryz.func69 J<|be<|fv J<|fv J<|bL<|bt<|be<|bI ss lW Cn J<|bI ss lW Cn J<|iI h YJ (SL _ _) (ez J) fun r h=>bk J<|so h▸aW J J

def U0 p q{R}(h:oH p q=some R):dV a8 68 [tD fK p,tD fK q] (gA R):=by
 refine fb Tryz.func68 J<|be<|fv J<|fv J<|bL<|bt<|be<|bI oe lX bW J<|bI oe lX bW J<|Q (dW (D J) (D J))<|aQ J<|bK h fun t q_t h=>ai J (cq tg q0 J J)<|ai J (ck lL J J)<|ai J (cq tg q0 J J)<|ai J (ck lL J J) ?_
 obtain⟨r,h1t,h0t⟩:=og q_t
 have q_rg:=fun W=>(h1t W).1
 exact ai J (fun V=>dx VR (KJ _ _ (q_rg V)) ⟨(bJ J V),(bJ J V),d⟩)<|Q (cR (D J) (fun W=>(bJ J W)) (fun W=>(h1t W).2) h0t)<|bk J<|so h▸aW J J

def UZ s1 s2 eq{R}(h:dg s1 s2 eq=some R):dV a8 70 [eg (fK) s1,eg (fK) s2,(kU a8 Rc oR (fun(x:fI×fI)=>eq x.1 x.2))] (gA R):=by
 refine fb Tryz.func70 J<|be<|bL<|bt<|bp<|aQ J<|cM q9 J<|aQ J<|cM q9 J<|Q (jU (D J) (D J))<|di h J (fun h=>?_) (fun h=>?_)
 ·exact be<|bL<|co<|aF<|so h▸aW J J
 ·refine jv<|bp<|aQ J<|cM q9 J<|Q (ca hI)<|bt<|aC<|bD (k:=15) J fun hN=>b7 ?_;refine aZ (iu (bx:=fun ls i=>(s1.drop i=ls)/\cX s2 eq ls i=some R) (Of:=fun _ i=>[]) (Gf:=fun _ i=>[(1,eg (fK) s2),(2,(kU a8 Rc oR (fun(x:fI×fI)=>eq x.1 x.2))),(15,eg (fK) s1),(16,oA s1),(17,bw (i:Int))]) (fun i h=>?_) (fun e tl ih i h=>?_) s1 0 ⟨J,h⟩) (bq J)
  ·obtain⟨X,h⟩:=h
   exact fY X J<|aG<|be<|bL<|co<|so h▸aW J J
  ·obtain⟨X,h⟩:=h
   refine fX X J<|aS<|aC<|ay J<|gq q9 kT J (fa X)<|bz kT uC J fun b=>gB J<|bu kT ax J<|bh 8 J<|bt<|aS ?_;refine av<|aQ J<|aQ J<|bK h fun e1 q_e1 h=>gq q9 kT J q_e1<|bz kT uC J fun b1=>bu kT ax J<|bh 9 J<|bt<|ay J<|fP kT J<|fP kT J<|bK h fun r q_r h=>Q (kX (args:=Rc) (res:=y0) (f:=(fun(x:fI×fI)=>eq x.1 x.2)) (x:=((e,e1):fI×fI)) (D J) q_r ⟨(D J),(D J),d⟩)<|Q (gg (D J))<|di h J (fun h=>?_) (fun h=>?_)
   ·exact be<|bL<|co<|fJ<|aF<|fJ<|so h▸aW J J
   ·refine bG<|eu X hN J ?_;exact bm (aZ (ih (i+1) ⟨ej X,h⟩) (bq J))

end Go.Proofs.YtdohlidddcgfjaaGreat

