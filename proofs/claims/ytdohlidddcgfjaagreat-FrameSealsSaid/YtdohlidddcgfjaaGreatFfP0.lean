/- bS of this claim: P0. -/
import Derived.Test.YtdohlidddcgfjaaGreatFfT
import Derived.Test.YtdohlidddcgfjaaGreatFfF
set_option linter.all false
namespace Go.Proofs.YtdohlidddcgfjaaGreat
open Go
abbrev ip:=(⟨(0:Int),(0:Int),(0:Int),[]⟩:am)
abbrev xg:=(⟨[],false,(0:Int)⟩:bI)
abbrev rn:=(⟨(0:Int),(0:Int),(0:Int),(0:Int),xg⟩:aI)
abbrev cB:=rH iw []
abbrev bP:=rI .i64
abbrev PE:=fun(mc:aT) (mx:aa)=>(fi mc mx).map fun mr=>((),mr)
abbrev XK:=fun(mc:aT) (mx:aa)=>(iO mc mx).map fun mr=>((),mr)
abbrev XM:=fun(mc:aT) (mx:aa)=>(gQ mc mx).map fun mr=>((),mr)
abbrev HX:=fun(mc:aT) (mx:aa)=>(ed mc mx).map fun mr=>((),mr)
abbrev XN:=fun(mc:aT) (mx:aa)=>(gv mc mx).map fun mr=>((),mr)
abbrev XL:=fun(mc:aT) (mx:aa)=>(im mc mx).map fun mr=>((),mr)
abbrev zk4:=gC (gC (gC (gC (gC (gC (gC (gC (gC ([]:List (Int×(aT->aa->Option (Unit×aT)))) (1:Int) PE) (9:Int) PE) (2:Int) XK) (3:Int) XM) (4:Int) HX) (10:Int) HX) (11:Int) HX) (5:Int) XN) (8:Int) XL
abbrev p9:=fun(x:Bool)=>gR x
abbrev mY:=(⟨[]⟩:aO)
abbrev GA:=(⟨[],(0:Int),(0:Int),[]⟩:dp)
abbrev Ec:=fun(x:aa)=>[tD bl x]
abbrev vn:=(⟨[]⟩:cV)
abbrev Ry:=fun(x:aa×aa)=>[tD bl x.1,tD bl x.2]
abbrev tz:=fun(x:Unit)=>tT []
abbrev HW:=(⟨(0:Int),(0:Int),(0:Int),(0:Int),ip⟩:ap)
abbrev mj:=ga bg
abbrev rm:=([]:List Int)
abbrev AN:=fun(x:Bool)=>tD rB x
abbrev Uz:=(⟨(0:Int),(0:Int),(0:Int),(0:Int),[],false,mY,[],[],[],[],(0:Int)⟩:aa)
noncomputable abbrev Rx:=lK aY Ry p9 (fun(x:aa×aa)=>oA x.1 x.2)
abbrev od:=rI .u32
abbrev mi:=rI .u64
abbrev Uy:=(⟨(0:Int),(0:Int)⟩:me)
abbrev Ux:=fun(x:dp×dp)=>[tD cJ x.1,tD cJ x.2]
abbrev Uw:=fun(x:ap×(List Int))=>[tD bC x.1,pF x.2]
abbrev Uv:=fun(x:eY×eY)=>[tD fN x.1,tD fN x.2]
abbrev JJ:=fun(x:Int)=>[bB x]
abbrev Rw:=fun(x:am)=>[tD bg x]
abbrev zK:=ga bP
abbrev XJ:=fun(x:ap×(List Int))=>[tD bC x.1,tD zK x.2]
abbrev Uu:=fun(x:Int×Int)=>tT [bB x.1,bB x.2]
abbrev Rv:=fun(x:ku)=>[tD iE x]
abbrev XI:=fun(x:aO×aO)=>[tD cW x.1,tD cW x.2]
abbrev FW:=nQ od 256
abbrev Ru:=fun(x:Int)=>[tD bP x]
abbrev XH:=fun(x:Int×Int)=>tT [tD bP x.1,tD bP x.2]
abbrev HV:=av none 0 0
abbrev XG:=2^(min (Int.toNat (8:Int)) IntKind.u32.bits)
abbrev XF:=fun(x:(List am))=>[eg (bg) x]
abbrev Di:=(-1:Int)
abbrev JI:=ga (rI .u8)
abbrev Ut:=(⟨Uy,[]⟩:af)
abbrev XE:=fun(x:Int)=>nF x
abbrev HU:=rI .u16
abbrev PD:=(81,tT [])
set_option maxRecDepth 100000

def Wf{R}(h:B5=some R):dR aY 112 [] (tD FW R):=by
 refine fc Tryz.func112 J<|bc<|bv (r:=FW) (x:=(List.replicate 256 (0:Int))) GH (fun _=>BK (r:=od) 256 (fun _=>J) _) J fun b=>br<|bc<|bL h fun e q_e h=>s (jK HQ re (.head _) (D J) hI q_e)<|bL h fun ar q_ar h=>yY re J q_e (so q_ar) (D J) hI<|br<|bm<|cO<|br<|aA<|bN ?_;refine aV (DW (tV:=fun n1 n out=>sR n1 n out=some R) (Of:=fun n out=>[Q FW 152 b out]) (Gf:=fun n out=>[(0,Z (M b 0)),(1,bB n)]) (fun n out h=>nn h) (fun n1 ih n out h=>?_) fq (64:Int) ar h) (bp J);refine eE<|bm<|aR J<|s (gm (D J) hI)<|c0 h J (fun h=>?_) (fun h=>?_)
 ·refine jf<|aU<|aA<|aB J<|s (EW hI (D J))<|bL h fun e1 q_e1 h=>s (jK HQ re (.head _) (D J) (D J) q_e1)<|s (Bc re J J (.head _) q_e1 (D J))<|a8 J<|aB J<|aR J<|s (Cg (D J) hI (by decide))<|bL h fun e2 q_e2 h=>s (jK HQ re (.head _) (D J) (D J) q_e2)<|bL h fun ar1 q_ar1 h=>yY re J q_e2 (so q_ar1) (D J) (D J)<|aX ?_;refine aG<|aB J<|s (Yk (D J) hI)<|bU J<|c0 h J (fun h=>?_) (fun h=>?_)
  ·refine ax<|aR J<|bL h fun e3 q_e3 h=>s (jK HQ re (.head _) (D J) (D J) q_e3)<|s (Bc re J J (.head _) q_e3 (D J))<|s (EV (D J) hI)<|s (jK HQ re (.head _) (D J) (D J) q_e3)<|bL h fun ar2 q_ar2 h=>yY re J q_e3 (so q_ar2) (D J) (D J)<|aX<|aF<|aG<|ax<|aR J<|s (SI (D J) hI (by decide))<|ia J<|aX ?_;exact bj (aV (ih (IntKind.i64.wrap ((n).tdiv (2:Int))) ar2 h) (bp J))
  ·refine bE<|aF<|aG<|ax<|aR J<|s (SI (D J) hI (by decide))<|ia J<|aX ?_;exact bj (aV (ih (IntKind.i64.wrap ((n).tdiv (2:Int))) ar1 h) (bp J))
 ·refine dG<|aq<|aq<|bW<|aG<|bm<|cO<|br<|aA<|bN ?_;refine aV (DW (tV:=fun n3 n2 out1=>sQ n3 n2 out1=some R) (Of:=fun n2 out1=>[Q FW 152 b out1]) (Gf:=fun n2 out1=>[(0,Z (M b 0)),(3,bB n2)]) (fun n2 out1 h=>nn h) (fun n3 ih1 n2 out1 h=>?_) fq (2:Int) out h) (bp J);refine eE<|bm<|aR J<|s (jd (D J) hI)<|c0 h J (fun h=>?_) (fun h=>?_)
  ·refine jf<|aU<|aA<|aB J<|s (bR hI)<|br<|aA<|bN ?_;refine aV (DW (tV:=fun n4 x out2=>v8 (sQ n3) n2 n4 x out2=some R) (Of:=fun x out2=>[Q FW 152 b out2]) (Gf:=fun x out2=>[(0,Z (M b 0)),(3,bB n2),(30,bB n2),(31,bB x)]) (fun x out2 h=>nn h) (fun n4 ih2 x out2 h=>?_) fq (0:Int) out1 h) (bp J);refine eE<|bc<|ol J<|br<|aU<|jE h J (fun h=>?_) (fun h=>?_)
   ·refine jf<|aU<|aA<|aB J<|a8 J<|bL h fun e4 q_e4 h=>bL h fun e5 q_e5 h=>bL h fun e6 q_e6 h=>?_
    refine sx 11 (ts:=[bB n2,bB x,bB (IntKind.i64.wrap (n2+x)),bB n2,Z (M b (n2.toNat*1)),tD od e4,bB x,Z (M b (x.toNat*1)),tD od e5,tD od (oV .xor .u32 e4 e5),Z (M b ((IntKind.i64.wrap (n2+x)).toNat*1))]) mixed J J J
     ⟨iH J J,
     ⟨iH J J,
     ⟨kV 34 0 35 1 J J J (fY (D J) (D J)),
     ⟨iH J J,
     ⟨UA 0 37 3 J J J (jK HQ re (.head _) (D J) (D J) q_e4),
     ⟨gE 38 4 J J (Bc re J J (.head _) q_e4 (D J)),
     ⟨iH J J,
     ⟨UA 0 40 6 J J J (jK HQ re (.head _) (D J) (D J) q_e5),
     ⟨gE 41 7 J J (Bc re J J (.head _) q_e5 (D J)),
     ⟨kV 39 5 42 8 J J J (EV (D J) (D J)),
     ⟨UA 0 36 2 J J J (jK HQ re (.head _) (D J) (D J) q_e6),
     aM⟩⟩⟩⟩⟩⟩⟩⟩⟩⟩⟩ ?_
    refine bL h fun ar3 q_ar3 h=>yY re J q_e6 (so q_ar3) (D J) (D J)<|aX<|aF<|aG<|ax<|s (fY (D J) hI)<|aR J<|aX ?_;exact bj (aV (ih2 (IntKind.i64.wrap (x+(1:Int))) ar3 h) (bp J))
   ·refine dG<|aq<|aq<|bW<|aF<|aG<|ax<|aR J<|s (EW (D J) hI)<|ia J<|aX ?_;exact bj (aV (ih1 (IntKind.i64.wrap (n2*(2:Int))) out2 h) (bp J))
  ·exact dG<|aq<|aq<|bW<|aG<|bc<|s (aE GH J J bo (.head _) (D J))<|bw GH aw J<|bQ<|fJ 0 J<|so h▸LR J GH J J J

def Zu(b:Nat) register w3 c{R}(h:uw register w3 c=some R):bk aY 113 [tD (rI .u8) c,Z (M b 0),dk FW w3] [Q od 25 b register] (fun i:OI=>tT []) (fun i=>[Q od 25 b R]):=by
 refine bk.of Tryz.func113 J J J fun w0 S0=>bL h fun e q_e h=>?_
 refine sx 9 (ts:=[tD od register,tD od ((register).fdiv XG),tD od register,tD (rI .u8) (IntKind.u8.wrap register),tD (rI .u8) c,tD (rI .u8) (oV .xor .u8 (IntKind.u8.wrap register) c),dk od e,tD od e,tD od (oV .xor .u32 ((register).fdiv XG) e)]) mixed J J J
  ⟨LZ 1 J J (aE re J J bo (.head _) (D J)),
  ⟨gE 4 0 J J (Cg (D J) hI (by decide)),
  ⟨LZ 1 J J (aE re J J bo (.head _) (D J)),
  ⟨gE 6 2 J J (fH D7 uZ (D J)),
  ⟨iH J J,
  ⟨kV 7 3 8 4 J J J (EV (D J) (D J)),
  ⟨UA 2 9 5 J J J (Ga HQ re J (D J) (D J) q_e),
  ⟨vo 6 re J J,
  ⟨kV 5 1 11 7 J J J (EV (D J) (D J)),
  aM⟩⟩⟩⟩⟩⟩⟩⟩⟩ ?_
 exact bw re aw J<|aX<|so h▸eV J (oi none 0) J J

def YM b{R}(h:yG b=some R):dR aY 54 [eg ((rI .u8)) b] (tD od R):=by
 refine fc Tryz.func54 J<|bc<|cO<|br<|bc<|iq h acL Wf trivial fun r h=>bv (r:=FW) (x:=(List.replicate 256 (0:Int))) GH (fun _=>BK (r:=od) 256 (fun _=>J) _) J fun b1=>bw GH aw J<|be 3 J<|br<|bc<|bv (r:=od) (x:=(0:Int)) re (fun _=>J) J fun b2=>ej re J aw J (D J) hI<|br<|bc<|s (vz (cts:=[Z (M b2 0),dk FW r]) (caps:=[.tmp 4,.tmp 3]) ⟨(D J),(D J),aM⟩) ?_;refine a8 J<|bm<|aR J<|cr oh J<|s (bR hI)<|br<|aA<|bt (k:=10) J fun hN=>bN ?_;refine aV (yA (tV:=fun ls i register=>(b.drop i=ls)/\o9 r ls register=some R) (Of:=fun _ i register=>[Q od 25 b2 register]) (Gf:=fun _ i register=>[(4,Z (M b2 0)),(5,tC 113 [Z (M b2 0),dk FW r]),(10,eg ((rI .u8)) b),(11,nL b),(12,bB (i:Int))]) (fun i register h=>?_) (fun e tl ih i register h=>?_) b 0 (4294967295:Int) ⟨J,h⟩) (bp J)
 ·obtain⟨V,h⟩:=h
  exact fv V J<|aG<|bc<|s (aE re J J bo (.head _) (D J))<|s (Yj (D J))<|bq J<|aZ<|so h▸aN J J
 ·obtain⟨V,h⟩:=h
  refine ft V J<|aU<|aA<|bc<|fV oh qL J (eK V)<|a8 J<|ax<|aR J<|aR J<|bL h fun r1 q_r1 h=>aL (tq (xs:=[.tmp 17]) (ts:=[tD (rI .u8) e]) (cts:=[Z (M b2 0),dk FW r]) (post:=fun i=>[Q od 25 b2 r1]) [Q od 25 b2 register] [] J acK (Zu b2 _ _ _ q_r1) (D J) ⟨(D J),aM⟩ (fun _=>J)) J fun i1=>?_;refine(show RG _ _ _ _ [_] _ from ?_);refine aX<|d6 V hN J ?_;exact bj (aV (ih (i+1) r1 ⟨dZ V,h⟩) (bp J))

def OY b{R}(h:oU b=some R):jD aY 55 [eg ((rI .u8)) b] false (rI .u8) 5 R:=by
 refine jD.of Tryz.func55 J J J fun w0 S0=>bc<|cU false (rI .u8) 5<|s (cg xj)<|br<|bm<|aR J<|LD oh (D J) J fun isnil hisnil=>br<|q9 (D J) (fun hc=>?_) (fun hc=>?_)
 ·have V:=hisnil hc
  have h:some rm=some R:=by simpa [oU,app,V] using h
  exact bc<|cU false (rI .u8) 5<|s (cg xj)<|bQ<|au<|so h▸ni J J
 ·exact jf<|bc<|m6 (r:=(rI .u8)) (ys:=rm) (xs:=[]) oh qL J J J J J trivial J fun l c=>aR J<|bL h fun x q_x h=>cY qL J J J J oh J J (D J) (D J) q_x fun l1 c1=>bq J<|so h▸ni J J
def DM b{R}(h:lV b=some R):jD aY 27 [eg ((rI .u8)) b] false (rI .u8) 5 R:=by
 refine jD.of Tryz.func27 J J J fun w0 S0=>bc<|cU false (rI .u8) 5<|s (cg xj)<|br<|aB J<|iq h adx (YM _) (ez J) fun r h=>a8 J<|aB J<|tE h abo (OY _) (ez J) fun r1 h l c=>a8 J<|aU ?_;refine bc<|s (bR hI)<|br<|aA<|bN<|gN<|ta ?_;refine aV (Pw (tV:=fun k i out l1 c1 n=>(4-i=k)/\nv k out n=some R) (Of:=fun _ i out l1 c1 n=>[dr (rI .u8) 5 l1 c1 out]) (Gf:=fun _ i out l1 c1 n=>[(3,tD od n),(4,sa l1 c1 out),(9,bB (i:Int))]) (fun i out l1 c1 n h=>?_) (fun k1 ih i out l1 c1 n h=>?_) 4 0 r1 l c r ⟨J,h⟩) (bp J)
 ·obtain⟨V,h⟩:=h
  exact eE<|bc<|s (jd (D J) hI)<|br<|aU<|BV (D J) (aaL V)<|dG<|aq<|aq<|bW<|aG<|aB J<|bq J<|so h▸ni J J
 ·obtain⟨V,h⟩:=h
  refine eE<|bc<|s (jd (D J) hI)<|br<|aU<|BU (D J) (aaK V)<|jf<|aU<|aA<|aB J<|aR J<|s (fH D7 uZ (D J))<|s (ba (r:=(rI .u8)) (ys:=[(IntKind.u8.wrap n)]) (xs:=[.tmp 13]) oh qL J J J J J ⟨(D J),aM⟩)<|bL h fun out1 q_out1 h=>cY qL J J J J oh J J (D J) (D J) q_out1 fun l2 c2=>a8 J<|ax ?_;refine aR J<|s (Cg (D J) hI (by decide))<|ia J<|aX<|aF<|aG<|ax<|s (DD (Yo V (by decide)) (D J) hI)<|aR J<|aX ?_;exact bj (aV (ih (i+1) out1 l2 c2 ((n).fdiv XG) ⟨Yn V,h⟩) (bp J))
def YL n{R}(h:nF n=some R):dR aY 56 [bB n] (gR R):=by
 exact fc Tryz.func56 J<|bc<|bz<|br<|aB J<|s (iN (D J) hI)<|aR J<|ai J (dy J)<|ai J (fun K=>hX (bM J K) hI)<|de J<|bq J<|so h▸aN J J

def Tl s1 s2 eq{R}(h:cm s1 s2 eq=some R):dR aY 62 [eg (mj) s1,eg (mj) s2,(lK aY (fun(x:(List am)×(List am))=>[eg (bg) x.1,eg (bg) x.2]) p9 (fun(x:(List am)×(List am))=>eq x.1 x.2))] (gR R):=by
 refine fc Tryz.func62 J<|bc<|bz<|br<|bm<|aR J<|cr vm J<|aR J<|cr vm J<|s (kJ (D J) (D J))<|c0 h J (fun h=>?_) (fun h=>?_)
 ·exact bc<|bz<|bQ<|au<|so h▸aN J J
 ·refine jf<|bm<|aR J<|cr vm J<|s (bR hI)<|br<|aA<|bt (k:=15) J fun hN=>bN ?_;refine aV (fC (tV:=fun ls i=>(s1.drop i=ls)/\b8 s2 eq ls i=some R) (Of:=fun _ i=>[]) (Gf:=fun _ i=>[(1,eg (mj) s2),(2,(lK aY (fun(x:(List am)×(List am))=>[eg (bg) x.1,eg (bg) x.2]) p9 (fun(x:(List am)×(List am))=>eq x.1 x.2))),(15,eg (mj) s1),(16,nL s1),(17,bB (i:Int))]) (fun i h=>?_) (fun e tl ih i h=>?_) s1 0 ⟨J,h⟩) (bp J)
  ·obtain⟨V,h⟩:=h
   exact fv V J<|aG<|bc<|bz<|bQ<|so h▸aN J J
  ·obtain⟨V,h⟩:=h
   refine ft V J<|aU<|aA<|aB J<|fV vm CT J (eK V)<|ia J<|a8 J<|aB J ?_;refine aR J<|bL h fun e1 q_e1 h=>fV vm CT J q_e1<|a8 J<|aB J<|aR J<|aR J<|bL h fun r q_r h=>s (lM (args:=(fun(x:(List am)×(List am))=>[tD mj x.1,tD mj x.2])) (res:=AN) (f:=(fun(x:(List am)×(List am))=>eq x.1 x.2)) (x:=((e,e1):(List am)×(List am))) (D J) q_r ⟨(D J),(D J),aM⟩)<|s (gO (D J))<|c0 h J (fun h=>?_) (fun h=>?_)
   ·exact bc<|bz<|bQ<|eu<|au<|eu<|so h▸aN J J
   ·refine bE<|d6 V hN J ?_;exact bj (aV (ih (i+1) ⟨dZ V,h⟩) (bp J))

def Tk s1 s2{R}(h:d5 s1 s2=some R):dR aY 64 [eg (bg) s1,eg (bg) s2] (gR R):=by
 refine fc Tryz.func64 J<|bc<|bz<|br<|bm<|aR J<|cr AA J<|aR J<|cr AA J<|s (kJ (D J) (D J))<|c0 h J (fun h=>?_) (fun h=>?_)
 ·exact bc<|bz<|bQ<|au<|so h▸aN J J
 ·refine jf<|bm<|aR J<|cr AA J<|s (bR hI)<|br<|aA<|bt (k:=11) J fun hN=>bN ?_;refine aV (fC (tV:=fun ls i=>(s1.drop i=ls)/\dH s2 ls i=some R) (Of:=fun _ i=>[]) (Gf:=fun _ i=>[(0,eg (bg) s1),(1,eg (bg) s2),(12,nL s1),(13,bB (i:Int))]) (fun i h=>?_) (fun e tl ih i h=>?_) s1 0 ⟨J,h⟩) (bp J)
  ·obtain⟨V,h⟩:=h
   exact fv V J<|aG<|bc<|bz<|bQ<|so h▸aN J J
  ·obtain⟨V,h⟩:=h
   refine ft V J<|aU<|aA<|aB J<|a8 J<|aU<|bL h fun e1 q_e1 h=>?_
   refine lx (ts:=[_,_,_,_,_,_,_,_,_]) mixed J J
    ⟨iH J J,
    ⟨iH J J,
    ⟨kV 16 0 17 1 J J J (N1 AA di J J J (eK V)),
    ⟨vo 2 di J J,
    ⟨iH J J,
    ⟨iH J J,
    ⟨kV 20 4 21 5 J J J (N1 AA di J J J q_e1),
    ⟨vo 6 di J J,
    ⟨kV 19 3 23 7 J J J (yQ O7 (D J) (D J)),
    aM⟩⟩⟩⟩⟩⟩⟩⟩⟩ ?_
   refine aG<|jE h J (fun h=>?_) (fun h=>?_)
   ·exact bc<|bz<|bQ<|eu<|au<|eu<|so h▸aN J J
   ·refine bE<|d6 V hN J ?_;exact bj (aV (ih (i+1) ⟨dZ V,h⟩) (bp J))

def YI p y{R}(h:qf p y=some R):dR aY 63 [eg (bg) p,eg (bg) y] (gR R):=by
 exact fc Tryz.func63 J<|bc<|bz<|br<|aB J<|aR J<|iq h abm (Tk _ _) (ez J) fun r h=>bq J<|so h▸aN J J

def YR a1 b{R}(h:po a1 b=some R):dR aY 31 [tD cz a1,tD cz b] (gR R):=by
 refine fc Tryz.func31 J<|bc<|fx J<|fx J<|bz<|br<|bc<|sf oT fz J<|bG wC oR Ij J<|sf oT fz J<|bG wC oR Ij J<|iq h abn (Tl _ _ _) ⟨(D J),(D J),(Ta ads fun x y h=>YI _ _ h),aM⟩ fun r h=>a8 J<|bc<|sf Fm sq J ?_;refine fL b9 J<|bG Fm sq b9 J<|s (eh (D J) (D J))<|aR J<|ai J (ci IU uM J J)<|ai J (ce re J J)<|ai J (ci IU uM J J)<|ai J (ce re J J)<|ai J (fun K=>eh (bM J K) (bM J K))<|de J<|aR J<|ai J (ci Ak oL J J)<|ai J (ce pN J J)<|ai J (ci Ak oL J J)<|ai J (ce pN J J)<|ai J (fun K=>eh (bM J K) (bM J K))<|de J<|aR J<|ai J (ci Aj qz J J)<|ai J (ce pN J J)<|ai J (ci Aj qz J J)<|ai J (ce pN J J)<|ai J (fun K=>eh (bM J K) (bM J K)) ?_;refine de J<|aR J<|ai J (ci oT fz J J)<|ai J (fun K=>gK wB J oQ J (bM J K))<|ai J (ce Aw J J)<|ai J (ci oT fz J J)<|ai J (fun K=>gK wB J oQ J (bM J K))<|ai J (ce Aw J J)<|ai J (fun K=>IH JE (bM J K) (bM J K))<|de J<|aR J<|ai J (ci oT fz J J)<|ai J (fun K=>gK yn J qi J (bM J K))<|ai J (ce pN J J)<|ai J (ci oT fz J J)<|ai J (fun K=>gK yn J qi J (bM J K))<|ai J (ce pN J J)<|ai J (fun K=>eh (bM J K) (bM J K))<|de J<|aR J<|ai J (dy J)<|de J<|ia J<|aX ?_;exact aG<|rN<|so h▸aN J J

def Nf s1 s2{R}(h:iv s1 s2=some R):dR aY 66 [pF s1,pF s2] (gR R):=by
 refine fc Tryz.func66 J<|bc<|bz<|br<|bm<|aR J<|cr fD J<|aR J<|cr fD J<|s (kJ (D J) (D J))<|c0 h J (fun h=>?_) (fun h=>?_)
 ·exact bc<|bz<|bQ<|au<|so h▸aN J J
 ·refine jf<|bm<|aR J<|cr fD J<|s (bR hI)<|br<|aA<|bt (k:=11) J fun hN=>bN ?_;refine aV (fC (tV:=fun ls i=>(s1.drop i=ls)/\j7 s2 ls i=some R) (Of:=fun _ i=>[]) (Gf:=fun _ i=>[(0,pF s1),(1,pF s2),(12,nL s1),(13,bB (i:Int))]) (fun i h=>?_) (fun e tl ih i h=>?_) s1 0 ⟨J,h⟩) (bp J)
  ·obtain⟨V,h⟩:=h
   exact fv V J<|aG<|bc<|bz<|bQ<|so h▸aN J J
  ·obtain⟨V,h⟩:=h
   refine ft V J<|aU<|aA<|aB J<|a8 J<|aU<|bL h fun e1 q_e1 h=>?_
   refine lx (ts:=[_,_,_,_,_,_,_,_,_]) mixed J J
    ⟨iH J J,
    ⟨iH J J,
    ⟨kV 16 0 17 1 J J J (N1 fD b9 J J J (eK V)),
    ⟨vo 2 b9 J J,
    ⟨iH J J,
    ⟨iH J J,
    ⟨kV 20 4 21 5 J J J (N1 fD b9 J J J q_e1),
    ⟨vo 6 b9 J J,
    ⟨kV 19 3 23 7 J J J (kJ (D J) (D J)),
    aM⟩⟩⟩⟩⟩⟩⟩⟩⟩ ?_
   refine aG<|jE h J (fun h=>?_) (fun h=>?_)
   ·exact bc<|bz<|bQ<|eu<|au<|eu<|so h▸aN J J
   ·refine bE<|d6 V hN J ?_;exact bj (aV (ih (i+1) ⟨dZ V,h⟩) (bp J))

def YG s1 s2{R}(h:ib s1 s2=some R):dR aY 67 [eg (iE) s1,eg (iE) s2] (gR R):=by
 refine fc Tryz.func67 J<|bc<|bz<|br<|bm<|aR J<|cr y8 J<|aR J<|cr y8 J<|s (kJ (D J) (D J))<|c0 h J (fun h=>?_) (fun h=>?_)
 ·exact bc<|bz<|bQ<|au<|so h▸aN J J
 ·refine jf<|bm<|aR J<|cr y8 J<|s (bR hI)<|br<|aA<|bt (k:=11) J fun hN=>bN ?_;refine aV (fC (tV:=fun ls i=>(s1.drop i=ls)/\gr s2 ls i=some R) (Of:=fun _ i=>[]) (Gf:=fun _ i=>[(0,eg (iE) s1),(1,eg (iE) s2),(12,nL s1),(13,bB (i:Int))]) (fun i h=>?_) (fun e tl ih i h=>?_) s1 0 ⟨J,h⟩) (bp J)
  ·obtain⟨V,h⟩:=h
   exact fv V J<|aG<|bc<|bz<|bQ<|so h▸aN J J
  ·obtain⟨V,h⟩:=h
   refine ft V J<|aU<|aA<|aB J<|a8 J<|aU<|bL h fun e1 q_e1 h=>?_
   refine lx (ts:=[_,_,_,_,_,_,_,_,_]) mixed J J
    ⟨iH J J,
    ⟨iH J J,
    ⟨kV 16 0 17 1 J J J (N1 y8 tH J J J (eK V)),
    ⟨vo 2 tH J J,
    ⟨iH J J,
    ⟨iH J J,
    ⟨kV 20 4 21 5 J J J (N1 y8 tH J J J q_e1),
    ⟨vo 6 tH J J,
    ⟨kV 19 3 23 7 J J J (yQ abf (D J) (D J)),
    aM⟩⟩⟩⟩⟩⟩⟩⟩⟩ ?_
   refine aG<|jE h J (fun h=>?_) (fun h=>?_)
   ·exact bc<|bz<|bQ<|eu<|au<|eu<|so h▸aN J J
   ·refine bE<|d6 V hN J ?_;exact bj (aV (ih (i+1) ⟨dZ V,h⟩) (bp J))

def Wa s1 s2{R}(h:f7 s1 s2=some R):dR aY 119 [eg (bC) s1,eg (bC) s2] (gR R):=by
 refine fc Tryz.func119 J<|bc<|bz<|br<|bm<|aR J<|cr sK J<|aR J<|cr sK J<|s (kJ (D J) (D J))<|c0 h J (fun h=>?_) (fun h=>?_)
 ·exact bc<|bz<|bQ<|au<|so h▸aN J J
 ·refine jf<|bm<|aR J<|cr sK J<|s (bR hI)<|br<|aA<|bt (k:=11) J fun hN=>bN ?_;refine aV (fC (tV:=fun ls i=>(s1.drop i=ls)/\fe s2 ls i=some R) (Of:=fun _ i=>[]) (Gf:=fun _ i=>[(0,eg (bC) s1),(1,eg (bC) s2),(12,nL s1),(13,bB (i:Int))]) (fun i h=>?_) (fun e tl ih i h=>?_) s1 0 ⟨J,h⟩) (bp J)
  ·obtain⟨V,h⟩:=h
   exact fv V J<|aG<|bc<|bz<|bQ<|so h▸aN J J
  ·obtain⟨V,h⟩:=h
   refine ft V J<|aU<|aA<|aB J<|a8 J<|aU<|bL h fun e1 q_e1 h=>?_
   refine lx (ts:=[_,_,_,_,_,_,_,_,_]) mixed J J
    ⟨iH J J,
    ⟨iH J J,
    ⟨kV 16 0 17 1 J J J (N1 sK jC J J J (eK V)),
    ⟨vo 2 jC J J,
    ⟨iH J J,
    ⟨iH J J,
    ⟨kV 20 4 21 5 J J J (N1 sK jC J J J q_e1),
    ⟨vo 6 jC J J,
    ⟨kV 19 3 23 7 J J J (yQ abe (D J) (D J)),
    aM⟩⟩⟩⟩⟩⟩⟩⟩⟩ ?_
   refine aG<|jE h J (fun h=>?_) (fun h=>?_)
   ·exact bc<|bz<|bQ<|eu<|au<|eu<|so h▸aN J J
   ·refine bE<|d6 V hN J ?_;exact bj (aV (ih (i+1) ⟨dZ V,h⟩) (bp J))

def Nc a1 b{R}(h:tp a1 b=some R):dR aY 69 [tD cW a1,tD cW b] (gR R):=by
 exact fc Tryz.func69 J<|bc<|fx J<|fx J<|bz<|br<|bc<|bG rF kY B2 J<|bG rF kY B2 J<|iq h acG (Wa _ _) (ez J) fun r h=>bq J<|so h▸aN J J

def YF p q{R}(h:pQ p q=some R):dR aY 68 [tD fN p,tD fN q] (gR R):=by
 refine fc Tryz.func68 J<|bc<|fx J<|fx J<|bz<|br<|bc<|bG px mR b9 J<|bG px mR b9 J<|s (eh (D J) (D J))<|aR J<|bL h fun t q_t h=>ai J (ci s5 q0 J J)<|ai J (ce lc J J)<|ai J (ci s5 q0 J J)<|ai J (ce lc J J) ?_
 obtain⟨r,h1t,h0t⟩:=og q_t
 have q_rg:=fun H=>(h1t H).1
 exact ai J (fun K=>dz ZG (Nc _ _ (q_rg K)) ⟨(bM J K),(bM J K),aM⟩)<|s (dj (D J) (fun H=>(bM J H)) (fun H=>(h1t H).2) h0t)<|bq J<|so h▸aN J J

def YE s1 s2 eq{R}(h:dv s1 s2 eq=some R):dR aY 70 [eg (fN) s1,eg (fN) s2,(lK aY Uv p9 (fun(x:eY×eY)=>eq x.1 x.2))] (gR R):=by
 refine fc Tryz.func70 J<|bc<|bz<|br<|bm<|aR J<|cr qG J<|aR J<|cr qG J<|s (kJ (D J) (D J))<|c0 h J (fun h=>?_) (fun h=>?_)
 ·exact bc<|bz<|bQ<|au<|so h▸aN J J
 ·refine jf<|bm<|aR J<|cr qG J<|s (bR hI)<|br<|aA<|bt (k:=15) J fun hN=>bN ?_;refine aV (fC (tV:=fun ls i=>(s1.drop i=ls)/\dg s2 eq ls i=some R) (Of:=fun _ i=>[]) (Gf:=fun _ i=>[(1,eg (fN) s2),(2,(lK aY Uv p9 (fun(x:eY×eY)=>eq x.1 x.2))),(15,eg (fN) s1),(16,nL s1),(17,bB (i:Int))]) (fun i h=>?_) (fun e tl ih i h=>?_) s1 0 ⟨J,h⟩) (bp J)
  ·obtain⟨V,h⟩:=h
   exact fv V J<|aG<|bc<|bz<|bQ<|so h▸aN J J
  ·obtain⟨V,h⟩:=h
   refine ft V J<|aU<|aA<|aB J<|fV qG kR J (eK V)<|bv kR u0 J fun b=>ia J<|bw kR aw J<|be 8 J<|br<|aU ?_;refine ax<|aR J<|aR J<|bL h fun e1 q_e1 h=>fV qG kR J q_e1<|bv kR u0 J fun b1=>bw kR aw J<|be 9 J<|br<|aB J<|fL kR J<|fL kR J<|bL h fun r q_r h=>s (lM (args:=Uv) (res:=AN) (f:=(fun(x:eY×eY)=>eq x.1 x.2)) (x:=((e,e1):eY×eY)) (D J) q_r ⟨(D J),(D J),aM⟩)<|s (gO (D J))<|c0 h J (fun h=>?_) (fun h=>?_)
   ·exact bc<|bz<|bQ<|eu<|au<|eu<|so h▸aN J J
   ·refine bE<|d6 V hN J ?_;exact bj (aV (ih (i+1) ⟨dZ V,h⟩) (bp J))

end Go.Proofs.YtdohlidddcgfjaaGreat

