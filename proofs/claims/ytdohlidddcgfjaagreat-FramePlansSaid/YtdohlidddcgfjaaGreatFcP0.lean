/- cE of this claim: P0. -/
import Derived.Test.YtdohlidddcgfjaaGreatFcT
import Derived.Test.YtdohlidddcgfjaaGreatFcF
set_option linter.all false
namespace Go.Proofs.YtdohlidddcgfjaaGreat
open Go
abbrev iF:=(⟨(0:Int),(0:Int),(0:Int),[]⟩:aC)
abbrev dy:=rH iW []
abbrev bV:=rI .i64
abbrev Oj:=fun(mc:bg) (mx:tV)=>(fZ mc mx).map fun mr=>((),mr)
abbrev Wg:=fun(mc:bg) (mx:tV)=>(jn mc mx).map fun mr=>((),mr)
abbrev Wi:=fun(mc:bg) (mx:tV)=>(im mc mx).map fun mr=>((),mr)
abbrev HD:=fun(mc:bg) (mx:tV)=>(eT mc mx).map fun mr=>((),mr)
abbrev Wj:=fun(mc:bg) (mx:tV)=>(g9 mc mx).map fun mr=>((),mr)
abbrev Wh:=fun(mc:bg) (mx:tV)=>(iP mc mx).map fun mr=>((),mr)
abbrev zk3:=hX (hX (hX (hX (hX (hX (hX (hX (hX ([]:List (Int×(bg->tV->Option (Unit×bg)))) (1:Int) Oj) (9:Int) Oj) (2:Int) Wg) (3:Int) Wi) (4:Int) HD) (10:Int) HD) (11:Int) HD) (5:Int) Wj) (8:Int) Wh
abbrev qX:=fun(x:Bool)=>fM x
abbrev my:=(⟨[]⟩:aW)
abbrev Gp:=(⟨[],(0:Int),(0:Int),[]⟩:dv)
abbrev DW:=fun(x:tV)=>[tD aM x]
abbrev YR:=fun(x:tV×tV)=>[tD aM x.1,tD aM x.2]
abbrev DV:=fun(x:Unit)=>tT []
abbrev pu:=([]:List Int)
abbrev AZ:=fun(x:Bool)=>tD rB x
abbrev HC:=(⟨(0:Int),(0:Int),(0:Int),(0:Int),iF⟩:av)
abbrev Qe:=(⟨(0:Int),(0:Int),(0:Int),(0:Int),[],false,my,[],[],[],[],(0:Int)⟩:tV)
abbrev xD:=(-1:Int)
abbrev S4:=(⟨(1:Int),xD,xD,(0:Int),[(1:Int),(2:Int),(3:Int)],false,my,[],[],[],[],(0:Int)⟩:tV)
noncomputable abbrev Qd:=mI bd YR qX (fun(x:tV×tV)=>vk x.1 x.2)
abbrev lA:=rI .u64
abbrev qc:=rI .u32
abbrev S3:=(⟨(0:Int),(0:Int)⟩:na)
abbrev S2:=fun(x:dv×dv)=>[tD cM x.1,tD cM x.2]
abbrev SZ:=fun(x:av×(List Int))=>[tD bt x.1,jK x.2]
abbrev SY:=fun(x:fU×fU)=>[tD fh x.1,tD fh x.2]
abbrev Jc:=fun(x:Int)=>[bH x]
abbrev zY:=f6 bF
abbrev Qc:=fun(x:aC)=>[tD bF x]
abbrev vG:=f6 bV
abbrev Wf:=fun(x:av×(List Int))=>[tD bt x.1,tD vG x.2]
abbrev SX:=fun(x:Int×Int)=>tT [bH x.1,bH x.2]
abbrev Qb:=fun(x:kF)=>[tD gy x]
abbrev We:=fun(x:aW×aW)=>[tD bN x.1,tD bN x.2]
abbrev FO:=o7 qc 256
abbrev Qa:=fun(x:Int)=>[tD bV x]
abbrev Wd:=fun(x:Int×Int)=>tT [tD bV x.1,tD bV x.2]
abbrev FN:=f6 (rI .u8)
abbrev HB:=ay none 0 0
abbrev Wc:=2^(min (Int.toNat (8:Int)) IntKind.u32.bits)
abbrev Wb:=fun(x:(List aC))=>[em (bF) x]
abbrev Oi:=(⟨[]⟩:bg)
abbrev SW:=(⟨S3,[]⟩:an)
abbrev Wa:=fun(x:Int)=>s4 x
abbrev Jb:=rI .u16
abbrev SV:=sj [(none,0)]
abbrev SU:=([]:List aW)
abbrev Oh:=(81,tT [])
abbrev V9:=([]:List (List Int))
set_option maxRecDepth 100000

def U2{R}(h:Gy=some R):cX bd 112 [] (tD FO R):=by
 refine dK Tryz.func112 J<|d<|bz (r:=FO) (x:=(List.replicate 256 (0:Int))) Gv (fun _=>BS (r:=qc) 256 (fun _=>J) _) J fun b=>bu<|d<|bR h fun e q_e h=>s (ke Hw sa (.head _) (D J) hI q_e)<|bR h fun ar q_ar h=>ze sa J q_e (so q_ar) (D J) hI<|bu<|aS<|ca<|bu<|ak<|bA ?_;refine aH (zk (aa:=fun n1 n out=>tL n1 n out=some R) (Of:=fun n out=>[bx FO 152 b out]) (Gf:=fun n out=>[(0,M (Z b 0)),(1,bH n)]) (fun n out h=>nn h) (fun n1 ih n out h=>?_) dk (64:Int) ar h) (aX J);refine cJ<|aS<|Q J<|s (dD (D J) hI)<|bW h J (fun h=>?_) (fun h=>?_)
 ·refine fN<|aP<|ak<|ax J<|s (Ch hI (D J))<|bR h fun e1 q_e1 h=>s (ke Hw sa (.head _) (D J) (D J) q_e1)<|s (Bh sa J J (.head _) q_e1 (D J))<|aN J<|ax J<|Q J<|s (Ak (D J) hI (by decide))<|bR h fun e2 q_e2 h=>s (ke Hw sa (.head _) (D J) (D J) q_e2)<|bR h fun ar1 q_ar1 h=>ze sa J q_e2 (so q_ar1) (D J) (D J)<|aJ ?_;refine au<|ax J<|s (WQ (D J) hI)<|bp J<|bW h J (fun h=>?_) (fun h=>?_)
  ·refine aj<|Q J<|bR h fun e3 q_e3 h=>s (ke Hw sa (.head _) (D J) (D J) q_e3)<|s (Bh sa J J (.head _) q_e3 (D J))<|s (Ie (D J) hI)<|s (ke Hw sa (.head _) (D J) (D J) q_e3)<|bR h fun ar2 q_ar2 h=>ze sa J q_e3 (so q_ar2) (D J) (D J)<|aJ<|al<|au<|aj<|Q J<|s (LJ (D J) hI (by decide))<|d6 J<|aJ ?_;exact aU (aH (ih (IntKind.i64.wrap ((n).tdiv (2:Int))) ar2 h) (aX J))
  ·refine bc<|al<|au<|aj<|Q J<|s (LJ (D J) hI (by decide))<|d6 J<|aJ ?_;exact aU (aH (ih (IntKind.i64.wrap ((n).tdiv (2:Int))) ar1 h) (aX J))
 ·refine cQ<|ap<|ap<|bL<|au<|aS<|ca<|bu<|ak<|bA ?_;refine aH (zk (aa:=fun n3 n2 out1=>tK n3 n2 out1=some R) (Of:=fun n2 out1=>[bx FO 152 b out1]) (Gf:=fun n2 out1=>[(0,M (Z b 0)),(3,bH n2)]) (fun n2 out1 h=>nn h) (fun n3 ih1 n2 out1 h=>?_) dk (2:Int) out h) (aX J);refine cJ<|aS<|Q J<|s (fH (D J) hI)<|bW h J (fun h=>?_) (fun h=>?_)
  ·refine fN<|aP<|ak<|ax J<|s (bT hI)<|bu<|ak<|bA ?_;refine aH (zk (aa:=fun n4 x out2=>wJ (tK n3) n2 n4 x out2=some R) (Of:=fun x out2=>[bx FO 152 b out2]) (Gf:=fun x out2=>[(0,M (Z b 0)),(3,bH n2),(30,bH n2),(31,bH x)]) (fun x out2 h=>nn h) (fun n4 ih2 x out2 h=>?_) dk (0:Int) out1 h) (aX J);refine cJ<|d<|jC J<|bu<|aP<|fy h J (fun h=>?_) (fun h=>?_)
   ·refine fN<|aP<|ak<|ax J<|aN J<|bR h fun e4 q_e4 h=>bR h fun e5 q_e5 h=>bR h fun e6 q_e6 h=>?_
    refine qN 11 (ts:=[bH n2,bH x,bH (IntKind.i64.wrap (n2+x)),bH n2,M (Z b (n2.toNat*1)),tD qc e4,bH x,M (Z b (x.toNat*1)),tD qc e5,tD qc (tA .xor .u32 e4 e5),M (Z b ((IntKind.i64.wrap (n2+x)).toNat*1))]) mixed J J J
     ⟨fP J J,
     ⟨fP J J,
     ⟨ga 34 0 35 1 J J J (cW (D J) (D J)),
     ⟨fP J J,
     ⟨S5 0 37 3 J J J (ke Hw sa (.head _) (D J) (D J) q_e4),
     ⟨ff 38 4 J J (Bh sa J J (.head _) q_e4 (D J)),
     ⟨fP J J,
     ⟨S5 0 40 6 J J J (ke Hw sa (.head _) (D J) (D J) q_e5),
     ⟨ff 41 7 J J (Bh sa J J (.head _) q_e5 (D J)),
     ⟨ga 39 5 42 8 J J J (Ie (D J) (D J)),
     ⟨S5 0 36 2 J J J (ke Hw sa (.head _) (D J) (D J) q_e6),
     aZ⟩⟩⟩⟩⟩⟩⟩⟩⟩⟩⟩ ?_
    refine bR h fun ar3 q_ar3 h=>ze sa J q_e6 (so q_ar3) (D J) (D J)<|aJ<|al<|au<|aj<|s (cW (D J) hI)<|Q J<|aJ ?_;exact aU (aH (ih2 (IntKind.i64.wrap (x+(1:Int))) ar3 h) (aX J))
   ·refine cQ<|ap<|ap<|bL<|al<|au<|aj<|Q J<|s (Ch (D J) hI)<|d6 J<|aJ ?_;exact aU (aH (ih1 (IntKind.i64.wrap (n2*(2:Int))) out2 h) (aX J))
  ·exact cQ<|ap<|ap<|bL<|au<|d<|s (aL Gv J J bC (.head _) (D J))<|bO Gv aB J<|bM<|iT 0 J<|so h▸FH J Gv J J J

def Yf(b:Nat) register D7 c{R}(h:CU register D7 c=some R):bK bd 113 [tD (rI .u8) c,M (Z b 0),ck FO D7] [bx qc 25 b register] (fun i:OI=>tT []) (fun i=>[bx qc 25 b R]):=by
 refine bK.of Tryz.func113 J J J fun w0 S0=>bR h fun e q_e h=>?_
 refine qN 9 (ts:=[tD qc register,tD qc ((register).fdiv Wc),tD qc register,tD (rI .u8) (IntKind.u8.wrap register),tD (rI .u8) c,tD (rI .u8) (tA .xor .u8 (IntKind.u8.wrap register) c),ck qc e,tD qc e,tD qc (tA .xor .u32 ((register).fdiv Wc) e)]) mixed J J J
  ⟨zZ 1 J J (aL sa J J bC (.head _) (D J)),
  ⟨ff 4 0 J J (Ak (D J) hI (by decide)),
  ⟨zZ 1 J J (aL sa J J bC (.head _) (D J)),
  ⟨ff 6 2 J J (c0 Gj nV (D J)),
  ⟨fP J J,
  ⟨ga 7 3 8 4 J J J (Ie (D J) (D J)),
  ⟨S5 2 9 5 J J J (F1 Hw sa J (D J) (D J) q_e),
  ⟨lK 6 sa J J,
  ⟨ga 5 1 11 7 J J J (Ie (D J) (D J)),
  aZ⟩⟩⟩⟩⟩⟩⟩⟩⟩ ?_
 exact bO sa aB J<|aJ<|so h▸fE J (oi none 0) J J

def Xv b{R}(h:Gz b=some R):cX bd 54 [em ((rI .u8)) b] (tD qc R):=by
 refine dK Tryz.func54 J<|d<|ca<|bu<|d<|eE h abM U2 trivial fun r h=>bz (r:=FO) (x:=(List.replicate 256 (0:Int))) Gv (fun _=>BS (r:=qc) 256 (fun _=>J) _) J fun b1=>bO Gv aB J<|bj 3 J<|bu<|d<|bz (r:=qc) (x:=(0:Int)) sa (fun _=>J) J fun b2=>ek sa J aB J (D J) hI<|bu<|d<|s (wk (cts:=[M (Z b2 0),ck FO r]) (caps:=[.tmp 4,.tmp 3]) ⟨(D J),(D J),aZ⟩) ?_;refine aN J<|aS<|Q J<|bI kG J<|s (bT hI)<|bu<|ak<|bo (k:=10) J fun hN=>bA ?_;refine aH (uS (aa:=fun ls i register=>(b.drop i=ls)/\wK r ls register=some R) (Of:=fun _ i register=>[bx qc 25 b2 register]) (Gf:=fun _ i register=>[(4,M (Z b2 0)),(5,tC 113 [M (Z b2 0),ck FO r]),(10,em ((rI .u8)) b),(11,kE b),(12,bH (i:Int))]) (fun i register h=>?_) (fun e tl ih i register h=>?_) b 0 (4294967295:Int) ⟨J,h⟩) (aX J)
 ·obtain⟨V,h⟩:=h
  exact ez V J<|au<|d<|s (aL sa J J bC (.head _) (D J))<|s (WP (D J))<|bf J<|aV<|so h▸aA J J
 ·obtain⟨V,h⟩:=h
  refine ew V J<|aP<|ak<|d<|dg kG me J (dJ V)<|aN J<|aj<|Q J<|Q J<|bR h fun r1 q_r1 h=>br (ue (xs:=[.tmp 17]) (ts:=[tD (rI .u8) e]) (cts:=[M (Z b2 0),ck FO r]) (post:=fun i=>[bx qc 25 b2 r1]) [bx qc 25 b2 register] [] J abL (Yf b2 _ _ _ q_r1) (D J) ⟨(D J),aZ⟩ (fun _=>J)) J fun i1=>?_;refine(show RG _ _ _ _ [_] _ from ?_);refine aJ<|dd V hN J ?_;exact aU (aH (ih (i+1) r1 ⟨da V,h⟩) (aX J))

def T0 b{R}(h:yJ b=some R):gm bd 55 [em ((rI .u8)) b] false (rI .u8) 5 R:=by
 refine gm.of Tryz.func55 J J J fun w0 S0=>d<|ci false (rI .u8) 5<|s (bU tE)<|bu<|aS<|Q J<|KN kG (D J) J fun isnil hisnil=>bu<|tZ (D J) (fun hc=>?_) (fun hc=>?_)
 ·have V:=hisnil hc
  have h:some pu=some R:=by simpa [yJ,app,V] using h
  exact d<|ci false (rI .u8) 5<|s (bU tE)<|bM<|af<|so h▸fL J J
 ·exact fN<|d<|kD (r:=(rI .u8)) (ys:=pu) (xs:=[]) kG me J J J J J trivial J fun l c=>Q J<|bR h fun x q_x h=>bD me J J J J kG J J (D J) (D J) q_x fun l1 c1=>bf J<|so h▸fL J J
def T5 b{R}(h:D9 b=some R):gm bd 27 [em ((rI .u8)) b] false (rI .u8) 5 R:=by
 refine gm.of Tryz.func27 J J J fun w0 S0=>d<|ci false (rI .u8) 5<|s (bU tE)<|bu<|ax J<|eE h acy (Xv _) (cy J) fun r h=>aN J<|ax J<|ot h acx (T0 _) (cy J) fun r1 h l c=>aN J<|aP ?_;refine d<|s (bT hI)<|bu<|ak<|bA<|dY<|lu ?_;refine aH (N9 (aa:=fun k i out l1 c1 n=>(4-i=k)/\vH k out n=some R) (Of:=fun _ i out l1 c1 n=>[db (rI .u8) 5 l1 c1 out]) (Gf:=fun _ i out l1 c1 n=>[(3,tD qc n),(4,nO l1 c1 out),(9,bH (i:Int))]) (fun i out l1 c1 n h=>?_) (fun k1 ih i out l1 c1 n h=>?_) 4 0 r1 l c r ⟨J,h⟩) (aX J)
 ·obtain⟨V,h⟩:=h
  exact cJ<|d<|s (fH (D J) hI)<|bu<|aP<|yS (D J) (Zx V)<|cQ<|ap<|ap<|bL<|au<|ax J<|bf J<|so h▸fL J J
 ·obtain⟨V,h⟩:=h
  refine cJ<|d<|s (fH (D J) hI)<|bu<|aP<|yR (D J) (Zw V)<|fN<|aP<|ak<|ax J<|Q J<|s (c0 Gj nV (D J))<|s (aI (r:=(rI .u8)) (ys:=[(IntKind.u8.wrap n)]) (xs:=[.tmp 13]) kG me J J J J J ⟨(D J),aZ⟩)<|bR h fun out1 q_out1 h=>bD me J J J J kG J J (D J) (D J) q_out1 fun l2 c2=>aN J<|aj ?_;refine Q J<|s (Ak (D J) hI (by decide))<|d6 J<|aJ<|al<|au<|aj<|s (Du (WU V (by decide)) (D J) hI)<|Q J<|aJ ?_;exact aU (aH (ih (i+1) out1 l2 c2 ((n).fdiv Wc) ⟨WT V,h⟩) (aX J))
def Xu n{R}(h:s4 n=some R):cX bd 56 [bH n] (fM R):=by
 exact dK Tryz.func56 J<|d<|bm<|bu<|ax J<|s (dB (D J) hI)<|Q J<|ae J (bX J)<|ae J (fun Y=>eY (bl J Y) hI)<|cm J<|bf J<|so h▸aA J J

def RF s1 s2 eq{R}(h:fb s1 s2 eq=some R):cX bd 62 [em (zY) s1,em (zY) s2,(mI bd (fun(x:(List aC)×(List aC))=>[em (bF) x.1,em (bF) x.2]) qX (fun(x:(List aC)×(List aC))=>eq x.1 x.2))] (fM R):=by
 refine dK Tryz.func62 J<|d<|bm<|bu<|aS<|Q J<|bI AM J<|Q J<|bI AM J<|s (du (D J) (D J))<|bW h J (fun h=>?_) (fun h=>?_)
 ·exact d<|bm<|bM<|af<|so h▸aA J J
 ·refine fN<|aS<|Q J<|bI AM J<|s (bT hI)<|bu<|ak<|bo (k:=15) J fun hN=>bA ?_;refine aH (eU (aa:=fun ls i=>(s1.drop i=ls)/\eM s2 eq ls i=some R) (Of:=fun _ i=>[]) (Gf:=fun _ i=>[(1,em (zY) s2),(2,(mI bd (fun(x:(List aC)×(List aC))=>[em (bF) x.1,em (bF) x.2]) qX (fun(x:(List aC)×(List aC))=>eq x.1 x.2))),(15,em (zY) s1),(16,kE s1),(17,bH (i:Int))]) (fun i h=>?_) (fun e tl ih i h=>?_) s1 0 ⟨J,h⟩) (aX J)
  ·obtain⟨V,h⟩:=h
   exact ez V J<|au<|d<|bm<|bM<|so h▸aA J J
  ·obtain⟨V,h⟩:=h
   refine ew V J<|aP<|ak<|ax J<|dg AM Js J (dJ V)<|d6 J<|aN J<|ax J ?_;refine Q J<|bR h fun e1 q_e1 h=>dg AM Js J q_e1<|aN J<|ax J<|Q J<|Q J<|bR h fun r q_r h=>s (mO (args:=(fun(x:(List aC)×(List aC))=>[tD zY x.1,tD zY x.2])) (res:=AZ) (f:=(fun(x:(List aC)×(List aC))=>eq x.1 x.2)) (x:=((e,e1):(List aC)×(List aC))) (D J) q_r ⟨(D J),(D J),aZ⟩)<|s (fG (D J))<|bW h J (fun h=>?_) (fun h=>?_)
   ·exact d<|bm<|bM<|cx<|af<|cx<|so h▸aA J J
   ·refine bc<|dd V hN J ?_;exact aU (aH (ih (i+1) ⟨da V,h⟩) (aX J))

def RE s1 s2{R}(h:jT s1 s2=some R):cX bd 64 [em (bF) s1,em (bF) s2] (fM R):=by
 refine dK Tryz.func64 J<|d<|bm<|bu<|aS<|Q J<|bI FK J<|Q J<|bI FK J<|s (du (D J) (D J))<|bW h J (fun h=>?_) (fun h=>?_)
 ·exact d<|bm<|bM<|af<|so h▸aA J J
 ·refine fN<|aS<|Q J<|bI FK J<|s (bT hI)<|bu<|ak<|bo (k:=11) J fun hN=>bA ?_;refine aH (eU (aa:=fun ls i=>(s1.drop i=ls)/\jd s2 ls i=some R) (Of:=fun _ i=>[]) (Gf:=fun _ i=>[(0,em (bF) s1),(1,em (bF) s2),(12,kE s1),(13,bH (i:Int))]) (fun i h=>?_) (fun e tl ih i h=>?_) s1 0 ⟨J,h⟩) (aX J)
  ·obtain⟨V,h⟩:=h
   exact ez V J<|au<|d<|bm<|bM<|so h▸aA J J
  ·obtain⟨V,h⟩:=h
   refine ew V J<|aP<|ak<|ax J<|aN J<|aP<|bR h fun e1 q_e1 h=>?_
   refine gO (ts:=[_,_,_,_,_,_,_,_,_]) mixed J J
    ⟨fP J J,
    ⟨fP J J,
    ⟨ga 16 0 17 1 J J J (B3 FK dh J J J (dJ V)),
    ⟨lK 2 dh J J,
    ⟨fP J J,
    ⟨fP J J,
    ⟨ga 20 4 21 5 J J J (B3 FK dh J J J q_e1),
    ⟨lK 6 dh J J,
    ⟨ga 19 3 23 7 J J J (vm Fa (D J) (D J)),
    aZ⟩⟩⟩⟩⟩⟩⟩⟩⟩ ?_
   refine au<|fy h J (fun h=>?_) (fun h=>?_)
   ·exact d<|bm<|bM<|cx<|af<|cx<|so h▸aA J J
   ·refine bc<|dd V hN J ?_;exact aU (aH (ih (i+1) ⟨da V,h⟩) (aX J))

def Xr p y{R}(h:uF p y=some R):cX bd 63 [em (bF) p,em (bF) y] (fM R):=by
 exact dK Tryz.func63 J<|d<|bm<|bu<|ax J<|Q J<|eE h Z8 (RE _ _) (cy J) fun r h=>bf J<|so h▸aA J J

def XA a1 b{R}(h:wq a1 b=some R):cX bd 31 [tD iw a1,tD iw b] (fM R):=by
 refine dK Tryz.func31 J<|d<|dl J<|dl J<|bm<|bu<|d<|qE tw jF J<|aQ Aw q8 Lk J<|qE tw jF J<|aQ Aw q8 Lk J<|eE h Z9 (RF _ _ _) ⟨(D J),(D J),(Rt acs fun x y h=>Xr _ _ h),aZ⟩ fun r h=>aN J<|d<|qE E4 tg J ?_;refine dH bB J<|aQ E4 tg bB J<|s (di (D J) (D J))<|Q J<|ae J (bv Iu vt J J)<|ae J (bq sa J J)<|ae J (bv Iu vt J J)<|ae J (bq sa J J)<|ae J (fun Y=>di (bl J Y) (bl J Y))<|cm J<|Q J<|ae J (bv As pW J J)<|ae J (bq qf J J)<|ae J (bv As pW J J)<|ae J (bq qf J J)<|ae J (fun Y=>di (bl J Y) (bl J Y))<|cm J<|Q J<|ae J (bv Cx rq J J)<|ae J (bq qf J J)<|ae J (bv Cx rq J J)<|ae J (bq qf J J)<|ae J (fun Y=>di (bl J Y) (bl J Y)) ?_;refine cm J<|Q J<|ae J (bv tw jF J J)<|ae J (fun Y=>fj Av J q7 J (bl J Y))<|ae J (bq zF J J)<|ae J (bv tw jF J J)<|ae J (fun Y=>fj Av J q7 J (bl J Y))<|ae J (bq zF J J)<|ae J (fun Y=>Ig Gk (bl J Y) (bl J Y))<|cm J<|Q J<|ae J (bv tw jF J J)<|ae J (fun Y=>fj Au J q6 J (bl J Y))<|ae J (bq qf J J)<|ae J (bv tw jF J J)<|ae J (fun Y=>fj Au J q6 J (bl J Y))<|ae J (bq qf J J)<|ae J (fun Y=>di (bl J Y) (bl J Y))<|cm J<|Q J<|ae J (bX J)<|cm J<|d6 J<|aJ ?_;exact au<|pd<|so h▸aA J J

def Mc s1 s2{R}(h:mL s1 s2=some R):cX bd 66 [jK s1,jK s2] (fM R):=by
 refine dK Tryz.func66 J<|d<|bm<|bu<|aS<|Q J<|bI df J<|Q J<|bI df J<|s (du (D J) (D J))<|bW h J (fun h=>?_) (fun h=>?_)
 ·exact d<|bm<|bM<|af<|so h▸aA J J
 ·refine fN<|aS<|Q J<|bI df J<|s (bT hI)<|bu<|ak<|bo (k:=11) J fun hN=>bA ?_;refine aH (eU (aa:=fun ls i=>(s1.drop i=ls)/\nu s2 ls i=some R) (Of:=fun _ i=>[]) (Gf:=fun _ i=>[(0,jK s1),(1,jK s2),(12,kE s1),(13,bH (i:Int))]) (fun i h=>?_) (fun e tl ih i h=>?_) s1 0 ⟨J,h⟩) (aX J)
  ·obtain⟨V,h⟩:=h
   exact ez V J<|au<|d<|bm<|bM<|so h▸aA J J
  ·obtain⟨V,h⟩:=h
   refine ew V J<|aP<|ak<|ax J<|aN J<|aP<|bR h fun e1 q_e1 h=>?_
   refine gO (ts:=[_,_,_,_,_,_,_,_,_]) mixed J J
    ⟨fP J J,
    ⟨fP J J,
    ⟨ga 16 0 17 1 J J J (B3 df bB J J J (dJ V)),
    ⟨lK 2 bB J J,
    ⟨fP J J,
    ⟨fP J J,
    ⟨ga 20 4 21 5 J J J (B3 df bB J J J q_e1),
    ⟨lK 6 bB J J,
    ⟨ga 19 3 23 7 J J J (du (D J) (D J)),
    aZ⟩⟩⟩⟩⟩⟩⟩⟩⟩ ?_
   refine au<|fy h J (fun h=>?_) (fun h=>?_)
   ·exact d<|bm<|bM<|cx<|af<|cx<|so h▸aA J J
   ·refine bc<|dd V hN J ?_;exact aU (aH (ih (i+1) ⟨da V,h⟩) (aX J))

def Xp s1 s2{R}(h:ou s1 s2=some R):cX bd 67 [em (gy) s1,em (gy) s2] (fM R):=by
 refine dK Tryz.func67 J<|d<|bm<|bu<|aS<|Q J<|bI rz J<|Q J<|bI rz J<|s (du (D J) (D J))<|bW h J (fun h=>?_) (fun h=>?_)
 ·exact d<|bm<|bM<|af<|so h▸aA J J
 ·refine fN<|aS<|Q J<|bI rz J<|s (bT hI)<|bu<|ak<|bo (k:=11) J fun hN=>bA ?_;refine aH (eU (aa:=fun ls i=>(s1.drop i=ls)/\jH s2 ls i=some R) (Of:=fun _ i=>[]) (Gf:=fun _ i=>[(0,em (gy) s1),(1,em (gy) s2),(12,kE s1),(13,bH (i:Int))]) (fun i h=>?_) (fun e tl ih i h=>?_) s1 0 ⟨J,h⟩) (aX J)
  ·obtain⟨V,h⟩:=h
   exact ez V J<|au<|d<|bm<|bM<|so h▸aA J J
  ·obtain⟨V,h⟩:=h
   refine ew V J<|aP<|ak<|ax J<|aN J<|aP<|bR h fun e1 q_e1 h=>?_
   refine gO (ts:=[_,_,_,_,_,_,_,_,_]) mixed J J
    ⟨fP J J,
    ⟨fP J J,
    ⟨ga 16 0 17 1 J J J (B3 rz pA J J J (dJ V)),
    ⟨lK 2 pA J J,
    ⟨fP J J,
    ⟨fP J J,
    ⟨ga 20 4 21 5 J J J (B3 rz pA J J J q_e1),
    ⟨lK 6 pA J J,
    ⟨ga 19 3 23 7 J J J (vm VP (D J) (D J)),
    aZ⟩⟩⟩⟩⟩⟩⟩⟩⟩ ?_
   refine au<|fy h J (fun h=>?_) (fun h=>?_)
   ·exact d<|bm<|bM<|cx<|af<|cx<|so h▸aA J J
   ·refine bc<|dd V hN J ?_;exact aU (aH (ih (i+1) ⟨da V,h⟩) (aX J))

def UX s1 s2{R}(h:mM s1 s2=some R):cX bd 119 [em (bt) s1,em (bt) s2] (fM R):=by
 refine dK Tryz.func119 J<|d<|bm<|bu<|aS<|Q J<|bI j5 J<|Q J<|bI j5 J<|s (du (D J) (D J))<|bW h J (fun h=>?_) (fun h=>?_)
 ·exact d<|bm<|bM<|af<|so h▸aA J J
 ·refine fN<|aS<|Q J<|bI j5 J<|s (bT hI)<|bu<|ak<|bo (k:=11) J fun hN=>bA ?_;refine aH (eU (aa:=fun ls i=>(s1.drop i=ls)/\iB s2 ls i=some R) (Of:=fun _ i=>[]) (Gf:=fun _ i=>[(0,em (bt) s1),(1,em (bt) s2),(12,kE s1),(13,bH (i:Int))]) (fun i h=>?_) (fun e tl ih i h=>?_) s1 0 ⟨J,h⟩) (aX J)
  ·obtain⟨V,h⟩:=h
   exact ez V J<|au<|d<|bm<|bM<|so h▸aA J J
  ·obtain⟨V,h⟩:=h
   refine ew V J<|aP<|ak<|ax J<|aN J<|aP<|bR h fun e1 q_e1 h=>?_
   refine gO (ts:=[_,_,_,_,_,_,_,_,_]) mixed J J
    ⟨fP J J,
    ⟨fP J J,
    ⟨ga 16 0 17 1 J J J (B3 j5 eo J J J (dJ V)),
    ⟨lK 2 eo J J,
    ⟨fP J J,
    ⟨fP J J,
    ⟨ga 20 4 21 5 J J J (B3 j5 eo J J J q_e1),
    ⟨lK 6 eo J J,
    ⟨ga 19 3 23 7 J J J (vm VO (D J) (D J)),
    aZ⟩⟩⟩⟩⟩⟩⟩⟩⟩ ?_
   refine au<|fy h J (fun h=>?_) (fun h=>?_)
   ·exact d<|bm<|bM<|cx<|af<|cx<|so h▸aA J J
   ·refine bc<|dd V hN J ?_;exact aU (aH (ih (i+1) ⟨da V,h⟩) (aX J))

def Mb a1 b{R}(h:za a1 b=some R):cX bd 69 [tD bN a1,tD bN b] (fM R):=by
 exact dK Tryz.func69 J<|d<|dl J<|dl J<|bm<|bu<|d<|aQ f7 dw nM J<|aQ f7 dw nM J<|eE h abH (UX _ _) (cy J) fun r h=>bf J<|so h▸aA J J

def Xo p q{R}(h:vL p q=some R):cX bd 68 [tD fh p,tD fh q] (fM R):=by
 refine dK Tryz.func68 J<|d<|dl J<|dl J<|bm<|bu<|d<|aQ jx hM bB J<|aQ jx hM bB J<|s (di (D J) (D J))<|Q J<|bR h fun t q_t h=>ae J (bv oe ma J J)<|ae J (bq gn J J)<|ae J (bv oe ma J J)<|ae J (bq gn J J) ?_
 obtain⟨r,h1t,h0t⟩:=og q_t
 have q_rg:=fun H=>(h1t H).1
 exact ae J (fun Y=>cD Yq (Mb _ _ (q_rg Y)) ⟨(bl J Y),(bl J Y),aZ⟩)<|s (co (D J) (fun H=>(bl J H)) (fun H=>(h1t H).2) h0t)<|bf J<|so h▸aA J J

def Xn s1 s2 eq{R}(h:ii s1 s2 eq=some R):cX bd 70 [em (fh) s1,em (fh) s2,(mI bd SY qX (fun(x:fU×fU)=>eq x.1 x.2))] (fM R):=by
 refine dK Tryz.func70 J<|d<|bm<|bu<|aS<|Q J<|bI lb J<|Q J<|bI lb J<|s (du (D J) (D J))<|bW h J (fun h=>?_) (fun h=>?_)
 ·exact d<|bm<|bM<|af<|so h▸aA J J
 ·refine fN<|aS<|Q J<|bI lb J<|s (bT hI)<|bu<|ak<|bo (k:=15) J fun hN=>bA ?_;refine aH (eU (aa:=fun ls i=>(s1.drop i=ls)/\eN s2 eq ls i=some R) (Of:=fun _ i=>[]) (Gf:=fun _ i=>[(1,em (fh) s2),(2,(mI bd SY qX (fun(x:fU×fU)=>eq x.1 x.2))),(15,em (fh) s1),(16,kE s1),(17,bH (i:Int))]) (fun i h=>?_) (fun e tl ih i h=>?_) s1 0 ⟨J,h⟩) (aX J)
  ·obtain⟨V,h⟩:=h
   exact ez V J<|au<|d<|bm<|bM<|so h▸aA J J
  ·obtain⟨V,h⟩:=h
   refine ew V J<|aP<|ak<|ax J<|dg lb ig J (dJ V)<|bz ig tq J fun b=>d6 J<|bO ig aB J<|bj 8 J<|bu<|aP ?_;refine aj<|Q J<|Q J<|bR h fun e1 q_e1 h=>dg lb ig J q_e1<|bz ig tq J fun b1=>bO ig aB J<|bj 9 J<|bu<|ax J<|dH ig J<|dH ig J<|bR h fun r q_r h=>s (mO (args:=SY) (res:=AZ) (f:=(fun(x:fU×fU)=>eq x.1 x.2)) (x:=((e,e1):fU×fU)) (D J) q_r ⟨(D J),(D J),aZ⟩)<|s (fG (D J))<|bW h J (fun h=>?_) (fun h=>?_)
   ·exact d<|bm<|bM<|cx<|af<|cx<|so h▸aA J J
   ·refine bc<|dd V hN J ?_;exact aU (aH (ih (i+1) ⟨da V,h⟩) (aX J))

end Go.Proofs.YtdohlidddcgfjaaGreat

