/- bR of this claim: P0. -/
import Derived.Test.YtdohlidddcgfjaaGreatFbT
import Derived.Test.YtdohlidddcgfjaaGreatFbF
set_option linter.all false
namespace Go.Proofs.YtdohlidddcgfjaaGreat
open Go
abbrev gh:=(⟨(0:Int),(0:Int),(0:Int),[]⟩:ap)
abbrev cJ:=rH gk []
abbrev bH:=rI .i64
abbrev Kk:=fun(mc:aL) (mx:aa)=>(ee mc mx).map fun mr=>((),mr)
abbrev QR:=fun(mc:aL) (mx:aa)=>(gH mc mx).map fun mr=>((),mr)
abbrev QT:=fun(mc:aL) (mx:aa)=>(fI mc mx).map fun mr=>((),mr)
abbrev Ed:=fun(mc:aL) (mx:aa)=>(dw mc mx).map fun mr=>((),mr)
abbrev QU:=fun(mc:aL) (mx:aa)=>(fd mc mx).map fun mr=>((),mr)
abbrev QS:=fun(mc:aL) (mx:aa)=>(gb mc mx).map fun mr=>((),mr)
abbrev V1:=fi (fi (fi (fi (fi (fi (fi (fi (fi ([]:List (Int×(aL->aa->Option (Unit×aL)))) (1:Int) Kk) (9:Int) Kk) (2:Int) QR) (3:Int) QT) (4:Int) Ed) (10:Int) Ed) (11:Int) Ed) (5:Int) QU) (8:Int) QS
abbrev nM:=fun(x:Bool)=>gw x
abbrev lv:=(⟨[]⟩:aM)
abbrev CY:=(⟨[],(0:Int),(0:Int),[]⟩:dE)
abbrev AL:=fun(x:aa)=>[tD bc x]
abbrev S5:=fun(x:aa×aa)=>[tD bc x.1,tD bc x.2]
abbrev AK:=fun(x:Unit)=>tT []
abbrev xB:=fun(x:Bool)=>tD rB x
abbrev p9:=([]:List Int)
abbrev Ec:=(⟨(0:Int),(0:Int),(0:Int),(0:Int),gh⟩:am)
abbrev N8:=(⟨(0:Int),(0:Int),(0:Int),(0:Int),[],false,lv,[],[],[],[],(0:Int)⟩:aa)
noncomputable abbrev LU:=ke aV S5 nM (fun(x:aa×aa)=>rC x.1 x.2)
abbrev m2:=rI .u32
abbrev lL:=rI .u64
abbrev N7:=(⟨(0:Int),(0:Int)⟩:kK)
abbrev N6:=fun(x:dE×dE)=>[tD ck x.1,tD ck x.2]
abbrev N5:=fun(x:am×(List Int))=>[tD bq x.1,nj x.2]
abbrev N4:=fun(x:fj×fj)=>[tD eV x.1,tD eV x.2]
abbrev Fs:=fun(x:Int)=>[bA x]
abbrev wG:=gr be
abbrev LT:=fun(x:ap)=>[tD be x]
abbrev wF:=gr bH
abbrev QQ:=fun(x:am×(List Int))=>[tD bq x.1,tD wF x.2]
abbrev N3:=fun(x:Int×Int)=>tT [bA x.1,bA x.2]
abbrev LS:=fun(x:j3)=>[tD gB x]
abbrev QP:=fun(x:aM×aM)=>[tD cD x.1,tD cD x.2]
abbrev Cs:=mg m2 256
abbrev LR:=fun(x:Int)=>[tD bH x]
abbrev QO:=fun(x:Int×Int)=>tT [tD bH x.1,tD bH x.2]
abbrev Eb:=an none 0 0
abbrev QN:=2^(min (Int.toNat (8:Int)) IntKind.u32.bits)
abbrev QM:=fun(x:(List ap))=>[ep (be) x]
abbrev Kj:=(⟨[]⟩:aL)
abbrev z2:=(-1:Int)
abbrev Fq:=gr (rI .u8)
abbrev N2:=(⟨N7,[]⟩:af)
abbrev QL:=fun(x:Int)=>pK x
abbrev Fp:=rI .u16
abbrev N1:=o5 [(none,0)]
abbrev Ki:=(81,tT [])
set_option maxRecDepth 100000

def PI{R}(h:C6=some R):dy aV 112 [] (tD Cs R):=by
 refine eu Tryz.func112 J<|a8<|bw (r:=Cs) (x:=(List.replicate 256 (0:Int))) C4 (fun _=>yu (r:=m2) 256 (fun _=>J) _) J fun b=>bp<|a8<|bT h fun e q_e h=>s (iC D7 o3 (.head _) (D J) hI q_e)<|bT h fun ar q_ar h=>vQ o3 J q_e (so q_ar) (D J) hI<|bp<|bm<|cC<|bp<|aA<|bV ?_;refine aT (Ap (bx:=fun n1 n out=>qn n1 n out=some R) (Of:=fun n out=>[Z Cs 152 b out]) (Gf:=fun n out=>[(0,K (M b 0)),(1,bA n)]) (fun n out h=>nn h) (fun n1 ih n out h=>?_) eI (64:Int) ar h) (bj J);refine d8<|bm<|aO J<|s (jL (D J) hI)<|dd h J (fun h=>?_) (fun h=>?_)
 ·refine ji<|aP<|aA<|ay J<|s (Bj hI (D J))<|bT h fun e1 q_e1 h=>s (iC D7 o3 (.head _) (D J) (D J) q_e1)<|s (xN o3 J J (.head _) q_e1 (D J))<|aW J<|ay J<|aO J<|s (yZ (D J) hI (by decide))<|bT h fun e2 q_e2 h=>s (iC D7 o3 (.head _) (D J) (D J) q_e2)<|bT h fun ar1 q_ar1 h=>vQ o3 J q_e2 (so q_ar1) (D J) (D J)<|aS ?_;refine aH<|ay J<|s (Rm (D J) hI)<|bM J<|dd h J (fun h=>?_) (fun h=>?_)
  ·refine av<|aO J<|bT h fun e3 q_e3 h=>s (iC D7 o3 (.head _) (D J) (D J) q_e3)<|s (xN o3 J J (.head _) q_e3 (D J))<|s (Ez (D J) hI)<|s (iC D7 o3 (.head _) (D J) (D J) q_e3)<|bT h fun ar2 q_ar2 h=>vQ o3 J q_e3 (so q_ar2) (D J) (D J)<|aS<|aF<|aH<|av<|aO J<|s (MD (D J) hI (by decide))<|gU J<|aS ?_;exact bf (aT (ih (IntKind.i64.wrap ((n).tdiv (2:Int))) ar2 h) (bj J))
  ·refine bD<|aF<|aH<|av<|aO J<|s (MD (D J) hI (by decide))<|gU J<|aS ?_;exact bf (aT (ih (IntKind.i64.wrap ((n).tdiv (2:Int))) ar1 h) (bj J))
 ·refine dh<|aq<|aq<|bY<|aH<|bm<|cC<|bp<|aA<|bV ?_;refine aT (Ap (bx:=fun n3 n2 out1=>qm n3 n2 out1=some R) (Of:=fun n2 out1=>[Z Cs 152 b out1]) (Gf:=fun n2 out1=>[(0,K (M b 0)),(3,bA n2)]) (fun n2 out1 h=>nn h) (fun n3 ih1 n2 out1 h=>?_) eI (2:Int) out h) (bj J);refine d8<|bm<|aO J<|s (ij (D J) hI)<|dd h J (fun h=>?_) (fun h=>?_)
  ·refine ji<|aP<|aA<|ay J<|s (bU hI)<|bp<|aA<|bV ?_;refine aT (Ap (bx:=fun n4 x out2=>tq (qm n3) n2 n4 x out2=some R) (Of:=fun x out2=>[Z Cs 152 b out2]) (Gf:=fun x out2=>[(0,K (M b 0)),(3,bA n2),(30,bA n2),(31,bA x)]) (fun x out2 h=>nn h) (fun n4 ih2 x out2 h=>?_) eI (0:Int) out1 h) (bj J);refine d8<|a8<|nw J<|bp<|aP<|iX h J (fun h=>?_) (fun h=>?_)
   ·refine ji<|aP<|aA<|ay J<|aW J<|bT h fun e4 q_e4 h=>bT h fun e5 q_e5 h=>bT h fun e6 q_e6 h=>?_
    refine pX 11 (ts:=[bA n2,bA x,bA (IntKind.i64.wrap (n2+x)),bA n2,K (M b (n2.toNat*1)),tD m2 e4,bA x,K (M b (x.toNat*1)),tD m2 e5,tD m2 (qh .xor .u32 e4 e5),K (M b ((IntKind.i64.wrap (n2+x)).toNat*1))]) mixed J J J
     ⟨gx J J,
     ⟨gx J J,
     ⟨jz 34 0 35 1 J J J (fc (D J) (D J)),
     ⟨gx J J,
     ⟨N9 0 37 3 J J J (iC D7 o3 (.head _) (D J) (D J) q_e4),
     ⟨fm 38 4 J J (xN o3 J J (.head _) q_e4 (D J)),
     ⟨gx J J,
     ⟨N9 0 40 6 J J J (iC D7 o3 (.head _) (D J) (D J) q_e5),
     ⟨fm 41 7 J J (xN o3 J J (.head _) q_e5 (D J)),
     ⟨jz 39 5 42 8 J J J (Ez (D J) (D J)),
     ⟨N9 0 36 2 J J J (iC D7 o3 (.head _) (D J) (D J) q_e6),
     d⟩⟩⟩⟩⟩⟩⟩⟩⟩⟩⟩ ?_
    refine bT h fun ar3 q_ar3 h=>vQ o3 J q_e6 (so q_ar3) (D J) (D J)<|aS<|aF<|aH<|av<|s (fc (D J) hI)<|aO J<|aS ?_;exact bf (aT (ih2 (IntKind.i64.wrap (x+(1:Int))) ar3 h) (bj J))
   ·refine dh<|aq<|aq<|bY<|aF<|aH<|av<|aO J<|s (Bj (D J) hI)<|gU J<|aS ?_;exact bf (aT (ih1 (IntKind.i64.wrap (n2*(2:Int))) out2 h) (bj J))
  ·exact dh<|aq<|aq<|bY<|aH<|a8<|s (aE C4 J J bo (.head _) (D J))<|bG C4 aB J<|cj<|gg 0 J<|so h▸Hf J C4 J J J

def SA(b:Nat) register AV c{R}(h:zC register AV c=some R):bd aV 113 [tD (rI .u8) c,K (M b 0),cH Cs AV] [Z m2 25 b register] (fun i:OI=>tT []) (fun i=>[Z m2 25 b R]):=by
 refine bd.of Tryz.func113 J J J fun w0 S0=>bT h fun e q_e h=>?_
 refine pX 9 (ts:=[tD m2 register,tD m2 ((register).fdiv QN),tD m2 register,tD (rI .u8) (IntKind.u8.wrap register),tD (rI .u8) c,tD (rI .u8) (qh .xor .u8 (IntKind.u8.wrap register) c),cH m2 e,tD m2 e,tD m2 (qh .xor .u32 ((register).fdiv QN) e)]) mixed J J J
  ⟨Ho 1 J J (aE o3 J J bo (.head _) (D J)),
  ⟨fm 4 0 J J (yZ (D J) hI (by decide)),
  ⟨Ho 1 J J (aE o3 J J bo (.head _) (D J)),
  ⟨fm 6 2 J J (eP CT sD (D J)),
  ⟨gx J J,
  ⟨jz 7 3 8 4 J J J (Ez (D J) (D J)),
  ⟨N9 2 9 5 J J J (CE D7 o3 J (D J) (D J) q_e),
  ⟨sH 6 o3 J J,
  ⟨jz 5 1 11 7 J J J (Ez (D J) (D J)),
  d⟩⟩⟩⟩⟩⟩⟩⟩⟩ ?_
 exact bG o3 aB J<|aS<|so h▸dW J (oi none 0) J J

def RR b{R}(h:C7 b=some R):dy aV 54 [ep ((rI .u8)) b] (tD m2 R):=by
 refine eu Tryz.func54 J<|a8<|cC<|bp<|a8<|iw h VH PI trivial fun r h=>bw (r:=Cs) (x:=(List.replicate 256 (0:Int))) C4 (fun _=>yu (r:=m2) 256 (fun _=>J) _) J fun b1=>bG C4 aB J<|bg 3 J<|bp<|a8<|bw (r:=m2) (x:=(0:Int)) o3 (fun _=>J) J fun b2=>dV o3 J aB J (D J) hI<|bp<|a8<|s (sQ (cts:=[K (M b2 0),cH Cs r]) (caps:=[.tmp 4,.tmp 3]) ⟨(D J),(D J),d⟩) ?_;refine aW J<|bm<|aO J<|cw gZ J<|s (bU hI)<|bp<|aA<|bt (k:=10) J fun hN=>bV ?_;refine aT (vu (bx:=fun ls i register=>(b.drop i=ls)/\tt r ls register=some R) (Of:=fun _ i register=>[Z m2 25 b2 register]) (Gf:=fun _ i register=>[(4,K (M b2 0)),(5,tC 113 [K (M b2 0),cH Cs r]),(10,ep ((rI .u8)) b),(11,nu b),(12,bA (i:Int))]) (fun i register h=>?_) (fun e tl ih i register h=>?_) b 0 (4294967295:Int) ⟨J,h⟩) (bj J)
 ·obtain⟨V,h⟩:=h
  exact ft V J<|aH<|a8<|s (aE o3 J J bo (.head _) (D J))<|s (Rl (D J))<|bk J<|ba<|so h▸aQ J J
 ·obtain⟨V,h⟩:=h
  refine fq V J<|aP<|aA<|a8<|fP gZ rk J (eo V)<|aW J<|av<|aO J<|aO J<|bT h fun r1 q_r1 h=>aR (qG (xs:=[.tmp 17]) (ts:=[tD (rI .u8) e]) (cts:=[K (M b2 0),cH Cs r]) (post:=fun i=>[Z m2 25 b2 r1]) [Z m2 25 b2 register] [] J VG (SA b2 _ _ _ q_r1) (D J) ⟨(D J),d⟩ (fun _=>J)) J fun i1=>?_;refine(show RG _ _ _ _ [_] _ from ?_);refine aS<|dY V hN J ?_;exact bf (aT (ih (i+1) r1 ⟨dO V,h⟩) (bj J))

def OZ b{R}(h:vp b=some R):ir aV 55 [ep ((rI .u8)) b] false (rI .u8) 5 R:=by
 refine ir.of Tryz.func55 J J J fun w0 S0=>a8<|cz false (rI .u8) 5<|s (bZ u5)<|bp<|bm<|aO J<|G7 gZ (D J) J fun isnil hisnil=>bp<|qz (D J) (fun hc=>?_) (fun hc=>?_)
 ·have V:=hisnil hc
  have h:some p9=some R:=by simpa [vp,jb,V] using h
  exact a8<|cz false (rI .u8) 5<|s (bZ u5)<|cj<|aC<|so h▸lJ J J
 ·exact ji<|a8<|ov (r:=(rI .u8)) (ys:=p9) (xs:=[]) gZ rk J J J J J trivial J fun l c=>aO J<|bT h fun x q_x h=>cU rk J J J J gZ J J (D J) (D J) q_x fun l1 c1=>bk J<|so h▸lJ J J
def O0 b{R}(h:AX b=some R):ir aV 27 [ep ((rI .u8)) b] false (rI .u8) 5 R:=by
 refine ir.of Tryz.func27 J J J fun w0 S0=>a8<|cz false (rI .u8) 5<|s (bZ u5)<|bp<|ay J<|iw h WD (RR _) (eb J) fun r h=>aW J<|ay J<|uE h WC (OZ _) (eb J) fun r1 h l c=>aW J<|aP ?_;refine a8<|s (bU hI)<|bp<|aA<|bV<|fD<|qy ?_;refine aT (Kc (bx:=fun k i out l1 c1 n=>(4-i=k)/\sh k out n=some R) (Of:=fun _ i out l1 c1 n=>[cM (rI .u8) 5 l1 c1 out]) (Gf:=fun _ i out l1 c1 n=>[(3,tD m2 n),(4,pY l1 c1 out),(9,bA (i:Int))]) (fun i out l1 c1 n h=>?_) (fun k1 ih i out l1 c1 n h=>?_) 4 0 r1 l c r ⟨J,h⟩) (bj J)
 ·obtain⟨V,h⟩:=h
  exact d8<|a8<|s (ij (D J) hI)<|bp<|aP<|yE (D J) (TA V)<|dh<|aq<|aq<|bY<|aH<|ay J<|bk J<|so h▸lJ J J
 ·obtain⟨V,h⟩:=h
  refine d8<|a8<|s (ij (D J) hI)<|bp<|aP<|yD (D J) (Tz V)<|ji<|aP<|aA<|ay J<|aO J<|s (eP CT sD (D J))<|s (aY (r:=(rI .u8)) (ys:=[(IntKind.u8.wrap n)]) (xs:=[.tmp 13]) gZ rk J J J J J ⟨(D J),d⟩)<|bT h fun out1 q_out1 h=>cU rk J J J J gZ J J (D J) (D J) q_out1 fun l2 c2=>aW J<|av ?_;refine aO J<|s (yZ (D J) hI (by decide))<|gU J<|aS<|aF<|aH<|av<|s (Ag (Rr V (by decide)) (D J) hI)<|aO J<|aS ?_;exact bf (aT (ih (i+1) out1 l2 c2 ((n).fdiv QN) ⟨Rq V,h⟩) (bj J))
def RQ n{R}(h:pK n=some R):dy aV 56 [bA n] (gw R):=by
 exact eu Tryz.func56 J<|a8<|bE<|bp<|ay J<|s (gE (D J) hI)<|aO J<|ah J (cN J)<|ah J (fun X=>gu (bC J X) hI)<|cB J<|bk J<|so h▸aQ J J

def M7 s1 s2 eq{R}(h:dC s1 s2 eq=some R):dy aV 62 [ep (wG) s1,ep (wG) s2,(ke aV (fun(x:(List ap)×(List ap))=>[ep (be) x.1,ep (be) x.2]) nM (fun(x:(List ap)×(List ap))=>eq x.1 x.2))] (gw R):=by
 refine eu Tryz.func62 J<|a8<|bE<|bp<|bm<|aO J<|cw xq J<|aO J<|cw xq J<|s (jm (D J) (D J))<|dd h J (fun h=>?_) (fun h=>?_)
 ·exact a8<|bE<|cj<|aC<|so h▸aQ J J
 ·refine ji<|bm<|aO J<|cw xq J<|s (bU hI)<|bp<|aA<|bt (k:=15) J fun hN=>bV ?_;refine aT (gO (bx:=fun ls i=>(s1.drop i=ls)/\dl s2 eq ls i=some R) (Of:=fun _ i=>[]) (Gf:=fun _ i=>[(1,ep (wG) s2),(2,(ke aV (fun(x:(List ap)×(List ap))=>[ep (be) x.1,ep (be) x.2]) nM (fun(x:(List ap)×(List ap))=>eq x.1 x.2))),(15,ep (wG) s1),(16,nu s1),(17,bA (i:Int))]) (fun i h=>?_) (fun e tl ih i h=>?_) s1 0 ⟨J,h⟩) (bj J)
  ·obtain⟨V,h⟩:=h
   exact ft V J<|aH<|a8<|bE<|cj<|so h▸aQ J J
  ·obtain⟨V,h⟩:=h
   refine fq V J<|aP<|aA<|ay J<|fP xq FG J (eo V)<|gU J<|aW J<|ay J ?_;refine aO J<|bT h fun e1 q_e1 h=>fP xq FG J q_e1<|aW J<|ay J<|aO J<|aO J<|bT h fun r q_r h=>s (ko (args:=(fun(x:(List ap)×(List ap))=>[tD wG x.1,tD wG x.2])) (res:=xB) (f:=(fun(x:(List ap)×(List ap))=>eq x.1 x.2)) (x:=((e,e1):(List ap)×(List ap))) (D J) q_r ⟨(D J),(D J),d⟩)<|s (fH (D J))<|dd h J (fun h=>?_) (fun h=>?_)
   ·exact a8<|bE<|cj<|fa<|aC<|fa<|so h▸aQ J J
   ·refine bD<|dY V hN J ?_;exact bf (aT (ih (i+1) ⟨dO V,h⟩) (bj J))

def M6 s1 s2{R}(h:ig s1 s2=some R):dy aV 64 [ep (be) s1,ep (be) s2] (gw R):=by
 refine eu Tryz.func64 J<|a8<|bE<|bp<|bm<|aO J<|cw Cn J<|aO J<|cw Cn J<|s (jm (D J) (D J))<|dd h J (fun h=>?_) (fun h=>?_)
 ·exact a8<|bE<|cj<|aC<|so h▸aQ J J
 ·refine ji<|bm<|aO J<|cw Cn J<|s (bU hI)<|bp<|aA<|bt (k:=11) J fun hN=>bV ?_;refine aT (gO (bx:=fun ls i=>(s1.drop i=ls)/\gq s2 ls i=some R) (Of:=fun _ i=>[]) (Gf:=fun _ i=>[(0,ep (be) s1),(1,ep (be) s2),(12,nu s1),(13,bA (i:Int))]) (fun i h=>?_) (fun e tl ih i h=>?_) s1 0 ⟨J,h⟩) (bj J)
  ·obtain⟨V,h⟩:=h
   exact ft V J<|aH<|a8<|bE<|cj<|so h▸aQ J J
  ·obtain⟨V,h⟩:=h
   refine fq V J<|aP<|aA<|ay J<|aW J<|aP<|bT h fun e1 q_e1 h=>?_
   refine jV (ts:=[_,_,_,_,_,_,_,_,_]) mixed J J
    ⟨gx J J,
    ⟨gx J J,
    ⟨jz 16 0 17 1 J J J (Jh Cn cO J J J (eo V)),
    ⟨sH 2 cO J J,
    ⟨gx J J,
    ⟨gx J J,
    ⟨jz 20 4 21 5 J J J (Jh Cn cO J J J q_e1),
    ⟨sH 6 cO J J,
    ⟨jz 19 3 23 7 J J J (vH JW (D J) (D J)),
    d⟩⟩⟩⟩⟩⟩⟩⟩⟩ ?_
   refine aH<|iX h J (fun h=>?_) (fun h=>?_)
   ·exact a8<|bE<|cj<|fa<|aC<|fa<|so h▸aQ J J
   ·refine bD<|dY V hN J ?_;exact bf (aT (ih (i+1) ⟨dO V,h⟩) (bj J))

def RN p y{R}(h:q6 p y=some R):dy aV 63 [ep (be) p,ep (be) y] (gw R):=by
 exact eu Tryz.func63 J<|a8<|bE<|bp<|ay J<|aO J<|iw h Uj (M6 _ _) (eb J) fun r h=>bk J<|so h▸aQ J J

def RT a1 b{R}(h:sW a1 b=some R):dy aV 31 [tD fL a1,tD fL b] (gw R):=by
 refine eu Tryz.func31 J<|a8<|eG J<|eG J<|bE<|bp<|a8<|sG qf gY J<|bz xd nU HB J<|sG qf gY J<|bz xd nU HB J<|iw h Uk (M7 _ _ _) ⟨(D J),(D J),(MU Wx fun x y h=>RN _ _ h),d⟩ fun r h=>aW J<|a8<|sG BK pS J ?_;refine eJ bS J<|bz BK pS bS J<|s (dx (D J) (D J))<|aO J<|ah J (ca EK rM J J)<|ah J (b7 o3 J J)<|ah J (ca EK rM J J)<|ah J (b7 o3 J J)<|ah J (fun X=>dx (bC J X) (bC J X))<|cB J<|aO J<|ah J (ca xa mT J J)<|ah J (b7 oA J J)<|ah J (ca xa mT J J)<|ah J (b7 oA J J)<|ah J (fun X=>dx (bC J X) (bC J X))<|cB J<|aO J<|ah J (ca zf oo J J)<|ah J (b7 oA J J)<|ah J (ca zf oo J J)<|ah J (b7 oA J J)<|ah J (fun X=>dx (bC J X) (bC J X)) ?_;refine cB J<|aO J<|ah J (ca qf gY J J)<|ah J (fun X=>gG xc J nT J (bC J X))<|ah J (b7 yM J J)<|ah J (ca qf gY J J)<|ah J (fun X=>gG xc J nT J (bC J X))<|ah J (b7 yM J J)<|ah J (fun X=>EC Jd (bC J X) (bC J X))<|cB J<|aO J<|ah J (ca qf gY J J)<|ah J (fun X=>gG xb J nS J (bC J X))<|ah J (b7 oA J J)<|ah J (ca qf gY J J)<|ah J (fun X=>gG xb J nS J (bC J X))<|ah J (b7 oA J J)<|ah J (fun X=>dx (bC J X) (bC J X))<|cB J<|aO J<|ah J (cN J)<|cB J<|gU J<|aS ?_;exact aH<|pA<|so h▸aQ J J

def IB s1 s2{R}(h:kh s1 s2=some R):dy aV 66 [nj s1,nj s2] (gw R):=by
 refine eu Tryz.func66 J<|a8<|bE<|bp<|bm<|aO J<|cw er J<|aO J<|cw er J<|s (jm (D J) (D J))<|dd h J (fun h=>?_) (fun h=>?_)
 ·exact a8<|bE<|cj<|aC<|so h▸aQ J J
 ·refine ji<|bm<|aO J<|cw er J<|s (bU hI)<|bp<|aA<|bt (k:=11) J fun hN=>bV ?_;refine aT (gO (bx:=fun ls i=>(s1.drop i=ls)/\kZ s2 ls i=some R) (Of:=fun _ i=>[]) (Gf:=fun _ i=>[(0,nj s1),(1,nj s2),(12,nu s1),(13,bA (i:Int))]) (fun i h=>?_) (fun e tl ih i h=>?_) s1 0 ⟨J,h⟩) (bj J)
  ·obtain⟨V,h⟩:=h
   exact ft V J<|aH<|a8<|bE<|cj<|so h▸aQ J J
  ·obtain⟨V,h⟩:=h
   refine fq V J<|aP<|aA<|ay J<|aW J<|aP<|bT h fun e1 q_e1 h=>?_
   refine jV (ts:=[_,_,_,_,_,_,_,_,_]) mixed J J
    ⟨gx J J,
    ⟨gx J J,
    ⟨jz 16 0 17 1 J J J (Jh er bS J J J (eo V)),
    ⟨sH 2 bS J J,
    ⟨gx J J,
    ⟨gx J J,
    ⟨jz 20 4 21 5 J J J (Jh er bS J J J q_e1),
    ⟨sH 6 bS J J,
    ⟨jz 19 3 23 7 J J J (jm (D J) (D J)),
    d⟩⟩⟩⟩⟩⟩⟩⟩⟩ ?_
   refine aH<|iX h J (fun h=>?_) (fun h=>?_)
   ·exact a8<|bE<|cj<|fa<|aC<|fa<|so h▸aQ J J
   ·refine bD<|dY V hN J ?_;exact bf (aT (ih (i+1) ⟨dO V,h⟩) (bj J))

def RL s1 s2{R}(h:lN s1 s2=some R):dy aV 67 [ep (gB) s1,ep (gB) s2] (gw R):=by
 refine eu Tryz.func67 J<|a8<|bE<|bp<|bm<|aO J<|cw xp J<|aO J<|cw xp J<|s (jm (D J) (D J))<|dd h J (fun h=>?_) (fun h=>?_)
 ·exact a8<|bE<|cj<|aC<|so h▸aQ J J
 ·refine ji<|bm<|aO J<|cw xp J<|s (bU hI)<|bp<|aA<|bt (k:=11) J fun hN=>bV ?_;refine aT (gO (bx:=fun ls i=>(s1.drop i=ls)/\g9 s2 ls i=some R) (Of:=fun _ i=>[]) (Gf:=fun _ i=>[(0,ep (gB) s1),(1,ep (gB) s2),(12,nu s1),(13,bA (i:Int))]) (fun i h=>?_) (fun e tl ih i h=>?_) s1 0 ⟨J,h⟩) (bj J)
  ·obtain⟨V,h⟩:=h
   exact ft V J<|aH<|a8<|bE<|cj<|so h▸aQ J J
  ·obtain⟨V,h⟩:=h
   refine fq V J<|aP<|aA<|ay J<|aW J<|aP<|bT h fun e1 q_e1 h=>?_
   refine jV (ts:=[_,_,_,_,_,_,_,_,_]) mixed J J
    ⟨gx J J,
    ⟨gx J J,
    ⟨jz 16 0 17 1 J J J (Jh xp qR J J J (eo V)),
    ⟨sH 2 qR J J,
    ⟨gx J J,
    ⟨gx J J,
    ⟨jz 20 4 21 5 J J J (Jh xp qR J J J q_e1),
    ⟨sH 6 qR J J,
    ⟨jz 19 3 23 7 J J J (vH Uc (D J) (D J)),
    d⟩⟩⟩⟩⟩⟩⟩⟩⟩ ?_
   refine aH<|iX h J (fun h=>?_) (fun h=>?_)
   ·exact a8<|bE<|cj<|fa<|aC<|fa<|so h▸aQ J J
   ·refine bD<|dY V hN J ?_;exact bf (aT (ih (i+1) ⟨dO V,h⟩) (bj J))

def PD s1 s2{R}(h:ki s1 s2=some R):dy aV 119 [ep (bq) s1,ep (bq) s2] (gw R):=by
 refine eu Tryz.func119 J<|a8<|bE<|bp<|bm<|aO J<|cw sE J<|aO J<|cw sE J<|s (jm (D J) (D J))<|dd h J (fun h=>?_) (fun h=>?_)
 ·exact a8<|bE<|cj<|aC<|so h▸aQ J J
 ·refine ji<|bm<|aO J<|cw sE J<|s (bU hI)<|bp<|aA<|bt (k:=11) J fun hN=>bV ?_;refine aT (gO (bx:=fun ls i=>(s1.drop i=ls)/\fR s2 ls i=some R) (Of:=fun _ i=>[]) (Gf:=fun _ i=>[(0,ep (bq) s1),(1,ep (bq) s2),(12,nu s1),(13,bA (i:Int))]) (fun i h=>?_) (fun e tl ih i h=>?_) s1 0 ⟨J,h⟩) (bj J)
  ·obtain⟨V,h⟩:=h
   exact ft V J<|aH<|a8<|bE<|cj<|so h▸aQ J J
  ·obtain⟨V,h⟩:=h
   refine fq V J<|aP<|aA<|ay J<|aW J<|aP<|bT h fun e1 q_e1 h=>?_
   refine jV (ts:=[_,_,_,_,_,_,_,_,_]) mixed J J
    ⟨gx J J,
    ⟨gx J J,
    ⟨jz 16 0 17 1 J J J (Jh sE jd J J J (eo V)),
    ⟨sH 2 jd J J,
    ⟨gx J J,
    ⟨gx J J,
    ⟨jz 20 4 21 5 J J J (Jh sE jd J J J q_e1),
    ⟨sH 6 jd J J,
    ⟨jz 19 3 23 7 J J J (vH Ub (D J) (D J)),
    d⟩⟩⟩⟩⟩⟩⟩⟩⟩ ?_
   refine aH<|iX h J (fun h=>?_) (fun h=>?_)
   ·exact a8<|bE<|cj<|fa<|aC<|fa<|so h▸aQ J J
   ·refine bD<|dY V hN J ?_;exact bf (aT (ih (i+1) ⟨dO V,h⟩) (bj J))

def IA a1 b{R}(h:vN a1 b=some R):dy aV 69 [tD cD a1,tD cD b] (gw R):=by
 exact eu Tryz.func69 J<|a8<|eG J<|eG J<|bE<|bp<|a8<|bz ra lk AS J<|bz ra lk AS J<|iw h VB (PD _ _) (eb J) fun r h=>bk J<|so h▸aQ J J

def RK p q{R}(h:sm p q=some R):dy aV 68 [tD eV p,tD eV q] (gw R):=by
 refine eu Tryz.func68 J<|a8<|eG J<|eG J<|bE<|bp<|a8<|bz nh ll bS J<|bz nh ll bS J<|s (dx (D J) (D J))<|aO J<|bT h fun t q_t h=>ah J (ca rR pT J J)<|ah J (b7 kX J J)<|ah J (ca rR pT J J)<|ah J (b7 kX J J) ?_
 obtain⟨r,h1t,h0t⟩:=og q_t
 have q_rg:=fun W=>(h1t W).1
 exact ah J (fun X=>c7 SL (IA _ _ (q_rg X)) ⟨(bC J X),(bC J X),d⟩)<|s (cA (D J) (fun W=>(bC J W)) (fun W=>(h1t W).2) h0t)<|bk J<|so h▸aQ J J

def RJ s1 s2 eq{R}(h:fF s1 s2 eq=some R):dy aV 70 [ep (eV) s1,ep (eV) s2,(ke aV N4 nM (fun(x:fj×fj)=>eq x.1 x.2))] (gw R):=by
 refine eu Tryz.func70 J<|a8<|bE<|bp<|bm<|aO J<|cw p7 J<|aO J<|cw p7 J<|s (jm (D J) (D J))<|dd h J (fun h=>?_) (fun h=>?_)
 ·exact a8<|bE<|cj<|aC<|so h▸aQ J J
 ·refine ji<|bm<|aO J<|cw p7 J<|s (bU hI)<|bp<|aA<|bt (k:=15) J fun hN=>bV ?_;refine aT (gO (bx:=fun ls i=>(s1.drop i=ls)/\dm s2 eq ls i=some R) (Of:=fun _ i=>[]) (Gf:=fun _ i=>[(1,ep (eV) s2),(2,(ke aV N4 nM (fun(x:fj×fj)=>eq x.1 x.2))),(15,ep (eV) s1),(16,nu s1),(17,bA (i:Int))]) (fun i h=>?_) (fun e tl ih i h=>?_) s1 0 ⟨J,h⟩) (bj J)
  ·obtain⟨V,h⟩:=h
   exact ft V J<|aH<|a8<|bE<|cj<|so h▸aQ J J
  ·obtain⟨V,h⟩:=h
   refine fq V J<|aP<|aA<|ay J<|fP p7 kc J (eo V)<|bw kc tm J fun b=>gU J<|bG kc aB J<|bg 8 J<|bp<|aP ?_;refine av<|aO J<|aO J<|bT h fun e1 q_e1 h=>fP p7 kc J q_e1<|bw kc tm J fun b1=>bG kc aB J<|bg 9 J<|bp<|ay J<|eJ kc J<|eJ kc J<|bT h fun r q_r h=>s (ko (args:=N4) (res:=xB) (f:=(fun(x:fj×fj)=>eq x.1 x.2)) (x:=((e,e1):fj×fj)) (D J) q_r ⟨(D J),(D J),d⟩)<|s (fH (D J))<|dd h J (fun h=>?_) (fun h=>?_)
   ·exact a8<|bE<|cj<|fa<|aC<|fa<|so h▸aQ J J
   ·refine bD<|dY V hN J ?_;exact bf (aT (ih (i+1) ⟨dO V,h⟩) (bj J))

end Go.Proofs.YtdohlidddcgfjaaGreat

