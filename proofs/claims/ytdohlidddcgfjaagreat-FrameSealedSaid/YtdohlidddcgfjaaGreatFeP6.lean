/- bO of this claim: P6. -/
import Derived.Test.YtdohlidddcgfjaaGreatFeT
import Derived.Test.YtdohlidddcgfjaaGreatFeP5
set_option linter.all false
namespace Go.Proofs.YtdohlidddcgfjaaGreat
open Go
set_option maxRecDepth 100000

def Sq l o{R}(h:lR l o=some R):dV a8 208 [tD ia o,c8 (Y0 br) l] (gA R):=by
 refine fb Tryz.func208 J<|be<|fv J<|bL<|bt<|aS ?_
 refine kE (ts:=[_,_,_,_,_,_,_,_,_,_,_,_,_,_]) mixed J J
  ⟨JA 2 J J (vF GB zw J J),
  ⟨tY 0 bW J J,
  ⟨fW 5 1 J J (iC (D J) hI),
  ⟨fW 6 2 J J (lz J),
  ⟨D3 2 7 3 J J J (nO J J J J (fun V=>vF GB zw J J)),
  ⟨tB 8 4 7 3 J J J (nO J J J J (fun V=>jV bW J J (bJ J V))),
  ⟨D3 1 7 3 J J J (nO J J J J (fun V=>(Cf Cp J J).imp (fun _ _ h=>Ro.1 h))),
  ⟨tB 10 6 7 3 J J J (nO J J J J (fun V=>RK (bJ J V))),
  ⟨tB 11 7 7 3 J J J (nO J J J J (fun V=>ig jg J od J (bJ J V))),
  ⟨tB 12 8 7 3 J J J (nO J J J J (fun V=>jV c0 J J (bJ J V))),
  ⟨tB 13 9 7 3 J J J (nO J J J J (fun V=>lS fc (bJ J V))),
  ⟨OJ 9 5 14 10 7 3 J J J J (nO J J J J (fun V=>ie (bJ J V) (bJ J V))),
  ⟨j9 7 3 15 11 J J J (V9 J J),
  ⟨fW 16 12 J J (Js J),
  d⟩⟩⟩⟩⟩⟩⟩⟩⟩⟩⟩⟩⟩⟩ ?_
 exact aG<|qD<|so h▸aW J J

def Vq(b:Nat)(ix:OI) l{R}(h:jp l=some R):bf a8 173 [K (M b 0)] (ei b l ix) (fun _:OI=>gA R.1) (fun j=>ei b R.2 j):=by
 refine bf.of Tryz.func173 J J J fun w0 S0=>?_;refine(show CG _ _ _ [Z (rH br [(1,au (ix.h 0).1 (ix.h 0).2 l.kinds.length),(2,au (ix.h 1).1 (ix.h 1).2 l.open_.length)]) 168 b l,tip oz 69 (ix.h 0).1 (ix.h 0).2 l.kinds,de bN 3 (ix.h 1).1 (ix.h 1).2 l.open_] _ from ?_);refine be<|Q (RN (fun _ _ h=>by rw [show _=_ from h];rfl) (D J))<|bL<|bt<|aS ?_
 refine q7 7 (ts:=[K (M b 0),K (M b 0),K (M b 0),K (M b 15),oo l.a_,K (M b 0),K (M b 17)]) mixed J J J
  ⟨JA 1 J J (ue Cp (D J)),
  ⟨JA 1 J J (ue Cp (D J)),
  ⟨fW 5 1 J J (aA (D J)),
  ⟨fW 6 2 J J (nR 15 jg J J J),
  ⟨fW 7 3 J J (aD (r:=rH br [(1,au (ix.h 0).1 (ix.h 0).2 l.kinds.length),(2,au (ix.h 1).1 (ix.h 1).2 l.open_.length)]) (x:=l) c0 J J (ee od) (.head _) (D J)),
  ⟨fW 4 0 J J (aA (D J)),
  ⟨fW 9 5 J J (nR 17 fH J J J),
  d⟩⟩⟩⟩⟩⟩⟩ ?_
 refine eE (dc c0 J (nq (hs' :=[(1,au (ix.h 0).1 (ix.h 0).2 l.kinds.length),(2,au (ix.h 1).1 (ix.h 1).2 l.open_.length)]) rG ⟨.inr ⟨J,J⟩,.inr ⟨J,J⟩,d⟩ J) J (D J) (D J)) fun i=>?_;refine(show RG _ _ _ _ [_,_,_] _ from ?_);refine bt<|be<|Q (ue Cp (D J))<|Q (aA (D J))<|aT 3 gH J<|aT 13 td J<|Q (aD (r:=rH br [(1,au (ix.h 0).1 (ix.h 0).2 l.kinds.length),(2,au (ix.h 1).1 (ix.h 1).2 l.open_.length)]) (x:=({l with result:=l.a_}:al)) HE J J (ee (d5 fh nI)) (.head _) (D J))<|Q ((show cm _ _ _ _ (OZ br ({l with result:=l.a_}:al) b ((kU a8 OD oR (fun(x:kF)=>(lR ({l with result:=l.a_}:al)) x))))from Gn (cts:=[c8 (Y0 br) ({l with result:=l.a_}:al)]) (caps:=[.tmp 1]) X1 (fun S S1 a hf hle hk=>Ck (Ld (D J) hf hle hk) trivial) (fun x y h=>Sq _ _ h)))<|bK h fun r q_r h=>Q (Pq (r:=rH br [(1,au (ix.h 0).1 (ix.h 0).2 l.kinds.length),(2,au (ix.h 1).1 (ix.h 1).2 l.open_.length)]) (rd:=br) (T:=168) (b:=b) (x:=({l with result:=l.a_}:al)) (y:=({l with result:=l.a_}:al)) (.head _) X2 (Sr _ _ q_r) (fun _ _ _ _ h=>h.1) (fun S S1 a hf hle hk=>Ck (Wf (D J) hf hle) (Ck (Rj (D J) hf hle hk) trivial)) Rq)<|aX J<|ay J<|Q (gg (D J))<|aQ J<|ai J (fun V=>ue Cp (D J))<|ai J (fun V=>aA (bJ J V))<|ai J (fun V=>bQ (n:=3) gH J (bJ J V) J)<|ai J (fun V=>bQ (n:=13) td J (bJ J V) J) ?_;refine ai J (fun V=>aD (r:=rH br [(1,au (ix.h 0).1 (ix.h 0).2 l.kinds.length),(2,au (ix.h 1).1 (ix.h 1).2 l.open_.length)]) (x:=({l with result:=l.a_}:al)) HE J J (ee (d5 fh nI)) (.head _) (bJ J V))<|ai J (m2 yO J)<|ai J (fun V=>gy (bJ J V) hI)<|cU J<|aQ J<|ai J (fun V=>ue Cp (D J))<|ai J (fun V=>aA (bJ J V))<|ai J (fun V=>bQ (n:=3) gH J (bJ J V) J)<|ai J (fun V=>bQ (n:=14) u0 J (bJ J V) J)<|ai J (fun V=>aD (r:=rH br [(1,au (ix.h 0).1 (ix.h 0).2 l.kinds.length),(2,au (ix.h 1).1 (ix.h 1).2 l.open_.length)]) (x:=({l with result:=l.a_}:al)) bW J J (ee (d5 fh po)) (.head _) (bJ J V))<|ai J (fun V=>ie (bJ J V) hI)<|cU J<|aQ J<|ai J (fun V=>ue Cp (D J))<|ai J (fun V=>aA (bJ J V))<|ai J (fun V=>bQ (n:=3) gH J (bJ J V) J)<|ai J (fun V=>bQ (n:=14) u0 J (bJ J V) J)<|ai J (fun V=>aD (r:=rH br [(1,au (ix.h 0).1 (ix.h 0).2 l.kinds.length),(2,au (ix.h 1).1 (ix.h 1).2 l.open_.length)]) (x:=({l with result:=l.a_}:al)) bW J J (ee (d5 fh po)) (.head _) (bJ J V))<|ai J (fun V=>gy (bJ J V) hI)<|cU J<|bk J ?_;exact aH<|aH<|aH<|so h▸bA J ix J J (fun _ _ h=>h)

def SK{R}(h:mL=some R):dV a8 126 [] (Wn (fun y:(al->Unit->Option (Bool×al))=>oT (fun bb=>eC a8 (fun(x:Unit)=>[K (M bb 0)]) (ei bb) oR y)) (Tq .i64) R):=by
 refine fb Tryz.func126 J<|be<|Q (b9 (show aI _ _ (.const (.map none)) (K (.map none))from fun _ _ _=>J))<|bt<|be<|DB (L6 (fun y:(al->Unit->Option (Bool×al))=>oT (fun bb=>eC a8 (fun(x:Unit)=>[K (M bb 0)]) (ei bb) oR y))) (Tq .i64) J fun b=>jE (γ:=(fun y:(al->Unit->Option (Bool×al))=>oT (fun bb=>eC a8 (fun(x:Unit)=>[K (M bb 0)]) (ei bb) oR y))) (y:=(fun(mc:al) (mx:Unit)=>jq mc)) Bv (iE kI) (D J) (sK hI) (show aI _ _ _ (oT (fun bb=>eC a8 (fun(x:Unit)=>[K (M bb 0)]) (ei bb) oR (fun(mc:al) (mx:Unit)=>jq mc)))from(C0 fun bb=>nD Yu (fun c x R h i=>VB _ _ _ h))) fun os=>jE (γ:=(fun y:(al->Unit->Option (Bool×al))=>oT (fun bb=>eC a8 (fun(x:Unit)=>[K (M bb 0)]) (ei bb) oR y))) (y:=(fun(mc:al) (mx:Unit)=>iB mc)) Bv (iE kI) (D J) (sK hI) (show aI _ _ _ (oT (fun bb=>eC a8 (fun(x:Unit)=>[K (M bb 0)]) (ei bb) oR (fun(mc:al) (mx:Unit)=>iB mc)))from(C0 fun bb=>nD Yt (fun c x R h i=>VA _ _ _ h))) fun os1=>jE (γ:=(fun y:(al->Unit->Option (Bool×al))=>oT (fun bb=>eC a8 (fun(x:Unit)=>[K (M bb 0)]) (ei bb) oR y))) (y:=(fun(mc:al) (mx:Unit)=>gx mc)) Bv (iE kI) (D J) (sK hI) (show aI _ _ _ (oT (fun bb=>eC a8 (fun(x:Unit)=>[K (M bb 0)]) (ei bb) oR (fun(mc:al) (mx:Unit)=>gx mc)))from(C0 fun bb=>nD Ys (fun c x R h i=>Vz _ _ _ h))) fun os2=>jE (γ:=(fun y:(al->Unit->Option (Bool×al))=>oT (fun bb=>eC a8 (fun(x:Unit)=>[K (M bb 0)]) (ei bb) oR y))) (y:=(fun(mc:al) (mx:Unit)=>fd mc)) Bv (iE kI) (D J) (sK hI) (show aI _ _ _ (oT (fun bb=>eC a8 (fun(x:Unit)=>[K (M bb 0)]) (ei bb) oR (fun(mc:al) (mx:Unit)=>fd mc)))from(C0 fun bb=>nD Yr (fun c x R h i=>Vy _ _ _ h))) fun os3=>jE (γ:=(fun y:(al->Unit->Option (Bool×al))=>oT (fun bb=>eC a8 (fun(x:Unit)=>[K (M bb 0)]) (ei bb) oR y))) (y:=(fun(mc:al) (mx:Unit)=>d7 mc)) Bv (iE kI) (D J) (sK hI) (show aI _ _ _ (oT (fun bb=>eC a8 (fun(x:Unit)=>[K (M bb 0)]) (ei bb) oR (fun(mc:al) (mx:Unit)=>d7 mc)))from(C0 fun bb=>nD TN (fun c x R h i=>Vx _ _ _ h))) fun os4=>jE (γ:=(fun y:(al->Unit->Option (Bool×al))=>oT (fun bb=>eC a8 (fun(x:Unit)=>[K (M bb 0)]) (ei bb) oR y))) (y:=(fun(mc:al) (mx:Unit)=>eJ mc)) Bv (iE kI) (D J) (sK hI) (show aI _ _ _ (oT (fun bb=>eC a8 (fun(x:Unit)=>[K (M bb 0)]) (ei bb) oR (fun(mc:al) (mx:Unit)=>eJ mc)))from(C0 fun bb=>nD Yq (fun c x R h i=>Vv _ _ _ h))) fun os5=>jE (γ:=(fun y:(al->Unit->Option (Bool×al))=>oT (fun bb=>eC a8 (fun(x:Unit)=>[K (M bb 0)]) (ei bb) oR y))) (y:=(fun(mc:al) (mx:Unit)=>d8 mc)) Bv (iE kI) (D J) (sK hI) (show aI _ _ _ (oT (fun bb=>eC a8 (fun(x:Unit)=>[K (M bb 0)]) (ei bb) oR (fun(mc:al) (mx:Unit)=>d8 mc)))from(C0 fun bb=>nD Yp (fun c x R h i=>Vu _ _ _ h))) fun os6=>jE (γ:=(fun y:(al->Unit->Option (Bool×al))=>oT (fun bb=>eC a8 (fun(x:Unit)=>[K (M bb 0)]) (ei bb) oR y))) (y:=(fun(mc:al) (mx:Unit)=>ib mc)) Bv (iE kI) (D J) (sK hI) (show aI _ _ _ (oT (fun bb=>eC a8 (fun(x:Unit)=>[K (M bb 0)]) (ei bb) oR (fun(mc:al) (mx:Unit)=>ib mc)))from(C0 fun bb=>nD Yo (fun c x R h i=>Vt _ _ _ h))) fun os7=>jE (γ:=(fun y:(al->Unit->Option (Bool×al))=>oT (fun bb=>eC a8 (fun(x:Unit)=>[K (M bb 0)]) (ei bb) oR y))) (y:=(fun(mc:al) (mx:Unit)=>kM mc)) Bv (iE kI) (D J) (sK hI) (show aI _ _ _ (oT (fun bb=>eC a8 (fun(x:Unit)=>[K (M bb 0)]) (ei bb) oR (fun(mc:al) (mx:Unit)=>kM mc)))from(C0 fun bb=>nD Yn (fun c x R h i=>Vs _ _ _ h))) fun os8=>jE (γ:=(fun y:(al->Unit->Option (Bool×al))=>oT (fun bb=>eC a8 (fun(x:Unit)=>[K (M bb 0)]) (ei bb) oR y))) (y:=(fun(mc:al) (mx:Unit)=>iA mc)) Bv (iE kI) (D J) (sK hI) (show aI _ _ _ (oT (fun bb=>eC a8 (fun(x:Unit)=>[K (M bb 0)]) (ei bb) oR (fun(mc:al) (mx:Unit)=>iA mc)))from(C0 fun bb=>nD Ym (fun c x R h i=>Vr _ _ _ h))) fun os9=>jE (γ:=(fun y:(al->Unit->Option (Bool×al))=>oT (fun bb=>eC a8 (fun(x:Unit)=>[K (M bb 0)]) (ei bb) oR y))) (y:=(fun(mc:al) (mx:Unit)=>jp mc)) Bv (iE kI) (D J) (sK hI) (show aI _ _ _ (oT (fun bb=>eC a8 (fun(x:Unit)=>[K (M bb 0)]) (ei bb) oR (fun(mc:al) (mx:Unit)=>jp mc)))from(C0 fun bb=>nD Yl (fun c x R h i=>Vq _ _ _ h))) fun os10=>aQ J<|aX J ?_;exact qD<|Jq 0 J<|so h▸aW J J

def SC op{R}(h:uM op=some R):dV a8 174 [bw op] (bw R):=by
 refine fb Tryz.func174 J<|be<|cJ<|bt<|bp<|aQ J<|bt<|aC ?_;refine iy (bx:=fun x=>qJ op x=some R) (Of:=fun x=>[]) (Gf:=fun x=>[(3,bw op),(4,gA x)]) (fun x h=>?_) (fun tV=>?_)
 ·skip
  refine iY h J (fun h=>?_) (fun h=>?_)
  ·exact be<|gm<|fJ<|so h▸aW J J
  ·refine iy (bx:=fun x1=>qI op x1=some R) (Of:=fun x1=>[]) (Gf:=fun x1=>[(3,bw op),(7,gA x1)]) (fun x1 h=>?_) (fun K1=>?_)
   ·skip
    refine iY h J (fun h=>?_) (fun h=>?_)
    ·exact be<|gm<|fJ<|so h▸aW J J
    ·refine iy (bx:=fun x2=>jc x2=some R) (Of:=fun x2=>[]) (Gf:=fun x2=>[(10,gA x2)]) (fun x2 h=>?_) (fun K2=>?_)
     ·skip
      refine iY h J (fun h=>?_) (fun h=>?_)
      ·exact be<|gm<|fJ<|so h▸aW J J
      ·exact bG<|aE<|aG<|be<|gm<|so h▸aW J J
     ·skip
      refine be<|bP J<|aX J<|iY h J (fun h=>?_) (fun h=>?_)
      ·refine bG ?_;exact bU (K2 (op==(3:Int)) h) (bq J)
      ·refine be<|bP J<|aX J<|iY h J (fun h=>?_) (fun h=>?_)
       ·refine bG ?_;exact bU (K2 (op==(4:Int)) h) (bq J)
       ·refine be<|bP J<|aX J<|iY h J (fun h=>?_) (fun h=>?_)
        ·refine bG ?_;exact bU (K2 (op==(5:Int)) h) (bq J)
        ·refine be<|bP J<|aX J<|iY h J (fun h=>?_) (fun h=>?_)
         ·refine bG ?_;exact bU (K2 (op==(6:Int)) h) (bq J)
         ·refine be<|bP J<|aX J<|iY h J (fun h=>?_) (fun h=>?_)
          ·refine bG ?_;exact bU (K2 (op==(8:Int)) h) (bq J)
          ·refine be<|bP J<|aX J<|iY h J (fun h=>?_) (fun h=>?_)
           ·refine bG ?_;exact bU (K2 (op==(10:Int)) h) (bq J)
           ·refine av<|bP J<|gB J<|aU ?_;exact bU (K2 (op==(11:Int)) h) (bq J)
   ·skip
    refine be<|bP J<|aX J<|iY h J (fun h=>?_) (fun h=>?_)
    ·refine bG ?_;exact bU (K1 (op==(2:Int)) h) (bq J)
    ·refine av<|bP J<|gB J<|aU ?_;exact bU (K1 (op==(7:Int)) h) (bq J)
 ·skip
  refine be<|bP J<|aX J<|iY h J (fun h=>?_) (fun h=>?_)
  ·refine bG ?_;exact bU (tV (op==(1:Int)) h) (bq J)
  ·refine av<|bP J<|gB J<|aU ?_;exact bU (tV (op==(9:Int)) h) (bq J)

def SB n{R}(h:ql n=some R):dV a8 175 [tD bl n] (gA R):=by
 refine fb Tryz.func175 J<|be<|fv J<|bL<|bt<|aS ?_
 refine kE (ts:=[_,_,_,_,_,_,_,_,_,_,_,_,_,_,_,_,_,_,_,_,_,_,_]) mixed J J
  ⟨JA 1 J J (vF ln em J J),
  ⟨tY 0 bW J J,
  ⟨fW 7 1 J J (YX J),
  ⟨fW 8 2 J J (lz J),
  ⟨D3 1 9 3 J J J (nO J J J J (fun V=>vF ln em J J)),
  ⟨tB 10 4 9 3 J J J (nO J J J J (fun V=>jV bW J J (bJ J V))),
  ⟨tB 11 5 9 3 J J J (nO J J J J (fun V=>dW (bJ J V) hI)),
  ⟨j9 9 3 12 6 J J J (V9 J J),
  ⟨JA 1 J J (vF ln em J J),
  ⟨tY 8 bW J J,
  ⟨fW 15 9 J J (YX J),
  ⟨fW 16 10 J J (lz J),
  ⟨D3 1 17 11 J J J (nO J J J J (fun V=>vF ln em J J)),
  ⟨tB 18 12 17 11 J J J (nO J J J J (fun V=>jV bW J J (bJ J V))),
  ⟨tB 19 13 17 11 J J J (nO J J J J (fun V=>dW (bJ J V) hI)),
  ⟨j9 17 11 20 14 J J J (V9 J J),
  ⟨fW 21 15 J J (lz J),
  ⟨D3 1 22 16 J J J (nO J J J J (fun V=>vF ln em J J)),
  ⟨tB 23 17 22 16 J J J (nO J J J J (fun V=>jV bW J J (bJ J V))),
  ⟨tB 24 18 22 16 J J J (nO J J J J (fun V=>dW (bJ J V) hI)),
  ⟨j9 22 16 25 19 J J J (V9 J J),
  ⟨fW 13 7 J J (Js J),
  ⟨fW 26 20 J J (Js J),
  d⟩⟩⟩⟩⟩⟩⟩⟩⟩⟩⟩⟩⟩⟩⟩⟩⟩⟩⟩⟩⟩⟩⟩ ?_
 refine aG<|ay J<|aQ J<|b8 J (cq uZ nH J J)<|b8 J (ck bW J J)<|b8 J (lr J)<|b8 J (sO J)<|iO J J J J (fun V=>vF qw jJ J J)<|iO J J J J (fun V=>jV c0 J J (bJ J V))<|iO J J J J (fun V=>lS fc (bJ J V))<|iO J J J J (fun V=>dW (bJ J V) hI)<|b8 J (fun V=>oU (bJ J V) (fun W=>(bJ J (yK V W))))<|kG J<|aX J<|ay J<|aQ J<|ai J (cq ln em J J)<|ai J (ck bW J J) ?_;refine ai J (lr J)<|ai J (sO J)<|dw J J J J (fun V=>vF Dc uW J J)<|dw J J J J (fun V=>jV yM J J (bJ J V))<|dw J J J J (fun V=>gg (bJ J V))<|ai J (fun V=>mO (bJ J V) (fun W=>(bJ J (yK V (Au W)))))<|cU J<|aQ J<|ai J (cq ln em J J)<|ai J (ck bW J J)<|ai J (lr J)<|ai J (sO J)<|dw J J J J (fun V=>vF ln em J J)<|dw J J J J (fun V=>jV bW J J (bJ J V))<|dw J J J J (fun V=>dW (bJ J V) hI)<|ai J (fun V=>mO (bJ J V) (fun W=>(bJ J (yK V (Au W)))))<|ai J (sO J)<|dw J J J J (fun V=>vF uY oY J J)<|dw J J J J (fun V=>ig ss J lW J (bJ J V))<|dw J J J J (fun V=>jV Cn J J (bJ J V))<|dw J J J J (fun V=>lS tU (bJ J V))<|dw J J J J (fun V=>dW (bJ J V) hI)<|ai J (fun V=>mO (bJ J V) (fun W=>(bJ J (yK V (Au W)))))<|cU J ?_;refine aX J<|ay J<|aQ J<|ai J (dd J)<|ai J (sO J)<|dw J J J J (fun V=>vF pS iW J J)<|dw J J J J (fun V=>jV c0 J J (bJ J V))<|dw J J J J (fun V=>lS fc (bJ J V))<|dw J J J J (fun V=>vF ox gL J J)<|dw J J J J (fun V=>jV xq J J (bJ J V))<|dw J J J J (fun V=>lS q9 (bJ J V))<|dw J J J J (fun V=>fq (bJ J V) (bJ J V))<|dw J J J J (fun V=>dW (bJ J V) hI)<|ai J (fun V=>mO (bJ J V) (fun W=>(bJ J (yK V (Au W)))))<|cU J<|aQ J<|ai J (cq ln em J J)<|ai J (ck bW J J)<|ai J (lr J)<|ai J (sO J) ?_;refine dw J J J J (fun V=>vF yx qu J J)<|dw J J J J (fun V=>jV JN J J (bJ J V))<|dw J J J J (fun V=>lS Ac (bJ J V))<|dw J J J J (fun V=>dW (bJ J V) hI)<|ai J (fun V=>mO (bJ J V) (fun W=>(bJ J (yK V (Au W)))))<|cU J<|aX J<|ay J<|aQ J<|ai J (cq ln em J J)<|ai J (ck bW J J)<|ai J (lr J)<|ai J (sO J)<|dw J J J J (fun V=>vF td nI J J)<|dw J J J J (fun V=>jV HE J J (bJ J V))<|dw J J J J (fun V=>lS yO (bJ J V))<|dw J J J J (fun V=>dW (bJ J V) hI)<|dw J J J J (fun V=>ca (bJ J V))<|iO J J J J (fun V=>vF u0 po J J)<|iO J J J J (fun V=>jV bW J J (bJ J V)) ?_;exact iO J J J J (fun V=>dW (bJ J V) hI)<|dw J J J J (fun V=>oU (bJ J V) (fun W=>(bJ J (yK V W))))<|ai J (fun V=>mO (bJ J V) (fun W=>(bJ J (yK V (Au W)))))<|cU J<|bk J<|so h▸aW J J

def Sp h3 v{R}(h:np h3 v=some R):dV a8 209 [oo h3,bw v] (bw R):=by
 refine fb Tryz.func209 J<|be<|cJ<|bt<|bp<|aQ J<|cM fc J<|Q (ca hI)<|bt<|aC<|bD (k:=6) J fun hN=>b7 ?_;refine aZ (iu (bx:=fun ls i=>(h3.drop i=ls)/\gT v ls i=some R) (Of:=fun _ i=>[]) (Gf:=fun _ i=>[(0,oo h3),(1,bw v),(7,oA h3),(8,bw (i:Int))]) (fun i h=>?_) (fun e tl ih i h=>?_) h3 0 ⟨J,h⟩) (bq J)
 ·obtain⟨X,h⟩:=h
  exact fY X J<|aG<|be<|gm<|so h▸aW J J
 ·obtain⟨X,h⟩:=h
  refine fX X J<|aS<|aC<|ay J<|aX J<|ay J<|aQ J<|aQ J<|EK fc bW J (fa X) ?_;refine fP bW J<|Q (dW (D J) (D J))<|di h J (fun h=>?_) (fun h=>?_)
  ·exact ay J<|bk J<|fJ<|aF<|fJ<|so h▸aW J J
  ·refine bG<|eu X hN J ?_;exact bm (aZ (ih (i+1) ⟨ej X,h⟩) (bq J))

def SA h3 v{R}(h:fL h3 v=some R):dV a8 176 [oo h3,bw v] (gA R):=by
 exact fb Tryz.func176 J<|be<|bL<|bt<|ay J<|aQ J<|iI h X0 (Sp _ _) (ez J) fun r h=>Q (ie (D J) hI)<|bk J<|so h▸aW J J

def VG(b:Nat)(ix:OI) l i ask{R}(h:dA l i ask=some R):bf a8 127 [K (M b 0),bw i,oT (fun bb=>eC a8 (fun(x:Unit)=>[K (M bb 0)]) (ei bb) oR ask)] (ei b l ix) (fun _:OI=>gA R.1) (fun j=>ei b R.2 j):=by
 refine bf.of Tryz.func127 J J J fun w0 S0=>?_;refine(show CG _ _ _ [Z (rH br [(1,au (ix.h 0).1 (ix.h 0).2 l.kinds.length),(2,au (ix.h 1).1 (ix.h 1).2 l.open_.length)]) 168 b l,tip oz 69 (ix.h 0).1 (ix.h 0).2 l.kinds,de bN 3 (ix.h 1).1 (ix.h 1).2 l.open_] _ from ?_);refine be<|bL<|bt<|ay J<|Q (aA (D J))<|aT 0 GA J<|Q (aD (r:=rH br [(1,au (ix.h 0).1 (ix.h 0).2 l.kinds.length),(2,au (ix.h 1).1 (ix.h 1).2 l.open_.length)]) (x:=l) F2 J J (ee AA) (.head _) (D J))<|aQ J<|bK h fun e q_e h=>gq vy ge J q_e<|bz ge kR J fun b1=>bu ge ax J<|bh 7 J<|bt<|be<|bI ln em bW J ?_;refine iI h Yk (SC _) (ez J) fun r h=>aX J<|bp<|aQ J<|Q (iC (D J) hI)<|aQ J<|b8 J (dd J)<|b8 J (dd J)<|b8 J (fun V=>aA (bJ J V))<|b8 J (fun V=>bQ (n:=2) rx J (bJ J V) J)<|b8 J (fun V=>cL c0 J (.head _) (bJ J V))<|b8 J (fun V=>iD fc (.tail _ (.tail _ (.head _))) (bJ J V))<|b8 J (fun V=>jW (bJ J V) (bJ J V))<|kG J<|aQ J<|bK h fun t q_t h=>b8 J (fun V=>Cf ge J J) ?_
 obtain⟨r1,h1t,h0t⟩:=og q_t
 have q_r1g:=fun W=>(h1t W).1
 refine b8 J (fun V=>dx Yj (SB _ (q_r1g V)) ⟨(bJ J V),d⟩)<|b8 J (y3 J)<|Q (ym (D J) (fun W=>(bJ J (Au W))) (fun W=>(h1t W).2) h0t)<|bt<|pY (D J) (fun hc=>?_) (fun hc=>?_)
 ·have h:=ct h hc;exact be<|bL<|co<|aF<|aH<|aH<|aH<|so h▸bA J ix J J (fun _ _ h=>h)
 ·have h:=cf h hc;refine jv<|be<|Q (rJ (r:=bN) (ys:=[Bx,Bx]) (xs:=[.const (.int .i64 (-1)),.const (.int .i64 (-1))]) B9 bW J xB J J ⟨hI,hI,d⟩)<|bz (r:=(mZ bN 2)) (x:=(List.replicate 2 (0:Int))) xB (fun _=>zS (r:=bN) 2 (fun _=>J) _) J fun b2=>bu xB ax J<|bt<|aS<|bK h fun y q_y h=>?_
  refine q7 13 (ts:=[K (.slice (some ⟨b2,0,none⟩) 2 2),K (M b 0),K (M b 0),K (M b 2),qP (ix.h 1).1 (ix.h 1).2 l.open_,K (M b 0),K (M b 0),K (M b 2),qP (ix.h 1).1 (ix.h 1).2 l.open_,oA l.open_,bw r,bw (IntKind.i64.wrap ((l.open_.length:Int)-r)),K (mX 1 (ix.h 1).1 (ix.h 1).2 (IntKind.i64.wrap ((l.open_.length:Int)-r)).toNat y.length)]) mixed J J J
   ⟨JA 9 J J (Im B9 (Rm bW) (D J)),
   ⟨hT J J,
   ⟨fW 42 1 J J (aA (D J)),
   ⟨fW 43 2 J J (nR 2 rx J J J),
   ⟨fW 44 3 J J (cL c0 J (.tail _ (.head _)) (D J)),
   ⟨hT J J,
   ⟨fW 46 5 J J (aA (D J)),
   ⟨fW 47 6 J J (nR 2 rx J J J),
   ⟨fW 48 7 J J (cL c0 J (.tail _ (.head _)) (D J)),
   ⟨fW 49 8 J J (iD fc (.tail _ (.tail _ (.tail _ (.head _)))) (D J)),
   ⟨hT J J,
   ⟨j9 50 9 51 10 J J J (ic (D J) (D J)),
   ⟨j9 45 4 52 11 J J J (pg fc bW J (.tail _ (.tail _ (.tail _ (.head _)))) (D J) (D J) q_y),
   d⟩⟩⟩⟩⟩⟩⟩⟩⟩⟩⟩⟩⟩ ?_
  refine pW (.tail _ (.tail _ (.tail _ (.head _)))) q_y fun hv=>aK (GP (.tail _ (.tail _ (.tail _ (.head _)))) q_y fc (F1 bW) (D J) (D J)) J fun i1=>?_;refine(show RG _ _ _ _ [_,_,_,_] ((54,bw ((min y.length 2:Nat):Int))::_)from ?_);refine bt<|bp<|Q (aD (x:=(ol ([Bx,Bx]) y)) xB J J bj (.head _) (D J))<|bI rh uX bW J<|bI sr yw bW J<|Q (rJ (r:=bN) (ys:=[e.A,e.B]) (xs:=[.tmp 57,.tmp 59]) B9 bW J xB J J ⟨(D J),(D J),d⟩)<|Q (w7 Tz (D J) (D J))<|bt<|pY (D J) (fun hc=>?_) (fun hc=>?_)
  ·have h:=ct h hc;exact be<|bL<|co<|aF<|aY<|aH<|aH<|aH<|so h▸bA J ix J J (fun _ _ h=>h)
  ·have h:=cf h hc;refine jv<|ay J<|aQ J<|aQ J<|fP ge J<|Q (aA (D J))<|aT 3 gH J<|eE (EffOK.fr1 (dc ge J (nq (hs' :=[(1,au (ix.h 0).1 (ix.h 0).2 l.kinds.length),(2,au (ix.h 1).1 (ix.h 1).2 l.open_.length)]) Nb ⟨.inr ⟨J,J⟩,.inr ⟨J,J⟩,d⟩ J) J (D J) (D J))) fun i2=>?_;refine(show RG _ _ _ _ [_,_,_,_] _ from ?_);refine Q (aA (D J))<|aT 15 jg J<|eE (dc c0 J (nq (hs' :=[(1,au (ix.h 0).1 (ix.h 0).2 l.kinds.length),(2,au (ix.h 1).1 (ix.h 1).2 l.open_.length)]) EW ⟨.inr ⟨J,J⟩,.inr ⟨J,J⟩,d⟩ J) J (D J) RY) fun i3=>?_;refine(show RG _ _ _ _ [_,_,_,_] _ from ?_);refine Q (aA (D J))<|aT 16 zE J<|eE (dc c0 J (nq (hs' :=[(1,au (ix.h 0).1 (ix.h 0).2 l.kinds.length),(2,au (ix.h 1).1 (ix.h 1).2 l.open_.length)]) EV ⟨.inr ⟨J,J⟩,.inr ⟨J,J⟩,d⟩ J) J (D J) RY) fun i4=>?_;refine(show RG _ _ _ _ [_,_,_,_] _ from ?_);refine bt<|aS<|aS<|bK h fun y1 q_y1 h=>?_
   refine kE (ts:=[_,_,_,_,_,_,_,_,_,_,_,_,_,_]) mixed J J
    ⟨hT J J,
    ⟨fW 72 0 J J (aA (D J)),
    ⟨fW 73 1 J J (nR 2 rx J J J),
    ⟨fW 74 2 J J (cL c0 J (.head _) (D J)),
    ⟨hT J J,
    ⟨fW 76 4 J J (aA (D J)),
    ⟨fW 77 5 J J (nR 2 rx J J J),
    ⟨fW 78 6 J J (cL c0 J (.head _) (D J)),
    ⟨fW 79 7 J J (iD fc (.tail _ (.tail _ (.tail _ (.head _)))) (D J)),
    ⟨hT J J,
    ⟨j9 80 8 81 9 J J J (ic (D J) (D J)),
    ⟨j9 75 3 82 10 J J J (pg fc bW J (.tail _ (.tail _ (.tail _ (.head _)))) (D J) (D J) q_y1),
    ⟨fW 83 11 J J (LX fc (.tail _ (.tail _ (.tail _ (.head _)))) q_y1 (D J)),
    ⟨zd0 J (ca hI),
    d⟩⟩⟩⟩⟩⟩⟩⟩⟩⟩⟩⟩⟩⟩ ?_
   refine aG<|aC<|He (.tail _ (.tail _ (.tail _ (.head _)))) q_y1 fun hv1=>?_
   have hN:=hv1.2
   refine b7<|gc<|rE ?_;refine aZ (DI (bx:=fun ls i5 a_ b3=>(y1.drop i5=ls)/\bc l i ask e r ls i5 a_ b3=some R) (Of:=fun _ i5 a_ b3=>[Z (rH br [(1,au (ix.h 0).1 (ix.h 0).2 l.kinds.length),(2,au (ix.h 1).1 (ix.h 1).2 l.open_.length)]) 168 b ({({({({({l with n:=e}:al)with a_:=[]}:al)with b:=[]}:al)with a_:=a_}:al)with b:=b3}:al),tip oz 69 (ix.h 0).1 (ix.h 0).2 l.kinds,de bN 3 (ix.h 1).1 (ix.h 1).2 l.open_]) (Gf:=fun _ i5 a_ b3=>[(0,K (M b 0)),(1,bw i),(2,oT (fun bb=>eC a8 (fun(x:Unit)=>[K (M bb 0)]) (ei bb) oR ask)),(7,c8 bl e),(8,bw r),(83,K (mX 1 (ix.h 1).1 (ix.h 1).2 (IntKind.i64.wrap ((l.open_.length:Int)-r)).toNat y1.length)),(84,oA y1),(85,bw (i5:Int))]) (fun i5 a_ b3 h=>?_) (fun e1 tl ih i5 a_ b3 h=>?_) y1 0 (({({({l with n:=e}:al)with a_:=[]}:al)with b:=[]}:al).a_) (({({({l with n:=e}:al)with a_:=[]}:al)with b:=[]}:al).b) ⟨J,h⟩) (bq J)
   ·obtain⟨X,h⟩:=h
    refine fY X J<|aG<|be<|bI ln em bW J<|bP J<|aQ J<|b8 J (cq ln em J J)<|b8 J (ck bW J J)<|b8 J (lr J)<|kG J<|gB J ?_;refine bt<|bp<|aQ J<|aQ J<|ai J (dd J)<|ai J (dd J)<|ai J (fun V=>aA (bJ J V))<|ai J (fun V=>bQ (n:=0) GA J (bJ J V) J)<|ai J (fun V=>aD (r:=rH br [(1,au (ix.h 0).1 (ix.h 0).2 l.kinds.length),(2,au (ix.h 1).1 (ix.h 1).2 l.open_.length)]) (x:=({({({({({l with n:=e}:al)with a_:=[]}:al)with b:=[]}:al)with a_:=a_}:al)with b:=b3}:al)) F2 J J (ee AA) (.head _) (bJ J V))<|ai J (m2 vy J)<|ai J (fun V=>ic (bJ J V) hI)<|ai J (fun V=>jU (bJ J V) (bJ J V))<|cU J<|aQ J ?_;refine sy (((e.Op==(8:Int))||(e.Op==(10:Int)))&&(i !=(IntKind.i64.wrap (((({({({({({l with n:=e}:al)with a_:=[]}:al)with b:=[]}:al)with a_:=a_}:al)with b:=b3}:al).nodes).length:Int)-(1:Int))))) (fun V=>?_) (fun V=>?_)
    ·have h:=ct h V;refine dB J J J V J<|dB J J J V J<|dB J J J V J<|dB J J J V J<|Q (ph (D J) V Tv)<|aQ J<|dB J J J J J<|dB J J J J J<|dB J J J J J<|dB J J J J J<|dB J J J J J<|dB J J J J J<|Q (ph (D J) J Tv)<|bt<|pY (D J) (fun hc=>?_) (fun hc=>?_)
     ·exact be<|bL<|co<|aF<|aH<|aH<|aH<|so h▸bA J ix J J (fun _ _ h=>h)
     ·cases hc
    ·have h:=cf h V;refine fZ J J J V<|aQ J<|fZ J J J V<|aQ J<|fZ J J J V<|bK h fun r2 q_r2 h=>aK (EffOK.fr2 (EffOK.fr2 (EffOK.fr2 (zJ (args:=(fun(x:Unit)=>[K (M b 0)])) (Ob:=ei b) (res:=oR) (f:=ask) (x:=({({({({({l with n:=e}:al)with a_:=[]}:al)with b:=[]}:al)with a_:=a_}:al)with b:=b3}:al)) (y:=(():Unit)) (R:=r2) (i:=ix) (xs:=[.tmp 136]) _ J (WJ (t:=(fun bb=>eC a8 (fun(x:Unit)=>[K (M bb 0)]) (ei bb) oR ask)) b (D J)) q_r2 ⟨(D J),d⟩ (fun _=>J))))) J fun i6=>?_;refine(show RG _ _ _ _ [_,_,_] ((137,gA r2.1)::_)from ?_);refine fZ J J J V<|Q (gg (D J))<|Q (nZ (D J) V (D J))<|aQ J<|b8 J (dd J)<|b8 J (fun V=>aA (bJ J V))<|b8 J (fun V=>bQ (n:=17) fH J (bJ J V) J)<|b8 J (fun V=>aD (r:=rH br [(1,au (i6.h 0).1 (i6.h 0).2 r2.2.kinds.length),(2,au (i6.h 1).1 (i6.h 1).2 r2.2.open_.length)]) (x:=r2.2) c0 J J (ee Az) (.head _) (bJ J V))<|b8 J (m2 fc J)<|b8 J (fun V=>jW (bJ J V) hI)<|kG J<|di h J (fun h=>?_) (fun h=>?_)
     ·exact be<|bL<|co<|aF<|aH<|aH<|aH<|so h▸bA J i6 J J (fun _ _ h=>h)
     ·refine jv<|aS<|bK h fun l1 q_l1 h=>bK h fun y2 q_y2 h=>bK h fun l2 q_l2 h=>?_
      refine iv 30 [tc (K (M b 0)),tc (K (M b 0)),tc (K (M b 0)),tc (K (M b 0)),tc (K (M b 1)),tc (tO oz (i6.h 0).1 (i6.h 0).2 r2.2.kinds),tc (K (M b 0)),tc (K (M b 0)),tc (K (M b 17)),tc (oo r2.2.result),tc (eg (oz) ([r2.2.result])),([11],fun h3=>tO oz ((h3.getD 0 jj).h 0).1 ((h3.getD 0 jj).h 0).2 l1),tc (K (M b 0)),tc (K (M b 0)),tc (K (M b 2)),tc (qP (i6.h 1).1 (i6.h 1).2 r2.2.open_),tc (K (M b 0)),tc (K (M b 0)),tc (K (M b 2)),tc (qP (i6.h 1).1 (i6.h 1).2 r2.2.open_),tc (oA r2.2.open_),tc (bw r),tc (bw (IntKind.i64.wrap ((r2.2.open_.length:Int)-r))),tc (qP (i6.h 1).1 (i6.h 1).2 y2),tc (bw i),tc (oo ([i])),([26],fun h3=>K (au ((h3.getD 0 jj).h 0).1 ((h3.getD 0 jj).h 0).2 l2.length)),tc (K (M b 0)),tc (K (M b 1)),tc (Cs)] [false,false,false,false,false,false,false,false,false,false,false,true,false,false,false,false,false,false,false,false,false,false,false,false,false,false,true,false,false,true] [fun _=>[Z (rH br [(1,au (i6.h 0).1 (i6.h 0).2 r2.2.kinds.length),(2,au (i6.h 1).1 (i6.h 1).2 r2.2.open_.length)]) 168 b r2.2,tip oz 69 (i6.h 0).1 (i6.h 0).2 r2.2.kinds,de bN 3 (i6.h 1).1 (i6.h 1).2 r2.2.open_],fun sg=>[tip oz 69 ((sg 11).h 0).1 ((sg 11).h 0).2 l1,Z (rH br [(1,au (i6.h 0).1 (i6.h 0).2 r2.2.kinds.length),(2,au (i6.h 1).1 (i6.h 1).2 r2.2.open_.length)]) 168 b r2.2,de bN 3 (i6.h 1).1 (i6.h 1).2 r2.2.open_],fun sg=>[de bN 3 ((sg 26).h 0).1 ((sg 26).h 0).2 l2,tip oz 69 ((sg 11).h 0).1 ((sg 11).h 0).2 l1,Z (rH br [(1,au (i6.h 0).1 (i6.h 0).2 r2.2.kinds.length),(2,au (i6.h 1).1 (i6.h 1).2 r2.2.open_.length)]) 168 b r2.2],fun sg=>[Z (rH br [(1,au ((sg 11).h 0).1 ((sg 11).h 0).2 l1.length),(2,au (i6.h 1).1 (i6.h 1).2 r2.2.open_.length)]) 168 b ({r2.2 with kinds:=l1}:al),de bN 3 ((sg 26).h 0).1 ((sg 26).h 0).2 l2,tip oz 69 ((sg 11).h 0).1 ((sg 11).h 0).2 l1]] J mixed J J J J J
       ⟨⟨[⟨0,fun _=>K (M b 0),none⟩],_,0,2,J,⟨(fun _=>J),d⟩,J,J,J,J,J,fun _ sg _ _=>ac J (lz J)⟩,
       ⟨⟨[⟨0,fun _=>K (M b 0),none⟩],_,0,3,J,⟨(fun _=>J),d⟩,J,J,J,J,J,fun _ sg _ _=>ac J (lz J)⟩,
       ⟨⟨[⟨0,fun _=>K (M b 0),none⟩],_,0,0,J,⟨(fun _=>J),d⟩,J,J,J,J,J,fun _ sg _ _=>ac J (lz J)⟩,
       ⟨⟨[⟨150,fun _=>K (M b 0),some 2⟩],_,0,0,J,⟨(fun _=>J),d⟩,J,J,J,J,J,fun _ sg _ _=>ac J (aA (D J))⟩,
       ⟨⟨[⟨151,fun _=>K (M b 0),some 3⟩],_,0,0,J,⟨(fun _=>J),d⟩,J,J,J,J,J,fun _ sg _ _=>ac J (nR 1 BS J J J)⟩,
       ⟨⟨[⟨152,fun _=>K (M b 1),some 4⟩],_,0,0,J,⟨(fun _=>J),d⟩,J,J,J,J,J,mW (fun sg=>ac J (mE Rn J (.head _) (.tail _ (.head _)) (D J)))⟩,
       ⟨⟨[⟨0,fun _=>K (M b 0),none⟩],_,0,0,J,⟨(fun _=>J),d⟩,J,J,J,J,J,fun _ sg _ _=>ac J (lz J)⟩,
       ⟨⟨[⟨154,fun _=>K (M b 0),some 6⟩],_,0,0,J,⟨(fun _=>J),d⟩,J,J,J,J,J,fun _ sg _ _=>ac J (aA (D J))⟩,
       ⟨⟨[⟨155,fun _=>K (M b 0),some 7⟩],_,0,0,J,⟨(fun _=>J),d⟩,J,J,J,J,J,fun _ sg _ _=>ac J (nR 17 fH J J J)⟩,
       ⟨⟨[⟨156,fun _=>K (M b 17),some 8⟩],_,0,0,J,⟨(fun _=>J),d⟩,J,J,J,J,J,mW (fun sg=>ac J (aD (r:=rH br [(1,au (i6.h 0).1 (i6.h 0).2 r2.2.kinds.length),(2,au (i6.h 1).1 (i6.h 1).2 r2.2.open_.length)]) (x:=r2.2) c0 J J (ee Az) (.head _) (D J)))⟩,
       ⟨⟨[⟨157,fun _=>tD xX r2.2.result,some 9⟩],_,0,0,J,⟨(fun _=>J),d⟩,J,J,J,J,J,fun _ sg _ _=>ac J (ba (r:=xX) (ys:=[r2.2.result]) (xs:=[.tmp 157]) Bu c0 J J J J J ⟨(D J),d⟩)⟩,
       ⟨⟨[⟨153,fun _=>tO xX (i6.h 0).1 (i6.h 0).2 r2.2.kinds,some 5⟩,⟨158,fun _=>tD (gE xX) ([r2.2.result]),some 10⟩],_,J,⟨(fun _=>J),(fun _=>J),d⟩,J,J,J,fun sg=>bT J (EffOK.fr1 (I5 c0 J J J J Bu J (D J) (D J) q_l1))⟩,
       ⟨⟨[⟨0,fun _=>K (M b 0),none⟩],_,0,1,J,⟨(fun _=>J),d⟩,J,J,J,J,J,fun _ sg _ _=>ac J (lz J)⟩,
       ⟨⟨[⟨160,fun _=>K (M b 0),some 12⟩],_,0,1,J,⟨(fun _=>J),d⟩,J,J,J,J,J,fun _ sg _ _=>ac J (aA (D J))⟩,
       ⟨⟨[⟨161,fun _=>K (M b 0),some 13⟩],_,0,1,J,⟨(fun _=>J),d⟩,J,J,J,J,J,fun _ sg _ _=>ac J (nR 2 rx J J J)⟩,
       ⟨⟨[⟨162,fun _=>K (M b 2),some 14⟩],_,0,1,J,⟨(fun _=>J),d⟩,J,J,J,J,J,By (fun sg=>ac J (cL c0 J (.head _) (D J))) (mW (fun sg=>ac J (cL c0 J (.tail _ (.head _)) (D J))))⟩,
       ⟨⟨[⟨0,fun _=>K (M b 0),none⟩],_,0,1,J,⟨(fun _=>J),d⟩,J,J,J,J,J,fun _ sg _ _=>ac J (lz J)⟩,
       ⟨⟨[⟨164,fun _=>K (M b 0),some 16⟩],_,0,1,J,⟨(fun _=>J),d⟩,J,J,J,J,J,fun _ sg _ _=>ac J (aA (D J))⟩,
       ⟨⟨[⟨165,fun _=>K (M b 0),some 17⟩],_,0,1,J,⟨(fun _=>J),d⟩,J,J,J,J,J,fun _ sg _ _=>ac J (nR 2 rx J J J)⟩,
       ⟨⟨[⟨166,fun _=>K (M b 2),some 18⟩],_,0,1,J,⟨(fun _=>J),d⟩,J,J,J,J,J,By (fun sg=>ac J (cL c0 J (.head _) (D J))) (mW (fun sg=>ac J (cL c0 J (.tail _ (.head _)) (D J))))⟩,
       ⟨⟨[⟨167,fun _=>K (au (i6.h 1).1 (i6.h 1).2 r2.2.open_.length),some 19⟩],_,0,1,J,⟨(fun _=>J),d⟩,J,J,J,J,J,By (fun sg=>ac J (iD fc (.tail _ (.tail _ (.head _))) (D J))) (mW (fun sg=>ac J (iD fc (.tail _ (.tail _ (.head _))) (D J))))⟩,
       ⟨⟨[⟨8,fun _=>tD bN r,none⟩],_,0,1,J,⟨(fun _=>J),d⟩,J,J,J,J,J,fun _ sg _ _=>ac J (lz J)⟩,
       ⟨⟨[⟨168,fun _=>tD bN (r2.2.open_.length:Int),some 20⟩,⟨169,fun _=>tD bN r,some 21⟩],_,0,1,J,⟨(fun _=>J),(fun _=>J),d⟩,J,J,J,J,J,fun _ sg _ _=>ac J (ic (D J) (D J))⟩,
       ⟨⟨[⟨163,fun _=>K (au (i6.h 1).1 (i6.h 1).2 r2.2.open_.length),some 15⟩,⟨170,fun _=>tD bN (IntKind.i64.wrap ((r2.2.open_.length:Int)-r)),some 22⟩],_,0,1,J,⟨(fun _=>J),(fun _=>J),d⟩,J,J,J,J,J,By (fun sg=>ac J (nC fc bW J (.tail _ (.tail _ (.head _))) (D J) (D J) q_y2)) (mW (fun sg=>ac J (nC fc bW J (.tail _ (.tail _ (.head _))) (D J) (D J) q_y2)))⟩,
       ⟨⟨[⟨1,fun _=>tD bN i,none⟩],_,0,1,J,⟨(fun _=>J),d⟩,J,J,J,J,J,fun _ sg _ _=>ac J (lz J)⟩,
       ⟨⟨[⟨172,fun _=>tD bN i,some 24⟩],_,0,1,J,⟨(fun _=>J),d⟩,J,J,J,J,J,fun _ sg _ _=>ac J (ba (r:=bN) (ys:=[i]) (xs:=[.tmp 172]) fc bW J J J J J ⟨(D J),d⟩)⟩,
       ⟨⟨[⟨171,fun _=>K (au (i6.h 1).1 (i6.h 1).2 y2.length),some 23⟩,⟨173,fun _=>tD xX ([i]),some 25⟩],_,J,⟨(fun _=>J),(fun _=>J),d⟩,J,J,J,fun sg=>bT J (EffOK.fr2 (Lp q_y2 (tk bW J J J J fc J (D J) (D J) q_l2)))⟩,
       ⟨⟨[⟨148,fun _=>K (M b 0),some 0⟩],_,2,2,J,⟨(fun _=>J),d⟩,J,J,J,J,J,fun _ sg _ _=>ac J (aA (D J))⟩,
       ⟨⟨[⟨175,fun _=>K (M b 0),some 27⟩],_,2,2,J,⟨(fun _=>J),d⟩,J,J,J,J,J,fun _ sg _ _=>ac J (nR 1 BS J J J)⟩,
       ⟨⟨[⟨176,fun _=>K (M b 1),some 28⟩,⟨159,fun sg=>tO xX ((sg 11).h 0).1 ((sg 11).h 0).2 l1,some 11⟩],_,J,⟨(fun _=>J),(fun _=>J),d⟩,J,J,J,fun sg=>bT J (EffOK.fr2 (lp (hs' :=[(1,au ((sg 11).h 0).1 ((sg 11).h 0).2 l1.length),(2,au (i6.h 1).1 (i6.h 1).2 r2.2.open_.length)]) (u:=au ((sg 11).h 0).1 ((sg 11).h 0).2 l1.length) Rn J J Nf J ⟨.inl ⟨J,J,J⟩,.inr ⟨J,J⟩,d⟩ (D J) (rb (D J)) (BA (D J))))⟩,
       d⟩⟩⟩⟩⟩⟩⟩⟩⟩⟩⟩⟩⟩⟩⟩⟩⟩⟩⟩⟩⟩⟩⟩⟩⟩⟩⟩⟩⟩⟩ (fun sg=>?_)
      refine(show RG _ _ _ _ [_,_,_] _ from ?_);refine Q (aA (D J))<|aT 2 rx J<|eE (lp (hs' :=[(1,au ((sg 11).h 0).1 ((sg 11).h 0).2 l1.length),(2,au ((sg 26).h 0).1 ((sg 26).h 0).2 l2.length)]) (u:=au ((sg 26).h 0).1 ((sg 26).h 0).2 l2.length) c0 J J Nc J ⟨.inr ⟨J,J⟩,.inl ⟨J,J,J⟩,d⟩ (D J) (Zu (y:=l2) (D J) Ih) (D J)) fun i7=>?_;refine(show RG _ _ _ _ [_,_,_] _ from ?_);exact bt<|be<|bL<|co<|af<|aH<|aH<|so h▸bA J (p9 [(((sg 11).h 0).1,((sg 11).h 0).2),(((sg 26).h 0).1,((sg 26).h 0).2)]) J J (fun _ _ h=>h)
   ·obtain⟨X,h⟩:=h
    refine fX X J<|aS<|aC<|ay J<|Q (xK fc bW J (.tail _ (.tail _ (.head _))) q_y1 (D J) (D J) (fa X))<|Q (mF (r:=bN) (i:=((IntKind.i64.wrap ((l.open_.length:Int)-r))+(i5:Int))) (foff:=0) bW J J bj J (.tail _ (.tail _ (.head _))) (yc q_y1 (fa X)).1 (D J))<|gB J<|aX J<|ay J ?_;refine Q (aA (D J))<|aT 1 BS J<|Q (mE Rn J (.head _) (.tail _ (.head _)) (D J))<|aQ J<|bK h fun e2 q_e2 h=>Q (uN Bu c0 J (rb (D J)) (D J) q_e2)<|fP c0 J<|aX J<|bp<|bI ln em bW J<|oj J<|aQ J<|bK h fun t1 q_t1 h=>ai J (dd J) ?_
    obtain⟨r3,h1t1,h0t1⟩:=og q_t1
    have q_r3g:=fun W=>(h1t1 W).1
    refine ai J (fun V=>dx Yi (SA _ _ (q_r3g V)) ⟨(bJ J V),hI,d⟩)<|Q (cR (D J) (fun W=>(bJ J W)) (fun W=>(h1t1 W).2) h0t1)<|di h J (fun h=>?_) (fun h=>?_)
    ·exact be<|bL<|co<|aF<|fJ<|aF<|fJ<|aH<|aH<|aH<|so h▸bA J ix J J (fun _ _ h=>h)
    ·refine jv<|ay J<|bP J<|di h J (fun h=>?_) (fun h=>?_)
     ·refine av<|aQ J<|aQ J<|Q (aA (D J))<|aT 15 jg J<|eE (dc c0 J (nq (hs' :=[(1,au (ix.h 0).1 (ix.h 0).2 l.kinds.length),(2,au (ix.h 1).1 (ix.h 1).2 l.open_.length)]) EW ⟨.inr ⟨J,J⟩,.inr ⟨J,J⟩,d⟩ J) J (D J) (D J)) fun i8=>?_;refine(show RG _ _ _ _ [_,_,_] _ from ?_);refine aU<|eu X hN J ?_;exact bm (aZ (ih (i5+1) (({({({({({({l with n:=e}:al)with a_:=[]}:al)with b:=[]}:al)with a_:=a_}:al)with b:=b3}:al)with a_:=e2}:al).a_) (({({({({({({l with n:=e}:al)with a_:=[]}:al)with b:=[]}:al)with a_:=a_}:al)with b:=b3}:al)with a_:=e2}:al).b) ⟨ej X,h⟩) (bq J))
     ·refine av<|aQ J<|aQ J<|Q (aA (D J))<|aT 16 zE J<|eE (dc c0 J (nq (hs' :=[(1,au (ix.h 0).1 (ix.h 0).2 l.kinds.length),(2,au (ix.h 1).1 (ix.h 1).2 l.open_.length)]) EV ⟨.inr ⟨J,J⟩,.inr ⟨J,J⟩,d⟩ J) J (D J) (D J)) fun i9=>?_;refine(show RG _ _ _ _ [_,_,_] _ from ?_);refine aU<|eu X hN J ?_;exact bm (aZ (ih (i5+1) (({({({({({({l with n:=e}:al)with a_:=[]}:al)with b:=[]}:al)with a_:=a_}:al)with b:=b3}:al)with b:=e2}:al).a_) (({({({({({({l with n:=e}:al)with a_:=[]}:al)with b:=[]}:al)with a_:=a_}:al)with b:=b3}:al)with b:=e2}:al).b) ⟨ej X,h⟩) (bq J))

end Go.Proofs.YtdohlidddcgfjaaGreat

