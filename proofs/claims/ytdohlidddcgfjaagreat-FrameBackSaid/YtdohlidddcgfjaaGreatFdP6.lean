/- bT of this claim: P6. -/
import Derived.Test.YtdohlidddcgfjaaGreatFdT
import Derived.Test.YtdohlidddcgfjaaGreatFdP5
set_option linter.all false
namespace Go.Proofs.YtdohlidddcgfjaaGreat
open Go
set_option maxRecDepth 100000

def U6 l o{R}(h:mE l o=some R):dJ aY 208 [tD iA o,df (rPt bu) l] (gI R):=by
 refine eX Tryz.func208 J<|a8<|eZ J<|bA<|br<|aT ?_
 refine kM (ts:=[_,_,_,_,_,_,_,_,_,_,_,_,_,_]) mixed J J
  ⟨Lr 2 J J (w6 Iz A8 J J),
  ⟨u7 0 b9 J J,
  ⟨gk 5 1 J J (iZ (D J) hI),
  ⟨gk 6 2 J J (lQ J),
  ⟨Ax 2 7 3 J J J (kK J J J J (fun H=>w6 Iz A8 J J)),
  ⟨uJ 8 4 7 3 J J J (kK J J J J (fun H=>kE b9 J J (bL J H))),
  ⟨Ax 1 7 3 J J J (kK J J J J (fun H=>(BA DW J J).imp (fun _ _ h=>TY.1 h))),
  ⟨uJ 10 6 7 3 J J J (kK J J J J (fun H=>Uq (bL J H))),
  ⟨uJ 11 7 7 3 J J J (kK J J J J (fun H=>gB jI J o9 J (bL J H))),
  ⟨uJ 12 8 7 3 J J J (kK J J J J (fun H=>kE c0 J J (bL J H))),
  ⟨uJ 13 9 7 3 J J J (kK J J J J (fun H=>mG fx (bL J H))),
  ⟨Gd 9 5 14 10 7 3 J J J J (kK J J J J (fun H=>iJ (bL J H) (bL J H))),
  ⟨kx 7 3 15 11 J J J (Zh J J),
  ⟨gk 16 12 J J (Jo J),
  aM⟩⟩⟩⟩⟩⟩⟩⟩⟩⟩⟩⟩⟩⟩ ?_
 exact aG<|qU<|so h▸aN J J

def Yj(b:Nat)(ix:OI) l{R}(h:jQ l=some R):bk aY 173 [Z (M b 0)] (eG b l ix) (fun _:OI=>gI R.1) (fun j=>eG b R.2 j):=by
 refine bk.of Tryz.func173 J J J fun w0 S0=>?_;refine(show CG _ _ _ [Q (rH bu [(1,au (ix.h 0).1 (ix.h 0).2 l.kinds.length),(2,au (ix.h 1).1 (ix.h 1).2 l.open_.length)]) 168 b l,tip po 69 (ix.h 0).1 (ix.h 0).2 l.kinds,dk bP 3 (ix.h 1).1 (ix.h 1).2 l.open_] _ from ?_);refine a8<|s (Ut (fun _ _ h=>by rw [show _=_ from h];rfl) (D J))<|bA<|br<|aT ?_
 refine se 7 (ts:=[Z (M b 0),Z (M b 0),Z (M b 0),Z (M b 15),pi l.a_,Z (M b 0),Z (M b 17)]) mixed J J J
  ⟨Lr 1 J J (vl DW (D J)),
  ⟨Lr 1 J J (vl DW (D J)),
  ⟨gk 5 1 J J (aC (D J)),
  ⟨gk 6 2 J J (oK 15 jI J J J),
  ⟨gk 7 3 J J (aE (r:=rH bu [(1,au (ix.h 0).1 (ix.h 0).2 l.kinds.length),(2,au (ix.h 1).1 (ix.h 1).2 l.open_.length)]) (x:=l) c0 J J (eD o9) (.head _) (D J)),
  ⟨gk 4 0 J J (aC (D J)),
  ⟨gk 9 5 J J (oK 17 gc J J J),
  aM⟩⟩⟩⟩⟩⟩⟩ ?_
 refine eW (dj c0 J (n7 (hs' :=[(1,au (ix.h 0).1 (ix.h 0).2 l.kinds.length),(2,au (ix.h 1).1 (ix.h 1).2 l.open_.length)]) sR ⟨.inr ⟨J,J⟩,.inr ⟨J,J⟩,aM⟩ J) J (D J) (D J)) fun i=>?_;refine(show RG _ _ _ _ [_,_,_] _ from ?_);refine br<|a8<|s (vl DW (D J))<|s (aC (D J))<|aW 3 hU J<|aW 13 sH J<|s (aE (r:=rH bu [(1,au (ix.h 0).1 (ix.h 0).2 l.kinds.length),(2,au (ix.h 1).1 (ix.h 1).2 l.open_.length)]) (x:=({l with result:=l.a_}:al)) HJ J J (eD (eh fO mU)) (.head _) (D J))<|s ((show cr _ _ _ _ (Rj bu ({l with result:=l.a_}:al) b ((lF aY QR pN (fun(x:kg)=>(mE ({l with result:=l.a_}:al)) x))))from Ih (cts:=[df (rPt bu) ({l with result:=l.a_}:al)]) (caps:=[.tmp 1]) aba (fun S S1 a hf hle hk=>DU (M4 (D J) hf hle hk) trivial) (fun x y h=>U6 _ _ h)))<|bM h fun r q_r h=>s (RX (r:=rH bu [(1,au (ix.h 0).1 (ix.h 0).2 l.kinds.length),(2,au (ix.h 1).1 (ix.h 1).2 l.open_.length)]) (rd:=bu) (T:=168) (b:=b) (x:=({l with result:=l.a_}:al)) (y:=({l with result:=l.a_}:al)) (.head _) abb (U7 _ _ q_r) (fun _ _ _ _ h=>h.1) (fun S S1 a hf hle hk=>DU (Zn (D J) hf hle) (DU (TR (D J) hf hle hk) trivial)) TZ)<|aZ J<|aB J<|s (gG (D J))<|aS J<|ai J (fun H=>vl DW (D J))<|ai J (fun H=>aC (bL J H))<|ai J (fun H=>bU (n:=3) hU J (bL J H) J)<|ai J (fun H=>bU (n:=13) sH J (bL J H) J) ?_;refine ai J (fun H=>aE (r:=rH bu [(1,au (ix.h 0).1 (ix.h 0).2 l.kinds.length),(2,au (ix.h 1).1 (ix.h 1).2 l.open_.length)]) (x:=({l with result:=l.a_}:al)) HJ J J (eD (eh fO mU)) (.head _) (bL J H))<|ai J (ma yT J)<|ai J (fun H=>g9 (bL J H) hI)<|c8 J<|aS J<|ai J (fun H=>vl DW (D J))<|ai J (fun H=>aC (bL J H))<|ai J (fun H=>bU (n:=3) hU J (bL J H) J)<|ai J (fun H=>bU (n:=14) wi J (bL J H) J)<|ai J (fun H=>aE (r:=rH bu [(1,au (ix.h 0).1 (ix.h 0).2 l.kinds.length),(2,au (ix.h 1).1 (ix.h 1).2 l.open_.length)]) (x:=({l with result:=l.a_}:al)) b9 J J (eD (eh fO qk)) (.head _) (bL J H))<|ai J (fun H=>iJ (bL J H) hI)<|c8 J<|aS J<|ai J (fun H=>vl DW (D J))<|ai J (fun H=>aC (bL J H))<|ai J (fun H=>bU (n:=3) hU J (bL J H) J)<|ai J (fun H=>bU (n:=14) wi J (bL J H) J)<|ai J (fun H=>aE (r:=rH bu [(1,au (ix.h 0).1 (ix.h 0).2 l.kinds.length),(2,au (ix.h 1).1 (ix.h 1).2 l.open_.length)]) (x:=({l with result:=l.a_}:al)) b9 J J (eD (eh fO qk)) (.head _) (bL J H))<|ai J (fun H=>g9 (bL J H) hI)<|c8 J<|bq J ?_;exact aH<|aH<|aH<|so h▸bF J ix J J (fun _ _ h=>h)

def Vm{R}(h:lz=some R):dJ aY 126 [] (ZK (fun y:(al->Unit->Option (Bool×al))=>pP (fun bb=>eT aY (fun(x:Unit)=>[Z (M bb 0)]) (eG bb) pN y)) (V9 .i64) R):=by
 refine eX Tryz.func126 J<|a8<|s (cg (show aJ _ _ (.const (.map none)) (Z (.map none))from fun _ _ _=>J))<|br<|a8<|Ff (N0 (fun y:(al->Unit->Option (Bool×al))=>pP (fun bb=>eT aY (fun(x:Unit)=>[Z (M bb 0)]) (eG bb) pN y))) (V9 .i64) J fun b=>kb (γ:=(fun y:(al->Unit->Option (Bool×al))=>pP (fun bb=>eT aY (fun(x:Unit)=>[Z (M bb 0)]) (eG bb) pN y))) (y:=(fun(mc:al) (mx:Unit)=>jR mc)) CY (jb lr) (D J) (t7 hI) (show aJ _ _ _ (pP (fun bb=>eT aY (fun(x:Unit)=>[Z (M bb 0)]) (eG bb) pN (fun(mc:al) (mx:Unit)=>jR mc)))from(EJ fun bb=>oo abD (fun c x R h i=>Yu _ _ _ h))) fun os=>kb (γ:=(fun y:(al->Unit->Option (Bool×al))=>pP (fun bb=>eT aY (fun(x:Unit)=>[Z (M bb 0)]) (eG bb) pN y))) (y:=(fun(mc:al) (mx:Unit)=>hT mc)) CY (jb lr) (D J) (t7 hI) (show aJ _ _ _ (pP (fun bb=>eT aY (fun(x:Unit)=>[Z (M bb 0)]) (eG bb) pN (fun(mc:al) (mx:Unit)=>hT mc)))from(EJ fun bb=>oo abC (fun c x R h i=>Yt _ _ _ h))) fun os1=>kb (γ:=(fun y:(al->Unit->Option (Bool×al))=>pP (fun bb=>eT aY (fun(x:Unit)=>[Z (M bb 0)]) (eG bb) pN y))) (y:=(fun(mc:al) (mx:Unit)=>gZ mc)) CY (jb lr) (D J) (t7 hI) (show aJ _ _ _ (pP (fun bb=>eT aY (fun(x:Unit)=>[Z (M bb 0)]) (eG bb) pN (fun(mc:al) (mx:Unit)=>gZ mc)))from(EJ fun bb=>oo abB (fun c x R h i=>Ys _ _ _ h))) fun os2=>kb (γ:=(fun y:(al->Unit->Option (Bool×al))=>pP (fun bb=>eT aY (fun(x:Unit)=>[Z (M bb 0)]) (eG bb) pN y))) (y:=(fun(mc:al) (mx:Unit)=>fK mc)) CY (jb lr) (D J) (t7 hI) (show aJ _ _ _ (pP (fun bb=>eT aY (fun(x:Unit)=>[Z (M bb 0)]) (eG bb) pN (fun(mc:al) (mx:Unit)=>fK mc)))from(EJ fun bb=>oo abA (fun c x R h i=>Yr _ _ _ h))) fun os3=>kb (γ:=(fun y:(al->Unit->Option (Bool×al))=>pP (fun bb=>eT aY (fun(x:Unit)=>[Z (M bb 0)]) (eG bb) pN y))) (y:=(fun(mc:al) (mx:Unit)=>eo mc)) CY (jb lr) (D J) (t7 hI) (show aJ _ _ _ (pP (fun bb=>eT aY (fun(x:Unit)=>[Z (M bb 0)]) (eG bb) pN (fun(mc:al) (mx:Unit)=>eo mc)))from(EJ fun bb=>oo Wv (fun c x R h i=>Yq _ _ _ h))) fun os4=>kb (γ:=(fun y:(al->Unit->Option (Bool×al))=>pP (fun bb=>eT aY (fun(x:Unit)=>[Z (M bb 0)]) (eG bb) pN y))) (y:=(fun(mc:al) (mx:Unit)=>dY mc)) CY (jb lr) (D J) (t7 hI) (show aJ _ _ _ (pP (fun bb=>eT aY (fun(x:Unit)=>[Z (M bb 0)]) (eG bb) pN (fun(mc:al) (mx:Unit)=>dY mc)))from(EJ fun bb=>oo abz (fun c x R h i=>Yo _ _ _ h))) fun os5=>kb (γ:=(fun y:(al->Unit->Option (Bool×al))=>pP (fun bb=>eT aY (fun(x:Unit)=>[Z (M bb 0)]) (eG bb) pN y))) (y:=(fun(mc:al) (mx:Unit)=>dA mc)) CY (jb lr) (D J) (t7 hI) (show aJ _ _ _ (pP (fun bb=>eT aY (fun(x:Unit)=>[Z (M bb 0)]) (eG bb) pN (fun(mc:al) (mx:Unit)=>dA mc)))from(EJ fun bb=>oo aby (fun c x R h i=>Yn _ _ _ h))) fun os6=>kb (γ:=(fun y:(al->Unit->Option (Bool×al))=>pP (fun bb=>eT aY (fun(x:Unit)=>[Z (M bb 0)]) (eG bb) pN y))) (y:=(fun(mc:al) (mx:Unit)=>iG mc)) CY (jb lr) (D J) (t7 hI) (show aJ _ _ _ (pP (fun bb=>eT aY (fun(x:Unit)=>[Z (M bb 0)]) (eG bb) pN (fun(mc:al) (mx:Unit)=>iG mc)))from(EJ fun bb=>oo abx (fun c x R h i=>Ym _ _ _ h))) fun os7=>kb (γ:=(fun y:(al->Unit->Option (Bool×al))=>pP (fun bb=>eT aY (fun(x:Unit)=>[Z (M bb 0)]) (eG bb) pN y))) (y:=(fun(mc:al) (mx:Unit)=>ly mc)) CY (jb lr) (D J) (t7 hI) (show aJ _ _ _ (pP (fun bb=>eT aY (fun(x:Unit)=>[Z (M bb 0)]) (eG bb) pN (fun(mc:al) (mx:Unit)=>ly mc)))from(EJ fun bb=>oo abw (fun c x R h i=>Yl _ _ _ h))) fun os8=>kb (γ:=(fun y:(al->Unit->Option (Bool×al))=>pP (fun bb=>eT aY (fun(x:Unit)=>[Z (M bb 0)]) (eG bb) pN y))) (y:=(fun(mc:al) (mx:Unit)=>iX mc)) CY (jb lr) (D J) (t7 hI) (show aJ _ _ _ (pP (fun bb=>eT aY (fun(x:Unit)=>[Z (M bb 0)]) (eG bb) pN (fun(mc:al) (mx:Unit)=>iX mc)))from(EJ fun bb=>oo abv (fun c x R h i=>Yk _ _ _ h))) fun os9=>kb (γ:=(fun y:(al->Unit->Option (Bool×al))=>pP (fun bb=>eT aY (fun(x:Unit)=>[Z (M bb 0)]) (eG bb) pN y))) (y:=(fun(mc:al) (mx:Unit)=>jQ mc)) CY (jb lr) (D J) (t7 hI) (show aJ _ _ _ (pP (fun bb=>eT aY (fun(x:Unit)=>[Z (M bb 0)]) (eG bb) pN (fun(mc:al) (mx:Unit)=>jQ mc)))from(EJ fun bb=>oo abu (fun c x R h i=>Yj _ _ _ h))) fun os10=>aS J<|aZ J ?_;exact qU<|Lj 0 J<|so h▸aN J J

def Vf op{R}(h:vR op=some R):dJ aY 174 [bC op] (bC R):=by
 refine eX Tryz.func174 J<|a8<|cM<|br<|bm<|aS J<|br<|aA ?_;refine iV (tV:=fun x=>rE op x=some R) (Of:=fun x=>[]) (Gf:=fun x=>[(3,bC op),(4,gI x)]) (fun x h=>?_) (fun hb=>?_)
 ·skip
  refine jz h J (fun h=>?_) (fun h=>?_)
  ·exact a8<|gQ<|ei<|so h▸aN J J
  ·refine iV (tV:=fun x1=>rD op x1=some R) (Of:=fun x1=>[]) (Gf:=fun x1=>[(3,bC op),(7,gI x1)]) (fun x1 h=>?_) (fun K1=>?_)
   ·skip
    refine jz h J (fun h=>?_) (fun h=>?_)
    ·exact a8<|gQ<|ei<|so h▸aN J J
    ·refine iV (tV:=fun x2=>jD x2=some R) (Of:=fun x2=>[]) (Gf:=fun x2=>[(10,gI x2)]) (fun x2 h=>?_) (fun K2=>?_)
     ·skip
      refine jz h J (fun h=>?_) (fun h=>?_)
      ·exact a8<|gQ<|ei<|so h▸aN J J
      ·exact bE<|aF<|aG<|a8<|gQ<|so h▸aN J J
     ·skip
      refine a8<|bW J<|aZ J<|jz h J (fun h=>?_) (fun h=>?_)
      ·refine bE ?_;exact bZ (K2 (op==(3:Int)) h) (bo J)
      ·refine a8<|bW J<|aZ J<|jz h J (fun h=>?_) (fun h=>?_)
       ·refine bE ?_;exact bZ (K2 (op==(4:Int)) h) (bo J)
       ·refine a8<|bW J<|aZ J<|jz h J (fun h=>?_) (fun h=>?_)
        ·refine bE ?_;exact bZ (K2 (op==(5:Int)) h) (bo J)
        ·refine a8<|bW J<|aZ J<|jz h J (fun h=>?_) (fun h=>?_)
         ·refine bE ?_;exact bZ (K2 (op==(6:Int)) h) (bo J)
         ·refine a8<|bW J<|aZ J<|jz h J (fun h=>?_) (fun h=>?_)
          ·refine bE ?_;exact bZ (K2 (op==(8:Int)) h) (bo J)
          ·refine a8<|bW J<|aZ J<|jz h J (fun h=>?_) (fun h=>?_)
           ·refine bE ?_;exact bZ (K2 (op==(10:Int)) h) (bo J)
           ·refine aw<|bW J<|hE J<|aX ?_;exact bZ (K2 (op==(11:Int)) h) (bo J)
   ·skip
    refine a8<|bW J<|aZ J<|jz h J (fun h=>?_) (fun h=>?_)
    ·refine bE ?_;exact bZ (K1 (op==(2:Int)) h) (bo J)
    ·refine aw<|bW J<|hE J<|aX ?_;exact bZ (K1 (op==(7:Int)) h) (bo J)
 ·skip
  refine a8<|bW J<|aZ J<|jz h J (fun h=>?_) (fun h=>?_)
  ·refine bE ?_;exact bZ (hb (op==(1:Int)) h) (bo J)
  ·refine aw<|bW J<|hE J<|aX ?_;exact bZ (hb (op==(9:Int)) h) (bo J)

def Ve n{R}(h:rh n=some R):dJ aY 175 [tD bl n] (gI R):=by
 refine eX Tryz.func175 J<|a8<|eZ J<|bA<|br<|aT ?_
 refine kM (ts:=[_,_,_,_,_,_,_,_,_,_,_,_,_,_,_,_,_,_,_,_,_,_,_]) mixed J J
  ⟨Lr 1 J J (w6 lX eJ J J),
  ⟨u7 0 b9 J J,
  ⟨gk 7 1 J J (zei J),
  ⟨gk 8 2 J J (lQ J),
  ⟨Ax 1 9 3 J J J (kK J J J J (fun H=>w6 lX eJ J J)),
  ⟨uJ 10 4 9 3 J J J (kK J J J J (fun H=>kE b9 J J (bL J H))),
  ⟨uJ 11 5 9 3 J J J (kK J J J J (fun H=>d9 (bL J H) hI)),
  ⟨kx 9 3 12 6 J J J (Zh J J),
  ⟨Lr 1 J J (w6 lX eJ J J),
  ⟨u7 8 b9 J J,
  ⟨gk 15 9 J J (zei J),
  ⟨gk 16 10 J J (lQ J),
  ⟨Ax 1 17 11 J J J (kK J J J J (fun H=>w6 lX eJ J J)),
  ⟨uJ 18 12 17 11 J J J (kK J J J J (fun H=>kE b9 J J (bL J H))),
  ⟨uJ 19 13 17 11 J J J (kK J J J J (fun H=>d9 (bL J H) hI)),
  ⟨kx 17 11 20 14 J J J (Zh J J),
  ⟨gk 21 15 J J (lQ J),
  ⟨Ax 1 22 16 J J J (kK J J J J (fun H=>w6 lX eJ J J)),
  ⟨uJ 23 17 22 16 J J J (kK J J J J (fun H=>kE b9 J J (bL J H))),
  ⟨uJ 24 18 22 16 J J J (kK J J J J (fun H=>d9 (bL J H) hI)),
  ⟨kx 22 16 25 19 J J J (Zh J J),
  ⟨gk 13 7 J J (Jo J),
  ⟨gk 26 20 J J (Jo J),
  aM⟩⟩⟩⟩⟩⟩⟩⟩⟩⟩⟩⟩⟩⟩⟩⟩⟩⟩⟩⟩⟩⟩⟩ ?_
 refine aG<|aB J<|aS J<|bz J (cj wh oB J J)<|bz J (ce b9 J J)<|bz J (mw J)<|bz J (ua J)<|jm J J J J (fun H=>w6 qO jv J J)<|jm J J J J (fun H=>kE c0 J J (bL J H))<|jm J J J J (fun H=>mG fx (bL J H))<|jm J J J J (fun H=>d9 (bL J H) hI)<|bz J (fun H=>pS (bL J H) (fun K=>(bL J (Ab H K))))<|jW J<|aZ J<|aB J<|aS J<|ai J (cj lX eJ J J)<|ai J (ce b9 J J) ?_;refine ai J (mw J)<|ai J (ua J)<|dF J J J J (fun H=>w6 EW wd J J)<|dF J J J J (fun H=>kE Ad J J (bL J H))<|dF J J J J (fun H=>gG (bL J H))<|ai J (fun H=>np (bL J H) (fun K=>(bL J (Ab H (vT K)))))<|c8 J<|aS J<|ai J (cj lX eJ J J)<|ai J (ce b9 J J)<|ai J (mw J)<|ai J (ua J)<|dF J J J J (fun H=>w6 lX eJ J J)<|dF J J J J (fun H=>kE b9 J J (bL J H))<|dF J J J J (fun H=>d9 (bL J H) hI)<|ai J (fun H=>np (bL J H) (fun K=>(bL J (Ab H (vT K)))))<|ai J (ua J)<|dF J J J J (fun H=>w6 uS oA J J)<|dF J J J J (fun H=>gB rq J kS J (bL J H))<|dF J J J J (fun H=>kE BG J J (bL J H))<|dF J J J J (fun H=>mG sq (bL J H))<|dF J J J J (fun H=>d9 (bL J H) hI)<|ai J (fun H=>np (bL J H) (fun K=>(bL J (Ab H (vT K)))))<|c8 J ?_;refine aZ J<|aB J<|aS J<|ai J (du J)<|ai J (ua J)<|dF J J J J (fun H=>w6 pX iQ J J)<|dF J J J J (fun H=>kE c0 J J (bL J H))<|dF J J J J (fun H=>mG fx (bL J H))<|dF J J J J (fun H=>w6 nI gr J J)<|dF J J J J (fun H=>kE wY J J (bL J H))<|dF J J J J (fun H=>mG qr (bL J H))<|dF J J J J (fun H=>fS (bL J H) (bL J H))<|dF J J J J (fun H=>d9 (bL J H) hI)<|ai J (fun H=>np (bL J H) (fun K=>(bL J (Ab H (vT K)))))<|c8 J<|aS J<|ai J (cj lX eJ J J)<|ai J (ce b9 J J)<|ai J (mw J)<|ai J (ua J) ?_;refine dF J J J J (fun H=>w6 wg oz J J)<|dF J J J J (fun H=>kE HK J J (bL J H))<|dF J J J J (fun H=>mG xb (bL J H))<|dF J J J J (fun H=>d9 (bL J H) hI)<|ai J (fun H=>np (bL J H) (fun K=>(bL J (Ab H (vT K)))))<|c8 J<|aZ J<|aB J<|aS J<|ai J (cj lX eJ J J)<|ai J (ce b9 J J)<|ai J (mw J)<|ai J (ua J)<|dF J J J J (fun H=>w6 sH mU J J)<|dF J J J J (fun H=>kE HJ J J (bL J H))<|dF J J J J (fun H=>mG yT (bL J H))<|dF J J J J (fun H=>d9 (bL J H) hI)<|dF J J J J (fun H=>bQ (bL J H))<|jm J J J J (fun H=>w6 wi qk J J)<|jm J J J J (fun H=>kE b9 J J (bL J H)) ?_;exact jm J J J J (fun H=>d9 (bL J H) hI)<|dF J J J J (fun H=>pS (bL J H) (fun K=>(bL J (Ab H K))))<|ai J (fun H=>np (bL J H) (fun K=>(bL J (Ab H (vT K)))))<|c8 J<|bq J<|so h▸aN J J

def U5 ae v{R}(h:n6 ae v=some R):dJ aY 209 [pi ae,bC v] (bC R):=by
 refine eX Tryz.func209 J<|a8<|cM<|br<|bm<|aS J<|cw fx J<|s (bQ hI)<|br<|aA<|bt (k:=6) J fun hN=>bN ?_;refine aV (fv (tV:=fun ls i=>(ae.drop i=ls)/\ij v ls i=some R) (Of:=fun _ i=>[]) (Gf:=fun _ i=>[(0,pi ae),(1,bC v),(7,nz ae),(8,bC (i:Int))]) (fun i h=>?_) (fun e tl ih i h=>?_) ae 0 ⟨J,h⟩) (bo J)
 ·obtain⟨V,h⟩:=h
  exact fm V J<|aG<|a8<|gQ<|so h▸aN J J
 ·obtain⟨V,h⟩:=h
  refine fj V J<|aT<|aA<|aB J<|aZ J<|aB J<|aS J<|aS J<|Gi fx b9 J (eF V) ?_;refine fi b9 J<|s (d9 (D J) (D J))<|cZ h J (fun h=>?_) (fun h=>?_)
  ·exact aB J<|bq J<|ei<|av<|ei<|so h▸aN J J
  ·refine bE<|dW V hN J ?_;exact bj (aV (ih (i+1) ⟨dQ V,h⟩) (bo J))

def Vd ae v{R}(h:gg ae v=some R):dJ aY 176 [pi ae,bC v] (gI R):=by
 exact eX Tryz.func176 J<|a8<|bA<|br<|aB J<|aS J<|iw h aa9 (U5 _ _) (ea J) fun r h=>s (iJ (D J) hI)<|bq J<|so h▸aN J J

def Yy(b:Nat)(ix:OI) l i ask{R}(h:dh l i ask=some R):bk aY 127 [Z (M b 0),bC i,pP (fun bb=>eT aY (fun(x:Unit)=>[Z (M bb 0)]) (eG bb) pN ask)] (eG b l ix) (fun _:OI=>gI R.1) (fun j=>eG b R.2 j):=by
 refine bk.of Tryz.func127 J J J fun w0 S0=>?_;refine(show CG _ _ _ [Q (rH bu [(1,au (ix.h 0).1 (ix.h 0).2 l.kinds.length),(2,au (ix.h 1).1 (ix.h 1).2 l.open_.length)]) 168 b l,tip po 69 (ix.h 0).1 (ix.h 0).2 l.kinds,dk bP 3 (ix.h 1).1 (ix.h 1).2 l.open_] _ from ?_);refine a8<|bA<|br<|aB J<|s (aC (D J))<|aW 0 Iy J<|s (aE (r:=rH bu [(1,au (ix.h 0).1 (ix.h 0).2 l.kinds.length),(2,au (ix.h 1).1 (ix.h 1).2 l.open_.length)]) (x:=l) FC J J (eD B5) (.head _) (D J))<|aS J<|bM h fun e q_e h=>fQ tR gv J q_e<|bw gv kV J fun b1=>bv gv ax J<|bf 7 J<|br<|a8<|bG lX eJ b9 J ?_;refine iw h abt (Vf _) (ea J) fun r h=>aZ J<|bm<|aS J<|s (iZ (D J) hI)<|aS J<|bz J (du J)<|bz J (du J)<|bz J (fun H=>aC (bL J H))<|bz J (fun H=>bU (n:=2) sI J (bL J H) J)<|bz J (fun H=>cO c0 J (.head _) (bL J H))<|bz J (fun H=>ja fx (.tail _ (.tail _ (.head _))) (bL J H))<|bz J (fun H=>ge (bL J H) (bL J H))<|jW J<|aS J<|bM h fun t q_t h=>bz J (fun H=>BA gv J J) ?_
 obtain⟨r1,h1t,h0t⟩:=og q_t
 have q_r1g:=fun K=>(h1t K).1
 refine bz J (fun H=>db abs (Ve _ (q_r1g H)) ⟨(bL J H),aM⟩)<|bz J (y0 J)<|s (m0 (D J) (fun K=>(bL J (vT K))) (fun K=>(h1t K).2) h0t)<|br<|qV (D J) (fun hc=>?_) (fun hc=>?_)
 ·have h:=ct h hc;exact a8<|bA<|bS<|av<|aH<|aH<|aH<|so h▸bF J ix J J (fun _ _ h=>h)
 ·have h:=cf h hc;refine jg<|a8<|s (sS (r:=bP) (ys:=[C0,C0]) (xs:=[.const (.int .i64 (-1)),.const (.int .i64 (-1))]) DG b9 J y4 J J ⟨hI,hI,aM⟩)<|bw (r:=(nF bP 2)) (x:=(List.replicate 2 (0:Int))) y4 (fun _=>Bp (r:=bP) 2 (fun _=>J) _) J fun b2=>bv y4 ax J<|br<|aT<|bM h fun y q_y h=>?_
  refine se 13 (ts:=[Z (.slice (some ⟨b2,0,none⟩) 2 2),Z (M b 0),Z (M b 0),Z (M b 2),rL (ix.h 1).1 (ix.h 1).2 l.open_,Z (M b 0),Z (M b 0),Z (M b 2),rL (ix.h 1).1 (ix.h 1).2 l.open_,nz l.open_,bC r,bC (IntKind.i64.wrap ((l.open_.length:Int)-r)),Z (nE 1 (ix.h 1).1 (ix.h 1).2 (IntKind.i64.wrap ((l.open_.length:Int)-r)).toNat y.length)]) mixed J J J
   ⟨Lr 9 J J (J6 DG (TW b9) (D J)),
   ⟨iy J J,
   ⟨gk 42 1 J J (aC (D J)),
   ⟨gk 43 2 J J (oK 2 sI J J J),
   ⟨gk 44 3 J J (cO c0 J (.tail _ (.head _)) (D J)),
   ⟨iy J J,
   ⟨gk 46 5 J J (aC (D J)),
   ⟨gk 47 6 J J (oK 2 sI J J J),
   ⟨gk 48 7 J J (cO c0 J (.tail _ (.head _)) (D J)),
   ⟨gk 49 8 J J (ja fx (.tail _ (.tail _ (.tail _ (.head _)))) (D J)),
   ⟨iy J J,
   ⟨kx 50 9 51 10 J J J (iI (D J) (D J)),
   ⟨kx 45 4 52 11 J J J (qd fx b9 J (.tail _ (.tail _ (.tail _ (.head _)))) (D J) (D J) q_y),
   aM⟩⟩⟩⟩⟩⟩⟩⟩⟩⟩⟩⟩⟩ ?_
  refine qT (.tail _ (.tail _ (.tail _ (.head _)))) q_y fun hv=>aL (IK (.tail _ (.tail _ (.tail _ (.head _)))) q_y fx (HI b9) (D J) (D J)) J fun i1=>?_;refine(show RG _ _ _ _ [_,_,_,_] ((54,bC ((min y.length 2:Nat):Int))::_)from ?_);refine br<|bm<|s (aE (x:=(ph ([C0,C0]) y)) y4 J J bp (.head _) (D J))<|bG sj we b9 J<|bG tE zS b9 J<|s (sS (r:=bP) (ys:=[e.A,e.B]) (xs:=[.tmp 57,.tmp 59]) DG b9 J y4 J J ⟨(D J),(D J),aM⟩)<|s (yC Wi (D J) (D J))<|br<|qV (D J) (fun hc=>?_) (fun hc=>?_)
  ·have h:=ct h hc;exact a8<|bA<|bS<|av<|ba<|aH<|aH<|aH<|so h▸bF J ix J J (fun _ _ h=>h)
  ·have h:=cf h hc;refine jg<|aB J<|aS J<|aS J<|fi gv J<|s (aC (D J))<|aW 3 hU J<|eW (EffOK.fr1 (dj gv J (n7 (hs' :=[(1,au (ix.h 0).1 (ix.h 0).2 l.kinds.length),(2,au (ix.h 1).1 (ix.h 1).2 l.open_.length)]) Pn ⟨.inr ⟨J,J⟩,.inr ⟨J,J⟩,aM⟩ J) J (D J) (D J))) fun i2=>?_;refine(show RG _ _ _ _ [_,_,_,_] _ from ?_);refine s (aC (D J))<|aW 15 jI J<|eW (dj c0 J (n7 (hs' :=[(1,au (ix.h 0).1 (ix.h 0).2 l.kinds.length),(2,au (ix.h 1).1 (ix.h 1).2 l.open_.length)]) Gx ⟨.inr ⟨J,J⟩,.inr ⟨J,J⟩,aM⟩ J) J (D J) UF) fun i3=>?_;refine(show RG _ _ _ _ [_,_,_,_] _ from ?_);refine s (aC (D J))<|aW 16 Bf J<|eW (dj c0 J (n7 (hs' :=[(1,au (ix.h 0).1 (ix.h 0).2 l.kinds.length),(2,au (ix.h 1).1 (ix.h 1).2 l.open_.length)]) Gw ⟨.inr ⟨J,J⟩,.inr ⟨J,J⟩,aM⟩ J) J (D J) UF) fun i4=>?_;refine(show RG _ _ _ _ [_,_,_,_] _ from ?_);refine br<|aT<|aT<|bM h fun y1 q_y1 h=>?_
   refine kM (ts:=[_,_,_,_,_,_,_,_,_,_,_,_,_,_]) mixed J J
    ⟨iy J J,
    ⟨gk 72 0 J J (aC (D J)),
    ⟨gk 73 1 J J (oK 2 sI J J J),
    ⟨gk 74 2 J J (cO c0 J (.head _) (D J)),
    ⟨iy J J,
    ⟨gk 76 4 J J (aC (D J)),
    ⟨gk 77 5 J J (oK 2 sI J J J),
    ⟨gk 78 6 J J (cO c0 J (.head _) (D J)),
    ⟨gk 79 7 J J (ja fx (.tail _ (.tail _ (.tail _ (.head _)))) (D J)),
    ⟨iy J J,
    ⟨kx 80 8 81 9 J J J (iI (D J) (D J)),
    ⟨kx 75 3 82 10 J J J (qd fx b9 J (.tail _ (.tail _ (.tail _ (.head _)))) (D J) (D J) q_y1),
    ⟨gk 83 11 J J (NY fx (.tail _ (.tail _ (.tail _ (.head _)))) q_y1 (D J)),
    ⟨zd0 J (bQ hI),
    aM⟩⟩⟩⟩⟩⟩⟩⟩⟩⟩⟩⟩⟩⟩ ?_
   refine aG<|aA<|Ja (.tail _ (.tail _ (.tail _ (.head _)))) q_y1 fun hv1=>?_
   have hN:=hv1.2
   refine bN<|gE<|sO ?_;refine aV (Fm (tV:=fun ls i5 a_ b3=>(y1.drop i5=ls)/\bd l i ask e r ls i5 a_ b3=some R) (Of:=fun _ i5 a_ b3=>[Q (rH bu [(1,au (ix.h 0).1 (ix.h 0).2 l.kinds.length),(2,au (ix.h 1).1 (ix.h 1).2 l.open_.length)]) 168 b ({({({({({l with n:=e}:al)with a_:=[]}:al)with b:=[]}:al)with a_:=a_}:al)with b:=b3}:al),tip po 69 (ix.h 0).1 (ix.h 0).2 l.kinds,dk bP 3 (ix.h 1).1 (ix.h 1).2 l.open_]) (Gf:=fun _ i5 a_ b3=>[(0,Z (M b 0)),(1,bC i),(2,pP (fun bb=>eT aY (fun(x:Unit)=>[Z (M bb 0)]) (eG bb) pN ask)),(7,df bl e),(8,bC r),(83,Z (nE 1 (ix.h 1).1 (ix.h 1).2 (IntKind.i64.wrap ((l.open_.length:Int)-r)).toNat y1.length)),(84,nz y1),(85,bC (i5:Int))]) (fun i5 a_ b3 h=>?_) (fun e1 tl ih i5 a_ b3 h=>?_) y1 0 (({({({l with n:=e}:al)with a_:=[]}:al)with b:=[]}:al).a_) (({({({l with n:=e}:al)with a_:=[]}:al)with b:=[]}:al).b) ⟨J,h⟩) (bo J)
   ·obtain⟨V,h⟩:=h
    refine fm V J<|aG<|a8<|bG lX eJ b9 J<|bW J<|aS J<|bz J (cj lX eJ J J)<|bz J (ce b9 J J)<|bz J (mw J)<|jW J<|hE J ?_;refine br<|bm<|aS J<|aS J<|ai J (du J)<|ai J (du J)<|ai J (fun H=>aC (bL J H))<|ai J (fun H=>bU (n:=0) Iy J (bL J H) J)<|ai J (fun H=>aE (r:=rH bu [(1,au (ix.h 0).1 (ix.h 0).2 l.kinds.length),(2,au (ix.h 1).1 (ix.h 1).2 l.open_.length)]) (x:=({({({({({l with n:=e}:al)with a_:=[]}:al)with b:=[]}:al)with a_:=a_}:al)with b:=b3}:al)) FC J J (eD B5) (.head _) (bL J H))<|ai J (ma tR J)<|ai J (fun H=>iI (bL J H) hI)<|ai J (fun H=>kD (bL J H) (bL J H))<|c8 J<|aS J ?_;refine tI (((e.Op==(8:Int))||(e.Op==(10:Int)))&&(i !=(IntKind.i64.wrap (((({({({({({l with n:=e}:al)with a_:=[]}:al)with b:=[]}:al)with a_:=a_}:al)with b:=b3}:al).nodes).length:Int)-(1:Int))))) (fun H=>?_) (fun H=>?_)
    ·have h:=ct h H;refine dI J J J H J<|dI J J J H J<|dI J J J H J<|dI J J J H J<|s (qe (D J) H We)<|aS J<|dI J J J J J<|dI J J J J J<|dI J J J J J<|dI J J J J J<|dI J J J J J<|dI J J J J J<|s (qe (D J) J We)<|br<|qV (D J) (fun hc=>?_) (fun hc=>?_)
     ·exact a8<|bA<|bS<|av<|aH<|aH<|aH<|so h▸bF J ix J J (fun _ _ h=>h)
     ·cases hc
    ·have h:=cf h H;refine gx J J J H<|aS J<|gx J J J H<|aS J<|gx J J J H<|bM h fun r2 q_r2 h=>aL (EffOK.fr2 (EffOK.fr2 (EffOK.fr2 (Bi (args:=(fun(x:Unit)=>[Z (M b 0)])) (Ob:=eG b) (res:=pN) (f:=ask) (x:=({({({({({l with n:=e}:al)with a_:=[]}:al)with b:=[]}:al)with a_:=a_}:al)with b:=b3}:al)) (y:=(():Unit)) (R:=r2) (i:=ix) (xs:=[.tmp 136]) _ J (Z2 (t:=(fun bb=>eT aY (fun(x:Unit)=>[Z (M bb 0)]) (eG bb) pN ask)) b (D J)) q_r2 ⟨(D J),aM⟩ (fun _=>J))))) J fun i6=>?_;refine(show RG _ _ _ _ [_,_,_] ((137,gI r2.1)::_)from ?_);refine gx J J J H<|s (gG (D J))<|s (oW (D J) H (D J))<|aS J<|bz J (du J)<|bz J (fun H=>aC (bL J H))<|bz J (fun H=>bU (n:=17) gc J (bL J H) J)<|bz J (fun H=>aE (r:=rH bu [(1,au (i6.h 0).1 (i6.h 0).2 r2.2.kinds.length),(2,au (i6.h 1).1 (i6.h 1).2 r2.2.open_.length)]) (x:=r2.2) c0 J J (eD B4) (.head _) (bL J H))<|bz J (ma fx J)<|bz J (fun H=>ge (bL J H) hI)<|jW J<|cZ h J (fun h=>?_) (fun h=>?_)
     ·exact a8<|bA<|bS<|av<|aH<|aH<|aH<|so h▸bF J i6 J J (fun _ _ h=>h)
     ·refine jg<|aT<|bM h fun l1 q_l1 h=>bM h fun y2 q_y2 h=>bM h fun l2 q_l2 h=>?_
      refine iT 30 [tc (Z (M b 0)),tc (Z (M b 0)),tc (Z (M b 0)),tc (Z (M b 0)),tc (Z (M b 1)),tc (tO po (i6.h 0).1 (i6.h 0).2 r2.2.kinds),tc (Z (M b 0)),tc (Z (M b 0)),tc (Z (M b 17)),tc (pi r2.2.result),tc (d8 (po) ([r2.2.result])),([11],fun ae=>tO po ((ae.getD 0 jK).h 0).1 ((ae.getD 0 jK).h 0).2 l1),tc (Z (M b 0)),tc (Z (M b 0)),tc (Z (M b 2)),tc (rL (i6.h 1).1 (i6.h 1).2 r2.2.open_),tc (Z (M b 0)),tc (Z (M b 0)),tc (Z (M b 2)),tc (rL (i6.h 1).1 (i6.h 1).2 r2.2.open_),tc (nz r2.2.open_),tc (bC r),tc (bC (IntKind.i64.wrap ((r2.2.open_.length:Int)-r))),tc (rL (i6.h 1).1 (i6.h 1).2 y2),tc (bC i),tc (pi ([i])),([26],fun ae=>Z (au ((ae.getD 0 jK).h 0).1 ((ae.getD 0 jK).h 0).2 l2.length)),tc (Z (M b 0)),tc (Z (M b 1)),tc (DZ)] [false,false,false,false,false,false,false,false,false,false,false,true,false,false,false,false,false,false,false,false,false,false,false,false,false,false,true,false,false,true] [fun _=>[Q (rH bu [(1,au (i6.h 0).1 (i6.h 0).2 r2.2.kinds.length),(2,au (i6.h 1).1 (i6.h 1).2 r2.2.open_.length)]) 168 b r2.2,tip po 69 (i6.h 0).1 (i6.h 0).2 r2.2.kinds,dk bP 3 (i6.h 1).1 (i6.h 1).2 r2.2.open_],fun sg=>[tip po 69 ((sg 11).h 0).1 ((sg 11).h 0).2 l1,Q (rH bu [(1,au (i6.h 0).1 (i6.h 0).2 r2.2.kinds.length),(2,au (i6.h 1).1 (i6.h 1).2 r2.2.open_.length)]) 168 b r2.2,dk bP 3 (i6.h 1).1 (i6.h 1).2 r2.2.open_],fun sg=>[dk bP 3 ((sg 26).h 0).1 ((sg 26).h 0).2 l2,tip po 69 ((sg 11).h 0).1 ((sg 11).h 0).2 l1,Q (rH bu [(1,au (i6.h 0).1 (i6.h 0).2 r2.2.kinds.length),(2,au (i6.h 1).1 (i6.h 1).2 r2.2.open_.length)]) 168 b r2.2],fun sg=>[Q (rH bu [(1,au ((sg 11).h 0).1 ((sg 11).h 0).2 l1.length),(2,au (i6.h 1).1 (i6.h 1).2 r2.2.open_.length)]) 168 b ({r2.2 with kinds:=l1}:al),dk bP 3 ((sg 26).h 0).1 ((sg 26).h 0).2 l2,tip po 69 ((sg 11).h 0).1 ((sg 11).h 0).2 l1]] J mixed J J J J J
       ⟨⟨[⟨0,fun _=>Z (M b 0),none⟩],_,0,2,J,⟨(fun _=>J),aM⟩,J,J,J,J,J,fun _ sg _ _=>ac J (lQ J)⟩,
       ⟨⟨[⟨0,fun _=>Z (M b 0),none⟩],_,0,3,J,⟨(fun _=>J),aM⟩,J,J,J,J,J,fun _ sg _ _=>ac J (lQ J)⟩,
       ⟨⟨[⟨0,fun _=>Z (M b 0),none⟩],_,0,0,J,⟨(fun _=>J),aM⟩,J,J,J,J,J,fun _ sg _ _=>ac J (lQ J)⟩,
       ⟨⟨[⟨150,fun _=>Z (M b 0),some 2⟩],_,0,0,J,⟨(fun _=>J),aM⟩,J,J,J,J,J,fun _ sg _ _=>ac J (aC (D J))⟩,
       ⟨⟨[⟨151,fun _=>Z (M b 0),some 3⟩],_,0,0,J,⟨(fun _=>J),aM⟩,J,J,J,J,J,fun _ sg _ _=>ac J (oK 1 Dq J J J)⟩,
       ⟨⟨[⟨152,fun _=>Z (M b 1),some 4⟩],_,0,0,J,⟨(fun _=>J),aM⟩,J,J,J,J,J,nD (fun sg=>ac J (na TX J (.head _) (.tail _ (.head _)) (D J)))⟩,
       ⟨⟨[⟨0,fun _=>Z (M b 0),none⟩],_,0,0,J,⟨(fun _=>J),aM⟩,J,J,J,J,J,fun _ sg _ _=>ac J (lQ J)⟩,
       ⟨⟨[⟨154,fun _=>Z (M b 0),some 6⟩],_,0,0,J,⟨(fun _=>J),aM⟩,J,J,J,J,J,fun _ sg _ _=>ac J (aC (D J))⟩,
       ⟨⟨[⟨155,fun _=>Z (M b 0),some 7⟩],_,0,0,J,⟨(fun _=>J),aM⟩,J,J,J,J,J,fun _ sg _ _=>ac J (oK 17 gc J J J)⟩,
       ⟨⟨[⟨156,fun _=>Z (M b 17),some 8⟩],_,0,0,J,⟨(fun _=>J),aM⟩,J,J,J,J,J,nD (fun sg=>ac J (aE (r:=rH bu [(1,au (i6.h 0).1 (i6.h 0).2 r2.2.kinds.length),(2,au (i6.h 1).1 (i6.h 1).2 r2.2.open_.length)]) (x:=r2.2) c0 J J (eD B4) (.head _) (D J)))⟩,
       ⟨⟨[⟨157,fun _=>tD zu r2.2.result,some 9⟩],_,0,0,J,⟨(fun _=>J),aM⟩,J,J,J,J,J,fun _ sg _ _=>ac J (bc (r:=zu) (ys:=[r2.2.result]) (xs:=[.tmp 157]) CX c0 J J J J J ⟨(D J),aM⟩)⟩,
       ⟨⟨[⟨153,fun _=>tO zu (i6.h 0).1 (i6.h 0).2 r2.2.kinds,some 5⟩,⟨158,fun _=>tD (fW zu) ([r2.2.result]),some 10⟩],_,J,⟨(fun _=>J),(fun _=>J),aM⟩,J,J,J,fun sg=>bY J (EffOK.fr1 (KO c0 J J J J CX J (D J) (D J) q_l1))⟩,
       ⟨⟨[⟨0,fun _=>Z (M b 0),none⟩],_,0,1,J,⟨(fun _=>J),aM⟩,J,J,J,J,J,fun _ sg _ _=>ac J (lQ J)⟩,
       ⟨⟨[⟨160,fun _=>Z (M b 0),some 12⟩],_,0,1,J,⟨(fun _=>J),aM⟩,J,J,J,J,J,fun _ sg _ _=>ac J (aC (D J))⟩,
       ⟨⟨[⟨161,fun _=>Z (M b 0),some 13⟩],_,0,1,J,⟨(fun _=>J),aM⟩,J,J,J,J,J,fun _ sg _ _=>ac J (oK 2 sI J J J)⟩,
       ⟨⟨[⟨162,fun _=>Z (M b 2),some 14⟩],_,0,1,J,⟨(fun _=>J),aM⟩,J,J,J,J,J,C1 (fun sg=>ac J (cO c0 J (.head _) (D J))) (nD (fun sg=>ac J (cO c0 J (.tail _ (.head _)) (D J))))⟩,
       ⟨⟨[⟨0,fun _=>Z (M b 0),none⟩],_,0,1,J,⟨(fun _=>J),aM⟩,J,J,J,J,J,fun _ sg _ _=>ac J (lQ J)⟩,
       ⟨⟨[⟨164,fun _=>Z (M b 0),some 16⟩],_,0,1,J,⟨(fun _=>J),aM⟩,J,J,J,J,J,fun _ sg _ _=>ac J (aC (D J))⟩,
       ⟨⟨[⟨165,fun _=>Z (M b 0),some 17⟩],_,0,1,J,⟨(fun _=>J),aM⟩,J,J,J,J,J,fun _ sg _ _=>ac J (oK 2 sI J J J)⟩,
       ⟨⟨[⟨166,fun _=>Z (M b 2),some 18⟩],_,0,1,J,⟨(fun _=>J),aM⟩,J,J,J,J,J,C1 (fun sg=>ac J (cO c0 J (.head _) (D J))) (nD (fun sg=>ac J (cO c0 J (.tail _ (.head _)) (D J))))⟩,
       ⟨⟨[⟨167,fun _=>Z (au (i6.h 1).1 (i6.h 1).2 r2.2.open_.length),some 19⟩],_,0,1,J,⟨(fun _=>J),aM⟩,J,J,J,J,J,C1 (fun sg=>ac J (ja fx (.tail _ (.tail _ (.head _))) (D J))) (nD (fun sg=>ac J (ja fx (.tail _ (.tail _ (.head _))) (D J))))⟩,
       ⟨⟨[⟨8,fun _=>tD bP r,none⟩],_,0,1,J,⟨(fun _=>J),aM⟩,J,J,J,J,J,fun _ sg _ _=>ac J (lQ J)⟩,
       ⟨⟨[⟨168,fun _=>tD bP (r2.2.open_.length:Int),some 20⟩,⟨169,fun _=>tD bP r,some 21⟩],_,0,1,J,⟨(fun _=>J),(fun _=>J),aM⟩,J,J,J,J,J,fun _ sg _ _=>ac J (iI (D J) (D J))⟩,
       ⟨⟨[⟨163,fun _=>Z (au (i6.h 1).1 (i6.h 1).2 r2.2.open_.length),some 15⟩,⟨170,fun _=>tD bP (IntKind.i64.wrap ((r2.2.open_.length:Int)-r)),some 22⟩],_,0,1,J,⟨(fun _=>J),(fun _=>J),aM⟩,J,J,J,J,J,C1 (fun sg=>ac J (om fx b9 J (.tail _ (.tail _ (.head _))) (D J) (D J) q_y2)) (nD (fun sg=>ac J (om fx b9 J (.tail _ (.tail _ (.head _))) (D J) (D J) q_y2)))⟩,
       ⟨⟨[⟨1,fun _=>tD bP i,none⟩],_,0,1,J,⟨(fun _=>J),aM⟩,J,J,J,J,J,fun _ sg _ _=>ac J (lQ J)⟩,
       ⟨⟨[⟨172,fun _=>tD bP i,some 24⟩],_,0,1,J,⟨(fun _=>J),aM⟩,J,J,J,J,J,fun _ sg _ _=>ac J (bc (r:=bP) (ys:=[i]) (xs:=[.tmp 172]) fx b9 J J J J J ⟨(D J),aM⟩)⟩,
       ⟨⟨[⟨171,fun _=>Z (au (i6.h 1).1 (i6.h 1).2 y2.length),some 23⟩,⟨173,fun _=>tD zu ([i]),some 25⟩],_,J,⟨(fun _=>J),(fun _=>J),aM⟩,J,J,J,fun sg=>bY J (EffOK.fr2 (Nh q_y2 (uB b9 J J J J fx J (D J) (D J) q_l2)))⟩,
       ⟨⟨[⟨148,fun _=>Z (M b 0),some 0⟩],_,2,2,J,⟨(fun _=>J),aM⟩,J,J,J,J,J,fun _ sg _ _=>ac J (aC (D J))⟩,
       ⟨⟨[⟨175,fun _=>Z (M b 0),some 27⟩],_,2,2,J,⟨(fun _=>J),aM⟩,J,J,J,J,J,fun _ sg _ _=>ac J (oK 1 Dq J J J)⟩,
       ⟨⟨[⟨176,fun _=>Z (M b 1),some 28⟩,⟨159,fun sg=>tO zu ((sg 11).h 0).1 ((sg 11).h 0).2 l1,some 11⟩],_,J,⟨(fun _=>J),(fun _=>J),aM⟩,J,J,J,fun sg=>bY J (EffOK.fr2 (lY (hs' :=[(1,au ((sg 11).h 0).1 ((sg 11).h 0).2 l1.length),(2,au (i6.h 1).1 (i6.h 1).2 r2.2.open_.length)]) (u:=au ((sg 11).h 0).1 ((sg 11).h 0).2 l1.length) TX J J Pp J ⟨.inl ⟨J,J,J⟩,.inr ⟨J,J⟩,aM⟩ (D J) (tX (D J)) (C4 (D J))))⟩,
       aM⟩⟩⟩⟩⟩⟩⟩⟩⟩⟩⟩⟩⟩⟩⟩⟩⟩⟩⟩⟩⟩⟩⟩⟩⟩⟩⟩⟩⟩⟩ (fun sg=>?_)
      refine(show RG _ _ _ _ [_,_,_] _ from ?_);refine s (aC (D J))<|aW 2 sI J<|eW (lY (hs' :=[(1,au ((sg 11).h 0).1 ((sg 11).h 0).2 l1.length),(2,au ((sg 26).h 0).1 ((sg 26).h 0).2 l2.length)]) (u:=au ((sg 26).h 0).1 ((sg 26).h 0).2 l2.length) c0 J J Po J ⟨.inr ⟨J,J⟩,.inl ⟨J,J,J⟩,aM⟩ (D J) (acf (y:=l2) (D J) J0) (D J)) fun i7=>?_;refine(show RG _ _ _ _ [_,_,_] _ from ?_);exact br<|a8<|bA<|bS<|ah<|aH<|aH<|so h▸bF J (qZ [(((sg 11).h 0).1,((sg 11).h 0).2),(((sg 26).h 0).1,((sg 26).h 0).2)]) J J (fun _ _ h=>h)
   ·obtain⟨V,h⟩:=h
    refine fj V J<|aT<|aA<|aB J<|s (zd fx b9 J (.tail _ (.tail _ (.head _))) q_y1 (D J) (D J) (eF V))<|s (nc (r:=bP) (i:=((IntKind.i64.wrap ((l.open_.length:Int)-r))+(i5:Int))) (foff:=0) b9 J J bp J (.tail _ (.tail _ (.head _))) (zA q_y1 (eF V)).1 (D J))<|hE J<|aZ J<|aB J ?_;refine s (aC (D J))<|aW 1 Dq J<|s (na TX J (.head _) (.tail _ (.head _)) (D J))<|aS J<|bM h fun e2 q_e2 h=>s (vS CX c0 J (tX (D J)) (D J) q_e2)<|fi c0 J<|aZ J<|bm<|bG lX eJ b9 J<|nW J<|aS J<|bM h fun t1 q_t1 h=>ai J (du J) ?_
    obtain⟨r3,h1t1,h0t1⟩:=og q_t1
    have q_r3g:=fun K=>(h1t1 K).1
    refine ai J (fun H=>db abr (Vd _ _ (q_r3g H)) ⟨(bL J H),hI,aM⟩)<|s (de (D J) (fun K=>(bL J K)) (fun K=>(h1t1 K).2) h0t1)<|cZ h J (fun h=>?_) (fun h=>?_)
    ·exact a8<|bA<|bS<|av<|ei<|av<|ei<|aH<|aH<|aH<|so h▸bF J ix J J (fun _ _ h=>h)
    ·refine jg<|aB J<|bW J<|cZ h J (fun h=>?_) (fun h=>?_)
     ·refine aw<|aS J<|aS J<|s (aC (D J))<|aW 15 jI J<|eW (dj c0 J (n7 (hs' :=[(1,au (ix.h 0).1 (ix.h 0).2 l.kinds.length),(2,au (ix.h 1).1 (ix.h 1).2 l.open_.length)]) Gx ⟨.inr ⟨J,J⟩,.inr ⟨J,J⟩,aM⟩ J) J (D J) (D J)) fun i8=>?_;refine(show RG _ _ _ _ [_,_,_] _ from ?_);refine aX<|dW V hN J ?_;exact bj (aV (ih (i5+1) (({({({({({({l with n:=e}:al)with a_:=[]}:al)with b:=[]}:al)with a_:=a_}:al)with b:=b3}:al)with a_:=e2}:al).a_) (({({({({({({l with n:=e}:al)with a_:=[]}:al)with b:=[]}:al)with a_:=a_}:al)with b:=b3}:al)with a_:=e2}:al).b) ⟨dQ V,h⟩) (bo J))
     ·refine aw<|aS J<|aS J<|s (aC (D J))<|aW 16 Bf J<|eW (dj c0 J (n7 (hs' :=[(1,au (ix.h 0).1 (ix.h 0).2 l.kinds.length),(2,au (ix.h 1).1 (ix.h 1).2 l.open_.length)]) Gw ⟨.inr ⟨J,J⟩,.inr ⟨J,J⟩,aM⟩ J) J (D J) (D J)) fun i9=>?_;refine(show RG _ _ _ _ [_,_,_] _ from ?_);refine aX<|dW V hN J ?_;exact bj (aV (ih (i5+1) (({({({({({({l with n:=e}:al)with a_:=[]}:al)with b:=[]}:al)with a_:=a_}:al)with b:=b3}:al)with b:=e2}:al).a_) (({({({({({({l with n:=e}:al)with a_:=[]}:al)with b:=[]}:al)with a_:=a_}:al)with b:=b3}:al)with b:=e2}:al).b) ⟨dQ V,h⟩) (bo J))

end Go.Proofs.YtdohlidddcgfjaaGreat

