/- bR of this claim: P6. -/
import Derived.Test.YtdohlidddcgfjaaGreatFbT
import Derived.Test.YtdohlidddcgfjaaGreatFbP5
set_option linter.all false
namespace Go.Proofs.YtdohlidddcgfjaaGreat
open Go
set_option maxRecDepth 100000

def Pm l o{R}(h:lb l o=some R):dy aV 208 [tD gB o,cH (VU bh) l] (gw R):=by
 refine eu Tryz.func208 J<|a8<|eG J<|bE<|bp<|aP ?_
 refine jV (ts:=[_,_,_,_,_,_,_,_,_,_,_,_,_,_]) mixed J J
  ⟨Ho 2 J J (uv EM xZ J J),
  ⟨sH 0 bS J J,
  ⟨fm 5 1 J J (ij (D J) hI),
  ⟨fm 6 2 J J (m1 J),
  ⟨Ct 2 7 3 J J J (mY J J J J (fun X=>uv EM xZ J J)),
  ⟨se 8 4 7 3 J J J (mY J J J J (fun X=>jn bS J J (bC J X))),
  ⟨Ct 1 7 3 J J J (mY J J J J (fun X=>(AJ AU J J).imp (fun _ _ h=>Oi.1 h))),
  ⟨se 10 6 7 3 J J J (mY J J J J (fun X=>OG (bC J X))),
  ⟨se 11 7 7 3 J J J (mY J J J J (fun X=>gG iF J nf J (bC J X))),
  ⟨se 12 8 7 3 J J J (mY J J J J (fun X=>jn cF J J (bC J X))),
  ⟨se 13 9 7 3 J J J (mY J J J J (fun X=>ld er (bC J X))),
  ⟨LV 9 5 14 10 7 3 J J J J (mY J J J J (fun X=>gE (bC J X) (bC J X))),
  ⟨jz 7 3 15 11 J J J (S3 J J),
  ⟨fm 16 12 J J (Hp J),
  d⟩⟩⟩⟩⟩⟩⟩⟩⟩⟩⟩⟩⟩⟩ ?_
 exact aH<|pA<|so h▸aQ J J

def Sd(b:Nat)(ix:OI) l{R}(h:iJ l=some R):bd aV 173 [K (M b 0)] (dM b l ix) (fun _:OI=>gw R.1) (fun j=>dM b R.2 j):=by
 refine bd.of Tryz.func173 J J J fun w0 S0=>?_;refine(show CG _ _ _ [Z (rH bh [(1,an (ix.h 0).1 (ix.h 0).2 l.kinds.length),(2,an (ix.h 1).1 (ix.h 1).2 l.open_.length)]) 168 b l,tip nt 69 (ix.h 0).1 (ix.h 0).2 l.kinds,cM bH 3 (ix.h 1).1 (ix.h 1).2 l.open_] _ from ?_);refine a8<|s (OK (fun _ _ h=>by rw [show _=_ from h];rfl) (D J))<|bE<|bp<|aP ?_
 refine pX 7 (ts:=[K (M b 0),K (M b 0),K (M b 0),K (M b 15),nj l.a_,K (M b 0),K (M b 17)]) mixed J J J
  ⟨Ho 1 J J (sS AU (D J)),
  ⟨Ho 1 J J (sS AU (D J)),
  ⟨fm 5 1 J J (aD (D J)),
  ⟨fm 6 2 J J (oz 15 iF J J J),
  ⟨fm 7 3 J J (aE (r:=rH bh [(1,an (ix.h 0).1 (ix.h 0).2 l.kinds.length),(2,an (ix.h 1).1 (ix.h 1).2 l.open_.length)]) (x:=l) cF J J (dZ nf) (.head _) (D J)),
  ⟨fm 4 0 J J (aD (D J)),
  ⟨fm 9 5 J J (oz 17 eU J J J),
  d⟩⟩⟩⟩⟩⟩⟩ ?_
 refine d6 (cK cF J (mF (hs' :=[(1,an (ix.h 0).1 (ix.h 0).2 l.kinds.length),(2,an (ix.h 1).1 (ix.h 1).2 l.open_.length)]) qC ⟨.inr ⟨J,J⟩,.inr ⟨J,J⟩,d⟩ J) J (D J) (D J)) fun i=>?_;refine(show RG _ _ _ _ [_,_,_] _ from ?_);refine bp<|a8<|s (sS AU (D J))<|s (aD (D J))<|aX 3 fX J<|aX 13 rN J<|s (aE (r:=rH bh [(1,an (ix.h 0).1 (ix.h 0).2 l.kinds.length),(2,an (ix.h 1).1 (ix.h 1).2 l.open_.length)]) (x:=({l with result:=l.a_}:ai)) FE J J (dZ (dJ eD mV)) (.head _) (D J))<|s ((show b9 _ _ _ _ (Md bh ({l with result:=l.a_}:ai) b ((ke aV LS nM (fun(x:j3)=>(lb ({l with result:=l.a_}:ai)) x))))from EA (cts:=[cH (VU bh) ({l with result:=l.a_}:ai)]) (caps:=[.tmp 1]) US (fun S S1 a hf hle hk=>AQ (IW (D J) hf hle hk) trivial) (fun x y h=>Pm _ _ h)))<|bT h fun r q_r h=>s (ME (r:=rH bh [(1,an (ix.h 0).1 (ix.h 0).2 l.kinds.length),(2,an (ix.h 1).1 (ix.h 1).2 l.open_.length)]) (rd:=bh) (T:=168) (b:=b) (x:=({l with result:=l.a_}:ai)) (y:=({l with result:=l.a_}:ai)) (.head _) UT (Pn _ _ q_r) (fun _ _ _ _ h=>h.1) (fun S S1 a hf hle hk=>AQ (Ta (D J) hf hle) (AQ (Oc (D J) hf hle hk) trivial)) Oj)<|aW J<|ay J<|s (fH (D J))<|aO J<|ah J (fun X=>sS AU (D J))<|ah J (fun X=>aD (bC J X))<|ah J (fun X=>bK (n:=3) fX J (bC J X) J)<|ah J (fun X=>bK (n:=13) rN J (bC J X) J) ?_;refine ah J (fun X=>aE (r:=rH bh [(1,an (ix.h 0).1 (ix.h 0).2 l.kinds.length),(2,an (ix.h 1).1 (ix.h 1).2 l.open_.length)]) (x:=({l with result:=l.a_}:ai)) FE J J (dZ (dJ eD mV)) (.head _) (bC J X))<|ah J (ml xp J)<|ah J (fun X=>gu (bC J X) hI)<|cB J<|aO J<|ah J (fun X=>sS AU (D J))<|ah J (fun X=>aD (bC J X))<|ah J (fun X=>bK (n:=3) fX J (bC J X) J)<|ah J (fun X=>bK (n:=14) tP J (bC J X) J)<|ah J (fun X=>aE (r:=rH bh [(1,an (ix.h 0).1 (ix.h 0).2 l.kinds.length),(2,an (ix.h 1).1 (ix.h 1).2 l.open_.length)]) (x:=({l with result:=l.a_}:ai)) bS J J (dZ (dJ eD oq)) (.head _) (bC J X))<|ah J (fun X=>gE (bC J X) hI)<|cB J<|aO J<|ah J (fun X=>sS AU (D J))<|ah J (fun X=>aD (bC J X))<|ah J (fun X=>bK (n:=3) fX J (bC J X) J)<|ah J (fun X=>bK (n:=14) tP J (bC J X) J)<|ah J (fun X=>aE (r:=rH bh [(1,an (ix.h 0).1 (ix.h 0).2 l.kinds.length),(2,an (ix.h 1).1 (ix.h 1).2 l.open_.length)]) (x:=({l with result:=l.a_}:ai)) bS J J (dZ (dJ eD oq)) (.head _) (bC J X))<|ah J (fun X=>gu (bC J X) hI)<|cB J<|bk J ?_;exact aG<|aG<|aG<|so h▸bB J ix J J (fun _ _ h=>h)

def PC{R}(h:lT=some R):dy aV 126 [] (Tj (fun y:(ai->Unit->Option (Bool×ai))=>nN (fun bb=>d5 aV (fun(x:Unit)=>[K (M bb 0)]) (dM bb) nM y)) (Qj .i64) R):=by
 refine eu Tryz.func126 J<|a8<|s (bZ (show aI _ _ (.const (.map none)) (K (.map none))from fun _ _ _=>J))<|bp<|a8<|B6 (JC (fun y:(ai->Unit->Option (Bool×ai))=>nN (fun bb=>d5 aV (fun(x:Unit)=>[K (M bb 0)]) (dM bb) nM y))) (Qj .i64) J fun b=>iW (γ:=(fun y:(ai->Unit->Option (Bool×ai))=>nN (fun bb=>d5 aV (fun(x:Unit)=>[K (M bb 0)]) (dM bb) nM y))) (y:=(fun(mc:ai) (mx:Unit)=>iK mc)) zZ (hE kz) (D J) (ro hI) (show aI _ _ _ (nN (fun bb=>d5 aV (fun(x:Unit)=>[K (M bb 0)]) (dM bb) nM (fun(mc:ai) (mx:Unit)=>iK mc)))from(Bs fun bb=>mP Vl (fun c x R h i=>So _ _ _ h))) fun os=>iW (γ:=(fun y:(ai->Unit->Option (Bool×ai))=>nN (fun bb=>d5 aV (fun(x:Unit)=>[K (M bb 0)]) (dM bb) nM y))) (y:=(fun(mc:ai) (mx:Unit)=>gW mc)) zZ (hE kz) (D J) (ro hI) (show aI _ _ _ (nN (fun bb=>d5 aV (fun(x:Unit)=>[K (M bb 0)]) (dM bb) nM (fun(mc:ai) (mx:Unit)=>gW mc)))from(Bs fun bb=>mP Vk (fun c x R h i=>Sn _ _ _ h))) fun os1=>iW (γ:=(fun y:(ai->Unit->Option (Bool×ai))=>nN (fun bb=>d5 aV (fun(x:Unit)=>[K (M bb 0)]) (dM bb) nM y))) (y:=(fun(mc:ai) (mx:Unit)=>fV mc)) zZ (hE kz) (D J) (ro hI) (show aI _ _ _ (nN (fun bb=>d5 aV (fun(x:Unit)=>[K (M bb 0)]) (dM bb) nM (fun(mc:ai) (mx:Unit)=>fV mc)))from(Bs fun bb=>mP Vj (fun c x R h i=>Sm _ _ _ h))) fun os2=>iW (γ:=(fun y:(ai->Unit->Option (Bool×ai))=>nN (fun bb=>d5 aV (fun(x:Unit)=>[K (M bb 0)]) (dM bb) nM y))) (y:=(fun(mc:ai) (mx:Unit)=>ew mc)) zZ (hE kz) (D J) (ro hI) (show aI _ _ _ (nN (fun bb=>d5 aV (fun(x:Unit)=>[K (M bb 0)]) (dM bb) nM (fun(mc:ai) (mx:Unit)=>ew mc)))from(Bs fun bb=>mP Vi (fun c x R h i=>Sl _ _ _ h))) fun os3=>iW (γ:=(fun y:(ai->Unit->Option (Bool×ai))=>nN (fun bb=>d5 aV (fun(x:Unit)=>[K (M bb 0)]) (dM bb) nM y))) (y:=(fun(mc:ai) (mx:Unit)=>dF mc)) zZ (hE kz) (D J) (ro hI) (show aI _ _ _ (nN (fun bb=>d5 aV (fun(x:Unit)=>[K (M bb 0)]) (dM bb) nM (fun(mc:ai) (mx:Unit)=>dF mc)))from(Bs fun bb=>mP QB (fun c x R h i=>Sk _ _ _ h))) fun os4=>iW (γ:=(fun y:(ai->Unit->Option (Bool×ai))=>nN (fun bb=>d5 aV (fun(x:Unit)=>[K (M bb 0)]) (dM bb) nM y))) (y:=(fun(mc:ai) (mx:Unit)=>ed mc)) zZ (hE kz) (D J) (ro hI) (show aI _ _ _ (nN (fun bb=>d5 aV (fun(x:Unit)=>[K (M bb 0)]) (dM bb) nM (fun(mc:ai) (mx:Unit)=>ed mc)))from(Bs fun bb=>mP Vh (fun c x R h i=>Si _ _ _ h))) fun os5=>iW (γ:=(fun y:(ai->Unit->Option (Bool×ai))=>nN (fun bb=>d5 aV (fun(x:Unit)=>[K (M bb 0)]) (dM bb) nM y))) (y:=(fun(mc:ai) (mx:Unit)=>dG mc)) zZ (hE kz) (D J) (ro hI) (show aI _ _ _ (nN (fun bb=>d5 aV (fun(x:Unit)=>[K (M bb 0)]) (dM bb) nM (fun(mc:ai) (mx:Unit)=>dG mc)))from(Bs fun bb=>mP Vg (fun c x R h i=>Sh _ _ _ h))) fun os6=>iW (γ:=(fun y:(ai->Unit->Option (Bool×ai))=>nN (fun bb=>d5 aV (fun(x:Unit)=>[K (M bb 0)]) (dM bb) nM y))) (y:=(fun(mc:ai) (mx:Unit)=>gC mc)) zZ (hE kz) (D J) (ro hI) (show aI _ _ _ (nN (fun bb=>d5 aV (fun(x:Unit)=>[K (M bb 0)]) (dM bb) nM (fun(mc:ai) (mx:Unit)=>gC mc)))from(Bs fun bb=>mP Ve (fun c x R h i=>Sg _ _ _ h))) fun os7=>iW (γ:=(fun y:(ai->Unit->Option (Bool×ai))=>nN (fun bb=>d5 aV (fun(x:Unit)=>[K (M bb 0)]) (dM bb) nM y))) (y:=(fun(mc:ai) (mx:Unit)=>j4 mc)) zZ (hE kz) (D J) (ro hI) (show aI _ _ _ (nN (fun bb=>d5 aV (fun(x:Unit)=>[K (M bb 0)]) (dM bb) nM (fun(mc:ai) (mx:Unit)=>j4 mc)))from(Bs fun bb=>mP Vd (fun c x R h i=>Sf _ _ _ h))) fun os8=>iW (γ:=(fun y:(ai->Unit->Option (Bool×ai))=>nN (fun bb=>d5 aV (fun(x:Unit)=>[K (M bb 0)]) (dM bb) nM y))) (y:=(fun(mc:ai) (mx:Unit)=>gV mc)) zZ (hE kz) (D J) (ro hI) (show aI _ _ _ (nN (fun bb=>d5 aV (fun(x:Unit)=>[K (M bb 0)]) (dM bb) nM (fun(mc:ai) (mx:Unit)=>gV mc)))from(Bs fun bb=>mP Vc (fun c x R h i=>Se _ _ _ h))) fun os9=>iW (γ:=(fun y:(ai->Unit->Option (Bool×ai))=>nN (fun bb=>d5 aV (fun(x:Unit)=>[K (M bb 0)]) (dM bb) nM y))) (y:=(fun(mc:ai) (mx:Unit)=>iJ mc)) zZ (hE kz) (D J) (ro hI) (show aI _ _ _ (nN (fun bb=>d5 aV (fun(x:Unit)=>[K (M bb 0)]) (dM bb) nM (fun(mc:ai) (mx:Unit)=>iJ mc)))from(Bs fun bb=>mP Vb (fun c x R h i=>Sd _ _ _ h))) fun os10=>aO J<|aW J ?_;exact pA<|He 0 J<|so h▸aQ J J

def Pw op{R}(h:tB op=some R):dy aV 174 [bA op] (bA R):=by
 refine eu Tryz.func174 J<|a8<|cC<|bp<|bm<|aO J<|bp<|aA ?_;refine gR (bx:=fun x=>pH op x=some R) (Of:=fun x=>[]) (Gf:=fun x=>[(3,bA op),(4,gw x)]) (fun x h=>?_) (fun tV=>?_)
 ·skip
  refine iX h J (fun h=>?_) (fun h=>?_)
  ·exact a8<|fZ<|fa<|so h▸aQ J J
  ·refine gR (bx:=fun x1=>pG op x1=some R) (Of:=fun x1=>[]) (Gf:=fun x1=>[(3,bA op),(7,gw x1)]) (fun x1 h=>?_) (fun K1=>?_)
   ·skip
    refine iX h J (fun h=>?_) (fun h=>?_)
    ·exact a8<|fZ<|fa<|so h▸aQ J J
    ·refine gR (bx:=fun x2=>iB x2=some R) (Of:=fun x2=>[]) (Gf:=fun x2=>[(10,gw x2)]) (fun x2 h=>?_) (fun K2=>?_)
     ·skip
      refine iX h J (fun h=>?_) (fun h=>?_)
      ·exact a8<|fZ<|fa<|so h▸aQ J J
      ·exact bD<|aF<|aH<|a8<|fZ<|so h▸aQ J J
     ·skip
      refine a8<|bM J<|aW J<|iX h J (fun h=>?_) (fun h=>?_)
      ·refine bD ?_;exact bP (K2 (op==(3:Int)) h) (bj J)
      ·refine a8<|bM J<|aW J<|iX h J (fun h=>?_) (fun h=>?_)
       ·refine bD ?_;exact bP (K2 (op==(4:Int)) h) (bj J)
       ·refine a8<|bM J<|aW J<|iX h J (fun h=>?_) (fun h=>?_)
        ·refine bD ?_;exact bP (K2 (op==(5:Int)) h) (bj J)
        ·refine a8<|bM J<|aW J<|iX h J (fun h=>?_) (fun h=>?_)
         ·refine bD ?_;exact bP (K2 (op==(6:Int)) h) (bj J)
         ·refine a8<|bM J<|aW J<|iX h J (fun h=>?_) (fun h=>?_)
          ·refine bD ?_;exact bP (K2 (op==(8:Int)) h) (bj J)
          ·refine a8<|bM J<|aW J<|iX h J (fun h=>?_) (fun h=>?_)
           ·refine bD ?_;exact bP (K2 (op==(10:Int)) h) (bj J)
           ·refine av<|bM J<|gU J<|aS ?_;exact bP (K2 (op==(11:Int)) h) (bj J)
   ·skip
    refine a8<|bM J<|aW J<|iX h J (fun h=>?_) (fun h=>?_)
    ·refine bD ?_;exact bP (K1 (op==(2:Int)) h) (bj J)
    ·refine av<|bM J<|gU J<|aS ?_;exact bP (K1 (op==(7:Int)) h) (bj J)
 ·skip
  refine a8<|bM J<|aW J<|iX h J (fun h=>?_) (fun h=>?_)
  ·refine bD ?_;exact bP (tV (op==(1:Int)) h) (bj J)
  ·refine av<|bM J<|gU J<|aS ?_;exact bP (tV (op==(9:Int)) h) (bj J)

def Pv n{R}(h:pg n=some R):dy aV 175 [tD bc n] (gw R):=by
 refine eu Tryz.func175 J<|a8<|eG J<|bE<|bp<|aP ?_
 refine jV (ts:=[_,_,_,_,_,_,_,_,_,_,_,_,_,_,_,_,_,_,_,_,_,_,_]) mixed J J
  ⟨Ho 1 J J (uv kI dQ J J),
  ⟨sH 0 bS J J,
  ⟨fm 7 1 J J (VR J),
  ⟨fm 8 2 J J (m1 J),
  ⟨Ct 1 9 3 J J J (mY J J J J (fun X=>uv kI dQ J J)),
  ⟨se 10 4 9 3 J J J (mY J J J J (fun X=>jn bS J J (bC J X))),
  ⟨se 11 5 9 3 J J J (mY J J J J (fun X=>dx (bC J X) hI)),
  ⟨jz 9 3 12 6 J J J (S3 J J),
  ⟨Ho 1 J J (uv kI dQ J J),
  ⟨sH 8 bS J J,
  ⟨fm 15 9 J J (VR J),
  ⟨fm 16 10 J J (m1 J),
  ⟨Ct 1 17 11 J J J (mY J J J J (fun X=>uv kI dQ J J)),
  ⟨se 18 12 17 11 J J J (mY J J J J (fun X=>jn bS J J (bC J X))),
  ⟨se 19 13 17 11 J J J (mY J J J J (fun X=>dx (bC J X) hI)),
  ⟨jz 17 11 20 14 J J J (S3 J J),
  ⟨fm 21 15 J J (m1 J),
  ⟨Ct 1 22 16 J J J (mY J J J J (fun X=>uv kI dQ J J)),
  ⟨se 23 17 22 16 J J J (mY J J J J (fun X=>jn bS J J (bC J X))),
  ⟨se 24 18 22 16 J J J (mY J J J J (fun X=>dx (bC J X) hI)),
  ⟨jz 22 16 25 19 J J J (S3 J J),
  ⟨fm 13 7 J J (Hp J),
  ⟨fm 26 20 J J (Hp J),
  d⟩⟩⟩⟩⟩⟩⟩⟩⟩⟩⟩⟩⟩⟩⟩⟩⟩⟩⟩⟩⟩⟩⟩ ?_
 refine aH<|ay J<|aO J<|bX J (ca tN mU J J)<|bX J (b7 bS J J)<|bX J (kL J)<|bX J (rs J)<|ia J J J J (fun X=>uv pr ja J J)<|ia J J J J (fun X=>jn cF J J (bC J X))<|ia J J J J (fun X=>ld er (bC J X))<|ia J J J J (fun X=>dx (bC J X) hI)<|bX J (fun X=>nP (bC J X) (fun W=>(bC J (xk X W))))<|ka J<|aW J<|ay J<|aO J<|ah J (ca kI dQ J J)<|ah J (b7 bS J J) ?_;refine ah J (kL J)<|ah J (rs J)<|c0 J J J J (fun X=>uv BD tK J J)<|c0 J J J J (fun X=>jn yM J J (bC J X))<|c0 J J J J (fun X=>fH (bC J X))<|ah J (fun X=>lW (bC J X) (fun W=>(bC J (xk X (y3 W)))))<|cB J<|aO J<|ah J (ca kI dQ J J)<|ah J (b7 bS J J)<|ah J (kL J)<|ah J (rs J)<|c0 J J J J (fun X=>uv kI dQ J J)<|c0 J J J J (fun X=>jn bS J J (bC J X))<|c0 J J J J (fun X=>dx (bC J X) hI)<|ah J (fun X=>lW (bC J X) (fun W=>(bC J (xk X (y3 W)))))<|ah J (rs J)<|c0 J J J J (fun X=>uv tM nR J J)<|c0 J J J J (fun X=>gG ra J lk J (bC J X))<|c0 J J J J (fun X=>jn AS J J (bC J X))<|c0 J J J J (fun X=>ld sE (bC J X))<|c0 J J J J (fun X=>dx (bC J X) hI)<|ah J (fun X=>lW (bC J X) (fun W=>(bC J (xk X (y3 W)))))<|cB J ?_;refine aW J<|ay J<|aO J<|ah J (cN J)<|ah J (rs J)<|c0 J J J J (fun X=>uv oT iq J J)<|c0 J J J J (fun X=>jn cF J J (bC J X))<|c0 J J J J (fun X=>ld er (bC J X))<|c0 J J J J (fun X=>uv nr gc J J)<|c0 J J J J (fun X=>jn vY J J (bC J X))<|c0 J J J J (fun X=>ld p7 (bC J X))<|c0 J J J J (fun X=>fc (bC J X) (bC J X))<|c0 J J J J (fun X=>dx (bC J X) hI)<|ah J (fun X=>lW (bC J X) (fun W=>(bC J (xk X (y3 W)))))<|cB J<|aO J<|ah J (ca kI dQ J J)<|ah J (b7 bS J J)<|ah J (kL J)<|ah J (rs J) ?_;refine c0 J J J J (fun X=>uv w8 pp J J)<|c0 J J J J (fun X=>jn HA J J (bC J X))<|c0 J J J J (fun X=>ld yI (bC J X))<|c0 J J J J (fun X=>dx (bC J X) hI)<|ah J (fun X=>lW (bC J X) (fun W=>(bC J (xk X (y3 W)))))<|cB J<|aW J<|ay J<|aO J<|ah J (ca kI dQ J J)<|ah J (b7 bS J J)<|ah J (kL J)<|ah J (rs J)<|c0 J J J J (fun X=>uv rN mV J J)<|c0 J J J J (fun X=>jn FE J J (bC J X))<|c0 J J J J (fun X=>ld xp (bC J X))<|c0 J J J J (fun X=>dx (bC J X) hI)<|c0 J J J J (fun X=>bU (bC J X))<|ia J J J J (fun X=>uv tP oq J J)<|ia J J J J (fun X=>jn bS J J (bC J X)) ?_;exact ia J J J J (fun X=>dx (bC J X) hI)<|c0 J J J J (fun X=>nP (bC J X) (fun W=>(bC J (xk X W))))<|ah J (fun X=>lW (bC J X) (fun W=>(bC J (xk X (y3 W)))))<|cB J<|bk J<|so h▸aQ J J

def Pl ae v{R}(h:mE ae v=some R):dy aV 209 [nj ae,bA v] (bA R):=by
 refine eu Tryz.func209 J<|a8<|cC<|bp<|bm<|aO J<|cw er J<|s (bU hI)<|bp<|aA<|bt (k:=6) J fun hN=>bV ?_;refine aT (gO (bx:=fun ls i=>(ae.drop i=ls)/\gj v ls i=some R) (Of:=fun _ i=>[]) (Gf:=fun _ i=>[(0,nj ae),(1,bA v),(7,nu ae),(8,bA (i:Int))]) (fun i h=>?_) (fun e tl ih i h=>?_) ae 0 ⟨J,h⟩) (bj J)
 ·obtain⟨V,h⟩:=h
  exact ft V J<|aH<|a8<|fZ<|so h▸aQ J J
 ·obtain⟨V,h⟩:=h
  refine fq V J<|aP<|aA<|ay J<|aW J<|ay J<|aO J<|aO J<|C2 er bS J (eo V) ?_;refine eJ bS J<|s (dx (D J) (D J))<|dd h J (fun h=>?_) (fun h=>?_)
  ·exact ay J<|bk J<|fa<|aC<|fa<|so h▸aQ J J
  ·refine bD<|dY V hN J ?_;exact bf (aT (ih (i+1) ⟨dO V,h⟩) (bj J))

def Pu ae v{R}(h:eW ae v=some R):dy aV 176 [nj ae,bA v] (gw R):=by
 exact eu Tryz.func176 J<|a8<|bE<|bp<|ay J<|aO J<|iw h UR (Pl _ _) (eb J) fun r h=>s (gE (D J) hI)<|bk J<|so h▸aQ J J

def Sy(b:Nat)(ix:OI) l i ask{R}(h:de l i ask=some R):bd aV 127 [K (M b 0),bA i,nN (fun bb=>d5 aV (fun(x:Unit)=>[K (M bb 0)]) (dM bb) nM ask)] (dM b l ix) (fun _:OI=>gw R.1) (fun j=>dM b R.2 j):=by
 refine bd.of Tryz.func127 J J J fun w0 S0=>?_;refine(show CG _ _ _ [Z (rH bh [(1,an (ix.h 0).1 (ix.h 0).2 l.kinds.length),(2,an (ix.h 1).1 (ix.h 1).2 l.open_.length)]) 168 b l,tip nt 69 (ix.h 0).1 (ix.h 0).2 l.kinds,cM bH 3 (ix.h 1).1 (ix.h 1).2 l.open_] _ from ?_);refine a8<|bE<|bp<|ay J<|s (aD (D J))<|aX 0 EL J<|s (aE (r:=rH bh [(1,an (ix.h 0).1 (ix.h 0).2 l.kinds.length),(2,an (ix.h 1).1 (ix.h 1).2 l.open_.length)]) (x:=l) Ej J J (dZ y8) (.head _) (D J))<|aO J<|bT h fun e q_e h=>fP um fG J q_e<|bw fG j7 J fun b1=>bG fG aB J<|bg 7 J<|bp<|a8<|bz kI dQ bS J ?_;refine iw h Va (Pw _) (eb J) fun r h=>aW J<|bm<|aO J<|s (ij (D J) hI)<|aO J<|bX J (cN J)<|bX J (cN J)<|bX J (fun X=>aD (bC J X))<|bX J (fun X=>bK (n:=2) qr J (bC J X) J)<|bX J (fun X=>dv cF J (.head _) (bC J X))<|bX J (fun X=>hD er (.tail _ (.tail _ (.head _))) (bC J X))<|bX J (fun X=>jL (bC J X) (bC J X))<|ka J<|aO J<|bT h fun t q_t h=>bX J (fun X=>AJ fG J J) ?_
 obtain⟨r1,h1t,h0t⟩:=og q_t
 have q_r1g:=fun W=>(h1t W).1
 refine bX J (fun X=>c7 U9 (Pv _ (q_r1g X)) ⟨(bC J X),d⟩)<|bX J (xC J)<|s (wW (D J) (fun W=>(bC J (y3 W))) (fun W=>(h1t W).2) h0t)<|bp<|qz (D J) (fun hc=>?_) (fun hc=>?_)
 ·have h:=ct h hc;exact a8<|bE<|cj<|aC<|aG<|aG<|aG<|so h▸bB J ix J J (fun _ _ h=>h)
 ·have h:=cf h hc;refine ji<|a8<|s (qE (r:=bH) (ys:=[z2,z2]) (xs:=[.const (.int .i64 (-1)),.const (.int .i64 (-1))]) AE bS J wl J J ⟨hI,hI,d⟩)<|bw (r:=(mg bH 2)) (x:=(List.replicate 2 (0:Int))) wl (fun _=>yu (r:=bH) 2 (fun _=>J) _) J fun b2=>bG wl aB J<|bp<|aP<|bT h fun y q_y h=>?_
  refine pX 13 (ts:=[K (.slice (some ⟨b2,0,none⟩) 2 2),K (M b 0),K (M b 0),K (M b 2),pY (ix.h 1).1 (ix.h 1).2 l.open_,K (M b 0),K (M b 0),K (M b 2),pY (ix.h 1).1 (ix.h 1).2 l.open_,nu l.open_,bA r,bA (IntKind.i64.wrap ((l.open_.length:Int)-r)),K (mf 1 (ix.h 1).1 (ix.h 1).2 (IntKind.i64.wrap ((l.open_.length:Int)-r)).toNat y.length)]) mixed J J J
   ⟨Ho 9 J J (Ga AE (Og bS) (D J)),
   ⟨gx J J,
   ⟨fm 42 1 J J (aD (D J)),
   ⟨fm 43 2 J J (oz 2 qr J J J),
   ⟨fm 44 3 J J (dv cF J (.tail _ (.head _)) (D J)),
   ⟨gx J J,
   ⟨fm 46 5 J J (aD (D J)),
   ⟨fm 47 6 J J (oz 2 qr J J J),
   ⟨fm 48 7 J J (dv cF J (.tail _ (.head _)) (D J)),
   ⟨fm 49 8 J J (hD er (.tail _ (.tail _ (.tail _ (.head _)))) (D J)),
   ⟨gx J J,
   ⟨jz 50 9 51 10 J J J (ii (D J) (D J)),
   ⟨jz 45 4 52 11 J J J (oe er bS J (.tail _ (.tail _ (.tail _ (.head _)))) (D J) (D J) q_y),
   d⟩⟩⟩⟩⟩⟩⟩⟩⟩⟩⟩⟩⟩ ?_
  refine oW (.tail _ (.tail _ (.tail _ (.head _)))) q_y fun hv=>aR (EW (.tail _ (.tail _ (.tail _ (.head _)))) q_y er (Ei bS) (D J) (D J)) J fun i1=>?_;refine(show RG _ _ _ _ [_,_,_,_] ((54,bA ((min y.length 2:Nat):Int))::_)from ?_);refine bp<|bm<|s (aE (x:=(ni ([z2,z2]) y)) wl J J bo (.head _) (D J))<|bz qe tL bS J<|bz q9 w7 bS J<|s (qE (r:=bH) (ys:=[e.A,e.B]) (xs:=[.tmp 57,.tmp 59]) AE bS J wl J J ⟨(D J),(D J),d⟩)<|s (vH Qq (D J) (D J))<|bp<|qz (D J) (fun hc=>?_) (fun hc=>?_)
  ·have h:=ct h hc;exact a8<|bE<|cj<|aC<|ba<|aG<|aG<|aG<|so h▸bB J ix J J (fun _ _ h=>h)
  ·have h:=cf h hc;refine ji<|ay J<|aO J<|aO J<|eJ fG J<|s (aD (D J))<|aX 3 fX J<|d6 (EffOK.fr1 (cK fG J (mF (hs' :=[(1,an (ix.h 0).1 (ix.h 0).2 l.kinds.length),(2,an (ix.h 1).1 (ix.h 1).2 l.open_.length)]) KC ⟨.inr ⟨J,J⟩,.inr ⟨J,J⟩,d⟩ J) J (D J) (D J))) fun i2=>?_;refine(show RG _ _ _ _ [_,_,_,_] _ from ?_);refine s (aD (D J))<|aX 15 iF J<|d6 (cK cF J (mF (hs' :=[(1,an (ix.h 0).1 (ix.h 0).2 l.kinds.length),(2,an (ix.h 1).1 (ix.h 1).2 l.open_.length)]) Df ⟨.inr ⟨J,J⟩,.inr ⟨J,J⟩,d⟩ J) J (D J) OS) fun i3=>?_;refine(show RG _ _ _ _ [_,_,_,_] _ from ?_);refine s (aD (D J))<|aX 16 yi J<|d6 (cK cF J (mF (hs' :=[(1,an (ix.h 0).1 (ix.h 0).2 l.kinds.length),(2,an (ix.h 1).1 (ix.h 1).2 l.open_.length)]) De ⟨.inr ⟨J,J⟩,.inr ⟨J,J⟩,d⟩ J) J (D J) OS) fun i4=>?_;refine(show RG _ _ _ _ [_,_,_,_] _ from ?_);refine bp<|aP<|aP<|bT h fun y1 q_y1 h=>?_
   refine jV (ts:=[_,_,_,_,_,_,_,_,_,_,_,_,_,_]) mixed J J
    ⟨gx J J,
    ⟨fm 72 0 J J (aD (D J)),
    ⟨fm 73 1 J J (oz 2 qr J J J),
    ⟨fm 74 2 J J (dv cF J (.head _) (D J)),
    ⟨gx J J,
    ⟨fm 76 4 J J (aD (D J)),
    ⟨fm 77 5 J J (oz 2 qr J J J),
    ⟨fm 78 6 J J (dv cF J (.head _) (D J)),
    ⟨fm 79 7 J J (hD er (.tail _ (.tail _ (.tail _ (.head _)))) (D J)),
    ⟨gx J J,
    ⟨jz 80 8 81 9 J J J (ii (D J) (D J)),
    ⟨jz 75 3 82 10 J J J (oe er bS J (.tail _ (.tail _ (.tail _ (.head _)))) (D J) (D J) q_y1),
    ⟨fm 83 11 J J (Jz er (.tail _ (.tail _ (.tail _ (.head _)))) q_y1 (D J)),
    ⟨zd0 J (bU hI),
    d⟩⟩⟩⟩⟩⟩⟩⟩⟩⟩⟩⟩⟩⟩ ?_
   refine aH<|aA<|E8 (.tail _ (.tail _ (.tail _ (.head _)))) q_y1 fun hv1=>?_
   have hN:=hv1.2
   refine bV<|fD<|qy ?_;refine aT (Cd (bx:=fun ls i5 a_ b3=>(y1.drop i5=ls)/\aU l i ask e r ls i5 a_ b3=some R) (Of:=fun _ i5 a_ b3=>[Z (rH bh [(1,an (ix.h 0).1 (ix.h 0).2 l.kinds.length),(2,an (ix.h 1).1 (ix.h 1).2 l.open_.length)]) 168 b ({({({({({l with n:=e}:ai)with a_:=[]}:ai)with b:=[]}:ai)with a_:=a_}:ai)with b:=b3}:ai),tip nt 69 (ix.h 0).1 (ix.h 0).2 l.kinds,cM bH 3 (ix.h 1).1 (ix.h 1).2 l.open_]) (Gf:=fun _ i5 a_ b3=>[(0,K (M b 0)),(1,bA i),(2,nN (fun bb=>d5 aV (fun(x:Unit)=>[K (M bb 0)]) (dM bb) nM ask)),(7,cH bc e),(8,bA r),(83,K (mf 1 (ix.h 1).1 (ix.h 1).2 (IntKind.i64.wrap ((l.open_.length:Int)-r)).toNat y1.length)),(84,nu y1),(85,bA (i5:Int))]) (fun i5 a_ b3 h=>?_) (fun e1 tl ih i5 a_ b3 h=>?_) y1 0 (({({({l with n:=e}:ai)with a_:=[]}:ai)with b:=[]}:ai).a_) (({({({l with n:=e}:ai)with a_:=[]}:ai)with b:=[]}:ai).b) ⟨J,h⟩) (bj J)
   ·obtain⟨V,h⟩:=h
    refine ft V J<|aH<|a8<|bz kI dQ bS J<|bM J<|aO J<|bX J (ca kI dQ J J)<|bX J (b7 bS J J)<|bX J (kL J)<|ka J<|gU J ?_;refine bp<|bm<|aO J<|aO J<|ah J (cN J)<|ah J (cN J)<|ah J (fun X=>aD (bC J X))<|ah J (fun X=>bK (n:=0) EL J (bC J X) J)<|ah J (fun X=>aE (r:=rH bh [(1,an (ix.h 0).1 (ix.h 0).2 l.kinds.length),(2,an (ix.h 1).1 (ix.h 1).2 l.open_.length)]) (x:=({({({({({l with n:=e}:ai)with a_:=[]}:ai)with b:=[]}:ai)with a_:=a_}:ai)with b:=b3}:ai)) Ej J J (dZ y8) (.head _) (bC J X))<|ah J (ml um J)<|ah J (fun X=>ii (bC J X) hI)<|ah J (fun X=>jm (bC J X) (bC J X))<|cB J<|aO J ?_;refine vt (((e.Op==(8:Int))||(e.Op==(10:Int)))&&(i !=(IntKind.i64.wrap (((({({({({({l with n:=e}:ai)with a_:=[]}:ai)with b:=[]}:ai)with a_:=a_}:ai)with b:=b3}:ai).nodes).length:Int)-(1:Int))))) (fun X=>?_) (fun X=>?_)
    ·have h:=ct h X;refine dB J J J X J<|dB J J J X J<|dB J J J X J<|dB J J J X J<|s (qD (D J) X SV)<|aO J<|dB J J J J J<|dB J J J J J<|dB J J J J J<|dB J J J J J<|dB J J J J J<|dB J J J J J<|s (qD (D J) J SV)<|bp<|qz (D J) (fun hc=>?_) (fun hc=>?_)
     ·exact a8<|bE<|cj<|aC<|aG<|aG<|aG<|so h▸bB J ix J J (fun _ _ h=>h)
     ·cases hc
    ·have h:=cf h X;refine fY J J J X<|aO J<|fY J J J X<|aO J<|fY J J J X<|bT h fun r2 q_r2 h=>aR (EffOK.fr2 (EffOK.fr2 (EffOK.fr2 (ym (args:=(fun(x:Unit)=>[K (M b 0)])) (Ob:=dM b) (res:=nM) (f:=ask) (x:=({({({({({l with n:=e}:ai)with a_:=[]}:ai)with b:=[]}:ai)with a_:=a_}:ai)with b:=b3}:ai)) (y:=(():Unit)) (R:=r2) (i:=ix) (xs:=[.tmp 136]) _ J (TK (t:=(fun bb=>d5 aV (fun(x:Unit)=>[K (M bb 0)]) (dM bb) nM ask)) b (D J)) q_r2 ⟨(D J),d⟩ (fun _=>J))))) J fun i6=>?_;refine(show RG _ _ _ _ [_,_,_] ((137,gw r2.1)::_)from ?_);refine fY J J J X<|s (fH (D J))<|s (pi (D J) X (D J))<|aO J<|bX J (cN J)<|bX J (fun X=>aD (bC J X))<|bX J (fun X=>bK (n:=17) eU J (bC J X) J)<|bX J (fun X=>aE (r:=rH bh [(1,an (i6.h 0).1 (i6.h 0).2 r2.2.kinds.length),(2,an (i6.h 1).1 (i6.h 1).2 r2.2.open_.length)]) (x:=r2.2) cF J J (dZ y7) (.head _) (bC J X))<|bX J (ml er J)<|bX J (fun X=>jL (bC J X) hI)<|ka J<|dd h J (fun h=>?_) (fun h=>?_)
     ·exact a8<|bE<|cj<|aC<|aG<|aG<|aG<|so h▸bB J i6 J J (fun _ _ h=>h)
     ·refine ji<|aP<|bT h fun l1 q_l1 h=>bT h fun y2 q_y2 h=>bT h fun l2 q_l2 h=>?_
      refine ic 30 [tc (K (M b 0)),tc (K (M b 0)),tc (K (M b 0)),tc (K (M b 0)),tc (K (M b 1)),tc (tO nt (i6.h 0).1 (i6.h 0).2 r2.2.kinds),tc (K (M b 0)),tc (K (M b 0)),tc (K (M b 17)),tc (nj r2.2.result),tc (ep (nt) ([r2.2.result])),([11],fun ae=>tO nt ((ae.getD 0 j8).h 0).1 ((ae.getD 0 j8).h 0).2 l1),tc (K (M b 0)),tc (K (M b 0)),tc (K (M b 2)),tc (pY (i6.h 1).1 (i6.h 1).2 r2.2.open_),tc (K (M b 0)),tc (K (M b 0)),tc (K (M b 2)),tc (pY (i6.h 1).1 (i6.h 1).2 r2.2.open_),tc (nu r2.2.open_),tc (bA r),tc (bA (IntKind.i64.wrap ((r2.2.open_.length:Int)-r))),tc (pY (i6.h 1).1 (i6.h 1).2 y2),tc (bA i),tc (nj ([i])),([26],fun ae=>K (an ((ae.getD 0 j8).h 0).1 ((ae.getD 0 j8).h 0).2 l2.length)),tc (K (M b 0)),tc (K (M b 1)),tc (AW)] [false,false,false,false,false,false,false,false,false,false,false,true,false,false,false,false,false,false,false,false,false,false,false,false,false,false,true,false,false,true] [fun _=>[Z (rH bh [(1,an (i6.h 0).1 (i6.h 0).2 r2.2.kinds.length),(2,an (i6.h 1).1 (i6.h 1).2 r2.2.open_.length)]) 168 b r2.2,tip nt 69 (i6.h 0).1 (i6.h 0).2 r2.2.kinds,cM bH 3 (i6.h 1).1 (i6.h 1).2 r2.2.open_],fun sg=>[tip nt 69 ((sg 11).h 0).1 ((sg 11).h 0).2 l1,Z (rH bh [(1,an (i6.h 0).1 (i6.h 0).2 r2.2.kinds.length),(2,an (i6.h 1).1 (i6.h 1).2 r2.2.open_.length)]) 168 b r2.2,cM bH 3 (i6.h 1).1 (i6.h 1).2 r2.2.open_],fun sg=>[cM bH 3 ((sg 26).h 0).1 ((sg 26).h 0).2 l2,tip nt 69 ((sg 11).h 0).1 ((sg 11).h 0).2 l1,Z (rH bh [(1,an (i6.h 0).1 (i6.h 0).2 r2.2.kinds.length),(2,an (i6.h 1).1 (i6.h 1).2 r2.2.open_.length)]) 168 b r2.2],fun sg=>[Z (rH bh [(1,an ((sg 11).h 0).1 ((sg 11).h 0).2 l1.length),(2,an (i6.h 1).1 (i6.h 1).2 r2.2.open_.length)]) 168 b ({r2.2 with kinds:=l1}:ai),cM bH 3 ((sg 26).h 0).1 ((sg 26).h 0).2 l2,tip nt 69 ((sg 11).h 0).1 ((sg 11).h 0).2 l1]] J mixed J J J J J
       ⟨⟨[⟨0,fun _=>K (M b 0),none⟩],_,0,2,J,⟨(fun _=>J),d⟩,J,J,J,J,J,fun _ sg _ _=>ac J (m1 J)⟩,
       ⟨⟨[⟨0,fun _=>K (M b 0),none⟩],_,0,3,J,⟨(fun _=>J),d⟩,J,J,J,J,J,fun _ sg _ _=>ac J (m1 J)⟩,
       ⟨⟨[⟨0,fun _=>K (M b 0),none⟩],_,0,0,J,⟨(fun _=>J),d⟩,J,J,J,J,J,fun _ sg _ _=>ac J (m1 J)⟩,
       ⟨⟨[⟨150,fun _=>K (M b 0),some 2⟩],_,0,0,J,⟨(fun _=>J),d⟩,J,J,J,J,J,fun _ sg _ _=>ac J (aD (D J))⟩,
       ⟨⟨[⟨151,fun _=>K (M b 0),some 3⟩],_,0,0,J,⟨(fun _=>J),d⟩,J,J,J,J,J,fun _ sg _ _=>ac J (oz 1 Ak J J J)⟩,
       ⟨⟨[⟨152,fun _=>K (M b 1),some 4⟩],_,0,0,J,⟨(fun _=>J),d⟩,J,J,J,J,J,mC (fun sg=>ac J (lc Oh J (.head _) (.tail _ (.head _)) (D J)))⟩,
       ⟨⟨[⟨0,fun _=>K (M b 0),none⟩],_,0,0,J,⟨(fun _=>J),d⟩,J,J,J,J,J,fun _ sg _ _=>ac J (m1 J)⟩,
       ⟨⟨[⟨154,fun _=>K (M b 0),some 6⟩],_,0,0,J,⟨(fun _=>J),d⟩,J,J,J,J,J,fun _ sg _ _=>ac J (aD (D J))⟩,
       ⟨⟨[⟨155,fun _=>K (M b 0),some 7⟩],_,0,0,J,⟨(fun _=>J),d⟩,J,J,J,J,J,fun _ sg _ _=>ac J (oz 17 eU J J J)⟩,
       ⟨⟨[⟨156,fun _=>K (M b 17),some 8⟩],_,0,0,J,⟨(fun _=>J),d⟩,J,J,J,J,J,mC (fun sg=>ac J (aE (r:=rH bh [(1,an (i6.h 0).1 (i6.h 0).2 r2.2.kinds.length),(2,an (i6.h 1).1 (i6.h 1).2 r2.2.open_.length)]) (x:=r2.2) cF J J (dZ y7) (.head _) (D J)))⟩,
       ⟨⟨[⟨157,fun _=>tD wF r2.2.result,some 9⟩],_,0,0,J,⟨(fun _=>J),d⟩,J,J,J,J,J,fun _ sg _ _=>ac J (aY (r:=wF) (ys:=[r2.2.result]) (xs:=[.tmp 157]) zY cF J J J J J ⟨(D J),d⟩)⟩,
       ⟨⟨[⟨153,fun _=>tO wF (i6.h 0).1 (i6.h 0).2 r2.2.kinds,some 5⟩,⟨158,fun _=>tD (gr wF) ([r2.2.result]),some 10⟩],_,J,⟨(fun _=>J),(fun _=>J),d⟩,J,J,J,fun sg=>cm J (EffOK.fr1 (GP cF J J J J zY J (D J) (D J) q_l1))⟩,
       ⟨⟨[⟨0,fun _=>K (M b 0),none⟩],_,0,1,J,⟨(fun _=>J),d⟩,J,J,J,J,J,fun _ sg _ _=>ac J (m1 J)⟩,
       ⟨⟨[⟨160,fun _=>K (M b 0),some 12⟩],_,0,1,J,⟨(fun _=>J),d⟩,J,J,J,J,J,fun _ sg _ _=>ac J (aD (D J))⟩,
       ⟨⟨[⟨161,fun _=>K (M b 0),some 13⟩],_,0,1,J,⟨(fun _=>J),d⟩,J,J,J,J,J,fun _ sg _ _=>ac J (oz 2 qr J J J)⟩,
       ⟨⟨[⟨162,fun _=>K (M b 2),some 14⟩],_,0,1,J,⟨(fun _=>J),d⟩,J,J,J,J,J,AM (fun sg=>ac J (dv cF J (.head _) (D J))) (mC (fun sg=>ac J (dv cF J (.tail _ (.head _)) (D J))))⟩,
       ⟨⟨[⟨0,fun _=>K (M b 0),none⟩],_,0,1,J,⟨(fun _=>J),d⟩,J,J,J,J,J,fun _ sg _ _=>ac J (m1 J)⟩,
       ⟨⟨[⟨164,fun _=>K (M b 0),some 16⟩],_,0,1,J,⟨(fun _=>J),d⟩,J,J,J,J,J,fun _ sg _ _=>ac J (aD (D J))⟩,
       ⟨⟨[⟨165,fun _=>K (M b 0),some 17⟩],_,0,1,J,⟨(fun _=>J),d⟩,J,J,J,J,J,fun _ sg _ _=>ac J (oz 2 qr J J J)⟩,
       ⟨⟨[⟨166,fun _=>K (M b 2),some 18⟩],_,0,1,J,⟨(fun _=>J),d⟩,J,J,J,J,J,AM (fun sg=>ac J (dv cF J (.head _) (D J))) (mC (fun sg=>ac J (dv cF J (.tail _ (.head _)) (D J))))⟩,
       ⟨⟨[⟨167,fun _=>K (an (i6.h 1).1 (i6.h 1).2 r2.2.open_.length),some 19⟩],_,0,1,J,⟨(fun _=>J),d⟩,J,J,J,J,J,AM (fun sg=>ac J (hD er (.tail _ (.tail _ (.head _))) (D J))) (mC (fun sg=>ac J (hD er (.tail _ (.tail _ (.head _))) (D J))))⟩,
       ⟨⟨[⟨8,fun _=>tD bH r,none⟩],_,0,1,J,⟨(fun _=>J),d⟩,J,J,J,J,J,fun _ sg _ _=>ac J (m1 J)⟩,
       ⟨⟨[⟨168,fun _=>tD bH (r2.2.open_.length:Int),some 20⟩,⟨169,fun _=>tD bH r,some 21⟩],_,0,1,J,⟨(fun _=>J),(fun _=>J),d⟩,J,J,J,J,J,fun _ sg _ _=>ac J (ii (D J) (D J))⟩,
       ⟨⟨[⟨163,fun _=>K (an (i6.h 1).1 (i6.h 1).2 r2.2.open_.length),some 15⟩,⟨170,fun _=>tD bH (IntKind.i64.wrap ((r2.2.open_.length:Int)-r)),some 22⟩],_,0,1,J,⟨(fun _=>J),(fun _=>J),d⟩,J,J,J,J,J,AM (fun sg=>ac J (mO er bS J (.tail _ (.tail _ (.head _))) (D J) (D J) q_y2)) (mC (fun sg=>ac J (mO er bS J (.tail _ (.tail _ (.head _))) (D J) (D J) q_y2)))⟩,
       ⟨⟨[⟨1,fun _=>tD bH i,none⟩],_,0,1,J,⟨(fun _=>J),d⟩,J,J,J,J,J,fun _ sg _ _=>ac J (m1 J)⟩,
       ⟨⟨[⟨172,fun _=>tD bH i,some 24⟩],_,0,1,J,⟨(fun _=>J),d⟩,J,J,J,J,J,fun _ sg _ _=>ac J (aY (r:=bH) (ys:=[i]) (xs:=[.tmp 172]) er bS J J J J J ⟨(D J),d⟩)⟩,
       ⟨⟨[⟨171,fun _=>K (an (i6.h 1).1 (i6.h 1).2 y2.length),some 23⟩,⟨173,fun _=>tD wF ([i]),some 25⟩],_,J,⟨(fun _=>J),(fun _=>J),d⟩,J,J,J,fun sg=>cm J (EffOK.fr2 (I7 q_y2 (rW bS J J J J er J (D J) (D J) q_l2)))⟩,
       ⟨⟨[⟨148,fun _=>K (M b 0),some 0⟩],_,2,2,J,⟨(fun _=>J),d⟩,J,J,J,J,J,fun _ sg _ _=>ac J (aD (D J))⟩,
       ⟨⟨[⟨175,fun _=>K (M b 0),some 27⟩],_,2,2,J,⟨(fun _=>J),d⟩,J,J,J,J,J,fun _ sg _ _=>ac J (oz 1 Ak J J J)⟩,
       ⟨⟨[⟨176,fun _=>K (M b 1),some 28⟩,⟨159,fun sg=>tO wF ((sg 11).h 0).1 ((sg 11).h 0).2 l1,some 11⟩],_,J,⟨(fun _=>J),(fun _=>J),d⟩,J,J,J,fun sg=>cm J (EffOK.fr2 (kJ (hs' :=[(1,an ((sg 11).h 0).1 ((sg 11).h 0).2 l1.length),(2,an (i6.h 1).1 (i6.h 1).2 r2.2.open_.length)]) (u:=an ((sg 11).h 0).1 ((sg 11).h 0).2 l1.length) Oh J J KE J ⟨.inl ⟨J,J,J⟩,.inr ⟨J,J⟩,d⟩ (D J) (sf (D J)) (z7 (D J))))⟩,
       d⟩⟩⟩⟩⟩⟩⟩⟩⟩⟩⟩⟩⟩⟩⟩⟩⟩⟩⟩⟩⟩⟩⟩⟩⟩⟩⟩⟩⟩⟩ (fun sg=>?_)
      refine(show RG _ _ _ _ [_,_,_] _ from ?_);refine s (aD (D J))<|aX 2 qr J<|d6 (kJ (hs' :=[(1,an ((sg 11).h 0).1 ((sg 11).h 0).2 l1.length),(2,an ((sg 26).h 0).1 ((sg 26).h 0).2 l2.length)]) (u:=an ((sg 26).h 0).1 ((sg 26).h 0).2 l2.length) cF J J KD J ⟨.inr ⟨J,J⟩,.inl ⟨J,J,J⟩,d⟩ (D J) (V9 (y:=l2) (D J) F6) (D J)) fun i7=>?_;refine(show RG _ _ _ _ [_,_,_] _ from ?_);exact bp<|a8<|bE<|cj<|aj<|aG<|aG<|so h▸bB J (o5 [(((sg 11).h 0).1,((sg 11).h 0).2),(((sg 26).h 0).1,((sg 26).h 0).2)]) J J (fun _ _ h=>h)
   ·obtain⟨V,h⟩:=h
    refine fq V J<|aP<|aA<|ay J<|s (wu er bS J (.tail _ (.tail _ (.head _))) q_y1 (D J) (D J) (eo V))<|s (lP (r:=bH) (i:=((IntKind.i64.wrap ((l.open_.length:Int)-r))+(i5:Int))) (foff:=0) bS J J bo J (.tail _ (.tail _ (.head _))) (wK q_y1 (eo V)).1 (D J))<|gU J<|aW J<|ay J ?_;refine s (aD (D J))<|aX 1 Ak J<|s (lc Oh J (.head _) (.tail _ (.head _)) (D J))<|aO J<|bT h fun e2 q_e2 h=>s (tE zY cF J (sf (D J)) (D J) q_e2)<|eJ cF J<|aW J<|bm<|bz kI dQ bS J<|nW J<|aO J<|bT h fun t1 q_t1 h=>ah J (cN J) ?_
    obtain⟨r3,h1t1,h0t1⟩:=og q_t1
    have q_r3g:=fun W=>(h1t1 W).1
    refine ah J (fun X=>c7 U8 (Pu _ _ (q_r3g X)) ⟨(bC J X),hI,d⟩)<|s (cA (D J) (fun W=>(bC J W)) (fun W=>(h1t1 W).2) h0t1)<|dd h J (fun h=>?_) (fun h=>?_)
    ·exact a8<|bE<|cj<|aC<|fa<|aC<|fa<|aG<|aG<|aG<|so h▸bB J ix J J (fun _ _ h=>h)
    ·refine ji<|ay J<|bM J<|dd h J (fun h=>?_) (fun h=>?_)
     ·refine av<|aO J<|aO J<|s (aD (D J))<|aX 15 iF J<|d6 (cK cF J (mF (hs' :=[(1,an (ix.h 0).1 (ix.h 0).2 l.kinds.length),(2,an (ix.h 1).1 (ix.h 1).2 l.open_.length)]) Df ⟨.inr ⟨J,J⟩,.inr ⟨J,J⟩,d⟩ J) J (D J) (D J)) fun i8=>?_;refine(show RG _ _ _ _ [_,_,_] _ from ?_);refine aS<|dY V hN J ?_;exact bf (aT (ih (i5+1) (({({({({({({l with n:=e}:ai)with a_:=[]}:ai)with b:=[]}:ai)with a_:=a_}:ai)with b:=b3}:ai)with a_:=e2}:ai).a_) (({({({({({({l with n:=e}:ai)with a_:=[]}:ai)with b:=[]}:ai)with a_:=a_}:ai)with b:=b3}:ai)with a_:=e2}:ai).b) ⟨dO V,h⟩) (bj J))
     ·refine av<|aO J<|aO J<|s (aD (D J))<|aX 16 yi J<|d6 (cK cF J (mF (hs' :=[(1,an (ix.h 0).1 (ix.h 0).2 l.kinds.length),(2,an (ix.h 1).1 (ix.h 1).2 l.open_.length)]) De ⟨.inr ⟨J,J⟩,.inr ⟨J,J⟩,d⟩ J) J (D J) (D J)) fun i9=>?_;refine(show RG _ _ _ _ [_,_,_] _ from ?_);refine aS<|dY V hN J ?_;exact bf (aT (ih (i5+1) (({({({({({({l with n:=e}:ai)with a_:=[]}:ai)with b:=[]}:ai)with a_:=a_}:ai)with b:=b3}:ai)with b:=e2}:ai).a_) (({({({({({({l with n:=e}:ai)with a_:=[]}:ai)with b:=[]}:ai)with a_:=a_}:ai)with b:=b3}:ai)with b:=e2}:ai).b) ⟨dO V,h⟩) (bj J))

end Go.Proofs.YtdohlidddcgfjaaGreat

