/- bS of this claim: P6. -/
import Derived.Test.YtdohlidddcgfjaaGreatFfT
import Derived.Test.YtdohlidddcgfjaaGreatFfP5
set_option linter.all false
namespace Go.Proofs.YtdohlidddcgfjaaGreat
open Go
set_option maxRecDepth 100000

def VT l o{R}(h:mK l o=some R):dR aY 208 [tD iE o,dk (rPt bu) l] (gR R):=by
 refine fc Tryz.func208 J<|bc<|fx J<|bz<|br<|aU ?_
 refine lx (ts:=[_,_,_,_,_,_,_,_,_,_,_,_,_,_]) mixed J J
  ⟨LZ 2 J J (xm IW Bt J J),
  ⟨vo 0 b9 J J,
  ⟨gE 5 1 J J (jd (D J) hI),
  ⟨gE 6 2 J J (mn J),
  ⟨FX 2 7 3 J J J (oX J J J J (fun K=>xm IW Bt J J)),
  ⟨u3 8 4 7 3 J J J (oX J J J J (fun K=>kK b9 J J (bM J K))),
  ⟨FX 1 7 3 J J J (oX J J J J (fun K=>(Eb Eh J J).imp (fun _ _ h=>UH.1 h))),
  ⟨u3 10 6 7 3 J J J (oX J J J J (fun K=>Vb (bM J K))),
  ⟨u3 11 7 7 3 J J J (oX J J J J (fun K=>gK jO J pt J (bM J K))),
  ⟨u3 12 8 7 3 J J J (oX J J J J (fun K=>kK dc J J (bM J K))),
  ⟨u3 13 9 7 3 J J J (oX J J J J (fun K=>mO fD (bM J K))),
  ⟨Rz 9 5 14 10 7 3 J J J J (oX J J J J (fun K=>iN (bM J K) (bM J K))),
  ⟨kV 7 3 15 11 J J J (Z8 J J),
  ⟨gE 16 12 J J (LS J),
  aM⟩⟩⟩⟩⟩⟩⟩⟩⟩⟩⟩⟩⟩⟩ ?_
 exact aG<|rN<|so h▸aN J J

def Zd(b:Nat)(ix:OI) l{R}(h:jW l=some R):bk aY 173 [Z (M b 0)] (eN b l ix) (fun _:OI=>gR R.1) (fun j=>eN b R.2 j):=by
 refine bk.of Tryz.func173 J J J fun w0 S0=>?_;refine(show CG _ _ _ [Q (rH bu [(1,av (ix.h 0).1 (ix.h 0).2 l.kinds.length),(2,av (ix.h 1).1 (ix.h 1).2 l.open_.length)]) 168 b l,tip pJ 69 (ix.h 0).1 (ix.h 0).2 l.kinds,dr bP 3 (ix.h 1).1 (ix.h 1).2 l.open_] _ from ?_);refine bc<|s (Ve (fun _ _ h=>by rw [show _=_ from h];rfl) (D J))<|bz<|br<|aU ?_
 refine sx 7 (ts:=[Z (M b 0),Z (M b 0),Z (M b 0),Z (M b 15),pF l.a_,Z (M b 0),Z (M b 17)]) mixed J J J
  ⟨LZ 1 J J (vA Eh (D J)),
  ⟨LZ 1 J J (vA Eh (D J)),
  ⟨gE 5 1 J J (aC (D J)),
  ⟨gE 6 2 J J (oZ 15 jO J J J),
  ⟨gE 7 3 J J (aE (r:=rH bu [(1,av (ix.h 0).1 (ix.h 0).2 l.kinds.length),(2,av (ix.h 1).1 (ix.h 1).2 l.open_.length)]) (x:=l) dc J J (eI pt) (.head _) (D J)),
  ⟨gE 4 0 J J (aC (D J)),
  ⟨gE 9 5 J J (oZ 17 gk J J J),
  aM⟩⟩⟩⟩⟩⟩⟩ ?_
 refine fb (dq dc J (ot (hs' :=[(1,av (ix.h 0).1 (ix.h 0).2 l.kinds.length),(2,av (ix.h 1).1 (ix.h 1).2 l.open_.length)]) tf ⟨.inr ⟨J,J⟩,.inr ⟨J,J⟩,aM⟩ J) J (D J) (D J)) fun i=>?_;refine(show RG _ _ _ _ [_,_,_] _ from ?_);refine br<|bc<|s (vA Eh (D J))<|s (aC (D J))<|aW 3 ie J<|aW 13 sZ J<|s (aE (r:=rH bu [(1,av (ix.h 0).1 (ix.h 0).2 l.kinds.length),(2,av (ix.h 1).1 (ix.h 1).2 l.open_.length)]) (x:=({l with result:=l.a_}:al)) Ih J J (eI (er fT m4)) (.head _) (D J))<|s ((show cu _ _ _ _ (RW bu ({l with result:=l.a_}:al) b ((lK aY Rv p9 (fun(x:ku)=>(mK ({l with result:=l.a_}:al)) x))))from IF (cts:=[dk (rPt bu) ({l with result:=l.a_}:al)]) (caps:=[.tmp 1]) abX (fun S S1 a hf hle hk=>Ef (NC (D J) hf hle hk) trivial) (fun x y h=>VT _ _ h)))<|bL h fun r q_r h=>s (SJ (r:=rH bu [(1,av (ix.h 0).1 (ix.h 0).2 l.kinds.length),(2,av (ix.h 1).1 (ix.h 1).2 l.open_.length)]) (rd:=bu) (T:=168) (b:=b) (x:=({l with result:=l.a_}:al)) (y:=({l with result:=l.a_}:al)) (.head _) abY (VU _ _ q_r) (fun _ _ _ _ h=>h.1) (fun S S1 a hf hle hk=>Ef (aaf (D J) hf hle) (Ef (UB (D J) hf hle hk) trivial)) UI)<|a8 J<|aB J<|s (gO (D J))<|aR J<|ai J (fun K=>vA Eh (D J))<|ai J (fun K=>aC (bM J K))<|ai J (fun K=>bV (n:=3) ie J (bM J K) J)<|ai J (fun K=>bV (n:=13) sZ J (bM J K) J) ?_;refine ai J (fun K=>aE (r:=rH bu [(1,av (ix.h 0).1 (ix.h 0).2 l.kinds.length),(2,av (ix.h 1).1 (ix.h 1).2 l.open_.length)]) (x:=({l with result:=l.a_}:al)) Ih J J (eI (er fT m4)) (.head _) (bM J K))<|ai J (mf y8 J)<|ai J (fun K=>hX (bM J K) hI)<|de J<|aR J<|ai J (fun K=>vA Eh (D J))<|ai J (fun K=>aC (bM J K))<|ai J (fun K=>bV (n:=3) ie J (bM J K) J)<|ai J (fun K=>bV (n:=14) wz J (bM J K) J)<|ai J (fun K=>aE (r:=rH bu [(1,av (ix.h 0).1 (ix.h 0).2 l.kinds.length),(2,av (ix.h 1).1 (ix.h 1).2 l.open_.length)]) (x:=({l with result:=l.a_}:al)) b9 J J (eI (er fT qA)) (.head _) (bM J K))<|ai J (fun K=>iN (bM J K) hI)<|de J<|aR J<|ai J (fun K=>vA Eh (D J))<|ai J (fun K=>aC (bM J K))<|ai J (fun K=>bV (n:=3) ie J (bM J K) J)<|ai J (fun K=>bV (n:=14) wz J (bM J K) J)<|ai J (fun K=>aE (r:=rH bu [(1,av (ix.h 0).1 (ix.h 0).2 l.kinds.length),(2,av (ix.h 1).1 (ix.h 1).2 l.open_.length)]) (x:=({l with result:=l.a_}:al)) b9 J J (eI (er fT qA)) (.head _) (bM J K))<|ai J (fun K=>hX (bM J K) hI)<|de J<|bq J ?_;exact aH<|aH<|aH<|so h▸bF J ix J J (fun _ _ h=>h)

def V9{R}(h:lE=some R):dR aY 126 [] (tMp (fun y:(al->Unit->Option (Bool×al))=>qb (fun bb=>eZ aY (fun(x:Unit)=>[Z (M bb 0)]) (eN bb) p9 y)) (WV .i64) R):=by
 refine fc Tryz.func126 J<|bc<|s (cg (show aJ _ _ (.const (.map none)) (Z (.map none))from fun _ _ _=>J))<|br<|bc<|FB (OC (fun y:(al->Unit->Option (Bool×al))=>qb (fun bb=>eZ aY (fun(x:Unit)=>[Z (M bb 0)]) (eN bb) p9 y))) (WV .i64) J fun b=>ki (γ:=(fun y:(al->Unit->Option (Bool×al))=>qb (fun bb=>eZ aY (fun(x:Unit)=>[Z (M bb 0)]) (eN bb) p9 y))) (y:=(fun(mc:al) (mx:Unit)=>jX mc)) Dh (jh lz) (D J) (uq hI) (show aJ _ _ _ (qb (fun bb=>eZ aY (fun(x:Unit)=>[Z (M bb 0)]) (eN bb) p9 (fun(mc:al) (mx:Unit)=>jX mc)))from(E4 fun bb=>oE acr (fun c x R h i=>Zo _ _ _ h))) fun os=>ki (γ:=(fun y:(al->Unit->Option (Bool×al))=>qb (fun bb=>eZ aY (fun(x:Unit)=>[Z (M bb 0)]) (eN bb) p9 y))) (y:=(fun(mc:al) (mx:Unit)=>ic mc)) Dh (jh lz) (D J) (uq hI) (show aJ _ _ _ (qb (fun bb=>eZ aY (fun(x:Unit)=>[Z (M bb 0)]) (eN bb) p9 (fun(mc:al) (mx:Unit)=>ic mc)))from(E4 fun bb=>oE acq (fun c x R h i=>Zn _ _ _ h))) fun os1=>ki (γ:=(fun y:(al->Unit->Option (Bool×al))=>qb (fun bb=>eZ aY (fun(x:Unit)=>[Z (M bb 0)]) (eN bb) p9 y))) (y:=(fun(mc:al) (mx:Unit)=>hU mc)) Dh (jh lz) (D J) (uq hI) (show aJ _ _ _ (qb (fun bb=>eZ aY (fun(x:Unit)=>[Z (M bb 0)]) (eN bb) p9 (fun(mc:al) (mx:Unit)=>hU mc)))from(E4 fun bb=>oE acp (fun c x R h i=>Zm _ _ _ h))) fun os2=>ki (γ:=(fun y:(al->Unit->Option (Bool×al))=>qb (fun bb=>eZ aY (fun(x:Unit)=>[Z (M bb 0)]) (eN bb) p9 y))) (y:=(fun(mc:al) (mx:Unit)=>fP mc)) Dh (jh lz) (D J) (uq hI) (show aJ _ _ _ (qb (fun bb=>eZ aY (fun(x:Unit)=>[Z (M bb 0)]) (eN bb) p9 (fun(mc:al) (mx:Unit)=>fP mc)))from(E4 fun bb=>oE aco (fun c x R h i=>Zl _ _ _ h))) fun os3=>ki (γ:=(fun y:(al->Unit->Option (Bool×al))=>qb (fun bb=>eZ aY (fun(x:Unit)=>[Z (M bb 0)]) (eN bb) p9 y))) (y:=(fun(mc:al) (mx:Unit)=>eC mc)) Dh (jh lz) (D J) (uq hI) (show aJ _ _ _ (qb (fun bb=>eZ aY (fun(x:Unit)=>[Z (M bb 0)]) (eN bb) p9 (fun(mc:al) (mx:Unit)=>eC mc)))from(E4 fun bb=>oE Xs (fun c x R h i=>Zk _ _ _ h))) fun os4=>ki (γ:=(fun y:(al->Unit->Option (Bool×al))=>qb (fun bb=>eZ aY (fun(x:Unit)=>[Z (M bb 0)]) (eN bb) p9 y))) (y:=(fun(mc:al) (mx:Unit)=>d8 mc)) Dh (jh lz) (D J) (uq hI) (show aJ _ _ _ (qb (fun bb=>eZ aY (fun(x:Unit)=>[Z (M bb 0)]) (eN bb) p9 (fun(mc:al) (mx:Unit)=>d8 mc)))from(E4 fun bb=>oE acn (fun c x R h i=>Zi _ _ _ h))) fun os5=>ki (γ:=(fun y:(al->Unit->Option (Bool×al))=>qb (fun bb=>eZ aY (fun(x:Unit)=>[Z (M bb 0)]) (eN bb) p9 y))) (y:=(fun(mc:al) (mx:Unit)=>dF mc)) Dh (jh lz) (D J) (uq hI) (show aJ _ _ _ (qb (fun bb=>eZ aY (fun(x:Unit)=>[Z (M bb 0)]) (eN bb) p9 (fun(mc:al) (mx:Unit)=>dF mc)))from(E4 fun bb=>oE acm (fun c x R h i=>Zh _ _ _ h))) fun os6=>ki (γ:=(fun y:(al->Unit->Option (Bool×al))=>qb (fun bb=>eZ aY (fun(x:Unit)=>[Z (M bb 0)]) (eN bb) p9 y))) (y:=(fun(mc:al) (mx:Unit)=>iL mc)) Dh (jh lz) (D J) (uq hI) (show aJ _ _ _ (qb (fun bb=>eZ aY (fun(x:Unit)=>[Z (M bb 0)]) (eN bb) p9 (fun(mc:al) (mx:Unit)=>iL mc)))from(E4 fun bb=>oE ack (fun c x R h i=>Zg _ _ _ h))) fun os7=>ki (γ:=(fun y:(al->Unit->Option (Bool×al))=>qb (fun bb=>eZ aY (fun(x:Unit)=>[Z (M bb 0)]) (eN bb) p9 y))) (y:=(fun(mc:al) (mx:Unit)=>lD mc)) Dh (jh lz) (D J) (uq hI) (show aJ _ _ _ (qb (fun bb=>eZ aY (fun(x:Unit)=>[Z (M bb 0)]) (eN bb) p9 (fun(mc:al) (mx:Unit)=>lD mc)))from(E4 fun bb=>oE acj (fun c x R h i=>Zf _ _ _ h))) fun os8=>ki (γ:=(fun y:(al->Unit->Option (Bool×al))=>qb (fun bb=>eZ aY (fun(x:Unit)=>[Z (M bb 0)]) (eN bb) p9 y))) (y:=(fun(mc:al) (mx:Unit)=>jb mc)) Dh (jh lz) (D J) (uq hI) (show aJ _ _ _ (qb (fun bb=>eZ aY (fun(x:Unit)=>[Z (M bb 0)]) (eN bb) p9 (fun(mc:al) (mx:Unit)=>jb mc)))from(E4 fun bb=>oE aci (fun c x R h i=>Ze _ _ _ h))) fun os9=>ki (γ:=(fun y:(al->Unit->Option (Bool×al))=>qb (fun bb=>eZ aY (fun(x:Unit)=>[Z (M bb 0)]) (eN bb) p9 y))) (y:=(fun(mc:al) (mx:Unit)=>jW mc)) Dh (jh lz) (D J) (uq hI) (show aJ _ _ _ (qb (fun bb=>eZ aY (fun(x:Unit)=>[Z (M bb 0)]) (eN bb) p9 (fun(mc:al) (mx:Unit)=>jW mc)))from(E4 fun bb=>oE ach (fun c x R h i=>Zd _ _ _ h))) fun os10=>aR J<|a8 J ?_;exact rN<|LQ 0 J<|so h▸aN J J

def V2 op{R}(h:wi op=some R):dR aY 174 [bB op] (bB R):=by
 refine fc Tryz.func174 J<|bc<|cO<|br<|bm<|aR J<|br<|aA ?_;refine i0 (tV:=fun x=>rW op x=some R) (Of:=fun x=>[]) (Gf:=fun x=>[(3,bB op),(4,gR x)]) (fun x h=>?_) (fun hg=>?_)
 ·skip
  refine jE h J (fun h=>?_) (fun h=>?_)
  ·exact bc<|gZ<|eu<|so h▸aN J J
  ·refine i0 (tV:=fun x1=>rU op x1=some R) (Of:=fun x1=>[]) (Gf:=fun x1=>[(3,bB op),(7,gR x1)]) (fun x1 h=>?_) (fun K1=>?_)
   ·skip
    refine jE h J (fun h=>?_) (fun h=>?_)
    ·exact bc<|gZ<|eu<|so h▸aN J J
    ·refine i0 (tV:=fun x2=>jI x2=some R) (Of:=fun x2=>[]) (Gf:=fun x2=>[(10,gR x2)]) (fun x2 h=>?_) (fun K2=>?_)
     ·skip
      refine jE h J (fun h=>?_) (fun h=>?_)
      ·exact bc<|gZ<|eu<|so h▸aN J J
      ·exact bE<|aF<|aG<|bc<|gZ<|so h▸aN J J
     ·skip
      refine bc<|bU J<|a8 J<|jE h J (fun h=>?_) (fun h=>?_)
      ·refine bE ?_;exact bZ (K2 (op==(3:Int)) h) (bp J)
      ·refine bc<|bU J<|a8 J<|jE h J (fun h=>?_) (fun h=>?_)
       ·refine bE ?_;exact bZ (K2 (op==(4:Int)) h) (bp J)
       ·refine bc<|bU J<|a8 J<|jE h J (fun h=>?_) (fun h=>?_)
        ·refine bE ?_;exact bZ (K2 (op==(5:Int)) h) (bp J)
        ·refine bc<|bU J<|a8 J<|jE h J (fun h=>?_) (fun h=>?_)
         ·refine bE ?_;exact bZ (K2 (op==(6:Int)) h) (bp J)
         ·refine bc<|bU J<|a8 J<|jE h J (fun h=>?_) (fun h=>?_)
          ·refine bE ?_;exact bZ (K2 (op==(8:Int)) h) (bp J)
          ·refine bc<|bU J<|a8 J<|jE h J (fun h=>?_) (fun h=>?_)
           ·refine bE ?_;exact bZ (K2 (op==(10:Int)) h) (bp J)
           ·refine ax<|bU J<|ia J<|aX ?_;exact bZ (K2 (op==(11:Int)) h) (bp J)
   ·skip
    refine bc<|bU J<|a8 J<|jE h J (fun h=>?_) (fun h=>?_)
    ·refine bE ?_;exact bZ (K1 (op==(2:Int)) h) (bp J)
    ·refine ax<|bU J<|ia J<|aX ?_;exact bZ (K1 (op==(7:Int)) h) (bp J)
 ·skip
  refine bc<|bU J<|a8 J<|jE h J (fun h=>?_) (fun h=>?_)
  ·refine bE ?_;exact bZ (hg (op==(1:Int)) h) (bp J)
  ·refine ax<|bU J<|ia J<|aX ?_;exact bZ (hg (op==(9:Int)) h) (bp J)

def V1 n{R}(h:rt n=some R):dR aY 175 [tD bl n] (gR R):=by
 refine fc Tryz.func175 J<|bc<|fx J<|bz<|br<|aU ?_
 refine lx (ts:=[_,_,_,_,_,_,_,_,_,_,_,_,_,_,_,_,_,_,_,_,_,_,_]) mixed J J
  ⟨LZ 1 J J (xm mb eQ J J),
  ⟨vo 0 b9 J J,
  ⟨gE 7 1 J J (zei J),
  ⟨gE 8 2 J J (mn J),
  ⟨FX 1 9 3 J J J (oX J J J J (fun K=>xm mb eQ J J)),
  ⟨u3 10 4 9 3 J J J (oX J J J J (fun K=>kK b9 J J (bM J K))),
  ⟨u3 11 5 9 3 J J J (oX J J J J (fun K=>eh (bM J K) hI)),
  ⟨kV 9 3 12 6 J J J (Z8 J J),
  ⟨LZ 1 J J (xm mb eQ J J),
  ⟨vo 8 b9 J J,
  ⟨gE 15 9 J J (zei J),
  ⟨gE 16 10 J J (mn J),
  ⟨FX 1 17 11 J J J (oX J J J J (fun K=>xm mb eQ J J)),
  ⟨u3 18 12 17 11 J J J (oX J J J J (fun K=>kK b9 J J (bM J K))),
  ⟨u3 19 13 17 11 J J J (oX J J J J (fun K=>eh (bM J K) hI)),
  ⟨kV 17 11 20 14 J J J (Z8 J J),
  ⟨gE 21 15 J J (mn J),
  ⟨FX 1 22 16 J J J (oX J J J J (fun K=>xm mb eQ J J)),
  ⟨u3 23 17 22 16 J J J (oX J J J J (fun K=>kK b9 J J (bM J K))),
  ⟨u3 24 18 22 16 J J J (oX J J J J (fun K=>eh (bM J K) hI)),
  ⟨kV 22 16 25 19 J J J (Z8 J J),
  ⟨gE 13 7 J J (LS J),
  ⟨gE 26 20 J J (LS J),
  aM⟩⟩⟩⟩⟩⟩⟩⟩⟩⟩⟩⟩⟩⟩⟩⟩⟩⟩⟩⟩⟩⟩⟩ ?_
 refine aG<|aB J<|aR J<|bD J (ci wy oO J J)<|bD J (ce b9 J J)<|bD J (mD J)<|bD J (ut J)<|jr J J J J (fun K=>xm q5 jA J J)<|jr J J J J (fun K=>kK dc J J (bM J K))<|jr J J J J (fun K=>mO fD (bM J K))<|jr J J J J (fun K=>eh (bM J K) hI)<|bD J (fun K=>qd (bM J K) (fun H=>(bM J (Au K H))))<|j5 J<|a8 J<|aB J<|aR J<|ai J (ci mb eQ J J)<|ai J (ce b9 J J) ?_;refine ai J (mD J)<|ai J (ut J)<|dL J J J J (fun K=>xm Fh wv J J)<|dL J J J J (fun K=>kK Aw J J (bM J K))<|dL J J J J (fun K=>gO (bM J K))<|ai J (fun K=>nC (bM J K) (fun H=>(bM J (Au K (zb H)))))<|de J<|aR J<|ai J (ci mb eQ J J)<|ai J (ce b9 J J)<|ai J (mD J)<|ai J (ut J)<|dL J J J J (fun K=>xm mb eQ J J)<|dL J J J J (fun K=>kK b9 J J (bM J K))<|dL J J J J (fun K=>eh (bM J K) hI)<|ai J (fun K=>nC (bM J K) (fun H=>(bM J (Au K (zb H)))))<|ai J (ut J)<|dL J J J J (fun K=>xm ve oN J J)<|dL J J J J (fun K=>gK rF J kY J (bM J K))<|dL J J J J (fun K=>kK B2 J J (bM J K))<|dL J J J J (fun K=>mO sK (bM J K))<|dL J J J J (fun K=>eh (bM J K) hI)<|ai J (fun K=>nC (bM J K) (fun H=>(bM J (Au K (zb H)))))<|de J ?_;refine a8 J<|aB J<|aR J<|ai J (dy J)<|ai J (ut J)<|dL J J J J (fun K=>xm qj iU J J)<|dL J J J J (fun K=>kK dc J J (bM J K))<|dL J J J J (fun K=>mO fD (bM J K))<|dL J J J J (fun K=>xm nT gx J J)<|dL J J J J (fun K=>kK xh J J (bM J K))<|dL J J J J (fun K=>mO qG (bM J K))<|dL J J J J (fun K=>fY (bM J K) (bM J K))<|dL J J J J (fun K=>eh (bM J K) hI)<|ai J (fun K=>nC (bM J K) (fun H=>(bM J (Au K (zb H)))))<|de J<|aR J<|ai J (ci mb eQ J J)<|ai J (ce b9 J J)<|ai J (mD J)<|ai J (ut J) ?_;refine dL J J J J (fun K=>xm wx oM J J)<|dL J J J J (fun K=>kK Ii J J (bM J K))<|dL J J J J (fun K=>mO xr (bM J K))<|dL J J J J (fun K=>eh (bM J K) hI)<|ai J (fun K=>nC (bM J K) (fun H=>(bM J (Au K (zb H)))))<|de J<|a8 J<|aB J<|aR J<|ai J (ci mb eQ J J)<|ai J (ce b9 J J)<|ai J (mD J)<|ai J (ut J)<|dL J J J J (fun K=>xm sZ m4 J J)<|dL J J J J (fun K=>kK Ih J J (bM J K))<|dL J J J J (fun K=>mO y8 (bM J K))<|dL J J J J (fun K=>eh (bM J K) hI)<|dL J J J J (fun K=>bR (bM J K))<|jr J J J J (fun K=>xm wz qA J J)<|jr J J J J (fun K=>kK b9 J J (bM J K)) ?_;exact jr J J J J (fun K=>eh (bM J K) hI)<|dL J J J J (fun K=>qd (bM J K) (fun H=>(bM J (Au K H))))<|ai J (fun K=>nC (bM J K) (fun H=>(bM J (Au K (zb H)))))<|de J<|bq J<|so h▸aN J J

def VS ae v{R}(h:oq ae v=some R):dR aY 209 [pF ae,bB v] (bB R):=by
 refine fc Tryz.func209 J<|bc<|cO<|br<|bm<|aR J<|cr fD J<|s (bR hI)<|br<|aA<|bt (k:=6) J fun hN=>bN ?_;refine aV (fC (tV:=fun ls i=>(ae.drop i=ls)/\iu v ls i=some R) (Of:=fun _ i=>[]) (Gf:=fun _ i=>[(0,pF ae),(1,bB v),(7,nL ae),(8,bB (i:Int))]) (fun i h=>?_) (fun e tl ih i h=>?_) ae 0 ⟨J,h⟩) (bp J)
 ·obtain⟨V,h⟩:=h
  exact fv V J<|aG<|bc<|gZ<|so h▸aN J J
 ·obtain⟨V,h⟩:=h
  refine ft V J<|aU<|aA<|aB J<|a8 J<|aB J<|aR J<|aR J<|GE fD b9 J (eK V) ?_;refine fL b9 J<|s (eh (D J) (D J))<|c0 h J (fun h=>?_) (fun h=>?_)
  ·exact aB J<|bq J<|eu<|au<|eu<|so h▸aN J J
  ·refine bE<|d6 V hN J ?_;exact bj (aV (ih (i+1) ⟨dZ V,h⟩) (bp J))

def V0 ae v{R}(h:gn ae v=some R):dR aY 176 [pF ae,bB v] (gR R):=by
 exact fc Tryz.func176 J<|bc<|bz<|br<|aB J<|aR J<|iq h abW (VS _ _) (ez J) fun r h=>s (iN (D J) hI)<|bq J<|so h▸aN J J

def Zs(b:Nat)(ix:OI) l i ask{R}(h:dm l i ask=some R):bk aY 127 [Z (M b 0),bB i,qb (fun bb=>eZ aY (fun(x:Unit)=>[Z (M bb 0)]) (eN bb) p9 ask)] (eN b l ix) (fun _:OI=>gR R.1) (fun j=>eN b R.2 j):=by
 refine bk.of Tryz.func127 J J J fun w0 S0=>?_;refine(show CG _ _ _ [Q (rH bu [(1,av (ix.h 0).1 (ix.h 0).2 l.kinds.length),(2,av (ix.h 1).1 (ix.h 1).2 l.open_.length)]) 168 b l,tip pJ 69 (ix.h 0).1 (ix.h 0).2 l.kinds,dr bP 3 (ix.h 1).1 (ix.h 1).2 l.open_] _ from ?_);refine bc<|bz<|br<|aB J<|s (aC (D J))<|aW 0 IV J<|s (aE (r:=rH bu [(1,av (ix.h 0).1 (ix.h 0).2 l.kinds.length),(2,av (ix.h 1).1 (ix.h 1).2 l.open_.length)]) (x:=l) FY J J (eI Cq) (.head _) (D J))<|aR J<|bL h fun e q_e h=>fV uj gB J q_e<|bv gB k9 J fun b1=>bw gB aw J<|be 7 J<|br<|bc<|bG mb eQ b9 J ?_;refine iq h acg (V2 _) (ez J) fun r h=>a8 J<|bm<|aR J<|s (jd (D J) hI)<|aR J<|bD J (dy J)<|bD J (dy J)<|bD J (fun K=>aC (bM J K))<|bD J (fun K=>bV (n:=2) s0 J (bM J K) J)<|bD J (fun K=>cQ dc J (.head _) (bM J K))<|bD J (fun K=>jg fD (.tail _ (.tail _ (.head _))) (bM J K))<|bD J (fun K=>gm (bM J K) (bM J K))<|j5 J<|aR J<|bL h fun t q_t h=>bD J (fun K=>Eb gB J J) ?_
 obtain⟨r1,h1t,h0t⟩:=og q_t
 have q_r1g:=fun H=>(h1t H).1
 refine bD J (fun K=>dz acf (V1 _ (q_r1g K)) ⟨(bM J K),aM⟩)<|bD J (AO J)<|s (ru (D J) (fun H=>(bM J (zb H))) (fun H=>(h1t H).2) h0t)<|br<|q9 (D J) (fun hc=>?_) (fun hc=>?_)
 ·have h:=ct h hc;exact bc<|bz<|bQ<|au<|aH<|aH<|aH<|so h▸bF J ix J J (fun _ _ h=>h)
 ·have h:=cf h hc;refine jf<|bc<|s (th (r:=bP) (ys:=[Di,Di]) (xs:=[.const (.int .i64 (-1)),.const (.int .i64 (-1))]) D5 b9 J zh J J ⟨hI,hI,aM⟩)<|bv (r:=(nQ bP 2)) (x:=(List.replicate 2 (0:Int))) zh (fun _=>BK (r:=bP) 2 (fun _=>J) _) J fun b2=>bw zh aw J<|br<|aU<|bL h fun y q_y h=>?_
  refine sx 13 (ts:=[Z (.slice (some ⟨b2,0,none⟩) 2 2),Z (M b 0),Z (M b 0),Z (M b 2),sa (ix.h 1).1 (ix.h 1).2 l.open_,Z (M b 0),Z (M b 0),Z (M b 2),sa (ix.h 1).1 (ix.h 1).2 l.open_,nL l.open_,bB r,bB (IntKind.i64.wrap ((l.open_.length:Int)-r)),Z (nP 1 (ix.h 1).1 (ix.h 1).2 (IntKind.i64.wrap ((l.open_.length:Int)-r)).toNat y.length)]) mixed J J J
   ⟨LZ 9 J J (KF D5 (UF b9) (D J)),
   ⟨iH J J,
   ⟨gE 42 1 J J (aC (D J)),
   ⟨gE 43 2 J J (oZ 2 s0 J J J),
   ⟨gE 44 3 J J (cQ dc J (.tail _ (.head _)) (D J)),
   ⟨iH J J,
   ⟨gE 46 5 J J (aC (D J)),
   ⟨gE 47 6 J J (oZ 2 s0 J J J),
   ⟨gE 48 7 J J (cQ dc J (.tail _ (.head _)) (D J)),
   ⟨gE 49 8 J J (jg fD (.tail _ (.tail _ (.tail _ (.head _)))) (D J)),
   ⟨iH J J,
   ⟨kV 50 9 51 10 J J J (iF (D J) (D J)),
   ⟨kV 45 4 52 11 J J J (qt fD b9 J (.tail _ (.tail _ (.tail _ (.head _)))) (D J) (D J) q_y),
   aM⟩⟩⟩⟩⟩⟩⟩⟩⟩⟩⟩⟩⟩ ?_
  refine q8 (.tail _ (.tail _ (.tail _ (.head _)))) q_y fun hv=>aL (I9 (.tail _ (.tail _ (.tail _ (.head _)))) q_y fD (Ig b9) (D J) (D J)) J fun i1=>?_;refine(show RG _ _ _ _ [_,_,_,_] ((54,bB ((min y.length 2:Nat):Int))::_)from ?_);refine br<|bm<|s (aE (x:=(pD ([Di,Di]) y)) zh J J bo (.head _) (D J))<|bG sD ww b9 J<|bG t8 Ae b9 J<|s (th (r:=bP) (ys:=[e.A,e.B]) (xs:=[.tmp 57,.tmp 59]) D5 b9 J zh J J ⟨(D J),(D J),aM⟩)<|s (yQ Xf (D J) (D J))<|br<|q9 (D J) (fun hc=>?_) (fun hc=>?_)
  ·have h:=ct h hc;exact bc<|bz<|bQ<|au<|aZ<|aH<|aH<|aH<|so h▸bF J ix J J (fun _ _ h=>h)
  ·have h:=cf h hc;refine jf<|aB J<|aR J<|aR J<|fL gB J<|s (aC (D J))<|aW 3 ie J<|fb (EffOK.fr1 (dq gB J (ot (hs' :=[(1,av (ix.h 0).1 (ix.h 0).2 l.kinds.length),(2,av (ix.h 1).1 (ix.h 1).2 l.open_.length)]) PY ⟨.inr ⟨J,J⟩,.inr ⟨J,J⟩,aM⟩ J) J (D J) (D J))) fun i2=>?_;refine(show RG _ _ _ _ [_,_,_,_] _ from ?_);refine s (aC (D J))<|aW 15 jO J<|fb (dq dc J (ot (hs' :=[(1,av (ix.h 0).1 (ix.h 0).2 l.kinds.length),(2,av (ix.h 1).1 (ix.h 1).2 l.open_.length)]) GS ⟨.inr ⟨J,J⟩,.inr ⟨J,J⟩,aM⟩ J) J (D J) Vq) fun i3=>?_;refine(show RG _ _ _ _ [_,_,_,_] _ from ?_);refine s (aC (D J))<|aW 16 BA J<|fb (dq dc J (ot (hs' :=[(1,av (ix.h 0).1 (ix.h 0).2 l.kinds.length),(2,av (ix.h 1).1 (ix.h 1).2 l.open_.length)]) GR ⟨.inr ⟨J,J⟩,.inr ⟨J,J⟩,aM⟩ J) J (D J) Vq) fun i4=>?_;refine(show RG _ _ _ _ [_,_,_,_] _ from ?_);refine br<|aU<|aU<|bL h fun y1 q_y1 h=>?_
   refine lx (ts:=[_,_,_,_,_,_,_,_,_,_,_,_,_,_]) mixed J J
    ⟨iH J J,
    ⟨gE 72 0 J J (aC (D J)),
    ⟨gE 73 1 J J (oZ 2 s0 J J J),
    ⟨gE 74 2 J J (cQ dc J (.head _) (D J)),
    ⟨iH J J,
    ⟨gE 76 4 J J (aC (D J)),
    ⟨gE 77 5 J J (oZ 2 s0 J J J),
    ⟨gE 78 6 J J (cQ dc J (.head _) (D J)),
    ⟨gE 79 7 J J (jg fD (.tail _ (.tail _ (.tail _ (.head _)))) (D J)),
    ⟨iH J J,
    ⟨kV 80 8 81 9 J J J (iF (D J) (D J)),
    ⟨kV 75 3 82 10 J J J (qt fD b9 J (.tail _ (.tail _ (.tail _ (.head _)))) (D J) (D J) q_y1),
    ⟨gE 83 11 J J (Oy fD (.tail _ (.tail _ (.tail _ (.head _)))) q_y1 (D J)),
    ⟨zd0 J (bR hI),
    aM⟩⟩⟩⟩⟩⟩⟩⟩⟩⟩⟩⟩⟩⟩ ?_
   refine aG<|aA<|Jx (.tail _ (.tail _ (.tail _ (.head _)))) q_y1 fun hv1=>?_
   have hN:=hv1.2
   refine bN<|gN<|ta ?_;refine aV (FI (tV:=fun ls i5 a_ b3=>(y1.drop i5=ls)/\bd l i ask e r ls i5 a_ b3=some R) (Of:=fun _ i5 a_ b3=>[Q (rH bu [(1,av (ix.h 0).1 (ix.h 0).2 l.kinds.length),(2,av (ix.h 1).1 (ix.h 1).2 l.open_.length)]) 168 b ({({({({({l with n:=e}:al)with a_:=[]}:al)with b:=[]}:al)with a_:=a_}:al)with b:=b3}:al),tip pJ 69 (ix.h 0).1 (ix.h 0).2 l.kinds,dr bP 3 (ix.h 1).1 (ix.h 1).2 l.open_]) (Gf:=fun _ i5 a_ b3=>[(0,Z (M b 0)),(1,bB i),(2,qb (fun bb=>eZ aY (fun(x:Unit)=>[Z (M bb 0)]) (eN bb) p9 ask)),(7,dk bl e),(8,bB r),(83,Z (nP 1 (ix.h 1).1 (ix.h 1).2 (IntKind.i64.wrap ((l.open_.length:Int)-r)).toNat y1.length)),(84,nL y1),(85,bB (i5:Int))]) (fun i5 a_ b3 h=>?_) (fun e1 tl ih i5 a_ b3 h=>?_) y1 0 (({({({l with n:=e}:al)with a_:=[]}:al)with b:=[]}:al).a_) (({({({l with n:=e}:al)with a_:=[]}:al)with b:=[]}:al).b) ⟨J,h⟩) (bp J)
   ·obtain⟨V,h⟩:=h
    refine fv V J<|aG<|bc<|bG mb eQ b9 J<|bU J<|aR J<|bD J (ci mb eQ J J)<|bD J (ce b9 J J)<|bD J (mD J)<|j5 J<|ia J ?_;refine br<|bm<|aR J<|aR J<|ai J (dy J)<|ai J (dy J)<|ai J (fun K=>aC (bM J K))<|ai J (fun K=>bV (n:=0) IV J (bM J K) J)<|ai J (fun K=>aE (r:=rH bu [(1,av (ix.h 0).1 (ix.h 0).2 l.kinds.length),(2,av (ix.h 1).1 (ix.h 1).2 l.open_.length)]) (x:=({({({({({l with n:=e}:al)with a_:=[]}:al)with b:=[]}:al)with a_:=a_}:al)with b:=b3}:al)) FY J J (eI Cq) (.head _) (bM J K))<|ai J (mf uj J)<|ai J (fun K=>iF (bM J K) hI)<|ai J (fun K=>kJ (bM J K) (bM J K))<|de J<|aR J ?_;refine ud (((e.Op==(8:Int))||(e.Op==(10:Int)))&&(i !=(IntKind.i64.wrap (((({({({({({l with n:=e}:al)with a_:=[]}:al)with b:=[]}:al)with a_:=a_}:al)with b:=b3}:al).nodes).length:Int)-(1:Int))))) (fun K=>?_) (fun K=>?_)
    ·have h:=ct h K;refine dP J J J K J<|dP J J J K J<|dP J J J K J<|dP J J J K J<|s (qu (D J) K Xb)<|aR J<|dP J J J J J<|dP J J J J J<|dP J J J J J<|dP J J J J J<|dP J J J J J<|dP J J J J J<|s (qu (D J) J Xb)<|br<|q9 (D J) (fun hc=>?_) (fun hc=>?_)
     ·exact bc<|bz<|bQ<|au<|aH<|aH<|aH<|so h▸bF J ix J J (fun _ _ h=>h)
     ·cases hc
    ·have h:=cf h K;refine gG J J J K<|aR J<|gG J J J K<|aR J<|gG J J J K<|bL h fun r2 q_r2 h=>aL (EffOK.fr2 (EffOK.fr2 (EffOK.fr2 (BD (args:=(fun(x:Unit)=>[Z (M b 0)])) (Ob:=eN b) (res:=p9) (f:=ask) (x:=({({({({({l with n:=e}:al)with a_:=[]}:al)with b:=[]}:al)with a_:=a_}:al)with b:=b3}:al)) (y:=(():Unit)) (R:=r2) (i:=ix) (xs:=[.tmp 136]) _ J (aaR (t:=(fun bb=>eZ aY (fun(x:Unit)=>[Z (M bb 0)]) (eN bb) p9 ask)) b (D J)) q_r2 ⟨(D J),aM⟩ (fun _=>J))))) J fun i6=>?_;refine(show RG _ _ _ _ [_,_,_] ((137,gR r2.1)::_)from ?_);refine gG J J J K<|s (gO (D J))<|s (pi (D J) K (D J))<|aR J<|bD J (dy J)<|bD J (fun K=>aC (bM J K))<|bD J (fun K=>bV (n:=17) gk J (bM J K) J)<|bD J (fun K=>aE (r:=rH bu [(1,av (i6.h 0).1 (i6.h 0).2 r2.2.kinds.length),(2,av (i6.h 1).1 (i6.h 1).2 r2.2.open_.length)]) (x:=r2.2) dc J J (eI Cp) (.head _) (bM J K))<|bD J (mf fD J)<|bD J (fun K=>gm (bM J K) hI)<|j5 J<|c0 h J (fun h=>?_) (fun h=>?_)
     ·exact bc<|bz<|bQ<|au<|aH<|aH<|aH<|so h▸bF J i6 J J (fun _ _ h=>h)
     ·refine jf<|aU<|bL h fun l1 q_l1 h=>bL h fun y2 q_y2 h=>bL h fun l2 q_l2 h=>?_
      refine iX 30 [tc (Z (M b 0)),tc (Z (M b 0)),tc (Z (M b 0)),tc (Z (M b 0)),tc (Z (M b 1)),tc (tO pJ (i6.h 0).1 (i6.h 0).2 r2.2.kinds),tc (Z (M b 0)),tc (Z (M b 0)),tc (Z (M b 17)),tc (pF r2.2.result),tc (eg (pJ) ([r2.2.result])),([11],fun ae=>tO pJ ((ae.getD 0 jQ).h 0).1 ((ae.getD 0 jQ).h 0).2 l1),tc (Z (M b 0)),tc (Z (M b 0)),tc (Z (M b 2)),tc (sa (i6.h 1).1 (i6.h 1).2 r2.2.open_),tc (Z (M b 0)),tc (Z (M b 0)),tc (Z (M b 2)),tc (sa (i6.h 1).1 (i6.h 1).2 r2.2.open_),tc (nL r2.2.open_),tc (bB r),tc (bB (IntKind.i64.wrap ((r2.2.open_.length:Int)-r))),tc (sa (i6.h 1).1 (i6.h 1).2 y2),tc (bB i),tc (pF ([i])),([26],fun ae=>Z (av ((ae.getD 0 jQ).h 0).1 ((ae.getD 0 jQ).h 0).2 l2.length)),tc (Z (M b 0)),tc (Z (M b 1)),tc (Ek)] [false,false,false,false,false,false,false,false,false,false,false,true,false,false,false,false,false,false,false,false,false,false,false,false,false,false,true,false,false,true] [fun _=>[Q (rH bu [(1,av (i6.h 0).1 (i6.h 0).2 r2.2.kinds.length),(2,av (i6.h 1).1 (i6.h 1).2 r2.2.open_.length)]) 168 b r2.2,tip pJ 69 (i6.h 0).1 (i6.h 0).2 r2.2.kinds,dr bP 3 (i6.h 1).1 (i6.h 1).2 r2.2.open_],fun sg=>[tip pJ 69 ((sg 11).h 0).1 ((sg 11).h 0).2 l1,Q (rH bu [(1,av (i6.h 0).1 (i6.h 0).2 r2.2.kinds.length),(2,av (i6.h 1).1 (i6.h 1).2 r2.2.open_.length)]) 168 b r2.2,dr bP 3 (i6.h 1).1 (i6.h 1).2 r2.2.open_],fun sg=>[dr bP 3 ((sg 26).h 0).1 ((sg 26).h 0).2 l2,tip pJ 69 ((sg 11).h 0).1 ((sg 11).h 0).2 l1,Q (rH bu [(1,av (i6.h 0).1 (i6.h 0).2 r2.2.kinds.length),(2,av (i6.h 1).1 (i6.h 1).2 r2.2.open_.length)]) 168 b r2.2],fun sg=>[Q (rH bu [(1,av ((sg 11).h 0).1 ((sg 11).h 0).2 l1.length),(2,av (i6.h 1).1 (i6.h 1).2 r2.2.open_.length)]) 168 b ({r2.2 with kinds:=l1}:al),dr bP 3 ((sg 26).h 0).1 ((sg 26).h 0).2 l2,tip pJ 69 ((sg 11).h 0).1 ((sg 11).h 0).2 l1]] J mixed J J J J J
       ⟨⟨[⟨0,fun _=>Z (M b 0),none⟩],_,0,2,J,⟨(fun _=>J),aM⟩,J,J,J,J,J,fun _ sg _ _=>ac J (mn J)⟩,
       ⟨⟨[⟨0,fun _=>Z (M b 0),none⟩],_,0,3,J,⟨(fun _=>J),aM⟩,J,J,J,J,J,fun _ sg _ _=>ac J (mn J)⟩,
       ⟨⟨[⟨0,fun _=>Z (M b 0),none⟩],_,0,0,J,⟨(fun _=>J),aM⟩,J,J,J,J,J,fun _ sg _ _=>ac J (mn J)⟩,
       ⟨⟨[⟨150,fun _=>Z (M b 0),some 2⟩],_,0,0,J,⟨(fun _=>J),aM⟩,J,J,J,J,J,fun _ sg _ _=>ac J (aC (D J))⟩,
       ⟨⟨[⟨151,fun _=>Z (M b 0),some 3⟩],_,0,0,J,⟨(fun _=>J),aM⟩,J,J,J,J,J,fun _ sg _ _=>ac J (oZ 1 DI J J J)⟩,
       ⟨⟨[⟨152,fun _=>Z (M b 1),some 4⟩],_,0,0,J,⟨(fun _=>J),aM⟩,J,J,J,J,J,nO (fun sg=>ac J (nm UG J (.head _) (.tail _ (.head _)) (D J)))⟩,
       ⟨⟨[⟨0,fun _=>Z (M b 0),none⟩],_,0,0,J,⟨(fun _=>J),aM⟩,J,J,J,J,J,fun _ sg _ _=>ac J (mn J)⟩,
       ⟨⟨[⟨154,fun _=>Z (M b 0),some 6⟩],_,0,0,J,⟨(fun _=>J),aM⟩,J,J,J,J,J,fun _ sg _ _=>ac J (aC (D J))⟩,
       ⟨⟨[⟨155,fun _=>Z (M b 0),some 7⟩],_,0,0,J,⟨(fun _=>J),aM⟩,J,J,J,J,J,fun _ sg _ _=>ac J (oZ 17 gk J J J)⟩,
       ⟨⟨[⟨156,fun _=>Z (M b 17),some 8⟩],_,0,0,J,⟨(fun _=>J),aM⟩,J,J,J,J,J,nO (fun sg=>ac J (aE (r:=rH bu [(1,av (i6.h 0).1 (i6.h 0).2 r2.2.kinds.length),(2,av (i6.h 1).1 (i6.h 1).2 r2.2.open_.length)]) (x:=r2.2) dc J J (eI Cp) (.head _) (D J)))⟩,
       ⟨⟨[⟨157,fun _=>tD zK r2.2.result,some 9⟩],_,0,0,J,⟨(fun _=>J),aM⟩,J,J,J,J,J,fun _ sg _ _=>ac J (ba (r:=zK) (ys:=[r2.2.result]) (xs:=[.tmp 157]) Dg dc J J J J J ⟨(D J),aM⟩)⟩,
       ⟨⟨[⟨153,fun _=>tO zK (i6.h 0).1 (i6.h 0).2 r2.2.kinds,some 5⟩,⟨158,fun _=>tD (ga zK) ([r2.2.result]),some 10⟩],_,J,⟨(fun _=>J),(fun _=>J),aM⟩,J,J,J,fun sg=>bY J (EffOK.fr1 (Lu dc J J J J Dg J (D J) (D J) q_l1))⟩,
       ⟨⟨[⟨0,fun _=>Z (M b 0),none⟩],_,0,1,J,⟨(fun _=>J),aM⟩,J,J,J,J,J,fun _ sg _ _=>ac J (mn J)⟩,
       ⟨⟨[⟨160,fun _=>Z (M b 0),some 12⟩],_,0,1,J,⟨(fun _=>J),aM⟩,J,J,J,J,J,fun _ sg _ _=>ac J (aC (D J))⟩,
       ⟨⟨[⟨161,fun _=>Z (M b 0),some 13⟩],_,0,1,J,⟨(fun _=>J),aM⟩,J,J,J,J,J,fun _ sg _ _=>ac J (oZ 2 s0 J J J)⟩,
       ⟨⟨[⟨162,fun _=>Z (M b 2),some 14⟩],_,0,1,J,⟨(fun _=>J),aM⟩,J,J,J,J,J,Dj (fun sg=>ac J (cQ dc J (.head _) (D J))) (nO (fun sg=>ac J (cQ dc J (.tail _ (.head _)) (D J))))⟩,
       ⟨⟨[⟨0,fun _=>Z (M b 0),none⟩],_,0,1,J,⟨(fun _=>J),aM⟩,J,J,J,J,J,fun _ sg _ _=>ac J (mn J)⟩,
       ⟨⟨[⟨164,fun _=>Z (M b 0),some 16⟩],_,0,1,J,⟨(fun _=>J),aM⟩,J,J,J,J,J,fun _ sg _ _=>ac J (aC (D J))⟩,
       ⟨⟨[⟨165,fun _=>Z (M b 0),some 17⟩],_,0,1,J,⟨(fun _=>J),aM⟩,J,J,J,J,J,fun _ sg _ _=>ac J (oZ 2 s0 J J J)⟩,
       ⟨⟨[⟨166,fun _=>Z (M b 2),some 18⟩],_,0,1,J,⟨(fun _=>J),aM⟩,J,J,J,J,J,Dj (fun sg=>ac J (cQ dc J (.head _) (D J))) (nO (fun sg=>ac J (cQ dc J (.tail _ (.head _)) (D J))))⟩,
       ⟨⟨[⟨167,fun _=>Z (av (i6.h 1).1 (i6.h 1).2 r2.2.open_.length),some 19⟩],_,0,1,J,⟨(fun _=>J),aM⟩,J,J,J,J,J,Dj (fun sg=>ac J (jg fD (.tail _ (.tail _ (.head _))) (D J))) (nO (fun sg=>ac J (jg fD (.tail _ (.tail _ (.head _))) (D J))))⟩,
       ⟨⟨[⟨8,fun _=>tD bP r,none⟩],_,0,1,J,⟨(fun _=>J),aM⟩,J,J,J,J,J,fun _ sg _ _=>ac J (mn J)⟩,
       ⟨⟨[⟨168,fun _=>tD bP (r2.2.open_.length:Int),some 20⟩,⟨169,fun _=>tD bP r,some 21⟩],_,0,1,J,⟨(fun _=>J),(fun _=>J),aM⟩,J,J,J,J,J,fun _ sg _ _=>ac J (iF (D J) (D J))⟩,
       ⟨⟨[⟨163,fun _=>Z (av (i6.h 1).1 (i6.h 1).2 r2.2.open_.length),some 15⟩,⟨170,fun _=>tD bP (IntKind.i64.wrap ((r2.2.open_.length:Int)-r)),some 22⟩],_,0,1,J,⟨(fun _=>J),(fun _=>J),aM⟩,J,J,J,J,J,Dj (fun sg=>ac J (oD fD b9 J (.tail _ (.tail _ (.head _))) (D J) (D J) q_y2)) (nO (fun sg=>ac J (oD fD b9 J (.tail _ (.tail _ (.head _))) (D J) (D J) q_y2)))⟩,
       ⟨⟨[⟨1,fun _=>tD bP i,none⟩],_,0,1,J,⟨(fun _=>J),aM⟩,J,J,J,J,J,fun _ sg _ _=>ac J (mn J)⟩,
       ⟨⟨[⟨172,fun _=>tD bP i,some 24⟩],_,0,1,J,⟨(fun _=>J),aM⟩,J,J,J,J,J,fun _ sg _ _=>ac J (ba (r:=bP) (ys:=[i]) (xs:=[.tmp 172]) fD b9 J J J J J ⟨(D J),aM⟩)⟩,
       ⟨⟨[⟨171,fun _=>Z (av (i6.h 1).1 (i6.h 1).2 y2.length),some 23⟩,⟨173,fun _=>tD zK ([i]),some 25⟩],_,J,⟨(fun _=>J),(fun _=>J),aM⟩,J,J,J,fun sg=>bY J (EffOK.fr2 (NP q_y2 (uQ b9 J J J J fD J (D J) (D J) q_l2)))⟩,
       ⟨⟨[⟨148,fun _=>Z (M b 0),some 0⟩],_,2,2,J,⟨(fun _=>J),aM⟩,J,J,J,J,J,fun _ sg _ _=>ac J (aC (D J))⟩,
       ⟨⟨[⟨175,fun _=>Z (M b 0),some 27⟩],_,2,2,J,⟨(fun _=>J),aM⟩,J,J,J,J,J,fun _ sg _ _=>ac J (oZ 1 DI J J J)⟩,
       ⟨⟨[⟨176,fun _=>Z (M b 1),some 28⟩,⟨159,fun sg=>tO zK ((sg 11).h 0).1 ((sg 11).h 0).2 l1,some 11⟩],_,J,⟨(fun _=>J),(fun _=>J),aM⟩,J,J,J,fun sg=>bY J (EffOK.fr2 (md (hs' :=[(1,av ((sg 11).h 0).1 ((sg 11).h 0).2 l1.length),(2,av (i6.h 1).1 (i6.h 1).2 r2.2.open_.length)]) (u:=av ((sg 11).h 0).1 ((sg 11).h 0).2 l1.length) UG J J Qa J ⟨.inl ⟨J,J,J⟩,.inr ⟨J,J⟩,aM⟩ (D J) (rq (D J)) (Dm (D J))))⟩,
       aM⟩⟩⟩⟩⟩⟩⟩⟩⟩⟩⟩⟩⟩⟩⟩⟩⟩⟩⟩⟩⟩⟩⟩⟩⟩⟩⟩⟩⟩⟩ (fun sg=>?_)
      refine(show RG _ _ _ _ [_,_,_] _ from ?_);refine s (aC (D J))<|aW 2 s0 J<|fb (md (hs' :=[(1,av ((sg 11).h 0).1 ((sg 11).h 0).2 l1.length),(2,av ((sg 26).h 0).1 ((sg 26).h 0).2 l2.length)]) (u:=av ((sg 26).h 0).1 ((sg 26).h 0).2 l2.length) dc J J PZ J ⟨.inr ⟨J,J⟩,.inl ⟨J,J,J⟩,aM⟩ (D J) (ac3 (y:=l2) (D J) Kz) (D J)) fun i7=>?_;refine(show RG _ _ _ _ [_,_,_] _ from ?_);exact br<|bc<|bz<|bQ<|ah<|aH<|aH<|so h▸bF J (rf [(((sg 11).h 0).1,((sg 11).h 0).2),(((sg 26).h 0).1,((sg 26).h 0).2)]) J J (fun _ _ h=>h)
   ·obtain⟨V,h⟩:=h
    refine ft V J<|aU<|aA<|aB J<|s (zt fD b9 J (.tail _ (.tail _ (.head _))) q_y1 (D J) (D J) (eK V))<|s (mN (r:=bP) (i:=((IntKind.i64.wrap ((l.open_.length:Int)-r))+(i5:Int))) (foff:=0) b9 J J bo J (.tail _ (.tail _ (.head _))) (zS q_y1 (eK V)).1 (D J))<|ia J<|a8 J<|aB J ?_;refine s (aC (D J))<|aW 1 DI J<|s (nm UG J (.head _) (.tail _ (.head _)) (D J))<|aR J<|bL h fun e2 q_e2 h=>s (wk Dg dc J (rq (D J)) (D J) q_e2)<|fL dc J<|a8 J<|bm<|bG mb eQ b9 J<|nU J<|aR J<|bL h fun t1 q_t1 h=>ai J (dy J) ?_
    obtain⟨r3,h1t1,h0t1⟩:=og q_t1
    have q_r3g:=fun H=>(h1t1 H).1
    refine ai J (fun K=>dz ace (V0 _ _ (q_r3g K)) ⟨(bM J K),hI,aM⟩)<|s (dj (D J) (fun H=>(bM J H)) (fun H=>(h1t1 H).2) h0t1)<|c0 h J (fun h=>?_) (fun h=>?_)
    ·exact bc<|bz<|bQ<|au<|eu<|au<|eu<|aH<|aH<|aH<|so h▸bF J ix J J (fun _ _ h=>h)
    ·refine jf<|aB J<|bU J<|c0 h J (fun h=>?_) (fun h=>?_)
     ·refine ax<|aR J<|aR J<|s (aC (D J))<|aW 15 jO J<|fb (dq dc J (ot (hs' :=[(1,av (ix.h 0).1 (ix.h 0).2 l.kinds.length),(2,av (ix.h 1).1 (ix.h 1).2 l.open_.length)]) GS ⟨.inr ⟨J,J⟩,.inr ⟨J,J⟩,aM⟩ J) J (D J) (D J)) fun i8=>?_;refine(show RG _ _ _ _ [_,_,_] _ from ?_);refine aX<|d6 V hN J ?_;exact bj (aV (ih (i5+1) (({({({({({({l with n:=e}:al)with a_:=[]}:al)with b:=[]}:al)with a_:=a_}:al)with b:=b3}:al)with a_:=e2}:al).a_) (({({({({({({l with n:=e}:al)with a_:=[]}:al)with b:=[]}:al)with a_:=a_}:al)with b:=b3}:al)with a_:=e2}:al).b) ⟨dZ V,h⟩) (bp J))
     ·refine ax<|aR J<|aR J<|s (aC (D J))<|aW 16 BA J<|fb (dq dc J (ot (hs' :=[(1,av (ix.h 0).1 (ix.h 0).2 l.kinds.length),(2,av (ix.h 1).1 (ix.h 1).2 l.open_.length)]) GR ⟨.inr ⟨J,J⟩,.inr ⟨J,J⟩,aM⟩ J) J (D J) (D J)) fun i9=>?_;refine(show RG _ _ _ _ [_,_,_] _ from ?_);refine aX<|d6 V hN J ?_;exact bj (aV (ih (i5+1) (({({({({({({l with n:=e}:al)with a_:=[]}:al)with b:=[]}:al)with a_:=a_}:al)with b:=b3}:al)with b:=e2}:al).a_) (({({({({({({l with n:=e}:al)with a_:=[]}:al)with b:=[]}:al)with a_:=a_}:al)with b:=b3}:al)with b:=e2}:al).b) ⟨dZ V,h⟩) (bp J))

end Go.Proofs.YtdohlidddcgfjaaGreat

