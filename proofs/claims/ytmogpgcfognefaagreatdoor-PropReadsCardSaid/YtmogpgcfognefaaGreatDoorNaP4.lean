/- cG of this claim: P4. -/
import Derived.Test.YtmogpgcfognefaaGreatDoorNaT
import Derived.Test.YtmogpgcfognefaaGreatDoorNaP3
set_option linter.all false
namespace Go.Proofs.YtmogpgcfognefaaGreatDoor
open Go
set_option maxRecDepth 100000

theorem Jk(s:(List iC))(f:(iC→Option Bool)){R:Int}(h:fI s f=some R):bg aP 218 [fE (fV) s,(fH aP GU lZ (fun(x:iC)=>f x))] (ce R):=by
 refine bg.of Tryz.func218 J J J fun w0 S0=>au<|zo J (fi)<|ap<|ae<|au<|aA J<|zo J (jk s8 J)<|zo J (bj hI)<|ap<|av<|aX (k:=6) J fun hN=>bK ?_;refine aM (eh (Z:=fun ls i=>(s.drop i=ls)∧cW f ls i=some R) (Of:=fun _ i=>[]) (Gf:=fun _ i=>[(0,fE (fV) s),(1,(fH aP GU lZ (fun(x:iC)=>f x))),(7,je s),(8,ce (i:Int))]) (fun i h=>?_) (fun e tl ih i h=>?_) s 0 ⟨J,h⟩) (bh J)
 ·obtain⟨hx,h⟩:=h
  refine aq<|au<|zo J (fx J J)<|ap<|ae<|br (ht J) (dp hx)<|bk ?_;refine ac (ac (aG ?_));refine an<|au<|zo rfl (fi)<|ap<|am ?_;cases so h;exact aH J J
 ·obtain⟨hx,h⟩:=h
  refine aq<|au<|zo J (fx J J)<|ap<|ae<|bq (ht J) (dh hx)<|eK<|ae<|av<|au<|aA J<|bv J<|ap<|au<|aA J<|aA J<|aA J<|zo J (ka s8 th J J J (dy hx)) ?_;refine zo J (bC th J J)<|bO h fun r q_r h=>zo J (gF (args:=GU) (res:=yB) (f:=(fun(x:iC)=>f x)) (x:=((e):iC)) (ht J) q_r ⟨(ht J),aY⟩)<|ap<|dN h J (fun h=>?_) (fun h=>?_)
  ·refine au<|aA J<|bv J<|ap<|am ?_;refine aB (aa (aa (aB (aa ?_))));cases so h;exact aH J J
  ·refine bD<|al<|an<|ak<|zo rfl (lb (cL hx hN) rfl)<|aA rfl<|aK ?_;exact aW (aM (ih (i+1) ⟨cK hx,h⟩) (bh J))

theorem JB(s:(List iC))(f:(iC→Option Bool)){R:Bool}(h:dF s f=some R):bg aP 161 [fE (fV) s,(fH aP GU lZ (fun(x:iC)=>f x))] (gU R):=by
 refine bg.of Tryz.func161 J J J fun w0 S0=>au<|zo J (fC)<|ap<|au<|aA J<|aA J<|bO h fun r q_r h=>zo J (aL NX (Jk _ _ q_r) ⟨(ht J),(ht J),aY⟩)<|zo J (ek (ht J) hI)<|bv J<|ap<|am ?_;cases so h;exact aH J J

theorem JA(l:af)(o:iC){R:Bool}(h:li l o=some R):bg aP 162 [tD fV o,bz (O4 aN) l] (gU R):=by
 refine bg.of Tryz.func162 J J J fun w0 S0=>au<|zo J (ms J)<|zo J (fC)<|ap<|ae ?_
 refine eQ (ts:=[_,_,_,_,_,_,_,_,_,_,_,_,_,_]) mixed J J
  ⟨ij 2 J J J (cc EF xP J J),
  ⟨cO 4 0 J J J (bC bL J J),
  ⟨cO 5 1 J J J (fz (ht J) hI),
  ⟨cO 6 2 J J J (cM J),
  ⟨om 2 7 3 J J J J (gJ J J J J (fun hg=>cc EF xP J J)),
  ⟨gm 8 4 7 3 J J J J (gJ J J J J (fun hg=>aO bL J J (aJ J hg))),
  ⟨om 1 7 3 J J J J (gJ J J J J (fun hg=>(bC wU J J).imp (fun _ _ h=>Iz.1 h))),
  ⟨gm 10 6 7 3 J J J J (gJ J J J J (fun hg=>Et (aJ J hg))),
  ⟨gm 11 7 7 3 J J J J (gJ J J J J (fun hg=>cB gw J ll J (aJ J hg))),
  ⟨gm 12 8 7 3 J J J J (gJ J J J J (fun hg=>aO bT J J (aJ J hg))),
  ⟨gm 13 9 7 3 J J J J (gJ J J J J (fun hg=>bS dr (aJ J hg))),
  ⟨rZ 9 5 14 10 7 3 J J J J J (gJ J J J J (fun hg=>ek (aJ J hg) (aJ J hg))),
  ⟨fG 7 3 15 11 J J J J (pr J J),
  ⟨cO 16 12 J J J (yD J),
  aY⟩⟩⟩⟩⟩⟩⟩⟩⟩⟩⟩⟩⟩⟩ ?_
 refine an<|am ?_;cases so h;exact aH J J

theorem Nm(b:Nat)(ix:OI)(l:af){R:Bool×af}(h:jy l=some R):fT aP 93 [tV (aD b 0)] (du b l ix) (fun _:OI=>gU R.1) (fun j=>du b R.2 j):=by
 refine fT.of Tryz.func93 J J J fun w0 S0=>?_;refine(show CG _ _ _ [bx (rH aN [(1,ai (ix.h 0).1 (ix.h 0).2 l.kinds.length),(2,ai (ix.h 1).1 (ix.h 1).2 l.open_.length)]) 124 b l,gX gz 29 (ix.h 0).1 (ix.h 0).2 l.kinds,cu bW 3 (ix.h 1).1 (ix.h 1).2 l.open_] _ from ?_);refine au<|zo J (IN (fun _ _ h=>by rw [show _=_ from h];rfl) (ht J))<|zo J (fC)<|ap<|ae ?_
 refine nJ 7 (ts:=[tV (aD b 0),tV (aD b 0),tV (aD b 0),tV (aD b 15),lx l.a_,tV (aD b 0),tV (aD b 17)]) mixed J J J
  ⟨ij 1 J J J (pB wU (ht J)),
  ⟨ij 1 J J J (pB wU (ht J)),
  ⟨cO 5 1 J J J (aS (ht J)),
  ⟨cO 6 2 J J J (eY 15 gw J J J),
  ⟨cO 7 3 J J J (aT (r:=rH aN [(1,ai (ix.h 0).1 (ix.h 0).2 l.kinds.length),(2,ai (ix.h 1).1 (ix.h 1).2 l.open_.length)]) (x:=l) bT J J (fD ll) (.head _) (ht J)),
  ⟨cO 4 0 J J J (aS (ht J)),
  ⟨cO 9 5 J J J (eY 17 ef J J J),
  aY⟩⟩⟩⟩⟩⟩⟩ ?_
 refine lO (gR bT J (qT (hs' :=[(1,ai (ix.h 0).1 (ix.h 0).2 l.kinds.length),(2,ai (ix.h 1).1 (ix.h 1).2 l.open_.length)]) od ⟨.inr ⟨J,J⟩,.inr ⟨J,J⟩,aY⟩ J) J (ht J) (ht J)) (fun i=>?_);refine(show RG _ _ _ _ [bx (rH aN [(1,ai (ix.h 0).1 (ix.h 0).2 l.kinds.length),(2,ai (ix.h 1).1 (ix.h 1).2 l.open_.length)]) 124 b ({l with result:=l.a_}:af),gX gz 29 (ix.h 0).1 (ix.h 0).2 l.kinds,cu bW 3 (ix.h 1).1 (ix.h 1).2 l.open_] _ from ?_);refine ap<|au<|zo J (pB wU (ht J))<|zo J (aS (ht J))<|zo J (eY 3 fb J J J)<|zo J (eY 13 qg J J J)<|zo J (aT (r:=rH aN [(1,ai (ix.h 0).1 (ix.h 0).2 l.kinds.length),(2,ai (ix.h 1).1 (ix.h 1).2 l.open_.length)]) (x:=({l with result:=l.a_}:af)) Ap J J (fD (eD dX jN)) (.head _) (ht J))<|zo J ((show bU _ _ _ _ (G6 aN ({l with result:=l.a_}:af) b ((fH aP GU lZ (fun(x:iC)=>(li ({l with result:=l.a_}:af)) x))))from AE (cts:=[bz (O4 aN) ({l with result:=l.a_}:af)]) (caps:=[.tmp 1]) Oh (fun S S1 a hf hle hk=>ny (DO (ht J) hf hle hk) trivial) (fun x y h=>JA _ _ h)))<|bO h fun r q_r h=>zo J (xC (r:=rH aN [(1,ai (ix.h 0).1 (ix.h 0).2 l.kinds.length),(2,ai (ix.h 1).1 (ix.h 1).2 l.open_.length)]) (rd:=aN) (T:=124) (b:=b) (x:=({l with result:=l.a_}:af)) (y:=({l with result:=l.a_}:af)) (.head _) Oj (JB _ _ q_r) (fun _ _ _ _ h=>h.1) (fun S S1 a hf hle hk=>ny (Eb (ht J) hf hle) (ny (Iv (ht J) hf hle hk) trivial)) As)<|bv J<|ap<|au<|aA J<|zo J (d9 (ht J))<|aA J<|bE J J (fun hg=>pB wU (ht J))<|bE J J (fun hg=>aS (aJ J hg))<|bE J J (fun hg=>bB (n:=3) fb J (aJ J hg) J)<|bE J J (fun hg=>bB (n:=13) qg J (aJ J hg) J) ?_;refine bE J J (fun hg=>aT (r:=rH aN [(1,ai (ix.h 0).1 (ix.h 0).2 l.kinds.length),(2,ai (ix.h 1).1 (ix.h 1).2 l.open_.length)]) (x:=({l with result:=l.a_}:af)) Ap J J (fD (eD dX jN)) (.head _) (aJ J hg))<|bE J J (fun hg=>bS s8 (aJ J hg))<|bE J J (fun hg=>jh (aJ J hg) hI)<|zo J (kM J J)<|aA J<|bE J J (fun hg=>pB wU (ht J))<|bE J J (fun hg=>aS (aJ J hg))<|bE J J (fun hg=>bB (n:=3) fb J (aJ J hg) J)<|bE J J (fun hg=>bB (n:=14) tX J (aJ J hg) J)<|bE J J (fun hg=>aT (r:=rH aN [(1,ai (ix.h 0).1 (ix.h 0).2 l.kinds.length),(2,ai (ix.h 1).1 (ix.h 1).2 l.open_.length)]) (x:=({l with result:=l.a_}:af)) bL J J (fD (eD dX nG)) (.head _) (aJ J hg))<|bE J J (fun hg=>ek (aJ J hg) hI)<|zo J (kM J J)<|aA J<|bE J J (fun hg=>pB wU (ht J))<|bE J J (fun hg=>aS (aJ J hg))<|bE J J (fun hg=>bB (n:=3) fb J (aJ J hg) J)<|bE J J (fun hg=>bB (n:=14) tX J (aJ J hg) J)<|bE J J (fun hg=>aT (r:=rH aN [(1,ai (ix.h 0).1 (ix.h 0).2 l.kinds.length),(2,ai (ix.h 1).1 (ix.h 1).2 l.open_.length)]) (x:=({l with result:=l.a_}:af)) bL J J (fD (eD dX nG)) (.head _) (aJ J hg))<|bE J J (fun hg=>jh (aJ J hg) hI)<|zo J (kM J J)<|bv J<|ap<|am ?_;refine aI<|aI<|aI ?_;cases so h;exact c0 J ix J J (fun _ _ h=>h)

theorem LX{R:(List (Int×(af→Unit→Option (Bool×af))))}(h:pA=some R):bg aP 46 [] (Ii (fun y:(af→Unit→Option (Bool×af))=>lQ (fun bb=>gV aP (fun(x:Unit)=>[tV (aD bb 0)]) (du bb) lZ y)) Ai R):=by
 refine bg.of Tryz.func46 J J J fun w0 S0=>au<|zo J (ba (show ay _ _ (.const (.map none)) (tV (.map none))from fun _ _ _=>J))<|ap<|au<|yg (Hn (fun y:(af→Unit→Option (Bool×af))=>lQ (fun bb=>gV aP (fun(x:Unit)=>[tV (aD bb 0)]) (du bb) lZ y))) Ai J fun b=>fX (γ:=(fun y:(af→Unit→Option (Bool×af))=>lQ (fun bb=>gV aP (fun(x:Unit)=>[tV (aD bb 0)]) (du bb) lZ y))) (y:=(fun(mc:af) (mx:Unit)=>jz mc)) vZ (fv kL) (ht J) (n6 hI) (show ay _ _ _ (lQ (fun bb=>gV aP (fun(x:Unit)=>[tV (aD bb 0)]) (du bb) lZ (fun(mc:af) (mx:Unit)=>jz mc)))from(xK fun bb=>kU PH (fun c x R h i=>Ny _ _ _ h))) fun os=>fX (γ:=(fun y:(af→Unit→Option (Bool×af))=>lQ (fun bb=>gV aP (fun(x:Unit)=>[tV (aD bb 0)]) (du bb) lZ y))) (y:=(fun(mc:af) (mx:Unit)=>iJ mc)) vZ (fv kL) (ht J) (n6 hI) (show ay _ _ _ (lQ (fun bb=>gV aP (fun(x:Unit)=>[tV (aD bb 0)]) (du bb) lZ (fun(mc:af) (mx:Unit)=>iJ mc)))from(xK fun bb=>kU PG (fun c x R h i=>Nx _ _ _ h))) fun os1=>fX (γ:=(fun y:(af→Unit→Option (Bool×af))=>lQ (fun bb=>gV aP (fun(x:Unit)=>[tV (aD bb 0)]) (du bb) lZ y))) (y:=(fun(mc:af) (mx:Unit)=>jA mc)) vZ (fv kL) (ht J) (n6 hI) (show ay _ _ _ (lQ (fun bb=>gV aP (fun(x:Unit)=>[tV (aD bb 0)]) (du bb) lZ (fun(mc:af) (mx:Unit)=>jA mc)))from(xK fun bb=>kU PF (fun c x R h i=>Nw _ _ _ h))) fun os2=>fX (γ:=(fun y:(af→Unit→Option (Bool×af))=>lQ (fun bb=>gV aP (fun(x:Unit)=>[tV (aD bb 0)]) (du bb) lZ y))) (y:=(fun(mc:af) (mx:Unit)=>ib mc)) vZ (fv kL) (ht J) (n6 hI) (show ay _ _ _ (lQ (fun bb=>gV aP (fun(x:Unit)=>[tV (aD bb 0)]) (du bb) lZ (fun(mc:af) (mx:Unit)=>ib mc)))from(xK fun bb=>kU PE (fun c x R h i=>Nv _ _ _ h))) fun os3=>fX (γ:=(fun y:(af→Unit→Option (Bool×af))=>lQ (fun bb=>gV aP (fun(x:Unit)=>[tV (aD bb 0)]) (du bb) lZ y))) (y:=(fun(mc:af) (mx:Unit)=>fa mc)) vZ (fv kL) (ht J) (n6 hI) (show ay _ _ _ (lQ (fun bb=>gV aP (fun(x:Unit)=>[tV (aD bb 0)]) (du bb) lZ (fun(mc:af) (mx:Unit)=>fa mc)))from(xK fun bb=>kU NH (fun c x R h i=>Nu _ _ _ h))) fun os4=>fX (γ:=(fun y:(af→Unit→Option (Bool×af))=>lQ (fun bb=>gV aP (fun(x:Unit)=>[tV (aD bb 0)]) (du bb) lZ y))) (y:=(fun(mc:af) (mx:Unit)=>gM mc)) vZ (fv kL) (ht J) (n6 hI) (show ay _ _ _ (lQ (fun bb=>gV aP (fun(x:Unit)=>[tV (aD bb 0)]) (du bb) lZ (fun(mc:af) (mx:Unit)=>gM mc)))from(xK fun bb=>kU PD (fun c x R h i=>Ns _ _ _ h))) fun os5=>fX (γ:=(fun y:(af→Unit→Option (Bool×af))=>lQ (fun bb=>gV aP (fun(x:Unit)=>[tV (aD bb 0)]) (du bb) lZ y))) (y:=(fun(mc:af) (mx:Unit)=>iK mc)) vZ (fv kL) (ht J) (n6 hI) (show ay _ _ _ (lQ (fun bb=>gV aP (fun(x:Unit)=>[tV (aD bb 0)]) (du bb) lZ (fun(mc:af) (mx:Unit)=>iK mc)))from(xK fun bb=>kU PC (fun c x R h i=>Nr _ _ _ h))) fun os6=>fX (γ:=(fun y:(af→Unit→Option (Bool×af))=>lQ (fun bb=>gV aP (fun(x:Unit)=>[tV (aD bb 0)]) (du bb) lZ y))) (y:=(fun(mc:af) (mx:Unit)=>iT mc)) vZ (fv kL) (ht J) (n6 hI) (show ay _ _ _ (lQ (fun bb=>gV aP (fun(x:Unit)=>[tV (aD bb 0)]) (du bb) lZ (fun(mc:af) (mx:Unit)=>iT mc)))from(xK fun bb=>kU PB (fun c x R h i=>Np _ _ _ h))) fun os7=>fX (γ:=(fun y:(af→Unit→Option (Bool×af))=>lQ (fun bb=>gV aP (fun(x:Unit)=>[tV (aD bb 0)]) (du bb) lZ y))) (y:=(fun(mc:af) (mx:Unit)=>ki mc)) vZ (fv kL) (ht J) (n6 hI) (show ay _ _ _ (lQ (fun bb=>gV aP (fun(x:Unit)=>[tV (aD bb 0)]) (du bb) lZ (fun(mc:af) (mx:Unit)=>ki mc)))from(xK fun bb=>kU PA (fun c x R h i=>No _ _ _ h))) fun os8=>fX (γ:=(fun y:(af→Unit→Option (Bool×af))=>lQ (fun bb=>gV aP (fun(x:Unit)=>[tV (aD bb 0)]) (du bb) lZ y))) (y:=(fun(mc:af) (mx:Unit)=>iI mc)) vZ (fv kL) (ht J) (n6 hI) (show ay _ _ _ (lQ (fun bb=>gV aP (fun(x:Unit)=>[tV (aD bb 0)]) (du bb) lZ (fun(mc:af) (mx:Unit)=>iI mc)))from(xK fun bb=>kU Pz (fun c x R h i=>Nn _ _ _ h))) fun os9=>fX (γ:=(fun y:(af→Unit→Option (Bool×af))=>lQ (fun bb=>gV aP (fun(x:Unit)=>[tV (aD bb 0)]) (du bb) lZ y))) (y:=(fun(mc:af) (mx:Unit)=>jy mc)) vZ (fv kL) (ht J) (n6 hI) (show ay _ _ _ (lQ (fun bb=>gV aP (fun(x:Unit)=>[tV (aD bb 0)]) (du bb) lZ (fun(mc:af) (mx:Unit)=>jy mc)))from(xK fun bb=>kU Py (fun c x R h i=>Nm _ _ _ h))) fun os10=>aA J<|bv J<|ap ?_;refine am<|vS 0 J ?_;cases so h;exact aH J J

theorem LL(op:Int){R:Int}(h:p5 op=some R):bg aP 94 [ce op] (ce R):=by
 refine bg.of Tryz.func94 J J J fun w0 S0=>au<|zo J (fi)<|ap<|ae<|au<|aA J<|ap<|av ?_;refine gj (Z:=fun x=>nm op x=some R) (Of:=fun x=>[]) (Gf:=fun x=>[(3,ce op),(4,gU x)]) (fun x h=>?_) (fun K=>?_)
 ·skip
  refine dN h J (fun h=>?_) (fun h=>?_)
  ·refine au<|zo J (fi)<|ap<|am ?_;refine aB (aa ?_);cases so h;exact aH J J
  ·refine gj (Z:=fun x1=>nl op x1=some R) (Of:=fun x1=>[]) (Gf:=fun x1=>[(3,ce op),(7,gU x1)]) (fun x1 h=>?_) (fun K1=>?_)
   ·skip
    refine dN h J (fun h=>?_) (fun h=>?_)
    ·refine au<|zo J (fi)<|ap<|am ?_;refine aB (aa ?_);cases so h;exact aH J J
    ·refine gj (Z:=fun x2=>gr x2=some R) (Of:=fun x2=>[]) (Gf:=fun x2=>[(10,gU x2)]) (fun x2 h=>?_) (fun K2=>?_)
     ·skip
      refine dN h J (fun h=>?_) (fun h=>?_)
      ·refine au<|zo J (fi)<|ap<|am ?_;refine aB (aa ?_);cases so h;exact aH J J
      ·refine bD<|al<|an<|au<|zo rfl (fi)<|ap<|am ?_;cases so h;exact aH J J
     ·skip
      refine au<|zo J (kc J)<|bv J<|ap<|dN h J (fun h=>?_) (fun h=>?_)
      ·refine bD ?_;exact cg (K2 (op==(3:Int)) h) (bh J)
      ·refine au<|zo J (kc J)<|bv J<|ap<|dN h J (fun h=>?_) (fun h=>?_)
       ·refine bD ?_;exact cg (K2 (op==(4:Int)) h) (bh J)
       ·refine au<|zo J (kc J)<|bv J<|ap<|dN h J (fun h=>?_) (fun h=>?_)
        ·refine bD ?_;exact cg (K2 (op==(5:Int)) h) (bh J)
        ·refine au<|zo J (kc J)<|bv J<|ap<|dN h J (fun h=>?_) (fun h=>?_)
         ·refine bD ?_;exact cg (K2 (op==(6:Int)) h) (bh J)
         ·refine au<|zo J (kc J)<|bv J<|ap<|dN h J (fun h=>?_) (fun h=>?_)
          ·refine bD ?_;exact cg (K2 (op==(8:Int)) h) (bh J)
          ·refine au<|zo J (kc J)<|bv J<|ap<|dN h J (fun h=>?_) (fun h=>?_)
           ·refine bD ?_;exact cg (K2 (op==(10:Int)) h) (bh J)
           ·refine ak<|zo J (kc J)<|bv J<|aK ?_;exact cg (K2 (op==(11:Int)) h) (bh J)
   ·skip
    refine au<|zo J (kc J)<|bv J<|ap<|dN h J (fun h=>?_) (fun h=>?_)
    ·refine bD ?_;exact cg (K1 (op==(2:Int)) h) (bh J)
    ·refine ak<|zo J (kc J)<|bv J<|aK ?_;exact cg (K1 (op==(7:Int)) h) (bh J)
 ·skip
  refine au<|zo J (kc J)<|bv J<|ap<|dN h J (fun h=>?_) (fun h=>?_)
  ·refine bD ?_;exact cg (K (op==(1:Int)) h) (bh J)
  ·refine ak<|zo J (kc J)<|bv J<|aK ?_;exact cg (K (op==(9:Int)) h) (bh J)

theorem LK(n:aF){R:Bool}(h:p6 n=some R):bg aP 95 [tD aE n] (gU R):=by
 refine bg.of Tryz.func95 J J J fun w0 S0=>au<|zo J (ms J)<|zo J (fC)<|ap<|ae ?_
 refine eQ (ts:=[_,_,_,_,_,_,_,_,_,_,_,_,_,_,_,_,_,_,_,_,_,_,_]) mixed J J
  ⟨ij 1 J J J (cc hJ cV J J),
  ⟨cO 6 0 J J J (bC bL J J),
  ⟨cO 7 1 J J J (kc J),
  ⟨cO 8 2 J J J (cM J),
  ⟨om 1 9 3 J J J J (gJ J J J J (fun hg=>cc hJ cV J J)),
  ⟨gm 10 4 9 3 J J J J (gJ J J J J (fun hg=>aO bL J J (aJ J hg))),
  ⟨gm 11 5 9 3 J J J J (gJ J J J J (fun hg=>bG (aJ J hg) hI)),
  ⟨fG 9 3 12 6 J J J J (pr J J),
  ⟨ij 1 J J J (cc hJ cV J J),
  ⟨cO 14 8 J J J (bC bL J J),
  ⟨cO 15 9 J J J (kc J),
  ⟨cO 16 10 J J J (cM J),
  ⟨om 1 17 11 J J J J (gJ J J J J (fun hg=>cc hJ cV J J)),
  ⟨gm 18 12 17 11 J J J J (gJ J J J J (fun hg=>aO bL J J (aJ J hg))),
  ⟨gm 19 13 17 11 J J J J (gJ J J J J (fun hg=>bG (aJ J hg) hI)),
  ⟨fG 17 11 20 14 J J J J (pr J J),
  ⟨cO 21 15 J J J (cM J),
  ⟨om 1 22 16 J J J J (gJ J J J J (fun hg=>cc hJ cV J J)),
  ⟨gm 23 17 22 16 J J J J (gJ J J J J (fun hg=>aO bL J J (aJ J hg))),
  ⟨gm 24 18 22 16 J J J J (gJ J J J J (fun hg=>bG (aJ J hg) hI)),
  ⟨fG 22 16 25 19 J J J J (pr J J),
  ⟨cO 13 7 J J J (yD J),
  ⟨cO 26 20 J J J (yD J),
  aY⟩⟩⟩⟩⟩⟩⟩⟩⟩⟩⟩⟩⟩⟩⟩⟩⟩⟩⟩⟩⟩⟩⟩ ?_
 refine an<|au<|aA rfl<|aA rfl<|cQ rfl rfl (fun hg=>cc nc gi J J)<|cQ J J (fun hg=>aO bL J J (aJ J hg))<|cQ J J (fun hg=>bG (aJ J hg) hI)<|cQ J J (fun hg=>bj (aJ J hg))<|gb J J J J (fun hg=>cc nb gQ J J)<|gb J J J J (fun hg=>aO bT J J (aJ J hg))<|gb J J J J (fun hg=>bS dr (aJ J hg))<|gb J J J J (fun hg=>bG (aJ J hg) hI)<|cQ J J (fun hg=>lU (aJ J hg) (fun hb=>(aJ J (oO hg hb))))<|zo J (pr J J)<|bv J<|ap<|au<|aA J<|aA J<|bE J J (fun hg=>cc hJ cV J J)<|bE J J (fun hg=>aO bL J J (aJ J hg)) ?_;refine bE J J (fun hg=>bG (aJ J hg) hI)<|bE J J (fun hg=>bj (aJ J hg))<|bw J J J J (fun hg=>cc LI Dv J J)<|bw J J J J (fun hg=>aO GZ J J (aJ J hg))<|bw J J J J (fun hg=>d9 (aJ J hg))<|bE J J (fun hg=>jB (aJ J hg) (fun hb=>(aJ J (oO hg (m6 hb)))))<|zo J (kM J J)<|aA J<|bE J J (fun hg=>cc hJ cV J J)<|bE J J (fun hg=>aO bL J J (aJ J hg))<|bE J J (fun hg=>bG (aJ J hg) hI)<|bE J J (fun hg=>bj (aJ J hg))<|bw J J J J (fun hg=>cc hJ cV J J)<|bw J J J J (fun hg=>aO bL J J (aJ J hg))<|bw J J J J (fun hg=>bG (aJ J hg) hI)<|bE J J (fun hg=>jB (aJ J hg) (fun hb=>(aJ J (oO hg (m6 hb)))))<|bE J J (fun hg=>bj (aJ J hg))<|bw J J J J (fun hg=>cc sY oI J J)<|bw J J J J (fun hg=>cB fB J dc J (aJ J hg))<|bw J J J J (fun hg=>aO mt J J (aJ J hg))<|bw J J J J (fun hg=>bS ju (aJ J hg))<|bw J J J J (fun hg=>bG (aJ J hg) hI)<|bE J J (fun hg=>jB (aJ J hg) (fun hb=>(aJ J (oO hg (m6 hb)))))<|zo J (kM J J) ?_;refine bv J<|ap<|au<|aA J<|aA J<|bE J J (fun hg=>cM J)<|bE J J (fun hg=>bj (aJ J hg))<|bw J J J J (fun hg=>cc lv fh J J)<|bw J J J J (fun hg=>aO bT J J (aJ J hg))<|bw J J J J (fun hg=>bS dr (aJ J hg))<|bw J J J J (fun hg=>cc la fM J J)<|bw J J J J (fun hg=>aO qQ J J (aJ J hg))<|bw J J J J (fun hg=>bS mS (aJ J hg))<|bw J J J J (fun hg=>nO (aJ J hg) (aJ J hg))<|bw J J J J (fun hg=>bG (aJ J hg) hI)<|bE J J (fun hg=>jB (aJ J hg) (fun hb=>(aJ J (oO hg (m6 hb)))))<|zo J (kM J J)<|aA J<|bE J J (fun hg=>cc hJ cV J J)<|bE J J (fun hg=>aO bL J J (aJ J hg))<|bE J J (fun hg=>bG (aJ J hg) hI)<|bE J J (fun hg=>bj (aJ J hg)) ?_;refine bw J J J J (fun hg=>cc sX oH J J)<|bw J J J J (fun hg=>aO Bw J J (aJ J hg))<|bw J J J J (fun hg=>bS qL (aJ J hg))<|bw J J J J (fun hg=>bG (aJ J hg) hI)<|bE J J (fun hg=>jB (aJ J hg) (fun hb=>(aJ J (oO hg (m6 hb)))))<|zo J (kM J J)<|bv J<|ap<|au<|aA J<|aA J<|bE J J (fun hg=>cc hJ cV J J)<|bE J J (fun hg=>aO bL J J (aJ J hg))<|bE J J (fun hg=>bG (aJ J hg) hI)<|bE J J (fun hg=>bj (aJ J hg))<|bw J J J J (fun hg=>cc qg jN J J)<|bw J J J J (fun hg=>aO Ap J J (aJ J hg))<|bw J J J J (fun hg=>bS s8 (aJ J hg))<|bw J J J J (fun hg=>bG (aJ J hg) hI)<|bw J J J J (fun hg=>bj (aJ J hg))<|gb J J J J (fun hg=>cc tX nG J J)<|gb J J J J (fun hg=>aO bL J J (aJ J hg)) ?_;refine gb J J J J (fun hg=>bG (aJ J hg) hI)<|bw J J J J (fun hg=>lU (aJ J hg) (fun hb=>(aJ J (oO hg hb))))<|bE J J (fun hg=>jB (aJ J hg) (fun hb=>(aJ J (oO hg (m6 hb)))))<|zo J (kM J J)<|bv J<|ap<|am ?_;cases so h;exact aH J J

theorem EN(s:(List Int))(v:Int){R:Int}(h:gA s v=some R):bg aP 163 [lx s,ce v] (ce R):=by
 refine bg.of Tryz.func163 J J J fun w0 S0=>au<|zo J (fi)<|ap<|ae<|au<|aA J<|zo J (jk dr J)<|zo J (bj hI)<|ap<|av<|aX (k:=6) J fun hN=>bK ?_;refine aM (eh (Z:=fun ls i=>(s.drop i=ls)∧fj v ls i=some R) (Of:=fun _ i=>[]) (Gf:=fun _ i=>[(0,lx s),(1,ce v),(7,je s),(8,ce (i:Int))]) (fun i h=>?_) (fun e tl ih i h=>?_) s 0 ⟨J,h⟩) (bh J)
 ·obtain⟨hx,h⟩:=h
  refine aq<|au<|zo J (fx J J)<|ap<|ae<|br (ht J) (dp hx)<|bk ?_;refine ac (ac (aG ?_));refine an<|au<|zo rfl (fi)<|ap<|am ?_;cases so h;exact aH J J
 ·obtain⟨hx,h⟩:=h
  refine aq<|au<|zo J (fx J J)<|ap<|ae<|bq (ht J) (dh hx)<|eK<|ae<|av<|au<|aA J<|bv J<|ap<|au<|aA J<|aA J<|aA J<|zo J (ka dr bL J J J (dy hx)) ?_;refine zo J (bC bL J J)<|zo J (bG (ht J) (ht J))<|ap<|dN h J (fun h=>?_) (fun h=>?_)
  ·refine au<|aA J<|bv J<|ap<|am ?_;refine aB (aa (aa (aB (aa ?_))));cases so h;exact aH J J
  ·refine bD<|al<|an<|ak<|zo rfl (lb (cL hx hN) rfl)<|aA rfl<|aK ?_;exact aW (aM (ih (i+1) ⟨cK hx,h⟩) (bh J))

theorem DB(s:(List Int))(v:Int){R:Bool}(h:da s v=some R):bg aP 96 [lx s,ce v] (gU R):=by
 refine bg.of Tryz.func96 J J J fun w0 S0=>au<|zo J (fC)<|ap<|au<|aA J<|aA J<|bO h fun r q_r h=>zo J (aL KI (EN _ _ q_r) ⟨(ht J),(ht J),aY⟩)<|zo J (ek (ht J) hI)<|bv J<|ap<|am ?_;cases so h;exact aH J J

theorem NB(b:Nat)(ix:OI)(l:af)(i:Int)(ask:(af→Unit→Option (Bool×af))){R:Bool×af}(h:kh l i ask=some R):fT aP 47 [tV (aD b 0),ce i,lQ (fun bb=>gV aP (fun(x:Unit)=>[tV (aD bb 0)]) (du bb) lZ ask)] (du b l ix) (fun _:OI=>gU R.1) (fun j=>du b R.2 j):=by
 refine fT.of Tryz.func47 J J J fun w0 S0=>?_;refine(show CG _ _ _ [bx (rH aN [(1,ai (ix.h 0).1 (ix.h 0).2 l.kinds.length),(2,ai (ix.h 1).1 (ix.h 1).2 l.open_.length)]) 124 b l,gX gz 29 (ix.h 0).1 (ix.h 0).2 l.kinds,cu bW 3 (ix.h 1).1 (ix.h 1).2 l.open_] _ from ?_);refine au<|zo J (fC)<|ap<|au<|aA J<|zo J (aS (ht J))<|zo J (eY 0 AS J J J)<|zo J (aT (r:=rH aN [(1,ai (ix.h 0).1 (ix.h 0).2 l.kinds.length),(2,ai (ix.h 1).1 (ix.h 1).2 l.open_.length)]) (x:=l) rW J J (fD u0) (.head _) (ht J))<|aA J<|bO h fun e q_e h=>zo J (ka mp eu J J J q_e)<|zo J (bC eu J J)<|aZ (r:=aE) (x:=Bh) eu (fun _=>fF _) J fun b1=>aC eu J aw J (ht J) (ht J)<|aU 7 J<|ap<|au<|zo J (cc hJ cV J J)<|zo J (bC bL J J) ?_;refine bO h fun r q_r h=>zo J (aL Px (LL _ q_r) ⟨(ht J),aY⟩)<|bv J<|ap<|ae<|au<|aA J<|zo J (fz (ht J) hI)<|aA J<|cQ J J (fun hg=>cM J)<|cQ J J (fun hg=>cM J)<|cQ J J (fun hg=>aS (aJ J hg))<|cQ J J (fun hg=>bB (n:=2) n7 J (aJ J hg) J)<|cQ J J (fun hg=>kV bT J (.head _) (aJ J hg))<|cQ J J (fun hg=>ee dr (.tail _ (.tail _ (.head _))) (aJ J hg))<|cQ J J (fun hg=>gZ (aJ J hg) (aJ J hg))<|zo J (pr J J)<|aA J<|bO h fun t q_t h=>cQ J J (fun hg=>bC eu J J) ?_
 obtain⟨r1,h1t,h0t⟩:=og q_t
 have q_r1g:=fun hb=>(h1t hb).1
 refine cQ J J (fun hg=>aL Pw (LK _ (q_r1g hg)) ⟨(aJ J hg),aY⟩)<|cQ J J (fun hg=>d9 (aJ J hg))<|zo J (eN (ht J) (fun hb=>(aJ J (m6 hb))) (fun hb=>(h1t hb).2) h0t)<|ap<|nv (ht J) (fun hc=>?_) (fun hc=>?_)
 ·have h:=ct h hc;refine au<|zo J (fC)<|ap<|am<|aa<|aI<|aI<|aI ?_;cases so h;exact c0 J ix J J (fun _ _ h=>h)
 ·have h:=cf h hc;refine eK<|au<|zo J (mg (r:=bW) (ys:=[tf,tf]) (xs:=[.const (.int .i64 (-1)),.const (.int .i64 (-1))]) sw bL J tg J J ⟨hI,hI,aY⟩)<|aZ (r:=yA) (x:=(List.replicate 2 (0:Int))) tg (fun _=>Cq (r:=bW) 2 (fun _=>J) _) J fun b2=>aC tg J aw J (ht J) (ht J)<|ap<|ae<|bO h fun y q_y h=>?_
  refine nJ 13 (ts:=[tV (.slice (some ⟨b2,0,none⟩) 2 2),tV (aD b 0),tV (aD b 0),tV (aD b 2),oc (ix.h 1).1 (ix.h 1).2 l.open_,tV (aD b 0),tV (aD b 0),tV (aD b 2),oc (ix.h 1).1 (ix.h 1).2 l.open_,je l.open_,ce r,ce (IntKind.i64.wrap ((l.open_.length:Int)-r)),tV (kB 1 (ix.h 1).1 (ix.h 1).2 (IntKind.i64.wrap ((l.open_.length:Int)-r)).toNat y.length)]) mixed J J J
   ⟨ij 9 J J J (BQ sw (Iw bL) (ht J)),
   ⟨ij 0 J J J (cM J),
   ⟨cO 42 1 J J J (aS (ht J)),
   ⟨cO 43 2 J J J (eY 2 n7 J J J),
   ⟨cO 44 3 J J J (kV bT J (.tail _ (.head _)) (ht J)),
   ⟨ij 0 J J J (cM J),
   ⟨cO 46 5 J J J (aS (ht J)),
   ⟨cO 47 6 J J J (eY 2 n7 J J J),
   ⟨cO 48 7 J J J (kV bT J (.tail _ (.head _)) (ht J)),
   ⟨cO 49 8 J J J (ee dr (.tail _ (.tail _ (.tail _ (.head _)))) (ht J)),
   ⟨ij 8 J J J (cM J),
   ⟨fG 50 9 51 10 J J J J (gE (ht J) (ht J)),
   ⟨fG 45 4 52 11 J J J J (mf dr bL J (.tail _ (.tail _ (.tail _ (.head _)))) (ht J) (ht J) q_y),
   aY⟩⟩⟩⟩⟩⟩⟩⟩⟩⟩⟩⟩⟩ ?_
  refine mO (.tail _ (.tail _ (.tail _ (.head _)))) q_y fun hv=>yh (A2 (.tail _ (.tail _ (.tail _ (.head _)))) q_y dr (Ee bL) (ht J) (ht J)) J fun i1=>?_;refine(show RG _ _ _ _ [bx yA 61 b2 (pI GR y),bx (rH aN [(1,ai (ix.h 0).1 (ix.h 0).2 l.kinds.length),(2,ai (ix.h 1).1 (ix.h 1).2 l.open_.length)]) 124 b l,gX gz 29 (ix.h 0).1 (ix.h 0).2 l.kinds,cu bW 3 (ix.h 1).1 (ix.h 1).2 l.open_] ((54,ce ((min y.length 2:Nat):Int))::_)from ?_);refine ap<|ae<|au<|zo J (aT tg J J cH (.head _) (ht J))<|zo J (cc rb k7 J J)<|zo J (bC bL J J)<|zo J (cc u4 m9 J J)<|zo J (bC bL J J)<|zo J (mg (r:=bW) (ys:=[e.A,e.B]) (xs:=[.tmp 57,.tmp 59]) sw bL J tg J J ⟨(ht J),(ht J),aY⟩)<|zo J (wr Gl (ht J) (ht J))<|ap<|nv (ht J) (fun hc=>?_) (fun hc=>?_)
  ·have h:=ct h hc;refine au<|zo J (fC)<|ap<|am<|aa<|bl<|aI<|aI<|aI ?_;cases so h;exact c0 J ix J J (fun _ _ h=>h)
  ·have h:=cf h hc;refine eK<|au<|aA J<|aA J<|aA J<|zo J (bC eu J J)<|zo J (aS (ht J))<|zo J (eY 3 fb J J J)<|lO (EffOK.fr1 (gR eu J (qT (hs' :=[(1,ai (ix.h 0).1 (ix.h 0).2 l.kinds.length),(2,ai (ix.h 1).1 (ix.h 1).2 l.open_.length)]) FI ⟨.inr ⟨J,J⟩,.inr ⟨J,J⟩,aY⟩ J) J (ht J) (ht J))) fun i2=>?_;refine(show RG _ _ _ _ [bx (rH aN [(1,ai (ix.h 0).1 (ix.h 0).2 l.kinds.length),(2,ai (ix.h 1).1 (ix.h 1).2 l.open_.length)]) 124 b ({l with n:=e}:af),bx yA 61 b2 (pI GR y),gX gz 29 (ix.h 0).1 (ix.h 0).2 l.kinds,cu bW 3 (ix.h 1).1 (ix.h 1).2 l.open_] _ from ?_);refine zo J (aS (ht J))<|zo J (eY 15 gw J J J)<|lO (gR bT J (qT (hs' :=[(1,ai (ix.h 0).1 (ix.h 0).2 l.kinds.length),(2,ai (ix.h 1).1 (ix.h 1).2 l.open_.length)]) ze ⟨.inr ⟨J,J⟩,.inr ⟨J,J⟩,aY⟩ J) J (ht J) uX) fun i3=>?_;refine(show RG _ _ _ _ [bx (rH aN [(1,ai (ix.h 0).1 (ix.h 0).2 l.kinds.length),(2,ai (ix.h 1).1 (ix.h 1).2 l.open_.length)]) 124 b ({({l with n:=e}:af)with a_:=[]}:af),bx yA 61 b2 (pI GR y),gX gz 29 (ix.h 0).1 (ix.h 0).2 l.kinds,cu bW 3 (ix.h 1).1 (ix.h 1).2 l.open_] _ from ?_);refine zo J (aS (ht J))<|zo J (eY 16 t7 J J J)<|lO (gR bT J (qT (hs' :=[(1,ai (ix.h 0).1 (ix.h 0).2 l.kinds.length),(2,ai (ix.h 1).1 (ix.h 1).2 l.open_.length)]) zd ⟨.inr ⟨J,J⟩,.inr ⟨J,J⟩,aY⟩ J) J (ht J) uX) fun i4=>?_;refine(show RG _ _ _ _ [bx (rH aN [(1,ai (ix.h 0).1 (ix.h 0).2 l.kinds.length),(2,ai (ix.h 1).1 (ix.h 1).2 l.open_.length)]) 124 b ({({({l with n:=e}:af)with a_:=[]}:af)with b:=[]}:af),bx yA 61 b2 (pI GR y),gX gz 29 (ix.h 0).1 (ix.h 0).2 l.kinds,cu bW 3 (ix.h 1).1 (ix.h 1).2 l.open_] _ from ?_);refine ap<|ae<|ae<|bO h fun y1 q_y1 h=>?_
   refine eQ (ts:=[_,_,_,_,_,_,_,_,_,_,_,_,_,_]) mixed J J
    ⟨ij 0 J J J (cM J),
    ⟨cO 72 0 J J J (aS (ht J)),
    ⟨cO 73 1 J J J (eY 2 n7 J J J),
    ⟨cO 74 2 J J J (kV bT J (.head _) (ht J)),
    ⟨ij 0 J J J (cM J),
    ⟨cO 76 4 J J J (aS (ht J)),
    ⟨cO 77 5 J J J (eY 2 n7 J J J),
    ⟨cO 78 6 J J J (kV bT J (.head _) (ht J)),
    ⟨cO 79 7 J J J (ee dr (.tail _ (.tail _ (.tail _ (.head _)))) (ht J)),
    ⟨ij 8 J J J (cM J),
    ⟨fG 80 8 81 9 J J J J (gE (ht J) (ht J)),
    ⟨fG 75 3 82 10 J J J J (mf dr bL J (.tail _ (.tail _ (.tail _ (.head _)))) (ht J) (ht J) q_y1),
    ⟨cO 83 11 J J J (Ev dr (.tail _ (.tail _ (.tail _ (.head _)))) q_y1 (ht J)),
    ⟨zd0 J J (bj hI),
    aY⟩⟩⟩⟩⟩⟩⟩⟩⟩⟩⟩⟩⟩⟩ ?_
   refine an<|av<|Be (.tail _ (.tail _ (.tail _ (.head _)))) q_y1 fun hv1=>?_
   have hN:=hv1.2
   refine bK<|dM<|pc ?_;refine aM (oK (Z:=fun ls i5 a_ b3=>(y1.drop i5=ls)∧ca l i ask e r ls i5 a_ b3=some R) (Of:=fun _ i5 a_ b3=>[bx (rH aN [(1,ai (ix.h 0).1 (ix.h 0).2 l.kinds.length),(2,ai (ix.h 1).1 (ix.h 1).2 l.open_.length)]) 124 b ({({({({({l with n:=e}:af)with a_:=[]}:af)with b:=[]}:af)with a_:=a_}:af)with b:=b3}:af),gX gz 29 (ix.h 0).1 (ix.h 0).2 l.kinds,cu bW 3 (ix.h 1).1 (ix.h 1).2 l.open_]) (Gf:=fun _ i5 a_ b3=>[(0,tV (aD b 0)),(1,ce i),(2,lQ (fun bb=>gV aP (fun(x:Unit)=>[tV (aD bb 0)]) (du bb) lZ ask)),(7,bz aE e),(8,ce r),(83,tV (kB 1 (ix.h 1).1 (ix.h 1).2 (IntKind.i64.wrap ((l.open_.length:Int)-r)).toNat y1.length)),(84,je y1),(85,ce (i5:Int))]) (fun i5 a_ b3 h=>?_) (fun e1 tl ih i5 a_ b3 h=>?_) y1 0 (({({({l with n:=e}:af)with a_:=[]}:af)with b:=[]}:af).a_) (({({({l with n:=e}:af)with a_:=[]}:af)with b:=[]}:af).b) ⟨J,h⟩) (bh J)
   ·obtain⟨hx,h⟩:=h
    refine aq<|au<|zo J (fx J J)<|ap<|ae<|br (ht J) (dp hx)<|bk ?_;refine ac (ac (aG ?_));refine an<|au<|zo rfl (cc hJ cV rfl rfl)<|zo rfl (bC bL rfl rfl)<|zo rfl (kc rfl)<|aA rfl<|cQ rfl rfl (fun hg=>cc hJ cV J J)<|cQ J J (fun hg=>aO bL J J (aJ J hg))<|cQ J J (fun hg=>bG (aJ J hg) hI)<|zo J (pr J J)<|bv J<|ap<|ae<|au<|aA J<|aA J<|bE J J (fun hg=>cM J)<|bE J J (fun hg=>cM J)<|bE J J (fun hg=>aS (aJ J hg))<|bE J J (fun hg=>bB (n:=0) AS J (aJ J hg) J)<|bE J J (fun hg=>aT (r:=rH aN [(1,ai (ix.h 0).1 (ix.h 0).2 l.kinds.length),(2,ai (ix.h 1).1 (ix.h 1).2 l.open_.length)]) (x:=({({({({({l with n:=e}:af)with a_:=[]}:af)with b:=[]}:af)with a_:=a_}:af)with b:=b3}:af)) rW J J (fD u0) (.head _) (aJ J hg)) ?_;refine bE J J (fun hg=>bS mp (aJ J hg))<|bE J J (fun hg=>gE (aJ J hg) hI)<|bE J J (fun hg=>dn (aJ J hg) (aJ J hg))<|zo J (kM J J)<|aA J ?_;refine Cv (((e.Op==(8:Int))||(e.Op==(10:Int)))&&(i !=(IntKind.i64.wrap (((({({({({({l with n:=e}:af)with a_:=[]}:af)with b:=[]}:af)with a_:=a_}:af)with b:=b3}:af).nodes).length:Int)-(1:Int))))) (fun hg=>?_) (fun hg=>?_)
    ·have h:=ct h hg;refine lY J J J hg J<|lY J J J hg J<|lY J J J hg J<|lY J J J hg J<|zo J (uV (ht J) hg Pk)<|aA J<|lY J J J J J<|lY J J J J J<|lY J J J J J<|lY J J J J J<|lY J J J J J<|lY J J J J J<|zo J (uV (ht J) J Pk)<|ap<|nv (ht J) (fun hc=>?_) (fun hc=>?_)
     ·refine au<|zo J (fC)<|ap<|am<|aa<|aI<|aI<|aI ?_;cases so h;exact c0 J ix J J (fun _ _ h=>h)
     ·cases hc
    ·have h:=cf h hg;refine ul J J J hg<|aA J<|ul J J J hg<|aA J<|ul J J J hg<|bO h fun r2 q_r2 h=>yh (EffOK.fr2 (EffOK.fr2 (EffOK.fr2 (A3 (args:=(fun(x:Unit)=>[tV (aD b 0)])) (Ob:=du b) (res:=lZ) (f:=ask) (x:=({({({({({l with n:=e}:af)with a_:=[]}:af)with b:=[]}:af)with a_:=a_}:af)with b:=b3}:af)) (y:=(():Unit)) (R:=r2) (i:=ix) (xs:=[.tmp 136]) _ J (M9 (t:=(fun bb=>gV aP (fun(x:Unit)=>[tV (aD bb 0)]) (du bb) lZ ask)) b (ht J)) q_r2 ⟨(ht J),aY⟩ (fun _=>J))))) J fun i6=>?_;refine(show RG _ _ _ _ [bx (rH aN [(1,ai (i6.h 0).1 (i6.h 0).2 r2.2.kinds.length),(2,ai (i6.h 1).1 (i6.h 1).2 r2.2.open_.length)]) 124 b r2.2,gX gz 29 (i6.h 0).1 (i6.h 0).2 r2.2.kinds,cu bW 3 (i6.h 1).1 (i6.h 1).2 r2.2.open_] ((137,gU r2.1)::_)from ?_);refine ul J J J hg<|zo J (d9 (ht J))<|zo J (zk (ht J) hg (ht J))<|aA J<|cQ J J (fun hg=>cM J)<|cQ J J (fun hg=>aS (aJ J hg))<|cQ J J (fun hg=>bB (n:=17) ef J (aJ J hg) J)<|cQ J J (fun hg=>aT (r:=rH aN [(1,ai (i6.h 0).1 (i6.h 0).2 r2.2.kinds.length),(2,ai (i6.h 1).1 (i6.h 1).2 r2.2.open_.length)]) (x:=r2.2) bT J J (fD uZ) (.head _) (aJ J hg))<|cQ J J (fun hg=>bS dr (aJ J hg))<|cQ J J (fun hg=>gZ (aJ J hg) hI)<|zo J (pr J J)<|ap<|dN h J (fun h=>?_) (fun h=>?_)
     ·refine au<|zo J (fC)<|ap<|am<|aa<|aI<|aI<|aI ?_;cases so h;exact c0 J i6 J J (fun _ _ h=>h)
     ·refine eK<|ae<|bO h fun l1 q_l1 h=>bO h fun y2 q_y2 h=>bO h fun l2 q_l2 h=>?_
      refine nI 30 [tc (tV (aD b 0)),tc (tV (aD b 0)),tc (tV (aD b 0)),tc (tV (aD b 0)),tc (tV (aD b 1)),tc (tO gz (i6.h 0).1 (i6.h 0).2 r2.2.kinds),tc (tV (aD b 0)),tc (tV (aD b 0)),tc (tV (aD b 17)),tc (lx r2.2.result),tc (fE (gz) ([r2.2.result])),([11],fun s=>tO gz ((s.getD 0 rx).h 0).1 ((s.getD 0 rx).h 0).2 l1),tc (tV (aD b 0)),tc (tV (aD b 0)),tc (tV (aD b 2)),tc (oc (i6.h 1).1 (i6.h 1).2 r2.2.open_),tc (tV (aD b 0)),tc (tV (aD b 0)),tc (tV (aD b 2)),tc (oc (i6.h 1).1 (i6.h 1).2 r2.2.open_),tc (je r2.2.open_),tc (ce r),tc (ce (IntKind.i64.wrap ((r2.2.open_.length:Int)-r))),tc (oc (i6.h 1).1 (i6.h 1).2 y2),tc (ce i),tc (lx ([i])),([26],fun s=>tV (ai ((s.getD 0 rx).h 0).1 ((s.getD 0 rx).h 0).2 l2.length)),tc (tV (aD b 0)),tc (tV (aD b 1)),tc (wW)] [false,false,false,false,false,false,false,false,false,false,false,true,false,false,false,false,false,false,false,false,false,false,false,false,false,false,true,false,false,true] [fun _=>[bx (rH aN [(1,ai (i6.h 0).1 (i6.h 0).2 r2.2.kinds.length),(2,ai (i6.h 1).1 (i6.h 1).2 r2.2.open_.length)]) 124 b r2.2,gX gz 29 (i6.h 0).1 (i6.h 0).2 r2.2.kinds,cu bW 3 (i6.h 1).1 (i6.h 1).2 r2.2.open_],fun sg=>[gX gz 29 ((sg 11).h 0).1 ((sg 11).h 0).2 l1,bx (rH aN [(1,ai (i6.h 0).1 (i6.h 0).2 r2.2.kinds.length),(2,ai (i6.h 1).1 (i6.h 1).2 r2.2.open_.length)]) 124 b r2.2,cu bW 3 (i6.h 1).1 (i6.h 1).2 r2.2.open_],fun sg=>[cu bW 3 ((sg 26).h 0).1 ((sg 26).h 0).2 l2,gX gz 29 ((sg 11).h 0).1 ((sg 11).h 0).2 l1,bx (rH aN [(1,ai (i6.h 0).1 (i6.h 0).2 r2.2.kinds.length),(2,ai (i6.h 1).1 (i6.h 1).2 r2.2.open_.length)]) 124 b r2.2],fun sg=>[bx (rH aN [(1,ai ((sg 11).h 0).1 ((sg 11).h 0).2 l1.length),(2,ai (i6.h 1).1 (i6.h 1).2 r2.2.open_.length)]) 124 b ({r2.2 with kinds:=l1}:af),cu bW 3 ((sg 26).h 0).1 ((sg 26).h 0).2 l2,gX gz 29 ((sg 11).h 0).1 ((sg 11).h 0).2 l1]] J mixed J J J J J
       ⟨⟨[⟨0,fun _=>tV (aD b 0),none⟩],_,0,2,J,⟨(fun _=>J),aY⟩,J,J,J,J,J,fun _ sg _ _=>ah J (cM J)⟩,
       ⟨⟨[⟨0,fun _=>tV (aD b 0),none⟩],_,0,3,J,⟨(fun _=>J),aY⟩,J,J,J,J,J,fun _ sg _ _=>ah J (cM J)⟩,
       ⟨⟨[⟨0,fun _=>tV (aD b 0),none⟩],_,0,0,J,⟨(fun _=>J),aY⟩,J,J,J,J,J,fun _ sg _ _=>ah J (cM J)⟩,
       ⟨⟨[⟨150,fun _=>tV (aD b 0),some 2⟩],_,0,0,J,⟨(fun _=>J),aY⟩,J,J,J,J,J,fun _ sg _ _=>ah J (aS (ht J))⟩,
       ⟨⟨[⟨151,fun _=>tV (aD b 0),some 3⟩],_,0,0,J,⟨(fun _=>J),aY⟩,J,J,J,J,J,fun _ sg _ _=>ah J (eY 1 wz J J J)⟩,
       ⟨⟨[⟨152,fun _=>tV (aD b 1),some 4⟩],_,0,0,J,⟨(fun _=>J),aY⟩,J,J,J,J,J,oL (fun sg=>ah J (xz yG J (.head _) (.tail _ (.head _)) (ht J)))⟩,
       ⟨⟨[⟨0,fun _=>tV (aD b 0),none⟩],_,0,0,J,⟨(fun _=>J),aY⟩,J,J,J,J,J,fun _ sg _ _=>ah J (cM J)⟩,
       ⟨⟨[⟨154,fun _=>tV (aD b 0),some 6⟩],_,0,0,J,⟨(fun _=>J),aY⟩,J,J,J,J,J,fun _ sg _ _=>ah J (aS (ht J))⟩,
       ⟨⟨[⟨155,fun _=>tV (aD b 0),some 7⟩],_,0,0,J,⟨(fun _=>J),aY⟩,J,J,J,J,J,fun _ sg _ _=>ah J (eY 17 ef J J J)⟩,
       ⟨⟨[⟨156,fun _=>tV (aD b 17),some 8⟩],_,0,0,J,⟨(fun _=>J),aY⟩,J,J,J,J,J,oL (fun sg=>ah J (aT (r:=rH aN [(1,ai (i6.h 0).1 (i6.h 0).2 r2.2.kinds.length),(2,ai (i6.h 1).1 (i6.h 1).2 r2.2.open_.length)]) (x:=r2.2) bT J J (fD uZ) (.head _) (ht J)))⟩,
       ⟨⟨[⟨157,fun _=>tD pT r2.2.result,some 9⟩],_,0,0,J,⟨(fun _=>J),aY⟩,J,J,J,J,J,fun _ sg _ _=>ah J (bX (r:=pT) (ys:=[r2.2.result]) (xs:=[.tmp 157]) pR bT J J J J J ⟨(ht J),aY⟩)⟩,
       ⟨⟨[⟨153,fun _=>tO pT (i6.h 0).1 (i6.h 0).2 r2.2.kinds,some 5⟩,⟨158,fun _=>tD (dE pT) ([r2.2.result]),some 10⟩],_,J,⟨(fun _=>J),(fun _=>J),aY⟩,J,J,J,fun sg=>dD J (EffOK.fr1 (Cj bT J J J J pR J (ht J) (ht J) q_l1))⟩,
       ⟨⟨[⟨0,fun _=>tV (aD b 0),none⟩],_,0,1,J,⟨(fun _=>J),aY⟩,J,J,J,J,J,fun _ sg _ _=>ah J (cM J)⟩,
       ⟨⟨[⟨160,fun _=>tV (aD b 0),some 12⟩],_,0,1,J,⟨(fun _=>J),aY⟩,J,J,J,J,J,fun _ sg _ _=>ah J (aS (ht J))⟩,
       ⟨⟨[⟨161,fun _=>tV (aD b 0),some 13⟩],_,0,1,J,⟨(fun _=>J),aY⟩,J,J,J,J,J,fun _ sg _ _=>ah J (eY 2 n7 J J J)⟩,
       ⟨⟨[⟨162,fun _=>tV (aD b 2),some 14⟩],_,0,1,J,⟨(fun _=>J),aY⟩,J,J,J,J,J,yE (fun sg=>ah J (kV bT J (.head _) (ht J))) (oL (fun sg=>ah J (kV bT J (.tail _ (.head _)) (ht J))))⟩,
       ⟨⟨[⟨0,fun _=>tV (aD b 0),none⟩],_,0,1,J,⟨(fun _=>J),aY⟩,J,J,J,J,J,fun _ sg _ _=>ah J (cM J)⟩,
       ⟨⟨[⟨164,fun _=>tV (aD b 0),some 16⟩],_,0,1,J,⟨(fun _=>J),aY⟩,J,J,J,J,J,fun _ sg _ _=>ah J (aS (ht J))⟩,
       ⟨⟨[⟨165,fun _=>tV (aD b 0),some 17⟩],_,0,1,J,⟨(fun _=>J),aY⟩,J,J,J,J,J,fun _ sg _ _=>ah J (eY 2 n7 J J J)⟩,
       ⟨⟨[⟨166,fun _=>tV (aD b 2),some 18⟩],_,0,1,J,⟨(fun _=>J),aY⟩,J,J,J,J,J,yE (fun sg=>ah J (kV bT J (.head _) (ht J))) (oL (fun sg=>ah J (kV bT J (.tail _ (.head _)) (ht J))))⟩,
       ⟨⟨[⟨167,fun _=>tV (ai (i6.h 1).1 (i6.h 1).2 r2.2.open_.length),some 19⟩],_,0,1,J,⟨(fun _=>J),aY⟩,J,J,J,J,J,yE (fun sg=>ah J (ee dr (.tail _ (.tail _ (.head _))) (ht J))) (oL (fun sg=>ah J (ee dr (.tail _ (.tail _ (.head _))) (ht J))))⟩,
       ⟨⟨[⟨8,fun _=>tD bW r,none⟩],_,0,1,J,⟨(fun _=>J),aY⟩,J,J,J,J,J,fun _ sg _ _=>ah J (cM J)⟩,
       ⟨⟨[⟨168,fun _=>tD bW (r2.2.open_.length:Int),some 20⟩,⟨169,fun _=>tD bW r,some 21⟩],_,0,1,J,⟨(fun _=>J),(fun _=>J),aY⟩,J,J,J,J,J,fun _ sg _ _=>ah J (gE (ht J) (ht J))⟩,
       ⟨⟨[⟨163,fun _=>tV (ai (i6.h 1).1 (i6.h 1).2 r2.2.open_.length),some 15⟩,⟨170,fun _=>tD bW (IntKind.i64.wrap ((r2.2.open_.length:Int)-r)),some 22⟩],_,0,1,J,⟨(fun _=>J),(fun _=>J),aY⟩,J,J,J,J,J,yE (fun sg=>ah J (kT dr bL J (.tail _ (.tail _ (.head _))) (ht J) (ht J) q_y2)) (oL (fun sg=>ah J (kT dr bL J (.tail _ (.tail _ (.head _))) (ht J) (ht J) q_y2)))⟩,
       ⟨⟨[⟨1,fun _=>tD bW i,none⟩],_,0,1,J,⟨(fun _=>J),aY⟩,J,J,J,J,J,fun _ sg _ _=>ah J (cM J)⟩,
       ⟨⟨[⟨172,fun _=>tD bW i,some 24⟩],_,0,1,J,⟨(fun _=>J),aY⟩,J,J,J,J,J,fun _ sg _ _=>ah J (bX (r:=bW) (ys:=[i]) (xs:=[.tmp 172]) dr bL J J J J J ⟨(ht J),aY⟩)⟩,
       ⟨⟨[⟨171,fun _=>tV (ai (i6.h 1).1 (i6.h 1).2 y2.length),some 23⟩,⟨173,fun _=>tD pT ([i]),some 25⟩],_,J,⟨(fun _=>J),(fun _=>J),aY⟩,J,J,J,fun sg=>dD J (EffOK.fr2 (D0 q_y2 (ri bL J J J J dr J (ht J) (ht J) q_l2)))⟩,
       ⟨⟨[⟨148,fun _=>tV (aD b 0),some 0⟩],_,2,2,J,⟨(fun _=>J),aY⟩,J,J,J,J,J,fun _ sg _ _=>ah J (aS (ht J))⟩,
       ⟨⟨[⟨175,fun _=>tV (aD b 0),some 27⟩],_,2,2,J,⟨(fun _=>J),aY⟩,J,J,J,J,J,fun _ sg _ _=>ah J (eY 1 wz J J J)⟩,
       ⟨⟨[⟨176,fun _=>tV (aD b 1),some 28⟩,⟨159,fun sg=>tO pT ((sg 11).h 0).1 ((sg 11).h 0).2 l1,some 11⟩],_,J,⟨(fun _=>J),(fun _=>J),aY⟩,J,J,J,fun sg=>dD J (EffOK.fr2 (xY (hs' :=[(1,ai ((sg 11).h 0).1 ((sg 11).h 0).2 l1.length),(2,ai (i6.h 1).1 (i6.h 1).2 r2.2.open_.length)]) (u:=ai ((sg 11).h 0).1 ((sg 11).h 0).2 l1.length) yG J J FK J ⟨.inl ⟨J,J,J⟩,.inr ⟨J,J⟩,aY⟩ (ht J) (wV (ht J)) (IA (ht J))))⟩,
       aY⟩⟩⟩⟩⟩⟩⟩⟩⟩⟩⟩⟩⟩⟩⟩⟩⟩⟩⟩⟩⟩⟩⟩⟩⟩⟩⟩⟩⟩⟩ (fun sg=>?_)
      refine(show RG _ _ _ _ [bx (rH aN [(1,ai ((sg 11).h 0).1 ((sg 11).h 0).2 l1.length),(2,ai (i6.h 1).1 (i6.h 1).2 r2.2.open_.length)]) 124 b ({r2.2 with kinds:=l1}:af),cu bW 3 ((sg 26).h 0).1 ((sg 26).h 0).2 l2,gX gz 29 ((sg 11).h 0).1 ((sg 11).h 0).2 l1] _ from ?_);refine zo J (aS (ht J))<|zo J (eY 2 n7 J J J)<|lO (xY (hs' :=[(1,ai ((sg 11).h 0).1 ((sg 11).h 0).2 l1.length),(2,ai ((sg 26).h 0).1 ((sg 26).h 0).2 l2.length)]) (u:=ai ((sg 26).h 0).1 ((sg 26).h 0).2 l2.length) bT J J FJ J ⟨.inr ⟨J,J⟩,.inl ⟨J,J,J⟩,aY⟩ (ht J) (Pl (y:=l2) (ht J) Hh) (ht J)) fun i7=>?_;refine(show RG _ _ _ _ [bx (rH aN [(1,ai ((sg 11).h 0).1 ((sg 11).h 0).2 l1.length),(2,ai ((sg 26).h 0).1 ((sg 26).h 0).2 l2.length)]) 124 b ({({r2.2 with kinds:=l1}:af)with open_:=l2}:af),cu bW 3 ((sg 26).h 0).1 ((sg 26).h 0).2 l2,gX gz 29 ((sg 11).h 0).1 ((sg 11).h 0).2 l1] _ from ?_);refine ap<|au<|zo J (fC)<|ap<|am<|bf<|aI<|aI ?_;cases so h;exact c0 J (F3 [(((sg 11).h 0).1,((sg 11).h 0).2),(((sg 26).h 0).1,((sg 26).h 0).2)]) J J (fun _ _ h=>h)
   ·obtain⟨hx,h⟩:=h
    refine aq<|au<|zo J (fx J J)<|ap<|ae<|bq (ht J) (dh hx)<|eK<|ae<|av<|au<|aA J<|zo J (si dr bL J (.tail _ (.tail _ (.head _))) q_y1 (ht J) (ht J) (dy hx))<|zo J (dJ (r:=bW) (i:=((IntKind.i64.wrap ((l.open_.length:Int)-r))+(i5:Int))) (foff:=0) bL J J cH J (.tail _ (.tail _ (.head _))) (sI q_y1 (dy hx)).1 (ht J))<|bv J<|bv J<|ap<|au<|aA J ?_;refine zo J (aS (ht J))<|zo J (eY 1 wz J J J)<|zo J (xz yG J (.head _) (.tail _ (.head _)) (ht J))<|aA J<|bO h fun e2 q_e2 h=>zo J (cr pR bT J (wV (ht J)) (ht J) q_e2)<|zo J (bC bT J J)<|bv J<|ap<|ae<|au<|zo J (cc hJ cV J J)<|zo J (bC bL J J)<|zo J (uz J)<|aA J<|bO h fun t1 q_t1 h=>bE J J (fun hg=>cM J) ?_
    obtain⟨r3,h1t1,h0t1⟩:=og q_t1
    have q_r3g:=fun hb=>(h1t1 hb).1
    refine bE J J (fun hg=>aL Mg (DB _ _ (q_r3g hg)) ⟨(aJ J hg),hI,aY⟩)<|zo J (dm (ht J) (fun hb=>(aJ J hb)) (fun hb=>(h1t1 hb).2) h0t1)<|ap<|dN h J (fun h=>?_) (fun h=>?_)
    ·refine au<|zo J (fC)<|ap<|am ?_;refine aa (aB (aa (aa (aB (aa ?_)))));refine aI<|aI<|aI ?_;cases so h;exact c0 J ix J J (fun _ _ h=>h)
    ·refine eK<|au<|aA J<|zo J (kc J)<|ap<|dN h J (fun h=>?_) (fun h=>?_)
     ·refine ak<|aA J<|aA J<|zo J (aS (ht J))<|zo J (eY 15 gw J J J)<|lO (gR bT J (qT (hs' :=[(1,ai (ix.h 0).1 (ix.h 0).2 l.kinds.length),(2,ai (ix.h 1).1 (ix.h 1).2 l.open_.length)]) ze ⟨.inr ⟨J,J⟩,.inr ⟨J,J⟩,aY⟩ J) J (ht J) (ht J)) fun i8=>?_;refine(show RG _ _ _ _ [bx (rH aN [(1,ai (ix.h 0).1 (ix.h 0).2 l.kinds.length),(2,ai (ix.h 1).1 (ix.h 1).2 l.open_.length)]) 124 b ({({({({({({l with n:=e}:af)with a_:=[]}:af)with b:=[]}:af)with a_:=a_}:af)with b:=b3}:af)with a_:=e2}:af),gX gz 29 (ix.h 0).1 (ix.h 0).2 l.kinds,cu bW 3 (ix.h 1).1 (ix.h 1).2 l.open_] _ from ?_);refine aK<|al<|an<|ak<|zo rfl (lb (cL hx hN) rfl)<|aA rfl<|aK ?_;exact aW (aM (ih (i5+1) (({({({({({({l with n:=e}:af)with a_:=[]}:af)with b:=[]}:af)with a_:=a_}:af)with b:=b3}:af)with a_:=e2}:af).a_) (({({({({({({l with n:=e}:af)with a_:=[]}:af)with b:=[]}:af)with a_:=a_}:af)with b:=b3}:af)with a_:=e2}:af).b) ⟨cK hx,h⟩) (bh J))
     ·refine ak<|aA J<|aA J<|zo J (aS (ht J))<|zo J (eY 16 t7 J J J)<|lO (gR bT J (qT (hs' :=[(1,ai (ix.h 0).1 (ix.h 0).2 l.kinds.length),(2,ai (ix.h 1).1 (ix.h 1).2 l.open_.length)]) zd ⟨.inr ⟨J,J⟩,.inr ⟨J,J⟩,aY⟩ J) J (ht J) (ht J)) fun i9=>?_;refine(show RG _ _ _ _ [bx (rH aN [(1,ai (ix.h 0).1 (ix.h 0).2 l.kinds.length),(2,ai (ix.h 1).1 (ix.h 1).2 l.open_.length)]) 124 b ({({({({({({l with n:=e}:af)with a_:=[]}:af)with b:=[]}:af)with a_:=a_}:af)with b:=b3}:af)with b:=e2}:af),gX gz 29 (ix.h 0).1 (ix.h 0).2 l.kinds,cu bW 3 (ix.h 1).1 (ix.h 1).2 l.open_] _ from ?_);refine aK<|al<|an<|ak<|zo rfl (lb (cL hx hN) rfl)<|aA rfl<|aK ?_;exact aW (aM (ih (i5+1) (({({({({({({l with n:=e}:af)with a_:=[]}:af)with b:=[]}:af)with a_:=a_}:af)with b:=b3}:af)with b:=e2}:af).a_) (({({({({({({l with n:=e}:af)with a_:=[]}:af)with b:=[]}:af)with a_:=a_}:af)with b:=b3}:af)with b:=e2}:af).b) ⟨cK hx,h⟩) (bh J))

end Go.Proofs.YtmogpgcfognefaaGreatDoor

