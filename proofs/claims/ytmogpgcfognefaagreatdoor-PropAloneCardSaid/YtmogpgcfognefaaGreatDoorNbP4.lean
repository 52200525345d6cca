/- cF of this claim: P4. -/
import Derived.Test.YtmogpgcfognefaaGreatDoorNbT
import Derived.Test.YtmogpgcfognefaaGreatDoorNbP3
set_option linter.all false
namespace Go.Proofs.YtmogpgcfognefaaGreatDoor
open Go
set_option maxRecDepth 100000

theorem I2(s:(List iA))(f:(iA→Option Bool)){R:Int}(h:fD s f=some R):bg aP 218 [fX (fT) s,(fC aP Gz lX (fun(x:iA)=>f x))] (cd R):=by
 refine bg.of Tryz.func218 J J J fun w0 S0=>aq<|zo J (fg)<|ap<|ae<|aq<|aA J<|zo J (jL s7 J)<|zo J (bj hI)<|ap<|av<|aY (k:=6) J fun hN=>bO ?_;refine aM (eC (Z:=fun ls i=>(s.drop i=ls)∧cX f ls i=some R) (Of:=fun _ i=>[]) (Gf:=fun _ i=>[(0,fX (fT) s),(1,(fC aP Gz lX (fun(x:iA)=>f x))),(7,jt s),(8,cd (i:Int))]) (fun i h=>?_) (fun e tl ih i h=>?_) s 0 ⟨J,h⟩) (bh J)
 ·obtain⟨hx,h⟩:=h
  refine au<|aq<|zo J (fM J J)<|ap<|ae<|bt (ht J) (du hx)<|bn ?_;refine ac (ac (aG ?_));refine an<|aq<|zo rfl (fg)<|ap<|am ?_;cases so h;exact aH J J
 ·obtain⟨hx,h⟩:=h
  refine au<|aq<|zo J (fM J J)<|ap<|ae<|br (ht J) (dn hx)<|eK<|ae<|av<|aq<|aA J<|bu J<|ap<|aq<|aA J<|aA J<|aA J<|zo J (j8 s7 tg J J J (dB hx)) ?_;refine zo J (bE tg J J)<|bP h fun r q_r h=>zo J (gz (args:=Gz) (res:=yi) (f:=(fun(x:iA)=>f x)) (x:=((e):iA)) (ht J) q_r ⟨(ht J),be⟩)<|ap<|dQ h J (fun h=>?_) (fun h=>?_)
  ·refine aq<|aA J<|bu J<|ap<|am ?_;refine aF (aa (aa (aF (aa ?_))));cases so h;exact aH J J
  ·refine bC<|al<|an<|ak<|zo rfl (lk (cQ hx hN) rfl)<|aA rfl<|aK ?_;exact aW (aM (ih (i+1) ⟨cP hx,h⟩) (bh J))

theorem Jj(s:(List iA))(f:(iA→Option Bool)){R:Bool}(h:dC s f=some R):bg aP 161 [fX (fT) s,(fC aP Gz lX (fun(x:iA)=>f x))] (ij R):=by
 refine bg.of Tryz.func161 J J J fun w0 S0=>aq<|zo J (fP)<|ap<|aq<|aA J<|aA J<|bP h fun r q_r h=>zo J (aO NA (I2 _ _ q_r) ⟨(ht J),(ht J),be⟩)<|zo J (ev (ht J) hI)<|bu J<|ap<|am ?_;cases so h;exact aH J J

theorem Ji(l:af)(o:iA){R:Bool}(h:ld l o=some R):bg aP 162 [tD fT o,bB (OF aN) l] (ij R):=by
 refine bg.of Tryz.func162 J J J fun w0 S0=>aq<|zo J (mp J)<|zo J (fP)<|ap<|ae ?_
 refine eN (ts:=[_,_,_,_,_,_,_,_,_,_,_,_,_,_]) mixed J J
  ⟨iD 2 J J J (bZ Er xx J J),
  ⟨cR 4 0 J J J (bE bJ J J),
  ⟨cR 5 1 J J J (fH (ht J) hI),
  ⟨cR 6 2 J J J (cN J),
  ⟨oe 2 7 3 J J J J (gG J J J J (fun hg=>bZ Er xx J J)),
  ⟨gi 8 4 7 3 J J J J (gG J J J J (fun hg=>aL bJ J J (aI J hg))),
  ⟨oe 1 7 3 J J J J (gG J J J J (fun hg=>(bE wD J J).imp (fun _ _ h=>Id.1 h))),
  ⟨gi 10 6 7 3 J J J J (gG J J J J (fun hg=>Ed (aI J hg))),
  ⟨gi 11 7 7 3 J J J J (gG J J J J (fun hg=>cB gu J lh J (aI J hg))),
  ⟨gi 12 8 7 3 J J J J (gG J J J J (fun hg=>aL bV J J (aI J hg))),
  ⟨gi 13 9 7 3 J J J J (gG J J J J (fun hg=>bI dp (aI J hg))),
  ⟨sb 9 5 14 10 7 3 J J J J J (gG J J J J (fun hg=>ev (aI J hg) (aI J hg))),
  ⟨fB 7 3 15 11 J J J J (pn J J),
  ⟨cR 16 12 J J J (yk J),
  be⟩⟩⟩⟩⟩⟩⟩⟩⟩⟩⟩⟩⟩⟩ ?_
 refine an<|am ?_;cases so h;exact aH J J

theorem M0(b:Nat)(ix:OI)(l:af){R:Bool×af}(h:jy l=some R):fQ aP 93 [tV (aD b 0)] (dm b l ix) (fun _:OI=>ij R.1) (fun j=>dm b R.2 j):=by
 refine fQ.of Tryz.func93 J J J fun w0 S0=>?_;refine(show CG _ _ _ [bx (rH aN [(1,ai (ix.h 0).1 (ix.h 0).2 l.kinds.length),(2,ai (ix.h 1).1 (ix.h 1).2 l.open_.length)]) 124 b l,gX gH 29 (ix.h 0).1 (ix.h 0).2 l.kinds,cr bU 3 (ix.h 1).1 (ix.h 1).2 l.open_] _ from ?_);refine aq<|zo J (Iv (fun _ _ h=>by rw [show _=_ from h];rfl) (ht J))<|zo J (fP)<|ap<|ae ?_
 refine oF 7 (ts:=[tV (aD b 0),tV (aD b 0),tV (aD b 0),tV (aD b 15),lW l.a_,tV (aD b 0),tV (aD b 17)]) mixed J J J
  ⟨iD 1 J J J (px wD (ht J)),
  ⟨iD 1 J J J (px wD (ht J)),
  ⟨cR 5 1 J J J (aR (ht J)),
  ⟨cR 6 2 J J J (fq 15 gu J J J),
  ⟨cR 7 3 J J J (aV (r:=rH aN [(1,ai (ix.h 0).1 (ix.h 0).2 l.kinds.length),(2,ai (ix.h 1).1 (ix.h 1).2 l.open_.length)]) (x:=l) bV J J (fy lh) (.head _) (ht J)),
  ⟨cR 4 0 J J J (aR (ht J)),
  ⟨cR 9 5 J J J (fq 17 ed J J J),
  be⟩⟩⟩⟩⟩⟩⟩ ?_
 refine lH (gS bV J (qS (hs' :=[(1,ai (ix.h 0).1 (ix.h 0).2 l.kinds.length),(2,ai (ix.h 1).1 (ix.h 1).2 l.open_.length)]) n8 ⟨.inr ⟨J,J⟩,.inr ⟨J,J⟩,be⟩ J) J (ht J) (ht J)) (fun i=>?_);refine(show RG _ _ _ _ [bx (rH aN [(1,ai (ix.h 0).1 (ix.h 0).2 l.kinds.length),(2,ai (ix.h 1).1 (ix.h 1).2 l.open_.length)]) 124 b ({l with result:=l.a_}:af),gX gH 29 (ix.h 0).1 (ix.h 0).2 l.kinds,cr bU 3 (ix.h 1).1 (ix.h 1).2 l.open_] _ from ?_);refine ap<|aq<|zo J (px wD (ht J))<|zo J (aR (ht J))<|zo J (fq 3 eX J J J)<|zo J (fq 13 qh J J J)<|zo J (aV (r:=rH aN [(1,ai (ix.h 0).1 (ix.h 0).2 l.kinds.length),(2,ai (ix.h 1).1 (ix.h 1).2 l.open_.length)]) (x:=({l with result:=l.a_}:af)) zX J J (fy (ew dS jM)) (.head _) (ht J))<|zo J ((show bS _ _ _ _ (GM aN ({l with result:=l.a_}:af) b ((fC aP Gz lX (fun(x:iA)=>(ld ({l with result:=l.a_}:af)) x))))from Aj (cts:=[bB (OF aN) ({l with result:=l.a_}:af)]) (caps:=[.tmp 1]) NV (fun S S1 a hf hle hk=>nq (DB (ht J) hf hle hk) trivial) (fun x y h=>Ji _ _ h)))<|bP h fun r q_r h=>zo J (xj (r:=rH aN [(1,ai (ix.h 0).1 (ix.h 0).2 l.kinds.length),(2,ai (ix.h 1).1 (ix.h 1).2 l.open_.length)]) (rd:=aN) (T:=124) (b:=b) (x:=({l with result:=l.a_}:af)) (y:=({l with result:=l.a_}:af)) (.head _) NW (Jj _ _ q_r) (fun _ _ _ _ h=>h.1) (fun S S1 a hf hle hk=>nq (DZ (ht J) hf hle) (nq (H9 (ht J) hf hle hk) trivial)) z7)<|bu J<|ap<|aq<|aA J<|zo J (d7 (ht J))<|aA J<|bD J J (fun hg=>px wD (ht J))<|bD J J (fun hg=>aR (aI J hg))<|bD J J (fun hg=>bA (n:=3) eX J (aI J hg) J)<|bD J J (fun hg=>bA (n:=13) qh J (aI J hg) J) ?_;refine bD J J (fun hg=>aV (r:=rH aN [(1,ai (ix.h 0).1 (ix.h 0).2 l.kinds.length),(2,ai (ix.h 1).1 (ix.h 1).2 l.open_.length)]) (x:=({l with result:=l.a_}:af)) zX J J (fy (ew dS jM)) (.head _) (aI J hg))<|bD J J (fun hg=>bI s7 (aI J hg))<|bD J J (fun hg=>jB (aI J hg) hI)<|zo J (ky J J)<|aA J<|bD J J (fun hg=>px wD (ht J))<|bD J J (fun hg=>aR (aI J hg))<|bD J J (fun hg=>bA (n:=3) eX J (aI J hg) J)<|bD J J (fun hg=>bA (n:=14) tS J (aI J hg) J)<|bD J J (fun hg=>aV (r:=rH aN [(1,ai (ix.h 0).1 (ix.h 0).2 l.kinds.length),(2,ai (ix.h 1).1 (ix.h 1).2 l.open_.length)]) (x:=({l with result:=l.a_}:af)) bJ J J (fy (ew dS nz)) (.head _) (aI J hg))<|bD J J (fun hg=>ev (aI J hg) hI)<|zo J (ky J J)<|aA J<|bD J J (fun hg=>px wD (ht J))<|bD J J (fun hg=>aR (aI J hg))<|bD J J (fun hg=>bA (n:=3) eX J (aI J hg) J)<|bD J J (fun hg=>bA (n:=14) tS J (aI J hg) J)<|bD J J (fun hg=>aV (r:=rH aN [(1,ai (ix.h 0).1 (ix.h 0).2 l.kinds.length),(2,ai (ix.h 1).1 (ix.h 1).2 l.open_.length)]) (x:=({l with result:=l.a_}:af)) bJ J J (fy (ew dS nz)) (.head _) (aI J hg))<|bD J J (fun hg=>jB (aI J hg) hI)<|zo J (ky J J)<|bu J<|ap<|am ?_;refine aJ<|aJ<|aJ ?_;cases so h;exact cZ J ix J J (fun _ _ h=>h)

theorem LF{R:(List (Int×(af→Unit→Option (Bool×af))))}(h:pw=some R):bg aP 46 [] (HU (fun y:(af→Unit→Option (Bool×af))=>lM (fun bb=>gU aP (fun(x:Unit)=>[tV (aD bb 0)]) (dm bb) lX y)) zQ R):=by
 refine bg.of Tryz.func46 J J J fun w0 S0=>aq<|zo J (aZ (show ay _ _ (.const (.map none)) (tV (.map none))from fun _ _ _=>J))<|ap<|aq<|xO (G2 (fun y:(af→Unit→Option (Bool×af))=>lM (fun bb=>gU aP (fun(x:Unit)=>[tV (aD bb 0)]) (dm bb) lX y))) zQ J fun b=>fV (γ:=(fun y:(af→Unit→Option (Bool×af))=>lM (fun bb=>gU aP (fun(x:Unit)=>[tV (aD bb 0)]) (dm bb) lX y))) (y:=(fun(mc:af) (mx:Unit)=>jz mc)) vJ (ft k7) (ht J) (nX hI) (show ay _ _ _ (lM (fun bb=>gU aP (fun(x:Unit)=>[tV (aD bb 0)]) (dm bb) lX (fun(mc:af) (mx:Unit)=>jz mc)))from(xq fun bb=>kS Pl (fun c x R h i=>Nc _ _ _ h))) fun os=>fV (γ:=(fun y:(af→Unit→Option (Bool×af))=>lM (fun bb=>gU aP (fun(x:Unit)=>[tV (aD bb 0)]) (dm bb) lX y))) (y:=(fun(mc:af) (mx:Unit)=>iH mc)) vJ (ft k7) (ht J) (nX hI) (show ay _ _ _ (lM (fun bb=>gU aP (fun(x:Unit)=>[tV (aD bb 0)]) (dm bb) lX (fun(mc:af) (mx:Unit)=>iH mc)))from(xq fun bb=>kS Pk (fun c x R h i=>Nb _ _ _ h))) fun os1=>fV (γ:=(fun y:(af→Unit→Option (Bool×af))=>lM (fun bb=>gU aP (fun(x:Unit)=>[tV (aD bb 0)]) (dm bb) lX y))) (y:=(fun(mc:af) (mx:Unit)=>jA mc)) vJ (ft k7) (ht J) (nX hI) (show ay _ _ _ (lM (fun bb=>gU aP (fun(x:Unit)=>[tV (aD bb 0)]) (dm bb) lX (fun(mc:af) (mx:Unit)=>jA mc)))from(xq fun bb=>kS Pj (fun c x R h i=>Na _ _ _ h))) fun os2=>fV (γ:=(fun y:(af→Unit→Option (Bool×af))=>lM (fun bb=>gU aP (fun(x:Unit)=>[tV (aD bb 0)]) (dm bb) lX y))) (y:=(fun(mc:af) (mx:Unit)=>ib mc)) vJ (ft k7) (ht J) (nX hI) (show ay _ _ _ (lM (fun bb=>gU aP (fun(x:Unit)=>[tV (aD bb 0)]) (dm bb) lX (fun(mc:af) (mx:Unit)=>ib mc)))from(xq fun bb=>kS Pi (fun c x R h i=>M9 _ _ _ h))) fun os3=>fV (γ:=(fun y:(af→Unit→Option (Bool×af))=>lM (fun bb=>gU aP (fun(x:Unit)=>[tV (aD bb 0)]) (dm bb) lX y))) (y:=(fun(mc:af) (mx:Unit)=>eW mc)) vJ (ft k7) (ht J) (nX hI) (show ay _ _ _ (lM (fun bb=>gU aP (fun(x:Unit)=>[tV (aD bb 0)]) (dm bb) lX (fun(mc:af) (mx:Unit)=>eW mc)))from(xq fun bb=>kS Nl (fun c x R h i=>M8 _ _ _ h))) fun os4=>fV (γ:=(fun y:(af→Unit→Option (Bool×af))=>lM (fun bb=>gU aP (fun(x:Unit)=>[tV (aD bb 0)]) (dm bb) lX y))) (y:=(fun(mc:af) (mx:Unit)=>gL mc)) vJ (ft k7) (ht J) (nX hI) (show ay _ _ _ (lM (fun bb=>gU aP (fun(x:Unit)=>[tV (aD bb 0)]) (dm bb) lX (fun(mc:af) (mx:Unit)=>gL mc)))from(xq fun bb=>kS Ph (fun c x R h i=>M6 _ _ _ h))) fun os5=>fV (γ:=(fun y:(af→Unit→Option (Bool×af))=>lM (fun bb=>gU aP (fun(x:Unit)=>[tV (aD bb 0)]) (dm bb) lX y))) (y:=(fun(mc:af) (mx:Unit)=>iI mc)) vJ (ft k7) (ht J) (nX hI) (show ay _ _ _ (lM (fun bb=>gU aP (fun(x:Unit)=>[tV (aD bb 0)]) (dm bb) lX (fun(mc:af) (mx:Unit)=>iI mc)))from(xq fun bb=>kS Pg (fun c x R h i=>M5 _ _ _ h))) fun os6=>fV (γ:=(fun y:(af→Unit→Option (Bool×af))=>lM (fun bb=>gU aP (fun(x:Unit)=>[tV (aD bb 0)]) (dm bb) lX y))) (y:=(fun(mc:af) (mx:Unit)=>iR mc)) vJ (ft k7) (ht J) (nX hI) (show ay _ _ _ (lM (fun bb=>gU aP (fun(x:Unit)=>[tV (aD bb 0)]) (dm bb) lX (fun(mc:af) (mx:Unit)=>iR mc)))from(xq fun bb=>kS Pf (fun c x R h i=>M3 _ _ _ h))) fun os7=>fV (γ:=(fun y:(af→Unit→Option (Bool×af))=>lM (fun bb=>gU aP (fun(x:Unit)=>[tV (aD bb 0)]) (dm bb) lX y))) (y:=(fun(mc:af) (mx:Unit)=>kg mc)) vJ (ft k7) (ht J) (nX hI) (show ay _ _ _ (lM (fun bb=>gU aP (fun(x:Unit)=>[tV (aD bb 0)]) (dm bb) lX (fun(mc:af) (mx:Unit)=>kg mc)))from(xq fun bb=>kS Pe (fun c x R h i=>M2 _ _ _ h))) fun os8=>fV (γ:=(fun y:(af→Unit→Option (Bool×af))=>lM (fun bb=>gU aP (fun(x:Unit)=>[tV (aD bb 0)]) (dm bb) lX y))) (y:=(fun(mc:af) (mx:Unit)=>iG mc)) vJ (ft k7) (ht J) (nX hI) (show ay _ _ _ (lM (fun bb=>gU aP (fun(x:Unit)=>[tV (aD bb 0)]) (dm bb) lX (fun(mc:af) (mx:Unit)=>iG mc)))from(xq fun bb=>kS Pd (fun c x R h i=>M1 _ _ _ h))) fun os9=>fV (γ:=(fun y:(af→Unit→Option (Bool×af))=>lM (fun bb=>gU aP (fun(x:Unit)=>[tV (aD bb 0)]) (dm bb) lX y))) (y:=(fun(mc:af) (mx:Unit)=>jy mc)) vJ (ft k7) (ht J) (nX hI) (show ay _ _ _ (lM (fun bb=>gU aP (fun(x:Unit)=>[tV (aD bb 0)]) (dm bb) lX (fun(mc:af) (mx:Unit)=>jy mc)))from(xq fun bb=>kS Pc (fun c x R h i=>M0 _ _ _ h))) fun os10=>aA J<|bu J<|ap ?_;refine am<|vD 0 J ?_;cases so h;exact aH J J

theorem Lt(op:Int){R:Int}(h:p5 op=some R):bg aP 94 [cd op] (cd R):=by
 refine bg.of Tryz.func94 J J J fun w0 S0=>aq<|zo J (fg)<|ap<|ae<|aq<|aA J<|ap<|av ?_;refine ge (Z:=fun x=>ne op x=some R) (Of:=fun x=>[]) (Gf:=fun x=>[(3,cd op),(4,ij x)]) (fun x h=>?_) (fun K=>?_)
 ·skip
  refine dQ h J (fun h=>?_) (fun h=>?_)
  ·refine aq<|zo J (fg)<|ap<|am ?_;refine aF (aa ?_);cases so h;exact aH J J
  ·refine ge (Z:=fun x1=>nd op x1=some R) (Of:=fun x1=>[]) (Gf:=fun x1=>[(3,cd op),(7,ij x1)]) (fun x1 h=>?_) (fun K1=>?_)
   ·skip
    refine dQ h J (fun h=>?_) (fun h=>?_)
    ·refine aq<|zo J (fg)<|ap<|am ?_;refine aF (aa ?_);cases so h;exact aH J J
    ·refine ge (Z:=fun x2=>gn x2=some R) (Of:=fun x2=>[]) (Gf:=fun x2=>[(10,ij x2)]) (fun x2 h=>?_) (fun K2=>?_)
     ·skip
      refine dQ h J (fun h=>?_) (fun h=>?_)
      ·refine aq<|zo J (fg)<|ap<|am ?_;refine aF (aa ?_);cases so h;exact aH J J
      ·refine bC<|al<|an<|aq<|zo rfl (fg)<|ap<|am ?_;cases so h;exact aH J J
     ·skip
      refine aq<|zo J (j6 J)<|bu J<|ap<|dQ h J (fun h=>?_) (fun h=>?_)
      ·refine bC ?_;exact cb (K2 (op==(3:Int)) h) (bh J)
      ·refine aq<|zo J (j6 J)<|bu J<|ap<|dQ h J (fun h=>?_) (fun h=>?_)
       ·refine bC ?_;exact cb (K2 (op==(4:Int)) h) (bh J)
       ·refine aq<|zo J (j6 J)<|bu J<|ap<|dQ h J (fun h=>?_) (fun h=>?_)
        ·refine bC ?_;exact cb (K2 (op==(5:Int)) h) (bh J)
        ·refine aq<|zo J (j6 J)<|bu J<|ap<|dQ h J (fun h=>?_) (fun h=>?_)
         ·refine bC ?_;exact cb (K2 (op==(6:Int)) h) (bh J)
         ·refine aq<|zo J (j6 J)<|bu J<|ap<|dQ h J (fun h=>?_) (fun h=>?_)
          ·refine bC ?_;exact cb (K2 (op==(8:Int)) h) (bh J)
          ·refine aq<|zo J (j6 J)<|bu J<|ap<|dQ h J (fun h=>?_) (fun h=>?_)
           ·refine bC ?_;exact cb (K2 (op==(10:Int)) h) (bh J)
           ·refine ak<|zo J (j6 J)<|bu J<|aK ?_;exact cb (K2 (op==(11:Int)) h) (bh J)
   ·skip
    refine aq<|zo J (j6 J)<|bu J<|ap<|dQ h J (fun h=>?_) (fun h=>?_)
    ·refine bC ?_;exact cb (K1 (op==(2:Int)) h) (bh J)
    ·refine ak<|zo J (j6 J)<|bu J<|aK ?_;exact cb (K1 (op==(7:Int)) h) (bh J)
 ·skip
  refine aq<|zo J (j6 J)<|bu J<|ap<|dQ h J (fun h=>?_) (fun h=>?_)
  ·refine bC ?_;exact cb (K (op==(1:Int)) h) (bh J)
  ·refine ak<|zo J (j6 J)<|bu J<|aK ?_;exact cb (K (op==(9:Int)) h) (bh J)

theorem Ls(n:aB){R:Bool}(h:p6 n=some R):bg aP 95 [tD aE n] (ij R):=by
 refine bg.of Tryz.func95 J J J fun w0 S0=>aq<|zo J (mp J)<|zo J (fP)<|ap<|ae ?_
 refine eN (ts:=[_,_,_,_,_,_,_,_,_,_,_,_,_,_,_,_,_,_,_,_,_,_,_]) mixed J J
  ⟨iD 1 J J J (bZ gD cK J J),
  ⟨cR 6 0 J J J (bE bJ J J),
  ⟨cR 7 1 J J J (j6 J),
  ⟨cR 8 2 J J J (cN J),
  ⟨oe 1 9 3 J J J J (gG J J J J (fun hg=>bZ gD cK J J)),
  ⟨gi 10 4 9 3 J J J J (gG J J J J (fun hg=>aL bJ J J (aI J hg))),
  ⟨gi 11 5 9 3 J J J J (gG J J J J (fun hg=>bv (aI J hg) hI)),
  ⟨fB 9 3 12 6 J J J J (pn J J),
  ⟨iD 1 J J J (bZ gD cK J J),
  ⟨cR 14 8 J J J (bE bJ J J),
  ⟨cR 15 9 J J J (j6 J),
  ⟨cR 16 10 J J J (cN J),
  ⟨oe 1 17 11 J J J J (gG J J J J (fun hg=>bZ gD cK J J)),
  ⟨gi 18 12 17 11 J J J J (gG J J J J (fun hg=>aL bJ J J (aI J hg))),
  ⟨gi 19 13 17 11 J J J J (gG J J J J (fun hg=>bv (aI J hg) hI)),
  ⟨fB 17 11 20 14 J J J J (pn J J),
  ⟨cR 21 15 J J J (cN J),
  ⟨oe 1 22 16 J J J J (gG J J J J (fun hg=>bZ gD cK J J)),
  ⟨gi 23 17 22 16 J J J J (gG J J J J (fun hg=>aL bJ J J (aI J hg))),
  ⟨gi 24 18 22 16 J J J J (gG J J J J (fun hg=>bv (aI J hg) hI)),
  ⟨fB 22 16 25 19 J J J J (pn J J),
  ⟨cR 13 7 J J J (yk J),
  ⟨cR 26 20 J J J (yk J),
  be⟩⟩⟩⟩⟩⟩⟩⟩⟩⟩⟩⟩⟩⟩⟩⟩⟩⟩⟩⟩⟩⟩⟩ ?_
 refine an<|aq<|aA rfl<|aA rfl<|cD rfl rfl (fun hg=>bZ nH gR J J)<|cD J J (fun hg=>aL bJ J J (aI J hg))<|cD J J (fun hg=>bv (aI J hg) hI)<|cD J J (fun hg=>bj (aI J hg))<|ef J J J J (fun hg=>bZ m6 gQ J J)<|ef J J J J (fun hg=>aL bV J J (aI J hg))<|ef J J J J (fun hg=>bI dp (aI J hg))<|ef J J J J (fun hg=>bv (aI J hg) hI)<|cD J J (fun hg=>kR (aI J hg) (fun hb=>(aI J (oI hg hb))))<|zo J (pn J J)<|bu J<|ap<|aq<|aA J<|aA J<|bD J J (fun hg=>bZ gD cK J J)<|bD J J (fun hg=>aL bJ J J (aI J hg)) ?_;refine bD J J (fun hg=>bv (aI J hg) hI)<|bD J J (fun hg=>bj (aI J hg))<|bW J J J J (fun hg=>bZ Lq Df J J)<|bW J J J J (fun hg=>aL GF J J (aI J hg))<|bW J J J J (fun hg=>d7 (aI J hg))<|bD J J (fun hg=>iJ (aI J hg) (fun hb=>(aI J (oI hg (mR hb)))))<|zo J (ky J J)<|aA J<|bD J J (fun hg=>bZ gD cK J J)<|bD J J (fun hg=>aL bJ J J (aI J hg))<|bD J J (fun hg=>bv (aI J hg) hI)<|bD J J (fun hg=>bj (aI J hg))<|bW J J J J (fun hg=>bZ gD cK J J)<|bW J J J J (fun hg=>aL bJ J J (aI J hg))<|bW J J J J (fun hg=>bv (aI J hg) hI)<|bD J J (fun hg=>iJ (aI J hg) (fun hb=>(aI J (oI hg (mR hb)))))<|bD J J (fun hg=>bj (aI J hg))<|bW J J J J (fun hg=>bZ sV oB J J)<|bW J J J J (fun hg=>cB fv J c9 J (aI J hg))<|bW J J J J (fun hg=>aL mo J J (aI J hg))<|bW J J J J (fun hg=>bI jv (aI J hg))<|bW J J J J (fun hg=>bv (aI J hg) hI)<|bD J J (fun hg=>iJ (aI J hg) (fun hb=>(aI J (oI hg (mR hb)))))<|zo J (ky J J) ?_;refine bu J<|ap<|aq<|aA J<|aA J<|bD J J (fun hg=>cN J)<|bD J J (fun hg=>bj (aI J hg))<|bW J J J J (fun hg=>bZ lq ff J J)<|bW J J J J (fun hg=>aL bV J J (aI J hg))<|bW J J J J (fun hg=>bI dp (aI J hg))<|bW J J J J (fun hg=>bZ kZ fI J J)<|bW J J J J (fun hg=>aL qP J J (aI J hg))<|bW J J J J (fun hg=>bI mO (aI J hg))<|bW J J J J (fun hg=>nF (aI J hg) (aI J hg))<|bW J J J J (fun hg=>bv (aI J hg) hI)<|bD J J (fun hg=>iJ (aI J hg) (fun hb=>(aI J (oI hg (mR hb)))))<|zo J (ky J J)<|aA J<|bD J J (fun hg=>bZ gD cK J J)<|bD J J (fun hg=>aL bJ J J (aI J hg))<|bD J J (fun hg=>bv (aI J hg) hI)<|bD J J (fun hg=>bj (aI J hg)) ?_;refine bW J J J J (fun hg=>bZ sU oA J J)<|bW J J J J (fun hg=>aL Bc J J (aI J hg))<|bW J J J J (fun hg=>bI qL (aI J hg))<|bW J J J J (fun hg=>bv (aI J hg) hI)<|bD J J (fun hg=>iJ (aI J hg) (fun hb=>(aI J (oI hg (mR hb)))))<|zo J (ky J J)<|bu J<|ap<|aq<|aA J<|aA J<|bD J J (fun hg=>bZ gD cK J J)<|bD J J (fun hg=>aL bJ J J (aI J hg))<|bD J J (fun hg=>bv (aI J hg) hI)<|bD J J (fun hg=>bj (aI J hg))<|bW J J J J (fun hg=>bZ qh jM J J)<|bW J J J J (fun hg=>aL zX J J (aI J hg))<|bW J J J J (fun hg=>bI s7 (aI J hg))<|bW J J J J (fun hg=>bv (aI J hg) hI)<|bW J J J J (fun hg=>bj (aI J hg))<|ef J J J J (fun hg=>bZ tS nz J J)<|ef J J J J (fun hg=>aL bJ J J (aI J hg)) ?_;refine ef J J J J (fun hg=>bv (aI J hg) hI)<|bW J J J J (fun hg=>kR (aI J hg) (fun hb=>(aI J (oI hg hb))))<|bD J J (fun hg=>iJ (aI J hg) (fun hb=>(aI J (oI hg (mR hb)))))<|zo J (ky J J)<|bu J<|ap<|am ?_;cases so h;exact aH J J

theorem Ey(s:(List Int))(v:Int){R:Int}(h:gv s v=some R):bg aP 163 [lW s,cd v] (cd R):=by
 refine bg.of Tryz.func163 J J J fun w0 S0=>aq<|zo J (fg)<|ap<|ae<|aq<|aA J<|zo J (jL dp J)<|zo J (bj hI)<|ap<|av<|aY (k:=6) J fun hN=>bO ?_;refine aM (eC (Z:=fun ls i=>(s.drop i=ls)∧fi v ls i=some R) (Of:=fun _ i=>[]) (Gf:=fun _ i=>[(0,lW s),(1,cd v),(7,jt s),(8,cd (i:Int))]) (fun i h=>?_) (fun e tl ih i h=>?_) s 0 ⟨J,h⟩) (bh J)
 ·obtain⟨hx,h⟩:=h
  refine au<|aq<|zo J (fM J J)<|ap<|ae<|bt (ht J) (du hx)<|bn ?_;refine ac (ac (aG ?_));refine an<|aq<|zo rfl (fg)<|ap<|am ?_;cases so h;exact aH J J
 ·obtain⟨hx,h⟩:=h
  refine au<|aq<|zo J (fM J J)<|ap<|ae<|br (ht J) (dn hx)<|eK<|ae<|av<|aq<|aA J<|bu J<|ap<|aq<|aA J<|aA J<|aA J<|zo J (j8 dp bJ J J J (dB hx)) ?_;refine zo J (bE bJ J J)<|zo J (bv (ht J) (ht J))<|ap<|dQ h J (fun h=>?_) (fun h=>?_)
  ·refine aq<|aA J<|bu J<|ap<|am ?_;refine aF (aa (aa (aF (aa ?_))));cases so h;exact aH J J
  ·refine bC<|al<|an<|ak<|zo rfl (lk (cQ hx hN) rfl)<|aA rfl<|aK ?_;exact aW (aM (ih (i+1) ⟨cP hx,h⟩) (bh J))

theorem Dm(s:(List Int))(v:Int){R:Bool}(h:c8 s v=some R):bg aP 96 [lW s,cd v] (ij R):=by
 refine bg.of Tryz.func96 J J J fun w0 S0=>aq<|zo J (fP)<|ap<|aq<|aA J<|aA J<|bP h fun r q_r h=>zo J (aO Kt (Ey _ _ q_r) ⟨(ht J),(ht J),be⟩)<|zo J (ev (ht J) hI)<|bu J<|ap<|am ?_;cases so h;exact aH J J

theorem Ng(b:Nat)(ix:OI)(l:af)(i:Int)(ask:(af→Unit→Option (Bool×af))){R:Bool×af}(h:kf l i ask=some R):fQ aP 47 [tV (aD b 0),cd i,lM (fun bb=>gU aP (fun(x:Unit)=>[tV (aD bb 0)]) (dm bb) lX ask)] (dm b l ix) (fun _:OI=>ij R.1) (fun j=>dm b R.2 j):=by
 refine fQ.of Tryz.func47 J J J fun w0 S0=>?_;refine(show CG _ _ _ [bx (rH aN [(1,ai (ix.h 0).1 (ix.h 0).2 l.kinds.length),(2,ai (ix.h 1).1 (ix.h 1).2 l.open_.length)]) 124 b l,gX gH 29 (ix.h 0).1 (ix.h 0).2 l.kinds,cr bU 3 (ix.h 1).1 (ix.h 1).2 l.open_] _ from ?_);refine aq<|zo J (fP)<|ap<|aq<|aA J<|zo J (aR (ht J))<|zo J (fq 0 Az J J J)<|zo J (aV (r:=rH aN [(1,ai (ix.h 0).1 (ix.h 0).2 l.kinds.length),(2,ai (ix.h 1).1 (ix.h 1).2 l.open_.length)]) (x:=l) rX J J (fy uU) (.head _) (ht J))<|aA J<|bP h fun e q_e h=>zo J (j8 la d3 J J J q_e)<|zo J (bE d3 J J)<|aX (r:=aE) (x:=AW) d3 (fun _=>fh _) J fun b1=>aC d3 J ax J (ht J) (ht J)<|aT 7 J<|ap<|aq<|zo J (bZ gD cK J J)<|zo J (bE bJ J J) ?_;refine bP h fun r q_r h=>zo J (aO Pb (Lt _ q_r) ⟨(ht J),be⟩)<|bu J<|ap<|ae<|aq<|aA J<|zo J (fH (ht J) hI)<|aA J<|cD J J (fun hg=>cN J)<|cD J J (fun hg=>cN J)<|cD J J (fun hg=>aR (aI J hg))<|cD J J (fun hg=>bA (n:=2) nY J (aI J hg) J)<|cD J J (fun hg=>kT bV J (.head _) (aI J hg))<|cD J J (fun hg=>em dp (.tail _ (.tail _ (.head _))) (aI J hg))<|cD J J (fun hg=>iu (aI J hg) (aI J hg))<|zo J (pn J J)<|aA J<|bP h fun t q_t h=>cD J J (fun hg=>bE d3 J J) ?_
 obtain⟨r1,h1t,h0t⟩:=og q_t
 have q_r1g:=fun hb=>(h1t hb).1
 refine cD J J (fun hg=>aO Pa (Ls _ (q_r1g hg)) ⟨(aI J hg),be⟩)<|cD J J (fun hg=>d7 (aI J hg))<|zo J (eH (ht J) (fun hb=>(aI J (mR hb))) (fun hb=>(h1t hb).2) h0t)<|ap<|nl (ht J) (fun hc=>?_) (fun hc=>?_)
 ·have h:=ct h hc;refine aq<|zo J (fP)<|ap<|am<|aa<|aJ<|aJ<|aJ ?_;cases so h;exact cZ J ix J J (fun _ _ h=>h)
 ·have h:=cf h hc;refine eK<|aq<|zo J (n9 (r:=bU) (ys:=[nO,nO]) (xs:=[.const (.int .i64 (-1)),.const (.int .i64 (-1))]) wr bJ J vQ J J ⟨hI,hI,be⟩)<|aX (r:=yh) (x:=(List.replicate 2 (0:Int))) vQ (fun _=>B6 (r:=bU) 2 (fun _=>J) _) J fun b2=>aC vQ J ax J (ht J) (ht J)<|ap<|ae<|bP h fun y q_y h=>?_
  refine oF 13 (ts:=[tV (.slice (some ⟨b2,0,none⟩) 2 2),tV (aD b 0),tV (aD b 0),tV (aD b 2),n6 (ix.h 1).1 (ix.h 1).2 l.open_,tV (aD b 0),tV (aD b 0),tV (aD b 2),n6 (ix.h 1).1 (ix.h 1).2 l.open_,jt l.open_,cd r,cd (IntKind.i64.wrap ((l.open_.length:Int)-r)),tV (kz 1 (ix.h 1).1 (ix.h 1).2 (IntKind.i64.wrap ((l.open_.length:Int)-r)).toNat y.length)]) mixed J J J
   ⟨iD 9 J J J (Bv wr (Ia bJ) (ht J)),
   ⟨iD 0 J J J (cN J),
   ⟨cR 42 1 J J J (aR (ht J)),
   ⟨cR 43 2 J J J (fq 2 nY J J J),
   ⟨cR 44 3 J J J (kT bV J (.tail _ (.head _)) (ht J)),
   ⟨iD 0 J J J (cN J),
   ⟨cR 46 5 J J J (aR (ht J)),
   ⟨cR 47 6 J J J (fq 2 nY J J J),
   ⟨cR 48 7 J J J (kT bV J (.tail _ (.head _)) (ht J)),
   ⟨cR 49 8 J J J (em dp (.tail _ (.tail _ (.tail _ (.head _)))) (ht J)),
   ⟨iD 8 J J J (cN J),
   ⟨fB 50 9 51 10 J J J J (gy (ht J) (ht J)),
   ⟨fB 45 4 52 11 J J J J (md dp bJ J (.tail _ (.tail _ (.tail _ (.head _)))) (ht J) (ht J) q_y),
   be⟩⟩⟩⟩⟩⟩⟩⟩⟩⟩⟩⟩⟩ ?_
  refine mH (.tail _ (.tail _ (.tail _ (.head _)))) q_y fun hv=>xP (AF (.tail _ (.tail _ (.tail _ (.head _)))) q_y dp (D1 bJ) (ht J) (ht J)) J fun i1=>?_;refine(show RG _ _ _ _ [bx yh 61 b2 (pF Gx y),bx (rH aN [(1,ai (ix.h 0).1 (ix.h 0).2 l.kinds.length),(2,ai (ix.h 1).1 (ix.h 1).2 l.open_.length)]) 124 b l,gX gH 29 (ix.h 0).1 (ix.h 0).2 l.kinds,cr bU 3 (ix.h 1).1 (ix.h 1).2 l.open_] ((54,cd ((min y.length 2:Nat):Int))::_)from ?_);refine ap<|ae<|aq<|zo J (aV vQ J J cV (.head _) (ht J))<|zo J (bZ rb kY J J)<|zo J (bE bJ J J)<|zo J (bZ uW m4 J J)<|zo J (bE bJ J J)<|zo J (n9 (r:=bU) (ys:=[e.A,e.B]) (xs:=[.tmp 57,.tmp 59]) wr bJ J vQ J J ⟨(ht J),(ht J),be⟩)<|zo J (wb JK (ht J) (ht J))<|ap<|nl (ht J) (fun hc=>?_) (fun hc=>?_)
  ·have h:=ct h hc;refine aq<|zo J (fP)<|ap<|am<|aa<|bw<|aJ<|aJ<|aJ ?_;cases so h;exact cZ J ix J J (fun _ _ h=>h)
  ·have h:=cf h hc;refine eK<|aq<|aA J<|aA J<|aA J<|zo J (bE d3 J J)<|zo J (aR (ht J))<|zo J (fq 3 eX J J J)<|lH (EffOK.fr1 (gS d3 J (qS (hs' :=[(1,ai (ix.h 0).1 (ix.h 0).2 l.kinds.length),(2,ai (ix.h 1).1 (ix.h 1).2 l.open_.length)]) Fo ⟨.inr ⟨J,J⟩,.inr ⟨J,J⟩,be⟩ J) J (ht J) (ht J))) fun i2=>?_;refine(show RG _ _ _ _ [bx (rH aN [(1,ai (ix.h 0).1 (ix.h 0).2 l.kinds.length),(2,ai (ix.h 1).1 (ix.h 1).2 l.open_.length)]) 124 b ({l with n:=e}:af),bx yh 61 b2 (pF Gx y),gX gH 29 (ix.h 0).1 (ix.h 0).2 l.kinds,cr bU 3 (ix.h 1).1 (ix.h 1).2 l.open_] _ from ?_);refine zo J (aR (ht J))<|zo J (fq 15 gu J J J)<|lH (gS bV J (qS (hs' :=[(1,ai (ix.h 0).1 (ix.h 0).2 l.kinds.length),(2,ai (ix.h 1).1 (ix.h 1).2 l.open_.length)]) yT ⟨.inr ⟨J,J⟩,.inr ⟨J,J⟩,be⟩ J) J (ht J) uR) fun i3=>?_;refine(show RG _ _ _ _ [bx (rH aN [(1,ai (ix.h 0).1 (ix.h 0).2 l.kinds.length),(2,ai (ix.h 1).1 (ix.h 1).2 l.open_.length)]) 124 b ({({l with n:=e}:af)with a_:=[]}:af),bx yh 61 b2 (pF Gx y),gX gH 29 (ix.h 0).1 (ix.h 0).2 l.kinds,cr bU 3 (ix.h 1).1 (ix.h 1).2 l.open_] _ from ?_);refine zo J (aR (ht J))<|zo J (fq 16 tY J J J)<|lH (gS bV J (qS (hs' :=[(1,ai (ix.h 0).1 (ix.h 0).2 l.kinds.length),(2,ai (ix.h 1).1 (ix.h 1).2 l.open_.length)]) yS ⟨.inr ⟨J,J⟩,.inr ⟨J,J⟩,be⟩ J) J (ht J) uR) fun i4=>?_;refine(show RG _ _ _ _ [bx (rH aN [(1,ai (ix.h 0).1 (ix.h 0).2 l.kinds.length),(2,ai (ix.h 1).1 (ix.h 1).2 l.open_.length)]) 124 b ({({({l with n:=e}:af)with a_:=[]}:af)with b:=[]}:af),bx yh 61 b2 (pF Gx y),gX gH 29 (ix.h 0).1 (ix.h 0).2 l.kinds,cr bU 3 (ix.h 1).1 (ix.h 1).2 l.open_] _ from ?_);refine ap<|ae<|ae<|bP h fun y1 q_y1 h=>?_
   refine eN (ts:=[_,_,_,_,_,_,_,_,_,_,_,_,_,_]) mixed J J
    ⟨iD 0 J J J (cN J),
    ⟨cR 72 0 J J J (aR (ht J)),
    ⟨cR 73 1 J J J (fq 2 nY J J J),
    ⟨cR 74 2 J J J (kT bV J (.head _) (ht J)),
    ⟨iD 0 J J J (cN J),
    ⟨cR 76 4 J J J (aR (ht J)),
    ⟨cR 77 5 J J J (fq 2 nY J J J),
    ⟨cR 78 6 J J J (kT bV J (.head _) (ht J)),
    ⟨cR 79 7 J J J (em dp (.tail _ (.tail _ (.tail _ (.head _)))) (ht J)),
    ⟨iD 8 J J J (cN J),
    ⟨fB 80 8 81 9 J J J J (gy (ht J) (ht J)),
    ⟨fB 75 3 82 10 J J J J (md dp bJ J (.tail _ (.tail _ (.tail _ (.head _)))) (ht J) (ht J) q_y1),
    ⟨cR 83 11 J J J (Ef dp (.tail _ (.tail _ (.tail _ (.head _)))) q_y1 (ht J)),
    ⟨zd0 J J (bj hI),
    be⟩⟩⟩⟩⟩⟩⟩⟩⟩⟩⟩⟩⟩⟩ ?_
   refine an<|av<|AS (.tail _ (.tail _ (.tail _ (.head _)))) q_y1 fun hv1=>?_
   have hN:=hv1.2
   refine bO<|dV<|nk ?_;refine aM (oE (Z:=fun ls i5 a_ b3=>(y1.drop i5=ls)∧bX l i ask e r ls i5 a_ b3=some R) (Of:=fun _ i5 a_ b3=>[bx (rH aN [(1,ai (ix.h 0).1 (ix.h 0).2 l.kinds.length),(2,ai (ix.h 1).1 (ix.h 1).2 l.open_.length)]) 124 b ({({({({({l with n:=e}:af)with a_:=[]}:af)with b:=[]}:af)with a_:=a_}:af)with b:=b3}:af),gX gH 29 (ix.h 0).1 (ix.h 0).2 l.kinds,cr bU 3 (ix.h 1).1 (ix.h 1).2 l.open_]) (Gf:=fun _ i5 a_ b3=>[(0,tV (aD b 0)),(1,cd i),(2,lM (fun bb=>gU aP (fun(x:Unit)=>[tV (aD bb 0)]) (dm bb) lX ask)),(7,bB aE e),(8,cd r),(83,tV (kz 1 (ix.h 1).1 (ix.h 1).2 (IntKind.i64.wrap ((l.open_.length:Int)-r)).toNat y1.length)),(84,jt y1),(85,cd (i5:Int))]) (fun i5 a_ b3 h=>?_) (fun e1 tl ih i5 a_ b3 h=>?_) y1 0 (({({({l with n:=e}:af)with a_:=[]}:af)with b:=[]}:af).a_) (({({({l with n:=e}:af)with a_:=[]}:af)with b:=[]}:af).b) ⟨J,h⟩) (bh J)
   ·obtain⟨hx,h⟩:=h
    refine au<|aq<|zo J (fM J J)<|ap<|ae<|bt (ht J) (du hx)<|bn ?_;refine ac (ac (aG ?_));refine an<|aq<|zo rfl (bZ gD cK rfl rfl)<|zo rfl (bE bJ rfl rfl)<|zo rfl (j6 rfl)<|aA rfl<|cD rfl rfl (fun hg=>bZ gD cK J J)<|cD J J (fun hg=>aL bJ J J (aI J hg))<|cD J J (fun hg=>bv (aI J hg) hI)<|zo J (pn J J)<|bu J<|ap<|ae<|aq<|aA J<|aA J<|bD J J (fun hg=>cN J)<|bD J J (fun hg=>cN J)<|bD J J (fun hg=>aR (aI J hg))<|bD J J (fun hg=>bA (n:=0) Az J (aI J hg) J)<|bD J J (fun hg=>aV (r:=rH aN [(1,ai (ix.h 0).1 (ix.h 0).2 l.kinds.length),(2,ai (ix.h 1).1 (ix.h 1).2 l.open_.length)]) (x:=({({({({({l with n:=e}:af)with a_:=[]}:af)with b:=[]}:af)with a_:=a_}:af)with b:=b3}:af)) rX J J (fy uU) (.head _) (aI J hg)) ?_;refine bD J J (fun hg=>bI la (aI J hg))<|bD J J (fun hg=>gy (aI J hg) hI)<|bD J J (fun hg=>dd (aI J hg) (aI J hg))<|zo J (ky J J)<|aA J ?_;refine Cd (((e.Op==(8:Int))||(e.Op==(10:Int)))&&(i !=(IntKind.i64.wrap (((({({({({({l with n:=e}:af)with a_:=[]}:af)with b:=[]}:af)with a_:=a_}:af)with b:=b3}:af).nodes).length:Int)-(1:Int))))) (fun hg=>?_) (fun hg=>?_)
    ·have h:=ct h hg;refine lV J J J hg J<|lV J J J hg J<|lV J J J hg J<|lV J J J hg J<|zo J (uP (ht J) hg OV)<|aA J<|lV J J J J J<|lV J J J J J<|lV J J J J J<|lV J J J J J<|lV J J J J J<|lV J J J J J<|zo J (uP (ht J) J OV)<|ap<|nl (ht J) (fun hc=>?_) (fun hc=>?_)
     ·refine aq<|zo J (fP)<|ap<|am<|aa<|aJ<|aJ<|aJ ?_;cases so h;exact cZ J ix J J (fun _ _ h=>h)
     ·cases hc
    ·have h:=cf h hg;refine ug J J J hg<|aA J<|ug J J J hg<|aA J<|ug J J J hg<|bP h fun r2 q_r2 h=>xP (EffOK.fr2 (EffOK.fr2 (EffOK.fr2 (AG (args:=(fun(x:Unit)=>[tV (aD b 0)])) (Ob:=dm b) (res:=lX) (f:=ask) (x:=({({({({({l with n:=e}:af)with a_:=[]}:af)with b:=[]}:af)with a_:=a_}:af)with b:=b3}:af)) (y:=(():Unit)) (R:=r2) (i:=ix) (xs:=[.tmp 136]) _ J (MO (t:=(fun bb=>gU aP (fun(x:Unit)=>[tV (aD bb 0)]) (dm bb) lX ask)) b (ht J)) q_r2 ⟨(ht J),be⟩ (fun _=>J))))) J fun i6=>?_;refine(show RG _ _ _ _ [bx (rH aN [(1,ai (i6.h 0).1 (i6.h 0).2 r2.2.kinds.length),(2,ai (i6.h 1).1 (i6.h 1).2 r2.2.open_.length)]) 124 b r2.2,gX gH 29 (i6.h 0).1 (i6.h 0).2 r2.2.kinds,cr bU 3 (i6.h 1).1 (i6.h 1).2 r2.2.open_] ((137,ij r2.1)::_)from ?_);refine ug J J J hg<|zo J (d7 (ht J))<|zo J (yY (ht J) hg (ht J))<|aA J<|cD J J (fun hg=>cN J)<|cD J J (fun hg=>aR (aI J hg))<|cD J J (fun hg=>bA (n:=17) ed J (aI J hg) J)<|cD J J (fun hg=>aV (r:=rH aN [(1,ai (i6.h 0).1 (i6.h 0).2 r2.2.kinds.length),(2,ai (i6.h 1).1 (i6.h 1).2 r2.2.open_.length)]) (x:=r2.2) bV J J (fy uT) (.head _) (aI J hg))<|cD J J (fun hg=>bI dp (aI J hg))<|cD J J (fun hg=>iu (aI J hg) hI)<|zo J (pn J J)<|ap<|dQ h J (fun h=>?_) (fun h=>?_)
     ·refine aq<|zo J (fP)<|ap<|am<|aa<|aJ<|aJ<|aJ ?_;cases so h;exact cZ J i6 J J (fun _ _ h=>h)
     ·refine eK<|ae<|bP h fun l1 q_l1 h=>bP h fun y2 q_y2 h=>bP h fun l2 q_l2 h=>?_
      refine nB 30 [tc (tV (aD b 0)),tc (tV (aD b 0)),tc (tV (aD b 0)),tc (tV (aD b 0)),tc (tV (aD b 1)),tc (tO gH (i6.h 0).1 (i6.h 0).2 r2.2.kinds),tc (tV (aD b 0)),tc (tV (aD b 0)),tc (tV (aD b 17)),tc (lW r2.2.result),tc (fX (gH) ([r2.2.result])),([11],fun s=>tO gH ((s.getD 0 sa).h 0).1 ((s.getD 0 sa).h 0).2 l1),tc (tV (aD b 0)),tc (tV (aD b 0)),tc (tV (aD b 2)),tc (n6 (i6.h 1).1 (i6.h 1).2 r2.2.open_),tc (tV (aD b 0)),tc (tV (aD b 0)),tc (tV (aD b 2)),tc (n6 (i6.h 1).1 (i6.h 1).2 r2.2.open_),tc (jt r2.2.open_),tc (cd r),tc (cd (IntKind.i64.wrap ((r2.2.open_.length:Int)-r))),tc (n6 (i6.h 1).1 (i6.h 1).2 y2),tc (cd i),tc (lW ([i])),([26],fun s=>tV (ai ((s.getD 0 sa).h 0).1 ((s.getD 0 sa).h 0).2 l2.length)),tc (tV (aD b 0)),tc (tV (aD b 1)),tc (wE)] [false,false,false,false,false,false,false,false,false,false,false,true,false,false,false,false,false,false,false,false,false,false,false,false,false,false,true,false,false,true] [fun _=>[bx (rH aN [(1,ai (i6.h 0).1 (i6.h 0).2 r2.2.kinds.length),(2,ai (i6.h 1).1 (i6.h 1).2 r2.2.open_.length)]) 124 b r2.2,gX gH 29 (i6.h 0).1 (i6.h 0).2 r2.2.kinds,cr bU 3 (i6.h 1).1 (i6.h 1).2 r2.2.open_],fun sg=>[gX gH 29 ((sg 11).h 0).1 ((sg 11).h 0).2 l1,bx (rH aN [(1,ai (i6.h 0).1 (i6.h 0).2 r2.2.kinds.length),(2,ai (i6.h 1).1 (i6.h 1).2 r2.2.open_.length)]) 124 b r2.2,cr bU 3 (i6.h 1).1 (i6.h 1).2 r2.2.open_],fun sg=>[cr bU 3 ((sg 26).h 0).1 ((sg 26).h 0).2 l2,gX gH 29 ((sg 11).h 0).1 ((sg 11).h 0).2 l1,bx (rH aN [(1,ai (i6.h 0).1 (i6.h 0).2 r2.2.kinds.length),(2,ai (i6.h 1).1 (i6.h 1).2 r2.2.open_.length)]) 124 b r2.2],fun sg=>[bx (rH aN [(1,ai ((sg 11).h 0).1 ((sg 11).h 0).2 l1.length),(2,ai (i6.h 1).1 (i6.h 1).2 r2.2.open_.length)]) 124 b ({r2.2 with kinds:=l1}:af),cr bU 3 ((sg 26).h 0).1 ((sg 26).h 0).2 l2,gX gH 29 ((sg 11).h 0).1 ((sg 11).h 0).2 l1]] J mixed J J J J J
       ⟨⟨[⟨0,fun _=>tV (aD b 0),none⟩],_,0,2,J,⟨(fun _=>J),be⟩,J,J,J,J,J,fun _ sg _ _=>ah J (cN J)⟩,
       ⟨⟨[⟨0,fun _=>tV (aD b 0),none⟩],_,0,3,J,⟨(fun _=>J),be⟩,J,J,J,J,J,fun _ sg _ _=>ah J (cN J)⟩,
       ⟨⟨[⟨0,fun _=>tV (aD b 0),none⟩],_,0,0,J,⟨(fun _=>J),be⟩,J,J,J,J,J,fun _ sg _ _=>ah J (cN J)⟩,
       ⟨⟨[⟨150,fun _=>tV (aD b 0),some 2⟩],_,0,0,J,⟨(fun _=>J),be⟩,J,J,J,J,J,fun _ sg _ _=>ah J (aR (ht J))⟩,
       ⟨⟨[⟨151,fun _=>tV (aD b 0),some 3⟩],_,0,0,J,⟨(fun _=>J),be⟩,J,J,J,J,J,fun _ sg _ _=>ah J (fq 1 wi J J J)⟩,
       ⟨⟨[⟨152,fun _=>tV (aD b 1),some 4⟩],_,0,0,J,⟨(fun _=>J),be⟩,J,J,J,J,J,oG (fun sg=>ah J (xg yn J (.head _) (.tail _ (.head _)) (ht J)))⟩,
       ⟨⟨[⟨0,fun _=>tV (aD b 0),none⟩],_,0,0,J,⟨(fun _=>J),be⟩,J,J,J,J,J,fun _ sg _ _=>ah J (cN J)⟩,
       ⟨⟨[⟨154,fun _=>tV (aD b 0),some 6⟩],_,0,0,J,⟨(fun _=>J),be⟩,J,J,J,J,J,fun _ sg _ _=>ah J (aR (ht J))⟩,
       ⟨⟨[⟨155,fun _=>tV (aD b 0),some 7⟩],_,0,0,J,⟨(fun _=>J),be⟩,J,J,J,J,J,fun _ sg _ _=>ah J (fq 17 ed J J J)⟩,
       ⟨⟨[⟨156,fun _=>tV (aD b 17),some 8⟩],_,0,0,J,⟨(fun _=>J),be⟩,J,J,J,J,J,oG (fun sg=>ah J (aV (r:=rH aN [(1,ai (i6.h 0).1 (i6.h 0).2 r2.2.kinds.length),(2,ai (i6.h 1).1 (i6.h 1).2 r2.2.open_.length)]) (x:=r2.2) bV J J (fy uT) (.head _) (ht J)))⟩,
       ⟨⟨[⟨157,fun _=>tD pP r2.2.result,some 9⟩],_,0,0,J,⟨(fun _=>J),be⟩,J,J,J,J,J,fun _ sg _ _=>ah J (bF (r:=pP) (ys:=[r2.2.result]) (xs:=[.tmp 157]) qK bV J J J J J ⟨(ht J),be⟩)⟩,
       ⟨⟨[⟨153,fun _=>tO pP (i6.h 0).1 (i6.h 0).2 r2.2.kinds,some 5⟩,⟨158,fun _=>tD (dL pP) ([r2.2.result]),some 10⟩],_,J,⟨(fun _=>J),(fun _=>J),be⟩,J,J,J,fun sg=>eJ J (EffOK.fr1 (BW bV J J J J qK J (ht J) (ht J) q_l1))⟩,
       ⟨⟨[⟨0,fun _=>tV (aD b 0),none⟩],_,0,1,J,⟨(fun _=>J),be⟩,J,J,J,J,J,fun _ sg _ _=>ah J (cN J)⟩,
       ⟨⟨[⟨160,fun _=>tV (aD b 0),some 12⟩],_,0,1,J,⟨(fun _=>J),be⟩,J,J,J,J,J,fun _ sg _ _=>ah J (aR (ht J))⟩,
       ⟨⟨[⟨161,fun _=>tV (aD b 0),some 13⟩],_,0,1,J,⟨(fun _=>J),be⟩,J,J,J,J,J,fun _ sg _ _=>ah J (fq 2 nY J J J)⟩,
       ⟨⟨[⟨162,fun _=>tV (aD b 2),some 14⟩],_,0,1,J,⟨(fun _=>J),be⟩,J,J,J,J,J,yl (fun sg=>ah J (kT bV J (.head _) (ht J))) (oG (fun sg=>ah J (kT bV J (.tail _ (.head _)) (ht J))))⟩,
       ⟨⟨[⟨0,fun _=>tV (aD b 0),none⟩],_,0,1,J,⟨(fun _=>J),be⟩,J,J,J,J,J,fun _ sg _ _=>ah J (cN J)⟩,
       ⟨⟨[⟨164,fun _=>tV (aD b 0),some 16⟩],_,0,1,J,⟨(fun _=>J),be⟩,J,J,J,J,J,fun _ sg _ _=>ah J (aR (ht J))⟩,
       ⟨⟨[⟨165,fun _=>tV (aD b 0),some 17⟩],_,0,1,J,⟨(fun _=>J),be⟩,J,J,J,J,J,fun _ sg _ _=>ah J (fq 2 nY J J J)⟩,
       ⟨⟨[⟨166,fun _=>tV (aD b 2),some 18⟩],_,0,1,J,⟨(fun _=>J),be⟩,J,J,J,J,J,yl (fun sg=>ah J (kT bV J (.head _) (ht J))) (oG (fun sg=>ah J (kT bV J (.tail _ (.head _)) (ht J))))⟩,
       ⟨⟨[⟨167,fun _=>tV (ai (i6.h 1).1 (i6.h 1).2 r2.2.open_.length),some 19⟩],_,0,1,J,⟨(fun _=>J),be⟩,J,J,J,J,J,yl (fun sg=>ah J (em dp (.tail _ (.tail _ (.head _))) (ht J))) (oG (fun sg=>ah J (em dp (.tail _ (.tail _ (.head _))) (ht J))))⟩,
       ⟨⟨[⟨8,fun _=>tD bU r,none⟩],_,0,1,J,⟨(fun _=>J),be⟩,J,J,J,J,J,fun _ sg _ _=>ah J (cN J)⟩,
       ⟨⟨[⟨168,fun _=>tD bU (r2.2.open_.length:Int),some 20⟩,⟨169,fun _=>tD bU r,some 21⟩],_,0,1,J,⟨(fun _=>J),(fun _=>J),be⟩,J,J,J,J,J,fun _ sg _ _=>ah J (gy (ht J) (ht J))⟩,
       ⟨⟨[⟨163,fun _=>tV (ai (i6.h 1).1 (i6.h 1).2 r2.2.open_.length),some 15⟩,⟨170,fun _=>tD bU (IntKind.i64.wrap ((r2.2.open_.length:Int)-r)),some 22⟩],_,0,1,J,⟨(fun _=>J),(fun _=>J),be⟩,J,J,J,J,J,yl (fun sg=>ah J (kP dp bJ J (.tail _ (.tail _ (.head _))) (ht J) (ht J) q_y2)) (oG (fun sg=>ah J (kP dp bJ J (.tail _ (.tail _ (.head _))) (ht J) (ht J) q_y2)))⟩,
       ⟨⟨[⟨1,fun _=>tD bU i,none⟩],_,0,1,J,⟨(fun _=>J),be⟩,J,J,J,J,J,fun _ sg _ _=>ah J (cN J)⟩,
       ⟨⟨[⟨172,fun _=>tD bU i,some 24⟩],_,0,1,J,⟨(fun _=>J),be⟩,J,J,J,J,J,fun _ sg _ _=>ah J (bF (r:=bU) (ys:=[i]) (xs:=[.tmp 172]) dp bJ J J J J J ⟨(ht J),be⟩)⟩,
       ⟨⟨[⟨171,fun _=>tV (ai (i6.h 1).1 (i6.h 1).2 y2.length),some 23⟩,⟨173,fun _=>tD pP ([i]),some 25⟩],_,J,⟨(fun _=>J),(fun _=>J),be⟩,J,J,J,fun sg=>eJ J (EffOK.fr2 (DK q_y2 (ri bJ J J J J dp J (ht J) (ht J) q_l2)))⟩,
       ⟨⟨[⟨148,fun _=>tV (aD b 0),some 0⟩],_,2,2,J,⟨(fun _=>J),be⟩,J,J,J,J,J,fun _ sg _ _=>ah J (aR (ht J))⟩,
       ⟨⟨[⟨175,fun _=>tV (aD b 0),some 27⟩],_,2,2,J,⟨(fun _=>J),be⟩,J,J,J,J,J,fun _ sg _ _=>ah J (fq 1 wi J J J)⟩,
       ⟨⟨[⟨176,fun _=>tV (aD b 1),some 28⟩,⟨159,fun sg=>tO pP ((sg 11).h 0).1 ((sg 11).h 0).2 l1,some 11⟩],_,J,⟨(fun _=>J),(fun _=>J),be⟩,J,J,J,fun sg=>eJ J (EffOK.fr2 (xG (hs' :=[(1,ai ((sg 11).h 0).1 ((sg 11).h 0).2 l1.length),(2,ai (i6.h 1).1 (i6.h 1).2 r2.2.open_.length)]) (u:=ai ((sg 11).h 0).1 ((sg 11).h 0).2 l1.length) yn J J Fq J ⟨.inl ⟨J,J,J⟩,.inr ⟨J,J⟩,be⟩ (ht J) (uC (ht J)) (Ie (ht J))))⟩,
       be⟩⟩⟩⟩⟩⟩⟩⟩⟩⟩⟩⟩⟩⟩⟩⟩⟩⟩⟩⟩⟩⟩⟩⟩⟩⟩⟩⟩⟩⟩ (fun sg=>?_)
      refine(show RG _ _ _ _ [bx (rH aN [(1,ai ((sg 11).h 0).1 ((sg 11).h 0).2 l1.length),(2,ai (i6.h 1).1 (i6.h 1).2 r2.2.open_.length)]) 124 b ({r2.2 with kinds:=l1}:af),cr bU 3 ((sg 26).h 0).1 ((sg 26).h 0).2 l2,gX gH 29 ((sg 11).h 0).1 ((sg 11).h 0).2 l1] _ from ?_);refine zo J (aR (ht J))<|zo J (fq 2 nY J J J)<|lH (xG (hs' :=[(1,ai ((sg 11).h 0).1 ((sg 11).h 0).2 l1.length),(2,ai ((sg 26).h 0).1 ((sg 26).h 0).2 l2.length)]) (u:=ai ((sg 26).h 0).1 ((sg 26).h 0).2 l2.length) bV J J Fp J ⟨.inr ⟨J,J⟩,.inl ⟨J,J,J⟩,be⟩ (ht J) (OW (y:=l2) (ht J) GV) (ht J)) fun i7=>?_;refine(show RG _ _ _ _ [bx (rH aN [(1,ai ((sg 11).h 0).1 ((sg 11).h 0).2 l1.length),(2,ai ((sg 26).h 0).1 ((sg 26).h 0).2 l2.length)]) 124 b ({({r2.2 with kinds:=l1}:af)with open_:=l2}:af),cr bU 3 ((sg 26).h 0).1 ((sg 26).h 0).2 l2,gX gH 29 ((sg 11).h 0).1 ((sg 11).h 0).2 l1] _ from ?_);refine ap<|aq<|zo J (fP)<|ap<|am<|bf<|aJ<|aJ ?_;cases so h;exact cZ J (FJ [(((sg 11).h 0).1,((sg 11).h 0).2),(((sg 26).h 0).1,((sg 26).h 0).2)]) J J (fun _ _ h=>h)
   ·obtain⟨hx,h⟩:=h
    refine au<|aq<|zo J (fM J J)<|ap<|ae<|br (ht J) (dn hx)<|eK<|ae<|av<|aq<|aA J<|zo J (sl dp bJ J (.tail _ (.tail _ (.head _))) q_y1 (ht J) (ht J) (dB hx))<|zo J (dR (r:=bU) (i:=((IntKind.i64.wrap ((l.open_.length:Int)-r))+(i5:Int))) (foff:=0) bJ J J cV J (.tail _ (.tail _ (.head _))) (sK q_y1 (dB hx)).1 (ht J))<|bu J<|bu J<|ap<|aq<|aA J ?_;refine zo J (aR (ht J))<|zo J (fq 1 wi J J J)<|zo J (xg yn J (.head _) (.tail _ (.head _)) (ht J))<|aA J<|bP h fun e2 q_e2 h=>zo J (cq qK bV J (uC (ht J)) (ht J) q_e2)<|zo J (bE bV J J)<|bu J<|ap<|ae<|aq<|zo J (bZ gD cK J J)<|zo J (bE bJ J J)<|zo J (s3 J)<|aA J<|bP h fun t1 q_t1 h=>bD J J (fun hg=>cN J) ?_
    obtain⟨r3,h1t1,h0t1⟩:=og q_t1
    have q_r3g:=fun hb=>(h1t1 hb).1
    refine bD J J (fun hg=>aO LU (Dm _ _ (q_r3g hg)) ⟨(aI J hg),hI,be⟩)<|zo J (dv (ht J) (fun hb=>(aI J hb)) (fun hb=>(h1t1 hb).2) h0t1)<|ap<|dQ h J (fun h=>?_) (fun h=>?_)
    ·refine aq<|zo J (fP)<|ap<|am ?_;refine aa (aF (aa (aa (aF (aa ?_)))));refine aJ<|aJ<|aJ ?_;cases so h;exact cZ J ix J J (fun _ _ h=>h)
    ·refine eK<|aq<|aA J<|zo J (j6 J)<|ap<|dQ h J (fun h=>?_) (fun h=>?_)
     ·refine ak<|aA J<|aA J<|zo J (aR (ht J))<|zo J (fq 15 gu J J J)<|lH (gS bV J (qS (hs' :=[(1,ai (ix.h 0).1 (ix.h 0).2 l.kinds.length),(2,ai (ix.h 1).1 (ix.h 1).2 l.open_.length)]) yT ⟨.inr ⟨J,J⟩,.inr ⟨J,J⟩,be⟩ J) J (ht J) (ht J)) fun i8=>?_;refine(show RG _ _ _ _ [bx (rH aN [(1,ai (ix.h 0).1 (ix.h 0).2 l.kinds.length),(2,ai (ix.h 1).1 (ix.h 1).2 l.open_.length)]) 124 b ({({({({({({l with n:=e}:af)with a_:=[]}:af)with b:=[]}:af)with a_:=a_}:af)with b:=b3}:af)with a_:=e2}:af),gX gH 29 (ix.h 0).1 (ix.h 0).2 l.kinds,cr bU 3 (ix.h 1).1 (ix.h 1).2 l.open_] _ from ?_);refine aK<|al<|an<|ak<|zo rfl (lk (cQ hx hN) rfl)<|aA rfl<|aK ?_;exact aW (aM (ih (i5+1) (({({({({({({l with n:=e}:af)with a_:=[]}:af)with b:=[]}:af)with a_:=a_}:af)with b:=b3}:af)with a_:=e2}:af).a_) (({({({({({({l with n:=e}:af)with a_:=[]}:af)with b:=[]}:af)with a_:=a_}:af)with b:=b3}:af)with a_:=e2}:af).b) ⟨cP hx,h⟩) (bh J))
     ·refine ak<|aA J<|aA J<|zo J (aR (ht J))<|zo J (fq 16 tY J J J)<|lH (gS bV J (qS (hs' :=[(1,ai (ix.h 0).1 (ix.h 0).2 l.kinds.length),(2,ai (ix.h 1).1 (ix.h 1).2 l.open_.length)]) yS ⟨.inr ⟨J,J⟩,.inr ⟨J,J⟩,be⟩ J) J (ht J) (ht J)) fun i9=>?_;refine(show RG _ _ _ _ [bx (rH aN [(1,ai (ix.h 0).1 (ix.h 0).2 l.kinds.length),(2,ai (ix.h 1).1 (ix.h 1).2 l.open_.length)]) 124 b ({({({({({({l with n:=e}:af)with a_:=[]}:af)with b:=[]}:af)with a_:=a_}:af)with b:=b3}:af)with b:=e2}:af),gX gH 29 (ix.h 0).1 (ix.h 0).2 l.kinds,cr bU 3 (ix.h 1).1 (ix.h 1).2 l.open_] _ from ?_);refine aK<|al<|an<|ak<|zo rfl (lk (cQ hx hN) rfl)<|aA rfl<|aK ?_;exact aW (aM (ih (i5+1) (({({({({({({l with n:=e}:af)with a_:=[]}:af)with b:=[]}:af)with a_:=a_}:af)with b:=b3}:af)with b:=e2}:af).a_) (({({({({({({l with n:=e}:af)with a_:=[]}:af)with b:=[]}:af)with a_:=a_}:af)with b:=b3}:af)with b:=e2}:af).b) ⟨cP hx,h⟩) (bh J))

end Go.Proofs.YtmogpgcfognefaaGreatDoor

