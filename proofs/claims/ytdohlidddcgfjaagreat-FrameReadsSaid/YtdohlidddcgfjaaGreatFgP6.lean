import Derived.Test.YtdohlidddcgfjaaGreatFgT
import Derived.Test.YtdohlidddcgfjaaGreatFgP5
set_option linter.all false
namespace Go.Proofs.YtdohlidddcgfjaaGreat
open Go IntKind Tryz EffOK
set_option maxRecDepth 100000
def Zj l o{R}(h:oS l o=some R):dk bt 208 [tD fI o,da (rPt ce) l] (fU R):=by
 refine dX func208 J<|O<|eH J<|bo<|bC<|aS ?_;refine ga (ts:=[_,_,_,_,_,_,_,_,_,_,_,_,_,_]) mixed J J
  ⟨Dm 2 J J (sP Et yS J J),
  ⟨kF 0 bH J J,
  ⟨eS 5 1 J J (eC (D J) hI),
  ⟨eS 6 2 J J (ki J),
  ⟨te 2 7 3 J J J (eQ J J J J (fun Y=>sP Et yS J J)),
  ⟨iX 8 4 7 3 J J J (eQ J J J J (fun Y=>fC bH J J (bg J Y))),
  ⟨te 1 7 3 J J J (eQ J J J J (fun Y=>(CM G8 J J).imp (fun _ _ h=>XT.1 h))),
  ⟨iX 10 6 7 3 J J J (eQ J J J J (fun Y=>Yf (bg J Y))),
  ⟨iX 11 7 7 3 J J J (eQ J J J J (fun Y=>eg li J sf J (bg J Y))),
  ⟨iX 12 8 7 3 J J J (eQ J J J J (fun Y=>fC cV J J (bg J Y))),
  ⟨iX 13 9 7 3 J J J (eQ J J J J (fun Y=>fK eh (bg J Y))),
  ⟨AC 9 5 14 10 7 3 J J J J (eQ J J J J (fun Y=>d9 (bg J Y) (bg J Y))),
  ⟨fR 7 3 15 11 J J J (zpo J J),
  ⟨eS 16 12 J J (CO J),
  aV⟩⟩⟩⟩⟩⟩⟩⟩⟩⟩⟩⟩⟩⟩ ?_
 exact an<|qH<|so h▸aC J J
def acr(b:Nat)(ix:OI) l{R}(h:lz l=some R):bU bt 173 [Q (M b 0)] (gx b l ix) (fun _:OI=>fU R.1) (fun j=>gx b R.2 j):=by
 refine bU.of func173 J J J fun w0 S0=>?_;refine(show CG _ _ _ [s (rH ce [(1,aI (ix.h 0).1 (ix.h 0).2 l.g'.length),(2,aI (ix.h 1).1 (ix.h 1).2 l.m'.length)]) 168 b l,lP oH 69 (ix.h 0).1 (ix.h 0).2 l.g',d5 cj 3 (ix.h 1).1 (ix.h 1).2 l.m'] _ from ?_);refine O<|X (Yh (fun _ _ h=>by rw [show _=_ from h];rfl) (D J))<|bo<|bC<|aS ?_;refine rK 7 (ts:=[Q (M b 0),Q (M b 0),Q (M b 0),Q (M b 15),lk l.a_,Q (M b 0),Q (M b 17)]) mixed J J J
  ⟨Dm 1 J J (yN G8 (D J)),
  ⟨Dm 1 J J (yN G8 (D J)),
  ⟨eS 5 1 J J (aL (D J)),
  ⟨eS 6 2 J J (pL 15 li J J J),
  ⟨eS 7 3 J J (aA (r:=rH ce [(1,aI (ix.h 0).1 (ix.h 0).2 l.g'.length),(2,aI (ix.h 1).1 (ix.h 1).2 l.m'.length)]) (x:=l) cV J J (eF sf) (.head _) (D J)),
  ⟨eS 4 0 J J (aL (D J)),
  ⟨eS 9 5 J J (pL 17 iE J J J),
  aV⟩⟩⟩⟩⟩⟩⟩ ?_
 refine f8 (cY cV J (lG (hs' :=[(1,aI (ix.h 0).1 (ix.h 0).2 l.g'.length),(2,aI (ix.h 1).1 (ix.h 1).2 l.m'.length)]) wz ⟨.inr ⟨J,J⟩,.inr ⟨J,J⟩,aV⟩ J) J (D J) (D J)) fun i=>?_;refine(show RG _ _ _ _ [_,_,_] _ from ?_);refine bC<|O<|X (yN G8 (D J))<|X (aL (D J))<|aR 3 js J<|aR 13 ky J<|X (aA (r:=rH ce [(1,aI (ix.h 0).1 (ix.h 0).2 l.g'.length),(2,aI (ix.h 1).1 (ix.h 1).2 l.m'.length)]) (x:=({l with j':=l.a_}:aE)) wM J J (eF (fY ij gp)) (.head _) (D J))<|X ((show dw _ _ _ _ (Vn ce ({l with j':=l.a_}:aE) b ((nL bt U3 td (fun(x:jJ)=>(oS ({l with j':=l.a_}:aE)) x))))from LB (cts:=[da (rPt ce) ({l with j':=l.a_}:aE)]) (caps:=[.tmp 1]) aeB (fun S S1 a hf hle hk=>G0 (Q0 (D J) hf hle hk) trivial) (fun x y h=>Zj _ _ h)))<|bR h fun r q_ h=>X (VK (r:=rH ce [(1,aI (ix.h 0).1 (ix.h 0).2 l.g'.length),(2,aI (ix.h 1).1 (ix.h 1).2 l.m'.length)]) (rd:=ce) (T:=168) (b:=b) (x:=({l with j':=l.a_}:aE)) (y:=({l with j':=l.a_}:aE)) (.head _) aeC (Zk _ _ q_) (fun _ _ _ _ h=>h.1) (fun S S1 a hf hle hk=>G0 (ac8 (D J) hf hle) (G0 (XO (D J) hf hle hk) trivial)) XU)<|aK J<|aw J<|X (fq (D J))<|Z J<|ac J (fun Y=>yN G8 (D J))<|ac J (fun Y=>aL (bg J Y))<|ac J (fun Y=>bY (n:=3) js J (bg J Y) J)<|ac J (fun Y=>bY (n:=13) ky J (bg J Y) J) ?_;refine ac J (fun Y=>aA (r:=rH ce [(1,aI (ix.h 0).1 (ix.h 0).2 l.g'.length),(2,aI (ix.h 1).1 (ix.h 1).2 l.m'.length)]) (x:=({l with j':=l.a_}:aE)) wM J J (eF (fY ij gp)) (.head _) (bg J Y))<|ac J (hM uM J)<|ac J (fun Y=>ft (bg J Y) hI)<|cm J<|Z J<|ac J (fun Y=>yN G8 (D J))<|ac J (fun Y=>aL (bg J Y))<|ac J (fun Y=>bY (n:=3) js J (bg J Y) J)<|ac J (fun Y=>bY (n:=14) sk J (bg J Y) J)<|ac J (fun Y=>aA (r:=rH ce [(1,aI (ix.h 0).1 (ix.h 0).2 l.g'.length),(2,aI (ix.h 1).1 (ix.h 1).2 l.m'.length)]) (x:=({l with j':=l.a_}:aE)) bH J J (eF (fY ij lD)) (.head _) (bg J Y))<|ac J (fun Y=>d9 (bg J Y) hI)<|cm J<|Z J<|ac J (fun Y=>yN G8 (D J))<|ac J (fun Y=>aL (bg J Y))<|ac J (fun Y=>bY (n:=3) js J (bg J Y) J)<|ac J (fun Y=>bY (n:=14) sk J (bg J Y) J)<|ac J (fun Y=>aA (r:=rH ce [(1,aI (ix.h 0).1 (ix.h 0).2 l.g'.length),(2,aI (ix.h 1).1 (ix.h 1).2 l.m'.length)]) (x:=({l with j':=l.a_}:aE)) bH J J (eF (fY ij lD)) (.head _) (bg J Y))<|ac J (fun Y=>ft (bg J Y) hI)<|cm J<|ba J ?_;exact aP<|aP<|aP<|so h▸ci J ix J J (fun _ _ h=>h)
def ZO{R}(h:nJ=some R):dk bt 126 [] (tMp (fun y:(aE->Unit->Option (Bool×aE))=>tf (fun bb=>mf bt (fun(x:Unit)=>[Q (M bb 0)]) (gx bb) td y)) (kvI .i64) R):=by
 refine dX func126 J<|O<|X (cg (show bk _ _ (.const (.map none)) (Q (.map none))from fun _ _ _=>J))<|bC<|O<|Ra (XD (fun y:(aE->Unit->Option (Bool×aE))=>tf (fun bb=>mf bt (fun(x:Unit)=>[Q (M bb 0)]) (gx bb) td y))) (kvI .i64) J fun b=>uC (γ:=(fun y:(aE->Unit->Option (Bool×aE))=>tf (fun bb=>mf bt (fun(x:Unit)=>[Q (M bb 0)]) (gx bb) td y))) (y:=(fun(mc:aE) (mx:Unit)=>lA mc)) F4 (s6 jm) (D J) (Gh hI) (show bk _ _ _ (tf (fun bb=>mf bt (fun(x:Unit)=>[Q (M bb 0)]) (gx bb) td (fun(mc:aE) (mx:Unit)=>lA mc)))from(HT fun bb=>rq ae7 (fun c x R h i=>acD _ _ _ h))) fun os=>uC (γ:=(fun y:(aE->Unit->Option (Bool×aE))=>tf (fun bb=>mf bt (fun(x:Unit)=>[Q (M bb 0)]) (gx bb) td y))) (y:=(fun(mc:aE) (mx:Unit)=>jr mc)) F4 (s6 jm) (D J) (Gh hI) (show bk _ _ _ (tf (fun bb=>mf bt (fun(x:Unit)=>[Q (M bb 0)]) (gx bb) td (fun(mc:aE) (mx:Unit)=>jr mc)))from(HT fun bb=>rq ae6 (fun c x R h i=>acC _ _ _ h))) fun os1=>uC (γ:=(fun y:(aE->Unit->Option (Bool×aE))=>tf (fun bb=>mf bt (fun(x:Unit)=>[Q (M bb 0)]) (gx bb) td y))) (y:=(fun(mc:aE) (mx:Unit)=>jo mc)) F4 (s6 jm) (D J) (Gh hI) (show bk _ _ _ (tf (fun bb=>mf bt (fun(x:Unit)=>[Q (M bb 0)]) (gx bb) td (fun(mc:aE) (mx:Unit)=>jo mc)))from(HT fun bb=>rq ae5 (fun c x R h i=>acB _ _ _ h))) fun os2=>uC (γ:=(fun y:(aE->Unit->Option (Bool×aE))=>tf (fun bb=>mf bt (fun(x:Unit)=>[Q (M bb 0)]) (gx bb) td y))) (y:=(fun(mc:aE) (mx:Unit)=>ic mc)) F4 (s6 jm) (D J) (Gh hI) (show bk _ _ _ (tf (fun bb=>mf bt (fun(x:Unit)=>[Q (M bb 0)]) (gx bb) td (fun(mc:aE) (mx:Unit)=>ic mc)))from(HT fun bb=>rq ae4 (fun c x R h i=>acA _ _ _ h))) fun os3=>uC (γ:=(fun y:(aE->Unit->Option (Bool×aE))=>tf (fun bb=>mf bt (fun(x:Unit)=>[Q (M bb 0)]) (gx bb) td y))) (y:=(fun(mc:aE) (mx:Unit)=>gn mc)) F4 (s6 jm) (D J) (Gh hI) (show bk _ _ _ (tf (fun bb=>mf bt (fun(x:Unit)=>[Q (M bb 0)]) (gx bb) td (fun(mc:aE) (mx:Unit)=>gn mc)))from(HT fun bb=>rq aaM (fun c x R h i=>acz _ _ _ h))) fun os4=>uC (γ:=(fun y:(aE->Unit->Option (Bool×aE))=>tf (fun bb=>mf bt (fun(x:Unit)=>[Q (M bb 0)]) (gx bb) td y))) (y:=(fun(mc:aE) (mx:Unit)=>fW mc)) F4 (s6 jm) (D J) (Gh hI) (show bk _ _ _ (tf (fun bb=>mf bt (fun(x:Unit)=>[Q (M bb 0)]) (gx bb) td (fun(mc:aE) (mx:Unit)=>fW mc)))from(HT fun bb=>rq ae3 (fun c x R h i=>acx _ _ _ h))) fun os5=>uC (γ:=(fun y:(aE->Unit->Option (Bool×aE))=>tf (fun bb=>mf bt (fun(x:Unit)=>[Q (M bb 0)]) (gx bb) td y))) (y:=(fun(mc:aE) (mx:Unit)=>ff mc)) F4 (s6 jm) (D J) (Gh hI) (show bk _ _ _ (tf (fun bb=>mf bt (fun(x:Unit)=>[Q (M bb 0)]) (gx bb) td (fun(mc:aE) (mx:Unit)=>ff mc)))from(HT fun bb=>rq ae2 (fun c x R h i=>acw _ _ _ h))) fun os6=>uC (γ:=(fun y:(aE->Unit->Option (Bool×aE))=>tf (fun bb=>mf bt (fun(x:Unit)=>[Q (M bb 0)]) (gx bb) td y))) (y:=(fun(mc:aE) (mx:Unit)=>j0 mc)) F4 (s6 jm) (D J) (Gh hI) (show bk _ _ _ (tf (fun bb=>mf bt (fun(x:Unit)=>[Q (M bb 0)]) (gx bb) td (fun(mc:aE) (mx:Unit)=>j0 mc)))from(HT fun bb=>rq ae1 (fun c x R h i=>acu _ _ _ h))) fun os7=>uC (γ:=(fun y:(aE->Unit->Option (Bool×aE))=>tf (fun bb=>mf bt (fun(x:Unit)=>[Q (M bb 0)]) (gx bb) td y))) (y:=(fun(mc:aE) (mx:Unit)=>nI mc)) F4 (s6 jm) (D J) (Gh hI) (show bk _ _ _ (tf (fun bb=>mf bt (fun(x:Unit)=>[Q (M bb 0)]) (gx bb) td (fun(mc:aE) (mx:Unit)=>nI mc)))from(HT fun bb=>rq ae0 (fun c x R h i=>act _ _ _ h))) fun os8=>uC (γ:=(fun y:(aE->Unit->Option (Bool×aE))=>tf (fun bb=>mf bt (fun(x:Unit)=>[Q (M bb 0)]) (gx bb) td y))) (y:=(fun(mc:aE) (mx:Unit)=>km mc)) F4 (s6 jm) (D J) (Gh hI) (show bk _ _ _ (tf (fun bb=>mf bt (fun(x:Unit)=>[Q (M bb 0)]) (gx bb) td (fun(mc:aE) (mx:Unit)=>km mc)))from(HT fun bb=>rq aeZ (fun c x R h i=>acs _ _ _ h))) fun os9=>uC (γ:=(fun y:(aE->Unit->Option (Bool×aE))=>tf (fun bb=>mf bt (fun(x:Unit)=>[Q (M bb 0)]) (gx bb) td y))) (y:=(fun(mc:aE) (mx:Unit)=>lz mc)) F4 (s6 jm) (D J) (Gh hI) (show bk _ _ _ (tf (fun bb=>mf bt (fun(x:Unit)=>[Q (M bb 0)]) (gx bb) td (fun(mc:aE) (mx:Unit)=>lz mc)))from(HT fun bb=>rq aeY (fun c x R h i=>acr _ _ _ h))) fun os10=>Z J<|aK J ?_;exact qH<|O6 0 J<|so h▸aC J J
def Zx op{R}(h:zA op=some R):dk bt 174 [bI op] (bI R):=by
 refine dX func174 J<|O<|bP<|bC<|aN<|Z J<|bC<|ak ?_;refine dP (aH:=fun x=>vj op x=some R) (Of:=fun x=>[]) (Gf:=fun x=>[(3,bI op),(4,fU x)]) (fun x h=>?_) (fun hx=>?_)
 ·skip;refine fz h J (fun h=>?_) (fun h=>?_)
  ·exact O<|ea<|cF<|so h▸aC J J
  ·refine dP (aH:=fun x1=>vi op x1=some R) (Of:=fun x1=>[]) (Gf:=fun x1=>[(3,bI op),(7,fU x1)]) (fun x1 h=>?_) (fun K1=>?_)
   ·skip;refine fz h J (fun h=>?_) (fun h=>?_)
    ·exact O<|ea<|cF<|so h▸aC J J
    ·refine dP (aH:=fun x2=>lb x2=some R) (Of:=fun x2=>[]) (Gf:=fun x2=>[(10,fU x2)]) (fun x2 h=>?_) (fun K2=>?_)
     ·skip;refine fz h J (fun h=>?_) (fun h=>?_)
      ·exact O<|ea<|cF<|so h▸aC J J
      ·exact aW<|ah<|an<|O<|ea<|so h▸aC J J
     ·skip;refine O<|bl J<|aK J<|fz h J (fun h=>?_) (fun h=>?_)
      ·refine aW ?_;exact bE (K2 (op==3) h) (aX J)
      ·refine O<|bl J<|aK J<|fz h J (fun h=>?_) (fun h=>?_)
       ·refine aW ?_;exact bE (K2 (op==4) h) (aX J)
       ·refine O<|bl J<|aK J<|fz h J (fun h=>?_) (fun h=>?_)
        ·refine aW ?_;exact bE (K2 (op==5) h) (aX J)
        ·refine O<|bl J<|aK J<|fz h J (fun h=>?_) (fun h=>?_)
         ·refine aW ?_;exact bE (K2 (op==6) h) (aX J)
         ·refine O<|bl J<|aK J<|fz h J (fun h=>?_) (fun h=>?_)
          ·refine aW ?_;exact bE (K2 (op==8) h) (aX J)
          ·refine O<|bl J<|aK J<|fz h J (fun h=>?_) (fun h=>?_)
           ·refine aW ?_;exact bE (K2 (op==10) h) (aX J)
           ·refine ai<|bl J<|dM J<|aJ ?_;exact bE (K2 (op==11) h) (aX J)
   ·skip;refine O<|bl J<|aK J<|fz h J (fun h=>?_) (fun h=>?_)
    ·refine aW ?_;exact bE (K1 (op==2) h) (aX J)
    ·refine ai<|bl J<|dM J<|aJ ?_;exact bE (K1 (op==7) h) (aX J)
 ·skip;refine O<|bl J<|aK J<|fz h J (fun h=>?_) (fun h=>?_)
  ·refine aW ?_;exact bE (hx (op==1) h) (aX J)
  ·refine ai<|bl J<|dM J<|aJ ?_;exact bE (hx (op==9) h) (aX J)
def Zw n{R}(h:uV n=some R):dk bt 175 [tD aQ n] (fU R):=by
 refine dX func175 J<|O<|eH J<|bo<|bC<|aS ?_;refine ga (ts:=[_,_,_,_,_,_,_,_,_,_,_,_,_,_,_,_,_,_,_,_,_,_,_]) mixed J J
  ⟨Dm 1 J J (sP gq db J J),
  ⟨kF 0 bH J J,
  ⟨eS 7 1 J J (zei J),
  ⟨eS 8 2 J J (ki J),
  ⟨te 1 9 3 J J J (eQ J J J J (fun Y=>sP gq db J J)),
  ⟨iX 10 4 9 3 J J J (eQ J J J J (fun Y=>fC bH J J (bg J Y))),
  ⟨iX 11 5 9 3 J J J (eQ J J J J (fun Y=>dW (bg J Y) hI)),
  ⟨fR 9 3 12 6 J J J (zpo J J),
  ⟨Dm 1 J J (sP gq db J J),
  ⟨kF 8 bH J J,
  ⟨eS 15 9 J J (zei J),
  ⟨eS 16 10 J J (ki J),
  ⟨te 1 17 11 J J J (eQ J J J J (fun Y=>sP gq db J J)),
  ⟨iX 18 12 17 11 J J J (eQ J J J J (fun Y=>fC bH J J (bg J Y))),
  ⟨iX 19 13 17 11 J J J (eQ J J J J (fun Y=>dW (bg J Y) hI)),
  ⟨fR 17 11 20 14 J J J (zpo J J),
  ⟨eS 21 15 J J (ki J),
  ⟨te 1 22 16 J J J (eQ J J J J (fun Y=>sP gq db J J)),
  ⟨iX 23 17 22 16 J J J (eQ J J J J (fun Y=>fC bH J J (bg J Y))),
  ⟨iX 24 18 22 16 J J J (eQ J J J J (fun Y=>dW (bg J Y) hI)),
  ⟨fR 22 16 25 19 J J J (zpo J J),
  ⟨eS 13 7 J J (CO J),
  ⟨eS 26 20 J J (CO J),
  aV⟩⟩⟩⟩⟩⟩⟩⟩⟩⟩⟩⟩⟩⟩⟩⟩⟩⟩⟩⟩⟩⟩⟩ ?_
 refine an<|aw J<|Z J<|aB J (bu rD jw J J)<|aB J (bp bH J J)<|aB J (iq J)<|aB J (ov J)<|d7 J J J J (fun Y=>sP kU fE J J)<|d7 J J J J (fun Y=>fC cV J J (bg J Y))<|d7 J J J J (fun Y=>fK eh (bg J Y))<|d7 J J J J (fun Y=>dW (bg J Y) hI)<|aB J (fun Y=>j3 (bg J Y) (fun V=>(bg J (ub Y V))))<|dG J<|aK J<|aw J<|Z J<|ac J (bu gq db J J)<|ac J (bp bH J J) ?_;refine ac J (iq J)<|ac J (ov J)<|cO J J J J (fun Y=>sP zL tt J J)<|cO J J J J (fun Y=>fC ua J J (bg J Y))<|cO J J J J (fun Y=>fq (bg J Y))<|ac J (fun Y=>ke (bg J Y) (fun V=>(bg J (ub Y (sL V)))))<|cm J<|Z J<|ac J (bu gq db J J)<|ac J (bp bH J J)<|ac J (iq J)<|ac J (ov J)<|cO J J J J (fun Y=>sP gq db J J)<|cO J J J J (fun Y=>fC bH J J (bg J Y))<|cO J J J J (fun Y=>dW (bg J Y) hI)<|ac J (fun Y=>ke (bg J Y) (fun V=>(bg J (ub Y (sL V)))))<|ac J (ov J)<|cO J J J J (fun Y=>sP sN lX J J)<|cO J J J J (fun Y=>eg ia J fD J (bg J Y))<|cO J J J J (fun Y=>fC pO J J (bg J Y))<|cO J J J J (fun Y=>fK mo (bg J Y))<|cO J J J J (fun Y=>dW (bg J Y) hI)<|ac J (fun Y=>ke (bg J Y) (fun V=>(bg J (ub Y (sL V)))))<|cm J ?_;refine aK J<|aw J<|Z J<|ac J (ca J)<|ac J (ov J)<|cO J J J J (fun Y=>sP kp fv J J)<|cO J J J J (fun Y=>fC cV J J (bg J Y))<|cO J J J J (fun Y=>fK eh (bg J Y))<|cO J J J J (fun Y=>sP iS d6 J J)<|cO J J J J (fun Y=>fC qT J J (bg J Y))<|cO J J J J (fun Y=>fK ny (bg J Y))<|cO J J J J (fun Y=>cU (bg J Y) (bg J Y))<|cO J J J J (fun Y=>dW (bg J Y) hI)<|ac J (fun Y=>ke (bg J Y) (fun V=>(bg J (ub Y (sL V)))))<|cm J<|Z J<|ac J (bu gq db J J)<|ac J (bp bH J J)<|ac J (iq J)<|ac J (ov J) ?_;refine cO J J J J (fun Y=>sP sM lW J J)<|cO J J J J (fun Y=>fC Cf J J (bg J Y))<|cO J J J J (fun Y=>fK uL (bg J Y))<|cO J J J J (fun Y=>dW (bg J Y) hI)<|ac J (fun Y=>ke (bg J Y) (fun V=>(bg J (ub Y (sL V)))))<|cm J<|aK J<|aw J<|Z J<|ac J (bu gq db J J)<|ac J (bp bH J J)<|ac J (iq J)<|ac J (ov J)<|cO J J J J (fun Y=>sP ky gp J J)<|cO J J J J (fun Y=>fC wM J J (bg J Y))<|cO J J J J (fun Y=>fK uM (bg J Y))<|cO J J J J (fun Y=>dW (bg J Y) hI)<|cO J J J J (fun Y=>cB (bg J Y))<|d7 J J J J (fun Y=>sP sk lD J J)<|d7 J J J J (fun Y=>fC bH J J (bg J Y)) ?_;exact d7 J J J J (fun Y=>dW (bg J Y) hI)<|cO J J J J (fun Y=>j3 (bg J Y) (fun V=>(bg J (ub Y V))))<|ac J (fun Y=>ke (bg J Y) (fun V=>(bg J (ub Y (sL V)))))<|cm J<|ba J<|so h▸aC J J
def Zi bx v{R}(h:q0 bx v=some R):dk bt 209 [lk bx,bI v] (bI R):=by
 refine dX func209 J<|O<|bP<|bC<|aN<|Z J<|bX eh J<|X (cB hI)<|bC<|ak<|bJ (k:=6) J fun hN=>bK ?_;refine aM (f0 (aH:=fun ls i=>(bx.drop i=ls)/\jy v ls i=some R) (Of:=fun _ i=>[]) (Gf:=fun _ i=>[(0,lk bx),(1,bI v),(7,mR bx),(8,bI (i:Int))]) (fun i h=>?_) (fun e tl ih i h=>?_) bx 0 ⟨J,h⟩) (aX J)
 ·obtain⟨K,h⟩:=h;exact gk K J<|an<|O<|ea<|so h▸aC J J
 ·obtain⟨K,h⟩:=h;refine gj K J<|aS<|ak<|aw J<|aK J<|aw J<|Z J<|Z J<|FF eh bH J (fh K) ?_;refine eb bH J<|X (dW (D J) (D J))<|bV h J (fun h=>?_) (fun h=>?_)
  ·exact aw J<|ba J<|cF<|ae<|cF<|so h▸aC J J
  ·refine aW<|eN K hN J ?_;exact aY (aM (ih (i+1) ⟨ei K,h⟩) (aX J))
def Zv bx v{R}(h:iI bx v=some R):dk bt 176 [lk bx,bI v] (fU R):=by
 exact dX func176 J<|O<|bo<|bC<|aw J<|Z J<|ej h aeA (Zi _ _) (co J) fun r h=>X (d9 (D J) hI)<|ba J<|so h▸aC J J
def acJ(b:Nat)(ix:OI) l i ask{R}(h:eG l i ask=some R):bU bt 127 [Q (M b 0),bI i,tf (fun bb=>mf bt (fun(x:Unit)=>[Q (M bb 0)]) (gx bb) td ask)] (gx b l ix) (fun _:OI=>fU R.1) (fun j=>gx b R.2 j):=by
 refine bU.of func127 J J J fun w0 S0=>?_;refine(show CG _ _ _ [s (rH ce [(1,aI (ix.h 0).1 (ix.h 0).2 l.g'.length),(2,aI (ix.h 1).1 (ix.h 1).2 l.m'.length)]) 168 b l,lP oH 69 (ix.h 0).1 (ix.h 0).2 l.g',d5 cj 3 (ix.h 1).1 (ix.h 1).2 l.m'] _ from ?_);refine O<|bo<|bC<|aw J<|X (aL (D J))<|aR 0 LP J<|X (aA (r:=rH ce [(1,aI (ix.h 0).1 (ix.h 0).2 l.g'.length),(2,aI (ix.h 1).1 (ix.h 1).2 l.m'.length)]) (x:=l) sE J J (eF Fh) (.head _) (D J))<|Z J<|bR h fun e N_ h=>eE mn dL J N_<|bD dL jd J fun b1=>be dL aq J<|bj 7 J<|bC<|O<|aU gq db bH J ?_;refine ej h aeX (Zx _) (co J) fun r h=>aK J<|aN<|Z J<|X (eC (D J) hI)<|Z J<|aB J (ca J)<|aB J (ca J)<|aB J (fun Y=>aL (bg J Y))<|aB J (fun Y=>bY (n:=2) wr J (bg J Y) J)<|aB J (fun Y=>dR cV J (.head _) (bg J Y))<|aB J (fun Y=>jg eh (.tail _ (.tail _ (.head _))) (bg J Y))<|aB J (fun Y=>d8 (bg J Y) (bg J Y))<|dG J<|Z J<|bR h fun t u_ h=>aB J (fun Y=>CM dL J J) ?_;obtain⟨r1,h_,v_⟩:=og u_;have k_:=fun V=>(h_ V).1;refine aB J (fun Y=>cC aeW (Zw _ (k_ Y)) ⟨(bg J Y),aV⟩)<|aB J (nt J)<|X (iQ (D J) (fun V=>(bg J (sL V))) (fun V=>(h_ V).2) v_)<|bC<|uG (D J) (fun hc=>?_) (fun hc=>?_)
 ·have h:=ct h hc;exact O<|bo<|bF<|ae<|aP<|aP<|aP<|so h▸ci J ix J J (fun _ _ h=>h)
 ·have h:=cf h hc;refine fy<|O<|X (uX (r:=cj) (ys:=[DA,DA]) (xs:=[.const (.int .i64 (-1)),.const (.int .i64 (-1))]) GQ bH J Cp J J ⟨hI,hI,aV⟩)<|bD (r:=(pP cj 2)) (x:=(List.replicate 2 (0:Int))) Cp (fun _=>Br (r:=cj) 2 (fun _=>J) _) J fun b2=>be Cp aq J<|bC<|aS<|bR h fun y M_ h=>?_;refine rK 13 (ts:=[Q (.slice (some ⟨b2,0,none⟩) 2 2),Q (M b 0),Q (M b 0),Q (M b 2),oI (ix.h 1).1 (ix.h 1).2 l.m',Q (M b 0),Q (M b 0),Q (M b 2),oI (ix.h 1).1 (ix.h 1).2 l.m',mR l.m',bI r,bI (i64.wrap ((l.m'.length:Int)-r)),Q (qw 1 (ix.h 1).1 (ix.h 1).2 (i64.wrap ((l.m'.length:Int)-r)).toNat y.length)]) mixed J J J
   ⟨Dm 9 J J (NU GQ (XQ bH) (D J)),
   ⟨fc J J,
   ⟨eS 42 1 J J (aL (D J)),
   ⟨eS 43 2 J J (pL 2 wr J J J),
   ⟨eS 44 3 J J (dR cV J (.tail _ (.head _)) (D J)),
   ⟨fc J J,
   ⟨eS 46 5 J J (aL (D J)),
   ⟨eS 47 6 J J (pL 2 wr J J J),
   ⟨eS 48 7 J J (dR cV J (.tail _ (.head _)) (D J)),
   ⟨eS 49 8 J J (jg eh (.tail _ (.tail _ (.tail _ (.head _)))) (D J)),
   ⟨fc J J,
   ⟨fR 50 9 51 10 J J J (ec (D J) (D J)),
   ⟨fR 45 4 52 11 J J J (tL eh bH J (.tail _ (.tail _ (.tail _ (.head _)))) (D J) (D J) M_),
   aV⟩⟩⟩⟩⟩⟩⟩⟩⟩⟩⟩⟩⟩ ?_
  refine uD (.tail _ (.tail _ (.tail _ (.head _)))) M_ fun hv=>bc (Mc (.tail _ (.tail _ (.tail _ (.head _)))) M_ eh (KZ bH) (D J) (D J)) J fun i1=>?_;refine(show RG _ _ _ _ [_,_,_,_] ((54,bI ((min y.length 2:Nat):Int))::_)from ?_);refine bC<|aN<|X (aA (x:=(sw ([DA,DA]) y)) Cp J J bm (.head _) (D J))<|aU jP gH bH J<|aU kV iR bH J<|X (uX (r:=cj) (ys:=[e.A,e.B]) (xs:=[.tmp 57,.tmp 59]) GQ bH J Cp J J ⟨(D J),(D J),aV⟩)<|X (wn aav (D J) (D J))<|bC<|uG (D J) (fun hc=>?_) (fun hc=>?_)
  ·have h:=ct h hc;exact O<|bo<|bF<|ae<|aF<|aP<|aP<|aP<|so h▸ci J ix J J (fun _ _ h=>h)
  ·have h:=cf h hc;refine fy<|aw J<|Z J<|Z J<|eb dL J<|X (aL (D J))<|aR 3 js J<|f8 (fr1 (cY dL J (lG (hs' :=[(1,aI (ix.h 0).1 (ix.h 0).2 l.g'.length),(2,aI (ix.h 1).1 (ix.h 1).2 l.m'.length)]) Tl ⟨.inr ⟨J,J⟩,.inr ⟨J,J⟩,aV⟩ J) J (D J) (D J))) fun i2=>?_;refine(show RG _ _ _ _ [_,_,_,_] _ from ?_);refine X (aL (D J))<|aR 15 li J<|f8 (cY cV J (lG (hs' :=[(1,aI (ix.h 0).1 (ix.h 0).2 l.g'.length),(2,aI (ix.h 1).1 (ix.h 1).2 l.m'.length)]) JV ⟨.inr ⟨J,J⟩,.inr ⟨J,J⟩,aV⟩ J) J (D J) Wc) fun i3=>?_;refine(show RG _ _ _ _ [_,_,_,_] _ from ?_);refine X (aL (D J))<|aR 16 Es J<|f8 (cY cV J (lG (hs' :=[(1,aI (ix.h 0).1 (ix.h 0).2 l.g'.length),(2,aI (ix.h 1).1 (ix.h 1).2 l.m'.length)]) JU ⟨.inr ⟨J,J⟩,.inr ⟨J,J⟩,aV⟩ J) J (D J) Wc) fun i4=>?_;refine(show RG _ _ _ _ [_,_,_,_] _ from ?_);refine bC<|aS<|aS<|bR h fun y1 S_ h=>?_;refine ga (ts:=[_,_,_,_,_,_,_,_,_,_,_,_,_,_]) mixed J J
    ⟨fc J J,
    ⟨eS 72 0 J J (aL (D J)),
    ⟨eS 73 1 J J (pL 2 wr J J J),
    ⟨eS 74 2 J J (dR cV J (.head _) (D J)),
    ⟨fc J J,
    ⟨eS 76 4 J J (aL (D J)),
    ⟨eS 77 5 J J (pL 2 wr J J J),
    ⟨eS 78 6 J J (dR cV J (.head _) (D J)),
    ⟨eS 79 7 J J (jg eh (.tail _ (.tail _ (.tail _ (.head _)))) (D J)),
    ⟨fc J J,
    ⟨fR 80 8 81 9 J J J (ec (D J) (D J)),
    ⟨fR 75 3 82 10 J J J (tL eh bH J (.tail _ (.tail _ (.tail _ (.head _)))) (D J) (D J) S_),
    ⟨eS 83 11 J J (RP eh (.tail _ (.tail _ (.tail _ (.head _)))) S_ (D J)),
    ⟨zd0 J (cB hI),
    aV⟩⟩⟩⟩⟩⟩⟩⟩⟩⟩⟩⟩⟩⟩ ?_
   refine an<|ak<|Mz (.tail _ (.tail _ (.tail _ (.head _)))) S_ fun hv1=>?_;have hN:=hv1.2;refine bK<|fT<|oG ?_;refine aM (IG (aH:=fun ls i5 a_ b3=>(y1.drop i5=ls)/\bN l i ask e r ls i5 a_ b3=some R) (Of:=fun _ i5 a_ b3=>[s (rH ce [(1,aI (ix.h 0).1 (ix.h 0).2 l.g'.length),(2,aI (ix.h 1).1 (ix.h 1).2 l.m'.length)]) 168 b ({l with n:=e,a_:=a_,b:=b3}:aE),lP oH 69 (ix.h 0).1 (ix.h 0).2 l.g',d5 cj 3 (ix.h 1).1 (ix.h 1).2 l.m']) (Gf:=fun _ i5 a_ b3=>[(0,Q (M b 0)),(1,bI i),(2,tf (fun bb=>mf bt (fun(x:Unit)=>[Q (M bb 0)]) (gx bb) td ask)),(7,da aQ e),(8,bI r),(83,Q (qw 1 (ix.h 1).1 (ix.h 1).2 (i64.wrap ((l.m'.length:Int)-r)).toNat y1.length)),(84,mR y1),(85,bI (i5:Int))]) (fun i5 a_ b3 h=>?_) (fun e1 tl ih i5 a_ b3 h=>?_) y1 0 ([]) ([]) ⟨J,h⟩) (aX J)
   ·obtain⟨K,h⟩:=h;refine gk K J<|an<|O<|aU gq db bH J<|bl J<|Z J<|aB J (bu gq db J J)<|aB J (bp bH J J)<|aB J (iq J)<|dG J<|dM J ?_;refine bC<|aN<|Z J<|Z J<|ac J (ca J)<|ac J (ca J)<|ac J (fun Y=>aL (bg J Y))<|ac J (fun Y=>bY (n:=0) LP J (bg J Y) J)<|ac J (fun Y=>aA (r:=rH ce [(1,aI (ix.h 0).1 (ix.h 0).2 l.g'.length),(2,aI (ix.h 1).1 (ix.h 1).2 l.m'.length)]) (x:=({({({({({l with n:=e}:aE)with a_:=[]}:aE)with b:=[]}:aE)with a_:=a_}:aE)with b:=b3}:aE)) sE J J (eF Fh) (.head _) (bg J Y))<|ac J (hM mn J)<|ac J (fun Y=>ec (bg J Y) hI)<|ac J (fun Y=>dc (bg J Y) (bg J Y))<|cm J<|Z J ?_;refine xh (((e.Op==8)||(e.Op==10))&&(i !=(i64.wrap (((({({({({({l with n:=e}:aE)with a_:=[]}:aE)with b:=[]}:aE)with a_:=a_}:aE)with b:=b3}:aE).nodes).length:Int)-1)))) (fun Y=>?_) (fun Y=>?_)
    ·have h:=ct h Y;refine fG J J J Y J<|fG J J J Y J<|fG J J J Y J<|fG J J J Y J<|X (tM (D J) Y hBc)<|Z J<|fG J J J J J<|fG J J J J J<|fG J J J J J<|fG J J J J J<|fG J J J J J<|fG J J J J J<|X (tM (D J) J hBc)<|bC<|uG (D J) (fun hc=>?_) (fun hc=>?_)
     ·exact O<|bo<|bF<|ae<|aP<|aP<|aP<|so h▸ci J ix J J (fun _ _ h=>h)
     ·cases hc
    ·have h:=cf h Y;refine iW J J J Y<|Z J<|iW J J J Y<|Z J<|iW J J J Y<|bR h fun r2 Y' h=>bc (fr2 (fr2 (fr2 (Md (args:=(fun(x:Unit)=>[Q (M b 0)])) (Ob:=gx b) (res:=td) (f:=ask) (x:=({l with n:=e,a_:=a_,b:=b3}:aE)) (y:=(():Unit)) (R:=r2) (i:=ix) (xs:=[.tmp 136]) _ J (adq (t:=(fun bb=>mf bt (fun(x:Unit)=>[Q (M bb 0)]) (gx bb) td ask)) b (D J)) Y' ⟨(D J),aV⟩ (fun _=>J))))) J fun i6=>?_;refine(show RG _ _ _ _ [_,_,_] ((137,fU r2.1)::_)from ?_);refine iW J J J Y<|X (fq (D J))<|X (rX (D J) Y (D J))<|Z J<|aB J (ca J)<|aB J (fun Y=>aL (bg J Y))<|aB J (fun Y=>bY (n:=17) iE J (bg J Y) J)<|aB J (fun Y=>aA (r:=rH ce [(1,aI (i6.h 0).1 (i6.h 0).2 r2.2.g'.length),(2,aI (i6.h 1).1 (i6.h 1).2 r2.2.m'.length)]) (x:=r2.2) cV J J (eF Fg) (.head _) (bg J Y))<|aB J (hM eh J)<|aB J (fun Y=>d8 (bg J Y) hI)<|dG J<|bV h J (fun h=>?_) (fun h=>?_)
     ·exact O<|bo<|bF<|ae<|aP<|aP<|aP<|so h▸ci J i6 J J (fun _ _ h=>h)
     ·refine fy<|aS<|bR h fun l1 Y_ h=>bR h fun y2 q_y2 h=>bR h fun l2 q_l2 h=>?_;refine jK 30 [tc (Q (M b 0)),tc (Q (M b 0)),tc (Q (M b 0)),tc (Q (M b 0)),tc (Q (M b 1)),tc (tO oH (i6.h 0).1 (i6.h 0).2 r2.2.g'),tc (Q (M b 0)),tc (Q (M b 0)),tc (Q (M b 17)),tc (lk r2.2.j'),tc (ek (oH) ([r2.2.j'])),([11],fun bx=>tO oH ((bx.getD 0 fe).h 0).1 ((bx.getD 0 fe).h 0).2 l1),tc (Q (M b 0)),tc (Q (M b 0)),tc (Q (M b 2)),tc (oI (i6.h 1).1 (i6.h 1).2 r2.2.m'),tc (Q (M b 0)),tc (Q (M b 0)),tc (Q (M b 2)),tc (oI (i6.h 1).1 (i6.h 1).2 r2.2.m'),tc (mR r2.2.m'),tc (bI r),tc (bI (i64.wrap ((r2.2.m'.length:Int)-r))),tc (oI (i6.h 1).1 (i6.h 1).2 y2),tc (bI i),tc (lk ([i])),([26],fun bx=>Q (aI ((bx.getD 0 fe).h 0).1 ((bx.getD 0 fe).h 0).2 l2.length)),tc (Q (M b 0)),tc (Q (M b 1)),tc (ER)] [false,false,false,false,false,false,false,false,false,false,false,true,false,false,false,false,false,false,false,false,false,false,false,false,false,false,true,false,false,true] [fun _=>[s (rH ce [(1,aI (i6.h 0).1 (i6.h 0).2 r2.2.g'.length),(2,aI (i6.h 1).1 (i6.h 1).2 r2.2.m'.length)]) 168 b r2.2,lP oH 69 (i6.h 0).1 (i6.h 0).2 r2.2.g',d5 cj 3 (i6.h 1).1 (i6.h 1).2 r2.2.m'],fun sg=>[lP oH 69 ((sg 11).h 0).1 ((sg 11).h 0).2 l1,s (rH ce [(1,aI (i6.h 0).1 (i6.h 0).2 r2.2.g'.length),(2,aI (i6.h 1).1 (i6.h 1).2 r2.2.m'.length)]) 168 b r2.2,d5 cj 3 (i6.h 1).1 (i6.h 1).2 r2.2.m'],fun sg=>[d5 cj 3 ((sg 26).h 0).1 ((sg 26).h 0).2 l2,lP oH 69 ((sg 11).h 0).1 ((sg 11).h 0).2 l1,s (rH ce [(1,aI (i6.h 0).1 (i6.h 0).2 r2.2.g'.length),(2,aI (i6.h 1).1 (i6.h 1).2 r2.2.m'.length)]) 168 b r2.2],fun sg=>[s (rH ce [(1,aI ((sg 11).h 0).1 ((sg 11).h 0).2 l1.length),(2,aI (i6.h 1).1 (i6.h 1).2 r2.2.m'.length)]) 168 b ({r2.2 with g':=l1}:aE),d5 cj 3 ((sg 26).h 0).1 ((sg 26).h 0).2 l2,lP oH 69 ((sg 11).h 0).1 ((sg 11).h 0).2 l1]] J mixed J J J J J
       ⟨⟨[⟨0,fun _=>Q (M b 0),none⟩],_,0,2,J,⟨(fun _=>J),aV⟩,J,J,J,J,J,fun _ sg _ _=>af J (ki J)⟩,
       ⟨⟨[⟨0,fun _=>Q (M b 0),none⟩],_,0,3,J,⟨(fun _=>J),aV⟩,J,J,J,J,J,fun _ sg _ _=>af J (ki J)⟩,
       ⟨⟨[⟨0,fun _=>Q (M b 0),none⟩],_,0,0,J,⟨(fun _=>J),aV⟩,J,J,J,J,J,fun _ sg _ _=>af J (ki J)⟩,
       ⟨⟨[⟨150,fun _=>Q (M b 0),some 2⟩],_,0,0,J,⟨(fun _=>J),aV⟩,J,J,J,J,J,fun _ sg _ _=>af J (aL (D J))⟩,
       ⟨⟨[⟨151,fun _=>Q (M b 0),some 3⟩],_,0,0,J,⟨(fun _=>J),aV⟩,J,J,J,J,J,fun _ sg _ _=>af J (pL 1 GG J J J)⟩,
       ⟨⟨[⟨152,fun _=>Q (M b 1),some 4⟩],_,0,0,J,⟨(fun _=>J),aV⟩,J,J,J,J,J,qv (fun sg=>af J (A4 XR J (.head _) (.tail _ (.head _)) (D J)))⟩,
       ⟨⟨[⟨0,fun _=>Q (M b 0),none⟩],_,0,0,J,⟨(fun _=>J),aV⟩,J,J,J,J,J,fun _ sg _ _=>af J (ki J)⟩,
       ⟨⟨[⟨154,fun _=>Q (M b 0),some 6⟩],_,0,0,J,⟨(fun _=>J),aV⟩,J,J,J,J,J,fun _ sg _ _=>af J (aL (D J))⟩,
       ⟨⟨[⟨155,fun _=>Q (M b 0),some 7⟩],_,0,0,J,⟨(fun _=>J),aV⟩,J,J,J,J,J,fun _ sg _ _=>af J (pL 17 iE J J J)⟩,
       ⟨⟨[⟨156,fun _=>Q (M b 17),some 8⟩],_,0,0,J,⟨(fun _=>J),aV⟩,J,J,J,J,J,qv (fun sg=>af J (aA (r:=rH ce [(1,aI (i6.h 0).1 (i6.h 0).2 r2.2.g'.length),(2,aI (i6.h 1).1 (i6.h 1).2 r2.2.m'.length)]) (x:=r2.2) cV J J (eF Fg) (.head _) (D J)))⟩,
       ⟨⟨[⟨157,fun _=>tD yj r2.2.j',some 9⟩],_,0,0,J,⟨(fun _=>J),aV⟩,J,J,J,J,J,fun _ sg _ _=>af J (aT (r:=yj) (ys:=[r2.2.j']) (xs:=[.tmp 157]) wF cV J J J J J ⟨(D J),aV⟩)⟩,
       ⟨⟨[⟨153,fun _=>tO yj (i6.h 0).1 (i6.h 0).2 r2.2.g',some 5⟩,⟨158,fun _=>tD (gE yj) ([r2.2.j']),some 10⟩],_,J,⟨(fun _=>J),(fun _=>J),aV⟩,J,J,J,fun sg=>cG J (fr1 (OB cV J J J J wF J (D J) (D J) Y_))⟩,
       ⟨⟨[⟨0,fun _=>Q (M b 0),none⟩],_,0,1,J,⟨(fun _=>J),aV⟩,J,J,J,J,J,fun _ sg _ _=>af J (ki J)⟩,
       ⟨⟨[⟨160,fun _=>Q (M b 0),some 12⟩],_,0,1,J,⟨(fun _=>J),aV⟩,J,J,J,J,J,fun _ sg _ _=>af J (aL (D J))⟩,
       ⟨⟨[⟨161,fun _=>Q (M b 0),some 13⟩],_,0,1,J,⟨(fun _=>J),aV⟩,J,J,J,J,J,fun _ sg _ _=>af J (pL 2 wr J J J)⟩,
       ⟨⟨[⟨162,fun _=>Q (M b 2),some 14⟩],_,0,1,J,⟨(fun _=>J),aV⟩,J,J,J,J,J,AD (fun sg=>af J (dR cV J (.head _) (D J))) (qv (fun sg=>af J (dR cV J (.tail _ (.head _)) (D J))))⟩,
       ⟨⟨[⟨0,fun _=>Q (M b 0),none⟩],_,0,1,J,⟨(fun _=>J),aV⟩,J,J,J,J,J,fun _ sg _ _=>af J (ki J)⟩,
       ⟨⟨[⟨164,fun _=>Q (M b 0),some 16⟩],_,0,1,J,⟨(fun _=>J),aV⟩,J,J,J,J,J,fun _ sg _ _=>af J (aL (D J))⟩,
       ⟨⟨[⟨165,fun _=>Q (M b 0),some 17⟩],_,0,1,J,⟨(fun _=>J),aV⟩,J,J,J,J,J,fun _ sg _ _=>af J (pL 2 wr J J J)⟩,
       ⟨⟨[⟨166,fun _=>Q (M b 2),some 18⟩],_,0,1,J,⟨(fun _=>J),aV⟩,J,J,J,J,J,AD (fun sg=>af J (dR cV J (.head _) (D J))) (qv (fun sg=>af J (dR cV J (.tail _ (.head _)) (D J))))⟩,
       ⟨⟨[⟨167,fun _=>Q (aI (i6.h 1).1 (i6.h 1).2 r2.2.m'.length),some 19⟩],_,0,1,J,⟨(fun _=>J),aV⟩,J,J,J,J,J,AD (fun sg=>af J (jg eh (.tail _ (.tail _ (.head _))) (D J))) (qv (fun sg=>af J (jg eh (.tail _ (.tail _ (.head _))) (D J))))⟩,
       ⟨⟨[⟨8,fun _=>tD cj r,none⟩],_,0,1,J,⟨(fun _=>J),aV⟩,J,J,J,J,J,fun _ sg _ _=>af J (ki J)⟩,
       ⟨⟨[⟨168,fun _=>tD cj (r2.2.m'.length:Int),some 20⟩,⟨169,fun _=>tD cj r,some 21⟩],_,0,1,J,⟨(fun _=>J),(fun _=>J),aV⟩,J,J,J,J,J,fun _ sg _ _=>af J (ec (D J) (D J))⟩,
       ⟨⟨[⟨163,fun _=>Q (aI (i6.h 1).1 (i6.h 1).2 r2.2.m'.length),some 15⟩,⟨170,fun _=>tD cj (i64.wrap ((r2.2.m'.length:Int)-r)),some 22⟩],_,0,1,J,⟨(fun _=>J),(fun _=>J),aV⟩,J,J,J,J,J,AD (fun sg=>af J (rp eh bH J (.tail _ (.tail _ (.head _))) (D J) (D J) q_y2)) (qv (fun sg=>af J (rp eh bH J (.tail _ (.tail _ (.head _))) (D J) (D J) q_y2)))⟩,
       ⟨⟨[⟨1,fun _=>tD cj i,none⟩],_,0,1,J,⟨(fun _=>J),aV⟩,J,J,J,J,J,fun _ sg _ _=>af J (ki J)⟩,
       ⟨⟨[⟨172,fun _=>tD cj i,some 24⟩],_,0,1,J,⟨(fun _=>J),aV⟩,J,J,J,J,J,fun _ sg _ _=>af J (aT (r:=cj) (ys:=[i]) (xs:=[.tmp 172]) eh bH J J J J J ⟨(D J),aV⟩)⟩,
       ⟨⟨[⟨171,fun _=>Q (aI (i6.h 1).1 (i6.h 1).2 y2.length),some 23⟩,⟨173,fun _=>tD yj ([i]),some 25⟩],_,J,⟨(fun _=>J),(fun _=>J),aV⟩,J,J,J,fun sg=>cG J (fr2 (Rh q_y2 (vH bH J J J J eh J (D J) (D J) q_l2)))⟩,
       ⟨⟨[⟨148,fun _=>Q (M b 0),some 0⟩],_,2,2,J,⟨(fun _=>J),aV⟩,J,J,J,J,J,fun _ sg _ _=>af J (aL (D J))⟩,
       ⟨⟨[⟨175,fun _=>Q (M b 0),some 27⟩],_,2,2,J,⟨(fun _=>J),aV⟩,J,J,J,J,J,fun _ sg _ _=>af J (pL 1 GG J J J)⟩,
       ⟨⟨[⟨176,fun _=>Q (M b 1),some 28⟩,⟨159,fun sg=>tO yj ((sg 11).h 0).1 ((sg 11).h 0).2 l1,some 11⟩],_,J,⟨(fun _=>J),(fun _=>J),aV⟩,J,J,J,fun sg=>cG J (fr2 (Dg (hs' :=[(1,aI ((sg 11).h 0).1 ((sg 11).h 0).2 l1.length),(2,aI (i6.h 1).1 (i6.h 1).2 r2.2.m'.length)]) (u:=aI ((sg 11).h 0).1 ((sg 11).h 0).2 l1.length) XR J J Tn J ⟨.inl ⟨J,J,J⟩,.inr ⟨J,J⟩,aV⟩ (D J) (mY (D J)) (DE (D J))))⟩,
       aV⟩⟩⟩⟩⟩⟩⟩⟩⟩⟩⟩⟩⟩⟩⟩⟩⟩⟩⟩⟩⟩⟩⟩⟩⟩⟩⟩⟩⟩⟩ (fun sg=>?_)
      refine(show RG _ _ _ _ [_,_,_] _ from ?_);refine X (aL (D J))<|aR 2 wr J<|f8 (Dg (hs' :=[(1,aI ((sg 11).h 0).1 ((sg 11).h 0).2 l1.length),(2,aI ((sg 26).h 0).1 ((sg 26).h 0).2 l2.length)]) (u:=aI ((sg 26).h 0).1 ((sg 26).h 0).2 l2.length) cV J J Tm J ⟨.inr ⟨J,J⟩,.inl ⟨J,J,J⟩,aV⟩ (D J) (afQ (y:=l2) (D J) NO) (D J)) fun i7=>?_;refine(show RG _ _ _ _ [_,_,_] _ from ?_);exact bC<|O<|bo<|bF<|ap<|aP<|aP<|so h▸ci J (y7 [(((sg 11).h 0).1,((sg 11).h 0).2),(((sg 26).h 0).1,((sg 26).h 0).2)]) J J (fun _ _ h=>h)
   ·obtain⟨K,h⟩:=h;refine gj K J<|aS<|ak<|aw J<|X (Cw eh bH J (.tail _ (.tail _ (.head _))) S_ (D J) (D J) (fh K))<|X (kJ (r:=cj) (i:=((i64.wrap ((l.m'.length:Int)-r))+(i5:Int))) (foff:=0) bH J J bm J (.tail _ (.tail _ (.head _))) (CT S_ (fh K)).1 (D J))<|dM J<|aK J<|aw J ?_;refine X (aL (D J))<|aR 1 GG J<|X (A4 XR J (.head _) (.tail _ (.head _)) (D J))<|Z J<|bR h fun e2 I_ h=>X (dV wF cV J (mY (D J)) (D J) I_)<|eb cV J<|aK J<|aN<|aU gq db bH J<|mV J<|Z J<|bR h fun t1 E_ h=>ac J (ca J) ?_;obtain⟨r3,r_,F_⟩:=og E_;have q_r3g:=fun V=>(r_ V).1;refine ac J (fun Y=>cC aeV (Zv _ _ (q_r3g Y)) ⟨(bg J Y),hI,aV⟩)<|X (cw (D J) (fun V=>(bg J V)) (fun V=>(r_ V).2) F_)<|bV h J (fun h=>?_) (fun h=>?_)
    ·exact O<|bo<|bF<|ae<|cF<|ae<|cF<|aP<|aP<|aP<|so h▸ci J ix J J (fun _ _ h=>h)
    ·refine fy<|aw J<|bl J<|bV h J (fun h=>?_) (fun h=>?_)
     ·refine ai<|Z J<|Z J<|X (aL (D J))<|aR 15 li J<|f8 (cY cV J (lG (hs' :=[(1,aI (ix.h 0).1 (ix.h 0).2 l.g'.length),(2,aI (ix.h 1).1 (ix.h 1).2 l.m'.length)]) JV ⟨.inr ⟨J,J⟩,.inr ⟨J,J⟩,aV⟩ J) J (D J) (D J)) fun i8z=>?_;refine(show RG _ _ _ _ [_,_,_] _ from ?_);refine aJ<|eN K hN J ?_;exact aY (aM (ih (i5+1) e2 b3 ⟨ei K,h⟩) (aX J))
     ·refine ai<|Z J<|Z J<|X (aL (D J))<|aR 16 Es J<|f8 (cY cV J (lG (hs' :=[(1,aI (ix.h 0).1 (ix.h 0).2 l.g'.length),(2,aI (ix.h 1).1 (ix.h 1).2 l.m'.length)]) JU ⟨.inr ⟨J,J⟩,.inr ⟨J,J⟩,aV⟩ J) J (D J) (D J)) fun i9=>?_;refine(show RG _ _ _ _ [_,_,_] _ from ?_);refine aJ<|eN K hN J ?_;exact aY (aM (ih (i5+1) a_ e2 ⟨ei K,h⟩) (aX J))
