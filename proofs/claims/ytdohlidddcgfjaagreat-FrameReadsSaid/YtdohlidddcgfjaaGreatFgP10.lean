import Derived.Test.YtdohlidddcgfjaaGreatFgT
import Derived.Test.YtdohlidddcgfjaaGreatFgP9
set_option linter.all false
namespace Go.Proofs.YtdohlidddcgfjaaGreat
open Go Tryz EffOK
set_option maxRecDepth 100000
def adE(b:Nat)(ix:OI) w1 p{R}(h:vU w1 p=some R):bU bt 60 [Q (M b 0),tD cQ p] (A5 b w1 ix) (fun _:OI=>tT []) (fun j=>A5 b R j):=by
 cases (show none=some R from h)
def adL(b:Nat)(ix:OI) w1 m{R}(h:vG w1 m=some R):bU bt 30 [Q (M b 0),tD ew m] (A5 b w1 ix) (fun _:OI=>tT []) (fun j=>A5 b R j):=by
 refine bU.of func30 J J J fun w0 S0=>?_;refine(show CG _ _ _ [s (rH tG [(0,aI (ix.h 0).1 (ix.h 0).2 w1.bytes.length)]) 60 b w1,lP (rI .u8) 5 (ix.h 0).1 (ix.h 0).2 w1.bytes] _ from ?_);refine O<|eH J<|bC<|aw J<|aU rG nU bH J<|aU vT s0 bH J<|aU vS sZ bH J<|aU uZ rA bH J<|X (aT (r:=cj) (ys:=[m.Kind,m.f_,m.To,m.P']) (xs:=[.tmp 6,.tmp 8,.tmp 10,.tmp 12]) eh bH J J J J J ⟨(D J),(D J),(D J),(D J),aV⟩)<|bR h fun r q_ h=>bc (fr1 (fr1 (ay (xs:=[.tmp 4,.tmp 13]) (ts:=[Q (M b 0),lk ([m.Kind,m.f_,m.To,m.P'])]) (A5 b w1 ix) _ J acU (Wq b ix w1 _ q_) ⟨(D J),(D J),aV⟩ (fun _=>J)))) J fun i=>?_;refine(show RG _ _ _ _ [_,_] ((14,tT [])::_)from ?_);refine bC<|O<|aU rG nU bH J<|bC<|ak<|O<|bl J<|aK J<|fz h J (fun h=>?_) (fun h=>?_)
 ·refine aw J<|aU tu rz bH J<|X (aT (r:=cj) (ys:=[m.U']) (xs:=[.tmp 21]) eh bH J J J J J ⟨(D J),aV⟩)<|bR h fun r1 I' h=>bc (fr1 (fr1 (ay (xs:=[.tmp 19,.tmp 22]) (ts:=[Q (M b 0),lk ([m.U'])]) (A5 b r i) _ J acU (Wq b i r _ I') ⟨(D J),(D J),aV⟩ (fun _=>J)))) J fun i1=>?_;refine(show RG _ _ _ _ [_,_] ((23,tT [])::_)from ?_);refine bC<|ai<|Z J<|aU ux uw AF J<|bR h fun r2 Y' h=>bc (fr1 (fr1 (ay (xs:=[.tmp 24,.tmp 26]) (ts:=[Q (M b 0),tD jL m.b_]) (A5 b r1 i1) _ J agE (adK b i1 r1 _ Y') ⟨(D J),(D J),aV⟩ (fun _=>J)))) J fun i2=>?_;refine(show RG _ _ _ _ [_,_] ((27,tT [])::_)from ?_);exact aJ<|ah<|ap<|ap<|so h▸mQ J i2 J J
 ·refine dP (aH:=fun x=>oU m r x=some R) (Of:=fun x=>[s (rH tG [(0,aI (i.h 0).1 (i.h 0).2 r.bytes.length)]) 60 b r,lP (rI .u8) 5 (i.h 0).1 (i.h 0).2 r.bytes]) (Gf:=fun x=>[(0,Q (M b 0)),(3,da ew m),(16,bI m.Kind),(28,fU x)]) (fun x h=>?_) (fun hx=>?_)
  ·skip;refine fz h J (fun h=>?_) (fun h=>?_)
   ·refine aw J<|aU qE pT bH J<|X (aT (r:=cj) (ys:=[m.e_]) (xs:=[.tmp 33]) eh bH J J J J J ⟨(D J),aV⟩)<|bR h fun r3 C_ h=>bc (fr1 (fr1 (ay (xs:=[.tmp 31,.tmp 34]) (ts:=[Q (M b 0),lk ([m.e_])]) (A5 b r i) _ J acU (Wq b i r _ C_) ⟨(D J),(D J),aV⟩ (fun _=>J)))) J fun i3=>?_;refine(show RG _ _ _ _ [_,_] ((35,tT [])::_)from ?_);refine bC<|ai<|Z J<|aU rF ry mX J<|bR h fun r4 J_ h=>bc (fr1 (fr1 (ay (xs:=[.tmp 36,.tmp 38]) (ts:=[Q (M b 0),tD cQ m.C']) (A5 b r3 i3) _ J agn (adE b i3 r3 _ J_) ⟨(D J),(D J),aV⟩ (fun _=>J)))) J fun i4=>?_;refine(show RG _ _ _ _ [_,_] ((39,tT [])::_)from ?_);exact aJ<|ah<|ap<|ap<|so h▸mQ J i4 J J
   ·refine O<|bl J<|aK J<|fz h J (fun h=>?_) (fun h=>?_)
    ·refine ai<|Z J<|aU rE rx wa J<|bl J<|bR h fun r5 K_ h=>bc (fr1 (fr1 (ay (xs:=[.tmp 42,.tmp 45]) (ts:=[Q (M b 0),fU (m.G_==300)]) (A5 b r i) _ J agm (adD b i r _ K_) ⟨(D J),(D J),aV⟩ (fun _=>J)))) J fun i5=>?_;refine(show RG _ _ _ _ [_,_] ((46,tT [])::_)from ?_);exact aJ<|ah<|ap<|ap<|so h▸mQ J i5 J J
    ·exact aW<|ah<|ap<|ap<|so h▸mQ J i J J
  ·skip;refine O<|bl J<|aK J<|fz h J (fun h=>?_) (fun h=>?_)
   ·refine aW ?_;exact bE (hx (m.Kind==3) h) (aX J)
   ·refine ai<|bl J<|dM J<|aJ ?_;exact bE (hx (m.Kind==4) h) (aX J)
def acH m{R}(h:Eh m=some R):dk bt 12 [tD ew m] (tT [ek ((rI .u8)) R.1,bI R.2]):=by
 refine dX func12 J<|O<|eH J<|fb ((rI .u8))<|bP<|bC<|aN<|eb fj J<|ej h adW (Ws _) (co J) fun r h=>X (fq (D J))<|bV h J (fun h=>?_) (fun h=>?_)
 ·exact O<|fb ((rI .u8))<|ea<|ae<|so h▸cM J J J
 ·refine fy<|O<|X (cI (r:=rH tG [(0,.slice none 0 0)]) (y:=(⟨[]⟩:kb)) afJ afU (zH SU ⟨J,aV⟩) (J))<|ss (D J) J fun b=>cn true (rI .u8) 5 ?_;refine(show RG _ _ _ _ [_,_] _ from ?_);refine aK J<|aw J<|eb fj J<|bR h fun r1 I' h=>bc (fr1 (ay (xs:=[.tmp 11,.tmp 12]) (ts:=[Q (M b 0),tD ew m]) (A5 b (⟨[]⟩:kb) (y7 [(none,0)])) _ J agK (adL b (y7 [(none,0)]) (⟨[]⟩:kb) _ I') ⟨(D J),(D J),aV⟩ (fun _=>J))) J fun i=>?_;refine(show RG _ _ _ _ [_,_] ((13,tT [])::_)from ?_);refine bC<|aw J<|X (aL (D J))<|aR 0 Qv J<|X (A4 wN J (.head _) (.tail _ (.head _)) (D J))<|lp h adY (Sc _) ⟨(mY (D J)),aV⟩ fun r2 h l c=>aK J<|aN<|Z J<|X (jg gV (.head _) (D J))<|X (d8 (D J) hI)<|bV h J (fun h=>?_) (fun h=>?_)
  ·exact O<|fb ((rI .u8))<|ea<|ae<|aF<|aF<|aF<|so h▸cM J J J
  ·exact fy<|aw J<|dM J<|ea<|dE<|bS 2 J<|bS 18 J<|bS 5 J<|bS 19 J<|bS 22 J<|fa 2 J<|aF<|aF<|aF<|so h▸cM J J J
def QC a1 b{R}(h:pg a1 b=some R):dk bt 17 [ek ((rI .u8)) a1,ek ((rI .u8)) b] (fU R):=by
 exact dX func17 J<|O<|bo<|bC<|aw J<|X (BS gV ln Dy iV J (D J))<|Z J<|X (BS gV ln Dy iV J (D J))<|X (GB (D J) (D J))<|ba J<|so h▸aC J J
def acL{R}(h:Ba=some R):dk bt 10 [] (fU R):=by
 refine dX func10 J<|O<|bo<|bC<|O<|X (cI (y:=(⟨2,2,0,3,0,0,⟨[]⟩,⟨0,0,0,0,⟨[],false,0⟩⟩,0⟩:cH)) fj Gi mU (⟨_,_,_,_,_,J,DN,J,hI,⟨_,_,_,_,_,J,DM,J,hI,⟨_,_,_,_,_,J,DL,J,hI,J⟩⟩⟩))<|ej h agS (acH _) (co J) fun r h=>Z J<|dJ J J<|dJ J J<|dM J<|aK J<|aw J<|bl J<|Z J<|ac J (ca J) ?_;refine ac J (hM gV J)<|ac J (iq J)<|cm J<|Z J<|bR h fun t u_ h=>ac J (ca J) ?_;obtain⟨y,h_,v_⟩:=og u_;have q_yg:=fun V=>(h_ V).1;refine ac J (fun Y=>w4 gV iV J (bg J Y) hI (q_yg Y))<|ac J (fun Y=>aT (r:=(rI .u8)) (ys:=[2,2,0,3]) (xs:=[.const (.int .u8 (2)),.const (.int .u8 (2)),.const (.int .u8 (0)),.const (.int .u8 (3))]) gV iV J J J J J ⟨hI,hI,hI,hI,aV⟩) ?_;obtain⟨r1,h_⟩:=og2 (fun V=>(h_ V).2);have k_:=fun V=>(h_ V).1;exact ac J (fun Y=>cC acX (QC _ _ (k_ Y)) ⟨(bg J Y),(bg J Y),aV⟩)<|X (cw (D J) (fun V=>(bg J V)) (fun V=>(h_ V).2) v_)<|ba J<|so h▸aC J J
