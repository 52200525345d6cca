/- cd of this claim: P4. -/
import Derived.Test.YtmogpgcfognefaaGreatDoorNcT
import Derived.Test.YtmogpgcfognefaaGreatDoorNcP3
set_option linter.all false
namespace Go.Proofs.YtmogpgcfognefaaGreatDoor
open Go
set_option maxRecDepth 100000

theorem KF(s:(List kj))(f:(kj→Option Bool)){R:Int}(h:fk s f=some R):aW aM 218 [d6 (lr) s,(eN aM HW kS (fun(x:kj)=>f x))] (bQ R):=by
 refine aW.of Tryz.func218 J J J fun w0 S0=>au<|zo J (dA)<|ap<|ae<|au<|ax J<|zo J (gJ A1 J)<|zo J (bg hI)<|ap<|av<|aP (k:=6) J fun hN=>bu ?_;refine aG (dk (Z:=fun ls i=>(s.drop i=ls)∧cU f ls i=some R) (Of:=fun _ i=>[]) (Gf:=fun _ i=>[(0,d6 (lr) s),(1,(eN aM HW kS (fun(x:kj)=>f x))),(7,gR s),(8,bQ (i:Int))]) (fun i h=>?_) (fun e tl ih i h=>?_) s 0 ⟨J,h⟩) (aX J)
 ·obtain⟨hx,h⟩:=h
  refine aq<|au<|zo J (eD J J)<|ap<|ae<|bn (ht J) (cW hx)<|aY ?_;refine ac (ac (aC ?_));refine am<|au<|zo rfl (dA)<|ap<|al ?_;cases so h;exact aB J J
 ·obtain⟨hx,h⟩:=h
  refine aq<|au<|zo J (eD J J)<|ap<|ae<|bm (ht J) (cR hx)<|dz<|ae<|av<|au<|ax J<|bo J<|ap<|au<|ax J<|ax J<|ax J<|zo J (im A1 z6 J J J (cS hx)) ?_;refine zo J (bw z6 J J)<|bF h fun r q_r h=>zo J (fK (args:=HW) (res:=xu) (f:=(fun(x:kj)=>f x)) (x:=((e):kj)) (ht J) q_r ⟨(ht J),be⟩)<|ap<|dh h J (fun h=>?_) (fun h=>?_)
  ·refine au<|ax J<|bo J<|ap<|al ?_;refine aA (aa (aa (aA (aa ?_))));cases so h;exact aB J J
  ·refine bt<|ak<|am<|ai<|zo rfl (jN (cy hx hN) rfl)<|ax rfl<|aH ?_;exact aO (aG (ih (i+1) ⟨cx hx,h⟩) (aX J))

theorem Le(s:(List kj))(f:(kj→Option Bool)){R:Bool}(h:dx s f=some R):aW aM 161 [d6 (lr) s,(eN aM HW kS (fun(x:kj)=>f x))] (gu R):=by
 refine aW.of Tryz.func161 J J J fun w0 S0=>au<|zo J (eL)<|ap<|au<|ax J<|ax J<|bF h fun r q_r h=>zo J (aJ PU (KF _ _ q_r) ⟨(ht J),(ht J),be⟩)<|zo J (dG (ht J) hI)<|bo J<|ap<|al ?_;cases so h;exact aB J J

theorem Ld(l:af)(o:kj){R:Bool}(h:kK l o=some R):aW aM 162 [tD lr o,bp (Rc aN) l] (gu R):=by
 refine aW.of Tryz.func162 J J J fun w0 S0=>au<|zo J (kZ J)<|zo J (eL)<|ap<|ae ?_
 refine eb (ts:=[_,_,_,_,_,_,_,_,_,_,_,_,_,_]) mixed J J
  ⟨gF 2 J J J (bY FI yC J J),
  ⟨cL 4 0 J J J (bw bK J J),
  ⟨cL 5 1 J J J (ep (ht J) hI),
  ⟨cL 6 2 J J J (cz J),
  ⟨mH 2 7 3 J J J J (eY J J J J (fun hg=>bY FI yC J J)),
  ⟨fj 8 4 7 3 J J J J (eY J J J J (fun hg=>aL bK J J (aI J hg))),
  ⟨mH 1 7 3 J J J J (eY J J J J (fun hg=>(bw xD J J).imp (fun _ _ h=>JT.1 h))),
  ⟨fj 10 6 7 3 J J J J (eY J J J J (fun hg=>Fu (aI J hg))),
  ⟨fj 11 7 7 3 J J J J (eY J J J J (fun hg=>cI gc J kN J (aI J hg))),
  ⟨fj 12 8 7 3 J J J J (eY J J J J (fun hg=>aL bZ J J (aI J hg))),
  ⟨fj 13 9 7 3 J J J J (eY J J J J (fun hg=>bR dd (aI J hg))),
  ⟨pL 9 5 14 10 7 3 J J J J J (eY J J J J (fun hg=>dG (aI J hg) (aI J hg))),
  ⟨eu 7 3 15 11 J J J J (oQ J J),
  ⟨cL 16 12 J J J (xx J),
  be⟩⟩⟩⟩⟩⟩⟩⟩⟩⟩⟩⟩⟩⟩ ?_
 refine am<|al ?_;cases so h;exact aB J J

theorem Pg(b:Nat)(ix:OI)(l:af){R:Bool×af}(h:iW l=some R):eV aM 93 [tV (aF b 0)] (dl b l ix) (fun _:OI=>gu R.1) (fun j=>dl b R.2 j):=by
 refine eV.of Tryz.func93 J J J fun w0 S0=>?_;refine(show CG _ _ _ [bx (rH aN [(1,an (ix.h 0).1 (ix.h 0).2 l.kinds.length),(2,an (ix.h 1).1 (ix.h 1).2 l.open_.length)]) 124 b l,fA gr 29 (ix.h 0).1 (ix.h 0).2 l.kinds,cC bV 3 (ix.h 1).1 (ix.h 1).2 l.open_] _ from ?_);refine au<|zo J (J5 (fun _ _ h=>by rw [show _=_ from h];rfl) (ht J))<|zo J (eL)<|ap<|ae ?_
 refine oP 7 (ts:=[tV (aF b 0),tV (aF b 0),tV (aF b 0),tV (aF b 15),kC l.a_,tV (aF b 0),tV (aF b 17)]) mixed J J J
  ⟨gF 1 J J J (pU xD (ht J)),
  ⟨gF 1 J J J (pU xD (ht J)),
  ⟨cL 5 1 J J J (aR (ht J)),
  ⟨cL 6 2 J J J (gq 15 gc J J J),
  ⟨cL 7 3 J J J (bk (r:=rH aN [(1,an (ix.h 0).1 (ix.h 0).2 l.kinds.length),(2,an (ix.h 1).1 (ix.h 1).2 l.open_.length)]) (x:=l) bZ J J (fi kN) (.head _) (ht J)),
  ⟨cL 4 0 J J J (aR (ht J)),
  ⟨cL 9 5 J J J (gq 17 dZ J J J),
  be⟩⟩⟩⟩⟩⟩⟩ ?_
 refine ll (gD bZ J (rA (hs' :=[(1,an (ix.h 0).1 (ix.h 0).2 l.kinds.length),(2,an (ix.h 1).1 (ix.h 1).2 l.open_.length)]) nY ⟨.inr ⟨J,J⟩,.inr ⟨J,J⟩,be⟩ J) J (ht J) (ht J)) (fun i=>?_);refine(show RG _ _ _ _ [bx (rH aN [(1,an (ix.h 0).1 (ix.h 0).2 l.kinds.length),(2,an (ix.h 1).1 (ix.h 1).2 l.open_.length)]) 124 b ({l with result:=l.a_}:af),fA gr 29 (ix.h 0).1 (ix.h 0).2 l.kinds,cC bV 3 (ix.h 1).1 (ix.h 1).2 l.open_] _ from ?_);refine ap<|au<|zo J (pU xD (ht J))<|zo J (aR (ht J))<|zo J (gq 3 eU J J J)<|zo J (gq 13 uM J J J)<|zo J (bk (r:=rH aN [(1,an (ix.h 0).1 (ix.h 0).2 l.kinds.length),(2,an (ix.h 1).1 (ix.h 1).2 l.open_.length)]) (x:=({l with result:=l.a_}:af)) H4 J J (fi (eP dL nv)) (.head _) (ht J))<|zo J ((show bL _ _ _ _ (Ib aN ({l with result:=l.a_}:af) b ((eN aM HW kS (fun(x:kj)=>(kK ({l with result:=l.a_}:af)) x))))from Br (cts:=[bp (Rc aN) ({l with result:=l.a_}:af)]) (caps:=[.tmp 1]) Qs (fun S S1 a hf hle hk=>ni (ET (ht J) hf hle hk) trivial) (fun x y h=>Ld _ _ h)))<|bF h fun r q_r h=>zo J (ym (r:=rH aN [(1,an (ix.h 0).1 (ix.h 0).2 l.kinds.length),(2,an (ix.h 1).1 (ix.h 1).2 l.open_.length)]) (rd:=aN) (T:=124) (b:=b) (x:=({l with result:=l.a_}:af)) (y:=({l with result:=l.a_}:af)) (.head _) Qt (Le _ _ q_r) (fun _ _ _ _ h=>h.1) (fun S S1 a hf hle hk=>ni (Ff (ht J) hf hle) (ni (JO (ht J) hf hle hk) trivial)) Bf)<|bo J<|ap<|au<|ax J<|zo J (dn (ht J))<|ax J<|bC J J (fun hg=>pU xD (ht J))<|bC J J (fun hg=>aR (aI J hg))<|bC J J (fun hg=>bz (n:=3) eU J (aI J hg) J)<|bC J J (fun hg=>bz (n:=13) uM J (aI J hg) J) ?_;refine bC J J (fun hg=>bk (r:=rH aN [(1,an (ix.h 0).1 (ix.h 0).2 l.kinds.length),(2,an (ix.h 1).1 (ix.h 1).2 l.open_.length)]) (x:=({l with result:=l.a_}:af)) H4 J J (fi (eP dL nv)) (.head _) (aI J hg))<|bC J J (fun hg=>bR A1 (aI J hg))<|bC J J (fun hg=>hU (aI J hg) hI)<|zo J (ki J J)<|ax J<|bC J J (fun hg=>pU xD (ht J))<|bC J J (fun hg=>aR (aI J hg))<|bC J J (fun hg=>bz (n:=3) eU J (aI J hg) J)<|bC J J (fun hg=>bz (n:=14) uL J (aI J hg) J)<|bC J J (fun hg=>bk (r:=rH aN [(1,an (ix.h 0).1 (ix.h 0).2 l.kinds.length),(2,an (ix.h 1).1 (ix.h 1).2 l.open_.length)]) (x:=({l with result:=l.a_}:af)) bK J J (fi (eP dL nu)) (.head _) (aI J hg))<|bC J J (fun hg=>dG (aI J hg) hI)<|zo J (ki J J)<|ax J<|bC J J (fun hg=>pU xD (ht J))<|bC J J (fun hg=>aR (aI J hg))<|bC J J (fun hg=>bz (n:=3) eU J (aI J hg) J)<|bC J J (fun hg=>bz (n:=14) uL J (aI J hg) J)<|bC J J (fun hg=>bk (r:=rH aN [(1,an (ix.h 0).1 (ix.h 0).2 l.kinds.length),(2,an (ix.h 1).1 (ix.h 1).2 l.open_.length)]) (x:=({l with result:=l.a_}:af)) bK J J (fi (eP dL nu)) (.head _) (aI J hg))<|bC J J (fun hg=>hU (aI J hg) hI)<|zo J (ki J J)<|bo J<|ap<|al ?_;refine aK<|aK<|aK ?_;cases so h;exact cX J ix J J (fun _ _ h=>h)

theorem NK{R:(List (Int×(af→Unit→Option (Bool×af))))}(h:pT=some R):aW aM 46 [] (Jz (fun y:(af→Unit→Option (Bool×af))=>ln (fun bb=>gG aM (fun(x:Unit)=>[tV (aF bb 0)]) (dl bb) kS y)) A7 R):=by
 refine aW.of Tryz.func46 J J J fun w0 S0=>au<|zo J (a8 (show aw _ _ (.const (.map none)) (tV (.map none))from fun _ _ _=>J))<|ap<|au<|y4 (Iw (fun y:(af→Unit→Option (Bool×af))=>ln (fun bb=>gG aM (fun(x:Unit)=>[tV (aF bb 0)]) (dl bb) kS y))) A7 J fun b=>fH (γ:=(fun y:(af→Unit→Option (Bool×af))=>ln (fun bb=>gG aM (fun(x:Unit)=>[tV (aF bb 0)]) (dl bb) kS y))) (y:=(fun(mc:af) (mx:Unit)=>iX mc)) wD (ff iF) (ht J) (nU hI) (show aw _ _ _ (ln (fun bb=>gG aM (fun(x:Unit)=>[tV (aF bb 0)]) (dl bb) kS (fun(mc:af) (mx:Unit)=>iX mc)))from(yx fun bb=>kr RV (fun c x R h i=>Ps _ _ _ h))) fun os=>fH (γ:=(fun y:(af→Unit→Option (Bool×af))=>ln (fun bb=>gG aM (fun(x:Unit)=>[tV (aF bb 0)]) (dl bb) kS y))) (y:=(fun(mc:af) (mx:Unit)=>iq mc)) wD (ff iF) (ht J) (nU hI) (show aw _ _ _ (ln (fun bb=>gG aM (fun(x:Unit)=>[tV (aF bb 0)]) (dl bb) kS (fun(mc:af) (mx:Unit)=>iq mc)))from(yx fun bb=>kr RU (fun c x R h i=>Pr _ _ _ h))) fun os1=>fH (γ:=(fun y:(af→Unit→Option (Bool×af))=>ln (fun bb=>gG aM (fun(x:Unit)=>[tV (aF bb 0)]) (dl bb) kS y))) (y:=(fun(mc:af) (mx:Unit)=>iY mc)) wD (ff iF) (ht J) (nU hI) (show aw _ _ _ (ln (fun bb=>gG aM (fun(x:Unit)=>[tV (aF bb 0)]) (dl bb) kS (fun(mc:af) (mx:Unit)=>iY mc)))from(yx fun bb=>kr RT (fun c x R h i=>Pq _ _ _ h))) fun os2=>fH (γ:=(fun y:(af→Unit→Option (Bool×af))=>ln (fun bb=>gG aM (fun(x:Unit)=>[tV (aF bb 0)]) (dl bb) kS y))) (y:=(fun(mc:af) (mx:Unit)=>gS mc)) wD (ff iF) (ht J) (nU hI) (show aw _ _ _ (ln (fun bb=>gG aM (fun(x:Unit)=>[tV (aF bb 0)]) (dl bb) kS (fun(mc:af) (mx:Unit)=>gS mc)))from(yx fun bb=>kr RS (fun c x R h i=>Pp _ _ _ h))) fun os3=>fH (γ:=(fun y:(af→Unit→Option (Bool×af))=>ln (fun bb=>gG aM (fun(x:Unit)=>[tV (aF bb 0)]) (dl bb) kS y))) (y:=(fun(mc:af) (mx:Unit)=>eS mc)) wD (ff iF) (ht J) (nU hI) (show aw _ _ _ (ln (fun bb=>gG aM (fun(x:Unit)=>[tV (aF bb 0)]) (dl bb) kS (fun(mc:af) (mx:Unit)=>eS mc)))from(yx fun bb=>kr Pz (fun c x R h i=>Po _ _ _ h))) fun os4=>fH (γ:=(fun y:(af→Unit→Option (Bool×af))=>ln (fun bb=>gG aM (fun(x:Unit)=>[tV (aF bb 0)]) (dl bb) kS y))) (y:=(fun(mc:af) (mx:Unit)=>gv mc)) wD (ff iF) (ht J) (nU hI) (show aw _ _ _ (ln (fun bb=>gG aM (fun(x:Unit)=>[tV (aF bb 0)]) (dl bb) kS (fun(mc:af) (mx:Unit)=>gv mc)))from(yx fun bb=>kr RR (fun c x R h i=>Pm _ _ _ h))) fun os5=>fH (γ:=(fun y:(af→Unit→Option (Bool×af))=>ln (fun bb=>gG aM (fun(x:Unit)=>[tV (aF bb 0)]) (dl bb) kS y))) (y:=(fun(mc:af) (mx:Unit)=>ir mc)) wD (ff iF) (ht J) (nU hI) (show aw _ _ _ (ln (fun bb=>gG aM (fun(x:Unit)=>[tV (aF bb 0)]) (dl bb) kS (fun(mc:af) (mx:Unit)=>ir mc)))from(yx fun bb=>kr RQ (fun c x R h i=>Pl _ _ _ h))) fun os6=>fH (γ:=(fun y:(af→Unit→Option (Bool×af))=>ln (fun bb=>gG aM (fun(x:Unit)=>[tV (aF bb 0)]) (dl bb) kS y))) (y:=(fun(mc:af) (mx:Unit)=>iB mc)) wD (ff iF) (ht J) (nU hI) (show aw _ _ _ (ln (fun bb=>gG aM (fun(x:Unit)=>[tV (aF bb 0)]) (dl bb) kS (fun(mc:af) (mx:Unit)=>iB mc)))from(yx fun bb=>kr RP (fun c x R h i=>Pj _ _ _ h))) fun os7=>fH (γ:=(fun y:(af→Unit→Option (Bool×af))=>ln (fun bb=>gG aM (fun(x:Unit)=>[tV (aF bb 0)]) (dl bb) kS y))) (y:=(fun(mc:af) (mx:Unit)=>jL mc)) wD (ff iF) (ht J) (nU hI) (show aw _ _ _ (ln (fun bb=>gG aM (fun(x:Unit)=>[tV (aF bb 0)]) (dl bb) kS (fun(mc:af) (mx:Unit)=>jL mc)))from(yx fun bb=>kr RO (fun c x R h i=>Pi _ _ _ h))) fun os8=>fH (γ:=(fun y:(af→Unit→Option (Bool×af))=>ln (fun bb=>gG aM (fun(x:Unit)=>[tV (aF bb 0)]) (dl bb) kS y))) (y:=(fun(mc:af) (mx:Unit)=>ip mc)) wD (ff iF) (ht J) (nU hI) (show aw _ _ _ (ln (fun bb=>gG aM (fun(x:Unit)=>[tV (aF bb 0)]) (dl bb) kS (fun(mc:af) (mx:Unit)=>ip mc)))from(yx fun bb=>kr RN (fun c x R h i=>Ph _ _ _ h))) fun os9=>fH (γ:=(fun y:(af→Unit→Option (Bool×af))=>ln (fun bb=>gG aM (fun(x:Unit)=>[tV (aF bb 0)]) (dl bb) kS y))) (y:=(fun(mc:af) (mx:Unit)=>iW mc)) wD (ff iF) (ht J) (nU hI) (show aw _ _ _ (ln (fun bb=>gG aM (fun(x:Unit)=>[tV (aF bb 0)]) (dl bb) kS (fun(mc:af) (mx:Unit)=>iW mc)))from(yx fun bb=>kr RM (fun c x R h i=>Pg _ _ _ h))) fun os10=>ax J<|bo J<|ap ?_;refine al<|ww 0 J ?_;cases so h;exact aB J J

theorem Nt(op:Int){R:Int}(h:qv op=some R):aW aM 94 [bQ op] (bQ R):=by
 refine aW.of Tryz.func94 J J J fun w0 S0=>au<|zo J (dA)<|ap<|ae<|au<|ax J<|ap<|av ?_;refine fX (Z:=fun x=>m7 op x=some R) (Of:=fun x=>[]) (Gf:=fun x=>[(3,bQ op),(4,gu x)]) (fun x h=>?_) (fun K=>?_)
 ·skip
  refine dh h J (fun h=>?_) (fun h=>?_)
  ·refine au<|zo J (dA)<|ap<|al ?_;refine aA (aa ?_);cases so h;exact aB J J
  ·refine fX (Z:=fun x1=>m6 op x1=some R) (Of:=fun x1=>[]) (Gf:=fun x1=>[(3,bQ op),(7,gu x1)]) (fun x1 h=>?_) (fun K1=>?_)
   ·skip
    refine dh h J (fun h=>?_) (fun h=>?_)
    ·refine au<|zo J (dA)<|ap<|al ?_;refine aA (aa ?_);cases so h;exact aB J J
    ·refine fX (Z:=fun x2=>f8 x2=some R) (Of:=fun x2=>[]) (Gf:=fun x2=>[(10,gu x2)]) (fun x2 h=>?_) (fun K2=>?_)
     ·skip
      refine dh h J (fun h=>?_) (fun h=>?_)
      ·refine au<|zo J (dA)<|ap<|al ?_;refine aA (aa ?_);cases so h;exact aB J J
      ·refine bt<|ak<|am<|au<|zo rfl (dA)<|ap<|al ?_;cases so h;exact aB J J
     ·skip
      refine au<|zo J (jk J)<|bo J<|ap<|dh h J (fun h=>?_) (fun h=>?_)
      ·refine bt ?_;exact bX (K2 (op==(3:Int)) h) (aX J)
      ·refine au<|zo J (jk J)<|bo J<|ap<|dh h J (fun h=>?_) (fun h=>?_)
       ·refine bt ?_;exact bX (K2 (op==(4:Int)) h) (aX J)
       ·refine au<|zo J (jk J)<|bo J<|ap<|dh h J (fun h=>?_) (fun h=>?_)
        ·refine bt ?_;exact bX (K2 (op==(5:Int)) h) (aX J)
        ·refine au<|zo J (jk J)<|bo J<|ap<|dh h J (fun h=>?_) (fun h=>?_)
         ·refine bt ?_;exact bX (K2 (op==(6:Int)) h) (aX J)
         ·refine au<|zo J (jk J)<|bo J<|ap<|dh h J (fun h=>?_) (fun h=>?_)
          ·refine bt ?_;exact bX (K2 (op==(8:Int)) h) (aX J)
          ·refine au<|zo J (jk J)<|bo J<|ap<|dh h J (fun h=>?_) (fun h=>?_)
           ·refine bt ?_;exact bX (K2 (op==(10:Int)) h) (aX J)
           ·refine ai<|zo J (jk J)<|bo J<|aH ?_;exact bX (K2 (op==(11:Int)) h) (aX J)
   ·skip
    refine au<|zo J (jk J)<|bo J<|ap<|dh h J (fun h=>?_) (fun h=>?_)
    ·refine bt ?_;exact bX (K1 (op==(2:Int)) h) (aX J)
    ·refine ai<|zo J (jk J)<|bo J<|aH ?_;exact bX (K1 (op==(7:Int)) h) (aX J)
 ·skip
  refine au<|zo J (jk J)<|bo J<|ap<|dh h J (fun h=>?_) (fun h=>?_)
  ·refine bt ?_;exact bX (K (op==(1:Int)) h) (aX J)
  ·refine ai<|zo J (jk J)<|bo J<|aH ?_;exact bX (K (op==(9:Int)) h) (aX J)

theorem Ns(n:aZ){R:Bool}(h:qw n=some R):aW aM 95 [tD aS n] (gu R):=by
 refine aW.of Tryz.func95 J J J fun w0 S0=>au<|zo J (kZ J)<|zo J (eL)<|ap<|ae ?_
 refine eb (ts:=[_,_,_,_,_,_,_,_,_,_,_,_,_,_,_,_,_,_,_,_,_,_,_]) mixed J J
  ⟨gF 1 J J J (bY gN cT J J),
  ⟨cL 6 0 J J J (bw bK J J),
  ⟨cL 7 1 J J J (jk J),
  ⟨cL 8 2 J J J (cz J),
  ⟨mH 1 9 3 J J J J (eY J J J J (fun hg=>bY gN cT J J)),
  ⟨fj 10 4 9 3 J J J J (eY J J J J (fun hg=>aL bK J J (aI J hg))),
  ⟨fj 11 5 9 3 J J J J (eY J J J J (fun hg=>bD (aI J hg) hI)),
  ⟨eu 9 3 12 6 J J J J (oQ J J),
  ⟨gF 1 J J J (bY gN cT J J),
  ⟨cL 14 8 J J J (bw bK J J),
  ⟨cL 15 9 J J J (jk J),
  ⟨cL 16 10 J J J (cz J),
  ⟨mH 1 17 11 J J J J (eY J J J J (fun hg=>bY gN cT J J)),
  ⟨fj 18 12 17 11 J J J J (eY J J J J (fun hg=>aL bK J J (aI J hg))),
  ⟨fj 19 13 17 11 J J J J (eY J J J J (fun hg=>bD (aI J hg) hI)),
  ⟨eu 17 11 20 14 J J J J (oQ J J),
  ⟨cL 21 15 J J J (cz J),
  ⟨mH 1 22 16 J J J J (eY J J J J (fun hg=>bY gN cT J J)),
  ⟨fj 23 17 22 16 J J J J (eY J J J J (fun hg=>aL bK J J (aI J hg))),
  ⟨fj 24 18 22 16 J J J J (eY J J J J (fun hg=>bD (aI J hg) hI)),
  ⟨eu 22 16 25 19 J J J J (oQ J J),
  ⟨cL 13 7 J J J (xx J),
  ⟨cL 26 20 J J J (xx J),
  be⟩⟩⟩⟩⟩⟩⟩⟩⟩⟩⟩⟩⟩⟩⟩⟩⟩⟩⟩⟩⟩⟩⟩ ?_
 refine am<|au<|ax rfl<|ax rfl<|cw rfl rfl (fun hg=>bY nE gC J J)<|cw J J (fun hg=>aL bK J J (aI J hg))<|cw J J (fun hg=>bD (aI J hg) hI)<|cw J J (fun hg=>bg (aI J hg))<|fN J J J J (fun hg=>bY oK ib J J)<|fN J J J J (fun hg=>aL bZ J J (aI J hg))<|fN J J J J (fun hg=>bR dd (aI J hg))<|fN J J J J (fun hg=>bD (aI J hg) hI)<|cw J J (fun hg=>lv (aI J hg) (fun hb=>(aI J (pF hg hb))))<|zo J (oQ J J)<|bo J<|ap<|au<|ax J<|ax J<|bC J J (fun hg=>bY gN cT J J)<|bC J J (fun hg=>aL bK J J (aI J hg)) ?_;refine bC J J (fun hg=>bD (aI J hg) hI)<|bC J J (fun hg=>bg (aI J hg))<|cb J J J J (fun hg=>bY Nq EC J J)<|cb J J J J (fun hg=>aL H5 J J (aI J hg))<|cb J J J J (fun hg=>dn (aI J hg))<|bC J J (fun hg=>jT (aI J hg) (fun hb=>(aI J (pF hg (mz hb)))))<|zo J (ki J J)<|ax J<|bC J J (fun hg=>bY gN cT J J)<|bC J J (fun hg=>aL bK J J (aI J hg))<|bC J J (fun hg=>bD (aI J hg) hI)<|bC J J (fun hg=>bg (aI J hg))<|cb J J J J (fun hg=>bY gN cT J J)<|cb J J J J (fun hg=>aL bK J J (aI J hg))<|cb J J J J (fun hg=>bD (aI J hg) hI)<|bC J J (fun hg=>jT (aI J hg) (fun hb=>(aI J (pF hg (mz hb)))))<|bC J J (fun hg=>bg (aI J hg))<|cb J J J J (fun hg=>bY yJ oI J J)<|cb J J J J (fun hg=>cI fV J dj J (aI J hg))<|cb J J J J (fun hg=>aL mJ J J (aI J hg))<|cb J J J J (fun hg=>bR kE (aI J hg))<|cb J J J J (fun hg=>bD (aI J hg) hI)<|bC J J (fun hg=>jT (aI J hg) (fun hb=>(aI J (pF hg (mz hb)))))<|zo J (ki J J) ?_;refine bo J<|ap<|au<|ax J<|ax J<|bC J J (fun hg=>cz J)<|bC J J (fun hg=>bg (aI J hg))<|cb J J J J (fun hg=>bY mg fv J J)<|cb J J J J (fun hg=>aL bZ J J (aI J hg))<|cb J J J J (fun hg=>bR dd (aI J hg))<|cb J J J J (fun hg=>bY mV fU J J)<|cb J J J J (fun hg=>aL vl J J (aI J hg))<|cb J J J J (fun hg=>bR pJ (aI J hg))<|cb J J J J (fun hg=>kw (aI J hg) (aI J hg))<|cb J J J J (fun hg=>bD (aI J hg) hI)<|bC J J (fun hg=>jT (aI J hg) (fun hb=>(aI J (pF hg (mz hb)))))<|zo J (ki J J)<|ax J<|bC J J (fun hg=>bY gN cT J J)<|bC J J (fun hg=>aL bK J J (aI J hg))<|bC J J (fun hg=>bD (aI J hg) hI)<|bC J J (fun hg=>bg (aI J hg)) ?_;refine cb J J J J (fun hg=>bY EG tJ J J)<|cb J J J J (fun hg=>aL MS J J (aI J hg))<|cb J J J J (fun hg=>bR A2 (aI J hg))<|cb J J J J (fun hg=>bD (aI J hg) hI)<|bC J J (fun hg=>jT (aI J hg) (fun hb=>(aI J (pF hg (mz hb)))))<|zo J (ki J J)<|bo J<|ap<|au<|ax J<|ax J<|bC J J (fun hg=>bY gN cT J J)<|bC J J (fun hg=>aL bK J J (aI J hg))<|bC J J (fun hg=>bD (aI J hg) hI)<|bC J J (fun hg=>bg (aI J hg))<|cb J J J J (fun hg=>bY uM nv J J)<|cb J J J J (fun hg=>aL H4 J J (aI J hg))<|cb J J J J (fun hg=>bR A1 (aI J hg))<|cb J J J J (fun hg=>bD (aI J hg) hI)<|cb J J J J (fun hg=>bg (aI J hg))<|fN J J J J (fun hg=>bY uL nu J J)<|fN J J J J (fun hg=>aL bK J J (aI J hg)) ?_;refine fN J J J J (fun hg=>bD (aI J hg) hI)<|cb J J J J (fun hg=>lv (aI J hg) (fun hb=>(aI J (pF hg hb))))<|bC J J (fun hg=>jT (aI J hg) (fun hb=>(aI J (pF hg (mz hb)))))<|zo J (ki J J)<|bo J<|ap<|al ?_;cases so h;exact aB J J

theorem FP(s:(List Int))(v:Int){R:Int}(h:iy s v=some R):aW aM 163 [kC s,bQ v] (bQ R):=by
 refine aW.of Tryz.func163 J J J fun w0 S0=>au<|zo J (dA)<|ap<|ae<|au<|ax J<|zo J (gJ dd J)<|zo J (bg hI)<|ap<|av<|aP (k:=6) J fun hN=>bu ?_;refine aG (dk (Z:=fun ls i=>(s.drop i=ls)∧eZ v ls i=some R) (Of:=fun _ i=>[]) (Gf:=fun _ i=>[(0,kC s),(1,bQ v),(7,gR s),(8,bQ (i:Int))]) (fun i h=>?_) (fun e tl ih i h=>?_) s 0 ⟨J,h⟩) (aX J)
 ·obtain⟨hx,h⟩:=h
  refine aq<|au<|zo J (eD J J)<|ap<|ae<|bn (ht J) (cW hx)<|aY ?_;refine ac (ac (aC ?_));refine am<|au<|zo rfl (dA)<|ap<|al ?_;cases so h;exact aB J J
 ·obtain⟨hx,h⟩:=h
  refine aq<|au<|zo J (eD J J)<|ap<|ae<|bm (ht J) (cR hx)<|dz<|ae<|av<|au<|ax J<|bo J<|ap<|au<|ax J<|ax J<|ax J<|zo J (im dd bK J J J (cS hx)) ?_;refine zo J (bw bK J J)<|zo J (bD (ht J) (ht J))<|ap<|dh h J (fun h=>?_) (fun h=>?_)
  ·refine au<|ax J<|bo J<|ap<|al ?_;refine aA (aa (aa (aA (aa ?_))));cases so h;exact aB J J
  ·refine bt<|ak<|am<|ai<|zo rfl (jN (cy hx hN) rfl)<|ax rfl<|aH ?_;exact aO (aG (ih (i+1) ⟨cx hx,h⟩) (aX J))

theorem EI(s:(List Int))(v:Int){R:Bool}(h:cN s v=some R):aW aM 96 [kC s,bQ v] (gu R):=by
 refine aW.of Tryz.func96 J J J fun w0 S0=>au<|zo J (eL)<|ap<|au<|ax J<|ax J<|bF h fun r q_r h=>zo J (aJ Mq (FP _ _ q_r) ⟨(ht J),(ht J),be⟩)<|zo J (dG (ht J) hI)<|bo J<|ap<|al ?_;cases so h;exact aB J J

theorem Pv(b:Nat)(ix:OI)(l:af)(i:Int)(ask:(af→Unit→Option (Bool×af))){R:Bool×af}(h:jK l i ask=some R):eV aM 47 [tV (aF b 0),bQ i,ln (fun bb=>gG aM (fun(x:Unit)=>[tV (aF bb 0)]) (dl bb) kS ask)] (dl b l ix) (fun _:OI=>gu R.1) (fun j=>dl b R.2 j):=by
 refine eV.of Tryz.func47 J J J fun w0 S0=>?_;refine(show CG _ _ _ [bx (rH aN [(1,an (ix.h 0).1 (ix.h 0).2 l.kinds.length),(2,an (ix.h 1).1 (ix.h 1).2 l.open_.length)]) 124 b l,fA gr 29 (ix.h 0).1 (ix.h 0).2 l.kinds,cC bV 3 (ix.h 1).1 (ix.h 1).2 l.open_] _ from ?_);refine au<|zo J (eL)<|ap<|au<|ax J<|zo J (aR (ht J))<|zo J (gq 0 BH J J J)<|zo J (bk (r:=rH aN [(1,an (ix.h 0).1 (ix.h 0).2 l.kinds.length),(2,an (ix.h 1).1 (ix.h 1).2 l.open_.length)]) (x:=l) wI J J (fi vE) (.head _) (ht J))<|ax J<|bF h fun e q_e h=>zo J (im n9 eM J J J q_e)<|zo J (bw eM J J)<|bc (r:=aS) (x:=Ck) eM (fun _=>eK _) J fun b1=>aE eM J ay J (ht J) (ht J)<|aV 7 J<|ap<|au<|zo J (bY gN cT J J)<|zo J (bw bK J J) ?_;refine bF h fun r q_r h=>zo J (aJ RL (Nt _ q_r) ⟨(ht J),be⟩)<|bo J<|ap<|ae<|au<|ax J<|zo J (ep (ht J) hI)<|ax J<|cw J J (fun hg=>cz J)<|cw J J (fun hg=>cz J)<|cw J J (fun hg=>aR (aI J hg))<|cw J J (fun hg=>bz (n:=2) nV J (aI J hg) J)<|cw J J (fun hg=>ku bZ J (.head _) (aI J hg))<|cw J J (fun hg=>eT dd (.tail _ (.tail _ (.head _))) (aI J hg))<|cw J J (fun hg=>fG (aI J hg) (aI J hg))<|zo J (oQ J J)<|ax J<|bF h fun t q_t h=>cw J J (fun hg=>bw eM J J) ?_
 obtain⟨r1,h1t,h0t⟩:=og q_t
 have q_r1g:=fun hb=>(h1t hb).1
 refine cw J J (fun hg=>aJ RK (Ns _ (q_r1g hg)) ⟨(aI J hg),be⟩)<|cw J J (fun hg=>dn (aI J hg))<|zo J (dV (ht J) (fun hb=>(aI J (mz hb))) (fun hb=>(h1t hb).2) h0t)<|ap<|ne (ht J) (fun hc=>?_) (fun hc=>?_)
 ·have h:=ct h hc;refine au<|zo J (eL)<|ap<|al<|aa<|aK<|aK<|aK ?_;cases so h;exact cX J ix J J (fun _ _ h=>h)
 ·have h:=cf h hc;refine dz<|au<|zo J (nZ (r:=bV) (ys:=[my,my]) (xs:=[.const (.int .i64 (-1)),.const (.int .i64 (-1))]) xl bK J wH J J ⟨hI,hI,be⟩)<|bc (r:=zm) (x:=(List.replicate 2 (0:Int))) wH (fun _=>uZ (r:=bV) 2 (fun _=>J) _) J fun b2=>aE wH J ay J (ht J) (ht J)<|ap<|ae<|bF h fun y q_y h=>?_
  refine oP 13 (ts:=[tV (.slice (some ⟨b2,0,none⟩) 2 2),tV (aF b 0),tV (aF b 0),tV (aF b 2),nJ (ix.h 1).1 (ix.h 1).2 l.open_,tV (aF b 0),tV (aF b 0),tV (aF b 2),nJ (ix.h 1).1 (ix.h 1).2 l.open_,gR l.open_,bQ r,bQ (IntKind.i64.wrap ((l.open_.length:Int)-r)),tV (jY 1 (ix.h 1).1 (ix.h 1).2 (IntKind.i64.wrap ((l.open_.length:Int)-r)).toNat y.length)]) mixed J J J
   ⟨gF 9 J J J (CT xl (JR bK) (ht J)),
   ⟨gF 0 J J J (cz J),
   ⟨cL 42 1 J J J (aR (ht J)),
   ⟨cL 43 2 J J J (gq 2 nV J J J),
   ⟨cL 44 3 J J J (ku bZ J (.tail _ (.head _)) (ht J)),
   ⟨gF 0 J J J (cz J),
   ⟨cL 46 5 J J J (aR (ht J)),
   ⟨cL 47 6 J J J (gq 2 nV J J J),
   ⟨cL 48 7 J J J (ku bZ J (.tail _ (.head _)) (ht J)),
   ⟨cL 49 8 J J J (eT dd (.tail _ (.tail _ (.tail _ (.head _)))) (ht J)),
   ⟨gF 8 J J J (cz J),
   ⟨eu 50 9 51 10 J J J J (gj (ht J) (ht J)),
   ⟨eu 45 4 52 11 J J J J (lJ dd bK J (.tail _ (.tail _ (.tail _ (.head _)))) (ht J) (ht J) q_y),
   be⟩⟩⟩⟩⟩⟩⟩⟩⟩⟩⟩⟩⟩ ?_
  refine mr (.tail _ (.tail _ (.tail _ (.head _)))) q_y fun hv=>vM (BO (.tail _ (.tail _ (.tail _ (.head _)))) q_y dd (Fh bK) (ht J) (ht J)) J fun i1=>?_;refine(show RG _ _ _ _ [bx zm 61 b2 (p7 HU y),bx (rH aN [(1,an (ix.h 0).1 (ix.h 0).2 l.kinds.length),(2,an (ix.h 1).1 (ix.h 1).2 l.open_.length)]) 124 b l,fA gr 29 (ix.h 0).1 (ix.h 0).2 l.kinds,cC bV 3 (ix.h 1).1 (ix.h 1).2 l.open_] ((54,bQ ((min y.length 2:Nat):Int))::_)from ?_);refine ap<|ae<|au<|zo J (bk wH J J cO (.head _) (ht J))<|zo J (bY rX ky J J)<|zo J (bw bK J J)<|zo J (bY vG mT J J)<|zo J (bw bK J J)<|zo J (nZ (r:=bV) (ys:=[e.A,e.B]) (xs:=[.tmp 57,.tmp 59]) xl bK J wH J J ⟨(ht J),(ht J),be⟩)<|zo J (wT LH (ht J) (ht J))<|ap<|ne (ht J) (fun hc=>?_) (fun hc=>?_)
  ·have h:=ct h hc;refine au<|zo J (eL)<|ap<|al<|aa<|bv<|aK<|aK<|aK ?_;cases so h;exact cX J ix J J (fun _ _ h=>h)
  ·have h:=cf h hc;refine dz<|au<|ax J<|ax J<|ax J<|zo J (bw eM J J)<|zo J (aR (ht J))<|zo J (gq 3 eU J J J)<|ll (EffOK.fr1 (gD eM J (rA (hs' :=[(1,an (ix.h 0).1 (ix.h 0).2 l.kinds.length),(2,an (ix.h 1).1 (ix.h 1).2 l.open_.length)]) GN ⟨.inr ⟨J,J⟩,.inr ⟨J,J⟩,be⟩ J) J (ht J) (ht J))) fun i2=>?_;refine(show RG _ _ _ _ [bx (rH aN [(1,an (ix.h 0).1 (ix.h 0).2 l.kinds.length),(2,an (ix.h 1).1 (ix.h 1).2 l.open_.length)]) 124 b ({l with n:=e}:af),bx zm 61 b2 (p7 HU y),fA gr 29 (ix.h 0).1 (ix.h 0).2 l.kinds,cC bV 3 (ix.h 1).1 (ix.h 1).2 l.open_] _ from ?_);refine zo J (aR (ht J))<|zo J (gq 15 gc J J J)<|ll (gD bZ J (rA (hs' :=[(1,an (ix.h 0).1 (ix.h 0).2 l.kinds.length),(2,an (ix.h 1).1 (ix.h 1).2 l.open_.length)]) Ad ⟨.inr ⟨J,J⟩,.inr ⟨J,J⟩,be⟩ J) J (ht J) tI) fun i3=>?_;refine(show RG _ _ _ _ [bx (rH aN [(1,an (ix.h 0).1 (ix.h 0).2 l.kinds.length),(2,an (ix.h 1).1 (ix.h 1).2 l.open_.length)]) 124 b ({({l with n:=e}:af)with a_:=[]}:af),bx zm 61 b2 (p7 HU y),fA gr 29 (ix.h 0).1 (ix.h 0).2 l.kinds,cC bV 3 (ix.h 1).1 (ix.h 1).2 l.open_] _ from ?_);refine zo J (aR (ht J))<|zo J (gq 16 uP J J J)<|ll (gD bZ J (rA (hs' :=[(1,an (ix.h 0).1 (ix.h 0).2 l.kinds.length),(2,an (ix.h 1).1 (ix.h 1).2 l.open_.length)]) Ac ⟨.inr ⟨J,J⟩,.inr ⟨J,J⟩,be⟩ J) J (ht J) tI) fun i4=>?_;refine(show RG _ _ _ _ [bx (rH aN [(1,an (ix.h 0).1 (ix.h 0).2 l.kinds.length),(2,an (ix.h 1).1 (ix.h 1).2 l.open_.length)]) 124 b ({({({l with n:=e}:af)with a_:=[]}:af)with b:=[]}:af),bx zm 61 b2 (p7 HU y),fA gr 29 (ix.h 0).1 (ix.h 0).2 l.kinds,cC bV 3 (ix.h 1).1 (ix.h 1).2 l.open_] _ from ?_);refine ap<|ae<|ae<|bF h fun y1 q_y1 h=>?_
   refine eb (ts:=[_,_,_,_,_,_,_,_,_,_,_,_,_,_]) mixed J J
    ⟨gF 0 J J J (cz J),
    ⟨cL 72 0 J J J (aR (ht J)),
    ⟨cL 73 1 J J J (gq 2 nV J J J),
    ⟨cL 74 2 J J J (ku bZ J (.head _) (ht J)),
    ⟨gF 0 J J J (cz J),
    ⟨cL 76 4 J J J (aR (ht J)),
    ⟨cL 77 5 J J J (gq 2 nV J J J),
    ⟨cL 78 6 J J J (ku bZ J (.head _) (ht J)),
    ⟨cL 79 7 J J J (eT dd (.tail _ (.tail _ (.tail _ (.head _)))) (ht J)),
    ⟨gF 8 J J J (cz J),
    ⟨eu 80 8 81 9 J J J J (gj (ht J) (ht J)),
    ⟨eu 75 3 82 10 J J J J (lJ dd bK J (.tail _ (.tail _ (.tail _ (.head _)))) (ht J) (ht J) q_y1),
    ⟨cL 83 11 J J J (Fw dd (.tail _ (.tail _ (.tail _ (.head _)))) q_y1 (ht J)),
    ⟨zd0 J J (bg hI),
    be⟩⟩⟩⟩⟩⟩⟩⟩⟩⟩⟩⟩⟩⟩ ?_
   refine am<|av<|B7 (.tail _ (.tail _ (.tail _ (.head _)))) q_y1 fun hv1=>?_
   have hN:=hv1.2
   refine bu<|fe<|nd ?_;refine aG (oO (Z:=fun ls i5 a_ b3=>(y1.drop i5=ls)∧b6 l i ask e r ls i5 a_ b3=some R) (Of:=fun _ i5 a_ b3=>[bx (rH aN [(1,an (ix.h 0).1 (ix.h 0).2 l.kinds.length),(2,an (ix.h 1).1 (ix.h 1).2 l.open_.length)]) 124 b ({({({({({l with n:=e}:af)with a_:=[]}:af)with b:=[]}:af)with a_:=a_}:af)with b:=b3}:af),fA gr 29 (ix.h 0).1 (ix.h 0).2 l.kinds,cC bV 3 (ix.h 1).1 (ix.h 1).2 l.open_]) (Gf:=fun _ i5 a_ b3=>[(0,tV (aF b 0)),(1,bQ i),(2,ln (fun bb=>gG aM (fun(x:Unit)=>[tV (aF bb 0)]) (dl bb) kS ask)),(7,bp aS e),(8,bQ r),(83,tV (jY 1 (ix.h 1).1 (ix.h 1).2 (IntKind.i64.wrap ((l.open_.length:Int)-r)).toNat y1.length)),(84,gR y1),(85,bQ (i5:Int))]) (fun i5 a_ b3 h=>?_) (fun e1 tl ih i5 a_ b3 h=>?_) y1 0 (({({({l with n:=e}:af)with a_:=[]}:af)with b:=[]}:af).a_) (({({({l with n:=e}:af)with a_:=[]}:af)with b:=[]}:af).b) ⟨J,h⟩) (aX J)
   ·obtain⟨hx,h⟩:=h
    refine aq<|au<|zo J (eD J J)<|ap<|ae<|bn (ht J) (cW hx)<|aY ?_;refine ac (ac (aC ?_));refine am<|au<|zo rfl (bY gN cT rfl rfl)<|zo rfl (bw bK rfl rfl)<|zo rfl (jk rfl)<|ax rfl<|cw rfl rfl (fun hg=>bY gN cT J J)<|cw J J (fun hg=>aL bK J J (aI J hg))<|cw J J (fun hg=>bD (aI J hg) hI)<|zo J (oQ J J)<|bo J<|ap<|ae<|au<|ax J<|ax J<|bC J J (fun hg=>cz J)<|bC J J (fun hg=>cz J)<|bC J J (fun hg=>aR (aI J hg))<|bC J J (fun hg=>bz (n:=0) BH J (aI J hg) J)<|bC J J (fun hg=>bk (r:=rH aN [(1,an (ix.h 0).1 (ix.h 0).2 l.kinds.length),(2,an (ix.h 1).1 (ix.h 1).2 l.open_.length)]) (x:=({({({({({l with n:=e}:af)with a_:=[]}:af)with b:=[]}:af)with a_:=a_}:af)with b:=b3}:af)) wI J J (fi vE) (.head _) (aI J hg)) ?_;refine bC J J (fun hg=>bR n9 (aI J hg))<|bC J J (fun hg=>gj (aI J hg) hI)<|bC J J (fun hg=>cZ (aI J hg) (aI J hg))<|zo J (ki J J)<|ax J ?_;refine Dr (((e.Op==(8:Int))||(e.Op==(10:Int)))&&(i !=(IntKind.i64.wrap (((({({({({({l with n:=e}:af)with a_:=[]}:af)with b:=[]}:af)with a_:=a_}:af)with b:=b3}:af).nodes).length:Int)-(1:Int))))) (fun hg=>?_) (fun hg=>?_)
    ·have h:=ct h hg;refine lD J J J hg J<|lD J J J hg J<|lD J J J hg J<|lD J J J hg J<|zo J (vB (ht J) hg Rw)<|ax J<|lD J J J J J<|lD J J J J J<|lD J J J J J<|lD J J J J J<|lD J J J J J<|lD J J J J J<|zo J (vB (ht J) J Rw)<|ap<|ne (ht J) (fun hc=>?_) (fun hc=>?_)
     ·refine au<|zo J (eL)<|ap<|al<|aa<|aK<|aK<|aK ?_;cases so h;exact cX J ix J J (fun _ _ h=>h)
     ·cases hc
    ·have h:=cf h hg;refine u4 J J J hg<|ax J<|u4 J J J hg<|ax J<|u4 J J J hg<|bF h fun r2 q_r2 h=>vM (EffOK.fr2 (EffOK.fr2 (EffOK.fr2 (BQ (args:=(fun(x:Unit)=>[tV (aF b 0)])) (Ob:=dl b) (res:=kS) (f:=ask) (x:=({({({({({l with n:=e}:af)with a_:=[]}:af)with b:=[]}:af)with a_:=a_}:af)with b:=b3}:af)) (y:=(():Unit)) (R:=r2) (i:=ix) (xs:=[.tmp 136]) _ J (O6 (t:=(fun bb=>gG aM (fun(x:Unit)=>[tV (aF bb 0)]) (dl bb) kS ask)) b (ht J)) q_r2 ⟨(ht J),be⟩ (fun _=>J))))) J fun i6=>?_;refine(show RG _ _ _ _ [bx (rH aN [(1,an (i6.h 0).1 (i6.h 0).2 r2.2.kinds.length),(2,an (i6.h 1).1 (i6.h 1).2 r2.2.open_.length)]) 124 b r2.2,fA gr 29 (i6.h 0).1 (i6.h 0).2 r2.2.kinds,cC bV 3 (i6.h 1).1 (i6.h 1).2 r2.2.open_] ((137,gu r2.1)::_)from ?_);refine u4 J J J hg<|zo J (dn (ht J))<|zo J (Aj (ht J) hg (ht J))<|ax J<|cw J J (fun hg=>cz J)<|cw J J (fun hg=>aR (aI J hg))<|cw J J (fun hg=>bz (n:=17) dZ J (aI J hg) J)<|cw J J (fun hg=>bk (r:=rH aN [(1,an (i6.h 0).1 (i6.h 0).2 r2.2.kinds.length),(2,an (i6.h 1).1 (i6.h 1).2 r2.2.open_.length)]) (x:=r2.2) bZ J J (fi vD) (.head _) (aI J hg))<|cw J J (fun hg=>bR dd (aI J hg))<|cw J J (fun hg=>fG (aI J hg) hI)<|zo J (oQ J J)<|ap<|dh h J (fun h=>?_) (fun h=>?_)
     ·refine au<|zo J (eL)<|ap<|al<|aa<|aK<|aK<|aK ?_;cases so h;exact cX J i6 J J (fun _ _ h=>h)
     ·refine dz<|ae<|bF h fun l1 q_l1 h=>bF h fun y2 q_y2 h=>bF h fun l2 q_l2 h=>?_
      refine mt 30 [tc (tV (aF b 0)),tc (tV (aF b 0)),tc (tV (aF b 0)),tc (tV (aF b 0)),tc (tV (aF b 1)),tc (tO gr (i6.h 0).1 (i6.h 0).2 r2.2.kinds),tc (tV (aF b 0)),tc (tV (aF b 0)),tc (tV (aF b 17)),tc (kC r2.2.result),tc (d6 (gr) ([r2.2.result])),([11],fun s=>tO gr ((s.getD 0 sR).h 0).1 ((s.getD 0 sR).h 0).2 l1),tc (tV (aF b 0)),tc (tV (aF b 0)),tc (tV (aF b 2)),tc (nJ (i6.h 1).1 (i6.h 1).2 r2.2.open_),tc (tV (aF b 0)),tc (tV (aF b 0)),tc (tV (aF b 2)),tc (nJ (i6.h 1).1 (i6.h 1).2 r2.2.open_),tc (gR r2.2.open_),tc (bQ r),tc (bQ (IntKind.i64.wrap ((r2.2.open_.length:Int)-r))),tc (nJ (i6.h 1).1 (i6.h 1).2 y2),tc (bQ i),tc (kC ([i])),([26],fun s=>tV (an ((s.getD 0 sR).h 0).1 ((s.getD 0 sR).h 0).2 l2.length)),tc (tV (aF b 0)),tc (tV (aF b 1)),tc (xF)] [false,false,false,false,false,false,false,false,false,false,false,true,false,false,false,false,false,false,false,false,false,false,false,false,false,false,true,false,false,true] [fun _=>[bx (rH aN [(1,an (i6.h 0).1 (i6.h 0).2 r2.2.kinds.length),(2,an (i6.h 1).1 (i6.h 1).2 r2.2.open_.length)]) 124 b r2.2,fA gr 29 (i6.h 0).1 (i6.h 0).2 r2.2.kinds,cC bV 3 (i6.h 1).1 (i6.h 1).2 r2.2.open_],fun sg=>[fA gr 29 ((sg 11).h 0).1 ((sg 11).h 0).2 l1,bx (rH aN [(1,an (i6.h 0).1 (i6.h 0).2 r2.2.kinds.length),(2,an (i6.h 1).1 (i6.h 1).2 r2.2.open_.length)]) 124 b r2.2,cC bV 3 (i6.h 1).1 (i6.h 1).2 r2.2.open_],fun sg=>[cC bV 3 ((sg 26).h 0).1 ((sg 26).h 0).2 l2,fA gr 29 ((sg 11).h 0).1 ((sg 11).h 0).2 l1,bx (rH aN [(1,an (i6.h 0).1 (i6.h 0).2 r2.2.kinds.length),(2,an (i6.h 1).1 (i6.h 1).2 r2.2.open_.length)]) 124 b r2.2],fun sg=>[bx (rH aN [(1,an ((sg 11).h 0).1 ((sg 11).h 0).2 l1.length),(2,an (i6.h 1).1 (i6.h 1).2 r2.2.open_.length)]) 124 b ({r2.2 with kinds:=l1}:af),cC bV 3 ((sg 26).h 0).1 ((sg 26).h 0).2 l2,fA gr 29 ((sg 11).h 0).1 ((sg 11).h 0).2 l1]] J mixed J J J J J
       ⟨⟨[⟨0,fun _=>tV (aF b 0),none⟩],_,0,2,J,⟨(fun _=>J),be⟩,J,J,J,J,J,fun _ sg _ _=>ah J (cz J)⟩,
       ⟨⟨[⟨0,fun _=>tV (aF b 0),none⟩],_,0,3,J,⟨(fun _=>J),be⟩,J,J,J,J,J,fun _ sg _ _=>ah J (cz J)⟩,
       ⟨⟨[⟨0,fun _=>tV (aF b 0),none⟩],_,0,0,J,⟨(fun _=>J),be⟩,J,J,J,J,J,fun _ sg _ _=>ah J (cz J)⟩,
       ⟨⟨[⟨150,fun _=>tV (aF b 0),some 2⟩],_,0,0,J,⟨(fun _=>J),be⟩,J,J,J,J,J,fun _ sg _ _=>ah J (aR (ht J))⟩,
       ⟨⟨[⟨151,fun _=>tV (aF b 0),some 3⟩],_,0,0,J,⟨(fun _=>J),be⟩,J,J,J,J,J,fun _ sg _ _=>ah J (gq 1 w8 J J J)⟩,
       ⟨⟨[⟨152,fun _=>tV (aF b 1),some 4⟩],_,0,0,J,⟨(fun _=>J),be⟩,J,J,J,J,J,rr (fun sg=>ah J (yi zq J (.head _) (.tail _ (.head _)) (ht J)))⟩,
       ⟨⟨[⟨0,fun _=>tV (aF b 0),none⟩],_,0,0,J,⟨(fun _=>J),be⟩,J,J,J,J,J,fun _ sg _ _=>ah J (cz J)⟩,
       ⟨⟨[⟨154,fun _=>tV (aF b 0),some 6⟩],_,0,0,J,⟨(fun _=>J),be⟩,J,J,J,J,J,fun _ sg _ _=>ah J (aR (ht J))⟩,
       ⟨⟨[⟨155,fun _=>tV (aF b 0),some 7⟩],_,0,0,J,⟨(fun _=>J),be⟩,J,J,J,J,J,fun _ sg _ _=>ah J (gq 17 dZ J J J)⟩,
       ⟨⟨[⟨156,fun _=>tV (aF b 17),some 8⟩],_,0,0,J,⟨(fun _=>J),be⟩,J,J,J,J,J,rr (fun sg=>ah J (bk (r:=rH aN [(1,an (i6.h 0).1 (i6.h 0).2 r2.2.kinds.length),(2,an (i6.h 1).1 (i6.h 1).2 r2.2.open_.length)]) (x:=r2.2) bZ J J (fi vD) (.head _) (ht J)))⟩,
       ⟨⟨[⟨157,fun _=>tD rp r2.2.result,some 9⟩],_,0,0,J,⟨(fun _=>J),be⟩,J,J,J,J,J,fun _ sg _ _=>ah J (ba (r:=rp) (ys:=[r2.2.result]) (xs:=[.tmp 157]) ro bZ J J J J J ⟨(ht J),be⟩)⟩,
       ⟨⟨[⟨153,fun _=>tO rp (i6.h 0).1 (i6.h 0).2 r2.2.kinds,some 5⟩,⟨158,fun _=>tD (dR rp) ([r2.2.result]),some 10⟩],_,J,⟨(fun _=>J),(fun _=>J),be⟩,J,J,J,fun sg=>eG J (EffOK.fr1 (wq bZ J J J J ro J (ht J) (ht J) q_l1))⟩,
       ⟨⟨[⟨0,fun _=>tV (aF b 0),none⟩],_,0,1,J,⟨(fun _=>J),be⟩,J,J,J,J,J,fun _ sg _ _=>ah J (cz J)⟩,
       ⟨⟨[⟨160,fun _=>tV (aF b 0),some 12⟩],_,0,1,J,⟨(fun _=>J),be⟩,J,J,J,J,J,fun _ sg _ _=>ah J (aR (ht J))⟩,
       ⟨⟨[⟨161,fun _=>tV (aF b 0),some 13⟩],_,0,1,J,⟨(fun _=>J),be⟩,J,J,J,J,J,fun _ sg _ _=>ah J (gq 2 nV J J J)⟩,
       ⟨⟨[⟨162,fun _=>tV (aF b 2),some 14⟩],_,0,1,J,⟨(fun _=>J),be⟩,J,J,J,J,J,DW (fun sg=>ah J (ku bZ J (.head _) (ht J))) (rr (fun sg=>ah J (ku bZ J (.tail _ (.head _)) (ht J))))⟩,
       ⟨⟨[⟨0,fun _=>tV (aF b 0),none⟩],_,0,1,J,⟨(fun _=>J),be⟩,J,J,J,J,J,fun _ sg _ _=>ah J (cz J)⟩,
       ⟨⟨[⟨164,fun _=>tV (aF b 0),some 16⟩],_,0,1,J,⟨(fun _=>J),be⟩,J,J,J,J,J,fun _ sg _ _=>ah J (aR (ht J))⟩,
       ⟨⟨[⟨165,fun _=>tV (aF b 0),some 17⟩],_,0,1,J,⟨(fun _=>J),be⟩,J,J,J,J,J,fun _ sg _ _=>ah J (gq 2 nV J J J)⟩,
       ⟨⟨[⟨166,fun _=>tV (aF b 2),some 18⟩],_,0,1,J,⟨(fun _=>J),be⟩,J,J,J,J,J,DW (fun sg=>ah J (ku bZ J (.head _) (ht J))) (rr (fun sg=>ah J (ku bZ J (.tail _ (.head _)) (ht J))))⟩,
       ⟨⟨[⟨167,fun _=>tV (an (i6.h 1).1 (i6.h 1).2 r2.2.open_.length),some 19⟩],_,0,1,J,⟨(fun _=>J),be⟩,J,J,J,J,J,DW (fun sg=>ah J (eT dd (.tail _ (.tail _ (.head _))) (ht J))) (rr (fun sg=>ah J (eT dd (.tail _ (.tail _ (.head _))) (ht J))))⟩,
       ⟨⟨[⟨8,fun _=>tD bV r,none⟩],_,0,1,J,⟨(fun _=>J),be⟩,J,J,J,J,J,fun _ sg _ _=>ah J (cz J)⟩,
       ⟨⟨[⟨168,fun _=>tD bV (r2.2.open_.length:Int),some 20⟩,⟨169,fun _=>tD bV r,some 21⟩],_,0,1,J,⟨(fun _=>J),(fun _=>J),be⟩,J,J,J,J,J,fun _ sg _ _=>ah J (gj (ht J) (ht J))⟩,
       ⟨⟨[⟨163,fun _=>tV (an (i6.h 1).1 (i6.h 1).2 r2.2.open_.length),some 15⟩,⟨170,fun _=>tD bV (IntKind.i64.wrap ((r2.2.open_.length:Int)-r)),some 22⟩],_,0,1,J,⟨(fun _=>J),(fun _=>J),be⟩,J,J,J,J,J,DW (fun sg=>ah J (kq dd bK J (.tail _ (.tail _ (.head _))) (ht J) (ht J) q_y2)) (rr (fun sg=>ah J (kq dd bK J (.tail _ (.tail _ (.head _))) (ht J) (ht J) q_y2)))⟩,
       ⟨⟨[⟨1,fun _=>tD bV i,none⟩],_,0,1,J,⟨(fun _=>J),be⟩,J,J,J,J,J,fun _ sg _ _=>ah J (cz J)⟩,
       ⟨⟨[⟨172,fun _=>tD bV i,some 24⟩],_,0,1,J,⟨(fun _=>J),be⟩,J,J,J,J,J,fun _ sg _ _=>ah J (ba (r:=bV) (ys:=[i]) (xs:=[.tmp 172]) dd bK J J J J J ⟨(ht J),be⟩)⟩,
       ⟨⟨[⟨171,fun _=>tV (an (i6.h 1).1 (i6.h 1).2 y2.length),some 23⟩,⟨173,fun _=>tD rp ([i]),some 25⟩],_,J,⟨(fun _=>J),(fun _=>J),be⟩,J,J,J,fun sg=>eG J (EffOK.fr2 (E1 q_y2 (r8 bK J J J J dd J (ht J) (ht J) q_l2)))⟩,
       ⟨⟨[⟨148,fun _=>tV (aF b 0),some 0⟩],_,2,2,J,⟨(fun _=>J),be⟩,J,J,J,J,J,fun _ sg _ _=>ah J (aR (ht J))⟩,
       ⟨⟨[⟨175,fun _=>tV (aF b 0),some 27⟩],_,2,2,J,⟨(fun _=>J),be⟩,J,J,J,J,J,fun _ sg _ _=>ah J (gq 1 w8 J J J)⟩,
       ⟨⟨[⟨176,fun _=>tV (aF b 1),some 28⟩,⟨159,fun sg=>tO rp ((sg 11).h 0).1 ((sg 11).h 0).2 l1,some 11⟩],_,J,⟨(fun _=>J),(fun _=>J),be⟩,J,J,J,fun sg=>eG J (EffOK.fr2 (yQ (hs' :=[(1,an ((sg 11).h 0).1 ((sg 11).h 0).2 l1.length),(2,an (i6.h 1).1 (i6.h 1).2 r2.2.open_.length)]) (u:=an ((sg 11).h 0).1 ((sg 11).h 0).2 l1.length) zq J J GP J ⟨.inl ⟨J,J,J⟩,.inr ⟨J,J⟩,be⟩ (ht J) (rx (ht J)) (D0 (ht J))))⟩,
       be⟩⟩⟩⟩⟩⟩⟩⟩⟩⟩⟩⟩⟩⟩⟩⟩⟩⟩⟩⟩⟩⟩⟩⟩⟩⟩⟩⟩⟩⟩ (fun sg=>?_)
      refine(show RG _ _ _ _ [bx (rH aN [(1,an ((sg 11).h 0).1 ((sg 11).h 0).2 l1.length),(2,an (i6.h 1).1 (i6.h 1).2 r2.2.open_.length)]) 124 b ({r2.2 with kinds:=l1}:af),cC bV 3 ((sg 26).h 0).1 ((sg 26).h 0).2 l2,fA gr 29 ((sg 11).h 0).1 ((sg 11).h 0).2 l1] _ from ?_);refine zo J (aR (ht J))<|zo J (gq 2 nV J J J)<|ll (yQ (hs' :=[(1,an ((sg 11).h 0).1 ((sg 11).h 0).2 l1.length),(2,an ((sg 26).h 0).1 ((sg 26).h 0).2 l2.length)]) (u:=an ((sg 26).h 0).1 ((sg 26).h 0).2 l2.length) bZ J J GO J ⟨.inr ⟨J,J⟩,.inl ⟨J,J,J⟩,be⟩ (ht J) (Rx (y:=l2) (ht J) Ik) (ht J)) fun i7=>?_;refine(show RG _ _ _ _ [bx (rH aN [(1,an ((sg 11).h 0).1 ((sg 11).h 0).2 l1.length),(2,an ((sg 26).h 0).1 ((sg 26).h 0).2 l2.length)]) 124 b ({({r2.2 with kinds:=l1}:af)with open_:=l2}:af),cC bV 3 ((sg 26).h 0).1 ((sg 26).h 0).2 l2,fA gr 29 ((sg 11).h 0).1 ((sg 11).h 0).2 l1] _ from ?_);refine ap<|au<|zo J (eL)<|ap<|al<|br<|aK<|aK ?_;cases so h;exact cX J (G7 [(((sg 11).h 0).1,((sg 11).h 0).2),(((sg 26).h 0).1,((sg 26).h 0).2)]) J J (fun _ _ h=>h)
   ·obtain⟨hx,h⟩:=h
    refine aq<|au<|zo J (eD J J)<|ap<|ae<|bm (ht J) (cR hx)<|dz<|ae<|av<|au<|ax J<|zo J (s0 dd bK J (.tail _ (.tail _ (.head _))) q_y1 (ht J) (ht J) (cS hx))<|zo J (ew (r:=bV) (i:=((IntKind.i64.wrap ((l.open_.length:Int)-r))+(i5:Int))) (foff:=0) bK J J cO J (.tail _ (.tail _ (.head _))) (tv q_y1 (cS hx)).1 (ht J))<|bo J<|bo J<|ap<|au<|ax J ?_;refine zo J (aR (ht J))<|zo J (gq 1 w8 J J J)<|zo J (yi zq J (.head _) (.tail _ (.head _)) (ht J))<|ax J<|bF h fun e2 q_e2 h=>zo J (b9 ro bZ J (rx (ht J)) (ht J) q_e2)<|zo J (bw bZ J J)<|bo J<|ap<|ae<|au<|zo J (bY gN cT J J)<|zo J (bw bK J J)<|zo J (qZ J)<|ax J<|bF h fun t1 q_t1 h=>bC J J (fun hg=>cz J) ?_
    obtain⟨r3,h1t1,h0t1⟩:=og q_t1
    have q_r3g:=fun hb=>(h1t1 hb).1
    refine bC J J (fun hg=>aJ N4 (EI _ _ (q_r3g hg)) ⟨(aI J hg),hI,be⟩)<|zo J (cV (ht J) (fun hb=>(aI J hb)) (fun hb=>(h1t1 hb).2) h0t1)<|ap<|dh h J (fun h=>?_) (fun h=>?_)
    ·refine au<|zo J (eL)<|ap<|al ?_;refine aa (aA (aa (aa (aA (aa ?_)))));refine aK<|aK<|aK ?_;cases so h;exact cX J ix J J (fun _ _ h=>h)
    ·refine dz<|au<|ax J<|zo J (jk J)<|ap<|dh h J (fun h=>?_) (fun h=>?_)
     ·refine ai<|ax J<|ax J<|zo J (aR (ht J))<|zo J (gq 15 gc J J J)<|ll (gD bZ J (rA (hs' :=[(1,an (ix.h 0).1 (ix.h 0).2 l.kinds.length),(2,an (ix.h 1).1 (ix.h 1).2 l.open_.length)]) Ad ⟨.inr ⟨J,J⟩,.inr ⟨J,J⟩,be⟩ J) J (ht J) (ht J)) fun i8=>?_;refine(show RG _ _ _ _ [bx (rH aN [(1,an (ix.h 0).1 (ix.h 0).2 l.kinds.length),(2,an (ix.h 1).1 (ix.h 1).2 l.open_.length)]) 124 b ({({({({({({l with n:=e}:af)with a_:=[]}:af)with b:=[]}:af)with a_:=a_}:af)with b:=b3}:af)with a_:=e2}:af),fA gr 29 (ix.h 0).1 (ix.h 0).2 l.kinds,cC bV 3 (ix.h 1).1 (ix.h 1).2 l.open_] _ from ?_);refine aH<|ak<|am<|ai<|zo rfl (jN (cy hx hN) rfl)<|ax rfl<|aH ?_;exact aO (aG (ih (i5+1) (({({({({({({l with n:=e}:af)with a_:=[]}:af)with b:=[]}:af)with a_:=a_}:af)with b:=b3}:af)with a_:=e2}:af).a_) (({({({({({({l with n:=e}:af)with a_:=[]}:af)with b:=[]}:af)with a_:=a_}:af)with b:=b3}:af)with a_:=e2}:af).b) ⟨cx hx,h⟩) (aX J))
     ·refine ai<|ax J<|ax J<|zo J (aR (ht J))<|zo J (gq 16 uP J J J)<|ll (gD bZ J (rA (hs' :=[(1,an (ix.h 0).1 (ix.h 0).2 l.kinds.length),(2,an (ix.h 1).1 (ix.h 1).2 l.open_.length)]) Ac ⟨.inr ⟨J,J⟩,.inr ⟨J,J⟩,be⟩ J) J (ht J) (ht J)) fun i9=>?_;refine(show RG _ _ _ _ [bx (rH aN [(1,an (ix.h 0).1 (ix.h 0).2 l.kinds.length),(2,an (ix.h 1).1 (ix.h 1).2 l.open_.length)]) 124 b ({({({({({({l with n:=e}:af)with a_:=[]}:af)with b:=[]}:af)with a_:=a_}:af)with b:=b3}:af)with b:=e2}:af),fA gr 29 (ix.h 0).1 (ix.h 0).2 l.kinds,cC bV 3 (ix.h 1).1 (ix.h 1).2 l.open_] _ from ?_);refine aH<|ak<|am<|ai<|zo rfl (jN (cy hx hN) rfl)<|ax rfl<|aH ?_;exact aO (aG (ih (i5+1) (({({({({({({l with n:=e}:af)with a_:=[]}:af)with b:=[]}:af)with a_:=a_}:af)with b:=b3}:af)with b:=e2}:af).a_) (({({({({({({l with n:=e}:af)with a_:=[]}:af)with b:=[]}:af)with a_:=a_}:af)with b:=b3}:af)with b:=e2}:af).b) ⟨cx hx,h⟩) (aX J))

end Go.Proofs.YtmogpgcfognefaaGreatDoor

