import Derived.Test.YtadeokalnbmppaaGreatDoorReT
import Derived.Test.YtadeokalnbmppaaGreatDoorReP12
set_option linter.all false
namespace Go.Proofs.YtadeokalnbmppaaGreatDoor
open Go IntKind Tryz EffOK
set_option maxRecDepth 100000
def Yg l o{R}(h:pg l o=some R):cN aL 162 [tD kz o,aY (rPt bG) l] (gp R):=by
 refine dL func162 J<|aV<|cR J<|bn<|bA<|aw ?_;refine eE (ts:=[_,_,_,_,_,_,_,_,_,_,_,_,_,_]) mixed J J
  ⟨oU 2 J J (mj Gz AA J J),
  ⟨gH 0 bN J J,
  ⟨dy 5 1 J J (gA (Y J) hI),
  ⟨dy 6 2 J J (kR J),
  ⟨rn 2 7 3 J J J (ga J J J J (fun H=>mj Gz AA J J)),
  ⟨hY 8 4 7 3 J J J (ga J J J J (fun H=>eJ bN J J (br J H))),
  ⟨rn 1 7 3 J J J (ga J J J J (fun H=>(m9 GY J J).imp (fun _ _ h=>Xg.1 h))),
  ⟨hY 10 6 7 3 J J J (ga J J J J (fun H=>Di (br J H))),
  ⟨hY 11 7 7 3 J J J (ga J J J J (fun H=>dP lQ J re J (br J H))),
  ⟨hY 12 8 7 3 J J J (ga J J J J (fun H=>eJ bK J J (br J H))),
  ⟨hY 13 9 7 3 J J J (ga J J J J (fun H=>iY dI (br J H))),
  ⟨w8 9 5 14 10 7 3 J J J J (ga J J J J (fun H=>eT (br J H) (br J H))),
  ⟨eQ 7 3 15 11 J J J (ZU J J),
  ⟨dy 16 12 J J (yO J),
  aW⟩⟩⟩⟩⟩⟩⟩⟩⟩⟩⟩⟩⟩⟩ ?_
 exact ax<|kM<|so h▸aD J J
def abI(b:Nat)(ix:OI) l{R}(h:lW l=some R):dj aL 123 [tV (an b 0)] (fW b l ix) (fun _:OI=>gp R.1) (fun j=>fW b R.2 j):=by
 refine dj.of func123 J J J fun w0 S0=>?_;refine(show CG _ _ _ [bx (rH bG [(1,ak (ix.h 0).1 (ix.h 0).2 l.j'.length),(2,ak (ix.h 1).1 (ix.h 1).2 l.D'.length)]) 145 b l,dM gG 40 (ix.h 0).1 (ix.h 0).2 l.j',fa bY 3 (ix.h 1).1 (ix.h 1).2 l.D'] _ from ?_);refine aV<|M (Rs (fun _ _ h=>by rw [show _=_ from h];rfl) (Y J))<|bn<|bA<|aw ?_;refine mS 7 (ts:=[tV (an b 0),tV (an b 0),tV (an b 0),tV (an b 15),gM l.a_,tV (an b 0),tV (an b 17)]) mixed J J J
  ⟨oU 1 J J (kg GY (Y J)),
  ⟨oU 1 J J (kg GY (Y J)),
  ⟨dy 5 1 J J (aP (Y J)),
  ⟨dy 6 2 J J (qd 15 lQ J J J),
  ⟨dy 7 3 J J (ay (r:=rH bG [(1,ak (ix.h 0).1 (ix.h 0).2 l.j'.length),(2,ak (ix.h 1).1 (ix.h 1).2 l.D'.length)]) (x:=l) bK J J (jD re) (.head _) (Y J)),
  ⟨dy 4 0 J J (aP (Y J)),
  ⟨dy 9 5 J J (qd 17 iG J J J),
  aW⟩⟩⟩⟩⟩⟩⟩ ?_
 refine mD (gD bK J (Ac (hs' :=[(1,ak (ix.h 0).1 (ix.h 0).2 l.j'.length),(2,ak (ix.h 1).1 (ix.h 1).2 l.D'.length)]) vY ⟨.inr ⟨J,J⟩,.inr ⟨J,J⟩,aW⟩ J) J (Y J) (Y J)) fun i=>?_;refine(show RG _ _ _ _ [_,_,_] _ from ?_);refine bA<|aV<|M (kg GY (Y J))<|M (aP (Y J))<|bI 3 jX J<|bI 13 rX J<|M (ay (r:=rH bG [(1,ak (ix.h 0).1 (ix.h 0).2 l.j'.length),(2,ak (ix.h 1).1 (ix.h 1).2 l.D'.length)]) (x:=({l with B':=l.a_}:ap)) F2 J J (jD (gj ip m8)) (.head _) (Y J))<|M ((show ck _ _ _ _ (UQ bG ({l with B':=l.a_}:ap) b ((iM aL Su qw (fun(x:px)=>(pg ({l with B':=l.a_}:ap)) x))))from KN (cts:=[aY (rPt bG) ({l with B':=l.a_}:ap)]) (L_:=[.tmp 1]) adU (fun S S1 a Q hle hk=>uW (Qw (Y J) Q hle hk) trivial) (fun x y h=>Yg _ _ h)))<|cy h fun r F_ h=>M (Hx (r:=rH bG [(1,ak (ix.h 0).1 (ix.h 0).2 l.j'.length),(2,ak (ix.h 1).1 (ix.h 1).2 l.D'.length)]) (rd:=bG) (T:=145) (b:=b) (x:=({l with B':=l.a_}:ap)) (y:=({l with B':=l.a_}:ap)) (.head _) ZA (RN _ _ F_) (fun _ _ _ _ h=>h.1) (fun S S1 a Q hle hk=>uW (Q0 (Y J) Q hle) (uW (Xa (Y J) Q hle hk) trivial)) Kn)<|aU J<|aB J<|M (gz (Y J))<|aQ J<|aj J (fun H=>kg GY (Y J))<|aj J (fun H=>aP (br J H))<|aj J (fun H=>bS (n:=3) jX J (br J H) J)<|aj J (fun H=>bS (n:=13) rX J (br J H) J) ?_;refine aj J (fun H=>ay (r:=rH bG [(1,ak (ix.h 0).1 (ix.h 0).2 l.j'.length),(2,ak (ix.h 1).1 (ix.h 1).2 l.D'.length)]) (x:=({l with B':=l.a_}:ap)) F2 J J (jD (gj ip m8)) (.head _) (br J H))<|aj J (fM Bt J)<|aj J (fun H=>kZ (br J H) hI)<|dx J<|aQ J<|aj J (fun H=>kg GY (Y J))<|aj J (fun H=>aP (br J H))<|aj J (fun H=>bS (n:=3) jX J (br J H) J)<|aj J (fun H=>bS (n:=14) vT J (br J H) J)<|aj J (fun H=>ay (r:=rH bG [(1,ak (ix.h 0).1 (ix.h 0).2 l.j'.length),(2,ak (ix.h 1).1 (ix.h 1).2 l.D'.length)]) (x:=({l with B':=l.a_}:ap)) bN J J (jD (gj ip pD)) (.head _) (br J H))<|aj J (fun H=>eT (br J H) hI)<|dx J<|aQ J<|aj J (fun H=>kg GY (Y J))<|aj J (fun H=>aP (br J H))<|aj J (fun H=>bS (n:=3) jX J (br J H) J)<|aj J (fun H=>bS (n:=14) vT J (br J H) J)<|aj J (fun H=>ay (r:=rH bG [(1,ak (ix.h 0).1 (ix.h 0).2 l.j'.length),(2,ak (ix.h 1).1 (ix.h 1).2 l.D'.length)]) (x:=({l with B':=l.a_}:ap)) bN J J (jD (gj ip pD)) (.head _) (br J H))<|aj J (fun H=>kZ (br J H) hI)<|dx J<|bz J ?_;exact ah<|ah<|ah<|so h▸fm J ix J J (fun _ _ h=>h)
def abf{R}(h:sM=some R):cN aL 59 [] (UR (fun y:(ap->Unit->Option (Bool×ap))=>sb (fun bb=>dK aL (fun(x:Unit)=>[tV (an bb 0)]) (fW bb) qw y)) vG R):=by
 refine dL func59 J<|aV<|M (bL (show aG _ _ (.const (.map none)) (tV (.map none))from fun _ _ _=>J))<|bA<|aV<|wO (CL (fun y:(ap->Unit->Option (Bool×ap))=>sb (fun bb=>dK aL (fun(x:Unit)=>[tV (an bb 0)]) (fW bb) qw y))) vG J fun b=>fe (γ:=(fun y:(ap->Unit->Option (Bool×ap))=>sb (fun bb=>dK aL (fun(x:Unit)=>[tV (an bb 0)]) (fW bb) qw y))) (y:=(fun(mc:ap) (mx:Unit)=>lX mc)) FV (dV ld) (Y J) (nQ hI) (show aG _ _ _ (sb (fun bb=>dK aL (fun(x:Unit)=>[tV (an bb 0)]) (fW bb) qw (fun(mc:ap) (mx:Unit)=>lX mc)))from(HG fun bb=>qP aev (fun c x R h i=>abU _ _ _ h))) fun os=>fe (γ:=(fun y:(ap->Unit->Option (Bool×ap))=>sb (fun bb=>dK aL (fun(x:Unit)=>[tV (an bb 0)]) (fW bb) qw y))) (y:=(fun(mc:ap) (mx:Unit)=>jU mc)) FV (dV ld) (Y J) (nQ hI) (show aG _ _ _ (sb (fun bb=>dK aL (fun(x:Unit)=>[tV (an bb 0)]) (fW bb) qw (fun(mc:ap) (mx:Unit)=>jU mc)))from(HG fun bb=>qP aeu (fun c x R h i=>abT _ _ _ h))) fun os1=>fe (γ:=(fun y:(ap->Unit->Option (Bool×ap))=>sb (fun bb=>dK aL (fun(x:Unit)=>[tV (an bb 0)]) (fW bb) qw y))) (y:=(fun(mc:ap) (mx:Unit)=>lY mc)) FV (dV ld) (Y J) (nQ hI) (show aG _ _ _ (sb (fun bb=>dK aL (fun(x:Unit)=>[tV (an bb 0)]) (fW bb) qw (fun(mc:ap) (mx:Unit)=>lY mc)))from(HG fun bb=>qP aet (fun c x R h i=>abS _ _ _ h))) fun os2=>fe (γ:=(fun y:(ap->Unit->Option (Bool×ap))=>sb (fun bb=>dK aL (fun(x:Unit)=>[tV (an bb 0)]) (fW bb) qw y))) (y:=(fun(mc:ap) (mx:Unit)=>ke mc)) FV (dV ld) (Y J) (nQ hI) (show aG _ _ _ (sb (fun bb=>dK aL (fun(x:Unit)=>[tV (an bb 0)]) (fW bb) qw (fun(mc:ap) (mx:Unit)=>ke mc)))from(HG fun bb=>qP aes (fun c x R h i=>abR _ _ _ h))) fun os3=>fe (γ:=(fun y:(ap->Unit->Option (Bool×ap))=>sb (fun bb=>dK aL (fun(x:Unit)=>[tV (an bb 0)]) (fW bb) qw y))) (y:=(fun(mc:ap) (mx:Unit)=>gv mc)) FV (dV ld) (Y J) (nQ hI) (show aG _ _ _ (sb (fun bb=>dK aL (fun(x:Unit)=>[tV (an bb 0)]) (fW bb) qw (fun(mc:ap) (mx:Unit)=>gv mc)))from(HG fun bb=>qP ZI (fun c x R h i=>abQ _ _ _ h))) fun os4=>fe (γ:=(fun y:(ap->Unit->Option (Bool×ap))=>sb (fun bb=>dK aL (fun(x:Unit)=>[tV (an bb 0)]) (fW bb) qw y))) (y:=(fun(mc:ap) (mx:Unit)=>jA mc)) FV (dV ld) (Y J) (nQ hI) (show aG _ _ _ (sb (fun bb=>dK aL (fun(x:Unit)=>[tV (an bb 0)]) (fW bb) qw (fun(mc:ap) (mx:Unit)=>jA mc)))from(HG fun bb=>qP aer (fun c x R h i=>abO _ _ _ h))) fun os5=>fe (γ:=(fun y:(ap->Unit->Option (Bool×ap))=>sb (fun bb=>dK aL (fun(x:Unit)=>[tV (an bb 0)]) (fW bb) qw y))) (y:=(fun(mc:ap) (mx:Unit)=>kV mc)) FV (dV ld) (Y J) (nQ hI) (show aG _ _ _ (sb (fun bb=>dK aL (fun(x:Unit)=>[tV (an bb 0)]) (fW bb) qw (fun(mc:ap) (mx:Unit)=>kV mc)))from(HG fun bb=>qP aeq (fun c x R h i=>abN _ _ _ h))) fun os6=>fe (γ:=(fun y:(ap->Unit->Option (Bool×ap))=>sb (fun bb=>dK aL (fun(x:Unit)=>[tV (an bb 0)]) (fW bb) qw y))) (y:=(fun(mc:ap) (mx:Unit)=>mp mc)) FV (dV ld) (Y J) (nQ hI) (show aG _ _ _ (sb (fun bb=>dK aL (fun(x:Unit)=>[tV (an bb 0)]) (fW bb) qw (fun(mc:ap) (mx:Unit)=>mp mc)))from(HG fun bb=>qP aep (fun c x R h i=>abL _ _ _ h))) fun os7=>fe (γ:=(fun y:(ap->Unit->Option (Bool×ap))=>sb (fun bb=>dK aL (fun(x:Unit)=>[tV (an bb 0)]) (fW bb) qw y))) (y:=(fun(mc:ap) (mx:Unit)=>nX mc)) FV (dV ld) (Y J) (nQ hI) (show aG _ _ _ (sb (fun bb=>dK aL (fun(x:Unit)=>[tV (an bb 0)]) (fW bb) qw (fun(mc:ap) (mx:Unit)=>nX mc)))from(HG fun bb=>qP aeo (fun c x R h i=>abK _ _ _ h))) fun os8=>fe (γ:=(fun y:(ap->Unit->Option (Bool×ap))=>sb (fun bb=>dK aL (fun(x:Unit)=>[tV (an bb 0)]) (fW bb) qw y))) (y:=(fun(mc:ap) (mx:Unit)=>kT mc)) FV (dV ld) (Y J) (nQ hI) (show aG _ _ _ (sb (fun bb=>dK aL (fun(x:Unit)=>[tV (an bb 0)]) (fW bb) qw (fun(mc:ap) (mx:Unit)=>kT mc)))from(HG fun bb=>qP aen (fun c x R h i=>abJ _ _ _ h))) fun os9=>fe (γ:=(fun y:(ap->Unit->Option (Bool×ap))=>sb (fun bb=>dK aL (fun(x:Unit)=>[tV (an bb 0)]) (fW bb) qw y))) (y:=(fun(mc:ap) (mx:Unit)=>lW mc)) FV (dV ld) (Y J) (nQ hI) (show aG _ _ _ (sb (fun bb=>dK aL (fun(x:Unit)=>[tV (an bb 0)]) (fW bb) qw (fun(mc:ap) (mx:Unit)=>lW mc)))from(HG fun bb=>qP aem (fun c x R h i=>abI _ _ _ h))) fun os10=>aQ J<|aU J ?_;exact kM<|FQ 0 J<|so h▸aD J J
def Qh s v{R}(h:ft s v=some R):cN aL 87 [gM s,bX v] (gp R):=by
 exact dL func87 J<|aV<|bn<|bA<|aB J<|aQ J<|eG h Wq (Lo _ _) (cA J) fun r h=>M (eT (Y J) hI)<|bz J<|so h▸aD J J
def YF op{R}(h:yY op=some R):cN aL 124 [bX op] (bX R):=by
 refine dL func124 J<|aV<|cM<|bA<|bc<|aQ J<|bA<|am ?_;refine fL (h3:=fun x=>uH op x=some R) (Of:=fun x=>[]) (Gf:=fun x=>[(3,bX op),(4,gp x)]) (fun x h=>?_) (fun hb=>?_)
 ·skip;refine oS h J (fun h=>?_) (fun h=>?_)
  ·exact aV<|jK<|dB<|so h▸aD J J
  ·refine fL (h3:=fun x1=>uG op x1=some R) (Of:=fun x1=>[]) (Gf:=fun x1=>[(3,bX op),(7,gp x1)]) (fun x1 h=>?_) (fun K1=>?_)
   ·skip;refine oS h J (fun h=>?_) (fun h=>?_)
    ·exact aV<|jK<|dB<|so h▸aD J J
    ·refine fL (h3:=fun x2=>lM x2=some R) (Of:=fun x2=>[]) (Gf:=fun x2=>[(10,gp x2)]) (fun x2 h=>?_) (fun K2=>?_)
     ·skip;refine oS h J (fun h=>?_) (fun h=>?_)
      ·exact aV<|jK<|dB<|so h▸aD J J
      ·exact bl<|bf<|ax<|aV<|jK<|so h▸aD J J
     ·skip;refine aV<|cz J<|aU J<|oS h J (fun h=>?_) (fun h=>?_)
      ·refine bl ?_;exact bQ (K2 (op==3) h) (aX J)
      ·refine aV<|cz J<|aU J<|oS h J (fun h=>?_) (fun h=>?_)
       ·refine bl ?_;exact bQ (K2 (op==4) h) (aX J)
       ·refine aV<|cz J<|aU J<|oS h J (fun h=>?_) (fun h=>?_)
        ·refine bl ?_;exact bQ (K2 (op==5) h) (aX J)
        ·refine aV<|cz J<|aU J<|oS h J (fun h=>?_) (fun h=>?_)
         ·refine bl ?_;exact bQ (K2 (op==6) h) (aX J)
         ·refine aV<|cz J<|aU J<|oS h J (fun h=>?_) (fun h=>?_)
          ·refine bl ?_;exact bQ (K2 (op==8) h) (aX J)
          ·refine aV<|cz J<|aU J<|oS h J (fun h=>?_) (fun h=>?_)
           ·refine bl ?_;exact bQ (K2 (op==10) h) (aX J)
           ·refine au<|cz J<|fX J<|bm ?_;exact bQ (K2 (op==11) h) (aX J)
   ·skip;refine aV<|cz J<|aU J<|oS h J (fun h=>?_) (fun h=>?_)
    ·refine bl ?_;exact bQ (K1 (op==2) h) (aX J)
    ·refine au<|cz J<|fX J<|bm ?_;exact bQ (K1 (op==7) h) (aX J)
 ·skip;refine aV<|cz J<|aU J<|oS h J (fun h=>?_) (fun h=>?_)
  ·refine bl ?_;exact bQ (hb (op==1) h) (aX J)
  ·refine au<|cz J<|fX J<|bm ?_;exact bQ (hb (op==9) h) (aX J)
def YE n{R}(h:uj n=some R):cN aL 125 [tD al n] (gp R):=by
 refine dL func125 J<|aV<|cR J<|bn<|bA<|aw ?_;refine eE (ts:=[_,_,_,_,_,_,_,_,_,_,_,_,_,_,_,_,_,_,_,_,_,_,_]) mixed J J
  ⟨oU 1 J J (mj jy dA J J),
  ⟨gH 0 bN J J,
  ⟨dy 7 1 J J (WI J),
  ⟨dy 8 2 J J (kR J),
  ⟨rn 1 9 3 J J J (ga J J J J (fun H=>mj jy dA J J)),
  ⟨hY 10 4 9 3 J J J (ga J J J J (fun H=>eJ bN J J (br J H))),
  ⟨hY 11 5 9 3 J J J (ga J J J J (fun H=>fc (br J H) hI)),
  ⟨eQ 9 3 12 6 J J J (ZU J J),
  ⟨oU 1 J J (mj jy dA J J),
  ⟨gH 8 bN J J,
  ⟨dy 15 9 J J (WI J),
  ⟨dy 16 10 J J (kR J),
  ⟨rn 1 17 11 J J J (ga J J J J (fun H=>mj jy dA J J)),
  ⟨hY 18 12 17 11 J J J (ga J J J J (fun H=>eJ bN J J (br J H))),
  ⟨hY 19 13 17 11 J J J (ga J J J J (fun H=>fc (br J H) hI)),
  ⟨eQ 17 11 20 14 J J J (ZU J J),
  ⟨dy 21 15 J J (kR J),
  ⟨rn 1 22 16 J J J (ga J J J J (fun H=>mj jy dA J J)),
  ⟨hY 23 17 22 16 J J J (ga J J J J (fun H=>eJ bN J J (br J H))),
  ⟨hY 24 18 22 16 J J J (ga J J J J (fun H=>fc (br J H) hI)),
  ⟨eQ 22 16 25 19 J J J (ZU J J),
  ⟨dy 13 7 J J (yO J),
  ⟨dy 26 20 J J (yO J),
  aW⟩⟩⟩⟩⟩⟩⟩⟩⟩⟩⟩⟩⟩⟩⟩⟩⟩⟩⟩⟩⟩⟩⟩ ?_
 refine ax<|aB J<|aQ J<|aC J (cZ oM gC J J)<|aC J (cG bN J J)<|aC J (iu J)<|aC J (t8 J)<|lr J J J J (fun H=>mj oL gY J J)<|lr J J J J (fun H=>eJ bK J J (br J H))<|lr J J J J (fun H=>iY dI (br J H))<|lr J J J J (fun H=>fc (br J H) hI)<|aC J (fun H=>sl (br J H) (fun K=>(br J (wY H K))))<|fV J<|aU J<|aB J<|aQ J<|aj J (cZ jy dA J J)<|aj J (cG bN J J) ?_;refine aj J (iu J)<|aj J (t8 J)<|cW J J J J (fun H=>mj Qe HK J J)<|cW J J J J (fun H=>eJ I0 J J (br J H))<|cW J J J J (fun H=>gz (br J H))<|aj J (fun H=>nh (br J H) (fun K=>(br J (wY H (sn K)))))<|dx J<|aQ J<|aj J (cZ jy dA J J)<|aj J (cG bN J J)<|aj J (iu J)<|aj J (t8 J)<|cW J J J J (fun H=>mj jy dA J J)<|cW J J J J (fun H=>eJ bN J J (br J H))<|cW J J J J (fun H=>fc (br J H) hI)<|aj J (fun H=>nh (br J H) (fun K=>(br J (wY H (sn K)))))<|aj J (t8 J)<|cW J J J J (fun H=>mj tK mK J J)<|cW J J J J (fun H=>dP gI J dF J (br J H))<|cW J J J J (fun H=>eJ pC J J (br J H))<|cW J J J J (fun H=>iY oD (br J H))<|cW J J J J (fun H=>fc (br J H) hI)<|aj J (fun H=>nh (br J H) (fun K=>(br J (wY H (sn K)))))<|dx J ?_;refine aU J<|aB J<|aQ J<|aj J (cY J)<|aj J (t8 J)<|cW J J J J (fun H=>mj mf eV J J)<|cW J J J J (fun H=>eJ bK J J (br J H))<|cW J J J J (fun H=>iY dI (br J H))<|cW J J J J (fun H=>mj kI fH J J)<|cW J J J J (fun H=>eJ tm J J (br J H))<|cW J J J J (fun H=>iY oP (br J H))<|cW J J J J (fun H=>nT (br J H) (br J H))<|cW J J J J (fun H=>fc (br J H) hI)<|aj J (fun H=>nh (br J H) (fun K=>(br J (wY H (sn K)))))<|dx J<|aQ J<|aj J (cZ jy dA J J)<|aj J (cG bN J J)<|aj J (iu J)<|aj J (t8 J) ?_;refine cW J J J J (fun H=>mj qT lH J J)<|cW J J J J (fun H=>eJ zP J J (br J H))<|cW J J J J (fun H=>iY s7 (br J H))<|cW J J J J (fun H=>fc (br J H) hI)<|aj J (fun H=>nh (br J H) (fun K=>(br J (wY H (sn K)))))<|dx J<|aU J<|aB J<|aQ J<|aj J (cZ jy dA J J)<|aj J (cG bN J J)<|aj J (iu J)<|aj J (t8 J)<|cW J J J J (fun H=>mj rX m8 J J)<|cW J J J J (fun H=>eJ F2 J J (br J H))<|cW J J J J (fun H=>iY Bt (br J H))<|cW J J J J (fun H=>fc (br J H) hI)<|cW J J J J (fun H=>bH (br J H))<|lr J J J J (fun H=>mj vT pD J J)<|lr J J J J (fun H=>eJ bN J J (br J H)) ?_;exact lr J J J J (fun H=>fc (br J H) hI)<|cW J J J J (fun H=>sl (br J H) (fun K=>(br J (wY H K))))<|aj J (fun H=>nh (br J H) (fun K=>(br J (wY H (sn K)))))<|dx J<|bz J<|so h▸aD J J
def ac8(b:Nat)(ix:OI) l i ask{R}(h:kU l i ask=some R):dj aL 60 [tV (an b 0),bX i,sb (fun bb=>dK aL (fun(x:Unit)=>[tV (an bb 0)]) (fW bb) qw ask)] (fW b l ix) (fun _:OI=>gp R.1) (fun j=>fW b R.2 j):=by
 refine dj.of func60 J J J fun w0 S0=>?_;refine(show CG _ _ _ [bx (rH bG [(1,ak (ix.h 0).1 (ix.h 0).2 l.j'.length),(2,ak (ix.h 1).1 (ix.h 1).2 l.D'.length)]) 145 b l,dM gG 40 (ix.h 0).1 (ix.h 0).2 l.j',fa bY 3 (ix.h 1).1 (ix.h 1).2 l.D'] _ from ?_);refine aV<|bn<|bA<|aB J<|M (aP (Y J))<|bI 0 Lg J<|M (ay (r:=rH bG [(1,ak (ix.h 0).1 (ix.h 0).2 l.j'.length),(2,ak (ix.h 1).1 (ix.h 1).2 l.D'.length)]) (x:=l) o5 J J (jD EI) (.head _) (Y J))<|aQ J<|cy h fun e U_ h=>dN kw dc J U_<|aO dc fC J fun b1=>bv dc ae J<|aH 7 J<|bA<|aV<|bg jy dA bN J ?_;refine eG h ael (YF _) (cA J) fun r h=>aU J<|bc<|aQ J<|M (gA (Y J) hI)<|aQ J<|aC J (cY J)<|aC J (cY J)<|aC J (fun H=>aP (br J H))<|aC J (fun H=>bS (n:=2) vU J (br J H) J)<|aC J (fun H=>qQ bK J (.head _) (br J H))<|aC J (fun H=>iF dI (.tail _ (.tail _ (.head _))) (br J H))<|aC J (fun H=>fR (br J H) (br J H))<|fV J<|aQ J<|cy h fun t Z_ h=>aC J (fun H=>m9 dc J J) ?_;obtain⟨r1,B_,h0t⟩:=og Z_;have q_r1g:=fun K=>(B_ K).1;refine aC J (fun H=>cq aek (YE _ (q_r1g H)) ⟨(br J H),aW⟩)<|aC J (wj J)<|M (iz (Y J) (fun K=>(br J (sn K))) (fun K=>(B_ K).2) h0t)<|bA<|qC (Y J) (fun hc=>?_) (fun hc=>?_)
 ·have h:=ct h hc;exact aV<|bn<|bO<|ai<|ah<|ah<|ah<|so h▸fm J ix J J (fun _ _ h=>h)
 ·have h:=cf h hc;refine kp<|aV<|M (uo (r:=bY) (ys:=[CU,CU]) (xs:=[.const (.int .i64 (-1)),.const (.int .i64 (-1))]) Ea bN J xY J J ⟨hI,hI,aW⟩)<|aO (r:=Sq) (x:=(List.replicate 2 (0:Int))) xY (fun _=>N4 (r:=bY) 2 (fun _=>J) _) J fun b2=>bv xY ae J<|bA<|aw<|cy h fun y q_y h=>?_;refine mS 13 (ts:=[tV (.slice (some ⟨b2,0,none⟩) 2 2),tV (an b 0),tV (an b 0),tV (an b 2),s5 (ix.h 1).1 (ix.h 1).2 l.D',tV (an b 0),tV (an b 0),tV (an b 2),s5 (ix.h 1).1 (ix.h 1).2 l.D',jg l.D',bX r,bX (i64.wrap ((l.D'.length:Int)-r)),tV (o4 1 (ix.h 1).1 (ix.h 1).2 (i64.wrap ((l.D'.length:Int)-r)).toNat y.length)]) mixed J J J
   ⟨oU 9 J J (MP Ea (Xc bN) (Y J)),
   ⟨fg J J,
   ⟨dy 42 1 J J (aP (Y J)),
   ⟨dy 43 2 J J (qd 2 vU J J J),
   ⟨dy 44 3 J J (qQ bK J (.tail _ (.head _)) (Y J)),
   ⟨fg J J,
   ⟨dy 46 5 J J (aP (Y J)),
   ⟨dy 47 6 J J (qd 2 vU J J J),
   ⟨dy 48 7 J J (qQ bK J (.tail _ (.head _)) (Y J)),
   ⟨dy 49 8 J J (iF dI (.tail _ (.tail _ (.tail _ (.head _)))) (Y J)),
   ⟨fg J J,
   ⟨eQ 50 9 51 10 J J J (ij (Y J) (Y J)),
   ⟨eQ 45 4 52 11 J J J (qN dI bN J (.tail _ (.tail _ (.tail _ (.head _)))) (Y J) (Y J) q_y),
   aW⟩⟩⟩⟩⟩⟩⟩⟩⟩⟩⟩⟩⟩ ?_
  refine rh (.tail _ (.tail _ (.tail _ (.head _)))) q_y fun hv=>nI (Lu (.tail _ (.tail _ (.tail _ (.head _)))) q_y dI (Q4 bN) (Y J) (Y J)) J fun i1=>?_;refine(show RG _ _ _ _ [_,_,_,_] ((54,bX ((min y.length 2:Nat):Int))::_)from ?_);refine bA<|bc<|M (ay (x:=(AN ([CU,CU]) y)) xY J J bC (.head _) (Y J))<|bg j8 d8 bN J<|bg oN jd bN J<|M (uo (r:=bY) (ys:=[e.A,e.B]) (xs:=[.tmp 57,.tmp 59]) Ea bN J xY J J ⟨(Y J),(Y J),aW⟩)<|M (Gr RV (Y J) (Y J))<|bA<|qC (Y J) (fun hc=>?_) (fun hc=>?_)
  ·have h:=ct h hc;exact aV<|bn<|bO<|ai<|aJ<|ah<|ah<|ah<|so h▸fm J ix J J (fun _ _ h=>h)
  ·have h:=cf h hc;refine kp<|aB J<|aQ J<|aQ J<|cx dc J<|M (aP (Y J))<|bI 3 jX J<|mD (fr1 (gD dc J (Ac (hs' :=[(1,ak (ix.h 0).1 (ix.h 0).2 l.j'.length),(2,ak (ix.h 1).1 (ix.h 1).2 l.D'.length)]) SS ⟨.inr ⟨J,J⟩,.inr ⟨J,J⟩,aW⟩ J) J (Y J) (Y J))) fun i2=>?_;refine(show RG _ _ _ _ [_,_,_,_] _ from ?_);refine M (aP (Y J))<|bI 15 lQ J<|mD (gD bK J (Ac (hs' :=[(1,ak (ix.h 0).1 (ix.h 0).2 l.j'.length),(2,ak (ix.h 1).1 (ix.h 1).2 l.D'.length)]) Jb ⟨.inr ⟨J,J⟩,.inr ⟨J,J⟩,aW⟩ J) J (Y J) ID) fun i3=>?_;refine(show RG _ _ _ _ [_,_,_,_] _ from ?_);refine M (aP (Y J))<|bI 16 Dx J<|mD (gD bK J (Ac (hs' :=[(1,ak (ix.h 0).1 (ix.h 0).2 l.j'.length),(2,ak (ix.h 1).1 (ix.h 1).2 l.D'.length)]) Ja ⟨.inr ⟨J,J⟩,.inr ⟨J,J⟩,aW⟩ J) J (Y J) ID) fun i4=>?_;refine(show RG _ _ _ _ [_,_,_,_] _ from ?_);refine bA<|aw<|aw<|cy h fun y1 q_y1 h=>?_;refine eE (ts:=[_,_,_,_,_,_,_,_,_,_,_,_,_,_]) mixed J J
    ⟨fg J J,
    ⟨dy 72 0 J J (aP (Y J)),
    ⟨dy 73 1 J J (qd 2 vU J J J),
    ⟨dy 74 2 J J (qQ bK J (.head _) (Y J)),
    ⟨fg J J,
    ⟨dy 76 4 J J (aP (Y J)),
    ⟨dy 77 5 J J (qd 2 vU J J J),
    ⟨dy 78 6 J J (qQ bK J (.head _) (Y J)),
    ⟨dy 79 7 J J (iF dI (.tail _ (.tail _ (.tail _ (.head _)))) (Y J)),
    ⟨fg J J,
    ⟨eQ 80 8 81 9 J J J (ij (Y J) (Y J)),
    ⟨eQ 75 3 82 10 J J J (qN dI bN J (.tail _ (.tail _ (.tail _ (.head _)))) (Y J) (Y J) q_y1),
    ⟨dy 83 11 J J (Rq dI (.tail _ (.tail _ (.tail _ (.head _)))) q_y1 (Y J)),
    ⟨zd0 J (bH hI),
    aW⟩⟩⟩⟩⟩⟩⟩⟩⟩⟩⟩⟩⟩⟩ ?_
   refine ax<|am<|LI (.tail _ (.tail _ (.tail _ (.head _)))) q_y1 fun hv1=>?_;have hN:=hv1.2;refine bE<|gE<|r0 ?_;refine aE (ox (h3:=fun ls i5 a_ b3=>(y1.drop i5=ls)/\bp l i ask e r ls i5 a_ b3=some R) (Of:=fun _ i5 a_ b3=>[bx (rH bG [(1,ak (ix.h 0).1 (ix.h 0).2 l.j'.length),(2,ak (ix.h 1).1 (ix.h 1).2 l.D'.length)]) 145 b ({l with n:=e,a_:=a_,b:=b3}:ap),dM gG 40 (ix.h 0).1 (ix.h 0).2 l.j',fa bY 3 (ix.h 1).1 (ix.h 1).2 l.D']) (Gf:=fun _ i5 a_ b3=>[(0,tV (an b 0)),(1,bX i),(2,sb (fun bb=>dK aL (fun(x:Unit)=>[tV (an bb 0)]) (fW bb) qw ask)),(7,aY al e),(8,bX r),(83,tV (o4 1 (ix.h 1).1 (ix.h 1).2 (i64.wrap ((l.D'.length:Int)-r)).toNat y1.length)),(84,jg y1),(85,bX (i5:Int))]) (fun i5 a_ b3 h=>?_) (fun e1 tl ih i5 a_ b3 h=>?_) y1 0 ([]) ([]) ⟨J,h⟩) (aX J)
   ·obtain⟨I,h⟩:=h;refine dH I J<|ax<|aV<|bg jy dA bN J<|cz J<|aQ J<|aC J (cZ jy dA J J)<|aC J (cG bN J J)<|aC J (iu J)<|fV J<|fX J ?_;refine bA<|bc<|aQ J<|aQ J<|aj J (cY J)<|aj J (cY J)<|aj J (fun H=>aP (br J H))<|aj J (fun H=>bS (n:=0) Lg J (br J H) J)<|aj J (fun H=>ay (r:=rH bG [(1,ak (ix.h 0).1 (ix.h 0).2 l.j'.length),(2,ak (ix.h 1).1 (ix.h 1).2 l.D'.length)]) (x:=({({({({({l with n:=e}:ap)with a_:=[]}:ap)with b:=[]}:ap)with a_:=a_}:ap)with b:=b3}:ap)) o5 J J (jD EI) (.head _) (br J H))<|aj J (fM kw J)<|aj J (fun H=>ij (br J H) hI)<|aj J (fun H=>jV (br J H) (br J H))<|dx J<|aQ J ?_;refine N9 (((e.Op==8)||(e.Op==10))&&(i !=(i64.wrap (((({({({({({l with n:=e}:ap)with a_:=[]}:ap)with b:=[]}:ap)with a_:=a_}:ap)with b:=b3}:ap).A').length:Int)-1)))) (fun H=>?_) (fun H=>?_)
    ·have h:=ct h H;refine sD J J J H J<|sD J J J H J<|sD J J J H J<|sD J J J H J<|M (EB (Y J) H hBc)<|aQ J<|sD J J J J J<|sD J J J J J<|sD J J J J J<|sD J J J J J<|sD J J J J J<|sD J J J J J<|M (EB (Y J) J hBc)<|bA<|qC (Y J) (fun hc=>?_) (fun hc=>?_)
     ·exact aV<|bn<|bO<|ai<|ah<|ah<|ah<|so h▸fm J ix J J (fun _ _ h=>h)
     ·cases hc
    ·have h:=cf h H;refine DW J J J H<|aQ J<|DW J J J H<|aQ J<|DW J J J H<|cy h fun r2 q_r2 h=>nI (fr2 (fr2 (fr2 (zt (args:=(fun(x:Unit)=>[tV (an b 0)])) (Ob:=fW b) (res:=qw) (f:=ask) (x:=({l with n:=e,a_:=a_,b:=b3}:ap)) (y:=(():Unit)) (R:=r2) (i:=ix) (xs:=[.tmp 136]) _ J (acV (t:=(fun bb=>dK aL (fun(x:Unit)=>[tV (an bb 0)]) (fW bb) qw ask)) b (Y J)) q_r2 ⟨(Y J),aW⟩ (fun _=>J))))) J fun i6=>?_;refine(show RG _ _ _ _ [_,_,_] ((137,gp r2.1)::_)from ?_);refine DW J J J H<|M (gz (Y J))<|M (Jp (Y J) H (Y J))<|aQ J<|aC J (cY J)<|aC J (fun H=>aP (br J H))<|aC J (fun H=>bS (n:=17) iG J (br J H) J)<|aC J (fun H=>ay (r:=rH bG [(1,ak (i6.h 0).1 (i6.h 0).2 r2.2.j'.length),(2,ak (i6.h 1).1 (i6.h 1).2 r2.2.D'.length)]) (x:=r2.2) bK J J (jD EH) (.head _) (br J H))<|aC J (fM dI J)<|aC J (fun H=>fR (br J H) hI)<|fV J<|cD h J (fun h=>?_) (fun h=>?_)
     ·exact aV<|bn<|bO<|ai<|ah<|ah<|ah<|so h▸fm J i6 J J (fun _ _ h=>h)
     ·refine kp<|aw<|cy h fun l1 q_l1 h=>cy h fun y2 q_y2 h=>cy h fun l2 q_l2 h=>?_;refine lw 30 [tc (tV (an b 0)),tc (tV (an b 0)),tc (tV (an b 0)),tc (tV (an b 0)),tc (tV (an b 1)),tc (tO gG (i6.h 0).1 (i6.h 0).2 r2.2.j'),tc (tV (an b 0)),tc (tV (an b 0)),tc (tV (an b 17)),tc (gM r2.2.B'),tc (fI (gG) ([r2.2.B'])),([11],fun s=>tO gG ((s.getD 0 rs).h 0).1 ((s.getD 0 rs).h 0).2 l1),tc (tV (an b 0)),tc (tV (an b 0)),tc (tV (an b 2)),tc (s5 (i6.h 1).1 (i6.h 1).2 r2.2.D'),tc (tV (an b 0)),tc (tV (an b 0)),tc (tV (an b 2)),tc (s5 (i6.h 1).1 (i6.h 1).2 r2.2.D'),tc (jg r2.2.D'),tc (bX r),tc (bX (i64.wrap ((r2.2.D'.length:Int)-r))),tc (s5 (i6.h 1).1 (i6.h 1).2 y2),tc (bX i),tc (gM ([i])),([26],fun s=>tV (ak ((s.getD 0 rs).h 0).1 ((s.getD 0 rs).h 0).2 l2.length)),tc (tV (an b 0)),tc (tV (an b 1)),tc (CZ)] [false,false,false,false,false,false,false,false,false,false,false,true,false,false,false,false,false,false,false,false,false,false,false,false,false,false,true,false,false,true] [fun _=>[bx (rH bG [(1,ak (i6.h 0).1 (i6.h 0).2 r2.2.j'.length),(2,ak (i6.h 1).1 (i6.h 1).2 r2.2.D'.length)]) 145 b r2.2,dM gG 40 (i6.h 0).1 (i6.h 0).2 r2.2.j',fa bY 3 (i6.h 1).1 (i6.h 1).2 r2.2.D'],fun sg=>[dM gG 40 ((sg 11).h 0).1 ((sg 11).h 0).2 l1,bx (rH bG [(1,ak (i6.h 0).1 (i6.h 0).2 r2.2.j'.length),(2,ak (i6.h 1).1 (i6.h 1).2 r2.2.D'.length)]) 145 b r2.2,fa bY 3 (i6.h 1).1 (i6.h 1).2 r2.2.D'],fun sg=>[fa bY 3 ((sg 26).h 0).1 ((sg 26).h 0).2 l2,dM gG 40 ((sg 11).h 0).1 ((sg 11).h 0).2 l1,bx (rH bG [(1,ak (i6.h 0).1 (i6.h 0).2 r2.2.j'.length),(2,ak (i6.h 1).1 (i6.h 1).2 r2.2.D'.length)]) 145 b r2.2],fun sg=>[bx (rH bG [(1,ak ((sg 11).h 0).1 ((sg 11).h 0).2 l1.length),(2,ak (i6.h 1).1 (i6.h 1).2 r2.2.D'.length)]) 145 b ({r2.2 with j':=l1}:ap),fa bY 3 ((sg 26).h 0).1 ((sg 26).h 0).2 l2,dM gG 40 ((sg 11).h 0).1 ((sg 11).h 0).2 l1]] J mixed J J J J J
       ⟨⟨[⟨0,fun _=>tV (an b 0),none⟩],_,0,2,J,⟨(fun _=>J),aW⟩,J,J,J,J,J,fun _ sg _ _=>aa J (kR J)⟩,
       ⟨⟨[⟨0,fun _=>tV (an b 0),none⟩],_,0,3,J,⟨(fun _=>J),aW⟩,J,J,J,J,J,fun _ sg _ _=>aa J (kR J)⟩,
       ⟨⟨[⟨0,fun _=>tV (an b 0),none⟩],_,0,0,J,⟨(fun _=>J),aW⟩,J,J,J,J,J,fun _ sg _ _=>aa J (kR J)⟩,
       ⟨⟨[⟨150,fun _=>tV (an b 0),some 2⟩],_,0,0,J,⟨(fun _=>J),aW⟩,J,J,J,J,J,fun _ sg _ _=>aa J (aP (Y J))⟩,
       ⟨⟨[⟨151,fun _=>tV (an b 0),some 3⟩],_,0,0,J,⟨(fun _=>J),aW⟩,J,J,J,J,J,fun _ sg _ _=>aa J (qd 1 Gy J J J)⟩,
       ⟨⟨[⟨152,fun _=>tV (an b 1),some 4⟩],_,0,0,J,⟨(fun _=>J),aW⟩,J,J,J,J,J,vI (fun sg=>aa J (fi ug J (.head _) (.tail _ (.head _)) (Y J)))⟩,
       ⟨⟨[⟨0,fun _=>tV (an b 0),none⟩],_,0,0,J,⟨(fun _=>J),aW⟩,J,J,J,J,J,fun _ sg _ _=>aa J (kR J)⟩,
       ⟨⟨[⟨154,fun _=>tV (an b 0),some 6⟩],_,0,0,J,⟨(fun _=>J),aW⟩,J,J,J,J,J,fun _ sg _ _=>aa J (aP (Y J))⟩,
       ⟨⟨[⟨155,fun _=>tV (an b 0),some 7⟩],_,0,0,J,⟨(fun _=>J),aW⟩,J,J,J,J,J,fun _ sg _ _=>aa J (qd 17 iG J J J)⟩,
       ⟨⟨[⟨156,fun _=>tV (an b 17),some 8⟩],_,0,0,J,⟨(fun _=>J),aW⟩,J,J,J,J,J,vI (fun sg=>aa J (ay (r:=rH bG [(1,ak (i6.h 0).1 (i6.h 0).2 r2.2.j'.length),(2,ak (i6.h 1).1 (i6.h 1).2 r2.2.D'.length)]) (x:=r2.2) bK J J (jD EH) (.head _) (Y J)))⟩,
       ⟨⟨[⟨157,fun _=>tD oQ r2.2.B',some 9⟩],_,0,0,J,⟨(fun _=>J),aW⟩,J,J,J,J,J,fun _ sg _ _=>aa J (aI (r:=oQ) (ys:=[r2.2.B']) (xs:=[.tmp 157]) qt bK J J J J J ⟨(Y J),aW⟩)⟩,
       ⟨⟨[⟨153,fun _=>tO oQ (i6.h 0).1 (i6.h 0).2 r2.2.j',some 5⟩,⟨158,fun _=>tD (eW oQ) ([r2.2.B']),some 10⟩],_,J,⟨(fun _=>J),(fun _=>J),aW⟩,J,J,J,fun sg=>cL J (fr1 (vg bK J J J J qt J (Y J) (Y J) q_l1))⟩,
       ⟨⟨[⟨0,fun _=>tV (an b 0),none⟩],_,0,1,J,⟨(fun _=>J),aW⟩,J,J,J,J,J,fun _ sg _ _=>aa J (kR J)⟩,
       ⟨⟨[⟨160,fun _=>tV (an b 0),some 12⟩],_,0,1,J,⟨(fun _=>J),aW⟩,J,J,J,J,J,fun _ sg _ _=>aa J (aP (Y J))⟩,
       ⟨⟨[⟨161,fun _=>tV (an b 0),some 13⟩],_,0,1,J,⟨(fun _=>J),aW⟩,J,J,J,J,J,fun _ sg _ _=>aa J (qd 2 vU J J J)⟩,
       ⟨⟨[⟨162,fun _=>tV (an b 2),some 14⟩],_,0,1,J,⟨(fun _=>J),aW⟩,J,J,J,J,J,Ee (fun sg=>aa J (qQ bK J (.head _) (Y J))) (vI (fun sg=>aa J (qQ bK J (.tail _ (.head _)) (Y J))))⟩,
       ⟨⟨[⟨0,fun _=>tV (an b 0),none⟩],_,0,1,J,⟨(fun _=>J),aW⟩,J,J,J,J,J,fun _ sg _ _=>aa J (kR J)⟩,
       ⟨⟨[⟨164,fun _=>tV (an b 0),some 16⟩],_,0,1,J,⟨(fun _=>J),aW⟩,J,J,J,J,J,fun _ sg _ _=>aa J (aP (Y J))⟩,
       ⟨⟨[⟨165,fun _=>tV (an b 0),some 17⟩],_,0,1,J,⟨(fun _=>J),aW⟩,J,J,J,J,J,fun _ sg _ _=>aa J (qd 2 vU J J J)⟩,
       ⟨⟨[⟨166,fun _=>tV (an b 2),some 18⟩],_,0,1,J,⟨(fun _=>J),aW⟩,J,J,J,J,J,Ee (fun sg=>aa J (qQ bK J (.head _) (Y J))) (vI (fun sg=>aa J (qQ bK J (.tail _ (.head _)) (Y J))))⟩,
       ⟨⟨[⟨167,fun _=>tV (ak (i6.h 1).1 (i6.h 1).2 r2.2.D'.length),some 19⟩],_,0,1,J,⟨(fun _=>J),aW⟩,J,J,J,J,J,Ee (fun sg=>aa J (iF dI (.tail _ (.tail _ (.head _))) (Y J))) (vI (fun sg=>aa J (iF dI (.tail _ (.tail _ (.head _))) (Y J))))⟩,
       ⟨⟨[⟨8,fun _=>tD bY r,none⟩],_,0,1,J,⟨(fun _=>J),aW⟩,J,J,J,J,J,fun _ sg _ _=>aa J (kR J)⟩,
       ⟨⟨[⟨168,fun _=>tD bY (r2.2.D'.length:Int),some 20⟩,⟨169,fun _=>tD bY r,some 21⟩],_,0,1,J,⟨(fun _=>J),(fun _=>J),aW⟩,J,J,J,J,J,fun _ sg _ _=>aa J (ij (Y J) (Y J))⟩,
       ⟨⟨[⟨163,fun _=>tV (ak (i6.h 1).1 (i6.h 1).2 r2.2.D'.length),some 15⟩,⟨170,fun _=>tD bY (i64.wrap ((r2.2.D'.length:Int)-r)),some 22⟩],_,0,1,J,⟨(fun _=>J),(fun _=>J),aW⟩,J,J,J,J,J,Ee (fun sg=>aa J (qO dI bN J (.tail _ (.tail _ (.head _))) (Y J) (Y J) q_y2)) (vI (fun sg=>aa J (qO dI bN J (.tail _ (.tail _ (.head _))) (Y J) (Y J) q_y2)))⟩,
       ⟨⟨[⟨1,fun _=>tD bY i,none⟩],_,0,1,J,⟨(fun _=>J),aW⟩,J,J,J,J,J,fun _ sg _ _=>aa J (kR J)⟩,
       ⟨⟨[⟨172,fun _=>tD bY i,some 24⟩],_,0,1,J,⟨(fun _=>J),aW⟩,J,J,J,J,J,fun _ sg _ _=>aa J (aI (r:=bY) (ys:=[i]) (xs:=[.tmp 172]) dI bN J J J J J ⟨(Y J),aW⟩)⟩,
       ⟨⟨[⟨171,fun _=>tV (ak (i6.h 1).1 (i6.h 1).2 y2.length),some 23⟩,⟨173,fun _=>tD oQ ([i]),some 25⟩],_,J,⟨(fun _=>J),(fun _=>J),aW⟩,J,J,J,fun sg=>cL J (fr2 (QK q_y2 (AK bN J J J J dI J (Y J) (Y J) q_l2)))⟩,
       ⟨⟨[⟨148,fun _=>tV (an b 0),some 0⟩],_,2,2,J,⟨(fun _=>J),aW⟩,J,J,J,J,J,fun _ sg _ _=>aa J (aP (Y J))⟩,
       ⟨⟨[⟨175,fun _=>tV (an b 0),some 27⟩],_,2,2,J,⟨(fun _=>J),aW⟩,J,J,J,J,J,fun _ sg _ _=>aa J (qd 1 Gy J J J)⟩,
       ⟨⟨[⟨176,fun _=>tV (an b 1),some 28⟩,⟨159,fun sg=>tO oQ ((sg 11).h 0).1 ((sg 11).h 0).2 l1,some 11⟩],_,J,⟨(fun _=>J),(fun _=>J),aW⟩,J,J,J,fun sg=>cL J (fr2 (sx (hs' :=[(1,ak ((sg 11).h 0).1 ((sg 11).h 0).2 l1.length),(2,ak (i6.h 1).1 (i6.h 1).2 r2.2.D'.length)]) (u:=ak ((sg 11).h 0).1 ((sg 11).h 0).2 l1.length) ug J J SU J ⟨.inl ⟨J,J,J⟩,.inr ⟨J,J⟩,aW⟩ (Y J) (nt (Y J)) (Ei (Y J))))⟩,
       aW⟩⟩⟩⟩⟩⟩⟩⟩⟩⟩⟩⟩⟩⟩⟩⟩⟩⟩⟩⟩⟩⟩⟩⟩⟩⟩⟩⟩⟩⟩ (fun sg=>?_)
      refine(show RG _ _ _ _ [_,_,_] _ from ?_);refine M (aP (Y J))<|bI 2 vU J<|mD (sx (hs' :=[(1,ak ((sg 11).h 0).1 ((sg 11).h 0).2 l1.length),(2,ak ((sg 26).h 0).1 ((sg 26).h 0).2 l2.length)]) (u:=ak ((sg 26).h 0).1 ((sg 26).h 0).2 l2.length) bK J J ST J ⟨.inr ⟨J,J⟩,.inl ⟨J,J,J⟩,aW⟩ (Y J) (aeY (y:=l2) (Y J) Vb) (Y J)) fun i7=>?_;refine(show RG _ _ _ _ [_,_,_] _ from ?_);exact bA<|aV<|bn<|bO<|bj<|ah<|ah<|so h▸fm J (D8 [(((sg 11).h 0).1,((sg 11).h 0).2),(((sg 26).h 0).1,((sg 26).h 0).2)]) J J (fun _ _ h=>h)
   ·obtain⟨I,h⟩:=h;refine dG I J<|aw<|am<|aB J<|M (BT dI bN J (.tail _ (.tail _ (.head _))) q_y1 (Y J) (Y J) (dE I))<|M (il (r:=bY) (i:=((i64.wrap ((l.D'.length:Int)-r))+(i5:Int))) (J_:=0) bN J J bC J (.tail _ (.tail _ (.head _))) (Ce q_y1 (dE I)).1 (Y J))<|fX J<|aU J<|aB J ?_;refine M (aP (Y J))<|bI 1 Gy J<|M (fi ug J (.head _) (.tail _ (.head _)) (Y J))<|aQ J<|cy h fun e2 M_ h=>M (aS qt bK J (nt (Y J)) (Y J) M_)<|cx bK J<|aU J<|bc<|bg jy dA bN J<|mn J<|aQ J<|cy h fun t1 q_t1 h=>aj J (cY J) ?_;obtain⟨r3,O_,h0t1⟩:=og q_t1;have q_r3g:=fun K=>(O_ K).1;refine aj J (fun H=>cq aca (Qh _ _ (q_r3g H)) ⟨(br J H),hI,aW⟩)<|M (dW (Y J) (fun K=>(br J K)) (fun K=>(O_ K).2) h0t1)<|cD h J (fun h=>?_) (fun h=>?_)
    ·exact aV<|bn<|bO<|ai<|dB<|ai<|dB<|ah<|ah<|ah<|so h▸fm J ix J J (fun _ _ h=>h)
    ·refine kp<|aB J<|cz J<|cD h J (fun h=>?_) (fun h=>?_)
     ·refine au<|aQ J<|aQ J<|M (aP (Y J))<|bI 15 lQ J<|mD (gD bK J (Ac (hs' :=[(1,ak (ix.h 0).1 (ix.h 0).2 l.j'.length),(2,ak (ix.h 1).1 (ix.h 1).2 l.D'.length)]) Jb ⟨.inr ⟨J,J⟩,.inr ⟨J,J⟩,aW⟩ J) J (Y J) (Y J)) fun i8z=>?_;refine(show RG _ _ _ _ [_,_,_] _ from ?_);refine bm<|dg I hN J ?_;exact aT (aE (ih (i5+1) e2 b3 ⟨cV I,h⟩) (aX J))
     ·refine au<|aQ J<|aQ J<|M (aP (Y J))<|bI 16 Dx J<|mD (gD bK J (Ac (hs' :=[(1,ak (ix.h 0).1 (ix.h 0).2 l.j'.length),(2,ak (ix.h 1).1 (ix.h 1).2 l.D'.length)]) Ja ⟨.inr ⟨J,J⟩,.inr ⟨J,J⟩,aW⟩ J) J (Y J) (Y J)) fun i9=>?_;refine(show RG _ _ _ _ [_,_,_] _ from ?_);refine bm<|dg I hN J ?_;exact aT (aE (ih (i5+1) a_ e2 ⟨cV I,h⟩) (aX J))
