/- di of this claim: P4. -/
import Derived.Test.YtmogpgcfognefaaGreatDoorNdT
import Derived.Test.YtmogpgcfognefaaGreatDoorNdP3
set_option linter.all false
namespace Go.Proofs.YtmogpgcfognefaaGreatDoor
open Go
set_option maxRecDepth 100000

theorem Ra(s:(List kW))(f:(kW→Option Bool)){R:Int}(h:iC s f=some R):bh be 218 [eV (iG) s,(iB be NO pQ (fun(x:kW)=>f x))] (bY R):=by
 refine bh.of Tryz.func218 J J J fun w0 S0=>an<|zo J (dv)<|al<|ae<|an<|ax J<|zo J (fU ve J)<|zo J (bk hI)<|al<|ap<|aT (k:=6) J fun hN=>bE ?_;refine aJ (dB (Z:=fun ls i=>(s.drop i=ls)∧ej f ls i=some R) (Of:=fun _ i=>[]) (Gf:=fun _ i=>[(0,eV (iG) s),(1,(iB be NO pQ (fun(x:kW)=>f x))),(7,gA s),(8,bY (i:Int))]) (fun i h=>?_) (fun e tl ih i h=>?_) s 0 ⟨J,h⟩) (aQ J)
 ·obtain⟨hx,h⟩:=h
  refine av<|an<|zo J (eu J J)<|al<|ae<|bu (ht J) (dh hx)<|bf ?_;refine ac (ac (aI ?_));refine ai<|an<|zo rfl (dv)<|al<|aj ?_;cases so h;exact aB J J
 ·obtain⟨hx,h⟩:=h
  refine av<|an<|zo J (eu J J)<|al<|ae<|bt (ht J) (dg hx)<|dF<|ae<|ap<|an<|ax J<|aY J<|al<|an<|ax J<|ax J<|ax J<|zo J (gM ve wu J J J (dl hx)) ?_;refine zo J (bj wu J J)<|bM h fun r q_r h=>zo J (jR (args:=NO) (res:=D3) (f:=(fun(x:kW)=>f x)) (x:=((e):kW)) (ht J) q_r ⟨(ht J),bm⟩)<|al<|cz h J (fun h=>?_) (fun h=>?_)
  ·refine an<|ax J<|aY J<|al<|aj ?_;refine am (aa (aa (am (aa ?_))));cases so h;exact aB J J
  ·refine aO<|af<|ai<|ah<|zo rfl (je (cx hx hN) rfl)<|ax rfl<|aC ?_;exact aM (aJ (ih (i+1) ⟨cw hx,h⟩) (aQ J))

theorem Rx(s:(List kW))(f:(kW→Option Bool)){R:Bool}(h:fj s f=some R):bh be 161 [eV (iG) s,(iB be NO pQ (fun(x:kW)=>f x))] (gD R):=by
 refine bh.of Tryz.func161 J J J fun w0 S0=>an<|zo J (ei)<|al<|an<|ax J<|ax J<|bM h fun r q_r h=>zo J (aH WD (Ra _ _ q_r) ⟨(ht J),(ht J),bm⟩)<|zo J (cS (ht J) hI)<|aY J<|al<|aj ?_;cases so h;exact aB J J

theorem Rw(l:aq)(o:kW){R:Bool}(h:mI l o=some R):bh be 162 [tD iG o,bF (XI bC) l] (gD R):=by
 refine bh.of Tryz.func162 J J J fun w0 S0=>an<|zo J (lK J)<|zo J (ei)<|al<|ae ?_
 refine er (ts:=[_,_,_,_,_,_,_,_,_,_,_,_,_,_]) mixed J J
  ⟨ic 2 J J J (bw B4 wR J J),
  ⟨dc 4 0 J J J (bj br J J),
  ⟨dc 5 1 J J J (eg (ht J) hI),
  ⟨dc 6 2 J J J (cq J),
  ⟨jn 2 7 3 J J J J (d9 J J J J (fun hg=>bw B4 wR J J)),
  ⟨dR 8 4 7 3 J J J J (d9 J J J J (fun hg=>aF br J J (aG J hg))),
  ⟨jn 1 7 3 J J J J (d9 J J J J (fun hg=>(bj Cs J J).imp (fun _ _ h=>PZ.1 h))),
  ⟨dR 10 6 7 3 J J J J (d9 J J J J (fun hg=>KH (aG J hg))),
  ⟨dR 11 7 7 3 J J J J (d9 J J J J (fun hg=>cR jH J o6 J (aG J hg))),
  ⟨dR 12 8 7 3 J J J J (d9 J J J J (fun hg=>aF bV J J (aG J hg))),
  ⟨dR 13 9 7 3 J J J J (d9 J J J J (fun hg=>bg cZ (aG J hg))),
  ⟨mB 9 5 14 10 7 3 J J J J J (d9 J J J J (fun hg=>cS (aG J hg) (aG J hg))),
  ⟨eT 7 3 15 11 J J J J (lH J J),
  ⟨dc 16 12 J J J (yG J),
  bm⟩⟩⟩⟩⟩⟩⟩⟩⟩⟩⟩⟩⟩⟩ ?_
 refine ai<|aj ?_;cases so h;exact aB J J

theorem VP(b:Nat)(ix:OI)(l:aq){R:Bool×aq}(h:jN l=some R):jh be 93 [tV (aN b 0)] (eW b l ix) (fun _:OI=>gD R.1) (fun j=>eW b R.2 j):=by
 refine jh.of Tryz.func93 J J J fun w0 S0=>?_;refine(show CG _ _ _ [bx (rH bC [(1,aD (ix.h 0).1 (ix.h 0).2 l.kinds.length),(2,aD (ix.h 1).1 (ix.h 1).2 l.open_.length)]) 124 b l,jx jd 29 (ix.h 0).1 (ix.h 0).2 l.kinds,cY cC 3 (ix.h 1).1 (ix.h 1).2 l.open_] _ from ?_);refine an<|zo J (Qo (fun _ _ h=>by rw [show _=_ from h];rfl) (ht J))<|zo J (ei)<|al<|ae ?_
 refine pr 7 (ts:=[tV (aN b 0),tV (aN b 0),tV (aN b 0),tV (aN b 15),ji l.a_,tV (aN b 0),tV (aN b 17)]) mixed J J J
  ⟨ic 1 J J J (uY Cs (ht J)),
  ⟨ic 1 J J J (uY Cs (ht J)),
  ⟨dc 5 1 J J J (bK (ht J)),
  ⟨dc 6 2 J J J (fi 15 jH J J J),
  ⟨dc 7 3 J J J (bl (r:=rH bC [(1,aD (ix.h 0).1 (ix.h 0).2 l.kinds.length),(2,aD (ix.h 1).1 (ix.h 1).2 l.open_.length)]) (x:=l) bV J J (iw o6) (.head _) (ht J)),
  ⟨dc 4 0 J J J (bK (ht J)),
  ⟨dc 9 5 J J J (fi 17 ga J J J),
  bm⟩⟩⟩⟩⟩⟩⟩ ?_
 refine pz (jv bV J (wy (hs' :=[(1,aD (ix.h 0).1 (ix.h 0).2 l.kinds.length),(2,aD (ix.h 1).1 (ix.h 1).2 l.open_.length)]) sL ⟨.inr ⟨J,J⟩,.inr ⟨J,J⟩,bm⟩ J) J (ht J) (ht J)) (fun i=>?_);refine(show RG _ _ _ _ [bx (rH bC [(1,aD (ix.h 0).1 (ix.h 0).2 l.kinds.length),(2,aD (ix.h 1).1 (ix.h 1).2 l.open_.length)]) 124 b ({l with result:=l.a_}:aq),jx jd 29 (ix.h 0).1 (ix.h 0).2 l.kinds,cY cC 3 (ix.h 1).1 (ix.h 1).2 l.open_] _ from ?_);refine al<|an<|zo J (uY Cs (ht J))<|zo J (bK (ht J))<|zo J (fi 3 ia J J J)<|zo J (fi 13 px J J J)<|zo J (bl (r:=rH bC [(1,aD (ix.h 0).1 (ix.h 0).2 l.kinds.length),(2,aD (ix.h 1).1 (ix.h 1).2 l.open_.length)]) (x:=({l with result:=l.a_}:aq)) yV J J (iw (gw fQ io)) (.head _) (ht J))<|zo J ((show cO _ _ _ _ (N3 bC ({l with result:=l.a_}:aq) b ((iB be NO pQ (fun(x:kW)=>(mI ({l with result:=l.a_}:aq)) x))))from Ga (cts:=[bF (XI bC) ({l with result:=l.a_}:aq)]) (caps:=[.tmp 1]) WX (fun S S1 a hf hle hk=>rF (J8 (ht J) hf hle hk) trivial) (fun x y h=>Rw _ _ h)))<|bM h fun r q_r h=>zo J (C3 (r:=rH bC [(1,aD (ix.h 0).1 (ix.h 0).2 l.kinds.length),(2,aD (ix.h 1).1 (ix.h 1).2 l.open_.length)]) (rd:=bC) (T:=124) (b:=b) (x:=({l with result:=l.a_}:aq)) (y:=({l with result:=l.a_}:aq)) (.head _) WY (Rx _ _ q_r) (fun _ _ _ _ h=>h.1) (fun S S1 a hf hle hk=>rF (Kr (ht J) hf hle) (rF (PX (ht J) hf hle hk) trivial)) FR)<|aY J<|al<|an<|ax J<|zo J (dD (ht J))<|ax J<|bo J J (fun hg=>uY Cs (ht J))<|bo J J (fun hg=>bK (aG J hg))<|bo J J (fun hg=>cr (n:=3) ia J (aG J hg) J)<|bo J J (fun hg=>cr (n:=13) px J (aG J hg) J) ?_;refine bo J J (fun hg=>bl (r:=rH bC [(1,aD (ix.h 0).1 (ix.h 0).2 l.kinds.length),(2,aD (ix.h 1).1 (ix.h 1).2 l.open_.length)]) (x:=({l with result:=l.a_}:aq)) yV J J (iw (gw fQ io)) (.head _) (aG J hg))<|bo J J (fun hg=>bg ve (aG J hg))<|bo J J (fun hg=>fM (aG J hg) hI)<|zo J (hZ J J)<|ax J<|bo J J (fun hg=>uY Cs (ht J))<|bo J J (fun hg=>bK (aG J hg))<|bo J J (fun hg=>cr (n:=3) ia J (aG J hg) J)<|bo J J (fun hg=>cr (n:=14) uh J (aG J hg) J)<|bo J J (fun hg=>bl (r:=rH bC [(1,aD (ix.h 0).1 (ix.h 0).2 l.kinds.length),(2,aD (ix.h 1).1 (ix.h 1).2 l.open_.length)]) (x:=({l with result:=l.a_}:aq)) br J J (iw (gw fQ mY)) (.head _) (aG J hg))<|bo J J (fun hg=>cS (aG J hg) hI)<|zo J (hZ J J)<|ax J<|bo J J (fun hg=>uY Cs (ht J))<|bo J J (fun hg=>bK (aG J hg))<|bo J J (fun hg=>cr (n:=3) ia J (aG J hg) J)<|bo J J (fun hg=>cr (n:=14) uh J (aG J hg) J)<|bo J J (fun hg=>bl (r:=rH bC [(1,aD (ix.h 0).1 (ix.h 0).2 l.kinds.length),(2,aD (ix.h 1).1 (ix.h 1).2 l.open_.length)]) (x:=({l with result:=l.a_}:aq)) br J J (iw (gw fQ mY)) (.head _) (aG J hg))<|bo J J (fun hg=>fM (aG J hg) hI)<|zo J (hZ J J)<|aY J<|al<|aj ?_;refine bc<|bc<|bc ?_;cases so h;exact eD J ix J J (fun _ _ h=>h)

theorem Uo{R:(List (Int×(aq→Unit→Option (Bool×aq))))}(h:pW=some R):bh be 46 [] (PM (fun y:(aq→Unit→Option (Bool×aq))=>pE (fun bb=>ku be (fun(x:Unit)=>[tV (aN bb 0)]) (eW bb) pQ y)) FH R):=by
 refine bh.of Tryz.func46 J J J fun w0 S0=>an<|zo J (aP (show aL _ _ (.const (.map none)) (tV (.map none))from fun _ _ _=>J))<|al<|an<|DD (Ow (fun y:(aq→Unit→Option (Bool×aq))=>pE (fun bb=>ku be (fun(x:Unit)=>[tV (aN bb 0)]) (eW bb) pQ y))) FH J fun b=>jm (γ:=(fun y:(aq→Unit→Option (Bool×aq))=>pE (fun bb=>ku be (fun(x:Unit)=>[tV (aN bb 0)]) (eW bb) pQ y))) (y:=(fun(mc:aq) (mx:Unit)=>jO mc)) BB (ir oT) (ht J) (sE hI) (show aL _ _ _ (pE (fun bb=>ku be (fun(x:Unit)=>[tV (aN bb 0)]) (eW bb) pQ (fun(mc:aq) (mx:Unit)=>jO mc)))from(Da fun bb=>oF Yk (fun c x R h i=>V1 _ _ _ h))) fun os=>jm (γ:=(fun y:(aq→Unit→Option (Bool×aq))=>pE (fun bb=>ku be (fun(x:Unit)=>[tV (aN bb 0)]) (eW bb) pQ y))) (y:=(fun(mc:aq) (mx:Unit)=>jg mc)) BB (ir oT) (ht J) (sE hI) (show aL _ _ _ (pE (fun bb=>ku be (fun(x:Unit)=>[tV (aN bb 0)]) (eW bb) pQ (fun(mc:aq) (mx:Unit)=>jg mc)))from(Da fun bb=>oF Yj (fun c x R h i=>V0 _ _ _ h))) fun os1=>jm (γ:=(fun y:(aq→Unit→Option (Bool×aq))=>pE (fun bb=>ku be (fun(x:Unit)=>[tV (aN bb 0)]) (eW bb) pQ y))) (y:=(fun(mc:aq) (mx:Unit)=>jP mc)) BB (ir oT) (ht J) (sE hI) (show aL _ _ _ (pE (fun bb=>ku be (fun(x:Unit)=>[tV (aN bb 0)]) (eW bb) pQ (fun(mc:aq) (mx:Unit)=>jP mc)))from(Da fun bb=>oF Yi (fun c x R h i=>VZ _ _ _ h))) fun os2=>jm (γ:=(fun y:(aq→Unit→Option (Bool×aq))=>pE (fun bb=>ku be (fun(x:Unit)=>[tV (aN bb 0)]) (eW bb) pQ y))) (y:=(fun(mc:aq) (mx:Unit)=>im mc)) BB (ir oT) (ht J) (sE hI) (show aL _ _ _ (pE (fun bb=>ku be (fun(x:Unit)=>[tV (aN bb 0)]) (eW bb) pQ (fun(mc:aq) (mx:Unit)=>im mc)))from(Da fun bb=>oF Yh (fun c x R h i=>VY _ _ _ h))) fun os3=>jm (γ:=(fun y:(aq→Unit→Option (Bool×aq))=>pE (fun bb=>ku be (fun(x:Unit)=>[tV (aN bb 0)]) (eW bb) pQ y))) (y:=(fun(mc:aq) (mx:Unit)=>ff mc)) BB (ir oT) (ht J) (sE hI) (show aL _ _ _ (pE (fun bb=>ku be (fun(x:Unit)=>[tV (aN bb 0)]) (eW bb) pQ (fun(mc:aq) (mx:Unit)=>ff mc)))from(Da fun bb=>oF Wb (fun c x R h i=>VX _ _ _ h))) fun os4=>jm (γ:=(fun y:(aq→Unit→Option (Bool×aq))=>pE (fun bb=>ku be (fun(x:Unit)=>[tV (aN bb 0)]) (eW bb) pQ y))) (y:=(fun(mc:aq) (mx:Unit)=>gT mc)) BB (ir oT) (ht J) (sE hI) (show aL _ _ _ (pE (fun bb=>ku be (fun(x:Unit)=>[tV (aN bb 0)]) (eW bb) pQ (fun(mc:aq) (mx:Unit)=>gT mc)))from(Da fun bb=>oF Yg (fun c x R h i=>VV _ _ _ h))) fun os5=>jm (γ:=(fun y:(aq→Unit→Option (Bool×aq))=>pE (fun bb=>ku be (fun(x:Unit)=>[tV (aN bb 0)]) (eW bb) pQ y))) (y:=(fun(mc:aq) (mx:Unit)=>fL mc)) BB (ir oT) (ht J) (sE hI) (show aL _ _ _ (pE (fun bb=>ku be (fun(x:Unit)=>[tV (aN bb 0)]) (eW bb) pQ (fun(mc:aq) (mx:Unit)=>fL mc)))from(Da fun bb=>oF Yf (fun c x R h i=>VU _ _ _ h))) fun os6=>jm (γ:=(fun y:(aq→Unit→Option (Bool×aq))=>pE (fun bb=>ku be (fun(x:Unit)=>[tV (aN bb 0)]) (eW bb) pQ y))) (y:=(fun(mc:aq) (mx:Unit)=>j5 mc)) BB (ir oT) (ht J) (sE hI) (show aL _ _ _ (pE (fun bb=>ku be (fun(x:Unit)=>[tV (aN bb 0)]) (eW bb) pQ (fun(mc:aq) (mx:Unit)=>j5 mc)))from(Da fun bb=>oF Ye (fun c x R h i=>VS _ _ _ h))) fun os7=>jm (γ:=(fun y:(aq→Unit→Option (Bool×aq))=>pE (fun bb=>ku be (fun(x:Unit)=>[tV (aN bb 0)]) (eW bb) pQ y))) (y:=(fun(mc:aq) (mx:Unit)=>lN mc)) BB (ir oT) (ht J) (sE hI) (show aL _ _ _ (pE (fun bb=>ku be (fun(x:Unit)=>[tV (aN bb 0)]) (eW bb) pQ (fun(mc:aq) (mx:Unit)=>lN mc)))from(Da fun bb=>oF Yd (fun c x R h i=>VR _ _ _ h))) fun os8=>jm (γ:=(fun y:(aq→Unit→Option (Bool×aq))=>pE (fun bb=>ku be (fun(x:Unit)=>[tV (aN bb 0)]) (eW bb) pQ y))) (y:=(fun(mc:aq) (mx:Unit)=>jf mc)) BB (ir oT) (ht J) (sE hI) (show aL _ _ _ (pE (fun bb=>ku be (fun(x:Unit)=>[tV (aN bb 0)]) (eW bb) pQ (fun(mc:aq) (mx:Unit)=>jf mc)))from(Da fun bb=>oF Yc (fun c x R h i=>VQ _ _ _ h))) fun os9=>jm (γ:=(fun y:(aq→Unit→Option (Bool×aq))=>pE (fun bb=>ku be (fun(x:Unit)=>[tV (aN bb 0)]) (eW bb) pQ y))) (y:=(fun(mc:aq) (mx:Unit)=>jN mc)) BB (ir oT) (ht J) (sE hI) (show aL _ _ _ (pE (fun bb=>ku be (fun(x:Unit)=>[tV (aN bb 0)]) (eW bb) pQ (fun(mc:aq) (mx:Unit)=>jN mc)))from(Da fun bb=>oF Yb (fun c x R h i=>VP _ _ _ h))) fun os10=>ax J<|aY J<|al ?_;refine aj<|Bu 0 J ?_;cases so h;exact aB J J

theorem T4(op:Int){R:Int}(h:vz op=some R):bh be 94 [bY op] (bY R):=by
 refine bh.of Tryz.func94 J J J fun w0 S0=>an<|zo J (dv)<|al<|ae<|an<|ax J<|al<|ap ?_;refine c0 (Z:=fun x=>rs op x=some R) (Of:=fun x=>[]) (Gf:=fun x=>[(3,bY op),(4,gD x)]) (fun x h=>?_) (fun K=>?_)
 ·skip
  refine cz h J (fun h=>?_) (fun h=>?_)
  ·refine an<|zo J (dv)<|al<|aj ?_;refine am (aa ?_);cases so h;exact aB J J
  ·refine c0 (Z:=fun x1=>rr op x1=some R) (Of:=fun x1=>[]) (Gf:=fun x1=>[(3,bY op),(7,gD x1)]) (fun x1 h=>?_) (fun K1=>?_)
   ·skip
    refine cz h J (fun h=>?_) (fun h=>?_)
    ·refine an<|zo J (dv)<|al<|aj ?_;refine am (aa ?_);cases so h;exact aB J J
    ·refine c0 (Z:=fun x2=>jD x2=some R) (Of:=fun x2=>[]) (Gf:=fun x2=>[(10,gD x2)]) (fun x2 h=>?_) (fun K2=>?_)
     ·skip
      refine cz h J (fun h=>?_) (fun h=>?_)
      ·refine an<|zo J (dv)<|al<|aj ?_;refine am (aa ?_);cases so h;exact aB J J
      ·refine aO<|af<|ai<|an<|zo rfl (dv)<|al<|aj ?_;cases so h;exact aB J J
     ·skip
      refine an<|zo J (eQ J)<|aY J<|al<|cz h J (fun h=>?_) (fun h=>?_)
      ·refine aO ?_;exact bz (K2 (op==(3:Int)) h) (aQ J)
      ·refine an<|zo J (eQ J)<|aY J<|al<|cz h J (fun h=>?_) (fun h=>?_)
       ·refine aO ?_;exact bz (K2 (op==(4:Int)) h) (aQ J)
       ·refine an<|zo J (eQ J)<|aY J<|al<|cz h J (fun h=>?_) (fun h=>?_)
        ·refine aO ?_;exact bz (K2 (op==(5:Int)) h) (aQ J)
        ·refine an<|zo J (eQ J)<|aY J<|al<|cz h J (fun h=>?_) (fun h=>?_)
         ·refine aO ?_;exact bz (K2 (op==(6:Int)) h) (aQ J)
         ·refine an<|zo J (eQ J)<|aY J<|al<|cz h J (fun h=>?_) (fun h=>?_)
          ·refine aO ?_;exact bz (K2 (op==(8:Int)) h) (aQ J)
          ·refine an<|zo J (eQ J)<|aY J<|al<|cz h J (fun h=>?_) (fun h=>?_)
           ·refine aO ?_;exact bz (K2 (op==(10:Int)) h) (aQ J)
           ·refine ah<|zo J (eQ J)<|aY J<|aC ?_;exact bz (K2 (op==(11:Int)) h) (aQ J)
   ·skip
    refine an<|zo J (eQ J)<|aY J<|al<|cz h J (fun h=>?_) (fun h=>?_)
    ·refine aO ?_;exact bz (K1 (op==(2:Int)) h) (aQ J)
    ·refine ah<|zo J (eQ J)<|aY J<|aC ?_;exact bz (K1 (op==(7:Int)) h) (aQ J)
 ·skip
  refine an<|zo J (eQ J)<|aY J<|al<|cz h J (fun h=>?_) (fun h=>?_)
  ·refine aO ?_;exact bz (K (op==(1:Int)) h) (aQ J)
  ·refine ah<|zo J (eQ J)<|aY J<|aC ?_;exact bz (K (op==(9:Int)) h) (aQ J)

theorem T0(n:aw){R:Bool}(h:q8 n=some R):bh be 95 [tD aA n] (gD R):=by
 refine bh.of Tryz.func95 J J J fun w0 S0=>an<|zo J (lK J)<|zo J (ei)<|al<|ae ?_
 refine er (ts:=[_,_,_,_,_,_,_,_,_,_,_,_,_,_,_,_,_,_,_,_,_,_,_]) mixed J J
  ⟨ic 1 J J J (bw eh cj J J),
  ⟨dc 6 0 J J J (bj br J J),
  ⟨dc 7 1 J J J (eQ J),
  ⟨dc 8 2 J J J (cq J),
  ⟨jn 1 9 3 J J J J (d9 J J J J (fun hg=>bw eh cj J J)),
  ⟨dR 10 4 9 3 J J J J (d9 J J J J (fun hg=>aF br J J (aG J hg))),
  ⟨dR 11 5 9 3 J J J J (d9 J J J J (fun hg=>bq (aG J hg) hI)),
  ⟨eT 9 3 12 6 J J J J (lH J J),
  ⟨ic 1 J J J (bw eh cj J J),
  ⟨dc 14 8 J J J (bj br J J),
  ⟨dc 15 9 J J J (eQ J),
  ⟨dc 16 10 J J J (cq J),
  ⟨jn 1 17 11 J J J J (d9 J J J J (fun hg=>bw eh cj J J)),
  ⟨dR 18 12 17 11 J J J J (d9 J J J J (fun hg=>aF br J J (aG J hg))),
  ⟨dR 19 13 17 11 J J J J (d9 J J J J (fun hg=>bq (aG J hg) hI)),
  ⟨eT 17 11 20 14 J J J J (lH J J),
  ⟨dc 21 15 J J J (cq J),
  ⟨jn 1 22 16 J J J J (d9 J J J J (fun hg=>bw eh cj J J)),
  ⟨dR 23 17 22 16 J J J J (d9 J J J J (fun hg=>aF br J J (aG J hg))),
  ⟨dR 24 18 22 16 J J J J (d9 J J J J (fun hg=>bq (aG J hg) hI)),
  ⟨eT 22 16 25 19 J J J J (lH J J),
  ⟨dc 13 7 J J J (yG J),
  ⟨dc 26 20 J J J (yG J),
  bm⟩⟩⟩⟩⟩⟩⟩⟩⟩⟩⟩⟩⟩⟩⟩⟩⟩⟩⟩⟩⟩⟩⟩ ?_
 refine ai<|an<|ax rfl<|ax rfl<|bX rfl rfl (fun hg=>bw kj d8 J J)<|bX J J (fun hg=>aF br J J (aG J hg))<|bX J J (fun hg=>bq (aG J hg) hI)<|bX J J (fun hg=>bk (aG J hg))<|dm J J J J (fun hg=>bw jV d7 J J)<|dm J J J J (fun hg=>aF bV J J (aG J hg))<|dm J J J J (fun hg=>bg cZ (aG J hg))<|dm J J J J (fun hg=>bq (aG J hg) hI)<|bX J J (fun hg=>iP (aG J hg) (fun hb=>(aG J (oa hg hb))))<|zo J (lH J J)<|aY J<|al<|an<|ax J<|ax J<|bo J J (fun hg=>bw eh cj J J)<|bo J J (fun hg=>aF br J J (aG J hg)) ?_;refine bo J J (fun hg=>bq (aG J hg) hI)<|bo J J (fun hg=>bk (aG J hg))<|ck J J J J (fun hg=>bw OQ Dg J J)<|ck J J J J (fun hg=>aF NB J J (aG J hg))<|ck J J J J (fun hg=>dD (aG J hg))<|bo J J (fun hg=>j7 (aG J hg) (fun hb=>(aG J (oa hg (mW hb)))))<|zo J (hZ J J)<|ax J<|bo J J (fun hg=>bw eh cj J J)<|bo J J (fun hg=>aF br J J (aG J hg))<|bo J J (fun hg=>bq (aG J hg) hI)<|bo J J (fun hg=>bk (aG J hg))<|ck J J J J (fun hg=>bw eh cj J J)<|ck J J J J (fun hg=>aF br J J (aG J hg))<|ck J J J J (fun hg=>bq (aG J hg) hI)<|bo J J (fun hg=>j7 (aG J hg) (fun hb=>(aG J (oa hg (mW hb)))))<|bo J J (fun hg=>bk (aG J hg))<|ck J J J J (fun hg=>bw uE oP J J)<|ck J J J J (fun hg=>cR d3 J cU J (aG J hg))<|ck J J J J (fun hg=>aF jZ J J (aG J hg))<|ck J J J J (fun hg=>bg pi (aG J hg))<|ck J J J J (fun hg=>bq (aG J hg) hI)<|bo J J (fun hg=>j7 (aG J hg) (fun hb=>(aG J (oa hg (mW hb)))))<|zo J (hZ J J) ?_;refine aY J<|al<|an<|ax J<|ax J<|bo J J (fun hg=>cq J)<|bo J J (fun hg=>bk (aG J hg))<|ck J J J J (fun hg=>bw jk dO J J)<|ck J J J J (fun hg=>aF bV J J (aG J hg))<|ck J J J J (fun hg=>bg cZ (aG J hg))<|ck J J J J (fun hg=>bw ki eO J J)<|ck J J J J (fun hg=>aF sf J J (aG J hg))<|ck J J J J (fun hg=>bg nw (aG J hg))<|ck J J J J (fun hg=>fm (aG J hg) (aG J hg))<|ck J J J J (fun hg=>bq (aG J hg) hI)<|bo J J (fun hg=>j7 (aG J hg) (fun hb=>(aG J (oa hg (mW hb)))))<|zo J (hZ J J)<|ax J<|bo J J (fun hg=>bw eh cj J J)<|bo J J (fun hg=>aF br J J (aG J hg))<|bo J J (fun hg=>bq (aG J hg) hI)<|bo J J (fun hg=>bk (aG J hg)) ?_;refine ck J J J J (fun hg=>bw rh nh J J)<|ck J J J J (fun hg=>aF yW J J (aG J hg))<|ck J J J J (fun hg=>bg rD (aG J hg))<|ck J J J J (fun hg=>bq (aG J hg) hI)<|bo J J (fun hg=>j7 (aG J hg) (fun hb=>(aG J (oa hg (mW hb)))))<|zo J (hZ J J)<|aY J<|al<|an<|ax J<|ax J<|bo J J (fun hg=>bw eh cj J J)<|bo J J (fun hg=>aF br J J (aG J hg))<|bo J J (fun hg=>bq (aG J hg) hI)<|bo J J (fun hg=>bk (aG J hg))<|ck J J J J (fun hg=>bw px io J J)<|ck J J J J (fun hg=>aF yV J J (aG J hg))<|ck J J J J (fun hg=>bg ve (aG J hg))<|ck J J J J (fun hg=>bq (aG J hg) hI)<|ck J J J J (fun hg=>bk (aG J hg))<|dm J J J J (fun hg=>bw uh mY J J)<|dm J J J J (fun hg=>aF br J J (aG J hg)) ?_;refine dm J J J J (fun hg=>bq (aG J hg) hI)<|ck J J J J (fun hg=>iP (aG J hg) (fun hb=>(aG J (oa hg hb))))<|bo J J (fun hg=>j7 (aG J hg) (fun hb=>(aG J (oa hg (mW hb)))))<|zo J (hZ J J)<|aY J<|al<|aj ?_;cases so h;exact aB J J

theorem Lo(s:(List Int))(v:Int){R:Int}(h:gn s v=some R):bh be 163 [ji s,bY v] (bY R):=by
 refine bh.of Tryz.func163 J J J fun w0 S0=>an<|zo J (dv)<|al<|ae<|an<|ax J<|zo J (fU cZ J)<|zo J (bk hI)<|al<|ap<|aT (k:=6) J fun hN=>bE ?_;refine aJ (dB (Z:=fun ls i=>(s.drop i=ls)∧eH v ls i=some R) (Of:=fun _ i=>[]) (Gf:=fun _ i=>[(0,ji s),(1,bY v),(7,gA s),(8,bY (i:Int))]) (fun i h=>?_) (fun e tl ih i h=>?_) s 0 ⟨J,h⟩) (aQ J)
 ·obtain⟨hx,h⟩:=h
  refine av<|an<|zo J (eu J J)<|al<|ae<|bu (ht J) (dh hx)<|bf ?_;refine ac (ac (aI ?_));refine ai<|an<|zo rfl (dv)<|al<|aj ?_;cases so h;exact aB J J
 ·obtain⟨hx,h⟩:=h
  refine av<|an<|zo J (eu J J)<|al<|ae<|bt (ht J) (dg hx)<|dF<|ae<|ap<|an<|ax J<|aY J<|al<|an<|ax J<|ax J<|ax J<|zo J (gM cZ br J J J (dl hx)) ?_;refine zo J (bj br J J)<|zo J (bq (ht J) (ht J))<|al<|cz h J (fun h=>?_) (fun h=>?_)
  ·refine an<|ax J<|aY J<|al<|aj ?_;refine am (aa (aa (am (aa ?_))));cases so h;exact aB J J
  ·refine aO<|af<|ai<|ah<|zo rfl (je (cx hx hN) rfl)<|ax rfl<|aC ?_;exact aM (aJ (ih (i+1) ⟨cw hx,h⟩) (aQ J))

theorem JU(s:(List Int))(v:Int){R:Bool}(h:d5 s v=some R):bh be 96 [ji s,bY v] (gD R):=by
 refine bh.of Tryz.func96 J J J fun w0 S0=>an<|zo J (ei)<|al<|an<|ax J<|ax J<|bM h fun r q_r h=>zo J (aH S6 (Lo _ _ q_r) ⟨(ht J),(ht J),bm⟩)<|zo J (cS (ht J) hI)<|aY J<|al<|aj ?_;cases so h;exact aB J J

theorem V4(b:Nat)(ix:OI)(l:aq)(i:Int)(ask:(aq→Unit→Option (Bool×aq))){R:Bool×aq}(h:fe l i ask=some R):jh be 47 [tV (aN b 0),bY i,pE (fun bb=>ku be (fun(x:Unit)=>[tV (aN bb 0)]) (eW bb) pQ ask)] (eW b l ix) (fun _:OI=>gD R.1) (fun j=>eW b R.2 j):=by
 refine jh.of Tryz.func47 J J J fun w0 S0=>?_;refine(show CG _ _ _ [bx (rH bC [(1,aD (ix.h 0).1 (ix.h 0).2 l.kinds.length),(2,aD (ix.h 1).1 (ix.h 1).2 l.open_.length)]) 124 b l,jx jd 29 (ix.h 0).1 (ix.h 0).2 l.kinds,cY cC 3 (ix.h 1).1 (ix.h 1).2 l.open_] _ from ?_);refine an<|zo J (ei)<|al<|an<|ax J<|zo J (bK (ht J))<|zo J (fi 0 Gw J J J)<|zo J (bl (r:=rH bC [(1,aD (ix.h 0).1 (ix.h 0).2 l.kinds.length),(2,aD (ix.h 1).1 (ix.h 1).2 l.open_.length)]) (x:=l) n8 J J (iw AE) (.head _) (ht J))<|ax J<|bM h fun e q_e h=>zo J (gM ib db J J J q_e)<|zo J (bj db J J)<|aZ (r:=aA) (x:=yF) db (fun _=>ev _) J fun b1=>aE db J ay J (ht J) (ht J)<|aW 7 J<|al<|an<|zo J (bw eh cj J J)<|zo J (bj br J J) ?_;refine bM h fun r q_r h=>zo J (aH Ya (T4 _ q_r) ⟨(ht J),bm⟩)<|aY J<|al<|ae<|an<|ax J<|zo J (eg (ht J) hI)<|ax J<|bX J J (fun hg=>cq J)<|bX J J (fun hg=>cq J)<|bX J J (fun hg=>bK (aG J hg))<|bX J J (fun hg=>cr (n:=2) sG J (aG J hg) J)<|bX J J (fun hg=>oG bV J (.head _) (aG J hg))<|bX J J (fun hg=>fc cZ (.tail _ (.tail _ (.head _))) (aG J hg))<|bX J J (fun hg=>dZ (aG J hg) (aG J hg))<|zo J (lH J J)<|ax J<|bM h fun t q_t h=>bX J J (fun hg=>bj db J J) ?_
 obtain⟨r1,h1t,h0t⟩:=og q_t
 have q_r1g:=fun hb=>(h1t hb).1
 refine bX J J (fun hg=>aH X9 (T0 _ (q_r1g hg)) ⟨(aG J hg),bm⟩)<|bX J J (fun hg=>dD (aG J hg))<|zo J (dY (ht J) (fun hb=>(aG J (mW hb))) (fun hb=>(h1t hb).2) h0t)<|al<|rA (ht J) (fun hc=>?_) (fun hc=>?_)
 ·have h:=ct h hc;refine an<|zo J (ei)<|al<|aj<|aa<|bc<|bc<|bc ?_;cases so h;exact eD J ix J J (fun _ _ h=>h)
 ·have h:=cf h hc;refine dF<|an<|zo J (sO (r:=cC) (ys:=[uQ,uQ]) (xs:=[.const (.int .i64 (-1)),.const (.int .i64 (-1))]) Cf br J BG J J ⟨hI,hI,bm⟩)<|aZ (r:=D2) (x:=(List.replicate 2 (0:Int))) BG (fun _=>Iu (r:=cC) 2 (fun _=>J) _) J fun b2=>aE BG J ay J (ht J) (ht J)<|al<|ae<|bM h fun y q_y h=>?_
  refine pr 13 (ts:=[tV (.slice (some ⟨b2,0,none⟩) 2 2),tV (aN b 0),tV (aN b 0),tV (aN b 2),mU (ix.h 1).1 (ix.h 1).2 l.open_,tV (aN b 0),tV (aN b 0),tV (aN b 2),mU (ix.h 1).1 (ix.h 1).2 l.open_,gA l.open_,bY r,bY (IntKind.i64.wrap ((l.open_.length:Int)-r)),tV (nR 1 (ix.h 1).1 (ix.h 1).2 (IntKind.i64.wrap ((l.open_.length:Int)-r)).toNat y.length)]) mixed J J J
   ⟨ic 9 J J J (HM Cf (PY br) (ht J)),
   ⟨ic 0 J J J (cq J),
   ⟨dc 42 1 J J J (bK (ht J)),
   ⟨dc 43 2 J J J (fi 2 sG J J J),
   ⟨dc 44 3 J J J (oG bV J (.tail _ (.head _)) (ht J)),
   ⟨ic 0 J J J (cq J),
   ⟨dc 46 5 J J J (bK (ht J)),
   ⟨dc 47 6 J J J (fi 2 sG J J J),
   ⟨dc 48 7 J J J (oG bV J (.tail _ (.head _)) (ht J)),
   ⟨dc 49 8 J J J (fc cZ (.tail _ (.tail _ (.tail _ (.head _)))) (ht J)),
   ⟨ic 8 J J J (cq J),
   ⟨eT 50 9 51 10 J J J J (dn (ht J) (ht J)),
   ⟨eT 45 4 52 11 J J J J (pY cZ br J (.tail _ (.tail _ (.tail _ (.head _)))) (ht J) (ht J) q_y),
   bm⟩⟩⟩⟩⟩⟩⟩⟩⟩⟩⟩⟩⟩ ?_
  refine qN (.tail _ (.tail _ (.tail _ (.head _)))) q_y fun hv=>DE (GH (.tail _ (.tail _ (.tail _ (.head _)))) q_y cZ (Kt br) (ht J) (ht J)) J fun i1=>?_;refine(show RG _ _ _ _ [bx D2 61 b2 (tu NL y),bx (rH bC [(1,aD (ix.h 0).1 (ix.h 0).2 l.kinds.length),(2,aD (ix.h 1).1 (ix.h 1).2 l.open_.length)]) 124 b l,jx jd 29 (ix.h 0).1 (ix.h 0).2 l.kinds,cY cC 3 (ix.h 1).1 (ix.h 1).2 l.open_] ((54,bY ((min y.length 2:Nat):Int))::_)from ?_);refine al<|ae<|an<|zo J (bl BG J J bO (.head _) (ht J))<|zo J (bw iS dE J J)<|zo J (bj br J J)<|zo J (bw kI ew J J)<|zo J (bj br J J)<|zo J (sO (r:=cC) (ys:=[e.A,e.B]) (xs:=[.tmp 57,.tmp 59]) Cf br J BG J J ⟨(ht J),(ht J),bm⟩)<|zo J (BX R6 (ht J) (ht J))<|al<|rA (ht J) (fun hc=>?_) (fun hc=>?_)
  ·have h:=ct h hc;refine an<|zo J (ei)<|al<|aj<|aa<|aX<|bc<|bc<|bc ?_;cases so h;exact eD J ix J J (fun _ _ h=>h)
  ·have h:=cf h hc;refine dF<|an<|ax J<|ax J<|ax J<|zo J (bj db J J)<|zo J (bK (ht J))<|zo J (fi 3 ia J J J)<|pz (EffOK.fr1 (jv db J (wy (hs' :=[(1,aD (ix.h 0).1 (ix.h 0).2 l.kinds.length),(2,aD (ix.h 1).1 (ix.h 1).2 l.open_.length)]) Mo ⟨.inr ⟨J,J⟩,.inr ⟨J,J⟩,bm⟩ J) J (ht J) (ht J))) fun i2=>?_;refine(show RG _ _ _ _ [bx (rH bC [(1,aD (ix.h 0).1 (ix.h 0).2 l.kinds.length),(2,aD (ix.h 1).1 (ix.h 1).2 l.open_.length)]) 124 b ({l with n:=e}:aq),bx D2 61 b2 (tu NL y),jx jd 29 (ix.h 0).1 (ix.h 0).2 l.kinds,cY cC 3 (ix.h 1).1 (ix.h 1).2 l.open_] _ from ?_);refine zo J (bK (ht J))<|zo J (fi 15 jH J J J)<|pz (jv bV J (wy (hs' :=[(1,aD (ix.h 0).1 (ix.h 0).2 l.kinds.length),(2,aD (ix.h 1).1 (ix.h 1).2 l.open_.length)]) EL ⟨.inr ⟨J,J⟩,.inr ⟨J,J⟩,bm⟩ J) J (ht J) lJ) fun i3=>?_;refine(show RG _ _ _ _ [bx (rH bC [(1,aD (ix.h 0).1 (ix.h 0).2 l.kinds.length),(2,aD (ix.h 1).1 (ix.h 1).2 l.open_.length)]) 124 b ({({l with n:=e}:aq)with a_:=[]}:aq),bx D2 61 b2 (tu NL y),jx jd 29 (ix.h 0).1 (ix.h 0).2 l.kinds,cY cC 3 (ix.h 1).1 (ix.h 1).2 l.open_] _ from ?_);refine zo J (bK (ht J))<|zo J (fi 16 zC J J J)<|pz (jv bV J (wy (hs' :=[(1,aD (ix.h 0).1 (ix.h 0).2 l.kinds.length),(2,aD (ix.h 1).1 (ix.h 1).2 l.open_.length)]) EK ⟨.inr ⟨J,J⟩,.inr ⟨J,J⟩,bm⟩ J) J (ht J) lJ) fun i4=>?_;refine(show RG _ _ _ _ [bx (rH bC [(1,aD (ix.h 0).1 (ix.h 0).2 l.kinds.length),(2,aD (ix.h 1).1 (ix.h 1).2 l.open_.length)]) 124 b ({({({l with n:=e}:aq)with a_:=[]}:aq)with b:=[]}:aq),bx D2 61 b2 (tu NL y),jx jd 29 (ix.h 0).1 (ix.h 0).2 l.kinds,cY cC 3 (ix.h 1).1 (ix.h 1).2 l.open_] _ from ?_);refine al<|ae<|ae<|bM h fun y1 q_y1 h=>?_
   refine er (ts:=[_,_,_,_,_,_,_,_,_,_,_,_,_,_]) mixed J J
    ⟨ic 0 J J J (cq J),
    ⟨dc 72 0 J J J (bK (ht J)),
    ⟨dc 73 1 J J J (fi 2 sG J J J),
    ⟨dc 74 2 J J J (oG bV J (.head _) (ht J)),
    ⟨ic 0 J J J (cq J),
    ⟨dc 76 4 J J J (bK (ht J)),
    ⟨dc 77 5 J J J (fi 2 sG J J J),
    ⟨dc 78 6 J J J (oG bV J (.head _) (ht J)),
    ⟨dc 79 7 J J J (fc cZ (.tail _ (.tail _ (.tail _ (.head _)))) (ht J)),
    ⟨ic 8 J J J (cq J),
    ⟨eT 80 8 81 9 J J J J (dn (ht J) (ht J)),
    ⟨eT 75 3 82 10 J J J J (pY cZ br J (.tail _ (.tail _ (.tail _ (.head _)))) (ht J) (ht J) q_y1),
    ⟨dc 83 11 J J J (KJ cZ (.tail _ (.tail _ (.tail _ (.head _)))) q_y1 (ht J)),
    ⟨zd0 J J (bk hI),
    bm⟩⟩⟩⟩⟩⟩⟩⟩⟩⟩⟩⟩⟩⟩ ?_
   refine ai<|ap<|GY (.tail _ (.tail _ (.tail _ (.head _)))) q_y1 fun hv1=>?_
   have hN:=hv1.2
   refine bE<|dW<|pB ?_;refine aJ (tB (Z:=fun ls i5 a_ b3=>(y1.drop i5=ls)∧bH l i ask e r ls i5 a_ b3=some R) (Of:=fun _ i5 a_ b3=>[bx (rH bC [(1,aD (ix.h 0).1 (ix.h 0).2 l.kinds.length),(2,aD (ix.h 1).1 (ix.h 1).2 l.open_.length)]) 124 b ({({({({({l with n:=e}:aq)with a_:=[]}:aq)with b:=[]}:aq)with a_:=a_}:aq)with b:=b3}:aq),jx jd 29 (ix.h 0).1 (ix.h 0).2 l.kinds,cY cC 3 (ix.h 1).1 (ix.h 1).2 l.open_]) (Gf:=fun _ i5 a_ b3=>[(0,tV (aN b 0)),(1,bY i),(2,pE (fun bb=>ku be (fun(x:Unit)=>[tV (aN bb 0)]) (eW bb) pQ ask)),(7,bF aA e),(8,bY r),(83,tV (nR 1 (ix.h 1).1 (ix.h 1).2 (IntKind.i64.wrap ((l.open_.length:Int)-r)).toNat y1.length)),(84,gA y1),(85,bY (i5:Int))]) (fun i5 a_ b3 h=>?_) (fun e1 tl ih i5 a_ b3 h=>?_) y1 0 (({({({l with n:=e}:aq)with a_:=[]}:aq)with b:=[]}:aq).a_) (({({({l with n:=e}:aq)with a_:=[]}:aq)with b:=[]}:aq).b) ⟨J,h⟩) (aQ J)
   ·obtain⟨hx,h⟩:=h
    refine av<|an<|zo J (eu J J)<|al<|ae<|bu (ht J) (dh hx)<|bf ?_;refine ac (ac (aI ?_));refine ai<|an<|zo rfl (bw eh cj rfl rfl)<|zo rfl (bj br rfl rfl)<|zo rfl (eQ rfl)<|ax rfl<|bX rfl rfl (fun hg=>bw eh cj J J)<|bX J J (fun hg=>aF br J J (aG J hg))<|bX J J (fun hg=>bq (aG J hg) hI)<|zo J (lH J J)<|aY J<|al<|ae<|an<|ax J<|ax J<|bo J J (fun hg=>cq J)<|bo J J (fun hg=>cq J)<|bo J J (fun hg=>bK (aG J hg))<|bo J J (fun hg=>cr (n:=0) Gw J (aG J hg) J)<|bo J J (fun hg=>bl (r:=rH bC [(1,aD (ix.h 0).1 (ix.h 0).2 l.kinds.length),(2,aD (ix.h 1).1 (ix.h 1).2 l.open_.length)]) (x:=({({({({({l with n:=e}:aq)with a_:=[]}:aq)with b:=[]}:aq)with a_:=a_}:aq)with b:=b3}:aq)) n8 J J (iw AE) (.head _) (aG J hg)) ?_;refine bo J J (fun hg=>bg ib (aG J hg))<|bo J J (fun hg=>dn (aG J hg) hI)<|bo J J (fun hg=>cA (aG J hg) (aG J hg))<|zo J (hZ J J)<|ax J ?_;refine Iz (((e.Op==(8:Int))||(e.Op==(10:Int)))&&(i !=(IntKind.i64.wrap (((({({({({({l with n:=e}:aq)with a_:=[]}:aq)with b:=[]}:aq)with a_:=a_}:aq)with b:=b3}:aq).nodes).length:Int)-(1:Int))))) (fun hg=>?_) (fun hg=>?_)
    ·have h:=ct h hg;refine pN J J J hg J<|pN J J J hg J<|pN J J J hg J<|pN J J J hg J<|zo J (Aw (ht J) hg XX)<|ax J<|pN J J J J J<|pN J J J J J<|pN J J J J J<|pN J J J J J<|pN J J J J J<|pN J J J J J<|zo J (Aw (ht J) J XX)<|al<|rA (ht J) (fun hc=>?_) (fun hc=>?_)
     ·refine an<|zo J (ei)<|al<|aj<|aa<|bc<|bc<|bc ?_;cases so h;exact eD J ix J J (fun _ _ h=>h)
     ·cases hc
    ·have h:=cf h hg;refine zP J J J hg<|ax J<|zP J J J hg<|ax J<|zP J J J hg<|bM h fun r2 q_r2 h=>DE (EffOK.fr2 (EffOK.fr2 (EffOK.fr2 (GI (args:=(fun(x:Unit)=>[tV (aN b 0)])) (Ob:=eW b) (res:=pQ) (f:=ask) (x:=({({({({({l with n:=e}:aq)with a_:=[]}:aq)with b:=[]}:aq)with a_:=a_}:aq)with b:=b3}:aq)) (y:=(():Unit)) (R:=r2) (i:=ix) (xs:=[.tmp 136]) _ J (VE (t:=(fun bb=>ku be (fun(x:Unit)=>[tV (aN bb 0)]) (eW bb) pQ ask)) b (ht J)) q_r2 ⟨(ht J),bm⟩ (fun _=>J))))) J fun i6=>?_;refine(show RG _ _ _ _ [bx (rH bC [(1,aD (i6.h 0).1 (i6.h 0).2 r2.2.kinds.length),(2,aD (i6.h 1).1 (i6.h 1).2 r2.2.open_.length)]) 124 b r2.2,jx jd 29 (i6.h 0).1 (i6.h 0).2 r2.2.kinds,cY cC 3 (i6.h 1).1 (i6.h 1).2 r2.2.open_] ((137,gD r2.1)::_)from ?_);refine zP J J J hg<|zo J (dD (ht J))<|zo J (EW (ht J) hg (ht J))<|ax J<|bX J J (fun hg=>cq J)<|bX J J (fun hg=>bK (aG J hg))<|bX J J (fun hg=>cr (n:=17) ga J (aG J hg) J)<|bX J J (fun hg=>bl (r:=rH bC [(1,aD (i6.h 0).1 (i6.h 0).2 r2.2.kinds.length),(2,aD (i6.h 1).1 (i6.h 1).2 r2.2.open_.length)]) (x:=r2.2) bV J J (iw AD) (.head _) (aG J hg))<|bX J J (fun hg=>bg cZ (aG J hg))<|bX J J (fun hg=>dZ (aG J hg) hI)<|zo J (lH J J)<|al<|cz h J (fun h=>?_) (fun h=>?_)
     ·refine an<|zo J (ei)<|al<|aj<|aa<|bc<|bc<|bc ?_;cases so h;exact eD J i6 J J (fun _ _ h=>h)
     ·refine dF<|ae<|bM h fun l1 q_l1 h=>bM h fun y2 q_y2 h=>bM h fun l2 q_l2 h=>?_
      refine rZ 30 [tc (tV (aN b 0)),tc (tV (aN b 0)),tc (tV (aN b 0)),tc (tV (aN b 0)),tc (tV (aN b 1)),tc (tO jd (i6.h 0).1 (i6.h 0).2 r2.2.kinds),tc (tV (aN b 0)),tc (tV (aN b 0)),tc (tV (aN b 17)),tc (ji r2.2.result),tc (eV (jd) ([r2.2.result])),([11],fun s=>tO jd ((s.getD 0 wk).h 0).1 ((s.getD 0 wk).h 0).2 l1),tc (tV (aN b 0)),tc (tV (aN b 0)),tc (tV (aN b 2)),tc (mU (i6.h 1).1 (i6.h 1).2 r2.2.open_),tc (tV (aN b 0)),tc (tV (aN b 0)),tc (tV (aN b 2)),tc (mU (i6.h 1).1 (i6.h 1).2 r2.2.open_),tc (gA r2.2.open_),tc (bY r),tc (bY (IntKind.i64.wrap ((r2.2.open_.length:Int)-r))),tc (mU (i6.h 1).1 (i6.h 1).2 y2),tc (bY i),tc (ji ([i])),([26],fun s=>tV (aD ((s.getD 0 wk).h 0).1 ((s.getD 0 wk).h 0).2 l2.length)),tc (tV (aN b 0)),tc (tV (aN b 1)),tc (BH)] [false,false,false,false,false,false,false,false,false,false,false,true,false,false,false,false,false,false,false,false,false,false,false,false,false,false,true,false,false,true] [fun _=>[bx (rH bC [(1,aD (i6.h 0).1 (i6.h 0).2 r2.2.kinds.length),(2,aD (i6.h 1).1 (i6.h 1).2 r2.2.open_.length)]) 124 b r2.2,jx jd 29 (i6.h 0).1 (i6.h 0).2 r2.2.kinds,cY cC 3 (i6.h 1).1 (i6.h 1).2 r2.2.open_],fun sg=>[jx jd 29 ((sg 11).h 0).1 ((sg 11).h 0).2 l1,bx (rH bC [(1,aD (i6.h 0).1 (i6.h 0).2 r2.2.kinds.length),(2,aD (i6.h 1).1 (i6.h 1).2 r2.2.open_.length)]) 124 b r2.2,cY cC 3 (i6.h 1).1 (i6.h 1).2 r2.2.open_],fun sg=>[cY cC 3 ((sg 26).h 0).1 ((sg 26).h 0).2 l2,jx jd 29 ((sg 11).h 0).1 ((sg 11).h 0).2 l1,bx (rH bC [(1,aD (i6.h 0).1 (i6.h 0).2 r2.2.kinds.length),(2,aD (i6.h 1).1 (i6.h 1).2 r2.2.open_.length)]) 124 b r2.2],fun sg=>[bx (rH bC [(1,aD ((sg 11).h 0).1 ((sg 11).h 0).2 l1.length),(2,aD (i6.h 1).1 (i6.h 1).2 r2.2.open_.length)]) 124 b ({r2.2 with kinds:=l1}:aq),cY cC 3 ((sg 26).h 0).1 ((sg 26).h 0).2 l2,jx jd 29 ((sg 11).h 0).1 ((sg 11).h 0).2 l1]] J mixed J J J J J
       ⟨⟨[⟨0,fun _=>tV (aN b 0),none⟩],_,0,2,J,⟨(fun _=>J),bm⟩,J,J,J,J,J,fun _ sg _ _=>ak J (cq J)⟩,
       ⟨⟨[⟨0,fun _=>tV (aN b 0),none⟩],_,0,3,J,⟨(fun _=>J),bm⟩,J,J,J,J,J,fun _ sg _ _=>ak J (cq J)⟩,
       ⟨⟨[⟨0,fun _=>tV (aN b 0),none⟩],_,0,0,J,⟨(fun _=>J),bm⟩,J,J,J,J,J,fun _ sg _ _=>ak J (cq J)⟩,
       ⟨⟨[⟨150,fun _=>tV (aN b 0),some 2⟩],_,0,0,J,⟨(fun _=>J),bm⟩,J,J,J,J,J,fun _ sg _ _=>ak J (bK (ht J))⟩,
       ⟨⟨[⟨151,fun _=>tV (aN b 0),some 3⟩],_,0,0,J,⟨(fun _=>J),bm⟩,J,J,J,J,J,fun _ sg _ _=>ak J (fi 1 B3 J J J)⟩,
       ⟨⟨[⟨152,fun _=>tV (aN b 1),some 4⟩],_,0,0,J,⟨(fun _=>J),bm⟩,J,J,J,J,J,tG (fun sg=>ak J (C0 D7 J (.head _) (.tail _ (.head _)) (ht J)))⟩,
       ⟨⟨[⟨0,fun _=>tV (aN b 0),none⟩],_,0,0,J,⟨(fun _=>J),bm⟩,J,J,J,J,J,fun _ sg _ _=>ak J (cq J)⟩,
       ⟨⟨[⟨154,fun _=>tV (aN b 0),some 6⟩],_,0,0,J,⟨(fun _=>J),bm⟩,J,J,J,J,J,fun _ sg _ _=>ak J (bK (ht J))⟩,
       ⟨⟨[⟨155,fun _=>tV (aN b 0),some 7⟩],_,0,0,J,⟨(fun _=>J),bm⟩,J,J,J,J,J,fun _ sg _ _=>ak J (fi 17 ga J J J)⟩,
       ⟨⟨[⟨156,fun _=>tV (aN b 17),some 8⟩],_,0,0,J,⟨(fun _=>J),bm⟩,J,J,J,J,J,tG (fun sg=>ak J (bl (r:=rH bC [(1,aD (i6.h 0).1 (i6.h 0).2 r2.2.kinds.length),(2,aD (i6.h 1).1 (i6.h 1).2 r2.2.open_.length)]) (x:=r2.2) bV J J (iw AD) (.head _) (ht J)))⟩,
       ⟨⟨[⟨157,fun _=>tD sd r2.2.result,some 9⟩],_,0,0,J,⟨(fun _=>J),bm⟩,J,J,J,J,J,fun _ sg _ _=>ak J (ba (r:=sd) (ys:=[r2.2.result]) (xs:=[.tmp 157]) n7 bV J J J J J ⟨(ht J),bm⟩)⟩,
       ⟨⟨[⟨153,fun _=>tO sd (i6.h 0).1 (i6.h 0).2 r2.2.kinds,some 5⟩,⟨158,fun _=>tD (eX sd) ([r2.2.result]),some 10⟩],_,J,⟨(fun _=>J),(fun _=>J),bm⟩,J,J,J,fun sg=>ea J (EffOK.fr1 (Im bV J J J J n7 J (ht J) (ht J) q_l1))⟩,
       ⟨⟨[⟨0,fun _=>tV (aN b 0),none⟩],_,0,1,J,⟨(fun _=>J),bm⟩,J,J,J,J,J,fun _ sg _ _=>ak J (cq J)⟩,
       ⟨⟨[⟨160,fun _=>tV (aN b 0),some 12⟩],_,0,1,J,⟨(fun _=>J),bm⟩,J,J,J,J,J,fun _ sg _ _=>ak J (bK (ht J))⟩,
       ⟨⟨[⟨161,fun _=>tV (aN b 0),some 13⟩],_,0,1,J,⟨(fun _=>J),bm⟩,J,J,J,J,J,fun _ sg _ _=>ak J (fi 2 sG J J J)⟩,
       ⟨⟨[⟨162,fun _=>tV (aN b 2),some 14⟩],_,0,1,J,⟨(fun _=>J),bm⟩,J,J,J,J,J,D5 (fun sg=>ak J (oG bV J (.head _) (ht J))) (tG (fun sg=>ak J (oG bV J (.tail _ (.head _)) (ht J))))⟩,
       ⟨⟨[⟨0,fun _=>tV (aN b 0),none⟩],_,0,1,J,⟨(fun _=>J),bm⟩,J,J,J,J,J,fun _ sg _ _=>ak J (cq J)⟩,
       ⟨⟨[⟨164,fun _=>tV (aN b 0),some 16⟩],_,0,1,J,⟨(fun _=>J),bm⟩,J,J,J,J,J,fun _ sg _ _=>ak J (bK (ht J))⟩,
       ⟨⟨[⟨165,fun _=>tV (aN b 0),some 17⟩],_,0,1,J,⟨(fun _=>J),bm⟩,J,J,J,J,J,fun _ sg _ _=>ak J (fi 2 sG J J J)⟩,
       ⟨⟨[⟨166,fun _=>tV (aN b 2),some 18⟩],_,0,1,J,⟨(fun _=>J),bm⟩,J,J,J,J,J,D5 (fun sg=>ak J (oG bV J (.head _) (ht J))) (tG (fun sg=>ak J (oG bV J (.tail _ (.head _)) (ht J))))⟩,
       ⟨⟨[⟨167,fun _=>tV (aD (i6.h 1).1 (i6.h 1).2 r2.2.open_.length),some 19⟩],_,0,1,J,⟨(fun _=>J),bm⟩,J,J,J,J,J,D5 (fun sg=>ak J (fc cZ (.tail _ (.tail _ (.head _))) (ht J))) (tG (fun sg=>ak J (fc cZ (.tail _ (.tail _ (.head _))) (ht J))))⟩,
       ⟨⟨[⟨8,fun _=>tD cC r,none⟩],_,0,1,J,⟨(fun _=>J),bm⟩,J,J,J,J,J,fun _ sg _ _=>ak J (cq J)⟩,
       ⟨⟨[⟨168,fun _=>tD cC (r2.2.open_.length:Int),some 20⟩,⟨169,fun _=>tD cC r,some 21⟩],_,0,1,J,⟨(fun _=>J),(fun _=>J),bm⟩,J,J,J,J,J,fun _ sg _ _=>ak J (dn (ht J) (ht J))⟩,
       ⟨⟨[⟨163,fun _=>tV (aD (i6.h 1).1 (i6.h 1).2 r2.2.open_.length),some 15⟩,⟨170,fun _=>tD cC (IntKind.i64.wrap ((r2.2.open_.length:Int)-r)),some 22⟩],_,0,1,J,⟨(fun _=>J),(fun _=>J),bm⟩,J,J,J,J,J,D5 (fun sg=>ak J (oE cZ br J (.tail _ (.tail _ (.head _))) (ht J) (ht J) q_y2)) (tG (fun sg=>ak J (oE cZ br J (.tail _ (.tail _ (.head _))) (ht J) (ht J) q_y2)))⟩,
       ⟨⟨[⟨1,fun _=>tD cC i,none⟩],_,0,1,J,⟨(fun _=>J),bm⟩,J,J,J,J,J,fun _ sg _ _=>ak J (cq J)⟩,
       ⟨⟨[⟨172,fun _=>tD cC i,some 24⟩],_,0,1,J,⟨(fun _=>J),bm⟩,J,J,J,J,J,fun _ sg _ _=>ak J (ba (r:=cC) (ys:=[i]) (xs:=[.tmp 172]) cZ br J J J J J ⟨(ht J),bm⟩)⟩,
       ⟨⟨[⟨171,fun _=>tV (aD (i6.h 1).1 (i6.h 1).2 y2.length),some 23⟩,⟨173,fun _=>tD sd ([i]),some 25⟩],_,J,⟨(fun _=>J),(fun _=>J),bm⟩,J,J,J,fun sg=>ea J (EffOK.fr2 (Ki q_y2 (wU br J J J J cZ J (ht J) (ht J) q_l2)))⟩,
       ⟨⟨[⟨148,fun _=>tV (aN b 0),some 0⟩],_,2,2,J,⟨(fun _=>J),bm⟩,J,J,J,J,J,fun _ sg _ _=>ak J (bK (ht J))⟩,
       ⟨⟨[⟨175,fun _=>tV (aN b 0),some 27⟩],_,2,2,J,⟨(fun _=>J),bm⟩,J,J,J,J,J,fun _ sg _ _=>ak J (fi 1 B3 J J J)⟩,
       ⟨⟨[⟨176,fun _=>tV (aN b 1),some 28⟩,⟨159,fun sg=>tO sd ((sg 11).h 0).1 ((sg 11).h 0).2 l1,some 11⟩],_,J,⟨(fun _=>J),(fun _=>J),bm⟩,J,J,J,fun sg=>ea J (EffOK.fr2 (Dr (hs' :=[(1,aD ((sg 11).h 0).1 ((sg 11).h 0).2 l1.length),(2,aD (i6.h 1).1 (i6.h 1).2 r2.2.open_.length)]) (u:=aD ((sg 11).h 0).1 ((sg 11).h 0).2 l1.length) D7 J J Mq J ⟨.inl ⟨J,J,J⟩,.inr ⟨J,J⟩,bm⟩ (ht J) (su (ht J)) (D8 (ht J))))⟩,
       bm⟩⟩⟩⟩⟩⟩⟩⟩⟩⟩⟩⟩⟩⟩⟩⟩⟩⟩⟩⟩⟩⟩⟩⟩⟩⟩⟩⟩⟩⟩ (fun sg=>?_)
      refine(show RG _ _ _ _ [bx (rH bC [(1,aD ((sg 11).h 0).1 ((sg 11).h 0).2 l1.length),(2,aD (i6.h 1).1 (i6.h 1).2 r2.2.open_.length)]) 124 b ({r2.2 with kinds:=l1}:aq),cY cC 3 ((sg 26).h 0).1 ((sg 26).h 0).2 l2,jx jd 29 ((sg 11).h 0).1 ((sg 11).h 0).2 l1] _ from ?_);refine zo J (bK (ht J))<|zo J (fi 2 sG J J J)<|pz (Dr (hs' :=[(1,aD ((sg 11).h 0).1 ((sg 11).h 0).2 l1.length),(2,aD ((sg 26).h 0).1 ((sg 26).h 0).2 l2.length)]) (u:=aD ((sg 26).h 0).1 ((sg 26).h 0).2 l2.length) bV J J Mp J ⟨.inr ⟨J,J⟩,.inl ⟨J,J,J⟩,bm⟩ (ht J) (XY (y:=l2) (ht J) Oj) (ht J)) fun i7=>?_;refine(show RG _ _ _ _ [bx (rH bC [(1,aD ((sg 11).h 0).1 ((sg 11).h 0).2 l1.length),(2,aD ((sg 26).h 0).1 ((sg 26).h 0).2 l2.length)]) 124 b ({({r2.2 with kinds:=l1}:aq)with open_:=l2}:aq),cY cC 3 ((sg 26).h 0).1 ((sg 26).h 0).2 l2,jx jd 29 ((sg 11).h 0).1 ((sg 11).h 0).2 l1] _ from ?_);refine al<|an<|zo J (ei)<|al<|aj<|aU<|bc<|bc ?_;cases so h;exact eD J (MM [(((sg 11).h 0).1,((sg 11).h 0).2),(((sg 26).h 0).1,((sg 26).h 0).2)]) J J (fun _ _ h=>h)
   ·obtain⟨hx,h⟩:=h
    refine av<|an<|zo J (eu J J)<|al<|ae<|bt (ht J) (dg hx)<|dF<|ae<|ap<|an<|ax J<|zo J (xN cZ br J (.tail _ (.tail _ (.head _))) q_y1 (ht J) (ht J) (dl hx))<|zo J (dj (r:=cC) (i:=((IntKind.i64.wrap ((l.open_.length:Int)-r))+(i5:Int))) (foff:=0) br J J bO J (.tail _ (.tail _ (.head _))) (yf q_y1 (dl hx)).1 (ht J))<|aY J<|aY J<|al<|an<|ax J ?_;refine zo J (bK (ht J))<|zo J (fi 1 B3 J J J)<|zo J (C0 D7 J (.head _) (.tail _ (.head _)) (ht J))<|ax J<|bM h fun e2 q_e2 h=>zo J (bW n7 bV J (su (ht J)) (ht J) q_e2)<|zo J (bj bV J J)<|aY J<|al<|ae<|an<|zo J (bw eh cj J J)<|zo J (bj br J J)<|zo J (uP J)<|ax J<|bM h fun t1 q_t1 h=>bo J J (fun hg=>cq J) ?_
    obtain⟨r3,h1t1,h0t1⟩:=og q_t1
    have q_r3g:=fun hb=>(h1t1 hb).1
    refine bo J J (fun hg=>aH UH (JU _ _ (q_r3g hg)) ⟨(aG J hg),hI,bm⟩)<|zo J (cu (ht J) (fun hb=>(aG J hb)) (fun hb=>(h1t1 hb).2) h0t1)<|al<|cz h J (fun h=>?_) (fun h=>?_)
    ·refine an<|zo J (ei)<|al<|aj ?_;refine aa (am (aa (aa (am (aa ?_)))));refine bc<|bc<|bc ?_;cases so h;exact eD J ix J J (fun _ _ h=>h)
    ·refine dF<|an<|ax J<|zo J (eQ J)<|al<|cz h J (fun h=>?_) (fun h=>?_)
     ·refine ah<|ax J<|ax J<|zo J (bK (ht J))<|zo J (fi 15 jH J J J)<|pz (jv bV J (wy (hs' :=[(1,aD (ix.h 0).1 (ix.h 0).2 l.kinds.length),(2,aD (ix.h 1).1 (ix.h 1).2 l.open_.length)]) EL ⟨.inr ⟨J,J⟩,.inr ⟨J,J⟩,bm⟩ J) J (ht J) (ht J)) fun i8=>?_;refine(show RG _ _ _ _ [bx (rH bC [(1,aD (ix.h 0).1 (ix.h 0).2 l.kinds.length),(2,aD (ix.h 1).1 (ix.h 1).2 l.open_.length)]) 124 b ({({({({({({l with n:=e}:aq)with a_:=[]}:aq)with b:=[]}:aq)with a_:=a_}:aq)with b:=b3}:aq)with a_:=e2}:aq),jx jd 29 (ix.h 0).1 (ix.h 0).2 l.kinds,cY cC 3 (ix.h 1).1 (ix.h 1).2 l.open_] _ from ?_);refine aC<|af<|ai<|ah<|zo rfl (je (cx hx hN) rfl)<|ax rfl<|aC ?_;exact aM (aJ (ih (i5+1) (({({({({({({l with n:=e}:aq)with a_:=[]}:aq)with b:=[]}:aq)with a_:=a_}:aq)with b:=b3}:aq)with a_:=e2}:aq).a_) (({({({({({({l with n:=e}:aq)with a_:=[]}:aq)with b:=[]}:aq)with a_:=a_}:aq)with b:=b3}:aq)with a_:=e2}:aq).b) ⟨cw hx,h⟩) (aQ J))
     ·refine ah<|ax J<|ax J<|zo J (bK (ht J))<|zo J (fi 16 zC J J J)<|pz (jv bV J (wy (hs' :=[(1,aD (ix.h 0).1 (ix.h 0).2 l.kinds.length),(2,aD (ix.h 1).1 (ix.h 1).2 l.open_.length)]) EK ⟨.inr ⟨J,J⟩,.inr ⟨J,J⟩,bm⟩ J) J (ht J) (ht J)) fun i9=>?_;refine(show RG _ _ _ _ [bx (rH bC [(1,aD (ix.h 0).1 (ix.h 0).2 l.kinds.length),(2,aD (ix.h 1).1 (ix.h 1).2 l.open_.length)]) 124 b ({({({({({({l with n:=e}:aq)with a_:=[]}:aq)with b:=[]}:aq)with a_:=a_}:aq)with b:=b3}:aq)with b:=e2}:aq),jx jd 29 (ix.h 0).1 (ix.h 0).2 l.kinds,cY cC 3 (ix.h 1).1 (ix.h 1).2 l.open_] _ from ?_);refine aC<|af<|ai<|ah<|zo rfl (je (cx hx hN) rfl)<|ax rfl<|aC ?_;exact aM (aJ (ih (i5+1) (({({({({({({l with n:=e}:aq)with a_:=[]}:aq)with b:=[]}:aq)with a_:=a_}:aq)with b:=b3}:aq)with b:=e2}:aq).a_) (({({({({({({l with n:=e}:aq)with a_:=[]}:aq)with b:=[]}:aq)with a_:=a_}:aq)with b:=b3}:aq)with b:=e2}:aq).b) ⟨cw hx,h⟩) (aQ J))

end Go.Proofs.YtmogpgcfognefaaGreatDoor

