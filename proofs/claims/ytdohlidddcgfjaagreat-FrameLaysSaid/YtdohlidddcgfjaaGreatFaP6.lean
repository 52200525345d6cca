/- cT of this claim: P6. -/
import Derived.Test.YtdohlidddcgfjaaGreatFaT
import Derived.Test.YtdohlidddcgfjaaGreatFaP5
set_option linter.all false
namespace Go.Proofs.YtdohlidddcgfjaaGreat
open Go
set_option maxRecDepth 100000

theorem Ok(l:al)(o:kq){R:Bool}(h:lA l o=some R):bk ba 208 [tD iY o,ce (UH bo) l] (fx R):=by
 refine bk.of Tryz.func208 I I I fun w0 S0=>aj<|zo I (kp I)<|zo I (dd)<|ai<|aa ?_
 refine fq (ts:=[_,_,_,_,_,_,_,_,_,_,_,_,_,_]) mixed I I
  ⟨im 2 I I I (aU wC sh I I),
  ⟨dQ 4 0 I I I (bf bp I I),
  ⟨dQ 5 1 I I I (d8 (ht I) hI),
  ⟨dQ 6 2 I I I (cw I),
  ⟨p6 2 7 3 I I I I (gg I I I I (fun hg=>aU wC sh I I)),
  ⟨iL 8 4 7 3 I I I I (gg I I I I (fun hg=>am bp I I (aA I hg))),
  ⟨p6 1 7 3 I I I I (gg I I I I (fun hg=>(bf AX I I).imp (fun _ _ h=>Nb.1 h))),
  ⟨iL 10 6 7 3 I I I I (gg I I I I (fun hg=>Nu (aA I hg))),
  ⟨iL 11 7 7 3 I I I I (gg I I I I (fun hg=>cK iT I ot I (aA I hg))),
  ⟨iL 12 8 7 3 I I I I (gg I I I I (fun hg=>am bV I I (aA I hg))),
  ⟨iL 13 9 7 3 I I I I (gg I I I I (fun hg=>bw cR (aA I hg))),
  ⟨xT 9 5 14 10 7 3 I I I I I (gg I I I I (fun hg=>dc (aA I hg) (aA I hg))),
  ⟨eF 7 3 15 11 I I I I (kh I I),
  ⟨dQ 16 12 I I I (Cd I),
  aZ⟩⟩⟩⟩⟩⟩⟩⟩⟩⟩⟩⟩⟩⟩ ?_
 refine af<|ah ?_;cases so h;exact aw I I

theorem Rm(b:Nat)(ix:OI)(l:al){R:Bool×al}(h:ja l=some R):dK ba 173 [tV (aL b 0)] (eD b l ix) (fun _:OI=>fx R.1) (fun j=>eD b R.2 j):=by
 refine dK.of Tryz.func173 I I I fun w0 S0=>?_;refine(show CG _ _ _ [bx (rH bo [(1,ax (ix.h 0).1 (ix.h 0).2 l.kinds.length),(2,ax (ix.h 1).1 (ix.h 1).2 l.open_.length)]) 168 b l,tip iW 69 (ix.h 0).1 (ix.h 0).2 l.kinds,df cq 3 (ix.h 1).1 (ix.h 1).2 l.open_] _ from ?_);refine aj<|zo I (Nw (fun _ _ h=>by rw [show _=_ from h];rfl) (ht I))<|zo I (dd)<|ai<|aa ?_
 refine q6 7 (ts:=[tV (aL b 0),tV (aL b 0),tV (aL b 0),tV (aL b 15),iK l.a_,tV (aL b 0),tV (aL b 17)]) mixed I I I
  ⟨im 1 I I I (tL AX (ht I)),
  ⟨im 1 I I I (tL AX (ht I)),
  ⟨dQ 5 1 I I I (bg (ht I)),
  ⟨dQ 6 2 I I I (fe 15 iT I I I),
  ⟨dQ 7 3 I I I (br (r:=rH bo [(1,ax (ix.h 0).1 (ix.h 0).2 l.kinds.length),(2,ax (ix.h 1).1 (ix.h 1).2 l.open_.length)]) (x:=l) bV I I (gW ot) (.head _) (ht I)),
  ⟨dQ 4 0 I I I (bg (ht I)),
  ⟨dQ 9 5 I I I (fe 17 fK I I I),
  aZ⟩⟩⟩⟩⟩⟩⟩ ?_
 refine iV (jD bV I (vv (hs' :=[(1,ax (ix.h 0).1 (ix.h 0).2 l.kinds.length),(2,ax (ix.h 1).1 (ix.h 1).2 l.open_.length)]) rJ ⟨.inr ⟨I,I⟩,.inr ⟨I,I⟩,aZ⟩ I) I (ht I) (ht I)) (fun i=>?_);refine(show RG _ _ _ _ [bx (rH bo [(1,ax (ix.h 0).1 (ix.h 0).2 l.kinds.length),(2,ax (ix.h 1).1 (ix.h 1).2 l.open_.length)]) 168 b ({l with result:=l.a_}:al),tip iW 69 (ix.h 0).1 (ix.h 0).2 l.kinds,df cq 3 (ix.h 1).1 (ix.h 1).2 l.open_] _ from ?_);refine ai<|aj<|zo I (tL AX (ht I))<|zo I (bg (ht I))<|zo I (fe 3 gH I I I)<|zo I (fe 13 iA I I I)<|zo I (br (r:=rH bo [(1,ax (ix.h 0).1 (ix.h 0).2 l.kinds.length),(2,ax (ix.h 1).1 (ix.h 1).2 l.open_.length)]) (x:=({l with result:=l.a_}:al)) sv I I (gW (gD fD dR)) (.head _) (ht I))<|zo I ((show cE _ _ _ _ (Lo bo ({l with result:=l.a_}:al) b ((kG ba K0 o0 (fun(x:kq)=>(lA ({l with result:=l.a_}:al)) x))))from Ef (cts:=[ce (UH bo) ({l with result:=l.a_}:al)]) (caps:=[.tmp 1]) TG (fun S S1 a hf hle hk=>AV (H8 (ht I) hf hle hk) trivial) (fun x y h=>Ok _ _ h)))<|bA h fun r q_r h=>zo I (LD (r:=rH bo [(1,ax (ix.h 0).1 (ix.h 0).2 l.kinds.length),(2,ax (ix.h 1).1 (ix.h 1).2 l.open_.length)]) (rd:=bo) (T:=168) (b:=b) (x:=({l with result:=l.a_}:al)) (y:=({l with result:=l.a_}:al)) (.head _) TH (Ol _ _ q_r) (fun _ _ _ _ h=>h.1) (fun S S1 a hf hle hk=>AV (Sc (ht I) hf hle) (AV (M5 (ht I) hf hle hk) trivial)) Nc)<|aS I<|ai<|aj<|av I<|zo I (dP (ht I))<|av I<|aO I I (fun hg=>tL AX (ht I))<|aO I I (fun hg=>bg (aA I hg))<|aO I I (fun hg=>bU (n:=3) gH I (aA I hg) I)<|aO I I (fun hg=>bU (n:=13) iA I (aA I hg) I) ?_;refine aO I I (fun hg=>br (r:=rH bo [(1,ax (ix.h 0).1 (ix.h 0).2 l.kinds.length),(2,ax (ix.h 1).1 (ix.h 1).2 l.open_.length)]) (x:=({l with result:=l.a_}:al)) sv I I (gW (gD fD dR)) (.head _) (aA I hg))<|aO I I (fun hg=>bw pR (aA I hg))<|aO I I (fun hg=>dV (aA I hg) hI)<|zo I (fV I I)<|av I<|aO I I (fun hg=>tL AX (ht I))<|aO I I (fun hg=>bg (aA I hg))<|aO I I (fun hg=>bU (n:=3) gH I (aA I hg) I)<|aO I I (fun hg=>bU (n:=14) oS I (aA I hg) I)<|aO I I (fun hg=>br (r:=rH bo [(1,ax (ix.h 0).1 (ix.h 0).2 l.kinds.length),(2,ax (ix.h 1).1 (ix.h 1).2 l.open_.length)]) (x:=({l with result:=l.a_}:al)) bp I I (gW (gD fD iu)) (.head _) (aA I hg))<|aO I I (fun hg=>dc (aA I hg) hI)<|zo I (fV I I)<|av I<|aO I I (fun hg=>tL AX (ht I))<|aO I I (fun hg=>bg (aA I hg))<|aO I I (fun hg=>bU (n:=3) gH I (aA I hg) I)<|aO I I (fun hg=>bU (n:=14) oS I (aA I hg) I)<|aO I I (fun hg=>br (r:=rH bo [(1,ax (ix.h 0).1 (ix.h 0).2 l.kinds.length),(2,ax (ix.h 1).1 (ix.h 1).2 l.open_.length)]) (x:=({l with result:=l.a_}:al)) bp I I (gW (gD fD iu)) (.head _) (aA I hg))<|aO I I (fun hg=>dV (aA I hg) hI)<|zo I (fV I I)<|aS I<|ai<|ah ?_;refine bl<|bl<|bl ?_;cases so h;exact ee I ix I I (fun _ _ h=>h)

theorem OQ{R:(List (Int×(al→Unit→Option (Bool×al))))}(h:mN=some R):bk ba 126 [] (Sx (fun y:(al→Unit→Option (Bool×al))=>o4 (fun bb=>eg ba (fun(x:Unit)=>[tV (aL bb 0)]) (eD bb) o0 y)) Ah R):=by
 refine bk.of Tryz.func126 I I I fun w0 S0=>aj<|zo I (aN (show aK _ _ (.const (.map none)) (tV (.map none))from fun _ _ _=>I))<|ai<|aj<|BY (Di (fun y:(al→Unit→Option (Bool×al))=>o4 (fun bb=>eg ba (fun(x:Unit)=>[tV (aL bb 0)]) (eD bb) o0 y))) Ah I fun b=>jt (γ:=(fun y:(al→Unit→Option (Bool×al))=>o4 (fun bb=>eg ba (fun(x:Unit)=>[tV (aL bb 0)]) (eD bb) o0 y))) (y:=(fun(mc:al) (mx:Unit)=>jb mc)) Ae (iz ov) (ht I) (sw hI) (show aK _ _ _ (o4 (fun bb=>eg ba (fun(x:Unit)=>[tV (aL bb 0)]) (eD bb) o0 (fun(mc:al) (mx:Unit)=>jb mc)))from(Bz fun bb=>nF Ua (fun c x R h i=>Rz _ _ _ h))) fun os=>jt (γ:=(fun y:(al→Unit→Option (Bool×al))=>o4 (fun bb=>eg ba (fun(x:Unit)=>[tV (aL bb 0)]) (eD bb) o0 y))) (y:=(fun(mc:al) (mx:Unit)=>iq mc)) Ae (iz ov) (ht I) (sw hI) (show aK _ _ _ (o4 (fun bb=>eg ba (fun(x:Unit)=>[tV (aL bb 0)]) (eD bb) o0 (fun(mc:al) (mx:Unit)=>iq mc)))from(Bz fun bb=>nF T9 (fun c x R h i=>Ry _ _ _ h))) fun os1=>jt (γ:=(fun y:(al→Unit→Option (Bool×al))=>o4 (fun bb=>eg ba (fun(x:Unit)=>[tV (aL bb 0)]) (eD bb) o0 y))) (y:=(fun(mc:al) (mx:Unit)=>gC mc)) Ae (iz ov) (ht I) (sw hI) (show aK _ _ _ (o4 (fun bb=>eg ba (fun(x:Unit)=>[tV (aL bb 0)]) (eD bb) o0 (fun(mc:al) (mx:Unit)=>gC mc)))from(Bz fun bb=>nF T8 (fun c x R h i=>Rx _ _ _ h))) fun os2=>jt (γ:=(fun y:(al→Unit→Option (Bool×al))=>o4 (fun bb=>eg ba (fun(x:Unit)=>[tV (aL bb 0)]) (eD bb) o0 y))) (y:=(fun(mc:al) (mx:Unit)=>fC mc)) Ae (iz ov) (ht I) (sw hI) (show aK _ _ _ (o4 (fun bb=>eg ba (fun(x:Unit)=>[tV (aL bb 0)]) (eD bb) o0 (fun(mc:al) (mx:Unit)=>fC mc)))from(Bz fun bb=>nF T7 (fun c x R h i=>Rw _ _ _ h))) fun os3=>jt (γ:=(fun y:(al→Unit→Option (Bool×al))=>o4 (fun bb=>eg ba (fun(x:Unit)=>[tV (aL bb 0)]) (eD bb) o0 y))) (y:=(fun(mc:al) (mx:Unit)=>ep mc)) Ae (iz ov) (ht I) (sw hI) (show aK _ _ _ (o4 (fun bb=>eg ba (fun(x:Unit)=>[tV (aL bb 0)]) (eD bb) o0 (fun(mc:al) (mx:Unit)=>ep mc)))from(Bz fun bb=>nF PL (fun c x R h i=>Rv _ _ _ h))) fun os4=>jt (γ:=(fun y:(al→Unit→Option (Bool×al))=>o4 (fun bb=>eg ba (fun(x:Unit)=>[tV (aL bb 0)]) (eD bb) o0 y))) (y:=(fun(mc:al) (mx:Unit)=>fb mc)) Ae (iz ov) (ht I) (sw hI) (show aK _ _ _ (o4 (fun bb=>eg ba (fun(x:Unit)=>[tV (aL bb 0)]) (eD bb) o0 (fun(mc:al) (mx:Unit)=>fb mc)))from(Bz fun bb=>nF T6 (fun c x R h i=>Rt _ _ _ h))) fun os5=>jt (γ:=(fun y:(al→Unit→Option (Bool×al))=>o4 (fun bb=>eg ba (fun(x:Unit)=>[tV (aL bb 0)]) (eD bb) o0 y))) (y:=(fun(mc:al) (mx:Unit)=>eu mc)) Ae (iz ov) (ht I) (sw hI) (show aK _ _ _ (o4 (fun bb=>eg ba (fun(x:Unit)=>[tV (aL bb 0)]) (eD bb) o0 (fun(mc:al) (mx:Unit)=>eu mc)))from(Bz fun bb=>nF T5 (fun c x R h i=>Rs _ _ _ h))) fun os6=>jt (γ:=(fun y:(al→Unit→Option (Bool×al))=>o4 (fun bb=>eg ba (fun(x:Unit)=>[tV (aL bb 0)]) (eD bb) o0 y))) (y:=(fun(mc:al) (mx:Unit)=>hU mc)) Ae (iz ov) (ht I) (sw hI) (show aK _ _ _ (o4 (fun bb=>eg ba (fun(x:Unit)=>[tV (aL bb 0)]) (eD bb) o0 (fun(mc:al) (mx:Unit)=>hU mc)))from(Bz fun bb=>nF T0 (fun c x R h i=>Rq _ _ _ h))) fun os7=>jt (γ:=(fun y:(al→Unit→Option (Bool×al))=>o4 (fun bb=>eg ba (fun(x:Unit)=>[tV (aL bb 0)]) (eD bb) o0 y))) (y:=(fun(mc:al) (mx:Unit)=>ky mc)) Ae (iz ov) (ht I) (sw hI) (show aK _ _ _ (o4 (fun bb=>eg ba (fun(x:Unit)=>[tV (aL bb 0)]) (eD bb) o0 (fun(mc:al) (mx:Unit)=>ky mc)))from(Bz fun bb=>nF TZ (fun c x R h i=>Ro _ _ _ h))) fun os8=>jt (γ:=(fun y:(al→Unit→Option (Bool×al))=>o4 (fun bb=>eg ba (fun(x:Unit)=>[tV (aL bb 0)]) (eD bb) o0 y))) (y:=(fun(mc:al) (mx:Unit)=>ip mc)) Ae (iz ov) (ht I) (sw hI) (show aK _ _ _ (o4 (fun bb=>eg ba (fun(x:Unit)=>[tV (aL bb 0)]) (eD bb) o0 (fun(mc:al) (mx:Unit)=>ip mc)))from(Bz fun bb=>nF TY (fun c x R h i=>Rn _ _ _ h))) fun os9=>jt (γ:=(fun y:(al→Unit→Option (Bool×al))=>o4 (fun bb=>eg ba (fun(x:Unit)=>[tV (aL bb 0)]) (eD bb) o0 y))) (y:=(fun(mc:al) (mx:Unit)=>ja mc)) Ae (iz ov) (ht I) (sw hI) (show aK _ _ _ (o4 (fun bb=>eg ba (fun(x:Unit)=>[tV (aL bb 0)]) (eD bb) o0 (fun(mc:al) (mx:Unit)=>ja mc)))from(Bz fun bb=>nF TX (fun c x R h i=>Rm _ _ _ h))) fun os10=>av I<|aS I<|ai ?_;refine ah<|GV 0 I ?_;cases so h;exact aw I I

theorem OB(op:Int){R:Int}(h:uw op=some R):bk ba 174 [cb op] (cb R):=by
 refine bk.of Tryz.func174 I I I fun w0 S0=>aj<|zo I (dD)<|ai<|aa<|aj<|av I<|ai<|ak ?_;refine dj (Z:=fun x=>qG op x=some R) (Of:=fun x=>[]) (Gf:=fun x=>[(3,cb op),(4,fx x)]) (fun x h=>?_) (fun K=>?_)
 ·skip
  refine bR h I (fun h=>?_) (fun h=>?_)
  ·refine aj<|zo I (dD)<|ai<|ah ?_;refine au (J ?_);cases so h;exact aw I I
  ·refine dj (Z:=fun x1=>qF op x1=some R) (Of:=fun x1=>[]) (Gf:=fun x1=>[(3,cb op),(7,fx x1)]) (fun x1 h=>?_) (fun K1=>?_)
   ·skip
    refine bR h I (fun h=>?_) (fun h=>?_)
    ·refine aj<|zo I (dD)<|ai<|ah ?_;refine au (J ?_);cases so h;exact aw I I
    ·refine dj (Z:=fun x2=>iR x2=some R) (Of:=fun x2=>[]) (Gf:=fun x2=>[(10,fx x2)]) (fun x2 h=>?_) (fun K2=>?_)
     ·skip
      refine bR h I (fun h=>?_) (fun h=>?_)
      ·refine aj<|zo I (dD)<|ai<|ah ?_;refine au (J ?_);cases so h;exact aw I I
      ·refine aP<|ac<|af<|aj<|zo rfl (dD)<|ai<|ah ?_;cases so h;exact aw I I
     ·skip
      refine aj<|zo I (d6 I)<|aS I<|ai<|bR h I (fun h=>?_) (fun h=>?_)
      ·refine aP ?_;exact bD (K2 (op==(3:Int)) h) (aR I)
      ·refine aj<|zo I (d6 I)<|aS I<|ai<|bR h I (fun h=>?_) (fun h=>?_)
       ·refine aP ?_;exact bD (K2 (op==(4:Int)) h) (aR I)
       ·refine aj<|zo I (d6 I)<|aS I<|ai<|bR h I (fun h=>?_) (fun h=>?_)
        ·refine aP ?_;exact bD (K2 (op==(5:Int)) h) (aR I)
        ·refine aj<|zo I (d6 I)<|aS I<|ai<|bR h I (fun h=>?_) (fun h=>?_)
         ·refine aP ?_;exact bD (K2 (op==(6:Int)) h) (aR I)
         ·refine aj<|zo I (d6 I)<|aS I<|ai<|bR h I (fun h=>?_) (fun h=>?_)
          ·refine aP ?_;exact bD (K2 (op==(8:Int)) h) (aR I)
          ·refine aj<|zo I (d6 I)<|aS I<|ai<|bR h I (fun h=>?_) (fun h=>?_)
           ·refine aP ?_;exact bD (K2 (op==(10:Int)) h) (aR I)
           ·refine ae<|zo I (d6 I)<|aS I<|ay ?_;exact bD (K2 (op==(11:Int)) h) (aR I)
   ·skip
    refine aj<|zo I (d6 I)<|aS I<|ai<|bR h I (fun h=>?_) (fun h=>?_)
    ·refine aP ?_;exact bD (K1 (op==(2:Int)) h) (aR I)
    ·refine ae<|zo I (d6 I)<|aS I<|ay ?_;exact bD (K1 (op==(7:Int)) h) (aR I)
 ·skip
  refine aj<|zo I (d6 I)<|aS I<|ai<|bR h I (fun h=>?_) (fun h=>?_)
  ·refine aP ?_;exact bD (K (op==(1:Int)) h) (aR I)
  ·refine ae<|zo I (d6 I)<|aS I<|ay ?_;exact bD (K (op==(9:Int)) h) (aR I)

theorem OA(n:ap){R:Bool}(h:qd n=some R):bk ba 175 [tD aJ n] (fx R):=by
 refine bk.of Tryz.func175 I I I fun w0 S0=>aj<|zo I (kp I)<|zo I (dd)<|ai<|aa ?_
 refine fq (ts:=[_,_,_,_,_,_,_,_,_,_,_,_,_,_,_,_,_,_,_,_,_,_,_]) mixed I I
  ⟨im 1 I I I (aU eJ cg I I),
  ⟨dQ 6 0 I I I (bf bp I I),
  ⟨dQ 7 1 I I I (d6 I),
  ⟨dQ 8 2 I I I (cw I),
  ⟨p6 1 9 3 I I I I (gg I I I I (fun hg=>aU eJ cg I I)),
  ⟨iL 10 4 9 3 I I I I (gg I I I I (fun hg=>am bp I I (aA I hg))),
  ⟨iL 11 5 9 3 I I I I (gg I I I I (fun hg=>bz (aA I hg) hI)),
  ⟨eF 9 3 12 6 I I I I (kh I I),
  ⟨im 1 I I I (aU eJ cg I I),
  ⟨dQ 14 8 I I I (bf bp I I),
  ⟨dQ 15 9 I I I (d6 I),
  ⟨dQ 16 10 I I I (cw I),
  ⟨p6 1 17 11 I I I I (gg I I I I (fun hg=>aU eJ cg I I)),
  ⟨iL 18 12 17 11 I I I I (gg I I I I (fun hg=>am bp I I (aA I hg))),
  ⟨iL 19 13 17 11 I I I I (gg I I I I (fun hg=>bz (aA I hg) hI)),
  ⟨eF 17 11 20 14 I I I I (kh I I),
  ⟨dQ 21 15 I I I (cw I),
  ⟨p6 1 22 16 I I I I (gg I I I I (fun hg=>aU eJ cg I I)),
  ⟨iL 23 17 22 16 I I I I (gg I I I I (fun hg=>am bp I I (aA I hg))),
  ⟨iL 24 18 22 16 I I I I (gg I I I I (fun hg=>bz (aA I hg) hI)),
  ⟨eF 22 16 25 19 I I I I (kh I I),
  ⟨dQ 13 7 I I I (Cd I),
  ⟨dQ 26 20 I I I (Cd I),
  aZ⟩⟩⟩⟩⟩⟩⟩⟩⟩⟩⟩⟩⟩⟩⟩⟩⟩⟩⟩⟩⟩⟩⟩ ?_
 refine af<|aj<|av rfl<|av rfl<|bI rfl rfl (fun hg=>aU oA gr I I)<|bI I I (fun hg=>am bp I I (aA I hg))<|bI I I (fun hg=>bz (aA I hg) hI)<|bI I I (fun hg=>bm (aA I hg))<|cP I I I I (fun hg=>aU iH dz I I)<|cP I I I I (fun hg=>am bV I I (aA I hg))<|cP I I I I (fun hg=>bw cR (aA I hg))<|cP I I I I (fun hg=>bz (aA I hg) hI)<|bI I I (fun hg=>hX (aA I hg) (fun hb=>(aA I (pT hg hb))))<|zo I (kh I I)<|aS I<|ai<|aj<|av I<|av I<|aO I I (fun hg=>aU eJ cg I I)<|aO I I (fun hg=>am bp I I (aA I hg)) ?_;refine aO I I (fun hg=>bz (aA I hg) hI)<|aO I I (fun hg=>bm (aA I hg))<|ck I I I I (fun hg=>aU vW nQ I I)<|ck I I I I (fun hg=>am As I I (aA I hg))<|ck I I I I (fun hg=>dP (aA I hg))<|aO I I (fun hg=>jn (aA I hg) (fun hb=>(aA I (pT hg (oH hb)))))<|zo I (fV I I)<|av I<|aO I I (fun hg=>aU eJ cg I I)<|aO I I (fun hg=>am bp I I (aA I hg))<|aO I I (fun hg=>bz (aA I hg) hI)<|aO I I (fun hg=>bm (aA I hg))<|ck I I I I (fun hg=>aU eJ cg I I)<|ck I I I I (fun hg=>am bp I I (aA I hg))<|ck I I I I (fun hg=>bz (aA I hg) hI)<|aO I I (fun hg=>jn (aA I hg) (fun hb=>(aA I (pT hg (oH hb)))))<|aO I I (fun hg=>bm (aA I hg))<|ck I I I I (fun hg=>aU o8 gN I I)<|ck I I I I (fun hg=>cK fd I di I (aA I hg))<|ck I I I I (fun hg=>am lN I I (aA I hg))<|ck I I I I (fun hg=>bw jh (aA I hg))<|ck I I I I (fun hg=>bz (aA I hg) hI)<|aO I I (fun hg=>jn (aA I hg) (fun hb=>(aA I (pT hg (oH hb)))))<|zo I (fV I I) ?_;refine aS I<|ai<|aj<|av I<|av I<|aO I I (fun hg=>cw I)<|aO I I (fun hg=>bm (aA I hg))<|ck I I I I (fun hg=>aU iw dl I I)<|ck I I I I (fun hg=>am bV I I (aA I hg))<|ck I I I I (fun hg=>bw cR (aA I hg))<|ck I I I I (fun hg=>aU fM cz I I)<|ck I I I I (fun hg=>am nd I I (aA I hg))<|ck I I I I (fun hg=>bw jR (aA I hg))<|ck I I I I (fun hg=>dI (aA I hg) (aA I hg))<|ck I I I I (fun hg=>bz (aA I hg) hI)<|aO I I (fun hg=>jn (aA I hg) (fun hb=>(aA I (pT hg (oH hb)))))<|zo I (fV I I)<|av I<|aO I I (fun hg=>aU eJ cg I I)<|aO I I (fun hg=>am bp I I (aA I hg))<|aO I I (fun hg=>bz (aA I hg) hI)<|aO I I (fun hg=>bm (aA I hg)) ?_;refine ck I I I I (fun hg=>aU m2 gq I I)<|ck I I I I (fun hg=>am u4 I I (aA I hg))<|ck I I I I (fun hg=>bw pr (aA I hg))<|ck I I I I (fun hg=>bz (aA I hg) hI)<|aO I I (fun hg=>jn (aA I hg) (fun hb=>(aA I (pT hg (oH hb)))))<|zo I (fV I I)<|aS I<|ai<|aj<|av I<|av I<|aO I I (fun hg=>aU eJ cg I I)<|aO I I (fun hg=>am bp I I (aA I hg))<|aO I I (fun hg=>bz (aA I hg) hI)<|aO I I (fun hg=>bm (aA I hg))<|ck I I I I (fun hg=>aU iA dR I I)<|ck I I I I (fun hg=>am sv I I (aA I hg))<|ck I I I I (fun hg=>bw pR (aA I hg))<|ck I I I I (fun hg=>bz (aA I hg) hI)<|ck I I I I (fun hg=>bm (aA I hg))<|cP I I I I (fun hg=>aU oS iu I I)<|cP I I I I (fun hg=>am bp I I (aA I hg)) ?_;refine cP I I I I (fun hg=>bz (aA I hg) hI)<|ck I I I I (fun hg=>hX (aA I hg) (fun hb=>(aA I (pT hg hb))))<|aO I I (fun hg=>jn (aA I hg) (fun hb=>(aA I (pT hg (oH hb)))))<|zo I (fV I I)<|aS I<|ai<|ah ?_;cases so h;exact aw I I

theorem Oj(s:(List Int))(v:Int){R:Int}(h:nm s v=some R):bk ba 209 [iK s,cb v] (cb R):=by
 refine bk.of Tryz.func209 I I I fun w0 S0=>aj<|zo I (dD)<|ai<|aa<|aj<|av I<|zo I (d5 cR I)<|zo I (bm hI)<|ai<|ak<|aT (k:=6) I fun hN=>bn ?_;refine aD (dv (Z:=fun ls i=>(s.drop i=ls)∧gQ v ls i=some R) (Of:=fun _ i=>[]) (Gf:=fun _ i=>[(0,iK s),(1,cb v),(7,iB s),(8,cb (i:Int))]) (fun i h=>?_) (fun e tl ih i h=>?_) s 0 ⟨I,h⟩) (aR I)
 ·obtain⟨hx,h⟩:=h
  refine aq<|aj<|zo I (ek I I)<|ai<|aa<|bu (ht I) (de hx)<|bc ?_;refine M (M (aC ?_));refine af<|aj<|zo rfl (dD)<|ai<|ah ?_;cases so h;exact aw I I
 ·obtain⟨hx,h⟩:=h
  refine aq<|aj<|zo I (ek I I)<|ai<|aa<|bt (ht I) (cX hx)<|dk<|aa<|ak<|aj<|av I<|aS I<|ai<|aj<|av I<|av I<|av I<|zo I (gI cR bp I I I (cS hx)) ?_;refine zo I (bf bp I I)<|zo I (bz (ht I) (ht I))<|ai<|bR h I (fun h=>?_) (fun h=>?_)
  ·refine aj<|av I<|aS I<|ai<|ah ?_;refine au (J (J (au (J ?_))));cases so h;exact aw I I
  ·refine aP<|ac<|af<|ae<|zo rfl (jL (cy hx hN) rfl)<|av rfl<|ay ?_;exact aM (aD (ih (i+1) ⟨cx hx,h⟩) (aR I))

theorem Oz(s:(List Int))(v:Int){R:Bool}(h:fN s v=some R):bk ba 176 [iK s,cb v] (fx R):=by
 refine bk.of Tryz.func176 I I I fun w0 S0=>aj<|zo I (dd)<|ai<|aj<|av I<|av I<|bA h fun r q_r h=>zo I (aG TF (Oj _ _ q_r) ⟨(ht I),(ht I),aZ⟩)<|zo I (dc (ht I) hI)<|aS I<|ai<|ah ?_;cases so h;exact aw I I

theorem RC(b:Nat)(ix:OI)(l:al)(i:Int)(ask:(al→Unit→Option (Bool×al))){R:Bool×al}(h:dO l i ask=some R):dK ba 127 [tV (aL b 0),cb i,o4 (fun bb=>eg ba (fun(x:Unit)=>[tV (aL bb 0)]) (eD bb) o0 ask)] (eD b l ix) (fun _:OI=>fx R.1) (fun j=>eD b R.2 j):=by
 refine dK.of Tryz.func127 I I I fun w0 S0=>?_;refine(show CG _ _ _ [bx (rH bo [(1,ax (ix.h 0).1 (ix.h 0).2 l.kinds.length),(2,ax (ix.h 1).1 (ix.h 1).2 l.open_.length)]) 168 b l,tip iW 69 (ix.h 0).1 (ix.h 0).2 l.kinds,df cq 3 (ix.h 1).1 (ix.h 1).2 l.open_] _ from ?_);refine aj<|zo I (dd)<|ai<|aj<|av I<|zo I (bg (ht I))<|zo I (fe 0 Er I I I)<|zo I (br (r:=rH bo [(1,ax (ix.h 0).1 (ix.h 0).2 l.kinds.length),(2,ax (ix.h 1).1 (ix.h 1).2 l.open_.length)]) (x:=l) ox I I (gW zl) (.head _) (ht I))<|av I<|bA h fun e q_e h=>zo I (gI ji ej I I I q_e)<|zo I (bf ej I I)<|bJ (r:=aJ) (x:=DK) ej (fun _=>iX _) I fun b1=>aQ ej I aY I (ht I) (ht I)<|bE 7 I<|ai<|aj<|zo I (aU eJ cg I I)<|zo I (bf bp I I) ?_;refine bA h fun r q_r h=>zo I (aG TW (OB _ q_r) ⟨(ht I),aZ⟩)<|aS I<|ai<|aa<|aj<|av I<|zo I (d8 (ht I) hI)<|av I<|bI I I (fun hg=>cw I)<|bI I I (fun hg=>cw I)<|bI I I (fun hg=>bg (aA I hg))<|bI I I (fun hg=>bU (n:=2) rD I (aA I hg) I)<|bI I I (fun hg=>nG bV I (.head _) (aA I hg))<|bI I I (fun hg=>hY cR (.tail _ (.tail _ (.head _))) (aA I hg))<|bI I I (fun hg=>cH (aA I hg) (aA I hg))<|zo I (kh I I)<|av I<|bA h fun t q_t h=>bI I I (fun hg=>bf ej I I) ?_
 obtain⟨r1,h1t,h0t⟩:=og q_t
 have q_r1g:=fun hb=>(h1t hb).1
 refine bI I I (fun hg=>aG TV (OA _ (q_r1g hg)) ⟨(aA I hg),aZ⟩)<|bI I I (fun hg=>dP (aA I hg))<|zo I (fF (ht I) (fun hb=>(aA I (oH hb))) (fun hb=>(h1t hb).2) h0t)<|ai<|rF (ht I) (fun hc=>?_) (fun hc=>?_)
 ·have h:=ct h hc;refine aj<|zo I (dd)<|ai<|ah<|J<|bl<|bl<|bl ?_;cases so h;exact ee I ix I I (fun _ _ h=>h)
 ·have h:=cf h hc;refine dk<|aj<|zo I (rK (r:=cq) (ys:=[xR,xR]) (xs:=[.const (.int .i64 (-1)),.const (.int .i64 (-1))]) AN bp I wY I I ⟨hI,hI,aZ⟩)<|bJ (r:=Cm) (x:=(List.replicate 2 (0:Int))) wY (fun _=>yI (r:=cq) 2 (fun _=>I) _) I fun b2=>aQ wY I aY I (ht I) (ht I)<|ai<|aa<|bA h fun y q_y h=>?_
  refine q6 13 (ts:=[tV (.slice (some ⟨b2,0,none⟩) 2 2),tV (aL b 0),tV (aL b 0),tV (aL b 2),oY (ix.h 1).1 (ix.h 1).2 l.open_,tV (aL b 0),tV (aL b 0),tV (aL b 2),oY (ix.h 1).1 (ix.h 1).2 l.open_,iB l.open_,cb r,cb (IntKind.i64.wrap ((l.open_.length:Int)-r)),tV (m0 1 (ix.h 1).1 (ix.h 1).2 (IntKind.i64.wrap ((l.open_.length:Int)-r)).toNat y.length)]) mixed I I I
   ⟨im 9 I I I (FX AN (M8 bp) (ht I)),
   ⟨im 0 I I I (cw I),
   ⟨dQ 42 1 I I I (bg (ht I)),
   ⟨dQ 43 2 I I I (fe 2 rD I I I),
   ⟨dQ 44 3 I I I (nG bV I (.tail _ (.head _)) (ht I)),
   ⟨im 0 I I I (cw I),
   ⟨dQ 46 5 I I I (bg (ht I)),
   ⟨dQ 47 6 I I I (fe 2 rD I I I),
   ⟨dQ 48 7 I I I (nG bV I (.tail _ (.head _)) (ht I)),
   ⟨dQ 49 8 I I I (hY cR (.tail _ (.tail _ (.tail _ (.head _)))) (ht I)),
   ⟨im 8 I I I (cw I),
   ⟨eF 50 9 51 10 I I I I (dG (ht I) (ht I)),
   ⟨eF 45 4 52 11 I I I I (pg cR bp I (.tail _ (.tail _ (.tail _ (.head _)))) (ht I) (ht I) q_y),
   aZ⟩⟩⟩⟩⟩⟩⟩⟩⟩⟩⟩⟩⟩ ?_
  refine pP (.tail _ (.tail _ (.tail _ (.head _)))) q_y fun hv=>eS (EA (.tail _ (.tail _ (.tail _ (.head _)))) q_y cR (Ix bp) (ht I) (ht I)) I fun i1=>?_;refine(show RG _ _ _ _ [bx Cm 209 b2 (rj Ju y),bx (rH bo [(1,ax (ix.h 0).1 (ix.h 0).2 l.kinds.length),(2,ax (ix.h 1).1 (ix.h 1).2 l.open_.length)]) 168 b l,tip iW 69 (ix.h 0).1 (ix.h 0).2 l.kinds,df cq 3 (ix.h 1).1 (ix.h 1).2 l.open_] ((54,cb ((min y.length 2:Nat):Int))::_)from ?_);refine ai<|aa<|aj<|zo I (br (x:=(rj Ju y)) wY I I cA (.head _) (ht I))<|zo I (aU lh eW I I)<|zo I (bf bp I I)<|zo I (aU m3 f7 I I)<|zo I (bf bp I I)<|zo I (rK (r:=cq) (ys:=[e.A,e.B]) (xs:=[.tmp 57,.tmp 59]) AN bp I wY I I ⟨(ht I),(ht I),aZ⟩)<|zo I (rz PC (ht I) (ht I))<|ai<|rF (ht I) (fun hc=>?_) (fun hc=>?_)
  ·have h:=ct h hc;refine aj<|zo I (dd)<|ai<|ah<|J<|aX<|bl<|bl<|bl ?_;cases so h;exact ee I ix I I (fun _ _ h=>h)
  ·have h:=cf h hc;refine dk<|aj<|av I<|av I<|av I<|zo I (bf ej I I)<|zo I (bg (ht I))<|zo I (fe 3 gH I I I)<|iV (EffOK.fr1 (jD ej I (vv (hs' :=[(1,ax (ix.h 0).1 (ix.h 0).2 l.kinds.length),(2,ax (ix.h 1).1 (ix.h 1).2 l.open_.length)]) JO ⟨.inr ⟨I,I⟩,.inr ⟨I,I⟩,aZ⟩ I) I (ht I) (ht I))) fun i2=>?_;refine(show RG _ _ _ _ [bx (rH bo [(1,ax (ix.h 0).1 (ix.h 0).2 l.kinds.length),(2,ax (ix.h 1).1 (ix.h 1).2 l.open_.length)]) 168 b ({l with n:=e}:al),bx Cm 209 b2 (rj Ju y),tip iW 69 (ix.h 0).1 (ix.h 0).2 l.kinds,df cq 3 (ix.h 1).1 (ix.h 1).2 l.open_] _ from ?_);refine zo I (bg (ht I))<|zo I (fe 15 iT I I I)<|iV (jD bV I (vv (hs' :=[(1,ax (ix.h 0).1 (ix.h 0).2 l.kinds.length),(2,ax (ix.h 1).1 (ix.h 1).2 l.open_.length)]) C4 ⟨.inr ⟨I,I⟩,.inr ⟨I,I⟩,aZ⟩ I) I (ht I) iE) fun i3=>?_;refine(show RG _ _ _ _ [bx (rH bo [(1,ax (ix.h 0).1 (ix.h 0).2 l.kinds.length),(2,ax (ix.h 1).1 (ix.h 1).2 l.open_.length)]) 168 b ({({l with n:=e}:al)with a_:=[]}:al),bx Cm 209 b2 (rj Ju y),tip iW 69 (ix.h 0).1 (ix.h 0).2 l.kinds,df cq 3 (ix.h 1).1 (ix.h 1).2 l.open_] _ from ?_);refine zo I (bg (ht I))<|zo I (fe 16 yC I I I)<|iV (jD bV I (vv (hs' :=[(1,ax (ix.h 0).1 (ix.h 0).2 l.kinds.length),(2,ax (ix.h 1).1 (ix.h 1).2 l.open_.length)]) C3 ⟨.inr ⟨I,I⟩,.inr ⟨I,I⟩,aZ⟩ I) I (ht I) iE) fun i4=>?_;refine(show RG _ _ _ _ [bx (rH bo [(1,ax (ix.h 0).1 (ix.h 0).2 l.kinds.length),(2,ax (ix.h 1).1 (ix.h 1).2 l.open_.length)]) 168 b ({({({l with n:=e}:al)with a_:=[]}:al)with b:=[]}:al),bx Cm 209 b2 (rj Ju y),tip iW 69 (ix.h 0).1 (ix.h 0).2 l.kinds,df cq 3 (ix.h 1).1 (ix.h 1).2 l.open_] _ from ?_);refine ai<|aa<|aa<|bA h fun y1 q_y1 h=>?_
   refine fq (ts:=[_,_,_,_,_,_,_,_,_,_,_,_,_,_]) mixed I I
    ⟨im 0 I I I (cw I),
    ⟨dQ 72 0 I I I (bg (ht I)),
    ⟨dQ 73 1 I I I (fe 2 rD I I I),
    ⟨dQ 74 2 I I I (nG bV I (.head _) (ht I)),
    ⟨im 0 I I I (cw I),
    ⟨dQ 76 4 I I I (bg (ht I)),
    ⟨dQ 77 5 I I I (fe 2 rD I I I),
    ⟨dQ 78 6 I I I (nG bV I (.head _) (ht I)),
    ⟨dQ 79 7 I I I (hY cR (.tail _ (.tail _ (.tail _ (.head _)))) (ht I)),
    ⟨im 8 I I I (cw I),
    ⟨eF 80 8 81 9 I I I I (dG (ht I) (ht I)),
    ⟨eF 75 3 82 10 I I I I (pg cR bp I (.tail _ (.tail _ (.tail _ (.head _)))) (ht I) (ht I) q_y1),
    ⟨dQ 83 11 I I I (IL cR (.tail _ (.tail _ (.tail _ (.head _)))) q_y1 (ht I)),
    ⟨zd0 I I (bm hI),
    aZ⟩⟩⟩⟩⟩⟩⟩⟩⟩⟩⟩⟩⟩⟩ ?_
   refine af<|ak<|EV (.tail _ (.tail _ (.tail _ (.head _)))) q_y1 fun hv1=>?_
   have hN:=hv1.2
   refine bn<|dB<|jv ?_;refine aD (B4 (Z:=fun ls i5 a_ b3=>(y1.drop i5=ls)∧bh l i ask e r ls i5 a_ b3=some R) (Of:=fun _ i5 a_ b3=>[bx (rH bo [(1,ax (ix.h 0).1 (ix.h 0).2 l.kinds.length),(2,ax (ix.h 1).1 (ix.h 1).2 l.open_.length)]) 168 b ({({({({({l with n:=e}:al)with a_:=[]}:al)with b:=[]}:al)with a_:=a_}:al)with b:=b3}:al),tip iW 69 (ix.h 0).1 (ix.h 0).2 l.kinds,df cq 3 (ix.h 1).1 (ix.h 1).2 l.open_]) (Gf:=fun _ i5 a_ b3=>[(0,tV (aL b 0)),(1,cb i),(2,o4 (fun bb=>eg ba (fun(x:Unit)=>[tV (aL bb 0)]) (eD bb) o0 ask)),(7,ce aJ e),(8,cb r),(83,tV (m0 1 (ix.h 1).1 (ix.h 1).2 (IntKind.i64.wrap ((l.open_.length:Int)-r)).toNat y1.length)),(84,iB y1),(85,cb (i5:Int))]) (fun i5 a_ b3 h=>?_) (fun e1 tl ih i5 a_ b3 h=>?_) y1 0 (({({({l with n:=e}:al)with a_:=[]}:al)with b:=[]}:al).a_) (({({({l with n:=e}:al)with a_:=[]}:al)with b:=[]}:al).b) ⟨I,h⟩) (aR I)
   ·obtain⟨hx,h⟩:=h
    refine aq<|aj<|zo I (ek I I)<|ai<|aa<|bu (ht I) (de hx)<|bc ?_;refine M (M (aC ?_));refine af<|aj<|zo rfl (aU eJ cg rfl rfl)<|zo rfl (bf bp rfl rfl)<|zo rfl (d6 rfl)<|av rfl<|bI rfl rfl (fun hg=>aU eJ cg I I)<|bI I I (fun hg=>am bp I I (aA I hg))<|bI I I (fun hg=>bz (aA I hg) hI)<|zo I (kh I I)<|aS I<|ai<|aa<|aj<|av I<|av I<|aO I I (fun hg=>cw I)<|aO I I (fun hg=>cw I)<|aO I I (fun hg=>bg (aA I hg))<|aO I I (fun hg=>bU (n:=0) Er I (aA I hg) I)<|aO I I (fun hg=>br (r:=rH bo [(1,ax (ix.h 0).1 (ix.h 0).2 l.kinds.length),(2,ax (ix.h 1).1 (ix.h 1).2 l.open_.length)]) (x:=({({({({({l with n:=e}:al)with a_:=[]}:al)with b:=[]}:al)with a_:=a_}:al)with b:=b3}:al)) ox I I (gW zl) (.head _) (aA I hg)) ?_;refine aO I I (fun hg=>bw ji (aA I hg))<|aO I I (fun hg=>dG (aA I hg) hI)<|aO I I (fun hg=>bM (aA I hg) (aA I hg))<|zo I (fV I I)<|av I ?_;refine MN (((e.Op==(8:Int))||(e.Op==(10:Int)))&&(i !=(IntKind.i64.wrap (((({({({({({l with n:=e}:al)with a_:=[]}:al)with b:=[]}:al)with a_:=a_}:al)with b:=b3}:al).nodes).length:Int)-(1:Int))))) (fun hg=>?_) (fun hg=>?_)
    ·have h:=ct h hg;refine tp I I I hg I<|tp I I I hg I<|tp I I I hg I<|tp I I I hg I<|zo I (Dc (ht I) hg hBc)<|av I<|tp I I I I I<|tp I I I I I<|tp I I I I I<|tp I I I I I<|tp I I I I I<|tp I I I I I<|zo I (Dc (ht I) I hBc)<|ai<|rF (ht I) (fun hc=>?_) (fun hc=>?_)
     ·refine aj<|zo I (dd)<|ai<|ah<|J<|bl<|bl<|bl ?_;cases so h;exact ee I ix I I (fun _ _ h=>h)
     ·cases hc
    ·have h:=cf h hg;refine Jn I I I hg<|av I<|Jn I I I hg<|av I<|Jn I I I hg<|bA h fun r2 q_r2 h=>eS (EffOK.fr2 (EffOK.fr2 (EffOK.fr2 (yF (args:=(fun(x:Unit)=>[tV (aL b 0)])) (Ob:=eD b) (res:=o0) (f:=ask) (x:=({({({({({l with n:=e}:al)with a_:=[]}:al)with b:=[]}:al)with a_:=a_}:al)with b:=b3}:al)) (y:=(():Unit)) (R:=r2) (i:=ix) (xs:=[.tmp 136]) _ I (SP (t:=(fun bb=>eg ba (fun(x:Unit)=>[tV (aL bb 0)]) (eD bb) o0 ask)) b (ht I)) q_r2 ⟨(ht I),aZ⟩ (fun _=>I))))) I fun i6=>?_;refine(show RG _ _ _ _ [bx (rH bo [(1,ax (i6.h 0).1 (i6.h 0).2 r2.2.kinds.length),(2,ax (i6.h 1).1 (i6.h 1).2 r2.2.open_.length)]) 168 b r2.2,tip iW 69 (i6.h 0).1 (i6.h 0).2 r2.2.kinds,df cq 3 (i6.h 1).1 (i6.h 1).2 r2.2.open_] ((137,fx r2.1)::_)from ?_);refine Jn I I I hg<|zo I (dP (ht I))<|zo I (J5 (ht I) hg (ht I))<|av I<|bI I I (fun hg=>cw I)<|bI I I (fun hg=>bg (aA I hg))<|bI I I (fun hg=>bU (n:=17) fK I (aA I hg) I)<|bI I I (fun hg=>br (r:=rH bo [(1,ax (i6.h 0).1 (i6.h 0).2 r2.2.kinds.length),(2,ax (i6.h 1).1 (i6.h 1).2 r2.2.open_.length)]) (x:=r2.2) bV I I (gW zk) (.head _) (aA I hg))<|bI I I (fun hg=>bw cR (aA I hg))<|bI I I (fun hg=>cH (aA I hg) hI)<|zo I (kh I I)<|ai<|bR h I (fun h=>?_) (fun h=>?_)
     ·refine aj<|zo I (dd)<|ai<|ah<|J<|bl<|bl<|bl ?_;cases so h;exact ee I i6 I I (fun _ _ h=>h)
     ·refine dk<|aa<|bA h fun l1 q_l1 h=>bA h fun y2 q_y2 h=>bA h fun l2 q_l2 h=>?_
      refine lJ 30 [tc (tV (aL b 0)),tc (tV (aL b 0)),tc (tV (aL b 0)),tc (tV (aL b 0)),tc (tV (aL b 1)),tc (tO iW (i6.h 0).1 (i6.h 0).2 r2.2.kinds),tc (tV (aL b 0)),tc (tV (aL b 0)),tc (tV (aL b 17)),tc (iK r2.2.result),tc (dM (iW) ([r2.2.result])),([11],fun s=>tO iW ((s.getD 0 u7).h 0).1 ((s.getD 0 u7).h 0).2 l1),tc (tV (aL b 0)),tc (tV (aL b 0)),tc (tV (aL b 2)),tc (oY (i6.h 1).1 (i6.h 1).2 r2.2.open_),tc (tV (aL b 0)),tc (tV (aL b 0)),tc (tV (aL b 2)),tc (oY (i6.h 1).1 (i6.h 1).2 r2.2.open_),tc (iB r2.2.open_),tc (cb r),tc (cb (IntKind.i64.wrap ((r2.2.open_.length:Int)-r))),tc (oY (i6.h 1).1 (i6.h 1).2 y2),tc (cb i),tc (iK ([i])),([26],fun s=>tV (ax ((s.getD 0 u7).h 0).1 ((s.getD 0 u7).h 0).2 l2.length)),tc (tV (aL b 0)),tc (tV (aL b 1)),tc (Fn)] [false,false,false,false,false,false,false,false,false,false,false,true,false,false,false,false,false,false,false,false,false,false,false,false,false,false,true,false,false,true] [fun _=>[bx (rH bo [(1,ax (i6.h 0).1 (i6.h 0).2 r2.2.kinds.length),(2,ax (i6.h 1).1 (i6.h 1).2 r2.2.open_.length)]) 168 b r2.2,tip iW 69 (i6.h 0).1 (i6.h 0).2 r2.2.kinds,df cq 3 (i6.h 1).1 (i6.h 1).2 r2.2.open_],fun sg=>[tip iW 69 ((sg 11).h 0).1 ((sg 11).h 0).2 l1,bx (rH bo [(1,ax (i6.h 0).1 (i6.h 0).2 r2.2.kinds.length),(2,ax (i6.h 1).1 (i6.h 1).2 r2.2.open_.length)]) 168 b r2.2,df cq 3 (i6.h 1).1 (i6.h 1).2 r2.2.open_],fun sg=>[df cq 3 ((sg 26).h 0).1 ((sg 26).h 0).2 l2,tip iW 69 ((sg 11).h 0).1 ((sg 11).h 0).2 l1,bx (rH bo [(1,ax (i6.h 0).1 (i6.h 0).2 r2.2.kinds.length),(2,ax (i6.h 1).1 (i6.h 1).2 r2.2.open_.length)]) 168 b r2.2],fun sg=>[bx (rH bo [(1,ax ((sg 11).h 0).1 ((sg 11).h 0).2 l1.length),(2,ax (i6.h 1).1 (i6.h 1).2 r2.2.open_.length)]) 168 b ({r2.2 with kinds:=l1}:al),df cq 3 ((sg 26).h 0).1 ((sg 26).h 0).2 l2,tip iW 69 ((sg 11).h 0).1 ((sg 11).h 0).2 l1]] I mixed I I I I I
       ⟨⟨[⟨0,fun _=>tV (aL b 0),none⟩],_,0,2,I,⟨(fun _=>I),aZ⟩,I,I,I,I,I,fun _ sg _ _=>aB I (cw I)⟩,
       ⟨⟨[⟨0,fun _=>tV (aL b 0),none⟩],_,0,3,I,⟨(fun _=>I),aZ⟩,I,I,I,I,I,fun _ sg _ _=>aB I (cw I)⟩,
       ⟨⟨[⟨0,fun _=>tV (aL b 0),none⟩],_,0,0,I,⟨(fun _=>I),aZ⟩,I,I,I,I,I,fun _ sg _ _=>aB I (cw I)⟩,
       ⟨⟨[⟨150,fun _=>tV (aL b 0),some 2⟩],_,0,0,I,⟨(fun _=>I),aZ⟩,I,I,I,I,I,fun _ sg _ _=>aB I (bg (ht I))⟩,
       ⟨⟨[⟨151,fun _=>tV (aL b 0),some 3⟩],_,0,0,I,⟨(fun _=>I),aZ⟩,I,I,I,I,I,fun _ sg _ _=>aB I (fe 1 AC I I I)⟩,
       ⟨⟨[⟨152,fun _=>tV (aL b 1),some 4⟩],_,0,0,I,⟨(fun _=>I),aZ⟩,I,I,I,I,I,u3 (fun sg=>aB I (mn M9 I (.head _) (.tail _ (.head _)) (ht I)))⟩,
       ⟨⟨[⟨0,fun _=>tV (aL b 0),none⟩],_,0,0,I,⟨(fun _=>I),aZ⟩,I,I,I,I,I,fun _ sg _ _=>aB I (cw I)⟩,
       ⟨⟨[⟨154,fun _=>tV (aL b 0),some 6⟩],_,0,0,I,⟨(fun _=>I),aZ⟩,I,I,I,I,I,fun _ sg _ _=>aB I (bg (ht I))⟩,
       ⟨⟨[⟨155,fun _=>tV (aL b 0),some 7⟩],_,0,0,I,⟨(fun _=>I),aZ⟩,I,I,I,I,I,fun _ sg _ _=>aB I (fe 17 fK I I I)⟩,
       ⟨⟨[⟨156,fun _=>tV (aL b 17),some 8⟩],_,0,0,I,⟨(fun _=>I),aZ⟩,I,I,I,I,I,u3 (fun sg=>aB I (br (r:=rH bo [(1,ax (i6.h 0).1 (i6.h 0).2 r2.2.kinds.length),(2,ax (i6.h 1).1 (i6.h 1).2 r2.2.open_.length)]) (x:=r2.2) bV I I (gW zk) (.head _) (ht I)))⟩,
       ⟨⟨[⟨157,fun _=>tD tw r2.2.result,some 9⟩],_,0,0,I,⟨(fun _=>I),aZ⟩,I,I,I,I,I,fun _ sg _ _=>aB I (aH (r:=tw) (ys:=[r2.2.result]) (xs:=[.tmp 157]) rN bV I I I I I ⟨(ht I),aZ⟩)⟩,
       ⟨⟨[⟨153,fun _=>tO tw (i6.h 0).1 (i6.h 0).2 r2.2.kinds,some 5⟩,⟨158,fun _=>tD (gB tw) ([r2.2.result]),some 10⟩],_,I,⟨(fun _=>I),(fun _=>I),aZ⟩,I,I,I,fun sg=>gP I (EffOK.fr1 (GC bV I I I I rN I (ht I) (ht I) q_l1))⟩,
       ⟨⟨[⟨0,fun _=>tV (aL b 0),none⟩],_,0,1,I,⟨(fun _=>I),aZ⟩,I,I,I,I,I,fun _ sg _ _=>aB I (cw I)⟩,
       ⟨⟨[⟨160,fun _=>tV (aL b 0),some 12⟩],_,0,1,I,⟨(fun _=>I),aZ⟩,I,I,I,I,I,fun _ sg _ _=>aB I (bg (ht I))⟩,
       ⟨⟨[⟨161,fun _=>tV (aL b 0),some 13⟩],_,0,1,I,⟨(fun _=>I),aZ⟩,I,I,I,I,I,fun _ sg _ _=>aB I (fe 2 rD I I I)⟩,
       ⟨⟨[⟨162,fun _=>tV (aL b 2),some 14⟩],_,0,1,I,⟨(fun _=>I),aZ⟩,I,I,I,I,I,Jy (fun sg=>aB I (nG bV I (.head _) (ht I))) (u3 (fun sg=>aB I (nG bV I (.tail _ (.head _)) (ht I))))⟩,
       ⟨⟨[⟨0,fun _=>tV (aL b 0),none⟩],_,0,1,I,⟨(fun _=>I),aZ⟩,I,I,I,I,I,fun _ sg _ _=>aB I (cw I)⟩,
       ⟨⟨[⟨164,fun _=>tV (aL b 0),some 16⟩],_,0,1,I,⟨(fun _=>I),aZ⟩,I,I,I,I,I,fun _ sg _ _=>aB I (bg (ht I))⟩,
       ⟨⟨[⟨165,fun _=>tV (aL b 0),some 17⟩],_,0,1,I,⟨(fun _=>I),aZ⟩,I,I,I,I,I,fun _ sg _ _=>aB I (fe 2 rD I I I)⟩,
       ⟨⟨[⟨166,fun _=>tV (aL b 2),some 18⟩],_,0,1,I,⟨(fun _=>I),aZ⟩,I,I,I,I,I,Jy (fun sg=>aB I (nG bV I (.head _) (ht I))) (u3 (fun sg=>aB I (nG bV I (.tail _ (.head _)) (ht I))))⟩,
       ⟨⟨[⟨167,fun _=>tV (ax (i6.h 1).1 (i6.h 1).2 r2.2.open_.length),some 19⟩],_,0,1,I,⟨(fun _=>I),aZ⟩,I,I,I,I,I,Jy (fun sg=>aB I (hY cR (.tail _ (.tail _ (.head _))) (ht I))) (u3 (fun sg=>aB I (hY cR (.tail _ (.tail _ (.head _))) (ht I))))⟩,
       ⟨⟨[⟨8,fun _=>tD cq r,none⟩],_,0,1,I,⟨(fun _=>I),aZ⟩,I,I,I,I,I,fun _ sg _ _=>aB I (cw I)⟩,
       ⟨⟨[⟨168,fun _=>tD cq (r2.2.open_.length:Int),some 20⟩,⟨169,fun _=>tD cq r,some 21⟩],_,0,1,I,⟨(fun _=>I),(fun _=>I),aZ⟩,I,I,I,I,I,fun _ sg _ _=>aB I (dG (ht I) (ht I))⟩,
       ⟨⟨[⟨163,fun _=>tV (ax (i6.h 1).1 (i6.h 1).2 r2.2.open_.length),some 15⟩,⟨170,fun _=>tD cq (IntKind.i64.wrap ((r2.2.open_.length:Int)-r)),some 22⟩],_,0,1,I,⟨(fun _=>I),(fun _=>I),aZ⟩,I,I,I,I,I,Jy (fun sg=>aB I (ph cR bp I (.tail _ (.tail _ (.head _))) (ht I) (ht I) q_y2)) (u3 (fun sg=>aB I (ph cR bp I (.tail _ (.tail _ (.head _))) (ht I) (ht I) q_y2)))⟩,
       ⟨⟨[⟨1,fun _=>tD cq i,none⟩],_,0,1,I,⟨(fun _=>I),aZ⟩,I,I,I,I,I,fun _ sg _ _=>aB I (cw I)⟩,
       ⟨⟨[⟨172,fun _=>tD cq i,some 24⟩],_,0,1,I,⟨(fun _=>I),aZ⟩,I,I,I,I,I,fun _ sg _ _=>aB I (aH (r:=cq) (ys:=[i]) (xs:=[.tmp 172]) cR bp I I I I I ⟨(ht I),aZ⟩)⟩,
       ⟨⟨[⟨171,fun _=>tV (ax (i6.h 1).1 (i6.h 1).2 y2.length),some 23⟩,⟨173,fun _=>tD tw ([i]),some 25⟩],_,I,⟨(fun _=>I),(fun _=>I),aZ⟩,I,I,I,fun sg=>gP I (EffOK.fr2 (Ik q_y2 (pl bp I I I I cR I (ht I) (ht I) q_l2)))⟩,
       ⟨⟨[⟨148,fun _=>tV (aL b 0),some 0⟩],_,2,2,I,⟨(fun _=>I),aZ⟩,I,I,I,I,I,fun _ sg _ _=>aB I (bg (ht I))⟩,
       ⟨⟨[⟨175,fun _=>tV (aL b 0),some 27⟩],_,2,2,I,⟨(fun _=>I),aZ⟩,I,I,I,I,I,fun _ sg _ _=>aB I (fe 1 AC I I I)⟩,
       ⟨⟨[⟨176,fun _=>tV (aL b 1),some 28⟩,⟨159,fun sg=>tO tw ((sg 11).h 0).1 ((sg 11).h 0).2 l1,some 11⟩],_,I,⟨(fun _=>I),(fun _=>I),aZ⟩,I,I,I,fun sg=>gP I (EffOK.fr2 (li (hs' :=[(1,ax ((sg 11).h 0).1 ((sg 11).h 0).2 l1.length),(2,ax (i6.h 1).1 (i6.h 1).2 r2.2.open_.length)]) (u:=ax ((sg 11).h 0).1 ((sg 11).h 0).2 l1.length) M9 I I JQ I ⟨.inl ⟨I,I,I⟩,.inr ⟨I,I⟩,aZ⟩ (ht I) (io (ht I)) (vr (ht I))))⟩,
       aZ⟩⟩⟩⟩⟩⟩⟩⟩⟩⟩⟩⟩⟩⟩⟩⟩⟩⟩⟩⟩⟩⟩⟩⟩⟩⟩⟩⟩⟩⟩ (fun sg=>?_)
      refine(show RG _ _ _ _ [bx (rH bo [(1,ax ((sg 11).h 0).1 ((sg 11).h 0).2 l1.length),(2,ax (i6.h 1).1 (i6.h 1).2 r2.2.open_.length)]) 168 b ({r2.2 with kinds:=l1}:al),df cq 3 ((sg 26).h 0).1 ((sg 26).h 0).2 l2,tip iW 69 ((sg 11).h 0).1 ((sg 11).h 0).2 l1] _ from ?_);refine zo I (bg (ht I))<|zo I (fe 2 rD I I I)<|iV (li (hs' :=[(1,ax ((sg 11).h 0).1 ((sg 11).h 0).2 l1.length),(2,ax ((sg 26).h 0).1 ((sg 26).h 0).2 l2.length)]) (u:=ax ((sg 26).h 0).1 ((sg 26).h 0).2 l2.length) bV I I JP I ⟨.inr ⟨I,I⟩,.inl ⟨I,I,I⟩,aZ⟩ (ht I) (UT (y:=l2) (ht I) Lx) (ht I)) fun i7=>?_;refine(show RG _ _ _ _ [bx (rH bo [(1,ax ((sg 11).h 0).1 ((sg 11).h 0).2 l1.length),(2,ax ((sg 26).h 0).1 ((sg 26).h 0).2 l2.length)]) 168 b ({({r2.2 with kinds:=l1}:al)with open_:=l2}:al),df cq 3 ((sg 26).h 0).1 ((sg 26).h 0).2 l2,tip iW 69 ((sg 11).h 0).1 ((sg 11).h 0).2 l1] _ from ?_);refine ai<|aj<|zo I (dd)<|ai<|ah<|aV<|bl<|bl ?_;cases so h;exact ee I (wT [(((sg 11).h 0).1,((sg 11).h 0).2),(((sg 26).h 0).1,((sg 26).h 0).2)]) I I (fun _ _ h=>h)
   ·obtain⟨hx,h⟩:=h
    refine aq<|aj<|zo I (ek I I)<|ai<|aa<|bt (ht I) (cX hx)<|dk<|aa<|ak<|aj<|av I<|zo I (w6 cR bp I (.tail _ (.tail _ (.head _))) q_y1 (ht I) (ht I) (cS hx))<|zo I (jc (r:=cq) (i:=((IntKind.i64.wrap ((l.open_.length:Int)-r))+(i5:Int))) (foff:=0) bp I I cA I (.tail _ (.tail _ (.head _))) (xh q_y1 (cS hx)).1 (ht I))<|aS I<|aS I<|ai<|aj<|av I ?_;refine zo I (bg (ht I))<|zo I (fe 1 AC I I I)<|zo I (mn M9 I (.head _) (.tail _ (.head _)) (ht I))<|av I<|bA h fun e2 q_e2 h=>zo I (eT rN bV I (io (ht I)) (ht I) q_e2)<|zo I (bf bV I I)<|aS I<|ai<|aa<|aj<|zo I (aU eJ cg I I)<|zo I (bf bp I I)<|zo I (Aq I)<|av I<|bA h fun t1 q_t1 h=>aO I I (fun hg=>cw I) ?_
    obtain⟨r3,h1t1,h0t1⟩:=og q_t1
    have q_r3g:=fun hb=>(h1t1 hb).1
    refine aO I I (fun hg=>aG TU (Oz _ _ (q_r3g hg)) ⟨(aA I hg),hI,aZ⟩)<|zo I (bN (ht I) (fun hb=>(aA I hb)) (fun hb=>(h1t1 hb).2) h0t1)<|ai<|bR h I (fun h=>?_) (fun h=>?_)
    ·refine aj<|zo I (dd)<|ai<|ah ?_;refine J (au (J (J (au (J ?_)))));refine bl<|bl<|bl ?_;cases so h;exact ee I ix I I (fun _ _ h=>h)
    ·refine dk<|aj<|av I<|zo I (d6 I)<|ai<|bR h I (fun h=>?_) (fun h=>?_)
     ·refine ae<|av I<|av I<|zo I (bg (ht I))<|zo I (fe 15 iT I I I)<|iV (jD bV I (vv (hs' :=[(1,ax (ix.h 0).1 (ix.h 0).2 l.kinds.length),(2,ax (ix.h 1).1 (ix.h 1).2 l.open_.length)]) C4 ⟨.inr ⟨I,I⟩,.inr ⟨I,I⟩,aZ⟩ I) I (ht I) (ht I)) fun i8=>?_;refine(show RG _ _ _ _ [bx (rH bo [(1,ax (ix.h 0).1 (ix.h 0).2 l.kinds.length),(2,ax (ix.h 1).1 (ix.h 1).2 l.open_.length)]) 168 b ({({({({({({l with n:=e}:al)with a_:=[]}:al)with b:=[]}:al)with a_:=a_}:al)with b:=b3}:al)with a_:=e2}:al),tip iW 69 (ix.h 0).1 (ix.h 0).2 l.kinds,df cq 3 (ix.h 1).1 (ix.h 1).2 l.open_] _ from ?_);refine ay<|ac<|af<|ae<|zo rfl (jL (cy hx hN) rfl)<|av rfl<|ay ?_;exact aM (aD (ih (i5+1) (({({({({({({l with n:=e}:al)with a_:=[]}:al)with b:=[]}:al)with a_:=a_}:al)with b:=b3}:al)with a_:=e2}:al).a_) (({({({({({({l with n:=e}:al)with a_:=[]}:al)with b:=[]}:al)with a_:=a_}:al)with b:=b3}:al)with a_:=e2}:al).b) ⟨cx hx,h⟩) (aR I))
     ·refine ae<|av I<|av I<|zo I (bg (ht I))<|zo I (fe 16 yC I I I)<|iV (jD bV I (vv (hs' :=[(1,ax (ix.h 0).1 (ix.h 0).2 l.kinds.length),(2,ax (ix.h 1).1 (ix.h 1).2 l.open_.length)]) C3 ⟨.inr ⟨I,I⟩,.inr ⟨I,I⟩,aZ⟩ I) I (ht I) (ht I)) fun i9=>?_;refine(show RG _ _ _ _ [bx (rH bo [(1,ax (ix.h 0).1 (ix.h 0).2 l.kinds.length),(2,ax (ix.h 1).1 (ix.h 1).2 l.open_.length)]) 168 b ({({({({({({l with n:=e}:al)with a_:=[]}:al)with b:=[]}:al)with a_:=a_}:al)with b:=b3}:al)with b:=e2}:al),tip iW 69 (ix.h 0).1 (ix.h 0).2 l.kinds,df cq 3 (ix.h 1).1 (ix.h 1).2 l.open_] _ from ?_);refine ay<|ac<|af<|ae<|zo rfl (jL (cy hx hN) rfl)<|av rfl<|ay ?_;exact aM (aD (ih (i5+1) (({({({({({({l with n:=e}:al)with a_:=[]}:al)with b:=[]}:al)with a_:=a_}:al)with b:=b3}:al)with b:=e2}:al).a_) (({({({({({({l with n:=e}:al)with a_:=[]}:al)with b:=[]}:al)with a_:=a_}:al)with b:=b3}:al)with b:=e2}:al).b) ⟨cx hx,h⟩) (aR I))

end Go.Proofs.YtdohlidddcgfjaaGreat

