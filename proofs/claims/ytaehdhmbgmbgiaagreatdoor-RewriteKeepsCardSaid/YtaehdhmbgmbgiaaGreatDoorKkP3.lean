import Derived.Test.YtaehdhmbgmbgiaaGreatDoorKkT
import Derived.Test.YtaehdhmbgmbgiaaGreatDoorKkP2
set_option linter.all false
namespace Go.Proofs.YtaehdhmbgmbgiaaGreatDoor
open Go Tryz EffOK
set_option maxRecDepth 100000
def adN s f{R}(h:ik s f=some R):bZ aP 188 [cy (fM) s,(eD aP Ze nG (fun(x:kU)=>f x))] (iF R):=by
 exact cx func188 Y<|aQ<|ck<|bI<|aD Y<|bj Y<|cC h ajK (adf _ _) (bN Y) fun r h=>T (iZ (J Y) hI)<|bf Y<|so h▸aM Y Y
def ahK(b:Nat)(ix:OI) c n{R}(h:jV c n=some R):dZ aP 130 [tV (aE b 0),Q aq n] (gg b c ix) (fun _:OI=>tT [oA R.1,iF R.2]) (fun _=>(gg b c ix)):=by
 refine dZ.of func130 Y Y Y fun w0 S0=>?_;refine(show CG _ _ _ [bx (rH cd [(1,aY (ix.h 0).1 (ix.h 0).2 c.v'.length),(2,aY (ix.h 1).1 (ix.h 1).2 c.first.length)]) 131 b c,gh u8z 44 (ix.h 0).1 (ix.h 0).2 c.v',gh cM 3 (ix.h 1).1 (ix.h 1).2 c.first] _ from ?_);refine aQ<|cg Y<|kq cM<|ck<|bI<|aC<|cj h fun e i_ h=>?_;refine jQ 9 [tc (tV (aE b 0)),tc (tV (aE b 0)),tc (tV (aE b 1)),tc (tO u8z (ix.h 0).1 (ix.h 0).2 c.v'),tc (bH cM n.A),tc (bS n.A),tc (bH u8z e),tc (oA e),([8],fun s=>tV (aE ((s.getD 0 tA).h 0).2 0))] [false,false,false,false,false,false,false,false,true] [([],fun _=>[bx (rH cd [(1,aY (ix.h 0).1 (ix.h 0).2 c.v'.length),(2,aY (ix.h 1).1 (ix.h 1).2 c.first.length)]) 131 b c,gh u8z 44 (ix.h 0).1 (ix.h 0).2 c.v',gh cM 3 (ix.h 1).1 (ix.h 1).2 c.first]),([8],fun sg=>[bx u8z 44 ((sg 8).h 0).2 ([]),bx (rH cd [(1,aY (ix.h 0).1 (ix.h 0).2 c.v'.length),(2,aY (ix.h 1).1 (ix.h 1).2 c.first.length)]) 131 b c,gh u8z 44 (ix.h 0).1 (ix.h 0).2 c.v',gh cM 3 (ix.h 1).1 (ix.h 1).2 c.first])] (fun _=>Y) mixed Y Y Y Y
  ⟨⟨[⟨0,fun _=>tV (aE b 0),none⟩],_,[[],[8]],Y,⟨(fun _=>Y),Z⟩,Y,Y,Y,Y,Y,⟨fun sg=>ae Y (l0 Y),fun sg=>ae Y (l0 Y),Z⟩⟩,
  ⟨⟨[⟨9,fun _=>tV (aE b 0),some 0⟩],_,[[],[8]],Y,⟨(fun _=>Y),Z⟩,Y,Y,Y,Y,Y,⟨fun sg=>ae Y (eK (J Y)),fun sg=>ae Y (eK (J Y)),Z⟩⟩,
  ⟨⟨[⟨10,fun _=>tV (aE b 0),some 1⟩],_,[[],[8]],Y,⟨(fun _=>Y),Z⟩,Y,Y,Y,Y,Y,⟨fun sg=>ae Y (rP 1 qG Y Y Y),fun sg=>ae Y (rP 1 qG Y Y Y),Z⟩⟩,
  ⟨⟨[⟨11,fun _=>tV (aE b 1),some 2⟩],_,[[],[8]],Y,⟨(fun _=>Y),Z⟩,Y,Y,Y,Y,Y,⟨fun sg=>ae Y (eS yK Y (.head _) (.tail _ (.head _)) (J Y)),fun sg=>ae Y (eS yK Y (.tail _ (.head _)) (.tail _ (.tail _ (.head _))) (J Y)),Z⟩⟩,
  ⟨⟨[⟨3,fun _=>bH aq n,none⟩],_,[[],[8]],Y,⟨(fun _=>Y),Z⟩,Y,Y,Y,Y,Y,⟨fun sg=>ae Y (mW k5 eE Y Y),fun sg=>ae Y (mW k5 eE Y Y),Z⟩⟩,
  ⟨⟨[⟨13,fun _=>bH cM n.A,some 4⟩],_,[[],[8]],Y,⟨(fun _=>Y),Z⟩,Y,Y,Y,Y,Y,⟨fun sg=>ae Y (np cz Y Y),fun sg=>ae Y (np cz Y Y),Z⟩⟩,
  ⟨⟨[⟨12,fun _=>tO Bc (ix.h 0).1 (ix.h 0).2 c.v',some 3⟩,⟨14,fun _=>Q cM n.A,some 5⟩],_,[[],[8]],Y,⟨(fun _=>Y),(fun _=>Y),Z⟩,Y,Y,Y,Y,Y,⟨fun sg=>ae Y (bn An fS Y (kX (J Y)) (J Y) i_),fun sg=>ae Y (bn An fS Y (kX (J Y)) (J Y) i_),Z⟩⟩,
  ⟨⟨[⟨15,fun _=>bH Bc e,some 6⟩],_,[[],[8]],Y,⟨(fun _=>Y),Z⟩,Y,Y,Y,Y,Y,⟨fun sg=>ae Y (np fS Y Y),fun sg=>ae Y (np fS Y Y),Z⟩⟩,
  ⟨⟨[],_,[([],[8])],Y,Z,Y,Y,Y,Y,Y,⟨fun sg=>cw Y (kQ (r:=Bc) (x:=[]) fS (fun _=>⟨none,0,Y,kG _,nh _,.inl Y⟩)),Z⟩⟩,
  Z⟩⟩⟩⟩⟩⟩⟩⟩⟩ (fun sg=>?_)
 refine(show RG _ _ _ _ [_,_,_,_] _ from ?_);refine aW fS af Y<|aA 6 Y<|bI<|aQ<|T ((show cu _ _ _ _ ((eD aP Ze nG (fun(x:kU)=>(oP e) x)))from kN (cts:=[bH u8z e]) (caps:=[.tmp 6]) akf ⟨(J Y),Z⟩ (fun x y h=>adO _ _ h)))<|aS Y<|aQ<|bX tg oh Ge Y<|ca A6 Y<|T (sv (J Y) hI)<|bj Y<|cj h fun t r_ h=>bk Y (gU tg oh Y Y)<|bk Y (gK Ge Y Y)<|bk Y (fa Y) ?_;obtain⟨r,g_,s_⟩:=og r_;have F_:=fun H=>(g_ H).1;refine bk Y (fun hg=>bG ake (adN _ _ (F_ hg)) ⟨(db Y hg),(db Y hg),Z⟩)<|bk Y (yH Y)<|T (ee (J Y) (fun H=>(db Y H)) (fun H=>(g_ H).2) s_)<|bj Y<|bk Y (gU BD uQ Y Y)<|bk Y (gK cz Y Y)<|bk Y (fun hg=>iZ (db Y hg) hI)<|i9 Y<|bj Y<|bk Y (gU BD uQ Y Y)<|bk Y (gK cz Y Y)<|bk Y (fun hg=>sv (db Y hg) hI)<|i9 Y<|aS Y<|aC ?_;refine nQ (ts:=[_,_,_,_,_,_,_,_,_,_,_,_,_,_,_,_,_,_,_]) mixed Y Y
  ⟨oq 6 Y Y (np fS Y Y),
  ⟨eX Y Y,
  ⟨dy 40 1 Y Y (l0 Y),
  ⟨ui 0 41 2 Y Y Y (cP Y Y Y Y (fun hg=>l0 Y)),
  ⟨jN 42 3 41 2 Y Y Y (cP Y Y Y Y (fun hg=>eK (db Y hg))),
  ⟨jN 43 4 41 2 Y Y Y (cP Y Y Y Y (fun hg=>tQ (n:=1) qG Y (db Y hg) Y)),
  ⟨jN 44 5 41 2 Y Y Y (cP Y Y Y Y (fun hg=>eS yK Y (.head _) (.tail _ (.head _)) (db Y hg))),
  ⟨jN 45 6 41 2 Y Y Y (cP Y Y Y Y (fun hg=>oH An (kX (db Y hg)))),
  ⟨ui 0 41 2 Y Y Y (cP Y Y Y Y (fun hg=>l0 Y)),
  ⟨jN 47 8 41 2 Y Y Y (cP Y Y Y Y (fun hg=>eK (db Y hg))),
  ⟨jN 48 9 41 2 Y Y Y (cP Y Y Y Y (fun hg=>tQ (n:=0) Qs Y (db Y hg) Y)),
  ⟨jN 49 10 41 2 Y Y Y (cP Y Y Y Y (fun hg=>tQ (n:=0) ju Y (db Y hg) Y)),
  ⟨jN 50 11 41 2 Y Y Y (cP Y Y Y Y (fun hg=>bP (r:=rH cd [(1,aY (ix.h 0).1 (ix.h 0).2 c.v'.length),(2,aY (ix.h 1).1 (ix.h 1).2 c.first.length)]) (x:=c) r0 Y Y (acR (pZ Bz fx)) (.head _) (db Y hg))),
  ⟨jN 51 12 41 2 Y Y Y (cP Y Y Y Y (fun hg=>oH oo (db Y hg))),
  ⟨jN 52 13 41 2 Y Y Y (cP Y Y Y Y (fun hg=>fq (db Y hg) hI)),
  ⟨zu 46 7 53 14 41 2 Y Y Y Y (cP Y Y Y Y (fun hg=>mb (db Y hg) (db Y hg))),
  ⟨dX 41 2 54 15 Y Y Y (zpa Y Y),
  ⟨dy 39 0 Y Y (Aj Y),
  ⟨dy 55 16 Y Y (Aj Y),
  Z⟩⟩⟩⟩⟩⟩⟩⟩⟩⟩⟩⟩⟩⟩⟩⟩⟩⟩⟩ ?_
 exact aw<|jm<|aH<|aH<|aH<|so h▸gI (ts:=[oA e,iF (((t&&(decide (Jr<=n.U')))&&(decide (n.U'<=2147483647)))&&((c.v'.length:Int)==(IntKind.i64.wrap ((c.D'.j'.length:Int)-1))))]) (rvs:=[.tmp 4,.tmp 5]) Y Y ⟨aL Y,aL Y,Z⟩ tA Y Y
def aek n{R}(h:y0 n=some R):bZ aP 131 [Q aq n] (iF R):=by
 refine cx func131 Y<|aQ<|cg Y<|ck<|bI<|aQ<|bX BC sF cz Y<|dA Y<|bj Y<|bk Y (gU uz pm Y Y)<|bk Y (gK fS Y Y)<|bk Y (vi iG Y)<|bk Y (qT Y)<|i9 Y<|bj Y<|bk Y (gU Fq ww Y Y)<|bk Y (gK Na Y Y)<|bk Y (yH Y)<|i9 Y<|bj Y ?_;refine bk Y (gU oV i7 Y Y)<|bk Y (fun hg=>nT fh Y dV Y (db Y hg))<|bk Y (gK nH Y Y)<|bk Y (vi j6 Y)<|bk Y (qT Y)<|i9 Y<|bj Y<|bk Y (gU uy nv Y Y)<|bk Y (gK fS Y Y)<|bk Y (vi iG Y)<|bk Y (qT Y)<|i9 Y<|bj Y<|bk Y (gU rz qz Y Y)<|bk Y (gK Cv Y Y)<|bk Y (vi wO Y)<|bk Y (qT Y)<|i9 Y<|bj Y<|bk Y (gU oK kD Y Y)<|bk Y (gK lT Y Y)<|bk Y (vi qp Y)<|bk Y (qT Y)<|i9 Y ?_;exact bj Y<|bk Y (gU tg oh Y Y)<|bk Y (gK Ge Y Y)<|bk Y (vi A6 Y)<|bk Y (qT Y)<|i9 Y<|bj Y<|bk Y (gU BD uQ Y Y)<|bk Y (gK cz Y Y)<|bk Y (qT Y)<|i9 Y<|bf Y<|so h▸aM Y Y
def aej n{R}(h:y5 n=some R):bZ aP 132 [Q aq n] (Q aq R):=by
 refine cx func132 Y<|aQ<|wL (J Y) Y fun b=>ax fL lk Y fun b1=>bI<|bc<|cL 0 qF Y<|T (bP cz Y Y iD (.tail _ (.head _)) (J Y))<|bI<|an<|aQ<|dA Y<|aS Y<|px h Y (fun h=>?_) (fun h=>?_)
 ·exact aG<|cL 3 BC Y<|bo<|dc cz Y La Y (J Y) hI<|cL 4 uz Y<|dc fS Y yM Y (J Y) JB<|bD<|bt<|aw<|aQ<|T (bP (x:=(ai.mk n.Op n.A n.B 0 ([]) n.Left n.J' n.Q' n.M' n.I' n.R' n.U')) fL Y Y bT (.head _) (J Y))<|bo<|aW fL af Y<|aA 2 Y<|cX<|aO<|so h▸iM Y fL Y Y Y
 ·refine aQ<|dA Y<|aS Y<|px h Y (fun h=>?_) (fun h=>?_)
  ·exact aG<|T (bW bR Ed dQ Y)<|cL 5 Fq Y<|bo<|dc Na Y K0 Y (J Y) hB<|cL 6 oV Y<|aW bR se Y<|bD<|bt<|aw<|aQ<|T (bP (x:=(ai.mk n.Op n.A n.B n.Table n.P' false ⟨[]⟩ n.Q' n.M' n.I' n.R' n.U')) fL Y Y bT (.head _) (J Y))<|bo<|aW fL af Y<|aA 2 Y<|cX<|aO<|so h▸iM Y fL Y Y Y
  ·refine aQ<|dA Y<|aS Y<|px h Y (fun h=>?_) (fun h=>?_)
   ·exact aG<|T (bW bR Ed dQ Y)<|cL 6 oV Y<|bo<|aW bR se Y<|bD<|bt<|aw<|aQ<|T (bP (x:=(ai.mk n.Op n.A n.B n.Table n.P' n.Left ⟨[]⟩ n.Q' n.M' n.I' n.R' n.U')) fL Y Y bT (.head _) (J Y))<|bo<|aW fL af Y<|aA 2 Y<|cX<|aO<|so h▸iM Y fL Y Y Y
   ·refine aQ<|dA Y<|aS Y<|px h Y (fun h=>?_) (fun h=>?_)
    ·exact aG<|cL 7 uy Y<|bo<|dc fS Y Fe Y (J Y) JB<|cL 8 rz Y<|dc Cv Y Uf Y (J Y) JB<|bD<|bt<|aw<|aQ<|T (bP (x:=(ai.mk n.Op n.A n.B n.Table n.P' n.Left n.J' ([]) ([]) n.I' n.R' n.U')) fL Y Y bT (.head _) (J Y))<|bo<|aW fL af Y<|aA 2 Y<|cX<|aO<|so h▸iM Y fL Y Y Y
    ·refine aQ<|dA Y<|aS Y<|px h Y (fun h=>?_) (fun h=>?_)
     ·exact aG<|cL 9 oK Y<|bo<|dc lT Y KZ Y (J Y) JB<|bD<|bt<|aw<|aQ<|T (bP (x:=(ai.mk n.Op n.A n.B n.Table n.P' n.Left n.J' n.Q' n.M' ([]) n.R' n.U')) fL Y Y bT (.head _) (J Y))<|bo<|aW fL af Y<|aA 2 Y<|cX<|aO<|so h▸iM Y fL Y Y Y
     ·refine aQ<|dA Y<|aS Y<|px h Y (fun h=>?_) (fun h=>?_)
      ·exact aG<|cL 10 tg Y<|bo<|dc Ge Y IG Y (J Y) JB<|cL 11 BD Y<|dc cz Y RJ Y (J Y) hI<|bD<|bt<|aw<|aQ<|T (bP (x:=(ai.mk n.Op n.A n.B n.Table n.P' n.Left n.J' n.Q' n.M' n.I' ([]) 0)) fL Y Y bT (.head _) (J Y))<|bo<|aW fL af Y<|aA 2 Y<|cX<|aO<|so h▸iM Y fL Y Y Y
      ·exact bO<|bt<|aw<|aQ<|T (bP fL Y Y bT (.tail _ (.head _)) (J Y))<|aW fL af Y<|aA 2 Y<|cX<|aO<|so h▸iM Y fL Y Y Y
def adM op{R}(h:zE op=some R):bZ aP 189 [bS op] (bS R):=by
 refine cx func189 Y<|aQ<|bU<|bI<|bc<|bj Y<|bI<|an<|aQ<|dA Y<|aS Y<|px h Y (fun h=>?_) (fun h=>?_)
 ·exact aQ<|dd<|cR<|so h▸aM Y Y
 ·refine j8 (ay:=fun x=>vC x=some R) (Of:=fun x=>[]) (Gf:=fun x=>[(6,iF x)]) (fun x h=>?_) (fun K=>?_)
  ·skip;refine px h Y (fun h=>?_) (fun h=>?_)
   ·exact aQ<|dd<|cR<|so h▸aM Y Y
   ·exact bO<|bt<|aw<|aQ<|dd<|so h▸aM Y Y
  ·skip;refine aQ<|dA Y<|aS Y<|px h Y (fun h=>?_) (fun h=>?_)
   ·refine bO ?_;exact cQ (K (op==2) h) (bA Y)
   ·refine aG<|dA Y<|iH Y<|bD ?_;exact cQ (K (op==7) h) (bA Y)
def ahJ(b:Nat)(ix:OI) c i{R}(h:nM c i=some R):dZ aP 133 [tV (aE b 0),bS i] (gg b c ix) (fun _:OI=>tT [bS R.1,iF R.2]) (fun _=>(gg b c ix)):=by
 refine dZ.of func133 Y Y Y fun w0 S0=>?_;refine(show CG _ _ _ [bx (rH cd [(1,aY (ix.h 0).1 (ix.h 0).2 c.v'.length),(2,aY (ix.h 1).1 (ix.h 1).2 c.first.length)]) 131 b c,gh u8z 44 (ix.h 0).1 (ix.h 0).2 c.v',gh cM 3 (ix.h 1).1 (ix.h 1).2 c.first] _ from ?_);refine aQ<|bU<|ck<|bI<|aD Y<|T (eK (J Y))<|cL 0 Qs Y<|cL 0 ju Y<|T (bP (r:=rH cd [(1,aY (ix.h 0).1 (ix.h 0).2 c.v'.length),(2,aY (ix.h 1).1 (ix.h 1).2 c.first.length)]) (x:=c) r0 Y Y (acR (pZ Bz fx)) (.head _) (J Y))<|bj Y<|cj h fun e i_ h=>d8 oo fL Y i_<|ax fL lk Y fun b1=>aW fL af Y<|aA 6 Y<|bI<|aC<|aC ?_;refine aG<|bX qF iD cz Y<|cC h akd (adM _) (bN Y) fun r h=>bI<|an<|aQ<|dA Y<|aS Y<|px h Y (fun h=>?_) (fun h=>?_)
 ·refine aC ?_;refine nQ (ts:=[_,_,_,_,_,_,_,_,_,_,_]) mixed Y Y
   ⟨eX Y Y,
   ⟨oq 6 Y Y (mW k5 eE Y Y),
   ⟨fm 1 cz Y Y,
   ⟨dy 22 2 Y Y (zei Y),
   ⟨dy 23 3 Y Y (l0 Y),
   ⟨ui 6 24 4 Y Y Y (cP Y Y Y Y (fun hg=>mW sH lC Y Y)),
   ⟨jN 25 5 24 4 Y Y Y (cP Y Y Y Y (fun hg=>gO cz Y Y (db Y hg))),
   ⟨jN 26 6 24 4 Y Y Y (cP Y Y Y Y (fun hg=>mb (db Y hg) hI)),
   ⟨dX 24 4 27 7 Y Y Y (zpa Y Y),
   ⟨dy 20 0 Y Y (Aj Y),
   ⟨dy 28 8 Y Y (Aj Y),
   Z⟩⟩⟩⟩⟩⟩⟩⟩⟩⟩⟩ ?_
  exact aw<|jm<|cR<|aH<|aH<|aH<|so h▸gI (ts:=[bS i,iF ((e.A==Jr)&&(e.B==Jr))]) (rvs:=[.tmp 4,.tmp 5]) Y Y ⟨aL Y,aL Y,Z⟩ tA Y Y
 ·refine aQ<|dA Y<|aS Y<|px h Y (fun h=>?_) (fun h=>?_)
  ·refine bc<|bX k5 eE cz Y<|bj Y<|T (fq (J Y) hI)<|T (iO (J Y) (J Y))<|bj Y<|co Y (gU sH lC Y Y)<|co Y (gK cz Y Y)<|co Y (Et Y)<|py Y<|bj Y<|co Y (fa Y)<|co Y (qT Y)<|py Y<|cn h Y (fun h=>?_) (fun h=>?_)
   ·exact aQ<|bU<|ck<|cX<|am<|cR<|aH<|aH<|aH<|so h▸gI (ts:=[bS 0,iF false]) (rvs:=[.tmp 4,.tmp 5]) Y Y ⟨aL Y,aL Y,Z⟩ tA Y Y
   ·refine iq<|aC<|cj h fun e1 Y' h=>?_;refine nQ (ts:=[_,_,_,_,_,_,_,_,_,_]) mixed Y Y
     ⟨eX Y Y,
     ⟨dy 45 0 Y Y (eK (J Y)),
     ⟨dy 46 1 Y Y (rP 2 wI Y Y Y),
     ⟨dy 47 2 Y Y (eS fS Y (.head _) (.tail _ (.tail _ (.head _))) (J Y)),
     ⟨oq 6 Y Y (mW k5 eE Y Y),
     ⟨fm 4 cz Y Y,
     ⟨dX 48 3 50 5 Y Y Y (bn iG cz Y (kX (J Y)) (J Y) Y'),
     ⟨fm 6 cz Y Y,
     ⟨dy 52 7 Y Y (Aj Y),
     ⟨Q6 Y (zab),
     Z⟩⟩⟩⟩⟩⟩⟩⟩⟩⟩ ?_
    exact aw<|jm<|cR<|aH<|aH<|aH<|so h▸gI (ts:=[bS e1,iF true]) (rvs:=[.tmp 4,.tmp 5]) Y Y ⟨aL Y,aL Y,Z⟩ tA Y Y
  ·refine bO<|bt<|aw<|aC<|aC<|cj h fun t r_ h=>?_;obtain⟨e2,g_,s_⟩:=og r_;have E_:=fun H=>(g_ H).1;refine nQ (ts:=[_,_,_,_,_,_,_,_,_,_,_,_,_,_,_,_,_,_,_,_,_,_,_,_,_,_,_,_]) mixed Y Y
    ⟨oq 6 Y Y (mW sH lC Y Y),
    ⟨fm 0 cz Y Y,
    ⟨eX Y Y,
    ⟨dy 55 2 Y Y (fq (J Y) hI),
    ⟨dX 54 1 56 3 Y Y Y (iO (J Y) (J Y)),
    ⟨dy 57 4 Y Y (l0 Y),
    ⟨ui 1 58 5 Y Y Y (oW Y Y Y Y (fun hg=>l0 Y)),
    ⟨jN 59 6 58 5 Y Y Y (oW Y Y Y Y (fun hg=>mb (db Y hg) hI)),
    ⟨dX 58 5 60 7 Y Y Y (zpo Y Y),
    ⟨dy 61 8 Y Y (l0 Y),
    ⟨ui 6 62 9 Y Y Y (oW Y Y Y Y (fun hg=>mW k5 eE Y Y)),
    ⟨jN 63 10 62 9 Y Y Y (oW Y Y Y Y (fun hg=>gO cz Y Y (db Y hg))),
    ⟨ui 0 62 9 Y Y Y (oW Y Y Y Y (fun hg=>l0 Y)),
    ⟨jN 65 12 62 9 Y Y Y (oW Y Y Y Y (fun hg=>eK (db Y hg))),
    ⟨jN 66 13 62 9 Y Y Y (oW Y Y Y Y (fun hg=>tQ (n:=2) wI Y (db Y hg) Y)),
    ⟨jN 67 14 62 9 Y Y Y (oW Y Y Y Y (fun hg=>eS fS Y (.head _) (.tail _ (.tail _ (.head _))) (db Y hg))),
    ⟨ui 6 62 9 Y Y Y (oW Y Y Y Y (fun hg=>mW sH lC Y Y)),
    ⟨jN 69 16 62 9 Y Y Y (oW Y Y Y Y (fun hg=>gO cz Y Y (db Y hg))),
    ⟨zu 68 15 70 17 62 9 Y Y Y Y (oW Y Y Y Y (fun hg=>bn iG cz Y (kX (db Y hg)) (db Y hg) (E_ hg))),
    ⟨jN 71 18 62 9 Y Y Y (oW Y Y Y Y (fun hg=>gO cz Y Y (db Y hg))),
    ⟨jN 72 19 62 9 Y Y Y (oW Y Y Y Y (fun hg=>fq (db Y hg) hI)),
    ⟨zu 64 11 73 20 62 9 Y Y Y Y (oW Y Y Y Y (fun hg=>iO (db Y hg) (db Y hg))),
    ⟨dX 62 9 74 21 Y Y Y (nt (J Y) (fun H=>(db Y (Ea H))) (fun H=>(g_ H).2) s_),
    ⟨dy 75 22 Y Y (l0 Y),
    ⟨ui 6 76 23 Y Y Y (oW Y Y Y Y (fun hg=>mW k5 eE Y Y)),
    ⟨jN 77 24 76 23 Y Y Y (oW Y Y Y Y (fun hg=>gO cz Y Y (db Y hg))),
    ⟨jN 78 25 76 23 Y Y Y (oW Y Y Y Y (fun hg=>jk (db Y hg) hI)),
    ⟨dX 76 23 79 26 Y Y Y (zpo Y Y),
    Z⟩⟩⟩⟩⟩⟩⟩⟩⟩⟩⟩⟩⟩⟩⟩⟩⟩⟩⟩⟩⟩⟩⟩⟩⟩⟩⟩⟩ ?_
   refine aw<|px h Y (fun h=>?_) (fun h=>?_)
   ·exact aQ<|bU<|ck<|cX<|am<|aH<|aH<|aH<|so h▸gI (ts:=[bS 0,iF false]) (rvs:=[.tmp 4,.tmp 5]) Y Y ⟨aL Y,aL Y,Z⟩ tA Y Y
   ·refine iq<|aC<|cj h fun e3 e_ h=>?_;refine nQ (ts:=[_,_,_,_,_,_,_,_,_,_]) mixed Y Y
     ⟨eX Y Y,
     ⟨dy 81 0 Y Y (eK (J Y)),
     ⟨dy 82 1 Y Y (rP 2 wI Y Y Y),
     ⟨dy 83 2 Y Y (eS fS Y (.head _) (.tail _ (.tail _ (.head _))) (J Y)),
     ⟨oq 6 Y Y (mW k5 eE Y Y),
     ⟨fm 4 cz Y Y,
     ⟨dX 84 3 86 5 Y Y Y (bn iG cz Y (kX (J Y)) (J Y) e_),
     ⟨fm 6 cz Y Y,
     ⟨dy 88 7 Y Y (Aj Y),
     ⟨Q6 Y (zab),
     Z⟩⟩⟩⟩⟩⟩⟩⟩⟩⟩ ?_
    exact aw<|jm<|aH<|aH<|aH<|so h▸gI (ts:=[bS e3,iF true]) (rvs:=[.tmp 4,.tmp 5]) Y Y ⟨aL Y,aL Y,Z⟩ tA Y Y
def aaU(b:Nat)(ix:OI)(c:aV):G9 aP 122 (fun(x:Int×Bool)=>[bS x.1,iF x.2]) (fun _=>pG c) (gg b) (gg b c ix) [bH (rT (tV (aE b 0))) ()]:=by
 refine G9.of func122 Y Y Y fun Sg yld s R h h1 yv hy e he w0 S0 B hB=>?_
 replace h:pG c yld s=some R:=h
 refine(show CG _ _ _ [e,bx (rH cd [(1,aY (ix.h 0).1 (ix.h 0).2 c.v'.length),(2,aY (ix.h 1).1 (ix.h 1).2 c.first.length)]) 131 b c,gh u8z 44 (ix.h 0).1 (ix.h 0).2 c.v',gh cM 3 (ix.h 1).1 (ix.h 1).2 c.first] _ from ?_);refine aQ<|zf (CO (fun y:(aV->ai->Option (((List Int)×Bool)×aV))=>ij aP wQ (gg b) Iz y)) qh Y fun b1=>T (nK nX (J Y)) ?_;refine t7 ((show cu _ _ _ _ (ij aP wQ (gg b) Iz agj)from nI akW (J Y) (fun c x R h i=>by
   obtain⟨r,I,rfl⟩:=A9.1 h;exact lS (Ob:=fun j=>gg b c j) (i:=i) (ahR _ i c _ I)))) Y ?_
 refine gF (γ:=(fun y:(aV->ai->Option (((List Int)×Bool)×aV))=>ij aP wQ (gg b) Iz y)) (y:=agj) F0 (eU me) (J Y) (pD hI) (J Y) fun os=>T (nK nX (J Y)) ?_;refine t7 ((show cu _ _ _ _ (ij aP wQ (gg b) Iz agi)from nI akV (J Y) (fun c x R h i=>by
   obtain⟨r,I,rfl⟩:=A9.1 h;exact lS (Ob:=fun j=>gg b c j) (i:=i) (ahQ _ i c _ I)))) Y ?_
 refine gF (γ:=(fun y:(aV->ai->Option (((List Int)×Bool)×aV))=>ij aP wQ (gg b) Iz y)) (y:=agi) F0 (eU me) (J Y) (pD hI) (J Y) fun os1=>T (nK nX (J Y)) ?_;refine t7 ((show cu _ _ _ _ (ij aP wQ (gg b) Iz agn)from nI akU (J Y) (fun c x R h i=>by
   obtain⟨r,I,rfl⟩:=A9.1 h;exact lS (Ob:=fun j=>gg b c j) (i:=i) (ahP _ i c _ I)))) Y ?_
 refine gF (γ:=(fun y:(aV->ai->Option (((List Int)×Bool)×aV))=>ij aP wQ (gg b) Iz y)) (y:=agn) F0 (eU me) (J Y) (pD hI) (J Y) fun os2=>T (nK nX (J Y)) ?_;refine t7 ((show cu _ _ _ _ (ij aP wQ (gg b) Iz agk)from nI akT (J Y) (fun c x R h i=>by
   obtain⟨r,I,rfl⟩:=A9.1 h;exact lS (Ob:=fun j=>gg b c j) (i:=i) (ahO _ i c _ I)))) Y ?_
 refine gF (γ:=(fun y:(aV->ai->Option (((List Int)×Bool)×aV))=>ij aP wQ (gg b) Iz y)) (y:=agk) F0 (eU me) (J Y) (pD hI) (J Y) fun os3=>T (nK nX (J Y)) ?_;refine t7 ((show cu _ _ _ _ (ij aP wQ (gg b) Iz ago)from nI akS (J Y) (fun c x R h i=>by
   obtain⟨r,I,rfl⟩:=A9.1 h;exact lS (Ob:=fun j=>gg b c j) (i:=i) (ahN _ i c _ I)))) Y ?_
 refine gF (γ:=(fun y:(aV->ai->Option (((List Int)×Bool)×aV))=>ij aP wQ (gg b) Iz y)) (y:=ago) F0 (eU me) (J Y) (pD hI) (J Y) fun os4=>T (nK nX (J Y)) ?_;refine t7 ((show cu _ _ _ _ (ij aP wQ (gg b) Iz agp)from nI akR (J Y) (fun c x R h i=>by
   obtain⟨r,I,rfl⟩:=A9.1 h;exact lS (Ob:=fun j=>gg b c j) (i:=i) (ahM _ i c _ I)))) Y ?_
 refine gF (γ:=(fun y:(aV->ai->Option (((List Int)×Bool)×aV))=>ij aP wQ (gg b) Iz y)) (y:=agp) F0 (eU me) (J Y) (pD hI) (J Y) fun os5=>T (nK nX (J Y)) ?_;refine t7 ((show cu _ _ _ _ (ij aP wQ (gg b) Iz agm)from nI akQ (J Y) (fun c x R h i=>by
   obtain⟨r,I,rfl⟩:=A9.1 h;exact lS (Ob:=fun j=>gg b c j) (i:=i) (ahL _ i c _ I)))) Y ?_
 refine gF (γ:=(fun y:(aV->ai->Option (((List Int)×Bool)×aV))=>ij aP wQ (gg b) Iz y)) (y:=agm) F0 (eU me) (J Y) (pD hI) (J Y) fun os6=>T (nK nX (J Y)) ?_;refine t7 ((show cu _ _ _ _ (ij aP wQ (gg b) Iz agl)from nI akP (J Y) (fun c x R h i=>by
   obtain⟨r,I,rfl⟩:=A9.1 h;exact lS (Ob:=fun j=>gg b c j) (i:=i) (ahK _ i c _ I)))) Y ?_
 refine gF (γ:=(fun y:(aV->ai->Option (((List Int)×Bool)×aV))=>ij aP wQ (gg b) Iz y)) (y:=agl) F0 (eU me) (J Y) (pD hI) (J Y) fun os7=>bj Y<|aS Y<|aQ<|T (nK nX (J Y))<|T (eK (J Y))<|cL 0 Qs Y<|cL 0 ju Y<|T (bP (r:=rH cd [(1,aY (ix.h 0).1 (ix.h 0).2 c.v'.length),(2,aY (ix.h 1).1 (ix.h 1).2 c.first.length)]) (x:=c) r0 Y Y (acR (pZ Bz fx)) (.tail _ (.tail _ (.head _))) (J Y))<|ca oo Y<|T (bQ hI)<|bI<|an<|bm (k:=33) Y fun hN=>bM<|mJ<|mJ<|mJ<|jL<|mJ ?_;refine aI (MN (ay:=fun ls i e1 s1 ob l c1 l1 c2=>(c.D'.j'.drop i=ls)/\h1 s1 e1/\cm yld ls i s1 ob=some R) (Of:=fun _ i e1 s1 ob l c1 l1 c2=>[e1,tF (CO (fun y:(aV->ai->Option (((List Int)×Bool)×aV))=>ij aP wQ (gg b) Iz y)) qh b1 none os7 zk0,bx (rH cd [(1,aY l c1 ob.v'.length),(2,aY l1 c2 ob.first.length)]) 131 b ob,gh u8z 44 l c1 ob.v',gh cM 3 l1 c2 ob.first]) (Gf:=fun _ i e1 s1 ob l c1 l1 c2=>[(0,tV yv),(1,bH (rT (tV (aE b 0))) ()),(3,tV (uv b1)),(33,cy (aq) c.D'.j'),(34,iQ c.D'.j'),(35,bS (i:Int))]) (fun i e1 s1 ob l c1 l1 c2 h=>?_) (fun e2 tl ih i e1 s1 ob l c1 l1 c2 h=>?_) c.D'.j' 0 e s c (ix.h 0).1 (ix.h 0).2 (ix.h 1).1 (ix.h 1).2 ⟨Y,⟨he,h⟩⟩) (bA Y)
 ·obtain⟨V,h⟩:=h;obtain⟨he1,h⟩:=h;exact dq V Y<|bv<|aO<|cv<|cv<|cv<|cv<|so h▸Y8 Y he1 (oiL [(l,c1),(l1,c2)]) Y
 ·obtain⟨V,h⟩:=h;obtain⟨he1,h⟩:=h;refine dp V Y<|aC<|an<|aD Y<|d8 oo fL Y (de V)<|ax fL lk Y fun b2=>iH Y<|aW fL af Y<|aA 5 Y<|bI<|aC ?_;refine aG<|bj Y<|bX qF iD cz Y<|T (Sc (γ:=(fun y:(aV->ai->Option (((List Int)×Bool)×aV))=>ij aP wQ (gg b) (fun(x:(List Int)×Bool)=>tT [Q Bc x.1,Q rB x.2]) y)) (z:=fun _ _=>none) F0 (eU me) aip (fun _=>N6) (.tail _ (.head _)) (J Y) (pD (J Y)))<|bj Y<|bL Y Y<|bL Y Y<|iH Y<|aS Y<|aD Y<|bj Y<|cj h fun t r_ h=>bk Y (fun hg=>np fL Y Y) ?_;obtain⟨r,g_,s_⟩:=og r_;have F_:=fun H=>(g_ H).1;refine bk Y (fun hg=>bG akN (aej _ (F_ hg)) ⟨(db Y hg),Z⟩) ?_;obtain⟨r1,g_⟩:=og2 (fun H=>(g_ H).2);have k_:=fun H=>(g_ H).1;refine bk Y (fun hg=>bG akO (aek _ (k_ hg)) ⟨(db Y hg),Z⟩)<|T (ee (J Y) (fun H=>(db Y H)) (fun H=>(g_ H).2) s_)<|aS Y ?_;refine Y1 (ay:=fun ok Y_ l2 c3 l3 c4=>gE yld (cm yld tl) i e2 s1 ok Y_=some R) (Of:=fun ok Y_ l2 c3 l3 c4=>[e1,tF (CO (fun y:(aV->ai->Option (((List Int)×Bool)×aV))=>ij aP wQ (gg b) Iz y)) qh b1 none os7 zk0,bx (rH cd [(1,aY l2 c3 Y_.v'.length),(2,aY l3 c4 Y_.first.length)]) 131 b Y_,gh u8z 44 l2 c3 Y_.v',gh cM 3 l3 c4 Y_.first]) (Gf:=fun ok Y_ l2 c3 l3 c4=>[(0,tV yv),(1,bH (rT (tV (aE b 0))) ()),(3,tV (uv b1)),(4,bS (i:Int)),(5,bH aq e2),(6,ij aP wQ (gg b) Iz ((m5 zk0 e2.Op).getD (fun _ _=>none))),(8,iF ok),(33,cy (aq) c.D'.j'),(34,iQ c.D'.j'),(35,bS (i:Int))]) (fun ok Y_ l2 c3 l3 c4 h=>?_) (fun K=>?_)
  ·skip;refine aQ<|kq cM<|bI ?_;refine Y0 (ay:=fun ok1 v' H_ l4 c5 l5 c6=>jJ yld (cm yld tl) i s1 ok1 v' H_=some R) (Of:=fun ok1 v' H_ l4 c5 l5 c6=>[e1,tF (CO (fun y:(aV->ai->Option (((List Int)×Bool)×aV))=>ij aP wQ (gg b) Iz y)) qh b1 none os7 zk0,bx (rH cd [(1,aY l4 c5 H_.v'.length),(2,aY l5 c6 H_.first.length)]) 131 b H_,gh u8z 44 l4 c5 H_.v',gh cM 3 l5 c6 H_.first]) (Gf:=fun ok1 v' H_ l4 c5 l5 c6=>[(0,tV yv),(1,bH (rT (tV (aE b 0))) ()),(3,tV (uv b1)),(4,bS (i:Int)),(8,iF ok1),(10,oA v'),(33,cy (aq) c.D'.j'),(34,iQ c.D'.j'),(35,bS (i:Int))]) (fun ok1 v' H_ l4 c5 l5 c6 h=>?_) (fun K1=>?_)
   ·skip;refine aD Y<|bj Y<|bk Y (fa Y)<|bk Y (vi iG Y)<|bk Y (fun hg=>sv (db Y hg) hI)<|i9 Y<|aS Y<|aC<|cj h fun l6 q_l6 h=>?_;refine jQ 8 [tc (tV (aE b 0)),tc (tV (aE b 0)),tc (tV (aE b 0)),tc (tV (aE b 1)),tc (tO u8z l4 c5 H_.v'),tc (oA v'),tc (cy (u8z) ([v'])),([7],fun s=>tO u8z ((s.getD 0 tA).h 0).1 ((s.getD 0 tA).h 0).2 l6)] [false,false,false,false,false,false,false,true] [([],fun _=>[e1,tF (CO (fun y:(aV->ai->Option (((List Int)×Bool)×aV))=>ij aP wQ (gg b) Iz y)) qh b1 none os7 zk0,bx (rH cd [(1,aY l4 c5 H_.v'.length),(2,aY l5 c6 H_.first.length)]) 131 b H_,gh u8z 44 l4 c5 H_.v',gh cM 3 l5 c6 H_.first]),([7],fun sg=>[gh u8z 44 ((sg 7).h 0).1 ((sg 7).h 0).2 l6,e1,tF (CO (fun y:(aV->ai->Option (((List Int)×Bool)×aV))=>ij aP wQ (gg b) Iz y)) qh b1 none os7 zk0,bx (rH cd [(1,aY l4 c5 H_.v'.length),(2,aY l5 c6 H_.first.length)]) 131 b H_,gh cM 3 l5 c6 H_.first])] (fun _=>Y) mixed Y Y Y Y
     ⟨⟨[⟨1,fun _=>bH (rT (tV (aE b 0))) (),none⟩],_,[[],[7]],Y,⟨(fun _=>Y),Z⟩,Y,Y,Y,Y,Y,⟨fun sg=>ae Y (nK nX (J Y)),fun sg=>ae Y (nK nX (J Y)),Z⟩⟩,
     ⟨⟨[⟨1,fun _=>bH (rT (tV (aE b 0))) (),none⟩],_,[[]],Y,⟨(fun _=>Y),Z⟩,Y,Y,Y,Y,Y,⟨fun sg=>ae Y (nK nX (J Y)),Z⟩⟩,
     ⟨⟨[⟨84,fun _=>tV (aE b 0),some 1⟩],_,[[]],Y,⟨(fun _=>Y),Z⟩,Y,Y,Y,Y,Y,⟨fun sg=>ae Y (eK (J Y)),Z⟩⟩,
     ⟨⟨[⟨85,fun _=>tV (aE b 0),some 2⟩],_,[[]],Y,⟨(fun _=>Y),Z⟩,Y,Y,Y,Y,Y,⟨fun sg=>ae Y (rP 1 qG Y Y Y),Z⟩⟩,
     ⟨⟨[⟨86,fun _=>tV (aE b 1),some 3⟩],_,[[]],Y,⟨(fun _=>Y),Z⟩,Y,Y,Y,Y,Y,⟨fun sg=>ae Y (eS yK Y (.tail _ (.tail _ (.head _))) (.tail _ (.tail _ (.tail _ (.head _)))) (J Y)),Z⟩⟩,
     ⟨⟨[⟨10,fun _=>Q Bc v',none⟩],_,[[]],Y,⟨(fun _=>Y),Z⟩,Y,Y,Y,Y,Y,⟨fun sg=>ae Y (l0 Y),Z⟩⟩,
     ⟨⟨[⟨88,fun _=>Q Bc v',some 5⟩],_,[[]],Y,⟨(fun _=>Y),Z⟩,Y,Y,Y,Y,Y,⟨fun sg=>ae Y (aK (r:=Bc) (ys:=[v']) (xs:=[.tmp 88]) An fS Y Y Y Y Y ⟨(J Y),Z⟩),Z⟩⟩,
     ⟨⟨[⟨87,fun _=>tO Bc l4 c5 H_.v',some 4⟩,⟨89,fun _=>Q (gM Bc) ([v']),some 6⟩],_,[([],[7])],Y,⟨(fun _=>Y),(fun _=>Y),Z⟩,Y,Y,Y,Y,Y,⟨fun sg=>cw Y (fr3 (zN fS Y Y Y Y An Y (J Y) (J Y) q_l6)),Z⟩⟩,
     Z⟩⟩⟩⟩⟩⟩⟩⟩ (fun sg=>?_)
    refine(show RG _ _ _ _ [_,_,_,_,_] _ from ?_);refine T (eK (J Y))<|cL 1 qG Y<|zR (fr3 (BK (hs' :=[(1,aY ((sg 7).h 0).1 ((sg 7).h 0).2 l6.length),(2,aY l5 c6 H_.first.length)]) (u:=aY ((sg 7).h 0).1 ((sg 7).h 0).2 l6.length) yK Y Y PF Y ⟨.inl ⟨Y,Y,Y⟩,.inr ⟨Y,Y⟩,Z⟩ (J Y) (kX (J Y)) (Cx (J Y)))) fun i1=>?_;refine(show RG _ _ _ _ [_,_,_,_,_] _ from ?_);refine bI<|aD Y<|bj Y<|bj Y<|eF<|cj h fun r2 d_ h=>MI hy he1 d_ (J Y) ⟨(J Y),(J Y),Z⟩ Y fun e3 he2=>T (jj (J Y))<|bj Y<|co Y (fa Y)<|co Y (yH Y)<|py Y<|cn h Y (fun h=>?_) (fun h=>?_)
    ·exact jm<|cR<|am<|tz<|cv<|aO<|cv<|cv<|cv<|cv<|so h▸TM Y he2 (oiL [(((sg 7).h 0).1,((sg 7).h 0).2),(l5,c6)]) Y
    ·refine bO<|cV V hN Y<|cU<|cv<|cv<|cU<|cU ?_;exact bg (aI (ih (i+1) e3 r2.2 ({H_ with v':=l6}:aV) ((sg 7).h 0).1 ((sg 7).h 0).2 l5 c6 ⟨cJ V,⟨he2,h⟩⟩) (bA Y))
   ·skip;refine aD Y<|cn h Y (fun h=>?_) (fun h=>?_)
    ·refine aG<|bj Y<|bq fL Y<|cj h fun r3 v_ h=>FD (fr4 (fr4 (fr4 (GW (args:=wQ) (Ob:=gg b) (res:=Iz) (f:=((m5 zk0 e2.Op).getD (fun _ _=>none))) (x:=Y_) (y:=((e2):ai)) (R:=r3) (i:=(oiL [(l2,c3),(l3,c4)])) (xs:=[.tmp 73]) _ Y (J Y) v_ ⟨(J Y),Z⟩ (fun _=>Y))))) Y fun i2=>?_;refine(show RG _ _ _ _ [_,_,_,_,_] ((74,tT [oA r3.1.1,iF r3.1.2])::_)from ?_);refine bj Y<|bL Y Y<|bL Y Y<|iH Y<|iH Y<|bD<|aH<|aH<|aH<|cU<|cU ?_;exact cQ (K1 r3.1.2 r3.1.1 r3.2 (i2.h 0).1 (i2.h 0).2 (i2.h 1).1 (i2.h 1).2 h) (bA Y)
    ·refine bO ?_;exact cQ (K1 ok ([]) Y_ l2 c3 l3 c4 h) (bA Y)
  ·skip;refine aD Y<|cn h Y (fun h=>?_) (fun h=>?_)
   ·refine aQ<|bU<|bI<|aQ<|T (nK nX (J Y))<|bj Y<|cj h fun r4 x_ h=>FD (fr4 (fr4 (fr4 (YC (xs:=[.tmp 55,.tmp 56]) (ts:=[tV (aE b 0),bS (i:Int)]) (gg b ob (oiL [(l,c1),(l1,c2)])) _ Y akM (ahJ b (oiL [(l,c1),(l1,c2)]) ob _ x_) ⟨(J Y),(J Y),Z⟩ (fun _=>Y))))) Y fun i3=>?_;refine(show RG _ _ _ _ [_,_,_,_,_] ((57,tT [bS r4.1,iF r4.2])::_)from ?_);refine bj Y<|bL Y Y<|bL Y Y<|iH Y<|aS Y<|cj h fun l7 q_l7 h=>?_;refine jQ 8 [tc (tV (aE b 0)),tc (tV (aE b 0)),tc (tV (aE b 0)),tc (tV (aE b 2)),tc (tO cM l1 c2 ob.first),tc (bS r4.1),tc (oA ([r4.1])),([7],fun s=>tO cM ((s.getD 0 tA).h 0).1 ((s.getD 0 tA).h 0).2 l7)] [false,false,false,false,false,false,false,true] [([],fun _=>[bx (rH cd [(1,aY l c1 ob.v'.length),(2,aY l1 c2 ob.first.length)]) 131 b ob,gh u8z 44 l c1 ob.v',gh cM 3 l1 c2 ob.first,e1,tF (CO (fun y:(aV->ai->Option (((List Int)×Bool)×aV))=>ij aP wQ (gg b) Iz y)) qh b1 none os7 zk0]),([7],fun D_=>[gh cM 3 ((D_ 7).h 0).1 ((D_ 7).h 0).2 l7,bx (rH cd [(1,aY l c1 ob.v'.length),(2,aY l1 c2 ob.first.length)]) 131 b ob,gh u8z 44 l c1 ob.v',e1,tF (CO (fun y:(aV->ai->Option (((List Int)×Bool)×aV))=>ij aP wQ (gg b) Iz y)) qh b1 none os7 zk0])] (fun _=>Y) mixed Y Y Y Y
     ⟨⟨[⟨1,fun _=>bH (rT (tV (aE b 0))) (),none⟩],_,[[],[7]],Y,⟨(fun _=>Y),Z⟩,Y,Y,Y,Y,Y,⟨fun D_=>ae Y (nK nX (J Y)),fun D_=>ae Y (nK nX (J Y)),Z⟩⟩,
     ⟨⟨[⟨1,fun _=>bH (rT (tV (aE b 0))) (),none⟩],_,[[]],Y,⟨(fun _=>Y),Z⟩,Y,Y,Y,Y,Y,⟨fun D_=>ae Y (nK nX (J Y)),Z⟩⟩,
     ⟨⟨[⟨61,fun _=>tV (aE b 0),some 1⟩],_,[[]],Y,⟨(fun _=>Y),Z⟩,Y,Y,Y,Y,Y,⟨fun D_=>ae Y (eK (J Y)),Z⟩⟩,
     ⟨⟨[⟨62,fun _=>tV (aE b 0),some 2⟩],_,[[]],Y,⟨(fun _=>Y),Z⟩,Y,Y,Y,Y,Y,⟨fun D_=>ae Y (rP 2 wI Y Y Y),Z⟩⟩,
     ⟨⟨[⟨63,fun _=>tV (aE b 2),some 3⟩],_,[[]],Y,⟨(fun _=>Y),Z⟩,Y,Y,Y,Y,Y,⟨fun D_=>ae Y (eS fS Y (.head _) (.tail _ (.tail _ (.head _))) (J Y)),Z⟩⟩,
     ⟨⟨[⟨9,fun _=>Q cM r4.1,none⟩],_,[[]],Y,⟨(fun _=>Y),Z⟩,Y,Y,Y,Y,Y,⟨fun D_=>ae Y (l0 Y),Z⟩⟩,
     ⟨⟨[⟨65,fun _=>Q cM r4.1,some 5⟩],_,[[]],Y,⟨(fun _=>Y),Z⟩,Y,Y,Y,Y,Y,⟨fun D_=>ae Y (aK (r:=cM) (ys:=[r4.1]) (xs:=[.tmp 65]) iG cz Y Y Y Y Y ⟨(J Y),Z⟩),Z⟩⟩,
     ⟨⟨[⟨64,fun _=>tO cM l1 c2 ob.first,some 4⟩,⟨66,fun _=>Q Bc ([r4.1]),some 6⟩],_,[([],[7])],Y,⟨(fun _=>Y),(fun _=>Y),Z⟩,Y,Y,Y,Y,Y,⟨fun D_=>cw Y (fr2 (zN cz Y Y Y Y iG Y (J Y) (J Y) q_l7)),Z⟩⟩,
     Z⟩⟩⟩⟩⟩⟩⟩⟩ (fun D_=>?_)
    refine(show RG _ _ _ _ [_,_,_,_,_] _ from ?_);refine T (eK (J Y))<|cL 2 wI Y<|zR (fr1 (BK (hs' :=[(1,aY l c1 ob.v'.length),(2,aY ((D_ 7).h 0).1 ((D_ 7).h 0).2 l7.length)]) (u:=aY ((D_ 7).h 0).1 ((D_ 7).h 0).2 l7.length) fS Y Y PE Y ⟨.inr ⟨Y,Y⟩,.inl ⟨Y,Y,Y⟩,Z⟩ (J Y) (kX (J Y)) (Cx (J Y)))) fun i4=>?_;refine(show RG _ _ _ _ [_,_,_,_,_] _ from ?_);refine bD<|bv<|aH<|aH<|cU<|cU ?_;exact cQ (K r4.2 ({ob with first:=l7}:aV) l c1 ((D_ 7).h 0).1 ((D_ 7).h 0).2 h) (bA Y)
   ·refine bO ?_;exact cQ (K t ob l c1 l1 c2 h) (bA Y)
