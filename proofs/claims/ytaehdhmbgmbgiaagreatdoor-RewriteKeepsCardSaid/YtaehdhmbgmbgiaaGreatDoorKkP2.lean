import Derived.Test.YtaehdhmbgmbgiaaGreatDoorKkT
import Derived.Test.YtaehdhmbgmbgiaaGreatDoorKkP1
set_option linter.all false
namespace Go.Proofs.YtaehdhmbgmbgiaaGreatDoor
open Go Tryz
set_option maxRecDepth 100000
def WG e v'{R}(h:w8 e v'=some R):bZ aP 183 [Q ap e,oA v'] (iF R):=by
 refine cx func183 Y<|aQ<|cg Y<|ck<|bI<|aQ<|bq bR Y<|bj Y<|cC h abq (Qz _ _) (bN Y) fun r h=>bj Y<|bL Y Y<|bL Y Y<|iH Y<|aS Y<|aD Y<|dA Y ?_;exact bj Y<|bk Y (fa Y)<|bk Y (qT Y)<|bk Y (F8 Y)<|AV Y Y Y Y (fun hg=>l0 Y)<|AV Y Y Y Y (fun hg=>mb (db Y hg) hI)<|bk Y (fun hg=>Dw (db Y hg) (fun H=>(db Y (G3 hg (Ea H)))))<|i9 Y<|bf Y<|so h▸aM Y Y
def ahQ(b:Nat)(ix:OI) c n{R}(h:kC c n=some R):dZ aP 124 [tV (aE b 0),Q aq n] (gg b c ix) (fun _:OI=>tT [oA R.1,iF R.2]) (fun _=>(gg b c ix)):=by
 refine dZ.of func124 Y Y Y fun w0 S0=>?_;refine(show CG _ _ _ [bx (rH cd [(1,aY (ix.h 0).1 (ix.h 0).2 c.v'.length),(2,aY (ix.h 1).1 (ix.h 1).2 c.first.length)]) 131 b c,gh u8z 44 (ix.h 0).1 (ix.h 0).2 c.v',gh cM 3 (ix.h 1).1 (ix.h 1).2 c.first] _ from ?_);refine aQ<|cg Y<|kq cM<|ck<|bI<|aC<|cj h fun e i_ h=>cj h fun e1 Y' h=>cj h fun r h_ h=>?_;refine nQ (ts:=[_,_,_,_,_,_,_,_,_,_,_,_,_,_,_,_,_,_,_]) mixed Y Y
  ⟨eX Y Y,
  ⟨dy 7 0 Y Y (eK (J Y)),
  ⟨dy 8 1 Y Y (rP 1 qG Y Y Y),
  ⟨dy 9 2 Y Y (eS yK Y (.head _) (.tail _ (.head _)) (J Y)),
  ⟨oq 3 Y Y (mW k5 eE Y Y),
  ⟨fm 4 cz Y Y,
  ⟨dX 10 3 12 5 Y Y Y (bn An fS Y (kX (J Y)) (J Y) i_),
  ⟨fm 6 fS Y Y,
  ⟨eX Y Y,
  ⟨dy 15 8 Y Y (eK (J Y)),
  ⟨dy 16 9 Y Y (rP 1 qG Y Y Y),
  ⟨dy 17 10 Y Y (eS yK Y (.head _) (.tail _ (.head _)) (J Y)),
  ⟨oq 3 Y Y (mW sH lC Y Y),
  ⟨fm 12 cz Y Y,
  ⟨dX 18 11 20 13 Y Y Y (bn An fS Y (kX (J Y)) (J Y) Y'),
  ⟨fm 14 fS Y Y,
  ⟨dX 14 7 22 15 Y Y Y (aK (r:=Bc) (ys:=[e,e1]) (xs:=[.tmp 14,.tmp 22]) An fS Y Y Y Y Y ⟨(J Y),(J Y),Z⟩),
  ⟨dy 23 16 Y Y (bG aki (adR _ h_) ⟨(J Y),Z⟩),
  ⟨dy 24 17 Y Y (Aj Y),
  Z⟩⟩⟩⟩⟩⟩⟩⟩⟩⟩⟩⟩⟩⟩⟩⟩⟩⟩⟩ ?_
 exact aw<|aD Y<|bX oV i7 bR Y<|bj Y<|cC h afH (WG _ _) (bN Y) fun r1 h=>iH Y<|bf Y<|aH<|aH<|aH<|so h▸gI (ts:=[oA r,iF r1]) (rvs:=[.tmp 4,.tmp 5]) Y Y ⟨aL Y,aL Y,Z⟩ tA Y Y
def ahP(b:Nat)(ix:OI) c n{R}(h:js c n=some R):dZ aP 125 [tV (aE b 0),Q aq n] (gg b c ix) (fun _:OI=>tT [oA R.1,iF R.2]) (fun _=>(gg b c ix)):=by
 refine dZ.of func125 Y Y Y fun w0 S0=>?_;refine(show CG _ _ _ [bx (rH cd [(1,aY (ix.h 0).1 (ix.h 0).2 c.v'.length),(2,aY (ix.h 1).1 (ix.h 1).2 c.first.length)]) 131 b c,gh u8z 44 (ix.h 0).1 (ix.h 0).2 c.v',gh cM 3 (ix.h 1).1 (ix.h 1).2 c.first] _ from ?_);refine aQ<|cg Y<|kq cM<|ck<|bI<|aC<|cj h fun e i_ h=>cj h fun r h_ h=>?_;refine nQ (ts:=[_,_,_,_,_,_,_,_,_,_,_,_,_,_,_,_,_,_,_,_,_]) mixed Y Y
  ⟨eX Y Y,
  ⟨dy 6 0 Y Y (eK (J Y)),
  ⟨dy 7 1 Y Y (rP 1 qG Y Y Y),
  ⟨dy 8 2 Y Y (eS yK Y (.head _) (.tail _ (.head _)) (J Y)),
  ⟨oq 3 Y Y (mW k5 eE Y Y),
  ⟨fm 4 cz Y Y,
  ⟨dX 9 3 11 5 Y Y Y (bn An fS Y (kX (J Y)) (J Y) i_),
  ⟨fm 6 fS Y Y,
  ⟨oq 3 Y Y (mW oV i7 Y Y),
  ⟨fm 8 bR Y Y,
  ⟨eX Y Y,
  ⟨dy 16 10 Y Y (eK (J Y)),
  ⟨dy 17 11 Y Y (rP 1 qG Y Y Y),
  ⟨dy 18 12 Y Y (eS yK Y (.head _) (.tail _ (.head _)) (J Y)),
  ⟨oq 3 Y Y (mW k5 eE Y Y),
  ⟨fm 14 cz Y Y,
  ⟨dX 19 13 21 15 Y Y Y (bn An fS Y (kX (J Y)) (J Y) i_),
  ⟨fm 16 fS Y Y,
  ⟨dX 15 9 23 17 Y Y Y (bG afH (WG _ _ h_) ⟨(J Y),(J Y),Z⟩),
  ⟨dy 13 7 Y Y (Aj Y),
  ⟨dy 24 18 Y Y (Aj Y),
  Z⟩⟩⟩⟩⟩⟩⟩⟩⟩⟩⟩⟩⟩⟩⟩⟩⟩⟩⟩⟩⟩ ?_
 exact aw<|jm<|aH<|aH<|aH<|so h▸gI (ts:=[oA e,iF r]) (rvs:=[.tmp 4,.tmp 5]) Y Y ⟨aL Y,aL Y,Z⟩ tA Y Y
def adi v' c{R}(h:vB v' c=some R):bZ aP 241 [bS c,bH u8z v'] (iF R):=by
 exact cx func241 Y<|aQ<|ck<|bI<|aD Y<|T (jk (J Y) hI)<|bj Y<|co Y (fa Y)<|co Y (fun hg=>np fS Y Y)<|co Y (vi iG Y)<|co Y (fun hg=>iZ (db Y hg) (db Y hg))<|py Y<|bf Y<|so h▸aM Y Y
def adQ l v'{R}(h:yb l v'=some R):bZ aP 184 [oA l,oA v'] (iF R):=by
 exact cx func184 Y<|aQ<|cg Y<|ck<|bI<|aD Y<|T ((show cu _ _ _ _ ((eD aP Rr nG (fun(x:Int)=>(vB v') x)))from kN (cts:=[bH u8z v']) (caps:=[.tmp 3]) ajN ⟨(J Y),Z⟩ (fun x y h=>adi _ _ h)))<|cC h Xf (Kc _ _) (bN Y) fun r h=>T (jj (J Y))<|bf Y<|so h▸aM Y Y
def adP a1 v'{R}(h:Dz a1 v'=some R):bZ aP 185 [Q eI a1,oA v'] (tT [bS R.1,iF R.2]):=by
 refine cx func185 Y<|aQ<|cg Y<|bU<|ck<|bI<|bc<|bX BB vH cz Y<|dA Y<|cn h Y (fun h=>?_) (fun h=>?_)
 ·refine aC ?_;refine nQ (ts:=[_,_,_,_,_,_,_]) mixed Y Y
   ⟨oq 2 Y Y (mW BA xb Y Y),
   ⟨dy 11 0 Y Y (mW fh dV Y Y),
   ⟨fm 1 nH Y Y,
   ⟨dy 13 2 Y Y (XN j6 Y),
   ⟨dy 14 3 Y Y (zei Y),
   ⟨Q6 Y (zai),
   ⟨dy 15 4 Y Y (Aj Y),
   Z⟩⟩⟩⟩⟩⟩⟩ ?_
  exact aw<|jm<|am<|so h▸dM Y Y Y
 ·refine iq<|aQ<|bX BA xb bR Y<|bj Y<|cC h abq (Qz _ _) (bN Y) fun r h=>bj Y<|bL Y Y<|bL Y Y<|iH Y<|aS Y<|bc<|bX BB vH cz Y<|bI<|an ?_;refine aQ<|dA Y<|aS Y<|px h Y (fun h=>?_) (fun h=>?_)
  ·exact aD Y<|dA Y<|bU<|bf Y<|cR<|so h▸dM Y Y Y
  ·refine aQ<|dA Y<|aS Y<|px h Y (fun h=>?_) (fun h=>?_)
   ·exact aD Y<|dA Y<|bj Y<|bk Y (fa Y)<|bk Y (qT Y)<|bk Y (F8 Y)<|AV Y Y Y Y (fun hg=>l0 Y)<|AV Y Y Y Y (fun hg=>mb (db Y hg) hI)<|bk Y (fun hg=>Dw (db Y hg) (fun H=>(db Y (G3 hg (Ea H)))))<|i9 Y<|bU<|bf Y<|cR<|so h▸dM Y Y Y
   ·refine j8 (ay:=fun x=>yc r x=some R) (Of:=fun x=>[]) (Gf:=fun x=>[(6,bS r.1),(7,bS r.2),(41,iF x)]) (fun x h=>?_) (fun K=>?_)
    ·skip;refine px h Y (fun h=>?_) (fun h=>?_)
     ·exact aD Y<|bj Y<|dA Y<|iH Y<|bf Y<|cR<|so h▸dM Y Y Y
     ·exact bO<|bt<|aw<|aQ<|bU<|ck<|cX<|so h▸dM Y Y Y
    ·skip;refine aQ<|dA Y<|aS Y<|px h Y (fun h=>?_) (fun h=>?_)
     ·refine bO ?_;exact cQ (K (a1.Tag==4) h) (bA Y)
     ·refine aG<|dA Y<|iH Y<|bD ?_;exact cQ (K (a1.Tag==5) h) (bA Y)
def ahO(b:Nat)(ix:OI) c n{R}(h:jW c n=some R):dZ aP 126 [tV (aE b 0),Q aq n] (gg b c ix) (fun _:OI=>tT [oA R.1,iF R.2]) (fun _=>(gg b c ix)):=by
 refine dZ.of func126 Y Y Y fun w0 S0=>?_;refine(show CG _ _ _ [bx (rH cd [(1,aY (ix.h 0).1 (ix.h 0).2 c.v'.length),(2,aY (ix.h 1).1 (ix.h 1).2 c.first.length)]) 131 b c,gh u8z 44 (ix.h 0).1 (ix.h 0).2 c.v',gh cM 3 (ix.h 1).1 (ix.h 1).2 c.first] _ from ?_);refine aQ<|cg Y<|kq cM<|ck<|bI<|aC<|cj h fun e i_ h=>?_;refine nQ (ts:=[_,_,_,_,_,_,_,_,_]) mixed Y Y
  ⟨eX Y Y,
  ⟨dy 15 0 Y Y (eK (J Y)),
  ⟨dy 16 1 Y Y (rP 1 qG Y Y Y),
  ⟨dy 17 2 Y Y (eS yK Y (.head _) (.tail _ (.head _)) (J Y)),
  ⟨oq 3 Y Y (mW k5 eE Y Y),
  ⟨fm 4 cz Y Y,
  ⟨dX 18 3 20 5 Y Y Y (bn An fS Y (kX (J Y)) (J Y) i_),
  ⟨fm 6 fS Y Y,
  ⟨dy 22 7 Y Y (Aj Y),
  Z⟩⟩⟩⟩⟩⟩⟩⟩⟩ ?_
 refine aw<|aQ<|bX uy nv fS Y<|ca iG Y<|T (sv (J Y) hI)<|bj Y<|bk Y (gU rz qz Y Y)<|bk Y (gK Cv Y Y)<|bk Y (vi wO Y)<|bk Y (fun hg=>sv (db Y hg) hI)<|i9 Y<|bj Y<|bk Y (gU uy nv Y Y)<|bk Y (gK fS Y Y)<|bk Y (vi iG Y)<|bk Y (gU rz qz Y Y)<|bk Y (gK Cv Y Y)<|bk Y (vi wO Y)<|bk Y (fun hg=>mC (db Y hg) (db Y hg))<|bk Y (fun hg=>oI (db Y hg) hI)<|i9 Y<|bj Y ?_;refine cj h fun t r_ h=>bk Y (gU uy nv Y Y)<|bk Y (gK fS Y Y)<|bk Y (fa Y) ?_;obtain⟨r,g_,s_⟩:=og r_;have F_:=fun H=>(g_ H).1;refine bk Y (fun hg=>bG akh (adQ _ _ (F_ hg)) ⟨(db Y hg),(db Y hg),Z⟩)<|T (ee (J Y) (fun H=>(db Y H)) (fun H=>(g_ H).2) s_)<|aS Y<|bc<|bj Y<|T (jj (J Y))<|cn h Y (fun h=>?_) (fun h=>?_)
 ·exact aQ<|kq cM<|ck<|cX<|am<|aH<|aH<|aH<|so h▸gI (ts:=[oA ([]),iF false]) (rvs:=[.tmp 4,.tmp 5]) Y Y ⟨aL Y,aL Y,Z⟩ tA Y Y
 ·refine iq<|aQ<|bJ false cM 3<|T (bu tK)<|bI<|bc<|bX uy nv fS Y<|ca iG Y<|T (bQ hI)<|bI<|an<|bm (k:=52) Y fun hN=>bM ?_;refine aI (kT (ay:=fun ls i out l c1=>(n.Q'.drop i=ls)/\jI n e t ls out=some R) (Of:=fun _ i out l c1=>[eV cM 3 l c1 out,bx (rH cd [(1,aY (ix.h 0).1 (ix.h 0).2 c.v'.length),(2,aY (ix.h 1).1 (ix.h 1).2 c.first.length)]) 131 b c,gh u8z 44 (ix.h 0).1 (ix.h 0).2 c.v',gh cM 3 (ix.h 1).1 (ix.h 1).2 c.first]) (Gf:=fun _ i out l c1=>[(3,bH aq n),(6,oA e),(7,iF t),(8,rr l c1 out),(52,oA n.Q'),(53,iQ n.Q'),(54,bS (i:Int))]) (fun i out l c1 h=>?_) (fun e1 tl ih i out l c1 h=>?_) n.Q' 0 Hj none 0 ⟨Y,h⟩) (bA Y)
  ·obtain⟨V,h⟩:=h;refine dq V Y<|aw<|bc<|bX rz qz Cv Y<|ca wO Y<|T (bQ hI)<|bI<|an<|bm (k:=67) Y fun hN1=>?_;refine bM ?_;refine aI (qe (ay:=fun ls1 i1 L' l1 c2 ok=>(n.M'.drop i1=ls1)/\iB e ls1 L' ok=some R) (Of:=fun _ i1 L' l1 c2 ok=>[eV cM 3 l1 c2 L',bx (rH cd [(1,aY (ix.h 0).1 (ix.h 0).2 c.v'.length),(2,aY (ix.h 1).1 (ix.h 1).2 c.first.length)]) 131 b c,gh u8z 44 (ix.h 0).1 (ix.h 0).2 c.v',gh cM 3 (ix.h 1).1 (ix.h 1).2 c.first]) (Gf:=fun _ i1 L' l1 c2 ok=>[(6,oA e),(7,iF ok),(8,rr l1 c2 L'),(67,cy (eI) n.M'),(68,iQ n.M'),(69,bS (i1:Int))]) (fun i1 L' l1 c2 ok h=>?_) (fun e2 tl1 ih1 i1 L' l1 c2 ok h=>?_) n.M' 0 out l c1 t ⟨Y,h⟩) (bA Y)
   ·obtain⟨Z',h⟩:=h;refine dq Z' Y<|aw<|aD Y<|bj Y<|iH Y<|bf Y<|mK<|dn 8 Y ?_;exact dn 88 Y<|dn 4 Y<|mL 4 Y<|aO<|aH<|aH<|aH<|so h▸gI (ts:=[oA L',iF ok]) (rvs:=[.tmp 4,.tmp 5]) Y Y ⟨aL Y,aL Y,Z⟩ tA Y Y
   ·obtain⟨Z',h⟩:=h;refine dp Z' Y<|aC<|an<|aQ<|d8 wO vo Y (de Z')<|ax vo Kv Y fun b1=>aW vo af Y<|aA 12 Y<|bI<|aQ<|bq vo Y ?_;refine bj Y<|cC h akg (adP _ _) (bN Y) fun r1 h=>bj Y<|bL Y Y<|bL Y Y<|iH Y<|aS Y<|aG<|bj Y<|bj Y<|T (aK (r:=cM) (ys:=[r1.1]) (xs:=[.tmp 80]) iG cz Y Y Y Y Y ⟨(J Y),Z⟩)<|cj h fun z_ C_ h=>cD cz Y Y Y Y iG Y Y (J Y) (J Y) C_ fun l2 c3=>bj Y<|bj Y<|bk Y (fa Y)<|i9 Y<|iH Y<|iH Y<|bD<|bt ?_;refine aw<|aG<|T (zin (Te Z' hN1) Y)<|bj Y<|bD ?_;exact bg (aI (ih1 (i1+1) z_ l2 c3 (ok&&r1.2) ⟨cJ Z',h⟩) (bA Y))
  ·obtain⟨V,h⟩:=h;refine dp V Y<|aC<|an<|aQ<|d8 iG cz Y (de V)<|aS Y<|aG<|bj Y<|bj Y<|bj Y<|cj h fun e3 e_ h=>?_;refine d8 iG cz Y e_<|T (aK (r:=cM) (ys:=[e3]) (xs:=[.tmp 62]) iG cz Y Y Y Y Y ⟨(J Y),Z⟩)<|cj h fun S_ q_out3 h=>cD cz Y Y Y Y iG Y Y (J Y) (J Y) q_out3 fun l3 c4=>iH Y<|bD<|cV V hN Y ?_;exact bg (aI (ih (i+1) S_ l3 c4 ⟨cJ V,h⟩) (bA Y))
def ahN(b:Nat)(ix:OI) c n{R}(h:i6 c n=some R):dZ aP 127 [tV (aE b 0),Q aq n] (gg b c ix) (fun _:OI=>tT [oA R.1,iF R.2]) (fun _=>(gg b c ix)):=by
 refine dZ.of func127 Y Y Y fun w0 S0=>?_;refine(show CG _ _ _ [bx (rH cd [(1,aY (ix.h 0).1 (ix.h 0).2 c.v'.length),(2,aY (ix.h 1).1 (ix.h 1).2 c.first.length)]) 131 b c,gh u8z 44 (ix.h 0).1 (ix.h 0).2 c.v',gh cM 3 (ix.h 1).1 (ix.h 1).2 c.first] _ from ?_);refine aQ<|cg Y<|kq cM<|ck<|bI<|aQ<|bX oK kD lT Y<|ca qp Y<|T (iZ (J Y) hI)<|bj Y<|bk Y (gU oK kD Y Y)<|bk Y (gK lT Y Y)<|bk Y (vi qp Y)<|bk Y (fun hg=>sv (db Y hg) hI)<|i9 Y<|aS Y<|aQ ?_;refine bJ false cM 3<|T (bu tK)<|bI<|bc<|bX oK kD lT Y<|ca qp Y<|T (bQ hI)<|bI<|an<|bm (k:=23) Y fun hN=>bM ?_;refine aI (qe (ay:=fun ls i out l c1 ok=>(n.I'.drop i=ls)/\iT c n ls out ok=some R) (Of:=fun _ i out l c1 ok=>[eV cM 3 l c1 out,bx (rH cd [(1,aY (ix.h 0).1 (ix.h 0).2 c.v'.length),(2,aY (ix.h 1).1 (ix.h 1).2 c.first.length)]) 131 b c,gh u8z 44 (ix.h 0).1 (ix.h 0).2 c.v',gh cM 3 (ix.h 1).1 (ix.h 1).2 c.first]) (Gf:=fun _ i out l c1 ok=>[(0,tV (aE b 0)),(3,bH aq n),(6,iF ok),(7,rr l c1 out),(23,cy (ap) n.I'),(24,iQ n.I'),(25,bS (i:Int))]) (fun i out l c1 ok h=>?_) (fun e tl ih i out l c1 ok h=>?_) n.I' 0 Hj none 0 ((decide (1<=(n.I'.length:Int)))&&(decide ((n.I'.length:Int)<=16))) ⟨Y,h⟩) (bA Y)
 ·obtain⟨V,h⟩:=h;refine dq V Y<|aw<|aD Y<|bj Y<|iH Y<|bf Y<|mK<|dn 7 Y ?_;exact dn 52 Y<|dn 4 Y<|mL 4 Y<|aO<|aH<|aH<|aH<|so h▸gI (ts:=[oA out,iF ok]) (rvs:=[.tmp 4,.tmp 5]) Y Y ⟨aL Y,aL Y,Z⟩ tA Y Y
 ·obtain⟨V,h⟩:=h;refine dp V Y<|aC<|an<|aQ<|d8 qp bR Y (de V)<|ax bR dQ Y fun b1=>aW bR af Y<|aA 9 Y<|bI<|aC<|cj h fun e1 Y' h=>cj h fun r h_ h=>?_;refine nQ (ts:=[_,_,_,_,_,_,_,_,_,_,_,_,_,_,_]) mixed Y Y
   ⟨oq 9 Y Y (np bR Y Y),
   ⟨eX Y Y,
   ⟨dy 31 1 Y Y (eK (J Y)),
   ⟨dy 32 2 Y Y (rP 1 qG Y Y Y),
   ⟨dy 33 3 Y Y (eS yK Y (.tail _ (.head _)) (.tail _ (.tail _ (.head _))) (J Y)),
   ⟨oq 3 Y Y (mW k5 eE Y Y),
   ⟨fm 5 cz Y Y,
   ⟨dX 34 4 36 6 Y Y Y (bn An fS Y (kX (J Y)) (J Y) Y'),
   ⟨fm 7 fS Y Y,
   ⟨dX 30 0 38 8 Y Y Y (bG abq (Qz _ _ h_) ⟨(J Y),(J Y),Z⟩),
   ⟨dy 39 9 Y Y (l0 Y),
   ⟨dy 29 10 Y Y (yi Y Y),
   ⟨dy 29 10 Y Y (yi Y Y),
   ⟨dy 40 11 Y Y (Aj Y),
   ⟨dy 41 12 Y Y (Aj Y),
   Z⟩⟩⟩⟩⟩⟩⟩⟩⟩⟩⟩⟩⟩⟩⟩ ?_
  refine aw<|aG<|bj Y<|bj Y<|T (aK (r:=cM) (ys:=[r.1]) (xs:=[.tmp 43]) iG cz Y Y Y Y Y ⟨(J Y),Z⟩)<|cj h fun L' l_ h=>cD cz Y Y Y Y iG Y Y (J Y) (J Y) l_ fun l1 c2=>bj Y<|bj Y<|bk Y (fa Y)<|bk Y (qT Y)<|i9 Y<|iH Y<|iH Y<|bD<|cV V hN Y ?_;exact bg (aI (ih (i+1) L' l1 c2 (ok&&(r.2==0)) ⟨cJ V,h⟩) (bA Y))
def ahM(b:Nat)(ix:OI) c n{R}(h:iC c n=some R):dZ aP 128 [tV (aE b 0),Q aq n] (gg b c ix) (fun _:OI=>tT [oA R.1,iF R.2]) (fun _=>(gg b c ix)):=by
 refine dZ.of func128 Y Y Y fun w0 S0=>?_;refine(show CG _ _ _ [bx (rH cd [(1,aY (ix.h 0).1 (ix.h 0).2 c.v'.length),(2,aY (ix.h 1).1 (ix.h 1).2 c.first.length)]) 131 b c,gh u8z 44 (ix.h 0).1 (ix.h 0).2 c.v',gh cM 3 (ix.h 1).1 (ix.h 1).2 c.first] _ from ?_);refine aQ<|cg Y<|kq cM<|ck<|bI<|aC<|cj h fun e i_ h=>?_;refine nQ (ts:=[_,_,_,_,_,_,_,_,_,_]) mixed Y Y
  ⟨eX Y Y,
  ⟨dy 6 0 Y Y (eK (J Y)),
  ⟨dy 7 1 Y Y (rP 1 qG Y Y Y),
  ⟨dy 8 2 Y Y (eS yK Y (.head _) (.tail _ (.head _)) (J Y)),
  ⟨oq 3 Y Y (mW k5 eE Y Y),
  ⟨fm 4 cz Y Y,
  ⟨dX 9 3 11 5 Y Y Y (bn An fS Y (kX (J Y)) (J Y) i_),
  ⟨fm 6 fS Y Y,
  ⟨dy 13 7 Y Y (Aj Y),
  ⟨Q6 Y (zab),
  Z⟩⟩⟩⟩⟩⟩⟩⟩⟩⟩ ?_
 exact aw<|jm<|aH<|aH<|aH<|so h▸gI (ts:=[oA e,iF true]) (rvs:=[.tmp 4,.tmp 5]) Y Y ⟨aL Y,aL Y,Z⟩ tA Y Y
def ahL(b:Nat)(ix:OI) c n{R}(h:jU c n=some R):dZ aP 129 [tV (aE b 0),Q aq n] (gg b c ix) (fun _:OI=>tT [oA R.1,iF R.2]) (fun _=>(gg b c ix)):=by
 refine dZ.of func129 Y Y Y fun w0 S0=>?_;refine(show CG _ _ _ [bx (rH cd [(1,aY (ix.h 0).1 (ix.h 0).2 c.v'.length),(2,aY (ix.h 1).1 (ix.h 1).2 c.first.length)]) 131 b c,gh u8z 44 (ix.h 0).1 (ix.h 0).2 c.v',gh cM 3 (ix.h 1).1 (ix.h 1).2 c.first] _ from ?_);refine aQ<|cg Y<|kq cM<|ck<|bI<|aC<|cj h fun e i_ h=>cj h fun e1 Y' h=>?_;refine nQ (ts:=[_,_,_,_,_,_,_,_,_,_,_,_,_,_,_,_,_,_]) mixed Y Y
  ⟨eX Y Y,
  ⟨dy 12 0 Y Y (eK (J Y)),
  ⟨dy 13 1 Y Y (rP 1 qG Y Y Y),
  ⟨dy 14 2 Y Y (eS yK Y (.head _) (.tail _ (.head _)) (J Y)),
  ⟨oq 3 Y Y (mW k5 eE Y Y),
  ⟨fm 4 cz Y Y,
  ⟨dX 15 3 17 5 Y Y Y (bn An fS Y (kX (J Y)) (J Y) i_),
  ⟨fm 6 fS Y Y,
  ⟨eX Y Y,
  ⟨dy 20 8 Y Y (eK (J Y)),
  ⟨dy 21 9 Y Y (rP 1 qG Y Y Y),
  ⟨dy 22 10 Y Y (eS yK Y (.head _) (.tail _ (.head _)) (J Y)),
  ⟨oq 3 Y Y (mW sH lC Y Y),
  ⟨fm 12 cz Y Y,
  ⟨dX 23 11 25 13 Y Y Y (bn An fS Y (kX (J Y)) (J Y) Y'),
  ⟨fm 14 fS Y Y,
  ⟨dy 19 7 Y Y (Aj Y),
  ⟨dy 27 15 Y Y (Aj Y),
  Z⟩⟩⟩⟩⟩⟩⟩⟩⟩⟩⟩⟩⟩⟩⟩⟩⟩⟩ ?_
 refine aw<|bc<|bj Y<|ca iG Y<|bj Y<|ca iG Y<|T (iO (J Y) (J Y))<|cn h Y (fun h=>?_) (fun h=>?_)
 ·exact aQ<|kq cM<|ck<|cX<|am<|aH<|aH<|aH<|so h▸gI (ts:=[oA ([]),iF false]) (rvs:=[.tmp 4,.tmp 5]) Y Y ⟨aL Y,aL Y,Z⟩ tA Y Y
 ·refine iq<|aD Y<|pz h abl (Qv _) (bN Y) fun r h l c1=>aS Y<|aQ<|ck<|bI<|bc<|bj Y<|ca iG Y<|T (bQ hI)<|bI<|an ?_;refine bm (k:=35) Y fun hN=>bM ?_;refine aI (xn (ay:=fun ls i out ok=>(e1.drop i=ls)/\ft ls i out ok=some R) (Of:=fun _ i out ok=>[eV cM 3 l c1 out,bx (rH cd [(1,aY (ix.h 0).1 (ix.h 0).2 c.v'.length),(2,aY (ix.h 1).1 (ix.h 1).2 c.first.length)]) 131 b c,gh u8z 44 (ix.h 0).1 (ix.h 0).2 c.v',gh cM 3 (ix.h 1).1 (ix.h 1).2 c.first]) (Gf:=fun _ i out ok=>[(8,rr l c1 out),(9,iF ok),(35,oA e1),(36,iQ e1),(37,bS (i:Int))]) (fun i out ok h=>?_) (fun e2 tl ih i out ok h=>?_) e1 0 r true ⟨Y,h⟩) (bA Y)
  ·obtain⟨V,h⟩:=h;refine dq V Y<|aw<|aD Y<|bj Y<|iH Y<|bf Y<|mK<|dn 8 Y ?_;exact dn 65 Y<|dn 4 Y<|mL 4 Y<|aO<|aH<|aH<|aH<|so h▸gI (ts:=[oA out,iF ok]) (rvs:=[.tmp 4,.tmp 5]) Y Y ⟨aL Y,aL Y,Z⟩ tA Y Y
  ·obtain⟨V,h⟩:=h;refine dp V Y<|aC<|an<|aD Y<|d8 iG cz Y (de V)<|iH Y<|aS Y ?_;refine j8 (ay:=fun L'=>lz (ft tl) i e2 ok L'=some R) (Of:=fun L'=>[eV cM 3 l c1 L',bx (rH cd [(1,aY (ix.h 0).1 (ix.h 0).2 c.v'.length),(2,aY (ix.h 1).1 (ix.h 1).2 c.first.length)]) 131 b c,gh u8z 44 (ix.h 0).1 (ix.h 0).2 c.v',gh cM 3 (ix.h 1).1 (ix.h 1).2 c.first]) (Gf:=fun L'=>[(8,rr l c1 L'),(9,iF ok),(10,bS (i:Int)),(11,bS e2),(35,oA e1),(36,iQ e1),(37,bS (i:Int))]) (fun L' h=>?_) (fun K=>?_)
   ·skip;refine aG<|bj Y<|bj Y<|cj h fun t r_ h=>bk Y (fa Y)<|bk Y (fa Y) ?_;obtain⟨e3,g_,s_⟩:=og r_;have P_:=fun H=>(g_ H).1;refine bk Y (fun hg=>ce iG cz (.head _) (db Y hg) (db Y hg) (P_ hg))<|bk Y (fun hg=>dj (r:=cM) (i:=(i:Int)) (foff:=0) cz Y Y bT Y (.head _) (P_ hg) (db Y hg))<|bk Y (fa Y)<|bk Y (fun hg=>mb (db Y hg) (db Y hg))<|bk Y (F8 Y)<|AV Y Y Y Y (fun hg=>l0 Y)<|AV Y Y Y Y (fun hg=>mb (db Y hg) hI)<|bk Y (fun hg=>Dw (db Y hg) (fun H=>(db Y (G3 hg (Ea H)))))<|T (ee (J Y) (fun H=>(db Y H)) (fun H=>(g_ H).2) s_)<|iH Y<|bD<|cV V hN Y ?_;exact bg (aI (ih (i+1) L' t ⟨cJ V,h⟩) (bA Y))
   ·skip;refine aD Y<|bj Y<|cj h fun e4 A_ h=>T (ce iG cz (.head _) (J Y) (J Y) A_)<|T (dj (r:=cM) (i:=(i:Int)) (foff:=0) cz Y Y bT Y (.head _) A_ (J Y))<|dA Y<|cn h Y (fun h=>?_) (fun h=>?_)
    ·refine aG<|bj Y<|bj Y<|bj Y<|T (ce iG cz (.head _) (J Y) (J Y) A_)<|cj h fun st c_ h=>nm cz Y af Y A_ (so c_) (J Y) (J Y)<|fR (eT (so c_)) 8 Y<|fR (eT (so c_)) 42 Y<|fR (eT (so c_)) 47 Y<|bD ?_;exact cQ (K st h) (bA Y)
    ·refine bO ?_;exact cQ (K out h) (bA Y)
def adO in1 o{R}(h:oP in1 o=some R):bZ aP 187 [Q fM o,bH u8z in1] (iF R):=by
 exact cx func187 Y<|aQ<|cg Y<|ck<|bI<|aQ<|bX Qr C1 cz Y<|T (jk (J Y) hI)<|bj Y<|co Y (gU Qr C1 Y Y)<|co Y (gK cz Y Y)<|co Y (fun hg=>np fS Y Y)<|co Y (vi iG Y)<|co Y (fun hg=>iZ (db Y hg) (db Y hg))<|py Y<|bf Y<|so h▸aM Y Y
def adf s f{R}(h:ln s f=some R):bZ aP 244 [cy (fM) s,(eD aP Ze nG (fun(x:kU)=>f x))] (bS R):=by
 refine cx func244 Y<|aQ<|bU<|bI<|bc<|bj Y<|ca A6 Y<|T (bQ hI)<|bI<|an<|bm (k:=6) Y fun hN=>bM ?_;refine aI (gG (ay:=fun ls i=>(s.drop i=ls)/\fC f ls i=some R) (Of:=fun _ i=>[]) (Gf:=fun _ i=>[(0,cy (fM) s),(1,(eD aP Ze nG (fun(x:kU)=>f x))),(7,iQ s),(8,bS (i:Int))]) (fun i h=>?_) (fun e tl ih i h=>?_) s 0 ⟨Y,h⟩) (bA Y)
 ·obtain⟨V,h⟩:=h;exact dq V Y<|aw<|aQ<|dd<|so h▸aM Y Y
 ·obtain⟨V,h⟩:=h;refine dp V Y<|aC<|an<|aD Y<|aS Y<|aD Y<|bj Y<|bj Y<|F7 A6 Gd Y (de V) ?_;refine bq Gd Y<|cj h fun r h_ h=>T (hZ (args:=Ze) (res:=F4) (f:=(fun(x:kU)=>f x)) (x:=((e):kU)) (J Y) h_ ⟨(J Y),Z⟩)<|cn h Y (fun h=>?_) (fun h=>?_)
  ·exact aD Y<|bf Y<|cR<|am<|cR<|so h▸aM Y Y
  ·refine bO<|cV V hN Y ?_;exact bg (aI (ih (i+1) ⟨cJ V,h⟩) (bA Y))
