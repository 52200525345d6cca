import Derived.Test.YtaehdhmbgmbgiaaGreatDoorKkT
import Derived.Test.YtaehdhmbgmbgiaaGreatDoorKkF
set_option linter.all false
namespace Go.Proofs.YtaehdhmbgmbgiaaGreatDoor
open Go IntKind Tryz
abbrev agj:=fun(mc:aV) (mx:ai)=>(jr mc mx).map fun mr=>(mr,mc)
abbrev agi:=fun(mc:aV) (mx:ai)=>(kC mc mx).map fun mr=>(mr,mc)
abbrev agn:=fun(mc:aV) (mx:ai)=>(js mc mx).map fun mr=>(mr,mc)
abbrev agk:=fun(mc:aV) (mx:ai)=>(jW mc mx).map fun mr=>(mr,mc)
abbrev ago:=fun(mc:aV) (mx:ai)=>(i6 mc mx).map fun mr=>(mr,mc)
abbrev agp:=fun(mc:aV) (mx:ai)=>(iC mc mx).map fun mr=>(mr,mc)
abbrev agm:=fun(mc:aV) (mx:ai)=>(jU mc mx).map fun mr=>(mr,mc)
abbrev agl:=fun(mc:aV) (mx:ai)=>(jV mc mx).map fun mr=>(mr,mc)
abbrev zk0:=dO (dO (dO (dO (dO (dO (dO (dO ([]:List (Int×(aV->ai->Option (((List Int)×Bool)×aV)))) 1 agj) 2 agi) 3 agn) 4 agk) 5 ago) 6 agp) 7 agm) 8 agl
abbrev aga:=fun(mc:fO) (mx:ai)=>(oZ mc mx).map fun mr=>(mr,mc)
abbrev af9:=fun(mc:fO) (mx:ai)=>(nw mc mx).map fun mr=>(mr,mc)
abbrev age:=fun(mc:fO) (mx:ai)=>(nk mc mx).map fun mr=>(mr,mc)
abbrev agb:=fun(mc:fO) (mx:ai)=>(mH mc mx).map fun mr=>(mr,mc)
abbrev agf:=fun(mc:fO) (mx:ai)=>(mG mc mx).map fun mr=>(mr,mc)
abbrev agh:=fun(mc:fO) (mx:ai)=>(lQ mc mx).map fun mr=>(mr,mc)
abbrev agd:=fun(mc:fO) (mx:ai)=>(ov mc mx).map fun mr=>(mr,mc)
abbrev agc:=fun(mc:fO) (mx:ai)=>(ow mc mx).map fun mr=>(mr,mc)
abbrev zk1:=dO (dO (dO (dO (dO (dO (dO (dO ([]:List (Int×(fO->ai->Option (((List (List ac))×Int)×fO)))) 1 aga) 2 af9) 3 age) 4 agb) 5 agf) 6 agh) 7 agd) 8 agc
abbrev d6:=gM ah
abbrev u7:=fun(x:ac×ac)=>[Q ah x.1,Q ah x.2]
abbrev yG:=fun(x:ac×Int)=>tT [Q ah x.1,bS x.2]
abbrev He:=(⟨⟨[]⟩,⟨0,0,0,0,[],false,⟨[]⟩,[],[],[],[],0⟩,[]⟩:aB)
abbrev cM:=rI .i64
abbrev Kw:=fun(x:(List ac)×(List ac))=>[cy (ah) x.1,cy (ah) x.2]
abbrev wQ:=fun(x:ai)=>[Q aq x]
abbrev Iz:=fun(x:(List Int)×Bool)=>tT [oA x.1,iF x.2]
abbrev nG:=fun(x:Bool)=>iF x
abbrev tB:=(⟨[]⟩:au)
abbrev Pu:=(⟨0,0,0,0,[],false,tB,[],[],[],[],0⟩:ai)
abbrev xw:=fun(x:(List (List ac))×Int)=>tT [cy (d6) x.1,bS x.2]
abbrev tL:=(⟨0,0,0,[]⟩:ac)
abbrev F6:=fun(x:ac×Int)=>tT [Q ah x.1,Q cM x.2]
abbrev Hl:=fun(x:aB×Int)=>tT [Q aN x.1,bS x.2]
abbrev Hk:=fun(x:aB×Bool)=>[Q aN x.1,iF x.2]
abbrev fG:=gM d6
abbrev F5:=fun(x:ac)=>[Q ah x]
abbrev XP:=(⟨1,(-1),(-1),1,[2],false,⟨[]⟩,[],[],[],[],0⟩:ai)
abbrev XO:=(⟨1,(-1),(-1),0,[2],false,⟨[]⟩,[],[],[],[],0⟩:ai)
abbrev zq:=(⟨[]⟩:aZ)
abbrev D3:=fun(x:Int)=>bS x
abbrev F4:=fun(x:Bool)=>Q rB x
abbrev qh:=kvI .i64
abbrev EV:=gM ap
abbrev ab6:=fun(x:av×(List au))=>[Q aJ x.1,Q EV x.2]
abbrev Kx:=([]:List (List ac))
abbrev ab5:=fun(x:av×(List ac))=>[Q aJ x.1,cy (ah) x.2]
abbrev ab4:=fun(x:av×(List au))=>[Q aJ x.1,cy (ap) x.2]
abbrev ab3:=fun(x:(List ac)×(List ac))=>[Q d6 x.1,Q d6 x.2]
abbrev EW:=([]:List au)
abbrev ab2:=fun(x:av×(List ac))=>[Q aJ x.1,Q d6 x.2]
abbrev ab1:=fun(x:av×(List Int))=>[Q aJ x.1,oA x.2]
abbrev ab0:=fun(x:au×Int)=>tT [Q ap x.1,Q cM x.2]
abbrev abZ:=fun(x:jx×jx)=>[Q eI x.1,Q eI x.2]
abbrev Rr:=fun(x:Int)=>[bS x]
abbrev abY:=fun(x:au×Int)=>tT [Q ap x.1,bS x.2]
abbrev Hj:=([]:List Int)
abbrev Bc:=gM cM
abbrev af8:=fun(x:av×(List Int))=>[Q aJ x.1,Q Bc x.2]
abbrev Nj:=([]:List ac)
abbrev abX:=fun(x:Int×Int)=>tT [bS x.1,bS x.2]
abbrev af7:=fun(x:ai×ai)=>[Q aq x.1,Q aq x.2]
abbrev Pt:=([]:List av)
abbrev Ze:=fun(x:kU)=>[Q fM x]
abbrev af6:=fun(x:au×au)=>[Q ap x.1,Q ap x.2]
abbrev abW:=fun(x:av)=>[Q aJ x]
abbrev af5:=fun(x:Int×Int)=>tT [Q cM x.1,Q cM x.2]
abbrev Ni:=gM aq
abbrev Rq:=([]:List aB)
abbrev abV:=fun(x:au)=>[Q ap x]
abbrev Nh:=gM aN
abbrev TU:=(⟨[]⟩:da)
abbrev af4:=(⟨16,0,0,0,⟨0,0,0,[]⟩⟩:av)
abbrev Jr:=(-1)
abbrev abS:=([]:List ai)
abbrev af3:=aY none 0 (abS.length)
abbrev Ps:=tE cM 2
abbrev abU:=fun(x:Int)=>Q cM x
abbrev af2:=([]:List (List (List ac)))
abbrev af1:=CO (fun y:Bool=>iF y)
abbrev Pr:=rI .u64
abbrev Zd:=tE EV 3
abbrev abT:=([]:List jx)
set_option maxRecDepth 100000
def adK s f{R}(h:ph s f=some R):bZ aP 190 [oA s,(eD aP Rr nG (fun(x:Int)=>f x))] (bS R):=by
 refine cx func190 Y<|aQ<|bU<|bI<|bc<|bj Y<|ca iG Y<|T (bQ hI)<|bI<|an<|bm (k:=6) Y fun hN=>bM ?_;refine aI (gG (ay:=fun ls i=>(s.drop i=ls)/\jd f ls i=some R) (Of:=fun _ i=>[]) (Gf:=fun _ i=>[(0,oA s),(1,(eD aP Rr nG (fun(x:Int)=>f x))),(7,iQ s),(8,bS (i:Int))]) (fun i h=>?_) (fun e tl ih i h=>?_) s 0 ⟨Y,h⟩) (bA Y)
 ·obtain⟨V,h⟩:=h;exact dq V Y<|aw<|aQ<|dd<|so h▸aM Y Y
 ·obtain⟨V,h⟩:=h;refine dp V Y<|aC<|an<|aD Y<|aS Y<|aD Y<|bj Y<|bj Y<|F7 iG cz Y (de V) ?_;refine bq cz Y<|cj h fun r h_ h=>T (hZ (args:=(fun(x:Int)=>[Q cM x])) (res:=F4) (f:=(fun(x:Int)=>f x)) (x:=((e):Int)) (J Y) h_ ⟨(J Y),Z⟩)<|cn h Y (fun h=>?_) (fun h=>?_)
  ·exact aD Y<|bf Y<|cR<|am<|cR<|so h▸aM Y Y
  ·refine bO<|cV V hN Y ?_;exact bg (aI (ih (i+1) ⟨cJ V,h⟩) (bA Y))
def Kc s f{R}(h:dL s f=some R):bZ aP 137 [oA s,(eD aP Rr nG (fun(x:Int)=>f x))] (iF R):=by
 exact cx func137 Y<|aQ<|ck<|bI<|aD Y<|bj Y<|cC h akc (adK _ _) (bN Y) fun r h=>T (iZ (J Y) hI)<|bf Y<|so h▸aM Y Y
def adS k{R}(h:IR k=some R):bZ aP 181 [bS k] (iF R):=by
 exact cx func181 Y<|aQ<|ck<|bI<|aD Y<|dA Y<|bj Y<|co Y (fa Y)<|co Y (qT Y)<|py Y<|bj Y<|co Y (fa Y)<|co Y (qT Y)<|py Y<|bf Y<|so h▸aM Y Y
def adT k{R}(h:m6 k=some R):bZ aP 180 [bS k] (iF R):=by
 exact cx func180 Y<|aQ<|ck<|bI<|aD Y<|cC h akj (adS _) (bN Y) fun r h=>T (jj (J Y))<|bf Y<|so h▸aM Y Y
def ahR(b:Nat)(ix:OI) c n{R}(h:jr c n=some R):dZ aP 123 [tV (aE b 0),Q aq n] (gg b c ix) (fun _:OI=>tT [oA R.1,iF R.2]) (fun _=>(gg b c ix)):=by
 refine dZ.of func123 Y Y Y fun w0 S0=>?_;refine(show CG _ _ _ [bx (rH cd [(1,aY (ix.h 0).1 (ix.h 0).2 c.v'.length),(2,aY (ix.h 1).1 (ix.h 1).2 c.first.length)]) 131 b c,gh u8z 44 (ix.h 0).1 (ix.h 0).2 c.v',gh cM 3 (ix.h 1).1 (ix.h 1).2 c.first] _ from ?_);refine aQ<|cg Y<|kq cM<|ck<|bI<|aQ<|T (bu (show be _ _ _ ((eD aP Rr nG (fun(x:Int)=>m6 x)))from(A3 akk fun x y h=>adT _ h)))<|bI<|aQ<|bX BC sF cz Y<|T (iZ (J Y) hI)<|bj Y<|bk Y (gU BC sF Y Y)<|bk Y (gK cz Y Y)<|bk Y (fun hg=>jk (db Y hg) hI)<|i9 Y<|bj Y<|bk Y (gU uz pm Y Y) ?_;refine bk Y (gK fS Y Y)<|bk Y (vi iG Y)<|bk Y (fun hg=>iZ (db Y hg) hI)<|i9 Y<|bj Y<|bk Y (gU uz pm Y Y)<|bk Y (gK fS Y Y)<|bk Y (vi iG Y)<|bk Y (fun hg=>sv (db Y hg) hI)<|i9 Y<|aS Y<|aC<|cj h fun t r_ h=>?_;obtain⟨r,g_,s_⟩:=og r_;have F_:=fun H=>(g_ H).1;refine nQ (ts:=[_,_,_,_,_,_,_,_,_,_,_,_]) mixed Y Y
  ⟨oq 3 Y Y (mW uz pm Y Y),
  ⟨fm 0 fS Y Y,
  ⟨eX Y Y,
  ⟨dy 30 2 Y Y (l0 Y),
  ⟨ui 3 31 3 Y Y Y (cP Y Y Y Y (fun hg=>mW uz pm Y Y)),
  ⟨jN 32 4 31 3 Y Y Y (cP Y Y Y Y (fun hg=>gO fS Y Y (db Y hg))),
  ⟨ui 6 31 3 Y Y Y (cP Y Y Y Y (fun hg=>l0 Y)),
  ⟨zu 33 5 34 6 31 3 Y Y Y Y (cP Y Y Y Y (fun hg=>bG Xf (Kc _ _ (F_ hg)) ⟨(db Y hg),(db Y hg),Z⟩)),
  ⟨jN 35 7 31 3 Y Y Y (cP Y Y Y Y (fun hg=>jj (db Y hg))),
  ⟨dX 31 3 36 8 Y Y Y (ee (J Y) (fun H=>(db Y H)) (fun H=>(g_ H).2) s_),
  ⟨dy 29 1 Y Y (Aj Y),
  ⟨dy 37 9 Y Y (Aj Y),
  Z⟩⟩⟩⟩⟩⟩⟩⟩⟩⟩⟩⟩ ?_
 exact aw<|jm<|aH<|aH<|aH<|so h▸gI (ts:=[oA n.P',iF t]) (rvs:=[.tmp 4,.tmp 5]) Y Y ⟨aL Y,aL Y,Z⟩ tA Y Y
def aaP n{R}(h:pE n=some R):fE aP 240 [tV (.slice none 0 0),bS n] false cM 3 R:=by
 refine fE.of func240 Y Y Y fun w0 S0=>aQ<|bJ false cM 3<|T (bu tK)<|bI ?_;refine A1 (ay:=qt n=some R) (Of:=[]) (Gf:=[(0,tV (.slice none 0 0)),(1,bS n)]) (fun h=>?_) (fun K=>?_)
 ·skip;refine DW (ay:=fun s l c=>qr s=some R) (Of:=fun s l c=>[eV cM 3 l c s]) (Gf:=fun s l c=>[(0,rr l c s)]) (fun s l c h=>?_) (fun K1=>?_)
  ·skip;exact aD Y<|bf Y<|so h▸fP Y Y
  ·skip;refine aD Y<|bj Y<|T (yr iG (J Y))<|bj Y<|T (yq iG (J Y))<|T (fq (J Y) (J Y))<|T (fq (J Y) (J Y))<|aS Y<|aD Y<|T (oI (J Y) hI)<|cn h Y (fun h=>?_) (fun h=>?_)
   ·refine aG<|bj Y<|bj Y<|T (yr iG (J Y))<|T (CL iG cz (J Y) (J Y))<|bj Y<|cj h fun u q_u h=>cj h fun mk T_ h=>FD (C5 (r:=cM) (x:=0) cz Y Y Y Y iG me (fun _=>Y) (J Y) (J Y) (L0 q_u) T_) Y fun i=>bj Y<|T (yq iG (J Y))<|cj h fun y j_ h=>T (m4 iG cz Y (.head _) (J Y) (J Y) j_)<|zh j_<|iH Y<|bD ?_;exact cQ (K1 y (i.h 0).1 (i.h 0).2 h) (bA Y)
   ·refine bO<|M0 false cM 3 ?_;exact cQ (K1 Hj none 0 h) (bA Y)
 ·skip;refine aD Y<|T (jk (J Y) hI)<|cn h Y (fun h=>?_) (fun h=>?_)
  ·refine aG ?_;exact(nn h).elim
  ·refine bO<|aO ?_;exact cQ (K h) (bA Y)
def aaQ slices{R}(h:mh slices=some R):fE aP 182 [cy (u8z) slices] false cM 3 R:=by
 refine fE.of func182 Y Y Y fun w0 S0=>aQ<|bJ false cM 3<|T (bu tK)<|bI<|aQ<|bU<|bI<|bc<|bj Y<|ca An Y<|T (bQ hI)<|bI<|an<|bm (k:=9) Y fun hN=>bM<|pI ?_;refine aI (jP (ay:=fun ls i size=>(slices.drop i=ls)/\mP slices ls size=some R) (Of:=fun _ i size=>[]) (Gf:=fun _ i size=>[(0,cy (u8z) slices),(3,bS size),(9,cy (u8z) slices),(10,iQ slices),(11,bS (i:Int))]) (fun i size h=>?_) (fun e tl ih i size h=>?_) slices 0 0 ⟨Y,h⟩) (bA Y)
 ·obtain⟨V,h⟩:=h;refine dq V Y<|aw<|aD Y<|pz h ajO (aaP _) ⟨hV,(J Y),Z⟩ fun r h l c=>aS Y<|bc ?_;refine bj Y<|ca An Y<|T (bQ hI)<|bI<|an<|bm (k:=25) Y fun hN1=>bM ?_;refine aI (kT (ay:=fun ls1 i1 V' l1 c1=>(slices.drop i1=ls1)/\mO ls1 V'=some R) (Of:=fun _ i1 V' l1 c1=>[eV cM 3 l1 c1 V']) (Gf:=fun _ i1 V' l1 c1=>[(6,rr l1 c1 V'),(25,cy (u8z) slices),(26,iQ slices),(27,bS (i1:Int))]) (fun i1 V' l1 c1 h=>?_) (fun e1 tl1 ih1 i1 V' l1 c1 h=>?_) slices 0 r l c ⟨Y,h⟩) (bA Y)
  ·obtain⟨Z',h⟩:=h;exact dq Z' Y<|aw<|aD Y<|bf Y<|so h▸fP Y Y
  ·obtain⟨Z',h⟩:=h;refine dp Z' Y<|aC<|an<|aQ<|d8 An fS Y (de Z')<|aS Y<|aG<|bj Y<|bj Y<|cj h fun f_ n_ h=>cD cz Y Y Y Y iG Y Y (J Y) (J Y) n_ fun l2 c2=>?_;refine iH Y<|bD<|cV Z' hN1 Y ?_;exact bg (aI (ih1 (i1+1) f_ l2 c2 ⟨cJ Z',h⟩) (bA Y))
 ·obtain⟨V,h⟩:=h;refine dp V Y<|aC<|an<|aQ<|d8 An fS Y (de V)<|aS Y<|aD Y<|bj Y<|ca iG Y ?_;refine T (mC (J Y) (J Y))<|aS Y<|aD Y<|T (jk (J Y) hI)<|cn h Y (fun h=>?_) (fun h=>?_)
  ·refine aG ?_;exact(nn h).elim
  ·refine bO<|cV V hN Y ?_;exact bg (aI (ih (i+1) (i64.wrap (size+(e.length:Int))) ⟨cJ V,h⟩) (bA Y))
def adR slices{R}(h:mh slices=some R):bZ aP 182 [cy (u8z) slices] (oA R):=(aaQ _ h).spec
def DG tag{R}(h:sI tag=some R):bZ aP 166 [bS tag] (bS R):=by
 refine cx func166 Y<|aQ<|bU<|bI<|aC<|an<|aD Y<|dA Y<|bj Y<|co Y (fa Y)<|co Y (qT Y)<|py Y<|aS Y<|px h Y (fun h=>?_) (fun h=>?_)
 ·exact aQ<|dd<|cR<|so h▸aM Y Y
 ·refine aD Y<|T (iZ (J Y) hI)<|bj Y<|bk Y (fa Y)<|bk Y (fun hg=>sv (db Y hg) hI)<|i9 Y<|aS Y<|px h Y (fun h=>?_) (fun h=>?_)
  ·exact aQ<|dd<|cR<|so h▸aM Y Y
  ·refine aD Y<|T (iZ (J Y) hI)<|bj Y<|bk Y (fa Y)<|bk Y (fun hg=>sv (db Y hg) hI)<|i9 Y<|aS Y<|px h Y (fun h=>?_) (fun h=>?_)
   ·exact aQ<|dd<|cR<|so h▸aM Y Y
   ·exact bO<|bt<|aw<|aQ<|dd<|so h▸aM Y Y
def aei v{R}(h:Ct v=some R):bZ aP 134 [Q ah v] (Q ah R):=by
 refine cx func134 Y<|aQ<|wL (J Y) Y fun b=>ax aT bK Y fun b1=>bI<|bc<|cL 0 kZ Y<|T (bP cz Y Y eg (.tail _ (.head _)) (J Y))<|bI ?_;refine Pk (ay:=fun v1=>oB v1=some R) (Of:=fun v1=>[bx ah 72 b v1,bx ah 72 b1 tL]) (Gf:=fun v1=>[(1,tV (aE b 0)),(2,tV (aE b1 0))]) (fun v1 h=>?_) (fun K=>?_)
 ·skip;exact aw<|aQ<|T (bP aT Y Y bT (.head _) (J Y))<|bo<|aW aT af Y<|aA 2 Y<|cX<|aO<|so h▸iM Y aT Y Y Y
 ·skip;refine aC<|an<|aC<|an<|aC ?_;refine Pk (ay:=fun v2=>vl v2=some R) (Of:=fun v2=>[bx ah 72 b v2,bx ah 72 b1 tL]) (Gf:=fun v2=>[(1,tV (aE b 0)),(2,tV (aE b1 0))]) (fun v2 h=>?_) (fun K1=>?_)
  ·skip;refine aw<|aQ<|cL 0 kZ Y<|dc cz Y sd Y (J Y) hI<|bI<|ji<|cT Y<|bh<|cT Y<|bh<|d5 ?_;exact cQ (K (ac.mk 0 v2.N v2.U v2.S) h) (bA Y)
  ·skip;refine aC ?_;refine Y6 (ay:=vk v=some R) (Of:=[bx ah 72 b v,bx ah 72 b1 tL]) (Gf:=[(1,tV (aE b 0)),(2,tV (aE b1 0))]) (fun h=>?_) (fun K2=>?_)
   ·skip;refine aw<|aG<|cL 1 ru Y<|dc PC Y ul Y (J Y) hI<|bD<|bt ?_;exact cQ (K1 (ac.mk v.Kind 0 v.U v.S) h) (bA Y)
   ·skip;refine aC<|an<|aC<|bc<|dA Y<|aS Y<|px h Y (fun h=>?_) (fun h=>?_)
    ·refine ji<|bh<|bh<|d5<|aw<|aQ<|cL 1 ru Y<|T (bP PC Y Y jX (.tail _ (.head _)) (J Y))<|gw Y<|bj Y<|bk Y (fun hg=>rP 1 ru Y Y Y)<|bk Y (fun hg=>bP PC Y Y jX (.tail _ (.head _)) (db Y hg))<|bk Y (Et Y)<|i9 Y<|cn h Y (fun h=>?_) (fun h=>?_)
     ·refine ji<|cT Y<|bh<|cT Y<|bh<|cT Y<|bh<|cT Y<|bh<|d5<|bv ?_;exact cQ (K v h) (bA Y)
     ·refine bO<|bt<|bv ?_;exact cQ (K2 h) (bA Y)
    ·refine iq<|bc<|dA Y<|aS Y<|px h Y (fun h=>?_) (fun h=>?_)
     ·refine ji<|bh<|bh<|cT Y<|bh<|d5<|bv ?_;exact cQ (K2 h) (bA Y)
     ·refine iq<|bc<|dA Y<|aS Y<|px h Y (fun h=>?_) (fun h=>?_)
      ·refine ji<|bh<|bh<|cT Y<|bh<|cT Y<|bh<|d5<|bv ?_;exact cQ (K1 v h) (bA Y)
      ·refine iq<|bc<|dA Y<|aS Y<|px h Y (fun h=>?_) (fun h=>?_)
       ·refine ji<|bh<|bh<|cT Y<|bh<|cT Y<|bh<|cT Y<|bh<|d5<|aw ?_;refine j8 (ay:=fun v3=>vj v3=some R) (Of:=fun v3=>[bx ah 72 b v3,bx ah 72 b1 tL]) (Gf:=fun v3=>[(1,tV (aE b 0)),(2,tV (aE b1 0))]) (fun v3 h=>?_) (fun K3=>?_)
        ·skip;refine ji<|cT Y<|bh<|d5 ?_;exact cQ (K v3 h) (bA Y)
        ·skip;refine aQ<|cL 3 Ah Y<|T (bP XU Y Y pj (.tail _ (.head _)) (J Y))<|T (PV Eo (J Y))<|T (sv (J Y) hI)<|cn h Y (fun h=>?_) (fun h=>?_)
         ·refine aG<|cL 0 kZ Y<|bo<|dc cz Y sd Y (J Y) hI<|cL 3 Ah Y<|dc XU Y Fb Y (J Y) hS<|bD ?_;exact cQ (K3 (ac.mk 0 v.N v.U ([])) h) (bA Y)
         ·refine bO<|bv ?_;exact cQ (K3 v h) (bA Y)
       ·refine iq<|aQ<|dA Y<|aS Y<|px h Y (fun h=>?_) (fun h=>?_)
        ·refine ji<|bh<|cT Y<|bh<|cT Y<|bh<|cT Y<|bh<|cT Y<|bh<|d5<|aw<|aQ<|cL 0 kZ Y<|bo<|dc cz Y sd Y (J Y) hI<|cL 1 ru Y<|dc PC Y ul Y (J Y) hI<|cL 2 HT Y<|dc T7 Y Fc Y (J Y) hI<|bI<|ji ?_;refine d5 ?_;exact cQ (K (ac.mk 0 0 0 v.S) h) (bA Y)
        ·refine iq<|ji<|cT Y<|bh<|cT Y<|bh<|cT Y<|bh<|cT Y<|bh<|cT Y<|bh<|d5<|bv ?_;exact cQ (K v h) (bA Y)
def Mm v{R}(h:o3 v=some R):bZ aP 78 [Q ah v] (bS R):=by
 refine cx func78 Y<|aQ<|cg Y<|bU<|bI<|bc<|bq aT Y<|cC h akL (aei _) (bN Y) fun r h=>T (bW aT wu bK Y)<|T (Dx Vb (J Y) (J Y))<|cn h Y (fun h=>?_) (fun h=>?_)
 ·exact aQ<|dd<|am<|so h▸aM Y Y
 ·exact iq<|aQ<|dd<|so h▸aM Y Y
def Kf v{R}(h:qi v=some R):bZ aP 102 [Q ah v] (iF R):=by
 exact cx func102 Y<|aQ<|cg Y<|ck<|bI<|aQ<|bq aT Y<|cC h abk (Mm _) (bN Y) fun r h=>dA Y<|bj Y<|bk Y (gU kZ eg Y Y)<|bk Y (gK cz Y Y)<|bk Y (Et Y)<|i9 Y<|bf Y<|so h▸aM Y Y
def adG n{R}(h:zM n=some R):bZ aP 205 [Q aJ n] (iF R):=by
 refine cx func205 Y<|aQ<|cg Y<|ck<|bI<|bc<|bX lE fy cz Y<|bI<|an<|aQ<|dA Y<|aS Y<|px h Y (fun h=>?_) (fun h=>?_)
 ·exact aQ<|bX BE pn aT Y<|cC h Xh (Kf _) (bN Y) fun r h=>bj Y<|bk Y (gU rG lD Y Y)<|bk Y (gK cz Y Y)<|bk Y (qT Y)<|i9 Y<|bf Y<|cR<|so h▸aM Y Y
 ·refine aQ<|dA Y<|aS Y<|px h Y (fun h=>?_) (fun h=>?_)
  ·exact aQ<|bX BE pn aT Y<|T (bW aT wu bK Y)<|T (Gx Vb (J Y) (J Y))<|bj Y<|bk Y (gU rG lD Y Y)<|bk Y (gK cz Y Y)<|bk Y (fun hg=>iZ (db Y hg) hI)<|i9 Y<|bj Y<|bk Y (gU rG lD Y Y)<|bk Y (gK cz Y Y)<|bk Y (fun hg=>jk (db Y hg) hI)<|i9 Y<|bf Y<|cR<|so h▸aM Y Y
  ·exact bO<|bt<|aw<|aQ<|bX BE pn aT Y<|T (bW aT wu bK Y)<|T (Gx Vb (J Y) (J Y))<|bj Y<|bk Y (gU rG lD Y Y)<|bk Y (gK cz Y Y)<|bk Y (qT Y)<|i9 Y<|bf Y<|so h▸aM Y Y
def WP e{R}(h:xc e=some R):bZ aP 147 [Q ap e] (tT [oA R.1,iF R.2]):=by
 refine cx func147 Y<|aQ<|cg Y<|kq cM<|ck<|bI<|aQ<|bJ false cM 3<|T (bu tK)<|bJ false cM 3<|T (bu tK)<|bI<|bc<|bX fh dV nH Y<|ca j6 Y<|T (bQ hI)<|bD ?_;refine aw<|an<|bm (k:=15) Y fun hN=>bM<|dm ?_;refine aI (TD (ay:=fun ls i all l c open1 l1 c1=>(e.j'.drop i=ls)/\oM ls i all open1=some R) (Of:=fun _ i all l c open1 l1 c1=>[eV cM 3 l c all,eV cM 3 l1 c1 open1]) (Gf:=fun _ i all l c open1 l1 c1=>[(4,rr l c all),(5,rr l1 c1 open1),(15,cy (aJ) e.j'),(16,iQ e.j'),(17,bS (i:Int))]) (fun i all l c open1 l1 c1 h=>?_) (fun e1 tl ih i all l c open1 l1 c1 h=>?_) e.j' 0 Hj none 0 Hj none 0 ⟨Y,h⟩) (bA Y)
 ·obtain⟨V,h⟩:=h;refine dq V Y<|aw<|aD Y<|bj Y<|T (fJ iG (.tail _ (.head _)) (J Y))<|dA Y<|bj Y<|bk Y (fa Y)<|bk Y (fun hg=>fJ iG (.head _) (db Y hg))<|bk Y (fun hg=>sv (db Y hg) hI)<|i9 Y ?_;exact iH Y<|bf Y<|mK<|dn 4 Y<|dn 84 Y<|dn 2 Y<|mL 2 Y<|aO<|aO<|so h▸dM Y Y Y
 ·obtain⟨V,h⟩:=h;refine dp V Y<|aC<|an<|aD Y<|d8 j6 dF Y (de V)<|ax dF mg Y fun b=>iH Y<|aW dF af Y<|aA 7 Y<|bI<|aC ?_;refine aG<|bX lE fy cz Y<|cC h O4 (DG _) (bN Y) fun r h=>aS Y<|bc<|bj Y<|T (jk (J Y) hI)<|bj Y<|co Y (fa Y)<|co Y (fa Y)<|co Y (fun hg=>fJ iG (.tail _ (.head _)) (db Y hg))<|co Y (fun hg=>oI (db Y hg) (db Y hg))<|py Y<|bj Y<|cj h fun t r_ h=>co Y (fun hg=>np dF Y Y) ?_;obtain⟨r1,g_,s_⟩:=og r_;have k_:=fun H=>(g_ H).1;refine co Y (fun hg=>bG aj9 (adG _ (k_ hg)) ⟨(db Y hg),Z⟩)<|co Y (yH Y)<|T (nt (J Y) (fun H=>(db Y (Ea H))) (fun H=>(g_ H).2) s_)<|cn h Y (fun h=>?_) (fun h=>?_)
  ·exact aQ<|kq cM<|ck<|cX<|am<|cR<|am<|cR<|aO<|aO<|so h▸dM Y Y Y
  ·refine iq<|aD Y<|bj Y<|T (fJ iG (.tail _ (.head _)) (J Y))<|bj Y<|T (fq (J Y) (J Y))<|cj h fun y j_ h=>T (qn iG cz Y (.tail _ (.head _)) (J Y) (J Y) j_)<|pe (.tail _ (.head _)) j_ fun hv=>aS Y<|aQ<|T (AG (r:=cM) (ys:=[Jr,Jr]) (xs:=[.const (.int .i64 (-1)),.const (.int .i64 (-1))]) Cq cz Y Gg Y Y ⟨hI,hI,Z⟩)<|ax (r:=Ps) (x:=(List.replicate 2 (0:Int))) Gg (fun _=>ME (r:=cM) 2 (fun _=>Y) _) Y fun b1=>aW Gg af Y<|bI<|aQ ?_;refine bj Y<|aS Y<|bc<|bj Y<|T (acu iG (.tail _ (.tail _ (.head _))) j_ (J Y))<|T (bQ hI)<|bI<|an ?_;have hN1:=hv.2;refine bM<|gS<|gS ?_;refine aI (xn (ay:=fun ls1 i1 first q_=>(y.drop i1=ls1)/\p6 (oM tl) i e1 all open1 r ls1 i1 first q_=some R) (Of:=fun _ i1 first q_=>[eV cM 3 l c all,eV cM 3 l1 c1 open1,bx Ps 136 b1 q_]) (Gf:=fun _ i1 first q_=>[(4,rr l c all),(5,rr l1 c1 open1),(6,bS (i:Int)),(7,bH aJ e1),(8,bS r),(10,tV (aE b1 0)),(11,bS first),(15,cy (aJ) e.j'),(16,iQ e.j'),(17,bS (i:Int)),(46,tV (sY 1 l1 c1 (i64.wrap ((open1.length:Int)-r)).toNat y.length)),(47,iQ y),(48,bS (i1:Int))]) (fun i1 first q_ h=>?_) (fun e2 tl1 ih1 i1 first q_ h=>?_) y 0 (i:Int) ([Jr,Jr]) ⟨Y,h⟩) (bA Y)
   ·obtain⟨Z',h⟩:=h;refine dq Z' Y<|aw<|bc<|T (bP Gg Y Y bT (.tail _ (.tail _ (.head _))) (J Y))<|bX rK qD cz Y<|bX rJ qC cz Y<|T (AG (r:=cM) (ys:=[e1.L,e1.R]) (xs:=[.tmp 65,.tmp 67]) Cq cz Y Gg Y Y ⟨(J Y),(J Y),Z⟩)<|T (Dx ajl (J Y) (J Y))<|bD ?_;refine aw<|px h Y (fun h=>?_) (fun h=>?_)
    ·exact aQ<|kq cM<|ck<|cX<|am<|cR<|am<|cR<|aO<|aO<|aO<|so h▸dM Y Y Y
    ·refine iq<|aD Y<|bj Y<|T (aK (r:=cM) (ys:=[first]) (xs:=[.tmp 71]) iG cz Y Y Y Y Y ⟨(J Y),Z⟩)<|cj h fun all1 q_all1 h=>cD cz Y Y Y Y iG Y Y (J Y) (J Y) q_all1 fun l2 c2=>aS Y<|aG<|bj Y<|bj Y<|T (fJ iG (.tail _ (.head _)) (J Y))<|bj Y<|T (fq (J Y) (J Y))<|cj h fun y1 m_ h=>T (m4 iG cz Y (.tail _ (.head _)) (J Y) (J Y) m_)<|bj Y<|T (aK (r:=cM) (ys:=[(i:Int)]) (xs:=[.tmp 80]) iG cz Y Y Y Y Y ⟨(J Y),Z⟩)<|bo<|zh m_ ?_;refine cj h fun open2 q_open2 h=>cD cz Y Y Y Y iG Y Y (J Y) (J Y) q_open2 fun l3 c3=>iH Y<|bD<|cV V hN Y<|aH<|aO<|bv ?_;exact bg (aI (ih (i+1) all1 l2 c2 open2 l3 c3 ⟨cJ V,h⟩) (bA Y))
   ·obtain⟨Z',h⟩:=h;refine dp Z' Y<|aC<|an<|aD Y<|T (Nv iG cz Y (.tail _ (.head _)) j_ (J Y) (J Y) (de Z'))<|T (dj (r:=cM) (i:=((i64.wrap ((open1.length:Int)-r))+(i1:Int))) (foff:=0) cz Y Y bT Y (.tail _ (.head _)) (KU j_ (de Z')).1 (J Y))<|iH Y<|aS Y<|cj h fun e3 e_ h=>cj h fun e4 A_ h=>cj h fun ar q_ar h=>?_;refine jQ 10 [tc (bS (i1:Int)),tc (bS e2),tc (bS first),tc (rr l c all),tc (bS e2),tc (tV (nc l (e2.toNat*1+0))),tc (bS e3),tc (bS (min first e3)),tc (tV (aE b1 ((i1:Int).toNat*1))),tc (Bf)] [false,false,false,false,false,false,false,false,false,true] [([],fun _=>[eV cM 3 l c all,eV cM 3 l1 c1 open1,bx Ps 136 b1 q_]),([9],fun sg=>[bx Ps 136 b1 ar,eV cM 3 l c all,eV cM 3 l1 c1 open1])] (fun _=>Y) mixed Y Y Y Y
     ⟨⟨[⟨12,fun _=>Q cM (i1:Int),none⟩],_,[[]],Y,⟨(fun _=>Y),Z⟩,Y,Y,Y,Y,Y,⟨fun sg=>ae Y (l0 Y),Z⟩⟩,
     ⟨⟨[⟨13,fun _=>Q cM e2,none⟩],_,[[]],Y,⟨(fun _=>Y),Z⟩,Y,Y,Y,Y,Y,⟨fun sg=>ae Y (l0 Y),Z⟩⟩,
     ⟨⟨[⟨11,fun _=>Q cM first,none⟩],_,[[],[9]],Y,⟨(fun _=>Y),Z⟩,Y,Y,Y,Y,Y,⟨fun sg=>ae Y (l0 Y),fun sg=>ae Y (l0 Y),Z⟩⟩,
     ⟨⟨[⟨4,fun _=>tV (aY l c all.length),none⟩],_,[[],[9]],Y,⟨(fun _=>Y),Z⟩,Y,Y,Y,Y,Y,⟨fun sg=>ae Y (l0 Y),fun sg=>ae Y (l0 Y),Z⟩⟩,
     ⟨⟨[⟨13,fun _=>Q cM e2,none⟩],_,[[],[9]],Y,⟨(fun _=>Y),Z⟩,Y,Y,Y,Y,Y,⟨fun sg=>ae Y (l0 Y),fun sg=>ae Y (l0 Y),Z⟩⟩,
     ⟨⟨[⟨56,fun _=>tV (aY l c all.length),some 3⟩,⟨57,fun _=>Q cM e2,some 4⟩],_,[[],[9]],Y,⟨(fun _=>Y),(fun _=>Y),Z⟩,Y,Y,Y,Y,Y,⟨fun sg=>ae Y (ce iG cz (.head _) (J Y) (J Y) e_),fun sg=>ae Y (ce iG cz (.tail _ (.head _)) (J Y) (J Y) e_),Z⟩⟩,
     ⟨⟨[⟨58,fun _=>tV (nc l (e2.toNat*1+0)),some 5⟩],_,[[],[9]],Y,⟨(fun _=>Y),Z⟩,Y,Y,Y,Y,Y,⟨fun sg=>ae Y (dj (r:=cM) (i:=e2) (foff:=0) cz Y Y bT Y (.head _) e_ (J Y)),fun sg=>ae Y (dj (r:=cM) (i:=e2) (foff:=0) cz Y Y bT Y (.tail _ (.head _)) e_ (J Y)),Z⟩⟩,
     ⟨⟨[⟨55,fun _=>Q cM first,some 2⟩,⟨59,fun _=>Q cM e3,some 6⟩],_,[[],[9]],Y,⟨(fun _=>Y),(fun _=>Y),Z⟩,Y,Y,Y,Y,Y,⟨fun sg=>ae Y (rE (J Y) (J Y)),fun sg=>ae Y (rE (J Y) (J Y)),Z⟩⟩,
     ⟨⟨[⟨10,fun _=>tV (aE b1 0),none⟩,⟨53,fun _=>Q cM (i1:Int),some 0⟩],_,[[]],Y,⟨(fun _=>Y),(fun _=>Y),Z⟩,Y,Y,Y,Y,Y,⟨fun sg=>ae Y (kg Cq cz (.tail _ (.tail _ (.head _))) (J Y) (J Y) A_),Z⟩⟩,
     ⟨⟨[⟨61,fun _=>tV (aE b1 ((i1:Int).toNat*1)),some 8⟩,⟨54,fun _=>Q cM e2,some 1⟩],_,[([],[9])],Y,⟨(fun _=>Y),(fun _=>Y),Z⟩,Y,Y,Y,Y,Y,⟨fun sg=>cw Y (EffOK.fr2 (Vc cz Y A_ (so q_ar) (J Y) (J Y))),Z⟩⟩,
     Z⟩⟩⟩⟩⟩⟩⟩⟩⟩⟩ (fun sg=>?_)
    refine(show RG _ _ _ _ [_,_,_] _ from ?_);refine iH Y<|bD<|cV Z' hN1 Y<|aH<|aH ?_;exact bg (aI (ih1 (i1+1) (min first e3) ar ⟨cJ Z',h⟩) (bA Y))
