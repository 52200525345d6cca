import Derived.Test.YtaehdhmbgmbgiaaGreatDoorKkT
import Derived.Test.YtaehdhmbgmbgiaaGreatDoorKkP17
set_option linter.all false
namespace Go.Proofs.YtaehdhmbgmbgiaaGreatDoor
open Go IntKind Tryz EffOK
set_option maxRecDepth 100000
def aho l{R}(h:xV l=some R):bZ aP 59 [cy (d6) l] (tT [cy (d6) R.1,bS R.2]):=by
 refine cx func59 Y<|aQ<|kq (d6)<|bU<|bI<|bc<|bj Y<|T (aK (r:=fG) (ys:=[l]) (xs:=[.tmp 5]) rN ki Y Y Y Y Y ⟨(J Y),Z⟩)<|cC h aib (U2 _) (bN Y) fun r h=>aS Y<|aD Y<|gw Y<|cn h Y (fun h=>?_) (fun h=>?_)
 ·exact aD Y<|kq (d6)<|bf Y<|am<|so h▸dM Y Y Y
 ·refine iq<|aD Y<|pz h aju (Wt _) (bN Y) fun r1 h l1 c=>cj h fun r2 d_ h=>AW [eV d6 68 l1 c r1] _ Y alb (ahW l1 c _ _ d_) ⟨(J Y),(A3 ajr fun x y h=>aaF _ _ h),Z⟩ Y fun i=>?_;refine(show RG _ _ _ _ [_] ((13,rr (i.h 0).1 (i.h 0).2 r2)::_)from ?_);exact iH Y<|dd<|mK<|dn 2 Y<|dn 13 Y<|mL 2 Y<|aO<|so h▸dM Y Y Y
def aje(b:Nat)(ix:OI) r n{R}(h:lQ r n=some R):dZ aP 31 [tV (aE b 0),Q aq n] (nL b r ix) (fun _:OI=>tT [cy (d6) R.1,bS R.2]) (fun _=>(nL b r ix)):=by
 refine dZ.of func31 Y Y Y fun w0 S0=>?_;refine(show CG _ _ _ [bx (rH iY [(1,aY (ix.h 0).1 (ix.h 0).2 r.rows.length),(2,aY (ix.h 1).1 (ix.h 1).2 r.width.length)]) 77 b r,gh fG 31 (ix.h 0).1 (ix.h 0).2 r.rows,gh cM 3 (ix.h 1).1 (ix.h 1).2 r.width] _ from ?_);refine aQ<|cg Y<|kq (d6)<|bU<|bI<|aC<|cj h fun e i_ h=>cj h fun r1 a_ h=>?_;refine nQ (ts:=[_,_,_,_,_,_,_,_,_,_,_,_,_]) mixed Y Y
  ⟨eX Y Y,
  ⟨dy 6 0 Y Y (eK (J Y)),
  ⟨dy 7 1 Y Y (rP 1 wx Y Y Y),
  ⟨dy 8 2 Y Y (eS Be Y (.head _) (.tail _ (.head _)) (J Y)),
  ⟨oq 3 Y Y (mW k5 eE Y Y),
  ⟨fm 4 cz Y Y,
  ⟨dX 9 3 11 5 Y Y Y (bn rN ki Y (kX (J Y)) (J Y) i_),
  ⟨fm 6 ki Y Y,
  ⟨dy 13 7 Y Y (bG al5 (aho _ a_) ⟨(J Y),Z⟩),
  ⟨dy 14 8 Y Y (yi Y Y),
  ⟨dy 14 8 Y Y (yi Y Y),
  ⟨dy 15 9 Y Y (Aj Y),
  ⟨dy 16 10 Y Y (Aj Y),
  Z⟩⟩⟩⟩⟩⟩⟩⟩⟩⟩⟩⟩⟩ ?_
 exact aw<|jm<|aH<|aH<|aH<|so h▸gI (ts:=[cy (d6) r1.1,bS r1.2]) (rvs:=[.tmp 4,.tmp 5]) Y Y ⟨aL Y,aL Y,Z⟩ tA Y Y
def aaY n{R}(h:kV n=some R):fE aP 107 [tV (.slice none 0 0),bS n] false d6 68 R:=by
 refine fE.of func107 Y Y Y fun w0 S0=>aQ<|bJ false d6 68<|T (bu tK)<|bI ?_;refine A1 (ay:=mp n=some R) (Of:=[]) (Gf:=[(0,tV (.slice none 0 0)),(1,bS n)]) (fun h=>?_) (fun K=>?_)
 ·skip;refine DW (ay:=fun s l c=>mo s=some R) (Of:=fun s l c=>[eV d6 68 l c s]) (Gf:=fun s l c=>[(0,rr l c s)]) (fun s l c h=>?_) (fun K1=>?_)
  ·skip;exact aD Y<|bf Y<|so h▸fP Y Y
  ·skip;refine aD Y<|bj Y<|T (yr nP (J Y))<|bj Y<|T (yq nP (J Y))<|T (fq (J Y) (J Y))<|T (fq (J Y) (J Y))<|aS Y<|aD Y<|T (oI (J Y) hI)<|cn h Y (fun h=>?_) (fun h=>?_)
   ·refine aG<|bj Y<|bj Y<|T (yr nP (J Y))<|T (CL nP ja (J Y) (J Y))<|bj Y<|cj h fun u q_u h=>cj h fun mk T_ h=>FD (C5 (r:=d6) (x:=[]) ja Y Y Y Y nP me (fun _=>⟨none,0,Y,kG _,nh _,.inl Y⟩) (J Y) (J Y) (L0 q_u) T_) Y fun i=>bj Y<|T (yq nP (J Y))<|cj h fun y j_ h=>T (m4 nP ja Y (.head _) (J Y) (J Y) j_)<|zh j_<|iH Y<|bD ?_;exact cQ (K1 y (i.h 0).1 (i.h 0).2 h) (bA Y)
   ·refine bO<|M0 false d6 68 ?_;exact cQ (K1 Kx none 0 h) (bA Y)
 ·skip;refine aD Y<|T (jk (J Y) hI)<|cn h Y (fun h=>?_) (fun h=>?_)
  ·refine aG ?_;exact(nn h).elim
  ·refine bO<|aO ?_;exact cQ (K h) (bA Y)
def ac3 slices{R}(h:io slices=some R):fE aP 60 [cy (fG) slices] false d6 68 R:=by
 refine fE.of func60 Y Y Y fun w0 S0=>aQ<|bJ false d6 68<|T (bu tK)<|bI<|aQ<|bU<|bI<|bc<|bj Y<|ca rN Y<|T (bQ hI)<|bI<|an<|bm (k:=9) Y fun hN=>bM<|pI ?_;refine aI (jP (ay:=fun ls i size=>(slices.drop i=ls)/\jf slices ls size=some R) (Of:=fun _ i size=>[]) (Gf:=fun _ i size=>[(0,cy (fG) slices),(3,bS size),(9,cy (fG) slices),(10,iQ slices),(11,bS (i:Int))]) (fun i size h=>?_) (fun e tl ih i size h=>?_) slices 0 0 ⟨Y,h⟩) (bA Y)
 ·obtain⟨V,h⟩:=h;refine dq V Y<|aw<|aD Y<|pz h ala (aaY _) ⟨hV,(J Y),Z⟩ fun r h l c=>aS Y<|bc ?_;refine bj Y<|ca rN Y<|T (bQ hI)<|bI<|an<|bm (k:=25) Y fun hN1=>bM ?_;refine aI (kT (ay:=fun ls1 i1 V' l1 c1=>(slices.drop i1=ls1)/\je ls1 V'=some R) (Of:=fun _ i1 V' l1 c1=>[eV d6 68 l1 c1 V']) (Gf:=fun _ i1 V' l1 c1=>[(6,rr l1 c1 V'),(25,cy (fG) slices),(26,iQ slices),(27,bS (i1:Int))]) (fun i1 V' l1 c1 h=>?_) (fun e1 tl1 ih1 i1 V' l1 c1 h=>?_) slices 0 r l c ⟨Y,h⟩) (bA Y)
  ·obtain⟨Z',h⟩:=h;exact dq Z' Y<|aw<|aD Y<|bf Y<|so h▸fP Y Y
  ·obtain⟨Z',h⟩:=h;refine dp Z' Y<|aC<|an<|aQ<|d8 rN ki Y (de Z')<|aS Y<|aG<|bj Y<|bj Y<|cj h fun f_ n_ h=>cD ja Y Y Y Y nP Y Y (J Y) (J Y) n_ fun l2 c2=>?_;refine iH Y<|bD<|cV Z' hN1 Y ?_;exact bg (aI (ih1 (i1+1) f_ l2 c2 ⟨cJ Z',h⟩) (bA Y))
 ·obtain⟨V,h⟩:=h;refine dp V Y<|aC<|an<|aQ<|d8 rN ki Y (de V)<|aS Y<|aD Y<|bj Y<|ca nP Y ?_;refine T (mC (J Y) (J Y))<|aS Y<|aD Y<|T (jk (J Y) hI)<|cn h Y (fun h=>?_) (fun h=>?_)
  ·refine aG ?_;exact(nn h).elim
  ·refine bO<|cV V hN Y ?_;exact bg (aI (ih (i+1) (i64.wrap (size+(e.length:Int))) ⟨cJ V,h⟩) (bA Y))
def ahn slices{R}(h:io slices=some R):bZ aP 60 [cy (fG) slices] (cy (d6) R):=(ac3 _ h).spec
def ajd(b:Nat)(ix:OI) r n{R}(h:ov r n=some R):dZ aP 32 [tV (aE b 0),Q aq n] (nL b r ix) (fun _:OI=>tT [cy (d6) R.1,bS R.2]) (fun _=>(nL b r ix)):=by
 refine dZ.of func32 Y Y Y fun w0 S0=>?_;refine(show CG _ _ _ [bx (rH iY [(1,aY (ix.h 0).1 (ix.h 0).2 r.rows.length),(2,aY (ix.h 1).1 (ix.h 1).2 r.width.length)]) 77 b r,gh fG 31 (ix.h 0).1 (ix.h 0).2 r.rows,gh cM 3 (ix.h 1).1 (ix.h 1).2 r.width] _ from ?_);refine aQ<|cg Y<|kq (d6)<|bU<|bI<|aC<|cj h fun e i_ h=>cj h fun e1 Y' h=>cj h fun r1 a_ h=>?_;refine nQ (ts:=[_,_,_,_,_,_,_,_,_,_,_,_,_,_,_,_,_,_,_,_]) mixed Y Y
  ⟨eX Y Y,
  ⟨dy 6 0 Y Y (eK (J Y)),
  ⟨dy 7 1 Y Y (rP 1 wx Y Y Y),
  ⟨dy 8 2 Y Y (eS Be Y (.head _) (.tail _ (.head _)) (J Y)),
  ⟨oq 3 Y Y (mW k5 eE Y Y),
  ⟨fm 4 cz Y Y,
  ⟨dX 9 3 11 5 Y Y Y (bn rN ki Y (kX (J Y)) (J Y) i_),
  ⟨fm 6 ki Y Y,
  ⟨eX Y Y,
  ⟨dy 14 8 Y Y (eK (J Y)),
  ⟨dy 15 9 Y Y (rP 1 wx Y Y Y),
  ⟨dy 16 10 Y Y (eS Be Y (.head _) (.tail _ (.head _)) (J Y)),
  ⟨oq 3 Y Y (mW sH lC Y Y),
  ⟨fm 12 cz Y Y,
  ⟨dX 17 11 19 13 Y Y Y (bn rN ki Y (kX (J Y)) (J Y) Y'),
  ⟨fm 14 ki Y Y,
  ⟨dX 13 7 21 15 Y Y Y (aK (r:=fG) (ys:=[e,e1]) (xs:=[.tmp 13,.tmp 21]) rN ki Y Y Y Y Y ⟨(J Y),(J Y),Z⟩),
  ⟨dy 22 16 Y Y (bG al4 (ahn _ a_) ⟨(J Y),Z⟩),
  ⟨dy 23 17 Y Y (Aj Y),
  ⟨Q6 Y (zai),
  Z⟩⟩⟩⟩⟩⟩⟩⟩⟩⟩⟩⟩⟩⟩⟩⟩⟩⟩⟩⟩ ?_
 exact aw<|jm<|aH<|aH<|aH<|so h▸gI (ts:=[cy (d6) r1,bS 0]) (rvs:=[.tmp 4,.tmp 5]) Y Y ⟨aL Y,aL Y,Z⟩ tA Y Y
def ad2 order a1 b{R}(h:sL order a1 b=some R):bZ aP 167 [cy (ah) a1,cy (ah) b,bH (gM fM) order] (bS R):=by
 refine cx func167 Y<|aQ<|bU<|bI<|bc<|bq Ge Y<|ca A6 Y<|T (bQ hI)<|bI<|an<|bm (k:=9) Y fun hN=>bM ?_;refine aI (gG (ay:=fun ls i=>(order.drop i=ls)/\nd a1 b ls=some R) (Of:=fun _ i=>[]) (Gf:=fun _ i=>[(0,cy (ah) a1),(1,cy (ah) b),(9,cy (fM) order),(10,iQ order),(11,bS (i:Int))]) (fun i h=>?_) (fun e tl ih i h=>?_) order 0 ⟨Y,h⟩) (bA Y)
 ·obtain⟨V,h⟩:=h;exact dq V Y<|aw<|aD Y<|bj Y<|cC h aif (U5 _ _) (bN Y) fun r h=>bf Y<|so h▸aM Y Y
 ·obtain⟨V,h⟩:=h;refine dp V Y<|aC<|an<|aQ<|d8 A6 Gd Y (de V)<|ax Gd af0 Y fun b1=>aW Gd af Y<|aA 7 Y<|bI<|aC<|cj h fun e1 Y' h=>cj h fun e2 b_ h=>?_;refine cj h fun r1 a_ h=>?_;refine nQ (ts:=[_,_,_,_,_,_,_,_,_,_,_,_]) mixed Y Y
   ⟨eX Y Y,
   ⟨oq 7 Y Y (mW Qr C1 Y Y),
   ⟨fm 1 cz Y Y,
   ⟨dX 15 0 17 2 Y Y Y (Ky oT aT Y Y Y Y'),
   ⟨fm 3 aT Y Y,
   ⟨eX Y Y,
   ⟨oq 7 Y Y (mW Qr C1 Y Y),
   ⟨fm 6 cz Y Y,
   ⟨dX 20 5 22 7 Y Y Y (Ky oT aT Y Y Y b_),
   ⟨fm 8 aT Y Y,
   ⟨dX 19 4 24 9 Y Y Y (bG ah5 (UX _ _ a_) ⟨(J Y),(J Y),Z⟩),
   ⟨dy 25 10 Y Y (Aj Y),
   Z⟩⟩⟩⟩⟩⟩⟩⟩⟩⟩⟩⟩ ?_
  refine aw ?_;refine j8 (ay:=fun n=>sK (nd a1 b tl) n=some R) (Of:=fun n=>[]) (Gf:=fun n=>[(0,cy (ah) a1),(1,cy (ah) b),(8,bS n),(9,cy (fM) order),(10,iQ order),(11,bS (i:Int))]) (fun n h=>?_) (fun K=>?_)
  ·skip;refine aD Y<|gw Y<|cn h Y (fun h=>?_) (fun h=>?_)
   ·exact aD Y<|bf Y<|cR<|am<|cR<|so h▸aM Y Y
   ·refine bO<|cV V hN Y ?_;exact bg (aI (ih (i+1) ⟨cJ V,h⟩) (bA Y))
  ·skip;refine aQ<|bX ag3 SX Na Y<|cn h Y (fun h=>?_) (fun h=>?_)
   ·refine aG<|bj Y<|T (HG (J Y))<|iH Y<|bD ?_;exact cQ (K (i64.wrap (0-r1)) h) (bA Y)
   ·refine bO ?_;exact cQ (K r1 h) (bA Y)
def aet order{R}(h:H2 order=some R):bZ aP 108 [cy (fM) order] ((eD aP Kw D3 (fun(x:(List ac)×(List ac))=>R x.1 x.2))):=by
 exact cx func108 Y<|aQ<|cg Y<|T (bu hV)<|bI<|aQ<|T ((show cu _ _ _ _ ((eD aP Kw D3 (fun(x:(List ac)×(List ac))=>(sL order) x.1 x.2)))from kN (cts:=[bH (gM fM) order]) (caps:=[.tmp 1]) aks ⟨(J Y),Z⟩ (fun x y h=>ad2 _ _ _ h)))<|bf Y<|so h▸aM Y Y
def ac2 rows order limit{R}(h:tY rows order limit=some R):fE aP 61 [cy (d6) rows,cy (fM) order,bS limit] false d6 68 R:=by
 refine fE.of func61 Y Y Y fun w0 S0=>aQ<|bJ false d6 68<|T (bu tK)<|bI<|aQ<|bJ false d6 68<|T (bu tK)<|bI<|bc<|bj Y<|ca nP Y<|T (bQ hI)<|bI<|an<|bm (k:=10) Y fun hN=>bM ?_;refine dm<|pI ?_;refine aI (kT (ay:=fun ls i out l c=>(rows.drop i=ls)/\ou order limit ls out=some R) (Of:=fun _ i out l c=>[eV d6 68 l c out]) (Gf:=fun _ i out l c=>[(1,cy (fM) order),(2,bS limit),(7,rr l c out),(10,cy (d6) rows),(11,iQ rows),(12,bS (i:Int))]) (fun i out l c h=>?_) (fun e tl ih i out l c h=>?_) rows 0 Kx none 0 ⟨Y,h⟩) (bA Y)
 ·obtain⟨V,h⟩:=h;refine dq V Y<|aw<|aD Y<|bj Y<|cC h ak9 (aet _) (bN Y) fun r h=>cj h fun zr J_ h=>?_;refine MJ (n:=out.length) Dc ?_ ah7 ?_ J_ ?_ ?_ ?_ ?_ ?_
  ·rfl
  ·rfl
  ·exact(J Y)
  ·rfl
  ·exact(J Y)
  ·rfl
  intro hl;refine t6 hl 7 Y<|t6 hl 22 Y<|bI ?_;refine DW (ay:=fun L' l1 c1=>tm L'=some R) (Of:=fun L' l1 c1=>[eV d6 68 l1 c1 L']) (Gf:=fun L' l1 c1=>[(7,rr l1 c1 L')]) (fun L' l1 c1 h=>?_) (fun K=>?_)
  ·skip;exact aD Y<|bf Y<|so h▸fP Y Y
  ·skip;refine aD Y<|T (iZ (J Y) hI)<|bj Y<|bk Y (fa Y)<|bk Y (fa Y)<|bk Y (fun hg=>fJ nP (.head _) (db Y hg))<|bk Y (fun hg=>jk (db Y hg) (db Y hg))<|i9 Y<|cn h Y (fun h=>?_) (fun h=>?_)
   ·refine aG<|bj Y<|bj Y<|cj h fun y j_ h=>T (m4 nP ja Y (.head _) (J Y) (J Y) j_)<|zh j_<|iH Y<|bD ?_;exact cQ (K y l c h) (bA Y)
   ·refine bO ?_;exact cQ (K zr l c h) (bA Y)
 ·obtain⟨V,h⟩:=h;refine dp V Y<|aC<|an<|aQ<|d8 nP ja Y (de V)<|aS Y<|aG<|bj Y<|bj Y<|pz h aid (Qw _) (bN Y) fun r1 h l2 c2=>?_;refine gk<|gW 18 Y<|T (aK (r:=d6) (ys:=[r1]) (xs:=[.tmp 18]) nP ja Y Y Y Y Y ⟨(kX (J Y)),Z⟩)<|bo<|cj h fun z_ C_ h=>cD ja Y Y Y Y nP Y Y (J Y) (J Y) C_ fun l3 c3=>iH Y<|bD<|cV V hN Y<|bv<|aO ?_;exact bg (aI (ih (i+1) z_ l3 c3 ⟨cJ V,h⟩) (bA Y))
def ahm rows order limit{R}(h:tY rows order limit=some R):bZ aP 61 [cy (d6) rows,cy (fM) order,bS limit] (cy (d6) R):=(ac2 _ _ _ h).spec
def ajc(b:Nat)(ix:OI) r n{R}(h:ow r n=some R):dZ aP 33 [tV (aE b 0),Q aq n] (nL b r ix) (fun _:OI=>tT [cy (d6) R.1,bS R.2]) (fun _=>(nL b r ix)):=by
 refine dZ.of func33 Y Y Y fun w0 S0=>?_;refine(show CG _ _ _ [bx (rH iY [(1,aY (ix.h 0).1 (ix.h 0).2 r.rows.length),(2,aY (ix.h 1).1 (ix.h 1).2 r.width.length)]) 77 b r,gh fG 31 (ix.h 0).1 (ix.h 0).2 r.rows,gh cM 3 (ix.h 1).1 (ix.h 1).2 r.width] _ from ?_);refine aQ<|cg Y<|kq (d6)<|bU<|bI<|aC<|cj h fun e i_ h=>cj h fun r1 a_ h=>?_;refine nQ (ts:=[_,_,_,_,_,_,_,_,_,_,_,_,_,_,_]) mixed Y Y
  ⟨eX Y Y,
  ⟨dy 6 0 Y Y (eK (J Y)),
  ⟨dy 7 1 Y Y (rP 1 wx Y Y Y),
  ⟨dy 8 2 Y Y (eS Be Y (.head _) (.tail _ (.head _)) (J Y)),
  ⟨oq 3 Y Y (mW k5 eE Y Y),
  ⟨fm 4 cz Y Y,
  ⟨dX 9 3 11 5 Y Y Y (bn rN ki Y (kX (J Y)) (J Y) i_),
  ⟨fm 6 ki Y Y,
  ⟨oq 3 Y Y (mW tg oh Y Y),
  ⟨fm 8 Ge Y Y,
  ⟨oq 3 Y Y (mW BD uQ Y Y),
  ⟨fm 10 cz Y Y,
  ⟨Kz 13 7 15 9 17 11 Y Y Y Y (bG al3 (ahm _ _ _ a_) ⟨(J Y),(J Y),(J Y),Z⟩),
  ⟨dy 18 12 Y Y (Aj Y),
  ⟨Q6 Y (zai),
  Z⟩⟩⟩⟩⟩⟩⟩⟩⟩⟩⟩⟩⟩⟩⟩ ?_
 exact aw<|jm<|aH<|aH<|aH<|so h▸gI (ts:=[cy (d6) r1,bS 0]) (rvs:=[.tmp 4,.tmp 5]) Y Y ⟨aL Y,aL Y,Z⟩ tA Y Y
def ahA l{R}(h:Bo l=some R):bZ aP 34 [cy (d6) l] (tT [cy (d6) R.1,bS R.2]):=by
 refine cx func34 Y<|aQ<|kq (d6)<|bU<|bI<|bc<|bj Y<|T (aK (r:=fG) (ys:=[l]) (xs:=[.tmp 5]) rN ki Y Y Y Y Y ⟨(J Y),Z⟩)<|cC h aib (U2 _) (bN Y) fun r h=>aS Y<|aD Y<|gw Y<|cn h Y (fun h=>?_) (fun h=>?_)
 ·exact aD Y<|kq (d6)<|bf Y<|am<|so h▸dM Y Y Y
 ·exact iq<|aD Y<|pz h aju (Wt _) (bN Y) fun r1 h l1 c=>iH Y<|dd<|mK<|dn 2 Y<|dn 12 Y<|mL 2 Y<|aO<|so h▸dM Y Y Y
def afq l b{R}(h:j5 l b=some R):bZ aP 7 [Q aX l,Q ko b] (tT [cy (d6) R.1,bS R.2]):=by
 refine cx func7 Y<|aQ<|cg Y<|cg Y<|kq (d6)<|bU<|bI<|bc<|bq dC Y<|cC h YN (HV _) (bN Y) fun r h=>bj Y<|bL Y Y<|bL Y Y<|iH Y<|aS Y<|aQ ?_;refine bj Y<|gw Y<|cn h Y (fun h=>?_) (fun h=>?_)
 ·exact aD Y<|kq (d6)<|bf Y<|am<|so h▸dM Y Y Y
 ·refine iq<|bc<|bq dC Y<|bq D4 Y<|cC h amp (ahD _ _) (bN Y) fun r1 h=>T (jj (J Y))<|cn h Y (fun h=>?_) (fun h=>?_)
  ·exact aQ<|kq (d6)<|dd<|am<|so h▸dM Y Y Y
  ·refine iq<|aQ<|bq D4 Y<|T (bW (r:=rH iY [(1,.slice none 0 0),(2,.slice none 0 0)]) (y:=(⟨b,[],[]⟩:fO)) alq alB (zH afZ ⟨Y,Y,Z⟩) (⟨_,_,_,_,_,Y,aff Zx Y Y,Y,(J Y),Y⟩))<|wL (J Y) Y fun b1=>bJ true fG 31<|bJ true cM 3 ?_;refine(show RG _ _ _ _ [_,_,_] _ from ?_);refine aS Y<|aQ<|zf (CO (fun y:(fO->ai->Option (((List (List ac))×Int)×fO))=>ij aP wQ (nL b1) xw y)) qh Y fun b2=>bj Y ?_;refine t7 ((show cu _ _ _ _ (ij aP wQ (nL b1) xw aga)from nI amo (J Y) (fun c x R h i=>by
     obtain⟨r,I,rfl⟩:=A9.1 h;exact lS (Ob:=fun j=>nL b1 c j) (i:=i) (ajj _ i c _ I)))) Y ?_
   refine gF (γ:=(fun y:(fO->ai->Option (((List (List ac))×Int)×fO))=>ij aP wQ (nL b1) xw y)) (y:=aga) FX (eU me) (J Y) (pD hI) (J Y) fun os=>bj Y ?_;refine t7 ((show cu _ _ _ _ (ij aP wQ (nL b1) xw af9)from nI amn (J Y) (fun c x R h i=>by
     obtain⟨r,I,rfl⟩:=A9.1 h;exact lS (Ob:=fun j=>nL b1 c j) (i:=i) (aji _ i c _ I)))) Y ?_
   refine gF (γ:=(fun y:(fO->ai->Option (((List (List ac))×Int)×fO))=>ij aP wQ (nL b1) xw y)) (y:=af9) FX (eU me) (J Y) (pD hI) (J Y) fun os1=>bj Y ?_;refine t7 ((show cu _ _ _ _ (ij aP wQ (nL b1) xw age)from nI amm (J Y) (fun c x R h i=>by
     obtain⟨r,I,rfl⟩:=A9.1 h;exact lS (Ob:=fun j=>nL b1 c j) (i:=i) (ajh _ i c _ I)))) Y ?_
   refine gF (γ:=(fun y:(fO->ai->Option (((List (List ac))×Int)×fO))=>ij aP wQ (nL b1) xw y)) (y:=age) FX (eU me) (J Y) (pD hI) (J Y) fun os2=>bj Y ?_;refine t7 ((show cu _ _ _ _ (ij aP wQ (nL b1) xw agb)from nI aml (J Y) (fun c x R h i=>by
     obtain⟨r,I,rfl⟩:=A9.1 h;exact lS (Ob:=fun j=>nL b1 c j) (i:=i) (ajg _ i c _ I)))) Y ?_
   refine gF (γ:=(fun y:(fO->ai->Option (((List (List ac))×Int)×fO))=>ij aP wQ (nL b1) xw y)) (y:=agb) FX (eU me) (J Y) (pD hI) (J Y) fun os3=>bj Y ?_;refine t7 ((show cu _ _ _ _ (ij aP wQ (nL b1) xw agf)from nI amk (J Y) (fun c x R h i=>by
     obtain⟨r,I,rfl⟩:=A9.1 h;exact lS (Ob:=fun j=>nL b1 c j) (i:=i) (ajf _ i c _ I)))) Y ?_
   refine gF (γ:=(fun y:(fO->ai->Option (((List (List ac))×Int)×fO))=>ij aP wQ (nL b1) xw y)) (y:=agf) FX (eU me) (J Y) (pD hI) (J Y) fun os4=>bj Y ?_;refine t7 ((show cu _ _ _ _ (ij aP wQ (nL b1) xw agh)from nI amj (J Y) (fun c x R h i=>by
     obtain⟨r,I,rfl⟩:=A9.1 h;exact lS (Ob:=fun j=>nL b1 c j) (i:=i) (aje _ i c _ I)))) Y ?_
   refine gF (γ:=(fun y:(fO->ai->Option (((List (List ac))×Int)×fO))=>ij aP wQ (nL b1) xw y)) (y:=agh) FX (eU me) (J Y) (pD hI) (J Y) fun os5=>bj Y ?_;refine t7 ((show cu _ _ _ _ (ij aP wQ (nL b1) xw agd)from nI ami (J Y) (fun c x R h i=>by
     obtain⟨r,I,rfl⟩:=A9.1 h;exact lS (Ob:=fun j=>nL b1 c j) (i:=i) (ajd _ i c _ I)))) Y ?_
   refine gF (γ:=(fun y:(fO->ai->Option (((List (List ac))×Int)×fO))=>ij aP wQ (nL b1) xw y)) (y:=agd) FX (eU me) (J Y) (pD hI) (J Y) fun os6=>bj Y ?_;refine t7 ((show cu _ _ _ _ (ij aP wQ (nL b1) xw agc)from nI amh (J Y) (fun c x R h i=>by
     obtain⟨r,I,rfl⟩:=A9.1 h;exact lS (Ob:=fun j=>nL b1 c j) (i:=i) (ajc _ i c _ I)))) Y ?_
   refine gF (γ:=(fun y:(fO->ai->Option (((List (List ac))×Int)×fO))=>ij aP wQ (nL b1) xw y)) (y:=agc) FX (eU me) (J Y) (pD hI) (J Y) fun os7=>bj Y<|aS Y<|bc<|bX ju fx r0 Y<|ca oo Y<|T (bQ hI)<|bI<|an<|bm (k:=52) Y fun hN=>bM<|dm<|gS<|jL<|jL ?_;refine aI (MO (ay:=fun ls i ob l1 c l2 c1=>(l.j'.drop i=ls)/\jw l ls i ob=some R) (Of:=fun _ i ob l1 c l2 c1=>[tF (CO (fun y:(fO->ai->Option (((List (List ac))×Int)×fO))=>ij aP wQ (nL b1) xw y)) qh b2 none os7 zk1,bx (rH iY [(1,aY l1 c ob.rows.length),(2,aY l2 c1 ob.width.length)]) 77 b1 ob,gh fG 31 l1 c ob.rows,gh cM 3 l2 c1 ob.width]) (Gf:=fun _ i ob l1 c l2 c1=>[(2,bH aX l),(8,tV (aE b1 0)),(9,tV (uv b2)),(52,cy (aq) l.j'),(53,iQ l.j'),(54,bS (i:Int))]) (fun i ob l1 c l2 c1 h=>?_) (fun e tl ih i ob l1 c l2 c1 h=>?_) l.j' 0 (⟨b,[],[]⟩:fO) none 0 none 0 ⟨Y,h⟩) (bA Y)
   ·obtain⟨V,h⟩:=h;refine dq V Y<|aw<|aC<|cj h fun e1 Y' h=>?_;refine nQ (ts:=[_,_,_,_,_,_,_,_,_,_,_,_,_,_]) mixed Y Y
     ⟨eX Y Y,
     ⟨dy 119 0 Y Y (eK (J Y)),
     ⟨dy 120 1 Y Y (rP 1 wx Y Y Y),
     ⟨dy 121 2 Y Y (eS Be Y (.tail _ (.head _)) (.tail _ (.tail _ (.head _))) (J Y)),
     ⟨eX Y Y,
     ⟨dy 123 4 Y Y (eK (J Y)),
     ⟨dy 124 5 Y Y (rP 1 wx Y Y Y),
     ⟨dy 125 6 Y Y (eS Be Y (.tail _ (.head _)) (.tail _ (.tail _ (.head _))) (J Y)),
     ⟨dy 126 7 Y Y (oH rN (kX (J Y))),
     ⟨dy 127 8 Y Y (fq (J Y) hI),
     ⟨dX 122 3 128 9 Y Y Y (bn rN ki Y (kX (J Y)) (J Y) Y'),
     ⟨fm 10 ki Y Y,
     ⟨dy 130 11 Y Y (Aj Y),
     ⟨Q6 Y (zai),
     Z⟩⟩⟩⟩⟩⟩⟩⟩⟩⟩⟩⟩⟩⟩ ?_
    exact aw<|jm<|aO<|aO<|aO<|aO<|so h▸dM Y Y Y
   ·obtain⟨V,h⟩:=h;refine dp V Y<|aC<|an<|aD Y<|d8 oo fL Y (de V)<|ax fL lk Y fun b3=>iH Y<|aW fL af Y<|aA 11 Y<|bI<|aC ?_;refine aG<|bj Y<|bX qF iD cz Y<|T (LC (γ:=(fun y:(fO->ai->Option (((List (List ac))×Int)×fO))=>ij aP wQ (nL b1) (fun(x:(List (List ac))×Int)=>tT [Q fG x.1,Q cM x.2]) y)) (z:=fun _ _=>none) FX (eU me) alm (fun _=>N6) (.head _) (J Y) (pD (J Y)))<|bq fL Y<|cj h fun r2 d_ h=>FD (fr3 (fr3 (fr3 (GW (args:=wQ) (Ob:=nL b1) (res:=xw) (f:=((m5 zk1 e.Op).getD (fun _ _=>none))) (x:=ob) (y:=((e):ai)) (R:=r2) (i:=(oiL [(l1,c),(l2,c1)])) (xs:=[.tmp 64]) _ Y (J Y) d_ ⟨(J Y),Z⟩ (fun _=>Y))))) Y fun i1=>?_;refine(show RG _ _ _ _ [_,_,_,_] ((65,tT [cy (d6) r2.1.1,bS r2.1.2])::_)from ?_);refine bj Y<|bL Y Y<|bL Y Y<|iH Y<|aS Y ?_;refine j8 (ay:=fun e2=>sN l (jw l tl) i e r2 e2=some R) (Of:=fun e2=>[tF (CO (fun y:(fO->ai->Option (((List (List ac))×Int)×fO))=>ij aP wQ (nL b1) xw y)) qh b2 none os7 zk1,bx (rH iY [(1,aY (i1.h 0).1 (i1.h 0).2 r2.2.rows.length),(2,aY (i1.h 1).1 (i1.h 1).2 r2.2.width.length)]) 77 b1 r2.2,gh fG 31 (i1.h 0).1 (i1.h 0).2 r2.2.rows,gh cM 3 (i1.h 1).1 (i1.h 1).2 r2.2.width]) (Gf:=fun e2=>[(2,bH aX l),(8,tV (aE b1 0)),(9,tV (uv b2)),(10,bS (i:Int)),(11,bH aq e),(12,cy (d6) r2.1.1),(13,bS e2),(52,cy (aq) l.j'),(53,iQ l.j'),(54,bS (i:Int))]) (fun e2 h=>?_) (fun K=>?_)
    ·skip;refine bc<|bj Y<|gw Y<|cn h Y (fun h=>?_) (fun h=>?_)
     ·exact aD Y<|kq (d6)<|bf Y<|am<|cR<|am<|cR<|aO<|aO<|aO<|aO<|so h▸dM Y Y Y
     ·refine iq ?_;refine j8 (ay:=fun rows=>sM l (jw l tl) i r2 rows=some R) (Of:=fun rows=>[tF (CO (fun y:(fO->ai->Option (((List (List ac))×Int)×fO))=>ij aP wQ (nL b1) xw y)) qh b2 none os7 zk1,bx (rH iY [(1,aY (i1.h 0).1 (i1.h 0).2 r2.2.rows.length),(2,aY (i1.h 1).1 (i1.h 1).2 r2.2.width.length)]) 77 b1 r2.2,gh fG 31 (i1.h 0).1 (i1.h 0).2 r2.2.rows,gh cM 3 (i1.h 1).1 (i1.h 1).2 r2.2.width]) (Gf:=fun rows=>[(2,bH aX l),(8,tV (aE b1 0)),(9,tV (uv b2)),(10,bS (i:Int)),(12,cy (d6) rows),(52,cy (aq) l.j'),(53,iQ l.j'),(54,bS (i:Int))]) (fun rows h=>?_) (fun K1=>?_)
      ·skip;refine aQ<|bq dC Y<|bj Y<|cC h ajA (aaM _ _) (bN Y) fun r3 h=>bj Y<|bL Y Y<|bL Y Y<|ax dC fU Y fun b4=>aW dC af Y<|aA 14 Y<|aS Y<|aQ<|bq dC Y<|cC h ajz (aaL _) (bN Y) fun r4 h=>bj Y<|bL Y Y<|bL Y Y<|iH Y ?_;refine aS Y<|cj h fun l3 q_l3 h=>cj h fun l4 q_l4 h=>?_;refine jQ 20 [tc (tV (aE b1 0)),tc (tV (aE b1 0)),tc (tV (aE b1 0)),tc (tV (aE b1 0)),tc (tV (aE b1 1)),tc (tO fG (i1.h 0).1 (i1.h 0).2 r2.2.rows),tc (cy (d6) rows),tc (cy (fG) ([rows])),([8],fun s=>tO fG ((s.getD 0 tA).h 0).1 ((s.getD 0 tA).h 0).2 l3),tc (tV (aE b1 0)),tc (tV (aE b1 0)),tc (tV (aE b1 2)),tc (tO cM (i1.h 1).1 (i1.h 1).2 r2.2.width),tc (oA r4.1),tc (iQ r4.1),tc (oA ([(r4.1.length:Int)])),([16],fun s=>tO cM ((s.getD 0 tA).h 0).1 ((s.getD 0 tA).h 0).2 l4),tc (tV (aE b1 0)),tc (tV (aE b1 1)),tc (Bf)] [false,false,false,false,false,false,false,false,true,false,false,false,false,false,false,false,true,false,false,true] [([],fun _=>[tF (CO (fun y:(fO->ai->Option (((List (List ac))×Int)×fO))=>ij aP wQ (nL b1) xw y)) qh b2 none os7 zk1,bx (rH iY [(1,aY (i1.h 0).1 (i1.h 0).2 r2.2.rows.length),(2,aY (i1.h 1).1 (i1.h 1).2 r2.2.width.length)]) 77 b1 r2.2,gh fG 31 (i1.h 0).1 (i1.h 0).2 r2.2.rows,gh cM 3 (i1.h 1).1 (i1.h 1).2 r2.2.width]),([8],fun sg=>[gh fG 31 ((sg 8).h 0).1 ((sg 8).h 0).2 l3,tF (CO (fun y:(fO->ai->Option (((List (List ac))×Int)×fO))=>ij aP wQ (nL b1) xw y)) qh b2 none os7 zk1,bx (rH iY [(1,aY (i1.h 0).1 (i1.h 0).2 r2.2.rows.length),(2,aY (i1.h 1).1 (i1.h 1).2 r2.2.width.length)]) 77 b1 r2.2,gh cM 3 (i1.h 1).1 (i1.h 1).2 r2.2.width]),([8,16],fun sg=>[gh cM 3 ((sg 16).h 0).1 ((sg 16).h 0).2 l4,gh fG 31 ((sg 8).h 0).1 ((sg 8).h 0).2 l3,tF (CO (fun y:(fO->ai->Option (((List (List ac))×Int)×fO))=>ij aP wQ (nL b1) xw y)) qh b2 none os7 zk1,bx (rH iY [(1,aY (i1.h 0).1 (i1.h 0).2 r2.2.rows.length),(2,aY (i1.h 1).1 (i1.h 1).2 r2.2.width.length)]) 77 b1 r2.2]),([8,16,19],fun sg=>[bx (rH iY [(1,aY ((sg 8).h 0).1 ((sg 8).h 0).2 l3.length),(2,aY (i1.h 1).1 (i1.h 1).2 r2.2.width.length)]) 77 b1 ({r2.2 with rows:=l3}:fO),gh cM 3 ((sg 16).h 0).1 ((sg 16).h 0).2 l4,gh fG 31 ((sg 8).h 0).1 ((sg 8).h 0).2 l3,tF (CO (fun y:(fO->ai->Option (((List (List ac))×Int)×fO))=>ij aP wQ (nL b1) xw y)) qh b2 none os7 zk1])] (fun _=>Y) mixed Y Y Y Y
        ⟨⟨[⟨8,fun _=>tV (aE b1 0),none⟩],_,[[],[8],[8,16]],Y,⟨(fun _=>Y),Z⟩,Y,Y,Y,Y,Y,⟨fun sg=>ae Y (l0 Y),fun sg=>ae Y (l0 Y),fun sg=>ae Y (l0 Y),Z⟩⟩,
        ⟨⟨[⟨8,fun _=>tV (aE b1 0),none⟩],_,[[],[8],[8,16],[8,16,19]],Y,⟨(fun _=>Y),Z⟩,Y,Y,Y,Y,Y,⟨fun sg=>ae Y (l0 Y),fun sg=>ae Y (l0 Y),fun sg=>ae Y (l0 Y),fun sg=>ae Y (l0 Y),Z⟩⟩,
        ⟨⟨[⟨8,fun _=>tV (aE b1 0),none⟩],_,[[]],Y,⟨(fun _=>Y),Z⟩,Y,Y,Y,Y,Y,⟨fun sg=>ae Y (l0 Y),Z⟩⟩,
        ⟨⟨[⟨99,fun _=>tV (aE b1 0),some 2⟩],_,[[]],Y,⟨(fun _=>Y),Z⟩,Y,Y,Y,Y,Y,⟨fun sg=>ae Y (eK (J Y)),Z⟩⟩,
        ⟨⟨[⟨100,fun _=>tV (aE b1 0),some 3⟩],_,[[]],Y,⟨(fun _=>Y),Z⟩,Y,Y,Y,Y,Y,⟨fun sg=>ae Y (rP 1 wx Y Y Y),Z⟩⟩,
        ⟨⟨[⟨101,fun _=>tV (aE b1 1),some 4⟩],_,[[]],Y,⟨(fun _=>Y),Z⟩,Y,Y,Y,Y,Y,⟨fun sg=>ae Y (eS Be Y (.tail _ (.head _)) (.tail _ (.tail _ (.head _))) (J Y)),Z⟩⟩,
        ⟨⟨[⟨12,fun _=>Q fG rows,none⟩],_,[[]],Y,⟨(fun _=>Y),Z⟩,Y,Y,Y,Y,Y,⟨fun sg=>ae Y (l0 Y),Z⟩⟩,
        ⟨⟨[⟨103,fun _=>Q fG rows,some 6⟩],_,[[]],Y,⟨(fun _=>Y),Z⟩,Y,Y,Y,Y,Y,⟨fun sg=>ae Y (aK (r:=fG) (ys:=[rows]) (xs:=[.tmp 103]) rN ki Y Y Y Y Y ⟨(J Y),Z⟩),Z⟩⟩,
        ⟨⟨[⟨102,fun _=>tO fG (i1.h 0).1 (i1.h 0).2 r2.2.rows,some 5⟩,⟨104,fun _=>Q (gM fG) ([rows]),some 7⟩],_,[([],[8])],Y,⟨(fun _=>Y),(fun _=>Y),Z⟩,Y,Y,Y,Y,Y,⟨fun sg=>cw Y (fr2 (zN ki Y Y Y Y rN Y (J Y) (J Y) q_l3)),Z⟩⟩,
        ⟨⟨[⟨8,fun _=>tV (aE b1 0),none⟩],_,[[],[8]],Y,⟨(fun _=>Y),Z⟩,Y,Y,Y,Y,Y,⟨fun sg=>ae Y (l0 Y),fun sg=>ae Y (l0 Y),Z⟩⟩,
        ⟨⟨[⟨106,fun _=>tV (aE b1 0),some 9⟩],_,[[],[8]],Y,⟨(fun _=>Y),Z⟩,Y,Y,Y,Y,Y,⟨fun sg=>ae Y (eK (J Y)),fun sg=>ae Y (eK (J Y)),Z⟩⟩,
        ⟨⟨[⟨107,fun _=>tV (aE b1 0),some 10⟩],_,[[],[8]],Y,⟨(fun _=>Y),Z⟩,Y,Y,Y,Y,Y,⟨fun sg=>ae Y (rP 2 Qq Y Y Y),fun sg=>ae Y (rP 2 Qq Y Y Y),Z⟩⟩,
        ⟨⟨[⟨108,fun _=>tV (aE b1 2),some 11⟩],_,[[],[8]],Y,⟨(fun _=>Y),Z⟩,Y,Y,Y,Y,Y,⟨fun sg=>ae Y (eS fS Y (.tail _ (.head _)) (.tail _ (.tail _ (.tail _ (.head _)))) (J Y)),fun sg=>ae Y (eS fS Y (.tail _ (.tail _ (.head _))) (.tail _ (.tail _ (.tail _ (.head _)))) (J Y)),Z⟩⟩,
        ⟨⟨[⟨16,fun _=>Q Bc r4.1,none⟩],_,[[],[8]],Y,⟨(fun _=>Y),Z⟩,Y,Y,Y,Y,Y,⟨fun sg=>ae Y (l0 Y),fun sg=>ae Y (l0 Y),Z⟩⟩,
        ⟨⟨[⟨110,fun _=>Q Bc r4.1,some 13⟩],_,[[],[8]],Y,⟨(fun _=>Y),Z⟩,Y,Y,Y,Y,Y,⟨fun sg=>ae Y (XN iG Y),fun sg=>ae Y (XN iG Y),Z⟩⟩,
        ⟨⟨[⟨111,fun _=>Q cM (r4.1.length:Int),some 14⟩],_,[[],[8]],Y,⟨(fun _=>Y),Z⟩,Y,Y,Y,Y,Y,⟨fun sg=>ae Y (aK (r:=cM) (ys:=[(r4.1.length:Int)]) (xs:=[.tmp 111]) iG cz Y Y Y Y Y ⟨(J Y),Z⟩),fun sg=>ae Y (aK (r:=cM) (ys:=[(r4.1.length:Int)]) (xs:=[.tmp 111]) iG cz Y Y Y Y Y ⟨(J Y),Z⟩),Z⟩⟩,
        ⟨⟨[⟨109,fun _=>tO cM (i1.h 1).1 (i1.h 1).2 r2.2.width,some 12⟩,⟨112,fun _=>Q Bc ([(r4.1.length:Int)]),some 15⟩],_,[([8],[8,16])],Y,⟨(fun _=>Y),(fun _=>Y),Z⟩,Y,Y,Y,Y,Y,⟨fun sg=>cw Y (fr3 (zN cz Y Y Y Y iG Y (J Y) (J Y) q_l4)),Z⟩⟩,
        ⟨⟨[⟨97,fun _=>tV (aE b1 0),some 0⟩],_,[[8,16]],Y,⟨(fun _=>Y),Z⟩,Y,Y,Y,Y,Y,⟨fun sg=>ae Y (eK (J Y)),Z⟩⟩,
        ⟨⟨[⟨114,fun _=>tV (aE b1 0),some 17⟩],_,[[8,16]],Y,⟨(fun _=>Y),Z⟩,Y,Y,Y,Y,Y,⟨fun sg=>ae Y (rP 1 wx Y Y Y),Z⟩⟩,
        ⟨⟨[⟨115,fun _=>tV (aE b1 1),some 18⟩,⟨105,fun sg=>tO fG ((sg 8).h 0).1 ((sg 8).h 0).2 l3,some 8⟩],_,[([8,16],[8,16,19])],Y,⟨(fun _=>Y),(fun _=>Y),Z⟩,Y,Y,Y,Y,Y,⟨fun sg=>cw Y (fr3 (BK (hs' :=[(1,aY ((sg 8).h 0).1 ((sg 8).h 0).2 l3.length),(2,aY (i1.h 1).1 (i1.h 1).2 r2.2.width.length)]) (u:=aY ((sg 8).h 0).1 ((sg 8).h 0).2 l3.length) Be Y Y Zw Y ⟨.inl ⟨Y,Y,Y⟩,.inr ⟨Y,Y⟩,Z⟩ (J Y) (kX (J Y)) (Cx (J Y)))),Z⟩⟩,
        Z⟩⟩⟩⟩⟩⟩⟩⟩⟩⟩⟩⟩⟩⟩⟩⟩⟩⟩⟩⟩ (fun sg=>?_)
       refine(show RG _ _ _ _ [_,_,_,_] _ from ?_);refine T (eK (J Y))<|cL 2 Qq Y<|zR (BK (hs' :=[(1,aY ((sg 8).h 0).1 ((sg 8).h 0).2 l3.length),(2,aY ((sg 16).h 0).1 ((sg 16).h 0).2 l4.length)]) (u:=aY ((sg 16).h 0).1 ((sg 16).h 0).2 l4.length) fS Y Y Zv Y ⟨.inr ⟨Y,Y⟩,.inl ⟨Y,Y,Y⟩,Z⟩ (J Y) (kX (J Y)) (Cx (J Y))) fun i2=>?_;refine(show RG _ _ _ _ [_,_,_,_] _ from ?_);refine bD<|cV V hN Y<|bv<|aH<|aH<|cv ?_;exact bg (aI (ih (i+1) ({r2.2 with rows:=l3,width:=l4}:fO) ((sg 8).h 0).1 ((sg 8).h 0).2 ((sg 16).h 0).1 ((sg 16).h 0).2 ⟨cJ V,h⟩) (bA Y))
      ·skip;refine aQ<|bX qF iD cz Y<|gw Y<|cn h Y (fun h=>?_) (fun h=>?_)
       ·refine aG<|bj Y<|cC h amg (ahA _) (bN Y) fun r5 h=>bj Y<|bL Y Y<|bL Y Y<|iH Y<|bD ?_;exact cQ (K1 r5.1 h) (bA Y)
       ·refine bO ?_;exact cQ (K1 r2.1.1 h) (bA Y)
    ·skip;refine aD Y<|dA Y<|bj Y<|bk Y (fa Y)<|bk Y (vi nP Y)<|bk Y (fun hg=>oI (db Y hg) hI)<|i9 Y<|cn h Y (fun h=>?_) (fun h=>?_)
     ·refine aG<|bU<|bD<|aH<|aH<|aH<|cv ?_;exact cQ (K 3 h) (bA Y)
     ·refine bO<|aH<|aH<|aH<|cv ?_;exact cQ (K r2.1.2 h) (bA Y)
