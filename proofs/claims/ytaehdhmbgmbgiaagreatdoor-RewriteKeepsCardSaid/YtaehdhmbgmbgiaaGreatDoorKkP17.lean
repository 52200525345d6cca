import Derived.Test.YtaehdhmbgmbgiaaGreatDoorKkT
import Derived.Test.YtaehdhmbgmbgiaaGreatDoorKkP16
set_option linter.all false
namespace Go.Proofs.YtaehdhmbgmbgiaaGreatDoor
open Go IntKind Tryz
set_option maxRecDepth 100000
def U5 a1 b{R}(h:ql a1 b=some R):bZ aP 46 [cy (ah) a1,cy (ah) b] (bS R):=by
 refine cx func46 Y<|aQ<|bU<|bI<|bc<|bj Y<|cC h ah8 (UZ _) (bN Y) fun r h=>T (jj (J Y))<|bj Y<|cj h fun t r_ h=>co Y (fa Y) ?_;obtain⟨r1,g_,s_⟩:=og r_;have k_:=fun H=>(g_ H).1;refine co Y (fun hg=>bG ah8 (UZ _ (k_ hg)) ⟨(db Y hg),Z⟩)<|co Y (yH Y)<|T (nt (J Y) (fun H=>(db Y (Ea H))) (fun H=>(g_ H).2) s_)<|cn h Y (fun h=>?_) (fun h=>?_)
 ·exact aQ<|dd<|am<|so h▸aM Y Y
 ·exact iq<|aD Y<|bj Y<|cC h aeJ (Qu _ _) (bN Y) fun r2 h=>bf Y<|so h▸aM Y Y
def UX a1 b{R}(h:lh a1 b=some R):bZ aP 98 [Q ah a1,Q ah b] (bS R):=by
 exact cx func98 Y<|aQ<|cg Y<|cg Y<|bU<|bI<|aQ<|bq aT Y<|T (aK (r:=ah) (ys:=[a1]) (xs:=[.tmp 5]) oT aT Y Y Y Y Y ⟨(J Y),Z⟩)<|bq aT Y<|T (aK (r:=ah) (ys:=[b]) (xs:=[.tmp 7]) oT aT Y Y Y Y Y ⟨(J Y),Z⟩)<|cC h aif (U5 _ _) (bN Y) fun r h=>bf Y<|so h▸aM Y Y
def ag4 p cmp{R}(h:iv p cmp=some R):bZ aP 99 [cy (ah) p,(eD aP u7 D3 (fun(x:ac×ac)=>cmp x.1 x.2))] (Q ah R):=by
 refine cx func99 Y<|aQ<|ax aT bK Y fun b=>bI ?_;refine A1 (ay:=jB p cmp=some R) (Of:=[bx ah 72 b tL]) (Gf:=[(0,cy (ah) p),(1,(eD aP u7 D3 (fun(x:ac×ac)=>cmp x.1 x.2))),(4,tV (aE b 0))]) (fun h=>?_) (fun K=>?_)
 ·skip;refine aD Y<|cj h fun e i_ h=>T (bn li aT Y (J Y) hI i_)<|bq aT Y<|ax aT bK Y fun b1=>aW aT af Y<|bI<|bc<|bU<|bI<|an<|bm (k:=0) Y fun hN=>bM<|dm ?_;refine aI (jP (ay:=fun ls i m=>(p.drop i=ls)/\dS cmp ls m=some R) (Of:=fun _ i m=>[bx ah 72 b tL,bx ah 72 b1 m]) (Gf:=fun _ i m=>[(0,cy (ah) p),(1,(eD aP u7 D3 (fun(x:ac×ac)=>cmp x.1 x.2))),(4,tV (aE b 0)),(5,tV (aE b1 0)),(6,bS (i:Int))]) (fun i m h=>?_) (fun e1 tl ih i m h=>?_) (p.drop (1)) 1 e ⟨Y,h⟩) (bA Y)
  ·obtain⟨V,h⟩:=h;refine ae7 li V Y<|aw<|aQ<|T (bP aT Y Y bT (.tail _ (.head _)) (J Y))<|aW aT af Y<|aA 4 Y<|cX ?_;exact aO<|so h▸iM Y aT Y Y Y
  ·obtain⟨V,h⟩:=h;refine ae6 li V Y<|aC<|an<|aC<|cj h fun r h_ h=>?_;refine nQ (ts:=[_,_,_,_,_,_,_,_]) mixed Y Y
    ⟨eX Y Y,
    ⟨eX Y Y,
    ⟨eX Y Y,
    ⟨dX 21 1 22 2 Y Y Y (Ky li aT Y Y Y (de V)),
    ⟨fm 3 aT Y Y,
    ⟨oq 5 Y Y (bP aT Y Y bT (.tail _ (.head _)) (J Y)),
    ⟨Kz 20 0 24 4 25 5 Y Y Y Y (hZ (args:=u7) (res:=abU) (f:=(fun(x:ac×ac)=>cmp x.1 x.2)) (x:=((e1,m):ac×ac)) (J Y) h_ ⟨(J Y),(J Y),Z⟩),
    ⟨dy 26 6 Y Y (oI (J Y) hI),
    Z⟩⟩⟩⟩⟩⟩⟩⟩ ?_
   refine aw<|px h Y (fun h=>?_) (fun h=>?_)
   ·refine aG<|bj Y<|bj Y<|d8 li aT Y (de V)<|bo<|aW aT af Y<|bD<|NZ V hN Y<|bv ?_;exact bg (aI (ih (i+1) e1 ⟨cJ V,h⟩) (bA Y))
   ·refine bO<|NZ V hN Y ?_;exact bg (aI (ih (i+1) m ⟨cJ V,h⟩) (bA Y))
 ·skip;refine aD Y<|ca li Y<|T (jk (J Y) hI)<|cn h Y (fun h=>?_) (fun h=>?_)
  ·refine aG ?_;exact(nn h).elim
  ·refine bO ?_;exact cQ (K h) (bA Y)
def ahp a1 rows{R}(h:qb a1 rows=some R):bZ aP 57 [Q eI a1,cy (d6) rows] (tT [Q ah R.1,bS R.2]):=by
 refine cx func57 Y<|aQ<|cg Y<|ax aT bK Y fun b=>bU<|bI<|bc<|bX BB vH cz Y<|dA Y<|cn h Y (fun h=>?_) (fun h=>?_)
 ·exact aD Y<|ca nP Y<|cC h abi (Mk _) (bN Y) fun r h=>aW aT af Y<|dd<|am<|aF 4 Y<|so h▸br Y Y ⟨aU aT Y Y Y,aL Y,Z⟩
 ·refine iq<|aQ<|bq vo Y<|bj Y<|cC h alM (ag9 _ _) (bN Y) fun r1 h=>bj Y<|bL Y Y<|bL Y Y<|iH Y<|aS Y<|bc<|bj Y<|dA Y<|cn h Y (fun h=>?_) (fun h=>?_)
  ·exact aQ<|T (bW aT wu bK Y)<|bj Y<|aW aT af Y<|bf Y<|am<|aF 4 Y<|so h▸br Y Y ⟨aU aT Y Y Y,aL Y,Z⟩
  ·refine iq<|aQ<|T (bu (show be _ _ _ ((eD aP F5 nG (fun(x:ac)=>qM x)))from(A3 alL fun x y h=>ag8 _ h)))<|bI<|aC<|an<|aQ<|bX BB vH cz Y<|dA Y<|bj Y<|cj h fun t r_ h=>bk Y (fa Y)<|bk Y (fa Y) ?_;obtain⟨r2,g_,s_⟩:=og r_;have q_r2g:=fun H=>(g_ H).1;refine bk Y (fun hg=>bG alK (ag7 _ _ (q_r2g hg)) ⟨(db Y hg),(db Y hg),Z⟩)<|T (ee (J Y) (fun H=>(db Y H)) (fun H=>(g_ H).2) s_)<|aS Y<|px h Y (fun h=>?_) (fun h=>?_)
   ·exact aQ<|T (bW aT wu bK Y)<|aW aT af Y<|dd<|cR<|aF 4 Y<|so h▸br Y Y ⟨aU aT Y Y Y,aL Y,Z⟩
   ·refine aD Y<|gw Y<|aS Y<|px h Y (fun h=>?_) (fun h=>?_)
    ·exact aQ<|T (bW aT wu bK Y)<|bj Y<|aW aT af Y<|bf Y<|cR<|aF 4 Y<|so h▸br Y Y ⟨aU aT Y Y Y,aL Y,Z⟩
    ·refine aQ<|bX BB vH cz Y<|dA Y<|aS Y<|px h Y (fun h=>?_) (fun h=>?_)
     ·exact aD Y<|ca li Y<|cC h abi (Mk _) (bN Y) fun r3 h=>aW aT af Y<|dd<|cR<|aF 4 Y<|so h▸br Y Y ⟨aU aT Y Y Y,aL Y,Z⟩
     ·refine aQ<|bX BB vH cz Y<|dA Y<|aS Y<|px h Y (fun h=>?_) (fun h=>?_)
      ·exact aD Y<|cC h alJ (ag6 _) (bN Y) fun r4 h=>bL Y Y<|bL Y Y<|aW aT af Y<|bf Y<|cR<|aF 4 Y<|so h▸br Y Y ⟨aU aT Y Y Y,aL Y,Z⟩
      ·refine aD Y<|ca li Y<|dA Y<|aS Y<|px h Y (fun h=>?_) (fun h=>?_)
       ·exact aQ<|T (bW aT wu bK Y)<|aW aT af Y<|dd<|cR<|aF 4 Y<|so h▸br Y Y ⟨aU aT Y Y Y,aL Y,Z⟩
       ·refine aQ<|bX BB vH cz Y<|dA Y<|aS Y<|px h Y (fun h=>?_) (fun h=>?_)
        ·exact aD Y<|cC h alI (ag5 _ _) ⟨(J Y),(A3 ah5 fun x y h=>UX _ _ h),Z⟩ fun r5 h=>aW aT af Y<|dd<|cR<|aF 4 Y<|so h▸br Y Y ⟨aU aT Y Y Y,aL Y,Z⟩
        ·exact bO<|bt<|aw<|aD Y<|cC h alH (ag4 _ _) ⟨(J Y),(A3 ah5 fun x y h=>UX _ _ h),Z⟩ fun r6 h=>aW aT af Y<|dd<|aF 4 Y<|so h▸br Y Y ⟨aU aT Y Y Y,aL Y,Z⟩
def ajg(b:Nat)(ix:OI) r n{R}(h:mH r n=some R):dZ aP 29 [tV (aE b 0),Q aq n] (nL b r ix) (fun _:OI=>tT [cy (d6) R.1,bS R.2]) (fun _=>(nL b r ix)):=by
 refine dZ.of func29 Y Y Y fun w0 S0=>?_;refine(show CG _ _ _ [bx (rH iY [(1,aY (ix.h 0).1 (ix.h 0).2 r.rows.length),(2,aY (ix.h 1).1 (ix.h 1).2 r.width.length)]) 77 b r,gh fG 31 (ix.h 0).1 (ix.h 0).2 r.rows,gh cM 3 (ix.h 1).1 (ix.h 1).2 r.width] _ from ?_);refine aQ<|cg Y<|kq (d6)<|bU<|bI<|aC<|cj h fun e i_ h=>cj h fun r1 a_ h=>?_;refine nQ (ts:=[_,_,_,_,_,_,_,_,_,_,_,_,_,_,_,_]) mixed Y Y
  ⟨eX Y Y,
  ⟨dy 17 0 Y Y (eK (J Y)),
  ⟨dy 18 1 Y Y (rP 1 wx Y Y Y),
  ⟨dy 19 2 Y Y (eS Be Y (.head _) (.tail _ (.head _)) (J Y)),
  ⟨oq 3 Y Y (mW k5 eE Y Y),
  ⟨fm 4 cz Y Y,
  ⟨dX 20 3 22 5 Y Y Y (bn rN ki Y (kX (J Y)) (J Y) i_),
  ⟨fm 6 ki Y Y,
  ⟨oq 3 Y Y (mW uy nv Y Y),
  ⟨fm 8 fS Y Y,
  ⟨dX 24 7 26 9 Y Y Y (bG al7 (ahq _ _ a_) ⟨(J Y),(J Y),Z⟩),
  ⟨dy 27 10 Y Y (l0 Y),
  ⟨dy 16 11 Y Y (yi Y Y),
  ⟨dy 16 11 Y Y (yi Y Y),
  ⟨dy 28 12 Y Y (Aj Y),
  ⟨dy 29 13 Y Y (Aj Y),
  Z⟩⟩⟩⟩⟩⟩⟩⟩⟩⟩⟩⟩⟩⟩⟩⟩ ?_
 refine aw<|bc<|bj Y<|gw Y<|cn h Y (fun h=>?_) (fun h=>?_)
 ·exact aD Y<|kq (d6)<|bf Y<|am<|aH<|aH<|aH<|so h▸gI (ts:=[cy (d6) ([]),bS r1.2]) (rvs:=[.tmp 4,.tmp 5]) Y Y ⟨aL Y,aL Y,Z⟩ tA Y Y
 ·refine iq ?_;refine j8 (ay:=fun groups=>pH n groups=some R) (Of:=fun groups=>[bx (rH iY [(1,aY (ix.h 0).1 (ix.h 0).2 r.rows.length),(2,aY (ix.h 1).1 (ix.h 1).2 r.width.length)]) 77 b r,gh fG 31 (ix.h 0).1 (ix.h 0).2 r.rows,gh cM 3 (ix.h 1).1 (ix.h 1).2 r.width]) (Gf:=fun groups=>[(3,bH aq n),(6,cy (jO) groups)]) (fun groups h=>?_) (fun K=>?_)
  ·skip;refine aQ<|bJ false d6 68<|T (bu tK)<|bI<|bc<|bj Y<|ca NU Y<|T (bQ hI)<|bI<|an<|bm (k:=44) Y fun hN=>bM ?_;refine aI (kT (ay:=fun ls i out l c=>(groups.drop i=ls)/\iU n ls out=some R) (Of:=fun _ i out l c=>[eV d6 68 l c out,bx (rH iY [(1,aY (ix.h 0).1 (ix.h 0).2 r.rows.length),(2,aY (ix.h 1).1 (ix.h 1).2 r.width.length)]) 77 b r,gh fG 31 (ix.h 0).1 (ix.h 0).2 r.rows,gh cM 3 (ix.h 1).1 (ix.h 1).2 r.width]) (Gf:=fun _ i out l c=>[(3,bH aq n),(8,rr l c out),(44,cy (jO) groups),(45,iQ groups),(46,bS (i:Int))]) (fun i out l c h=>?_) (fun e1 tl ih i out l c h=>?_) groups 0 Kx none 0 ⟨Y,h⟩) (bA Y)
   ·obtain⟨V,h⟩:=h;refine dq V Y<|aw<|aD Y<|iH Y<|dd<|mK<|dn 8 Y<|dn 80 Y ?_;exact dn 4 Y<|mL 4 Y<|aO<|aH<|aH<|aH<|so h▸gI (ts:=[cy (d6) out,bS 0]) (rvs:=[.tmp 4,.tmp 5]) Y Y ⟨aL Y,aL Y,Z⟩ tA Y Y
   ·obtain⟨V,h⟩:=h;refine dp V Y<|aC<|an<|aQ<|d8 NU ID Y (de V)<|ax ID Ku Y fun b1=>aW ID af Y<|aA 10 Y<|bI<|aQ<|vh acV UT Y ?_;refine bq ja Y<|pz h aid (Qw _) (bN Y) fun r2 h l1 c1=>aS Y<|bc<|bX rz qz Cv Y<|ca wO Y<|T (bQ hI)<|bI<|an<|bm (k:=54) Y fun hN1=>bM<|mJ<|mJ<|mJ<|jL<|mJ ?_;refine aI (kT (ay:=fun ls1 i1 x l2 c2=>(n.M'.drop i1=ls1)/\lP (iU n tl) e1 out ls1 x=some R) (Of:=fun _ i1 x l2 c2=>[eV d6 68 l c out,eV ah 72 l2 c2 x,bx (rH iY [(1,aY (ix.h 0).1 (ix.h 0).2 r.rows.length),(2,aY (ix.h 1).1 (ix.h 1).2 r.width.length)]) 77 b r,gh fG 31 (ix.h 0).1 (ix.h 0).2 r.rows,gh cM 3 (ix.h 1).1 (ix.h 1).2 r.width]) (Gf:=fun _ i1 x l2 c2=>[(3,bH aq n),(8,rr l c out),(10,bH jO e1),(11,rr l2 c2 x),(44,cy (jO) groups),(45,iQ groups),(46,bS (i:Int)),(54,cy (eI) n.M'),(55,iQ n.M'),(56,bS (i1:Int))]) (fun i1 x l2 c2 h=>?_) (fun e2 tl1 ih1 i1 x l2 c2 h=>?_) n.M' 0 r2 l1 c1 ⟨Y,h⟩) (bA Y)
    ·obtain⟨Z',h⟩:=h;refine dq Z' Y<|aw<|aG<|bj Y<|bj Y<|bo<|gk<|gW 11 Y<|gW 76 Y<|T (aK (r:=d6) (ys:=[x]) (xs:=[.tmp 76]) nP ja Y Y Y Y Y ⟨(kX (J Y)),Z⟩)<|bo<|cj h fun L' l_ h=>cD ja Y Y Y Y nP Y Y (J Y) (J Y) l_ fun l3 c3=>?_;refine iH Y<|bD<|cV V hN Y<|bv<|aO ?_;exact bg (aI (ih (i+1) L' l3 c3 ⟨cJ V,h⟩) (bA Y))
    ·obtain⟨Z',h⟩:=h;refine dp Z' Y<|aC<|an<|aQ<|d8 wO vo Y (de Z')<|ax vo Kv Y fun b2=>aW vo af Y<|aA 13 Y<|bI<|aQ<|bq vo Y ?_;refine bX acU US ki Y<|cC h al6 (ahp _ _) (bN Y) fun r3 h=>bj Y<|bL Y Y<|bL Y Y<|ax aT bK Y fun b3=>aW aT af Y<|aA 14 Y<|aS Y<|bc<|bj Y<|gw Y<|cn h Y (fun h=>?_) (fun h=>?_)
     ·exact aD Y<|kq (d6)<|bf Y<|am<|cR<|am<|cR<|cR<|am<|cR<|aO<|aO<|aH<|aH<|aH<|so h▸gI (ts:=[cy (d6) ([]),bS r3.2]) (rvs:=[.tmp 4,.tmp 5]) Y Y ⟨aL Y,aL Y,Z⟩ tA Y Y
     ·refine iq<|aG<|bj Y<|bq aT Y<|T (aK (r:=ah) (ys:=[r3.1]) (xs:=[.tmp 71]) oT aT Y Y Y Y Y ⟨(J Y),Z⟩)<|bo<|cj h fun x1 q_x1 h=>cD aT Y Y Y Y oT Y Y (J Y) (J Y) q_x1 fun l4 c4=>iH Y<|bD<|cV Z' hN1 Y<|cU<|cU<|cU<|cv<|cU ?_;exact bg (aI (ih1 (i1+1) x1 l4 c4 ⟨cJ Z',h⟩) (bA Y))
  ·skip;refine aQ<|bX uy nv fS Y<|ca iG Y<|dA Y<|bj Y<|bk Y (fa Y)<|bk Y (vi NU Y)<|bk Y (qT Y)<|i9 Y<|cn h Y (fun h=>?_) (fun h=>?_)
   ·refine aG<|T (bW ID afn Ku Y)<|T (aK (r:=jO) (ys:=[(⟨[],[]⟩:k6)]) (xs:=[.tmp 42]) NU ID Y Y Y Y Y ⟨(J Y),Z⟩)<|iH Y<|bD ?_;exact cQ (K ([(⟨[],[]⟩:k6)]) h) (bA Y)
   ·refine bO ?_;exact cQ (K r1.1 h) (bA Y)
def ajf(b:Nat)(ix:OI) r n{R}(h:mG r n=some R):dZ aP 30 [tV (aE b 0),Q aq n] (nL b r ix) (fun _:OI=>tT [cy (d6) R.1,bS R.2]) (fun _=>(nL b r ix)):=by
 refine dZ.of func30 Y Y Y fun w0 S0=>?_;refine(show CG _ _ _ [bx (rH iY [(1,aY (ix.h 0).1 (ix.h 0).2 r.rows.length),(2,aY (ix.h 1).1 (ix.h 1).2 r.width.length)]) 77 b r,gh fG 31 (ix.h 0).1 (ix.h 0).2 r.rows,gh cM 3 (ix.h 1).1 (ix.h 1).2 r.width] _ from ?_);refine aQ<|cg Y<|kq (d6)<|bU<|bI<|aQ<|bJ false d6 68<|T (bu tK)<|bI<|aC<|aC<|cj h fun e i_ h=>?_;refine nQ (ts:=[_,_,_,_,_,_,_,_,_,_]) mixed Y Y
  ⟨eX Y Y,
  ⟨dy 14 0 Y Y (eK (J Y)),
  ⟨dy 15 1 Y Y (rP 1 wx Y Y Y),
  ⟨dy 16 2 Y Y (eS Be Y (.tail _ (.head _)) (.tail _ (.tail _ (.head _))) (J Y)),
  ⟨oq 3 Y Y (mW k5 eE Y Y),
  ⟨fm 4 cz Y Y,
  ⟨dX 17 3 19 5 Y Y Y (bn rN ki Y (kX (J Y)) (J Y) i_),
  ⟨fm 6 ki Y Y,
  ⟨dy 21 7 Y Y (XN nP Y),
  ⟨Q6 Y (bQ hI),
  Z⟩⟩⟩⟩⟩⟩⟩⟩⟩⟩ ?_
 refine aw<|an<|bm (k:=21) Y fun hN=>bM ?_;refine aI (kT (ay:=fun ls i out l c=>(e.drop i=ls)/\i8z n ls out=some R) (Of:=fun _ i out l c=>[eV d6 68 l c out,bx (rH iY [(1,aY (ix.h 0).1 (ix.h 0).2 r.rows.length),(2,aY (ix.h 1).1 (ix.h 1).2 r.width.length)]) 77 b r,gh fG 31 (ix.h 0).1 (ix.h 0).2 r.rows,gh cM 3 (ix.h 1).1 (ix.h 1).2 r.width]) (Gf:=fun _ i out l c=>[(3,bH aq n),(6,rr l c out),(21,cy (d6) e),(22,iQ e),(23,bS (i:Int))]) (fun i out l c h=>?_) (fun e1 tl ih i out l c h=>?_) e 0 Kx none 0 ⟨Y,h⟩) (bA Y)
 ·obtain⟨V,h⟩:=h;refine dq V Y<|aw<|aD Y<|iH Y<|dd<|mK<|dn 6 Y<|dn 53 Y ?_;exact dn 4 Y<|mL 4 Y<|aO<|aH<|aH<|aH<|so h▸gI (ts:=[cy (d6) out,bS 0]) (rvs:=[.tmp 4,.tmp 5]) Y Y ⟨aL Y,aL Y,Z⟩ tA Y Y
 ·obtain⟨V,h⟩:=h;refine dp V Y<|aC<|an<|aQ<|d8 nP ja Y (de V)<|aS Y<|aQ<|bJ false ah 72<|T (bu tK)<|bD ?_;refine aw<|bc<|bX oK kD lT Y<|ca qp Y<|T (bQ hI)<|bI<|an<|bm (k:=28) Y fun hN1=>bM<|mJ<|mJ<|mJ<|jL<|mJ ?_;refine aI (kT (ay:=fun ls1 i1 y l1 c1=>(n.I'.drop i1=ls1)/\j7 (i8z n tl) e1 out ls1 y=some R) (Of:=fun _ i1 y l1 c1=>[eV d6 68 l c out,eV ah 72 l1 c1 y,bx (rH iY [(1,aY (ix.h 0).1 (ix.h 0).2 r.rows.length),(2,aY (ix.h 1).1 (ix.h 1).2 r.width.length)]) 77 b r,gh fG 31 (ix.h 0).1 (ix.h 0).2 r.rows,gh cM 3 (ix.h 1).1 (ix.h 1).2 r.width]) (Gf:=fun _ i1 y l1 c1=>[(3,bH aq n),(6,rr l c out),(8,cy (ah) e1),(9,rr l1 c1 y),(21,cy (d6) e),(22,iQ e),(23,bS (i:Int)),(28,cy (ap) n.I'),(29,iQ n.I'),(30,bS (i1:Int))]) (fun i1 y l1 c1 h=>?_) (fun e2 tl1 ih1 i1 y l1 c1 h=>?_) n.I' 0 Nj none 0 ⟨Y,h⟩) (bA Y)
  ·obtain⟨Z',h⟩:=h;refine dq Z' Y<|aw<|aG<|bj Y<|bj Y<|bo<|gk<|gW 9 Y<|gW 49 Y<|T (aK (r:=d6) (ys:=[y]) (xs:=[.tmp 49]) nP ja Y Y Y Y Y ⟨(kX (J Y)),Z⟩)<|bo<|cj h fun L' l_ h=>cD ja Y Y Y Y nP Y Y (J Y) (J Y) l_ fun l2 c2=>?_;refine iH Y<|bD<|cV V hN Y<|bv<|aO ?_;exact bg (aI (ih (i+1) L' l2 c2 ⟨cJ V,h⟩) (bA Y))
  ·obtain⟨Z',h⟩:=h;refine dp Z' Y<|aC<|an<|aQ<|d8 qp bR Y (de Z')<|ax bR dQ Y fun b1=>aW bR af Y<|aA 11 Y<|bI<|aQ<|bq bR Y ?_;refine bj Y<|cC h aic (U3 _ _) (bN Y) fun r1 h=>bj Y<|bL Y Y<|bL Y Y<|ax aT bK Y fun b2=>aW aT af Y<|aA 12 Y<|aS Y<|bc<|bj Y<|gw Y<|cn h Y (fun h=>?_) (fun h=>?_)
   ·exact aD Y<|kq (d6)<|bf Y<|am<|cR<|am<|cR<|cR<|am<|cR<|aO<|aO<|aH<|aH<|aH<|so h▸gI (ts:=[cy (d6) ([]),bS r1.2]) (rvs:=[.tmp 4,.tmp 5]) Y Y ⟨aL Y,aL Y,Z⟩ tA Y Y
   ·refine iq<|aG<|bj Y<|bq aT Y<|T (aK (r:=ah) (ys:=[r1.1]) (xs:=[.tmp 44]) oT aT Y Y Y Y Y ⟨(J Y),Z⟩)<|bo<|cj h fun y1 m_ h=>cD aT Y Y Y Y oT Y Y (J Y) (J Y) m_ fun l3 c3=>iH Y<|bD<|cV Z' hN1 Y<|cU<|cU<|cU<|cv<|cU ?_;exact bg (aI (ih1 (i1+1) y1 l3 c3 ⟨cJ Z',h⟩) (bA Y))
def Wt l{R}(h:yN l=some R):fE aP 63 [cy (d6) l] false d6 68 R:=by
 refine fE.of func63 Y Y Y fun w0 S0=>aQ<|bJ false d6 68<|T (bu tK)<|bI<|aD Y<|pz h ajs (Wr _) (bN Y) fun r h l1 c=>aS Y<|aD Y<|cj h fun zr J_ h=>?_;refine MJ (n:=r.length) Dc ?_ ah7 ?_ J_ ?_ ?_ ?_ ?_ ?_
 ·rfl
 ·rfl
 ·exact(J Y)
 ·rfl
 ·exact(show be _ _ _ ((eD aP Kw D3 (fun(x:(List ac)×(List ac))=>uH x.1 x.2)))from(A3 aeJ fun x y h=>Qu _ _ h))
 ·rfl
 intro hl;exact t6 hl 5 Y<|t6 hl 3 Y<|t6 hl 6 Y<|bI<|aD Y<|bf Y<|so h▸fP Y Y
def ahW(l:Option Nat)(c:Nat) s eq{R}(h:iz s eq=some R):dZ aP 106 [rr l c s,(eD aP Kw nG (fun(x:(List ac)×(List ac))=>eq x.1 x.2))] [eV d6 68 l c s] (fun i:OI=>rr (i.h 0).1 (i.h 0).2 R) (fun i=>[eV d6 68 (i.h 0).1 (i.h 0).2 R]):=by
 refine dZ.of func106 Y Y Y fun w0 S0=>aQ<|bJ false d6 68<|T (bu tK)<|bI<|bc<|bj Y<|T (fJ nP (.tail _ (.head _)) (J Y))<|T (jk (J Y) hI)<|cn h Y (fun h=>?_) (fun h=>?_)
 ·exact aD Y<|bf Y<|am<|aO<|so h▸nO Y (oi l c) Y Y (fun _ _ h=>h)
 ·refine iq<|bc<|bU<|bI<|an<|gH (.tail _ (.head _)) fun hN=>bM<|pI ?_;refine aI (gG (ay:=fun ls i=>(s.drop i=ls)/\dU s eq ls i=some R) (Of:=fun _ i=>[eV d6 68 l c s]) (Gf:=fun _ i=>[(0,rr l c s),(1,(eD aP Kw nG (fun(x:(List ac)×(List ac))=>eq x.1 x.2))),(5,bS (i:Int))]) (fun i h=>?_) (fun e tl ih i h=>?_) (s.drop (1)) 1 ⟨Y,h⟩) (bA Y)
  ·obtain⟨V,h⟩:=h;exact ig<|bc<|bj Y<|bj Y<|T (fJ nP (.head _) (J Y))<|wS Y<|bI<|vV (J Y) (WX V)<|ji<|bh<|bh<|d5<|aw<|aD Y<|bf Y<|so h▸nO Y (oi l c) Y Y (fun _ _ h=>h)
  ·obtain⟨V,h⟩:=h;refine ig<|bc<|bj Y<|bj Y<|T (fJ nP (.head _) (J Y))<|wS Y<|bI<|vU (J Y) (Td V)<|iq<|aC<|an<|aC<|cj h fun e1 Y' h=>cj h fun r h_ h=>?_;refine nQ (ts:=[_,_,_,_,_,_,_,_,_,_,_]) mixed Y Y
    ⟨eX Y Y,
    ⟨eX Y Y,
    ⟨eX Y Y,
    ⟨dX 19 1 20 2 Y Y Y (ce nP ja (.head _) (J Y) (J Y) (de V)),
    ⟨dy 21 3 Y Y (dj (r:=d6) (i:=(i:Int)) (foff:=0) ja Y Y bT Y (.head _) (de V) (J Y)),
    ⟨eX Y Y,
    ⟨eX Y Y,
    ⟨dy 24 6 Y Y (fq (J Y) hI),
    ⟨dX 23 5 25 7 Y Y Y (ce nP ja (.head _) (J Y) (J Y) Y'),
    ⟨dy 26 8 Y Y (dj (r:=d6) (i:=(i64.wrap ((i:Int)-1))) (foff:=0) ja Y Y bT Y (.head _) Y' (J Y)),
    ⟨Kz 18 0 22 4 27 9 Y Y Y Y (hZ (args:=ab3) (res:=F4) (f:=(fun(x:(List ac)×(List ac))=>eq x.1 x.2)) (x:=((e,e1):(List ac)×(List ac))) (J Y) h_ ⟨(J Y),(J Y),Z⟩),
    Z⟩⟩⟩⟩⟩⟩⟩⟩⟩⟩⟩ ?_
   refine aw<|px h Y (fun h=>?_) (fun h=>?_)
   ·refine aD Y<|bj Y<|cj h fun y j_ h=>T (qn nP ja Y (.head _) (J Y) (J Y) j_)<|pe (.head _) j_ fun hv=>aS Y<|bc<|bU<|bI<|an<|bM ?_;refine aI (Q4 (ay:=fun k1 i1 s1 k=>(y.length-i1=k1)/\dh eq i y k1 i1 s1 k=some R) (Of:=fun _ i1 s1 k=>[eV d6 68 l c s1]) (Gf:=fun _ i1 s1 k=>[(0,rr l c s1),(1,(eD aP Kw nG (fun(x:(List ac)×(List ac))=>eq x.1 x.2))),(5,bS k),(6,tV (sY 1 l c (i:Int).toNat y.length)),(7,bS (i1:Int))]) (fun i1 s1 k h=>?_) (fun k2 ih1 i1 s1 k h=>?_) (y.length-1) 1 s (i:Int) ⟨Y,h⟩) (bA Y)
    ·obtain⟨Z',h⟩:=h;refine ig<|bc<|bj Y<|bj Y<|T (JR nP hv.1 (J Y))<|wS Y<|bI<|vV (J Y) (Z1 Z')<|ji<|bh<|bh<|d5<|aw<|aD Y<|bj Y<|cj h fun y1 m_ h=>T (qn nP ja Y (.head _) (J Y) (J Y) m_)<|pe (.head _) m_ fun hv1=>cj h fun cl U_ h=>?_;exact Pc ja Y Y nP (fun _=>⟨none,0,Y,kG _,nh _,.inl Y⟩) Y m_ (J Y) (so U_)<|fR (DO m_ (so U_)) 0 Y<|fR (DO m_ (so U_)) 59 Y<|bI<|aD Y<|bj Y<|cj h fun y2 q_y2 h=>T (m4 nP ja Y (.head _) (J Y) (J Y) q_y2)<|zh q_y2<|bf Y<|cR<|am<|cR<|so h▸nO Y (oi l c) Y Y (fun _ _ h=>h)
    ·obtain⟨Z',h⟩:=h;refine ig<|bc<|bj Y<|bj Y<|T (JR nP hv.1 (J Y))<|wS Y<|bI<|vU (J Y) (Z0 Z')<|iq<|aC<|an<|aC<|cj h fun e3 e_ h=>cj h fun e4 A_ h=>cj h fun r1 a_ h=>?_;refine nQ (ts:=[_,_,_,_,_,_,_,_,_,_,_,_]) mixed Y Y
      ⟨eX Y Y,
      ⟨eX Y Y,
      ⟨eX Y Y,
      ⟨dX 39 1 40 2 Y Y Y (re nP ja Y (.head _) (yk j_) (J Y) (J Y) e_),
      ⟨dy 41 3 Y Y (dj (r:=d6) (i:=((i:Int)+(i1:Int))) (foff:=0) ja Y Y bT Y (.head _) (wr e_).2.2 (J Y)),
      ⟨eX Y Y,
      ⟨eX Y Y,
      ⟨dy 44 6 Y Y (fq (J Y) hI),
      ⟨dX 43 5 45 7 Y Y Y (re nP ja Y (.head _) (yk j_) (J Y) (J Y) A_),
      ⟨dy 46 8 Y Y (dj (r:=d6) (i:=((i:Int)+(i64.wrap ((i1:Int)-1)))) (foff:=0) ja Y Y bT Y (.head _) (wr A_).2.2 (J Y)),
      ⟨Kz 38 0 42 4 47 9 Y Y Y Y (hZ (args:=ab3) (res:=F4) (f:=(fun(x:(List ac)×(List ac))=>eq x.1 x.2)) (x:=((e3,e4):(List ac)×(List ac))) (J Y) a_ ⟨(J Y),(J Y),Z⟩),
      ⟨dy 48 10 Y Y (jj (J Y)),
      Z⟩⟩⟩⟩⟩⟩⟩⟩⟩⟩⟩⟩ ?_
     refine aw<|px h Y (fun h=>?_) (fun h=>?_)
     ·refine aD Y<|bj Y<|bj Y<|bj Y<|cj h fun e5 p_ h=>T (re nP ja Y (.head _) (yk j_) (J Y) (J Y) p_)<|T (dj (r:=d6) (i:=((i:Int)+(i1:Int))) (foff:=0) ja Y Y bT Y (.head _) (wr p_).2.2 (J Y))<|cj h fun e6 u_ h=>T (ce nP ja (.head _) (J Y) (J Y) u_)<|cj h fun st c_ h=>nm ja Y af Y u_ (so c_) (J Y) (J Y)<|fR (eT (so c_)) 0 Y<|fR (eT (so c_)) 50 Y<|bI<|aG<|bj Y<|T (mC (J Y) hI)<|iH Y<|bD<|bt<|aw ?_;refine aG<|bj Y<|T (xZ (Sn Z' (Z8 hv.2)) (J Y) hI)<|iH Y<|bD ?_;exact bg (aI (ih1 (i1+1) st (i64.wrap (k+1)) ⟨Sl Z',h⟩) (bA Y))
     ·refine bO<|bt<|aw<|aG<|bj Y<|T (xZ (Sn Z' (Z8 hv.2)) (J Y) hI)<|iH Y<|bD ?_;exact bg (aI (ih1 (i1+1) s1 k ⟨Sl Z',h⟩) (bA Y))
   ·refine bO<|NZ V hN Y ?_;exact bg (aI (ih (i+1) ⟨cJ V,h⟩) (bA Y))
