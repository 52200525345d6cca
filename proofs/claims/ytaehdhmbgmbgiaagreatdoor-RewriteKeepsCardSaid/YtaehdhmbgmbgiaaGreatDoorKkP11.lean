import Derived.Test.YtaehdhmbgmbgiaaGreatDoorKkT
import Derived.Test.YtaehdhmbgmbgiaaGreatDoorKkP10
set_option linter.all false
namespace Go.Proofs.YtaehdhmbgmbgiaaGreatDoor
open Go Tryz
set_option maxRecDepth 100000
def ahs rows v'{R}(h:xh rows v'=some R):bZ aP 51 [cy (d6) rows,oA v'] (iF R):=by
 refine cx func51 Y<|aQ<|ck<|bI<|bc<|bj Y<|ca nP Y<|T (oI (J Y) hI)<|cn h Y (fun h=>?_) (fun h=>?_)
 ·exact aQ<|ck<|cX<|am<|so h▸aM Y Y
 ·refine iq<|bc<|bj Y<|ca nP Y<|T (bQ hI)<|bI<|an<|bm (k:=12) Y fun hN=>bM ?_;refine aI (gG (ay:=fun ls i=>(rows.drop i=ls)/\qa v' ls=some R) (Of:=fun _ i=>[]) (Gf:=fun _ i=>[(1,oA v'),(12,cy (d6) rows),(13,iQ rows),(14,bS (i:Int))]) (fun i h=>?_) (fun e tl ih i h=>?_) rows 0 ⟨Y,h⟩) (bA Y)
  ·obtain⟨V,h⟩:=h;exact dq V Y<|aw<|aQ<|ck<|cX<|so h▸aM Y Y
  ·obtain⟨V,h⟩:=h;refine dp V Y<|aC<|an<|aQ<|d8 nP ja Y (de V)<|aS Y<|bc<|bj Y<|ca oT Y ?_;refine bj Y<|ca iG Y<|T (iO (J Y) (J Y))<|cn h Y (fun h=>?_) (fun h=>?_)
   ·exact aQ<|ck<|cX<|am<|cR<|am<|cR<|so h▸aM Y Y
   ·refine iq<|aD Y<|ca oT Y<|T (bQ hI)<|bI<|an<|bm (k:=23) Y fun hN1=>bM ?_;refine aI (gG (ay:=fun ls1 i1=>(e.drop i1=ls1)/\p9 v' (qa v' tl) ls1 i1=some R) (Of:=fun _ i1=>[]) (Gf:=fun _ i1=>[(1,oA v'),(12,cy (d6) rows),(13,iQ rows),(14,bS (i:Int)),(23,cy (ah) e),(24,iQ e),(25,bS (i1:Int))]) (fun i1 h=>?_) (fun e1 tl1 ih1 i1 h=>?_) e 0 ⟨Y,h⟩) (bA Y)
    ·obtain⟨Z',h⟩:=h;refine dq Z' Y<|cV V hN Y ?_;exact bg (aI (ih (i+1) ⟨cJ V,h⟩) (bA Y))
    ·obtain⟨Z',h⟩:=h;refine dp Z' Y<|aC<|an<|aD Y<|d8 oT aT Y (de Z')<|ax aT bK Y fun b=>iH Y<|aW aT af Y<|aA 8 Y<|bI<|aC ?_;refine cj h fun r h_ h=>cj h fun t r_ h=>?_;obtain⟨t1,g_,s_⟩:=og r_;have R_:=fun H=>(g_ H).1;obtain⟨e2,o_,G_⟩:=og3 R_;have E_:=fun H=>(o_ H).1;refine nQ (ts:=[_,_,_,_,_,_,_,_,_,_,_,_,_,_,_,_,_]) mixed Y Y
      ⟨oq 8 Y Y (np aT Y Y),
      ⟨dy 30 0 Y Y (bG abk (Mm _ h_) ⟨(J Y),Z⟩),
      ⟨dy 31 1 Y Y (zni Y),
      ⟨dy 32 2 Y Y (l0 Y),
      ⟨ui 8 33 3 Y Y Y (oW Y Y Y Y (fun hg=>mW kZ eg Y Y)),
      ⟨jN 34 4 33 3 Y Y Y (oW Y Y Y Y (fun hg=>gO cz Y Y (db Y hg))),
      ⟨jN 35 5 33 3 Y Y Y (oW Y Y Y Y (fun hg=>iO (db Y hg) hI)),
      ⟨jN 36 6 33 3 Y Y Y (oW Y Y Y Y (fun hg=>bQ (db Y hg))),
      ⟨ui 8 37 7 Y Y Y (BU Y Y Y Y (fun hg=>mW kZ eg Y Y)),
      ⟨jN 38 8 37 7 Y Y Y (BU Y Y Y Y (fun hg=>gO cz Y Y (db Y hg))),
      ⟨ui 1 37 7 Y Y Y (BU Y Y Y Y (fun hg=>l0 Y)),
      ⟨ui 7 37 7 Y Y Y (BU Y Y Y Y (fun hg=>l0 Y)),
      ⟨zu 40 10 41 11 37 7 Y Y Y Y (BU Y Y Y Y (fun hg=>bn iG cz Y (db Y hg) (db Y hg) (E_ hg))),
      ⟨jN 42 12 37 7 Y Y Y (BU Y Y Y Y (fun hg=>gO cz Y Y (db Y hg))),
      ⟨zu 39 9 43 13 37 7 Y Y Y Y (BU Y Y Y Y (fun hg=>iO (db Y hg) (db Y hg))),
      ⟨zu 37 7 44 14 33 3 Y Y Y Y (oW Y Y Y Y (fun hg=>ee (db Y hg) (fun H=>(db Y (G3 hg H))) (fun H=>(o_ (G3 hg H)).2) (fun H=>G_ hg H))),
      ⟨dX 33 3 45 15 Y Y Y (nt (J Y) (fun H=>(db Y (Ea H))) (fun H=>(g_ H).2) s_),
      Z⟩⟩⟩⟩⟩⟩⟩⟩⟩⟩⟩⟩⟩⟩⟩⟩⟩ ?_
     refine aw<|px h Y (fun h=>?_) (fun h=>?_)
     ·exact aQ<|ck<|cX<|cR<|am<|tz<|cR<|am<|cR<|so h▸aM Y Y
     ·refine bO<|cV Z' hN1 Y ?_;exact bg (aI (ih1 (i1+1) ⟨cJ Z',h⟩) (bA Y))
def ahD l b{R}(h:zP l b=some R):bZ aP 25 [Q aX l,Q ko b] (iF R):=by
 refine cx func25 Y<|aQ<|cg Y<|cg Y<|ck<|bI<|bc<|bq dC Y<|cC h YN (HV _) (bN Y) fun r h=>bj Y<|bL Y Y<|bL Y Y<|iH Y<|aS Y<|aD Y ?_;refine gw Y<|cn h Y (fun h=>?_) (fun h=>?_)
 ·exact aQ<|ck<|cX<|am<|so h▸aM Y Y
 ·refine iq<|bc<|bX ju fx r0 Y<|ca oo Y<|T (bQ hI)<|bI<|an<|bm (k:=17) Y fun hN=>bM ?_;refine aI (gG (ay:=fun ls i=>(l.j'.drop i=ls)/\sO b ls=some R) (Of:=fun _ i=>[]) (Gf:=fun _ i=>[(3,bH ko b),(17,cy (aq) l.j'),(18,iQ l.j'),(19,bS (i:Int))]) (fun i h=>?_) (fun e tl ih i h=>?_) l.j' 0 ⟨Y,h⟩) (bA Y)
  ·obtain⟨V,h⟩:=h;exact dq V Y<|aw<|aQ<|ck<|cX<|so h▸aM Y Y
  ·obtain⟨V,h⟩:=h;refine dp V Y<|aC<|an<|aQ<|d8 oo fL Y (de V)<|ax fL lk Y fun b1=>aW fL af Y<|aA 8 Y<|bI<|aC<|cj h fun t r_ h=>?_;obtain⟨t1,g_,s_⟩:=og r_;have R_:=fun H=>(g_ H).1;obtain⟨e1,o_,G_⟩:=og3 R_;have I_:=fun H=>(o_ H).1;obtain⟨r1,o_⟩:=og2 (fun H=>(o_ H).2);have k_:=fun H=>(o_ H).1;refine nQ (ts:=[_,_,_,_,_,_,_,_,_,_,_,_,_,_,_,_,_,_,_,_,_,_,_]) mixed Y Y
    ⟨oq 8 Y Y (mW qF iD Y Y),
    ⟨fm 0 cz Y Y,
    ⟨dy 24 1 Y Y (zei Y),
    ⟨dy 25 2 Y Y (l0 Y),
    ⟨ui 8 26 3 Y Y Y (cP Y Y Y Y (fun hg=>mW BC sF Y Y)),
    ⟨jN 27 4 26 3 Y Y Y (cP Y Y Y Y (fun hg=>gO cz Y Y (db Y hg))),
    ⟨ui 3 26 3 Y Y Y (cP Y Y Y Y (fun hg=>mW HU DF Y Y)),
    ⟨jN 29 6 26 3 Y Y Y (cP Y Y Y Y (fun hg=>gO Be Y Y (db Y hg))),
    ⟨jN 30 7 26 3 Y Y Y (cP Y Y Y Y (fun hg=>oH rN (db Y hg))),
    ⟨zu 28 5 31 8 26 3 Y Y Y Y (cP Y Y Y Y (fun hg=>iZ (db Y hg) (db Y hg))),
    ⟨jN 32 9 26 3 Y Y Y (cP Y Y Y Y (fun hg=>bQ (db Y hg))),
    ⟨ui 3 33 10 Y Y Y (wM Y Y Y Y (fun hg=>mW HU DF Y Y)),
    ⟨jN 34 11 33 10 Y Y Y (wM Y Y Y Y (fun hg=>gO Be Y Y (db Y hg))),
    ⟨ui 8 33 10 Y Y Y (wM Y Y Y Y (fun hg=>mW BC sF Y Y)),
    ⟨jN 36 13 33 10 Y Y Y (wM Y Y Y Y (fun hg=>gO cz Y Y (db Y hg))),
    ⟨zu 35 12 37 14 33 10 Y Y Y Y (wM Y Y Y Y (fun hg=>bn rN ki Y (db Y hg) (db Y hg) (I_ hg))),
    ⟨jN 38 15 33 10 Y Y Y (wM Y Y Y Y (fun hg=>gO ki Y Y (db Y hg))),
    ⟨ui 8 33 10 Y Y Y (wM Y Y Y Y (fun hg=>mW uz pm Y Y)),
    ⟨jN 40 17 33 10 Y Y Y (wM Y Y Y Y (fun hg=>gO fS Y Y (db Y hg))),
    ⟨zu 39 16 41 18 33 10 Y Y Y Y (wM Y Y Y Y (fun hg=>bG al9 (ahs _ _ (k_ hg)) ⟨(db Y hg),(db Y hg),Z⟩)),
    ⟨jN 42 19 33 10 Y Y Y (wM Y Y Y Y (fun hg=>jj (db Y hg))),
    ⟨zu 33 10 43 20 26 3 Y Y Y Y (cP Y Y Y Y (fun hg=>nt (db Y hg) (fun H=>(db Y (G3 hg (Ea H)))) (fun H=>(o_ (G3 hg H)).2) (fun H=>G_ hg H))),
    ⟨dX 26 3 44 21 Y Y Y (ee (J Y) (fun H=>(db Y H)) (fun H=>(g_ H).2) s_),
    Z⟩⟩⟩⟩⟩⟩⟩⟩⟩⟩⟩⟩⟩⟩⟩⟩⟩⟩⟩⟩⟩⟩⟩ ?_
   refine aw<|px h Y (fun h=>?_) (fun h=>?_)
   ·exact aQ<|ck<|cX<|cR<|am<|cR<|so h▸aM Y Y
   ·refine bO<|cV V hN Y ?_;exact bg (aI (ih (i+1) ⟨cJ V,h⟩) (bA Y))
def ajj(b:Nat)(ix:OI) r n{R}(h:oZ r n=some R):dZ aP 26 [tV (aE b 0),Q aq n] (nL b r ix) (fun _:OI=>tT [cy (d6) R.1,bS R.2]) (fun _=>(nL b r ix)):=by
 refine dZ.of func26 Y Y Y fun w0 S0=>?_;refine(show CG _ _ _ [bx (rH iY [(1,aY (ix.h 0).1 (ix.h 0).2 r.rows.length),(2,aY (ix.h 1).1 (ix.h 1).2 r.width.length)]) 77 b r,gh fG 31 (ix.h 0).1 (ix.h 0).2 r.rows,gh cM 3 (ix.h 1).1 (ix.h 1).2 r.width] _ from ?_);refine aQ<|cg Y<|kq (d6)<|bU<|bI<|aC<|cj h fun e i_ h=>?_;refine nQ (ts:=[_,_,_,_,_,_,_,_,_,_,_]) mixed Y Y
  ⟨eX Y Y,
  ⟨dy 6 0 Y Y (eK (J Y)),
  ⟨dy 7 1 Y Y (rP 0 ag2 Y Y Y),
  ⟨dy 8 2 Y Y (rP 0 HU Y Y Y),
  ⟨dy 9 3 Y Y (bP (r:=rH iY [(1,aY (ix.h 0).1 (ix.h 0).2 r.rows.length),(2,aY (ix.h 1).1 (ix.h 1).2 r.width.length)]) (x:=r) Be Y Y (acR (pZ aaw DF)) (.head _) (J Y)),
  ⟨oq 3 Y Y (mW BC sF Y Y),
  ⟨fm 5 cz Y Y,
  ⟨dX 10 4 12 6 Y Y Y (Ky rN ki Y Y Y i_),
  ⟨fm 7 ki Y Y,
  ⟨dy 14 8 Y Y (Aj Y),
  ⟨Q6 Y (zai),
  Z⟩⟩⟩⟩⟩⟩⟩⟩⟩⟩⟩ ?_
 exact aw<|jm<|aH<|aH<|aH<|so h▸gI (ts:=[cy (d6) e,bS 0]) (rvs:=[.tmp 4,.tmp 5]) Y Y ⟨aL Y,aL Y,Z⟩ tA Y Y
def acZ n{R}(h:j3 n=some R):fE aP 81 [tV (.slice none 0 0),bS n] false ah 72 R:=by
 refine fE.of func81 Y Y Y fun w0 S0=>aQ<|bJ false ah 72<|T (bu tK)<|bI ?_;refine A1 (ay:=lu n=some R) (Of:=[]) (Gf:=[(0,tV (.slice none 0 0)),(1,bS n)]) (fun h=>?_) (fun K=>?_)
 ·skip;refine DW (ay:=fun s l c=>lr s=some R) (Of:=fun s l c=>[eV ah 72 l c s]) (Gf:=fun s l c=>[(0,rr l c s)]) (fun s l c h=>?_) (fun K1=>?_)
  ·skip;exact aD Y<|bf Y<|so h▸fP Y Y
  ·skip;refine aD Y<|bj Y<|T (yr oT (J Y))<|bj Y<|T (yq oT (J Y))<|T (fq (J Y) (J Y))<|T (fq (J Y) (J Y))<|aS Y<|aD Y<|T (oI (J Y) hI)<|cn h Y (fun h=>?_) (fun h=>?_)
   ·refine aG<|bj Y<|bj Y<|T (yr oT (J Y))<|T (CL oT aT (J Y) (J Y))<|bj Y<|cj h fun u q_u h=>cj h fun mk T_ h=>FD (C5 (r:=ah) (x:=tL) aT Y Y Y Y oT me (fun _=>bK _) (J Y) (J Y) (L0 q_u) T_) Y fun i=>bj Y<|T (yq oT (J Y))<|cj h fun y j_ h=>T (m4 oT aT Y (.head _) (J Y) (J Y) j_)<|zh j_<|iH Y<|bD ?_;exact cQ (K1 y (i.h 0).1 (i.h 0).2 h) (bA Y)
   ·refine bO<|M0 false ah 72 ?_;exact cQ (K1 Nj none 0 h) (bA Y)
 ·skip;refine aD Y<|T (jk (J Y) hI)<|cn h Y (fun h=>?_) (fun h=>?_)
  ·refine aG ?_;exact(nn h).elim
  ·refine bO<|aO ?_;exact cQ (K h) (bA Y)
def Wv slices{R}(h:fi slices=some R):fE aP 54 [cy (d6) slices] false ah 72 R:=by
 refine fE.of func54 Y Y Y fun w0 S0=>aQ<|bJ false ah 72<|T (bu tK)<|bI<|aQ<|bU<|bI<|bc<|bj Y<|ca nP Y<|T (bQ hI)<|bI<|an<|bm (k:=9) Y fun hN=>bM<|pI ?_;refine aI (jP (ay:=fun ls i size=>(slices.drop i=ls)/\iy slices ls size=some R) (Of:=fun _ i size=>[]) (Gf:=fun _ i size=>[(0,cy (d6) slices),(3,bS size),(9,cy (d6) slices),(10,iQ slices),(11,bS (i:Int))]) (fun i size h=>?_) (fun e tl ih i size h=>?_) slices 0 0 ⟨Y,h⟩) (bA Y)
 ·obtain⟨V,h⟩:=h;refine dq V Y<|aw<|aD Y<|pz h alS (acZ _) ⟨hV,(J Y),Z⟩ fun r h l c=>aS Y<|bc ?_;refine bj Y<|ca nP Y<|T (bQ hI)<|bI<|an<|bm (k:=25) Y fun hN1=>bM ?_;refine aI (kT (ay:=fun ls1 i1 V' l1 c1=>(slices.drop i1=ls1)/\iw ls1 V'=some R) (Of:=fun _ i1 V' l1 c1=>[eV ah 72 l1 c1 V']) (Gf:=fun _ i1 V' l1 c1=>[(6,rr l1 c1 V'),(25,cy (d6) slices),(26,iQ slices),(27,bS (i1:Int))]) (fun i1 V' l1 c1 h=>?_) (fun e1 tl1 ih1 i1 V' l1 c1 h=>?_) slices 0 r l c ⟨Y,h⟩) (bA Y)
  ·obtain⟨Z',h⟩:=h;exact dq Z' Y<|aw<|aD Y<|bf Y<|so h▸fP Y Y
  ·obtain⟨Z',h⟩:=h;refine dp Z' Y<|aC<|an<|aQ<|d8 nP ja Y (de Z')<|aS Y<|aG<|bj Y<|bj Y<|cj h fun f_ n_ h=>cD aT Y Y Y Y oT Y Y (J Y) (J Y) n_ fun l2 c2=>?_;refine iH Y<|bD<|cV Z' hN1 Y ?_;exact bg (aI (ih1 (i1+1) f_ l2 c2 ⟨cJ Z',h⟩) (bA Y))
 ·obtain⟨V,h⟩:=h;refine dp V Y<|aC<|an<|aQ<|d8 nP ja Y (de V)<|aS Y<|aD Y<|bj Y<|ca oT Y ?_;refine T (mC (J Y) (J Y))<|aS Y<|aD Y<|T (jk (J Y) hI)<|cn h Y (fun h=>?_) (fun h=>?_)
  ·refine aG ?_;exact(nn h).elim
  ·refine bO<|cV V hN Y ?_;exact bg (aI (ih (i+1) (IntKind.i64.wrap (size+(e.length:Int))) ⟨cJ V,h⟩) (bA Y))
def ahr slices{R}(h:fi slices=some R):bZ aP 54 [cy (d6) slices] (cy (ah) R):=(Wv _ h).spec
def ahf(a1:(List (List ac)))(b:(List (List ac))):FI aP 79 (fun(x:Int×(List ac))=>[bS x.1,cy (ah) x.2]) (fun _=>p8 a1 b) [] [bH fG a1,bH fG b]:=by
 refine FI.of func79 Y Y Y fun Sg yld s R h h1 yv hy e he w0 S0 B hB=>?_
 replace h:p8 a1 b yld s=some R:=h
 refine aQ<|bq ki Y<|ca nP Y<|T (bQ hI)<|bI<|an<|bm (k:=8) Y fun hN=>bM ?_;refine aI (xn (ay:=fun ls i e1 s1=>(a1.drop i=ls)/\h1 s1 e1/\fK b yld ls i s1=some R) (Of:=fun _ i e1 s1=>[e1]) (Gf:=fun _ i e1 s1=>[(0,tV yv),(2,bH fG b),(8,cy (d6) a1),(9,iQ a1),(10,bS (i:Int))]) (fun i e1 s1 h=>?_) (fun e2 tl ih i e1 s1 h=>?_) a1 0 e s ⟨Y,⟨he,h⟩⟩) (bA Y)
 ·obtain⟨V,h⟩:=h;obtain⟨he1,h⟩:=h;exact dq V Y<|so h▸TN Y he1 hB trivial
 ·obtain⟨V,h⟩:=h;obtain⟨he1,h⟩:=h;refine dp V Y<|aC<|an<|aD Y<|d8 nP ja Y (de V)<|iH Y<|aS Y<|aQ<|bq ki Y ?_;refine ca nP Y<|T (bQ hI)<|bI<|an<|bm (k:=15) Y fun hN1=>bM ?_;refine aI (xn (ay:=fun ls1 i1 e3 s2=>(b.drop i1=ls1)/\h1 s2 e3/\jh yld (fK b yld tl) i e2 ls1 s2=some R) (Of:=fun _ i1 e3 s2=>[e3]) (Gf:=fun _ i1 e3 s2=>[(0,tV yv),(2,bH fG b),(4,bS (i:Int)),(5,cy (ah) e2),(8,cy (d6) a1),(9,iQ a1),(10,bS (i:Int)),(15,cy (d6) b),(16,iQ b),(17,bS (i1:Int))]) (fun i1 e3 s2 h=>?_) (fun e4 tl1 ih1 i1 e3 s2 h=>?_) b 0 e1 s1 ⟨Y,⟨he1,h⟩⟩) (bA Y)
  ·obtain⟨Z',h⟩:=h;obtain⟨he2,h⟩:=h;refine dq Z' Y<|cV V hN Y ?_;exact bg (aI (ih (i+1) e3 s2 ⟨cJ V,⟨he2,h⟩⟩) (bA Y))
  ·obtain⟨Z',h⟩:=h;obtain⟨he2,h⟩:=h;refine dp Z' Y<|aC<|an<|aQ<|d8 nP ja Y (de Z')<|aS Y<|aD Y<|bj Y<|bj Y ?_;refine bj Y<|T (aK (r:=d6) (ys:=[e2,e4]) (xs:=[.tmp 23,.tmp 24]) nP ja Y Y Y Y Y ⟨(J Y),(J Y),Z⟩)<|pz h ajv (Wv _) (bN Y) fun r h l c=>gk<|gW 26 Y<|bo<|cj h fun r1 a_ h=>MI hy he2 a_ (J Y) ⟨(J Y),(kX (J Y)),Z⟩ Y fun e5 he3=>T (jj (J Y))<|cn h Y (fun h=>?_) (fun h=>?_)
   ·exact jm<|cR<|am<|tz<|cR<|am<|tz<|bv<|aO<|so h▸Q5 Y he3 hB trivial
   ·refine bO<|cV Z' hN1 Y<|bv<|aO ?_;exact bg (aI (ih1 (i1+1) e5 r1.2 ⟨cJ Z',⟨he3,h⟩⟩) (bA Y))
def ac4 a1 b{R}(h:BL a1 b=some R):Fz aP 52 [cy (d6) a1,cy (d6) b] (fun(x:Int×(List ac))=>[bS x.1,cy (ah) x.2]) R:=by
 exact Fz.of func52 Y Y Y fun w0 S0=>aQ<|cg Y<|cg Y<|T (bu hV)<|bI<|aQ<|Jl (O1:=[]) (cts:=[bH fG a1,bH fG b]) (caps:=[.tmp 2,.tmp 3]) Y alU (ahf a1 b) ⟨(J Y),(J Y),Z⟩ Y fun v fp=>bf Y<|so h▸TL Y Y
def adF do1 a1 b{R}(h:po do1 a1 b=some R):bZ aP 207 [Q ah a1,Q ah b,bH (rT ((eD aP u7 yG (fun(x:ac×ac)=>do1 x.1 x.2)))) ()] (tT [Q ah R.1,bS R.2]):=by
 exact cx func207 Y<|aQ<|cg Y<|cg Y<|ax aT bK Y fun b1=>bU<|bI<|aQ<|T (yZ afd (J Y))<|bq aT Y<|bq aT Y<|cj h fun r h_ h=>T (hZ (args:=u7) (res:=F6) (f:=(fun(x:ac×ac)=>do1 x.1 x.2)) (x:=((b,a1):ac×ac)) (J Y) h_ ⟨(J Y),(J Y),Z⟩)<|bL Y Y<|bL Y Y<|aW aT af Y<|aA 5 Y<|bf Y<|so h▸br Y Y ⟨aU aT Y Y Y,aL Y,Z⟩
def aea do1{R}(h:I0 do1=some R):bZ aP 150 [(eD aP u7 yG (fun(x:ac×ac)=>do1 x.1 x.2))] ((eD aP u7 yG (fun(x:ac×ac)=>R x.1 x.2))):=by
 exact cx func150 Y<|aQ<|T (JT (J Y))<|T (bu hV)<|bI<|aQ<|T ((show cu _ _ _ _ ((eD aP u7 yG (fun(x:ac×ac)=>(po do1) x.1 x.2)))from kN (cts:=[bH (rT ((eD aP u7 yG (fun(x:ac×ac)=>do1 x.1 x.2)))) ()]) (caps:=[.tmp 1]) aj8 ⟨(J Y),Z⟩ (fun x y h=>adF _ _ _ h)))<|bf Y<|so h▸aM Y Y
def QE{R}(h:uj=some R):bZ aP 144 [] (Q ah R):=by
 exact cx func144 Y<|aQ<|ax aT bK Y fun b=>bI<|aQ<|T (bW aT wu bK Y)<|aW aT af Y<|aA 0 Y<|cX<|so h▸iM Y aT Y Y Y
def Ww l{R}(h:uF l=some R):bZ aP 260 [cy (ah) l] (bS R):=by
 refine cx func260 Y<|aQ<|bU<|bI<|bc<|bj Y<|ca li Y<|T (bQ hI)<|bI<|an<|bm (k:=6) Y fun hN=>bM ?_;refine aI (gG (ay:=fun ls i=>(l.drop i=ls)/\mX ls=some R) (Of:=fun _ i=>[]) (Gf:=fun _ i=>[(6,cy (ah) l),(7,iQ l),(8,bS (i:Int))]) (fun i h=>?_) (fun e tl ih i h=>?_) l 0 ⟨Y,h⟩) (bA Y)
 ·obtain⟨V,h⟩:=h;exact dq V Y<|aw<|aQ<|dd<|so h▸aM Y Y
 ·obtain⟨V,h⟩:=h;refine dp V Y<|aC<|an<|aQ<|d8 li aT Y (de V)<|ax aT bK Y fun b=>aW aT af Y<|aA 4 Y<|bI<|aQ<|bq aT Y ?_;refine cC h abk (Mm _) (bN Y) fun r h=>aS Y<|aD Y<|gw Y<|cn h Y (fun h=>?_) (fun h=>?_)
  ·exact aD Y<|bf Y<|cR<|am<|cR<|so h▸aM Y Y
  ·refine bO<|cV V hN Y ?_;exact bg (aI (ih (i+1) ⟨cJ V,h⟩) (bA Y))
def UY vals{R}(h:uB vals=some R):bZ aP 86 [oA vals] (bS R):=by
 refine cx func86 Y<|aQ<|bU<|bI<|aQ<|bU<|bI<|bc<|bj Y<|ca iG Y<|T (bQ hI)<|bI<|an<|bm (k:=6) Y fun hN=>bM ?_;refine aI (gG (ay:=fun ls i=>(vals.drop i=ls)/\om ls=some R) (Of:=fun _ i=>[]) (Gf:=fun _ i=>[(3,bS 0),(6,oA vals),(7,iQ vals),(8,bS (i:Int))]) (fun i h=>?_) (fun e tl ih i h=>?_) vals 0 ⟨Y,h⟩) (bA Y)
 ·obtain⟨V,h⟩:=h;exact dq V Y<|aw<|aD Y<|bf Y<|so h▸aM Y Y
 ·obtain⟨V,h⟩:=h;refine dp V Y<|aC<|an<|aQ<|d8 iG cz Y (de V)<|aS Y<|aD Y<|bj Y<|T (iO (J Y) (J Y)) ?_;refine cn h Y (fun h=>?_) (fun h=>?_)
  ·exact aD Y<|bf Y<|cR<|am<|cR<|so h▸aM Y Y
  ·refine bO<|cV V hN Y ?_;exact bg (aI (ih (i+1) ⟨cJ V,h⟩) (bA Y))
def WA p{R}(h:tZ p=some R):bZ aP 236 [bS p] (iF R):=by
 exact cx func236 Y<|aQ<|ck<|bI<|aD Y<|bj Y<|T (iO (J Y) (J Y))<|bf Y<|so h▸aM Y Y
def WI p y{R}(h:o0 p y=some R):bZ aP 176 [bS p,bS y] (bS R):=by
 refine cx func176 Y<|aQ<|bU<|bI<|aD Y<|cC h afB (WA _) (bN Y) fun r h=>aS Y<|aD Y<|cC h afB (WA _) (bN Y) fun r1 h=>aS Y<|aC<|aC ?_;refine aG<|bj Y<|cn h Y (fun h=>?_) (fun h=>?_)
 ·refine bc<|bj Y<|cn h Y (fun h=>?_) (fun h=>?_)
  ·exact aQ<|dd<|am<|am<|so h▸aM Y Y
  ·exact iq<|aQ<|dd<|am<|so h▸aM Y Y
 ·refine iq<|bc<|bj Y<|cn h Y (fun h=>?_) (fun h=>?_)
  ·exact aQ<|dd<|am<|so h▸aM Y Y
  ·refine iq<|bc<|bj Y<|bj Y<|wS Y<|cn h Y (fun h=>?_) (fun h=>?_)
   ·exact aQ<|dd<|am<|so h▸aM Y Y
   ·refine iq<|bc<|bj Y<|bj Y<|T (oI (J Y) (J Y))<|cn h Y (fun h=>?_) (fun h=>?_)
    ·exact aQ<|dd<|am<|so h▸aM Y Y
    ·exact iq<|aQ<|dd<|so h▸aM Y Y
def Wz p{R}(h:qZ p=some R):bZ aP 237 [bS p] (iF R):=by
 exact cx func237 Y<|aQ<|ck<|bI<|aD Y<|bj Y<|T (iO (J Y) (J Y))<|bf Y<|so h▸aM Y Y
def WH p y{R}(h:nl p y=some R):bZ aP 177 [bS p,bS y] (bS R):=by
 refine cx func177 Y<|aQ<|bU<|bI<|aD Y<|cC h afA (Wz _) (bN Y) fun r h=>aS Y<|aD Y<|cC h afA (Wz _) (bN Y) fun r1 h=>aS Y<|aC<|aC ?_;refine aG<|bj Y<|cn h Y (fun h=>?_) (fun h=>?_)
 ·refine bc<|bj Y<|cn h Y (fun h=>?_) (fun h=>?_)
  ·exact aQ<|dd<|am<|am<|so h▸aM Y Y
  ·exact iq<|aQ<|dd<|am<|so h▸aM Y Y
 ·refine iq<|bc<|bj Y<|cn h Y (fun h=>?_) (fun h=>?_)
  ·exact aQ<|dd<|am<|so h▸aM Y Y
  ·refine iq<|bc<|bj Y<|bj Y<|wS Y<|cn h Y (fun h=>?_) (fun h=>?_)
   ·exact aQ<|dd<|am<|so h▸aM Y Y
   ·refine iq<|bc<|bj Y<|bj Y<|T (oI (J Y) (J Y))<|cn h Y (fun h=>?_) (fun h=>?_)
    ·exact aQ<|dd<|am<|so h▸aM Y Y
    ·exact iq<|aQ<|dd<|so h▸aM Y Y
