import Derived.Test.YtaehdhmbgmbgiaaGreatDoorKkT
import Derived.Test.YtaehdhmbgmbgiaaGreatDoorKkP15
set_option linter.all false
namespace Go.Proofs.YtaehdhmbgmbgiaaGreatDoor
open Go IntKind Tryz
set_option maxRecDepth 100000
def acX l alike{R}(h:Lm l alike=some R):Fz aP 90 [cy (d6) l,(eD aP Kw nG (fun(x:(List ac)×(List ac))=>alike x.1 x.2))] (fun(x:(List (List ac)))=>[cy (d6) x]) R:=by
 exact Fz.of func90 Y Y Y fun w0 S0=>aQ<|wL (J Y) Y fun b=>T (JT (J Y))<|T (bu hV)<|bI<|aQ<|Jl (O1:=[bx fG 31 b l]) (cts:=[tV (aE b 0),bH (rT ((eD aP Kw nG (fun(x:(List ac)×(List ac))=>alike x.1 x.2)))) ()]) (caps:=[.tmp 2,.tmp 3]) Y akH (aee l alike b) ⟨(J Y),(J Y),Z⟩ Y fun v fp=>bf Y<|so h▸TL Y Y
def acW s{R}(h:iI s=some R):fE aP 91 [cy (d6) s] false d6 68 R:=by
 refine fE.of func91 Y Y Y fun w0 S0=>aQ<|bJ false d6 68<|T (bu tK)<|bI<|bc<|bj Y<|zg nP (J Y) Y fun isnil hisnil=>bI<|tu (J Y) (fun hc=>?_) (fun hc=>?_)
 ·have V:=hisnil hc;have h:some Kx=some R:=by simpa [iI,app,V] using h
  exact aQ<|bJ false d6 68<|T (bu tK)<|cX<|am<|so h▸fP Y Y
 ·exact iq<|aQ<|fF (r:=d6) (ys:=Kx) (xs:=[]) nP ja Y Y Y Y Y trivial Y fun l c=>bj Y<|cj h fun x y_ h=>cD ja Y Y Y Y nP Y Y (J Y) (J Y) y_ fun l1 c1=>bf Y<|so h▸fP Y Y
def aha s{R}(h:iI s=some R):bZ aP 91 [cy (d6) s] (cy (d6) R):=(acW _ h).spec
def ahq l columns{R}(h:yP l columns=some R):bZ aP 55 [cy (d6) l,oA columns] (tT [cy (jO) R.1,bS R.2]):=by
 refine Tx func55 Y Y Y fun w0 S0=>aQ<|cg Y<|kq (jO)<|bU<|bI<|bc<|bj Y<|bq fS Y<|cC h alR (ahd _ _) (bN Y) fun r h=>aS Y<|aD Y<|gw Y<|bI ?_;refine px h Y (fun h=>?_) (fun h=>?_)
 ·exact aD Y<|kq (jO)<|bf Y<|am<|xp<|so h▸dM Y Y Y
 ·refine iq<|aD Y<|pz h ajs (Wr _) (bN Y) fun r1 h l1 c=>aS Y<|aD Y<|T ((show cu _ _ _ _ ((eD aP Kw D3 (fun(x:(List ac)×(List ac))=>(qu columns) x.1 x.2)))from kN (cts:=[bH u8z columns]) (caps:=[.tmp 3]) alQ ⟨(J Y),Z⟩ (fun x y h=>ahc _ _ _ h)))<|cj h fun zr J_ h=>?_;refine MJ (n:=r1.length) Dc ?_ ah7 ?_ J_ ?_ ?_ ?_ ?_ ?_
  ·rfl
  ·rfl
  ·exact(J Y)
  ·rfl
  ·exact(J Y)
  ·rfl
  intro hl;refine t6 hl 18 Y<|t6 hl 7 Y<|t6 hl 19 Y<|bI<|aQ<|T ((show cu _ _ _ _ ((eD aP Kw nG (fun(x:(List ac)×(List ac))=>(jE columns) x.1 x.2)))from kN (cts:=[bH u8z columns]) (caps:=[.tmp 3]) alP ⟨(J Y),Z⟩ (fun x y h=>ahb _ _ _ h)))<|aS Y<|aQ<|bJ false jO 120<|ax (x:=aY none 0 0) VJ (fun _=>Hz) Y fun b=>bI<|bc<|bj Y<|bj Y<|eF<|gk ?_;refine gW 18 Y<|gW 7 Y<|gW 19 Y<|gW 23 Y<|cj h fun it q_it h=>Pd alO (acX _ _ q_it) ⟨(kX (J Y)),(J Y),Z⟩ Y fun v fp=>bI<|an<|cj h fun s q_s h=>?_;refine Y3 (fun(i:Option Nat×Nat×List k6)=>[gh d6 68 l1 c zr,bx rV 116 b (aY i.1 i.2.1 i.2.2.length),eV jO 120 i.1 i.2.1 i.2.2]) (fun(i:Option Nat×Nat×List k6)=>(i.2.2)) Y (J Y) (none,0,([]:List k6)) Y q_s (fun _=>Y) Y (fun i x s2 h lp rec1 _ _ _=>?_) (fun i hi bd=>?_)
  ·obtain⟨l2,c1,xs⟩:=i
   replace h:nZ columns x xs=some s2:=h
   refine(show CG _ _ _ [Bq lp rec1 .ready,gh d6 68 l1 c zr,bx rV 116 b (aY l2 c1 xs.length),eV jO 120 l2 c1 xs] _ from ?_);refine MY (G' :=[(0,cy (d6) l),(1,oA columns),(3,bH u8z columns),(4,cy (jO) ([])),(5,bS 0),(6,bS r),(7,tO d6 l1 c zr),(8,(eD aP Kw nG (fun(x:(List ac)×(List ac))=>(jE columns) x.1 x.2))),(9,tV (aE b 0)),(11,cy (d6) l),(12,oA columns),(13,bS r),(14,bS r),(15,iF (r !=0)),(17,cy (d6) l),(18,tO d6 l1 c zr),(19,tO d6 l1 c zr),(20,(eD aP Kw D3 (fun(x:(List ac)×(List ac))=>(qu columns) x.1 x.2))),(22,(eD aP Kw nG (fun(x:(List ac)×(List ac))=>(jE columns) x.1 x.2))),(23,tO d6 l1 c zr),(24,(eD aP Kw nG (fun(x:(List ac)×(List ac))=>(jE columns) x.1 x.2))),(26,cy (d6) x)]) ?_ ⟨Y,Y,Y,Y,Y,Y,Y,Y,Y,Y,Y,Y,Y,Y,Y,Y,Y,Y,Y,Y,Y,Y,Z⟩;refine aG<|iH Y<|bD<|abR<|an<|cj h fun e i_ h=>cj h fun r2 d_ h=>cj h fun r3 v_ h=>?_;refine Cb 10 (ts:=[rr l2 c1 xs,cy (d6) x,bH d6 e,cy (ah) e,oA columns,cy (ah) r2,cy (d6) x,cy (d6) r3,Q jO (⟨r2,r3⟩:k6),cy (jO) ([(⟨r2,r3⟩:k6)])]) mixed Y Y Y
    ⟨oq 9 Y Y (ip VJ (.tail _ (.tail _ (.head _))) (J Y)),
    ⟨eX Y Y,
    ⟨dy 28 1 Y Y (bn nP ja Y (J Y) hI i_),
    ⟨fm 2 ja Y Y,
    ⟨oq 3 Y Y (np fS Y Y),
    ⟨dX 30 3 31 4 Y Y Y (bG abj (Ml _ _ d_) ⟨(J Y),(J Y),Z⟩),
    ⟨eX Y Y,
    ⟨dy 33 6 Y Y (bG alN (aha _ v_) ⟨(J Y),Z⟩),
    ⟨dX 32 5 34 7 Y Y Y (bW (y:=(⟨r2,r3⟩:k6)) ID afn Ku (⟨_,_,_,_,_,Y,Uh,Y,(J Y),⟨_,_,_,_,_,Y,Ug,Y,(J Y),Y⟩⟩)),
    ⟨dy 35 8 Y Y (aK (r:=jO) (ys:=[(⟨r2,r3⟩:k6)]) (xs:=[.tmp 35]) NU ID Y Y Y Y Y ⟨(J Y),Z⟩),
    Z⟩⟩⟩⟩⟩⟩⟩⟩⟩⟩ ?_
   refine fj<|cj h fun l3 q_l3 h=>cD ID Y Y Y Y NU Y Y (J Y) (J Y) q_l3 fun l4 c2=>fj<|dc VJ Y af Y (J Y) (Hf (J Y))<|bD<|bt<|bv<|bv<|cv<|cv ?_;exact TO (l4,c2,l3) (so h) Y
  ·skip;obtain⟨l5,c3,xs1⟩:=i;have hi:xs1=s:=hi;subst hi;refine(show AT _ _ _ [H0 bd,gh d6 68 l1 c zr,bx rV 116 b (aY l5 c3 xs1.length),eV jO 120 l5 c3 xs1] _ from ?_);refine cQ (G' :=[(0,cy (d6) l),(1,oA columns),(3,bH u8z columns),(4,cy (jO) ([])),(5,bS 0),(6,bS r),(7,tO d6 l1 c zr),(8,(eD aP Kw nG (fun(x:(List ac)×(List ac))=>(jE columns) x.1 x.2))),(9,tV (aE b 0)),(11,cy (d6) l),(12,oA columns),(13,bS r),(14,bS r),(15,iF (r !=0)),(17,cy (d6) l),(18,tO d6 l1 c zr),(19,tO d6 l1 c zr),(20,(eD aP Kw D3 (fun(x:(List ac)×(List ac))=>(qu columns) x.1 x.2))),(22,(eD aP Kw nG (fun(x:(List ac)×(List ac))=>(jE columns) x.1 x.2))),(23,tO d6 l1 c zr),(24,(eD aP Kw nG (fun(x:(List ac)×(List ac))=>(jE columns) x.1 x.2)))]) ?_ ⟨Y,Y,Y,Y,Y,Y,Y,Y,Y,Y,Y,Y,Y,Y,Y,Y,Y,Y,Y,Y,Y,Z⟩;exact bt<|aw<|aQ<|T (ip VJ (.tail _ (.tail _ (.head _))) (J Y))<|iH Y<|dd<|cv<|mK<|dn 4 Y<|dn 38 Y<|mL 4 Y<|aO<|bv<|aO<|bv<|aO<|Hc<|xp<|so h▸dM Y Y Y
def ag9 a1 rows{R}(h:C8 a1 rows=some R):bZ aP 93 [Q eI a1,cy (d6) rows] (tT [cy (ah) R.1,bS R.2]):=by
 refine cx func93 Y<|aQ<|cg Y<|kq (ah)<|bU<|bI<|aQ<|bJ false ah 72<|T (bu tK)<|bI<|aQ<|bU<|bI<|bc<|bj Y<|ca nP Y ?_;refine T (bQ hI)<|bI<|an<|bm (k:=12) Y fun hN=>bM ?_;refine aI (qe (ay:=fun ls i out l c fault=>(rows.drop i=ls)/\ne a1 ls out fault=some R) (Of:=fun _ i out l c fault=>[eV ah 72 l c out]) (Gf:=fun _ i out l c fault=>[(2,bH eI a1),(6,rr l c out),(7,bS fault),(12,cy (d6) rows),(13,iQ rows),(14,bS (i:Int))]) (fun i out l c fault h=>?_) (fun e tl ih i out l c fault h=>?_) rows 0 Nj none 0 0 ⟨Y,h⟩) (bA Y)
 ·obtain⟨V,h⟩:=h;refine dq V Y<|aw<|aD Y<|bj Y<|iH Y<|bf Y<|mK<|dn 6 Y ?_;exact dn 41 Y<|dn 4 Y<|mL 4 Y<|aO<|so h▸dM Y Y Y
 ·obtain⟨V,h⟩:=h;refine dp V Y<|aC<|an<|aQ<|d8 nP ja Y (de V)<|aS Y<|aQ<|bX BA xb bR Y<|bj Y ?_;refine cC h aic (U3 _ _) (bN Y) fun r h=>bj Y<|bL Y Y<|bL Y Y<|ax aT bK Y fun b=>aW aT af Y<|aA 10 Y<|aS Y<|an<|aD Y<|dA Y<|aS Y<|px h Y (fun h=>?_) (fun h=>?_)
  ·refine aG<|bj Y<|iH Y<|bD<|bt<|cV V hN Y ?_;exact bg (aI (ih (i+1) out l c r.2 ⟨cJ V,h⟩) (bA Y))
  ·refine aD Y<|gw Y<|aS Y<|px h Y (fun h=>?_) (fun h=>?_)
   ·exact aQ<|kq (ah)<|dd<|tz<|cR<|am<|cR<|aO<|so h▸dM Y Y Y
   ·refine aQ<|bX kZ eg cz Y<|gw Y<|aS Y<|px h Y (fun h=>?_) (fun h=>?_)
    ·refine aG<|bj Y<|bq aT Y<|T (aK (r:=ah) (ys:=[r.1]) (xs:=[.tmp 37]) li aT Y Y Y Y Y ⟨(J Y),Z⟩)<|cj h fun L' l_ h=>cD aT Y Y Y Y li Y Y (J Y) (J Y) l_ fun l1 c1=>iH Y<|bD<|bt<|cV V hN Y ?_;exact bg (aI (ih (i+1) L' l1 c1 fault ⟨cJ V,h⟩) (bA Y))
    ·refine bO<|bt<|cV V hN Y ?_;exact bg (aI (ih (i+1) out l c fault ⟨cJ V,h⟩) (bA Y))
def ag8 v{R}(h:qM v=some R):bZ aP 94 [Q ah v] (iF R):=by
 exact cx func94 Y<|aQ<|cg Y<|ck<|bI<|aQ<|bX kZ eg cz Y<|gw Y<|bf Y<|so h▸aM Y Y
def aed s f{R}(h:jR s f=some R):bZ aP 143 [cy (ah) s,(eD aP F5 nG (fun(x:ac)=>f x))] (bS R):=by
 refine cx func143 Y<|aQ<|bU<|bI<|bc<|bj Y<|ca li Y<|T (bQ hI)<|bI<|an<|bm (k:=6) Y fun hN=>bM ?_;refine aI (gG (ay:=fun ls i=>(s.drop i=ls)/\eG f ls i=some R) (Of:=fun _ i=>[]) (Gf:=fun _ i=>[(0,cy (ah) s),(1,(eD aP F5 nG (fun(x:ac)=>f x))),(7,iQ s),(8,bS (i:Int))]) (fun i h=>?_) (fun e tl ih i h=>?_) s 0 ⟨Y,h⟩) (bA Y)
 ·obtain⟨V,h⟩:=h;exact dq V Y<|aw<|aQ<|dd<|so h▸aM Y Y
 ·obtain⟨V,h⟩:=h;refine dp V Y<|aC<|an<|aD Y<|aS Y<|aD Y<|bj Y<|bj Y<|F7 li aT Y (de V) ?_;refine bq aT Y<|cj h fun r h_ h=>T (hZ (args:=F5) (res:=F4) (f:=(fun(x:ac)=>f x)) (x:=((e):ac)) (J Y) h_ ⟨(J Y),Z⟩)<|cn h Y (fun h=>?_) (fun h=>?_)
  ·exact aD Y<|bf Y<|cR<|am<|cR<|so h▸aM Y Y
  ·refine bO<|cV V hN Y ?_;exact bg (aI (ih (i+1) ⟨cJ V,h⟩) (bA Y))
def ag7 s f{R}(h:fW s f=some R):bZ aP 95 [cy (ah) s,(eD aP F5 nG (fun(x:ac)=>f x))] (iF R):=by
 exact cx func95 Y<|aQ<|ck<|bI<|aD Y<|bj Y<|cC h akG (aed _ _) (bN Y) fun r h=>T (iZ (J Y) hI)<|bf Y<|so h▸aM Y Y
def Qy v{R}(h:wB v=some R):bZ aP 203 [Q ah v] (Q ah R):=by
 exact cx func203 Y<|aQ<|cg Y<|ax aT bK Y fun b=>bI<|aQ<|bX ru jX PC Y<|T (HF (J Y) hI (by decide))<|bX ru jX PC Y<|T (ya FO FQ (J Y))<|T (bW (y:=(⟨4,((v.N).fdiv (2^(min (Int.toNat 63) i64.bits))),(u64.wrap v.N),[]⟩:ac)) aT wu bK (⟨_,_,_,_,_,Y,sd,Y,hI,⟨_,_,_,_,_,Y,ul,Y,(J Y),⟨_,_,_,_,_,Y,Fc,Y,(J Y),Y⟩⟩⟩))<|aW aT af Y<|aA 2 Y<|cX<|so h▸iM Y aT Y Y Y
def adH s t{R}(h:BS s t=some R):bZ aP 204 [Q ah s,Q ah t] (tT [Q ah R.1,bS R.2]):=by
 refine cx func204 Y<|aQ<|cg Y<|cg Y<|ax aT bK Y fun b=>bU<|bI<|aQ<|bX HT wv T7 Y<|bX HT wv T7 Y<|cj h fun r h_ h=>T (Sd func250 (by kernel_rfl) (by kernel_rfl) (by kernel_rfl) (by kernel_rfl) (J Y) (J Y) hI h_)<|bj Y<|bL Y Y<|bL Y Y<|iH Y<|aS Y ?_;refine aQ<|bX ru jX PC Y<|T (ya FO FQ (J Y))<|bX ru jX PC Y<|T (ya FO FQ (J Y))<|bj Y<|cj h fun r1 a_ h=>T (Sd func250 (by kernel_rfl) (by kernel_rfl) (by kernel_rfl) (by kernel_rfl) (J Y) (J Y) (J Y) a_)<|bj Y<|bL Y Y<|bL Y Y<|iH Y<|aS Y<|aD Y<|T (ya FQ FO (J Y))<|iH Y<|bD ?_;refine aw<|bc<|bX ru jX PC Y<|bj Y<|T (HE (J Y) (J Y))<|bX ru jX PC Y<|bj Y<|T (HE (J Y) (J Y))<|T (HI (J Y) (J Y))<|T (jk (J Y) hI)<|cn h Y (fun h=>?_) (fun h=>?_)
 ·exact aQ<|T (bW aT wu bK Y)<|aW aT af Y<|dd<|am<|aF 4 Y<|so h▸br Y Y ⟨aU aT Y Y Y,aL Y,Z⟩
 ·exact iq<|aD Y<|bj Y<|T (bW (y:=(⟨4,(i64.wrap r1.1),r.1,[]⟩:ac)) aT wu bK (⟨_,_,_,_,_,Y,sd,Y,hI,⟨_,_,_,_,_,Y,ul,Y,(J Y),⟨_,_,_,_,_,Y,Fc,Y,(J Y),Y⟩⟩⟩))<|aW aT af Y<|dd<|aF 4 Y<|so h▸br Y Y ⟨aU aT Y Y Y,aL Y,Z⟩
def aec s v{R}(h:yC s v=some R):bZ aP 145 [Q ah s,Q ah v] (tT [Q ah R.1,bS R.2]):=by
 refine cx func145 Y<|aQ<|cg Y<|cg Y<|ax aT bK Y fun b=>bU<|bI<|aC<|aC<|cj h fun r h_ h=>cj h fun r1 a_ h=>?_;refine nQ (ts:=[_,_,_,_,_,_,_,_]) mixed Y Y
  ⟨oq 2 Y Y (np aT Y Y),
  ⟨dy 8 0 Y Y (aK (r:=ah) (ys:=[s]) (xs:=[.tmp 8]) li aT Y Y Y Y Y ⟨(J Y),Z⟩),
  ⟨dy 9 1 Y Y (bG Xe (J0 _ _ h_) ⟨hI,(J Y),Z⟩),
  ⟨oq 3 Y Y (np aT Y Y),
  ⟨dy 11 3 Y Y (aK (r:=ah) (ys:=[v]) (xs:=[.tmp 11]) li aT Y Y Y Y Y ⟨(J Y),Z⟩),
  ⟨dy 12 4 Y Y (bG Xe (J0 _ _ a_) ⟨hI,(J Y),Z⟩),
  ⟨dy 10 2 Y Y (Aj Y),
  ⟨dy 13 5 Y Y (Aj Y),
  Z⟩⟩⟩⟩⟩⟩⟩⟩ ?_
 refine aw<|an<|aD Y<|dA Y<|bj Y<|co Y (fa Y)<|co Y (qT Y)<|py Y<|aS Y<|px h Y (fun h=>?_) (fun h=>?_)
 ·exact aQ<|T (bW aT wu bK Y)<|aW aT af Y<|dd<|cR<|aF 4 Y<|so h▸br Y Y ⟨aU aT Y Y Y,aL Y,Z⟩
 ·refine aD Y<|gw Y<|bj Y<|co Y (fa Y)<|co Y (Et Y)<|py Y<|aS Y<|px h Y (fun h=>?_) (fun h=>?_)
  ·exact aQ<|T (bW aT wu bK Y)<|aW aT af Y<|dd<|cR<|aF 4 Y<|so h▸br Y Y ⟨aU aT Y Y Y,aL Y,Z⟩
  ·refine aQ<|bX kZ eg cz Y<|dA Y<|aS Y<|px h Y (fun h=>?_) (fun h=>?_)
   ·exact aQ<|bq aT Y<|aW aT af Y<|dd<|cR<|aF 4 Y<|so h▸br Y Y ⟨aU aT Y Y Y,aL Y,Z⟩
   ·refine aQ<|bX kZ eg cz Y<|dA Y<|aS Y<|px h Y (fun h=>?_) (fun h=>?_)
    ·exact aQ<|bq aT Y<|cC h abp (Qy _) (bN Y) fun r2 h=>aW aT af Y<|dd<|cR<|aF 4 Y<|so h▸br Y Y ⟨aU aT Y Y Y,aL Y,Z⟩
    ·refine bO<|bt<|aw<|aC<|cj h fun r3 v_ h=>cj h fun r4 x_ h=>?_;refine Cb 6 (ts:=[Q ah s,Q ah v,Q ah r3,tT [Q ah r4.1,bS r4.2],Q ah r4.1,bS r4.2]) mixed Y Y Y
      ⟨oq 2 Y Y (np aT Y Y),
      ⟨oq 3 Y Y (np aT Y Y),
      ⟨dy 42 1 Y Y (bG abp (Qy _ v_) ⟨(J Y),Z⟩),
      ⟨dX 41 0 43 2 Y Y Y (bG aka (adH _ _ x_) ⟨(J Y),(J Y),Z⟩),
      ⟨dy 44 3 Y Y (yi Y Y),
      ⟨dy 44 3 Y Y (yi Y Y),
      Z⟩⟩⟩⟩⟩⟩ ?_
     exact aW aT af Y<|bf Y<|aF 4 Y<|so h▸br Y Y ⟨aU aT Y Y Y,aL Y,Z⟩
def aeb s{R}(h:DQ s=some R):bZ aP 146 [Q ah s] (tT [Q ah R.1,bS R.2]):=by
 refine cx func146 Y<|aQ<|cg Y<|ax aT bK Y fun b=>bU<|bI<|bc<|bq aT Y<|T (aK (r:=ah) (ys:=[s]) (xs:=[.tmp 6]) li aT Y Y Y Y Y ⟨(J Y),Z⟩)<|cC h Xe (J0 _ _) (bN Y) fun r h=>aS Y<|an<|aD Y<|gw Y<|iH Y ?_;refine cn h Y (fun h=>?_) (fun h=>?_)
 ·exact aQ<|T (bW aT wu bK Y)<|bj Y<|aW aT af Y<|bf Y<|cR<|aF 2 Y<|so h▸br Y Y ⟨aU aT Y Y Y,aL Y,Z⟩
 ·refine aQ<|bX kZ eg cz Y<|dA Y<|aS Y<|px h Y (fun h=>?_) (fun h=>?_)
  ·exact aQ<|bq aT Y<|aW aT af Y<|dd<|cR<|aF 2 Y<|so h▸br Y Y ⟨aU aT Y Y Y,aL Y,Z⟩
  ·refine bO<|bt<|aw<|bc<|bX HT wv T7 Y<|T (ya FQ FO (J Y))<|cC h abi (Mk _) (bN Y) fun r1 h=>ax aT bK Y fun b1=>aW aT af Y<|aA 5 Y<|bI<|aC<|cj h fun r2 d_ h=>?_;refine nQ (ts:=[_,_,_,_]) mixed Y Y
    ⟨oq 5 Y Y (np aT Y Y),
    ⟨dy 23 0 Y Y (bG abp (Qy _ d_) ⟨(J Y),Z⟩),
    ⟨oq 1 Y Y (np aT Y Y),
    ⟨dX 24 1 25 2 Y Y Y (Gx Vb (J Y) (J Y)),
    Z⟩⟩⟩⟩ ?_
   refine aw<|px h Y (fun h=>?_) (fun h=>?_)
   ·exact aQ<|bq aT Y<|aW aT af Y<|dd<|am<|aF 2 Y<|so h▸br Y Y ⟨aU aT Y Y Y,aL Y,Z⟩
   ·exact iq<|aQ<|T (bW aT wu bK Y)<|aW aT af Y<|dd<|aF 2 Y<|so h▸br Y Y ⟨aU aT Y Y Y,aL Y,Z⟩
def ag6 l{R}(h:DS l=some R):bZ aP 96 [cy (ah) l] (tT [Q ah R.1,bS R.2]):=by
 refine cx func96 Y<|aQ<|ax aT bK Y fun b=>bU<|bI<|bc<|bj Y<|ca li Y<|T (oI (J Y) hI)<|cn h Y (fun h=>?_) (fun h=>?_)
 ·exact aQ<|T (bW aT wu bK Y)<|aW aT af Y<|dd<|am<|aF 2 Y<|so h▸br Y Y ⟨aU aT Y Y Y,aL Y,Z⟩
 ·refine iq<|aQ<|cC h abv QE trivial fun r h=>ax aT bK Y fun b1=>aW aT af Y<|bI<|bc<|bj Y<|ca li Y<|T (bQ hI)<|bI<|an<|bm (k:=14) Y fun hN=>bM<|dm ?_;refine aI (xn (ay:=fun ls i x s=>(l.drop i=ls)/\qP ls x s=some R) (Of:=fun _ i x s=>[bx ah 72 b x,bx ah 72 b1 s]) (Gf:=fun _ i x s=>[(2,tV (aE b 0)),(4,tV (aE b1 0)),(14,cy (ah) l),(15,iQ l),(16,bS (i:Int))]) (fun i x s h=>?_) (fun e tl ih i x s h=>?_) l 0 tL r ⟨Y,h⟩) (bA Y)
  ·obtain⟨V,h⟩:=h;refine dq V Y<|aw<|aQ<|T (bP aT Y Y bT (.tail _ (.head _)) (J Y))<|cC h akE (aeb _) (bN Y) fun r1 h=>bL Y Y<|bL Y Y<|aW aT af Y<|aS Y ?_;exact jm<|aF 2 Y<|aO<|so h▸br Y Y ⟨aU aT Y Y Y,aL Y,Z⟩
  ·obtain⟨V,h⟩:=h;refine dp V Y<|aC<|an<|aQ<|d8 li aT Y (de V)<|ax aT bK Y fun b2=>aW aT af Y<|aA 6 Y<|bI<|aQ<|T (bP aT Y Y bT (.tail _ (.head _)) (J Y)) ?_;refine bq aT Y<|cC h akF (aec _ _) (bN Y) fun r2 h=>bj Y<|bL Y Y<|bL Y Y<|ax aT bK Y fun b3=>aW aT af Y<|aA 7 Y<|aS Y<|bc<|bj Y<|gw Y<|cn h Y (fun h=>?_) (fun h=>?_)
   ·exact aQ<|bq aT Y<|bj Y<|aW aT af Y<|bf Y<|am<|cR<|am<|cR<|aF 2 Y<|aO<|so h▸br Y Y ⟨aU aT Y Y Y,aL Y,Z⟩
   ·refine iq<|aG<|bq aT Y<|bo<|aW aT af Y<|bD<|cV V hN Y<|bv ?_;exact bg (aI (ih (i+1) x r2.1 ⟨cJ V,h⟩) (bA Y))
def ag5 p cmp{R}(h:iu p cmp=some R):bZ aP 97 [cy (ah) p,(eD aP u7 D3 (fun(x:ac×ac)=>cmp x.1 x.2))] (Q ah R):=by
 refine cx func97 Y<|aQ<|ax aT bK Y fun b=>bI ?_;refine A1 (ay:=jA p cmp=some R) (Of:=[bx ah 72 b tL]) (Gf:=[(0,cy (ah) p),(1,(eD aP u7 D3 (fun(x:ac×ac)=>cmp x.1 x.2))),(4,tV (aE b 0))]) (fun h=>?_) (fun K=>?_)
 ·skip;refine aD Y<|cj h fun e i_ h=>T (bn li aT Y (J Y) hI i_)<|bq aT Y<|ax aT bK Y fun b1=>aW aT af Y<|bI<|bc<|bU<|bI<|an<|bm (k:=0) Y fun hN=>bM<|dm ?_;refine aI (jP (ay:=fun ls i m=>(p.drop i=ls)/\dR cmp ls m=some R) (Of:=fun _ i m=>[bx ah 72 b tL,bx ah 72 b1 m]) (Gf:=fun _ i m=>[(0,cy (ah) p),(1,(eD aP u7 D3 (fun(x:ac×ac)=>cmp x.1 x.2))),(4,tV (aE b 0)),(5,tV (aE b1 0)),(6,bS (i:Int))]) (fun i m h=>?_) (fun e1 tl ih i m h=>?_) (p.drop (1)) 1 e ⟨Y,h⟩) (bA Y)
  ·obtain⟨V,h⟩:=h;refine ae7 li V Y<|aw<|aQ<|T (bP aT Y Y bT (.tail _ (.head _)) (J Y))<|aW aT af Y<|aA 4 Y<|cX ?_;exact aO<|so h▸iM Y aT Y Y Y
  ·obtain⟨V,h⟩:=h;refine ae6 li V Y<|aC<|an<|aC<|cj h fun r h_ h=>?_;refine nQ (ts:=[_,_,_,_,_,_,_,_]) mixed Y Y
    ⟨eX Y Y,
    ⟨eX Y Y,
    ⟨eX Y Y,
    ⟨dX 21 1 22 2 Y Y Y (Ky li aT Y Y Y (de V)),
    ⟨fm 3 aT Y Y,
    ⟨oq 5 Y Y (bP aT Y Y bT (.tail _ (.head _)) (J Y)),
    ⟨Kz 20 0 24 4 25 5 Y Y Y Y (hZ (args:=u7) (res:=abU) (f:=(fun(x:ac×ac)=>cmp x.1 x.2)) (x:=((e1,m):ac×ac)) (J Y) h_ ⟨(J Y),(J Y),Z⟩),
    ⟨dy 26 6 Y Y (jk (J Y) hI),
    Z⟩⟩⟩⟩⟩⟩⟩⟩ ?_
   refine aw<|px h Y (fun h=>?_) (fun h=>?_)
   ·refine aG<|bj Y<|bj Y<|d8 li aT Y (de V)<|bo<|aW aT af Y<|bD<|NZ V hN Y<|bv ?_;exact bg (aI (ih (i+1) e1 ⟨cJ V,h⟩) (bA Y))
   ·refine bO<|NZ V hN Y ?_;exact bg (aI (ih (i+1) m ⟨cJ V,h⟩) (bA Y))
 ·skip;refine aD Y<|ca li Y<|T (jk (J Y) hI)<|cn h Y (fun h=>?_) (fun h=>?_)
  ·refine aG ?_;exact(nn h).elim
  ·refine bO ?_;exact cQ (K h) (bA Y)
