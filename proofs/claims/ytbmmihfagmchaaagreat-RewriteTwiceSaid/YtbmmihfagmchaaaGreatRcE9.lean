/- cW of this claim: E9. -/
import Derived.Test.YtbmmihfagmchaaaGreatRcE8
set_option linter.all false
namespace Go.Proofs.YtbmmihfagmchaaaGreat
open Go

def Nj(k:Nat)(t:am):Prop:= ∃r b,(∀f n z,k+1<=f->k+5<=n->dN (bz f) n t z=some (r,b))/\(b=true->NF r/\KS t r)
def sE{k:Nat}{t:am}(h:NF t):Nj k t:=⟨t,true,fun f n z X hn=>by
 obtain⟨f,rfl⟩: ∃g,f=g+1:=⟨f-1,by omega⟩
 obtain⟨n,rfl⟩: ∃g,n=g+1:=⟨n-1,by omega⟩
 exact C0 h f n z,fun _=>⟨h,KS.refl t⟩⟩
def sF{k:Nat}{t r:am}(h: ∀f,k<=f->cJ (bz (f+1)) t true=some (r,2)):Nj k t:=⟨t,false,fun f n z X hn=>by
 obtain⟨f,rfl⟩: ∃g,f=g+1:=⟨f-1,by omega⟩
 obtain⟨n,rfl⟩: ∃g,n=g+1:=⟨n-1,by omega⟩
 exact Iv (h f (by omega)) n z,fun k=>by cases k⟩
def sD{k:Nat}{t r:am}(h: ∀f,k+1<=f->cJ (bz (f+1)) t true=some (r,1))(ks:KS t r)(hR:Nj k r):Nj (k+1) t:=by
 obtain⟨r',b,Y,J⟩:=hR
 refine⟨r',b,fun f n z X hn=>?_,fun V=>⟨(J V).1,ks.trans (J V).2⟩⟩
 obtain⟨f,rfl⟩: ∃g,f=g+1:=⟨f-1,by omega⟩
 obtain⟨n,rfl⟩: ∃g,n=g+1:=⟨n-1,by omega⟩
 rw [B7 (h f (by omega))]
 exact Y (f+1) n z (by omega) (by omega)
def kV{f:Nat}{n:aa}{x:am}(hop:n.Op=3)(d:Bool):cJ (bz (f+1)) (aS n x) d=dw (bz f) (aS n x) d:=by
 rw [uG,bE (show(aS n x).root.Op=3 from hop)]
def zM{n:aa}{c:Tr}(hc:n.Cond=cV c)(h:zN n=false):qA c=false:=by
 unfold zN at h
 rw [hc,qE]at h
 simp only [yZ]at h
 exact h.1.1
def Jt{k:Nat}{h2 r1 r2:am}{m' :aa}{e:Tr}{u:Tr}{us:List Tr}{left:Nat}{ands:List Tr}(hP:oJ (u::us))(hJ:NF h2)(hJe:h2=cr m' r1 r2)(hop:m'.Op=2)(hm:m'.Cond=cV e)(hwe:e.wf)(hse:e.size<=1000)
  (Y:nh r1)(hk:(KF r1).length=left)(hC:sC (left:Int) m'.Left ands=u::us)(hr:bS (d1 (nF (cV (iR u us))) h2.Logic)=true):Nj k (aS (nF (cV (iR u us))) h2):=by
 obtain⟨_,hw,hs,ha⟩:=ve hP
 have hsm:cj (nF (cV (iR u us))):=sK (by rw [mF];omega)
 have hT:nh (aS (nF (cV (iR u us))) h2):= .one _ h2 hJ.tok hsm hr
 have hks:KS (aS (nF (cV (iR u us))) h2) h2:=sM hJ.tok hsm hr rfl
 cases hy:Az (iR u us)with
 |true=>
  refine⟨h2,true,fun f n z X hn=>?_,fun _=>⟨hJ,hks⟩⟩
  obtain⟨f,rfl⟩: ∃g,f=g+1:=⟨f-1,by omega⟩
  obtain⟨n,rfl⟩: ∃g,n=g+1+1:=⟨n-2,by omega⟩
  rw [B7 (r:=h2) (by rw [kV rfl,qx _ hw hs rfl,hy];rfl)]
  exact C0 hJ f n z
 |false=>
  refine sE (.mk _ hT (fun p hp=>by rw [jY.1 hp];exact hJ) fun fu d=>?_)
  have hJo:h2.root.Op=2:=by rw [hJe];exact hop
  rw [kV rfl,qx _ hw hs rfl,hy]
  simp only [jx,gE]
  rw [bn (by rw [hJo];intro k;exact absurd k.1 (by decide))]
  cases hc:(h2.root.Op==(2:Int))&& !(qA (iR u us))with
  |false=>rfl
  |true=>
   simp only [gu]
   rw [show h2.root.Cond=cV e from by rw [hJe];exact hm,uT hwe hse]
   cases qA e with
   |true=>rfl
   |false=>
    simp only [bo,zx,gu]
    subst hJe
    rw [uX _ Y hw hs rfl,bE]
    rw [hk,ha,<-hC]
    exact Qh _ _ _
def Gp{k:Nat}(IH:Pz k)(hk2:k<=100){n:aa}{x:am}(I:NF x)(hn:cj n)(hr:bS (d1 n x.Logic)=true)(hop:n.Op=3)(hl:x.Logic.Nodes.length+1<=k+1):Nj (k+1) (aS n x):=by
 have hT:nh (aS n x):= .one n x I.tok hn hr
 obtain⟨kx,_⟩:=oY I.tok hn hr
 obtain⟨c,hw,hs,hc⟩:=qz (sN hop kx).2
 have hks:=sM I.tok hn hr hop
 have mkNF:(∀rec d,dw rec (aS n x) d=some (aS n x,0))->Nj (k+1) (aS n x):=fun h=>
  sE (.mk _ hT (fun p hp=>by rw [jY.1 hp];exact I) fun fu d=>by rw [kV hop];exact h _ d)
 cases hy:Az c with
 |true=>exact sD (fun f _=>by rw [kV hop,qx _ hw hs hc,hy];rfl) hks (sE I)
 |false=>
  by_cases Z:x.root.Op=3/\qA c=false
  ·-- two filters
   rcases uo I.tok with⟨j,_⟩|⟨m,y,hy',hm,hry,rfl,_⟩|⟨m,p,q,_,_,_,_,rfl,j⟩
   ·omega
   ·have hop2:m.Op=3:=Z.1
    obtain⟨ky,_⟩:=oY hy' hm hry
    obtain⟨e,hwe,hse,he⟩:=qz (sN hop2 ky).2
    have X: ∀rec d,dw rec (aS n (aS m y)) d=if e.size+c.size+1<=1000 then(if bS (d1 (nF (cV (iR e [c]))) y.Logic)then some (aS (nF (cV (iR e [c]))) y,1)else some (zT,2))else some (aS n (aS m y),0):=fun rec d=>by
     rw [qx _ hw hs hc,hy]
     simp only [jx,gE]
     rw [bE Z,show(aS m y).root.Cond=cV e from he,HF ⟨hwe,hse⟩ ⟨hw,hs⟩]
     by_cases h:e.size+c.size+1<=1000
     ·rw [bE h,bE h,bo,bn (show¬(((0:Int) !=(0:Int))=true) by decide),show cU (aS m y).parts (0:Int)=some y from rfl,bo,
       sH hy' (sK (by rw [mF,o6];simp [pD];omega)),bo]
      cases bS (d1 (nF (cV (iR e [c]))) y.Logic)<;>rfl
     ·rw [bn h,bn h,bo,bE (by decide)]
    by_cases h:e.size+c.size+1<=1000
    ·cases hR:bS (d1 (nF (cV (iR e [c]))) y.Logic)with
     |false=>exact sF (fun f _=>by rw [kV hop,X,bE h,hR];rfl)
     |true=>
      have hsm:cj (nF (cV (iR e [c]))):=sK (by rw [mF,o6];simp [pD];omega)
      have hT2:nh (aS (nF (cV (iR e [c]))) y):= .one _ y hy' hsm hR
      have k1:=sM hy' hm hry hop2
      have k2:=sM hy' hsm hR rfl
      refine sD (fun f _=>by rw [kV hop,X,bE h,hR];rfl) ⟨?_,?_,?_⟩ (IH _ hT2 ?_ (fun p hp=>by rw [jY.1 hp];exact I.sub y (by show y∈[y];simp)))
      ·rw [<-k2.kinds,k1.kinds,hks.kinds]
      ·rw [<-k2.tabs,k1.tabs,hks.tabs]
      ·intro hu
       rw [sk,sk]at hu
       rw [sk,G7]
       simp only [yZ]at hu ⊢
       refine⟨hu.1.1,?_⟩
       show(qA e||qA c||GN Lj)=false
       rw [zM he hu.1.2,zM hc hu.2]
       decide
      ·have l1:(d1 (nF (cV (iR e [c]))) y.Logic).Nodes.length=y.Logic.Nodes.length+1:=ow _ _
       have l2:(d1 m y.Logic).Nodes.length=y.Logic.Nodes.length+1:=ow _ _
       show(d1 (nF (cV (iR e [c]))) y.Logic).Nodes.length<=k
       have l3:(aS m y).Logic.Nodes.length=y.Logic.Nodes.length+1:=l2
       omega
    ·exact mkNF fun rec d=>by rw [X,bn h]
   ·have:m.Op=3:=Z.1
    omega
  ·have X: ∀rec d,dw rec (aS n x) d=(if((x.root.Op==(2:Int))&& !(qA c))then((mE x.root.Cond).bind fun r5=>some r5)else some false).bind fun t2=>if t2 then fG rec (aS n x) d else some (aS n x,(0:Int)):=fun rec d=>by
    rw [qx _ hw hs hc,hy]
    simp only [jx,gE]
    rw [bn Z]
   cases J:(x.root.Op==(2:Int))&& !(qA c)with
   |false=>exact mkNF fun rec d=>by rw [X,J];rfl
   |true=>
    have hxo:x.root.Op=2:=by simp only [jX,tE]at J;exact J.1
    rcases uo I.tok with⟨j,_⟩|⟨m,y,_,_,_,rfl,_,j,_⟩|⟨m,p,q,hp,hq,hm,hrx,rfl,_⟩
    ·omega
    ·exact absurd hxo j
    ·have hop2:m.Op=2:=hxo
     obtain⟨kj,_⟩:=x8 hp hq hm hrx
     obtain⟨kj1,kj2⟩:=C2 hop2 kj
     obtain⟨e,hwe,hse,he⟩:=qz kj2
     cases hae:qA e with
     |true=>
      refine mkNF fun rec d=>?_
      rw [X,J]
      simp only [gu]
      rw [show(cr m p q).root.Cond=cV e from he,uT hwe hse,hae];rfl
     |false=>
      have hf2: ∀rec d,dw rec (aS n (cr m p q)) d=fG rec (aS n (cr m p q)) d:=fun rec d=>by
       rw [X,J]
       simp only [gu]
       rw [show(cr m p q).root.Cond=cV e from he,uT hwe hse,hae];rfl
      by_cases hAB:(sA ((KF p).length:Int) (eJ c))=[]/\(sB ((KF p).length:Int) m.Left (eJ c))=[]
      ·exact mkNF fun rec d=>by rw [hf2,uX rec hp hw hs hc,bE hAB]
      ·have hP:=td hw hs
       have hkl:=A8 hp
       have hpN:NF p:=I.sub p (by show p∈[p,q];simp)
       have hqN:NF q:=I.sub q (by show q∈[p,q];simp)
       have lx:(cr m p q).Logic.Nodes.length=p.Logic.Nodes.length+q.Logic.Nodes.length+1:=tq _ _ _
       have lp:=hp.len
       have lq:=hq.len
       obtain⟨r1,b1,g1,g2⟩:=vC IH hk2 hpN (by omega) (hP.a ((KF p).length:Int))
       obtain⟨r2,b2,i1,i2⟩:=vC IH hk2 hqN (by omega) (hP.b (left:=((KF p).length:Int)) (by omega) m.Left)
       have hPC:=hP.c ((KF p).length:Int) m.Left
       have first: ∀f,k+1<=f->cJ (bz (f+1)) (aS n (cr m p q)) true=if(!b1)then some (aS n (cr m p q),(2:Int))else if(!b2)then some (aS n (cr m p q),(2:Int))else
         (d9 (nJ m.Left m.Cond) [r1,r2]).bind fun r2=>if(!r2.2)then some (aS n (cr m p q),(2:Int))else
          (cq (bz f) r2.1 ((sC ((KF p).length:Int) m.Left (eJ c)).map cV) false).bind fun r3=>(ip r3.1 r3.2).bind fun r4=>some (r4.1,r4.2):=fun f X=>by
        rw [kV hop,hf2,uX _ hp hw hs hc,bn hAB,g1 f X,bo,i1 f X,bo]
       cases b1 with
       |false=>exact sF (fun f X=>by rw [first f (by omega)];rfl)
       |true=>
        cases b2 with
        |false=>exact sF (fun f X=>by rw [first f (by omega)];rfl)
        |true=>
         obtain⟨N1,F1⟩:=g2 rfl
         obtain⟨N2,F2⟩:=i2 rfl
         have hsJ:cj (nJ m.Left m.Cond):=Es (by rw [he,mF];omega)
         rw [wU N1.tok N2.tok hsJ]at first
         cases hRJ:bS (d2 (nJ m.Left m.Cond) r1.Logic r2.Logic)with
         |false=>exact sF (fun f X=>by rw [first f (by omega),hRJ];rfl)
         |true=>
          have TJ:nh (cr (nJ m.Left m.Cond) r1 r2):= .two _ _ _ N1.tok N2.tok hsJ hRJ
          have NJ:NF (cr (nJ m.Left m.Cond) r1 r2):= .mk _ TJ (fun v hv=>by
           rcases gB.1 hv with rfl|hv
           ·exact N1
           ·rw [jY.1 hv];exact N2) (sJ (by show(2:Int)≠3;decide) (by show(2:Int)≠5;decide) (by show(2:Int)≠6;decide))
          have kJ:KF (cr (nJ m.Left m.Cond) r1 r2)=KF (cr m p q):=by
           obtain⟨a1,_⟩:=x8 N1.tok N2.tok hsJ hRJ
           rw [(C2 rfl a1).1,F1.kinds,F2.kinds,kj1]
          have tJ:TB (cr (nJ m.Left m.Cond) r1 r2)=TB (cr m p q):=by
           rw [Ds (by show(2:Int)≠1;decide),Ds (by omega),F1.tabs,F2.tabs]
          have uJ:UN (aS n (cr m p q))=false->qA c=false/\UN (cr (nJ m.Left m.Cond) r1 r2)=false:=fun hu=>by
           rw [sk,GQ]at hu
           simp only [yZ]at hu
           have hac:=zM hc hu.2
           refine⟨hac,?_⟩
           rw [GQ,F1.safe hu.1.1.1 (fun v hv=>Dp hac v (vv.1 hv).1),F2.safe hu.1.1.2 (fun v hv=>by
            obtain⟨w,hw',_,rfl⟩:=Jx hv
            rw [Oy];exact Dp hac w hw'),he,Ly,hae]
           rfl
          have first2: ∀f,k+1<=f->cJ (bz (f+1)) (aS n (cr m p q)) true=(cq (bz f) (cr (nJ m.Left m.Cond) r1 r2) ((sC ((KF p).length:Int) m.Left (eJ c)).map cV) false).bind fun r3=>(ip r3.1 r3.2).bind fun r4=>some (r4.1,r4.2):=fun f X=>by
           rw [first f X,hRJ];rfl
          cases hC:sC ((KF p).length:Int) m.Left (eJ c)with
          |nil=>
           rw [hC]at first2
           exact sD (r:=cr (nJ m.Left m.Cond) r1 r2) (fun f X=>by rw [first2 f X];rfl) ⟨by rw [kJ,hks.kinds],by rw [tJ,hks.tabs],fun hu=>(uJ hu).2⟩ (sE NJ)
          |cons u us=>
           rw [hC]at first2 hPC
           have first3: ∀f,k+1<=f->cJ (bz (f+1)) (aS n (cr m p q)) true=if bS (d1 (nF (cV (iR u us))) (cr (nJ m.Left m.Cond) r1 r2).Logic)then some (aS (nF (cV (iR u us))) (cr (nJ m.Left m.Cond) r1 r2),1)else some (zT,2):=fun f X=>by
            rw [first2 f X,pn _ TJ hPC]
            cases bS (d1 (nF (cV (iR u us))) (cr (nJ m.Left m.Cond) r1 r2).Logic)<;>rfl
           cases hRF:bS (d1 (nF (cV (iR u us))) (cr (nJ m.Left m.Cond) r1 r2).Logic)with
           |false=>exact sF (fun f X=>by rw [first3 f (by omega),hRF];rfl)
           |true=>
            obtain⟨_,FF⟩:=Dy.one TJ hPC hRF
            refine sD (fun f X=>by rw [first3 f X,hRF];rfl) ⟨by rw [FF.kinds,kJ,hks.kinds],by rw [FF.tabs,tJ,hks.tabs],fun hu=>FF.safe (uJ hu).2 (fun v hv=>Dp (uJ hu).1 v ?_)⟩
             (Jt (m' :=nJ m.Left m.Cond) (e:=e) (left:=(KF p).length) (ands:=eJ c) hPC NJ rfl rfl he hwe hse N1.tok (by rw [F1.kinds]) hC hRF)
            rw [<-hC]at hv
            exact(vv.1 hv).1
def zO: ∀k,k<=100->Pz k
 |0,_,t,hT,hl,_=>by have:=hT.len;omega
 |k+1,hk,t,hT,hl,hp=>by
  have IH:=zO k (by omega)
  show Nj (k+1) t
  have base:Dx t->Nj (k+1) t:=fun h=>sE (.mk t hT hp h)
  rcases uo hT with⟨Y,_⟩|⟨n,x,I,hn,hr,rfl,_⟩|⟨n,p,q,_,_,_,_,rfl,h⟩
  ·exact base (sJ (by omega) (by omega) (by omega))
  ·have hxN:NF x:=hp x (by show x∈[x];simp)
   have hl2:x.Logic.Nodes.length+1<=k+1:=by have:(aS n x).Logic.Nodes.length=x.Logic.Nodes.length+1:=ow _ _;omega
   by_cases Z:n.Op=3
   ·exact Gp IH (by omega) hxN hn hr Z hl2
   ·by_cases h5:n.Op=5
    ·have ff: ∀f d,cJ (bz (f+1)) (aS n x) d=eS (aS n x) d:=fun f d=>by
      rw [uG,bn (show¬(aS n x).root.Op=3 from Z),bE (show(aS n x).root.Op=5 from h5)]
     rcases wR I hn hr h5 with g|g|⟨m,y,items,hy,hm,rfl,hs,hR,ks,g⟩
     ·exact base fun f d=>by rw [ff];exact g d
     ·exact sF fun f _=>by rw [ff];exact g true
     ·refine sD (fun f _=>by rw [ff];exact g true) ks (IH _ (.one _ y hy hs hR) ?_ (fun p hp=>by rw [jY.1 hp];exact hxN.sub y (by show y∈[y];simp)))
      have l1:(aS (m0 items) y).Logic.Nodes.length=y.Logic.Nodes.length+1:=ow _ _
      have l2:(aS m y).Logic.Nodes.length=y.Logic.Nodes.length+1:=ow _ _
      omega
    ·by_cases h6:n.Op=6
     ·have ff: ∀f d,cJ (bz (f+1)) (aS n x) d=eX (aS n x) d:=fun f d=>by
       rw [uG,bn (show¬(aS n x).root.Op=3 from Z),bn (show¬(aS n x).root.Op=5 from h5),bE (show(aS n x).root.Op=6 from h6)]
      rcases vF (n:=n) I with g|g
      ·exact base fun f d=>by rw [ff];exact g d
      ·exact sD (fun f _=>by rw [ff];exact g true) (Ev I hn hr h6) (sE hxN)
     ·exact base (sJ Z h5 h6)
  ·have hR:(cr n p q).root.Op=2\/(cr n p q).root.Op=7:=h
   exact base (sJ (by omega) (by omega) (by omega))
end Go.Proofs.YtbmmihfagmchaaaGreat

