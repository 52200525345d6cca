/- cP of this claim: E9. -/
import Derived.Test.YtbmmihfagmchaaaGreatRbE8
set_option linter.all false
namespace Go.Proofs.YtbmmihfagmchaaaGreat
open Go

def No(k:Nat)(t:am):Prop:= ∃r b,(∀f n z,k+1<=f->k+5<=n->dE (bG f) n t z=some (r,b))/\(b=true->NF r/\KS t r)
def sr{k:Nat}{t:am}(h:NF t):No k t:=⟨t,true,fun f n z X hn=>by
 obtain⟨f,rfl⟩: ∃g,f=g+1:=⟨f-1,by omega⟩
 obtain⟨n,rfl⟩: ∃g,n=g+1:=⟨n-1,by omega⟩
 exact Hf h f n z,fun _=>⟨h,KS.refl t⟩⟩
def ss{k:Nat}{t r:am}(h: ∀f,k<=f->cN (bG (f+1)) t true=some (r,2)):No k t:=⟨t,false,fun f n z X hn=>by
 obtain⟨f,rfl⟩: ∃g,f=g+1:=⟨f-1,by omega⟩
 obtain⟨n,rfl⟩: ∃g,n=g+1:=⟨n-1,by omega⟩
 exact Im (h f (by omega)) n z,fun k=>by cases k⟩
def sn{k:Nat}{t r:am}(h: ∀f,k+1<=f->cN (bG (f+1)) t true=some (r,1))(ks:KS t r)(hR:No k r):No (k+1) t:=by
 obtain⟨r',b,Y,J⟩:=hR
 refine⟨r',b,fun f n z X hn=>?_,fun V=>⟨(J V).1,ks.trans (J V).2⟩⟩
 obtain⟨f,rfl⟩: ∃g,f=g+1:=⟨f-1,by omega⟩
 obtain⟨n,rfl⟩: ∃g,n=g+1:=⟨n-1,by omega⟩
 rw [BZ (h f (by omega))]
 exact Y (f+1) n z (by omega) (by omega)
def kL{f:Nat}{n:aa}{x:am}(hop:n.Op=3)(d:Bool):cN (bG (f+1)) (be n x) d=dF (bG f) (be n x) d:=by
 rw [w8,bD (show(be n x).root.Op=3 from hop)]
def zJ{n:aa}{c:Tr}(hc:n.Cond=cU c)(h:ww n=false):qZ c=false:=by
 unfold ww at h
 rw [hc,qt]at h
 simp only [yZ]at h
 exact h.1.1
def Jq{k:Nat}{h2 r1 r2:am}{m' :aa}{e:Tr}{u:Tr}{us:List Tr}{left:Nat}{ands:List Tr}(hP:pJ (u::us))(hJ:NF h2)(hJe:h2=cO m' r1 r2)(hop:m'.Op=2)(hm:m'.Cond=cU e)(hwe:e.wf)(hse:e.size<=1000)
  (Y:ou r1)(hk:(KF r1).length=left)(hC:sC (left:Int) m'.Left ands=u::us)(hr:bQ (d1 (nF (cU (iP u us))) h2.Logic)=true):No k (be (nF (cU (iP u us))) h2):=by
 obtain⟨_,hw,hs,ha⟩:=uZ hP
 have hsm:ck (nF (cU (iP u us))):=um (by rw [oo];omega)
 have hT:ou (be (nF (cU (iP u us))) h2):= .one _ h2 hJ.tok hsm hr
 have hks:KS (be (nF (cU (iP u us))) h2) h2:=sx hJ.tok hsm hr rfl
 cases hy:B3 (iP u us)with
 |true=>
  refine⟨h2,true,fun f n z X hn=>?_,fun _=>⟨hJ,hks⟩⟩
  obtain⟨f,rfl⟩: ∃g,f=g+1:=⟨f-1,by omega⟩
  obtain⟨n,rfl⟩: ∃g,n=g+1+1:=⟨n-2,by omega⟩
  rw [BZ (r:=h2) (by rw [kL rfl,sG _ hw hs rfl,hy];rfl)]
  exact Hf hJ f n z
 |false=>
  refine sr (.mk _ hT (fun p hp=>by rw [jL.1 hp];exact hJ) fun fu d=>?_)
  have hJo:h2.root.Op=2:=by rw [hJe];exact hop
  rw [kL rfl,sG _ hw hs rfl,hy]
  simp only [kP,iB]
  rw [bo (by rw [hJo];intro k;exact absurd k.1 (by decide))]
  cases hc:(h2.root.Op==(2:Int))&& !(qZ (iP u us))with
  |false=>rfl
  |true=>
   simp only [fP]
   rw [show h2.root.Cond=cU e from by rw [hJe];exact hm,wC hwe hse]
   cases qZ e with
   |true=>rfl
   |false=>
    simp only [bt,ym,fP]
    subst hJe
    rw [xM _ Y hw hs rfl,bD]
    rw [hk,ha,<-hC]
    exact Qe _ _ _
def Gj{k:Nat}(IH:Pw k)(hk2:k<=100){n:aa}{x:am}(I:NF x)(hn:ck n)(hr:bQ (d1 n x.Logic)=true)(hop:n.Op=3)(hl:x.Logic.Nodes.length+1<=k+1):No (k+1) (be n x):=by
 have hT:ou (be n x):= .one n x I.tok hn hr
 obtain⟨kx,_⟩:=qR I.tok hn hr
 obtain⟨c,hw,hs,hc⟩:=yb (xU hop kx).2
 have hks:=sx I.tok hn hr hop
 have mkNF:(∀rec d,dF rec (be n x) d=some (be n x,0))->No (k+1) (be n x):=fun h=>
  sr (.mk _ hT (fun p hp=>by rw [jL.1 hp];exact I) fun fu d=>by rw [kL hop];exact h _ d)
 cases hy:B3 c with
 |true=>exact sn (fun f _=>by rw [kL hop,sG _ hw hs hc,hy];rfl) hks (sr I)
 |false=>
  by_cases Z:x.root.Op=3/\qZ c=false
  ·-- two filters
   rcases zP I.tok with⟨j,_⟩|⟨m,y,hy',hm,hry,rfl,_⟩|⟨m,p,q,_,_,_,_,rfl,j⟩
   ·omega
   ·have hop2:m.Op=3:=Z.1
    obtain⟨ky,_⟩:=qR hy' hm hry
    obtain⟨e,hwe,hse,he⟩:=yb (xU hop2 ky).2
    have X: ∀rec d,dF rec (be n (be m y)) d=if e.size+c.size+1<=1000 then(if bQ (d1 (nF (cU (iP e [c]))) y.Logic)then some (be (nF (cU (iP e [c]))) y,1)else some (zT,2))else some (be n (be m y),0):=fun rec d=>by
     rw [sG _ hw hs hc,hy]
     simp only [kP,iB]
     rw [bD Z,show(be m y).root.Cond=cU e from he,Nn ⟨hwe,hse⟩ ⟨hw,hs⟩]
     by_cases h:e.size+c.size+1<=1000
     ·rw [bD h,bD h,bt,bo (show¬(((0:Int) !=(0:Int))=true) by decide),show cQ (be m y).parts (0:Int)=some y from rfl,bt,
       wM hy' (um (by rw [oo,qn];simp [pP];omega)),bt]
      cases bQ (d1 (nF (cU (iP e [c]))) y.Logic)<;>rfl
     ·rw [bo h,bo h,bt,bD (by decide)]
    by_cases h:e.size+c.size+1<=1000
    ·cases hR:bQ (d1 (nF (cU (iP e [c]))) y.Logic)with
     |false=>exact ss (fun f _=>by rw [kL hop,X,bD h,hR];rfl)
     |true=>
      have hsm:ck (nF (cU (iP e [c]))):=um (by rw [oo,qn];simp [pP];omega)
      have hT2:ou (be (nF (cU (iP e [c]))) y):= .one _ y hy' hsm hR
      have k1:=sx hy' hm hry hop2
      have k2:=sx hy' hsm hR rfl
      refine sn (fun f _=>by rw [kL hop,X,bD h,hR];rfl) ⟨?_,?_,?_⟩ (IH _ hT2 ?_ (fun p hp=>by rw [jL.1 hp];exact I.sub y (by show y∈[y];simp)))
      ·rw [<-k2.kinds,k1.kinds,hks.kinds]
      ·rw [<-k2.tabs,k1.tabs,hks.tabs]
      ·intro hu
       rw [rY,rY]at hu
       rw [rY,G1]
       simp only [yZ]at hu ⊢
       refine⟨hu.1.1,?_⟩
       show(qZ e||qZ c||Fp Ln)=false
       rw [zJ he hu.1.2,zJ hc hu.2]
       decide
      ·have l1:(d1 (nF (cU (iP e [c]))) y.Logic).Nodes.length=y.Logic.Nodes.length+1:=o0 _ _
       have l2:(d1 m y.Logic).Nodes.length=y.Logic.Nodes.length+1:=o0 _ _
       show(d1 (nF (cU (iP e [c]))) y.Logic).Nodes.length<=k
       have l3:(be m y).Logic.Nodes.length=y.Logic.Nodes.length+1:=l2
       omega
    ·exact mkNF fun rec d=>by rw [X,bo h]
   ·have:m.Op=3:=Z.1
    omega
  ·have X: ∀rec d,dF rec (be n x) d=(if((x.root.Op==(2:Int))&& !(qZ c))then((j9 x.root.Cond).bind fun r5=>some r5)else some false).bind fun t2=>if t2 then gc rec (be n x) d else some (be n x,(0:Int)):=fun rec d=>by
    rw [sG _ hw hs hc,hy]
    simp only [kP,iB]
    rw [bo Z]
   cases J:(x.root.Op==(2:Int))&& !(qZ c)with
   |false=>exact mkNF fun rec d=>by rw [X,J];rfl
   |true=>
    have hxo:x.root.Op=2:=by simp only [iX,se]at J;exact J.1
    rcases zP I.tok with⟨j,_⟩|⟨m,y,_,_,_,rfl,_,j,_⟩|⟨m,p,q,hp,hq,hm,hrx,rfl,_⟩
    ·omega
    ·exact absurd hxo j
    ·have hop2:m.Op=2:=hxo
     obtain⟨kj,_⟩:=At hp hq hm hrx
     obtain⟨kj1,kj2⟩:=Hh hop2 kj
     obtain⟨e,hwe,hse,he⟩:=yb kj2
     cases hae:qZ e with
     |true=>
      refine mkNF fun rec d=>?_
      rw [X,J]
      simp only [fP]
      rw [show(cO m p q).root.Cond=cU e from he,wC hwe hse,hae];rfl
     |false=>
      have hf2: ∀rec d,dF rec (be n (cO m p q)) d=gc rec (be n (cO m p q)) d:=fun rec d=>by
       rw [X,J]
       simp only [fP]
       rw [show(cO m p q).root.Cond=cU e from he,wC hwe hse,hae];rfl
      by_cases hAB:(sA ((KF p).length:Int) (ev c))=[]/\(sB ((KF p).length:Int) m.Left (ev c))=[]
      ·exact mkNF fun rec d=>by rw [hf2,xM rec hp hw hs hc,bD hAB]
      ·have hP:=vU hw hs
       have hkl:=Dq hp
       have hpN:NF p:=I.sub p (by show p∈[p,q];simp)
       have hqN:NF q:=I.sub q (by show q∈[p,q];simp)
       have lx:(cO m p q).Logic.Nodes.length=p.Logic.Nodes.length+q.Logic.Nodes.length+1:=uz _ _ _
       have lp:=hp.len
       have lq:=hq.len
       obtain⟨r1,b1,g1,g2⟩:=vl IH hk2 hpN (by omega) (hP.a ((KF p).length:Int))
       obtain⟨r2,b2,i1,i2⟩:=vl IH hk2 hqN (by omega) (hP.b (left:=((KF p).length:Int)) (by omega) m.Left)
       have hPC:=hP.c ((KF p).length:Int) m.Left
       have first: ∀f,k+1<=f->cN (bG (f+1)) (be n (cO m p q)) true=if(!b1)then some (be n (cO m p q),(2:Int))else if(!b2)then some (be n (cO m p q),(2:Int))else
         (dV (nJ m.Left m.Cond) [r1,r2]).bind fun r2=>if(!r2.2)then some (be n (cO m p q),(2:Int))else
          (cv (bG f) r2.1 ((sC ((KF p).length:Int) m.Left (ev c)).map cU) false).bind fun r3=>(ia r3.1 r3.2).bind fun r4=>some (r4.1,r4.2):=fun f X=>by
        rw [kL hop,hf2,xM _ hp hw hs hc,bo hAB,g1 f X,bt,i1 f X,bt]
       cases b1 with
       |false=>exact ss (fun f X=>by rw [first f (by omega)];rfl)
       |true=>
        cases b2 with
        |false=>exact ss (fun f X=>by rw [first f (by omega)];rfl)
        |true=>
         obtain⟨N1,F1⟩:=g2 rfl
         obtain⟨N2,F2⟩:=i2 rfl
         have hsJ:ck (nJ m.Left m.Cond):=JR (by rw [he,oo];omega)
         rw [D7 N1.tok N2.tok hsJ]at first
         cases hRJ:bQ (d2 (nJ m.Left m.Cond) r1.Logic r2.Logic)with
         |false=>exact ss (fun f X=>by rw [first f (by omega),hRJ];rfl)
         |true=>
          have TJ:ou (cO (nJ m.Left m.Cond) r1 r2):= .two _ _ _ N1.tok N2.tok hsJ hRJ
          have NJ:NF (cO (nJ m.Left m.Cond) r1 r2):= .mk _ TJ (fun v hv=>by
           rcases fT.1 hv with rfl|hv
           ·exact N1
           ·rw [jL.1 hv];exact N2) (sv (by show(2:Int)≠3;decide) (by show(2:Int)≠5;decide) (by show(2:Int)≠6;decide))
          have kJ:KF (cO (nJ m.Left m.Cond) r1 r2)=KF (cO m p q):=by
           obtain⟨a1,_⟩:=At N1.tok N2.tok hsJ hRJ
           rw [(Hh rfl a1).1,F1.kinds,F2.kinds,kj1]
          have tJ:TB (cO (nJ m.Left m.Cond) r1 r2)=TB (cO m p q):=by
           rw [Dj (by show(2:Int)≠1;decide),Dj (by omega),F1.tabs,F2.tabs]
          have uJ:UN (be n (cO m p q))=false->qZ c=false/\UN (cO (nJ m.Left m.Cond) r1 r2)=false:=fun hu=>by
           rw [rY,GK]at hu
           simp only [yZ]at hu
           have hac:=zJ hc hu.2
           refine⟨hac,?_⟩
           rw [GK,F1.safe hu.1.1.1 (fun v hv=>Dg hac v (vc.1 hv).1),F2.safe hu.1.1.2 (fun v hv=>by
            obtain⟨w,hw',_,rfl⟩:=Ju hv
            rw [OB];exact Dg hac w hw'),he,LC,hae]
           rfl
          have first2: ∀f,k+1<=f->cN (bG (f+1)) (be n (cO m p q)) true=(cv (bG f) (cO (nJ m.Left m.Cond) r1 r2) ((sC ((KF p).length:Int) m.Left (ev c)).map cU) false).bind fun r3=>(ia r3.1 r3.2).bind fun r4=>some (r4.1,r4.2):=fun f X=>by
           rw [first f X,hRJ];rfl
          cases hC:sC ((KF p).length:Int) m.Left (ev c)with
          |nil=>
           rw [hC]at first2
           exact sn (r:=cO (nJ m.Left m.Cond) r1 r2) (fun f X=>by rw [first2 f X];rfl) ⟨by rw [kJ,hks.kinds],by rw [tJ,hks.tabs],fun hu=>(uJ hu).2⟩ (sr NJ)
          |cons u us=>
           rw [hC]at first2 hPC
           have first3: ∀f,k+1<=f->cN (bG (f+1)) (be n (cO m p q)) true=if bQ (d1 (nF (cU (iP u us))) (cO (nJ m.Left m.Cond) r1 r2).Logic)then some (be (nF (cU (iP u us))) (cO (nJ m.Left m.Cond) r1 r2),1)else some (zT,2):=fun f X=>by
            rw [first2 f X,rW _ TJ hPC]
            cases bQ (d1 (nF (cU (iP u us))) (cO (nJ m.Left m.Cond) r1 r2).Logic)<;>rfl
           cases hRF:bQ (d1 (nF (cU (iP u us))) (cO (nJ m.Left m.Cond) r1 r2).Logic)with
           |false=>exact ss (fun f X=>by rw [first3 f (by omega),hRF];rfl)
           |true=>
            obtain⟨_,FF⟩:=Fh.one TJ hPC hRF
            refine sn (fun f X=>by rw [first3 f X,hRF];rfl) ⟨by rw [FF.kinds,kJ,hks.kinds],by rw [FF.tabs,tJ,hks.tabs],fun hu=>FF.safe (uJ hu).2 (fun v hv=>Dg (uJ hu).1 v ?_)⟩
             (Jq (m' :=nJ m.Left m.Cond) (e:=e) (left:=(KF p).length) (ands:=ev c) hPC NJ rfl rfl he hwe hse N1.tok (by rw [F1.kinds]) hC hRF)
            rw [<-hC]at hv
            exact(vc.1 hv).1
def zK: ∀k,k<=100->Pw k
 |0,_,t,hT,hl,_=>by have:=hT.len;omega
 |k+1,hk,t,hT,hl,hp=>by
  have IH:=zK k (by omega)
  show No (k+1) t
  have base:Do t->No (k+1) t:=fun h=>sr (.mk t hT hp h)
  rcases zP hT with⟨Y,_⟩|⟨n,x,I,hn,hr,rfl,_⟩|⟨n,p,q,_,_,_,_,rfl,h⟩
  ·exact base (sv (by omega) (by omega) (by omega))
  ·have hxN:NF x:=hp x (by show x∈[x];simp)
   have hl2:x.Logic.Nodes.length+1<=k+1:=by have:(be n x).Logic.Nodes.length=x.Logic.Nodes.length+1:=o0 _ _;omega
   by_cases Z:n.Op=3
   ·exact Gj IH (by omega) hxN hn hr Z hl2
   ·by_cases h5:n.Op=5
    ·have ff: ∀f d,cN (bG (f+1)) (be n x) d=eE (be n x) d:=fun f d=>by
      rw [w8,bo (show¬(be n x).root.Op=3 from Z),bD (show(be n x).root.Op=5 from h5)]
     rcases CL I hn hr h5 with g|g|⟨m,y,items,hy,hm,rfl,hs,hR,ks,g⟩
     ·exact base fun f d=>by rw [ff];exact g d
     ·exact ss fun f _=>by rw [ff];exact g true
     ·refine sn (fun f _=>by rw [ff];exact g true) ks (IH _ (.one _ y hy hs hR) ?_ (fun p hp=>by rw [jL.1 hp];exact hxN.sub y (by show y∈[y];simp)))
      have l1:(be (mR items) y).Logic.Nodes.length=y.Logic.Nodes.length+1:=o0 _ _
      have l2:(be m y).Logic.Nodes.length=y.Logic.Nodes.length+1:=o0 _ _
      omega
    ·by_cases h6:n.Op=6
     ·have ff: ∀f d,cN (bG (f+1)) (be n x) d=eI (be n x) d:=fun f d=>by
       rw [w8,bo (show¬(be n x).root.Op=3 from Z),bo (show¬(be n x).root.Op=5 from h5),bD (show(be n x).root.Op=6 from h6)]
      rcases BB (n:=n) I with g|g
      ·exact base fun f d=>by rw [ff];exact g d
      ·exact sn (fun f _=>by rw [ff];exact g true) (Ep I hn hr h6) (sr hxN)
     ·exact base (sv Z h5 h6)
  ·have hR:(cO n p q).root.Op=2\/(cO n p q).root.Op=7:=h
   exact base (sv (by omega) (by omega) (by omega))
end Go.Proofs.YtbmmihfagmchaaaGreat

