/- cW of this claim: E12. -/
import Derived.Test.YtbmmihfagmchaaaGreatRcE11
set_option linter.all false
namespace Go.Proofs.YtbmmihfagmchaaaGreat
open Go

def sj(rec:BG){p:am}(hp:nh p){us:List Tr}(h:oJ us): ∃r b,cq rec p (us.map cV) false=some (r,b)/\(b=true->nh r):=by
 cases us with
 |nil=>exact⟨p,true,rfl,fun _=>hp⟩
 |cons u us=>
  rw [pn rec hp h]
  cases hr:bS (d1 (nF (cV (iR u us))) p.Logic)with
  |false=>exact⟨zT,false,rfl,fun k=>by cases k⟩
  |true=>exact⟨_,true,rfl,fun _=>(Dy.one hp h hr).1⟩
def D8(rec:BG){n m:aa}{p q:am}{c e:Tr}(hp:nh p)(hq:nh q)(hw:c.wf)(hs:c.size<=1000)(hc:n.Cond=cV c)(he:m.Cond=cV e)(hse:e.size<=1000): ∃r,fG rec (aS n (cr m p q)) false=some r:=by
 rw [uX rec hp hw hs hc]
 split
 ·exact⟨_,rfl⟩
 ·have hP:=td hw hs
  have hkl:=A8 hp
  obtain⟨r1,b1,g1,g2⟩:=sj rec hp (hP.a ((KF p).length:Int))
  obtain⟨r2,b2,i1,i2⟩:=sj rec hq (hP.b (left:=((KF p).length:Int)) (by omega) m.Left)
  rw [g1,bo]
  cases b1 with
  |false=>exact⟨_,rfl⟩
  |true=>
   rw [bn (show¬((!true)=true) by decide),i1,bo]
   cases b2 with
   |false=>exact⟨_,rfl⟩
   |true=>
    have hsJ:cj (nJ m.Left m.Cond):=Es (by rw [he,mF];omega)
    rw [bn (show¬((!true)=true) by decide),wU (g2 rfl) (i2 rfl) hsJ]
    cases hRJ:bS (d2 (nJ m.Left m.Cond) r1.Logic r2.Logic)with
    |false=>exact⟨_,rfl⟩
    |true=>
     have TJ:nh (cr (nJ m.Left m.Cond) r1 r2):= .two _ _ _ (g2 rfl) (i2 rfl) hsJ hRJ
     obtain⟨r3,b3,j1,_⟩:=sj rec TJ (hP.c ((KF p).length:Int) m.Left)
     rw [bE rfl,bo,bn (show¬((!true)=true) by decide),j1,bo]
     cases b3<;>exact⟨_,rfl⟩
def EV(rec:BG){n:aa}{x:am}(I:nh x)(hn:cj n)(hr:bS (d1 n x.Logic)=true)(hop:n.Op=3): ∃r,dw rec (aS n x) false=some r:=by
 obtain⟨kx,_⟩:=oY I hn hr
 obtain⟨c,hw,hs,hc⟩:=qz (sN hop kx).2
 rw [qx rec hw hs hc]
 cases Az c with
 |true=>exact⟨_,rfl⟩
 |false=>
  simp only [jx,gE]
  by_cases Z:x.root.Op=3/\qA c=false
  ·rw [bE Z]
   rcases uo I with⟨j,_⟩|⟨m,y,hy',hm,hry,rfl,_⟩|⟨m,p,q,_,_,_,_,rfl,j⟩
   ·omega
   ·have hop2:m.Op=3:=Z.1
    obtain⟨ky,_⟩:=oY hy' hm hry
    obtain⟨e,hwe,hse,he⟩:=qz (sN hop2 ky).2
    rw [show(aS m y).root.Cond=cV e from he,HF ⟨hwe,hse⟩ ⟨hw,hs⟩]
    by_cases h:e.size+c.size+1<=1000
    ·rw [bE h,bo,bn (show¬(((0:Int) !=(0:Int))=true) by decide),show cU (aS m y).parts (0:Int)=some y from rfl,bo,
      sH hy' (sK (by rw [mF,o6];simp [pD];omega)),bo]
     cases bS (d1 (nF (cV (iR e [c]))) y.Logic)<;>exact⟨_,rfl⟩
    ·rw [bn h,bo,bE (by decide)]
     exact⟨_,rfl⟩
   ·have:m.Op=3:=Z.1
    omega
  ·rw [bn Z]
   cases J:(x.root.Op==(2:Int))&& !(qA c)with
   |false=>exact⟨_,rfl⟩
   |true=>
    have hxo:x.root.Op=2:=by simp only [jX,tE]at J;exact J.1
    rcases uo I with⟨j,_⟩|⟨m,y,_,_,_,rfl,_,j,_⟩|⟨m,p,q,hp,hq,hm,hrx,rfl,_⟩
    ·omega
    ·exact absurd hxo j
    ·have hop2:m.Op=2:=hxo
     obtain⟨kj,_⟩:=x8 hp hq hm hrx
     obtain⟨e,hwe,hse,he⟩:=qz (C2 hop2 kj).2
     simp only [gu]
     rw [show(cr m p q).root.Cond=cV e from he,uT hwe hse,bo,bo]
     cases qA e with
     |true=>exact⟨_,rfl⟩
     |false=>
      obtain⟨r,hr⟩:=D8 rec hp hq hw hs hc he hse
      rw [bE (by decide),hr]
      exact⟨_,rfl⟩
def Gn{t:am}(hT:nh t)(f:Nat): ∃r,cJ (bz (f+1)) t false=some r:=by
 rw [uG]
 rcases uo hT with⟨Y,_⟩|⟨n,x,I,hn,hr,rfl,_⟩|⟨n,p,q,_,_,_,_,rfl,h⟩
 ·rw [bn (by omega),bn (by omega),bn (by omega)]
  exact⟨_,rfl⟩
 ·have ho:(aS n x).root.Op=n.Op:=rfl
  rw [ho]
  by_cases Z:n.Op=3
  ·rw [bE Z];exact EV _ I hn hr Z
  ·rw [bn Z]
   by_cases h5:n.Op=5
   ·rw [bE h5]
    rcases wR I hn hr h5 with g|g|⟨m,y,items,hy,hm,rfl,hs,hR,ks,g⟩
    ·exact⟨_,g false⟩
    ·exact⟨_,g false⟩
    ·exact⟨_,g false⟩
   ·rw [bn h5]
    by_cases h6:n.Op=6
    ·rw [bE h6]
     rcases vF (n:=n) I with g|g
     ·exact⟨_,g false⟩
     ·exact⟨_,g false⟩
    ·rw [bn h6];exact⟨_,rfl⟩
 ·have ho:(cr n p q).root.Op=n.Op:=rfl
  rw [ho,bn (by omega),bn (by omega),bn (by omega)]
  exact⟨_,rfl⟩
def Oj{t:am}(h:nh t): ∃l d,lU t.Logic=some (l,d,0):=by
 obtain⟨_,⟨j,r2⟩,_⟩:=pE h.ok.1
 unfold lU
 rw [r2,h.ok.2,bE rfl,bo,bn (by decide),xn h,bo]
 unfold pf
 obtain⟨r,hr⟩:=Gn h (gi-1)
 rw [Af,hr,bo]
 split
 ·exact⟨_,_,rfl⟩
 ·exact⟨_,_,rfl⟩
def wN(p:aw):nr p=some true:=by
 unfold nr
 rw [Lx,bo,bn (by decide)]
 obtain⟨l,hl,hS⟩:=OK p
 rw [hl,bo]
 cases hr:bS l with
 |false=>
  rw [FU hS hr,bo,bE (by decide)]
  rfl
 |true=>
  obtain⟨t,hT,rfl⟩:=zf _ l (dr _) hS hr
  obtain⟨r,b,Y,J⟩:=FV hT
  cases b with
  |false=>
   obtain⟨x,d,I⟩:=Oj hT
   have h1' :ec t.Logic=some (t.Logic,0):=Y
   rw [h1',bo,bn (show¬(((0:Int) !=0)=true) by decide),h1',bo,I,bo,bE (show((0:Int)==0)=true by decide),tI,bo,bo,bE (show(true&&((0:Int)==0))=true by decide)]
   cases d<;>rfl
  |true=>
   obtain⟨N,ah⟩:=J rfl
   have h1' :ec t.Logic=some (r.Logic,0):=Y
   obtain⟨g1,g2⟩:=FW N
   rw [h1',bo,bn (show¬(((0:Int) !=0)=true) by decide),g1,bo,g2,bo,bE (show((0:Int)==0)=true by decide),tI,bo,bo,bE (show(true&&((0:Int)==0))=true by decide)]
   rfl
end Go.Proofs.YtbmmihfagmchaaaGreat

