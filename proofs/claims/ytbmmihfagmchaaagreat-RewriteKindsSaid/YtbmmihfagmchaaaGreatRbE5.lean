/- cP of this claim: E5. -/
import Derived.Test.YtbmmihfagmchaaaGreatRbE4
set_option linter.all false
namespace Go.Proofs.YtbmmihfagmchaaaGreat
open Go

def yT(t e:am)(has:List (Int×Bool)): ∀(ks:List Int) (i:Nat) (x:am),gF t e has ks i x=some (t,0)\/gF t e has ks i x=some (e,1)
 |[],_,_=> .inr rfl
 |k::ks,i,x=>by
  unfold gF
  split
  ·exact .inl rfl
  ·exact yT t e has ks (i+1) x
def uy(t e y:am): ∀(l:List ai) (has:List (Int×Bool)),(∀v∈l,1<=v.Nodes.length)->fD t e y l has=some (t,0)\/fD t e y l has=some (e,1)
 |[],has,_=>yT t e has _ 0 _
 |v::l,has,h=>by
  unfold fD
  have Y:=h v (lK ..)
  rw [show cQ v.Nodes (0:Int)=some (v.Nodes[0]'Y)from by rw [show(0:Int)=((0:Nat):Int)from rfl,cw,qY]]
  simp only [bt]
  split
  ·exact uy t e y l _ fun w hw=>h w (mZ _ hw)
  ·exact uy t e y l _ fun w hw=>h w (mZ _ hw)
def Ep{n:aa}{x:am}(I:ou x)(hn:ck n)(hr:bQ (d1 n x.Logic)=true)(hop:n.Op=6):KS (be n x) x:=by
 obtain⟨k,_⟩:=qR I hn hr
 exact⟨(EE hop k).symm,(wj (by omega)).symm,fun h=>by rw [rY]at h;exact(yZ.1 h).1⟩
def sx{n:aa}{x:am}(I:ou x)(hn:ck n)(hr:bQ (d1 n x.Logic)=true)(hop:n.Op=3):KS (be n x) x:=by
 obtain⟨k,_⟩:=qR I hn hr
 exact⟨(xU hop k).1.symm,(wj (by omega)).symm,fun h=>by rw [rY]at h;exact(yZ.1 h).1⟩
def BB{n:aa}{x:am}(I:ou x):
  (∀d,eI (be n x) d=some (be n x,0))\/(∀d,eI (be n x) d=some (x,1)):=by
 have hrw: ∀d,eI (be n x) d=if(x.root.Op==(6:Int))then some (x,(1:Int))else(if(x.root.Op !=(5:Int))then some (be n x,(0:Int))else
  ((cQ x.parts (0:Int)).bind fun e1=>if(e1.root.Op==(3:Int))then((cQ e1.parts (0:Int)).bind fun e5=>dy (be n x) x e5)else dy (be n x) x e1)):=fun d=>rfl
 by_cases h6:x.root.Op=6
 ·exact .inr fun d=>by rw [hrw,bD (by simp [h6])]
 ·by_cases h5:x.root.Op=5
  ·rcases zP I with⟨k,_⟩|⟨m,y,hy,hm,hry,rfl,_⟩|⟨m,p,q,_,_,_,_,rfl,k⟩
   ·omega
   ·obtain⟨ky,_⟩:=qR hy hm hry
    obtain⟨e1,e2⟩:=s6 (show m.Op=5 from h5) hm.items ky
    have hne: ∀v∈m.Items,1<=v.Nodes.length:=fun v hv=>(qD (lV (e2 v hv))).1
    have hk1: ∀z,dy (be n (be m y)) (be m y) z=some (be n (be m y),0)\/dy (be n (be m y)) (be m y) z=some (be m y,1):=fun z=>by
     unfold dy
     split
     ·exact .inl rfl
     ·exact uy _ _ z _ _ hne
    have hrw2: ∀d,eI (be n (be m y)) d=if(y.root.Op==(3:Int))then((cQ y.parts (0:Int)).bind fun e5=>dy (be n (be m y)) (be m y) e5)else dy (be n (be m y)) (be m y) y:=fun d=>by
     rw [hrw,bo (by simp [h6]),bo (by simp [h5])]
     rfl
    by_cases Z:y.root.Op=3
    ·rcases zP hy with⟨k,_⟩|⟨f,z,hz,X,hrz,rfl,_⟩|⟨f,p,q,_,_,_,_,rfl,k⟩
     ·omega
     ·rcases hk1 z with k|k
      ·exact .inl fun d=>by rw [hrw2,bD (by simp [Z])];exact k
      ·exact .inr fun d=>by rw [hrw2,bD (by simp [Z])];exact k
     ·have:f.Op=3:=Z
      omega
    ·rcases hk1 y with k|k
     ·exact .inl fun d=>by rw [hrw2,bo (by simp [Z])];exact k
     ·exact .inr fun d=>by rw [hrw2,bo (by simp [Z])];exact k
   ·have:m.Op=5:=h5
    omega
  ·exact .inl fun d=>by rw [hrw,bo (by simp [h6]),bD (by simp [h5])]
def y6(b:Int):Tr->Tr
 | .lf n=> .lf (uo b n)
 | .un n a=> .un n (y6 b a)
 | .bi n x y=> .bi n (y6 b x) (y6 b y)
def wR(b:Int)(t:Tr):(y6 b t).size=t.size:=by
 induction t with
 |lf n=>rfl
 |un n a ih=>simp only [y6,Tr.size,ih]
 |bi n x y ihx ihy=>simp only [y6,Tr.size,ihx,ihy]
def Am(b:Int)(n:aj)(l r:Int):uo b (dK n l r)=dK (uo b n) l r:=by
 unfold uo
 by_cases h:n.Tag=2
 ·rw [bD (show(dK n l r).Tag=2 from h),bD h];rfl
 ·rw [bo (show¬(dK n l r).Tag=2 from h),bo h]
def JT{b:Int}{n:aj}(h:n.Tag≠2):uo b n=n:=by unfold uo;rw [bo h]
def Hb{k:Nat}{n:aj}(hk:k≠0)(h:Ox k n):n.Tag≠2:=fun J=>by
 have:=h.1
 rw [J]at this
 have e:pk 2=some 0:=by decide
 rw [e]at this
 injection this with this
 exact hk this.symm
def JV(b:Int)(t:Tr):t.wf-> ∀s,(y6 b t).flat s=(t.flat s).map (uo b):=by
 induction t with
 |lf n=>intro _ s;simp only [y6,Tr.flat,pn,vq,Am]
 |un n a ih=>
  intro hw s
  simp only [y6,Tr.flat,yW,pn,vq,Am,ih hw.2,wR,JT (Hb (by decide) hw.1)]
 |bi n x y ihx ihy=>
  intro hw s
  simp only [y6,Tr.flat,yW,pn,vq,Am,ihx hw.2.1,ihy hw.2.2,wR,JT (Hb (by decide) hw.1)]
def Ow{b:Int}{k:Nat}{n:aj}(h:Ox k n)(hc:n.Tag=2->0<=IntKind.i64.wrap (n.Col+b)/\IntKind.i64.wrap (n.Col+b)<16):Ox k (uo b n):=by
 unfold uo
 by_cases J:n.Tag=2
 ·rw [bD J]
  obtain⟨Z,h4,h5,h6⟩:=h
  refine⟨Z,?_,h5,h6⟩
  have h7:=hc J
  unfold Dd jv at h4 ⊢
  rw [nV]at h4 ⊢
  simp only [J]at h4 ⊢
  simp_all
 ·rw [bo J];exact h
def OG(lo hi:Int):Tr->Prop
 | .lf n=>n.Tag=2->lo<=n.Col/\n.Col<hi
 | .un _ a=>OG lo hi a
 | .bi _ a b=>OG lo hi a/\OG lo hi b
def J9{lo hi:Int}(t:Tr):t.wf-> ∀s,OG lo hi t↔ ∀n∈t.flat s,n.Tag=2->lo<=n.Col/\n.Col<hi:=by
 induction t with
 |lf n=>
  intro _ s
  simp only [Tr.flat,jL]
  exact⟨fun h m hm J=>by subst hm;exact h J,fun h J=>h (dK n (-1) (-1)) rfl J⟩
 |un n a ih=>
  intro hw s
  simp only [Tr.flat,pY,jL]
  rw [OG,ih hw.2 s]
  exact⟨fun h m hm J=>by
   rcases hm with hm|hm
   ·exact h m hm J
   ·subst hm;exact absurd J (Hb (k:=1) (n:=n) (by decide) hw.1),fun h m hm=>h m (.inl hm)⟩
 |bi n x y ihx ihy=>
  intro hw s
  simp only [Tr.flat,pY,jL]
  rw [OG,ihx hw.2.1 s,ihy hw.2.2 (s+x.size)]
  exact⟨fun h m hm J=>by
   rcases hm with(hm|hm)|hm
   ·exact h.1 m hm J
   ·exact h.2 m hm J
   ·subst hm;exact absurd J (Hb (k:=2) (n:=n) (by decide) hw.1),fun h=>⟨fun m hm=>h m (.inl (.inl hm)),fun m hm=>h m (.inl (.inr hm))⟩⟩
def OA{b:Int}(V: -16<=b/\b<=16)(t:Tr):t.wf->OG (-b) (16-b) t->(y6 b t).wf:=by
 induction t with
 |lf n=>
  intro hw hc
  have h0:n.Tag=2->0<=n.Col/\n.Col<16:=fun J=>qv (t:= .lf n) hw 0 (n:=dK n (-1) (-1)) (by simp [Tr.flat]) J
  exact Ow hw fun J=>by
   have Y:=hc J
   have h0:=h0 J
   rw [bB (by omega) (by omega)]
   omega
 |un n a ih=>intro hw hc;exact⟨hw.1,ih hw.2 hc⟩
 |bi n x y ihx ihy=>intro hw hc;exact⟨hw.1,ihx hw.2.1 hc.1,ihy hw.2.2 hc.2⟩
def OB(b:Int)(t:Tr):qZ (y6 b t)=qZ t:=by
 induction t with
 |lf n=>show Fp (uo b n)=Fp n;unfold uo;split<;>rfl
 |un n a ih=>simp only [y6,qZ,ih]
 |bi n x y ihx ihy=>simp only [y6,qZ,ihx,ihy]
end Go.Proofs.YtbmmihfagmchaaaGreat

