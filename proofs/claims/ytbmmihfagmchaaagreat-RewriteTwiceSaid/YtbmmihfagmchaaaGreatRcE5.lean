/- cW of this claim: E5. -/
import Derived.Test.YtbmmihfagmchaaaGreatRcE4
set_option linter.all false
namespace Go.Proofs.YtbmmihfagmchaaaGreat
open Go

def yT(t e:am)(has:List (Int×Bool)): ∀(ks:List Int) (i:Nat) (x:am),gS t e has ks i x=some (t,0)\/gS t e has ks i x=some (e,1)
 |[],_,_=> .inr rfl
 |k::ks,i,x=>by
  unfold gS
  split
  ·exact .inl rfl
  ·exact yT t e has ks (i+1) x
def uK(t e y:am): ∀(l:List ai) (has:List (Int×Bool)),(∀v∈l,1<=v.Nodes.length)->fP t e y l has=some (t,0)\/fP t e y l has=some (e,1)
 |[],has,_=>yT t e has _ 0 _
 |v::l,has,h=>by
  unfold fP
  have Y:=h v (mp ..)
  rw [show cU v.Nodes (0:Int)=some (v.Nodes[0]'Y)from by rw [show(0:Int)=((0:Nat):Int)from rfl,cI,rg]]
  simp only [bo]
  split
  ·exact uK t e y l _ fun w hw=>h w (nu _ hw)
  ·exact uK t e y l _ fun w hw=>h w (nu _ hw)
def Ev{n:aa}{x:am}(I:nh x)(hn:cj n)(hr:bS (d1 n x.Logic)=true)(hop:n.Op=6):KS (aS n x) x:=by
 obtain⟨k,_⟩:=oY I hn hr
 exact⟨(EJ hop k).symm,(wu (by omega)).symm,fun h=>by rw [sk]at h;exact(yZ.1 h).1⟩
def sM{n:aa}{x:am}(I:nh x)(hn:cj n)(hr:bS (d1 n x.Logic)=true)(hop:n.Op=3):KS (aS n x) x:=by
 obtain⟨k,_⟩:=oY I hn hr
 exact⟨(sN hop k).1.symm,(wu (by omega)).symm,fun h=>by rw [sk]at h;exact(yZ.1 h).1⟩
def vF{n:aa}{x:am}(I:nh x):
  (∀d,eX (aS n x) d=some (aS n x,0))\/(∀d,eX (aS n x) d=some (x,1)):=by
 have hrw: ∀d,eX (aS n x) d=if(x.root.Op==(6:Int))then some (x,(1:Int))else(if(x.root.Op !=(5:Int))then some (aS n x,(0:Int))else
  ((cU x.parts (0:Int)).bind fun e1=>if(e1.root.Op==(3:Int))then((cU e1.parts (0:Int)).bind fun e5=>dG (aS n x) x e5)else dG (aS n x) x e1)):=fun d=>rfl
 by_cases h6:x.root.Op=6
 ·exact .inr fun d=>by rw [hrw,bE (by simp [h6])]
 ·by_cases h5:x.root.Op=5
  ·rcases uo I with⟨k,_⟩|⟨m,y,hy,hm,hry,rfl,_⟩|⟨m,p,q,_,_,_,_,rfl,k⟩
   ·omega
   ·obtain⟨ky,_⟩:=oY hy hm hry
    obtain⟨e1,e2⟩:=tf (show m.Op=5 from h5) hm.items ky
    have hne: ∀v∈m.Items,1<=v.Nodes.length:=fun v hv=>(s7 (uE (e2 v hv))).1
    have hk1: ∀z,dG (aS n (aS m y)) (aS m y) z=some (aS n (aS m y),0)\/dG (aS n (aS m y)) (aS m y) z=some (aS m y,1):=fun z=>by
     unfold dG
     split
     ·exact .inl rfl
     ·exact uK _ _ z _ _ hne
    have hrw2: ∀d,eX (aS n (aS m y)) d=if(y.root.Op==(3:Int))then((cU y.parts (0:Int)).bind fun e5=>dG (aS n (aS m y)) (aS m y) e5)else dG (aS n (aS m y)) (aS m y) y:=fun d=>by
     rw [hrw,bn (by simp [h6]),bn (by simp [h5])]
     rfl
    by_cases Z:y.root.Op=3
    ·rcases uo hy with⟨k,_⟩|⟨f,z,hz,X,hrz,rfl,_⟩|⟨f,p,q,_,_,_,_,rfl,k⟩
     ·omega
     ·rcases hk1 z with k|k
      ·exact .inl fun d=>by rw [hrw2,bE (by simp [Z])];exact k
      ·exact .inr fun d=>by rw [hrw2,bE (by simp [Z])];exact k
     ·have:f.Op=3:=Z
      omega
    ·rcases hk1 y with k|k
     ·exact .inl fun d=>by rw [hrw2,bn (by simp [Z])];exact k
     ·exact .inr fun d=>by rw [hrw2,bn (by simp [Z])];exact k
   ·have:m.Op=5:=h5
    omega
  ·exact .inl fun d=>by rw [hrw,bn (by simp [h6]),bE (by simp [h5])]
def y8(b:Int):Tr->Tr
 | .lf n=> .lf (uA b n)
 | .un n a=> .un n (y8 b a)
 | .bi n x y=> .bi n (y8 b x) (y8 b y)
def wZ(b:Int)(t:Tr):(y8 b t).size=t.size:=by
 induction t with
 |lf n=>rfl
 |un n a ih=>simp only [y8,Tr.size,ih]
 |bi n x y ihx ihy=>simp only [y8,Tr.size,ihx,ihy]
def As(b:Int)(n:aj)(l r:Int):uA b (dR n l r)=dR (uA b n) l r:=by
 unfold uA
 by_cases h:n.Tag=2
 ·rw [bE (show(dR n l r).Tag=2 from h),bE h];rfl
 ·rw [bn (show¬(dR n l r).Tag=2 from h),bn h]
def JU{b:Int}{n:aj}(h:n.Tag≠2):uA b n=n:=by unfold uA;rw [bn h]
def Hh{k:Nat}{n:aj}(hk:k≠0)(h:Ou k n):n.Tag≠2:=fun J=>by
 have:=h.1
 rw [J]at this
 have e:pk 2=some 0:=by decide
 rw [e]at this
 injection this with this
 exact hk this.symm
def JW(b:Int)(t:Tr):t.wf-> ∀s,(y8 b t).flat s=(t.flat s).map (uA b):=by
 induction t with
 |lf n=>intro _ s;simp only [y8,Tr.flat,py,vH,As]
 |un n a ih=>
  intro hw s
  simp only [y8,Tr.flat,yX,py,vH,As,ih hw.2,wZ,JU (Hh (by decide) hw.1)]
 |bi n x y ihx ihy=>
  intro hw s
  simp only [y8,Tr.flat,yX,py,vH,As,ihx hw.2.1,ihy hw.2.2,wZ,JU (Hh (by decide) hw.1)]
def Ot{b:Int}{k:Nat}{n:aj}(h:Ou k n)(hc:n.Tag=2->0<=IntKind.i64.wrap (n.Col+b)/\IntKind.i64.wrap (n.Col+b)<16):Ou k (uA b n):=by
 unfold uA
 by_cases J:n.Tag=2
 ·rw [bE J]
  obtain⟨Z,h4,h5,h6⟩:=h
  refine⟨Z,?_,h5,h6⟩
  have h7:=hc J
  unfold Dm jF at h4 ⊢
  rw [nZ]at h4 ⊢
  simp only [J]at h4 ⊢
  simp_all
 ·rw [bn J];exact h
def OD(lo hi:Int):Tr->Prop
 | .lf n=>n.Tag=2->lo<=n.Col/\n.Col<hi
 | .un _ a=>OD lo hi a
 | .bi _ a b=>OD lo hi a/\OD lo hi b
def J6{lo hi:Int}(t:Tr):t.wf-> ∀s,OD lo hi t↔ ∀n∈t.flat s,n.Tag=2->lo<=n.Col/\n.Col<hi:=by
 induction t with
 |lf n=>
  intro _ s
  simp only [Tr.flat,jY]
  exact⟨fun h m hm J=>by subst hm;exact h J,fun h J=>h (dR n (-1) (-1)) rfl J⟩
 |un n a ih=>
  intro hw s
  simp only [Tr.flat,p9,jY]
  rw [OD,ih hw.2 s]
  exact⟨fun h m hm J=>by
   rcases hm with hm|hm
   ·exact h m hm J
   ·subst hm;exact absurd J (Hh (k:=1) (n:=n) (by decide) hw.1),fun h m hm=>h m (.inl hm)⟩
 |bi n x y ihx ihy=>
  intro hw s
  simp only [Tr.flat,p9,jY]
  rw [OD,ihx hw.2.1 s,ihy hw.2.2 (s+x.size)]
  exact⟨fun h m hm J=>by
   rcases hm with(hm|hm)|hm
   ·exact h.1 m hm J
   ·exact h.2 m hm J
   ·subst hm;exact absurd J (Hh (k:=2) (n:=n) (by decide) hw.1),fun h=>⟨fun m hm=>h m (.inl (.inl hm)),fun m hm=>h m (.inl (.inr hm))⟩⟩
def Ox{b:Int}(V: -16<=b/\b<=16)(t:Tr):t.wf->OD (-b) (16-b) t->(y8 b t).wf:=by
 induction t with
 |lf n=>
  intro hw hc
  have h0:n.Tag=2->0<=n.Col/\n.Col<16:=fun J=>qF (t:= .lf n) hw 0 (n:=dR n (-1) (-1)) (by simp [Tr.flat]) J
  exact Ot hw fun J=>by
   have Y:=hc J
   have h0:=h0 J
   rw [bH (by omega) (by omega)]
   omega
 |un n a ih=>intro hw hc;exact⟨hw.1,ih hw.2 hc⟩
 |bi n x y ihx ihy=>intro hw hc;exact⟨hw.1,ihx hw.2.1 hc.1,ihy hw.2.2 hc.2⟩
def Oy(b:Int)(t:Tr):qA (y8 b t)=qA t:=by
 induction t with
 |lf n=>show GN (uA b n)=GN n;unfold uA;split<;>rfl
 |un n a ih=>simp only [y8,qA,ih]
 |bi n x y ihx ihy=>simp only [y8,qA,ihx,ihy]
end Go.Proofs.YtbmmihfagmchaaaGreat

