import Derived.Test.YtaehdhmbgmbgiaaGreatDoorKkE4
set_option linter.all false
namespace Go.Proofs.YtaehdhmbgmbgiaaGreatDoor
open Go IntKind
def Eb(b:Int):Tr->Tr
 | .lf n=> .lf (Jy b n)
 | .un n a=> .un n (Eb b a)
 | .bi n x y=> .bi n (Eb b x) (Eb b y)
def GC(b:Int)(t:Tr):(Eb b t).size=t.size:=by
 induction t with
 |lf n=>rfl
 |un n a ih=>simp only [Eb,Tr.size,ih]
 |bi n x y ihx ihy=>simp only [Eb,Tr.size,ihx,ihy]
def LM(b:Int)(n:av)(l r:Int):Jy b (eY n l r)=eY (Jy b n) l r:=by
 unfold Jy;by_cases h:n.Tag=2
 ·rw [bz (show(eY n l r).Tag=2 from h),bz h];rfl
 ·rw [aR (show¬(eY n l r).Tag=2 from h),aR h]
def UK{b:Int}{n:av}(h:n.Tag≠2):Jy b n=n:=by unfold Jy;rw [aR h]
def VZ{k:Nat}{n:av}(hk:k≠0)(h:LH k n):n.Tag≠2:=fun M=>by
 have:=h.1;rw [M]at this;have e:pk 2=some 0:=by decide
 rw [e]at this;injection this with this;exact hk this.symm
def Z4(b:Int)(t:Tr):t.wf-> ∀s,(Eb b t).flat s=(t.flat s).map (Jy b):=by
 induction t with
 |lf n=>intro _ s;simp only [Eb,Tr.flat,va,xF,LM]
 |un n a ih=>
  intro hw s;simp only [Eb,Tr.flat,Cn,va,xF,LM,ih hw.2,GC,UK (VZ (by decide) hw.1)]
 |bi n x y ihx ihy=>
  intro hw s;simp only [Eb,Tr.flat,Cn,va,xF,LM,ihx hw.2.1,ihy hw.2.2,GC,UK (VZ (by decide) hw.1)]
def agH{b:Int}{k:Nat}{n:av}(h:LH k n)(hc:n.Tag=2->0<=i64.wrap (n.X'+b)/\i64.wrap (n.X'+b)<16):LH k (Jy b n):=by
 unfold Jy;by_cases M:n.Tag=2
 ·rw [bz M];obtain⟨h3,h4,h5,h6⟩:=h;refine⟨h3,?_,h5,h6⟩;have h7:=hc M;unfold ND mS at h4 ⊢;rw [sn]at h4 ⊢;simp only [M]at h4 ⊢
  simp_all
 ·rw [aR M];exact h
def inC(lo hi:Int):Tr->Prop
 | .lf n=>n.Tag=2->lo<=n.X'/\n.X'<hi
 | .un _ a=>inC lo hi a
 | .bi _ a b=>inC lo hi a/\inC lo hi b
def LX{lo hi:Int}(t:Tr):t.wf-> ∀s,inC lo hi t↔ ∀n∈t.flat s,n.Tag=2->lo<=n.X'/\n.X'<hi:=by
 induction t with
 |lf n=>
  intro _ s;simp only [Tr.flat,mf];exact⟨fun h m hm M=>by subst hm;exact h M,fun h M=>h (eY n (-1) (-1)) rfl M⟩
 |un n a ih=>
  intro hw s;simp only [Tr.flat,qR,mf];rw [inC,ih hw.2 s];exact⟨fun h m hm M=>by
   rcases hm with hm|hm
   ·exact h m hm M
   ·subst hm;exact absurd M (VZ (k:=1) (n:=n) (by decide) hw.1),fun h m hm=>h m (.inl hm)⟩
 |bi n x y ihx ihy=>
  intro hw s;simp only [Tr.flat,qR,mf];rw [inC,ihx hw.2.1 s,ihy hw.2.2 (s+x.size)];exact⟨fun h m hm M=>by
   rcases hm with(hm|hm)|hm
   ·exact h.1 m hm M
   ·exact h.2 m hm M
   ·subst hm;exact absurd M (VZ (k:=2) (n:=n) (by decide) hw.1),fun h=>⟨fun m hm=>h m (.inl (.inl hm)),fun m hm=>h m (.inl (.inr hm))⟩⟩
def agK{b:Int}(H: -16<=b/\b<=16)(t:Tr):t.wf->inC (-b) (16-b) t->(Eb b t).wf:=by
 induction t with
 |lf n=>
  intro hw hc;have h0:n.Tag=2->0<=n.X'/\n.X'<16:=fun M=>vm (t:= .lf n) hw 0 (n:=eY n (-1) (-1)) (by simp [Tr.flat]) M;exact agH hw fun M=>by
   have I:=hc M;have h0:=h0 M;rw [cB (by omega) (by omega)];omega
 |un n a ih=>intro hw hc;exact⟨hw.1,ih hw.2 hc⟩
 |bi n x y ihx ihy=>intro hw hc;exact⟨hw.1,ihx hw.2.1 hc.1,ihy hw.2.2 hc.2⟩
