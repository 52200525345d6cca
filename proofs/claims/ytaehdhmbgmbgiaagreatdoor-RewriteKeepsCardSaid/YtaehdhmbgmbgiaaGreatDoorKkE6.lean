import Derived.Test.YtaehdhmbgmbgiaaGreatDoorKkE5
set_option linter.all false
namespace Go.Proofs.YtaehdhmbgmbgiaaGreatDoor
open Go
def Bu(left:Int)(u:Tr):Bool:=(u.flat 0).all fun n=> !(n.Tag==2)||decide (n.X'<left)
def wc(left:Int)(u:Tr):Bool:=(u.flat 0).all fun n=> !(n.Tag==2)||decide (left<=n.X')
def sA(left:Int)(us:List Tr):List Tr:=us.filter (Bu left)
def sB(left:Int)(outer:Bool)(us:List Tr):List Tr:=(us.filter fun u=> !Bu left u&&(wc left u&& !outer)).map (Eb (0-left))
def sC(left:Int)(outer:Bool)(us:List Tr):List Tr:=us.filter fun u=> !Bu left u&& !(wc left u&& !outer)
def Tt{cs:List Int}{ns:List av}(h: ∀c,c∈cs↔ ∃n∈ns,n.Tag=2/\n.X'=c)(f:Int->Bool):(cs.all f)=ns.all fun n=> !(n.Tag==2)||f n.X':=by
 refine Db ?_;rw [mN,mN];constructor
 ·intro k n hn;by_cases M:n.Tag=2
  ·simp [M,k _ ((h n.X').2 ⟨n,hn,M,rfl⟩)]
  ·simp [M]
 ·intro k c hc;obtain⟨n,hn,M,rfl⟩:=(h c).1 hc;have:=k n hn;simpa [M] using this
def RH(left:Int)(hleft:0<=left/\left<=16)(outer:Bool): ∀(us a b c:List Tr),(∀u∈us,u.wf/\u.size<=1000)->a.length+b.length+c.length+us.length<=100000->
  kK left outer (us.map cS) [a.map cS,b.map cS,c.map cS]=some [(a++sA left us).map cS,(b++sB left outer us).map cS,(c++sC left outer us).map cS]
 |[],a,b,c,_,_=>by simp [sA,sB,sC,kK,ta]
 |u::us,a,b,c,h,hn=>by
  obtain⟨hw,hs⟩:=h u (md ..);have J:ll (cS u).j'=some u:=rY hw hs;have ih:=fun a b c=>RH left hleft outer us a b c (fun x V=>h x (ma _ V));obtain⟨cs,I,h3,h4,h5,h6⟩:=YJ (cS u) J;simp only [jo]at hn;have e0:ta [a.map cS,b.map cS,c.map cS] 0=a.map cS:=rfl;have e1:ta [a.map cS,b.map cS,c.map cS] 1=b.map cS:=rfl;have e2:ta [a.map cS,b.map cS,c.map cS] 2=c.map cS:=rfl;have el:(cs.all fun c=>decide (c<left))=Bu left u:=Tt h6 _;have eh:(cs.all fun c=>decide (left<=c))=wc left u:=Tt h6 _;rw [va];unfold kK;rw [I];simp only [bw];rw [acE h3 left h5,el];simp only [bw,e0,e1,e2]
  cases hlow:Bu left u with
  |true=>
   simp only [hM];rw [cF (by simp;omega)];simp only [bw];rw [show a.map cS++[cS u]=(a++[u]).map cS from by simp,ih (a++[u]) b c (by simp;omega)];simp [sA,sB,sC,hlow]
  |false=>
   simp only [jM,gT]
   match cs,h3,h4,h6,el,eh with
   |[],_,_,_,el,_=>rw [hlow]at el;simp at el
   |c0::cs,h3,h4,h6,el,eh=>
    rw [aaA h3 left]at eh;rw [show cO (c0::cs) 0=some c0 from rfl];simp only [bw];rw [eh]
    cases hh:wc left u&& !outer with
    |true=>
     simp only [hM];have hc0:left<=c0:=by
      rw [<-eh]at hh;have:=(iX _ _▸hh).1;exact Kr this
     rw [cB (by omega) (by omega)];have s1:=Uc (cS u) J (fun n hn M=>(h6 _).2 ⟨n,hn,M,rfl⟩) (0-left) (by omega) (fun d hd=>by
      have k1:=h4 d hd;have k2:left<=d:=by
       rcases iW.1 hd with rfl|hd
       ·exact hc0
       ·have:=(yF.1 h3).1 d hd;omega
      omega)
     rw [s1];simp only [bw];rw [cF (by simp;omega)];simp only [bw];have em:(⟨(cS u).j'.map (Jy (0-left))⟩:au)=cS (Eb (0-left) u):=by unfold cS;rw [Z4 _ _ hw]
     rw [em,show b.map cS++[cS (Eb (0-left) u)]=(b++[Eb (0-left) u]).map cS from by simp,ih a (b++[Eb (0-left) u]) c (by simp;omega)];unfold sA sB sC;rw [Ks (by rw [hlow];decide),Rm (p:=fun u=> !Bu left u&&(wc left u&& !outer)) (by show(!Bu left u&&(wc left u&& !outer))=true;rw [hlow,hh];rfl),
      Ks (p:=fun u=> !Bu left u&& !(wc left u&& !outer)) (by show¬((!Bu left u&& !(wc left u&& !outer))=true);rw [hlow,hh];decide)]
     rw [va,mj];rfl
    |false=>
     simp only [jM,gT];rw [cF (by simp;omega)];simp only [bw];rw [show c.map cS++[cS u]=(c++[u]).map cS from by simp,ih a b (c++[u]) (by simp;omega)];unfold sA sB sC;rw [Ks (by rw [hlow];decide),Ks (p:=fun u=> !Bu left u&&(wc left u&& !outer)) (by show¬((!Bu left u&&(wc left u&& !outer))=true);rw [hlow,hh];decide),
      Rm (p:=fun u=> !Bu left u&& !(wc left u&& !outer)) (by show(!Bu left u&& !(wc left u&& !outer))=true;rw [hlow,hh];rfl)]
     rw [mj];rfl
def aiM(left:Int)(outer:Bool)(us:List Tr):sA left (sC left outer us)=[]/\sB left outer (sC left outer us)=[]:=by
 unfold sA sB sC;refine⟨?_,?_⟩
 ·rw [Iu,Iy];intro u _;cases Bu left u<;>simp
 ·rw [Iu,List.map_eq_nil_iff,Iy];intro u _;cases Bu left u<;>cases wc left u<;>cases outer<;>simp
def Uk{left:Int}{outer:Bool}{us:List Tr}{v:Tr}(hv:v∈sB left outer us): ∃u∈us,wc left u=true/\v=Eb (0-left) u:=by
 unfold sB at hv;obtain⟨u,hu,rfl⟩:=rL.1 hv;obtain⟨I,M⟩:=A4.1 hu;simp only [iX]at M;exact⟨u,I,M.2.1,rfl⟩
def zx(f:Tr->Bool): ∀us:List Tr,wj (us.filter f)+(us.filter f).length<=wj us+us.length
 |[]=>by simp
 |u::us=>by
  have ih:=zx f us;rw [NR];split
  ·rw [s4,s4];simp only [jo];omega
  ·rw [s4];simp only [jo];omega
def acb(b:Int)(us:List Tr):wj (us.map (Eb b))=wj us:=by
 unfold wj;rw [vZ];congr 1;exact ET fun u _=>GC b u
structure wd(us:List Tr):Prop where
 wf: ∀u∈us,u.wf/\u.size<=1000/\dN u=[u]
 sum:wj us+us.length<=1001
def Z3{b:Int}{u:Tr}(h:dN u=[u]):dN (Eb b u)=[Eb b u]:=by
 cases u with
 |lf n=>rfl
 |un n a=>rfl
 |bi n x y=>
  have h22:n.Tag≠22:=fun k=>by
   rw [qc,bz k]at h;have V:=Xp x;have hy:=Xp y;have hl:=congrArg List.length h;rw [lj,FT]at hl;have l1:=List.length_pos_iff.2 V;have l2:=List.length_pos_iff.2 hy;omega
  show dN (.bi n (Eb b x) (Eb b y))=_;rw [qc,aR h22];rfl
def wd.a{us:List Tr}(h:wd us)(left:Int):wd (sA left us):=
 ⟨fun u hu=>h.wf u (A4.1 hu).1,wP (zx _ us) h.sum⟩
def wd.c{us:List Tr}(h:wd us)(left:Int)(outer:Bool):wd (sC left outer us):=
 ⟨fun u hu=>h.wf u (A4.1 hu).1,wP (zx _ us) h.sum⟩
def wd.b{us:List Tr}(h:wd us){left:Int}(hl:0<=left/\left<=16)(outer:Bool):wd (sB left outer us):=by
 refine⟨fun v hv=>?_,?_⟩
 ·obtain⟨u,hu,hh,rfl⟩:=Uk hv;obtain⟨I,M,h3⟩:=h.wf u hu;refine⟨agK (by omega) u I ((LX u I 0).2 fun n hn M=>?_),by rw [GC];exact M,Z3 h3⟩;have k1:=vm I 0 hn M;have k2:=mN.1 hh n hn;simp [M]at k2;omega
 ·unfold sB;rw [acb,Am];exact wP (zx _ us) h.sum
def ut{t:Tr}(hw:t.wf)(hs:t.size<=1000):wd (dN t):=by
 have lone: ∀t:Tr,∀u∈dN t,dN u=[u]:=by
  intro t
  induction t with
  |lf n=>intro u hu;simp only [dN,mf]at hu;subst hu;rfl
  |un n a _=>intro u hu;simp only [dN,mf]at hu;subst hu;rfl
  |bi n a b iha ihb=>
   intro u hu;rw [qc]at hu;split at hu
   ·rcases qR.1 hu with k|k
    ·exact iha u k
    ·exact ihb u k
   ·rename_i h22;simp only [mf]at hu;subst hu;rw [qc,aR h22]
 refine⟨fun u hu=>⟨(Xo hw u hu).1,by have:=(Xo hw u hu).2;omega,lone t u hu⟩,?_⟩;have:=O7 t;omega
def AU{u:Tr}{us:List Tr}(h:wd (u::us)):vO ((u::us).map cS)=some (cS (il u us),0)/\(il u us).wf/\(il u us).size<=1000/\dN (il u us)=u::us:=by
 have hsum:=h.sum;simp only [jo]at hsum;refine⟨Ja u us (fun v hv=>⟨(h.wf v hv).1,(h.wf v hv).2.1⟩) (by omega),Xs us u (h.wf u (md ..)).1 (fun v hv=>(h.wf v (ma _ hv)).1),?_,?_⟩
 ·rw [uX];rw [s4]at hsum;omega
 ·rw [O8 us u (fun v hv=>(h.wf v (ma _ hv)).2.2),(h.wf u (md ..)).2.2];rfl
