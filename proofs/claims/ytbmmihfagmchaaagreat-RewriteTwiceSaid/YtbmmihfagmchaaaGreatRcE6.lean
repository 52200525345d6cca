/- cW of this claim: E6. -/
import Derived.Test.YtbmmihfagmchaaaGreatRcE5
set_option linter.all false
namespace Go.Proofs.YtbmmihfagmchaaaGreat
open Go

def wj(left:Int)(u:Tr):Bool:=(u.flat 0).all fun n=> !(n.Tag==2)||decide (n.Col<left)
def rC(left:Int)(u:Tr):Bool:=(u.flat 0).all fun n=> !(n.Tag==2)||decide (left<=n.Col)
def sA(left:Int)(us:List Tr):List Tr:=us.filter (wj left)
def sB(left:Int)(outer:Bool)(us:List Tr):List Tr:=(us.filter fun u=> !wj left u&&(rC left u&& !outer)).map (y8 (0-left))
def sC(left:Int)(outer:Bool)(us:List Tr):List Tr:=us.filter fun u=> !wj left u&& !(rC left u&& !outer)
def IP(e:ai){t:Tr}(D:iN e.Nodes=some t): ∃cs,kq e=some cs/\lX e=some cs/\cs.Pairwise (· < ·)/\(∀c∈cs,0<=c/\c<16)/\cs.length<=16/\ ∀c,c∈cs↔ ∃n∈e.Nodes,n.Tag=2/\n.Col=c:=by
 obtain⟨cs,Y,J,Z,h4,h5,h6⟩:=KN e D
 refine⟨cs,Y,J,Z,h4,h5,fun c=>⟨fun hc=>?_,fun⟨n,hn,D,hc⟩=>hc▸h6 n hn D⟩⟩
 have h7:=J
 unfold lX at h7
 rw [wP e 16 0 [] (by simp),je]at h7
 injection h7 with h7
 rw [<-h7]at hc
 obtain⟨j,_,_,e1,hj⟩:=(w7 _ _ _ _).1 hc
 unfold C4 at hj
 obtain⟨n,hn,hj⟩:=vJ.1 hj
 simp at hj
 exact⟨n,hn,hj.1,by rw [e1];exact hj.2⟩
def Fg{cs:List Int}{ns:List aj}(h: ∀c,c∈cs↔ ∃n∈ns,n.Tag=2/\n.Col=c)(f:Int->Bool):(cs.all f)=ns.all fun n=> !(n.Tag==2)||f n.Col:=by
 refine KW ?_
 rw [jV,jV]
 constructor
 ·intro k n hn
  by_cases J:n.Tag=2
  ·simp [J,k _ ((h n.Col).2 ⟨n,hn,J,rfl⟩)]
  ·simp [J]
 ·intro k c hc
  obtain⟨n,hn,J,rfl⟩:=(h c).1 hc
  have:=k n hn
  simpa [J] using this
def DX(left:Int)(hleft:0<=left/\left<=16)(outer:Bool): ∀(us a b c:List Tr),(∀u∈us,u.wf/\u.size<=1000)->a.length+b.length+c.length+us.length<=100000->
  gw left outer (us.map cV) [a.map cV,b.map cV,c.map cV]=some [(a++sA left us).map cV,(b++sB left outer us).map cV,(c++sC left outer us).map cV]
 |[],a,b,c,_,_=>by simp [sA,sB,sC,gw,mz]
 |u::us,a,b,c,h,hn=>by
  obtain⟨hw,hs⟩:=h u (mp ..)
  have D:iN (cV u).Nodes=some u:=ny hw hs
  have ih:=fun a b c=>DX left hleft outer us a b c (fun x I=>h x (nu _ I))
  obtain⟨cs,Y,J,Z,h4,h5,h6⟩:=IP (cV u) D
  simp only [jv]at hn
  have e0:mz [a.map cV,b.map cV,c.map cV] 0=a.map cV:=rfl
  have e1:mz [a.map cV,b.map cV,c.map cV] 1=b.map cV:=rfl
  have e2:mz [a.map cV,b.map cV,c.map cV] 2=c.map cV:=rfl
  have el:(cs.all fun c=>decide (c<left))=wj left u:=Fg h6 _
  have eh:(cs.all fun c=>decide (left<=c))=rC left u:=Fg h6 _
  rw [py]
  unfold gw
  rw [Y]
  simp only [bo]
  rw [LW Z left h5,el]
  simp only [bo,e0,e1,e2]
  cases hlow:wj left u with
  |true=>
   simp only [gu]
   rw [cL (by simp;omega)]
   simp only [bo]
   rw [show a.map cV++[cV u]=(a++[u]).map cV from by simp,ih (a++[u]) b c (by simp;omega)]
   simp [sA,sB,sC,hlow]
  |false=>
   simp only [jx,gE]
   match cs,J,Z,h4,h6,el,eh with
   |[],_,_,_,_,el,_=>rw [hlow]at el;simp at el
   |c0::cs,J,Z,h4,h6,el,eh=>
    rw [Kf Z left]at eh
    rw [show cU (c0::cs) 0=some c0 from rfl]
    simp only [bo]
    rw [eh]
    cases hh:rC left u&& !outer with
    |true=>
     simp only [gu]
     have hc0:left<=c0:=by
      rw [<-eh]at hh
      have:=(jX _ _▸hh).1
      exact of_decide_eq_true this
     rw [bH (by omega) (by omega)]
     obtain⟨s1,_⟩:=FN (cV u) D J (fun n hn J=>(h6 _).2 ⟨n,hn,J,rfl⟩) (0-left) (by omega) (fun d hd=>by
      have k1:=h4 d hd
      have k2:left<=d:=by
       rcases gB.1 hd with rfl|hd
       ·exact hc0
       ·have:=(Bm.1 Z).1 d hd;omega
      omega)
     rw [s1]
     simp only [bo]
     rw [cL (by simp;omega)]
     simp only [bo]
     have em:(⟨(cV u).Nodes.map (uA (0-left))⟩:ai)=cV (y8 (0-left) u):=by unfold cV;rw [JW _ _ hw]
     rw [em,show b.map cV++[cV (y8 (0-left) u)]=(b++[y8 (0-left) u]).map cV from by simp,ih a (b++[y8 (0-left) u]) c (by simp;omega)]
     unfold sA sB sC
     rw [CC (by rw [hlow];decide),DG (p:=fun u=> !wj left u&&(rC left u&& !outer)) (by show(!wj left u&&(rC left u&& !outer))=true;rw [hlow,hh];rfl),
      CC (p:=fun u=> !wj left u&& !(rC left u&& !outer)) (by show¬((!wj left u&& !(rC left u&& !outer))=true);rw [hlow,hh];decide)]
     rw [py,jC];rfl
    |false=>
     simp only [jx,gE]
     rw [cL (by simp;omega)]
     simp only [bo]
     rw [show c.map cV++[cV u]=(c++[u]).map cV from by simp,ih a b (c++[u]) (by simp;omega)]
     unfold sA sB sC
     rw [CC (by rw [hlow];decide),CC (p:=fun u=> !wj left u&&(rC left u&& !outer)) (by show¬((!wj left u&&(rC left u&& !outer))=true);rw [hlow,hh];decide),
      DG (p:=fun u=> !wj left u&& !(rC left u&& !outer)) (by show(!wj left u&& !(rC left u&& !outer))=true;rw [hlow,hh];rfl)]
     rw [jC];rfl
def Qh(left:Int)(outer:Bool)(us:List Tr):sA left (sC left outer us)=[]/\sB left outer (sC left outer us)=[]:=by
 unfold sA sB sC
 refine⟨?_,?_⟩
 ·rw [List.filter_filter,List.filter_eq_nil_iff]
  intro u _
  cases wj left u<;>simp
 ·rw [List.filter_filter,List.map_eq_nil_iff,List.filter_eq_nil_iff]
  intro u _
  cases wj left u<;>cases rC left u<;>cases outer<;>simp
def Jx{left:Int}{outer:Bool}{us:List Tr}{v:Tr}(hv:v∈sB left outer us): ∃u∈us,rC left u=true/\v=y8 (0-left) u:=by
 unfold sB at hv
 obtain⟨u,hu,rfl⟩:=rQ.1 hv
 obtain⟨Y,J⟩:=vv.1 hu
 simp only [jX]at J
 exact⟨u,Y,J.2.1,rfl⟩
def rm(f:Tr->Bool): ∀us:List Tr,pD (us.filter f)+(us.filter f).length<=pD us+us.length
 |[]=>by simp
 |u::us=>by
  have ih:=rm f us
  rw [List.filter_cons]
  split
  ·rw [mu,mu];simp only [jv];omega
  ·rw [mu];simp only [jv];omega
def LD(b:Int)(us:List Tr):pD (us.map (y8 b))=pD us:=by
 unfold pD
 rw [yq]
 congr 1
 exact Bn fun u _=>wZ b u
structure oJ(us:List Tr):Prop where
 wf: ∀u∈us,u.wf/\u.size<=1000/\eJ u=[u]
 sum:pD us+us.length<=1001
def JV{b:Int}{u:Tr}(h:eJ u=[u]):eJ (y8 b u)=[y8 b u]:=by
 cases u with
 |lf n=>rfl
 |un n a=>rfl
 |bi n x y=>
  have h22:n.Tag≠22:=fun k=>by
   rw [mg,bE k]at h
   have I:=HE x
   have hy:=HE y
   have hl:=congrArg List.length h
   rw [jO,List.length_singleton]at hl
   have l1:=List.length_pos_iff.2 I
   have l2:=List.length_pos_iff.2 hy
   omega
  show eJ (.bi n (y8 b x) (y8 b y))=_
  rw [mg,bn h22];rfl
def oJ.a{us:List Tr}(h:oJ us)(left:Int):oJ (sA left us):=
 ⟨fun u hu=>h.wf u (vv.1 hu).1,xy (rm _ us) h.sum⟩
def oJ.c{us:List Tr}(h:oJ us)(left:Int)(outer:Bool):oJ (sC left outer us):=
 ⟨fun u hu=>h.wf u (vv.1 hu).1,xy (rm _ us) h.sum⟩
def oJ.b{us:List Tr}(h:oJ us){left:Int}(hl:0<=left/\left<=16)(outer:Bool):oJ (sB left outer us):=by
 refine⟨fun v hv=>?_,?_⟩
 ·obtain⟨u,hu,hh,rfl⟩:=Jx hv
  obtain⟨Y,J,Z⟩:=h.wf u hu
  refine⟨Ox (by omega) u Y ((J6 u Y 0).2 fun n hn J=>?_),by rw [wZ];exact J,JV Z⟩
  have k1:=qF Y 0 hn J
  have k2:=jV.1 hh n hn
  simp [J]at k2
  omega
 ·unfold sB
  rw [LD,zp]
  exact xy (rm _ us) h.sum
def td{t:Tr}(hw:t.wf)(hs:t.size<=1000):oJ (eJ t):=by
 have lone: ∀t:Tr,∀u∈eJ t,eJ u=[u]:=by
  intro t
  induction t with
  |lf n=>intro u hu;simp only [eJ,jY]at hu;subst hu;rfl
  |un n a _=>intro u hu;simp only [eJ,jY]at hu;subst hu;rfl
  |bi n a b iha ihb=>
   intro u hu
   rw [mg]at hu
   split at hu
   ·rcases p9.1 hu with k|k
    ·exact iha u k
    ·exact ihb u k
   ·rename_i h22
    simp only [jY]at hu
    subst hu
    rw [mg,bn h22]
 refine⟨fun u hu=>⟨(HD hw u hu).1,by have:=(HD hw u hu).2;omega,lone t u hu⟩,?_⟩
 have:=Cl t
 omega
def ve{u:Tr}{us:List Tr}(h:oJ (u::us)):ov ((u::us).map cV)=some (cV (iR u us),0)/\(iR u us).wf/\(iR u us).size<=1000/\eJ (iR u us)=u::us:=by
 have hsum:=h.sum
 simp only [jv]at hsum
 refine⟨yO u us (fun v hv=>⟨(h.wf v hv).1,(h.wf v hv).2.1⟩) (by omega),HG us u (h.wf u (mp ..)).1 (fun v hv=>(h.wf v (nu _ hv)).1),?_,?_⟩
 ·rw [o6]
  rw [mu]at hsum
  omega
 ·rw [Cn us u (fun v hv=>(h.wf v (nu _ hv)).2.2),(h.wf u (mp ..)).2.2];rfl
def Px{u:Tr}{us:List Tr}(h:oJ (u::us))(k: ∀v∈u::us,qA v=false):qA (iR u us)=false:=by
 have:=Cm (iR u us)
 rw [(ve h).2.2.2]at this
 have J:((u::us).all fun u=> !(qA u))=true:=jV.2 fun v hv=>by rw [k v hv];rfl
 rw [J]at this
 cases hh:qA (iR u us)with
 |true=>rw [hh]at this;simp at this
 |false=>rfl
def Dp{t:Tr}(h:qA t=false): ∀u∈eJ t,qA u=false:=fun u hu=>by
 have:=Cm t
 rw [h]at this
 have:=jV.1 this u hu
 simpa using this
end Go.Proofs.YtbmmihfagmchaaaGreat

