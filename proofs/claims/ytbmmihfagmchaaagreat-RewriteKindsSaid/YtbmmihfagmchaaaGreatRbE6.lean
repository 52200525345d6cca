/- cP of this claim: E6. -/
import Derived.Test.YtbmmihfagmchaaaGreatRbE5
set_option linter.all false
namespace Go.Proofs.YtbmmihfagmchaaaGreat
open Go

def vX(left:Int)(u:Tr):Bool:=(u.flat 0).all fun n=> !(n.Tag==2)||decide (n.Col<left)
def rj(left:Int)(u:Tr):Bool:=(u.flat 0).all fun n=> !(n.Tag==2)||decide (left<=n.Col)
def sA(left:Int)(us:List Tr):List Tr:=us.filter (vX left)
def sB(left:Int)(outer:Bool)(us:List Tr):List Tr:=(us.filter fun u=> !vX left u&&(rj left u&& !outer)).map (y6 (0-left))
def sC(left:Int)(outer:Bool)(us:List Tr):List Tr:=us.filter fun u=> !vX left u&& !(rj left u&& !outer)
def IG(e:ai){t:Tr}(D:iF e.Nodes=some t): ∃cs,kb e=some cs/\lS e=some cs/\cs.Pairwise (· < ·)/\(∀c∈cs,0<=c/\c<16)/\cs.length<=16/\ ∀c,c∈cs↔ ∃n∈e.Nodes,n.Tag=2/\n.Col=c:=by
 obtain⟨cs,Y,J,Z,h4,h5,h6⟩:=KR e D
 refine⟨cs,Y,J,Z,h4,h5,fun c=>⟨fun hc=>?_,fun⟨n,hn,D,hc⟩=>hc▸h6 n hn D⟩⟩
 have h7:=J
 unfold lS at h7
 rw [wI e 16 0 [] (by simp),iW]at h7
 injection h7 with h7
 rw [<-h7]at hc
 obtain⟨j,_,_,e1,hj⟩:=(wS _ _ _ _).1 hc
 unfold CV at hj
 obtain⟨n,hn,hj⟩:=vv.1 hj
 simp at hj
 exact⟨n,hn,hj.1,by rw [e1];exact hj.2⟩
def EZ{cs:List Int}{ns:List aj}(h: ∀c,c∈cs↔ ∃n∈ns,n.Tag=2/\n.Col=c)(f:Int->Bool):(cs.all f)=ns.all fun n=> !(n.Tag==2)||f n.Col:=by
 refine K0 ?_
 rw [jK,jK]
 constructor
 ·intro k n hn
  by_cases J:n.Tag=2
  ·simp [J,k _ ((h n.Col).2 ⟨n,hn,J,rfl⟩)]
  ·simp [J]
 ·intro k c hc
  obtain⟨n,hn,J,rfl⟩:=(h c).1 hc
  have:=k n hn
  simpa [J] using this
def DP(left:Int)(hleft:0<=left/\left<=16)(outer:Bool): ∀(us a b c:List Tr),(∀u∈us,u.wf/\u.size<=1000)->a.length+b.length+c.length+us.length<=100000->
  f9 left outer (us.map cU) [a.map cU,b.map cU,c.map cU]=some [(a++sA left us).map cU,(b++sB left outer us).map cU,(c++sC left outer us).map cU]
 |[],a,b,c,_,_=>by simp [sA,sB,sC,f9,mo]
 |u::us,a,b,c,h,hn=>by
  obtain⟨hw,hs⟩:=h u (lK ..)
  have D:iF (cU u).Nodes=some u:=np hw hs
  have ih:=fun a b c=>DP left hleft outer us a b c (fun x I=>h x (mZ _ I))
  obtain⟨cs,Y,J,Z,h4,h5,h6⟩:=IG (cU u) D
  simp only [i6]at hn
  have e0:mo [a.map cU,b.map cU,c.map cU] 0=a.map cU:=rfl
  have e1:mo [a.map cU,b.map cU,c.map cU] 1=b.map cU:=rfl
  have e2:mo [a.map cU,b.map cU,c.map cU] 2=c.map cU:=rfl
  have el:(cs.all fun c=>decide (c<left))=vX left u:=EZ h6 _
  have eh:(cs.all fun c=>decide (left<=c))=rj left u:=EZ h6 _
  rw [pn]
  unfold f9
  rw [Y]
  simp only [bt]
  rw [L0 Z left h5,el]
  simp only [bt,e0,e1,e2]
  cases hlow:vX left u with
  |true=>
   simp only [fP]
   rw [cC (by simp;omega)]
   simp only [bt]
   rw [show a.map cU++[cU u]=(a++[u]).map cU from by simp,ih (a++[u]) b c (by simp;omega)]
   simp [sA,sB,sC,hlow]
  |false=>
   simp only [kP,iB]
   match cs,J,Z,h4,h6,el,eh with
   |[],_,_,_,_,el,_=>rw [hlow]at el;simp at el
   |c0::cs,J,Z,h4,h6,el,eh=>
    rw [Kh Z left]at eh
    rw [show cQ (c0::cs) 0=some c0 from rfl]
    simp only [bt]
    rw [eh]
    cases hh:rj left u&& !outer with
    |true=>
     simp only [fP]
     have hc0:left<=c0:=by
      rw [<-eh]at hh
      have:=(iX _ _▸hh).1
      exact of_decide_eq_true this
     rw [bB (by omega) (by omega)]
     obtain⟨s1,_⟩:=FJ (cU u) D J (fun n hn J=>(h6 _).2 ⟨n,hn,J,rfl⟩) (0-left) (by omega) (fun d hd=>by
      have k1:=h4 d hd
      have k2:left<=d:=by
       rcases fT.1 hd with rfl|hd
       ·exact hc0
       ·have:=(Bf.1 Z).1 d hd;omega
      omega)
     rw [s1]
     simp only [bt]
     rw [cC (by simp;omega)]
     simp only [bt]
     have em:(⟨(cU u).Nodes.map (uo (0-left))⟩:ai)=cU (y6 (0-left) u):=by unfold cU;rw [JV _ _ hw]
     rw [em,show b.map cU++[cU (y6 (0-left) u)]=(b++[y6 (0-left) u]).map cU from by simp,ih a (b++[y6 (0-left) u]) c (by simp;omega)]
     unfold sA sB sC
     rw [Cv (by rw [hlow];decide),Dz (p:=fun u=> !vX left u&&(rj left u&& !outer)) (by show(!vX left u&&(rj left u&& !outer))=true;rw [hlow,hh];rfl),
      Cv (p:=fun u=> !vX left u&& !(rj left u&& !outer)) (by show¬((!vX left u&& !(rj left u&& !outer))=true);rw [hlow,hh];decide)]
     rw [pn,jr];rfl
    |false=>
     simp only [kP,iB]
     rw [cC (by simp;omega)]
     simp only [bt]
     rw [show c.map cU++[cU u]=(c++[u]).map cU from by simp,ih a b (c++[u]) (by simp;omega)]
     unfold sA sB sC
     rw [Cv (by rw [hlow];decide),Cv (p:=fun u=> !vX left u&&(rj left u&& !outer)) (by show¬((!vX left u&&(rj left u&& !outer))=true);rw [hlow,hh];decide),
      Dz (p:=fun u=> !vX left u&& !(rj left u&& !outer)) (by show(!vX left u&& !(rj left u&& !outer))=true;rw [hlow,hh];rfl)]
     rw [jr];rfl
def Qe(left:Int)(outer:Bool)(us:List Tr):sA left (sC left outer us)=[]/\sB left outer (sC left outer us)=[]:=by
 unfold sA sB sC
 refine⟨?_,?_⟩
 ·rw [List.filter_filter,List.filter_eq_nil_iff]
  intro u _
  cases vX left u<;>simp
 ·rw [List.filter_filter,List.map_eq_nil_iff,List.filter_eq_nil_iff]
  intro u _
  cases vX left u<;>cases rj left u<;>cases outer<;>simp
def Ju{left:Int}{outer:Bool}{us:List Tr}{v:Tr}(hv:v∈sB left outer us): ∃u∈us,rj left u=true/\v=y6 (0-left) u:=by
 unfold sB at hv
 obtain⟨u,hu,rfl⟩:=rC.1 hv
 obtain⟨Y,J⟩:=vc.1 hu
 simp only [iX]at J
 exact⟨u,Y,J.2.1,rfl⟩
def q9(f:Tr->Bool): ∀us:List Tr,pP (us.filter f)+(us.filter f).length<=pP us+us.length
 |[]=>by simp
 |u::us=>by
  have ih:=q9 f us
  rw [List.filter_cons]
  split
  ·rw [mg,mg];simp only [i6];omega
  ·rw [mg];simp only [i6];omega
def LH(b:Int)(us:List Tr):pP (us.map (y6 b))=pP us:=by
 unfold pP
 rw [yl]
 congr 1
 exact Bg fun u _=>wR b u
structure pJ(us:List Tr):Prop where
 wf: ∀u∈us,u.wf/\u.size<=1000/\ev u=[u]
 sum:pP us+us.length<=1001
def JU{b:Int}{u:Tr}(h:ev u=[u]):ev (y6 b u)=[y6 b u]:=by
 cases u with
 |lf n=>rfl
 |un n a=>rfl
 |bi n x y=>
  have h22:n.Tag≠22:=fun k=>by
   rw [mb,bD k]at h
   have I:=HA x
   have hy:=HA y
   have hl:=congrArg List.length h
   rw [jE,List.length_singleton]at hl
   have l1:=List.length_pos_iff.2 I
   have l2:=List.length_pos_iff.2 hy
   omega
  show ev (.bi n (y6 b x) (y6 b y))=_
  rw [mb,bo h22];rfl
def pJ.a{us:List Tr}(h:pJ us)(left:Int):pJ (sA left us):=
 ⟨fun u hu=>h.wf u (vc.1 hu).1,xo (q9 _ us) h.sum⟩
def pJ.c{us:List Tr}(h:pJ us)(left:Int)(outer:Bool):pJ (sC left outer us):=
 ⟨fun u hu=>h.wf u (vc.1 hu).1,xo (q9 _ us) h.sum⟩
def pJ.b{us:List Tr}(h:pJ us){left:Int}(hl:0<=left/\left<=16)(outer:Bool):pJ (sB left outer us):=by
 refine⟨fun v hv=>?_,?_⟩
 ·obtain⟨u,hu,hh,rfl⟩:=Ju hv
  obtain⟨Y,J,Z⟩:=h.wf u hu
  refine⟨OA (by omega) u Y ((J9 u Y 0).2 fun n hn J=>?_),by rw [wR];exact J,JU Z⟩
  have k1:=qv Y 0 hn J
  have k2:=jK.1 hh n hn
  simp [J]at k2
  omega
 ·unfold sB
  rw [LH,zl]
  exact xo (q9 _ us) h.sum
def vU{t:Tr}(hw:t.wf)(hs:t.size<=1000):pJ (ev t):=by
 have lone: ∀t:Tr,∀u∈ev t,ev u=[u]:=by
  intro t
  induction t with
  |lf n=>intro u hu;simp only [ev,jL]at hu;subst hu;rfl
  |un n a _=>intro u hu;simp only [ev,jL]at hu;subst hu;rfl
  |bi n a b iha ihb=>
   intro u hu
   rw [mb]at hu
   split at hu
   ·rcases pY.1 hu with k|k
    ·exact iha u k
    ·exact ihb u k
   ·rename_i h22
    simp only [jL]at hu
    subst hu
    rw [mb,bo h22]
 refine⟨fun u hu=>⟨(Hz hw u hu).1,by have:=(Hz hw u hu).2;omega,lone t u hu⟩,?_⟩
 have:=Cf t
 omega
def uZ{u:Tr}{us:List Tr}(h:pJ (u::us)):om ((u::us).map cU)=some (cU (iP u us),0)/\(iP u us).wf/\(iP u us).size<=1000/\ev (iP u us)=u::us:=by
 have hsum:=h.sum
 simp only [i6]at hsum
 refine⟨yO u us (fun v hv=>⟨(h.wf v hv).1,(h.wf v hv).2.1⟩) (by omega),HB us u (h.wf u (lK ..)).1 (fun v hv=>(h.wf v (mZ _ hv)).1),?_,?_⟩
 ·rw [qn]
  rw [mg]at hsum
  omega
 ·rw [Ch us u (fun v hv=>(h.wf v (mZ _ hv)).2.2),(h.wf u (lK ..)).2.2];rfl
def Pu{u:Tr}{us:List Tr}(h:pJ (u::us))(k: ∀v∈u::us,qZ v=false):qZ (iP u us)=false:=by
 have:=Cg (iP u us)
 rw [(uZ h).2.2.2]at this
 have J:((u::us).all fun u=> !(qZ u))=true:=jK.2 fun v hv=>by rw [k v hv];rfl
 rw [J]at this
 cases hh:qZ (iP u us)with
 |true=>rw [hh]at this;simp at this
 |false=>rfl
def Dg{t:Tr}(h:qZ t=false): ∀u∈ev t,qZ u=false:=fun u hu=>by
 have:=Cg t
 rw [h]at this
 have:=jK.1 this u hu
 simpa using this
end Go.Proofs.YtbmmihfagmchaaaGreat

