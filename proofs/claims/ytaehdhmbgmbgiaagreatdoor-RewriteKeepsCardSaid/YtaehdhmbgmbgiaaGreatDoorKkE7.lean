import Derived.Test.YtaehdhmbgmbgiaaGreatDoorKkE6
set_option linter.all false
namespace Go.Proofs.YtaehdhmbgmbgiaaGreatDoor
open Go
abbrev NL:=Option (List (Int×(aB->Bool->Option (aB×Int))))
def aiX{β:Type}(f g h:β)(k:Int):m5 (dO (dO (dO ([]:List (Int×β)) 3 f) 5 g) 6 h) k=if k=3 then some f else if k=5 then some g else if k=6 then some h else none:=by
 have e:dO (dO (dO ([]:List (Int×β)) 3 f) 5 g) 6 h=[(3,f),(5,g),(6,h)]:=rfl;rw [e];by_cases h3:k=3
 ·subst h3;rfl
 ·by_cases h5:k=5
  ·subst h5;rfl
  ·by_cases h6:k=6
   ·subst h6;rfl
   ·rw [aR h3,aR h5,aR h6];simp [m5,Ne.symm h3,Ne.symm h5,Ne.symm h6]
def MC{α β:Type}(o:Option (α×β)):(o.bind fun r=>some (r.1,r.2))=o:=by cases o<;>rfl
def C2(fu:Nat)(t:aB)(d:Bool):d9 (cA (fu+1)) t d=if t.root.Op=3 then fH (cA fu) t d else if t.root.Op=5 then iK t d else if t.root.Op=6 then iS t d else some (t,0):=by
 unfold d9;rw [show cA (fu+1)=some (dO (dO (dO ([]:List (Int×(aB->Bool->Option (aB×Int)))) (3:Int) (fH (cA fu))) (5:Int) iK) (6:Int) iS)from rfl];simp only [bw,aiX,MC];by_cases h3:t.root.Op=3
 ·simp [h3]
 ·by_cases h5:t.root.Op=5
  ·simp [h5]
  ·by_cases h6:t.root.Op=6
   ·simp [h6]
   ·simp [h3,h5,h6]
def Q0(t:aB):Prop:= ∀fu d,d9 (cA (fu+1)) t d=some (t,0)
inductive NF:aB->Prop where
 |mk (t:aB):pc t->(∀p∈t.parts,NF p)->Q0 t->NF t
def NF.tok{t:aB}(h:NF t):pc t:=by cases h;assumption
def NF.none{t:aB}(h:NF t):Q0 t:=by cases h;assumption
def NF.sub{t:aB}(h:NF t): ∀p∈t.parts,NF p:=by cases h;assumption
def AI{t:aB}(h3:t.root.Op≠3)(h5:t.root.Op≠5)(h6:t.root.Op≠6):Q0 t:=fun fu d=>by rw [C2,aR h3,aR h5,aR h6]
def Wb{t:aB}(h:NF t)(fu n:Nat)(z:aB):gj (cA (fu+1)) (n+1) t z=some (t,true):=by
 unfold gj;rw [h.none fu true];rfl
def Oz{rec:NL}{t r:aB}(h:d9 rec t true=some (r,1))(n:Nat)(z:aB):gj rec (n+1) t z=gj rec n r z:=by
 conv=>lhs;unfold gj
 rw [h];rfl
def Ym{rec:NL}{t r:aB}(h:d9 rec t true=some (r,2))(n:Nat)(z:aB):gj rec (n+1) t z=some (t,false):=by
 unfold gj;rw [h];rfl
def nF(c:au):ai:=⟨(3:Int),(0:Int),(0:Int),(0:Int),[],false,c,[],[],[],[],(0:Int)⟩
def nJ(left:Bool)(c:au):ai:=⟨(2:Int),(0:Int),(0:Int),(0:Int),[],left,c,[],[],[],[],(0:Int)⟩
def vA{c:au}(h:c.j'.length<=5000):cI (nF c):=⟨wP h (by decide),by simp [nF],by simp [nF],by simp [nF],by simp [nF],by simp [nF],by simp [nF],by simp [nF]⟩
def GB{l:Bool}{c:au}(h:c.j'.length<=5000):cI (nJ l c):=⟨wP h (by decide),by simp [nJ],by simp [nJ],by simp [nJ],by simp [nJ],by simp [nJ],by simp [nJ],by simp [nJ]⟩
def nj(u:Tr):(cS u).j'.length=u.size:=Tr.flat_len u 0
def yB{n:ai}{a:List Int}(h:Ax n.J' a=true): ∃c:Tr,c.wf/\c.size<=1000/\n.J'=cS c:=by
 have hr:=T6 h;unfold gX at hr;obtain⟨t,J⟩:=Rn.1 hr;obtain⟨hw,hN,hs⟩:=kH J;exact⟨t,hw,hs,by unfold cS;rw [<-hN]⟩
def EI(c:Tr):Bool:=(c.size==1)&&decide (((c.flat 0)[0]?.map (·.Value))=some (⟨(1:Int),(1:Int),(0:Int),[]⟩:ac))
def Xq{a b:Tr}(ha:a.wf/\a.size<=1000)(H:b.wf/\b.size<=1000):vO [cS a,cS b]=some (if a.size+b.size+1<=1000 then(cS (il a [b]),0)else(⟨[]⟩,3)):=by
 by_cases h:a.size+b.size+1<=1000
 ·rw [bz h];refine Ja a [b] (fun u hu=>?_) (by rw [s4,s4];simp [wj];omega);rcases iW.1 hu with rfl|hu
  ·exact ha
  ·rw [mf.1 hu];exact H
 ·rw [aR h];unfold vO wy;have hn:=GA [cS a,cS b] 0 (by
   intro q hq;rcases iW.1 hq with rfl|hq
   ·rw [nj];omega
   ·rw [mf.1 hq,nj];omega) (by simp)
  rw [show((0:Nat):Int)=0 from rfl]at hn;rw [hn];have hall:([cS a,cS b].all fun e=>gX e.j')=true:=by
   simp only [xr,FV,Cj,iX];exact⟨wW ha.1 ha.2,wW H.1 H.2⟩
  have hsum:([cS a,cS b].map fun e=>e.j'.length).sum=a.size+b.size:=by simp [nj]
  rw [hall,hsum];simp only [hM,bw];rw [aR (by decide),aR (by simp)];have e2:(([cS a,cS b].length:Nat):Int)=2:=rfl;rw [e2,cB (n:=((0+(a.size+b.size):Nat):Int)+2) (by omega) (by omega),cB (by omega) (by omega),bz (by simp;omega)]
def yy(rec:NL){n:ai}{x:aB}{c:Tr}(hw:c.wf)(hs:c.size<=1000)(hc:n.J'=cS c)(d:Bool):
    fH rec (bE n x) d=if EI c then some (x,1)else if x.root.Op=3/\Eg c=false then
        ((vO ([x.root.J',cS c])).bind fun r2=>if(r2.2 !=(0:Int))then some (bE n x,(0:Int))else
          (cO x.parts (0:Int)).bind fun e2=>(gZ (nF r2.1) ([e2])).bind fun r3=>(mQ r3.1 r3.2).bind fun r4=>some (r4.1,r4.2))
      else(if((x.root.Op==(2:Int))&& !(Eg c))then((th x.root.J').bind fun r5=>some r5)else some false).bind fun t2=>if t2 then jF rec (bE n x) d else some (bE n x,(0:Int)):=by
  unfold fH;rw [show cO (bE n x).parts (0:Int)=some x from rfl];have hroot:(bE n x).root.J'=cS c:=hc;rw [hroot,Dn hw hs];simp only [bw];have hy:(if(((cS c).j'.length:Int)==(1:Int))then((cO (cS c).j' (0:Int)).bind fun e1=>(pg true).bind fun r1=>some (decide (e1.Value=r1)))else some false)=some (EI c):=by
    unfold EI;rw [nj];by_cases I:c.size=1
    · rw [bz (by simp [I])];have hl:(c.flat 0).length=1:=by rw [Tr.flat_len];exact I
      match hf:c.flat 0,hl with
      |[m],_=>
        rw [show cO (cS c).j' (0:Int)=some m from by unfold cS;rw [hf];rfl];rw [show pg true=some (⟨(1:Int),(1:Int),(0:Int),[]⟩:ac)from rfl];simp [I]
    · rw [aR (by simp;omega)];simp [I]
  rw [hy];simp only [bw]
  cases EI c with
  |true=>rfl
  |false=>
    simp only [jM,gT];by_cases h3:x.root.Op=3/\Eg c=false
    · rw [bz (by simp [h3.1,h3.2]),bz h3];rfl
    · rw [aR h3,aR (by simpa using h3)];simp only [MC]
