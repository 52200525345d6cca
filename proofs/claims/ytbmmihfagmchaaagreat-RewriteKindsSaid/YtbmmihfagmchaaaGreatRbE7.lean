/- cP of this claim: E7. -/
import Derived.Test.YtbmmihfagmchaaaGreatRbE6
set_option linter.all false
namespace Go.Proofs.YtbmmihfagmchaaaGreat
open Go

abbrev GL:=Option (List (Int×(am->Bool->Option (am×Int))))
def Qn{β:Type}(f g h:β)(k:Int):nX (ez (ez (ez ([]:List (Int×β)) 3 f) 5 g) 6 h) k=if k=3 then some f else if k=5 then some g else if k=6 then some h else none:=by
 have e:ez (ez (ez ([]:List (Int×β)) 3 f) 5 g) 6 h=[(3,f),(5,g),(6,h)]:=rfl
 rw [e]
 by_cases Z:k=3
 ·subst Z;rfl
 ·by_cases h5:k=5
  ·subst h5;rfl
  ·by_cases h6:k=6
   ·subst h6;rfl
   ·rw [bo Z,bo h5,bo h6]
    simp [nX,Ne.symm Z,Ne.symm h5,Ne.symm h6]
def AS{α β:Type}(o:Option (α×β)):(o.bind fun r=>some (r.1,r.2))=o:=by cases o<;>rfl
def w8(fu:Nat)(t:am)(d:Bool):cN (bG (fu+1)) t d=if t.root.Op=3 then dF (bG fu) t d else if t.root.Op=5 then eE t d else if t.root.Op=6 then eI t d else some (t,0):=by
 unfold cN
 rw [show bG (fu+1)=some (ez (ez (ez ([]:List (Int×(am->Bool->Option (am×Int)))) (3:Int) (dF (bG fu))) (5:Int) eE) (6:Int) eI)from rfl]
 simp only [bt,Qn,AS]
 by_cases Z:t.root.Op=3
 ·simp [Z]
 ·by_cases h5:t.root.Op=5
  ·simp [h5]
  ·by_cases h6:t.root.Op=6
   ·simp [h6]
   ·simp [Z,h5,h6]
def Do(t:am):Prop:= ∀fu d,cN (bG (fu+1)) t d=some (t,0)
inductive NF:am->Prop where
 |mk (t:am):ou t->(∀p∈t.parts,NF p)->Do t->NF t
def NF.tok{t:am}(h:NF t):ou t:=by cases h;assumption
def NF.none{t:am}(h:NF t):Do t:=by cases h;assumption
def NF.sub{t:am}(h:NF t): ∀p∈t.parts,NF p:=by cases h;assumption
def sv{t:am}(Z:t.root.Op≠3)(h5:t.root.Op≠5)(h6:t.root.Op≠6):Do t:=fun fu d=>by rw [w8,bo Z,bo h5,bo h6]
def Hf{t:am}(h:NF t)(fu n:Nat)(z:am):dE (bG (fu+1)) (n+1) t z=some (t,true):=by
 unfold dE
 rw [h.none fu true]
 rfl
def BZ{rec:GL}{t r:am}(h:cN rec t true=some (r,1))(n:Nat)(z:am):dE rec (n+1) t z=dE rec n r z:=by
 conv=>lhs;unfold dE
 rw [h];rfl
def Im{rec:GL}{t r:am}(h:cN rec t true=some (r,2))(n:Nat)(z:am):dE rec (n+1) t z=some (t,false):=by
 unfold dE
 rw [h];rfl
def nF(c:ai):aa:=⟨(3:Int),(0:Int),(0:Int),(0:Int),[],false,c,[],[],[],[],(0:Int)⟩
def nJ(left:Bool)(c:ai):aa:=⟨(2:Int),(0:Int),(0:Int),(0:Int),[],left,c,[],[],[],[],(0:Int)⟩
def um{c:ai}(h:c.Nodes.length<=5000):ck (nF c):=⟨h,by simp [nF],by simp [nF],by simp [nF],by simp [nF],by simp [nF],by simp [nF],by simp [nF]⟩
def JR{l:Bool}{c:ai}(h:c.Nodes.length<=5000):ck (nJ l c):=⟨h,by simp [nJ],by simp [nJ],by simp [nJ],by simp [nJ],by simp [nJ],by simp [nJ],by simp [nJ]⟩
def oo(u:Tr):(cU u).Nodes.length=u.size:=Tr.flat_len u 0
def G1(u:Tr):ww (nF (cU u))=qZ u:=by
 show(qu (cU u)||([]:List ai).any qu||([]:List ik).any DH)=_
 rw [qt];simp
def LC(l:Bool)(u:Tr):ww (nJ l (cU u))=qZ u:=by
 show(qu (cU u)||([]:List ai).any qu||([]:List ik).any DH)=_
 rw [qt];simp
def yb{n:aa}{a:List Int}(h:Bm n.Cond a=true): ∃c:Tr,c.wf/\c.size<=1000/\n.Cond=cU c:=by
 have hr:=vD h
 unfold dX at hr
 obtain⟨t,D⟩:=DA.1 hr
 obtain⟨hw,hN,hs⟩:=iR D
 exact⟨t,hw,hs,by unfold cU;rw [<-hN]⟩
def B3(c:Tr):Bool:=(c.size==1)&&decide (((c.flat 0)[0]?.map (·.Value))=some (⟨(1:Int),(1:Int),(0:Int),[]⟩:bK))
def Nn{a b:Tr}(ha:a.wf/\a.size<=1000)(V:b.wf/\b.size<=1000):om [cU a,cU b]=some (if a.size+b.size+1<=1000 then(cU (iP a [b]),0)else(⟨[]⟩,3)):=by
 by_cases h:a.size+b.size+1<=1000
 ·rw [bD h]
  refine yO a [b] (fun u hu=>?_) (by rw [mg,mg];simp [pP];omega)
  rcases fT.1 hu with rfl|hu
  ·exact ha
  ·rw [jL.1 hu];exact V
 ·rw [bo h]
  unfold om oY
  have hn:=wQ [cU a,cU b] 0 (by
   intro q hq
   rcases fT.1 hq with rfl|hq
   ·rw [oo];omega
   ·rw [jL.1 hq,oo];omega) (by simp)
  rw [show((0:Nat):Int)=0 from rfl]at hn
  rw [hn]
  have hall:([cU a,cU b].all fun e=>dX e.Nodes)=true:=by
   simp only [vb,List.all_nil,zr,iX]
   exact⟨px ha.1 ha.2,px V.1 V.2⟩
  have hsum:([cU a,cU b].map fun e=>e.Nodes.length).sum=a.size+b.size:=by simp [oo]
  rw [hall,hsum]
  simp only [fP,bt]
  rw [bo (by decide),bo (by simp)]
  have e2:(([cU a,cU b].length:Nat):Int)=2:=rfl
  rw [e2,bB (n:=((0+(a.size+b.size):Nat):Int)+2) (by omega) (by omega),bB (by omega) (by omega),bD (by simp;omega)]
def sG(rec:GL){n:aa}{x:am}{c:Tr}(hw:c.wf)(hs:c.size<=1000)(hc:n.Cond=cU c)(d:Bool):
    dF rec (be n x) d=if B3 c then some (x,1)else if x.root.Op=3/\qZ c=false then
        ((om ([x.root.Cond,cU c])).bind fun r2=>if(r2.2 !=(0:Int))then some (be n x,(0:Int))else
          (cQ x.parts (0:Int)).bind fun e2=>(dV (nF r2.1) ([e2])).bind fun r3=>(ia r3.1 r3.2).bind fun r4=>some (r4.1,r4.2))
      else(if((x.root.Op==(2:Int))&& !(qZ c))then((j9 x.root.Cond).bind fun r5=>some r5)else some false).bind fun t2=>if t2 then gc rec (be n x) d else some (be n x,(0:Int)):=by
  unfold dF
  rw [show cQ (be n x).parts (0:Int)=some x from rfl]
  have hroot:(be n x).root.Cond=cU c:=hc
  rw [hroot,wC hw hs]
  simp only [bt]
  have hy:(if(((cU c).Nodes.length:Int)==(1:Int))then((cQ (cU c).Nodes (0:Int)).bind fun e1=>(sT true).bind fun r1=>some (decide (e1.Value=r1)))else some false)=some (B3 c):=by
    unfold B3
    rw [oo]
    by_cases Y:c.size=1
    · rw [bD (by simp [Y])]
      have hl:(c.flat 0).length=1:=by rw [Tr.flat_len];exact Y
      match X:c.flat 0,hl with
      |[m],_=>
        rw [show cQ (cU c).Nodes (0:Int)=some m from by unfold cU;rw [X];rfl]
        rw [show sT true=some (⟨(1:Int),(1:Int),(0:Int),[]⟩:bK)from rfl]
        simp [Y]
    · rw [bo (by simp;omega)]
      simp [Y]
  rw [hy]
  simp only [bt]
  cases B3 c with
  |true=>rfl
  |false=>
    simp only [kP,iB]
    by_cases Z:x.root.Op=3/\qZ c=false
    · rw [bD (by simp [Z.1,Z.2]),bD Z]
      rfl
    · rw [bo Z,bo (by simpa using Z)]
      simp only [AS]
end Go.Proofs.YtbmmihfagmchaaaGreat

