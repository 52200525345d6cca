/- cW of this claim: E7. -/
import Derived.Test.YtbmmihfagmchaaaGreatRcE6
set_option linter.all false
namespace Go.Proofs.YtbmmihfagmchaaaGreat
open Go

abbrev BG:=Option (List (Int×(am->Bool->Option (am×Int))))
def Qp{β:Type}(f g h:β)(k:Int):n7 (eM (eM (eM ([]:List (Int×β)) 3 f) 5 g) 6 h) k=if k=3 then some f else if k=5 then some g else if k=6 then some h else none:=by
 have e:eM (eM (eM ([]:List (Int×β)) 3 f) 5 g) 6 h=[(3,f),(5,g),(6,h)]:=rfl
 rw [e]
 by_cases Z:k=3
 ·subst Z;rfl
 ·by_cases h5:k=5
  ·subst h5;rfl
  ·by_cases h6:k=6
   ·subst h6;rfl
   ·rw [bn Z,bn h5,bn h6]
    simp [n7,Ne.symm Z,Ne.symm h5,Ne.symm h6]
def AY{α β:Type}(o:Option (α×β)):(o.bind fun r=>some (r.1,r.2))=o:=by cases o<;>rfl
def uG(fu:Nat)(t:am)(d:Bool):cJ (bz (fu+1)) t d=if t.root.Op=3 then dw (bz fu) t d else if t.root.Op=5 then eS t d else if t.root.Op=6 then eX t d else some (t,0):=by
 unfold cJ
 rw [show bz (fu+1)=some (eM (eM (eM ([]:List (Int×(am->Bool->Option (am×Int)))) (3:Int) (dw (bz fu))) (5:Int) eS) (6:Int) eX)from rfl]
 simp only [bo,Qp,AY]
 by_cases Z:t.root.Op=3
 ·simp [Z]
 ·by_cases h5:t.root.Op=5
  ·simp [h5]
  ·by_cases h6:t.root.Op=6
   ·simp [h6]
   ·simp [Z,h5,h6]
def Dx(t:am):Prop:= ∀fu d,cJ (bz (fu+1)) t d=some (t,0)
inductive NF:am->Prop where
 |mk (t:am):nh t->(∀p∈t.parts,NF p)->Dx t->NF t
def NF.tok{t:am}(h:NF t):nh t:=by cases h;assumption
def NF.none{t:am}(h:NF t):Dx t:=by cases h;assumption
def NF.sub{t:am}(h:NF t): ∀p∈t.parts,NF p:=by cases h;assumption
def sJ{t:am}(Z:t.root.Op≠3)(h5:t.root.Op≠5)(h6:t.root.Op≠6):Dx t:=fun fu d=>by rw [uG,bn Z,bn h5,bn h6]
def C0{t:am}(h:NF t)(fu n:Nat)(z:am):dN (bz (fu+1)) (n+1) t z=some (t,true):=by
 unfold dN
 rw [h.none fu true]
 rfl
def B7{rec:BG}{t r:am}(h:cJ rec t true=some (r,1))(n:Nat)(z:am):dN rec (n+1) t z=dN rec n r z:=by
 conv=>lhs;unfold dN
 rw [h];rfl
def Iv{rec:BG}{t r:am}(h:cJ rec t true=some (r,2))(n:Nat)(z:am):dN rec (n+1) t z=some (t,false):=by
 unfold dN
 rw [h];rfl
def nF(c:ai):aa:=⟨(3:Int),(0:Int),(0:Int),(0:Int),[],false,c,[],[],[],[],(0:Int)⟩
def nJ(left:Bool)(c:ai):aa:=⟨(2:Int),(0:Int),(0:Int),(0:Int),[],left,c,[],[],[],[],(0:Int)⟩
def sK{c:ai}(h:c.Nodes.length<=5000):cj (nF c):=⟨h,by simp [nF],by simp [nF],by simp [nF],by simp [nF],by simp [nF],by simp [nF],by simp [nF]⟩
def Es{l:Bool}{c:ai}(h:c.Nodes.length<=5000):cj (nJ l c):=⟨h,by simp [nJ],by simp [nJ],by simp [nJ],by simp [nJ],by simp [nJ],by simp [nJ],by simp [nJ]⟩
def mF(u:Tr):(cV u).Nodes.length=u.size:=Tr.flat_len u 0
def G7(u:Tr):zN (nF (cV u))=qA u:=by
 show(ui (cV u)||([]:List ai).any ui||([]:List gQ).any Lz)=_
 rw [qE];simp
def Ly(l:Bool)(u:Tr):zN (nJ l (cV u))=qA u:=by
 show(ui (cV u)||([]:List ai).any ui||([]:List gQ).any Lz)=_
 rw [qE];simp
def qz{n:aa}{a:List Int}(h:Bt n.Cond a=true): ∃c:Tr,c.wf/\c.size<=1000/\n.Cond=cV c:=by
 have hr:=FJ h
 unfold fd at hr
 obtain⟨t,D⟩:=DH.1 hr
 obtain⟨hw,hN,hs⟩:=i8 D
 exact⟨t,hw,hs,by unfold cV;rw [<-hN]⟩
def Az(c:Tr):Bool:=(c.size==1)&&decide (((c.flat 0)[0]?.map (·.Value))=some (⟨(1:Int),(1:Int),(0:Int),[]⟩:bN))
def HF{a b:Tr}(ha:a.wf/\a.size<=1000)(V:b.wf/\b.size<=1000):ov [cV a,cV b]=some (if a.size+b.size+1<=1000 then(cV (iR a [b]),0)else(⟨[]⟩,3)):=by
 by_cases h:a.size+b.size+1<=1000
 ·rw [bE h]
  refine yO a [b] (fun u hu=>?_) (by rw [mu,mu];simp [pD];omega)
  rcases gB.1 hu with rfl|hu
  ·exact ha
  ·rw [jY.1 hu];exact V
 ·rw [bn h]
  unfold ov o4
  have hn:=wY [cV a,cV b] 0 (by
   intro q hq
   rcases gB.1 hq with rfl|hq
   ·rw [mF];omega
   ·rw [jY.1 hq,mF];omega) (by simp)
  rw [show((0:Nat):Int)=0 from rfl]at hn
  rw [hn]
  have hall:([cV a,cV b].all fun e=>fd e.Nodes)=true:=by
   simp only [vu,List.all_nil,zw,jX]
   exact⟨pF ha.1 ha.2,pF V.1 V.2⟩
  have hsum:([cV a,cV b].map fun e=>e.Nodes.length).sum=a.size+b.size:=by simp [mF]
  rw [hall,hsum]
  simp only [gu,bo]
  rw [bn (by decide),bn (by simp)]
  have e2:(([cV a,cV b].length:Nat):Int)=2:=rfl
  rw [e2,bH (n:=((0+(a.size+b.size):Nat):Int)+2) (by omega) (by omega),bH (by omega) (by omega),bE (by simp;omega)]
def qx(rec:BG){n:aa}{x:am}{c:Tr}(hw:c.wf)(hs:c.size<=1000)(hc:n.Cond=cV c)(d:Bool):
    dw rec (aS n x) d=if Az c then some (x,1)else if x.root.Op=3/\qA c=false then
        ((ov ([x.root.Cond,cV c])).bind fun r2=>if(r2.2 !=(0:Int))then some (aS n x,(0:Int))else
          (cU x.parts (0:Int)).bind fun e2=>(d9 (nF r2.1) ([e2])).bind fun r3=>(ip r3.1 r3.2).bind fun r4=>some (r4.1,r4.2))
      else(if((x.root.Op==(2:Int))&& !(qA c))then((mE x.root.Cond).bind fun r5=>some r5)else some false).bind fun t2=>if t2 then fG rec (aS n x) d else some (aS n x,(0:Int)):=by
  unfold dw
  rw [show cU (aS n x).parts (0:Int)=some x from rfl]
  have hroot:(aS n x).root.Cond=cV c:=hc
  rw [hroot,uT hw hs]
  simp only [bo]
  have hy:(if(((cV c).Nodes.length:Int)==(1:Int))then((cU (cV c).Nodes (0:Int)).bind fun e1=>(s0 true).bind fun r1=>some (decide (e1.Value=r1)))else some false)=some (Az c):=by
    unfold Az
    rw [mF]
    by_cases Y:c.size=1
    · rw [bE (by simp [Y])]
      have hl:(c.flat 0).length=1:=by rw [Tr.flat_len];exact Y
      match X:c.flat 0,hl with
      |[m],_=>
        rw [show cU (cV c).Nodes (0:Int)=some m from by unfold cV;rw [X];rfl]
        rw [show s0 true=some (⟨(1:Int),(1:Int),(0:Int),[]⟩:bN)from rfl]
        simp [Y]
    · rw [bn (by simp;omega)]
      simp [Y]
  rw [hy]
  simp only [bo]
  cases Az c with
  |true=>rfl
  |false=>
    simp only [jx,gE]
    by_cases Z:x.root.Op=3/\qA c=false
    · rw [bE (by simp [Z.1,Z.2]),bE Z]
      rfl
    · rw [bn Z,bn (by simpa using Z)]
      simp only [AY]
end Go.Proofs.YtbmmihfagmchaaaGreat

