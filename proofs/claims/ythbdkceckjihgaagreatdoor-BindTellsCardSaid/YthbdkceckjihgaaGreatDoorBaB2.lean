/- cH of this claim: B2. -/
import Derived.Test.YthbdkceckjihgaaGreatDoorBaB1
set_option linter.all false
namespace Go.Proofs.YthbdkceckjihgaaGreatDoor
open Go

def Ca{f:Int->Option Bool}{p:Int->Bool}(hf: ∀x,f x=some (p x)): ∀(l:List Int) (i:Nat),∃j:Int,dX f l i=some j/\decide (0<=j)=l.any p
 |[],i=>⟨-1,rfl,rfl⟩
 |x::l,i=>by
  unfold dX
  rw [hf,eC,wu]
  cases A:p x with
  |true=>exact⟨i,rfl,by simp⟩
  |false=>
   obtain⟨j,H,J⟩:=Ca hf l (i+1)
   exact⟨j,H,by rw [J];rfl⟩
def Gq{f:Int->Option Bool}{p:Int->Bool}(hf: ∀x,f x=some (p x))(l:List Int):eU l f=some (l.any p):=by
 obtain⟨j,H,J⟩:=Ca hf l 0
 unfold eU hP
 rw [H,eC,J]
def zz{f:dZ->Option Bool}{p:dZ->Bool}(hf: ∀x,f x=some (p x)): ∀(l:List dZ) (i:Nat),∃j:Int,cI f l i=some j/\decide (0<=j)=l.any p
 |[],i=>⟨-1,rfl,rfl⟩
 |x::l,i=>by
  unfold cI
  rw [hf,eC,wu]
  cases A:p x with
  |true=>exact⟨i,rfl,by simp⟩
  |false=>
   obtain⟨j,H,J⟩:=zz hf l (i+1)
   exact⟨j,H,by rw [J];rfl⟩
def DZ{f:dZ->Option Bool}{p:dZ->Bool}(hf: ∀x,f x=some (p x))(l:List dZ):dm l f=some (l.any p):=by
 obtain⟨j,H,J⟩:=zz hf l 0
 unfold dm eO
 rw [H,eC,J]
def zA{f:er->Option Bool}{p:er->Bool}(hf: ∀x,f x=some (p x)): ∀(l:List er) (i:Nat),∃j:Int,cJ f l i=some j/\decide (0<=j)=l.any p
 |[],i=>⟨-1,rfl,rfl⟩
 |x::l,i=>by
  unfold cJ
  rw [hf,eC,wu]
  cases A:p x with
  |true=>exact⟨i,rfl,by simp⟩
  |false=>
   obtain⟨j,H,J⟩:=zA hf l (i+1)
   exact⟨j,H,by rw [J];rfl⟩
def D0{f:er->Option Bool}{p:er->Bool}(hf: ∀x,f x=some (p x))(l:List er):dn l f=some (l.any p):=by
 obtain⟨j,H,J⟩:=zA hf l 0
 unfold dn eP
 rw [H,eC,J]
def D6(tag:Int):Bool:=tag==3||(decide (8<=tag)&&decide (tag<=11))
def Ct:List (Int×Int):=[(3,1),(8,2),(9,3),(10,4),(11,5)]
def yW:ky=some Ct:=by kernel_rfl
def Ip(tag:Int):decide ((0:Int)<((gK Ct tag).getD (0:Int)))=D6 tag:=by
 unfold Ct D6
 simp only [gK]
 by_cases h3:tag=3
 ·subst h3;decide
 by_cases h8:tag=8
 ·subst h8;decide
 by_cases h9:tag=9
 ·subst h9;decide
 by_cases h10:tag=10
 ·subst h10;decide
 by_cases h11:tag=11
 ·subst h11;decide
 have e1: ¬(3:Int)=tag:=fun h=>h3 h.symm
 have e2: ¬(8:Int)=tag:=fun h=>h8 h.symm
 have e3: ¬(9:Int)=tag:=fun h=>h9 h.symm
 have e4: ¬(10:Int)=tag:=fun h=>h10 h.symm
 have e5: ¬(11:Int)=tag:=fun h=>h11 h.symm
 have e6:(tag==3)=false:=by simpa using h3
 have e7:(decide (8<=tag)&&decide (tag<=11))=false:=by simp;omega
 simp [e1,e2,e3,e4,e5,e6,e7]
def F9(t:cD):Bool:=t.Nodes.any fun n=>D6 n.Tag
def uu(s:aJ):Bool:=(decide (0<s.Group.length)||decide (0<s.Having.Nodes.length))||s.Items.any fun x=>F9 x.Tree
def Ec(s:aJ):ln s=some (uu s):=by
 unfold ln uu
 rw [yW,eC]
 have H: ∀n,iH Ct n=some (D6 n.Tag):=fun n=>by unfold iH;rw [Ip]
 have J: ∀x,jL Ct x=some (F9 x.Tree):=fun x=>by unfold jL F9;rw [DZ H,eC]
 rw [D0 J,eC]
 have e1:decide ((0:Int)<(s.Group.length:Int))=decide (0<s.Group.length):=by rw [Ab];omega
 have e2:decide ((0:Int)<(s.Having.Nodes.length:Int))=decide (0<s.Having.Nodes.length):=by rw [Ab];omega
 rw [e1,e2]
 cases (decide (0<s.Group.length)||decide (0<s.Having.Nodes.length))<;>rfl
def xH: ∀(l:List dZ),kZ l=some (l.any fun n=>D6 n.Tag)
 |[]=>rfl
 |x::l=>by
  unfold kZ
  rw [show mX x.Tag=some (D6 x.Tag)from rfl,eC,wu]
  cases D6 x.Tag with
  |true=>rfl
  |false=>exact xH l
def nG: ∀(l:List er) (b:Bool),gu l b=some (b||l.any fun x=>F9 x.Tree)
 |[],b=>by simp [gu]
 |x::l,b=>by
  unfold gu
  rw [show vh x.Tree=some (F9 x.Tree)from xH x.Tree.Nodes,wu]
  cases b with
  |true=>simp only [sI,sb,nu,eC];rw [nG l true];rfl
  |false=>simp only [Bool.not_false,qw,eC];rw [nG l (F9 x.Tree)];simp
def xI(s:aJ):md s=some (uu s):=by
 unfold md uu
 have e1:decide ((0:Int)<(s.Group.length:Int))=decide (0<s.Group.length):=by rw [Ab];omega
 have e2:decide ((0:Int)<(s.Having.Nodes.length:Int))=decide (0<s.Having.Nodes.length):=by rw [Ab];omega
 rw [nG,e1,e2]
def qa(c:aY)(t:Int):Bool:=decide (t<0)||decide ((c.Tables.length:Int)<=t)
def yl(c:aY)(t:Int):List bw:=((c.Tables[t.toNat]?).map fun x=>x.Columns).getD []
def mZ(c:aY)(ts:List Int):List Int:=ts.flatMap fun t=>(yl c t).map fun x=>x.Kind
def Ed(c:aY):Prop:= ∀t∈c.Tables,t.Columns.length<=1000
def C5(c:aY):Ed (Av c):=by
 intro t Y
 obtain⟨u,_,rfl⟩:=List.mem_map.1 Y
 have:(DX u).Columns.length<=5:=by simp [DX];omega
 omega
def D1{c:aY}(h:Ed c)(t:Int):(yl c t).length<=1000:=by
 unfold yl
 cases A:c.Tables[t.toNat]? with
 |none=>simp
 |some x=>exact h x (qu A)
def I8{c:aY}{t:Int}(h:qa c t=false): ∃x,gI c.Tables t=some x/\x.Columns=yl c t/\x∈c.Tables:=by
 simp only [qa,Ei,CR]at h
 have hlt:t.toNat<c.Tables.length:=by omega
 refine⟨c.Tables[t.toNat],?_,?_,List.getElem_mem ..⟩
 ·unfold gI;rw [fE (by omega),nw hlt]
 ·unfold yl;rw [nw hlt];rfl
def B7(nx:List Int->Option (List Int)): ∀(l:List bw) (out:List Int),out.length+l.length<=68719476736->gq nx l out=nx (out++l.map fun x=>x.Kind)
 |[],out,_=>by simp [gq]
 |x::l,out,h=>by
  simp only [Aa]at h
  unfold gq mM
  rw [fE (by simp;omega),eC,B7 nx l _ (by simp;omega)]
  simp
def B8{c:aY}(hc:Ed c): ∀(l:List Int) (out:List Int),(∀t∈l,qa c t=false)->out.length+l.length*1000<=68719476736->eX c l out=some (out++mZ c l)
 |[],out,_,_=>by simp [eX,mZ]
 |t::l,out,h,hl=>by
  simp only [Aa]at hl
  obtain⟨x,H,J,_⟩:=I8 (h t (oh ..))
  have h3:=D1 hc t
  unfold eX
  rw [H,eC,B7 _ _ _ (by rw [J];omega),B8 hc l _ (fun t Y=>h t (oj _ Y)) (by rw [J];simp;omega),J]
  simp [mZ]
def xT{c:aY}(hc:Ed c){l:List Int}(h: ∀t∈l,qa c t=false)(hl:l.length<=1000):nW c l=some (mZ c l):=by
 unfold nW
 rw [B8 hc l [] h (by simp;omega)];rfl
def xG(c:aY): ∀(l:List Int) (out:List Int),gz c l out=eX c l out:=by
 have J: ∀(nx:List Int->Option (List Int)) (l:List bw) (out:List Int),ju nx l out=gq nx l out:=by
  intro nx l
  induction l with
  |nil=>intro out;rfl
  |cons x l ih=>intro out;unfold ju gq;exact congrArg _ (funext fun y=>ih y)
 intro l
 induction l with
 |nil=>intro out;rfl
 |cons t l ih=>
  intro out
  unfold gz eX
  refine congrArg _ (funext fun e=>?_)
  rw [J,show gz c l=eX c l from funext ih]
def AF{c:aY}(hc:Ed c){l:List Int}(h: ∀t∈l,qa c t=false)(hl:l.length<=1000):mt c l=some (mZ c l):=by
 have:=xT hc h hl
 unfold nW at this
 unfold mt
 rw [xG,this]
def yC{c:aY}(hs:vM c)(hc:Ed c){l:List Int}(hl:l.length<=1000):lq c l=some (if uL c then(if l.any (qa c)then([],4)else(mZ c l,0))else([],210)):=by
 unfold lq
 rw [vH hs,eC,Gq (f:=lp c) (p:=qa c) (fun x=>rfl),eC]
 cases hcb:uL c with
 |false=>rfl
 |true=>
  cases D:l.any (qa c)with
  |true=>rfl
  |false=>
   rw [xT hc (fun t Y=>by
    have:=List.any_eq_false.1 D t Y
    simpa using this) hl]
   rfl
def tN: ∀(l:List aJ),gD l=some true
 |[]=>rfl
 |s::l=>by
  unfold gD
  rw [Ec,eC,xI,eC]
  simp only [Bu,sb,nu]
  exact tN l
def tP(places:List Int)(c:aY)(q:bD)(ts:List Int)(r:List Int×Int): ∀(l:List Int) (no:Int),(no=0\/no≠0)->eQ places c q ts r l no=(if(if no=0 then(if l.any (qa c)then(4:Int)else 0)else no)=0 then(mt c ts).bind fun w=>ec places c q ts r 0 w else ec places c q ts r (if no=0 then(if l.any (qa c)then(4:Int)else 0)else no) [])
 |[],no,_=>by
  unfold eQ
  by_cases h:no=0
  ·subst h;simp
  ·simp [h]
 |x::l,no,_=>by
  unfold eQ
  by_cases h:no=0
  ·subst h
   cases A:qa c x with
   |true=>
    rw [fE (by simpa [qa] using A),tP places c q ts r l 4 (.inr (by decide))]
    simp [A]
   |false=>
    rw [cS (by
     have hx' :=A
     simp only [qa]at hx'
     rw [hx'];simp),tP places c q ts r l 0 (.inl rfl)]
    simp [A]
  ·rw [cS (by simp [h]),tP places c q ts r l no (.inr h)]
   simp [h]
def BG(places:List Int)(c:aY)(q:bD)(ts:List Int)(pr:List Int×Int)(no:Int)(want:List Int): ∀(l pre:List Int),pr.1=pre++l->eb places c q ts pr no want l pre.length=eb places c q ts pr no want [] (pre.length+l.length)
 |[],pre,_=>rfl
 |x::l,pre,h=>by
  conv=>lhs;unfold eb
  rw [h,nf,eC]
  simp only [Bu,sb,nu]
  have:=BG places c q ts pr no want l (pre++[x]) (by simp [h])
  rw [show(pre++[x]).length=pre.length+1 by simp]at this
  rw [this]
  congr 1
  simp only [Aa];omega
def xi{a b:Nat}(h:a+b<=1000000):IntKind.i64.wrap ((a:Int)+(b:Int))=((a+b:Nat):Int):=by
 rw [Mz (by omega) (by omega)];omega
def u3(places:List Int){c:aY}(hs:vM c)(hc:Ed c)(q:bD)(pr:List Int×Int)(no:Int)(want:List Int)(n:Nat)(hno:no=if uL c then(if(places.take 4).any (qa c)then 4 else 0)else 210)(hw:no=0->want=mZ c (places.take 4))(hw2:no≠0->want=[]):
  eb places c q (places.take 4) pr no want [] n=some true:=by
 unfold eb
 have hl:(places.take 4).length<=1000:=by simp;omega
 rw [show eW places (2:Int)=some (places.take 2)from Fe _ 2 (by omega),eC]
 unfold rb
 rw [yC hs hc hl]
 have hm:((places.length:Int)).tmod 2=1\/((places.length:Int)).tmod 2=0:=by
  have:((places.length:Int)).tmod 2=((places.length%2:Nat):Int):=by
   rw [Int.tmod_eq_emod_of_nonneg (by omega)];omega
  rw [this];omega
 by_cases h0:no=0
 ·have hw' :=hw h0
  have hcb:uL c=true:=by
   cases hcb:uL c with
   |true=>rfl
   |false=>rw [hcb]at hno;simp at hno;omega
  rw [hcb]at hno
  have D:(places.take 4).any (qa c)=false:=by
   cases D:(places.take 4).any (qa c)with
   |false=>rfl
   |true=>rw [D]at hno;simp at hno;omega
  rw [hcb,D]
  subst h0
  rw [hw']
  rcases hm with hm|hm
  ·have e1:(IntKind.i64.wrap (((places.take 2).length:Int)+((0:Nat):Int)))=((places.take 2).length:Int):=by
    have:=xi (a:=(places.take 2).length) (b:=0) (by simp;omega)
    simpa using this
   have e2:((([]:List mI).length:Nat):Int)=((0:Nat):Int):=rfl
   simp only [hm,e2,e1]
   simp [tN]
  ·simp [hm,tN]
 ·have hw' :=hw2 h0
  have hcols:(if uL c then(if(places.take 4).any (qa c)then(([]:List Int),(4:Int))else(mZ c (places.take 4),0))else([],210))=([],no):=by
   rw [hno]at h0 ⊢
   split
   ·split
    ·rfl
    ·rename_i H J;simp [H,J]at h0
   ·rfl
  rw [hcols]
  have e0:IntKind.i64.wrap (0:Int)=0:=by decide
  rcases hm with hm|hm<;>simp [hm,tN,h0,e0]
def ym(x:aY)(places:List Int)(y:bD):mY x places y=some true:=by
 unfold mY
 rw [CY,eC]
 simp only [sI,sb,nu]
 have hs:=Au x
 have hc:=C5 x
 have hl:(places.take 4).length<=1000:=by simp;omega
 rw [G8,eC,LD,eC,show eW places (4:Int)=some (places.take 4)from Fe _ 4 (by omega),eC,yC hs hc hl,eC,xK hs,eC]
 generalize Av x=c at hs hc ⊢
 generalize Nn y=q
 have key: ∀no:Int,no=(if uL c then 0 else 210)->gE places c q (places.take 4) (if uL c then(if(places.take 4).any (qa c)then([],4)else(mZ c (places.take 4),0))else([],210)) no=some true:=by
  intro no hno
  unfold gE
  rw [tP _ _ _ _ _ _ _ (Classical.em _)]
  cases hcb:uL c with
  |false=>
   rw [hcb]at hno
   have:no=210:=by simpa using hno
   subst this
   simp only [sb,nu]
   rw [cS (show¬(210:Int)=0 by decide),cS (show¬(210:Int)=0 by decide)]
   unfold ec
   simp only [Bu,qt,sb,nu]
   exact u3 places hs hc q _ _ _ _ (by rw [hcb];rfl) (fun h=>by cases h) (fun _=>rfl)
  |true=>
   rw [hcb]at hno
   have:no=0:=by simpa using hno
   subst this
   cases D:(places.take 4).any (qa c)with
   |true=>
    simp only [qw]
    rw [cS (by decide)]
    unfold ec
    simp only [Bu,qt,sb,nu]
    exact u3 places hs hc q _ _ _ _ (by rw [hcb,D];rfl) (fun h=>by cases h) (fun _=>rfl)
   |false=>
    have hk:=AF hc (l:=places.take 4) (fun t Y=>by
     have:=List.any_eq_false.1 D t Y
     simpa using this) hl
    simp only [qw,sb,nu]
    rw [hk,eC]
    unfold ec
    simp only [Bu,qt,sb,nu]
    have:=BG places c q (places.take 4) (mZ c (places.take 4),0) 0 (mZ c (places.take 4)) (mZ c (places.take 4)) [] rfl
    rw [show([]:List Int).length=0 from rfl]at this
    rw [this]
    exact u3 places hs hc q _ _ _ _ (by rw [hcb,D];rfl) (fun _=>rfl) (fun h=>absurd rfl h)
 cases hcb:uL c with
 |false=>
  have:=key 210 (by rw [hcb];rfl)
  rw [hcb]at this
  simpa using this
 |true=>
  have:=key 0 (by rw [hcb];rfl)
  rw [hcb]at this
  simpa using this
end Go.Proofs.YthbdkceckjihgaaGreatDoor

