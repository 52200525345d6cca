import Derived.Test.YthbdkceckjihgaaGreatDoorBdQ1
import Derived.KernelRfl
import Derived.Test.YthbdkceckjihgaaGreatDoorBdQ2
import Derived.Test.YthbdkceckjihgaaGreatDoorBdQ3
/- cm of this claim: B1. -/
set_option linter.all false
namespace Go.Proofs.YthbdkceckjihgaaGreatDoor
open Go

def Gz{α:Type}(l:List α)(m:Nat)(hm:m<=100000):((cE l 0 (min (l.length:Int) (m:Int))).bind fun y=>(lX ([]:List α) y).bind fun x=>some x)=some (l.take m):=by
 have e:min (l.length:Int) (m:Int)=((min l.length m:Nat):Int):=by omega
 have h:cE l 0 (min (l.length:Int) (m:Int))=some (l.take m):=by
  unfold cE
  rw [bK ⟨by omega,by omega,by omega⟩,e]
  simp only [Ft,Int.toNat_zero,sq,Fu]
  rw [List.take_eq_take_iff];omega
 rw [h,aX]
 unfold lX
 rw [bK (by simp;omega)]
 simp
def J4(s:cB)(m:Nat)(hm:m<=100000):cE s 0 (min (s.length:Int) (m:Int))=some (s.take m):=by
 have e:min (s.length:Int) (m:Int)=((min s.length m:Nat):Int):=by omega
 unfold cE
 rw [bK ⟨by omega,by omega,by omega⟩,e]
 simp only [Ft,Int.toNat_zero,sq,Fu]
 rw [List.take_eq_take_iff];omega
def ne{α:Type}(pre:List α)(e:α)(tl:List α):fE (pre++e::tl) (pre.length:Int)=some e:=by
 rw [mK];simp
def p4{α:Type}(pre:List α)(e y:α)(tl:List α):(pre++e::tl).set ((pre.length:Nat):Int).toNat y=pre++y::tl:=by
 simp
def Pz(t:bH):bH:={t with Columns:=t.Columns.take 5,Keys:=t.Keys.take 5}
def N9(c:au):au:=⟨(c.Tables.take 5).map Pz⟩
def N7: ∀(tl pre:List bH),kx tl pre.length ⟨pre++tl⟩=some ⟨pre++tl.map Pz⟩:=by
 intro tl
 induction tl with
 |nil=>intro pre;simp [kx]
 |cons e tl ih=>
  intro pre
  have A:=Gz e.Columns 5 (by omega)
  have V:=Gz e.Keys 5 (by omega)
  unfold kx
  rw [ne,aX,aX]
  rw [show jW e.Columns (5:Int)=some (e.Columns.take 5)from A,aX,show pc e.Keys (5:Int)=some (e.Keys.take 5)from V,aX]
  rw [aX,p4,ne,aX,aX,p4]
  have h3:=ih (pre++[Pz e])
  simp only [mY,wb,gQ,Fv]at h3
  rw [sn]
  exact h3
def N8(c:au):rq c=some (N9 c):=by
 unfold rq
 rw [show mU c.Tables (5:Int)=some (c.Tables.take 5)from Gz c.Tables 5 (by omega),aX]
 exact N7 (c.Tables.take 5) []
def Ip(n:cw):cw:={n with Value:={n.Value with S:=n.Value.S.take 60},Table:=n.Table.take 40,Name:=n.Name.take 40}
def qz(t:cy):cy:=⟨(t.Nodes.take 80).map Ip⟩
def Oc: ∀(tl pre:List cw),ky tl pre.length ⟨pre++tl⟩=some ⟨pre++tl.map Ip⟩:=by
 intro tl
 induction tl with
 |nil=>intro pre;simp [ky]
 |cons e tl ih=>
  intro pre
  unfold ky
  rw [ne,aX]
  rw [show cE e.Value.S 0 (min (e.Value.S.length:Int) (60:Int))=some (e.Value.S.take 60)from J4 _ 60 (by omega),aX,show cE e.Table 0 (min (e.Table.length:Int) (40:Int))=some (e.Table.take 40)from J4 _ 40 (by omega),aX,
   show cE e.Name 0 (min (e.Name.length:Int) (40:Int))=some (e.Name.take 40)from J4 _ 40 (by omega),aX]
  rw [aX,p4,ne,aX,aX,p4,ne,aX,aX,p4]
  have h3:=ih (pre++[Ip e])
  simp only [mY,wb,gQ,Fv]at h3
  rw [sn]
  exact h3
def yh(t:cy):mj t=some (qz t):=by
 unfold mj
 rw [show nu t.Nodes (80:Int)=some (t.Nodes.take 80)from Gz t.Nodes 80 (by omega),aX]
 exact Oc (t.Nodes.take 80) []
def RY(x:eG):eG:={x with Tree:=qz x.Tree}
def PA(x:lT):lT:={x with On:=qz x.On}
def Dj(s:ay):ay:={s with Items:=(s.Items.take 7).map RY,Joins:=(s.Joins.take 3).map PA,Where:=qz s.Where,Having:=qz s.Having,Group:=s.Group.take 4}
def TN(q:bD):bD:={q with Selects:=(q.Selects.take 4).map Dj,Keys:=q.Keys.take 4}
def TJ(nx:Nat->bD->Option bD)(pq tq:List ay)(e0:ay)(q1:bD)(hq:q1.Selects=pq++e0::tq): ∀(tl pre:List lT) (s:ay),s.Joins=pre++tl->mI nx pq.length q1 tl pre.length s=nx (pq.length+1) {q1 with Selects:=pq++{s with Joins:=pre++tl.map PA,Where:=qz s.Where,Having:=qz s.Having}::tq}:=by
 intro tl
 induction tl with
 |nil=>
  intro pre s hs
  unfold mI
  rw [yh,aX,yh,aX,aX,hq,p4,hs]
  rfl
 |cons e tl ih=>
  intro pre s hs
  unfold mI
  rw [hs,ne,aX,aX,yh,aX,aX,p4]
  have h3:=ih (pre++[PA e]) {s with Joins:=pre++PA e::tl} (by simp)
  simp only [mY,wb,gQ,Fv]at h3
  rw [sn]
  exact h3
def TK(nx:Nat->bD->Option bD)(pq tq:List ay)(e0:ay)(q1:bD)(hq:q1.Selects=pq++e0::tq): ∀(tl pre:List eG) (s:ay),s.Items=pre++tl->mJ nx pq.length q1 tl pre.length s=nx (pq.length+1) {q1 with Selects:=pq++{s with Items:=pre++tl.map RY,Joins:=s.Joins.map PA,Where:=qz s.Where,Having:=qz s.Having}::tq}:=by
 intro tl
 induction tl with
 |nil=>
  intro pre s hs
  unfold mJ
  have:=TJ nx pq tq e0 q1 hq s.Joins [] s rfl
  rw [show([]:List lT).length=0 from rfl]at this
  rw [this]
  simp [hs]
 |cons e tl ih=>
  intro pre s hs
  unfold mJ
  rw [hs,ne,aX,aX,yh,aX,aX,p4]
  have h3:=ih (pre++[RY e]) {s with Items:=pre++RY e::tl} (by simp)
  simp only [mY,wb,gQ,Fv]at h3
  rw [sn]
  exact h3
def TL: ∀(tl pre:List ay) (q:bD),q.Selects=pre++tl->jj tl pre.length q=some {q with Selects:=pre++tl.map Dj}:=by
 intro tl
 induction tl with
 |nil=>intro pre q hq;unfold jj;simp [<-hq]
 |cons e tl ih=>
  intro pre q hq
  unfold jj
  rw [hq,ne,aX,aX]
  rw [show nw e.Items (7:Int)=some (e.Items.take 7)from Gz _ 7 (by omega),aX,show nv e.Joins (3:Int)=some (e.Joins.take 3)from Gz _ 3 (by omega),aX,show kW e.Group (4:Int)=some (e.Group.take 4)from Gz _ 4 (by omega),aX]
  have V:=TK (jj tl) pre tl e q hq (e.Items.take 7) [] {e with Group:=e.Group.take 4,Items:=e.Items.take 7,Joins:=e.Joins.take 3} rfl
  rw [show([]:List eG).length=0 from rfl]at V
  rw [V]
  have h3:=ih (pre++[Dj e]) {q with Selects:=pre++Dj e::tl} (by simp)
  simp only [mY,wb,gQ,Fv]at h3
  rw [sn]
  exact h3
def TM(q:bD):vK q=some (TN q):=by
 unfold vK
 rw [show ml q.Selects (4:Int)=some (q.Selects.take 4)from Gz _ 4 (by omega),aX,show lP q.Keys (4:Int)=some (q.Keys.take 4)from Gz _ 4 (by omega),aX]
 have:=TL (q.Selects.take 4) [] {q with Keys:=q.Keys.take 4,Selects:=q.Selects.take 4} rfl
 exact this
def I1:uS=some true:=by kernel_rfl
def yg(c:au):Am (N9 c):=by
 intro t M
 obtain⟨u,_,rfl⟩:=xI.1 M
 have:(Pz u).Keys.length<=5:=by simp [Pz];omega
 omega
end Go.Proofs.YthbdkceckjihgaaGreatDoor


/- cm of this claim: B2. -/
set_option linter.all false
namespace Go.Proofs.YthbdkceckjihgaaGreatDoor
open Go

def H1{f:Int->Option Bool}{p:Int->Bool}(hf: ∀x,f x=some (p x)): ∀(l:List Int) (i:Nat),∃j:Int,eQ f l i=some j/\decide (0<=j)=l.any p
 |[],i=>⟨-1,rfl,rfl⟩
 |x::l,i=>by
  unfold eQ
  rw [hf,aX,wm]
  cases D:p x with
  |true=>exact⟨i,rfl,by simp⟩
  |false=>
   obtain⟨j,A,V⟩:=H1 hf l (i+1)
   exact⟨j,A,by rw [V];rfl⟩
def Np{f:Int->Option Bool}{p:Int->Bool}(hf: ∀x,f x=some (p x))(l:List Int):gm l f=some (l.any p):=by
 obtain⟨j,A,V⟩:=H1 hf l 0
 unfold gm j6
 rw [A,aX,V]
def EW{f:cw->Option Bool}{p:cw->Bool}(hf: ∀x,f x=some (p x)): ∀(l:List cw) (i:Nat),∃j:Int,db f l i=some j/\decide (0<=j)=l.any p
 |[],i=>⟨-1,rfl,rfl⟩
 |x::l,i=>by
  unfold db
  rw [hf,aX,wm]
  cases D:p x with
  |true=>exact⟨i,rfl,by simp⟩
  |false=>
   obtain⟨j,A,V⟩:=EW hf l (i+1)
   exact⟨j,A,by rw [V];rfl⟩
def J5{f:cw->Option Bool}{p:cw->Bool}(hf: ∀x,f x=some (p x))(l:List cw):dY l f=some (l.any p):=by
 obtain⟨j,A,V⟩:=EW hf l 0
 unfold dY fY
 rw [A,aX,V]
def EX{f:eG->Option Bool}{p:eG->Bool}(hf: ∀x,f x=some (p x)): ∀(l:List eG) (i:Nat),∃j:Int,dc f l i=some j/\decide (0<=j)=l.any p
 |[],i=>⟨-1,rfl,rfl⟩
 |x::l,i=>by
  unfold dc
  rw [hf,aX,wm]
  cases D:p x with
  |true=>exact⟨i,rfl,by simp⟩
  |false=>
   obtain⟨j,A,V⟩:=EX hf l (i+1)
   exact⟨j,A,by rw [V];rfl⟩
def J6{f:eG->Option Bool}{p:eG->Bool}(hf: ∀x,f x=some (p x))(l:List eG):dZ l f=some (l.any p):=by
 obtain⟨j,A,V⟩:=EX hf l 0
 unfold dZ fZ
 rw [A,aX,V]
def sO(tag:Int):Bool:=tag==3||(decide (8<=tag)&&decide (tag<=11))
def mS:List (Int×Int):=[(3,1),(8,2),(9,3),(10,4),(11,5)]
def wF:nh=some mS:=by kernel_rfl
def PL(tag:Int):decide ((0:Int)<((fD mS tag).getD (0:Int)))=sO tag:=by
 unfold mS sO
 simp only [fD]
 by_cases h3:tag=3
 ·subst h3;decide
 by_cases h8:tag=8
 ·subst h8;decide
 by_cases h9:tag=9
 ·subst h9;decide
 by_cases h10:tag=10
 ·subst h10;decide
 by_cases h11:tag=11
 ·subst h11;decide
 have e1: ¬(3:Int)=tag:=fun h=>h3 h.symm
 have e2: ¬(8:Int)=tag:=fun h=>h8 h.symm
 have e3: ¬(9:Int)=tag:=fun h=>h9 h.symm
 have e4: ¬(10:Int)=tag:=fun h=>h10 h.symm
 have e5: ¬(11:Int)=tag:=fun h=>h11 h.symm
 have e6:(tag==3)=false:=by simpa using h3
 have e7:(decide (8<=tag)&&decide (tag<=11))=false:=by simp;omega
 simp [e1,e2,e3,e4,e5,e6,e7]
def MW(t:cy):Bool:=t.Nodes.any fun n=>sO n.Tag
def lu(s:ay):Bool:=(decide (0<s.Group.length)||decide (0<s.Having.Nodes.length))||s.Items.any fun x=>MW x.Tree
def Ks(s:ay):qf s=some (lu s):=by
 unfold qf lu
 rw [wF,aX]
 have A: ∀n,kJ mS n=some (sO n.Tag):=fun n=>by unfold kJ;rw [PL]
 have V: ∀x,mw mS x=some (MW x.Tree):=fun x=>by unfold mw MW;rw [J5 A,aX]
 rw [J6 V,aX]
 have e1:decide ((0:Int)<(s.Group.length:Int))=decide (0<s.Group.length):=by rw [zg];omega
 have e2:decide ((0:Int)<(s.Having.Nodes.length:Int))=decide (0<s.Having.Nodes.length):=by rw [zg];omega
 rw [e1,e2]
 cases (decide (0<s.Group.length)||decide (0<s.Having.Nodes.length))<;>rfl
def Cw: ∀(l:List cw),p7 l=some (l.any fun n=>sO n.Tag)
 |[]=>rfl
 |x::l=>by
  unfold p7
  rw [show jO x.Tag=some (sO x.Tag)from rfl,aX,wm]
  cases sO x.Tag with
  |true=>rfl
  |false=>exact Cw l
def qB: ∀(l:List eG) (b:Bool),ku l b=some (b||l.any fun x=>MW x.Tree)
 |[],b=>by simp [ku]
 |x::l,b=>by
  unfold ku
  rw [show EC x.Tree=some (MW x.Tree)from Cw x.Tree.Nodes,wm]
  cases b with
  |true=>simp only [pi,j0,iB,aX];rw [qB l true];rfl
  |false=>simp only [xJ,gO,aX];rw [qB l (MW x.Tree)];simp
def Cx(s:ay):r0 s=some (lu s):=by
 unfold r0 lu
 have e1:decide ((0:Int)<(s.Group.length:Int))=decide (0<s.Group.length):=by rw [zg];omega
 have e2:decide ((0:Int)<(s.Having.Nodes.length:Int))=decide (0<s.Having.Nodes.length):=by rw [zg];omega
 rw [qB,e1,e2]
def vl(c:au)(t:Int):Bool:=decide (t<0)||decide ((c.Tables.length:Int)<=t)
def iw(c:au)(t:Int):List bp:=((c.Tables[t.toNat]?).map fun x=>x.Columns).getD []
def eh(c:au)(ts:List Int):List Int:=ts.flatMap fun t=>(iw c t).map fun x=>x.Kind
def NF(c:au):Prop:= ∀t∈c.Tables,t.Columns.length<=1000
def tK{c:au}(h:NF c)(t:Int):(iw c t).length<=1000:=by
 unfold iw
 cases D:c.Tables[t.toNat]? with
 |none=>simp
 |some x=>exact h x (rb D)
def BD{c:au}{t:Int}(h:vl c t=false): ∃x,fE c.Tables t=some x/\x.Columns=iw c t/\x∈c.Tables:=by
 simp only [vl,GW,qt]at h
 have hlt:t.toNat<c.Tables.length:=by omega
 refine⟨c.Tables[t.toNat],?_,?_,List.getElem_mem ..⟩
 ·unfold fE;rw [bK (by omega),kQ hlt]
 ·unfold iw;rw [kQ hlt];rfl
def HU(nx:List Int->Option (List Int)): ∀(l:List bp) (out:List Int),out.length+l.length<=68719476736->jp nx l out=nx (out++l.map fun x=>x.Kind)
 |[],out,_=>by simp [jp]
 |x::l,out,h=>by
  simp only [gq]at h
  unfold jp lX
  rw [bK (by simp;omega),aX,HU nx l _ (by simp;omega)]
  simp
def HV{c:au}(hc:NF c): ∀(l:List Int) (out:List Int),(∀t∈l,vl c t=false)->out.length+l.length*1000<=68719476736->gu c l out=some (out++eh c l)
 |[],out,_,_=>by simp [gu,eh]
 |t::l,out,h,hl=>by
  simp only [gq]at hl
  obtain⟨x,A,V,_⟩:=BD (h t (ln ..))
  have h3:=tK hc t
  unfold gu
  rw [A,aX,HU _ _ _ (by rw [V];omega),HV hc l _ (fun t M=>h t (lH _ M)) (by rw [V];simp;omega),V]
  simp [eh]
def CO{c:au}(hc:NF c){l:List Int}(h: ∀t∈l,vl c t=false)(hl:l.length<=1000):qS c l=some (eh c l):=by
 unfold qS
 rw [HV hc l [] h (by simp;omega)];rfl
def Cv(c:au): ∀(l:List Int) (out:List Int),mf c l out=gu c l out:=by
 have V: ∀(nx:List Int->Option (List Int)) (l:List bp) (out:List Int),n4 nx l out=jp nx l out:=by
  intro nx l
  induction l with
  |nil=>intro out;rfl
  |cons x l ih=>intro out;unfold n4 jp;exact congrArg _ (funext fun y=>ih y)
 intro l
 induction l with
 |nil=>intro out;rfl
 |cons t l ih=>
  intro out
  unfold mf gu
  refine congrArg _ (funext fun e=>?_)
  rw [V,show mf c l=gu c l from funext ih]
def FW{c:au}(hc:NF c){l:List Int}(h: ∀t∈l,vl c t=false)(hl:l.length<=1000):jn c l=some (eh c l):=by
 have:=CO hc h hl
 unfold qS at this
 unfold jn
 rw [Cv,this]
def DI{c:au}(hs:Am c)(hc:NF c){l:List Int}(hl:l.length<=1000):li c l=some (if Ea c then(if l.any (vl c)then([],4)else(eh c l,0))else([],210)):=by
 unfold li
 rw [sN hs,aX,Np (f:=oo c) (p:=vl c) (fun x=>rfl),aX]
 cases hcb:Ea c with
 |false=>rfl
 |true=>
  cases H:l.any (vl c)with
  |true=>rfl
  |false=>
   rw [CO hc (fun t M=>by
    have:=List.any_eq_false.1 H t M
    simpa using this) hl]
   rfl
end Go.Proofs.YthbdkceckjihgaaGreatDoor


/- cm of this claim: B3. -/
set_option linter.all false
namespace Go.Proofs.YthbdkceckjihgaaGreatDoor
open Go

def Ox(tag:Int):Option Nat:=if 1<=tag/\tag<=3 then some 0 else if 4<=tag/\tag<=11 then some 1 else if 12<=tag/\tag<=23 then some 2 else none
def ME(tag:Int):Int:=match Ox tag with
 |some k=>(k:Int)
 |none=> -1
def GC(tag:Int):vU tag=some (ME tag):=by
 unfold vU ME Ox
 by_cases h0:tag<1\/23<tag
 ·rw [bK (show(decide (tag<1)||decide (23<tag))=true by simpa using h0),bG (show¬(1<=tag/\tag<=3) by omega),bG (show¬(4<=tag/\tag<=11) by omega),bG (show¬(12<=tag/\tag<=23) by omega)]
 rw [bG (show¬(decide (tag<1)||decide (23<tag))=true by simpa using h0)]
 by_cases A:tag<=3
 ·rw [bK (show decide (tag<=3)=true by simpa using A),bK (show 1<=tag/\tag<=3 by omega)];rfl
 rw [bG (show¬decide (tag<=3)=true by simpa using A),bG (show¬(1<=tag/\tag<=3) by omega)]
 by_cases V:tag<=11
 ·rw [bK (show decide (tag<=11)=true by simpa using V),bK (show 4<=tag/\tag<=11 by omega)];rfl
 rw [bG (show¬decide (tag<=11)=true by simpa using V),bG (show¬(4<=tag/\tag<=11) by omega),bK (show 12<=tag/\tag<=23 by omega)];rfl
def QU(s:cB){i:Nat}(hi:i<s.length):CS s (i:Int)=some ((s[i]).toNat:Int):=by
 unfold CS
 rw [mK,kQ hi];rfl
def sf(s:cB):Bool:=s==[]||lO s
def qg(s:cB):oV s=some (sf s):=by
 unfold oV sf
 rw [jo]
 cases (s==([]:cB))<;>rfl
def vw(s:dj):Bool:=lO s.Table&&sf s.As
def wE(s:dj):qT s=some (vw s):=by
 unfold qT vw
 rw [jo,qg]
 cases lO s.Table<;>rfl
def UG(b:UInt8):Bool:=decide (32<=b.toNat)&&decide (b.toNat<=126)
def S8(s:cB){i:Nat}(hi:i<s.length){β:Type}(x y:Option β):(((CS s (i:Int)).bind fun b=>(if(!(decide (b<(32:Int))))then((CS s (i:Int)).bind fun b1=>some (decide ((126:Int)<b1)))else some true).bind fun t=>if t then x else y))=if UG s[i]then y else x:=by
 rw [QU s hi]
 simp only [aX]
 unfold UG
 by_cases A:(s[i]).toNat<32
 ·have d1:decide (((s[i]).toNat:Int)<32)=true:=by rw [il];omega
  have d2:decide (32<=(s[i]).toNat)=false:=by rw [qt];omega
  rw [d1,d2];rfl
 ·have d1:decide (((s[i]).toNat:Int)<32)=false:=by rw [qt];omega
  have d2:decide (32<=(s[i]).toNat)=true:=by rw [il];omega
  rw [d1,d2]
  by_cases h3:(s[i]).toNat<=126
  ·have d3:decide ((126:Int)<((s[i]).toNat:Int))=false:=by rw [qt];omega
   have d4:decide ((s[i]).toNat<=126)=true:=by rw [il];omega
   rw [d3,d4];rfl
  ·have d3:decide ((126:Int)<((s[i]).toNat:Int))=true:=by rw [il];omega
   have d4:decide ((s[i]).toNat<=126)=false:=by rw [qt];omega
   rw [d3,d4];rfl
def IW(s:cB)(hs:s.length<=100000): ∀(n i:Nat),s.length<i+n->i<=s.length->mz s n (i:Int)=some ((s.drop i).all UG):=by
 intro n
 induction n with
 |zero=>intro i h V;omega
 |succ n ih=>
  intro i h V
  unfold mz
  by_cases hi:i<s.length
  ·have hw:IntKind.i64.wrap ((i:Int)+1)=((i+1:Nat):Int):=by rw [BU];omega
   rw [bK (by rw [il];omega),S8 s hi,wN hi,uj,hw,ih (i+1) (by omega) (by omega)]
   cases UG s[i]<;>rfl
  ·rw [bG (by rw [il];omega),su (by omega)];rfl
def FY(v:bZ):Bool:=pP v&&decide (0<=v.N)
def vj(n:cw):Bool:=
 if n.Tag=1 then(n.Table==[]&&n.Name==[])&&(FY n.Value&&n.Value.S.all UG)
 else if n.Tag=2 then decide (n.Value=(⟨0,0,0,[]⟩:bZ))&&(lO n.Name&&sf n.Table)
 else decide (n.Value=(⟨0,0,0,[]⟩:bZ))&&(n.Table==[]&&n.Name==[])
def Fl(n:cw):Prop:=n.Value.S.length<=100000
def Eb{n:cw}(hs:Fl n):tN n=some (vj n):=by
 unfold tN vj
 by_cases A:n.Tag=1
 ·rw [bK (by simpa using A),bK A,uC]
  have hw:=IW n.Value.S hs nA 0 (by unfold nA Fl at*;omega) (jM _)
  rw [show vm n.Value.S=some (n.Value.S.all UG)from hw]
  unfold FY
  cases (n.Table==([]:cB))<;>cases (n.Name==([]:cB))<;>cases pP n.Value<;>cases decide (0<=n.Value.N)<;>rfl
 ·rw [bG (by simpa using A),bG A]
  by_cases V:n.Tag=2
  ·rw [bK (by simpa using V),bK V,jo,qg]
   cases decide (n.Value=(⟨0,0,0,[]⟩:bZ))<;>cases lO n.Name<;>rfl
  ·rw [bG (by simpa using V),bG V]
   cases decide (n.Value=(⟨0,0,0,[]⟩:bZ))<;>cases (n.Table==([]:cB))<;>cases (n.Name==([]:cB))<;>rfl
inductive Bt where
 |lf (n:cw)
 |un (n:cw) (a:Bt)
 |bi (n:cw) (a b:Bt)
 deriving Inhabited
def Bt.size:Bt->Nat
 | .lf _=>1
 | .un _ a=>a.size+1
 | .bi _ a b=>a.size+b.size+1
def putA(n:cw)(l r:Int):cw:={n with L:=l,R:=r}
def Bt.flat:Bt->Nat->List cw
 | .lf n,_=>[putA n (-1) (-1)]
 | .un n a,s=>a.flat s++[putA n ((s+a.size:Nat)-1) (-1)]
 | .bi n a b,s=>a.flat s++b.flat (s+a.size)++[putA n ((s+a.size:Nat)-1) ((s+a.size+b.size:Nat)-1)]
def WW(k:Nat)(n:cw):Prop:=Ox n.Tag=some k/\vj n=true/\n.L= -1/\n.R= -1
def Bt.wf:Bt->Prop
 | .lf n=>WW 0 n
 | .un n a=>WW 1 n/\a.wf
 | .bi n a b=>WW 2 n/\a.wf/\b.wf
def Bt.depth:Bt->Nat
 | .lf _=>1
 | .un _ a=>a.depth+1
 | .bi _ a b=>max a.depth b.depth+1
def Bt.size_pos(t:Bt):0<t.size:=by cases t<;>simp [Bt.size]
def Bt.flat_len(t:Bt): ∀s,(t.flat s).length=t.size:=by
 induction t with
 |lf n=>intro s;rfl
 |un n a ih=>intro s;simp [Bt.flat,Bt.size,ih]
 |bi n a b iha ihb=>intro s;simp [Bt.flat,Bt.size,iha,ihb];omega
def ce:List Bt->Nat
 |[]=>0
 |t::st=>ce st+t.size
def th:List Bt->List cw
 |[]=>[]
 |t::st=>th st++t.flat (ce st)
def Ch: ∀st:List Bt,st.length<=ce st
 |[]=>eX _
 |t::st=>by have:=Ch st;have:=t.size_pos;simp [ce];omega
def Hy(st:List Bt)(n:cw):Option (List Bt):=
 match Ox n.Tag,st with
 |some 0,st=>if vj n&&n.L== -1&&n.R== -1 then some (.lf (putA n (-1) (-1))::st)else none
 |some 1,a::st=>if vj n&&n.L==((ce st+a.size:Nat):Int)-1&&n.R== -1 then some (.un (putA n (-1) (-1)) a::st)else none
 |some 2,b::a::st=>if vj n&&n.L==((ce st+a.size:Nat):Int)-1&&n.R==((ce st+a.size+b.size:Nat):Int)-1 then some (.bi (putA n (-1) (-1)) a b::st)else none
 |_,_=>none
def sb:List cw->List Bt->Option (List Bt)
 |[],st=>some st
 |n::ns,st=>(Hy st n).bind (sb ns)
def Qn(st:List Bt):Prop:= ∀t∈st,t.wf
def FX{n:cw}{l r:Int}(h:n.L=l)(V:n.R=r):putA (putA n (-1) (-1)) l r=n:=by subst h V;rfl
def Dn{n:cw}{l r:Int}:vj (putA n l r)=vj n:=rfl
def Jo{st st' :List Bt}{n:cw}(h:Hy st n=some st')(hw:Qn st):th st' =th st++[n]/\ce st' =ce st+1/\Qn st' :=by
 unfold Hy at h
 split at h
 ·rename_i k st0 hk
  split at h
  ·rename_i hc
   simp only [gM,sv]at hc
   obtain⟨⟨A,V⟩,h3⟩:=hc
   cases h
   refine⟨?_,rfl,fun t M=>?_⟩
   ·simp only [th,Bt.flat]
    rw [FX V h3]
   ·rcases lK.1 M with rfl|M
    ·exact⟨hk,A,rfl,rfl⟩
    ·exact hw t M
  ·cases h
 ·rename_i k a st0 hk
  split at h
  ·rename_i hc
   simp only [gM,sv]at hc
   obtain⟨⟨A,V⟩,h3⟩:=hc
   cases h
   refine⟨?_,by simp [ce,Bt.size];omega,fun t M=>?_⟩
   ·simp only [th,Bt.flat]
    rw [FX V h3,gQ]
   ·rcases lK.1 M with rfl|M
    ·exact⟨⟨hk,A,rfl,rfl⟩,hw a (ln ..)⟩
    ·exact hw t (lH _ M)
  ·cases h
 ·rename_i k b a st0 hk
  split at h
  ·rename_i hc
   simp only [gM,sv]at hc
   obtain⟨⟨A,V⟩,h3⟩:=hc
   cases h
   refine⟨?_,by simp [ce,Bt.size];omega,fun t M=>?_⟩
   ·simp only [th,Bt.flat,ce]
    rw [FX V h3]
    simp only [gQ]
   ·rcases lK.1 M with rfl|M
    ·exact⟨⟨hk,A,rfl,rfl⟩,hw a (lH _ (ln ..)),hw b (ln ..)⟩
    ·exact hw t (lH _ (lH _ M))
  ·cases h
 ·cases h
def AK: ∀{ns:List cw} {st st' :List Bt},sb ns st=some st' ->Qn st->th st' =th st++ns/\Qn st'
 |[],st,st',h,hw=>by cases h;simp [hw]
 |n::ns,st,st',h,hw=>by
  unfold sb at h
  cases hp:Hy st n with
  |none=>rw [hp]at h;cases h
  |some st1=>
   rw [hp]at h
   obtain⟨A,_,h3⟩:=Jo hp hw
   obtain⟨h4,h5⟩:=AK (ns:=ns) h h3
   exact⟨by rw [h4,A];simp,h5⟩
def OH:List Bt->Bool
 |[t]=>decide (t.size<=300)&&decide (t.depth<=20)
 |_=>false
def Ep(ns:List cw):Option Bt:=match sb ns []with
 |some [t]=>if t.size<=300/\t.depth<=20 then some t else none
 |_=>none
def Cc{ns:List cw}{t:Bt}(h:Ep ns=some t):t.wf/\ns=t.flat 0/\t.size<=300/\t.depth<=20:=by
 unfold Ep at h
 split at h
 ·rename_i t0 hp
  split at h
  ·rename_i hl
   cases h
   obtain⟨A,V⟩:=AK hp (fun t M=>by cases M)
   simp only [th,ce,nj]at A
   exact⟨V t (ln ..),A.symm,hl⟩
  ·cases h
 ·cases h
end Go.Proofs.YthbdkceckjihgaaGreatDoor


/- cm of this claim: B4. -/
set_option linter.all false
namespace Go.Proofs.YthbdkceckjihgaaGreatDoor
open Go

def Kf:Bt->Nat->List jI
 | .lf _,s=>[⟨(s:Int),1⟩]
 | .un _ a,s=>Kf a s++[⟨(s:Int),((a.depth+1:Nat):Int)⟩]
 | .bi _ a b,s=>Kf a s++Kf b (s+a.size)++[⟨(s:Int),((max a.depth b.depth+1:Nat):Int)⟩]
def yX:List Bt->List jI
 |[]=>[]
 |t::st=>yX st++Kf t (ce st)
def kT:List Bt->List Int
 |[]=>[]
 |t::st=>kT st++[((ce st+t.size:Nat):Int)-1]
def qe(t:Bt): ∀s,(Kf t s).length=t.size:=by
 induction t with
 |lf n=>intro s;rfl
 |un n a ih=>intro s;simp [Kf,Bt.size,ih]
 |bi n a b iha ihb=>intro s;simp [Kf,Bt.size,iha,ihb];omega
def py: ∀st:List Bt,(yX st).length=ce st
 |[]=>rfl
 |t::st=>by simp [yX,ce,py st,qe]
def cZ: ∀st:List Bt,(kT st).length=st.length
 |[]=>rfl
 |t::st=>by simp [kT,cZ st]
def Bt.depth_size(t:Bt):t.depth<=t.size:=by
 induction t with
 |lf n=>exact eX _
 |un n a ih=>simp [Bt.size,Bt.depth,ih]
 |bi n a b iha ihb=>simp [Bt.size,Bt.depth];omega
def PH(t:Bt)(s:Nat):(Kf t s)[t.size-1]? =some ⟨(s:Int),(t.depth:Int)⟩:=by
 cases t with
 |lf n=>rfl
 |un n a=>simp only [Kf,Bt.size];rw [uw (by rw [qe];omega),qe];simp [Bt.depth]
 |bi n a b=>simp only [Kf,Bt.size];rw [uw (by simp [qe]),mY,qe,qe];simp [Bt.depth]
def vT(t:Bt)(st:List Bt)(rest:List jI):(yX st++Kf t (ce st)++rest)[ce st+t.size-1]? =some ⟨(ce st:Int),(t.depth:Int)⟩:=by
 have:=t.size_pos
 rw [xP (by rw [mY,py,qe];omega),uw (by rw [py];omega),py,show ce st+t.size-1-ce st=t.size-1 from by omega]
 exact PH t _
def Uy{β:Type}(a b l r:Int)(x y:Option β):((fE [a,b] (0:Int)).bind fun e2=>(if(!(l !=e2))then((fE [a,b] (1:Int)).bind fun e3=>some (r !=e3))else some true).bind fun t3=>if t3 then x else y)=if(l==a&&r==b)then y else x:=by
 have h0:fE [a,b] (0:Int)=some a:=rfl
 have A:fE [a,b] (1:Int)=some b:=rfl
 rw [h0,A]
 simp only [aX]
 by_cases hl:l=a
 ·subst hl
  simp only [Ej,xJ,gO,aX,Ay,ut]
  by_cases hr:r=b
  ·subst hr;simp
  ·have:(r==b)=false:=by simpa using hr
   simp [bne,this]
 ·have:(l==a)=false:=by simpa using hl
  simp [bne,this]
def H8: ∀(ns:List cw) (st:List Bt),(∀n∈ns,Fl n)->ce st+ns.length<=100000->lk ns (ce st) (yX st) (kT st)=some (match sb ns st with
   |some st' =>(yX st',OH st')
   |none=>([],false)):=by
 intro ns
 induction ns with
 |nil=>
  intro st _ _
  simp only [lk,sb,cZ,py]
  match st with
  |[]=>rfl
  |[t]=>
   have hp:=t.size_pos
   have hl:=vT t [] []
   simp only [yX,ce,xL,nj,ph]at hl ⊢
   have e1:(((([t]:List Bt).length:Nat):Int)==(1:Int))=true:=rfl
   rw [e1]
   simp only [OH,ut]
   by_cases hs:t.size<=300
   ·rw [bK (by rw [il];omega),jk (t.size-1) (by rw [dS (by omega) (by omega)];omega),hl]
    simp only [aX]
    rw [xK hs,ut]
    congr 2
    rw [zg];omega
   ·rw [bG (by rw [il];omega),A3 hs];rfl
  |a::b::st=>
   have e1:((((a::b::st).length:Nat):Int)==(1:Int))=false:=by simp;omega
   rw [e1];rfl
 |cons n ns ih=>
  intro st hS hs
  have hSn:=hS n (ln ..)
  have ih:=fun st=>ih st (fun m hm=>hS m (lH _ hm))
  simp only [gq]at hs
  have hll:=Ch st
  unfold lk
  rw [GC]
  simp only [aX,cZ,Eb hSn]
  unfold sb
  unfold Hy
  -- the parts
  cases hk:Ox n.Tag with
  |none=>
   have e:ME n.Tag= -1:=by unfold ME;rw [hk]
   simp [e]
  |some k=>
   have e:ME n.Tag=(k:Int):=by unfold ME;rw [hk]
   have hk3:k=0\/k=1\/k=2:=by
    unfold Ox at hk
    repeat' split at hk
    all_goals simp at hk
    all_goals omega
   rw [e]
   rcases hk3 with rfl|rfl|rfl
   ·-- none
    simp only []
    have c1:(decide (((0:Nat):Int)<0)||decide ((st.length:Int)<((0:Nat):Int)))=false:=by simp
    simp only [c1,xJ,gO,aX]
    cases hc:vj n with
    |false=>simp
    |true=>
     simp only [pi,j0,iB,ut]
     rw [iE st.length st.length (by rw [dS (by omega) (by omega)];omega) rfl (eX _) (by rw [cZ];exact eX _)]
     have hd:(List.take st.length (kT st)).drop st.length=[]:=su (by simp;omega)
     rw [hd,aX,show rL [(-1:Int),-1] []=[-1,-1]from rfl,Uy]
     cases H:(n.L== -1&&n.R== -1)with
     |false=>simp
     |true=>
      simp only [gO,mO]
      rw [cW (by simp only [gq,pj,py];omega)]
      simp only [aX]
      rw [iE (i:=0) 0 st.length rfl (by rw [cZ,dS (by omega) (by omega)];omega) (jM _) (by rw [cZ];exact eX _)]
      rw [pJ (by rw [cZ];exact eX _),sq]
      simp only [aX]
      rw [cW (by simp only [gq,pj,cZ];omega)]
      simp only [aX]
      have V:=ih (.lf (putA n (-1) (-1))::st) (by simp [ce,Bt.size];omega)
      simp only [ce,Bt.size,yX,Kf,kT]at V
      rw [show(((ce st+1:Nat):Int)-1)=(ce st:Int)from by omega]at V
      exact V
   ·-- one
    cases st with
    |nil=>simp
    |cons a st=>
     simp only []
     have c1:(decide (((1:Nat):Int)<0)||decide (((a::st).length:Int)<((1:Nat):Int)))=false:=by simp;omega
     simp only [c1,xJ,gO,aX]
     cases hc:vj n with
     |false=>simp
     |true=>
      simp only [pi,j0,iB,ut]
      simp only [gq]at hll ⊢
      simp only [ce]at hs hll
      have hap:=a.size_pos
      have hdp:=a.depth_size
      rw [iE st.length (st.length+1) (by rw [dS (by omega) (by omega)];omega) (by omega) (by omega) (by rw [cZ];exact eX _)]
      have hd:(List.take (st.length+1) (kT (a::st))).drop st.length=[((ce st+a.size:Nat):Int)-1]:=by
       rw [pJ (by rw [cZ];exact eX _)]
       simp only [kT]
       rw [IR (by rw [cZ];exact eX _),su (by rw [cZ];exact eX _),nj]
      rw [hd,aX,show rL [(-1:Int),-1] [((ce st+a.size:Nat):Int)-1]=[((ce st+a.size:Nat):Int)-1,-1]from rfl,Uy]
      cases H:(n.L==((ce st+a.size:Nat):Int)-1&&n.R== -1)with
      |false=>simp
      |true=>
       simp only [gO,mO]
       rw [jk (ce st+a.size-1) (by omega)]
       have hf:=vT a st []
       rw [xL]at hf
       simp only [yX]
       rw [hf]
       simp only [aX]
       rw [cW (by simp only [gq,pj,mY,py,qe];omega)]
       simp only [aX]
       rw [iE (i:=0) 0 st.length rfl (by rw [cZ,dS (by simp<;>omega) (by simp<;>omega)];simp) (jM _) (by rw [cZ];simp)]
       have M:(List.take st.length (kT (a::st))).drop 0=kT st:=by
        simp only [kT,sq]
        rw [xQ (by rw [cZ];exact eX _),pJ (by rw [cZ];exact eX _)]
       rw [M]
       simp only [aX]
       rw [cW (by simp only [gq,pj,cZ];omega)]
       simp only [aX]
       have V:=ih (.un (putA n (-1) (-1)) a::st) (by simp [ce,Bt.size];omega)
       simp only [ce,Bt.size,yX,Kf,kT]at V
       rw [show(((ce st+(a.size+1):Nat):Int)-1)=((ce st+a.size:Nat):Int)from by omega]at V
       have hm:min ((ce (a::st):Nat):Int) (ce st:Int)=(ce st:Int):=by simp only [ce];omega
       have D:max (1:Int) (IntKind.i64.wrap ((a.depth:Int)+1))=((a.depth+1:Nat):Int):=by rw [dS (by omega) (by omega)];omega
       rw [hm,D]
       simp only [gQ]at V ⊢
       exact V
   ·-- two
    cases st with
    |nil=>simp
    |cons b st=>
     cases st with
     |nil=>simp
     |cons a st=>
      simp only []
      have c1:(decide (((2:Nat):Int)<0)||decide (((b::a::st).length:Int)<((2:Nat):Int)))=false:=by simp;omega
      simp only [c1,xJ,gO,aX]
      cases hc:vj n with
      |false=>simp
      |true=>
       simp only [pi,j0,iB,ut]
       simp only [gq]at hll ⊢
       simp only [ce]at hs hll
       have hap:=a.size_pos
       have hbp:=b.size_pos
       have hda:=a.depth_size
       have hdb:=b.depth_size
       rw [iE st.length (st.length+1+1) (by rw [dS (by omega) (by omega)];omega) (by omega) (by omega) (by rw [cZ];exact eX _)]
       have hd:(List.take (st.length+1+1) (kT (b::a::st))).drop st.length=[((ce st+a.size:Nat):Int)-1,((ce st+a.size+b.size:Nat):Int)-1]:=by
        rw [pJ (by rw [cZ];exact eX _)]
        simp only [kT,ce,gQ]
        rw [IR (by rw [cZ];exact eX _),su (by rw [cZ];exact eX _),nj]
        rfl
       rw [hd,aX,show rL [(-1:Int),-1] [((ce st+a.size:Nat):Int)-1,((ce st+a.size+b.size:Nat):Int)-1]=[((ce st+a.size:Nat):Int)-1,((ce st+a.size+b.size:Nat):Int)-1]from rfl,Uy]
       cases H:(n.L==((ce st+a.size:Nat):Int)-1&&n.R==((ce st+a.size+b.size:Nat):Int)-1)with
       |false=>simp
       |true=>
        simp only [gO,mO]
        simp only [yX,ce]
        rw [jk (ce st+a.size-1) (by omega)]
        rw [vT a st (Kf b (ce st+a.size))]
        simp only [aX]
        rw [jk (ce st+a.size+b.size-1) (by omega)]
        have hf:=vT b (a::st) []
        rw [xL]at hf
        simp only [yX,ce]at hf
        rw [hf]
        simp only [aX]
        rw [cW (by simp only [gq,pj,mY,py,qe];omega)]
        simp only [aX]
        rw [iE (i:=0) 0 st.length rfl (by rw [cZ,dS (by simp;omega) (by simp;omega)];simp;omega) (jM _) (by rw [cZ];simp;omega)]
        have M:(List.take st.length (kT (b::a::st))).drop 0=kT st:=by
         simp only [kT,sq,gQ]
         rw [xQ (by rw [cZ];exact eX _),pJ (by rw [cZ];exact eX _)]
        rw [M]
        simp only [aX]
        rw [cW (by simp only [gq,pj,cZ];omega)]
        simp only [aX]
        have V:=ih (.bi (putA n (-1) (-1)) a b::st) (by simp [ce,Bt.size];omega)
        simp only [ce,Bt.size,yX,Kf,kT]at V
        rw [show(((ce st+(a.size+b.size+1):Nat):Int)-1)=((ce st+a.size+b.size:Nat):Int)from by omega,show ce st+(a.size+b.size+1)=ce st+a.size+b.size+1 from by omega]at V
        have hm:min (min (((ce st+a.size+b.size:Nat)):Int) (ce st:Int)) ((ce st+a.size:Nat):Int)=(ce st:Int):=by omega
        have D:max (max (1:Int) (IntKind.i64.wrap ((a.depth:Int)+1))) (IntKind.i64.wrap ((b.depth:Int)+1))=((max a.depth b.depth+1:Nat):Int):=by rw [dS (by omega) (by omega),dS (by omega) (by omega)];omega
        rw [hm,D]
        simp only [gQ]at V ⊢
        exact V
def lq(ns:List cw):Bool:=(Ep ns).isSome
def NX(ns:List cw):lq ns=(match sb ns []with
  |some st=>OH st
  |none=>false):=by
 unfold lq Ep
 cases hp:sb ns []with
 |none=>rfl
 |some st=>
  match st with
  |[]=>rfl
  |[t]=>by_cases A:t.size<=300<;>by_cases V:t.depth<=20<;>simp [OH,A,V]
  |t::t2::st=>rfl
def DK(t:cy)(hS: ∀n∈t.Nodes,Fl n)(h:t.Nodes.length<=100000):pg t=some (if lq t.Nodes then 0 else 180):=by
 unfold pg Ak
 have:=H8 t.Nodes [] hS (by simpa [ce] using h)
 simp only [ce,yX,kT]at this
 rw [this,NX]
 cases hp:sb t.Nodes []with
 |none=>rfl
 |some st=>cases ho:OH st<;>simp [ho]
end Go.Proofs.YthbdkceckjihgaaGreatDoor


/- cm of this claim: B5. -/
set_option linter.all false
namespace Go.Proofs.YthbdkceckjihgaaGreatDoor
open Go

end Go.Proofs.YthbdkceckjihgaaGreatDoor


/- cm of this claim: B6. -/
set_option linter.all false
namespace Go.Proofs.YthbdkceckjihgaaGreatDoor
open Go

def AY(t:cy):Prop:=t.Nodes.length<=1000/\ ∀n∈t.Nodes,Fl n
def vv{t:cy}(h:AY t):qn [t]=some (lq t.Nodes):=by
 have A:rO t=some (!lq t.Nodes):=by
  unfold rO
  rw [DK t h.2 (by have:=h.1;omega),aX]
  cases lq t.Nodes<;>rfl
 unfold qn ft fX
 simp only [dX,A,aX]
 cases lq t.Nodes<;>rfl
def qI(t:cy):Bool:=decide (t.Nodes.length=0)||lq t.Nodes
def Vg(t:cy):(((t.Nodes.length:Nat):Int)==(0:Int))=decide (t.Nodes.length=0):=by
 rw [wJ];simp
structure Ki(s:ay):Prop where
 items: ∀x∈s.Items,AY x.Tree
 joins: ∀x∈s.Joins,AY x.On
 where_:AY s.Where
 having:AY s.Having
def uU(x:eG):Bool:=lq x.Tree.Nodes&&sf x.As
def ES(x:lT):Bool:=lq x.On.Nodes&&vw x.Source
def Vh(x:iN):Bool:=lO x.Name&&sf x.Table
def Mv(s:ay):Bool:=(s.Star==decide (s.Items.length=0))&&(decide (s.Items.length<=6)&&(decide (s.Joins.length<=2)&&decide (s.Group.length<=3)))
def zG(s:ay):Bool:=Mv s&&(vw s.From&&(s.Items.all uU&&(s.Joins.all ES&&(s.Group.all Vh&&(qI s.Where&&qI s.Having)))))
def Tj{s:ay}(h:Ki s)(ok:Bool):mA s 2 0 ok=some (ok&&(qI s.Where&&qI s.Having)):=by
 have i0:fE [s.Where,s.Having] ((0:Nat):Int)=some s.Where:=rfl
 have i1:fE [s.Where,s.Having] ((0+1:Nat):Int)=some s.Having:=rfl
 simp only [mA,i0,i1,aX,vv h.where_,vv h.having,Vg]
 unfold qI
 cases ok<;>cases decide (s.Where.Nodes.length=0)<;>cases lq s.Where.Nodes<;>cases decide (s.Having.Nodes.length=0)<;>rfl
def Oj{s:ay}(h:Ki s): ∀(l:List iN) (ok:Bool),kK s l ok=some (ok&&(l.all Vh&&(qI s.Where&&qI s.Having)))
 |[],ok=>by unfold kK;rw [Tj h];rfl
 |x::l,ok=>by
  unfold kK
  rw [jo,qg,uj]
  have e:Vh x=(lO x.Name&&sf x.Table):=rfl
  rw [e]
  cases ok<;>cases lO x.Name<;>cases sf x.Table<;>simp [Oj h l]
def Ok{s:ay}(h:Ki s): ∀(l:List lT) (ok:Bool),(∀x∈l,AY x.On)->kL s l ok=some (ok&&(l.all ES&&(s.Group.all Vh&&(qI s.Where&&qI s.Having))))
 |[],ok,_=>by unfold kL;rw [Oj h];rfl
 |x::l,ok,hl=>by
  unfold kL
  have ih:=fun ok=>Ok h l ok (fun y hy=>hl y (lH _ hy))
  rw [vv (hl x (ln ..)),wE,uj]
  have e:ES x=(lq x.On.Nodes&&vw x.Source):=rfl
  rw [e]
  cases ok<;>cases lq x.On.Nodes<;>cases vw x.Source<;>simp [ih]
def Ol{s:ay}(h:Ki s): ∀(l:List eG) (ok:Bool),(∀x∈l,AY x.Tree)->kM s l ok=some (ok&&(l.all uU&&(s.Joins.all ES&&(s.Group.all Vh&&(qI s.Where&&qI s.Having)))))
 |[],ok,_=>by unfold kM;rw [Ok h _ _ h.joins];rfl
 |x::l,ok,hl=>by
  unfold kM
  have ih:=fun ok=>Ol h l ok (fun y hy=>hl y (lH _ hy))
  rw [vv (hl x (ln ..)),qg,uj]
  have e:uU x=(lq x.Tree.Nodes&&sf x.As):=rfl
  rw [e]
  cases ok<;>cases lq x.Tree.Nodes<;>cases sf x.As<;>simp [ih]
def Mu(s:ay):((((s.Star !=((s.Items.length:Int)==(0:Int)))||(decide ((6:Int)<(s.Items.length:Int))))||(decide ((2:Int)<(s.Joins.length:Int))))||(decide ((3:Int)<(s.Group.length:Int))))= !Mv s:=by
 have e0:((s.Items.length:Int)==(0:Int))=decide (s.Items.length=0):=by rw [wJ];simp
 have e1:decide ((6:Int)<(s.Items.length:Int))= !decide (s.Items.length<=6):=by rw [wJ];simp;omega
 have e2:decide ((2:Int)<(s.Joins.length:Int))= !decide (s.Joins.length<=2):=by rw [wJ];simp;omega
 have e3:decide ((3:Int)<(s.Group.length:Int))= !decide (s.Group.length<=3):=by rw [wJ];simp;omega
 rw [e0,e1,e2,e3]
 unfold Mv
 cases s.Star<;>cases decide (s.Items.length=0)<;>cases decide (s.Items.length<=6)<;>cases decide (s.Joins.length<=2)<;>cases decide (s.Group.length<=3)<;>rfl
def Du{s:ay}(h:Ki s):rP s=some (zG s):=by
 unfold rP zG
 rw [Mu]
 cases Mv s with
 |false=>rfl
 |true=>
  simp only [pi,j0,iB]
  rw [wE,aX,Ol h _ _ h.items,ut]
def JA(n:Int):Bool:=decide (0<=n)&&decide (n<=2147483647)
def Tz(k:tW):Bool:=if k.Name==[]then JA k.Number else lO k.Name&&(k.Number==0)
def Vj(n:Int):Bool:=n== -1||JA n
def Tm(q:bD):Bool:=decide (1<=q.Selects.length)&&(decide (q.Selects.length<=3)&&(decide (q.Keys.length<=3)&&Vj q.Limit))
def QD(q:bD):Bool:=Tm q&&(q.Selects.all zG&&q.Keys.all Tz)
def Sc(q:bD):Prop:= ∀s∈q.Selects,Ki s
def H0{f:ay->Option Bool}{p:ay->Bool}: ∀(l:List ay) (i:Nat),(∀x∈l,f x=some (p x))-> ∃j:Int,cI f l i=some j/\decide (0<=j)=l.any p
 |[],i,_=>⟨-1,rfl,rfl⟩
 |x::l,i,hf=>by
  unfold cI
  rw [hf x (ln ..),aX,wm]
  cases D:p x with
  |true=>exact⟨i,rfl,by simp⟩
  |false=>
   obtain⟨j,A,V⟩:=H0 l (i+1) (fun y hy=>hf y (lH _ hy))
   exact⟨j,A,by rw [V];rfl⟩
def MM:lO []=false:=rfl
def F7{q:bD}(h:Sc q): ∀(l:List tW) (ok:Bool),mP q l ok=some (if ok&&(q.Selects.all zG&&l.all Tz)then 0 else 180)
 |[],ok=>by
  unfold mP
  have hc: ∀x∈q.Selects,pz x=some (!zG x):=fun x D=>by unfold pz;rw [Du (h x D)];rfl
  obtain⟨j,A,V⟩:=H0 q.Selects 0 hc
  have h3:dy q.Selects pz=some (q.Selects.any fun x=> !zG x):=by
   unfold dy fb
   rw [A,aX,V]
  have h4:(q.Selects.any fun x=> !zG x)= !q.Selects.all zG:=by rw [List.not_all_eq_any_not]
  rw [h3,h4]
  cases ok<;>cases q.Selects.all zG<;>rfl
 |k::l,ok=>by
  unfold mP
  rw [jo,uj]
  have e1:qU k.Number=some (JA k.Number):=rfl
  rw [e1]
  have e2:Tz k=if k.Name==[]then JA k.Number else lO k.Name&&(k.Number==0):=rfl
  rw [e2]
  cases hk:(k.Name==([]:cB))with
  |true=>
   have hk' :k.Name=[]:=by simpa using hk
   rw [hk',MM]
   cases ok<;>cases JA k.Number<;>simp [F7 h l]
  |false=>cases ok<;>cases lO k.Name<;>cases (k.Number==(0:Int))<;>simp [F7 h l]
def GD{q:bD}(h:Sc q):vV q=some (if QD q then 0 else 180):=by
 unfold vV QD
 rw [show qU q.Limit=some (JA q.Limit)from rfl]
 have e1:decide ((0:Int)<(q.Selects.length:Int))=decide (1<=q.Selects.length):=by rw [zg];omega
 have e2:decide ((q.Selects.length:Int)<=(3:Int))=decide (q.Selects.length<=3):=by rw [zg];omega
 have e3:decide ((q.Keys.length:Int)<=(3:Int))=decide (q.Keys.length<=3):=by rw [zg];omega
 rw [e1,e2,e3]
 unfold Tm Vj
 cases decide (1<=q.Selects.length)<;>cases decide (q.Selects.length<=3)<;>cases decide (q.Keys.length<=3)<;>cases (q.Limit==(-1:Int))<;>cases JA q.Limit<;>simp [F7 h]
def ri(t:cy):AY (qz t):=by
 refine⟨by simp [qz];omega,fun n hn=>?_⟩
 obtain⟨m,_,rfl⟩:=xI.1 hn
 have:(Ip m).Value.S.length<=60:=by simp [Ip];omega
 unfold Fl;omega
def Py(s:ay):Ki (Dj s) where
 items:=fun x D=>by
  obtain⟨y,_,rfl⟩:=xI.1 D
  exact ri _
 joins:=fun x D=>by
  obtain⟨y,_,rfl⟩:=xI.1 D
  exact ri _
 where_:=ri _
 having:=ri _
def O4(q:bD):Sc (TN q):=fun s hs=>by
 obtain⟨y,_,rfl⟩:=xI.1 hs
 exact Py _
end Go.Proofs.YthbdkceckjihgaaGreatDoor


/- cm of this claim: B7. -/
set_option linter.all false
namespace Go.Proofs.YthbdkceckjihgaaGreatDoor
open Go

def uE(name:cB):List bH->Nat->Option Nat
 |[],_=>none
 |t::l,i=>if t.Name=name then some i else uE name l (i+1)
def Hf{name:cB}: ∀{l:List bH} {i k:Nat},uE name l i=some k->i<=k/\k<i+l.length
 |t::l,i,k,h=>by
  unfold uE at h
  split at h
  ·cases h;simp
  ·have:=Hf h
   simp only [gq];omega
def E7(name:cB): ∀(l:List bH) (i:Nat),bk (dr dz name) l i=some (match uE name l i with
  |some k=>(k:Int)
  |none=> -1)
 |[],i=>rfl
 |t::l,i=>by
  unfold bk uE
  rw [show dr dz name t=some (t.Name==name)from rfl,aX]
  by_cases h:t.Name=name
  ·rw [bK h,bK (by simpa using h)]
  ·rw [bG h,bG (by simpa using h),E7 name l (i+1)]
def Bp(c:au)(name:cB):mN c name=some (match uE name c.Tables 0 with
  |some k=>((k:Int),true)
  |none=>(0,false)):=by
 unfold mN fz cG
 rw [E7]
 cases uE name c.Tables 0 with
 |none=>rfl
 |some k=>
  simp only [aX,Fu,Prod.mk.injEq,il]
  omega
def Oq(c:au)(name:cB)(hl:c.Tables.length<=1000): ∀(n i:Nat),c.Tables.length<i+n->i<=c.Tables.length->o4 c name n (i:Int)=some (match uE name (c.Tables.drop i) i with
  |some k=>(k:Int)
  |none=> -1):=by
 intro n
 induction n with
 |zero=>intro i h V;omega
 |succ n ih=>
  intro i h V
  unfold o4
  by_cases hi:i<c.Tables.length
  ·have hw:IntKind.i64.wrap ((i:Int)+1)=((i+1:Nat):Int):=by rw [BU];omega
   rw [bK (by rw [il];omega),mK,kQ hi,aX,wN hi]
   unfold uE
   by_cases hn:c.Tables[i].Name=name
   ·rw [bK (by simpa using hn),bK hn]
   ·rw [bG (by simpa using hn),bG hn,hw,ih (i+1) (by omega) (by omega)]
  ·rw [bG (by rw [il];omega),su (by omega)];rfl
def D2(c:au)(name:cB)(hl:c.Tables.length<=1000):qD c name=some (match uE name c.Tables 0 with
  |some k=>(k:Int)
  |none=> -1):=by
 unfold qD
 have:=Oq c name hl nA 0 (by unfold nA;omega) (jM _)
 rw [sq]at this
 exact this
def ue(name:cB):List bp->Nat->Option Nat
 |[],_=>none
 |t::l,i=>if t.Name=name then some i else ue name l (i+1)
def Mw(t:bH)(name:cB)(hl:t.Columns.length<=1000): ∀(n i:Nat),t.Columns.length<i+n->i<=t.Columns.length->nb t name n (i:Int)=some (match ue name (t.Columns.drop i) i with
  |some k=>(k:Int)
  |none=> -1):=by
 intro n
 induction n with
 |zero=>intro i h V;omega
 |succ n ih=>
  intro i h V
  unfold nb
  by_cases hi:i<t.Columns.length
  ·have hw:IntKind.i64.wrap ((i:Int)+1)=((i+1:Nat):Int):=by rw [BU];omega
   rw [bK (by rw [il];omega),mK,kQ hi,aX,wN hi]
   unfold ue
   by_cases hn:t.Columns[i].Name=name
   ·rw [bK (by simpa using hn),bK hn]
   ·rw [bG (by simpa using hn),bG hn,hw,ih (i+1) (by omega) (by omega)]
  ·rw [bG (by rw [il];omega),su (by omega)];rfl
def Bi(t:bH)(name:cB)(hl:t.Columns.length<=1000):s8 t name=some (match ue name t.Columns 0 with
  |some k=>(k:Int)
  |none=> -1):=by
 unfold s8
 have:=Mw t name hl nA 0 (by unfold nA;omega) (jM _)
 rw [sq]at this
 exact this
def eI(s:dj):cB:=if s.As=[]then s.Table else s.As
def Dq(s:dj):rM s=some (eI s):=by
 unfold rM eI
 by_cases h:s.As=[]
 ·rw [bK (by simpa using h),bK h]
 ·rw [bG (by simpa using h),bG h]
def pO(s:dj):nZ s=some (eI s):=by
 unfold nZ eI
 by_cases h:s.As=[]
 ·rw [bG (by simp [h]),bK h]
 ·rw [bK (by simpa using h),bG h]
def oD(nm:cB)(l:List bp):List (cB×cB):=l.map fun x=>(nm,x.Name)
def dM(c:au):List dj->List Int->List (cB×cB)
 |s::ss,t::ts=>oD (eI s) (iw c t)++dM c ss ts
 |_,_=>[]
def ve(c:au): ∀(ss:List dj) (ts:List Int) (ss2:List dj) (ts2:List Int),ss.length=ts.length->dM c (ss++ss2) (ts++ts2)=dM c ss ts++dM c ss2 ts2
 |[],[],ss2,ts2,_=>rfl
 |s::ss,t::ts,ss2,ts2,h=>by
  simp only [xN,dM]
  rw [ve c ss ts ss2 ts2 (by simpa using h),gQ]
def vd(c:au): ∀(ss:List dj) (ts:List Int),ss.length=ts.length->(dM c ss ts).length=(eh c ts).length
 |[],[],_=>rfl
 |s::ss,t::ts,h=>by
  have:=vd c ss ts (by simpa using h)
  simp only [dM,eh,List.flatMap_cons,mY,oD,BL]at this ⊢
  rw [this]
def ka(p:cB×cB->Bool):List (cB×cB)->Nat->List Nat
 |[],_=>[]
 |e::l,i=>if p e then i::ka p l (i+1)else ka p l (i+1)
def rr(p:cB×cB->Bool): ∀(l m:List (cB×cB)) (i:Nat),ka p (l++m) i=ka p l i++ka p m (i+l.length)
 |[],m,i=>by simp [ka]
 |e::l,m,i=>by
  simp only [xN,ka,rr p l m (i+1),gq]
  rw [show i+1+l.length=i+(l.length+1)from by omega]
  split<;>rfl
def xh(p:cB×cB->Bool): ∀(l:List (cB×cB)) (i k:Nat),k∈ka p l i->i<=k/\k<i+l.length
 |e::l,i,k,h=>by
  unfold ka at h
  simp only [gq]
  split at h
  ·rcases lK.1 h with rfl|h
   ·omega
   ·have:=xh p l (i+1) k h;omega
  ·have:=xh p l (i+1) k h;omega
def uo(E:List (cB×cB))(table name:cB):Int×Int:=
 match ka (fun e=>decide (e.2=name)&&(decide (table=[])||decide (e.1=table))) E 0 with
 |[]=>(0,222)
 |[k]=>((k:Int),0)
 |_=>(0,223)
def IG(l:List bp):Prop:=(l.map fun x=>x.Name).Nodup
def H3(nm table name:cB): ∀(l:List bp) (i j:Nat),IG l->ka (fun e=>decide (e.2=name)&&(decide (table=[])||decide (e.1=table))) (oD nm l) (j+i)=(match ue name l i with
  |some k=>if table=[]\/nm=table then [j+k]else []
  |none=>[])
 |[],i,j,_=>rfl
 |x::l,i,j,h=>by
  simp only [IG,sn,List.nodup_cons]at h
  obtain⟨A,V⟩:=h
  have ih:=H3 nm table name l (i+1) j V
  simp only [oD,sn]at ih ⊢
  unfold ka ue
  by_cases D:x.Name=name
  ·rw [bK D]
   -- no other column bears the name
   have hno:ue name l (i+1)=none:=by
    have: ∀(l:List bp) (i:Nat),name∉l.map (fun x=>x.Name)->ue name l i=none:=by
     intro l
     induction l with
     |nil=>intro i _;rfl
     |cons y l ih=>
      intro i hn
      simp only [sn,lK,not_or]at hn
      unfold ue
      rw [bG (fun e=>hn.1 e.symm),ih (i+1) hn.2]
    exact this l (i+1) (D▸A)
   rw [hno]at ih
   rw [show j+i+1=j+(i+1)from by omega,ih]
   simp only [D,decide_true,ut]
   by_cases M:table=[]\/nm=table
   ·have:(decide (table=[])||decide (nm=table))=true:=by rw [ze,il,il];exact M
    rw [this];simp [M]
   ·have:(decide (table=[])||decide (nm=table))=false:=by rw [GW,qt,qt];exact not_or.1 M
    rw [this];simp [M]
  ·rw [bG D,show j+i+1=j+(i+1)from by omega,ih]
   simp only [D,decide_false,Bool.false_and,j0,iB]
structure PU(c:au):Prop where
 few:NF c
 len:c.Tables.length<=1000
 once: ∀t∈c.Tables,IG t.Columns
def PU.cols{c:au}(h:PU c)(t:Int):IG (iw c t):=by
 unfold iw
 cases D:c.Tables[t.toNat]? with
 |none=>exact List.nodup_nil
 |some x=>exact h.once x (rb D)
def Ka(found many:Int):Int×Int:=if many=0 then(0,222)else if many=1 then(found,0)else(0,223)
def wv{c:au}(hc:PU c)(b:aw)(H:b.c=c)(table name:cB): ∀(ss:List dj) (ts:List Int) (pre:List Int) (found many:Int) (first:Nat),b.out.Tables=pre++ts->ss.length=ts.length->(∀t∈ts,vl c t=false)->first+ts.length*1000<=1000000->0<=many->many+ts.length<=1000000->
  fv b table name ss pre.length found many (first:Int)=some (let hb:=ka (fun e=>decide (e.2=name)&&(decide (table=[])||decide (e.1=table))) (dM c ss ts) first
   Ka (match hb.getLast? with
    |some k=>(k:Int)
    |none=>found) (many+(hb.length:Int)))
 |[],[],pre,found,many,first,_,_,_,_,_,_=>by
  unfold fv
  simp only [dM,ka,List.getLast?_nil,pj]
  unfold Ka
  have e:many+((0:Nat):Int)=many:=by omega
  rw [e]
  by_cases h0:many=0
  ·simp [h0]
  ·by_cases A:many=1
   ·simp [A]
   ·simp [h0,A]
 |s::ss,t::ts,pre,found,many,first,hT,hl,hbad,hf,hm,hm2=>by
  simp only [gq]at hf hm2
  obtain⟨x,g1,g2,g3⟩:=BD (hbad t (ln ..))
  have hcl:=tK hc.few t
  have ih:=fun found many first=>wv hc b H table name ss ts (pre++[t]) found many first (by rw [hT];simp) (by simpa using hl) (fun y hy=>hbad y (lH _ hy))
  have hpl:(pre++[t]).length=pre.length+1:=by simp
  rw [hpl]at ih
  unfold fv
  rw [hT,ne,aX,H,g1,aX,Bi x name (by rw [g2];omega),aX,pO,g2]
  have hh:=H3 (eI s) table name (iw c t) 0 first (hc.cols t)
  simp only [BS]at hh
  simp only [dM,rr]
  have hel:(oD (eI s) (iw c t)).length=(iw c t).length:=by simp [oD]
  rw [hel,hh]
  have hw:IntKind.i64.wrap ((first:Int)+((iw c t).length:Int))=((first+(iw c t).length:Nat):Int):=by rw [dS (by omega) (by omega)];omega
  cases hcx:ue name (iw c t) 0 with
  |none=>
   have d:decide ((0:Int)<= -1)=false:=rfl
   simp only [d,j0,iB,aX,nj]
   unfold gA
   rw [g2,hw,ih found many (first+(iw c t).length) (by omega) hm (by omega)]
  |some k=>
   have hk:k<(iw c t).length:=by
    have: ∀(l:List bp) (i k:Nat),ue name l i=some k->k<i+l.length:=by
     intro l
     induction l with
     |nil=>intro i k h;cases h
     |cons y l ih=>
      intro i k h
      unfold ue at h
      simp only [gq]
      split at h
      ·cases h;omega
      ·have:=ih (i+1) k h;omega
    have:=this (iw c t) 0 k hcx
    omega
   have d:decide ((0:Int)<=(k:Int))=true:=by rw [il];omega
   simp only [d,gO,aX]
   have hw2:IntKind.i64.wrap ((first:Int)+(k:Int))=((first+k:Nat):Int):=by rw [dS (by omega) (by omega)];omega
   have hw3:IntKind.i64.wrap (many+1)=many+1:=by rw [dS (by omega) (by omega)]
   by_cases M:table=[]\/eI s=table
   ·rw [bK M]
    have e:(if(!(table==([]:cB)))=true then some (table==eI s)else some true)=some true:=by
     by_cases h0:table=[]
     ·simp [h0]
     ·rcases M with M|M
      ·exact absurd M h0
      ·rw [bK (by simpa using h0),M];simp
    rw [e]
    simp only [aX,gO]
    unfold gA
    rw [g2,hw,hw2,hw3,ih _ _ (first+(iw c t).length) (by omega) (by omega) (by omega)]
    simp only [Fv,gq,List.getLast?_cons]
    congr 2
    ·cases (ka (fun e=>decide (e.2=name)&&(decide (table=[])||decide (e.1=table))) (dM c ss ts) (first+(iw c t).length)).getLast? <;>rfl
    ·omega
   ·rw [bG M]
    have e:(if(!(table==([]:cB)))=true then some (table==eI s)else some true)=some false:=by
     rw [not_or]at M
     rw [bK (by simpa using M.1)]
     have:(table==eI s)=false:=by
      rw [Ek];exact fun h=>M.2 h.symm
     rw [this]
    rw [e]
    simp only [aX,j0,iB,nj]
    unfold gA
    rw [g2,hw,ih found many (first+(iw c t).length) (by omega) hm (by omega)]
def D1{c:au}(hc:PU c)(b:aw)(H:b.c=c)(table name:cB)(hl:b.sources.length=b.out.Tables.length)(hbad: ∀t∈b.out.Tables,vl c t=false)(hlen:b.out.Tables.length<=100):i6 b table name=some (uo (dM c b.sources b.out.Tables) table name):=by
 unfold i6
 have:=wv hc b H table name b.sources b.out.Tables [] 0 0 0 rfl hl hbad (by omega) (by omega) (by omega)
 simp only [pj,Int.ofNat_zero]at this
 rw [this]
 unfold uo
 congr 1
 generalize ka (fun e=>decide (e.2=name)&&(decide (table=[])||decide (e.1=table))) (dM c b.sources b.out.Tables) 0=hb
 match hb with
 |[]=>rfl
 |[k]=>rfl
 |k::k2::hb=>
  unfold Ka
  simp only [gq]
  rw [bG (by omega),bG (by omega)]
end Go.Proofs.YthbdkceckjihgaaGreatDoor


/- cm of this claim: B8. -/
set_option linter.all false
namespace Go.Proofs.YthbdkceckjihgaaGreatDoor
open Go

def m7{κ β:Type} [DecidableEq κ](k:κ)(y:β): ∀(m:List (κ×β)),fD (ie m k y) k=some y
 |[]=>by simp [ie,fD]
 |q::m=>by
  unfold ie
  by_cases h:q.1=k
  ·rw [bK h];unfold fD;rw [bK rfl]
  ·rw [bG h];unfold fD;rw [bG h,m7 k y m]
def mi{κ β:Type} [DecidableEq κ]{k j:κ}(y:β)(hj:j≠k): ∀(m:List (κ×β)),fD (ie m k y) j=fD m j
 |[]=>by simp [ie,fD,Ne.symm hj]
 |q::m=>by
  unfold ie
  by_cases h:q.1=k
  ·rw [bK h]
   unfold fD
   rw [bG (show¬k=j from Ne.symm hj),bG (show¬q.1=j from fun e=>hj (e▸h))]
  ·rw [bG h]
   unfold fD
   rw [mi y hj m]
structure Maps(E:List (cB×cB))(names:List cB)(s:ac):Prop where
 called: ∀n,(fD s.called n).getD false=decide (n∈names)
 alone: ∀n,(fD s.alone n).getD []=(ka (fun e=>decide (e.2=n)) E 0).map fun(k:Nat)=>(k:Int)
 behind: ∀t n,fD s.behind (t,n)=((ka (fun e=>decide (e.2=n)&&decide (e.1=t)) E 0).getLast?.map fun(k:Nat)=>(k:Int))
 once:E.Nodup
def CU(t n:cB): ∀(E:List (cB×cB)) (i:Nat),E.Nodup->(ka (fun e=>decide (e.2=n)&&decide (e.1=t)) E i).length<=1
 |[],i,_=>jM _
 |e::E,i,h=>by
  have V:=List.nodup_cons.1 h
  unfold ka
  split
  ·rename_i he
   have:ka (fun e=>decide (e.2=n)&&decide (e.1=t)) E (i+1)=[]:=by
    have key: ∀(E:List (cB×cB)) (i:Nat),e∉E->ka (fun e=>decide (e.2=n)&&decide (e.1=t)) E i=[]:=by
     intro E
     induction E with
     |nil=>intro i _;rfl
     |cons f E ih=>
      intro i hn
      simp only [lK,not_or]at hn
      unfold ka
      rw [ih (i+1) hn.2,bG]
      intro hf
      apply hn.1
      simp only [gM,il]at he hf
      exact Prod.ext (he.2.trans hf.2.symm) (he.1.trans hf.1.symm)
    exact key E (i+1) V.1
   rw [this];simp
  ·exact CU t n E (i+1) V.2
def xi{p q:cB×cB->Bool}: ∀(E:List (cB×cB)) (i:Nat),(∀e∈E,p e=q e)->ka p E i=ka q E i
 |[],i,_=>rfl
 |e::E,i,h=>by
  unfold ka
  rw [h e (ln ..),xi E (i+1) fun f hf=>h f (lH _ hf)]
def Iu{E:List (cB×cB)}{names:List cB}{s:ac}(h:Maps E names s)(n:iN):iK s n=some (uo E n.Table n.Name):=by
 unfold iK uo
 by_cases M:n.Table=[]
 ·rw [bG (by simp [M])]
  have e:ka (fun e=>decide (e.2=n.Name)&&(decide (n.Table=[])||decide (e.1=n.Table))) E 0=ka (fun e=>decide (e.2=n.Name)) E 0:=xi E 0 fun e _=>by simp [M]
  rw [e,h.alone]
  match ka (fun e=>decide (e.2=n.Name)) E 0 with
  |[]=>rfl
  |[k]=>rfl
  |k::k2::hb=>
   have hlen:(((List.map (fun(k:Nat)=>(k:Int)) (k::k2::hb)).length:Nat):Int)=(hb.length:Int)+2:=by simp;omega
   rw [hlen,bG (by rw [sv];omega),bG (by rw [sv];omega)]
 ·rw [bK (by simpa using M)]
  have e:ka (fun e=>decide (e.2=n.Name)&&(decide (n.Table=[])||decide (e.1=n.Table))) E 0=ka (fun e=>decide (e.2=n.Name)&&decide (e.1=n.Table)) E 0:=xi E 0 fun e _=>by simp [M]
  rw [e,h.behind]
  have hl:=CU n.Table n.Name E 0 h.once
  match ka (fun e=>decide (e.2=n.Name)&&decide (e.1=n.Table)) E 0,hl with
  |[],_=>rfl
  |[k],_=>rfl
  |k::k2::hb,hl=>simp at hl
def Ev{nm:cB}: ∀(l:List bp) (E:List (cB×cB)) (names:List cB) (s:ac),(∀n,(fD s.called n).getD false=decide (n∈names))->(∀n,(fD s.alone n).getD []=(ka (fun e=>decide (e.2=n)) E 0).map fun(k:Nat)=>(k:Int))->
  (∀t n,fD s.behind (t,n)=((ka (fun e=>decide (e.2=n)&&decide (e.1=t)) E 0).getLast?.map fun(k:Nat)=>(k:Int)))->s.kinds.length=E.length->E.length+l.length<=1000000->
  ∃s',fi nm l s=some (0,s')/\s' ={s with alone:=s'.alone,behind:=s'.behind,kinds:=s.kinds++l.map fun x=>x.Kind}/\(∀n,(fD s'.alone n).getD []=(ka (fun e=>decide (e.2=n)) (E++oD nm l) 0).map fun(k:Nat)=>(k:Int))/\
   (∀t n,fD s'.behind (t,n)=((ka (fun e=>decide (e.2=n)&&decide (e.1=t)) (E++oD nm l) 0).getLast?.map fun(k:Nat)=>(k:Int)))
 |[],E,names,s,hc,ha,H,hk,_=>⟨s,rfl,by cases s;simp,by simpa [oD] using ha,by simpa [oD] using H⟩
 |x::l,E,names,s,hc,ha,H,hk,hl=>by
  simp only [gq]at hl
  have hal:((fD s.alone x.Name).getD []).length<=1000000:=by
   rw [ha x.Name,BL]
   have: ∀(p:cB×cB->Bool) (l:List (cB×cB)) (i:Nat),(ka p l i).length<=l.length:=by
    intro p l
    induction l with
    |nil=>intro i;exact eX _
    |cons e l ih=>
     intro i
     unfold ka
     have:=ih (i+1)
     split<;>simp<;>omega
   have:=this (fun e=>decide (e.2=x.Name)) E 0
   omega
  obtain⟨s1,hs1⟩: ∃s1:ac,s1={s with alone:=ie s.alone x.Name ((fD s.alone x.Name).getD []++[(s.kinds.length:Int)]),behind:=ie s.behind (nm,x.Name) (s.kinds.length:Int),kinds:=s.kinds++[x.Kind]}:=⟨_,rfl⟩
  have e0:fi nm (x::l) s=fi nm l s1:=by
   conv=>lhs;unfold fi
   rw [cW (by simp;omega),aX,aX]
   simp only
   rw [cW (by simp;omega),aX,hs1]
  have hent:oD nm (x::l)=(nm,x.Name)::oD nm l:=rfl
  have happ:E++oD nm (x::l)=(E++[(nm,x.Name)])++oD nm l:=by rw [hent];simp
  obtain⟨s',g1,g2,g3,g4⟩:=Ev l (E++[(nm,x.Name)]) names s1 (by rw [hs1];exact hc) (fun n=>by
   rw [hs1]
   simp only
   rw [rr]
   by_cases hn:n=x.Name
   ·subst hn
    rw [m7,Option.getD_some,ha x.Name]
    simp [ka,hk]
   ·rw [mi _ hn,ha n]
    simp [ka,Ne.symm hn]) (fun t n=>by
   rw [hs1]
   simp only
   rw [rr]
   by_cases hn:(t,n)=(nm,x.Name)
   ·rw [hn,m7]
    obtain⟨A,V⟩:=Prod.ext_iff.1 hn
    simp only at A V
    subst A V
    simp [ka,hk]
   ·rw [mi _ hn,H t n]
    have:(decide (x.Name=n)&&decide (nm=t))=false:=by
     rw [Bool.and_eq_false_iff,qt,qt]
     by_cases A:x.Name=n
     ·exact .inr fun V=>hn (by rw [A,V])
     ·exact .inl A
    simp [ka,this]) (by rw [hs1];simp [hk]) (by simp;omega)
  refine⟨s',e0.trans g1,?_,?_,?_⟩
  ·rw [g2,hs1]
   simp
  ·intro n;rw [happ];exact g3 n
  ·intro t n;rw [happ];exact g4 t n
end Go.Proofs.YthbdkceckjihgaaGreatDoor


/- cm of this claim: B9. -/
set_option linter.all false
namespace Go.Proofs.YthbdkceckjihgaaGreatDoor
open Go

structure mX(c:au):Prop where
 basC:PU c
 cols4: ∀t∈c.Tables,t.Columns.length<=4
 kinds: ∀t∈c.Tables,∀x∈t.Columns,yw x.Kind=true
def oE(a:jJ)(kinds:List Int):Int×Bool:=
 if a.Tag=1 then(2,true)else
  if(dI a.Arg kinds).2≠0\/(a.Tag=3/\(dI a.Arg kinds).1≠2/\(dI a.Arg kinds).1≠0)then(0,false)else
   if a.Tag=2\/a.Tag=3 then(2,true)else((dI a.Arg kinds).1,true)
def yx(kinds:List Int)(keys:List Int):List Int:=keys.map fun k=>(kinds[k.toNat]?).getD 0
def rx(kinds:List Int)(keys:List Int)(aggs:List jJ):List Int:=yx kinds keys++aggs.map fun a=>(oE a kinds).1
structure qo(c:au)(s:ac)(b:aw):Prop where
 cat:s.Catalog=c
 bc:b.c=c
 out:s.out=b.out
 kinds:s.kinds=eh c b.out.Tables
 len:b.sources.length=b.out.Tables.length
 bad: ∀t∈b.out.Tables,vl c t=false
 few:b.out.Tables.length<=3
 maps:Maps (dM c b.sources b.out.Tables) (b.sources.map eI) s
 groups:s.groups=rx s.kinds b.out.Keys b.out.Aggs
 keys: ∀k∈b.out.Keys,0<=k/\k<(s.kinds.length:Int)
 keysLen:b.out.Keys.length<=3
 aggsLen:b.out.Aggs.length<=12
 aggsOnce:b.out.Aggs.Nodup
 aggsOk: ∀a∈b.out.Aggs,(oE a s.kinds).2=true/\(1<=a.Tag/\a.Tag<=5)/\a.Arg.Nodes.length<=50000
def AV(c:au): ∀(ss:List dj) (ts:List Int) (e:cB×cB),e∈dM c ss ts->e.1∈ss.map eI
 |[],_,e,h=>by simp [dM]at h
 |s::ss,[],e,h=>by simp [dM]at h
 |s::ss,t::ts,e,h=>by
  simp only [dM,uu,oD,xI]at h
  rcases h with⟨x,_,rfl⟩|h
  ·simp
  ·exact lH _ (AV c ss ts e h)
def wu(b:aw)(s:dj)(r:Int)(hl:b.sources.length<=1000)(hl2:b.out.Tables.length<=1000): ∀l:List dj,gz b s r l=if eI s∈l.map eI then some (221,b)else some (0,{b with sources:=b.sources++[s],out:={b.out with Tables:=b.out.Tables++[r]}})
 |[]=>by
  unfold gz
  rw [cW (by simp;omega),aX,cW (by simp;omega),aX]
  rfl
 |e::l=>by
  unfold gz
  rw [pO,aX,pO,aX,wu b s r hl hl2 l]
  by_cases h:eI e=eI s
  ·rw [bK (by simpa using h),bK (by simp [h])]
  ·rw [bG (by simpa using h)]
   have:(eI s∈List.map eI (e::l))=(eI s∈List.map eI l):=by
    simp only [sn,lK]
    exact propext ⟨fun V=>V.resolve_left fun h3=>h h3.symm,.inr⟩
   simp only [this]
def AE{c:au}(hc:mX c){s:ac}{b:aw}(h:qo c s b)(hl:b.sources.length<=2)(hk:b.out.Keys=[])(ha:b.out.Aggs=[])(p:dj):
  (∃e,e≠0/\fK s p=some (e,s)/\iZ b p=some (e,b))\/(∃s' b' k,fK s p=some (0,s')/\iZ b p=some (0,b')/\qo c s' b' /\s'.from_=s.from_/\s'.at_=s.at_/\b' ={b with sources:=b.sources++[p],out:={b.out with Tables:=b.out.Tables++[k]}}):=by
 unfold fK iZ
 rw [show mN s.Catalog p.Table=_ from(congrArg (fun(d:au)=>mN d p.Table) h.cat).trans (Bp c p.Table),show qD b.c p.Table=_ from(congrArg (fun(d:au)=>qD d p.Table) h.bc).trans (D2 c p.Table hc.basC.len),Dq]
 have hlen:=h.len
 cases D:uE p.Table c.Tables 0 with
 |none=>exact .inl ⟨220,by decide,rfl,rfl⟩
 |some k=>
  have hkl:=(Hf D).2
  simp only [aX]
  rw [wu b p _ (by omega) (by omega),h.maps.called]
  have d1:decide ((k:Int)<0)=false:=by rw [qt];omega
  simp only [d1,pi,j0,iB]
  by_cases hn:eI p∈b.sources.map eI
  ·rw [xK hn,bK rfl,bK hn]
   exact .inl ⟨221,by decide,rfl,rfl⟩
  ·rw [A3 hn,bG (by decide),bG hn]
   have hb0:vl c (k:Int)=false:=by
    unfold vl
    rw [GW,qt,qt];omega
   obtain⟨x,g1,g2,g3⟩:=BD hb0
   right
   obtain⟨sc,hsc⟩: ∃sc:ac,sc={s with called:=ie s.called (eI p) true,out:={s.out with Tables:=s.out.Tables++[(k:Int)]}}:=⟨_,rfl⟩
   have hE:=ve c b.sources b.out.Tables [p] [(k:Int)] h.len
   have hE1:dM c [p] [(k:Int)]=oD (eI p) (iw c (k:Int)):=by simp [dM]
   rw [hE1]at hE
   have hEl:=vd c b.sources b.out.Tables h.len
   have hkk:eh c (b.out.Tables++[(k:Int)])=eh c b.out.Tables++(iw c (k:Int)).map fun x=>x.Kind:=by simp [eh]
   have hcl:=tK hc.basC.few (k:Int)
   have hKl:(eh c b.out.Tables).length<=3000:=by
    have: ∀l:List Int,(eh c l).length<=l.length*1000:=by
     intro l
     induction l with
     |nil=>exact eX _
     |cons t l ih=>
      have:=tK hc.basC.few t
      simp only [eh,List.flatMap_cons,mY,BL,gq]at ih ⊢
      omega
    have:=this b.out.Tables
    omega
   obtain⟨s',k1,k2,k3,k4⟩:=Ev (nm:=eI p) (iw c (k:Int)) (dM c b.sources b.out.Tables) (b.sources.map eI++[eI p]) sc (fun n=>by
    rw [hsc]
    simp only
    by_cases hn2:n=eI p
    ·subst hn2;rw [m7];simp
    ·rw [mi _ hn2,h.maps.called];simp [hn2]) (fun n=>by rw [hsc];exact h.maps.alone n) (fun t n=>by rw [hsc];exact h.maps.behind t n) (by rw [hsc,hEl];exact congrArg List.length h.kinds) (by rw [hEl];omega)
   have hb' :s'.kinds=eh c (b.out.Tables++[(k:Int)]):=by rw [k2,hkk,hsc];simp [h.kinds]
   refine⟨s',{b with sources:=b.sources++[p],out:={b.out with Tables:=b.out.Tables++[(k:Int)]}},(k:Int),?_,rfl,?_,?_,?_,rfl⟩
   ·rw [cW (by rw [h.out];simp;omega),aX]
    rw [show fE s.Catalog.Tables (k:Int)=some x from by rw [h.cat];exact g1,aX,g2]
    rw [hsc]at k1
    exact k1
   ·refine⟨?_,h.bc,?_,hb',?_,?_,?_,⟨?_,?_,?_,?_⟩,?_,?_,?_,?_,?_,?_⟩
    ·rw [k2,hsc];exact h.cat
    ·rw [k2,hsc];simp only;rw [h.out]
    ·simp only [mY,wb];omega
    ·intro t M
     rcases uu.1 M with M|M
     ·exact h.bad t M
     ·rw [uk.1 M];exact hb0
    ·simp only [mY,wb];omega
    ·intro n
     have:s'.called=sc.called:=by rw [k2]
     rw [this,hsc]
     simp only [List.map_append,sn,List.map_nil]
     by_cases hn2:n=eI p
     ·subst hn2;rw [m7];simp
     ·rw [mi _ hn2,h.maps.called];simp [hn2]
    ·intro n;simp only;rw [hE];exact k3 n
    ·intro t n;simp only;rw [hE];exact k4 t n
    ·simp only
     rw [hE,List.nodup_append]
     refine⟨h.maps.once,?_,?_⟩
     ·have:=hc.basC.cols (k:Int)
      unfold IG at this
      unfold oD
      rw [List.nodup_iff_pairwise_ne]at this ⊢
      rw [List.pairwise_map]at this ⊢
      exact this.imp fun hxy e=>hxy (congrArg Prod.snd e)
     ·intro a ha' b2 hb2 e
      subst e
      simp only [oD,xI]at hb2
      obtain⟨y,_,rfl⟩:=hb2
      exact hn (AV c _ _ _ ha')
    ·have e1:s'.groups=s.groups:=by rw [k2,hsc]
     rw [e1,h.groups]
     simp only [hk,ha]
     rfl
    ·intro k' hk';simp only [hk]at hk';cases hk'
    ·simp [hk]
    ·simp [ha]
    ·simp [ha]
    ·intro a ha';simp only [ha]at ha';cases ha'
   ·rw [k2,hsc]
   ·rw [k2,hsc]
end Go.Proofs.YthbdkceckjihgaaGreatDoor


/- cm of this claim: B10. -/
set_option linter.all false
namespace Go.Proofs.YthbdkceckjihgaaGreatDoor
open Go

def ma{t:Tr}(hw:t.wf)(hs:t.size<=1000):jx (t.flat 0)=true:=by
 unfold jx
 rw [uD hw hs];rfl
def Le(n:ap):Tr:= .lf (fy n (-1) (-1))
def xe{n:ap}(A:pk n.Tag=some 0)(V:AX n=true):(Le n).wf:=⟨A,V,rfl,rfl⟩
def HO(n:ap):(Le n).flat 0=[fy n (-1) (-1)]:=rfl
def vJ{n:ap}(A:pk n.Tag=some 0)(V:AX n=true):ql n=some (⟨(Le n).flat 0⟩,0):=by
 have hm:oU n []=some (TH (jx [fy n (-1) (-1)]) ⟨[fy n (-1) (-1)]⟩):=uR (fun e h=>by cases h) rfl (QR n) (by show 1<=100000;omega)
 have hr:jx [fy n (-1) (-1)]=true:=ma (xe A V) (by show 1<=1000;omega)
 rw [hr]at hm
 unfold ql
 rw [hm];rfl
def sI(n:ap):ff n []=some ⟨(Le n).flat 0⟩:=WH n
def uq(k:Int):ap:=⟨2,0,0,k,⟨0,0,0,[]⟩⟩
def ON(v:bZ):ap:=⟨1,0,0,0,v⟩
def tL(k:Int):pk (uq k).Tag=some 0:=rfl
def qR{k:Int}(h0:0<=k)(A:k<16):AX (uq k)=true:=by
 unfold AX ib uq
 simp [h0,A]
def CN{v:bZ}(h:pP v=true):AX (ON v)=true:=by
 unfold AX ib ON
 rw [n6,h];rfl
def TA{l:List Int}(h: ∀k∈l,k4 k):NP l=true:=by
 unfold NP
 rw [lY]
 intro k hk
 have:=h k hk
 unfold k4 at this
 simp only [gM,il]
 omega
def qL{t:Tr}(hw:t.wf)(hs:t.size<=1000){kinds:List Int}(hk: ∀k∈kinds,k4 k):dI ⟨t.flat 0⟩ kinds=if ld kinds.length (t.flat 0)then(match kd kinds t with
  |some k=>((k,0):Int×Int)
  |none=>(0,201))else(0,2):=by
 unfold dI
 rw [ma hw hs,TA hk,bK rfl,bK rfl]
 simp only [uD hw hs,aX]
 split<;>first|rfl|(cases kd kinds t<;>rfl)
def OR{e:aB}{kinds:List Int}(hk: ∀k∈kinds,k4 k):k4 (dI e kinds).1:=by
 unfold dI
 split
 ·split
  ·split
   ·rename_i hr _ _
    unfold jx at hr
    cases M:oH e.Nodes with
    |none=>rw [M]at hr;cases hr
    |some t=>
     simp only [aX]
     cases hd:kd kinds t with
     |none=>exact .inl rfl
     |some k=>exact Lh hk t (nE M).1 hd
   ·exact .inl rfl
  ·exact .inl rfl
 ·exact .inl rfl
def CP{k:Int}{kinds:List Int}(hk: ∀k∈kinds,k4 k)(h0:0<=k)(A:k<(kinds.length:Int))(h16:k<16):(dI ⟨(Le (uq k)).flat 0⟩ kinds).2=0:=by
 rw [qL (xe (tL k) (qR h0 h16)) (by show 1<=1000;omega) hk]
 rw [bK]
 ·rfl
 ·rw [HO]
  unfold ld
  simp [fy,uq]
  omega
def OQ{v:bZ}(hv:pP v=true){kinds:List Int}(hk: ∀k∈kinds,k4 k):(dI ⟨(Le (ON v)).flat 0⟩ kinds).2=0:=by
 rw [qL (xe (show pk 1=some 0 from rfl) (CN hv)) (by show 1<=1000;omega) hk]
 rw [bK]
 ·rfl
 ·rw [HO];rfl
def OB(tag:Int):ap:=⟨tag,-1,-1,0,⟨0,0,0,[]⟩⟩
def KX{tag:Int}{k:Nat}(h:pk tag=some (k+1)):AX (OB tag)=true:=by
 unfold AX ib OB
 have A: ¬tag=1:=fun e=>by subst e;simp [pk]at h
 have V: ¬tag=2:=fun e=>by subst e;simp [pk]at h
 simp [A,V]
def Sj{tag:Int}{a:Tr}(h:pk tag=some 1)(ha:a.wf):(Tr.un (OB tag) a).wf:=⟨⟨h,KX h,rfl,rfl⟩,ha⟩
def SO{tag:Int}{a b:Tr}(h:pk tag=some 2)(ha:a.wf)(H:b.wf):(Tr.bi (OB tag) a b).wf:=⟨⟨h,KX h,rfl,rfl⟩,ha,H⟩
def R4(tag:Int)(a b:Tr):(Tr.bi (qJ tag) a b).flat 0=(Tr.bi (OB tag) a b).flat 0:=rfl
def K0(tag:Int){a:Tr}(ha:a.wf)(hs:a.size<=900):vc tag ⟨a.flat 0⟩=some (TH (jx ((Tr.un (OB tag) a).flat 0)) ⟨(Tr.un (OB tag) a).flat 0⟩):=by
 have hl: ∀e∈[(⟨a.flat 0⟩:aB)],e.Nodes.length<=100000:=by
  intro e h
  simp only [uk]at h
  subst h
  show(a.flat 0).length<=100000
  rw [a.flat_len];omega
 have hw:((⟨(Tr.un (qJ tag) a).flat 0⟩:aB)).Nodes.length<=100000:=by
  show((Tr.un (qJ tag) a).flat 0).length<=100000
  rw [Tr.flat_len];simp only [Tr.size];omega
 have hm:=uR (root:=qJ tag) hl (by simp [ma ha (by omega)]) (QQ _ a (by omega)) hw
 unfold vc
 rw [show(⟨tag,0,0,0,⟨0,0,0,[]⟩⟩:ap)=qJ tag from rfl,hm]
 rfl
def OC{tag:Int}(h:pk tag=some 1){a:Tr}(ha:a.wf)(hs:a.size<=900):vc tag ⟨a.flat 0⟩=some (⟨(Tr.un (OB tag) a).flat 0⟩,0):=by
 rw [K0 tag ha hs,ma (Sj h ha) (by simp only [Tr.size];omega)];rfl
def NW{tag:Int}(h:pk tag=some 2){a b:Tr}(ha:a.wf)(H:b.wf)(hs:a.size+b.size<=900):yP tag ⟨a.flat 0⟩ ⟨b.flat 0⟩=some (⟨(Tr.bi (OB tag) a b).flat 0⟩,0):=by
 have hl: ∀e∈[(⟨a.flat 0⟩:aB),⟨b.flat 0⟩],e.Nodes.length<=100000:=by
  intro e h
  simp only [lK,List.not_mem_nil,or_false]at h
  rcases h with rfl|rfl
  ·show(a.flat 0).length<=100000
   rw [a.flat_len];omega
  ·show(b.flat 0).length<=100000
   rw [b.flat_len];omega
 have hw:((⟨(Tr.bi (qJ tag) a b).flat 0⟩:aB)).Nodes.length<=100000:=by
  show((Tr.bi (qJ tag) a b).flat 0).length<=100000
  rw [Tr.flat_len];simp only [Tr.size];omega
 have hm:=uR (root:=qJ tag) hl (by simp [ma ha (by omega),ma H (by omega)]) (QP _ a b (by omega)) hw
 unfold yP
 rw [show(⟨tag,0,0,0,⟨0,0,0,[]⟩⟩:ap)=qJ tag from rfl,hm,R4,ma (SO h ha H) (by simp only [Tr.size];omega)]
 rfl
def KY(tag:Int){a:Tr}(hs:a.size<=900):ff ⟨tag,0,0,0,⟨0,0,0,[]⟩⟩ [⟨a.flat 0⟩]=some ⟨(Tr.un (OB tag) a).flat 0⟩:=Kp (qJ tag) a (by omega)
def Qo(tag:Int){a b:Tr}(hs:a.size<=900)(hs2:b.size<=900):ff ⟨tag,0,0,0,⟨0,0,0,[]⟩⟩ [⟨a.flat 0⟩,⟨b.flat 0⟩]=some ⟨(Tr.bi (OB tag) a b).flat 0⟩:=Ko (qJ tag) a b (by omega) (by omega)
def DM(a:jJ)(kinds:List Int):o3 a kinds=some (oE a kinds):=by
 unfold o3 oE
 rw [m4]
 by_cases A:a.Tag=1
 ·rw [bK (by simpa using A),bK A]
 ·rw [bG (by simpa using A),bG A,aX]
  by_cases V:(dI a.Arg kinds).2≠0\/(a.Tag=3/\(dI a.Arg kinds).1≠2/\(dI a.Arg kinds).1≠0)
  ·rw [bK V,bK (by simpa [and_assoc] using V)]
  ·rw [bG V,bG (by simpa [and_assoc] using V)]
   by_cases h3:a.Tag=2\/a.Tag=3
   ·rw [bK h3,bK (by simpa using h3)]
   ·rw [bG h3,bG (by simpa using h3)]
def PN{a:jJ}{kinds:List Int}(hk: ∀k∈kinds,k4 k):k4 (oE a kinds).1:=by
 unfold oE
 split
 ·exact .inr (.inr (.inl rfl))
 ·split
  ·exact .inl rfl
  ·split
   ·exact .inr (.inr (.inl rfl))
   ·exact OR hk
def H9(r:List Int): ∀(l:List jJ) (out:List Int),out.length+l.length<=1000000->i7 r l out=some (out++l.map fun a=>(oE a r).1)
 |[],out,_=>by simp [i7]
 |a::l,out,h=>by
  simp only [gq]at h
  unfold i7
  rw [DM,aX,cW (by simp;omega),aX,H9 r l _ (by simp;omega)]
  simp
def Ia(s:aK)(r:List Int)(ha:s.Aggs.length<=1000): ∀(l:List Int) (out:List Int),(∀k∈l,0<=k/\k<(r.length:Int))->out.length+l.length<=10000->i8 s r l out=some (out++rx r l s.Aggs)
 |[],out,_,h=>by
  unfold i8
  rw [H9 r _ _ (by simp at h;omega)];rfl
 |k::l,out,hk,h=>by
  simp only [gq]at h
  obtain⟨h0,A⟩:=hk k (ln ..)
  have hi:fE r k=some ((r[k.toNat]?).getD 0):=by
   have hlt:k.toNat<r.length:=by omega
   unfold fE
   rw [bK h0,kQ hlt];rfl
  unfold i8
  rw [hi,aX,cW (by simp;omega),aX,Ia s r ha l _ (fun j hj=>hk j (lH _ hj)) (by simp;omega)]
  simp [rx,yx]
def qo.kindsLen{c:au}{s:ac}{b:aw}(hc:mX c)(h:qo c s b):s.kinds.length<=12:=by
 have: ∀l:List Int,(eh c l).length<=l.length*4:=by
  intro l
  induction l with
  |nil=>exact eX _
  |cons t l ih=>
   have h4:(iw c t).length<=4:=by
    unfold iw
    cases D:c.Tables[t.toNat]? with
    |none=>simp
    |some x=>exact hc.cols4 x (rb D)
   simp only [eh,List.flatMap_cons,mY,BL,gq]at ih ⊢
   omega
 have V:=this b.out.Tables
 have:=h.few
 rw [h.kinds];omega
def qo.kinds4{c:au}{s:ac}{b:aw}(hc:mX c)(h:qo c s b): ∀k∈s.kinds,k4 k:=by
 rw [h.kinds]
 intro k hk
 simp only [eh,List.mem_flatMap,xI]at hk
 obtain⟨t,_,x,D,rfl⟩:=hk
 unfold iw at D
 cases hy:c.Tables[t.toNat]? with
 |none=>rw [hy]at D;simp at D
 |some y=>
  rw [hy]at D
  have:=hc.kinds y (rb hy) x D
  unfold yw at this
  simp only [ze,sv]at this
  unfold k4;omega
def qo.groups4{c:au}{s:ac}{b:aw}(hc:mX c)(h:qo c s b): ∀k∈s.groups,k4 k:=by
 rw [h.groups]
 intro k hk
 have h4:=h.kinds4 hc
 unfold rx yx at hk
 rcases uu.1 hk with hk|hk
 ·obtain⟨j,hj,rfl⟩:=xI.1 hk
  obtain⟨h0,A⟩:=h.keys j hj
  have hlt:j.toNat<s.kinds.length:=by omega
  rw [kQ hlt]
  exact h4 _ (List.getElem_mem ..)
 ·obtain⟨a,_,rfl⟩:=xI.1 hk
  exact PN h4
def qo.groupsLen{c:au}{s:ac}{b:aw}(h:qo c s b):s.groups.length=b.out.Keys.length+b.out.Aggs.length:=by
 rw [h.groups];simp [rx,yx]
def qo.refKinds{c:au}{s:ac}{b:aw}(hc:mX c)(h:qo c s b):jn b.c b.out.Tables=some s.kinds:=by
 rw [h.bc,FW hc.basC.few h.bad (by have:=h.few;omega),h.kinds]
def qo.refGroups{c:au}{s:ac}{b:aw}(hc:mX c)(h:qo c s b):js b.c b.out=some s.groups:=by
 unfold js
 rw [h.refKinds hc,aX,Ia b.out s.kinds (by have:=h.aggsLen;omega) _ _ h.keys (by have:=h.keysLen;simp;omega),h.groups]
 rfl
def qo.column{c:au}{s:ac}{b:aw}(hc:mX c)(h:qo c s b)(n:iN):iK s n=some (uo (dM c b.sources b.out.Tables) n.Table n.Name)/\i6 b n.Table n.Name=some (uo (dM c b.sources b.out.Tables) n.Table n.Name):=
 ⟨Iu h.maps n,D1 hc.basC b h.bc n.Table n.Name h.len h.bad (by have:=h.few;omega)⟩
def qo.colIn{c:au}{s:ac}{b:aw}(h:qo c s b)(t n:cB)(he:(uo (dM c b.sources b.out.Tables) t n).2=0):0<=(uo (dM c b.sources b.out.Tables) t n).1/\(uo (dM c b.sources b.out.Tables) t n).1<(s.kinds.length:Int):=by
 have hl:=vd c b.sources b.out.Tables h.len
 rw [h.kinds,<-hl]
 have hr:=xh (fun e=>decide (e.2=n)&&(decide (t=[])||decide (e.1=t))) (dM c b.sources b.out.Tables) 0
 unfold uo at he ⊢
 match hh:ka (fun e=>decide (e.2=n)&&(decide (t=[])||decide (e.1=t))) (dM c b.sources b.out.Tables) 0 with
 |[]=>rw [hh]at he;cases he
 |[k]=>
  rw [hh]at hr
  have:=hr k (ln ..)
  simp only
  omega
 |k::k2::hb=>rw [hh]at he;cases he
def CT{x a:jJ}(h: ¬x=a)(l:List jJ):(x::l).idxOf a=l.idxOf a+1:=by
 have:(x==a)=false:=by simpa using h
 simp [List.idxOf,List.findIdx_cons,this]
def H2(a:jJ): ∀(l:List jJ) (i:Nat),dp (jt a) l i=some (if a∈l then((i+l.idxOf a:Nat):Int)else -1)
 |[],i=>rfl
 |x::l,i=>by
  unfold dp
  have hf:jt a x=some (decide (x=a)):=by
   unfold jt
   rw [Gv]
   obtain⟨t1,⟨n1⟩⟩:=x
   obtain⟨t2,⟨n2⟩⟩:=a
   by_cases A:t1=t2
   ·subst A;by_cases V:n1=n2<;>simp [V]
   ·have:(t1==t2)=false:=by simpa using A
    simp [this,A]
  rw [hf,aX,H2 a l (i+1)]
  by_cases h:x=a
  ·subst h;simp
  ·rw [bG (by simpa using h)]
   congr 1
   have hm:(a∈x::l)=(a∈l):=by
    simp only [lK]
    exact propext ⟨fun V=>V.resolve_left fun h3=>h h3.symm,.inr⟩
   simp only [hm]
   by_cases ha:a∈l
   ·rw [bK ha,bK ha,show(x::l).idxOf a=l.idxOf a+1 from CT h l]
    congr 1;omega
   ·rw [bG ha,bG ha]
def Kh(b:aw)(a:jJ): ∀(l:List jJ) (i:Nat) (at1:Int),l.Nodup->eN b a l i at1=eN b a [] (i+l.length) (if a∈l then((i+l.idxOf a:Nat):Int)else at1)
 |[],i,at1,_=>rfl
 |x::l,i,at1,hn=>by
  have hn' :=List.nodup_cons.1 hn
  conv=>lhs;unfold eN
  have hf:(if(x.Tag==a.Tag)=true then(s9 x.Arg a.Arg).bind fun r3=>some r3 else some false)=some (decide (x=a)):=by
   rw [D3]
   obtain⟨t1,⟨n1⟩⟩:=x
   obtain⟨t2,⟨n2⟩⟩:=a
   by_cases A:t1=t2
   ·subst A;by_cases V:n1=n2<;>simp [V]
   ·have:(t1==t2)=false:=by simpa using A
    simp [this,A]
  rw [hf,aX,show i+(x::l).length=i+1+l.length from by simp only [gq];omega]
  by_cases h:x=a
  ·subst h
   rw [bK (by simp),Kh b x l (i+1) _ hn'.2,bG hn'.1,bK (ln ..)]
   simp
  ·rw [bG (by simpa using h),Kh b a l (i+1) _ hn'.2]
   have hm:(a∈x::l)=(a∈l):=by
    simp only [lK]
    exact propext ⟨fun V=>V.resolve_left fun h3=>h h3.symm,.inr⟩
   simp only [hm]
   by_cases ha:a∈l
   ·rw [bK ha,bK ha,show(x::l).idxOf a=l.idxOf a+1 from CT h l]
    congr 2;omega
   ·rw [bG ha,bG ha]
end Go.Proofs.YthbdkceckjihgaaGreatDoor


/- cm of this claim: B11. -/
set_option linter.all false
namespace Go.Proofs.YthbdkceckjihgaaGreatDoor
open Go

def Br(s s' :ac)(b b' :aw):Prop:=s' ={s with out:={s.out with Aggs:=s'.out.Aggs},groups:=s'.groups}/\b' ={b with out:={b.out with Aggs:=b'.out.Aggs}}/\s.groups<+:s'.groups
def Br.refl(s:ac)(b:aw):Br s s b b:=⟨rfl,rfl,List.prefix_refl _⟩
def Br.trans{s s1 s2:ac}{b b1 b2:aw}(h:Br s s1 b b1)(k:Br s1 s2 b1 b2):Br s s2 b b2:=by
 obtain⟨A,V,h3⟩:=h
 obtain⟨k1,k2,k3⟩:=k
 refine⟨?_,?_,h3.trans k3⟩
 ·rw [k1,A]
 ·rw [k2,V]
def PM{c:au}(hc:mX c){s:ac}{b:aw}(h:qo c s b)(a:jJ)(M:1<=a.Tag/\a.Tag<=5)(ha:a.Arg.Nodes.length<=50000):
  (∃e s' b',e≠0/\kI s a=some (0,e,s')/\mG b a=some (⟨[]⟩,e,b')/\Br s s' b b')\/(∃k s' b',kI s a=some (k,0,s')/\mG b a=some (⟨(Le (uq k)).flat 0⟩,0,b')/\qo c s' b' /\Br s s' b b' /\0<=k/\k<(s'.groups.length:Int)/\k<16):=by
 have hkl:=h.kindsLen hc
 have hal:=h.aggsLen
 have hkeys:=h.keysLen
 -- the code, up to its kind
 have hcode:kI s a=if(oE a s.kinds).2 then iL s a (oE a s.kinds).1 else some (0,201,s):=by
  unfold kI oE
  rw [la _ _ ha]
  by_cases A:a.Tag=1
  ·rw [bG (by simp [A]),bK A];rfl
  ·rw [bK (by simpa using A),bG A,aX]
   by_cases V:(dI a.Arg s.kinds).2≠0\/(a.Tag=3/\(dI a.Arg s.kinds).1≠2/\(dI a.Arg s.kinds).1≠0)
   ·rw [bK V,bK (by simpa [and_assoc] using V)];rfl
   ·rw [bG V,bG (by simpa [and_assoc] using V)]
    by_cases h3:a.Tag=2\/a.Tag=3
    ·rw [bK h3,bG (by simp;omega)];rfl
    ·rw [bG h3,bK (by simp;omega)];rfl
 rw [hcode]
 unfold mG
 rw [h.refKinds hc,aX,DM,aX,Kh b a _ _ _ h.aggsOnce]
 cases hok:(oE a s.kinds).2 with
 |false=>exact .inl ⟨201,s,b,by decide,rfl,rfl,Br.refl _ _⟩
 |true=>
  simp only [pi,j0,iB,gO,ph]
  unfold iL gw
  rw [H2,aX,h.out,ph]
  by_cases hm:a∈b.out.Aggs
  ·-- it is there
   have hix:=List.idxOf_lt_length_of_mem hm
   rw [bK hm,bK hm,bG (by rw [il];omega)]
   have hw:IntKind.i64.wrap ((b.out.Keys.length:Int)+((b.out.Aggs.idxOf a:Nat):Int))=((b.out.Keys.length+b.out.Aggs.idxOf a:Nat):Int):=by rw [dS (by omega) (by omega)];omega
   right
   refine⟨((b.out.Keys.length+b.out.Aggs.idxOf a:Nat):Int),s,b,?_,?_,h,Br.refl _ _,by omega,by have:=h.groupsLen;omega,by omega⟩
   ·unfold jZ
    rw [h.out,bG (by rw [il];omega),hw]
   ·unfold eN kj
    rw [bG (by rw [sv];omega),bG (by rw [il];omega),hw]
    rw [show(⟨2,0,0,((b.out.Keys.length+b.out.Aggs.idxOf a:Nat):Int),⟨0,0,0,[]⟩⟩:ap)=uq ((b.out.Keys.length+b.out.Aggs.idxOf a:Nat):Int)from rfl,sI]
    rfl
  ·-- it is new
   rw [bG hm,bG hm,bK (by decide),cW (by simp;omega),aX,cW (by have:=h.groupsLen;simp;omega),aX]
   unfold eN
   rw [bK (by simp),cW (by simp;omega),aX]
   unfold jZ kj
   simp only [mY,wb]
   by_cases h12:b.out.Aggs.length+1<=12
   ·have hw:IntKind.i64.wrap ((b.out.Keys.length:Int)+((b.out.Aggs.length:Nat):Int))=((b.out.Keys.length+b.out.Aggs.length:Nat):Int):=by rw [dS (by omega) (by omega)];omega
    rw [bG (by rw [il];omega),bG (by rw [il];omega),hw]
    rw [show(⟨2,0,0,((b.out.Keys.length+b.out.Aggs.length:Nat):Int),⟨0,0,0,[]⟩⟩:ap)=uq ((b.out.Keys.length+b.out.Aggs.length:Nat):Int)from rfl,sI,aX]
    right
    refine⟨_,_,_,rfl,rfl,?_,⟨?_,rfl,List.prefix_append _ _⟩,by omega,?_,by omega⟩
    ·refine⟨h.cat,h.bc,rfl,h.kinds,h.len,h.bad,h.few,⟨h.maps.called,h.maps.alone,h.maps.behind,h.maps.once⟩,?_,h.keys,h.keysLen,by simpa using h12,?_,?_⟩
     ·simp only
      rw [h.groups]
      simp [rx]
     ·simp only
      rw [List.nodup_append]
      refine⟨h.aggsOnce,by simp,fun x D y hy e=>?_⟩
      rw [uk.1 hy]at e
      exact hm (e▸D)
     ·intro x D
      rcases uu.1 D with D|D
      ·exact h.aggsOk x D
      ·rw [uk.1 D];exact⟨hok,M,ha⟩
    ·rw [h.out]
    ·have:=h.groupsLen;simp only [mY,wb];omega
   ·rw [bK (by rw [il];omega),bK (by rw [il];omega)]
    left
    refine⟨228,_,_,by decide,rfl,rfl,?_,rfl,List.prefix_append _ _⟩
    rw [h.out]
end Go.Proofs.YthbdkceckjihgaaGreatDoor


/- cm of this claim: B12. -/
set_option linter.all false
namespace Go.Proofs.YthbdkceckjihgaaGreatDoor
open Go

def ov(s:ac)(g:Bool):List Int:=if g then s.groups else s.kinds
def pS:ac->Bool->Option ((List Int)×ac):=fun(mc:ac) (mx:Bool)=>(eU mc mx).map fun mr=>(mr,mc)
def HE(s:ac)(g:Bool):pS s g=some (ov s g,s):=by
 unfold pS eU ov
 cases g<;>rfl
def qo.ov4{c:au}{s:ac}{b:aw}(hc:mX c)(h:qo c s b)(g:Bool): ∀k∈ov s g,k4 k:=by
 unfold ov
 cases g with
 |true=>exact h.groups4 hc
 |false=>exact h.kinds4 hc
def LN(c:au)(s:ac)(b:aw)(g:Bool)(n:Nat)(C:Option (aB×Int×ac))(hx:Option (aB×Int×aw)):Prop:=
 (∃(e:Int) (x:aB) (s' :ac) (x' :aB) (b' :aw),e≠0/\C=some (x,e,s')/\hx=some (x',e,b')/\Br s s' b b')\/
 (∃(t:Tr) (s' :ac) (b' :aw),C=some ((⟨t.flat 0⟩:aB),0,s')/\hx=some ((⟨t.flat 0⟩:aB),0,b')/\t.wf/\t.size<=n/\qo c s' b' /\Br s s' b b' /\(g=false->s' =s/\b' =b)/\(dI ⟨t.flat 0⟩ (ov s' g)).2=0)
def O3(s:ac)(g:Bool){x:aB}(D:x.Nodes.length<=50000):gk pS g s 0 x=some (x,(dI x (ov s g)).2,s):=by
 unfold gk
 rw [bK (by rfl),HE,aX,la _ _ D,aX]
 rfl
def QX{c:au}(hc:mX c){s:ac}{b:aw}(h:qo c s b)(g:Bool)(x y:aB):io g y x b=some (x,(dI x (ov s g)).2,b):=by
 unfold io me ov
 rw [h.refKinds hc,aX]
 cases g with
 |true=>
  simp only [gO]
  rw [h.refGroups hc,aX,m4];rfl
 |false=>
  simp only [j0,iB]
  rw [m4];rfl
def Ih{c:au}(hc:mX c){s s' :ac}{b b' :aw}(h:qo c s' b')(hf:Br s s' b b'){g:Bool}(hg:g=false->s' =s/\b' =b){t:Tr}(hw:t.wf)(hs:t.size<=900){n:Nat}(hn:t.size<=n)(y:aB):
  LN c s b g n (gk pS g s' 0 ⟨t.flat 0⟩) (io g y ⟨t.flat 0⟩ b'):=by
 rw [O3 s' g (by show(t.flat 0).length<=50000;rw [t.flat_len];omega),QX hc h]
 by_cases he:(dI ⟨t.flat 0⟩ (ov s' g)).2=0
 ·exact .inr ⟨t,s',b',by rw [he],by rw [he],hw,hn,h,hf,hg,he⟩
 ·exact .inl ⟨_,_,_,_,_,he,rfl,rfl,hf⟩
def Ah(n:ap){r:aB×Int}(h:ql n=some r):bm n=some r:=by
 unfold bm
 rw [h];rfl
def Ir{c:au}(hc:mX c){s:ac}{b:aw}(h:qo c s b){g:Bool}{k:Int}(h0:0<=k)(A:k<((ov s g).length:Int))(h16:k<16)(r1:Int×Int)(hr:r1.2=0)(y:aB){n:Nat}(hn:1<=n):
  LN c s b g n (dv s bm k 0) (gh b r1 k y):=by
 unfold dv gh
 rw [bG (by decide),show(⟨2,0,0,k,⟨0,0,0,[]⟩⟩:ap)=uq k from rfl,Ah _ (vJ (tL k) (qR h0 h16)),sI,aX,aX,hr]
 exact .inr ⟨Le (uq k),s,b,rfl,rfl,xe (tL k) (qR h0 h16),hn,h,Br.refl _ _,fun _=>⟨rfl,rfl⟩,CP (h.ov4 hc g) h0 A h16⟩
def EV(v:Int): ∀(l:List Int) (i:Nat),ga v l i=some (if v∈l then((i+l.idxOf v:Nat):Int)else -1)
 |[],i=>rfl
 |x::l,i=>by
  unfold ga
  by_cases h:v=x
  ·subst h;simp
  ·rw [bG (by simpa using h),EV v l (i+1)]
   have hs:(x::l).idxOf v=l.idxOf v+1:=by
    have:(x==v)=false:=by simpa using Ne.symm h
    simp [List.idxOf,List.findIdx_cons,this]
   have hm:(v∈x::l)=(v∈l):=by
    simp only [lK]
    exact propext ⟨fun V=>V.resolve_left h,.inr⟩
   simp only [hm,hs]
   by_cases hv:v∈l
   ·rw [bK hv,bK hv];congr 1;omega
   ·rw [bG hv,bG hv]
def JH{x v:Int}(h: ¬x=v)(l:List Int):(x::l).idxOf v=l.idxOf v+1:=by
 have:(x==v)=false:=by simpa using h
 simp [List.idxOf,List.findIdx_cons,this]
def TB(v:Int): ∀(l m:List Int),v∈l->(l++m).idxOf v=l.idxOf v
 |x::l,m,h=>by
  by_cases D:x=v
  ·subst D;simp
  ·rw [xN,JH D,JH D,TB v l m ((lK.1 h).resolve_left fun e=>D e.symm)]
def Sv(v:Int): ∀(l m:List Int),v∉l->(l++m).idxOf v=l.length+m.idxOf v
 |[],m,_=>by simp
 |x::l,m,h=>by
  rw [lK,not_or]at h
  rw [xN,JH (fun e=>h.1 e.symm),Sv v l m h.2,gq];omega
def To(b:aw)(r1:Int×Int)(hl:b.out.Keys.length<=1000): ∀(j fu:Nat) (own:Int),j<=b.out.Keys.length->j<fu->c0 b r1 fu own ((j:Int)-1)=c0 b r1 1 (if r1.1∈b.out.Keys.take j then(((b.out.Keys.take j).idxOf r1.1:Nat):Int)else own) (-1):=by
 intro j
 induction j with
 |zero=>
  intro fu own _ hf
  obtain⟨fu,rfl⟩: ∃k,fu=k+1:=⟨fu-1,by omega⟩
  simp only [List.take_zero,List.not_mem_nil,iB]
  rw [show((0:Nat):Int)-1= -1 from rfl]
  conv=>lhs;unfold c0
  conv=>rhs;unfold c0
  have hd:decide ((0:Int)<= -1)=false:=rfl
  simp only [hd,j0,iB]
 |succ j ih=>
  intro fu own hj hf
  obtain⟨fu,rfl⟩: ∃k,fu=k+1:=⟨fu-1,by omega⟩
  have hlt:j<b.out.Keys.length:=by omega
  conv=>lhs;unfold c0
  rw [bK (by rw [il];omega),jk j (by omega),kQ hlt,aX,dS (by omega) (by omega),show((j+1:Nat):Int)-1-1=(j:Int)-1 from by omega]
  have M:b.out.Keys.take (j+1)=b.out.Keys.take j++[b.out.Keys[j]]:=by rw [KE hlt]
  rw [M]
  by_cases hk:b.out.Keys[j]=r1.1
  ·rw [bK (by simpa using hk),ih fu _ (by omega) (by omega)]
   congr 1
   by_cases hm:r1.1∈b.out.Keys.take j
   ·rw [bK hm,bK (BQ _ hm),TB _ _ _ hm]
   ·rw [bG hm,bK (by rw [hk];simp),hk]
    have:(b.out.Keys.take j++[r1.1]).idxOf r1.1=j:=by
     rw [Sv _ _ _ hm]
     simp [zf]
     omega
    rw [this];omega
  ·rw [bG (by simpa using hk),ih fu _ (by omega) (by omega)]
   congr 1
   by_cases hm:r1.1∈b.out.Keys.take j
   ·rw [bK hm,bK (BQ _ hm),TB _ _ _ hm]
   ·rw [bG hm,bG]
    intro V
    rcases uu.1 V with V|V
    ·exact hm V
    ·exact hk (uk.1 V).symm
def QF(b:aw)(r1:Int×Int)(own:Int):c0 b r1 1 own (-1)=if own<0 then some (⟨[]⟩,225,b)else gh b r1 own ⟨[]⟩:=by
 unfold c0
 rw [bG (by decide)]
 by_cases h:own<0
 ·rw [bK h,bK (by simpa using h)]
 ·rw [bG h,bG (by simpa using h)]
def MX{c:au}(hc:mX c){s:ac}{b:aw}(h:qo c s b)(at1:Int){n:Nat}(hn:1<=n):
  LN c s b true n ((jT s.out.Keys at1).bind fun r3=>if(decide (r3<(0:Int)))then(dv s bm r3 (225:Int))else(dv s bm r3 0))
   (c0 b (at1,0) nA (-1:Int) (IntKind.i64.wrap ((b.out.Keys.length:Int)-(1:Int)))):=by
 have hkl:=h.keysLen
 unfold jT
 rw [EV,aX,h.out,ph,dS (by omega) (by omega),To b (at1,0) (by omega) b.out.Keys.length nA _ (eX _) (by unfold nA;omega),xU,QF]
 by_cases hm:at1∈b.out.Keys
 ·have hix:=List.idxOf_lt_length_of_mem hm
  rw [bK hm,bG (by rw [il];omega),bG (by omega)]
  exact Ir hc h (by omega) (by unfold ov;have:=h.groupsLen;simp only [gO];omega) (by omega) (at1,0) rfl _ hn
 ·rw [bG hm,bK (by decide),bK (by omega)]
  unfold dv
  rw [bK (by decide)]
  exact .inl ⟨225,_,_,_,_,by decide,rfl,rfl,Br.refl _ _⟩
def IA{tag:Int}(h:tag=3\/(8<=tag/\tag<=11)): ∃k:Int,(fD mS tag).getD (0:Int)=k/\s7 tag=some k/\1<=k/\k<=5:=by
 have:tag=3\/tag=8\/tag=9\/tag=10\/tag=11:=by omega
 rcases this with rfl|rfl|rfl|rfl|rfl
 ·exact⟨1,rfl,rfl,by decide,by decide⟩
 ·exact⟨2,rfl,rfl,by decide,by decide⟩
 ·exact⟨3,rfl,rfl,by decide,by decide⟩
 ·exact⟨4,rfl,rfl,by decide,by decide⟩
 ·exact⟨5,rfl,rfl,by decide,by decide⟩
def R6{c:au}(hc:mX c){s:ac}{b:aw}(h:qo c s b){m:cw}{k:Int}(hk:s7 m.Tag=some k)(A:1<=k)(h5:k<=5){arg:aB}(ha:arg.Nodes.length<=50000){n:Nat}(hn:1<=n):
  LN c s b true n (ep bm s ⟨k,arg⟩) (ge m arg b 0):=by
 unfold ep ge
 rw [bG (by decide),hk,aX]
 rcases PM hc h ⟨k,arg⟩ ⟨A,h5⟩ ha with⟨e,s',b',he,g1,g2,g3⟩|⟨j,s',b',g1,g2,g3,g4,g5,g6,g7⟩
 ·rw [g1,g2,aX,aX,bK (by simpa using he)]
  exact .inl ⟨e,_,_,_,_,he,rfl,rfl,g3⟩
 ·rw [g1,g2,aX,aX]
  simp only [Ej,j0,iB]
  rw [show(⟨2,0,0,j,⟨0,0,0,[]⟩⟩:ap)=uq j from rfl,Ah _ (vJ (tL j) (qR g5 g7)),aX]
  exact .inr ⟨Le (uq j),s',b',rfl,rfl,xe (tL j) (qR g5 g7),hn,g3,g4,fun e=>(by cases e),CP (g3.ov4 hc true) g5 g6 g7⟩
end Go.Proofs.YthbdkceckjihgaaGreatDoor


/- cm of this claim: B13. -/
set_option linter.all false
namespace Go.Proofs.YthbdkceckjihgaaGreatDoor
open Go

def vZ{c:au}{s:ac}{b:aw}{g:Bool}{n:Nat}{e:Int}(he:e≠0){x:aB}{s' :ac}{x' :aB}{b' :aw}(hf:Br s s' b b'):LN c s b g n (some (x,e,s')) (some (x',e,b')):= .inl ⟨e,x,s',x',b',he,rfl,rfl,hf⟩
def PB{n:cw}(h:vj n=true)(M:n.Tag=1):pP n.Value=true:=by
 unfold vj at h
 rw [bK M]at h
 simp only [gM,FY]at h
 exact h.2.1.1
def F3{N P R:List cw}{a:List cw}{m:cw}(hN:N=P++(a++[m])++R):N[P.length+a.length]? =some m:=by
 rw [hN,gQ,gQ,<-gQ P,uw (by simp)]
 simp
def vo(tag:Int):sO tag=true↔(tag=3\/(8<=tag/\tag<=11)):=by
 unfold sO;simp
def Ff{tag:Int}(h:sO tag=false):(fD mS tag).getD (0:Int)=0:=by
 have V: ¬(tag=3\/(8<=tag/\tag<=11)):=fun e=>by rw [(vo tag).2 e]at h;cases h
 unfold mS
 simp only [fD]
 rw [bG (show¬(3:Int)=tag by omega),bG (show¬(8:Int)=tag by omega),bG (show¬(9:Int)=tag by omega),bG (show¬(10:Int)=tag by omega),bG (show¬(11:Int)=tag by omega)]
 rfl
def MD{tag:Int}(h:Ox tag=some 1)(ha:sO tag=false):pk tag=some 1:=by
 have V: ¬(tag=3\/(8<=tag/\tag<=11)):=fun e=>by rw [(vo tag).2 e]at ha;cases ha
 unfold Ox at h
 unfold pk
 split at h
 ·cases h
 ·split at h
  ·rw [bG (by omega),bK (by omega)]
  ·split at h<;>cases h
def MC{tag:Int}(h:Ox tag=some 2):pk tag=some 2/\sO tag=false:=by
 have h12:12<=tag/\tag<=23:=by
  unfold Ox at h
  split at h
  ·cases h
  ·split at h
   ·cases h
   ·split at h
    ·assumption
    ·cases h
 refine⟨?_,?_⟩
 ·unfold pk
  rw [bG (by omega),bG (by omega),bK (by omega)]
 ·cases H:sO tag with
  |false=>rfl
  |true=>have:=(vo tag).1 H;omega
def JJ(l r:Int):fE [l,r] ((0:Nat):Int)=some l:=rfl
def JI(l r:Int):fE [l,r] ((0+1:Nat):Int)=some r:=rfl
abbrev cT(fu:Nat)(s:ac)(N:List cw)(p:Int)(g:Bool):=bE fu s ⟨N⟩ bm mS pS p g
abbrev dT(fu:Nat)(b:aw)(N:List cw)(p:Int)(g:Bool):=bP fu b ⟨N⟩ p g
def LM{c:au}(hc:mX c){s s' :ac}{b b' :aw}(h:qo c s' b')(hf:Br s s' b b'){g:Bool}{m:cw}(hm:sO m.Tag=true){parts:List aB}{arg:aB}(ha:arg.Nodes.length<=50000)(hp:(parts=[]/\arg=⟨[]⟩)\/parts=[arg])(x:aB){n:Nat}(hn:1<=n):
  LN c s b g n (fj bm mS pS g m parts x s') (ip g m 0 arg b'):=by
 obtain⟨k,A,V,h3,h4⟩:=IA ((vo m.Tag).1 hm)
 unfold fj ip
 rw [A]
 have d:decide ((0:Int)<k)=true:=by rw [il];omega
 rw [d]
 cases g with
 |false=>
  unfold ge
  simp only [xJ,Bool.and_self,gO,Ay]
  exact vZ (by decide) hf
 |true=>
  simp only [pi,Bool.and_false,j0,iB,gO]
  have hk3:(if decide ((0:Int)<(parts.length:Int))=true then(fE parts (0:Int)).bind fun e2=>ep bm s' (jJ.mk (⟨k,⟨[]⟩⟩:jJ).Tag e2)else ep bm s' ⟨k,⟨[]⟩⟩)=ep bm s' ⟨k,arg⟩:=by
   rcases hp with⟨rfl,rfl⟩|rfl
   ·rfl
   ·rfl
  rw [hk3]
  rcases R6 hc h V h3 h4 ha hn with⟨e,x1,s1,x2,b1,he,g1,g2,g3⟩|⟨t,s1,b1,g1,g2,g3,g4,g5,g6,g7,g8⟩
  ·exact .inl ⟨e,x1,s1,x2,b1,he,g1,g2,hf.trans g3⟩
  ·exact .inr ⟨t,s1,b1,g1,g2,g3,g4,g5,hf.trans g6,fun e=>(by cases e),g8⟩
def Mb{c:au}(hc:mX c)(a:Bt):a.wf-> ∀(P R N:List cw) (fu fu2:Nat) (s:ac) (b:aw) (g:Bool),N=P++a.flat P.length++R->a.size<=fu->a.size<=fu2->N.length<=1000->a.size<=300->qo c s b->
  LN c s b g a.size (cT fu s N (((P.length+a.size:Nat):Int)-1) g) (dT fu2 b N (((P.length+a.size:Nat):Int)-1) g):=by
 induction a with
 |lf n=>
  intro⟨A,V,h3,h4⟩ P R N fu fu2 s b g hN hf hf2 hl hs h
  simp only [Bt.size]at hf hf2 ⊢
  obtain⟨fu,rfl⟩: ∃k,fu=k+1:=⟨fu-1,by omega⟩
  obtain⟨fu2,rfl⟩: ∃k,fu2=k+1:=⟨fu2-1,by omega⟩
  have D:N[P.length]? =some n:=by
   have:=F3 (a:=[]) (m:=putA n (-1) (-1)) (by simpa [Bt.flat] using hN)
   rw [pj,BS]at this
   rw [this]
   cases n;simp only at h3 h4;subst h3 h4;rfl
  unfold cT dT bE bP
  rw [jk P.length (by omega),D,aX,aX]
  have M:n.Tag=1\/n.Tag=2\/n.Tag=3:=by
   unfold Ox at A
   split at A
   ·omega
   ·split at A
    ·cases A
    ·split at A<;>cases A
  rcases M with M|M|M
  ·-- a literal
   have hv:=PB V M
   rw [bK (by simpa using M),bK (by simpa using M),show(⟨1,0,0,0,n.Value⟩:ap)=ON n.Value from rfl,Ah _ (vJ (show pk 1=some 0 from rfl) (CN hv)),sI,aX,aX]
   exact .inr ⟨Le (ON n.Value),s,b,rfl,rfl,xe (show pk 1=some 0 from rfl) (CN hv),eX _,h,Br.refl _ _,fun _=>⟨rfl,rfl⟩,OQ hv (h.ov4 hc g)⟩
  ·-- a name
   rw [bG (by simp [M]),bK (by simpa using M),bG (by simp [M]),bK (by simpa using M)]
   obtain⟨c1,c2⟩:=h.column hc (⟨n.Table,n.Name⟩:iN)
   simp only at c1 c2
   rw [c1,c2,aX,aX]
   by_cases he:(uo (dM c b.sources b.out.Tables) n.Table n.Name).2=0
   ·obtain⟨k0,k1⟩:=h.colIn n.Table n.Name he
    have hkl:=h.kindsLen hc
    cases g with
    |false=>
     rw [bG (by simp),bG (by simp)]
     have:=Ir hc h (g:=false) k0 (by unfold ov;simpa using k1) (by omega) (uo (dM c b.sources b.out.Tables) n.Table n.Name) he ⟨[]⟩ (n:=1) (eX _)
     rw [he]
     exact this
    |true=>
     rw [bK (by simp [he]),bK (by simp [he])]
     have hp:uo (dM c b.sources b.out.Tables) n.Table n.Name=((uo (dM c b.sources b.out.Tables) n.Table n.Name).1,0):=Prod.ext rfl he
     rw [hp]
     exact MX hc h _ (eX _)
   ·rw [bG (by simp [he]),bG (by simp [he])]
    unfold dv gh
    rw [bK (by simpa using he),show(⟨2,0,0,(uo (dM c b.sources b.out.Tables) n.Table n.Name).1,⟨0,0,0,[]⟩⟩:ap)=uq (uo (dM c b.sources b.out.Tables) n.Table n.Name).1 from rfl,sI,aX]
    exact vZ he (Br.refl _ _)
  ·-- all that there are
   have hag:sO n.Tag=true:=by rw [M];rfl
   rw [bG (by simp [M]),bG (by simp [M]),bG (by simp [M]),bG (by simp [M]),show jO n.Tag=some (sO n.Tag)from rfl,hag,aX,bK rfl]
   unfold du
   rw [h3,h4,JJ,aX,bK (by decide),bG (by decide)]
   exact LM hc h (Br.refl _ _) hag (by show 0<=50000;omega) (.inl ⟨rfl,rfl⟩) _ (eX _)
 |un n a ih=>
  intro⟨⟨A,V,h3,h4⟩,ha⟩ P R N fu fu2 s b g hN hf hf2 hl hs h
  obtain⟨m,hm⟩: ∃m,m=putA n (((P.length+a.size:Nat):Int)-1) (-1):=⟨_,rfl⟩
  simp only [Bt.flat,<-hm]at hN
  simp only [Bt.size]at hf hf2 hs ⊢
  have hpos:=a.size_pos
  obtain⟨fu,rfl⟩: ∃k,fu=k+1:=⟨fu-1,by omega⟩
  obtain⟨fu2,rfl⟩: ∃k,fu2=k+1:=⟨fu2-1,by omega⟩
  have D:N[P.length+a.size]? =some m:=by
   have:=F3 (a:=a.flat P.length) (m:=m) hN
   rw [a.flat_len]at this
   exact this
  have hi:=ih ha P ([m]++R) N fu fu2
  have hNa:N=P++a.flat P.length++([m]++R):=by rw [hN];simp only [gQ]
  have eT:m.Tag=n.Tag:=by rw [hm];rfl
  have eL:m.L=((P.length+a.size:Nat):Int)-1:=by rw [hm];rfl
  have eR:m.R= -1:=by rw [hm];rfl
  have t1: ¬n.Tag=1:=fun e=>by rw [e]at A;cases A
  have t2: ¬n.Tag=2:=fun e=>by rw [e]at A;cases A
  unfold cT dT bE bP
  rw [jk (P.length+a.size) (by omega),D,aX,aX,bG (by simpa [eT] using t1),bG (by simpa [eT] using t2),bG (by simpa [eT] using t1),bG (by simpa [eT] using t2),show jO m.Tag=some (sO m.Tag)from rfl,aX]
  have dL:decide (m.L<(0:Int))=false:=by rw [eL,qt];omega
  have dL2:decide ((0:Int)<=m.L)=true:=by rw [eL,il];omega
  have dR:decide (m.R<(0:Int))=true:=by rw [eR];rfl
  have dR2:decide ((0:Int)<=m.R)=false:=by rw [eR];rfl
  unfold du
  rw [JJ,aX,dL]
  simp only [j0,iB]
  cases hag:sO m.Tag with
  |true=>
   obtain⟨k,k1,k2,k3,k4⟩:=IA ((vo m.Tag).1 hag)
   have kz:(k==(0:Int))=false:=by rw [Ek];omega
   rw [bK rfl,dL2,bK rfl,k1,kz,Bool.and_false,eL]
   rcases hi s b false hNa (by omega) (by omega) hl (by omega) h with⟨e,x,s',x',b',he,g1,g2,g3⟩|⟨t,s',b',g1,g2,g3,g4,g5,g6,g7,g8⟩
   ·rw [show bE fu s ⟨N⟩ bm mS pS (((P.length+a.size:Nat):Int)-1) false=_ from g1,show bP fu2 b ⟨N⟩ (((P.length+a.size:Nat):Int)-1) false=_ from g2,aX,aX,bK (by simpa using he)]
    unfold ip ge
    have hz:(e==(0:Int))=false:=by rw [Ek];exact he
    simp only [hz,Bool.false_and,j0,iB]
    rw [bK (by simpa using he)]
    exact vZ he g3
   ·rw [show bE fu s ⟨N⟩ bm mS pS (((P.length+a.size:Nat):Int)-1) false=_ from g1,show bP fu2 b ⟨N⟩ (((P.length+a.size:Nat):Int)-1) false=_ from g2,aX,aX,bG (show¬((0:Int) !=0)=true by decide),cW (by simp),aX]
    unfold du
    rw [JI,aX,dR,bK rfl]
    exact LM hc g5 g6 hag (by show(t.flat 0).length<=50000;rw [t.flat_len];omega) (.inr rfl) _ (by omega)
  |false=>
   have hz:=Ff hag
   have hpk:pk m.Tag=some 1:=MD (by rw [eT];exact A) hag
   rw [bG (by decide),hz,Ay,Bool.and_true,eL]
   rcases hi s b g hNa (by omega) (by omega) hl (by omega) h with⟨e,x,s',x',b',he,g1,g2,g3⟩|⟨t,s',b',g1,g2,g3,g4,g5,g6,g7,g8⟩
   ·rw [show bE fu s ⟨N⟩ bm mS pS (((P.length+a.size:Nat):Int)-1) g=_ from g1,show bP fu2 b ⟨N⟩ (((P.length+a.size:Nat):Int)-1) g=_ from g2,aX,aX,bK (by simpa using he),bK (by simpa using he)]
    exact vZ he g3
   ·rw [show bE fu s ⟨N⟩ bm mS pS (((P.length+a.size:Nat):Int)-1) g=_ from g1,show bP fu2 b ⟨N⟩ (((P.length+a.size:Nat):Int)-1) g=_ from g2,aX,aX,bG (show¬((0:Int) !=0)=true by decide),bG (show¬((0:Int) !=0)=true by decide),cW (by simp),aX]
    unfold du
    rw [JI,aX,dR,bK rfl,dR2]
    simp only [j0,iB]
    rw [KY m.Tag (by omega),aX]
    unfold fj
    rw [hz]
    have e1:fE ([]++[(⟨t.flat 0⟩:aB)]) (0:Int)=some ⟨t.flat 0⟩:=rfl
    rw [bG (by simp),bG (by simp),e1,aX,OC hpk g3 (by omega),aX,bG (by simp)]
    exact Ih hc g5 g6 g7 (Sj hpk g3) (by simp only [Tr.size];omega) (by simp only [Tr.size];omega) _
 |bi n a d iha ihb=>
  intro⟨⟨A,V,h3,h4⟩,ha,H⟩ P R N fu fu2 s b g hN hf hf2 hl hs h
  obtain⟨m,hm⟩: ∃m,m=putA n (((P.length+a.size:Nat):Int)-1) (((P.length+a.size+d.size:Nat):Int)-1):=⟨_,rfl⟩
  simp only [Bt.flat,<-hm]at hN
  simp only [Bt.size]at hf hf2 hs ⊢
  have hap:=a.size_pos
  have hbp:=d.size_pos
  obtain⟨fu,rfl⟩: ∃k,fu=k+1:=⟨fu-1,by omega⟩
  obtain⟨fu2,rfl⟩: ∃k,fu2=k+1:=⟨fu2-1,by omega⟩
  have D:N[P.length+(a.size+d.size)]? =some m:=by
   have:=F3 (a:=a.flat P.length++d.flat (P.length+a.size)) (m:=m) hN
   rw [mY,a.flat_len,d.flat_len]at this
   exact this
  have hNa:N=P++a.flat P.length++(d.flat (P.length+a.size)++[m]++R):=by rw [hN];simp only [gQ]
  have hNb:N=(P++a.flat P.length)++d.flat (P++a.flat P.length).length++([m]++R):=by rw [hN];simp only [gQ,mY,a.flat_len]
  have hi1:=fun s b=>iha ha P _ N fu fu2 s b g hNa (by omega) (by omega) hl (by omega)
  have hi2:=fun s b=>ihb H (P++a.flat P.length) _ N fu fu2 s b g hNb (by omega) (by omega) hl (by omega)
  rw [mY,a.flat_len]at hi2
  have eT:m.Tag=n.Tag:=by rw [hm];rfl
  have eL:m.L=((P.length+a.size:Nat):Int)-1:=by rw [hm];rfl
  have eR:m.R=((P.length+a.size+d.size:Nat):Int)-1:=by rw [hm];rfl
  have t1: ¬n.Tag=1:=fun e=>by rw [e]at A;cases A
  have t2: ¬n.Tag=2:=fun e=>by rw [e]at A;cases A
  obtain⟨hpk,hag0⟩:=MC A
  have hag:sO m.Tag=false:=by rw [eT];exact hag0
  have hpk' :pk m.Tag=some 2:=by rw [eT];exact hpk
  unfold cT dT bE bP
  rw [jk (P.length+(a.size+d.size)) (by omega),D,aX,aX,bG (by simpa [eT] using t1),bG (by simpa [eT] using t2),bG (by simpa [eT] using t1),bG (by simpa [eT] using t2),show jO m.Tag=some (sO m.Tag)from rfl,aX]
  have dL:decide (m.L<(0:Int))=false:=by rw [eL,qt];omega
  have dR:decide (m.R<(0:Int))=false:=by rw [eR,qt];omega
  have dR2:decide ((0:Int)<=m.R)=true:=by rw [eR,il];omega
  unfold du
  rw [JJ,aX,dL]
  simp only [j0,iB]
  have hz:=Ff hag
  rw [hag,bG (by decide),hz,Ay,Bool.and_true,eL]
  rcases hi1 s b h with⟨e,x,s',x',b',he,g1,g2,g3⟩|⟨t,s',b',g1,g2,g3,g4,g5,g6,g7,g8⟩
  ·rw [show bE fu s ⟨N⟩ bm mS pS (((P.length+a.size:Nat):Int)-1) g=_ from g1,show bP fu2 b ⟨N⟩ (((P.length+a.size:Nat):Int)-1) g=_ from g2,aX,aX,bK (by simpa using he),bK (by simpa using he)]
   exact vZ he g3
  ·rw [show bE fu s ⟨N⟩ bm mS pS (((P.length+a.size:Nat):Int)-1) g=_ from g1,show bP fu2 b ⟨N⟩ (((P.length+a.size:Nat):Int)-1) g=_ from g2,aX,aX,bG (show¬((0:Int) !=0)=true by decide),bG (show¬((0:Int) !=0)=true by decide),cW (by simp),aX]
   unfold du
   rw [JI,aX,dR,dR2]
   simp only [j0,iB,gO]
   rw [KY m.Tag (by omega),aX,hz,Ay,Bool.and_true,eR]
   rcases hi2 s' b' g5 with⟨e,x,s2,x2,b2,he,k1,k2,k3⟩|⟨u,s2,b2,k1,k2,k3,k4,k5,k6,k7,k8⟩
   ·rw [show bE fu s' ⟨N⟩ bm mS pS (((P.length+a.size+d.size:Nat):Int)-1) g=_ from k1,show bP fu2 b' ⟨N⟩ (((P.length+a.size+d.size:Nat):Int)-1) g=_ from k2,aX,aX,bK (by simpa using he),bK (by simpa using he)]
    exact vZ he (g6.trans k3)
   ·rw [show bE fu s' ⟨N⟩ bm mS pS (((P.length+a.size+d.size:Nat):Int)-1) g=_ from k1,show bP fu2 b' ⟨N⟩ (((P.length+a.size+d.size:Nat):Int)-1) g=_ from k2,aX,aX,bG (show¬((0:Int) !=0)=true by decide),bG (show¬((0:Int) !=0)=true by decide),cW (by simp),aX]
    unfold du
    rw [Qo m.Tag (by omega) (by omega),aX]
    unfold fj
    rw [hz]
    have e1:fE ([]++[(⟨t.flat 0⟩:aB)]++[(⟨u.flat 0⟩:aB)]) (0:Int)=some ⟨t.flat 0⟩:=rfl
    have e2:fE ([]++[(⟨t.flat 0⟩:aB)]++[(⟨u.flat 0⟩:aB)]) (1:Int)=some ⟨u.flat 0⟩:=rfl
    rw [bG (by simp),bG (by simp),e1,aX,K0 m.Tag g3 (by omega),aX,bK (by simp),e2,aX,NW hpk' g3 k3 (by omega),aX]
    refine Ih hc k5 (g6.trans k6) (fun hg=>?_) (SO hpk' g3 k3) (by simp only [Tr.size];omega) (by simp only [Tr.size];omega) _
    obtain⟨q1,q2⟩:=g7 hg
    obtain⟨q3,q4⟩:=k7 hg
    exact⟨q3.trans q1,q4.trans q2⟩
end Go.Proofs.YthbdkceckjihgaaGreatDoor


/- cm of this claim: B14. -/
set_option linter.all false
namespace Go.Proofs.YthbdkceckjihgaaGreatDoor
open Go

def Do{c:au}(hc:mX c){s:ac}{b:aw}(h:qo c s b)(t:cy)(M:lq t.Nodes=true)(g:Bool):
  (∃(e:Int) (s' :ac) (b' :aw),e≠0/\jQ s t g=some (⟨[]⟩,0,e,s')/\jy b t g=some (⟨[]⟩,e,b')/\Br s s' b b')\/
  (∃(u:Tr) (s' :ac) (b' :aw),jQ s t g=some (⟨u.flat 0⟩,(dI ⟨u.flat 0⟩ (ov s' g)).1,0,s')/\jy b t g=some (⟨u.flat 0⟩,0,b')/\u.wf/\u.size<=300/\qo c s' b' /\Br s s' b b' /\(g=false->s' =s/\b' =b)/\(dI ⟨u.flat 0⟩ (ov s' g)).2=0):=by
 unfold lq at M
 cases hA:Ep t.Nodes with
 |none=>rw [hA]at M;cases M
 |some a=>
  obtain⟨hw,hN,hs,_⟩:=Cc hA
  have hlen:t.Nodes.length=a.size:=by rw [hN,a.flat_len]
  have hp:=a.size_pos
  have key:=Mb hc a hw [] [] t.Nodes nA nA s b g (by simpa using hN) (BF (by omega)) (BF (by omega)) (by omega) hs h
  simp only [pj,ph,<-hlen]at key
  have hpl:IntKind.i64.wrap ((t.Nodes.length:Int)-1)=(t.Nodes.length:Int)-1:=dS (by omega) (by omega)
  unfold jQ jy rj om
  rw [wF,aX,hpl]
  rcases key with⟨e,x,s',x',b',he,g1,g2,g3⟩|⟨u,s',b',g1,g2,g3,g4,g5,g6,g7,g8⟩
  ·have g1' :bE nA s t bm mS pS ((t.Nodes.length:Int)-1) g=some (x,e,s'):=g1
   have g2' :bP nA b t ((t.Nodes.length:Int)-1) g=some (x',e,b'):=g2
   rw [show(bE nA s t bm mS (fun(mc:ac) (mx:Bool)=>(eU mc mx).map fun mr=>(mr,mc)) ((t.Nodes.length:Int)-1) g)=_ from g1',g2',aX,aX,bK (by simpa using he),bK (by simpa using he)]
   exact .inl ⟨e,s',b',he,rfl,rfl,g3⟩
  ·have g1' :bE nA s t bm mS pS ((t.Nodes.length:Int)-1) g=some (⟨u.flat 0⟩,0,s'):=g1
   have g2' :bP nA b t ((t.Nodes.length:Int)-1) g=some (⟨u.flat 0⟩,0,b'):=g2
   rw [show(bE nA s t bm mS (fun(mc:ac) (mx:Bool)=>(eU mc mx).map fun mr=>(mr,mc)) ((t.Nodes.length:Int)-1) g)=_ from g1',g2',aX,aX,bG (by simp),bG (by simp)]
   have hov:(eU s' g).map (fun mr=>(mr,s'))=some (ov s' g,s'):=HE s' g
   simp only
   rw [hov,aX,la _ _ (by show(u.flat 0).length<=50000;rw [u.flat_len];omega),aX]
   exact .inr ⟨u,s',b',by rw [g8],rfl,g3,by omega,g5,g6,g7,g8⟩
def wR{c:au}(hc:mX c){s:ac}{b:aw}(h:qo c s b)(t:cy)(M:lq t.Nodes=true)(g:Bool):
  (∃(e:Int) (x x' :aB) (s' :ac) (b' :aw),e≠0/\ej s t g=some (x,e,s')/\gU b t g=some (x',e,b')/\Br s s' b b')\/
  (∃(u:Tr) (s' :ac) (b' :aw),ej s t g=some (⟨u.flat 0⟩,0,s')/\gU b t g=some (⟨u.flat 0⟩,0,b')/\u.wf/\u.size<=300/\qo c s' b' /\Br s s' b b' /\(g=false->s' =s/\b' =b)/\(dI ⟨u.flat 0⟩ (ov s' g)).2=0/\((dI ⟨u.flat 0⟩ (ov s' g)).1=1\/(dI ⟨u.flat 0⟩ (ov s' g)).1=0)):=by
 unfold ej gU km
 rcases Do hc h t M g with⟨e,s',b',he,g1,g2,g3⟩|⟨u,s',b',g1,g2,g3,g4,g5,g6,g7,g8⟩
 ·rw [g1,g2,aX,aX,bG (by simp [he]),bK (by simpa using he)]
  exact .inl ⟨e,_,_,s',b',he,rfl,rfl,g3⟩
 ·rw [g1,g2,aX,aX]
  have hd:(jn b'.c b'.out.Tables).bind (fun r1=>if g=true then(js b'.c b'.out).bind fun r3=>fO (⟨u.flat 0⟩,0,b') r3 else fO (⟨u.flat 0⟩,0,b') r1)=fO (⟨u.flat 0⟩,0,b') (ov s' g):=by
   rw [g5.refKinds hc,aX]
   unfold ov
   cases g with
   |true=>rw [bK rfl,g5.refGroups hc,aX];rfl
   |false=>rfl
  simp only [Ej,j0,iB]
  rw [hd]
  unfold fO
  rw [m4,aX]
  by_cases hk:(dI ⟨u.flat 0⟩ (ov s' g)).1=1\/(dI ⟨u.flat 0⟩ (ov s' g)).1=0
  ·rw [bG (by simp;omega),bG (by simp;omega)]
   exact .inr ⟨u,s',b',rfl,rfl,g3,g4,g5,g6,g7,g8,hk⟩
  ·rw [bK (by simp;omega),bK (by simp;omega)]
   exact .inl ⟨226,_,_,s',b',by decide,rfl,rfl,g6⟩
def qo.upd{c:au}{s:ac}{b:aw}(h:qo c s b)(o:aK)(A:o.Tables=b.out.Tables)(V:o.Keys=b.out.Keys)(h3:o.Aggs=b.out.Aggs)(f:ay)(a:Int):qo c {s with out:=o,from_:=f,at_:=a} {b with out:=o}:=by
 refine⟨h.cat,h.bc,rfl,?_,?_,?_,?_,?_,?_,?_,?_,?_,?_,?_⟩
 all_goals simp only
 ·rw [A];exact h.kinds
 ·rw [A];exact h.len
 ·rw [A];exact h.bad
 ·rw [A];exact h.few
 ·rw [A];exact⟨h.maps.called,h.maps.alone,h.maps.behind,h.maps.once⟩
 ·rw [V,h3];exact h.groups
 ·rw [V];exact h.keys
 ·rw [V];exact h.keysLen
 ·rw [h3];exact h.aggsLen
 ·rw [h3];exact h.aggsOnce
 ·rw [h3];exact h.aggsOk
def F8{tD hb:List Int}: ∀t:Tr,t.wf->Dl tD.length t->kd (tD++hb) t=kd tD t
 | .lf n,hw,hc=>by
  unfold kd
  by_cases A:n.Tag=1
  ·rw [bK A,bK A]
  ·have V:n.Tag=2:=by
    rcases WV hw.1 with h|h
    ·exact absurd h A
    ·exact h
   have H:=Ux hw.2.1 V
   have hlt:n.Col<(tD.length:Int):=hc V
   rw [bG A,bG A,xP (by omega)]
 | .un n a,hw,hc=>by
  rw [HW,HW,F8 a hw.2 hc]
 | .bi n a b,hw,hc=>by
  rw [ER,ER,F8 a hw.2.1 hc.1,F8 b hw.2.2 hc.2]
def J9{tD hb:List Int}{ns:List ap}(h:ld tD.length ns=true):ld (tD++hb).length ns=true:=by
 unfold ld at h ⊢
 rw [lY]at h ⊢
 intro n hn
 have:=h n hn
 simp only [zj,Bool.and_eq_false_iff,qt,mY]at this ⊢
 rcases this with h|h
 ·exact .inl h
 ·exact .inr (by omega)
def MQ{t:Tr}(hw:t.wf)(hs:t.size<=1000){tD L:List Int}(hp:tD<+:L)(hL: ∀k∈L,k4 k)(h0:(dI ⟨t.flat 0⟩ tD).2=0):dI ⟨t.flat 0⟩ L=dI ⟨t.flat 0⟩ tD:=by
 obtain⟨hb,rfl⟩:=hp
 have hK: ∀k∈tD,k4 k:=fun k hk=>hL k (BQ _ hk)
 rw [qL hw hs hK]at h0
 have hc:ld tD.length (t.flat 0)=true:=by
  cases hc:ld tD.length (t.flat 0)with
  |true=>rfl
  |false=>rw [hc]at h0;simp at h0
 rw [qL hw hs hK,qL hw hs hL,bK hc,bK (J9 hc),F8 t hw (vi _ t hw 0 hc)]
def DV(e:aB)(tD:List Int):Prop:=e.Nodes≠[]/\e.Nodes.length<=1000/\(dI e tD).2=0/\((dI e tD).1=1\/(dI e tD).1=0)
def Ta(e:aB)(tD:List Int):Prop:=e.Nodes=[]\/DV e tD
def FG{u:Tr}(hs:u.size<=300){tD:List Int}(A:(dI ⟨u.flat 0⟩ tD).2=0)(V:(dI ⟨u.flat 0⟩ tD).1=1\/(dI ⟨u.flat 0⟩ tD).1=0):DV ⟨u.flat 0⟩ tD:=by
 have hl:=u.flat_len 0
 refine⟨fun h=>?_,?_,A,V⟩
 ·have h' :u.flat 0=[]:=h
  have:=u.size_pos
  rw [h']at hl;simp at hl;omega
 ·show(u.flat 0).length<=1000;omega
structure Qe(c:au)(o:aK):Prop where
 joinsLen:o.Joins.length+1=o.Tables.length
 joins: ∀(i:Nat) (j:ll),o.Joins[i]? =some j->DV j.On (eh c (o.Tables.take (i+2)))
 cond:Ta o.Where (eh c o.Tables)
def Qe.upd{c:au}{o p:aK}(h:Qe c o)(A:p.Joins=o.Joins)(V:p.Tables=o.Tables)(h3:p.Where=o.Where):Qe c p:=
 ⟨by rw [A,V];exact h.joinsLen,fun i j hj=>by rw [V];exact h.joins i j (A▸hj),by rw [V,h3];exact h.cond⟩
def Qe.join{c:au}{o p:aK}{k:Int}{j:ll}(h:Qe c o)(A:p.Joins=o.Joins++[j])(V:p.Tables=o.Tables++[k])(h3:p.Where=⟨[]⟩)(hj:DV j.On (eh c p.Tables)):Qe c p:=by
 have hl:=h.joinsLen
 refine⟨by rw [A,V];simp;omega,fun i y hy=>?_,by rw [h3];exact .inl rfl⟩
 rw [A]at hy
 by_cases hi:i<o.Joins.length
 ·rw [xP hi]at hy
  have:=h.joins i y hy
  rw [V,xQ (by omega)]
  exact this
 ·rw [uw (by omega)]at hy
  have hi2:i-o.Joins.length=0:=by
   cases D:i-o.Joins.length with
   |zero=>rfl
   |succ n=>rw [D]at hy;simp at hy
  rw [hi2]at hy
  simp only [Em,Fu]at hy
  subst hy
  rw [pJ (by rw [V];simp;omega)]
  exact hj
structure From(c:au)(s:ac)(b:aw):Prop where
 rel:qo c s b
 keys:b.out.Keys=[]
 aggs:b.out.Aggs=[]
 items:b.out.Items=[]
 fro:Qe c b.out
 hav:b.out.Having=⟨[]⟩
def CQ{c:au}(hc:mX c)(S:ay): ∀(l:List lT) (s:ac) (b:aw),From c s b->b.sources.length+l.length<=3->b.out.Joins.length+l.length<=1000->l.all ES=true->b.out.Where=⟨[]⟩->
  (∃(e:Int) (s' :ac) (b' :aw),e≠0/\gH l s=some (e,s')/\cJ S l b=some (1,e,b')/\s'.at_=s.at_)\/
  (∃(s' :ac) (b' :aw),gH l s=some (0,s')/\cJ S l b=cJ S [] b' /\From c s' b' /\s'.at_=s.at_/\s'.from_=s.from_)
 |[],s,b,h,_,_,_,_=> .inr ⟨s,b,rfl,rfl,h,rfl,rfl⟩
 |j::l,s,b,h,hl,hl2,hj,hwe=>by
  simp only [gq]at hl hl2
  simp only [uj,gM]at hj
  have hj1:lq j.On.Nodes=true:=by
   have:=hj.1
   unfold ES at this
   simp only [gM]at this
   exact this.1
  unfold gH
  conv=>enter [1,1,e,1,s',1,b',2,2,1];unfold cJ
  conv=>enter [2,1,s',1,b',2,1];lhs;unfold cJ
  rcases AE hc h.rel (by omega) h.keys h.aggs j.Source with⟨e,he,g1,g2⟩|⟨s1,b1,k,g1,g2,g3,g4,g5,g6⟩
  ·rw [g1,g2,aX,aX,bK (by simpa using he),bK (by simpa using he)]
   exact .inl ⟨e,s,b,he,rfl,rfl,rfl⟩
  ·rw [g1,g2,aX,aX,bG (by simp),bG (by simp)]
   rcases wR hc g3 j.On hj1 false with⟨e,x,x',s2,b2,he,k1,k2,k3⟩|⟨u,s2,b2,k1,k2,k3,k4,k5,k6,k7,k8,k9⟩
   ·rw [k1,k2,aX,aX,bK (by simpa using he),bK (by simpa using he)]
    exact .inl ⟨e,s2,b2,he,rfl,rfl,by rw [k3.1];exact g5⟩
   ·obtain⟨rfl,rfl⟩:=k7 rfl
    rw [k1,k2,aX,aX,bG (by simp),bG (by simp)]
    have ho:=g3.out
    have hJ:b2.out.Joins=b.out.Joins:=by rw [g6]
    rw [cW (by rw [ho,hJ];simp;omega),aX,cW (by rw [hJ];simp;omega),aX]
    have hR:From c {s2 with out:={s2.out with Joins:=s2.out.Joins++[(⟨j.Left,⟨u.flat 0⟩⟩:ll)]}} {b2 with out:={b2.out with Joins:=b2.out.Joins++[(⟨j.Left,⟨u.flat 0⟩⟩:ll)]}}:=by
     rw [ho]
     refine⟨g3.upd {b2.out with Joins:=b2.out.Joins++[(⟨j.Left,⟨u.flat 0⟩⟩:ll)]} rfl rfl rfl s2.from_ s2.at_,?_,?_,?_,?_,?_⟩
     ·show b2.out.Keys=[];rw [g6];exact h.keys
     ·show b2.out.Aggs=[];rw [g6];exact h.aggs
     ·show b2.out.Items=[];rw [g6];exact h.items
     ·refine h.fro.join (k:=k) (j:=(⟨j.Left,⟨u.flat 0⟩⟩:ll)) ?_ ?_ ?_ ?_
      ·show b2.out.Joins++_=_;rw [hJ]
      ·show b2.out.Tables=_;rw [g6]
      ·show b2.out.Where=_;rw [g6];exact hwe
      ·show DV ⟨u.flat 0⟩ (eh c b2.out.Tables)
       rw [<-g3.kinds]
       exact FG k4 k8 k9
     ·show b2.out.Having=_;rw [g6];exact h.hav
    have hsl:b2.sources.length=b.sources.length+1:=by rw [g6];simp
    rcases CQ hc S l _ _ hR (by show b2.sources.length+l.length<=3;omega) (by show(b2.out.Joins++_).length+l.length<=1000;rw [hJ];simp;omega) hj.2 (by show b2.out.Where=_;rw [g6];exact hwe)with⟨e,s',b',he,q1,q2,q3⟩|⟨s',b',q1,q2,q3,q4,q5⟩
    ·exact .inl ⟨e,s',b',he,q1,q2,by rw [q3];exact g5⟩
    ·exact .inr ⟨s',b',q1,q2,q3,by rw [q4];exact g5,by rw [q5];exact g4⟩
end Go.Proofs.YthbdkceckjihgaaGreatDoor


/- cm of this claim: B15. -/
set_option linter.all false
namespace Go.Proofs.YthbdkceckjihgaaGreatDoor
open Go

def PR(c:au)(at_:Int)(f:ay)(P:ac->aw->Prop)(C:Option (Int×ac))(hx:Option (Int×Int×aw)):Prop:=
 (∃(e:Int) (s' :ac) (b' :aw),e≠0/\C=some (e,s')/\hx=some (at_,e,b')/\s'.at_=at_)\/
 (∃(s' :ac) (b' :aw),C=some (0,s')/\hx=some (0,0,b')/\qo c s' b' /\s'.from_=f/\P s' b')
def I0{c:au}(hc:mX c){s:ac}{b:aw}(h:From c s b)(S:ay)(hS:s.from_=S)(hw:qI S.Where=true):
  (∃(e:Int) (s' :ac) (b' :aw),e≠0/\fA s=some (e,s')/\cJ S [] b=some (2,e,b')/\s'.at_=2)\/
  (∃(s' :ac) (b' :aw),fA s=some (0,s')/\cJ S [] b=iq S.Group b' /\From c s' b' /\s'.from_=S):=by
 have V:From c {s with at_:=2} b:=⟨by
  have:=h.rel.upd b.out rfl rfl rfl s.from_ 2
  rw [<-h.rel.out]at this
  have e:({b with out:=s.out}:aw)=b:=by rw [h.rel.out]
  rw [e]at this
  exact this,h.keys,h.aggs,h.items,h.fro,h.hav⟩
 subst hS
 unfold fA cJ
 dsimp only
 by_cases hl:s.from_.Where.Nodes.length=0
 ·rw [bG (by rw [il];omega),bG (by rw [il];omega)]
  exact .inr ⟨_,b,rfl,rfl,V,rfl⟩
 ·have M:lq s.from_.Where.Nodes=true:=by
   unfold qI at hw
   simpa [hl] using hw
  rw [bK (by rw [il];omega),bK (by rw [il];omega)]
  rcases wR hc V.rel s.from_.Where M false with⟨e,x,x',s2,b2,he,k1,k2,k3⟩|⟨u,s2,b2,k1,k2,k3,k4,k5,k6,k7,k8,k9⟩
  ·rw [show ej ({s with at_:=2}:ac) s.from_.Where false=_ from k1,k2,aX,aX,bK (by simpa using he)]
   exact .inl ⟨e,_,b2,he,rfl,rfl,by show s2.at_=2;rw [k3.1]⟩
  ·obtain⟨q1,q2⟩:=k7 rfl
   rw [show ej ({s with at_:=2}:ac) s.from_.Where false=_ from k1,k2,aX,aX,bG (by simp)]
   refine .inr ⟨_,{b2 with out:={b2.out with Where:=⟨u.flat 0⟩}},rfl,rfl,⟨?_,?_,?_,?_,?_,?_⟩,?_⟩
   ·have:=k5.upd {b2.out with Where:=⟨u.flat 0⟩} rfl rfl rfl s2.from_ s2.at_
    rw [<-k5.out]at this ⊢
    exact this
   ·show b2.out.Keys=[];rw [q2];exact h.keys
   ·show b2.out.Aggs=[];rw [q2];exact h.aggs
   ·show b2.out.Items=[];rw [q2];exact h.items
   ·refine⟨?_,?_,.inr ?_⟩
    ·show b2.out.Joins.length+1=b2.out.Tables.length;rw [q2];exact h.fro.joinsLen
    ·intro i j hj
     have hj' :b2.out.Joins[i]? =some j:=hj
     show DV j.On (eh c (b2.out.Tables.take (i+2)))
     rw [q2]at hj' ⊢
     exact h.fro.joins i j hj'
    ·show DV ⟨u.flat 0⟩ (eh c b2.out.Tables)
     rw [<-k5.kinds]
     exact FG k4 k8 k9
   ·show b2.out.Having=_;rw [q2];exact h.hav
   ·show s2.from_=s.from_;rw [q1]
def CW{c:au}(hc:mX c): ∀(l:List iN) (s:ac) (b:aw),qo c s b->b.out.Aggs=[]->b.out.Items=[]->b.out.Keys.length+l.length<=3->s.at_=3->
  PR c 3 s.from_ (fun _ b' =>b'.out={b.out with Keys:=b'.out.Keys}/\b'.out.Keys.length=b.out.Keys.length+l.length/\b'.out.Aggs=[]/\b'.out.Items=[]) (jb l s) (iq l b)
 |[],s,b,h,ha,hi,_,hat=> .inr ⟨s,b,rfl,rfl,h,rfl,rfl,rfl,ha,hi⟩
 |n::l,s,b,h,ha,hi,hk,hat=>by
  simp only [gq]at hk
  obtain⟨c1,c2⟩:=h.column hc n
  unfold jb iq
  rw [c1,c2,aX,aX]
  by_cases he:(uo (dM c b.sources b.out.Tables) n.Table n.Name).2=0
  ·obtain⟨k0,k1⟩:=h.colIn n.Table n.Name he
   generalize hcol:(uo (dM c b.sources b.out.Tables) n.Table n.Name).1=k at k0 k1
   rw [bG (by simp [he]),bG (by simp [he]),h.out,cW (by simp;omega),aX,aX]
   have hlt:k.toNat<s.kinds.length:=by omega
   have D:fE s.kinds k=some ((s.kinds[k.toNat]?).getD 0):=by
    unfold fE
    rw [bK k0,kQ hlt];rfl
   have hgl:=h.groupsLen
   rw [ha,pj]at hgl
   rw [D,aX,cW (by simp;omega),aX]
   have hR:qo c {s with out:={b.out with Keys:=b.out.Keys++[k]},groups:=s.groups++[(s.kinds[k.toNat]?).getD 0]} {b with out:={b.out with Keys:=b.out.Keys++[k]}}:=by
    refine⟨h.cat,h.bc,rfl,h.kinds,h.len,h.bad,h.few,⟨h.maps.called,h.maps.alone,h.maps.behind,h.maps.once⟩,?_,?_,?_,h.aggsLen,h.aggsOnce,h.aggsOk⟩
    ·simp only
     rw [h.groups,ha]
     simp [rx,yx]
    ·intro j hj
     rcases uu.1 hj with hj|hj
     ·exact h.keys j hj
     ·rw [uk.1 hj];exact⟨k0,k1⟩
    ·simp only [mY,wb];omega
   rcases CW hc l _ _ hR ha hi (by simp only [mY,wb];omega) hat with A|⟨s',b',g1,g2,g3,g4,g5,g6,g7,g8⟩
   ·exact .inl A
   ·refine .inr ⟨s',b',g1,g2,g3,g4,g5,?_,g7,g8⟩
    rw [g6];simp;omega
  ·rw [bK (by simpa using he),bK (by simpa using he)]
   exact .inl ⟨_,s,b,he,rfl,rfl,hat⟩
structure II(c:au)(s:ac)(b:aw)(n:Nat)(gr:Bool):Prop where
 rel:qo c s b
 len:b.out.Items.length=n
 good: ∀x∈b.out.Items,∃u:Tr,x=⟨u.flat 0⟩/\u.wf/\u.size<=300/\(dI x (ov s gr)).2=0
 grouped:b.out.Grouped=gr
 fro:Qe c b.out
 plain:gr=false->b.out.Keys=[]/\b.out.Aggs=[]
def II.each{c:au}{s:ac}{b:aw}{n:Nat}{gr:Bool}(h:II c s b n gr): ∀x∈b.out.Items,x.Nodes.length<=1000:=fun x D=>by
 obtain⟨u,rfl,_,hs,_⟩:=h.good x D
 show(u.flat 0).length<=1000
 rw [u.flat_len];omega
def Oz{s s' :ac}{b b' :aw}(h:Br s s' b b')(g:Bool):ov s g<+:ov s' g:=by
 unfold ov
 cases g with
 |true=>exact h.2.2
 |false=>
  show s.kinds<+:s'.kinds
  rw [h.1]
  exact List.prefix_refl _
def Ib{c:au}(hc:mX c){s s' :ac}{b' :aw}(h:qo c s' b'){gr:Bool}(hp:ov s gr<+:ov s' gr){l:List aB}(hg: ∀x∈l,∃u:Tr,x=⟨u.flat 0⟩/\u.wf/\u.size<=300/\(dI x (ov s gr)).2=0): ∀x∈l,∃u:Tr,x=⟨u.flat 0⟩/\u.wf/\u.size<=300/\(dI x (ov s' gr)).2=0:=fun x D=>by
 obtain⟨u,rfl,A,V,h3⟩:=hg x D
 exact⟨u,rfl,A,V,by rw [MQ A (by omega) hp (h.ov4 hc gr) h3];exact h3⟩
def H5{c:au}(hc:mX c){s:ac}{b:aw}{n:Nat}{gr:Bool}(h:II c s b n gr)(S:ay)(hS:s.from_=S)(hw:qI S.Having=true)(hh:b.out.Having=⟨[]⟩)(hg:gr=false->S.Having.Nodes.length=0):
  PR c 5 S (fun s' b' =>II c s' b' n gr/\s'.kinds=s.kinds/\(b'.out.Having.Nodes=[]\/(gr=true/\DV b'.out.Having (ov s' gr)))) (fL s) (cN S [] b):=by
 have V:qo c {s with at_:=5} b:=by
  have:=h.rel.upd b.out rfl rfl rfl s.from_ 5
  rw [<-h.rel.out]at this
  have e:({b with out:=s.out}:aw)=b:=by rw [h.rel.out]
  rw [e]at this
  exact this
 subst hS
 unfold fL cN
 dsimp only
 by_cases hl:s.from_.Having.Nodes.length=0
 ·rw [bG (by rw [il];omega),bG (by rw [il];omega)]
  exact .inr ⟨_,b,rfl,rfl,V,rfl,⟨V,h.len,h.good,h.grouped,h.fro,h.plain⟩,rfl,.inl (by rw [hh])⟩
 ·have hgr:gr=true:=by
   cases D:gr with
   |true=>rfl
   |false=>exact absurd (hg D) hl
  subst hgr
  have M:lq s.from_.Having.Nodes=true:=by
   unfold qI at hw
   simpa [hl] using hw
  rw [bK (by rw [il];omega),bK (by rw [il];omega)]
  rcases wR hc V s.from_.Having M true with⟨e,x,x',s2,b2,he,k1,k2,k3⟩|⟨u,s2,b2,k1,k2,k3,k4,k5,k6,k7,k8,k9⟩
  ·rw [show ej ({s with at_:=5}:ac) s.from_.Having true=_ from k1,k2,aX,aX,bK (by simpa using he)]
   exact .inl ⟨e,_,b2,he,rfl,rfl,by show s2.at_=5;rw [k3.1]⟩
  ·rw [show ej ({s with at_:=5}:ac) s.from_.Having true=_ from k1,k2,aX,aX,bG (by simp)]
   have hR:qo c {s2 with out:={s2.out with Having:=⟨u.flat 0⟩}} {b2 with out:={b2.out with Having:=⟨u.flat 0⟩}}:=by
    have:=k5.upd {b2.out with Having:=⟨u.flat 0⟩} rfl rfl rfl s2.from_ s2.at_
    rw [<-k5.out]at this ⊢
    exact this
   refine .inr ⟨_,{b2 with out:={b2.out with Having:=⟨u.flat 0⟩}},rfl,rfl,hR,?_,⟨hR,?_,?_,?_,?_,fun e=>by cases e⟩,?_,.inr ⟨rfl,FG k4 k8 k9⟩⟩
   ·show s2.from_=s.from_;rw [k6.1]
   ·show b2.out.Items.length=n;rw [k6.2.1];exact h.len
   ·show∀x∈b2.out.Items,_
    have e:b2.out.Items=b.out.Items:=by rw [k6.2.1]
    rw [e]
    exact Ib hc k5 (gr:=true) (Oz k6 true) h.good
   ·show b2.out.Grouped=true;rw [k6.2.1];exact h.grouped
   ·refine h.fro.upd ?_ ?_ ?_
    ·show b2.out.Joins=_;rw [k6.2.1]
    ·show b2.out.Tables=_;rw [k6.2.1]
    ·show b2.out.Where=_;rw [k6.2.1]
   ·show s2.kinds=s.kinds;rw [k6.1]
def CR{c:au}(hc:mX c)(S:ay): ∀(l:List eG) (s:ac) (b:aw) (n:Nat) (gr:Bool),II c s b n gr->n+l.length<=1000->l.all uU=true->s.at_=4->
  (∃(e:Int) (s' :ac) (b' :aw),e≠0/\gI l s=some (e,s')/\cN S l b=some (4,e,b')/\s'.at_=4)\/
  (∃(s' :ac) (b' :aw),gI l s=some (0,s')/\cN S l b=cN S [] b' /\II c s' b' (n+l.length) gr/\s'.from_=s.from_/\s'.kinds=s.kinds/\b'.out.Having=b.out.Having)
 |[],s,b,n,gr,h,_,_,_=> .inr ⟨s,b,rfl,rfl,h,rfl,rfl,rfl⟩
 |x::l,s,b,n,gr,h,hl,D,hat=>by
  simp only [gq]at hl
  simp only [uj,gM]at D
  have hx1:lq x.Tree.Nodes=true:=by
   have:=D.1
   unfold uU at this
   simp only [gM]at this
   exact this.1
  unfold gI
  conv=>enter [1,1,e,1,s',1,b',2,2,1];unfold cN
  conv=>enter [2,1,s',1,b',2,1];lhs;unfold cN
  rw [h.rel.out,h.grouped]
  rcases Do hc h.rel x.Tree hx1 gr with⟨e,s2,b2,he,k1,k2,k3⟩|⟨u,s2,b2,k1,k2,k3,k4,k5,k6,k7,k8⟩
  ·rw [k1,k2,aX,aX,bK (by simpa using he),bK (by simpa using he)]
   exact .inl ⟨e,s2,b2,he,rfl,rfl,by rw [k3.1];exact hat⟩
  ·rw [k1,k2,aX,aX,bG (by simp),bG (by simp)]
   have hI:b2.out.Items=b.out.Items:=by rw [k6.2.1]
   have hil:=h.len
   simp only
   rw [k5.out,cW (by rw [hI];simp;omega),aX,aX]
   have hR:II c {s2 with out:={b2.out with Items:=b2.out.Items++[(⟨u.flat 0⟩:aB)]}} {b2 with out:={b2.out with Items:=b2.out.Items++[(⟨u.flat 0⟩:aB)]}} (n+1) gr:=by
    refine⟨k5.upd {b2.out with Items:=b2.out.Items++[(⟨u.flat 0⟩:aB)]} rfl rfl rfl s2.from_ s2.at_,?_,?_,?_,?_,?_⟩
    ·show(b2.out.Items++_).length=n+1
     rw [hI];simp;omega
    ·intro y hy
     rcases uu.1 hy with hy|hy
     ·exact Ib hc k5 (gr:=gr) (Oz k6 gr) h.good y (hI▸hy)
     ·rw [uk.1 hy]
      exact⟨u,rfl,k3,k4,k8⟩
    ·show b2.out.Grouped=gr;rw [k6.2.1];exact h.grouped
    ·refine h.fro.upd ?_ ?_ ?_
     ·show b2.out.Joins=_;rw [k6.2.1]
     ·show b2.out.Tables=_;rw [k6.2.1]
     ·show b2.out.Where=_;rw [k6.2.1]
    ·intro e
     show b2.out.Keys=[]/\b2.out.Aggs=[]
     rw [(k7 e).2]
     exact h.plain e
   rcases CR hc S l _ _ (n+1) gr hR (by omega) D.2 (by show s2.at_=4;rw [k6.1];exact hat)with⟨e,s',b',he,q1,q2,q3⟩|⟨s',b',q1,q2,q3,q4,q5,q6⟩
   ·exact .inl ⟨e,s',b',he,q1,q2,q3⟩
   ·refine .inr ⟨s',b',q1,q2,?_,by rw [q4];show s2.from_=s.from_;rw [k6.1],by rw [q5];show s2.kinds=s.kinds;rw [k6.1],by rw [q6];show b2.out.Having=b.out.Having;rw [k6.2.1]⟩
    have e:n+(x::l).length=n+1+l.length:=by simp only [gq];omega
    rw [e];exact q3
end Go.Proofs.YthbdkceckjihgaaGreatDoor


/- cm of this claim: B16. -/
set_option linter.all false
set_option linter.unusedVariables false
namespace Go.Proofs.YthbdkceckjihgaaGreatDoor
open Go

def Eu{c:au}(hc:mX c)(S:ay): ∀(l:List Int) (i:Nat) (s:ac) (b:aw) (n:Nat),II c s b n false->i+l.length<=12->n+l.length<=1000->i+l.length<=s.kinds.length->
  ∃(s' :ac) (b' :aw),ja l i s=fJ s' /\jK S l i b=fP S b' /\II c s' b' (n+l.length) false/\s'.from_=s.from_/\s'.at_=s.at_/\s'.kinds=s.kinds/\b'.out.Having=b.out.Having
 |[],i,s,b,n,h,_,_,_=>⟨s,b,rfl,rfl,h,rfl,rfl,rfl,rfl⟩
 |x::l,i,s,b,n,h,hi,hn,hk=>by
  simp only [gq]at hi hn hk
  unfold ja
  conv=>enter [1,s',1,b',2,1];lhs;unfold jK
  have hil:=h.len
  have hl:=vJ (tL (i:Int)) (qR (k:=(i:Int)) (by omega) (by omega))
  rw [show(⟨2,0,0,(i:Int),⟨0,0,0,[]⟩⟩:ap)=uq (i:Int)from rfl,hl,sI,aX,aX,bG (by simp)]
  simp only
  rw [h.rel.out,cW (by simp;omega),aX,aX]
  have hR:II c {s with out:={b.out with Items:=b.out.Items++[(⟨(Le (uq (i:Int))).flat 0⟩:aB)]}} {b with out:={b.out with Items:=b.out.Items++[(⟨(Le (uq (i:Int))).flat 0⟩:aB)]}} (n+1) false:=by
   refine⟨h.rel.upd {b.out with Items:=b.out.Items++[(⟨(Le (uq (i:Int))).flat 0⟩:aB)]} rfl rfl rfl s.from_ s.at_,?_,?_,h.grouped,h.fro.upd rfl rfl rfl,h.plain⟩
   ·simp only [mY,wb];omega
   ·intro y hy
    rcases uu.1 hy with hy|hy
    ·exact h.good y hy
    ·rw [uk.1 hy]
     exact⟨Le (uq (i:Int)),rfl,xe (tL (i:Int)) (qR (by omega) (by omega)),by show 1<=300;omega,CP (h.rel.ov4 hc false) (by omega) (by show(i:Int)<(s.kinds.length:Int);omega) (by omega)⟩
  obtain⟨s',b',q1,q2,q3,q4,q5,q6,q7⟩:=Eu hc S l (i+1) _ _ (n+1) hR (by omega) (by omega) (by show i+1+l.length<=s.kinds.length;omega)
  refine⟨s',b',q1,q2,?_,q4,q5,q6,q7⟩
  have e:n+(x::l).length=n+1+l.length:=by simp only [gq];omega
  rw [e];exact q3
def Ec{c:au}(hc:mX c){s:ac}{b:aw}(h:qo c s b)(hi:b.out.Items=[])(S:ay)(hS:s.from_=S)(D:S.Items.all uU=true)(hl:S.Items.length<=6)(hfro:Qe c b.out)(hp:lu S=false->b.out.Keys=[]/\b.out.Aggs=[])(hh:b.out.Having=⟨[]⟩):
  (∃(e:Int) (s' :ac) (b' :aw),e≠0/\fB s=some (e,s')/\kU b S=some (4,e,b')/\s'.at_=4)\/
  (∃(s' :ac) (b' :aw),fB s=some (0,s')/\kU b S=cN S [] b' /\II c s' b' ((if S.Star then s.kinds.length else 0)+S.Items.length) (lu S)/\s'.from_=S/\s'.kinds=s.kinds/\b'.out.Having=⟨[]⟩):=by
 subst hS
 unfold fB kU
 dsimp only
 rw [Ks,Cx,aX,aX,aX]
 dsimp only
 rw [h.out,h.refKinds hc]
 generalize lu s.from_=r at hp ⊢
 obtain⟨s1,hs1⟩: ∃s1:ac,s1={s with at_:=4,out:={b.out with Distinct:=s.from_.Distinct,Grouped:=r}}:=⟨_,rfl⟩
 obtain⟨b1,hb1⟩: ∃b1:aw,b1={b with out:={b.out with Distinct:=s.from_.Distinct,Grouped:=r}}:=⟨_,rfl⟩
 have hI:II c s1 b1 0 r:=by
  rw [hs1,hb1]
  refine⟨h.upd {b.out with Distinct:=s.from_.Distinct,Grouped:=r} rfl rfl rfl s.from_ 4,?_,?_,rfl,hfro.upd rfl rfl rfl,hp⟩
  ·simp [hi]
  ·intro x D;simp only [hi]at D;cases D
 have hf:s1.from_=s.from_:=by rw [hs1]
 have hkl:=hI.rel.kindsLen hc
 have hk1:s1.kinds=s.kinds:=by rw [hs1]
 -- what both do at the end
 have key: ∀(s2:ac) (b2:aw) (n:Nat),II c s2 b2 n r->n<=12->s2.from_=s.from_->s2.at_=4->s2.kinds=s.kinds->b2.out.Having=⟨[]⟩->n=(if s.from_.Star then s.kinds.length else 0)->
   (∃(e:Int) (s' :ac) (b' :aw),e≠0/\fJ s2=some (e,s')/\fP s.from_ b2=some (4,e,b')/\s'.at_=4)\/
   (∃(s' :ac) (b' :aw),fJ s2=some (0,s')/\fP s.from_ b2=cN s.from_ [] b' /\II c s' b' ((if s.from_.Star then s.kinds.length else 0)+s.from_.Items.length) r/\s'.from_=s.from_/\s'.kinds=s.kinds/\b'.out.Having=⟨[]⟩):=by
  intro s2 b2 n V hn hf2 hat hk2 hh2 hn2
  unfold fJ fP
  rw [hf2]
  rcases CR hc s.from_ s.from_.Items s2 b2 n r V (by omega) D hat with h3|⟨s',b',q1,q2,q3,q4,q5,q6⟩
  ·exact .inl h3
  ·exact .inr ⟨s',b',q1,q2,by rw [<-hn2];exact q3,by rw [q4,hf2],by rw [q5,hk2],by rw [q6,hh2]⟩
 cases hst:s.from_.Star with
 |false=>
  simp only [Bool.false_and,j0,iB]
  have:=key s1 b1 0 hI (by omega) hf (by rw [hs1]) hk1 (by rw [hb1];exact hh) (by rw [hst];rfl)
  rw [hs1,hb1]at this
  simp only [hst,j0,iB]at this
  exact this
 |true=>
  simp only [ut,gO]
  cases hr:r with
  |true=>
   simp only [gO]
   exact .inl ⟨227,_,_,by decide,rfl,rfl,rfl⟩
  |false=>
   subst hr
   simp only [j0,iB,aX]
   obtain⟨s2,b2,q1,q2,q3,q4,q5,q6,q7⟩:=Eu hc s.from_ s.kinds 0 s1 b1 0 hI (by rw [<-hk1];omega) (by rw [<-hk1];omega) (by rw [<-hk1];omega)
   rw [hs1]at q1
   rw [hb1]at q2
   have:=key s2 b2 _ q3 (by rw [<-hk1];omega) (by rw [q4,hf]) (by rw [q5,hs1]) (by rw [q6,hk1]) (by rw [q7,hb1];exact hh) (by rw [hst];simp)
   rw [<-q1,<-q2]at this
   simp only [hst,gO]at this
   exact this
def SA:List (ac->Unit->Option (Int×ac)):=[(fun(mc:ac) (mx:Unit)=>gj mc),(fun(mc:ac) (mx:Unit)=>eK mc),(fun(mc:ac) (mx:Unit)=>fA mc),(fun(mc:ac) (mx:Unit)=>eM mc),(fun(mc:ac) (mx:Unit)=>fB mc),(fun(mc:ac) (mx:Unit)=>fL mc)]
def lv{k i:Nat}{e:Int}{s:ac}{f:ac->Unit->Option (Int×ac)}(hf:fE SA (i:Int)=some f){r:Int×ac}(hr:f s ()=some r):gD (k+1) i e s=if(r.1 !=(0:Int))then some (r.1,r.2)else gD k (i+1) r.1 r.2:=by
 have h0:gD (k+1) i e s=(fE SA (i:Int)).bind fun fn=>(fn s ()).bind fun r=>if(r.1 !=(0:Int))then lR r.1 r.2 else gD k (i+1) r.1 r.2:=rfl
 rw [h0,hf,aX,hr,aX]
 rfl
def Tp:aK:=⟨[],[],⟨[]⟩,⟨[]⟩,false,false,[],[],[]⟩
def QB(c:au)(S:ay):ac:=⟨c,S,Tp,[],[],[],[],[],0⟩
def WN(c:au):aw:=⟨c,[],Tp⟩
def WU(c:au)(S:ay):qo c (QB c S) (WN c):=by
 refine⟨rfl,rfl,rfl,rfl,rfl,?_,?_,⟨?_,?_,?_,?_⟩,rfl,?_,?_,?_,?_,?_⟩
 ·intro t M;cases M
 ·show 0<=3;omega
 ·intro n;rfl
 ·intro n;rfl
 ·intro t n;rfl
 ·exact List.nodup_nil
 ·intro k hk;cases hk
 ·show 0<=3;omega
 ·show 0<=12;omega
 ·exact List.nodup_nil
 ·intro a ha;cases ha
def Uv{β:Type}(S:ay)(b:aw)(tD:Int->Int->aw->Option β):Option β:=(rk b S).bind fun r3=>if(r3.2.1==(0:Int))then((kU r3.2.2 S).bind fun r7=>tD r7.1 r7.2.1 r7.2.2)else(tD r3.1 r3.2.1 r3.2.2)
def Hr{c:au}(hc:mX c)(S:ay)(hS:zG S=true){β:Type}(tD:Int->Int->aw->Option β):
  (∃(e:Int) (s' :ac) (b' :aw),e≠0/\kH (QB c S)=some (e,s')/\Uv S (WN c) tD=tD s'.at_ e b')\/
  (∃(s' :ac) (b' :aw),kH (QB c S)=some (0,s')/\Uv S (WN c) tD=tD 0 0 b' /\II c s' b' ((if S.Star then(eh c b'.out.Tables).length else 0)+S.Items.length) (lu S)/\s'.from_=S/\(b'.out.Having.Nodes=[]\/(lu S=true/\DV b'.out.Having (ov s' (lu S))))):=by
 unfold zG Mv at hS
 simp only [gM,il]at hS
 obtain⟨⟨_,hI,hJ,hG⟩,hF,hi,hj,hg,hw,hh⟩:=hS
 have h0:=WU c S
 unfold kH Uv rk
 rcases AE hc h0 (by show 0<=2;omega) rfl rfl S.From with⟨e,he,g1,g2⟩|⟨s1,b1,k,g1,g2,g3,g4,g5,g6⟩
 ·rw [lv (f:=fun(mc:ac) (mx:Unit)=>gj mc) rfl (r:=(e,QB c S)) (by
   have e0:gj (QB c S)=(fK (QB c S) S.From).bind fun r=>some (r.1,r.2):=rfl
   rw [e0,g1];rfl),bK (by simpa using he),g2,aX,bK (by simpa using he),aX,bG (by simpa using he)]
  exact .inl ⟨e,_,_,he,rfl,rfl⟩
 ·rw [lv (f:=fun(mc:ac) (mx:Unit)=>gj mc) rfl (r:=(0,s1)) (by
   have e0:gj (QB c S)=(fK (QB c S) S.From).bind fun r=>some (r.1,r.2):=rfl
   rw [e0,g1];rfl),bG (by simp),g2,aX,bG (by simp)]
  have hF1:From c {s1 with at_:=1} b1:=by
   have hu:=g3.upd b1.out rfl rfl rfl s1.from_ 1
   rw [<-g3.out]at hu
   have e:({b1 with out:=s1.out}:aw)=b1:=by rw [g3.out]
   rw [e]at hu
   exact⟨hu,by rw [g6];rfl,by rw [g6];rfl,by rw [g6];rfl,⟨by rw [g6];rfl,fun i j hj=>(by rw [g6]at hj;simp [WN,Tp]at hj),by rw [g6];exact .inl rfl⟩,by rw [g6];rfl⟩
  have hs1:b1.sources.length=1:=by rw [g6];rfl
  have hj1:b1.out.Joins=[]:=by rw [g6];rfl
  have hf1:s1.from_=S:=g4
  rcases CQ hc S S.Joins _ b1 hF1 (by omega) (by rw [hj1];simp;omega) hj (by rw [g6];rfl)with⟨e,s2,b2,he,k1,k2,k3⟩|⟨s2,b2,k1,k2,k3,k4,k5⟩
  ·rw [lv (f:=fun(mc:ac) (mx:Unit)=>eK mc) rfl (r:=(e,s2)) (by
    show eK s1=_
    unfold eK
    dsimp only
    rw [hf1]
    rw [hf1]at k1
    exact k1),bK (by simpa using he),show cJ S S.Joins b1=_ from k2,aX,bG (by simpa using he)]
   refine .inl ⟨e,s2,b2,he,rfl,?_⟩
   rw [k3]
  ·rw [lv (f:=fun(mc:ac) (mx:Unit)=>eK mc) rfl (r:=(0,s2)) (by
    show eK s1=_
    unfold eK
    dsimp only
    rw [hf1]
    rw [hf1]at k1
    exact k1),bG (by simp),show cJ S S.Joins b1=_ from k2]
   have hf2:s2.from_=S:=by rw [k5];exact hf1
   rcases I0 hc k3 S hf2 hw with⟨e,s3,b3,he,q1,q2,q3⟩|⟨s3,b3,q1,q2,q3,q4⟩
   ·rw [lv (f:=fun(mc:ac) (mx:Unit)=>fA mc) rfl (r:=(e,s3)) q1,bK (by simpa using he),q2,aX,bG (by simpa using he)]
    refine .inl ⟨e,s3,b3,he,rfl,?_⟩
    rw [q3]
   ·rw [lv (f:=fun(mc:ac) (mx:Unit)=>fA mc) rfl (r:=(0,s3)) q1,bG (by simp),q2]
    have hu:=q3.rel.upd b3.out rfl rfl rfl s3.from_ 3
    rw [<-q3.rel.out]at hu
    have e3:({b3 with out:=s3.out}:aw)=b3:=by rw [q3.rel.out]
    rw [e3]at hu
    have hgb:=CW hc S.Group {s3 with at_:=3} b3 hu q3.aggs q3.items (by rw [q3.keys];simp;omega) rfl
    rcases hgb with⟨e,s4,b4,he,w1,w2,w3⟩|⟨s4,b4,w1,w2,w3,w4,w7,w8,w5,w6⟩
    ·rw [lv (f:=fun(mc:ac) (mx:Unit)=>eM mc) rfl (r:=(e,s4)) (by
      show eM s3=_
      unfold eM
      dsimp only
      rw [q4]
      rw [q4]at w1
      exact w1),bK (by simpa using he),w2,aX,bG (by simpa using he)]
     refine .inl ⟨e,s4,b4,he,rfl,?_⟩
     rw [w3]
    ·rw [lv (f:=fun(mc:ac) (mx:Unit)=>eM mc) rfl (r:=(0,s4)) (by
      show eM s3=_
      unfold eM
      dsimp only
      rw [q4]
      rw [q4]at w1
      exact w1),bG (by simp),w2,aX,bK (by rfl)]
     have hf4:s4.from_=S:=by rw [w4];exact q4
     simp only
     have hgl:lu S=false->S.Group.length=0/\S.Having.Nodes.length=0:=fun e=>by
      unfold lu at e
      simp only [GW,qt]at e
      omega
     rcases Ec hc w3 w6 S hf4 hi hI (q3.fro.upd (by rw [w7]) (by rw [w7]) (by rw [w7])) (fun e=>⟨sW (by rw [w8,q3.keys,(hgl e).1];rfl),w5⟩) (by rw [w7];exact q3.hav)with⟨e,s5,b5,he,v1,v2,v3⟩|⟨s5,b5,v1,v2,v3,v4,v5,v6⟩
     ·rw [lv (f:=fun(mc:ac) (mx:Unit)=>fB mc) rfl (r:=(e,s5)) v1,bK (by simpa using he),v2,aX]
      refine .inl ⟨e,s5,b5,he,rfl,?_⟩
      rw [v3]
     ·rw [lv (f:=fun(mc:ac) (mx:Unit)=>fB mc) rfl (r:=(0,s5)) v1,bG (by simp),v2]
      rcases H5 hc v3 S v4 hh v6 (fun e=>(hgl e).2)with⟨e,s6,b6,he,y1,y2,y3⟩|⟨s6,b6,y1,y2,y3,y4,y5,y6,y7⟩
      ·rw [lv (f:=fun(mc:ac) (mx:Unit)=>fL mc) rfl (r:=(e,s6)) y1,bK (by simpa using he),y2,aX]
       refine .inl ⟨e,s6,b6,he,rfl,?_⟩
       rw [y3]
      ·rw [lv (f:=fun(mc:ac) (mx:Unit)=>fL mc) rfl (r:=(0,s6)) y1,bG (by simp),y2,aX]
       refine .inr ⟨s6,b6,rfl,rfl,?_,y4,y7⟩
       rw [<-y3.kinds,y6,v5]
       exact y5
end Go.Proofs.YthbdkceckjihgaaGreatDoor


/- cm of this claim: B17. -/
set_option linter.all false
set_option linter.unusedVariables false
namespace Go.Proofs.YthbdkceckjihgaaGreatDoor
open Go

def Dm: ∀(t p:List bp),Is p t=true->(t.map fun x=>x.Name).Nodup/\ ∀x∈t,∀y∈p,y.Name≠x.Name
 |[],p,_=>⟨List.nodup_nil,fun x D=>by cases D⟩
 |x::t,p,h=>by
  have h0:Is p (x::t)=((lO x.Name&&yw x.Kind&& !CV p x)&&Is (p++[x]) t):=rfl
  rw [h0]at h
  simp only [gM,zj]at h
  obtain⟨⟨_,V⟩,h3⟩:=h
  obtain⟨g1,g2⟩:=Dm t (p++[x]) h3
  refine⟨?_,?_⟩
  ·rw [sn,List.nodup_cons]
   refine⟨fun hm=>?_,g1⟩
   obtain⟨y,hy,he⟩:=xI.1 hm
   exact g2 y hy x (Kw _ (KD _)) he.symm
  ·intro z hz y hy
   rcases lK.1 hz with rfl|hz
   ·intro he
    have:CV p z=true:=by
     unfold CV
     rw [A4]
     exact⟨y,hy,by simpa using he⟩
    rw [this]at V;cases V
   ·exact g2 z hz y (BQ _ hy)
def Ke{c:au}(h:Ea c=true):mX c:=by
 unfold Ea at h
 simp only [gM,il]at h
 obtain⟨hl,M⟩:=h
 rw [FJ,gM]at M
 have hall: ∀t∈c.Tables,yc t=true:=fun t h=>by
  have:=M.1
  rw [lY]at this
  exact this t h
 have h4: ∀t∈c.Tables,t.Columns.length<=4/\Is [] t.Columns=true:=fun t h=>by
  have:=hall t h
  unfold yc at this
  simp only [gM,il]at this
  exact⟨this.1.2,this.2.1⟩
 refine⟨⟨fun t h=>?_,by omega,fun t h=>(Dm _ _ (h4 t h).2).1⟩,fun t h=>(h4 t h).1,fun t h x D=>?_⟩
 ·have:=(h4 t h).1;omega
 ·have:=(h4 t h).2
  rw [GA,gM,lY]at this
  exact this.2 x D
def MP{N:List cw}(h:lq N=true): ∃m,fE N (IntKind.i64.wrap ((N.length:Int)-1))=some m/\vj m=true:=by
 unfold lq at h
 cases hA:Ep N with
 |none=>rw [hA]at h;cases h
 |some a=>
  obtain⟨hw,hN,hs,_⟩:=Cc hA
  have hlen:N.length=a.size:=by rw [hN,a.flat_len]
  have hp:=a.size_pos
  have key: ∃(P:List cw) (m:cw),N=P++[m]/\vj m=true:=by
   cases a with
   |lf n=>exact⟨[],_,hN,by rw [Dn];exact hw.2.1⟩
   |un n a=>exact⟨_,_,hN,by rw [Dn];exact hw.1.2.1⟩
   |bi n a b=>exact⟨_,_,hN,by rw [Dn];exact hw.1.2.1⟩
  obtain⟨P,m,hP,hm⟩:=key
  refine⟨m,?_,hm⟩
  have hlP:N.length=P.length+1:=by rw [hP];simp
  rw [dS (by omega) (by omega),hlP,show(((P.length+1:Nat):Int)-1)=(P.length:Int) by omega,hP]
  exact ne P m []
def Nr{m:cw}(h:vj m=true)(V:m.Tag≠2):m.Name=[]:=by
 unfold vj at h
 rw [bG V]at h
 split at h
 ·simp only [gM,sv]at h;exact h.1.2
 ·simp only [gM,sv]at h;exact h.2.2
def CJ: ∀(l:List eG) (out:List cB),l.all uU=true->out.length+l.length<=1000-> ∃R,eO l out=some R/\kr l out=some R/\R.length=out.length+l.length
 |[],out,_,_=>⟨out,rfl,rfl,by simp⟩
 |x::l,out,h,hl=>by
  simp only [uj,gM]at h
  simp only [gq]at hl
  have D:lq x.Tree.Nodes=true:=by
   have:=h.1
   unfold uU at this
   simp only [gM]at this
   exact this.1
  obtain⟨m,g1,g2⟩:=MP D
  have ih:=fun out=>CJ l out h.2
  unfold eO kr
  rw [g1,aX,aX]
  unfold ko qC
  have step: ∀s:cB,∃R,((lX out [s]).bind fun out2=>eO l out2)=some R/\((lX out [s]).bind fun out2=>kr l out2)=some R/\R.length=out.length+(x::l).length:=fun s=>by
   rw [cW (by simp;omega),aX,aX]
   obtain⟨R,q1,q2,q3⟩:=ih (out++[s]) (by simp;omega)
   exact⟨R,q1,q2,by simp at q3 ⊢;omega⟩
  by_cases ha:x.As=[]
  ·rw [bK (by simpa using ha)]
   by_cases M:m.Tag=2
   ·rw [bK (by rw [ha,M];rfl)]
    exact step m.Name
   ·rw [bG (by simp [M]),ha,Nr g2 M]
    exact step []
  ·rw [bG (by simpa using ha),bG (by simp [ha])]
   exact step x.As
def CI(nx:List cB->Option (List cB)): ∀(l:List bp) (out:List cB),out.length+l.length<=100000->gG nx l out=nx (out++l.map fun x=>x.Name)/\mb nx l out=nx (out++l.map fun x=>x.Name)
 |[],out,_=>⟨by unfold gG;simp,by unfold mb;simp⟩
 |x::l,out,h=>by
  simp only [gq]at h
  obtain⟨q1,q2⟩:=CI nx l (out++[x.Name]) (by simp;omega)
  unfold gG mb
  rw [cW (by simp;omega),aX,aX,q1,q2]
  simp
def HK{c:au}(hc:mX c)(s:ac)(S:ay)(hS:s.from_=S)(hcat:s.Catalog=c)(D:S.Items.all uU=true)(hl:S.Items.length<=6): ∀(l:List Int) (out:List cB),(∀t∈l,vl c t=false)->out.length+l.length*4<=900-> ∃R,fI s l out=some R/\md c S l out=some R/\R.length=out.length+(eh c l).length+S.Items.length
 |[],out,_,ho=>by
  unfold fI md i9 nY
  rw [hS]
  obtain⟨R,q1,q2,q3⟩:=CJ S.Items out D (by simp at ho;omega)
  exact⟨R,q1,q2,by simp [eh];omega⟩
 |t::l,out,H,ho=>by
  simp only [gq]at ho
  obtain⟨x,g1,g2,g3⟩:=BD (H t (ln ..))
  have h4:=hc.cols4 x g3
  obtain⟨R,q1,q2,q3⟩:=HK hc s S hS hcat D hl l (out++x.Columns.map fun x=>x.Name) (fun y hy=>H y (lH _ hy)) (by simp;omega)
  unfold fI md
  rw [hcat,g1,aX,aX,(CI _ x.Columns out (by omega)).1,(CI _ x.Columns out (by omega)).2]
  have e:(eh c (t::l)).length=x.Columns.length+(eh c l).length:=by simp [eh,g2]
  exact⟨R,q1,q2,by rw [e];simp at q3;omega⟩
def JB{c:au}(hc:mX c){s:ac}{b:aw}(h:qo c s b)(S:ay)(hS:s.from_=S)(D:S.Items.all uU=true)(hl:S.Items.length<=6): ∃R,kG s=some R/\AI c S b.out.Tables=some R/\R.length=(if S.Star then(eh c b.out.Tables).length else 0)+S.Items.length:=by
 unfold kG AI
 rw [hS,h.out]
 have hf:=h.few
 by_cases hs:S.Star=true
 ·rw [bK hs,bK hs]
  obtain⟨R,q1,q2,q3⟩:=HK hc s S hS h.cat D hl b.out.Tables [] h.bad (by simp;omega)
  exact⟨R,q1,q2,by rw [bK hs,q3];simp⟩
 ·rw [bG hs,bG hs]
  unfold i9 nY
  rw [hS]
  obtain⟨R,q1,q2,q3⟩:=CJ S.Items [] D (by simp;omega)
  exact⟨R,q1,q2,by rw [bG hs,q3];simp⟩
def sJ(over:List Int): ∀(l:List aB) (out:List Int),(∀x∈l,x.Nodes.length<=1000)->out.length+l.length<=1000->eW over l out=some (out++l.map fun x=>(dI x over).1)/\jz over l out=some (out++l.map fun x=>(dI x over).1)
 |[],out,_,_=>⟨by unfold eW;simp,by unfold jz;simp⟩
 |x::l,out,h,hl=>by
  simp only [gq]at hl
  obtain⟨q1,q2⟩:=sJ over l (out++[(dI x over).1]) (fun y hy=>h y (lH _ hy)) (by simp;omega)
  have D:=h x (ln ..)
  unfold eW jz
  rw [la _ _ (by omega),m4,aX,aX,cW (by simp;omega),aX,aX,q1,q2]
  simp
def JE{c:au}(hc:mX c){s:ac}{b:aw}{n:Nat}{gr:Bool}(h:II c s b n gr)(hn:n<=100): ∃R:List Int,iy s=some R/\tZ c b.out=some R/\R=b.out.Items.map fun x=>(dI x (ov s gr)).1:=by
 have hr:=h.rel
 have hk:=hr.refKinds hc
 have hg:=hr.refGroups hc
 rw [hr.bc]at hk hg
 have hl:=h.len
 refine⟨b.out.Items.map fun x=>(dI x (ov s gr)).1,?_,?_,rfl⟩
 ·unfold iy iJ
  rw [hr.out,h.grouped]
  unfold ov
  cases gr with
  |true=>rw [bK rfl,bK rfl,(sJ _ _ _ h.each (by simp;omega)).1];simp
  |false=>rw [bG (by simp),bG (by simp),(sJ _ _ _ h.each (by simp;omega)).1];simp
 ·unfold tZ nq
  rw [hk,aX,h.grouped]
  unfold ov
  cases gr with
  |true=>rw [bK rfl,bK rfl,hg,aX,(sJ _ _ _ h.each (by simp;omega)).2];simp
  |false=>rw [bG (by simp),bG (by simp),(sJ _ _ _ h.each (by simp;omega)).2];simp
def Ma:List Int->List Int->Option (List Int)
 |x::a,y::b=>if x=0 then(Ma a b).map (y:: ·)else if y≠0/\y≠x then none else(Ma a b).map (x:: ·)
 |_,_=>some []
def G5{x:Int}(h:x=0)(a:List Int)(y:Int)(b:List Int):Ma (x::a) (y::b)=(Ma a b).map (y:: ·):=bK h
def KK{x:Int}(h: ¬x=0)(a:List Int){y:Int}(hy:y≠0/\y≠x)(b:List Int):Ma (x::a) (y::b)=none:=by
 show(if x=0 then _ else if y≠0/\y≠x then none else _)=_
 rw [bG h,bK hy]
def KL{x:Int}(h: ¬x=0)(a:List Int){y:Int}(hy: ¬(y≠0/\y≠x))(b:List Int):Ma (x::a) (y::b)=(Ma a b).map (x:: ·):=by
 show(if x=0 then _ else if y≠0/\y≠x then none else _)=_
 rw [bG h,bG hy]
def G4: ∀(a l pre:List Int),a.length=l.length->(∃r,Ma a l=some r/\ii l pre.length (pre++a)=some (true,pre++r))\/(Ma a l=none/\ ∃z,ii l pre.length (pre++a)=some (false,z))
 |[],[],pre,_=> .inl ⟨[],rfl,rfl⟩
 |x::a,y::l,pre,h=>by
  have ih:=fun v=>G4 a l (pre++[v]) (by simpa using h)
  simp only [mY,wb,gQ,Fv]at ih
  unfold ii
  rw [ne,aX]
  by_cases D:x=0
  ·rw [G5 D,bK (by simpa using D),p4,aX]
   rcases ih y with⟨r,g1,g2⟩|⟨g1,g2⟩
   ·exact .inl ⟨y::r,by rw [g1];rfl,g2⟩
   ·exact .inr ⟨by rw [g1];rfl,g2⟩
  ·rw [bG (by simpa using D)]
   by_cases hy:y≠0/\y≠x
   ·rw [KK D a hy,bK (by simpa using hy)]
    exact .inr ⟨rfl,_,rfl⟩
   ·rw [KL D a hy,bG (by simpa using hy)]
    rcases ih x with⟨r,g1,g2⟩|⟨g1,g2⟩
    ·exact .inl ⟨x::r,by rw [g1];rfl,g2⟩
    ·exact .inr ⟨by rw [g1];rfl,g2⟩
def JG(v:cB): ∀(l:List cB) (i:Nat),cX v l i=some (if v∈l then((i+l.idxOf v:Nat):Int)else -1)
 |[],i=>rfl
 |x::l,i=>by
  unfold cX
  by_cases h:v=x
  ·subst h
   rw [bK (by simp)]
   simp
  ·rw [bG (by simpa using h),JG v l (i+1)]
   have A:(v∈x::l)=(v∈l):=by simp [h]
   have V:(x::l).idxOf v=l.idxOf v+1:=by
    have:(x==v)=false:=by simpa using Ne.symm h
    rw [List.idxOf_cons,this];rfl
   simp only [A,V]
   by_cases hm:v∈l
   ·rw [bK hm,bK hm];congr 2;omega
   ·rw [bG hm,bG hm]
end Go.Proofs.YthbdkceckjihgaaGreatDoor


/- cm of this claim: B18. -/
set_option linter.all false
set_option linter.unusedVariables false
namespace Go.Proofs.YthbdkceckjihgaaGreatDoor
open Go

def Dp(nx:Nat->bQ->bQ->Option (bQ×Int×Int))(i:Nat)(e:Int)(s:ac)(x b:bQ)(h:b.Selects.length<=1000):lj nx i (e,s) x b=nx (i+1) x {b with Selects:=b.Selects++[s.out]}:=by
 unfold lj
 rw [cW (by simp;omega),aX]
end Go.Proofs.YthbdkceckjihgaaGreatDoor


/- cm of this claim: B19. -/
set_option linter.all false
set_option linter.unusedVariables false
namespace Go.Proofs.YthbdkceckjihgaaGreatDoor
open Go

end Go.Proofs.YthbdkceckjihgaaGreatDoor


/- cm of this claim: B20. -/
set_option linter.all false
set_option linter.unusedVariables false
namespace Go.Proofs.YthbdkceckjihgaaGreatDoor
open Go

end Go.Proofs.YthbdkceckjihgaaGreatDoor


/- cm of this claim: B21. -/
set_option linter.all false
set_option linter.unusedVariables false
namespace Go.Proofs.YthbdkceckjihgaaGreatDoor
open Go

def Qa(c:au)(o:aK):List Int:=if o.Grouped then rx (eh c o.Tables) o.Keys o.Aggs else eh c o.Tables
def xf(c:au)(o:aK):List Int:=o.Items.map fun x=>(dI x (Qa c o)).1
structure DH(c:au)(o:aK):Prop where
 bad: ∀t∈o.Tables,vl c t=false
 few:o.Tables.length<=3
 fro:Qe c o
 keys: ∀k∈o.Keys,0<=k/\k<((eh c o.Tables).length:Int)
 keysLen:o.Keys.length<=3
 aggsLen:o.Aggs.length<=12
 aggsOk: ∀a∈o.Aggs,(oE a (eh c o.Tables)).2=true/\(1<=a.Tag/\a.Tag<=5)/\a.Arg.Nodes.length<=50000
 plain:o.Grouped=false->o.Keys=[]/\o.Aggs=[]/\o.Having.Nodes=[]
 hav:Ta o.Having (Qa c o)
 items: ∀x∈o.Items,x.Nodes.length<=1000/\(dI x (Qa c o)).2=0
 wide:(Qa c o).length<=16
def RV{c:au}(hc:mX c){s:ac}{b:aw}{n:Nat}{gr:Bool}(h:II c s b n gr)(hh:b.out.Having.Nodes=[]\/(gr=true/\DV b.out.Having (ov s gr))):DH c b.out/\Qa c b.out=ov s gr:=by
 have hk:=h.rel.kinds
 have ho:Qa c b.out=ov s gr:=by
  unfold Qa ov
  rw [h.grouped,h.rel.groups,hk]
 have hkl:=h.rel.kindsLen hc
 have hgl:=h.rel.groupsLen
 have h3:=h.rel.keysLen
 have h12:=h.rel.aggsLen
 refine⟨⟨h.rel.bad,h.rel.few,h.fro,?_,h3,h12,?_,?_,?_,?_,?_⟩,ho⟩
 ·rw [<-hk];exact h.rel.keys
 ·rw [<-hk];exact h.rel.aggsOk
 ·intro e
  rw [h.grouped]at e
  refine⟨(h.plain e).1,(h.plain e).2,?_⟩
  rcases hh with hh|⟨hg,_⟩
  ·exact hh
  ·rw [e]at hg;cases hg
 ·rw [ho]
  rcases hh with hh|⟨_,hh⟩
  ·exact .inl hh
  ·exact .inr hh
 ·intro x D
  rw [ho]
  refine⟨h.each x D,?_⟩
  obtain⟨u,_,_,_,h4⟩:=h.good x D
  exact h4
 ·rw [ho]
  unfold ov
  cases gr with
  |true=>rw [bK rfl];omega
  |false=>rw [bG (by simp)];omega
def wh:List Int->List Int->Prop
 |[],[]=>True
 |k::tD,u::U=>(k=u\/k=0)/\wh tD U
 |_,_=>False
def Ig: ∀{tD U:List Int},wh tD U->tD.length=U.length
 |[],[],_=>rfl
 |k::tD,u::U,h=>by simp only [gq];rw [Ig h.2]
 |[],u::U,h=>h.elim
 |k::tD,[],h=>h.elim
def E6: ∀tD:List Int,wh tD tD
 |[]=>trivial
 |k::tD=>⟨.inl rfl,E6 tD⟩
def KM: ∀(a b r:List Int),a.length=b.length->Ma a b=some r->wh b r/\(∀tD,wh tD a->wh tD r)/\r.length=a.length
 |[],[],r,_,h=>by
  unfold Ma at h;cases h
  exact⟨trivial,fun tD h=>h,rfl⟩
 |x::a,y::b,r,hl,h=>by
  have ih:=fun q hq=>KM a b q (by simpa using hl) hq
  by_cases D:x=0
  ·rw [G5 D]at h
   cases hu:Ma a b with
   |none=>rw [hu]at h;cases h
   |some q=>
    rw [hu]at h
    cases h
    obtain⟨g1,g2,g3⟩:=ih q hu
    refine⟨⟨.inl rfl,g1⟩,fun tD hK=>?_,by simp [g3]⟩
    match tD,hK with
    |k::tD,hK=>exact⟨.inr (by rcases hK.1 with e|e<;>omega),g2 tD hK.2⟩
    |[],hK=>exact hK.elim
  ·by_cases hy:y≠0/\y≠x
   ·rw [KK D a hy]at h;cases h
   ·rw [KL D a hy]at h
    cases hu:Ma a b with
    |none=>rw [hu]at h;cases h
    |some q=>
     rw [hu]at h
     cases h
     obtain⟨g1,g2,g3⟩:=ih q hu
     refine⟨⟨by omega,g1⟩,fun tD hK=>?_,by simp [g3]⟩
     match tD,hK with
     |k::tD,hK=>exact⟨hK.1,g2 tD hK.2⟩
     |[],hK=>exact hK.elim
def L9(a l:List Int):(∃r,mt a l=some (true,r)/\wh l r/\(∀tD,wh tD a->wh tD r)/\r.length=a.length)\/(∃z,mt a l=some (false,z)):=by
 unfold mt
 by_cases h:a.length=l.length
 ·rw [bG (by simp [h])]
  rcases G4 a l [] h with⟨r,g1,g2⟩|⟨g1,z,g2⟩
  ·exact .inl ⟨r,g2,KM a l r h g1⟩
  ·exact .inr ⟨z,g2⟩
 ·rw [bK (by simp;omega)]
  exact .inr ⟨a,rfl⟩
def QO(k:tW)(names:List cB)(hl:names.length<=1000): ∃R,yY k names=some R/\(R.2=0->0<=R.1/\R.1<(names.length:Int)):=by
 unfold yY
 by_cases hn:k.Name=[]
 ·have H:(k.Name==([]:cB))=true:=by simpa using hn
  simp only [H,gO]
  by_cases h:k.Number<1\/(names.length:Int)<k.Number
  ·rw [bK (by simpa using h)]
   exact⟨_,rfl,fun e=>by cases e⟩
  ·rw [bG (by simpa using h),dS (by omega) (by omega)]
   exact⟨_,rfl,fun _=>⟨by show 0<=k.Number-1;omega,by show k.Number-1<_;omega⟩⟩
 ·have H:(k.Name==([]:cB))=false:=by simpa using hn
  simp only [H,j0,iB]
  unfold ed
  rw [JG,aX]
  by_cases hm:k.Name∈names
  ·have hi:=List.idxOf_lt_length_of_mem hm
   rw [bK hm,bG (by rw [il];omega),dS (by omega) (by omega),show(((0+names.idxOf k.Name:Nat):Int)+1)=((names.idxOf k.Name+1:Nat):Int) by omega,qh (by omega) (eX _),aX]
   unfold eo ed
   rw [JG,aX,aX]
   split
   ·exact⟨_,rfl,fun e=>by cases e⟩
   ·exact⟨_,rfl,fun _=>⟨by show(0:Int)<=((0+names.idxOf k.Name:Nat):Int);omega,by show((0+names.idxOf k.Name:Nat):Int)<_;omega⟩⟩
  ·rw [bG hm,bK (by rw [il];omega)]
   exact⟨_,rfl,fun e=>by cases e⟩
structure WD(c:au)(q:bD)(B:bQ):Prop where
 sels: ∀o∈B.Selects,DH c o/\wh (xf c o) B.Kinds
 names:B.Names.length=B.Kinds.length
 few:B.Kinds.length<=100
 order: ∀o∈B.Order,0<=o.Col/\o.Col<(B.Kinds.length:Int)
 limit:B.Limit=q.Limit
def SQ(c:au)(q:bD)(m:Nat)(R:bQ×Int×Int):Prop:=(R.2.2≠0/\R.1.Selects=[])\/(R.2.2=0/\WD c q R.1/\R.1.Order.length=m)
def EF{c:au}{q:bD}: ∀(l:List tW) (x b:bQ),WD c q b->b.Order.length+l.length<=1000-> ∃R,oq l x b=some R/\SQ c q (b.Order.length+l.length) R
 |[],x,b,h,_=>⟨_,rfl,.inr ⟨rfl,h,rfl⟩⟩
 |k::l,x,b,h,ho=>by
  simp only [gq]at ho
  have hn:=h.names
  have hf:=h.few
  obtain⟨R,g1,g2⟩:=QO k b.Names (by omega)
  unfold oq
  rw [g1,aX]
  by_cases he:R.2=0
  ·rw [bG (by simpa using he),cW (by simp;omega),aX]
   obtain⟨aF,q1,q2⟩:=EF l x {b with Order:=b.Order++[(⟨R.1,k.Desc⟩:xF)]} ⟨h.sels,h.names,h.few,fun o hm=>by
    rcases uu.1 hm with hm|hm
    ·exact h.order o hm
    ·rw [uk.1 hm]
     have:=g2 he
     exact⟨this.1,by show R.1<(b.Kinds.length:Int);omega⟩,h.limit⟩ (by simp;omega)
   refine⟨aF,q1,?_⟩
   have e:b.Order.length+(k::l).length=(b.Order++[(⟨R.1,k.Desc⟩:xF)]).length+l.length:=by simp;omega
   rw [e];exact q2
  ·rw [bK (by simpa using he)]
   exact⟨_,rfl,.inl ⟨he,rfl⟩⟩
def AG{c:au}(hc:mX c)(q:bD)(hk:q.Keys.length<=3): ∀(l:List ay) (i:Nat) (x b:bQ),l.all zG=true->i+l.length<=100->b.Selects.length=i->WD c q b->b.Order=[]->
    ∃R,ij c q l i x b=some R/\SQ c q q.Keys.length R
  |[],i,x,b,_,_,_,H,ho=>by
    unfold ij
    obtain⟨R,g1,g2⟩:=EF q.Keys x b H (by rw [ho];simp;omega)
    refine⟨R,g1,?_⟩
    rw [ho]at g2
    simpa using g2
  |S::l,i,x,b,hl,hi,hs,H,ho=>by
    simp only [uj,gM]at hl
    simp only [gq]at hi
    have ih:=fun x b=>AG hc q hk l (i+1) x b hl.2 (by omega)
    have hI:S.Items.all uU=true/\S.Items.length<=6:=by
      have:=hl.1
      unfold zG Mv at this
      simp only [gM,il]at this
      exact⟨this.2.2.1,this.1.2.1⟩
    have hc1:ij c q (S::l) i x b=(kH (QB c S)).bind fun r3=>
      if(r3.1 !=(0:Int))then
      (some ((⟨[],[],[],[],(0:Int)⟩:bQ),(IntKind.i64.wrap ((IntKind.i64.wrap ((10:Int)*(i:Int)))+r3.2.at_)),r3.1))
      else
      ((iy r3.2).bind fun r4=>
      if((i:Int)==(0:Int))then
      ((kG r3.2).bind fun r5=>
      lj (ij c q l) i r3 x {b with Names:=r5,Kinds:=r4})
      else
      ((mt b.Kinds r4).bind fun r6=>
      if(!r6.1)then
      (some ((⟨[],[],[],[],(0:Int)⟩:bQ),(IntKind.i64.wrap ((IntKind.i64.wrap ((10:Int)*(i:Int)))+(6:Int))),(229:Int)))
      else
      (lj (ij c q l) i r3 x ({b with Kinds:=r6.2}:bQ)))):=rfl
    rw [hc1]
    rcases Hr hc S hl.1 (β:=Unit) (fun _ _ _=>none)with⟨e,s',b',he,g1,_⟩|⟨s',b',g1,_,g3,g4,g5⟩
    · rw [g1,aX]
      rw [bK (by simpa using he)]
      exact⟨_,rfl,.inl ⟨he,rfl⟩⟩
    · rw [g1,aX]
      rw [bG (by simp)]
      have hnum:=g3.rel.kindsLen hc
      rw [g3.rel.kinds]at hnum
      have hn100:(if S.Star then(eh c b'.out.Tables).length else 0)+S.Items.length<=100:=by
        split<;>omega
      obtain⟨tD,k1,_,k3⟩:=JE hc g3 hn100
      obtain⟨d1,d2⟩:=RV hc g3 g5
      have hKO:tD=xf c b'.out:=by rw [k3];unfold xf;rw [d2]
      have hKl:tD.length=(if S.Star then(eh c b'.out.Tables).length else 0)+S.Items.length:=by rw [k3,BL,g3.len]
      rw [k1,aX]
      have ho' :s'.out=b'.out:=g3.rel.out
      by_cases h0:i=0
      · have hb0:((i:Int)==(0:Int))=true:=by simpa using h0
        simp only [hb0,gO]
        obtain⟨ht,m1,_,m3⟩:=JB hc g3.rel S g4 hI.1 hI.2
        rw [m1,aX,Dp _ _ _ _ _ _ (by show b.Selects.length<=1000;omega),ho']
        have hnil:b.Selects=[]:=sW (by omega)
        refine ih x _ (by simp;omega) ⟨fun o hm=>?_,by show ht.length=tD.length;omega,by show tD.length<=100;omega,fun o hm=>?_,H.limit⟩ ho
        · have hm' :o∈b.Selects++[b'.out]:=hm
          rw [hnil,nj]at hm'
          rw [uk.1 hm']
          exact⟨d1,by show wh _ tD;rw [hKO];exact E6 _⟩
        · have hm' :o∈b.Order:=hm
          rw [ho]at hm';cases hm'
      · have hb0:((i:Int)==(0:Int))=false:=by simpa using h0
        simp only [hb0,j0,iB]
        rcases L9 b.Kinds tD with⟨r,u1,u2,u3,u4⟩|⟨z,u1⟩
        · rw [u1,aX,bG (by simp),Dp _ _ _ _ _ _ (by show b.Selects.length<=1000;omega),ho']
          have hfew:=H.few
          have hnm:=H.names
          refine ih x _ (by simp;omega) ⟨fun o hm=>?_,by show b.Names.length=r.length;omega,by show r.length<=100;omega,fun o hm=>?_,H.limit⟩ ho
          · have hm' :o∈b.Selects++[b'.out]:=hm
            rcases uu.1 hm' with hm' |hm'
            · exact⟨(H.sels o hm').1,u3 _ (H.sels o hm').2⟩
            · rw [uk.1 hm']
              exact⟨d1,by show wh _ r;rw [<-hKO];exact u2⟩
          · have hm' :o∈b.Order:=hm
            rw [ho]at hm';cases hm'
        · rw [u1,aX,bK (by rfl)]
          exact⟨_,rfl,.inl ⟨by show(229:Int)≠0;decide,rfl⟩⟩
def PX{c:au}(hs:Am c){q:bD}(hq:Sc q): ∃R,qm c q=some R/\((R.2.2≠0/\R.1.Selects=[])\/(R.2.2=0/\Ea c=true/\WD c q R.1/\R.1.Order.length=q.Keys.length)):=by
 unfold qm
 rw [sN hs,aX]
 cases hc:Ea c with
 |false=>exact⟨_,rfl,.inl ⟨by show(210:Int)≠0;decide,rfl⟩⟩
 |true=>
  rw [bG (by simp),GD hq,aX]
  cases H:QD q with
  |false=>exact⟨_,rfl,.inl ⟨by show(180:Int)≠0;decide,rfl⟩⟩
  |true=>
   rw [bG (by simp)]
   unfold QD Tm at H
   simp only [gM,il]at H
   obtain⟨R,g1,g2⟩:=AG (Ke hc) q H.1.2.2.1 q.Selects 0 (⟨[],[],[],[],(0:Int)⟩:bQ) ⟨[],[],[],[],q.Limit⟩ H.2.1 (by omega) rfl ⟨fun o h=>(by cases h),rfl,by show(0:Nat)<=100;omega,fun o h=>(by cases h),rfl⟩ rfl
   refine⟨R,g1,?_⟩
   rcases g2 with g2|⟨g2,g3,g4⟩
   ·exact .inl g2
   ·exact .inr ⟨g2,rfl,g3,g4⟩
end Go.Proofs.YthbdkceckjihgaaGreatDoor


/- cm of this claim: B22. -/
set_option linter.all false
set_option linter.unusedVariables false
namespace Go.Proofs.YthbdkceckjihgaaGreatDoor
open Go

def zq{e:aB}{tD:List Int}(h:Ta e tD):nJ e tD=some true:=by
 unfold nJ
 rcases h with h|⟨A,V,h3,h4⟩
 ·rw [bK (by rw [h];rfl)]
 ·have hl:e.Nodes.length≠0:=fun e0=>A (sW e0)
  rw [bG (by simp;exact A),la _ _ (by omega),aX,h3]
  rcases h4 with h4|h4<;>rw [h4]<;>rfl
def HS(r3:bQ×Int×Int)(nx:Option Bool)(over:List Int): ∀(l:List aB) (pre U:List Int),r3.1.Kinds=pre++U->wh (l.map fun x=>(dI x over).1) U->(∀x∈l,x.Nodes.length<=1000/\(dI x over).2=0)->jD r3 nx over l pre.length=nx
 |[],pre,U,_,_,_=>rfl
 |x::l,pre,[],_,h,_=>h.elim
 |x::l,pre,u::U,hU,h,D=>by
  have hx0:=D x (ln ..)
  have ih:=HS r3 nx over l (pre++[u]) U (by rw [hU];simp) h.2 (fun y hy=>D y (lH _ hy))
  simp only [mY,wb]at ih
  unfold jD
  rw [la _ _ (by omega),aX,hx0.2,hU,ne]
  have hf:(dI x over).1=u\/(dI x over).1=0:=h.1
  have e:(((dI x over).1 !=u)&&((dI x over).1 !=(0:Int)))=false:=by
   rcases hf with hf|hf<;>simp [hf]
  simp only [Ej,xJ,gO,aX,e,j0,iB]
  exact ih
def OP{c:au}{o:aK}(h:DH c o)(r3:bQ×Int×Int)(nx:Option Bool)(hU:wh (xf c o) r3.1.Kinds):f6 r3 nx o (Qa c o)=nx:=by
 unfold f6
 have hw:=h.wide
 rw [zq h.hav,aX,bG (by simp;omega)]
 exact HS r3 nx (Qa c o) o.Items [] r3.1.Kinds rfl hU h.items
def HQ{r4:List Int×Int}{c:au}{o:aK}(r3:bQ×Int×Int)(nx:Option Bool): ∀(l:List jJ) (out:List Int),(∀a∈l,(oE a r4.1).2=true/\(1<=a.Tag/\a.Tag<=5)/\a.Arg.Nodes.length<=50000)->out.length+l.length<=1000->dA r3 nx o r4 l out=f6 r3 nx o (out++l.map fun a=>(oE a r4.1).1)
 |[],out,_,_=>by unfold dA;simp
 |a::l,out,h,ho=>by
  simp only [gq]at ho
  obtain⟨A,V,h3⟩:=h a (ln ..)
  have ih:=fun out ho=>HQ (c:=c) (o:=o) r3 nx l out (fun y hy=>h y (lH _ hy)) ho
  have step: ∀k:Int,(oE a r4.1).1=k->gY (dA r3 nx o r4 l) out k=f6 r3 nx o (out++(a::l).map fun a=>(oE a r4.1).1):=fun k hk=>by
   unfold gY
   rw [cW (by simp;omega),aX,ih _ (by simp;omega),sn,hk]
   simp
  unfold dA
  by_cases t1:a.Tag=1
  ·rw [bG (by simp [t1])]
   exact step 2 (by unfold oE;rw [bK t1])
  ·rw [bK (by simpa using t1),la _ _ h3,aX]
   unfold oE at A step
   by_cases H:(dI a.Arg r4.1).2≠0\/(a.Tag=3/\(dI a.Arg r4.1).1≠2/\(dI a.Arg r4.1).1≠0)
   ·rw [bG t1,bK H]at A;cases A
   ·have hk:(dI a.Arg r4.1).2=0:=by
     by_cases hk:(dI a.Arg r4.1).2=0
     ·exact hk
     ·exact absurd (.inl hk) H
    rw [bG t1,bG H]at step
    rw [bG (by simp [hk])]
    by_cases t23:a.Tag=2\/a.Tag=3
    ·rw [bK t23]at step
     rw [bG (by simp;omega)]
     exact step 2 rfl
    ·rw [bG t23]at step
     rw [bK (by simp;omega)]
     exact step _ rfl
def HR{r4:List Int×Int}{c:au}{o:aK}(r3:bQ×Int×Int)(nx:Option Bool): ∀(l:List Int) (out:List Int),(∀k∈l,0<=k/\k<(r4.1.length:Int))->out.length+l.length<=1000->gV r3 nx o r4 l out=dA r3 nx o r4 o.Aggs (out++yx r4.1 l)
 |[],out,_,_=>by unfold gV yx;simp
 |k::l,out,h,ho=>by
  simp only [gq]at ho
  obtain⟨A,V⟩:=h k (ln ..)
  have hlt:k.toNat<r4.1.length:=by omega
  have D:fE r4.1 k=some ((r4.1[k.toNat]?).getD 0):=by
   unfold fE
   rw [bK A,kQ hlt];rfl
  unfold gV
  rw [bG (by simp;omega),D,aX,cW (by simp;omega),aX,HR (c:=c) r3 nx l _ (fun y hy=>h y (lH _ hy)) (by simp;omega)]
  unfold yx
  simp
def HT{c:au}(hs:Am c)(hcb:Ea c=true){o:aK}(h:DH c o)(r3:bQ×Int×Int)(nx:Option Bool)(hU:wh (xf c o) r3.1.Kinds): ∀(l:List ll) (i:Nat),o.Joins.drop i=l->gW c r3 nx o (eh c o.Tables,0) l i=nx
 |[],i,_=>by
  have hk:=OP h r3 nx hU
  have h3:=h.keysLen
  have h12:=h.aggsLen
  unfold gW
  unfold Qa at hk
  cases hg:o.Grouped with
  |true=>
   rw [hg,bK rfl]at hk
   rw [bK rfl,HR (c:=c) r3 nx o.Keys [] h.keys (by simp;omega),HQ (c:=c) r3 nx o.Aggs _ h.aggsOk (by simp [yx];omega)]
   exact hk
  |false=>
   rw [hg,bG (by simp)]at hk
   obtain⟨p1,p2,p3⟩:=h.plain hg
   rw [bG (by simp),p1,p2,p3,bG (by simp [BU])]
   exact hk
 |j::l,i,hl=>by
  have hi:i<o.Joins.length:=by
   have:(o.Joins.drop i).length≠0:=by rw [hl];simp
   simp at this;omega
  have hj:o.Joins[i]? =some j:=by
   have:=congrArg List.head? hl
   rw [List.head?_drop]at this
   exact this
  have hjl:=h.fro.joinsLen
  have hfew:=h.few
  have hj1:=h.fro.joins i j hj
  have hw:IntKind.i64.wrap ((i:Int)+2)=((i+2:Nat):Int):=by rw [dS (by omega) (by omega)];omega
  have hsl:cE o.Tables 0 ((i+2:Nat):Int)=some (o.Tables.take (i+2)):=by
   have:=qh (xs:=o.Tables) (l:=0) (m:=i+2) (by omega) (by omega)
   simpa using this
  have hbad:(o.Tables.take (i+2)).any (vl c)=false:=by
   rw [List.any_eq_false]
   intro t M
   rw [h.bad t (List.mem_of_mem_take M)];simp
  have hcol:li c (o.Tables.take (i+2))=some (eh c (o.Tables.take (i+2)),0):=by
   rw [DI hs (Ke hcb).basC.few (by simp;omega),hcb,bK rfl,hbad,bG (by simp)]
  have hne:((j.On.Nodes.length:Int)==(0:Int))=false:=by
   have:=hj1.1
   simp only [Ek,ne_eq]
   intro e
   exact this (sW (by omega))
  unfold gW
  rw [hw,hsl,aX,hcol,aX,hne]
  simp only [Ej,Bool.or_self,xJ,gO]
  rw [zq (.inr hj1),aX,aX]
  rw [bG (by simp)]
  exact HT hs hcb h r3 nx hU l (i+1) (by rw [<-List.tail_drop,hl];rfl)
def LF(q:bD)(r3:bQ×Int×Int)(hn:r3.1.Names.length=r3.1.Kinds.length)(hO:r3.1.Order.length=q.Keys.length)(hL:r3.1.Limit=q.Limit): ∀l:List xF,(∀o∈l,0<=o.Col/\o.Col<(r3.1.Kinds.length:Int))->gX q r3 l=some true
 |[],_=>by unfold gX;rw [hn,hO,hL];simp
 |o::l,h=>by
  have:=h o (ln ..)
  unfold gX
  rw [bG (by simp;omega)]
  exact LF q r3 hn hO hL l (fun y hy=>h y (lH _ hy))
def EQ{c:au}(hs:Am c)(hcb:Ea c=true)(q:bD)(r3:bQ×Int×Int)(hB:WD c q r3.1)(hO:r3.1.Order.length=q.Keys.length): ∀l:List aK,(∀o∈l,DH c o/\wh (xf c o) r3.1.Kinds)->dh c q r3 l=some true
 |[],_=>by
  unfold dh
  exact LF q r3 hB.names hO hB.limit _ hB.order
 |o::l,h=>by
  obtain⟨A,V⟩:=h o (ln ..)
  have hfew:=A.few
  have hjl:=A.fro.joinsLen
  have hbad:o.Tables.any (vl c)=false:=by
   rw [List.any_eq_false]
   intro t M
   rw [A.bad t M];simp
  have hcol:li c o.Tables=some (eh c o.Tables,0):=by
   rw [DI hs (Ke hcb).basC.few (by omega),hcb,bK rfl,hbad,bG (by simp)]
  have hlen:=Ig V
  unfold xf at hlen
  rw [BL]at hlen
  unfold dh
  rw [hcol,aX]
  simp only [Ej,xJ,gO]
  rw [zq A.fro.cond,aX,aX,dS (by omega) (by omega),hlen,bG (by simp;omega)]
  rw [HT hs hcb A r3 _ V o.Joins 0 rfl]
  exact EQ hs hcb q r3 hB hO l (fun y hy=>h y (lH _ hy))
def DL(p:au)(y:bD):pQ p y=some true:=by
 unfold pQ
 obtain⟨R,g1,g2⟩:=PX (yg p) (O4 y)
 rw [I1,aX,bG (by simp),N8,aX,TM,aX,g1,aX]
 rcases g2 with⟨A,V⟩|⟨A,V,h3,h4⟩
 ·rw [bK (by simpa using A),V];rfl
 ·rw [bG (by simpa using A)]
  exact EQ (yg p) V (TN y) R h3 h4 _ h3.sels
end Go.Proofs.YthbdkceckjihgaaGreatDoor

