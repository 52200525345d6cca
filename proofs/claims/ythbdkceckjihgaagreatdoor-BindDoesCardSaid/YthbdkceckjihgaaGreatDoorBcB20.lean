import Derived.Test.YthbdkceckjihgaaGreatDoorBcQ1
import Derived.KernelRfl
import Derived.Test.YthbdkceckjihgaaGreatDoorBcQ2
import Derived.Test.YthbdkceckjihgaaGreatDoorBcQ3
/- dm of this claim: B1. -/
set_option linter.all false
namespace Go.Proofs.YthbdkceckjihgaaGreatDoor
open Go

def Ky{α:Type}(l:List α)(m:Nat)(hm:m<=100000):((dJ l 0 (min (l.length:Int) (m:Int))).bind fun y=>(oT ([]:List α) y).bind fun x=>some x)=some (l.take m):=by
 have e:min (l.length:Int) (m:Int)=((min l.length m:Nat):Int):=by omega
 have h:dJ l 0 (min (l.length:Int) (m:Int))=some (l.take m):=by
  unfold dJ
  rw [cx ⟨by omega,by omega,by omega⟩,e]
  simp only [Cu,Int.toNat_zero,sF,A6]
  rw [List.take_eq_take_iff];omega
 rw [h,bI]
 unfold oT
 rw [cx (by simp;omega)]
 simp
def Ox(s:cX)(m:Nat)(hm:m<=100000):dJ s 0 (min (s.length:Int) (m:Int))=some (s.take m):=by
 have e:min (s.length:Int) (m:Int)=((min s.length m:Nat):Int):=by omega
 unfold dJ
 rw [cx ⟨by omega,by omega,by omega⟩,e]
 simp only [Cu,Int.toNat_zero,sF,A6]
 rw [List.take_eq_take_iff];omega
def nW{α:Type}(pre:List α)(e:α)(tl:List α):fz (pre++e::tl) (pre.length:Int)=some e:=by
 rw [jt];simp
def uW{α:Type}(pre:List α)(e y:α)(tl:List α):(pre++e::tl).set ((pre.length:Nat):Int).toNat y=pre++y::tl:=by
 simp
def Ow(t:bU):bU:={t with Columns:=t.Columns.take 5,Keys:=t.Keys.take 5}
def DK(c:aJ):aJ:=⟨(c.Tables.take 5).map Ow⟩
def SE: ∀(tl pre:List bU),nl tl pre.length ⟨pre++tl⟩=some ⟨pre++tl.map Ow⟩:=by
 intro tl
 induction tl with
 |nil=>intro pre;simp [nl]
 |cons e tl ih=>
  intro pre
  have H:=Ky e.Columns 5 (by omega)
  have J:=Ky e.Keys 5 (by omega)
  unfold nl
  rw [nW,bI,bI]
  rw [show mE e.Columns (5:Int)=some (e.Columns.take 5)from H,bI,show tw e.Keys (5:Int)=some (e.Keys.take 5)from J,bI]
  rw [bI,uW,nW,bI,bI,uW]
  have h3:=ih (pre++[Ow e])
  simp only [pg,y8,gF,JB]at h3
  rw [uM]
  exact h3
def Lf(c:aJ):ub c=some (DK c):=by
 unfold ub
 rw [show qk c.Tables (5:Int)=some (c.Tables.take 5)from Ky c.Tables 5 (by omega),bI]
 exact SE (c.Tables.take 5) []
def Mr(n:dj):dj:={n with Value:={n.Value with S:=n.Value.S.take 60},Table:=n.Table.take 40,Name:=n.Name.take 40}
def vG(t:db):db:=⟨(t.Nodes.take 80).map Mr⟩
def SG: ∀(tl pre:List dj),np tl pre.length ⟨pre++tl⟩=some ⟨pre++tl.map Mr⟩:=by
 intro tl
 induction tl with
 |nil=>intro pre;simp [np]
 |cons e tl ih=>
  intro pre
  unfold np
  rw [nW,bI]
  rw [show dJ e.Value.S 0 (min (e.Value.S.length:Int) (60:Int))=some (e.Value.S.take 60)from Ox _ 60 (by omega),bI,show dJ e.Table 0 (min (e.Table.length:Int) (40:Int))=some (e.Table.take 40)from Ox _ 40 (by omega),bI,
   show dJ e.Name 0 (min (e.Name.length:Int) (40:Int))=some (e.Name.take 40)from Ox _ 40 (by omega),bI]
  rw [bI,uW,nW,bI,bI,uW,nW,bI,bI,uW]
  have h3:=ih (pre++[Mr e])
  simp only [pg,y8,gF,JB]at h3
  rw [uM]
  exact h3
def CC(t:db):pA t=some (vG t):=by
 unfold pA
 rw [show rb t.Nodes (80:Int)=some (t.Nodes.take 80)from Ky t.Nodes 80 (by omega),bI]
 exact SG (t.Nodes.take 80) []
def Wz(x:fK):fK:={x with Tree:=vG x.Tree}
def TY(x:mZ):mZ:={x with On:=vG x.On}
def Ht(s:aK):aK:={s with Items:=(s.Items.take 7).map Wz,Joins:=(s.Joins.take 3).map TY,Where:=vG s.Where,Having:=vG s.Having,Group:=s.Group.take 4}
def aaq(q:ce):ce:={q with Selects:=(q.Selects.take 4).map Ht,Keys:=q.Keys.take 4}
def Yr(nx:Nat->ce->Option ce)(pq tq:List aK)(e0:aK)(q1:ce)(hq:q1.Selects=pq++e0::tq): ∀(tl pre:List mZ) (s:aK),s.Joins=pre++tl->p5 nx pq.length q1 tl pre.length s=nx (pq.length+1) {q1 with Selects:=pq++{s with Joins:=pre++tl.map TY,Where:=vG s.Where,Having:=vG s.Having}::tq}:=by
 intro tl
 induction tl with
 |nil=>
  intro pre s hs
  unfold p5
  rw [CC,bI,CC,bI,bI,hq,uW,hs]
  rfl
 |cons e tl ih=>
  intro pre s hs
  unfold p5
  rw [hs,nW,bI,bI,CC,bI,bI,uW]
  have h3:=ih (pre++[TY e]) {s with Joins:=pre++TY e::tl} (by simp)
  simp only [pg,y8,gF,JB]at h3
  rw [uM]
  exact h3
def Ys(nx:Nat->ce->Option ce)(pq tq:List aK)(e0:aK)(q1:ce)(hq:q1.Selects=pq++e0::tq): ∀(tl pre:List fK) (s:aK),s.Items=pre++tl->p6 nx pq.length q1 tl pre.length s=nx (pq.length+1) {q1 with Selects:=pq++{s with Items:=pre++tl.map Wz,Joins:=s.Joins.map TY,Where:=vG s.Where,Having:=vG s.Having}::tq}:=by
 intro tl
 induction tl with
 |nil=>
  intro pre s hs
  unfold p6
  have:=Yr nx pq tq e0 q1 hq s.Joins [] s rfl
  rw [show([]:List mZ).length=0 from rfl]at this
  rw [this]
  simp [hs]
 |cons e tl ih=>
  intro pre s hs
  unfold p6
  rw [hs,nW,bI,bI,CC,bI,bI,uW]
  have h3:=ih (pre++[Wz e]) {s with Items:=pre++Wz e::tl} (by simp)
  simp only [pg,y8,gF,JB]at h3
  rw [uM]
  exact h3
def Yt: ∀(tl pre:List aK) (q:ce),q.Selects=pre++tl->lx tl pre.length q=some {q with Selects:=pre++tl.map Ht}:=by
 intro tl
 induction tl with
 |nil=>intro pre q hq;unfold lx;simp [<-hq]
 |cons e tl ih=>
  intro pre q hq
  unfold lx
  rw [hq,nW,bI,bI]
  rw [show re e.Items (7:Int)=some (e.Items.take 7)from Ky _ 7 (by omega),bI,show rd e.Joins (3:Int)=some (e.Joins.take 3)from Ky _ 3 (by omega),bI,show nV e.Group (4:Int)=some (e.Group.take 4)from Ky _ 4 (by omega),bI]
  have J:=Ys (lx tl) pre tl e q hq (e.Items.take 7) [] {e with Group:=e.Group.take 4,Items:=e.Items.take 7,Joins:=e.Joins.take 3} rfl
  rw [show([]:List fK).length=0 from rfl]at J
  rw [J]
  have h3:=ih (pre++[Ht e]) {q with Selects:=pre++Ht e::tl} (by simp)
  simp only [pg,y8,gF,JB]at h3
  rw [uM]
  exact h3
def Yu(q:ce):vn q=some (aaq q):=by
 unfold vn
 rw [show pB q.Selects (4:Int)=some (q.Selects.take 4)from Ky _ 4 (by omega),bI,show o5 q.Keys (4:Int)=some (q.Keys.take 4)from Ky _ 4 (by omega),bI]
 have:=Yt (q.Selects.take 4) [] {q with Keys:=q.Keys.take 4,Selects:=q.Selects.take 4} rfl
 exact this
def Nc:zL=some true:=by kernel_rfl
def JQ(c:aJ):HI (DK c):=by
 intro t M
 obtain⟨u,_,rfl⟩:=Br.1 M
 have:(Ow u).Keys.length<=5:=by simp [Ow];omega
 omega
end Go.Proofs.YthbdkceckjihgaaGreatDoor


/- dm of this claim: B2. -/
set_option linter.all false
namespace Go.Proofs.YthbdkceckjihgaaGreatDoor
open Go

def Jb{f:dj->Option Bool}{p:dj->Bool}(hf: ∀x,f x=some (p x)): ∀(l:List dj) (i:Nat),∃j:Int,ei f l i=some j/\decide (0<=j)=l.any p
 |[],i=>⟨-1,rfl,rfl⟩
 |x::l,i=>by
  unfold ei
  rw [hf,bI,xm]
  cases D:p x with
  |true=>exact⟨i,rfl,by simp⟩
  |false=>
   obtain⟨j,H,J⟩:=Jb hf l (i+1)
   exact⟨j,H,by rw [J];rfl⟩
def Oy{f:dj->Option Bool}{p:dj->Bool}(hf: ∀x,f x=some (p x))(l:List dj):fh l f=some (l.any p):=by
 obtain⟨j,H,J⟩:=Jb hf l 0
 unfold fh iI
 rw [H,bI,J]
def Jc{f:fK->Option Bool}{p:fK->Bool}(hf: ∀x,f x=some (p x)): ∀(l:List fK) (i:Nat),∃j:Int,ej f l i=some j/\decide (0<=j)=l.any p
 |[],i=>⟨-1,rfl,rfl⟩
 |x::l,i=>by
  unfold ej
  rw [hf,bI,xm]
  cases D:p x with
  |true=>exact⟨i,rfl,by simp⟩
  |false=>
   obtain⟨j,H,J⟩:=Jc hf l (i+1)
   exact⟨j,H,by rw [J];rfl⟩
def Oz{f:fK->Option Bool}{p:fK->Bool}(hf: ∀x,f x=some (p x))(l:List fK):fi l f=some (l.any p):=by
 obtain⟨j,H,J⟩:=Jc hf l 0
 unfold fi iJ
 rw [H,bI,J]
def xI(tag:Int):Bool:=tag==3||(decide (8<=tag)&&decide (tag<=11))
def qg:List (Int×Int):=[(3,1),(8,2),(9,3),(10,4),(11,5)]
def Bo:qW=some qg:=by kernel_rfl
def Um(tag:Int):decide ((0:Int)<((ie qg tag).getD (0:Int)))=xI tag:=by
 unfold qg xI
 simp only [ie]
 by_cases h3:tag=3
 ·subst h3;decide
 by_cases h8:tag=8
 ·subst h8;decide
 by_cases h9:tag=9
 ·subst h9;decide
 by_cases h10:tag=10
 ·subst h10;decide
 by_cases h11:tag=11
 ·subst h11;decide
 have e1: ¬(3:Int)=tag:=fun h=>h3 h.symm
 have e2: ¬(8:Int)=tag:=fun h=>h8 h.symm
 have e3: ¬(9:Int)=tag:=fun h=>h9 h.symm
 have e4: ¬(10:Int)=tag:=fun h=>h10 h.symm
 have e5: ¬(11:Int)=tag:=fun h=>h11 h.symm
 have e6:(tag==3)=false:=by simpa using h3
 have e7:(decide (8<=tag)&&decide (tag<=11))=false:=by simp;omega
 simp [e1,e2,e3,e4,e5,e6,e7]
def RF(t:db):Bool:=t.Nodes.any fun n=>xI n.Tag
def oy(s:aK):Bool:=(decide (0<s.Group.length)||decide (0<s.Having.Nodes.length))||s.Items.any fun x=>RF x.Tree
def OV(s:aK):vj s=some (oy s):=by
 unfold vj oy
 rw [Bo,bI]
 have H: ∀n,nA qg n=some (xI n.Tag):=fun n=>by unfold nA;rw [Um]
 have J: ∀x,pO qg x=some (RF x.Tree):=fun x=>by unfold pO RF;rw [Oy H,bI]
 rw [Oz J,bI]
 have e1:decide ((0:Int)<(s.Group.length:Int))=decide (0<s.Group.length):=by rw [AR];omega
 have e2:decide ((0:Int)<(s.Having.Nodes.length:Int))=decide (0<s.Having.Nodes.length):=by rw [AR];omega
 rw [e1,e2]
 cases (decide (0<s.Group.length)||decide (0<s.Having.Nodes.length))<;>rfl
def GA: ∀(l:List dj),rQ l=some (l.any fun n=>xI n.Tag)
 |[]=>rfl
 |x::l=>by
  unfold rQ
  rw [show kT x.Tag=some (xI x.Tag)from rfl,bI,xm]
  cases xI x.Tag with
  |true=>rfl
  |false=>exact GA l
def vK: ∀(l:List fK) (b:Bool),lG l b=some (b||l.any fun x=>RF x.Tree)
 |[],b=>by simp [lG]
 |x::l,b=>by
  unfold lG
  rw [show DZ x.Tree=some (RF x.Tree)from GA x.Tree.Nodes,xm]
  cases b with
  |true=>simp only [qY,kM,jh,bI];rw [vK l true];rfl
  |false=>simp only [Bu,jb,bI];rw [vK l (RF x.Tree)];simp
def GB(s:aK):tk s=some (oy s):=by
 unfold tk oy
 have e1:decide ((0:Int)<(s.Group.length:Int))=decide (0<s.Group.length):=by rw [AR];omega
 have e2:decide ((0:Int)<(s.Having.Nodes.length:Int))=decide (0<s.Having.Nodes.length):=by rw [AR];omega
 rw [vK,e1,e2]
def HD(c:aJ)(t:Int):Bool:=decide (t<0)||decide ((c.Tables.length:Int)<=t)
def kB(c:aJ)(t:Int):List cb:=((c.Tables[t.toNat]?).map fun x=>x.Columns).getD []
def iB(c:aJ)(ts:List Int):List Int:=ts.flatMap fun t=>(kB c t).map fun x=>x.Kind
def Uv(c:aJ):Prop:= ∀t∈c.Tables,t.Columns.length<=1000
def yz{c:aJ}(h:Uv c)(t:Int):(kB c t).length<=1000:=by
 unfold kB
 cases D:c.Tables[t.toNat]? with
 |none=>simp
 |some x=>exact h x (uo D)
def FA{c:aJ}{t:Int}(h:HD c t=false): ∃x,fz c.Tables t=some x/\x.Columns=kB c t/\x∈c.Tables:=by
 simp only [HD,JA,qh]at h
 have hlt:t.toNat<c.Tables.length:=by omega
 refine⟨c.Tables[t.toNat],?_,?_,Iv ..⟩
 ·unfold fz;rw [cx (by omega),lr hlt]
 ·unfold kB;rw [lr hlt];rfl
def LV(nx:List Int->Option (List Int)): ∀(l:List cb) (out:List Int),out.length+l.length<=68719476736->mT nx l out=nx (out++l.map fun x=>x.Kind)
 |[],out,_=>by simp [mT]
 |x::l,out,h=>by
  simp only [ji]at h
  unfold mT oT
  rw [cx (by simp;omega),bI,LV nx l _ (by simp;omega)]
  simp
def LW{c:aJ}(hc:Uv c): ∀(l:List Int) (out:List Int),(∀t∈l,HD c t=false)->out.length+l.length*1000<=68719476736->lE c l out=some (out++iB c l)
 |[],out,_,_=>by simp [lE,iB]
 |t::l,out,h,hl=>by
  simp only [ji]at hl
  obtain⟨x,H,J,_⟩:=FA (h t (oh ..))
  have h3:=yz hc t
  unfold lE
  rw [H,bI,LV _ _ _ (by rw [J];omega),LW hc l _ (fun t M=>h t (oO _ M)) (by rw [J];simp;omega),J]
  simp [iB]
def N0{c:aJ}(hc:Uv c){l:List Int}(h: ∀t∈l,HD c t=false)(hl:l.length<=1000):Cd c l=some (iB c l):=by
 unfold Cd
 rw [LW hc l [] h (by simp;omega)];rfl
def Gz(c:aJ): ∀(l:List Int) (out:List Int),lU c l out=lE c l out:=by
 have J: ∀(nx:List Int->Option (List Int)) (l:List cb) (out:List Int),pp nx l out=mT nx l out:=by
  intro nx l
  induction l with
  |nil=>intro out;rfl
  |cons x l ih=>intro out;unfold pp mT;exact congrArg _ (funext fun y=>ih y)
 intro l
 induction l with
 |nil=>intro out;rfl
 |cons t l ih=>
  intro out
  unfold lU lE
  refine congrArg _ (funext fun e=>?_)
  rw [J,show lU c l=lE c l from funext ih]
def JV{c:aJ}(hc:Uv c){l:List Int}(h: ∀t∈l,HD c t=false)(hl:l.length<=1000):jQ c l=some (iB c l):=by
 have:=N0 hc h hl
 unfold Cd at this
 unfold jQ
 rw [Gz,this]
end Go.Proofs.YthbdkceckjihgaaGreatDoor


/- dm of this claim: B3. -/
set_option linter.all false
namespace Go.Proofs.YthbdkceckjihgaaGreatDoor
open Go

def Ro(tag:Int):Option Nat:=if 1<=tag/\tag<=3 then some 0 else if 4<=tag/\tag<=11 then some 1 else if 12<=tag/\tag<=23 then some 2 else none
def zI(tag:Int):Int:=match Ro tag with
 |some k=>(k:Int)
 |none=> -1
def Dq(tag:Int):AI tag=some (zI tag):=by
 unfold AI zI Ro
 by_cases h0:tag<1\/23<tag
 ·rw [cx (show(decide (tag<1)||decide (23<tag))=true by simpa using h0),cm (show¬(1<=tag/\tag<=3) by omega),cm (show¬(4<=tag/\tag<=11) by omega),cm (show¬(12<=tag/\tag<=23) by omega)]
 rw [cm (show¬(decide (tag<1)||decide (23<tag))=true by simpa using h0)]
 by_cases H:tag<=3
 ·rw [cx (show decide (tag<=3)=true by simpa using H),cx (show 1<=tag/\tag<=3 by omega)];rfl
 rw [cm (show¬decide (tag<=3)=true by simpa using H),cm (show¬(1<=tag/\tag<=3) by omega)]
 by_cases J:tag<=11
 ·rw [cx (show decide (tag<=11)=true by simpa using J),cx (show 4<=tag/\tag<=11 by omega)];rfl
 rw [cm (show¬decide (tag<=11)=true by simpa using J),cm (show¬(4<=tag/\tag<=11) by omega),cx (show 12<=tag/\tag<=23 by omega)];rfl
def rX(tag:Int):tW tag=some (zI tag):=Dq tag
def MJ(up:List Int)(ws:List cX): ∀(n i:Nat),i+n=ws.length->mn up ws n i=some (!(ws.drop i).any fun w=>w==oV up):=by
 intro n
 induction n with
 |zero=>intro i h;unfold mn;rw [rE (by omega)];rfl
 |succ n ih=>
  intro i h
  have hi:i<ws.length:=by omega
  unfold mn
  rw [jt,lr hi,bI,sH hi,xm]
  cases D:(ws[i]==oV up)with
  |true=>rw [cx rfl];rfl
  |false=>rw [cm (by simp),ih (i+1) (by omega)];rfl
def PO(s:cX){i:Nat}(hi:i<s.length):uC s (i:Int)=some ((s[i]).toNat:Int):=by
 unfold uC
 rw [jt,lr hi];rfl
def GF:zD=some Ym:=rfl
def MK(s:cX)(hs:s.length<=1000): ∀(n i:Nat) (up:List Int),s.length<i+n->i<=s.length->up.length<=i->oV up=(s.take i).map Ng->kV s n up (i:Int)=some ((s.drop i).all Rr&& !F4 (s.map Ng)):=by
 intro n
 induction n with
 |zero=>intro i up h J _ _;omega
 |succ n ih=>
  intro i up h J hl hu
  unfold kV
  by_cases hi:i<s.length
  ·rw [cx (by rw [mV];omega),PO s hi,bI,sH hi,tI]
   have hw:IntKind.i64.wrap ((i:Int)+1)=((i+1:Nat):Int):=by rw [AQ];omega
   have hlt:=(s[i]).toNat_lt
   have htake:s.take (i+1)=s.take i++[s[i]]:=by rw [MU hi]
   have hok:Rr s[i]=(jc (s[i]).toNat||v7 (s[i]).toNat||(s[i]).toNat==95):=rfl
   have e1:(((!((decide ((97:Int)<=((s[i]).toNat:Int)))&&(decide (((s[i]).toNat:Int)<=(122:Int)))))&&((decide (((s[i]).toNat:Int)<(48:Int)))||(decide ((57:Int)<((s[i]).toNat:Int)))))&&(((s[i]).toNat:Int) !=(95:Int)))= !Rr s[i]:=by
    rw [hok,xk]
    simp [jc,v7]
    omega
   rw [e1]
   cases ho:Rr s[i]with
   |false=>simp
   |true=>
    simp only [qY,kM,jh,wY]
    have e2:((decide ((97:Int)<=((s[i]).toNat:Int)))&&(decide (((s[i]).toNat:Int)<=(122:Int))))=jc (s[i]).toNat:=by
     rw [xk];simp [jc];omega
    rw [e2]
    cases hsm:jc (s[i]).toNat with
    |true=>
     have h97:97<=(s[i]).toNat/\(s[i]).toNat<=122:=by simpa [jc] using hsm
     have hc:IntKind.u8.wrap (((s[i]).toNat:Int)-32)=(((s[i]).toNat-32:Nat):Int):=by
      rw [IntKind.wrap_u8];omega
     rw [cx rfl,hc]
     unfold ow
     rw [dF (by simp;omega),bI,hw]
     refine ih (i+1) _ (by omega) (by omega) (by simp;omega) ?_
     rw [uT,hu,htake,Iu]
     congr 1
     show oV [_]=_
     simp only [oV,uM,EB]
     congr 1
     simp [Ng,hsm]
    |false=>
     rw [cm (by simp)]
     unfold ow
     rw [dF (by simp;omega),bI,hw]
     refine ih (i+1) _ (by omega) (by omega) (by simp;omega) ?_
     rw [uT,hu,htake,Iu]
     congr 1
     show oV [_]=_
     simp only [oV,uM,EB]
     congr 1
     simp [Ng,hsm]
  ·rw [cm (by rw [mV];omega),rE (by omega)]
   have hi' :i=s.length:=by omega
   rw [GF,bI,MJ up Ym 28 0 rfl,sF,hu,hi',A3]
   rfl
def qR(s:cX):nR s=some (js s):=by
 unfold nR js
 cases s with
 |nil=>rfl
 |cons b t=>
  by_cases hl:(b::t).length<=16
  ·rw [cx (by rw [zh,JA,qh,qh];simp at hl ⊢;omega),D7,bI,bI]
   have e0:(decide (1<=(b::t).length)&&decide ((b::t).length<=16)&&PP (b::t))=jc b.toNat:=by
    rw [rG (show 1<=(b::t).length by simp),rG hl];rfl
   rw [e0]
   by_cases h97:97<=b.toNat
   ·have d1:decide ((b.toNat:Int)<(97:Int))=false:=by rw [qh];omega
    rw [d1]
    simp only [Bu,jb,bI]
    by_cases h122:b.toNat<=122
    ·have d2:decide ((122:Int)<(b.toNat:Int))=false:=by rw [qh];omega
     have d3:jc b.toNat=true:=by simp [jc];omega
     rw [d2,d3]
     simp only [kM,jh,wY]
     have:=MK (b::t) (by omega) fc 0 [] (by unfold fc;omega) (jR _) (f7 _) rfl
     rw [show((0:Int))=((0:Nat):Int)from rfl,this,sF,Bool.and_comm]
    ·have d2:decide ((122:Int)<(b.toNat:Int))=true:=by rw [mV];omega
     have d3:jc b.toNat=false:=by simp [jc];omega
     rw [d2,d3];rfl
   ·have d1:decide ((b.toNat:Int)<(97:Int))=true:=by rw [mV];omega
    have d3:jc b.toNat=false:=by simp [jc];omega
    rw [d1,d3];rfl
  ·rw [cm (by rw [zh,JA,qh,qh];omega)]
   rw [um hl]
   simp
def nU(s:cX):Bool:=s==[]||js s
def vk(s:cX):s7 s=some (nU s):=by
 unfold s7 nU
 rw [lC]
 cases (s==([]:cX))<;>rfl
def pt(s:cX):nK s=some (nU s):=by
 unfold nK nU
 rw [qR]
 cases (s==([]:cX))<;>rfl
def nN(s:d7):Bool:=js s.Table&&nU s.As
def Bn(s:d7):wa s=some (nN s):=by
 unfold wa nN
 rw [lC,vk]
 cases js s.Table<;>rfl
def yN(s:d7):rW s=some (nN s):=by
 unfold rW nN
 rw [qR,pt]
 cases js s.Table<;>rfl
def UA(b:UInt8):Bool:=decide (32<=b.toNat)&&decide (b.toNat<=126)
def Su(s:cX){i:Nat}(hi:i<s.length){β:Type}(x y:Option β):(((uC s (i:Int)).bind fun b=>(if(!(decide (b<(32:Int))))then((uC s (i:Int)).bind fun b1=>some (decide ((126:Int)<b1)))else some true).bind fun t=>if t then x else y))=if UA s[i]then y else x:=by
 rw [PO s hi]
 simp only [bI]
 unfold UA
 by_cases H:(s[i]).toNat<32
 ·have d1:decide (((s[i]).toNat:Int)<32)=true:=by rw [mV];omega
  have d2:decide (32<=(s[i]).toNat)=false:=by rw [qh];omega
  rw [d1,d2];rfl
 ·have d1:decide (((s[i]).toNat:Int)<32)=false:=by rw [qh];omega
  have d2:decide (32<=(s[i]).toNat)=true:=by rw [mV];omega
  rw [d1,d2]
  by_cases h3:(s[i]).toNat<=126
  ·have d3:decide ((126:Int)<((s[i]).toNat:Int))=false:=by rw [qh];omega
   have d4:decide ((s[i]).toNat<=126)=true:=by rw [mV];omega
   rw [d3,d4];rfl
  ·have d3:decide ((126:Int)<((s[i]).toNat:Int))=true:=by rw [mV];omega
   have d4:decide ((s[i]).toNat<=126)=false:=by rw [qh];omega
   rw [d3,d4];rfl
def MY(s:cX)(hs:s.length<=100000): ∀(n i:Nat),s.length<i+n->i<=s.length->pP s n (i:Int)=some ((s.drop i).all UA):=by
 intro n
 induction n with
 |zero=>intro i h J;omega
 |succ n ih=>
  intro i h J
  unfold pP
  by_cases hi:i<s.length
  ·have hw:IntKind.i64.wrap ((i:Int)+1)=((i+1:Nat):Int):=by rw [AQ];omega
   rw [cx (by rw [mV];omega),Su s hi,sH hi,tI,hw,ih (i+1) (by omega) (by omega)]
   cases UA s[i]<;>rfl
  ·rw [cm (by rw [mV];omega),rE (by omega)];rfl
def Au(v:cJ):Bool:=uB v&&decide (0<=v.N)
def NZ(v:cJ)(hs:v.S.length<=100000): ∀(n i:Nat),v.S.length<i+n->i<=v.S.length->ni v n (i:Int)=some ((v.S.drop i).all UA&&Au v):=by
 intro n
 induction n with
 |zero=>intro i h J;omega
 |succ n ih=>
  intro i h J
  unfold ni
  by_cases hi:i<v.S.length
  ·have hw:IntKind.i64.wrap ((i:Int)+1)=((i+1:Nat):Int):=by rw [AQ];omega
   rw [cx (by rw [mV];omega),Su v.S hi,sH hi,tI,hw,ih (i+1) (by omega) (by omega)]
   cases UA v.S[i]<;>rfl
  ·rw [cm (by rw [mV];omega),rE (by omega),py];rfl
def uG(n:dj):Bool:=
 if n.Tag=1 then(n.Table==[]&&n.Name==[])&&(Au n.Value&&n.Value.S.all UA)
 else if n.Tag=2 then decide (n.Value=(⟨0,0,0,[]⟩:cJ))&&(js n.Name&&nU n.Table)
 else decide (n.Value=(⟨0,0,0,[]⟩:cJ))&&(n.Table==[]&&n.Name==[])
def yW(n:dj):Prop:=n.Value.S.length<=100000
def Ik{n:dj}(hs:yW n):yD n=some (uG n):=by
 unfold yD uG
 by_cases H:n.Tag=1
 ·rw [cx (by simpa using H),cx H,zm]
  have hw:=MY n.Value.S hs fc 0 (by unfold fc yW at*;omega) (jR _)
  rw [show z7 n.Value.S=some (n.Value.S.all UA)from hw]
  unfold Au
  cases (n.Table==([]:cX))<;>cases (n.Name==([]:cX))<;>cases uB n.Value<;>cases decide (0<=n.Value.N)<;>rfl
 ·rw [cm (by simpa using H),cm H]
  by_cases J:n.Tag=2
  ·rw [cx (by simpa using J),cx J,lC,vk]
   cases decide (n.Value=(⟨0,0,0,[]⟩:cJ))<;>cases js n.Name<;>rfl
  ·rw [cm (by simpa using J),cm J]
   cases decide (n.Value=(⟨0,0,0,[]⟩:cJ))<;>cases (n.Table==([]:cX))<;>cases (n.Name==([]:cX))<;>rfl
def qQ{n:dj}(hs:yW n):u4 n=some (uG n):=by
 unfold u4 uG
 by_cases H:n.Tag=1
 ·rw [cx (by simpa using H),cx H]
  have hw:=NZ n.Value hs fc 0 (by unfold fc yW at*;omega) (jR _)
  rw [show xd n.Value=some (n.Value.S.all UA&&Au n.Value)from hw]
  cases (n.Table==([]:cX))<;>cases (n.Name==([]:cX))<;>cases Au n.Value<;>cases n.Value.S.all UA<;>rfl
 ·rw [cm (by simpa using H),cm H]
  by_cases J:n.Tag=2
  ·rw [cx (by simpa using J),cx J,qR,pt]
   cases decide (n.Value=(⟨0,0,0,[]⟩:cJ))<;>cases js n.Name<;>rfl
  ·rw [cm (by simpa using J),cm J]
   cases decide (n.Value=(⟨0,0,0,[]⟩:cJ))<;>cases (n.Table==([]:cX))<;>cases (n.Name==([]:cX))<;>rfl
inductive Bt where
 |lf (n:dj)
 |un (n:dj) (a:Bt)
 |bi (n:dj) (a b:Bt)
 deriving Inhabited
def Bt.size:Bt->Nat
 | .lf _=>1
 | .un _ a=>a.size+1
 | .bi _ a b=>a.size+b.size+1
def putA(n:dj)(l r:Int):dj:={n with L:=l,R:=r}
def Bt.flat:Bt->Nat->List dj
 | .lf n,_=>[putA n (-1) (-1)]
 | .un n a,s=>a.flat s++[putA n ((s+a.size:Nat)-1) (-1)]
 | .bi n a b,s=>a.flat s++b.flat (s+a.size)++[putA n ((s+a.size:Nat)-1) ((s+a.size+b.size:Nat)-1)]
def okA(k:Nat)(n:dj):Prop:=Ro n.Tag=some k/\uG n=true/\n.L= -1/\n.R= -1
def Bt.wf:Bt->Prop
 | .lf n=>okA 0 n
 | .un n a=>okA 1 n/\a.wf
 | .bi n a b=>okA 2 n/\a.wf/\b.wf
def Bt.depth:Bt->Nat
 | .lf _=>1
 | .un _ a=>a.depth+1
 | .bi _ a b=>max a.depth b.depth+1
def Bt.size_pos(t:Bt):0<t.size:=by cases t<;>simp [Bt.size]
def Bt.flat_len(t:Bt): ∀s,(t.flat s).length=t.size:=by
 induction t with
 |lf n=>intro s;rfl
 |un n a ih=>intro s;simp [Bt.flat,Bt.size,ih]
 |bi n a b iha ihb=>intro s;simp [Bt.flat,Bt.size,iha,ihb];omega
def cG:List Bt->Nat
 |[]=>0
 |t::st=>cG st+t.size
def yi:List Bt->List dj
 |[]=>[]
 |t::st=>yi st++t.flat (cG st)
def Gg: ∀st:List Bt,st.length<=cG st
 |[]=>f7 _
 |t::st=>by have:=Gg st;have:=t.size_pos;simp [cG];omega
def CT(st:List Bt)(n:dj):Option (List Bt):=
 match Ro n.Tag,st with
 |some 0,st=>if uG n&&n.L== -1&&n.R== -1 then some (.lf (putA n (-1) (-1))::st)else none
 |some 1,a::st=>if uG n&&n.L==((cG st+a.size:Nat):Int)-1&&n.R== -1 then some (.un (putA n (-1) (-1)) a::st)else none
 |some 2,b::a::st=>if uG n&&n.L==((cG st+a.size:Nat):Int)-1&&n.R==((cG st+a.size+b.size:Nat):Int)-1 then some (.bi (putA n (-1) (-1)) a b::st)else none
 |_,_=>none
def mQ:List dj->List Bt->Option (List Bt)
 |[],st=>some st
 |n::ns,st=>(CT st n).bind (mQ ns)
def UQ(st:List Bt):Prop:= ∀t∈st,t.wf
def Ar{n:dj}{l r:Int}(h:n.L=l)(J:n.R=r):putA (putA n (-1) (-1)) l r=n:=by subst h J;rfl
def Hy{n:dj}{l r:Int}:uG (putA n l r)=uG n:=rfl
def NH{st st' :List Bt}{n:dj}(h:CT st n=some st')(hw:UQ st):yi st' =yi st++[n]/\cG st' =cG st+1/\UQ st' :=by
 unfold CT at h
 split at h
 ·rename_i k st0 hk
  split at h
  ·rename_i hc
   simp only [jM,wk]at hc
   obtain⟨⟨H,J⟩,h3⟩:=hc
   cases h
   refine⟨?_,rfl,fun t M=>?_⟩
   ·simp only [yi,Bt.flat]
    rw [Ar J h3]
   ·rcases gn.1 M with rfl|M
    ·exact⟨hk,H,rfl,rfl⟩
    ·exact hw t M
  ·cases h
 ·rename_i k a st0 hk
  split at h
  ·rename_i hc
   simp only [jM,wk]at hc
   obtain⟨⟨H,J⟩,h3⟩:=hc
   cases h
   refine⟨?_,by simp [cG,Bt.size];omega,fun t M=>?_⟩
   ·simp only [yi,Bt.flat]
    rw [Ar J h3,gF]
   ·rcases gn.1 M with rfl|M
    ·exact⟨⟨hk,H,rfl,rfl⟩,hw a (oh ..)⟩
    ·exact hw t (oO _ M)
  ·cases h
 ·rename_i k b a st0 hk
  split at h
  ·rename_i hc
   simp only [jM,wk]at hc
   obtain⟨⟨H,J⟩,h3⟩:=hc
   cases h
   refine⟨?_,by simp [cG,Bt.size];omega,fun t M=>?_⟩
   ·simp only [yi,Bt.flat,cG]
    rw [Ar J h3]
    simp only [gF]
   ·rcases gn.1 M with rfl|M
    ·exact⟨⟨hk,H,rfl,rfl⟩,hw a (oO _ (oh ..)),hw b (oh ..)⟩
    ·exact hw t (oO _ (oO _ M))
  ·cases h
 ·cases h
def EM: ∀{ns:List dj} {st st' :List Bt},mQ ns st=some st' ->UQ st->yi st' =yi st++ns/\UQ st'
 |[],st,st',h,hw=>by cases h;simp [hw]
 |n::ns,st,st',h,hw=>by
  unfold mQ at h
  cases hp:CT st n with
  |none=>rw [hp]at h;cases h
  |some st1=>
   rw [hp]at h
   obtain⟨H,_,h3⟩:=NH hp hw
   obtain⟨h4,h5⟩:=EM (ns:=ns) h h3
   exact⟨by rw [h4,H];simp,h5⟩
def tu: ∀(ns ms:List dj) (st:List Bt),mQ (ns++ms) st=(mQ ns st).bind (mQ ms)
 |[],ms,st=>rfl
 |n::ns,ms,st=>by
  simp only [yZ,mQ]
  cases CT st n with
  |none=>rfl
  |some st1=>exact tu ns ms st1
def LJ(t:Bt): ∀(st:List Bt),t.wf->mQ (t.flat (cG st)) st=some (t::st):=by
 induction t with
 |lf n=>
  intro st ⟨H,J,h3,h4⟩
  have hn' :putA n (-1) (-1)=n:=by cases n;simp only at h3 h4;subst h3 h4;rfl
  simp only [Bt.flat,mQ,CT,hn']
  rw [H]
  simp [J,h3,h4,mQ,hn']
 |un n a ih=>
  intro st ⟨⟨H,J,h3,h4⟩,ha⟩
  have hn' :putA n (-1) (-1)=n:=by cases n;simp only at h3 h4;subst h3 h4;rfl
  simp only [Bt.flat]
  rw [tu,ih st ha]
  simp only [bI,mQ,CT]
  have e1:(putA n (((cG st+a.size:Nat):Int)-1) (-1)).Tag=n.Tag:=rfl
  rw [e1,H]
  have e2:uG (putA n (((cG st+a.size:Nat):Int)-1) (-1))=true:=J
  rw [e2]
  simp only [putA,A4,Bool.and_self,jb,bI,mQ]
  simp only [putA]at hn'
  rw [hn']
 |bi n a b iha ihb=>
  intro st ⟨⟨H,J,h3,h4⟩,ha,A⟩
  have hn' :putA n (-1) (-1)=n:=by cases n;simp only at h3 h4;subst h3 h4;rfl
  simp only [Bt.flat]
  rw [tu,tu,iha st ha]
  simp only [bI]
  have e0:cG st+a.size=cG (a::st):=rfl
  rw [e0,ihb (a::st) A]
  simp only [bI,mQ,CT]
  have e1:(putA n (((cG (a::st):Nat):Int)-1) (((cG (a::st)+b.size:Nat):Int)-1)).Tag=n.Tag:=rfl
  rw [e1,H]
  have e2:uG (putA n (((cG (a::st):Nat):Int)-1) (((cG (a::st)+b.size:Nat):Int)-1))=true:=J
  rw [e2]
  simp only [putA,cG,A4,Bool.and_self,jb,bI,mQ]
  simp only [putA]at hn'
  rw [hn']
def S2:List Bt->Bool
 |[t]=>decide (t.size<=300)&&decide (t.depth<=20)
 |_=>false
def A8(ns:List dj):Option Bt:=match mQ ns []with
 |some [t]=>if t.size<=300/\t.depth<=20 then some t else none
 |_=>none
def xT{ns:List dj}{t:Bt}(h:A8 ns=some t):t.wf/\ns=t.flat 0/\t.size<=300/\t.depth<=20:=by
 unfold A8 at h
 split at h
 ·rename_i t0 hp
  split at h
  ·rename_i hl
   cases h
   obtain⟨H,J⟩:=EM hp (fun t M=>by cases M)
   simp only [yi,cG,qo]at H
   exact⟨J t (oh ..),H.symm,hl⟩
  ·cases h
 ·cases h
def Ni{t:Bt}(h:t.wf)(hs:t.size<=300)(hd:t.depth<=20):A8 (t.flat 0)=some t:=by
 unfold A8
 have h0:=LJ t [] h
 simp only [cG]at h0
 rw [h0]
 simp only [hs,hd,and_self,jb]
end Go.Proofs.YthbdkceckjihgaaGreatDoor


/- dm of this claim: B4. -/
set_option linter.all false
namespace Go.Proofs.YthbdkceckjihgaaGreatDoor
open Go

def OJ:Bt->Nat->List me
 | .lf _,s=>[⟨(s:Int),1⟩]
 | .un _ a,s=>OJ a s++[⟨(s:Int),((a.depth+1:Nat):Int)⟩]
 | .bi _ a b,s=>OJ a s++OJ b (s+a.size)++[⟨(s:Int),((max a.depth b.depth+1:Nat):Int)⟩]
def Do:List Bt->List me
 |[]=>[]
 |t::st=>Do st++OJ t (cG st)
def nP:List Bt->List Int
 |[]=>[]
 |t::st=>nP st++[((cG st+t.size:Nat):Int)-1]
def vi(t:Bt): ∀s,(OJ t s).length=t.size:=by
 induction t with
 |lf n=>intro s;rfl
 |un n a ih=>intro s;simp [OJ,Bt.size,ih]
 |bi n a b iha ihb=>intro s;simp [OJ,Bt.size,iha,ihb];omega
def uf: ∀st:List Bt,(Do st).length=cG st
 |[]=>rfl
 |t::st=>by simp [Do,cG,uf st,vi]
def ee: ∀st:List Bt,(nP st).length=st.length
 |[]=>rfl
 |t::st=>by simp [nP,ee st]
def Bt.depth_size(t:Bt):t.depth<=t.size:=by
 induction t with
 |lf n=>exact f7 _
 |un n a ih=>simp [Bt.size,Bt.depth,ih]
 |bi n a b iha ihb=>simp [Bt.size,Bt.depth];omega
def Ui(t:Bt)(s:Nat):(OJ t s)[t.size-1]? =some ⟨(s:Int),(t.depth:Int)⟩:=by
 cases t with
 |lf n=>rfl
 |un n a=>simp only [OJ,Bt.size];rw [xl (by rw [vi];omega),vi];simp [Bt.depth]
 |bi n a b=>simp only [OJ,Bt.size];rw [xl (by simp [vi]),pg,vi,vi];simp [Bt.depth]
def AH(t:Bt)(st:List Bt)(rest:List me):(Do st++OJ t (cG st)++rest)[cG st+t.size-1]? =some ⟨(cG st:Int),(t.depth:Int)⟩:=by
 have:=t.size_pos
 rw [Cq (by rw [pg,uf,vi];omega),xl (by rw [uf];omega),uf,show cG st+t.size-1-cG st=t.size-1 from by omega]
 exact Ui t _
def Zo{β:Type}(a b l r:Int)(x y:Option β):((fz [a,b] (0:Int)).bind fun e2=>(if(!(l !=e2))then((fz [a,b] (1:Int)).bind fun e3=>some (r !=e3))else some true).bind fun t3=>if t3 then x else y)=if(l==a&&r==b)then y else x:=by
 have h0:fz [a,b] (0:Int)=some a:=rfl
 have H:fz [a,b] (1:Int)=some b:=rfl
 rw [h0,H]
 simp only [bI]
 by_cases hl:l=a
 ·subst hl
  simp only [bne_self_eq_false,Bu,jb,bI,A4,wY]
  by_cases hr:r=b
  ·subst hr;simp
  ·have:(r==b)=false:=by simpa using hr
   simp [bne,this]
 ·have:(l==a)=false:=by simpa using hl
  simp [bne,this]
def Mc: ∀(ns:List dj) (st:List Bt),(∀n∈ns,yW n)->cG st+ns.length<=100000->od ns (cG st) (Do st) (nP st)=some (match mQ ns st with
   |some st' =>(Do st',S2 st')
   |none=>([],false)):=by
 intro ns
 induction ns with
 |nil=>
  intro st _ _
  simp only [od,mQ,ee,uf]
  match st with
  |[]=>rfl
  |[t]=>
   have hp:=t.size_pos
   have hl:=AH t [] []
   simp only [Do,cG,Cn,qo,sE]at hl ⊢
   have e1:(((([t]:List Bt).length:Nat):Int)==(1:Int))=true:=rfl
   rw [e1]
   simp only [S2,wY]
   by_cases hs:t.size<=300
   ·rw [cx (by rw [mV];omega),jU (t.size-1) (by rw [dW (by omega) (by omega)];omega),hl]
    simp only [bI]
    rw [rG hs,wY]
    congr 2
    rw [AR];omega
   ·rw [cm (by rw [mV];omega),um hs];rfl
  |a::b::st=>
   have e1:((((a::b::st).length:Nat):Int)==(1:Int))=false:=by simp;omega
   rw [e1];rfl
 |cons n ns ih=>
  intro st hS hs
  have hSn:=hS n (oh ..)
  have ih:=fun st=>ih st (fun m hm=>hS m (oO _ hm))
  simp only [ji]at hs
  have hll:=Gg st
  unfold od
  rw [Dq]
  simp only [bI,ee,Ik hSn]
  unfold mQ
  unfold CT
  -- the parts
  cases hk:Ro n.Tag with
  |none=>
   have e:zI n.Tag= -1:=by unfold zI;rw [hk]
   simp [e]
  |some k=>
   have e:zI n.Tag=(k:Int):=by unfold zI;rw [hk]
   have hk3:k=0\/k=1\/k=2:=by
    unfold Ro at hk
    repeat' split at hk
    all_goals simp at hk
    all_goals omega
   rw [e]
   rcases hk3 with rfl|rfl|rfl
   ·-- none
    simp only []
    have c1:(decide (((0:Nat):Int)<0)||decide ((st.length:Int)<((0:Nat):Int)))=false:=by simp
    simp only [c1,Bu,jb,bI]
    cases hc:uG n with
    |false=>simp
    |true=>
     simp only [qY,kM,jh,wY]
     rw [kE st.length st.length (by rw [dW (by omega) (by omega)];omega) rfl (f7 _) (by rw [ee];exact f7 _)]
     have hd:(List.take st.length (nP st)).drop st.length=[]:=rE (by simp;omega)
     rw [hd,bI,show wT [(-1:Int),-1] []=[-1,-1]from rfl,Zo]
     cases A:(n.L== -1&&n.R== -1)with
     |false=>simp
     |true=>
      simp only [jb,qc]
      rw [dF (by simp only [ji,sG,uf];omega)]
      simp only [bI]
      rw [kE (i:=0) 0 st.length rfl (by rw [ee,dW (by omega) (by omega)];omega) (jR _) (by rw [ee];exact f7 _)]
      rw [rF (by rw [ee];exact f7 _),sF]
      simp only [bI]
      rw [dF (by simp only [ji,sG,ee];omega)]
      simp only [bI]
      have J:=ih (.lf (putA n (-1) (-1))::st) (by simp [cG,Bt.size];omega)
      simp only [cG,Bt.size,Do,OJ,nP]at J
      rw [show(((cG st+1:Nat):Int)-1)=(cG st:Int)from by omega]at J
      exact J
   ·-- one
    cases st with
    |nil=>simp
    |cons a st=>
     simp only []
     have c1:(decide (((1:Nat):Int)<0)||decide (((a::st).length:Int)<((1:Nat):Int)))=false:=by simp;omega
     simp only [c1,Bu,jb,bI]
     cases hc:uG n with
     |false=>simp
     |true=>
      simp only [qY,kM,jh,wY]
      simp only [ji]at hll ⊢
      simp only [cG]at hs hll
      have hap:=a.size_pos
      have hdp:=a.depth_size
      rw [kE st.length (st.length+1) (by rw [dW (by omega) (by omega)];omega) (by omega) (by omega) (by rw [ee];exact f7 _)]
      have hd:(List.take (st.length+1) (nP (a::st))).drop st.length=[((cG st+a.size:Nat):Int)-1]:=by
       rw [rF (by rw [ee];exact f7 _)]
       simp only [nP]
       rw [MS (by rw [ee];exact f7 _),rE (by rw [ee];exact f7 _),qo]
      rw [hd,bI,show wT [(-1:Int),-1] [((cG st+a.size:Nat):Int)-1]=[((cG st+a.size:Nat):Int)-1,-1]from rfl,Zo]
      cases A:(n.L==((cG st+a.size:Nat):Int)-1&&n.R== -1)with
      |false=>simp
      |true=>
       simp only [jb,qc]
       rw [jU (cG st+a.size-1) (by omega)]
       have hf:=AH a st []
       rw [Cn]at hf
       simp only [Do]
       rw [hf]
       simp only [bI]
       rw [dF (by simp only [ji,sG,pg,uf,vi];omega)]
       simp only [bI]
       rw [kE (i:=0) 0 st.length rfl (by rw [ee,dW (by simp<;>omega) (by simp<;>omega)];simp) (jR _) (by rw [ee];simp)]
       have M:(List.take st.length (nP (a::st))).drop 0=nP st:=by
        simp only [nP,sF]
        rw [za (by rw [ee];exact f7 _),rF (by rw [ee];exact f7 _)]
       rw [M]
       simp only [bI]
       rw [dF (by simp only [ji,sG,ee];omega)]
       simp only [bI]
       have J:=ih (.un (putA n (-1) (-1)) a::st) (by simp [cG,Bt.size];omega)
       simp only [cG,Bt.size,Do,OJ,nP]at J
       rw [show(((cG st+(a.size+1):Nat):Int)-1)=((cG st+a.size:Nat):Int)from by omega]at J
       have hm:min ((cG (a::st):Nat):Int) (cG st:Int)=(cG st:Int):=by simp only [cG];omega
       have D:max (1:Int) (IntKind.i64.wrap ((a.depth:Int)+1))=((a.depth+1:Nat):Int):=by rw [dW (by omega) (by omega)];omega
       rw [hm,D]
       simp only [gF]at J ⊢
       exact J
   ·-- two
    cases st with
    |nil=>simp
    |cons b st=>
     cases st with
     |nil=>simp
     |cons a st=>
      simp only []
      have c1:(decide (((2:Nat):Int)<0)||decide (((b::a::st).length:Int)<((2:Nat):Int)))=false:=by simp;omega
      simp only [c1,Bu,jb,bI]
      cases hc:uG n with
      |false=>simp
      |true=>
       simp only [qY,kM,jh,wY]
       simp only [ji]at hll ⊢
       simp only [cG]at hs hll
       have hap:=a.size_pos
       have hbp:=b.size_pos
       have hda:=a.depth_size
       have hdb:=b.depth_size
       rw [kE st.length (st.length+1+1) (by rw [dW (by omega) (by omega)];omega) (by omega) (by omega) (by rw [ee];exact f7 _)]
       have hd:(List.take (st.length+1+1) (nP (b::a::st))).drop st.length=[((cG st+a.size:Nat):Int)-1,((cG st+a.size+b.size:Nat):Int)-1]:=by
        rw [rF (by rw [ee];exact f7 _)]
        simp only [nP,cG,gF]
        rw [MS (by rw [ee];exact f7 _),rE (by rw [ee];exact f7 _),qo]
        rfl
       rw [hd,bI,show wT [(-1:Int),-1] [((cG st+a.size:Nat):Int)-1,((cG st+a.size+b.size:Nat):Int)-1]=[((cG st+a.size:Nat):Int)-1,((cG st+a.size+b.size:Nat):Int)-1]from rfl,Zo]
       cases A:(n.L==((cG st+a.size:Nat):Int)-1&&n.R==((cG st+a.size+b.size:Nat):Int)-1)with
       |false=>simp
       |true=>
        simp only [jb,qc]
        simp only [Do,cG]
        rw [jU (cG st+a.size-1) (by omega)]
        rw [AH a st (OJ b (cG st+a.size))]
        simp only [bI]
        rw [jU (cG st+a.size+b.size-1) (by omega)]
        have hf:=AH b (a::st) []
        rw [Cn]at hf
        simp only [Do,cG]at hf
        rw [hf]
        simp only [bI]
        rw [dF (by simp only [ji,sG,pg,uf,vi];omega)]
        simp only [bI]
        rw [kE (i:=0) 0 st.length rfl (by rw [ee,dW (by simp;omega) (by simp;omega)];simp;omega) (jR _) (by rw [ee];simp;omega)]
        have M:(List.take st.length (nP (b::a::st))).drop 0=nP st:=by
         simp only [nP,sF,gF]
         rw [za (by rw [ee];exact f7 _),rF (by rw [ee];exact f7 _)]
        rw [M]
        simp only [bI]
        rw [dF (by simp only [ji,sG,ee];omega)]
        simp only [bI]
        have J:=ih (.bi (putA n (-1) (-1)) a b::st) (by simp [cG,Bt.size];omega)
        simp only [cG,Bt.size,Do,OJ,nP]at J
        rw [show(((cG st+(a.size+b.size+1):Nat):Int)-1)=((cG st+a.size+b.size:Nat):Int)from by omega,show cG st+(a.size+b.size+1)=cG st+a.size+b.size+1 from by omega]at J
        have hm:min (min (((cG st+a.size+b.size:Nat)):Int) (cG st:Int)) ((cG st+a.size:Nat):Int)=(cG st:Int):=by omega
        have D:max (max (1:Int) (IntKind.i64.wrap ((a.depth:Int)+1))) (IntKind.i64.wrap ((b.depth:Int)+1))=((max a.depth b.depth+1:Nat):Int):=by rw [dW (by omega) (by omega),dW (by omega) (by omega)];omega
        rw [hm,D]
        simp only [gF]at J ⊢
        exact J
def lQ(ns:List dj):Bool:=(A8 ns).isSome
def Sw(ns:List dj):lQ ns=(match mQ ns []with
  |some st=>S2 st
  |none=>false):=by
 unfold lQ A8
 cases hp:mQ ns []with
 |none=>rfl
 |some st=>
  match st with
  |[]=>rfl
  |[t]=>by_cases H:t.size<=300<;>by_cases J:t.depth<=20<;>simp [S2,H,J]
  |t::t2::st=>rfl
def HS(t:db)(hS: ∀n∈t.Nodes,yW n)(h:t.Nodes.length<=100000):tG t=some (if lQ t.Nodes then 0 else 180):=by
 unfold tG Es
 have:=Mc t.Nodes [] hS (by simpa [cG] using h)
 simp only [cG,Do,nP]at this
 rw [this,Sw]
 cases hp:mQ t.Nodes []with
 |none=>rfl
 |some st=>cases ho:S2 st<;>simp [ho]
end Go.Proofs.YthbdkceckjihgaaGreatDoor


/- dm of this claim: B5. -/
set_option linter.all false
namespace Go.Proofs.YthbdkceckjihgaaGreatDoor
open Go

def WI(t:Bt):t.wf-> ∀(P R N:List dj) (fu:Nat),(∀x∈N,yW x)->N=P++t.flat P.length++R->t.size<=fu->N.length<=100000->jp fu ⟨N⟩ (((P.length+t.size:Nat):Int)-1)=some ((t.size:Int),(t.depth:Int)):=by
 induction t with
 |lf n=>
  intro⟨H,J,h3,h4⟩ P R N fu hS hN hf hl
  have hNl:=congrArg List.length hN
  simp only [pg,Bt.flat_len]at hNl
  simp only [Bt.size]at hf hNl ⊢
  obtain⟨fu,rfl⟩: ∃k,fu=k+1:=⟨fu-1,by omega⟩
  unfold jp
  have D:N[P.length]? =some (putA n (-1) (-1)):=by
   rw [hN,gF,xl (f7 _),FU];rfl
  rw [cm (by simp;omega),jU P.length (by omega),D]
  have hsx:=hS _ (uo D)
  have e1:(putA n (-1) (-1)).Tag=n.Tag:=rfl
  simp only [bI]
  rw [e1,rX]
  have e:zI n.Tag=0:=by unfold zI;rw [H];rfl
  simp only [e,bI,qQ hsx]
  have e2:uG (putA n (-1) (-1))=true:=J
  rw [e2]
  simp [putA,Bt.depth]
 |un n a ih=>
  intro⟨⟨H,J,h3,h4⟩,ha⟩ P R N fu hS hN hf hl
  obtain⟨m,hm⟩: ∃m,m=putA n (((P.length+a.size:Nat):Int)-1) (-1):=⟨_,rfl⟩
  have hNl:=congrArg List.length hN
  simp only [pg,Bt.flat_len]at hNl
  simp only [Bt.size]at hf hNl ⊢
  simp only [Bt.flat,<-hm]at hN
  obtain⟨fu,rfl⟩: ∃k,fu=k+1:=⟨fu-1,by omega⟩
  have hpos:=a.size_pos
  have hi:=ih ha P ([m]++R) N fu hS (by rw [hN];simp only [gF]) (by omega) hl
  unfold jp
  have D:N[P.length+a.size]? =some m:=by
   rw [hN,gF,gF,<-gF P,xl (by simp [a.flat_len])]
   simp [a.flat_len]
  rw [cm (by simp;omega),jU (P.length+a.size) (by omega),D]
  have hsx:=hS _ (uo D)
  simp only [bI]
  have e1:m.Tag=n.Tag:=by rw [hm];rfl
  rw [e1,rX]
  have e:zI n.Tag=1:=by unfold zI;rw [H];rfl
  simp only [e,bI,qQ hsx]
  have e2:uG m=true:=by rw [hm];exact J
  have eL:m.L=((P.length+a.size:Nat):Int)-1:=by rw [hm];rfl
  have eR:m.R= -1:=by rw [hm];rfl
  rw [dW (n:=((P.length+(a.size+1):Nat):Int)-1-1) (by omega) (by omega),show(((P.length+(a.size+1):Nat):Int)-1-1)=(((P.length+a.size:Nat):Int)-1)from by omega]
  rw [hi]
  simp only [bI]
  have hda:=a.depth_size
  rw [dW (n:=(a.size:Int)+1) (by omega) (by omega),dW (n:=(a.depth:Int)+1) (by omega) (by omega)]
  have n1: ¬a.size=0:=by omega
  simp [e2,eL,eR,n1,Bt.depth]
 |bi n a b iha ihb=>
  intro⟨⟨H,J,h3,h4⟩,ha,A⟩ P R N fu hS hN hf hl
  obtain⟨m,hm⟩: ∃m,m=putA n (((P.length+a.size:Nat):Int)-1) (((P.length+a.size+b.size:Nat):Int)-1):=⟨_,rfl⟩
  have hNl:=congrArg List.length hN
  simp only [pg,Bt.flat_len]at hNl
  simp only [Bt.size]at hf hNl ⊢
  simp only [Bt.flat,<-hm]at hN
  obtain⟨fu,rfl⟩: ∃k,fu=k+1:=⟨fu-1,by omega⟩
  have hap:=a.size_pos
  have hbp:=b.size_pos
  have hi1:=iha ha P (b.flat (P.length+a.size)++[m]++R) N fu hS (by rw [hN];simp only [gF]) (by omega) hl
  have hi2:=ihb A (P++a.flat P.length) ([m]++R) N fu hS (by rw [hN];simp only [gF,pg,a.flat_len]) (by omega) hl
  rw [pg,a.flat_len]at hi2
  unfold jp
  have D:N[P.length+a.size+b.size]? =some m:=by
   rw [hN,gF,gF,<-gF P,xl (by simp [a.flat_len,b.flat_len];omega)]
   have:P.length+a.size+b.size-(P++(a.flat P.length++b.flat (P.length+a.size))).length=0:=by simp [a.flat_len,b.flat_len];omega
   rw [this];rfl
  rw [cm (by simp;omega),jU (P.length+a.size+b.size) (by omega),D]
  have hsx:=hS _ (uo D)
  simp only [bI]
  have e1:m.Tag=n.Tag:=by rw [hm];rfl
  rw [e1,rX]
  have e:zI n.Tag=2:=by unfold zI;rw [H];rfl
  simp only [e,bI,qQ hsx]
  have e2:uG m=true:=by rw [hm];exact J
  have eL:m.L=((P.length+a.size:Nat):Int)-1:=by rw [hm];rfl
  have eR:m.R=((P.length+a.size+b.size:Nat):Int)-1:=by rw [hm];rfl
  rw [dW (n:=((P.length+(a.size+b.size+1):Nat):Int)-1-1) (by omega) (by omega),show(((P.length+(a.size+b.size+1):Nat):Int)-1-1)=(((P.length+a.size+b.size:Nat):Int)-1)from by omega]
  rw [hi2]
  simp only [bI]
  rw [dW (n:=((P.length+a.size+b.size:Nat):Int)-1-(b.size:Int)) (by omega) (by omega),show((P.length+a.size+b.size:Nat):Int)-1-(b.size:Int)=((P.length+a.size:Nat):Int)-1 from by omega]
  rw [hi1]
  simp only [bI]
  have hda:=a.depth_size
  have hdb:=b.depth_size
  rw [dW (n:=(b.size:Int)+(a.size:Int)) (by omega) (by omega),dW (n:=(b.size:Int)+(a.size:Int)+1) (by omega) (by omega),dW (n:=max (b.depth:Int) (a.depth:Int)+1) (by omega) (by omega)]
  have n1: ¬a.size=0:=by omega
  have n2: ¬b.size=0:=by omega
  have e5:(P.length:Int)+(a.size:Int)+(b.size:Int)-1-(b.size:Int)=(P.length:Int)+(a.size:Int)-1:=by omega
  simp [e2,eL,eR,n1,n2,e5,Bt.depth]
  omega
def WJ(N:List dj)(hS: ∀x∈N,yW x)(hN:N.length<=100000): ∀(fu q:Nat),q<=N.length->q<fu-> ∃k ah:Nat,jp fu ⟨N⟩ ((q:Int)-1)=some ((k:Int),(ah:Int))/\(k=0\/ ∃(t:Bt) (P R:List dj),t.wf/\(t.size=k/\t.depth=ah)/\N=P++t.flat P.length++R/\P.length+k=q):=by
 intro fu
 induction fu with
 |zero=>intro q _ h;omega
 |succ fu ih=>
  intro q hq hf
  unfold jp
  by_cases h0:q=0
  ·subst h0
   exact⟨0,0,by rw [cx (by simp)];rfl,.inl rfl⟩
  rw [cm (by simp;omega),jU (q-1) (by omega)]
  have hlt:q-1<N.length:=by omega
  rw [lr hlt]
  obtain⟨n,hn⟩: ∃n,n=N[q-1]:=⟨_,rfl⟩
  rw [<-hn]
  have hsn:yW n:=by rw [hn];exact hS _ (Iv ..)
  have hd:N=N.take (q-1)++([n]++N.drop q):=by
   have H:=uN (q-1) N
   rw [sH hlt,<-hn,show q-1+1=q from by omega]at H
   exact H.symm
  simp only [bI,rX,qQ hsn]
  cases hk:Ro n.Tag with
  |none=>
   have e:zI n.Tag= -1:=by unfold zI;rw [hk]
   exact⟨0,0,by simp [e],.inl rfl⟩
  |some k=>
   have e:zI n.Tag=(k:Int):=by unfold zI;rw [hk]
   have hk3:k=0\/k=1\/k=2:=by
    unfold Ro at hk
    repeat' split at hk
    all_goals simp at hk
    all_goals omega
   cases hc:uG n with
   |false=>exact⟨0,0,by simp [e,hc],.inl rfl⟩
   |true=>
    rcases hk3 with rfl|rfl|rfl
    ·rw [e]
     by_cases hL:n.L= -1/\n.R= -1
     ·refine⟨1,1,by simp [hL],.inr ⟨.lf (putA n (-1) (-1)),N.take (q-1),N.drop q,⟨hk,hc,rfl,rfl⟩,⟨rfl,rfl⟩,?_,by simp;omega⟩⟩
      simp only [Bt.flat]
      rw [Ar hL.1 hL.2,gF]
      exact hd
     ·refine⟨0,0,?_,.inl rfl⟩
      have:(n.L != -1||n.R != -1)=true:=by
       rw [zg,tN,tN]
       by_cases hl:n.L= -1
       ·exact .inr fun h=>hL ⟨hl,h⟩
       ·exact .inl hl
      simp [this]
    ·rw [e,dW (by omega) (by omega)]
     have e9:(((q-1:Nat):Int)-1)=(q:Int)-1-1:=by omega
     obtain⟨r2,d2,J,h2'⟩:=ih (q-1) (by omega) (by omega)
     rw [e9]at J
     rw [J]
     rcases h2' with rfl|⟨t,P,R,hw,⟨hs,hds⟩,hN2,hl⟩
     ·exact⟨0,0,by simp,.inl rfl⟩
     ·have hp:=t.size_pos
      by_cases hL:n.L=(q:Int)-1-1/\n.R= -1
      ·refine⟨r2+1,d2+1,?_,.inr ⟨.un (putA n (-1) (-1)) t,P,N.drop q,⟨⟨hk,hc,rfl,rfl⟩,hw⟩,⟨by simp only [Bt.size];omega,by simp only [Bt.depth];omega⟩,?_,by omega⟩⟩
       ·simp only [bI]
        have hdt:=t.depth_size
        rw [dW (n:=(r2:Int)+1) (by omega) (by omega),dW (n:=(d2:Int)+1) (by omega) (by omega)]
        have: ¬(r2=0):=by omega
        simp [hL,this]
       ·simp only [Bt.flat]
        rw [Ar (by rw [hL.1];omega) hL.2]
        have M:N.take (q-1)=P++t.flat P.length:=by
         rw [hN2,za (by simp [t.flat_len];omega),rF (by simp [t.flat_len];omega)]
        rw [M]at hd
        simpa only [gF] using hd
      ·refine⟨0,0,?_,.inl rfl⟩
       have:(n.L !=(q:Int)-1-1||n.R != -1)=true:=by
        rw [zg,tN,tN]
        by_cases hl:n.L=(q:Int)-1-1
        ·exact .inr fun h=>hL ⟨hl,h⟩
        ·exact .inl hl
       simp [this]
    ·rw [e,dW (n:=(q:Int)-1-1) (by omega) (by omega)]
     have e9:(((q-1:Nat):Int)-1)=(q:Int)-1-1:=by omega
     obtain⟨r2,d2,J,h2'⟩:=ih (q-1) (by omega) (by omega)
     rw [e9]at J
     rw [J]
     rcases h2' with rfl|⟨t,P,R,hw,⟨hs,hds⟩,hN2,hl⟩
     ·exact⟨0,0,by simp,.inl rfl⟩
     ·have hp:=t.size_pos
      simp only [bI]
      rw [dW (n:=(q:Int)-1-1-(r2:Int)) (by omega) (by omega)]
      have e8:(((q-1-r2:Nat):Int)-1)=(q:Int)-1-1-(r2:Int):=by omega
      have n2: ¬(r2=0):=by omega
      obtain⟨r3,d3,h3,h3'⟩:=ih (q-1-r2) (by omega) (by omega)
      rw [e8]at h3
      rw [h3]
      rcases h3' with rfl|⟨t3,P3,R3,hw3,⟨hs3,hds3⟩,hN3,hl3⟩
      ·exact⟨0,0,by simp,.inl rfl⟩
      ·have hp3:=t3.size_pos
       have n3: ¬(r3=0):=by omega
       by_cases hL:n.R=(q:Int)-1-1/\n.L=(q:Int)-1-1-(r2:Int)
       ·refine⟨r3+r2+1,max d3 d2+1,?_,.inr ⟨.bi (putA n (-1) (-1)) t3 t,P3,N.drop q,⟨⟨hk,hc,rfl,rfl⟩,hw3,hw⟩,⟨by simp only [Bt.size];omega,by simp only [Bt.depth];omega⟩,?_,by omega⟩⟩
        ·simp only [bI]
         have hdt:=t.depth_size
         have hdt3:=t3.depth_size
         rw [dW (n:=(r2:Int)+(r3:Int)) (by omega) (by omega),dW (n:=(r2:Int)+(r3:Int)+1) (by omega) (by omega),dW (n:=max (d2:Int) (d3:Int)+1) (by omega) (by omega)]
         simp [hL,n2,n3]
         omega
        ·simp only [Bt.flat]
         rw [Ar (by rw [hL.2];omega) (by rw [hL.1];omega)]
         have M:N.take (q-1)=P++t.flat P.length:=by
          rw [hN2,za (by simp [t.flat_len];omega),rF (by simp [t.flat_len];omega)]
         have hP:P=N.take P.length:=by
          conv=>rhs;rw [hN2,gF,za (f7 _),rF (f7 _)]
         have hP3:P=P3++t3.flat P3.length:=by
          rw [hP]
          have:P.length=P3.length+t3.size:=by omega
          conv=>lhs;rw [this,hN3]
          rw [za (by simp [t3.flat_len]),rF (by simp [t3.flat_len])]
         have hPl:P.length=P3.length+t3.size:=by omega
         rw [M,hPl]at hd
         rw [hP3]at hd
         simpa only [gF] using hd
       ·clear ih hN2 hN3
        refine⟨0,0,?_,.inl rfl⟩
        have:(n.R !=(q:Int)-1-1||n.L !=(q:Int)-1-1-(r2:Int))=true:=by
         rw [zg,tN,tN]
         by_cases hl:n.R=(q:Int)-1-1
         ·exact .inr fun h=>hL ⟨hl,h⟩
         ·exact .inl hl
        have h' :=this
        rw [zg,tN,tN]at h'
        simp [n2,n3]
        intro H J
        exact absurd J (by rcases h' with h' |h';exact absurd H h';exact h')
def wc(t:db)(hS: ∀n∈t.Nodes,yW n):ml t=some (lQ t.Nodes):=by
 unfold ml lQ
 by_cases h:1<=t.Nodes.length/\t.Nodes.length<=300
 ·rw [cm (by simp;omega),dW (by omega) (by omega)]
  unfold BQ
  obtain⟨k,ah,H,J⟩:=WJ t.Nodes hS (by omega) fc t.Nodes.length (f7 _) (Iy (Nat.lt_succ_self _) (Az (by omega)))
  have h1' :jp fc t ((t.Nodes.length:Int)-1)=some ((k:Int),(ah:Int)):=H
  rw [h1']
  simp only [bI]
  congr 1
  rw [xk]
  constructor
  ·intro hk
   rw [jM,mV]at hk
   have hk' :k=t.Nodes.length:=by have:=eq_of_beq hk.1;omega
   rcases J with rfl|⟨a,P,R,hw,⟨hs,hd⟩,hN,hl⟩
   ·omega
   ·have hP:P=[]:=y9 (by omega)
    subst hP
    have hR:R=[]:=by
     have:=congrArg List.length hN
     simp [a.flat_len]at this
     exact y9 (by omega)
    subst hR
    have hN' :t.Nodes=a.flat 0:=by simpa using hN
    rw [hN',Ni hw (by omega) (by omega)];rfl
  ·intro hi
   cases M:A8 t.Nodes with
   |none=>rw [M]at hi;cases hi
   |some a=>
    obtain⟨hw,hN,hs,hd⟩:=xT M
    have hlen:t.Nodes.length=a.size:=by rw [hN,a.flat_len]
    have h3:=WI a hw [] [] t.Nodes fc hS (by simpa using hN) (Az (by omega)) (by omega)
    simp only [sG,sE]at h3
    rw [<-hlen]at h3
    have h4:some ((k:Int),(ah:Int))=some ((t.Nodes.length:Int),(a.depth:Int)):=H.symm.trans h3
    simp only [A6,Prod.mk.injEq]at h4
    rw [jM,mV,wk]
    omega
 ·rw [cx (by simp;omega)]
  congr 1
  symm
  rw [Ix]
  intro hi
  cases M:A8 t.Nodes with
  |none=>rw [M]at hi;cases hi
  |some a=>
   obtain⟨hw,hN,hs,hd⟩:=xT M
   have hlen:t.Nodes.length=a.size:=by rw [hN,a.flat_len]
   have:=a.size_pos
   omega
end Go.Proofs.YthbdkceckjihgaaGreatDoor


/- dm of this claim: B6. -/
set_option linter.all false
namespace Go.Proofs.YthbdkceckjihgaaGreatDoor
open Go

def Ad(t:db):Prop:=t.Nodes.length<=1000/\ ∀n∈t.Nodes,yW n
def Aj{t:db}(h:Ad t):vt [t]=some (lQ t.Nodes):=by
 have H:wV t=some (!lQ t.Nodes):=by
  unfold wV
  rw [HS t h.2 (by have:=h.1;omega),bI]
  cases lQ t.Nodes<;>rfl
 unfold vt gS iH
 simp only [fg,H,bI]
 cases lQ t.Nodes<;>rfl
def o4(t:db):Bool:=decide (t.Nodes.length=0)||lQ t.Nodes
def Xc(t:db):(((t.Nodes.length:Nat):Int)==(0:Int))=decide (t.Nodes.length=0):=by
 rw [xk];simp
def Be{t:db}(h:Ad t):vM t=some (o4 t):=by
 unfold vM o4
 rw [Xc,wc t h.2]
 cases decide (t.Nodes.length=0)<;>rfl
structure Fp(s:aK):Prop where
 items: ∀x∈s.Items,Ad x.Tree
 joins: ∀x∈s.Joins,Ad x.On
 where_:Ad s.Where
 having:Ad s.Having
def wE(x:fK):Bool:=lQ x.Tree.Nodes&&nU x.As
def Bj(x:mZ):Bool:=lQ x.On.Nodes&&nN x.Source
def UE(x:jY):Bool:=js x.Name&&nU x.Table
def Nx(s:aK):Bool:=(s.Star==decide (s.Items.length=0))&&(decide (s.Items.length<=6)&&(decide (s.Joins.length<=2)&&decide (s.Group.length<=3)))
def zA(s:aK):Bool:=Nx s&&(nN s.From&&(s.Items.all wE&&(s.Joins.all Bj&&(s.Group.all UE&&(o4 s.Where&&o4 s.Having)))))
def X6{s:aK}(h:Fp s)(ok:Bool):pQ s 2 0 ok=some (ok&&(o4 s.Where&&o4 s.Having)):=by
 have i0:fz [s.Where,s.Having] ((0:Nat):Int)=some s.Where:=rfl
 have i1:fz [s.Where,s.Having] ((0+1:Nat):Int)=some s.Having:=rfl
 simp only [pQ,i0,i1,bI,Aj h.where_,Aj h.having,Xc]
 unfold o4
 cases ok<;>cases decide (s.Where.Nodes.length=0)<;>cases lQ s.Where.Nodes<;>cases decide (s.Having.Nodes.length=0)<;>rfl
def SJ{s:aK}(h:Fp s): ∀(l:List jY) (ok:Bool),nB s l ok=some (ok&&(l.all UE&&(o4 s.Where&&o4 s.Having)))
 |[],ok=>by unfold nB;rw [X6 h];rfl
 |x::l,ok=>by
  unfold nB
  rw [lC,vk,tI]
  have e:UE x=(js x.Name&&nU x.Table):=rfl
  rw [e]
  cases ok<;>cases js x.Name<;>cases nU x.Table<;>simp [SJ h l]
def SK{s:aK}(h:Fp s): ∀(l:List mZ) (ok:Bool),(∀x∈l,Ad x.On)->nC s l ok=some (ok&&(l.all Bj&&(s.Group.all UE&&(o4 s.Where&&o4 s.Having))))
 |[],ok,_=>by unfold nC;rw [SJ h];rfl
 |x::l,ok,hl=>by
  unfold nC
  have ih:=fun ok=>SK h l ok (fun y hy=>hl y (oO _ hy))
  rw [Aj (hl x (oh ..)),Bn,tI]
  have e:Bj x=(lQ x.On.Nodes&&nN x.Source):=rfl
  rw [e]
  cases ok<;>cases lQ x.On.Nodes<;>cases nN x.Source<;>simp [ih]
def SL{s:aK}(h:Fp s): ∀(l:List fK) (ok:Bool),(∀x∈l,Ad x.Tree)->nD s l ok=some (ok&&(l.all wE&&(s.Joins.all Bj&&(s.Group.all UE&&(o4 s.Where&&o4 s.Having)))))
 |[],ok,_=>by unfold nD;rw [SK h _ _ h.joins];rfl
 |x::l,ok,hl=>by
  unfold nD
  have ih:=fun ok=>SL h l ok (fun y hy=>hl y (oO _ hy))
  rw [Aj (hl x (oh ..)),vk,tI]
  have e:wE x=(lQ x.Tree.Nodes&&nU x.As):=rfl
  rw [e]
  cases ok<;>cases lQ x.Tree.Nodes<;>cases nU x.As<;>simp [ih]
def IS(s:aK):((((s.Star !=((s.Items.length:Int)==(0:Int)))||(decide ((6:Int)<(s.Items.length:Int))))||(decide ((2:Int)<(s.Joins.length:Int))))||(decide ((3:Int)<(s.Group.length:Int))))= !Nx s:=by
 have e0:((s.Items.length:Int)==(0:Int))=decide (s.Items.length=0):=by rw [xk];simp
 have e1:decide ((6:Int)<(s.Items.length:Int))= !decide (s.Items.length<=6):=by rw [xk];simp;omega
 have e2:decide ((2:Int)<(s.Joins.length:Int))= !decide (s.Joins.length<=2):=by rw [xk];simp;omega
 have e3:decide ((3:Int)<(s.Group.length:Int))= !decide (s.Group.length<=3):=by rw [xk];simp;omega
 rw [e0,e1,e2,e3]
 unfold Nx
 cases s.Star<;>cases decide (s.Items.length=0)<;>cases decide (s.Items.length<=6)<;>cases decide (s.Joins.length<=2)<;>cases decide (s.Group.length<=3)<;>rfl
def HE{s:aK}(h:Fp s):wW s=some (zA s):=by
 unfold wW zA
 rw [IS]
 cases Nx s with
 |false=>rfl
 |true=>
  simp only [qY,kM,jh]
  rw [Bn,bI,SL h _ _ h.items,wY]
def Pn{s:aK}(h:Fp s): ∀(l:List jY),lH s l=some (l.all UE&&(nN s.From&&(o4 s.Where&&o4 s.Having)))
 |[]=>by
  unfold lH
  rw [yN,Be h.where_,Be h.having]
  cases nN s.From<;>cases o4 s.Where<;>rfl
 |x::l=>by
  unfold lH
  rw [qR,pt,tI,Pn h l]
  have e:UE x=(js x.Name&&nU x.Table):=rfl
  rw [e]
  cases js x.Name<;>cases nU x.Table<;>rfl
def Po{s:aK}(h:Fp s): ∀(l:List mZ),(∀x∈l,Ad x.On)->lI s l=some (l.all Bj&&(s.Group.all UE&&(nN s.From&&(o4 s.Where&&o4 s.Having))))
 |[],_=>by unfold lI;rw [Pn h];rfl
 |x::l,hl=>by
  unfold lI
  rw [wc _ (hl x (oh ..)).2,yN,tI,Po h l (fun y hy=>hl y (oO _ hy))]
  have e:Bj x=(lQ x.On.Nodes&&nN x.Source):=rfl
  rw [e]
  cases lQ x.On.Nodes<;>cases nN x.Source<;>rfl
def Pp{s:aK}(h:Fp s): ∀(l:List fK),(∀x∈l,Ad x.Tree)->lJ s l=some (l.all wE&&(s.Joins.all Bj&&(s.Group.all UE&&(nN s.From&&(o4 s.Where&&o4 s.Having)))))
 |[],_=>by unfold lJ;rw [Po h _ h.joins];rfl
 |x::l,hl=>by
  unfold lJ
  rw [wc _ (hl x (oh ..)).2,pt,tI,Pp h l (fun y hy=>hl y (oO _ hy))]
  have e:wE x=(lQ x.Tree.Nodes&&nU x.As):=rfl
  rw [e]
  cases lQ x.Tree.Nodes<;>cases nU x.As<;>rfl
def D0{s:aK}(h:Fp s):tp s=some (zA s):=by
 unfold tp zA
 rw [IS]
 cases Nx s with
 |false=>rfl
 |true=>
  simp only [qY,kM,jh]
  rw [Pp h _ h.items,wY]
  cases s.Items.all wE<;>cases s.Joins.all Bj<;>cases s.Group.all UE<;>cases nN s.From<;>rfl
def BS(n:Int):Bool:=decide (0<=n)&&decide (n<=2147483647)
def RD(k:sC):Bool:=if k.Name==[]then BS k.Number else js k.Name&&(k.Number==0)
def S8(n:Int):Bool:=n== -1||BS n
def Rj(q:ce):Bool:=decide (1<=q.Selects.length)&&(decide (q.Selects.length<=3)&&(decide (q.Keys.length<=3)&&S8 q.Limit))
def Rk(q:ce):Bool:=Rj q&&(q.Selects.all zA&&q.Keys.all RD)
def Ut(q:ce):Prop:= ∀s∈q.Selects,Fp s
def L5{f:aK->Option Bool}{p:aK->Bool}: ∀(l:List aK) (i:Nat),(∀x∈l,f x=some (p x))-> ∃j:Int,dK f l i=some j/\decide (0<=j)=l.any p
 |[],i,_=>⟨-1,rfl,rfl⟩
 |x::l,i,hf=>by
  unfold dK
  rw [hf x (oh ..),bI,xm]
  cases D:p x with
  |true=>exact⟨i,rfl,by simp⟩
  |false=>
   obtain⟨j,H,J⟩:=L5 l (i+1) (fun y hy=>hf y (oO _ hy))
   exact⟨j,H,by rw [J];rfl⟩
def Ry:js []=false:=rfl
def J3{q:ce}(h:Ut q): ∀(l:List sC) (ok:Bool),qd q l ok=some (if ok&&(q.Selects.all zA&&l.all RD)then 0 else 180)
 |[],ok=>by
  unfold qd
  have hc: ∀x∈q.Selects,ug x=some (!zA x):=fun x D=>by unfold ug;rw [HE (h x D)];rfl
  obtain⟨j,H,J⟩:=L5 q.Selects 0 hc
  have h3:eF q.Selects ug=some (q.Selects.any fun x=> !zA x):=by
   unfold eF gG
   rw [H,bI,J]
  have h4:(q.Selects.any fun x=> !zA x)= !q.Selects.all zA:=by rw [List.not_all_eq_any_not]
  rw [h3,h4]
  cases ok<;>cases q.Selects.all zA<;>rfl
 |k::l,ok=>by
  unfold qd
  rw [lC,tI]
  have e1:wb k.Number=some (BS k.Number):=rfl
  rw [e1]
  have e2:RD k=if k.Name==[]then BS k.Number else js k.Name&&(k.Number==0):=rfl
  rw [e2]
  cases hk:(k.Name==([]:cX))with
  |true=>
   have hk' :k.Name=[]:=by simpa using hk
   rw [hk',Ry]
   cases ok<;>cases BS k.Number<;>simp [J3 h l]
  |false=>cases ok<;>cases js k.Name<;>cases (k.Number==(0:Int))<;>simp [J3 h l]
def KD{q:ce}(h:Ut q):AJ q=some (if Rk q then 0 else 180):=by
 unfold AJ Rk
 rw [show wb q.Limit=some (BS q.Limit)from rfl]
 have e1:decide ((0:Int)<(q.Selects.length:Int))=decide (1<=q.Selects.length):=by rw [AR];omega
 have e2:decide ((q.Selects.length:Int)<=(3:Int))=decide (q.Selects.length<=3):=by rw [AR];omega
 have e3:decide ((q.Keys.length:Int)<=(3:Int))=decide (q.Keys.length<=3):=by rw [AR];omega
 rw [e1,e2,e3]
 unfold Rj S8
 cases decide (1<=q.Selects.length)<;>cases decide (q.Selects.length<=3)<;>cases decide (q.Keys.length<=3)<;>cases (q.Limit==(-1:Int))<;>cases BS q.Limit<;>simp [J3 h]
def Lz: ∀(l:List sC),pu l=some (l.all RD)
 |[]=>rfl
 |k::l=>by
  unfold pu
  rw [pt,bI,tI,Lz l]
  have e2:RD k=if k.Name==[]then BS k.Number else js k.Name&&(k.Number==0):=rfl
  have e3:((decide (k.Number<(0:Int)))||(decide ((2147483647:Int)<k.Number)))= !BS k.Number:=by
   unfold BS;rw [xk];simp;try omega
  have e4:((!nU k.Name||decide (k.Number<(0:Int)))||decide ((2147483647:Int)<k.Number))=(!nU k.Name|| !BS k.Number):=by rw [Bool.or_assoc,e3]
  rw [e4,e2]
  unfold nU
  cases hk:(k.Name==([]:cX))with
  |true=>cases BS k.Number<;>simp
  |false=>
   have hz:(k.Number==(0:Int))=true->BS k.Number=true:=fun hh=>by
    have:k.Number=0:=by simpa using hh
    unfold BS;rw [this];rfl
   cases hn:(k.Number==(0:Int))with
   |true=>rw [hz hn];cases js k.Name<;>simp [bne,hn]
   |false=>cases js k.Name<;>simp [bne,hn]
def Lx{q:ce}: ∀(l:List aK),(∀s∈l,Fp s)->nj q l=some (l.all zA&&q.Keys.all RD)
 |[],_=>by unfold nj;rw [Lz];rfl
 |s::l,h=>by
  unfold nj
  rw [D0 (h s (oh ..)),bI,tI,Lx l (fun y hy=>h y (oO _ hy))]
  cases zA s<;>rfl
def GG{q:ce}(h:Ut q):wv q=some (Rk q):=by
 unfold wv Rk
 rw [Lx _ h]
 have e:(((((decide ((q.Selects.length:Int)<(1:Int)))||(decide ((3:Int)<(q.Selects.length:Int))))||(decide ((3:Int)<(q.Keys.length:Int))))||(decide (q.Limit<(-1:Int))))||(decide ((2147483647:Int)<q.Limit)))= !Rj q:=by
  have e1:decide ((q.Selects.length:Int)<(1:Int))= !decide (1<=q.Selects.length):=by rw [<-decide_not,AR];omega
  have e2:decide ((3:Int)<(q.Selects.length:Int))= !decide (q.Selects.length<=3):=by rw [<-decide_not,AR];omega
  have e3:decide ((3:Int)<(q.Keys.length:Int))= !decide (q.Keys.length<=3):=by rw [<-decide_not,AR];omega
  have e4:(decide (q.Limit<(-1:Int))||decide ((2147483647:Int)<q.Limit))= !S8 q.Limit:=by
   unfold S8 BS
   by_cases H:q.Limit= -1
   ·rw [H];rfl
   ·have:(q.Limit==(-1:Int))=false:=by simpa using H
    rw [this,xk]
    simp
    omega
  rw [Bool.or_assoc,e1,e2,e3,e4]
  unfold Rj
  cases decide (1<=q.Selects.length)<;>cases decide (q.Selects.length<=3)<;>cases decide (q.Keys.length<=3)<;>cases S8 q.Limit<;>rfl
 rw [e]
 cases Rj q<;>rfl
def wo(t:db):Ad (vG t):=by
 refine⟨by simp [vG];omega,fun n hn=>?_⟩
 obtain⟨m,_,rfl⟩:=Br.1 hn
 have:(Mr m).Value.S.length<=60:=by simp [Mr];omega
 unfold yW;omega
def TX(s:aK):Fp (Ht s) where
 items:=fun x D=>by
  obtain⟨y,_,rfl⟩:=Br.1 D
  exact wo _
 joins:=fun x D=>by
  obtain⟨y,_,rfl⟩:=Br.1 D
  exact wo _
 where_:=wo _
 having:=wo _
def Tp(q:ce):Ut (aaq q):=fun s hs=>by
 obtain⟨y,_,rfl⟩:=Br.1 hs
 exact TX _
end Go.Proofs.YthbdkceckjihgaaGreatDoor


/- dm of this claim: B7. -/
set_option linter.all false
namespace Go.Proofs.YthbdkceckjihgaaGreatDoor
open Go

def zr(name:cX):List bU->Nat->Option Nat
 |[],_=>none
 |t::l,i=>if t.Name=name then some i else zr name l (i+1)
def Lc{name:cX}: ∀{l:List bU} {i k:Nat},zr name l i=some k->i<=k/\k<i+l.length
 |t::l,i,k,h=>by
  unfold zr at h
  split at h
  ·cases h;simp
  ·have:=Lc h
   simp only [ji];omega
def Jf(name:cX): ∀(l:List bU) (i:Nat),bZ (eB eG name) l i=some (match zr name l i with
  |some k=>(k:Int)
  |none=> -1)
 |[],i=>rfl
 |t::l,i=>by
  unfold bZ zr
  rw [show eB eG name t=some (t.Name==name)from rfl,bI]
  by_cases h:t.Name=name
  ·rw [cx h,cx (by simpa using h)]
  ·rw [cm h,cm (by simpa using h),Jf name l (i+1)]
def Fl(c:aJ)(name:cX):qb c name=some (match zr name c.Tables 0 with
  |some k=>((k:Int),true)
  |none=>(0,false)):=by
 unfold qb gZ dH
 rw [Jf]
 cases zr name c.Tables 0 with
 |none=>rfl
 |some k=>
  simp only [bI,A6,Prod.mk.injEq,mV]
  omega
def SO(c:aJ)(name:cX)(hl:c.Tables.length<=1000): ∀(n i:Nat),c.Tables.length<i+n->i<=c.Tables.length->qw c name n (i:Int)=some (match zr name (c.Tables.drop i) i with
  |some k=>(k:Int)
  |none=> -1):=by
 intro n
 induction n with
 |zero=>intro i h J;omega
 |succ n ih=>
  intro i h J
  unfold qw
  by_cases hi:i<c.Tables.length
  ·have hw:IntKind.i64.wrap ((i:Int)+1)=((i+1:Nat):Int):=by rw [AQ];omega
   rw [cx (by rw [mV];omega),jt,lr hi,bI,sH hi]
   unfold zr
   by_cases hn:c.Tables[i].Name=name
   ·rw [cx (by simpa using hn),cx hn]
   ·rw [cm (by simpa using hn),cm hn,hw,ih (i+1) (by omega) (by omega)]
  ·rw [cm (by rw [mV];omega),rE (by omega)];rfl
def Ia(c:aJ)(name:cX)(hl:c.Tables.length<=1000):sO c name=some (match zr name c.Tables 0 with
  |some k=>(k:Int)
  |none=> -1):=by
 unfold sO
 have:=SO c name hl fc 0 (by unfold fc;omega) (jR _)
 rw [sF]at this
 exact this
def yV(name:cX):List cb->Nat->Option Nat
 |[],_=>none
 |t::l,i=>if t.Name=name then some i else yV name l (i+1)
def Re(t:bU)(name:cX)(hl:t.Columns.length<=1000): ∀(n i:Nat),t.Columns.length<i+n->i<=t.Columns.length->ou t name n (i:Int)=some (match yV name (t.Columns.drop i) i with
  |some k=>(k:Int)
  |none=> -1):=by
 intro n
 induction n with
 |zero=>intro i h J;omega
 |succ n ih=>
  intro i h J
  unfold ou
  by_cases hi:i<t.Columns.length
  ·have hw:IntKind.i64.wrap ((i:Int)+1)=((i+1:Nat):Int):=by rw [AQ];omega
   rw [cx (by rw [mV];omega),jt,lr hi,bI,sH hi]
   unfold yV
   by_cases hn:t.Columns[i].Name=name
   ·rw [cx (by simpa using hn),cx hn]
   ·rw [cm (by simpa using hn),cm hn,hw,ih (i+1) (by omega) (by omega)]
  ·rw [cm (by rw [mV];omega),rE (by omega)];rfl
def Fa(t:bU)(name:cX)(hl:t.Columns.length<=1000):u0 t name=some (match yV name t.Columns 0 with
  |some k=>(k:Int)
  |none=> -1):=by
 unfold u0
 have:=Re t name hl fc 0 (by unfold fc;omega) (jR _)
 rw [sF]at this
 exact this
def ga(s:d7):cX:=if s.As=[]then s.Table else s.As
def HC(s:d7):wU s=some (ga s):=by
 unfold wU ga
 by_cases h:s.As=[]
 ·rw [cx (by simpa using h),cx h]
 ·rw [cm (by simpa using h),cm h]
def uA(s:d7):pV s=some (ga s):=by
 unfold pV ga
 by_cases h:s.As=[]
 ·rw [cm (by simp [h]),cx h]
 ·rw [cx (by simpa using h),cm h]
def sD(nm:cX)(l:List cb):List (cX×cX):=l.map fun x=>(nm,x.Name)
def eV(c:aJ):List d7->List Int->List (cX×cX)
 |s::ss,t::ts=>sD (ga s) (kB c t)++eV c ss ts
 |_,_=>[]
def zW(c:aJ): ∀(ss:List d7) (ts:List Int) (ss2:List d7) (ts2:List Int),ss.length=ts.length->eV c (ss++ss2) (ts++ts2)=eV c ss ts++eV c ss2 ts2
 |[],[],ss2,ts2,_=>rfl
 |s::ss,t::ts,ss2,ts2,h=>by
  simp only [yZ,eV]
  rw [zW c ss ts ss2 ts2 (by simpa using h),gF]
def zU(c:aJ): ∀(ss:List d7) (ts:List Int),ss.length=ts.length->(eV c ss ts).length=(iB c ts).length
 |[],[],_=>rfl
 |s::ss,t::ts,h=>by
  have:=zU c ss ts (by simpa using h)
  simp only [eV,iB,List.flatMap_cons,pg,sD,A2]at this ⊢
  rw [this]
def mR(p:cX×cX->Bool):List (cX×cX)->Nat->List Nat
 |[],_=>[]
 |e::l,i=>if p e then i::mR p l (i+1)else mR p l (i+1)
def wF(p:cX×cX->Bool): ∀(l m:List (cX×cX)) (i:Nat),mR p (l++m) i=mR p l i++mR p m (i+l.length)
 |[],m,i=>by simp [mR]
 |e::l,m,i=>by
  simp only [yZ,mR,wF p l m (i+1),ji]
  rw [show i+1+l.length=i+(l.length+1)from by omega]
  split<;>rfl
def BV(p:cX×cX->Bool): ∀(l:List (cX×cX)) (i k:Nat),k∈mR p l i->i<=k/\k<i+l.length
 |e::l,i,k,h=>by
  unfold mR at h
  simp only [ji]
  split at h
  ·rcases gn.1 h with rfl|h
   ·omega
   ·have:=BV p l (i+1) k h;omega
  ·have:=BV p l (i+1) k h;omega
def zc(E:List (cX×cX))(table name:cX):Int×Int:=
 match mR (fun e=>decide (e.2=name)&&(decide (table=[])||decide (e.1=table))) E 0 with
 |[]=>(0,222)
 |[k]=>((k:Int),0)
 |_=>(0,223)
def MH(l:List cb):Prop:=(l.map fun x=>x.Name).Nodup
def L8(nm table name:cX): ∀(l:List cb) (i j:Nat),MH l->mR (fun e=>decide (e.2=name)&&(decide (table=[])||decide (e.1=table))) (sD nm l) (j+i)=(match yV name l i with
  |some k=>if table=[]\/nm=table then [j+k]else []
  |none=>[])
 |[],i,j,_=>rfl
 |x::l,i,j,h=>by
  simp only [MH,uM,List.nodup_cons]at h
  obtain⟨H,J⟩:=h
  have ih:=L8 nm table name l (i+1) j J
  simp only [sD,uM]at ih ⊢
  unfold mR yV
  by_cases D:x.Name=name
  ·rw [cx D]
   -- no other column bears the name
   have hno:yV name l (i+1)=none:=by
    have: ∀(l:List cb) (i:Nat),name∉l.map (fun x=>x.Name)->yV name l i=none:=by
     intro l
     induction l with
     |nil=>intro i _;rfl
     |cons y l ih=>
      intro i hn
      simp only [uM,gn,not_or]at hn
      unfold yV
      rw [cm (fun e=>hn.1 e.symm),ih (i+1) hn.2]
    exact this l (i+1) (D▸H)
   rw [hno]at ih
   rw [show j+i+1=j+(i+1)from by omega,ih]
   simp only [D,decide_true,wY]
   by_cases M:table=[]\/nm=table
   ·have:(decide (table=[])||decide (nm=table))=true:=by rw [zg,mV,mV];exact M
    rw [this];simp [M]
   ·have:(decide (table=[])||decide (nm=table))=false:=by rw [JA,qh,qh];exact not_or.1 M
    rw [this];simp [M]
  ·rw [cm D,show j+i+1=j+(i+1)from by omega,ih]
   simp only [D,decide_false,Bool.false_and,kM,jh]
structure Ux(c:aJ):Prop where
 few:Uv c
 len:c.Tables.length<=1000
 once: ∀t∈c.Tables,MH t.Columns
def Ux.cols{c:aJ}(h:Ux c)(t:Int):MH (kB c t):=by
 unfold kB
 cases D:c.Tables[t.toNat]? with
 |none=>exact List.nodup_nil
 |some x=>exact h.once x (uo D)
def OD(found many:Int):Int×Int:=if many=0 then(0,222)else if many=1 then(found,0)else(0,223)
def Bc{c:aJ}(hc:Ux c)(b:aB)(A:b.c=c)(table name:cX): ∀(ss:List d7) (ts:List Int) (pre:List Int) (found many:Int) (first:Nat),b.out.Tables=pre++ts->ss.length=ts.length->(∀t∈ts,HD c t=false)->first+ts.length*1000<=1000000->0<=many->many+ts.length<=1000000->
  fb b table name ss pre.length found many (first:Int)=some (let h1:=mR (fun e=>decide (e.2=name)&&(decide (table=[])||decide (e.1=table))) (eV c ss ts) first
   OD (match h1.getLast? with
    |some k=>(k:Int)
    |none=>found) (many+(h1.length:Int)))
 |[],[],pre,found,many,first,_,_,_,_,_,_=>by
  unfold fb
  simp only [eV,mR,List.getLast?_nil,sG]
  unfold OD
  have e:many+((0:Nat):Int)=many:=by omega
  rw [e]
  by_cases h0:many=0
  ·simp [h0]
  ·by_cases H:many=1
   ·simp [H]
   ·simp [h0,H]
 |s::ss,t::ts,pre,found,many,first,hT,hl,hbad,hf,hm,hm2=>by
  simp only [ji]at hf hm2
  obtain⟨x,g1,g2,g3⟩:=FA (hbad t (oh ..))
  have hcl:=yz hc.few t
  have ih:=fun found many first=>Bc hc b A table name ss ts (pre++[t]) found many first (by rw [hT];simp) (by simpa using hl) (fun y hy=>hbad y (oO _ hy))
  have hpl:(pre++[t]).length=pre.length+1:=by simp
  rw [hpl]at ih
  unfold fb
  rw [hT,nW,bI,A,g1,bI,Fa x name (by rw [g2];omega),bI,uA,g2]
  have hh:=L8 (ga s) table name (kB c t) 0 first (hc.cols t)
  simp only [FT]at hh
  simp only [eV,wF]
  have hel:(sD (ga s) (kB c t)).length=(kB c t).length:=by simp [sD]
  rw [hel,hh]
  have hw:IntKind.i64.wrap ((first:Int)+((kB c t).length:Int))=((first+(kB c t).length:Nat):Int):=by rw [dW (by omega) (by omega)];omega
  cases hcx:yV name (kB c t) 0 with
  |none=>
   have ah:decide ((0:Int)<= -1)=false:=rfl
   simp only [ah,kM,jh,bI,qo]
   unfold gV
   rw [g2,hw,ih found many (first+(kB c t).length) (by omega) hm (by omega)]
  |some k=>
   have hk:k<(kB c t).length:=by
    have: ∀(l:List cb) (i k:Nat),yV name l i=some k->k<i+l.length:=by
     intro l
     induction l with
     |nil=>intro i k h;cases h
     |cons y l ih=>
      intro i k h
      unfold yV at h
      simp only [ji]
      split at h
      ·cases h;omega
      ·have:=ih (i+1) k h;omega
    have:=this (kB c t) 0 k hcx
    omega
   have ah:decide ((0:Int)<=(k:Int))=true:=by rw [mV];omega
   simp only [ah,jb,bI]
   have hw2:IntKind.i64.wrap ((first:Int)+(k:Int))=((first+k:Nat):Int):=by rw [dW (by omega) (by omega)];omega
   have hw3:IntKind.i64.wrap (many+1)=many+1:=by rw [dW (by omega) (by omega)]
   by_cases M:table=[]\/ga s=table
   ·rw [cx M]
    have e:(if(!(table==([]:cX)))=true then some (table==ga s)else some true)=some true:=by
     by_cases h0:table=[]
     ·simp [h0]
     ·rcases M with M|M
      ·exact absurd M h0
      ·rw [cx (by simpa using h0),M];simp
    rw [e]
    simp only [bI,jb]
    unfold gV
    rw [g2,hw,hw2,hw3,ih _ _ (first+(kB c t).length) (by omega) (by omega) (by omega)]
    simp only [JB,ji,List.getLast?_cons]
    congr 2
    ·cases (mR (fun e=>decide (e.2=name)&&(decide (table=[])||decide (e.1=table))) (eV c ss ts) (first+(kB c t).length)).getLast? <;>rfl
    ·omega
   ·rw [cm M]
    have e:(if(!(table==([]:cX)))=true then some (table==ga s)else some true)=some false:=by
     rw [not_or]at M
     rw [cx (by simpa using M.1)]
     have:(table==ga s)=false:=by
      rw [KS];exact fun h=>M.2 h.symm
     rw [this]
    rw [e]
    simp only [bI,kM,jh,qo]
    unfold gV
    rw [g2,hw,ih found many (first+(kB c t).length) (by omega) hm (by omega)]
def H8{c:aJ}(hc:Ux c)(b:aB)(A:b.c=c)(table name:cX)(hl:b.sources.length=b.out.Tables.length)(hbad: ∀t∈b.out.Tables,HD c t=false)(hlen:b.out.Tables.length<=100):jF b table name=some (zc (eV c b.sources b.out.Tables) table name):=by
 unfold jF
 have:=Bc hc b A table name b.sources b.out.Tables [] 0 0 0 rfl hl hbad (by omega) (by omega) (by omega)
 simp only [sG,Int.ofNat_zero]at this
 rw [this]
 unfold zc
 congr 1
 generalize mR (fun e=>decide (e.2=name)&&(decide (table=[])||decide (e.1=table))) (eV c b.sources b.out.Tables) 0=h1
 match h1 with
 |[]=>rfl
 |[k]=>rfl
 |k::k2::h1=>
  unfold OD
  simp only [ji]
  rw [cm (by omega),cm (by omega)]
end Go.Proofs.YthbdkceckjihgaaGreatDoor


/- dm of this claim: B8. -/
set_option linter.all false
namespace Go.Proofs.YthbdkceckjihgaaGreatDoor
open Go

def qG{κ β:Type} [DecidableEq κ](k:κ)(y:β): ∀(m:List (κ×β)),ie (kh m k y) k=some y
 |[]=>by simp [kh,ie]
 |q::m=>by
  unfold kh
  by_cases h:q.1=k
  ·rw [cx h];unfold ie;rw [cx rfl]
  ·rw [cm h];unfold ie;rw [cm h,qG k y m]
def pz{κ β:Type} [DecidableEq κ]{k j:κ}(y:β)(hj:j≠k): ∀(m:List (κ×β)),ie (kh m k y) j=ie m j
 |[]=>by simp [kh,ie,Ne.symm hj]
 |q::m=>by
  unfold kh
  by_cases h:q.1=k
  ·rw [cx h]
   unfold ie
   rw [cm (show¬k=j from Ne.symm hj),cm (show¬q.1=j from fun e=>hj (e▸h))]
  ·rw [cm h]
   unfold ie
   rw [pz y hj m]
structure Maps(E:List (cX×cX))(names:List cX)(s:am):Prop where
 called: ∀n,(ie s.called n).getD false=decide (n∈names)
 alone: ∀n,(ie s.alone n).getD []=(mR (fun e=>decide (e.2=n)) E 0).map fun(k:Nat)=>(k:Int)
 behind: ∀t n,ie s.behind (t,n)=((mR (fun e=>decide (e.2=n)&&decide (e.1=t)) E 0).getLast?.map fun(k:Nat)=>(k:Int))
 once:E.Nodup
def G3(t n:cX): ∀(E:List (cX×cX)) (i:Nat),E.Nodup->(mR (fun e=>decide (e.2=n)&&decide (e.1=t)) E i).length<=1
 |[],i,_=>jR _
 |e::E,i,h=>by
  have J:=List.nodup_cons.1 h
  unfold mR
  split
  ·rename_i he
   have:mR (fun e=>decide (e.2=n)&&decide (e.1=t)) E (i+1)=[]:=by
    have key: ∀(E:List (cX×cX)) (i:Nat),e∉E->mR (fun e=>decide (e.2=n)&&decide (e.1=t)) E i=[]:=by
     intro E
     induction E with
     |nil=>intro i _;rfl
     |cons f E ih=>
      intro i hn
      simp only [gn,not_or]at hn
      unfold mR
      rw [ih (i+1) hn.2,cm]
      intro hf
      apply hn.1
      simp only [jM,mV]at he hf
      exact Prod.ext (he.2.trans hf.2.symm) (he.1.trans hf.1.symm)
    exact key E (i+1) J.1
   rw [this];simp
  ·exact G3 t n E (i+1) J.2
def BW{p q:cX×cX->Bool}: ∀(E:List (cX×cX)) (i:Nat),(∀e∈E,p e=q e)->mR p E i=mR q E i
 |[],i,_=>rfl
 |e::E,i,h=>by
  unfold mR
  rw [h e (oh ..),BW E (i+1) fun f hf=>h f (oO _ hf)]
def Mu{E:List (cX×cX)}{names:List cX}{s:am}(h:Maps E names s)(n:jY):kJ s n=some (zc E n.Table n.Name):=by
 unfold kJ zc
 by_cases M:n.Table=[]
 ·rw [cm (by simp [M])]
  have e:mR (fun e=>decide (e.2=n.Name)&&(decide (n.Table=[])||decide (e.1=n.Table))) E 0=mR (fun e=>decide (e.2=n.Name)) E 0:=BW E 0 fun e _=>by simp [M]
  rw [e,h.alone]
  match mR (fun e=>decide (e.2=n.Name)) E 0 with
  |[]=>rfl
  |[k]=>rfl
  |k::k2::h1=>
   have hlen:(((List.map (fun(k:Nat)=>(k:Int)) (k::k2::h1)).length:Nat):Int)=(h1.length:Int)+2:=by simp;omega
   rw [hlen,cm (by rw [wk];omega),cm (by rw [wk];omega)]
 ·rw [cx (by simpa using M)]
  have e:mR (fun e=>decide (e.2=n.Name)&&(decide (n.Table=[])||decide (e.1=n.Table))) E 0=mR (fun e=>decide (e.2=n.Name)&&decide (e.1=n.Table)) E 0:=BW E 0 fun e _=>by simp [M]
  rw [e,h.behind]
  have hl:=G3 n.Table n.Name E 0 h.once
  match mR (fun e=>decide (e.2=n.Name)&&decide (e.1=n.Table)) E 0,hl with
  |[],_=>rfl
  |[k],_=>rfl
  |k::k2::h1,hl=>simp at hl
def II{nm:cX}: ∀(l:List cb) (E:List (cX×cX)) (names:List cX) (s:am),(∀n,(ie s.called n).getD false=decide (n∈names))->(∀n,(ie s.alone n).getD []=(mR (fun e=>decide (e.2=n)) E 0).map fun(k:Nat)=>(k:Int))->
  (∀t n,ie s.behind (t,n)=((mR (fun e=>decide (e.2=n)&&decide (e.1=t)) E 0).getLast?.map fun(k:Nat)=>(k:Int)))->s.kinds.length=E.length->E.length+l.length<=1000000->
  ∃s',gQ nm l s=some (0,s')/\s' ={s with alone:=s'.alone,behind:=s'.behind,kinds:=s.kinds++l.map fun x=>x.Kind}/\(∀n,(ie s'.alone n).getD []=(mR (fun e=>decide (e.2=n)) (E++sD nm l) 0).map fun(k:Nat)=>(k:Int))/\
   (∀t n,ie s'.behind (t,n)=((mR (fun e=>decide (e.2=n)&&decide (e.1=t)) (E++sD nm l) 0).getLast?.map fun(k:Nat)=>(k:Int)))
 |[],E,names,s,hc,ha,A,hk,_=>⟨s,rfl,by cases s;simp,by simpa [sD] using ha,by simpa [sD] using A⟩
 |x::l,E,names,s,hc,ha,A,hk,hl=>by
  simp only [ji]at hl
  have hal:((ie s.alone x.Name).getD []).length<=1000000:=by
   rw [ha x.Name,A2]
   have: ∀(p:cX×cX->Bool) (l:List (cX×cX)) (i:Nat),(mR p l i).length<=l.length:=by
    intro p l
    induction l with
    |nil=>intro i;exact f7 _
    |cons e l ih=>
     intro i
     unfold mR
     have:=ih (i+1)
     split<;>simp<;>omega
   have:=this (fun e=>decide (e.2=x.Name)) E 0
   omega
  obtain⟨s1,hs1⟩: ∃s1:am,s1={s with alone:=kh s.alone x.Name ((ie s.alone x.Name).getD []++[(s.kinds.length:Int)]),behind:=kh s.behind (nm,x.Name) (s.kinds.length:Int),kinds:=s.kinds++[x.Kind]}:=⟨_,rfl⟩
  have e0:gQ nm (x::l) s=gQ nm l s1:=by
   conv=>lhs;unfold gQ
   rw [dF (by simp;omega),bI,bI]
   simp only
   rw [dF (by simp;omega),bI,hs1]
  have hent:sD nm (x::l)=(nm,x.Name)::sD nm l:=rfl
  have happ:E++sD nm (x::l)=(E++[(nm,x.Name)])++sD nm l:=by rw [hent];simp
  obtain⟨s',g1,g2,g3,g4⟩:=II l (E++[(nm,x.Name)]) names s1 (by rw [hs1];exact hc) (fun n=>by
   rw [hs1]
   simp only
   rw [wF]
   by_cases hn:n=x.Name
   ·subst hn
    rw [qG,Option.getD_some,ha x.Name]
    simp [mR,hk]
   ·rw [pz _ hn,ha n]
    simp [mR,Ne.symm hn]) (fun t n=>by
   rw [hs1]
   simp only
   rw [wF]
   by_cases hn:(t,n)=(nm,x.Name)
   ·rw [hn,qG]
    obtain⟨H,J⟩:=Prod.ext_iff.1 hn
    simp only at H J
    subst H J
    simp [mR,hk]
   ·rw [pz _ hn,A t n]
    have:(decide (x.Name=n)&&decide (nm=t))=false:=by
     rw [Bool.and_eq_false_iff,qh,qh]
     by_cases H:x.Name=n
     ·exact .inr fun J=>hn (by rw [H,J])
     ·exact .inl H
    simp [mR,this]) (by rw [hs1];simp [hk]) (by simp;omega)
  refine⟨s',e0.trans g1,?_,?_,?_⟩
  ·rw [g2,hs1]
   simp
  ·intro n;rw [happ];exact g3 n
  ·intro t n;rw [happ];exact g4 t n
end Go.Proofs.YthbdkceckjihgaaGreatDoor


/- dm of this claim: B9. -/
set_option linter.all false
namespace Go.Proofs.YthbdkceckjihgaaGreatDoor
open Go

structure qK(c:aJ):Prop where
 basC:Ux c
 cols4: ∀t∈c.Tables,t.Columns.length<=4
 kinds: ∀t∈c.Tables,∀x∈t.Columns,wD x.Kind=true
def Aa(a:lb)(kinds:List Int):Int×Bool:=
 if a.Tag=1 then(2,true)else
  if(gC a.Arg kinds).2≠0\/(a.Tag=3/\(gC a.Arg kinds).1≠2/\(gC a.Arg kinds).1≠0)then(0,false)else
   if a.Tag=2\/a.Tag=3 then(2,true)else((gC a.Arg kinds).1,true)
def LX(kinds:List Int)(keys:List Int):List Int:=keys.map fun k=>(kinds[k.toNat]?).getD 0
def yh(kinds:List Int)(keys:List Int)(aggs:List lb):List Int:=LX kinds keys++aggs.map fun a=>(Aa a kinds).1
structure vu(c:aJ)(s:am)(b:aB):Prop where
 cat:s.Catalog=c
 bc:b.c=c
 out:s.out=b.out
 kinds:s.kinds=iB c b.out.Tables
 len:b.sources.length=b.out.Tables.length
 bad: ∀t∈b.out.Tables,HD c t=false
 few:b.out.Tables.length<=3
 maps:Maps (eV c b.sources b.out.Tables) (b.sources.map ga) s
 groups:s.groups=yh s.kinds b.out.Keys b.out.Aggs
 keys: ∀k∈b.out.Keys,0<=k/\k<(s.kinds.length:Int)
 keysLen:b.out.Keys.length<=3
 aggsLen:b.out.Aggs.length<=12
 aggsOnce:b.out.Aggs.Nodup
 aggsOk: ∀a∈b.out.Aggs,(Aa a s.kinds).2=true/\(1<=a.Tag/\a.Tag<=5)/\a.Arg.Nodes.length<=50000
def EV(c:aJ): ∀(ss:List d7) (ts:List Int) (e:cX×cX),e∈eV c ss ts->e.1∈ss.map ga
 |[],_,e,h=>by simp [eV]at h
 |s::ss,[],e,h=>by simp [eV]at h
 |s::ss,t::ts,e,h=>by
  simp only [eV,Bv,sD,Br]at h
  rcases h with⟨x,_,rfl⟩|h
  ·simp
  ·exact oO _ (EV c ss ts e h)
def Bb(b:aB)(s:d7)(r:Int)(hl:b.sources.length<=1000)(hl2:b.out.Tables.length<=1000): ∀l:List d7,gU b s r l=if ga s∈l.map ga then some (221,b)else some (0,{b with sources:=b.sources++[s],out:={b.out with Tables:=b.out.Tables++[r]}})
 |[]=>by
  unfold gU
  rw [dF (by simp;omega),bI,dF (by simp;omega),bI]
  rfl
 |e::l=>by
  unfold gU
  rw [uA,bI,uA,bI,Bb b s r hl hl2 l]
  by_cases h:ga e=ga s
  ·rw [cx (by simpa using h),cx (by simp [h])]
  ·rw [cm (by simpa using h)]
   have:(ga s∈List.map ga (e::l))=(ga s∈List.map ga l):=by
    simp only [uM,gn]
    exact propext ⟨fun J=>J.resolve_left fun h3=>h h3.symm,.inr⟩
   simp only [this]
def EJ{c:aJ}(hc:qK c){s:am}{b:aB}(h:vu c s b)(hl:b.sources.length<=2)(hk:b.out.Keys=[])(ha:b.out.Aggs=[])(p:d7):
  (∃e,e≠0/\ir s p=some (e,s)/\jE b p=some (e,b))\/(∃s' b' k,ir s p=some (0,s')/\jE b p=some (0,b')/\vu c s' b' /\s'.from_=s.from_/\s'.at_=s.at_/\b' ={b with sources:=b.sources++[p],out:={b.out with Tables:=b.out.Tables++[k]}}):=by
 unfold ir jE
 rw [show qb s.Catalog p.Table=_ from(congrArg (fun(ah:aJ)=>qb ah p.Table) h.cat).trans (Fl c p.Table),show sO b.c p.Table=_ from(congrArg (fun(ah:aJ)=>sO ah p.Table) h.bc).trans (Ia c p.Table hc.basC.len),HC]
 have hlen:=h.len
 cases D:zr p.Table c.Tables 0 with
 |none=>exact .inl ⟨220,by decide,rfl,rfl⟩
 |some k=>
  have hkl:=(Lc D).2
  simp only [bI]
  rw [Bb b p _ (by omega) (by omega),h.maps.called]
  have d1:decide ((k:Int)<0)=false:=by rw [qh];omega
  simp only [d1,qY,kM,jh]
  by_cases hn:ga p∈b.sources.map ga
  ·rw [rG hn,cx rfl,cx hn]
   exact .inl ⟨221,by decide,rfl,rfl⟩
  ·rw [um hn,cm (by decide),cm hn]
   have hb0:HD c (k:Int)=false:=by
    unfold HD
    rw [JA,qh,qh];omega
   obtain⟨x,g1,g2,g3⟩:=FA hb0
   right
   obtain⟨sc,hsc⟩: ∃sc:am,sc={s with called:=kh s.called (ga p) true,out:={s.out with Tables:=s.out.Tables++[(k:Int)]}}:=⟨_,rfl⟩
   have hE:=zW c b.sources b.out.Tables [p] [(k:Int)] h.len
   have hE1:eV c [p] [(k:Int)]=sD (ga p) (kB c (k:Int)):=by simp [eV]
   rw [hE1]at hE
   have hEl:=zU c b.sources b.out.Tables h.len
   have hkk:iB c (b.out.Tables++[(k:Int)])=iB c b.out.Tables++(kB c (k:Int)).map fun x=>x.Kind:=by simp [iB]
   have hcl:=yz hc.basC.few (k:Int)
   have hKl:(iB c b.out.Tables).length<=3000:=by
    have: ∀l:List Int,(iB c l).length<=l.length*1000:=by
     intro l
     induction l with
     |nil=>exact f7 _
     |cons t l ih=>
      have:=yz hc.basC.few t
      simp only [iB,List.flatMap_cons,pg,A2,ji]at ih ⊢
      omega
    have:=this b.out.Tables
    omega
   obtain⟨s',k1,k2,k3,k4⟩:=II (nm:=ga p) (kB c (k:Int)) (eV c b.sources b.out.Tables) (b.sources.map ga++[ga p]) sc (fun n=>by
    rw [hsc]
    simp only
    by_cases hn2:n=ga p
    ·subst hn2;rw [qG];simp
    ·rw [pz _ hn2,h.maps.called];simp [hn2]) (fun n=>by rw [hsc];exact h.maps.alone n) (fun t n=>by rw [hsc];exact h.maps.behind t n) (by rw [hsc,hEl];exact congrArg List.length h.kinds) (by rw [hEl];omega)
   have hb' :s'.kinds=iB c (b.out.Tables++[(k:Int)]):=by rw [k2,hkk,hsc];simp [h.kinds]
   refine⟨s',{b with sources:=b.sources++[p],out:={b.out with Tables:=b.out.Tables++[(k:Int)]}},(k:Int),?_,rfl,?_,?_,?_,rfl⟩
   ·rw [dF (by rw [h.out];simp;omega),bI]
    rw [show fz s.Catalog.Tables (k:Int)=some x from by rw [h.cat];exact g1,bI,g2]
    rw [hsc]at k1
    exact k1
   ·refine⟨?_,h.bc,?_,hb',?_,?_,?_,⟨?_,?_,?_,?_⟩,?_,?_,?_,?_,?_,?_⟩
    ·rw [k2,hsc];exact h.cat
    ·rw [k2,hsc];simp only;rw [h.out]
    ·simp only [pg,y8];omega
    ·intro t M
     rcases Bv.1 M with M|M
     ·exact h.bad t M
     ·rw [Bx.1 M];exact hb0
    ·simp only [pg,y8];omega
    ·intro n
     have:s'.called=sc.called:=by rw [k2]
     rw [this,hsc]
     simp only [Iu,uM,EB]
     by_cases hn2:n=ga p
     ·subst hn2;rw [qG];simp
     ·rw [pz _ hn2,h.maps.called];simp [hn2]
    ·intro n;simp only;rw [hE];exact k3 n
    ·intro t n;simp only;rw [hE];exact k4 t n
    ·simp only
     rw [hE,List.nodup_append]
     refine⟨h.maps.once,?_,?_⟩
     ·have:=hc.basC.cols (k:Int)
      unfold MH at this
      unfold sD
      rw [List.nodup_iff_pairwise_ne]at this ⊢
      rw [List.pairwise_map]at this ⊢
      exact this.imp fun hxy e=>hxy (congrArg Prod.snd e)
     ·intro a ha' b2 hb2 e
      subst e
      simp only [sD,Br]at hb2
      obtain⟨y,_,rfl⟩:=hb2
      exact hn (EV c _ _ _ ha')
    ·have e1:s'.groups=s.groups:=by rw [k2,hsc]
     rw [e1,h.groups]
     simp only [hk,ha]
     rfl
    ·intro k' hk';simp only [hk]at hk';cases hk'
    ·simp [hk]
    ·simp [ha]
    ·simp [ha]
    ·intro a ha';simp only [ha]at ha';cases ha'
   ·rw [k2,hsc]
   ·rw [k2,hsc]
end Go.Proofs.YthbdkceckjihgaaGreatDoor


/- dm of this claim: B10. -/
set_option linter.all false
namespace Go.Proofs.YthbdkceckjihgaaGreatDoor
open Go

def pm{t:Tr}(hw:t.wf)(hs:t.size<=1000):lS (t.flat 0)=true:=by
 unfold lS
 rw [zn hw hs];rfl
def PH(n:aD):Tr:= .lf (gX n (-1) (-1))
def BT{n:aD}(H:pk n.Tag=some 0)(J:EX n=true):(PH n).wf:=⟨H,J,rfl,rfl⟩
def LT(n:aD):(PH n).flat 0=[gX n (-1) (-1)]:=rfl
def Ax{n:aD}(H:pk n.Tag=some 0)(J:EX n=true):vq n=some (⟨(PH n).flat 0⟩,0):=by
 have hm:sZ n []=some (Yq (lS [gX n (-1) (-1)]) ⟨[gX n (-1) (-1)]⟩):=zJ (fun e h=>by cases h) rfl (Vf n) (by show 1<=100000;omega)
 have hr:lS [gX n (-1) (-1)]=true:=pm (BT H J) (by show 1<=1000;omega)
 rw [hr]at hm
 unfold vq
 rw [hm];rfl
def xC(n:aD):gv n []=some ⟨(PH n).flat 0⟩:=abZ n
def zd(k:Int):aD:=⟨2,0,0,k,⟨0,0,0,[]⟩⟩
def S7(v:cJ):aD:=⟨1,0,0,0,v⟩
def yA(k:Int):pk (zd k).Tag=some 0:=rfl
def v8{k:Int}(h0:0<=k)(H:k<16):EX (zd k)=true:=by
 unfold EX jo zd
 simp [h0,H]
def GW{v:cJ}(h:uB v=true):EX (S7 v)=true:=by
 unfold EX jo S7
 rw [py,h];rfl
def Yh{l:List Int}(h: ∀k∈l,k4 k):Sl l=true:=by
 unfold Sl
 rw [ph]
 intro k hk
 have:=h k hk
 unfold k4 at this
 simp only [jM,mV]
 omega
def vU{t:Tr}(hw:t.wf)(hs:t.size<=1000){kinds:List Int}(hk: ∀k∈kinds,k4 k):gC ⟨t.flat 0⟩ kinds=if n8 kinds.length (t.flat 0)then(match kd kinds t with
  |some k=>((k,0):Int×Int)
  |none=>(0,201))else(0,2):=by
 unfold gC
 rw [pm hw hs,Yh hk,cx rfl,cx rfl]
 simp only [zn hw hs,bI]
 split<;>first|rfl|(cases kd kinds t<;>rfl)
def Tb{e:aZ}{kinds:List Int}(hk: ∀k∈kinds,k4 k):k4 (gC e kinds).1:=by
 unfold gC
 split
 ·split
  ·split
   ·rename_i hr _ _
    unfold lS at hr
    cases M:sK e.Nodes with
    |none=>rw [M]at hr;cases hr
    |some t=>
     simp only [bI]
     cases hd:kd kinds t with
     |none=>exact .inl rfl
     |some k=>exact PK hk t (ro M).1 hd
   ·exact .inl rfl
  ·exact .inl rfl
 ·exact .inl rfl
def GX{k:Int}{kinds:List Int}(hk: ∀k∈kinds,k4 k)(h0:0<=k)(H:k<(kinds.length:Int))(h16:k<16):(gC ⟨(PH (zd k)).flat 0⟩ kinds).2=0:=by
 rw [vU (BT (yA k) (v8 h0 h16)) (by show 1<=1000;omega) hk]
 rw [cx]
 ·rfl
 ·rw [LT]
  unfold n8
  simp [gX,zd]
  omega
def Ta{v:cJ}(hv:uB v=true){kinds:List Int}(hk: ∀k∈kinds,k4 k):(gC ⟨(PH (S7 v)).flat 0⟩ kinds).2=0:=by
 rw [vU (BT (show pk 1=some 0 from rfl) (GW hv)) (by show 1<=1000;omega) hk]
 rw [cx]
 ·rfl
 ·rw [LT];rfl
def SW(tag:Int):aD:=⟨tag,-1,-1,0,⟨0,0,0,[]⟩⟩
def Pv{tag:Int}{k:Nat}(h:pk tag=some (k+1)):EX (SW tag)=true:=by
 unfold EX jo SW
 have H: ¬tag=1:=fun e=>by subst e;simp [pk]at h
 have J: ¬tag=2:=fun e=>by subst e;simp [pk]at h
 simp [H,J]
def WV{tag:Int}{a:Tr}(h:pk tag=some 1)(ha:a.wf):(Tr.un (SW tag) a).wf:=⟨⟨h,Pv h,rfl,rfl⟩,ha⟩
def XF{tag:Int}{a b:Tr}(h:pk tag=some 2)(ha:a.wf)(A:b.wf):(Tr.bi (SW tag) a b).wf:=⟨⟨h,Pv h,rfl,rfl⟩,ha,A⟩
def WD(tag:Int)(a b:Tr):(Tr.bi (vQ tag) a b).flat 0=(Tr.bi (SW tag) a b).flat 0:=rfl
def Py(tag:Int){a:Tr}(ha:a.wf)(hs:a.size<=900):zT tag ⟨a.flat 0⟩=some (Yq (lS ((Tr.un (SW tag) a).flat 0)) ⟨(Tr.un (SW tag) a).flat 0⟩):=by
 have hl: ∀e∈[(⟨a.flat 0⟩:aZ)],e.Nodes.length<=100000:=by
  intro e h
  simp only [Bx]at h
  subst h
  show(a.flat 0).length<=100000
  rw [a.flat_len];omega
 have hw:((⟨(Tr.un (vQ tag) a).flat 0⟩:aZ)).Nodes.length<=100000:=by
  show((Tr.un (vQ tag) a).flat 0).length<=100000
  rw [Tr.flat_len];simp only [Tr.size];omega
 have hm:=zJ (root:=vQ tag) hl (by simp [pm ha (by omega)]) (Ve _ a (by omega)) hw
 unfold zT
 rw [show(⟨tag,0,0,0,⟨0,0,0,[]⟩⟩:aD)=vQ tag from rfl,hm]
 rfl
def SX{tag:Int}(h:pk tag=some 1){a:Tr}(ha:a.wf)(hs:a.size<=900):zT tag ⟨a.flat 0⟩=some (⟨(Tr.un (SW tag) a).flat 0⟩,0):=by
 rw [Py tag ha hs,pm (WV h ha) (by simp only [Tr.size];omega)];rfl
def Sv{tag:Int}(h:pk tag=some 2){a b:Tr}(ha:a.wf)(A:b.wf)(hs:a.size+b.size<=900):Df tag ⟨a.flat 0⟩ ⟨b.flat 0⟩=some (⟨(Tr.bi (SW tag) a b).flat 0⟩,0):=by
 have hl: ∀e∈[(⟨a.flat 0⟩:aZ),⟨b.flat 0⟩],e.Nodes.length<=100000:=by
  intro e h
  simp only [gn,List.not_mem_nil,or_false]at h
  rcases h with rfl|rfl
  ·show(a.flat 0).length<=100000
   rw [a.flat_len];omega
  ·show(b.flat 0).length<=100000
   rw [b.flat_len];omega
 have hw:((⟨(Tr.bi (vQ tag) a b).flat 0⟩:aZ)).Nodes.length<=100000:=by
  show((Tr.bi (vQ tag) a b).flat 0).length<=100000
  rw [Tr.flat_len];simp only [Tr.size];omega
 have hm:=zJ (root:=vQ tag) hl (by simp [pm ha (by omega),pm A (by omega)]) (Vd _ a b (by omega)) hw
 unfold Df
 rw [show(⟨tag,0,0,0,⟨0,0,0,[]⟩⟩:aD)=vQ tag from rfl,hm,WD,pm (XF h ha A) (by simp only [Tr.size];omega)]
 rfl
def Pw(tag:Int){a:Tr}(hs:a.size<=900):gv ⟨tag,0,0,0,⟨0,0,0,[]⟩⟩ [⟨a.flat 0⟩]=some ⟨(Tr.un (SW tag) a).flat 0⟩:=OS (vQ tag) a (by omega)
def UR(tag:Int){a b:Tr}(hs:a.size<=900)(hs2:b.size<=900):gv ⟨tag,0,0,0,⟨0,0,0,[]⟩⟩ [⟨a.flat 0⟩,⟨b.flat 0⟩]=some ⟨(Tr.bi (SW tag) a b).flat 0⟩:=OR (vQ tag) a b (by omega) (by omega)
def HU(a:lb)(kinds:List Int):qv a kinds=some (Aa a kinds):=by
 unfold qv Aa
 rw [qB]
 by_cases H:a.Tag=1
 ·rw [cx (by simpa using H),cx H]
 ·rw [cm (by simpa using H),cm H,bI]
  by_cases J:(gC a.Arg kinds).2≠0\/(a.Tag=3/\(gC a.Arg kinds).1≠2/\(gC a.Arg kinds).1≠0)
  ·rw [cx J,cx (by simpa [and_assoc] using J)]
  ·rw [cm J,cm (by simpa [and_assoc] using J)]
   by_cases h3:a.Tag=2\/a.Tag=3
   ·rw [cx h3,cx (by simpa using h3)]
   ·rw [cm h3,cm (by simpa using h3)]
def Uo{a:lb}{kinds:List Int}(hk: ∀k∈kinds,k4 k):k4 (Aa a kinds).1:=by
 unfold Aa
 split
 ·exact .inr (.inr (.inl rfl))
 ·split
  ·exact .inl rfl
  ·split
   ·exact .inr (.inr (.inl rfl))
   ·exact Tb hk
def Md(r:List Int): ∀(l:List lb) (out:List Int),out.length+l.length<=1000000->jG r l out=some (out++l.map fun a=>(Aa a r).1)
 |[],out,_=>by simp [jG]
 |a::l,out,h=>by
  simp only [ji]at h
  unfold jG
  rw [HU,bI,dF (by simp;omega),bI,Md r l _ (by simp;omega)]
  simp
def Me(s:bb)(r:List Int)(ha:s.Aggs.length<=1000): ∀(l:List Int) (out:List Int),(∀k∈l,0<=k/\k<(r.length:Int))->out.length+l.length<=10000->jH s r l out=some (out++yh r l s.Aggs)
 |[],out,_,h=>by
  unfold jH
  rw [Md r _ _ (by simp at h;omega)];rfl
 |k::l,out,hk,h=>by
  simp only [ji]at h
  obtain⟨h0,H⟩:=hk k (oh ..)
  have hi:fz r k=some ((r[k.toNat]?).getD 0):=by
   have hlt:k.toNat<r.length:=by omega
   unfold fz
   rw [cx h0,lr hlt];rfl
  unfold jH
  rw [hi,bI,dF (by simp;omega),bI,Me s r ha l _ (fun j hj=>hk j (oO _ hj)) (by simp;omega)]
  simp [yh,LX]
def vu.kindsLen{c:aJ}{s:am}{b:aB}(hc:qK c)(h:vu c s b):s.kinds.length<=12:=by
 have: ∀l:List Int,(iB c l).length<=l.length*4:=by
  intro l
  induction l with
  |nil=>exact f7 _
  |cons t l ih=>
   have h4:(kB c t).length<=4:=by
    unfold kB
    cases D:c.Tables[t.toNat]? with
    |none=>simp
    |some x=>exact hc.cols4 x (uo D)
   simp only [iB,List.flatMap_cons,pg,A2,ji]at ih ⊢
   omega
 have J:=this b.out.Tables
 have:=h.few
 rw [h.kinds];omega
def vu.kinds4{c:aJ}{s:am}{b:aB}(hc:qK c)(h:vu c s b): ∀k∈s.kinds,k4 k:=by
 rw [h.kinds]
 intro k hk
 simp only [iB,List.mem_flatMap,Br]at hk
 obtain⟨t,_,x,D,rfl⟩:=hk
 unfold kB at D
 cases hy:c.Tables[t.toNat]? with
 |none=>rw [hy]at D;simp at D
 |some y=>
  rw [hy]at D
  have:=hc.kinds y (uo hy) x D
  unfold wD at this
  simp only [zg,wk]at this
  unfold k4;omega
def vu.groups4{c:aJ}{s:am}{b:aB}(hc:qK c)(h:vu c s b): ∀k∈s.groups,k4 k:=by
 rw [h.groups]
 intro k hk
 have h4:=h.kinds4 hc
 unfold yh LX at hk
 rcases Bv.1 hk with hk|hk
 ·obtain⟨j,hj,rfl⟩:=Br.1 hk
  obtain⟨h0,H⟩:=h.keys j hj
  have hlt:j.toNat<s.kinds.length:=by omega
  rw [lr hlt]
  exact h4 _ (Iv ..)
 ·obtain⟨a,_,rfl⟩:=Br.1 hk
  exact Uo h4
def vu.groupsLen{c:aJ}{s:am}{b:aB}(h:vu c s b):s.groups.length=b.out.Keys.length+b.out.Aggs.length:=by
 rw [h.groups];simp [yh,LX]
def vu.refKinds{c:aJ}{s:am}{b:aB}(hc:qK c)(h:vu c s b):jQ b.c b.out.Tables=some s.kinds:=by
 rw [h.bc,JV hc.basC.few h.bad (by have:=h.few;omega),h.kinds]
def vu.refGroups{c:aJ}{s:am}{b:aB}(hc:qK c)(h:vu c s b):iT b.c b.out=some s.groups:=by
 unfold iT
 rw [h.refKinds hc,bI,Me b.out s.kinds (by have:=h.aggsLen;omega) _ _ h.keys (by have:=h.keysLen;simp;omega),h.groups]
 rfl
def vu.column{c:aJ}{s:am}{b:aB}(hc:qK c)(h:vu c s b)(n:jY):kJ s n=some (zc (eV c b.sources b.out.Tables) n.Table n.Name)/\jF b n.Table n.Name=some (zc (eV c b.sources b.out.Tables) n.Table n.Name):=
 ⟨Mu h.maps n,H8 hc.basC b h.bc n.Table n.Name h.len h.bad (by have:=h.few;omega)⟩
def vu.colIn{c:aJ}{s:am}{b:aB}(h:vu c s b)(t n:cX)(he:(zc (eV c b.sources b.out.Tables) t n).2=0):0<=(zc (eV c b.sources b.out.Tables) t n).1/\(zc (eV c b.sources b.out.Tables) t n).1<(s.kinds.length:Int):=by
 have hl:=zU c b.sources b.out.Tables h.len
 rw [h.kinds,<-hl]
 have hr:=BV (fun e=>decide (e.2=n)&&(decide (t=[])||decide (e.1=t))) (eV c b.sources b.out.Tables) 0
 unfold zc at he ⊢
 match hh:mR (fun e=>decide (e.2=n)&&(decide (t=[])||decide (e.1=t))) (eV c b.sources b.out.Tables) 0 with
 |[]=>rw [hh]at he;cases he
 |[k]=>
  rw [hh]at hr
  have:=hr k (oh ..)
  simp only
  omega
 |k::k2::h1=>rw [hh]at he;cases he
def G2{x a:lb}(h: ¬x=a)(l:List lb):(x::l).idxOf a=l.idxOf a+1:=by
 have:(x==a)=false:=by simpa using h
 simp [List.idxOf,List.findIdx_cons,this]
def L6(a:lb): ∀(l:List lb) (i:Nat),ez (lN a) l i=some (if a∈l then((i+l.idxOf a:Nat):Int)else -1)
 |[],i=>rfl
 |x::l,i=>by
  unfold ez
  have hf:lN a x=some (decide (x=a)):=by
   unfold lN
   rw [Kv]
   obtain⟨t1,⟨n1⟩⟩:=x
   obtain⟨t2,⟨n2⟩⟩:=a
   by_cases H:t1=t2
   ·subst H;by_cases J:n1=n2<;>simp [J]
   ·have:(t1==t2)=false:=by simpa using H
    simp [this,H]
  rw [hf,bI,L6 a l (i+1)]
  by_cases h:x=a
  ·subst h;simp
  ·rw [cm (by simpa using h)]
   congr 1
   have hm:(a∈x::l)=(a∈l):=by
    simp only [gn]
    exact propext ⟨fun J=>J.resolve_left fun h3=>h h3.symm,.inr⟩
   simp only [hm]
   by_cases ha:a∈l
   ·rw [cx ha,cx ha,show(x::l).idxOf a=l.idxOf a+1 from G2 h l]
    congr 1;omega
   ·rw [cm ha,cm ha]
def OL(b:aB)(a:lb): ∀(l:List lb) (i:Nat) (at1:Int),l.Nodup->fx b a l i at1=fx b a [] (i+l.length) (if a∈l then((i+l.idxOf a:Nat):Int)else at1)
 |[],i,at1,_=>rfl
 |x::l,i,at1,hn=>by
  have hn' :=List.nodup_cons.1 hn
  conv=>lhs;unfold fx
  have hf:(if(x.Tag==a.Tag)=true then(lV x.Arg a.Arg).bind fun r3=>some r3 else some false)=some (decide (x=a)):=by
   rw [oI]
   obtain⟨t1,⟨n1⟩⟩:=x
   obtain⟨t2,⟨n2⟩⟩:=a
   by_cases H:t1=t2
   ·subst H;by_cases J:n1=n2<;>simp [J]
   ·have:(t1==t2)=false:=by simpa using H
    simp [this,H]
  rw [hf,bI,show i+(x::l).length=i+1+l.length from by simp only [ji];omega]
  by_cases h:x=a
  ·subst h
   rw [cx (by simp),OL b x l (i+1) _ hn'.2,cm hn'.1,cx (oh ..)]
   simp
  ·rw [cm (by simpa using h),OL b a l (i+1) _ hn'.2]
   have hm:(a∈x::l)=(a∈l):=by
    simp only [gn]
    exact propext ⟨fun J=>J.resolve_left fun h3=>h h3.symm,.inr⟩
   simp only [hm]
   by_cases ha:a∈l
   ·rw [cx ha,cx ha,show(x::l).idxOf a=l.idxOf a+1 from G2 h l]
    congr 2;omega
   ·rw [cm ha,cm ha]
end Go.Proofs.YthbdkceckjihgaaGreatDoor


/- dm of this claim: B11. -/
set_option linter.all false
namespace Go.Proofs.YthbdkceckjihgaaGreatDoor
open Go

def Fq(s s' :am)(b b' :aB):Prop:=s' ={s with out:={s.out with Aggs:=s'.out.Aggs},groups:=s'.groups}/\b' ={b with out:={b.out with Aggs:=b'.out.Aggs}}/\s.groups<+:s'.groups
def Fq.refl(s:am)(b:aB):Fq s s b b:=⟨rfl,rfl,List.prefix_refl _⟩
def Fq.trans{s s1 s2:am}{b b1 b2:aB}(h:Fq s s1 b b1)(k:Fq s1 s2 b1 b2):Fq s s2 b b2:=by
 obtain⟨H,J,h3⟩:=h
 obtain⟨k1,k2,k3⟩:=k
 refine⟨?_,?_,h3.trans k3⟩
 ·rw [k1,H]
 ·rw [k2,J]
def Un{c:aJ}(hc:qK c){s:am}{b:aB}(h:vu c s b)(a:lb)(M:1<=a.Tag/\a.Tag<=5)(ha:a.Arg.Nodes.length<=50000):
  (∃e s' b',e≠0/\nz s a=some (0,e,s')/\nf b a=some (⟨[]⟩,e,b')/\Fq s s' b b')\/(∃k s' b',nz s a=some (k,0,s')/\nf b a=some (⟨(PH (zd k)).flat 0⟩,0,b')/\vu c s' b' /\Fq s s' b b' /\0<=k/\k<(s'.groups.length:Int)/\k<16):=by
 have hkl:=h.kindsLen hc
 have hal:=h.aggsLen
 have hkeys:=h.keysLen
 -- the code, up to its kind
 have hcode:nz s a=if(Aa a s.kinds).2 then kK s a (Aa a s.kinds).1 else some (0,201,s):=by
  unfold nz Aa
  rw [ve _ _ ha]
  by_cases H:a.Tag=1
  ·rw [cm (by simp [H]),cx H];rfl
  ·rw [cx (by simpa using H),cm H,bI]
   by_cases J:(gC a.Arg s.kinds).2≠0\/(a.Tag=3/\(gC a.Arg s.kinds).1≠2/\(gC a.Arg s.kinds).1≠0)
   ·rw [cx J,cx (by simpa [and_assoc] using J)];rfl
   ·rw [cm J,cm (by simpa [and_assoc] using J)]
    by_cases h3:a.Tag=2\/a.Tag=3
    ·rw [cx h3,cm (by simp;omega)];rfl
    ·rw [cm h3,cx (by simp;omega)];rfl
 rw [hcode]
 unfold nf
 rw [h.refKinds hc,bI,HU,bI,OL b a _ _ _ h.aggsOnce]
 cases hok:(Aa a s.kinds).2 with
 |false=>exact .inl ⟨201,s,b,by decide,rfl,rfl,Fq.refl _ _⟩
 |true=>
  simp only [qY,kM,jh,jb,sE]
  unfold kK jk
  rw [L6,bI,h.out,sE]
  by_cases hm:a∈b.out.Aggs
  ·-- it is there
   have hix:=Pa hm
   rw [cx hm,cx hm,cm (by rw [mV];omega)]
   have hw:IntKind.i64.wrap ((b.out.Keys.length:Int)+((b.out.Aggs.idxOf a:Nat):Int))=((b.out.Keys.length+b.out.Aggs.idxOf a:Nat):Int):=by rw [dW (by omega) (by omega)];omega
   right
   refine⟨((b.out.Keys.length+b.out.Aggs.idxOf a:Nat):Int),s,b,?_,?_,h,Fq.refl _ _,by omega,by have:=h.groupsLen;omega,by omega⟩
   ·unfold mL
    rw [h.out,cm (by rw [mV];omega),hw]
   ·unfold fx lh
    rw [cm (by rw [wk];omega),cm (by rw [mV];omega),hw]
    rw [show(⟨2,0,0,((b.out.Keys.length+b.out.Aggs.idxOf a:Nat):Int),⟨0,0,0,[]⟩⟩:aD)=zd ((b.out.Keys.length+b.out.Aggs.idxOf a:Nat):Int)from rfl,xC]
    rfl
  ·-- it is new
   rw [cm hm,cm hm,cx (by decide),dF (by simp;omega),bI,dF (by have:=h.groupsLen;simp;omega),bI]
   unfold fx
   rw [cx (by simp),dF (by simp;omega),bI]
   unfold mL lh
   simp only [pg,y8]
   by_cases h12:b.out.Aggs.length+1<=12
   ·have hw:IntKind.i64.wrap ((b.out.Keys.length:Int)+((b.out.Aggs.length:Nat):Int))=((b.out.Keys.length+b.out.Aggs.length:Nat):Int):=by rw [dW (by omega) (by omega)];omega
    rw [cm (by rw [mV];omega),cm (by rw [mV];omega),hw]
    rw [show(⟨2,0,0,((b.out.Keys.length+b.out.Aggs.length:Nat):Int),⟨0,0,0,[]⟩⟩:aD)=zd ((b.out.Keys.length+b.out.Aggs.length:Nat):Int)from rfl,xC,bI]
    right
    refine⟨_,_,_,rfl,rfl,?_,⟨?_,rfl,List.prefix_append _ _⟩,by omega,?_,by omega⟩
    ·refine⟨h.cat,h.bc,rfl,h.kinds,h.len,h.bad,h.few,⟨h.maps.called,h.maps.alone,h.maps.behind,h.maps.once⟩,?_,h.keys,h.keysLen,by simpa using h12,?_,?_⟩
     ·simp only
      rw [h.groups]
      simp [yh]
     ·simp only
      rw [List.nodup_append]
      refine⟨h.aggsOnce,by simp,fun x D y hy e=>?_⟩
      rw [Bx.1 hy]at e
      exact hm (e▸D)
     ·intro x D
      rcases Bv.1 D with D|D
      ·exact h.aggsOk x D
      ·rw [Bx.1 D];exact⟨hok,M,ha⟩
    ·rw [h.out]
    ·have:=h.groupsLen;simp only [pg,y8];omega
   ·rw [cx (by rw [mV];omega),cx (by rw [mV];omega)]
    left
    refine⟨228,_,_,by decide,rfl,rfl,?_,rfl,List.prefix_append _ _⟩
    rw [h.out]
end Go.Proofs.YthbdkceckjihgaaGreatDoor


/- dm of this claim: B12. -/
set_option linter.all false
namespace Go.Proofs.YthbdkceckjihgaaGreatDoor
open Go

def ov(s:am)(g:Bool):List Int:=if g then s.groups else s.kinds
def uK:am->Bool->Option ((List Int)×am):=fun(mc:am) (mx:Bool)=>(gA mc mx).map fun mr=>(mr,mc)
def LL(s:am)(g:Bool):uK s g=some (ov s g,s):=by
 unfold uK gA ov
 cases g<;>rfl
def vu.ov4{c:aJ}{s:am}{b:aB}(hc:qK c)(h:vu c s b)(g:Bool): ∀k∈ov s g,k4 k:=by
 unfold ov
 cases g with
 |true=>exact h.groups4 hc
 |false=>exact h.kinds4 hc
def QB(c:aJ)(s:am)(b:aB)(g:Bool)(n:Nat)(C:Option (aZ×Int×am))(hx:Option (aZ×Int×aB)):Prop:=
 (∃(e:Int) (x:aZ) (s' :am) (x' :aZ) (b' :aB),e≠0/\C=some (x,e,s')/\hx=some (x',e,b')/\Fq s s' b b')\/
 (∃(t:Tr) (s' :am) (b' :aB),C=some ((⟨t.flat 0⟩:aZ),0,s')/\hx=some ((⟨t.flat 0⟩:aZ),0,b')/\t.wf/\t.size<=n/\vu c s' b' /\Fq s s' b b' /\(g=false->s' =s/\b' =b)/\(gC ⟨t.flat 0⟩ (ov s' g)).2=0)
def To(s:am)(g:Bool){x:aZ}(D:x.Nodes.length<=50000):iX uK g s 0 x=some (x,(gC x (ov s g)).2,s):=by
 unfold iX
 rw [cx (by rfl),LL,bI,ve _ _ D,bI]
 rfl
def Vk{c:aJ}(hc:qK c){s:am}{b:aB}(h:vu c s b)(g:Bool)(x y:aZ):iQ g y x b=some (x,(gC x (ov s g)).2,b):=by
 unfold iQ mB ov
 rw [h.refKinds hc,bI]
 cases g with
 |true=>
  simp only [jb]
  rw [h.refGroups hc,bI,qB];rfl
 |false=>
  simp only [kM,jh]
  rw [qB];rfl
def Mi{c:aJ}(hc:qK c){s s' :am}{b b' :aB}(h:vu c s' b')(hf:Fq s s' b b'){g:Bool}(V:g=false->s' =s/\b' =b){t:Tr}(hw:t.wf)(hs:t.size<=900){n:Nat}(hn:t.size<=n)(y:aZ):
  QB c s b g n (iX uK g s' 0 ⟨t.flat 0⟩) (iQ g y ⟨t.flat 0⟩ b'):=by
 rw [To s' g (by show(t.flat 0).length<=50000;rw [t.flat_len];omega),Vk hc h]
 by_cases he:(gC ⟨t.flat 0⟩ (ov s' g)).2=0
 ·exact .inr ⟨t,s',b',by rw [he],by rw [he],hw,hn,h,hf,V,he⟩
 ·exact .inl ⟨_,_,_,_,_,he,rfl,rfl,hf⟩
def Er(n:aD){r:aZ×Int}(h:vq n=some r):ca n=some r:=by
 unfold ca
 rw [h];rfl
def Mt{c:aJ}(hc:qK c){s:am}{b:aB}(h:vu c s b){g:Bool}{k:Int}(h0:0<=k)(H:k<((ov s g).length:Int))(h16:k<16)(r1:Int×Int)(hr:r1.2=0)(y:aZ){n:Nat}(hn:1<=n):
  QB c s b g n (eD s ca k 0) (gK b r1 k y):=by
 unfold eD gK
 rw [cm (by decide),show(⟨2,0,0,k,⟨0,0,0,[]⟩⟩:aD)=zd k from rfl,Er _ (Ax (yA k) (v8 h0 h16)),xC,bI,bI,hr]
 exact .inr ⟨PH (zd k),s,b,rfl,rfl,BT (yA k) (v8 h0 h16),hn,h,Fq.refl _ _,fun _=>⟨rfl,rfl⟩,GX (h.ov4 hc g) h0 H h16⟩
def Ja(v:Int): ∀(l:List Int) (i:Nat),iO v l i=some (if v∈l then((i+l.idxOf v:Nat):Int)else -1)
 |[],i=>rfl
 |x::l,i=>by
  unfold iO
  by_cases h:v=x
  ·subst h;simp
  ·rw [cm (by simpa using h),Ja v l (i+1)]
   have hs:(x::l).idxOf v=l.idxOf v+1:=by
    have:(x==v)=false:=by simpa using Ne.symm h
    simp [List.idxOf,List.findIdx_cons,this]
   have hm:(v∈x::l)=(v∈l):=by
    simp only [gn]
    exact propext ⟨fun J=>J.resolve_left h,.inr⟩
   simp only [hm,hs]
   by_cases hv:v∈l
   ·rw [cx hv,cx hv];congr 1;omega
   ·rw [cm hv,cm hv]
def N4{x v:Int}(h: ¬x=v)(l:List Int):(x::l).idxOf v=l.idxOf v+1:=by
 have:(x==v)=false:=by simpa using h
 simp [List.idxOf,List.findIdx_cons,this]
def Yj(v:Int): ∀(l m:List Int),v∈l->(l++m).idxOf v=l.idxOf v
 |x::l,m,h=>by
  by_cases D:x=v
  ·subst D;simp
  ·rw [yZ,N4 D,N4 D,Yj v l m ((gn.1 h).resolve_left fun e=>D e.symm)]
def Xf(v:Int): ∀(l m:List Int),v∉l->(l++m).idxOf v=l.length+m.idxOf v
 |[],m,_=>by simp
 |x::l,m,h=>by
  rw [gn,not_or]at h
  rw [yZ,N4 (fun e=>h.1 e.symm),Xf v l m h.2,ji];omega
def Ya(b:aB)(r1:Int×Int)(hl:b.out.Keys.length<=1000): ∀(j fu:Nat) (own:Int),j<=b.out.Keys.length->j<fu->dM b r1 fu own ((j:Int)-1)=dM b r1 1 (if r1.1∈b.out.Keys.take j then(((b.out.Keys.take j).idxOf r1.1:Nat):Int)else own) (-1):=by
 intro j
 induction j with
 |zero=>
  intro fu own _ hf
  obtain⟨fu,rfl⟩: ∃k,fu=k+1:=⟨fu-1,by omega⟩
  simp only [List.take_zero,List.not_mem_nil,jh]
  rw [show((0:Nat):Int)-1= -1 from rfl]
  conv=>lhs;unfold dM
  conv=>rhs;unfold dM
  have hd:decide ((0:Int)<= -1)=false:=rfl
  simp only [hd,kM,jh]
 |succ j ih=>
  intro fu own hj hf
  obtain⟨fu,rfl⟩: ∃k,fu=k+1:=⟨fu-1,by omega⟩
  have hlt:j<b.out.Keys.length:=by omega
  conv=>lhs;unfold dM
  rw [cx (by rw [mV];omega),jU j (by omega),lr hlt,bI,dW (by omega) (by omega),show((j+1:Nat):Int)-1-1=(j:Int)-1 from by omega]
  have M:b.out.Keys.take (j+1)=b.out.Keys.take j++[b.out.Keys[j]]:=by rw [MU hlt]
  rw [M]
  by_cases hk:b.out.Keys[j]=r1.1
  ·rw [cx (by simpa using hk),ih fu _ (by omega) (by omega)]
   congr 1
   by_cases hm:r1.1∈b.out.Keys.take j
   ·rw [cx hm,cx (FQ _ hm),Yj _ _ _ hm]
   ·rw [cm hm,cx (by rw [hk];simp),hk]
    have:(b.out.Keys.take j++[r1.1]).idxOf r1.1=j:=by
     rw [Xf _ _ _ hm]
     simp [Bw]
     omega
    rw [this];omega
  ·rw [cm (by simpa using hk),ih fu _ (by omega) (by omega)]
   congr 1
   by_cases hm:r1.1∈b.out.Keys.take j
   ·rw [cx hm,cx (FQ _ hm),Yj _ _ _ hm]
   ·rw [cm hm,cm]
    intro J
    rcases Bv.1 J with J|J
    ·exact hm J
    ·exact hk (Bx.1 J).symm
def U5(b:aB)(r1:Int×Int)(own:Int):dM b r1 1 own (-1)=if own<0 then some (⟨[]⟩,225,b)else gK b r1 own ⟨[]⟩:=by
 unfold dM
 rw [cm (by decide)]
 by_cases h:own<0
 ·rw [cx h,cx (by simpa using h)]
 ·rw [cm h,cm (by simpa using h)]
def RI{c:aJ}(hc:qK c){s:am}{b:aB}(h:vu c s b)(at1:Int){n:Nat}(hn:1<=n):
  QB c s b true n ((mz s.out.Keys at1).bind fun r3=>if(decide (r3<(0:Int)))then(eD s ca r3 (225:Int))else(eD s ca r3 0))
   (dM b (at1,0) fc (-1:Int) (IntKind.i64.wrap ((b.out.Keys.length:Int)-(1:Int)))):=by
 have hkl:=h.keysLen
 unfold mz
 rw [Ja,bI,h.out,sE,dW (by omega) (by omega),Ya b (at1,0) (by omega) b.out.Keys.length fc _ (f7 _) (by unfold fc;omega),A3,U5]
 by_cases hm:at1∈b.out.Keys
 ·have hix:=Pa hm
  rw [cx hm,cm (by rw [mV];omega),cm (by omega)]
  exact Mt hc h (by omega) (by unfold ov;have:=h.groupsLen;simp only [jb];omega) (by omega) (at1,0) rfl _ hn
 ·rw [cm hm,cx (by decide),cx (by omega)]
  unfold eD
  rw [cx (by decide)]
  exact .inl ⟨225,_,_,_,_,by decide,rfl,rfl,Fq.refl _ _⟩
def MB{tag:Int}(h:tag=3\/(8<=tag/\tag<=11)): ∃k:Int,(ie qg tag).getD (0:Int)=k/\uZ tag=some k/\1<=k/\k<=5:=by
 have:tag=3\/tag=8\/tag=9\/tag=10\/tag=11:=by omega
 rcases this with rfl|rfl|rfl|rfl|rfl
 ·exact⟨1,rfl,rfl,by decide,by decide⟩
 ·exact⟨2,rfl,rfl,by decide,by decide⟩
 ·exact⟨3,rfl,rfl,by decide,by decide⟩
 ·exact⟨4,rfl,rfl,by decide,by decide⟩
 ·exact⟨5,rfl,rfl,by decide,by decide⟩
def WH{c:aJ}(hc:qK c){s:am}{b:aB}(h:vu c s b){m:dj}{k:Int}(hk:uZ m.Tag=some k)(H:1<=k)(h5:k<=5){arg:aZ}(ha:arg.Nodes.length<=50000){n:Nat}(hn:1<=n):
  QB c s b true n (fQ ca s ⟨k,arg⟩) (gJ m arg b 0):=by
 unfold fQ gJ
 rw [cm (by decide),hk,bI]
 rcases Un hc h ⟨k,arg⟩ ⟨H,h5⟩ ha with⟨e,s',b',he,g1,g2,g3⟩|⟨j,s',b',g1,g2,g3,g4,g5,g6,g7⟩
 ·rw [g1,g2,bI,bI,cx (by simpa using he)]
  exact .inl ⟨e,_,_,_,_,he,rfl,rfl,g3⟩
 ·rw [g1,g2,bI,bI]
  simp only [bne_self_eq_false,kM,jh]
  rw [show(⟨2,0,0,j,⟨0,0,0,[]⟩⟩:aD)=zd j from rfl,Er _ (Ax (yA j) (v8 g5 g7)),bI]
  exact .inr ⟨PH (zd j),s',b',rfl,rfl,BT (yA j) (v8 g5 g7),hn,g3,g4,fun e=>(by cases e),GX (g3.ov4 hc true) g5 g6 g7⟩
end Go.Proofs.YthbdkceckjihgaaGreatDoor


/- dm of this claim: B13. -/
set_option linter.all false
namespace Go.Proofs.YthbdkceckjihgaaGreatDoor
open Go

def AN{c:aJ}{s:am}{b:aB}{g:Bool}{n:Nat}{e:Int}(he:e≠0){x:aZ}{s' :am}{x' :aZ}{b' :aB}(hf:Fq s s' b b'):QB c s b g n (some (x,e,s')) (some (x',e,b')):= .inl ⟨e,x,s',x',b',he,rfl,rfl,hf⟩
def TZ{n:dj}(h:uG n=true)(M:n.Tag=1):uB n.Value=true:=by
 unfold uG at h
 rw [cx M]at h
 simp only [jM,Au]at h
 exact h.2.1.1
def J0{N P R:List dj}{a:List dj}{m:dj}(hN:N=P++(a++[m])++R):N[P.length+a.length]? =some m:=by
 rw [hN,gF,gF,<-gF P,xl (by simp)]
 simp
def Ab(tag:Int):xI tag=true↔(tag=3\/(8<=tag/\tag<=11)):=by
 unfold xI;simp
def Jp{tag:Int}(h:xI tag=false):(ie qg tag).getD (0:Int)=0:=by
 have J: ¬(tag=3\/(8<=tag/\tag<=11)):=fun e=>by rw [(Ab tag).2 e]at h;cases h
 unfold qg
 simp only [ie]
 rw [cm (show¬(3:Int)=tag by omega),cm (show¬(8:Int)=tag by omega),cm (show¬(9:Int)=tag by omega),cm (show¬(10:Int)=tag by omega),cm (show¬(11:Int)=tag by omega)]
 rfl
def Rn{tag:Int}(h:Ro tag=some 1)(ha:xI tag=false):pk tag=some 1:=by
 have J: ¬(tag=3\/(8<=tag/\tag<=11)):=fun e=>by rw [(Ab tag).2 e]at ha;cases ha
 unfold Ro at h
 unfold pk
 split at h
 ·cases h
 ·split at h
  ·rw [cm (by omega),cx (by omega)]
  ·split at h<;>cases h
def Rm{tag:Int}(h:Ro tag=some 2):pk tag=some 2/\xI tag=false:=by
 have h12:12<=tag/\tag<=23:=by
  unfold Ro at h
  split at h
  ·cases h
  ·split at h
   ·cases h
   ·split at h
    ·assumption
    ·cases h
 refine⟨?_,?_⟩
 ·unfold pk
  rw [cm (by omega),cm (by omega),cx (by omega)]
 ·cases A:xI tag with
  |false=>rfl
  |true=>have:=(Ab tag).1 A;omega
def N6(l r:Int):fz [l,r] ((0:Nat):Int)=some l:=rfl
def N5(l r:Int):fz [l,r] ((0+1:Nat):Int)=some r:=rfl
abbrev cT(fu:Nat)(s:am)(N:List dj)(p:Int)(g:Bool):=cy fu s ⟨N⟩ ca qg uK p g
abbrev dT(fu:Nat)(b:aB)(N:List dj)(p:Int)(g:Bool):=cC fu b ⟨N⟩ p g
def QA{c:aJ}(hc:qK c){s s' :am}{b b' :aB}(h:vu c s' b')(hf:Fq s s' b b'){g:Bool}{m:dj}(hm:xI m.Tag=true){parts:List aZ}{arg:aZ}(ha:arg.Nodes.length<=50000)(hp:(parts=[]/\arg=⟨[]⟩)\/parts=[arg])(x:aZ){n:Nat}(hn:1<=n):
  QB c s b g n (gR ca qg uK g m parts x s') (iR g m 0 arg b'):=by
 obtain⟨k,H,J,h3,h4⟩:=MB ((Ab m.Tag).1 hm)
 unfold gR iR
 rw [H]
 have ah:decide ((0:Int)<k)=true:=by rw [mV];omega
 rw [ah]
 cases g with
 |false=>
  unfold gJ
  simp only [Bu,Bool.and_self,jb,A4]
  exact AN (by decide) hf
 |true=>
  simp only [qY,Bool.and_false,kM,jh,jb]
  have hk3:(if decide ((0:Int)<(parts.length:Int))=true then(fz parts (0:Int)).bind fun e2=>fQ ca s' (lb.mk (⟨k,⟨[]⟩⟩:lb).Tag e2)else fQ ca s' ⟨k,⟨[]⟩⟩)=fQ ca s' ⟨k,arg⟩:=by
   rcases hp with⟨rfl,rfl⟩|rfl
   ·rfl
   ·rfl
  rw [hk3]
  rcases WH hc h J h3 h4 ha hn with⟨e,x1,s1,x2,b1,he,g1,g2,g3⟩|⟨t,s1,b1,g1,g2,g3,g4,g5,g6,g7,g8⟩
  ·exact .inl ⟨e,x1,s1,x2,b1,he,g1,g2,hf.trans g3⟩
  ·exact .inr ⟨t,s1,b1,g1,g2,g3,g4,g5,hf.trans g6,fun e=>(by cases e),g8⟩
def QW{c:aJ}(hc:qK c)(a:Bt):a.wf-> ∀(P R N:List dj) (fu fu2:Nat) (s:am) (b:aB) (g:Bool),N=P++a.flat P.length++R->a.size<=fu->a.size<=fu2->N.length<=1000->a.size<=300->vu c s b->
  QB c s b g a.size (cT fu s N (((P.length+a.size:Nat):Int)-1) g) (dT fu2 b N (((P.length+a.size:Nat):Int)-1) g):=by
 induction a with
 |lf n=>
  intro⟨H,J,h3,h4⟩ P R N fu fu2 s b g hN hf hf2 hl hs h
  simp only [Bt.size]at hf hf2 ⊢
  obtain⟨fu,rfl⟩: ∃k,fu=k+1:=⟨fu-1,by omega⟩
  obtain⟨fu2,rfl⟩: ∃k,fu2=k+1:=⟨fu2-1,by omega⟩
  have D:N[P.length]? =some n:=by
   have:=J0 (a:=[]) (m:=putA n (-1) (-1)) (by simpa [Bt.flat] using hN)
   rw [sG,FT]at this
   rw [this]
   cases n;simp only at h3 h4;subst h3 h4;rfl
  unfold cT dT cy cC
  rw [jU P.length (by omega),D,bI,bI]
  have M:n.Tag=1\/n.Tag=2\/n.Tag=3:=by
   unfold Ro at H
   split at H
   ·omega
   ·split at H
    ·cases H
    ·split at H<;>cases H
  rcases M with M|M|M
  ·-- a literal
   have hv:=TZ J M
   rw [cx (by simpa using M),cx (by simpa using M),show(⟨1,0,0,0,n.Value⟩:aD)=S7 n.Value from rfl,Er _ (Ax (show pk 1=some 0 from rfl) (GW hv)),xC,bI,bI]
   exact .inr ⟨PH (S7 n.Value),s,b,rfl,rfl,BT (show pk 1=some 0 from rfl) (GW hv),f7 _,h,Fq.refl _ _,fun _=>⟨rfl,rfl⟩,Ta hv (h.ov4 hc g)⟩
  ·-- a name
   rw [cm (by simp [M]),cx (by simpa using M),cm (by simp [M]),cx (by simpa using M)]
   obtain⟨c1,c2⟩:=h.column hc (⟨n.Table,n.Name⟩:jY)
   simp only at c1 c2
   rw [c1,c2,bI,bI]
   by_cases he:(zc (eV c b.sources b.out.Tables) n.Table n.Name).2=0
   ·obtain⟨k0,k1⟩:=h.colIn n.Table n.Name he
    have hkl:=h.kindsLen hc
    cases g with
    |false=>
     rw [cm (by simp),cm (by simp)]
     have:=Mt hc h (g:=false) k0 (by unfold ov;simpa using k1) (by omega) (zc (eV c b.sources b.out.Tables) n.Table n.Name) he ⟨[]⟩ (n:=1) (f7 _)
     rw [he]
     exact this
    |true=>
     rw [cx (by simp [he]),cx (by simp [he])]
     have hp:zc (eV c b.sources b.out.Tables) n.Table n.Name=((zc (eV c b.sources b.out.Tables) n.Table n.Name).1,0):=Prod.ext rfl he
     rw [hp]
     exact RI hc h _ (f7 _)
   ·rw [cm (by simp [he]),cm (by simp [he])]
    unfold eD gK
    rw [cx (by simpa using he),show(⟨2,0,0,(zc (eV c b.sources b.out.Tables) n.Table n.Name).1,⟨0,0,0,[]⟩⟩:aD)=zd (zc (eV c b.sources b.out.Tables) n.Table n.Name).1 from rfl,xC,bI]
    exact AN he (Fq.refl _ _)
  ·-- all that there are
   have hag:xI n.Tag=true:=by rw [M];rfl
   rw [cm (by simp [M]),cm (by simp [M]),cm (by simp [M]),cm (by simp [M]),show kT n.Tag=some (xI n.Tag)from rfl,hag,bI,cx rfl]
   unfold eC
   rw [h3,h4,N6,bI,cx (by decide),cm (by decide)]
   exact QA hc h (Fq.refl _ _) hag (by show 0<=50000;omega) (.inl ⟨rfl,rfl⟩) _ (f7 _)
 |un n a ih=>
  intro⟨⟨H,J,h3,h4⟩,ha⟩ P R N fu fu2 s b g hN hf hf2 hl hs h
  obtain⟨m,hm⟩: ∃m,m=putA n (((P.length+a.size:Nat):Int)-1) (-1):=⟨_,rfl⟩
  simp only [Bt.flat,<-hm]at hN
  simp only [Bt.size]at hf hf2 hs ⊢
  have hpos:=a.size_pos
  obtain⟨fu,rfl⟩: ∃k,fu=k+1:=⟨fu-1,by omega⟩
  obtain⟨fu2,rfl⟩: ∃k,fu2=k+1:=⟨fu2-1,by omega⟩
  have D:N[P.length+a.size]? =some m:=by
   have:=J0 (a:=a.flat P.length) (m:=m) hN
   rw [a.flat_len]at this
   exact this
  have hi:=ih ha P ([m]++R) N fu fu2
  have hNa:N=P++a.flat P.length++([m]++R):=by rw [hN];simp only [gF]
  have eT:m.Tag=n.Tag:=by rw [hm];rfl
  have eL:m.L=((P.length+a.size:Nat):Int)-1:=by rw [hm];rfl
  have eR:m.R= -1:=by rw [hm];rfl
  have t1: ¬n.Tag=1:=fun e=>by rw [e]at H;cases H
  have t2: ¬n.Tag=2:=fun e=>by rw [e]at H;cases H
  unfold cT dT cy cC
  rw [jU (P.length+a.size) (by omega),D,bI,bI,cm (by simpa [eT] using t1),cm (by simpa [eT] using t2),cm (by simpa [eT] using t1),cm (by simpa [eT] using t2),show kT m.Tag=some (xI m.Tag)from rfl,bI]
  have dL:decide (m.L<(0:Int))=false:=by rw [eL,qh];omega
  have dL2:decide ((0:Int)<=m.L)=true:=by rw [eL,mV];omega
  have dR:decide (m.R<(0:Int))=true:=by rw [eR];rfl
  have dR2:decide ((0:Int)<=m.R)=false:=by rw [eR];rfl
  unfold eC
  rw [N6,bI,dL]
  simp only [kM,jh]
  cases hag:xI m.Tag with
  |true=>
   obtain⟨k,k1,k2,k3,k4⟩:=MB ((Ab m.Tag).1 hag)
   have kz:(k==(0:Int))=false:=by rw [KS];omega
   rw [cx rfl,dL2,cx rfl,k1,kz,Bool.and_false,eL]
   rcases hi s b false hNa (by omega) (by omega) hl (by omega) h with⟨e,x,s',x',b',he,g1,g2,g3⟩|⟨t,s',b',g1,g2,g3,g4,g5,g6,g7,g8⟩
   ·rw [show cy fu s ⟨N⟩ ca qg uK (((P.length+a.size:Nat):Int)-1) false=_ from g1,show cC fu2 b ⟨N⟩ (((P.length+a.size:Nat):Int)-1) false=_ from g2,bI,bI,cx (by simpa using he)]
    unfold iR gJ
    have hz:(e==(0:Int))=false:=by rw [KS];exact he
    simp only [hz,Bool.false_and,kM,jh]
    rw [cx (by simpa using he)]
    exact AN he g3
   ·rw [show cy fu s ⟨N⟩ ca qg uK (((P.length+a.size:Nat):Int)-1) false=_ from g1,show cC fu2 b ⟨N⟩ (((P.length+a.size:Nat):Int)-1) false=_ from g2,bI,bI,cm (show¬((0:Int) !=0)=true by decide),dF (by simp),bI]
    unfold eC
    rw [N5,bI,dR,cx rfl]
    exact QA hc g5 g6 hag (by show(t.flat 0).length<=50000;rw [t.flat_len];omega) (.inr rfl) _ (by omega)
  |false=>
   have hz:=Jp hag
   have hpk:pk m.Tag=some 1:=Rn (by rw [eT];exact H) hag
   rw [cm (by decide),hz,A4,Bool.and_true,eL]
   rcases hi s b g hNa (by omega) (by omega) hl (by omega) h with⟨e,x,s',x',b',he,g1,g2,g3⟩|⟨t,s',b',g1,g2,g3,g4,g5,g6,g7,g8⟩
   ·rw [show cy fu s ⟨N⟩ ca qg uK (((P.length+a.size:Nat):Int)-1) g=_ from g1,show cC fu2 b ⟨N⟩ (((P.length+a.size:Nat):Int)-1) g=_ from g2,bI,bI,cx (by simpa using he),cx (by simpa using he)]
    exact AN he g3
   ·rw [show cy fu s ⟨N⟩ ca qg uK (((P.length+a.size:Nat):Int)-1) g=_ from g1,show cC fu2 b ⟨N⟩ (((P.length+a.size:Nat):Int)-1) g=_ from g2,bI,bI,cm (show¬((0:Int) !=0)=true by decide),cm (show¬((0:Int) !=0)=true by decide),dF (by simp),bI]
    unfold eC
    rw [N5,bI,dR,cx rfl,dR2]
    simp only [kM,jh]
    rw [Pw m.Tag (by omega),bI]
    unfold gR
    rw [hz]
    have e1:fz ([]++[(⟨t.flat 0⟩:aZ)]) (0:Int)=some ⟨t.flat 0⟩:=rfl
    rw [cm (by simp),cm (by simp),e1,bI,SX hpk g3 (by omega),bI,cm (by simp)]
    exact Mi hc g5 g6 g7 (WV hpk g3) (by simp only [Tr.size];omega) (by simp only [Tr.size];omega) _
 |bi n a ah iha ihb=>
  intro⟨⟨H,J,h3,h4⟩,ha,A⟩ P R N fu fu2 s b g hN hf hf2 hl hs h
  obtain⟨m,hm⟩: ∃m,m=putA n (((P.length+a.size:Nat):Int)-1) (((P.length+a.size+ah.size:Nat):Int)-1):=⟨_,rfl⟩
  simp only [Bt.flat,<-hm]at hN
  simp only [Bt.size]at hf hf2 hs ⊢
  have hap:=a.size_pos
  have hbp:=ah.size_pos
  obtain⟨fu,rfl⟩: ∃k,fu=k+1:=⟨fu-1,by omega⟩
  obtain⟨fu2,rfl⟩: ∃k,fu2=k+1:=⟨fu2-1,by omega⟩
  have D:N[P.length+(a.size+ah.size)]? =some m:=by
   have:=J0 (a:=a.flat P.length++ah.flat (P.length+a.size)) (m:=m) hN
   rw [pg,a.flat_len,ah.flat_len]at this
   exact this
  have hNa:N=P++a.flat P.length++(ah.flat (P.length+a.size)++[m]++R):=by rw [hN];simp only [gF]
  have hNb:N=(P++a.flat P.length)++ah.flat (P++a.flat P.length).length++([m]++R):=by rw [hN];simp only [gF,pg,a.flat_len]
  have hi1:=fun s b=>iha ha P _ N fu fu2 s b g hNa (by omega) (by omega) hl (by omega)
  have hi2:=fun s b=>ihb A (P++a.flat P.length) _ N fu fu2 s b g hNb (by omega) (by omega) hl (by omega)
  rw [pg,a.flat_len]at hi2
  have eT:m.Tag=n.Tag:=by rw [hm];rfl
  have eL:m.L=((P.length+a.size:Nat):Int)-1:=by rw [hm];rfl
  have eR:m.R=((P.length+a.size+ah.size:Nat):Int)-1:=by rw [hm];rfl
  have t1: ¬n.Tag=1:=fun e=>by rw [e]at H;cases H
  have t2: ¬n.Tag=2:=fun e=>by rw [e]at H;cases H
  obtain⟨hpk,hag0⟩:=Rm H
  have hag:xI m.Tag=false:=by rw [eT];exact hag0
  have hpk' :pk m.Tag=some 2:=by rw [eT];exact hpk
  unfold cT dT cy cC
  rw [jU (P.length+(a.size+ah.size)) (by omega),D,bI,bI,cm (by simpa [eT] using t1),cm (by simpa [eT] using t2),cm (by simpa [eT] using t1),cm (by simpa [eT] using t2),show kT m.Tag=some (xI m.Tag)from rfl,bI]
  have dL:decide (m.L<(0:Int))=false:=by rw [eL,qh];omega
  have dR:decide (m.R<(0:Int))=false:=by rw [eR,qh];omega
  have dR2:decide ((0:Int)<=m.R)=true:=by rw [eR,mV];omega
  unfold eC
  rw [N6,bI,dL]
  simp only [kM,jh]
  have hz:=Jp hag
  rw [hag,cm (by decide),hz,A4,Bool.and_true,eL]
  rcases hi1 s b h with⟨e,x,s',x',b',he,g1,g2,g3⟩|⟨t,s',b',g1,g2,g3,g4,g5,g6,g7,g8⟩
  ·rw [show cy fu s ⟨N⟩ ca qg uK (((P.length+a.size:Nat):Int)-1) g=_ from g1,show cC fu2 b ⟨N⟩ (((P.length+a.size:Nat):Int)-1) g=_ from g2,bI,bI,cx (by simpa using he),cx (by simpa using he)]
   exact AN he g3
  ·rw [show cy fu s ⟨N⟩ ca qg uK (((P.length+a.size:Nat):Int)-1) g=_ from g1,show cC fu2 b ⟨N⟩ (((P.length+a.size:Nat):Int)-1) g=_ from g2,bI,bI,cm (show¬((0:Int) !=0)=true by decide),cm (show¬((0:Int) !=0)=true by decide),dF (by simp),bI]
   unfold eC
   rw [N5,bI,dR,dR2]
   simp only [kM,jh,jb]
   rw [Pw m.Tag (by omega),bI,hz,A4,Bool.and_true,eR]
   rcases hi2 s' b' g5 with⟨e,x,s2,x2,b2,he,k1,k2,k3⟩|⟨u,s2,b2,k1,k2,k3,k4,k5,k6,k7,k8⟩
   ·rw [show cy fu s' ⟨N⟩ ca qg uK (((P.length+a.size+ah.size:Nat):Int)-1) g=_ from k1,show cC fu2 b' ⟨N⟩ (((P.length+a.size+ah.size:Nat):Int)-1) g=_ from k2,bI,bI,cx (by simpa using he),cx (by simpa using he)]
    exact AN he (g6.trans k3)
   ·rw [show cy fu s' ⟨N⟩ ca qg uK (((P.length+a.size+ah.size:Nat):Int)-1) g=_ from k1,show cC fu2 b' ⟨N⟩ (((P.length+a.size+ah.size:Nat):Int)-1) g=_ from k2,bI,bI,cm (show¬((0:Int) !=0)=true by decide),cm (show¬((0:Int) !=0)=true by decide),dF (by simp),bI]
    unfold eC
    rw [UR m.Tag (by omega) (by omega),bI]
    unfold gR
    rw [hz]
    have e1:fz ([]++[(⟨t.flat 0⟩:aZ)]++[(⟨u.flat 0⟩:aZ)]) (0:Int)=some ⟨t.flat 0⟩:=rfl
    have e2:fz ([]++[(⟨t.flat 0⟩:aZ)]++[(⟨u.flat 0⟩:aZ)]) (1:Int)=some ⟨u.flat 0⟩:=rfl
    rw [cm (by simp),cm (by simp),e1,bI,Py m.Tag g3 (by omega),bI,cx (by simp),e2,bI,Sv hpk' g3 k3 (by omega),bI]
    refine Mi hc k5 (g6.trans k6) (fun V=>?_) (XF hpk' g3 k3) (by simp only [Tr.size];omega) (by simp only [Tr.size];omega) _
    obtain⟨q1,q2⟩:=g7 V
    obtain⟨q3,q4⟩:=k7 V
    exact⟨q3.trans q1,q4.trans q2⟩
end Go.Proofs.YthbdkceckjihgaaGreatDoor


/- dm of this claim: B14. -/
set_option linter.all false
namespace Go.Proofs.YthbdkceckjihgaaGreatDoor
open Go

def Hz{c:aJ}(hc:qK c){s:am}{b:aB}(h:vu c s b)(t:db)(M:lQ t.Nodes=true)(g:Bool):
  (∃(e:Int) (s' :am) (b' :aB),e≠0/\mq s t g=some (⟨[]⟩,0,e,s')/\j5 b t g=some (⟨[]⟩,e,b')/\Fq s s' b b')\/
  (∃(u:Tr) (s' :am) (b' :aB),mq s t g=some (⟨u.flat 0⟩,(gC ⟨u.flat 0⟩ (ov s' g)).1,0,s')/\j5 b t g=some (⟨u.flat 0⟩,0,b')/\u.wf/\u.size<=300/\vu c s' b' /\Fq s s' b b' /\(g=false->s' =s/\b' =b)/\(gC ⟨u.flat 0⟩ (ov s' g)).2=0):=by
 unfold lQ at M
 cases hA:A8 t.Nodes with
 |none=>rw [hA]at M;cases M
 |some a=>
  obtain⟨hw,hN,hs,_⟩:=xT hA
  have hlen:t.Nodes.length=a.size:=by rw [hN,a.flat_len]
  have hp:=a.size_pos
  have key:=QW hc a hw [] [] t.Nodes fc fc s b g (by simpa using hN) (Az (by omega)) (Az (by omega)) (by omega) hs h
  simp only [sG,sE,<-hlen]at key
  have hpl:IntKind.i64.wrap ((t.Nodes.length:Int)-1)=(t.Nodes.length:Int)-1:=dW (by omega) (by omega)
  unfold mq j5 rR sn
  rw [Bo,bI,hpl]
  rcases key with⟨e,x,s',x',b',he,g1,g2,g3⟩|⟨u,s',b',g1,g2,g3,g4,g5,g6,g7,g8⟩
  ·have g1' :cy fc s t ca qg uK ((t.Nodes.length:Int)-1) g=some (x,e,s'):=g1
   have g2' :cC fc b t ((t.Nodes.length:Int)-1) g=some (x',e,b'):=g2
   rw [show(cy fc s t ca qg (fun(mc:am) (mx:Bool)=>(gA mc mx).map fun mr=>(mr,mc)) ((t.Nodes.length:Int)-1) g)=_ from g1',g2',bI,bI,cx (by simpa using he),cx (by simpa using he)]
   exact .inl ⟨e,s',b',he,rfl,rfl,g3⟩
  ·have g1' :cy fc s t ca qg uK ((t.Nodes.length:Int)-1) g=some (⟨u.flat 0⟩,0,s'):=g1
   have g2' :cC fc b t ((t.Nodes.length:Int)-1) g=some (⟨u.flat 0⟩,0,b'):=g2
   rw [show(cy fc s t ca qg (fun(mc:am) (mx:Bool)=>(gA mc mx).map fun mr=>(mr,mc)) ((t.Nodes.length:Int)-1) g)=_ from g1',g2',bI,bI,cm (by simp),cm (by simp)]
   have hov:(gA s' g).map (fun mr=>(mr,s'))=some (ov s' g,s'):=LL s' g
   simp only
   rw [hov,bI,ve _ _ (by show(u.flat 0).length<=50000;rw [u.flat_len];omega),bI]
   exact .inr ⟨u,s',b',by rw [g8],rfl,g3,by omega,g5,g6,g7,g8⟩
def BC{c:aJ}(hc:qK c){s:am}{b:aB}(h:vu c s b)(t:db)(M:lQ t.Nodes=true)(g:Bool):
  (∃(e:Int) (x x' :aZ) (s' :am) (b' :aB),e≠0/\fE s t g=some (x,e,s')/\iK b t g=some (x',e,b')/\Fq s s' b b')\/
  (∃(u:Tr) (s' :am) (b' :aB),fE s t g=some (⟨u.flat 0⟩,0,s')/\iK b t g=some (⟨u.flat 0⟩,0,b')/\u.wf/\u.size<=300/\vu c s' b' /\Fq s s' b b' /\(g=false->s' =s/\b' =b)/\(gC ⟨u.flat 0⟩ (ov s' g)).2=0/\((gC ⟨u.flat 0⟩ (ov s' g)).1=1\/(gC ⟨u.flat 0⟩ (ov s' g)).1=0)):=by
 unfold fE iK m8
 rcases Hz hc h t M g with⟨e,s',b',he,g1,g2,g3⟩|⟨u,s',b',g1,g2,g3,g4,g5,g6,g7,g8⟩
 ·rw [g1,g2,bI,bI,cm (by simp [he]),cx (by simpa using he)]
  exact .inl ⟨e,_,_,s',b',he,rfl,rfl,g3⟩
 ·rw [g1,g2,bI,bI]
  have hd:(jQ b'.c b'.out.Tables).bind (fun r1=>if g=true then(iT b'.c b'.out).bind fun r3=>gq (⟨u.flat 0⟩,0,b') r3 else gq (⟨u.flat 0⟩,0,b') r1)=gq (⟨u.flat 0⟩,0,b') (ov s' g):=by
   rw [g5.refKinds hc,bI]
   unfold ov
   cases g with
   |true=>rw [cx rfl,g5.refGroups hc,bI];rfl
   |false=>rfl
  simp only [bne_self_eq_false,kM,jh]
  rw [hd]
  unfold gq
  rw [qB,bI]
  by_cases hk:(gC ⟨u.flat 0⟩ (ov s' g)).1=1\/(gC ⟨u.flat 0⟩ (ov s' g)).1=0
  ·rw [cm (by simp;omega),cm (by simp;omega)]
   exact .inr ⟨u,s',b',rfl,rfl,g3,g4,g5,g6,g7,g8,hk⟩
  ·rw [cx (by simp;omega),cx (by simp;omega)]
   exact .inl ⟨226,_,_,s',b',by decide,rfl,rfl,g6⟩
def vu.upd{c:aJ}{s:am}{b:aB}(h:vu c s b)(o:bb)(H:o.Tables=b.out.Tables)(J:o.Keys=b.out.Keys)(h3:o.Aggs=b.out.Aggs)(f:aK)(a:Int):vu c {s with out:=o,from_:=f,at_:=a} {b with out:=o}:=by
 refine⟨h.cat,h.bc,rfl,?_,?_,?_,?_,?_,?_,?_,?_,?_,?_,?_⟩
 all_goals simp only
 ·rw [H];exact h.kinds
 ·rw [H];exact h.len
 ·rw [H];exact h.bad
 ·rw [H];exact h.few
 ·rw [H];exact⟨h.maps.called,h.maps.alone,h.maps.behind,h.maps.once⟩
 ·rw [J,h3];exact h.groups
 ·rw [J];exact h.keys
 ·rw [J];exact h.keysLen
 ·rw [h3];exact h.aggsLen
 ·rw [h3];exact h.aggsOnce
 ·rw [h3];exact h.aggsOk
def J5{aw h1:List Int}: ∀t:Tr,t.wf->Hv aw.length t->kd (aw++h1) t=kd aw t
 | .lf n,hw,hc=>by
  unfold kd
  by_cases H:n.Tag=1
  ·rw [cx H,cx H]
  ·have J:n.Tag=2:=by
    rcases pk0 hw.1 with h|h
    ·exact absurd h H
    ·exact h
   have A:=Zn hw.2.1 J
   have hlt:n.Col<(aw.length:Int):=hc J
   rw [cm H,cm H,Cq (by omega)]
 | .un n a,hw,hc=>by
  rw [LZ,LZ,J5 a hw.2 hc]
 | .bi n a b,hw,hc=>by
  rw [I7,I7,J5 a hw.2.1 hc.1,J5 b hw.2.2 hc.2]
def OC{aw h1:List Int}{ns:List aD}(h:n8 aw.length ns=true):n8 (aw++h1).length ns=true:=by
 unfold n8 at h ⊢
 rw [ph]at h ⊢
 intro n hn
 have:=h n hn
 simp only [zh,Bool.and_eq_false_iff,qh,pg]at this ⊢
 rcases this with h|h
 ·exact .inl h
 ·exact .inr (by omega)
def RC{t:Tr}(hw:t.wf)(hs:t.size<=1000){aw L:List Int}(hp:aw<+:L)(hL: ∀k∈L,k4 k)(h0:(gC ⟨t.flat 0⟩ aw).2=0):gC ⟨t.flat 0⟩ L=gC ⟨t.flat 0⟩ aw:=by
 obtain⟨h1,rfl⟩:=hp
 have hK: ∀k∈aw,k4 k:=fun k hk=>hL k (FQ _ hk)
 rw [vU hw hs hK]at h0
 have hc:n8 aw.length (t.flat 0)=true:=by
  cases hc:n8 aw.length (t.flat 0)with
  |true=>rfl
  |false=>rw [hc]at h0;simp at h0
 rw [vU hw hs hK,vU hw hs hL,cx hc,cx (OC hc),J5 t hw (z1 _ t hw 0 hc)]
def JL(e:aZ)(aw:List Int):Prop:=e.Nodes≠[]/\e.Nodes.length<=1000/\(gC e aw).2=0/\((gC e aw).1=1\/(gC e aw).1=0)
def ab1(e:aZ)(aw:List Int):Prop:=e.Nodes=[]\/JL e aw
def JK{u:Tr}(hs:u.size<=300){aw:List Int}(H:(gC ⟨u.flat 0⟩ aw).2=0)(J:(gC ⟨u.flat 0⟩ aw).1=1\/(gC ⟨u.flat 0⟩ aw).1=0):JL ⟨u.flat 0⟩ aw:=by
 have hl:=u.flat_len 0
 refine⟨fun h=>?_,?_,H,J⟩
 ·have h' :u.flat 0=[]:=h
  have:=u.size_pos
  rw [h']at hl;simp at hl;omega
 ·show(u.flat 0).length<=1000;omega
structure WQ(c:aJ)(o:bb):Prop where
 joinsLen:o.Joins.length+1=o.Tables.length
 joins: ∀(i:Nat) (j:la),o.Joins[i]? =some j->JL j.On (iB c (o.Tables.take (i+2)))
 cond:ab1 o.Where (iB c o.Tables)
def WQ.upd{c:aJ}{o p:bb}(h:WQ c o)(H:p.Joins=o.Joins)(J:p.Tables=o.Tables)(h3:p.Where=o.Where):WQ c p:=
 ⟨by rw [H,J];exact h.joinsLen,fun i j hj=>by rw [J];exact h.joins i j (H▸hj),by rw [J,h3];exact h.cond⟩
def WQ.join{c:aJ}{o p:bb}{k:Int}{j:la}(h:WQ c o)(H:p.Joins=o.Joins++[j])(J:p.Tables=o.Tables++[k])(h3:p.Where=⟨[]⟩)(hj:JL j.On (iB c p.Tables)):WQ c p:=by
 have hl:=h.joinsLen
 refine⟨by rw [H,J];simp;omega,fun i y hy=>?_,by rw [h3];exact .inl rfl⟩
 rw [H]at hy
 by_cases hi:i<o.Joins.length
 ·rw [Cq hi]at hy
  have:=h.joins i y hy
  rw [J,za (by omega)]
  exact this
 ·rw [xl (by omega)]at hy
  have hi2:i-o.Joins.length=0:=by
   cases D:i-o.Joins.length with
   |zero=>rfl
   |succ n=>rw [D]at hy;simp at hy
  rw [hi2]at hy
  simp only [IB,A6]at hy
  subst hy
  rw [rF (by rw [J];simp;omega)]
  exact hj
structure From(c:aJ)(s:am)(b:aB):Prop where
 rel:vu c s b
 keys:b.out.Keys=[]
 aggs:b.out.Aggs=[]
 items:b.out.Items=[]
 fro:WQ c b.out
 hav:b.out.Having=⟨[]⟩
def GZ{c:aJ}(hc:qK c)(S:aK): ∀(l:List mZ) (s:am) (b:aB),From c s b->b.sources.length+l.length<=3->b.out.Joins.length+l.length<=1000->l.all Bj=true->b.out.Where=⟨[]⟩->
  (∃(e:Int) (s' :am) (b' :aB),e≠0/\jK l s=some (e,s')/\dv S l b=some (1,e,b')/\s'.at_=s.at_)\/
  (∃(s' :am) (b' :aB),jK l s=some (0,s')/\dv S l b=dv S [] b' /\From c s' b' /\s'.at_=s.at_/\s'.from_=s.from_)
 |[],s,b,h,_,_,_,_=> .inr ⟨s,b,rfl,rfl,h,rfl,rfl⟩
 |j::l,s,b,h,hl,hl2,hj,hwe=>by
  simp only [ji]at hl hl2
  simp only [tI,jM]at hj
  have hj1:lQ j.On.Nodes=true:=by
   have:=hj.1
   unfold Bj at this
   simp only [jM]at this
   exact this.1
  unfold jK
  conv=>enter [1,1,e,1,s',1,b',2,2,1];unfold dv
  conv=>enter [2,1,s',1,b',2,1];lhs;unfold dv
  rcases EJ hc h.rel (by omega) h.keys h.aggs j.Source with⟨e,he,g1,g2⟩|⟨s1,b1,k,g1,g2,g3,g4,g5,g6⟩
  ·rw [g1,g2,bI,bI,cx (by simpa using he),cx (by simpa using he)]
   exact .inl ⟨e,s,b,he,rfl,rfl,rfl⟩
  ·rw [g1,g2,bI,bI,cm (by simp),cm (by simp)]
   rcases BC hc g3 j.On hj1 false with⟨e,x,x',s2,b2,he,k1,k2,k3⟩|⟨u,s2,b2,k1,k2,k3,k4,k5,k6,k7,k8,k9⟩
   ·rw [k1,k2,bI,bI,cx (by simpa using he),cx (by simpa using he)]
    exact .inl ⟨e,s2,b2,he,rfl,rfl,by rw [k3.1];exact g5⟩
   ·obtain⟨rfl,rfl⟩:=k7 rfl
    rw [k1,k2,bI,bI,cm (by simp),cm (by simp)]
    have ho:=g3.out
    have hJ:b2.out.Joins=b.out.Joins:=by rw [g6]
    rw [dF (by rw [ho,hJ];simp;omega),bI,dF (by rw [hJ];simp;omega),bI]
    have hR:From c {s2 with out:={s2.out with Joins:=s2.out.Joins++[(⟨j.Left,⟨u.flat 0⟩⟩:la)]}} {b2 with out:={b2.out with Joins:=b2.out.Joins++[(⟨j.Left,⟨u.flat 0⟩⟩:la)]}}:=by
     rw [ho]
     refine⟨g3.upd {b2.out with Joins:=b2.out.Joins++[(⟨j.Left,⟨u.flat 0⟩⟩:la)]} rfl rfl rfl s2.from_ s2.at_,?_,?_,?_,?_,?_⟩
     ·show b2.out.Keys=[];rw [g6];exact h.keys
     ·show b2.out.Aggs=[];rw [g6];exact h.aggs
     ·show b2.out.Items=[];rw [g6];exact h.items
     ·refine h.fro.join (k:=k) (j:=(⟨j.Left,⟨u.flat 0⟩⟩:la)) ?_ ?_ ?_ ?_
      ·show b2.out.Joins++_=_;rw [hJ]
      ·show b2.out.Tables=_;rw [g6]
      ·show b2.out.Where=_;rw [g6];exact hwe
      ·show JL ⟨u.flat 0⟩ (iB c b2.out.Tables)
       rw [<-g3.kinds]
       exact JK k4 k8 k9
     ·show b2.out.Having=_;rw [g6];exact h.hav
    have hsl:b2.sources.length=b.sources.length+1:=by rw [g6];simp
    rcases GZ hc S l _ _ hR (by show b2.sources.length+l.length<=3;omega) (by show(b2.out.Joins++_).length+l.length<=1000;rw [hJ];simp;omega) hj.2 (by show b2.out.Where=_;rw [g6];exact hwe)with⟨e,s',b',he,q1,q2,q3⟩|⟨s',b',q1,q2,q3,q4,q5⟩
    ·exact .inl ⟨e,s',b',he,q1,q2,by rw [q3];exact g5⟩
    ·exact .inr ⟨s',b',q1,q2,q3,by rw [q4];exact g5,by rw [q5];exact g4⟩
end Go.Proofs.YthbdkceckjihgaaGreatDoor


/- dm of this claim: B15. -/
set_option linter.all false
namespace Go.Proofs.YthbdkceckjihgaaGreatDoor
open Go

def Uu(c:aJ)(at_:Int)(f:aK)(P:am->aB->Prop)(C:Option (Int×am))(hx:Option (Int×Int×aB)):Prop:=
 (∃(e:Int) (s' :am) (b' :aB),e≠0/\C=some (e,s')/\hx=some (at_,e,b')/\s'.at_=at_)\/
 (∃(s' :am) (b' :aB),C=some (0,s')/\hx=some (0,0,b')/\vu c s' b' /\s'.from_=f/\P s' b')
def Nb{c:aJ}(hc:qK c){s:am}{b:aB}(h:From c s b)(S:aK)(hS:s.from_=S)(hw:o4 S.Where=true):
  (∃(e:Int) (s' :am) (b' :aB),e≠0/\g9 s=some (e,s')/\dv S [] b=some (2,e,b')/\s'.at_=2)\/
  (∃(s' :am) (b' :aB),g9 s=some (0,s')/\dv S [] b=iS S.Group b' /\From c s' b' /\s'.from_=S):=by
 have J:From c {s with at_:=2} b:=⟨by
  have:=h.rel.upd b.out rfl rfl rfl s.from_ 2
  rw [<-h.rel.out]at this
  have e:({b with out:=s.out}:aB)=b:=by rw [h.rel.out]
  rw [e]at this
  exact this,h.keys,h.aggs,h.items,h.fro,h.hav⟩
 subst hS
 unfold g9 dv
 dsimp only
 by_cases hl:s.from_.Where.Nodes.length=0
 ·rw [cm (by rw [mV];omega),cm (by rw [mV];omega)]
  exact .inr ⟨_,b,rfl,rfl,J,rfl⟩
 ·have M:lQ s.from_.Where.Nodes=true:=by
   unfold o4 at hw
   simpa [hl] using hw
  rw [cx (by rw [mV];omega),cx (by rw [mV];omega)]
  rcases BC hc J.rel s.from_.Where M false with⟨e,x,x',s2,b2,he,k1,k2,k3⟩|⟨u,s2,b2,k1,k2,k3,k4,k5,k6,k7,k8,k9⟩
  ·rw [show fE ({s with at_:=2}:am) s.from_.Where false=_ from k1,k2,bI,bI,cx (by simpa using he)]
   exact .inl ⟨e,_,b2,he,rfl,rfl,by show s2.at_=2;rw [k3.1]⟩
  ·obtain⟨q1,q2⟩:=k7 rfl
   rw [show fE ({s with at_:=2}:am) s.from_.Where false=_ from k1,k2,bI,bI,cm (by simp)]
   refine .inr ⟨_,{b2 with out:={b2.out with Where:=⟨u.flat 0⟩}},rfl,rfl,⟨?_,?_,?_,?_,?_,?_⟩,?_⟩
   ·have:=k5.upd {b2.out with Where:=⟨u.flat 0⟩} rfl rfl rfl s2.from_ s2.at_
    rw [<-k5.out]at this ⊢
    exact this
   ·show b2.out.Keys=[];rw [q2];exact h.keys
   ·show b2.out.Aggs=[];rw [q2];exact h.aggs
   ·show b2.out.Items=[];rw [q2];exact h.items
   ·refine⟨?_,?_,.inr ?_⟩
    ·show b2.out.Joins.length+1=b2.out.Tables.length;rw [q2];exact h.fro.joinsLen
    ·intro i j hj
     have hj' :b2.out.Joins[i]? =some j:=hj
     show JL j.On (iB c (b2.out.Tables.take (i+2)))
     rw [q2]at hj' ⊢
     exact h.fro.joins i j hj'
    ·show JL ⟨u.flat 0⟩ (iB c b2.out.Tables)
     rw [<-k5.kinds]
     exact JK k4 k8 k9
   ·show b2.out.Having=_;rw [q2];exact h.hav
   ·show s2.from_=s.from_;rw [q1]
def G4{c:aJ}(hc:qK c): ∀(l:List jY) (s:am) (b:aB),vu c s b->b.out.Aggs=[]->b.out.Items=[]->b.out.Keys.length+l.length<=3->s.at_=3->
  Uu c 3 s.from_ (fun _ b' =>b'.out={b.out with Keys:=b'.out.Keys}/\b'.out.Keys.length=b.out.Keys.length+l.length/\b'.out.Aggs=[]/\b'.out.Items=[]) (lp l s) (iS l b)
 |[],s,b,h,ha,hi,_,hat=> .inr ⟨s,b,rfl,rfl,h,rfl,rfl,rfl,ha,hi⟩
 |n::l,s,b,h,ha,hi,hk,hat=>by
  simp only [ji]at hk
  obtain⟨c1,c2⟩:=h.column hc n
  unfold lp iS
  rw [c1,c2,bI,bI]
  by_cases he:(zc (eV c b.sources b.out.Tables) n.Table n.Name).2=0
  ·obtain⟨k0,k1⟩:=h.colIn n.Table n.Name he
   generalize hcol:(zc (eV c b.sources b.out.Tables) n.Table n.Name).1=k at k0 k1
   rw [cm (by simp [he]),cm (by simp [he]),h.out,dF (by simp;omega),bI,bI]
   have hlt:k.toNat<s.kinds.length:=by omega
   have D:fz s.kinds k=some ((s.kinds[k.toNat]?).getD 0):=by
    unfold fz
    rw [cx k0,lr hlt];rfl
   have hgl:=h.groupsLen
   rw [ha,sG]at hgl
   rw [D,bI,dF (by simp;omega),bI]
   have hR:vu c {s with out:={b.out with Keys:=b.out.Keys++[k]},groups:=s.groups++[(s.kinds[k.toNat]?).getD 0]} {b with out:={b.out with Keys:=b.out.Keys++[k]}}:=by
    refine⟨h.cat,h.bc,rfl,h.kinds,h.len,h.bad,h.few,⟨h.maps.called,h.maps.alone,h.maps.behind,h.maps.once⟩,?_,?_,?_,h.aggsLen,h.aggsOnce,h.aggsOk⟩
    ·simp only
     rw [h.groups,ha]
     simp [yh,LX]
    ·intro j hj
     rcases Bv.1 hj with hj|hj
     ·exact h.keys j hj
     ·rw [Bx.1 hj];exact⟨k0,k1⟩
    ·simp only [pg,y8];omega
   rcases G4 hc l _ _ hR ha hi (by simp only [pg,y8];omega) hat with H|⟨s',b',g1,g2,g3,g4,g5,g6,g7,g8⟩
   ·exact .inl H
   ·refine .inr ⟨s',b',g1,g2,g3,g4,g5,?_,g7,g8⟩
    rw [g6];simp;omega
  ·rw [cx (by simpa using he),cx (by simpa using he)]
   exact .inl ⟨_,s,b,he,rfl,rfl,hat⟩
structure MR(c:aJ)(s:am)(b:aB)(n:Nat)(gr:Bool):Prop where
 rel:vu c s b
 len:b.out.Items.length=n
 good: ∀x∈b.out.Items,∃u:Tr,x=⟨u.flat 0⟩/\u.wf/\u.size<=300/\(gC x (ov s gr)).2=0
 grouped:b.out.Grouped=gr
 fro:WQ c b.out
 plain:gr=false->b.out.Keys=[]/\b.out.Aggs=[]
def MR.each{c:aJ}{s:am}{b:aB}{n:Nat}{gr:Bool}(h:MR c s b n gr): ∀x∈b.out.Items,x.Nodes.length<=1000:=fun x D=>by
 obtain⟨u,rfl,_,hs,_⟩:=h.good x D
 show(u.flat 0).length<=1000
 rw [u.flat_len];omega
def SU{s s' :am}{b b' :aB}(h:Fq s s' b b')(g:Bool):ov s g<+:ov s' g:=by
 unfold ov
 cases g with
 |true=>exact h.2.2
 |false=>
  show s.kinds<+:s'.kinds
  rw [h.1]
  exact List.prefix_refl _
def Mf{c:aJ}(hc:qK c){s s' :am}{b' :aB}(h:vu c s' b'){gr:Bool}(hp:ov s gr<+:ov s' gr){l:List aZ}(V: ∀x∈l,∃u:Tr,x=⟨u.flat 0⟩/\u.wf/\u.size<=300/\(gC x (ov s gr)).2=0): ∀x∈l,∃u:Tr,x=⟨u.flat 0⟩/\u.wf/\u.size<=300/\(gC x (ov s' gr)).2=0:=fun x D=>by
 obtain⟨u,rfl,H,J,h3⟩:=V x D
 exact⟨u,rfl,H,J,by rw [RC H (by omega) hp (h.ov4 hc gr) h3];exact h3⟩
def Ma{c:aJ}(hc:qK c){s:am}{b:aB}{n:Nat}{gr:Bool}(h:MR c s b n gr)(S:aK)(hS:s.from_=S)(hw:o4 S.Having=true)(hh:b.out.Having=⟨[]⟩)(V:gr=false->S.Having.Nodes.length=0):
  Uu c 5 S (fun s' b' =>MR c s' b' n gr/\s'.kinds=s.kinds/\(b'.out.Having.Nodes=[]\/(gr=true/\JL b'.out.Having (ov s' gr)))) (iu s) (dy S [] b):=by
 have J:vu c {s with at_:=5} b:=by
  have:=h.rel.upd b.out rfl rfl rfl s.from_ 5
  rw [<-h.rel.out]at this
  have e:({b with out:=s.out}:aB)=b:=by rw [h.rel.out]
  rw [e]at this
  exact this
 subst hS
 unfold iu dy
 dsimp only
 by_cases hl:s.from_.Having.Nodes.length=0
 ·rw [cm (by rw [mV];omega),cm (by rw [mV];omega)]
  exact .inr ⟨_,b,rfl,rfl,J,rfl,⟨J,h.len,h.good,h.grouped,h.fro,h.plain⟩,rfl,.inl (by rw [hh])⟩
 ·have hgr:gr=true:=by
   cases D:gr with
   |true=>rfl
   |false=>exact absurd (V D) hl
  subst hgr
  have M:lQ s.from_.Having.Nodes=true:=by
   unfold o4 at hw
   simpa [hl] using hw
  rw [cx (by rw [mV];omega),cx (by rw [mV];omega)]
  rcases BC hc J s.from_.Having M true with⟨e,x,x',s2,b2,he,k1,k2,k3⟩|⟨u,s2,b2,k1,k2,k3,k4,k5,k6,k7,k8,k9⟩
  ·rw [show fE ({s with at_:=5}:am) s.from_.Having true=_ from k1,k2,bI,bI,cx (by simpa using he)]
   exact .inl ⟨e,_,b2,he,rfl,rfl,by show s2.at_=5;rw [k3.1]⟩
  ·rw [show fE ({s with at_:=5}:am) s.from_.Having true=_ from k1,k2,bI,bI,cm (by simp)]
   have hR:vu c {s2 with out:={s2.out with Having:=⟨u.flat 0⟩}} {b2 with out:={b2.out with Having:=⟨u.flat 0⟩}}:=by
    have:=k5.upd {b2.out with Having:=⟨u.flat 0⟩} rfl rfl rfl s2.from_ s2.at_
    rw [<-k5.out]at this ⊢
    exact this
   refine .inr ⟨_,{b2 with out:={b2.out with Having:=⟨u.flat 0⟩}},rfl,rfl,hR,?_,⟨hR,?_,?_,?_,?_,fun e=>by cases e⟩,?_,.inr ⟨rfl,JK k4 k8 k9⟩⟩
   ·show s2.from_=s.from_;rw [k6.1]
   ·show b2.out.Items.length=n;rw [k6.2.1];exact h.len
   ·show∀x∈b2.out.Items,_
    have e:b2.out.Items=b.out.Items:=by rw [k6.2.1]
    rw [e]
    exact Mf hc k5 (gr:=true) (SU k6 true) h.good
   ·show b2.out.Grouped=true;rw [k6.2.1];exact h.grouped
   ·refine h.fro.upd ?_ ?_ ?_
    ·show b2.out.Joins=_;rw [k6.2.1]
    ·show b2.out.Tables=_;rw [k6.2.1]
    ·show b2.out.Where=_;rw [k6.2.1]
   ·show s2.kinds=s.kinds;rw [k6.1]
def G0{c:aJ}(hc:qK c)(S:aK): ∀(l:List fK) (s:am) (b:aB) (n:Nat) (gr:Bool),MR c s b n gr->n+l.length<=1000->l.all wE=true->s.at_=4->
  (∃(e:Int) (s' :am) (b' :aB),e≠0/\jL l s=some (e,s')/\dy S l b=some (4,e,b')/\s'.at_=4)\/
  (∃(s' :am) (b' :aB),jL l s=some (0,s')/\dy S l b=dy S [] b' /\MR c s' b' (n+l.length) gr/\s'.from_=s.from_/\s'.kinds=s.kinds/\b'.out.Having=b.out.Having)
 |[],s,b,n,gr,h,_,_,_=> .inr ⟨s,b,rfl,rfl,h,rfl,rfl,rfl⟩
 |x::l,s,b,n,gr,h,hl,D,hat=>by
  simp only [ji]at hl
  simp only [tI,jM]at D
  have hx1:lQ x.Tree.Nodes=true:=by
   have:=D.1
   unfold wE at this
   simp only [jM]at this
   exact this.1
  unfold jL
  conv=>enter [1,1,e,1,s',1,b',2,2,1];unfold dy
  conv=>enter [2,1,s',1,b',2,1];lhs;unfold dy
  rw [h.rel.out,h.grouped]
  rcases Hz hc h.rel x.Tree hx1 gr with⟨e,s2,b2,he,k1,k2,k3⟩|⟨u,s2,b2,k1,k2,k3,k4,k5,k6,k7,k8⟩
  ·rw [k1,k2,bI,bI,cx (by simpa using he),cx (by simpa using he)]
   exact .inl ⟨e,s2,b2,he,rfl,rfl,by rw [k3.1];exact hat⟩
  ·rw [k1,k2,bI,bI,cm (by simp),cm (by simp)]
   have hI:b2.out.Items=b.out.Items:=by rw [k6.2.1]
   have hil:=h.len
   simp only
   rw [k5.out,dF (by rw [hI];simp;omega),bI,bI]
   have hR:MR c {s2 with out:={b2.out with Items:=b2.out.Items++[(⟨u.flat 0⟩:aZ)]}} {b2 with out:={b2.out with Items:=b2.out.Items++[(⟨u.flat 0⟩:aZ)]}} (n+1) gr:=by
    refine⟨k5.upd {b2.out with Items:=b2.out.Items++[(⟨u.flat 0⟩:aZ)]} rfl rfl rfl s2.from_ s2.at_,?_,?_,?_,?_,?_⟩
    ·show(b2.out.Items++_).length=n+1
     rw [hI];simp;omega
    ·intro y hy
     rcases Bv.1 hy with hy|hy
     ·exact Mf hc k5 (gr:=gr) (SU k6 gr) h.good y (hI▸hy)
     ·rw [Bx.1 hy]
      exact⟨u,rfl,k3,k4,k8⟩
    ·show b2.out.Grouped=gr;rw [k6.2.1];exact h.grouped
    ·refine h.fro.upd ?_ ?_ ?_
     ·show b2.out.Joins=_;rw [k6.2.1]
     ·show b2.out.Tables=_;rw [k6.2.1]
     ·show b2.out.Where=_;rw [k6.2.1]
    ·intro e
     show b2.out.Keys=[]/\b2.out.Aggs=[]
     rw [(k7 e).2]
     exact h.plain e
   rcases G0 hc S l _ _ (n+1) gr hR (by omega) D.2 (by show s2.at_=4;rw [k6.1];exact hat)with⟨e,s',b',he,q1,q2,q3⟩|⟨s',b',q1,q2,q3,q4,q5,q6⟩
   ·exact .inl ⟨e,s',b',he,q1,q2,q3⟩
   ·refine .inr ⟨s',b',q1,q2,?_,by rw [q4];show s2.from_=s.from_;rw [k6.1],by rw [q5];show s2.kinds=s.kinds;rw [k6.1],by rw [q6];show b2.out.Having=b.out.Having;rw [k6.2.1]⟩
    have e:n+(x::l).length=n+1+l.length:=by simp only [ji];omega
    rw [e];exact q3
end Go.Proofs.YthbdkceckjihgaaGreatDoor


/- dm of this claim: B16. -/
set_option linter.all false
set_option linter.unusedVariables false
namespace Go.Proofs.YthbdkceckjihgaaGreatDoor
open Go

def IH{c:aJ}(hc:qK c)(S:aK): ∀(l:List Int) (i:Nat) (s:am) (b:aB) (n:Nat),MR c s b n false->i+l.length<=12->n+l.length<=1000->i+l.length<=s.kinds.length->
  ∃(s' :am) (b' :aB),ln l i s=io s' /\jW S l i b=gu S b' /\MR c s' b' (n+l.length) false/\s'.from_=s.from_/\s'.at_=s.at_/\s'.kinds=s.kinds/\b'.out.Having=b.out.Having
 |[],i,s,b,n,h,_,_,_=>⟨s,b,rfl,rfl,h,rfl,rfl,rfl,rfl⟩
 |x::l,i,s,b,n,h,hi,hn,hk=>by
  simp only [ji]at hi hn hk
  unfold ln
  conv=>enter [1,s',1,b',2,1];lhs;unfold jW
  have hil:=h.len
  have hl:=Ax (yA (i:Int)) (v8 (k:=(i:Int)) (by omega) (by omega))
  rw [show(⟨2,0,0,(i:Int),⟨0,0,0,[]⟩⟩:aD)=zd (i:Int)from rfl,hl,xC,bI,bI,cm (by simp)]
  simp only
  rw [h.rel.out,dF (by simp;omega),bI,bI]
  have hR:MR c {s with out:={b.out with Items:=b.out.Items++[(⟨(PH (zd (i:Int))).flat 0⟩:aZ)]}} {b with out:={b.out with Items:=b.out.Items++[(⟨(PH (zd (i:Int))).flat 0⟩:aZ)]}} (n+1) false:=by
   refine⟨h.rel.upd {b.out with Items:=b.out.Items++[(⟨(PH (zd (i:Int))).flat 0⟩:aZ)]} rfl rfl rfl s.from_ s.at_,?_,?_,h.grouped,h.fro.upd rfl rfl rfl,h.plain⟩
   ·simp only [pg,y8];omega
   ·intro y hy
    rcases Bv.1 hy with hy|hy
    ·exact h.good y hy
    ·rw [Bx.1 hy]
     exact⟨PH (zd (i:Int)),rfl,BT (yA (i:Int)) (v8 (by omega) (by omega)),by show 1<=300;omega,GX (h.rel.ov4 hc false) (by omega) (by show(i:Int)<(s.kinds.length:Int);omega) (by omega)⟩
  obtain⟨s',b',q1,q2,q3,q4,q5,q6,q7⟩:=IH hc S l (i+1) _ _ (n+1) hR (by omega) (by omega) (by show i+1+l.length<=s.kinds.length;omega)
  refine⟨s',b',q1,q2,?_,q4,q5,q6,q7⟩
  have e:n+(x::l).length=n+1+l.length:=by simp only [ji];omega
  rw [e];exact q3
def Il{c:aJ}(hc:qK c){s:am}{b:aB}(h:vu c s b)(hi:b.out.Items=[])(S:aK)(hS:s.from_=S)(D:S.Items.all wE=true)(hl:S.Items.length<=6)(hfro:WQ c b.out)(hp:oy S=false->b.out.Keys=[]/\b.out.Aggs=[])(hh:b.out.Having=⟨[]⟩):
  (∃(e:Int) (s' :am) (b' :aB),e≠0/\hM s=some (e,s')/\j4 b S=some (4,e,b')/\s'.at_=4)\/
  (∃(s' :am) (b' :aB),hM s=some (0,s')/\j4 b S=dy S [] b' /\MR c s' b' ((if S.Star then s.kinds.length else 0)+S.Items.length) (oy S)/\s'.from_=S/\s'.kinds=s.kinds/\b'.out.Having=⟨[]⟩):=by
 subst hS
 unfold hM j4
 dsimp only
 rw [OV,GB,bI,bI,bI]
 dsimp only
 rw [h.out,h.refKinds hc]
 generalize oy s.from_=r at hp ⊢
 obtain⟨s1,hs1⟩: ∃s1:am,s1={s with at_:=4,out:={b.out with Distinct:=s.from_.Distinct,Grouped:=r}}:=⟨_,rfl⟩
 obtain⟨b1,hb1⟩: ∃b1:aB,b1={b with out:={b.out with Distinct:=s.from_.Distinct,Grouped:=r}}:=⟨_,rfl⟩
 have hI:MR c s1 b1 0 r:=by
  rw [hs1,hb1]
  refine⟨h.upd {b.out with Distinct:=s.from_.Distinct,Grouped:=r} rfl rfl rfl s.from_ 4,?_,?_,rfl,hfro.upd rfl rfl rfl,hp⟩
  ·simp [hi]
  ·intro x D;simp only [hi]at D;cases D
 have hf:s1.from_=s.from_:=by rw [hs1]
 have hkl:=hI.rel.kindsLen hc
 have hk1:s1.kinds=s.kinds:=by rw [hs1]
 -- what both do at the end
 have key: ∀(s2:am) (b2:aB) (n:Nat),MR c s2 b2 n r->n<=12->s2.from_=s.from_->s2.at_=4->s2.kinds=s.kinds->b2.out.Having=⟨[]⟩->n=(if s.from_.Star then s.kinds.length else 0)->
   (∃(e:Int) (s' :am) (b' :aB),e≠0/\io s2=some (e,s')/\gu s.from_ b2=some (4,e,b')/\s'.at_=4)\/
   (∃(s' :am) (b' :aB),io s2=some (0,s')/\gu s.from_ b2=dy s.from_ [] b' /\MR c s' b' ((if s.from_.Star then s.kinds.length else 0)+s.from_.Items.length) r/\s'.from_=s.from_/\s'.kinds=s.kinds/\b'.out.Having=⟨[]⟩):=by
  intro s2 b2 n J hn hf2 hat hk2 hh2 hn2
  unfold io gu
  rw [hf2]
  rcases G0 hc s.from_ s.from_.Items s2 b2 n r J (by omega) D hat with h3|⟨s',b',q1,q2,q3,q4,q5,q6⟩
  ·exact .inl h3
  ·exact .inr ⟨s',b',q1,q2,by rw [<-hn2];exact q3,by rw [q4,hf2],by rw [q5,hk2],by rw [q6,hh2]⟩
 cases hst:s.from_.Star with
 |false=>
  simp only [Bool.false_and,kM,jh]
  have:=key s1 b1 0 hI (by omega) hf (by rw [hs1]) hk1 (by rw [hb1];exact hh) (by rw [hst];rfl)
  rw [hs1,hb1]at this
  simp only [hst,kM,jh]at this
  exact this
 |true=>
  simp only [wY,jb]
  cases hr:r with
  |true=>
   simp only [jb]
   exact .inl ⟨227,_,_,by decide,rfl,rfl,rfl⟩
  |false=>
   subst hr
   simp only [kM,jh,bI]
   obtain⟨s2,b2,q1,q2,q3,q4,q5,q6,q7⟩:=IH hc s.from_ s.kinds 0 s1 b1 0 hI (by rw [<-hk1];omega) (by rw [<-hk1];omega) (by rw [<-hk1];omega)
   rw [hs1]at q1
   rw [hb1]at q2
   have:=key s2 b2 _ q3 (by rw [<-hk1];omega) (by rw [q4,hf]) (by rw [q5,hs1]) (by rw [q6,hk1]) (by rw [q7,hb1];exact hh) (by rw [hst];simp)
   rw [<-q1,<-q2]at this
   simp only [hst,jb]at this
   exact this
def Xj:List (am->Unit->Option (Int×am)):=[(fun(mc:am) (mx:Unit)=>iW mc),(fun(mc:am) (mx:Unit)=>gh mc),(fun(mc:am) (mx:Unit)=>g9 mc),(fun(mc:am) (mx:Unit)=>gi mc),(fun(mc:am) (mx:Unit)=>hM mc),(fun(mc:am) (mx:Unit)=>iu mc)]
def oA{k i:Nat}{e:Int}{s:am}{f:am->Unit->Option (Int×am)}(hf:fz Xj (i:Int)=some f){r:Int×am}(hr:f s ()=some r):jy (k+1) i e s=if(r.1 !=(0:Int))then some (r.1,r.2)else jy k (i+1) r.1 r.2:=by
 have h0:jy (k+1) i e s=(fz Xj (i:Int)).bind fun fn=>(fn s ()).bind fun r=>if(r.1 !=(0:Int))then pb r.1 r.2 else jy k (i+1) r.1 r.2:=rfl
 rw [h0,hf,bI,hr,bI]
 rfl
def Yb:bb:=⟨[],[],⟨[]⟩,⟨[]⟩,false,false,[],[],[]⟩
def U2(c:aJ)(S:aK):am:=⟨c,S,Yb,[],[],[],[],[],0⟩
def bi0(c:aJ):aB:=⟨c,[],Yb⟩
def ab3(c:aJ)(S:aK):vu c (U2 c S) (bi0 c):=by
 refine⟨rfl,rfl,rfl,rfl,rfl,?_,?_,⟨?_,?_,?_,?_⟩,rfl,?_,?_,?_,?_,?_⟩
 ·intro t M;cases M
 ·show 0<=3;omega
 ·intro n;rfl
 ·intro n;rfl
 ·intro t n;rfl
 ·exact List.nodup_nil
 ·intro k hk;cases hk
 ·show 0<=3;omega
 ·show 0<=12;omega
 ·exact List.nodup_nil
 ·intro a ha;cases ha
def Ww{β:Type}(S:aK)(b:aB)(aw:Int->Int->aB->Option β):Option β:=(oY b S).bind fun r3=>if(r3.2.1==(0:Int))then((j4 r3.2.2 S).bind fun r7=>aw r7.1 r7.2.1 r7.2.2)else(aw r3.1 r3.2.1 r3.2.2)
def Lu{c:aJ}(hc:qK c)(S:aK)(hS:zA S=true){β:Type}(aw:Int->Int->aB->Option β):
  (∃(e:Int) (s' :am) (b' :aB),e≠0/\ny (U2 c S)=some (e,s')/\Ww S (bi0 c) aw=aw s'.at_ e b')\/
  (∃(s' :am) (b' :aB),ny (U2 c S)=some (0,s')/\Ww S (bi0 c) aw=aw 0 0 b' /\MR c s' b' ((if S.Star then(iB c b'.out.Tables).length else 0)+S.Items.length) (oy S)/\s'.from_=S/\(b'.out.Having.Nodes=[]\/(oy S=true/\JL b'.out.Having (ov s' (oy S))))):=by
 unfold zA Nx at hS
 simp only [jM,mV]at hS
 obtain⟨⟨_,hI,hJ,hG⟩,hF,hi,hj,V,hw,hh⟩:=hS
 have h0:=ab3 c S
 unfold ny Ww oY
 rcases EJ hc h0 (by show 0<=2;omega) rfl rfl S.From with⟨e,he,g1,g2⟩|⟨s1,b1,k,g1,g2,g3,g4,g5,g6⟩
 ·rw [oA (f:=fun(mc:am) (mx:Unit)=>iW mc) rfl (r:=(e,U2 c S)) (by
   have e0:iW (U2 c S)=(ir (U2 c S) S.From).bind fun r=>some (r.1,r.2):=rfl
   rw [e0,g1];rfl),cx (by simpa using he),g2,bI,cx (by simpa using he),bI,cm (by simpa using he)]
  exact .inl ⟨e,_,_,he,rfl,rfl⟩
 ·rw [oA (f:=fun(mc:am) (mx:Unit)=>iW mc) rfl (r:=(0,s1)) (by
   have e0:iW (U2 c S)=(ir (U2 c S) S.From).bind fun r=>some (r.1,r.2):=rfl
   rw [e0,g1];rfl),cm (by simp),g2,bI,cm (by simp)]
  have hF1:From c {s1 with at_:=1} b1:=by
   have hu:=g3.upd b1.out rfl rfl rfl s1.from_ 1
   rw [<-g3.out]at hu
   have e:({b1 with out:=s1.out}:aB)=b1:=by rw [g3.out]
   rw [e]at hu
   exact⟨hu,by rw [g6];rfl,by rw [g6];rfl,by rw [g6];rfl,⟨by rw [g6];rfl,fun i j hj=>(by rw [g6]at hj;simp [bi0,Yb]at hj),by rw [g6];exact .inl rfl⟩,by rw [g6];rfl⟩
  have hs1:b1.sources.length=1:=by rw [g6];rfl
  have hj1:b1.out.Joins=[]:=by rw [g6];rfl
  have hf1:s1.from_=S:=g4
  rcases GZ hc S S.Joins _ b1 hF1 (by omega) (by rw [hj1];simp;omega) hj (by rw [g6];rfl)with⟨e,s2,b2,he,k1,k2,k3⟩|⟨s2,b2,k1,k2,k3,k4,k5⟩
  ·rw [oA (f:=fun(mc:am) (mx:Unit)=>gh mc) rfl (r:=(e,s2)) (by
    show gh s1=_
    unfold gh
    dsimp only
    rw [hf1]
    rw [hf1]at k1
    exact k1),cx (by simpa using he),show dv S S.Joins b1=_ from k2,bI,cm (by simpa using he)]
   refine .inl ⟨e,s2,b2,he,rfl,?_⟩
   rw [k3]
  ·rw [oA (f:=fun(mc:am) (mx:Unit)=>gh mc) rfl (r:=(0,s2)) (by
    show gh s1=_
    unfold gh
    dsimp only
    rw [hf1]
    rw [hf1]at k1
    exact k1),cm (by simp),show dv S S.Joins b1=_ from k2]
   have hf2:s2.from_=S:=by rw [k5];exact hf1
   rcases Nb hc k3 S hf2 hw with⟨e,s3,b3,he,q1,q2,q3⟩|⟨s3,b3,q1,q2,q3,q4⟩
   ·rw [oA (f:=fun(mc:am) (mx:Unit)=>g9 mc) rfl (r:=(e,s3)) q1,cx (by simpa using he),q2,bI,cm (by simpa using he)]
    refine .inl ⟨e,s3,b3,he,rfl,?_⟩
    rw [q3]
   ·rw [oA (f:=fun(mc:am) (mx:Unit)=>g9 mc) rfl (r:=(0,s3)) q1,cm (by simp),q2]
    have hu:=q3.rel.upd b3.out rfl rfl rfl s3.from_ 3
    rw [<-q3.rel.out]at hu
    have e3:({b3 with out:=s3.out}:aB)=b3:=by rw [q3.rel.out]
    rw [e3]at hu
    have hgb:=G4 hc S.Group {s3 with at_:=3} b3 hu q3.aggs q3.items (by rw [q3.keys];simp;omega) rfl
    rcases hgb with⟨e,s4,b4,he,w1,w2,w3⟩|⟨s4,b4,w1,w2,w3,w4,w7,w8,w5,w6⟩
    ·rw [oA (f:=fun(mc:am) (mx:Unit)=>gi mc) rfl (r:=(e,s4)) (by
      show gi s3=_
      unfold gi
      dsimp only
      rw [q4]
      rw [q4]at w1
      exact w1),cx (by simpa using he),w2,bI,cm (by simpa using he)]
     refine .inl ⟨e,s4,b4,he,rfl,?_⟩
     rw [w3]
    ·rw [oA (f:=fun(mc:am) (mx:Unit)=>gi mc) rfl (r:=(0,s4)) (by
      show gi s3=_
      unfold gi
      dsimp only
      rw [q4]
      rw [q4]at w1
      exact w1),cm (by simp),w2,bI,cx (by rfl)]
     have hf4:s4.from_=S:=by rw [w4];exact q4
     simp only
     have hgl:oy S=false->S.Group.length=0/\S.Having.Nodes.length=0:=fun e=>by
      unfold oy at e
      simp only [JA,qh]at e
      omega
     rcases Il hc w3 w6 S hf4 hi hI (q3.fro.upd (by rw [w7]) (by rw [w7]) (by rw [w7])) (fun e=>⟨y9 (by rw [w8,q3.keys,(hgl e).1];rfl),w5⟩) (by rw [w7];exact q3.hav)with⟨e,s5,b5,he,v1,v2,v3⟩|⟨s5,b5,v1,v2,v3,v4,v5,v6⟩
     ·rw [oA (f:=fun(mc:am) (mx:Unit)=>hM mc) rfl (r:=(e,s5)) v1,cx (by simpa using he),v2,bI]
      refine .inl ⟨e,s5,b5,he,rfl,?_⟩
      rw [v3]
     ·rw [oA (f:=fun(mc:am) (mx:Unit)=>hM mc) rfl (r:=(0,s5)) v1,cm (by simp),v2]
      rcases Ma hc v3 S v4 hh v6 (fun e=>(hgl e).2)with⟨e,s6,b6,he,y1,y2,y3⟩|⟨s6,b6,y1,y2,y3,y4,y5,y6,y7⟩
      ·rw [oA (f:=fun(mc:am) (mx:Unit)=>iu mc) rfl (r:=(e,s6)) y1,cx (by simpa using he),y2,bI]
       refine .inl ⟨e,s6,b6,he,rfl,?_⟩
       rw [y3]
      ·rw [oA (f:=fun(mc:am) (mx:Unit)=>iu mc) rfl (r:=(0,s6)) y1,cm (by simp),y2,bI]
       refine .inr ⟨s6,b6,rfl,rfl,?_,y4,y7⟩
       rw [<-y3.kinds,y6,v5]
       exact y5
end Go.Proofs.YthbdkceckjihgaaGreatDoor


/- dm of this claim: B17. -/
set_option linter.all false
set_option linter.unusedVariables false
namespace Go.Proofs.YthbdkceckjihgaaGreatDoor
open Go

def Hw: ∀(t p:List cb),Hx p t=true->(t.map fun x=>x.Name).Nodup/\ ∀x∈t,∀y∈p,y.Name≠x.Name
 |[],p,_=>⟨List.nodup_nil,fun x D=>by cases D⟩
 |x::t,p,h=>by
  have h0:Hx p (x::t)=((js x.Name&&wD x.Kind&& !Fe p x)&&Hx (p++[x]) t):=rfl
  rw [h0]at h
  simp only [jM,zh]at h
  obtain⟨⟨_,J⟩,h3⟩:=h
  obtain⟨g1,g2⟩:=Hw t (p++[x]) h3
  refine⟨?_,?_⟩
  ·rw [uM,List.nodup_cons]
   refine⟨fun hm=>?_,g1⟩
   obtain⟨y,hy,he⟩:=Br.1 hm
   exact g2 y hy x (O0 _ (O8 _)) he.symm
  ·intro z hz y hy
   rcases gn.1 hz with rfl|hz
   ·intro he
    have:Fe p z=true:=by
     unfold Fe
     rw [EZ]
     exact⟨y,hy,by simpa using he⟩
    rw [this]at J;cases J
   ·exact g2 z hz y (FQ _ hy)
def Zs{c:aJ}(h:OH c=true):qK c:=by
 unfold OH at h
 simp only [jM,mV]at h
 obtain⟨hl,M⟩:=h
 rw [JP,jM]at M
 have hall: ∀t∈c.Tables,xW t=true:=fun t h=>by
  have:=M.1
  rw [ph]at this
  exact this t h
 have h4: ∀t∈c.Tables,t.Columns.length<=4/\Hx [] t.Columns=true:=fun t h=>by
  have:=hall t h
  unfold xW at this
  simp only [jM,mV]at this
  exact⟨this.1.2,this.2.1⟩
 refine⟨⟨fun t h=>?_,by omega,fun t h=>(Hw _ _ (h4 t h).2).1⟩,fun t h=>(h4 t h).1,fun t h x D=>?_⟩
 ·have:=(h4 t h).1;omega
 ·have:=(h4 t h).2
  rw [Kz,jM,ph]at this
  exact this.2 x D
def RB{N:List dj}(h:lQ N=true): ∃m,fz N (IntKind.i64.wrap ((N.length:Int)-1))=some m/\uG m=true:=by
 unfold lQ at h
 cases hA:A8 N with
 |none=>rw [hA]at h;cases h
 |some a=>
  obtain⟨hw,hN,hs,_⟩:=xT hA
  have hlen:N.length=a.size:=by rw [hN,a.flat_len]
  have hp:=a.size_pos
  have key: ∃(P:List dj) (m:dj),N=P++[m]/\uG m=true:=by
   cases a with
   |lf n=>exact⟨[],_,hN,by rw [Hy];exact hw.2.1⟩
   |un n a=>exact⟨_,_,hN,by rw [Hy];exact hw.1.2.1⟩
   |bi n a b=>exact⟨_,_,hN,by rw [Hy];exact hw.1.2.1⟩
  obtain⟨P,m,hP,hm⟩:=key
  refine⟨m,?_,hm⟩
  have hlP:N.length=P.length+1:=by rw [hP];simp
  rw [dW (by omega) (by omega),hlP,show(((P.length+1:Nat):Int)-1)=(P.length:Int) by omega,hP]
  exact nW P m []
def R0{m:dj}(h:uG m=true)(J:m.Tag≠2):m.Name=[]:=by
 unfold uG at h
 rw [cm J]at h
 split at h
 ·simp only [jM,wk]at h;exact h.1.2
 ·simp only [jM,wk]at h;exact h.2.2
def GQ: ∀(l:List fK) (out:List cX),l.all wE=true->out.length+l.length<=1000-> ∃R,gm l out=some R/\kq l out=some R/\R.length=out.length+l.length
 |[],out,_,_=>⟨out,rfl,rfl,by simp⟩
 |x::l,out,h,hl=>by
  simp only [tI,jM]at h
  simp only [ji]at hl
  have D:lQ x.Tree.Nodes=true:=by
   have:=h.1
   unfold wE at this
   simp only [jM]at this
   exact this.1
  obtain⟨m,g1,g2⟩:=RB D
  have ih:=fun out=>GQ l out h.2
  unfold gm kq
  rw [g1,bI,bI]
  unfold m9 rP
  have step: ∀s:cX,∃R,((oT out [s]).bind fun out2=>gm l out2)=some R/\((oT out [s]).bind fun out2=>kq l out2)=some R/\R.length=out.length+(x::l).length:=fun s=>by
   rw [dF (by simp;omega),bI,bI]
   obtain⟨R,q1,q2,q3⟩:=ih (out++[s]) (by simp;omega)
   exact⟨R,q1,q2,by simp at q3 ⊢;omega⟩
  by_cases ha:x.As=[]
  ·rw [cx (by simpa using ha)]
   by_cases M:m.Tag=2
   ·rw [cx (by rw [ha,M];rfl)]
    exact step m.Name
   ·rw [cm (by simp [M]),ha,R0 g2 M]
    exact step []
  ·rw [cm (by simpa using ha),cm (by simp [ha])]
   exact step x.As
def GP(nx:List cX->Option (List cX)): ∀(l:List cb) (out:List cX),out.length+l.length<=100000->jJ nx l out=nx (out++l.map fun x=>x.Name)/\ne nx l out=nx (out++l.map fun x=>x.Name)
 |[],out,_=>⟨by unfold jJ;simp,by unfold ne;simp⟩
 |x::l,out,h=>by
  simp only [ji]at h
  obtain⟨q1,q2⟩:=GP nx l (out++[x.Name]) (by simp;omega)
  unfold jJ ne
  rw [dF (by simp;omega),bI,bI,q1,q2]
  simp
def LR{c:aJ}(hc:qK c)(s:am)(S:aK)(hS:s.from_=S)(hcat:s.Catalog=c)(D:S.Items.all wE=true)(hl:S.Items.length<=6): ∀(l:List Int) (out:List cX),(∀t∈l,HD c t=false)->out.length+l.length*4<=900-> ∃R,im s l out=some R/\lT c S l out=some R/\R.length=out.length+(iB c l).length+S.Items.length
 |[],out,_,ho=>by
  unfold im lT lm pn
  rw [hS]
  obtain⟨R,q1,q2,q3⟩:=GQ S.Items out D (by simp at ho;omega)
  exact⟨R,q1,q2,by simp [iB];omega⟩
 |t::l,out,A,ho=>by
  simp only [ji]at ho
  obtain⟨x,g1,g2,g3⟩:=FA (A t (oh ..))
  have h4:=hc.cols4 x g3
  obtain⟨R,q1,q2,q3⟩:=LR hc s S hS hcat D hl l (out++x.Columns.map fun x=>x.Name) (fun y hy=>A y (oO _ hy)) (by simp;omega)
  unfold im lT
  rw [hcat,g1,bI,bI,(GP _ x.Columns out (by omega)).1,(GP _ x.Columns out (by omega)).2]
  have e:(iB c (t::l)).length=x.Columns.length+(iB c l).length:=by simp [iB,g2]
  exact⟨R,q1,q2,by rw [e];simp at q3;omega⟩
def NW{c:aJ}(hc:qK c){s:am}{b:aB}(h:vu c s b)(S:aK)(hS:s.from_=S)(D:S.Items.all wE=true)(hl:S.Items.length<=6): ∃R,nw s=some R/\tU c S b.out.Tables=some R/\R.length=(if S.Star then(iB c b.out.Tables).length else 0)+S.Items.length:=by
 unfold nw tU
 rw [hS,h.out]
 have hf:=h.few
 by_cases hs:S.Star=true
 ·rw [cx hs,cx hs]
  obtain⟨R,q1,q2,q3⟩:=LR hc s S hS h.cat D hl b.out.Tables [] h.bad (by simp;omega)
  exact⟨R,q1,q2,by rw [cx hs,q3];simp⟩
 ·rw [cm hs,cm hs]
  unfold lm pn
  rw [hS]
  obtain⟨R,q1,q2,q3⟩:=GQ S.Items [] D (by simp;omega)
  exact⟨R,q1,q2,by rw [cm hs,q3];simp⟩
def xD(over:List Int): ∀(l:List aZ) (out:List Int),(∀x∈l,x.Nodes.length<=1000)->out.length+l.length<=1000->gD over l out=some (out++l.map fun x=>(gC x over).1)/\j6 over l out=some (out++l.map fun x=>(gC x over).1)
 |[],out,_,_=>⟨by unfold gD;simp,by unfold j6;simp⟩
 |x::l,out,h,hl=>by
  simp only [ji]at hl
  obtain⟨q1,q2⟩:=xD over l (out++[(gC x over).1]) (fun y hy=>h y (oO _ hy)) (by simp;omega)
  have D:=h x (oh ..)
  unfold gD j6
  rw [ve _ _ (by omega),qB,bI,bI,dF (by simp;omega),bI,bI,q1,q2]
  simp
def N1{c:aJ}(hc:qK c){s:am}{b:aB}{n:Nat}{gr:Bool}(h:MR c s b n gr)(hn:n<=100): ∃R:List Int,kC s=some R/\ot c b.out=some R/\R=b.out.Items.map fun x=>(gC x (ov s gr)).1:=by
 have hr:=h.rel
 have hk:=hr.refKinds hc
 have V:=hr.refGroups hc
 rw [hr.bc]at hk V
 have hl:=h.len
 refine⟨b.out.Items.map fun x=>(gC x (ov s gr)).1,?_,?_,rfl⟩
 ·unfold kC kI
  rw [hr.out,h.grouped]
  unfold ov
  cases gr with
  |true=>rw [cx rfl,cx rfl,(xD _ _ _ h.each (by simp;omega)).1];simp
  |false=>rw [cm (by simp),cm (by simp),(xD _ _ _ h.each (by simp;omega)).1];simp
 ·unfold ot nQ
  rw [hk,bI,h.grouped]
  unfold ov
  cases gr with
  |true=>rw [cx rfl,cx rfl,V,bI,(xD _ _ _ h.each (by simp;omega)).2];simp
  |false=>rw [cm (by simp),cm (by simp),(xD _ _ _ h.each (by simp;omega)).2];simp
def JJ:List Int->List Int->Option (List Int)
 |x::a,y::b=>if x=0 then(JJ a b).map (y:: ·)else if y≠0/\y≠x then none else(JJ a b).map (x:: ·)
 |_,_=>some []
def K6{x:Int}(h:x=0)(a:List Int)(y:Int)(b:List Int):JJ (x::a) (y::b)=(JJ a b).map (y:: ·):=cx h
def Pd{x:Int}(h: ¬x=0)(a:List Int){y:Int}(hy:y≠0/\y≠x)(b:List Int):JJ (x::a) (y::b)=none:=by
 show(if x=0 then _ else if y≠0/\y≠x then none else _)=_
 rw [cm h,cx hy]
def Pe{x:Int}(h: ¬x=0)(a:List Int){y:Int}(hy: ¬(y≠0/\y≠x))(b:List Int):JJ (x::a) (y::b)=(JJ a b).map (x:: ·):=by
 show(if x=0 then _ else if y≠0/\y≠x then none else _)=_
 rw [cm h,cm hy]
def Pf: ∀{a b r:List Int},JJ a b=some r->r.length<=a.length
 |[],b,r,h=>by
  unfold JJ at h
  cases h;simp
 |x::a,[],r,h=>by
  unfold JJ at h;cases h;simp
 |x::a,y::b,r,h=>by
  unfold JJ at h
  have ih:=fun r (h:JJ a b=some r)=>Pf h
  cases hu:JJ a b with
  |none=>
   rw [hu]at h
   split at h
   ·cases h
   ·split at h<;>cases h
  |some q=>
   rw [hu]at h
   have:=ih q hu
   split at h
   ·cases h;simp;omega
   ·split at h
    ·cases h
    ·cases h;simp;omega
def K5: ∀(a l pre:List Int),a.length=l.length->(∃r,JJ a l=some r/\kl l pre.length (pre++a)=some (true,pre++r))\/(JJ a l=none/\ ∃z,kl l pre.length (pre++a)=some (false,z))
 |[],[],pre,_=> .inl ⟨[],rfl,rfl⟩
 |x::a,y::l,pre,h=>by
  have ih:=fun v=>K5 a l (pre++[v]) (by simpa using h)
  simp only [pg,y8,gF,JB]at ih
  unfold kl
  rw [nW,bI]
  by_cases D:x=0
  ·rw [K6 D,cx (by simpa using D),uW,bI]
   rcases ih y with⟨r,g1,g2⟩|⟨g1,g2⟩
   ·exact .inl ⟨y::r,by rw [g1];rfl,g2⟩
   ·exact .inr ⟨by rw [g1];rfl,g2⟩
  ·rw [cm (by simpa using D)]
   by_cases hy:y≠0/\y≠x
   ·rw [Pd D a hy,cx (by simpa using hy)]
    exact .inr ⟨rfl,_,rfl⟩
   ·rw [Pe D a hy,cm (by simpa using hy)]
    rcases ih x with⟨r,g1,g2⟩|⟨g1,g2⟩
    ·exact .inl ⟨x::r,by rw [g1];rfl,g2⟩
    ·exact .inr ⟨by rw [g1];rfl,g2⟩
def ID(b:List Int): ∀(a l pre out:List Int),a.length=l.length->b=pre++l->out.length+a.length<=100000->jP b a pre.length out=some (match JJ a l with
  |some r=>(out++r,true)
  |none=>([],false))
 |[],[],pre,out,_,_,_=>by unfold jP JJ;simp
 |x::a,y::l,pre,out,h,A,ho=>by
  simp only [ji]at ho
  have ih:=fun out=>ID b a l (pre++[y]) out (by simpa using h) (by rw [A];simp)
  simp only [pg,y8]at ih
  unfold jP
  rw [A,nW,<-A]
  unfold qO
  rw [A,nW,<-A]
  simp only [bI]
  by_cases D:x=0
  ·rw [K6 D,cx (by simpa using D),cm (by simp),dF (by simp;omega),bI,ih _ (by simp;omega)]
   cases JJ a l with
   |none=>rfl
   |some r=>simp
  ·rw [cm (by simpa using D)]
   by_cases hy:y≠0/\y≠x
   ·rw [Pd D a hy,cx (by simpa using hy)]
   ·rw [Pe D a hy,cm (by simpa using hy),dF (by simp;omega),bI,ih _ (by simp;omega)]
    cases JJ a l with
    |none=>rfl
    |some r=>simp
def Nh(a l:List Int)(ha:a.length<=1000):(∃r,pL a l=some (true,r)/\rO a l=some (r,true)/\r.length<=a.length)\/(∃z,pL a l=some (false,z)/\rO a l=some ([],false)):=by
 unfold pL rO
 by_cases h:a.length=l.length
 ·rw [cm (by simp [h]),cm (by simp [h])]
  have J:=ID l a l [] [] h rfl (by simp;omega)
  rcases K5 a l [] h with⟨r,g1,g2⟩|⟨g1,z,g2⟩
  ·rw [g1]at J
   exact .inl ⟨r,g2,J,Pf g1⟩
  ·rw [g1]at J
   exact .inr ⟨z,g2,J⟩
 ·rw [cx (by simp;omega),cx (by simp;omega)]
  exact .inr ⟨a,rfl,rfl⟩
def N3(v:cX): ∀(l:List cX) (i:Nat),ec v l i=some (if v∈l then((i+l.idxOf v:Nat):Int)else -1)
 |[],i=>rfl
 |x::l,i=>by
  unfold ec
  by_cases h:v=x
  ·subst h
   rw [cx (by simp)]
   simp
  ·rw [cm (by simpa using h),N3 v l (i+1)]
   have H:(v∈x::l)=(v∈l):=by simp [h]
   have J:(x::l).idxOf v=l.idxOf v+1:=by
    have:(x==v)=false:=by simpa using Ne.symm h
    rw [List.idxOf_cons,this];rfl
   simp only [H,J]
   by_cases hm:v∈l
   ·rw [cx hm,cx hm];congr 2;omega
   ·rw [cm hm,cm hm]
def J4(k:sC): ∀(l:List cX) (i:Nat) (f m:Int),k.Name∉l->fa k l i f m=fa k [] 0 f m
 |[],i,f,m,_=>rfl
 |x::l,i,f,m,h=>by
  have H: ¬x=k.Name:=fun e=>h (by rw [e];exact oh ..)
  conv=>lhs;unfold fa
  rw [cm (by simpa using H),J4 k l (i+1) f m (fun e=>h (oO _ e))]
def LY(k:sC)(q:List cX): ∀(p:List cX) (i:Nat) (f m:Int),k.Name∉p->fa k (p++q) i f m=fa k q (i+p.length) f m
 |[],i,f,m,_=>rfl
 |x::p,i,f,m,h=>by
  have H: ¬x=k.Name:=fun e=>h (by rw [e];exact oh ..)
  rw [yZ]
  conv=>lhs;unfold fa
  rw [cm (by simpa using H),LY k q p (i+1) f m (fun e=>h (oO _ e))]
  simp only [ji]
  congr 1;omega
def GY(k:sC): ∀(l:List cX) (i:Nat) (f m:Int),1<=m->m+l.length<=1000000->(2<=m\/k.Name∈l)->fa k l i f m=some (0,223)
 |[],i,f,m,H,J,h3=>by
  have:2<=m:=by
   rcases h3 with h|h
   ·exact h
   ·cases h
  unfold fa
  rw [cm (by simp;omega),cm (by simp;omega)]
 |x::l,i,f,m,H,J,h3=>by
  simp only [ji]at J
  unfold fa
  by_cases D:x=k.Name
  ·rw [cx (by simpa using D),dW (by omega) (by omega)]
   exact GY k l _ _ _ (by omega) (by omega) (.inl (by omega))
  ·rw [cm (by simpa using D)]
   refine GY k l _ _ _ H (by omega) ?_
   rcases h3 with h|h
   ·exact .inl h
   ·rcases gn.1 h with h|h
    ·exact absurd h.symm D
    ·exact .inr h
def Tc(k:sC)(names:List cX)(hl:names.length<=1000): ∃R,Dp k names=some R/\Aq k names=some R:=by
 unfold Dp Aq
 by_cases hn:k.Name=[]
 ·have A:(k.Name==([]:cX))=true:=by simpa using hn
  simp only [A,jb]
  split
  ·exact⟨_,rfl,rfl⟩
  ·exact⟨_,rfl,rfl⟩
 ·have A:(k.Name==([]:cX))=false:=by simpa using hn
  simp only [A,kM,jh]
  unfold fB
  rw [N3,bI]
  by_cases hm:k.Name∈names
  ·rw [cx hm,cm (by rw [mV];omega)]
   have hi:=Pa hm
   obtain⟨j,hj⟩: ∃j,j=names.idxOf k.Name:=⟨_,rfl⟩
   rw [<-hj]at hi ⊢
   have hsp:names=names.take j++k.Name::names.drop (j+1):=by
    have e1:names[j]=k.Name:=by
     have:=List.getElem_idxOf (x:=k.Name) (xs:=names) (by rw [<-hj];exact hi)
     simpa [<-hj] using this
    conv=>lhs;rw [<-uN j names,sH hi,e1]
   have hno:k.Name∉names.take j:=by
    intro h
    have H:(names.take j).idxOf k.Name<(names.take j).length:=Pa h
    have J:names.idxOf k.Name=(names.take j).idxOf k.Name:=by
     conv=>lhs;rw [<-uN j names]
     rw [List.idxOf_append,cx h]
    rw [Bw]at H
    omega
   have hlt:(names.take j).length=j:=by rw [Bw];omega
   rw [dW (by omega) (by omega),show(((0+j:Nat):Int)+1)=((j+1:Nat):Int) by omega,xu (by omega) (f7 _),bI,rF (f7 _)]
   unfold fN fB
   rw [N3,bI,bI]
   have hr:fa k names 0 0 0=fa k (names.drop (j+1)) (j+1) (j:Int) 1:=by
    conv=>lhs;rw [hsp]
    rw [LY k _ _ _ _ _ hno,hlt]
    conv=>lhs;unfold fa
    rw [cx (by simp),dW (by omega) (by omega)]
    simp
   rw [hr]
   have hdl:(names.drop (j+1)).length<=1000:=by simp;omega
   by_cases J:k.Name∈names.drop (j+1)
   ·rw [cx J,cx (by rw [mV];omega),GY k _ _ _ _ (by omega) (by omega) (.inr J)]
    exact⟨_,rfl,rfl⟩
   ·rw [cm J,cm (by rw [mV];omega),J4 k _ _ _ _ J]
    refine⟨_,rfl,?_⟩
    unfold fa
    simp
  ·rw [cm hm,cx (by rw [mV];omega),J4 k _ _ _ _ hm]
   exact⟨_,rfl,rfl⟩
end Go.Proofs.YthbdkceckjihgaaGreatDoor


/- dm of this claim: B18. -/
set_option linter.all false
set_option linter.unusedVariables false
namespace Go.Proofs.YthbdkceckjihgaaGreatDoor
open Go

def GL: ∀(l:List sC) (x b:bz),b.Names.length<=1000->b.Order.length+l.length<=1000-> ∃R,sq l x b=some R/\qt l x b=some R
 |[],x,b,_,_=>⟨_,rfl,rfl⟩
 |k::l,x,b,hn,ho=>by
  simp only [ji]at ho
  obtain⟨R,g1,g2⟩:=Tc k b.Names hn
  unfold sq qt
  rw [g1,g2,bI,bI]
  by_cases h:R.2=0
  ·rw [cm (by simpa using h),cm (by simpa using h),dF (by simp;omega),bI,bI]
   exact GL l x _ hn (by simp;omega)
  ·rw [cx (by simpa using h),cx (by simpa using h)]
   exact⟨_,rfl,rfl⟩
def HB(nx:Nat->bz->bz->Option (bz×Int×Int))(i:Nat)(e:Int)(s:am)(x b:bz)(h:b.Selects.length<=1000):oc nx i (e,s) x b=nx (i+1) x {b with Selects:=b.Selects++[s.out]}:=by
 unfold oc
 rw [dF (by simp;omega),bI]
def HA(nx:Nat->bz->bz->Option (bz×Int×Int))(i:Nat)(o:bz)(s:aB)(x b:bz)(h:b.Selects.length<=1000):qu nx i o s x b=nx (i+1) x {b with Selects:=b.Selects++[s.out]}:=by
 unfold qu
 rw [dF (by simp;omega),bI]
def CM{c:aJ}(hc:qK c)(q:ce)(hk:q.Keys.length<=3): ∀(l:List aK) (i:Nat) (x b:bz),l.all zA=true->i+l.length<=100->b.Selects.length=i->b.Kinds.length<=100->b.Names.length<=100->b.Order=[]->
    ∃R,km c q l i x b=some R/\iy c q l i x b=some R
  |[],i,x,b,_,_,_,_,hn,ho=>by
    unfold km iy
    exact GL q.Keys x b (by omega) (by rw [ho];simp;omega)
  |S::l,i,x,b,hl,hi,hs,hkl,hnl,ho=>by
    simp only [tI,jM]at hl
    simp only [ji]at hi
    have ih:=fun x b=>CM hc q hk l (i+1) x b hl.2 (by omega)
    have hI:S.Items.all wE=true/\S.Items.length<=6:=by
      have:=hl.1
      unfold zA Nx at this
      simp only [jM,mV]at this
      exact⟨this.2.2.1,this.1.2.1⟩
    have hc1:km c q (S::l) i x b=(ny (U2 c S)).bind fun r3=>
      if(r3.1 !=(0:Int))then
      (some ((⟨[],[],[],[],(0:Int)⟩:bz),(IntKind.i64.wrap ((IntKind.i64.wrap ((10:Int)*(i:Int)))+r3.2.at_)),r3.1))
      else
      ((kC r3.2).bind fun r4=>
      if((i:Int)==(0:Int))then
      ((nw r3.2).bind fun r5=>
      oc (km c q l) i r3 x {b with Names:=r5,Kinds:=r4})
      else
      ((pL b.Kinds r4).bind fun r6=>
      if(!r6.1)then
      (some ((⟨[],[],[],[],(0:Int)⟩:bz),(IntKind.i64.wrap ((IntKind.i64.wrap ((10:Int)*(i:Int)))+(6:Int))),(229:Int)))
      else
      (oc (km c q l) i r3 x ({b with Kinds:=r6.2}:bz)))):=rfl
    have hd1:iy c q (S::l) i x b=Ww S (bi0 c) (fun at1 e2 ob=>mP c (iy c q l) i S x b at1 e2 ob):=rfl
    rw [hc1,hd1]
    rcases Lu hc S hl.1 (fun at1 e2 ob=>mP c (iy c q l) i S x b at1 e2 ob)with⟨e,s',b',he,g1,g2⟩|⟨s',b',g1,g2,g3,g4,_⟩
    · rw [g1,g2,bI]
      unfold mP
      rw [cx (by simpa using he),cx (by simpa using he)]
      exact⟨_,rfl,rfl⟩
    · rw [g1,g2,bI]
      unfold mP
      rw [cm (by simp),cm (by simp)]
      have hnum:=g3.rel.kindsLen hc
      rw [g3.rel.kinds]at hnum
      have hn100:(if S.Star then(iB c b'.out.Tables).length else 0)+S.Items.length<=100:=by
        split<;>omega
      obtain⟨aw,k1,k2,k3'⟩:=N1 hc g3 hn100
      have k3:aw.length<=100:=by rw [k3',A2,g3.len];exact hn100
      rw [k1,k2,bI,bI]
      have ho' :s'.out=b'.out:=g3.rel.out
      by_cases h0:i=0
      · have A:((i:Int)==(0:Int))=true:=by simpa using h0
        simp only [A,jb]
        obtain⟨ht,m1,m2,m3⟩:=NW hc g3.rel S g4 hI.1 hI.2
        rw [<-m3]at hn100
        rw [m1,m2,bI,bI,HB _ _ _ _ _ _ (by show b.Selects.length<=1000;omega),HA _ _ _ _ _ _ (by show b.Selects.length<=1000;omega),ho']
        exact ih x _ (by simp;omega) k3 hn100 ho
      · have A:((i:Int)==(0:Int))=false:=by simpa using h0
        simp only [A,kM,jh]
        rcases Nh b.Kinds aw (by omega)with⟨r,u1,u2,u3⟩|⟨z,u1,u2⟩
        · rw [u1,u2,bI,bI,cm (by simp),cm (by simp),HB _ _ _ _ _ _ (by show b.Selects.length<=1000;omega),HA _ _ _ _ _ _ (by show b.Selects.length<=1000;omega),ho']
          exact ih x _ (by simp;omega) (by show r.length<=100;omega) hnl ho
        · rw [u1,u2,bI,bI,cx (by rfl),cx (by rfl)]
          exact⟨_,rfl,rfl⟩
def Sj{c:aJ}(hs:HI c){q:ce}(hq:Ut q): ∃R,vr c q=some R/\xZ c q=some R:=by
 unfold vr xZ
 rw [Ep hs,GD hs,bI,bI]
 cases hc:OH c with
 |false=>exact⟨_,rfl,rfl⟩
 |true=>
  rw [cm (by simp),cm (by simp),KD hq,GG hq,bI,bI]
  cases A:Rk q with
  |false=>exact⟨_,rfl,rfl⟩
  |true=>
   rw [cm (by simp),cm (by simp)]
   unfold Rk Rj at A
   simp only [jM,mV]at A
   exact CM (Zs hc) q A.1.2.2.1 q.Selects 0 _ _ A.2.1 (by omega) rfl (by show(0:Nat)<=100;omega) (by show(0:Nat)<=100;omega) rfl
end Go.Proofs.YthbdkceckjihgaaGreatDoor


/- dm of this claim: B19. -/
set_option linter.all false
set_option linter.unusedVariables false
namespace Go.Proofs.YthbdkceckjihgaaGreatDoor
open Go

def nJ{α:Type}(g:α->α->Bool):List α->List α->Bool
 |[],[]=>true
 |x::a,y::b=>g x y&&nJ g a b
 |_,_=>false
def uh{α:Type}{g:α->α->Bool}: ∀{a b:List α},a.length≠b.length->nJ g a b=false
 |[],[],h=>absurd rfl h
 |[],y::b,_=>rfl
 |x::a,[],_=>rfl
 |x::a,y::b,h=>by
  show(g x y&&nJ g a b)=false
  rw [uh (by simpa using h),Bool.and_false]
def oN{α:Type}{g:α->α->Bool}(V: ∀x,g x x=true): ∀a:List α,nJ g a a=true
 |[]=>rfl
 |x::a=>by
  show(g x x&&nJ g a a)=true
  rw [V,oN V a];rfl
def TO{α:Type}{s2:List α}{F:List α->Nat->Option Bool}{g:α->α->Bool}{E:Option Bool}(h0: ∀i,F [] i=E)(H: ∀e tl i e1,fz s2 ((i:Nat):Int)=some e1->F (e::tl) i=if g e e1 then F tl (i+1)else some false):
  ∀(tl pre b:List α),s2=pre++b->tl.length=b.length->F tl pre.length=if nJ g tl b then E else some false
 |[],pre,[],hs,hl=>by rw [h0];rfl
 |x::tl,pre,y::b,hs,hl=>by
  rw [H x tl pre.length y (by rw [hs];exact nW pre y b)]
  have ih:=TO h0 H tl (pre++[y]) b (by rw [hs];simp) (by simpa using hl)
  simp only [pg,y8]at ih
  rw [ih]
  show _=if(g x y&&nJ g tl b)=true then E else some false
  cases g x y with
  |true=>rfl
  |false=>rfl
def Ca{α:Type}{s1 s2:List α}{F:List α->Nat->Option Bool}{g:α->α->Bool}{E:Option Bool}(h0: ∀i,F [] i=E)(H: ∀e tl i e1,fz s2 ((i:Nat):Int)=some e1->F (e::tl) i=if g e e1 then F tl (i+1)else some false):
  (if((s1.length:Int) !=(s2.length:Int))then some false else F s1 0)=if nJ g s1 s2 then E else some false:=by
 by_cases h:s1.length=s2.length
 ·rw [cm (by simp [h])]
  exact TO h0 H s1 [] s2 rfl h
 ·rw [cx (by simp;omega),uh h];rfl
def Jg(a b:aZ):Bool:=decide (a.Nodes=b.Nodes)
def Yi(a b:la):Bool:=(a.Left==b.Left)&&Jg a.On b.On
def Zt(a b:lb):Bool:=(a.Tag==b.Tag)&&Jg a.Arg b.Arg
def C2(a b:Int):Bool:=a==b
def Z5(a b:cX):Bool:=a==b
def Z7(a b:ze):Bool:=decide (a=b)
def S5(r:Bool)(P aC:Option Bool):(if(!r)then P else aC)=if r=true then aC else P:=by cases r<;>rfl
def G1(a b:List Int):nd a b=some (nJ C2 a b):=by
 unfold nd
 rw [Ca (g:=C2) (E:=some true) (fun i=>rfl) (fun e tl i e1 h=>by
  show((fz b ((i:Nat):Int)).bind fun e1=>if(!(e==e1))then some false else oX b tl (i+1))=_
  rw [h,bI,S5];rfl)]
 cases nJ C2 a b<;>rfl
def RR(a b:List aZ):tm a b=some (nJ Jg a b):=by
 unfold tm
 rw [Ca (g:=Jg) (E:=some true) (fun i=>rfl) (fun e tl i e1 h=>by
  show((fz b ((i:Nat):Int)).bind fun e1=>(lV e e1).bind fun r=>if(!r)then some false else pX b tl (i+1))=_
  rw [h,bI,oI,bI,S5];rfl)]
 cases nJ Jg a b<;>rfl
def W0(a b:bb):Bool:=((a.Grouped==b.Grouped)&&(a.Distinct==b.Distinct))&&(nJ C2 a.Tables b.Tables&&(nJ C2 a.Keys b.Keys&&(Jg a.Where b.Where&&(Jg a.Having b.Having&&(nJ Yi a.Joins b.Joins&&(nJ Zt a.Aggs b.Aggs&&nJ Jg a.Items b.Items))))))
def S6{α:Type}{a b:List α}(h:((a.length:Int) !=(b.length:Int))=true):a.length≠b.length:=fun e=>by rw [e]at h;simp at h
def Nw(a b:bb):(if((a.Aggs.length:Int) !=(b.Aggs.length:Int))then some false else ij a b a.Aggs 0)=if nJ Zt a.Aggs b.Aggs then some (nJ C2 a.Tables b.Tables&&(nJ C2 a.Keys b.Keys&&(Jg a.Where b.Where&&(Jg a.Having b.Having&&nJ Jg a.Items b.Items))))else some false:=by
 refine Ca (g:=Zt) (fun i=>?_) (fun e tl i e1 h=>?_)
 ·unfold ij
  rw [G1,G1,oI,oI,RR]
  rw [show Jg a.Where b.Where=decide (a.Where.Nodes=b.Where.Nodes)from rfl,show Jg a.Having b.Having=decide (a.Having.Nodes=b.Having.Nodes)from rfl]
  cases nJ C2 a.Tables b.Tables<;>cases nJ C2 a.Keys b.Keys<;>cases decide (a.Where.Nodes=b.Where.Nodes)<;>cases decide (a.Having.Nodes=b.Having.Nodes)<;>cases nJ Jg a.Items b.Items<;>rfl
 ·conv=>lhs;unfold ij
  rw [h,bI,oI]
  unfold Zt Jg
  show Option.bind (if(!(!(e.Tag==e1.Tag)))=true then _ else _) _=_
  cases (e.Tag==e1.Tag)<;>cases decide (e.Arg.Nodes=e1.Arg.Nodes)<;>rfl
def U1(a b:bb):pU a b=some (W0 a b):=by
 have J:=Nw a b
 have H:=Ca (s1:=a.Joins) (s2:=b.Joins) (F:=jD a b) (g:=Yi) (E:=ij a b a.Aggs 0) (fun i=>rfl) (fun e tl i e1 h=>by
  conv=>lhs;unfold jD
  rw [h,bI,oI]
  unfold Yi Jg
  show Option.bind (if(!(!(e.Left==e1.Left)))=true then _ else _) _=_
  cases (e.Left==e1.Left)<;>cases decide (e.On.Nodes=e1.On.Nodes)<;>rfl)
 unfold pU W0
 show(if(((!(a.Grouped==b.Grouped))||(!(a.Distinct==b.Distinct)))||((a.Joins.length:Int) !=(b.Joins.length:Int)))||((a.Aggs.length:Int) !=(b.Aggs.length:Int))then some false else jD a b a.Joins 0)=_
 cases hJ:((a.Joins.length:Int) !=(b.Joins.length:Int))<;>cases hA:((a.Aggs.length:Int) !=(b.Aggs.length:Int))<;>simp only [hJ,kM,jh,jb]at H<;>simp only [hA,kM,jh,jb]at J
 ·rw [H,J]
  cases (a.Grouped==b.Grouped)<;>cases (a.Distinct==b.Distinct)<;>cases nJ Yi a.Joins b.Joins<;>cases nJ Zt a.Aggs b.Aggs<;>simp
 ·have hf:nJ Zt a.Aggs b.Aggs=false:=uh (S6 hA)
  rw [hf];simp
 ·have hf:nJ Yi a.Joins b.Joins=false:=uh (S6 hJ)
  rw [hf];simp
 ·have hf:nJ Yi a.Joins b.Joins=false:=uh (S6 hJ)
  rw [hf];simp
def boS(a b:bz):Bool:=(a.Limit==b.Limit)&&(nJ Z5 a.Names b.Names&&(nJ C2 a.Kinds b.Kinds&&(nJ Z7 a.Order b.Order&&nJ W0 a.Selects b.Selects)))
def Up(a b:bz):xY a b=some (boS a b):=by
 have h3:=Ca (s1:=a.Order) (s2:=b.Order) (F:=oG b) (g:=Z7) (E:=some true) (fun i=>rfl) (fun e tl i e1 h=>by
  conv=>lhs;unfold oG
  rw [h,bI,S5];rfl)
 have J:=Ca (s1:=a.Names) (s2:=b.Names) (F:=oH a b) (g:=Z5) (E:=oG b a.Order 0) (fun i=>rfl) (fun e tl i e1 h=>by
  conv=>lhs;unfold oH
  rw [h,bI,S5];rfl)
 have H:=Ca (s1:=a.Selects) (s2:=b.Selects) (F:=qr a b) (g:=W0) (E:=oH a b a.Names 0) (fun i=>rfl) (fun e tl i e1 h=>by
  conv=>lhs;unfold qr
  rw [h,bI,U1,bI,S5])
 unfold xY boS
 rw [G1]
 show Option.bind (if(!((((!(a.Limit==b.Limit))||((a.Selects.length:Int) !=(b.Selects.length:Int)))||((a.Names.length:Int) !=(b.Names.length:Int)))||((a.Order.length:Int) !=(b.Order.length:Int))))=true then _ else _) _=_
 by_cases hS:a.Selects.length=b.Selects.length
 ·by_cases hN:a.Names.length=b.Names.length
  ·by_cases hO:a.Order.length=b.Order.length
   ·have e1:((a.Selects.length:Int) !=(b.Selects.length:Int))=false:=by simp [hS]
    have e2:((a.Names.length:Int) !=(b.Names.length:Int))=false:=by simp [hN]
    have e3:((a.Order.length:Int) !=(b.Order.length:Int))=false:=by simp [hO]
    rw [e1]at H ⊢;rw [e2]at J ⊢;rw [e3]at h3 ⊢
    simp only [kM,jh]at H J h3
    cases (a.Limit==b.Limit)with
    |false=>rfl
    |true=>
     cases nJ C2 a.Kinds b.Kinds with
     |false=>simp
     |true=>
      simp only [qY,Bool.or_self,Bu,jb,bI,kM,jh]
      rw [H,J,h3]
      cases nJ Z5 a.Names b.Names<;>cases nJ Z7 a.Order b.Order<;>cases nJ W0 a.Selects b.Selects<;>rfl
   ·have hf:nJ Z7 a.Order b.Order=false:=uh hO
    have e:((a.Order.length:Int) !=(b.Order.length:Int))=true:=by simp;omega
    rw [hf,e];simp
  ·have hf:nJ Z5 a.Names b.Names=false:=uh hN
   have e:((a.Names.length:Int) !=(b.Names.length:Int))=true:=by simp;omega
   rw [hf,e];simp
 ·have hf:nJ W0 a.Selects b.Selects=false:=uh hS
  have e:((a.Selects.length:Int) !=(b.Selects.length:Int))=true:=by simp;omega
  rw [hf,e];simp
def Hn(x:aZ):Jg x x=true:=by simp [Jg]
def SM(x:bb):W0 x x=true:=by
 unfold W0
 rw [oN (fun y=>by simp [C2]),oN (fun y=>by simp [C2]),Hn,Hn,oN (fun y=>by simp [Yi,Jg]),oN (fun y=>by simp [Zt,Jg]),oN Hn]
 simp
def Uh(x:bz):boS x x=true:=by
 unfold boS
 rw [oN (fun y=>by simp [Z5]),oN (fun y=>by simp [C2]),oN (fun y=>by simp [Z7]),oN SM]
 simp
end Go.Proofs.YthbdkceckjihgaaGreatDoor


/- dm of this claim: B20. -/
set_option linter.all false
set_option linter.unusedVariables false
namespace Go.Proofs.YthbdkceckjihgaaGreatDoor
open Go

def LB{α:Type}{s2:List α}{F:List α->Nat->Option Bool}{E:Option Bool}(h0: ∀i,F [] i=E)(H: ∀e tl i,fz s2 ((i:Nat):Int)=some e->F (e::tl) i=F tl (i+1)):
  ∀(tl pre:List α),s2=pre++tl->F tl pre.length=E
 |[],pre,_=>h0 _
 |x::tl,pre,hs=>by
  rw [H x tl pre.length (by rw [hs];exact nW pre x tl)]
  have ih:=LB h0 H tl (pre++[x]) (by rw [hs];simp)
  simp only [pg,y8]at ih
  exact ih
def xw{α:Type}{s:List α}{F:List α->Nat->Option Bool}{E:Option Bool}(h0: ∀i,F [] i=E)(H: ∀e tl i,fz s ((i:Nat):Int)=some e->F (e::tl) i=F tl (i+1)):F s 0=E:=LB h0 H s [] rfl
def GT{F:Nat->Int->Option Bool}{E:Option Bool}(L:Nat)(hL:L<=100000)(H: ∀n (i:Nat),i<L->F (n+1) (i:Int)=F n (IntKind.i64.wrap ((i:Int)+1)))(h0: ∀n,F (n+1) (L:Int)=E): ∀(n i:Nat),L<i+n->i<=L->F n (i:Int)=E:=by
 intro n
 induction n with
 |zero=>intro i h J;omega
 |succ n ih=>
  intro i h J
  by_cases hi:i<L
  ·rw [H n i hi,show IntKind.i64.wrap ((i:Int)+1)=((i+1:Nat):Int) by rw [AQ];omega]
   exact ih (i+1) (by omega) (by omega)
  ·have:i=L:=by omega
   subst this
   exact h0 n
def Ak(t:db):jq t t=some true:=by
 unfold jq
 rw [cm (by simp)]
 exact xw (fun i=>rfl) fun e tl i h=>by
  conv=>lhs;unfold oZ
  rw [h,bI,cm (by simp)]
def Lt(s:aK):pY s s=some true:=by
 unfold pY
 rw [cm (by simp)]
 refine xw (fun i=>?_) fun e tl i h=>by
  conv=>lhs;unfold m5
  rw [h,bI,cx (by simp),Ak]
  rfl
 show ll s s s.Joins 0=_
 refine xw (fun i=>?_) fun e tl i h=>by
  conv=>lhs;unfold ll
  rw [h,bI,cx (by simp),Ak]
  rfl
 show lk s s s.Group 0=_
 refine xw (fun i=>?_) fun e tl i h=>by
  conv=>lhs;unfold lk
  rw [h,bI,cm (by simp)]
 show((jq s.Where s.Where).bind fun r=>(if r then((jq s.Having s.Having).bind fun r1=>some r1)else some false).bind fun t=>some t)=_
 rw [Ak,Ak];rfl
def NF(q:ce):yb q q=some true:=by
 unfold yb
 rw [cm (by simp)]
 refine xw (fun i=>?_) fun e tl i h=>by
  conv=>lhs;unfold tt
  rw [h,bI,Lt]
  rfl
 show qC q q.Keys 0=_
 exact xw (fun i=>rfl) fun e tl i h=>by
  conv=>lhs;unfold qC
  rw [h,bI,cm (by simp)]
def Ti{α:Type}{l:List α}{i:Nat}(h:i<l.length): ∃x,fz l (i:Int)=some x:=by
 rw [jt,lr h];exact⟨_,rfl⟩
def Nj(t:bU)(hc:t.Columns.length<=100000)(hk:t.Keys.length<=100000):qP t t=some true:=by
 unfold qP
 rw [cm (by simp)]
 refine GT (F:=fun n i=>gM t t n i) t.Columns.length hc (fun n i h=>?_) (fun n=>?_) fc 0 (by unfold fc;omega) (by omega)
 ·show gM t t (n+1) (i:Int)=_
  conv=>lhs;unfold gM
  obtain⟨x,D⟩:=Ti h
  rw [cx (by rw [mV];omega),D,bI,bI,cm (by simp)]
 ·show gM t t (n+1) _=_
  unfold gM
  rw [cm (by rw [mV];omega)]
  refine GT (F:=fun n i=>gL t t n i) t.Keys.length hk (fun n i h=>?_) (fun n=>?_) fc 0 (by unfold fc;omega) (by omega)
  ·show gL t t (n+1) (i:Int)=_
   conv=>lhs;unfold gL
   obtain⟨x,D⟩:=Ti h
   rw [cx (by rw [mV];omega),D,bI,bI,cm (by simp)]
  ·show gL t t (n+1) _=_
   unfold gL
   rw [cm (by rw [mV];omega)]
def KB(c:aJ)(hl:c.Tables.length<=100000)(M: ∀t∈c.Tables,t.Columns.length<=100000/\t.Keys.length<=100000):vL c c=some true:=by
 unfold vL
 rw [cm (by simp)]
 refine GT (F:=fun n i=>lB c c n i) c.Tables.length hl (fun n i h=>?_) (fun n=>?_) fc 0 (by unfold fc;omega) (by omega)
 ·show lB c c (n+1) (i:Int)=_
  conv=>lhs;unfold lB
  have hm:=Iv h
  rw [cx (by rw [mV];omega),jt,lr h,bI,bI,Nj _ (M _ hm).1 (M _ hm).2,bI]
  rfl
 ·show lB c c (n+1) _=_
  unfold lB
  rw [cm (by rw [mV];omega)]
def Nn(p:aJ):vL (DK p) (DK p)=some true:=by
 refine KB _ (by simp [DK];omega) fun t M=>?_
 obtain⟨u,_,rfl⟩:=Br.1 M
 exact⟨by simp [Ow];omega,by simp [Ow];omega⟩
def Qq(p:aJ): ∀(l:List ce) (i:Nat),mF p (DK p) l i=some true
 |[],i=>rfl
 |q::l,i=>by
  unfold mF
  split
  ·rfl
  ·obtain⟨R,g1,g2⟩:=Sj (JQ p) (Tp q)
   rw [Yu,bI,g1,bI,bI,g2,bI,cx (by simp),Up,Uh,Lf]
   simp only [bI,NF,Nn,qY,Bu,jb,kM,jh]
   exact Qq p l (i+1)
def Ir(p:aJ)(l:List ce):vT p l=some true:=by
 unfold vT
 rw [Nc,bI,cm (by simp),Lf,bI]
 exact Qq p l 0
end Go.Proofs.YthbdkceckjihgaaGreatDoor

