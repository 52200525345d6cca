import Derived.Test.YthbdkceckjihgaaGreatDoorBbQ1
import Derived.KernelRfl
import Derived.Test.YthbdkceckjihgaaGreatDoorBbQ2
import Derived.Test.YthbdkceckjihgaaGreatDoorBbQ3
/- du of this claim: B1. -/
set_option linter.all false
namespace Go.Proofs.YthbdkceckjihgaaGreatDoor
open Go

def Kn{α:Type}(l:List α)(m:Nat)(hm:m<=100000):((dN l 0 (min (l.length:Int) (m:Int))).bind fun y=>(oI ([]:List α) y).bind fun x=>some x)=some (l.take m):=by
 have e:min (l.length:Int) (m:Int)=((min l.length m:Nat):Int):=by omega
 have h:dN l 0 (min (l.length:Int) (m:Int))=some (l.take m):=by
  unfold dN
  rw [cz ⟨by omega,by omega,by omega⟩,e]
  simp only [Cm,Int.toNat_zero,sC,Cn]
  rw [List.take_eq_take_iff];omega
 rw [h,bH]
 unfold oI
 rw [cz (by simp;omega)]
 simp
def N6(s:cS)(m:Nat)(hm:m<=100000):dN s 0 (min (s.length:Int) (m:Int))=some (s.take m):=by
 have e:min (s.length:Int) (m:Int)=((min s.length m:Nat):Int):=by omega
 unfold dN
 rw [cz ⟨by omega,by omega,by omega⟩,e]
 simp only [Cm,Int.toNat_zero,sC,Cn]
 rw [List.take_eq_take_iff];omega
def oU{α:Type}(pre:List α)(e:α)(tl:List α):fB (pre++e::tl) (pre.length:Int)=some e:=by
 rw [kr];simp
def uO{α:Type}(pre:List α)(e y:α)(tl:List α):(pre++e::tl).set ((pre.length:Nat):Int).toNat y=pre++y::tl:=by
 simp
def TT(t:ce):ce:={t with Columns:=t.Columns.take 5,Keys:=t.Keys.take 5}
def Sw(c:aR):aR:=⟨(c.Tables.take 5).map TT⟩
def Su: ∀(tl pre:List ce),nf tl pre.length ⟨pre++tl⟩=some ⟨pre++tl.map TT⟩:=by
 intro tl
 induction tl with
 |nil=>intro pre;simp [nf]
 |cons e tl ih=>
  intro pre
  have V:=Kn e.Columns 5 (by omega)
  have Z:=Kn e.Keys 5 (by omega)
  unfold nf
  rw [oU,bH,bH]
  rw [show mG e.Columns (5:Int)=some (e.Columns.take 5)from V,bH,show tw e.Keys (5:Int)=some (e.Keys.take 5)from Z,bH]
  rw [bH,uO,oU,bH,bH,uO]
  have h3:=ih (pre++[TT e])
  simp only [pF,y9,gK,Ju]at h3
  rw [uG]
  exact h3
def Sv(c:aR):wn c=some (Sw c):=by
 unfold wn
 rw [show qc c.Tables (5:Int)=some (c.Tables.take 5)from Kn c.Tables 5 (by omega),bH]
 exact Su (c.Tables.take 5) []
def Md(n:dl):dl:={n with Value:={n.Value with S:=n.Value.S.take 60},Table:=n.Table.take 40,Name:=n.Name.take 40}
def vo(t:dj):dj:=⟨(t.Nodes.take 80).map Md⟩
def Sy: ∀(tl pre:List dl),nh tl pre.length ⟨pre++tl⟩=some ⟨pre++tl.map Md⟩:=by
 intro tl
 induction tl with
 |nil=>intro pre;simp [nh]
 |cons e tl ih=>
  intro pre
  unfold nh
  rw [oU,bH]
  rw [show dN e.Value.S 0 (min (e.Value.S.length:Int) (60:Int))=some (e.Value.S.take 60)from N6 _ 60 (by omega),bH,show dN e.Table 0 (min (e.Table.length:Int) (40:Int))=some (e.Table.take 40)from N6 _ 40 (by omega),bH,
   show dN e.Name 0 (min (e.Name.length:Int) (40:Int))=some (e.Name.take 40)from N6 _ 40 (by omega),bH]
  rw [bH,uO,oU,bH,bH,uO,oU,bH,bH,uO]
  have h3:=ih (pre++[Md e])
  simp only [pF,y9,gK,Ju]at h3
  rw [uG]
  exact h3
def Cy(t:dj):ph t=some (vo t):=by
 unfold ph
 rw [show qT t.Nodes (80:Int)=some (t.Nodes.take 80)from Kn t.Nodes 80 (by omega),bH]
 exact Sy (t.Nodes.take 80) []
def Wz(x:fQ):fQ:={x with Tree:=vo x.Tree}
def TU(x:nJ):nJ:={x with On:=vo x.On}
def Hp(s:aQ):aQ:={s with Items:=(s.Items.take 7).map Wz,Joins:=(s.Joins.take 3).map TU,Where:=vo s.Where,Having:=vo s.Having,Group:=s.Group.take 4}
def aai(q:cu):cu:={q with Selects:=(q.Selects.take 4).map Hp,Keys:=q.Keys.take 4}
def Yn(nx:Nat->cu->Option cu)(pq tq:List aQ)(e0:aQ)(q1:cu)(hq:q1.Selects=pq++e0::tq): ∀(tl pre:List nJ) (s:aQ),s.Joins=pre++tl->pQ nx pq.length q1 tl pre.length s=nx (pq.length+1) {q1 with Selects:=pq++{s with Joins:=pre++tl.map TU,Where:=vo s.Where,Having:=vo s.Having}::tq}:=by
 intro tl
 induction tl with
 |nil=>
  intro pre s hs
  unfold pQ
  rw [Cy,bH,Cy,bH,bH,hq,uO,hs]
  rfl
 |cons e tl ih=>
  intro pre s hs
  unfold pQ
  rw [hs,oU,bH,bH,Cy,bH,bH,uO]
  have h3:=ih (pre++[TU e]) {s with Joins:=pre++TU e::tl} (by simp)
  simp only [pF,y9,gK,Ju]at h3
  rw [uG]
  exact h3
def Yo(nx:Nat->cu->Option cu)(pq tq:List aQ)(e0:aQ)(q1:cu)(hq:q1.Selects=pq++e0::tq): ∀(tl pre:List fQ) (s:aQ),s.Items=pre++tl->pR nx pq.length q1 tl pre.length s=nx (pq.length+1) {q1 with Selects:=pq++{s with Items:=pre++tl.map Wz,Joins:=s.Joins.map TU,Where:=vo s.Where,Having:=vo s.Having}::tq}:=by
 intro tl
 induction tl with
 |nil=>
  intro pre s hs
  unfold pR
  have:=Yn nx pq tq e0 q1 hq s.Joins [] s rfl
  rw [show([]:List nJ).length=0 from rfl]at this
  rw [this]
  simp [hs]
 |cons e tl ih=>
  intro pre s hs
  unfold pR
  rw [hs,oU,bH,bH,Cy,bH,bH,uO]
  have h3:=ih (pre++[Wz e]) {s with Items:=pre++Wz e::tl} (by simp)
  simp only [pF,y9,gK,Ju]at h3
  rw [uG]
  exact h3
def Yp: ∀(tl pre:List aQ) (q:cu),q.Selects=pre++tl->ly tl pre.length q=some {q with Selects:=pre++tl.map Hp}:=by
 intro tl
 induction tl with
 |nil=>intro pre q hq;unfold ly;simp [<-hq]
 |cons e tl ih=>
  intro pre q hq
  unfold ly
  rw [hq,oU,bH,bH]
  rw [show qV e.Items (7:Int)=some (e.Items.take 7)from Kn _ 7 (by omega),bH,show qU e.Joins (3:Int)=some (e.Joins.take 3)from Kn _ 3 (by omega),bH,show nT e.Group (4:Int)=some (e.Group.take 4)from Kn _ 4 (by omega),bH]
  have Z:=Yo (ly tl) pre tl e q hq (e.Items.take 7) [] {e with Group:=e.Group.take 4,Items:=e.Items.take 7,Joins:=e.Joins.take 3} rfl
  rw [show([]:List fQ).length=0 from rfl]at Z
  rw [Z]
  have h3:=ih (pre++[Hp e]) {q with Selects:=pre++Hp e::tl} (by simp)
  simp only [pF,y9,gK,Ju]at h3
  rw [uG]
  exact h3
def Tg(q:cu):xn q=some (aai q):=by
 unfold xn
 rw [show pi q.Selects (4:Int)=some (q.Selects.take 4)from Kn _ 4 (by omega),bH,show oT q.Keys (4:Int)=some (q.Keys.take 4)from Kn _ 4 (by omega),bH]
 have:=Yp (q.Selects.take 4) [] {q with Keys:=q.Keys.take 4,Selects:=q.Selects.take 4} rfl
 exact this
def ML:zB=some true:=by kernel_rfl
def Cx(c:aR):HD (Sw c):=by
 intro t M
 obtain⟨u,_,rfl⟩:=vX.1 M
 have:(TT u).Keys.length<=5:=by simp [TT];omega
 omega
end Go.Proofs.YthbdkceckjihgaaGreatDoor


/- du of this claim: B2. -/
set_option linter.all false
namespace Go.Proofs.YthbdkceckjihgaaGreatDoor
open Go

def I3{f:dl->Option Bool}{p:dl->Bool}(hf: ∀x,f x=some (p x)): ∀(l:List dl) (i:Nat),∃j:Int,eg f l i=some j/\decide (0<=j)=l.any p
 |[],i=>⟨-1,rfl,rfl⟩
 |x::l,i=>by
  unfold eg
  rw [hf,bH,w7]
  cases A:p x with
  |true=>exact⟨i,rfl,by simp⟩
  |false=>
   obtain⟨j,V,Z⟩:=I3 hf l (i+1)
   exact⟨j,V,by rw [Z];rfl⟩
def N7{f:dl->Option Bool}{p:dl->Bool}(hf: ∀x,f x=some (p x))(l:List dl):fj l f=some (l.any p):=by
 obtain⟨j,V,Z⟩:=I3 hf l 0
 unfold fj iM
 rw [V,bH,Z]
def I4{f:fQ->Option Bool}{p:fQ->Bool}(hf: ∀x,f x=some (p x)): ∀(l:List fQ) (i:Nat),∃j:Int,eh f l i=some j/\decide (0<=j)=l.any p
 |[],i=>⟨-1,rfl,rfl⟩
 |x::l,i=>by
  unfold eh
  rw [hf,bH,w7]
  cases A:p x with
  |true=>exact⟨i,rfl,by simp⟩
  |false=>
   obtain⟨j,V,Z⟩:=I4 hf l (i+1)
   exact⟨j,V,by rw [Z];rfl⟩
def N8{f:fQ->Option Bool}{p:fQ->Bool}(hf: ∀x,f x=some (p x))(l:List fQ):fk l f=some (l.any p):=by
 obtain⟨j,V,Z⟩:=I4 hf l 0
 unfold fk iN
 rw [V,bH,Z]
def xA(tag:Int):Bool:=tag==3||(decide (8<=tag)&&decide (tag<=11))
def p7:List (Int×Int):=[(3,1),(8,2),(9,3),(10,4),(11,5)]
def Bf:qI=some p7:=by kernel_rfl
def Ui(tag:Int):decide ((0:Int)<((ij p7 tag).getD (0:Int)))=xA tag:=by
 unfold p7 xA
 simp only [ij]
 by_cases h3:tag=3
 ·subst h3;decide
 by_cases h8:tag=8
 ·subst h8;decide
 by_cases h9:tag=9
 ·subst h9;decide
 by_cases h10:tag=10
 ·subst h10;decide
 by_cases h11:tag=11
 ·subst h11;decide
 have e1: ¬(3:Int)=tag:=fun h=>h3 h.symm
 have e2: ¬(8:Int)=tag:=fun h=>h8 h.symm
 have e3: ¬(9:Int)=tag:=fun h=>h9 h.symm
 have e4: ¬(10:Int)=tag:=fun h=>h10 h.symm
 have e5: ¬(11:Int)=tag:=fun h=>h11 h.symm
 have e6:(tag==3)=false:=by simpa using h3
 have e7:(decide (8<=tag)&&decide (tag<=11))=false:=by simp;omega
 simp [e1,e2,e3,e4,e5,e6,e7]
def Rm(t:dj):Bool:=t.Nodes.any fun n=>xA n.Tag
def vD(s:aQ):Bool:=(decide (0<s.Group.length)||decide (0<s.Having.Nodes.length))||s.Items.any fun x=>Rm x.Tree
def Oy(s:aQ):vc s=some (vD s):=by
 unfold vc vD
 rw [Bf,bH]
 have V: ∀n,nw p7 n=some (xA n.Tag):=fun n=>by unfold nw;rw [Ui]
 have Z: ∀x,pz p7 x=some (Rm x.Tree):=fun x=>by unfold pz Rm;rw [N7 V,bH]
 rw [N8 Z,bH]
 have e1:decide ((0:Int)<(s.Group.length:Int))=decide (0<s.Group.length):=by rw [AG];omega
 have e2:decide ((0:Int)<(s.Having.Nodes.length:Int))=decide (0<s.Having.Nodes.length):=by rw [AG];omega
 rw [e1,e2]
 cases (decide (0<s.Group.length)||decide (0<s.Having.Nodes.length))<;>rfl
def GB: ∀(l:List dl),rD l=some (l.any fun n=>xA n.Tag)
 |[]=>rfl
 |x::l=>by
  unfold rD
  rw [show k9 x.Tag=some (xA x.Tag)from rfl,bH,w7]
  cases xA x.Tag with
  |true=>rfl
  |false=>exact GB l
def vt: ∀(l:List fQ) (b:Bool),lI l b=some (b||l.any fun x=>Rm x.Tree)
 |[],b=>by simp [lI]
 |x::l,b=>by
  unfold lI
  rw [show DP x.Tree=some (Rm x.Tree)from GB x.Tree.Nodes,w7]
  cases b with
  |true=>simp only [rn,lu,jQ,bH];rw [vt l true];rfl
  |false=>simp only [Cd,jo,bH];rw [vt l (Rm x.Tree)];simp
def GC(s:aQ):tm s=some (vD s):=by
 unfold tm vD
 have e1:decide ((0:Int)<(s.Group.length:Int))=decide (0<s.Group.length):=by rw [AG];omega
 have e2:decide ((0:Int)<(s.Having.Nodes.length:Int))=decide (0<s.Having.Nodes.length):=by rw [AG];omega
 rw [vt,e1,e2]
def Hy(c:aR)(t:Int):Bool:=decide (t<0)||decide ((c.Tables.length:Int)<=t)
def kJ(c:aR)(t:Int):List cd:=((c.Tables[t.toNat]?).map fun x=>x.Columns).getD []
def oH(c:aR)(ts:List Int):List Int:=ts.flatMap fun t=>(kJ c t).map fun x=>x.Kind
def Ur(c:aR):Prop:= ∀t∈c.Tables,t.Columns.length<=1000
def yq{c:aR}(h:Ur c)(t:Int):(kJ c t).length<=1000:=by
 unfold kJ
 cases A:c.Tables[t.toNat]? with
 |none=>simp
 |some x=>exact h x (uk A)
def FG{c:aR}{t:Int}(h:Hy c t=false): ∃x,fB c.Tables t=some x/\x.Columns=kJ c t/\x∈c.Tables:=by
 simp only [Hy,ED,qM]at h
 have hlt:t.toNat<c.Tables.length:=by omega
 refine⟨c.Tables[t.toNat],?_,?_,KD ..⟩
 ·unfold fB;rw [cz (by omega),lP hlt]
 ·unfold kJ;rw [lP hlt];rfl
def LH(nx:List Int->Option (List Int)): ∀(l:List cd) (out:List Int),out.length+l.length<=68719476736->mS nx l out=nx (out++l.map fun x=>x.Kind)
 |[],out,_=>by simp [mS]
 |x::l,out,h=>by
  simp only [jm]at h
  unfold mS oI
  rw [cz (by simp;omega),bH,LH nx l _ (by simp;omega)]
  simp
def LI{c:aR}(hc:Ur c): ∀(l:List Int) (out:List Int),(∀t∈l,Hy c t=false)->out.length+l.length*1000<=68719476736->lG c l out=some (out++oH c l)
 |[],out,_,_=>by simp [lG,oH]
 |t::l,out,h,hl=>by
  simp only [jm]at hl
  obtain⟨x,V,Z,_⟩:=FG (h t (oa ..))
  have h3:=yq hc t
  unfold lG
  rw [V,bH,LH _ _ _ (by rw [Z];omega),LI hc l _ (fun t M=>h t (oD _ M)) (by rw [Z];simp;omega),Z]
  simp [oH]
def NF{c:aR}(hc:Ur c){l:List Int}(h: ∀t∈l,Hy c t=false)(hl:l.length<=1000):BU c l=some (oH c l):=by
 unfold BU
 rw [LI hc l [] h (by simp;omega)];rfl
def GA(c:aR): ∀(l:List Int) (out:List Int),lW c l out=lG c l out:=by
 have Z: ∀(nx:List Int->Option (List Int)) (l:List cd) (out:List Int),o7 nx l out=mS nx l out:=by
  intro nx l
  induction l with
  |nil=>intro out;rfl
  |cons x l ih=>intro out;unfold o7 mS;exact congrArg _ (funext fun y=>ih y)
 intro l
 induction l with
 |nil=>intro out;rfl
 |cons t l ih=>
  intro out
  unfold lW lG
  refine congrArg _ (funext fun e=>?_)
  rw [Z,show lW c l=lG c l from funext ih]
def JJ{c:aR}(hc:Ur c){l:List Int}(h: ∀t∈l,Hy c t=false)(hl:l.length<=1000):jV c l=some (oH c l):=by
 have:=NF hc h hl
 unfold BU at this
 unfold jV
 rw [GA,this]
end Go.Proofs.YthbdkceckjihgaaGreatDoor


/- du of this claim: B3. -/
set_option linter.all false
namespace Go.Proofs.YthbdkceckjihgaaGreatDoor
open Go

def Q4(tag:Int):Option Nat:=if 1<=tag/\tag<=3 then some 0 else if 4<=tag/\tag<=11 then some 1 else if 12<=tag/\tag<=23 then some 2 else none
def zy(tag:Int):Int:=match Q4 tag with
 |some k=>(k:Int)
 |none=> -1
def Dj(tag:Int):Ay tag=some (zy tag):=by
 unfold Ay zy Q4
 by_cases h0:tag<1\/23<tag
 ·rw [cz (show(decide (tag<1)||decide (23<tag))=true by simpa using h0),cr (show¬(1<=tag/\tag<=3) by omega),cr (show¬(4<=tag/\tag<=11) by omega),cr (show¬(12<=tag/\tag<=23) by omega)]
 rw [cr (show¬(decide (tag<1)||decide (23<tag))=true by simpa using h0)]
 by_cases V:tag<=3
 ·rw [cz (show decide (tag<=3)=true by simpa using V),cz (show 1<=tag/\tag<=3 by omega)];rfl
 rw [cr (show¬decide (tag<=3)=true by simpa using V),cr (show¬(1<=tag/\tag<=3) by omega)]
 by_cases Z:tag<=11
 ·rw [cz (show decide (tag<=11)=true by simpa using Z),cz (show 4<=tag/\tag<=11 by omega)];rfl
 rw [cr (show¬decide (tag<=11)=true by simpa using Z),cr (show¬(4<=tag/\tag<=11) by omega),cz (show 12<=tag/\tag<=23 by omega)];rfl
def rJ(tag:Int):tU tag=some (zy tag):=Dj tag
def Mu(up:List Int)(ws:List cS): ∀(n i:Nat),i+n=ws.length->mp up ws n i=some (!(ws.drop i).any fun w=>w==oL up):=by
 intro n
 induction n with
 |zero=>intro i h;unfold mp;rw [rp (by omega)];rfl
 |succ n ih=>
  intro i h
  have hi:i<ws.length:=by omega
  unfold mp
  rw [kr,lP hi,bH,sG hi,w7]
  cases A:(ws[i]==oL up)with
  |true=>rw [cz rfl];rfl
  |false=>rw [cr (by simp),ih (i+1) (by omega)];rfl
def Pu(s:cS){i:Nat}(hi:i<s.length):uy s (i:Int)=some ((s[i]).toNat:Int):=by
 unfold uy
 rw [kr,lP hi];rfl
def GG:zt=some Yi:=rfl
def Mv(s:cS)(hs:s.length<=1000): ∀(n i:Nat) (up:List Int),s.length<i+n->i<=s.length->up.length<=i->oL up=(s.take i).map MN->lb s n up (i:Int)=some ((s.drop i).all Q7&& !F6 (s.map MN)):=by
 intro n
 induction n with
 |zero=>intro i up h Z _ _;omega
 |succ n ih=>
  intro i up h Z hl hu
  unfold lb
  by_cases hi:i<s.length
  ·rw [cz (by rw [nE];omega),Pu s hi,bH,sG hi,tI]
   have hw:IntKind.i64.wrap ((i:Int)+1)=((i+1:Nat):Int):=by rw [Bl];omega
   have hlt:=(s[i]).toNat_lt
   have htake:s.take (i+1)=s.take i++[s[i]]:=by rw [MF hi]
   have hok:Q7 s[i]=(jk (s[i]).toNat||vJ (s[i]).toNat||(s[i]).toNat==95):=rfl
   have e1:(((!((decide ((97:Int)<=((s[i]).toNat:Int)))&&(decide (((s[i]).toNat:Int)<=(122:Int)))))&&((decide (((s[i]).toNat:Int)<(48:Int)))||(decide ((57:Int)<((s[i]).toNat:Int)))))&&(((s[i]).toNat:Int) !=(95:Int)))= !Q7 s[i]:=by
    rw [hok,wZ]
    simp [jk,vJ]
    omega
   rw [e1]
   cases ho:Q7 s[i]with
   |false=>simp
   |true=>
    simp only [rn,lu,jQ,wK]
    have e2:((decide ((97:Int)<=((s[i]).toNat:Int)))&&(decide (((s[i]).toNat:Int)<=(122:Int))))=jk (s[i]).toNat:=by
     rw [wZ];simp [jk];omega
    rw [e2]
    cases hsm:jk (s[i]).toNat with
    |true=>
     have h97:97<=(s[i]).toNat/\(s[i]).toNat<=122:=by simpa [jk] using hsm
     have hc:IntKind.u8.wrap (((s[i]).toNat:Int)-32)=(((s[i]).toNat-32:Nat):Int):=by
      rw [IntKind.wrap_u8];omega
     rw [cz rfl,hc]
     unfold oj
     rw [dH (by simp;omega),bH,hw]
     refine ih (i+1) _ (by omega) (by omega) (by simp;omega) ?_
     rw [uL,hu,htake,Im]
     congr 1
     show oL [_]=_
     simp only [oL,uG,Ez]
     congr 1
     simp [MN,hsm]
    |false=>
     rw [cr (by simp)]
     unfold oj
     rw [dH (by simp;omega),bH,hw]
     refine ih (i+1) _ (by omega) (by omega) (by simp;omega) ?_
     rw [uL,hu,htake,Im]
     congr 1
     show oL [_]=_
     simp only [oL,uG,Ez]
     congr 1
     simp [MN,hsm]
  ·rw [cr (by rw [nE];omega),rp (by omega)]
   have hi' :i=s.length:=by omega
   rw [GG,bH,Mu up Yi 28 0 rfl,sC,hu,hi',AU]
   rfl
def qE(s:cS):nO s=some (jx s):=by
 unfold nO jx
 cases s with
 |nil=>rfl
 |cons b t=>
  by_cases hl:(b::t).length<=16
  ·rw [cz (by rw [AI,ED,qM,qM];simp at hl ⊢;omega),D2,bH,bH]
   have e0:(decide (1<=(b::t).length)&&decide ((b::t).length<=16)&&Pv (b::t))=jk b.toNat:=by
    rw [rr (show 1<=(b::t).length by simp),rr hl];rfl
   rw [e0]
   by_cases h97:97<=b.toNat
   ·have d1:decide ((b.toNat:Int)<(97:Int))=false:=by rw [qM];omega
    rw [d1]
    simp only [Cd,jo,bH]
    by_cases h122:b.toNat<=122
    ·have d2:decide ((122:Int)<(b.toNat:Int))=false:=by rw [qM];omega
     have d3:jk b.toNat=true:=by simp [jk];omega
     rw [d2,d3]
     simp only [lu,jQ,wK]
     have:=Mv (b::t) (by omega) gi 0 [] (by unfold gi;omega) (jW _) (gc _) rfl
     rw [show((0:Int))=((0:Nat):Int)from rfl,this,sC,Bool.and_comm]
    ·have d2:decide ((122:Int)<(b.toNat:Int))=true:=by rw [nE];omega
     have d3:jk b.toNat=false:=by simp [jk];omega
     rw [d2,d3];rfl
   ·have d1:decide ((b.toNat:Int)<(97:Int))=true:=by rw [nE];omega
    have d3:jk b.toNat=false:=by simp [jk];omega
    rw [d1,d3];rfl
  ·rw [cr (by rw [AI,ED,qM,qM];omega)]
   rw [uj hl]
   simp
def nS(s:cS):Bool:=s==[]||jx s
def vd(s:cS):s7 s=some (nS s):=by
 unfold s7 nS
 rw [lE]
 cases (s==([]:cS))<;>rfl
def o9(s:cS):nF s=some (nS s):=by
 unfold nF nS
 rw [qE]
 cases (s==([]:cS))<;>rfl
def nK(s:ef):Bool:=jx s.Table&&nS s.As
def Be(s:ef):vK s=some (nK s):=by
 unfold vK nK
 rw [lE,vd]
 cases jx s.Table<;>rfl
def yH(s:ef):rG s=some (nK s):=by
 unfold rG nK
 rw [qE,o9]
 cases jx s.Table<;>rfl
def Uw(b:UInt8):Bool:=decide (32<=b.toNat)&&decide (b.toNat<=126)
def Sg(s:cS){i:Nat}(hi:i<s.length){β:Type}(x y:Option β):(((uy s (i:Int)).bind fun b=>(if(!(decide (b<(32:Int))))then((uy s (i:Int)).bind fun b1=>some (decide ((126:Int)<b1)))else some true).bind fun t=>if t then x else y))=if Uw s[i]then y else x:=by
 rw [Pu s hi]
 simp only [bH]
 unfold Uw
 by_cases V:(s[i]).toNat<32
 ·have d1:decide (((s[i]).toNat:Int)<32)=true:=by rw [nE];omega
  have d2:decide (32<=(s[i]).toNat)=false:=by rw [qM];omega
  rw [d1,d2];rfl
 ·have d1:decide (((s[i]).toNat:Int)<32)=false:=by rw [qM];omega
  have d2:decide (32<=(s[i]).toNat)=true:=by rw [nE];omega
  rw [d1,d2]
  by_cases h3:(s[i]).toNat<=126
  ·have d3:decide ((126:Int)<((s[i]).toNat:Int))=false:=by rw [qM];omega
   have d4:decide ((s[i]).toNat<=126)=true:=by rw [nE];omega
   rw [d3,d4];rfl
  ·have d3:decide ((126:Int)<((s[i]).toNat:Int))=true:=by rw [nE];omega
   have d4:decide ((s[i]).toNat<=126)=false:=by rw [qM];omega
   rw [d3,d4];rfl
def MG(s:cS)(hs:s.length<=100000): ∀(n i:Nat),s.length<i+n->i<=s.length->pA s n (i:Int)=some ((s.drop i).all Uw):=by
 intro n
 induction n with
 |zero=>intro i h Z;omega
 |succ n ih=>
  intro i h Z
  unfold pA
  by_cases hi:i<s.length
  ·have hw:IntKind.i64.wrap ((i:Int)+1)=((i+1:Nat):Int):=by rw [Bl];omega
   rw [cz (by rw [nE];omega),Sg s hi,sG hi,tI,hw,ih (i+1) (by omega) (by omega)]
   cases Uw s[i]<;>rfl
  ·rw [cr (by rw [nE];omega),rp (by omega)];rfl
def Ah(v:cJ):Bool:=ux v&&decide (0<=v.N)
def ND(v:cJ)(hs:v.S.length<=100000): ∀(n i:Nat),v.S.length<i+n->i<=v.S.length->nc v n (i:Int)=some ((v.S.drop i).all Uw&&Ah v):=by
 intro n
 induction n with
 |zero=>intro i h Z;omega
 |succ n ih=>
  intro i h Z
  unfold nc
  by_cases hi:i<v.S.length
  ·have hw:IntKind.i64.wrap ((i:Int)+1)=((i+1:Nat):Int):=by rw [Bl];omega
   rw [cz (by rw [nE];omega),Sg v.S hi,sG hi,tI,hw,ih (i+1) (by omega) (by omega)]
   cases Uw v.S[i]<;>rfl
  ·rw [cr (by rw [nE];omega),rp (by omega),pe];rfl
def uB(n:dl):Bool:=
 if n.Tag=1 then(n.Table==[]&&n.Name==[])&&(Ah n.Value&&n.Value.S.all Uw)
 else if n.Tag=2 then decide (n.Value=(⟨0,0,0,[]⟩:cJ))&&(jx n.Name&&nS n.Table)
 else decide (n.Value=(⟨0,0,0,[]⟩:cJ))&&(n.Table==[]&&n.Name==[])
def yR(n:dl):Prop:=n.Value.S.length<=100000
def Ie{n:dl}(hs:yR n):yw n=some (uB n):=by
 unfold yw uB
 by_cases V:n.Tag=1
 ·rw [cz (by simpa using V),cz V,zf]
  have hw:=MG n.Value.S hs gi 0 (by unfold gi yR at*;omega) (jW _)
  rw [show zR n.Value.S=some (n.Value.S.all Uw)from hw]
  unfold Ah
  cases (n.Table==([]:cS))<;>cases (n.Name==([]:cS))<;>cases ux n.Value<;>cases decide (0<=n.Value.N)<;>rfl
 ·rw [cr (by simpa using V),cr V]
  by_cases Z:n.Tag=2
  ·rw [cz (by simpa using Z),cz Z,lE,vd]
   cases decide (n.Value=(⟨0,0,0,[]⟩:cJ))<;>cases jx n.Name<;>rfl
  ·rw [cr (by simpa using Z),cr Z]
   cases decide (n.Value=(⟨0,0,0,[]⟩:cJ))<;>cases (n.Table==([]:cS))<;>cases (n.Name==([]:cS))<;>rfl
def qD{n:dl}(hs:yR n):uT n=some (uB n):=by
 unfold uT uB
 by_cases V:n.Tag=1
 ·rw [cz (by simpa using V),cz V]
  have hw:=ND n.Value hs gi 0 (by unfold gi yR at*;omega) (jW _)
  rw [show wP n.Value=some (n.Value.S.all Uw&&Ah n.Value)from hw]
  cases (n.Table==([]:cS))<;>cases (n.Name==([]:cS))<;>cases Ah n.Value<;>cases n.Value.S.all Uw<;>rfl
 ·rw [cr (by simpa using V),cr V]
  by_cases Z:n.Tag=2
  ·rw [cz (by simpa using Z),cz Z,qE,o9]
   cases decide (n.Value=(⟨0,0,0,[]⟩:cJ))<;>cases jx n.Name<;>rfl
  ·rw [cr (by simpa using Z),cr Z]
   cases decide (n.Value=(⟨0,0,0,[]⟩:cJ))<;>cases (n.Table==([]:cS))<;>cases (n.Name==([]:cS))<;>rfl
inductive Bt where
 |lf (n:dl)
 |un (n:dl) (a:Bt)
 |bi (n:dl) (a b:Bt)
 deriving Inhabited
def Bt.size:Bt->Nat
 | .lf _=>1
 | .un _ a=>a.size+1
 | .bi _ a b=>a.size+b.size+1
def putA(n:dl)(l r:Int):dl:={n with L:=l,R:=r}
def Bt.flat:Bt->Nat->List dl
 | .lf n,_=>[putA n (-1) (-1)]
 | .un n a,s=>a.flat s++[putA n ((s+a.size:Nat)-1) (-1)]
 | .bi n a b,s=>a.flat s++b.flat (s+a.size)++[putA n ((s+a.size:Nat)-1) ((s+a.size+b.size:Nat)-1)]
def okA(k:Nat)(n:dl):Prop:=Q4 n.Tag=some k/\uB n=true/\n.L= -1/\n.R= -1
def Bt.wf:Bt->Prop
 | .lf n=>okA 0 n
 | .un n a=>okA 1 n/\a.wf
 | .bi n a b=>okA 2 n/\a.wf/\b.wf
def Bt.depth:Bt->Nat
 | .lf _=>1
 | .un _ a=>a.depth+1
 | .bi _ a b=>max a.depth b.depth+1
def Bt.size_pos(t:Bt):0<t.size:=by cases t<;>simp [Bt.size]
def Bt.flat_len(t:Bt): ∀s,(t.flat s).length=t.size:=by
 induction t with
 |lf n=>intro s;rfl
 |un n a ih=>intro s;simp [Bt.flat,Bt.size,ih]
 |bi n a b iha ihb=>intro s;simp [Bt.flat,Bt.size,iha,ihb];omega
def cH:List Bt->Nat
 |[]=>0
 |t::st=>cH st+t.size
def ya:List Bt->List dl
 |[]=>[]
 |t::st=>ya st++t.flat (cH st)
def Gi: ∀st:List Bt,st.length<=cH st
 |[]=>gc _
 |t::st=>by have:=Gi st;have:=t.size_pos;simp [cH];omega
def CP(st:List Bt)(n:dl):Option (List Bt):=
 match Q4 n.Tag,st with
 |some 0,st=>if uB n&&n.L== -1&&n.R== -1 then some (.lf (putA n (-1) (-1))::st)else none
 |some 1,a::st=>if uB n&&n.L==((cH st+a.size:Nat):Int)-1&&n.R== -1 then some (.un (putA n (-1) (-1)) a::st)else none
 |some 2,b::a::st=>if uB n&&n.L==((cH st+a.size:Nat):Int)-1&&n.R==((cH st+a.size+b.size:Nat):Int)-1 then some (.bi (putA n (-1) (-1)) a b::st)else none
 |_,_=>none
def mO:List dl->List Bt->Option (List Bt)
 |[],st=>some st
 |n::ns,st=>(CP st n).bind (mO ns)
def UP(st:List Bt):Prop:= ∀t∈st,t.wf
def Af{n:dl}{l r:Int}(h:n.L=l)(Z:n.R=r):putA (putA n (-1) (-1)) l r=n:=by subst h Z;rfl
def Ht{n:dl}{l r:Int}:uB (putA n l r)=uB n:=rfl
def Nm{st st' :List Bt}{n:dl}(h:CP st n=some st')(hw:UP st):ya st' =ya st++[n]/\cH st' =cH st+1/\UP st' :=by
 unfold CP at h
 split at h
 ·rename_i k st0 hk
  split at h
  ·rename_i hc
   simp only [jR,vW]at hc
   obtain⟨⟨V,Z⟩,h3⟩:=hc
   cases h
   refine⟨?_,rfl,fun t M=>?_⟩
   ·simp only [ya,Bt.flat]
    rw [Af Z h3]
   ·rcases gw.1 M with rfl|M
    ·exact⟨hk,V,rfl,rfl⟩
    ·exact hw t M
  ·cases h
 ·rename_i k a st0 hk
  split at h
  ·rename_i hc
   simp only [jR,vW]at hc
   obtain⟨⟨V,Z⟩,h3⟩:=hc
   cases h
   refine⟨?_,by simp [cH,Bt.size];omega,fun t M=>?_⟩
   ·simp only [ya,Bt.flat]
    rw [Af Z h3,gK]
   ·rcases gw.1 M with rfl|M
    ·exact⟨⟨hk,V,rfl,rfl⟩,hw a (oa ..)⟩
    ·exact hw t (oD _ M)
  ·cases h
 ·rename_i k b a st0 hk
  split at h
  ·rename_i hc
   simp only [jR,vW]at hc
   obtain⟨⟨V,Z⟩,h3⟩:=hc
   cases h
   refine⟨?_,by simp [cH,Bt.size];omega,fun t M=>?_⟩
   ·simp only [ya,Bt.flat,cH]
    rw [Af Z h3]
    simp only [gK]
   ·rcases gw.1 M with rfl|M
    ·exact⟨⟨hk,V,rfl,rfl⟩,hw a (oD _ (oa ..)),hw b (oa ..)⟩
    ·exact hw t (oD _ (oD _ M))
  ·cases h
 ·cases h
def EK: ∀{ns:List dl} {st st' :List Bt},mO ns st=some st' ->UP st->ya st' =ya st++ns/\UP st'
 |[],st,st',h,hw=>by cases h;simp [hw]
 |n::ns,st,st',h,hw=>by
  unfold mO at h
  cases hp:CP st n with
  |none=>rw [hp]at h;cases h
  |some st1=>
   rw [hp]at h
   obtain⟨V,_,h3⟩:=Nm hp hw
   obtain⟨h4,h5⟩:=EK (ns:=ns) h h3
   exact⟨by rw [h4,V];simp,h5⟩
def tu: ∀(ns ms:List dl) (st:List Bt),mO (ns++ms) st=(mO ns st).bind (mO ms)
 |[],ms,st=>rfl
 |n::ns,ms,st=>by
  simp only [yU,mO]
  cases CP st n with
  |none=>rfl
  |some st1=>exact tu ns ms st1
def Lt(t:Bt): ∀(st:List Bt),t.wf->mO (t.flat (cH st)) st=some (t::st):=by
 induction t with
 |lf n=>
  intro st ⟨V,Z,h3,h4⟩
  have hn' :putA n (-1) (-1)=n:=by cases n;simp only at h3 h4;subst h3 h4;rfl
  simp only [Bt.flat,mO,CP,hn']
  rw [V]
  simp [Z,h3,h4,mO,hn']
 |un n a ih=>
  intro st ⟨⟨V,Z,h3,h4⟩,ha⟩
  have hn' :putA n (-1) (-1)=n:=by cases n;simp only at h3 h4;subst h3 h4;rfl
  simp only [Bt.flat]
  rw [tu,ih st ha]
  simp only [bH,mO,CP]
  have e1:(putA n (((cH st+a.size:Nat):Int)-1) (-1)).Tag=n.Tag:=rfl
  rw [e1,V]
  have e2:uB (putA n (((cH st+a.size:Nat):Int)-1) (-1))=true:=Z
  rw [e2]
  simp only [putA,AV,Bool.and_self,jo,bH,mO]
  simp only [putA]at hn'
  rw [hn']
 |bi n a b iha ihb=>
  intro st ⟨⟨V,Z,h3,h4⟩,ha,Y⟩
  have hn' :putA n (-1) (-1)=n:=by cases n;simp only at h3 h4;subst h3 h4;rfl
  simp only [Bt.flat]
  rw [tu,tu,iha st ha]
  simp only [bH]
  have e0:cH st+a.size=cH (a::st):=rfl
  rw [e0,ihb (a::st) Y]
  simp only [bH,mO,CP]
  have e1:(putA n (((cH (a::st):Nat):Int)-1) (((cH (a::st)+b.size:Nat):Int)-1)).Tag=n.Tag:=rfl
  rw [e1,V]
  have e2:uB (putA n (((cH (a::st):Nat):Int)-1) (((cH (a::st)+b.size:Nat):Int)-1))=true:=Z
  rw [e2]
  simp only [putA,cH,AV,Bool.and_self,jo,bH,mO]
  simp only [putA]at hn'
  rw [hn']
def SS:List Bt->Bool
 |[t]=>decide (t.size<=300)&&decide (t.depth<=20)
 |_=>false
def AY(ns:List dl):Option Bt:=match mO ns []with
 |some [t]=>if t.size<=300/\t.depth<=20 then some t else none
 |_=>none
def xL{ns:List dl}{t:Bt}(h:AY ns=some t):t.wf/\ns=t.flat 0/\t.size<=300/\t.depth<=20:=by
 unfold AY at h
 split at h
 ·rename_i t0 hp
  split at h
  ·rename_i hl
   cases h
   obtain⟨V,Z⟩:=EK hp (fun t M=>by cases M)
   simp only [ya,cH,qg]at V
   exact⟨Z t (oa ..),V.symm,hl⟩
  ·cases h
 ·cases h
def MP{t:Bt}(h:t.wf)(hs:t.size<=300)(hd:t.depth<=20):AY (t.flat 0)=some t:=by
 unfold AY
 have h0:=Lt t [] h
 simp only [cH]at h0
 rw [h0]
 simp only [hs,hd,and_self,jo]
end Go.Proofs.YthbdkceckjihgaaGreatDoor


/- du of this claim: B4. -/
set_option linter.all false
namespace Go.Proofs.YthbdkceckjihgaaGreatDoor
open Go

def Oh:Bt->Nat->List mf
 | .lf _,s=>[⟨(s:Int),1⟩]
 | .un _ a,s=>Oh a s++[⟨(s:Int),((a.depth+1:Nat):Int)⟩]
 | .bi _ a b,s=>Oh a s++Oh b (s+a.size)++[⟨(s:Int),((max a.depth b.depth+1:Nat):Int)⟩]
def Dh:List Bt->List mf
 |[]=>[]
 |t::st=>Dh st++Oh t (cH st)
def nM:List Bt->List Int
 |[]=>[]
 |t::st=>nM st++[((cH st+t.size:Nat):Int)-1]
def vb(t:Bt): ∀s,(Oh t s).length=t.size:=by
 induction t with
 |lf n=>intro s;rfl
 |un n a ih=>intro s;simp [Oh,Bt.size,ih]
 |bi n a b iha ihb=>intro s;simp [Oh,Bt.size,iha,ihb];omega
def ua: ∀st:List Bt,(Dh st).length=cH st
 |[]=>rfl
 |t::st=>by simp [Dh,cH,ua st,vb]
def ee: ∀st:List Bt,(nM st).length=st.length
 |[]=>rfl
 |t::st=>by simp [nM,ee st]
def Bt.depth_size(t:Bt):t.depth<=t.size:=by
 induction t with
 |lf n=>exact gc _
 |un n a ih=>simp [Bt.size,Bt.depth,ih]
 |bi n a b iha ihb=>simp [Bt.size,Bt.depth];omega
def Ue(t:Bt)(s:Nat):(Oh t s)[t.size-1]? =some ⟨(s:Int),(t.depth:Int)⟩:=by
 cases t with
 |lf n=>rfl
 |un n a=>simp only [Oh,Bt.size];rw [xI (by rw [vb];omega),vb];simp [Bt.depth]
 |bi n a b=>simp only [Oh,Bt.size];rw [xI (by simp [vb]),pF,vb,vb];simp [Bt.depth]
def Ax(t:Bt)(st:List Bt)(rest:List mf):(Dh st++Oh t (cH st)++rest)[cH st+t.size-1]? =some ⟨(cH st:Int),(t.depth:Int)⟩:=by
 have:=t.size_pos
 rw [E0 (by rw [pF,ua,vb];omega),xI (by rw [ua];omega),ua,show cH st+t.size-1-cH st=t.size-1 from by omega]
 exact Ue t _
def Zk{β:Type}(a b l r:Int)(x y:Option β):((fB [a,b] (0:Int)).bind fun e2=>(if(!(l !=e2))then((fB [a,b] (1:Int)).bind fun e3=>some (r !=e3))else some true).bind fun t3=>if t3 then x else y)=if(l==a&&r==b)then y else x:=by
 have h0:fB [a,b] (0:Int)=some a:=rfl
 have V:fB [a,b] (1:Int)=some b:=rfl
 rw [h0,V]
 simp only [bH]
 by_cases hl:l=a
 ·subst hl
  simp only [bne_self_eq_false,Cd,jo,bH,AV,wK]
  by_cases hr:r=b
  ·subst hr;simp
  ·have:(r==b)=false:=by simpa using hr
   simp [bne,this]
 ·have:(l==a)=false:=by simpa using hl
  simp [bne,this]
def LV: ∀(ns:List dl) (st:List Bt),(∀n∈ns,yR n)->cH st+ns.length<=100000->n8 ns (cH st) (Dh st) (nM st)=some (match mO ns st with
   |some st' =>(Dh st',SS st')
   |none=>([],false)):=by
 intro ns
 induction ns with
 |nil=>
  intro st _ _
  simp only [n8,mO,ee,ua]
  match st with
  |[]=>rfl
  |[t]=>
   have hp:=t.size_pos
   have hl:=Ax t [] []
   simp only [Dh,cH,Ce,qg,sB]at hl ⊢
   have e1:(((([t]:List Bt).length:Nat):Int)==(1:Int))=true:=rfl
   rw [e1]
   simp only [SS,wK]
   by_cases hs:t.size<=300
   ·rw [cz (by rw [nE];omega),j3 (t.size-1) (by rw [d6 (by omega) (by omega)];omega),hl]
    simp only [bH]
    rw [rr hs,wK]
    congr 2
    rw [AG];omega
   ·rw [cr (by rw [nE];omega),uj hs];rfl
  |a::b::st=>
   have e1:((((a::b::st).length:Nat):Int)==(1:Int))=false:=by simp;omega
   rw [e1];rfl
 |cons n ns ih=>
  intro st hS hs
  have hSn:=hS n (oa ..)
  have ih:=fun st=>ih st (fun m hm=>hS m (oD _ hm))
  simp only [jm]at hs
  have hll:=Gi st
  unfold n8
  rw [Dj]
  simp only [bH,ee,Ie hSn]
  unfold mO
  unfold CP
  -- the parts
  cases hk:Q4 n.Tag with
  |none=>
   have e:zy n.Tag= -1:=by unfold zy;rw [hk]
   simp [e]
  |some k=>
   have e:zy n.Tag=(k:Int):=by unfold zy;rw [hk]
   have hk3:k=0\/k=1\/k=2:=by
    unfold Q4 at hk
    repeat' split at hk
    all_goals simp at hk
    all_goals omega
   rw [e]
   rcases hk3 with rfl|rfl|rfl
   ·-- none
    simp only []
    have c1:(decide (((0:Nat):Int)<0)||decide ((st.length:Int)<((0:Nat):Int)))=false:=by simp
    simp only [c1,Cd,jo,bH]
    cases hc:uB n with
    |false=>simp
    |true=>
     simp only [rn,lu,jQ,wK]
     rw [kO st.length st.length (by rw [d6 (by omega) (by omega)];omega) rfl (gc _) (by rw [ee];exact gc _)]
     have hd:(List.take st.length (nM st)).drop st.length=[]:=rp (by simp;omega)
     rw [hd,bH,show wF [(-1:Int),-1] []=[-1,-1]from rfl,Zk]
     cases Y:(n.L== -1&&n.R== -1)with
     |false=>simp
     |true=>
      simp only [jo,p3]
      rw [dH (by simp only [jm,sD,ua];omega)]
      simp only [bH]
      rw [kO (i:=0) 0 st.length rfl (by rw [ee,d6 (by omega) (by omega)];omega) (jW _) (by rw [ee];exact gc _)]
      rw [rt (by rw [ee];exact gc _),sC]
      simp only [bH]
      rw [dH (by simp only [jm,sD,ee];omega)]
      simp only [bH]
      have Z:=ih (.lf (putA n (-1) (-1))::st) (by simp [cH,Bt.size];omega)
      simp only [cH,Bt.size,Dh,Oh,nM]at Z
      rw [show(((cH st+1:Nat):Int)-1)=(cH st:Int)from by omega]at Z
      exact Z
   ·-- one
    cases st with
    |nil=>simp
    |cons a st=>
     simp only []
     have c1:(decide (((1:Nat):Int)<0)||decide (((a::st).length:Int)<((1:Nat):Int)))=false:=by simp;omega
     simp only [c1,Cd,jo,bH]
     cases hc:uB n with
     |false=>simp
     |true=>
      simp only [rn,lu,jQ,wK]
      simp only [jm]at hll ⊢
      simp only [cH]at hs hll
      have hap:=a.size_pos
      have hdp:=a.depth_size
      rw [kO st.length (st.length+1) (by rw [d6 (by omega) (by omega)];omega) (by omega) (by omega) (by rw [ee];exact gc _)]
      have hd:(List.take (st.length+1) (nM (a::st))).drop st.length=[((cH st+a.size:Nat):Int)-1]:=by
       rw [rt (by rw [ee];exact gc _)]
       simp only [nM]
       rw [ME (by rw [ee];exact gc _),rp (by rw [ee];exact gc _),qg]
      rw [hd,bH,show wF [(-1:Int),-1] [((cH st+a.size:Nat):Int)-1]=[((cH st+a.size:Nat):Int)-1,-1]from rfl,Zk]
      cases Y:(n.L==((cH st+a.size:Nat):Int)-1&&n.R== -1)with
      |false=>simp
      |true=>
       simp only [jo,p3]
       rw [j3 (cH st+a.size-1) (by omega)]
       have hf:=Ax a st []
       rw [Ce]at hf
       simp only [Dh]
       rw [hf]
       simp only [bH]
       rw [dH (by simp only [jm,sD,pF,ua,vb];omega)]
       simp only [bH]
       rw [kO (i:=0) 0 st.length rfl (by rw [ee,d6 (by simp<;>omega) (by simp<;>omega)];simp) (jW _) (by rw [ee];simp)]
       have M:(List.take st.length (nM (a::st))).drop 0=nM st:=by
        simp only [nM,sC]
        rw [zb (by rw [ee];exact gc _),rt (by rw [ee];exact gc _)]
       rw [M]
       simp only [bH]
       rw [dH (by simp only [jm,sD,ee];omega)]
       simp only [bH]
       have Z:=ih (.un (putA n (-1) (-1)) a::st) (by simp [cH,Bt.size];omega)
       simp only [cH,Bt.size,Dh,Oh,nM]at Z
       rw [show(((cH st+(a.size+1):Nat):Int)-1)=((cH st+a.size:Nat):Int)from by omega]at Z
       have hm:min ((cH (a::st):Nat):Int) (cH st:Int)=(cH st:Int):=by simp only [cH];omega
       have A:max (1:Int) (IntKind.i64.wrap ((a.depth:Int)+1))=((a.depth+1:Nat):Int):=by rw [d6 (by omega) (by omega)];omega
       rw [hm,A]
       simp only [gK]at Z ⊢
       exact Z
   ·-- two
    cases st with
    |nil=>simp
    |cons b st=>
     cases st with
     |nil=>simp
     |cons a st=>
      simp only []
      have c1:(decide (((2:Nat):Int)<0)||decide (((b::a::st).length:Int)<((2:Nat):Int)))=false:=by simp;omega
      simp only [c1,Cd,jo,bH]
      cases hc:uB n with
      |false=>simp
      |true=>
       simp only [rn,lu,jQ,wK]
       simp only [jm]at hll ⊢
       simp only [cH]at hs hll
       have hap:=a.size_pos
       have hbp:=b.size_pos
       have hda:=a.depth_size
       have hdb:=b.depth_size
       rw [kO st.length (st.length+1+1) (by rw [d6 (by omega) (by omega)];omega) (by omega) (by omega) (by rw [ee];exact gc _)]
       have hd:(List.take (st.length+1+1) (nM (b::a::st))).drop st.length=[((cH st+a.size:Nat):Int)-1,((cH st+a.size+b.size:Nat):Int)-1]:=by
        rw [rt (by rw [ee];exact gc _)]
        simp only [nM,cH,gK]
        rw [ME (by rw [ee];exact gc _),rp (by rw [ee];exact gc _),qg]
        rfl
       rw [hd,bH,show wF [(-1:Int),-1] [((cH st+a.size:Nat):Int)-1,((cH st+a.size+b.size:Nat):Int)-1]=[((cH st+a.size:Nat):Int)-1,((cH st+a.size+b.size:Nat):Int)-1]from rfl,Zk]
       cases Y:(n.L==((cH st+a.size:Nat):Int)-1&&n.R==((cH st+a.size+b.size:Nat):Int)-1)with
       |false=>simp
       |true=>
        simp only [jo,p3]
        simp only [Dh,cH]
        rw [j3 (cH st+a.size-1) (by omega)]
        rw [Ax a st (Oh b (cH st+a.size))]
        simp only [bH]
        rw [j3 (cH st+a.size+b.size-1) (by omega)]
        have hf:=Ax b (a::st) []
        rw [Ce]at hf
        simp only [Dh,cH]at hf
        rw [hf]
        simp only [bH]
        rw [dH (by simp only [jm,sD,pF,ua,vb];omega)]
        simp only [bH]
        rw [kO (i:=0) 0 st.length rfl (by rw [ee,d6 (by simp;omega) (by simp;omega)];simp;omega) (jW _) (by rw [ee];simp;omega)]
        have M:(List.take st.length (nM (b::a::st))).drop 0=nM st:=by
         simp only [nM,sC,gK]
         rw [zb (by rw [ee];exact gc _),rt (by rw [ee];exact gc _)]
        rw [M]
        simp only [bH]
        rw [dH (by simp only [jm,sD,ee];omega)]
        simp only [bH]
        have Z:=ih (.bi (putA n (-1) (-1)) a b::st) (by simp [cH,Bt.size];omega)
        simp only [cH,Bt.size,Dh,Oh,nM]at Z
        rw [show(((cH st+(a.size+b.size+1):Nat):Int)-1)=((cH st+a.size+b.size:Nat):Int)from by omega,show cH st+(a.size+b.size+1)=cH st+a.size+b.size+1 from by omega]at Z
        have hm:min (min (((cH st+a.size+b.size:Nat)):Int) (cH st:Int)) ((cH st+a.size:Nat):Int)=(cH st:Int):=by omega
        have A:max (max (1:Int) (IntKind.i64.wrap ((a.depth:Int)+1))) (IntKind.i64.wrap ((b.depth:Int)+1))=((max a.depth b.depth+1:Nat):Int):=by rw [d6 (by omega) (by omega),d6 (by omega) (by omega)];omega
        rw [hm,A]
        simp only [gK]at Z ⊢
        exact Z
def lR(ns:List dl):Bool:=(AY ns).isSome
def Si(ns:List dl):lR ns=(match mO ns []with
  |some st=>SS st
  |none=>false):=by
 unfold lR AY
 cases hp:mO ns []with
 |none=>rfl
 |some st=>
  match st with
  |[]=>rfl
  |[t]=>by_cases V:t.size<=300<;>by_cases Z:t.depth<=20<;>simp [SS,V,Z]
  |t::t2::st=>rfl
def HQ(t:dj)(hS: ∀n∈t.Nodes,yR n)(h:t.Nodes.length<=100000):tG t=some (if lR t.Nodes then 0 else 180):=by
 unfold tG Ep
 have:=LV t.Nodes [] hS (by simpa [cH] using h)
 simp only [cH,Dh,nM]at this
 rw [this,Si]
 cases hp:mO t.Nodes []with
 |none=>rfl
 |some st=>cases ho:SS st<;>simp [ho]
end Go.Proofs.YthbdkceckjihgaaGreatDoor


/- du of this claim: B5. -/
set_option linter.all false
namespace Go.Proofs.YthbdkceckjihgaaGreatDoor
open Go

def WG(t:Bt):t.wf-> ∀(P R N:List dl) (fu:Nat),(∀x∈N,yR x)->N=P++t.flat P.length++R->t.size<=fu->N.length<=100000->jv fu ⟨N⟩ (((P.length+t.size:Nat):Int)-1)=some ((t.size:Int),(t.depth:Int)):=by
 induction t with
 |lf n=>
  intro⟨V,Z,h3,h4⟩ P R N fu hS hN hf hl
  have hNl:=congrArg List.length hN
  simp only [pF,Bt.flat_len]at hNl
  simp only [Bt.size]at hf hNl ⊢
  obtain⟨fu,rfl⟩: ∃k,fu=k+1:=⟨fu-1,by omega⟩
  unfold jv
  have A:N[P.length]? =some (putA n (-1) (-1)):=by
   rw [hN,gK,xI (gc _),FV];rfl
  rw [cr (by simp;omega),j3 P.length (by omega),A]
  have hsx:=hS _ (uk A)
  have e1:(putA n (-1) (-1)).Tag=n.Tag:=rfl
  simp only [bH]
  rw [e1,rJ]
  have e:zy n.Tag=0:=by unfold zy;rw [V];rfl
  simp only [e,bH,qD hsx]
  have e2:uB (putA n (-1) (-1))=true:=Z
  rw [e2]
  simp [putA,Bt.depth]
 |un n a ih=>
  intro⟨⟨V,Z,h3,h4⟩,ha⟩ P R N fu hS hN hf hl
  obtain⟨m,hm⟩: ∃m,m=putA n (((P.length+a.size:Nat):Int)-1) (-1):=⟨_,rfl⟩
  have hNl:=congrArg List.length hN
  simp only [pF,Bt.flat_len]at hNl
  simp only [Bt.size]at hf hNl ⊢
  simp only [Bt.flat,<-hm]at hN
  obtain⟨fu,rfl⟩: ∃k,fu=k+1:=⟨fu-1,by omega⟩
  have hpos:=a.size_pos
  have hi:=ih ha P ([m]++R) N fu hS (by rw [hN];simp only [gK]) (by omega) hl
  unfold jv
  have A:N[P.length+a.size]? =some m:=by
   rw [hN,gK,gK,<-gK P,xI (by simp [a.flat_len])]
   simp [a.flat_len]
  rw [cr (by simp;omega),j3 (P.length+a.size) (by omega),A]
  have hsx:=hS _ (uk A)
  simp only [bH]
  have e1:m.Tag=n.Tag:=by rw [hm];rfl
  rw [e1,rJ]
  have e:zy n.Tag=1:=by unfold zy;rw [V];rfl
  simp only [e,bH,qD hsx]
  have e2:uB m=true:=by rw [hm];exact Z
  have eL:m.L=((P.length+a.size:Nat):Int)-1:=by rw [hm];rfl
  have eR:m.R= -1:=by rw [hm];rfl
  rw [d6 (n:=((P.length+(a.size+1):Nat):Int)-1-1) (by omega) (by omega),show(((P.length+(a.size+1):Nat):Int)-1-1)=(((P.length+a.size:Nat):Int)-1)from by omega]
  rw [hi]
  simp only [bH]
  have hda:=a.depth_size
  rw [d6 (n:=(a.size:Int)+1) (by omega) (by omega),d6 (n:=(a.depth:Int)+1) (by omega) (by omega)]
  have n1: ¬a.size=0:=by omega
  simp [e2,eL,eR,n1,Bt.depth]
 |bi n a b iha ihb=>
  intro⟨⟨V,Z,h3,h4⟩,ha,Y⟩ P R N fu hS hN hf hl
  obtain⟨m,hm⟩: ∃m,m=putA n (((P.length+a.size:Nat):Int)-1) (((P.length+a.size+b.size:Nat):Int)-1):=⟨_,rfl⟩
  have hNl:=congrArg List.length hN
  simp only [pF,Bt.flat_len]at hNl
  simp only [Bt.size]at hf hNl ⊢
  simp only [Bt.flat,<-hm]at hN
  obtain⟨fu,rfl⟩: ∃k,fu=k+1:=⟨fu-1,by omega⟩
  have hap:=a.size_pos
  have hbp:=b.size_pos
  have hi1:=iha ha P (b.flat (P.length+a.size)++[m]++R) N fu hS (by rw [hN];simp only [gK]) (by omega) hl
  have hi2:=ihb Y (P++a.flat P.length) ([m]++R) N fu hS (by rw [hN];simp only [gK,pF,a.flat_len]) (by omega) hl
  rw [pF,a.flat_len]at hi2
  unfold jv
  have A:N[P.length+a.size+b.size]? =some m:=by
   rw [hN,gK,gK,<-gK P,xI (by simp [a.flat_len,b.flat_len];omega)]
   have:P.length+a.size+b.size-(P++(a.flat P.length++b.flat (P.length+a.size))).length=0:=by simp [a.flat_len,b.flat_len];omega
   rw [this];rfl
  rw [cr (by simp;omega),j3 (P.length+a.size+b.size) (by omega),A]
  have hsx:=hS _ (uk A)
  simp only [bH]
  have e1:m.Tag=n.Tag:=by rw [hm];rfl
  rw [e1,rJ]
  have e:zy n.Tag=2:=by unfold zy;rw [V];rfl
  simp only [e,bH,qD hsx]
  have e2:uB m=true:=by rw [hm];exact Z
  have eL:m.L=((P.length+a.size:Nat):Int)-1:=by rw [hm];rfl
  have eR:m.R=((P.length+a.size+b.size:Nat):Int)-1:=by rw [hm];rfl
  rw [d6 (n:=((P.length+(a.size+b.size+1):Nat):Int)-1-1) (by omega) (by omega),show(((P.length+(a.size+b.size+1):Nat):Int)-1-1)=(((P.length+a.size+b.size:Nat):Int)-1)from by omega]
  rw [hi2]
  simp only [bH]
  rw [d6 (n:=((P.length+a.size+b.size:Nat):Int)-1-(b.size:Int)) (by omega) (by omega),show((P.length+a.size+b.size:Nat):Int)-1-(b.size:Int)=((P.length+a.size:Nat):Int)-1 from by omega]
  rw [hi1]
  simp only [bH]
  have hda:=a.depth_size
  have hdb:=b.depth_size
  rw [d6 (n:=(b.size:Int)+(a.size:Int)) (by omega) (by omega),d6 (n:=(b.size:Int)+(a.size:Int)+1) (by omega) (by omega),d6 (n:=max (b.depth:Int) (a.depth:Int)+1) (by omega) (by omega)]
  have n1: ¬a.size=0:=by omega
  have n2: ¬b.size=0:=by omega
  have e5:(P.length:Int)+(a.size:Int)+(b.size:Int)-1-(b.size:Int)=(P.length:Int)+(a.size:Int)-1:=by omega
  simp [e2,eL,eR,n1,n2,e5,Bt.depth]
  omega
def WH(N:List dl)(hS: ∀x∈N,yR x)(hN:N.length<=100000): ∀(fu q:Nat),q<=N.length->q<fu-> ∃k aE:Nat,jv fu ⟨N⟩ ((q:Int)-1)=some ((k:Int),(aE:Int))/\(k=0\/ ∃(t:Bt) (P R:List dl),t.wf/\(t.size=k/\t.depth=aE)/\N=P++t.flat P.length++R/\P.length+k=q):=by
 intro fu
 induction fu with
 |zero=>intro q _ h;omega
 |succ fu ih=>
  intro q hq hf
  unfold jv
  by_cases h0:q=0
  ·subst h0
   exact⟨0,0,by rw [cz (by simp)];rfl,.inl rfl⟩
  rw [cr (by simp;omega),j3 (q-1) (by omega)]
  have hlt:q-1<N.length:=by omega
  rw [lP hlt]
  obtain⟨n,hn⟩: ∃n,n=N[q-1]:=⟨_,rfl⟩
  rw [<-hn]
  have hsn:yR n:=by rw [hn];exact hS _ (KD ..)
  have hd:N=N.take (q-1)++([n]++N.drop q):=by
   have V:=uH (q-1) N
   rw [sG hlt,<-hn,show q-1+1=q from by omega]at V
   exact V.symm
  simp only [bH,rJ,qD hsn]
  cases hk:Q4 n.Tag with
  |none=>
   have e:zy n.Tag= -1:=by unfold zy;rw [hk]
   exact⟨0,0,by simp [e],.inl rfl⟩
  |some k=>
   have e:zy n.Tag=(k:Int):=by unfold zy;rw [hk]
   have hk3:k=0\/k=1\/k=2:=by
    unfold Q4 at hk
    repeat' split at hk
    all_goals simp at hk
    all_goals omega
   cases hc:uB n with
   |false=>exact⟨0,0,by simp [e,hc],.inl rfl⟩
   |true=>
    rcases hk3 with rfl|rfl|rfl
    ·rw [e]
     by_cases hL:n.L= -1/\n.R= -1
     ·refine⟨1,1,by simp [hL],.inr ⟨.lf (putA n (-1) (-1)),N.take (q-1),N.drop q,⟨hk,hc,rfl,rfl⟩,⟨rfl,rfl⟩,?_,by simp;omega⟩⟩
      simp only [Bt.flat]
      rw [Af hL.1 hL.2,gK]
      exact hd
     ·refine⟨0,0,?_,.inl rfl⟩
      have:(n.L != -1||n.R != -1)=true:=by
       rw [y7,tL,tL]
       by_cases hl:n.L= -1
       ·exact .inr fun h=>hL ⟨hl,h⟩
       ·exact .inl hl
      simp [this]
    ·rw [e,d6 (by omega) (by omega)]
     have e9:(((q-1:Nat):Int)-1)=(q:Int)-1-1:=by omega
     obtain⟨r2,d2,Z,h2'⟩:=ih (q-1) (by omega) (by omega)
     rw [e9]at Z
     rw [Z]
     rcases h2' with rfl|⟨t,P,R,hw,⟨hs,hds⟩,hN2,hl⟩
     ·exact⟨0,0,by simp,.inl rfl⟩
     ·have hp:=t.size_pos
      by_cases hL:n.L=(q:Int)-1-1/\n.R= -1
      ·refine⟨r2+1,d2+1,?_,.inr ⟨.un (putA n (-1) (-1)) t,P,N.drop q,⟨⟨hk,hc,rfl,rfl⟩,hw⟩,⟨by simp only [Bt.size];omega,by simp only [Bt.depth];omega⟩,?_,by omega⟩⟩
       ·simp only [bH]
        have hdt:=t.depth_size
        rw [d6 (n:=(r2:Int)+1) (by omega) (by omega),d6 (n:=(d2:Int)+1) (by omega) (by omega)]
        have: ¬(r2=0):=by omega
        simp [hL,this]
       ·simp only [Bt.flat]
        rw [Af (by rw [hL.1];omega) hL.2]
        have M:N.take (q-1)=P++t.flat P.length:=by
         rw [hN2,zb (by simp [t.flat_len];omega),rt (by simp [t.flat_len];omega)]
        rw [M]at hd
        simpa only [gK] using hd
      ·refine⟨0,0,?_,.inl rfl⟩
       have:(n.L !=(q:Int)-1-1||n.R != -1)=true:=by
        rw [y7,tL,tL]
        by_cases hl:n.L=(q:Int)-1-1
        ·exact .inr fun h=>hL ⟨hl,h⟩
        ·exact .inl hl
       simp [this]
    ·rw [e,d6 (n:=(q:Int)-1-1) (by omega) (by omega)]
     have e9:(((q-1:Nat):Int)-1)=(q:Int)-1-1:=by omega
     obtain⟨r2,d2,Z,h2'⟩:=ih (q-1) (by omega) (by omega)
     rw [e9]at Z
     rw [Z]
     rcases h2' with rfl|⟨t,P,R,hw,⟨hs,hds⟩,hN2,hl⟩
     ·exact⟨0,0,by simp,.inl rfl⟩
     ·have hp:=t.size_pos
      simp only [bH]
      rw [d6 (n:=(q:Int)-1-1-(r2:Int)) (by omega) (by omega)]
      have e8:(((q-1-r2:Nat):Int)-1)=(q:Int)-1-1-(r2:Int):=by omega
      have n2: ¬(r2=0):=by omega
      obtain⟨r3,d3,h3,h3'⟩:=ih (q-1-r2) (by omega) (by omega)
      rw [e8]at h3
      rw [h3]
      rcases h3' with rfl|⟨t3,P3,R3,hw3,⟨hs3,hds3⟩,hN3,hl3⟩
      ·exact⟨0,0,by simp,.inl rfl⟩
      ·have hp3:=t3.size_pos
       have n3: ¬(r3=0):=by omega
       by_cases hL:n.R=(q:Int)-1-1/\n.L=(q:Int)-1-1-(r2:Int)
       ·refine⟨r3+r2+1,max d3 d2+1,?_,.inr ⟨.bi (putA n (-1) (-1)) t3 t,P3,N.drop q,⟨⟨hk,hc,rfl,rfl⟩,hw3,hw⟩,⟨by simp only [Bt.size];omega,by simp only [Bt.depth];omega⟩,?_,by omega⟩⟩
        ·simp only [bH]
         have hdt:=t.depth_size
         have hdt3:=t3.depth_size
         rw [d6 (n:=(r2:Int)+(r3:Int)) (by omega) (by omega),d6 (n:=(r2:Int)+(r3:Int)+1) (by omega) (by omega),d6 (n:=max (d2:Int) (d3:Int)+1) (by omega) (by omega)]
         simp [hL,n2,n3]
         omega
        ·simp only [Bt.flat]
         rw [Af (by rw [hL.2];omega) (by rw [hL.1];omega)]
         have M:N.take (q-1)=P++t.flat P.length:=by
          rw [hN2,zb (by simp [t.flat_len];omega),rt (by simp [t.flat_len];omega)]
         have hP:P=N.take P.length:=by
          conv=>rhs;rw [hN2,gK,zb (gc _),rt (gc _)]
         have hP3:P=P3++t3.flat P3.length:=by
          rw [hP]
          have:P.length=P3.length+t3.size:=by omega
          conv=>lhs;rw [this,hN3]
          rw [zb (by simp [t3.flat_len]),rt (by simp [t3.flat_len])]
         have hPl:P.length=P3.length+t3.size:=by omega
         rw [M,hPl]at hd
         rw [hP3]at hd
         simpa only [gK] using hd
       ·clear ih hN2 hN3
        refine⟨0,0,?_,.inl rfl⟩
        have:(n.R !=(q:Int)-1-1||n.L !=(q:Int)-1-1-(r2:Int))=true:=by
         rw [y7,tL,tL]
         by_cases hl:n.R=(q:Int)-1-1
         ·exact .inr fun h=>hL ⟨hl,h⟩
         ·exact .inl hl
        have h' :=this
        rw [y7,tL,tL]at h'
        simp [n2,n3]
        intro V Z
        exact absurd Z (by rcases h' with h' |h';exact absurd V h';exact h')
def vM(t:dj)(hS: ∀n∈t.Nodes,yR n):mo t=some (lR t.Nodes):=by
 unfold mo lR
 by_cases h:1<=t.Nodes.length/\t.Nodes.length<=300
 ·rw [cr (by simp;omega),d6 (by omega) (by omega)]
  unfold BH
  obtain⟨k,aE,V,Z⟩:=WH t.Nodes hS (by omega) gi t.Nodes.length (gc _) (Iq (Nat.lt_succ_self _) (Am (by omega)))
  have h1' :jv gi t ((t.Nodes.length:Int)-1)=some ((k:Int),(aE:Int)):=V
  rw [h1']
  simp only [bH]
  congr 1
  rw [wZ]
  constructor
  ·intro hk
   rw [jR,nE]at hk
   have hk' :k=t.Nodes.length:=by have:=eq_of_beq hk.1;omega
   rcases Z with rfl|⟨a,P,R,hw,⟨hs,hd⟩,hN,hl⟩
   ·omega
   ·have hP:P=[]:=za (by omega)
    subst hP
    have hR:R=[]:=by
     have:=congrArg List.length hN
     simp [a.flat_len]at this
     exact za (by omega)
    subst hR
    have hN' :t.Nodes=a.flat 0:=by simpa using hN
    rw [hN',MP hw (by omega) (by omega)];rfl
  ·intro hi
   cases M:AY t.Nodes with
   |none=>rw [M]at hi;cases hi
   |some a=>
    obtain⟨hw,hN,hs,hd⟩:=xL M
    have hlen:t.Nodes.length=a.size:=by rw [hN,a.flat_len]
    have h3:=WG a hw [] [] t.Nodes gi hS (by simpa using hN) (Am (by omega)) (by omega)
    simp only [sD,sB]at h3
    rw [<-hlen]at h3
    have h4:some ((k:Int),(aE:Int))=some ((t.Nodes.length:Int),(a.depth:Int)):=V.symm.trans h3
    simp only [Cn,Prod.mk.injEq]at h4
    rw [jR,nE,vW]
    omega
 ·rw [cz (by simp;omega)]
  congr 1
  symm
  rw [Ip]
  intro hi
  cases M:AY t.Nodes with
  |none=>rw [M]at hi;cases hi
  |some a=>
   obtain⟨hw,hN,hs,hd⟩:=xL M
   have hlen:t.Nodes.length=a.size:=by rw [hN,a.flat_len]
   have:=a.size_pos
   omega
end Go.Proofs.YthbdkceckjihgaaGreatDoor


/- du of this claim: B6. -/
set_option linter.all false
namespace Go.Proofs.YthbdkceckjihgaaGreatDoor
open Go

def zX(t:dj):Prop:=t.Nodes.length<=1000/\ ∀n∈t.Nodes,yR n
def z7{t:dj}(h:zX t):vh [t]=some (lR t.Nodes):=by
 have V:wH t=some (!lR t.Nodes):=by
  unfold wH
  rw [HQ t h.2 (by have:=h.1;omega),bH]
  cases lR t.Nodes<;>rfl
 unfold vh gX iL
 simp only [fi,V,bH]
 cases lR t.Nodes<;>rfl
def oS(t:dj):Bool:=decide (t.Nodes.length=0)||lR t.Nodes
def W0(t:dj):(((t.Nodes.length:Nat):Int)==(0:Int))=decide (t.Nodes.length=0):=by
 rw [wZ];simp
def A5{t:dj}(h:zX t):vv t=some (oS t):=by
 unfold vv oS
 rw [W0,vM t h.2]
 cases decide (t.Nodes.length=0)<;>rfl
structure Fu(s:aQ):Prop where
 items: ∀x∈s.Items,zX x.Tree
 joins: ∀x∈s.Joins,zX x.On
 where_:zX s.Where
 having:zX s.Having
def wp(x:fQ):Bool:=lR x.Tree.Nodes&&nS x.As
def Ba(x:nJ):Bool:=lR x.On.Nodes&&nK x.Source
def UB(x:km):Bool:=jx x.Name&&nS x.Table
def Nf(s:aQ):Bool:=(s.Star==decide (s.Items.length=0))&&(decide (s.Items.length<=6)&&(decide (s.Joins.length<=2)&&decide (s.Group.length<=3)))
def zp(s:aQ):Bool:=Nf s&&(nK s.From&&(s.Items.all wp&&(s.Joins.all Ba&&(s.Group.all UB&&(oS s.Where&&oS s.Having)))))
def X4{s:aQ}(h:Fu s)(ok:Bool):pB s 2 0 ok=some (ok&&(oS s.Where&&oS s.Having)):=by
 have i0:fB [s.Where,s.Having] ((0:Nat):Int)=some s.Where:=rfl
 have i1:fB [s.Where,s.Having] ((0+1:Nat):Int)=some s.Having:=rfl
 simp only [pB,i0,i1,bH,z7 h.where_,z7 h.having,W0]
 unfold oS
 cases ok<;>cases decide (s.Where.Nodes.length=0)<;>cases lR s.Where.Nodes<;>cases decide (s.Having.Nodes.length=0)<;>rfl
def SA{s:aQ}(h:Fu s): ∀(l:List km) (ok:Bool),ny s l ok=some (ok&&(l.all UB&&(oS s.Where&&oS s.Having)))
 |[],ok=>by unfold ny;rw [X4 h];rfl
 |x::l,ok=>by
  unfold ny
  rw [lE,vd,tI]
  have e:UB x=(jx x.Name&&nS x.Table):=rfl
  rw [e]
  cases ok<;>cases jx x.Name<;>cases nS x.Table<;>simp [SA h l]
def SB{s:aQ}(h:Fu s): ∀(l:List nJ) (ok:Bool),(∀x∈l,zX x.On)->nz s l ok=some (ok&&(l.all Ba&&(s.Group.all UB&&(oS s.Where&&oS s.Having))))
 |[],ok,_=>by unfold nz;rw [SA h];rfl
 |x::l,ok,hl=>by
  unfold nz
  have ih:=fun ok=>SB h l ok (fun y hy=>hl y (oD _ hy))
  rw [z7 (hl x (oa ..)),Be,tI]
  have e:Ba x=(lR x.On.Nodes&&nK x.Source):=rfl
  rw [e]
  cases ok<;>cases lR x.On.Nodes<;>cases nK x.Source<;>simp [ih]
def SC{s:aQ}(h:Fu s): ∀(l:List fQ) (ok:Bool),(∀x∈l,zX x.Tree)->nA s l ok=some (ok&&(l.all wp&&(s.Joins.all Ba&&(s.Group.all UB&&(oS s.Where&&oS s.Having)))))
 |[],ok,_=>by unfold nA;rw [SB h _ _ h.joins];rfl
 |x::l,ok,hl=>by
  unfold nA
  have ih:=fun ok=>SC h l ok (fun y hy=>hl y (oD _ hy))
  rw [z7 (hl x (oa ..)),vd,tI]
  have e:wp x=(lR x.Tree.Nodes&&nS x.As):=rfl
  rw [e]
  cases ok<;>cases lR x.Tree.Nodes<;>cases nS x.As<;>simp [ih]
def IJ(s:aQ):((((s.Star !=((s.Items.length:Int)==(0:Int)))||(decide ((6:Int)<(s.Items.length:Int))))||(decide ((2:Int)<(s.Joins.length:Int))))||(decide ((3:Int)<(s.Group.length:Int))))= !Nf s:=by
 have e0:((s.Items.length:Int)==(0:Int))=decide (s.Items.length=0):=by rw [wZ];simp
 have e1:decide ((6:Int)<(s.Items.length:Int))= !decide (s.Items.length<=6):=by rw [wZ];simp;omega
 have e2:decide ((2:Int)<(s.Joins.length:Int))= !decide (s.Joins.length<=2):=by rw [wZ];simp;omega
 have e3:decide ((3:Int)<(s.Group.length:Int))= !decide (s.Group.length<=3):=by rw [wZ];simp;omega
 rw [e0,e1,e2,e3]
 unfold Nf
 cases s.Star<;>cases decide (s.Items.length=0)<;>cases decide (s.Items.length<=6)<;>cases decide (s.Joins.length<=2)<;>cases decide (s.Group.length<=3)<;>rfl
def Hz{s:aQ}(h:Fu s):wI s=some (zp s):=by
 unfold wI zp
 rw [IJ]
 cases Nf s with
 |false=>rfl
 |true=>
  simp only [rn,lu,jQ]
  rw [Be,bH,SC h _ _ h.items,wK]
def O0{s:aQ}(h:Fu s): ∀(l:List km),lJ s l=some (l.all UB&&(nK s.From&&(oS s.Where&&oS s.Having)))
 |[]=>by
  unfold lJ
  rw [yH,A5 h.where_,A5 h.having]
  cases nK s.From<;>cases oS s.Where<;>rfl
 |x::l=>by
  unfold lJ
  rw [qE,o9,tI,O0 h l]
  have e:UB x=(jx x.Name&&nS x.Table):=rfl
  rw [e]
  cases jx x.Name<;>cases nS x.Table<;>rfl
def O3{s:aQ}(h:Fu s): ∀(l:List nJ),(∀x∈l,zX x.On)->lK s l=some (l.all Ba&&(s.Group.all UB&&(nK s.From&&(oS s.Where&&oS s.Having))))
 |[],_=>by unfold lK;rw [O0 h];rfl
 |x::l,hl=>by
  unfold lK
  rw [vM _ (hl x (oa ..)).2,yH,tI,O3 h l (fun y hy=>hl y (oD _ hy))]
  have e:Ba x=(lR x.On.Nodes&&nK x.Source):=rfl
  rw [e]
  cases lR x.On.Nodes<;>cases nK x.Source<;>rfl
def O4{s:aQ}(h:Fu s): ∀(l:List fQ),(∀x∈l,zX x.Tree)->lL s l=some (l.all wp&&(s.Joins.all Ba&&(s.Group.all UB&&(nK s.From&&(oS s.Where&&oS s.Having)))))
 |[],_=>by unfold lL;rw [O3 h _ h.joins];rfl
 |x::l,hl=>by
  unfold lL
  rw [vM _ (hl x (oa ..)).2,o9,tI,O4 h l (fun y hy=>hl y (oD _ hy))]
  have e:wp x=(lR x.Tree.Nodes&&nS x.As):=rfl
  rw [e]
  cases lR x.Tree.Nodes<;>cases nS x.As<;>rfl
def DQ{s:aQ}(h:Fu s):tt s=some (zp s):=by
 unfold tt zp
 rw [IJ]
 cases Nf s with
 |false=>rfl
 |true=>
  simp only [rn,lu,jQ]
  rw [O4 h _ h.items,wK]
  cases s.Items.all wp<;>cases s.Joins.all Ba<;>cases s.Group.all UB<;>cases nK s.From<;>rfl
def BJ(n:Int):Bool:=decide (0<=n)&&decide (n<=2147483647)
def Rj(k:tf):Bool:=if k.Name==[]then BJ k.Number else jx k.Name&&(k.Number==0)
def SX(n:Int):Bool:=n== -1||BJ n
def QX(q:cu):Bool:=decide (1<=q.Selects.length)&&(decide (q.Selects.length<=3)&&(decide (q.Keys.length<=3)&&SX q.Limit))
def QY(q:cu):Bool:=QX q&&(q.Selects.all zp&&q.Keys.all Rj)
def Up(q:cu):Prop:= ∀s∈q.Selects,Fu s
def LO{f:aQ->Option Bool}{p:aQ->Bool}: ∀(l:List aQ) (i:Nat),(∀x∈l,f x=some (p x))-> ∃j:Int,dO f l i=some j/\decide (0<=j)=l.any p
 |[],i,_=>⟨-1,rfl,rfl⟩
 |x::l,i,hf=>by
  unfold dO
  rw [hf x (oa ..),bH,w7]
  cases A:p x with
  |true=>exact⟨i,rfl,by simp⟩
  |false=>
   obtain⟨j,V,Z⟩:=LO l (i+1) (fun y hy=>hf y (oD _ hy))
   exact⟨j,V,by rw [Z];rfl⟩
def Re:jx []=false:=rfl
def JS{q:cu}(h:Up q): ∀(l:List tf) (ok:Bool),p4 q l ok=some (if ok&&(q.Selects.all zp&&l.all Rj)then 0 else 180)
 |[],ok=>by
  unfold p4
  have hc: ∀x∈q.Selects,ub x=some (!zp x):=fun x A=>by unfold ub;rw [Hz (h x A)];rfl
  obtain⟨j,V,Z⟩:=LO q.Selects 0 hc
  have h3:eG q.Selects ub=some (q.Selects.any fun x=> !zp x):=by
   unfold eG gL
   rw [V,bH,Z]
  have h4:(q.Selects.any fun x=> !zp x)= !q.Selects.all zp:=by rw [List.not_all_eq_any_not]
  rw [h3,h4]
  cases ok<;>cases q.Selects.all zp<;>rfl
 |k::l,ok=>by
  unfold p4
  rw [lE,tI]
  have e1:vL k.Number=some (BJ k.Number):=rfl
  rw [e1]
  have e2:Rj k=if k.Name==[]then BJ k.Number else jx k.Name&&(k.Number==0):=rfl
  rw [e2]
  cases hk:(k.Name==([]:cS))with
  |true=>
   have hk' :k.Name=[]:=by simpa using hk
   rw [hk',Re]
   cases ok<;>cases BJ k.Number<;>simp [JS h l]
  |false=>cases ok<;>cases jx k.Name<;>cases (k.Number==(0:Int))<;>simp [JS h l]
def Kq{q:cu}(h:Up q):Az q=some (if QY q then 0 else 180):=by
 unfold Az QY
 rw [show vL q.Limit=some (BJ q.Limit)from rfl]
 have e1:decide ((0:Int)<(q.Selects.length:Int))=decide (1<=q.Selects.length):=by rw [AG];omega
 have e2:decide ((q.Selects.length:Int)<=(3:Int))=decide (q.Selects.length<=3):=by rw [AG];omega
 have e3:decide ((q.Keys.length:Int)<=(3:Int))=decide (q.Keys.length<=3):=by rw [AG];omega
 rw [e1,e2,e3]
 unfold QX SX
 cases decide (1<=q.Selects.length)<;>cases decide (q.Selects.length<=3)<;>cases decide (q.Keys.length<=3)<;>cases (q.Limit==(-1:Int))<;>cases BJ q.Limit<;>simp [JS h]
def Lm: ∀(l:List tf),pb l=some (l.all Rj)
 |[]=>rfl
 |k::l=>by
  unfold pb
  rw [o9,bH,tI,Lm l]
  have e2:Rj k=if k.Name==[]then BJ k.Number else jx k.Name&&(k.Number==0):=rfl
  have e3:((decide (k.Number<(0:Int)))||(decide ((2147483647:Int)<k.Number)))= !BJ k.Number:=by
   unfold BJ;rw [wZ];simp;try omega
  have e4:((!nS k.Name||decide (k.Number<(0:Int)))||decide ((2147483647:Int)<k.Number))=(!nS k.Name|| !BJ k.Number):=by rw [Bool.or_assoc,e3]
  rw [e4,e2]
  unfold nS
  cases hk:(k.Name==([]:cS))with
  |true=>cases BJ k.Number<;>simp
  |false=>
   have hz:(k.Number==(0:Int))=true->BJ k.Number=true:=fun hh=>by
    have:k.Number=0:=by simpa using hh
    unfold BJ;rw [this];rfl
   cases hn:(k.Number==(0:Int))with
   |true=>rw [hz hn];cases jx k.Name<;>simp [bne,hn]
   |false=>cases jx k.Name<;>simp [bne,hn]
def Lj{q:cu}: ∀(l:List aQ),(∀s∈l,Fu s)->nd q l=some (l.all zp&&q.Keys.all Rj)
 |[],_=>by unfold nd;rw [Lm];rfl
 |s::l,h=>by
  unfold nd
  rw [DQ (h s (oa ..)),bH,tI,Lj l (fun y hy=>h y (oD _ hy))]
  cases zp s<;>rfl
def GH{q:cu}(h:Up q):we q=some (QY q):=by
 unfold we QY
 rw [Lj _ h]
 have e:(((((decide ((q.Selects.length:Int)<(1:Int)))||(decide ((3:Int)<(q.Selects.length:Int))))||(decide ((3:Int)<(q.Keys.length:Int))))||(decide (q.Limit<(-1:Int))))||(decide ((2147483647:Int)<q.Limit)))= !QX q:=by
  have e1:decide ((q.Selects.length:Int)<(1:Int))= !decide (1<=q.Selects.length):=by rw [<-decide_not,AG];omega
  have e2:decide ((3:Int)<(q.Selects.length:Int))= !decide (q.Selects.length<=3):=by rw [<-decide_not,AG];omega
  have e3:decide ((3:Int)<(q.Keys.length:Int))= !decide (q.Keys.length<=3):=by rw [<-decide_not,AG];omega
  have e4:(decide (q.Limit<(-1:Int))||decide ((2147483647:Int)<q.Limit))= !SX q.Limit:=by
   unfold SX BJ
   by_cases V:q.Limit= -1
   ·rw [V];rfl
   ·have:(q.Limit==(-1:Int))=false:=by simpa using V
    rw [this,wZ]
    simp
    omega
  rw [Bool.or_assoc,e1,e2,e3,e4]
  unfold QX
  cases decide (1<=q.Selects.length)<;>cases decide (q.Selects.length<=3)<;>cases decide (q.Keys.length<=3)<;>cases SX q.Limit<;>rfl
 rw [e]
 cases QX q<;>rfl
def v7(t:dj):zX (vo t):=by
 refine⟨by simp [vo];omega,fun n hn=>?_⟩
 obtain⟨m,_,rfl⟩:=vX.1 hn
 have:(Md m).Value.S.length<=60:=by simp [Md];omega
 unfold yR;omega
def TR(s:aQ):Fu (Hp s) where
 items:=fun x A=>by
  obtain⟨y,_,rfl⟩:=vX.1 A
  exact v7 _
 joins:=fun x A=>by
  obtain⟨y,_,rfl⟩:=vX.1 A
  exact v7 _
 where_:=v7 _
 having:=v7 _
def L5(q:cu):Up (aai q):=fun s hs=>by
 obtain⟨y,_,rfl⟩:=vX.1 hs
 exact TR _
end Go.Proofs.YthbdkceckjihgaaGreatDoor


/- du of this claim: B7. -/
set_option linter.all false
namespace Go.Proofs.YthbdkceckjihgaaGreatDoor
open Go

def zh(name:cS):List ce->Nat->Option Nat
 |[],_=>none
 |t::l,i=>if t.Name=name then some i else zh name l (i+1)
def KW{name:cS}: ∀{l:List ce} {i k:Nat},zh name l i=some k->i<=k/\k<i+l.length
 |t::l,i,k,h=>by
  unfold zh at h
  split at h
  ·cases h;simp
  ·have:=KW h
   simp only [jm];omega
def I8(name:cS): ∀(l:List ce) (i:Nat),ca (eC eH name) l i=some (match zh name l i with
  |some k=>(k:Int)
  |none=> -1)
 |[],i=>rfl
 |t::l,i=>by
  unfold ca zh
  rw [show eC eH name t=some (t.Name==name)from rfl,bH]
  by_cases h:t.Name=name
  ·rw [cz h,cz (by simpa using h)]
  ·rw [cr h,cr (by simpa using h),I8 name l (i+1)]
def Fp(c:aR)(name:cS):pZ c name=some (match zh name c.Tables 0 with
  |some k=>((k:Int),true)
  |none=>(0,false)):=by
 unfold pZ hY dK
 rw [I8]
 cases zh name c.Tables 0 with
 |none=>rfl
 |some k=>
  simp only [bH,Cn,Prod.mk.injEq,nE]
  omega
def SG(c:aR)(name:cS)(hl:c.Tables.length<=1000): ∀(n i:Nat),c.Tables.length<i+n->i<=c.Tables.length->ql c name n (i:Int)=some (match zh name (c.Tables.drop i) i with
  |some k=>(k:Int)
  |none=> -1):=by
 intro n
 induction n with
 |zero=>intro i h Z;omega
 |succ n ih=>
  intro i h Z
  unfold ql
  by_cases hi:i<c.Tables.length
  ·have hw:IntKind.i64.wrap ((i:Int)+1)=((i+1:Nat):Int):=by rw [Bl];omega
   rw [cz (by rw [nE];omega),kr,lP hi,bH,sG hi]
   unfold zh
   by_cases hn:c.Tables[i].Name=name
   ·rw [cz (by simpa using hn),cz hn]
   ·rw [cr (by simpa using hn),cr hn,hw,ih (i+1) (by omega) (by omega)]
  ·rw [cr (by rw [nE];omega),rp (by omega)];rfl
def H5(c:aR)(name:cS)(hl:c.Tables.length<=1000):sM c name=some (match zh name c.Tables 0 with
  |some k=>(k:Int)
  |none=> -1):=by
 unfold sM
 have:=SG c name hl gi 0 (by unfold gi;omega) (jW _)
 rw [sC]at this
 exact this
def yP(name:cS):List cd->Nat->Option Nat
 |[],_=>none
 |t::l,i=>if t.Name=name then some i else yP name l (i+1)
def QT(t:ce)(name:cS)(hl:t.Columns.length<=1000): ∀(n i:Nat),t.Columns.length<i+n->i<=t.Columns.length->oh t name n (i:Int)=some (match yP name (t.Columns.drop i) i with
  |some k=>(k:Int)
  |none=> -1):=by
 intro n
 induction n with
 |zero=>intro i h Z;omega
 |succ n ih=>
  intro i h Z
  unfold oh
  by_cases hi:i<t.Columns.length
  ·have hw:IntKind.i64.wrap ((i:Int)+1)=((i+1:Nat):Int):=by rw [Bl];omega
   rw [cz (by rw [nE];omega),kr,lP hi,bH,sG hi]
   unfold yP
   by_cases hn:t.Columns[i].Name=name
   ·rw [cz (by simpa using hn),cz hn]
   ·rw [cr (by simpa using hn),cr hn,hw,ih (i+1) (by omega) (by omega)]
  ·rw [cr (by rw [nE];omega),rp (by omega)];rfl
def Fe(t:ce)(name:cS)(hl:t.Columns.length<=1000):uS t name=some (match yP name t.Columns 0 with
  |some k=>(k:Int)
  |none=> -1):=by
 unfold uS
 have:=QT t name hl gi 0 (by unfold gi;omega) (jW _)
 rw [sC]at this
 exact this
def gj(s:ef):cS:=if s.As=[]then s.Table else s.As
def Hx(s:ef):wG s=some (gj s):=by
 unfold wG gj
 by_cases h:s.As=[]
 ·rw [cz (by simpa using h),cz h]
 ·rw [cr (by simpa using h),cr h]
def uw(s:ef):pK s=some (gj s):=by
 unfold pK gj
 by_cases h:s.As=[]
 ·rw [cr (by simp [h]),cz h]
 ·rw [cz (by simpa using h),cr h]
def sA(nm:cS)(l:List cd):List (cS×cS):=l.map fun x=>(nm,x.Name)
def eX(c:aR):List ef->List Int->List (cS×cS)
 |s::ss,t::ts=>sA (gj s) (kJ c t)++eX c ss ts
 |_,_=>[]
def zK(c:aR): ∀(ss:List ef) (ts:List Int) (ss2:List ef) (ts2:List Int),ss.length=ts.length->eX c (ss++ss2) (ts++ts2)=eX c ss ts++eX c ss2 ts2
 |[],[],ss2,ts2,_=>rfl
 |s::ss,t::ts,ss2,ts2,h=>by
  simp only [yU,eX]
  rw [zK c ss ts ss2 ts2 (by simpa using h),gK]
def zJ(c:aR): ∀(ss:List ef) (ts:List Int),ss.length=ts.length->(eX c ss ts).length=(oH c ts).length
 |[],[],_=>rfl
 |s::ss,t::ts,h=>by
  have:=zJ c ss ts (by simpa using h)
  simp only [eX,oH,List.flatMap_cons,pF,sA,Ck]at this ⊢
  rw [this]
def mP(p:cS×cS->Bool):List (cS×cS)->Nat->List Nat
 |[],_=>[]
 |e::l,i=>if p e then i::mP p l (i+1)else mP p l (i+1)
def wq(p:cS×cS->Bool): ∀(l m:List (cS×cS)) (i:Nat),mP p (l++m) i=mP p l i++mP p m (i+l.length)
 |[],m,i=>by simp [mP]
 |e::l,m,i=>by
  simp only [yU,mP,wq p l m (i+1),jm]
  rw [show i+1+l.length=i+(l.length+1)from by omega]
  split<;>rfl
def BL(p:cS×cS->Bool): ∀(l:List (cS×cS)) (i k:Nat),k∈mP p l i->i<=k/\k<i+l.length
 |e::l,i,k,h=>by
  unfold mP at h
  simp only [jm]
  split at h
  ·rcases gw.1 h with rfl|h
   ·omega
   ·have:=BL p l (i+1) k h;omega
  ·have:=BL p l (i+1) k h;omega
def y0(E:List (cS×cS))(table name:cS):Int×Int:=
 match mP (fun e=>decide (e.2=name)&&(decide (table=[])||decide (e.1=table))) E 0 with
 |[]=>(0,222)
 |[k]=>((k:Int),0)
 |_=>(0,223)
def Ms(l:List cd):Prop:=(l.map fun x=>x.Name).Nodup
def LR(nm table name:cS): ∀(l:List cd) (i j:Nat),Ms l->mP (fun e=>decide (e.2=name)&&(decide (table=[])||decide (e.1=table))) (sA nm l) (j+i)=(match yP name l i with
  |some k=>if table=[]\/nm=table then [j+k]else []
  |none=>[])
 |[],i,j,_=>rfl
 |x::l,i,j,h=>by
  simp only [Ms,uG,List.nodup_cons]at h
  obtain⟨V,Z⟩:=h
  have ih:=LR nm table name l (i+1) j Z
  simp only [sA,uG]at ih ⊢
  unfold mP yP
  by_cases A:x.Name=name
  ·rw [cz A]
   -- no other column bears the name
   have hno:yP name l (i+1)=none:=by
    have: ∀(l:List cd) (i:Nat),name∉l.map (fun x=>x.Name)->yP name l i=none:=by
     intro l
     induction l with
     |nil=>intro i _;rfl
     |cons y l ih=>
      intro i hn
      simp only [uG,gw,not_or]at hn
      unfold yP
      rw [cr (fun e=>hn.1 e.symm),ih (i+1) hn.2]
    exact this l (i+1) (A▸V)
   rw [hno]at ih
   rw [show j+i+1=j+(i+1)from by omega,ih]
   simp only [A,decide_true,wK]
   by_cases M:table=[]\/nm=table
   ·have:(decide (table=[])||decide (nm=table))=true:=by rw [y7,nE,nE];exact M
    rw [this];simp [M]
   ·have:(decide (table=[])||decide (nm=table))=false:=by rw [ED,qM,qM];exact not_or.1 M
    rw [this];simp [M]
  ·rw [cr A,show j+i+1=j+(i+1)from by omega,ih]
   simp only [A,decide_false,Bool.false_and,lu,jQ]
structure Ut(c:aR):Prop where
 few:Ur c
 len:c.Tables.length<=1000
 once: ∀t∈c.Tables,Ms t.Columns
def Ut.cols{c:aR}(h:Ut c)(t:Int):Ms (kJ c t):=by
 unfold kJ
 cases A:c.Tables[t.toNat]? with
 |none=>exact List.nodup_nil
 |some x=>exact h.once x (uk A)
def Oc(found many:Int):Int×Int:=if many=0 then(0,222)else if many=1 then(found,0)else(0,223)
def A3{c:aR}(hc:Ut c)(b:aA)(Y:b.c=c)(table name:cS): ∀(ss:List ef) (ts:List Int) (pre:List Int) (found many:Int) (first:Nat),b.out.Tables=pre++ts->ss.length=ts.length->(∀t∈ts,Hy c t=false)->first+ts.length*1000<=1000000->0<=many->many+ts.length<=1000000->
  fe b table name ss pre.length found many (first:Int)=some (let tD:=mP (fun e=>decide (e.2=name)&&(decide (table=[])||decide (e.1=table))) (eX c ss ts) first
   Oc (match tD.getLast? with
    |some k=>(k:Int)
    |none=>found) (many+(tD.length:Int)))
 |[],[],pre,found,many,first,_,_,_,_,_,_=>by
  unfold fe
  simp only [eX,mP,List.getLast?_nil,sD]
  unfold Oc
  have e:many+((0:Nat):Int)=many:=by omega
  rw [e]
  by_cases h0:many=0
  ·simp [h0]
  ·by_cases V:many=1
   ·simp [V]
   ·simp [h0,V]
 |s::ss,t::ts,pre,found,many,first,hT,hl,hbad,hf,hm,hm2=>by
  simp only [jm]at hf hm2
  obtain⟨x,g1,g2,g3⟩:=FG (hbad t (oa ..))
  have hcl:=yq hc.few t
  have ih:=fun found many first=>A3 hc b Y table name ss ts (pre++[t]) found many first (by rw [hT];simp) (by simpa using hl) (fun y hy=>hbad y (oD _ hy))
  have hpl:(pre++[t]).length=pre.length+1:=by simp
  rw [hpl]at ih
  unfold fe
  rw [hT,oU,bH,Y,g1,bH,Fe x name (by rw [g2];omega),bH,uw,g2]
  have hh:=LR (gj s) table name (kJ c t) 0 first (hc.cols t)
  simp only [FU]at hh
  simp only [eX,wq]
  have hel:(sA (gj s) (kJ c t)).length=(kJ c t).length:=by simp [sA]
  rw [hel,hh]
  have hw:IntKind.i64.wrap ((first:Int)+((kJ c t).length:Int))=((first+(kJ c t).length:Nat):Int):=by rw [d6 (by omega) (by omega)];omega
  cases hcx:yP name (kJ c t) 0 with
  |none=>
   have aE:decide ((0:Int)<= -1)=false:=rfl
   simp only [aE,lu,jQ,bH,qg]
   unfold g9
   rw [g2,hw,ih found many (first+(kJ c t).length) (by omega) hm (by omega)]
  |some k=>
   have hk:k<(kJ c t).length:=by
    have: ∀(l:List cd) (i k:Nat),yP name l i=some k->k<i+l.length:=by
     intro l
     induction l with
     |nil=>intro i k h;cases h
     |cons y l ih=>
      intro i k h
      unfold yP at h
      simp only [jm]
      split at h
      ·cases h;omega
      ·have:=ih (i+1) k h;omega
    have:=this (kJ c t) 0 k hcx
    omega
   have aE:decide ((0:Int)<=(k:Int))=true:=by rw [nE];omega
   simp only [aE,jo,bH]
   have hw2:IntKind.i64.wrap ((first:Int)+(k:Int))=((first+k:Nat):Int):=by rw [d6 (by omega) (by omega)];omega
   have hw3:IntKind.i64.wrap (many+1)=many+1:=by rw [d6 (by omega) (by omega)]
   by_cases M:table=[]\/gj s=table
   ·rw [cz M]
    have e:(if(!(table==([]:cS)))=true then some (table==gj s)else some true)=some true:=by
     by_cases h0:table=[]
     ·simp [h0]
     ·rcases M with M|M
      ·exact absurd M h0
      ·rw [cz (by simpa using h0),M];simp
    rw [e]
    simp only [bH,jo]
    unfold g9
    rw [g2,hw,hw2,hw3,ih _ _ (first+(kJ c t).length) (by omega) (by omega) (by omega)]
    simp only [Ju,jm,List.getLast?_cons]
    congr 2
    ·cases (mP (fun e=>decide (e.2=name)&&(decide (table=[])||decide (e.1=table))) (eX c ss ts) (first+(kJ c t).length)).getLast? <;>rfl
    ·omega
   ·rw [cr M]
    have e:(if(!(table==([]:cS)))=true then some (table==gj s)else some true)=some false:=by
     rw [not_or]at M
     rw [cz (by simpa using M.1)]
     have:(table==gj s)=false:=by
      rw [KG];exact fun h=>M.2 h.symm
     rw [this]
    rw [e]
    simp only [bH,lu,jQ,qg]
    unfold g9
    rw [g2,hw,ih found many (first+(kJ c t).length) (by omega) hm (by omega)]
def H3{c:aR}(hc:Ut c)(b:aA)(Y:b.c=c)(table name:cS)(hl:b.sources.length=b.out.Tables.length)(hbad: ∀t∈b.out.Tables,Hy c t=false)(hlen:b.out.Tables.length<=100):jJ b table name=some (y0 (eX c b.sources b.out.Tables) table name):=by
 unfold jJ
 have:=A3 hc b Y table name b.sources b.out.Tables [] 0 0 0 rfl hl hbad (by omega) (by omega) (by omega)
 simp only [sD,Int.ofNat_zero]at this
 rw [this]
 unfold y0
 congr 1
 generalize mP (fun e=>decide (e.2=name)&&(decide (table=[])||decide (e.1=table))) (eX c b.sources b.out.Tables) 0=tD
 match tD with
 |[]=>rfl
 |[k]=>rfl
 |k::k2::tD=>
  unfold Oc
  simp only [jm]
  rw [cr (by omega),cr (by omega)]
end Go.Proofs.YthbdkceckjihgaaGreatDoor


/- du of this claim: B8. -/
set_option linter.all false
namespace Go.Proofs.YthbdkceckjihgaaGreatDoor
open Go

def qw{κ β:Type} [DecidableEq κ](k:κ)(y:β): ∀(m:List (κ×β)),ij (kq m k y) k=some y
 |[]=>by simp [kq,ij]
 |q::m=>by
  unfold kq
  by_cases h:q.1=k
  ·rw [cz h];unfold ij;rw [cz rfl]
  ·rw [cr h];unfold ij;rw [cr h,qw k y m]
def pg{κ β:Type} [DecidableEq κ]{k j:κ}(y:β)(hj:j≠k): ∀(m:List (κ×β)),ij (kq m k y) j=ij m j
 |[]=>by simp [kq,ij,Ne.symm hj]
 |q::m=>by
  unfold kq
  by_cases h:q.1=k
  ·rw [cz h]
   unfold ij
   rw [cr (show¬k=j from Ne.symm hj),cr (show¬q.1=j from fun e=>hj (e▸h))]
  ·rw [cr h]
   unfold ij
   rw [pg y hj m]
structure Maps(E:List (cS×cS))(names:List cS)(s:am):Prop where
 called: ∀n,(ij s.called n).getD false=decide (n∈names)
 alone: ∀n,(ij s.alone n).getD []=(mP (fun e=>decide (e.2=n)) E 0).map fun(k:Nat)=>(k:Int)
 behind: ∀t n,ij s.behind (t,n)=((mP (fun e=>decide (e.2=n)&&decide (e.1=t)) E 0).getLast?.map fun(k:Nat)=>(k:Int))
 once:E.Nodup
def G3(t n:cS): ∀(E:List (cS×cS)) (i:Nat),E.Nodup->(mP (fun e=>decide (e.2=n)&&decide (e.1=t)) E i).length<=1
 |[],i,_=>jW _
 |e::E,i,h=>by
  have Z:=List.nodup_cons.1 h
  unfold mP
  split
  ·rename_i he
   have:mP (fun e=>decide (e.2=n)&&decide (e.1=t)) E (i+1)=[]:=by
    have key: ∀(E:List (cS×cS)) (i:Nat),e∉E->mP (fun e=>decide (e.2=n)&&decide (e.1=t)) E i=[]:=by
     intro E
     induction E with
     |nil=>intro i _;rfl
     |cons f E ih=>
      intro i hn
      simp only [gw,not_or]at hn
      unfold mP
      rw [ih (i+1) hn.2,cr]
      intro hf
      apply hn.1
      simp only [jR,nE]at he hf
      exact Prod.ext (he.2.trans hf.2.symm) (he.1.trans hf.1.symm)
    exact key E (i+1) Z.1
   rw [this];simp
  ·exact G3 t n E (i+1) Z.2
def BM{p q:cS×cS->Bool}: ∀(E:List (cS×cS)) (i:Nat),(∀e∈E,p e=q e)->mP p E i=mP q E i
 |[],i,_=>rfl
 |e::E,i,h=>by
  unfold mP
  rw [h e (oa ..),BM E (i+1) fun f hf=>h f (oD _ hf)]
def Mg{E:List (cS×cS)}{names:List cS}{s:am}(h:Maps E names s)(n:km):kU s n=some (y0 E n.Table n.Name):=by
 unfold kU y0
 by_cases M:n.Table=[]
 ·rw [cr (by simp [M])]
  have e:mP (fun e=>decide (e.2=n.Name)&&(decide (n.Table=[])||decide (e.1=n.Table))) E 0=mP (fun e=>decide (e.2=n.Name)) E 0:=BM E 0 fun e _=>by simp [M]
  rw [e,h.alone]
  match mP (fun e=>decide (e.2=n.Name)) E 0 with
  |[]=>rfl
  |[k]=>rfl
  |k::k2::tD=>
   have hlen:(((List.map (fun(k:Nat)=>(k:Int)) (k::k2::tD)).length:Nat):Int)=(tD.length:Int)+2:=by simp;omega
   rw [hlen,cr (by rw [vW];omega),cr (by rw [vW];omega)]
 ·rw [cz (by simpa using M)]
  have e:mP (fun e=>decide (e.2=n.Name)&&(decide (n.Table=[])||decide (e.1=n.Table))) E 0=mP (fun e=>decide (e.2=n.Name)&&decide (e.1=n.Table)) E 0:=BM E 0 fun e _=>by simp [M]
  rw [e,h.behind]
  have hl:=G3 n.Table n.Name E 0 h.once
  match mP (fun e=>decide (e.2=n.Name)&&decide (e.1=n.Table)) E 0,hl with
  |[],_=>rfl
  |[k],_=>rfl
  |k::k2::tD,hl=>simp at hl
def IA{nm:cS}: ∀(l:List cd) (E:List (cS×cS)) (names:List cS) (s:am),(∀n,(ij s.called n).getD false=decide (n∈names))->(∀n,(ij s.alone n).getD []=(mP (fun e=>decide (e.2=n)) E 0).map fun(k:Nat)=>(k:Int))->
  (∀t n,ij s.behind (t,n)=((mP (fun e=>decide (e.2=n)&&decide (e.1=t)) E 0).getLast?.map fun(k:Nat)=>(k:Int)))->s.kinds.length=E.length->E.length+l.length<=1000000->
  ∃s',gT nm l s=some (0,s')/\s' ={s with alone:=s'.alone,behind:=s'.behind,kinds:=s.kinds++l.map fun x=>x.Kind}/\(∀n,(ij s'.alone n).getD []=(mP (fun e=>decide (e.2=n)) (E++sA nm l) 0).map fun(k:Nat)=>(k:Int))/\
   (∀t n,ij s'.behind (t,n)=((mP (fun e=>decide (e.2=n)&&decide (e.1=t)) (E++sA nm l) 0).getLast?.map fun(k:Nat)=>(k:Int)))
 |[],E,names,s,hc,ha,Y,hk,_=>⟨s,rfl,by cases s;simp,by simpa [sA] using ha,by simpa [sA] using Y⟩
 |x::l,E,names,s,hc,ha,Y,hk,hl=>by
  simp only [jm]at hl
  have hal:((ij s.alone x.Name).getD []).length<=1000000:=by
   rw [ha x.Name,Ck]
   have: ∀(p:cS×cS->Bool) (l:List (cS×cS)) (i:Nat),(mP p l i).length<=l.length:=by
    intro p l
    induction l with
    |nil=>intro i;exact gc _
    |cons e l ih=>
     intro i
     unfold mP
     have:=ih (i+1)
     split<;>simp<;>omega
   have:=this (fun e=>decide (e.2=x.Name)) E 0
   omega
  obtain⟨s1,hs1⟩: ∃s1:am,s1={s with alone:=kq s.alone x.Name ((ij s.alone x.Name).getD []++[(s.kinds.length:Int)]),behind:=kq s.behind (nm,x.Name) (s.kinds.length:Int),kinds:=s.kinds++[x.Kind]}:=⟨_,rfl⟩
  have e0:gT nm (x::l) s=gT nm l s1:=by
   conv=>lhs;unfold gT
   rw [dH (by simp;omega),bH,bH]
   simp only
   rw [dH (by simp;omega),bH,hs1]
  have hent:sA nm (x::l)=(nm,x.Name)::sA nm l:=rfl
  have happ:E++sA nm (x::l)=(E++[(nm,x.Name)])++sA nm l:=by rw [hent];simp
  obtain⟨s',g1,g2,g3,g4⟩:=IA l (E++[(nm,x.Name)]) names s1 (by rw [hs1];exact hc) (fun n=>by
   rw [hs1]
   simp only
   rw [wq]
   by_cases hn:n=x.Name
   ·subst hn
    rw [qw,Option.getD_some,ha x.Name]
    simp [mP,hk]
   ·rw [pg _ hn,ha n]
    simp [mP,Ne.symm hn]) (fun t n=>by
   rw [hs1]
   simp only
   rw [wq]
   by_cases hn:(t,n)=(nm,x.Name)
   ·rw [hn,qw]
    obtain⟨V,Z⟩:=Prod.ext_iff.1 hn
    simp only at V Z
    subst V Z
    simp [mP,hk]
   ·rw [pg _ hn,Y t n]
    have:(decide (x.Name=n)&&decide (nm=t))=false:=by
     rw [Bool.and_eq_false_iff,qM,qM]
     by_cases V:x.Name=n
     ·exact .inr fun Z=>hn (by rw [V,Z])
     ·exact .inl V
    simp [mP,this]) (by rw [hs1];simp [hk]) (by simp;omega)
  refine⟨s',e0.trans g1,?_,?_,?_⟩
  ·rw [g2,hs1]
   simp
  ·intro n;rw [happ];exact g3 n
  ·intro t n;rw [happ];exact g4 t n
end Go.Proofs.YthbdkceckjihgaaGreatDoor


/- du of this claim: B9. -/
set_option linter.all false
namespace Go.Proofs.YthbdkceckjihgaaGreatDoor
open Go

structure rq(c:aR):Prop where
 basC:Ut c
 cols4: ∀t∈c.Tables,t.Columns.length<=4
 kinds: ∀t∈c.Tables,∀x∈t.Columns,wo x.Kind=true
def zT(a:f9)(kinds:List Int):Int×Bool:=
 if a.Tag=1 then(2,true)else
  if(kF a.Arg kinds).2≠0\/(a.Tag=3/\(kF a.Arg kinds).1≠2/\(kF a.Arg kinds).1≠0)then(0,false)else
   if a.Tag=2\/a.Tag=3 then(2,true)else((kF a.Arg kinds).1,true)
def LK(kinds:List Int)(keys:List Int):List Int:=keys.map fun k=>(kinds[k.toNat]?).getD 0
def xZ(kinds:List Int)(keys:List Int)(aggs:List f9):List Int:=LK kinds keys++aggs.map fun a=>(zT a kinds).1
structure vT(c:aR)(s:am)(b:aA):Prop where
 cat:s.Catalog=c
 bc:b.c=c
 out:s.out=b.out
 kinds:s.kinds=oH c b.out.Tables
 len:b.sources.length=b.out.Tables.length
 bad: ∀t∈b.out.Tables,Hy c t=false
 few:b.out.Tables.length<=3
 maps:Maps (eX c b.sources b.out.Tables) (b.sources.map gj) s
 groups:s.groups=xZ s.kinds b.out.Keys b.out.Aggs
 keys: ∀k∈b.out.Keys,0<=k/\k<(s.kinds.length:Int)
 keysLen:b.out.Keys.length<=3
 aggsLen:b.out.Aggs.length<=12
 aggsOnce:b.out.Aggs.Nodup
 aggsOk: ∀a∈b.out.Aggs,(zT a s.kinds).2=true
def EU(c:aR): ∀(ss:List ef) (ts:List Int) (e:cS×cS),e∈eX c ss ts->e.1∈ss.map gj
 |[],_,e,h=>by simp [eX]at h
 |s::ss,[],e,h=>by simp [eX]at h
 |s::ss,t::ts,e,h=>by
  simp only [eX,Bj,sA,vX]at h
  rcases h with⟨x,_,rfl⟩|h
  ·simp
  ·exact oD _ (EU c ss ts e h)
def A2(b:aA)(s:ef)(r:Int)(hl:b.sources.length<=1000)(hl2:b.out.Tables.length<=1000): ∀l:List ef,gZ b s r l=if gj s∈l.map gj then some (221,b)else some (0,{b with sources:=b.sources++[s],out:={b.out with Tables:=b.out.Tables++[r]}})
 |[]=>by
  unfold gZ
  rw [dH (by simp;omega),bH,dH (by simp;omega),bH]
  rfl
 |e::l=>by
  unfold gZ
  rw [uw,bH,uw,bH,A2 b s r hl hl2 l]
  by_cases h:gj e=gj s
  ·rw [cz (by simpa using h),cz (by simp [h])]
  ·rw [cr (by simpa using h)]
   have:(gj s∈List.map gj (e::l))=(gj s∈List.map gj l):=by
    simp only [uG,gw]
    exact propext ⟨fun Z=>Z.resolve_left fun h3=>h h3.symm,.inr⟩
   simp only [this]
def EH{c:aR}(hc:rq c){s:am}{b:aA}(h:vT c s b)(hl:b.sources.length<=2)(hk:b.out.Keys=[])(ha:b.out.Aggs=[])(p:ef):
  (∃e,e≠0/\iy s p=some (e,s)/\jI b p=some (e,b))\/(∃s' b' k,iy s p=some (0,s')/\jI b p=some (0,b')/\vT c s' b' /\s'.from_=s.from_/\s'.at_=s.at_/\b' ={b with sources:=b.sources++[p],out:={b.out with Tables:=b.out.Tables++[k]}}):=by
 unfold iy jI
 rw [show pZ s.Catalog p.Table=_ from(congrArg (fun(aE:aR)=>pZ aE p.Table) h.cat).trans (Fp c p.Table),show sM b.c p.Table=_ from(congrArg (fun(aE:aR)=>sM aE p.Table) h.bc).trans (H5 c p.Table hc.basC.len),Hx]
 have hlen:=h.len
 cases A:zh p.Table c.Tables 0 with
 |none=>exact .inl ⟨220,by decide,rfl,rfl⟩
 |some k=>
  have hkl:=(KW A).2
  simp only [bH]
  rw [A2 b p _ (by omega) (by omega),h.maps.called]
  have d1:decide ((k:Int)<0)=false:=by rw [qM];omega
  simp only [d1,rn,lu,jQ]
  by_cases hn:gj p∈b.sources.map gj
  ·rw [rr hn,cz rfl,cz hn]
   exact .inl ⟨221,by decide,rfl,rfl⟩
  ·rw [uj hn,cr (by decide),cr hn]
   have hb0:Hy c (k:Int)=false:=by
    unfold Hy
    rw [ED,qM,qM];omega
   obtain⟨x,g1,g2,g3⟩:=FG hb0
   right
   obtain⟨sc,hsc⟩: ∃sc:am,sc={s with called:=kq s.called (gj p) true,out:={s.out with Tables:=s.out.Tables++[(k:Int)]}}:=⟨_,rfl⟩
   have hE:=zK c b.sources b.out.Tables [p] [(k:Int)] h.len
   have hE1:eX c [p] [(k:Int)]=sA (gj p) (kJ c (k:Int)):=by simp [eX]
   rw [hE1]at hE
   have hEl:=zJ c b.sources b.out.Tables h.len
   have hkk:oH c (b.out.Tables++[(k:Int)])=oH c b.out.Tables++(kJ c (k:Int)).map fun x=>x.Kind:=by simp [oH]
   have hcl:=yq hc.basC.few (k:Int)
   have hKl:(oH c b.out.Tables).length<=3000:=by
    have: ∀l:List Int,(oH c l).length<=l.length*1000:=by
     intro l
     induction l with
     |nil=>exact gc _
     |cons t l ih=>
      have:=yq hc.basC.few t
      simp only [oH,List.flatMap_cons,pF,Ck,jm]at ih ⊢
      omega
    have:=this b.out.Tables
    omega
   obtain⟨s',k1,k2,k3,k4⟩:=IA (nm:=gj p) (kJ c (k:Int)) (eX c b.sources b.out.Tables) (b.sources.map gj++[gj p]) sc (fun n=>by
    rw [hsc]
    simp only
    by_cases hn2:n=gj p
    ·subst hn2;rw [qw];simp
    ·rw [pg _ hn2,h.maps.called];simp [hn2]) (fun n=>by rw [hsc];exact h.maps.alone n) (fun t n=>by rw [hsc];exact h.maps.behind t n) (by rw [hsc,hEl];exact congrArg List.length h.kinds) (by rw [hEl];omega)
   have hb' :s'.kinds=oH c (b.out.Tables++[(k:Int)]):=by rw [k2,hkk,hsc];simp [h.kinds]
   refine⟨s',{b with sources:=b.sources++[p],out:={b.out with Tables:=b.out.Tables++[(k:Int)]}},(k:Int),?_,rfl,?_,?_,?_,rfl⟩
   ·rw [dH (by rw [h.out];simp;omega),bH]
    rw [show fB s.Catalog.Tables (k:Int)=some x from by rw [h.cat];exact g1,bH,g2]
    rw [hsc]at k1
    exact k1
   ·refine⟨?_,h.bc,?_,hb',?_,?_,?_,⟨?_,?_,?_,?_⟩,?_,?_,?_,?_,?_,?_⟩
    ·rw [k2,hsc];exact h.cat
    ·rw [k2,hsc];simp only;rw [h.out]
    ·simp only [pF,y9];omega
    ·intro t M
     rcases Bj.1 M with M|M
     ·exact h.bad t M
     ·rw [Bn.1 M];exact hb0
    ·simp only [pF,y9];omega
    ·intro n
     have:s'.called=sc.called:=by rw [k2]
     rw [this,hsc]
     simp only [Im,uG,Ez]
     by_cases hn2:n=gj p
     ·subst hn2;rw [qw];simp
     ·rw [pg _ hn2,h.maps.called];simp [hn2]
    ·intro n;simp only;rw [hE];exact k3 n
    ·intro t n;simp only;rw [hE];exact k4 t n
    ·simp only
     rw [hE,List.nodup_append]
     refine⟨h.maps.once,?_,?_⟩
     ·have:=hc.basC.cols (k:Int)
      unfold Ms at this
      unfold sA
      rw [List.nodup_iff_pairwise_ne]at this ⊢
      rw [List.pairwise_map]at this ⊢
      exact this.imp fun hxy e=>hxy (congrArg Prod.snd e)
     ·intro a ha' b2 hb2 e
      subst e
      simp only [sA,vX]at hb2
      obtain⟨y,_,rfl⟩:=hb2
      exact hn (EU c _ _ _ ha')
    ·have e1:s'.groups=s.groups:=by rw [k2,hsc]
     rw [e1,h.groups]
     simp only [hk,ha]
     rfl
    ·intro k' hk';simp only [hk]at hk';cases hk'
    ·simp [hk]
    ·simp [ha]
    ·simp [ha]
    ·intro a ha';simp only [ha]at ha';cases ha'
   ·rw [k2,hsc]
   ·rw [k2,hsc]
end Go.Proofs.YthbdkceckjihgaaGreatDoor


/- du of this claim: B10. -/
set_option linter.all false
namespace Go.Proofs.YthbdkceckjihgaaGreatDoor
open Go

def o4{t:Tr}(hw:t.wf)(hs:t.size<=1000):lU (t.flat 0)=true:=by
 unfold lU
 rw [zg hw hs];rfl
def Rh(n:aC):Tr:= .lf (hU n (-1) (-1))
def DZ{n:aC}(V:pk n.Tag=some 0)(Z:EX n=true):(Rh n).wf:=⟨V,Z,rfl,rfl⟩
def LE(n:aC):(Rh n).flat 0=[hU n (-1) (-1)]:=rfl
def Ak{n:aC}(V:pk n.Tag=some 0)(Z:EX n=true):vg n=some (⟨(Rh n).flat 0⟩,0):=by
 have hm:sZ n []=some (Ym (lU [hU n (-1) (-1)]) ⟨[hU n (-1) (-1)]⟩):=zz (fun e h=>by cases h) rfl (Vf n) (by show 1<=100000;omega)
 have hr:lU [hU n (-1) (-1)]=true:=o4 (DZ V Z) (by show 1<=1000;omega)
 rw [hr]at hm
 unfold vg
 rw [hm];rfl
def xm(n:aC):gA n []=some ⟨(Rh n).flat 0⟩:=abQ n
def zO(k:Int):aC:=⟨2,0,0,k,⟨0,0,0,[]⟩⟩
def SW(v:cJ):aC:=⟨1,0,0,0,v⟩
def Av(k:Int):pk (zO k).Tag=some 0:=rfl
def xx{k:Int}(h0:0<=k)(V:k<16):EX (zO k)=true:=by
 unfold EX ju zO
 simp [h0,V]
def GW{v:cJ}(h:ux v=true):EX (SW v)=true:=by
 unfold EX ju SW
 rw [pe,h];rfl
def Ye{l:List Int}(h: ∀k∈l,k4 k):R5 l=true:=by
 unfold R5
 rw [pG]
 intro k hk
 have:=h k hk
 unfold k4 at this
 simp only [jR,nE]
 omega
def GX{t:Tr}(hw:t.wf)(hs:t.size<=1000){kinds:List Int}(hk: ∀k∈kinds,k4 k):kF ⟨t.flat 0⟩ kinds=if sb kinds.length (t.flat 0)then(match kd kinds t with
  |some k=>((k,0):Int×Int)
  |none=>(0,201))else(0,2):=by
 unfold kF
 rw [o4 hw hs,Ye hk,cz rfl,cz rfl]
 simp only [zg hw hs,bH]
 split<;>first|rfl|(cases kd kinds t<;>rfl)
def S2{e:aW}{kinds:List Int}(hk: ∀k∈kinds,k4 k):k4 (kF e kinds).1:=by
 unfold kF
 split
 ·split
  ·split
   ·rename_i hr _ _
    unfold lU at hr
    cases M:sJ e.Nodes with
    |none=>rw [M]at hr;cases hr
    |some t=>
     simp only [bH]
     cases hd:kd kinds t with
     |none=>exact .inl rfl
     |some k=>exact Pp hk t (q8 M).1 hd
   ·exact .inl rfl
  ·exact .inl rfl
 ·exact .inl rfl
def LJ{k:Int}{kinds:List Int}(hk: ∀k∈kinds,k4 k)(h0:0<=k)(V:k<(kinds.length:Int))(h16:k<16):(kF ⟨(Rh (zO k)).flat 0⟩ kinds).2=0:=by
 rw [GX (DZ (Av k) (xx h0 h16)) (by show 1<=1000;omega) hk]
 rw [cz]
 ·rfl
 ·rw [LE]
  unfold sb
  simp [hU,zO]
  omega
def SZ{v:cJ}(hv:ux v=true){kinds:List Int}(hk: ∀k∈kinds,k4 k):(kF ⟨(Rh (SW v)).flat 0⟩ kinds).2=0:=by
 rw [GX (DZ (show pk 1=some 0 from rfl) (GW hv)) (by show 1<=1000;omega) hk]
 rw [cz]
 ·rfl
 ·rw [LE];rfl
def SO(tag:Int):aC:=⟨tag,-1,-1,0,⟨0,0,0,[]⟩⟩
def Pa{tag:Int}{k:Nat}(h:pk tag=some (k+1)):EX (SO tag)=true:=by
 unfold EX ju SO
 have V: ¬tag=1:=fun e=>by subst e;simp [pk]at h
 have Z: ¬tag=2:=fun e=>by subst e;simp [pk]at h
 simp [V,Z]
def WS{tag:Int}{a:Tr}(h:pk tag=some 1)(ha:a.wf):(Tr.un (SO tag) a).wf:=⟨⟨h,Pa h,rfl,rfl⟩,ha⟩
def XC{tag:Int}{a b:Tr}(h:pk tag=some 2)(ha:a.wf)(Y:b.wf):(Tr.bi (SO tag) a b).wf:=⟨⟨h,Pa h,rfl,rfl⟩,ha,Y⟩
def WD(tag:Int)(a b:Tr):(Tr.bi (vz tag) a b).flat 0=(Tr.bi (SO tag) a b).flat 0:=rfl
def Pd(tag:Int){a:Tr}(ha:a.wf)(hs:a.size<=900):zI tag ⟨a.flat 0⟩=some (Ym (lU ((Tr.un (SO tag) a).flat 0)) ⟨(Tr.un (SO tag) a).flat 0⟩):=by
 have hl: ∀e∈[(⟨a.flat 0⟩:aW)],e.Nodes.length<=100000:=by
  intro e h
  simp only [Bn]at h
  subst h
  show(a.flat 0).length<=100000
  rw [a.flat_len];omega
 have hw:((⟨(Tr.un (vz tag) a).flat 0⟩:aW)).Nodes.length<=100000:=by
  show((Tr.un (vz tag) a).flat 0).length<=100000
  rw [Tr.flat_len];simp only [Tr.size];omega
 have hm:=zz (root:=vz tag) hl (by simp [o4 ha (by omega)]) (Ve _ a (by omega)) hw
 unfold zI
 rw [show(⟨tag,0,0,0,⟨0,0,0,[]⟩⟩:aC)=vz tag from rfl,hm]
 rfl
def SP{tag:Int}(h:pk tag=some 1){a:Tr}(ha:a.wf)(hs:a.size<=900):zI tag ⟨a.flat 0⟩=some (⟨(Tr.un (SO tag) a).flat 0⟩,0):=by
 rw [Pd tag ha hs,o4 (WS h ha) (by simp only [Tr.size];omega)];rfl
def Sh{tag:Int}(h:pk tag=some 2){a b:Tr}(ha:a.wf)(Y:b.wf)(hs:a.size+b.size<=900):C8 tag ⟨a.flat 0⟩ ⟨b.flat 0⟩=some (⟨(Tr.bi (SO tag) a b).flat 0⟩,0):=by
 have hl: ∀e∈[(⟨a.flat 0⟩:aW),⟨b.flat 0⟩],e.Nodes.length<=100000:=by
  intro e h
  simp only [gw,List.not_mem_nil,or_false]at h
  rcases h with rfl|rfl
  ·show(a.flat 0).length<=100000
   rw [a.flat_len];omega
  ·show(b.flat 0).length<=100000
   rw [b.flat_len];omega
 have hw:((⟨(Tr.bi (vz tag) a b).flat 0⟩:aW)).Nodes.length<=100000:=by
  show((Tr.bi (vz tag) a b).flat 0).length<=100000
  rw [Tr.flat_len];simp only [Tr.size];omega
 have hm:=zz (root:=vz tag) hl (by simp [o4 ha (by omega),o4 Y (by omega)]) (Vd _ a b (by omega)) hw
 unfold C8
 rw [show(⟨tag,0,0,0,⟨0,0,0,[]⟩⟩:aC)=vz tag from rfl,hm,WD,o4 (XC h ha Y) (by simp only [Tr.size];omega)]
 rfl
def Pb(tag:Int){a:Tr}(hs:a.size<=900):gA ⟨tag,0,0,0,⟨0,0,0,[]⟩⟩ [⟨a.flat 0⟩]=some ⟨(Tr.un (SO tag) a).flat 0⟩:=Ov (vz tag) a (by omega)
def UQ(tag:Int){a b:Tr}(hs:a.size<=900)(hs2:b.size<=900):gA ⟨tag,0,0,0,⟨0,0,0,[]⟩⟩ [⟨a.flat 0⟩,⟨b.flat 0⟩]=some ⟨(Tr.bi (SO tag) a b).flat 0⟩:=Ou (vz tag) a b (by omega) (by omega)
def HR(a:f9)(kinds:List Int):qk a kinds=some (zT a kinds):=by
 unfold qk zT
 rw [qq]
 by_cases V:a.Tag=1
 ·rw [cz (by simpa using V),cz V]
 ·rw [cr (by simpa using V),cr V,bH]
  by_cases Z:(kF a.Arg kinds).2≠0\/(a.Tag=3/\(kF a.Arg kinds).1≠2/\(kF a.Arg kinds).1≠0)
  ·rw [cz Z,cz (by simpa [and_assoc] using Z)]
  ·rw [cr Z,cr (by simpa [and_assoc] using Z)]
   by_cases h3:a.Tag=2\/a.Tag=3
   ·rw [cz h3,cz (by simpa using h3)]
   ·rw [cr h3,cr (by simpa using h3)]
def Uk{a:f9}{kinds:List Int}(hk: ∀k∈kinds,k4 k):k4 (zT a kinds).1:=by
 unfold zT
 split
 ·exact .inr (.inr (.inl rfl))
 ·split
  ·exact .inl rfl
  ·split
   ·exact .inr (.inr (.inl rfl))
   ·exact S2 hk
def LW(r:List Int): ∀(l:List f9) (out:List Int),out.length+l.length<=1000000->jK r l out=some (out++l.map fun a=>(zT a r).1)
 |[],out,_=>by simp [jK]
 |a::l,out,h=>by
  simp only [jm]at h
  unfold jK
  rw [HR,bH,dH (by simp;omega),bH,LW r l _ (by simp;omega)]
  simp
def LX(s:aL)(r:List Int)(ha:s.Aggs.length<=1000): ∀(l:List Int) (out:List Int),(∀k∈l,0<=k/\k<(r.length:Int))->out.length+l.length<=10000->jL s r l out=some (out++xZ r l s.Aggs)
 |[],out,_,h=>by
  unfold jL
  rw [LW r _ _ (by simp at h;omega)];rfl
 |k::l,out,hk,h=>by
  simp only [jm]at h
  obtain⟨h0,V⟩:=hk k (oa ..)
  have hi:fB r k=some ((r[k.toNat]?).getD 0):=by
   have hlt:k.toNat<r.length:=by omega
   unfold fB
   rw [cz h0,lP hlt];rfl
  unfold jL
  rw [hi,bH,dH (by simp;omega),bH,LX s r ha l _ (fun j hj=>hk j (oD _ hj)) (by simp;omega)]
  simp [xZ,LK]
def vT.kindsLen{c:aR}{s:am}{b:aA}(hc:rq c)(h:vT c s b):s.kinds.length<=12:=by
 have: ∀l:List Int,(oH c l).length<=l.length*4:=by
  intro l
  induction l with
  |nil=>exact gc _
  |cons t l ih=>
   have h4:(kJ c t).length<=4:=by
    unfold kJ
    cases A:c.Tables[t.toNat]? with
    |none=>simp
    |some x=>exact hc.cols4 x (uk A)
   simp only [oH,List.flatMap_cons,pF,Ck,jm]at ih ⊢
   omega
 have Z:=this b.out.Tables
 have:=h.few
 rw [h.kinds];omega
def vT.kinds4{c:aR}{s:am}{b:aA}(hc:rq c)(h:vT c s b): ∀k∈s.kinds,k4 k:=by
 rw [h.kinds]
 intro k hk
 simp only [oH,List.mem_flatMap,vX]at hk
 obtain⟨t,_,x,A,rfl⟩:=hk
 unfold kJ at A
 cases hy:c.Tables[t.toNat]? with
 |none=>rw [hy]at A;simp at A
 |some y=>
  rw [hy]at A
  have:=hc.kinds y (uk hy) x A
  unfold wo at this
  simp only [y7,vW]at this
  unfold k4;omega
def vT.groups4{c:aR}{s:am}{b:aA}(hc:rq c)(h:vT c s b): ∀k∈s.groups,k4 k:=by
 rw [h.groups]
 intro k hk
 have h4:=h.kinds4 hc
 unfold xZ LK at hk
 rcases Bj.1 hk with hk|hk
 ·obtain⟨j,hj,rfl⟩:=vX.1 hk
  obtain⟨h0,V⟩:=h.keys j hj
  have hlt:j.toNat<s.kinds.length:=by omega
  rw [lP hlt]
  exact h4 _ (KD ..)
 ·obtain⟨a,_,rfl⟩:=vX.1 hk
  exact Uk h4
def vT.groupsLen{c:aR}{s:am}{b:aA}(h:vT c s b):s.groups.length=b.out.Keys.length+b.out.Aggs.length:=by
 rw [h.groups];simp [xZ,LK]
def vT.refKinds{c:aR}{s:am}{b:aA}(hc:rq c)(h:vT c s b):jV b.c b.out.Tables=some s.kinds:=by
 rw [h.bc,JJ hc.basC.few h.bad (by have:=h.few;omega),h.kinds]
def vT.refGroups{c:aR}{s:am}{b:aA}(hc:rq c)(h:vT c s b):ja b.c b.out=some s.groups:=by
 unfold ja
 rw [h.refKinds hc,bH,LX b.out s.kinds (by have:=h.aggsLen;omega) _ _ h.keys (by have:=h.keysLen;simp;omega),h.groups]
 rfl
def vT.column{c:aR}{s:am}{b:aA}(hc:rq c)(h:vT c s b)(n:km):kU s n=some (y0 (eX c b.sources b.out.Tables) n.Table n.Name)/\jJ b n.Table n.Name=some (y0 (eX c b.sources b.out.Tables) n.Table n.Name):=
 ⟨Mg h.maps n,H3 hc.basC b h.bc n.Table n.Name h.len h.bad (by have:=h.few;omega)⟩
def vT.colIn{c:aR}{s:am}{b:aA}(h:vT c s b)(t n:cS)(he:(y0 (eX c b.sources b.out.Tables) t n).2=0):0<=(y0 (eX c b.sources b.out.Tables) t n).1/\(y0 (eX c b.sources b.out.Tables) t n).1<(s.kinds.length:Int):=by
 have hl:=zJ c b.sources b.out.Tables h.len
 rw [h.kinds,<-hl]
 have hr:=BL (fun e=>decide (e.2=n)&&(decide (t=[])||decide (e.1=t))) (eX c b.sources b.out.Tables) 0
 unfold y0 at he ⊢
 match hh:mP (fun e=>decide (e.2=n)&&(decide (t=[])||decide (e.1=t))) (eX c b.sources b.out.Tables) 0 with
 |[]=>rw [hh]at he;cases he
 |[k]=>
  rw [hh]at hr
  have:=hr k (oa ..)
  simp only
  omega
 |k::k2::tD=>rw [hh]at he;cases he
def G2{x a:f9}(h: ¬x=a)(l:List f9):(x::l).idxOf a=l.idxOf a+1:=by
 have:(x==a)=false:=by simpa using h
 simp [List.idxOf,List.findIdx_cons,this]
def LP(a:f9): ∀(l:List f9) (i:Nat),eA (lO a) l i=some (if a∈l then((i+l.idxOf a:Nat):Int)else -1)
 |[],i=>rfl
 |x::l,i=>by
  unfold eA
  have hf:lO a x=some (decide (x=a)):=by
   unfold lO
   rw [pY]
   obtain⟨t1,⟨n1⟩⟩:=x
   obtain⟨t2,⟨n2⟩⟩:=a
   by_cases V:t1=t2
   ·subst V;by_cases Z:n1=n2<;>simp [Z]
   ·have:(t1==t2)=false:=by simpa using V
    simp [this,V]
  rw [hf,bH,LP a l (i+1)]
  by_cases h:x=a
  ·subst h;simp
  ·rw [cr (by simpa using h)]
   congr 1
   have hm:(a∈x::l)=(a∈l):=by
    simp only [gw]
    exact propext ⟨fun Z=>Z.resolve_left fun h3=>h h3.symm,.inr⟩
   simp only [hm]
   by_cases ha:a∈l
   ·rw [cz ha,cz ha,show(x::l).idxOf a=l.idxOf a+1 from G2 h l]
    congr 1;omega
   ·rw [cr ha,cr ha]
def Oj(b:aA)(a:f9): ∀(l:List f9) (i:Nat) (at1:Int),l.Nodup->fy b a l i at1=fy b a [] (i+l.length) (if a∈l then((i+l.idxOf a:Nat):Int)else at1)
 |[],i,at1,_=>rfl
 |x::l,i,at1,hn=>by
  have hn' :=List.nodup_cons.1 hn
  conv=>lhs;unfold fy
  have hf:(if(x.Tag==a.Tag)=true then(lX x.Arg a.Arg).bind fun r3=>some r3 else some false)=some (decide (x=a)):=by
   rw [ox]
   obtain⟨t1,⟨n1⟩⟩:=x
   obtain⟨t2,⟨n2⟩⟩:=a
   by_cases V:t1=t2
   ·subst V;by_cases Z:n1=n2<;>simp [Z]
   ·have:(t1==t2)=false:=by simpa using V
    simp [this,V]
  rw [hf,bH,show i+(x::l).length=i+1+l.length from by simp only [jm];omega]
  by_cases h:x=a
  ·subst h
   rw [cz (by simp),Oj b x l (i+1) _ hn'.2,cr hn'.1,cz (oa ..)]
   simp
  ·rw [cr (by simpa using h),Oj b a l (i+1) _ hn'.2]
   have hm:(a∈x::l)=(a∈l):=by
    simp only [gw]
    exact propext ⟨fun Z=>Z.resolve_left fun h3=>h h3.symm,.inr⟩
   simp only [hm]
   by_cases ha:a∈l
   ·rw [cz ha,cz ha,show(x::l).idxOf a=l.idxOf a+1 from G2 h l]
    congr 2;omega
   ·rw [cr ha,cr ha]
end Go.Proofs.YthbdkceckjihgaaGreatDoor


/- du of this claim: B11. -/
set_option linter.all false
namespace Go.Proofs.YthbdkceckjihgaaGreatDoor
open Go

def FP(s s' :am)(b b' :aA):Prop:=s' ={s with out:={s.out with Aggs:=s'.out.Aggs},groups:=s'.groups}/\b' ={b with out:={b.out with Aggs:=b'.out.Aggs}}
def FP.refl(s:am)(b:aA):FP s s b b:=⟨rfl,rfl⟩
def FP.trans{s s1 s2:am}{b b1 b2:aA}(h:FP s s1 b b1)(k:FP s1 s2 b1 b2):FP s s2 b b2:=by
 obtain⟨V,Z⟩:=h
 obtain⟨k1,k2⟩:=k
 refine⟨?_,?_⟩
 ·rw [k1,V]
 ·rw [k2,Z]
def Uj{c:aR}(hc:rq c){s:am}{b:aA}(h:vT c s b)(a:f9)(M:1<=a.Tag/\a.Tag<=5)(ha:a.Arg.Nodes.length<=50000):
  (∃e s' b',e≠0/\nv s a=some (0,e,s')/\na b a=some (⟨[]⟩,e,b')/\FP s s' b b')\/(∃k s' b',nv s a=some (k,0,s')/\na b a=some (⟨(Rh (zO k)).flat 0⟩,0,b')/\vT c s' b' /\FP s s' b b' /\0<=k/\k<(s'.groups.length:Int)/\k<16):=by
 have hkl:=h.kindsLen hc
 have hal:=h.aggsLen
 have hkeys:=h.keysLen
 -- the code, up to its kind
 have hcode:nv s a=if(zT a s.kinds).2 then kV s a (zT a s.kinds).1 else some (0,201,s):=by
  unfold nv zT
  rw [u6 _ _ ha]
  by_cases V:a.Tag=1
  ·rw [cr (by simp [V]),cz V];rfl
  ·rw [cz (by simpa using V),cr V,bH]
   by_cases Z:(kF a.Arg s.kinds).2≠0\/(a.Tag=3/\(kF a.Arg s.kinds).1≠2/\(kF a.Arg s.kinds).1≠0)
   ·rw [cz Z,cz (by simpa [and_assoc] using Z)];rfl
   ·rw [cr Z,cr (by simpa [and_assoc] using Z)]
    by_cases h3:a.Tag=2\/a.Tag=3
    ·rw [cz h3,cr (by simp;omega)];rfl
    ·rw [cr h3,cz (by simp;omega)];rfl
 rw [hcode]
 unfold na
 rw [h.refKinds hc,bH,HR,bH,Oj b a _ _ _ h.aggsOnce]
 cases hok:(zT a s.kinds).2 with
 |false=>exact .inl ⟨201,s,b,by decide,rfl,rfl,FP.refl _ _⟩
 |true=>
  simp only [rn,lu,jQ,jo,sB]
  unfold kV jp
  rw [LP,bH,h.out,sB]
  by_cases hm:a∈b.out.Aggs
  ·-- it is there
   have hix:=ON hm
   rw [cz hm,cz hm,cr (by rw [nE];omega)]
   have hw:IntKind.i64.wrap ((b.out.Keys.length:Int)+((b.out.Aggs.idxOf a:Nat):Int))=((b.out.Keys.length+b.out.Aggs.idxOf a:Nat):Int):=by rw [d6 (by omega) (by omega)];omega
   right
   refine⟨((b.out.Keys.length+b.out.Aggs.idxOf a:Nat):Int),s,b,?_,?_,h,FP.refl _ _,by omega,by have:=h.groupsLen;omega,by omega⟩
   ·unfold mJ
    rw [h.out,cr (by rw [nE];omega),hw]
   ·unfold fy li
    rw [cr (by rw [vW];omega),cr (by rw [nE];omega),hw]
    rw [show(⟨2,0,0,((b.out.Keys.length+b.out.Aggs.idxOf a:Nat):Int),⟨0,0,0,[]⟩⟩:aC)=zO ((b.out.Keys.length+b.out.Aggs.idxOf a:Nat):Int)from rfl,xm]
    rfl
  ·-- it is new
   rw [cr hm,cr hm,cz (by decide),dH (by simp;omega),bH,dH (by have:=h.groupsLen;simp;omega),bH]
   unfold fy
   rw [cz (by simp),dH (by simp;omega),bH]
   unfold mJ li
   simp only [pF,y9]
   by_cases h12:b.out.Aggs.length+1<=12
   ·have hw:IntKind.i64.wrap ((b.out.Keys.length:Int)+((b.out.Aggs.length:Nat):Int))=((b.out.Keys.length+b.out.Aggs.length:Nat):Int):=by rw [d6 (by omega) (by omega)];omega
    rw [cr (by rw [nE];omega),cr (by rw [nE];omega),hw]
    rw [show(⟨2,0,0,((b.out.Keys.length+b.out.Aggs.length:Nat):Int),⟨0,0,0,[]⟩⟩:aC)=zO ((b.out.Keys.length+b.out.Aggs.length:Nat):Int)from rfl,xm,bH]
    right
    refine⟨_,_,_,rfl,rfl,?_,⟨?_,rfl⟩,by omega,?_,by omega⟩
    ·refine⟨h.cat,h.bc,rfl,h.kinds,h.len,h.bad,h.few,⟨h.maps.called,h.maps.alone,h.maps.behind,h.maps.once⟩,?_,h.keys,h.keysLen,by simpa using h12,?_,?_⟩
     ·simp only
      rw [h.groups]
      simp [xZ]
     ·simp only
      rw [List.nodup_append]
      refine⟨h.aggsOnce,by simp,fun x A y hy e=>?_⟩
      rw [Bn.1 hy]at e
      exact hm (e▸A)
     ·intro x A
      rcases Bj.1 A with A|A
      ·exact h.aggsOk x A
      ·rw [Bn.1 A];exact hok
    ·rw [h.out]
    ·have:=h.groupsLen;simp only [pF,y9];omega
   ·rw [cz (by rw [nE];omega),cz (by rw [nE];omega)]
    left
    refine⟨228,_,_,by decide,rfl,rfl,?_,rfl⟩
    rw [h.out]
end Go.Proofs.YthbdkceckjihgaaGreatDoor


/- du of this claim: B12. -/
set_option linter.all false
namespace Go.Proofs.YthbdkceckjihgaaGreatDoor
open Go

def ov(s:am)(g:Bool):List Int:=if g then s.groups else s.kinds
def uE:am->Bool->Option ((List Int)×am):=fun(mc:am) (mx:Bool)=>(gD mc mx).map fun mr=>(mr,mc)
def Lv(s:am)(g:Bool):uE s g=some (ov s g,s):=by
 unfold uE gD ov
 cases g<;>rfl
def vT.ov4{c:aR}{s:am}{b:aA}(hc:rq c)(h:vT c s b)(g:Bool): ∀k∈ov s g,k4 k:=by
 unfold ov
 cases g with
 |true=>exact h.groups4 hc
 |false=>exact h.kinds4 hc
def Qf(c:aR)(s:am)(b:aA)(g:Bool)(n:Nat)(C:Option (aW×Int×am))(hg:Option (aW×Int×aA)):Prop:=
 (∃(e:Int) (x:aW) (s' :am) (x' :aW) (b' :aA),e≠0/\C=some (x,e,s')/\hg=some (x',e,b')/\FP s s' b b')\/
 (∃(t:Tr) (s' :am) (b' :aA),C=some ((⟨t.flat 0⟩:aW),0,s')/\hg=some ((⟨t.flat 0⟩:aW),0,b')/\t.wf/\t.size<=n/\vT c s' b' /\FP s s' b b' /\(g=false->s' =s/\b' =b)/\(kF ⟨t.flat 0⟩ (ov s' g)).2=0)
def Tf(s:am)(g:Bool){x:aW}(A:x.Nodes.length<=50000):je uE g s 0 x=some (x,(kF x (ov s g)).2,s):=by
 unfold je
 rw [cz (by rfl),Lv,bH,u6 _ _ A,bH]
 rfl
def Vk{c:aR}(hc:rq c){s:am}{b:aA}(h:vT c s b)(g:Bool)(x y:aW):iX g y x b=some (x,(kF x (ov s g)).2,b):=by
 unfold iX mE ov
 rw [h.refKinds hc,bH]
 cases g with
 |true=>
  simp only [jo]
  rw [h.refGroups hc,bH,qq];rfl
 |false=>
  simp only [lu,jQ]
  rw [qq];rfl
def L4{c:aR}(hc:rq c){s s' :am}{b b' :aA}(h:vT c s' b')(hf:FP s s' b b'){g:Bool}(D:g=false->s' =s/\b' =b){t:Tr}(hw:t.wf)(hs:t.size<=900){n:Nat}(hn:t.size<=n)(y:aW):
  Qf c s b g n (je uE g s' 0 ⟨t.flat 0⟩) (iX g y ⟨t.flat 0⟩ b'):=by
 rw [Tf s' g (by show(t.flat 0).length<=50000;rw [t.flat_len];omega),Vk hc h]
 by_cases he:(kF ⟨t.flat 0⟩ (ov s' g)).2=0
 ·exact .inr ⟨t,s',b',by rw [he],by rw [he],hw,hn,h,hf,D,he⟩
 ·exact .inl ⟨_,_,_,_,_,he,rfl,rfl,hf⟩
def Eo(n:aC){r:aW×Int}(h:vg n=some r):cb n=some r:=by
 unfold cb
 rw [h];rfl
def Mf{c:aR}(hc:rq c){s:am}{b:aA}(h:vT c s b){g:Bool}{k:Int}(h0:0<=k)(V:k<((ov s g).length:Int))(h16:k<16)(r1:Int×Int)(hr:r1.2=0)(y:aW){n:Nat}(hn:1<=n):
  Qf c s b g n (eE s cb k 0) (gP b r1 k y):=by
 unfold eE gP
 rw [cr (by decide),show(⟨2,0,0,k,⟨0,0,0,[]⟩⟩:aC)=zO k from rfl,Eo _ (Ak (Av k) (xx h0 h16)),xm,bH,bH,hr]
 exact .inr ⟨Rh (zO k),s,b,rfl,rfl,DZ (Av k) (xx h0 h16),hn,h,FP.refl _ _,fun _=>⟨rfl,rfl⟩,LJ (h.ov4 hc g) h0 V h16⟩
def I2(v:Int): ∀(l:List Int) (i:Nat),iT v l i=some (if v∈l then((i+l.idxOf v:Nat):Int)else -1)
 |[],i=>rfl
 |x::l,i=>by
  unfold iT
  by_cases h:v=x
  ·subst h;simp
  ·rw [cr (by simpa using h),I2 v l (i+1)]
   have hs:(x::l).idxOf v=l.idxOf v+1:=by
    have:(x==v)=false:=by simpa using Ne.symm h
    simp [List.idxOf,List.findIdx_cons,this]
   have hm:(v∈x::l)=(v∈l):=by
    simp only [gw]
    exact propext ⟨fun Z=>Z.resolve_left h,.inr⟩
   simp only [hm,hs]
   by_cases hv:v∈l
   ·rw [cz hv,cz hv];congr 1;omega
   ·rw [cr hv,cr hv]
def NL{x v:Int}(h: ¬x=v)(l:List Int):(x::l).idxOf v=l.idxOf v+1:=by
 have:(x==v)=false:=by simpa using h
 simp [List.idxOf,List.findIdx_cons,this]
def Yf(v:Int): ∀(l m:List Int),v∈l->(l++m).idxOf v=l.idxOf v
 |x::l,m,h=>by
  by_cases A:x=v
  ·subst A;simp
  ·rw [yU,NL A,NL A,Yf v l m ((gw.1 h).resolve_left fun e=>A e.symm)]
def Xc(v:Int): ∀(l m:List Int),v∉l->(l++m).idxOf v=l.length+m.idxOf v
 |[],m,_=>by simp
 |x::l,m,h=>by
  rw [gw,not_or]at h
  rw [yU,NL (fun e=>h.1 e.symm),Xc v l m h.2,jm];omega
def X8(b:aA)(r1:Int×Int)(hl:b.out.Keys.length<=1000): ∀(j fu:Nat) (own:Int),j<=b.out.Keys.length->j<fu->dP b r1 fu own ((j:Int)-1)=dP b r1 1 (if r1.1∈b.out.Keys.take j then(((b.out.Keys.take j).idxOf r1.1:Nat):Int)else own) (-1):=by
 intro j
 induction j with
 |zero=>
  intro fu own _ hf
  obtain⟨fu,rfl⟩: ∃k,fu=k+1:=⟨fu-1,by omega⟩
  simp only [List.take_zero,List.not_mem_nil,jQ]
  rw [show((0:Nat):Int)-1= -1 from rfl]
  conv=>lhs;unfold dP
  conv=>rhs;unfold dP
  have hd:decide ((0:Int)<= -1)=false:=rfl
  simp only [hd,lu,jQ]
 |succ j ih=>
  intro fu own hj hf
  obtain⟨fu,rfl⟩: ∃k,fu=k+1:=⟨fu-1,by omega⟩
  have hlt:j<b.out.Keys.length:=by omega
  conv=>lhs;unfold dP
  rw [cz (by rw [nE];omega),j3 j (by omega),lP hlt,bH,d6 (by omega) (by omega),show((j+1:Nat):Int)-1-1=(j:Int)-1 from by omega]
  have M:b.out.Keys.take (j+1)=b.out.Keys.take j++[b.out.Keys[j]]:=by rw [MF hlt]
  rw [M]
  by_cases hk:b.out.Keys[j]=r1.1
  ·rw [cz (by simpa using hk),ih fu _ (by omega) (by omega)]
   congr 1
   by_cases hm:r1.1∈b.out.Keys.take j
   ·rw [cz hm,cz (HV _ hm),Yf _ _ _ hm]
   ·rw [cr hm,cz (by rw [hk];simp),hk]
    have:(b.out.Keys.take j++[r1.1]).idxOf r1.1=j:=by
     rw [Xc _ _ _ hm]
     simp [Bk]
     omega
    rw [this];omega
  ·rw [cr (by simpa using hk),ih fu _ (by omega) (by omega)]
   congr 1
   by_cases hm:r1.1∈b.out.Keys.take j
   ·rw [cz hm,cz (HV _ hm),Yf _ _ _ hm]
   ·rw [cr hm,cr]
    intro Z
    rcases Bj.1 Z with Z|Z
    ·exact hm Z
    ·exact hk (Bn.1 Z).symm
def U5(b:aA)(r1:Int×Int)(own:Int):dP b r1 1 own (-1)=if own<0 then some (⟨[]⟩,225,b)else gP b r1 own ⟨[]⟩:=by
 unfold dP
 rw [cr (by decide)]
 by_cases h:own<0
 ·rw [cz h,cz (by simpa using h)]
 ·rw [cr h,cr (by simpa using h)]
def Ro{c:aR}(hc:rq c){s:am}{b:aA}(h:vT c s b)(at1:Int){n:Nat}(hn:1<=n):
  Qf c s b true n ((mC s.out.Keys at1).bind fun r3=>if(decide (r3<(0:Int)))then(eE s cb r3 (225:Int))else(eE s cb r3 0))
   (dP b (at1,0) gi (-1:Int) (IntKind.i64.wrap ((b.out.Keys.length:Int)-(1:Int)))):=by
 have hkl:=h.keysLen
 unfold mC
 rw [I2,bH,h.out,sB,d6 (by omega) (by omega),X8 b (at1,0) (by omega) b.out.Keys.length gi _ (gc _) (by unfold gi;omega),AU,U5]
 by_cases hm:at1∈b.out.Keys
 ·have hix:=ON hm
  rw [cz hm,cr (by rw [nE];omega),cr (by omega)]
  exact Mf hc h (by omega) (by unfold ov;have:=h.groupsLen;simp only [jo];omega) (by omega) (at1,0) rfl _ hn
 ·rw [cr hm,cz (by decide),cz (by omega)]
  unfold eE
  rw [cz (by decide)]
  exact .inl ⟨225,_,_,_,_,by decide,rfl,rfl,FP.refl _ _⟩
def Mm{tag:Int}(h:tag=3\/(8<=tag/\tag<=11)): ∃k:Int,(ij p7 tag).getD (0:Int)=k/\uR tag=some k/\1<=k/\k<=5:=by
 have:tag=3\/tag=8\/tag=9\/tag=10\/tag=11:=by omega
 rcases this with rfl|rfl|rfl|rfl|rfl
 ·exact⟨1,rfl,rfl,by decide,by decide⟩
 ·exact⟨2,rfl,rfl,by decide,by decide⟩
 ·exact⟨3,rfl,rfl,by decide,by decide⟩
 ·exact⟨4,rfl,rfl,by decide,by decide⟩
 ·exact⟨5,rfl,rfl,by decide,by decide⟩
def WF{c:aR}(hc:rq c){s:am}{b:aA}(h:vT c s b){m:dl}{k:Int}(hk:uR m.Tag=some k)(V:1<=k)(h5:k<=5){arg:aW}(ha:arg.Nodes.length<=50000){n:Nat}(hn:1<=n):
  Qf c s b true n (fP cb s ⟨k,arg⟩) (gO m arg b 0):=by
 unfold fP gO
 rw [cr (by decide),hk,bH]
 rcases Uj hc h ⟨k,arg⟩ ⟨V,h5⟩ ha with⟨e,s',b',he,g1,g2,g3⟩|⟨j,s',b',g1,g2,g3,g4,g5,g6,g7⟩
 ·rw [g1,g2,bH,bH,cz (by simpa using he)]
  exact .inl ⟨e,_,_,_,_,he,rfl,rfl,g3⟩
 ·rw [g1,g2,bH,bH]
  simp only [bne_self_eq_false,lu,jQ]
  rw [show(⟨2,0,0,j,⟨0,0,0,[]⟩⟩:aC)=zO j from rfl,Eo _ (Ak (Av j) (xx g5 g7)),bH]
  exact .inr ⟨Rh (zO j),s',b',rfl,rfl,DZ (Av j) (xx g5 g7),hn,g3,g4,fun e=>(by cases e),LJ (g3.ov4 hc true) g5 g6 g7⟩
end Go.Proofs.YthbdkceckjihgaaGreatDoor


/- du of this claim: B13. -/
set_option linter.all false
namespace Go.Proofs.YthbdkceckjihgaaGreatDoor
open Go

def AD{c:aR}{s:am}{b:aA}{g:Bool}{n:Nat}{e:Int}(he:e≠0){x:aW}{s' :am}{x' :aW}{b' :aA}(hf:FP s s' b b'):Qf c s b g n (some (x,e,s')) (some (x',e,b')):= .inl ⟨e,x,s',x',b',he,rfl,rfl,hf⟩
def TV{n:dl}(h:uB n=true)(M:n.Tag=1):ux n.Value=true:=by
 unfold uB at h
 rw [cz M]at h
 simp only [jR,Ah]at h
 exact h.2.1.1
def JP{N P R:List dl}{a:List dl}{m:dl}(hN:N=P++(a++[m])++R):N[P.length+a.length]? =some m:=by
 rw [hN,gK,gK,<-gK P,xI (by simp)]
 simp
def zU(tag:Int):xA tag=true↔(tag=3\/(8<=tag/\tag<=11)):=by
 unfold xA;simp
def Ji{tag:Int}(h:xA tag=false):(ij p7 tag).getD (0:Int)=0:=by
 have Z: ¬(tag=3\/(8<=tag/\tag<=11)):=fun e=>by rw [(zU tag).2 e]at h;cases h
 unfold p7
 simp only [ij]
 rw [cr (show¬(3:Int)=tag by omega),cr (show¬(8:Int)=tag by omega),cr (show¬(9:Int)=tag by omega),cr (show¬(10:Int)=tag by omega),cr (show¬(11:Int)=tag by omega)]
 rfl
def Q3{tag:Int}(h:Q4 tag=some 1)(ha:xA tag=false):pk tag=some 1:=by
 have Z: ¬(tag=3\/(8<=tag/\tag<=11)):=fun e=>by rw [(zU tag).2 e]at ha;cases ha
 unfold Q4 at h
 unfold pk
 split at h
 ·cases h
 ·split at h
  ·rw [cr (by omega),cz (by omega)]
  ·split at h<;>cases h
def Q0{tag:Int}(h:Q4 tag=some 2):pk tag=some 2/\xA tag=false:=by
 have h12:12<=tag/\tag<=23:=by
  unfold Q4 at h
  split at h
  ·cases h
  ·split at h
   ·cases h
   ·split at h
    ·assumption
    ·cases h
 refine⟨?_,?_⟩
 ·unfold pk
  rw [cr (by omega),cr (by omega),cz (by omega)]
 ·cases Y:xA tag with
  |false=>rfl
  |true=>have:=(zU tag).1 Y;omega
def NN(l r:Int):fB [l,r] ((0:Nat):Int)=some l:=rfl
def NM(l r:Int):fB [l,r] ((0+1:Nat):Int)=some r:=rfl
abbrev cT(fu:Nat)(s:am)(N:List dl)(p:Int)(g:Bool):=cx fu s ⟨N⟩ cb p7 uE p g
abbrev dT(fu:Nat)(b:aA)(N:List dl)(p:Int)(g:Bool):=cB fu b ⟨N⟩ p g
def Qe{c:aR}(hc:rq c){s s' :am}{b b' :aA}(h:vT c s' b')(hf:FP s s' b b'){g:Bool}{m:dl}(hm:xA m.Tag=true){parts:List aW}{arg:aW}(ha:arg.Nodes.length<=50000)(hp:(parts=[]/\arg=⟨[]⟩)\/parts=[arg])(x:aW){n:Nat}(hn:1<=n):
  Qf c s b g n (gU cb p7 uE g m parts x s') (iY g m 0 arg b'):=by
 obtain⟨k,V,Z,h3,h4⟩:=Mm ((zU m.Tag).1 hm)
 unfold gU iY
 rw [V]
 have aE:decide ((0:Int)<k)=true:=by rw [nE];omega
 rw [aE]
 cases g with
 |false=>
  unfold gO
  simp only [Cd,Bool.and_self,jo,AV]
  exact AD (by decide) hf
 |true=>
  simp only [rn,Bool.and_false,lu,jQ,jo]
  have hk3:(if decide ((0:Int)<(parts.length:Int))=true then(fB parts (0:Int)).bind fun e2=>fP cb s' (f9.mk (⟨k,⟨[]⟩⟩:f9).Tag e2)else fP cb s' ⟨k,⟨[]⟩⟩)=fP cb s' ⟨k,arg⟩:=by
   rcases hp with⟨rfl,rfl⟩|rfl
   ·rfl
   ·rfl
  rw [hk3]
  rcases WF hc h Z h3 h4 ha hn with⟨e,x1,s1,x2,b1,he,g1,g2,g3⟩|⟨t,s1,b1,g1,g2,g3,g4,g5,g6,g7,g8⟩
  ·exact .inl ⟨e,x1,s1,x2,b1,he,g1,g2,hf.trans g3⟩
  ·exact .inr ⟨t,s1,b1,g1,g2,g3,g4,g5,hf.trans g6,fun e=>(by cases e),g8⟩
def QB{c:aR}(hc:rq c)(a:Bt):a.wf-> ∀(P R N:List dl) (fu fu2:Nat) (s:am) (b:aA) (g:Bool),N=P++a.flat P.length++R->a.size<=fu->a.size<=fu2->N.length<=1000->a.size<=300->vT c s b->
  Qf c s b g a.size (cT fu s N (((P.length+a.size:Nat):Int)-1) g) (dT fu2 b N (((P.length+a.size:Nat):Int)-1) g):=by
 induction a with
 |lf n=>
  intro⟨V,Z,h3,h4⟩ P R N fu fu2 s b g hN hf hf2 hl hs h
  simp only [Bt.size]at hf hf2 ⊢
  obtain⟨fu,rfl⟩: ∃k,fu=k+1:=⟨fu-1,by omega⟩
  obtain⟨fu2,rfl⟩: ∃k,fu2=k+1:=⟨fu2-1,by omega⟩
  have A:N[P.length]? =some n:=by
   have:=JP (a:=[]) (m:=putA n (-1) (-1)) (by simpa [Bt.flat] using hN)
   rw [sD,FU]at this
   rw [this]
   cases n;simp only at h3 h4;subst h3 h4;rfl
  unfold cT dT cx cB
  rw [j3 P.length (by omega),A,bH,bH]
  have M:n.Tag=1\/n.Tag=2\/n.Tag=3:=by
   unfold Q4 at V
   split at V
   ·omega
   ·split at V
    ·cases V
    ·split at V<;>cases V
  rcases M with M|M|M
  ·-- a literal
   have hv:=TV Z M
   rw [cz (by simpa using M),cz (by simpa using M),show(⟨1,0,0,0,n.Value⟩:aC)=SW n.Value from rfl,Eo _ (Ak (show pk 1=some 0 from rfl) (GW hv)),xm,bH,bH]
   exact .inr ⟨Rh (SW n.Value),s,b,rfl,rfl,DZ (show pk 1=some 0 from rfl) (GW hv),gc _,h,FP.refl _ _,fun _=>⟨rfl,rfl⟩,SZ hv (h.ov4 hc g)⟩
  ·-- a name
   rw [cr (by simp [M]),cz (by simpa using M),cr (by simp [M]),cz (by simpa using M)]
   obtain⟨c1,c2⟩:=h.column hc (⟨n.Table,n.Name⟩:km)
   simp only at c1 c2
   rw [c1,c2,bH,bH]
   by_cases he:(y0 (eX c b.sources b.out.Tables) n.Table n.Name).2=0
   ·obtain⟨k0,k1⟩:=h.colIn n.Table n.Name he
    have hkl:=h.kindsLen hc
    cases g with
    |false=>
     rw [cr (by simp),cr (by simp)]
     have:=Mf hc h (g:=false) k0 (by unfold ov;simpa using k1) (by omega) (y0 (eX c b.sources b.out.Tables) n.Table n.Name) he ⟨[]⟩ (n:=1) (gc _)
     rw [he]
     exact this
    |true=>
     rw [cz (by simp [he]),cz (by simp [he])]
     have hp:y0 (eX c b.sources b.out.Tables) n.Table n.Name=((y0 (eX c b.sources b.out.Tables) n.Table n.Name).1,0):=Prod.ext rfl he
     rw [hp]
     exact Ro hc h _ (gc _)
   ·rw [cr (by simp [he]),cr (by simp [he])]
    unfold eE gP
    rw [cz (by simpa using he),show(⟨2,0,0,(y0 (eX c b.sources b.out.Tables) n.Table n.Name).1,⟨0,0,0,[]⟩⟩:aC)=zO (y0 (eX c b.sources b.out.Tables) n.Table n.Name).1 from rfl,xm,bH]
    exact AD he (FP.refl _ _)
  ·-- all that there are
   have hag:xA n.Tag=true:=by rw [M];rfl
   rw [cr (by simp [M]),cr (by simp [M]),cr (by simp [M]),cr (by simp [M]),show k9 n.Tag=some (xA n.Tag)from rfl,hag,bH,cz rfl]
   unfold eD
   rw [h3,h4,NN,bH,cz (by decide),cr (by decide)]
   exact Qe hc h (FP.refl _ _) hag (by show 0<=50000;omega) (.inl ⟨rfl,rfl⟩) _ (gc _)
 |un n a ih=>
  intro⟨⟨V,Z,h3,h4⟩,ha⟩ P R N fu fu2 s b g hN hf hf2 hl hs h
  obtain⟨m,hm⟩: ∃m,m=putA n (((P.length+a.size:Nat):Int)-1) (-1):=⟨_,rfl⟩
  simp only [Bt.flat,<-hm]at hN
  simp only [Bt.size]at hf hf2 hs ⊢
  have hpos:=a.size_pos
  obtain⟨fu,rfl⟩: ∃k,fu=k+1:=⟨fu-1,by omega⟩
  obtain⟨fu2,rfl⟩: ∃k,fu2=k+1:=⟨fu2-1,by omega⟩
  have A:N[P.length+a.size]? =some m:=by
   have:=JP (a:=a.flat P.length) (m:=m) hN
   rw [a.flat_len]at this
   exact this
  have hi:=ih ha P ([m]++R) N fu fu2
  have hNa:N=P++a.flat P.length++([m]++R):=by rw [hN];simp only [gK]
  have eT:m.Tag=n.Tag:=by rw [hm];rfl
  have eL:m.L=((P.length+a.size:Nat):Int)-1:=by rw [hm];rfl
  have eR:m.R= -1:=by rw [hm];rfl
  have t1: ¬n.Tag=1:=fun e=>by rw [e]at V;cases V
  have t2: ¬n.Tag=2:=fun e=>by rw [e]at V;cases V
  unfold cT dT cx cB
  rw [j3 (P.length+a.size) (by omega),A,bH,bH,cr (by simpa [eT] using t1),cr (by simpa [eT] using t2),cr (by simpa [eT] using t1),cr (by simpa [eT] using t2),show k9 m.Tag=some (xA m.Tag)from rfl,bH]
  have dL:decide (m.L<(0:Int))=false:=by rw [eL,qM];omega
  have dL2:decide ((0:Int)<=m.L)=true:=by rw [eL,nE];omega
  have dR:decide (m.R<(0:Int))=true:=by rw [eR];rfl
  have dR2:decide ((0:Int)<=m.R)=false:=by rw [eR];rfl
  unfold eD
  rw [NN,bH,dL]
  simp only [lu,jQ]
  cases hag:xA m.Tag with
  |true=>
   obtain⟨k,k1,k2,k3,k4⟩:=Mm ((zU m.Tag).1 hag)
   have kz:(k==(0:Int))=false:=by rw [KG];omega
   rw [cz rfl,dL2,cz rfl,k1,kz,Bool.and_false,eL]
   rcases hi s b false hNa (by omega) (by omega) hl (by omega) h with⟨e,x,s',x',b',he,g1,g2,g3⟩|⟨t,s',b',g1,g2,g3,g4,g5,g6,g7,g8⟩
   ·rw [show cx fu s ⟨N⟩ cb p7 uE (((P.length+a.size:Nat):Int)-1) false=_ from g1,show cB fu2 b ⟨N⟩ (((P.length+a.size:Nat):Int)-1) false=_ from g2,bH,bH,cz (by simpa using he)]
    unfold iY gO
    have hz:(e==(0:Int))=false:=by rw [KG];exact he
    simp only [hz,Bool.false_and,lu,jQ]
    rw [cz (by simpa using he)]
    exact AD he g3
   ·rw [show cx fu s ⟨N⟩ cb p7 uE (((P.length+a.size:Nat):Int)-1) false=_ from g1,show cB fu2 b ⟨N⟩ (((P.length+a.size:Nat):Int)-1) false=_ from g2,bH,bH,cr (show¬((0:Int) !=0)=true by decide),dH (by simp),bH]
    unfold eD
    rw [NM,bH,dR,cz rfl]
    exact Qe hc g5 g6 hag (by show(t.flat 0).length<=50000;rw [t.flat_len];omega) (.inr rfl) _ (by omega)
  |false=>
   have hz:=Ji hag
   have hpk:pk m.Tag=some 1:=Q3 (by rw [eT];exact V) hag
   rw [cr (by decide),hz,AV,Bool.and_true,eL]
   rcases hi s b g hNa (by omega) (by omega) hl (by omega) h with⟨e,x,s',x',b',he,g1,g2,g3⟩|⟨t,s',b',g1,g2,g3,g4,g5,g6,g7,g8⟩
   ·rw [show cx fu s ⟨N⟩ cb p7 uE (((P.length+a.size:Nat):Int)-1) g=_ from g1,show cB fu2 b ⟨N⟩ (((P.length+a.size:Nat):Int)-1) g=_ from g2,bH,bH,cz (by simpa using he),cz (by simpa using he)]
    exact AD he g3
   ·rw [show cx fu s ⟨N⟩ cb p7 uE (((P.length+a.size:Nat):Int)-1) g=_ from g1,show cB fu2 b ⟨N⟩ (((P.length+a.size:Nat):Int)-1) g=_ from g2,bH,bH,cr (show¬((0:Int) !=0)=true by decide),cr (show¬((0:Int) !=0)=true by decide),dH (by simp),bH]
    unfold eD
    rw [NM,bH,dR,cz rfl,dR2]
    simp only [lu,jQ]
    rw [Pb m.Tag (by omega),bH]
    unfold gU
    rw [hz]
    have e1:fB ([]++[(⟨t.flat 0⟩:aW)]) (0:Int)=some ⟨t.flat 0⟩:=rfl
    rw [cr (by simp),cr (by simp),e1,bH,SP hpk g3 (by omega),bH,cr (by simp)]
    exact L4 hc g5 g6 g7 (WS hpk g3) (by simp only [Tr.size];omega) (by simp only [Tr.size];omega) _
 |bi n a aE iha ihb=>
  intro⟨⟨V,Z,h3,h4⟩,ha,Y⟩ P R N fu fu2 s b g hN hf hf2 hl hs h
  obtain⟨m,hm⟩: ∃m,m=putA n (((P.length+a.size:Nat):Int)-1) (((P.length+a.size+aE.size:Nat):Int)-1):=⟨_,rfl⟩
  simp only [Bt.flat,<-hm]at hN
  simp only [Bt.size]at hf hf2 hs ⊢
  have hap:=a.size_pos
  have hbp:=aE.size_pos
  obtain⟨fu,rfl⟩: ∃k,fu=k+1:=⟨fu-1,by omega⟩
  obtain⟨fu2,rfl⟩: ∃k,fu2=k+1:=⟨fu2-1,by omega⟩
  have A:N[P.length+(a.size+aE.size)]? =some m:=by
   have:=JP (a:=a.flat P.length++aE.flat (P.length+a.size)) (m:=m) hN
   rw [pF,a.flat_len,aE.flat_len]at this
   exact this
  have hNa:N=P++a.flat P.length++(aE.flat (P.length+a.size)++[m]++R):=by rw [hN];simp only [gK]
  have hNb:N=(P++a.flat P.length)++aE.flat (P++a.flat P.length).length++([m]++R):=by rw [hN];simp only [gK,pF,a.flat_len]
  have hi1:=fun s b=>iha ha P _ N fu fu2 s b g hNa (by omega) (by omega) hl (by omega)
  have hi2:=fun s b=>ihb Y (P++a.flat P.length) _ N fu fu2 s b g hNb (by omega) (by omega) hl (by omega)
  rw [pF,a.flat_len]at hi2
  have eT:m.Tag=n.Tag:=by rw [hm];rfl
  have eL:m.L=((P.length+a.size:Nat):Int)-1:=by rw [hm];rfl
  have eR:m.R=((P.length+a.size+aE.size:Nat):Int)-1:=by rw [hm];rfl
  have t1: ¬n.Tag=1:=fun e=>by rw [e]at V;cases V
  have t2: ¬n.Tag=2:=fun e=>by rw [e]at V;cases V
  obtain⟨hpk,hag0⟩:=Q0 V
  have hag:xA m.Tag=false:=by rw [eT];exact hag0
  have hpk' :pk m.Tag=some 2:=by rw [eT];exact hpk
  unfold cT dT cx cB
  rw [j3 (P.length+(a.size+aE.size)) (by omega),A,bH,bH,cr (by simpa [eT] using t1),cr (by simpa [eT] using t2),cr (by simpa [eT] using t1),cr (by simpa [eT] using t2),show k9 m.Tag=some (xA m.Tag)from rfl,bH]
  have dL:decide (m.L<(0:Int))=false:=by rw [eL,qM];omega
  have dR:decide (m.R<(0:Int))=false:=by rw [eR,qM];omega
  have dR2:decide ((0:Int)<=m.R)=true:=by rw [eR,nE];omega
  unfold eD
  rw [NN,bH,dL]
  simp only [lu,jQ]
  have hz:=Ji hag
  rw [hag,cr (by decide),hz,AV,Bool.and_true,eL]
  rcases hi1 s b h with⟨e,x,s',x',b',he,g1,g2,g3⟩|⟨t,s',b',g1,g2,g3,g4,g5,g6,g7,g8⟩
  ·rw [show cx fu s ⟨N⟩ cb p7 uE (((P.length+a.size:Nat):Int)-1) g=_ from g1,show cB fu2 b ⟨N⟩ (((P.length+a.size:Nat):Int)-1) g=_ from g2,bH,bH,cz (by simpa using he),cz (by simpa using he)]
   exact AD he g3
  ·rw [show cx fu s ⟨N⟩ cb p7 uE (((P.length+a.size:Nat):Int)-1) g=_ from g1,show cB fu2 b ⟨N⟩ (((P.length+a.size:Nat):Int)-1) g=_ from g2,bH,bH,cr (show¬((0:Int) !=0)=true by decide),cr (show¬((0:Int) !=0)=true by decide),dH (by simp),bH]
   unfold eD
   rw [NM,bH,dR,dR2]
   simp only [lu,jQ,jo]
   rw [Pb m.Tag (by omega),bH,hz,AV,Bool.and_true,eR]
   rcases hi2 s' b' g5 with⟨e,x,s2,x2,b2,he,k1,k2,k3⟩|⟨u,s2,b2,k1,k2,k3,k4,k5,k6,k7,k8⟩
   ·rw [show cx fu s' ⟨N⟩ cb p7 uE (((P.length+a.size+aE.size:Nat):Int)-1) g=_ from k1,show cB fu2 b' ⟨N⟩ (((P.length+a.size+aE.size:Nat):Int)-1) g=_ from k2,bH,bH,cz (by simpa using he),cz (by simpa using he)]
    exact AD he (g6.trans k3)
   ·rw [show cx fu s' ⟨N⟩ cb p7 uE (((P.length+a.size+aE.size:Nat):Int)-1) g=_ from k1,show cB fu2 b' ⟨N⟩ (((P.length+a.size+aE.size:Nat):Int)-1) g=_ from k2,bH,bH,cr (show¬((0:Int) !=0)=true by decide),cr (show¬((0:Int) !=0)=true by decide),dH (by simp),bH]
    unfold eD
    rw [UQ m.Tag (by omega) (by omega),bH]
    unfold gU
    rw [hz]
    have e1:fB ([]++[(⟨t.flat 0⟩:aW)]++[(⟨u.flat 0⟩:aW)]) (0:Int)=some ⟨t.flat 0⟩:=rfl
    have e2:fB ([]++[(⟨t.flat 0⟩:aW)]++[(⟨u.flat 0⟩:aW)]) (1:Int)=some ⟨u.flat 0⟩:=rfl
    rw [cr (by simp),cr (by simp),e1,bH,Pd m.Tag g3 (by omega),bH,cz (by simp),e2,bH,Sh hpk' g3 k3 (by omega),bH]
    refine L4 hc k5 (g6.trans k6) (fun D=>?_) (XC hpk' g3 k3) (by simp only [Tr.size];omega) (by simp only [Tr.size];omega) _
    obtain⟨q1,q2⟩:=g7 D
    obtain⟨q3,q4⟩:=k7 D
    exact⟨q3.trans q1,q4.trans q2⟩
end Go.Proofs.YthbdkceckjihgaaGreatDoor


/- du of this claim: B14. -/
set_option linter.all false
namespace Go.Proofs.YthbdkceckjihgaaGreatDoor
open Go

def Hu{c:aR}(hc:rq c){s:am}{b:aA}(h:vT c s b)(t:dj)(M:lR t.Nodes=true)(g:Bool):
  (∃(e:Int) (s' :am) (b' :aA),e≠0/\mv s t g=some (⟨[]⟩,0,e,s')/\kf b t g=some (⟨[]⟩,e,b')/\FP s s' b b')\/
  (∃(u:Tr) (s' :am) (b' :aA),mv s t g=some (⟨u.flat 0⟩,(kF ⟨u.flat 0⟩ (ov s' g)).1,0,s')/\kf b t g=some (⟨u.flat 0⟩,0,b')/\u.wf/\u.size<=300/\vT c s' b' /\FP s s' b b' /\(g=false->s' =s/\b' =b)/\(kF ⟨u.flat 0⟩ (ov s' g)).2=0):=by
 unfold lR at M
 cases hA:AY t.Nodes with
 |none=>rw [hA]at M;cases M
 |some a=>
  obtain⟨hw,hN,hs,_⟩:=xL hA
  have hlen:t.Nodes.length=a.size:=by rw [hN,a.flat_len]
  have hp:=a.size_pos
  have key:=QB hc a hw [] [] t.Nodes gi gi s b g (by simpa using hN) (Am (by omega)) (Am (by omega)) (by omega) hs h
  simp only [sD,sB,<-hlen]at key
  have hpl:IntKind.i64.wrap ((t.Nodes.length:Int)-1)=(t.Nodes.length:Int)-1:=d6 (by omega) (by omega)
  unfold mv kf rE se
  rw [Bf,bH,hpl]
  rcases key with⟨e,x,s',x',b',he,g1,g2,g3⟩|⟨u,s',b',g1,g2,g3,g4,g5,g6,g7,g8⟩
  ·have g1' :cx gi s t cb p7 uE ((t.Nodes.length:Int)-1) g=some (x,e,s'):=g1
   have g2' :cB gi b t ((t.Nodes.length:Int)-1) g=some (x',e,b'):=g2
   rw [show(cx gi s t cb p7 (fun(mc:am) (mx:Bool)=>(gD mc mx).map fun mr=>(mr,mc)) ((t.Nodes.length:Int)-1) g)=_ from g1',g2',bH,bH,cz (by simpa using he),cz (by simpa using he)]
   exact .inl ⟨e,s',b',he,rfl,rfl,g3⟩
  ·have g1' :cx gi s t cb p7 uE ((t.Nodes.length:Int)-1) g=some (⟨u.flat 0⟩,0,s'):=g1
   have g2' :cB gi b t ((t.Nodes.length:Int)-1) g=some (⟨u.flat 0⟩,0,b'):=g2
   rw [show(cx gi s t cb p7 (fun(mc:am) (mx:Bool)=>(gD mc mx).map fun mr=>(mr,mc)) ((t.Nodes.length:Int)-1) g)=_ from g1',g2',bH,bH,cr (by simp),cr (by simp)]
   have hov:(gD s' g).map (fun mr=>(mr,s'))=some (ov s' g,s'):=Lv s' g
   simp only
   rw [hov,bH,u6 _ _ (by show(u.flat 0).length<=50000;rw [u.flat_len];omega),bH]
   exact .inr ⟨u,s',b',by rw [g8],rfl,g3,by omega,g5,g6,g7,g8⟩
def Bu{c:aR}(hc:rq c){s:am}{b:aA}(h:vT c s b)(t:dj)(M:lR t.Nodes=true)(g:Bool):
  (∃(e:Int) (x x' :aW) (s' :am) (b' :aA),e≠0/\fE s t g=some (x,e,s')/\iO b t g=some (x',e,b')/\FP s s' b b')\/
  (∃(u:Tr) (s' :am) (b' :aA),fE s t g=some (⟨u.flat 0⟩,0,s')/\iO b t g=some (⟨u.flat 0⟩,0,b')/\u.wf/\u.size<=300/\vT c s' b' /\FP s s' b b' /\(g=false->s' =s/\b' =b)/\(kF ⟨u.flat 0⟩ (ov s' g)).2=0/\((kF ⟨u.flat 0⟩ (ov s' g)).1=1\/(kF ⟨u.flat 0⟩ (ov s' g)).1=0)):=by
 unfold fE iO m4
 rcases Hu hc h t M g with⟨e,s',b',he,g1,g2,g3⟩|⟨u,s',b',g1,g2,g3,g4,g5,g6,g7,g8⟩
 ·rw [g1,g2,bH,bH,cr (by simp [he]),cz (by simpa using he)]
  exact .inl ⟨e,_,_,s',b',he,rfl,rfl,g3⟩
 ·rw [g1,g2,bH,bH]
  have hd:(jV b'.c b'.out.Tables).bind (fun r1=>if g=true then(ja b'.c b'.out).bind fun r3=>gy (⟨u.flat 0⟩,0,b') r3 else gy (⟨u.flat 0⟩,0,b') r1)=gy (⟨u.flat 0⟩,0,b') (ov s' g):=by
   rw [g5.refKinds hc,bH]
   unfold ov
   cases g with
   |true=>rw [cz rfl,g5.refGroups hc,bH];rfl
   |false=>rfl
  simp only [bne_self_eq_false,lu,jQ]
  rw [hd]
  unfold gy
  rw [qq,bH]
  by_cases hk:(kF ⟨u.flat 0⟩ (ov s' g)).1=1\/(kF ⟨u.flat 0⟩ (ov s' g)).1=0
  ·rw [cr (by simp;omega),cr (by simp;omega)]
   exact .inr ⟨u,s',b',rfl,rfl,g3,g4,g5,g6,g7,g8,hk⟩
  ·rw [cz (by simp;omega),cz (by simp;omega)]
   exact .inl ⟨226,_,_,s',b',by decide,rfl,rfl,g6⟩
def vT.upd{c:aR}{s:am}{b:aA}(h:vT c s b)(o:aL)(V:o.Tables=b.out.Tables)(Z:o.Keys=b.out.Keys)(h3:o.Aggs=b.out.Aggs)(f:aQ)(a:Int):vT c {s with out:=o,from_:=f,at_:=a} {b with out:=o}:=by
 refine⟨h.cat,h.bc,rfl,?_,?_,?_,?_,?_,?_,?_,?_,?_,?_,?_⟩
 all_goals simp only
 ·rw [V];exact h.kinds
 ·rw [V];exact h.len
 ·rw [V];exact h.bad
 ·rw [V];exact h.few
 ·rw [V];exact⟨h.maps.called,h.maps.alone,h.maps.behind,h.maps.once⟩
 ·rw [Z,h3];exact h.groups
 ·rw [Z];exact h.keys
 ·rw [Z];exact h.keysLen
 ·rw [h3];exact h.aggsLen
 ·rw [h3];exact h.aggsOnce
 ·rw [h3];exact h.aggsOk
structure From(c:aR)(s:am)(b:aA):Prop where
 rel:vT c s b
 keys:b.out.Keys=[]
 aggs:b.out.Aggs=[]
 items:b.out.Items=[]
def GZ{c:aR}(hc:rq c)(S:aQ): ∀(l:List nJ) (s:am) (b:aA),From c s b->b.sources.length+l.length<=3->b.out.Joins.length+l.length<=1000->l.all Ba=true->
  (∃(e:Int) (s' :am) (b' :aA),e≠0/\jO l s=some (e,s')/\dy S l b=some (1,e,b')/\s'.at_=s.at_)\/
  (∃(s' :am) (b' :aA),jO l s=some (0,s')/\dy S l b=dy S [] b' /\From c s' b' /\s'.at_=s.at_/\s'.from_=s.from_)
 |[],s,b,h,_,_,_=> .inr ⟨s,b,rfl,rfl,h,rfl,rfl⟩
 |j::l,s,b,h,hl,hl2,hj=>by
  simp only [jm]at hl hl2
  simp only [tI,jR]at hj
  have hj1:lR j.On.Nodes=true:=by
   have:=hj.1
   unfold Ba at this
   simp only [jR]at this
   exact this.1
  unfold jO
  conv=>enter [1,1,e,1,s',1,b',2,2,1];unfold dy
  conv=>enter [2,1,s',1,b',2,1];lhs;unfold dy
  rcases EH hc h.rel (by omega) h.keys h.aggs j.Source with⟨e,he,g1,g2⟩|⟨s1,b1,k,g1,g2,g3,g4,g5,g6⟩
  ·rw [g1,g2,bH,bH,cz (by simpa using he),cz (by simpa using he)]
   exact .inl ⟨e,s,b,he,rfl,rfl,rfl⟩
  ·rw [g1,g2,bH,bH,cr (by simp),cr (by simp)]
   rcases Bu hc g3 j.On hj1 false with⟨e,x,x',s2,b2,he,k1,k2,k3⟩|⟨u,s2,b2,k1,k2,k3,k4,k5,k6,k7,_⟩
   ·rw [k1,k2,bH,bH,cz (by simpa using he),cz (by simpa using he)]
    exact .inl ⟨e,s2,b2,he,rfl,rfl,by rw [k3.1];exact g5⟩
   ·obtain⟨rfl,rfl⟩:=k7 rfl
    rw [k1,k2,bH,bH,cr (by simp),cr (by simp)]
    have ho:=g3.out
    have hJ:b2.out.Joins=b.out.Joins:=by rw [g6]
    rw [dH (by rw [ho,hJ];simp;omega),bH,dH (by rw [hJ];simp;omega),bH]
    have hR:From c {s2 with out:={s2.out with Joins:=s2.out.Joins++[(⟨j.Left,⟨u.flat 0⟩⟩:ew)]}} {b2 with out:={b2.out with Joins:=b2.out.Joins++[(⟨j.Left,⟨u.flat 0⟩⟩:ew)]}}:=by
     rw [ho]
     refine⟨g3.upd {b2.out with Joins:=b2.out.Joins++[(⟨j.Left,⟨u.flat 0⟩⟩:ew)]} rfl rfl rfl s2.from_ s2.at_,?_,?_,?_⟩
     ·show b2.out.Keys=[];rw [g6];exact h.keys
     ·show b2.out.Aggs=[];rw [g6];exact h.aggs
     ·show b2.out.Items=[];rw [g6];exact h.items
    have hsl:b2.sources.length=b.sources.length+1:=by rw [g6];simp
    rcases GZ hc S l _ _ hR (by show b2.sources.length+l.length<=3;omega) (by show(b2.out.Joins++_).length+l.length<=1000;rw [hJ];simp;omega) hj.2 with⟨e,s',b',he,q1,q2,q3⟩|⟨s',b',q1,q2,q3,q4,q5⟩
    ·exact .inl ⟨e,s',b',he,q1,q2,by rw [q3];exact g5⟩
    ·exact .inr ⟨s',b',q1,q2,q3,by rw [q4];exact g5,by rw [q5];exact g4⟩
end Go.Proofs.YthbdkceckjihgaaGreatDoor


/- du of this claim: B15. -/
set_option linter.all false
namespace Go.Proofs.YthbdkceckjihgaaGreatDoor
open Go

def Uq(c:aR)(at_:Int)(f:aQ)(P:am->aA->Prop)(C:Option (Int×am))(hg:Option (Int×Int×aA)):Prop:=
 (∃(e:Int) (s' :am) (b' :aA),e≠0/\C=some (e,s')/\hg=some (at_,e,b')/\s'.at_=at_)\/
 (∃(s' :am) (b' :aA),C=some (0,s')/\hg=some (0,0,b')/\vT c s' b' /\s'.from_=f/\P s' b')
def MK{c:aR}(hc:rq c){s:am}{b:aA}(h:From c s b)(S:aQ)(hS:s.from_=S)(hw:oS S.Where=true):
  (∃(e:Int) (s' :am) (b' :aA),e≠0/\hZ s=some (e,s')/\dy S [] b=some (2,e,b')/\s'.at_=2)\/
  (∃(s' :am) (b' :aA),hZ s=some (0,s')/\dy S [] b=iZ S.Group b' /\From c s' b' /\s'.from_=S):=by
 have Z:From c {s with at_:=2} b:=⟨by
  have:=h.rel.upd b.out rfl rfl rfl s.from_ 2
  rw [<-h.rel.out]at this
  have e:({b with out:=s.out}:aA)=b:=by rw [h.rel.out]
  rw [e]at this
  exact this,h.keys,h.aggs,h.items⟩
 subst hS
 unfold hZ dy
 dsimp only
 by_cases hl:s.from_.Where.Nodes.length=0
 ·rw [cr (by rw [nE];omega),cr (by rw [nE];omega)]
  exact .inr ⟨_,b,rfl,rfl,Z,rfl⟩
 ·have M:lR s.from_.Where.Nodes=true:=by
   unfold oS at hw
   simpa [hl] using hw
  rw [cz (by rw [nE];omega),cz (by rw [nE];omega)]
  rcases Bu hc Z.rel s.from_.Where M false with⟨e,x,x',s2,b2,he,k1,k2,k3⟩|⟨u,s2,b2,k1,k2,k3,k4,k5,k6,k7,_⟩
  ·rw [show fE ({s with at_:=2}:am) s.from_.Where false=_ from k1,k2,bH,bH,cz (by simpa using he)]
   exact .inl ⟨e,_,b2,he,rfl,rfl,by show s2.at_=2;rw [k3.1]⟩
  ·obtain⟨q1,q2⟩:=k7 rfl
   rw [show fE ({s with at_:=2}:am) s.from_.Where false=_ from k1,k2,bH,bH,cr (by simp)]
   refine .inr ⟨_,{b2 with out:={b2.out with Where:=⟨u.flat 0⟩}},rfl,rfl,⟨?_,?_,?_,?_⟩,?_⟩
   ·have:=k5.upd {b2.out with Where:=⟨u.flat 0⟩} rfl rfl rfl s2.from_ s2.at_
    rw [<-k5.out]at this ⊢
    exact this
   ·show b2.out.Keys=[];rw [q2];exact h.keys
   ·show b2.out.Aggs=[];rw [q2];exact h.aggs
   ·show b2.out.Items=[];rw [q2];exact h.items
   ·show s2.from_=s.from_;rw [q1]
def G4{c:aR}(hc:rq c): ∀(l:List km) (s:am) (b:aA),vT c s b->b.out.Aggs=[]->b.out.Items=[]->b.out.Keys.length+l.length<=3->s.at_=3->
  Uq c 3 s.from_ (fun _ b' =>b'.out.Aggs=[]/\b'.out.Items=[]) (lp l s) (iZ l b)
 |[],s,b,h,ha,hi,_,hat=> .inr ⟨s,b,rfl,rfl,h,rfl,ha,hi⟩
 |n::l,s,b,h,ha,hi,hk,hat=>by
  simp only [jm]at hk
  obtain⟨c1,c2⟩:=h.column hc n
  unfold lp iZ
  rw [c1,c2,bH,bH]
  by_cases he:(y0 (eX c b.sources b.out.Tables) n.Table n.Name).2=0
  ·obtain⟨k0,k1⟩:=h.colIn n.Table n.Name he
   generalize hcol:(y0 (eX c b.sources b.out.Tables) n.Table n.Name).1=k at k0 k1
   rw [cr (by simp [he]),cr (by simp [he]),h.out,dH (by simp;omega),bH,bH]
   have hlt:k.toNat<s.kinds.length:=by omega
   have A:fB s.kinds k=some ((s.kinds[k.toNat]?).getD 0):=by
    unfold fB
    rw [cz k0,lP hlt];rfl
   have hgl:=h.groupsLen
   rw [ha,sD]at hgl
   rw [A,bH,dH (by simp;omega),bH]
   have hR:vT c {s with out:={b.out with Keys:=b.out.Keys++[k]},groups:=s.groups++[(s.kinds[k.toNat]?).getD 0]} {b with out:={b.out with Keys:=b.out.Keys++[k]}}:=by
    refine⟨h.cat,h.bc,rfl,h.kinds,h.len,h.bad,h.few,⟨h.maps.called,h.maps.alone,h.maps.behind,h.maps.once⟩,?_,?_,?_,h.aggsLen,h.aggsOnce,h.aggsOk⟩
    ·simp only
     rw [h.groups,ha]
     simp [xZ,LK]
    ·intro j hj
     rcases Bj.1 hj with hj|hj
     ·exact h.keys j hj
     ·rw [Bn.1 hj];exact⟨k0,k1⟩
    ·simp only [pF,y9];omega
   exact G4 hc l _ _ hR ha hi (by simp only [pF,y9];omega) hat
  ·rw [cz (by simpa using he),cz (by simpa using he)]
   exact .inl ⟨_,s,b,he,rfl,rfl,hat⟩
structure Qp(c:aR)(s:am)(b:aA)(n:Nat)(gr:Bool):Prop where
 rel:vT c s b
 len:b.out.Items.length<=n
 each: ∀x∈b.out.Items,x.Nodes.length<=1000
 grouped:b.out.Grouped=gr
def LT{c:aR}(hc:rq c){s:am}{b:aA}{n:Nat}{gr:Bool}(h:Qp c s b n gr)(S:aQ)(hS:s.from_=S)(hw:oS S.Having=true):
  Uq c 5 S (fun s' b' =>Qp c s' b' n gr) (iz s) (dB S [] b):=by
 have Z:vT c {s with at_:=5} b:=by
  have:=h.rel.upd b.out rfl rfl rfl s.from_ 5
  rw [<-h.rel.out]at this
  have e:({b with out:=s.out}:aA)=b:=by rw [h.rel.out]
  rw [e]at this
  exact this
 subst hS
 unfold iz dB
 dsimp only
 by_cases hl:s.from_.Having.Nodes.length=0
 ·rw [cr (by rw [nE];omega),cr (by rw [nE];omega)]
  exact .inr ⟨_,b,rfl,rfl,Z,rfl,⟨Z,h.len,h.each,h.grouped⟩⟩
 ·have M:lR s.from_.Having.Nodes=true:=by
   unfold oS at hw
   simpa [hl] using hw
  rw [cz (by rw [nE];omega),cz (by rw [nE];omega)]
  rcases Bu hc Z s.from_.Having M true with⟨e,x,x',s2,b2,he,k1,k2,k3⟩|⟨u,s2,b2,k1,k2,k3,k4,k5,k6,k7,_⟩
  ·rw [show fE ({s with at_:=5}:am) s.from_.Having true=_ from k1,k2,bH,bH,cz (by simpa using he)]
   exact .inl ⟨e,_,b2,he,rfl,rfl,by show s2.at_=5;rw [k3.1]⟩
  ·rw [show fE ({s with at_:=5}:am) s.from_.Having true=_ from k1,k2,bH,bH,cr (by simp)]
   have hR:vT c {s2 with out:={s2.out with Having:=⟨u.flat 0⟩}} {b2 with out:={b2.out with Having:=⟨u.flat 0⟩}}:=by
    have:=k5.upd {b2.out with Having:=⟨u.flat 0⟩} rfl rfl rfl s2.from_ s2.at_
    rw [<-k5.out]at this ⊢
    exact this
   refine .inr ⟨_,{b2 with out:={b2.out with Having:=⟨u.flat 0⟩}},rfl,rfl,hR,?_,hR,?_,?_,?_⟩
   ·show s2.from_=s.from_;rw [k6.1]
   ·show b2.out.Items.length<=n;rw [k6.2];exact h.len
   ·show∀x∈b2.out.Items,_;rw [k6.2];exact h.each
   ·show b2.out.Grouped=gr;rw [k6.2];exact h.grouped
def G0{c:aR}(hc:rq c)(S:aQ): ∀(l:List fQ) (s:am) (b:aA) (n:Nat) (gr:Bool),Qp c s b n gr->n+l.length<=1000->l.all wp=true->s.at_=4->
  (∃(e:Int) (s' :am) (b' :aA),e≠0/\jP l s=some (e,s')/\dB S l b=some (4,e,b')/\s'.at_=4)\/
  (∃(s' :am) (b' :aA),jP l s=some (0,s')/\dB S l b=dB S [] b' /\Qp c s' b' (n+l.length) gr/\s'.from_=s.from_)
 |[],s,b,n,gr,h,_,_,_=> .inr ⟨s,b,rfl,rfl,h,rfl⟩
 |x::l,s,b,n,gr,h,hl,A,hat=>by
  simp only [jm]at hl
  simp only [tI,jR]at A
  have hx1:lR x.Tree.Nodes=true:=by
   have:=A.1
   unfold wp at this
   simp only [jR]at this
   exact this.1
  unfold jP
  conv=>enter [1,1,e,1,s',1,b',2,2,1];unfold dB
  conv=>enter [2,1,s',1,b',2,1];lhs;unfold dB
  rw [h.rel.out]
  rcases Hu hc h.rel x.Tree hx1 b.out.Grouped with⟨e,s2,b2,he,k1,k2,k3⟩|⟨u,s2,b2,k1,k2,k3,k4,k5,k6,k7,k8⟩
  ·rw [k1,k2,bH,bH,cz (by simpa using he),cz (by simpa using he)]
   exact .inl ⟨e,s2,b2,he,rfl,rfl,by rw [k3.1];exact hat⟩
  ·rw [k1,k2,bH,bH,cr (by simp),cr (by simp)]
   have hI:b2.out.Items=b.out.Items:=by rw [k6.2]
   have hil:=h.len
   simp only
   rw [k5.out,dH (by rw [hI];simp;omega),bH,bH]
   have hR:Qp c {s2 with out:={b2.out with Items:=b2.out.Items++[(⟨u.flat 0⟩:aW)]}} {b2 with out:={b2.out with Items:=b2.out.Items++[(⟨u.flat 0⟩:aW)]}} (n+1) gr:=by
    refine⟨k5.upd {b2.out with Items:=b2.out.Items++[(⟨u.flat 0⟩:aW)]} rfl rfl rfl s2.from_ s2.at_,?_,?_,?_⟩
    ·show(b2.out.Items++_).length<=n+1
     rw [hI];simp;omega
    ·intro y hy
     rcases Bj.1 hy with hy|hy
     ·exact h.each y (hI▸hy)
     ·rw [Bn.1 hy]
      show(u.flat 0).length<=1000
      rw [u.flat_len];omega
    ·show b2.out.Grouped=gr;rw [k6.2];exact h.grouped
   rcases G0 hc S l _ _ (n+1) gr hR (by omega) A.2 (by show s2.at_=4;rw [k6.1];exact hat)with⟨e,s',b',he,q1,q2,q3⟩|⟨s',b',q1,q2,q3,q4⟩
   ·exact .inl ⟨e,s',b',he,q1,q2,q3⟩
   ·refine .inr ⟨s',b',q1,q2,?_,by rw [q4];show s2.from_=s.from_;rw [k6.1]⟩
    have e:n+(x::l).length=n+1+l.length:=by simp only [jm];omega
    rw [e];exact q3
end Go.Proofs.YthbdkceckjihgaaGreatDoor


/- du of this claim: B16. -/
set_option linter.all false
set_option linter.unusedVariables false
namespace Go.Proofs.YthbdkceckjihgaaGreatDoor
open Go

def Iz{c:aR}(S:aQ): ∀(l:List Int) (i:Nat) (s:am) (b:aA) (n:Nat) (gr:Bool),Qp c s b n gr->i+l.length<=12->n+l.length<=1000->
  ∃(s' :am) (b' :aA),ln l i s=ir s' /\j7 S l i b=gz S b' /\Qp c s' b' (n+l.length) gr/\s'.from_=s.from_/\s'.at_=s.at_
 |[],i,s,b,n,gr,h,_,_=>⟨s,b,rfl,rfl,h,rfl,rfl⟩
 |x::l,i,s,b,n,gr,h,hi,hn=>by
  simp only [jm]at hi hn
  unfold ln
  conv=>enter [1,s',1,b',2,1];lhs;unfold j7
  have hil:=h.len
  have hl:=Ak (Av (i:Int)) (xx (k:=(i:Int)) (by omega) (by omega))
  rw [show(⟨2,0,0,(i:Int),⟨0,0,0,[]⟩⟩:aC)=zO (i:Int)from rfl,hl,xm,bH,bH,cr (by simp)]
  simp only
  rw [h.rel.out,dH (by simp;omega),bH,bH]
  have hR:Qp c {s with out:={b.out with Items:=b.out.Items++[(⟨(Rh (zO (i:Int))).flat 0⟩:aW)]}} {b with out:={b.out with Items:=b.out.Items++[(⟨(Rh (zO (i:Int))).flat 0⟩:aW)]}} (n+1) gr:=by
   refine⟨h.rel.upd {b.out with Items:=b.out.Items++[(⟨(Rh (zO (i:Int))).flat 0⟩:aW)]} rfl rfl rfl s.from_ s.at_,?_,?_,h.grouped⟩
   ·simp only [pF,y9];omega
   ·intro y hy
    rcases Bj.1 hy with hy|hy
    ·exact h.each y hy
    ·rw [Bn.1 hy]
     show 1<=1000
     omega
  obtain⟨s',b',q1,q2,q3,q4,q5⟩:=Iz S l (i+1) _ _ (n+1) gr hR (by omega) (by omega)
  refine⟨s',b',q1,q2,?_,q4,q5⟩
  have e:n+(x::l).length=n+1+l.length:=by simp only [jm];omega
  rw [e];exact q3
def If{c:aR}(hc:rq c){s:am}{b:aA}(h:vT c s b)(hi:b.out.Items=[])(S:aQ)(hS:s.from_=S)(A:S.Items.all wp=true)(hl:S.Items.length<=6):
  (∃(e:Int) (s' :am) (b' :aA),e≠0/\ia s=some (e,s')/\ke b S=some (4,e,b')/\s'.at_=4)\/
  (∃(s' :am) (b' :aA),ia s=some (0,s')/\ke b S=dB S [] b' /\Qp c s' b' 100 (vD S)/\s'.from_=S):=by
 subst hS
 unfold ia ke
 dsimp only
 rw [Oy,GC,bH,bH,bH]
 dsimp only
 rw [h.out,h.refKinds hc]
 generalize vD s.from_=r
 obtain⟨s1,hs1⟩: ∃s1:am,s1={s with at_:=4,out:={b.out with Distinct:=s.from_.Distinct,Grouped:=r}}:=⟨_,rfl⟩
 obtain⟨b1,hb1⟩: ∃b1:aA,b1={b with out:={b.out with Distinct:=s.from_.Distinct,Grouped:=r}}:=⟨_,rfl⟩
 have hI:Qp c s1 b1 0 r:=by
  rw [hs1,hb1]
  refine⟨h.upd {b.out with Distinct:=s.from_.Distinct,Grouped:=r} rfl rfl rfl s.from_ 4,?_,?_,rfl⟩
  ·simp [hi]
  ·intro x A;simp only [hi]at A;cases A
 have hf:s1.from_=s.from_:=by rw [hs1]
 have hkl:=hI.rel.kindsLen hc
 have hk1:s1.kinds=s.kinds:=by rw [hs1]
 -- what both do at the end
 have key: ∀(s2:am) (b2:aA) (n:Nat),Qp c s2 b2 n r->n<=12->s2.from_=s.from_->s2.at_=4->
   (∃(e:Int) (s' :am) (b' :aA),e≠0/\ir s2=some (e,s')/\gz s.from_ b2=some (4,e,b')/\s'.at_=4)\/
   (∃(s' :am) (b' :aA),ir s2=some (0,s')/\gz s.from_ b2=dB s.from_ [] b' /\Qp c s' b' 100 r/\s'.from_=s.from_):=by
  intro s2 b2 n Z hn hf2 hat
  unfold ir gz
  rw [hf2]
  rcases G0 hc s.from_ s.from_.Items s2 b2 n r Z (by omega) A hat with h3|⟨s',b',q1,q2,q3,q4⟩
  ·exact .inl h3
  ·exact .inr ⟨s',b',q1,q2,⟨q3.rel,by have:=q3.len;omega,q3.each,q3.grouped⟩,by rw [q4,hf2]⟩
 cases hst:s.from_.Star with
 |false=>
  simp only [Bool.false_and,lu,jQ]
  have:=key s1 b1 0 hI (by omega) hf (by rw [hs1])
  rw [hs1,hb1]at this
  exact this
 |true=>
  simp only [wK,jo]
  cases hr:r with
  |true=>
   simp only [jo]
   exact .inl ⟨227,_,_,by decide,rfl,rfl,rfl⟩
  |false=>
   subst hr
   simp only [lu,jQ,bH]
   obtain⟨s2,b2,q1,q2,q3,q4,q5⟩:=Iz s.from_ s.kinds 0 s1 b1 0 false hI (by rw [<-hk1];omega) (by rw [<-hk1];omega)
   rw [hs1]at q1
   rw [hb1]at q2
   have:=key s2 b2 _ q3 (by rw [<-hk1];omega) (by rw [q4,hf]) (by rw [q5,hs1])
   rw [<-q1,<-q2]at this
   exact this
def Xg:List (am->Unit->Option (Int×am)):=[(fun(mc:am) (mx:Unit)=>jd mc),(fun(mc:am) (mx:Unit)=>gp mc),(fun(mc:am) (mx:Unit)=>hZ mc),(fun(mc:am) (mx:Unit)=>gq mc),(fun(mc:am) (mx:Unit)=>ia mc),(fun(mc:am) (mx:Unit)=>iz mc)]
def om{k i:Nat}{e:Int}{s:am}{f:am->Unit->Option (Int×am)}(hf:fB Xg (i:Int)=some f){r:Int×am}(hr:f s ()=some r):jB (k+1) i e s=if(r.1 !=(0:Int))then some (r.1,r.2)else jB k (i+1) r.1 r.2:=by
 have h0:jB (k+1) i e s=(fB Xg (i:Int)).bind fun fn=>(fn s ()).bind fun r=>if(r.1 !=(0:Int))then oX r.1 r.2 else jB k (i+1) r.1 r.2:=rfl
 rw [h0,hf,bH,hr,bH]
 rfl
def ZZ:aL:=⟨[],[],⟨[]⟩,⟨[]⟩,false,false,[],[],[]⟩
def U2(c:aR)(S:aQ):am:=⟨c,S,ZZ,[],[],[],[],[],0⟩
def bi0(c:aR):aA:=⟨c,[],ZZ⟩
def abT(c:aR)(S:aQ):From c (U2 c S) (bi0 c):=by
 refine⟨⟨rfl,rfl,rfl,rfl,rfl,?_,?_,⟨?_,?_,?_,?_⟩,rfl,?_,?_,?_,?_,?_⟩,rfl,rfl,rfl⟩
 ·intro t M;cases M
 ·show 0<=3;omega
 ·intro n;rfl
 ·intro n;rfl
 ·intro t n;rfl
 ·exact List.nodup_nil
 ·intro k hk;cases hk
 ·show 0<=3;omega
 ·show 0<=12;omega
 ·exact List.nodup_nil
 ·intro a ha;cases ha
def Ww{β:Type}(S:aQ)(b:aA)(ax:Int->Int->aA->Option β):Option β:=(oO b S).bind fun r3=>if(r3.2.1==(0:Int))then((ke r3.2.2 S).bind fun r7=>ax r7.1 r7.2.1 r7.2.2)else(ax r3.1 r3.2.1 r3.2.2)
def Lg{c:aR}(hc:rq c)(S:aQ)(hS:zp S=true){β:Type}(ax:Int->Int->aA->Option β):
  (∃(e:Int) (s' :am) (b' :aA),e≠0/\nu (U2 c S)=some (e,s')/\Ww S (bi0 c) ax=ax s'.at_ e b')\/
  (∃(s' :am) (b' :aA),nu (U2 c S)=some (0,s')/\Ww S (bi0 c) ax=ax 0 0 b' /\Qp c s' b' 100 (vD S)/\s'.from_=S):=by
 unfold zp Nf at hS
 simp only [jR,nE]at hS
 obtain⟨⟨_,hI,hJ,hG⟩,hF,hi,hj,D,hw,hh⟩:=hS
 have h0:=abT c S
 unfold nu Ww oO
 rcases EH hc h0.rel (by show 0<=2;omega) rfl rfl S.From with⟨e,he,g1,g2⟩|⟨s1,b1,k,g1,g2,g3,g4,g5,g6⟩
 ·rw [om (f:=fun(mc:am) (mx:Unit)=>jd mc) rfl (r:=(e,U2 c S)) (by
   have e0:jd (U2 c S)=(iy (U2 c S) S.From).bind fun r=>some (r.1,r.2):=rfl
   rw [e0,g1];rfl),cz (by simpa using he),g2,bH,cz (by simpa using he),bH,cr (by simpa using he)]
  exact .inl ⟨e,_,_,he,rfl,rfl⟩
 ·rw [om (f:=fun(mc:am) (mx:Unit)=>jd mc) rfl (r:=(0,s1)) (by
   have e0:jd (U2 c S)=(iy (U2 c S) S.From).bind fun r=>some (r.1,r.2):=rfl
   rw [e0,g1];rfl),cr (by simp),g2,bH,cr (by simp)]
  have hF1:From c {s1 with at_:=1} b1:=by
   have hu:=g3.upd b1.out rfl rfl rfl s1.from_ 1
   rw [<-g3.out]at hu
   have e:({b1 with out:=s1.out}:aA)=b1:=by rw [g3.out]
   rw [e]at hu
   exact⟨hu,by rw [g6];rfl,by rw [g6];rfl,by rw [g6];rfl⟩
  have hs1:b1.sources.length=1:=by rw [g6];rfl
  have hj1:b1.out.Joins=[]:=by rw [g6];rfl
  have hf1:s1.from_=S:=g4
  rcases GZ hc S S.Joins _ b1 hF1 (by omega) (by rw [hj1];simp;omega) hj with⟨e,s2,b2,he,k1,k2,k3⟩|⟨s2,b2,k1,k2,k3,k4,k5⟩
  ·rw [om (f:=fun(mc:am) (mx:Unit)=>gp mc) rfl (r:=(e,s2)) (by
    show gp s1=_
    unfold gp
    dsimp only
    rw [hf1]
    rw [hf1]at k1
    exact k1),cz (by simpa using he),show dy S S.Joins b1=_ from k2,bH,cr (by simpa using he)]
   refine .inl ⟨e,s2,b2,he,rfl,?_⟩
   rw [k3]
  ·rw [om (f:=fun(mc:am) (mx:Unit)=>gp mc) rfl (r:=(0,s2)) (by
    show gp s1=_
    unfold gp
    dsimp only
    rw [hf1]
    rw [hf1]at k1
    exact k1),cr (by simp),show dy S S.Joins b1=_ from k2]
   have hf2:s2.from_=S:=by rw [k5];exact hf1
   rcases MK hc k3 S hf2 hw with⟨e,s3,b3,he,q1,q2,q3⟩|⟨s3,b3,q1,q2,q3,q4⟩
   ·rw [om (f:=fun(mc:am) (mx:Unit)=>hZ mc) rfl (r:=(e,s3)) q1,cz (by simpa using he),q2,bH,cr (by simpa using he)]
    refine .inl ⟨e,s3,b3,he,rfl,?_⟩
    rw [q3]
   ·rw [om (f:=fun(mc:am) (mx:Unit)=>hZ mc) rfl (r:=(0,s3)) q1,cr (by simp),q2]
    have hu:=q3.rel.upd b3.out rfl rfl rfl s3.from_ 3
    rw [<-q3.rel.out]at hu
    have e3:({b3 with out:=s3.out}:aA)=b3:=by rw [q3.rel.out]
    rw [e3]at hu
    have hgb:=G4 hc S.Group {s3 with at_:=3} b3 hu q3.aggs q3.items (by rw [q3.keys];simp;omega) rfl
    rcases hgb with⟨e,s4,b4,he,w1,w2,w3⟩|⟨s4,b4,w1,w2,w3,w4,w5,w6⟩
    ·rw [om (f:=fun(mc:am) (mx:Unit)=>gq mc) rfl (r:=(e,s4)) (by
      show gq s3=_
      unfold gq
      dsimp only
      rw [q4]
      rw [q4]at w1
      exact w1),cz (by simpa using he),w2,bH,cr (by simpa using he)]
     refine .inl ⟨e,s4,b4,he,rfl,?_⟩
     rw [w3]
    ·rw [om (f:=fun(mc:am) (mx:Unit)=>gq mc) rfl (r:=(0,s4)) (by
      show gq s3=_
      unfold gq
      dsimp only
      rw [q4]
      rw [q4]at w1
      exact w1),cr (by simp),w2,bH,cz (by rfl)]
     have hf4:s4.from_=S:=by rw [w4];exact q4
     simp only
     rcases If hc w3 w6 S hf4 hi hI with⟨e,s5,b5,he,v1,v2,v3⟩|⟨s5,b5,v1,v2,v3,v4⟩
     ·rw [om (f:=fun(mc:am) (mx:Unit)=>ia mc) rfl (r:=(e,s5)) v1,cz (by simpa using he),v2,bH]
      refine .inl ⟨e,s5,b5,he,rfl,?_⟩
      rw [v3]
     ·rw [om (f:=fun(mc:am) (mx:Unit)=>ia mc) rfl (r:=(0,s5)) v1,cr (by simp),v2]
      rcases LT hc v3 S v4 hh with⟨e,s6,b6,he,y1,y2,y3⟩|⟨s6,b6,y1,y2,y3,y4,y5⟩
      ·rw [om (f:=fun(mc:am) (mx:Unit)=>iz mc) rfl (r:=(e,s6)) y1,cz (by simpa using he),y2,bH]
       refine .inl ⟨e,s6,b6,he,rfl,?_⟩
       rw [y3]
      ·rw [om (f:=fun(mc:am) (mx:Unit)=>iz mc) rfl (r:=(0,s6)) y1,cr (by simp),y2,bH]
       exact .inr ⟨s6,b6,rfl,rfl,y5,y4⟩
end Go.Proofs.YthbdkceckjihgaaGreatDoor


/- du of this claim: B17. -/
set_option linter.all false
set_option linter.unusedVariables false
namespace Go.Proofs.YthbdkceckjihgaaGreatDoor
open Go

def Hr: ∀(t p:List cd),Hs p t=true->(t.map fun x=>x.Name).Nodup/\ ∀x∈t,∀y∈p,y.Name≠x.Name
 |[],p,_=>⟨List.nodup_nil,fun x A=>by cases A⟩
 |x::t,p,h=>by
  have h0:Hs p (x::t)=((jx x.Name&&wo x.Kind&& !Fi p x)&&Hs (p++[x]) t):=rfl
  rw [h0]at h
  simp only [jR,AI]at h
  obtain⟨⟨_,Z⟩,h3⟩:=h
  obtain⟨g1,g2⟩:=Hr t (p++[x]) h3
  refine⟨?_,?_⟩
  ·rw [uG,List.nodup_cons]
   refine⟨fun hm=>?_,g1⟩
   obtain⟨y,hy,he⟩:=vX.1 hm
   exact g2 y hy x (OD _ (OL _)) he.symm
  ·intro z hz y hy
   rcases gw.1 hz with rfl|hz
   ·intro he
    have:Fi p z=true:=by
     unfold Fi
     rw [EZ]
     exact⟨y,hy,by simpa using he⟩
    rw [this]at Z;cases Z
   ·exact g2 z hz y (HV _ hy)
def Zn{c:aR}(h:Og c=true):rq c:=by
 unfold Og at h
 simp only [jR,nE]at h
 obtain⟨hl,M⟩:=h
 rw [JF,jR]at M
 have hall: ∀t∈c.Tables,xO t=true:=fun t h=>by
  have:=M.1
  rw [pG]at this
  exact this t h
 have h4: ∀t∈c.Tables,t.Columns.length<=4/\Hs [] t.Columns=true:=fun t h=>by
  have:=hall t h
  unfold xO at this
  simp only [jR,nE]at this
  exact⟨this.1.2,this.2.1⟩
 refine⟨⟨fun t h=>?_,by omega,fun t h=>(Hr _ _ (h4 t h).2).1⟩,fun t h=>(h4 t h).1,fun t h x A=>?_⟩
 ·have:=(h4 t h).1;omega
 ·have:=(h4 t h).2
  rw [Ko,jR,pG]at this
  exact this.2 x A
def Ri{N:List dl}(h:lR N=true): ∃m,fB N (IntKind.i64.wrap ((N.length:Int)-1))=some m/\uB m=true:=by
 unfold lR at h
 cases hA:AY N with
 |none=>rw [hA]at h;cases h
 |some a=>
  obtain⟨hw,hN,hs,_⟩:=xL hA
  have hlen:N.length=a.size:=by rw [hN,a.flat_len]
  have hp:=a.size_pos
  have key: ∃(P:List dl) (m:dl),N=P++[m]/\uB m=true:=by
   cases a with
   |lf n=>exact⟨[],_,hN,by rw [Ht];exact hw.2.1⟩
   |un n a=>exact⟨_,_,hN,by rw [Ht];exact hw.1.2.1⟩
   |bi n a b=>exact⟨_,_,hN,by rw [Ht];exact hw.1.2.1⟩
  obtain⟨P,m,hP,hm⟩:=key
  refine⟨m,?_,hm⟩
  have hlP:N.length=P.length+1:=by rw [hP];simp
  rw [d6 (by omega) (by omega),hlP,show(((P.length+1:Nat):Int)-1)=(P.length:Int) by omega,hP]
  exact oU P m []
def RH{m:dl}(h:uB m=true)(Z:m.Tag≠2):m.Name=[]:=by
 unfold uB at h
 rw [cr Z]at h
 split at h
 ·simp only [jR,vW]at h;exact h.1.2
 ·simp only [jR,vW]at h;exact h.2.2
def GR: ∀(l:List fQ) (out:List cS),l.all wp=true->out.length+l.length<=1000-> ∃R,gv l out=some R/\kC l out=some R/\R.length<=out.length+l.length
 |[],out,_,_=>⟨out,rfl,rfl,by simp⟩
 |x::l,out,h,hl=>by
  simp only [tI,jR]at h
  simp only [jm]at hl
  have A:lR x.Tree.Nodes=true:=by
   have:=h.1
   unfold wp at this
   simp only [jR]at this
   exact this.1
  obtain⟨m,g1,g2⟩:=Ri A
  have ih:=fun out=>GR l out h.2
  unfold gv kC
  rw [g1,bH,bH]
  unfold m5 rC
  have step: ∀s:cS,∃R,((oI out [s]).bind fun out2=>gv l out2)=some R/\((oI out [s]).bind fun out2=>kC l out2)=some R/\R.length<=out.length+(x::l).length:=fun s=>by
   rw [dH (by simp;omega),bH,bH]
   obtain⟨R,q1,q2,q3⟩:=ih (out++[s]) (by simp;omega)
   exact⟨R,q1,q2,by simp at q3 ⊢;omega⟩
  by_cases ha:x.As=[]
  ·rw [cz (by simpa using ha)]
   by_cases M:m.Tag=2
   ·rw [cz (by rw [ha,M];rfl)]
    exact step m.Name
   ·rw [cr (by simp [M]),ha,RH g2 M]
    exact step []
  ·rw [cr (by simpa using ha),cr (by simp [ha])]
   exact step x.As
def GQ(nx:List cS->Option (List cS)): ∀(l:List cd) (out:List cS),out.length+l.length<=100000->jN nx l out=nx (out++l.map fun x=>x.Name)/\m9 nx l out=nx (out++l.map fun x=>x.Name)
 |[],out,_=>⟨by unfold jN;simp,by unfold m9;simp⟩
 |x::l,out,h=>by
  simp only [jm]at h
  obtain⟨q1,q2⟩:=GQ nx l (out++[x.Name]) (by simp;omega)
  unfold jN m9
  rw [dH (by simp;omega),bH,bH,q1,q2]
  simp
def LB{c:aR}(hc:rq c)(s:am)(S:aQ)(hS:s.from_=S)(hcat:s.Catalog=c)(A:S.Items.all wp=true)(hl:S.Items.length<=6): ∀(l:List Int) (out:List cS),(∀t∈l,Hy c t=false)->out.length+l.length*4<=900-> ∃R,iq s l out=some R/\lV c S l out=some R/\R.length<=out.length+l.length*4+6
 |[],out,_,ho=>by
  unfold iq lV lm o5
  rw [hS]
  obtain⟨R,q1,q2,q3⟩:=GR S.Items out A (by simp at ho;omega)
  exact⟨R,q1,q2,by simp;omega⟩
 |t::l,out,Y,ho=>by
  simp only [jm]at ho
  obtain⟨x,g1,g2,g3⟩:=FG (Y t (oa ..))
  have h4:=hc.cols4 x g3
  obtain⟨R,q1,q2,q3⟩:=LB hc s S hS hcat A hl l (out++x.Columns.map fun x=>x.Name) (fun y hy=>Y y (oD _ hy)) (by simp;omega)
  unfold iq lV
  rw [hcat,g1,bH,bH,(GQ _ x.Columns out (by omega)).1,(GQ _ x.Columns out (by omega)).2]
  exact⟨R,q1,q2,by simp at q3 ⊢;omega⟩
def NA{c:aR}(hc:rq c){s:am}{b:aA}(h:vT c s b)(S:aQ)(hS:s.from_=S)(A:S.Items.all wp=true)(hl:S.Items.length<=6): ∃R,nt s=some R/\tS c S b.out.Tables=some R/\R.length<=100:=by
 unfold nt tS
 rw [hS,h.out]
 have hf:=h.few
 by_cases hs:S.Star=true
 ·rw [cz hs,cz hs]
  obtain⟨R,q1,q2,q3⟩:=LB hc s S hS h.cat A hl b.out.Tables [] h.bad (by simp;omega)
  exact⟨R,q1,q2,by simp at q3;omega⟩
 ·rw [cr hs,cr hs]
  unfold lm o5
  rw [hS]
  obtain⟨R,q1,q2,q3⟩:=GR S.Items [] A (by simp;omega)
  exact⟨R,q1,q2,by simp at q3;omega⟩
def xp(over:List Int): ∀(l:List aW) (out:List Int),(∀x∈l,x.Nodes.length<=1000)->out.length+l.length<=1000->gG over l out=some (out++l.map fun x=>(kF x over).1)/\kg over l out=some (out++l.map fun x=>(kF x over).1)
 |[],out,_,_=>⟨by unfold gG;simp,by unfold kg;simp⟩
 |x::l,out,h,hl=>by
  simp only [jm]at hl
  obtain⟨q1,q2⟩:=xp over l (out++[(kF x over).1]) (fun y hy=>h y (oD _ hy)) (by simp;omega)
  have A:=h x (oa ..)
  unfold gG kg
  rw [u6 _ _ (by omega),qq,bH,bH,dH (by simp;omega),bH,bH,q1,q2]
  simp
def NH{c:aR}(hc:rq c){s:am}{b:aA}{gr:Bool}(h:Qp c s b 100 gr): ∃R:List Int,kK s=some R/\oe c b.out=some R/\R.length<=100:=by
 have hr:=h.rel
 have hk:=hr.refKinds hc
 have D:=hr.refGroups hc
 rw [hr.bc]at hk D
 have hl:=h.len
 refine⟨b.out.Items.map fun x=>(kF x (ov s gr)).1,?_,?_,by simpa using hl⟩
 ·unfold kK kT
  rw [hr.out,h.grouped]
  unfold ov
  cases gr with
  |true=>rw [cz rfl,cz rfl,(xp _ _ _ h.each (by simp;omega)).1];simp
  |false=>rw [cr (by simp),cr (by simp),(xp _ _ _ h.each (by simp;omega)).1];simp
 ·unfold oe nN
  rw [hk,bH,h.grouped]
  unfold ov
  cases gr with
  |true=>rw [cz rfl,cz rfl,D,bH,(xp _ _ _ h.each (by simp;omega)).2];simp
  |false=>rw [cr (by simp),cr (by simp),(xp _ _ _ h.each (by simp;omega)).2];simp
def JC:List Int->List Int->Option (List Int)
 |x::a,y::b=>if x=0 then(JC a b).map (y:: ·)else if y≠0/\y≠x then none else(JC a b).map (x:: ·)
 |_,_=>some []
def KP{x:Int}(h:x=0)(a:List Int)(y:Int)(b:List Int):JC (x::a) (y::b)=(JC a b).map (y:: ·):=cz h
def OQ{x:Int}(h: ¬x=0)(a:List Int){y:Int}(hy:y≠0/\y≠x)(b:List Int):JC (x::a) (y::b)=none:=by
 show(if x=0 then _ else if y≠0/\y≠x then none else _)=_
 rw [cr h,cz hy]
def OR{x:Int}(h: ¬x=0)(a:List Int){y:Int}(hy: ¬(y≠0/\y≠x))(b:List Int):JC (x::a) (y::b)=(JC a b).map (x:: ·):=by
 show(if x=0 then _ else if y≠0/\y≠x then none else _)=_
 rw [cr h,cr hy]
def OS: ∀{a b r:List Int},JC a b=some r->r.length<=a.length
 |[],b,r,h=>by
  unfold JC at h
  cases h;simp
 |x::a,[],r,h=>by
  unfold JC at h;cases h;simp
 |x::a,y::b,r,h=>by
  unfold JC at h
  have ih:=fun r (h:JC a b=some r)=>OS h
  cases hu:JC a b with
  |none=>
   rw [hu]at h
   split at h
   ·cases h
   ·split at h<;>cases h
  |some q=>
   rw [hu]at h
   have:=ih q hu
   split at h
   ·cases h;simp;omega
   ·split at h
    ·cases h
    ·cases h;simp;omega
def KO: ∀(a l pre:List Int),a.length=l.length->(∃r,JC a l=some r/\kx l pre.length (pre++a)=some (true,pre++r))\/(JC a l=none/\ ∃z,kx l pre.length (pre++a)=some (false,z))
 |[],[],pre,_=> .inl ⟨[],rfl,rfl⟩
 |x::a,y::l,pre,h=>by
  have ih:=fun v=>KO a l (pre++[v]) (by simpa using h)
  simp only [pF,y9,gK,Ju]at ih
  unfold kx
  rw [oU,bH]
  by_cases A:x=0
  ·rw [KP A,cz (by simpa using A),uO,bH]
   rcases ih y with⟨r,g1,g2⟩|⟨g1,g2⟩
   ·exact .inl ⟨y::r,by rw [g1];rfl,g2⟩
   ·exact .inr ⟨by rw [g1];rfl,g2⟩
  ·rw [cr (by simpa using A)]
   by_cases hy:y≠0/\y≠x
   ·rw [OQ A a hy,cz (by simpa using hy)]
    exact .inr ⟨rfl,_,rfl⟩
   ·rw [OR A a hy,cr (by simpa using hy)]
    rcases ih x with⟨r,g1,g2⟩|⟨g1,g2⟩
    ·exact .inl ⟨x::r,by rw [g1];rfl,g2⟩
    ·exact .inr ⟨by rw [g1];rfl,g2⟩
def Iv(b:List Int): ∀(a l pre out:List Int),a.length=l.length->b=pre++l->out.length+a.length<=100000->jU b a pre.length out=some (match JC a l with
  |some r=>(out++r,true)
  |none=>([],false))
 |[],[],pre,out,_,_,_=>by unfold jU JC;simp
 |x::a,y::l,pre,out,h,Y,ho=>by
  simp only [jm]at ho
  have ih:=fun out=>Iv b a l (pre++[y]) out (by simpa using h) (by rw [Y];simp)
  simp only [pF,y9]at ih
  unfold jU
  rw [Y,oU,<-Y]
  unfold qC
  rw [Y,oU,<-Y]
  simp only [bH]
  by_cases A:x=0
  ·rw [KP A,cz (by simpa using A),cr (by simp),dH (by simp;omega),bH,ih _ (by simp;omega)]
   cases JC a l with
   |none=>rfl
   |some r=>simp
  ·rw [cr (by simpa using A)]
   by_cases hy:y≠0/\y≠x
   ·rw [OQ A a hy,cz (by simpa using hy)]
   ·rw [OR A a hy,cr (by simpa using hy),dH (by simp;omega),bH,ih _ (by simp;omega)]
    cases JC a l with
    |none=>rfl
    |some r=>simp
def MO(a l:List Int)(ha:a.length<=1000):(∃r,pw a l=some (true,r)/\rA a l=some (r,true)/\r.length<=a.length)\/(∃z,pw a l=some (false,z)/\rA a l=some ([],false)):=by
 unfold pw rA
 by_cases h:a.length=l.length
 ·rw [cr (by simp [h]),cr (by simp [h])]
  have Z:=Iv l a l [] [] h rfl (by simp;omega)
  rcases KO a l [] h with⟨r,g1,g2⟩|⟨g1,z,g2⟩
  ·rw [g1]at Z
   exact .inl ⟨r,g2,Z,OS g1⟩
  ·rw [g1]at Z
   exact .inr ⟨z,g2,Z⟩
 ·rw [cz (by simp;omega),cz (by simp;omega)]
  exact .inr ⟨a,rfl,rfl⟩
def NK(v:cS): ∀(l:List cS) (i:Nat),ec v l i=some (if v∈l then((i+l.idxOf v:Nat):Int)else -1)
 |[],i=>rfl
 |x::l,i=>by
  unfold ec
  by_cases h:v=x
  ·subst h
   rw [cz (by simp)]
   simp
  ·rw [cr (by simpa using h),NK v l (i+1)]
   have V:(v∈x::l)=(v∈l):=by simp [h]
   have Z:(x::l).idxOf v=l.idxOf v+1:=by
    have:(x==v)=false:=by simpa using Ne.symm h
    rw [List.idxOf_cons,this];rfl
   simp only [V,Z]
   by_cases hm:v∈l
   ·rw [cz hm,cz hm];congr 2;omega
   ·rw [cr hm,cr hm]
def JT(k:tf): ∀(l:List cS) (i:Nat) (f m:Int),k.Name∉l->fc k l i f m=fc k [] 0 f m
 |[],i,f,m,_=>rfl
 |x::l,i,f,m,h=>by
  have V: ¬x=k.Name:=fun e=>h (by rw [e];exact oa ..)
  conv=>lhs;unfold fc
  rw [cr (by simpa using V),JT k l (i+1) f m (fun e=>h (oD _ e))]
def LL(k:tf)(q:List cS): ∀(p:List cS) (i:Nat) (f m:Int),k.Name∉p->fc k (p++q) i f m=fc k q (i+p.length) f m
 |[],i,f,m,_=>rfl
 |x::p,i,f,m,h=>by
  have V: ¬x=k.Name:=fun e=>h (by rw [e];exact oa ..)
  rw [yU]
  conv=>lhs;unfold fc
  rw [cr (by simpa using V),LL k q p (i+1) f m (fun e=>h (oD _ e))]
  simp only [jm]
  congr 1;omega
def GY(k:tf): ∀(l:List cS) (i:Nat) (f m:Int),1<=m->m+l.length<=1000000->(2<=m\/k.Name∈l)->fc k l i f m=some (0,223)
 |[],i,f,m,V,Z,h3=>by
  have:2<=m:=by
   rcases h3 with h|h
   ·exact h
   ·cases h
  unfold fc
  rw [cr (by simp;omega),cr (by simp;omega)]
 |x::l,i,f,m,V,Z,h3=>by
  simp only [jm]at Z
  unfold fc
  by_cases A:x=k.Name
  ·rw [cz (by simpa using A),d6 (by omega) (by omega)]
   exact GY k l _ _ _ (by omega) (by omega) (.inl (by omega))
  ·rw [cr (by simpa using A)]
   refine GY k l _ _ _ V (by omega) ?_
   rcases h3 with h|h
   ·exact .inl h
   ·rcases gw.1 h with h|h
    ·exact absurd h.symm A
    ·exact .inr h
def S3(k:tf)(names:List cS)(hl:names.length<=1000): ∃R,Di k names=some R/\Ae k names=some R:=by
 unfold Di Ae
 by_cases hn:k.Name=[]
 ·have Y:(k.Name==([]:cS))=true:=by simpa using hn
  simp only [Y,jo]
  split
  ·exact⟨_,rfl,rfl⟩
  ·exact⟨_,rfl,rfl⟩
 ·have Y:(k.Name==([]:cS))=false:=by simpa using hn
  simp only [Y,lu,jQ]
  unfold fC
  rw [NK,bH]
  by_cases hm:k.Name∈names
  ·rw [cz hm,cr (by rw [nE];omega)]
   have hi:=ON hm
   obtain⟨j,hj⟩: ∃j,j=names.idxOf k.Name:=⟨_,rfl⟩
   rw [<-hj]at hi ⊢
   have hsp:names=names.take j++k.Name::names.drop (j+1):=by
    have e1:names[j]=k.Name:=by
     have:=List.getElem_idxOf (x:=k.Name) (xs:=names) (by rw [<-hj];exact hi)
     simpa [<-hj] using this
    conv=>lhs;rw [<-uH j names,sG hi,e1]
   have hno:k.Name∉names.take j:=by
    intro h
    have V:(names.take j).idxOf k.Name<(names.take j).length:=ON h
    have Z:names.idxOf k.Name=(names.take j).idxOf k.Name:=by
     conv=>lhs;rw [<-uH j names]
     rw [List.idxOf_append,cz h]
    rw [Bk]at V
    omega
   have hlt:(names.take j).length=j:=by rw [Bk];omega
   rw [d6 (by omega) (by omega),show(((0+j:Nat):Int)+1)=((j+1:Nat):Int) by omega,xe (by omega) (gc _),bH,rt (gc _)]
   unfold fM fC
   rw [NK,bH,bH]
   have hr:fc k names 0 0 0=fc k (names.drop (j+1)) (j+1) (j:Int) 1:=by
    conv=>lhs;rw [hsp]
    rw [LL k _ _ _ _ _ hno,hlt]
    conv=>lhs;unfold fc
    rw [cz (by simp),d6 (by omega) (by omega)]
    simp
   rw [hr]
   have hdl:(names.drop (j+1)).length<=1000:=by simp;omega
   by_cases Z:k.Name∈names.drop (j+1)
   ·rw [cz Z,cz (by rw [nE];omega),GY k _ _ _ _ (by omega) (by omega) (.inr Z)]
    exact⟨_,rfl,rfl⟩
   ·rw [cr Z,cr (by rw [nE];omega),JT k _ _ _ _ Z]
    refine⟨_,rfl,?_⟩
    unfold fc
    simp
  ·rw [cr hm,cz (by rw [nE];omega),JT k _ _ _ _ hm]
   exact⟨_,rfl,rfl⟩
end Go.Proofs.YthbdkceckjihgaaGreatDoor


/- du of this claim: B18. -/
set_option linter.all false
set_option linter.unusedVariables false
namespace Go.Proofs.YthbdkceckjihgaaGreatDoor
open Go

def GM: ∀(l:List tf) (x b:bu),b.Names.length<=1000->b.Order.length+l.length<=1000-> ∃R,sf l x b=some R/\qi l x b=some R
 |[],x,b,_,_=>⟨_,rfl,rfl⟩
 |k::l,x,b,hn,ho=>by
  simp only [jm]at ho
  obtain⟨R,g1,g2⟩:=S3 k b.Names hn
  unfold sf qi
  rw [g1,g2,bH,bH]
  by_cases h:R.2=0
  ·rw [cr (by simpa using h),cr (by simpa using h),dH (by simp;omega),bH,bH]
   exact GM l x _ hn (by simp;omega)
  ·rw [cz (by simpa using h),cz (by simpa using h)]
   exact⟨_,rfl,rfl⟩
def Hw(nx:Nat->bu->bu->Option (bu×Int×Int))(i:Nat)(e:Int)(s:am)(x b:bu)(h:b.Selects.length<=1000):n7 nx i (e,s) x b=nx (i+1) x {b with Selects:=b.Selects++[s.out]}:=by
 unfold n7
 rw [dH (by simp;omega),bH]
def Hv(nx:Nat->bu->bu->Option (bu×Int×Int))(i:Nat)(o:bu)(s:aA)(x b:bu)(h:b.Selects.length<=1000):qj nx i o s x b=nx (i+1) x {b with Selects:=b.Selects++[s.out]}:=by
 unfold qj
 rw [dH (by simp;omega),bH]
def CI{c:aR}(hc:rq c)(q:cu)(hk:q.Keys.length<=3): ∀(l:List aQ) (i:Nat) (x b:bu),l.all zp=true->i+l.length<=100->b.Selects.length=i->b.Kinds.length<=100->b.Names.length<=100->b.Order=[]->
    ∃R,ky c q l i x b=some R/\iC c q l i x b=some R
  |[],i,x,b,_,_,_,_,hn,ho=>by
    unfold ky iC
    exact GM q.Keys x b (by omega) (by rw [ho];simp;omega)
  |S::l,i,x,b,hl,hi,hs,hkl,hnl,ho=>by
    simp only [tI,jR]at hl
    simp only [jm]at hi
    have ih:=fun x b=>CI hc q hk l (i+1) x b hl.2 (by omega)
    have hI:S.Items.all wp=true/\S.Items.length<=6:=by
      have:=hl.1
      unfold zp Nf at this
      simp only [jR,nE]at this
      exact⟨this.2.2.1,this.1.2.1⟩
    have hc1:ky c q (S::l) i x b=(nu (U2 c S)).bind fun r3=>
      if(r3.1 !=(0:Int))then
      (some ((⟨[],[],[],[],(0:Int)⟩:bu),(IntKind.i64.wrap ((IntKind.i64.wrap ((10:Int)*(i:Int)))+r3.2.at_)),r3.1))
      else
      ((kK r3.2).bind fun r4=>
      if((i:Int)==(0:Int))then
      ((nt r3.2).bind fun r5=>
      n7 (ky c q l) i r3 x {b with Names:=r5,Kinds:=r4})
      else
      ((pw b.Kinds r4).bind fun r6=>
      if(!r6.1)then
      (some ((⟨[],[],[],[],(0:Int)⟩:bu),(IntKind.i64.wrap ((IntKind.i64.wrap ((10:Int)*(i:Int)))+(6:Int))),(229:Int)))
      else
      (n7 (ky c q l) i r3 x ({b with Kinds:=r6.2}:bu)))):=rfl
    have hd1:iC c q (S::l) i x b=Ww S (bi0 c) (fun at1 e2 ob=>mN c (iC c q l) i S x b at1 e2 ob):=rfl
    rw [hc1,hd1]
    rcases Lg hc S hl.1 (fun at1 e2 ob=>mN c (iC c q l) i S x b at1 e2 ob)with⟨e,s',b',he,g1,g2⟩|⟨s',b',g1,g2,g3,g4⟩
    · rw [g1,g2,bH]
      unfold mN
      rw [cz (by simpa using he),cz (by simpa using he)]
      exact⟨_,rfl,rfl⟩
    · rw [g1,g2,bH]
      unfold mN
      rw [cr (by simp),cr (by simp)]
      obtain⟨ax,k1,k2,k3⟩:=NH hc g3
      rw [k1,k2,bH,bH]
      have ho' :s'.out=b'.out:=g3.rel.out
      by_cases h0:i=0
      · have Y:((i:Int)==(0:Int))=true:=by simpa using h0
        simp only [Y,jo]
        obtain⟨ht,m1,m2,m3⟩:=NA hc g3.rel S g4 hI.1 hI.2
        rw [m1,m2,bH,bH,Hw _ _ _ _ _ _ (by show b.Selects.length<=1000;omega),Hv _ _ _ _ _ _ (by show b.Selects.length<=1000;omega),ho']
        exact ih x _ (by simp;omega) k3 m3 ho
      · have Y:((i:Int)==(0:Int))=false:=by simpa using h0
        simp only [Y,lu,jQ]
        rcases MO b.Kinds ax (by omega)with⟨r,u1,u2,u3⟩|⟨z,u1,u2⟩
        · rw [u1,u2,bH,bH,cr (by simp),cr (by simp),Hw _ _ _ _ _ _ (by show b.Selects.length<=1000;omega),Hv _ _ _ _ _ _ (by show b.Selects.length<=1000;omega),ho']
          exact ih x _ (by simp;omega) (by show r.length<=100;omega) hnl ho
        · rw [u1,u2,bH,bH,cz (by rfl),cz (by rfl)]
          exact⟨_,rfl,rfl⟩
def Jt{c:aR}(hs:HD c){q:cu}(hq:Up q): ∃R,xz c q=some R/\vu c q=some R:=by
 unfold xz vu
 rw [Em hs,GE hs,bH,bH]
 cases hc:Og c with
 |false=>exact⟨_,rfl,rfl⟩
 |true=>
  rw [cr (by simp),cr (by simp),Kq hq,GH hq,bH,bH]
  cases Y:QY q with
  |false=>exact⟨_,rfl,rfl⟩
  |true=>
   rw [cr (by simp),cr (by simp)]
   unfold QY QX at Y
   simp only [jR,nE]at Y
   exact CI (Zn hc) q Y.1.2.2.1 q.Selects 0 _ _ Y.2.1 (by omega) rfl (by show(0:Nat)<=100;omega) (by show(0:Nat)<=100;omega) rfl
end Go.Proofs.YthbdkceckjihgaaGreatDoor


/- du of this claim: B19. -/
set_option linter.all false
set_option linter.unusedVariables false
namespace Go.Proofs.YthbdkceckjihgaaGreatDoor
open Go

def iQ{α:Type}(g:α->α->Bool):List α->List α->Bool
 |[],[]=>true
 |x::a,y::b=>g x y&&iQ g a b
 |_,_=>false
def uc{α:Type}{g:α->α->Bool}: ∀{a b:List α},a.length≠b.length->iQ g a b=false
 |[],[],h=>absurd rfl h
 |[],y::b,_=>rfl
 |x::a,[],_=>rfl
 |x::a,y::b,h=>by
  show(g x y&&iQ g a b)=false
  rw [uc (by simpa using h),Bool.and_false]
def oC{α:Type}{g:α->α->Bool}(D: ∀x,g x x=true): ∀a:List α,iQ g a a=true
 |[]=>rfl
 |x::a=>by
  show(g x x&&iQ g a a)=true
  rw [D,oC D a];rfl
def TJ{α:Type}{s2:List α}{F:List α->Nat->Option Bool}{g:α->α->Bool}{E:Option Bool}(h0: ∀i,F [] i=E)(V: ∀e tl i e1,fB s2 ((i:Nat):Int)=some e1->F (e::tl) i=if g e e1 then F tl (i+1)else some false):
  ∀(tl pre b:List α),s2=pre++b->tl.length=b.length->F tl pre.length=if iQ g tl b then E else some false
 |[],pre,[],hs,hl=>by rw [h0];rfl
 |x::tl,pre,y::b,hs,hl=>by
  rw [V x tl pre.length y (by rw [hs];exact oU pre y b)]
  have ih:=TJ h0 V tl (pre++[y]) b (by rw [hs];simp) (by simpa using hl)
  simp only [pF,y9]at ih
  rw [ih]
  show _=if(g x y&&iQ g tl b)=true then E else some false
  cases g x y with
  |true=>rfl
  |false=>rfl
def sa{α:Type}{s1 s2:List α}{F:List α->Nat->Option Bool}{g:α->α->Bool}{E:Option Bool}(h0: ∀i,F [] i=E)(V: ∀e tl i e1,fB s2 ((i:Nat):Int)=some e1->F (e::tl) i=if g e e1 then F tl (i+1)else some false):
  (if((s1.length:Int) !=(s2.length:Int))then some false else F s1 0)=if iQ g s1 s2 then E else some false:=by
 by_cases h:s1.length=s2.length
 ·rw [cr (by simp [h])]
  exact TJ h0 V s1 [] s2 rfl h
 ·rw [cz (by simp;omega),uc h];rfl
def Du(a b:aW):Bool:=decide (a.Nodes=b.Nodes)
def Rk(a b:ew):Bool:=(a.Left==b.Left)&&Du a.On b.On
def RN(a b:f9):Bool:=(a.Tag==b.Tag)&&Du a.Arg b.Arg
def xo(a b:Int):Bool:=a==b
def UW(a b:cS):Bool:=a==b
def U6(a b:vR):Bool:=decide (a=b)
def Fg(r:Bool)(P ah:Option Bool):(if(!r)then P else ah)=if r=true then ah else P:=by cases r<;>rfl
def D1(a b:List Int):iU a b=some (iQ xo a b):=by
 unfold iU
 rw [sa (g:=xo) (E:=some true) (fun i=>rfl) (fun e tl i e1 h=>by
  show((fB b ((i:Nat):Int)).bind fun e1=>if(!(e==e1))then some false else kN b tl (i+1))=_
  rw [h,bH,Fg];rfl)]
 cases iQ xo a b<;>rfl
def G1(a b:List Int):m8 a b=some (iQ xo a b):=by
 unfold m8
 rw [sa (g:=xo) (E:=some true) (fun i=>rfl) (fun e tl i e1 h=>by
  show((fB b ((i:Nat):Int)).bind fun e1=>if(!(e==e1))then some false else oN b tl (i+1))=_
  rw [h,bH,Fg];rfl)]
 cases iQ xo a b<;>rfl
def QH(a b:List cS):jq a b=some (iQ UW a b):=by
 unfold jq
 rw [sa (g:=UW) (E:=some true) (fun i=>rfl) (fun e tl i e1 h=>by
  show((fB b ((i:Nat):Int)).bind fun e1=>if(!(e==e1))then some false else iu b tl (i+1))=_
  rw [h,bH,Fg];rfl)]
 cases iQ UW a b<;>rfl
def Q6(a b:List vR):iG a b=some (iQ U6 a b):=by
 unfold iG
 rw [sa (g:=U6) (E:=some true) (fun i=>rfl) (fun e tl i e1 h=>by
  show((fB b ((i:Nat):Int)).bind fun e1=>if(!decide (e=e1))then some false else gI b tl (i+1))=_
  rw [h,bH,Fg];rfl)]
 cases iQ U6 a b<;>rfl
def NJ(a b:List ew):dr a b jg=some (iQ Rk a b):=by
 have hj: ∀x y,jg x y=some (Rk x y):=fun x y=>by
  unfold jg Rk Du
  rw [pY]
  cases (x.Left==y.Left)<;>rfl
 unfold dr
 rw [sa (g:=Rk) (E:=some true) (fun i=>rfl) (fun e tl i e1 h=>by
  show((fB b ((i:Nat):Int)).bind fun e1=>(jg e e1).bind fun r=>if(!r)then some false else de b jg tl (i+1))=_
  rw [h,bH,hj,bH,Fg])]
 cases iQ Rk a b<;>rfl
def RL(a b:List f9):dY a b jf=some (iQ RN a b):=by
 have hj: ∀x y,jf x y=some (RN x y):=fun x y=>by
  unfold jf RN Du
  rw [pY]
  cases (x.Tag==y.Tag)<;>rfl
 unfold dY
 rw [sa (g:=RN) (E:=some true) (fun i=>rfl) (fun e tl i e1 h=>by
  show((fB b ((i:Nat):Int)).bind fun e1=>(jf e e1).bind fun r=>if(!r)then some false else dD b jf tl (i+1))=_
  rw [h,bH,hj,bH,Fg])]
 cases iQ RN a b<;>rfl
def NY(a b:List aW):dA a b mt=some (iQ Du a b):=by
 unfold dA
 rw [sa (g:=Du) (E:=some true) (fun i=>rfl) (fun e tl i e1 h=>by
  show((fB b ((i:Nat):Int)).bind fun e1=>(mt e e1).bind fun r=>if(!r)then some false else dv b mt tl (i+1))=_
  rw [h,bH,pY,bH,Fg];rfl)]
 cases iQ Du a b<;>rfl
def Rx(a b:List aW):tn a b=some (iQ Du a b):=by
 unfold tn
 rw [sa (g:=Du) (E:=some true) (fun i=>rfl) (fun e tl i e1 h=>by
  show((fB b ((i:Nat):Int)).bind fun e1=>(lX e e1).bind fun r=>if(!r)then some false else pM b tl (i+1))=_
  rw [h,bH,ox,bH,Fg];rfl)]
 cases iQ Du a b<;>rfl
def OZ(a b:aL):Bool:=((a.Grouped==b.Grouped)&&(a.Distinct==b.Distinct))&&(iQ xo a.Tables b.Tables&&(iQ xo a.Keys b.Keys&&(Du a.Where b.Where&&(Du a.Having b.Having&&(iQ Rk a.Joins b.Joins&&(iQ RN a.Aggs b.Aggs&&iQ Du a.Items b.Items))))))
def SV{α:Type}{a b:List α}(h:((a.length:Int) !=(b.length:Int))=true):a.length≠b.length:=fun e=>by rw [e]at h;simp at h
def SD(a b:aL):nI jg jf a b=some (OZ a b):=by
 unfold nI OZ
 rw [D1,D1,pY,pY,NJ,RL,NY]
 rw [show Du a.Where b.Where=decide (a.Where.Nodes=b.Where.Nodes)from rfl,show Du a.Having b.Having=decide (a.Having.Nodes=b.Having.Nodes)from rfl]
 cases ((a.Grouped==b.Grouped)&&(a.Distinct==b.Distinct))<;>cases iQ xo a.Tables b.Tables<;>cases iQ xo a.Keys b.Keys<;>cases decide (a.Where.Nodes=b.Where.Nodes)<;>cases decide (a.Having.Nodes=b.Having.Nodes)<;>cases iQ Rk a.Joins b.Joins<;>cases iQ RN a.Aggs b.Aggs<;>cases iQ Du a.Items b.Items<;>rfl
def Nc(a b:aL):(if((a.Aggs.length:Int) !=(b.Aggs.length:Int))then some false else io a b a.Aggs 0)=if iQ RN a.Aggs b.Aggs then some (iQ xo a.Tables b.Tables&&(iQ xo a.Keys b.Keys&&(Du a.Where b.Where&&(Du a.Having b.Having&&iQ Du a.Items b.Items))))else some false:=by
 refine sa (g:=RN) (fun i=>?_) (fun e tl i e1 h=>?_)
 ·unfold io
  rw [G1,G1,ox,ox,Rx]
  rw [show Du a.Where b.Where=decide (a.Where.Nodes=b.Where.Nodes)from rfl,show Du a.Having b.Having=decide (a.Having.Nodes=b.Having.Nodes)from rfl]
  cases iQ xo a.Tables b.Tables<;>cases iQ xo a.Keys b.Keys<;>cases decide (a.Where.Nodes=b.Where.Nodes)<;>cases decide (a.Having.Nodes=b.Having.Nodes)<;>cases iQ Du a.Items b.Items<;>rfl
 ·conv=>lhs;unfold io
  rw [h,bH,ox]
  unfold RN Du
  show Option.bind (if(!(!(e.Tag==e1.Tag)))=true then _ else _) _=_
  cases (e.Tag==e1.Tag)<;>cases decide (e.Arg.Nodes=e1.Arg.Nodes)<;>rfl
def U1(a b:aL):pJ a b=some (OZ a b):=by
 have Z:=Nc a b
 have V:=sa (s1:=a.Joins) (s2:=b.Joins) (F:=jH a b) (g:=Rk) (E:=io a b a.Aggs 0) (fun i=>rfl) (fun e tl i e1 h=>by
  conv=>lhs;unfold jH
  rw [h,bH,ox]
  unfold Rk Du
  show Option.bind (if(!(!(e.Left==e1.Left)))=true then _ else _) _=_
  cases (e.Left==e1.Left)<;>cases decide (e.On.Nodes=e1.On.Nodes)<;>rfl)
 unfold pJ OZ
 show(if(((!(a.Grouped==b.Grouped))||(!(a.Distinct==b.Distinct)))||((a.Joins.length:Int) !=(b.Joins.length:Int)))||((a.Aggs.length:Int) !=(b.Aggs.length:Int))then some false else jH a b a.Joins 0)=_
 cases hJ:((a.Joins.length:Int) !=(b.Joins.length:Int))<;>cases hA:((a.Aggs.length:Int) !=(b.Aggs.length:Int))<;>simp only [hJ,lu,jQ,jo]at V<;>simp only [hA,lu,jQ,jo]at Z
 ·rw [V,Z]
  cases (a.Grouped==b.Grouped)<;>cases (a.Distinct==b.Distinct)<;>cases iQ Rk a.Joins b.Joins<;>cases iQ RN a.Aggs b.Aggs<;>simp
 ·have hf:iQ RN a.Aggs b.Aggs=false:=uc (SV hA)
  rw [hf];simp
 ·have hf:iQ Rk a.Joins b.Joins=false:=uc (SV hJ)
  rw [hf];simp
 ·have hf:iQ Rk a.Joins b.Joins=false:=uc (SV hJ)
  rw [hf];simp
def QS(a b:List aL):cO a b (nI jg jf)=some (iQ OZ a b):=by
 unfold cO
 rw [sa (g:=OZ) (E:=some true) (fun i=>rfl) (fun e tl i e1 h=>by
  show((fB b ((i:Nat):Int)).bind fun e1=>(nI jg jf e e1).bind fun r=>if(!r)then some false else cL b (nI jg jf) tl (i+1))=_
  rw [h,bH,SD,bH,Fg])]
 cases iQ OZ a b<;>rfl
def Zt(a b:bu):Bool:=(a.Limit==b.Limit)&&(iQ UW a.Names b.Names&&(iQ xo a.Kinds b.Kinds&&(iQ U6 a.Order b.Order&&iQ OZ a.Selects b.Selects)))
def Jk(a b:bu):xy a b=some (Zt a b):=by
 unfold xy Zt
 rw [QH,D1,Q6,QS]
 cases (a.Limit==b.Limit)<;>cases iQ UW a.Names b.Names<;>cases iQ xo a.Kinds b.Kinds<;>cases iQ U6 a.Order b.Order<;>cases iQ OZ a.Selects b.Selects<;>rfl
def Ul(a b:bu):xR a b=some (Zt a b):=by
 have h3:=sa (s1:=a.Order) (s2:=b.Order) (F:=ou b) (g:=U6) (E:=some true) (fun i=>rfl) (fun e tl i e1 h=>by
  conv=>lhs;unfold ou
  rw [h,bH,Fg];rfl)
 have Z:=sa (s1:=a.Names) (s2:=b.Names) (F:=ow a b) (g:=UW) (E:=ou b a.Order 0) (fun i=>rfl) (fun e tl i e1 h=>by
  conv=>lhs;unfold ow
  rw [h,bH,Fg];rfl)
 have V:=sa (s1:=a.Selects) (s2:=b.Selects) (F:=qh a b) (g:=OZ) (E:=ow a b a.Names 0) (fun i=>rfl) (fun e tl i e1 h=>by
  conv=>lhs;unfold qh
  rw [h,bH,U1,bH,Fg])
 unfold xR Zt
 rw [G1]
 show Option.bind (if(!((((!(a.Limit==b.Limit))||((a.Selects.length:Int) !=(b.Selects.length:Int)))||((a.Names.length:Int) !=(b.Names.length:Int)))||((a.Order.length:Int) !=(b.Order.length:Int))))=true then _ else _) _=_
 by_cases hS:a.Selects.length=b.Selects.length
 ·by_cases hN:a.Names.length=b.Names.length
  ·by_cases hO:a.Order.length=b.Order.length
   ·have e1:((a.Selects.length:Int) !=(b.Selects.length:Int))=false:=by simp [hS]
    have e2:((a.Names.length:Int) !=(b.Names.length:Int))=false:=by simp [hN]
    have e3:((a.Order.length:Int) !=(b.Order.length:Int))=false:=by simp [hO]
    rw [e1]at V ⊢;rw [e2]at Z ⊢;rw [e3]at h3 ⊢
    simp only [lu,jQ]at V Z h3
    cases (a.Limit==b.Limit)with
    |false=>rfl
    |true=>
     cases iQ xo a.Kinds b.Kinds with
     |false=>simp
     |true=>
      simp only [rn,Bool.or_self,Cd,jo,bH,lu,jQ]
      rw [V,Z,h3]
      cases iQ UW a.Names b.Names<;>cases iQ U6 a.Order b.Order<;>cases iQ OZ a.Selects b.Selects<;>rfl
   ·have hf:iQ U6 a.Order b.Order=false:=uc hO
    have e:((a.Order.length:Int) !=(b.Order.length:Int))=true:=by simp;omega
    rw [hf,e];simp
  ·have hf:iQ UW a.Names b.Names=false:=uc hN
   have e:((a.Names.length:Int) !=(b.Names.length:Int))=true:=by simp;omega
   rw [hf,e];simp
 ·have hf:iQ OZ a.Selects b.Selects=false:=uc hS
  have e:((a.Selects.length:Int) !=(b.Selects.length:Int))=true:=by simp;omega
  rw [hf,e];simp
def Hj(x:aW):Du x x=true:=by simp [Du]
def SE(x:aL):OZ x x=true:=by
 unfold OZ
 rw [oC (fun y=>by simp [xo]),oC (fun y=>by simp [xo]),Hj,Hj,oC (fun y=>by simp [Rk,Du]),oC (fun y=>by simp [RN,Du]),oC Hj]
 simp
def Ud(x:bu):Zt x x=true:=by
 unfold Zt
 rw [oC (fun y=>by simp [UW]),oC (fun y=>by simp [xo]),oC (fun y=>by simp [U6]),oC SE]
 simp
end Go.Proofs.YthbdkceckjihgaaGreatDoor


/- du of this claim: B20. -/
set_option linter.all false
set_option linter.unusedVariables false
namespace Go.Proofs.YthbdkceckjihgaaGreatDoor
open Go

def Ik(p:aR)(y z:cu):vC p y z=some true:=by
 unfold vC
 obtain⟨R,_,g1⟩:=Jt (Cx p) (L5 y)
 obtain⟨ah,_,g2⟩:=Jt (Cx p) (L5 z)
 rw [ML,bH,cr (by simp),Sv,bH,Tg,bH,g1,bH,Tg,bH,g2,bH]
 split
 ·rfl
 ·rw [Jk,Ul,Jk,bH,bH,cz (by simp),Ud]
  rfl
end Go.Proofs.YthbdkceckjihgaaGreatDoor

