import Derived.Test.YtigldkegamffhaaGreatDoorBfQ1
import Derived.KernelRfl
import Derived.Test.YtigldkegamffhaaGreatDoorBfQ2
import Derived.Test.YtigldkegamffhaaGreatDoorBfQ3
import Derived.Test.YtigldkegamffhaaGreatDoorBfBC
import Derived.Test.YtigldkegamffhaaGreatDoorBfA0
/- de of this claim: B1. -/
set_option linter.all false
namespace Go.Proofs.YtigldkegamffhaaGreatDoor
open Go

def K9{α:Type}(l:List α)(m:Nat)(hm:m<=100000):((dH l 0 (min (l.length:Int) (m:Int))).bind fun y=>(lr ([]:List α) y).bind fun x=>some x)=some (l.take m):=by
 have e:min (l.length:Int) (m:Int)=((min l.length m:Nat):Int):=by omega
 have h:dH l 0 (min (l.length:Int) (m:Int))=some (l.take m):=by
  unfold dH
  rw [bv ⟨by omega,by omega,by omega⟩,e]
  simp only [wy,Int.toNat_zero,qh,yv]
  rw [List.take_eq_take_iff];omega
 rw [h,aV]
 unfold lr
 rw [bv (by simp;omega)]
 simp
def Pw(s:cj)(m:Nat)(hm:m<=100000):dH s 0 (min (s.length:Int) (m:Int))=some (s.take m):=by
 have e:min (s.length:Int) (m:Int)=((min s.length m:Nat):Int):=by omega
 unfold dH
 rw [bv ⟨by omega,by omega,by omega⟩,e]
 simp only [wy,Int.toNat_zero,qh,yv]
 rw [List.take_eq_take_iff];omega
def nd{α:Type}(pre:List α)(e:α)(tl:List α):ep (pre++e::tl) (pre.length:Int)=some e:=by
 rw [fE];simp
def rR{α:Type}(pre:List α)(e y:α)(tl:List α):(pre++e::tl).set ((pre.length:Nat):Int).toNat y=pre++y::tl:=by
 simp
def Vx(t:bR):bR:={t with Columns:=t.Columns.take 5,Keys:=t.Keys.take 5}
def Kg(c:aw):aw:=⟨(c.Tables.take 5).map Vx⟩
def TW: ∀(tl pre:List bR),mB tl pre.length ⟨pre++tl⟩=some ⟨pre++tl.map Vx⟩:=by
 intro tl
 induction tl with
 |nil=>intro pre;simp [mB]
 |cons e tl ih=>
  intro pre
  have A:=K9 e.Columns 5 (by omega)
  have V:=K9 e.Keys 5 (by omega)
  unfold mB
  rw [nd,aV,aV]
  rw [show lC e.Columns (5:Int)=some (e.Columns.take 5)from A,aV,show si e.Keys (5:Int)=some (e.Keys.take 5)from V,aV]
  rw [aV,rR,nd,aV,aV,rR]
  have h3:=ih (pre++[Vx e])
  simp only [gA,yb,gI,Iq]at h3
  rw [pE]
  exact h3
def TX(c:aw):vj c=some (Kg c):=by
 unfold vj
 rw [show o9 c.Tables (5:Int)=some (c.Tables.take 5)from K9 c.Tables 5 (by omega),aV]
 exact TW (c.Tables.take 5) []
def xR(n:cx):cx:={n with Value:={n.Value with S:=n.Value.S.take 60},Table:=n.Table.take 40,Name:=n.Name.take 40}
def lL(t:bT):bT:=⟨(t.Nodes.take 80).map xR⟩
def TZ: ∀(tl pre:List cx),kW tl pre.length ⟨pre++tl⟩=some ⟨pre++tl.map xR⟩:=by
 intro tl
 induction tl with
 |nil=>intro pre;simp [kW]
 |cons e tl ih=>
  intro pre
  unfold kW
  rw [nd,aV]
  rw [show dH e.Value.S 0 (min (e.Value.S.length:Int) (60:Int))=some (e.Value.S.take 60)from Pw _ 60 (by omega),aV,show dH e.Table 0 (min (e.Table.length:Int) (40:Int))=some (e.Table.take 40)from Pw _ 40 (by omega),aV,
   show dH e.Name 0 (min (e.Name.length:Int) (40:Int))=some (e.Name.take 40)from Pw _ 40 (by omega),aV]
  rw [aV,rR,nd,aV,aV,rR,nd,aV,aV,rR]
  have h3:=ih (pre++[xR e])
  simp only [gA,yb,gI,Iq]at h3
  rw [pE]
  exact h3
def yJ(t:bT):lB t=some (lL t):=by
 unfold lB
 rw [show pK t.Nodes (80:Int)=some (t.Nodes.take 80)from K9 t.Nodes 80 (by omega),aV]
 exact TZ (t.Nodes.take 80) []
def La(x:ev):ev:={x with Tree:=lL x.Tree}
def IH(x:g9):g9:={x with On:=lL x.On}
def tf(s:ae):ae:={s with Items:=(s.Items.take 7).map La,Joins:=(s.Joins.take 3).map IH,Where:=lL s.Where,Having:=lL s.Having,Group:=s.Group.take 4}
def BH(q:be):be:={q with Selects:=(q.Selects.take 4).map tf,Keys:=q.Keys.take 4}
def Y7(nx:Nat->be->Option be)(pq tq:List ae)(e0:ae)(q1:be)(hq:q1.Selects=pq++e0::tq): ∀(tl pre:List g9) (s:ae),s.Joins=pre++tl->nb nx pq.length q1 tl pre.length s=nx (pq.length+1) {q1 with Selects:=pq++{s with Joins:=pre++tl.map IH,Where:=lL s.Where,Having:=lL s.Having}::tq}:=by
 intro tl
 induction tl with
 |nil=>
  intro pre s hs
  unfold nb
  rw [yJ,aV,yJ,aV,aV,hq,rR,hs]
  rfl
 |cons e tl ih=>
  intro pre s hs
  unfold nb
  rw [hs,nd,aV,aV,yJ,aV,aV,rR]
  have h3:=ih (pre++[IH e]) {s with Joins:=pre++IH e::tl} (by simp)
  simp only [gA,yb,gI,Iq]at h3
  rw [pE]
  exact h3
def Y8(nx:Nat->be->Option be)(pq tq:List ae)(e0:ae)(q1:be)(hq:q1.Selects=pq++e0::tq): ∀(tl pre:List ev) (s:ae),s.Items=pre++tl->nc nx pq.length q1 tl pre.length s=nx (pq.length+1) {q1 with Selects:=pq++{s with Items:=pre++tl.map La,Joins:=s.Joins.map IH,Where:=lL s.Where,Having:=lL s.Having}::tq}:=by
 intro tl
 induction tl with
 |nil=>
  intro pre s hs
  unfold nc
  have:=Y7 nx pq tq e0 q1 hq s.Joins [] s rfl
  rw [show([]:List g9).length=0 from rfl]at this
  rw [this]
  simp [hs]
 |cons e tl ih=>
  intro pre s hs
  unfold nc
  rw [hs,nd,aV,aV,yJ,aV,aV,rR]
  have h3:=ih (pre++[La e]) {s with Items:=pre++La e::tl} (by simp)
  simp only [gA,yb,gI,Iq]at h3
  rw [pE]
  exact h3
def Y9: ∀(tl pre:List ae) (q:be),q.Selects=pre++tl->iE tl pre.length q=some {q with Selects:=pre++tl.map tf}:=by
 intro tl
 induction tl with
 |nil=>intro pre q hq;unfold iE;simp [<-hq]
 |cons e tl ih=>
  intro pre q hq
  unfold iE
  rw [hq,nd,aV,aV]
  rw [show pN e.Items (7:Int)=some (e.Items.take 7)from K9 _ 7 (by omega),aV,show pM e.Joins (3:Int)=some (e.Joins.take 3)from K9 _ 3 (by omega),aV,show pL e.Group (4:Int)=some (e.Group.take 4)from K9 _ 4 (by omega),aV]
  have V:=Y8 (iE tl) pre tl e q hq (e.Items.take 7) [] {e with Group:=e.Group.take 4,Items:=e.Items.take 7,Joins:=e.Joins.take 3} rfl
  rw [show([]:List ev).length=0 from rfl]at V
  rw [V]
  have h3:=ih (pre++[tf e]) {q with Selects:=pre++tf e::tl} (by simp)
  simp only [gA,yb,gI,Iq]at h3
  rw [pE]
  exact h3
def Pa(q:be):oL q=some (BH q):=by
 unfold oL
 rw [show od q.Selects (4:Int)=some (q.Selects.take 4)from K9 _ 4 (by omega),aV,show nP q.Keys (4:Int)=some (q.Keys.take 4)from K9 _ 4 (by omega),aV]
 have:=Y9 (q.Selects.take 4) [] {q with Keys:=q.Keys.take 4,Selects:=q.Selects.take 4} rfl
 exact this
def NR:yY=some true:=by kernel_rfl
def Cw(c:aw):BQ (Kg c):=by
 intro t M
 obtain⟨u,_,rfl⟩:=qY.1 M
 have:(Vx u).Keys.length<=5:=by simp [Vx];omega
 omega
end Go.Proofs.YtigldkegamffhaaGreatDoor


/- de of this claim: B2. -/
set_option linter.all false
namespace Go.Proofs.YtigldkegamffhaaGreatDoor
open Go

def Jv{f:cx->Option Bool}{p:cx->Bool}(hf: ∀x,f x=some (p x)): ∀(l:List cx) (i:Nat),∃j:Int,ee f l i=some j/\decide (0<=j)=l.any p
 |[],i=>⟨-1,rfl,rfl⟩
 |x::l,i=>by
  unfold ee
  rw [hf,aV,A5]
  cases D:p x with
  |true=>exact⟨i,rfl,by simp⟩
  |false=>
   obtain⟨j,A,V⟩:=Jv hf l (i+1)
   exact⟨j,A,by rw [V];rfl⟩
def Py{f:cx->Option Bool}{p:cx->Bool}(hf: ∀x,f x=some (p x))(l:List cx):fz l f=some (l.any p):=by
 obtain⟨j,A,V⟩:=Jv hf l 0
 unfold fz iI
 rw [A,aV,V]
def Jw{f:ev->Option Bool}{p:ev->Bool}(hf: ∀x,f x=some (p x)): ∀(l:List ev) (i:Nat),∃j:Int,ef f l i=some j/\decide (0<=j)=l.any p
 |[],i=>⟨-1,rfl,rfl⟩
 |x::l,i=>by
  unfold ef
  rw [hf,aV,A5]
  cases D:p x with
  |true=>exact⟨i,rfl,by simp⟩
  |false=>
   obtain⟨j,A,V⟩:=Jw hf l (i+1)
   exact⟨j,A,by rw [V];rfl⟩
def Pz{f:ev->Option Bool}{p:ev->Bool}(hf: ∀x,f x=some (p x))(l:List ev):fA l f=some (l.any p):=by
 obtain⟨j,A,V⟩:=Jw hf l 0
 unfold fA iJ
 rw [A,aV,V]
def wv(tag:Int):Bool:=tag==3||(decide (8<=tag)&&decide (tag<=11))
def o4:List (Int×Int):=[(3,1),(8,2),(9,3),(10,4),(11,5)]
def A3:lq=some o4:=by kernel_rfl
def VI(tag:Int):decide ((0:Int)<((fj o4 tag).getD (0:Int)))=wv tag:=by
 unfold o4 wv
 simp only [fj]
 by_cases h3:tag=3
 ·subst h3;decide
 by_cases h8:tag=8
 ·subst h8;decide
 by_cases h9:tag=9
 ·subst h9;decide
 by_cases h10:tag=10
 ·subst h10;decide
 by_cases h11:tag=11
 ·subst h11;decide
 have e1: ¬(3:Int)=tag:=fun h=>h3 h.symm
 have e2: ¬(8:Int)=tag:=fun h=>h8 h.symm
 have e3: ¬(9:Int)=tag:=fun h=>h9 h.symm
 have e4: ¬(10:Int)=tag:=fun h=>h10 h.symm
 have e5: ¬(11:Int)=tag:=fun h=>h11 h.symm
 have e6:(tag==3)=false:=by simpa using h3
 have e7:(decide (8<=tag)&&decide (tag<=11))=false:=by simp;omega
 simp [e1,e2,e3,e4,e5,e6,e7]
def Hn(t:bT):Bool:=t.Nodes.any fun n=>wv n.Tag
def mC(s:ae):Bool:=(decide (0<s.Group.length)||decide (0<s.Having.Nodes.length))||s.Items.any fun x=>Hn x.Tree
def BX(s:ae):lG s=some (mC s):=by
 unfold lG mC
 rw [A3,aV]
 have A: ∀n,mM o4 n=some (wv n.Tag):=fun n=>by unfold mM;rw [VI]
 have V: ∀x,ot o4 x=some (Hn x.Tree):=fun x=>by unfold ot Hn;rw [Py A,aV]
 rw [Pz V,aV]
 have e1:decide ((0:Int)<(s.Group.length:Int))=decide (0<s.Group.length):=by rw [Ap];omega
 have e2:decide ((0:Int)<(s.Having.Nodes.length:Int))=decide (0<s.Having.Nodes.length):=by rw [Ap];omega
 rw [e1,e2]
 cases (decide (0<s.Group.length)||decide (0<s.Having.Nodes.length))<;>rfl
def GN: ∀(l:List cx),tE l=some (l.any fun n=>wv n.Tag)
 |[]=>rfl
 |x::l=>by
  unfold tE
  rw [show lk x.Tag=some (wv x.Tag)from rfl,aV,A5]
  cases wv x.Tag with
  |true=>rfl
  |false=>exact GN l
def uz: ∀(l:List ev) (b:Bool),mv l b=some (b||l.any fun x=>Hn x.Tree)
 |[],b=>by simp [mv]
 |x::l,b=>by
  unfold mv
  rw [show Jb x.Tree=some (Hn x.Tree)from GN x.Tree.Nodes,A5]
  cases b with
  |true=>simp only [qg,lh,jB,aV];rw [uz l true];rfl
  |false=>simp only [v8,i8,aV];rw [uz l (Hn x.Tree)];simp
def GO(s:ae):vI s=some (mC s):=by
 unfold vI mC
 have e1:decide ((0:Int)<(s.Group.length:Int))=decide (0<s.Group.length):=by rw [Ap];omega
 have e2:decide ((0:Int)<(s.Having.Nodes.length:Int))=decide (0<s.Having.Nodes.length):=by rw [Ap];omega
 rw [uz,e1,e2]
def H4(c:aw)(t:Int):Bool:=decide (t<0)||decide ((c.Tables.length:Int)<=t)
def j0(c:aw)(t:Int):List bJ:=((c.Tables[t.toNat]?).map fun x=>x.Columns).getD []
def iz(c:aw)(ts:List Int):List Int:=ts.flatMap fun t=>(j0 c t).map fun x=>x.Kind
def VS(c:aw):Prop:= ∀t∈c.Tables,t.Columns.length<=1000
def xq{c:aw}(h:VS c)(t:Int):(j0 c t).length<=1000:=by
 unfold j0
 cases D:c.Tables[t.toNat]? with
 |none=>simp
 |some x=>exact h x (sR D)
def F0{c:aw}{t:Int}(h:H4 c t=false): ∃x,ep c.Tables t=some x/\x.Columns=j0 c t/\x∈c.Tables:=by
 simp only [H4,Ci,o7]at h
 have hlt:t.toNat<c.Tables.length:=by omega
 refine⟨c.Tables[t.toNat],?_,?_,Ch ..⟩
 ·unfold ep;rw [bv (by omega),qf hlt]
 ·unfold j0;rw [qf hlt];rfl
def Mk(nx:List Int->Option (List Int)): ∀(l:List bJ) (out:List Int),out.length+l.length<=68719476736->lU nx l out=nx (out++l.map fun x=>x.Kind)
 |[],out,_=>by simp [lU]
 |x::l,out,h=>by
  simp only [iZ]at h
  unfold lU lr
  rw [bv (by simp;omega),aV,Mk nx l _ (by simp;omega)]
  simp
def Ml{c:aw}(hc:VS c): ∀(l:List Int) (out:List Int),(∀t∈l,H4 c t=false)->out.length+l.length*1000<=68719476736->kK c l out=some (out++iz c l)
 |[],out,_,_=>by simp [kK,iz]
 |t::l,out,h,hl=>by
  simp only [iZ]at hl
  obtain⟨x,A,V,_⟩:=F0 (h t (lg ..))
  have h3:=xq hc t
  unfold kK
  rw [A,aV,Mk _ _ _ (by rw [V];omega),Ml hc l _ (fun t M=>h t (li _ M)) (by rw [V];simp;omega),V]
  simp [iz]
def OO{c:aw}(hc:VS c){l:List Int}(h: ∀t∈l,H4 c t=false)(hl:l.length<=1000):BO c l=some (iz c l):=by
 unfold BO
 rw [Ml hc l [] h (by simp;omega)];rfl
def GM(c:aw): ∀(l:List Int) (out:List Int),nX c l out=kK c l out:=by
 have V: ∀(nx:List Int->Option (List Int)) (l:List bJ) (out:List Int),qy nx l out=lU nx l out:=by
  intro nx l
  induction l with
  |nil=>intro out;rfl
  |cons x l ih=>intro out;unfold qy lU;exact congrArg _ (funext fun y=>ih y)
 intro l
 induction l with
 |nil=>intro out;rfl
 |cons t l ih=>
  intro out
  unfold nX kK
  refine congrArg _ (funext fun e=>?_)
  rw [V,show nX c l=kK c l from funext ih]
def Kr{c:aw}(hc:VS c){l:List Int}(h: ∀t∈l,H4 c t=false)(hl:l.length<=1000):kG c l=some (iz c l):=by
 have:=OO hc h hl
 unfold BO at this
 unfold kG
 rw [GM,this]
end Go.Proofs.YtigldkegamffhaaGreatDoor


/- de of this claim: B3. -/
set_option linter.all false
namespace Go.Proofs.YtigldkegamffhaaGreatDoor
open Go

def Si(tag:Int):Option Nat:=if 1<=tag/\tag<=3 then some 0 else if 4<=tag/\tag<=11 then some 1 else if 12<=tag/\tag<=23 then some 2 else none
def yV(tag:Int):Int:=match Si tag with
 |some k=>(k:Int)
 |none=> -1
def Dk(tag:Int):Af tag=some (yV tag):=by
 unfold Af yV Si
 by_cases h0:tag<1\/23<tag
 ·rw [bv (show(decide (tag<1)||decide (23<tag))=true by simpa using h0),bm (show¬(1<=tag/\tag<=3) by omega),bm (show¬(4<=tag/\tag<=11) by omega),bm (show¬(12<=tag/\tag<=23) by omega)]
 rw [bm (show¬(decide (tag<1)||decide (23<tag))=true by simpa using h0)]
 by_cases A:tag<=3
 ·rw [bv (show decide (tag<=3)=true by simpa using A),bv (show 1<=tag/\tag<=3 by omega)];rfl
 rw [bm (show¬decide (tag<=3)=true by simpa using A),bm (show¬(1<=tag/\tag<=3) by omega)]
 by_cases V:tag<=11
 ·rw [bv (show decide (tag<=11)=true by simpa using V),bv (show 4<=tag/\tag<=11 by omega)];rfl
 rw [bm (show¬decide (tag<=11)=true by simpa using V),bm (show¬(4<=tag/\tag<=11) by omega),bv (show 12<=tag/\tag<=23 by omega)];rfl
def qD(tag:Int):vd tag=some (yV tag):=Dk tag
def Np(up:List Int)(ws:List cj): ∀(n i:Nat),i+n=ws.length->nC up ws n i=some (!(ws.drop i).any fun w=>w==rf up):=by
 intro n
 induction n with
 |zero=>intro i h;unfold nC;rw [o6 (by omega)];rfl
 |succ n ih=>
  intro i h
  have hi:i<ws.length:=by omega
  unfold nC
  rw [fE,qf hi,aV,rn hi,A5]
  cases D:(ws[i]==rf up)with
  |true=>rw [bv rfl];rfl
  |false=>rw [bm (by simp),ih (i+1) (by omega)];rfl
def QY(s:cj){i:Nat}(hi:i<s.length):td s (i:Int)=some ((s[i]).toNat:Int):=by
 unfold td
 rw [fE,qf hi];rfl
def GV:E3=some Y0:=rfl
def Nq(s:cj)(hs:s.length<=1000): ∀(n i:Nat) (up:List Int),s.length<i+n->i<=s.length->up.length<=i->rf up=(s.take i).map NU->nD s n up (i:Int)=some ((s.drop i).all Sl&& !Gh (s.map NU)):=by
 intro n
 induction n with
 |zero=>intro i up h V _ _;omega
 |succ n ih=>
  intro i up h V hl hu
  unfold nD
  by_cases hi:i<s.length
  ·rw [bv (by rw [mo];omega),QY s hi,aV,rn hi,sn]
   have hw:IntKind.i64.wrap ((i:Int)+1)=((i+1:Nat):Int):=by rw [Ao];omega
   have hlt:=(s[i]).toNat_lt
   have htake:s.take (i+1)=s.take i++[s[i]]:=by rw [NF hi]
   have hok:Sl s[i]=(iX (s[i]).toNat||uO (s[i]).toNat||(s[i]).toNat==95):=rfl
   have e1:(((!((decide ((97:Int)<=((s[i]).toNat:Int)))&&(decide (((s[i]).toNat:Int)<=(122:Int)))))&&((decide (((s[i]).toNat:Int)<(48:Int)))||(decide ((57:Int)<((s[i]).toNat:Int)))))&&(((s[i]).toNat:Int) !=(95:Int)))= !Sl s[i]:=by
    rw [hok,vV]
    simp [iX,uO]
    omega
   rw [e1]
   cases ho:Sl s[i]with
   |false=>simp
   |true=>
    simp only [qg,lh,jB,vG]
    have e2:((decide ((97:Int)<=((s[i]).toNat:Int)))&&(decide (((s[i]).toNat:Int)<=(122:Int))))=iX (s[i]).toNat:=by
     rw [vV];simp [iX];omega
    rw [e2]
    cases hsm:iX (s[i]).toNat with
    |true=>
     have h97:97<=(s[i]).toNat/\(s[i]).toNat<=122:=by simpa [iX] using hsm
     have hc:IntKind.u8.wrap (((s[i]).toNat:Int)-32)=(((s[i]).toNat-32:Nat):Int):=by
      rw [IntKind.wrap_u8];omega
     rw [bv rfl,hc]
     unfold pA
     rw [dz (by simp;omega),aV,hw]
     refine ih (i+1) _ (by omega) (by omega) (by simp;omega) ?_
     rw [tz,hu,htake,EO]
     congr 1
     show rf [_]=_
     simp only [rf,pE,EH]
     congr 1
     simp [NU,hsm]
    |false=>
     rw [bm (by simp)]
     unfold pA
     rw [dz (by simp;omega),aV,hw]
     refine ih (i+1) _ (by omega) (by omega) (by simp;omega) ?_
     rw [tz,hu,htake,EO]
     congr 1
     show rf [_]=_
     simp only [rf,pE,EH]
     congr 1
     simp [NU,hsm]
  ·rw [bm (by rw [mo];omega),o6 (by omega)]
   have hi' :i=s.length:=by omega
   rw [GV,aV,Np up Y0 28 0 rfl,qh,hu,hi',AA]
   rfl
def pB(s:cj):oJ s=some (iY s):=by
 unfold oJ iY
 cases s with
 |nil=>rfl
 |cons b t=>
  by_cases hl:(b::t).length<=16
  ·rw [bv (by rw [yn,Ci,o7,o7];simp at hl ⊢;omega),Ef,aV,aV]
   have e0:(decide (1<=(b::t).length)&&decide ((b::t).length<=16)&&QZ (b::t))=iX b.toNat:=by
    rw [qi (show 1<=(b::t).length by simp),qi hl];rfl
   rw [e0]
   by_cases h97:97<=b.toNat
   ·have d1:decide ((b.toNat:Int)<(97:Int))=false:=by rw [o7];omega
    rw [d1]
    simp only [v8,i8,aV]
    by_cases h122:b.toNat<=122
    ·have d2:decide ((122:Int)<(b.toNat:Int))=false:=by rw [o7];omega
     have d3:iX b.toNat=true:=by simp [iX];omega
     rw [d2,d3]
     simp only [lh,jB,vG]
     have:=Nq (b::t) (by omega) iB 0 [] (by unfold iB;omega) (jv _) (gu _) rfl
     rw [show((0:Int))=((0:Nat):Int)from rfl,this,qh,Bool.and_comm]
    ·have d2:decide ((122:Int)<(b.toNat:Int))=true:=by rw [mo];omega
     have d3:iX b.toNat=false:=by simp [iX];omega
     rw [d2,d3];rfl
   ·have d1:decide ((b.toNat:Int)<(97:Int))=true:=by rw [mo];omega
    have d3:iX b.toNat=false:=by simp [iX];omega
    rw [d1,d3];rfl
  ·rw [bm (by rw [yn,Ci,o7,o7];omega)]
   rw [sO hl]
   simp
def kU(s:cj):Bool:=s==[]||iY s
def tW(s:cj):rL s=some (kU s):=by
 unfold rL kU
 rw [kI]
 cases (s==([]:cj))<;>rfl
def nY(s:cj):nZ s=some (kU s):=by
 unfold nZ kU
 rw [pB]
 cases (s==([]:cj))<;>rfl
def jA(s:ci):Bool:=iY s.Table&&kU s.As
def A2(s:ci):uQ s=some (jA s):=by
 unfold uQ jA
 rw [kI,tW]
 cases iY s.Table<;>rfl
def xK(s:ci):tF s=some (jA s):=by
 unfold tF jA
 rw [pB,nY]
 cases iY s.Table<;>rfl
def VX(b:UInt8):Bool:=decide (32<=b.toNat)&&decide (b.toNat<=126)
def TG(s:cj){i:Nat}(hi:i<s.length){β:Type}(x y:Option β):(((td s (i:Int)).bind fun b=>(if(!(decide (b<(32:Int))))then((td s (i:Int)).bind fun b1=>some (decide ((126:Int)<b1)))else some true).bind fun t=>if t then x else y))=if VX s[i]then y else x:=by
 rw [QY s hi]
 simp only [aV]
 unfold VX
 by_cases A:(s[i]).toNat<32
 ·have d1:decide (((s[i]).toNat:Int)<32)=true:=by rw [mo];omega
  have d2:decide (32<=(s[i]).toNat)=false:=by rw [o7];omega
  rw [d1,d2];rfl
 ·have d1:decide (((s[i]).toNat:Int)<32)=false:=by rw [o7];omega
  have d2:decide (32<=(s[i]).toNat)=true:=by rw [mo];omega
  rw [d1,d2]
  by_cases h3:(s[i]).toNat<=126
  ·have d3:decide ((126:Int)<((s[i]).toNat:Int))=false:=by rw [o7];omega
   have d4:decide ((s[i]).toNat<=126)=true:=by rw [mo];omega
   rw [d3,d4];rfl
  ·have d3:decide ((126:Int)<((s[i]).toNat:Int))=true:=by rw [mo];omega
   have d4:decide ((s[i]).toNat<=126)=false:=by rw [o7];omega
   rw [d3,d4];rfl
def NL(s:cj)(hs:s.length<=100000): ∀(n i:Nat),s.length<i+n->i<=s.length->ou s n (i:Int)=some ((s.drop i).all VX):=by
 intro n
 induction n with
 |zero=>intro i h V;omega
 |succ n ih=>
  intro i h V
  unfold ou
  by_cases hi:i<s.length
  ·have hw:IntKind.i64.wrap ((i:Int)+1)=((i+1:Nat):Int):=by rw [Ao];omega
   rw [bv (by rw [mo];omega),TG s hi,rn hi,sn,hw,ih (i+1) (by omega) (by omega)]
   cases VX s[i]<;>rfl
  ·rw [bm (by rw [mo];omega),o6 (by omega)];rfl
def zW(v:cr):Bool:=ta v&&decide (0<=v.N)
def ON(v:cr)(hs:v.S.length<=100000): ∀(n i:Nat),v.S.length<i+n->i<=v.S.length->oI v n (i:Int)=some ((v.S.drop i).all VX&&zW v):=by
 intro n
 induction n with
 |zero=>intro i h V;omega
 |succ n ih=>
  intro i h V
  unfold oI
  by_cases hi:i<v.S.length
  ·have hw:IntKind.i64.wrap ((i:Int)+1)=((i+1:Nat):Int):=by rw [Ao];omega
   rw [bv (by rw [mo];omega),TG v.S hi,rn hi,sn,hw,ih (i+1) (by omega) (by omega)]
   cases VX v.S[i]<;>rfl
  ·rw [bm (by rw [mo];omega),o6 (by omega),n6];rfl
def re(n:cx):Bool:=
 if n.Tag=1 then(n.Table==[]&&n.Name==[])&&(zW n.Value&&n.Value.S.all VX)
 else if n.Tag=2 then decide (n.Value=(⟨0,0,0,[]⟩:cr))&&(iY n.Name&&kU n.Table)
 else decide (n.Value=(⟨0,0,0,[]⟩:cr))&&(n.Table==[]&&n.Name==[])
def xU(n:cx):Prop:=n.Value.S.length<=100000
def II{n:cx}(hs:xU n):xv n=some (re n):=by
 unfold xv re
 by_cases A:n.Tag=1
 ·rw [bv (by simpa using A),bv A,yz]
  have hw:=NL n.Value.S hs iB 0 (by unfold iB xU at*;omega) (jv _)
  rw [show zw n.Value.S=some (n.Value.S.all VX)from hw]
  unfold zW
  cases (n.Table==([]:cj))<;>cases (n.Name==([]:cj))<;>cases ta n.Value<;>cases decide (0<=n.Value.N)<;>rfl
 ·rw [bm (by simpa using A),bm A]
  by_cases V:n.Tag=2
  ·rw [bv (by simpa using V),bv V,kI,tW]
   cases decide (n.Value=(⟨0,0,0,[]⟩:cr))<;>cases iY n.Name<;>rfl
  ·rw [bm (by simpa using V),bm V]
   cases decide (n.Value=(⟨0,0,0,[]⟩:cr))<;>cases (n.Table==([]:cj))<;>cases (n.Name==([]:cj))<;>rfl
def pz{n:cx}(hs:xU n):wN n=some (re n):=by
 unfold wN re
 by_cases A:n.Tag=1
 ·rw [bv (by simpa using A),bv A]
  have hw:=ON n.Value hs iB 0 (by unfold iB xU at*;omega) (jv _)
  rw [show AP n.Value=some (n.Value.S.all VX&&zW n.Value)from hw]
  cases (n.Table==([]:cj))<;>cases (n.Name==([]:cj))<;>cases zW n.Value<;>cases n.Value.S.all VX<;>rfl
 ·rw [bm (by simpa using A),bm A]
  by_cases V:n.Tag=2
  ·rw [bv (by simpa using V),bv V,pB,nY]
   cases decide (n.Value=(⟨0,0,0,[]⟩:cr))<;>cases iY n.Name<;>rfl
  ·rw [bm (by simpa using V),bm V]
   cases decide (n.Value=(⟨0,0,0,[]⟩:cr))<;>cases (n.Table==([]:cj))<;>cases (n.Name==([]:cj))<;>rfl
inductive Bt where
 |lf (n:cx)
 |un (n:cx) (a:Bt)
 |bi (n:cx) (a b:Bt)
 deriving Inhabited
def Bt.size:Bt->Nat
 | .lf _=>1
 | .un _ a=>a.size+1
 | .bi _ a b=>a.size+b.size+1
def putA(n:cx)(l r:Int):cx:={n with L:=l,R:=r}
def Bt.flat:Bt->Nat->List cx
 | .lf n,_=>[putA n (-1) (-1)]
 | .un n a,s=>a.flat s++[putA n ((s+a.size:Nat)-1) (-1)]
 | .bi n a b,s=>a.flat s++b.flat (s+a.size)++[putA n ((s+a.size:Nat)-1) ((s+a.size+b.size:Nat)-1)]
def okA(k:Nat)(n:cx):Prop:=Si n.Tag=some k/\re n=true/\n.L= -1/\n.R= -1
def Bt.wf:Bt->Prop
 | .lf n=>okA 0 n
 | .un n a=>okA 1 n/\a.wf
 | .bi n a b=>okA 2 n/\a.wf/\b.wf
def Bt.depth:Bt->Nat
 | .lf _=>1
 | .un _ a=>a.depth+1
 | .bi _ a b=>max a.depth b.depth+1
def Bt.size_pos(t:Bt):0<t.size:=by cases t<;>simp [Bt.size]
def Bt.flat_len(t:Bt): ∀s,(t.flat s).length=t.size:=by
 induction t with
 |lf n=>intro s;rfl
 |un n a ih=>intro s;simp [Bt.flat,Bt.size,ih]
 |bi n a b iha ihb=>intro s;simp [Bt.flat,Bt.size,iha,ihb];omega
def cq:List Bt->Nat
 |[]=>0
 |t::st=>cq st+t.size
def wZ:List Bt->List cx
 |[]=>[]
 |t::st=>wZ st++t.flat (cq st)
def Gv: ∀st:List Bt,st.length<=cq st
 |[]=>gu _
 |t::st=>by have:=Gv st;have:=t.size_pos;simp [cq];omega
def CI(st:List Bt)(n:cx):Option (List Bt):=
 match Si n.Tag,st with
 |some 0,st=>if re n&&n.L== -1&&n.R== -1 then some (.lf (putA n (-1) (-1))::st)else none
 |some 1,a::st=>if re n&&n.L==((cq st+a.size:Nat):Int)-1&&n.R== -1 then some (.un (putA n (-1) (-1)) a::st)else none
 |some 2,b::a::st=>if re n&&n.L==((cq st+a.size:Nat):Int)-1&&n.R==((cq st+a.size+b.size:Nat):Int)-1 then some (.bi (putA n (-1) (-1)) a b::st)else none
 |_,_=>none
def lO:List cx->List Bt->Option (List Bt)
 |[],st=>some st
 |n::ns,st=>(CI st n).bind (lO ns)
def Wc(st:List Bt):Prop:= ∀t∈st,t.wf
def zT{n:cx}{l r:Int}(h:n.L=l)(V:n.R=r):putA (putA n (-1) (-1)) l r=n:=by subst h V;rfl
def HW{n:cx}{l r:Int}:re (putA n l r)=re n:=rfl
def Ou{st st' :List Bt}{n:cx}(h:CI st n=some st')(hw:Wc st):wZ st' =wZ st++[n]/\cq st' =cq st+1/\Wc st' :=by
 unfold CI at h
 split at h
 ·rename_i k st0 hk
  split at h
  ·rename_i hc
   simp only [gQ,tg]at hc
   obtain⟨⟨A,V⟩,h3⟩:=hc
   cases h
   refine⟨?_,rfl,fun t M=>?_⟩
   ·simp only [wZ,Bt.flat]
    rw [zT V h3]
   ·rcases f7.1 M with rfl|M
    ·exact⟨hk,A,rfl,rfl⟩
    ·exact hw t M
  ·cases h
 ·rename_i k a st0 hk
  split at h
  ·rename_i hc
   simp only [gQ,tg]at hc
   obtain⟨⟨A,V⟩,h3⟩:=hc
   cases h
   refine⟨?_,by simp [cq,Bt.size];omega,fun t M=>?_⟩
   ·simp only [wZ,Bt.flat]
    rw [zT V h3,gI]
   ·rcases f7.1 M with rfl|M
    ·exact⟨⟨hk,A,rfl,rfl⟩,hw a (lg ..)⟩
    ·exact hw t (li _ M)
  ·cases h
 ·rename_i k b a st0 hk
  split at h
  ·rename_i hc
   simp only [gQ,tg]at hc
   obtain⟨⟨A,V⟩,h3⟩:=hc
   cases h
   refine⟨?_,by simp [cq,Bt.size];omega,fun t M=>?_⟩
   ·simp only [wZ,Bt.flat,cq]
    rw [zT V h3]
    simp only [gI]
   ·rcases f7.1 M with rfl|M
    ·exact⟨⟨hk,A,rfl,rfl⟩,hw a (li _ (lg ..)),hw b (lg ..)⟩
    ·exact hw t (li _ (li _ M))
  ·cases h
 ·cases h
def E7: ∀{ns:List cx} {st st' :List Bt},lO ns st=some st' ->Wc st->wZ st' =wZ st++ns/\Wc st'
 |[],st,st',h,hw=>by cases h;simp [hw]
 |n::ns,st,st',h,hw=>by
  unfold lO at h
  cases hp:CI st n with
  |none=>rw [hp]at h;cases h
  |some st1=>
   rw [hp]at h
   obtain⟨A,_,h3⟩:=Ou hp hw
   obtain⟨h4,h5⟩:=E7 (ns:=ns) h h3
   exact⟨by rw [h4,A];simp,h5⟩
def se: ∀(ns ms:List cx) (st:List Bt),lO (ns++ms) st=(lO ns st).bind (lO ms)
 |[],ms,st=>rfl
 |n::ns,ms,st=>by
  simp only [xZ,lO]
  cases CI st n with
  |none=>rfl
  |some st1=>exact se ns ms st1
def L7(t:Bt): ∀(st:List Bt),t.wf->lO (t.flat (cq st)) st=some (t::st):=by
 induction t with
 |lf n=>
  intro st ⟨A,V,h3,h4⟩
  have hn' :putA n (-1) (-1)=n:=by cases n;simp only at h3 h4;subst h3 h4;rfl
  simp only [Bt.flat,lO,CI,hn']
  rw [A]
  simp [V,h3,h4,lO,hn']
 |un n a ih=>
  intro st ⟨⟨A,V,h3,h4⟩,ha⟩
  have hn' :putA n (-1) (-1)=n:=by cases n;simp only at h3 h4;subst h3 h4;rfl
  simp only [Bt.flat]
  rw [se,ih st ha]
  simp only [aV,lO,CI]
  have e1:(putA n (((cq st+a.size:Nat):Int)-1) (-1)).Tag=n.Tag:=rfl
  rw [e1,A]
  have e2:re (putA n (((cq st+a.size:Nat):Int)-1) (-1))=true:=V
  rw [e2]
  simp only [putA,AB,Bool.and_self,i8,aV,lO]
  simp only [putA]at hn'
  rw [hn']
 |bi n a b iha ihb=>
  intro st ⟨⟨A,V,h3,h4⟩,ha,H⟩
  have hn' :putA n (-1) (-1)=n:=by cases n;simp only at h3 h4;subst h3 h4;rfl
  simp only [Bt.flat]
  rw [se,se,iha st ha]
  simp only [aV]
  have e0:cq st+a.size=cq (a::st):=rfl
  rw [e0,ihb (a::st) H]
  simp only [aV,lO,CI]
  have e1:(putA n (((cq (a::st):Nat):Int)-1) (((cq (a::st)+b.size:Nat):Int)-1)).Tag=n.Tag:=rfl
  rw [e1,A]
  have e2:re (putA n (((cq (a::st):Nat):Int)-1) (((cq (a::st)+b.size:Nat):Int)-1))=true:=V
  rw [e2]
  simp only [putA,cq,AB,Bool.and_self,i8,aV,lO]
  simp only [putA]at hn'
  rw [hn']
def Ux:List Bt->Bool
 |[t]=>decide (t.size<=300)&&decide (t.depth<=20)
 |_=>false
def yB(ns:List cx):Option Bt:=match lO ns []with
 |some [t]=>if t.size<=300/\t.depth<=20 then some t else none
 |_=>none
def ur{ns:List cx}{t:Bt}(h:yB ns=some t):t.wf/\ns=t.flat 0/\t.size<=300/\t.depth<=20:=by
 unfold yB at h
 split at h
 ·rename_i t0 hp
  split at h
  ·rename_i hl
   cases h
   obtain⟨A,V⟩:=E7 hp (fun t M=>by cases M)
   simp only [wZ,cq,pe]at A
   exact⟨V t (lg ..),A.symm,hl⟩
  ·cases h
 ·cases h
def Gm{t:Bt}(h:t.wf)(hs:t.size<=300)(hd:t.depth<=20):yB (t.flat 0)=some t:=by
 unfold yB
 have h0:=L7 t [] h
 simp only [cq]at h0
 rw [h0]
 simp only [hs,hd,and_self,i8]
end Go.Proofs.YtigldkegamffhaaGreatDoor


/- de of this claim: B4. -/
set_option linter.all false
namespace Go.Proofs.YtigldkegamffhaaGreatDoor
open Go

def PG:Bt->Nat->List kZ
 | .lf _,s=>[⟨(s:Int),1⟩]
 | .un _ a,s=>PG a s++[⟨(s:Int),((a.depth+1:Nat):Int)⟩]
 | .bi _ a b,s=>PG a s++PG b (s+a.size)++[⟨(s:Int),((max a.depth b.depth+1:Nat):Int)⟩]
def Dg:List Bt->List kZ
 |[]=>[]
 |t::st=>Dg st++PG t (cq st)
def m7:List Bt->List Int
 |[]=>[]
 |t::st=>m7 st++[((cq st+t.size:Nat):Int)-1]
def tS(t:Bt): ∀s,(PG t s).length=t.size:=by
 induction t with
 |lf n=>intro s;rfl
 |un n a ih=>intro s;simp [PG,Bt.size,ih]
 |bi n a b iha ihb=>intro s;simp [PG,Bt.size,iha,ihb];omega
def sH: ∀st:List Bt,(Dg st).length=cq st
 |[]=>rfl
 |t::st=>by simp [Dg,cq,sH st,tS]
def ea: ∀st:List Bt,(m7 st).length=st.length
 |[]=>rfl
 |t::st=>by simp [m7,ea st]
def Bt.depth_size(t:Bt):t.depth<=t.size:=by
 induction t with
 |lf n=>exact gu _
 |un n a ih=>simp [Bt.size,Bt.depth,ih]
 |bi n a b iha ihb=>simp [Bt.size,Bt.depth];omega
def VD(t:Bt)(s:Nat):(PG t s)[t.size-1]? =some ⟨(s:Int),(t.depth:Int)⟩:=by
 cases t with
 |lf n=>rfl
 |un n a=>simp only [PG,Bt.size];rw [vZ (by rw [tS];omega),tS];simp [Bt.depth]
 |bi n a b=>simp only [PG,Bt.size];rw [vZ (by simp [tS]),gA,tS,tS];simp [Bt.depth]
def Ae(t:Bt)(st:List Bt)(rest:List kZ):(Dg st++PG t (cq st)++rest)[cq st+t.size-1]? =some ⟨(cq st:Int),(t.depth:Int)⟩:=by
 have:=t.size_pos
 rw [Cf (by rw [gA,sH,tS];omega),vZ (by rw [sH];omega),sH,show cq st+t.size-1-cq st=t.size-1 from by omega]
 exact VD t _
def Z7{β:Type}(a b l r:Int)(x y:Option β):((ep [a,b] (0:Int)).bind fun e2=>(if(!(l !=e2))then((ep [a,b] (1:Int)).bind fun e3=>some (r !=e3))else some true).bind fun t3=>if t3 then x else y)=if(l==a&&r==b)then y else x:=by
 have h0:ep [a,b] (0:Int)=some a:=rfl
 have A:ep [a,b] (1:Int)=some b:=rfl
 rw [h0,A]
 simp only [aV]
 by_cases hl:l=a
 ·subst hl
  simp only [bne_self_eq_false,v8,i8,aV,AB,vG]
  by_cases hr:r=b
  ·subst hr;simp
  ·have:(r==b)=false:=by simpa using hr
   simp [bne,this]
 ·have:(l==a)=false:=by simpa using hl
  simp [bne,this]
def Mz: ∀(ns:List cx) (st:List Bt),(∀n∈ns,xU n)->cq st+ns.length<=100000->nw ns (cq st) (Dg st) (m7 st)=some (match lO ns st with
   |some st' =>(Dg st',Ux st')
   |none=>([],false)):=by
 intro ns
 induction ns with
 |nil=>
  intro st _ _
  simp only [nw,lO,ea,sH]
  match st with
  |[]=>rfl
  |[t]=>
   have hp:=t.size_pos
   have hl:=Ae t [] []
   simp only [Dg,cq,Ca,pe,rj]at hl ⊢
   have e1:(((([t]:List Bt).length:Nat):Int)==(1:Int))=true:=rfl
   rw [e1]
   simp only [Ux,vG]
   by_cases hs:t.size<=300
   ·rw [bv (by rw [mo];omega),jz (t.size-1) (by rw [dP (by omega) (by omega)];omega),hl]
    simp only [aV]
    rw [qi hs,vG]
    congr 2
    rw [Ap];omega
   ·rw [bm (by rw [mo];omega),sO hs];rfl
  |a::b::st=>
   have e1:((((a::b::st).length:Nat):Int)==(1:Int))=false:=by simp;omega
   rw [e1];rfl
 |cons n ns ih=>
  intro st hS hs
  have hSn:=hS n (lg ..)
  have ih:=fun st=>ih st (fun m hm=>hS m (li _ hm))
  simp only [iZ]at hs
  have hll:=Gv st
  unfold nw
  rw [Dk]
  simp only [aV,ea,II hSn]
  unfold lO
  unfold CI
  -- the parts
  cases hk:Si n.Tag with
  |none=>
   have e:yV n.Tag= -1:=by unfold yV;rw [hk]
   simp [e]
  |some k=>
   have e:yV n.Tag=(k:Int):=by unfold yV;rw [hk]
   have hk3:k=0\/k=1\/k=2:=by
    unfold Si at hk
    repeat' split at hk
    all_goals simp at hk
    all_goals omega
   rw [e]
   rcases hk3 with rfl|rfl|rfl
   ·-- none
    simp only []
    have c1:(decide (((0:Nat):Int)<0)||decide ((st.length:Int)<((0:Nat):Int)))=false:=by simp
    simp only [c1,v8,i8,aV]
    cases hc:re n with
    |false=>simp
    |true=>
     simp only [qg,lh,jB,vG]
     rw [j7 st.length st.length (by rw [dP (by omega) (by omega)];omega) rfl (gu _) (by rw [ea];exact gu _)]
     have hd:(List.take st.length (m7 st)).drop st.length=[]:=o6 (by simp;omega)
     rw [hd,aV,show vB [(-1:Int),-1] []=[-1,-1]from rfl,Z7]
     cases H:(n.L== -1&&n.R== -1)with
     |false=>simp
     |true=>
      simp only [i8,oV]
      rw [dz (by simp only [iZ,rk,sH];omega)]
      simp only [aV]
      rw [j7 (i:=0) 0 st.length rfl (by rw [ea,dP (by omega) (by omega)];omega) (jv _) (by rw [ea];exact gu _)]
      rw [oB (by rw [ea];exact gu _),qh]
      simp only [aV]
      rw [dz (by simp only [iZ,rk,ea];omega)]
      simp only [aV]
      have V:=ih (.lf (putA n (-1) (-1))::st) (by simp [cq,Bt.size];omega)
      simp only [cq,Bt.size,Dg,PG,m7]at V
      rw [show(((cq st+1:Nat):Int)-1)=(cq st:Int)from by omega]at V
      exact V
   ·-- one
    cases st with
    |nil=>simp
    |cons a st=>
     simp only []
     have c1:(decide (((1:Nat):Int)<0)||decide (((a::st).length:Int)<((1:Nat):Int)))=false:=by simp;omega
     simp only [c1,v8,i8,aV]
     cases hc:re n with
     |false=>simp
     |true=>
      simp only [qg,lh,jB,vG]
      simp only [iZ]at hll ⊢
      simp only [cq]at hs hll
      have hap:=a.size_pos
      have hdp:=a.depth_size
      rw [j7 st.length (st.length+1) (by rw [dP (by omega) (by omega)];omega) (by omega) (by omega) (by rw [ea];exact gu _)]
      have hd:(List.take (st.length+1) (m7 (a::st))).drop st.length=[((cq st+a.size:Nat):Int)-1]:=by
       rw [oB (by rw [ea];exact gu _)]
       simp only [m7]
       rw [ND (by rw [ea];exact gu _),o6 (by rw [ea];exact gu _),pe]
      rw [hd,aV,show vB [(-1:Int),-1] [((cq st+a.size:Nat):Int)-1]=[((cq st+a.size:Nat):Int)-1,-1]from rfl,Z7]
      cases H:(n.L==((cq st+a.size:Nat):Int)-1&&n.R== -1)with
      |false=>simp
      |true=>
       simp only [i8,oV]
       rw [jz (cq st+a.size-1) (by omega)]
       have hf:=Ae a st []
       rw [Ca]at hf
       simp only [Dg]
       rw [hf]
       simp only [aV]
       rw [dz (by simp only [iZ,rk,gA,sH,tS];omega)]
       simp only [aV]
       rw [j7 (i:=0) 0 st.length rfl (by rw [ea,dP (by simp<;>omega) (by simp<;>omega)];simp) (jv _) (by rw [ea];simp)]
       have M:(List.take st.length (m7 (a::st))).drop 0=m7 st:=by
        simp only [m7,qh]
        rw [yc (by rw [ea];exact gu _),oB (by rw [ea];exact gu _)]
       rw [M]
       simp only [aV]
       rw [dz (by simp only [iZ,rk,ea];omega)]
       simp only [aV]
       have V:=ih (.un (putA n (-1) (-1)) a::st) (by simp [cq,Bt.size];omega)
       simp only [cq,Bt.size,Dg,PG,m7]at V
       rw [show(((cq st+(a.size+1):Nat):Int)-1)=((cq st+a.size:Nat):Int)from by omega]at V
       have hm:min ((cq (a::st):Nat):Int) (cq st:Int)=(cq st:Int):=by simp only [cq];omega
       have D:max (1:Int) (IntKind.i64.wrap ((a.depth:Int)+1))=((a.depth+1:Nat):Int):=by rw [dP (by omega) (by omega)];omega
       rw [hm,D]
       simp only [gI]at V ⊢
       exact V
   ·-- two
    cases st with
    |nil=>simp
    |cons b st=>
     cases st with
     |nil=>simp
     |cons a st=>
      simp only []
      have c1:(decide (((2:Nat):Int)<0)||decide (((b::a::st).length:Int)<((2:Nat):Int)))=false:=by simp;omega
      simp only [c1,v8,i8,aV]
      cases hc:re n with
      |false=>simp
      |true=>
       simp only [qg,lh,jB,vG]
       simp only [iZ]at hll ⊢
       simp only [cq]at hs hll
       have hap:=a.size_pos
       have hbp:=b.size_pos
       have hda:=a.depth_size
       have hdb:=b.depth_size
       rw [j7 st.length (st.length+1+1) (by rw [dP (by omega) (by omega)];omega) (by omega) (by omega) (by rw [ea];exact gu _)]
       have hd:(List.take (st.length+1+1) (m7 (b::a::st))).drop st.length=[((cq st+a.size:Nat):Int)-1,((cq st+a.size+b.size:Nat):Int)-1]:=by
        rw [oB (by rw [ea];exact gu _)]
        simp only [m7,cq,gI]
        rw [ND (by rw [ea];exact gu _),o6 (by rw [ea];exact gu _),pe]
        rfl
       rw [hd,aV,show vB [(-1:Int),-1] [((cq st+a.size:Nat):Int)-1,((cq st+a.size+b.size:Nat):Int)-1]=[((cq st+a.size:Nat):Int)-1,((cq st+a.size+b.size:Nat):Int)-1]from rfl,Z7]
       cases H:(n.L==((cq st+a.size:Nat):Int)-1&&n.R==((cq st+a.size+b.size:Nat):Int)-1)with
       |false=>simp
       |true=>
        simp only [i8,oV]
        simp only [Dg,cq]
        rw [jz (cq st+a.size-1) (by omega)]
        rw [Ae a st (PG b (cq st+a.size))]
        simp only [aV]
        rw [jz (cq st+a.size+b.size-1) (by omega)]
        have hf:=Ae b (a::st) []
        rw [Ca]at hf
        simp only [Dg,cq]at hf
        rw [hf]
        simp only [aV]
        rw [dz (by simp only [iZ,rk,gA,sH,tS];omega)]
        simp only [aV]
        rw [j7 (i:=0) 0 st.length rfl (by rw [ea,dP (by simp;omega) (by simp;omega)];simp;omega) (jv _) (by rw [ea];simp;omega)]
        have M:(List.take st.length (m7 (b::a::st))).drop 0=m7 st:=by
         simp only [m7,qh,gI]
         rw [yc (by rw [ea];exact gu _),oB (by rw [ea];exact gu _)]
        rw [M]
        simp only [aV]
        rw [dz (by simp only [iZ,rk,ea];omega)]
        simp only [aV]
        have V:=ih (.bi (putA n (-1) (-1)) a b::st) (by simp [cq,Bt.size];omega)
        simp only [cq,Bt.size,Dg,PG,m7]at V
        rw [show(((cq st+(a.size+b.size+1):Nat):Int)-1)=((cq st+a.size+b.size:Nat):Int)from by omega,show cq st+(a.size+b.size+1)=cq st+a.size+b.size+1 from by omega]at V
        have hm:min (min (((cq st+a.size+b.size:Nat)):Int) (cq st:Int)) ((cq st+a.size:Nat):Int)=(cq st:Int):=by omega
        have D:max (max (1:Int) (IntKind.i64.wrap ((a.depth:Int)+1))) (IntKind.i64.wrap ((b.depth:Int)+1))=((max a.depth b.depth+1:Nat):Int):=by rw [dP (by omega) (by omega),dP (by omega) (by omega)];omega
        rw [hm,D]
        simp only [gI]at V ⊢
        exact V
def jT(ns:List cx):Bool:=(yB ns).isSome
def TJ(ns:List cx):jT ns=(match lO ns []with
  |some st=>Ux st
  |none=>false):=by
 unfold jT yB
 cases hp:lO ns []with
 |none=>rfl
 |some st=>
  match st with
  |[]=>rfl
  |[t]=>by_cases A:t.size<=300<;>by_cases V:t.depth<=20<;>simp [Ux,A,V]
  |t::t2::st=>rfl
def Il(t:bT)(hS: ∀n∈t.Nodes,xU n)(h:t.Nodes.length<=100000):sm t=some (if jT t.Nodes then 0 else 180):=by
 unfold sm Ez
 have:=Mz t.Nodes [] hS (by simpa [cq] using h)
 simp only [cq,Dg,m7]at this
 rw [this,TJ]
 cases hp:lO t.Nodes []with
 |none=>rfl
 |some st=>cases ho:Ux st<;>simp [ho]
end Go.Proofs.YtigldkegamffhaaGreatDoor


/- de of this claim: B5. -/
set_option linter.all false
namespace Go.Proofs.YtigldkegamffhaaGreatDoor
open Go

def XI(t:Bt):t.wf-> ∀(P R N:List cx) (fu:Nat),(∀x∈N,xU x)->N=P++t.flat P.length++R->t.size<=fu->N.length<=100000->jQ fu ⟨N⟩ (((P.length+t.size:Nat):Int)-1)=some ((t.size:Int),(t.depth:Int)):=by
 induction t with
 |lf n=>
  intro⟨A,V,h3,h4⟩ P R N fu hS hN hf hl
  have hNl:=congrArg List.length hN
  simp only [gA,Bt.flat_len]at hNl
  simp only [Bt.size]at hf hNl ⊢
  obtain⟨fu,rfl⟩: ∃k,fu=k+1:=⟨fu-1,by omega⟩
  unfold jQ
  have D:N[P.length]? =some (putA n (-1) (-1)):=by
   rw [hN,gI,vZ (gu _),EL];rfl
  rw [bm (by simp;omega),jz P.length (by omega),D]
  have hsx:=hS _ (sR D)
  have e1:(putA n (-1) (-1)).Tag=n.Tag:=rfl
  simp only [aV]
  rw [e1,qD]
  have e:yV n.Tag=0:=by unfold yV;rw [A];rfl
  simp only [e,aV,pz hsx]
  have e2:re (putA n (-1) (-1))=true:=V
  rw [e2]
  simp [putA,Bt.depth]
 |un n a ih=>
  intro⟨⟨A,V,h3,h4⟩,ha⟩ P R N fu hS hN hf hl
  obtain⟨m,hm⟩: ∃m,m=putA n (((P.length+a.size:Nat):Int)-1) (-1):=⟨_,rfl⟩
  have hNl:=congrArg List.length hN
  simp only [gA,Bt.flat_len]at hNl
  simp only [Bt.size]at hf hNl ⊢
  simp only [Bt.flat,<-hm]at hN
  obtain⟨fu,rfl⟩: ∃k,fu=k+1:=⟨fu-1,by omega⟩
  have hpos:=a.size_pos
  have hi:=ih ha P ([m]++R) N fu hS (by rw [hN];simp only [gI]) (by omega) hl
  unfold jQ
  have D:N[P.length+a.size]? =some m:=by
   rw [hN,gI,gI,<-gI P,vZ (by simp [a.flat_len])]
   simp [a.flat_len]
  rw [bm (by simp;omega),jz (P.length+a.size) (by omega),D]
  have hsx:=hS _ (sR D)
  simp only [aV]
  have e1:m.Tag=n.Tag:=by rw [hm];rfl
  rw [e1,qD]
  have e:yV n.Tag=1:=by unfold yV;rw [A];rfl
  simp only [e,aV,pz hsx]
  have e2:re m=true:=by rw [hm];exact V
  have eL:m.L=((P.length+a.size:Nat):Int)-1:=by rw [hm];rfl
  have eR:m.R= -1:=by rw [hm];rfl
  rw [dP (n:=((P.length+(a.size+1):Nat):Int)-1-1) (by omega) (by omega),show(((P.length+(a.size+1):Nat):Int)-1-1)=(((P.length+a.size:Nat):Int)-1)from by omega]
  rw [hi]
  simp only [aV]
  have hda:=a.depth_size
  rw [dP (n:=(a.size:Int)+1) (by omega) (by omega),dP (n:=(a.depth:Int)+1) (by omega) (by omega)]
  have n1: ¬a.size=0:=by omega
  simp [e2,eL,eR,n1,Bt.depth]
 |bi n a b iha ihb=>
  intro⟨⟨A,V,h3,h4⟩,ha,H⟩ P R N fu hS hN hf hl
  obtain⟨m,hm⟩: ∃m,m=putA n (((P.length+a.size:Nat):Int)-1) (((P.length+a.size+b.size:Nat):Int)-1):=⟨_,rfl⟩
  have hNl:=congrArg List.length hN
  simp only [gA,Bt.flat_len]at hNl
  simp only [Bt.size]at hf hNl ⊢
  simp only [Bt.flat,<-hm]at hN
  obtain⟨fu,rfl⟩: ∃k,fu=k+1:=⟨fu-1,by omega⟩
  have hap:=a.size_pos
  have hbp:=b.size_pos
  have hi1:=iha ha P (b.flat (P.length+a.size)++[m]++R) N fu hS (by rw [hN];simp only [gI]) (by omega) hl
  have hi2:=ihb H (P++a.flat P.length) ([m]++R) N fu hS (by rw [hN];simp only [gI,gA,a.flat_len]) (by omega) hl
  rw [gA,a.flat_len]at hi2
  unfold jQ
  have D:N[P.length+a.size+b.size]? =some m:=by
   rw [hN,gI,gI,<-gI P,vZ (by simp [a.flat_len,b.flat_len];omega)]
   have:P.length+a.size+b.size-(P++(a.flat P.length++b.flat (P.length+a.size))).length=0:=by simp [a.flat_len,b.flat_len];omega
   rw [this];rfl
  rw [bm (by simp;omega),jz (P.length+a.size+b.size) (by omega),D]
  have hsx:=hS _ (sR D)
  simp only [aV]
  have e1:m.Tag=n.Tag:=by rw [hm];rfl
  rw [e1,qD]
  have e:yV n.Tag=2:=by unfold yV;rw [A];rfl
  simp only [e,aV,pz hsx]
  have e2:re m=true:=by rw [hm];exact V
  have eL:m.L=((P.length+a.size:Nat):Int)-1:=by rw [hm];rfl
  have eR:m.R=((P.length+a.size+b.size:Nat):Int)-1:=by rw [hm];rfl
  rw [dP (n:=((P.length+(a.size+b.size+1):Nat):Int)-1-1) (by omega) (by omega),show(((P.length+(a.size+b.size+1):Nat):Int)-1-1)=(((P.length+a.size+b.size:Nat):Int)-1)from by omega]
  rw [hi2]
  simp only [aV]
  rw [dP (n:=((P.length+a.size+b.size:Nat):Int)-1-(b.size:Int)) (by omega) (by omega),show((P.length+a.size+b.size:Nat):Int)-1-(b.size:Int)=((P.length+a.size:Nat):Int)-1 from by omega]
  rw [hi1]
  simp only [aV]
  have hda:=a.depth_size
  have hdb:=b.depth_size
  rw [dP (n:=(b.size:Int)+(a.size:Int)) (by omega) (by omega),dP (n:=(b.size:Int)+(a.size:Int)+1) (by omega) (by omega),dP (n:=max (b.depth:Int) (a.depth:Int)+1) (by omega) (by omega)]
  have n1: ¬a.size=0:=by omega
  have n2: ¬b.size=0:=by omega
  have e5:(P.length:Int)+(a.size:Int)+(b.size:Int)-1-(b.size:Int)=(P.length:Int)+(a.size:Int)-1:=by omega
  simp [e2,eL,eR,n1,n2,e5,Bt.depth]
  omega
def XJ(N:List cx)(hS: ∀x∈N,xU x)(hN:N.length<=100000): ∀(fu q:Nat),q<=N.length->q<fu-> ∃k aN:Nat,jQ fu ⟨N⟩ ((q:Int)-1)=some ((k:Int),(aN:Int))/\(k=0\/ ∃(t:Bt) (P R:List cx),t.wf/\(t.size=k/\t.depth=aN)/\N=P++t.flat P.length++R/\P.length+k=q):=by
 intro fu
 induction fu with
 |zero=>intro q _ h;omega
 |succ fu ih=>
  intro q hq hf
  unfold jQ
  by_cases h0:q=0
  ·subst h0
   exact⟨0,0,by rw [bv (by simp)];rfl,.inl rfl⟩
  rw [bm (by simp;omega),jz (q-1) (by omega)]
  have hlt:q-1<N.length:=by omega
  rw [qf hlt]
  obtain⟨n,hn⟩: ∃n,n=N[q-1]:=⟨_,rfl⟩
  rw [<-hn]
  have hsn:xU n:=by rw [hn];exact hS _ (Ch ..)
  have hd:N=N.take (q-1)++([n]++N.drop q):=by
   have A:=ra (q-1) N
   rw [rn hlt,<-hn,show q-1+1=q from by omega]at A
   exact A.symm
  simp only [aV,qD,pz hsn]
  cases hk:Si n.Tag with
  |none=>
   have e:yV n.Tag= -1:=by unfold yV;rw [hk]
   exact⟨0,0,by simp [e],.inl rfl⟩
  |some k=>
   have e:yV n.Tag=(k:Int):=by unfold yV;rw [hk]
   have hk3:k=0\/k=1\/k=2:=by
    unfold Si at hk
    repeat' split at hk
    all_goals simp at hk
    all_goals omega
   cases hc:re n with
   |false=>exact⟨0,0,by simp [e,hc],.inl rfl⟩
   |true=>
    rcases hk3 with rfl|rfl|rfl
    ·rw [e]
     by_cases hL:n.L= -1/\n.R= -1
     ·refine⟨1,1,by simp [hL],.inr ⟨.lf (putA n (-1) (-1)),N.take (q-1),N.drop q,⟨hk,hc,rfl,rfl⟩,⟨rfl,rfl⟩,?_,by simp;omega⟩⟩
      simp only [Bt.flat]
      rw [zT hL.1 hL.2,gI]
      exact hd
     ·refine⟨0,0,?_,.inl rfl⟩
      have:(n.L != -1||n.R != -1)=true:=by
       rw [xY,su,su]
       by_cases hl:n.L= -1
       ·exact .inr fun h=>hL ⟨hl,h⟩
       ·exact .inl hl
      simp [this]
    ·rw [e,dP (by omega) (by omega)]
     have e9:(((q-1:Nat):Int)-1)=(q:Int)-1-1:=by omega
     obtain⟨r2,d2,V,h2'⟩:=ih (q-1) (by omega) (by omega)
     rw [e9]at V
     rw [V]
     rcases h2' with rfl|⟨t,P,R,hw,⟨hs,hds⟩,hN2,hl⟩
     ·exact⟨0,0,by simp,.inl rfl⟩
     ·have hp:=t.size_pos
      by_cases hL:n.L=(q:Int)-1-1/\n.R= -1
      ·refine⟨r2+1,d2+1,?_,.inr ⟨.un (putA n (-1) (-1)) t,P,N.drop q,⟨⟨hk,hc,rfl,rfl⟩,hw⟩,⟨by simp only [Bt.size];omega,by simp only [Bt.depth];omega⟩,?_,by omega⟩⟩
       ·simp only [aV]
        have hdt:=t.depth_size
        rw [dP (n:=(r2:Int)+1) (by omega) (by omega),dP (n:=(d2:Int)+1) (by omega) (by omega)]
        have: ¬(r2=0):=by omega
        simp [hL,this]
       ·simp only [Bt.flat]
        rw [zT (by rw [hL.1];omega) hL.2]
        have M:N.take (q-1)=P++t.flat P.length:=by
         rw [hN2,yc (by simp [t.flat_len];omega),oB (by simp [t.flat_len];omega)]
        rw [M]at hd
        simpa only [gI] using hd
      ·refine⟨0,0,?_,.inl rfl⟩
       have:(n.L !=(q:Int)-1-1||n.R != -1)=true:=by
        rw [xY,su,su]
        by_cases hl:n.L=(q:Int)-1-1
        ·exact .inr fun h=>hL ⟨hl,h⟩
        ·exact .inl hl
       simp [this]
    ·rw [e,dP (n:=(q:Int)-1-1) (by omega) (by omega)]
     have e9:(((q-1:Nat):Int)-1)=(q:Int)-1-1:=by omega
     obtain⟨r2,d2,V,h2'⟩:=ih (q-1) (by omega) (by omega)
     rw [e9]at V
     rw [V]
     rcases h2' with rfl|⟨t,P,R,hw,⟨hs,hds⟩,hN2,hl⟩
     ·exact⟨0,0,by simp,.inl rfl⟩
     ·have hp:=t.size_pos
      simp only [aV]
      rw [dP (n:=(q:Int)-1-1-(r2:Int)) (by omega) (by omega)]
      have e8:(((q-1-r2:Nat):Int)-1)=(q:Int)-1-1-(r2:Int):=by omega
      have n2: ¬(r2=0):=by omega
      obtain⟨r3,d3,h3,h3'⟩:=ih (q-1-r2) (by omega) (by omega)
      rw [e8]at h3
      rw [h3]
      rcases h3' with rfl|⟨t3,P3,R3,hw3,⟨hs3,hds3⟩,hN3,hl3⟩
      ·exact⟨0,0,by simp,.inl rfl⟩
      ·have hp3:=t3.size_pos
       have n3: ¬(r3=0):=by omega
       by_cases hL:n.R=(q:Int)-1-1/\n.L=(q:Int)-1-1-(r2:Int)
       ·refine⟨r3+r2+1,max d3 d2+1,?_,.inr ⟨.bi (putA n (-1) (-1)) t3 t,P3,N.drop q,⟨⟨hk,hc,rfl,rfl⟩,hw3,hw⟩,⟨by simp only [Bt.size];omega,by simp only [Bt.depth];omega⟩,?_,by omega⟩⟩
        ·simp only [aV]
         have hdt:=t.depth_size
         have hdt3:=t3.depth_size
         rw [dP (n:=(r2:Int)+(r3:Int)) (by omega) (by omega),dP (n:=(r2:Int)+(r3:Int)+1) (by omega) (by omega),dP (n:=max (d2:Int) (d3:Int)+1) (by omega) (by omega)]
         simp [hL,n2,n3]
         omega
        ·simp only [Bt.flat]
         rw [zT (by rw [hL.2];omega) (by rw [hL.1];omega)]
         have M:N.take (q-1)=P++t.flat P.length:=by
          rw [hN2,yc (by simp [t.flat_len];omega),oB (by simp [t.flat_len];omega)]
         have hP:P=N.take P.length:=by
          conv=>rhs;rw [hN2,gI,yc (gu _),oB (gu _)]
         have hP3:P=P3++t3.flat P3.length:=by
          rw [hP]
          have:P.length=P3.length+t3.size:=by omega
          conv=>lhs;rw [this,hN3]
          rw [yc (by simp [t3.flat_len]),oB (by simp [t3.flat_len])]
         have hPl:P.length=P3.length+t3.size:=by omega
         rw [M,hPl]at hd
         rw [hP3]at hd
         simpa only [gI] using hd
       ·clear ih hN2 hN3
        refine⟨0,0,?_,.inl rfl⟩
        have:(n.R !=(q:Int)-1-1||n.L !=(q:Int)-1-1-(r2:Int))=true:=by
         rw [xY,su,su]
         by_cases hl:n.R=(q:Int)-1-1
         ·exact .inr fun h=>hL ⟨hl,h⟩
         ·exact .inl hl
        have h' :=this
        rw [xY,su,su]at h'
        simp [n2,n3]
        intro A V
        exact absurd V (by rcases h' with h' |h';exact absurd A h';exact h')
def uS(t:bT)(hS: ∀n∈t.Nodes,xU n):nB t=some (jT t.Nodes):=by
 unfold nB jT
 by_cases h:1<=t.Nodes.length/\t.Nodes.length<=300
 ·rw [bm (by simp;omega),dP (by omega) (by omega)]
  unfold GW
  obtain⟨k,aN,A,V⟩:=XJ t.Nodes hS (by omega) iB t.Nodes.length (gu _) (IR (Nat.lt_succ_self _) (z6 (by omega)))
  have h1' :jQ iB t ((t.Nodes.length:Int)-1)=some ((k:Int),(aN:Int)):=A
  rw [h1']
  simp only [aV]
  congr 1
  rw [vV]
  constructor
  ·intro hk
   rw [gQ,mo]at hk
   have hk' :k=t.Nodes.length:=by have:=eq_of_beq hk.1;omega
   rcases V with rfl|⟨a,P,R,hw,⟨hs,hd⟩,hN,hl⟩
   ·omega
   ·have hP:P=[]:=wA (by omega)
    subst hP
    have hR:R=[]:=by
     have:=congrArg List.length hN
     simp [a.flat_len]at this
     exact wA (by omega)
    subst hR
    have hN' :t.Nodes=a.flat 0:=by simpa using hN
    rw [hN',Gm hw (by omega) (by omega)];rfl
  ·intro hi
   cases M:yB t.Nodes with
   |none=>rw [M]at hi;cases hi
   |some a=>
    obtain⟨hw,hN,hs,hd⟩:=ur M
    have hlen:t.Nodes.length=a.size:=by rw [hN,a.flat_len]
    have h3:=XI a hw [] [] t.Nodes iB hS (by simpa using hN) (z6 (by omega)) (by omega)
    simp only [rk,rj]at h3
    rw [<-hlen]at h3
    have h4:some ((k:Int),(aN:Int))=some ((t.Nodes.length:Int),(a.depth:Int)):=A.symm.trans h3
    simp only [yv,EM]at h4
    rw [gQ,mo,tg]
    omega
 ·rw [bv (by simp;omega)]
  congr 1
  symm
  rw [IQ]
  intro hi
  cases M:yB t.Nodes with
  |none=>rw [M]at hi;cases hi
  |some a=>
   obtain⟨hw,hN,hs,hd⟩:=ur M
   have hlen:t.Nodes.length=a.size:=by rw [hN,a.flat_len]
   have:=a.size_pos
   omega
end Go.Proofs.YtigldkegamffhaaGreatDoor


/- de of this claim: B6. -/
set_option linter.all false
namespace Go.Proofs.YtigldkegamffhaaGreatDoor
open Go

def tk(t:bT):Prop:=t.Nodes.length<=1000/\ ∀n∈t.Nodes,xU n
def zI{t:bT}(h:tk t):uf [t]=some (jT t.Nodes):=by
 have A:vD t=some (!jT t.Nodes):=by
  unfold vD
  rw [Il t h.2 (by have:=h.1;omega),aV]
  cases jT t.Nodes<;>rfl
 unfold uf hM iH
 simp only [fy,A,aV]
 cases jT t.Nodes<;>rfl
def lA(t:bT):Bool:=decide (t.Nodes.length=0)||jT t.Nodes
def X1(t:bT):(((t.Nodes.length:Nat):Int)==(0:Int))=decide (t.Nodes.length=0):=by
 rw [vV];simp
def AO{t:bT}(h:tk t):wM t=some (lA t):=by
 unfold wM lA
 rw [X1,uS t h.2]
 cases decide (t.Nodes.length=0)<;>rfl
structure Dn(s:ae):Prop where
 items: ∀x∈s.Items,tk x.Tree
 joins: ∀x∈s.Joins,tk x.On
 where_:tk s.Where
 having:tk s.Having
def uK(x:ev):Bool:=jT x.Tree.Nodes&&kU x.As
def xN(x:g9):Bool:=jT x.On.Nodes&&jA x.Source
def UB(x:gk):Bool:=iY x.Name&&kU x.Table
def Ix(s:ae):Bool:=(s.Star==decide (s.Items.length=0))&&(decide (s.Items.length<=6)&&(decide (s.Joins.length<=2)&&decide (s.Group.length<=3)))
def u4(s:ae):Bool:=Ix s&&(jA s.From&&(s.Items.all uK&&(s.Joins.all xN&&(s.Group.all UB&&(lA s.Where&&lA s.Having)))))
def YE{s:ae}(h:Dn s)(ok:Bool):ow s 2 0 ok=some (ok&&(lA s.Where&&lA s.Having)):=by
 have i0:ep [s.Where,s.Having] ((0:Nat):Int)=some s.Where:=rfl
 have i1:ep [s.Where,s.Having] ((0+1:Nat):Int)=some s.Having:=rfl
 simp only [ow,i0,i1,aV,zI h.where_,zI h.having,X1]
 unfold lA
 cases ok<;>cases decide (s.Where.Nodes.length=0)<;>cases jT s.Where.Nodes<;>cases decide (s.Having.Nodes.length=0)<;>rfl
def T8{s:ae}(h:Dn s): ∀(l:List gk) (ok:Bool),mO s l ok=some (ok&&(l.all UB&&(lA s.Where&&lA s.Having)))
 |[],ok=>by unfold mO;rw [YE h];rfl
 |x::l,ok=>by
  unfold mO
  rw [kI,tW,sn]
  have e:UB x=(iY x.Name&&kU x.Table):=rfl
  rw [e]
  cases ok<;>cases iY x.Name<;>cases kU x.Table<;>simp [T8 h l]
def T9{s:ae}(h:Dn s): ∀(l:List g9) (ok:Bool),(∀x∈l,tk x.On)->mP s l ok=some (ok&&(l.all xN&&(s.Group.all UB&&(lA s.Where&&lA s.Having))))
 |[],ok,_=>by unfold mP;rw [T8 h];rfl
 |x::l,ok,hl=>by
  unfold mP
  have ih:=fun ok=>T9 h l ok (fun y hy=>hl y (li _ hy))
  rw [zI (hl x (lg ..)),A2,sn]
  have e:xN x=(jT x.On.Nodes&&jA x.Source):=rfl
  rw [e]
  cases ok<;>cases jT x.On.Nodes<;>cases jA x.Source<;>simp [ih]
def Ua{s:ae}(h:Dn s): ∀(l:List ev) (ok:Bool),(∀x∈l,tk x.Tree)->mQ s l ok=some (ok&&(l.all uK&&(s.Joins.all xN&&(s.Group.all UB&&(lA s.Where&&lA s.Having)))))
 |[],ok,_=>by unfold mQ;rw [T9 h _ _ h.joins];rfl
 |x::l,ok,hl=>by
  unfold mQ
  have ih:=fun ok=>Ua h l ok (fun y hy=>hl y (li _ hy))
  rw [zI (hl x (lg ..)),tW,sn]
  have e:uK x=(jT x.Tree.Nodes&&kU x.As):=rfl
  rw [e]
  cases ok<;>cases jT x.Tree.Nodes<;>cases kU x.As<;>simp [ih]
def I7(s:ae):((((s.Star !=((s.Items.length:Int)==(0:Int)))||(decide ((6:Int)<(s.Items.length:Int))))||(decide ((2:Int)<(s.Joins.length:Int))))||(decide ((3:Int)<(s.Group.length:Int))))= !Ix s:=by
 have e0:((s.Items.length:Int)==(0:Int))=decide (s.Items.length=0):=by rw [vV];simp
 have e1:decide ((6:Int)<(s.Items.length:Int))= !decide (s.Items.length<=6):=by rw [vV];simp;omega
 have e2:decide ((2:Int)<(s.Joins.length:Int))= !decide (s.Joins.length<=2):=by rw [vV];simp;omega
 have e3:decide ((3:Int)<(s.Group.length:Int))= !decide (s.Group.length<=3):=by rw [vV];simp;omega
 rw [e0,e1,e2,e3]
 unfold Ix
 cases s.Star<;>cases decide (s.Items.length=0)<;>cases decide (s.Items.length<=6)<;>cases decide (s.Joins.length<=2)<;>cases decide (s.Group.length<=3)<;>rfl
def H5{s:ae}(h:Dn s):vE s=some (u4 s):=by
 unfold vE u4
 rw [I7]
 cases Ix s with
 |false=>rfl
 |true=>
  simp only [qg,lh,jB]
  rw [A2,aV,Ua h _ _ h.items,vG]
def Qt{s:ae}(h:Dn s): ∀(l:List gk),mw s l=some (l.all UB&&(jA s.From&&(lA s.Where&&lA s.Having)))
 |[]=>by
  unfold mw
  rw [xK,AO h.where_,AO h.having]
  cases jA s.From<;>cases lA s.Where<;>rfl
 |x::l=>by
  unfold mw
  rw [pB,nY,sn,Qt h l]
  have e:UB x=(iY x.Name&&kU x.Table):=rfl
  rw [e]
  cases iY x.Name<;>cases kU x.Table<;>rfl
def Qu{s:ae}(h:Dn s): ∀(l:List g9),(∀x∈l,tk x.On)->my s l=some (l.all xN&&(s.Group.all UB&&(jA s.From&&(lA s.Where&&lA s.Having))))
 |[],_=>by unfold my;rw [Qt h];rfl
 |x::l,hl=>by
  unfold my
  rw [uS _ (hl x (lg ..)).2,xK,sn,Qu h l (fun y hy=>hl y (li _ hy))]
  have e:xN x=(jT x.On.Nodes&&jA x.Source):=rfl
  rw [e]
  cases jT x.On.Nodes<;>cases jA x.Source<;>rfl
def Qv{s:ae}(h:Dn s): ∀(l:List ev),(∀x∈l,tk x.Tree)->mz s l=some (l.all uK&&(s.Joins.all xN&&(s.Group.all UB&&(jA s.From&&(lA s.Where&&lA s.Having)))))
 |[],_=>by unfold mz;rw [Qu h _ h.joins];rfl
 |x::l,hl=>by
  unfold mz
  rw [uS _ (hl x (lg ..)).2,nY,sn,Qv h l (fun y hy=>hl y (li _ hy))]
  have e:uK x=(jT x.Tree.Nodes&&kU x.As):=rfl
  rw [e]
  cases jT x.Tree.Nodes<;>cases kU x.As<;>rfl
def D5{s:ae}(h:Dn s):vK s=some (u4 s):=by
 unfold vK u4
 rw [I7]
 cases Ix s with
 |false=>rfl
 |true=>
  simp only [qg,lh,jB]
  rw [Qv h _ h.items,vG]
  cases s.Items.all uK<;>cases s.Joins.all xN<;>cases s.Group.all UB<;>cases jA s.From<;>rfl
def Bv(n:Int):Bool:=decide (0<=n)&&decide (n<=2147483647)
def SC(k:rQ):Bool:=if k.Name==[]then Bv k.Number else iY k.Name&&(k.Number==0)
def UF(n:Int):Bool:=n== -1||Bv n
def L0(q:be):Bool:=decide (1<=q.Selects.length)&&(decide (q.Selects.length<=3)&&(decide (q.Keys.length<=3)&&UF q.Limit))
def D6(q:be):Bool:=L0 q&&(q.Selects.all u4&&q.Keys.all SC)
def Nl(q:be):Prop:= ∀s∈q.Selects,Dn s
def Mr{f:ae->Option Bool}{p:ae->Bool}: ∀(l:List ae) (i:Nat),(∀x∈l,f x=some (p x))-> ∃j:Int,dI f l i=some j/\decide (0<=j)=l.any p
 |[],i,_=>⟨-1,rfl,rfl⟩
 |x::l,i,hf=>by
  unfold dI
  rw [hf x (lg ..),aV,A5]
  cases D:p x with
  |true=>exact⟨i,rfl,by simp⟩
  |false=>
   obtain⟨j,A,V⟩:=Mr l (i+1) (fun y hy=>hf y (li _ hy))
   exact⟨j,A,by rw [V];rfl⟩
def Jn:iY []=false:=rfl
def KE{q:be}(h:Nl q): ∀(l:List rQ) (ok:Bool),oW q l ok=some (if ok&&(q.Selects.all u4&&l.all SC)then 0 else 180)
 |[],ok=>by
  unfold oW
  have hc: ∀x∈q.Selects,sI x=some (!u4 x):=fun x D=>by unfold sI;rw [H5 (h x D)];rfl
  obtain⟨j,A,V⟩:=Mr q.Selects 0 hc
  have h3:eH q.Selects sI=some (q.Selects.any fun x=> !u4 x):=by
   unfold eH gR
   rw [A,aV,V]
  have h4:(q.Selects.any fun x=> !u4 x)= !q.Selects.all u4:=by rw [List.not_all_eq_any_not]
  rw [h3,h4]
  cases ok<;>cases q.Selects.all u4<;>rfl
 |k::l,ok=>by
  unfold oW
  rw [kI,sn]
  have e1:uR k.Number=some (Bv k.Number):=rfl
  rw [e1]
  have e2:SC k=if k.Name==[]then Bv k.Number else iY k.Name&&(k.Number==0):=rfl
  rw [e2]
  cases hk:(k.Name==([]:cj))with
  |true=>
   have hk' :k.Name=[]:=by simpa using hk
   rw [hk',Jn]
   cases ok<;>cases Bv k.Number<;>simp [KE h l]
  |false=>cases ok<;>cases iY k.Name<;>cases (k.Number==(0:Int))<;>simp [KE h l]
def xw{q:be}(h:Nl q):Ag q=some (if D6 q then 0 else 180):=by
 unfold Ag D6
 rw [show uR q.Limit=some (Bv q.Limit)from rfl]
 have e1:decide ((0:Int)<(q.Selects.length:Int))=decide (1<=q.Selects.length):=by rw [Ap];omega
 have e2:decide ((q.Selects.length:Int)<=(3:Int))=decide (q.Selects.length<=3):=by rw [Ap];omega
 have e3:decide ((q.Keys.length:Int)<=(3:Int))=decide (q.Keys.length<=3):=by rw [Ap];omega
 rw [e1,e2,e3]
 unfold L0 UF
 cases decide (1<=q.Selects.length)<;>cases decide (q.Selects.length<=3)<;>cases decide (q.Keys.length<=3)<;>cases (q.Limit==(-1:Int))<;>cases Bv q.Limit<;>simp [KE h]
def LU: ∀(l:List rQ),qC l=some (l.all SC)
 |[]=>rfl
 |k::l=>by
  unfold qC
  rw [nY,aV,sn,LU l]
  have e2:SC k=if k.Name==[]then Bv k.Number else iY k.Name&&(k.Number==0):=rfl
  have e3:((decide (k.Number<(0:Int)))||(decide ((2147483647:Int)<k.Number)))= !Bv k.Number:=by
   unfold Bv;rw [vV];simp;try omega
  have e4:((!kU k.Name||decide (k.Number<(0:Int)))||decide ((2147483647:Int)<k.Number))=(!kU k.Name|| !Bv k.Number):=by rw [Bool.or_assoc,e3]
  rw [e4,e2]
  unfold kU
  cases hk:(k.Name==([]:cj))with
  |true=>cases Bv k.Number<;>simp
  |false=>
   have hz:(k.Number==(0:Int))=true->Bv k.Number=true:=fun hh=>by
    have:k.Number=0:=by simpa using hh
    unfold Bv;rw [this];rfl
   cases hn:(k.Number==(0:Int))with
   |true=>rw [hz hn];cases iY k.Name<;>simp [bne,hn]
   |false=>cases iY k.Name<;>simp [bne,hn]
def LR{q:be}: ∀(l:List ae),(∀s∈l,Dn s)->n4 q l=some (l.all u4&&q.Keys.all SC)
 |[],_=>by unfold n4;rw [LU];rfl
 |s::l,h=>by
  unfold n4
  rw [D5 (h s (lg ..)),aV,sn,LR l (fun y hy=>h y (li _ hy))]
  cases u4 s<;>rfl
def GX{q:be}(h:Nl q):yT q=some (D6 q):=by
 unfold yT D6
 rw [LR _ h]
 have e:(((((decide ((q.Selects.length:Int)<(1:Int)))||(decide ((3:Int)<(q.Selects.length:Int))))||(decide ((3:Int)<(q.Keys.length:Int))))||(decide (q.Limit<(-1:Int))))||(decide ((2147483647:Int)<q.Limit)))= !L0 q:=by
  have e1:decide ((q.Selects.length:Int)<(1:Int))= !decide (1<=q.Selects.length):=by rw [<-decide_not,Ap];omega
  have e2:decide ((3:Int)<(q.Selects.length:Int))= !decide (q.Selects.length<=3):=by rw [<-decide_not,Ap];omega
  have e3:decide ((3:Int)<(q.Keys.length:Int))= !decide (q.Keys.length<=3):=by rw [<-decide_not,Ap];omega
  have e4:(decide (q.Limit<(-1:Int))||decide ((2147483647:Int)<q.Limit))= !UF q.Limit:=by
   unfold UF Bv
   by_cases A:q.Limit= -1
   ·rw [A];rfl
   ·have:(q.Limit==(-1:Int))=false:=by simpa using A
    rw [this,vV]
    simp
    omega
  rw [Bool.or_assoc,e1,e2,e3,e4]
  unfold L0
  cases decide (1<=q.Selects.length)<;>cases decide (q.Selects.length<=3)<;>cases decide (q.Keys.length<=3)<;>cases UF q.Limit<;>rfl
 rw [e]
 cases L0 q<;>rfl
def vb(t:bT):tk (lL t):=by
 refine⟨by simp [lL];omega,fun n hn=>?_⟩
 obtain⟨m,_,rfl⟩:=qY.1 hn
 have:(xR m).Value.S.length<=60:=by simp [xR];omega
 unfold xU;omega
def Vw(s:ae):Dn (tf s) where
 items:=fun x D=>by
  obtain⟨y,_,rfl⟩:=qY.1 D
  exact vb _
 joins:=fun x D=>by
  obtain⟨y,_,rfl⟩:=qY.1 D
  exact vb _
 where_:=vb _
 having:=vb _
def MH(q:be):Nl (BH q):=fun s hs=>by
 obtain⟨y,_,rfl⟩:=qY.1 hs
 exact Vw _
end Go.Proofs.YtigldkegamffhaaGreatDoor


/- de of this claim: B7. -/
set_option linter.all false
namespace Go.Proofs.YtigldkegamffhaaGreatDoor
open Go

def yF(name:cj):List bR->Nat->Option Nat
 |[],_=>none
 |t::l,i=>if t.Name=name then some i else yF name l (i+1)
def LC{name:cj}: ∀{l:List bR} {i k:Nat},yF name l i=some k->i<=k/\k<i+l.length
 |t::l,i,k,h=>by
  unfold yF at h
  split at h
  ·cases h;simp
  ·have:=LC h
   simp only [iZ];omega
def JE(name:cj): ∀(l:List bR) (i:Nat),bM (eD eI name) l i=some (match yF name l i with
  |some k=>(k:Int)
  |none=> -1)
 |[],i=>rfl
 |t::l,i=>by
  unfold bM yF
  rw [show eD eI name t=some (t.Name==name)from rfl,aV]
  by_cases h:t.Name=name
  ·rw [bv h,bv (by simpa using h)]
  ·rw [bm h,bm (by simpa using h),JE name l (i+1)]
def FJ(c:aw)(name:cj):nr c name=some (match yF name c.Tables 0 with
  |some k=>((k:Int),true)
  |none=>(0,false)):=by
 unfold nr ib dB
 rw [JE]
 cases yF name c.Tables 0 with
 |none=>rfl
 |some k=>
  simp only [aV,yv,EM,mo]
  omega
def Ug(c:aw)(name:cj)(hl:c.Tables.length<=1000): ∀(n i:Nat),c.Tables.length<i+n->i<=c.Tables.length->rY c name n (i:Int)=some (match yF name (c.Tables.drop i) i with
  |some k=>(k:Int)
  |none=> -1):=by
 intro n
 induction n with
 |zero=>intro i h V;omega
 |succ n ih=>
  intro i h V
  unfold rY
  by_cases hi:i<c.Tables.length
  ·have hw:IntKind.i64.wrap ((i:Int)+1)=((i+1:Nat):Int):=by rw [Ao];omega
   rw [bv (by rw [mo];omega),fE,qf hi,aV,rn hi]
   unfold yF
   by_cases hn:c.Tables[i].Name=name
   ·rw [bv (by simpa using hn),bv hn]
   ·rw [bm (by simpa using hn),bm hn,hw,ih (i+1) (by omega) (by omega)]
  ·rw [bm (by rw [mo];omega),o6 (by omega)];rfl
def IA(c:aw)(name:cj)(hl:c.Tables.length<=1000):uB c name=some (match yF name c.Tables 0 with
  |some k=>(k:Int)
  |none=> -1):=by
 unfold uB
 have:=Ug c name hl iB 0 (by unfold iB;omega) (jv _)
 rw [qh]at this
 exact this
def xS(name:cj):List bJ->Nat->Option Nat
 |[],_=>none
 |t::l,i=>if t.Name=name then some i else xS name l (i+1)
def Sa(t:bR)(name:cj)(hl:t.Columns.length<=1000): ∀(n i:Nat),t.Columns.length<i+n->i<=t.Columns.length->py t name n (i:Int)=some (match xS name (t.Columns.drop i) i with
  |some k=>(k:Int)
  |none=> -1):=by
 intro n
 induction n with
 |zero=>intro i h V;omega
 |succ n ih=>
  intro i h V
  unfold py
  by_cases hi:i<t.Columns.length
  ·have hw:IntKind.i64.wrap ((i:Int)+1)=((i+1:Nat):Int):=by rw [Ao];omega
   rw [bv (by rw [mo];omega),fE,qf hi,aV,rn hi]
   unfold xS
   by_cases hn:t.Columns[i].Name=name
   ·rw [bv (by simpa using hn),bv hn]
   ·rw [bm (by simpa using hn),bm hn,hw,ih (i+1) (by omega) (by omega)]
  ·rw [bm (by rw [mo];omega),o6 (by omega)];rfl
def FD(t:bR)(name:cj)(hl:t.Columns.length<=1000):wK t name=some (match xS name t.Columns 0 with
  |some k=>(k:Int)
  |none=> -1):=by
 unfold wK
 have:=Sa t name hl iB 0 (by unfold iB;omega) (jv _)
 rw [qh]at this
 exact this
def bd(s:ci):cj:=if s.As=[]then s.Table else s.As
def zu(s:ci):vC s=some (bd s):=by
 unfold vC bd
 by_cases h:s.As=[]
 ·rw [bv (by simpa using h),bv h]
 ·rw [bm (by simpa using h),bm h]
def s8(s:ci):qw s=some (bd s):=by
 unfold qw bd
 by_cases h:s.As=[]
 ·rw [bm (by simp [h]),bv h]
 ·rw [bv (by simpa using h),bm h]
def ri(nm:cj)(l:List bJ):List (cj×cj):=l.map fun x=>(nm,x.Name)
def fb(c:aw):List ci->List Int->List (cj×cj)
 |s::ss,t::ts=>ri (bd s) (j0 c t)++fb c ss ts
 |_,_=>[]
def zk(c:aw): ∀(ss:List ci) (ts:List Int) (ss2:List ci) (ts2:List Int),ss.length=ts.length->fb c (ss++ss2) (ts++ts2)=fb c ss ts++fb c ss2 ts2
 |[],[],ss2,ts2,_=>rfl
 |s::ss,t::ts,ss2,ts2,h=>by
  simp only [xZ,fb]
  rw [zk c ss ts ss2 ts2 (by simpa using h),gI]
def zj(c:aw): ∀(ss:List ci) (ts:List Int),ss.length=ts.length->(fb c ss ts).length=(iz c ts).length
 |[],[],_=>rfl
 |s::ss,t::ts,h=>by
  have:=zj c ss ts (by simpa using h)
  simp only [fb,iz,List.flatMap_cons,gA,ri,Cb]at this ⊢
  rw [this]
def lT(p:cj×cj->Bool):List (cj×cj)->Nat->List Nat
 |[],_=>[]
 |e::l,i=>if p e then i::lT p l (i+1)else lT p l (i+1)
def vl(p:cj×cj->Bool): ∀(l m:List (cj×cj)) (i:Nat),lT p (l++m) i=lT p l i++lT p m (i+l.length)
 |[],m,i=>by simp [lT]
 |e::l,m,i=>by
  simp only [xZ,lT,vl p l m (i+1),iZ]
  rw [show i+1+l.length=i+(l.length+1)from by omega]
  split<;>rfl
def Bz(p:cj×cj->Bool): ∀(l:List (cj×cj)) (i k:Nat),k∈lT p l i->i<=k/\k<i+l.length
 |e::l,i,k,h=>by
  unfold lT at h
  simp only [iZ]
  split at h
  ·rcases f7.1 h with rfl|h
   ·omega
   ·have:=Bz p l (i+1) k h;omega
  ·have:=Bz p l (i+1) k h;omega
def yh(E:List (cj×cj))(table name:cj):Int×Int:=
 match lT (fun e=>decide (e.2=name)&&(decide (table=[])||decide (e.1=table))) E 0 with
 |[]=>(0,222)
 |[k]=>((k:Int),0)
 |_=>(0,223)
def Nn(l:List bJ):Prop:=(l.map fun x=>x.Name).Nodup
def Mu(nm table name:cj): ∀(l:List bJ) (i j:Nat),Nn l->lT (fun e=>decide (e.2=name)&&(decide (table=[])||decide (e.1=table))) (ri nm l) (j+i)=(match xS name l i with
  |some k=>if table=[]\/nm=table then [j+k]else []
  |none=>[])
 |[],i,j,_=>rfl
 |x::l,i,j,h=>by
  simp only [Nn,pE,IP]at h
  obtain⟨A,V⟩:=h
  have ih:=Mu nm table name l (i+1) j V
  simp only [ri,pE]at ih ⊢
  unfold lT xS
  by_cases D:x.Name=name
  ·rw [bv D]
   -- no other column bears the name
   have hno:xS name l (i+1)=none:=by
    have: ∀(l:List bJ) (i:Nat),name∉l.map (fun x=>x.Name)->xS name l i=none:=by
     intro l
     induction l with
     |nil=>intro i _;rfl
     |cons y l ih=>
      intro i hn
      simp only [pE,f7,not_or]at hn
      unfold xS
      rw [bm (fun e=>hn.1 e.symm),ih (i+1) hn.2]
    exact this l (i+1) (D▸A)
   rw [hno]at ih
   rw [show j+i+1=j+(i+1)from by omega,ih]
   simp only [D,decide_true,vG]
   by_cases M:table=[]\/nm=table
   ·have:(decide (table=[])||decide (nm=table))=true:=by rw [xY,mo,mo];exact M
    rw [this];simp [M]
   ·have:(decide (table=[])||decide (nm=table))=false:=by rw [Ci,o7,o7];exact not_or.1 M
    rw [this];simp [M]
  ·rw [bm D,show j+i+1=j+(i+1)from by omega,ih]
   simp only [D,decide_false,Bool.false_and,lh,jB]
structure VU(c:aw):Prop where
 few:VS c
 len:c.Tables.length<=1000
 once: ∀t∈c.Tables,Nn t.Columns
def VU.cols{c:aw}(h:VU c)(t:Int):Nn (j0 c t):=by
 unfold j0
 cases D:c.Tables[t.toNat]? with
 |none=>exact List.nodup_nil
 |some x=>exact h.once x (sR D)
def PD(found many:Int):Int×Int:=if many=0 then(0,222)else if many=1 then(found,0)else(0,223)
def AM{c:aw}(hc:VU c)(b:ay)(H:b.c=c)(table name:cj): ∀(ss:List ci) (ts:List Int) (pre:List Int) (found many:Int) (first:Nat),b.out.Tables=pre++ts->ss.length=ts.length->(∀t∈ts,H4 c t=false)->first+ts.length*1000<=1000000->0<=many->many+ts.length<=1000000->
  hU b table name ss pre.length found many (first:Int)=some (let hb:=lT (fun e=>decide (e.2=name)&&(decide (table=[])||decide (e.1=table))) (fb c ss ts) first
   PD (match hb.getLast? with
    |some k=>(k:Int)
    |none=>found) (many+(hb.length:Int)))
 |[],[],pre,found,many,first,_,_,_,_,_,_=>by
  unfold hU
  simp only [fb,lT,List.getLast?_nil,rk]
  unfold PD
  have e:many+((0:Nat):Int)=many:=by omega
  rw [e]
  by_cases h0:many=0
  ·simp [h0]
  ·by_cases A:many=1
   ·simp [A]
   ·simp [h0,A]
 |s::ss,t::ts,pre,found,many,first,hT,hl,hbad,hf,hm,hm2=>by
  simp only [iZ]at hf hm2
  obtain⟨x,g1,g2,g3⟩:=F0 (hbad t (lg ..))
  have hcl:=xq hc.few t
  have ih:=fun found many first=>AM hc b H table name ss ts (pre++[t]) found many first (by rw [hT];simp) (by simpa using hl) (fun y hy=>hbad y (li _ hy))
  have hpl:(pre++[t]).length=pre.length+1:=by simp
  rw [hpl]at ih
  unfold hU
  rw [hT,nd,aV,H,g1,aV,FD x name (by rw [g2];omega),aV,s8,g2]
  have hh:=Mu (bd s) table name (j0 c t) 0 first (hc.cols t)
  simp only [F6]at hh
  simp only [fb,vl]
  have hel:(ri (bd s) (j0 c t)).length=(j0 c t).length:=by simp [ri]
  rw [hel,hh]
  have hw:IntKind.i64.wrap ((first:Int)+((j0 c t).length:Int))=((first+(j0 c t).length:Nat):Int):=by rw [dP (by omega) (by omega)];omega
  cases hcx:xS name (j0 c t) 0 with
  |none=>
   have aN:decide ((0:Int)<= -1)=false:=rfl
   simp only [aN,lh,jB,aV,pe]
   unfold jf
   rw [g2,hw,ih found many (first+(j0 c t).length) (by omega) hm (by omega)]
  |some k=>
   have hk:k<(j0 c t).length:=by
    have: ∀(l:List bJ) (i k:Nat),xS name l i=some k->k<i+l.length:=by
     intro l
     induction l with
     |nil=>intro i k h;cases h
     |cons y l ih=>
      intro i k h
      unfold xS at h
      simp only [iZ]
      split at h
      ·cases h;omega
      ·have:=ih (i+1) k h;omega
    have:=this (j0 c t) 0 k hcx
    omega
   have aN:decide ((0:Int)<=(k:Int))=true:=by rw [mo];omega
   simp only [aN,i8,aV]
   have hw2:IntKind.i64.wrap ((first:Int)+(k:Int))=((first+k:Nat):Int):=by rw [dP (by omega) (by omega)];omega
   have hw3:IntKind.i64.wrap (many+1)=many+1:=by rw [dP (by omega) (by omega)]
   by_cases M:table=[]\/bd s=table
   ·rw [bv M]
    have e:(if(!(table==([]:cj)))=true then some (table==bd s)else some true)=some true:=by
     by_cases h0:table=[]
     ·simp [h0]
     ·rcases M with M|M
      ·exact absurd M h0
      ·rw [bv (by simpa using h0),M];simp
    rw [e]
    simp only [aV,i8]
    unfold jf
    rw [g2,hw,hw2,hw3,ih _ _ (first+(j0 c t).length) (by omega) (by omega) (by omega)]
    simp only [Iq,iZ,List.getLast?_cons]
    congr 2
    ·cases (lT (fun e=>decide (e.2=name)&&(decide (table=[])||decide (e.1=table))) (fb c ss ts) (first+(j0 c t).length)).getLast? <;>rfl
    ·omega
   ·rw [bm M]
    have e:(if(!(table==([]:cj)))=true then some (table==bd s)else some true)=some false:=by
     rw [not_or]at M
     rw [bv (by simpa using M.1)]
     have:(table==bd s)=false:=by
      rw [Lp];exact fun h=>M.2 h.symm
     rw [this]
    rw [e]
    simp only [aV,lh,jB,pe]
    unfold jf
    rw [g2,hw,ih found many (first+(j0 c t).length) (by omega) hm (by omega)]
def Iy{c:aw}(hc:VU c)(b:ay)(H:b.c=c)(table name:cj)(hl:b.sources.length=b.out.Tables.length)(hbad: ∀t∈b.out.Tables,H4 c t=false)(hlen:b.out.Tables.length<=100):km b table name=some (yh (fb c b.sources b.out.Tables) table name):=by
 unfold km
 have:=AM hc b H table name b.sources b.out.Tables [] 0 0 0 rfl hl hbad (by omega) (by omega) (by omega)
 simp only [rk,Int.ofNat_zero]at this
 rw [this]
 unfold yh
 congr 1
 generalize lT (fun e=>decide (e.2=name)&&(decide (table=[])||decide (e.1=table))) (fb c b.sources b.out.Tables) 0=hb
 match hb with
 |[]=>rfl
 |[k]=>rfl
 |k::k2::hb=>
  unfold PD
  simp only [iZ]
  rw [bm (by omega),bm (by omega)]
end Go.Proofs.YtigldkegamffhaaGreatDoor


/- de of this claim: B8. -/
set_option linter.all false
namespace Go.Proofs.YtigldkegamffhaaGreatDoor
open Go

def lR{κ β:Type} [DecidableEq κ](k:κ)(y:β): ∀(m:List (κ×β)),fj (ga m k y) k=some y
 |[]=>by simp [ga,fj]
 |q::m=>by
  unfold ga
  by_cases h:q.1=k
  ·rw [bv h];unfold fj;rw [bv rfl]
  ·rw [bm h];unfold fj;rw [bm h,lR k y m]
def mA{κ β:Type} [DecidableEq κ]{k j:κ}(y:β)(hj:j≠k): ∀(m:List (κ×β)),fj (ga m k y) j=fj m j
 |[]=>by simp [ga,fj,Ne.symm hj]
 |q::m=>by
  unfold ga
  by_cases h:q.1=k
  ·rw [bv h]
   unfold fj
   rw [bm (show¬k=j from Ne.symm hj),bm (show¬q.1=j from fun e=>hj (e▸h))]
  ·rw [bm h]
   unfold fj
   rw [mA y hj m]
structure Maps(E:List (cj×cj))(names:List cj)(s:ac):Prop where
 called: ∀n,(fj s.called n).getD false=decide (n∈names)
 alone: ∀n,(fj s.alone n).getD []=(lT (fun e=>decide (e.2=n)) E 0).map fun(k:Nat)=>(k:Int)
 behind: ∀t n,fj s.behind (t,n)=((lT (fun e=>decide (e.2=n)&&decide (e.1=t)) E 0).getLast?.map fun(k:Nat)=>(k:Int))
 once:E.Nodup
def Hm(t n:cj): ∀(E:List (cj×cj)) (i:Nat),E.Nodup->(lT (fun e=>decide (e.2=n)&&decide (e.1=t)) E i).length<=1
 |[],i,_=>jv _
 |e::E,i,h=>by
  have V:=IP.1 h
  unfold lT
  split
  ·rename_i he
   have:lT (fun e=>decide (e.2=n)&&decide (e.1=t)) E (i+1)=[]:=by
    have key: ∀(E:List (cj×cj)) (i:Nat),e∉E->lT (fun e=>decide (e.2=n)&&decide (e.1=t)) E i=[]:=by
     intro E
     induction E with
     |nil=>intro i _;rfl
     |cons f E ih=>
      intro i hn
      simp only [f7,not_or]at hn
      unfold lT
      rw [ih (i+1) hn.2,bm]
      intro hf
      apply hn.1
      simp only [gQ,mo]at he hf
      exact Prod.ext (he.2.trans hf.2.symm) (he.1.trans hf.1.symm)
    exact key E (i+1) V.1
   rw [this];simp
  ·exact Hm t n E (i+1) V.2
def BA{p q:cj×cj->Bool}: ∀(E:List (cj×cj)) (i:Nat),(∀e∈E,p e=q e)->lT p E i=lT q E i
 |[],i,_=>rfl
 |e::E,i,h=>by
  unfold lT
  rw [h e (lg ..),BA E (i+1) fun f hf=>h f (li _ hf)]
def MR{E:List (cj×cj)}{names:List cj}{s:ac}(h:Maps E names s)(n:gk):fZ s n=some (yh E n.Table n.Name):=by
 unfold fZ yh
 by_cases M:n.Table=[]
 ·rw [bm (by simp [M])]
  have e:lT (fun e=>decide (e.2=n.Name)&&(decide (n.Table=[])||decide (e.1=n.Table))) E 0=lT (fun e=>decide (e.2=n.Name)) E 0:=BA E 0 fun e _=>by simp [M]
  rw [e,h.alone]
  match lT (fun e=>decide (e.2=n.Name)) E 0 with
  |[]=>rfl
  |[k]=>rfl
  |k::k2::hb=>
   have hlen:(((List.map (fun(k:Nat)=>(k:Int)) (k::k2::hb)).length:Nat):Int)=(hb.length:Int)+2:=by simp;omega
   rw [hlen,bm (by rw [tg];omega),bm (by rw [tg];omega)]
 ·rw [bv (by simpa using M)]
  have e:lT (fun e=>decide (e.2=n.Name)&&(decide (n.Table=[])||decide (e.1=n.Table))) E 0=lT (fun e=>decide (e.2=n.Name)&&decide (e.1=n.Table)) E 0:=BA E 0 fun e _=>by simp [M]
  rw [e,h.behind]
  have hl:=Hm n.Table n.Name E 0 h.once
  match lT (fun e=>decide (e.2=n.Name)&&decide (e.1=n.Table)) E 0,hl with
  |[],_=>rfl
  |[k],_=>rfl
  |k::k2::hb,hl=>simp at hl
def I2{nm:cj}: ∀(l:List bJ) (E:List (cj×cj)) (names:List cj) (s:ac),(∀n,(fj s.called n).getD false=decide (n∈names))->(∀n,(fj s.alone n).getD []=(lT (fun e=>decide (e.2=n)) E 0).map fun(k:Nat)=>(k:Int))->
  (∀t n,fj s.behind (t,n)=((lT (fun e=>decide (e.2=n)&&decide (e.1=t)) E 0).getLast?.map fun(k:Nat)=>(k:Int)))->s.kinds.length=E.length->E.length+l.length<=1000000->
  ∃s',eE nm l s=some (0,s')/\s' ={s with alone:=s'.alone,behind:=s'.behind,kinds:=s.kinds++l.map fun x=>x.Kind}/\(∀n,(fj s'.alone n).getD []=(lT (fun e=>decide (e.2=n)) (E++ri nm l) 0).map fun(k:Nat)=>(k:Int))/\
   (∀t n,fj s'.behind (t,n)=((lT (fun e=>decide (e.2=n)&&decide (e.1=t)) (E++ri nm l) 0).getLast?.map fun(k:Nat)=>(k:Int)))
 |[],E,names,s,hc,ha,H,hk,_=>⟨s,rfl,by cases s;simp,by simpa [ri] using ha,by simpa [ri] using H⟩
 |x::l,E,names,s,hc,ha,H,hk,hl=>by
  simp only [iZ]at hl
  have hal:((fj s.alone x.Name).getD []).length<=1000000:=by
   rw [ha x.Name,Cb]
   have: ∀(p:cj×cj->Bool) (l:List (cj×cj)) (i:Nat),(lT p l i).length<=l.length:=by
    intro p l
    induction l with
    |nil=>intro i;exact gu _
    |cons e l ih=>
     intro i
     unfold lT
     have:=ih (i+1)
     split<;>simp<;>omega
   have:=this (fun e=>decide (e.2=x.Name)) E 0
   omega
  obtain⟨s1,hs1⟩: ∃s1:ac,s1={s with alone:=ga s.alone x.Name ((fj s.alone x.Name).getD []++[(s.kinds.length:Int)]),behind:=ga s.behind (nm,x.Name) (s.kinds.length:Int),kinds:=s.kinds++[x.Kind]}:=⟨_,rfl⟩
  have e0:eE nm (x::l) s=eE nm l s1:=by
   conv=>lhs;unfold eE
   rw [dz (by simp;omega),aV,aV]
   simp only
   rw [dz (by simp;omega),aV,hs1]
  have hent:ri nm (x::l)=(nm,x.Name)::ri nm l:=rfl
  have happ:E++ri nm (x::l)=(E++[(nm,x.Name)])++ri nm l:=by rw [hent];simp
  obtain⟨s',g1,g2,g3,g4⟩:=I2 l (E++[(nm,x.Name)]) names s1 (by rw [hs1];exact hc) (fun n=>by
   rw [hs1]
   simp only
   rw [vl]
   by_cases hn:n=x.Name
   ·subst hn
    rw [lR,Option.getD_some,ha x.Name]
    simp [lT,hk]
   ·rw [mA _ hn,ha n]
    simp [lT,Ne.symm hn]) (fun t n=>by
   rw [hs1]
   simp only
   rw [vl]
   by_cases hn:(t,n)=(nm,x.Name)
   ·rw [hn,lR]
    obtain⟨A,V⟩:=Prod.ext_iff.1 hn
    simp only at A V
    subst A V
    simp [lT,hk]
   ·rw [mA _ hn,H t n]
    have:(decide (x.Name=n)&&decide (nm=t))=false:=by
     rw [Bool.and_eq_false_iff,o7,o7]
     by_cases A:x.Name=n
     ·exact .inr fun V=>hn (by rw [A,V])
     ·exact .inl A
    simp [lT,this]) (by rw [hs1];simp [hk]) (by simp;omega)
  refine⟨s',e0.trans g1,?_,?_,?_⟩
  ·rw [g2,hs1]
   simp
  ·intro n;rw [happ];exact g3 n
  ·intro t n;rw [happ];exact g4 t n
end Go.Proofs.YtigldkegamffhaaGreatDoor


/- de of this claim: B9. -/
set_option linter.all false
namespace Go.Proofs.YtigldkegamffhaaGreatDoor
open Go

structure px(c:aw):Prop where
 basC:VU c
 cols4: ∀t∈c.Tables,t.Columns.length<=4
 kinds: ∀t∈c.Tables,∀x∈t.Columns,vk x.Kind=true
def zz(a:gj)(kinds:List Int):Int×Bool:=
 if a.Tag=1 then(2,true)else
  if(gK a.Arg kinds).2≠0\/(a.Tag=3/\(gK a.Arg kinds).1≠2/\(gK a.Arg kinds).1≠0)then(0,false)else
   if a.Tag=2\/a.Tag=3 then(2,true)else((gK a.Arg kinds).1,true)
def Mm(kinds:List Int)(keys:List Int):List Int:=keys.map fun k=>(kinds[k.toNat]?).getD 0
def wY(kinds:List Int)(keys:List Int)(aggs:List gj):List Int:=Mm kinds keys++aggs.map fun a=>(zz a kinds).1
structure ug(c:aw)(s:ac)(b:ay):Prop where
 cat:s.Catalog=c
 bc:b.c=c
 out:s.out=b.out
 kinds:s.kinds=iz c b.out.Tables
 len:b.sources.length=b.out.Tables.length
 bad: ∀t∈b.out.Tables,H4 c t=false
 few:b.out.Tables.length<=3
 maps:Maps (fb c b.sources b.out.Tables) (b.sources.map bd) s
 groups:s.groups=wY s.kinds b.out.Keys b.out.Aggs
 keys: ∀k∈b.out.Keys,0<=k/\k<(s.kinds.length:Int)
 keysLen:b.out.Keys.length<=3
 aggsLen:b.out.Aggs.length<=12
 aggsOnce:b.out.Aggs.Nodup
 aggsOk: ∀a∈b.out.Aggs,(zz a s.kinds).2=true/\(1<=a.Tag/\a.Tag<=5)/\a.Arg.Nodes.length<=50000
def Fi(c:aw): ∀(ss:List ci) (ts:List Int) (e:cj×cj),e∈fb c ss ts->e.1∈ss.map bd
 |[],_,e,h=>by simp [fb]at h
 |s::ss,[],e,h=>by simp [fb]at h
 |s::ss,t::ts,e,h=>by
  simp only [fb,A6,ri,qY]at h
  rcases h with⟨x,_,rfl⟩|h
  ·simp
  ·exact li _ (Fi c ss ts e h)
def AL(b:ay)(s:ci)(r:Int)(hl:b.sources.length<=1000)(hl2:b.out.Tables.length<=1000): ∀l:List ci,je b s r l=if bd s∈l.map bd then some (221,b)else some (0,{b with sources:=b.sources++[s],out:={b.out with Tables:=b.out.Tables++[r]}})
 |[]=>by
  unfold je
  rw [dz (by simp;omega),aV,dz (by simp;omega),aV]
  rfl
 |e::l=>by
  unfold je
  rw [s8,aV,s8,aV,AL b s r hl hl2 l]
  by_cases h:bd e=bd s
  ·rw [bv (by simpa using h),bv (by simp [h])]
  ·rw [bm (by simpa using h)]
   have:(bd s∈List.map bd (e::l))=(bd s∈List.map bd l):=by
    simp only [pE,f7]
    exact propext ⟨fun V=>V.resolve_left fun h3=>h h3.symm,.inr⟩
   simp only [this]
def EX{c:aw}(hc:px c){s:ac}{b:ay}(h:ug c s b)(hl:b.sources.length<=2)(hk:b.out.Keys=[])(ha:b.out.Aggs=[])(p:ci):
  (∃e,e≠0/\dU s p=some (e,s)/\kl b p=some (e,b))\/(∃s' b' k,dU s p=some (0,s')/\kl b p=some (0,b')/\ug c s' b' /\s'.from_=s.from_/\s'.at_=s.at_/\b' ={b with sources:=b.sources++[p],out:={b.out with Tables:=b.out.Tables++[k]}}):=by
 unfold dU kl
 rw [show nr s.Catalog p.Table=_ from(congrArg (fun(aN:aw)=>nr aN p.Table) h.cat).trans (FJ c p.Table),show uB b.c p.Table=_ from(congrArg (fun(aN:aw)=>uB aN p.Table) h.bc).trans (IA c p.Table hc.basC.len),zu]
 have hlen:=h.len
 cases D:yF p.Table c.Tables 0 with
 |none=>exact .inl ⟨220,by decide,rfl,rfl⟩
 |some k=>
  have hkl:=(LC D).2
  simp only [aV]
  rw [AL b p _ (by omega) (by omega),h.maps.called]
  have d1:decide ((k:Int)<0)=false:=by rw [o7];omega
  simp only [d1,qg,lh,jB]
  by_cases hn:bd p∈b.sources.map bd
  ·rw [qi hn,bv rfl,bv hn]
   exact .inl ⟨221,by decide,rfl,rfl⟩
  ·rw [sO hn,bm (by decide),bm hn]
   have hb0:H4 c (k:Int)=false:=by
    unfold H4
    rw [Ci,o7,o7];omega
   obtain⟨x,g1,g2,g3⟩:=F0 hb0
   right
   obtain⟨sc,hsc⟩: ∃sc:ac,sc={s with called:=ga s.called (bd p) true,out:={s.out with Tables:=s.out.Tables++[(k:Int)]}}:=⟨_,rfl⟩
   have hE:=zk c b.sources b.out.Tables [p] [(k:Int)] h.len
   have hE1:fb c [p] [(k:Int)]=ri (bd p) (j0 c (k:Int)):=by simp [fb]
   rw [hE1]at hE
   have hEl:=zj c b.sources b.out.Tables h.len
   have hkk:iz c (b.out.Tables++[(k:Int)])=iz c b.out.Tables++(j0 c (k:Int)).map fun x=>x.Kind:=by simp [iz]
   have hcl:=xq hc.basC.few (k:Int)
   have hKl:(iz c b.out.Tables).length<=3000:=by
    have: ∀l:List Int,(iz c l).length<=l.length*1000:=by
     intro l
     induction l with
     |nil=>exact gu _
     |cons t l ih=>
      have:=xq hc.basC.few t
      simp only [iz,List.flatMap_cons,gA,Cb,iZ]at ih ⊢
      omega
    have:=this b.out.Tables
    omega
   obtain⟨s',k1,k2,k3,k4⟩:=I2 (nm:=bd p) (j0 c (k:Int)) (fb c b.sources b.out.Tables) (b.sources.map bd++[bd p]) sc (fun n=>by
    rw [hsc]
    simp only
    by_cases hn2:n=bd p
    ·subst hn2;rw [lR];simp
    ·rw [mA _ hn2,h.maps.called];simp [hn2]) (fun n=>by rw [hsc];exact h.maps.alone n) (fun t n=>by rw [hsc];exact h.maps.behind t n) (by rw [hsc,hEl];exact congrArg List.length h.kinds) (by rw [hEl];omega)
   have hb' :s'.kinds=iz c (b.out.Tables++[(k:Int)]):=by rw [k2,hkk,hsc];simp [h.kinds]
   refine⟨s',{b with sources:=b.sources++[p],out:={b.out with Tables:=b.out.Tables++[(k:Int)]}},(k:Int),?_,rfl,?_,?_,?_,rfl⟩
   ·rw [dz (by rw [h.out];simp;omega),aV]
    rw [show ep s.Catalog.Tables (k:Int)=some x from by rw [h.cat];exact g1,aV,g2]
    rw [hsc]at k1
    exact k1
   ·refine⟨?_,h.bc,?_,hb',?_,?_,?_,⟨?_,?_,?_,?_⟩,?_,?_,?_,?_,?_,?_⟩
    ·rw [k2,hsc];exact h.cat
    ·rw [k2,hsc];simp only;rw [h.out]
    ·simp only [gA,yb];omega
    ·intro t M
     rcases A6.1 M with M|M
     ·exact h.bad t M
     ·rw [A9.1 M];exact hb0
    ·simp only [gA,yb];omega
    ·intro n
     have:s'.called=sc.called:=by rw [k2]
     rw [this,hsc]
     simp only [EO,pE,EH]
     by_cases hn2:n=bd p
     ·subst hn2;rw [lR];simp
     ·rw [mA _ hn2,h.maps.called];simp [hn2]
    ·intro n;simp only;rw [hE];exact k3 n
    ·intro t n;simp only;rw [hE];exact k4 t n
    ·simp only
     rw [hE,List.nodup_append]
     refine⟨h.maps.once,?_,?_⟩
     ·have:=hc.basC.cols (k:Int)
      unfold Nn at this
      unfold ri
      rw [List.nodup_iff_pairwise_ne]at this ⊢
      rw [List.pairwise_map]at this ⊢
      exact this.imp fun hxy e=>hxy (congrArg Prod.snd e)
     ·intro a ha' b2 hb2 e
      subst e
      simp only [ri,qY]at hb2
      obtain⟨y,_,rfl⟩:=hb2
      exact hn (Fi c _ _ _ ha')
    ·have e1:s'.groups=s.groups:=by rw [k2,hsc]
     rw [e1,h.groups]
     simp only [hk,ha]
     rfl
    ·intro k' hk';simp only [hk]at hk';cases hk'
    ·simp [hk]
    ·simp [ha]
    ·simp [ha]
    ·intro a ha';simp only [ha]at ha';cases ha'
   ·rw [k2,hsc]
   ·rw [k2,hsc]
end Go.Proofs.YtigldkegamffhaaGreatDoor


/- de of this claim: B10. -/
set_option linter.all false
namespace Go.Proofs.YtigldkegamffhaaGreatDoor
open Go

def nT{t:Tr}(hw:t.wf)(hs:t.size<=1000):kQ (t.flat 0)=true:=by
 unfold kQ
 rw [yA hw hs];rfl
def QO(n:ap):Tr:= .lf (ia n (-1) (-1))
def Bx{n:ap}(A:pk n.Tag=some 0)(V:Fk n=true):(QO n).wf:=⟨A,V,rfl,rfl⟩
def Mi(n:ap):(QO n).flat 0=[ia n (-1) (-1)]:=rfl
def z1{n:ap}(A:pk n.Tag=some 0)(V:Fk n=true):ud n=some (⟨(QO n).flat 0⟩,0):=by
 have hm:rJ n []=some (Y6 (kQ [ia n (-1) (-1)]) ⟨[ia n (-1) (-1)]⟩):=yX (fun e h=>by cases h) rfl (WI n) (by show 1<=100000;omega)
 have hr:kQ [ia n (-1) (-1)]=true:=nT (Bx A V) (by show 1<=1000;omega)
 rw [hr]at hm
 unfold ud
 rw [hm];rfl
def wm(n:ap):gU n []=some ⟨(QO n).flat 0⟩:=acm n
def yi(k:Int):ap:=⟨2,0,0,k,⟨0,0,0,[]⟩⟩
def UE(v:cr):ap:=⟨1,0,0,0,v⟩
def xr(k:Int):pk (yi k).Tag=some 0:=rfl
def uP{k:Int}(h0:0<=k)(A:k<16):Fk (yi k)=true:=by
 unfold Fk jP yi
 simp [h0,A]
def Hf{v:cr}(h:ta v=true):Fk (UE v)=true:=by
 unfold Fk jP UE
 rw [n6,h];rfl
def YR{l:List Int}(h: ∀k∈l,k4 k):Tx l=true:=by
 unfold Tx
 rw [mZ]
 intro k hk
 have:=h k hk
 unfold k4 at this
 simp only [gQ,mo]
 omega
def uJ{t:Tr}(hw:t.wf)(hs:t.size<=1000){kinds:List Int}(hk: ∀k∈kinds,k4 k):gK ⟨t.flat 0⟩ kinds=if np kinds.length (t.flat 0)then(match kd kinds t with
  |some k=>((k,0):Int×Int)
  |none=>(0,201))else(0,2):=by
 unfold gK
 rw [nT hw hs,YR hk,bv rfl,bv rfl]
 simp only [yA hw hs,aV]
 split<;>first|rfl|(cases kd kinds t<;>rfl)
def UJ{e:aA}{kinds:List Int}(hk: ∀k∈kinds,k4 k):k4 (gK e kinds).1:=by
 unfold gK
 split
 ·split
  ·split
   ·rename_i hr _ _
    unfold kQ at hr
    cases M:rs e.Nodes with
    |none=>rw [M]at hr;cases hr
    |some t=>
     simp only [aV]
     cases hd:kd kinds t with
     |none=>exact .inl rfl
     |some k=>exact QR hk t (pV M).1 hd
   ·exact .inl rfl
  ·exact .inl rfl
 ·exact .inl rfl
def Hg{k:Int}{kinds:List Int}(hk: ∀k∈kinds,k4 k)(h0:0<=k)(A:k<(kinds.length:Int))(h16:k<16):(gK ⟨(QO (yi k)).flat 0⟩ kinds).2=0:=by
 rw [uJ (Bx (xr k) (uP h0 h16)) (by show 1<=1000;omega) hk]
 rw [bv]
 ·rfl
 ·rw [Mi]
  unfold np
  simp [ia,yi]
  omega
def UI{v:cr}(hv:ta v=true){kinds:List Int}(hk: ∀k∈kinds,k4 k):(gK ⟨(QO (UE v)).flat 0⟩ kinds).2=0:=by
 rw [uJ (Bx (show pk 1=some 0 from rfl) (Hf hv)) (by show 1<=1000;omega) hk]
 rw [bv]
 ·rfl
 ·rw [Mi];rfl
def Uq(tag:Int):ap:=⟨tag,-1,-1,0,⟨0,0,0,[]⟩⟩
def QA{tag:Int}{k:Nat}(h:pk tag=some (k+1)):Fk (Uq tag)=true:=by
 unfold Fk jP Uq
 have A: ¬tag=1:=fun e=>by subst e;simp [pk]at h
 have V: ¬tag=2:=fun e=>by subst e;simp [pk]at h
 simp [A,V]
def XU{tag:Int}{a:Tr}(h:pk tag=some 1)(ha:a.wf):(Tr.un (Uq tag) a).wf:=⟨⟨h,QA h,rfl,rfl⟩,ha⟩
def Yg{tag:Int}{a b:Tr}(h:pk tag=some 2)(ha:a.wf)(H:b.wf):(Tr.bi (Uq tag) a b).wf:=⟨⟨h,QA h,rfl,rfl⟩,ha,H⟩
def XC(tag:Int)(a b:Tr):(Tr.bi (uH tag) a b).flat 0=(Tr.bi (Uq tag) a b).flat 0:=rfl
def QD(tag:Int){a:Tr}(ha:a.wf)(hs:a.size<=900):uN tag ⟨a.flat 0⟩=some (Y6 (kQ ((Tr.un (Uq tag) a).flat 0)) ⟨(Tr.un (Uq tag) a).flat 0⟩):=by
 have hl: ∀e∈[(⟨a.flat 0⟩:aA)],e.Nodes.length<=100000:=by
  intro e h
  simp only [A9]at h
  subst h
  show(a.flat 0).length<=100000
  rw [a.flat_len];omega
 have hw:((⟨(Tr.un (uH tag) a).flat 0⟩:aA)).Nodes.length<=100000:=by
  show((Tr.un (uH tag) a).flat 0).length<=100000
  rw [Tr.flat_len];simp only [Tr.size];omega
 have hm:=yX (root:=uH tag) hl (by simp [nT ha (by omega)]) (WH _ a (by omega)) hw
 unfold uN
 rw [show(⟨tag,0,0,0,⟨0,0,0,[]⟩⟩:ap)=uH tag from rfl,hm]
 rfl
def Ur{tag:Int}(h:pk tag=some 1){a:Tr}(ha:a.wf)(hs:a.size<=900):uN tag ⟨a.flat 0⟩=some (⟨(Tr.un (Uq tag) a).flat 0⟩,0):=by
 rw [QD tag ha hs,nT (XU h ha) (by simp only [Tr.size];omega)];rfl
def TH{tag:Int}(h:pk tag=some 2){a b:Tr}(ha:a.wf)(H:b.wf)(hs:a.size+b.size<=900):wr tag ⟨a.flat 0⟩ ⟨b.flat 0⟩=some (⟨(Tr.bi (Uq tag) a b).flat 0⟩,0):=by
 have hl: ∀e∈[(⟨a.flat 0⟩:aA),⟨b.flat 0⟩],e.Nodes.length<=100000:=by
  intro e h
  simp only [f7,List.not_mem_nil,or_false]at h
  rcases h with rfl|rfl
  ·show(a.flat 0).length<=100000
   rw [a.flat_len];omega
  ·show(b.flat 0).length<=100000
   rw [b.flat_len];omega
 have hw:((⟨(Tr.bi (uH tag) a b).flat 0⟩:aA)).Nodes.length<=100000:=by
  show((Tr.bi (uH tag) a b).flat 0).length<=100000
  rw [Tr.flat_len];simp only [Tr.size];omega
 have hm:=yX (root:=uH tag) hl (by simp [nT ha (by omega),nT H (by omega)]) (WG _ a b (by omega)) hw
 unfold wr
 rw [show(⟨tag,0,0,0,⟨0,0,0,[]⟩⟩:ap)=uH tag from rfl,hm,XC,nT (Yg h ha H) (by simp only [Tr.size];omega)]
 rfl
def QB(tag:Int){a:Tr}(hs:a.size<=900):gU ⟨tag,0,0,0,⟨0,0,0,[]⟩⟩ [⟨a.flat 0⟩]=some ⟨(Tr.un (Uq tag) a).flat 0⟩:=PQ (uH tag) a (by omega)
def We(tag:Int){a b:Tr}(hs:a.size<=900)(hs2:b.size<=900):gU ⟨tag,0,0,0,⟨0,0,0,[]⟩⟩ [⟨a.flat 0⟩,⟨b.flat 0⟩]=some ⟨(Tr.bi (Uq tag) a b).flat 0⟩:=PP (uH tag) a b (by omega) (by omega)
def Im(a:gj)(kinds:List Int):rX a kinds=some (zz a kinds):=by
 unfold rX zz
 rw [pn]
 by_cases A:a.Tag=1
 ·rw [bv (by simpa using A),bv A]
 ·rw [bm (by simpa using A),bm A,aV]
  by_cases V:(gK a.Arg kinds).2≠0\/(a.Tag=3/\(gK a.Arg kinds).1≠2/\(gK a.Arg kinds).1≠0)
  ·rw [bv V,bv (by simpa [and_assoc] using V)]
  ·rw [bm V,bm (by simpa [and_assoc] using V)]
   by_cases h3:a.Tag=2\/a.Tag=3
   ·rw [bv h3,bv (by simpa using h3)]
   ·rw [bm h3,bm (by simpa using h3)]
def VL{a:gj}{kinds:List Int}(hk: ∀k∈kinds,k4 k):k4 (zz a kinds).1:=by
 unfold zz
 split
 ·exact .inr (.inr (.inl rfl))
 ·split
  ·exact .inl rfl
  ·split
   ·exact .inr (.inr (.inl rfl))
   ·exact UJ hk
def MA(r:List Int): ∀(l:List gj) (out:List Int),out.length+l.length<=1000000->ko r l out=some (out++l.map fun a=>(zz a r).1)
 |[],out,_=>by simp [ko]
 |a::l,out,h=>by
  simp only [iZ]at h
  unfold ko
  rw [Im,aV,dz (by simp;omega),aV,MA r l _ (by simp;omega)]
  simp
def MB(s:aF)(r:List Int)(ha:s.Aggs.length<=1000): ∀(l:List Int) (out:List Int),(∀k∈l,0<=k/\k<(r.length:Int))->out.length+l.length<=10000->kp s r l out=some (out++wY r l s.Aggs)
 |[],out,_,h=>by
  unfold kp
  rw [MA r _ _ (by simp at h;omega)];rfl
 |k::l,out,hk,h=>by
  simp only [iZ]at h
  obtain⟨h0,A⟩:=hk k (lg ..)
  have hi:ep r k=some ((r[k.toNat]?).getD 0):=by
   have hlt:k.toNat<r.length:=by omega
   unfold ep
   rw [bv h0,qf hlt];rfl
  unfold kp
  rw [hi,aV,dz (by simp;omega),aV,MB s r ha l _ (fun j hj=>hk j (li _ hj)) (by simp;omega)]
  simp [wY,Mm]
def ug.kindsLen{c:aw}{s:ac}{b:ay}(hc:px c)(h:ug c s b):s.kinds.length<=12:=by
 have: ∀l:List Int,(iz c l).length<=l.length*4:=by
  intro l
  induction l with
  |nil=>exact gu _
  |cons t l ih=>
   have h4:(j0 c t).length<=4:=by
    unfold j0
    cases D:c.Tables[t.toNat]? with
    |none=>simp
    |some x=>exact hc.cols4 x (sR D)
   simp only [iz,List.flatMap_cons,gA,Cb,iZ]at ih ⊢
   omega
 have V:=this b.out.Tables
 have:=h.few
 rw [h.kinds];omega
def ug.kinds4{c:aw}{s:ac}{b:ay}(hc:px c)(h:ug c s b): ∀k∈s.kinds,k4 k:=by
 rw [h.kinds]
 intro k hk
 simp only [iz,List.mem_flatMap,qY]at hk
 obtain⟨t,_,x,D,rfl⟩:=hk
 unfold j0 at D
 cases hy:c.Tables[t.toNat]? with
 |none=>rw [hy]at D;simp at D
 |some y=>
  rw [hy]at D
  have:=hc.kinds y (sR hy) x D
  unfold vk at this
  simp only [xY,tg]at this
  unfold k4;omega
def ug.groups4{c:aw}{s:ac}{b:ay}(hc:px c)(h:ug c s b): ∀k∈s.groups,k4 k:=by
 rw [h.groups]
 intro k hk
 have h4:=h.kinds4 hc
 unfold wY Mm at hk
 rcases A6.1 hk with hk|hk
 ·obtain⟨j,hj,rfl⟩:=qY.1 hk
  obtain⟨h0,A⟩:=h.keys j hj
  have hlt:j.toNat<s.kinds.length:=by omega
  rw [qf hlt]
  exact h4 _ (Ch ..)
 ·obtain⟨a,_,rfl⟩:=qY.1 hk
  exact VL h4
def ug.groupsLen{c:aw}{s:ac}{b:ay}(h:ug c s b):s.groups.length=b.out.Keys.length+b.out.Aggs.length:=by
 rw [h.groups];simp [wY,Mm]
def ug.refKinds{c:aw}{s:ac}{b:ay}(hc:px c)(h:ug c s b):kG b.c b.out.Tables=some s.kinds:=by
 rw [h.bc,Kr hc.basC.few h.bad (by have:=h.few;omega),h.kinds]
def ug.refGroups{c:aw}{s:ac}{b:ay}(hc:px c)(h:ug c s b):kM b.c b.out=some s.groups:=by
 unfold kM
 rw [h.refKinds hc,aV,MB b.out s.kinds (by have:=h.aggsLen;omega) _ _ h.keys (by have:=h.keysLen;simp;omega),h.groups]
 rfl
def ug.column{c:aw}{s:ac}{b:ay}(hc:px c)(h:ug c s b)(n:gk):fZ s n=some (yh (fb c b.sources b.out.Tables) n.Table n.Name)/\km b n.Table n.Name=some (yh (fb c b.sources b.out.Tables) n.Table n.Name):=
 ⟨MR h.maps n,Iy hc.basC b h.bc n.Table n.Name h.len h.bad (by have:=h.few;omega)⟩
def ug.colIn{c:aw}{s:ac}{b:ay}(h:ug c s b)(t n:cj)(he:(yh (fb c b.sources b.out.Tables) t n).2=0):0<=(yh (fb c b.sources b.out.Tables) t n).1/\(yh (fb c b.sources b.out.Tables) t n).1<(s.kinds.length:Int):=by
 have hl:=zj c b.sources b.out.Tables h.len
 rw [h.kinds,<-hl]
 have hr:=Bz (fun e=>decide (e.2=n)&&(decide (t=[])||decide (e.1=t))) (fb c b.sources b.out.Tables) 0
 unfold yh at he ⊢
 match hh:lT (fun e=>decide (e.2=n)&&(decide (t=[])||decide (e.1=t))) (fb c b.sources b.out.Tables) 0 with
 |[]=>rw [hh]at he;cases he
 |[k]=>
  rw [hh]at hr
  have:=hr k (lg ..)
  simp only
  omega
 |k::k2::hb=>rw [hh]at he;cases he
def Hl{x a:gj}(h: ¬x=a)(l:List gj):(x::l).idxOf a=l.idxOf a+1:=by
 have:(x==a)=false:=by simpa using h
 simp [List.idxOf,List.findIdx_cons,this]
def Ms(a:gj): ∀(l:List gj) (i:Nat),eB (iR a) l i=some (if a∈l then((i+l.idxOf a:Nat):Int)else -1)
 |[],i=>rfl
 |x::l,i=>by
  unfold eB
  have hf:iR a x=some (decide (x=a)):=by
   unfold iR
   rw [oS]
   obtain⟨t1,⟨n1⟩⟩:=x
   obtain⟨t2,⟨n2⟩⟩:=a
   by_cases A:t1=t2
   ·subst A;by_cases V:n1=n2<;>simp [V]
   ·have:(t1==t2)=false:=by simpa using A
    simp [this,A]
  rw [hf,aV,Ms a l (i+1)]
  by_cases h:x=a
  ·subst h;simp
  ·rw [bm (by simpa using h)]
   congr 1
   have hm:(a∈x::l)=(a∈l):=by
    simp only [f7]
    exact propext ⟨fun V=>V.resolve_left fun h3=>h h3.symm,.inr⟩
   simp only [hm]
   by_cases ha:a∈l
   ·rw [bv ha,bv ha,show(x::l).idxOf a=l.idxOf a+1 from Hl h l]
    congr 1;omega
   ·rw [bm ha,bm ha]
def PI(b:ay)(a:gj): ∀(l:List gj) (i:Nat) (at1:Int),l.Nodup->gy b a l i at1=gy b a [] (i+l.length) (if a∈l then((i+l.idxOf a:Nat):Int)else at1)
 |[],i,at1,_=>rfl
 |x::l,i,at1,hn=>by
  have hn' :=IP.1 hn
  conv=>lhs;unfold gy
  have hf:(if(x.Tag==a.Tag)=true then(wL x.Arg a.Arg).bind fun r3=>some r3 else some false)=some (decide (x=a)):=by
   rw [IB]
   obtain⟨t1,⟨n1⟩⟩:=x
   obtain⟨t2,⟨n2⟩⟩:=a
   by_cases A:t1=t2
   ·subst A;by_cases V:n1=n2<;>simp [V]
   ·have:(t1==t2)=false:=by simpa using A
    simp [this,A]
  rw [hf,aV,show i+(x::l).length=i+1+l.length from by simp only [iZ];omega]
  by_cases h:x=a
  ·subst h
   rw [bv (by simp),PI b x l (i+1) _ hn'.2,bm hn'.1,bv (lg ..)]
   simp
  ·rw [bm (by simpa using h),PI b a l (i+1) _ hn'.2]
   have hm:(a∈x::l)=(a∈l):=by
    simp only [f7]
    exact propext ⟨fun V=>V.resolve_left fun h3=>h h3.symm,.inr⟩
   simp only [hm]
   by_cases ha:a∈l
   ·rw [bv ha,bv ha,show(x::l).idxOf a=l.idxOf a+1 from Hl h l]
    congr 2;omega
   ·rw [bm ha,bm ha]
end Go.Proofs.YtigldkegamffhaaGreatDoor


/- de of this claim: B11. -/
set_option linter.all false
namespace Go.Proofs.YtigldkegamffhaaGreatDoor
open Go

def FP(s s' :ac)(b b' :ay):Prop:=s' ={s with out:={s.out with Aggs:=s'.out.Aggs},groups:=s'.groups}/\b' ={b with out:={b.out with Aggs:=b'.out.Aggs}}/\s.groups<+:s'.groups
def FP.refl(s:ac)(b:ay):FP s s b b:=⟨rfl,rfl,List.prefix_refl _⟩
def FP.trans{s s1 s2:ac}{b b1 b2:ay}(h:FP s s1 b b1)(k:FP s1 s2 b1 b2):FP s s2 b b2:=by
 obtain⟨A,V,h3⟩:=h
 obtain⟨k1,k2,k3⟩:=k
 refine⟨?_,?_,h3.trans k3⟩
 ·rw [k1,A]
 ·rw [k2,V]
def VK{c:aw}(hc:px c){s:ac}{b:ay}(h:ug c s b)(a:gj)(M:1<=a.Tag/\a.Tag<=5)(ha:a.Arg.Nodes.length<=50000):
  (∃e s' b',e≠0/\gq s a=some (0,e,s')/\oH b a=some (⟨[]⟩,e,b')/\FP s s' b b')\/(∃k s' b',gq s a=some (k,0,s')/\oH b a=some (⟨(QO (yi k)).flat 0⟩,0,b')/\ug c s' b' /\FP s s' b b' /\0<=k/\k<(s'.groups.length:Int)/\k<16):=by
 have hkl:=h.kindsLen hc
 have hal:=h.aggsLen
 have hkeys:=h.keysLen
 -- the code, up to its kind
 have hcode:gq s a=if(zz a s.kinds).2 then fk s a (zz a s.kinds).1 else some (0,201,s):=by
  unfold gq zz
  rw [tN _ _ ha]
  by_cases A:a.Tag=1
  ·rw [bm (by simp [A]),bv A];rfl
  ·rw [bv (by simpa using A),bm A,aV]
   by_cases V:(gK a.Arg s.kinds).2≠0\/(a.Tag=3/\(gK a.Arg s.kinds).1≠2/\(gK a.Arg s.kinds).1≠0)
   ·rw [bv V,bv (by simpa [and_assoc] using V)];rfl
   ·rw [bm V,bm (by simpa [and_assoc] using V)]
    by_cases h3:a.Tag=2\/a.Tag=3
    ·rw [bv h3,bm (by simp;omega)];rfl
    ·rw [bm h3,bv (by simp;omega)];rfl
 rw [hcode]
 unfold oH
 rw [h.refKinds hc,aV,Im,aV,PI b a _ _ _ h.aggsOnce]
 cases hok:(zz a s.kinds).2 with
 |false=>exact .inl ⟨201,s,b,by decide,rfl,rfl,FP.refl _ _⟩
 |true=>
  simp only [qg,lh,jB,i8,rj]
  unfold fk fi
  rw [Ms,aV,h.out,rj]
  by_cases hm:a∈b.out.Aggs
  ·-- it is there
   have hix:=Qg hm
   rw [bv hm,bv hm,bm (by rw [mo];omega)]
   have hw:IntKind.i64.wrap ((b.out.Keys.length:Int)+((b.out.Aggs.idxOf a:Nat):Int))=((b.out.Keys.length+b.out.Aggs.idxOf a:Nat):Int):=by rw [dP (by omega) (by omega)];omega
   right
   refine⟨((b.out.Keys.length+b.out.Aggs.idxOf a:Nat):Int),s,b,?_,?_,h,FP.refl _ _,by omega,by have:=h.groupsLen;omega,by omega⟩
   ·unfold f6
    rw [h.out,bm (by rw [mo];omega),hw]
   ·unfold gy md
    rw [bm (by rw [tg];omega),bm (by rw [mo];omega),hw]
    rw [show(⟨2,0,0,((b.out.Keys.length+b.out.Aggs.idxOf a:Nat):Int),⟨0,0,0,[]⟩⟩:ap)=yi ((b.out.Keys.length+b.out.Aggs.idxOf a:Nat):Int)from rfl,wm]
    rfl
  ·-- it is new
   rw [bm hm,bm hm,bv (by decide),dz (by simp;omega),aV,dz (by have:=h.groupsLen;simp;omega),aV]
   unfold gy
   rw [bv (by simp),dz (by simp;omega),aV]
   unfold f6 md
   simp only [gA,yb]
   by_cases h12:b.out.Aggs.length+1<=12
   ·have hw:IntKind.i64.wrap ((b.out.Keys.length:Int)+((b.out.Aggs.length:Nat):Int))=((b.out.Keys.length+b.out.Aggs.length:Nat):Int):=by rw [dP (by omega) (by omega)];omega
    rw [bm (by rw [mo];omega),bm (by rw [mo];omega),hw]
    rw [show(⟨2,0,0,((b.out.Keys.length+b.out.Aggs.length:Nat):Int),⟨0,0,0,[]⟩⟩:ap)=yi ((b.out.Keys.length+b.out.Aggs.length:Nat):Int)from rfl,wm,aV]
    right
    refine⟨_,_,_,rfl,rfl,?_,⟨?_,rfl,List.prefix_append _ _⟩,by omega,?_,by omega⟩
    ·refine⟨h.cat,h.bc,rfl,h.kinds,h.len,h.bad,h.few,⟨h.maps.called,h.maps.alone,h.maps.behind,h.maps.once⟩,?_,h.keys,h.keysLen,by simpa using h12,?_,?_⟩
     ·simp only
      rw [h.groups]
      simp [wY]
     ·simp only
      rw [List.nodup_append]
      refine⟨h.aggsOnce,by simp,fun x D y hy e=>?_⟩
      rw [A9.1 hy]at e
      exact hm (e▸D)
     ·intro x D
      rcases A6.1 D with D|D
      ·exact h.aggsOk x D
      ·rw [A9.1 D];exact⟨hok,M,ha⟩
    ·rw [h.out]
    ·have:=h.groupsLen;simp only [gA,yb];omega
   ·rw [bv (by rw [mo];omega),bv (by rw [mo];omega)]
    left
    refine⟨228,_,_,by decide,rfl,rfl,?_,rfl,List.prefix_append _ _⟩
    rw [h.out]
end Go.Proofs.YtigldkegamffhaaGreatDoor


/- de of this claim: B12. -/
set_option linter.all false
namespace Go.Proofs.YtigldkegamffhaaGreatDoor
open Go

def ov(s:ac)(g:Bool):List Int:=if g then s.groups else s.kinds
def kq:ac->Bool->Option ((List Int)×ac):=fun(mc:ac) (mx:Bool)=>(gD mc mx).map fun mr=>(mr,mc)
def uF(s:ac)(g:Bool):kq s g=some (ov s g,s):=by
 unfold kq gD ov
 cases g<;>rfl
def ug.ov4{c:aw}{s:ac}{b:ay}(hc:px c)(h:ug c s b)(g:Bool): ∀k∈ov s g,k4 k:=by
 unfold ov
 cases g with
 |true=>exact h.groups4 hc
 |false=>exact h.kinds4 hc
def Rt(c:aw)(s:ac)(b:ay)(g:Bool)(n:Nat)(C:Option (aA×Int×ac))(hx:Option (aA×Int×ay)):Prop:=
 (∃(e:Int) (x:aA) (s' :ac) (x' :aA) (b' :ay),e≠0/\C=some (x,e,s')/\hx=some (x',e,b')/\FP s s' b b')\/
 (∃(t:Tr) (s' :ac) (b' :ay),C=some ((⟨t.flat 0⟩:aA),0,s')/\hx=some ((⟨t.flat 0⟩:aA),0,b')/\t.wf/\t.size<=n/\ug c s' b' /\FP s s' b b' /\(g=false->s' =s/\b' =b)/\(gK ⟨t.flat 0⟩ (ov s' g)).2=0)
def U0(s:ac)(g:Bool){x:aA}(D:x.Nodes.length<=50000):ec kq g s 0 x=some (x,(gK x (ov s g)).2,s):=by
 unfold ec
 rw [bv (by rfl),uF,aV,tN _ _ D,aV]
 rfl
def WP{c:aw}(hc:px c){s:ac}{b:ay}(h:ug c s b)(g:Bool)(x y:aA):jW g y x b=some (x,(gK x (ov s g)).2,b):=by
 unfold jW nW ov
 rw [h.refKinds hc,aV]
 cases g with
 |true=>
  simp only [i8]
  rw [h.refGroups hc,aV,pn];rfl
 |false=>
  simp only [lh,jB]
  rw [pn];rfl
def MG{c:aw}(hc:px c){s s' :ac}{b b' :ay}(h:ug c s' b')(hf:FP s s' b b'){g:Bool}(hg:g=false->s' =s/\b' =b){t:Tr}(hw:t.wf)(hs:t.size<=900){n:Nat}(hn:t.size<=n)(y:aA):
  Rt c s b g n (ec kq g s' 0 ⟨t.flat 0⟩) (jW g y ⟨t.flat 0⟩ b'):=by
 rw [U0 s' g (by show(t.flat 0).length<=50000;rw [t.flat_len];omega),WP hc h]
 by_cases he:(gK ⟨t.flat 0⟩ (ov s' g)).2=0
 ·exact .inr ⟨t,s',b',by rw [he],by rw [he],hw,hn,h,hf,hg,he⟩
 ·exact .inl ⟨_,_,_,_,_,he,rfl,rfl,hf⟩
def Ex(n:ap){r:aA×Int}(h:ud n=some r):bz n=some r:=by
 unfold bz
 rw [h];rfl
def MQ{c:aw}(hc:px c){s:ac}{b:ay}(h:ug c s b){g:Bool}{k:Int}(h0:0<=k)(A:k<((ov s g).length:Int))(h16:k<16)(r1:Int×Int)(hr:r1.2=0)(y:aA){n:Nat}(hn:1<=n):
  Rt c s b g n (cD s bz k 0) (iP b r1 k y):=by
 unfold cD iP
 rw [bm (by decide),show(⟨2,0,0,k,⟨0,0,0,[]⟩⟩:ap)=yi k from rfl,Ex _ (z1 (xr k) (uP h0 h16)),wm,aV,aV,hr]
 exact .inr ⟨QO (yi k),s,b,rfl,rfl,Bx (xr k) (uP h0 h16),hn,h,FP.refl _ _,fun _=>⟨rfl,rfl⟩,Hg (h.ov4 hc g) h0 A h16⟩
def Ju(v:Int): ∀(l:List Int) (i:Nat),iL v l i=some (if v∈l then((i+l.idxOf v:Nat):Int)else -1)
 |[],i=>rfl
 |x::l,i=>by
  unfold iL
  by_cases h:v=x
  ·subst h;simp
  ·rw [bm (by simpa using h),Ju v l (i+1)]
   have hs:(x::l).idxOf v=l.idxOf v+1:=by
    have:(x==v)=false:=by simpa using Ne.symm h
    simp [List.idxOf,List.findIdx_cons,this]
   have hm:(v∈x::l)=(v∈l):=by
    simp only [f7]
    exact propext ⟨fun V=>V.resolve_left h,.inr⟩
   simp only [hm,hs]
   by_cases hv:v∈l
   ·rw [bv hv,bv hv];congr 1;omega
   ·rw [bm hv,bm hv]
def OV{x v:Int}(h: ¬x=v)(l:List Int):(x::l).idxOf v=l.idxOf v+1:=by
 have:(x==v)=false:=by simpa using h
 simp [List.idxOf,List.findIdx_cons,this]
def YV(v:Int): ∀(l m:List Int),v∈l->(l++m).idxOf v=l.idxOf v
 |x::l,m,h=>by
  by_cases D:x=v
  ·subst D;simp
  ·rw [xZ,OV D,OV D,YV v l m ((f7.1 h).resolve_left fun e=>D e.symm)]
def X5(v:Int): ∀(l m:List Int),v∉l->(l++m).idxOf v=l.length+m.idxOf v
 |[],m,_=>by simp
 |x::l,m,h=>by
  rw [f7,not_or]at h
  rw [xZ,OV (fun e=>h.1 e.symm),X5 v l m h.2,iZ];omega
def YK(b:ay)(r1:Int×Int)(hl:b.out.Keys.length<=1000): ∀(j fu:Nat) (own:Int),j<=b.out.Keys.length->j<fu->eb b r1 fu own ((j:Int)-1)=eb b r1 1 (if r1.1∈b.out.Keys.take j then(((b.out.Keys.take j).idxOf r1.1:Nat):Int)else own) (-1):=by
 intro j
 induction j with
 |zero=>
  intro fu own _ hf
  obtain⟨fu,rfl⟩: ∃k,fu=k+1:=⟨fu-1,by omega⟩
  simp only [List.take_zero,List.not_mem_nil,jB]
  rw [show((0:Nat):Int)-1= -1 from rfl]
  conv=>lhs;unfold eb
  conv=>rhs;unfold eb
  have hd:decide ((0:Int)<= -1)=false:=rfl
  simp only [hd,lh,jB]
 |succ j ih=>
  intro fu own hj hf
  obtain⟨fu,rfl⟩: ∃k,fu=k+1:=⟨fu-1,by omega⟩
  have hlt:j<b.out.Keys.length:=by omega
  conv=>lhs;unfold eb
  rw [bv (by rw [mo];omega),jz j (by omega),qf hlt,aV,dP (by omega) (by omega),show((j+1:Nat):Int)-1-1=(j:Int)-1 from by omega]
  have M:b.out.Keys.take (j+1)=b.out.Keys.take j++[b.out.Keys[j]]:=by rw [NF hlt]
  rw [M]
  by_cases hk:b.out.Keys[j]=r1.1
  ·rw [bv (by simpa using hk),ih fu _ (by omega) (by omega)]
   congr 1
   by_cases hm:r1.1∈b.out.Keys.take j
   ·rw [bv hm,bv (F4 _ hm),YV _ _ _ hm]
   ·rw [bm hm,bv (by rw [hk];simp),hk]
    have:(b.out.Keys.take j++[r1.1]).idxOf r1.1=j:=by
     rw [X5 _ _ _ hm]
     simp [ym]
     omega
    rw [this];omega
  ·rw [bm (by simpa using hk),ih fu _ (by omega) (by omega)]
   congr 1
   by_cases hm:r1.1∈b.out.Keys.take j
   ·rw [bv hm,bv (F4 _ hm),YV _ _ _ hm]
   ·rw [bm hm,bm]
    intro V
    rcases A6.1 V with V|V
    ·exact hm V
    ·exact hk (A9.1 V).symm
def Wz(b:ay)(r1:Int×Int)(own:Int):eb b r1 1 own (-1)=if own<0 then some (⟨[]⟩,225,b)else iP b r1 own ⟨[]⟩:=by
 unfold eb
 rw [bm (by decide)]
 by_cases h:own<0
 ·rw [bv h,bv (by simpa using h)]
 ·rw [bm h,bm (by simpa using h)]
def SE{c:aw}(hc:px c){s:ac}{b:ay}(h:ug c s b)(at1:Int){n:Nat}(hn:1<=n):
  Rt c s b true n ((jU s.out.Keys at1).bind fun r3=>if(decide (r3<(0:Int)))then(cD s bz r3 (225:Int))else(cD s bz r3 0))
   (eb b (at1,0) iB (-1:Int) (IntKind.i64.wrap ((b.out.Keys.length:Int)-(1:Int)))):=by
 have hkl:=h.keysLen
 unfold jU
 rw [Ju,aV,h.out,rj,dP (by omega) (by omega),YK b (at1,0) (by omega) b.out.Keys.length iB _ (gu _) (by unfold iB;omega),AA,Wz]
 by_cases hm:at1∈b.out.Keys
 ·have hix:=Qg hm
  rw [bv hm,bm (by rw [mo];omega),bm (by omega)]
  exact MQ hc h (by omega) (by unfold ov;have:=h.groupsLen;simp only [i8];omega) (by omega) (at1,0) rfl _ hn
 ·rw [bm hm,bv (by decide),bv (by omega)]
  unfold cD
  rw [bv (by decide)]
  exact .inl ⟨225,_,_,_,_,by decide,rfl,rfl,FP.refl _ _⟩
def Nf{tag:Int}(h:tag=3\/(8<=tag/\tag<=11)): ∃k:Int,(fj o4 tag).getD (0:Int)=k/\wJ tag=some k/\1<=k/\k<=5:=by
 have:tag=3\/tag=8\/tag=9\/tag=10\/tag=11:=by omega
 rcases this with rfl|rfl|rfl|rfl|rfl
 ·exact⟨1,rfl,rfl,by decide,by decide⟩
 ·exact⟨2,rfl,rfl,by decide,by decide⟩
 ·exact⟨3,rfl,rfl,by decide,by decide⟩
 ·exact⟨4,rfl,rfl,by decide,by decide⟩
 ·exact⟨5,rfl,rfl,by decide,by decide⟩
def XH{c:aw}(hc:px c){s:ac}{b:ay}(h:ug c s b){m:cx}{k:Int}(hk:wJ m.Tag=some k)(A:1<=k)(h5:k<=5){arg:aA}(ha:arg.Nodes.length<=50000){n:Nat}(hn:1<=n):
  Rt c s b true n (dl bz s ⟨k,arg⟩) (iO m arg b 0):=by
 unfold dl iO
 rw [bm (by decide),hk,aV]
 rcases VK hc h ⟨k,arg⟩ ⟨A,h5⟩ ha with⟨e,s',b',he,g1,g2,g3⟩|⟨j,s',b',g1,g2,g3,g4,g5,g6,g7⟩
 ·rw [g1,g2,aV,aV,bv (by simpa using he)]
  exact .inl ⟨e,_,_,_,_,he,rfl,rfl,g3⟩
 ·rw [g1,g2,aV,aV]
  simp only [bne_self_eq_false,lh,jB]
  rw [show(⟨2,0,0,j,⟨0,0,0,[]⟩⟩:ap)=yi j from rfl,Ex _ (z1 (xr j) (uP g5 g7)),aV]
  exact .inr ⟨QO (yi j),s',b',rfl,rfl,Bx (xr j) (uP g5 g7),hn,g3,g4,fun e=>(by cases e),Hg (g3.ov4 hc true) g5 g6 g7⟩
end Go.Proofs.YtigldkegamffhaaGreatDoor


/- de of this claim: B13. -/
set_option linter.all false
namespace Go.Proofs.YtigldkegamffhaaGreatDoor
open Go

def Ak{c:aw}{s:ac}{b:ay}{g:Bool}{n:Nat}{e:Int}(he:e≠0){x:aA}{s' :ac}{x' :aA}{b' :ay}(hf:FP s s' b b'):Rt c s b g n (some (x,e,s')) (some (x',e,b')):= .inl ⟨e,x,s',x',b',he,rfl,rfl,hf⟩
def Vy{n:cx}(h:re n=true)(M:n.Tag=1):ta n.Value=true:=by
 unfold re at h
 rw [bv M]at h
 simp only [gQ,zW]at h
 exact h.2.1.1
def KA{N P R:List cx}{a:List cx}{m:cx}(hN:N=P++(a++[m])++R):N[P.length+a.length]? =some m:=by
 rw [hN,gI,gI,<-gI P,vZ (by simp)]
 simp
def zA(tag:Int):wv tag=true↔(tag=3\/(8<=tag/\tag<=11)):=by
 unfold wv;simp
def JO{tag:Int}(h:wv tag=false):(fj o4 tag).getD (0:Int)=0:=by
 have V: ¬(tag=3\/(8<=tag/\tag<=11)):=fun e=>by rw [(zA tag).2 e]at h;cases h
 unfold o4
 simp only [fj]
 rw [bm (show¬(3:Int)=tag by omega),bm (show¬(8:Int)=tag by omega),bm (show¬(9:Int)=tag by omega),bm (show¬(10:Int)=tag by omega),bm (show¬(11:Int)=tag by omega)]
 rfl
def Sh{tag:Int}(h:Si tag=some 1)(ha:wv tag=false):pk tag=some 1:=by
 have V: ¬(tag=3\/(8<=tag/\tag<=11)):=fun e=>by rw [(zA tag).2 e]at ha;cases ha
 unfold Si at h
 unfold pk
 split at h
 ·cases h
 ·split at h
  ·rw [bm (by omega),bv (by omega)]
  ·split at h<;>cases h
def Sg{tag:Int}(h:Si tag=some 2):pk tag=some 2/\wv tag=false:=by
 have h12:12<=tag/\tag<=23:=by
  unfold Si at h
  split at h
  ·cases h
  ·split at h
   ·cases h
   ·split at h
    ·assumption
    ·cases h
 refine⟨?_,?_⟩
 ·unfold pk
  rw [bm (by omega),bm (by omega),bv (by omega)]
 ·cases H:wv tag with
  |false=>rfl
  |true=>have:=(zA tag).1 H;omega
def OY(l r:Int):ep [l,r] ((0:Nat):Int)=some l:=rfl
def OX(l r:Int):ep [l,r] ((0+1:Nat):Int)=some r:=rfl
abbrev cT(fu:Nat)(s:ac)(N:List cx)(p:Int)(g:Bool):=bw fu s ⟨N⟩ bz o4 kq p g
abbrev dT(fu:Nat)(b:ay)(N:List cx)(p:Int)(g:Bool):=cy fu b ⟨N⟩ p g
def Rs{c:aw}(hc:px c){s s' :ac}{b b' :ay}(h:ug c s' b')(hf:FP s s' b b'){g:Bool}{m:cx}(hm:wv m.Tag=true){parts:List aA}{arg:aA}(ha:arg.Nodes.length<=50000)(hp:(parts=[]/\arg=⟨[]⟩)\/parts=[arg])(x:aA){n:Nat}(hn:1<=n):
  Rt c s b g n (dK bz o4 kq g m parts x s') (jX g m 0 arg b'):=by
 obtain⟨k,A,V,h3,h4⟩:=Nf ((zA m.Tag).1 hm)
 unfold dK jX
 rw [A]
 have aN:decide ((0:Int)<k)=true:=by rw [mo];omega
 rw [aN]
 cases g with
 |false=>
  unfold iO
  simp only [v8,Bool.and_self,i8,AB]
  exact Ak (by decide) hf
 |true=>
  simp only [qg,Bool.and_false,lh,jB,i8]
  have hk3:(if decide ((0:Int)<(parts.length:Int))=true then(ep parts (0:Int)).bind fun e2=>dl bz s' (gj.mk (⟨k,⟨[]⟩⟩:gj).Tag e2)else dl bz s' ⟨k,⟨[]⟩⟩)=dl bz s' ⟨k,arg⟩:=by
   rcases hp with⟨rfl,rfl⟩|rfl
   ·rfl
   ·rfl
  rw [hk3]
  rcases XH hc h V h3 h4 ha hn with⟨e,x1,s1,x2,b1,he,g1,g2,g3⟩|⟨t,s1,b1,g1,g2,g3,g4,g5,g6,g7,g8⟩
  ·exact .inl ⟨e,x1,s1,x2,b1,he,g1,g2,hf.trans g3⟩
  ·exact .inr ⟨t,s1,b1,g1,g2,g3,g4,g5,hf.trans g6,fun e=>(by cases e),g8⟩
def RO{c:aw}(hc:px c)(a:Bt):a.wf-> ∀(P R N:List cx) (fu fu2:Nat) (s:ac) (b:ay) (g:Bool),N=P++a.flat P.length++R->a.size<=fu->a.size<=fu2->N.length<=1000->a.size<=300->ug c s b->
  Rt c s b g a.size (cT fu s N (((P.length+a.size:Nat):Int)-1) g) (dT fu2 b N (((P.length+a.size:Nat):Int)-1) g):=by
 induction a with
 |lf n=>
  intro⟨A,V,h3,h4⟩ P R N fu fu2 s b g hN hf hf2 hl hs h
  simp only [Bt.size]at hf hf2 ⊢
  obtain⟨fu,rfl⟩: ∃k,fu=k+1:=⟨fu-1,by omega⟩
  obtain⟨fu2,rfl⟩: ∃k,fu2=k+1:=⟨fu2-1,by omega⟩
  have D:N[P.length]? =some n:=by
   have:=KA (a:=[]) (m:=putA n (-1) (-1)) (by simpa [Bt.flat] using hN)
   rw [rk,F6]at this
   rw [this]
   cases n;simp only at h3 h4;subst h3 h4;rfl
  unfold cT dT bw cy
  rw [jz P.length (by omega),D,aV,aV]
  have M:n.Tag=1\/n.Tag=2\/n.Tag=3:=by
   unfold Si at A
   split at A
   ·omega
   ·split at A
    ·cases A
    ·split at A<;>cases A
  rcases M with M|M|M
  ·-- a literal
   have hv:=Vy V M
   rw [bv (by simpa using M),bv (by simpa using M),show(⟨1,0,0,0,n.Value⟩:ap)=UE n.Value from rfl,Ex _ (z1 (show pk 1=some 0 from rfl) (Hf hv)),wm,aV,aV]
   exact .inr ⟨QO (UE n.Value),s,b,rfl,rfl,Bx (show pk 1=some 0 from rfl) (Hf hv),gu _,h,FP.refl _ _,fun _=>⟨rfl,rfl⟩,UI hv (h.ov4 hc g)⟩
  ·-- a name
   rw [bm (by simp [M]),bv (by simpa using M),bm (by simp [M]),bv (by simpa using M)]
   obtain⟨c1,c2⟩:=h.column hc (⟨n.Table,n.Name⟩:gk)
   simp only at c1 c2
   rw [c1,c2,aV,aV]
   by_cases he:(yh (fb c b.sources b.out.Tables) n.Table n.Name).2=0
   ·obtain⟨k0,k1⟩:=h.colIn n.Table n.Name he
    have hkl:=h.kindsLen hc
    cases g with
    |false=>
     rw [bm (by simp),bm (by simp)]
     have:=MQ hc h (g:=false) k0 (by unfold ov;simpa using k1) (by omega) (yh (fb c b.sources b.out.Tables) n.Table n.Name) he ⟨[]⟩ (n:=1) (gu _)
     rw [he]
     exact this
    |true=>
     rw [bv (by simp [he]),bv (by simp [he])]
     have hp:yh (fb c b.sources b.out.Tables) n.Table n.Name=((yh (fb c b.sources b.out.Tables) n.Table n.Name).1,0):=Prod.ext rfl he
     rw [hp]
     exact SE hc h _ (gu _)
   ·rw [bm (by simp [he]),bm (by simp [he])]
    unfold cD iP
    rw [bv (by simpa using he),show(⟨2,0,0,(yh (fb c b.sources b.out.Tables) n.Table n.Name).1,⟨0,0,0,[]⟩⟩:ap)=yi (yh (fb c b.sources b.out.Tables) n.Table n.Name).1 from rfl,wm,aV]
    exact Ak he (FP.refl _ _)
  ·-- all that there are
   have hag:wv n.Tag=true:=by rw [M];rfl
   rw [bm (by simp [M]),bm (by simp [M]),bm (by simp [M]),bm (by simp [M]),show lk n.Tag=some (wv n.Tag)from rfl,hag,aV,bv rfl]
   unfold da
   rw [h3,h4,OY,aV,bv (by decide),bm (by decide)]
   exact Rs hc h (FP.refl _ _) hag (by show 0<=50000;omega) (.inl ⟨rfl,rfl⟩) _ (gu _)
 |un n a ih=>
  intro⟨⟨A,V,h3,h4⟩,ha⟩ P R N fu fu2 s b g hN hf hf2 hl hs h
  obtain⟨m,hm⟩: ∃m,m=putA n (((P.length+a.size:Nat):Int)-1) (-1):=⟨_,rfl⟩
  simp only [Bt.flat,<-hm]at hN
  simp only [Bt.size]at hf hf2 hs ⊢
  have hpos:=a.size_pos
  obtain⟨fu,rfl⟩: ∃k,fu=k+1:=⟨fu-1,by omega⟩
  obtain⟨fu2,rfl⟩: ∃k,fu2=k+1:=⟨fu2-1,by omega⟩
  have D:N[P.length+a.size]? =some m:=by
   have:=KA (a:=a.flat P.length) (m:=m) hN
   rw [a.flat_len]at this
   exact this
  have hi:=ih ha P ([m]++R) N fu fu2
  have hNa:N=P++a.flat P.length++([m]++R):=by rw [hN];simp only [gI]
  have eT:m.Tag=n.Tag:=by rw [hm];rfl
  have eL:m.L=((P.length+a.size:Nat):Int)-1:=by rw [hm];rfl
  have eR:m.R= -1:=by rw [hm];rfl
  have t1: ¬n.Tag=1:=fun e=>by rw [e]at A;cases A
  have t2: ¬n.Tag=2:=fun e=>by rw [e]at A;cases A
  unfold cT dT bw cy
  rw [jz (P.length+a.size) (by omega),D,aV,aV,bm (by simpa [eT] using t1),bm (by simpa [eT] using t2),bm (by simpa [eT] using t1),bm (by simpa [eT] using t2),show lk m.Tag=some (wv m.Tag)from rfl,aV]
  have dL:decide (m.L<(0:Int))=false:=by rw [eL,o7];omega
  have dL2:decide ((0:Int)<=m.L)=true:=by rw [eL,mo];omega
  have dR:decide (m.R<(0:Int))=true:=by rw [eR];rfl
  have dR2:decide ((0:Int)<=m.R)=false:=by rw [eR];rfl
  unfold da
  rw [OY,aV,dL]
  simp only [lh,jB]
  cases hag:wv m.Tag with
  |true=>
   obtain⟨k,k1,k2,k3,k4⟩:=Nf ((zA m.Tag).1 hag)
   have kz:(k==(0:Int))=false:=by rw [Lp];omega
   rw [bv rfl,dL2,bv rfl,k1,kz,Bool.and_false,eL]
   rcases hi s b false hNa (by omega) (by omega) hl (by omega) h with⟨e,x,s',x',b',he,g1,g2,g3⟩|⟨t,s',b',g1,g2,g3,g4,g5,g6,g7,g8⟩
   ·rw [show bw fu s ⟨N⟩ bz o4 kq (((P.length+a.size:Nat):Int)-1) false=_ from g1,show cy fu2 b ⟨N⟩ (((P.length+a.size:Nat):Int)-1) false=_ from g2,aV,aV,bv (by simpa using he)]
    unfold jX iO
    have hz:(e==(0:Int))=false:=by rw [Lp];exact he
    simp only [hz,Bool.false_and,lh,jB]
    rw [bv (by simpa using he)]
    exact Ak he g3
   ·rw [show bw fu s ⟨N⟩ bz o4 kq (((P.length+a.size:Nat):Int)-1) false=_ from g1,show cy fu2 b ⟨N⟩ (((P.length+a.size:Nat):Int)-1) false=_ from g2,aV,aV,bm (show¬((0:Int) !=0)=true by decide),dz (by simp),aV]
    unfold da
    rw [OX,aV,dR,bv rfl]
    exact Rs hc g5 g6 hag (by show(t.flat 0).length<=50000;rw [t.flat_len];omega) (.inr rfl) _ (by omega)
  |false=>
   have hz:=JO hag
   have hpk:pk m.Tag=some 1:=Sh (by rw [eT];exact A) hag
   rw [bm (by decide),hz,AB,Bool.and_true,eL]
   rcases hi s b g hNa (by omega) (by omega) hl (by omega) h with⟨e,x,s',x',b',he,g1,g2,g3⟩|⟨t,s',b',g1,g2,g3,g4,g5,g6,g7,g8⟩
   ·rw [show bw fu s ⟨N⟩ bz o4 kq (((P.length+a.size:Nat):Int)-1) g=_ from g1,show cy fu2 b ⟨N⟩ (((P.length+a.size:Nat):Int)-1) g=_ from g2,aV,aV,bv (by simpa using he),bv (by simpa using he)]
    exact Ak he g3
   ·rw [show bw fu s ⟨N⟩ bz o4 kq (((P.length+a.size:Nat):Int)-1) g=_ from g1,show cy fu2 b ⟨N⟩ (((P.length+a.size:Nat):Int)-1) g=_ from g2,aV,aV,bm (show¬((0:Int) !=0)=true by decide),bm (show¬((0:Int) !=0)=true by decide),dz (by simp),aV]
    unfold da
    rw [OX,aV,dR,bv rfl,dR2]
    simp only [lh,jB]
    rw [QB m.Tag (by omega),aV]
    unfold dK
    rw [hz]
    have e1:ep ([]++[(⟨t.flat 0⟩:aA)]) (0:Int)=some ⟨t.flat 0⟩:=rfl
    rw [bm (by simp),bm (by simp),e1,aV,Ur hpk g3 (by omega),aV,bm (by simp)]
    exact MG hc g5 g6 g7 (XU hpk g3) (by simp only [Tr.size];omega) (by simp only [Tr.size];omega) _
 |bi n a aN iha ihb=>
  intro⟨⟨A,V,h3,h4⟩,ha,H⟩ P R N fu fu2 s b g hN hf hf2 hl hs h
  obtain⟨m,hm⟩: ∃m,m=putA n (((P.length+a.size:Nat):Int)-1) (((P.length+a.size+aN.size:Nat):Int)-1):=⟨_,rfl⟩
  simp only [Bt.flat,<-hm]at hN
  simp only [Bt.size]at hf hf2 hs ⊢
  have hap:=a.size_pos
  have hbp:=aN.size_pos
  obtain⟨fu,rfl⟩: ∃k,fu=k+1:=⟨fu-1,by omega⟩
  obtain⟨fu2,rfl⟩: ∃k,fu2=k+1:=⟨fu2-1,by omega⟩
  have D:N[P.length+(a.size+aN.size)]? =some m:=by
   have:=KA (a:=a.flat P.length++aN.flat (P.length+a.size)) (m:=m) hN
   rw [gA,a.flat_len,aN.flat_len]at this
   exact this
  have hNa:N=P++a.flat P.length++(aN.flat (P.length+a.size)++[m]++R):=by rw [hN];simp only [gI]
  have hNb:N=(P++a.flat P.length)++aN.flat (P++a.flat P.length).length++([m]++R):=by rw [hN];simp only [gI,gA,a.flat_len]
  have hi1:=fun s b=>iha ha P _ N fu fu2 s b g hNa (by omega) (by omega) hl (by omega)
  have hi2:=fun s b=>ihb H (P++a.flat P.length) _ N fu fu2 s b g hNb (by omega) (by omega) hl (by omega)
  rw [gA,a.flat_len]at hi2
  have eT:m.Tag=n.Tag:=by rw [hm];rfl
  have eL:m.L=((P.length+a.size:Nat):Int)-1:=by rw [hm];rfl
  have eR:m.R=((P.length+a.size+aN.size:Nat):Int)-1:=by rw [hm];rfl
  have t1: ¬n.Tag=1:=fun e=>by rw [e]at A;cases A
  have t2: ¬n.Tag=2:=fun e=>by rw [e]at A;cases A
  obtain⟨hpk,hag0⟩:=Sg A
  have hag:wv m.Tag=false:=by rw [eT];exact hag0
  have hpk' :pk m.Tag=some 2:=by rw [eT];exact hpk
  unfold cT dT bw cy
  rw [jz (P.length+(a.size+aN.size)) (by omega),D,aV,aV,bm (by simpa [eT] using t1),bm (by simpa [eT] using t2),bm (by simpa [eT] using t1),bm (by simpa [eT] using t2),show lk m.Tag=some (wv m.Tag)from rfl,aV]
  have dL:decide (m.L<(0:Int))=false:=by rw [eL,o7];omega
  have dR:decide (m.R<(0:Int))=false:=by rw [eR,o7];omega
  have dR2:decide ((0:Int)<=m.R)=true:=by rw [eR,mo];omega
  unfold da
  rw [OY,aV,dL]
  simp only [lh,jB]
  have hz:=JO hag
  rw [hag,bm (by decide),hz,AB,Bool.and_true,eL]
  rcases hi1 s b h with⟨e,x,s',x',b',he,g1,g2,g3⟩|⟨t,s',b',g1,g2,g3,g4,g5,g6,g7,g8⟩
  ·rw [show bw fu s ⟨N⟩ bz o4 kq (((P.length+a.size:Nat):Int)-1) g=_ from g1,show cy fu2 b ⟨N⟩ (((P.length+a.size:Nat):Int)-1) g=_ from g2,aV,aV,bv (by simpa using he),bv (by simpa using he)]
   exact Ak he g3
  ·rw [show bw fu s ⟨N⟩ bz o4 kq (((P.length+a.size:Nat):Int)-1) g=_ from g1,show cy fu2 b ⟨N⟩ (((P.length+a.size:Nat):Int)-1) g=_ from g2,aV,aV,bm (show¬((0:Int) !=0)=true by decide),bm (show¬((0:Int) !=0)=true by decide),dz (by simp),aV]
   unfold da
   rw [OX,aV,dR,dR2]
   simp only [lh,jB,i8]
   rw [QB m.Tag (by omega),aV,hz,AB,Bool.and_true,eR]
   rcases hi2 s' b' g5 with⟨e,x,s2,x2,b2,he,k1,k2,k3⟩|⟨u,s2,b2,k1,k2,k3,k4,k5,k6,k7,k8⟩
   ·rw [show bw fu s' ⟨N⟩ bz o4 kq (((P.length+a.size+aN.size:Nat):Int)-1) g=_ from k1,show cy fu2 b' ⟨N⟩ (((P.length+a.size+aN.size:Nat):Int)-1) g=_ from k2,aV,aV,bv (by simpa using he),bv (by simpa using he)]
    exact Ak he (g6.trans k3)
   ·rw [show bw fu s' ⟨N⟩ bz o4 kq (((P.length+a.size+aN.size:Nat):Int)-1) g=_ from k1,show cy fu2 b' ⟨N⟩ (((P.length+a.size+aN.size:Nat):Int)-1) g=_ from k2,aV,aV,bm (show¬((0:Int) !=0)=true by decide),bm (show¬((0:Int) !=0)=true by decide),dz (by simp),aV]
    unfold da
    rw [We m.Tag (by omega) (by omega),aV]
    unfold dK
    rw [hz]
    have e1:ep ([]++[(⟨t.flat 0⟩:aA)]++[(⟨u.flat 0⟩:aA)]) (0:Int)=some ⟨t.flat 0⟩:=rfl
    have e2:ep ([]++[(⟨t.flat 0⟩:aA)]++[(⟨u.flat 0⟩:aA)]) (1:Int)=some ⟨u.flat 0⟩:=rfl
    rw [bm (by simp),bm (by simp),e1,aV,QD m.Tag g3 (by omega),aV,bv (by simp),e2,aV,TH hpk' g3 k3 (by omega),aV]
    refine MG hc k5 (g6.trans k6) (fun hg=>?_) (Yg hpk' g3 k3) (by simp only [Tr.size];omega) (by simp only [Tr.size];omega) _
    obtain⟨q1,q2⟩:=g7 hg
    obtain⟨q3,q4⟩:=k7 hg
    exact⟨q3.trans q1,q4.trans q2⟩
end Go.Proofs.YtigldkegamffhaaGreatDoor


/- de of this claim: B14. -/
set_option linter.all false
namespace Go.Proofs.YtigldkegamffhaaGreatDoor
open Go

def H0{c:aw}(hc:px c){s:ac}{b:ay}(h:ug c s b)(t:bT)(M:jT t.Nodes=true)(g:Bool):
  (∃(e:Int) (s' :ac) (b' :ay),e≠0/\iF s t g=some (⟨[]⟩,0,e,s')/\kS b t g=some (⟨[]⟩,e,b')/\FP s s' b b')\/
  (∃(u:Tr) (s' :ac) (b' :ay),iF s t g=some (⟨u.flat 0⟩,(gK ⟨u.flat 0⟩ (ov s' g)).1,0,s')/\kS b t g=some (⟨u.flat 0⟩,0,b')/\u.wf/\u.size<=300/\ug c s' b' /\FP s s' b b' /\(g=false->s' =s/\b' =b)/\(gK ⟨u.flat 0⟩ (ov s' g)).2=0):=by
 unfold jT at M
 cases hA:yB t.Nodes with
 |none=>rw [hA]at M;cases M
 |some a=>
  obtain⟨hw,hN,hs,_⟩:=ur hA
  have hlen:t.Nodes.length=a.size:=by rw [hN,a.flat_len]
  have hp:=a.size_pos
  have key:=RO hc a hw [] [] t.Nodes iB iB s b g (by simpa using hN) (z6 (by omega)) (z6 (by omega)) (by omega) hs h
  simp only [rk,rj,<-hlen]at key
  have hpl:IntKind.i64.wrap ((t.Nodes.length:Int)-1)=(t.Nodes.length:Int)-1:=dP (by omega) (by omega)
  unfold iF kS vc qR
  rw [A3,aV,hpl]
  rcases key with⟨e,x,s',x',b',he,g1,g2,g3⟩|⟨u,s',b',g1,g2,g3,g4,g5,g6,g7,g8⟩
  ·have g1' :bw iB s t bz o4 kq ((t.Nodes.length:Int)-1) g=some (x,e,s'):=g1
   have g2' :cy iB b t ((t.Nodes.length:Int)-1) g=some (x',e,b'):=g2
   rw [show(bw iB s t bz o4 (fun(mc:ac) (mx:Bool)=>(gD mc mx).map fun mr=>(mr,mc)) ((t.Nodes.length:Int)-1) g)=_ from g1',g2',aV,aV,bv (by simpa using he),bv (by simpa using he)]
   exact .inl ⟨e,s',b',he,rfl,rfl,g3⟩
  ·have g1' :bw iB s t bz o4 kq ((t.Nodes.length:Int)-1) g=some (⟨u.flat 0⟩,0,s'):=g1
   have g2' :cy iB b t ((t.Nodes.length:Int)-1) g=some (⟨u.flat 0⟩,0,b'):=g2
   rw [show(bw iB s t bz o4 (fun(mc:ac) (mx:Bool)=>(gD mc mx).map fun mr=>(mr,mc)) ((t.Nodes.length:Int)-1) g)=_ from g1',g2',aV,aV,bm (by simp),bm (by simp)]
   have hov:(gD s' g).map (fun mr=>(mr,s'))=some (ov s' g,s'):=uF s' g
   simp only
   rw [hov,aV,tN _ _ (by show(u.flat 0).length<=50000;rw [u.flat_len];omega),aV]
   exact .inr ⟨u,s',b',by rw [g8],rfl,g3,by omega,g5,g6,g7,g8⟩
def Bf{c:aw}(hc:px c){s:ac}{b:ay}(h:ug c s b)(t:bT)(M:jT t.Nodes=true)(g:Bool):
  (∃(e:Int) (x x' :aA) (s' :ac) (b' :ay),e≠0/\cC s t g=some (x,e,s')/\jH b t g=some (x',e,b')/\FP s s' b b')\/
  (∃(u:Tr) (s' :ac) (b' :ay),cC s t g=some (⟨u.flat 0⟩,0,s')/\jH b t g=some (⟨u.flat 0⟩,0,b')/\u.wf/\u.size<=300/\ug c s' b' /\FP s s' b b' /\(g=false->s' =s/\b' =b)/\(gK ⟨u.flat 0⟩ (ov s' g)).2=0/\((gK ⟨u.flat 0⟩ (ov s' g)).1=1\/(gK ⟨u.flat 0⟩ (ov s' g)).1=0)):=by
 unfold cC jH mj
 rcases H0 hc h t M g with⟨e,s',b',he,g1,g2,g3⟩|⟨u,s',b',g1,g2,g3,g4,g5,g6,g7,g8⟩
 ·rw [g1,g2,aV,aV,bm (by simp [he]),bv (by simpa using he)]
  exact .inl ⟨e,_,_,s',b',he,rfl,rfl,g3⟩
 ·rw [g1,g2,aV,aV]
  have hd:(kG b'.c b'.out.Tables).bind (fun r1=>if g=true then(kM b'.c b'.out).bind fun r3=>io (⟨u.flat 0⟩,0,b') r3 else io (⟨u.flat 0⟩,0,b') r1)=io (⟨u.flat 0⟩,0,b') (ov s' g):=by
   rw [g5.refKinds hc,aV]
   unfold ov
   cases g with
   |true=>rw [bv rfl,g5.refGroups hc,aV];rfl
   |false=>rfl
  simp only [bne_self_eq_false,lh,jB]
  rw [hd]
  unfold io
  rw [pn,aV]
  by_cases hk:(gK ⟨u.flat 0⟩ (ov s' g)).1=1\/(gK ⟨u.flat 0⟩ (ov s' g)).1=0
  ·rw [bm (by simp;omega),bm (by simp;omega)]
   exact .inr ⟨u,s',b',rfl,rfl,g3,g4,g5,g6,g7,g8,hk⟩
  ·rw [bv (by simp;omega),bv (by simp;omega)]
   exact .inl ⟨226,_,_,s',b',by decide,rfl,rfl,g6⟩
def ug.upd{c:aw}{s:ac}{b:ay}(h:ug c s b)(o:aF)(A:o.Tables=b.out.Tables)(V:o.Keys=b.out.Keys)(h3:o.Aggs=b.out.Aggs)(f:ae)(a:Int):ug c {s with out:=o,from_:=f,at_:=a} {b with out:=o}:=by
 refine⟨h.cat,h.bc,rfl,?_,?_,?_,?_,?_,?_,?_,?_,?_,?_,?_⟩
 all_goals simp only
 ·rw [A];exact h.kinds
 ·rw [A];exact h.len
 ·rw [A];exact h.bad
 ·rw [A];exact h.few
 ·rw [A];exact⟨h.maps.called,h.maps.alone,h.maps.behind,h.maps.once⟩
 ·rw [V,h3];exact h.groups
 ·rw [V];exact h.keys
 ·rw [V];exact h.keysLen
 ·rw [h3];exact h.aggsLen
 ·rw [h3];exact h.aggsOnce
 ·rw [h3];exact h.aggsOk
def KG{tD hb:List Int}: ∀t:Tr,t.wf->HT tD.length t->kd (tD++hb) t=kd tD t
 | .lf n,hw,hc=>by
  unfold kd
  by_cases A:n.Tag=1
  ·rw [bv A,bv A]
  ·have V:n.Tag=2:=by
    rcases pk0 hw.1 with h|h
    ·exact absurd h A
    ·exact h
   have H:=Z6 hw.2.1 V
   have hlt:n.Col<(tD.length:Int):=hc V
   rw [bm A,bm A,Cf (by omega)]
 | .un n a,hw,hc=>by
  rw [Mo,Mo,KG a hw.2 hc]
 | .bi n a b,hw,hc=>by
  rw [Jq,Jq,KG a hw.2.1 hc.1,KG b hw.2.2 hc.2]
def PC{tD hb:List Int}{ns:List ap}(h:np tD.length ns=true):np (tD++hb).length ns=true:=by
 unfold np at h ⊢
 rw [mZ]at h ⊢
 intro n hn
 have:=h n hn
 simp only [yn,Bool.and_eq_false_iff,o7,gA]at this ⊢
 rcases this with h|h
 ·exact .inl h
 ·exact .inr (by omega)
def SB{t:Tr}(hw:t.wf)(hs:t.size<=1000){tD L:List Int}(hp:tD<+:L)(hL: ∀k∈L,k4 k)(h0:(gK ⟨t.flat 0⟩ tD).2=0):gK ⟨t.flat 0⟩ L=gK ⟨t.flat 0⟩ tD:=by
 obtain⟨hb,rfl⟩:=hp
 have hK: ∀k∈tD,k4 k:=fun k hk=>hL k (F4 _ hk)
 rw [uJ hw hs hK]at h0
 have hc:np tD.length (t.flat 0)=true:=by
  cases hc:np tD.length (t.flat 0)with
  |true=>rfl
  |false=>rw [hc]at h0;simp at h0
 rw [uJ hw hs hK,uJ hw hs hL,bv hc,bv (PC hc),KG t hw (zr _ t hw 0 hc)]
def Ka(e:aA)(tD:List Int):Prop:=e.Nodes≠[]/\e.Nodes.length<=1000/\(gK e tD).2=0/\((gK e tD).1=1\/(gK e tD).1=0)
def aco(e:aA)(tD:List Int):Prop:=e.Nodes=[]\/Ka e tD
def J9{u:Tr}(hs:u.size<=300){tD:List Int}(A:(gK ⟨u.flat 0⟩ tD).2=0)(V:(gK ⟨u.flat 0⟩ tD).1=1\/(gK ⟨u.flat 0⟩ tD).1=0):Ka ⟨u.flat 0⟩ tD:=by
 have hl:=u.flat_len 0
 refine⟨fun h=>?_,?_,A,V⟩
 ·have h' :u.flat 0=[]:=h
  have:=u.size_pos
  rw [h']at hl;simp at hl;omega
 ·show(u.flat 0).length<=1000;omega
structure XQ(c:aw)(o:aF):Prop where
 joinsLen:o.Joins.length+1=o.Tables.length
 joins: ∀(i:Nat) (j:eS),o.Joins[i]? =some j->Ka j.On (iz c (o.Tables.take (i+2)))
 cond:aco o.Where (iz c o.Tables)
def XQ.upd{c:aw}{o p:aF}(h:XQ c o)(A:p.Joins=o.Joins)(V:p.Tables=o.Tables)(h3:p.Where=o.Where):XQ c p:=
 ⟨by rw [A,V];exact h.joinsLen,fun i j hj=>by rw [V];exact h.joins i j (A▸hj),by rw [V,h3];exact h.cond⟩
def XQ.join{c:aw}{o p:aF}{k:Int}{j:eS}(h:XQ c o)(A:p.Joins=o.Joins++[j])(V:p.Tables=o.Tables++[k])(h3:p.Where=⟨[]⟩)(hj:Ka j.On (iz c p.Tables)):XQ c p:=by
 have hl:=h.joinsLen
 refine⟨by rw [A,V];simp;omega,fun i y hy=>?_,by rw [h3];exact .inl rfl⟩
 rw [A]at hy
 by_cases hi:i<o.Joins.length
 ·rw [Cf hi]at hy
  have:=h.joins i y hy
  rw [V,yc (by omega)]
  exact this
 ·rw [vZ (by omega)]at hy
  have hi2:i-o.Joins.length=0:=by
   cases D:i-o.Joins.length with
   |zero=>rfl
   |succ n=>rw [D]at hy;simp at hy
  rw [hi2]at hy
  simp only [IT,yv]at hy
  subst hy
  rw [oB (by rw [V];simp;omega)]
  exact hj
structure From(c:aw)(s:ac)(b:ay):Prop where
 rel:ug c s b
 keys:b.out.Keys=[]
 aggs:b.out.Aggs=[]
 items:b.out.Items=[]
 fro:XQ c b.out
 hav:b.out.Having=⟨[]⟩
def Hj{c:aw}(hc:px c)(S:ae): ∀(l:List g9) (s:ac) (b:ay),From c s b->b.sources.length+l.length<=3->b.out.Joins.length+l.length<=1000->l.all xN=true->b.out.Where=⟨[]⟩->
  (∃(e:Int) (s' :ac) (b' :ay),e≠0/\dF l s=some (e,s')/\dJ S l b=some (1,e,b')/\s'.at_=s.at_)\/
  (∃(s' :ac) (b' :ay),dF l s=some (0,s')/\dJ S l b=dJ S [] b' /\From c s' b' /\s'.at_=s.at_/\s'.from_=s.from_)
 |[],s,b,h,_,_,_,_=> .inr ⟨s,b,rfl,rfl,h,rfl,rfl⟩
 |j::l,s,b,h,hl,hl2,hj,hwe=>by
  simp only [iZ]at hl hl2
  simp only [sn,gQ]at hj
  have hj1:jT j.On.Nodes=true:=by
   have:=hj.1
   unfold xN at this
   simp only [gQ]at this
   exact this.1
  unfold dF
  conv=>enter [1,1,e,1,s',1,b',2,2,1];unfold dJ
  conv=>enter [2,1,s',1,b',2,1];lhs;unfold dJ
  rcases EX hc h.rel (by omega) h.keys h.aggs j.Source with⟨e,he,g1,g2⟩|⟨s1,b1,k,g1,g2,g3,g4,g5,g6⟩
  ·rw [g1,g2,aV,aV,bv (by simpa using he),bv (by simpa using he)]
   exact .inl ⟨e,s,b,he,rfl,rfl,rfl⟩
  ·rw [g1,g2,aV,aV,bm (by simp),bm (by simp)]
   rcases Bf hc g3 j.On hj1 false with⟨e,x,x',s2,b2,he,k1,k2,k3⟩|⟨u,s2,b2,k1,k2,k3,k4,k5,k6,k7,k8,k9⟩
   ·rw [k1,k2,aV,aV,bv (by simpa using he),bv (by simpa using he)]
    exact .inl ⟨e,s2,b2,he,rfl,rfl,by rw [k3.1];exact g5⟩
   ·obtain⟨rfl,rfl⟩:=k7 rfl
    rw [k1,k2,aV,aV,bm (by simp),bm (by simp)]
    have ho:=g3.out
    have hJ:b2.out.Joins=b.out.Joins:=by rw [g6]
    rw [dz (by rw [ho,hJ];simp;omega),aV,dz (by rw [hJ];simp;omega),aV]
    have hR:From c {s2 with out:={s2.out with Joins:=s2.out.Joins++[(⟨j.Left,⟨u.flat 0⟩⟩:eS)]}} {b2 with out:={b2.out with Joins:=b2.out.Joins++[(⟨j.Left,⟨u.flat 0⟩⟩:eS)]}}:=by
     rw [ho]
     refine⟨g3.upd {b2.out with Joins:=b2.out.Joins++[(⟨j.Left,⟨u.flat 0⟩⟩:eS)]} rfl rfl rfl s2.from_ s2.at_,?_,?_,?_,?_,?_⟩
     ·show b2.out.Keys=[];rw [g6];exact h.keys
     ·show b2.out.Aggs=[];rw [g6];exact h.aggs
     ·show b2.out.Items=[];rw [g6];exact h.items
     ·refine h.fro.join (k:=k) (j:=(⟨j.Left,⟨u.flat 0⟩⟩:eS)) ?_ ?_ ?_ ?_
      ·show b2.out.Joins++_=_;rw [hJ]
      ·show b2.out.Tables=_;rw [g6]
      ·show b2.out.Where=_;rw [g6];exact hwe
      ·show Ka ⟨u.flat 0⟩ (iz c b2.out.Tables)
       rw [<-g3.kinds]
       exact J9 k4 k8 k9
     ·show b2.out.Having=_;rw [g6];exact h.hav
    have hsl:b2.sources.length=b.sources.length+1:=by rw [g6];simp
    rcases Hj hc S l _ _ hR (by show b2.sources.length+l.length<=3;omega) (by show(b2.out.Joins++_).length+l.length<=1000;rw [hJ];simp;omega) hj.2 (by show b2.out.Where=_;rw [g6];exact hwe)with⟨e,s',b',he,q1,q2,q3⟩|⟨s',b',q1,q2,q3,q4,q5⟩
    ·exact .inl ⟨e,s',b',he,q1,q2,by rw [q3];exact g5⟩
    ·exact .inr ⟨s',b',q1,q2,q3,by rw [q4];exact g5,by rw [q5];exact g4⟩
end Go.Proofs.YtigldkegamffhaaGreatDoor


/- de of this claim: B15. -/
set_option linter.all false
namespace Go.Proofs.YtigldkegamffhaaGreatDoor
open Go

def VP(c:aw)(at_:Int)(f:ae)(P:ac->ay->Prop)(C:Option (Int×ac))(hx:Option (Int×Int×ay)):Prop:=
 (∃(e:Int) (s' :ac) (b' :ay),e≠0/\C=some (e,s')/\hx=some (at_,e,b')/\s'.at_=at_)\/
 (∃(s' :ac) (b' :ay),C=some (0,s')/\hx=some (0,0,b')/\ug c s' b' /\s'.from_=f/\P s' b')
def NQ{c:aw}(hc:px c){s:ac}{b:ay}(h:From c s b)(S:ae)(hS:s.from_=S)(hw:lA S.Where=true):
  (∃(e:Int) (s' :ac) (b' :ay),e≠0/\dC s=some (e,s')/\dJ S [] b=some (2,e,b')/\s'.at_=2)\/
  (∃(s' :ac) (b' :ay),dC s=some (0,s')/\dJ S [] b=jY S.Group b' /\From c s' b' /\s'.from_=S):=by
 have V:From c {s with at_:=2} b:=⟨by
  have:=h.rel.upd b.out rfl rfl rfl s.from_ 2
  rw [<-h.rel.out]at this
  have e:({b with out:=s.out}:ay)=b:=by rw [h.rel.out]
  rw [e]at this
  exact this,h.keys,h.aggs,h.items,h.fro,h.hav⟩
 subst hS
 unfold dC dJ
 dsimp only
 by_cases hl:s.from_.Where.Nodes.length=0
 ·rw [bm (by rw [mo];omega),bm (by rw [mo];omega)]
  exact .inr ⟨_,b,rfl,rfl,V,rfl⟩
 ·have M:jT s.from_.Where.Nodes=true:=by
   unfold lA at hw
   simpa [hl] using hw
  rw [bv (by rw [mo];omega),bv (by rw [mo];omega)]
  rcases Bf hc V.rel s.from_.Where M false with⟨e,x,x',s2,b2,he,k1,k2,k3⟩|⟨u,s2,b2,k1,k2,k3,k4,k5,k6,k7,k8,k9⟩
  ·rw [show cC ({s with at_:=2}:ac) s.from_.Where false=_ from k1,k2,aV,aV,bv (by simpa using he)]
   exact .inl ⟨e,_,b2,he,rfl,rfl,by show s2.at_=2;rw [k3.1]⟩
  ·obtain⟨q1,q2⟩:=k7 rfl
   rw [show cC ({s with at_:=2}:ac) s.from_.Where false=_ from k1,k2,aV,aV,bm (by simp)]
   refine .inr ⟨_,{b2 with out:={b2.out with Where:=⟨u.flat 0⟩}},rfl,rfl,⟨?_,?_,?_,?_,?_,?_⟩,?_⟩
   ·have:=k5.upd {b2.out with Where:=⟨u.flat 0⟩} rfl rfl rfl s2.from_ s2.at_
    rw [<-k5.out]at this ⊢
    exact this
   ·show b2.out.Keys=[];rw [q2];exact h.keys
   ·show b2.out.Aggs=[];rw [q2];exact h.aggs
   ·show b2.out.Items=[];rw [q2];exact h.items
   ·refine⟨?_,?_,.inr ?_⟩
    ·show b2.out.Joins.length+1=b2.out.Tables.length;rw [q2];exact h.fro.joinsLen
    ·intro i j hj
     have hj' :b2.out.Joins[i]? =some j:=hj
     show Ka j.On (iz c (b2.out.Tables.take (i+2)))
     rw [q2]at hj' ⊢
     exact h.fro.joins i j hj'
    ·show Ka ⟨u.flat 0⟩ (iz c b2.out.Tables)
     rw [<-k5.kinds]
     exact J9 k4 k8 k9
   ·show b2.out.Having=_;rw [q2];exact h.hav
   ·show s2.from_=s.from_;rw [q1]
def Ho{c:aw}(hc:px c): ∀(l:List gk) (s:ac) (b:ay),ug c s b->b.out.Aggs=[]->b.out.Items=[]->b.out.Keys.length+l.length<=3->s.at_=3->
  VP c 3 s.from_ (fun _ b' =>b'.out={b.out with Keys:=b'.out.Keys}/\b'.out.Keys.length=b.out.Keys.length+l.length/\b'.out.Aggs=[]/\b'.out.Items=[]) (eW l s) (jY l b)
 |[],s,b,h,ha,hi,_,hat=> .inr ⟨s,b,rfl,rfl,h,rfl,rfl,rfl,ha,hi⟩
 |n::l,s,b,h,ha,hi,hk,hat=>by
  simp only [iZ]at hk
  obtain⟨c1,c2⟩:=h.column hc n
  unfold eW jY
  rw [c1,c2,aV,aV]
  by_cases he:(yh (fb c b.sources b.out.Tables) n.Table n.Name).2=0
  ·obtain⟨k0,k1⟩:=h.colIn n.Table n.Name he
   generalize hcol:(yh (fb c b.sources b.out.Tables) n.Table n.Name).1=k at k0 k1
   rw [bm (by simp [he]),bm (by simp [he]),h.out,dz (by simp;omega),aV,aV]
   have hlt:k.toNat<s.kinds.length:=by omega
   have D:ep s.kinds k=some ((s.kinds[k.toNat]?).getD 0):=by
    unfold ep
    rw [bv k0,qf hlt];rfl
   have hgl:=h.groupsLen
   rw [ha,rk]at hgl
   rw [D,aV,dz (by simp;omega),aV]
   have hR:ug c {s with out:={b.out with Keys:=b.out.Keys++[k]},groups:=s.groups++[(s.kinds[k.toNat]?).getD 0]} {b with out:={b.out with Keys:=b.out.Keys++[k]}}:=by
    refine⟨h.cat,h.bc,rfl,h.kinds,h.len,h.bad,h.few,⟨h.maps.called,h.maps.alone,h.maps.behind,h.maps.once⟩,?_,?_,?_,h.aggsLen,h.aggsOnce,h.aggsOk⟩
    ·simp only
     rw [h.groups,ha]
     simp [wY,Mm]
    ·intro j hj
     rcases A6.1 hj with hj|hj
     ·exact h.keys j hj
     ·rw [A9.1 hj];exact⟨k0,k1⟩
    ·simp only [gA,yb];omega
   rcases Ho hc l _ _ hR ha hi (by simp only [gA,yb];omega) hat with A|⟨s',b',g1,g2,g3,g4,g5,g6,g7,g8⟩
   ·exact .inl A
   ·refine .inr ⟨s',b',g1,g2,g3,g4,g5,?_,g7,g8⟩
    rw [g6];simp;omega
  ·rw [bv (by simpa using he),bv (by simpa using he)]
   exact .inl ⟨_,s,b,he,rfl,rfl,hat⟩
structure NB(c:aw)(s:ac)(b:ay)(n:Nat)(gr:Bool):Prop where
 rel:ug c s b
 len:b.out.Items.length=n
 good: ∀x∈b.out.Items,∃u:Tr,x=⟨u.flat 0⟩/\u.wf/\u.size<=300/\(gK x (ov s gr)).2=0
 grouped:b.out.Grouped=gr
 fro:XQ c b.out
 plain:gr=false->b.out.Keys=[]/\b.out.Aggs=[]
def NB.each{c:aw}{s:ac}{b:ay}{n:Nat}{gr:Bool}(h:NB c s b n gr): ∀x∈b.out.Items,x.Nodes.length<=1000:=fun x D=>by
 obtain⟨u,rfl,_,hs,_⟩:=h.good x D
 show(u.flat 0).length<=1000
 rw [u.flat_len];omega
def Uo{s s' :ac}{b b' :ay}(h:FP s s' b b')(g:Bool):ov s g<+:ov s' g:=by
 unfold ov
 cases g with
 |true=>exact h.2.2
 |false=>
  show s.kinds<+:s'.kinds
  rw [h.1]
  exact List.prefix_refl _
def MC{c:aw}(hc:px c){s s' :ac}{b' :ay}(h:ug c s' b'){gr:Bool}(hp:ov s gr<+:ov s' gr){l:List aA}(hg: ∀x∈l,∃u:Tr,x=⟨u.flat 0⟩/\u.wf/\u.size<=300/\(gK x (ov s gr)).2=0): ∀x∈l,∃u:Tr,x=⟨u.flat 0⟩/\u.wf/\u.size<=300/\(gK x (ov s' gr)).2=0:=fun x D=>by
 obtain⟨u,rfl,A,V,h3⟩:=hg x D
 exact⟨u,rfl,A,V,by rw [SB A (by omega) hp (h.ov4 hc gr) h3];exact h3⟩
def Mx{c:aw}(hc:px c){s:ac}{b:ay}{n:Nat}{gr:Bool}(h:NB c s b n gr)(S:ae)(hS:s.from_=S)(hw:lA S.Having=true)(hh:b.out.Having=⟨[]⟩)(hg:gr=false->S.Having.Nodes.length=0):
  VP c 5 S (fun s' b' =>NB c s' b' n gr/\s'.kinds=s.kinds/\(b'.out.Having.Nodes=[]\/(gr=true/\Ka b'.out.Having (ov s' gr)))) (dy s) (dN S [] b):=by
 have V:ug c {s with at_:=5} b:=by
  have:=h.rel.upd b.out rfl rfl rfl s.from_ 5
  rw [<-h.rel.out]at this
  have e:({b with out:=s.out}:ay)=b:=by rw [h.rel.out]
  rw [e]at this
  exact this
 subst hS
 unfold dy dN
 dsimp only
 by_cases hl:s.from_.Having.Nodes.length=0
 ·rw [bm (by rw [mo];omega),bm (by rw [mo];omega)]
  exact .inr ⟨_,b,rfl,rfl,V,rfl,⟨V,h.len,h.good,h.grouped,h.fro,h.plain⟩,rfl,.inl (by rw [hh])⟩
 ·have hgr:gr=true:=by
   cases D:gr with
   |true=>rfl
   |false=>exact absurd (hg D) hl
  subst hgr
  have M:jT s.from_.Having.Nodes=true:=by
   unfold lA at hw
   simpa [hl] using hw
  rw [bv (by rw [mo];omega),bv (by rw [mo];omega)]
  rcases Bf hc V s.from_.Having M true with⟨e,x,x',s2,b2,he,k1,k2,k3⟩|⟨u,s2,b2,k1,k2,k3,k4,k5,k6,k7,k8,k9⟩
  ·rw [show cC ({s with at_:=5}:ac) s.from_.Having true=_ from k1,k2,aV,aV,bv (by simpa using he)]
   exact .inl ⟨e,_,b2,he,rfl,rfl,by show s2.at_=5;rw [k3.1]⟩
  ·rw [show cC ({s with at_:=5}:ac) s.from_.Having true=_ from k1,k2,aV,aV,bm (by simp)]
   have hR:ug c {s2 with out:={s2.out with Having:=⟨u.flat 0⟩}} {b2 with out:={b2.out with Having:=⟨u.flat 0⟩}}:=by
    have:=k5.upd {b2.out with Having:=⟨u.flat 0⟩} rfl rfl rfl s2.from_ s2.at_
    rw [<-k5.out]at this ⊢
    exact this
   refine .inr ⟨_,{b2 with out:={b2.out with Having:=⟨u.flat 0⟩}},rfl,rfl,hR,?_,⟨hR,?_,?_,?_,?_,fun e=>by cases e⟩,?_,.inr ⟨rfl,J9 k4 k8 k9⟩⟩
   ·show s2.from_=s.from_;rw [k6.1]
   ·show b2.out.Items.length=n;rw [k6.2.1];exact h.len
   ·show∀x∈b2.out.Items,_
    have e:b2.out.Items=b.out.Items:=by rw [k6.2.1]
    rw [e]
    exact MC hc k5 (gr:=true) (Uo k6 true) h.good
   ·show b2.out.Grouped=true;rw [k6.2.1];exact h.grouped
   ·refine h.fro.upd ?_ ?_ ?_
    ·show b2.out.Joins=_;rw [k6.2.1]
    ·show b2.out.Tables=_;rw [k6.2.1]
    ·show b2.out.Where=_;rw [k6.2.1]
   ·show s2.kinds=s.kinds;rw [k6.1]
def Hk{c:aw}(hc:px c)(S:ae): ∀(l:List ev) (s:ac) (b:ay) (n:Nat) (gr:Bool),NB c s b n gr->n+l.length<=1000->l.all uK=true->s.at_=4->
  (∃(e:Int) (s' :ac) (b' :ay),e≠0/\fO l s=some (e,s')/\dN S l b=some (4,e,b')/\s'.at_=4)\/
  (∃(s' :ac) (b' :ay),fO l s=some (0,s')/\dN S l b=dN S [] b' /\NB c s' b' (n+l.length) gr/\s'.from_=s.from_/\s'.kinds=s.kinds/\b'.out.Having=b.out.Having)
 |[],s,b,n,gr,h,_,_,_=> .inr ⟨s,b,rfl,rfl,h,rfl,rfl,rfl⟩
 |x::l,s,b,n,gr,h,hl,D,hat=>by
  simp only [iZ]at hl
  simp only [sn,gQ]at D
  have hx1:jT x.Tree.Nodes=true:=by
   have:=D.1
   unfold uK at this
   simp only [gQ]at this
   exact this.1
  unfold fO
  conv=>enter [1,1,e,1,s',1,b',2,2,1];unfold dN
  conv=>enter [2,1,s',1,b',2,1];lhs;unfold dN
  rw [h.rel.out,h.grouped]
  rcases H0 hc h.rel x.Tree hx1 gr with⟨e,s2,b2,he,k1,k2,k3⟩|⟨u,s2,b2,k1,k2,k3,k4,k5,k6,k7,k8⟩
  ·rw [k1,k2,aV,aV,bv (by simpa using he),bv (by simpa using he)]
   exact .inl ⟨e,s2,b2,he,rfl,rfl,by rw [k3.1];exact hat⟩
  ·rw [k1,k2,aV,aV,bm (by simp),bm (by simp)]
   have hI:b2.out.Items=b.out.Items:=by rw [k6.2.1]
   have hil:=h.len
   simp only
   rw [k5.out,dz (by rw [hI];simp;omega),aV,aV]
   have hR:NB c {s2 with out:={b2.out with Items:=b2.out.Items++[(⟨u.flat 0⟩:aA)]}} {b2 with out:={b2.out with Items:=b2.out.Items++[(⟨u.flat 0⟩:aA)]}} (n+1) gr:=by
    refine⟨k5.upd {b2.out with Items:=b2.out.Items++[(⟨u.flat 0⟩:aA)]} rfl rfl rfl s2.from_ s2.at_,?_,?_,?_,?_,?_⟩
    ·show(b2.out.Items++_).length=n+1
     rw [hI];simp;omega
    ·intro y hy
     rcases A6.1 hy with hy|hy
     ·exact MC hc k5 (gr:=gr) (Uo k6 gr) h.good y (hI▸hy)
     ·rw [A9.1 hy]
      exact⟨u,rfl,k3,k4,k8⟩
    ·show b2.out.Grouped=gr;rw [k6.2.1];exact h.grouped
    ·refine h.fro.upd ?_ ?_ ?_
     ·show b2.out.Joins=_;rw [k6.2.1]
     ·show b2.out.Tables=_;rw [k6.2.1]
     ·show b2.out.Where=_;rw [k6.2.1]
    ·intro e
     show b2.out.Keys=[]/\b2.out.Aggs=[]
     rw [(k7 e).2]
     exact h.plain e
   rcases Hk hc S l _ _ (n+1) gr hR (by omega) D.2 (by show s2.at_=4;rw [k6.1];exact hat)with⟨e,s',b',he,q1,q2,q3⟩|⟨s',b',q1,q2,q3,q4,q5,q6⟩
   ·exact .inl ⟨e,s',b',he,q1,q2,q3⟩
   ·refine .inr ⟨s',b',q1,q2,?_,by rw [q4];show s2.from_=s.from_;rw [k6.1],by rw [q5];show s2.kinds=s.kinds;rw [k6.1],by rw [q6];show b2.out.Having=b.out.Having;rw [k6.2.1]⟩
    have e:n+(x::l).length=n+1+l.length:=by simp only [iZ];omega
    rw [e];exact q3
end Go.Proofs.YtigldkegamffhaaGreatDoor


/- de of this claim: B16. -/
set_option linter.all false
set_option linter.unusedVariables false
namespace Go.Proofs.YtigldkegamffhaaGreatDoor
open Go

def I1{c:aw}(hc:px c)(S:ae): ∀(l:List Int) (i:Nat) (s:ac) (b:ay) (n:Nat),NB c s b n false->i+l.length<=12->n+l.length<=1000->i+l.length<=s.kinds.length->
  ∃(s' :ac) (b' :ay),eV l i s=fP s' /\ld S l i b=ip S b' /\NB c s' b' (n+l.length) false/\s'.from_=s.from_/\s'.at_=s.at_/\s'.kinds=s.kinds/\b'.out.Having=b.out.Having
 |[],i,s,b,n,h,_,_,_=>⟨s,b,rfl,rfl,h,rfl,rfl,rfl,rfl⟩
 |x::l,i,s,b,n,h,hi,hn,hk=>by
  simp only [iZ]at hi hn hk
  unfold eV
  conv=>enter [1,s',1,b',2,1];lhs;unfold ld
  have hil:=h.len
  have hl:=z1 (xr (i:Int)) (uP (k:=(i:Int)) (by omega) (by omega))
  rw [show(⟨2,0,0,(i:Int),⟨0,0,0,[]⟩⟩:ap)=yi (i:Int)from rfl,hl,wm,aV,aV,bm (by simp)]
  simp only
  rw [h.rel.out,dz (by simp;omega),aV,aV]
  have hR:NB c {s with out:={b.out with Items:=b.out.Items++[(⟨(QO (yi (i:Int))).flat 0⟩:aA)]}} {b with out:={b.out with Items:=b.out.Items++[(⟨(QO (yi (i:Int))).flat 0⟩:aA)]}} (n+1) false:=by
   refine⟨h.rel.upd {b.out with Items:=b.out.Items++[(⟨(QO (yi (i:Int))).flat 0⟩:aA)]} rfl rfl rfl s.from_ s.at_,?_,?_,h.grouped,h.fro.upd rfl rfl rfl,h.plain⟩
   ·simp only [gA,yb];omega
   ·intro y hy
    rcases A6.1 hy with hy|hy
    ·exact h.good y hy
    ·rw [A9.1 hy]
     exact⟨QO (yi (i:Int)),rfl,Bx (xr (i:Int)) (uP (by omega) (by omega)),by show 1<=300;omega,Hg (h.rel.ov4 hc false) (by omega) (by show(i:Int)<(s.kinds.length:Int);omega) (by omega)⟩
  obtain⟨s',b',q1,q2,q3,q4,q5,q6,q7⟩:=I1 hc S l (i+1) _ _ (n+1) hR (by omega) (by omega) (by show i+1+l.length<=s.kinds.length;omega)
  refine⟨s',b',q1,q2,?_,q4,q5,q6,q7⟩
  have e:n+(x::l).length=n+1+l.length:=by simp only [iZ];omega
  rw [e];exact q3
def IJ{c:aw}(hc:px c){s:ac}{b:ay}(h:ug c s b)(hi:b.out.Items=[])(S:ae)(hS:s.from_=S)(D:S.Items.all uK=true)(hl:S.Items.length<=6)(hfro:XQ c b.out)(hp:mC S=false->b.out.Keys=[]/\b.out.Aggs=[])(hh:b.out.Having=⟨[]⟩):
  (∃(e:Int) (s' :ac) (b' :ay),e≠0/\dG s=some (e,s')/\kR b S=some (4,e,b')/\s'.at_=4)\/
  (∃(s' :ac) (b' :ay),dG s=some (0,s')/\kR b S=dN S [] b' /\NB c s' b' ((if S.Star then s.kinds.length else 0)+S.Items.length) (mC S)/\s'.from_=S/\s'.kinds=s.kinds/\b'.out.Having=⟨[]⟩):=by
 subst hS
 unfold dG kR
 dsimp only
 rw [BX,GO,aV,aV,aV]
 dsimp only
 rw [h.out,h.refKinds hc]
 generalize mC s.from_=r at hp ⊢
 obtain⟨s1,hs1⟩: ∃s1:ac,s1={s with at_:=4,out:={b.out with Distinct:=s.from_.Distinct,Grouped:=r}}:=⟨_,rfl⟩
 obtain⟨b1,hb1⟩: ∃b1:ay,b1={b with out:={b.out with Distinct:=s.from_.Distinct,Grouped:=r}}:=⟨_,rfl⟩
 have hI:NB c s1 b1 0 r:=by
  rw [hs1,hb1]
  refine⟨h.upd {b.out with Distinct:=s.from_.Distinct,Grouped:=r} rfl rfl rfl s.from_ 4,?_,?_,rfl,hfro.upd rfl rfl rfl,hp⟩
  ·simp [hi]
  ·intro x D;simp only [hi]at D;cases D
 have hf:s1.from_=s.from_:=by rw [hs1]
 have hkl:=hI.rel.kindsLen hc
 have hk1:s1.kinds=s.kinds:=by rw [hs1]
 -- what both do at the end
 have key: ∀(s2:ac) (b2:ay) (n:Nat),NB c s2 b2 n r->n<=12->s2.from_=s.from_->s2.at_=4->s2.kinds=s.kinds->b2.out.Having=⟨[]⟩->n=(if s.from_.Star then s.kinds.length else 0)->
   (∃(e:Int) (s' :ac) (b' :ay),e≠0/\fP s2=some (e,s')/\ip s.from_ b2=some (4,e,b')/\s'.at_=4)\/
   (∃(s' :ac) (b' :ay),fP s2=some (0,s')/\ip s.from_ b2=dN s.from_ [] b' /\NB c s' b' ((if s.from_.Star then s.kinds.length else 0)+s.from_.Items.length) r/\s'.from_=s.from_/\s'.kinds=s.kinds/\b'.out.Having=⟨[]⟩):=by
  intro s2 b2 n V hn hf2 hat hk2 hh2 hn2
  unfold fP ip
  rw [hf2]
  rcases Hk hc s.from_ s.from_.Items s2 b2 n r V (by omega) D hat with h3|⟨s',b',q1,q2,q3,q4,q5,q6⟩
  ·exact .inl h3
  ·exact .inr ⟨s',b',q1,q2,by rw [<-hn2];exact q3,by rw [q4,hf2],by rw [q5,hk2],by rw [q6,hh2]⟩
 cases hst:s.from_.Star with
 |false=>
  simp only [Bool.false_and,lh,jB]
  have:=key s1 b1 0 hI (by omega) hf (by rw [hs1]) hk1 (by rw [hb1];exact hh) (by rw [hst];rfl)
  rw [hs1,hb1]at this
  simp only [hst,lh,jB]at this
  exact this
 |true=>
  simp only [vG,i8]
  cases hr:r with
  |true=>
   simp only [i8]
   exact .inl ⟨227,_,_,by decide,rfl,rfl,rfl⟩
  |false=>
   subst hr
   simp only [lh,jB,aV]
   obtain⟨s2,b2,q1,q2,q3,q4,q5,q6,q7⟩:=I1 hc s.from_ s.kinds 0 s1 b1 0 hI (by rw [<-hk1];omega) (by rw [<-hk1];omega) (by rw [<-hk1];omega)
   rw [hs1]at q1
   rw [hb1]at q2
   have:=key s2 b2 _ q3 (by rw [<-hk1];omega) (by rw [q4,hf]) (by rw [q5,hs1]) (by rw [q6,hk1]) (by rw [q7,hb1];exact hh) (by rw [hst];simp)
   rw [<-q1,<-q2]at this
   simp only [hst,i8]at this
   exact this
def X8:List (ac->Unit->Option (Int×ac)):=[(fun(mc:ac) (mx:Unit)=>dk mc),(fun(mc:ac) (mx:Unit)=>cS mc),(fun(mc:ac) (mx:Unit)=>dC mc),(fun(mc:ac) (mx:Unit)=>dj mc),(fun(mc:ac) (mx:Unit)=>dG mc),(fun(mc:ac) (mx:Unit)=>dy mc)]
def nF{k i:Nat}{e:Int}{s:ac}{f:ac->Unit->Option (Int×ac)}(hf:ep X8 (i:Int)=some f){r:Int×ac}(hr:f s ()=some r):eh (k+1) i e s=if(r.1 !=(0:Int))then some (r.1,r.2)else eh k (i+1) r.1 r.2:=by
 have h0:eh (k+1) i e s=(ep X8 (i:Int)).bind fun fn=>(fn s ()).bind fun r=>if(r.1 !=(0:Int))then lF r.1 r.2 else eh k (i+1) r.1 r.2:=rfl
 rw [h0,hf,aV,hr,aV]
 rfl
def YL:aF:=⟨[],[],⟨[]⟩,⟨[]⟩,false,false,[],[],[]⟩
def Oh(c:aw)(S:ae):ac:=⟨c,S,YL,[],[],[],[],[],0⟩
def bi0(c:aw):ay:=⟨c,[],YL⟩
def acr(c:aw)(S:ae):ug c (Oh c S) (bi0 c):=by
 refine⟨rfl,rfl,rfl,rfl,rfl,?_,?_,⟨?_,?_,?_,?_⟩,rfl,?_,?_,?_,?_,?_⟩
 ·intro t M;cases M
 ·show 0<=3;omega
 ·intro n;rfl
 ·intro n;rfl
 ·intro t n;rfl
 ·exact List.nodup_nil
 ·intro k hk;cases hk
 ·show 0<=3;omega
 ·show 0<=12;omega
 ·exact List.nodup_nil
 ·intro a ha;cases ha
def Xw{β:Type}(S:ae)(b:ay)(tD:Int->Int->ay->Option β):Option β:=(qx b S).bind fun r3=>if(r3.2.1==(0:Int))then((kR r3.2.2 S).bind fun r7=>tD r7.1 r7.2.1 r7.2.2)else(tD r3.1 r3.2.1 r3.2.2)
def LO{c:aw}(hc:px c)(S:ae)(hS:u4 S=true){β:Type}(tD:Int->Int->ay->Option β):
  (∃(e:Int) (s' :ac) (b' :ay),e≠0/\eN (Oh c S)=some (e,s')/\Xw S (bi0 c) tD=tD s'.at_ e b')\/
  (∃(s' :ac) (b' :ay),eN (Oh c S)=some (0,s')/\Xw S (bi0 c) tD=tD 0 0 b' /\NB c s' b' ((if S.Star then(iz c b'.out.Tables).length else 0)+S.Items.length) (mC S)/\s'.from_=S/\(b'.out.Having.Nodes=[]\/(mC S=true/\Ka b'.out.Having (ov s' (mC S))))):=by
 unfold u4 Ix at hS
 simp only [gQ,mo]at hS
 obtain⟨⟨_,hI,hJ,hG⟩,hF,hi,hj,hg,hw,hh⟩:=hS
 have h0:=acr c S
 unfold eN Xw qx
 rcases EX hc h0 (by show 0<=2;omega) rfl rfl S.From with⟨e,he,g1,g2⟩|⟨s1,b1,k,g1,g2,g3,g4,g5,g6⟩
 ·rw [nF (f:=fun(mc:ac) (mx:Unit)=>dk mc) rfl (r:=(e,Oh c S)) (by
   have e0:dk (Oh c S)=(dU (Oh c S) S.From).bind fun r=>some (r.1,r.2):=rfl
   rw [e0,g1];rfl),bv (by simpa using he),g2,aV,bv (by simpa using he),aV,bm (by simpa using he)]
  exact .inl ⟨e,_,_,he,rfl,rfl⟩
 ·rw [nF (f:=fun(mc:ac) (mx:Unit)=>dk mc) rfl (r:=(0,s1)) (by
   have e0:dk (Oh c S)=(dU (Oh c S) S.From).bind fun r=>some (r.1,r.2):=rfl
   rw [e0,g1];rfl),bm (by simp),g2,aV,bm (by simp)]
  have hF1:From c {s1 with at_:=1} b1:=by
   have hu:=g3.upd b1.out rfl rfl rfl s1.from_ 1
   rw [<-g3.out]at hu
   have e:({b1 with out:=s1.out}:ay)=b1:=by rw [g3.out]
   rw [e]at hu
   exact⟨hu,by rw [g6];rfl,by rw [g6];rfl,by rw [g6];rfl,⟨by rw [g6];rfl,fun i j hj=>(by rw [g6]at hj;simp [bi0,YL]at hj),by rw [g6];exact .inl rfl⟩,by rw [g6];rfl⟩
  have hs1:b1.sources.length=1:=by rw [g6];rfl
  have hj1:b1.out.Joins=[]:=by rw [g6];rfl
  have hf1:s1.from_=S:=g4
  rcases Hj hc S S.Joins _ b1 hF1 (by omega) (by rw [hj1];simp;omega) hj (by rw [g6];rfl)with⟨e,s2,b2,he,k1,k2,k3⟩|⟨s2,b2,k1,k2,k3,k4,k5⟩
  ·rw [nF (f:=fun(mc:ac) (mx:Unit)=>cS mc) rfl (r:=(e,s2)) (by
    show cS s1=_
    unfold cS
    dsimp only
    rw [hf1]
    rw [hf1]at k1
    exact k1),bv (by simpa using he),show dJ S S.Joins b1=_ from k2,aV,bm (by simpa using he)]
   refine .inl ⟨e,s2,b2,he,rfl,?_⟩
   rw [k3]
  ·rw [nF (f:=fun(mc:ac) (mx:Unit)=>cS mc) rfl (r:=(0,s2)) (by
    show cS s1=_
    unfold cS
    dsimp only
    rw [hf1]
    rw [hf1]at k1
    exact k1),bm (by simp),show dJ S S.Joins b1=_ from k2]
   have hf2:s2.from_=S:=by rw [k5];exact hf1
   rcases NQ hc k3 S hf2 hw with⟨e,s3,b3,he,q1,q2,q3⟩|⟨s3,b3,q1,q2,q3,q4⟩
   ·rw [nF (f:=fun(mc:ac) (mx:Unit)=>dC mc) rfl (r:=(e,s3)) q1,bv (by simpa using he),q2,aV,bm (by simpa using he)]
    refine .inl ⟨e,s3,b3,he,rfl,?_⟩
    rw [q3]
   ·rw [nF (f:=fun(mc:ac) (mx:Unit)=>dC mc) rfl (r:=(0,s3)) q1,bm (by simp),q2]
    have hu:=q3.rel.upd b3.out rfl rfl rfl s3.from_ 3
    rw [<-q3.rel.out]at hu
    have e3:({b3 with out:=s3.out}:ay)=b3:=by rw [q3.rel.out]
    rw [e3]at hu
    have hgb:=Ho hc S.Group {s3 with at_:=3} b3 hu q3.aggs q3.items (by rw [q3.keys];simp;omega) rfl
    rcases hgb with⟨e,s4,b4,he,w1,w2,w3⟩|⟨s4,b4,w1,w2,w3,w4,w7,w8,w5,w6⟩
    ·rw [nF (f:=fun(mc:ac) (mx:Unit)=>dj mc) rfl (r:=(e,s4)) (by
      show dj s3=_
      unfold dj
      dsimp only
      rw [q4]
      rw [q4]at w1
      exact w1),bv (by simpa using he),w2,aV,bm (by simpa using he)]
     refine .inl ⟨e,s4,b4,he,rfl,?_⟩
     rw [w3]
    ·rw [nF (f:=fun(mc:ac) (mx:Unit)=>dj mc) rfl (r:=(0,s4)) (by
      show dj s3=_
      unfold dj
      dsimp only
      rw [q4]
      rw [q4]at w1
      exact w1),bm (by simp),w2,aV,bv (by rfl)]
     have hf4:s4.from_=S:=by rw [w4];exact q4
     simp only
     have hgl:mC S=false->S.Group.length=0/\S.Having.Nodes.length=0:=fun e=>by
      unfold mC at e
      simp only [Ci,o7]at e
      omega
     rcases IJ hc w3 w6 S hf4 hi hI (q3.fro.upd (by rw [w7]) (by rw [w7]) (by rw [w7])) (fun e=>⟨wA (by rw [w8,q3.keys,(hgl e).1];rfl),w5⟩) (by rw [w7];exact q3.hav)with⟨e,s5,b5,he,v1,v2,v3⟩|⟨s5,b5,v1,v2,v3,v4,v5,v6⟩
     ·rw [nF (f:=fun(mc:ac) (mx:Unit)=>dG mc) rfl (r:=(e,s5)) v1,bv (by simpa using he),v2,aV]
      refine .inl ⟨e,s5,b5,he,rfl,?_⟩
      rw [v3]
     ·rw [nF (f:=fun(mc:ac) (mx:Unit)=>dG mc) rfl (r:=(0,s5)) v1,bm (by simp),v2]
      rcases Mx hc v3 S v4 hh v6 (fun e=>(hgl e).2)with⟨e,s6,b6,he,y1,y2,y3⟩|⟨s6,b6,y1,y2,y3,y4,y5,y6,y7⟩
      ·rw [nF (f:=fun(mc:ac) (mx:Unit)=>dy mc) rfl (r:=(e,s6)) y1,bv (by simpa using he),y2,aV]
       refine .inl ⟨e,s6,b6,he,rfl,?_⟩
       rw [y3]
      ·rw [nF (f:=fun(mc:ac) (mx:Unit)=>dy mc) rfl (r:=(0,s6)) y1,bm (by simp),y2,aV]
       refine .inr ⟨s6,b6,rfl,rfl,?_,y4,y7⟩
       rw [<-y3.kinds,y6,v5]
       exact y5
end Go.Proofs.YtigldkegamffhaaGreatDoor


/- de of this claim: B17. -/
set_option linter.all false
set_option linter.unusedVariables false
namespace Go.Proofs.YtigldkegamffhaaGreatDoor
open Go

def HU: ∀(t p:List bJ),HV p t=true->(t.map fun x=>x.Name).Nodup/\ ∀x∈t,∀y∈p,y.Name≠x.Name
 |[],p,_=>⟨List.nodup_nil,fun x D=>by cases D⟩
 |x::t,p,h=>by
  have h0:HV p (x::t)=((iY x.Name&&vk x.Kind&& !FG p x)&&HV (p++[x]) t):=rfl
  rw [h0]at h
  simp only [gQ,yn]at h
  obtain⟨⟨_,V⟩,h3⟩:=h
  obtain⟨g1,g2⟩:=HU t (p++[x]) h3
  refine⟨?_,?_⟩
  ·rw [pE,IP]
   refine⟨fun hm=>?_,g1⟩
   obtain⟨y,hy,he⟩:=qY.1 hm
   exact g2 y hy x (PZ _ (Qf _)) he.symm
  ·intro z hz y hy
   rcases f7.1 hz with rfl|hz
   ·intro he
    have:FG p z=true:=by
     unfold FG
     rw [Dx]
     exact⟨y,hy,by simpa using he⟩
    rw [this]at V;cases V
   ·exact g2 z hz y (F4 _ hy)
def aac{c:aw}(h:HX c=true):px c:=by
 unfold HX at h
 simp only [gQ,mo]at h
 obtain⟨hl,M⟩:=h
 rw [Kf,gQ]at M
 have hall: ∀t∈c.Tables,wC t=true:=fun t h=>by
  have:=M.1
  rw [mZ]at this
  exact this t h
 have h4: ∀t∈c.Tables,t.Columns.length<=4/\HV [] t.Columns=true:=fun t h=>by
  have:=hall t h
  unfold wC at this
  simp only [gQ,mo]at this
  exact⟨this.1.2,this.2.1⟩
 refine⟨⟨fun t h=>?_,by omega,fun t h=>(HU _ _ (h4 t h).2).1⟩,fun t h=>(h4 t h).1,fun t h x D=>?_⟩
 ·have:=(h4 t h).1;omega
 ·have:=(h4 t h).2
  rw [Lb,gQ,mZ]at this
  exact this.2 x D
def SA{N:List cx}(h:jT N=true): ∃m,ep N (IntKind.i64.wrap ((N.length:Int)-1))=some m/\re m=true:=by
 unfold jT at h
 cases hA:yB N with
 |none=>rw [hA]at h;cases h
 |some a=>
  obtain⟨hw,hN,hs,_⟩:=ur hA
  have hlen:N.length=a.size:=by rw [hN,a.flat_len]
  have hp:=a.size_pos
  have key: ∃(P:List cx) (m:cx),N=P++[m]/\re m=true:=by
   cases a with
   |lf n=>exact⟨[],_,hN,by rw [HW];exact hw.2.1⟩
   |un n a=>exact⟨_,_,hN,by rw [HW];exact hw.1.2.1⟩
   |bi n a b=>exact⟨_,_,hN,by rw [HW];exact hw.1.2.1⟩
  obtain⟨P,m,hP,hm⟩:=key
  refine⟨m,?_,hm⟩
  have hlP:N.length=P.length+1:=by rw [hP];simp
  rw [dP (by omega) (by omega),hlP,show(((P.length+1:Nat):Int)-1)=(P.length:Int) by omega,hP]
  exact nd P m []
def S2{m:cx}(h:re m=true)(V:m.Tag≠2):m.Name=[]:=by
 unfold re at h
 rw [bm V]at h
 split at h
 ·simp only [gQ,tg]at h;exact h.1.2
 ·simp only [gQ,tg]at h;exact h.2.2
def G9: ∀(l:List ev) (out:List cj),l.all uK=true->out.length+l.length<=1000-> ∃R,dE l out=some R/\mu l out=some R/\R.length=out.length+l.length
 |[],out,_,_=>⟨out,rfl,rfl,by simp⟩
 |x::l,out,h,hl=>by
  simp only [sn,gQ]at h
  simp only [iZ]at hl
  have D:jT x.Tree.Nodes=true:=by
   have:=h.1
   unfold uK at this
   simp only [gQ]at this
   exact this.1
  obtain⟨m,g1,g2⟩:=SA D
  have ih:=fun out=>G9 l out h.2
  unfold dE mu
  rw [g1,aV,aV]
  unfold ml uA
  have step: ∀s:cj,∃R,((lr out [s]).bind fun out2=>dE l out2)=some R/\((lr out [s]).bind fun out2=>mu l out2)=some R/\R.length=out.length+(x::l).length:=fun s=>by
   rw [dz (by simp;omega),aV,aV]
   obtain⟨R,q1,q2,q3⟩:=ih (out++[s]) (by simp;omega)
   exact⟨R,q1,q2,by simp at q3 ⊢;omega⟩
  by_cases ha:x.As=[]
  ·rw [bv (by simpa using ha)]
   by_cases M:m.Tag=2
   ·rw [bv (by rw [ha,M];rfl)]
    exact step m.Name
   ·rw [bm (by simp [M]),ha,S2 g2 M]
    exact step []
  ·rw [bm (by simpa using ha),bm (by simp [ha])]
   exact step x.As
def G8(nx:List cj->Option (List cj)): ∀(l:List bJ) (out:List cj),out.length+l.length<=100000->jp nx l out=nx (out++l.map fun x=>x.Name)/\nU nx l out=nx (out++l.map fun x=>x.Name)
 |[],out,_=>⟨by unfold jp;simp,by unfold nU;simp⟩
 |x::l,out,h=>by
  simp only [iZ]at h
  obtain⟨q1,q2⟩:=G8 nx l (out++[x.Name]) (by simp;omega)
  unfold jp nU
  rw [dz (by simp;omega),aV,aV,q1,q2]
  simp
def Mf{c:aw}(hc:px c)(s:ac)(S:ae)(hS:s.from_=S)(hcat:s.Catalog=c)(D:S.Items.all uK=true)(hl:S.Items.length<=6): ∀(l:List Int) (out:List cj),(∀t∈l,H4 c t=false)->out.length+l.length*4<=900-> ∃R,dD s l out=some R/\nV c S l out=some R/\R.length=out.length+(iz c l).length+S.Items.length
 |[],out,_,ho=>by
  unfold dD nV ik qv
  rw [hS]
  obtain⟨R,q1,q2,q3⟩:=G9 S.Items out D (by simp at ho;omega)
  exact⟨R,q1,q2,by simp [iz];omega⟩
 |t::l,out,H,ho=>by
  simp only [iZ]at ho
  obtain⟨x,g1,g2,g3⟩:=F0 (H t (lg ..))
  have h4:=hc.cols4 x g3
  obtain⟨R,q1,q2,q3⟩:=Mf hc s S hS hcat D hl l (out++x.Columns.map fun x=>x.Name) (fun y hy=>H y (li _ hy)) (by simp;omega)
  unfold dD nV
  rw [hcat,g1,aV,aV,(G8 _ x.Columns out (by omega)).1,(G8 _ x.Columns out (by omega)).2]
  have e:(iz c (t::l)).length=x.Columns.length+(iz c l).length:=by simp [iz,g2]
  exact⟨R,q1,q2,by rw [e];simp at q3;omega⟩
def OK{c:aw}(hc:px c){s:ac}{b:ay}(h:ug c s b)(S:ae)(hS:s.from_=S)(D:S.Items.all uK=true)(hl:S.Items.length<=6): ∃R,fW s=some R/\yP c S b.out.Tables=some R/\R.length=(if S.Star then(iz c b.out.Tables).length else 0)+S.Items.length:=by
 unfold fW yP
 rw [hS,h.out]
 have hf:=h.few
 by_cases hs:S.Star=true
 ·rw [bv hs,bv hs]
  obtain⟨R,q1,q2,q3⟩:=Mf hc s S hS h.cat D hl b.out.Tables [] h.bad (by simp;omega)
  exact⟨R,q1,q2,by rw [bv hs,q3];simp⟩
 ·rw [bm hs,bm hs]
  unfold ik qv
  rw [hS]
  obtain⟨R,q1,q2,q3⟩:=G9 S.Items [] D (by simp;omega)
  exact⟨R,q1,q2,by rw [bm hs,q3];simp⟩
def wo(over:List Int): ∀(l:List aA) (out:List Int),(∀x∈l,x.Nodes.length<=1000)->out.length+l.length<=1000->gL over l out=some (out++l.map fun x=>(gK x over).1)/\kT over l out=some (out++l.map fun x=>(gK x over).1)
 |[],out,_,_=>⟨by unfold gL;simp,by unfold kT;simp⟩
 |x::l,out,h,hl=>by
  simp only [iZ]at hl
  obtain⟨q1,q2⟩:=wo over l (out++[(gK x over).1]) (fun y hy=>h y (li _ hy)) (by simp;omega)
  have D:=h x (lg ..)
  unfold gL kT
  rw [tN _ _ (by omega),pn,aV,aV,dz (by simp;omega),aV,aV,q1,q2]
  simp
def OP{c:aw}(hc:px c){s:ac}{b:ay}{n:Nat}{gr:Bool}(h:NB c s b n gr)(hn:n<=100): ∃R:List Int,gX s=some R/\s9 c b.out=some R/\R=b.out.Items.map fun x=>(gK x (ov s gr)).1:=by
 have hr:=h.rel
 have hk:=hr.refKinds hc
 have hg:=hr.refGroups hc
 rw [hr.bc]at hk hg
 have hl:=h.len
 refine⟨b.out.Items.map fun x=>(gK x (ov s gr)).1,?_,?_,rfl⟩
 ·unfold gX ke
  rw [hr.out,h.grouped]
  unfold ov
  cases gr with
  |true=>rw [bv rfl,bv rfl,(wo _ _ _ h.each (by simp;omega)).1];simp
  |false=>rw [bm (by simp),bm (by simp),(wo _ _ _ h.each (by simp;omega)).1];simp
 ·unfold s9 pI
  rw [hk,aV,h.grouped]
  unfold ov
  cases gr with
  |true=>rw [bv rfl,bv rfl,hg,aV,(wo _ _ _ h.each (by simp;omega)).2];simp
  |false=>rw [bm (by simp),bm (by simp),(wo _ _ _ h.each (by simp;omega)).2];simp
def J8:List Int->List Int->Option (List Int)
 |x::a,y::b=>if x=0 then(J8 a b).map (y:: ·)else if y≠0/\y≠x then none else(J8 a b).map (x:: ·)
 |_,_=>some []
def Ly{x:Int}(h:x=0)(a:List Int)(y:Int)(b:List Int):J8 (x::a) (y::b)=(J8 a b).map (y:: ·):=bv h
def Qk{x:Int}(h: ¬x=0)(a:List Int){y:Int}(hy:y≠0/\y≠x)(b:List Int):J8 (x::a) (y::b)=none:=by
 show(if x=0 then _ else if y≠0/\y≠x then none else _)=_
 rw [bm h,bv hy]
def Ql{x:Int}(h: ¬x=0)(a:List Int){y:Int}(hy: ¬(y≠0/\y≠x))(b:List Int):J8 (x::a) (y::b)=(J8 a b).map (x:: ·):=by
 show(if x=0 then _ else if y≠0/\y≠x then none else _)=_
 rw [bm h,bm hy]
def Qm: ∀{a b r:List Int},J8 a b=some r->r.length<=a.length
 |[],b,r,h=>by
  unfold J8 at h
  cases h;simp
 |x::a,[],r,h=>by
  unfold J8 at h;cases h;simp
 |x::a,y::b,r,h=>by
  unfold J8 at h
  have ih:=fun r (h:J8 a b=some r)=>Qm h
  cases hu:J8 a b with
  |none=>
   rw [hu]at h
   split at h
   ·cases h
   ·split at h<;>cases h
  |some q=>
   rw [hu]at h
   have:=ih q hu
   split at h
   ·cases h;simp;omega
   ·split at h
    ·cases h
    ·cases h;simp;omega
def Lx: ∀(a l pre:List Int),a.length=l.length->(∃r,J8 a l=some r/\jS l pre.length (pre++a)=some (true,pre++r))\/(J8 a l=none/\ ∃z,jS l pre.length (pre++a)=some (false,z))
 |[],[],pre,_=> .inl ⟨[],rfl,rfl⟩
 |x::a,y::l,pre,h=>by
  have ih:=fun v=>Lx a l (pre++[v]) (by simpa using h)
  simp only [gA,yb,gI,Iq]at ih
  unfold jS
  rw [nd,aV]
  by_cases D:x=0
  ·rw [Ly D,bv (by simpa using D),rR,aV]
   rcases ih y with⟨r,g1,g2⟩|⟨g1,g2⟩
   ·exact .inl ⟨y::r,by rw [g1];rfl,g2⟩
   ·exact .inr ⟨by rw [g1];rfl,g2⟩
  ·rw [bm (by simpa using D)]
   by_cases hy:y≠0/\y≠x
   ·rw [Qk D a hy,bv (by simpa using hy)]
    exact .inr ⟨rfl,_,rfl⟩
   ·rw [Ql D a hy,bm (by simpa using hy)]
    rcases ih x with⟨r,g1,g2⟩|⟨g1,g2⟩
    ·exact .inl ⟨x::r,by rw [g1];rfl,g2⟩
    ·exact .inr ⟨by rw [g1];rfl,g2⟩
def IW(b:List Int): ∀(a l pre out:List Int),a.length=l.length->b=pre++l->out.length+a.length<=100000->lj b a pre.length out=some (match J8 a l with
  |some r=>(out++r,true)
  |none=>([],false))
 |[],[],pre,out,_,_,_=>by unfold lj J8;simp
 |x::a,y::l,pre,out,h,H,ho=>by
  simp only [iZ]at ho
  have ih:=fun out=>IW b a l (pre++[y]) out (by simpa using h) (by rw [H];simp)
  simp only [gA,yb]at ih
  unfold lj
  rw [H,nd,<-H]
  unfold s7
  rw [H,nd,<-H]
  simp only [aV]
  by_cases D:x=0
  ·rw [Ly D,bv (by simpa using D),bm (by simp),dz (by simp;omega),aV,ih _ (by simp;omega)]
   cases J8 a l with
   |none=>rfl
   |some r=>simp
  ·rw [bm (by simpa using D)]
   by_cases hy:y≠0/\y≠x
   ·rw [Qk D a hy,bv (by simpa using hy)]
   ·rw [Ql D a hy,bm (by simpa using hy),dz (by simp;omega),aV,ih _ (by simp;omega)]
    cases J8 a l with
    |none=>rfl
    |some r=>simp
def NV(a l:List Int)(ha:a.length<=1000):(∃r,nu a l=some (true,r)/\tB a l=some (r,true)/\r.length<=a.length)\/(∃z,nu a l=some (false,z)/\tB a l=some ([],false)):=by
 unfold nu tB
 by_cases h:a.length=l.length
 ·rw [bm (by simp [h]),bm (by simp [h])]
  have V:=IW l a l [] [] h rfl (by simp;omega)
  rcases Lx a l [] h with⟨r,g1,g2⟩|⟨g1,z,g2⟩
  ·rw [g1]at V
   exact .inl ⟨r,g2,V,Qm g1⟩
  ·rw [g1]at V
   exact .inr ⟨z,g2,V⟩
 ·rw [bv (by simp;omega),bv (by simp;omega)]
  exact .inr ⟨a,rfl,rfl⟩
def OU(v:cj): ∀(l:List cj) (i:Nat),d8 v l i=some (if v∈l then((i+l.idxOf v:Nat):Int)else -1)
 |[],i=>rfl
 |x::l,i=>by
  unfold d8
  by_cases h:v=x
  ·subst h
   rw [bv (by simp)]
   simp
  ·rw [bm (by simpa using h),OU v l (i+1)]
   have A:(v∈x::l)=(v∈l):=by simp [h]
   have V:(x::l).idxOf v=l.idxOf v+1:=by
    have:(x==v)=false:=by simpa using Ne.symm h
    rw [List.idxOf_cons,this];rfl
   simp only [A,V]
   by_cases hm:v∈l
   ·rw [bv hm,bv hm];congr 2;omega
   ·rw [bm hm,bm hm]
def KF(k:rQ): ∀(l:List cj) (i:Nat) (f m:Int),k.Name∉l->fM k l i f m=fM k [] 0 f m
 |[],i,f,m,_=>rfl
 |x::l,i,f,m,h=>by
  have A: ¬x=k.Name:=fun e=>h (by rw [e];exact lg ..)
  conv=>lhs;unfold fM
  rw [bm (by simpa using A),KF k l (i+1) f m (fun e=>h (li _ e))]
def Mn(k:rQ)(q:List cj): ∀(p:List cj) (i:Nat) (f m:Int),k.Name∉p->fM k (p++q) i f m=fM k q (i+p.length) f m
 |[],i,f,m,_=>rfl
 |x::p,i,f,m,h=>by
  have A: ¬x=k.Name:=fun e=>h (by rw [e];exact lg ..)
  rw [xZ]
  conv=>lhs;unfold fM
  rw [bm (by simpa using A),Mn k q p (i+1) f m (fun e=>h (li _ e))]
  simp only [iZ]
  congr 1;omega
def Hh(k:rQ): ∀(l:List cj) (i:Nat) (f m:Int),1<=m->m+l.length<=1000000->(2<=m\/k.Name∈l)->fM k l i f m=some (0,223)
 |[],i,f,m,A,V,h3=>by
  have:2<=m:=by
   rcases h3 with h|h
   ·exact h
   ·cases h
  unfold fM
  rw [bm (by simp;omega),bm (by simp;omega)]
 |x::l,i,f,m,A,V,h3=>by
  simp only [iZ]at V
  unfold fM
  by_cases D:x=k.Name
  ·rw [bv (by simpa using D),dP (by omega) (by omega)]
   exact Hh k l _ _ _ (by omega) (by omega) (.inl (by omega))
  ·rw [bm (by simpa using D)]
   refine Hh k l _ _ _ A (by omega) ?_
   rcases h3 with h|h
   ·exact .inl h
   ·rcases f7.1 h with h|h
    ·exact absurd h.symm D
    ·exact .inr h
def UK(k:rQ)(names:List cj)(hl:names.length<=1000): ∃R,Dh k names=some R/\D4 k names=some R:=by
 unfold Dh D4
 by_cases hn:k.Name=[]
 ·have H:(k.Name==([]:cj))=true:=by simpa using hn
  simp only [H,i8]
  split
  ·exact⟨_,rfl,rfl⟩
  ·exact⟨_,rfl,rfl⟩
 ·have H:(k.Name==([]:cj))=false:=by simpa using hn
  simp only [H,lh,jB]
  unfold fR
  rw [OU,aV]
  by_cases hm:k.Name∈names
  ·rw [bv hm,bm (by rw [mo];omega)]
   have hi:=Qg hm
   obtain⟨j,hj⟩: ∃j,j=names.idxOf k.Name:=⟨_,rfl⟩
   rw [<-hj]at hi ⊢
   have hsp:names=names.take j++k.Name::names.drop (j+1):=by
    have e1:names[j]=k.Name:=by
     have:=List.getElem_idxOf (x:=k.Name) (xs:=names) (by rw [<-hj];exact hi)
     simpa [<-hj] using this
    conv=>lhs;rw [<-ra j names,rn hi,e1]
   have hno:k.Name∉names.take j:=by
    intro h
    have A:(names.take j).idxOf k.Name<(names.take j).length:=Qg h
    have V:names.idxOf k.Name=(names.take j).idxOf k.Name:=by
     conv=>lhs;rw [<-ra j names]
     rw [List.idxOf_append,bv h]
    rw [ym]at A
    omega
   have hlt:(names.take j).length=j:=by rw [ym];omega
   rw [dP (by omega) (by omega),show(((0+j:Nat):Int)+1)=((j+1:Nat):Int) by omega,we (by omega) (gu _),aV,oB (gu _)]
   unfold f9 fR
   rw [OU,aV,aV]
   have hr:fM k names 0 0 0=fM k (names.drop (j+1)) (j+1) (j:Int) 1:=by
    conv=>lhs;rw [hsp]
    rw [Mn k _ _ _ _ _ hno,hlt]
    conv=>lhs;unfold fM
    rw [bv (by simp),dP (by omega) (by omega)]
    simp
   rw [hr]
   have hdl:(names.drop (j+1)).length<=1000:=by simp;omega
   by_cases V:k.Name∈names.drop (j+1)
   ·rw [bv V,bv (by rw [mo];omega),Hh k _ _ _ _ (by omega) (by omega) (.inr V)]
    exact⟨_,rfl,rfl⟩
   ·rw [bm V,bm (by rw [mo];omega),KF k _ _ _ _ V]
    refine⟨_,rfl,?_⟩
    unfold fM
    simp
  ·rw [bm hm,bv (by rw [mo];omega),KF k _ _ _ _ hm]
   exact⟨_,rfl,rfl⟩
end Go.Proofs.YtigldkegamffhaaGreatDoor


/- de of this claim: B18. -/
set_option linter.all false
set_option linter.unusedVariables false
namespace Go.Proofs.YtigldkegamffhaaGreatDoor
open Go

def G4: ∀(l:List rQ) (x b:bf),b.Names.length<=1000->b.Order.length+l.length<=1000-> ∃R,qS l x b=some R/\rU l x b=some R
 |[],x,b,_,_=>⟨_,rfl,rfl⟩
 |k::l,x,b,hn,ho=>by
  simp only [iZ]at ho
  obtain⟨R,g1,g2⟩:=UK k b.Names hn
  unfold qS rU
  rw [g1,g2,aV,aV]
  by_cases h:R.2=0
  ·rw [bm (by simpa using h),bm (by simpa using h),dz (by simp;omega),aV,aV]
   exact G4 l x _ hn (by simp;omega)
  ·rw [bv (by simpa using h),bv (by simpa using h)]
   exact⟨_,rfl,rfl⟩
def H3(nx:Nat->bf->bf->Option (bf×Int×Int))(i:Nat)(e:Int)(s:ac)(x b:bf)(h:b.Selects.length<=1000):gE nx i (e,s) x b=nx (i+1) x {b with Selects:=b.Selects++[s.out]}:=by
 unfold gE
 rw [dz (by simp;omega),aV]
def H2(nx:Nat->bf->bf->Option (bf×Int×Int))(i:Nat)(o:bf)(s:ay)(x b:bf)(h:b.Selects.length<=1000):rW nx i o s x b=nx (i+1) x {b with Selects:=b.Selects++[s.out]}:=by
 unfold rW
 rw [dz (by simp;omega),aV]
def CB{c:aw}(hc:px c)(q:be)(hk:q.Keys.length<=3): ∀(l:List ae) (i:Nat) (x b:bf),l.all u4=true->i+l.length<=100->b.Selects.length=i->b.Kinds.length<=100->b.Names.length<=100->b.Order=[]->
    ∃R,dn c q l i x b=some R/\kH c q l i x b=some R
  |[],i,x,b,_,_,_,_,hn,ho=>by
    unfold dn kH
    exact G4 q.Keys x b (by omega) (by rw [ho];simp;omega)
  |S::l,i,x,b,hl,hi,hs,hkl,hnl,ho=>by
    simp only [sn,gQ]at hl
    simp only [iZ]at hi
    have ih:=fun x b=>CB hc q hk l (i+1) x b hl.2 (by omega)
    have hI:S.Items.all uK=true/\S.Items.length<=6:=by
      have:=hl.1
      unfold u4 Ix at this
      simp only [gQ,mo]at this
      exact⟨this.2.2.1,this.1.2.1⟩
    have hc1:dn c q (S::l) i x b=(eN (Oh c S)).bind fun r3=>
      if(r3.1 !=(0:Int))then
      (some ((⟨[],[],[],[],(0:Int)⟩:bf),(IntKind.i64.wrap ((IntKind.i64.wrap ((10:Int)*(i:Int)))+r3.2.at_)),r3.1))
      else
      ((gX r3.2).bind fun r4=>
      if((i:Int)==(0:Int))then
      ((fW r3.2).bind fun r5=>
      gE (dn c q l) i r3 x {b with Names:=r5,Kinds:=r4})
      else
      ((nu b.Kinds r4).bind fun r6=>
      if(!r6.1)then
      (some ((⟨[],[],[],[],(0:Int)⟩:bf),(IntKind.i64.wrap ((IntKind.i64.wrap ((10:Int)*(i:Int)))+(6:Int))),(229:Int)))
      else
      (gE (dn c q l) i r3 x ({b with Kinds:=r6.2}:bf)))):=rfl
    have hd1:kH c q (S::l) i x b=Xw S (bi0 c) (fun at1 e2 ob=>nH c (kH c q l) i S x b at1 e2 ob):=rfl
    rw [hc1,hd1]
    rcases LO hc S hl.1 (fun at1 e2 ob=>nH c (kH c q l) i S x b at1 e2 ob)with⟨e,s',b',he,g1,g2⟩|⟨s',b',g1,g2,g3,g4,_⟩
    · rw [g1,g2,aV]
      unfold nH
      rw [bv (by simpa using he),bv (by simpa using he)]
      exact⟨_,rfl,rfl⟩
    · rw [g1,g2,aV]
      unfold nH
      rw [bm (by simp),bm (by simp)]
      have hnum:=g3.rel.kindsLen hc
      rw [g3.rel.kinds]at hnum
      have hn100:(if S.Star then(iz c b'.out.Tables).length else 0)+S.Items.length<=100:=by
        split<;>omega
      obtain⟨tD,k1,k2,k3'⟩:=OP hc g3 hn100
      have k3:tD.length<=100:=by rw [k3',Cb,g3.len];exact hn100
      rw [k1,k2,aV,aV]
      have ho' :s'.out=b'.out:=g3.rel.out
      by_cases h0:i=0
      · have H:((i:Int)==(0:Int))=true:=by simpa using h0
        simp only [H,i8]
        obtain⟨ht,m1,m2,m3⟩:=OK hc g3.rel S g4 hI.1 hI.2
        rw [<-m3]at hn100
        rw [m1,m2,aV,aV,H3 _ _ _ _ _ _ (by show b.Selects.length<=1000;omega),H2 _ _ _ _ _ _ (by show b.Selects.length<=1000;omega),ho']
        exact ih x _ (by simp;omega) k3 hn100 ho
      · have H:((i:Int)==(0:Int))=false:=by simpa using h0
        simp only [H,lh,jB]
        rcases NV b.Kinds tD (by omega)with⟨r,u1,u2,u3⟩|⟨z,u1,u2⟩
        · rw [u1,u2,aV,aV,bm (by simp),bm (by simp),H3 _ _ _ _ _ _ (by show b.Selects.length<=1000;omega),H2 _ _ _ _ _ _ (by show b.Selects.length<=1000;omega),ho']
          exact ih x _ (by simp;omega) (by show r.length<=100;omega) hnl ho
        · rw [u1,u2,aV,aV,bv (by rfl),bv (by rfl)]
          exact⟨_,rfl,rfl⟩
def Tt{c:aw}(hs:BQ c){q:be}(hq:Nl q): ∃R,mN c q=some R/\GQ c q=some R:=by
 unfold mN GQ
 rw [oU hs,GR hs,aV,aV]
 cases hc:HX c with
 |false=>exact⟨_,rfl,rfl⟩
 |true=>
  rw [bm (by simp),bm (by simp),xw hq,GX hq,aV,aV]
  cases H:D6 q with
  |false=>exact⟨_,rfl,rfl⟩
  |true=>
   rw [bm (by simp),bm (by simp)]
   unfold D6 L0 at H
   simp only [gQ,mo]at H
   exact CB (aac hc) q H.1.2.2.1 q.Selects 0 _ _ H.2.1 (by omega) rfl (by show(0:Nat)<=100;omega) (by show(0:Nat)<=100;omega) rfl
end Go.Proofs.YtigldkegamffhaaGreatDoor


/- de of this claim: B19. -/
set_option linter.all false
set_option linter.unusedVariables false
namespace Go.Proofs.YtigldkegamffhaaGreatDoor
open Go

def mV{α:Type}(g:α->α->Bool):List α->List α->Bool
 |[],[]=>true
 |x::a,y::b=>g x y&&mV g a b
 |_,_=>false
def Nc{α:Type}{g:α->α->Bool}: ∀{a b:List α},a.length≠b.length->mV g a b=false
 |[],[],h=>absurd rfl h
 |[],y::b,_=>rfl
 |x::a,[],_=>rfl
 |x::a,y::b,h=>by
  show(g x y&&mV g a b)=false
  rw [Nc (by simpa using h),Bool.and_false]
def nJ{α:Type}{g:α->α->Bool}(hg: ∀x,g x x=true): ∀a:List α,mV g a a=true
 |[]=>rfl
 |x::a=>by
  show(g x x&&mV g a a)=true
  rw [hg,nJ hg a];rfl
def Vo{α:Type}{s2:List α}{F:List α->Nat->Option Bool}{g:α->α->Bool}{E:Option Bool}(h0: ∀i,F [] i=E)(A: ∀e tl i e1,ep s2 ((i:Nat):Int)=some e1->F (e::tl) i=if g e e1 then F tl (i+1)else some false):
  ∀(tl pre b:List α),s2=pre++b->tl.length=b.length->F tl pre.length=if mV g tl b then E else some false
 |[],pre,[],hs,hl=>by rw [h0];rfl
 |x::tl,pre,y::b,hs,hl=>by
  rw [A x tl pre.length y (by rw [hs];exact nd pre y b)]
  have ih:=Vo h0 A tl (pre++[y]) b (by rw [hs];simp) (by simpa using hl)
  simp only [gA,yb]at ih
  rw [ih]
  show _=if(g x y&&mV g tl b)=true then E else some false
  cases g x y with
  |true=>rfl
  |false=>rfl
def BN{α:Type}{s1 s2:List α}{F:List α->Nat->Option Bool}{g:α->α->Bool}{E:Option Bool}(h0: ∀i,F [] i=E)(A: ∀e tl i e1,ep s2 ((i:Nat):Int)=some e1->F (e::tl) i=if g e e1 then F tl (i+1)else some false):
  (if((s1.length:Int) !=(s2.length:Int))then some false else F s1 0)=if mV g s1 s2 then E else some false:=by
 by_cases h:s1.length=s2.length
 ·rw [bm (by simp [h])]
  exact Vo h0 A s1 [] s2 rfl h
 ·rw [bv (by simp;omega),Nc h];rfl
def MI(a b:aA):Bool:=decide (a.Nodes=b.Nodes)
def X4(a b:eS):Bool:=(a.Left==b.Left)&&MI a.On b.On
def Yh(a b:gj):Bool:=(a.Tag==b.Tag)&&MI a.Arg b.Arg
def FF(a b:Int):Bool:=a==b
def stS(a b:cj):Bool:=a==b
def orS(a b:xD):Bool:=decide (a=b)
def OJ(r:Bool)(P af:Option Bool):(if(!r)then P else af)=if r=true then af else P:=by cases r<;>rfl
def Ed(a b:List Int):iM a b=some (mV FF a b):=by
 unfold iM
 rw [BN (g:=FF) (E:=some true) (fun i=>rfl) (fun e tl i e1 h=>by
  show((ep b ((i:Nat):Int)).bind fun e1=>if(!(e==e1))then some false else j6 b tl (i+1))=_
  rw [h,aV,OJ];rfl)]
 cases mV FF a b<;>rfl
def RX(a b:List cj):ja a b=some (mV stS a b):=by
 unfold ja
 rw [BN (g:=stS) (E:=some true) (fun i=>rfl) (fun e tl i e1 h=>by
  show((ep b ((i:Nat):Int)).bind fun e1=>if(!(e==e1))then some false else il b tl (i+1))=_
  rw [h,aV,OJ];rfl)]
 cases mV stS a b<;>rfl
def Sk(a b:List xD):iC a b=some (mV orS a b):=by
 unfold iC
 rw [BN (g:=orS) (E:=some true) (fun i=>rfl) (fun e tl i e1 h=>by
  show((ep b ((i:Nat):Int)).bind fun e1=>if(!decide (e=e1))then some false else gN b tl (i+1))=_
  rw [h,aV,OJ];rfl)]
 cases mV orS a b<;>rfl
def OT(a b:List eS):cZ a b iT=some (mV X4 a b):=by
 have hj: ∀x y,iT x y=some (X4 x y):=fun x y=>by
  unfold iT X4 MI
  rw [oS]
  cases (x.Left==y.Left)<;>rfl
 unfold cZ
 rw [BN (g:=X4) (E:=some true) (fun i=>rfl) (fun e tl i e1 h=>by
  show((ep b ((i:Nat):Int)).bind fun e1=>(iT e e1).bind fun r=>if(!r)then some false else cO b iT tl (i+1))=_
  rw [h,aV,hj,aV,OJ])]
 cases mV X4 a b<;>rfl
def S6(a b:List gj):dM a b iS=some (mV Yh a b):=by
 have hj: ∀x y,iS x y=some (Yh x y):=fun x y=>by
  unfold iS Yh MI
  rw [oS]
  cases (x.Tag==y.Tag)<;>rfl
 unfold dM
 rw [BN (g:=Yh) (E:=some true) (fun i=>rfl) (fun e tl i e1 h=>by
  show((ep b ((i:Nat):Int)).bind fun e1=>(iS e e1).bind fun r=>if(!r)then some false else dp b iS tl (i+1))=_
  rw [h,aV,hj,aV,OJ])]
 cases mV Yh a b<;>rfl
def Po(a b:List aA):dm a b ln=some (mV MI a b):=by
 unfold dm
 rw [BN (g:=MI) (E:=some true) (fun i=>rfl) (fun e tl i e1 h=>by
  show((ep b ((i:Nat):Int)).bind fun e1=>(ln e e1).bind fun r=>if(!r)then some false else db b ln tl (i+1))=_
  rw [h,aV,oS,aV,OJ];rfl)]
 cases mV MI a b<;>rfl
def Wu(a b:aF):Bool:=((a.Grouped==b.Grouped)&&(a.Distinct==b.Distinct))&&(mV FF a.Tables b.Tables&&(mV FF a.Keys b.Keys&&(MI a.Where b.Where&&(MI a.Having b.Having&&(mV X4 a.Joins b.Joins&&(mV Yh a.Aggs b.Aggs&&mV MI a.Items b.Items))))))
def Ub(a b:aF):mX iT iS a b=some (Wu a b):=by
 unfold mX Wu
 rw [Ed,Ed,oS,oS,OT,S6,Po]
 rw [show MI a.Where b.Where=decide (a.Where.Nodes=b.Where.Nodes)from rfl,show MI a.Having b.Having=decide (a.Having.Nodes=b.Having.Nodes)from rfl]
 cases ((a.Grouped==b.Grouped)&&(a.Distinct==b.Distinct))<;>cases mV FF a.Tables b.Tables<;>cases mV FF a.Keys b.Keys<;>cases decide (a.Where.Nodes=b.Where.Nodes)<;>cases decide (a.Having.Nodes=b.Having.Nodes)<;>cases mV X4 a.Joins b.Joins<;>cases mV Yh a.Aggs b.Aggs<;>cases mV MI a.Items b.Items<;>rfl
def R7(a b:List aF):cB a b (mX iT iS)=some (mV Wu a b):=by
 unfold cB
 rw [BN (g:=Wu) (E:=some true) (fun i=>rfl) (fun e tl i e1 h=>by
  show((ep b ((i:Nat):Int)).bind fun e1=>(mX iT iS e e1).bind fun r=>if(!r)then some false else cu b (mX iT iS) tl (i+1))=_
  rw [h,aV,Ub,aV,OJ])]
 cases mV Wu a b<;>rfl
def boS(a b:bf):Bool:=(a.Limit==b.Limit)&&(mV stS a.Names b.Names&&(mV FF a.Kinds b.Kinds&&(mV orS a.Order b.Order&&mV Wu a.Selects b.Selects)))
def S9(a b:bf):ue a b=some (boS a b):=by
 unfold ue boS
 rw [RX,Ed,Sk,R7]
 cases (a.Limit==b.Limit)<;>cases mV stS a.Names b.Names<;>cases mV FF a.Kinds b.Kinds<;>cases mV orS a.Order b.Order<;>cases mV Wu a.Selects b.Selects<;>rfl
def HO(x:aA):MI x x=true:=by simp [MI]
def Ud(x:aF):Wu x x=true:=by
 unfold Wu
 rw [nJ (fun y=>by simp [FF]),nJ (fun y=>by simp [FF]),HO,HO,nJ (fun y=>by simp [X4,MI]),nJ (fun y=>by simp [Yh,MI]),nJ HO]
 simp
def VC(x:bf):boS x x=true:=by
 unfold boS
 rw [nJ (fun y=>by simp [stS]),nJ (fun y=>by simp [FF]),nJ (fun y=>by simp [orS]),nJ Ud]
 simp
end Go.Proofs.YtigldkegamffhaaGreatDoor


/- de of this claim: B24. -/
set_option linter.all false
set_option linter.unusedVariables false
set_option linter.unusedSimpArgs false
namespace Go.Proofs.YtigldkegamffhaaGreatDoor
open Go

def fN(was t:cj):cj:=if t=was then u5 else t
def D1(was:cj)(n:cx):cx:={n with Table:=fN was n.Table}
def gp(was:cj)(t:bT):bT:=⟨t.Nodes.map (D1 was)⟩
def Ue(was:cj)(e:cx):(if(e.Table==was)=true then{e with Table:=u5}else e)=D1 was e:=by
 unfold D1 fN
 by_cases h:e.Table=was
 ·rw [bv (by simpa using h),bv h]
 ·rw [bm (by simpa using h),bm h]
def I8(was:cj)(g:gk):uy was g={g with Table:=fN was g.Table}:=by
 unfold uy fN
 by_cases h:g.Table=was
 ·rw [bv (by simpa using h),bv h]
 ·rw [bm (by simpa using h),bm h]
def Ol(was:cj): ∀(tl pre:List cx),jI was u5 tl pre.length ⟨pre++tl⟩=some ⟨pre++tl.map (D1 was)⟩:=by
 intro tl
 induction tl with
 |nil=>intro pre;simp [jI]
 |cons e tl ih=>
  intro pre
  unfold jI
  rw [nd,aV,aV]
  have h3:=ih (pre++[D1 was e])
  simp only [gA,yb,gI,Iq]at h3
  rw [pE,<-h3]
  have hc:=Ue was e
  by_cases h:(e.Table==was)=true
  ·rw [bv h]at hc ⊢
   rw [aV,rR,hc]
  ·rw [bm h]at hc ⊢
   rw [<-hc]
def wH(t:bT)(was:cj)(h:lL t=t):lS t was u5=some (gp was t):=by
 unfold lS
 rw [yJ,aV,h]
 exact Ol was t.Nodes []
def o8(was:cj)(x:ev):ev:={x with Tree:=gp was x.Tree}
def GK(was:cj)(x:g9):g9:={x with On:=gp was x.On}
def GL(was:cj): ∀l:List ev,(∀x∈l,lL x.Tree=x.Tree)->CE was l=some (l.map (o8 was))
 |[],_=>rfl
 |x::l,h=>by
  unfold CE
  rw [wH _ _ (h x (lg ..)),aV,GL was l fun y hy=>h y (li _ hy)];rfl
def GJ(was:cj): ∀l:List g9,(∀x∈l,lL x.On=x.On)->CD was l=some (l.map (GK was))
 |[],_=>rfl
 |x::l,h=>by
  unfold CD
  rw [wH _ _ (h x (lg ..)),aV,GJ was l fun y hy=>h y (li _ hy)];rfl
def D9:iY u5=true:=by decide
def D2(was:cj):Bt->Bt
 | .lf n=> .lf (D1 was n)
 | .un n a=> .un (D1 was n) (D2 was a)
 | .bi n a b=> .bi (D1 was n) (D2 was a) (D2 was b)
def tY(was:cj): ∀t:Bt,(D2 was t).size=t.size
 | .lf _=>rfl
 | .un _ a=>by simp [D2,Bt.size,tY was a]
 | .bi _ a b=>by simp [D2,Bt.size,tY was a,tY was b]
def wG(was:cj): ∀t:Bt,(D2 was t).depth=t.depth
 | .lf _=>rfl
 | .un _ a=>by simp [D2,Bt.depth,wG was a]
 | .bi _ a b=>by simp [D2,Bt.depth,wG was a,wG was b]
def zS(was:cj): ∀(t:Bt) (s:Nat),(D2 was t).flat s=(t.flat s).map (D1 was)
 | .lf _,_=>rfl
 | .un n a,s=>by
  simp only [D2,Bt.flat,EO,zS was a,tY];rfl
 | .bi n a b,s=>by
  simp only [D2,Bt.flat,EO,zS was a,zS was b,tY];rfl
def Lc{was:cj}(hw:was≠[]){n:cx}(h:re n=true):re (D1 was n)=true:=by
 unfold re D1 fN at*
 by_cases A:n.Tag=1
 ·rw [bv A]at h ⊢
  simp only [gQ,tg]at h ⊢
  have: ¬n.Table=was:=by rw [h.1.1];exact fun k=>hw k.symm
  rw [bm this];exact h
 ·rw [bm A]at h ⊢
  by_cases V:n.Tag=2
  ·rw [bv V]at h ⊢
   simp only [gQ]at h ⊢
   refine⟨h.1,h.2.1,?_⟩
   by_cases M:n.Table=was
   ·simp only [M,i8];unfold kU;rw [D9];rfl
   ·simp only [M,jB];exact h.2.2
  ·rw [bm V]at h ⊢
   simp only [gQ,tg]at h ⊢
   have: ¬n.Table=was:=by rw [h.2.1];exact fun k=>hw k.symm
   rw [bm this];exact h
def FW{was:cj}(hw:was≠[]): ∀t:Bt,t.wf->(D2 was t).wf
 | .lf n,h=>⟨h.1,Lc hw h.2.1,h.2.2⟩
 | .un n a,h=>⟨⟨h.1.1,Lc hw h.1.2.1,h.1.2.2⟩,FW hw a h.2⟩
 | .bi n a b,h=>⟨⟨h.1.1,Lc hw h.1.2.1,h.1.2.2⟩,FW hw a h.2.1,FW hw b h.2.2⟩
def Gl{was:cj}(hw:was≠[]){ns:List cx}(h:jT ns=true):jT (ns.map (D1 was))=true:=by
 unfold jT at*
 cases M:yB ns with
 |none=>rw [M]at h;cases h
 |some t=>
  obtain⟨A,V,h3,h4⟩:=ur M
  rw [V,<-zS,Gm (FW hw t A) (by rw [tY];exact h3) (by rw [wG];exact h4)];rfl
def Me{was:cj}(hw:was≠[]){t:bT}(h:lA t=true):lA (gp was t)=true:=by
 unfold lA at*
 simp only [xY,mo]at h ⊢
 rcases h with h|h
 ·left;simp [gp,h]
 ·right;exact Gl hw h
def Pk{was a b:cj}(ha:a≠u5)(H:b≠u5)(h:fN was a=fN was b):a=b:=by
 unfold fN at h
 by_cases A:a=was<;>by_cases V:b=was
 ·rw [A,V]
 ·rw [bv A,bm V]at h;exact absurd h.symm H
 ·rw [bm A,bv V]at h;exact absurd h ha
 ·rw [bm A,bm V]at h;exact h
def Hb{κ β:Type} [DecidableEq κ](f:κ->κ)(k:κ): ∀m:List (κ×β),(∀p∈m,f p.1=f k->p.1=k)->fj (m.map fun p=>(f p.1,p.2)) (f k)=fj m k
 |[],_=>rfl
 |p::m,h=>by
  have ih:=Hb f k m fun q hq=>h q (li _ hq)
  show(if f p.1=f k then some p.2 else fj (m.map _) (f k))=if p.1=k then some p.2 else fj m k
  by_cases e:p.1=k
  ·rw [bv e,bv (by rw [e])]
  ·rw [bm e,bm fun hh=>e (h p (lg ..) hh),ih]
def Ha{κ β:Type} [DecidableEq κ](f:κ->κ)(k:κ)(v:β): ∀m:List (κ×β),(∀p∈m,f p.1=f k->p.1=k)->ga (m.map fun p=>(f p.1,p.2)) (f k) v=(ga m k v).map fun p=>(f p.1,p.2)
 |[],_=>rfl
 |p::m,h=>by
  have ih:=Ha f k v m fun q hq=>h q (li _ hq)
  show(if f p.1=f k then(f k,v)::m.map _ else(f p.1,p.2)::ga (m.map _) (f k) v)=(if p.1=k then(k,v)::m else p::ga m k v).map _
  by_cases e:p.1=k
  ·rw [bv e,bv (by rw [e])];rfl
  ·rw [bm e,bm fun hh=>e (h p (lg ..) hh),ih];rfl
def Mh{κ β:Type} [DecidableEq κ]{k:κ}: ∀{m:List (κ×β)},(fj m k).isSome=true-> ∃p∈m,p.1=k
 |[],h=>by cases h
 |p::m,h=>by
  by_cases e:p.1=k
  ·exact⟨p,lg ..,e⟩
  ·have h' :(fj m k).isSome=true:=by
    have:fj (p::m) k=fj m k:=bm e
    rwa [this]at h
   obtain⟨q,hq,e2⟩:=Mh h'
   exact⟨q,li _ hq,e2⟩
def Ea{κ β:Type} [DecidableEq κ]{k:κ}{v:β}: ∀{m:List (κ×β)} {p:κ×β},p∈ga m k v->p.1=k\/p∈m
 |[],p,h=>by
  have:p=(k,v):=by simpa [ga] using h
  left;rw [this]
 |q::m,p,h=>by
  unfold ga at h
  by_cases e:q.1=k
  ·rw [bv e]at h
   rcases f7.1 h with h|h
   ·left;rw [h]
   ·right;exact li _ h
  ·rw [bm e]at h
   rcases f7.1 h with h|h
   ·right;rw [h];exact lg ..
   ·rcases Ea h with h|h
    ·left;exact h
    ·right;exact li _ h
structure Dw(s:ac):Prop where
 called: ∀p∈s.called,p.1≠u5
 behind: ∀p∈s.behind,p.1.1≠u5
structure kf(s r:ac):Prop where
 called:r.called=s.called
 behind:r.behind=s.behind
 from_:r.from_=s.from_
def kf.refl(s:ac):kf s s:=⟨rfl,rfl,rfl⟩
def kf.trans{s r u:ac}(h:kf s r)(k:kf r u):kf s u:=⟨k.called.trans h.called,k.behind.trans h.behind,k.from_.trans h.from_⟩
def Dw.same{s r:ac}(h:Dw s)(k:kf s r):Dw r:=⟨by rw [k.called];exact h.called,by rw [k.behind];exact h.behind⟩
section
variable(was:cj)(S' :ae)
def Ph(s:ac):ac:={s with from_:=S',called:=s.called.map (fun p=>(fN was p.1,p.2)),behind:=s.behind.map (fun p=>((fN was p.1.1,p.1.2),p.2))}
def Th(r:aA×Int×ac):aA×Int×ac:=(r.1,r.2.1,Ph was S' r.2.2)
end
variable{was:cj}{S' :ae}
def Rq(hw:was≠[]){s:ac}(hz:Dw s){n:gk}{r:Int×Int}(h:fZ s n=some r)(h0:r.2=0):fZ (Ph was S' s) {n with Table:=fN was n.Table}=some r:=by
 unfold fZ at h ⊢
 by_cases M:n.Table=[]
 ·have e:fN was n.Table=[]:=by unfold fN;rw [bm (by rw [M];exact fun k=>hw k.symm),M]
  rw [bm (by rw [M];simp)]at h
  rw [bm (by rw [e];simp)]
  exact h
 ·have e:fN was n.Table≠[]:=by
   unfold fN;split
   ·decide
   ·exact M
  rw [bv (by simpa using M)]at h
  rw [bv (by simpa using e)]
  by_cases hs:(fj s.behind (n.Table,n.Name)).isSome=true
  ·rw [bm (by rw [hs];decide)]at h
   obtain⟨p,hp,e2⟩:=Mh hs
   have hk:n.Table≠u5:=by have:=hz.behind p hp;rw [e2]at this;exact this
   have hm:fj (Ph was S' s).behind (fN was n.Table,n.Name)=fj s.behind (n.Table,n.Name):=
    Hb (fun p:cj×cj=>(fN was p.1,p.2)) (n.Table,n.Name) s.behind fun p hp hh=>by
     simp only [EM]at hh
     exact Prod.ext (Pk (hz.behind p hp) hk hh.1) hh.2
   simp only [hm]
   rw [bm (by rw [hs];decide)]
   exact h
  ·rw [bv (by simpa using hs)]at h
   cases h
   cases h0
def JP(i:Int)(ob:ac):f6 i (Ph was S' ob)=(f6 i ob).map fun r=>(r.1,r.2.1,Ph was S' r.2.2):=by
 unfold f6
 show(if decide ((12:Int)<(ob.out.Aggs.length:Int))=true then _ else _)=_
 split<;>rfl
def JQ(s:ac)(a:gj)(k:Int):fk (Ph was S' s) a k=(fk s a k).map fun r=>(r.1,r.2.1,Ph was S' r.2.2):=by
 unfold fk
 show((fi s.out.Aggs (iR a)).bind _)=_
 cases fi s.out.Aggs (iR a)with
 |none=>rfl
 |some r=>
  rw [aV,aV]
  split
  ·show((lr s.out.Aggs [a]).bind _)=_
   cases lr s.out.Aggs [a]with
   |none=>rfl
   |some l=>
    rw [aV,aV]
    show((lr s.groups [k]).bind _)=_
    cases lr s.groups [k]with
    |none=>rfl
    |some l2=>rw [aV,aV];exact JP _ ({({s with out:=({s.out with Aggs:=l}:aF)}:ac)with groups:=l2}:ac)
  ·exact JP _ _
def XG(s:ac)(a:gj):gq (Ph was S' s) a=(gq s a).map fun r=>(r.1,r.2.1,Ph was S' r.2.2):=by
 unfold gq
 split
 ·show((kN a.Arg s.kinds).bind _)=_
  cases kN a.Arg s.kinds with
  |none=>rfl
  |some r=>
   rw [aV,aV]
   split
   ·rfl
   ·split<;>exact JQ _ _ _
 ·exact JQ _ _ _
def H8{i:Int}{ob:ac}{r:Int×Int×ac}(h:f6 i ob=some r):kf ob r.2.2:=by
 unfold f6 at h
 split at h<;>(cases h;exact kf.refl _)
def H9{s:ac}{a:gj}{k:Int}{r:Int×Int×ac}(h:fk s a k=some r):kf s r.2.2:=by
 unfold fk at h
 obtain⟨_,_,h⟩:=bs h
 split at h
 ·obtain⟨_,_,h⟩:=bs h
  obtain⟨_,_,h⟩:=bs h
  have:=H8 h
  exact⟨this.called,this.behind,this.from_⟩
 ·exact H8 h
def VJ{s:ac}{a:gj}{r:Int×Int×ac}(h:gq s a=some r):kf s r.2.2:=by
 unfold gq at h
 split at h
 ·obtain⟨_,_,h⟩:=bs h
  split at h
  ·cases h;exact kf.refl _
  ·split at h<;>exact H9 h
 ·exact H9 h
end Go.Proofs.YtigldkegamffhaaGreatDoor


/- de of this claim: B25. -/
set_option linter.all false
set_option linter.unusedVariables false
set_option linter.unusedSimpArgs false
namespace Go.Proofs.YtigldkegamffhaaGreatDoor
open Go

variable{was:cj}{S' :ae}
def XY(s:ac)(g:Bool):ov (Ph was S' s) g=ov s g:=by cases g<;>rfl
def UN(g:Bool)(ob:ac)(e:Int)(x:aA):ec kq g (Ph was S' ob) e x=(ec kq g ob e x).map (Th was S'):=by
 unfold ec
 split
 ·rw [uF,uF,aV,aV,XY]
  cases kN x (ov ob g)<;>rfl
 ·rfl
def QT{g:Bool}{ob:ac}{e:Int}{x:aA}{r:aA×Int×ac}(h:ec kq g ob e x=some r):kf ob r.2.2:=by
 unfold ec at h
 split at h
 ·rw [uF,aV]at h
  obtain⟨_,_,h⟩:=bs h
  cases h;exact kf.refl _
 ·cases h;exact kf.refl _
def UO(leaf:ap->Option (aA×Int))(ob:ac)(a:gj):dl leaf (Ph was S' ob) a=(dl leaf ob a).map (Th was S'):=by
 unfold dl
 rw [XG]
 cases gq ob a with
 |none=>rfl
 |some r=>
  rw [EN,aV,aV]
  show(if(r.2.1 !=(0:Int))=true then _ else _)=_
  split
  ·rfl
  ·show((leaf ⟨2,0,0,r.1,⟨0,0,0,[]⟩⟩).bind _)=_
   cases leaf ⟨2,0,0,r.1,⟨0,0,0,[]⟩⟩<;>rfl
def QU{leaf:ap->Option (aA×Int)}{ob:ac}{a:gj}{r:aA×Int×ac}(h:dl leaf ob a=some r):kf ob r.2.2:=by
 unfold dl at h
 obtain⟨r1,q1,h⟩:=bs h
 have:=VJ q1
 split at h
 ·cases h;exact this
 ·obtain⟨_,_,h⟩:=bs h
  cases h;exact this
def UP(leaf:ap->Option (aA×Int))(tags:List (Int×Int))(g:Bool)(e:cx)(parts:List aA)(x:aA)(ob:ac):dK leaf tags kq g (D1 was e) parts x (Ph was S' ob)=(dK leaf tags kq g e parts x ob).map (Th was S'):=by
 unfold dK
 show(if((decide ((0:Int)<((fj tags e.Tag).getD (0:Int))))&&(!g))=true then _ else _)=_
 split
 ·rfl
 ·show(if decide ((0:Int)<((fj tags e.Tag).getD (0:Int)))=true then _ else _)=_
  split
  ·split
   ·cases ep parts (0:Int)with
    |none=>rfl
    |some e2=>exact UO _ _ _
   ·exact UO _ _ _
  ·cases ep parts (0:Int)with
   |none=>rfl
   |some e3=>
    rw [aV,aV]
    show((uN e.Tag e3).bind _)=_
    cases uN e.Tag e3 with
    |none=>rfl
    |some r6=>
     rw [aV,aV]
     split
     ·cases ep parts (1:Int)with
      |none=>rfl
      |some e6=>
       rw [aV,aV]
       show((wr e.Tag e3 e6).bind _)=_
       cases wr e.Tag e3 e6 with
       |none=>rfl
       |some r9=>exact UN _ _ _ _
     ·exact UN _ _ _ _
def QV{leaf:ap->Option (aA×Int)}{tags:List (Int×Int)}{g:Bool}{e:cx}{parts:List aA}{x:aA}{ob:ac}{r:aA×Int×ac}(h:dK leaf tags kq g e parts x ob=some r):kf ob r.2.2:=by
 unfold dK at h
 split at h
 ·cases h;exact kf.refl _
 ·split at h
  ·split at h
   ·obtain⟨_,_,h⟩:=bs h
    exact QU h
   ·exact QU h
  ·obtain⟨_,_,h⟩:=bs h
   obtain⟨_,_,h⟩:=bs h
   split at h
   ·obtain⟨_,_,h⟩:=bs h
    obtain⟨_,_,h⟩:=bs h
    exact QT h
   ·exact QT h
def OR(s:ac)(leaf:ap->Option (aA×Int))(a e:Int):cD (Ph was S' s) leaf a e=(cD s leaf a e).map (Th was S'):=by
 unfold cD
 split
 ·rfl
 ·cases leaf ⟨2,0,0,a,⟨0,0,0,[]⟩⟩<;>rfl
def KH{s:ac}{leaf:ap->Option (aA×Int)}{a e:Int}{r:aA×Int×ac}(h:cD s leaf a e=some r):kf s r.2.2:=by
 unfold cD at h
 split at h
 ·cases h;exact kf.refl _
 ·obtain⟨_,_,h⟩:=bs h
  cases h;exact kf.refl _
abbrev ach:=ac->bT->(ap->Option (aA×Int))->(List (Int×Int))->(ac->Bool->Option ((List Int)×ac))->Int->Bool->Option (aA×Int×ac)
def UH{t:bT}{leaf:ap->Option (aA×Int)}{tags:List (Int×Int)}{self:ach}
  (hs: ∀s i g r,Dw s->self s t leaf tags kq i g=some r->r.2.1=0->self (Ph was S' s) (gp was t) leaf tags kq i g=some (Th was S' r)/\kf s r.2.2)(g:Bool)(e:cx):
  ∀(k i:Nat) (parts:List aA) (x:aA) (ob:ac) (r:aA×Int×ac),Dw ob->da self t leaf tags kq g e k i parts x ob=some r->r.2.1=0->
   da self (gp was t) leaf tags kq g (D1 was e) k i parts x (Ph was S' ob)=some (Th was S' r)/\kf ob r.2.2
 |0,i,parts,x,ob,r,hz,h,h0=>by
  unfold da at h ⊢
  rw [UP,h]
  exact⟨rfl,QV h⟩
 |k+1,i,parts,x,ob,r,hz,h,h0=>by
  unfold da at h ⊢
  obtain⟨e8,q8,h⟩:=bs h
  rw [show ep [(D1 was e).L,(D1 was e).R] (i:Int)=some e8 from q8,aV]
  by_cases hlt:decide (e8<(0:Int))=true
  ·rw [bv hlt]at h ⊢
   rw [UP,h]
   exact⟨rfl,QV h⟩
  ·rw [bm hlt]at h ⊢
   obtain⟨r10,q10,h⟩:=bs h
   by_cases A:(r10.2.1 !=(0:Int))=true
   ·rw [bv A]at h
    cases h
    exfalso
    have h0' :r10.2.1=0:=h0
    rw [h0']at A;cases A
   ·rw [bm A]at h
    have h10:r10.2.1=0:=by simpa using A
    obtain⟨g1,g2⟩:=hs _ _ _ _ hz q10 h10
    rw [show self (Ph was S' ob) (gp was t) leaf tags kq e8 (g&&(((fj tags (D1 was e).Tag).getD (0:Int))==(0:Int)))=some (Th was S' r10)from g1,aV,
     bm (show¬((Th was S' r10).2.1 !=(0:Int))=true from A)]
    obtain⟨p2,qp,h⟩:=bs h
    rw [show lr parts [(Th was S' r10).1]=some p2 from qp,aV]
    obtain⟨k1,k2⟩:=UH hs g e k (i+1) p2 x r10.2.2 r (hz.same g2) h h0
    exact⟨k1,g2.trans k2⟩
def YW{t:bT}{i:Int}{e:cx}(h:ep t.Nodes i=some e):ep (gp was t).Nodes i=some (D1 was e):=by
 unfold ep at h ⊢
 split at h
 ·rename_i h0
  rw [bv h0]
  show(t.Nodes.map (D1 was))[i.toNat]? =_
  rw [Dz,h];rfl
 ·cases h
def X9(hw:was≠[]){t:bT}{leaf:ap->Option (aA×Int)}{tags:List (Int×Int)}: ∀(fu:Nat) (s:ac) (i:Int) (g:Bool) (r:aA×Int×ac),Dw s->bw fu s t leaf tags kq i g=some r->r.2.1=0->
  bw fu (Ph was S' s) (gp was t) leaf tags kq i g=some (Th was S' r)/\kf s r.2.2
 |0,s,i,g,r,hz,h,h0=>by cases h
 |fu+1,s,i,g,r,hz,h,h0=>by
  unfold bw at h ⊢
  obtain⟨e,q_e,h⟩:=bs h
  rw [YW q_e,aV]
  by_cases A:(e.Tag==(1:Int))=true
  ·rw [bv A]at h
   rw [bv (show((D1 was e).Tag==(1:Int))=true from A)]
   obtain⟨r1,q1,h⟩:=bs h
   rw [show leaf ⟨1,0,0,0,(D1 was e).Value⟩=some r1 from q1,aV]
   cases h
   exact⟨rfl,kf.refl _⟩
  ·rw [bm A]at h
   rw [bm (show¬((D1 was e).Tag==(1:Int))=true from A)]
   by_cases V:(e.Tag==(2:Int))=true
   ·rw [bv V]at h
    rw [bv (show((D1 was e).Tag==(2:Int))=true from V)]
    obtain⟨r1,q1,h⟩:=bs h
    by_cases hr:r1.2=0
    ·have g1:=Rq (S' :=S') hw hz q1 hr
     rw [show fZ (Ph was S' s) ⟨(D1 was e).Table,(D1 was e).Name⟩=some r1 from g1,aV]
     by_cases hg:((r1.2==(0:Int))&&g)=true
     ·rw [bv hg]at h ⊢
      obtain⟨r3,q3,h⟩:=bs h
      rw [show jU (Ph was S' s).out.Keys r1.1=some r3 from q3,aV]
      by_cases h3:decide (r3<(0:Int))=true
      ·rw [bv h3]at h ⊢
       rw [OR,h]
       exact⟨rfl,KH h⟩
      ·rw [bm h3]at h ⊢
       rw [OR,h]
       exact⟨rfl,KH h⟩
     ·rw [bm hg]at h ⊢
      rw [OR,h]
      exact⟨rfl,KH h⟩
    ·rw [bm (by simp [hr])]at h
     unfold cD at h
     rw [bv (by simpa using hr)]at h
     cases h
     exact absurd h0 hr
   ·rw [bm V]at h
    rw [bm (show¬((D1 was e).Tag==(2:Int))=true from V)]
    exact UH (fun s i g r=>X9 hw fu s i g r) g e 2 0 [] ⟨[]⟩ s r hz h h0
def MZ(hw:was≠[]){s:ac}{t:bT}{g:Bool}{r:aA×Int×Int×ac}(hz:Dw s)(h:iF s t g=some r)(h0:r.2.2.1=0):
  iF (Ph was S' s) (gp was t) g=some (r.1,r.2.1,r.2.2.1,Ph was S' r.2.2.2)/\kf s r.2.2.2:=by
 have h' :(lq).bind (fun r0=>(bw iB s t bz r0 kq (IntKind.i64.wrap ((t.Nodes.length:Int)-(1:Int))) g).bind fun r1=>if(r1.2.1 !=(0:Int))=true then some ((⟨[]⟩:aA),(0:Int),r1.2.1,r1.2.2)else(kq r1.2.2 g).bind fun r2=>(kN r1.1 r2.1).bind fun r3=>some (r1.1,r3.1,r3.2,r2.2))=some r:=h
 show(lq).bind (fun r0=>(bw iB (Ph was S' s) (gp was t) bz r0 kq (IntKind.i64.wrap ((((gp was t).Nodes.length:Nat):Int)-(1:Int))) g).bind fun r1=>if(r1.2.1 !=(0:Int))=true then some ((⟨[]⟩:aA),(0:Int),r1.2.1,r1.2.2)else(kq r1.2.2 g).bind fun r2=>(kN r1.1 r2.1).bind fun r3=>some (r1.1,r3.1,r3.2,r2.2))=_/\_
 clear h
 have hl:(gp was t).Nodes.length=t.Nodes.length:=by simp [gp]
 rw [hl]
 obtain⟨r0,q0,h⟩:=bs h'
 rw [q0,aV]
 obtain⟨r1,q1,h⟩:=bs h
 by_cases A:(r1.2.1 !=(0:Int))=true
 ·rw [bv A]at h
  cases h
  exfalso
  have:r1.2.1=0:=h0
  rw [this]at A;cases A
 ·rw [bm A]at h
  have h10:r1.2.1=0:=by simpa using A
  obtain⟨g1,g2⟩:=X9 (S' :=S') hw iB _ _ _ _ hz q1 h10
  rw [g1,aV,bm (show¬((Th was S' r1).2.1 !=(0:Int))=true from A)]
  rw [uF,aV]at h
  rw [show(Th was S' r1).2.2=Ph was S' r1.2.2 from rfl,uF,aV,XY]
  obtain⟨r3,q3,h⟩:=bs h
  rw [show kN (Th was S' r1).1 (ov r1.2.2 g)=some r3 from q3,aV]
  cases h
  exact⟨rfl,g2⟩
def zG(hw:was≠[]){s:ac}{t:bT}{g:Bool}{r:aA×Int×ac}(hz:Dw s)(h:cC s t g=some r)(h0:r.2.1=0):
  cC (Ph was S' s) (gp was t) g=some (r.1,r.2.1,Ph was S' r.2.2)/\kf s r.2.2:=by
 unfold cC at h ⊢
 obtain⟨r1,q1,h⟩:=bs h
 by_cases hc:(((r1.2.2.1==(0:Int))&&(r1.2.1 !=(1:Int)))&&(r1.2.1 !=(0:Int)))=true
 ·rw [bv hc]at h
  cases h
  cases h0
 ·rw [bm hc]at h
  cases h
  obtain⟨g1,g2⟩:=MZ (S' :=S') hw hz q1 h0
  rw [g1,aV,bm hc]
  exact⟨rfl,g2⟩
def NW(hw:was≠[]){s:ac}{t:bT}{g:Bool}{r:aA×Int×ac}(hz:Dw s)(h:cC s t g=some r)(h0:r.2.1=0):kf s r.2.2:=(zG (S' :=s.from_) hw hz h h0).2
def AI{nm:cj}(hnm:nm≠u5): ∀(l:List bJ) (s:ac) (r:Int×ac),Dw s->eE nm l s=some r->
  eE (fN was nm) l (Ph was S' s)=some (r.1,Ph was S' r.2)/\Dw r.2/\r.2.called=s.called/\r.2.from_=s.from_
 |[],s,r,hz,h=>by cases h;exact⟨rfl,hz,rfl,rfl⟩
 |c::tl,s,r,hz,h=>by
  unfold eE at h ⊢
  obtain⟨l9,q9,h⟩:=bs h
  rw [show lr ((fj (Ph was S' s).alone c.Name).getD []) [((Ph was S' s).kinds.length:Int)]=some l9 from q9,aV,aV]
  rw [aV]at h
  obtain⟨l10,q10,h⟩:=bs h
  rw [show lr (Ph was S' s).kinds [c.Kind]=some l10 from q10,aV]
  have hm:ga (Ph was S' s).behind (fN was nm,c.Name) ((Ph was S' s).kinds.length:Int)=(ga s.behind (nm,c.Name) (s.kinds.length:Int)).map (fun p=>((fN was p.1.1,p.1.2),p.2)):=
   Ha (fun p:cj×cj=>(fN was p.1,p.2)) (nm,c.Name) (s.kinds.length:Int) s.behind fun p hp hh=>by
    simp only [EM]at hh
    exact Prod.ext (Pk (hz.behind p hp) hnm hh.1) hh.2
  have e:({({({Ph was S' s with alone:=(ga (Ph was S' s).alone c.Name l9)}:ac)with behind:=(ga (Ph was S' s).behind ((⟨fN was nm,c.Name⟩:gk).Table,(⟨fN was nm,c.Name⟩:gk).Name) ((Ph was S' s).kinds.length:Int))}:ac)with kinds:=l10}:ac)=
    Ph was S' ({({({s with alone:=(ga s.alone c.Name l9)}:ac)with behind:=(ga s.behind ((⟨nm,c.Name⟩:gk).Table,(⟨nm,c.Name⟩:gk).Name) (s.kinds.length:Int))}:ac)with kinds:=l10}:ac):=by
   show ac.mk _ _ _ _ _ (ga (Ph was S' s).behind (fN was nm,c.Name) ((Ph was S' s).kinds.length:Int)) _ _ _=_
   rw [hm];rfl
  rw [e]
  have hz2:Dw ({({({s with alone:=(ga s.alone c.Name l9)}:ac)with behind:=(ga s.behind ((⟨nm,c.Name⟩:gk).Table,(⟨nm,c.Name⟩:gk).Name) (s.kinds.length:Int))}:ac)with kinds:=l10}:ac):=
   ⟨hz.called,fun p hp=>by
    rcases Ea hp with k|k
    ·rw [k];exact hnm
    ·exact hz.behind p k⟩
  exact AI hnm tl _ r hz2 h
def wD{s:ac}{p p' :ci}{r:Int×ac}(hz:Dw s)(h:dU s p=some r)(h0:r.1=0)(hp:p'.Table=p.Table)(hc:bd p' =fN was (bd p))(hn:bd p≠u5):
  dU (Ph was S' s) p' =some (r.1,Ph was S' r.2)/\Dw r.2/\r.2.from_=s.from_/\r.2.called=ga s.called (bd p) true/\(fj s.called (bd p)).getD false=false:=by
 unfold dU at h ⊢
 rw [zu]at h ⊢
 rw [hp,hc]
 obtain⟨r0,q0,h⟩:=bs h
 rw [show nr (Ph was S' s).Catalog p.Table=some r0 from q0,aV,aV]
 rw [aV]at h
 by_cases A:(!r0.2)=true
 ·rw [bv A]at h;cases h;cases h0
 ·rw [bm A]at h ⊢
  have hinj: ∀q∈s.called,fN was q.1=fN was (bd p)->q.1=bd p:=fun q hq hh=>Pk (hz.called q hq) hn hh
  have hm:fj (Ph was S' s).called (fN was (bd p))=fj s.called (bd p):=Hb (fN was) (bd p) s.called hinj
  rw [hm]
  by_cases V:(fj s.called (bd p)).getD false=true
  ·rw [bv V]at h;cases h;cases h0
  ·rw [bm V]at h ⊢
   obtain⟨l,ql,h⟩:=bs h
   rw [show lr (Ph was S' s).out.Tables [r0.1]=some l from ql,aV,aV]
   rw [aV]at h
   obtain⟨e,qe,h⟩:=bs h
   rw [show ep (Ph was S' s).Catalog.Tables r0.1=some e from qe,aV]
   have hs:ga (Ph was S' s).called (fN was (bd p)) true=(ga s.called (bd p) true).map (fun q=>(fN was q.1,q.2)):=Ha (fN was) (bd p) true s.called hinj
   have hz2:Dw ({({s with called:=(ga s.called (bd p) true)}:ac)with out:=({({s with called:=(ga s.called (bd p) true)}:ac).out with Tables:=l}:aF)}:ac):=
    ⟨fun q hq=>by
     rcases Ea hq with k|k
     ·rw [k];exact hn
     ·exact hz.called q k,hz.behind⟩
   obtain⟨g1,g2,g3,g4⟩:=AI (was:=was) (S' :=S') hn e.Columns _ r hz2 h
   refine⟨?_,g2,g4,g3,by simpa using V⟩
   rw [<-g1]
   have e2:({({Ph was S' s with called:=(ga (Ph was S' s).called (fN was (bd p)) true)}:ac)with out:=({({Ph was S' s with called:=(ga (Ph was S' s).called (fN was (bd p)) true)}:ac).out with Tables:=l}:aF)}:ac)=
     Ph was S' ({({s with called:=(ga s.called (bd p) true)}:ac)with out:=({({s with called:=(ga s.called (bd p) true)}:ac).out with Tables:=l}:aF)}:ac):=by
    rw [hs];rfl
   rw [e2]
def Tb(was:cj):List g9->List g9->Prop
 |[],[]=>True
 |x::l,y::m=>(y.Left=x.Left/\y.Source.Table=x.Source.Table/\bd y.Source=fN was (bd x.Source)/\bd x.Source≠u5/\y.On=gp was x.On)/\Tb was l m
 |_,_=>False
def Jr(hw:was≠[]): ∀(l m:List g9) (s:ac) (r:Int×ac),Tb was l m->Dw s->dF l s=some r->r.1=0->dF m (Ph was S' s)=some (r.1,Ph was S' r.2)/\Dw r.2/\r.2.from_=s.from_
 |[],[],s,r,_,hz,h,h0=>by cases h;exact⟨rfl,hz,rfl⟩
 |[],_::_,_,_,k,_,_,_=>k.elim
 |_::_,[],_,_,k,_,_,_=>k.elim
 |x::l,y::m,s,r,⟨⟨k1,k2,k3,k4,k5⟩,k⟩,hz,h,h0=>by
  unfold dF at h ⊢
  obtain⟨r1,q1,h⟩:=bs h
  by_cases A:(r1.1 !=(0:Int))=true
  ·rw [bv A]at h;cases h
   have:r1.1=0:=h0
   rw [this]at A;cases A
  ·rw [bm A]at h
   obtain⟨g1,g2,g3,_,_⟩:=wD (S' :=S') hz q1 (by simpa using A) k2 k3 k4
   rw [g1,aV,bm A]
   obtain⟨r2,q2,h⟩:=bs h
   by_cases V:(r2.2.1 !=(0:Int))=true
   ·rw [bv V]at h;cases h
    have:r2.2.1=0:=h0
    rw [this]at V;cases V
   ·rw [bm V]at h
    obtain⟨t1,t2⟩:=zG (S' :=S') hw g2 q2 (by simpa using V)
    rw [k5,t1,aV,bm V,k1]
    obtain⟨l7,q7,h⟩:=bs h
    rw [show lr (Ph was S' r2.2.2).out.Joins [(⟨x.Left,r2.1⟩:eS)]=some l7 from q7,aV]
    have hz2:=g2.same t2
    obtain⟨u1,u2,u3⟩:=Jr hw l m ({r2.2.2 with out:=({r2.2.2.out with Joins:=l7}:aF)}:ac) r k ⟨hz2.called,hz2.behind⟩ h h0
    exact⟨u1,u2,u3.trans (t2.from_.trans g3)⟩
def Hi(hw:was≠[]): ∀(l:List g9) (s:ac) (r:Int×ac),(∀x∈l,bd x.Source≠u5)->Dw s->dF l s=some r->r.1=0->(∀x∈l,(fj s.called (bd x.Source)).getD false=false)/\(l.map fun x=>bd x.Source).Nodup
 |[],s,r,_,hz,h,h0=>⟨(fun x D=>by cases D),List.nodup_nil⟩
 |x::l,s,r,hn,hz,h,h0=>by
  unfold dF at h
  obtain⟨r1,q1,h⟩:=bs h
  by_cases A:(r1.1 !=(0:Int))=true
  ·rw [bv A]at h;cases h
   have:r1.1=0:=h0
   rw [this]at A;cases A
  ·rw [bm A]at h
   obtain⟨_,g2,_,g4,g5⟩:=wD (was:=bd x.Source) (S' :=s.from_) (p' :={x.Source with As:=u5}) hz q1 (by simpa using A) rfl (by
    unfold fN;rw [bv rfl];unfold bd;rw [bm (show¬u5=[] by decide)]) (hn x (lg ..))
   obtain⟨r2,q2,h⟩:=bs h
   by_cases V:(r2.2.1 !=(0:Int))=true
   ·rw [bv V]at h;cases h
    have:r2.2.1=0:=h0
    rw [this]at V;cases V
   ·rw [bm V]at h
    have t2:=NW hw g2 q2 (by simpa using V)
    obtain⟨l7,q7,h⟩:=bs h
    have hz2:=g2.same t2
    obtain⟨u1,u2⟩:=Hi hw l ({r2.2.2 with out:=({r2.2.2.out with Joins:=l7}:aF)}:ac) r (fun y hy=>hn y (li _ hy)) ⟨hz2.called,hz2.behind⟩ h h0
    have hc:({r2.2.2 with out:=({r2.2.2.out with Joins:=l7}:aF)}:ac).called=ga s.called (bd x.Source) true:=t2.called.trans g4
    rw [hc]at u1
    have hne: ∀y∈l,bd y.Source≠bd x.Source:=fun y hy e=>by
     have:=u1 y hy
     rw [e,lR]at this
     cases this
    refine⟨fun y hy=>?_,?_⟩
    ·rcases f7.1 hy with rfl|hy
     ·exact g5
     ·have:=u1 y hy
      rwa [mA _ (hne y hy)]at this
    ·rw [pE,IP]
     exact⟨fun hm=>by
      obtain⟨y,hy,e⟩:=qY.1 hm
      exact hne y hy e,u2⟩
def Jy(hw:was≠[]): ∀(l:List gk) (s:ac) (r:Int×ac),Dw s->eW l s=some r->r.1=0->eW (l.map (uy was)) (Ph was S' s)=some (r.1,Ph was S' r.2)/\kf s r.2
 |[],s,r,hz,h,h0=>by cases h;exact⟨rfl,kf.refl _⟩
 |x::l,s,r,hz,h,h0=>by
  rw [pE]
  unfold eW at h ⊢
  obtain⟨r1,q1,h⟩:=bs h
  by_cases A:(r1.2 !=(0:Int))=true
  ·rw [bv A]at h;cases h
   have:r1.2=0:=h0
   rw [this]at A;cases A
  ·rw [bm A]at h
   rw [I8,Rq (S' :=S') hw hz q1 (by simpa using A),aV,bm A]
   obtain⟨l7,q7,h⟩:=bs h
   obtain⟨e1,q8,h⟩:=bs h
   obtain⟨l8,q9,h⟩:=bs h
   rw [show lr (Ph was S' s).out.Keys [r1.1]=some l7 from q7,aV,show ep (Ph was S' s).kinds r1.1=some e1 from q8,aV,show lr (Ph was S' s).groups [e1]=some l8 from q9,aV]
   obtain⟨u1,u2⟩:=Jy hw l ({({s with out:=({s.out with Keys:=l7}:aF)}:ac)with groups:=l8}:ac) r ⟨hz.called,hz.behind⟩ h h0
   exact⟨u1,u2.called,u2.behind,u2.from_⟩
def wW(hw:was≠[]): ∀(l:List ev) (s:ac) (r:Int×ac),Dw s->fO l s=some r->r.1=0->fO (l.map (o8 was)) (Ph was S' s)=some (r.1,Ph was S' r.2)/\kf s r.2
 |[],s,r,hz,h,h0=>by cases h;exact⟨rfl,kf.refl _⟩
 |x::l,s,r,hz,h,h0=>by
  rw [pE]
  unfold fO at h ⊢
  obtain⟨r1,q1,h⟩:=bs h
  by_cases A:(r1.2.2.1 !=(0:Int))=true
  ·rw [bv A]at h;cases h
   have:r1.2.2.1=0:=h0
   rw [this]at A;cases A
  ·rw [bm A]at h
   obtain⟨g1,g2⟩:=MZ (S' :=S') hw hz q1 (by simpa using A)
   rw [show iF (Ph was S' s) (o8 was x).Tree (Ph was S' s).out.Grouped=some (r1.1,r1.2.1,r1.2.2.1,Ph was S' r1.2.2.2)from g1,aV,bm A]
   obtain⟨l14,q14,h⟩:=bs h
   rw [show lr (Ph was S' r1.2.2.2).out.Items [r1.1]=some l14 from q14,aV]
   have hz2:=hz.same g2
   obtain⟨u1,u2⟩:=wW hw l ({r1.2.2.2 with out:=({r1.2.2.2.out with Items:=l14}:aF)}:ac) r ⟨hz2.called,hz2.behind⟩ h h0
   exact⟨u1,u2.called.trans g2.called,u2.behind.trans g2.behind,u2.from_.trans g2.from_⟩
def CU(hw:was≠[]){S:ae}(hI:S'.Items=S.Items.map (o8 was)): ∀(l:List Int) (i:Nat) (s:ac) (r:Int×ac),s.from_=S->Dw s->eV l i s=some r->r.1=0->eV l i (Ph was S' s)=some (r.1,Ph was S' r.2)/\kf s r.2
 |[],i,s,r,hf,hz,h,h0=>by
  unfold eV fP at h ⊢
  rw [hf]at h
  rw [show(Ph was S' s).from_.Items=S.Items.map (o8 was)from hI]
  exact wW hw _ _ _ hz h h0
 |x::l,i,s,r,hf,hz,h,h0=>by
  unfold eV at h ⊢
  obtain⟨r2,q2,h⟩:=bs h
  rw [q2,aV]
  by_cases A:(r2.2 !=(0:Int))=true
  ·rw [bv A]at h;cases h
   have:r2.2=0:=h0
   rw [this]at A;cases A
  ·rw [bm A]at h ⊢
   obtain⟨l22,q22,h⟩:=bs h
   rw [show lr (Ph was S' s).out.Items [r2.1]=some l22 from q22,aV]
   obtain⟨u1,u2⟩:=CU hw hI l (i+1) ({s with out:=({s.out with Items:=l22}:aF)}:ac) r hf ⟨hz.called,hz.behind⟩ h h0
   exact⟨u1,u2.called,u2.behind,u2.from_⟩
structure FN(was:cj)(S S' :ae):Prop where
 star:S'.Star=S.Star
 distinct:S'.Distinct=S.Distinct
 fromT:S'.From.Table=S.From.Table
 fromC:bd S'.From=fN was (bd S.From)
 fromZ:bd S.From≠u5
 joins:Tb was S.Joins S'.Joins
 where_:S'.Where=gp was S.Where
 group:S'.Group=S.Group.map (uy was)
 items:S'.Items=S.Items.map (o8 was)
 having:S'.Having=gp was S.Having
def WL(t:bT):Hn (gp was t)=Hn t:=by
 unfold Hn gp
 rw [List.any_map];rfl
def OZ{S:ae}(h:FN was S S'):lG S' =lG S:=by
 rw [BX,BX]
 unfold mC
 rw [h.group,h.having,h.items,Cb,List.any_map]
 have e:(gp was S.Having).Nodes.length=S.Having.Nodes.length:=by simp [gp]
 have e2:((fun x=>Hn x.Tree)∘o8 was)=fun x:ev=>Hn x.Tree:=funext fun x=>WL x.Tree
 rw [e,e2]
def qV(was:cj)(S S' :ae)(F:ac->Option (Int×ac)):Prop:= ∀s r,s.from_=S->Dw s->F s=some r->r.1=0->F (Ph was S' s)=some (r.1,Ph was S' r.2)/\Dw r.2/\r.2.from_=S
def O7{S:ae}(R:FN was S S'):qV was S S' dk:=fun s r hf hz h h0=>by
 unfold dk at h ⊢
 obtain⟨r1,q1,h⟩:=bs h
 cases h
 have q1' :dU ({s with at_:=(0:Int)}:ac) S.From=some r1:=by rw [<-hf];exact q1
 obtain⟨g1,g2,g3,_,_⟩:=wD (S' :=S') (p' :=S'.From) (s:=({s with at_:=(0:Int)}:ac)) ⟨hz.called,hz.behind⟩ q1' h0 R.fromT R.fromC R.fromZ
 exact⟨by rw [show dU ({Ph was S' s with at_:=(0:Int)}:ac) ((({Ph was S' s with at_:=(0:Int)}:ac).from_).From)=some (r1.1,Ph was S' r1.2)from g1];rfl,g2,g3.trans hf⟩
def OS(hw:was≠[]){S:ae}(R:FN was S S'):qV was S S' cS:=fun s r hf hz h h0=>by
 unfold cS at h ⊢
 have h' :dF S.Joins ({s with at_:=(1:Int)}:ac)=some r:=by rw [<-hf];exact h
 obtain⟨g1,g2,g3⟩:=Jr (S' :=S') hw S.Joins S'.Joins ({s with at_:=(1:Int)}:ac) r R.joins ⟨hz.called,hz.behind⟩ h' h0
 exact⟨g1,g2,g3.trans hf⟩
def NP(hw:was≠[]){S:ae}(R:FN was S S'):qV was S S' dC:=fun s r hf hz h h0=>by
 unfold dC at h ⊢
 have e:((((({Ph was S' s with at_:=(2:Int)}:ac).from_).Where).Nodes).length:Int)=(S.Where.Nodes.length:Int):=by
  show(S'.Where.Nodes.length:Int)=_;rw [R.where_];simp [gp]
 have e2:((((({s with at_:=(2:Int)}:ac).from_).Where).Nodes).length:Int)=(S.Where.Nodes.length:Int):=by
  show(s.from_.Where.Nodes.length:Int)=_;rw [hf]
 rw [e2]at h
 rw [e]
 by_cases hc:decide ((0:Int)<(S.Where.Nodes.length:Int))=true
 ·rw [bv hc]at h ⊢
  obtain⟨r1,q1,h⟩:=bs h
  cases h
  have q1' :cC ({s with at_:=(2:Int)}:ac) S.Where false=some r1:=by rw [<-hf];exact q1
  obtain⟨g1,g2⟩:=zG (S' :=S') (s:=({s with at_:=(2:Int)}:ac)) hw ⟨hz.called,hz.behind⟩ q1' h0
  have g1' :cC ({Ph was S' s with at_:=(2:Int)}:ac) ((({Ph was S' s with at_:=(2:Int)}:ac).from_).Where) false=some (r1.1,r1.2.1,Ph was S' r1.2.2):=by
   show cC ({Ph was S' s with at_:=(2:Int)}:ac) S'.Where false=_
   rw [R.where_];exact g1
  rw [g1',aV]
  exact⟨rfl,⟨by rw [show _=_ from g2.called];exact hz.called,by rw [show _=_ from g2.behind];exact hz.behind⟩,g2.from_.trans hf⟩
 ·rw [bm hc]at h ⊢
  cases h
  exact⟨rfl,⟨hz.called,hz.behind⟩,hf⟩
def O0(hw:was≠[]){S:ae}(R:FN was S S'):qV was S S' dj:=fun s r hf hz h h0=>by
 unfold dj at h ⊢
 have h' :eW S.Group ({s with at_:=(3:Int)}:ac)=some r:=by rw [<-hf];exact h
 obtain⟨g1,g2⟩:=Jy (S' :=S') hw S.Group ({s with at_:=(3:Int)}:ac) r ⟨hz.called,hz.behind⟩ h' h0
 refine⟨?_,⟨by rw [g2.called];exact hz.called,by rw [g2.behind];exact hz.behind⟩,g2.from_.trans hf⟩
 show eW S'.Group ({Ph was S' s with at_:=(3:Int)}:ac)=_
 rw [R.group];exact g1
def OW(hw:was≠[]){S:ae}(R:FN was S S'):qV was S S' dG:=fun s r hf hz h h0=>by
 unfold dG at h ⊢
 obtain⟨r1,q1,h⟩:=bs h
 have q1' :lG (({Ph was S' s with at_:=(4:Int)}:ac).from_)=some r1:=by
  show lG S' =_
  rw [OZ R,<-hf];exact q1
 rw [q1',aV,aV]
 rw [aV]at h
 generalize hsc:({({({s with at_:=(4:Int)}:ac)with out:=({({s with at_:=(4:Int)}:ac).out with Distinct:=(({s with at_:=(4:Int)}:ac).from_).Distinct}:aF)}:ac)with out:=({({({s with at_:=(4:Int)}:ac)with out:=({({s with at_:=(4:Int)}:ac).out with Distinct:=(({s with at_:=(4:Int)}:ac).from_).Distinct}:aF)}:ac).out with Grouped:=r1}:aF)}:ac)=sc at h
 have hscf:sc.from_=S:=by rw [<-hsc];exact hf
 have hscz:Dw sc:=by rw [<-hsc];exact⟨hz.called,hz.behind⟩
 have hcall:sc.called=s.called:=by rw [<-hsc]
 have hbeh:sc.behind=s.behind:=by rw [<-hsc]
 have hkinds:sc.kinds=s.kinds:=by rw [<-hsc]
 have hgr:sc.out.Grouped=r1:=by rw [<-hsc]
 have hPh:({({({Ph was S' s with at_:=(4:Int)}:ac)with out:=({({Ph was S' s with at_:=(4:Int)}:ac).out with Distinct:=(({Ph was S' s with at_:=(4:Int)}:ac).from_).Distinct}:aF)}:ac)with out:=({({({Ph was S' s with at_:=(4:Int)}:ac)with out:=({({Ph was S' s with at_:=(4:Int)}:ac).out with Distinct:=(({Ph was S' s with at_:=(4:Int)}:ac).from_).Distinct}:aF)}:ac).out with Grouped:=r1}:aF)}:ac)=Ph was S' sc:=by
  rw [<-hsc]
  unfold Ph
  simp only [R.distinct,hf]
 rw [hPh]
 have hst:(Ph was S' sc).from_.Star=sc.from_.Star:=by show S'.Star=_;rw [R.star,hscf]
 have hgo:(Ph was S' sc).out.Grouped=sc.out.Grouped:=rfl
 rw [hst,hgo]
 have fin: ∀r,kf sc r->Dw r/\r.from_=S:=fun r k=>⟨hscz.same k,k.from_.trans hscf⟩
 by_cases c1:(sc.from_.Star&&sc.out.Grouped)=true
 ·rw [bv c1]at h;cases h;cases h0
 ·rw [bm c1]at h ⊢
  by_cases c2:sc.from_.Star=true
  ·rw [bv c2]at h ⊢
   have h' :eV s.kinds 0 sc=some r:=h
   obtain⟨g1,g2⟩:=CU (S' :=S') hw R.items s.kinds 0 sc r hscf hscz h' h0
   exact⟨g1,fin _ g2⟩
  ·rw [bm c2]at h ⊢
   unfold fP at h ⊢
   rw [hscf]at h
   rw [show(Ph was S' sc).from_.Items=S.Items.map (o8 was)from R.items]
   obtain⟨g1,g2⟩:=wW (S' :=S') hw _ _ _ hscz h h0
   exact⟨g1,fin _ g2⟩
def Mw(hw:was≠[]){S:ae}(R:FN was S S'):qV was S S' dy:=fun s r hf hz h h0=>by
 unfold dy at h ⊢
 have e:((((({Ph was S' s with at_:=(5:Int)}:ac).from_).Having).Nodes).length:Int)=(S.Having.Nodes.length:Int):=by
  show(S'.Having.Nodes.length:Int)=_;rw [R.having];simp [gp]
 have e2:((((({s with at_:=(5:Int)}:ac).from_).Having).Nodes).length:Int)=(S.Having.Nodes.length:Int):=by
  show(s.from_.Having.Nodes.length:Int)=_;rw [hf]
 rw [e2]at h
 rw [e]
 by_cases hc:decide ((0:Int)<(S.Having.Nodes.length:Int))=true
 ·rw [bv hc]at h ⊢
  obtain⟨r1,q1,h⟩:=bs h
  cases h
  have q1' :cC ({s with at_:=(5:Int)}:ac) S.Having true=some r1:=by rw [<-hf];exact q1
  obtain⟨g1,g2⟩:=zG (S' :=S') (s:=({s with at_:=(5:Int)}:ac)) hw ⟨hz.called,hz.behind⟩ q1' h0
  have g1' :cC ({Ph was S' s with at_:=(5:Int)}:ac) ((({Ph was S' s with at_:=(5:Int)}:ac).from_).Having) true=some (r1.1,r1.2.1,Ph was S' r1.2.2):=by
   show cC ({Ph was S' s with at_:=(5:Int)}:ac) S'.Having true=_
   rw [R.having];exact g1
  rw [g1',aV]
  exact⟨rfl,⟨by rw [show _=_ from g2.called];exact hz.called,by rw [show _=_ from g2.behind];exact hz.behind⟩,g2.from_.trans hf⟩
 ·rw [bm hc]at h ⊢
  cases h
  exact⟨rfl,⟨hz.called,hz.behind⟩,hf⟩
def tZ{S:ae}{F:ac->Option (Int×ac)}(hF:qV was S S' F){G:ac->Option (Int×ac)}(hG:qV was S S' G):qV was S S' (fun s=>(F s).bind fun r=>if(r.1 !=(0:Int))=true then some (r.1,r.2)else G r.2):=fun s r hf hz h h0=>by
 obtain⟨r1,q1,h⟩:=bs h
 by_cases A:(r1.1 !=(0:Int))=true
 ·rw [bv A]at h;cases h
  have:r1.1=0:=h0
  rw [this]at A;cases A
 ·rw [bm A]at h
  obtain⟨g1,g2,g3⟩:=hF s r1 hf hz q1 (by simpa using A)
  show((F (Ph was S' s)).bind _)=_/\_
  rw [g1,aV,bm A]
  exact hG r1.2 r g3 g2 h h0
def XF(hw:was≠[]){S:ae}(R:FN was S S'):qV was S S' eN:=by
 have hfin:qV was S S' (fun s=>some ((0:Int),s)):=fun s r hf hz h h0=>by cases h;exact⟨rfl,hz,hf⟩
 have key:=tZ (O7 R) (tZ (OS hw R) (tZ (NP hw R) (tZ (O0 hw R) (tZ (OW hw R) (tZ (Mw hw R) hfin)))))
 have e: ∀s,eN s=(fun s=>(dk s).bind fun r=>if(r.1 !=(0:Int))=true then some (r.1,r.2)else(fun s=>(cS s).bind fun r=>if(r.1 !=(0:Int))=true then some (r.1,r.2)else(fun s=>(dC s).bind fun r=>if(r.1 !=(0:Int))=true then some (r.1,r.2)else(fun s=>(dj s).bind fun r=>if(r.1 !=(0:Int))=true then some (r.1,r.2)else(fun s=>(dG s).bind fun r=>if(r.1 !=(0:Int))=true then some (r.1,r.2)else(fun s=>(dy s).bind fun r=>if(r.1 !=(0:Int))=true then some (r.1,r.2)else some ((0:Int),r.2)) r.2) r.2) r.2) r.2) r.2) s:=by
  intro s
  have st: ∀(k i:Nat) (F:ac->Option (Int×ac)) (e:Int) (s:ac),ep ([(fun(mc:ac) (mx:Unit)=>dk mc),(fun(mc:ac) (mx:Unit)=>cS mc),(fun(mc:ac) (mx:Unit)=>dC mc),(fun(mc:ac) (mx:Unit)=>dj mc),(fun(mc:ac) (mx:Unit)=>dG mc),(fun(mc:ac) (mx:Unit)=>dy mc)]) (i:Int)=some (fun mc _=>F mc)->
    eh (k+1) i e s=(F s).bind fun r=>if(r.1 !=(0:Int))=true then some (r.1,r.2)else eh k (i+1) r.1 r.2:=fun k i F e s hi=>by
   conv=>lhs;unfold eh
   rw [hi,aV];rfl
  unfold eN
  rw [st 5 0 dk _ _ rfl]
  refine congrArg _ (funext fun r=>?_)
  split
  ·rfl
  rw [st 4 1 cS _ _ rfl]
  refine congrArg _ (funext fun r=>?_)
  split
  ·rfl
  rw [st 3 2 dC _ _ rfl]
  refine congrArg _ (funext fun r=>?_)
  split
  ·rfl
  rw [st 2 3 dj _ _ rfl]
  refine congrArg _ (funext fun r=>?_)
  split
  ·rfl
  rw [st 1 4 dG _ _ rfl]
  refine congrArg _ (funext fun r=>?_)
  split
  ·rfl
  rw [st 0 5 dy _ _ rfl]
  refine congrArg _ (funext fun r=>?_)
  split
  ·rfl
  rename_i h
  unfold eh lF
  rw [show r.1=0 from by simpa using h]
 intro s r hf hz h h0
 rw [e]at h ⊢
 exact key s r hf hz h h0
def VH(hw:was≠[]){S:ae}{s:ac}{r:Int×ac}(hf:s.from_=S)(hz:Dw s)(hn: ∀x∈rd S,bd x≠u5)(h:eN s=some r)(h0:r.1=0):((rd S).map bd).Nodup:=by
 unfold eN eh at h
 rw [show ep ([(fun(mc:ac) (mx:Unit)=>dk mc),(fun(mc:ac) (mx:Unit)=>cS mc),(fun(mc:ac) (mx:Unit)=>dC mc),(fun(mc:ac) (mx:Unit)=>dj mc),(fun(mc:ac) (mx:Unit)=>dG mc),(fun(mc:ac) (mx:Unit)=>dy mc)]) ((0:Nat):Int)=some (fun mc _=>dk mc)from rfl,aV]at h
 obtain⟨r1,q1,h⟩:=bs h
 by_cases A:(r1.1 !=(0:Int))=true
 ·rw [bv A]at h;cases h
  have:r1.1=0:=h0
  rw [this]at A;cases A
 rw [bm A]at h
 unfold eh at h
 rw [show ep ([(fun(mc:ac) (mx:Unit)=>dk mc),(fun(mc:ac) (mx:Unit)=>cS mc),(fun(mc:ac) (mx:Unit)=>dC mc),(fun(mc:ac) (mx:Unit)=>dj mc),(fun(mc:ac) (mx:Unit)=>dG mc),(fun(mc:ac) (mx:Unit)=>dy mc)]) ((0+1:Nat):Int)=some (fun mc _=>cS mc)from rfl,aV]at h
 obtain⟨r2,q2,h⟩:=bs h
 by_cases V:(r2.1 !=(0:Int))=true
 ·rw [bv V]at h;cases h
  have:r2.1=0:=h0
  rw [this]at V;cases V
 clear h
 unfold dk at q1
 obtain⟨r0,q0,q1⟩:=bs q1
 cases q1
 have q0' :dU ({s with at_:=(0:Int)}:ac) S.From=some r0:=by rw [<-hf];exact q0
 obtain⟨_,g2,g3,g4,g5⟩:=wD (was:=bd S.From) (S' :=s.from_) (s:=({s with at_:=(0:Int)}:ac)) (p' :={S.From with As:=u5}) ⟨hz.called,hz.behind⟩ q0' (by simpa using A) rfl (by
  unfold fN;rw [bv rfl];unfold bd;rw [bm (show¬u5=[] by decide)]) (hn S.From (lg ..))
 unfold cS at q2
 have q2' :dF S.Joins ({r0.2 with at_:=(1:Int)}:ac)=some r2:=by
  have:r0.2.from_=S:=g3.trans hf
  rw [<-this];exact q2
 obtain⟨u1,u2⟩:=Hi hw S.Joins ({r0.2 with at_:=(1:Int)}:ac) r2 (fun x D=>hn x.Source (li _ (qY.2 ⟨x,D,rfl⟩))) ⟨g2.called,g2.behind⟩ q2' (by simpa using V)
 show(bd S.From::(S.Joins.map (·.Source)).map bd).Nodup
 rw [IP,List.map_map]
 refine⟨fun hm=>?_,u2⟩
 obtain⟨y,hy,e⟩:=qY.1 hm
 have k:=u1 y hy
 have k2:(fj r0.2.called (bd y.Source)).getD false=false:=k
 rw [g4,show bd y.Source=bd S.From from e,lR]at k2
 cases k2
end Go.Proofs.YtigldkegamffhaaGreatDoor


/- de of this claim: B26. -/
set_option linter.all false
set_option linter.unusedVariables false
set_option linter.unusedSimpArgs false
namespace Go.Proofs.YtigldkegamffhaaGreatDoor
open Go

variable{was:cj}{S' :ae}
def UT{α β:Type}(f:α->β)(l:List α)(i:Int):ep (l.map f) i=(ep l i).map f:=by
 unfold ep
 split
 ·rw [Dz]
 ·rfl
def yW: ∀(l:List ev) (out:List cj),dE (l.map (o8 was)) out=dE l out
 |[],out=>rfl
 |x::l,out=>by
  have ih:dE (l.map (o8 was))=dE l:=funext fun o=>yW l o
  rw [pE]
  unfold dE
  rw [ih]
  have hl:(o8 was x).Tree.Nodes.length=x.Tree.Nodes.length:=by simp [o8,gp]
  rw [hl,show(o8 was x).Tree.Nodes=x.Tree.Nodes.map (D1 was)from rfl,UT]
  cases ep x.Tree.Nodes (IntKind.i64.wrap ((x.Tree.Nodes.length:Int)-(1:Int)))<;>rfl
def CO{S:ae}(R:FN was S S'){s:ac}(hf:s.from_=S): ∀(l:List Int) (out:List cj),dD (Ph was S' s) l out=dD s l out
 |[],out=>by
  unfold dD ik
  rw [hf,show(Ph was S' s).from_.Items=S.Items.map (o8 was)from R.items,yW]
 |x::l,out=>by
  have ih:dD (Ph was S' s) l=dD s l:=funext fun o=>CO R hf l o
  unfold dD
  rw [ih];rfl
def Sx{S:ae}(R:FN was S S'){s:ac}(hf:s.from_=S):fW (Ph was S' s)=fW s:=by
 unfold fW
 have hst:(Ph was S' s).from_.Star=s.from_.Star:=by show S'.Star=_;rw [R.star,hf]
 rw [hst]
 split
 ·exact CO R hf _ _
 ·unfold ik
  rw [hf,show(Ph was S' s).from_.Items=S.Items.map (o8 was)from R.items,yW]
def wn(c:aw)(q:be)(S:ae)(l:List ae)(i:Nat)(x b:bf):dn c q (S::l) i x b=(eN (Oh c S)).bind fun r3=>
      if(r3.1 !=(0:Int))then
      (some ((⟨[],[],[],[],(0:Int)⟩:bf),(IntKind.i64.wrap ((IntKind.i64.wrap ((10:Int)*(i:Int)))+r3.2.at_)),r3.1))
      else
      ((gX r3.2).bind fun r4=>
      if((i:Int)==(0:Int))then
      ((fW r3.2).bind fun r5=>
      gE (dn c q l) i r3 x {b with Names:=r5,Kinds:=r4})
      else
      ((nu b.Kinds r4).bind fun r6=>
      if(!r6.1)then
      (some ((⟨[],[],[],[],(0:Int)⟩:bf),(IntKind.i64.wrap ((IntKind.i64.wrap ((10:Int)*(i:Int)))+(6:Int))),(229:Int)))
      else
      (gE (dn c q l) i r3 x ({b with Kinds:=r6.2}:bf)))):=rfl
def H1{c:aw}{q q' :be}(hq:q'.Keys=q.Keys): ∀l:List ae,dn c q' l=dn c q l
 |[]=>by funext i x b;unfold dn;rw [hq]
 |S::l=>by
  funext i x b
  rw [wn,wn,H1 hq l]
def Qs(c:aw)(S:ae):Dw (Oh c S):=⟨(fun p hp=>by cases hp),(fun p hp=>by cases hp)⟩
def JN(hw:was≠[]){c:aw}{q q' :be}(hq:q'.Keys=q.Keys){S:ae}(R:FN was S S'): ∀(l:List ae) (k i:Nat) (x b:bf) (tV:bf×Int×Int),l[k]? =some S->dn c q l i x b=some tV->tV.2.2=0->dn c q' (l.set k S') i x b=some tV
 |[],k,i,x,b,tV,hk,h,h0=>by simp at hk
 |T::l,k,i,x,b,tV,hk,h,h0=>by
  rw [wn]at h
  obtain⟨r3,q3,h⟩:=bs h
  by_cases A:(r3.1 !=(0:Int))=true
  ·rw [bv A]at h;cases h
   have:r3.1=0:=h0
   rw [this]at A;cases A
  rw [bm A]at h
  obtain⟨r4,q4,h⟩:=bs h
  cases k with
  |zero=>
   have hT:T=S:=by simpa using hk
   subst hT
   obtain⟨g1,_,g3⟩:=XF (S' :=S') hw R (Oh c T) r3 rfl (Qs c T) q3 (by simpa using A)
   rw [List.set_cons_zero,wn,show eN (Oh c S')=some (r3.1,Ph was S' r3.2)from g1,aV,bm A,
    show gX ((r3.1,Ph was S' r3.2):Int×ac).2=some r4 from q4,aV,show fW ((r3.1,Ph was S' r3.2):Int×ac).2=fW r3.2 from Sx R g3,H1 hq l]
   exact h
  |succ k=>
   rw [List.set_cons_succ,wn,q3,aV,bm A,q4,aV]
   have hk' :l[k]? =some S:=by simpa using hk
   have step: ∀b,gE (dn c q l) i r3 x b=some tV->gE (dn c q' (l.set k S')) i r3 x b=some tV:=fun b h=>by
    unfold gE at h ⊢
    obtain⟨l11,q11,h⟩:=bs h
    rw [q11,aV]
    exact JN hw hq R l k (i+1) x _ tV hk' h h0
   by_cases hi:((i:Int)==(0:Int))=true
   ·rw [bv hi]at h ⊢
    obtain⟨r5,q5,h⟩:=bs h
    rw [q5,aV]
    exact step _ h
   ·rw [bm hi]at h ⊢
    obtain⟨r6,q6,h⟩:=bs h
    rw [q6,aV]
    by_cases h6:(!r6.1)=true
    ·rw [bv h6]at h;cases h;cases h0
    ·rw [bm h6]at h ⊢
     exact step _ h
def MY{c:aw}{q:be}{S:ae}: ∀(l:List ae) (k i:Nat) (x b:bf) (tV:bf×Int×Int),l[k]? =some S->dn c q l i x b=some tV->tV.2.2=0-> ∃r,eN (Oh c S)=some r/\r.1=0
 |[],k,i,x,b,tV,hk,h,h0=>by simp at hk
 |T::l,k,i,x,b,tV,hk,h,h0=>by
  rw [wn]at h
  obtain⟨r3,q3,h⟩:=bs h
  by_cases A:(r3.1 !=(0:Int))=true
  ·rw [bv A]at h;cases h
   have:r3.1=0:=h0
   rw [this]at A;cases A
  rw [bm A]at h
  obtain⟨r4,q4,h⟩:=bs h
  cases k with
  |zero=>
   have hT:T=S:=by simpa using hk
   subst hT
   exact⟨r3,q3,by simpa using A⟩
  |succ k=>
   have hk' :l[k]? =some S:=by simpa using hk
   have step: ∀b,gE (dn c q l) i r3 x b=some tV-> ∃r,eN (Oh c S)=some r/\r.1=0:=fun b h=>by
    unfold gE at h
    obtain⟨l11,q11,h⟩:=bs h
    exact MY l k (i+1) x _ tV hk' h h0
   by_cases hi:((i:Int)==(0:Int))=true
   ·rw [bv hi]at h
    obtain⟨r5,q5,h⟩:=bs h
    exact step _ h
   ·rw [bm hi]at h
    obtain⟨r6,q6,h⟩:=bs h
    by_cases h6:(!r6.1)=true
    ·rw [bv h6]at h;cases h;cases h0
    ·rw [bm h6]at h
     exact step _ h
def zJ{α:Type}{f:α->α}(hf: ∀x,f (f x)=f x)(m:Nat)(l:List α):(((l.take m).map f).take m).map f=(l.take m).map f:=by
 have e:((l.take m).map f).take m=(l.take m).map f:=oB (by simp;omega)
 rw [e,List.map_map]
 exact Lq fun x _=>hf x
def Gs{α:Type}(m:Nat)(l:List α):(l.take m).take m=l.take m:=oB (by simp;omega)
def Px(n:cx):xR (xR n)=xR n:=by
 unfold xR
 simp only [Gs]
def sy(t:bT):lL (lL t)=lL t:=by
 show(⟨((((t.Nodes.take 80).map xR).take 80).map xR)⟩:bT)=⟨(t.Nodes.take 80).map xR⟩
 rw [zJ Px]
def SY(x:ev):La (La x)=La x:=by
 unfold La;simp only [sy]
def SX(x:g9):IH (IH x)=IH x:=by
 unfold IH;simp only [sy]
def JL(s:ae):tf (tf s)=tf s:=by
 unfold tf;simp only [sy,zJ SY,zJ SX,Gs]
def JF(q:be):BH (BH q)=BH q:=by
 unfold BH;simp only [zJ JL,Gs]
def KX{t:cj}(h:t≠was):fN was t=t:=bm h
def D3: ∀l:List g9,(∀x∈l,bd x.Source≠was/\bd x.Source≠u5)->Tb was l (l.map (GK was))
 |[],_=>trivial
 |x::l,h=>⟨⟨rfl,rfl,(KX (h x (lg ..)).1).symm,(h x (lg ..)).2,rfl⟩,D3 l fun y hy=>h y (li _ hy)⟩
def HY(p:ci):bd (XD p)=u5:=bm (show¬u5=[] by decide)
def U7:fN was was=u5:=bv rfl
def LV: ∀(l:List g9) (k:Nat) (j:g9),l[k]? =some j->bd j.Source=was->(∀i x,l[i]? =some x->i≠k->bd x.Source≠was)->(∀x∈l,bd x.Source≠u5)->Tb was l ((l.set k {j with Source:=XD j.Source}).map (GK was))
 |[],k,j,hk,_,_,_=>by simp at hk
 |x::l,0,j,hk,hc,ho,hz=>by
  have D:x=j:=by simpa using hk
  subst D
  refine⟨⟨rfl,rfl,?_,hz x (lg ..),rfl⟩,?_⟩
  ·show bd (XD x.Source)=_
   rw [HY,hc,U7]
  ·exact D3 l fun y hy=>by
    obtain⟨i,hi,e⟩:=List.mem_iff_getElem.1 hy
    exact⟨ho (i+1) y (by rw [List.getElem?_cons_succ,qf hi,e]) (by omega),hz y (li _ hy)⟩
 |x::l,k+1,j,hk,hc,ho,hz=>by
  refine⟨⟨rfl,rfl,?_,hz x (lg ..),rfl⟩,?_⟩
  ·exact(KX (ho 0 x rfl (by omega))).symm
  ·exact LV l k j (by simpa using hk) hc (fun i y hy hi=>ho (i+1) y (by simpa using hy) (by omega)) fun y hy=>hz y (li _ hy)
def S5(x:ci):xx x=bd x:=by
 unfold xx bd
 by_cases h:x.As=[]
 ·rw [bv (by simpa using h),bv h]
 ·rw [bm (by simpa using h),bm h]
def Kw{l:List cj}(h:l.Nodup){i j:Nat}{a:cj}(hi:l[i]? =some a)(hj:l[j]? =some a):i=j:=by
 obtain⟨A,V⟩:=o5.1 hi
 obtain⟨h3,h4⟩:=o5.1 hj
 have hp:=List.pairwise_iff_getElem.1 h
 rcases Nat.lt_trichotomy i j with k|k|k
 ·exact absurd (V.trans h4.symm) (hp i j A h3 k)
 ·exact k
 ·exact absurd (h4.trans V.symm) (hp j i h3 A k)
def Fz(s:ae)(w:Nat)(was:cj):ae:=⟨(jc s w).Distinct,(jc s w).Star,(jc s w).Items.map (o8 was),(jc s w).From,(jc s w).Joins.map (GK was),gp was (jc s w).Where,gp was (jc s w).Having,(jc s w).Group.map (uy was)⟩
def rx(s:ae)(w:Nat):(jc s w).Distinct=s.Distinct/\(jc s w).Star=s.Star/\(jc s w).Items=s.Items/\(jc s w).Where=s.Where/\(jc s w).Having=s.Having/\(jc s w).Group=s.Group:=by
 cases w with
 |zero=>exact⟨rfl,rfl,rfl,rfl,rfl,rfl⟩
 |succ k=>
  cases hj:s.Joins[k]? with
  |none=>rw [ry hj];exact⟨rfl,rfl,rfl,rfl,rfl,rfl⟩
  |some j=>rw [m5 hj];exact⟨rfl,rfl,rfl,rfl,rfl,rfl⟩
def Uc{s:ae}{w:Nat}{x:ci}(D:pj s w=some x)(hN:((rd s).map bd).Nodup)(hz: ∀y∈rd s,bd y≠u5):FN (bd x) s (Fz s w (bd x)):=by
 obtain⟨e1,e2,e3,e4,e5,e6⟩:=rx s w
 have hjz: ∀y∈s.Joins,bd y.Source≠u5:=fun y hy=>hz y.Source (li _ (qY.2 ⟨y,hy,rfl⟩))
 have hat: ∀(i:Nat) (y:g9),s.Joins[i]? =some y->((rd s).map bd)[i+1]? =some (bd y.Source):=fun i y hy=>by
  show((s.Joins.map (·.Source)).map bd)[i]? =_
  rw [List.map_map,Dz,hy];rfl
 have h0:((rd s).map bd)[0]? =some (bd s.From):=rfl
 refine⟨e2,e1,?_,?_,hz s.From (lg ..),?_,by show gp _ (jc s w).Where=_;rw [e4],by show(jc s w).Group.map _=_;rw [e6],by show(jc s w).Items.map _=_;rw [e3],by show gp _ (jc s w).Having=_;rw [e5]⟩
 ·show(jc s w).From.Table=_
  cases w with
  |zero=>rfl
  |succ k=>
   cases hj:s.Joins[k]? with
   |none=>rw [ry hj]
   |some j=>rw [m5 hj]
 ·show bd (jc s w).From=_
  cases w with
  |zero=>
   have:x=s.From:=by simpa [pj] using D.symm
   subst this
   rw [U7];exact HY _
  |succ k=>
   cases hj:s.Joins[k]? with
   |none=>simp [pj,hj]at D
   |some j=>
    have hxj:x=j.Source:=by simpa [pj,hj] using D.symm
    subst hxj
    rw [m5 hj]
    refine(KX fun e=>?_).symm
    have:=Kw hN h0 (by rw [hat k j hj,e])
    omega
 ·show Tb _ s.Joins ((jc s w).Joins.map (GK (bd x)))
  cases w with
  |zero=>
   have:x=s.From:=by simpa [pj] using D.symm
   subst this
   refine D3 s.Joins fun y hy=>⟨fun e=>?_,hjz y hy⟩
   obtain⟨i,hi,e2⟩:=List.mem_iff_getElem.1 hy
   have:=Kw hN h0 (by rw [hat i y (by rw [qf hi,e2]),e])
   omega
  |succ k=>
   cases hj:s.Joins[k]? with
   |none=>simp [pj,hj]at D
   |some j=>
    have hxj:x=j.Source:=by simpa [pj,hj] using D.symm
    subst hxj
    rw [m5 hj]
    exact LV s.Joins k j hj rfl (fun i y hy hi e=>by
     have:=Kw hN (hat k j hj) (by rw [hat i y hy,e])
     omega) hjz
def Dm{t:bT}(h:tk t):tk (gp was t):=⟨by simpa [gp] using h.1,fun n hn=>by
 obtain⟨m,hm,rfl⟩:=qY.1 hn
 exact h.2 m hm⟩
def y0{s:ae}{w:Nat}{y:g9}(h:y∈(jc s w).Joins): ∃z∈s.Joins,y.On=z.On/\(y.Source=z.Source\/y.Source=XD z.Source):=by
 cases w with
 |zero=>exact⟨y,h,rfl,.inl rfl⟩
 |succ k=>
  cases hj:s.Joins[k]? with
  |none=>rw [ry hj]at h;exact⟨y,h,rfl,.inl rfl⟩
  |some j=>
   rw [m5 hj]at h
   obtain⟨hk,ek⟩:=o5.1 hj
   rcases List.mem_or_eq_of_mem_set h with h|h
   ·exact⟨y,h,rfl,.inl rfl⟩
   ·exact⟨j,ek▸Ch hk,by rw [h],.inr (by rw [h])⟩
def R9{s:ae}(h:Dn s)(w:Nat):Dn (Fz s w was) where
 items:=fun x D=>by
  obtain⟨y,hy,rfl⟩:=qY.1 D
  rw [(rx s w).2.2.1]at hy
  exact Dm (h.items y hy)
 joins:=fun x D=>by
  obtain⟨y,hy,rfl⟩:=qY.1 D
  obtain⟨z,hz,e,_⟩:=y0 hy
  show tk (gp was y.On)
  rw [e];exact Dm (h.joins z hz)
 where_:=by show tk (gp was _);rw [(rx s w).2.2.2.1];exact Dm h.where_
 having:=by show tk (gp was _);rw [(rx s w).2.2.2.2.1];exact Dm h.having
def EY{p:ci}(h:jA p=true):jA (XD p)=true:=by
 unfold jA at*
 simp only [gQ]at h ⊢
 refine⟨h.1,?_⟩
 unfold kU
 rw [show(XD p).As=u5 from rfl,D9];rfl
def Og(s:ae)(w:Nat):(jc s w).Joins.length=s.Joins.length:=by
 cases w with
 |zero=>rfl
 |succ k=>
  cases hj:s.Joins[k]? with
  |none=>rw [ry hj]
  |some j=>rw [m5 hj];simp
def R8(hw:was≠[]){s:ae}(h:u4 s=true)(w:Nat):u4 (Fz s w was)=true:=by
 obtain⟨e1,e2,e3,e4,e5,e6⟩:=rx s w
 unfold u4 at*
 simp only [gQ,mZ]at h ⊢
 obtain⟨A,V,h3,h4,h5,h6,h7⟩:=h
 refine⟨?_,?_,?_,?_,?_,?_,?_⟩
 ·have:Ix (Fz s w was)=Ix s:=by
   unfold Ix Fz
   simp only [Cb,e2,e3,e6,Og]
  rw [this];exact A
 ·show jA (jc s w).From=true
  cases w with
  |zero=>exact EY V
  |succ k=>
   cases hj:s.Joins[k]? with
   |none=>rw [ry hj];exact V
   |some j=>rw [m5 hj];exact V
 ·intro x D
  obtain⟨y,hy,rfl⟩:=qY.1 D
  rw [e3]at hy
  have:=h3 y hy
  unfold uK at*
  simp only [gQ]at this ⊢
  exact⟨Gl hw this.1,this.2⟩
 ·intro x D
  obtain⟨y,hy,rfl⟩:=qY.1 D
  obtain⟨z,hz,eo,es⟩:=y0 hy
  have:=h4 z hz
  unfold xN at*
  simp only [gQ]at this ⊢
  refine⟨?_,?_⟩
  ·show jT (gp was y.On).Nodes=true
   rw [eo];exact Gl hw this.1
  ·show jA y.Source=true
   rcases es with es|es
   ·rw [es];exact this.2
   ·rw [es];exact EY this.2
 ·intro x D
  obtain⟨y,hy,rfl⟩:=qY.1 D
  rw [e6]at hy
  have:=h5 y hy
  unfold UB at*
  rw [I8]
  simp only [gQ]at this ⊢
  refine⟨this.1,?_⟩
  show kU (fN was y.Table)=true
  unfold fN
  split
  ·unfold kU;rw [D9];rfl
  ·exact this.2
 ·show lA (gp was (jc s w).Where)=true
  rw [e4];exact Me hw h6
 ·show lA (gp was (jc s w).Having)=true
  rw [e5];exact Me hw h7
def Qn(e:Int){n:Nat}(A:1<=n)(V:n<=1000): ∃k:Nat,k<n/\IntKind.i64.wrap ((IntKind.u64.wrap e).tmod (IntKind.u64.wrap (n:Int)))=(k:Int):=by
 have hu:IntKind.u64.wrap (n:Int)=(n:Int):=by rw [IntKind.wrap_u64];omega
 have h0:0<=IntKind.u64.wrap e:=by rw [IntKind.wrap_u64];omega
 rw [hu]
 have g1:=Int.tmod_nonneg (n:Int) h0
 have g2:=Int.tmod_lt_of_pos (IntKind.u64.wrap e) (b:=(n:Int)) (by omega)
 refine⟨((IntKind.u64.wrap e).tmod (n:Int)).toNat,by omega,?_⟩
 rw [Ao];omega
def UA{n:Nat}(A:1<=n)(V:n<=1000):nz (IntKind.u64.wrap (n:Int))=some ():=by
 unfold nz
 rw [bm (by rw [IntKind.wrap_u64];omega)]
def aaV{c:aw}(hs:BQ c)(hcb:HX c=true){q:be}(hqs:Nl q)(hq2:BH q=q)(hqb:D6 q=true){R:bf×Int×Int}(hl:dn c q q.Selects 0 ⟨[],[],[],[],0⟩ ⟨[],[],[],[],q.Limit⟩=some R)(h0:R.2.2=0)
  {ix:Nat}{s:ae}(hix:q.Selects[ix]? =some s){w:Nat}{x:ci}(D:pj s w=some x)(hw:bd x≠[])(hz: ∀y∈rd s,bd y≠u5):
  mi c q R.1 (ix:Int) (Fz s w (bd x))=some true:=by
 obtain⟨r,a1,a2⟩:=MY q.Selects ix 0 _ _ R hix hl h0
 have hN:=VH hw (S:=s) rfl (Qs c s) hz a1 a2
 have hR:=Uc D hN hz
 have hmem:s∈q.Selects:=by obtain⟨A,V⟩:=o5.1 hix;exact V▸Ch A
 unfold mi
 rw [Pa,hq2,aV,fE,hix,aV,wy]
 have hqs' :Nl {q with Selects:=q.Selects.set ix (Fz s w (bd x))}:=fun t M=>by
  rcases List.mem_or_eq_of_mem_set (show t∈q.Selects.set ix (Fz s w (bd x))from M)with h|h
  ·exact hqs t h
  ·rw [h];exact R9 (hqs s hmem) w
 have hqb' :D6 {q with Selects:=q.Selects.set ix (Fz s w (bd x))}=true:=by
  unfold D6 L0 at*
  simp only [gQ,mZ,vW]at hqb ⊢
  refine⟨hqb.1,fun t M=>?_,hqb.2.2⟩
  rcases List.mem_or_eq_of_mem_set (show t∈q.Selects.set ix (Fz s w (bd x))from M)with h|h
  ·exact hqb.2.1 t h
  ·rw [h];exact R8 hw (hqb.2.1 s hmem) w
 have hB:mN c {q with Selects:=q.Selects.set ix (Fz s w (bd x))}=some R:=by
  unfold mN
  rw [oU hs,aV,hcb,bm (by simp),xw hqs',aV,hqb',bm (by simp)]
  exact JN (q:=q) (q' :={q with Selects:=q.Selects.set ix (Fz s w (bd x))}) hw rfl hR q.Selects ix 0 _ _ R hix hl h0
 rw [hB,aV,h0,bv (show((0:Int)==(0:Int))=true from rfl),S9,VC]
def Cx{s:ae}(h:tf s=s):(∀x∈s.Items,lL x.Tree=x.Tree)/\(∀x∈s.Joins,lL x.On=x.On)/\lL s.Where=s.Where/\lL s.Having=s.Having/\s.Joins.length<=3:=by
 have hI:(s.Items.take 7).map La=s.Items:=congrArg ae.Items h
 have hJ:(s.Joins.take 3).map IH=s.Joins:=congrArg ae.Joins h
 refine⟨fun x D=>?_,fun x D=>?_,congrArg ae.Where h,congrArg ae.Having h,?_⟩
 ·rw [<-hI]at D
  obtain⟨y,_,rfl⟩:=qY.1 D
  exact sy _
 ·rw [<-hJ]at D
  obtain⟨y,_,rfl⟩:=qY.1 D
  exact sy _
 ·have:=congrArg List.length hJ
  simp at this;omega
def aaW{c:aw}(hs:BQ c)(hcb:HX c=true){q:be}(hqs:Nl q)(hq2:BH q=q)(hqb:D6 q=true){R:bf×Int×Int}(hl:dn c q q.Selects 0 ⟨[],[],[],[],0⟩ ⟨[],[],[],[],q.Limit⟩=some R)(h0:R.2.2=0)
  {ix:Nat}{s:ae}(hix:q.Selects[ix]? =some s)(hcut:tf s=s){w:Nat}{x:ci}(D:pj s w=some x)(hw:bd x≠[])(hz: ∀y∈rd s,bd y≠u5):
  kr c q R.1 (ix:Int) (jc s w) (xx x)=some true:=by
 obtain⟨c1,c2,c3,c4,_⟩:=Cx hcut
 obtain⟨e1,e2,e3,e4,e5,e6⟩:=rx s w
 unfold kr
 rw [S5,GL _ _ (by rw [e3];exact c1),aV,GJ _ _ (fun y hy=>by
  obtain⟨z,hz2,eo,_⟩:=y0 hy
  rw [eo];exact c2 z hz2),aV,wH _ _ (by rw [e4];exact c3),aV,wH _ _ (by rw [e5];exact c4),aV]
 exact aaV hs hcb hqs hq2 hqb hl h0 hix D hw hz
def FQ(p:aw)(y:be)(n:List Int)(hn:n.length=2):oM p y n=some true:=by
 unfold oM
 obtain⟨R,g1,_⟩:=Tt (Cw p) (MH y)
 rw [NR,aV,bm (by simp),TX,aV,Pa,aV,g1,aV]
 by_cases h0:R.2.2=0
 ·rw [bm (by simp [h0])]
  have hsc:=Cw p
  have hqs:=MH y
  have hcb:HX (Kg p)=true:=by
   cases hc:HX (Kg p)with
   |true=>rfl
   |false=>
    unfold mN at g1
    rw [oU hsc,aV,hc,bv (by rfl)]at g1
    cases g1
    cases h0
  unfold mN at g1
  rw [oU hsc,aV,hcb,bm (by simp),xw hqs,aV]at g1
  cases hqb:D6 (BH y)with
  |false=>rw [hqb,bv (by rfl)]at g1;cases g1;cases h0
  |true=>
   rw [hqb,bm (by simp)]at g1
   have hql:1<=(BH y).Selects.length/\(BH y).Selects.length<=3:=by
    unfold D6 L0 at hqb
    simp only [gQ,mo]at hqb
    exact⟨hqb.1.1,hqb.1.2.1⟩
   match n,hn with
   |[a,b],_=>
    rw [show ep [a,b] (0:Int)=some a from rfl,aV,UA hql.1 (by omega),aV,Pa,JF,aV]
    obtain⟨ix,hix,eix⟩:=Qn a hql.1 (by omega:(BH y).Selects.length<=1000)
    rw [eix,fE,qf hix,aV]
    generalize hs:(BH y).Selects[ix]=s
    have hat:(BH y).Selects[ix]? =some s:=by rw [qf hix,hs]
    have hmem:s∈(BH y).Selects:=hs▸Ch hix
    have hcut:tf s=s:=by
     obtain⟨z,_,rfl⟩:=qY.1 hmem
     exact JL z
    have hjl:=(Cx hcut).2.2.2.2
    have hsl:(rd s).length=s.Joins.length+1:=by simp [rd]
    rw [bv (by omega),aV,show ep [a,b] (1:Int)=some b from rfl,aV,UA (by omega) (by omega),aV]
    obtain⟨w,hwl,ew⟩:=Qn b (n:=(rd s).length) (by omega) (by omega)
    rw [ew,fE,qf hwl,aV,wy]
    generalize D:(rd s)[w]=x
    have hxi:ep (rd s) (w:Int)=some x:=by rw [fE,qf hwl,D]
    have hxo:pj s w=some x:=by have:=(Ov (aS:=(none,0)) (aJ:=(none,0)) (ix:=0) hxi).2;rwa [wy]at this
    have hxm:x∈rd s:=D▸Ch hwl
    unfold eU
    by_cases hany:(rd s).any zOr=true
    ·rw [bv hany]
    ·rw [bm hany]
     have hz: ∀z∈rd s,bd z≠u5:=fun z hz e=>by
      apply hany
      rw [Dx]
      refine⟨z,hz,?_⟩
      unfold zOr
      unfold bd at e
      by_cases h:z.As=[]
      ·rw [bv h]at e;simp [e]
      ·rw [bm h]at e;simp [e]
     have hsB:u4 s=true:=by
      unfold D6 at hqb
      simp only [gQ,mZ]at hqb
      exact hqb.2.1 s hmem
     have hxB:jA x=true:=by
      unfold u4 at hsB
      simp only [gQ,mZ]at hsB
      rcases f7.1 hxm with h|h
      ·rw [h];exact hsB.2.1
      ·obtain⟨j,hj,rfl⟩:=qY.1 h
       have:=hsB.2.2.2.1 j hj
       unfold xN at this
       simp only [gQ]at this
       exact this.2
     have hw:bd x≠[]:=by
      unfold bd
      split
      ·intro e
       unfold jA at hxB
       rw [e,Jn]at hxB
       cases hxB
      ·assumption
     exact aaW hsc hcb hqs (JF y) hqb g1 h0 hat hcut hxo hw hz
 ·rw [bv (by simpa using h0)]
end Go.Proofs.YtigldkegamffhaaGreatDoor


/- de of this claim: B27. -/
set_option linter.all false
namespace Go.Proofs.YtigldkegamffhaaGreatDoor
open Go

def Ey(p:aw)(y:be)(n:List Int)(hn:n.length=2/\ ∀x∈n,Ee .i64 x):oM p y n=some true:=FQ p y n hn.1
end Go.Proofs.YtigldkegamffhaaGreatDoor

