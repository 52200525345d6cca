import Derived.Test.YthbdkceckjihgaaGreatDoorBeQ1
import Derived.KernelRfl
import Derived.Test.YthbdkceckjihgaaGreatDoorBeQ2
import Derived.Test.YthbdkceckjihgaaGreatDoorBeQ3
/- cu of this claim: B1. -/
set_option linter.all false
namespace Go.Proofs.YthbdkceckjihgaaGreatDoor
open Go

def H0{α:Type}(l:List α)(m:Nat)(hm:m<=100000):((cO l 0 (min (l.length:Int) (m:Int))).bind fun y=>(lm ([]:List α) y).bind fun x=>some x)=some (l.take m):=by
 have e:min (l.length:Int) (m:Int)=((min l.length m:Nat):Int):=by omega
 have h:cO l 0 (min (l.length:Int) (m:Int))=some (l.take m):=by
  unfold cO
  rw [bD ⟨by omega,by omega,by omega⟩,e]
  simp only [zL,Int.toNat_zero,pA,C9]
  rw [List.take_eq_take_iff];omega
 rw [h,aP]
 unfold lm
 rw [bD (by simp;omega)]
 simp
def Ly(s:bZ)(m:Nat)(hm:m<=100000):cO s 0 (min (s.length:Int) (m:Int))=some (s.take m):=by
 have e:min (s.length:Int) (m:Int)=((min s.length m:Nat):Int):=by omega
 unfold cO
 rw [bD ⟨by omega,by omega,by omega⟩,e]
 simp only [zL,Int.toNat_zero,pA,C9]
 rw [List.take_eq_take_iff];omega
def m8{α:Type}(pre:List α)(e:α)(tl:List α):fg (pre++e::tl) (pre.length:Int)=some e:=by
 rw [iu];simp
def ra{α:Type}(pre:List α)(e y:α)(tl:List α):(pre++e::tl).set ((pre.length:Nat):Int).toNat y=pre++y::tl:=by
 simp
def Rk(t:bp):bp:={t with Columns:=t.Columns.take 5,Keys:=t.Keys.take 5}
def Dv(c:aq):aq:=⟨(c.Tables.take 5).map Rk⟩
def PU: ∀(tl pre:List bp),kN tl pre.length ⟨pre++tl⟩=some ⟨pre++tl.map Rk⟩:=by
 intro tl
 induction tl with
 |nil=>intro pre;simp [kN]
 |cons e tl ih=>
  intro pre
  have A:=H0 e.Columns 5 (by omega)
  have D:=H0 e.Keys 5 (by omega)
  unfold kN
  rw [m8,aP,aP]
  rw [show j4 e.Columns (5:Int)=some (e.Columns.take 5)from A,aP,show qf e.Keys (5:Int)=some (e.Keys.take 5)from D,aP]
  rw [aP,ra,m8,aP,aP,ra]
  have h3:=ih (pre++[Rk e])
  simp only [mV,xO,fk,GV]at h3
  rw [qT]
  exact h3
def PV(c:aq):sS c=some (Dv c):=by
 unfold sS
 rw [show nq c.Tables (5:Int)=some (c.Tables.take 5)from H0 c.Tables 5 (by omega),aP]
 exact PU (c.Tables.take 5) []
def vw(n:cj):cj:={n with Value:={n.Value with S:=n.Value.S.take 60},Table:=n.Table.take 40,Name:=n.Name.take 40}
def oS(t:ce):ce:=⟨(t.Nodes.take 80).map vw⟩
def PX: ∀(tl pre:List cj),kO tl pre.length ⟨pre++tl⟩=some ⟨pre++tl.map vw⟩:=by
 intro tl
 induction tl with
 |nil=>intro pre;simp [kO]
 |cons e tl ih=>
  intro pre
  unfold kO
  rw [m8,aP]
  rw [show cO e.Value.S 0 (min (e.Value.S.length:Int) (60:Int))=some (e.Value.S.take 60)from Ly _ 60 (by omega),aP,show cO e.Table 0 (min (e.Table.length:Int) (40:Int))=some (e.Table.take 40)from Ly _ 40 (by omega),aP,
   show cO e.Name 0 (min (e.Name.length:Int) (40:Int))=some (e.Name.take 40)from Ly _ 40 (by omega),aP]
  rw [aP,ra,m8,aP,aP,ra,m8,aP,aP,ra]
  have h3:=ih (pre++[vw e])
  simp only [mV,xO,fk,GV]at h3
  rw [qT]
  exact h3
def zW(t:ce):mG t=some (oS t):=by
 unfold mG
 rw [show n6 t.Nodes (80:Int)=some (t.Nodes.take 80)from H0 t.Nodes 80 (by omega),aP]
 exact PX (t.Nodes.take 80) []
def JE(x:eh):eh:={x with Tree:=oS x.Tree}
def H1(x:kw):kw:={x with On:=oS x.On}
def pi(s:al):al:={s with Items:=(s.Items.take 7).map JE,Joins:=(s.Joins.take 3).map H1,Where:=oS s.Where,Having:=oS s.Having,Group:=s.Group.take 4}
def wz(q:aN):aN:={q with Selects:=(q.Selects.take 4).map pi,Keys:=q.Keys.take 4}
def Va(nx:Nat->aN->Option aN)(pq tq:List al)(e0:al)(q1:aN)(hq:q1.Selects=pq++e0::tq): ∀(tl pre:List kw) (s:al),s.Joins=pre++tl->lz nx pq.length q1 tl pre.length s=nx (pq.length+1) {q1 with Selects:=pq++{s with Joins:=pre++tl.map H1,Where:=oS s.Where,Having:=oS s.Having}::tq}:=by
 intro tl
 induction tl with
 |nil=>
  intro pre s hs
  unfold lz
  rw [zW,aP,zW,aP,aP,hq,ra,hs]
  rfl
 |cons e tl ih=>
  intro pre s hs
  unfold lz
  rw [hs,m8,aP,aP,zW,aP,aP,ra]
  have h3:=ih (pre++[H1 e]) {s with Joins:=pre++H1 e::tl} (by simp)
  simp only [mV,xO,fk,GV]at h3
  rw [qT]
  exact h3
def Vb(nx:Nat->aN->Option aN)(pq tq:List al)(e0:al)(q1:aN)(hq:q1.Selects=pq++e0::tq): ∀(tl pre:List eh) (s:al),s.Items=pre++tl->lA nx pq.length q1 tl pre.length s=nx (pq.length+1) {q1 with Selects:=pq++{s with Items:=pre++tl.map JE,Joins:=s.Joins.map H1,Where:=oS s.Where,Having:=oS s.Having}::tq}:=by
 intro tl
 induction tl with
 |nil=>
  intro pre s hs
  unfold lA
  have:=Va nx pq tq e0 q1 hq s.Joins [] s rfl
  rw [show([]:List kw).length=0 from rfl]at this
  rw [this]
  simp [hs]
 |cons e tl ih=>
  intro pre s hs
  unfold lA
  rw [hs,m8,aP,aP,zW,aP,aP,ra]
  have h3:=ih (pre++[JE e]) {s with Items:=pre++JE e::tl} (by simp)
  simp only [mV,xO,fk,GV]at h3
  rw [qT]
  exact h3
def Vc: ∀(tl pre:List al) (q:aN),q.Selects=pre++tl->f8 tl pre.length q=some {q with Selects:=pre++tl.map pi}:=by
 intro tl
 induction tl with
 |nil=>intro pre q hq;unfold f8;simp [<-hq]
 |cons e tl ih=>
  intro pre q hq
  unfold f8
  rw [hq,m8,aP,aP]
  rw [show n8 e.Items (7:Int)=some (e.Items.take 7)from H0 _ 7 (by omega),aP,show n7 e.Joins (3:Int)=some (e.Joins.take 3)from H0 _ 3 (by omega),aP,show lB e.Group (4:Int)=some (e.Group.take 4)from H0 _ 4 (by omega),aP]
  have D:=Vb (f8 tl) pre tl e q hq (e.Items.take 7) [] {e with Group:=e.Group.take 4,Items:=e.Items.take 7,Joins:=e.Joins.take 3} rfl
  rw [show([]:List eh).length=0 from rfl]at D
  rw [D]
  have h3:=ih (pre++[pi e]) {q with Selects:=pre++pi e::tl} (by simp)
  simp only [mV,xO,fk,GV]at h3
  rw [qT]
  exact h3
def Lg(q:aN):pO q=some (wz q):=by
 unfold pO
 rw [show mH q.Selects (4:Int)=some (q.Selects.take 4)from H0 _ 4 (by omega),aP,show mg q.Keys (4:Int)=some (q.Keys.take 4)from H0 _ 4 (by omega),aP]
 have:=Vc (q.Selects.take 4) [] {q with Keys:=q.Keys.take 4,Selects:=q.Selects.take 4} rfl
 exact this
def Kj:wq=some true:=by kernel_rfl
def zU(c:aq):zp (Dv c):=by
 intro t M
 obtain⟨u,_,rfl⟩:=zC.1 M
 have:(Rk u).Keys.length<=5:=by simp [Rk];omega
 omega
end Go.Proofs.YthbdkceckjihgaaGreatDoor


/- cu of this claim: B2. -/
set_option linter.all false
namespace Go.Proofs.YthbdkceckjihgaaGreatDoor
open Go

def Gp{f:cj->Option Bool}{p:cj->Bool}(hf: ∀x,f x=some (p x)): ∀(l:List cj) (i:Nat),∃j:Int,di f l i=some j/\decide (0<=j)=l.any p
 |[],i=>⟨-1,rfl,rfl⟩
 |x::l,i=>by
  unfold di
  rw [hf,aP,AN]
  cases V:p x with
  |true=>exact⟨i,rfl,by simp⟩
  |false=>
   obtain⟨j,A,D⟩:=Gp hf l (i+1)
   exact⟨j,A,by rw [D];rfl⟩
def LA{f:cj->Option Bool}{p:cj->Bool}(hf: ∀x,f x=some (p x))(l:List cj):dU l f=some (l.any p):=by
 obtain⟨j,A,D⟩:=Gp hf l 0
 unfold dU ge
 rw [A,aP,D]
def Gq{f:eh->Option Bool}{p:eh->Bool}(hf: ∀x,f x=some (p x)): ∀(l:List eh) (i:Nat),∃j:Int,dj f l i=some j/\decide (0<=j)=l.any p
 |[],i=>⟨-1,rfl,rfl⟩
 |x::l,i=>by
  unfold dj
  rw [hf,aP,AN]
  cases V:p x with
  |true=>exact⟨i,rfl,by simp⟩
  |false=>
   obtain⟨j,A,D⟩:=Gq hf l (i+1)
   exact⟨j,A,by rw [D];rfl⟩
def LB{f:eh->Option Bool}{p:eh->Bool}(hf: ∀x,f x=some (p x))(l:List eh):dV l f=some (l.any p):=by
 obtain⟨j,A,D⟩:=Gq hf l 0
 unfold dV gh
 rw [A,aP,D]
def ul(tag:Int):Bool:=tag==3||(decide (8<=tag)&&decide (tag<=11))
def nk:List (Int×Int):=[(3,1),(8,2),(9,3),(10,4),(11,5)]
def yz:nS=some nk:=by kernel_rfl
def Rx(tag:Int):decide ((0:Int)<((fP nk tag).getD (0:Int)))=ul tag:=by
 unfold nk ul
 simp only [fP]
 by_cases h3:tag=3
 ·subst h3;decide
 by_cases h8:tag=8
 ·subst h8;decide
 by_cases h9:tag=9
 ·subst h9;decide
 by_cases h10:tag=10
 ·subst h10;decide
 by_cases h11:tag=11
 ·subst h11;decide
 have e1: ¬(3:Int)=tag:=fun h=>h3 h.symm
 have e2: ¬(8:Int)=tag:=fun h=>h8 h.symm
 have e3: ¬(9:Int)=tag:=fun h=>h9 h.symm
 have e4: ¬(10:Int)=tag:=fun h=>h10 h.symm
 have e5: ¬(11:Int)=tag:=fun h=>h11 h.symm
 have e6:(tag==3)=false:=by simpa using h3
 have e7:(decide (8<=tag)&&decide (tag<=11))=false:=by simp;omega
 simp [e1,e2,e3,e4,e5,e6,e7]
def ON(t:ce):Bool:=t.Nodes.any fun n=>ul n.Tag
def lR(s:al):Bool:=(decide (0<s.Group.length)||decide (0<s.Having.Nodes.length))||s.Items.any fun x=>ON x.Tree
def LW(s:al):rt s=some (lR s):=by
 unfold rt lR
 rw [yz,aP]
 have A: ∀n,kW nk n=some (ul n.Tag):=fun n=>by unfold kW;rw [Rx]
 have D: ∀x,mO nk x=some (ON x.Tree):=fun x=>by unfold mO ON;rw [LA A,aP]
 rw [LB D,aP]
 have e1:decide ((0:Int)<(s.Group.length:Int))=decide (0<s.Group.length):=by rw [xL];omega
 have e2:decide ((0:Int)<(s.Having.Nodes.length:Int))=decide (0<s.Having.Nodes.length):=by rw [xL];omega
 rw [e1,e2]
 cases (decide (0<s.Group.length)||decide (0<s.Having.Nodes.length))<;>rfl
def DN: ∀(l:List cj),re l=some (l.any fun n=>ul n.Tag)
 |[]=>rfl
 |x::l=>by
  unfold re
  rw [show jW x.Tag=some (ul x.Tag)from rfl,aP,AN]
  cases ul x.Tag with
  |true=>rfl
  |false=>exact DN l
def rR: ∀(l:List eh) (b:Bool),kI l b=some (b||l.any fun x=>ON x.Tree)
 |[],b=>by simp [kI]
 |x::l,b=>by
  unfold kI
  rw [show F6 x.Tree=some (ON x.Tree)from DN x.Tree.Nodes,AN]
  cases b with
  |true=>simp only [oI,jS,ii,aP];rw [rR l true];rfl
  |false=>simp only [AO,gW,aP];rw [rR l (ON x.Tree)];simp
def DO(s:al):tE s=some (lR s):=by
 unfold tE lR
 have e1:decide ((0:Int)<(s.Group.length:Int))=decide (0<s.Group.length):=by rw [xL];omega
 have e2:decide ((0:Int)<(s.Having.Nodes.length:Int))=decide (0<s.Having.Nodes.length):=by rw [xL];omega
 rw [rR,e1,e2]
def EY(c:aq)(t:Int):Bool:=decide (t<0)||decide ((c.Tables.length:Int)<=t)
def iH(c:aq)(t:Int):List bl:=((c.Tables[t.toNat]?).map fun x=>x.Columns).getD []
def f7(c:aq)(ts:List Int):List Int:=ts.flatMap fun t=>(iH c t).map fun x=>x.Kind
def RF(c:aq):Prop:= ∀t∈c.Tables,t.Columns.length<=1000
def u4{c:aq}(h:RF c)(t:Int):(iH c t).length<=1000:=by
 unfold iH
 cases V:c.Tables[t.toNat]? with
 |none=>simp
 |some x=>exact h x (qD V)
def CZ{c:aq}{t:Int}(h:EY c t=false): ∃x,fg c.Tables t=some x/\x.Columns=iH c t/\x∈c.Tables:=by
 simp only [EY,GU,nl]at h
 have hlt:t.toNat<c.Tables.length:=by omega
 refine⟨c.Tables[t.toNat],?_,?_,Id ..⟩
 ·unfold fg;rw [bD (by omega),jA hlt]
 ·unfold iH;rw [jA hlt];rfl
def Jb(nx:List Int->Option (List Int)): ∀(l:List bl) (out:List Int),out.length+l.length<=68719476736->ko nx l out=nx (out++l.map fun x=>x.Kind)
 |[],out,_=>by simp [ko]
 |x::l,out,h=>by
  simp only [gz]at h
  unfold ko lm
  rw [bD (by simp;omega),aP,Jb nx l _ (by simp;omega)]
  simp
def Jc{c:aq}(hc:RF c): ∀(l:List Int) (out:List Int),(∀t∈l,EY c t=false)->out.length+l.length*1000<=68719476736->jv c l out=some (out++f7 c l)
 |[],out,_,_=>by simp [jv,f7]
 |t::l,out,h,hl=>by
  simp only [gz]at hl
  obtain⟨x,A,D,_⟩:=CZ (h t (lL ..))
  have h3:=u4 hc t
  unfold jv
  rw [A,aP,Jb _ _ _ (by rw [D];omega),Jc hc l _ (fun t M=>h t (ma _ M)) (by rw [D];simp;omega),D]
  simp [f7]
def KZ{c:aq}(hc:RF c){l:List Int}(h: ∀t∈l,EY c t=false)(hl:l.length<=1000):zn c l=some (f7 c l):=by
 unfold zn
 rw [Jc hc l [] h (by simp;omega)];rfl
def DM(c:aq): ∀(l:List Int) (out:List Int),my c l out=jv c l out:=by
 have D: ∀(nx:List Int->Option (List Int)) (l:List bl) (out:List Int),oY nx l out=ko nx l out:=by
  intro nx l
  induction l with
  |nil=>intro out;rfl
  |cons x l ih=>intro out;unfold oY ko;exact congrArg _ (funext fun y=>ih y)
 intro l
 induction l with
 |nil=>intro out;rfl
 |cons t l ih=>
  intro out
  unfold my jv
  refine congrArg _ (funext fun e=>?_)
  rw [D,show my c l=jv c l from funext ih]
def Hq{c:aq}(hc:RF c){l:List Int}(h: ∀t∈l,EY c t=false)(hl:l.length<=1000):jr c l=some (f7 c l):=by
 have:=KZ hc h hl
 unfold zn at this
 unfold jr
 rw [DM,this]
end Go.Proofs.YthbdkceckjihgaaGreatDoor


/- cu of this claim: B3. -/
set_option linter.all false
namespace Go.Proofs.YthbdkceckjihgaaGreatDoor
open Go

def Ou(tag:Int):Option Nat:=if 1<=tag/\tag<=3 then some 0 else if 4<=tag/\tag<=11 then some 1 else if 12<=tag/\tag<=23 then some 2 else none
def wo(tag:Int):Int:=match Ou tag with
 |some k=>(k:Int)
 |none=> -1
def AD(tag:Int):xz tag=some (wo tag):=by
 unfold xz wo Ou
 by_cases h0:tag<1\/23<tag
 ·rw [bD (show(decide (tag<1)||decide (23<tag))=true by simpa using h0),bv (show¬(1<=tag/\tag<=3) by omega),bv (show¬(4<=tag/\tag<=11) by omega),bv (show¬(12<=tag/\tag<=23) by omega)]
 rw [bv (show¬(decide (tag<1)||decide (23<tag))=true by simpa using h0)]
 by_cases A:tag<=3
 ·rw [bD (show decide (tag<=3)=true by simpa using A),bD (show 1<=tag/\tag<=3 by omega)];rfl
 rw [bv (show¬decide (tag<=3)=true by simpa using A),bv (show¬(1<=tag/\tag<=3) by omega)]
 by_cases D:tag<=11
 ·rw [bD (show decide (tag<=11)=true by simpa using D),bD (show 4<=tag/\tag<=11 by omega)];rfl
 rw [bv (show¬decide (tag<=11)=true by simpa using D),bv (show¬(4<=tag/\tag<=11) by omega),bD (show 12<=tag/\tag<=23 by omega)];rfl
def o5(tag:Int):sL tag=some (wo tag):=AD tag
def JW(up:List Int)(ws:List bZ): ∀(n i:Nat),i+n=ws.length->lP up ws n i=some (!(ws.drop i).any fun w=>w==pw up):=by
 intro n
 induction n with
 |zero=>intro i h;unfold lP;rw [oE (by omega)];rfl
 |succ n ih=>
  intro i h
  have hi:i<ws.length:=by omega
  unfold lP
  rw [iu,jA hi,aP,pC hi,AN]
  cases V:(ws[i]==pw up)with
  |true=>rw [bD rfl];rfl
  |false=>rw [bv (by simp),ih (i+1) (by omega)];rfl
def MP(s:bZ){i:Nat}(hi:i<s.length):qO s (i:Int)=some ((s[i]).toNat:Int):=by
 unfold qO
 rw [iu,jA hi];rfl
def DY:BY=some U5:=rfl
def JX(s:bZ)(hs:s.length<=1000): ∀(n i:Nat) (up:List Int),s.length<i+n->i<=s.length->up.length<=i->pw up=(s.take i).map Kl->lQ s n up (i:Int)=some ((s.drop i).all Ow&& !Dj (s.map Kl)):=by
 intro n
 induction n with
 |zero=>intro i up h D _ _;omega
 |succ n ih=>
  intro i up h D hl hu
  unfold lQ
  by_cases hi:i<s.length
  ·rw [bD (by rw [li];omega),MP s hi,aP,pC hi,qk]
   have hw:IntKind.i64.wrap ((i:Int)+1)=((i+1:Nat):Int):=by rw [yF];omega
   have hlt:=(s[i]).toNat_lt
   have htake:s.take (i+1)=s.take i++[s[i]]:=by rw [J9 hi]
   have hok:Ow s[i]=(gy (s[i]).toNat||sl (s[i]).toNat||(s[i]).toNat==95):=rfl
   have e1:(((!((decide ((97:Int)<=((s[i]).toNat:Int)))&&(decide (((s[i]).toNat:Int)<=(122:Int)))))&&((decide (((s[i]).toNat:Int)<(48:Int)))||(decide ((57:Int)<((s[i]).toNat:Int)))))&&(((s[i]).toNat:Int) !=(95:Int)))= !Ow s[i]:=by
    rw [hok,tQ]
    simp [gy,sl]
    omega
   rw [e1]
   cases ho:Ow s[i]with
   |false=>simp
   |true=>
    simp only [oI,jS,ii,tw]
    have e2:((decide ((97:Int)<=((s[i]).toNat:Int)))&&(decide (((s[i]).toNat:Int)<=(122:Int))))=gy (s[i]).toNat:=by
     rw [tQ];simp [gy];omega
    rw [e2]
    cases hsm:gy (s[i]).toNat with
    |true=>
     have h97:97<=(s[i]).toNat/\(s[i]).toNat<=122:=by simpa [gy] using hsm
     have hc:IntKind.u8.wrap (((s[i]).toNat:Int)-32)=(((s[i]).toNat-32:Nat):Int):=by
      rw [IntKind.wrap_u8];omega
     rw [bD rfl,hc]
     unfold nK
     rw [cG (by simp;omega),aP,hw]
     refine ih (i+1) _ (by omega) (by omega) (by simp;omega) ?_
     rw [q0,hu,htake,FI]
     congr 1
     show pw [_]=_
     simp only [pw,qT,BM]
     congr 1
     simp [Kl,hsm]
    |false=>
     rw [bv (by simp)]
     unfold nK
     rw [cG (by simp;omega),aP,hw]
     refine ih (i+1) _ (by omega) (by omega) (by simp;omega) ?_
     rw [q0,hu,htake,FI]
     congr 1
     show pw [_]=_
     simp only [pw,qT,BM]
     congr 1
     simp [Kl,hsm]
  ·rw [bv (by rw [li];omega),oE (by omega)]
   have hi' :i=s.length:=by omega
   rw [DY,aP,JW up U5 28 0 rfl,pA,hu,hi',xY]
   rfl
def nL(s:bZ):m6 s=some (gG s):=by
 unfold m6 gG
 cases s with
 |nil=>rfl
 |cons b t=>
  by_cases hl:(b::t).length<=16
  ·rw [bD (by rw [vO,GU,nl,nl];simp at hl ⊢;omega),Bm,aP,aP]
   have e0:(decide (1<=(b::t).length)&&decide ((b::t).length<=16)&&MQ (b::t))=gy b.toNat:=by
    rw [oJ (show 1<=(b::t).length by simp),oJ hl];rfl
   rw [e0]
   by_cases h97:97<=b.toNat
   ·have d1:decide ((b.toNat:Int)<(97:Int))=false:=by rw [nl];omega
    rw [d1]
    simp only [AO,gW,aP]
    by_cases h122:b.toNat<=122
    ·have d2:decide ((122:Int)<(b.toNat:Int))=false:=by rw [nl];omega
     have d3:gy b.toNat=true:=by simp [gy];omega
     rw [d2,d3]
     simp only [jS,ii,tw]
     have:=JX (b::t) (by omega) gx 0 [] (by unfold gx;omega) (ij _) (eO _) rfl
     rw [show((0:Int))=((0:Nat):Int)from rfl,this,pA,Bool.and_comm]
    ·have d2:decide ((122:Int)<(b.toNat:Int))=true:=by rw [li];omega
     have d3:gy b.toNat=false:=by simp [gy];omega
     rw [d2,d3];rfl
   ·have d1:decide ((b.toNat:Int)<(97:Int))=true:=by rw [li];omega
    have d3:gy b.toNat=false:=by simp [gy];omega
    rw [d1,d3];rfl
  ·rw [bv (by rw [vO,GU,nl,nl];omega)]
   rw [qC hl]
   simp
def ly(s:bZ):Bool:=s==[]||gG s
def ru(s:bZ):pX s=some (ly s):=by
 unfold pX ly
 rw [jt]
 cases (s==([]:bZ))<;>rfl
def mz(s:bZ):mA s=some (ly s):=by
 unfold mA ly
 rw [nL]
 cases (s==([]:bZ))<;>rfl
def lp(s:da):Bool:=gG s.Table&&ly s.As
def yy(s:da):sq s=some (lp s):=by
 unfold sq lp
 rw [jt,ru]
 cases gG s.Table<;>rfl
def vo(s:da):rf s=some (lp s):=by
 unfold rf lp
 rw [nL,mz]
 cases gG s.Table<;>rfl
def RN(b:UInt8):Bool:=decide (32<=b.toNat)&&decide (b.toNat<=126)
def PI(s:bZ){i:Nat}(hi:i<s.length){β:Type}(x y:Option β):(((qO s (i:Int)).bind fun b=>(if(!(decide (b<(32:Int))))then((qO s (i:Int)).bind fun b1=>some (decide ((126:Int)<b1)))else some true).bind fun t=>if t then x else y))=if RN s[i]then y else x:=by
 rw [MP s hi]
 simp only [aP]
 unfold RN
 by_cases A:(s[i]).toNat<32
 ·have d1:decide (((s[i]).toNat:Int)<32)=true:=by rw [li];omega
  have d2:decide (32<=(s[i]).toNat)=false:=by rw [nl];omega
  rw [d1,d2];rfl
 ·have d1:decide (((s[i]).toNat:Int)<32)=false:=by rw [nl];omega
  have d2:decide (32<=(s[i]).toNat)=true:=by rw [li];omega
  rw [d1,d2]
  by_cases h3:(s[i]).toNat<=126
  ·have d3:decide ((126:Int)<((s[i]).toNat:Int))=false:=by rw [nl];omega
   have d4:decide ((s[i]).toNat<=126)=true:=by rw [li];omega
   rw [d3,d4];rfl
  ·have d3:decide ((126:Int)<((s[i]).toNat:Int))=true:=by rw [li];omega
   have d4:decide ((s[i]).toNat<=126)=false:=by rw [nl];omega
   rw [d3,d4];rfl
def Ke(s:bZ)(hs:s.length<=100000): ∀(n i:Nat),s.length<i+n->i<=s.length->mQ s n (i:Int)=some ((s.drop i).all RN):=by
 intro n
 induction n with
 |zero=>intro i h D;omega
 |succ n ih=>
  intro i h D
  unfold mQ
  by_cases hi:i<s.length
  ·have hw:IntKind.i64.wrap ((i:Int)+1)=((i+1:Nat):Int):=by rw [yF];omega
   rw [bD (by rw [li];omega),PI s hi,pC hi,qk,hw,ih (i+1) (by omega) (by omega)]
   cases RN s[i]<;>rfl
  ·rw [bv (by rw [li];omega),oE (by omega)];rfl
def xf(v:bO):Bool:=qM v&&decide (0<=v.N)
def KY(v:bO)(hs:v.S.length<=100000): ∀(n i:Nat),v.S.length<i+n->i<=v.S.length->m5 v n (i:Int)=some ((v.S.drop i).all RN&&xf v):=by
 intro n
 induction n with
 |zero=>intro i h D;omega
 |succ n ih=>
  intro i h D
  unfold m5
  by_cases hi:i<v.S.length
  ·have hw:IntKind.i64.wrap ((i:Int)+1)=((i+1:Nat):Int):=by rw [yF];omega
   rw [bD (by rw [li];omega),PI v.S hi,pC hi,qk,hw,ih (i+1) (by omega) (by omega)]
   cases RN v.S[i]<;>rfl
  ·rw [bv (by rw [li];omega),oE (by omega),mD];rfl
def qP(n:cj):Bool:=
 if n.Tag=1 then(n.Table==[]&&n.Name==[])&&(xf n.Value&&n.Value.S.all RN)
 else if n.Tag=2 then decide (n.Value=(⟨0,0,0,[]⟩:bO))&&(gG n.Name&&ly n.Table)
 else decide (n.Value=(⟨0,0,0,[]⟩:bO))&&(n.Table==[]&&n.Name==[])
def vA(n:cj):Prop:=n.Value.S.length<=100000
def FA{n:cj}(hs:vA n):u9 n=some (qP n):=by
 unfold u9 qP
 by_cases A:n.Tag=1
 ·rw [bD (by simpa using A),bD A,vU]
  have hw:=Ke n.Value.S hs gx 0 (by unfold gx vA at*;omega) (ij _)
  rw [show wN n.Value.S=some (n.Value.S.all RN)from hw]
  unfold xf
  cases (n.Table==([]:bZ))<;>cases (n.Name==([]:bZ))<;>cases qM n.Value<;>cases decide (0<=n.Value.N)<;>rfl
 ·rw [bv (by simpa using A),bv A]
  by_cases D:n.Tag=2
  ·rw [bD (by simpa using D),bD D,jt,ru]
   cases decide (n.Value=(⟨0,0,0,[]⟩:bO))<;>cases gG n.Name<;>rfl
  ·rw [bv (by simpa using D),bv D]
   cases decide (n.Value=(⟨0,0,0,[]⟩:bO))<;>cases (n.Table==([]:bZ))<;>cases (n.Name==([]:bZ))<;>rfl
def nJ{n:cj}(hs:vA n):uE n=some (qP n):=by
 unfold uE qP
 by_cases A:n.Tag=1
 ·rw [bD (by simpa using A),bD A]
  have hw:=KY n.Value hs gx 0 (by unfold gx vA at*;omega) (ij _)
  rw [show yn n.Value=some (n.Value.S.all RN&&xf n.Value)from hw]
  cases (n.Table==([]:bZ))<;>cases (n.Name==([]:bZ))<;>cases xf n.Value<;>cases n.Value.S.all RN<;>rfl
 ·rw [bv (by simpa using A),bv A]
  by_cases D:n.Tag=2
  ·rw [bD (by simpa using D),bD D,nL,mz]
   cases decide (n.Value=(⟨0,0,0,[]⟩:bO))<;>cases gG n.Name<;>rfl
  ·rw [bv (by simpa using D),bv D]
   cases decide (n.Value=(⟨0,0,0,[]⟩:bO))<;>cases (n.Table==([]:bZ))<;>cases (n.Name==([]:bZ))<;>rfl
inductive Bt where
 |lf (n:cj)
 |un (n:cj) (a:Bt)
 |bi (n:cj) (a b:Bt)
 deriving Inhabited
def Bt.size:Bt->Nat
 | .lf _=>1
 | .un _ a=>a.size+1
 | .bi _ a b=>a.size+b.size+1
def putA(n:cj)(l r:Int):cj:={n with L:=l,R:=r}
def Bt.flat:Bt->Nat->List cj
 | .lf n,_=>[putA n (-1) (-1)]
 | .un n a,s=>a.flat s++[putA n ((s+a.size:Nat)-1) (-1)]
 | .bi n a b,s=>a.flat s++b.flat (s+a.size)++[putA n ((s+a.size:Nat)-1) ((s+a.size+b.size:Nat)-1)]
def Yl(k:Nat)(n:cj):Prop:=Ou n.Tag=some k/\qP n=true/\n.L= -1/\n.R= -1
def Bt.wf:Bt->Prop
 | .lf n=>Yl 0 n
 | .un n a=>Yl 1 n/\a.wf
 | .bi n a b=>Yl 2 n/\a.wf/\b.wf
def Bt.depth:Bt->Nat
 | .lf _=>1
 | .un _ a=>a.depth+1
 | .bi _ a b=>max a.depth b.depth+1
def Bt.size_pos(t:Bt):0<t.size:=by cases t<;>simp [Bt.size]
def Bt.flat_len(t:Bt): ∀s,(t.flat s).length=t.size:=by
 induction t with
 |lf n=>intro s;rfl
 |un n a ih=>intro s;simp [Bt.flat,Bt.size,ih]
 |bi n a b iha ihb=>intro s;simp [Bt.flat,Bt.size,iha,ihb];omega
def bM:List Bt->Nat
 |[]=>0
 |t::st=>bM st+t.size
def uN:List Bt->List cj
 |[]=>[]
 |t::st=>uN st++t.flat (bM st)
def Dw: ∀st:List Bt,st.length<=bM st
 |[]=>eO _
 |t::st=>by have:=Dw st;have:=t.size_pos;simp [bM];omega
def z8(st:List Bt)(n:cj):Option (List Bt):=
 match Ou n.Tag,st with
 |some 0,st=>if qP n&&n.L== -1&&n.R== -1 then some (.lf (putA n (-1) (-1))::st)else none
 |some 1,a::st=>if qP n&&n.L==((bM st+a.size:Nat):Int)-1&&n.R== -1 then some (.un (putA n (-1) (-1)) a::st)else none
 |some 2,b::a::st=>if qP n&&n.L==((bM st+a.size:Nat):Int)-1&&n.R==((bM st+a.size+b.size:Nat):Int)-1 then some (.bi (putA n (-1) (-1)) a b::st)else none
 |_,_=>none
def kg:List cj->List Bt->Option (List Bt)
 |[],st=>some st
 |n::ns,st=>(z8 st n).bind (kg ns)
def R0(st:List Bt):Prop:= ∀t∈st,t.wf
def xd{n:cj}{l r:Int}(h:n.L=l)(D:n.R=r):putA (putA n (-1) (-1)) l r=n:=by subst h D;rfl
def EQ{n:cj}{l r:Int}:qP (putA n l r)=qP n:=rfl
def KI{st st' :List Bt}{n:cj}(h:z8 st n=some st')(hw:R0 st):uN st' =uN st++[n]/\bM st' =bM st+1/\R0 st' :=by
 unfold z8 at h
 split at h
 ·rename_i k st0 hk
  split at h
  ·rename_i hc
   simp only [gU,sG]at hc
   obtain⟨⟨A,D⟩,h3⟩:=hc
   cases h
   refine⟨?_,rfl,fun t M=>?_⟩
   ·simp only [uN,Bt.flat]
    rw [xd D h3]
   ·rcases eW.1 M with rfl|M
    ·exact⟨hk,A,rfl,rfl⟩
    ·exact hw t M
  ·cases h
 ·rename_i k a st0 hk
  split at h
  ·rename_i hc
   simp only [gU,sG]at hc
   obtain⟨⟨A,D⟩,h3⟩:=hc
   cases h
   refine⟨?_,by simp [bM,Bt.size];omega,fun t M=>?_⟩
   ·simp only [uN,Bt.flat]
    rw [xd D h3,fk]
   ·rcases eW.1 M with rfl|M
    ·exact⟨⟨hk,A,rfl,rfl⟩,hw a (lL ..)⟩
    ·exact hw t (ma _ M)
  ·cases h
 ·rename_i k b a st0 hk
  split at h
  ·rename_i hc
   simp only [gU,sG]at hc
   obtain⟨⟨A,D⟩,h3⟩:=hc
   cases h
   refine⟨?_,by simp [bM,Bt.size];omega,fun t M=>?_⟩
   ·simp only [uN,Bt.flat,bM]
    rw [xd D h3]
    simp only [fk]
   ·rcases eW.1 M with rfl|M
    ·exact⟨⟨hk,A,rfl,rfl⟩,hw a (ma _ (lL ..)),hw b (lL ..)⟩
    ·exact hw t (ma _ (ma _ M))
  ·cases h
 ·cases h
def Ca: ∀{ns:List cj} {st st' :List Bt},kg ns st=some st' ->R0 st->uN st' =uN st++ns/\R0 st'
 |[],st,st',h,hw=>by cases h;simp [hw]
 |n::ns,st,st',h,hw=>by
  unfold kg at h
  cases hp:z8 st n with
  |none=>rw [hp]at h;cases h
  |some st1=>
   rw [hp]at h
   obtain⟨A,_,h3⟩:=KI hp hw
   obtain⟨h4,h5⟩:=Ca (ns:=ns) h h3
   exact⟨by rw [h4,A];simp,h5⟩
def qc: ∀(ns ms:List cj) (st:List Bt),kg (ns++ms) st=(kg ns st).bind (kg ms)
 |[],ms,st=>rfl
 |n::ns,ms,st=>by
  simp only [tR,kg]
  cases z8 st n with
  |none=>rfl
  |some st1=>exact qc ns ms st1
def IY(t:Bt): ∀(st:List Bt),t.wf->kg (t.flat (bM st)) st=some (t::st):=by
 induction t with
 |lf n=>
  intro st ⟨A,D,h3,h4⟩
  have hn' :putA n (-1) (-1)=n:=by cases n;simp only at h3 h4;subst h3 h4;rfl
  simp only [Bt.flat,kg,z8,hn']
  rw [A]
  simp [D,h3,h4,kg,hn']
 |un n a ih=>
  intro st ⟨⟨A,D,h3,h4⟩,ha⟩
  have hn' :putA n (-1) (-1)=n:=by cases n;simp only at h3 h4;subst h3 h4;rfl
  simp only [Bt.flat]
  rw [qc,ih st ha]
  simp only [aP,kg,z8]
  have e1:(putA n (((bM st+a.size:Nat):Int)-1) (-1)).Tag=n.Tag:=rfl
  rw [e1,A]
  have e2:qP (putA n (((bM st+a.size:Nat):Int)-1) (-1))=true:=D
  rw [e2]
  simp only [putA,xZ,Bool.and_self,gW,aP,kg]
  simp only [putA]at hn'
  rw [hn']
 |bi n a b iha ihb=>
  intro st ⟨⟨A,D,h3,h4⟩,ha,H⟩
  have hn' :putA n (-1) (-1)=n:=by cases n;simp only at h3 h4;subst h3 h4;rfl
  simp only [Bt.flat]
  rw [qc,qc,iha st ha]
  simp only [aP]
  have e0:bM st+a.size=bM (a::st):=rfl
  rw [e0,ihb (a::st) H]
  simp only [aP,kg,z8]
  have e1:(putA n (((bM (a::st):Nat):Int)-1) (((bM (a::st)+b.size:Nat):Int)-1)).Tag=n.Tag:=rfl
  rw [e1,A]
  have e2:qP (putA n (((bM (a::st):Nat):Int)-1) (((bM (a::st)+b.size:Nat):Int)-1))=true:=D
  rw [e2]
  simp only [putA,bM,xZ,Bool.and_self,gW,aP,kg]
  simp only [putA]at hn'
  rw [hn']
def Qv:List Bt->Bool
 |[t]=>decide (t.size<=300)&&decide (t.depth<=20)
 |_=>false
def yf(ns:List cj):Option Bt:=match kg ns []with
 |some [t]=>if t.size<=300/\t.depth<=20 then some t else none
 |_=>none
def uu{ns:List cj}{t:Bt}(h:yf ns=some t):t.wf/\ns=t.flat 0/\t.size<=300/\t.depth<=20:=by
 unfold yf at h
 split at h
 ·rename_i t0 hp
  split at h
  ·rename_i hl
   cases h
   obtain⟨A,D⟩:=Ca hp (fun t M=>by cases M)
   simp only [uN,bM,nu]at A
   exact⟨D t (lL ..),A.symm,hl⟩
  ·cases h
 ·cases h
def Kn{t:Bt}(h:t.wf)(hs:t.size<=300)(hd:t.depth<=20):yf (t.flat 0)=some t:=by
 unfold yf
 have h0:=IY t [] h
 simp only [bM]at h0
 rw [h0]
 simp only [hs,hd,and_self,gW]
end Go.Proofs.YthbdkceckjihgaaGreatDoor


/- cu of this claim: B4. -/
set_option linter.all false
namespace Go.Proofs.YthbdkceckjihgaaGreatDoor
open Go

def LJ:Bt->Nat->List jO
 | .lf _,s=>[⟨(s:Int),1⟩]
 | .un _ a,s=>LJ a s++[⟨(s:Int),((a.depth+1:Nat):Int)⟩]
 | .bi _ a b,s=>LJ a s++LJ b (s+a.size)++[⟨(s:Int),((max a.depth b.depth+1:Nat):Int)⟩]
def AC:List Bt->List jO
 |[]=>[]
 |t::st=>AC st++LJ t (bM st)
def lr:List Bt->List Int
 |[]=>[]
 |t::st=>lr st++[((bM st+t.size:Nat):Int)-1]
def rs(t:Bt): ∀s,(LJ t s).length=t.size:=by
 induction t with
 |lf n=>intro s;rfl
 |un n a ih=>intro s;simp [LJ,Bt.size,ih]
 |bi n a b iha ihb=>intro s;simp [LJ,Bt.size,iha,ihb];omega
def qu: ∀st:List Bt,(AC st).length=bM st
 |[]=>rfl
 |t::st=>by simp [AC,bM,qu st,rs]
def df: ∀st:List Bt,(lr st).length=st.length
 |[]=>rfl
 |t::st=>by simp [lr,df st]
def Bt.depth_size(t:Bt):t.depth<=t.size:=by
 induction t with
 |lf n=>exact eO _
 |un n a ih=>simp [Bt.size,Bt.depth,ih]
 |bi n a b iha ihb=>simp [Bt.size,Bt.depth];omega
def Rt(t:Bt)(s:Nat):(LJ t s)[t.size-1]? =some ⟨(s:Int),(t.depth:Int)⟩:=by
 cases t with
 |lf n=>rfl
 |un n a=>simp only [LJ,Bt.size];rw [tX (by rw [rs];omega),rs];simp [Bt.depth]
 |bi n a b=>simp only [LJ,Bt.size];rw [tX (by simp [rs]),mV,rs,rs];simp [Bt.depth]
def xy(t:Bt)(st:List Bt)(rest:List jO):(AC st++LJ t (bM st)++rest)[bM st+t.size-1]? =some ⟨(bM st:Int),(t.depth:Int)⟩:=by
 have:=t.size_pos
 rw [zG (by rw [mV,qu,rs];omega),tX (by rw [qu];omega),qu,show bM st+t.size-1-bM st=t.size-1 from by omega]
 exact Rt t _
def VR{β:Type}(a b l r:Int)(x y:Option β):((fg [a,b] (0:Int)).bind fun e2=>(if(!(l !=e2))then((fg [a,b] (1:Int)).bind fun e3=>some (r !=e3))else some true).bind fun t3=>if t3 then x else y)=if(l==a&&r==b)then y else x:=by
 have h0:fg [a,b] (0:Int)=some a:=rfl
 have A:fg [a,b] (1:Int)=some b:=rfl
 rw [h0,A]
 simp only [aP]
 by_cases hl:l=a
 ·subst hl
  simp only [bne_self_eq_false,AO,gW,aP,xZ,tw]
  by_cases hr:r=b
  ·subst hr;simp
  ·have:(r==b)=false:=by simpa using hr
   simp [bne,this]
 ·have:(l==a)=false:=by simpa using hl
  simp [bne,this]
def Jp: ∀(ns:List cj) (st:List Bt),(∀n∈ns,vA n)->bM st+ns.length<=100000->lK ns (bM st) (AC st) (lr st)=some (match kg ns st with
   |some st' =>(AC st',Qv st')
   |none=>([],false)):=by
 intro ns
 induction ns with
 |nil=>
  intro st _ _
  simp only [lK,kg,df,qu]
  match st with
  |[]=>rfl
  |[t]=>
   have hp:=t.size_pos
   have hl:=xy t [] []
   simp only [AC,bM,zD,nu,pz]at hl ⊢
   have e1:(((([t]:List Bt).length:Nat):Int)==(1:Int))=true:=rfl
   rw [e1]
   simp only [Qv,tw]
   by_cases hs:t.size<=300
   ·rw [bD (by rw [li];omega),gY (t.size-1) (by rw [cV (by omega) (by omega)];omega),hl]
    simp only [aP]
    rw [oJ hs,tw]
    congr 2
    rw [xL];omega
   ·rw [bv (by rw [li];omega),qC hs];rfl
  |a::b::st=>
   have e1:((((a::b::st).length:Nat):Int)==(1:Int))=false:=by simp;omega
   rw [e1];rfl
 |cons n ns ih=>
  intro st hS hs
  have hSn:=hS n (lL ..)
  have ih:=fun st=>ih st (fun m hm=>hS m (ma _ hm))
  simp only [gz]at hs
  have hll:=Dw st
  unfold lK
  rw [AD]
  simp only [aP,df,FA hSn]
  unfold kg
  unfold z8
  -- the parts
  cases hk:Ou n.Tag with
  |none=>
   have e:wo n.Tag= -1:=by unfold wo;rw [hk]
   simp [e]
  |some k=>
   have e:wo n.Tag=(k:Int):=by unfold wo;rw [hk]
   have hk3:k=0\/k=1\/k=2:=by
    unfold Ou at hk
    repeat' split at hk
    all_goals simp at hk
    all_goals omega
   rw [e]
   rcases hk3 with rfl|rfl|rfl
   ·-- none
    simp only []
    have c1:(decide (((0:Nat):Int)<0)||decide ((st.length:Int)<((0:Nat):Int)))=false:=by simp
    simp only [c1,AO,gW,aP]
    cases hc:qP n with
    |false=>simp
    |true=>
     simp only [oI,jS,ii,tw]
     rw [iQ st.length st.length (by rw [cV (by omega) (by omega)];omega) rfl (eO _) (by rw [df];exact eO _)]
     have hd:(List.take st.length (lr st)).drop st.length=[]:=oE (by simp;omega)
     rw [hd,aP,show tm [(-1:Int),-1] []=[-1,-1]from rfl,VR]
     cases H:(n.L== -1&&n.R== -1)with
     |false=>simp
     |true=>
      simp only [gW,nc]
      rw [cG (by simp only [gz,pB,qu];omega)]
      simp only [aP]
      rw [iQ (i:=0) 0 st.length rfl (by rw [df,cV (by omega) (by omega)];omega) (ij _) (by rw [df];exact eO _)]
      rw [nv (by rw [df];exact eO _),pA]
      simp only [aP]
      rw [cG (by simp only [gz,pB,df];omega)]
      simp only [aP]
      have D:=ih (.lf (putA n (-1) (-1))::st) (by simp [bM,Bt.size];omega)
      simp only [bM,Bt.size,AC,LJ,lr]at D
      rw [show(((bM st+1:Nat):Int)-1)=(bM st:Int)from by omega]at D
      exact D
   ·-- one
    cases st with
    |nil=>simp
    |cons a st=>
     simp only []
     have c1:(decide (((1:Nat):Int)<0)||decide (((a::st).length:Int)<((1:Nat):Int)))=false:=by simp;omega
     simp only [c1,AO,gW,aP]
     cases hc:qP n with
     |false=>simp
     |true=>
      simp only [oI,jS,ii,tw]
      simp only [gz]at hll ⊢
      simp only [bM]at hs hll
      have hap:=a.size_pos
      have hdp:=a.depth_size
      rw [iQ st.length (st.length+1) (by rw [cV (by omega) (by omega)];omega) (by omega) (by omega) (by rw [df];exact eO _)]
      have hd:(List.take (st.length+1) (lr (a::st))).drop st.length=[((bM st+a.size:Nat):Int)-1]:=by
       rw [nv (by rw [df];exact eO _)]
       simp only [lr]
       rw [J8 (by rw [df];exact eO _),oE (by rw [df];exact eO _),nu]
      rw [hd,aP,show tm [(-1:Int),-1] [((bM st+a.size:Nat):Int)-1]=[((bM st+a.size:Nat):Int)-1,-1]from rfl,VR]
      cases H:(n.L==((bM st+a.size:Nat):Int)-1&&n.R== -1)with
      |false=>simp
      |true=>
       simp only [gW,nc]
       rw [gY (bM st+a.size-1) (by omega)]
       have hf:=xy a st []
       rw [zD]at hf
       simp only [AC]
       rw [hf]
       simp only [aP]
       rw [cG (by simp only [gz,pB,mV,qu,rs];omega)]
       simp only [aP]
       rw [iQ (i:=0) 0 st.length rfl (by rw [df,cV (by simp<;>omega) (by simp<;>omega)];simp) (ij _) (by rw [df];simp)]
       have M:(List.take st.length (lr (a::st))).drop 0=lr st:=by
        simp only [lr,pA]
        rw [vF (by rw [df];exact eO _),nv (by rw [df];exact eO _)]
       rw [M]
       simp only [aP]
       rw [cG (by simp only [gz,pB,df];omega)]
       simp only [aP]
       have D:=ih (.un (putA n (-1) (-1)) a::st) (by simp [bM,Bt.size];omega)
       simp only [bM,Bt.size,AC,LJ,lr]at D
       rw [show(((bM st+(a.size+1):Nat):Int)-1)=((bM st+a.size:Nat):Int)from by omega]at D
       have hm:min ((bM (a::st):Nat):Int) (bM st:Int)=(bM st:Int):=by simp only [bM];omega
       have V:max (1:Int) (IntKind.i64.wrap ((a.depth:Int)+1))=((a.depth+1:Nat):Int):=by rw [cV (by omega) (by omega)];omega
       rw [hm,V]
       simp only [fk]at D ⊢
       exact D
   ·-- two
    cases st with
    |nil=>simp
    |cons b st=>
     cases st with
     |nil=>simp
     |cons a st=>
      simp only []
      have c1:(decide (((2:Nat):Int)<0)||decide (((b::a::st).length:Int)<((2:Nat):Int)))=false:=by simp;omega
      simp only [c1,AO,gW,aP]
      cases hc:qP n with
      |false=>simp
      |true=>
       simp only [oI,jS,ii,tw]
       simp only [gz]at hll ⊢
       simp only [bM]at hs hll
       have hap:=a.size_pos
       have hbp:=b.size_pos
       have hda:=a.depth_size
       have hdb:=b.depth_size
       rw [iQ st.length (st.length+1+1) (by rw [cV (by omega) (by omega)];omega) (by omega) (by omega) (by rw [df];exact eO _)]
       have hd:(List.take (st.length+1+1) (lr (b::a::st))).drop st.length=[((bM st+a.size:Nat):Int)-1,((bM st+a.size+b.size:Nat):Int)-1]:=by
        rw [nv (by rw [df];exact eO _)]
        simp only [lr,bM,fk]
        rw [J8 (by rw [df];exact eO _),oE (by rw [df];exact eO _),nu]
        rfl
       rw [hd,aP,show tm [(-1:Int),-1] [((bM st+a.size:Nat):Int)-1,((bM st+a.size+b.size:Nat):Int)-1]=[((bM st+a.size:Nat):Int)-1,((bM st+a.size+b.size:Nat):Int)-1]from rfl,VR]
       cases H:(n.L==((bM st+a.size:Nat):Int)-1&&n.R==((bM st+a.size+b.size:Nat):Int)-1)with
       |false=>simp
       |true=>
        simp only [gW,nc]
        simp only [AC,bM]
        rw [gY (bM st+a.size-1) (by omega)]
        rw [xy a st (LJ b (bM st+a.size))]
        simp only [aP]
        rw [gY (bM st+a.size+b.size-1) (by omega)]
        have hf:=xy b (a::st) []
        rw [zD]at hf
        simp only [AC,bM]at hf
        rw [hf]
        simp only [aP]
        rw [cG (by simp only [gz,pB,mV,qu,rs];omega)]
        simp only [aP]
        rw [iQ (i:=0) 0 st.length rfl (by rw [df,cV (by simp;omega) (by simp;omega)];simp;omega) (ij _) (by rw [df];simp;omega)]
        have M:(List.take st.length (lr (b::a::st))).drop 0=lr st:=by
         simp only [lr,pA,fk]
         rw [vF (by rw [df];exact eO _),nv (by rw [df];exact eO _)]
        rw [M]
        simp only [aP]
        rw [cG (by simp only [gz,pB,df];omega)]
        simp only [aP]
        have D:=ih (.bi (putA n (-1) (-1)) a b::st) (by simp [bM,Bt.size];omega)
        simp only [bM,Bt.size,AC,LJ,lr]at D
        rw [show(((bM st+(a.size+b.size+1):Nat):Int)-1)=((bM st+a.size+b.size:Nat):Int)from by omega,show bM st+(a.size+b.size+1)=bM st+a.size+b.size+1 from by omega]at D
        have hm:min (min (((bM st+a.size+b.size:Nat)):Int) (bM st:Int)) ((bM st+a.size:Nat):Int)=(bM st:Int):=by omega
        have V:max (max (1:Int) (IntKind.i64.wrap ((a.depth:Int)+1))) (IntKind.i64.wrap ((b.depth:Int)+1))=((max a.depth b.depth+1:Nat):Int):=by rw [cV (by omega) (by omega),cV (by omega) (by omega)];omega
        rw [hm,V]
        simp only [fk]at D ⊢
        exact D
def jD(ns:List cj):Bool:=(yf ns).isSome
def PL(ns:List cj):jD ns=(match kg ns []with
  |some st=>Qv st
  |none=>false):=by
 unfold jD yf
 cases hp:kg ns []with
 |none=>rfl
 |some st=>
  match st with
  |[]=>rfl
  |[t]=>by_cases A:t.size<=300<;>by_cases D:t.depth<=20<;>simp [Qv,A,D]
  |t::t2::st=>rfl
def Fe(t:ce)(hS: ∀n∈t.Nodes,vA n)(h:t.Nodes.length<=100000):qj t=some (if jD t.Nodes then 0 else 180):=by
 unfold qj BF
 have:=Jp t.Nodes [] hS (by simpa [bM] using h)
 simp only [bM,AC,lr]at this
 rw [this,PL]
 cases hp:kg t.Nodes []with
 |none=>rfl
 |some st=>cases ho:Qv st<;>simp [ho]
end Go.Proofs.YthbdkceckjihgaaGreatDoor


/- cu of this claim: B5. -/
set_option linter.all false
namespace Go.Proofs.YthbdkceckjihgaaGreatDoor
open Go

def TB(t:Bt):t.wf-> ∀(P R N:List cj) (fu:Nat),(∀x∈N,vA x)->N=P++t.flat P.length++R->t.size<=fu->N.length<=100000->ip fu ⟨N⟩ (((P.length+t.size:Nat):Int)-1)=some ((t.size:Int),(t.depth:Int)):=by
 induction t with
 |lf n=>
  intro⟨A,D,h3,h4⟩ P R N fu hS hN hf hl
  have hNl:=congrArg List.length hN
  simp only [mV,Bt.flat_len]at hNl
  simp only [Bt.size]at hf hNl ⊢
  obtain⟨fu,rfl⟩: ∃k,fu=k+1:=⟨fu-1,by omega⟩
  unfold ip
  have V:N[P.length]? =some (putA n (-1) (-1)):=by
   rw [hN,fk,tX (eO _),Dd];rfl
  rw [bv (by simp;omega),gY P.length (by omega),V]
  have hsx:=hS _ (qD V)
  have e1:(putA n (-1) (-1)).Tag=n.Tag:=rfl
  simp only [aP]
  rw [e1,o5]
  have e:wo n.Tag=0:=by unfold wo;rw [A];rfl
  simp only [e,aP,nJ hsx]
  have e2:qP (putA n (-1) (-1))=true:=D
  rw [e2]
  simp [putA,Bt.depth]
 |un n a ih=>
  intro⟨⟨A,D,h3,h4⟩,ha⟩ P R N fu hS hN hf hl
  obtain⟨m,hm⟩: ∃m,m=putA n (((P.length+a.size:Nat):Int)-1) (-1):=⟨_,rfl⟩
  have hNl:=congrArg List.length hN
  simp only [mV,Bt.flat_len]at hNl
  simp only [Bt.size]at hf hNl ⊢
  simp only [Bt.flat,<-hm]at hN
  obtain⟨fu,rfl⟩: ∃k,fu=k+1:=⟨fu-1,by omega⟩
  have hpos:=a.size_pos
  have hi:=ih ha P ([m]++R) N fu hS (by rw [hN];simp only [fk]) (by omega) hl
  unfold ip
  have V:N[P.length+a.size]? =some m:=by
   rw [hN,fk,fk,<-fk P,tX (by simp [a.flat_len])]
   simp [a.flat_len]
  rw [bv (by simp;omega),gY (P.length+a.size) (by omega),V]
  have hsx:=hS _ (qD V)
  simp only [aP]
  have e1:m.Tag=n.Tag:=by rw [hm];rfl
  rw [e1,o5]
  have e:wo n.Tag=1:=by unfold wo;rw [A];rfl
  simp only [e,aP,nJ hsx]
  have e2:qP m=true:=by rw [hm];exact D
  have eL:m.L=((P.length+a.size:Nat):Int)-1:=by rw [hm];rfl
  have eR:m.R= -1:=by rw [hm];rfl
  rw [cV (n:=((P.length+(a.size+1):Nat):Int)-1-1) (by omega) (by omega),show(((P.length+(a.size+1):Nat):Int)-1-1)=(((P.length+a.size:Nat):Int)-1)from by omega]
  rw [hi]
  simp only [aP]
  have hda:=a.depth_size
  rw [cV (n:=(a.size:Int)+1) (by omega) (by omega),cV (n:=(a.depth:Int)+1) (by omega) (by omega)]
  have n1: ¬a.size=0:=by omega
  simp [e2,eL,eR,n1,Bt.depth]
 |bi n a b iha ihb=>
  intro⟨⟨A,D,h3,h4⟩,ha,H⟩ P R N fu hS hN hf hl
  obtain⟨m,hm⟩: ∃m,m=putA n (((P.length+a.size:Nat):Int)-1) (((P.length+a.size+b.size:Nat):Int)-1):=⟨_,rfl⟩
  have hNl:=congrArg List.length hN
  simp only [mV,Bt.flat_len]at hNl
  simp only [Bt.size]at hf hNl ⊢
  simp only [Bt.flat,<-hm]at hN
  obtain⟨fu,rfl⟩: ∃k,fu=k+1:=⟨fu-1,by omega⟩
  have hap:=a.size_pos
  have hbp:=b.size_pos
  have hi1:=iha ha P (b.flat (P.length+a.size)++[m]++R) N fu hS (by rw [hN];simp only [fk]) (by omega) hl
  have hi2:=ihb H (P++a.flat P.length) ([m]++R) N fu hS (by rw [hN];simp only [fk,mV,a.flat_len]) (by omega) hl
  rw [mV,a.flat_len]at hi2
  unfold ip
  have V:N[P.length+a.size+b.size]? =some m:=by
   rw [hN,fk,fk,<-fk P,tX (by simp [a.flat_len,b.flat_len];omega)]
   have:P.length+a.size+b.size-(P++(a.flat P.length++b.flat (P.length+a.size))).length=0:=by simp [a.flat_len,b.flat_len];omega
   rw [this];rfl
  rw [bv (by simp;omega),gY (P.length+a.size+b.size) (by omega),V]
  have hsx:=hS _ (qD V)
  simp only [aP]
  have e1:m.Tag=n.Tag:=by rw [hm];rfl
  rw [e1,o5]
  have e:wo n.Tag=2:=by unfold wo;rw [A];rfl
  simp only [e,aP,nJ hsx]
  have e2:qP m=true:=by rw [hm];exact D
  have eL:m.L=((P.length+a.size:Nat):Int)-1:=by rw [hm];rfl
  have eR:m.R=((P.length+a.size+b.size:Nat):Int)-1:=by rw [hm];rfl
  rw [cV (n:=((P.length+(a.size+b.size+1):Nat):Int)-1-1) (by omega) (by omega),show(((P.length+(a.size+b.size+1):Nat):Int)-1-1)=(((P.length+a.size+b.size:Nat):Int)-1)from by omega]
  rw [hi2]
  simp only [aP]
  rw [cV (n:=((P.length+a.size+b.size:Nat):Int)-1-(b.size:Int)) (by omega) (by omega),show((P.length+a.size+b.size:Nat):Int)-1-(b.size:Int)=((P.length+a.size:Nat):Int)-1 from by omega]
  rw [hi1]
  simp only [aP]
  have hda:=a.depth_size
  have hdb:=b.depth_size
  rw [cV (n:=(b.size:Int)+(a.size:Int)) (by omega) (by omega),cV (n:=(b.size:Int)+(a.size:Int)+1) (by omega) (by omega),cV (n:=max (b.depth:Int) (a.depth:Int)+1) (by omega) (by omega)]
  have n1: ¬a.size=0:=by omega
  have n2: ¬b.size=0:=by omega
  have e5:(P.length:Int)+(a.size:Int)+(b.size:Int)-1-(b.size:Int)=(P.length:Int)+(a.size:Int)-1:=by omega
  simp [e2,eL,eR,n1,n2,e5,Bt.depth]
  omega
def TC(N:List cj)(hS: ∀x∈N,vA x)(hN:N.length<=100000): ∀(fu q:Nat),q<=N.length->q<fu-> ∃k d:Nat,ip fu ⟨N⟩ ((q:Int)-1)=some ((k:Int),(d:Int))/\(k=0\/ ∃(t:Bt) (P R:List cj),t.wf/\(t.size=k/\t.depth=d)/\N=P++t.flat P.length++R/\P.length+k=q):=by
 intro fu
 induction fu with
 |zero=>intro q _ h;omega
 |succ fu ih=>
  intro q hq hf
  unfold ip
  by_cases h0:q=0
  ·subst h0
   exact⟨0,0,by rw [bD (by simp)];rfl,.inl rfl⟩
  rw [bv (by simp;omega),gY (q-1) (by omega)]
  have hlt:q-1<N.length:=by omega
  rw [jA hlt]
  obtain⟨n,hn⟩: ∃n,n=N[q-1]:=⟨_,rfl⟩
  rw [<-hn]
  have hsn:vA n:=by rw [hn];exact hS _ (Id ..)
  have hd:N=N.take (q-1)++([n]++N.drop q):=by
   have A:=qU (q-1) N
   rw [pC hlt,<-hn,show q-1+1=q from by omega]at A
   exact A.symm
  simp only [aP,o5,nJ hsn]
  cases hk:Ou n.Tag with
  |none=>
   have e:wo n.Tag= -1:=by unfold wo;rw [hk]
   exact⟨0,0,by simp [e],.inl rfl⟩
  |some k=>
   have e:wo n.Tag=(k:Int):=by unfold wo;rw [hk]
   have hk3:k=0\/k=1\/k=2:=by
    unfold Ou at hk
    repeat' split at hk
    all_goals simp at hk
    all_goals omega
   cases hc:qP n with
   |false=>exact⟨0,0,by simp [e,hc],.inl rfl⟩
   |true=>
    rcases hk3 with rfl|rfl|rfl
    ·rw [e]
     by_cases hL:n.L= -1/\n.R= -1
     ·refine⟨1,1,by simp [hL],.inr ⟨.lf (putA n (-1) (-1)),N.take (q-1),N.drop q,⟨hk,hc,rfl,rfl⟩,⟨rfl,rfl⟩,?_,by simp;omega⟩⟩
      simp only [Bt.flat]
      rw [xd hL.1 hL.2,fk]
      exact hd
     ·refine⟨0,0,?_,.inl rfl⟩
      have:(n.L != -1||n.R != -1)=true:=by
       rw [vN,vM,vM]
       by_cases hl:n.L= -1
       ·exact .inr fun h=>hL ⟨hl,h⟩
       ·exact .inl hl
      simp [this]
    ·rw [e,cV (by omega) (by omega)]
     have e9:(((q-1:Nat):Int)-1)=(q:Int)-1-1:=by omega
     obtain⟨r2,d2,D,h2'⟩:=ih (q-1) (by omega) (by omega)
     rw [e9]at D
     rw [D]
     rcases h2' with rfl|⟨t,P,R,hw,⟨hs,hds⟩,hN2,hl⟩
     ·exact⟨0,0,by simp,.inl rfl⟩
     ·have hp:=t.size_pos
      by_cases hL:n.L=(q:Int)-1-1/\n.R= -1
      ·refine⟨r2+1,d2+1,?_,.inr ⟨.un (putA n (-1) (-1)) t,P,N.drop q,⟨⟨hk,hc,rfl,rfl⟩,hw⟩,⟨by simp only [Bt.size];omega,by simp only [Bt.depth];omega⟩,?_,by omega⟩⟩
       ·simp only [aP]
        have hdt:=t.depth_size
        rw [cV (n:=(r2:Int)+1) (by omega) (by omega),cV (n:=(d2:Int)+1) (by omega) (by omega)]
        have: ¬(r2=0):=by omega
        simp [hL,this]
       ·simp only [Bt.flat]
        rw [xd (by rw [hL.1];omega) hL.2]
        have M:N.take (q-1)=P++t.flat P.length:=by
         rw [hN2,vF (by simp [t.flat_len];omega),nv (by simp [t.flat_len];omega)]
        rw [M]at hd
        simpa only [fk] using hd
      ·refine⟨0,0,?_,.inl rfl⟩
       have:(n.L !=(q:Int)-1-1||n.R != -1)=true:=by
        rw [vN,vM,vM]
        by_cases hl:n.L=(q:Int)-1-1
        ·exact .inr fun h=>hL ⟨hl,h⟩
        ·exact .inl hl
       simp [this]
    ·rw [e,cV (n:=(q:Int)-1-1) (by omega) (by omega)]
     have e9:(((q-1:Nat):Int)-1)=(q:Int)-1-1:=by omega
     obtain⟨r2,d2,D,h2'⟩:=ih (q-1) (by omega) (by omega)
     rw [e9]at D
     rw [D]
     rcases h2' with rfl|⟨t,P,R,hw,⟨hs,hds⟩,hN2,hl⟩
     ·exact⟨0,0,by simp,.inl rfl⟩
     ·have hp:=t.size_pos
      simp only [aP]
      rw [cV (n:=(q:Int)-1-1-(r2:Int)) (by omega) (by omega)]
      have e8:(((q-1-r2:Nat):Int)-1)=(q:Int)-1-1-(r2:Int):=by omega
      have n2: ¬(r2=0):=by omega
      obtain⟨r3,d3,h3,h3'⟩:=ih (q-1-r2) (by omega) (by omega)
      rw [e8]at h3
      rw [h3]
      rcases h3' with rfl|⟨t3,P3,R3,hw3,⟨hs3,hds3⟩,hN3,hl3⟩
      ·exact⟨0,0,by simp,.inl rfl⟩
      ·have hp3:=t3.size_pos
       have n3: ¬(r3=0):=by omega
       by_cases hL:n.R=(q:Int)-1-1/\n.L=(q:Int)-1-1-(r2:Int)
       ·refine⟨r3+r2+1,max d3 d2+1,?_,.inr ⟨.bi (putA n (-1) (-1)) t3 t,P3,N.drop q,⟨⟨hk,hc,rfl,rfl⟩,hw3,hw⟩,⟨by simp only [Bt.size];omega,by simp only [Bt.depth];omega⟩,?_,by omega⟩⟩
        ·simp only [aP]
         have hdt:=t.depth_size
         have hdt3:=t3.depth_size
         rw [cV (n:=(r2:Int)+(r3:Int)) (by omega) (by omega),cV (n:=(r2:Int)+(r3:Int)+1) (by omega) (by omega),cV (n:=max (d2:Int) (d3:Int)+1) (by omega) (by omega)]
         simp [hL,n2,n3]
         omega
        ·simp only [Bt.flat]
         rw [xd (by rw [hL.2];omega) (by rw [hL.1];omega)]
         have M:N.take (q-1)=P++t.flat P.length:=by
          rw [hN2,vF (by simp [t.flat_len];omega),nv (by simp [t.flat_len];omega)]
         have hP:P=N.take P.length:=by
          conv=>rhs;rw [hN2,fk,vF (eO _),nv (eO _)]
         have hP3:P=P3++t3.flat P3.length:=by
          rw [hP]
          have:P.length=P3.length+t3.size:=by omega
          conv=>lhs;rw [this,hN3]
          rw [vF (by simp [t3.flat_len]),nv (by simp [t3.flat_len])]
         have hPl:P.length=P3.length+t3.size:=by omega
         rw [M,hPl]at hd
         rw [hP3]at hd
         simpa only [fk] using hd
       ·clear ih hN2 hN3
        refine⟨0,0,?_,.inl rfl⟩
        have:(n.R !=(q:Int)-1-1||n.L !=(q:Int)-1-1-(r2:Int))=true:=by
         rw [vN,vM,vM]
         by_cases hl:n.R=(q:Int)-1-1
         ·exact .inr fun h=>hL ⟨hl,h⟩
         ·exact .inl hl
        have h' :=this
        rw [vN,vM,vM]at h'
        simp [n2,n3]
        intro A D
        exact absurd D (by rcases h' with h' |h';exact absurd A h';exact h')
def su(t:ce)(hS: ∀n∈t.Nodes,vA n):lO t=some (jD t.Nodes):=by
 unfold lO jD
 by_cases h:1<=t.Nodes.length/\t.Nodes.length<=300
 ·rw [bv (by simp;omega),cV (by omega) (by omega)]
  unfold DZ
  obtain⟨k,d,A,D⟩:=TC t.Nodes hS (by omega) gx t.Nodes.length (eO _) (FM (Nat.lt_succ_self _) (xn (by omega)))
  have h1' :ip gx t ((t.Nodes.length:Int)-1)=some ((k:Int),(d:Int)):=A
  rw [h1']
  simp only [aP]
  congr 1
  rw [tQ]
  constructor
  ·intro hk
   rw [gU,li]at hk
   have hk' :k=t.Nodes.length:=by have:=eq_of_beq hk.1;omega
   rcases D with rfl|⟨a,P,R,hw,⟨hs,hd⟩,hN,hl⟩
   ·omega
   ·have hP:P=[]:=vE (by omega)
    subst hP
    have hR:R=[]:=by
     have:=congrArg List.length hN
     simp [a.flat_len]at this
     exact vE (by omega)
    subst hR
    have hN' :t.Nodes=a.flat 0:=by simpa using hN
    rw [hN',Kn hw (by omega) (by omega)];rfl
  ·intro hi
   cases M:yf t.Nodes with
   |none=>rw [M]at hi;cases hi
   |some a=>
    obtain⟨hw,hN,hs,hd⟩:=uu M
    have hlen:t.Nodes.length=a.size:=by rw [hN,a.flat_len]
    have h3:=TB a hw [] [] t.Nodes gx hS (by simpa using hN) (xn (by omega)) (by omega)
    simp only [pB,pz]at h3
    rw [<-hlen]at h3
    have h4:some ((k:Int),(d:Int))=some ((t.Nodes.length:Int),(a.depth:Int)):=A.symm.trans h3
    simp only [C9,FH]at h4
    rw [gU,li,sG]
    omega
 ·rw [bD (by simp;omega)]
  congr 1
  symm
  rw [FL]
  intro hi
  cases M:yf t.Nodes with
  |none=>rw [M]at hi;cases hi
  |some a=>
   obtain⟨hw,hN,hs,hd⟩:=uu M
   have hlen:t.Nodes.length=a.size:=by rw [hN,a.flat_len]
   have:=a.size_pos
   omega
end Go.Proofs.YthbdkceckjihgaaGreatDoor


/- cu of this claim: B6. -/
set_option linter.all false
namespace Go.Proofs.YthbdkceckjihgaaGreatDoor
open Go

def wS(t:ce):Prop:=t.Nodes.length<=1000/\ ∀n∈t.Nodes,vA n
def wX{t:ce}(h:wS t):rC [t]=some (jD t.Nodes):=by
 have A:tt t=some (!jD t.Nodes):=by
  unfold tt
  rw [Fe t h.2 (by have:=h.1;omega),aP]
  cases jD t.Nodes<;>rfl
 unfold rC fG gc
 simp only [dS,A,aP]
 cases jD t.Nodes<;>rfl
def mf(t:ce):Bool:=decide (t.Nodes.length=0)||jD t.Nodes
def TZ(t:ce):(((t.Nodes.length:Nat):Int)==(0:Int))=decide (t.Nodes.length=0):=by
 rw [tQ];simp
def ym{t:ce}(h:wS t):uD t=some (mf t):=by
 unfold uD mf
 rw [TZ,su t h.2]
 cases decide (t.Nodes.length=0)<;>rfl
structure CM(s:al):Prop where
 items: ∀x∈s.Items,wS x.Tree
 joins: ∀x∈s.Joins,wS x.On
 where_:wS s.Where
 having:wS s.Having
def sW(x:eh):Bool:=jD x.Tree.Nodes&&ly x.As
def yu(x:kw):Bool:=jD x.On.Nodes&&lp x.Source
def RQ(x:ig):Bool:=gG x.Name&&ly x.Table
def KC(s:al):Bool:=(s.Star==decide (s.Items.length=0))&&(decide (s.Items.length<=6)&&(decide (s.Joins.length<=2)&&decide (s.Group.length<=3)))
def wd(s:al):Bool:=KC s&&(lp s.From&&(s.Items.all sW&&(s.Joins.all yu&&(s.Group.all RQ&&(mf s.Where&&mf s.Having)))))
def UQ{s:al}(h:CM s)(ok:Bool):mR s 2 0 ok=some (ok&&(mf s.Where&&mf s.Having)):=by
 have i0:fg [s.Where,s.Having] ((0:Nat):Int)=some s.Where:=rfl
 have i1:fg [s.Where,s.Having] ((0+1:Nat):Int)=some s.Having:=rfl
 simp only [mR,i0,i1,aP,wX h.where_,wX h.having,TZ]
 unfold mf
 cases ok<;>cases decide (s.Where.Nodes.length=0)<;>cases jD s.Where.Nodes<;>cases decide (s.Having.Nodes.length=0)<;>rfl
def Qc{s:al}(h:CM s): ∀(l:List ig) (ok:Bool),kX s l ok=some (ok&&(l.all RQ&&(mf s.Where&&mf s.Having)))
 |[],ok=>by unfold kX;rw [UQ h];rfl
 |x::l,ok=>by
  unfold kX
  rw [jt,ru,qk]
  have e:RQ x=(gG x.Name&&ly x.Table):=rfl
  rw [e]
  cases ok<;>cases gG x.Name<;>cases ly x.Table<;>simp [Qc h l]
def Qd{s:al}(h:CM s): ∀(l:List kw) (ok:Bool),(∀x∈l,wS x.On)->kY s l ok=some (ok&&(l.all yu&&(s.Group.all RQ&&(mf s.Where&&mf s.Having))))
 |[],ok,_=>by unfold kY;rw [Qc h];rfl
 |x::l,ok,hl=>by
  unfold kY
  have ih:=fun ok=>Qd h l ok (fun y hy=>hl y (ma _ hy))
  rw [wX (hl x (lL ..)),yy,qk]
  have e:yu x=(jD x.On.Nodes&&lp x.Source):=rfl
  rw [e]
  cases ok<;>cases jD x.On.Nodes<;>cases lp x.Source<;>simp [ih]
def Qe{s:al}(h:CM s): ∀(l:List eh) (ok:Bool),(∀x∈l,wS x.Tree)->kZ s l ok=some (ok&&(l.all sW&&(s.Joins.all yu&&(s.Group.all RQ&&(mf s.Where&&mf s.Having)))))
 |[],ok,_=>by unfold kZ;rw [Qd h _ _ h.joins];rfl
 |x::l,ok,hl=>by
  unfold kZ
  have ih:=fun ok=>Qe h l ok (fun y hy=>hl y (ma _ hy))
  rw [wX (hl x (lL ..)),ru,qk]
  have e:sW x=(jD x.Tree.Nodes&&ly x.As):=rfl
  rw [e]
  cases ok<;>cases jD x.Tree.Nodes<;>cases ly x.As<;>simp [ih]
def F3(s:al):((((s.Star !=((s.Items.length:Int)==(0:Int)))||(decide ((6:Int)<(s.Items.length:Int))))||(decide ((2:Int)<(s.Joins.length:Int))))||(decide ((3:Int)<(s.Group.length:Int))))= !KC s:=by
 have e0:((s.Items.length:Int)==(0:Int))=decide (s.Items.length=0):=by rw [tQ];simp
 have e1:decide ((6:Int)<(s.Items.length:Int))= !decide (s.Items.length<=6):=by rw [tQ];simp;omega
 have e2:decide ((2:Int)<(s.Joins.length:Int))= !decide (s.Joins.length<=2):=by rw [tQ];simp;omega
 have e3:decide ((3:Int)<(s.Group.length:Int))= !decide (s.Group.length<=3):=by rw [tQ];simp;omega
 rw [e0,e1,e2,e3]
 unfold KC
 cases s.Star<;>cases decide (s.Items.length=0)<;>cases decide (s.Items.length<=6)<;>cases decide (s.Joins.length<=2)<;>cases decide (s.Group.length<=3)<;>rfl
def EZ{s:al}(h:CM s):tu s=some (wd s):=by
 unfold tu wd
 rw [F3]
 cases KC s with
 |false=>rfl
 |true=>
  simp only [oI,jS,ii]
  rw [yy,aP,Qe h _ _ h.items,tw]
def Ml{s:al}(h:CM s): ∀(l:List ig),kJ s l=some (l.all RQ&&(lp s.From&&(mf s.Where&&mf s.Having)))
 |[]=>by
  unfold kJ
  rw [vo,ym h.where_,ym h.having]
  cases lp s.From<;>cases mf s.Where<;>rfl
 |x::l=>by
  unfold kJ
  rw [nL,mz,qk,Ml h l]
  have e:RQ x=(gG x.Name&&ly x.Table):=rfl
  rw [e]
  cases gG x.Name<;>cases ly x.Table<;>rfl
def Mm{s:al}(h:CM s): ∀(l:List kw),(∀x∈l,wS x.On)->kK s l=some (l.all yu&&(s.Group.all RQ&&(lp s.From&&(mf s.Where&&mf s.Having))))
 |[],_=>by unfold kK;rw [Ml h];rfl
 |x::l,hl=>by
  unfold kK
  rw [su _ (hl x (lL ..)).2,vo,qk,Mm h l (fun y hy=>hl y (ma _ hy))]
  have e:yu x=(jD x.On.Nodes&&lp x.Source):=rfl
  rw [e]
  cases jD x.On.Nodes<;>cases lp x.Source<;>rfl
def Mn{s:al}(h:CM s): ∀(l:List eh),(∀x∈l,wS x.Tree)->kL s l=some (l.all sW&&(s.Joins.all yu&&(s.Group.all RQ&&(lp s.From&&(mf s.Where&&mf s.Having)))))
 |[],_=>by unfold kL;rw [Mm h _ h.joins];rfl
 |x::l,hl=>by
  unfold kL
  rw [su _ (hl x (lL ..)).2,mz,qk,Mn h l (fun y hy=>hl y (ma _ hy))]
  have e:sW x=(jD x.Tree.Nodes&&ly x.As):=rfl
  rw [e]
  cases jD x.Tree.Nodes<;>cases ly x.As<;>rfl
def Bg{s:al}(h:CM s):tG s=some (wd s):=by
 unfold tG wd
 rw [F3]
 cases KC s with
 |false=>rfl
 |true=>
  simp only [oI,jS,ii]
  rw [Mn h _ h.items,tw]
  cases s.Items.all sW<;>cases s.Joins.all yu<;>cases s.Group.all RQ<;>cases lp s.From<;>rfl
def y8(n:Int):Bool:=decide (0<=n)&&decide (n<=2147483647)
def OL(k:lT):Bool:=if k.Name==[]then y8 k.Number else gG k.Name&&(k.Number==0)
def QB(n:Int):Bool:=n== -1||y8 n
def Ol(q:aN):Bool:=decide (1<=q.Selects.length)&&(decide (q.Selects.length<=3)&&(decide (q.Keys.length<=3)&&QB q.Limit))
def Ft(q:aN):Bool:=Ol q&&(q.Selects.all wd&&q.Keys.all OL)
def LR(q:aN):Prop:= ∀s∈q.Selects,CM s
def Ji{f:al->Option Bool}{p:al->Bool}: ∀(l:List al) (i:Nat),(∀x∈l,f x=some (p x))-> ∃j:Int,cP f l i=some j/\decide (0<=j)=l.any p
 |[],i,_=>⟨-1,rfl,rfl⟩
 |x::l,i,hf=>by
  unfold cP
  rw [hf x (lL ..),aP,AN]
  cases V:p x with
  |true=>exact⟨i,rfl,by simp⟩
  |false=>
   obtain⟨j,A,D⟩:=Ji l (i+1) (fun y hy=>hf y (ma _ hy))
   exact⟨j,A,by rw [D];rfl⟩
def OF:gG []=false:=rfl
def Hy{q:aN}(h:LR q): ∀(l:List lT) (ok:Bool),nd q l ok=some (if ok&&(q.Selects.all wd&&l.all OL)then 0 else 180)
 |[],ok=>by
  unfold nd
  have hc: ∀x∈q.Selects,qv x=some (!wd x):=fun x V=>by unfold qv;rw [EZ (h x V)];rfl
  obtain⟨j,A,D⟩:=Ji q.Selects 0 hc
  have h3:dy q.Selects qv=some (q.Selects.any fun x=> !wd x):=by
   unfold dy fm
   rw [A,aP,D]
  have h4:(q.Selects.any fun x=> !wd x)= !q.Selects.all wd:=by rw [List.not_all_eq_any_not]
  rw [h3,h4]
  cases ok<;>cases q.Selects.all wd<;>rfl
 |k::l,ok=>by
  unfold nd
  rw [jt,qk]
  have e1:sr k.Number=some (y8 k.Number):=rfl
  rw [e1]
  have e2:OL k=if k.Name==[]then y8 k.Number else gG k.Name&&(k.Number==0):=rfl
  rw [e2]
  cases hk:(k.Name==([]:bZ))with
  |true=>
   have hk' :k.Name=[]:=by simpa using hk
   rw [hk',OF]
   cases ok<;>cases y8 k.Number<;>simp [Hy h l]
  |false=>cases ok<;>cases gG k.Name<;>cases (k.Number==(0:Int))<;>simp [Hy h l]
def AE{q:aN}(h:LR q):xA q=some (if Ft q then 0 else 180):=by
 unfold xA Ft
 rw [show sr q.Limit=some (y8 q.Limit)from rfl]
 have e1:decide ((0:Int)<(q.Selects.length:Int))=decide (1<=q.Selects.length):=by rw [xL];omega
 have e2:decide ((q.Selects.length:Int)<=(3:Int))=decide (q.Selects.length<=3):=by rw [xL];omega
 have e3:decide ((q.Keys.length:Int)<=(3:Int))=decide (q.Keys.length<=3):=by rw [xL];omega
 rw [e1,e2,e3]
 unfold Ol QB
 cases decide (1<=q.Selects.length)<;>cases decide (q.Selects.length<=3)<;>cases decide (q.Keys.length<=3)<;>cases (q.Limit==(-1:Int))<;>cases y8 q.Limit<;>simp [Hy h]
def IR: ∀(l:List lT),o4 l=some (l.all OL)
 |[]=>rfl
 |k::l=>by
  unfold o4
  rw [mz,aP,qk,IR l]
  have e2:OL k=if k.Name==[]then y8 k.Number else gG k.Name&&(k.Number==0):=rfl
  have e3:((decide (k.Number<(0:Int)))||(decide ((2147483647:Int)<k.Number)))= !y8 k.Number:=by
   unfold y8;rw [tQ];simp;try omega
  have e4:((!ly k.Name||decide (k.Number<(0:Int)))||decide ((2147483647:Int)<k.Number))=(!ly k.Name|| !y8 k.Number):=by rw [Bool.or_assoc,e3]
  rw [e4,e2]
  unfold ly
  cases hk:(k.Name==([]:bZ))with
  |true=>cases y8 k.Number<;>simp
  |false=>
   have hz:(k.Number==(0:Int))=true->y8 k.Number=true:=fun hh=>by
    have:k.Number=0:=by simpa using hh
    unfold y8;rw [this];rfl
   cases hn:(k.Number==(0:Int))with
   |true=>rw [hz hn];cases gG k.Name<;>simp [bne,hn]
   |false=>cases gG k.Name<;>simp [bne,hn]
def IN{q:aN}: ∀(l:List al),(∀s∈l,CM s)->mB q l=some (l.all wd&&q.Keys.all OL)
 |[],_=>by unfold mB;rw [IR];rfl
 |s::l,h=>by
  unfold mB
  rw [Bg (h s (lL ..)),aP,qk,IN l (fun y hy=>h y (ma _ hy))]
  cases wd s<;>rfl
def D0{q:aN}(h:LR q):wl q=some (Ft q):=by
 unfold wl Ft
 rw [IN _ h]
 have e:(((((decide ((q.Selects.length:Int)<(1:Int)))||(decide ((3:Int)<(q.Selects.length:Int))))||(decide ((3:Int)<(q.Keys.length:Int))))||(decide (q.Limit<(-1:Int))))||(decide ((2147483647:Int)<q.Limit)))= !Ol q:=by
  have e1:decide ((q.Selects.length:Int)<(1:Int))= !decide (1<=q.Selects.length):=by rw [<-decide_not,xL];omega
  have e2:decide ((3:Int)<(q.Selects.length:Int))= !decide (q.Selects.length<=3):=by rw [<-decide_not,xL];omega
  have e3:decide ((3:Int)<(q.Keys.length:Int))= !decide (q.Keys.length<=3):=by rw [<-decide_not,xL];omega
  have e4:(decide (q.Limit<(-1:Int))||decide ((2147483647:Int)<q.Limit))= !QB q.Limit:=by
   unfold QB y8
   by_cases A:q.Limit= -1
   ·rw [A];rfl
   ·have:(q.Limit==(-1:Int))=false:=by simpa using A
    rw [this,tQ]
    simp
    omega
  rw [Bool.or_assoc,e1,e2,e3,e4]
  unfold Ol
  cases decide (1<=q.Selects.length)<;>cases decide (q.Selects.length<=3)<;>cases decide (q.Keys.length<=3)<;>cases QB q.Limit<;>rfl
 rw [e]
 cases Ol q<;>rfl
def sJ(t:ce):wS (oS t):=by
 refine⟨by simp [oS];omega,fun n hn=>?_⟩
 obtain⟨m,_,rfl⟩:=zC.1 hn
 have:(vw m).Value.S.length<=60:=by simp [vw];omega
 unfold vA;omega
def Rj(s:al):CM (pi s) where
 items:=fun x V=>by
  obtain⟨y,_,rfl⟩:=zC.1 V
  exact sJ _
 joins:=fun x V=>by
  obtain⟨y,_,rfl⟩:=zC.1 V
  exact sJ _
 where_:=sJ _
 having:=sJ _
def Ez(q:aN):LR (wz q):=fun s hs=>by
 obtain⟨y,_,rfl⟩:=zC.1 hs
 exact Rj _
end Go.Proofs.YthbdkceckjihgaaGreatDoor


/- cu of this claim: B7. -/
set_option linter.all false
namespace Go.Proofs.YthbdkceckjihgaaGreatDoor
open Go

def vW(name:bZ):List bp->Nat->Option Nat
 |[],_=>none
 |t::l,i=>if t.Name=name then some i else vW name l (i+1)
def Ix{name:bZ}: ∀{l:List bp} {i k:Nat},vW name l i=some k->i<=k/\k<i+l.length
 |t::l,i,k,h=>by
  unfold vW at h
  split at h
  ·cases h;simp
  ·have:=Ix h
   simp only [gz];omega
def GB(name:bZ): ∀(l:List bp) (i:Nat),bj (du dz name) l i=some (match vW name l i with
  |some k=>(k:Int)
  |none=> -1)
 |[],i=>rfl
 |t::l,i=>by
  unfold bj vW
  rw [show du dz name t=some (t.Name==name)from rfl,aP]
  by_cases h:t.Name=name
  ·rw [bD h,bD (by simpa using h)]
  ·rw [bv h,bv (by simpa using h),GB name l (i+1)]
def CK(c:aq)(name:bZ):nb c name=some (match vW name c.Tables 0 with
  |some k=>((k:Int),true)
  |none=>(0,false)):=by
 unfold nb fK cM
 rw [GB]
 cases vW name c.Tables 0 with
 |none=>rfl
 |some k=>
  simp only [aP,C9,FH,li]
  omega
def Qh(c:aq)(name:bZ)(hl:c.Tables.length<=1000): ∀(n i:Nat),c.Tables.length<i+n->i<=c.Tables.length->p7 c name n (i:Int)=some (match vW name (c.Tables.drop i) i with
  |some k=>(k:Int)
  |none=> -1):=by
 intro n
 induction n with
 |zero=>intro i h D;omega
 |succ n ih=>
  intro i h D
  unfold p7
  by_cases hi:i<c.Tables.length
  ·have hw:IntKind.i64.wrap ((i:Int)+1)=((i+1:Nat):Int):=by rw [yF];omega
   rw [bD (by rw [li];omega),iu,jA hi,aP,pC hi]
   unfold vW
   by_cases hn:c.Tables[i].Name=name
   ·rw [bD (by simpa using hn),bD hn]
   ·rw [bv (by simpa using hn),bv hn,hw,ih (i+1) (by omega) (by omega)]
  ·rw [bv (by rw [li];omega),oE (by omega)];rfl
def Fq(c:aq)(name:bZ)(hl:c.Tables.length<=1000):rW c name=some (match vW name c.Tables 0 with
  |some k=>(k:Int)
  |none=> -1):=by
 unfold rW
 have:=Qh c name hl gx 0 (by unfold gx;omega) (ij _)
 rw [pA]at this
 exact this
def vx(name:bZ):List bl->Nat->Option Nat
 |[],_=>none
 |t::l,i=>if t.Name=name then some i else vx name l (i+1)
def Og(t:bp)(name:bZ)(hl:t.Columns.length<=1000): ∀(n i:Nat),t.Columns.length<i+n->i<=t.Columns.length->nI t name n (i:Int)=some (match vx name (t.Columns.drop i) i with
  |some k=>(k:Int)
  |none=> -1):=by
 intro n
 induction n with
 |zero=>intro i h D;omega
 |succ n ih=>
  intro i h D
  unfold nI
  by_cases hi:i<t.Columns.length
  ·have hw:IntKind.i64.wrap ((i:Int)+1)=((i+1:Nat):Int):=by rw [yF];omega
   rw [bD (by rw [li];omega),iu,jA hi,aP,pC hi]
   unfold vx
   by_cases hn:t.Columns[i].Name=name
   ·rw [bD (by simpa using hn),bD hn]
   ·rw [bv (by simpa using hn),bv hn,hw,ih (i+1) (by omega) (by omega)]
  ·rw [bv (by rw [li];omega),oE (by omega)];rfl
def CC(t:bp)(name:bZ)(hl:t.Columns.length<=1000):uB t name=some (match vx name t.Columns 0 with
  |some k=>(k:Int)
  |none=> -1):=by
 unfold uB
 have:=Og t name hl gx 0 (by unfold gx;omega) (ij _)
 rw [pA]at this
 exact this
def eI(s:da):bZ:=if s.As=[]then s.Table else s.As
def EV(s:da):tn s=some (eI s):=by
 unfold tn eI
 by_cases h:s.As=[]
 ·rw [bD (by simpa using h),bD h]
 ·rw [bv (by simpa using h),bv h]
def qK(s:da):oW s=some (eI s):=by
 unfold oW eI
 by_cases h:s.As=[]
 ·rw [bv (by simp [h]),bD h]
 ·rw [bD (by simpa using h),bv h]
def py(nm:bZ)(l:List bl):List (bZ×bZ):=l.map fun x=>(nm,x.Name)
def dH(c:aq):List da->List Int->List (bZ×bZ)
 |s::ss,t::ts=>py (eI s) (iH c t)++dH c ss ts
 |_,_=>[]
def wH(c:aq): ∀(ss:List da) (ts:List Int) (ss2:List da) (ts2:List Int),ss.length=ts.length->dH c (ss++ss2) (ts++ts2)=dH c ss ts++dH c ss2 ts2
 |[],[],ss2,ts2,_=>rfl
 |s::ss,t::ts,ss2,ts2,h=>by
  simp only [tR,dH]
  rw [wH c ss ts ss2 ts2 (by simpa using h),fk]
def wG(c:aq): ∀(ss:List da) (ts:List Int),ss.length=ts.length->(dH c ss ts).length=(f7 c ts).length
 |[],[],_=>rfl
 |s::ss,t::ts,h=>by
  have:=wG c ss ts (by simpa using h)
  simp only [dH,f7,List.flatMap_cons,mV,py,xX]at this ⊢
  rw [this]
def kl(p:bZ×bZ->Bool):List (bZ×bZ)->Nat->List Nat
 |[],_=>[]
 |e::l,i=>if p e then i::kl p l (i+1)else kl p l (i+1)
def sX(p:bZ×bZ->Bool): ∀(l m:List (bZ×bZ)) (i:Nat),kl p (l++m) i=kl p l i++kl p m (i+l.length)
 |[],m,i=>by simp [kl]
 |e::l,m,i=>by
  simp only [tR,kl,sX p l m (i+1),gz]
  rw [show i+1+l.length=i+(l.length+1)from by omega]
  split<;>rfl
def zc(p:bZ×bZ->Bool): ∀(l:List (bZ×bZ)) (i k:Nat),k∈kl p l i->i<=k/\k<i+l.length
 |e::l,i,k,h=>by
  unfold kl at h
  simp only [gz]
  split at h
  ·rcases eW.1 h with rfl|h
   ·omega
   ·have:=zc p l (i+1) k h;omega
  ·have:=zc p l (i+1) k h;omega
def vI(E:List (bZ×bZ))(table name:bZ):Int×Int:=
 match kl (fun e=>decide (e.2=name)&&(decide (table=[])||decide (e.1=table))) E 0 with
 |[]=>(0,222)
 |[k]=>((k:Int),0)
 |_=>(0,223)
def JU(l:List bl):Prop:=(l.map fun x=>x.Name).Nodup
def Jl(nm table name:bZ): ∀(l:List bl) (i j:Nat),JU l->kl (fun e=>decide (e.2=name)&&(decide (table=[])||decide (e.1=table))) (py nm l) (j+i)=(match vx name l i with
  |some k=>if table=[]\/nm=table then [j+k]else []
  |none=>[])
 |[],i,j,_=>rfl
 |x::l,i,j,h=>by
  simp only [JU,qT,List.nodup_cons]at h
  obtain⟨A,D⟩:=h
  have ih:=Jl nm table name l (i+1) j D
  simp only [py,qT]at ih ⊢
  unfold kl vx
  by_cases V:x.Name=name
  ·rw [bD V]
   -- no other column bears the name
   have hno:vx name l (i+1)=none:=by
    have: ∀(l:List bl) (i:Nat),name∉l.map (fun x=>x.Name)->vx name l i=none:=by
     intro l
     induction l with
     |nil=>intro i _;rfl
     |cons y l ih=>
      intro i hn
      simp only [qT,eW,not_or]at hn
      unfold vx
      rw [bv (fun e=>hn.1 e.symm),ih (i+1) hn.2]
    exact this l (i+1) (V▸A)
   rw [hno]at ih
   rw [show j+i+1=j+(i+1)from by omega,ih]
   simp only [V,decide_true,tw]
   by_cases M:table=[]\/nm=table
   ·have:(decide (table=[])||decide (nm=table))=true:=by rw [vN,li,li];exact M
    rw [this];simp [M]
   ·have:(decide (table=[])||decide (nm=table))=false:=by rw [GU,nl,nl];exact not_or.1 M
    rw [this];simp [M]
  ·rw [bv V,show j+i+1=j+(i+1)from by omega,ih]
   simp only [V,decide_false,Bool.false_and,jS,ii]
structure RI(c:aq):Prop where
 few:RF c
 len:c.Tables.length<=1000
 once: ∀t∈c.Tables,JU t.Columns
def RI.cols{c:aq}(h:RI c)(t:Int):JU (iH c t):=by
 unfold iH
 cases V:c.Tables[t.toNat]? with
 |none=>exact List.nodup_nil
 |some x=>exact h.once x (qD V)
def LF(found many:Int):Int×Int:=if many=0 then(0,222)else if many=1 then(found,0)else(0,223)
def yk{c:aq}(hc:RI c)(b:au)(H:b.c=c)(table name:bZ): ∀(ss:List da) (ts:List Int) (pre:List Int) (found many:Int) (first:Nat),b.out.Tables=pre++ts->ss.length=ts.length->(∀t∈ts,EY c t=false)->first+ts.length*1000<=1000000->0<=many->many+ts.length<=1000000->
  fH b table name ss pre.length found many (first:Int)=some (let hb:=kl (fun e=>decide (e.2=name)&&(decide (table=[])||decide (e.1=table))) (dH c ss ts) first
   LF (match hb.getLast? with
    |some k=>(k:Int)
    |none=>found) (many+(hb.length:Int)))
 |[],[],pre,found,many,first,_,_,_,_,_,_=>by
  unfold fH
  simp only [dH,kl,List.getLast?_nil,pB]
  unfold LF
  have e:many+((0:Nat):Int)=many:=by omega
  rw [e]
  by_cases h0:many=0
  ·simp [h0]
  ·by_cases A:many=1
   ·simp [A]
   ·simp [h0,A]
 |s::ss,t::ts,pre,found,many,first,hT,hl,hbad,hf,hm,hm2=>by
  simp only [gz]at hf hm2
  obtain⟨x,g1,g2,g3⟩:=CZ (hbad t (lL ..))
  have hcl:=u4 hc.few t
  have ih:=fun found many first=>yk hc b H table name ss ts (pre++[t]) found many first (by rw [hT];simp) (by simpa using hl) (fun y hy=>hbad y (ma _ hy))
  have hpl:(pre++[t]).length=pre.length+1:=by simp
  rw [hpl]at ih
  unfold fH
  rw [hT,m8,aP,H,g1,aP,CC x name (by rw [g2];omega),aP,qK,g2]
  have hh:=Jl (eI s) table name (iH c t) 0 first (hc.cols t)
  simp only [Dc]at hh
  simp only [dH,sX]
  have hel:(py (eI s) (iH c t)).length=(iH c t).length:=by simp [py]
  rw [hel,hh]
  have hw:IntKind.i64.wrap ((first:Int)+((iH c t).length:Int))=((first+(iH c t).length:Nat):Int):=by rw [cV (by omega) (by omega)];omega
  cases hcx:vx name (iH c t) 0 with
  |none=>
   have d:decide ((0:Int)<= -1)=false:=rfl
   simp only [d,jS,ii,aP,nu]
   unfold gF
   rw [g2,hw,ih found many (first+(iH c t).length) (by omega) hm (by omega)]
  |some k=>
   have hk:k<(iH c t).length:=by
    have: ∀(l:List bl) (i k:Nat),vx name l i=some k->k<i+l.length:=by
     intro l
     induction l with
     |nil=>intro i k h;cases h
     |cons y l ih=>
      intro i k h
      unfold vx at h
      simp only [gz]
      split at h
      ·cases h;omega
      ·have:=ih (i+1) k h;omega
    have:=this (iH c t) 0 k hcx
    omega
   have d:decide ((0:Int)<=(k:Int))=true:=by rw [li];omega
   simp only [d,gW,aP]
   have hw2:IntKind.i64.wrap ((first:Int)+(k:Int))=((first+k:Nat):Int):=by rw [cV (by omega) (by omega)];omega
   have hw3:IntKind.i64.wrap (many+1)=many+1:=by rw [cV (by omega) (by omega)]
   by_cases M:table=[]\/eI s=table
   ·rw [bD M]
    have e:(if(!(table==([]:bZ)))=true then some (table==eI s)else some true)=some true:=by
     by_cases h0:table=[]
     ·simp [h0]
     ·rcases M with M|M
      ·exact absurd M h0
      ·rw [bD (by simpa using h0),M];simp
    rw [e]
    simp only [aP,gW]
    unfold gF
    rw [g2,hw,hw2,hw3,ih _ _ (first+(iH c t).length) (by omega) (by omega) (by omega)]
    simp only [GV,gz,List.getLast?_cons]
    congr 2
    ·cases (kl (fun e=>decide (e.2=name)&&(decide (table=[])||decide (e.1=table))) (dH c ss ts) (first+(iH c t).length)).getLast? <;>rfl
    ·omega
   ·rw [bv M]
    have e:(if(!(table==([]:bZ)))=true then some (table==eI s)else some true)=some false:=by
     rw [not_or]at M
     rw [bD (by simpa using M.1)]
     have:(table==eI s)=false:=by
      rw [Ig];exact fun h=>M.2 h.symm
     rw [this]
    rw [e]
    simp only [aP,jS,ii,nu]
    unfold gF
    rw [g2,hw,ih found many (first+(iH c t).length) (by omega) hm (by omega)]
def Fo{c:aq}(hc:RI c)(b:au)(H:b.c=c)(table name:bZ)(hl:b.sources.length=b.out.Tables.length)(hbad: ∀t∈b.out.Tables,EY c t=false)(hlen:b.out.Tables.length<=100):je b table name=some (vI (dH c b.sources b.out.Tables) table name):=by
 unfold je
 have:=yk hc b H table name b.sources b.out.Tables [] 0 0 0 rfl hl hbad (by omega) (by omega) (by omega)
 simp only [pB,Int.ofNat_zero]at this
 rw [this]
 unfold vI
 congr 1
 generalize kl (fun e=>decide (e.2=name)&&(decide (table=[])||decide (e.1=table))) (dH c b.sources b.out.Tables) 0=hb
 match hb with
 |[]=>rfl
 |[k]=>rfl
 |k::k2::hb=>
  unfold LF
  simp only [gz]
  rw [bv (by omega),bv (by omega)]
end Go.Proofs.YthbdkceckjihgaaGreatDoor


/- cu of this claim: B8. -/
set_option linter.all false
namespace Go.Proofs.YthbdkceckjihgaaGreatDoor
open Go

def nE{κ β:Type} [DecidableEq κ](k:κ)(y:β): ∀(m:List (κ×β)),fP (ir m k y) k=some y
 |[]=>by simp [ir,fP]
 |q::m=>by
  unfold ir
  by_cases h:q.1=k
  ·rw [bD h];unfold fP;rw [bD rfl]
  ·rw [bv h];unfold fP;rw [bv h,nE k y m]
def mF{κ β:Type} [DecidableEq κ]{k j:κ}(y:β)(hj:j≠k): ∀(m:List (κ×β)),fP (ir m k y) j=fP m j
 |[]=>by simp [ir,fP,Ne.symm hj]
 |q::m=>by
  unfold ir
  by_cases h:q.1=k
  ·rw [bD h]
   unfold fP
   rw [bv (show¬k=j from Ne.symm hj),bv (show¬q.1=j from fun e=>hj (e▸h))]
  ·rw [bv h]
   unfold fP
   rw [mF y hj m]
structure Maps(E:List (bZ×bZ))(names:List bZ)(s:ac):Prop where
 called: ∀n,(fP s.called n).getD false=decide (n∈names)
 alone: ∀n,(fP s.alone n).getD []=(kl (fun e=>decide (e.2=n)) E 0).map fun(k:Nat)=>(k:Int)
 behind: ∀t n,fP s.behind (t,n)=((kl (fun e=>decide (e.2=n)&&decide (e.1=t)) E 0).getLast?.map fun(k:Nat)=>(k:Int))
 once:E.Nodup
def El(t n:bZ): ∀(E:List (bZ×bZ)) (i:Nat),E.Nodup->(kl (fun e=>decide (e.2=n)&&decide (e.1=t)) E i).length<=1
 |[],i,_=>ij _
 |e::E,i,h=>by
  have D:=List.nodup_cons.1 h
  unfold kl
  split
  ·rename_i he
   have:kl (fun e=>decide (e.2=n)&&decide (e.1=t)) E (i+1)=[]:=by
    have key: ∀(E:List (bZ×bZ)) (i:Nat),e∉E->kl (fun e=>decide (e.2=n)&&decide (e.1=t)) E i=[]:=by
     intro E
     induction E with
     |nil=>intro i _;rfl
     |cons f E ih=>
      intro i hn
      simp only [eW,not_or]at hn
      unfold kl
      rw [ih (i+1) hn.2,bv]
      intro hf
      apply hn.1
      simp only [gU,li]at he hf
      exact Prod.ext (he.2.trans hf.2.symm) (he.1.trans hf.1.symm)
    exact key E (i+1) D.1
   rw [this];simp
  ·exact El t n E (i+1) D.2
def zd{p q:bZ×bZ->Bool}: ∀(E:List (bZ×bZ)) (i:Nat),(∀e∈E,p e=q e)->kl p E i=kl q E i
 |[],i,_=>rfl
 |e::E,i,h=>by
  unfold kl
  rw [h e (lL ..),zd E (i+1) fun f hf=>h f (ma _ hf)]
def JH{E:List (bZ×bZ)}{names:List bZ}{s:ac}(h:Maps E names s)(n:ig):iW s n=some (vI E n.Table n.Name):=by
 unfold iW vI
 by_cases M:n.Table=[]
 ·rw [bv (by simp [M])]
  have e:kl (fun e=>decide (e.2=n.Name)&&(decide (n.Table=[])||decide (e.1=n.Table))) E 0=kl (fun e=>decide (e.2=n.Name)) E 0:=zd E 0 fun e _=>by simp [M]
  rw [e,h.alone]
  match kl (fun e=>decide (e.2=n.Name)) E 0 with
  |[]=>rfl
  |[k]=>rfl
  |k::k2::hb=>
   have hlen:(((List.map (fun(k:Nat)=>(k:Int)) (k::k2::hb)).length:Nat):Int)=(hb.length:Int)+2:=by simp;omega
   rw [hlen,bv (by rw [sG];omega),bv (by rw [sG];omega)]
 ·rw [bD (by simpa using M)]
  have e:kl (fun e=>decide (e.2=n.Name)&&(decide (n.Table=[])||decide (e.1=n.Table))) E 0=kl (fun e=>decide (e.2=n.Name)&&decide (e.1=n.Table)) E 0:=zd E 0 fun e _=>by simp [M]
  rw [e,h.behind]
  have hl:=El n.Table n.Name E 0 h.once
  match kl (fun e=>decide (e.2=n.Name)&&decide (e.1=n.Table)) E 0,hl with
  |[],_=>rfl
  |[k],_=>rfl
  |k::k2::hb,hl=>simp at hl
def FW{nm:bZ}: ∀(l:List bl) (E:List (bZ×bZ)) (names:List bZ) (s:ac),(∀n,(fP s.called n).getD false=decide (n∈names))->(∀n,(fP s.alone n).getD []=(kl (fun e=>decide (e.2=n)) E 0).map fun(k:Nat)=>(k:Int))->
  (∀t n,fP s.behind (t,n)=((kl (fun e=>decide (e.2=n)&&decide (e.1=t)) E 0).getLast?.map fun(k:Nat)=>(k:Int)))->s.kinds.length=E.length->E.length+l.length<=1000000->
  ∃s',fB nm l s=some (0,s')/\s' ={s with alone:=s'.alone,behind:=s'.behind,kinds:=s.kinds++l.map fun x=>x.Kind}/\(∀n,(fP s'.alone n).getD []=(kl (fun e=>decide (e.2=n)) (E++py nm l) 0).map fun(k:Nat)=>(k:Int))/\
   (∀t n,fP s'.behind (t,n)=((kl (fun e=>decide (e.2=n)&&decide (e.1=t)) (E++py nm l) 0).getLast?.map fun(k:Nat)=>(k:Int)))
 |[],E,names,s,hc,ha,H,hk,_=>⟨s,rfl,by cases s;simp,by simpa [py] using ha,by simpa [py] using H⟩
 |x::l,E,names,s,hc,ha,H,hk,hl=>by
  simp only [gz]at hl
  have hal:((fP s.alone x.Name).getD []).length<=1000000:=by
   rw [ha x.Name,xX]
   have: ∀(p:bZ×bZ->Bool) (l:List (bZ×bZ)) (i:Nat),(kl p l i).length<=l.length:=by
    intro p l
    induction l with
    |nil=>intro i;exact eO _
    |cons e l ih=>
     intro i
     unfold kl
     have:=ih (i+1)
     split<;>simp<;>omega
   have:=this (fun e=>decide (e.2=x.Name)) E 0
   omega
  obtain⟨s1,hs1⟩: ∃s1:ac,s1={s with alone:=ir s.alone x.Name ((fP s.alone x.Name).getD []++[(s.kinds.length:Int)]),behind:=ir s.behind (nm,x.Name) (s.kinds.length:Int),kinds:=s.kinds++[x.Kind]}:=⟨_,rfl⟩
  have e0:fB nm (x::l) s=fB nm l s1:=by
   conv=>lhs;unfold fB
   rw [cG (by simp;omega),aP,aP]
   simp only
   rw [cG (by simp;omega),aP,hs1]
  have hent:py nm (x::l)=(nm,x.Name)::py nm l:=rfl
  have happ:E++py nm (x::l)=(E++[(nm,x.Name)])++py nm l:=by rw [hent];simp
  obtain⟨s',g1,g2,g3,g4⟩:=FW l (E++[(nm,x.Name)]) names s1 (by rw [hs1];exact hc) (fun n=>by
   rw [hs1]
   simp only
   rw [sX]
   by_cases hn:n=x.Name
   ·subst hn
    rw [nE,Option.getD_some,ha x.Name]
    simp [kl,hk]
   ·rw [mF _ hn,ha n]
    simp [kl,Ne.symm hn]) (fun t n=>by
   rw [hs1]
   simp only
   rw [sX]
   by_cases hn:(t,n)=(nm,x.Name)
   ·rw [hn,nE]
    obtain⟨A,D⟩:=Prod.ext_iff.1 hn
    simp only at A D
    subst A D
    simp [kl,hk]
   ·rw [mF _ hn,H t n]
    have:(decide (x.Name=n)&&decide (nm=t))=false:=by
     rw [Bool.and_eq_false_iff,nl,nl]
     by_cases A:x.Name=n
     ·exact .inr fun D=>hn (by rw [A,D])
     ·exact .inl A
    simp [kl,this]) (by rw [hs1];simp [hk]) (by simp;omega)
  refine⟨s',e0.trans g1,?_,?_,?_⟩
  ·rw [g2,hs1]
   simp
  ·intro n;rw [happ];exact g3 n
  ·intro t n;rw [happ];exact g4 t n
end Go.Proofs.YthbdkceckjihgaaGreatDoor


/- cu of this claim: B9. -/
set_option linter.all false
namespace Go.Proofs.YthbdkceckjihgaaGreatDoor
open Go

structure nH(c:aq):Prop where
 basC:RI c
 cols4: ∀t∈c.Tables,t.Columns.length<=4
 kinds: ∀t∈c.Tables,∀x∈t.Columns,sU x.Kind=true
def wP(a:jT)(kinds:List Int):Int×Bool:=
 if a.Tag=1 then(2,true)else
  if(fe a.Arg kinds).2≠0\/(a.Tag=3/\(fe a.Arg kinds).1≠2/\(fe a.Arg kinds).1≠0)then(0,false)else
   if a.Tag=2\/a.Tag=3 then(2,true)else((fe a.Arg kinds).1,true)
def Jd(kinds:List Int)(keys:List Int):List Int:=keys.map fun k=>(kinds[k.toNat]?).getD 0
def uM(kinds:List Int)(keys:List Int)(aggs:List jT):List Int:=Jd kinds keys++aggs.map fun a=>(wP a kinds).1
structure rD(c:aq)(s:ac)(b:au):Prop where
 cat:s.Catalog=c
 bc:b.c=c
 out:s.out=b.out
 kinds:s.kinds=f7 c b.out.Tables
 len:b.sources.length=b.out.Tables.length
 bad: ∀t∈b.out.Tables,EY c t=false
 few:b.out.Tables.length<=3
 maps:Maps (dH c b.sources b.out.Tables) (b.sources.map eI) s
 groups:s.groups=uM s.kinds b.out.Keys b.out.Aggs
 keys: ∀k∈b.out.Keys,0<=k/\k<(s.kinds.length:Int)
 keysLen:b.out.Keys.length<=3
 aggsLen:b.out.Aggs.length<=12
 aggsOnce:b.out.Aggs.Nodup
 aggsOk: ∀a∈b.out.Aggs,(wP a s.kinds).2=true/\(1<=a.Tag/\a.Tag<=5)/\a.Arg.Nodes.length<=50000
def Cl(c:aq): ∀(ss:List da) (ts:List Int) (e:bZ×bZ),e∈dH c ss ts->e.1∈ss.map eI
 |[],_,e,h=>by simp [dH]at h
 |s::ss,[],e,h=>by simp [dH]at h
 |s::ss,t::ts,e,h=>by
  simp only [dH,xK,py,zC]at h
  rcases h with⟨x,_,rfl⟩|h
  ·simp
  ·exact ma _ (Cl c ss ts e h)
def yj(b:au)(s:da)(r:Int)(hl:b.sources.length<=1000)(hl2:b.out.Tables.length<=1000): ∀l:List da,gE b s r l=if eI s∈l.map eI then some (221,b)else some (0,{b with sources:=b.sources++[s],out:={b.out with Tables:=b.out.Tables++[r]}})
 |[]=>by
  unfold gE
  rw [cG (by simp;omega),aP,cG (by simp;omega),aP]
  rfl
 |e::l=>by
  unfold gE
  rw [qK,aP,qK,aP,yj b s r hl hl2 l]
  by_cases h:eI e=eI s
  ·rw [bD (by simpa using h),bD (by simp [h])]
  ·rw [bv (by simpa using h)]
   have:(eI s∈List.map eI (e::l))=(eI s∈List.map eI l):=by
    simp only [qT,eW]
    exact propext ⟨fun D=>D.resolve_left fun h3=>h h3.symm,.inr⟩
   simp only [this]
def BV{c:aq}(hc:nH c){s:ac}{b:au}(h:rD c s b)(hl:b.sources.length<=2)(hk:b.out.Keys=[])(ha:b.out.Aggs=[])(p:da):
  (∃e,e≠0/\fV s p=some (e,s)/\jd b p=some (e,b))\/(∃s' b' k,fV s p=some (0,s')/\jd b p=some (0,b')/\rD c s' b' /\s'.from_=s.from_/\s'.at_=s.at_/\b' ={b with sources:=b.sources++[p],out:={b.out with Tables:=b.out.Tables++[k]}}):=by
 unfold fV jd
 rw [show nb s.Catalog p.Table=_ from(congrArg (fun(d:aq)=>nb d p.Table) h.cat).trans (CK c p.Table),show rW b.c p.Table=_ from(congrArg (fun(d:aq)=>rW d p.Table) h.bc).trans (Fq c p.Table hc.basC.len),EV]
 have hlen:=h.len
 cases V:vW p.Table c.Tables 0 with
 |none=>exact .inl ⟨220,by decide,rfl,rfl⟩
 |some k=>
  have hkl:=(Ix V).2
  simp only [aP]
  rw [yj b p _ (by omega) (by omega),h.maps.called]
  have d1:decide ((k:Int)<0)=false:=by rw [nl];omega
  simp only [d1,oI,jS,ii]
  by_cases hn:eI p∈b.sources.map eI
  ·rw [oJ hn,bD rfl,bD hn]
   exact .inl ⟨221,by decide,rfl,rfl⟩
  ·rw [qC hn,bv (by decide),bv hn]
   have hb0:EY c (k:Int)=false:=by
    unfold EY
    rw [GU,nl,nl];omega
   obtain⟨x,g1,g2,g3⟩:=CZ hb0
   right
   obtain⟨sc,hsc⟩: ∃sc:ac,sc={s with called:=ir s.called (eI p) true,out:={s.out with Tables:=s.out.Tables++[(k:Int)]}}:=⟨_,rfl⟩
   have hE:=wH c b.sources b.out.Tables [p] [(k:Int)] h.len
   have hE1:dH c [p] [(k:Int)]=py (eI p) (iH c (k:Int)):=by simp [dH]
   rw [hE1]at hE
   have hEl:=wG c b.sources b.out.Tables h.len
   have hkk:f7 c (b.out.Tables++[(k:Int)])=f7 c b.out.Tables++(iH c (k:Int)).map fun x=>x.Kind:=by simp [f7]
   have hcl:=u4 hc.basC.few (k:Int)
   have hKl:(f7 c b.out.Tables).length<=3000:=by
    have: ∀l:List Int,(f7 c l).length<=l.length*1000:=by
     intro l
     induction l with
     |nil=>exact eO _
     |cons t l ih=>
      have:=u4 hc.basC.few t
      simp only [f7,List.flatMap_cons,mV,xX,gz]at ih ⊢
      omega
    have:=this b.out.Tables
    omega
   obtain⟨s',k1,k2,k3,k4⟩:=FW (nm:=eI p) (iH c (k:Int)) (dH c b.sources b.out.Tables) (b.sources.map eI++[eI p]) sc (fun n=>by
    rw [hsc]
    simp only
    by_cases hn2:n=eI p
    ·subst hn2;rw [nE];simp
    ·rw [mF _ hn2,h.maps.called];simp [hn2]) (fun n=>by rw [hsc];exact h.maps.alone n) (fun t n=>by rw [hsc];exact h.maps.behind t n) (by rw [hsc,hEl];exact congrArg List.length h.kinds) (by rw [hEl];omega)
   have hb' :s'.kinds=f7 c (b.out.Tables++[(k:Int)]):=by rw [k2,hkk,hsc];simp [h.kinds]
   refine⟨s',{b with sources:=b.sources++[p],out:={b.out with Tables:=b.out.Tables++[(k:Int)]}},(k:Int),?_,rfl,?_,?_,?_,rfl⟩
   ·rw [cG (by rw [h.out];simp;omega),aP]
    rw [show fg s.Catalog.Tables (k:Int)=some x from by rw [h.cat];exact g1,aP,g2]
    rw [hsc]at k1
    exact k1
   ·refine⟨?_,h.bc,?_,hb',?_,?_,?_,⟨?_,?_,?_,?_⟩,?_,?_,?_,?_,?_,?_⟩
    ·rw [k2,hsc];exact h.cat
    ·rw [k2,hsc];simp only;rw [h.out]
    ·simp only [mV,xO];omega
    ·intro t M
     rcases xK.1 M with M|M
     ·exact h.bad t M
     ·rw [xN.1 M];exact hb0
    ·simp only [mV,xO];omega
    ·intro n
     have:s'.called=sc.called:=by rw [k2]
     rw [this,hsc]
     simp only [FI,qT,BM]
     by_cases hn2:n=eI p
     ·subst hn2;rw [nE];simp
     ·rw [mF _ hn2,h.maps.called];simp [hn2]
    ·intro n;simp only;rw [hE];exact k3 n
    ·intro t n;simp only;rw [hE];exact k4 t n
    ·simp only
     rw [hE,List.nodup_append]
     refine⟨h.maps.once,?_,?_⟩
     ·have:=hc.basC.cols (k:Int)
      unfold JU at this
      unfold py
      rw [List.nodup_iff_pairwise_ne]at this ⊢
      rw [List.pairwise_map]at this ⊢
      exact this.imp fun hxy e=>hxy (congrArg Prod.snd e)
     ·intro a ha' b2 hb2 e
      subst e
      simp only [py,zC]at hb2
      obtain⟨y,_,rfl⟩:=hb2
      exact hn (Cl c _ _ _ ha')
    ·have e1:s'.groups=s.groups:=by rw [k2,hsc]
     rw [e1,h.groups]
     simp only [hk,ha]
     rfl
    ·intro k' hk';simp only [hk]at hk';cases hk'
    ·simp [hk]
    ·simp [ha]
    ·simp [ha]
    ·intro a ha';simp only [ha]at ha';cases ha'
   ·rw [k2,hsc]
   ·rw [k2,hsc]
end Go.Proofs.YthbdkceckjihgaaGreatDoor


/- cu of this claim: B10. -/
set_option linter.all false
namespace Go.Proofs.YthbdkceckjihgaaGreatDoor
open Go

def mt{t:Tr}(hw:t.wf)(hs:t.size<=1000):jE (t.flat 0)=true:=by
 unfold jE
 rw [vV hw hs];rfl
def MG(n:ap):Tr:= .lf (fJ n (-1) (-1))
def za{n:ap}(A:pk n.Tag=some 0)(D:Cn n=true):(MG n).wf:=⟨A,D,rfl,rfl⟩
def I9(n:ap):(MG n).flat 0=[fJ n (-1) (-1)]:=rfl
def xl{n:ap}(A:pk n.Tag=some 0)(D:Cn n=true):rA n=some (⟨(MG n).flat 0⟩,0):=by
 have hm:pT n []=some (U9 (jE [fJ n (-1) (-1)]) ⟨[fJ n (-1) (-1)]⟩):=wp (fun e h=>by cases h) rfl (Su n) (by show 1<=100000;omega)
 have hr:jE [fJ n (-1) (-1)]=true:=mt (za A D) (by show 1<=1000;omega)
 rw [hr]at hm
 unfold rA
 rw [hm];rfl
def ue(n:ap):fx n []=some ⟨(MG n).flat 0⟩:=X6 n
def vJ(k:Int):ap:=⟨2,0,0,k,⟨0,0,0,[]⟩⟩
def QA(v:bO):ap:=⟨1,0,0,0,v⟩
def u5(k:Int):pk (vJ k).Tag=some 0:=rfl
def sn{k:Int}(h0:0<=k)(A:k<16):Cn (vJ k)=true:=by
 unfold Cn io vJ
 simp [h0,A]
def Ef{v:bO}(h:qM v=true):Cn (QA v)=true:=by
 unfold Cn io QA
 rw [mD,h];rfl
def U1{l:List Int}(h: ∀k∈l,k4 k):PB l=true:=by
 unfold PB
 rw [mo]
 intro k hk
 have:=h k hk
 unfold k4 at this
 simp only [gU,li]
 omega
def sd{t:Tr}(hw:t.wf)(hs:t.size<=1000){kinds:List Int}(hk: ∀k∈kinds,k4 k):fe ⟨t.flat 0⟩ kinds=if lH kinds.length (t.flat 0)then(match kd kinds t with
  |some k=>((k,0):Int×Int)
  |none=>(0,201))else(0,2):=by
 unfold fe
 rw [mt hw hs,U1 hk,bD rfl,bD rfl]
 simp only [vV hw hs,aP]
 split<;>first|rfl|(cases kd kinds t<;>rfl)
def QF{e:aD}{kinds:List Int}(hk: ∀k∈kinds,k4 k):k4 (fe e kinds).1:=by
 unfold fe
 split
 ·split
  ·split
   ·rename_i hr _ _
    unfold jE at hr
    cases M:pH e.Nodes with
    |none=>rw [M]at hr;cases hr
    |some t=>
     simp only [aP]
     cases hd:kd kinds t with
     |none=>exact .inl rfl
     |some k=>exact ML hk t (oj M).1 hd
   ·exact .inl rfl
  ·exact .inl rfl
 ·exact .inl rfl
def Eg{k:Int}{kinds:List Int}(hk: ∀k∈kinds,k4 k)(h0:0<=k)(A:k<(kinds.length:Int))(h16:k<16):(fe ⟨(MG (vJ k)).flat 0⟩ kinds).2=0:=by
 rw [sd (za (u5 k) (sn h0 h16)) (by show 1<=1000;omega) hk]
 rw [bD]
 ·rfl
 ·rw [I9]
  unfold lH
  simp [fJ,vJ]
  omega
def QE{v:bO}(hv:qM v=true){kinds:List Int}(hk: ∀k∈kinds,k4 k):(fe ⟨(MG (QA v)).flat 0⟩ kinds).2=0:=by
 rw [sd (za (show pk 1=some 0 from rfl) (Ef hv)) (by show 1<=1000;omega) hk]
 rw [bD]
 ·rfl
 ·rw [I9];rfl
def Qp(tag:Int):ap:=⟨tag,-1,-1,0,⟨0,0,0,[]⟩⟩
def Mt{tag:Int}{k:Nat}(h:pk tag=some (k+1)):Cn (Qp tag)=true:=by
 unfold Cn io Qp
 have A: ¬tag=1:=fun e=>by subst e;simp [pk]at h
 have D: ¬tag=2:=fun e=>by subst e;simp [pk]at h
 simp [A,D]
def TP{tag:Int}{a:Tr}(h:pk tag=some 1)(ha:a.wf):(Tr.un (Qp tag) a).wf:=⟨⟨h,Mt h,rfl,rfl⟩,ha⟩
def Um{tag:Int}{a b:Tr}(h:pk tag=some 2)(ha:a.wf)(H:b.wf):(Tr.bi (Qp tag) a b).wf:=⟨⟨h,Mt h,rfl,rfl⟩,ha,H⟩
def Tx(tag:Int)(a b:Tr):(Tr.bi (sa tag) a b).flat 0=(Tr.bi (Qp tag) a b).flat 0:=rfl
def Mw(tag:Int){a:Tr}(ha:a.wf)(hs:a.size<=900):wF tag ⟨a.flat 0⟩=some (U9 (jE ((Tr.un (Qp tag) a).flat 0)) ⟨(Tr.un (Qp tag) a).flat 0⟩):=by
 have hl: ∀e∈[(⟨a.flat 0⟩:aD)],e.Nodes.length<=100000:=by
  intro e h
  simp only [xN]at h
  subst h
  show(a.flat 0).length<=100000
  rw [a.flat_len];omega
 have hw:((⟨(Tr.un (sa tag) a).flat 0⟩:aD)).Nodes.length<=100000:=by
  show((Tr.un (sa tag) a).flat 0).length<=100000
  rw [Tr.flat_len];simp only [Tr.size];omega
 have hm:=wp (root:=sa tag) hl (by simp [mt ha (by omega)]) (Sr _ a (by omega)) hw
 unfold wF
 rw [show(⟨tag,0,0,0,⟨0,0,0,[]⟩⟩:ap)=sa tag from rfl,hm]
 rfl
def Qq{tag:Int}(h:pk tag=some 1){a:Tr}(ha:a.wf)(hs:a.size<=900):wF tag ⟨a.flat 0⟩=some (⟨(Tr.un (Qp tag) a).flat 0⟩,0):=by
 rw [Mw tag ha hs,mt (TP h ha) (by simp only [Tr.size];omega)];rfl
def PK{tag:Int}(h:pk tag=some 2){a b:Tr}(ha:a.wf)(H:b.wf)(hs:a.size+b.size<=900):Au tag ⟨a.flat 0⟩ ⟨b.flat 0⟩=some (⟨(Tr.bi (Qp tag) a b).flat 0⟩,0):=by
 have hl: ∀e∈[(⟨a.flat 0⟩:aD),⟨b.flat 0⟩],e.Nodes.length<=100000:=by
  intro e h
  simp only [eW,List.not_mem_nil,or_false]at h
  rcases h with rfl|rfl
  ·show(a.flat 0).length<=100000
   rw [a.flat_len];omega
  ·show(b.flat 0).length<=100000
   rw [b.flat_len];omega
 have hw:((⟨(Tr.bi (sa tag) a b).flat 0⟩:aD)).Nodes.length<=100000:=by
  show((Tr.bi (sa tag) a b).flat 0).length<=100000
  rw [Tr.flat_len];simp only [Tr.size];omega
 have hm:=wp (root:=sa tag) hl (by simp [mt ha (by omega),mt H (by omega)]) (Sq _ a b (by omega)) hw
 unfold Au
 rw [show(⟨tag,0,0,0,⟨0,0,0,[]⟩⟩:ap)=sa tag from rfl,hm,Tx,mt (Um h ha H) (by simp only [Tr.size];omega)]
 rfl
def Mu(tag:Int){a:Tr}(hs:a.size<=900):fx ⟨tag,0,0,0,⟨0,0,0,[]⟩⟩ [⟨a.flat 0⟩]=some ⟨(Tr.un (Qp tag) a).flat 0⟩:=LT (sa tag) a (by omega)
def R1(tag:Int){a b:Tr}(hs:a.size<=900)(hs2:b.size<=900):fx ⟨tag,0,0,0,⟨0,0,0,[]⟩⟩ [⟨a.flat 0⟩,⟨b.flat 0⟩]=some ⟨(Tr.bi (Qp tag) a b).flat 0⟩:=LS (sa tag) a b (by omega) (by omega)
def Fg(a:jT)(kinds:List Int):p6 a kinds=some (wP a kinds):=by
 unfold p6 wP
 rw [nB]
 by_cases A:a.Tag=1
 ·rw [bD (by simpa using A),bD A]
 ·rw [bv (by simpa using A),bv A,aP]
  by_cases D:(fe a.Arg kinds).2≠0\/(a.Tag=3/\(fe a.Arg kinds).1≠2/\(fe a.Arg kinds).1≠0)
  ·rw [bD D,bD (by simpa [and_assoc] using D)]
  ·rw [bv D,bv (by simpa [and_assoc] using D)]
   by_cases h3:a.Tag=2\/a.Tag=3
   ·rw [bD h3,bD (by simpa using h3)]
   ·rw [bv h3,bv (by simpa using h3)]
def Rz{a:jT}{kinds:List Int}(hk: ∀k∈kinds,k4 k):k4 (wP a kinds).1:=by
 unfold wP
 split
 ·exact .inr (.inr (.inl rfl))
 ·split
  ·exact .inl rfl
  ·split
   ·exact .inr (.inr (.inl rfl))
   ·exact QF hk
def Jq(r:List Int): ∀(l:List jT) (out:List Int),out.length+l.length<=1000000->jf r l out=some (out++l.map fun a=>(wP a r).1)
 |[],out,_=>by simp [jf]
 |a::l,out,h=>by
  simp only [gz]at h
  unfold jf
  rw [Fg,aP,cG (by simp;omega),aP,Jq r l _ (by simp;omega)]
  simp
def Jr(s:aS)(r:List Int)(ha:s.Aggs.length<=1000): ∀(l:List Int) (out:List Int),(∀k∈l,0<=k/\k<(r.length:Int))->out.length+l.length<=10000->jg s r l out=some (out++uM r l s.Aggs)
 |[],out,_,h=>by
  unfold jg
  rw [Jq r _ _ (by simp at h;omega)];rfl
 |k::l,out,hk,h=>by
  simp only [gz]at h
  obtain⟨h0,A⟩:=hk k (lL ..)
  have hi:fg r k=some ((r[k.toNat]?).getD 0):=by
   have hlt:k.toNat<r.length:=by omega
   unfold fg
   rw [bD h0,jA hlt];rfl
  unfold jg
  rw [hi,aP,cG (by simp;omega),aP,Jr s r ha l _ (fun j hj=>hk j (ma _ hj)) (by simp;omega)]
  simp [uM,Jd]
def rD.kindsLen{c:aq}{s:ac}{b:au}(hc:nH c)(h:rD c s b):s.kinds.length<=12:=by
 have: ∀l:List Int,(f7 c l).length<=l.length*4:=by
  intro l
  induction l with
  |nil=>exact eO _
  |cons t l ih=>
   have h4:(iH c t).length<=4:=by
    unfold iH
    cases V:c.Tables[t.toNat]? with
    |none=>simp
    |some x=>exact hc.cols4 x (qD V)
   simp only [f7,List.flatMap_cons,mV,xX,gz]at ih ⊢
   omega
 have D:=this b.out.Tables
 have:=h.few
 rw [h.kinds];omega
def rD.kinds4{c:aq}{s:ac}{b:au}(hc:nH c)(h:rD c s b): ∀k∈s.kinds,k4 k:=by
 rw [h.kinds]
 intro k hk
 simp only [f7,List.mem_flatMap,zC]at hk
 obtain⟨t,_,x,V,rfl⟩:=hk
 unfold iH at V
 cases hy:c.Tables[t.toNat]? with
 |none=>rw [hy]at V;simp at V
 |some y=>
  rw [hy]at V
  have:=hc.kinds y (qD hy) x V
  unfold sU at this
  simp only [vN,sG]at this
  unfold k4;omega
def rD.groups4{c:aq}{s:ac}{b:au}(hc:nH c)(h:rD c s b): ∀k∈s.groups,k4 k:=by
 rw [h.groups]
 intro k hk
 have h4:=h.kinds4 hc
 unfold uM Jd at hk
 rcases xK.1 hk with hk|hk
 ·obtain⟨j,hj,rfl⟩:=zC.1 hk
  obtain⟨h0,A⟩:=h.keys j hj
  have hlt:j.toNat<s.kinds.length:=by omega
  rw [jA hlt]
  exact h4 _ (Id ..)
 ·obtain⟨a,_,rfl⟩:=zC.1 hk
  exact Rz h4
def rD.groupsLen{c:aq}{s:ac}{b:au}(h:rD c s b):s.groups.length=b.out.Keys.length+b.out.Aggs.length:=by
 rw [h.groups];simp [uM,Jd]
def rD.refKinds{c:aq}{s:ac}{b:au}(hc:nH c)(h:rD c s b):jr b.c b.out.Tables=some s.kinds:=by
 rw [h.bc,Hq hc.basC.few h.bad (by have:=h.few;omega),h.kinds]
def rD.refGroups{c:aq}{s:ac}{b:au}(hc:nH c)(h:rD c s b):jx b.c b.out=some s.groups:=by
 unfold jx
 rw [h.refKinds hc,aP,Jr b.out s.kinds (by have:=h.aggsLen;omega) _ _ h.keys (by have:=h.keysLen;simp;omega),h.groups]
 rfl
def rD.column{c:aq}{s:ac}{b:au}(hc:nH c)(h:rD c s b)(n:ig):iW s n=some (vI (dH c b.sources b.out.Tables) n.Table n.Name)/\je b n.Table n.Name=some (vI (dH c b.sources b.out.Tables) n.Table n.Name):=
 ⟨JH h.maps n,Fo hc.basC b h.bc n.Table n.Name h.len h.bad (by have:=h.few;omega)⟩
def rD.colIn{c:aq}{s:ac}{b:au}(h:rD c s b)(t n:bZ)(he:(vI (dH c b.sources b.out.Tables) t n).2=0):0<=(vI (dH c b.sources b.out.Tables) t n).1/\(vI (dH c b.sources b.out.Tables) t n).1<(s.kinds.length:Int):=by
 have hl:=wG c b.sources b.out.Tables h.len
 rw [h.kinds,<-hl]
 have hr:=zc (fun e=>decide (e.2=n)&&(decide (t=[])||decide (e.1=t))) (dH c b.sources b.out.Tables) 0
 unfold vI at he ⊢
 match hh:kl (fun e=>decide (e.2=n)&&(decide (t=[])||decide (e.1=t))) (dH c b.sources b.out.Tables) 0 with
 |[]=>rw [hh]at he;cases he
 |[k]=>
  rw [hh]at hr
  have:=hr k (lL ..)
  simp only
  omega
 |k::k2::hb=>rw [hh]at he;cases he
def Ek{x a:jT}(h: ¬x=a)(l:List jT):(x::l).idxOf a=l.idxOf a+1:=by
 have:(x==a)=false:=by simpa using h
 simp [List.idxOf,List.findIdx_cons,this]
def Jj(a:jT): ∀(l:List jT) (i:Nat),dq (jy a) l i=some (if a∈l then((i+l.idxOf a:Nat):Int)else -1)
 |[],i=>rfl
 |x::l,i=>by
  unfold dq
  have hf:jy a x=some (decide (x=a)):=by
   unfold jy
   rw [HV]
   obtain⟨t1,⟨n1⟩⟩:=x
   obtain⟨t2,⟨n2⟩⟩:=a
   by_cases A:t1=t2
   ·subst A;by_cases D:n1=n2<;>simp [D]
   ·have:(t1==t2)=false:=by simpa using A
    simp [this,A]
  rw [hf,aP,Jj a l (i+1)]
  by_cases h:x=a
  ·subst h;simp
  ·rw [bv (by simpa using h)]
   congr 1
   have hm:(a∈x::l)=(a∈l):=by
    simp only [eW]
    exact propext ⟨fun D=>D.resolve_left fun h3=>h h3.symm,.inr⟩
   simp only [hm]
   by_cases ha:a∈l
   ·rw [bD ha,bD ha,show(x::l).idxOf a=l.idxOf a+1 from Ek h l]
    congr 1;omega
   ·rw [bv ha,bv ha]
def LL(b:au)(a:jT): ∀(l:List jT) (i:Nat) (at1:Int),l.Nodup->eU b a l i at1=eU b a [] (i+l.length) (if a∈l then((i+l.idxOf a:Nat):Int)else at1)
 |[],i,at1,_=>rfl
 |x::l,i,at1,hn=>by
  have hn' :=List.nodup_cons.1 hn
  conv=>lhs;unfold eU
  have hf:(if(x.Tag==a.Tag)=true then(uC x.Arg a.Arg).bind fun r3=>some r3 else some false)=some (decide (x=a)):=by
   rw [Fs]
   obtain⟨t1,⟨n1⟩⟩:=x
   obtain⟨t2,⟨n2⟩⟩:=a
   by_cases A:t1=t2
   ·subst A;by_cases D:n1=n2<;>simp [D]
   ·have:(t1==t2)=false:=by simpa using A
    simp [this,A]
  rw [hf,aP,show i+(x::l).length=i+1+l.length from by simp only [gz];omega]
  by_cases h:x=a
  ·subst h
   rw [bD (by simp),LL b x l (i+1) _ hn'.2,bv hn'.1,bD (lL ..)]
   simp
  ·rw [bv (by simpa using h),LL b a l (i+1) _ hn'.2]
   have hm:(a∈x::l)=(a∈l):=by
    simp only [eW]
    exact propext ⟨fun D=>D.resolve_left fun h3=>h h3.symm,.inr⟩
   simp only [hm]
   by_cases ha:a∈l
   ·rw [bD ha,bD ha,show(x::l).idxOf a=l.idxOf a+1 from Ek h l]
    congr 2;omega
   ·rw [bv ha,bv ha]
end Go.Proofs.YthbdkceckjihgaaGreatDoor


/- cu of this claim: B11. -/
set_option linter.all false
namespace Go.Proofs.YthbdkceckjihgaaGreatDoor
open Go

def CN(s s' :ac)(b b' :au):Prop:=s' ={s with out:={s.out with Aggs:=s'.out.Aggs},groups:=s'.groups}/\b' ={b with out:={b.out with Aggs:=b'.out.Aggs}}/\s.groups<+:s'.groups
def CN.refl(s:ac)(b:au):CN s s b b:=⟨rfl,rfl,List.prefix_refl _⟩
def CN.trans{s s1 s2:ac}{b b1 b2:au}(h:CN s s1 b b1)(k:CN s1 s2 b1 b2):CN s s2 b b2:=by
 obtain⟨A,D,h3⟩:=h
 obtain⟨k1,k2,k3⟩:=k
 refine⟨?_,?_,h3.trans k3⟩
 ·rw [k1,A]
 ·rw [k2,D]
def Ry{c:aq}(hc:nH c){s:ac}{b:au}(h:rD c s b)(a:jT)(M:1<=a.Tag/\a.Tag<=5)(ha:a.Arg.Nodes.length<=50000):
  (∃e s' b',e≠0/\kV s a=some (0,e,s')/\m4 b a=some (⟨[]⟩,e,b')/\CN s s' b b')\/(∃k s' b',kV s a=some (k,0,s')/\m4 b a=some (⟨(MG (vJ k)).flat 0⟩,0,b')/\rD c s' b' /\CN s s' b b' /\0<=k/\k<(s'.groups.length:Int)/\k<16):=by
 have hkl:=h.kindsLen hc
 have hal:=h.aggsLen
 have hkeys:=h.keysLen
 -- the code, up to its kind
 have hcode:kV s a=if(wP a s.kinds).2 then iX s a (wP a s.kinds).1 else some (0,201,s):=by
  unfold kV wP
  rw [rp _ _ ha]
  by_cases A:a.Tag=1
  ·rw [bv (by simp [A]),bD A];rfl
  ·rw [bD (by simpa using A),bv A,aP]
   by_cases D:(fe a.Arg s.kinds).2≠0\/(a.Tag=3/\(fe a.Arg s.kinds).1≠2/\(fe a.Arg s.kinds).1≠0)
   ·rw [bD D,bD (by simpa [and_assoc] using D)];rfl
   ·rw [bv D,bv (by simpa [and_assoc] using D)]
    by_cases h3:a.Tag=2\/a.Tag=3
    ·rw [bD h3,bv (by simp;omega)];rfl
    ·rw [bv h3,bD (by simp;omega)];rfl
 rw [hcode]
 unfold m4
 rw [h.refKinds hc,aP,Fg,aP,LL b a _ _ _ h.aggsOnce]
 cases hok:(wP a s.kinds).2 with
 |false=>exact .inl ⟨201,s,b,by decide,rfl,rfl,CN.refl _ _⟩
 |true=>
  simp only [oI,jS,ii,gW,pz]
  unfold iX gA
  rw [Jj,aP,h.out,pz]
  by_cases hm:a∈b.out.Aggs
  ·-- it is there
   have hix:=Ma hm
   rw [bD hm,bD hm,bv (by rw [li];omega)]
   have hw:IntKind.i64.wrap ((b.out.Keys.length:Int)+((b.out.Aggs.idxOf a:Nat):Int))=((b.out.Keys.length+b.out.Aggs.idxOf a:Nat):Int):=by rw [cV (by omega) (by omega)];omega
   right
   refine⟨((b.out.Keys.length+b.out.Aggs.idxOf a:Nat):Int),s,b,?_,?_,h,CN.refl _ _,by omega,by have:=h.groupsLen;omega,by omega⟩
   ·unfold j7
    rw [h.out,bv (by rw [li];omega),hw]
   ·unfold eU kx
    rw [bv (by rw [sG];omega),bv (by rw [li];omega),hw]
    rw [show(⟨2,0,0,((b.out.Keys.length+b.out.Aggs.idxOf a:Nat):Int),⟨0,0,0,[]⟩⟩:ap)=vJ ((b.out.Keys.length+b.out.Aggs.idxOf a:Nat):Int)from rfl,ue]
    rfl
  ·-- it is new
   rw [bv hm,bv hm,bD (by decide),cG (by simp;omega),aP,cG (by have:=h.groupsLen;simp;omega),aP]
   unfold eU
   rw [bD (by simp),cG (by simp;omega),aP]
   unfold j7 kx
   simp only [mV,xO]
   by_cases h12:b.out.Aggs.length+1<=12
   ·have hw:IntKind.i64.wrap ((b.out.Keys.length:Int)+((b.out.Aggs.length:Nat):Int))=((b.out.Keys.length+b.out.Aggs.length:Nat):Int):=by rw [cV (by omega) (by omega)];omega
    rw [bv (by rw [li];omega),bv (by rw [li];omega),hw]
    rw [show(⟨2,0,0,((b.out.Keys.length+b.out.Aggs.length:Nat):Int),⟨0,0,0,[]⟩⟩:ap)=vJ ((b.out.Keys.length+b.out.Aggs.length:Nat):Int)from rfl,ue,aP]
    right
    refine⟨_,_,_,rfl,rfl,?_,⟨?_,rfl,List.prefix_append _ _⟩,by omega,?_,by omega⟩
    ·refine⟨h.cat,h.bc,rfl,h.kinds,h.len,h.bad,h.few,⟨h.maps.called,h.maps.alone,h.maps.behind,h.maps.once⟩,?_,h.keys,h.keysLen,by simpa using h12,?_,?_⟩
     ·simp only
      rw [h.groups]
      simp [uM]
     ·simp only
      rw [List.nodup_append]
      refine⟨h.aggsOnce,by simp,fun x V y hy e=>?_⟩
      rw [xN.1 hy]at e
      exact hm (e▸V)
     ·intro x V
      rcases xK.1 V with V|V
      ·exact h.aggsOk x V
      ·rw [xN.1 V];exact⟨hok,M,ha⟩
    ·rw [h.out]
    ·have:=h.groupsLen;simp only [mV,xO];omega
   ·rw [bD (by rw [li];omega),bD (by rw [li];omega)]
    left
    refine⟨228,_,_,by decide,rfl,rfl,?_,rfl,List.prefix_append _ _⟩
    rw [h.out]
end Go.Proofs.YthbdkceckjihgaaGreatDoor


/- cu of this claim: B12. -/
set_option linter.all false
namespace Go.Proofs.YthbdkceckjihgaaGreatDoor
open Go

def ov(s:ac)(g:Bool):List Int:=if g then s.groups else s.kinds
def qR:ac->Bool->Option ((List Int)×ac):=fun(mc:ac) (mx:Bool)=>(eZ mc mx).map fun mr=>(mr,mc)
def I0(s:ac)(g:Bool):qR s g=some (ov s g,s):=by
 unfold qR eZ ov
 cases g<;>rfl
def rD.ov4{c:aq}{s:ac}{b:au}(hc:nH c)(h:rD c s b)(g:Bool): ∀k∈ov s g,k4 k:=by
 unfold ov
 cases g with
 |true=>exact h.groups4 hc
 |false=>exact h.kinds4 hc
def Ny(c:aq)(s:ac)(b:au)(g:Bool)(n:Nat)(C:Option (aD×Int×ac))(h2:Option (aD×Int×au)):Prop:=
 (∃(e:Int) (x:aD) (s' :ac) (x' :aD) (b' :au),e≠0/\C=some (x,e,s')/\h2=some (x',e,b')/\CN s s' b b')\/
 (∃(t:Tr) (s' :ac) (b' :au),C=some ((⟨t.flat 0⟩:aD),0,s')/\h2=some ((⟨t.flat 0⟩:aD),0,b')/\t.wf/\t.size<=n/\rD c s' b' /\CN s s' b b' /\(g=false->s' =s/\b' =b)/\(fe ⟨t.flat 0⟩ (ov s' g)).2=0)
def QQ(s:ac)(g:Bool){x:aD}(V:x.Nodes.length<=50000):gv qR g s 0 x=some (x,(fe x (ov s g)).2,s):=by
 unfold gv
 rw [bD (by rfl),I0,aP,rp _ _ V,aP]
 rfl
def Sz{c:aq}(hc:nH c){s:ac}{b:au}(h:rD c s b)(g:Bool)(x y:aD):iB g y x b=some (x,(fe x (ov s g)).2,b):=by
 unfold iB mw ov
 rw [h.refKinds hc,aP]
 cases g with
 |true=>
  simp only [gW]
  rw [h.refGroups hc,aP,nB];rfl
 |false=>
  simp only [jS,ii]
  rw [nB];rfl
def Jx{c:aq}(hc:nH c){s s' :ac}{b b' :au}(h:rD c s' b')(hf:CN s s' b b'){g:Bool}(hg:g=false->s' =s/\b' =b){t:Tr}(hw:t.wf)(hs:t.size<=900){n:Nat}(hn:t.size<=n)(y:aD):
  Ny c s b g n (gv qR g s' 0 ⟨t.flat 0⟩) (iB g y ⟨t.flat 0⟩ b'):=by
 rw [QQ s' g (by show(t.flat 0).length<=50000;rw [t.flat_len];omega),Sz hc h]
 by_cases he:(fe ⟨t.flat 0⟩ (ov s' g)).2=0
 ·exact .inr ⟨t,s',b',by rw [he],by rw [he],hw,hn,h,hf,hg,he⟩
 ·exact .inl ⟨_,_,_,_,_,he,rfl,rfl,hf⟩
def BC(n:ap){r:aD×Int}(h:rA n=some r):bk n=some r:=by
 unfold bk
 rw [h];rfl
def JG{c:aq}(hc:nH c){s:ac}{b:au}(h:rD c s b){g:Bool}{k:Int}(h0:0<=k)(A:k<((ov s g).length:Int))(h16:k<16)(r1:Int×Int)(hr:r1.2=0)(y:aD){n:Nat}(hn:1<=n):
  Ny c s b g n (dw s bk k 0) (gp b r1 k y):=by
 unfold dw gp
 rw [bv (by decide),show(⟨2,0,0,k,⟨0,0,0,[]⟩⟩:ap)=vJ k from rfl,BC _ (xl (u5 k) (sn h0 h16)),ue,aP,aP,hr]
 exact .inr ⟨MG (vJ k),s,b,rfl,rfl,za (u5 k) (sn h0 h16),hn,h,CN.refl _ _,fun _=>⟨rfl,rfl⟩,Eg (h.ov4 hc g) h0 A h16⟩
def Gn(v:Int): ∀(l:List Int) (i:Nat),gj v l i=some (if v∈l then((i+l.idxOf v:Nat):Int)else -1)
 |[],i=>rfl
 |x::l,i=>by
  unfold gj
  by_cases h:v=x
  ·subst h;simp
  ·rw [bv (by simpa using h),Gn v l (i+1)]
   have hs:(x::l).idxOf v=l.idxOf v+1:=by
    have:(x==v)=false:=by simpa using Ne.symm h
    simp [List.idxOf,List.findIdx_cons,this]
   have hm:(v∈x::l)=(v∈l):=by
    simp only [eW]
    exact propext ⟨fun D=>D.resolve_left h,.inr⟩
   simp only [hm,hs]
   by_cases hv:v∈l
   ·rw [bD hv,bD hv];congr 1;omega
   ·rw [bv hv,bv hv]
def K7{x v:Int}(h: ¬x=v)(l:List Int):(x::l).idxOf v=l.idxOf v+1:=by
 have:(x==v)=false:=by simpa using h
 simp [List.idxOf,List.findIdx_cons,this]
def U2(v:Int): ∀(l m:List Int),v∈l->(l++m).idxOf v=l.idxOf v
 |x::l,m,h=>by
  by_cases V:x=v
  ·subst V;simp
  ·rw [tR,K7 V,K7 V,U2 v l m ((eW.1 h).resolve_left fun e=>V e.symm)]
def T5(v:Int): ∀(l m:List Int),v∉l->(l++m).idxOf v=l.length+m.idxOf v
 |[],m,_=>by simp
 |x::l,m,h=>by
  rw [eW,not_or]at h
  rw [tR,K7 (fun e=>h.1 e.symm),T5 v l m h.2,gz];omega
def UU(b:au)(r1:Int×Int)(hl:b.out.Keys.length<=1000): ∀(j fu:Nat) (own:Int),j<=b.out.Keys.length->j<fu->dg b r1 fu own ((j:Int)-1)=dg b r1 1 (if r1.1∈b.out.Keys.take j then(((b.out.Keys.take j).idxOf r1.1:Nat):Int)else own) (-1):=by
 intro j
 induction j with
 |zero=>
  intro fu own _ hf
  obtain⟨fu,rfl⟩: ∃k,fu=k+1:=⟨fu-1,by omega⟩
  simp only [List.take_zero,List.not_mem_nil,ii]
  rw [show((0:Nat):Int)-1= -1 from rfl]
  conv=>lhs;unfold dg
  conv=>rhs;unfold dg
  have hd:decide ((0:Int)<= -1)=false:=rfl
  simp only [hd,jS,ii]
 |succ j ih=>
  intro fu own hj hf
  obtain⟨fu,rfl⟩: ∃k,fu=k+1:=⟨fu-1,by omega⟩
  have hlt:j<b.out.Keys.length:=by omega
  conv=>lhs;unfold dg
  rw [bD (by rw [li];omega),gY j (by omega),jA hlt,aP,cV (by omega) (by omega),show((j+1:Nat):Int)-1-1=(j:Int)-1 from by omega]
  have M:b.out.Keys.take (j+1)=b.out.Keys.take j++[b.out.Keys[j]]:=by rw [J9 hlt]
  rw [M]
  by_cases hk:b.out.Keys[j]=r1.1
  ·rw [bD (by simpa using hk),ih fu _ (by omega) (by omega)]
   congr 1
   by_cases hm:r1.1∈b.out.Keys.take j
   ·rw [bD hm,bD (Da _ hm),U2 _ _ _ hm]
   ·rw [bv hm,bD (by rw [hk];simp),hk]
    have:(b.out.Keys.take j++[r1.1]).idxOf r1.1=j:=by
     rw [T5 _ _ _ hm]
     simp [yE]
     omega
    rw [this];omega
  ·rw [bv (by simpa using hk),ih fu _ (by omega) (by omega)]
   congr 1
   by_cases hm:r1.1∈b.out.Keys.take j
   ·rw [bD hm,bD (Da _ hm),U2 _ _ _ hm]
   ·rw [bv hm,bv]
    intro D
    rcases xK.1 D with D|D
    ·exact hm D
    ·exact hk (xN.1 D).symm
def Sg(b:au)(r1:Int×Int)(own:Int):dg b r1 1 own (-1)=if own<0 then some (⟨[]⟩,225,b)else gp b r1 own ⟨[]⟩:=by
 unfold dg
 rw [bv (by decide)]
 by_cases h:own<0
 ·rw [bD h,bD (by simpa using h)]
 ·rw [bv h,bv (by simpa using h)]
def OO{c:aq}(hc:nH c){s:ac}{b:au}(h:rD c s b)(at1:Int){n:Nat}(hn:1<=n):
  Ny c s b true n ((j0 s.out.Keys at1).bind fun r3=>if(decide (r3<(0:Int)))then(dw s bk r3 (225:Int))else(dw s bk r3 0))
   (dg b (at1,0) gx (-1:Int) (IntKind.i64.wrap ((b.out.Keys.length:Int)-(1:Int)))):=by
 have hkl:=h.keysLen
 unfold j0
 rw [Gn,aP,h.out,pz,cV (by omega) (by omega),UU b (at1,0) (by omega) b.out.Keys.length gx _ (eO _) (by unfold gx;omega),xY,Sg]
 by_cases hm:at1∈b.out.Keys
 ·have hix:=Ma hm
  rw [bD hm,bv (by rw [li];omega),bv (by omega)]
  exact JG hc h (by omega) (by unfold ov;have:=h.groupsLen;simp only [gW];omega) (by omega) (at1,0) rfl _ hn
 ·rw [bv hm,bD (by decide),bD (by omega)]
  unfold dw
  rw [bD (by decide)]
  exact .inl ⟨225,_,_,_,_,by decide,rfl,rfl,CN.refl _ _⟩
def JO{tag:Int}(h:tag=3\/(8<=tag/\tag<=11)): ∃k:Int,(fP nk tag).getD (0:Int)=k/\uA tag=some k/\1<=k/\k<=5:=by
 have:tag=3\/tag=8\/tag=9\/tag=10\/tag=11:=by omega
 rcases this with rfl|rfl|rfl|rfl|rfl
 ·exact⟨1,rfl,rfl,by decide,by decide⟩
 ·exact⟨2,rfl,rfl,by decide,by decide⟩
 ·exact⟨3,rfl,rfl,by decide,by decide⟩
 ·exact⟨4,rfl,rfl,by decide,by decide⟩
 ·exact⟨5,rfl,rfl,by decide,by decide⟩
def TA{c:aq}(hc:nH c){s:ac}{b:au}(h:rD c s b){m:cj}{k:Int}(hk:uA m.Tag=some k)(A:1<=k)(h5:k<=5){arg:aD}(ha:arg.Nodes.length<=50000){n:Nat}(hn:1<=n):
  Ny c s b true n (em bk s ⟨k,arg⟩) (gn m arg b 0):=by
 unfold em gn
 rw [bv (by decide),hk,aP]
 rcases Ry hc h ⟨k,arg⟩ ⟨A,h5⟩ ha with⟨e,s',b',he,g1,g2,g3⟩|⟨j,s',b',g1,g2,g3,g4,g5,g6,g7⟩
 ·rw [g1,g2,aP,aP,bD (by simpa using he)]
  exact .inl ⟨e,_,_,_,_,he,rfl,rfl,g3⟩
 ·rw [g1,g2,aP,aP]
  simp only [bne_self_eq_false,jS,ii]
  rw [show(⟨2,0,0,j,⟨0,0,0,[]⟩⟩:ap)=vJ j from rfl,BC _ (xl (u5 j) (sn g5 g7)),aP]
  exact .inr ⟨MG (vJ j),s',b',rfl,rfl,za (u5 j) (sn g5 g7),hn,g3,g4,fun e=>(by cases e),Eg (g3.ov4 hc true) g5 g6 g7⟩
end Go.Proofs.YthbdkceckjihgaaGreatDoor


/- cu of this claim: B13. -/
set_option linter.all false
namespace Go.Proofs.YthbdkceckjihgaaGreatDoor
open Go

def xE{c:aq}{s:ac}{b:au}{g:Bool}{n:Nat}{e:Int}(he:e≠0){x:aD}{s' :ac}{x' :aD}{b' :au}(hf:CN s s' b b'):Ny c s b g n (some (x,e,s')) (some (x',e,b')):= .inl ⟨e,x,s',x',b',he,rfl,rfl,hf⟩
def Rl{n:cj}(h:qP n=true)(M:n.Tag=1):qM n.Value=true:=by
 unfold qP at h
 rw [bD M]at h
 simp only [gU,xf]at h
 exact h.2.1.1
def Hv{N P R:List cj}{a:List cj}{m:cj}(hN:N=P++(a++[m])++R):N[P.length+a.length]? =some m:=by
 rw [hN,fk,fk,<-fk P,tX (by simp)]
 simp
def wQ(tag:Int):ul tag=true↔(tag=3\/(8<=tag/\tag<=11)):=by
 unfold ul;simp
def GI{tag:Int}(h:ul tag=false):(fP nk tag).getD (0:Int)=0:=by
 have D: ¬(tag=3\/(8<=tag/\tag<=11)):=fun e=>by rw [(wQ tag).2 e]at h;cases h
 unfold nk
 simp only [fP]
 rw [bv (show¬(3:Int)=tag by omega),bv (show¬(8:Int)=tag by omega),bv (show¬(9:Int)=tag by omega),bv (show¬(10:Int)=tag by omega),bv (show¬(11:Int)=tag by omega)]
 rfl
def Ot{tag:Int}(h:Ou tag=some 1)(ha:ul tag=false):pk tag=some 1:=by
 have D: ¬(tag=3\/(8<=tag/\tag<=11)):=fun e=>by rw [(wQ tag).2 e]at ha;cases ha
 unfold Ou at h
 unfold pk
 split at h
 ·cases h
 ·split at h
  ·rw [bv (by omega),bD (by omega)]
  ·split at h<;>cases h
def Oq{tag:Int}(h:Ou tag=some 2):pk tag=some 2/\ul tag=false:=by
 have h12:12<=tag/\tag<=23:=by
  unfold Ou at h
  split at h
  ·cases h
  ·split at h
   ·cases h
   ·split at h
    ·assumption
    ·cases h
 refine⟨?_,?_⟩
 ·unfold pk
  rw [bv (by omega),bv (by omega),bD (by omega)]
 ·cases H:ul tag with
  |false=>rfl
  |true=>have:=(wQ tag).1 H;omega
def K9(l r:Int):fg [l,r] ((0:Nat):Int)=some l:=rfl
def K8(l r:Int):fg [l,r] ((0+1:Nat):Int)=some r:=rfl
abbrev cT(fu:Nat)(s:ac)(N:List cj)(p:Int)(g:Bool):=bG fu s ⟨N⟩ bk nk qR p g
abbrev dT(fu:Nat)(b:au)(N:List cj)(p:Int)(g:Bool):=bQ fu b ⟨N⟩ p g
def Nx{c:aq}(hc:nH c){s s' :ac}{b b' :au}(h:rD c s' b')(hf:CN s s' b b'){g:Bool}{m:cj}(hm:ul m.Tag=true){parts:List aD}{arg:aD}(ha:arg.Nodes.length<=50000)(hp:(parts=[]/\arg=⟨[]⟩)\/parts=[arg])(x:aD){n:Nat}(hn:1<=n):
  Ny c s b g n (fD bk nk qR g m parts x s') (iC g m 0 arg b'):=by
 obtain⟨k,A,D,h3,h4⟩:=JO ((wQ m.Tag).1 hm)
 unfold fD iC
 rw [A]
 have d:decide ((0:Int)<k)=true:=by rw [li];omega
 rw [d]
 cases g with
 |false=>
  unfold gn
  simp only [AO,Bool.and_self,gW,xZ]
  exact xE (by decide) hf
 |true=>
  simp only [oI,Bool.and_false,jS,ii,gW]
  have hk3:(if decide ((0:Int)<(parts.length:Int))=true then(fg parts (0:Int)).bind fun e2=>em bk s' (jT.mk (⟨k,⟨[]⟩⟩:jT).Tag e2)else em bk s' ⟨k,⟨[]⟩⟩)=em bk s' ⟨k,arg⟩:=by
   rcases hp with⟨rfl,rfl⟩|rfl
   ·rfl
   ·rfl
  rw [hk3]
  rcases TA hc h D h3 h4 ha hn with⟨e,x1,s1,x2,b1,he,g1,g2,g3⟩|⟨t,s1,b1,g1,g2,g3,g4,g5,g6,g7,g8⟩
  ·exact .inl ⟨e,x1,s1,x2,b1,he,g1,g2,hf.trans g3⟩
  ·exact .inr ⟨t,s1,b1,g1,g2,g3,g4,g5,hf.trans g6,fun e=>(by cases e),g8⟩
def NW{c:aq}(hc:nH c)(a:Bt):a.wf-> ∀(P R N:List cj) (fu fu2:Nat) (s:ac) (b:au) (g:Bool),N=P++a.flat P.length++R->a.size<=fu->a.size<=fu2->N.length<=1000->a.size<=300->rD c s b->
  Ny c s b g a.size (cT fu s N (((P.length+a.size:Nat):Int)-1) g) (dT fu2 b N (((P.length+a.size:Nat):Int)-1) g):=by
 induction a with
 |lf n=>
  intro⟨A,D,h3,h4⟩ P R N fu fu2 s b g hN hf hf2 hl hs h
  simp only [Bt.size]at hf hf2 ⊢
  obtain⟨fu,rfl⟩: ∃k,fu=k+1:=⟨fu-1,by omega⟩
  obtain⟨fu2,rfl⟩: ∃k,fu2=k+1:=⟨fu2-1,by omega⟩
  have V:N[P.length]? =some n:=by
   have:=Hv (a:=[]) (m:=putA n (-1) (-1)) (by simpa [Bt.flat] using hN)
   rw [pB,Dc]at this
   rw [this]
   cases n;simp only at h3 h4;subst h3 h4;rfl
  unfold cT dT bG bQ
  rw [gY P.length (by omega),V,aP,aP]
  have M:n.Tag=1\/n.Tag=2\/n.Tag=3:=by
   unfold Ou at A
   split at A
   ·omega
   ·split at A
    ·cases A
    ·split at A<;>cases A
  rcases M with M|M|M
  ·-- a literal
   have hv:=Rl D M
   rw [bD (by simpa using M),bD (by simpa using M),show(⟨1,0,0,0,n.Value⟩:ap)=QA n.Value from rfl,BC _ (xl (show pk 1=some 0 from rfl) (Ef hv)),ue,aP,aP]
   exact .inr ⟨MG (QA n.Value),s,b,rfl,rfl,za (show pk 1=some 0 from rfl) (Ef hv),eO _,h,CN.refl _ _,fun _=>⟨rfl,rfl⟩,QE hv (h.ov4 hc g)⟩
  ·-- a name
   rw [bv (by simp [M]),bD (by simpa using M),bv (by simp [M]),bD (by simpa using M)]
   obtain⟨c1,c2⟩:=h.column hc (⟨n.Table,n.Name⟩:ig)
   simp only at c1 c2
   rw [c1,c2,aP,aP]
   by_cases he:(vI (dH c b.sources b.out.Tables) n.Table n.Name).2=0
   ·obtain⟨k0,k1⟩:=h.colIn n.Table n.Name he
    have hkl:=h.kindsLen hc
    cases g with
    |false=>
     rw [bv (by simp),bv (by simp)]
     have:=JG hc h (g:=false) k0 (by unfold ov;simpa using k1) (by omega) (vI (dH c b.sources b.out.Tables) n.Table n.Name) he ⟨[]⟩ (n:=1) (eO _)
     rw [he]
     exact this
    |true=>
     rw [bD (by simp [he]),bD (by simp [he])]
     have hp:vI (dH c b.sources b.out.Tables) n.Table n.Name=((vI (dH c b.sources b.out.Tables) n.Table n.Name).1,0):=Prod.ext rfl he
     rw [hp]
     exact OO hc h _ (eO _)
   ·rw [bv (by simp [he]),bv (by simp [he])]
    unfold dw gp
    rw [bD (by simpa using he),show(⟨2,0,0,(vI (dH c b.sources b.out.Tables) n.Table n.Name).1,⟨0,0,0,[]⟩⟩:ap)=vJ (vI (dH c b.sources b.out.Tables) n.Table n.Name).1 from rfl,ue,aP]
    exact xE he (CN.refl _ _)
  ·-- all that there are
   have hag:ul n.Tag=true:=by rw [M];rfl
   rw [bv (by simp [M]),bv (by simp [M]),bv (by simp [M]),bv (by simp [M]),show jW n.Tag=some (ul n.Tag)from rfl,hag,aP,bD rfl]
   unfold dv
   rw [h3,h4,K9,aP,bD (by decide),bv (by decide)]
   exact Nx hc h (CN.refl _ _) hag (by show 0<=50000;omega) (.inl ⟨rfl,rfl⟩) _ (eO _)
 |un n a ih=>
  intro⟨⟨A,D,h3,h4⟩,ha⟩ P R N fu fu2 s b g hN hf hf2 hl hs h
  obtain⟨m,hm⟩: ∃m,m=putA n (((P.length+a.size:Nat):Int)-1) (-1):=⟨_,rfl⟩
  simp only [Bt.flat,<-hm]at hN
  simp only [Bt.size]at hf hf2 hs ⊢
  have hpos:=a.size_pos
  obtain⟨fu,rfl⟩: ∃k,fu=k+1:=⟨fu-1,by omega⟩
  obtain⟨fu2,rfl⟩: ∃k,fu2=k+1:=⟨fu2-1,by omega⟩
  have V:N[P.length+a.size]? =some m:=by
   have:=Hv (a:=a.flat P.length) (m:=m) hN
   rw [a.flat_len]at this
   exact this
  have hi:=ih ha P ([m]++R) N fu fu2
  have hNa:N=P++a.flat P.length++([m]++R):=by rw [hN];simp only [fk]
  have eT:m.Tag=n.Tag:=by rw [hm];rfl
  have eL:m.L=((P.length+a.size:Nat):Int)-1:=by rw [hm];rfl
  have eR:m.R= -1:=by rw [hm];rfl
  have t1: ¬n.Tag=1:=fun e=>by rw [e]at A;cases A
  have t2: ¬n.Tag=2:=fun e=>by rw [e]at A;cases A
  unfold cT dT bG bQ
  rw [gY (P.length+a.size) (by omega),V,aP,aP,bv (by simpa [eT] using t1),bv (by simpa [eT] using t2),bv (by simpa [eT] using t1),bv (by simpa [eT] using t2),show jW m.Tag=some (ul m.Tag)from rfl,aP]
  have dL:decide (m.L<(0:Int))=false:=by rw [eL,nl];omega
  have dL2:decide ((0:Int)<=m.L)=true:=by rw [eL,li];omega
  have dR:decide (m.R<(0:Int))=true:=by rw [eR];rfl
  have dR2:decide ((0:Int)<=m.R)=false:=by rw [eR];rfl
  unfold dv
  rw [K9,aP,dL]
  simp only [jS,ii]
  cases hag:ul m.Tag with
  |true=>
   obtain⟨k,k1,k2,k3,k4⟩:=JO ((wQ m.Tag).1 hag)
   have kz:(k==(0:Int))=false:=by rw [Ig];omega
   rw [bD rfl,dL2,bD rfl,k1,kz,Bool.and_false,eL]
   rcases hi s b false hNa (by omega) (by omega) hl (by omega) h with⟨e,x,s',x',b',he,g1,g2,g3⟩|⟨t,s',b',g1,g2,g3,g4,g5,g6,g7,g8⟩
   ·rw [show bG fu s ⟨N⟩ bk nk qR (((P.length+a.size:Nat):Int)-1) false=_ from g1,show bQ fu2 b ⟨N⟩ (((P.length+a.size:Nat):Int)-1) false=_ from g2,aP,aP,bD (by simpa using he)]
    unfold iC gn
    have hz:(e==(0:Int))=false:=by rw [Ig];exact he
    simp only [hz,Bool.false_and,jS,ii]
    rw [bD (by simpa using he)]
    exact xE he g3
   ·rw [show bG fu s ⟨N⟩ bk nk qR (((P.length+a.size:Nat):Int)-1) false=_ from g1,show bQ fu2 b ⟨N⟩ (((P.length+a.size:Nat):Int)-1) false=_ from g2,aP,aP,bv (show¬((0:Int) !=0)=true by decide),cG (by simp),aP]
    unfold dv
    rw [K8,aP,dR,bD rfl]
    exact Nx hc g5 g6 hag (by show(t.flat 0).length<=50000;rw [t.flat_len];omega) (.inr rfl) _ (by omega)
  |false=>
   have hz:=GI hag
   have hpk:pk m.Tag=some 1:=Ot (by rw [eT];exact A) hag
   rw [bv (by decide),hz,xZ,Bool.and_true,eL]
   rcases hi s b g hNa (by omega) (by omega) hl (by omega) h with⟨e,x,s',x',b',he,g1,g2,g3⟩|⟨t,s',b',g1,g2,g3,g4,g5,g6,g7,g8⟩
   ·rw [show bG fu s ⟨N⟩ bk nk qR (((P.length+a.size:Nat):Int)-1) g=_ from g1,show bQ fu2 b ⟨N⟩ (((P.length+a.size:Nat):Int)-1) g=_ from g2,aP,aP,bD (by simpa using he),bD (by simpa using he)]
    exact xE he g3
   ·rw [show bG fu s ⟨N⟩ bk nk qR (((P.length+a.size:Nat):Int)-1) g=_ from g1,show bQ fu2 b ⟨N⟩ (((P.length+a.size:Nat):Int)-1) g=_ from g2,aP,aP,bv (show¬((0:Int) !=0)=true by decide),bv (show¬((0:Int) !=0)=true by decide),cG (by simp),aP]
    unfold dv
    rw [K8,aP,dR,bD rfl,dR2]
    simp only [jS,ii]
    rw [Mu m.Tag (by omega),aP]
    unfold fD
    rw [hz]
    have e1:fg ([]++[(⟨t.flat 0⟩:aD)]) (0:Int)=some ⟨t.flat 0⟩:=rfl
    rw [bv (by simp),bv (by simp),e1,aP,Qq hpk g3 (by omega),aP,bv (by simp)]
    exact Jx hc g5 g6 g7 (TP hpk g3) (by simp only [Tr.size];omega) (by simp only [Tr.size];omega) _
 |bi n a d iha ihb=>
  intro⟨⟨A,D,h3,h4⟩,ha,H⟩ P R N fu fu2 s b g hN hf hf2 hl hs h
  obtain⟨m,hm⟩: ∃m,m=putA n (((P.length+a.size:Nat):Int)-1) (((P.length+a.size+d.size:Nat):Int)-1):=⟨_,rfl⟩
  simp only [Bt.flat,<-hm]at hN
  simp only [Bt.size]at hf hf2 hs ⊢
  have hap:=a.size_pos
  have hbp:=d.size_pos
  obtain⟨fu,rfl⟩: ∃k,fu=k+1:=⟨fu-1,by omega⟩
  obtain⟨fu2,rfl⟩: ∃k,fu2=k+1:=⟨fu2-1,by omega⟩
  have V:N[P.length+(a.size+d.size)]? =some m:=by
   have:=Hv (a:=a.flat P.length++d.flat (P.length+a.size)) (m:=m) hN
   rw [mV,a.flat_len,d.flat_len]at this
   exact this
  have hNa:N=P++a.flat P.length++(d.flat (P.length+a.size)++[m]++R):=by rw [hN];simp only [fk]
  have hNb:N=(P++a.flat P.length)++d.flat (P++a.flat P.length).length++([m]++R):=by rw [hN];simp only [fk,mV,a.flat_len]
  have hi1:=fun s b=>iha ha P _ N fu fu2 s b g hNa (by omega) (by omega) hl (by omega)
  have hi2:=fun s b=>ihb H (P++a.flat P.length) _ N fu fu2 s b g hNb (by omega) (by omega) hl (by omega)
  rw [mV,a.flat_len]at hi2
  have eT:m.Tag=n.Tag:=by rw [hm];rfl
  have eL:m.L=((P.length+a.size:Nat):Int)-1:=by rw [hm];rfl
  have eR:m.R=((P.length+a.size+d.size:Nat):Int)-1:=by rw [hm];rfl
  have t1: ¬n.Tag=1:=fun e=>by rw [e]at A;cases A
  have t2: ¬n.Tag=2:=fun e=>by rw [e]at A;cases A
  obtain⟨hpk,hag0⟩:=Oq A
  have hag:ul m.Tag=false:=by rw [eT];exact hag0
  have hpk' :pk m.Tag=some 2:=by rw [eT];exact hpk
  unfold cT dT bG bQ
  rw [gY (P.length+(a.size+d.size)) (by omega),V,aP,aP,bv (by simpa [eT] using t1),bv (by simpa [eT] using t2),bv (by simpa [eT] using t1),bv (by simpa [eT] using t2),show jW m.Tag=some (ul m.Tag)from rfl,aP]
  have dL:decide (m.L<(0:Int))=false:=by rw [eL,nl];omega
  have dR:decide (m.R<(0:Int))=false:=by rw [eR,nl];omega
  have dR2:decide ((0:Int)<=m.R)=true:=by rw [eR,li];omega
  unfold dv
  rw [K9,aP,dL]
  simp only [jS,ii]
  have hz:=GI hag
  rw [hag,bv (by decide),hz,xZ,Bool.and_true,eL]
  rcases hi1 s b h with⟨e,x,s',x',b',he,g1,g2,g3⟩|⟨t,s',b',g1,g2,g3,g4,g5,g6,g7,g8⟩
  ·rw [show bG fu s ⟨N⟩ bk nk qR (((P.length+a.size:Nat):Int)-1) g=_ from g1,show bQ fu2 b ⟨N⟩ (((P.length+a.size:Nat):Int)-1) g=_ from g2,aP,aP,bD (by simpa using he),bD (by simpa using he)]
   exact xE he g3
  ·rw [show bG fu s ⟨N⟩ bk nk qR (((P.length+a.size:Nat):Int)-1) g=_ from g1,show bQ fu2 b ⟨N⟩ (((P.length+a.size:Nat):Int)-1) g=_ from g2,aP,aP,bv (show¬((0:Int) !=0)=true by decide),bv (show¬((0:Int) !=0)=true by decide),cG (by simp),aP]
   unfold dv
   rw [K8,aP,dR,dR2]
   simp only [jS,ii,gW]
   rw [Mu m.Tag (by omega),aP,hz,xZ,Bool.and_true,eR]
   rcases hi2 s' b' g5 with⟨e,x,s2,x2,b2,he,k1,k2,k3⟩|⟨u,s2,b2,k1,k2,k3,k4,k5,k6,k7,k8⟩
   ·rw [show bG fu s' ⟨N⟩ bk nk qR (((P.length+a.size+d.size:Nat):Int)-1) g=_ from k1,show bQ fu2 b' ⟨N⟩ (((P.length+a.size+d.size:Nat):Int)-1) g=_ from k2,aP,aP,bD (by simpa using he),bD (by simpa using he)]
    exact xE he (g6.trans k3)
   ·rw [show bG fu s' ⟨N⟩ bk nk qR (((P.length+a.size+d.size:Nat):Int)-1) g=_ from k1,show bQ fu2 b' ⟨N⟩ (((P.length+a.size+d.size:Nat):Int)-1) g=_ from k2,aP,aP,bv (show¬((0:Int) !=0)=true by decide),bv (show¬((0:Int) !=0)=true by decide),cG (by simp),aP]
    unfold dv
    rw [R1 m.Tag (by omega) (by omega),aP]
    unfold fD
    rw [hz]
    have e1:fg ([]++[(⟨t.flat 0⟩:aD)]++[(⟨u.flat 0⟩:aD)]) (0:Int)=some ⟨t.flat 0⟩:=rfl
    have e2:fg ([]++[(⟨t.flat 0⟩:aD)]++[(⟨u.flat 0⟩:aD)]) (1:Int)=some ⟨u.flat 0⟩:=rfl
    rw [bv (by simp),bv (by simp),e1,aP,Mw m.Tag g3 (by omega),aP,bD (by simp),e2,aP,PK hpk' g3 k3 (by omega),aP]
    refine Jx hc k5 (g6.trans k6) (fun hg=>?_) (Um hpk' g3 k3) (by simp only [Tr.size];omega) (by simp only [Tr.size];omega) _
    obtain⟨q1,q2⟩:=g7 hg
    obtain⟨q3,q4⟩:=k7 hg
    exact⟨q3.trans q1,q4.trans q2⟩
end Go.Proofs.YthbdkceckjihgaaGreatDoor


/- cu of this claim: B14. -/
set_option linter.all false
namespace Go.Proofs.YthbdkceckjihgaaGreatDoor
open Go

def ES{c:aq}(hc:nH c){s:ac}{b:au}(h:rD c s b)(t:ce)(M:jD t.Nodes=true)(g:Bool):
  (∃(e:Int) (s' :ac) (b' :au),e≠0/\jY s t g=some (⟨[]⟩,0,e,s')/\jG b t g=some (⟨[]⟩,e,b')/\CN s s' b b')\/
  (∃(u:Tr) (s' :ac) (b' :au),jY s t g=some (⟨u.flat 0⟩,(fe ⟨u.flat 0⟩ (ov s' g)).1,0,s')/\jG b t g=some (⟨u.flat 0⟩,0,b')/\u.wf/\u.size<=300/\rD c s' b' /\CN s s' b b' /\(g=false->s' =s/\b' =b)/\(fe ⟨u.flat 0⟩ (ov s' g)).2=0):=by
 unfold jD at M
 cases hA:yf t.Nodes with
 |none=>rw [hA]at M;cases M
 |some a=>
  obtain⟨hw,hN,hs,_⟩:=uu hA
  have hlen:t.Nodes.length=a.size:=by rw [hN,a.flat_len]
  have hp:=a.size_pos
  have key:=NW hc a hw [] [] t.Nodes gx gx s b g (by simpa using hN) (xn (by omega)) (xn (by omega)) (by omega) hs h
  simp only [pB,pz,<-hlen]at key
  have hpl:IntKind.i64.wrap ((t.Nodes.length:Int)-1)=(t.Nodes.length:Int)-1:=cV (by omega) (by omega)
  unfold jY jG sK pl
  rw [yz,aP,hpl]
  rcases key with⟨e,x,s',x',b',he,g1,g2,g3⟩|⟨u,s',b',g1,g2,g3,g4,g5,g6,g7,g8⟩
  ·have g1' :bG gx s t bk nk qR ((t.Nodes.length:Int)-1) g=some (x,e,s'):=g1
   have g2' :bQ gx b t ((t.Nodes.length:Int)-1) g=some (x',e,b'):=g2
   rw [show(bG gx s t bk nk (fun(mc:ac) (mx:Bool)=>(eZ mc mx).map fun mr=>(mr,mc)) ((t.Nodes.length:Int)-1) g)=_ from g1',g2',aP,aP,bD (by simpa using he),bD (by simpa using he)]
   exact .inl ⟨e,s',b',he,rfl,rfl,g3⟩
  ·have g1' :bG gx s t bk nk qR ((t.Nodes.length:Int)-1) g=some (⟨u.flat 0⟩,0,s'):=g1
   have g2' :bQ gx b t ((t.Nodes.length:Int)-1) g=some (⟨u.flat 0⟩,0,b'):=g2
   rw [show(bG gx s t bk nk (fun(mc:ac) (mx:Bool)=>(eZ mc mx).map fun mr=>(mr,mc)) ((t.Nodes.length:Int)-1) g)=_ from g1',g2',aP,aP,bv (by simp),bv (by simp)]
   have hov:(eZ s' g).map (fun mr=>(mr,s'))=some (ov s' g,s'):=I0 s' g
   simp only
   rw [hov,aP,rp _ _ (by show(u.flat 0).length<=50000;rw [u.flat_len];omega),aP]
   exact .inr ⟨u,s',b',by rw [g8],rfl,g3,by omega,g5,g6,g7,g8⟩
def yN{c:aq}(hc:nH c){s:ac}{b:au}(h:rD c s b)(t:ce)(M:jD t.Nodes=true)(g:Bool):
  (∃(e:Int) (x x' :aD) (s' :ac) (b' :au),e≠0/\ef s t g=some (x,e,s')/\hZ b t g=some (x',e,b')/\CN s s' b b')\/
  (∃(u:Tr) (s' :ac) (b' :au),ef s t g=some (⟨u.flat 0⟩,0,s')/\hZ b t g=some (⟨u.flat 0⟩,0,b')/\u.wf/\u.size<=300/\rD c s' b' /\CN s s' b b' /\(g=false->s' =s/\b' =b)/\(fe ⟨u.flat 0⟩ (ov s' g)).2=0/\((fe ⟨u.flat 0⟩ (ov s' g)).1=1\/(fe ⟨u.flat 0⟩ (ov s' g)).1=0)):=by
 unfold ef hZ kD
 rcases ES hc h t M g with⟨e,s',b',he,g1,g2,g3⟩|⟨u,s',b',g1,g2,g3,g4,g5,g6,g7,g8⟩
 ·rw [g1,g2,aP,aP,bv (by simp [he]),bD (by simpa using he)]
  exact .inl ⟨e,_,_,s',b',he,rfl,rfl,g3⟩
 ·rw [g1,g2,aP,aP]
  have hd:(jr b'.c b'.out.Tables).bind (fun r1=>if g=true then(jx b'.c b'.out).bind fun r3=>fY (⟨u.flat 0⟩,0,b') r3 else fY (⟨u.flat 0⟩,0,b') r1)=fY (⟨u.flat 0⟩,0,b') (ov s' g):=by
   rw [g5.refKinds hc,aP]
   unfold ov
   cases g with
   |true=>rw [bD rfl,g5.refGroups hc,aP];rfl
   |false=>rfl
  simp only [bne_self_eq_false,jS,ii]
  rw [hd]
  unfold fY
  rw [nB,aP]
  by_cases hk:(fe ⟨u.flat 0⟩ (ov s' g)).1=1\/(fe ⟨u.flat 0⟩ (ov s' g)).1=0
  ·rw [bv (by simp;omega),bv (by simp;omega)]
   exact .inr ⟨u,s',b',rfl,rfl,g3,g4,g5,g6,g7,g8,hk⟩
  ·rw [bD (by simp;omega),bD (by simp;omega)]
   exact .inl ⟨226,_,_,s',b',by decide,rfl,rfl,g6⟩
def rD.upd{c:aq}{s:ac}{b:au}(h:rD c s b)(o:aS)(A:o.Tables=b.out.Tables)(D:o.Keys=b.out.Keys)(h3:o.Aggs=b.out.Aggs)(f:al)(a:Int):rD c {s with out:=o,from_:=f,at_:=a} {b with out:=o}:=by
 refine⟨h.cat,h.bc,rfl,?_,?_,?_,?_,?_,?_,?_,?_,?_,?_,?_⟩
 all_goals simp only
 ·rw [A];exact h.kinds
 ·rw [A];exact h.len
 ·rw [A];exact h.bad
 ·rw [A];exact h.few
 ·rw [A];exact⟨h.maps.called,h.maps.alone,h.maps.behind,h.maps.once⟩
 ·rw [D,h3];exact h.groups
 ·rw [D];exact h.keys
 ·rw [D];exact h.keysLen
 ·rw [h3];exact h.aggsLen
 ·rw [h3];exact h.aggsOnce
 ·rw [h3];exact h.aggsOk
def HA{tD hb:List Int}: ∀t:Tr,t.wf->EN tD.length t->kd (tD++hb) t=kd tD t
 | .lf n,hw,hc=>by
  unfold kd
  by_cases A:n.Tag=1
  ·rw [bD A,bD A]
  ·have D:n.Tag=2:=by
    rcases Yk hw.1 with h|h
    ·exact absurd h A
    ·exact h
   have H:=VQ hw.2.1 D
   have hlt:n.Col<(tD.length:Int):=hc D
   rw [bv A,bv A,zG (by omega)]
 | .un n a,hw,hc=>by
  rw [Jf,Jf,HA a hw.2 hc]
 | .bi n a b,hw,hc=>by
  rw [Gk,Gk,HA a hw.2.1 hc.1,HA b hw.2.2 hc.2]
def LE{tD hb:List Int}{ns:List ap}(h:lH tD.length ns=true):lH (tD++hb).length ns=true:=by
 unfold lH at h ⊢
 rw [mo]at h ⊢
 intro n hn
 have:=h n hn
 simp only [vO,Bool.and_eq_false_iff,nl,mV]at this ⊢
 rcases this with h|h
 ·exact .inl h
 ·exact .inr (by omega)
def OK{t:Tr}(hw:t.wf)(hs:t.size<=1000){tD L:List Int}(hp:tD<+:L)(hL: ∀k∈L,k4 k)(h0:(fe ⟨t.flat 0⟩ tD).2=0):fe ⟨t.flat 0⟩ L=fe ⟨t.flat 0⟩ tD:=by
 obtain⟨hb,rfl⟩:=hp
 have hK: ∀k∈tD,k4 k:=fun k hk=>hL k (Da _ hk)
 rw [sd hw hs hK]at h0
 have hc:lH tD.length (t.flat 0)=true:=by
  cases hc:lH tD.length (t.flat 0)with
  |true=>rfl
  |false=>rw [hc]at h0;simp at h0
 rw [sd hw hs hK,sd hw hs hL,bD hc,bD (LE hc),HA t hw (wL _ t hw 0 hc)]
def G9(e:aD)(tD:List Int):Prop:=e.Nodes≠[]/\e.Nodes.length<=1000/\(fe e tD).2=0/\((fe e tD).1=1\/(fe e tD).1=0)
def Yg(e:aD)(tD:List Int):Prop:=e.Nodes=[]\/G9 e tD
def G8{u:Tr}(hs:u.size<=300){tD:List Int}(A:(fe ⟨u.flat 0⟩ tD).2=0)(D:(fe ⟨u.flat 0⟩ tD).1=1\/(fe ⟨u.flat 0⟩ tD).1=0):G9 ⟨u.flat 0⟩ tD:=by
 have hl:=u.flat_len 0
 refine⟨fun h=>?_,?_,A,D⟩
 ·have h' :u.flat 0=[]:=h
  have:=u.size_pos
  rw [h']at hl;simp at hl;omega
 ·show(u.flat 0).length<=1000;omega
structure TK(c:aq)(o:aS):Prop where
 joinsLen:o.Joins.length+1=o.Tables.length
 joins: ∀(i:Nat) (j:mU),o.Joins[i]? =some j->G9 j.On (f7 c (o.Tables.take (i+2)))
 cond:Yg o.Where (f7 c o.Tables)
def TK.upd{c:aq}{o p:aS}(h:TK c o)(A:p.Joins=o.Joins)(D:p.Tables=o.Tables)(h3:p.Where=o.Where):TK c p:=
 ⟨by rw [A,D];exact h.joinsLen,fun i j hj=>by rw [D];exact h.joins i j (A▸hj),by rw [D,h3];exact h.cond⟩
def TK.join{c:aq}{o p:aS}{k:Int}{j:mU}(h:TK c o)(A:p.Joins=o.Joins++[j])(D:p.Tables=o.Tables++[k])(h3:p.Where=⟨[]⟩)(hj:G9 j.On (f7 c p.Tables)):TK c p:=by
 have hl:=h.joinsLen
 refine⟨by rw [A,D];simp;omega,fun i y hy=>?_,by rw [h3];exact .inl rfl⟩
 rw [A]at hy
 by_cases hi:i<o.Joins.length
 ·rw [zG hi]at hy
  have:=h.joins i y hy
  rw [D,vF (by omega)]
  exact this
 ·rw [tX (by omega)]at hy
  have hi2:i-o.Joins.length=0:=by
   cases V:i-o.Joins.length with
   |zero=>rfl
   |succ n=>rw [V]at hy;simp at hy
  rw [hi2]at hy
  simp only [FO,C9]at hy
  subst hy
  rw [nv (by rw [D];simp;omega)]
  exact hj
structure From(c:aq)(s:ac)(b:au):Prop where
 rel:rD c s b
 keys:b.out.Keys=[]
 aggs:b.out.Aggs=[]
 items:b.out.Items=[]
 fro:TK c b.out
 hav:b.out.Having=⟨[]⟩
def Ei{c:aq}(hc:nH c)(S:al): ∀(l:List kw) (s:ac) (b:au),From c s b->b.sources.length+l.length<=3->b.out.Joins.length+l.length<=1000->l.all yu=true->b.out.Where=⟨[]⟩->
  (∃(e:Int) (s' :ac) (b' :au),e≠0/\gP l s=some (e,s')/\cQ S l b=some (1,e,b')/\s'.at_=s.at_)\/
  (∃(s' :ac) (b' :au),gP l s=some (0,s')/\cQ S l b=cQ S [] b' /\From c s' b' /\s'.at_=s.at_/\s'.from_=s.from_)
 |[],s,b,h,_,_,_,_=> .inr ⟨s,b,rfl,rfl,h,rfl,rfl⟩
 |j::l,s,b,h,hl,hl2,hj,hwe=>by
  simp only [gz]at hl hl2
  simp only [qk,gU]at hj
  have hj1:jD j.On.Nodes=true:=by
   have:=hj.1
   unfold yu at this
   simp only [gU]at this
   exact this.1
  unfold gP
  conv=>enter [1,1,e,1,s',1,b',2,2,1];unfold cQ
  conv=>enter [2,1,s',1,b',2,1];lhs;unfold cQ
  rcases BV hc h.rel (by omega) h.keys h.aggs j.Source with⟨e,he,g1,g2⟩|⟨s1,b1,k,g1,g2,g3,g4,g5,g6⟩
  ·rw [g1,g2,aP,aP,bD (by simpa using he),bD (by simpa using he)]
   exact .inl ⟨e,s,b,he,rfl,rfl,rfl⟩
  ·rw [g1,g2,aP,aP,bv (by simp),bv (by simp)]
   rcases yN hc g3 j.On hj1 false with⟨e,x,x',s2,b2,he,k1,k2,k3⟩|⟨u,s2,b2,k1,k2,k3,k4,k5,k6,k7,k8,k9⟩
   ·rw [k1,k2,aP,aP,bD (by simpa using he),bD (by simpa using he)]
    exact .inl ⟨e,s2,b2,he,rfl,rfl,by rw [k3.1];exact g5⟩
   ·obtain⟨rfl,rfl⟩:=k7 rfl
    rw [k1,k2,aP,aP,bv (by simp),bv (by simp)]
    have ho:=g3.out
    have hJ:b2.out.Joins=b.out.Joins:=by rw [g6]
    rw [cG (by rw [ho,hJ];simp;omega),aP,cG (by rw [hJ];simp;omega),aP]
    have hR:From c {s2 with out:={s2.out with Joins:=s2.out.Joins++[(⟨j.Left,⟨u.flat 0⟩⟩:mU)]}} {b2 with out:={b2.out with Joins:=b2.out.Joins++[(⟨j.Left,⟨u.flat 0⟩⟩:mU)]}}:=by
     rw [ho]
     refine⟨g3.upd {b2.out with Joins:=b2.out.Joins++[(⟨j.Left,⟨u.flat 0⟩⟩:mU)]} rfl rfl rfl s2.from_ s2.at_,?_,?_,?_,?_,?_⟩
     ·show b2.out.Keys=[];rw [g6];exact h.keys
     ·show b2.out.Aggs=[];rw [g6];exact h.aggs
     ·show b2.out.Items=[];rw [g6];exact h.items
     ·refine h.fro.join (k:=k) (j:=(⟨j.Left,⟨u.flat 0⟩⟩:mU)) ?_ ?_ ?_ ?_
      ·show b2.out.Joins++_=_;rw [hJ]
      ·show b2.out.Tables=_;rw [g6]
      ·show b2.out.Where=_;rw [g6];exact hwe
      ·show G9 ⟨u.flat 0⟩ (f7 c b2.out.Tables)
       rw [<-g3.kinds]
       exact G8 k4 k8 k9
     ·show b2.out.Having=_;rw [g6];exact h.hav
    have hsl:b2.sources.length=b.sources.length+1:=by rw [g6];simp
    rcases Ei hc S l _ _ hR (by show b2.sources.length+l.length<=3;omega) (by show(b2.out.Joins++_).length+l.length<=1000;rw [hJ];simp;omega) hj.2 (by show b2.out.Where=_;rw [g6];exact hwe)with⟨e,s',b',he,q1,q2,q3⟩|⟨s',b',q1,q2,q3,q4,q5⟩
    ·exact .inl ⟨e,s',b',he,q1,q2,by rw [q3];exact g5⟩
    ·exact .inr ⟨s',b',q1,q2,q3,by rw [q4];exact g5,by rw [q5];exact g4⟩
end Go.Proofs.YthbdkceckjihgaaGreatDoor


/- cu of this claim: B15. -/
set_option linter.all false
namespace Go.Proofs.YthbdkceckjihgaaGreatDoor
open Go

def RD(c:aq)(at_:Int)(f:al)(P:ac->au->Prop)(C:Option (Int×ac))(h2:Option (Int×Int×au)):Prop:=
 (∃(e:Int) (s' :ac) (b' :au),e≠0/\C=some (e,s')/\h2=some (at_,e,b')/\s'.at_=at_)\/
 (∃(s' :ac) (b' :au),C=some (0,s')/\h2=some (0,0,b')/\rD c s' b' /\s'.from_=f/\P s' b')
def Ki{c:aq}(hc:nH c){s:ac}{b:au}(h:From c s b)(S:al)(hS:s.from_=S)(hw:mf S.Where=true):
  (∃(e:Int) (s' :ac) (b' :au),e≠0/\fL s=some (e,s')/\cQ S [] b=some (2,e,b')/\s'.at_=2)\/
  (∃(s' :ac) (b' :au),fL s=some (0,s')/\cQ S [] b=iD S.Group b' /\From c s' b' /\s'.from_=S):=by
 have D:From c {s with at_:=2} b:=⟨by
  have:=h.rel.upd b.out rfl rfl rfl s.from_ 2
  rw [<-h.rel.out]at this
  have e:({b with out:=s.out}:au)=b:=by rw [h.rel.out]
  rw [e]at this
  exact this,h.keys,h.aggs,h.items,h.fro,h.hav⟩
 subst hS
 unfold fL cQ
 dsimp only
 by_cases hl:s.from_.Where.Nodes.length=0
 ·rw [bv (by rw [li];omega),bv (by rw [li];omega)]
  exact .inr ⟨_,b,rfl,rfl,D,rfl⟩
 ·have M:jD s.from_.Where.Nodes=true:=by
   unfold mf at hw
   simpa [hl] using hw
  rw [bD (by rw [li];omega),bD (by rw [li];omega)]
  rcases yN hc D.rel s.from_.Where M false with⟨e,x,x',s2,b2,he,k1,k2,k3⟩|⟨u,s2,b2,k1,k2,k3,k4,k5,k6,k7,k8,k9⟩
  ·rw [show ef ({s with at_:=2}:ac) s.from_.Where false=_ from k1,k2,aP,aP,bD (by simpa using he)]
   exact .inl ⟨e,_,b2,he,rfl,rfl,by show s2.at_=2;rw [k3.1]⟩
  ·obtain⟨q1,q2⟩:=k7 rfl
   rw [show ef ({s with at_:=2}:ac) s.from_.Where false=_ from k1,k2,aP,aP,bv (by simp)]
   refine .inr ⟨_,{b2 with out:={b2.out with Where:=⟨u.flat 0⟩}},rfl,rfl,⟨?_,?_,?_,?_,?_,?_⟩,?_⟩
   ·have:=k5.upd {b2.out with Where:=⟨u.flat 0⟩} rfl rfl rfl s2.from_ s2.at_
    rw [<-k5.out]at this ⊢
    exact this
   ·show b2.out.Keys=[];rw [q2];exact h.keys
   ·show b2.out.Aggs=[];rw [q2];exact h.aggs
   ·show b2.out.Items=[];rw [q2];exact h.items
   ·refine⟨?_,?_,.inr ?_⟩
    ·show b2.out.Joins.length+1=b2.out.Tables.length;rw [q2];exact h.fro.joinsLen
    ·intro i j hj
     have hj' :b2.out.Joins[i]? =some j:=hj
     show G9 j.On (f7 c (b2.out.Tables.take (i+2)))
     rw [q2]at hj' ⊢
     exact h.fro.joins i j hj'
    ·show G9 ⟨u.flat 0⟩ (f7 c b2.out.Tables)
     rw [<-k5.kinds]
     exact G8 k4 k8 k9
   ·show b2.out.Having=_;rw [q2];exact h.hav
   ·show s2.from_=s.from_;rw [q1]
def Em{c:aq}(hc:nH c): ∀(l:List ig) (s:ac) (b:au),rD c s b->b.out.Aggs=[]->b.out.Items=[]->b.out.Keys.length+l.length<=3->s.at_=3->
  RD c 3 s.from_ (fun _ b' =>b'.out={b.out with Keys:=b'.out.Keys}/\b'.out.Keys.length=b.out.Keys.length+l.length/\b'.out.Aggs=[]/\b'.out.Items=[]) (jj l s) (iD l b)
 |[],s,b,h,ha,hi,_,hat=> .inr ⟨s,b,rfl,rfl,h,rfl,rfl,rfl,ha,hi⟩
 |n::l,s,b,h,ha,hi,hk,hat=>by
  simp only [gz]at hk
  obtain⟨c1,c2⟩:=h.column hc n
  unfold jj iD
  rw [c1,c2,aP,aP]
  by_cases he:(vI (dH c b.sources b.out.Tables) n.Table n.Name).2=0
  ·obtain⟨k0,k1⟩:=h.colIn n.Table n.Name he
   generalize hcol:(vI (dH c b.sources b.out.Tables) n.Table n.Name).1=k at k0 k1
   rw [bv (by simp [he]),bv (by simp [he]),h.out,cG (by simp;omega),aP,aP]
   have hlt:k.toNat<s.kinds.length:=by omega
   have V:fg s.kinds k=some ((s.kinds[k.toNat]?).getD 0):=by
    unfold fg
    rw [bD k0,jA hlt];rfl
   have hgl:=h.groupsLen
   rw [ha,pB]at hgl
   rw [V,aP,cG (by simp;omega),aP]
   have hR:rD c {s with out:={b.out with Keys:=b.out.Keys++[k]},groups:=s.groups++[(s.kinds[k.toNat]?).getD 0]} {b with out:={b.out with Keys:=b.out.Keys++[k]}}:=by
    refine⟨h.cat,h.bc,rfl,h.kinds,h.len,h.bad,h.few,⟨h.maps.called,h.maps.alone,h.maps.behind,h.maps.once⟩,?_,?_,?_,h.aggsLen,h.aggsOnce,h.aggsOk⟩
    ·simp only
     rw [h.groups,ha]
     simp [uM,Jd]
    ·intro j hj
     rcases xK.1 hj with hj|hj
     ·exact h.keys j hj
     ·rw [xN.1 hj];exact⟨k0,k1⟩
    ·simp only [mV,xO];omega
   rcases Em hc l _ _ hR ha hi (by simp only [mV,xO];omega) hat with A|⟨s',b',g1,g2,g3,g4,g5,g6,g7,g8⟩
   ·exact .inl A
   ·refine .inr ⟨s',b',g1,g2,g3,g4,g5,?_,g7,g8⟩
    rw [g6];simp;omega
  ·rw [bD (by simpa using he),bD (by simpa using he)]
   exact .inl ⟨_,s,b,he,rfl,rfl,hat⟩
structure J7(c:aq)(s:ac)(b:au)(n:Nat)(gr:Bool):Prop where
 rel:rD c s b
 len:b.out.Items.length=n
 good: ∀x∈b.out.Items,∃u:Tr,x=⟨u.flat 0⟩/\u.wf/\u.size<=300/\(fe x (ov s gr)).2=0
 grouped:b.out.Grouped=gr
 fro:TK c b.out
 plain:gr=false->b.out.Keys=[]/\b.out.Aggs=[]
def J7.each{c:aq}{s:ac}{b:au}{n:Nat}{gr:Bool}(h:J7 c s b n gr): ∀x∈b.out.Items,x.Nodes.length<=1000:=fun x V=>by
 obtain⟨u,rfl,_,hs,_⟩:=h.good x V
 show(u.flat 0).length<=1000
 rw [u.flat_len];omega
def Qn{s s' :ac}{b b' :au}(h:CN s s' b b')(g:Bool):ov s g<+:ov s' g:=by
 unfold ov
 cases g with
 |true=>exact h.2.2
 |false=>
  show s.kinds<+:s'.kinds
  rw [h.1]
  exact List.prefix_refl _
def Js{c:aq}(hc:nH c){s s' :ac}{b' :au}(h:rD c s' b'){gr:Bool}(hp:ov s gr<+:ov s' gr){l:List aD}(hg: ∀x∈l,∃u:Tr,x=⟨u.flat 0⟩/\u.wf/\u.size<=300/\(fe x (ov s gr)).2=0): ∀x∈l,∃u:Tr,x=⟨u.flat 0⟩/\u.wf/\u.size<=300/\(fe x (ov s' gr)).2=0:=fun x V=>by
 obtain⟨u,rfl,A,D,h3⟩:=hg x V
 exact⟨u,rfl,A,D,by rw [OK A (by omega) hp (h.ov4 hc gr) h3];exact h3⟩
def Jn{c:aq}(hc:nH c){s:ac}{b:au}{n:Nat}{gr:Bool}(h:J7 c s b n gr)(S:al)(hS:s.from_=S)(hw:mf S.Having=true)(hh:b.out.Having=⟨[]⟩)(hg:gr=false->S.Having.Nodes.length=0):
  RD c 5 S (fun s' b' =>J7 c s' b' n gr/\s'.kinds=s.kinds/\(b'.out.Having.Nodes=[]\/(gr=true/\G9 b'.out.Having (ov s' gr)))) (fW s) (cR S [] b):=by
 have D:rD c {s with at_:=5} b:=by
  have:=h.rel.upd b.out rfl rfl rfl s.from_ 5
  rw [<-h.rel.out]at this
  have e:({b with out:=s.out}:au)=b:=by rw [h.rel.out]
  rw [e]at this
  exact this
 subst hS
 unfold fW cR
 dsimp only
 by_cases hl:s.from_.Having.Nodes.length=0
 ·rw [bv (by rw [li];omega),bv (by rw [li];omega)]
  exact .inr ⟨_,b,rfl,rfl,D,rfl,⟨D,h.len,h.good,h.grouped,h.fro,h.plain⟩,rfl,.inl (by rw [hh])⟩
 ·have hgr:gr=true:=by
   cases V:gr with
   |true=>rfl
   |false=>exact absurd (hg V) hl
  subst hgr
  have M:jD s.from_.Having.Nodes=true:=by
   unfold mf at hw
   simpa [hl] using hw
  rw [bD (by rw [li];omega),bD (by rw [li];omega)]
  rcases yN hc D s.from_.Having M true with⟨e,x,x',s2,b2,he,k1,k2,k3⟩|⟨u,s2,b2,k1,k2,k3,k4,k5,k6,k7,k8,k9⟩
  ·rw [show ef ({s with at_:=5}:ac) s.from_.Having true=_ from k1,k2,aP,aP,bD (by simpa using he)]
   exact .inl ⟨e,_,b2,he,rfl,rfl,by show s2.at_=5;rw [k3.1]⟩
  ·rw [show ef ({s with at_:=5}:ac) s.from_.Having true=_ from k1,k2,aP,aP,bv (by simp)]
   have hR:rD c {s2 with out:={s2.out with Having:=⟨u.flat 0⟩}} {b2 with out:={b2.out with Having:=⟨u.flat 0⟩}}:=by
    have:=k5.upd {b2.out with Having:=⟨u.flat 0⟩} rfl rfl rfl s2.from_ s2.at_
    rw [<-k5.out]at this ⊢
    exact this
   refine .inr ⟨_,{b2 with out:={b2.out with Having:=⟨u.flat 0⟩}},rfl,rfl,hR,?_,⟨hR,?_,?_,?_,?_,fun e=>by cases e⟩,?_,.inr ⟨rfl,G8 k4 k8 k9⟩⟩
   ·show s2.from_=s.from_;rw [k6.1]
   ·show b2.out.Items.length=n;rw [k6.2.1];exact h.len
   ·show∀x∈b2.out.Items,_
    have e:b2.out.Items=b.out.Items:=by rw [k6.2.1]
    rw [e]
    exact Js hc k5 (gr:=true) (Qn k6 true) h.good
   ·show b2.out.Grouped=true;rw [k6.2.1];exact h.grouped
   ·refine h.fro.upd ?_ ?_ ?_
    ·show b2.out.Joins=_;rw [k6.2.1]
    ·show b2.out.Tables=_;rw [k6.2.1]
    ·show b2.out.Where=_;rw [k6.2.1]
   ·show s2.kinds=s.kinds;rw [k6.1]
def Ej{c:aq}(hc:nH c)(S:al): ∀(l:List eh) (s:ac) (b:au) (n:Nat) (gr:Bool),J7 c s b n gr->n+l.length<=1000->l.all sW=true->s.at_=4->
  (∃(e:Int) (s' :ac) (b' :au),e≠0/\gQ l s=some (e,s')/\cR S l b=some (4,e,b')/\s'.at_=4)\/
  (∃(s' :ac) (b' :au),gQ l s=some (0,s')/\cR S l b=cR S [] b' /\J7 c s' b' (n+l.length) gr/\s'.from_=s.from_/\s'.kinds=s.kinds/\b'.out.Having=b.out.Having)
 |[],s,b,n,gr,h,_,_,_=> .inr ⟨s,b,rfl,rfl,h,rfl,rfl,rfl⟩
 |x::l,s,b,n,gr,h,hl,V,hat=>by
  simp only [gz]at hl
  simp only [qk,gU]at V
  have hx1:jD x.Tree.Nodes=true:=by
   have:=V.1
   unfold sW at this
   simp only [gU]at this
   exact this.1
  unfold gQ
  conv=>enter [1,1,e,1,s',1,b',2,2,1];unfold cR
  conv=>enter [2,1,s',1,b',2,1];lhs;unfold cR
  rw [h.rel.out,h.grouped]
  rcases ES hc h.rel x.Tree hx1 gr with⟨e,s2,b2,he,k1,k2,k3⟩|⟨u,s2,b2,k1,k2,k3,k4,k5,k6,k7,k8⟩
  ·rw [k1,k2,aP,aP,bD (by simpa using he),bD (by simpa using he)]
   exact .inl ⟨e,s2,b2,he,rfl,rfl,by rw [k3.1];exact hat⟩
  ·rw [k1,k2,aP,aP,bv (by simp),bv (by simp)]
   have hI:b2.out.Items=b.out.Items:=by rw [k6.2.1]
   have hil:=h.len
   simp only
   rw [k5.out,cG (by rw [hI];simp;omega),aP,aP]
   have hR:J7 c {s2 with out:={b2.out with Items:=b2.out.Items++[(⟨u.flat 0⟩:aD)]}} {b2 with out:={b2.out with Items:=b2.out.Items++[(⟨u.flat 0⟩:aD)]}} (n+1) gr:=by
    refine⟨k5.upd {b2.out with Items:=b2.out.Items++[(⟨u.flat 0⟩:aD)]} rfl rfl rfl s2.from_ s2.at_,?_,?_,?_,?_,?_⟩
    ·show(b2.out.Items++_).length=n+1
     rw [hI];simp;omega
    ·intro y hy
     rcases xK.1 hy with hy|hy
     ·exact Js hc k5 (gr:=gr) (Qn k6 gr) h.good y (hI▸hy)
     ·rw [xN.1 hy]
      exact⟨u,rfl,k3,k4,k8⟩
    ·show b2.out.Grouped=gr;rw [k6.2.1];exact h.grouped
    ·refine h.fro.upd ?_ ?_ ?_
     ·show b2.out.Joins=_;rw [k6.2.1]
     ·show b2.out.Tables=_;rw [k6.2.1]
     ·show b2.out.Where=_;rw [k6.2.1]
    ·intro e
     show b2.out.Keys=[]/\b2.out.Aggs=[]
     rw [(k7 e).2]
     exact h.plain e
   rcases Ej hc S l _ _ (n+1) gr hR (by omega) V.2 (by show s2.at_=4;rw [k6.1];exact hat)with⟨e,s',b',he,q1,q2,q3⟩|⟨s',b',q1,q2,q3,q4,q5,q6⟩
   ·exact .inl ⟨e,s',b',he,q1,q2,q3⟩
   ·refine .inr ⟨s',b',q1,q2,?_,by rw [q4];show s2.from_=s.from_;rw [k6.1],by rw [q5];show s2.kinds=s.kinds;rw [k6.1],by rw [q6];show b2.out.Having=b.out.Having;rw [k6.2.1]⟩
    have e:n+(x::l).length=n+1+l.length:=by simp only [gz];omega
    rw [e];exact q3
end Go.Proofs.YthbdkceckjihgaaGreatDoor


/- cu of this claim: B16. -/
set_option linter.all false
set_option linter.unusedVariables false
namespace Go.Proofs.YthbdkceckjihgaaGreatDoor
open Go

def FV{c:aq}(hc:nH c)(S:al): ∀(l:List Int) (i:Nat) (s:ac) (b:au) (n:Nat),J7 c s b n false->i+l.length<=12->n+l.length<=1000->i+l.length<=s.kinds.length->
  ∃(s' :ac) (b' :au),ji l i s=fU s' /\jP S l i b=fZ S b' /\J7 c s' b' (n+l.length) false/\s'.from_=s.from_/\s'.at_=s.at_/\s'.kinds=s.kinds/\b'.out.Having=b.out.Having
 |[],i,s,b,n,h,_,_,_=>⟨s,b,rfl,rfl,h,rfl,rfl,rfl,rfl⟩
 |x::l,i,s,b,n,h,hi,hn,hk=>by
  simp only [gz]at hi hn hk
  unfold ji
  conv=>enter [1,s',1,b',2,1];lhs;unfold jP
  have hil:=h.len
  have hl:=xl (u5 (i:Int)) (sn (k:=(i:Int)) (by omega) (by omega))
  rw [show(⟨2,0,0,(i:Int),⟨0,0,0,[]⟩⟩:ap)=vJ (i:Int)from rfl,hl,ue,aP,aP,bv (by simp)]
  simp only
  rw [h.rel.out,cG (by simp;omega),aP,aP]
  have hR:J7 c {s with out:={b.out with Items:=b.out.Items++[(⟨(MG (vJ (i:Int))).flat 0⟩:aD)]}} {b with out:={b.out with Items:=b.out.Items++[(⟨(MG (vJ (i:Int))).flat 0⟩:aD)]}} (n+1) false:=by
   refine⟨h.rel.upd {b.out with Items:=b.out.Items++[(⟨(MG (vJ (i:Int))).flat 0⟩:aD)]} rfl rfl rfl s.from_ s.at_,?_,?_,h.grouped,h.fro.upd rfl rfl rfl,h.plain⟩
   ·simp only [mV,xO];omega
   ·intro y hy
    rcases xK.1 hy with hy|hy
    ·exact h.good y hy
    ·rw [xN.1 hy]
     exact⟨MG (vJ (i:Int)),rfl,za (u5 (i:Int)) (sn (by omega) (by omega)),by show 1<=300;omega,Eg (h.rel.ov4 hc false) (by omega) (by show(i:Int)<(s.kinds.length:Int);omega) (by omega)⟩
  obtain⟨s',b',q1,q2,q3,q4,q5,q6,q7⟩:=FV hc S l (i+1) _ _ (n+1) hR (by omega) (by omega) (by show i+1+l.length<=s.kinds.length;omega)
  refine⟨s',b',q1,q2,?_,q4,q5,q6,q7⟩
  have e:n+(x::l).length=n+1+l.length:=by simp only [gz];omega
  rw [e];exact q3
def FB{c:aq}(hc:nH c){s:ac}{b:au}(h:rD c s b)(hi:b.out.Items=[])(S:al)(hS:s.from_=S)(V:S.Items.all sW=true)(hl:S.Items.length<=6)(hfro:TK c b.out)(hp:lR S=false->b.out.Keys=[]/\b.out.Aggs=[])(hh:b.out.Having=⟨[]⟩):
  (∃(e:Int) (s' :ac) (b' :au),e≠0/\fM s=some (e,s')/\jF b S=some (4,e,b')/\s'.at_=4)\/
  (∃(s' :ac) (b' :au),fM s=some (0,s')/\jF b S=cR S [] b' /\J7 c s' b' ((if S.Star then s.kinds.length else 0)+S.Items.length) (lR S)/\s'.from_=S/\s'.kinds=s.kinds/\b'.out.Having=⟨[]⟩):=by
 subst hS
 unfold fM jF
 dsimp only
 rw [LW,DO,aP,aP,aP]
 dsimp only
 rw [h.out,h.refKinds hc]
 generalize lR s.from_=r at hp ⊢
 obtain⟨s1,hs1⟩: ∃s1:ac,s1={s with at_:=4,out:={b.out with Distinct:=s.from_.Distinct,Grouped:=r}}:=⟨_,rfl⟩
 obtain⟨b1,hb1⟩: ∃b1:au,b1={b with out:={b.out with Distinct:=s.from_.Distinct,Grouped:=r}}:=⟨_,rfl⟩
 have hI:J7 c s1 b1 0 r:=by
  rw [hs1,hb1]
  refine⟨h.upd {b.out with Distinct:=s.from_.Distinct,Grouped:=r} rfl rfl rfl s.from_ 4,?_,?_,rfl,hfro.upd rfl rfl rfl,hp⟩
  ·simp [hi]
  ·intro x V;simp only [hi]at V;cases V
 have hf:s1.from_=s.from_:=by rw [hs1]
 have hkl:=hI.rel.kindsLen hc
 have hk1:s1.kinds=s.kinds:=by rw [hs1]
 -- what both do at the end
 have key: ∀(s2:ac) (b2:au) (n:Nat),J7 c s2 b2 n r->n<=12->s2.from_=s.from_->s2.at_=4->s2.kinds=s.kinds->b2.out.Having=⟨[]⟩->n=(if s.from_.Star then s.kinds.length else 0)->
   (∃(e:Int) (s' :ac) (b' :au),e≠0/\fU s2=some (e,s')/\fZ s.from_ b2=some (4,e,b')/\s'.at_=4)\/
   (∃(s' :ac) (b' :au),fU s2=some (0,s')/\fZ s.from_ b2=cR s.from_ [] b' /\J7 c s' b' ((if s.from_.Star then s.kinds.length else 0)+s.from_.Items.length) r/\s'.from_=s.from_/\s'.kinds=s.kinds/\b'.out.Having=⟨[]⟩):=by
  intro s2 b2 n D hn hf2 hat hk2 hh2 hn2
  unfold fU fZ
  rw [hf2]
  rcases Ej hc s.from_ s.from_.Items s2 b2 n r D (by omega) V hat with h3|⟨s',b',q1,q2,q3,q4,q5,q6⟩
  ·exact .inl h3
  ·exact .inr ⟨s',b',q1,q2,by rw [<-hn2];exact q3,by rw [q4,hf2],by rw [q5,hk2],by rw [q6,hh2]⟩
 cases hst:s.from_.Star with
 |false=>
  simp only [Bool.false_and,jS,ii]
  have:=key s1 b1 0 hI (by omega) hf (by rw [hs1]) hk1 (by rw [hb1];exact hh) (by rw [hst];rfl)
  rw [hs1,hb1]at this
  simp only [hst,jS,ii]at this
  exact this
 |true=>
  simp only [tw,gW]
  cases hr:r with
  |true=>
   simp only [gW]
   exact .inl ⟨227,_,_,by decide,rfl,rfl,rfl⟩
  |false=>
   subst hr
   simp only [jS,ii,aP]
   obtain⟨s2,b2,q1,q2,q3,q4,q5,q6,q7⟩:=FV hc s.from_ s.kinds 0 s1 b1 0 hI (by rw [<-hk1];omega) (by rw [<-hk1];omega) (by rw [<-hk1];omega)
   rw [hs1]at q1
   rw [hb1]at q2
   have:=key s2 b2 _ q3 (by rw [<-hk1];omega) (by rw [q4,hf]) (by rw [q5,hs1]) (by rw [q6,hk1]) (by rw [q7,hb1];exact hh) (by rw [hst];simp)
   rw [<-q1,<-q2]at this
   simp only [hst,gW]at this
   exact this
def T9:List (ac->Unit->Option (Int×ac)):=[(fun(mc:ac) (mx:Unit)=>gu mc),(fun(mc:ac) (mx:Unit)=>eM mc),(fun(mc:ac) (mx:Unit)=>fL mc),(fun(mc:ac) (mx:Unit)=>eN mc),(fun(mc:ac) (mx:Unit)=>fM mc),(fun(mc:ac) (mx:Unit)=>fW mc)]
def lS{k i:Nat}{e:Int}{s:ac}{f:ac->Unit->Option (Int×ac)}(hf:fg T9 (i:Int)=some f){r:Int×ac}(hr:f s ()=some r):gJ (k+1) i e s=if(r.1 !=(0:Int))then some (r.1,r.2)else gJ k (i+1) r.1 r.2:=by
 have h0:gJ (k+1) i e s=(fg T9 (i:Int)).bind fun fn=>(fn s ()).bind fun r=>if(r.1 !=(0:Int))then mi r.1 r.2 else gJ k (i+1) r.1 r.2:=rfl
 rw [h0,hf,aP,hr,aP]
 rfl
def UV:aS:=⟨[],[],⟨[]⟩,⟨[]⟩,false,false,[],[],[]⟩
def Qf(c:aq)(S:al):ac:=⟨c,S,UV,[],[],[],[],[],0⟩
def X2(c:aq):au:=⟨c,[],UV⟩
def Yj(c:aq)(S:al):rD c (Qf c S) (X2 c):=by
 refine⟨rfl,rfl,rfl,rfl,rfl,?_,?_,⟨?_,?_,?_,?_⟩,rfl,?_,?_,?_,?_,?_⟩
 ·intro t M;cases M
 ·show 0<=3;omega
 ·intro n;rfl
 ·intro n;rfl
 ·intro t n;rfl
 ·exact List.nodup_nil
 ·intro k hk;cases hk
 ·show 0<=3;omega
 ·show 0<=12;omega
 ·exact List.nodup_nil
 ·intro a ha;cases ha
def To{β:Type}(S:al)(b:au)(tD:Int->Int->au->Option β):Option β:=(oX b S).bind fun r3=>if(r3.2.1==(0:Int))then((jF r3.2.2 S).bind fun r7=>tD r7.1 r7.2.1 r7.2.2)else(tD r3.1 r3.2.1 r3.2.2)
def IK{c:aq}(hc:nH c)(S:al)(hS:wd S=true){β:Type}(tD:Int->Int->au->Option β):
  (∃(e:Int) (s' :ac) (b' :au),e≠0/\iI (Qf c S)=some (e,s')/\To S (X2 c) tD=tD s'.at_ e b')\/
  (∃(s' :ac) (b' :au),iI (Qf c S)=some (0,s')/\To S (X2 c) tD=tD 0 0 b' /\J7 c s' b' ((if S.Star then(f7 c b'.out.Tables).length else 0)+S.Items.length) (lR S)/\s'.from_=S/\(b'.out.Having.Nodes=[]\/(lR S=true/\G9 b'.out.Having (ov s' (lR S))))):=by
 unfold wd KC at hS
 simp only [gU,li]at hS
 obtain⟨⟨_,hI,hJ,hG⟩,hF,hi,hj,hg,hw,hh⟩:=hS
 have h0:=Yj c S
 unfold iI To oX
 rcases BV hc h0 (by show 0<=2;omega) rfl rfl S.From with⟨e,he,g1,g2⟩|⟨s1,b1,k,g1,g2,g3,g4,g5,g6⟩
 ·rw [lS (f:=fun(mc:ac) (mx:Unit)=>gu mc) rfl (r:=(e,Qf c S)) (by
   have e0:gu (Qf c S)=(fV (Qf c S) S.From).bind fun r=>some (r.1,r.2):=rfl
   rw [e0,g1];rfl),bD (by simpa using he),g2,aP,bD (by simpa using he),aP,bv (by simpa using he)]
  exact .inl ⟨e,_,_,he,rfl,rfl⟩
 ·rw [lS (f:=fun(mc:ac) (mx:Unit)=>gu mc) rfl (r:=(0,s1)) (by
   have e0:gu (Qf c S)=(fV (Qf c S) S.From).bind fun r=>some (r.1,r.2):=rfl
   rw [e0,g1];rfl),bv (by simp),g2,aP,bv (by simp)]
  have hF1:From c {s1 with at_:=1} b1:=by
   have hu:=g3.upd b1.out rfl rfl rfl s1.from_ 1
   rw [<-g3.out]at hu
   have e:({b1 with out:=s1.out}:au)=b1:=by rw [g3.out]
   rw [e]at hu
   exact⟨hu,by rw [g6];rfl,by rw [g6];rfl,by rw [g6];rfl,⟨by rw [g6];rfl,fun i j hj=>(by rw [g6]at hj;simp [X2,UV]at hj),by rw [g6];exact .inl rfl⟩,by rw [g6];rfl⟩
  have hs1:b1.sources.length=1:=by rw [g6];rfl
  have hj1:b1.out.Joins=[]:=by rw [g6];rfl
  have hf1:s1.from_=S:=g4
  rcases Ei hc S S.Joins _ b1 hF1 (by omega) (by rw [hj1];simp;omega) hj (by rw [g6];rfl)with⟨e,s2,b2,he,k1,k2,k3⟩|⟨s2,b2,k1,k2,k3,k4,k5⟩
  ·rw [lS (f:=fun(mc:ac) (mx:Unit)=>eM mc) rfl (r:=(e,s2)) (by
    show eM s1=_
    unfold eM
    dsimp only
    rw [hf1]
    rw [hf1]at k1
    exact k1),bD (by simpa using he),show cQ S S.Joins b1=_ from k2,aP,bv (by simpa using he)]
   refine .inl ⟨e,s2,b2,he,rfl,?_⟩
   rw [k3]
  ·rw [lS (f:=fun(mc:ac) (mx:Unit)=>eM mc) rfl (r:=(0,s2)) (by
    show eM s1=_
    unfold eM
    dsimp only
    rw [hf1]
    rw [hf1]at k1
    exact k1),bv (by simp),show cQ S S.Joins b1=_ from k2]
   have hf2:s2.from_=S:=by rw [k5];exact hf1
   rcases Ki hc k3 S hf2 hw with⟨e,s3,b3,he,q1,q2,q3⟩|⟨s3,b3,q1,q2,q3,q4⟩
   ·rw [lS (f:=fun(mc:ac) (mx:Unit)=>fL mc) rfl (r:=(e,s3)) q1,bD (by simpa using he),q2,aP,bv (by simpa using he)]
    refine .inl ⟨e,s3,b3,he,rfl,?_⟩
    rw [q3]
   ·rw [lS (f:=fun(mc:ac) (mx:Unit)=>fL mc) rfl (r:=(0,s3)) q1,bv (by simp),q2]
    have hu:=q3.rel.upd b3.out rfl rfl rfl s3.from_ 3
    rw [<-q3.rel.out]at hu
    have e3:({b3 with out:=s3.out}:au)=b3:=by rw [q3.rel.out]
    rw [e3]at hu
    have hgb:=Em hc S.Group {s3 with at_:=3} b3 hu q3.aggs q3.items (by rw [q3.keys];simp;omega) rfl
    rcases hgb with⟨e,s4,b4,he,w1,w2,w3⟩|⟨s4,b4,w1,w2,w3,w4,w7,w8,w5,w6⟩
    ·rw [lS (f:=fun(mc:ac) (mx:Unit)=>eN mc) rfl (r:=(e,s4)) (by
      show eN s3=_
      unfold eN
      dsimp only
      rw [q4]
      rw [q4]at w1
      exact w1),bD (by simpa using he),w2,aP,bv (by simpa using he)]
     refine .inl ⟨e,s4,b4,he,rfl,?_⟩
     rw [w3]
    ·rw [lS (f:=fun(mc:ac) (mx:Unit)=>eN mc) rfl (r:=(0,s4)) (by
      show eN s3=_
      unfold eN
      dsimp only
      rw [q4]
      rw [q4]at w1
      exact w1),bv (by simp),w2,aP,bD (by rfl)]
     have hf4:s4.from_=S:=by rw [w4];exact q4
     simp only
     have hgl:lR S=false->S.Group.length=0/\S.Having.Nodes.length=0:=fun e=>by
      unfold lR at e
      simp only [GU,nl]at e
      omega
     rcases FB hc w3 w6 S hf4 hi hI (q3.fro.upd (by rw [w7]) (by rw [w7]) (by rw [w7])) (fun e=>⟨vE (by rw [w8,q3.keys,(hgl e).1];rfl),w5⟩) (by rw [w7];exact q3.hav)with⟨e,s5,b5,he,v1,v2,v3⟩|⟨s5,b5,v1,v2,v3,v4,v5,v6⟩
     ·rw [lS (f:=fun(mc:ac) (mx:Unit)=>fM mc) rfl (r:=(e,s5)) v1,bD (by simpa using he),v2,aP]
      refine .inl ⟨e,s5,b5,he,rfl,?_⟩
      rw [v3]
     ·rw [lS (f:=fun(mc:ac) (mx:Unit)=>fM mc) rfl (r:=(0,s5)) v1,bv (by simp),v2]
      rcases Jn hc v3 S v4 hh v6 (fun e=>(hgl e).2)with⟨e,s6,b6,he,y1,y2,y3⟩|⟨s6,b6,y1,y2,y3,y4,y5,y6,y7⟩
      ·rw [lS (f:=fun(mc:ac) (mx:Unit)=>fW mc) rfl (r:=(e,s6)) y1,bD (by simpa using he),y2,aP]
       refine .inl ⟨e,s6,b6,he,rfl,?_⟩
       rw [y3]
      ·rw [lS (f:=fun(mc:ac) (mx:Unit)=>fW mc) rfl (r:=(0,s6)) y1,bv (by simp),y2,aP]
       refine .inr ⟨s6,b6,rfl,rfl,?_,y4,y7⟩
       rw [<-y3.kinds,y6,v5]
       exact y5
end Go.Proofs.YthbdkceckjihgaaGreatDoor


/- cu of this claim: B17. -/
set_option linter.all false
set_option linter.unusedVariables false
namespace Go.Proofs.YthbdkceckjihgaaGreatDoor
open Go

def EO: ∀(t p:List bl),EP p t=true->(t.map fun x=>x.Name).Nodup/\ ∀x∈t,∀y∈p,y.Name≠x.Name
 |[],p,_=>⟨List.nodup_nil,fun x V=>by cases V⟩
 |x::t,p,h=>by
  have h0:EP p (x::t)=((gG x.Name&&sU x.Kind&& !CF p x)&&EP (p++[x]) t):=rfl
  rw [h0]at h
  simp only [gU,vO]at h
  obtain⟨⟨_,D⟩,h3⟩:=h
  obtain⟨g1,g2⟩:=EO t (p++[x]) h3
  refine⟨?_,?_⟩
  ·rw [qT,List.nodup_cons]
   refine⟨fun hm=>?_,g1⟩
   obtain⟨y,hy,he⟩:=zC.1 hm
   exact g2 y hy x (L4 _ (Ik _)) he.symm
  ·intro z hz y hy
   rcases eW.1 hz with rfl|hz
   ·intro he
    have:CF p z=true:=by
     unfold CF
     rw [Cq]
     exact⟨y,hy,by simpa using he⟩
    rw [this]at D;cases D
   ·exact g2 z hz y (Da _ hy)
def VS{c:aq}(h:ER c=true):nH c:=by
 unfold ER at h
 simp only [gU,li]at h
 obtain⟨hl,M⟩:=h
 rw [Hd,gU]at M
 have hall: ∀t∈c.Tables,uw t=true:=fun t h=>by
  have:=M.1
  rw [mo]at this
  exact this t h
 have h4: ∀t∈c.Tables,t.Columns.length<=4/\EP [] t.Columns=true:=fun t h=>by
  have:=hall t h
  unfold uw at this
  simp only [gU,li]at this
  exact⟨this.1.2,this.2.1⟩
 refine⟨⟨fun t h=>?_,by omega,fun t h=>(EO _ _ (h4 t h).2).1⟩,fun t h=>(h4 t h).1,fun t h x V=>?_⟩
 ·have:=(h4 t h).1;omega
 ·have:=(h4 t h).2
  rw [H2,gU,mo]at this
  exact this.2 x V
def OJ{N:List cj}(h:jD N=true): ∃m,fg N (IntKind.i64.wrap ((N.length:Int)-1))=some m/\qP m=true:=by
 unfold jD at h
 cases hA:yf N with
 |none=>rw [hA]at h;cases h
 |some a=>
  obtain⟨hw,hN,hs,_⟩:=uu hA
  have hlen:N.length=a.size:=by rw [hN,a.flat_len]
  have hp:=a.size_pos
  have key: ∃(P:List cj) (m:cj),N=P++[m]/\qP m=true:=by
   cases a with
   |lf n=>exact⟨[],_,hN,by rw [EQ];exact hw.2.1⟩
   |un n a=>exact⟨_,_,hN,by rw [EQ];exact hw.1.2.1⟩
   |bi n a b=>exact⟨_,_,hN,by rw [EQ];exact hw.1.2.1⟩
  obtain⟨P,m,hP,hm⟩:=key
  refine⟨m,?_,hm⟩
  have hlP:N.length=P.length+1:=by rw [hP];simp
  rw [cV (by omega) (by omega),hlP,show(((P.length+1:Nat):Int)-1)=(P.length:Int) by omega,hP]
  exact m8 P m []
def Pc{m:cj}(h:qP m=true)(D:m.Tag≠2):m.Name=[]:=by
 unfold qP at h
 rw [bv D]at h
 split at h
 ·simp only [gU,sG]at h;exact h.1.2
 ·simp only [gU,sG]at h;exact h.2.2
def Eb: ∀(l:List eh) (out:List bZ),l.all sW=true->out.length+l.length<=1000-> ∃R,eV l out=some R/\kH l out=some R/\R.length=out.length+l.length
 |[],out,_,_=>⟨out,rfl,rfl,by simp⟩
 |x::l,out,h,hl=>by
  simp only [qk,gU]at h
  simp only [gz]at hl
  have V:jD x.Tree.Nodes=true:=by
   have:=h.1
   unfold sW at this
   simp only [gU]at this
   exact this.1
  obtain⟨m,g1,g2⟩:=OJ V
  have ih:=fun out=>Eb l out h.2
  unfold eV kH
  rw [g1,aP,aP]
  unfold kE rU
  have step: ∀s:bZ,∃R,((lm out [s]).bind fun out2=>eV l out2)=some R/\((lm out [s]).bind fun out2=>kH l out2)=some R/\R.length=out.length+(x::l).length:=fun s=>by
   rw [cG (by simp;omega),aP,aP]
   obtain⟨R,q1,q2,q3⟩:=ih (out++[s]) (by simp;omega)
   exact⟨R,q1,q2,by simp at q3 ⊢;omega⟩
  by_cases ha:x.As=[]
  ·rw [bD (by simpa using ha)]
   by_cases M:m.Tag=2
   ·rw [bD (by rw [ha,M];rfl)]
    exact step m.Name
   ·rw [bv (by simp [M]),ha,Pc g2 M]
    exact step []
  ·rw [bv (by simpa using ha),bv (by simp [ha])]
   exact step x.As
def Ea(nx:List bZ->Option (List bZ)): ∀(l:List bl) (out:List bZ),out.length+l.length<=100000->gO nx l out=nx (out++l.map fun x=>x.Name)/\mu nx l out=nx (out++l.map fun x=>x.Name)
 |[],out,_=>⟨by unfold gO;simp,by unfold mu;simp⟩
 |x::l,out,h=>by
  simp only [gz]at h
  obtain⟨q1,q2⟩:=Ea nx l (out++[x.Name]) (by simp;omega)
  unfold gO mu
  rw [cG (by simp;omega),aP,aP,q1,q2]
  simp
def I6{c:aq}(hc:nH c)(s:ac)(S:al)(hS:s.from_=S)(hcat:s.Catalog=c)(V:S.Items.all sW=true)(hl:S.Items.length<=6): ∀(l:List Int) (out:List bZ),(∀t∈l,EY c t=false)->out.length+l.length*4<=900-> ∃R,fT s l out=some R/\mv c S l out=some R/\R.length=out.length+(f7 c l).length+S.Items.length
 |[],out,_,ho=>by
  unfold fT mv jh oV
  rw [hS]
  obtain⟨R,q1,q2,q3⟩:=Eb S.Items out V (by simp at ho;omega)
  exact⟨R,q1,q2,by simp [f7];omega⟩
 |t::l,out,H,ho=>by
  simp only [gz]at ho
  obtain⟨x,g1,g2,g3⟩:=CZ (H t (lL ..))
  have h4:=hc.cols4 x g3
  obtain⟨R,q1,q2,q3⟩:=I6 hc s S hS hcat V hl l (out++x.Columns.map fun x=>x.Name) (fun y hy=>H y (ma _ hy)) (by simp;omega)
  unfold fT mv
  rw [hcat,g1,aP,aP,(Ea _ x.Columns out (by omega)).1,(Ea _ x.Columns out (by omega)).2]
  have e:(f7 c (t::l)).length=x.Columns.length+(f7 c l).length:=by simp [f7,g2]
  exact⟨R,q1,q2,by rw [e];simp at q3;omega⟩
def KV{c:aq}(hc:nH c){s:ac}{b:au}(h:rD c s b)(S:al)(hS:s.from_=S)(V:S.Items.all sW=true)(hl:S.Items.length<=6): ∃R,ia s=some R/\wh c S b.out.Tables=some R/\R.length=(if S.Star then(f7 c b.out.Tables).length else 0)+S.Items.length:=by
 unfold ia wh
 rw [hS,h.out]
 have hf:=h.few
 by_cases hs:S.Star=true
 ·rw [bD hs,bD hs]
  obtain⟨R,q1,q2,q3⟩:=I6 hc s S hS h.cat V hl b.out.Tables [] h.bad (by simp;omega)
  exact⟨R,q1,q2,by rw [bD hs,q3];simp⟩
 ·rw [bv hs,bv hs]
  unfold jh oV
  rw [hS]
  obtain⟨R,q1,q2,q3⟩:=Eb S.Items [] V (by simp;omega)
  exact⟨R,q1,q2,by rw [bv hs,q3];simp⟩
def uf(over:List Int): ∀(l:List aD) (out:List Int),(∀x∈l,x.Nodes.length<=1000)->out.length+l.length<=1000->ff over l out=some (out++l.map fun x=>(fe x over).1)/\jH over l out=some (out++l.map fun x=>(fe x over).1)
 |[],out,_,_=>⟨by unfold ff;simp,by unfold jH;simp⟩
 |x::l,out,h,hl=>by
  simp only [gz]at hl
  obtain⟨q1,q2⟩:=uf over l (out++[(fe x over).1]) (fun y hy=>h y (ma _ hy)) (by simp;omega)
  have V:=h x (lL ..)
  unfold ff jH
  rw [rp _ _ (by omega),nB,aP,aP,cG (by simp;omega),aP,aP,q1,q2]
  simp
def K0{c:aq}(hc:nH c){s:ac}{b:au}{n:Nat}{gr:Bool}(h:J7 c s b n gr)(hn:n<=100): ∃R:List Int,fC s=some R/\qL c b.out=some R/\R=b.out.Items.map fun x=>(fe x (ov s gr)).1:=by
 have hr:=h.rel
 have hk:=hr.refKinds hc
 have hg:=hr.refGroups hc
 rw [hr.bc]at hk hg
 have hl:=h.len
 refine⟨b.out.Items.map fun x=>(fe x (ov s gr)).1,?_,?_,rfl⟩
 ·unfold fC iU
  rw [hr.out,h.grouped]
  unfold ov
  cases gr with
  |true=>rw [bD rfl,bD rfl,(uf _ _ _ h.each (by simp;omega)).1];simp
  |false=>rw [bv (by simp),bv (by simp),(uf _ _ _ h.each (by simp;omega)).1];simp
 ·unfold qL nY
  rw [hk,aP,h.grouped]
  unfold ov
  cases gr with
  |true=>rw [bD rfl,bD rfl,hg,aP,(uf _ _ _ h.each (by simp;omega)).2];simp
  |false=>rw [bv (by simp),bv (by simp),(uf _ _ _ h.each (by simp;omega)).2];simp
def G7:List Int->List Int->Option (List Int)
 |x::a,y::b=>if x=0 then(G7 a b).map (y:: ·)else if y≠0/\y≠x then none else(G7 a b).map (x:: ·)
 |_,_=>some []
def Ir{x:Int}(h:x=0)(a:List Int)(y:Int)(b:List Int):G7 (x::a) (y::b)=(G7 a b).map (y:: ·):=bD h
def Me{x:Int}(h: ¬x=0)(a:List Int){y:Int}(hy:y≠0/\y≠x)(b:List Int):G7 (x::a) (y::b)=none:=by
 show(if x=0 then _ else if y≠0/\y≠x then none else _)=_
 rw [bv h,bD hy]
def Mf{x:Int}(h: ¬x=0)(a:List Int){y:Int}(hy: ¬(y≠0/\y≠x))(b:List Int):G7 (x::a) (y::b)=(G7 a b).map (x:: ·):=by
 show(if x=0 then _ else if y≠0/\y≠x then none else _)=_
 rw [bv h,bv hy]
def Mg: ∀{a b r:List Int},G7 a b=some r->r.length<=a.length
 |[],b,r,h=>by
  unfold G7 at h
  cases h;simp
 |x::a,[],r,h=>by
  unfold G7 at h;cases h;simp
 |x::a,y::b,r,h=>by
  unfold G7 at h
  have ih:=fun r (h:G7 a b=some r)=>Mg h
  cases hu:G7 a b with
  |none=>
   rw [hu]at h
   split at h
   ·cases h
   ·split at h<;>cases h
  |some q=>
   rw [hu]at h
   have:=ih q hu
   split at h
   ·cases h;simp;omega
   ·split at h
    ·cases h
    ·cases h;simp;omega
def Iq: ∀(a l pre:List Int),a.length=l.length->(∃r,G7 a l=some r/\iw l pre.length (pre++a)=some (true,pre++r))\/(G7 a l=none/\ ∃z,iw l pre.length (pre++a)=some (false,z))
 |[],[],pre,_=> .inl ⟨[],rfl,rfl⟩
 |x::a,y::l,pre,h=>by
  have ih:=fun v=>Iq a l (pre++[v]) (by simpa using h)
  simp only [mV,xO,fk,GV]at ih
  unfold iw
  rw [m8,aP]
  by_cases V:x=0
  ·rw [Ir V,bD (by simpa using V),ra,aP]
   rcases ih y with⟨r,g1,g2⟩|⟨g1,g2⟩
   ·exact .inl ⟨y::r,by rw [g1];rfl,g2⟩
   ·exact .inr ⟨by rw [g1];rfl,g2⟩
  ·rw [bv (by simpa using V)]
   by_cases hy:y≠0/\y≠x
   ·rw [Me V a hy,bD (by simpa using hy)]
    exact .inr ⟨rfl,_,rfl⟩
   ·rw [Mf V a hy,bv (by simpa using hy)]
    rcases ih x with⟨r,g1,g2⟩|⟨g1,g2⟩
    ·exact .inl ⟨x::r,by rw [g1];rfl,g2⟩
    ·exact .inr ⟨by rw [g1];rfl,g2⟩
def FR(b:List Int): ∀(a l pre out:List Int),a.length=l.length->b=pre++l->out.length+a.length<=100000->jV b a pre.length out=some (match G7 a l with
  |some r=>(out++r,true)
  |none=>([],false))
 |[],[],pre,out,_,_,_=>by unfold jV G7;simp
 |x::a,y::l,pre,out,h,H,ho=>by
  simp only [gz]at ho
  have ih:=fun out=>FR b a l (pre++[y]) out (by simpa using h) (by rw [H];simp)
  simp only [mV,xO]at ih
  unfold jV
  rw [H,m8,<-H]
  unfold qJ
  rw [H,m8,<-H]
  simp only [aP]
  by_cases V:x=0
  ·rw [Ir V,bD (by simpa using V),bv (by simp),cG (by simp;omega),aP,ih _ (by simp;omega)]
   cases G7 a l with
   |none=>rfl
   |some r=>simp
  ·rw [bv (by simpa using V)]
   by_cases hy:y≠0/\y≠x
   ·rw [Me V a hy,bD (by simpa using hy)]
   ·rw [Mf V a hy,bv (by simpa using hy),cG (by simp;omega),aP,ih _ (by simp;omega)]
    cases G7 a l with
    |none=>rfl
    |some r=>simp
def Km(a l:List Int)(ha:a.length<=1000):(∃r,km a l=some (true,r)/\rd a l=some (r,true)/\r.length<=a.length)\/(∃z,km a l=some (false,z)/\rd a l=some ([],false)):=by
 unfold km rd
 by_cases h:a.length=l.length
 ·rw [bv (by simp [h]),bv (by simp [h])]
  have D:=FR l a l [] [] h rfl (by simp;omega)
  rcases Iq a l [] h with⟨r,g1,g2⟩|⟨g1,z,g2⟩
  ·rw [g1]at D
   exact .inl ⟨r,g2,D,Mg g1⟩
  ·rw [g1]at D
   exact .inr ⟨z,g2,D⟩
 ·rw [bD (by simp;omega),bD (by simp;omega)]
  exact .inr ⟨a,rfl,rfl⟩
def K6(v:bZ): ∀(l:List bZ) (i:Nat),dd v l i=some (if v∈l then((i+l.idxOf v:Nat):Int)else -1)
 |[],i=>rfl
 |x::l,i=>by
  unfold dd
  by_cases h:v=x
  ·subst h
   rw [bD (by simp)]
   simp
  ·rw [bv (by simpa using h),K6 v l (i+1)]
   have A:(v∈x::l)=(v∈l):=by simp [h]
   have D:(x::l).idxOf v=l.idxOf v+1:=by
    have:(x==v)=false:=by simpa using Ne.symm h
    rw [List.idxOf_cons,this];rfl
   simp only [A,D]
   by_cases hm:v∈l
   ·rw [bD hm,bD hm];congr 2;omega
   ·rw [bv hm,bv hm]
def Hz(k:lT): ∀(l:List bZ) (i:Nat) (f m:Int),k.Name∉l->d9 k l i f m=d9 k [] 0 f m
 |[],i,f,m,_=>rfl
 |x::l,i,f,m,h=>by
  have A: ¬x=k.Name:=fun e=>h (by rw [e];exact lL ..)
  conv=>lhs;unfold d9
  rw [bv (by simpa using A),Hz k l (i+1) f m (fun e=>h (ma _ e))]
def Je(k:lT)(q:List bZ): ∀(p:List bZ) (i:Nat) (f m:Int),k.Name∉p->d9 k (p++q) i f m=d9 k q (i+p.length) f m
 |[],i,f,m,_=>rfl
 |x::p,i,f,m,h=>by
  have A: ¬x=k.Name:=fun e=>h (by rw [e];exact lL ..)
  rw [tR]
  conv=>lhs;unfold d9
  rw [bv (by simpa using A),Je k q p (i+1) f m (fun e=>h (ma _ e))]
  simp only [gz]
  congr 1;omega
def Eh(k:lT): ∀(l:List bZ) (i:Nat) (f m:Int),1<=m->m+l.length<=1000000->(2<=m\/k.Name∈l)->d9 k l i f m=some (0,223)
 |[],i,f,m,A,D,h3=>by
  have:2<=m:=by
   rcases h3 with h|h
   ·exact h
   ·cases h
  unfold d9
  rw [bv (by simp;omega),bv (by simp;omega)]
 |x::l,i,f,m,A,D,h3=>by
  simp only [gz]at D
  unfold d9
  by_cases V:x=k.Name
  ·rw [bD (by simpa using V),cV (by omega) (by omega)]
   exact Eh k l _ _ _ (by omega) (by omega) (.inl (by omega))
  ·rw [bv (by simpa using V)]
   refine Eh k l _ _ _ A (by omega) ?_
   rcases h3 with h|h
   ·exact .inl h
   ·rcases eW.1 h with h|h
    ·exact absurd h.symm V
    ·exact .inr h
def QG(k:lT)(names:List bZ)(hl:names.length<=1000): ∃R,uk k names=some R/\Bf k names=some R:=by
 unfold uk Bf
 by_cases hn:k.Name=[]
 ·have H:(k.Name==([]:bZ))=true:=by simpa using hn
  simp only [H,gW]
  split
  ·exact⟨_,rfl,rfl⟩
  ·exact⟨_,rfl,rfl⟩
 ·have H:(k.Name==([]:bZ))=false:=by simpa using hn
  simp only [H,jS,ii]
  unfold eb
  rw [K6,aP]
  by_cases hm:k.Name∈names
  ·rw [bD hm,bv (by rw [li];omega)]
   have hi:=Ma hm
   obtain⟨j,hj⟩: ∃j,j=names.idxOf k.Name:=⟨_,rfl⟩
   rw [<-hj]at hi ⊢
   have hsp:names=names.take j++k.Name::names.drop (j+1):=by
    have e1:names[j]=k.Name:=by
     have:=List.getElem_idxOf (x:=k.Name) (xs:=names) (by rw [<-hj];exact hi)
     simpa [<-hj] using this
    conv=>lhs;rw [<-qU j names,pC hi,e1]
   have hno:k.Name∉names.take j:=by
    intro h
    have A:(names.take j).idxOf k.Name<(names.take j).length:=Ma h
    have D:names.idxOf k.Name=(names.take j).idxOf k.Name:=by
     conv=>lhs;rw [<-qU j names]
     rw [List.idxOf_append,bD h]
    rw [yE]at A
    omega
   have hlt:(names.take j).length=j:=by rw [yE];omega
   rw [cV (by omega) (by omega),show(((0+j:Nat):Int)+1)=((j+1:Nat):Int) by omega,t8 (by omega) (eO _),aP,nv (eO _)]
   unfold ej eb
   rw [K6,aP,aP]
   have hr:d9 k names 0 0 0=d9 k (names.drop (j+1)) (j+1) (j:Int) 1:=by
    conv=>lhs;rw [hsp]
    rw [Je k _ _ _ _ _ hno,hlt]
    conv=>lhs;unfold d9
    rw [bD (by simp),cV (by omega) (by omega)]
    simp
   rw [hr]
   have hdl:(names.drop (j+1)).length<=1000:=by simp;omega
   by_cases D:k.Name∈names.drop (j+1)
   ·rw [bD D,bD (by rw [li];omega),Eh k _ _ _ _ (by omega) (by omega) (.inr D)]
    exact⟨_,rfl,rfl⟩
   ·rw [bv D,bv (by rw [li];omega),Hz k _ _ _ _ D]
    refine⟨_,rfl,?_⟩
    unfold d9
    simp
  ·rw [bv hm,bD (by rw [li];omega),Hz k _ _ _ _ hm]
   exact⟨_,rfl,rfl⟩
end Go.Proofs.YthbdkceckjihgaaGreatDoor


/- cu of this claim: B18. -/
set_option linter.all false
set_option linter.unusedVariables false
namespace Go.Proofs.YthbdkceckjihgaaGreatDoor
open Go

def D6: ∀(l:List lT) (x b:aQ),b.Names.length<=1000->b.Order.length+l.length<=1000-> ∃R,f9 l x b=some R/\p4 l x b=some R
 |[],x,b,_,_=>⟨_,rfl,rfl⟩
 |k::l,x,b,hn,ho=>by
  simp only [gz]at ho
  obtain⟨R,g1,g2⟩:=QG k b.Names hn
  unfold f9 p4
  rw [g1,g2,aP,aP]
  by_cases h:R.2=0
  ·rw [bv (by simpa using h),bv (by simpa using h),cG (by simp;omega),aP,aP]
   exact D6 l x _ hn (by simp;omega)
  ·rw [bD (by simpa using h),bD (by simpa using h)]
   exact⟨_,rfl,rfl⟩
def EU(nx:Nat->aQ->aQ->Option (aQ×Int×Int))(i:Nat)(e:Int)(s:ac)(x b:aQ)(h:b.Selects.length<=1000):ga nx i (e,s) x b=nx (i+1) x {b with Selects:=b.Selects++[s.out]}:=by
 unfold ga
 rw [cG (by simp;omega),aP]
def ET(nx:Nat->aQ->aQ->Option (aQ×Int×Int))(i:Nat)(o:aQ)(s:au)(x b:aQ)(h:b.Selects.length<=1000):p5 nx i o s x b=nx (i+1) x {b with Selects:=b.Selects++[s.out]}:=by
 unfold p5
 rw [cG (by simp;omega),aP]
def zY{c:aq}(hc:nH c)(q:aN)(hk:q.Keys.length<=3): ∀(l:List al) (i:Nat) (x b:aQ),l.all wd=true->i+l.length<=100->b.Selects.length=i->b.Kinds.length<=100->b.Names.length<=100->b.Order=[]->
    ∃R,ca c q l i x b=some R/\js c q l i x b=some R
  |[],i,x,b,_,_,_,_,hn,ho=>by
    unfold ca js
    exact D6 q.Keys x b (by omega) (by rw [ho];simp;omega)
  |S::l,i,x,b,hl,hi,hs,hkl,hnl,ho=>by
    simp only [qk,gU]at hl
    simp only [gz]at hi
    have ih:=fun x b=>zY hc q hk l (i+1) x b hl.2 (by omega)
    have hI:S.Items.all sW=true/\S.Items.length<=6:=by
      have:=hl.1
      unfold wd KC at this
      simp only [gU,li]at this
      exact⟨this.2.2.1,this.1.2.1⟩
    have hc1:ca c q (S::l) i x b=(iI (Qf c S)).bind fun r3=>
      if(r3.1 !=(0:Int))then
      (some ((⟨[],[],[],[],(0:Int)⟩:aQ),(IntKind.i64.wrap ((IntKind.i64.wrap ((10:Int)*(i:Int)))+r3.2.at_)),r3.1))
      else
      ((fC r3.2).bind fun r4=>
      if((i:Int)==(0:Int))then
      ((ia r3.2).bind fun r5=>
      ga (ca c q l) i r3 x {b with Names:=r5,Kinds:=r4})
      else
      ((km b.Kinds r4).bind fun r6=>
      if(!r6.1)then
      (some ((⟨[],[],[],[],(0:Int)⟩:aQ),(IntKind.i64.wrap ((IntKind.i64.wrap ((10:Int)*(i:Int)))+(6:Int))),(229:Int)))
      else
      (ga (ca c q l) i r3 x ({b with Kinds:=r6.2}:aQ)))):=rfl
    have Yq:js c q (S::l) i x b=To S (X2 c) (fun at1 e2 ob=>lU c (js c q l) i S x b at1 e2 ob):=rfl
    rw [hc1,Yq]
    rcases IK hc S hl.1 (fun at1 e2 ob=>lU c (js c q l) i S x b at1 e2 ob)with⟨e,s',b',he,g1,g2⟩|⟨s',b',g1,g2,g3,g4,_⟩
    · rw [g1,g2,aP]
      unfold lU
      rw [bD (by simpa using he),bD (by simpa using he)]
      exact⟨_,rfl,rfl⟩
    · rw [g1,g2,aP]
      unfold lU
      rw [bv (by simp),bv (by simp)]
      have hnum:=g3.rel.kindsLen hc
      rw [g3.rel.kinds]at hnum
      have hn100:(if S.Star then(f7 c b'.out.Tables).length else 0)+S.Items.length<=100:=by
        split<;>omega
      obtain⟨tD,k1,k2,k3'⟩:=K0 hc g3 hn100
      have k3:tD.length<=100:=by rw [k3',xX,g3.len];exact hn100
      rw [k1,k2,aP,aP]
      have ho' :s'.out=b'.out:=g3.rel.out
      by_cases h0:i=0
      · have H:((i:Int)==(0:Int))=true:=by simpa using h0
        simp only [H,gW]
        obtain⟨ht,m1,m2,m3⟩:=KV hc g3.rel S g4 hI.1 hI.2
        rw [<-m3]at hn100
        rw [m1,m2,aP,aP,EU _ _ _ _ _ _ (by show b.Selects.length<=1000;omega),ET _ _ _ _ _ _ (by show b.Selects.length<=1000;omega),ho']
        exact ih x _ (by simp;omega) k3 hn100 ho
      · have H:((i:Int)==(0:Int))=false:=by simpa using h0
        simp only [H,jS,ii]
        rcases Km b.Kinds tD (by omega)with⟨r,u1,u2,u3⟩|⟨z,u1,u2⟩
        · rw [u1,u2,aP,aP,bv (by simp),bv (by simp),EU _ _ _ _ _ _ (by show b.Selects.length<=1000;omega),ET _ _ _ _ _ _ (by show b.Selects.length<=1000;omega),ho']
          exact ih x _ (by simp;omega) (by show r.length<=100;omega) hnl ho
        · rw [u1,u2,aP,aP,bD (by rfl),bD (by rfl)]
          exact⟨_,rfl,rfl⟩
def Py{c:aq}(hs:zp c){q:aN}(hq:LR q): ∃R,lX c q=some R/\DU c q=some R:=by
 unfold lX DU
 rw [pW hs,DV hs,aP,aP]
 cases hc:ER c with
 |false=>exact⟨_,rfl,rfl⟩
 |true=>
  rw [bv (by simp),bv (by simp),AE hq,D0 hq,aP,aP]
  cases H:Ft q with
  |false=>exact⟨_,rfl,rfl⟩
  |true=>
   rw [bv (by simp),bv (by simp)]
   unfold Ft Ol at H
   simp only [gU,li]at H
   exact zY (VS hc) q H.1.2.2.1 q.Selects 0 _ _ H.2.1 (by omega) rfl (by show(0:Nat)<=100;omega) (by show(0:Nat)<=100;omega) rfl
end Go.Proofs.YthbdkceckjihgaaGreatDoor


/- cu of this claim: B23. -/
set_option linter.all false
set_option linter.unusedVariables false
namespace Go.Proofs.YthbdkceckjihgaaGreatDoor
open Go

def QD: ∀(l:List lT) (x b:aQ) (R:aQ×Int×Int),f9 l x b=some R->R.2.2≠0->R.2.1=90
 |[],x,b,R,h,he=>by
  unfold f9 at h
  cases h
  exact absurd rfl he
 |k::l,x,b,R,h,he=>by
  unfold f9 at h
  cases hk:uk k b.Names with
  |none=>rw [hk]at h;cases h
  |some r=>
   rw [hk,aP]at h
   by_cases h0:(r.2 !=(0:Int))=true
   ·rw [bD h0]at h
    cases h;rfl
   ·rw [bv h0]at h
    cases ha:lm b.Order [(⟨r.1,k.Desc⟩:zz)]with
    |none=>rw [ha]at h;cases h
    |some l6=>
     rw [ha,aP]at h
     exact QD l x _ R h he
def MI(z:lT): ∀(l:List lT) (x b:aQ) (R:aQ×Int×Int),f9 l x b=some R->R.2.2≠0->f9 (l++[z]) x b=some R
 |[],x,b,R,h,he=>by
  unfold f9 at h
  cases h
  exact absurd rfl he
 |k::l,x,b,R,h,he=>by
  rw [tR]
  unfold f9 at h ⊢
  cases hk:uk k b.Names with
  |none=>rw [hk]at h;cases h
  |some r=>
   rw [hk,aP]at h
   rw [aP]
   by_cases h0:(r.2 !=(0:Int))=true
   ·rw [bD h0]at h ⊢
    exact h
   ·rw [bv h0]at h ⊢
    cases ha:lm b.Order [(⟨r.1,k.Desc⟩:zz)]with
    |none=>rw [ha]at h;cases h
    |some l6=>
     rw [ha,aP]at h
     rw [aP]
     exact MI z l x _ R h he
def So(c:aq)(q:aN)(S:al)(l:List al)(i:Nat)(x b:aQ):ca c q (S::l) i x b=(iI (Qf c S)).bind fun r3=>
      if(r3.1 !=(0:Int))then
      (some ((⟨[],[],[],[],(0:Int)⟩:aQ),(IntKind.i64.wrap ((IntKind.i64.wrap ((10:Int)*(i:Int)))+r3.2.at_)),r3.1))
      else
      ((fC r3.2).bind fun r4=>
      if((i:Int)==(0:Int))then
      ((ia r3.2).bind fun r5=>
      ga (ca c q l) i r3 x {b with Names:=r5,Kinds:=r4})
      else
      ((km b.Kinds r4).bind fun r6=>
      if(!r6.1)then
      (some ((⟨[],[],[],[],(0:Int)⟩:aQ),(IntKind.i64.wrap ((IntKind.i64.wrap ((10:Int)*(i:Int)))+(6:Int))),(229:Int)))
      else
      (ga (ca c q l) i r3 x ({b with Kinds:=r6.2}:aQ)))):=rfl
def MJ{c:aq}{q q' :aN}{S:al}{l l' :List al}{i:Nat}{P:aQ×Int×Int->Prop}(hn: ∀x b R,ca c q l (i+1) x b=some R->R.2.2≠0->P R->ca c q' l' (i+1) x b=some R)(x b:aQ)(R:aQ×Int×Int)(h:ca c q (S::l) i x b=some R)(he:R.2.2≠0)(hP:P R):ca c q' (S::l') i x b=some R:=by
 rw [So]at h ⊢
 have k1: ∀(r3:Int×ac) (b:aQ),ga (ca c q l) i r3 x b=some R->ga (ca c q' l') i r3 x b=some R:=fun r3 b h=>by
  unfold ga at h ⊢
  cases ha:lm b.Selects [r3.2.out]with
  |none=>rw [ha]at h;cases h
  |some l11=>
   rw [ha,aP]at h
   rw [aP]
   exact hn _ _ R h he hP
 cases ha:iI (Qf c S)with
 |none=>rw [ha]at h;cases h
 |some r3=>
  rw [ha,aP]at h
  rw [aP]
  by_cases h0:(r3.1 !=(0:Int))=true
  ·rw [bD h0]at h ⊢
   exact h
  ·rw [bv h0]at h ⊢
   cases hk:fC r3.2 with
   |none=>rw [hk]at h;cases h
   |some r4=>
    rw [hk,aP]at h
    rw [aP]
    by_cases hi:((i:Int)==(0:Int))=true
    ·rw [bD hi]at h ⊢
     cases hm:ia r3.2 with
     |none=>rw [hm]at h;cases h
     |some r5=>
      rw [hm,aP]at h
      rw [aP]
      exact k1 r3 _ h
    ·rw [bv hi]at h ⊢
     cases hu:km b.Kinds r4 with
     |none=>rw [hu]at h;cases h
     |some r6=>
      rw [hu,aP]at h
      rw [aP]
      by_cases h6:(!r6.1)=true
      ·rw [bD h6]at h ⊢
       exact h
      ·rw [bv h6]at h ⊢
       exact k1 r3 _ h
def Gz{c:aq}{q q' :aN}(m:al): ∀(l:List al) (i:Nat) (x b:aQ) (R:aQ×Int×Int),ca c q l i x b=some R->R.2.2≠0->R.2.1<90->ca c q' (l++[m]) i x b=some R
 |[],i,x,b,R,h,he,hP=>by
  unfold ca at h
  have:=QD _ _ _ _ h he
  omega
 |S::l,i,x,b,R,h,he,hP=>by
  rw [tR]
  exact MJ (P:=fun R=>R.2.1<90) (fun x b R h he hP=>Gz m l (i+1) x b R h he hP) x b R h he hP
def GA{c:aq}{q q' :aN}(z:lT)(hq:q'.Keys=q.Keys++[z]): ∀(l:List al) (i:Nat) (x b:aQ) (R:aQ×Int×Int),ca c q l i x b=some R->R.2.2≠0->ca c q' l i x b=some R
 |[],i,x,b,R,h,he=>by
  unfold ca at h ⊢
  rw [hq]
  exact MI z _ _ _ _ h he
 |S::l,i,x,b,R,h,he=>
  MJ (P:=fun _=>True) (fun x b R h he _=>GA z hq l (i+1) x b R h he) x b R h he trivial
def wY{α:Type}{f:α->α}(hf: ∀x,f (f x)=f x)(m:Nat)(l:List α):(((l.take m).map f).take m).map f=(l.take m).map f:=by
 have e:((l.take m).map f).take m=(l.take m).map f:=nv (by simp;omega)
 rw [e,List.map_map]
 exact Ih fun x _=>hf x
def Dr{α:Type}(m:Nat)(l:List α):(l.take m).take m=l.take m:=nv (by simp;omega)
def Lz(n:cj):vw (vw n)=vw n:=by
 unfold vw
 simp only [Dr]
def v8(t:ce):oS (oS t)=oS t:=by
 show(⟨((((t.Nodes.take 80).map vw).take 80).map vw)⟩:ce)=⟨(t.Nodes.take 80).map vw⟩
 rw [wY Lz]
def Pa(x:eh):JE (JE x)=JE x:=by
 unfold JE;simp only [v8]
def O9(x:kw):H1 (H1 x)=H1 x:=by
 unfold H1;simp only [v8]
def O8(s:al):pi (pi s)=pi s:=by
 unfold pi;simp only [v8,wY Pa,wY O9,Dr]
def OX(q:aN):wz (wz q)=wz q:=by
 unfold wz;simp only [wY O8,Dr]
def NL{c:aq}(hs:zp c)(hc:ER c=true){q:aN}(hq:LR q):lX c q=if Ft q then ca c q q.Selects 0 ⟨[],[],[],[],0⟩ ⟨[],[],[],[],q.Limit⟩else some (⟨[],[],[],[],0⟩,0,180):=by
 unfold lX
 rw [pW hs,aP,hc,bv (by simp),AE hq,aP]
 cases Ft q<;>rfl
def Jw{c:aq}(hs:zp c)(hc:ER c=true){r3:aQ×Int×Int}{q:aN}(hq:LR q)(h:ca c q q.Selects 0 ⟨[],[],[],[],0⟩ ⟨[],[],[],[],q.Limit⟩=some r3):jJ c r3 q=some true:=by
 unfold jJ
 rw [NL hs hc hq]
 cases Ft q with
 |false=>rfl
 |true=>rw [bD rfl,h,aP];simp
def Ff(p:aq)(y:aN)(more:al):qN p y more=some true:=by
 unfold qN
 obtain⟨R,g1,_⟩:=Py (zU p) (Ez y)
 rw [Kj,aP,bv (by simp),PV,aP,Lg,aP,g1,aP]
 by_cases h0:R.2.2=0\/R.2.2=180\/R.2.2=210
 ·rw [bD (by rcases h0 with h|h|h<;>rw [h]<;>rfl)]
 ·rw [not_or,not_or]at h0
  obtain⟨h0,h180,h210⟩:=h0
  rw [bv (by simp;omega),Lg,aP,OX]
  have hsc:=zU p
  have hqs:=Ez y
  have hcb:ER (Dv p)=true:=by
   cases hc:ER (Dv p)with
   |true=>rfl
   |false=>
    unfold lX at g1
    rw [pW hsc,aP,hc,bD (by rfl)]at g1
    cases g1
    exact absurd rfl h210
  have hl:ca (Dv p) (wz y) (wz y).Selects 0 ⟨[],[],[],[],0⟩ ⟨[],[],[],[],(wz y).Limit⟩=some R:=by
   rw [NL hsc hcb hqs]at g1
   cases H:Ft (wz y)with
   |true=>rw [H,bD rfl]at g1;exact g1
   |false=>
    rw [H,bv (by simp)]at g1
    cases g1
    exact absurd rfl h180
  by_cases h90:R.2.1<90
  ·rw [bD (by simpa using h90),Lg,aP]
   have hm:(wz (⟨[more],[],(0:Int)⟩:aN)).Selects=[pi more]:=rfl
   have hS:=Ez (⟨[more],[],(0:Int)⟩:aN) (pi more) (by rw [hm];exact Ik _)
   have h4:(wz y).Selects.length<=4:=by simp [wz];omega
   rw [hm,show fg [pi more] (0:Int)=some (pi more)from rfl,aP,cG (by simp;omega),aP]
   refine Jw hsc hcb (fun s hsm=>?_) (Gz (pi more) _ 0 _ _ R hl h0 h90)
   rcases xK.1 hsm with hsm|hsm
   ·exact hqs s hsm
   ·rw [xN.1 hsm];exact hS
  ·have h4:(wz y).Keys.length<=4:=by simp [wz];omega
   rw [bv (by simpa using h90),cG (by simp;omega),aP]
   exact Jw hsc hcb hqs (GA (q' :={wz y with Keys:=(wz y).Keys++[(⟨[],1,false⟩:lT)]}) (⟨[],1,false⟩:lT) rfl _ 0 _ _ R hl h0)
end Go.Proofs.YthbdkceckjihgaaGreatDoor

