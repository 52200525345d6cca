/- cU of this claim: Q3, J12, J13, J14. -/
import Derived.Test.YtfhhakidodmdfaaGreatDoorJfQ3
set_option linter.all false
namespace Go.Proofs.YtfhhakidodmdfaaGreatDoor
open Go

def LC:List ac→List Int→Bool
 |v::t,k::ks=>(fT v&&(v.Kind==0||v.Kind==k))&&LC t ks
 |[],_=>true
 |_::_,[]=>false
def SJ(kinds:List Int)(r:ci):Bool:=decide (r.length=kinds.length)&&LC r kinds
def LA(rows:List ci)(kinds:List Int):Bool:=decide (rows.length≤12)&&rows.all (SJ kinds)
theorem FP(kinds:List Int)(nx:Option Bool)(r:ci)(hl:r.length=kinds.length): ∀(n i:Nat),r.length-i=n→i≤r.length→mu kinds nx (r.drop i) i=if LC (r.drop i) (kinds.drop i)then nx else some false
 |0,i,h,hi=>by
  rw [Et (by omega)]
  unfold mu LC
  rfl
 |n+1,i,h,hi=>by
  have hlt:i<r.length:=by omega
  have hlk:i<kinds.length:=by omega
  rw [xL hlt,xL hlk]
  unfold mu LC
  rw [FP kinds nx r hl n (i+1) (by omega) (by omega),ol,be,bT,oM hlk]
  simp only [be]
  have e:(r[i].Kind==0)= !(r[i].Kind !=0):=by rw [bne,Bool.not_not]
  have e2:(r[i].Kind==kinds[i])= !(r[i].Kind !=kinds[i]):=by rw [bne,Bool.not_not]
  rw [e,e2]
  cases fT r[i]<;>cases (r[i].Kind !=0)<;>cases (r[i].Kind !=kinds[i])<;>simp
theorem acV(a b:Nat):((a:Int) !=(b:Int))= !decide (a=b):=by
 rw [AZ];simp;omega
theorem FQ(kinds:List Int): ∀rows:List ci,mv kinds rows=some (rows.all (SJ kinds))
 |[]=>rfl
 |r::t=>by
  unfold mv
  rw [acV,xE,SJ,FQ kinds t]
  by_cases h:r.length=kinds.length
  ·have:=FP kinds (some (t.all (SJ kinds))) r h r.length 0 rfl (lS _)
   rw [zz,zz]at this
   rw [xF h,this]
   cases LC r kinds<;>simp
  ·rw [xG h];simp
theorem FZ(rows:List ci)(kinds:List Int):sj rows kinds=some (LA rows kinds):=by
 unfold sj LA
 rw [FQ]
 by_cases h:rows.length≤12
 ·rw [aK (by rw [kM];omega),xF h];rfl
 ·rw [aY (by rw [kM];omega),xG h];rfl

def ru(ks:Nat→List Int)(i:Nat):List Int:=(List.range i).map fun j=>((ks j).length:Int)
variable{ks:Nat→List Int}
theorem Qi{i:Nat}(x:Int)(h:0≤x)(h2:x<(i:Int)):cN (ru ks i) x=some (Mz ks x:Int):=by
 obtain⟨k,hk⟩:=EA h
 subst hk
 have hk:k<i:=by omega
 unfold ru Mz
 rw [bT,aK (by omega)]
 simp [hk]
theorem Kg(ks:Nat→List Int)(i:Nat):ru ks i++[((ks i).length:Int)]=ru ks (i+1):=by
 unfold ru
 rw [List.range_succ,List.map_append]
 rfl
theorem UZ{rows:List (List ci)}(h:1≤rows.length)(h2:rows.length≤100000):cN rows (IntKind.i64.wrap ((rows.length:Int)-1))=some (yw rows):=by
 rw [pN (by omega) (by omega),show(rows.length:Int)-1=((rows.length-1:Nat):Int)from by omega,bT]
 unfold yw
 rw [oM (by omega)]
 rfl
variable{base:dv}{l:bc}{sz:Nat→Nat}
theorem HP{l:bc}{base:dv}{sz:Nat→Nat}{ks:Nat→List Int}(T:xo l base sz ks): ∀(tl:List aj) (i:Nat) (rows:List (List ci)),l.Nodes.drop i=tl→i≤l.Nodes.length→GX ks rows i→gh l tl i ⟨base,rows,ru ks i⟩=some (GQ (lv base ks tl rows))
 |[],i,rows,hd,hi,I=>by
  have h1:=uk hd
  have h2:i=l.Nodes.length:=by omega
  have hlen:=I.len
  have hle:=T.known.le
  have hpos:=T.known.pos
  unfold gh lv GQ
  rw [UZ (rows:=rows) (by omega) (by omega)]
  rfl
 |n::t,i,rows,hd,hi,I=>by
  obtain⟨h1,h2,h3⟩:=kj hd
  obtain⟨n',hn',M⟩:=Xo T h2 I
  rw [h1]at hn'
  injection hn' with hn'
  subst hn'
  have hlen:=I.len
  have hle:=T.known.le
  obtain⟨c1,c2,c3⟩:=PF (base:=base) M.g M.op M.kinds M.ka16 M.kb16 M.scan M.a M.b M.al
  obtain⟨d1,d2⟩:=OX (base:=base) M.g M.op M.kinds M.ka16 M.kb16 M.scan M.a M.b M.al
  have hcode:=QA M ⟨base,rows,ru ks i⟩ rfl rfl (fun x h h2=>Qi x h h2)
  unfold Si at hcode
  unfold gh lv
  rw [hcode,be,M.w]
  simp only []
  unfold kY at c1 c2 c3 ⊢
  generalize t6 n base (xn rows n.A) (xn rows n.B) (if n.B<0 then []else ks n.B.toNat).length=q at c1 c2 c3 d1 d2 ⊢
  have hk2: ∀(rs:List ci) (q' :List ci×Int),su (ks i) rs→rs.length≤8000→oI l (gh l t) i (q',⟨base,rows,ru ks i⟩) rs=some (GQ (lv base ks t (rows++[rs]))):=by
   intro rs q' hrs hrl
   unfold oI
   obtain⟨d,hd1,sI⟩:=Nk T.small T.right T.known h2
   rw [hd1,be,sI,be,cq (by simp;omega),be,cq (by simp [ru];omega),be]
   show gh l t (i+1) ⟨base,rows++[rs],ru ks i++[((ks i).length:Int)]⟩=_
   rw [Kg]
   exact HP T t (i+1) _ h3 h2 (I.next hrs hrl)
  by_cases h0:q.2=0
  ·by_cases hl:8000<q.1.length
   ·have e:D0 n q=([],3):=by unfold D0;rw [aK (by simp [h0]),aY hl]
    rw [aY (by simp only [h0,my,sv,kM,true_and];omega),e]
    rfl
   ·have e:D0 n q=(if n.Op=8 then q.1 else oa q.1,0):=by unfold D0;rw [aK (by simp [h0]),aK hl]
    rw [aK (by simp only [h0,my,sv,kM,true_and];omega),e]
    rw [aK (c:=((if n.Op=8 then q.1 else oa q.1,(0:Int)):List ci×Int).2≠0) (by simp)]
    unfold oJ
    rw [aK (by simp [h0])]
    by_cases h8:n.Op=8
    ·rw [aY h8,aK (by simp [h8])]
     exact hk2 q.1 q d1 (by omega)
    ·rw [aK h8,aY (by simpa using h8),GB (d1.small M.k16 (by omega)),d1.allr M.k16,be]
     exact hk2 (oa q.1) q (d1.perm (iC dV _).symm) (by show(rQ dV q.1).length≤8000;rw [oQ];omega)
  ·have e:D0 n q=([],q.2):=by unfold D0;rw [aY h0]
   rw [aK (by simp [h0]),e]
   rw [aY (c:=(([],q.2):List ci×Int).2≠0) h0]
   unfold oJ GQ
   rw [aY (by simpa using h0)]
   rw [aY (c:=(([],q.2):List (List ci)×Int).2≠0) h0]
theorem YN(ks:Nat→List Int):GX ks [] 0:=⟨rfl,fun j hj=>by omega⟩
def LB(b:dv)(n:aj):Bool:= !(n.Op==1)||(decide (n.Table<(b.Tables.length:Int))&&LA (zU b n) n.Kinds)
def Dv(l:bc)(b:dv):Bool:=l.Nodes.all (LB b)
theorem SI{n:aj}{b:dv}(ht:n.Op=1→0≤n.Table)(f:List ci→List Int→Option Bool)(hf: ∀x y,f x y=some (LA x y)):(if(n.Op==(1:Int))then((if(!(decide ((b.Tables.length:Int)≤n.Table)))then((cN b.Tables n.Table).bind fun e1=>(f e1 n.Kinds).bind fun r1=>some (!r1))else some true).bind fun t1=>some t1)else some false)=some (!LB b n):=by
 unfold LB
 by_cases h1:n.Op=1
 ·have h0:=ht h1
  by_cases hl:n.Table<(b.Tables.length:Int)
  ·have hi:cN b.Tables n.Table=some (zU b n):=by
    unfold zU
    rw [hJ n.Table.toNat (by omega),oM (by omega)]
    rfl
   rw [aY (by simpa using h1),aY (by simp;omega),hi,be,hf,be,be,h1]
   simp [hl]
  ·rw [aY (by simpa using h1),aK (by simp;omega),be,h1]
   simp [hl]
 ·rw [aK (by simpa using h1)]
  simp [h1]
theorem Gj(b:dv): ∀ns:List aj,(∀n∈ns,n.Op=1→0≤n.Table)→oK b ns=some (ns.all (LB b))
 |[],_=>rfl
 |n::t,h=>by
  unfold oK
  rw [SI (h n (kZ ..)) sj FZ,be,Gj b t fun x hx=>h x (kN _ hx),xE]
  cases LB b n<;>rfl
theorem Na(K:Aj l sz ks): ∀n∈l.Nodes,n.Op=1→0≤n.Table:=by
 intro n hn h1
 obtain⟨j,hj,e⟩:=List.mem_iff_getElem.1 hn
 obtain⟨m,F⟩:=K.all j hj
 have:m=n:=by
  have:=F.node
  rw [bT,oM hj,e]at this
  injection this with this
  exact this.symm
 subst this
 exact(I1 h1 F.kinds).2.1
theorem uZ(hS:lQ l)(h:ip l=true)(b:dv):u0 l b=some (Dv l b):=by
 obtain⟨sz,ks,K⟩:=BB hS h
 obtain⟨_,⟨j,hj⟩,_⟩:=rU hS
 rw [h]at hj
 unfold u0
 rw [hj,be,aY rfl,aK (by decide),Gj b _ (Na K)]
 rfl
def E8(b:dv):Prop:= ∀t∈b.Tables,E7 t
theorem Pf: ∀{r:ci} {ks:List Int},r.length=ks.length→LC r ks=true→(∀k∈ks,k≤3)→Uy r→RK ks r
 |[],[],_,_,_,_=>trivial
 |v::t,k::ks,hl,h,hk,hr=>by
  unfold LC at h
  simp only [my,pZ,sv]at h
  have hk3:=hk k (kZ ..)
  refine⟨Fh ?_ (hr v (kZ ..)),?_,Pf (by simpa using hl) h.2 (fun x hx=>hk x (kN _ hx)) fun x hx=>hr x (kN _ hx)⟩
  ·unfold mX
   rw [h.1.1]
   simp only [u9,qR,o8]
   omega
  ·unfold re;omega
 |[],_::_,hl,_,_,_=>by simp at hl
 |_::_,[],hl,_,_,_=>by simp at hl
theorem Ip{b:dv}(hN: ∀n∈l.Nodes,qG n)(hb:E8 b)(h:ip l=true)(hf:Dv l b=true): ∃sz ks,xo l b sz ks:=by
 have hS:lQ l:=fun n hn=>(hN n hn).small
 obtain⟨sz,ks,K⟩:=BB hS h
 refine⟨sz,ks,K,h,hN,?_⟩
 intro j n hj h1
 have hm:n∈l.Nodes:=by rw [bT]at hj;exact rO hj
 have hjl:j<l.Nodes.length:=by
  rw [bT]at hj
  obtain⟨h,_⟩:=ke.1 hj
  exact h
 obtain⟨m,F⟩:=K.all j hjl
 have e:m=n:=by have:=F.node;rw [hj]at this;injection this with this;exact this.symm
 subst e
 obtain⟨k1,t1,t2⟩:=I1 h1 F.kinds
 have hfn:=jW.1 hf m hm
 unfold LB at hfn
 rw [h1]at hfn
 simp only [G4,mL,rM,my,kM]at hfn
 obtain⟨f1,f2⟩:=hfn
 unfold LA at f2
 rw [my,kM,jW]at f2
 have hlt:m.Table.toNat<b.Tables.length:=by omega
 have htab:zU b m=b.Tables[m.Table.toNat]:=by
  unfold zU
  rw [oM hlt]
  rfl
 refine⟨hlt,?_,f2.1⟩
 intro r hr
 have hfr:=f2.2 r hr
 unfold SJ at hfr
 rw [my,kM]at hfr
 rw [k1]
 refine Pf hfr.1 hfr.2 ?_ ?_
 ·intro k hk
  have:=ze (WW hS K.all j hjl) (by rw [k1];exact hk)
  unfold k4 at this
  omega
 ·rw [htab]at hr
  exact hb _ (JQ hlt) r hr
theorem ro(T:xo l base sz ks)(hf:Dv l base=true):gO l base=some (fZ l base ks):=by
 obtain⟨_,⟨j,hj⟩,_⟩:=rU T.small
 rw [T.right]at hj
 unfold gO
 rw [hj,be,aY rfl,aK (by decide),uZ T.small T.right,be,hf,aK (by decide)]
 exact HP T l.Nodes 0 [] rfl (lS _) (YN ks)
theorem yG(hS:lQ l)(h:ip l=false)(base:dv):gO l base=some ([],230):=by
 obtain⟨_,⟨j,hj⟩,_⟩:=rU hS
 rw [h]at hj
 unfold gO
 rw [hj,be]
 rfl
theorem BV(hS:lQ l)(h:ip l=true)(hf:Dv l base=false):gO l base=some ([],250):=by
 obtain⟨_,⟨j,hj⟩,_⟩:=rU hS
 rw [h]at hj
 unfold gO
 rw [hj,be,aY rfl,aK (by decide),uZ hS h,be,hf]
 rfl
theorem Uv(T:xo l base sz ks):su (ks (l.Nodes.length-1)) (fZ l base ks).1∧(fZ l base ks).1.length≤8000∧((fZ l base ks).2=0∨fZ l base ks=([],3)∨(fZ l base ks=([],140)∧l.Nodes.any Im=true)):=by
 obtain⟨h1,h2⟩:=E2 T l.Nodes 0 [] rfl (lS _) (YN ks)
 have hpos:=T.known.pos
 unfold fZ GQ
 by_cases h0:(lv base ks l.Nodes []).2=0
 ·rw [aK (by simp [h0])]
  have I:=h1 h0
  have hl:=I.len
  have:=I.ok (l.Nodes.length-1) (by omega)
  refine⟨?_,?_,.inl rfl⟩
  ·show su _ (yw _)
   unfold yw
   rw [hl]
   exact this.1
  ·show(yw _).length≤8000
   unfold yw
   rw [hl]
   exact this.2
 ·rw [aY h0]
  refine⟨(fun r hr=>by cases hr),by simp,?_⟩
  rcases h2 with q|q|q
  ·exact absurd q h0
  ·rw [q];exact .inr (.inl rfl)
  ·rw [q.1];exact .inr (.inr ⟨rfl,q.2⟩)

theorem yk(nx:Option Bool)(v:Bool)(hn:nx=some v): ∀r:ci,∃w,lB nx r=some w∧(w=false→v=false∧ ∀x∈r,x.S.length≤200)
 |[]=>⟨v,hn,fun h=>⟨h,by simp⟩⟩
 |e::t=>by
  unfold lB
  by_cases h:200<e.S.length
  ·exact⟨true,by rw [aY (by rw [kM];omega)],fun h=>by cases h⟩
  ·obtain⟨w,h1,h2⟩:=yk nx v hn t
   refine⟨w,by rw [aK (by rw [kM];omega)];exact h1,fun hw=>⟨(h2 hw).1,?_⟩⟩
   intro x hx
   rcases fx.1 hx with q|q
   ·rw [q];omega
   ·exact(h2 hw).2 x q
theorem yl: ∀l:List ci,∃w,iK l=some w∧(w=false→ ∀r∈l,r.length≤30)
 |[]=>⟨false,rfl,fun _=>by simp⟩
 |e::t=>by
  unfold iK
  by_cases h:30<e.length
  ·exact⟨true,by rw [aY (by rw [kM];omega)],fun h=>by cases h⟩
  ·obtain⟨v,h1,h2⟩:=yl t
   obtain⟨w,h3,h4⟩:=yk (iK t) v h1 e
   refine⟨w,by rw [aK (by rw [kM];omega)];exact h3,fun hw=>?_⟩
   intro x hx
   rcases fx.1 hx with q|q
   ·rw [q];omega
   ·exact h2 (h4 hw).1 x q
theorem KO(l:List ci)(m:Nat): ∃w,qq l (m:Int)=some w∧(w=false→l.length≤m∧ ∀r∈l,r.length≤30):=by
 unfold qq
 by_cases h:m<l.length
 ·exact⟨true,by rw [aY (by rw [kM];omega)],fun h=>by cases h⟩
 ·obtain⟨w,h1,h2⟩:=yl l
  exact⟨w,by rw [aK (by rw [kM];omega)];exact h1,fun hw=>⟨by omega,h2 hw⟩⟩
def ZN(b:dv):Prop:=b.Tables.length≤10∧ ∀t∈b.Tables,t.length≤30∧ ∀r∈t,r.length≤30
theorem yn: ∀l:List (List ci),∃w,lD l=some w∧(w=false→ ∀t∈l,t.length≤30∧ ∀r∈t,r.length≤30)
 |[]=>⟨false,rfl,fun _=>by simp⟩
 |e::t=>by
  unfold lD
  obtain⟨w,h1,h2⟩:=KO e 30
  rw [show((30:Nat):Int)=30 from rfl]at h1
  rw [h1,be]
  cases w with
  |true=>exact⟨true,rfl,fun h=>by cases h⟩
  |false=>
   obtain⟨v,h3,h4⟩:=yn t
   refine⟨v,by rw [aK (by decide)];exact h3,fun hv=>?_⟩
   intro x hx
   rcases fx.1 hx with q|q
   ·rw [q];exact h2 rfl
   ·exact h4 hv x q
theorem KP(b:dv): ∃w,qr b=some w∧(w=false→ZN b):=by
 unfold qr
 by_cases h:10<b.Tables.length
 ·exact⟨true,by rw [aY (by rw [kM];omega)],fun h=>by cases h⟩
 ·obtain⟨w,h1,h2⟩:=yn b.Tables
  exact⟨w,by rw [aK (by rw [kM];omega)];exact h1,fun hw=>⟨by omega,h2 hw⟩⟩
theorem ym: ∀l:List bp,∃w,lC l=some w
 |[]=>⟨false,rfl⟩
 |e::t=>by
  unfold lC
  obtain⟨w,h⟩:=ym t
  split
  ·exact⟨true,rfl⟩
  ·exact⟨w,h⟩
theorem uO(e:bJ): ∃w,kU e=some w∧(w=false→e.Nodes.length≤100):=by
 unfold kU
 by_cases h:100<e.Nodes.length
 ·exact⟨true,by rw [aY (by rw [kM];omega)],fun h=>by cases h⟩
 ·obtain⟨w,h1⟩:=ym e.Nodes
  exact⟨w,by rw [aK (by rw [kM];omega)];exact h1,fun hw=>by omega⟩
theorem Fk(b:dv)(nx:Int→Option Bool)(hn: ∀x,∃w,nx x=some w)(P:Prop)(hP: ∀x,nx x=some false→P)(e:aj)(rows:Int): ∀l:List hU,∃w,nO b nx e rows l=some w∧(w=false→P∧ ∀g∈l,g.Arg.Nodes.length≤100)
 |[]=>by
  unfold nO
  by_cases h:(((e.Op==(1:Int))&&(decide ((0:Int)≤e.Table)))&&(decide (e.Table<(b.Tables.length:Int))))=true
  ·rw [aY h]
   simp only [my,kM]at h
   rw [hJ (xs:=b.Tables) e.Table.toNat (by omega),oM (by omega),be]
   obtain⟨w,hw⟩:=hn (IntKind.i64.wrap (rows*(IntKind.i64.wrap ((b.Tables[e.Table.toNat].length:Int)+(1:Int)))))
   exact⟨w,hw,fun h=>⟨hP _ (by rw [hw,h]),by simp⟩⟩
  ·rw [aK h]
   obtain⟨w,hw⟩:=hn rows
   exact⟨w,hw,fun h=>⟨hP _ (by rw [hw,h]),by simp⟩⟩
 |g::t=>by
  unfold nO
  obtain⟨v,h1,h2⟩:=uO g.Arg
  rw [h1,be]
  cases v with
  |true=>exact⟨true,rfl,fun h=>by cases h⟩
  |false=>
   obtain⟨w,h3,h4⟩:=Fk b nx hn P hP e rows t
   refine⟨w,by rw [aK (by decide)];exact h3,fun hw=>⟨(h4 hw).1,?_⟩⟩
   intro x hx
   rcases fx.1 hx with q|q
   ·rw [q];exact h2 rfl
   ·exact(h4 hw).2 x q
theorem Fl(b:dv)(nx:Int→Option Bool)(hn: ∀x,∃w,nx x=some w)(P:Prop)(hP: ∀x,nx x=some false→P)(e:aj)(rows:Int): ∀l:List bJ,∃w,nP b nx e rows l=some w∧(w=false→P∧(∀g∈e.Aggs,g.Arg.Nodes.length≤100)∧ ∀x∈l,x.Nodes.length≤100)
 |[]=>by
  unfold nP
  obtain⟨w,h1,h2⟩:=Fk b nx hn P hP e rows e.Aggs
  exact⟨w,h1,fun h=>⟨(h2 h).1,(h2 h).2,by simp⟩⟩
 |g::t=>by
  unfold nP
  obtain⟨v,h1,h2⟩:=uO g
  rw [h1,be]
  cases v with
  |true=>exact⟨true,rfl,fun h=>by cases h⟩
  |false=>
   obtain⟨w,h3,h4⟩:=Fl b nx hn P hP e rows t
   refine⟨w,by rw [aK (by decide)];exact h3,fun hw=>⟨(h4 hw).1,(h4 hw).2.1,?_⟩⟩
   intro x hx
   rcases fx.1 hx with q|q
   ·rw [q];exact h2 rfl
   ·exact(h4 hw).2.2 x q
structure yM(n:aj):Prop where
 kinds:n.Kinds.length≤20
 keys:n.Keys.length≤20
 order:n.Order.length≤20
 items:n.Items.length≤20
 aggs:n.Aggs.length≤20
 cond:n.Cond.Nodes.length≤100
 exprs: ∀e∈n.Items,e.Nodes.length≤100
 args: ∀g∈n.Aggs,g.Arg.Nodes.length≤100
theorem AD(b:dv): ∀(l:List aj) (rows:Int),∃w,kw b l rows=some w∧(w=false→ ∀n∈l,yM n)
 |[],rows=>⟨_,rfl,fun _=>by simp⟩
 |n::t,rows=>by
  unfold kw
  obtain⟨v,h1,h2⟩:=uO n.Cond
  by_cases hb:(((((decide ((20:Int)<(n.Kinds.length:Int)))||(decide ((20:Int)<(n.Keys.length:Int))))||(decide ((20:Int)<(n.Order.length:Int))))||(decide ((20:Int)<(n.Items.length:Int))))||(decide ((20:Int)<(n.Aggs.length:Int))))=true
  ·rw [hb]
   exact⟨true,rfl,fun h=>by cases h⟩
  ·rw [rN.2 hb,h1]
   simp only [Ak,eg,be]
   cases v with
   |true=>exact⟨true,rfl,fun h=>by cases h⟩
   |false=>
    simp only [pZ,kM,not_or,Int.not_lt]at hb
    obtain⟨w,h3,h4⟩:=Fl b (kw b t) (fun x=>by obtain⟨w,h,_⟩:=AD b t x;exact⟨w,h⟩) (∀m∈t,yM m) (fun x hx=>by obtain⟨w,h,h'⟩:=AD b t x;rw [hx]at h;injection h with h;exact h' h.symm) n rows n.Items
    refine⟨w,by rw [aK (by decide)];exact h3,fun hw=>?_⟩
    obtain⟨p1,p2,p3⟩:=h4 hw
    intro m hm
    rcases fx.1 hm with q|q
    ·rw [q]
     exact⟨by omega,by omega,by omega,by omega,by omega,h2 rfl,p3,p2⟩
    ·exact p1 m q
theorem UE(l:bc)(b:dv): ∃w,wM l b=some w∧(w=false→l.Nodes.length≤30∧ ∀n∈l.Nodes,yM n):=by
 unfold wM
 by_cases h:30<l.Nodes.length
 ·exact⟨true,by rw [aY (by rw [kM];omega)],fun h=>by cases h⟩
 ·obtain⟨w,h1,h2⟩:=AD b l.Nodes 1
  exact⟨w,by rw [aK (by rw [kM];omega)];exact h1,fun hw=>⟨by omega,h2 hw⟩⟩
structure rgN(n:aj):Prop where
 cond:IE n.Cond.Nodes
 items: ∀e∈n.Items,IE e.Nodes
 args: ∀g∈n.Aggs,IE g.Arg.Nodes
def rgL(l:bc):Prop:= ∀n∈l.Nodes,rgN n
theorem yM.small{n:aj}(h:yM n):iv n:=
 ⟨by have:=h.cond;omega,by have:=h.kinds;omega,by have:=h.keys;omega,by have:=h.aggs;omega,by have:=h.items;omega,by have:=h.order;omega,fun g hg=>by have:=h.args g hg;omega,fun e he=>by have:=h.exprs e he;omega⟩
theorem yM.g{n:aj}(h:yM n)(r:rgN n):qG n:=
 ⟨h.small,⟨by have:=h.cond;omega,r.cond⟩,fun e he=>⟨by have:=h.exprs e he;omega,r.items e he⟩,fun g hg=>⟨by have:=h.args g hg;omega,r.args g hg⟩⟩
def ZW:bc:=⟨[⟨1,-1,-1,0,[2],false,⟨[]⟩,[],[],[],[],0⟩,⟨4,0,-1,0,[],false,⟨[]⟩,[],[⟨1,⟨[]⟩⟩,⟨3,⟨[⟨2,-1,-1,0,⟨0,0,0,[]⟩⟩]⟩⟩],[],[],0⟩]⟩
def wkB:dv:=⟨[[[⟨2,1,0,[]⟩],[⟨2,2,0,[]⟩],[⟨0,0,0,[]⟩]]]⟩
theorem Rv:ip ZW=true:=by kernel_rfl
theorem Uj(ks:Nat→List Int):fZ ZW wkB ks=([[iV 3,iV 3]],0):=by
 kernel_rfl

theorem Kf: ∀n∈ZW.Nodes,yM n∧rgN n:=by
 intro n hn
 have h0:IE ([]:List bp):=fun x hx=>by cases hx
 have h1:IE [(⟨2,-1,-1,0,⟨0,0,0,[]⟩⟩:bp)]:=by
  intro x hx
  rw [A3.1 hx]
  unfold r64
  show -9223372036854775808≤(0:Int)∧(0:Int)≤9223372036854775807
  omega
 unfold ZW at hn
 simp only [fx,G2,or_false]at hn
 rcases hn with h|h
 ·subst h
  exact⟨⟨by decide,by decide,by decide,by decide,by decide,by decide,fun e he=>by(cases he),fun g hg=>by(cases hg)⟩,⟨h0,fun e he=>by(cases he),fun g hg=>by(cases hg)⟩⟩
 ·subst h
  refine⟨⟨by decide,by decide,by decide,by decide,by decide,by decide,fun e he=>by(cases he),fun g hg=>?_⟩,⟨h0,fun e he=>by(cases he),fun g hg=>?_⟩⟩
  ·simp only [fx,G2,or_false]at hg
   rcases hg with q|q<;>rw [q]<;>decide
  ·simp only [fx,G2,or_false]at hg
   rcases hg with q|q
   ·rw [q];exact h0
   ·rw [q];exact h1
theorem Uk:E8 wkB:=by
 intro t ht r hr v hv
 unfold wkB at ht
 simp only [fx,G2,or_false]at ht
 subst ht
 simp only [fx,G2,or_false]at hr
 unfold r64
 rcases hr with q|q|q<;>subst q<;>rw [A3.1 hv]<;>decide
theorem MF:uQ=some true:=by
 obtain⟨sz,ks,T⟩:=Ip (fun n hn=>(Kf n hn).1.g (Kf n hn).2) Uk Rv (by kernel_rfl)
 have h:=ro T (by kernel_rfl)
 rw [Uj]at h
 unfold uQ
 show((gO ZW wkB).bind _)=_
 rw [h]
 rfl
theorem Gm(r:ci)(order:List fq):ul r order=some (KY order r):=by
 unfold ul
 rw [sJ (f:=s4 r) (g:=fun o=>decide (o.Col<0)||decide ((r.length:Int)≤o.Col)) (fun o=>rfl),be]
 congr 1
 unfold KY
 induction order with
 |nil=>rfl
 |cons o t ih=>
  rw [vu,xE,Bool.not_or,ih]
  congr 1
  by_cases h1:o.Col<0
  ·have: ¬0≤o.Col:=by omega
   rw [xF h1,xG this];rfl
  ·by_cases h2:(r.length:Int)≤o.Col
   ·have: ¬o.Col<(r.length:Int):=by omega
    simp [h2]
   ·have h3:0≤o.Col:=by omega
    have h4:o.Col<(r.length:Int):=by omega
    simp [h1,h2,h3,h4]
theorem D3(a b:ci)(order:List fq):qC a b order=some (if(KY order a&&dM a)&&(KY order b&&dM b)then decide (qD order a b<0)else false):=by
 unfold qC
 have hr:qA [a,b]=some (dM a&&dM b):=by
  rw [D2]
  unfold uq
  simp
 rw [hr,be]
 simp only [Gm,be]
 cases ha:dM a with
 |false=>simp
 |true=>
  cases hb:dM b with
  |false=>simp
  |true=>
   cases hoa:KY order a with
   |false=>simp
   |true=>
    cases hob:KY order b with
    |false=>simp
    |true=>
     have hby:vX order=some (mH order):=rfl
     simp only [Bool.and_self,mL,Ak,eg,be,gm,d9,hby]
     rw [TC ha hb order hoa hob,be,Jy,be]
     rcases(vZ order).rng a b with q|q|q<;>rw [q]<;>decide
end Go.Proofs.YtfhhakidodmdfaaGreatDoor

