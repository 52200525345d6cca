/- cP of this claim: J12, J13, J14. -/
import Derived.Test.YtfhhakidodmdfaaGreatDoorJgQ3
set_option linter.all false
namespace Go.Proofs.YtfhhakidodmdfaaGreatDoor
open Go

def ra(ks:Nat→List Int)(i:Nat):List Int:=(List.range i).map fun j=>((ks j).length:Int)
variable{ks:Nat→List Int}
theorem Px{i:Nat}(x:Int)(h:0≤x)(h2:x<(i:Int)):cN (ra ks i) x=some (BU ks x:Int):=by
 obtain⟨k,hk⟩:=D5 h
 subst hk
 have hk:k<i:=by omega
 unfold ra BU
 rw [bW,aL (by omega)]
 simp [hk]
theorem JB(ks:Nat→List Int)(i:Nat):ra ks i++[((ks i).length:Int)]=ra ks (i+1):=by
 unfold ra
 rw [List.range_succ,List.map_append]
 rfl
theorem Uk{rows:List (List cu)}(h:1≤rows.length)(h2:rows.length≤100000):cN rows (IntKind.i64.wrap ((rows.length:Int)-1))=some (xQ rows):=by
 rw [pF (by omega) (by omega),show(rows.length:Int)-1=((rows.length-1:Nat):Int)from by omega,bW]
 unfold xQ
 rw [oO (by omega)]
 rfl
variable{base:dx}{l:bc}{sz:Nat→Nat}
theorem Hp{l:bc}{base:dx}{sz:Nat→Nat}{ks:Nat→List Int}(T:wQ l base sz ks): ∀(tl:List aj) (i:Nat) (rows:List (List cu)),l.Nodes.drop i=tl→i≤l.Nodes.length→Gw ks rows i→fU l tl i ⟨base,rows,ra ks i⟩=some (Gs (gu base ks tl rows))
 |[],i,rows,hd,hi,I=>by
  have h1:=tR hd
  have h2:i=l.Nodes.length:=by omega
  have hlen:=I.len
  have hle:=T.known.le
  have hpos:=T.known.pos
  unfold fU gu Gs
  rw [Uk (rows:=rows) (by omega) (by omega)]
  rfl
 |n::t,i,rows,hd,hi,I=>by
  obtain⟨h1,h2,h3⟩:=kM hd
  obtain⟨n',hn',M⟩:=Wy T h2 I
  rw [h1]at hn'
  injection hn' with hn'
  subst hn'
  have hlen:=I.len
  have hle:=T.known.le
  obtain⟨c1,c2,c3⟩:=O3 (base:=base) M.g M.op M.kinds M.ka16 M.kb16 M.scan M.a M.b M.al
  obtain⟨d1,d2⟩:=Oc (base:=base) M.g M.op M.kinds M.ka16 M.kb16 M.scan M.a M.b M.al
  have hcode:=PQ M ⟨base,rows,ra ks i⟩ rfl rfl (fun x h h2=>Px x h h2)
  unfold RB at hcode
  unfold fU gu
  rw [hcode,bf,M.w]
  simp only []
  unfold iw at c1 c2 c3 ⊢
  generalize uu n base (qB rows n.A) (qB rows n.B) (if n.B<0 then []else ks n.B.toNat).length=q at c1 c2 c3 d1 d2 ⊢
  have hk2: ∀(rs:List cu) (q' :List cu×Int),rQ (ks i) rs→rs.length≤8000→ov l (fU l t) i (q',⟨base,rows,ra ks i⟩) rs=some (Gs (gu base ks t (rows++[rs]))):=by
   intro rs q' hrs hrl
   unfold ov
   obtain⟨d,Z3,sd⟩:=Mx T.small T.right T.known h2
   rw [Z3,bf,sd,bf,co (by simp;omega),bf,co (by simp [ra];omega),bf]
   show fU l t (i+1) ⟨base,rows++[rs],ra ks i++[((ks i).length:Int)]⟩=_
   rw [JB]
   exact Hp T t (i+1) _ h3 h2 (I.next hrs hrl)
  by_cases h0:q.2=0
  ·by_cases hl:8000<q.1.length
   ·have e:Fp n q=([],3):=by unfold Fp;rw [aL (by simp [h0]),aY hl]
    rw [aY (by simp only [h0,mi,sY,kX,true_and];omega),e]
    rfl
   ·have e:Fp n q=(if n.Op=8 then q.1 else wX q.1,0):=by unfold Fp;rw [aL (by simp [h0]),aL hl]
    rw [aL (by simp only [h0,mi,sY,kX,true_and];omega),e]
    rw [aL (c:=((if n.Op=8 then q.1 else wX q.1,(0:Int)):List cu×Int).2≠0) (by simp)]
    unfold ow
    rw [aL (by simp [h0])]
    by_cases h8:n.Op=8
    ·rw [aY h8,aL (by simp [h8])]
     exact hk2 q.1 q d1 (by omega)
    ·rw [aL h8,aY (by simpa using h8),zw (d1.small M.k16 (by omega)),d1.allr M.k16,bf]
     exact hk2 (wX q.1) q (d1.perm (nW eG _).symm) (by show(uP eG q.1).length≤8000;rw [vY];omega)
  ·have e:Fp n q=([],q.2):=by unfold Fp;rw [aY h0]
   rw [aL (by simp [h0]),e]
   rw [aY (c:=(([],q.2):List cu×Int).2≠0) h0]
   unfold ow Gs
   rw [aY (by simpa using h0)]
   rw [aY (c:=(([],q.2):List (List cu)×Int).2≠0) h0]
theorem Yg(ks:Nat→List Int):Gw ks [] 0:=⟨rfl,fun j hj=>by omega⟩
def IM(b:dx)(n:aj):Bool:= !(n.Op==1)||(decide (n.Table<(b.Tables.length:Int))&&KW (zm b n) n.Kinds)
def C9(l:bc)(b:dx):Bool:=l.Nodes.all (IM b)
theorem RY{n:aj}{b:dx}(ht:n.Op=1→0≤n.Table)(f:List cu→List Int→Option Bool)(hf: ∀x y,f x y=some (KW x y)):(if(n.Op==(1:Int))then((if(!(decide ((b.Tables.length:Int)≤n.Table)))then((cN b.Tables n.Table).bind fun e1=>(f e1 n.Kinds).bind fun r1=>some (!r1))else some true).bind fun t1=>some t1)else some false)=some (!IM b n):=by
 unfold IM
 by_cases h1:n.Op=1
 ·have h0:=ht h1
  by_cases hl:n.Table<(b.Tables.length:Int)
  ·have hi:cN b.Tables n.Table=some (zm b n):=by
    unfold zm
    rw [gO n.Table.toNat (by omega),oO (by omega)]
    rfl
   rw [aY (by simpa using h1),aY (by simp;omega),hi,bf,hf,bf,bf,h1]
   simp [hl]
  ·rw [aY (by simpa using h1),aL (by simp;omega),bf,h1]
   simp [hl]
 ·rw [aL (by simpa using h1)]
  simp [h1]
theorem FT(b:dx): ∀ns:List aj,(∀n∈ns,n.Op=1→0≤n.Table)→ox b ns=some (ns.all (IM b))
 |[],_=>rfl
 |n::t,h=>by
  unfold ox
  rw [RY (h n (kO ..)) rJ Fx,bf,FT b t fun x hx=>h x (kN _ hx),zM]
  cases IM b n<;>rfl
theorem Mp(K:Dl l sz ks): ∀n∈l.Nodes,n.Op=1→0≤n.Table:=by
 intro n hn h1
 obtain⟨j,hj,e⟩:=List.mem_iff_getElem.1 hn
 obtain⟨m,F⟩:=K.all j hj
 have:m=n:=by
  have:=F.node
  rw [bW,oO hj,e]at this
  injection this with this
  exact this.symm
 subst this
 exact(IB h1 F.kinds).2.1
theorem uG(hS:kQ l)(h:iP l=true)(b:dx):uH l b=some (C9 l b):=by
 obtain⟨sz,ks,K⟩:=xR hS h
 obtain⟨_,⟨j,hj⟩,_⟩:=rq hS
 rw [h]at hj
 unfold uH
 rw [hj,bf,aY rfl,aL (by decide),FT b _ (Mp K)]
 rfl
def EL(b:dx):Prop:= ∀t∈b.Tables,EK t
theorem OA: ∀{r:cu} {ks:List Int},r.length=ks.length→KX r ks=true→(∀k∈ks,k≤3)→TT r→RK ks r
 |[],[],_,_,_,_=>trivial
 |v::t,k::ks,hl,h,hk,hr=>by
  unfold KX at h
  simp only [mi,pW,sY]at h
  have hk3:=hk k (kO ..)
  refine⟨ET ?_ (hr v (kO ..)),?_,OA (by simpa using hl) h.2 (fun x hx=>hk x (kN _ hx)) fun x hx=>hr x (kN _ hx)⟩
  ·unfold mM
   rw [h.1.1]
   simp only [uM,qD,oU]
   omega
  ·unfold qR;omega
 |[],_::_,hl,_,_,_=>by simp at hl
 |_::_,[],hl,_,_,_=>by simp at hl
theorem H0{b:dx}(hN: ∀n∈l.Nodes,qC n)(hb:EL b)(h:iP l=true)(hf:C9 l b=true): ∃sz ks,wQ l b sz ks:=by
 have hS:kQ l:=fun n hn=>(hN n hn).small
 obtain⟨sz,ks,K⟩:=xR hS h
 refine⟨sz,ks,K,h,hN,?_⟩
 intro j n hj h1
 have hm:n∈l.Nodes:=by rw [bW]at hj;exact rU hj
 have hjl:j<l.Nodes.length:=by
  rw [bW]at hj
  obtain⟨h,_⟩:=jM.1 hj
  exact h
 obtain⟨m,F⟩:=K.all j hjl
 have e:m=n:=by have:=F.node;rw [hj]at this;injection this with this;exact this.symm
 subst e
 obtain⟨k1,t1,t2⟩:=IB h1 F.kinds
 have hfn:=jZ.1 hf m hm
 unfold IM at hfn
 rw [h1]at hfn
 simp only [GC,mw,se,mi,kX]at hfn
 obtain⟨f1,f2⟩:=hfn
 unfold KW at f2
 rw [mi,kX,jZ]at f2
 have hlt:m.Table.toNat<b.Tables.length:=by omega
 have htab:zm b m=b.Tables[m.Table.toNat]:=by
  unfold zm
  rw [oO hlt]
  rfl
 refine⟨hlt,?_,f2.1⟩
 intro r hr
 have hfr:=f2.2 r hr
 unfold RZ at hfr
 rw [mi,kX]at hfr
 rw [k1]
 refine OA hfr.1 hfr.2 ?_ ?_
 ·intro k hk
  have:=yI (Wg hS K.all j hjl) (by rw [k1];exact hk)
  unfold k4 at this
  omega
 ·rw [htab]at hr
  exact hb _ (List.getElem_mem hlt) r hr
theorem q5(T:wQ l base sz ks)(hf:C9 l base=true):hJ l base=some (ld l base ks):=by
 obtain⟨_,⟨j,hj⟩,_⟩:=rq T.small
 rw [T.right]at hj
 unfold hJ
 rw [hj,bf,aY rfl,aL (by decide),uG T.small T.right,bf,hf,aL (by decide)]
 exact Hp T l.Nodes 0 [] rfl (lF _) (Yg ks)
theorem Fy(hS:kQ l)(h:iP l=false)(base:dx):hJ l base=some ([],230):=by
 obtain⟨_,⟨j,hj⟩,_⟩:=rq hS
 rw [h]at hj
 unfold hJ
 rw [hj,bf]
 rfl
theorem BD(hS:kQ l)(h:iP l=true)(hf:C9 l base=false):hJ l base=some ([],250):=by
 obtain⟨_,⟨j,hj⟩,_⟩:=rq hS
 rw [h]at hj
 unfold hJ
 rw [hj,bf,aY rfl,aL (by decide),uG hS h,bf,hf]
 rfl
theorem TP(T:wQ l base sz ks):rQ (ks (l.Nodes.length-1)) (ld l base ks).1∧(ld l base ks).1.length≤8000∧((ld l base ks).2=0∨ld l base ks=([],3)∨(ld l base ks=([],140)∧l.Nodes.any HX=true)):=by
 obtain⟨h1,h2⟩:=EE T l.Nodes 0 [] rfl (lF _) (Yg ks)
 have hpos:=T.known.pos
 unfold ld Gs
 by_cases h0:(gu base ks l.Nodes []).2=0
 ·rw [aL (by simp [h0])]
  have I:=h1 h0
  have hl:=I.len
  have:=I.ok (l.Nodes.length-1) (by omega)
  refine⟨?_,?_,.inl rfl⟩
  ·show rQ _ (xQ _)
   unfold xQ
   rw [hl]
   exact this.1
  ·show(xQ _).length≤8000
   unfold xQ
   rw [hl]
   exact this.2
 ·rw [aY h0]
  refine⟨(fun r hr=>by cases hr),by simp,?_⟩
  rcases h2 with q|q|q
  ·exact absurd q h0
  ·rw [q];exact .inr (.inl rfl)
  ·rw [q.1];exact .inr (.inr ⟨rfl,q.2⟩)

theorem xH(nx:Option Bool)(v:Bool)(hn:nx=some v): ∀r:cu,∃w,lk nx r=some w∧(w=false→v=false∧ ∀x∈r,x.S.length≤200)
 |[]=>⟨v,hn,fun h=>⟨h,by simp⟩⟩
 |e::t=>by
  unfold lk
  by_cases h:200<e.S.length
  ·exact⟨true,by rw [aY (by rw [kX];omega)],fun h=>by cases h⟩
  ·obtain⟨w,h1,h2⟩:=xH nx v hn t
   refine⟨w,by rw [aL (by rw [kX];omega)];exact h1,fun hw=>⟨(h2 hw).1,?_⟩⟩
   intro x hx
   rcases fk.1 hx with q|q
   ·rw [q];omega
   ·exact(h2 hw).2 x q
theorem xI: ∀l:List cu,∃w,iu l=some w∧(w=false→ ∀r∈l,r.length≤30)
 |[]=>⟨false,rfl,fun _=>by simp⟩
 |e::t=>by
  unfold iu
  by_cases h:30<e.length
  ·exact⟨true,by rw [aY (by rw [kX];omega)],fun h=>by cases h⟩
  ·obtain⟨v,h1,h2⟩:=xI t
   obtain⟨w,h3,h4⟩:=xH (iu t) v h1 e
   refine⟨w,by rw [aL (by rw [kX];omega)];exact h3,fun hw=>?_⟩
   intro x hx
   rcases fk.1 hx with q|q
   ·rw [q];omega
   ·exact h2 (h4 hw).1 x q
theorem Ko(l:List cu)(m:Nat): ∃w,qh l (m:Int)=some w∧(w=false→l.length≤m∧ ∀r∈l,r.length≤30):=by
 unfold qh
 by_cases h:m<l.length
 ·exact⟨true,by rw [aY (by rw [kX];omega)],fun h=>by cases h⟩
 ·obtain⟨w,h1,h2⟩:=xI l
  exact⟨w,by rw [aL (by rw [kX];omega)];exact h1,fun hw=>⟨by omega,h2 hw⟩⟩
def Ze(b:dx):Prop:=b.Tables.length≤10∧ ∀t∈b.Tables,t.length≤30∧ ∀r∈t,r.length≤30
theorem xL: ∀l:List (List cu),∃w,lq l=some w∧(w=false→ ∀t∈l,t.length≤30∧ ∀r∈t,r.length≤30)
 |[]=>⟨false,rfl,fun _=>by simp⟩
 |e::t=>by
  unfold lq
  obtain⟨w,h1,h2⟩:=Ko e 30
  rw [show((30:Nat):Int)=30 from rfl]at h1
  rw [h1,bf]
  cases w with
  |true=>exact⟨true,rfl,fun h=>by cases h⟩
  |false=>
   obtain⟨v,h3,h4⟩:=xL t
   refine⟨v,by rw [aL (by decide)];exact h3,fun hv=>?_⟩
   intro x hx
   rcases fk.1 hx with q|q
   ·rw [q];exact h2 rfl
   ·exact h4 hv x q
theorem Kp(b:dx): ∃w,qi b=some w∧(w=false→Ze b):=by
 unfold qi
 by_cases h:10<b.Tables.length
 ·exact⟨true,by rw [aY (by rw [kX];omega)],fun h=>by cases h⟩
 ·obtain⟨w,h1,h2⟩:=xL b.Tables
  exact⟨w,by rw [aL (by rw [kX];omega)];exact h1,fun hw=>⟨by omega,h2 hw⟩⟩
theorem xJ: ∀l:List bo,∃w,ln l=some w
 |[]=>⟨false,rfl⟩
 |e::t=>by
  unfold ln
  obtain⟨w,h⟩:=xJ t
  split
  ·exact⟨true,rfl⟩
  ·exact⟨w,h⟩
theorem xK(e:bG): ∃w,lV e=some w∧(w=false→e.Nodes.length≤100):=by
 unfold lV
 by_cases h:100<e.Nodes.length
 ·exact⟨true,by rw [aY (by rw [kX];omega)],fun h=>by cases h⟩
 ·obtain⟨w,h1⟩:=xJ e.Nodes
  exact⟨w,by rw [aL (by rw [kX];omega)];exact h1,fun hw=>by omega⟩
theorem EW(b:dx)(nx:Int→Option Bool)(hn: ∀x,∃w,nx x=some w)(P:Prop)(hP: ∀x,nx x=some false→P)(e:aj)(rows:Int): ∀l:List gS,∃w,nw b nx e rows l=some w∧(w=false→P∧ ∀g∈l,g.Arg.Nodes.length≤100)
 |[]=>by
  unfold nw
  by_cases h:(((e.Op==(1:Int))&&(decide ((0:Int)≤e.Table)))&&(decide (e.Table<(b.Tables.length:Int))))=true
  ·rw [aY h]
   simp only [mi,kX]at h
   rw [gO (xs:=b.Tables) e.Table.toNat (by omega),oO (by omega),bf]
   obtain⟨w,hw⟩:=hn (IntKind.i64.wrap (rows*(IntKind.i64.wrap ((b.Tables[e.Table.toNat].length:Int)+(1:Int)))))
   exact⟨w,hw,fun h=>⟨hP _ (by rw [hw,h]),by simp⟩⟩
  ·rw [aL h]
   obtain⟨w,hw⟩:=hn rows
   exact⟨w,hw,fun h=>⟨hP _ (by rw [hw,h]),by simp⟩⟩
 |g::t=>by
  unfold nw
  obtain⟨v,h1,h2⟩:=xK g.Arg
  rw [h1,bf]
  cases v with
  |true=>exact⟨true,rfl,fun h=>by cases h⟩
  |false=>
   obtain⟨w,h3,h4⟩:=EW b nx hn P hP e rows t
   refine⟨w,by rw [aL (by decide)];exact h3,fun hw=>⟨(h4 hw).1,?_⟩⟩
   intro x hx
   rcases fk.1 hx with q|q
   ·rw [q];exact h2 rfl
   ·exact(h4 hw).2 x q
theorem EX(b:dx)(nx:Int→Option Bool)(hn: ∀x,∃w,nx x=some w)(P:Prop)(hP: ∀x,nx x=some false→P)(e:aj)(rows:Int): ∀l:List bG,∃w,ny b nx e rows l=some w∧(w=false→P∧(∀g∈e.Aggs,g.Arg.Nodes.length≤100)∧ ∀x∈l,x.Nodes.length≤100)
 |[]=>by
  unfold ny
  obtain⟨w,h1,h2⟩:=EW b nx hn P hP e rows e.Aggs
  exact⟨w,h1,fun h=>⟨(h2 h).1,(h2 h).2,by simp⟩⟩
 |g::t=>by
  unfold ny
  obtain⟨v,h1,h2⟩:=xK g
  rw [h1,bf]
  cases v with
  |true=>exact⟨true,rfl,fun h=>by cases h⟩
  |false=>
   obtain⟨w,h3,h4⟩:=EX b nx hn P hP e rows t
   refine⟨w,by rw [aL (by decide)];exact h3,fun hw=>⟨(h4 hw).1,(h4 hw).2.1,?_⟩⟩
   intro x hx
   rcases fk.1 hx with q|q
   ·rw [q];exact h2 rfl
   ·exact(h4 hw).2.2 x q
structure yf(n:aj):Prop where
 kinds:n.Kinds.length≤20
 keys:n.Keys.length≤20
 order:n.Order.length≤20
 items:n.Items.length≤20
 aggs:n.Aggs.length≤20
 cond:n.Cond.Nodes.length≤100
 exprs: ∀e∈n.Items,e.Nodes.length≤100
 args: ∀g∈n.Aggs,g.Arg.Nodes.length≤100
theorem Ad(b:dx): ∀(l:List aj) (rows:Int),∃w,kg b l rows=some w∧(w=false→ ∀n∈l,yf n)
 |[],rows=>⟨_,rfl,fun _=>by simp⟩
 |n::t,rows=>by
  unfold kg
  obtain⟨v,h1,h2⟩:=xK n.Cond
  by_cases hb:(((((decide ((20:Int)<(n.Kinds.length:Int)))||(decide ((20:Int)<(n.Keys.length:Int))))||(decide ((20:Int)<(n.Order.length:Int))))||(decide ((20:Int)<(n.Items.length:Int))))||(decide ((20:Int)<(n.Aggs.length:Int))))=true
  ·rw [hb]
   exact⟨true,rfl,fun h=>by cases h⟩
  ·rw [rR.2 hb,h1]
   simp only [BW,ep,bf]
   cases v with
   |true=>exact⟨true,rfl,fun h=>by cases h⟩
   |false=>
    simp only [pW,kX,not_or,Int.not_lt]at hb
    obtain⟨w,h3,h4⟩:=EX b (kg b t) (fun x=>by obtain⟨w,h,_⟩:=Ad b t x;exact⟨w,h⟩) (∀m∈t,yf m) (fun x hx=>by obtain⟨w,h,h'⟩:=Ad b t x;rw [hx]at h;injection h with h;exact h' h.symm) n rows n.Items
    refine⟨w,by rw [aL (by decide)];exact h3,fun hw=>?_⟩
    obtain⟨p1,p2,p3⟩:=h4 hw
    intro m hm
    rcases fk.1 hm with q|q
    ·rw [q]
     exact⟨by omega,by omega,by omega,by omega,by omega,h2 rfl,p3,p2⟩
    ·exact p1 m q
theorem TZ(l:bc)(b:dx): ∃w,wl l b=some w∧(w=false→l.Nodes.length≤30∧ ∀n∈l.Nodes,yf n):=by
 unfold wl
 by_cases h:30<l.Nodes.length
 ·exact⟨true,by rw [aY (by rw [kX];omega)],fun h=>by cases h⟩
 ·obtain⟨w,h1,h2⟩:=Ad b l.Nodes 1
  exact⟨w,by rw [aL (by rw [kX];omega)];exact h1,fun hw=>⟨by omega,h2 hw⟩⟩
structure rgN(n:aj):Prop where
 cond:If n.Cond.Nodes
 items: ∀e∈n.Items,If e.Nodes
 args: ∀g∈n.Aggs,If g.Arg.Nodes
def rgL(l:bc):Prop:= ∀n∈l.Nodes,rgN n
theorem yf.small{n:aj}(h:yf n):ic n:=
 ⟨by have:=h.cond;omega,by have:=h.kinds;omega,by have:=h.keys;omega,by have:=h.aggs;omega,by have:=h.items;omega,by have:=h.order;omega,fun g hg=>by have:=h.args g hg;omega,fun e he=>by have:=h.exprs e he;omega⟩
theorem yf.g{n:aj}(h:yf n)(r:rgN n):qC n:=
 ⟨h.small,⟨by have:=h.cond;omega,r.cond⟩,fun e he=>⟨by have:=h.exprs e he;omega,r.items e he⟩,fun g hg=>⟨by have:=h.args g hg;omega,r.args g hg⟩⟩
def Zm:bc:=⟨[⟨1,-1,-1,0,[2],false,⟨[]⟩,[],[],[],[],0⟩,⟨4,0,-1,0,[],false,⟨[]⟩,[],[⟨1,⟨[]⟩⟩,⟨3,⟨[⟨2,-1,-1,0,⟨0,0,0,[]⟩⟩]⟩⟩],[],[],0⟩]⟩
def wkB:dx:=⟨[[[⟨2,1,0,[]⟩],[⟨2,2,0,[]⟩],[⟨0,0,0,[]⟩]]]⟩
theorem QO:iP Zm=true:=by kernel_rfl
theorem Tz(ks:Nat→List Int):ld Zm wkB ks=([[iV 3,iV 3]],0):=by
 kernel_rfl

theorem JA: ∀n∈Zm.Nodes,yf n∧rgN n:=by
 intro n hn
 have h0:If ([]:List bo):=fun x hx=>by cases hx
 have h1:If [(⟨2,-1,-1,0,⟨0,0,0,[]⟩⟩:bo)]:=by
  intro x hx
  rw [zN.1 hx]
  unfold r64
  show -9223372036854775808≤(0:Int)∧(0:Int)≤9223372036854775807
  omega
 unfold Zm at hn
 simp only [fk,GA,or_false]at hn
 rcases hn with h|h
 ·subst h
  exact⟨⟨by decide,by decide,by decide,by decide,by decide,by decide,fun e he=>by(cases he),fun g hg=>by(cases hg)⟩,⟨h0,fun e he=>by(cases he),fun g hg=>by(cases hg)⟩⟩
 ·subst h
  refine⟨⟨by decide,by decide,by decide,by decide,by decide,by decide,fun e he=>by(cases he),fun g hg=>?_⟩,⟨h0,fun e he=>by(cases he),fun g hg=>?_⟩⟩
  ·simp only [fk,GA,or_false]at hg
   rcases hg with q|q<;>rw [q]<;>decide
  ·simp only [fk,GA,or_false]at hg
   rcases hg with q|q
   ·rw [q];exact h0
   ·rw [q];exact h1
theorem TA:EL wkB:=by
 intro t ht r hr v hv
 unfold wkB at ht
 simp only [fk,GA,or_false]at ht
 subst ht
 simp only [fk,GA,or_false]at hr
 unfold r64
 rcases hr with q|q|q<;>subst q<;>rw [zN.1 hv]<;>decide
theorem LX:uw=some true:=by
 obtain⟨sz,ks,T⟩:=H0 (fun n hn=>(JA n hn).1.g (JA n hn).2) TA QO (by kernel_rfl)
 have h:=q5 T (by kernel_rfl)
 rw [Tz]at h
 unfold uw
 show((hJ Zm wkB).bind _)=_
 rw [h]
 rfl
end Go.Proofs.YtfhhakidodmdfaaGreatDoor

