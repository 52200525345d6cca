/- cT of this claim: J12, J13, J14. -/
import Derived.Test.YtfhhakidodmdfaaGreatDoorJeQ3
set_option linter.all false
namespace Go.Proofs.YtfhhakidodmdfaaGreatDoor
open Go

def qI(ks:Nat→List Int)(i:Nat):List Int:=(List.range i).map fun j=>((ks j).length:Int)
variable{ks:Nat→List Int}
theorem Pd{i:Nat}(x:Int)(h:0≤x)(h2:x<(i:Int)):cR (qI ks i) x=some (Xl ks x:Int):=by
 obtain⟨k,hk⟩:=DH h
 subst hk
 have hk:k<i:=by omega
 unfold qI Xl
 rw [bW,aM (by omega)]
 simp [hk]
theorem Ji(ks:Nat→List Int)(i:Nat):qI ks i++[((ks i).length:Int)]=qI ks (i+1):=by
 unfold qI
 rw [List.range_succ,List.map_append]
 rfl
theorem TT{rows:List (List cA)}(h:1≤rows.length)(h2:rows.length≤100000):cR rows (IntKind.i64.wrap ((rows.length:Int)-1))=some (EQ rows):=by
 rw [tL (by omega) (by omega),show(rows.length:Int)-1=((rows.length-1:Nat):Int)from by omega,bW]
 unfold EQ
 rw [ox (by omega)]
 rfl
variable{base:cB}{l:bE}{sz:Nat→Nat}
theorem G5{l:bE}{base:cB}{sz:Nat→Nat}{ks:Nat→List Int}(T:ze l base sz ks): ∀(tl:List ak) (i:Nat) (rows:List (List cA)),l.Nodes.drop i=tl→i≤l.Nodes.length→Gc ks rows i→fV l tl i ⟨base,rows,qI ks i⟩=some (PO (xc base ks tl rows))
 |[],i,rows,hd,hi,I=>by
  have h1:=tg hd
  have h2:i=l.Nodes.length:=by omega
  have hlen:=I.len
  have hle:=T.known.le
  have hpos:=T.known.pos
  unfold fV xc PO
  rw [TT (rows:=rows) (by omega) (by omega)]
  rfl
 |n::t,i,rows,hd,hi,I=>by
  obtain⟨h1,h2,h3⟩:=kw hd
  obtain⟨n',hn',M⟩:=V7 T h2 I
  rw [h1]at hn'
  injection hn' with hn'
  subst hn'
  have hlen:=I.len
  have hle:=T.known.le
  obtain⟨c1,c2,c3⟩:=OF (base:=base) M.g M.op M.kinds M.ka16 M.kb16 M.scan M.a M.b M.al
  obtain⟨d1,d2⟩:=NT (base:=base) M.g M.op M.kinds M.ka16 M.kb16 M.scan M.a M.b M.al
  have hcode:=Pw M ⟨base,rows,qI ks i⟩ rfl rfl (fun x h h2=>Pd x h h2)
  unfold Rj at hcode
  unfold fV xc
  rw [hcode,ba,M.w]
  simp only []
  unfold uj at c1 c2 c3 ⊢
  generalize u7 n base (Dv rows n.A) (Dv rows n.B) (if n.B<0 then []else ks n.B.toNat).length=q at c1 c2 c3 d1 d2 ⊢
  have hk2: ∀(rs:List cA) (q' :List cA×Int),rm (ks i) rs→rs.length≤8000→nZ l (fV l t) i (q',⟨base,rows,qI ks i⟩) rs=some (PO (xc base ks t (rows++[rs]))):=by
   intro rs q' hrs hrl
   unfold nZ
   obtain⟨d,ZC,rD⟩:=Mi T.small T.right T.known h2
   rw [ZC,ba,rD,ba,bY (by simp;omega),ba,bY (by simp [qI];omega),ba]
   show fV l t (i+1) ⟨base,rows++[rs],qI ks i++[((ks i).length:Int)]⟩=_
   rw [Ji]
   exact G5 T t (i+1) _ h3 h2 (I.next hrs hrl)
  by_cases h0:q.2=0
  ·by_cases hl:8000<q.1.length
   ·have e:F8 n q=([],3):=by unfold F8;rw [aM (by simp [h0]),aX hl]
    rw [aX (by simp only [h0,lX,sx,kI,true_and];omega),e]
    rfl
   ·have e:F8 n q=(if n.Op=8 then q.1 else wA q.1,0):=by unfold F8;rw [aM (by simp [h0]),aM hl]
    rw [aM (by simp only [h0,lX,sx,kI,true_and];omega),e]
    rw [aM (c:=((if n.Op=8 then q.1 else wA q.1,(0:Int)):List cA×Int).2≠0) (by simp)]
    unfold n7
    rw [aM (by simp [h0])]
    by_cases h8:n.Op=8
    ·rw [aX h8,aM (by simp [h8])]
     exact hk2 q.1 q d1 (by omega)
    ·rw [aM h8,aX (by simpa using h8),FS (d1.small M.k16 (by omega)),d1.allr M.k16,ba]
     exact hk2 (wA q.1) q (d1.perm (lD eE _).symm) (by show(rC eE q.1).length≤8000;rw [xQ];omega)
  ·have e:F8 n q=([],q.2):=by unfold F8;rw [aX h0]
   rw [aM (by simp [h0]),e]
   rw [aX (c:=(([],q.2):List cA×Int).2≠0) h0]
   unfold n7 PO
   rw [aX (by simpa using h0)]
   rw [aX (c:=(([],q.2):List (List cA)×Int).2≠0) h0]
theorem Zy(ks:Nat→List Int):Gc ks [] 0:=⟨rfl,fun j hj=>by omega⟩
def E1(b:cB)(n:ak):Bool:= !(n.Op==1)||(decide (n.Table<(b.Tables.length:Int))&&GX (kS b n) n.Kinds)
def AX(l:bE)(b:cB):Bool:=l.Nodes.all (E1 b)
theorem RF{n:ak}{b:cB}(ht:n.Op=1→0≤n.Table)(f:List cA→List Int→Option Bool)(hf: ∀x y,f x y=some (GX x y)):(if(n.Op==(1:Int))then((if(!(decide ((b.Tables.length:Int)≤n.Table)))then((cR b.Tables n.Table).bind fun e1=>(f e1 n.Kinds).bind fun r1=>some (!r1))else some true).bind fun t1=>some t1)else some false)=some (!E1 b n):=by
 unfold E1
 by_cases h1:n.Op=1
 ·have h0:=ht h1
  by_cases hl:n.Table<(b.Tables.length:Int)
  ·have hi:cR b.Tables n.Table=some (kS b n):=by
    unfold kS
    rw [gJ n.Table.toNat (by omega),ox (by omega)]
    rfl
   rw [aX (by simpa using h1),aX (by simp;omega),hi,ba,hf,ba,ba,h1]
   simp [hl]
  ·rw [aX (by simpa using h1),aM (by simp;omega),ba,h1]
   simp [hl]
 ·rw [aM (by simpa using h1)]
  simp [h1]
theorem Fx(b:cB): ∀ns:List ak,(∀n∈ns,n.Op=1→0≤n.Table)→n8 b ns=some (ns.all (E1 b))
 |[],_=>rfl
 |n::t,h=>by
  unfold n8
  rw [RF (h n (kE ..)) rf E9,ba,Fx b t fun x hx=>h x (ky _ hx),yB]
  cases E1 b n<;>rfl
theorem Ea(K:Hk l sz ks): ∀n∈l.Nodes,n.Op=1→0≤n.Table:=by
 intro n hn h1
 obtain⟨j,hj,e⟩:=List.mem_iff_getElem.1 hn
 obtain⟨m,F⟩:=K.all j hj
 have:m=n:=by
  have:=F.node
  rw [bW,ox hj,e]at this
  injection this with this
  exact this.symm
 subst this
 exact(Ie h1 F.kinds).2.1
theorem ug(hS:mP l)(h:lg l=true)(b:cB):uh l b=some (AX l b):=by
 obtain⟨sz,ks,K⟩:=AN hS h
 obtain⟨_,⟨j,hj⟩,_⟩:=sR hS
 rw [h]at hj
 unfold uh
 rw [hj,ba,aX rfl,aM (by decide),Fx b _ (Ea K)]
 rfl
def HS(b:cB):Prop:= ∀t∈b.Tables,El t
theorem Oa: ∀{r:cA} {ks:List Int},r.length=ks.length→KG r ks=true→(∀k∈ks,k≤3)→Tp r→RK ks r
 |[],[],_,_,_,_=>trivial
 |v::t,k::ks,hl,h,hk,hr=>by
  unfold KG at h
  simp only [lX,p9,sx]at h
  have hk3:=hk k (kE ..)
  refine⟨Ev ?_ (hr v (kE ..)),?_,Oa (by simpa using hl) h.2 (fun x hx=>hk x (ky _ hx)) fun x hx=>hr x (ky _ hx)⟩
  ·unfold mA
   rw [h.1.1]
   simp only [uE,qT,pE]
   omega
  ·unfold qt;omega
 |[],_::_,hl,_,_,_=>by simp at hl
 |_::_,[],hl,_,_,_=>by simp at hl
theorem Nv{b:cB}(hN: ∀n∈l.Nodes,zh n)(hb:HS b)(h:lg l=true)(hf:AX l b=true): ∃sz ks,ze l b sz ks:=by
 have hS:mP l:=fun n hn=>(hN n hn).small
 obtain⟨sz,ks,K⟩:=AN hS h
 refine⟨sz,ks,K,h,hN,?_⟩
 intro j n hj h1
 have hm:n∈l.Nodes:=by rw [bW]at hj;exact qU hj
 have hjl:j<l.Nodes.length:=by
  rw [bW]at hj
  obtain⟨h,_⟩:=jL.1 hj
  exact h
 obtain⟨m,F⟩:=K.all j hjl
 have e:m=n:=by have:=F.node;rw [hj]at this;injection this with this;exact this.symm
 subst e
 obtain⟨k1,t1,t2⟩:=Ie h1 F.kinds
 have hfn:=jx.1 hf m hm
 unfold E1 at hfn
 rw [h1]at hfn
 simp only [Gi,mi,rE,lX,kI]at hfn
 obtain⟨f1,f2⟩:=hfn
 unfold GX at f2
 rw [lX,kI,jx]at f2
 have hlt:m.Table.toNat<b.Tables.length:=by omega
 have htab:kS b m=b.Tables[m.Table.toNat]:=by
  unfold kS
  rw [ox hlt]
  rfl
 refine⟨hlt,?_,f2.1⟩
 intro r hr
 have hfr:=f2.2 r hr
 unfold RH at hfr
 rw [lX,kI]at hfr
 rw [k1]
 refine Oa hfr.1 hfr.2 ?_ ?_
 ·intro k hk
  have:=yg (VO hS K.all j hjl) (by rw [k1];exact hk)
  unfold k4 at this
  omega
 ·rw [htab]at hr
  exact hb _ (List.getElem_mem hlt) r hr
theorem qD(T:ze l base sz ks)(hf:AX l base=true):jo l base=some (sM l base ks):=by
 obtain⟨_,⟨j,hj⟩,_⟩:=sR T.small
 rw [T.right]at hj
 unfold jo
 rw [hj,ba,aX rfl,aM (by decide),ug T.small T.right,ba,hf,aM (by decide)]
 exact G5 T l.Nodes 0 [] rfl (lw _) (Zy ks)
theorem Fa(hS:mP l)(h:lg l=false)(base:cB):jo l base=some ([],230):=by
 obtain⟨_,⟨j,hj⟩,_⟩:=sR hS
 rw [h]at hj
 unfold jo
 rw [hj,ba]
 rfl
theorem Bb(hS:mP l)(h:lg l=true)(hf:AX l base=false):jo l base=some ([],250):=by
 obtain⟨_,⟨j,hj⟩,_⟩:=sR hS
 rw [h]at hj
 unfold jo
 rw [hj,ba,aX rfl,aM (by decide),ug hS h,ba,hf]
 rfl
theorem Tl(T:ze l base sz ks):rm (ks (l.Nodes.length-1)) (sM l base ks).1∧(sM l base ks).1.length≤8000∧((sM l base ks).2=0∨sM l base ks=([],3)∨(sM l base ks=([],140)∧l.Nodes.any HC=true)):=by
 obtain⟨h1,h2⟩:=JF T l.Nodes 0 [] rfl (lw _) (Zy ks)
 have hpos:=T.known.pos
 unfold sM PO
 by_cases h0:(xc base ks l.Nodes []).2=0
 ·rw [aM (by simp [h0])]
  have I:=h1 h0
  have hl:=I.len
  have:=I.ok (l.Nodes.length-1) (by omega)
  refine⟨?_,?_,.inl rfl⟩
  ·show rm _ (EQ _)
   unfold EQ
   rw [hl]
   exact this.1
  ·show(EQ _).length≤8000
   unfold EQ
   rw [hl]
   exact this.2
 ·rw [aX h0]
  refine⟨(fun r hr=>by cases hr),by simp,?_⟩
  rcases h2 with q|q|q
  ·exact absurd q h0
  ·rw [q];exact .inr (.inl rfl)
  ·rw [q.1];exact .inr (.inr ⟨rfl,q.2⟩)

theorem xi(nx:Option Bool)(v:Bool)(hn:nx=some v): ∀r:cA,∃w,k5 nx r=some w∧(w=false→v=false∧ ∀x∈r,x.S.length≤200)
 |[]=>⟨v,hn,fun h=>⟨h,by simp⟩⟩
 |e::t=>by
  unfold k5
  by_cases h:200<e.S.length
  ·exact⟨true,by rw [aX (by rw [kI];omega)],fun h=>by cases h⟩
  ·obtain⟨w,h1,h2⟩:=xi nx v hn t
   refine⟨w,by rw [aM (by rw [kI];omega)];exact h1,fun hw=>⟨(h2 hw).1,?_⟩⟩
   intro x hx
   rcases fh.1 hx with q|q
   ·rw [q];omega
   ·exact(h2 hw).2 x q
theorem xj: ∀l:List cA,∃w,ii l=some w∧(w=false→ ∀r∈l,r.length≤30)
 |[]=>⟨false,rfl,fun _=>by simp⟩
 |e::t=>by
  unfold ii
  by_cases h:30<e.length
  ·exact⟨true,by rw [aX (by rw [kI];omega)],fun h=>by cases h⟩
  ·obtain⟨v,h1,h2⟩:=xj t
   obtain⟨w,h3,h4⟩:=xi (ii t) v h1 e
   refine⟨w,by rw [aM (by rw [kI];omega)];exact h3,fun hw=>?_⟩
   intro x hx
   rcases fh.1 hx with q|q
   ·rw [q];omega
   ·exact h2 (h4 hw).1 x q
theorem Ka(l:List cA)(m:Nat): ∃w,pS l (m:Int)=some w∧(w=false→l.length≤m∧ ∀r∈l,r.length≤30):=by
 unfold pS
 by_cases h:m<l.length
 ·exact⟨true,by rw [aX (by rw [kI];omega)],fun h=>by cases h⟩
 ·obtain⟨w,h1,h2⟩:=xj l
  exact⟨w,by rw [aM (by rw [kI];omega)];exact h1,fun hw=>⟨by omega,h2 hw⟩⟩
def YK(b:cB):Prop:=b.Tables.length≤10∧ ∀t∈b.Tables,t.length≤30∧ ∀r∈t,r.length≤30
theorem xm: ∀l:List (List cA),∃w,k7 l=some w∧(w=false→ ∀t∈l,t.length≤30∧ ∀r∈t,r.length≤30)
 |[]=>⟨false,rfl,fun _=>by simp⟩
 |e::t=>by
  unfold k7
  obtain⟨w,h1,h2⟩:=Ka e 30
  rw [show((30:Nat):Int)=30 from rfl]at h1
  rw [h1,ba]
  cases w with
  |true=>exact⟨true,rfl,fun h=>by cases h⟩
  |false=>
   obtain⟨v,h3,h4⟩:=xm t
   refine⟨v,by rw [aM (by decide)];exact h3,fun hv=>?_⟩
   intro x hx
   rcases fh.1 hx with q|q
   ·rw [q];exact h2 rfl
   ·exact h4 hv x q
theorem Kb(b:cB): ∃w,pT b=some w∧(w=false→YK b):=by
 unfold pT
 by_cases h:10<b.Tables.length
 ·exact⟨true,by rw [aX (by rw [kI];omega)],fun h=>by cases h⟩
 ·obtain⟨w,h1,h2⟩:=xm b.Tables
  exact⟨w,by rw [aM (by rw [kI];omega)];exact h1,fun hw=>⟨by omega,h2 hw⟩⟩
theorem xk: ∀l:List bm,∃w,k6 l=some w
 |[]=>⟨false,rfl⟩
 |e::t=>by
  unfold k6
  obtain⟨w,h⟩:=xk t
  split
  ·exact⟨true,rfl⟩
  ·exact⟨w,h⟩
theorem xl(e:bK): ∃w,lN e=some w∧(w=false→e.Nodes.length≤100):=by
 unfold lN
 by_cases h:100<e.Nodes.length
 ·exact⟨true,by rw [aX (by rw [kI];omega)],fun h=>by cases h⟩
 ·obtain⟨w,h1⟩:=xk e.Nodes
  exact⟨w,by rw [aM (by rw [kI];omega)];exact h1,fun hw=>by omega⟩
theorem Ey(b:cB)(nx:Int→Option Bool)(hn: ∀x,∃w,nx x=some w)(P:Prop)(hP: ∀x,nx x=some false→P)(e:ak)(rows:Int): ∀l:List gM,∃w,ni b nx e rows l=some w∧(w=false→P∧ ∀g∈l,g.Arg.Nodes.length≤100)
 |[]=>by
  unfold ni
  by_cases h:(((e.Op==(1:Int))&&(decide ((0:Int)≤e.Table)))&&(decide (e.Table<(b.Tables.length:Int))))=true
  ·rw [aX h]
   simp only [lX,kI]at h
   rw [gJ (xs:=b.Tables) e.Table.toNat (by omega),ox (by omega),ba]
   obtain⟨w,hw⟩:=hn (IntKind.i64.wrap (rows*(IntKind.i64.wrap ((b.Tables[e.Table.toNat].length:Int)+(1:Int)))))
   exact⟨w,hw,fun h=>⟨hP _ (by rw [hw,h]),by simp⟩⟩
  ·rw [aM h]
   obtain⟨w,hw⟩:=hn rows
   exact⟨w,hw,fun h=>⟨hP _ (by rw [hw,h]),by simp⟩⟩
 |g::t=>by
  unfold ni
  obtain⟨v,h1,h2⟩:=xl g.Arg
  rw [h1,ba]
  cases v with
  |true=>exact⟨true,rfl,fun h=>by cases h⟩
  |false=>
   obtain⟨w,h3,h4⟩:=Ey b nx hn P hP e rows t
   refine⟨w,by rw [aM (by decide)];exact h3,fun hw=>⟨(h4 hw).1,?_⟩⟩
   intro x hx
   rcases fh.1 hx with q|q
   ·rw [q];exact h2 rfl
   ·exact(h4 hw).2 x q
theorem Ez(b:cB)(nx:Int→Option Bool)(hn: ∀x,∃w,nx x=some w)(P:Prop)(hP: ∀x,nx x=some false→P)(e:ak)(rows:Int): ∀l:List bK,∃w,nj b nx e rows l=some w∧(w=false→P∧(∀g∈e.Aggs,g.Arg.Nodes.length≤100)∧ ∀x∈l,x.Nodes.length≤100)
 |[]=>by
  unfold nj
  obtain⟨w,h1,h2⟩:=Ey b nx hn P hP e rows e.Aggs
  exact⟨w,h1,fun h=>⟨(h2 h).1,(h2 h).2,by simp⟩⟩
 |g::t=>by
  unfold nj
  obtain⟨v,h1,h2⟩:=xl g
  rw [h1,ba]
  cases v with
  |true=>exact⟨true,rfl,fun h=>by cases h⟩
  |false=>
   obtain⟨w,h3,h4⟩:=Ez b nx hn P hP e rows t
   refine⟨w,by rw [aM (by decide)];exact h3,fun hw=>⟨(h4 hw).1,(h4 hw).2.1,?_⟩⟩
   intro x hx
   rcases fh.1 hx with q|q
   ·rw [q];exact h2 rfl
   ·exact(h4 hw).2.2 x q
structure xH(n:ak):Prop where
 kinds:n.Kinds.length≤20
 keys:n.Keys.length≤20
 order:n.Order.length≤20
 items:n.Items.length≤20
 aggs:n.Aggs.length≤20
 cond:n.Cond.Nodes.length≤100
 exprs: ∀e∈n.Items,e.Nodes.length≤100
 args: ∀g∈n.Aggs,g.Arg.Nodes.length≤100
theorem zG(b:cB): ∀(l:List ak) (rows:Int),∃w,jW b l rows=some w∧(w=false→ ∀n∈l,xH n)
 |[],rows=>⟨_,rfl,fun _=>by simp⟩
 |n::t,rows=>by
  unfold jW
  obtain⟨v,h1,h2⟩:=xl n.Cond
  by_cases hb:(((((decide ((20:Int)<(n.Kinds.length:Int)))||(decide ((20:Int)<(n.Keys.length:Int))))||(decide ((20:Int)<(n.Order.length:Int))))||(decide ((20:Int)<(n.Items.length:Int))))||(decide ((20:Int)<(n.Aggs.length:Int))))=true
  ·rw [hb]
   exact⟨true,rfl,fun h=>by cases h⟩
  ·rw [rn.2 hb,h1]
   simp only [Bs,eK,ba]
   cases v with
   |true=>exact⟨true,rfl,fun h=>by cases h⟩
   |false=>
    simp only [p9,kI,not_or,Int.not_lt]at hb
    obtain⟨w,h3,h4⟩:=Ez b (jW b t) (fun x=>by obtain⟨w,h,_⟩:=zG b t x;exact⟨w,h⟩) (∀m∈t,xH m) (fun x hx=>by obtain⟨w,h,h'⟩:=zG b t x;rw [hx]at h;injection h with h;exact h' h.symm) n rows n.Items
    refine⟨w,by rw [aM (by decide)];exact h3,fun hw=>?_⟩
    obtain⟨p1,p2,p3⟩:=h4 hw
    intro m hm
    rcases fh.1 hm with q|q
    ·rw [q]
     exact⟨by omega,by omega,by omega,by omega,by omega,h2 rfl,p3,p2⟩
    ·exact p1 m q
theorem Tx(l:bE)(b:cB): ∃w,vO l b=some w∧(w=false→l.Nodes.length≤30∧ ∀n∈l.Nodes,xH n):=by
 unfold vO
 by_cases h:30<l.Nodes.length
 ·exact⟨true,by rw [aX (by rw [kI];omega)],fun h=>by cases h⟩
 ·obtain⟨w,h1,h2⟩:=zG b l.Nodes 1
  exact⟨w,by rw [aM (by rw [kI];omega)];exact h1,fun hw=>⟨by omega,h2 hw⟩⟩
structure rgN(n:ak):Prop where
 cond:JI n.Cond.Nodes
 items: ∀e∈n.Items,JI e.Nodes
 args: ∀g∈n.Aggs,JI g.Arg.Nodes
def rgL(l:bE):Prop:= ∀n∈l.Nodes,rgN n
theorem xH.small{n:ak}(h:xH n):iW n:=
 ⟨by have:=h.cond;omega,by have:=h.kinds;omega,by have:=h.keys;omega,by have:=h.aggs;omega,by have:=h.items;omega,by have:=h.order;omega,fun g hg=>by have:=h.args g hg;omega,fun e he=>by have:=h.exprs e he;omega⟩
theorem xH.g{n:ak}(h:xH n)(r:rgN n):zh n:=
 ⟨h.small,⟨by have:=h.cond;omega,r.cond⟩,fun e he=>⟨by have:=h.exprs e he;omega,r.items e he⟩,fun g hg=>⟨by have:=h.args g hg;omega,r.args g hg⟩⟩
def YS:bE:=⟨[⟨1,-1,-1,0,[2],false,⟨[]⟩,[],[],[],[],0⟩,⟨4,0,-1,0,[],false,⟨[]⟩,[],[⟨1,⟨[]⟩⟩,⟨3,⟨[⟨2,-1,-1,0,⟨0,0,0,[]⟩⟩]⟩⟩],[],[],0⟩]⟩
def wkB:cB:=⟨[[[⟨2,1,0,[]⟩],[⟨2,2,0,[]⟩],[⟨0,0,0,[]⟩]]]⟩
theorem Qy:lg YS=true:=by kernel_rfl
theorem S9(ks:Nat→List Int):sM YS wkB ks=([[iV 3,iV 3]],0):=by
 kernel_rfl

theorem Jh: ∀n∈YS.Nodes,xH n∧rgN n:=by
 intro n hn
 have h0:JI ([]:List bm):=fun x hx=>by cases hx
 have h1:JI [(⟨2,-1,-1,0,⟨0,0,0,[]⟩⟩:bm)]:=by
  intro x hx
  rw [CX.1 hx]
  unfold r64
  show -9223372036854775808≤(0:Int)∧(0:Int)≤9223372036854775807
  omega
 unfold YS at hn
 simp only [fh,Gg,or_false]at hn
 rcases hn with h|h
 ·subst h
  exact⟨⟨by decide,by decide,by decide,by decide,by decide,by decide,fun e he=>by(cases he),fun g hg=>by(cases hg)⟩,⟨h0,fun e he=>by(cases he),fun g hg=>by(cases hg)⟩⟩
 ·subst h
  refine⟨⟨by decide,by decide,by decide,by decide,by decide,by decide,fun e he=>by(cases he),fun g hg=>?_⟩,⟨h0,fun e he=>by(cases he),fun g hg=>?_⟩⟩
  ·simp only [fh,Gg,or_false]at hg
   rcases hg with q|q<;>rw [q]<;>decide
  ·simp only [fh,Gg,or_false]at hg
   rcases hg with q|q
   ·rw [q];exact h0
   ·rw [q];exact h1
theorem Ta:HS wkB:=by
 intro t ht r hr v hv
 unfold wkB at ht
 simp only [fh,Gg,or_false]at ht
 subst ht
 simp only [fh,Gg,or_false]at hr
 unfold r64
 rcases hr with q|q|q<;>subst q<;>rw [CX.1 hv]<;>decide
theorem LE:tZ=some true:=by
 obtain⟨sz,ks,T⟩:=Nv (fun n hn=>(Jh n hn).1.g (Jh n hn).2) Ta Qy (by kernel_rfl)
 have h:=qD T (by kernel_rfl)
 rw [S9]at h
 unfold tZ
 show((jo YS wkB).bind _)=_
 rw [h]
 rfl
end Go.Proofs.YtfhhakidodmdfaaGreatDoor

