/- db of this claim: Q3, J12, J13, J14. -/
import Derived.Test.YtfhhakidodmdfaaGreatDoorJbQ3
set_option linter.all false
namespace Go.Proofs.YtfhhakidodmdfaaGreatDoor
open Go

def Kx:List ac→List Int→Bool
 |v::t,k::ks=>(fM v&&(v.Kind==0||v.Kind==k))&&Kx t ks
 |[],_=>true
 |_::_,[]=>false
def RE(kinds:List Int)(r:cM):Bool:=decide (r.length=kinds.length)&&Kx r kinds
def Kw(rows:List cM)(kinds:List Int):Bool:=decide (rows.length≤12)&&rows.all (RE kinds)
theorem EY(kinds:List Int)(nx:Option Bool)(r:cM)(hl:r.length=kinds.length): ∀(n i:Nat),r.length-i=n→i≤r.length→lT kinds nx (r.drop i) i=if Kx (r.drop i) (kinds.drop i)then nx else some false
 |0,i,h,hi=>by
  rw [Dz (by omega)]
  unfold lT Kx
  rfl
 |n+1,i,h,hi=>by
  have hlt:i<r.length:=by omega
  have hlk:i<kinds.length:=by omega
  rw [wG hlt,wG hlk]
  unfold lT Kx
  rw [EY kinds nx r hl n (i+1) (by omega) (by omega),nF,be,bZ,oy hlk]
  simp only [be]
  have e:(r[i].Kind==0)= !(r[i].Kind !=0):=by rw [bne,Bool.not_not]
  have e2:(r[i].Kind==kinds[i])= !(r[i].Kind !=kinds[i]):=by rw [bne,Bool.not_not]
  rw [e,e2]
  cases fM r[i]<;>cases (r[i].Kind !=0)<;>cases (r[i].Kind !=kinds[i])<;>simp
theorem ab1(a b:Nat):((a:Int) !=(b:Int))= !decide (a=b):=by
 rw [Ac];simp;omega
theorem EZ(kinds:List Int): ∀rows:List cM,lU kinds rows=some (rows.all (RE kinds))
 |[]=>rfl
 |r::t=>by
  unfold lU
  rw [ab1,Ab,RE,EZ kinds t]
  by_cases h:r.length=kinds.length
  ·have:=EY kinds (some (t.all (RE kinds))) r h r.length 0 rfl (lC _)
   rw [yr,yr]at this
   rw [yu h,this]
   cases Kx r kinds<;>simp
  ·rw [yw h];simp
theorem E7(rows:List cM)(kinds:List Int):rn rows kinds=some (Kw rows kinds):=by
 unfold rn Kw
 rw [EZ]
 by_cases h:rows.length≤12
 ·rw [aM (by rw [kO];omega),yu h];rfl
 ·rw [aY (by rw [kO];omega),yw h];rfl

def qN(ks:Nat→List Int)(i:Nat):List Int:=(List.range i).map fun j=>((ks j).length:Int)
variable{ks:Nat→List Int}
theorem O6{i:Nat}(x:Int)(h:0≤x)(h2:x<(i:Int)):cN (qN ks i) x=some (Xr ks x:Int):=by
 obtain⟨k,hk⟩:=DG h
 subst hk
 have hk:k<i:=by omega
 unfold qN Xr
 rw [bZ,aM (by omega)]
 simp [hk]
theorem Jd(ks:Nat→List Int)(i:Nat):qN ks i++[((ks i).length:Int)]=qN ks (i+1):=by
 unfold qN
 rw [List.range_succ,List.map_append]
 rfl
theorem TV{rows:List (List cM)}(h:1≤rows.length)(h2:rows.length≤100000):cN rows (IntKind.i64.wrap ((rows.length:Int)-1))=some (EO rows):=by
 rw [tL (by omega) (by omega),show(rows.length:Int)-1=((rows.length-1:Nat):Int)from by omega,bZ]
 unfold EO
 rw [oy (by omega)]
 rfl
variable{base:eD}{l:bN}{sz:Nat→Nat}
theorem GY{l:bN}{base:eD}{sz:Nat→Nat}{ks:Nat→List Int}(T:CU l base sz ks): ∀(tl:List am) (i:Nat) (rows:List (List cM)),l.Nodes.drop i=tl→i≤l.Nodes.length→F8 ks rows i→fV l tl i ⟨base,rows,qN ks i⟩=some (PI (Ay base ks tl rows))
 |[],i,rows,hd,hi,I=>by
  have h1:=oJ hd
  have h2:i=l.Nodes.length:=by omega
  have hlen:=I.len
  have hle:=T.known.le
  have hpos:=T.known.pos
  unfold fV Ay PI
  rw [TV (rows:=rows) (by omega) (by omega)]
  rfl
 |n::t,i,rows,hd,hi,I=>by
  obtain⟨h1,h2,h3⟩:=iN hd
  obtain⟨n',hn',M⟩:=Wb T h2 I
  rw [h1]at hn'
  injection hn' with hn'
  subst hn'
  have hlen:=I.len
  have hle:=T.known.le
  obtain⟨c1,c2,c3⟩:=Oz (base:=base) M.g M.op M.kinds M.ka16 M.kb16 M.scan M.a M.b M.al
  obtain⟨d1,d2⟩:=NM (base:=base) M.g M.op M.kinds M.ka16 M.kb16 M.scan M.a M.b M.al
  have hcode:=Pq M ⟨base,rows,qN ks i⟩ rfl rfl (fun x h h2=>O6 x h h2)
  unfold Rd at hcode
  unfold fV Ay
  rw [hcode,be,M.w]
  simp only []
  unfold xx at c1 c2 c3 ⊢
  generalize wk n base (Dv rows n.A) (Dv rows n.B) (if n.B<0 then []else ks n.B.toNat).length=q at c1 c2 c3 d1 d2 ⊢
  have hk2: ∀(rs:List cM) (q' :List cM×Int),rq (ks i) rs→rs.length≤8000→nW l (fV l t) i (q',⟨base,rows,qN ks i⟩) rs=some (PI (Ay base ks t (rows++[rs]))):=by
   intro rs q' hrs hrl
   unfold nW
   obtain⟨d,ZF,rM⟩:=LZ T.small T.right T.known h2
   rw [ZF,be,rM,be,cq (by simp;omega),be,cq (by simp [qN];omega),be]
   show fV l t (i+1) ⟨base,rows++[rs],qN ks i++[((ks i).length:Int)]⟩=_
   rw [Jd]
   exact GY T t (i+1) _ h3 h2 (I.next hrs hrl)
  by_cases h0:q.2=0
  ·by_cases hl:8000<q.1.length
   ·have e:Ky n q=([],3):=by unfold Ky;rw [aM (by simp [h0]),aY hl]
    rw [aY (by simp only [h0,kN,qZ,kO,true_and];omega),e]
    rfl
   ·have e:Ky n q=(if n.Op=8 then q.1 else zp q.1,0):=by unfold Ky;rw [aM (by simp [h0]),aM hl]
    rw [aM (by simp only [h0,kN,qZ,kO,true_and];omega),e]
    rw [aM (c:=((if n.Op=8 then q.1 else zp q.1,(0:Int)):List cM×Int).2≠0) (by simp)]
    unfold nX
    rw [aM (by simp [h0])]
    by_cases h8:n.Op=8
    ·rw [aY h8,aM (by simp [h8])]
     exact hk2 q.1 q d1 (by omega)
    ·rw [aM h8,aY (by simpa using h8),FQ (d1.small M.k16 (by omega)),d1.allr M.k16,be]
     exact hk2 (zp q.1) q (d1.perm (nH eM _).symm) (by show(uu eM q.1).length≤8000;rw [xI];omega)
  ·have e:Ky n q=([],q.2):=by unfold Ky;rw [aY h0]
   rw [aM (by simp [h0]),e]
   rw [aY (c:=(([],q.2):List cM×Int).2≠0) h0]
   unfold nX PI
   rw [aY (by simpa using h0)]
   rw [aY (c:=(([],q.2):List (List cM)×Int).2≠0) h0]
theorem ZB(ks:Nat→List Int):F8 ks [] 0:=⟨rfl,fun j hj=>by omega⟩
def PC(b:eD)(n:am):Bool:= !(n.Op==1)||(decide (n.Table<(b.Tables.length:Int))&&Kw (yT b n) n.Kinds)
def Kv(l:bN)(b:eD):Bool:=l.Nodes.all (PC b)
theorem RD{n:am}{b:eD}(ht:n.Op=1→0≤n.Table)(f:List cM→List Int→Option Bool)(hf: ∀x y,f x y=some (Kw x y)):(if(n.Op==(1:Int))then((if(!(decide ((b.Tables.length:Int)≤n.Table)))then((cN b.Tables n.Table).bind fun e1=>(f e1 n.Kinds).bind fun r1=>some (!r1))else some true).bind fun t1=>some t1)else some false)=some (!PC b n):=by
 unfold PC
 by_cases h1:n.Op=1
 ·have h0:=ht h1
  by_cases hl:n.Table<(b.Tables.length:Int)
  ·have hi:cN b.Tables n.Table=some (yT b n):=by
    unfold yT
    rw [gT n.Table.toNat (by omega),oy (by omega)]
    rfl
   rw [aY (by simpa using h1),aY (by simp;omega),hi,be,hf,be,be,h1]
   simp [hl]
  ·rw [aY (by simpa using h1),aM (by simp;omega),be,h1]
   simp [hl]
 ·rw [aM (by simpa using h1)]
  simp [h1]
theorem Fv(b:eD): ∀ns:List am,(∀n∈ns,n.Op=1→0≤n.Table)→nY b ns=some (ns.all (PC b))
 |[],_=>rfl
 |n::t,h=>by
  unfold nY
  rw [RD (h n (kJ ..)) rn E7,be,Fv b t fun x hx=>h x (kF _ hx),Ab]
  cases PC b n<;>rfl
theorem LR(K:Hd l sz ks): ∀n∈l.Nodes,n.Op=1→0≤n.Table:=by
 intro n hn h1
 obtain⟨j,hj,e⟩:=List.mem_iff_getElem.1 hn
 obtain⟨m,F⟩:=K.all j hj
 have:m=n:=by
  have:=F.node
  rw [bZ,oy hj,e]at this
  injection this with this
  exact this.symm
 subst this
 exact(H7 h1 F.kinds).2.1
theorem uf(hS:mP l)(h:lJ l=true)(b:eD):ug l b=some (Kv l b):=by
 obtain⟨sz,ks,K⟩:=EP hS h
 obtain⟨_,⟨j,hj⟩,_⟩:=sS hS
 rw [h]at hj
 unfold ug
 rw [hj,be,aY rfl,aM (by decide),Fv b _ (LR K)]
 rfl
def HK(b:eD):Prop:= ∀t∈b.Tables,Ek t
theorem N4: ∀{r:cM} {ks:List Int},r.length=ks.length→Kx r ks=true→(∀k∈ks,k≤3)→To r→RK ks r
 |[],[],_,_,_,_=>trivial
 |v::t,k::ks,hl,h,hk,hr=>by
  unfold Kx at h
  simp only [kN,pH,qZ]at h
  have hk3:=hk k (kJ ..)
  refine⟨Eu ?_ (hr v (kJ ..)),?_,N4 (by simpa using hl) h.2 (fun x hx=>hk x (kF _ hx)) fun x hx=>hr x (kF _ hx)⟩
  ·unfold mw
   rw [h.1.1]
   simp only [uo,qo,pI]
   omega
  ·unfold qk;omega
 |[],_::_,hl,_,_,_=>by simp at hl
 |_::_,[],hl,_,_,_=>by simp at hl
theorem Np{b:eD}(hN: ∀n∈l.Nodes,Fs n)(hb:HK b)(h:lJ l=true)(hf:Kv l b=true): ∃sz ks,CU l b sz ks:=by
 have hS:mP l:=fun n hn=>(hN n hn).small
 obtain⟨sz,ks,K⟩:=EP hS h
 refine⟨sz,ks,K,h,hN,?_⟩
 intro j n hj h1
 have hm:n∈l.Nodes:=by rw [bZ]at hj;exact rC hj
 have hjl:j<l.Nodes.length:=by
  rw [bZ]at hj
  obtain⟨h,_⟩:=jQ.1 hj
  exact h
 obtain⟨m,F⟩:=K.all j hjl
 have e:m=n:=by have:=F.node;rw [hj]at this;injection this with this;exact this.symm
 subst e
 obtain⟨k1,t1,t2⟩:=H7 h1 F.kinds
 have hfn:=jO.1 hf m hm
 unfold PC at hfn
 rw [h1]at hfn
 simp only [Gg,mS,rN,kN,kO]at hfn
 obtain⟨f1,f2⟩:=hfn
 unfold Kw at f2
 rw [kN,kO,jO]at f2
 have hlt:m.Table.toNat<b.Tables.length:=by omega
 have htab:yT b m=b.Tables[m.Table.toNat]:=by
  unfold yT
  rw [oy hlt]
  rfl
 refine⟨hlt,?_,f2.1⟩
 intro r hr
 have hfr:=f2.2 r hr
 unfold RE at hfr
 rw [kN,kO]at hfr
 rw [k1]
 refine N4 hfr.1 hfr.2 ?_ ?_
 ·intro k hk
  have:=xY (VT hS K.all j hjl) (by rw [k1];exact hk)
  unfold k4 at this
  omega
 ·rw [htab]at hr
  exact hb _ (List.getElem_mem hlt) r hr
theorem ve(T:CU l base sz ks)(hf:Kv l base=true):j5 l base=some (Cz l base ks):=by
 obtain⟨_,⟨j,hj⟩,_⟩:=sS T.small
 rw [T.right]at hj
 unfold j5
 rw [hj,be,aY rfl,aM (by decide),uf T.small T.right,be,hf,aM (by decide)]
 exact GY T l.Nodes 0 [] rfl (lC _) (ZB ks)
theorem E8(hS:mP l)(h:lJ l=false)(base:eD):j5 l base=some ([],230):=by
 obtain⟨_,⟨j,hj⟩,_⟩:=sS hS
 rw [h]at hj
 unfold j5
 rw [hj,be]
 rfl
theorem Bb(hS:mP l)(h:lJ l=true)(hf:Kv l base=false):j5 l base=some ([],250):=by
 obtain⟨_,⟨j,hj⟩,_⟩:=sS hS
 rw [h]at hj
 unfold j5
 rw [hj,be,aY rfl,aM (by decide),uf hS h,be,hf]
 rfl
theorem Tl(T:CU l base sz ks):rq (ks (l.Nodes.length-1)) (Cz l base ks).1∧(Cz l base ks).1.length≤8000∧((Cz l base ks).2=0∨Cz l base ks=([],3)∨(Cz l base ks=([],140)∧l.Nodes.any C2=true)):=by
 obtain⟨h1,h2⟩:=Jv T l.Nodes 0 [] rfl (lC _) (ZB ks)
 have hpos:=T.known.pos
 unfold Cz PI
 by_cases h0:(Ay base ks l.Nodes []).2=0
 ·rw [aM (by simp [h0])]
  have I:=h1 h0
  have hl:=I.len
  have:=I.ok (l.Nodes.length-1) (by omega)
  refine⟨?_,?_,.inl rfl⟩
  ·show rq _ (EO _)
   unfold EO
   rw [hl]
   exact this.1
  ·show(EO _).length≤8000
   unfold EO
   rw [hl]
   exact this.2
 ·rw [aY h0]
  refine⟨(fun r hr=>by cases hr),by simp,?_⟩
  rcases h2 with q|q|q
  ·exact absurd q h0
  ·rw [q];exact .inr (.inl rfl)
  ·rw [q.1];exact .inr (.inr ⟨rfl,q.2⟩)

theorem xa(nx:Option Bool)(v:Bool)(hn:nx=some v): ∀r:cM,∃w,lc nx r=some w∧(w=false→v=false∧ ∀x∈r,x.S.length≤200)
 |[]=>⟨v,hn,fun h=>⟨h,by simp⟩⟩
 |e::t=>by
  unfold lc
  by_cases h:200<e.S.length
  ·exact⟨true,by rw [aY (by rw [kO];omega)],fun h=>by cases h⟩
  ·obtain⟨w,h1,h2⟩:=xa nx v hn t
   refine⟨w,by rw [aM (by rw [kO];omega)];exact h1,fun hw=>⟨(h2 hw).1,?_⟩⟩
   intro x hx
   rcases fc.1 hx with q|q
   ·rw [q];omega
   ·exact(h2 hw).2 x q
theorem xb: ∀l:List cM,∃w,iw l=some w∧(w=false→ ∀r∈l,r.length≤30)
 |[]=>⟨false,rfl,fun _=>by simp⟩
 |e::t=>by
  unfold iw
  by_cases h:30<e.length
  ·exact⟨true,by rw [aY (by rw [kO];omega)],fun h=>by cases h⟩
  ·obtain⟨v,h1,h2⟩:=xb t
   obtain⟨w,h3,h4⟩:=xa (iw t) v h1 e
   refine⟨w,by rw [aM (by rw [kO];omega)];exact h3,fun hw=>?_⟩
   intro x hx
   rcases fc.1 hx with q|q
   ·rw [q];omega
   ·exact h2 (h4 hw).1 x q
theorem JM(l:List cM)(m:Nat): ∃w,pZ l (m:Int)=some w∧(w=false→l.length≤m∧ ∀r∈l,r.length≤30):=by
 unfold pZ
 by_cases h:m<l.length
 ·exact⟨true,by rw [aY (by rw [kO];omega)],fun h=>by cases h⟩
 ·obtain⟨w,h1,h2⟩:=xb l
  exact⟨w,by rw [aM (by rw [kO];omega)];exact h1,fun hw=>⟨by omega,h2 hw⟩⟩
def YN(b:eD):Prop:=b.Tables.length≤10∧ ∀t∈b.Tables,t.length≤30∧ ∀r∈t,r.length≤30
theorem xe: ∀l:List (List cM),∃w,lg l=some w∧(w=false→ ∀t∈l,t.length≤30∧ ∀r∈t,r.length≤30)
 |[]=>⟨false,rfl,fun _=>by simp⟩
 |e::t=>by
  unfold lg
  obtain⟨w,h1,h2⟩:=JM e 30
  rw [show((30:Nat):Int)=30 from rfl]at h1
  rw [h1,be]
  cases w with
  |true=>exact⟨true,rfl,fun h=>by cases h⟩
  |false=>
   obtain⟨v,h3,h4⟩:=xe t
   refine⟨v,by rw [aM (by decide)];exact h3,fun hv=>?_⟩
   intro x hx
   rcases fc.1 hx with q|q
   ·rw [q];exact h2 rfl
   ·exact h4 hv x q
theorem JN(b:eD): ∃w,p5 b=some w∧(w=false→YN b):=by
 unfold p5
 by_cases h:10<b.Tables.length
 ·exact⟨true,by rw [aY (by rw [kO];omega)],fun h=>by cases h⟩
 ·obtain⟨w,h1,h2⟩:=xe b.Tables
  exact⟨w,by rw [aM (by rw [kO];omega)];exact h1,fun hw=>⟨by omega,h2 hw⟩⟩
theorem xc: ∀l:List aX,∃w,ld l=some w
 |[]=>⟨false,rfl⟩
 |e::t=>by
  unfold ld
  obtain⟨w,h⟩:=xc t
  split
  ·exact⟨true,rfl⟩
  ·exact⟨w,h⟩
theorem xd(e:br): ∃w,lN e=some w∧(w=false→e.Nodes.length≤100):=by
 unfold lN
 by_cases h:100<e.Nodes.length
 ·exact⟨true,by rw [aY (by rw [kO];omega)],fun h=>by cases h⟩
 ·obtain⟨w,h1⟩:=xc e.Nodes
  exact⟨w,by rw [aM (by rw [kO];omega)];exact h1,fun hw=>by omega⟩
theorem Ex(b:eD)(nx:Int→Option Bool)(hn: ∀x,∃w,nx x=some w)(P:Prop)(hP: ∀x,nx x=some false→P)(e:am)(rows:Int): ∀l:List ea,∃w,nf b nx e rows l=some w∧(w=false→P∧ ∀g∈l,g.Arg.Nodes.length≤100)
 |[]=>by
  unfold nf
  by_cases h:(((e.Op==(1:Int))&&(decide ((0:Int)≤e.Table)))&&(decide (e.Table<(b.Tables.length:Int))))=true
  ·rw [aY h]
   simp only [kN,kO]at h
   rw [gT (xs:=b.Tables) e.Table.toNat (by omega),oy (by omega),be]
   obtain⟨w,hw⟩:=hn (IntKind.i64.wrap (rows*(IntKind.i64.wrap ((b.Tables[e.Table.toNat].length:Int)+(1:Int)))))
   exact⟨w,hw,fun h=>⟨hP _ (by rw [hw,h]),by simp⟩⟩
  ·rw [aM h]
   obtain⟨w,hw⟩:=hn rows
   exact⟨w,hw,fun h=>⟨hP _ (by rw [hw,h]),by simp⟩⟩
 |g::t=>by
  unfold nf
  obtain⟨v,h1,h2⟩:=xd g.Arg
  rw [h1,be]
  cases v with
  |true=>exact⟨true,rfl,fun h=>by cases h⟩
  |false=>
   obtain⟨w,h3,h4⟩:=Ex b nx hn P hP e rows t
   refine⟨w,by rw [aM (by decide)];exact h3,fun hw=>⟨(h4 hw).1,?_⟩⟩
   intro x hx
   rcases fc.1 hx with q|q
   ·rw [q];exact h2 rfl
   ·exact(h4 hw).2 x q
theorem Ey(b:eD)(nx:Int→Option Bool)(hn: ∀x,∃w,nx x=some w)(P:Prop)(hP: ∀x,nx x=some false→P)(e:am)(rows:Int): ∀l:List br,∃w,nh b nx e rows l=some w∧(w=false→P∧(∀g∈e.Aggs,g.Arg.Nodes.length≤100)∧ ∀x∈l,x.Nodes.length≤100)
 |[]=>by
  unfold nh
  obtain⟨w,h1,h2⟩:=Ex b nx hn P hP e rows e.Aggs
  exact⟨w,h1,fun h=>⟨(h2 h).1,(h2 h).2,by simp⟩⟩
 |g::t=>by
  unfold nh
  obtain⟨v,h1,h2⟩:=xd g
  rw [h1,be]
  cases v with
  |true=>exact⟨true,rfl,fun h=>by cases h⟩
  |false=>
   obtain⟨w,h3,h4⟩:=Ey b nx hn P hP e rows t
   refine⟨w,by rw [aM (by decide)];exact h3,fun hw=>⟨(h4 hw).1,(h4 hw).2.1,?_⟩⟩
   intro x hx
   rcases fc.1 hx with q|q
   ·rw [q];exact h2 rfl
   ·exact(h4 hw).2.2 x q
structure xA(n:am):Prop where
 kinds:n.Kinds.length≤20
 keys:n.Keys.length≤20
 order:n.Order.length≤20
 items:n.Items.length≤20
 aggs:n.Aggs.length≤20
 cond:n.Cond.Nodes.length≤100
 exprs: ∀e∈n.Items,e.Nodes.length≤100
 args: ∀g∈n.Aggs,g.Arg.Nodes.length≤100
theorem zE(b:eD): ∀(l:List am) (rows:Int),∃w,j4 b l rows=some w∧(w=false→ ∀n∈l,xA n)
 |[],rows=>⟨_,rfl,fun _=>by simp⟩
 |n::t,rows=>by
  unfold j4
  obtain⟨v,h1,h2⟩:=xd n.Cond
  by_cases hb:(((((decide ((20:Int)<(n.Kinds.length:Int)))||(decide ((20:Int)<(n.Keys.length:Int))))||(decide ((20:Int)<(n.Order.length:Int))))||(decide ((20:Int)<(n.Items.length:Int))))||(decide ((20:Int)<(n.Aggs.length:Int))))=true
  ·rw [hb]
   exact⟨true,rfl,fun h=>by cases h⟩
  ·rw [rA.2 hb,h1]
   simp only [Bt,eQ,be]
   cases v with
   |true=>exact⟨true,rfl,fun h=>by cases h⟩
   |false=>
    simp only [pH,kO,not_or,Int.not_lt]at hb
    obtain⟨w,h3,h4⟩:=Ey b (j4 b t) (fun x=>by obtain⟨w,h,_⟩:=zE b t x;exact⟨w,h⟩) (∀m∈t,xA m) (fun x hx=>by obtain⟨w,h,h'⟩:=zE b t x;rw [hx]at h;injection h with h;exact h' h.symm) n rows n.Items
    refine⟨w,by rw [aM (by decide)];exact h3,fun hw=>?_⟩
    obtain⟨p1,p2,p3⟩:=h4 hw
    intro m hm
    rcases fc.1 hm with q|q
    ·rw [q]
     exact⟨by omega,by omega,by omega,by omega,by omega,h2 rfl,p3,p2⟩
    ·exact p1 m q
theorem Tw(l:bN)(b:eD): ∃w,vR l b=some w∧(w=false→l.Nodes.length≤30∧ ∀n∈l.Nodes,xA n):=by
 unfold vR
 by_cases h:30<l.Nodes.length
 ·exact⟨true,by rw [aY (by rw [kO];omega)],fun h=>by cases h⟩
 ·obtain⟨w,h1,h2⟩:=zE b l.Nodes 1
  exact⟨w,by rw [aM (by rw [kO];omega)];exact h1,fun hw=>⟨by omega,h2 hw⟩⟩
structure rgN(n:am):Prop where
 cond:Jx n.Cond.Nodes
 items: ∀e∈n.Items,Jx e.Nodes
 args: ∀g∈n.Aggs,Jx g.Arg.Nodes
def rgL(l:bN):Prop:= ∀n∈l.Nodes,rgN n
theorem xA.small{n:am}(h:xA n):iy n:=
 ⟨by have:=h.cond;omega,by have:=h.kinds;omega,by have:=h.keys;omega,by have:=h.aggs;omega,by have:=h.items;omega,by have:=h.order;omega,fun g hg=>by have:=h.args g hg;omega,fun e he=>by have:=h.exprs e he;omega⟩
theorem xA.g{n:am}(h:xA n)(r:rgN n):Fs n:=
 ⟨h.small,⟨by have:=h.cond;omega,r.cond⟩,fun e he=>⟨by have:=h.exprs e he;omega,r.items e he⟩,fun g hg=>⟨by have:=h.args g hg;omega,r.args g hg⟩⟩
def YV:bN:=⟨[⟨1,-1,-1,0,[2],false,⟨[]⟩,[],[],[],[],0⟩,⟨4,0,-1,0,[],false,⟨[]⟩,[],[⟨1,⟨[]⟩⟩,⟨3,⟨[⟨2,-1,-1,0,⟨0,0,0,[]⟩⟩]⟩⟩],[],[],0⟩]⟩
def wkB:eD:=⟨[[[⟨2,1,0,[]⟩],[⟨2,2,0,[]⟩],[⟨0,0,0,[]⟩]]]⟩
theorem Qs:lJ YV=true:=by kernel_rfl
theorem S9(ks:Nat→List Int):Cz YV wkB ks=([[iV 3,iV 3]],0):=by
 kernel_rfl

theorem Jc: ∀n∈YV.Nodes,xA n∧rgN n:=by
 intro n hn
 have h0:Jx ([]:List aX):=fun x hx=>by cases hx
 have h1:Jx [(⟨2,-1,-1,0,⟨0,0,0,[]⟩⟩:aX)]:=by
  intro x hx
  rw [CY.1 hx]
  unfold r64
  show -9223372036854775808≤(0:Int)∧(0:Int)≤9223372036854775807
  omega
 unfold YV at hn
 simp only [fc,Gd,or_false]at hn
 rcases hn with h|h
 ·subst h
  exact⟨⟨by decide,by decide,by decide,by decide,by decide,by decide,fun e he=>by(cases he),fun g hg=>by(cases hg)⟩,⟨h0,fun e he=>by(cases he),fun g hg=>by(cases hg)⟩⟩
 ·subst h
  refine⟨⟨by decide,by decide,by decide,by decide,by decide,by decide,fun e he=>by(cases he),fun g hg=>?_⟩,⟨h0,fun e he=>by(cases he),fun g hg=>?_⟩⟩
  ·simp only [fc,Gd,or_false]at hg
   rcases hg with q|q<;>rw [q]<;>decide
  ·simp only [fc,Gd,or_false]at hg
   rcases hg with q|q
   ·rw [q];exact h0
   ·rw [q];exact h1
theorem Ta:HK wkB:=by
 intro t ht r hr v hv
 unfold wkB at ht
 simp only [fc,Gd,or_false]at ht
 subst ht
 simp only [fc,Gd,or_false]at hr
 unfold r64
 rcases hr with q|q|q<;>subst q<;>rw [CY.1 hv]<;>decide
theorem Lu:tY=some true:=by
 obtain⟨sz,ks,T⟩:=Np (fun n hn=>(Jc n hn).1.g (Jc n hn).2) Ta Qs (by kernel_rfl)
 have h:=ve T (by kernel_rfl)
 rw [S9]at h
 unfold tY
 show((j5 YV wkB).bind _)=_
 rw [h]
 rfl
theorem AO(r5:List Int×Int)(nx:Option Bool): ∀(t:cM) (kt:List Int) (i:Nat),r5.1.drop i=kt→RK kt t→js r5 nx t i=nx
 |[],_,i,_,_=>rfl
 |v::t,[],i,_,h=>h.elim
 |v::t,k::kt,i,hd,h=>by
  obtain⟨h1,h2,h3⟩:=iN hd
  unfold js
  rw [h1]
  have hk:=h.2.1
  unfold qk at hk
  have e:(if(v.Kind !=(0:Int))=true then((some k).bind fun e2=>some (v.Kind !=e2))else some false)=some false:=by
   by_cases h0:v.Kind=0
   ·simp [h0]
   ·have:v.Kind=k:=hk.resolve_right h0
    rw [aY (by simpa using h0),be,this]
    simp
  rw [e,be,aM (by decide)]
  exact AO r5 nx t kt (i+1) h3 h.2.2
theorem AP(r5:List Int×Int): ∀l:List cM,rq r5.1 l→hT r5 l=some true
 |[],_=>rfl
 |r::t,h=>by
  unfold hT
  have hr:=h r (kJ ..)
  rw [aM (by rw [hr.len];simp),AO r5 _ r r5.1 0 rfl hr]
  exact AP r5 t fun x hx=>h x (kF _ hx)
theorem Mq(l:bN)(b:eD)(hl:rgL l)(hb:HK b):nr l b=some true:=by
 unfold nr
 rw [Lu,be,aM (by decide)]
 obtain⟨w,h1,h2⟩:=JN b
 obtain⟨v,h3,h4⟩:=Tw l b
 rw [h1,be,h3]
 cases w with
 |true=>rfl
 |false=>
  cases v with
  |true=>rfl
  |false=>
   obtain⟨hn,hsl⟩:=h4 rfl
   have hN: ∀n∈l.Nodes,Fs n:=fun n hn=>(hsl n hn).g (hl n hn)
   have hS:mP l:=fun n hn=>(hN n hn).small
   simp only [Bt,eQ,be,gp,ek]
   by_cases hr:lJ l=true
   ·by_cases hf:Kv l b=true
    ·obtain⟨sz,ks,T⟩:=Np hN hb hr hf
     rw [ve T hf,be]
     obtain⟨p1,p2,p3⟩:=Tl T
     rcases p3 with q|q|q
     ·rw [aM (by simp [q]),T.known.kinds,be,aM (by show¬((0:Int) !=0)=true;decide)]
      exact AP _ _ p1
     ·rw [q];rfl
     ·rw [q.1,LS hS hr,q.2];rfl
    ·rw [Bb hS hr (rA.2 hf)];rfl
   ·rw [E8 hS (rA.2 hr)];rfl
end Go.Proofs.YtfhhakidodmdfaaGreatDoor

