/- cR of this claim: U5. -/
import Derived.Test.YtnmjbolollcokaaGreatDoorRcU2
import Derived.Test.YtnmjbolollcokaaGreatDoorRcQ3
set_option linter.all false
namespace Go.Proofs.YtnmjbolollcokaaGreatDoor
open Go

def mn(s:aG)(fs:List bk):bS:=⟨fs,s.nodes,s.kinds,decide (s.at_=2),s.hashed⟩
def oU(p:ay)(fs:List bk):ay:={p with Plan:=⟨fs⟩}
def Ef(t:Nat)(kinds:List Int):M:=⟨9,-1,-1,(t:Int),kinds,false,⟨[]⟩,[],[],[],[],0⟩
def p7(s:aG)(way:Int)(cols:List Int)(fs:List bk):aG:=⟨[Ef fs.length s.kinds],s.kinds,if way=3 then 2 else 1,cols⟩
def oY(s:aG)(way:Int)(cols:List Int)(fs:List bk):List bk:=fs++[⟨s.nodes,s.at_,way,cols⟩]
def yA(n:M)(a b:Int):M:=M.mk n.Op a b n.Table n.Kinds n.Left n.Cond n.Keys n.Aggs n.Items n.Order n.Limit
def over1(n:M)(kinds:List Int)(s:aG):aG:=⟨s.nodes++[yA n ((s.nodes.length:Int)-1) (-1)],kinds,s.at_,[]⟩
def over2(n:M)(kinds:List Int)(a b:aG):aG:=⟨a.nodes++b.nodes.map (sj (a.nodes.length:Int))++[yA n ((a.nodes.length:Int)-1) ((a.nodes.length:Int)+(b.nodes.length:Int)-1)],kinds,a.at_,[]⟩
def gW(s:aG)(h:List Int):aG:=⟨s.nodes,s.kinds,s.at_,h⟩
structure rP(s:aG):Prop where
 at_:s.at_=1∨s.at_=2
 pos:1≤s.nodes.length
 len:s.nodes.length≤1000
 kinds:s.kinds.length≤100
 hashed:s.hashed.length≤100
 refs: ∀n∈s.nodes,n.A<(s.nodes.length:Int)∧n.B<(s.nodes.length:Int)
theorem wl(l:List Int)(h:l.length≤100000):bI l=some l:=by
 unfold bI
 rw [ca (by simp;omega)]
 rfl
theorem xY(l:List M)(h:l.length≤100000):dB l=some l:=by
 unfold dB
 rw [ca (by simp;omega)]
 rfl
theorem nK{p:ay}{s:aG}{way:Int}{cols:List Int}{fs:List bk}(hc:cols.length≤1000)(hk:s.kinds.length≤1000)(hf:fs.length≤1000):dm (oU p fs) s way cols=some (p7 s way cols fs,oU p (oY s way cols fs)):=by
 unfold dm
 rw [wl cols (by omega),be]
 show((iC fs [(⟨s.nodes,s.at_,way,cols⟩:bk)]).bind _)=_
 rw [ca (by simp;omega),be,wl s.kinds (by omega),be]
 have e:IntKind.i64.wrap (((fs++[(⟨s.nodes,s.at_,way,cols⟩:bk)]).length:Int)-1)=(fs.length:Int):=by
  rw [bP (by simp<;>omega) (by simp<;>omega)];simp
 unfold jS p7 oY Ef
 rw [e]
 by_cases hw:way=3
 ·rw [bm (by simpa using hw),bm hw];rfl
 ·rw [bg (by simpa using hw),bg hw];rfl
theorem p6{s:aG}(hs:rP s){way:Int}{cols:List Int}{fs:List bk}(hf:fs.length≤1000):gC (mn s fs) way cols=some (mn (p7 s way cols fs) (oY s way cols fs)):=by
 have key: ∀f:bk,f=⟨s.nodes,s.at_,way,cols⟩→pI (mn s fs) way cols f=some (mn (p7 s way cols fs) (oY s way cols fs)):=by
  rintro f rfl
  unfold pI
  show((iC ([]:List bk) fs).bind _)=_
  rw [ca (by simp;omega),be,ca (by simp;omega),be,iv]
  have e:IntKind.i64.wrap (((fs++[(⟨s.nodes,s.at_,way,cols⟩:bk)]).length:Int)-1)=(fs.length:Int):=by
   rw [bP (by simp<;>omega) (by simp<;>omega)];simp
  rw [e]
  unfold mn p7 oY Ef
  by_cases hw:way=3
  ·subst hw;rfl
  ·rw [bg hw]
   have:(way==3)=false:=by simpa using hw
   rw [this];rfl
 unfold gC
 rcases hs.at_ with h|h
 ·rw [bg (by show¬decide (s.at_=2)=true;rw [h];decide)]
  exact key _ (by rw [h];rfl)
 ·rw [bm (by show decide (s.at_=2)=true;rw [h];decide)]
  exact key _ (by rw [h];rfl)
theorem rP.send{s:aG}(hs:rP s){way:Int}{cols:List Int}{fs:List bk}(hc:cols.length≤100):rP (p7 s way cols fs) where
 at_:=by unfold p7;by_cases h:way=3<;>simp [h]
 pos:=by simp [p7]
 len:=by simp [p7]
 kinds:=hs.kinds
 hashed:=hc
 refs:=fun n hn=>by
  have:n=Ef fs.length s.kinds:=by simpa [p7] using hn
  subst this
  simp [p7,Ef]
def qN(s:aG)(fs:List bk):aG:=if s.at_=2 then s else p7 s 3 [] fs
def nX(s:aG)(fs:List bk):List bk:=if s.at_=2 then fs else oY s 3 [] fs
theorem tI{p:ay}{s:aG}{fs:List bk}(hk:s.kinds.length≤1000)(hf:fs.length≤1000):cU (oU p fs) s=some (qN s fs,oU p (nX s fs)):=by
 unfold cU qN nX
 by_cases h:s.at_=2
 ·rw [bm (by simpa using h),bm h,bm h]
 ·rw [bg (by simpa using h),bg h,bg h,nK (by simp) hk hf];rfl
theorem ww{s:aG}(hs:rP s){fs:List bk}(hf:fs.length≤1000):dC (mn s fs)=some (mn (qN s fs) (nX s fs)):=by
 unfold dC qN nX
 by_cases h:s.at_=2
 ·rw [bm (by show decide (s.at_=2)=true;rw [h];decide),bm h,bm h]
 ·rw [bg (by show¬decide (s.at_=2)=true;simpa using h),bg h,bg h,p6 hs hf];rfl
theorem rP.one{s:aG}(hs:rP s){fs:List bk}:rP (qN s fs):=by
 unfold qN
 split
 ·exact hs
 ·exact hs.send (by simp)
theorem RJ{s:aG}{fs:List bk}:(qN s fs).at_=2:=by
 unfold qN
 split
 ·assumption
 ·rfl
theorem vK(s:aG)(fs:List bk):fs.length≤(nX s fs).length∧(nX s fs).length≤fs.length+1:=by
 unfold nX oY
 split<;>simp
theorem nL(s:aG)(way:Int)(cols:List Int)(fs:List bk):(oY s way cols fs).length=fs.length+1:=by simp [oY]
theorem RD(d:Int)(x:M):sj d x=M.mk x.Op (vt d x.A) (vt d x.B) x.Table x.Kinds x.Left x.Cond x.Keys x.Aggs x.Items x.Order x.Limit:=rfl
theorem uy(nx:Nat→M→aG→Option aG)(i:Nat)(n1:M)(out:aG): ∀(tl:List M) (cx:aG),cx.nodes.length+tl.length≤100000→
  cV nx i n1 out tl cx=cV nx i n1 out [] {cx with nodes:=cx.nodes++tl.map (sj (out.nodes.length:Int))}
 |[],cx,_=>by simp
 |x::tl,cx,h=>by
  rw [gJ]at h
  have ex:x=M.mk x.Op x.A x.B x.Table x.Kinds x.Left x.Cond x.Keys x.Aggs x.Items x.Order x.Limit:=rfl
  have key: ∀a:Int,a=vt (out.nodes.length:Int) x.A→oC out (cV nx i n1 out tl) cx (M.mk x.Op a x.B x.Table x.Kinds x.Left x.Cond x.Keys x.Aggs x.Items x.Order x.Limit)=cV nx i n1 out tl {cx with nodes:=cx.nodes++[sj (out.nodes.length:Int) x]}:=by
   intro a hA
   have hk2: ∀z:M,oB (cV nx i n1 out tl) cx z=cV nx i n1 out tl {cx with nodes:=cx.nodes++[z]}:=fun z=>by
    unfold oB
    rw [ca (by simp;omega),be]
   unfold oC
   rw [hk2,hk2,RD,hA]
   by_cases hb:0≤x.B
   ·rw [bm (by simpa using hb)]
    have:vt (out.nodes.length:Int) x.B=IntKind.i64.wrap (x.B+(out.nodes.length:Int)):=bm hb
    rw [this]
   ·rw [bg (by simpa using hb)]
    have:vt (out.nodes.length:Int) x.B=x.B:=bg hb
    rw [this]
  have fin:cV nx i n1 out tl {cx with nodes:=cx.nodes++[sj (out.nodes.length:Int) x]}=cV nx i n1 out [] {cx with nodes:=cx.nodes++(x::tl).map (sj (out.nodes.length:Int))}:=by
   rw [uy nx i n1 out tl _ (by simp;omega)]
   simp
  conv=>lhs;unfold cV
  by_cases ha:0≤x.A
  ·have:=key (IntKind.i64.wrap (x.A+(out.nodes.length:Int))) (by unfold vt;rw [bm ha])
   rw [bm (by simpa using ha),this,fin]
  ·have:=key x.A (by unfold vt;rw [bg ha])
   rw [←ex]at this
   rw [bg (by simpa using ha),this,fin]
theorem JW{s:aG}(hs:rP s):s.nodes.map (sj 0)=s.nodes:=by
 have hl:=hs.len
 have: ∀n∈s.nodes,sj 0 n=n:=fun n hn=>by
  have:=hs.refs n hn
  exact Gx (by omega) (by omega)
 exact(Ga this).trans (List.map_id _)
theorem kh(n:M)(kinds:List Int){s:aG}(hs:rP s):dH n kinds [s]=some (over1 n kinds s):=by
 have hl:=hs.len
 have hp:=hs.pos
 unfold dH
 show ei [s] 0 _ _=_
 unfold ei
 rw [xY s.nodes (by omega),be,uy _ _ _ _ _ _ (by simp;omega)]
 show cV (ei []) 0 _ _ [] ⟨[]++s.nodes.map (sj 0),kinds,s.at_,[]⟩=_
 rw [JW hs,iv]
 unfold cV
 rw [bm (by simp)]
 unfold ei
 show((iC s.nodes _).bind _)=_
 rw [ca (by simp;omega),be]
 show some (⟨s.nodes++[M.mk n.Op (IntKind.i64.wrap ((s.nodes.length:Int)-1)) (-1) n.Table n.Kinds n.Left n.Cond n.Keys n.Aggs n.Items n.Order n.Limit],kinds,s.at_,[]⟩:aG)=_
 rw [bP (by omega) (by omega)]
 rfl
theorem uz(n:M)(kinds:List Int){a b:aG}(ha:rP a)(hb:rP b):dH n kinds [a,b]=some (over2 n kinds a b):=by
 have hl:=ha.len
 have hl2:=hb.len
 have hp:=ha.pos
 have hp2:=hb.pos
 unfold dH
 show ei [a,b] 0 _ _=_
 unfold ei
 rw [xY a.nodes (by omega),be,uy _ _ _ _ _ _ (by simp;omega)]
 show cV (ei [b]) 0 _ _ [] ⟨[]++a.nodes.map (sj 0),kinds,a.at_,[]⟩=_
 rw [JW ha,iv]
 unfold cV
 rw [bm (by simp)]
 unfold ei
 rw [xY b.nodes (by omega),be,uy _ _ _ _ _ _ (by simp;omega)]
 unfold cV
 rw [bg (by simp)]
 unfold ei
 show((iC (a.nodes++b.nodes.map (sj (a.nodes.length:Int))) _).bind _)=_
 rw [ca (by simp;omega),be]
 show some (⟨(a.nodes++b.nodes.map (sj (a.nodes.length:Int)))++[M.mk n.Op (IntKind.i64.wrap ((a.nodes.length:Int)-1)) (IntKind.i64.wrap (((a.nodes++b.nodes.map (sj (a.nodes.length:Int))).length:Int)-1)) n.Table n.Kinds n.Left n.Cond n.Keys n.Aggs n.Items n.Order n.Limit],kinds,a.at_,[]⟩:aG)=_
 rw [bP (by omega) (by omega),bP (by simp;omega) (by simp;omega)]
 unfold over2 yA
 simp
theorem lN(n:M)(kinds:List Int){s:aG}(hs:rP s)(fs:List bk):eX n kinds (mn s fs)=some (mn (gW (over1 n kinds s) s.hashed) fs):=by
 have hl:=hs.len
 have hp:=hs.pos
 unfold eX
 show((iC ([]:List M) s.nodes).bind _)=_
 rw [ca (by simp;omega),be,ca (by simp;omega),be,iv]
 show some (bS.mk fs (s.nodes++[M.mk n.Op (IntKind.i64.wrap ((s.nodes.length:Int)-1)) (-1) n.Table n.Kinds n.Left n.Cond n.Keys n.Aggs n.Items n.Order n.Limit]) kinds _ s.hashed)=_
 rw [bP (by omega) (by omega)]
 rfl
theorem Kx(n:M)(kinds:List Int)(x b:bS)(ha:x.Nodes.length≤1000)(hb:b.Nodes.length≤1000): ∀(tl:List M) (i fu:Nat) (out:List M),b.Nodes.drop i=tl→tl.length<fu→out.length+tl.length≤10000→
  mW n kinds x b fu out (i:Int)=(iC (out++tl.map (sj (x.Nodes.length:Int))) ([(M.mk n.Op (IntKind.i64.wrap ((x.Nodes.length:Int)-(1:Int))) (IntKind.i64.wrap (((out++tl.map (sj (x.Nodes.length:Int))).length:Int)-(1:Int))) n.Table n.Kinds n.Left n.Cond n.Keys n.Aggs n.Items n.Order n.Limit)])).bind fun l4=>some (⟨b.Frags,l4,kinds,x.One,[]⟩:bS)
 |tl,i,0,_,_,h,_=>by omega
 |[],i,fu+1,out,hd,_,_=>by
  unfold mW
  have hk:b.Nodes.length≤i:=ye.1 hd
  rw [bg (by simp;omega)]
  simp
 |y::tl,i,fu+1,out,hd,hfu,hl=>by
  rw [gJ]at hfu hl
  have hk:i<b.Nodes.length:=by
   rcases jM i b.Nodes.length with h|h
   ·exact h
   ·rw [zD h]at hd;cases hd
  rw [pW hk]at hd
  injection hd with hn' hd
  unfold mW
  rw [bm (by simp;omega),cg,pE hk,be,hn',C7,be,ca (by simp;omega),be,bP (by omega) (by omega)]
  have:=Kx n kinds x b ha hb tl (i+1) fu (out++[sj (x.Nodes.length:Int) y]) hd (by omega) (by simp;omega)
  rw [show((i+1:Nat):Int)=(i:Int)+1 by omega]at this
  rw [this,n6]
  rfl
theorem zj(n:M)(kinds:List Int){a b:aG}(ha:rP a)(hb:rP b)(fa fb:List bk):ph n kinds (mn a fa) (mn b fb)=some (mn (over2 n kinds a b) fb):=by
 have hl:=ha.len
 have hl2:=hb.len
 have hp:=ha.pos
 have hp2:=hb.pos
 unfold ph
 show((iC ([]:List M) a.nodes).bind _)=_
 rw [ca (by simp;omega),be,iv]
 have:=Kx n kinds (mn a fa) (mn b fb) hl hl2 b.nodes 0 dj a.nodes (by show b.nodes.drop 0=_;simp) (iK (by omega)) (by omega)
 rw [Int.ofNat_zero]at this
 rw [this,ca (by simp;omega),be]
 show some (bS.mk fb ((a.nodes++b.nodes.map (sj (a.nodes.length:Int)))++[M.mk n.Op (IntKind.i64.wrap ((a.nodes.length:Int)-1)) (IntKind.i64.wrap (((a.nodes++b.nodes.map (sj (a.nodes.length:Int))).length:Int)-1)) n.Table n.Kinds n.Left n.Cond n.Keys n.Aggs n.Items n.Order n.Limit]) kinds _ [])=_
 rw [bP (by omega) (by omega),bP (by simp;omega) (by simp;omega)]
 unfold mn over2 yA
 simp
theorem rP.over1{n:M}{kinds h:List Int}{s:aG}(hs:rP s)(hk:kinds.length≤100)(hh:h.length≤100)(hl:s.nodes.length≤999):rP (gW (over1 n kinds s) h) where
 at_:=hs.at_
 pos:=by simp [gW,Go.Proofs.YtnmjbolollcokaaGreatDoor.over1]
 len:=by simp [gW,Go.Proofs.YtnmjbolollcokaaGreatDoor.over1];omega
 kinds:=hk
 hashed:=hh
 refs:=fun m hm=>by
  have hm' :m∈s.nodes++[yA n ((s.nodes.length:Int)-1) (-1)]:=hm
  have hlen:((gW (Go.Proofs.YtnmjbolollcokaaGreatDoor.over1 n kinds s) h).nodes.length:Int)=(s.nodes.length:Int)+1:=by simp [gW,Go.Proofs.YtnmjbolollcokaaGreatDoor.over1]
  rw [hlen]
  rcases xj.1 hm' with hm|hm
  ·have:=hs.refs m hm
   omega
  ·rw [t7.1 hm]
   show(s.nodes.length:Int)-1<_∧(-1:Int)<_
   omega
theorem MN{d x m:Int}(h0:0≤d)(h:x<m)(hd:d≤100000)(hm:m≤100000):vt d x<d+m:=by
 unfold vt
 split
 ·rw [bP (by omega) (by omega)];omega
 ·omega
theorem rP.over2{n:M}{kinds h:List Int}{a b:aG}(ha:rP a)(hb:rP b)(hk:kinds.length≤100)(hh:h.length≤100)(hl:a.nodes.length+b.nodes.length≤999):rP (gW (over2 n kinds a b) h) where
 at_:=ha.at_
 pos:=by simp [gW,Go.Proofs.YtnmjbolollcokaaGreatDoor.over2];omega
 len:=by simp [gW,Go.Proofs.YtnmjbolollcokaaGreatDoor.over2];omega
 kinds:=hk
 hashed:=hh
 refs:=fun m hm=>by
  have hm' :m∈(a.nodes++b.nodes.map (sj (a.nodes.length:Int)))++[yA n ((a.nodes.length:Int)-1) ((a.nodes.length:Int)+(b.nodes.length:Int)-1)]:=hm
  have hlen:((gW (Go.Proofs.YtnmjbolollcokaaGreatDoor.over2 n kinds a b) h).nodes.length:Int)=(a.nodes.length:Int)+(b.nodes.length:Int)+1:=by simp [gW,Go.Proofs.YtnmjbolollcokaaGreatDoor.over2];omega
  rw [hlen]
  rcases xj.1 hm' with hm|hm
  ·rcases xj.1 hm with hm|hm
   ·have:=ha.refs m hm
    omega
   ·obtain⟨y,hy,rfl⟩:=Am.1 hm
    have:=hb.refs y hy
    have h1:=MN (d:=(a.nodes.length:Int)) (x:=y.A) (m:=(b.nodes.length:Int)) (by omega) this.1 (by omega) (by omega)
    have h2:=MN (d:=(a.nodes.length:Int)) (x:=y.B) (m:=(b.nodes.length:Int)) (by omega) this.2 (by omega) (by omega)
    show vt _ y.A<_∧vt _ y.B<_
    omega
  ·rw [t7.1 hm]
   show(a.nodes.length:Int)-1<_∧(a.nodes.length:Int)+(b.nodes.length:Int)-1<_
   omega
theorem G0(v:Int): ∀(l:List Int) (i:Nat),ol v l i=dT v l i
 |[],_=>rfl
 |e::tl,i=>by
  unfold ol dT
  by_cases h:e=v
  ·rw [bm (by simpa using h),bm (by simpa using h.symm)]
  ·rw [bg (by simpa using h),bg (by simpa using fun e' =>h e'.symm),G0 v tl (i+1)]
theorem Hq(v:Int): ∀(l:List Int) (i:Nat),∃j:Int,dT v l i=some j∧(j<0∨((i:Int)≤j∧j<((i+l.length:Nat):Int)))
 |[],i=>⟨-1,rfl,.inl (by omega)⟩
 |e::tl,i=>by
  unfold dT
  split
  ·exact⟨_,rfl,.inr ⟨Int.le_refl _,by simp;omega⟩⟩
  ·obtain⟨j,h1,h2⟩:=Hq v tl (i+1)
   refine⟨j,h1,?_⟩
   rw [gJ]
   omega
theorem D4(of l:List Int): ∀(tl out:List Int),out.length+tl.length≤1000→(∀k∈out,0≤k∧k<(l.length:Int))→
  ∃o b,mj of l tl out=some (o,b)∧ne of l tl out=some (o,b)∧o.length≤out.length+tl.length∧ ∀k∈o,0≤k∧k<(l.length:Int)
 |[],out,_,ho=>⟨out,_,rfl,rfl,dN _,ho⟩
 |e::tl,out,h,ho=>by
  rw [gJ]at h
  unfold mj ne
  have e1:AA l e=jP l e:=G0 e l 0
  obtain⟨j,h1,h2⟩:=Hq e l 0
  have h1' :jP l e=some j:=h1
  rw [e1,h1',be,be]
  by_cases hj:j<0
  ·rw [bm (by simpa using hj),bm (by simpa using hj)]
   exact⟨[],false,rfl,rfl,gx _,fun k hk=>by cases hk⟩
  ·rw [bg (by simpa using hj),bg (by simpa using hj),ca (by simp;omega),be,be]
   obtain⟨o,b,g1,g2,g3,g4⟩:=D4 of l tl (out++[j]) (by simp;omega) (fun k hk=>by
    rcases xj.1 hk with hk|hk
    ·exact ho k hk
    ·rw [t7.1 hk];omega)
   exact⟨o,b,g1,g2,by simp at g3 ⊢;omega,g4⟩
theorem ss(of l:List Int)(h:of.length≤1000): ∃o b,nN of l=some (o,b)∧hJ of l=some (o,b)∧o.length≤of.length∧ ∀k∈o,0≤k∧k<(l.length:Int):=by
 obtain⟨o,b,h1,h2,h3,h4⟩:=D4 of l of [] (by simpa using h) (fun k hk=>by cases hk)
 exact⟨o,b,h1,h2,by simpa using h3,h4⟩
theorem Hz(n:Nat)(hn:n≤100000): ∀(k j fu:Nat),j+k=n→k<fu→mf (n:Int) fu (nt j) (j:Int)=some (nt n)
 |k,j,0,_,h=>by omega
 |0,j,fu+1,hj,_=>by
  unfold mf
  rw [bg (by simp;omega),show j=n by omega]
 |k+1,j,fu+1,hj,hf=>by
  unfold mf
  rw [bm (by simp;omega),ca (by rw [kL];simp;omega),be,←wD,bP (by omega) (by omega)]
  exact Hz n hn k (j+1) fu (by omega) (by omega)
theorem xQ(n:Nat)(hn:n≤100000):p9 (n:Int)=some (nt n):=Hz n hn n 0 dj (by omega) (iK (by omega))
def Bl(l pl:List Int):List Int:=pl.map fun k=>(l[k.toNat]?).getD 0
theorem Ke{l:List Int}{k:Int}(h:0≤k∧k<(l.length:Int)):cK l k=some ((l[k.toNat]?).getD 0):=by
 have hlt:k.toNat<l.length:=by omega
 rw [kj k.toNat (by omega),pE hlt]
 rfl
theorem vI(other:List Int)(r:List Int×Bool): ∀(tl out:List Int),out.length+tl.length≤1000→(∀k∈tl,0≤k∧k<(other.length:Int))→je other r tl out=some (out++Bl other tl,r.2)
 |[],out,_,_=>by unfold je;simp [Bl]
 |k::tl,out,h,hk=>by
  rw [gJ]at h
  unfold je
  rw [Ke (hk k (nm ..)),be,ca (by simp;omega),be,vI other r tl _ (by simp;omega) (fun x hx=>hk x (nE _ hx))]
  simp [Bl]
theorem GV(l:List Int): ∀(tl out:List Int),out.length+tl.length≤1000→(∀k∈tl,0≤k∧k<(l.length:Int))→qa l tl out=some (out++Bl l tl)
 |[],out,_,_=>by unfold qa;simp [Bl]
 |k::tl,out,h,hk=>by
  rw [gJ]at h
  unfold qa
  rw [Ke (hk k (nm ..)),be,ca (by simp;omega),be,GV l tl _ (by simp;omega) (fun x hx=>hk x (nE _ hx))]
  simp [Bl]
theorem QV(l pl:List Int)(h:pl.length≤1000)(hk: ∀k∈pl,0≤k∧k<(l.length:Int)):tG l pl=some (Bl l pl):=by
 have:=GV l pl [] (by simpa using h) hk
 rw [iv]at this
 exact this
theorem Lc(e:aT)(hr:fv e.Nodes=true): ∃sb,qZ e=some sb∧rk e=some sb:=by
 have hl:=um hr
 refine⟨_,?_,C9 e⟩
 rw [FM _ (by omega),hr]
 rfl
theorem Qt: ∀{t:Tr},t.wf→ ∀u∈qC t,u.wf∧u.size≤t.size:=by
 intro t
 induction t with
 |lf n=>intro h u hu;rw [t7.1 hu];exact⟨h,dN _⟩
 |un n a _=>intro h u hu;rw [t7.1 hu];exact⟨h,dN _⟩
 |bi n a b iha ihb=>
  intro h u hu
  rw [tQ]at hu
  split at hu
  ·have e:(Tr.bi n a b).size=a.size+b.size+1:=rfl
   rcases xj.1 hu with hu|hu
   ·have:=iha h.2.1 u hu
    exact⟨this.1,by omega⟩
   ·have:=ihb h.2.2 u hu
    exact⟨this.1,by omega⟩
  ·rw [t7.1 hu];exact⟨h,dN _⟩
theorem L0(cond:aT)(hr:fv cond.Nodes=true): ∃es,tP cond=some es∧xE cond=some es∧ ∀e∈es,fv e.Nodes=true:=by
 obtain⟨ns⟩:=cond
 have hl:=um hr
 obtain⟨t,ht⟩: ∃t,np ns=some t:=by
  unfold fv at hr
  exact Option.isSome_iff_exists.1 hr
 obtain⟨hw,hN,hs⟩:=nG ht
 have hx:(⟨ns⟩:aT)=BB t:=by unfold BB;rw [←hN]
 refine⟨(qC t).map BB,?_,by rw [hx];exact Da hw hs,fun e he=>?_⟩
 ·rw [FO _ (by show ns.length≤80000;have:ns.length≤1000:=hl.2;omega)]
  simp only [ht]
 ·obtain⟨u,hu,rfl⟩:=Am.1 he
  have:=Qt hw u hu
  exact GP this.1 (by omega)
theorem yJ(left:Int): ∀(es:List aT) (a b:List Int),(∀e∈es,fv e.Nodes=true)→a.length=b.length→a.length≤16→ ∃a' b',i8 left es a b=some (a',b')∧jn left es a b=some (a',b')∧a'.length=b'.length∧a'.length≤16
 |[],a,b,_,h1,h2=>⟨a,b,rfl,rfl,h1,h2⟩
 |e::es,a,b,hr,h1,h2=>by
  have hre:=hr e (nm ..)
  have hrt:=fun x hx=>hr x (nE _ hx)
  obtain⟨hp,p,hp2⟩:=Ln e left hre
  obtain⟨sb,hs1,hs2⟩: ∃sb,qZ e=some sb∧rk e=some sb:=Lc e hre
  unfold i8 jn
  rw [hp,hp2,be,be]
  obtain⟨x,y,ok⟩:=p
  cases ok with
  |false=>
   simp only [vg,iE,Dq,mz,iM]
   unfold om mZ
   simp only [vg,iE]
   rw [hs1,hs2,be]
   cases sb with
   |false=>exact⟨[],[],rfl,rfl,rfl,gx _⟩
   |true=>exact yJ left es a b hrt h1 h2
  |true=>
   simp only [nT,mz,iM,vb]
   have hk: ∀a2 b1:List Int,om (jn left es) e (x,y,true) a2 b1=jn left es a2 b1:=fun a2 b1=>rfl
   by_cases hl:a.length<16
   ·rw [bm (by simp;omega),bm (by simp;omega),ca (by simp;omega),be,be,ca (by simp;omega),be,be,hk]
    exact yJ left es _ _ hrt (by simp;omega) (by simp;omega)
   ·rw [bg (by simp;omega),bg (by simp;omega),hk]
    exact yJ left es a b hrt h1 h2
theorem IU(cond:aT)(left:Int)(hr:fv cond.Nodes=true): ∃a b,uw cond left=some (a,b)∧sk cond left=some (a,b)∧a.length=b.length∧a.length≤16:=by
 obtain⟨es,h1,h2,h3⟩:=L0 cond hr
 unfold uw sk
 rw [h1,h2,be,be]
 exact yJ left es [] [] h3 rfl (gx _)
end Go.Proofs.YtnmjbolollcokaaGreatDoor

