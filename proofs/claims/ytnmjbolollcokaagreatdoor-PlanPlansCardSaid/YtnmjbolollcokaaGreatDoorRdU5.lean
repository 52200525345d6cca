/- dr of this claim: U5. -/
import Derived.Test.YtnmjbolollcokaaGreatDoorRdU2
import Derived.Test.YtnmjbolollcokaaGreatDoorRdQ3
set_option linter.all false
namespace Go.Proofs.YtnmjbolollcokaaGreatDoor
open Go

def oI(s:ba)(fs:List bK):bI:=⟨fs,s.nodes,s.kinds,decide (s.at_=2),s.hashed⟩
def qU(p:aO)(fs:List bK):aO:={p with Plan:=⟨fs⟩}
def Ck(t:Nat)(kinds:List Int):af:=⟨9,-1,-1,(t:Int),kinds,false,⟨[]⟩,[],[],[],[],0⟩
def qZ(s:ba)(way:Int)(cols:List Int)(fs:List bK):ba:=⟨[Ck fs.length s.kinds],s.kinds,if way=3 then 2 else 1,cols⟩
def q0(s:ba)(way:Int)(cols:List Int)(fs:List bK):List bK:=fs++[⟨s.nodes,s.at_,way,cols⟩]
def xv(n:af)(a b:Int):af:=af.mk n.Op a b n.Table n.Kinds n.Left n.Cond n.Keys n.Aggs n.Items n.Order n.Limit
def over1(n:af)(kinds:List Int)(s:ba):ba:=⟨s.nodes++[xv n ((s.nodes.length:Int)-1) (-1)],kinds,s.at_,[]⟩
def over2(n:af)(kinds:List Int)(a b:ba):ba:=⟨a.nodes++b.nodes.map (uy (a.nodes.length:Int))++[xv n ((a.nodes.length:Int)-1) ((a.nodes.length:Int)+(b.nodes.length:Int)-1)],kinds,a.at_,[]⟩
def jF(s:ba)(h:List Int):ba:=⟨s.nodes,s.kinds,s.at_,h⟩
def Eu(n:af):Prop:=n.Aggs.length≤5000∧n.Order.length≤5000
structure tG(s:ba):Prop where
 at_:s.at_=1∨s.at_=2
 pos:1≤s.nodes.length
 len:s.nodes.length≤1000
 kinds:s.kinds.length≤100
 hashed:s.hashed.length≤100
 refs: ∀n∈s.nodes,n.A<(s.nodes.length:Int)∧n.B<(s.nodes.length:Int)
 sm: ∀n∈s.nodes,Eu n
theorem yc(l:List Int)(h:l.length≤100000):cr l=some l:=by
 unfold cr
 rw [cP (by simp;omega)]
 rfl
theorem zR(l:List af)(h:l.length≤100000):eE l=some l:=by
 unfold eE
 rw [cP (by simp;omega)]
 rfl
theorem qe{p:aO}{s:ba}{way:Int}{cols:List Int}{fs:List bK}(hc:cols.length≤1000)(hk:s.kinds.length≤1000)(hf:fs.length≤1000):eg (qU p fs) s way cols=some (qZ s way cols fs,qU p (q0 s way cols fs)):=by
 unfold eg
 rw [yc cols (by omega),bC]
 show((kq fs [(⟨s.nodes,s.at_,way,cols⟩:bK)]).bind _)=_
 rw [cP (by simp;omega),bC,yc s.kinds (by omega),bC]
 have e:IntKind.i64.wrap (((fs++[(⟨s.nodes,s.at_,way,cols⟩:bK)]).length:Int)-1)=(fs.length:Int):=by
  rw [cA (by simp<;>omega) (by simp<;>omega)];simp
 unfold lP qZ q0 Ck
 rw [e]
 by_cases hw:way=3
 ·rw [bS (by simpa using hw),bS hw];rfl
 ·rw [bM (by simpa using hw),bM hw];rfl
theorem sj{s:ba}(hs:tG s){way:Int}{cols:List Int}{fs:List bK}(hf:fs.length≤1000):iv (oI s fs) way cols=some (oI (qZ s way cols fs) (q0 s way cols fs)):=by
 have key: ∀f:bK,f=⟨s.nodes,s.at_,way,cols⟩→pw (oI s fs) way cols f=some (oI (qZ s way cols fs) (q0 s way cols fs)):=by
  rintro f rfl
  unfold pw
  show((kq ([]:List bK) fs).bind _)=_
  rw [cP (by simp;omega),bC,cP (by simp;omega),bC,ke]
  have e:IntKind.i64.wrap (((fs++[(⟨s.nodes,s.at_,way,cols⟩:bK)]).length:Int)-1)=(fs.length:Int):=by
   rw [cA (by simp<;>omega) (by simp<;>omega)];simp
  rw [e]
  unfold oI qZ q0 Ck
  by_cases hw:way=3
  ·subst hw;rfl
  ·rw [bM hw]
   have:(way==3)=false:=by simpa using hw
   rw [this];rfl
 unfold iv
 rcases hs.at_ with h|h
 ·rw [bM (by show¬decide (s.at_=2)=true;rw [h];decide)]
  exact key _ (by rw [h];rfl)
 ·rw [bS (by show decide (s.at_=2)=true;rw [h];decide)]
  exact key _ (by rw [h];rfl)
theorem tG.send{s:ba}(hs:tG s){way:Int}{cols:List Int}{fs:List bK}(hc:cols.length≤100):tG (qZ s way cols fs) where
 at_:=by unfold qZ;by_cases h:way=3<;>simp [h]
 pos:=by simp [qZ]
 len:=by simp [qZ]
 kinds:=hs.kinds
 hashed:=hc
 refs:=fun n hn=>by
  have:n=Ck fs.length s.kinds:=by simpa [qZ] using hn
  subst this
  simp [qZ,Ck]
 sm:=fun n hn=>by
  have:n=Ck fs.length s.kinds:=by simpa [qZ] using hn
  subst this
  simp [Eu,Ck]
def tm(s:ba)(fs:List bK):ba:=if s.at_=2 then s else qZ s 3 [] fs
def qp(s:ba)(fs:List bK):List bK:=if s.at_=2 then fs else q0 s 3 [] fs
theorem vB{p:aO}{s:ba}{fs:List bK}(hk:s.kinds.length≤1000)(hf:fs.length≤1000):dS (qU p fs) s=some (tm s fs,qU p (qp s fs)):=by
 unfold dS tm qp
 by_cases h:s.at_=2
 ·rw [bS (by simpa using h),bS h,bS h]
 ·rw [bM (by simpa using h),bM h,bM h,qe (by simp) hk hf];rfl
theorem yp{s:ba}(hs:tG s){fs:List bK}(hf:fs.length≤1000):eh (oI s fs)=some (oI (tm s fs) (qp s fs)):=by
 unfold eh tm qp
 by_cases h:s.at_=2
 ·rw [bS (by show decide (s.at_=2)=true;rw [h];decide),bS h,bS h]
 ·rw [bM (by show¬decide (s.at_=2)=true;simpa using h),bM h,bM h,sj hs hf];rfl
theorem tG.one{s:ba}(hs:tG s){fs:List bK}:tG (tm s fs):=by
 unfold tm
 split
 ·exact hs
 ·exact hs.send (by simp)
theorem TR{s:ba}{fs:List bK}:(tm s fs).at_=2:=by
 unfold tm
 split
 ·assumption
 ·rfl
theorem xF(s:ba)(fs:List bK):fs.length≤(qp s fs).length∧(qp s fs).length≤fs.length+1:=by
 unfold qp q0
 split<;>simp
theorem qf(s:ba)(way:Int)(cols:List Int)(fs:List bK):(q0 s way cols fs).length=fs.length+1:=by simp [q0]
theorem TM(d:Int)(x:af):uy d x=af.mk x.Op (xp d x.A) (xp d x.B) x.Table x.Kinds x.Left x.Cond x.Keys x.Aggs x.Items x.Order x.Limit:=rfl
theorem wm(nx:Nat→af→ba→Option ba)(i:Nat)(n1:af)(out:ba): ∀(tl:List af) (cv:ba),cv.nodes.length+tl.length≤100000→
  dT nx i n1 out tl cv=dT nx i n1 out [] {cv with nodes:=cv.nodes++tl.map (uy (out.nodes.length:Int))}
 |[],cv,_=>by simp
 |x::tl,cv,h=>by
  rw [iR]at h
  have ex:x=af.mk x.Op x.A x.B x.Table x.Kinds x.Left x.Cond x.Keys x.Aggs x.Items x.Order x.Limit:=rfl
  have key: ∀a:Int,a=xp (out.nodes.length:Int) x.A→qH out (dT nx i n1 out tl) cv (af.mk x.Op a x.B x.Table x.Kinds x.Left x.Cond x.Keys x.Aggs x.Items x.Order x.Limit)=dT nx i n1 out tl {cv with nodes:=cv.nodes++[uy (out.nodes.length:Int) x]}:=by
   intro a hA
   have hk2: ∀z:af,qG (dT nx i n1 out tl) cv z=dT nx i n1 out tl {cv with nodes:=cv.nodes++[z]}:=fun z=>by
    unfold qG
    rw [cP (by simp;omega),bC]
   unfold qH
   rw [hk2,hk2,TM,hA]
   by_cases hb:0≤x.B
   ·rw [bS (by simpa using hb)]
    have:xp (out.nodes.length:Int) x.B=IntKind.i64.wrap (x.B+(out.nodes.length:Int)):=bS hb
    rw [this]
   ·rw [bM (by simpa using hb)]
    have:xp (out.nodes.length:Int) x.B=x.B:=bM hb
    rw [this]
  have fin:dT nx i n1 out tl {cv with nodes:=cv.nodes++[uy (out.nodes.length:Int) x]}=dT nx i n1 out [] {cv with nodes:=cv.nodes++(x::tl).map (uy (out.nodes.length:Int))}:=by
   rw [wm nx i n1 out tl _ (by simp;omega)]
   simp
  conv=>lhs;unfold dT
  by_cases ha:0≤x.A
  ·have:=key (IntKind.i64.wrap (x.A+(out.nodes.length:Int))) (by unfold xp;rw [bS ha])
   rw [bS (by simpa using ha),this,fin]
  ·have:=key x.A (by unfold xp;rw [bM ha])
   rw [←ex]at this
   rw [bM (by simpa using ha),this,fin]
theorem Lf{s:ba}(hs:tG s):s.nodes.map (uy 0)=s.nodes:=by
 have hl:=hs.len
 have: ∀n∈s.nodes,uy 0 n=n:=fun n hn=>by
  have:=hs.refs n hn
  exact H0 (by omega) (by omega)
 exact(HI this).trans (List.map_id _)
theorem mn(n:af)(kinds:List Int){s:ba}(hs:tG s):eU n kinds [s]=some (over1 n kinds s):=by
 have hl:=hs.len
 have hp:=hs.pos
 unfold eU
 show fK [s] 0 _ _=_
 unfold fK
 rw [zR s.nodes (by omega),bC,wm _ _ _ _ _ _ (by simp;omega)]
 show dT (fK []) 0 _ _ [] ⟨[]++s.nodes.map (uy 0),kinds,s.at_,[]⟩=_
 rw [Lf hs,ke]
 unfold dT
 rw [bS (by simp)]
 unfold fK
 show((kq s.nodes _).bind _)=_
 rw [cP (by simp;omega),bC]
 show some (⟨s.nodes++[af.mk n.Op (IntKind.i64.wrap ((s.nodes.length:Int)-1)) (-1) n.Table n.Kinds n.Left n.Cond n.Keys n.Aggs n.Items n.Order n.Limit],kinds,s.at_,[]⟩:ba)=_
 rw [cA (by omega) (by omega)]
 rfl
theorem wn(n:af)(kinds:List Int){a b:ba}(ha:tG a)(hb:tG b):eU n kinds [a,b]=some (over2 n kinds a b):=by
 have hl:=ha.len
 have hl2:=hb.len
 have hp:=ha.pos
 have hp2:=hb.pos
 unfold eU
 show fK [a,b] 0 _ _=_
 unfold fK
 rw [zR a.nodes (by omega),bC,wm _ _ _ _ _ _ (by simp;omega)]
 show dT (fK [b]) 0 _ _ [] ⟨[]++a.nodes.map (uy 0),kinds,a.at_,[]⟩=_
 rw [Lf ha,ke]
 unfold dT
 rw [bS (by simp)]
 unfold fK
 rw [zR b.nodes (by omega),bC,wm _ _ _ _ _ _ (by simp;omega)]
 unfold dT
 rw [bM (by simp)]
 unfold fK
 show((kq (a.nodes++b.nodes.map (uy (a.nodes.length:Int))) _).bind _)=_
 rw [cP (by simp;omega),bC]
 show some (⟨(a.nodes++b.nodes.map (uy (a.nodes.length:Int)))++[af.mk n.Op (IntKind.i64.wrap ((a.nodes.length:Int)-1)) (IntKind.i64.wrap (((a.nodes++b.nodes.map (uy (a.nodes.length:Int))).length:Int)-1)) n.Table n.Kinds n.Left n.Cond n.Keys n.Aggs n.Items n.Order n.Limit],kinds,a.at_,[]⟩:ba)=_
 rw [cA (by omega) (by omega),cA (by simp;omega) (by simp;omega)]
 unfold over2 xv
 simp
theorem nR(n:af)(kinds:List Int){s:ba}(hs:tG s)(fs:List bK):gb n kinds (oI s fs)=some (oI (jF (over1 n kinds s) s.hashed) fs):=by
 have hl:=hs.len
 have hp:=hs.pos
 unfold gb
 show((kq ([]:List af) s.nodes).bind _)=_
 rw [cP (by simp;omega),bC,cP (by simp;omega),bC,ke]
 show some (bI.mk fs (s.nodes++[af.mk n.Op (IntKind.i64.wrap ((s.nodes.length:Int)-1)) (-1) n.Table n.Kinds n.Left n.Cond n.Keys n.Aggs n.Items n.Order n.Limit]) kinds _ s.hashed)=_
 rw [cA (by omega) (by omega)]
 rfl
theorem LZ(n:af)(kinds:List Int)(x b:bI)(ha:x.Nodes.length≤1000)(hb:b.Nodes.length≤1000): ∀(tl:List af) (i fu:Nat) (out:List af),b.Nodes.drop i=tl→tl.length<fu→out.length+tl.length≤10000→
  nN n kinds x b fu out (i:Int)=(kq (out++tl.map (uy (x.Nodes.length:Int))) ([(af.mk n.Op (IntKind.i64.wrap ((x.Nodes.length:Int)-(1:Int))) (IntKind.i64.wrap (((out++tl.map (uy (x.Nodes.length:Int))).length:Int)-(1:Int))) n.Table n.Kinds n.Left n.Cond n.Keys n.Aggs n.Items n.Order n.Limit)])).bind fun l4=>some (⟨b.Frags,l4,kinds,x.One,[]⟩:bI)
 |tl,i,0,_,_,h,_=>by omega
 |[],i,fu+1,out,hd,_,_=>by
  unfold nN
  have hk:b.Nodes.length≤i:=zY.1 hd
  rw [bM (by simp;omega)]
  simp
 |y::tl,i,fu+1,out,hd,hfu,hl=>by
  rw [iR]at hfu hl
  have hk:i<b.Nodes.length:=by
   rcases lu i b.Nodes.length with h|h
   ·exact h
   ·rw [Bf h]at hd;cases hd
  rw [r0 hk]at hd
  injection hd with hn' hd
  unfold nN
  rw [bS (by simp;omega),cQ,q6 hk,bC,hn',EN,bC,cP (by simp;omega),bC,cA (by omega) (by omega)]
  have:=LZ n kinds x b ha hb tl (i+1) fu (out++[uy (x.Nodes.length:Int) y]) hd (by omega) (by simp;omega)
  rw [show((i+1:Nat):Int)=(i:Int)+1 by omega]at this
  rw [this,iS]
  rfl
theorem AY(n:af)(kinds:List Int){a b:ba}(ha:tG a)(hb:tG b)(fa fb:List bK):pX n kinds (oI a fa) (oI b fb)=some (oI (over2 n kinds a b) fb):=by
 have hl:=ha.len
 have hl2:=hb.len
 have hp:=ha.pos
 have hp2:=hb.pos
 unfold pX
 show((kq ([]:List af) a.nodes).bind _)=_
 rw [cP (by simp;omega),bC,ke]
 have:=LZ n kinds (oI a fa) (oI b fb) hl hl2 b.nodes 0 cZ a.nodes (by show b.nodes.drop 0=_;simp) (iF (by omega)) (by omega)
 rw [Int.ofNat_zero]at this
 rw [this,cP (by simp;omega),bC]
 show some (bI.mk fb ((a.nodes++b.nodes.map (uy (a.nodes.length:Int)))++[af.mk n.Op (IntKind.i64.wrap ((a.nodes.length:Int)-1)) (IntKind.i64.wrap (((a.nodes++b.nodes.map (uy (a.nodes.length:Int))).length:Int)-1)) n.Table n.Kinds n.Left n.Cond n.Keys n.Aggs n.Items n.Order n.Limit]) kinds _ [])=_
 rw [cA (by omega) (by omega),cA (by simp;omega) (by simp;omega)]
 unfold oI over2 xv
 simp
theorem tG.over1{n:af}{kinds h:List Int}{s:ba}(hs:tG s)(hk:kinds.length≤100)(hh:h.length≤100)(hl:s.nodes.length≤999)(hq:Eu n:=by assumption):tG (jF (over1 n kinds s) h) where
 at_:=hs.at_
 pos:=by simp [jF,Go.Proofs.YtnmjbolollcokaaGreatDoor.over1]
 len:=by simp [jF,Go.Proofs.YtnmjbolollcokaaGreatDoor.over1];omega
 kinds:=hk
 hashed:=hh
 refs:=fun m hm=>by
  have hm' :m∈s.nodes++[xv n ((s.nodes.length:Int)-1) (-1)]:=hm
  have hlen:((jF (Go.Proofs.YtnmjbolollcokaaGreatDoor.over1 n kinds s) h).nodes.length:Int)=(s.nodes.length:Int)+1:=by simp [jF,Go.Proofs.YtnmjbolollcokaaGreatDoor.over1]
  rw [hlen]
  rcases wT.1 hm' with hm|hm
  ·have:=hs.refs m hm
   omega
  ·rw [tQ.1 hm]
   show(s.nodes.length:Int)-1<_∧(-1:Int)<_
   omega
 sm:=fun m hm=>by
  have hm' :m∈s.nodes++[xv n ((s.nodes.length:Int)-1) (-1)]:=hm
  rcases wT.1 hm' with hm|hm
  ·exact hs.sm m hm
  ·rw [tQ.1 hm];exact hq
theorem Ox{d x m:Int}(h0:0≤d)(h:x<m)(hd:d≤100000)(hm:m≤100000):xp d x<d+m:=by
 unfold xp
 split
 ·rw [cA (by omega) (by omega)];omega
 ·omega
theorem tG.over2{n:af}{kinds h:List Int}{a b:ba}(ha:tG a)(hb:tG b)(hk:kinds.length≤100)(hh:h.length≤100)(hl:a.nodes.length+b.nodes.length≤999)(hq:Eu n:=by assumption):tG (jF (over2 n kinds a b) h) where
 at_:=ha.at_
 pos:=by simp [jF,Go.Proofs.YtnmjbolollcokaaGreatDoor.over2];omega
 len:=by simp [jF,Go.Proofs.YtnmjbolollcokaaGreatDoor.over2];omega
 kinds:=hk
 hashed:=hh
 refs:=fun m hm=>by
  have hm' :m∈(a.nodes++b.nodes.map (uy (a.nodes.length:Int)))++[xv n ((a.nodes.length:Int)-1) ((a.nodes.length:Int)+(b.nodes.length:Int)-1)]:=hm
  have hlen:((jF (Go.Proofs.YtnmjbolollcokaaGreatDoor.over2 n kinds a b) h).nodes.length:Int)=(a.nodes.length:Int)+(b.nodes.length:Int)+1:=by simp [jF,Go.Proofs.YtnmjbolollcokaaGreatDoor.over2];omega
  rw [hlen]
  rcases wT.1 hm' with hm|hm
  ·rcases wT.1 hm with hm|hm
   ·have:=ha.refs m hm
    omega
   ·obtain⟨y,hy,rfl⟩:=z7.1 hm
    have:=hb.refs y hy
    have h1:=Ox (d:=(a.nodes.length:Int)) (x:=y.A) (m:=(b.nodes.length:Int)) (by omega) this.1 (by omega) (by omega)
    have h2:=Ox (d:=(a.nodes.length:Int)) (x:=y.B) (m:=(b.nodes.length:Int)) (by omega) this.2 (by omega) (by omega)
    show xp _ y.A<_∧xp _ y.B<_
    omega
  ·rw [tQ.1 hm]
   show(a.nodes.length:Int)-1<_∧(a.nodes.length:Int)+(b.nodes.length:Int)-1<_
   omega
 sm:=fun m hm=>by
  have hm' :m∈(a.nodes++b.nodes.map (uy (a.nodes.length:Int)))++[xv n ((a.nodes.length:Int)-1) ((a.nodes.length:Int)+(b.nodes.length:Int)-1)]:=hm
  rcases wT.1 hm' with hm|hm
  ·rcases wT.1 hm with hm|hm
   ·exact ha.sm m hm
   ·obtain⟨y,hy,rfl⟩:=z7.1 hm
    exact hb.sm y hy
  ·rw [tQ.1 hm];exact hq
theorem Is(v:Int): ∀(l:List Int) (i:Nat),ov v l i=ff v l i
 |[],_=>rfl
 |e::tl,i=>by
  unfold ov ff
  by_cases h:e=v
  ·rw [bS (by simpa using h),bS (by simpa using h.symm)]
  ·rw [bM (by simpa using h),bM (by simpa using fun e' =>h e'.symm),Is v tl (i+1)]
theorem IT(v:Int): ∀(l:List Int) (i:Nat),∃j:Int,ff v l i=some j∧(j<0∨((i:Int)≤j∧j<((i+l.length:Nat):Int)))
 |[],i=>⟨-1,rfl,.inl (by omega)⟩
 |e::tl,i=>by
  unfold ff
  split
  ·exact⟨_,rfl,.inr ⟨Int.le_refl _,by simp;omega⟩⟩
  ·obtain⟨j,h1,h2⟩:=IT v tl (i+1)
   refine⟨j,h1,?_⟩
   rw [iR]
   omega
theorem FH(of l:List Int): ∀(tl out:List Int),out.length+tl.length≤1000→(∀k∈out,0≤k∧k<(l.length:Int))→
  ∃o b,oG of l tl out=some (o,b)∧nG of l tl out=some (o,b)∧o.length≤out.length+tl.length∧ ∀k∈o,0≤k∧k<(l.length:Int)
 |[],out,_,ho=>⟨out,_,rfl,rfl,eW _,ho⟩
 |e::tl,out,h,ho=>by
  rw [iR]at h
  unfold oG nG
  have e1:xw l e=lK l e:=Is e l 0
  obtain⟨j,h1,h2⟩:=IT e l 0
  have h1' :lK l e=some j:=h1
  rw [e1,h1',bC,bC]
  by_cases hj:j<0
  ·rw [bS (by simpa using hj),bS (by simpa using hj)]
   exact⟨[],false,rfl,rfl,iP _,fun k hk=>by cases hk⟩
  ·rw [bM (by simpa using hj),bM (by simpa using hj),cP (by simp;omega),bC,bC]
   obtain⟨o,b,g1,g2,g3,g4⟩:=FH of l tl (out++[j]) (by simp;omega) (fun k hk=>by
    rcases wT.1 hk with hk|hk
    ·exact ho k hk
    ·rw [tQ.1 hk];omega)
   exact⟨o,b,g1,g2,by simp at g3 ⊢;omega,g4⟩
theorem uN(of l:List Int)(h:of.length≤1000): ∃o b,qi of l=some (o,b)∧iX of l=some (o,b)∧o.length≤of.length∧ ∀k∈o,0≤k∧k<(l.length:Int):=by
 obtain⟨o,b,h1,h2,h3,h4⟩:=FH of l of [] (by simpa using h) (fun k hk=>by cases hk)
 exact⟨o,b,h1,h2,by simpa using h3,h4⟩
theorem I1(n:Nat)(hn:n≤100000): ∀(k j fu:Nat),j+k=n→k<fu→mO (n:Int) fu (sG j) (j:Int)=some (sG n)
 |k,j,0,_,h=>by omega
 |0,j,fu+1,hj,_=>by
  unfold mO
  rw [bM (by simp;omega),show j=n by omega]
 |k+1,j,fu+1,hj,hf=>by
  unfold mO
  rw [bS (by simp;omega),cP (by rw [pK];simp;omega),bC,←FT,cA (by omega) (by omega)]
  exact I1 n hn k (j+1) fu (by omega) (by omega)
theorem zJ(n:Nat)(hn:n≤100000):oy (n:Int)=some (sG n):=I1 n hn n 0 cZ (by omega) (iF (by omega))
def CT(l pl:List Int):List Int:=pl.map fun k=>(l[k.toNat]?).getD 0
theorem Lv{l:List Int}{k:Int}(h:0≤k∧k<(l.length:Int)):dw l k=some ((l[k.toNat]?).getD 0):=by
 have hlt:k.toNat<l.length:=by omega
 rw [mp k.toNat (by omega),q6 hlt]
 rfl
theorem xD(other:List Int)(r:List Int×Bool): ∀(tl out:List Int),out.length+tl.length≤1000→(∀k∈tl,0≤k∧k<(other.length:Int))→kV other r tl out=some (out++CT other tl,r.2)
 |[],out,_,_=>by unfold kV;simp [CT]
 |k::tl,out,h,hk=>by
  rw [iR]at h
  unfold kV
  rw [Lv (hk k (iA ..)),bC,cP (by simp;omega),bC,xD other r tl _ (by simp;omega) (fun x hx=>hk x (pS _ hx))]
  simp [CT]
theorem Il(l:List Int): ∀(tl out:List Int),out.length+tl.length≤1000→(∀k∈tl,0≤k∧k<(l.length:Int))→qg l tl out=some (out++CT l tl)
 |[],out,_,_=>by unfold qg;simp [CT]
 |k::tl,out,h,hk=>by
  rw [iR]at h
  unfold qg
  rw [Lv (hk k (iA ..)),bC,cP (by simp;omega),bC,Il l tl _ (by simp;omega) (fun x hx=>hk x (pS _ hx))]
  simp [CT]
theorem SZ(l pl:List Int)(h:pl.length≤1000)(hk: ∀k∈pl,0≤k∧k<(l.length:Int)):sn l pl=some (CT l pl):=by
 have:=Il l pl [] (by simpa using h) hk
 rw [ke]at this
 exact this
theorem MH(e:bf)(hr:gN e.Nodes=true): ∃sb,tM e=some sb∧rh e=some sb:=by
 have hl:=wb hr
 refine⟨_,?_,EP e⟩
 rw [Hm _ (by omega),hr]
 rfl
theorem Su: ∀{t:Tr},t.wf→ ∀u∈s7 t,u.wf∧u.size≤t.size:=by
 intro t
 induction t with
 |lf n=>intro h u hu;rw [tQ.1 hu];exact⟨h,eW _⟩
 |un n a _=>intro h u hu;rw [tQ.1 hu];exact⟨h,eW _⟩
 |bi n a b iha ihb=>
  intro h u hu
  rw [vI]at hu
  split at hu
  ·have e:(Tr.bi n a b).size=a.size+b.size+1:=rfl
   rcases wT.1 hu with hu|hu
   ·have:=iha h.2.1 u hu
    exact⟨this.1,by omega⟩
   ·have:=ihb h.2.2 u hu
    exact⟨this.1,by omega⟩
  ·rw [tQ.1 hu];exact⟨h,eW _⟩
theorem NI(cond:bf)(hr:gN cond.Nodes=true): ∃es,vH cond=some es∧wh cond=some es∧ ∀e∈es,gN e.Nodes=true:=by
 obtain⟨ns⟩:=cond
 have hl:=wb hr
 obtain⟨t,ht⟩: ∃t,pU ns=some t:=by
  unfold gN at hr
  exact Option.isSome_iff_exists.1 hr
 obtain⟨hw,hN,hs⟩:=qb ht
 have hx:(⟨ns⟩:bf)=Dc t:=by unfold Dc;rw [←hN]
 refine⟨(s7 t).map Dc,?_,by rw [hx];exact EQ hw hs,fun e he=>?_⟩
 ·rw [Ho _ (by show ns.length≤80000;have:ns.length≤1000:=hl.2;omega)]
  simp only [ht]
 ·obtain⟨u,hu,rfl⟩:=z7.1 he
  have:=Su hw u hu
  exact Ig this.1 (by omega)
theorem Aw(left:Int): ∀(es:List bf) (a b:List Int),(∀e∈es,gN e.Nodes=true)→a.length=b.length→a.length≤16→ ∃a' b',kR left es a b=some (a',b')∧iY left es a b=some (a',b')∧a'.length=b'.length∧a'.length≤16
 |[],a,b,_,h1,h2=>⟨a,b,rfl,rfl,h1,h2⟩
 |e::es,a,b,hr,h1,h2=>by
  have hre:=hr e (iA ..)
  have hrt:=fun x hx=>hr x (pS _ hx)
  obtain⟨hp,p,hp2⟩:=MR e left hre
  obtain⟨sb,hs1,hs2⟩: ∃sb,tM e=some sb∧rh e=some sb:=MH e hre
  unfold kR iY
  rw [hp,hp2,bC,bC]
  obtain⟨x,y,ok⟩:=p
  cases ok with
  |false=>
   simp only [Bb,jW,E7,mA,ji]
   unfold ow pE
   simp only [Bb,jW]
   rw [hs1,hs2,bC]
   cases sb with
   |false=>exact⟨[],[],rfl,rfl,rfl,iP _⟩
   |true=>exact Aw left es a b hrt h1 h2
  |true=>
   simp only [oh,mA,ji,w8]
   have hk: ∀a2 b1:List Int,ow (iY left es) e (x,y,true) a2 b1=iY left es a2 b1:=fun a2 b1=>rfl
   by_cases hl:a.length<16
   ·rw [bS (by simp;omega),bS (by simp;omega),cP (by simp;omega),bC,bC,cP (by simp;omega),bC,bC,hk]
    exact Aw left es _ _ hrt (by simp;omega) (by simp;omega)
   ·rw [bM (by simp;omega),bM (by simp;omega),hk]
    exact Aw left es a b hrt h1 h2
theorem Kd(cond:bf)(left:Int)(hr:gN cond.Nodes=true): ∃a b,wk cond left=some (a,b)∧sl cond left=some (a,b)∧a.length=b.length∧a.length≤16:=by
 obtain⟨es,h1,h2,h3⟩:=NI cond hr
 unfold wk sl
 rw [h1,h2,bC,bC]
 exact Aw left es [] [] h3 rfl (iP _)
end Go.Proofs.YtnmjbolollcokaaGreatDoor

