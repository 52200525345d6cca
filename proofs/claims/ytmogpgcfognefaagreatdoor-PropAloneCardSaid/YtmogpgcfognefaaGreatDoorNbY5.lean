/- cF of this claim: Y5. -/
import Derived.Test.YtmogpgcfognefaaGreatDoorNbY4
set_option linter.all false
namespace Go.Proofs.YtmogpgcfognefaaGreatDoor
open Go

structure vX(m:Nat)(x:bp):Prop where
 cols:x.Kind=2↔0<x.Cols.length
 inr: ∀c∈x.Cols,0≤c∧c<(m:Int)
 len:x.Cols.length≤100000
theorem vX.any{m:Nat}:vX m ⟨1,[]⟩:=⟨by simp,fun _ h=>(by cases h),by simp⟩
theorem vX.whole{m:Nat}:vX m ⟨3,[]⟩:=⟨by simp,fun _ h=>(by cases h),by simp⟩
theorem vX.one{m:Nat}:vX m ⟨4,[]⟩:=⟨by simp,fun _ h=>(by cases h),by simp⟩
theorem vX.more{m k:Nat}{x:bp}(h:vX m x)(hk:m≤k):vX k x:=⟨h.cols,fun c hc=>by have:=h.inr c hc;omega,h.len⟩
theorem vX.none{m k:Nat}{x:bp}(h:vX m x)(hk:x.Kind≠2):vX k x:=by
 have h0:x.Cols=[]:=by
  cases hx:x.Cols with
  |nil=>rfl
  |cons a t=>exact absurd (h.cols.2 (by rw [hx];simp)) hk
 exact⟨h.cols,fun c hc=>(by rw [h0]at hc;cases hc),h.len⟩
theorem tN{at1:Int→Option Int}{m:Nat}(ha: ∀c,∃r,at1 c=some r∧(0≤r→r<(m:Int)))(z:bp): ∀(l cols:List Int),(∀c∈cols,0≤c∧c<(m:Int))→cols.length+l.length≤100000→0<cols.length+l.length→ ∃y,kK at1 l cols z=some y∧vX m y
 |[],cols,hc,hl,hp=>by
  simp only [yf]at hl hp
  exact⟨⟨2,cols⟩,rfl,⟨by simp;omega,hc,by simpa using hl⟩⟩
 |e::tl,cols,hc,hl,hp=>by
  obtain⟨r,h1,h2⟩:=ha e
  unfold kK
  rw [h1,ce]
  by_cases hr:r<0
  ·rw [df (by simpa using hr)]
   exact⟨_,rfl,.any⟩
  ·rw [dh (by simpa using hr),gF (by simp at hl ⊢;omega),ce]
   refine tN ha z tl (cols++[r]) (fun c hm=>?_) (by simp at hl ⊢;omega) (by simp;omega)
   rcases yd.1 hm with hm|hm
   ·exact hc c hm
   ·rw [yg.1 hm]
    exact⟨by omega,h2 (by omega)⟩
theorem zb{at1:Int→Option Int}{m k:Nat}{p:bp}(ha: ∀c,∃r,at1 c=some r∧(0≤r→r<(m:Int)))(hp:vX k p): ∃y,nw p at1=some y∧vX m y:=by
 unfold nw
 by_cases h:p.Kind=2
 ·rw [dh (by simp [h])]
  exact tN ha _ p.Cols [] (fun _ h=>by cases h) (by simpa using hp.len) (by simpa using hp.cols.1 h)
 ·rw [df (by simpa using h)]
  exact⟨p,rfl,hp.none h⟩
theorem uq{f:bk→Option Bool}(hf: ∀e,∃b,f e=some b): ∀(l:List bk) (i:Nat),∃j:Int,cM f l i=some j∧j<((i+l.length:Nat):Int)
 |[],i=>⟨-1,rfl,by omega⟩
 |e::tl,i=>by
  obtain⟨b,hb⟩:=hf e
  unfold cM
  rw [hb,ce]
  cases b with
  |true=>exact⟨i,by simp,by simp;omega⟩
  |false=>
   obtain⟨j,h1,h2⟩:=uq hf tl (i+1)
   exact⟨j,by rw [dh (by simp)];exact h1,by simp at h2 ⊢;omega⟩
theorem xd(c:Int)(e:bk): ∃b,d5 c e=some b:=by
 unfold d5
 by_cases h:e.Nodes.length=1
 ·have h0:fe e.Nodes (0:Int)=some e.Nodes[0]:=by rw [jg 0 (show(0:Int)=((0:Nat):Int)from rfl),mM (by omega)]
  rw [df (by simp [h]),h0]
  simp only [ce]
  split
  ·exact⟨_,rfl⟩
  ·exact⟨_,rfl⟩
 ·rw [dh (by simp;omega),ce,dh (by decide)]
  exact⟨_,rfl⟩
def qv(op:Int):Option co→Option bp:=(nW ((nv).getD []) op).getD (fun _=>none)
theorem HI{n:Nat}: ∀{l:List Int} {o:Option Int},KQ n o l=true→ ∀k∈l,0≤k∧k<(n:Int)
 |[],_,_,k,hk=>by cases hk
 |x::t,o,h,k,hk=>by
  rw [EV]at h
  simp only [iN,Cx]at h
  rcases gW.1 hk with rfl|hk
  ·exact⟨h.1.1.1,h.1.1.2⟩
  ·exact HI h.2 k hk
theorem GK{c:bz}(hc:B2 c=true){t:bo}(ht:t∈c.Tables): ∀k∈t.Keys,0≤k∧k<(t.Columns.length:Int):=by
 unfold B2 at hc
 rw [zZ]at hc
 simp only [iN,lu]at hc
 have:=hc.2.1 t ht
 unfold uB at this
 simp only [iN]at this
 exact HI this.2.2
section
variable{c:bz}{q:eM}{KS:List (List (List Int))}
theorem Ib(hs:qt c)(hP:rp c q KS){i:Nat}{f:cU}{K:List (List Int)}(hf:q.Frags[i]? =some f)(hF:vC c f K){n:aB}(hn:n∈f.Nodes){R:List Int}(hrel:Cv n (kA K n.A) (kA K n.B) R)(hprt:0≤s4 n.Op){a b:bp}(ha:vX (kA K n.A).length a)(hb:s4 n.Op=2→vX (kA K n.B).length b):
  ∃y,qv n.Op (some ⟨some ⟨q,c,KS⟩,n,a,b⟩)=some y∧vX R.length y∧(n.Op=1→y.Kind=1∨y.Kind=2):=by
 obtain⟨r1,r9,r2,r3,r4,r5,r7⟩:=hrel
 have hgroup:(n.Op=4∨n.Op=10∨n.Op=11)→ ∃y,dx (some ⟨some ⟨q,c,KS⟩,n,a,b⟩)=some y∧vX R.length y:=fun ho=>by
  unfold dx
  rw [ce]
  obtain⟨y,h1,h2⟩:=zb (at1:=kD (some ⟨some ⟨q,c,KS⟩,n,a,b⟩)) (m:=R.length) (fun x=>by
   obtain⟨j,g1,_,g3,_⟩:=um n.Keys x
   refine⟨j,?_,fun hj=>?_⟩
   ·show(gv n.Keys x).bind _=_
    rw [g1];rfl
   ·obtain⟨k,e1,e2,_⟩:=g3 hj
    have:=r4 ho
    omega) ha
  rw [h1]
  exact⟨y,rfl,h2⟩
 by_cases h1:n.Op=1
 ·obtain⟨hR,hT0,_,_⟩:=r1 h1
  obtain⟨hat,t,ht,htl⟩:=hF.2.2.2.2.choose_spec.2.scan n hn h1
  have he:qv n.Op=kJ:=by rw [h1];rfl
  rw [he]
  unfold kJ
  rw [ce,ce,ce,ht,ce]
  have htm:t∈c.Tables:=by
   rw [jg n.Table.toNat (by omega)]at ht
   exact nM ht
  by_cases hk:0<t.Keys.length
  ·rw [df (by simpa using hk),n5 _ (by have:=hs t htm;omega),ce]
   refine⟨_,rfl,⟨by simpa using hk,fun x hx=>?_,hs t htm⟩,fun _=> .inr rfl⟩
   have:=GK hP.cat htm x hx
   rw [hR,htl]
   exact this
  ·rw [dh (by simpa using hk)]
   exact⟨_,rfl,.any,fun _=> .inl rfl⟩
 by_cases h9:n.Op=9
 ·obtain⟨hR,hT0,_,_⟩:=r9 h9
  obtain⟨hlt,hroot⟩:=(hP.rd i f hf).1 n hn h9
  have hi:=(lJ.1 hf).1
  obtain⟨g,hg⟩: ∃g,q.Frags[n.Table.toNat]? =some g:=⟨_,mM (by omega)⟩
  obtain⟨Kg,hKg,hFg⟩:=hP.kok n.Table.toNat g hg
  obtain⟨Rg,e1,e2,e3⟩:=D6 (q:=q) hKg hFg
  rw [Int.toNat_of_nonneg hT0,hroot]at e1
  have eR:n.Kinds=Rg:=k5 e1
  have he:qv n.Op=ke:=by rw [h9];rfl
  rw [he]
  unfold ke
  rw [ce,ce,ce]
  show∃y,(fe q.Frags n.Table).bind _=some y∧_
  rw [jg n.Table.toNat (by omega),hg,ce]
  by_cases hw:g.Way=1
  ·rw [df (by simp [hw]),n5 _ (by have:=e3.clen;omega),ce]
   refine⟨_,rfl,⟨by simpa using e3.cols.1 hw,fun x hx=>?_,by have:=e3.clen;show g.Cols.length≤_;omega⟩,fun h=>absurd h h1⟩
   rw [hR,eR]
   exact e3.inr x hx
  ·rw [dh (by simpa using hw)]
   exact⟨_,rfl,.whole,fun h=>absurd h h1⟩
 by_cases h7:n.Op=7
 ·have he:qv n.Op=kc:=by rw [h7];rfl
  rw [he]
  unfold kc
  rw [ce]
  have: ∃t,(if(a.Kind==(2:Int))then((some (⟨some ⟨q,c,KS⟩,n,a,b⟩:co)).bind fun p1=>some (p1.b.Kind==(2:Int)))else some false)=some t:=by split<;>exact⟨_,rfl⟩
  obtain⟨t,ht⟩:=this
  show∃y,((if(a.Kind==(2:Int))then((some (⟨some ⟨q,c,KS⟩,n,a,b⟩:co)).bind fun p1=>some (p1.b.Kind==(2:Int)))else some false).bind _)=some y∧_
  rw [ht,ce]
  have: ∃t1,(if t then((some (⟨some ⟨q,c,KS⟩,n,a,b⟩:co)).bind fun p2=>(some (⟨some ⟨q,c,KS⟩,n,a,b⟩:co)).bind fun p3=>(ep p2.a_.Cols p3.b.Cols).bind fun r=>some r)else some false)=some t1:=by
   split
   ·simp only [ce,ut];exact⟨_,rfl⟩
   ·exact⟨_,rfl⟩
  obtain⟨t1,ht1⟩:=this
  rw [ht1,ce]
  cases t1 with
  |true=>
   rw [df rfl,ce]
   exact⟨a,rfl,ha.more (by rw [r7 h7];exact fL _),fun h=>absurd h h1⟩
  |false=>
   rw [dh (by simp)]
   exact⟨_,rfl,.any,fun h=>absurd h h1⟩
 by_cases h5:n.Op=5
 ·have he:qv n.Op=iQ:=by rw [h5];rfl
  rw [he]
  unfold iQ
  rw [ce]
  obtain⟨y,g1,g2⟩:=zb (at1:=jo (some ⟨some ⟨q,c,KS⟩,n,a,b⟩)) (m:=R.length) (fun x=>by
   obtain⟨j,e1,e2⟩:=uq (f:=d5 x) (xd x) n.Items 0
   refine⟨j,?_,fun hj=>by rw [r5 h5];omega⟩
   show(dJ n.Items (d5 x)).bind _=_
   unfold dJ
   rw [e1];rfl) ha
  rw [g1]
  exact⟨y,rfl,g2,fun h=>absurd h h1⟩
 by_cases h4:n.Op=4
 ·have he:qv n.Op=dx:=by rw [h4];rfl
  rw [he]
  obtain⟨y,g1,g2⟩:=hgroup (.inl h4)
  exact⟨y,g1,g2,fun h=>absurd h h1⟩
 by_cases h10:n.Op=10
 ·have he:qv n.Op=dx:=by rw [h10];rfl
  rw [he]
  obtain⟨y,g1,g2⟩:=hgroup (.inr (.inl h10))
  exact⟨y,g1,g2,fun h=>absurd h h1⟩
 by_cases h11:n.Op=11
 ·have he:qv n.Op=dx:=by rw [h11];rfl
  rw [he]
  obtain⟨y,g1,g2⟩:=hgroup (.inr (.inr h11))
  exact⟨y,g1,g2,fun h=>absurd h h1⟩
 by_cases h3:n.Op=3
 ·have he:qv n.Op=di:=by rw [h3];rfl
  rw [he]
  exact⟨a,rfl,ha.more (by rw [r3 (.inl h3)];exact fL _),fun h=>absurd h h1⟩
 by_cases h6:n.Op=6
 ·have he:qv n.Op=di:=by rw [h6];rfl
  rw [he]
  exact⟨a,rfl,ha.more (by rw [r3 (.inr (.inl h6))];exact fL _),fun h=>absurd h h1⟩
 by_cases h8:n.Op=8
 ·have he:qv n.Op=di:=by rw [h8];rfl
  rw [he]
  exact⟨a,rfl,ha.more (by rw [r3 (.inr (.inr h8))];exact fL _),fun h=>absurd h h1⟩
 by_cases h2:n.Op=2
 ·have he:qv n.Op=di:=by rw [h2];rfl
  rw [he]
  exact⟨a,rfl,ha.more (r2 h2),fun h=>absurd h h1⟩
 exfalso
 simp [s4,h1,h2,h3,h4,h5,h6,h7,h8,h9,h10,h11]at hprt
def Gd(f:cU)(K:List (List Int))(ps:List bp)(j:Nat):Prop:= ∃n y R,f.Nodes[j]? =some n∧ps[j]? =some y∧K[j]? =some R∧vX R.length y∧(f.At=2→y=⟨4,[]⟩)∧(f.At=1→n.Op=1→y.Kind=1∨y.Kind=2)
theorem vj(hs:qt c)(hP:rp c q KS){i:Nat}{f:cU}{K:List (List Int)}(hf:q.Frags[i]? =some f)(hF:vC c f K)(hat:f.At=1∨f.At=2): ∀(tl:List aB) (j:Nat) (out:List bp),f.Nodes.drop j=tl→j≤f.Nodes.length→out.length=j→(∀k,k<j→Gd f K out k)→
  ∃ps,cC (some ⟨q,c,KS⟩) f ((nv).getD []) tl out=some ps∧ps.length=f.Nodes.length∧ ∀k,k<f.Nodes.length→Gd f K ps k
 |[],j,out,hd,hj,ho,hk=>by
  have:=rf hd
  exact⟨out,rfl,by omega,fun k h=>hk k (by omega)⟩
 |n::tl,j,out,hd,hj,ho,hk=>by
  obtain⟨hidx,hjl,hd'⟩:=rP hd
  rw [de]at hidx
  obtain⟨n',R,g1,g2,g3,g4,g5,_⟩:=hF.1.at_ j hjl
  rw [hidx]at g1
  cases g1
  have h60:=hF.2.2.1
  have hn:n∈f.Nodes:=nM hidx
  have hprt:0≤s4 n.Op:=by rcases g4 with h|h|h<;>omega
  -- the end of a round
  have fin: ∀y:bp,vX R.length y→(f.At=2→y=⟨4,[]⟩)→(f.At=1→n.Op=1→y.Kind=1∨y.Kind=2)→ ∃ps,fZ (cC (some ⟨q,c,KS⟩) f ((nv).getD []) tl) out y=some ps∧ps.length=f.Nodes.length∧ ∀k,k<f.Nodes.length→Gd f K ps k:=by
   intro y e1 e2 e3
   unfold fZ
   rw [gF (by simp;omega),ce]
   refine vj hs hP hf hF hat tl (j+1) (out++[y]) hd' (by omega) (by simp [ho]) (fun k hkj=>?_)
   by_cases hlt:k<j
   ·obtain⟨m,y',R',a1,a2,a3⟩:=hk k hlt
    exact⟨m,y',R',a1,by rw [sC (by omega)];exact a2,a3⟩
   ·have:k=j:=by omega
    subst this
    exact⟨n,y,R,hidx,by rw [A2 (by omega),ho];simp,g2,e1,e2,e3⟩
  have key: ∀a b:bp,vX (kA K n.A).length a→(s4 n.Op=2→vX (kA K n.B).length b)→ ∃ps,f6 f ((nv).getD []) (cC (some ⟨q,c,KS⟩) f ((nv).getD []) tl) n out ⟨some ⟨q,c,KS⟩,n,a,b⟩=some ps∧ps.length=f.Nodes.length∧ ∀k,k<f.Nodes.length→Gd f K ps k:=by
   intro a b ha hb
   unfold f6
   by_cases h1:f.At=1
   ·rw [df (by simp [h1])]
    obtain⟨y,e1,e2,e3⟩:=Ib hs hP hf hF hn g5 hprt ha hb
    have e1' :((nW ((nv).getD []) n.Op).getD (fun _=>none)) (some ⟨some ⟨q,c,KS⟩,n,a,b⟩)=some y:=e1
    rw [e1',ce]
    exact fin y e2 (fun h2=>by omega) (fun _=>e3)
   ·rw [dh (by simpa using h1)]
    exact fin _ .one (fun _=>rfl) (fun h=>absurd h h1)
  have at_: ∀p:Int,0≤p→p<(j:Int)→ ∃y,fe out p=some y∧vX (kA K p).length y:=by
   intro p h0 hp
   obtain⟨m,y,R',a1,a2,a3,a4,_⟩:=hk p.toNat (by omega)
   refine⟨y,by rw [jg p.toNat (by omega),a2],?_⟩
   have:kA K p=R' :=by unfold kA;rw [dh (by omega),a3];rfl
   rw [this]
   exact a4
  have zero:vX 0 ⟨0,[]⟩:=⟨by simp,fun _ h=>(by cases h),by simp⟩
  unfold cC
  rcases g4 with⟨hp,hA,hB⟩|⟨hp,hA0,hA,hB⟩|⟨hp,hA0,hA,hB0,hB⟩
  ·rw [dh (by simp;omega)]
   unfold eQ
   rw [dh (by simp;omega)]
   exact key _ _ (by rw [hA,Db];exact zero) (fun h=>by omega)
  ·obtain⟨y,hy,hyp⟩:=at_ n.A hA0 hA
   rw [df (by simpa using hA0),hy,ce]
   unfold eQ
   rw [dh (by simp;omega)]
   exact key _ _ hyp (fun h=>by omega)
  ·obtain⟨y,hy,hyp⟩:=at_ n.A hA0 hA
   obtain⟨z,hz,hzp⟩:=at_ n.B hB0 hB
   rw [df (by simpa using hA0),hy,ce]
   unfold eQ
   rw [df (by simpa using hB0),hz,ce]
   exact key _ _ hyp (fun _=>hzp)
theorem w9(hs:qt c)(hP:rp c q KS){i:Nat}{f:cU}(hf:q.Frags[i]? =some f): ∃ps K,KS[i]? =some K∧vC c f K∧fb (some ⟨q,c,KS⟩) (i:Int)=some ps∧ps.length=f.Nodes.length∧ ∀k,k<f.Nodes.length→Gd f K ps k:=by
 obtain⟨K,hK,hF⟩:=hP.kok i f hf
 obtain⟨ps,h1,h2,h3⟩:=vj hs hP hf hF hF.2.2.2.2.choose_spec.2.at_ f.Nodes 0 [] rfl (ju _) rfl (fun k hk=>by omega)
 refine⟨ps,K,hK,hF,?_,h2,h3⟩
 unfold fb
 rw [ce,de,hf,ce]
 exact h1
end
end Go.Proofs.YtmogpgcfognefaaGreatDoor

