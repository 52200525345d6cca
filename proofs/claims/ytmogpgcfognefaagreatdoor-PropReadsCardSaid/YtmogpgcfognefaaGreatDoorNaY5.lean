/- cG of this claim: Y5. -/
import Derived.Test.YtmogpgcfognefaaGreatDoorNaY4
set_option linter.all false
namespace Go.Proofs.YtmogpgcfognefaaGreatDoor
open Go

structure wl(m:Nat)(x:bu):Prop where
 cols:x.Kind=2↔0<x.Cols.length
 inr: ∀c∈x.Cols,0≤c∧c<(m:Int)
 len:x.Cols.length≤100000
theorem wl.any{m:Nat}:wl m ⟨1,[]⟩:=⟨by simp,fun _ h=>(by cases h),by simp⟩
theorem wl.whole{m:Nat}:wl m ⟨3,[]⟩:=⟨by simp,fun _ h=>(by cases h),by simp⟩
theorem wl.one{m:Nat}:wl m ⟨4,[]⟩:=⟨by simp,fun _ h=>(by cases h),by simp⟩
theorem wl.more{m k:Nat}{x:bu}(h:wl m x)(hk:m≤k):wl k x:=⟨h.cols,fun c hc=>by have:=h.inr c hc;omega,h.len⟩
theorem wl.none{m k:Nat}{x:bu}(h:wl m x)(hk:x.Kind≠2):wl k x:=by
 have h0:x.Cols=[]:=by
  cases hx:x.Cols with
  |nil=>rfl
  |cons a t=>exact absurd (h.cols.2 (by rw [hx];simp)) hk
 exact⟨h.cols,fun c hc=>(by rw [h0]at hc;cases hc),h.len⟩
theorem tR{at1:Int→Option Int}{m:Nat}(ha: ∀c,∃r,at1 c=some r∧(0≤r→r<(m:Int)))(z:bu): ∀(l cols:List Int),(∀c∈cols,0≤c∧c<(m:Int))→cols.length+l.length≤100000→0<cols.length+l.length→ ∃y,kR at1 l cols z=some y∧wl m y
 |[],cols,hc,hl,hp=>by
  simp only [Ab]at hl hp
  exact⟨⟨2,cols⟩,rfl,⟨by simp;omega,hc,by simpa using hl⟩⟩
 |e::tl,cols,hc,hl,hp=>by
  obtain⟨r,h1,h2⟩:=ha e
  unfold kR
  rw [h1,cn]
  by_cases hr:r<0
  ·rw [dq (by simpa using hr)]
   exact⟨_,rfl,.any⟩
  ·rw [di (by simpa using hr),gT (by simp at hl ⊢;omega),cn]
   refine tR ha z tl (cols++[r]) (fun c hm=>?_) (by simp at hl ⊢;omega) (by simp;omega)
   rcases yy.1 hm with hm|hm
   ·exact hc c hm
   ·rw [CR.1 hm]
    exact⟨by omega,h2 (by omega)⟩
theorem zx{at1:Int→Option Int}{m k:Nat}{p:bu}(ha: ∀c,∃r,at1 c=some r∧(0≤r→r<(m:Int)))(hp:wl k p): ∃y,nD p at1=some y∧wl m y:=by
 unfold nD
 by_cases h:p.Kind=2
 ·rw [di (by simp [h])]
  exact tR ha _ p.Cols [] (fun _ h=>by cases h) (by simpa using hp.len) (by simpa using hp.cols.1 h)
 ·rw [dq (by simpa using h)]
  exact⟨p,rfl,hp.none h⟩
theorem uv{f:bo→Option Bool}(hf: ∀e,∃b,f e=some b): ∀(l:List bo) (i:Nat),∃j:Int,cN f l i=some j∧j<((i+l.length:Nat):Int)
 |[],i=>⟨-1,rfl,by omega⟩
 |e::tl,i=>by
  obtain⟨b,hb⟩:=hf e
  unfold cN
  rw [hb,cn]
  cases b with
  |true=>exact⟨i,by simp,by simp;omega⟩
  |false=>
   obtain⟨j,h1,h2⟩:=uv hf tl (i+1)
   exact⟨j,by rw [di (by simp)];exact h1,by simp at h2 ⊢;omega⟩
theorem xv(c:Int)(e:bo): ∃b,d7 c e=some b:=by
 unfold d7
 by_cases h:e.Nodes.length=1
 ·have h0:eZ e.Nodes (0:Int)=some e.Nodes[0]:=by rw [kY 0 (show(0:Int)=((0:Nat):Int)from rfl),nT (by omega)]
  rw [dq (by simp [h]),h0]
  simp only [cn]
  split
  ·exact⟨_,rfl⟩
  ·exact⟨_,rfl⟩
 ·rw [di (by simp;omega),cn,di (by decide)]
  exact⟨_,rfl⟩
def qt(op:Int):Option cq→Option bu:=(kE ((nC).getD []) op).getD (fun _=>none)
theorem H7{n:Nat}: ∀{l:List Int} {o:Option Int},KQ n o l=true→ ∀k∈l,0≤k∧k<(n:Int)
 |[],_,_,k,hk=>by cases hk
 |x::t,o,h,k,hk=>by
  rw [Fe]at h
  simp only [iP,wM]at h
  rcases ia.1 hk with rfl|hk
  ·exact⟨h.1.1.1,h.1.1.2⟩
  ·exact H7 h.2 k hk
theorem G4{c:bA}(hc:Cn c=true){t:bp}(ht:t∈c.Tables): ∀k∈t.Keys,0≤k∧k<(t.Columns.length:Int):=by
 unfold Cn at hc
 rw [Aq]at hc
 simp only [iP,lz]at hc
 have:=hc.2.1 t ht
 unfold uH at this
 simp only [iP]at this
 exact H7 this.2.2
section
variable{c:bA}{q:cZ}{KS:List (List (List Int))}
theorem Ix(hs:qq c)(hP:vd c q KS){i:Nat}{f:cT}{K:List (List Int)}(hf:q.Frags[i]? =some f)(hF:vR c f K){n:aF}(hn:n∈f.Nodes){R:List Int}(hrel:CO n (kA K n.A) (kA K n.B) R)(hprt:0≤uA n.Op){a b:bu}(ha:wl (kA K n.A).length a)(hb:uA n.Op=2→wl (kA K n.B).length b):
  ∃y,qt n.Op (some ⟨some ⟨q,c,KS⟩,n,a,b⟩)=some y∧wl R.length y∧(n.Op=1→y.Kind=1∨y.Kind=2):=by
 obtain⟨r1,r9,r2,r3,r4,r5,r7⟩:=hrel
 have hgroup:(n.Op=4∨n.Op=10∨n.Op=11)→ ∃y,dA (some ⟨some ⟨q,c,KS⟩,n,a,b⟩)=some y∧wl R.length y:=fun ho=>by
  unfold dA
  rw [cn]
  obtain⟨y,h1,h2⟩:=zx (at1:=kH (some ⟨some ⟨q,c,KS⟩,n,a,b⟩)) (m:=R.length) (fun x=>by
   obtain⟨j,g1,_,g3,_⟩:=ut n.Keys x
   refine⟨j,?_,fun hj=>?_⟩
   ·show(gA n.Keys x).bind _=_
    rw [g1];rfl
   ·obtain⟨k,e1,e2,_⟩:=g3 hj
    have:=r4 ho
    omega) ha
  rw [h1]
  exact⟨y,rfl,h2⟩
 by_cases h1:n.Op=1
 ·obtain⟨hR,hT0,_,_⟩:=r1 h1
  obtain⟨hat,t,ht,htl⟩:=hF.2.2.2.2.choose_spec.2.scan n hn h1
  have he:qt n.Op=kQ:=by rw [h1];rfl
  rw [he]
  unfold kQ
  rw [cn,cn,cn,ht,cn]
  have htm:t∈c.Tables:=by
   rw [kY n.Table.toNat (by omega)]at ht
   exact nV ht
  by_cases hk:0<t.Keys.length
  ·rw [dq (by simpa using hk),oa _ (by have:=hs t htm;omega),cn]
   refine⟨_,rfl,⟨by simpa using hk,fun x hx=>?_,hs t htm⟩,fun _=> .inr rfl⟩
   have:=G4 hP.cat htm x hx
   rw [hR,htl]
   exact this
  ·rw [di (by simpa using hk)]
   exact⟨_,rfl,.any,fun _=> .inl rfl⟩
 by_cases h9:n.Op=9
 ·obtain⟨hR,hT0,_,_⟩:=r9 h9
  obtain⟨hlt,hroot⟩:=(hP.rd i f hf).1 n hn h9
  have hi:=(lJ.1 hf).1
  obtain⟨g,hg⟩: ∃g,q.Frags[n.Table.toNat]? =some g:=⟨_,nT (by omega)⟩
  obtain⟨Kg,hKg,hFg⟩:=hP.kok n.Table.toNat g hg
  obtain⟨Rg,e1,e2,e3⟩:=Ej (q:=q) hKg hFg
  rw [Int.toNat_of_nonneg hT0,hroot]at e1
  have eR:n.Kinds=Rg:=lc e1
  have he:qt n.Op=kg:=by rw [h9];rfl
  rw [he]
  unfold kg
  rw [cn,cn,cn]
  show∃y,(eZ q.Frags n.Table).bind _=some y∧_
  rw [kY n.Table.toNat (by omega),hg,cn]
  by_cases hw:g.Way=1
  ·rw [dq (by simp [hw]),oa _ (by have:=e3.clen;omega),cn]
   refine⟨_,rfl,⟨by simpa using e3.cols.1 hw,fun x hx=>?_,by have:=e3.clen;show g.Cols.length≤_;omega⟩,fun h=>absurd h h1⟩
   rw [hR,eR]
   exact e3.inr x hx
  ·rw [di (by simpa using hw)]
   exact⟨_,rfl,.whole,fun h=>absurd h h1⟩
 by_cases h7:n.Op=7
 ·have he:qt n.Op=kf:=by rw [h7];rfl
  rw [he]
  unfold kf
  rw [cn]
  have: ∃t,(if(a.Kind==(2:Int))then((some (⟨some ⟨q,c,KS⟩,n,a,b⟩:cq)).bind fun p1=>some (p1.b.Kind==(2:Int)))else some false)=some t:=by split<;>exact⟨_,rfl⟩
  obtain⟨t,ht⟩:=this
  show∃y,((if(a.Kind==(2:Int))then((some (⟨some ⟨q,c,KS⟩,n,a,b⟩:cq)).bind fun p1=>some (p1.b.Kind==(2:Int)))else some false).bind _)=some y∧_
  rw [ht,cn]
  have: ∃t1,(if t then((some (⟨some ⟨q,c,KS⟩,n,a,b⟩:cq)).bind fun p2=>(some (⟨some ⟨q,c,KS⟩,n,a,b⟩:cq)).bind fun p3=>(ew p2.a_.Cols p3.b.Cols).bind fun r=>some r)else some false)=some t1:=by
   split
   ·simp only [cn,ux];exact⟨_,rfl⟩
   ·exact⟨_,rfl⟩
  obtain⟨t1,ht1⟩:=this
  rw [ht1,cn]
  cases t1 with
  |true=>
   rw [dq rfl,cn]
   exact⟨a,rfl,ha.more (by rw [r7 h7];exact fQ _),fun h=>absurd h h1⟩
  |false=>
   rw [di (by simp)]
   exact⟨_,rfl,.any,fun h=>absurd h h1⟩
 by_cases h5:n.Op=5
 ·have he:qt n.Op=iS:=by rw [h5];rfl
  rw [he]
  unfold iS
  rw [cn]
  obtain⟨y,g1,g2⟩:=zx (at1:=jp (some ⟨some ⟨q,c,KS⟩,n,a,b⟩)) (m:=R.length) (fun x=>by
   obtain⟨j,e1,e2⟩:=uv (f:=d7 x) (xv x) n.Items 0
   refine⟨j,?_,fun hj=>by rw [r5 h5];omega⟩
   show(dP n.Items (d7 x)).bind _=_
   unfold dP
   rw [e1];rfl) ha
  rw [g1]
  exact⟨y,rfl,g2,fun h=>absurd h h1⟩
 by_cases h4:n.Op=4
 ·have he:qt n.Op=dA:=by rw [h4];rfl
  rw [he]
  obtain⟨y,g1,g2⟩:=hgroup (.inl h4)
  exact⟨y,g1,g2,fun h=>absurd h h1⟩
 by_cases h10:n.Op=10
 ·have he:qt n.Op=dA:=by rw [h10];rfl
  rw [he]
  obtain⟨y,g1,g2⟩:=hgroup (.inr (.inl h10))
  exact⟨y,g1,g2,fun h=>absurd h h1⟩
 by_cases h11:n.Op=11
 ·have he:qt n.Op=dA:=by rw [h11];rfl
  rw [he]
  obtain⟨y,g1,g2⟩:=hgroup (.inr (.inr h11))
  exact⟨y,g1,g2,fun h=>absurd h h1⟩
 by_cases h3:n.Op=3
 ·have he:qt n.Op=dj:=by rw [h3];rfl
  rw [he]
  exact⟨a,rfl,ha.more (by rw [r3 (.inl h3)];exact fQ _),fun h=>absurd h h1⟩
 by_cases h6:n.Op=6
 ·have he:qt n.Op=dj:=by rw [h6];rfl
  rw [he]
  exact⟨a,rfl,ha.more (by rw [r3 (.inr (.inl h6))];exact fQ _),fun h=>absurd h h1⟩
 by_cases h8:n.Op=8
 ·have he:qt n.Op=dj:=by rw [h8];rfl
  rw [he]
  exact⟨a,rfl,ha.more (by rw [r3 (.inr (.inr h8))];exact fQ _),fun h=>absurd h h1⟩
 by_cases h2:n.Op=2
 ·have he:qt n.Op=dj:=by rw [h2];rfl
  rw [he]
  exact⟨a,rfl,ha.more (r2 h2),fun h=>absurd h h1⟩
 exfalso
 simp [uA,h1,h2,h3,h4,h5,h6,h7,h8,h9,h10,h11]at hprt
def DW(f:cT)(K:List (List Int))(ps:List bu)(j:Nat):Prop:= ∃n y R,f.Nodes[j]? =some n∧ps[j]? =some y∧K[j]? =some R∧wl R.length y∧(f.At=2→y=⟨4,[]⟩)∧(f.At=1→n.Op=1→y.Kind=1∨y.Kind=2)
theorem vx(hs:qq c)(hP:vd c q KS){i:Nat}{f:cT}{K:List (List Int)}(hf:q.Frags[i]? =some f)(hF:vR c f K)(hat:f.At=1∨f.At=2): ∀(tl:List aF) (j:Nat) (out:List bu),f.Nodes.drop j=tl→j≤f.Nodes.length→out.length=j→(∀k,k<j→DW f K out k)→
  ∃ps,cC (some ⟨q,c,KS⟩) f ((nC).getD []) tl out=some ps∧ps.length=f.Nodes.length∧ ∀k,k<f.Nodes.length→DW f K ps k
 |[],j,out,hd,hj,ho,hk=>by
  have:=ub hd
  exact⟨out,rfl,by omega,fun k h=>hk k (by omega)⟩
 |n::tl,j,out,hd,hj,ho,hk=>by
  obtain⟨hidx,hjl,hd'⟩:=rM hd
  rw [c8]at hidx
  obtain⟨n',R,g1,g2,g3,g4,g5,_⟩:=hF.1.at_ j hjl
  rw [hidx]at g1
  cases g1
  have h60:=hF.2.2.1
  have hn:n∈f.Nodes:=nV hidx
  have hprt:0≤uA n.Op:=by rcases g4 with h|h|h<;>omega
  -- the end of a round
  have fin: ∀y:bu,wl R.length y→(f.At=2→y=⟨4,[]⟩)→(f.At=1→n.Op=1→y.Kind=1∨y.Kind=2)→ ∃ps,f8 (cC (some ⟨q,c,KS⟩) f ((nC).getD []) tl) out y=some ps∧ps.length=f.Nodes.length∧ ∀k,k<f.Nodes.length→DW f K ps k:=by
   intro y e1 e2 e3
   unfold f8
   rw [gT (by simp;omega),cn]
   refine vx hs hP hf hF hat tl (j+1) (out++[y]) hd' (by omega) (by simp [ho]) (fun k hkj=>?_)
   by_cases hlt:k<j
   ·obtain⟨m,y',R',a1,a2,a3⟩:=hk k hlt
    exact⟨m,y',R',a1,by rw [sA (by omega)];exact a2,a3⟩
   ·have:k=j:=by omega
    subst this
    exact⟨n,y,R,hidx,by rw [Bm (by omega),ho];simp,g2,e1,e2,e3⟩
  have key: ∀a b:bu,wl (kA K n.A).length a→(uA n.Op=2→wl (kA K n.B).length b)→ ∃ps,f9 f ((nC).getD []) (cC (some ⟨q,c,KS⟩) f ((nC).getD []) tl) n out ⟨some ⟨q,c,KS⟩,n,a,b⟩=some ps∧ps.length=f.Nodes.length∧ ∀k,k<f.Nodes.length→DW f K ps k:=by
   intro a b ha hb
   unfold f9
   by_cases h1:f.At=1
   ·rw [dq (by simp [h1])]
    obtain⟨y,e1,e2,e3⟩:=Ix hs hP hf hF hn g5 hprt ha hb
    have e1' :((kE ((nC).getD []) n.Op).getD (fun _=>none)) (some ⟨some ⟨q,c,KS⟩,n,a,b⟩)=some y:=e1
    rw [e1',cn]
    exact fin y e2 (fun h2=>by omega) (fun _=>e3)
   ·rw [di (by simpa using h1)]
    exact fin _ .one (fun _=>rfl) (fun h=>absurd h h1)
  have at_: ∀p:Int,0≤p→p<(j:Int)→ ∃y,eZ out p=some y∧wl (kA K p).length y:=by
   intro p h0 hp
   obtain⟨m,y,R',a1,a2,a3,a4,_⟩:=hk p.toNat (by omega)
   refine⟨y,by rw [kY p.toNat (by omega),a2],?_⟩
   have:kA K p=R' :=by unfold kA;rw [di (by omega),a3];rfl
   rw [this]
   exact a4
  have zero:wl 0 ⟨0,[]⟩:=⟨by simp,fun _ h=>(by cases h),by simp⟩
  unfold cC
  rcases g4 with⟨hp,hA,hB⟩|⟨hp,hA0,hA,hB⟩|⟨hp,hA0,hA,hB0,hB⟩
  ·rw [di (by simp;omega)]
   unfold eU
   rw [di (by simp;omega)]
   exact key _ _ (by rw [hA,Dq];exact zero) (fun h=>by omega)
  ·obtain⟨y,hy,hyp⟩:=at_ n.A hA0 hA
   rw [dq (by simpa using hA0),hy,cn]
   unfold eU
   rw [di (by simp;omega)]
   exact key _ _ hyp (fun h=>by omega)
  ·obtain⟨y,hy,hyp⟩:=at_ n.A hA0 hA
   obtain⟨z,hz,hzp⟩:=at_ n.B hB0 hB
   rw [dq (by simpa using hA0),hy,cn]
   unfold eU
   rw [dq (by simpa using hB0),hz,cn]
   exact key _ _ hyp (fun _=>hzp)
theorem He(hs:qq c)(hP:vd c q KS){i:Nat}{f:cT}(hf:q.Frags[i]? =some f): ∃ps K,KS[i]? =some K∧vR c f K∧iv (some ⟨q,c,KS⟩) (i:Int)=some ps∧ps.length=f.Nodes.length∧ ∀k,k<f.Nodes.length→DW f K ps k:=by
 obtain⟨K,hK,hF⟩:=hP.kok i f hf
 obtain⟨ps,h1,h2,h3⟩:=vx hs hP hf hF hF.2.2.2.2.choose_spec.2.at_ f.Nodes 0 [] rfl (jM _) rfl (fun k hk=>by omega)
 refine⟨ps,K,hK,hF,?_,h2,h3⟩
 unfold iv
 rw [cn,c8,hf,cn]
 exact h1
end
end Go.Proofs.YtmogpgcfognefaaGreatDoor

