/- di of this claim: Y5. -/
import Derived.Test.YtmogpgcfognefaaGreatDoorNdY4
set_option linter.all false
namespace Go.Proofs.YtmogpgcfognefaaGreatDoor
open Go

structure yH(m:Nat)(x:aS):Prop where
 cols:x.Kind=2↔0<x.Cols.length
 inr: ∀c∈x.Cols,0≤c∧c<(m:Int)
 len:x.Cols.length≤100000
theorem yH.any{m:Nat}:yH m ⟨1,[]⟩:=⟨by simp,fun _ h=>(by cases h),by simp⟩
theorem yH.whole{m:Nat}:yH m ⟨3,[]⟩:=⟨by simp,fun _ h=>(by cases h),by simp⟩
theorem yH.one{m:Nat}:yH m ⟨4,[]⟩:=⟨by simp,fun _ h=>(by cases h),by simp⟩
theorem yH.more{m k:Nat}{x:aS}(h:yH m x)(hk:m≤k):yH k x:=⟨h.cols,fun c hc=>by have:=h.inr c hc;omega,h.len⟩
theorem yH.none{m k:Nat}{x:aS}(h:yH m x)(hk:x.Kind≠2):yH k x:=by
 have h0:x.Cols=[]:=by
  cases hx:x.Cols with
  |nil=>rfl
  |cons a t=>exact absurd (h.cols.2 (by rw [hx];simp)) hk
 exact⟨h.cols,fun c hc=>(by rw [h0]at hc;cases hc),h.len⟩
theorem zy{at1:Int→Option Int}{m:Nat}(ha: ∀c,∃r,at1 c=some r∧(0≤r→r<(m:Int)))(z:aS): ∀(l cols:List Int),(∀c∈cols,0≤c∧c<(m:Int))→cols.length+l.length≤100000→0<cols.length+l.length→ ∃y,jQ at1 l cols z=some y∧yH m y
 |[],cols,hc,hl,hp=>by
  simp only [xv]at hl hp
  exact⟨⟨2,cols⟩,rfl,⟨by simp;omega,hc,by simpa using hl⟩⟩
 |e::tl,cols,hc,hl,hp=>by
  obtain⟨r,h1,h2⟩:=ha e
  unfold jQ
  rw [h1,bA]
  by_cases hr:r<0
  ·rw [bQ (by simpa using hr)]
   exact⟨_,rfl,.any⟩
  ·rw [bI (by simpa using hr),du (by simp at hl ⊢;omega),bA]
   refine zy ha z tl (cols++[r]) (fun c hm=>?_) (by simp at hl ⊢;omega) (by simp;omega)
   rcases yJ.1 hm with hm|hm
   ·exact hc c hm
   ·rw [AW.1 hm]
    exact⟨by omega,h2 (by omega)⟩
theorem E6{at1:Int→Option Int}{m k:Nat}{p:aS}(ha: ∀c,∃r,at1 c=some r∧(0≤r→r<(m:Int)))(hp:yH k p): ∃y,lX p at1=some y∧yH m y:=by
 unfold lX
 by_cases h:p.Kind=2
 ·rw [bI (by simp [h])]
  exact zy ha _ p.Cols [] (fun _ h=>by cases h) (by simpa using hp.len) (by simpa using hp.cols.1 h)
 ·rw [bQ (by simpa using h)]
  exact⟨p,rfl,hp.none h⟩
theorem zW{f:bp→Option Bool}(hf: ∀e,∃b,f e=some b): ∀(l:List bp) (i:Nat),∃j:Int,cJ f l i=some j∧j<((i+l.length:Nat):Int)
 |[],i=>⟨-1,rfl,by omega⟩
 |e::tl,i=>by
  obtain⟨b,hb⟩:=hf e
  unfold cJ
  rw [hb,bA]
  cases b with
  |true=>exact⟨i,by simp,by simp;omega⟩
  |false=>
   obtain⟨j,h1,h2⟩:=zW hf tl (i+1)
   exact⟨j,by rw [bI (by simp)];exact h1,by simp at h2 ⊢;omega⟩
theorem CX(c:Int)(e:bp): ∃b,dI c e=some b:=by
 unfold dI
 by_cases h:e.Nodes.length=1
 ·have h0:dC e.Nodes (0:Int)=some e.Nodes[0]:=by rw [gR 0 (show(0:Int)=((0:Nat):Int)from rfl),nP (by omega)]
  rw [bQ (by simp [h]),h0]
  simp only [bA]
  split
  ·exact⟨_,rfl⟩
  ·exact⟨_,rfl⟩
 ·rw [bI (by simp;omega),bA,bI (by decide)]
  exact⟨_,rfl⟩
def rG(op:Int):Option dq→Option aS:=(rW ((mJ).getD []) op).getD (fun _=>none)
theorem IL{n:Nat}: ∀{l:List Int} {o:Option Int},KQ n o l=true→ ∀k∈l,0≤k∧k<(n:Int)
 |[],_,_,k,hk=>by cases hk
 |x::t,o,h,k,hk=>by
  rw [GW]at h
  simp only [iz,oU]at h
  rcases kp.1 hk with rfl|hk
  ·exact⟨h.1.1.1,h.1.1.2⟩
  ·exact IL h.2 k hk
theorem I9{c:bG}(hc:AH c=true){t:bU}(ht:t∈c.Tables): ∀k∈t.Keys,0≤k∧k<(t.Columns.length:Int):=by
 unfold AH at hc
 rw [BT]at hc
 simp only [iz,m3]at hc
 have:=hc.2.1 t ht
 unfold uv at this
 simp only [iz]at this
 exact IL this.2.2
section
variable{c:bG}{q:da}{KS:List (List (List Int))}
theorem Kw(hs:qM c)(hP:yD c q KS){i:Nat}{f:cL}{K:List (List Int)}(hf:q.Frags[i]? =some f)(hF:w9 c f K){n:aw}(hn:n∈f.Nodes){R:List Int}(hrel:IU n (kA K n.A) (kA K n.B) R)(hprt:0≤kO n.Op){a b:aS}(ha:yH (kA K n.A).length a)(hb:kO n.Op=2→yH (kA K n.B).length b):
  ∃y,rG n.Op (some ⟨some ⟨q,c,KS⟩,n,a,b⟩)=some y∧yH R.length y∧(n.Op=1→y.Kind=1∨y.Kind=2):=by
 obtain⟨r1,r9,r2,r3,r4,r5,r7⟩:=hrel
 have hgroup:(n.Op=4∨n.Op=10∨n.Op=11)→ ∃y,ep (some ⟨some ⟨q,c,KS⟩,n,a,b⟩)=some y∧yH R.length y:=fun ho=>by
  unfold ep
  rw [bA]
  obtain⟨y,h1,h2⟩:=E6 (at1:=iN (some ⟨some ⟨q,c,KS⟩,n,a,b⟩)) (m:=R.length) (fun x=>by
   obtain⟨j,g1,_,g3,_⟩:=vT n.Keys x
   refine⟨j,?_,fun hj=>?_⟩
   ·show(gn n.Keys x).bind _=_
    rw [g1];rfl
   ·obtain⟨k,e1,e2,_⟩:=g3 hj
    have:=r4 ho
    omega) ha
  rw [h1]
  exact⟨y,rfl,h2⟩
 by_cases h1:n.Op=1
 ·obtain⟨hR,hT0,_,_⟩:=r1 h1
  obtain⟨hat,t,ht,htl⟩:=hF.2.2.2.2.choose_spec.2.scan n hn h1
  have he:rG n.Op=lr:=by rw [h1];rfl
  rw [he]
  unfold lr
  rw [bA,bA,bA,ht,bA]
  have htm:t∈c.Tables:=by
   rw [gR n.Table.toNat (by omega)]at ht
   exact qS ht
  by_cases hk:0<t.Keys.length
  ·rw [bQ (by simpa using hk),nr _ (by have:=hs t htm;omega),bA]
   refine⟨_,rfl,⟨by simpa using hk,fun x hx=>?_,hs t htm⟩,fun _=> .inr rfl⟩
   have:=I9 hP.cat htm x hx
   rw [hR,htl]
   exact this
  ·rw [bI (by simpa using hk)]
   exact⟨_,rfl,.any,fun _=> .inl rfl⟩
 by_cases h9:n.Op=9
 ·obtain⟨hR,hT0,_,_⟩:=r9 h9
  obtain⟨hlt,hroot⟩:=(hP.rd i f hf).1 n hn h9
  have hi:=(pc.1 hf).1
  obtain⟨g,hg⟩: ∃g,q.Frags[n.Table.toNat]? =some g:=⟨_,nP (by omega)⟩
  obtain⟨Kg,hKg,hFg⟩:=hP.kok n.Table.toNat g hg
  obtain⟨Rg,e1,e2,e3⟩:=FY (q:=q) hKg hFg
  rw [Int.toNat_of_nonneg hT0,hroot]at e1
  have eR:n.Kinds=Rg:=od e1
  have he:rG n.Op=kh:=by rw [h9];rfl
  rw [he]
  unfold kh
  rw [bA,bA,bA]
  show∃y,(dC q.Frags n.Table).bind _=some y∧_
  rw [gR n.Table.toNat (by omega),hg,bA]
  by_cases hw:g.Way=1
  ·rw [bQ (by simp [hw]),nr _ (by have:=e3.clen;omega),bA]
   refine⟨_,rfl,⟨by simpa using e3.cols.1 hw,fun x hx=>?_,by have:=e3.clen;show g.Cols.length≤_;omega⟩,fun h=>absurd h h1⟩
   rw [hR,eR]
   exact e3.inr x hx
  ·rw [bI (by simpa using hw)]
   exact⟨_,rfl,.whole,fun h=>absurd h h1⟩
 by_cases h7:n.Op=7
 ·have he:rG n.Op=kg:=by rw [h7];rfl
  rw [he]
  unfold kg
  rw [bA]
  have: ∃t,(if(a.Kind==(2:Int))then((some (⟨some ⟨q,c,KS⟩,n,a,b⟩:dq)).bind fun p1=>some (p1.b.Kind==(2:Int)))else some false)=some t:=by split<;>exact⟨_,rfl⟩
  obtain⟨t,ht⟩:=this
  show∃y,((if(a.Kind==(2:Int))then((some (⟨some ⟨q,c,KS⟩,n,a,b⟩:dq)).bind fun p1=>some (p1.b.Kind==(2:Int)))else some false).bind _)=some y∧_
  rw [ht,bA]
  have: ∃t1,(if t then((some (⟨some ⟨q,c,KS⟩,n,a,b⟩:dq)).bind fun p2=>(some (⟨some ⟨q,c,KS⟩,n,a,b⟩:dq)).bind fun p3=>(fv p2.a_.Cols p3.b.Cols).bind fun r=>some r)else some false)=some t1:=by
   split
   ·simp only [bA,sK];exact⟨_,rfl⟩
   ·exact⟨_,rfl⟩
  obtain⟨t1,ht1⟩:=this
  rw [ht1,bA]
  cases t1 with
  |true=>
   rw [bQ rfl,bA]
   exact⟨a,rfl,ha.more (by rw [r7 h7];exact gB _),fun h=>absurd h h1⟩
  |false=>
   rw [bI (by simp)]
   exact⟨_,rfl,.any,fun h=>absurd h h1⟩
 by_cases h5:n.Op=5
 ·have he:rG n.Op=iM:=by rw [h5];rfl
  rw [he]
  unfold iM
  rw [bA]
  obtain⟨y,g1,g2⟩:=E6 (at1:=gQ (some ⟨some ⟨q,c,KS⟩,n,a,b⟩)) (m:=R.length) (fun x=>by
   obtain⟨j,e1,e2⟩:=zW (f:=dI x) (CX x) n.Items 0
   refine⟨j,?_,fun hj=>by rw [r5 h5];omega⟩
   show(dM n.Items (dI x)).bind _=_
   unfold dM
   rw [e1];rfl) ha
  rw [g1]
  exact⟨y,rfl,g2,fun h=>absurd h h1⟩
 by_cases h4:n.Op=4
 ·have he:rG n.Op=ep:=by rw [h4];rfl
  rw [he]
  obtain⟨y,g1,g2⟩:=hgroup (.inl h4)
  exact⟨y,g1,g2,fun h=>absurd h h1⟩
 by_cases h10:n.Op=10
 ·have he:rG n.Op=ep:=by rw [h10];rfl
  rw [he]
  obtain⟨y,g1,g2⟩:=hgroup (.inr (.inl h10))
  exact⟨y,g1,g2,fun h=>absurd h h1⟩
 by_cases h11:n.Op=11
 ·have he:rG n.Op=ep:=by rw [h11];rfl
  rw [he]
  obtain⟨y,g1,g2⟩:=hgroup (.inr (.inr h11))
  exact⟨y,g1,g2,fun h=>absurd h h1⟩
 by_cases h3:n.Op=3
 ·have he:rG n.Op=eU:=by rw [h3];rfl
  rw [he]
  exact⟨a,rfl,ha.more (by rw [r3 (.inl h3)];exact gB _),fun h=>absurd h h1⟩
 by_cases h6:n.Op=6
 ·have he:rG n.Op=eU:=by rw [h6];rfl
  rw [he]
  exact⟨a,rfl,ha.more (by rw [r3 (.inr (.inl h6))];exact gB _),fun h=>absurd h h1⟩
 by_cases h8:n.Op=8
 ·have he:rG n.Op=eU:=by rw [h8];rfl
  rw [he]
  exact⟨a,rfl,ha.more (by rw [r3 (.inr (.inr h8))];exact gB _),fun h=>absurd h h1⟩
 by_cases h2:n.Op=2
 ·have he:rG n.Op=eU:=by rw [h2];rfl
  rw [he]
  exact⟨a,rfl,ha.more (r2 h2),fun h=>absurd h h1⟩
 exfalso
 simp [kO,h1,h2,h3,h4,h5,h6,h7,h8,h9,h10,h11]at hprt
def Nq(f:cL)(K:List (List Int))(ps:List aS)(j:Nat):Prop:= ∃n y R,f.Nodes[j]? =some n∧ps[j]? =some y∧K[j]? =some R∧yH R.length y∧(f.At=2→y=⟨4,[]⟩)∧(f.At=1→n.Op=1→y.Kind=1∨y.Kind=2)
theorem A8(hs:qM c)(hP:yD c q KS){i:Nat}{f:cL}{K:List (List Int)}(hf:q.Frags[i]? =some f)(hF:w9 c f K)(hat:f.At=1∨f.At=2): ∀(tl:List aw) (j:Nat) (out:List aS),f.Nodes.drop j=tl→j≤f.Nodes.length→out.length=j→(∀k,k<j→Nq f K out k)→
  ∃ps,cQ (some ⟨q,c,KS⟩) f ((mJ).getD []) tl out=some ps∧ps.length=f.Nodes.length∧ ∀k,k<f.Nodes.length→Nq f K ps k
 |[],j,out,hd,hj,ho,hk=>by
  have:=tq hd
  exact⟨out,rfl,by omega,fun k h=>hk k (by omega)⟩
 |n::tl,j,out,hd,hj,ho,hk=>by
  obtain⟨hidx,hjl,hd'⟩:=lE hd
  rw [cK]at hidx
  obtain⟨n',R,g1,g2,g3,g4,g5,_⟩:=hF.1.at_ j hjl
  rw [hidx]at g1
  cases g1
  have h60:=hF.2.2.1
  have hn:n∈f.Nodes:=qS hidx
  have hprt:0≤kO n.Op:=by rcases g4 with h|h|h<;>omega
  -- the end of a round
  have fin: ∀y:aS,yH R.length y→(f.At=2→y=⟨4,[]⟩)→(f.At=1→n.Op=1→y.Kind=1∨y.Kind=2)→ ∃ps,fV (cQ (some ⟨q,c,KS⟩) f ((mJ).getD []) tl) out y=some ps∧ps.length=f.Nodes.length∧ ∀k,k<f.Nodes.length→Nq f K ps k:=by
   intro y e1 e2 e3
   unfold fV
   rw [du (by simp;omega),bA]
   refine A8 hs hP hf hF hat tl (j+1) (out++[y]) hd' (by omega) (by simp [ho]) (fun k hkj=>?_)
   by_cases hlt:k<j
   ·obtain⟨m,y',R',a1,a2,a3⟩:=hk k hlt
    exact⟨m,y',R',a1,by rw [vh (by omega)];exact a2,a3⟩
   ·have:k=j:=by omega
    subst this
    exact⟨n,y,R,hidx,by rw [uu (by omega),ho];simp,g2,e1,e2,e3⟩
  have key: ∀a b:aS,yH (kA K n.A).length a→(kO n.Op=2→yH (kA K n.B).length b)→ ∃ps,fW f ((mJ).getD []) (cQ (some ⟨q,c,KS⟩) f ((mJ).getD []) tl) n out ⟨some ⟨q,c,KS⟩,n,a,b⟩=some ps∧ps.length=f.Nodes.length∧ ∀k,k<f.Nodes.length→Nq f K ps k:=by
   intro a b ha hb
   unfold fW
   by_cases h1:f.At=1
   ·rw [bQ (by simp [h1])]
    obtain⟨y,e1,e2,e3⟩:=Kw hs hP hf hF hn g5 hprt ha hb
    have e1' :((rW ((mJ).getD []) n.Op).getD (fun _=>none)) (some ⟨some ⟨q,c,KS⟩,n,a,b⟩)=some y:=e1
    rw [e1',bA]
    exact fin y e2 (fun h2=>by omega) (fun _=>e3)
   ·rw [bI (by simpa using h1)]
    exact fin _ .one (fun _=>rfl) (fun h=>absurd h h1)
  have at_: ∀p:Int,0≤p→p<(j:Int)→ ∃y,dC out p=some y∧yH (kA K p).length y:=by
   intro p h0 hp
   obtain⟨m,y,R',a1,a2,a3,a4,_⟩:=hk p.toNat (by omega)
   refine⟨y,by rw [gR p.toNat (by omega),a2],?_⟩
   have:kA K p=R' :=by unfold kA;rw [bI (by omega),a3];rfl
   rw [this]
   exact a4
  have zero:yH 0 ⟨0,[]⟩:=⟨by simp,fun _ h=>(by cases h),by simp⟩
  unfold cQ
  rcases g4 with⟨hp,hA,hB⟩|⟨hp,hA0,hA,hB⟩|⟨hp,hA0,hA,hB0,hB⟩
  ·rw [bI (by simp;omega)]
   unfold eF
   rw [bI (by simp;omega)]
   exact key _ _ (by rw [hA,wN];exact zero) (fun h=>by omega)
  ·obtain⟨y,hy,hyp⟩:=at_ n.A hA0 hA
   rw [bQ (by simpa using hA0),hy,bA]
   unfold eF
   rw [bI (by simp;omega)]
   exact key _ _ hyp (fun h=>by omega)
  ·obtain⟨y,hy,hyp⟩:=at_ n.A hA0 hA
   obtain⟨z,hz,hzp⟩:=at_ n.B hB0 hB
   rw [bQ (by simpa using hA0),hy,bA]
   unfold eF
   rw [bQ (by simpa using hB0),hz,bA]
   exact key _ _ hyp (fun _=>hzp)
theorem Oe(hs:qM c)(hP:yD c q KS){i:Nat}{f:cL}(hf:q.Frags[i]? =some f): ∃ps K,KS[i]? =some K∧w9 c f K∧ij (some ⟨q,c,KS⟩) (i:Int)=some ps∧ps.length=f.Nodes.length∧ ∀k,k<f.Nodes.length→Nq f K ps k:=by
 obtain⟨K,hK,hF⟩:=hP.kok i f hf
 obtain⟨ps,h1,h2,h3⟩:=A8 hs hP hf hF hF.2.2.2.2.choose_spec.2.at_ f.Nodes 0 [] rfl (jz _) rfl (fun k hk=>by omega)
 refine⟨ps,K,hK,hF,?_,h2,h3⟩
 unfold ij
 rw [bA,cK,hf,bA]
 exact h1
end
end Go.Proofs.YtmogpgcfognefaaGreatDoor

