/- cR of this claim: U8. -/
import Derived.Test.YtnmjbolollcokaaGreatDoorRcU7
import Derived.Test.YtnmjbolollcokaaGreatDoorRcU3
import Derived.Test.YtnmjbolollcokaaGreatDoorRcQ4
set_option linter.all false
namespace Go.Proofs.YtnmjbolollcokaaGreatDoor
open Go

theorem yR{n:M}{a:List Int}(hA:n.Aggs.length≤5000): ∀(k i fu:Nat) (out:List Int) (ok:Bool) (r:List Int) (b:Bool),i+k=n.Aggs.length→cY n a fu out ok (i:Int)=some (r,b)→r.length=out.length+k
 |k,i,0,out,ok,r,b,_,h=>by cases h
 |0,i,fu+1,out,ok,r,b,hi,h=>by
  unfold cY at h
  rw [bg (by simp;omega)]at h
  cases h
  rfl
 |k+1,i,fu+1,out,ok,r,b,hi,h=>by
  have hk:i<n.Aggs.length:=by omega
  unfold cY at h
  rw [bm (by simp;omega),cg,pE hk,be,Dx]at h
  obtain⟨r2,_,h⟩:=h
  rw [Dx]at h
  obtain⟨out4,h4,h⟩:=h
  rw [bP (by omega) (by omega)]at h
  have h5:out4.length=out.length+1:=by
   unfold iC at h4
   split at h4
   ·cases h4;simp
   ·cases h4
  have:=yR hA k (i+1) fu out4 _ r b (by omega) h
  omega
theorem yS{n:M}{a:List Int}(hA:n.Aggs.length≤5000)(hK:n.Keys.length≤5000): ∀(k i fu:Nat) (out r:List Int),i+k=n.Keys.length→dp n a fu out (i:Int)=some (r,true)→r.length=out.length+k+n.Aggs.length
 |k,i,0,out,r,_,h=>by cases h
 |0,i,fu+1,out,r,hi,h=>by
  unfold dp at h
  rw [bg (by simp;omega)]at h
  have:=yR hA n.Aggs.length 0 dj out true r true (by omega) h
  omega
 |k+1,i,fu+1,out,r,hi,h=>by
  have hk:i<n.Keys.length:=by omega
  unfold dp at h
  rw [bm (by simp;omega),cg,pE hk,be]at h
  split at h
  ·cases h
  ·rw [Dx]at h
   obtain⟨e3,_,h⟩:=h
   rw [Dx]at h
   obtain⟨s9,h4,h⟩:=h
   rw [bP (by omega) (by omega)]at h
   have h5:s9.length=out.length+1:=by
    unfold iC at h4
    split at h4
    ·cases h4;simp
    ·cases h4
   have:=yS hA hK k (i+1) fu s9 r (by omega) h
   omega
theorem LH{n:M}(hS:iD n)(hn:n.Op=4){a b k:List Int}(h:bM n a b=some (k,true)):k.length=n.Keys.length+n.Aggs.length:=by
 unfold bM at h
 rw [bg (by simp [hn]),bg (by simp [hn]),bg (by simp [hn]),bm (by simp [hn])]at h
 have h1:=hS.aggs
 have h2:=hS.keys
 have:=yS (by omega) (by omega) n.Keys.length 0 dj [] k (by omega) h
 simpa using this
theorem I6{n:M}(hn:n.Op=2){a b k:List Int}(h:bM n a b=some (k,true)):fv n.Cond.Nodes=true:=by
 unfold bM at h
 rw [bg (by simp [hn]),bm (by simp [hn]),Dx]at h
 obtain⟨l,_,h⟩:=h
 rw [Dx]at h
 obtain⟨out,_,h⟩:=h
 rw [mh,be]at h
 injection h with h
 injection h with _ h
 exact xo h
section
variable{l:bK}{c:bG}{sz:Nat→Nat}{ks:Nat→List Int}{p:ay}
structure QX(l:bK)(c:bG)(ks:Nat→List Int)(p:ay):Prop where
 tree:p.tree=l
 cat:p.catalog=c
 kinds: ∀j,j<l.Nodes.length→cK p.kinds (j:Int)=some (ks j)
theorem LZ{α β:Type}(x:Option (α×β)):(x.bind fun r=>some (r.1,r.2))=x:=by cases x<;>rfl
theorem p5{p:ay}{self:ay→Int→Option (aG×ay)}{n:M}{j i:Nat}{parts:List aG}{fs:List bk}{k:List Int}(hk:cK p.kinds (j:Int)=some k){code:Option (aG×ay)}
    (h:(n.Op=1∧code=(ij (oU p fs) n k parts).map fun mr=>(mr,oU p fs))∨(n.Op=3∧code=(gG (oU p fs) n k parts).map fun mr=>(mr,oU p fs))∨(n.Op=5∧code=(gp (oU p fs) n k parts).map fun mr=>(mr,oU p fs))∨
      (n.Op=2∧code=ik (oU p fs) n k parts)∨(n.Op=4∧code=gS (oU p fs) n k parts)∨(n.Op=6∧code=f9 (oU p fs) n k parts)∨(n.Op=7∧code=gQ (oU p fs) n k parts)∨(n.Op=8∧code=gR (oU p fs) n k parts)):
    bX self (j:Int) n 0 i parts (oU p fs)=code:=by
  have hk' :cK (oU p fs).kinds (j:Int)=some k:=hk
  unfold bX
  rw [hk',be]
  rcases h with⟨ho,rfl⟩|⟨ho,rfl⟩|⟨ho,rfl⟩|⟨ho,rfl⟩|⟨ho,rfl⟩|⟨ho,rfl⟩|⟨ho,rfl⟩|⟨ho,rfl⟩<;>(rw [ho];exact LZ _)
theorem Iy(hS:nD l)(hle:l.Nodes.length≤60)(H:Bo l sz ks)(hks: ∀j,j<l.Nodes.length→kX l (j:Int)=some (ks j,true))(hP:QX l c ks p)(hT: ∀n∈l.Nodes,n.Op=1→ ∃t,cK c.Tables n.Table=some t∧t.Keys.length≤100):
  ∀(j:Nat),j<l.Nodes.length→ ∀(fu:Nat),j<fu→ ∀fs:List bk,fs.length+2*sz j≤400→ ∃s f2,cZ fu (oU p fs) (j:Int)=some (s,oU p f2)∧dA fu l c (j:Int) fs=some (mn s f2)∧rP s∧iX fs f2 (ev s.nodes)∧s.nodes.length≤sz j∧fs.length≤f2.length∧f2.length≤fs.length+2*sz j:=by
 intro j
 induction j using Nat.strongRecOn with
 |ind j ih=>
  intro hj fu hfu fs hfs
  obtain⟨fu,rfl⟩: ∃k,fu=k+1:=⟨fu-1,by omega⟩
  obtain⟨n,F⟩:=H j hj
  have hnm:n∈l.Nodes:=by
   have:=F.node
   rw [cg]at this
   exact qE this
  have hSn:=hS n hnm
  have hkl:=F.len
  have hzl:=F.le
  have hz1:=F.pos
  have hnode:cK (oU p fs).tree.Nodes (j:Int)=some n:=by
   show cK p.tree.Nodes (j:Int)=some n
   rw [hP.tree];exact F.node
  unfold cZ dA
  rw [hnode,be,F.node,be,hks j hj,be]
  by_cases h1:n.Op=1
  ·obtain⟨hA,hB,hz⟩:=F.lf h1
   obtain⟨t,ht,htk⟩:=hT n hnm h1
   obtain⟨s,g1,g2,g3,g4,g5⟩:=MQ (p:=p) (n:=n) (kinds:=ks j) (f1:=fs) ht hP.cat h1 ⟨hA,hB⟩ hkl htk
   refine⟨s,fs,?_,?_,g3,g4,by omega,dN _,by omega⟩
   ·unfold bX
    rw [show cK [n.A,n.B] ((0:Nat):Int)=some n.A from rfl,be,bg (by rw [hA];decide)]
    unfold bX
    rw [show cK [n.A,n.B] ((0+1:Nat):Int)=some n.B from rfl,be,bg (by rw [hB];decide),p5 (hP.kinds j hj) (.inl ⟨h1,rfl⟩)]
    exact g1
   ·rw [bg (by rw [hA];decide)]
    unfold fy
    rw [bg (by rw [hB];decide)]
    unfold kG
    rw [g2,be,bm (by rw [hA];decide)]
    rfl
  ·by_cases hb:n.Op=2∨n.Op=7
   ·obtain⟨hj0,hB,hlt,hA,hz⟩:=F.bi hb
    have hA' :n.A=((j-1-sz (j-1):Nat):Int):=by omega
    have hB' :n.B=((j-1:Nat):Int):=by omega
    obtain⟨nA,FA⟩:=H (j-1-sz (j-1)) (by omega)
    obtain⟨nB,FB⟩:=H (j-1) (by omega)
    have za:=FA.le
    have zb:=FB.le
    obtain⟨a,f1,a1,a2,a3,a4,a5,a6,a7⟩:=ih (j-1-sz (j-1)) (by omega) (by omega) fu (by omega) fs (by omega)
    obtain⟨b,f2,b1,b2,b3,b4,b5,b6,b7⟩:=ih (j-1) (by omega) (by omega) fu (by omega) f1 (by omega)
    have hG:=a4.join b4
    have key: ∀{code:Option (aG×ay)} {ref:Option bS},fJ p code ref fs f2 (a.nodes.length+b.nodes.length)→(bX (cZ fu) (j:Int) n 0 2 [a,b] (oU p f2)=code)→(dd n (ks j) c (mn a f1) (mn b f2)=ref)→ ∃s f3,bX (cZ fu) (j:Int) n 2 0 ([]:List aG) (oU p fs)=some (s,oU p f3)∧(if(decide ((0:Int)≤n.A))then(((dA fu) l c n.A fs).bind fun r3=>fy (dA fu) l c fs n (ks j,true) r3)else(fy (dA fu) l c fs n (ks j,true) (⟨fs,[],[],false,[]⟩:bS)))=some (mn s f3)∧rP s∧iX fs f3 (ev s.nodes)∧s.nodes.length≤sz j∧fs.length≤f3.length∧f3.length≤fs.length+2*sz j:=by
     rintro code ref ⟨s,f3,g1,g2,g3,g4,g5,g6,g7⟩ hc hr
     refine⟨s,f3,?_,?_,g3,g4,by omega,by omega,by omega⟩
     ·unfold bX
      rw [show cK [n.A,n.B] ((0:Nat):Int)=some n.A from rfl,be,bm (by simp;omega),hA',a1,be,ca (by simp),be,iv]
      unfold bX
      rw [show cK [n.A,n.B] ((0+1:Nat):Int)=some n.B from rfl,be,bm (by simp;omega),hB']
      show((cZ fu (oU p f1) ((j-1:Nat):Int)).bind _)=_
      rw [b1,be,ca (by simp),be]
      exact hc.trans g1
     ·rw [bm (by simp;omega),hA',a2,be]
      unfold fy
      rw [bm (by simp;omega),hB']
      show((dA fu l c ((j-1:Nat):Int) f1).bind _)=_
      rw [b2,be]
      unfold kG
      rw [hr,g2,be,bg (by simp;omega)]
      rfl
    rcases hb with h2|h7
    ·exact key (Nv (p:=p) (n:=n) (kinds:=ks j) (f0:=fs) (f1:=f2) a3 b3 (by omega) (by omega) h2 hkl (I6 h2 F.kinds) (fa:=f1) hG c) (p5 (hP.kinds j hj) (.inr (.inr (.inr (.inl ⟨h2,rfl⟩))))) rfl
    ·exact key (KX (p:=p) (n:=n) (kinds:=ks j) (f0:=fs) (f1:=f2) a3 b3 (by omega) (by omega) h7 hkl (fa:=f1) hG c) (p5 (hP.kinds j hj) (.inr (.inr (.inr (.inr (.inr (.inr (.inl ⟨h7,rfl⟩)))))))) rfl
   ·obtain⟨hj0,hA,hB,hz⟩:=F.un h1 (fun h=>hb (.inl h)) (fun h=>hb (.inr h))
    have hA' :n.A=((j-1:Nat):Int):=by omega
    obtain⟨nA,FA⟩:=H (j-1) (by omega)
    have za:=FA.le
    obtain⟨a,f1,a1,a2,a3,a4,a5,a6,a7⟩:=ih (j-1) (by omega) (by omega) fu (by omega) fs (by omega)
    have key: ∀{code:Option (aG×ay)} {ref:Option bS},fJ p code ref fs f1 a.nodes.length→(bX (cZ fu) (j:Int) n 0 2 [a] (oU p f1)=code)→(dd n (ks j) c (mn a f1) (⟨[],[],[],false,[]⟩:bS)=ref)→ ∃s f3,bX (cZ fu) (j:Int) n 2 0 ([]:List aG) (oU p fs)=some (s,oU p f3)∧(if(decide ((0:Int)≤n.A))then(((dA fu) l c n.A fs).bind fun r3=>fy (dA fu) l c fs n (ks j,true) r3)else(fy (dA fu) l c fs n (ks j,true) (⟨fs,[],[],false,[]⟩:bS)))=some (mn s f3)∧rP s∧iX fs f3 (ev s.nodes)∧s.nodes.length≤sz j∧fs.length≤f3.length∧f3.length≤fs.length+2*sz j:=by
     rintro code ref ⟨s,f3,g1,g2,g3,g4,g5,g6,g7⟩ hc hr
     refine⟨s,f3,?_,?_,g3,g4,by omega,by omega,by omega⟩
     ·unfold bX
      rw [show cK [n.A,n.B] ((0:Nat):Int)=some n.A from rfl,be,bm (by simp;omega),hA',a1,be,ca (by simp),be,iv]
      unfold bX
      rw [show cK [n.A,n.B] ((0+1:Nat):Int)=some n.B from rfl,be,bg (by rw [hB];decide)]
      exact hc.trans g1
     ·rw [bm (by simp;omega),hA',a2,be]
      unfold fy
      rw [bg (by rw [hB];decide)]
      unfold kG
      rw [hr,g2,be,bg (by simp;omega)]
      rfl
    have hi:=hSn.items
    rcases qY F.op with h|h|h|h|h|h|h|h
    ·exact absurd h h1
    ·exact absurd (.inl h) hb
    ·exact key (Ja (p:=p) (n:=n) (kinds:=ks j) (f0:=fs) (f1:=f1) a3 (by omega) h hkl a4 c _) (p5 (hP.kinds j hj) (.inr (.inl ⟨h,rfl⟩))) rfl
    ·exact key (LF (p:=p) (n:=n) (kinds:=ks j) (f0:=fs) (f1:=f1) a3 (by omega) (by omega) h hkl (LH hSn h F.kinds) a4 c _) (p5 (hP.kinds j hj) (.inr (.inr (.inr (.inr (.inl ⟨h,rfl⟩)))))) rfl
    ·exact key (GW (p:=p) (n:=n) (kinds:=ks j) (f0:=fs) (f1:=f1) a3 (by omega) h (by omega) hkl a4 c _) (p5 (hP.kinds j hj) (.inr (.inr (.inl ⟨h,rfl⟩)))) rfl
    ·exact key (FQ (p:=p) (n:=n) (kinds:=ks j) (f0:=fs) (f1:=f1) a3 (by omega) (by omega) h hkl a4 c _) (p5 (hP.kinds j hj) (.inr (.inr (.inr (.inr (.inr (.inl ⟨h,rfl⟩))))))) rfl
    ·exact absurd (.inr h) hb
    ·exact key (Lr (p:=p) (n:=n) (kinds:=ks j) (f0:=fs) (f1:=f1) a3 (by omega) (by omega) h hkl a4 c _) (p5 (hP.kinds j hj) (.inr (.inr (.inr (.inr (.inr (.inr (.inr ⟨h,rfl⟩)))))))) rfl
end
end Go.Proofs.YtnmjbolollcokaaGreatDoor

