/- dr of this claim: U8. -/
import Derived.Test.YtnmjbolollcokaaGreatDoorRdU7
import Derived.Test.YtnmjbolollcokaaGreatDoorRdU3
import Derived.Test.YtnmjbolollcokaaGreatDoorRdQ4
set_option linter.all false
namespace Go.Proofs.YtnmjbolollcokaaGreatDoor
open Go

theorem AE{n:af}{a:List Int}(hA:n.Aggs.length≤5000): ∀(k i fu:Nat) (out:List Int) (ok:Bool) (r:List Int) (b:Bool),i+k=n.Aggs.length→dK n a fu out ok (i:Int)=some (r,b)→r.length=out.length+k
 |k,i,0,out,ok,r,b,_,h=>by cases h
 |0,i,fu+1,out,ok,r,b,hi,h=>by
  unfold dK at h
  rw [bM (by simp;omega)]at h
  cases h
  rfl
 |k+1,i,fu+1,out,ok,r,b,hi,h=>by
  have hk:i<n.Aggs.length:=by omega
  unfold dK at h
  rw [bS (by simp;omega),cQ,q6 hk,bC,Ff]at h
  obtain⟨r2,_,h⟩:=h
  rw [Ff]at h
  obtain⟨out4,h4,h⟩:=h
  rw [cA (by omega) (by omega)]at h
  have h5:out4.length=out.length+1:=by
   unfold kq at h4
   split at h4
   ·cases h4;simp
   ·cases h4
  have:=AE hA k (i+1) fu out4 _ r b (by omega) h
  omega
theorem AF{n:af}{a:List Int}(hA:n.Aggs.length≤5000)(hK:n.Keys.length≤5000): ∀(k i fu:Nat) (out r:List Int),i+k=n.Keys.length→dY n a fu out (i:Int)=some (r,true)→r.length=out.length+k+n.Aggs.length
 |k,i,0,out,r,_,h=>by cases h
 |0,i,fu+1,out,r,hi,h=>by
  unfold dY at h
  rw [bM (by simp;omega)]at h
  have:=AE hA n.Aggs.length 0 cZ out true r true (by omega) h
  omega
 |k+1,i,fu+1,out,r,hi,h=>by
  have hk:i<n.Keys.length:=by omega
  unfold dY at h
  rw [bS (by simp;omega),cQ,q6 hk,bC]at h
  split at h
  ·cases h
  ·rw [Ff]at h
   obtain⟨e3,_,h⟩:=h
   rw [Ff]at h
   obtain⟨sT,h4,h⟩:=h
   rw [cA (by omega) (by omega)]at h
   have h5:sT.length=out.length+1:=by
    unfold kq at h4
    split at h4
    ·cases h4;simp
    ·cases h4
   have:=AF hA hK k (i+1) fu sT r (by omega) h
   omega
theorem Nk{n:af}(hS:ku n)(hn:n.Op=4){a b k:List Int}(h:cu n a b=some (k,true)):k.length=n.Keys.length+n.Aggs.length:=by
 unfold cu at h
 rw [bM (by simp [hn]),bM (by simp [hn]),bM (by simp [hn]),bS (by simp [hn])]at h
 have h1:=hS.aggs
 have h2:=hS.keys
 have:=AF (by omega) (by omega) n.Keys.length 0 cZ [] k (by omega) h
 simpa using this
theorem Kp{n:af}(hn:n.Op=2){a b k:List Int}(h:cu n a b=some (k,true)):gN n.Cond.Nodes=true:=by
 unfold cu at h
 rw [bM (by simp [hn]),bS (by simp [hn]),Ff]at h
 obtain⟨l,_,h⟩:=h
 rw [Ff]at h
 obtain⟨out,_,h⟩:=h
 rw [oB,bC]at h
 injection h with h
 injection h with _ h
 exact zp h
section
variable{l:bR}{c:ce}{sz:Nat→Nat}{ks:Nat→List Int}{p:aO}
structure S4(l:bR)(c:ce)(ks:Nat→List Int)(p:aO):Prop where
 tree:p.tree=l
 cat:p.catalog=c
 kinds: ∀j,j<l.Nodes.length→dw p.kinds (j:Int)=some (ks j)
theorem NH{α β:Type}(x:Option (α×β)):(x.bind fun r=>some (r.1,r.2))=x:=by cases x<;>rfl
theorem si{p:aO}{self:aO→Int→Option (ba×aO)}{n:af}{j i:Nat}{parts:List ba}{fs:List bK}{k:List Int}(hk:dw p.kinds (j:Int)=some k){code:Option (ba×aO)}
    (h:(n.Op=1∧code=(j4 (qU p fs) n k parts).map fun mr=>(mr,qU p fs))∨(n.Op=3∧code=(jf (qU p fs) n k parts).map fun mr=>(mr,qU p fs))∨(n.Op=5∧code=(iE (qU p fs) n k parts).map fun mr=>(mr,qU p fs))∨
      (n.Op=2∧code=j5 (qU p fs) n k parts)∨(n.Op=4∧code=jy (qU p fs) n k parts)∨(n.Op=6∧code=ii (qU p fs) n k parts)∨(n.Op=7∧code=jw (qU p fs) n k parts)∨(n.Op=8∧code=jx (qU p fs) n k parts)):
    cL self (j:Int) n 0 i parts (qU p fs)=code:=by
  have hk' :dw (qU p fs).kinds (j:Int)=some k:=hk
  unfold cL
  rw [hk',bC]
  rcases h with⟨ho,rfl⟩|⟨ho,rfl⟩|⟨ho,rfl⟩|⟨ho,rfl⟩|⟨ho,rfl⟩|⟨ho,rfl⟩|⟨ho,rfl⟩|⟨ho,rfl⟩<;>(rw [ho];exact NH _)
theorem JX(hS:p9 l)(hle:l.Nodes.length≤60)(H:CW l sz ks)(hks: ∀j,j<l.Nodes.length→lM l (j:Int)=some (ks j,true))(hP:S4 l c ks p)(hT: ∀n∈l.Nodes,n.Op=1→ ∃t,dw c.Tables n.Table=some t∧t.Keys.length≤100):
  ∀(j:Nat),j<l.Nodes.length→ ∀(fu:Nat),j<fu→ ∀fs:List bK,fs.length+2*sz j≤400→ ∃s f2,dZ fu (qU p fs) (j:Int)=some (s,qU p f2)∧dV fu l c (j:Int) fs=some (oI s f2)∧tG s∧lz fs f2 (gX s.nodes)∧s.nodes.length≤sz j∧fs.length≤f2.length∧f2.length≤fs.length+2*sz j:=by
 intro j
 induction j using Nat.strongRecOn with
 |ind j ih=>
  intro hj fu hfu fs hfs
  obtain⟨fu,rfl⟩: ∃k,fu=k+1:=⟨fu-1,by omega⟩
  obtain⟨n,F⟩:=H j hj
  have hnm:n∈l.Nodes:=by
   have:=F.node
   rw [cQ]at this
   exact ta this
  have hSn:=hS n hnm
  have hq:Eu n:=⟨hSn.aggs,hSn.order⟩
  have hkl:=F.len
  have hzl:=F.le
  have hz1:=F.pos
  have hnode:dw (qU p fs).tree.Nodes (j:Int)=some n:=by
   show dw p.tree.Nodes (j:Int)=some n
   rw [hP.tree];exact F.node
  unfold dZ dV
  rw [hnode,bC,F.node,bC,hks j hj,bC]
  by_cases h1:n.Op=1
  ·obtain⟨hA,hB,hz⟩:=F.lf h1
   obtain⟨t,ht,htk⟩:=hT n hnm h1
   obtain⟨s,g1,g2,g3,g4,g5⟩:=OA (p:=p) (n:=n) (kinds:=ks j) (f1:=fs) ht hP.cat h1 ⟨hA,hB⟩ hkl htk
   refine⟨s,fs,?_,?_,g3,g4,by omega,eW _,by omega⟩
   ·unfold cL
    rw [show dw [n.A,n.B] ((0:Nat):Int)=some n.A from rfl,bC,bM (by rw [hA];decide)]
    unfold cL
    rw [show dw [n.A,n.B] ((0+1:Nat):Int)=some n.B from rfl,bC,bM (by rw [hB];decide),si (hP.kinds j hj) (.inl ⟨h1,rfl⟩)]
    exact g1
   ·rw [bM (by rw [hA];decide)]
    unfold fX
    rw [bM (by rw [hB];decide)]
    unfold kU
    rw [g2,bC,bS (by rw [hA];decide)]
    rfl
  ·by_cases hb:n.Op=2∨n.Op=7
   ·obtain⟨hj0,hB,hlt,hA,hz⟩:=F.bi hb
    have hA' :n.A=((j-1-sz (j-1):Nat):Int):=by omega
    have hB' :n.B=((j-1:Nat):Int):=by omega
    obtain⟨nA,FA⟩:=H (j-1-sz (j-1)) (by omega)
    obtain⟨nB,FB⟩:=H (j-1) (by omega)
    have za:=FA.le
    have zb:=FB.le
    obtain⟨a,f1,a1,a2,a3,a4,a5,a6,a7⟩:=ih (j-1-sz (j-1)) (by omega) (by omega) fu (by omega) fs (by omega)
    obtain⟨b,f2,b1,b2,b3,b4,b5,b6,b7⟩:=ih (j-1) (by omega) (by omega) fu (by omega) f1 (by omega)
    have hG:=a4.join b4
    have key: ∀{code:Option (ba×aO)} {ref:Option bI},gU p code ref fs f2 (a.nodes.length+b.nodes.length)→(cL (dZ fu) (j:Int) n 0 2 [a,b] (qU p f2)=code)→(dW n (ks j) c (oI a f1) (oI b f2)=ref)→ ∃s f3,cL (dZ fu) (j:Int) n 2 0 ([]:List ba) (qU p fs)=some (s,qU p f3)∧(if(decide ((0:Int)≤n.A))then(((dV fu) l c n.A fs).bind fun r3=>fX (dV fu) l c fs n (ks j,true) r3)else(fX (dV fu) l c fs n (ks j,true) (⟨fs,[],[],false,[]⟩:bI)))=some (oI s f3)∧tG s∧lz fs f3 (gX s.nodes)∧s.nodes.length≤sz j∧fs.length≤f3.length∧f3.length≤fs.length+2*sz j:=by
     rintro code ref ⟨s,f3,g1,g2,g3,g4,g5,g6,g7⟩ hc hr
     refine⟨s,f3,?_,?_,g3,g4,by omega,by omega,by omega⟩
     ·unfold cL
      rw [show dw [n.A,n.B] ((0:Nat):Int)=some n.A from rfl,bC,bS (by simp;omega),hA',a1,bC,cP (by simp),bC,ke]
      unfold cL
      rw [show dw [n.A,n.B] ((0+1:Nat):Int)=some n.B from rfl,bC,bS (by simp;omega),hB']
      show((dZ fu (qU p f1) ((j-1:Nat):Int)).bind _)=_
      rw [b1,bC,cP (by simp),bC]
      exact hc.trans g1
     ·rw [bS (by simp;omega),hA',a2,bC]
      unfold fX
      rw [bS (by simp;omega),hB']
      show((dV fu l c ((j-1:Nat):Int) f1).bind _)=_
      rw [b2,bC]
      unfold kU
      rw [hr,g2,bC,bM (by simp;omega)]
      rfl
    rcases hb with h2|h7
    ·exact key (O6 (p:=p) (n:=n) (kinds:=ks j) (f0:=fs) (f1:=f2) a3 b3 (by omega) (by omega) h2 hkl (Kp h2 F.kinds) (fa:=f1) hG c) (si (hP.kinds j hj) (.inr (.inr (.inr (.inl ⟨h2,rfl⟩))))) rfl
    ·exact key (MA (p:=p) (n:=n) (kinds:=ks j) (f0:=fs) (f1:=f2) a3 b3 (by omega) (by omega) h7 hkl (fa:=f1) hG c) (si (hP.kinds j hj) (.inr (.inr (.inr (.inr (.inr (.inr (.inl ⟨h7,rfl⟩)))))))) rfl
   ·obtain⟨hj0,hA,hB,hz⟩:=F.un h1 (fun h=>hb (.inl h)) (fun h=>hb (.inr h))
    have hA' :n.A=((j-1:Nat):Int):=by omega
    obtain⟨nA,FA⟩:=H (j-1) (by omega)
    have za:=FA.le
    obtain⟨a,f1,a1,a2,a3,a4,a5,a6,a7⟩:=ih (j-1) (by omega) (by omega) fu (by omega) fs (by omega)
    have key: ∀{code:Option (ba×aO)} {ref:Option bI},gU p code ref fs f1 a.nodes.length→(cL (dZ fu) (j:Int) n 0 2 [a] (qU p f1)=code)→(dW n (ks j) c (oI a f1) (⟨[],[],[],false,[]⟩:bI)=ref)→ ∃s f3,cL (dZ fu) (j:Int) n 2 0 ([]:List ba) (qU p fs)=some (s,qU p f3)∧(if(decide ((0:Int)≤n.A))then(((dV fu) l c n.A fs).bind fun r3=>fX (dV fu) l c fs n (ks j,true) r3)else(fX (dV fu) l c fs n (ks j,true) (⟨fs,[],[],false,[]⟩:bI)))=some (oI s f3)∧tG s∧lz fs f3 (gX s.nodes)∧s.nodes.length≤sz j∧fs.length≤f3.length∧f3.length≤fs.length+2*sz j:=by
     rintro code ref ⟨s,f3,g1,g2,g3,g4,g5,g6,g7⟩ hc hr
     refine⟨s,f3,?_,?_,g3,g4,by omega,by omega,by omega⟩
     ·unfold cL
      rw [show dw [n.A,n.B] ((0:Nat):Int)=some n.A from rfl,bC,bS (by simp;omega),hA',a1,bC,cP (by simp),bC,ke]
      unfold cL
      rw [show dw [n.A,n.B] ((0+1:Nat):Int)=some n.B from rfl,bC,bM (by rw [hB];decide)]
      exact hc.trans g1
     ·rw [bS (by simp;omega),hA',a2,bC]
      unfold fX
      rw [bM (by rw [hB];decide)]
      unfold kU
      rw [hr,g2,bC,bM (by simp;omega)]
      rfl
    have hi:=hSn.items
    rcases tK F.op with h|h|h|h|h|h|h|h
    ·exact absurd h h1
    ·exact absurd (.inl h) hb
    ·exact key (Kr (p:=p) (n:=n) (kinds:=ks j) (f0:=fs) (f1:=f1) a3 (by omega) h hkl a4 c _) (si (hP.kinds j hj) (.inr (.inl ⟨h,rfl⟩))) rfl
    ·exact key (Nj (p:=p) (n:=n) (kinds:=ks j) (f0:=fs) (f1:=f1) a3 (by omega) (by omega) h hkl (Nk hSn h F.kinds) a4 c _) (si (hP.kinds j hj) (.inr (.inr (.inr (.inr (.inl ⟨h,rfl⟩)))))) rfl
    ·exact key (Io (p:=p) (n:=n) (kinds:=ks j) (f0:=fs) (f1:=f1) a3 (by omega) h (by omega) hkl a4 c _) (si (hP.kinds j hj) (.inr (.inr (.inl ⟨h,rfl⟩)))) rfl
    ·exact key (Hq (p:=p) (n:=n) (kinds:=ks j) (f0:=fs) (f1:=f1) a3 (by omega) (by omega) h hkl a4 c _) (si (hP.kinds j hj) (.inr (.inr (.inr (.inr (.inr (.inl ⟨h,rfl⟩))))))) rfl
    ·exact absurd (.inr h) hb
    ·exact key (MW (p:=p) (n:=n) (kinds:=ks j) (f0:=fs) (f1:=f1) a3 (by omega) (by omega) h hkl a4 c _) (si (hP.kinds j hj) (.inr (.inr (.inr (.inr (.inr (.inr (.inr ⟨h,rfl⟩)))))))) rfl
end
end Go.Proofs.YtnmjbolollcokaaGreatDoor

