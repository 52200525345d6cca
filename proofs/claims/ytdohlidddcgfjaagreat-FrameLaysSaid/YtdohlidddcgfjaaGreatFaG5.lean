/- cT of this claim: G5. -/
import Derived.Test.YtdohlidddcgfjaaGreatFaG3
import Derived.Test.YtdohlidddcgfjaaGreatFaG4
import Derived.Test.YtdohlidddcgfjaaGreatFaQ1
set_option linter.all false
namespace Go.Proofs.YtdohlidddcgfjaaGreat
open Go

theorem qW{i:Nat}(h:i≤1000000):IntKind.i64.wrap ((i:Int)+1)=((i+1:Nat):Int):=by rw [Ab];omega
theorem w7: ∀(l out:List Int),out.length+l.length≤60000000000→jT l out=some (out++rR l)
 |[],out,_=>by unfold jT;simp [rR]
 |x::l,out,h=>by
  simp only [nT]at h
  unfold jT
  rw [bH (by simp;omega),bj,w7 l _ (by simp;omega),nh]
  rfl
theorem vy(l:List Int)(h:l.length≤1000):mz l=some (Ki l):=by
 unfold mz
 rw [w7 l _ (by simp;omega)]
 rfl
theorem UM{n:Nat}(h:n≤1000000):IntKind.u64.wrap (n:Int)=(n:Int):=by rw [xO];omega
theorem IE(e:bv)(hs:KA e): ∀(tl:List bC) (i f:Nat) (out:List Int),e.Nodes.drop i=tl→tl.length<f→out.length+118*tl.length≤50000000000→iQ e f out (i:Int)=some (out++tl.flatMap nB)
 |[],i,f+1,out,hd,_,_=>by
  have h0:e.Nodes.length≤i:=ub.1 hd
  unfold iQ
  rw [aW (by simp;omega)];simp
 |n::tl,i,f+1,out,hd,hf,ho=>by
  obtain⟨h1,h2,h3⟩:=ij hd
  have hlen:=hs.len
  have hn:=hs.str n (by rw [dJ]at h1;exact qM h1)
  have hln:=HF hn
  have hvl:=yY n.Value
  simp only [nT,wQ]at hf ho
  have key: ∀t:List Int,IntKind.u8.wrap n.Tag::t=nB n→iQ e f ((out++[IntKind.u8.wrap n.Tag])++t) (IntKind.i64.wrap ((i:Int)+1))=some (out++(n::tl).flatMap nB):=fun t ht=>by
   rw [qW (by omega),nh,show [IntKind.u8.wrap n.Tag]++t=nB n from ht,IE e hs tl (i+1) f _ h3 (by omega) (by simp;omega),nh,Ch]
  unfold iQ qz
  rw [bq (by simp;omega),h1,bj,bH (by simp;omega),bj]
  by_cases t2:n.Tag=2
  ·rw [bq (by simp [t2]),bH (by simp;omega),bj,aW (by simp [t2])]
   exact key _ (by unfold nB;rw [bq t2])
  ·rw [aW (by simpa using t2)]
   by_cases t1:n.Tag=1
   ·rw [bq (by simp [t1]),vC _ (by omega),bj,bH (by simp;omega),bj]
    exact key _ (by unfold nB;rw [aW t2,bq t1])
   ·rw [aW (by simpa using t1)]
    have:=key [] (by unfold nB;rw [aW t2,aW t1])
    rwa [t8]at this
theorem Nm(e:bv)(hs:KA e):o5 e=some (eB e):=by
 have hl:=hs.len
 unfold o5
 rw [UM (by omega)]
 have h1:fh (e.Nodes.length:Int) 2=some (gb (e.Nodes.length:Int) 2):=oP e.Nodes.length 2 (by omega) (by omega)
 rw [h1,bj]
 have:=IE e hs e.Nodes 0 ef (gb (e.Nodes.length:Int) 2) rfl (go (by omega)) (by simp [cQ];omega)
 exact this
theorem FK(n:ap)(hs:Id n): ∀(tl:List fy) (i f:Nat) (out:List Int),n.Aggs.drop i=tl→tl.length<f→out.length+11803*tl.length≤50000000000→mD n f out (i:Int)=some (out++tl.flatMap Pi)
 |[],i,f+1,out,hd,_,_=>by
  have h0:n.Aggs.length≤i:=ub.1 hd
  unfold mD
  rw [aW (by simp;omega)];simp
 |a::tl,i,f+1,out,hd,hf,ho=>by
  obtain⟨h1,h2,h3⟩:=ij hd
  have hlen:=hs.aggs
  have ha:=hs.arg a (by rw [dJ]at h1;exact qM h1)
  have hla:=xD ha
  simp only [nT,wQ]at hf ho
  unfold mD
  rw [bq (by simp;omega),h1,bj,bH (by simp;omega),bj,Nm _ ha,bj,bH (by simp;omega),bj,qW (by omega),FK n hs tl (i+1) f _ h3 (by omega) (by simp;omega),nh,nh]
  rfl
theorem FJ(n:ap)(hs:Id n): ∀(tl:List bv) (i f:Nat) (out:List Int),n.Items.drop i=tl→tl.length<f→out.length+11802*tl.length≤50000000000→mC n f out (i:Int)=some (out++tl.flatMap eB)
 |[],i,f+1,out,hd,_,_=>by
  have h0:n.Items.length≤i:=ub.1 hd
  unfold mC
  rw [aW (by simp;omega)];simp
 |a::tl,i,f+1,out,hd,hf,ho=>by
  obtain⟨h1,h2,h3⟩:=ij hd
  have hlen:=hs.items
  have ha:=hs.item a (by rw [dJ]at h1;exact qM h1)
  have hla:=xD ha
  simp only [nT,wQ]at hf ho
  unfold mC
  rw [bq (by simp;omega),h1,bj,Nm _ ha,bj,bH (by omega),bj,qW (by omega),FJ n hs tl (i+1) f _ h3 (by omega) (by simp;omega),nh]
  rfl
theorem Aw(b:Bool):p9 b=some (fB b):=by cases b<;>rfl
theorem FI(n:ap)(hs:Id n): ∀(tl:List kq) (i f:Nat) (out:List Int),n.Order.drop i=tl→tl.length<f→out.length+2*tl.length≤50000000000→mB n f out (i:Int)=some (out++(tl.flatMap R4++Ga n))
 |[],i,f+1,out,hd,_,ho=>by
  have h0:n.Order.length≤i:=ub.1 hd
  simp only [ua]at ho
  unfold mB
  rw [aW (by simp;omega)]
  obtain⟨m,hm,he⟩:=Ar (IntKind.i64.wrap (n.Limit+1))
  have h1:fh (m:Int) 4=some (gb (m:Int) 4):=oP m 4 hm (by omega)
  rw [he,h1,bj,bH (by simp [cQ];omega),bj]
  unfold Ga
  rw [he];simp
 |a::tl,i,f+1,out,hd,hf,ho=>by
  obtain⟨h1,h2,h3⟩:=ij hd
  have hlen:=hs.order
  simp only [nT]at hf ho
  unfold mB
  rw [bq (by simp;omega),h1,bj,Aw,bj,bH (by simp;omega),bj,qW (by omega),FI n hs tl (i+1) f _ h3 (by omega) (by simp;omega),nh,Ch,nh]
  rfl
theorem Nl(n:ap)(hs:Id n):uh n=some (te n):=by
 have hk:=hs.kinds;have hkk:=hs.keys;have ho:=hs.order;have hi:=hs.items;have ha:=hs.aggs
 have hce:=xD hs.cond
 have hfr:n.Op=1∨n.Op=9→mE n true=some (te n):=fun h=>by
  unfold mE
  rw [bq rfl,bH (by simp),bj,vy _ (by omega),bj,bH (by simp [m7];omega),bj]
  unfold te Ce
  rw [bq h];rfl
 have hgr:n.Op=4∨n.Op=10∨n.Op=11→k5 n true=some (te n):=fun h=>by
  unfold k5
  rw [bq rfl,vy _ (by omega),bj,bH (by simp [m7];omega),bj,bH (by simp [m7];omega),bj]
  have:=FK n hs n.Aggs 0 ef ([IntKind.u8.wrap n.Op]++Ki n.Keys++[IntKind.u8.wrap (n.Aggs.length:Int)]) rfl (go (by omega)) (by simp [m7];omega)
  rw [show((0:Int))=((0:Nat):Int)from rfl,this]
  unfold te Ce
  rw [aW (by omega),aW (by omega),aW (by omega),bq h]
  simp
 unfold uh
 by_cases h1:n.Op=1
 ·rw [bq (by simp [h1]),show(n.Op==(1:Int))=true by simp [h1]];exact hfr (.inl h1)
 rw [aW (by simpa using h1)]
 by_cases h9:n.Op=9
 ·rw [show(n.Op==(9:Int))=true by simp [h9]];exact hfr (.inr h9)
 rw [show(n.Op==(9:Int))=false by simp [h9]]
 unfold mE
 rw [aW (by simp)]
 by_cases h2:n.Op=2
 ·rw [bq (by simp [h2]),Aw,bj,bH (by simp),bj,Nm _ hs.cond,bj,bH (by simp;omega),bj]
  unfold te Ce
  rw [aW (by omega),bq h2];rfl
 rw [aW (by simpa using h2)]
 by_cases h3:n.Op=3
 ·rw [bq (by simp [h3]),Nm _ hs.cond,bj,bH (by simp;omega),bj]
  unfold te Ce
  rw [aW (by omega),aW h2,bq h3];rfl
 rw [aW (by simpa using h3)]
 by_cases h4:n.Op=4
 ·rw [bq (by simp [h4]),show(n.Op==(4:Int))=true by simp [h4]];exact hgr (.inl h4)
 rw [aW (by simpa using h4)]
 by_cases h10:n.Op=10
 ·rw [bq (by simp [h10]),show(n.Op==(10:Int))=true by simp [h10]];exact hgr (.inr (.inl h10))
 rw [aW (by simpa using h10)]
 by_cases h11:n.Op=11
 ·rw [show(n.Op==(11:Int))=true by simp [h11]];exact hgr (.inr (.inr h11))
 rw [show(n.Op==(11:Int))=false by simp [h11]]
 unfold k5
 rw [aW (by simp)]
 by_cases h5:n.Op=5
 ·rw [bq (by simp [h5]),bH (by simp),bj]
  have:=FJ n hs n.Items 0 ef ([IntKind.u8.wrap n.Op]++[IntKind.u8.wrap (n.Items.length:Int)]) rfl (go (by omega)) (by simp;omega)
  rw [show((0:Int))=((0:Nat):Int)from rfl,this]
  unfold te Ce
  rw [aW (by omega),aW h2,aW h3,aW (by omega),bq h5]
  simp
 rw [aW (by simpa using h5)]
 by_cases h8:n.Op=8
 ·rw [bq (by simp [h8]),bH (by simp),bj]
  have:=FI n hs n.Order 0 ef ([IntKind.u8.wrap n.Op]++[IntKind.u8.wrap (n.Order.length:Int)]) rfl (go (by omega)) (by simp;omega)
  rw [show((0:Int))=((0:Nat):Int)from rfl,this]
  unfold te Ce
  rw [aW (by omega),aW h2,aW h3,aW (by omega),aW h5,bq h8]
  simp
 rw [aW (by simpa using h8)]
 unfold te Ce
 rw [aW (by omega),aW h2,aW h3,aW (by omega),aW h5,aW h8]
theorem FG(nx:List Int→Int→Option (List Int))(i:Nat)(hi:i≤1000)(e:ez)(hs:MT e): ∀(tl:List ap) (k f:Nat) (out:List Int),e.Nodes.drop k=tl→tl.length<f→out.length+236101*tl.length≤40000000000→mA nx (i:Int) e f out (k:Int)=nx (out++tl.flatMap te) ((i+1:Nat):Int)
 |[],k,f+1,out,hd,_,_=>by
  have h0:e.Nodes.length≤k:=ub.1 hd
  unfold mA
  rw [aW (by simp;omega),qW (by omega)];simp
 |n::tl,k,f+1,out,hd,hf,ho=>by
  obtain⟨h1,h2,h3⟩:=ij hd
  have hlen:=hs.len
  have hn:=hs.n n (by rw [dJ]at h1;exact qM h1)
  have hln:=Bn hn
  simp only [nT,wQ]at hf ho
  unfold mA
  rw [bq (by simp;omega),h1,bj,Nl _ hn,bj,bH (by omega),bj,qW (by omega),FG nx i hi e hs tl (k+1) f _ h3 (by omega) (by simp;omega),nh]
  rfl
theorem FH(p:dn)(hs:Kz p): ∀(tl:List ez) (i f:Nat) (out:List Int),p.Frags.drop i=tl→tl.length<f→out.length+16527200*tl.length≤30000000000→kZ p f out (i:Int)=some (out++tl.flatMap Ma)
 |[],i,f+1,out,hd,_,_=>by
  have h0:p.Frags.length≤i:=ub.1 hd
  unfold kZ
  rw [aW (by simp;omega)];simp
 |e::tl,i,f+1,out,hd,hf,ho=>by
  obtain⟨h1,h2,h3⟩:=ij hd
  have hlen:=hs.len
  have he:=hs.f e (by rw [dJ]at h1;exact qM h1)
  have hle:=Em he
  have hc:=he.cols;have hn:=he.len
  simp only [nT,wQ]at hf ho
  unfold kZ
  rw [bq (by simp;omega),h1,bj,bH (by simp;omega),bj,vy _ (by omega),bj,bH (by simp [m7];omega),bj,bH (by simp [m7];omega),bj]
  rw [show((0:Int))=((0:Nat):Int)from rfl,FG _ i (by omega) e he e.Nodes 0 ef _ rfl (go (by omega)) (by simp [m7];omega)]
  rw [show(out++[IntKind.u8.wrap e.At,IntKind.u8.wrap e.Way]++Ki e.Cols++[IntKind.u8.wrap (e.Nodes.length:Int)])++e.Nodes.flatMap te=out++Ma e by simp [Ma]]
  rw [FH p hs tl (i+1) f _ h3 (by omega) (by simp;omega),nh,Ch]
theorem Nk(p:dn)(hs:Kz p):xm p=some (R1 p):=by
 have:=hs.len
 exact FH p hs p.Frags 0 ef [IntKind.u8.wrap (p.Frags.length:Int)] rfl (go (by omega)) (by simp;omega)
def roB(r:List aF):List Int:=IntKind.u8.wrap (r.length:Int)::r.flatMap vB
structure R6(l:List (List aF)):Prop where
 len:l.length≤10
 r: ∀r∈l,r.length≤20∧ ∀v∈r,v.S.length≤100
def IB(r:List aF):List Int×Int:=if 16<r.length then([],3)else if r.all jJ then(roB r,0)else([],120)
theorem yp: ∀(l:List aF) (b:List Int),(∀v∈l,v.S.length≤100)→b.length+117*l.length≤50000000000→kD l b=some (if l.all jJ then(b++l.flatMap vB,0)else([],120))
 |[],b,_,_=>by unfold kD;simp
 |v::l,b,hs,h=>by
  have hv:=hs v (nf ..)
  have hvl:=yY v
  simp only [nT,wQ]at h
  unfold kD
  rw [v8 v (by omega),bj]
  by_cases hr:jJ v=true
  ·rw [bq hr,aW (by simp)]
   show((gn b (vB v)).bind _)=_
   rw [bH (by omega),bj,yp l _ (fun x hx=>hs x (oO _ hx)) (by simp;omega)]
   simp [hr]
  ·rw [aW hr,bq (by simp)]
   simp [hr]
theorem GH(r:List aF)(h:r.length≤20∧ ∀v∈r,v.S.length≤100):wF r=some (IB r):=by
 unfold wF IB
 by_cases hl:16<r.length
 ·rw [bq (by simp;omega),bq hl]
 ·rw [aW (by simp;omega),aW hl]
  unfold uD
  rw [yp r _ h.2 (by simp;omega),bj]
  cases r.all jJ<;>rfl
theorem Bd: ∀(l:List aF) (b:List Int),(∀v∈l,v.S.length≤100)→b.length+117*l.length≤50000000000→oc l b=some (if l.all jJ then(b++l.flatMap vB,0)else([],120))
 |[],b,_,_=>by unfold oc;simp
 |v::l,b,hs,h=>by
  have hv:=hs v (nf ..)
  have hvl:=yY v
  simp only [nT,wQ]at h
  unfold oc
  rw [r0,bj]
  by_cases hr:jJ v=true
  ·rw [aW (by simp [hr]),vC v (by omega),bj,bH (by omega),bj,Bd l _ (fun x hx=>hs x (oO _ hx)) (by simp;omega)]
   simp [hr]
  ·rw [bq (by simp [hr])]
   simp [hr]
theorem FL(r:List aF)(h:r.length≤20∧ ∀v∈r,v.S.length≤100):wm r=some (IB r):=by
 unfold wm IB
 by_cases hl:16<r.length
 ·rw [bq (by simp;omega),bq hl]
 ·rw [aW (by simp;omega),aW hl,Bd r _ h.2 (by simp;omega)]
  cases r.all jJ<;>rfl
theorem D0(r:List aF)(h:r.length≤20∧ ∀v∈r,v.S.length≤100):(IB r).1.length≤2341:=by
 have h1:=sW (f:=vB) (k:=117) r fun v hv=>by have:=yY v;have:=h.2 v hv;omega
 have:=h.1
 unfold IB
 split
 ·simp
 ·split
  ·simp only [roB,nT];omega
  ·simp
theorem Pa(r:List aF):xF (IB r).1:=by
 unfold IB
 split
 ·exact oW
 ·split
  ·exact gT (qZ _ fun v _=>MH v)
  ·exact oW
def LO:List (List aF)→Nat→List Int→List Int×Int×Int
 |[],_,b=>(b,0,0)
 |r::l,i,b=>if(IB r).2=0 then LO l (i+1) (b++(IB r).1)else([],i,(IB r).2)
theorem zY: ∀(l:List (List aF)) (i:Nat) (b:List Int) (a e:Int),(∀r∈l,r.length≤20∧ ∀v∈r,v.S.length≤100)→b.length+2341*l.length≤50000000000→e=0→mW l i b a e=some (LO l i b)
 |[],i,b,a,e,_,_,he=>by
  subst he
  unfold mW oM
  rw [aW (by simp)];rfl
 |r::l,i,b,a,e,hs,h,_=>by
  have hr:=hs r (nf ..)
  have hrl:=D0 r hr
  simp only [nT,wQ]at h
  unfold mW
  rw [GH r hr,bj]
  unfold LO
  by_cases h0:(IB r).2=0
  ·rw [aW (by simp [h0]),bq h0,bH (by omega),bj,zY l (i+1) _ a _ (fun x hx=>hs x (oO _ hx)) (by simp;omega) h0]
  ·rw [bq (by simpa using h0),aW h0]
   unfold oM
   rw [bq (by simpa using h0)]
theorem zL: ∀(l:List (List aF)) (i:Nat) (b:List Int),(∀r∈l,r.length≤20∧ ∀v∈r,v.S.length≤100)→b.length+2341*l.length≤50000000000→mL l i b=some (LO l i b)
 |[],i,b,_,_=>by unfold mL;rfl
 |r::l,i,b,hs,h=>by
  have hr:=hs r (nf ..)
  have hrl:=D0 r hr
  simp only [nT,wQ]at h
  unfold mL
  rw [FL r hr,bj]
  unfold LO
  by_cases h0:(IB r).2=0
  ·rw [aW (by simp [h0]),bq h0,bH (by omega),bj,zL l (i+1) _ (fun x hx=>hs x (oO _ hx)) (by simp;omega)]
  ·rw [bq (by simpa using h0),aW h0]
theorem JA{n:Nat}(h:n≤400):[IntKind.u8.wrap (IntKind.i64.wrap ((n:Int).tdiv 256)),IntKind.u8.wrap ((n:Int).tmod 256)]=gb (n:Int) 2:=by
 have h1:IntKind.u8.wrap (IntKind.i64.wrap ((n/256:Nat):Int))=((n/256^1%256:Nat):Int):=by rw [Cf,Ab,Nat.pow_one];omega
 have h2:IntKind.u8.wrap ((n%256:Nat):Int)=((n/256^0%256:Nat):Int):=by rw [Cf,Nat.pow_zero,Nat.div_one];omega
 rw [sm,show((n:Int).tdiv 256)=((n/256:Nat):Int)from rfl,show((n:Int).tmod 256)=((n%256:Nat):Int)from rfl,h1,h2]
 rfl
def Qz(l:List (List aF)):List Int×Int×Int:=LO l 0 (gb (l.length:Int) 2)
theorem ED(l:List (List aF))(hs:R6 l):uE l=some (Qz l):=by
 have:=hs.len
 unfold uE
 rw [aW (by simp;omega),vN _ _ (by simp),bj,Pu (by omega),lL,zY l 0 _ _ _ hs.r (by simp [cQ];omega) rfl]
 rfl
theorem D7(l:List (List aF))(hs:R6 l):ut l=some (Qz l):=by
 have:=hs.len
 unfold ut
 rw [aW (by simp;omega),JA (by omega),zL l 0 _ hs.r (by simp [cQ];omega)]
 rfl
theorem IQ: ∀(l:List (List aF)) (i:Nat) (b:List Int),(∀r∈l,r.length≤20∧ ∀v∈r,v.S.length≤100)→(LO l i b).1.length≤b.length+2341*l.length
 |[],i,b,_=>by simp [LO]
 |r::l,i,b,hs=>by
  have hrl:=D0 r (hs r (nf ..))
  unfold LO
  split
  ·have:=IQ l (i+1) (b++(IB r).1) fun x hx=>hs x (oO _ hx)
   rw [lM]at this
   simp only [nT,wQ];omega
  ·simp
theorem Jj: ∀(l:List (List aF)) (i:Nat) (b:List Int),xF b→xF (LO l i b).1
 |[],i,b,h=>h
 |r::l,i,b,h=>by
  unfold LO
  split
  ·exact Jj l (i+1) _ (ii h (Pa r))
  ·exact oW
theorem Eg(l:List (List aF))(hs:R6 l):(Qz l).1.length≤30000:=by
 have:=IQ l 0 (gb (l.length:Int) 2) hs.r
 have:=hs.len
 rw [cQ]at*
 unfold Qz;omega
theorem Pd(l:List (List aF)):xF (Qz l).1:=Jj l 0 _ (iJ _ _)
def x9(n:Nat):Nat→List Int
 |0=>[]
 |k+1=>((n%256:Nat):Int)::x9 (n/256) k
theorem IA: ∀(k n:Nat) (out:List Int),out.length+k≤60000000000→mw k out (n:Int)=some (out++x9 n k)
 |0,n,out,_=>by unfold mw;simp [x9]
 |k+1,n,out,h=>by
  unfold mw
  rw [show IntKind.u8.wrap (n:Int)=((n%256:Nat):Int) by rw [Cf];omega,bH (by simp;omega),bj,show((n:Int).fdiv (2^(min (Int.toNat (8:Int)) IntKind.u32.bits)))=((n/256:Nat):Int) by
   show(n:Int).fdiv 256=_
   rw [Int.fdiv_eq_ediv_of_nonneg _ (by omega)];omega,IA k (n/256) _ (by simp;omega),nh]
  rfl
theorem FC(b:List Int)(hb:b.length≤50000000000): ∀(k n:Nat) (last:List Int),n<4294967296→last.length+k≤1000→mM b k last (n:Int)=some (b++(last++x9 n k))
 |0,n,last,_,h=>by
  unfold mM uu
  rw [bH (by simp;omega),bj,bH (by simp at h ⊢;omega),bj,bj]
  simp [x9]
 |k+1,n,last,hn,h=>by
  unfold mM
  rw [show((n:Int).tmod 256)=((n%256:Nat):Int)from rfl,show IntKind.u8.wrap ((n%256:Nat):Int)=((n%256:Nat):Int) by rw [Cf];omega,bH (by simp;omega),bj,show((n:Int).tdiv 256)=((n/256:Nat):Int)from rfl,show IntKind.u32.wrap ((n/256:Nat):Int)=((n/256:Nat):Int) by rw [IntKind.wrap_u32];omega,FC b hb k (n/256) _ (by omega) (by simp;omega),nh]
  rfl
theorem Hp(b:List Int)(hb:xF b)(hl:b.length≤50000000000): ∃n:Nat,n<4294967296∧rU b=some (b++x9 n 4)∧la b=some (b++x9 n 4):=by
 obtain⟨n,hn,h1,h2⟩:=JH b hb
 refine⟨n,hn,?_,?_⟩
 ·unfold rU s0
  rw [h1,bj,bH (by simp;omega),bj,bj,lL,IA 4 n b (by omega)]
 ·unfold la
  rw [h2,bj,FC b hl 4 n [] hn (by simp)]
  rfl
theorem Ft{f:ez}(h:MT f):rE f.Nodes:=by
 refine⟨by have:=h.len;omega,fun n hn=>?_⟩
 have k:=h.n n hn
 have:=k.cond.len;have:=k.kinds;have:=k.keys;have:=k.order;have:=k.items;have:=k.aggs
 exact⟨by omega,by omega,by omega,by omega,by omega,by omega,fun g hg=>by have:=(k.arg g hg).len;omega,fun e he=>by have:=(k.item e he).len;omega⟩
def LR(ns:List ap):Bool:=match lc ns with
 |some r=>r.2.2==0
 |none=>false
def Ao(c:Int):Bool:=decide (c<0)||decide (16≤c)
def vU(f:ez):Bool:=LR f.Nodes&&((f.At==1)||(f.At==2))&&((decide (1≤f.Way)&&decide (f.Way≤4))&&decide ((f.Cols.length:Int)≤16)&& !(f.Cols.any Ao))
def zO(p:dn):Bool:=(decide ((1:Int)≤(p.Frags.length:Int))&&decide ((p.Frags.length:Int)≤30))&&p.Frags.all vU
theorem vQ{f:ez}(h:MT f): ∃out w e,lc f.Nodes=some (out,w,e)∧((e=0∧LR f.Nodes=true∧(∀n∈f.Nodes,VN n)∧nz f.Nodes=some (out,-1))∨(e=291∧LR f.Nodes=false∧ ∃a:Nat,nz f.Nodes=some ([],(a:Int)))):=by
 obtain⟨out,w,e,h1,h2⟩:=Ig (Ft h)
 refine⟨out,w,e,h1,?_⟩
 rcases h2 with⟨e0,_,h3,_⟩|⟨e0,_,h3⟩
 ·subst e0
  exact .inl ⟨rfl,by unfold LR;rw [h1];rfl,MP (Ft h) h1,h3⟩
 ·subst e0
  exact .inr ⟨rfl,by unfold LR;rw [h1];rfl,h3⟩
theorem yK{p q:Bool}{x:Option Bool}(h:x=some q):(if p=true then(x.bind fun r=>some (!r))else some false)=some (p&& !q):=by
 subst h
 cases p<;>rfl
theorem Bx(p:dn): ∀l:List ez,(∀f∈l,MT f)→mS p l=some ((decide ((1:Int)≤(p.Frags.length:Int))&&decide ((p.Frags.length:Int)≤30))&&l.all vU)
 |[],_=>by unfold mS;simp
 |f::l,hs=>by
  obtain⟨out,w,e,h1,h2⟩:=vQ (hs f (nf ..))
  have hk:LR f.Nodes=(e==0):=by unfold LR;rw [h1]
  unfold mS
  rw [h1,bj,jH (f:=pH) (g:=Ao) (fun _=>rfl)]
  have ht:=yK (p:=((decide ((1:Int)≤f.Way))&&(decide (f.Way≤(4:Int))))&&(decide ((f.Cols.length:Int)≤(16:Int)))) (rfl:some (f.Cols.any Ao)=some (f.Cols.any Ao))
  rw [ht,bj,Bx p l fun x hx=>hs x (oO _ hx)]
  have hx:(((e !=(0:Int))||(!((f.At==(1:Int))||(f.At==(2:Int)))))||(!((((decide ((1:Int)≤f.Way))&&(decide (f.Way≤(4:Int))))&&(decide ((f.Cols.length:Int)≤(16:Int))))&& !(f.Cols.any Ao))))= !(vU f):=by
   unfold vU
   rw [hk]
   simp only [bne,Bool.not_and,Bool.not_not]
  show(if _ then _ else _)=_
  rw [hx,vi]
  cases vU f<;>simp
theorem El(p:dn)(hs:Kz p):xy p=some (zO p):=Bx p p.Frags hs.f
theorem FE(nx:Int→Option Bool)(i:Nat)(hi:i≤1000)(e:ez)(hs:MT e): ∀(tl:List Int) (k f:Nat),e.Cols.drop k=tl→tl.length<f→mF nx (i:Int) e f (k:Int)=if(tl.any Ao|| !(LR e.Nodes))=true then some false else nx ((i+1:Nat):Int)
 |[],k,f+1,hd,_=>by
  have h0:e.Cols.length≤k:=ub.1 hd
  obtain⟨out,w,er,h1,h2⟩:=vQ hs
  unfold mF
  rw [aW (by simp;omega),qW (by omega)]
  rcases h2 with⟨_,h3,_,h4⟩|⟨_,h3,a,h4⟩
  ·rw [h4,h3,bj,aW (by simp)];simp
  ·rw [h4,h3,bj,bq (by simp)];simp
 |c::tl,k,f+1,hd,hf=>by
  obtain⟨h1,h2,h3⟩:=ij hd
  have hlen:=hs.cols
  simp only [nT]at hf
  unfold mF
  rw [bq (by simp;omega),h1,bj]
  have hc:((decide (c<(0:Int)))||(decide ((15:Int)<c)))=Ao c:=by
   unfold Ao
   rw [pX];simp;omega
  rw [hc,List.any_cons]
  cases Ao c with
  |true=>simp
  |false=>rw [aW (by simp),qW (by omega),FE nx i hi e hs tl (k+1) f h3 (by omega),vj]
theorem FF(p:dn)(hs:Kz p): ∀(tl:List ez) (i f:Nat),p.Frags.drop i=tl→tl.length<f→k7 p f (i:Int)=some (tl.all vU)
 |[],i,f+1,hd,_=>by
  have h0:p.Frags.length≤i:=ub.1 hd
  unfold k7
  rw [aW (by simp;omega)];rfl
 |e::tl,i,f+1,hd,hf=>by
  obtain⟨h1,h2,h3⟩:=ij hd
  have hlen:=hs.len
  have he:=hs.f e (by rw [dJ]at h1;exact qM h1)
  have hc:=he.cols
  simp only [nT]at hf
  unfold k7
  rw [bq (by simp;omega),h1,bj,vi]
  by_cases hb:(((((e.At !=(1:Int))&&(e.At !=(2:Int)))||(decide (e.Way<(1:Int))))||(decide ((4:Int)<e.Way)))||(decide ((16:Int)<(e.Cols.length:Int))))=true
  ·rw [bq hb]
   have:vU e=false:=by
    unfold vU
    rw [zI]
    intro hh
    simp at hb hh
    omega
   rw [this];rfl
  ·rw [aW hb,show((0:Int))=((0:Nat):Int)from rfl,FE _ i (by omega) e he e.Cols 0 ef rfl (go (by omega)),FF p hs tl (i+1) f h3 (by omega)]
   have hx:vU e= !(e.Cols.any Ao|| !(LR e.Nodes)):=by
    unfold vU
    have h5:((e.At==(1:Int))||(e.At==(2:Int)))=true:=by simp at hb ⊢;omega
    have h6:((decide (1≤e.Way)&&decide (e.Way≤4))&&decide ((e.Cols.length:Int)≤16))=true:=by simp at hb ⊢;omega
    rw [h5,h6]
    cases e.Cols.any Ao<;>cases LR e.Nodes<;>rfl
   rw [hx]
   cases (e.Cols.any Ao|| !(LR e.Nodes))<;>simp
theorem D5(p:dn)(hs:Kz p):ui p=some (zO p):=by
 have:=hs.len
 unfold ui zO
 have h1:=FF p hs p.Frags 0 ef rfl (go (by omega))
 rw [show((0:Int))=((0:Nat):Int)from rfl,h1]
 by_cases h:((decide ((p.Frags.length:Int)<(1:Int)))||(decide ((30:Int)<(p.Frags.length:Int))))=true
 ·rw [bq h]
  have:(decide ((1:Int)≤(p.Frags.length:Int))&&decide ((p.Frags.length:Int)≤30))=false:=by
   rw [zI];intro hh;simp at h hh;omega
  rw [this];rfl
 ·rw [aW h]
  have:(decide ((1:Int)≤(p.Frags.length:Int))&&decide ((p.Frags.length:Int)≤30))=true:=by simp at h ⊢;omega
  rw [this];rfl
theorem ND{p:dn}(hs:Kz p)(h:zO p=true): ∀f∈p.Frags,∀n∈f.Nodes,VN n:=fun f hf=>by
 unfold zO at h
 rw [gX]at h
 have h1:=pq.1 h.2 f hf
 unfold vU at h1
 simp only [gX]at h1
 obtain⟨out,w,e,h2,h3⟩:=vQ (hs.f f hf)
 rcases h3 with⟨_,_,h4,_⟩|⟨_,h4,_⟩
 ·exact h4
 ·rw [h4]at h1;exact absurd h1.1.1 (by simp)
end Go.Proofs.YtdohlidddcgfjaaGreat

