/- cT of this claim: G2. -/
import Derived.Test.YtdohlidddcgfjaaGreatFaG1
import Derived.Test.YtdohlidddcgfjaaGreatFaQ2
set_option linter.all false
namespace Go.Proofs.YtdohlidddcgfjaaGreat
open Go

def rR(l:List Int):List Int:=l.map IntKind.u8.wrap
def fB(b:Bool):Int:=if b then 1 else 0
def Ki(l:List Int):List Int:=IntKind.u8.wrap (l.length:Int)::rR l
def nB(n:bC):List Int:=IntKind.u8.wrap n.Tag::(if n.Tag=2 then [IntKind.u8.wrap n.Col]else if n.Tag=1 then vB n.Value else [])
def eB(e:bv):List Int:=gb (e.Nodes.length:Int) 2++e.Nodes.flatMap nB
def Pi(a:fy):List Int:=IntKind.u8.wrap a.Tag::eB a.Arg
def R4(o:kq):List Int:=[IntKind.u8.wrap o.Col,fB o.Desc]
def Ga(n:ap):List Int:=gb (IntKind.u64.wrap (IntKind.i64.wrap (n.Limit+1))) 4
def Ce(n:ap):List Int:=
 if n.Op=1∨n.Op=9 then IntKind.u8.wrap n.Table::Ki n.Kinds
 else if n.Op=2 then fB n.Left::eB n.Cond
 else if n.Op=3 then eB n.Cond
 else if n.Op=4∨n.Op=10∨n.Op=11 then Ki n.Keys++IntKind.u8.wrap (n.Aggs.length:Int)::n.Aggs.flatMap Pi
 else if n.Op=5 then IntKind.u8.wrap (n.Items.length:Int)::n.Items.flatMap eB
 else if n.Op=8 then IntKind.u8.wrap (n.Order.length:Int)::(n.Order.flatMap R4++Ga n)
 else []
def te(n:ap):List Int:=IntKind.u8.wrap n.Op::Ce n
def Ma(f:ez):List Int:=[IntKind.u8.wrap f.At,IntKind.u8.wrap f.Way]++Ki f.Cols++IntKind.u8.wrap (f.Nodes.length:Int)::f.Nodes.flatMap te
def R1(p:dn):List Int:=IntKind.u8.wrap (p.Frags.length:Int)::p.Frags.flatMap Ma
structure KA(e:bv):Prop where
 len:e.Nodes.length≤100
 str: ∀n∈e.Nodes,n.Value.S.length≤100
structure Id(n:ap):Prop where
 kinds:n.Kinds.length≤20
 keys:n.Keys.length≤20
 order:n.Order.length≤20
 items:n.Items.length≤20
 aggs:n.Aggs.length≤20
 cond:KA n.Cond
 item: ∀e∈n.Items,KA e
 arg: ∀a∈n.Aggs,KA a.Arg
structure MT(f:ez):Prop where
 cols:f.Cols.length≤40
 len:f.Nodes.length≤70
 n: ∀n∈f.Nodes,Id n
structure Kz(p:dn):Prop where
 len:p.Frags.length≤40
 f: ∀f∈p.Frags,MT f
def VE(e:bv):Prop:= ∀n∈e.Nodes,n.Tag=1→jJ n.Value=true
structure VN(n:ap):Prop where
 cond:n.Op=2∨n.Op=3→VE n.Cond
 arg:n.Op=4∨n.Op=10∨n.Op=11→ ∀a∈n.Aggs,VE a.Arg
 item:n.Op=5→ ∀e∈n.Items,VE e
theorem sW{α β:Type}{f:α→List β}{k:Nat}: ∀(l:List α),(∀x∈l,(f x).length≤k)→(l.flatMap f).length≤k*l.length
 |[],_=>by simp
 |x::l,h=>by
  have h1:=h x (nf ..)
  have h2:=sW l fun y hy=>h y (oO _ hy)
  rw [Ch,lM,nT,wQ]
  omega
theorem M7(l:List Int):(rR l).length=l.length:=by simp [rR]
theorem m7(l:List Int):(Ki l).length=l.length+1:=by simp [Ki,rR]
theorem HF{n:bC}(h:n.Value.S.length≤100):(nB n).length≤118:=by
 have:=yY n.Value
 unfold nB
 split
 ·simp
 ·split
  ·simp;omega
  ·simp
theorem xD{e:bv}(h:KA e):(eB e).length≤11802:=by
 have h1:=sW (f:=nB) (k:=118) e.Nodes fun n hn=>HF (h.str n hn)
 have h2:=h.len
 unfold eB
 rw [lM,cQ]
 have:118*e.Nodes.length≤118*100:=Nat.mul_le_mul_left _ h2
 omega
theorem Jm{a:fy}(h:KA a.Arg):(Pi a).length≤11803:=by
 have:=xD h
 unfold Pi
 simp;omega
theorem O7{n:ap}(h:Id n):(Ce n).length≤236100:=by
 have h1:=xD h.cond
 have h2:=sW (f:=Pi) (k:=11803) n.Aggs fun a ha=>Jm (h.arg a ha)
 have h3:=sW (f:=eB) (k:=11802) n.Items fun a ha=>xD (h.item a ha)
 have h4:=sW (f:=R4) (k:=2) n.Order fun a ha=>by simp [R4]
 have:=h.kinds;have:=h.keys;have:=h.order;have:=h.items;have:=h.aggs
 unfold Ce
 split
 ·rw [nT,m7];omega
 ·split
  ·rw [nT];omega
  ·split
   ·omega
   ·split
    ·rw [lM,m7,nT];omega
    ·split
     ·rw [nT];omega
     ·split
      ·rw [nT,lM,Ga,cQ];omega
      ·simp
theorem Bn{n:ap}(h:Id n):(te n).length≤236101:=by
 have:=O7 h
 unfold te
 simp;omega
theorem Em{f:ez}(h:MT f):(Ma f).length≤16527200:=by
 have h1:=sW (f:=te) (k:=236101) f.Nodes fun n hn=>Bn (h.n n hn)
 have:=h.cols;have:=h.len
 unfold Ma
 rw [lM,lM,m7,nT]
 simp only [nT,ua]
 omega
theorem Eb{p:dn}(h:Kz p):(R1 p).length≤661088001:=by
 have h1:=sW (f:=Ma) (k:=16527200) p.Frags fun f hf=>Em (h.f f hf)
 have:=h.len
 unfold R1
 rw [nT]
 omega
theorem Ji(l:List Int):xF (rR l):=by
 induction l with
 |nil=>exact oW
 |cons x l ih=>exact gT ih
theorem qZ{α:Type}{f:α→List Int}: ∀(l:List α),(∀x∈l,xF (f x))→xF (l.flatMap f)
 |[],_=>oW
 |x::l,h=>by
  rw [Ch]
  exact ii (h x (nf ..)) (qZ l fun y hy=>h y (oO _ hy))
theorem EG(b:Bool){l:List Int}(h:xF l):xF (fB b::l):=fun x hx=>by
 rcases jW.1 hx with rfl|hx
 ·cases b
  ·exact⟨0,by omega,rfl⟩
  ·exact⟨1,by omega,rfl⟩
 ·exact h x hx
theorem EF(l:List Int):xF (Ki l):=gT (Ji l)
theorem RT(n:bC):xF (nB n):=by
 unfold nB
 refine gT ?_
 split
 ·exact AH _
 ·split
  ·exact MH _
  ·exact oW
theorem EH(e:bv):xF (eB e):=ii (iJ _ _) (qZ _ fun n _=>RT n)
theorem Pg(a:fy):xF (Pi a):=gT (EH _)
theorem Pf(n:ap):xF (Ce n):=by
 unfold Ce
 split
 ·exact gT (EF _)
 ·split
  ·exact EG _ (EH _)
  ·split
   ·exact EH _
   ·split
    ·exact ii (EF _) (gT (qZ _ fun a _=>Pg a))
    ·split
     ·exact gT (qZ _ fun a _=>EH a)
     ·split
      ·exact gT (ii (qZ _ fun a _=>gT (EG _ oW)) (iJ _ _))
      ·exact oW
theorem Pe(f:ez):xF (Ma f):=ii (ii (gT (gT oW)) (EF _)) (gT (qZ _ fun n _=>gT (Pf n)))
theorem Pb(p:dn):xF (R1 p):=gT (qZ _ fun f _=>Pe f)
abbrev W0(b:List Int):aI:=⟨b⟩
theorem wZ: ∀(l b:List Int),b.length+l.length≤60000000000→fG l (W0 b)=some (W0 (b++rR l))
 |[],b,_=>by unfold fG;simp [rR]
 |x::l,b,h=>by
  simp only [nT]at h
  unfold fG
  show((gn b [IntKind.u8.wrap x]).bind _)=_
  rw [bH (by simp;omega),bj]
  show fG l (W0 (b++[IntKind.u8.wrap x]))=_
  rw [wZ l _ (by simp;omega),nh]
  rfl
theorem lr(b l:List Int)(h:b.length+l.length≤60000000000):bZ (W0 b) l=some (W0 (b++rR l)):=wZ l b h
theorem Le(b l:List Int)(h:b.length+l.length≤50000000000):js (W0 b) l=some (W0 (b++Ki l)):=by
 unfold js
 rw [lr b [(l.length:Int)] (by simp;omega),bj,lr _ l (by simp [rR];omega),bj,nh]
 rfl
theorem Pq(b:List Int)(n:ap)(h:b.length+n.Kinds.length≤40000000000):fc (W0 b) n=some (W0 (b++IntKind.u8.wrap n.Table::Ki n.Kinds)):=by
 unfold fc
 rw [lr b _ (by simp;omega),bj,Le _ _ (by simp [rR];omega),bj,nh]
 rfl
theorem Iu(b:List Int)(x:Bool)(h:b.length≤50000000000):gw (W0 b) x=some (W0 (b++[fB x])):=by
 unfold gw kQ
 cases x
 ·rw [aW (by simp),lr b _ (by simp;omega),bj];rfl
 ·rw [bq rfl,lr b _ (by simp;omega),bj];rfl
theorem Fh: ∀(l:List bC) (b:List Int),(∀n∈l,n.Value.S.length≤100)→(∀n∈l,n.Tag=1→jJ n.Value=true)→b.length+118*l.length≤50000000000→dZ l (W0 b)=some (W0 (b++l.flatMap nB))
 |[],b,_,_,_=>by unfold dZ;simp
 |n::l,b,hs,hv,h=>by
  have ih:=fun b hb=>Fh l b (fun m hm=>hs m (oO _ hm)) (fun m hm=>hv m (oO _ hm)) hb
  have hn:=hs n (nf ..)
  have hnv:=hv n (nf ..)
  have hln:=HF hn
  simp only [nT,wQ]at h
  have key: ∀t:List Int,IntKind.u8.wrap n.Tag::t=nB n→dZ l (W0 ((b++rR [n.Tag])++t))=some (W0 (b++(n::l).flatMap nB)):=fun t ht=>by
   rw [nh,show rR [n.Tag]++t=nB n from ht,ih _ (by simp;omega),nh,Ch]
  unfold dZ
  rw [lr b _ (by simp;omega),bj]
  by_cases h2:n.Tag=2
  ·rw [bq (by simp [h2]),lr _ _ (by simp [rR];omega),bj]
   exact key _ (by unfold nB;rw [bq h2];rfl)
  ·rw [aW (by simpa using h2)]
   by_cases h1:n.Tag=1
   ·have hvl:=yY n.Value
    rw [bq (by simp [h1]),v8 _ (by omega),bq (hnv h1),bj]
    show((gn (b++rR [n.Tag]) (vB n.Value)).bind _)=_
    rw [bH (by simp [rR];omega),bj]
    exact key _ (by unfold nB;rw [aW h2,bq h1])
   ·rw [aW (by simpa using h1)]
    have:=key [] (by unfold nB;rw [aW h2,aW h1])
    rwa [t8]at this
theorem Pu{n:Nat}(h:n≤60000):IntKind.u64.wrap (IntKind.u16.wrap (n:Int))=(n:Int):=by rw [IntKind.wrap_u16,xO];omega
theorem Iv(b:List Int)(e:bv)(hs:KA e)(hv:VE e)(h:b.length≤40000000000):ia (W0 b) e=some (W0 (b++eB e)):=by
 have:=hs.len
 unfold ia
 show((pi b _).bind _)=_
 rw [vN b _ (by omega),bj,Pu (by omega)]
 show dZ e.Nodes (W0 _)=_
 rw [Fh e.Nodes _ hs.str hv (by simp [cQ];omega),nh]
 rfl
theorem CU: ∀(l:List fy) (b:List Int),(∀a∈l,KA a.Arg)→(∀a∈l,VE a.Arg)→b.length+11803*l.length≤30000000000→gz l (W0 b)=some (W0 (b++l.flatMap Pi))
 |[],b,_,_,_=>by unfold gz;simp
 |a::l,b,hs,hv,h=>by
  have hl:=Jm (hs a (nf ..))
  simp only [nT,wQ]at h
  unfold gz
  rw [lr b _ (by simp;omega),bj,Iv _ a.Arg (hs a (nf ..)) (hv a (nf ..)) (by simp [rR];omega),bj,nh]
  rw [show rR [a.Tag]++eB a.Arg=Pi a from rfl,CU l _ (fun m hm=>hs m (oO _ hm)) (fun m hm=>hv m (oO _ hm)) (by simp;omega),nh,Ch]
theorem Qg(b:List Int)(n:ap)(hs:Id n)(hv: ∀a∈n.Aggs,VE a.Arg)(h:b.length≤20000000000):ed (W0 b) n=some (W0 (b++(Ki n.Keys++IntKind.u8.wrap (n.Aggs.length:Int)::n.Aggs.flatMap Pi))):=by
 have:=hs.keys;have:=hs.aggs
 unfold ed
 rw [Le b _ (by omega),bj,lr _ _ (by simp [m7];omega),bj,CU n.Aggs _ hs.arg hv (by simp [m7,rR];omega),nh,nh]
 rfl
theorem zJ: ∀(l:List bv) (b:List Int),(∀a∈l,KA a)→(∀a∈l,VE a)→b.length+11802*l.length≤30000000000→fP l (W0 b)=some (W0 (b++l.flatMap eB))
 |[],b,_,_,_=>by unfold fP;simp
 |a::l,b,hs,hv,h=>by
  have hl:=xD (hs a (nf ..))
  simp only [nT,wQ]at h
  unfold fP
  rw [Iv _ a (hs a (nf ..)) (hv a (nf ..)) (by omega),bj]
  rw [zJ l _ (fun m hm=>hs m (oO _ hm)) (fun m hm=>hv m (oO _ hm)) (by simp;omega),nh,Ch]
theorem Lc(b:List Int)(n:ap)(hs:Id n)(hv: ∀a∈n.Items,VE a)(h:b.length≤20000000000):fY (W0 b) n=some (W0 (b++IntKind.u8.wrap (n.Items.length:Int)::n.Items.flatMap eB)):=by
 have:=hs.items
 unfold fY
 rw [lr _ _ (by simp;omega),bj,zJ n.Items _ hs.item hv (by simp [rR];omega),nh]
 rfl
theorem LN(n:ap):gb (IntKind.u64.wrap (IntKind.u32.wrap (IntKind.i64.wrap (n.Limit+1)))) 4=Ga n:=by
 unfold Ga
 generalize IntKind.i64.wrap (n.Limit+1)=x
 obtain⟨m,_,hm⟩:=Ar (IntKind.u32.wrap x)
 obtain⟨k,_,hk⟩:=Ar x
 rw [hm,hk,sm,sm]
 refine yH 4 ?_
 rw [xO,IntKind.wrap_u32]at hm
 rw [xO]at hk
 show m%4294967296=k%4294967296
 omega
theorem CT(n:ap): ∀(l:List kq) (b:List Int),b.length+2*l.length≤30000000000→gy n l (W0 b)=some (W0 (b++(l.flatMap R4++Ga n)))
 |[],b,h=>by
  unfold gy
  show((lS b _).bind _)=_
  rw [vM b _ (by simp at h;omega),bj,LN]
  rfl
 |o::l,b,h=>by
  simp only [nT]at h
  unfold gy
  rw [lr b _ (by simp;omega),bj,Iu _ _ (by simp [rR];omega),bj,CT n l _ (by simp [rR];omega),nh,nh]
  rfl
theorem Qe(b:List Int)(n:ap)(hs:Id n)(h:b.length≤20000000000):gM (W0 b) n=some (W0 (b++IntKind.u8.wrap (n.Order.length:Int)::(n.Order.flatMap R4++Ga n))):=by
 have:=hs.order
 unfold gM
 rw [lr _ _ (by simp;omega),bj,CT n n.Order _ (by simp [rR];omega),nh]
 rfl
theorem SJ{β:Type}(f1 f9 f2 f3 f4 f10 f11 f5 f8:β)(k:Int):tg (gi (gi (gi (gi (gi (gi (gi (gi (gi ([]:List (Int×β)) 1 f1) 9 f9) 2 f2) 3 f3) 4 f4) 10 f10) 11 f11) 5 f5) 8 f8) k=
  if k=1 then some f1 else if k=9 then some f9 else if k=2 then some f2 else if k=3 then some f3 else if k=4 then some f4 else if k=10 then some f10 else if k=11 then some f11 else if k=5 then some f5 else if k=8 then some f8 else none:=by
 have e:gi (gi (gi (gi (gi (gi (gi (gi (gi ([]:List (Int×β)) 1 f1) 9 f9) 2 f2) 3 f3) 4 f4) 10 f10) 11 f11) 5 f5) 8 f8=[(1,f1),(9,f9),(2,f2),(3,f3),(4,f4),(10,f10),(11,f11),(5,f5),(8,f8)]:=rfl
 rw [e]
 simp only [tg,eq_comm (b:=k)]
theorem map_some{α β:Type}{x:Option α}{y:α}(h:x=some y)(f:α→β):x.map f=some (f y):=by rw [h];rfl
theorem Fc(nx:aI→Option aI): ∀(l:List ap) (b:List Int),(∀n∈l,Id n)→(∀n∈l,VN n)→b.length+236101*l.length≤15000000000→ew nx l (W0 b)=nx (W0 (b++l.flatMap te))
 |[],b,_,_,_=>by unfold ew;simp
 |n::l,b,hs,hv,h=>by
  have ih:=fun b hb=>Fc nx l b (fun m hm=>hs m (oO _ hm)) (fun m hm=>hv m (oO _ hm)) hb
  have hn:=hs n (nf ..)
  have hnv:=hv n (nf ..)
  have hln:=Bn hn
  have hkinds:=hn.kinds
  simp only [nT,wQ]at h
  have hb0:(b++rR [n.Op]).length=b.length+1:=by simp [rR]
  have key: ∀t:List Int,t=Ce n→ew nx l (W0 ((b++rR [n.Op])++t))=nx (W0 (b++(n::l).flatMap te)):=fun t ht=>by
   subst ht
   rw [nh,show rR [n.Op]++Ce n=te n from rfl,ih _ (by simp;omega),nh,Ch]
  unfold ew
  rw [lr b _ (by simp;omega),bj,SJ]
  generalize hc:b++rR [n.Op]=c at hb0 key ⊢
  by_cases h1:n.Op=1
  ·rw [bq h1,bq (by rfl)]
   show(((fc (W0 c) n).map _).bind _)=_
   rw [map_some (Pq c n (by omega)),bj]
   exact key _ (by unfold Ce;rw [bq (.inl h1)])
  by_cases h9:n.Op=9
  ·rw [aW h1,bq h9,bq (by rfl)]
   show(((fc (W0 c) n).map _).bind _)=_
   rw [map_some (Pq c n (by omega)),bj]
   exact key _ (by unfold Ce;rw [bq (.inr h9)])
  have h19: ¬(n.Op=1∨n.Op=9):=by omega
  by_cases h2:n.Op=2
  ·rw [aW h1,aW h9,bq h2,bq (by rfl)]
   show(((hZ (W0 c) n).map _).bind _)=_
   have hj:hZ (W0 c) n=some (W0 (c++fB n.Left::eB n.Cond)):=by
    unfold hZ
    rw [Iu c _ (by omega),bj,Iv _ _ hn.cond (hnv.cond (.inl h2)) (by simp;omega),bj,nh];rfl
   rw [map_some hj,bj]
   exact key _ (by unfold Ce;rw [aW h19,bq h2])
  by_cases h3:n.Op=3
  ·rw [aW h1,aW h9,aW h2,bq h3,bq (by rfl)]
   show(((gp (W0 c) n).map _).bind _)=_
   have hj:gp (W0 c) n=some (W0 (c++eB n.Cond)):=by
    unfold gp
    rw [Iv _ _ hn.cond (hnv.cond (.inr h3)) (by omega),bj]
   rw [map_some hj,bj]
   exact key _ (by unfold Ce;rw [aW h19,aW h2,bq h3])
  have hg:(n.Op=4∨n.Op=10∨n.Op=11)→((ed (W0 c) n).map fun mr=>((),mr)).bind (fun r5=>(ew nx l) r5.2)=nx (W0 (b++(n::l).flatMap te)):=fun hg=>by
   rw [map_some (Qg c n hn (hnv.arg hg) (by omega)),bj]
   exact key _ (by unfold Ce;rw [aW h19,aW h2,aW h3,bq hg])
  by_cases h4:n.Op=4
  ·rw [aW h1,aW h9,aW h2,aW h3,bq h4,bq (by rfl)]
   exact hg (.inl h4)
  by_cases h10:n.Op=10
  ·rw [aW h1,aW h9,aW h2,aW h3,aW h4,bq h10,bq (by rfl)]
   exact hg (.inr (.inl h10))
  by_cases h11:n.Op=11
  ·rw [aW h1,aW h9,aW h2,aW h3,aW h4,aW h10,bq h11,bq (by rfl)]
   exact hg (.inr (.inr h11))
  have h4n: ¬(n.Op=4∨n.Op=10∨n.Op=11):=by omega
  by_cases h5:n.Op=5
  ·rw [aW h1,aW h9,aW h2,aW h3,aW h4,aW h10,aW h11,bq h5,bq (by rfl)]
   show(((fY (W0 c) n).map _).bind _)=_
   rw [map_some (Lc c n hn (hnv.item h5) (by omega)),bj]
   exact key _ (by unfold Ce;rw [aW h19,aW h2,aW h3,aW h4n,bq h5])
  by_cases h8:n.Op=8
  ·rw [aW h1,aW h9,aW h2,aW h3,aW h4,aW h10,aW h11,aW h5,bq h8,bq (by rfl)]
   show(((gM (W0 c) n).map _).bind _)=_
   rw [map_some (Qe c n hn (by omega)),bj]
   exact key _ (by unfold Ce;rw [aW h19,aW h2,aW h3,aW h4n,aW h5,bq h8])
  ·rw [aW h1,aW h9,aW h2,aW h3,aW h4,aW h10,aW h11,aW h5,aW h8,aW (by simp)]
   have:=key [] (by unfold Ce;rw [aW h19,aW h2,aW h3,aW h4n,aW h5,aW h8])
   rwa [t8]at this
theorem Fe: ∀(l:List ez) (b:List Int),(∀f∈l,MT f)→(∀f∈l,∀n∈f.Nodes,VN n)→b.length+16527200*l.length≤10000000000→fZ l (W0 b)=some (W0 (b++l.flatMap Ma))
 |[],b,_,_,_=>by unfold fZ;simp
 |f::l,b,hs,hv,h=>by
  have hf:=hs f (nf ..)
  have hfl:=Em hf
  have h1:=hf.cols;have h2:=hf.len
  simp only [nT,wQ]at h
  unfold fZ
  rw [lr b _ (by simp;omega),bj,Le _ _ (by simp [rR];omega),bj,lr _ _ (by simp [rR,m7];omega),bj,Fc _ f.Nodes _ hf.n (hv f (nf ..)) (by simp [rR,m7];omega)]
  rw [show((b++rR [f.At,f.Way])++Ki f.Cols++rR [(f.Nodes.length:Int)])++f.Nodes.flatMap te=b++Ma f by simp [Ma,rR]]
  rw [Fe l _ (fun m hm=>hs m (oO _ hm)) (fun m hm=>hv m (oO _ hm)) (by simp;omega),nh,Ch]
theorem Sa(b:List Int)(p:dn)(hs:Kz p)(hv: ∀f∈p.Frags,∀n∈f.Nodes,VN n)(h:b.length≤1000000000):m9 (W0 b) p=some (W0 (b++R1 p)):=by
 have:=hs.len
 unfold m9
 rw [lr _ _ (by simp;omega),bj,Fe p.Frags _ hs.f hv (by simp [rR];omega),nh]
 rfl
end Go.Proofs.YtdohlidddcgfjaaGreat

