/- cF of this claim: Y3. -/
import Derived.Test.YtmogpgcfognefaaGreatDoorNbY2
set_option linter.all false
namespace Go.Proofs.YtmogpgcfognefaaGreatDoor
open Go

structure J7(ns:List aB)(K:List (List Int)):Prop where
 len:K.length=ns.length
 at_: ∀j,j<ns.length→xk ns K j
structure nj(ns:List aB):Prop where
 len:ns.length≤90
 n: ∀n∈ns,xN n
theorem vB: ∀(K out:List (List Int)),(∀k∈K,k.length≤100)→out.length+K.length≤1000→kl K out=some (out++K,0,0)
 |[],out,_,_=>by unfold kl;rw [zJ]
 |k::tl,out,hk,hl=>by
  unfold kl
  rw [n5 k (by have:=hk k (lI ..);omega),ce,gF (by simp at hl ⊢;omega),ce,vB tl _ (fun x hx=>hk x (lC _ hx)) (by simp at hl ⊢;omega)]
  simp
theorem uk(l:af){w:Int}(h:0≤w):km l w=some ([],w,291):=by
 unfold km
 rw [df (by simpa using h)]
def Cn(ns:List aB)(r:Option (List (List Int)×Int×Int)):Prop:= ∃out w e,r=some (out,w,e)∧((e=0∧w=0∧J7 ns out∧1≤ns.length∧ns.length≤60)∨(e=291∧out=[]))
theorem vA{ns:List aB}(hs:nj ns)(h1:1≤ns.length)(h60:ns.length≤60): ∀(tl:List aB) (i:Nat) (l:af),ns.drop i=tl→Gg ns l i→Cn ns (kj ns ((pw).getD []) tl i (-1) l)
 |[],i,l,hd,h=>by
  have hlen:ns.length≤i:=rf hd
  have hi:i=ns.length:=by
   rcases jO ns.length i with hlt|hge
   ·obtain⟨n,_,hn,_⟩:=h.ok ns.length hlt
    rw [Cz (fL _)]at hn
    cases hn
   ·omega
  unfold kj lz
  by_cases hc:((decide ((-1:Int)<(0:Int)))&&((l.open_.length:Int) !=(1:Int)))=true
  ·rw [df hc,j9 (by omega) (by omega),uk l (by omega)]
   exact⟨_,_,_,rfl,.inr ⟨rfl,rfl⟩⟩
  ·rw [dh hc]
   unfold km
   rw [dh (by decide),vB l.kinds [] (fun k hk=>by have:=h.kinds k hk;omega) (by have:=h.len;simp;omega),pM]
   exact⟨_,_,_,rfl,.inl ⟨rfl,rfl,⟨by rw [h.len,hi],fun j hj=>h.ok j (by omega)⟩,h1,h60⟩⟩
 |e::tl,i,l,hd,h=>by
  obtain⟨hidx,hi,hd'⟩:=rP hd
  rw [de]at hidx
  unfold kj
  obtain⟨ok,l',g1,g2,g3⟩:=GH h (by omega) (by omega) hidx (hs.n e (nM hidx))
  have g1' :kf l (i:Int) ((nW ((pw).getD []) e.Op).getD (fun _ _=>none))=some (ok,l'):=g1
  rw [g1',ce]
  cases ok with
  |false=>
   rw [df (by rfl)]
   unfold lz
   rw [dh (by simp;omega),uk l' (by omega)]
   exact⟨_,_,_,rfl,.inr ⟨rfl,rfl⟩⟩
  |true=>
   rw [dh (by simp)]
   exact vA hs h1 h60 tl (i+1) l' hd' (g3 rfl)
theorem yw{ns:List aB}(hs:nj ns):Cn ns (ox ns):=by
 unfold ox
 by_cases hc:((decide ((ns.length:Int)<(1:Int)))||(decide ((60:Int)<(ns.length:Int))))=true
 ·rw [df hc]
  exact⟨_,_,_,rfl,.inr ⟨rfl,rfl⟩⟩
 ·rw [dh hc]
  simp at hc
  exact vA hs (by omega) (by omega) ns 0 _ rfl ⟨rfl,rfl,fun p hp=>(by cases hp),fL _,fun k hk=>(by cases hk),fun j hj=>by omega⟩
theorem J7.leaf{ns:List aB}{K:List (List Int)}(h:J7 ns K)(h1:1≤ns.length): ∃n,ns[0]? =some n∧(n.Op=1∨(n.Op=9∧0≤n.Table)):=by
 obtain⟨n,R,g1,g2,g3,g4,g5,_⟩:=h.at_ 0 (by omega)
 refine⟨n,g1,?_⟩
 have h0:s4 n.Op=0:=by
  rcases g4 with h|h|h
  ·exact h.1
  ·omega
  ·omega
 unfold s4 at h0
 split at h0
 ·rename_i ho
  rcases ho with ho|ho
  ·exact .inl ho
  ·exact .inr ⟨ho,(g5.2.1 ho).2.1⟩
 ·split at h0
  ·omega
  ·split at h0<;>omega
theorem J7.root{ns:List aB}{K:List (List Int)}(h:J7 ns K)(h1:1≤ns.length)(h2:ns.length≤1000): ∃R,fe K (IntKind.i64.wrap ((K.length:Int)-1))=some R∧K[ns.length-1]? =some R∧R.length≤16:=by
 obtain⟨n,R,g1,g2,g3,_⟩:=h.at_ (ns.length-1) (by omega)
 refine⟨R,?_,g2,g3⟩
 rw [h.len,j9 (by omega) (by omega),jg (ns.length-1) (by omega),g2]
def Ij(from1:Int)(i:Nat):List aB→Nat→List (Int×Int)
 |[],_=>[]
 |n::tl,k=>if(n.Op==(9:Int))&&(n.Table==from1)then((i:Int),(k:Int))::Ij from1 i tl (k+1)else Ij from1 i tl (k+1)
def Ac(from1:Int):List cU→Nat→List (Int×Int)
 |[],_=>[]
 |f::tl,i=>Ij from1 i f.Nodes 0++Ac from1 tl (i+1)
def wR{Sg:Type}(yld:(Int×Int)→Sg→Option (Bool×Sg)):List (Int×Int)→Sg→(Sg→Option Sg)→Option Sg
 |[],s,k=>k s
 |x::tl,s,k=>(yld x s).bind fun r=>if(!r.1)then some r.2 else wR yld tl r.2 k
theorem vi{Sg:Type}(yld:(Int×Int)→Sg→Option (Bool×Sg))(b:List (Int×Int))(k:Sg→Option Sg): ∀(a:List (Int×Int)) (s:Sg),wR yld (a++b) s k=wR yld a s (fun s=>wR yld b s k)
 |[],_=>rfl
 |x::tl,s=>by
  show(yld x s).bind _=(yld x s).bind _
  congr 1
  funext r
  show(if _ then _ else wR yld (tl++b) r.2 k)=_
  rw [vi yld b k tl]
theorem p9{Sg:Type}(from1:Int)(yld:(Int×Int)→Sg→Option (Bool×Sg))(nx:Nat→Sg→Option Sg)(i:Nat): ∀(ns:List aB) (k:Nat) (s:Sg),ic from1 yld nx i ns k s=wR yld (Ij from1 i ns k) s (nx (i+1))
 |[],k,s=>rfl
 |n::tl,k,s=>by
  unfold ic Ij
  by_cases h:((n.Op==(9:Int))&&(n.Table==from1))=true
  ·rw [df h,df h]
   show _=(yld _ s).bind _
   congr 1
   funext r
   rw [p9 from1 yld nx i tl (k+1)]
  ·rw [dh h,dh h]
   exact p9 from1 yld nx i tl (k+1) s
theorem tJ{Sg:Type}(from1:Int)(yld:(Int×Int)→Sg→Option (Bool×Sg)): ∀(fs:List cU) (i:Nat) (s:Sg),ie from1 yld fs i s=wR yld (Ac from1 fs i) s some
 |[],i,s=>rfl
 |f::tl,i,s=>by
  unfold ie Ac
  rw [p9,vi]
  congr 1
  funext s'
  exact tJ from1 yld tl (i+1) s'
theorem za(p:eM)(from1:Int):nu p from1=some (fun _ yld s=>wR yld (Ac from1 p.Frags 0) s some):=by
 unfold nu
 congr 1
 funext Sg yld s
 exact tJ from1 yld p.Frags 0 s
theorem Am{from1:Int}{i:Nat}{x:Int×Int}: ∀{ns:List aB} {k:Nat},x∈Ij from1 i ns k→ ∃j n,ns[j]? =some n∧x=((i:Int),((k+j:Nat):Int))∧n.Op=9∧n.Table=from1
 |[],_,h=>by cases h
 |n::tl,k,h=>by
  unfold Ij at h
  by_cases hc:((n.Op==(9:Int))&&(n.Table==from1))=true
  ·rw [df hc]at h
   simp only [iN,u4]at hc
   rcases gW.1 h with rfl|h
   ·exact⟨0,n,rfl,rfl,hc⟩
   ·obtain⟨j,m,g1,g2,g3⟩:=Am h
    exact⟨j+1,m,by simpa using g1,by rw [g2];congr 2;omega,g3⟩
  ·rw [dh hc]at h
   obtain⟨j,m,g1,g2,g3⟩:=Am h
   exact⟨j+1,m,by simpa using g1,by rw [g2];congr 2;omega,g3⟩
theorem Ej{from1:Int}{x:Int×Int}: ∀{fs:List cU} {i:Nat},x∈Ac from1 fs i→ ∃a f j n,fs[a]? =some f∧f.Nodes[j]? =some n∧x=(((i+a:Nat):Int),((j:Nat):Int))∧n.Op=9∧n.Table=from1
 |[],_,h=>by cases h
 |f::tl,i,h=>by
  unfold Ac at h
  rcases yd.1 h with h|h
  ·obtain⟨j,n,g1,g2,g3⟩:=Am h
   exact⟨0,f,j,n,rfl,g1,by rw [g2];simp,g3⟩
  ·obtain⟨a,f',j,n,g0,g1,g2,g3⟩:=Ej h
   exact⟨a+1,f',j,n,by simpa using g0,g1,by rw [g2];congr 2;omega,g3⟩
theorem D8{from1:Int}{i:Nat}: ∀(ns:List aB) (k:Nat),(Ij from1 i ns k).length≤ns.length
 |[],_=>fL _
 |n::tl,k=>by
  unfold Ij
  have:=D8 (from1:=from1) (i:=i) tl (k+1)
  split<;>simp<;>omega
theorem D9{from1:Int}{m:Nat}: ∀(fs:List cU) (i:Nat),(∀f∈fs,f.Nodes.length≤m)→(Ac from1 fs i).length≤fs.length*m
 |[],_,_=>by simp [Ac]
 |f::tl,i,h=>by
  unfold Ac
  have h1:=D9 (from1:=from1) (m:=m) tl (i+1) (fun x hx=>h x (lC _ hx))
  have h2:=D8 (from1:=from1) (i:=i) f.Nodes 0
  have h3:=h f (lI ..)
  simp only [kH,mN]
  rw [qD]
  omega
theorem F9(p:eM)(from1:Int):ny p from1=some (match Ac from1 p.Frags 0 with|[]=>(0,0,false)|x::_=>(x.1,x.2,true)):=by
 unfold ny
 rw [za,ce]
 cases Ac from1 p.Frags 0 with
 |nil=>rfl
 |cons x tl=>rfl
end Go.Proofs.YtmogpgcfognefaaGreatDoor

