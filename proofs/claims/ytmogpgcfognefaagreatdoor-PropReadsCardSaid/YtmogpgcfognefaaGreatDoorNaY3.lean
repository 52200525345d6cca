/- cG of this claim: Y3. -/
import Derived.Test.YtmogpgcfognefaaGreatDoorNaY2
set_option linter.all false
namespace Go.Proofs.YtmogpgcfognefaaGreatDoor
open Go

structure OW(ns:List aF)(K:List (List Int)):Prop where
 len:K.length=ns.length
 at_: ∀j,j<ns.length→xD ns K j
structure nu(ns:List aF):Prop where
 len:ns.length≤90
 n: ∀n∈ns,yf n
theorem vQ: ∀(K out:List (List Int)),(∀k∈K,k.length≤100)→out.length+K.length≤1000→ko K out=some (out++K,0,0)
 |[],out,_,_=>by unfold ko;rw [Aa]
 |k::tl,out,hk,hl=>by
  unfold ko
  rw [oa k (by have:=hk k (lI ..);omega),cn,gT (by simp at hl ⊢;omega),cn,vQ tl _ (fun x hx=>hk x (ly _ hx)) (by simp at hl ⊢;omega)]
  simp
theorem uq(l:af){w:Int}(h:0≤w):kp l w=some ([],w,291):=by
 unfold kp
 rw [dq (by simpa using h)]
def CE(ns:List aF)(r:Option (List (List Int)×Int×Int)):Prop:= ∃out w e,r=some (out,w,e)∧((e=0∧w=0∧OW ns out∧1≤ns.length∧ns.length≤60)∨(e=291∧out=[]))
theorem vP{ns:List aF}(hs:nu ns)(h1:1≤ns.length)(h60:ns.length≤60): ∀(tl:List aF) (i:Nat) (l:af),ns.drop i=tl→GB ns l i→CE ns (km ns ((pA).getD []) tl i (-1) l)
 |[],i,l,hd,h=>by
  have hlen:ns.length≤i:=ub hd
  have hi:i=ns.length:=by
   rcases jP ns.length i with hlt|hge
   ·obtain⟨n,_,hn,_⟩:=h.ok ns.length hlt
    rw [CT (fQ _)]at hn
    cases hn
   ·omega
  unfold km lD
  by_cases hc:((decide ((-1:Int)<(0:Int)))&&((l.open_.length:Int) !=(1:Int)))=true
  ·rw [dq hc,kF (by omega) (by omega),uq l (by omega)]
   exact⟨_,_,_,rfl,.inr ⟨rfl,rfl⟩⟩
  ·rw [di hc]
   unfold kp
   rw [di (by decide),vQ l.kinds [] (fun k hk=>by have:=h.kinds k hk;omega) (by have:=h.len;simp;omega),pQ]
   exact⟨_,_,_,rfl,.inl ⟨rfl,rfl,⟨by rw [h.len,hi],fun j hj=>h.ok j (by omega)⟩,h1,h60⟩⟩
 |e::tl,i,l,hd,h=>by
  obtain⟨hidx,hi,hd'⟩:=rM hd
  rw [c8]at hidx
  unfold km
  obtain⟨ok,l',g1,g2,g3⟩:=G1 h (by omega) (by omega) hidx (hs.n e (nV hidx))
  have g1' :kh l (i:Int) ((kE ((pA).getD []) e.Op).getD (fun _ _=>none))=some (ok,l'):=g1
  rw [g1',cn]
  cases ok with
  |false=>
   rw [dq (by rfl)]
   unfold lD
   rw [di (by simp;omega),uq l' (by omega)]
   exact⟨_,_,_,rfl,.inr ⟨rfl,rfl⟩⟩
  |true=>
   rw [di (by simp)]
   exact vP hs h1 h60 tl (i+1) l' hd' (g3 rfl)
theorem yN{ns:List aF}(hs:nu ns):CE ns (lT ns):=by
 unfold lT
 by_cases hc:((decide ((ns.length:Int)<(1:Int)))||(decide ((60:Int)<(ns.length:Int))))=true
 ·rw [dq hc]
  exact⟨_,_,_,rfl,.inr ⟨rfl,rfl⟩⟩
 ·rw [di hc]
  simp at hc
  exact vP hs (by omega) (by omega) ns 0 _ rfl ⟨rfl,rfl,fun p hp=>(by cases hp),fQ _,fun k hk=>(by cases hk),fun j hj=>by omega⟩
theorem OW.root{ns:List aF}{K:List (List Int)}(h:OW ns K)(h1:1≤ns.length)(h2:ns.length≤1000): ∃R,eZ K (IntKind.i64.wrap ((K.length:Int)-1))=some R∧K[ns.length-1]? =some R∧R.length≤16:=by
 obtain⟨n,R,g1,g2,g3,_⟩:=h.at_ (ns.length-1) (by omega)
 refine⟨R,?_,g2,g3⟩
 rw [h.len,kF (by omega) (by omega),kY (ns.length-1) (by omega),g2]
def IF(from1:Int)(i:Nat):List aF→Nat→List (Int×Int)
 |[],_=>[]
 |n::tl,k=>if(n.Op==(9:Int))&&(n.Table==from1)then((i:Int),(k:Int))::IF from1 i tl (k+1)else IF from1 i tl (k+1)
def yK(from1:Int):List cT→Nat→List (Int×Int)
 |[],_=>[]
 |f::tl,i=>IF from1 i f.Nodes 0++yK from1 tl (i+1)
def xf{Sg:Type}(yld:(Int×Int)→Sg→Option (Bool×Sg)):List (Int×Int)→Sg→(Sg→Option Sg)→Option Sg
 |[],s,k=>k s
 |x::tl,s,k=>(yld x s).bind fun r=>if(!r.1)then some r.2 else xf yld tl r.2 k
theorem vt{Sg:Type}(yld:(Int×Int)→Sg→Option (Bool×Sg))(b:List (Int×Int))(k:Sg→Option Sg): ∀(a:List (Int×Int)) (s:Sg),xf yld (a++b) s k=xf yld a s (fun s=>xf yld b s k)
 |[],_=>rfl
 |x::tl,s=>by
  show(yld x s).bind _=(yld x s).bind _
  congr 1
  funext r
  show(if _ then _ else xf yld (tl++b) r.2 k)=_
  rw [vt yld b k tl]
theorem p8{Sg:Type}(from1:Int)(yld:(Int×Int)→Sg→Option (Bool×Sg))(nx:Nat→Sg→Option Sg)(i:Nat): ∀(ns:List aF) (k:Nat) (s:Sg),ic from1 yld nx i ns k s=xf yld (IF from1 i ns k) s (nx (i+1))
 |[],k,s=>rfl
 |n::tl,k,s=>by
  unfold ic IF
  by_cases h:((n.Op==(9:Int))&&(n.Table==from1))=true
  ·rw [dq h,dq h]
   show _=(yld _ s).bind _
   congr 1
   funext r
   rw [p8 from1 yld nx i tl (k+1)]
  ·rw [di h,di h]
   exact p8 from1 yld nx i tl (k+1) s
theorem tM{Sg:Type}(from1:Int)(yld:(Int×Int)→Sg→Option (Bool×Sg)): ∀(fs:List cT) (i:Nat) (s:Sg),ie from1 yld fs i s=xf yld (yK from1 fs i) s some
 |[],i,s=>rfl
 |f::tl,i,s=>by
  unfold ie yK
  rw [p8,vt]
  congr 1
  funext s'
  exact tM from1 yld tl (i+1) s'
theorem zw(p:cZ)(from1:Int):nB p from1=some (fun _ yld s=>xf yld (yK from1 p.Frags 0) s some):=by
 unfold nB
 congr 1
 funext Sg yld s
 exact tM from1 yld p.Frags 0 s
theorem AH{from1:Int}{i:Nat}{x:Int×Int}: ∀{ns:List aF} {k:Nat},x∈IF from1 i ns k→ ∃j n,ns[j]? =some n∧x=((i:Int),((k+j:Nat):Int))∧n.Op=9∧n.Table=from1
 |[],_,h=>by cases h
 |n::tl,k,h=>by
  unfold IF at h
  by_cases hc:((n.Op==(9:Int))&&(n.Table==from1))=true
  ·rw [dq hc]at h
   simp only [iP,ve]at hc
   rcases ia.1 h with rfl|h
   ·exact⟨0,n,rfl,rfl,hc⟩
   ·obtain⟨j,m,g1,g2,g3⟩:=AH h
    exact⟨j+1,m,by simpa using g1,by rw [g2];congr 2;omega,g3⟩
  ·rw [di hc]at h
   obtain⟨j,m,g1,g2,g3⟩:=AH h
   exact⟨j+1,m,by simpa using g1,by rw [g2];congr 2;omega,g3⟩
theorem wv{from1:Int}{x:Int×Int}: ∀{fs:List cT} {i:Nat},x∈yK from1 fs i→ ∃a f j n,fs[a]? =some f∧f.Nodes[j]? =some n∧x=(((i+a:Nat):Int),((j:Nat):Int))∧n.Op=9∧n.Table=from1
 |[],_,h=>by cases h
 |f::tl,i,h=>by
  unfold yK at h
  rcases yy.1 h with h|h
  ·obtain⟨j,n,g1,g2,g3⟩:=AH h
   exact⟨0,f,j,n,rfl,g1,by rw [g2];simp,g3⟩
  ·obtain⟨a,f',j,n,g0,g1,g2,g3⟩:=wv h
   exact⟨a+1,f',j,n,by simpa using g0,g1,by rw [g2];congr 2;omega,g3⟩
theorem Em{from1:Int}{i:Nat}: ∀(ns:List aF) (k:Nat),(IF from1 i ns k).length≤ns.length
 |[],_=>fQ _
 |n::tl,k=>by
  unfold IF
  have:=Em (from1:=from1) (i:=i) tl (k+1)
  split<;>simp<;>omega
theorem Eo{from1:Int}{m:Nat}: ∀(fs:List cT) (i:Nat),(∀f∈fs,f.Nodes.length≤m)→(yK from1 fs i).length≤fs.length*m
 |[],_,_=>by simp [yK]
 |f::tl,i,h=>by
  unfold yK
  have h1:=Eo (from1:=from1) (m:=m) tl (i+1) (fun x hx=>h x (ly _ hx))
  have h2:=Em (from1:=from1) (i:=i) f.Nodes 0
  have h3:=h f (lI ..)
  simp only [kN,mv]
  rw [qB]
  omega
theorem Gw(p:cZ)(from1:Int):me p from1=some (match yK from1 p.Frags 0 with|[]=>(0,0,false)|x::_=>(x.1,x.2,true)):=by
 unfold me
 rw [zw,cn]
 cases yK from1 p.Frags 0 with
 |nil=>rfl
 |cons x tl=>rfl
end Go.Proofs.YtmogpgcfognefaaGreatDoor

