/- di of this claim: Y3. -/
import Derived.Test.YtmogpgcfognefaaGreatDoorNdY2
set_option linter.all false
namespace Go.Proofs.YtmogpgcfognefaaGreatDoor
open Go

structure UX(ns:List aw)(K:List (List Int)):Prop where
 len:K.length=ns.length
 at_: ∀j,j<ns.length→C4 ns K j
structure pb(ns:List aw):Prop where
 len:ns.length≤90
 n: ∀n∈ns,jX n
theorem w8: ∀(K out:List (List Int)),(∀k∈K,k.length≤100)→out.length+K.length≤1000→nH K out=some (out++K,0,0)
 |[],out,_,_=>by unfold nH;rw [z8]
 |k::tl,out,hk,hl=>by
  unfold nH
  rw [nr k (by have:=hk k (oc ..);omega),bA,du (by simp at hl ⊢;omega),bA,w8 tl _ (fun x hx=>hk x (oS _ hx)) (by simp at hl ⊢;omega)]
  simp
theorem sJ(l:aq){w:Int}(h:0≤w):mn l w=some ([],w,291):=by
 unfold mn
 rw [bQ (by simpa using h)]
def IK(ns:List aw)(r:Option (List (List Int)×Int×Int)):Prop:= ∃out w e,r=some (out,w,e)∧((e=0∧w=0∧UX ns out∧1≤ns.length∧ns.length≤60)∨(e=291∧out=[]))
theorem Bt{ns:List aw}(hs:pb ns)(h1:1≤ns.length)(h60:ns.length≤60): ∀(tl:List aw) (i:Nat) (l:aq),ns.drop i=tl→GX ns l i→IK ns (iy ns ((pW).getD []) tl i (-1) l)
 |[],i,l,hd,h=>by
  have hlen:ns.length≤i:=tq hd
  have hi:i=ns.length:=by
   rcases m2 ns.length i with hlt|hge
   ·obtain⟨n,_,hn,_⟩:=h.ok ns.length hlt
    rw [Ck (gB _)]at hn
    cases hn
   ·omega
  unfold iy mo
  by_cases hc:((decide ((-1:Int)<(0:Int)))&&((l.open_.length:Int) !=(1:Int)))=true
  ·rw [bQ hc,eS (by omega) (by omega),sJ l (by omega)]
   exact⟨_,_,_,rfl,.inr ⟨rfl,rfl⟩⟩
  ·rw [bI hc]
   unfold mn
   rw [bI (by decide),w8 l.kinds [] (fun k hk=>by have:=h.kinds k hk;omega) (by have:=h.len;simp;omega),nv]
   exact⟨_,_,_,rfl,.inl ⟨rfl,rfl,⟨by rw [h.len,hi],fun j hj=>h.ok j (by omega)⟩,h1,h60⟩⟩
 |e::tl,i,l,hd,h=>by
  obtain⟨hidx,hi,hd'⟩:=lE hd
  rw [cK]at hidx
  unfold iy
  obtain⟨ok,l',g1,g2,g3⟩:=Ho h (by omega) (by omega) hidx (hs.n e (qS hidx))
  have g1' :fe l (i:Int) ((rW ((pW).getD []) e.Op).getD (fun _ _=>none))=some (ok,l'):=g1
  rw [g1',bA]
  cases ok with
  |false=>
   rw [bQ (by rfl)]
   unfold mo
   rw [bI (by simp;omega),sJ l' (by omega)]
   exact⟨_,_,_,rfl,.inr ⟨rfl,rfl⟩⟩
  |true=>
   rw [bI (by simp)]
   exact Bt hs h1 h60 tl (i+1) l' hd' (g3 rfl)
theorem xM{ns:List aw}(hs:pb ns):IK ns (oC ns):=by
 unfold oC
 by_cases hc:((decide ((ns.length:Int)<(1:Int)))||(decide ((60:Int)<(ns.length:Int))))=true
 ·rw [bQ hc]
  exact⟨_,_,_,rfl,.inr ⟨rfl,rfl⟩⟩
 ·rw [bI hc]
  simp at hc
  exact Bt hs (by omega) (by omega) ns 0 _ rfl ⟨rfl,rfl,fun p hp=>(by cases hp),gB _,fun k hk=>(by cases hk),fun j hj=>by omega⟩
theorem UX.root{ns:List aw}{K:List (List Int)}(h:UX ns K)(h1:1≤ns.length)(h2:ns.length≤1000): ∃R,dC K (IntKind.i64.wrap ((K.length:Int)-1))=some R∧K[ns.length-1]? =some R∧R.length≤16:=by
 obtain⟨n,R,g1,g2,g3,_⟩:=h.at_ (ns.length-1) (by omega)
 refine⟨R,?_,g2,g3⟩
 rw [h.len,eS (by omega) (by omega),gR (ns.length-1) (by omega),g2]
def Jp(from1:Int)(i:Nat):List aw→Nat→List (Int×Int)
 |[],_=>[]
 |n::tl,k=>if(n.Op==(9:Int))&&(n.Table==from1)then((i:Int),(k:Int))::Jp from1 i tl (k+1)else Jp from1 i tl (k+1)
def Ap(from1:Int):List cL→Nat→List (Int×Int)
 |[],_=>[]
 |f::tl,i=>Jp from1 i f.Nodes 0++Ap from1 tl (i+1)
def An{Sg:Type}(yld:(Int×Int)→Sg→Option (Bool×Sg)):List (Int×Int)→Sg→(Sg→Option Sg)→Option Sg
 |[],s,k=>k s
 |x::tl,s,k=>(yld x s).bind fun r=>if(!r.1)then some r.2 else An yld tl r.2 k
theorem A7{Sg:Type}(yld:(Int×Int)→Sg→Option (Bool×Sg))(b:List (Int×Int))(k:Sg→Option Sg): ∀(a:List (Int×Int)) (s:Sg),An yld (a++b) s k=An yld a s (fun s=>An yld b s k)
 |[],_=>rfl
 |x::tl,s=>by
  show(yld x s).bind _=(yld x s).bind _
  congr 1
  funext r
  show(if _ then _ else An yld (tl++b) r.2 k)=_
  rw [A7 yld b k tl]
theorem vD{Sg:Type}(from1:Int)(yld:(Int×Int)→Sg→Option (Bool×Sg))(nx:Nat→Sg→Option Sg)(i:Nat): ∀(ns:List aw) (k:Nat) (s:Sg),kT from1 yld nx i ns k s=An yld (Jp from1 i ns k) s (nx (i+1))
 |[],k,s=>rfl
 |n::tl,k,s=>by
  unfold kT Jp
  by_cases h:((n.Op==(9:Int))&&(n.Table==from1))=true
  ·rw [bQ h,bQ h]
   show _=(yld _ s).bind _
   congr 1
   funext r
   rw [vD from1 yld nx i tl (k+1)]
  ·rw [bI h,bI h]
   exact vD from1 yld nx i tl (k+1) s
theorem zr{Sg:Type}(from1:Int)(yld:(Int×Int)→Sg→Option (Bool×Sg)): ∀(fs:List cL) (i:Nat) (s:Sg),kU from1 yld fs i s=An yld (Ap from1 fs i) s some
 |[],i,s=>rfl
 |f::tl,i,s=>by
  unfold kU Ap
  rw [vD,A7]
  congr 1
  funext s'
  exact zr from1 yld tl (i+1) s'
theorem AA(p:da)(from1:Int):rQ p from1=some (fun _ yld s=>An yld (Ap from1 p.Frags 0) s some):=by
 unfold rQ
 congr 1
 funext Sg yld s
 exact zr from1 yld p.Frags 0 s
theorem Gc{from1:Int}{i:Nat}{x:Int×Int}: ∀{ns:List aw} {k:Nat},x∈Jp from1 i ns k→ ∃j n,ns[j]? =some n∧x=((i:Int),((k+j:Nat):Int))∧n.Op=9∧n.Table=from1
 |[],_,h=>by cases h
 |n::tl,k,h=>by
  unfold Jp at h
  by_cases hc:((n.Op==(9:Int))&&(n.Table==from1))=true
  ·rw [bQ hc]at h
   simp only [iz,uM]at hc
   rcases kp.1 h with rfl|h
   ·exact⟨0,n,rfl,rfl,hc⟩
   ·obtain⟨j,m,g1,g2,g3⟩:=Gc h
    exact⟨j+1,m,by simpa using g1,by rw [g2];congr 2;omega,g3⟩
  ·rw [bI hc]at h
   obtain⟨j,m,g1,g2,g3⟩:=Gc h
   exact⟨j+1,m,by simpa using g1,by rw [g2];congr 2;omega,g3⟩
theorem Gd{from1:Int}{x:Int×Int}: ∀{fs:List cL} {i:Nat},x∈Ap from1 fs i→ ∃a f j n,fs[a]? =some f∧f.Nodes[j]? =some n∧x=(((i+a:Nat):Int),((j:Nat):Int))∧n.Op=9∧n.Table=from1
 |[],_,h=>by cases h
 |f::tl,i,h=>by
  unfold Ap at h
  rcases yJ.1 h with h|h
  ·obtain⟨j,n,g1,g2,g3⟩:=Gc h
   exact⟨0,f,j,n,rfl,g1,by rw [g2];simp,g3⟩
  ·obtain⟨a,f',j,n,g0,g1,g2,g3⟩:=Gd h
   exact⟨a+1,f',j,n,by simpa using g0,g1,by rw [g2];congr 2;omega,g3⟩
theorem F1{from1:Int}{i:Nat}: ∀(ns:List aw) (k:Nat),(Jp from1 i ns k).length≤ns.length
 |[],_=>gB _
 |n::tl,k=>by
  unfold Jp
  have:=F1 (from1:=from1) (i:=i) tl (k+1)
  split<;>simp<;>omega
theorem F2{from1:Int}{m:Nat}: ∀(fs:List cL) (i:Nat),(∀f∈fs,f.Nodes.length≤m)→(Ap from1 fs i).length≤fs.length*m
 |[],_,_=>by simp [Ap]
 |f::tl,i,h=>by
  unfold Ap
  have h1:=F2 (from1:=from1) (m:=m) tl (i+1) (fun x hx=>h x (oS _ hx))
  have h2:=F1 (from1:=from1) (i:=i) f.Nodes 0
  have h3:=h f (oc ..)
  simp only [mt,kb]
  rw [wd]
  omega
theorem AJ(p:da)(from1:Int):kP p from1=some (match Ap from1 p.Frags 0 with|[]=>(0,0,false)|x::_=>(x.1,x.2,true)):=by
 unfold kP
 rw [AA,bA]
 cases Ap from1 p.Frags 0 with
 |nil=>rfl
 |cons x tl=>rfl
end Go.Proofs.YtmogpgcfognefaaGreatDoor

