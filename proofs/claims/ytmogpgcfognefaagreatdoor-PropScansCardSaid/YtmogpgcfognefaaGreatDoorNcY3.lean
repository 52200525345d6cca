/- cd of this claim: Y3. -/
import Derived.Test.YtmogpgcfognefaaGreatDoorNcY2
set_option linter.all false
namespace Go.Proofs.YtmogpgcfognefaaGreatDoor
open Go

structure Q8(ns:List aZ)(K:List (List Int)):Prop where
 len:K.length=ns.length
 at_: ∀j,j<ns.length→yo ns K j
structure B0(ns:List aZ):Prop where
 len:ns.length≤90
 n: ∀n∈ns,y0 n
theorem wv: ∀(K out:List (List Int)),(∀k∈K,k.length≤100)→out.length+K.length≤1000→jQ K out=some (out++K,0,0)
 |[],out,_,_=>by unfold jQ;rw [zj]
 |k::tl,out,hk,hl=>by
  unfold jQ
  rw [qY k (by have:=hk k (kU ..);omega),ce,fh (by simp at hl ⊢;omega),ce,wv tl _ (fun x hx=>hk x (kR _ hx)) (by simp at hl ⊢;omega)]
  simp
theorem u9(l:af){w:Int}(h:0≤w):jR l w=some ([],w,291):=by
 unfold jR
 rw [c8 (by simpa using h)]
def DA(ns:List aZ)(r:Option (List (List Int)×Int×Int)):Prop:= ∃out w e,r=some (out,w,e)∧((e=0∧w=0∧Q8 ns out∧1≤ns.length∧ns.length≤60)∨(e=291∧out=[]))
theorem wu{ns:List aZ}(hs:B0 ns)(h1:1≤ns.length)(h60:ns.length≤60): ∀(tl:List aZ) (i:Nat) (l:af),ns.drop i=tl→HB ns l i→DA ns (jP ns ((pT).getD []) tl i (-1) l)
 |[],i,l,hd,h=>by
  have hlen:ns.length≤i:=yP hd
  have hi:i=ns.length:=by
   rcases js ns.length i with hlt|hge
   ·obtain⟨n,_,hn,_⟩:=h.ok ns.length hlt
    rw [DM (fO _)]at hn
    cases hn
   ·omega
  unfold jP la
  by_cases hc:((decide ((-1:Int)<(0:Int)))&&((l.open_.length:Int) !=(1:Int)))=true
  ·rw [c8 hc,j8 (by omega) (by omega),u9 l (by omega)]
   exact⟨_,_,_,rfl,.inr ⟨rfl,rfl⟩⟩
  ·rw [dg hc]
   unfold jR
   rw [dg (by decide),wv l.kinds [] (fun k hk=>by have:=h.kinds k hk;omega) (by have:=h.len;simp;omega),rh]
   exact⟨_,_,_,rfl,.inl ⟨rfl,rfl,⟨by rw [h.len,hi],fun j hj=>h.ok j (by omega)⟩,h1,h60⟩⟩
 |e::tl,i,l,hd,h=>by
  obtain⟨hidx,hi,hd'⟩:=BV hd
  rw [dy]at hidx
  unfold jP
  obtain⟨ok,l',g1,g2,g3⟩:=H7 h (by omega) (by omega) hidx (hs.n e (oa hidx))
  have g1' :jK l (i:Int) ((oW ((pT).getD []) e.Op).getD (fun _ _=>none))=some (ok,l'):=g1
  rw [g1',ce]
  cases ok with
  |false=>
   rw [c8 (by rfl)]
   unfold la
   rw [dg (by simp;omega),u9 l' (by omega)]
   exact⟨_,_,_,rfl,.inr ⟨rfl,rfl⟩⟩
  |true=>
   rw [dg (by simp)]
   exact wu hs h1 h60 tl (i+1) l' hd' (g3 rfl)
theorem zz{ns:List aZ}(hs:B0 ns):DA ns (oD ns):=by
 unfold oD
 by_cases hc:((decide ((ns.length:Int)<(1:Int)))||(decide ((60:Int)<(ns.length:Int))))=true
 ·rw [c8 hc]
  exact⟨_,_,_,rfl,.inr ⟨rfl,rfl⟩⟩
 ·rw [dg hc]
  simp at hc
  exact wu hs (by omega) (by omega) ns 0 _ rfl ⟨rfl,rfl,fun p hp=>(by cases hp),fO _,fun k hk=>(by cases hk),fun j hj=>by omega⟩
theorem Q8.root{ns:List aZ}{K:List (List Int)}(h:Q8 ns K)(h1:1≤ns.length)(h2:ns.length≤1000): ∃R,ea K (IntKind.i64.wrap ((K.length:Int)-1))=some R∧K[ns.length-1]? =some R∧R.length≤16:=by
 obtain⟨n,R,g1,g2,g3,_⟩:=h.at_ (ns.length-1) (by omega)
 refine⟨R,?_,g2,g3⟩
 rw [h.len,j8 (by omega) (by omega),lz (ns.length-1) (by omega),g2]
def JX(from1:Int)(i:Nat):List aZ→Nat→List (Int×Int)
 |[],_=>[]
 |n::tl,k=>if(n.Op==(9:Int))&&(n.Table==from1)then((i:Int),(k:Int))::JX from1 i tl (k+1)else JX from1 i tl (k+1)
def Eg(from1:Int):List dc→Nat→List (Int×Int)
 |[],_=>[]
 |f::tl,i=>JX from1 i f.Nodes 0++Eg from1 tl (i+1)
def xR{Sg:Type}(yld:(Int×Int)→Sg→Option (Bool×Sg)):List (Int×Int)→Sg→(Sg→Option Sg)→Option Sg
 |[],s,k=>k s
 |x::tl,s,k=>(yld x s).bind fun r=>if(!r.1)then some r.2 else xR yld tl r.2 k
theorem wa{Sg:Type}(yld:(Int×Int)→Sg→Option (Bool×Sg))(b:List (Int×Int))(k:Sg→Option Sg): ∀(a:List (Int×Int)) (s:Sg),xR yld (a++b) s k=xR yld a s (fun s=>xR yld b s k)
 |[],_=>rfl
 |x::tl,s=>by
  show(yld x s).bind _=(yld x s).bind _
  congr 1
  funext r
  show(if _ then _ else xR yld (tl++b) r.2 k)=_
  rw [wa yld b k tl]
theorem qC{Sg:Type}(from1:Int)(yld:(Int×Int)→Sg→Option (Bool×Sg))(nx:Nat→Sg→Option Sg)(i:Nat): ∀(ns:List aZ) (k:Nat) (s:Sg),gT from1 yld nx i ns k s=xR yld (JX from1 i ns k) s (nx (i+1))
 |[],k,s=>rfl
 |n::tl,k,s=>by
  unfold gT JX
  by_cases h:((n.Op==(9:Int))&&(n.Table==from1))=true
  ·rw [c8 h,c8 h]
   show _=(yld _ s).bind _
   congr 1
   funext r
   rw [qC from1 yld nx i tl (k+1)]
  ·rw [dg h,dg h]
   exact qC from1 yld nx i tl (k+1) s
theorem uD{Sg:Type}(from1:Int)(yld:(Int×Int)→Sg→Option (Bool×Sg)): ∀(fs:List dc) (i:Nat) (s:Sg),gU from1 yld fs i s=xR yld (Eg from1 fs i) s some
 |[],i,s=>rfl
 |f::tl,i,s=>by
  unfold gU Eg
  rw [qC,wa]
  congr 1
  funext s'
  exact uD from1 yld tl (i+1) s'
theorem He(p:eC)(from1:Int):nq p from1=some (fun _ yld s=>xR yld (Eg from1 p.Frags 0) s some):=by
 unfold nq
 congr 1
 funext Sg yld s
 exact uD from1 yld p.Frags 0 s
theorem Bu{from1:Int}{i:Nat}{x:Int×Int}: ∀{ns:List aZ} {k:Nat},x∈JX from1 i ns k→ ∃j n,ns[j]? =some n∧x=((i:Int),((k+j:Nat):Int))∧n.Op=9∧n.Table=from1
 |[],_,h=>by cases h
 |n::tl,k,h=>by
  unfold JX at h
  by_cases hc:((n.Op==(9:Int))&&(n.Table==from1))=true
  ·rw [c8 hc]at h
   simp only [mA,vP]at hc
   rcases gz.1 h with rfl|h
   ·exact⟨0,n,rfl,rfl,hc⟩
   ·obtain⟨j,m,g1,g2,g3⟩:=Bu h
    exact⟨j+1,m,by simpa using g1,by rw [g2];congr 2;omega,g3⟩
  ·rw [dg hc]at h
   obtain⟨j,m,g1,g2,g3⟩:=Bu h
   exact⟨j+1,m,by simpa using g1,by rw [g2];congr 2;omega,g3⟩
theorem FA{from1:Int}{x:Int×Int}: ∀{fs:List dc} {i:Nat},x∈Eg from1 fs i→ ∃a f j n,fs[a]? =some f∧f.Nodes[j]? =some n∧x=(((i+a:Nat):Int),((j:Nat):Int))∧n.Op=9∧n.Table=from1
 |[],_,h=>by cases h
 |f::tl,i,h=>by
  unfold Eg at h
  rcases xj.1 h with h|h
  ·obtain⟨j,n,g1,g2,g3⟩:=Bu h
   exact⟨0,f,j,n,rfl,g1,by rw [g2];simp,g3⟩
  ·obtain⟨a,f',j,n,g0,g1,g2,g3⟩:=FA h
   exact⟨a+1,f',j,n,by simpa using g0,g1,by rw [g2];congr 2;omega,g3⟩
theorem Fo{from1:Int}{i:Nat}: ∀(ns:List aZ) (k:Nat),(JX from1 i ns k).length≤ns.length
 |[],_=>fO _
 |n::tl,k=>by
  unfold JX
  have:=Fo (from1:=from1) (i:=i) tl (k+1)
  split<;>simp<;>omega
theorem Fp{from1:Int}{m:Nat}: ∀(fs:List dc) (i:Nat),(∀f∈fs,f.Nodes.length≤m)→(Eg from1 fs i).length≤fs.length*m
 |[],_,_=>by simp [Eg]
 |f::tl,i,h=>by
  unfold Eg
  have h1:=Fp (from1:=from1) (m:=m) tl (i+1) (fun x hx=>h x (kR _ hx))
  have h2:=Fo (from1:=from1) (i:=i) f.Nodes 0
  have h3:=h f (kU ..)
  simp only [kh,lm]
  rw [re]
  omega
end Go.Proofs.YtmogpgcfognefaaGreatDoor

