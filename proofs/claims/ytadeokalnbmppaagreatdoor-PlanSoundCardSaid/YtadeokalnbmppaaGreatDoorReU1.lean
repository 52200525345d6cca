import Derived.Test.YtadeokalnbmppaaGreatDoorReQ1
set_option linter.all false
namespace Go.Proofs.YtadeokalnbmppaaGreatDoor
open Go
def Xp(j_:Int)(i:Nat):List ac->Nat->List (Int×Int)
 |[],_=>[]
 |n::tl,k=>if(n.Op==(9:Int))&&(n.M'==j_)then((i:Int),(k:Int))::Xp j_ i tl (k+1)else Xp j_ i tl (k+1)
def Jh(j_:Int):List bt->Nat->List (Int×Int)
 |[],_=>[]
 |f::tl,i=>Xp j_ i f.u' 0++Jh j_ tl (i+1)
def Ir{α Sg:Type}(D_:α->Sg->Option (Bool×Sg)):List α->Sg->(Sg->Option Sg)->Option Sg
 |[],s,k=>k s
 |x::tl,s,k=>(D_ x s).bind fun r=>if(!r.1)then some r.2 else Ir D_ tl r.2 k
def Fh{α Sg:Type}(D_:α->Sg->Option (Bool×Sg))(b:List α)(k:Sg->Option Sg): ∀(a:List α) (s:Sg),Ir D_ (a++b) s k=Ir D_ a s (fun s=>Ir D_ b s k)
 |[],_=>rfl
 |x::tl,s=>by
  show(D_ x s).bind _=(D_ x s).bind _;congr 1;funext r;show(if _ then _ else Ir D_ (tl++b) r.2 k)=_;rw [Fh D_ b k tl]
def zg{Sg:Type}(j_:Int)(D_:(Int×Int)->Sg->Option (Bool×Sg))(nx:Nat->Sg->Option Sg)(i:Nat): ∀(ns:List ac) (k:Nat) (s:Sg),nd j_ D_ nx i ns k s=Ir D_ (Xp j_ i ns k) s (nx (i+1))
 |[],k,s=>rfl
 |n::tl,k,s=>by
  unfold nd Xp;by_cases h:((n.Op==(9:Int))&&(n.M'==j_))=true
  ·rw [bq h,bq h];show _=(D_ _ s).bind _;congr 1;funext r;rw [zg j_ D_ nx i tl (k+1)]
  ·rw [aZ h,aZ h];exact zg j_ D_ nx i tl (k+1) s
def Dq{Sg:Type}(j_:Int)(D_:(Int×Int)->Sg->Option (Bool×Sg)): ∀(fs:List bt) (i:Nat) (s:Sg),ne j_ D_ fs i s=Ir D_ (Jh j_ fs i) s some
 |[],i,s=>rfl
 |f::tl,i,s=>by
  unfold ne Jh;rw [zg,Fh];congr 1;funext s';exact Dq j_ D_ tl (i+1) s'
def JF(p:dp)(j_:Int):u4 p j_=some (fun _ D_ s=>Ir D_ (Jh j_ p.J' 0) s some):=by
 unfold u4;congr 1;funext Sg D_ s;exact Dq j_ D_ p.J' 0 s
def KT{j_:Int}{i:Nat}{x:Int×Int}: ∀{ns:List ac} {k:Nat},x∈Xp j_ i ns k-> ∃j n,ns[j]? =some n/\x=((i:Int),((k+j:Nat):Int))/\n.Op=9/\n.M'=j_
 |[],_,h=>by cases h
 |n::tl,k,h=>by
  unfold Xp at h;by_cases hc:((n.Op==(9:Int))&&(n.M'==j_))=true
  ·rw [bq hc]at h;simp only [jJ,vD]at hc;rcases iI.1 h with rfl|h
   ·exact⟨0,n,rfl,rfl,hc⟩
   ·obtain⟨j,m,g1,g2,g3⟩:=KT h;exact⟨j+1,m,by simpa using g1,by rw [g2];congr 2;omega,g3⟩
  ·rw [aZ hc]at h;obtain⟨j,m,g1,g2,g3⟩:=KT h;exact⟨j+1,m,by simpa using g1,by rw [g2];congr 2;omega,g3⟩
def Rx{j_:Int}{x:Int×Int}: ∀{fs:List bt} {i:Nat},x∈Jh j_ fs i-> ∃a f j n,fs[a]? =some f/\f.u'[j]? =some n/\x=(((i+a:Nat):Int),((j:Nat):Int))/\n.Op=9/\n.M'=j_
 |[],_,h=>by cases h
 |f::tl,i,h=>by
  unfold Jh at h;rcases oO.1 h with h|h
  ·obtain⟨j,n,g1,g2,g3⟩:=KT h;exact⟨0,f,j,n,rfl,g1,by rw [g2];simp,g3⟩
  ·obtain⟨a,f',j,n,g0,g1,g2,g3⟩:=Rx h;exact⟨a+1,f',j,n,by simpa using g0,g1,by rw [g2];congr 2;omega,g3⟩
def Ub(p:dp)(j_:Int):u6 p j_=some (match Jh j_ p.J' 0 with|[]=>(0,0,false)|x::_=>(x.1,x.2,true)):=by
 unfold u6;rw [JF,bh]
 cases Jh j_ p.J' 0 with
 |nil=>rfl
 |cons x tl=>rfl
