import Derived.Test.YtadeokalnbmppaaGreatDoorReU1
import Derived.Test.YtadeokalnbmppaaGreatDoorReQ2
set_option linter.all false
namespace Go.Proofs.YtadeokalnbmppaaGreatDoor
open Go
def Ey(e:bD): ∃b,pm e=some b/\(b=false->e.u'.length<=100):=by
 unfold pm;by_cases h:100<e.u'.length
 ·rw [bq (by simp;omega)];exact⟨true,rfl,by simp⟩
 ·rw [aZ (by simp;omega)];have key: ∀ns:List bw,∃b,ot ns=some b:=by
   intro ns
   induction ns with
   |nil=>exact⟨_,rfl⟩
   |cons n ns ih=>
    unfold ot;split
    ·exact⟨_,rfl⟩
    ·exact ih
  obtain⟨b,K⟩:=key e.u';exact⟨b,K,fun _=>by omega⟩
def Rk(nx:Option Bool): ∀l:List fh,(∃b,nx=some b)-> ∃b,rF nx l=some b/\(b=false->nx=some false/\ ∀g∈l,g.N_.u'.length<=100)
 |[],⟨b,h⟩=>⟨b,h,fun K=>⟨by rw [h,K],fun g H=>by cases H⟩⟩
 |g::tl,hn=>by
  unfold rF;obtain⟨b,D,V⟩:=Ey g.N_;rw [D,bh]
  cases b with
  |true=>exact⟨true,rfl,by simp⟩
  |false=>
   obtain⟨b',Z,h4⟩:=Rk nx tl hn;exact⟨b',Z,fun K=>⟨(h4 K).1,fun x I=>by
    rcases iI.1 I with rfl|I
    ·exact V rfl
    ·exact(h4 K).2 x I⟩⟩
def Rl(nx:Option Bool)(e:ac)(hn: ∃b,nx=some b): ∀l:List bD,∃b,rG nx e l=some b/\(b=false->nx=some false/\(∀g∈e.L',g.N_.u'.length<=100)/\ ∀x∈l,x.u'.length<=100)
 |[]=>by
  obtain⟨b,D,V⟩:=Rk nx e.L' hn;exact⟨b,D,fun K=>⟨(V K).1,(V K).2,fun x I=>by cases I⟩⟩
 |x::tl=>by
  unfold rG;obtain⟨b,D,V⟩:=Ey x;rw [D,bh]
  cases b with
  |true=>exact⟨true,rfl,by simp⟩
  |false=>
   obtain⟨b',Z,h4⟩:=Rl nx e hn tl;exact⟨b',Z,fun K=>⟨(h4 K).1,(h4 K).2.1,fun y hy=>by
    rcases iI.1 hy with rfl|hy
    ·exact V rfl
    ·exact(h4 K).2.2 y hy⟩⟩
def Rm: ∀l:List ac,∃b,m6 l=some b/\(b=false-> ∀n∈l,d9 n)
 |[]=>⟨false,rfl,fun _ n hn=>by cases hn⟩
 |n::tl=>by
  unfold m6;obtain⟨b0,i1,i2⟩:=Rm tl;by_cases hc:(((((decide ((20:Int)<(n.U'.length:Int)))||(decide ((20:Int)<(n.I'.length:Int))))||(decide ((20:Int)<(n.Y'.length:Int))))||(decide ((20:Int)<(n.N'.length:Int))))||(decide ((20:Int)<(n.L'.length:Int))))=true
  ·rw [hc];exact⟨true,rfl,by simp⟩
  ·rw [B6]at hc;rw [hc];simp only [QN,GK]at hc;obtain⟨b,D,V⟩:=Ey n.f_;rw [D]
   cases b with
   |true=>exact⟨true,rfl,by simp⟩
   |false=>
    obtain⟨b',Z,h4⟩:=Rl (m6 tl) n ⟨b0,i1⟩ n.N';refine⟨b',Z,fun K=>?_⟩;obtain⟨g1,g2,g3⟩:=h4 K;rw [i1]at g1;have e0:b0=false:=qr g1;intro m hm;rcases iI.1 hm with rfl|hm
    ·have:=V rfl;exact⟨by omega,by omega,by omega,by omega,by omega,by omega,fun g H=>by have:=g2 g H;omega,fun e he=>by have:=g3 e he;omega⟩
    ·exact i2 e0 m hm
def Xu(l:List ac): ∃b,zd l=some b/\(b=false->l.length<=65/\ ∀n∈l,d9 n):=by
 unfold zd;by_cases h:65<l.length
 ·rw [bq (by simp;omega)];exact⟨true,rfl,by simp⟩
 ·rw [aZ (by simp;omega)];obtain⟨b,D,V⟩:=Rm l;exact⟨b,D,fun K=>⟨by omega,V K⟩⟩
def Ke:Ax=some true:=by kernel_rfl
def kG(n:Nat):List Int:=(List.range n).map fun i:Nat=>(i:Int)
def Tx(n:Nat):kG (n+1)=kG n++[(n:Int)]:=by unfold kG;rw [List.range_succ,CO];rfl
def kh(n:Nat):(kG n).length=n:=by simp [kG]
def Vl{n:Nat}{x:Int}:x∈kG n↔0<=x/\x<(n:Int):=by
 unfold kG;rw [Bo];constructor
 ·rintro⟨i,hi,rfl⟩;rw [IP]at hi;omega
 ·intro h;exact⟨x.toNat,IP.2 (by omega),by omega⟩
def QY(n:Nat)(hn:n<=100000): ∀(k j fu:Nat),j+k=n->k<fu->q7 (n:Int) fu (kG j) (j:Int)=some (kG n)
 |k,j,0,_,h=>by omega
 |0,j,fu+1,hj,_=>by
  unfold q7;rw [aZ (by simp;omega),show j=n by omega]
 |k+1,j,fu+1,hj,Q=>by
  unfold q7;rw [bq (by simp;omega),cK (by rw [kh];simp;omega),bh,<-Tx,cJ (by omega) (by omega)];exact QY n hn k (j+1) fu (by omega) (by omega)
def QZ(n:Nat)(hn:n<=100000):vZ (n:Int)=some (kG n):=QY n hn n 0 ko (by omega) (vc (by omega))
