import Derived.Test.YtadeokalnbmppaaGreatDoorReY4
set_option linter.all false
namespace Go.Proofs.YtadeokalnbmppaaGreatDoor
open Go
structure PIm(m:Nat)(x:bT):Prop where
 d_:x.Kind=2↔0<x.l_.length
 inr: ∀c∈x.l_,0<=c/\c<(m:Int)
 len:x.l_.length<=100000
def D2{f:bD->Option Bool}(Q: ∀e,∃b,f e=some b): ∀(l:List bD) (i:Nat),∃j:Int,dn f l i=some j/\j<((i+l.length:Nat):Int)
 |[],i=>⟨-1,rfl,by omega⟩
 |e::tl,i=>by
  obtain⟨b,K⟩:=Q e;unfold dn;rw [K,bh]
  cases b with
  |true=>exact⟨i,by simp,by simp;omega⟩
  |false=>
   obtain⟨j,D,V⟩:=D2 Q tl (i+1);exact⟨j,by rw [aZ (by simp)];exact D,by simp at V ⊢;omega⟩
def Hl(c:Int)(e:bD): ∃b,di c e=some b:=by
 unfold di;by_cases h:e.u'.length=1
 ·have h0:dm e.u' (0:Int)=some e.u'[0]:=by rw [me 0 (show(0:Int)=((0:Nat):Int)from rfl),qV (by omega)]
  rw [bq (by simp [h]),h0];simp only [bh];split
  ·exact⟨_,rfl⟩
  ·exact⟨_,rfl⟩
 ·rw [aZ (by simp;omega),bh,aZ (by decide)];exact⟨_,rfl⟩
def Oo{n:Nat}: ∀{l:List Int} {o:Option Int},KQ n o l=true-> ∀k∈l,0<=k/\k<(n:Int)
 |[],_,_,k,hk=>by cases hk
 |x::t,o,h,k,hk=>by
  rw [Sm]at h;simp only [jJ,vk]at h;rcases iI.1 hk with rfl|hk
  ·exact⟨h.1.1.1,h.1.1.2⟩
  ·exact Oo h.2 k hk
def OX{c:bo}(hc:NZ c=true){t:de}(Y:t∈c.i_): ∀k∈t.I',0<=k/\k<(t.b_.length:Int):=by
 unfold NZ at hc;rw [Km]at hc;simp only [jJ,o0]at hc;have:=hc.2.1 t Y;unfold Eh at this;simp only [jJ]at this;exact Oo this.2.2
section
variable{c:bo}{q:dp}{KS:List (List (List Int))}
end
