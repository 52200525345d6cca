/- cJ of this claim: K1, K2, K3, K4, L1. -/
import Derived.Test.YtnmjbolollcokaaGreatDoorRbF
import Derived.KernelRfl
import Derived.Test.YtnmjbolollcokaaGreatDoorRbV4
set_option linter.all false
namespace Go.Proofs.YtnmjbolollcokaaGreatDoor
open Go

abbrev Row:=List de
variable{α:Type}{xs:List α}
theorem FT{ys:List α}(h:xs.length+ys.length≤68719476736):kr xs ys=some (xs++ys):=cU h

structure Cmp{α:Type}(f:α→α→Int):Prop where
 rng: ∀x y,f x y= -1∨f x y=0∨f x y=1
 anti: ∀x y,f y x= -f x y
 eq: ∀x y,f x y=0↔x=y
 trans: ∀x y z,f x y≤0→f y z≤0→f x z≤0
def key(v:de):Int×Int×Int×jn:=(v.Kind,v.N,v.U,v.S)

section
variable{f:α→α→Int}
def ltB(f:α→α→Int)(x y:α):Bool:=decide (f x y<0)
def Ke(f:α→α→Int)(l:List α):List α:=HJ (ltB f) l
def put(f:α→α→Int)(x:α):List α→List α
 |[]=>[x]
 |y::l=>if f x y<0 then x::y::l else y::put f x l
end

structure Small(l:List Row):Prop where
 len:l.length≤8000
 row: ∀r∈l,r.length≤1000
theorem zN{n:Int}(h: -9223372036854775808≤n)(h2:n≤9223372036854775807):IntKind.i64.wrap n=n:=by rw [IntKind.wrap_i64];omega
theorem Dx{l m:Nat}(h:l≤m)(h2:m≤xs.length):du xs (l:Int) (m:Int)=some ((xs.take m).drop l):=by
 unfold du
 rw [cU (by omega)]
 simp

theorem Dy{i j:Int}(l m:Nat)(hi:i=(l:Int))(hj:j=(m:Int))(h:l≤m)(h2:m≤xs.length):du xs i j=some ((xs.take m).drop l):=by
 subst hi hj;exact Dx h h2
inductive Tr where
 |lf (n:bT)
 |un (n:bT) (a:Tr)
 |bi (n:bT) (a b:Tr)
 deriving Inhabited
def Tr.size:Tr→Nat
 | .lf _=>1
 | .un _ a=>a.size+1
 | .bi _ a b=>a.size+b.size+1
def fl:Tr→Nat→List Int
 | .lf _,s=>[(s:Int)]
 | .un _ a,s=>fl a s++[(s:Int)]
 | .bi _ a b,s=>fl a s++fl b (s+a.size)++[(s:Int)]
end Go.Proofs.YtnmjbolollcokaaGreatDoor

