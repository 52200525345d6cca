import Derived.Test.YtadeokalnbmppaaGreatDoorReY11
import Derived.KernelRfl
set_option linter.all false
namespace Go.Proofs.YtadeokalnbmppaaGreatDoor
open Go
structure Kd(k:List Int):Prop where
 pos:1<=k.length
 le:k.length<=16
 vals: ∀x∈k,0<=x/\x<=4
def K3(k:List Int):Prop:= ∀x∈k,0<=x/\x<=3
def K3.four{k:List Int}(h:K3 k):(4:Int)∉k:=fun I=>by have:=h 4 I;omega
def Ry{e:bD}{j':List Int}(h:(fT e j').2=0):0<=(fT e j').1/\(fT e j').1<=3:=by
 unfold fT at h ⊢;by_cases D:kC e.u'=true
 ·by_cases V:Vx j'=true
  ·by_cases Z:tR j'.length e.u'=true
   ·simp only [D,V,Z,mF]at h ⊢
    cases Y:qF e.u' with
    |none=>simp [Y]at h
    |some t=>
     cases hk:kd j' t with
     |none=>simp [Y,hk]at h
     |some k=>
      have:=RA (fun k hk=>Gu V hk) t (qE Y).1 hk;simp only [Y,hk,bh];unfold k4 at this;omega
   ·simp [D,V,Z]at h
  ·simp [D,V]at h
 ·simp [D]at h
def ZJ{g:fh}{a:List Int}(h:(zx g a).2=true):0<=(zx g a).1/\(zx g a).1<=3:=by
 obtain⟨e1,e2⟩:=DO g a;rw [h]at e1;rw [<-e2 e1];unfold FK at e1 ⊢;by_cases D:g.Tag=1
 ·simp [D]
 by_cases Z:g.Tag=3
 ·simp [Z]
 by_cases h45:g.Tag=4\/g.Tag=5
 ·rw [aZ D,aZ Z,bq h45]at e1 ⊢;simp only [jJ,vD]at e1;exact Ry e1.1.1
 ·rw [aZ D,aZ Z,aZ h45];simp
def acq{a b:List Int}(ha:K3 a)(K:K3 b):K3 (List.zipWith CW a b):=by
 intro z hz;obtain⟨i,hi,hzi⟩:=List.getElem_of_mem hz;rw [List.getElem_zipWith]at hzi;rw [<-hzi];unfold CW;split
 ·exact K _ (zW _)
 ·exact ha _ (zW _)
def PM{a:List Int}{e:Int}(h:u7 a e=false):Gv a e∈a:=by
 simp [u7]at h;unfold Gv;rw [qV (by omega)];exact zW _
def UX{n:ac}{a b k:List Int}(hn:d9 n)(p_:F7 n.Op=true)(ha:K3 a)(K:K3 b)(hal:a.length<=16)(hbl:b.length<=16)(hpa:n.Op≠1->1<=a.length)(h:ba n a b=some (k,true)):K3 k/\1<=k.length:=by
 rcases lE p_ with D|D|D|D|D|D|D|D
 ·rw [rk1 hn D]at h;injection h with h;injection h with V Z;subst V;simp only [jJ,o0,vk]at Z;exact⟨fun x I=>by have:=Z.1.1.1.1 x I;omega,by omega⟩
 ·have hp:=hpa (by omega);rw [rk2 D hal hbl]at h;injection h with h;injection h with V Z;subst V;exact⟨fun x I=>(oO.1 I).elim (ha x) (K x),by simp;omega⟩
 ·rw [rk3 D]at h;injection h with h;injection h with V Z;subst V;exact⟨ha,hpa (by omega)⟩
 ·rw [rk4 hn D]at h
  cases hany:n.I'.any (u7 a)with
  |true=>rw [hany,bq rfl]at h;cases h
  |false=>
   rw [hany,aZ (by simp)]at h;injection h with h;injection h with V Z;subst V;simp only [jJ,o0,vk]at Z;refine⟨fun x I=>?_,by simp;omega⟩;rcases oO.1 I with I|I
   ·obtain⟨e,he,rfl⟩:=Bo.1 I;exact ha _ (PM (by have:=IR.1 hany e he;simpa using this))
   ·obtain⟨g,H,rfl⟩:=Bo.1 I;exact ZJ (Z.1.1.1 g H)
 ·rw [rk5 hn D]at h;injection h with h;injection h with V Z;subst V;simp only [jJ,o0,vk,vD]at Z;refine⟨fun x I=>?_,by simp;omega⟩;obtain⟨e,he,rfl⟩:=Bo.1 I;exact Ry (Z.1.1 e he)
 ·rw [rk6 D]at h;injection h with h;injection h with V Z;subst V;exact⟨ha,hpa (by omega)⟩
 ·have hp:=hpa (by omega);rw [rk7 D hal]at h;by_cases hl:a.length=b.length
  ·rw [bq hl]at h;injection h with h;injection h with V Z;subst V;exact⟨acq ha K,by simp;omega⟩
  ·rw [aZ hl]at h;cases h
 ·rw [rk8 hn D]at h;injection h with h;injection h with V Z;subst V;exact⟨ha,hpa (by omega)⟩
def d9.AB{n:ac}(h:d9 n)(A B:Int):d9 {n with A:=A,B:=B}:=⟨h.cond,h.j',h.keys,h.z_,h.items,h.order,h.args,h.exprs⟩
def Vt{n:ac}(hn:d9 n)(p_:F7 n.Op=true)(A B:Int){a b:List Int}(hal:a.length<=16)(hbl:b.length<=16):ba {n with A:=A,B:=B} a b=ba n a b:=by
 have hn' :=hn.AB A B;rcases lE p_ with h|h|h|h|h|h|h|h
 ·rw [rk1 hn h,rk1 hn' h]
 ·rw [rk2 h hal hbl,rk2 (n:={n with A:=A,B:=B}) h hal hbl]
 ·rw [rk3 h,rk3 (n:={n with A:=A,B:=B}) h]
 ·rw [rk4 hn h,rk4 hn' h]
 ·rw [rk5 hn h,rk5 hn' h]
 ·rw [rk6 h,rk6 (n:={n with A:=A,B:=B}) h]
 ·rw [rk7 h hal,rk7 (n:={n with A:=A,B:=B}) h hal]
 ·rw [rk8 hn h,rk8 hn' h]
