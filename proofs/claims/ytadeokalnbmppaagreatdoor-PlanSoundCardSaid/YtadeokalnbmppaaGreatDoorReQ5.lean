import Derived.Test.YtadeokalnbmppaaGreatDoorReQ3
set_option linter.all false
namespace Go.Proofs.YtadeokalnbmppaaGreatDoor
open Go
variable{l:cQ}
section
variable{d:cQ}{sz sz' :Nat->Nat}{ks ks' :Nat->List Int}
def Fo{j:Nat}{n:ac}(F:ER l sz ks j n):(n.A= -1\/0<=n.A/\n.A<(j:Int))/\(n.B= -1\/0<=n.B/\n.B<(j:Int)):=by
 by_cases c1:n.Op=1
 ·obtain⟨a,b,_⟩:=F.lf c1;exact⟨.inl a,.inl b⟩
 by_cases c27:n.Op=2\/n.Op=7
 ·obtain⟨a,b,c,d,e⟩:=F.bi c27;exact⟨.inr (by omega),.inr (by omega)⟩
 ·obtain⟨a,b,c,d⟩:=F.un c1 (fun h=>c27 (.inl h)) (fun h=>c27 (.inr h));exact⟨.inr (by omega),.inl c⟩
def Xk{e:Nat}{x:Int}(h:0<=x)(V:x<=10000)(Z:e<=10000):yE (e:Int) x=x+e:=by
 unfold yE;rw [bq h,cJ (by omega) (by omega)]
def aeQ{e m:Nat}(hg:EX l sz ks)(H' :EX d sz' ks')(hm:m<=l.u'.length)(hl:l.u'.length<=200)(he:e<=200)(hd:e+m<=d.u'.length)(hn: ∀j,j<m-> ∀n,dm l.u' (j:Int)=some n->dm d.u' ((e+j:Nat):Int)=some (xf (e:Int) n)): ∀j,j<m->sz' (e+j)=sz j/\ks' (e+j)=ks j:=by
 intro j
 induction j using Nat.strongRecOn with
 |ind j ih=>
  intro hj;obtain⟨n,F⟩:=hg j (by omega);obtain⟨n',F'⟩:=H' (e+j) (by omega);have hnn:n' =xf (e:Int) n:=by
   have D:=hn j hj n F.node;rw [F'.node]at D;injection D
  subst hnn;obtain⟨hA,hB⟩:=Fo F;constructor
  ·by_cases c1:n.Op=1
   ·rw [(F'.lf c1).2.2,(F.lf c1).2.2]
   by_cases c27:n.Op=2\/n.Op=7
   ·obtain⟨a,b,c,g,q⟩:=F.bi c27;obtain⟨a',b',c',g',q'⟩:=F'.bi c27;have ej:e+j-1=e+(j-1):=by omega
    rw [ej,(ih (j-1) (by omega) (by omega)).1,show e+(j-1)-sz (j-1)=e+(j-1-sz (j-1))from by omega,(ih (j-1-sz (j-1)) (by omega) (by omega)).1]at q';rw [q',q]
   ·obtain⟨a,b,c,g⟩:=F.un c1 (fun h=>c27 (.inl h)) (fun h=>c27 (.inr h));obtain⟨a',b',c',g'⟩:=F'.un c1 (fun h=>c27 (.inl h)) (fun h=>c27 (.inr h));rw [show e+j-1=e+(j-1)from by omega,(ih (j-1) (by omega) (by omega)).1]at g';rw [g',g]
  ·have key: ∀x:Int,(x= -1\/0<=x/\x<(j:Int))->(if yE (e:Int) x<0 then([]:List Int)else ks' (yE (e:Int) x).toNat)=if x<0 then []else ks x.toNat:=by
    intro x I;rcases I with I|I
    ·rw [C1 I,bq (by decide),bq (by omega)]
    ·rw [Xk (by omega) (by omega) (by omega),aZ (by omega),aZ (by omega),show(x+(e:Int)).toNat=e+x.toNat from by omega,(ih x.toNat (by omega) (by omega)).2]
   have D:=F'.j';have hA' :(xf (e:Int) n).A=yE (e:Int) n.A:=rfl;have hB' :(xf (e:Int) n).B=yE (e:Int) n.B:=rfl;rw [Ni,hA',hB',key n.A hA,key n.B hB,F.j']at D;injection D with D;injection D with D _;exact D.symm
end
structure ZO(l:cQ)(sz:Nat->Nat)(ks:Nat->List Int):Prop where
 pos:1<=l.u'.length
 le:l.u'.length<=60
 all:EX l sz ks
 whole:sz (l.u'.length-1)=l.u'.length
 j':qR l=some (ks (l.u'.length-1),0)
def Nh(hS:sC l)(h:vp l=true): ∃sz ks,ZO l sz ks:=by
 obtain⟨_,_,ob,j,r3,r4⟩:=Mz hS;obtain⟨hL,hj⟩:=r4 h;have hle:=hL.le;have hpos:=hL.pos;obtain⟨N0,_⟩:=hL.inv.at (j:=l.u'.length-1) (by omega);refine⟨zQ ob.first,IB ob.j',hpos,hle,fun j hj=>DB hL.inv hle hj,?_,?_⟩
 ·have e1:=N0.size ko (vc (by omega));have e2:=hL.whole;unfold nz at e2;rw [show(l.u'.length:Int)-1=((l.u'.length-1:Nat):Int)from by omega,e1]at e2;injection e2 with e2;omega
 ·unfold qR;rw [r3,h];simp only [bh,s6,qD,lS];have hk:dm ob.j' j=some (IB ob.j' (l.u'.length-1)):=by
   rw [hj,show(l.u'.length:Int)-1=((l.u'.length-1:Nat):Int)from by omega,bR];unfold IB;rw [qV (by rw [hL.inv.kl];omega)];rfl
  rw [hk];simp only [bh];rw [oA _ (by have:=N0.len;omega)];rfl
def Fw{sz sz' :Nat->Nat}{ks ks' :Nat->List Int}(hS:sC l)(hb:ZO l sz ks)(hg:EX l sz' ks'):ks' (l.u'.length-1)=ks (l.u'.length-1)/\sz' (l.u'.length-1)=l.u'.length:=by
 have hle:=hb.le;have hpos:=hb.pos;have:=aeQ (l:=l) (d:=l) (e:=0) (m:=l.u'.length) hb.all hg (eX _) (by omega) (by omega) (by omega) (fun j hj n hn=>by
  obtain⟨n',F⟩:=hb.all j hj;have e:n' =n:=by have:=F.node;rw [hn]at this;injection this with this;exact this.symm
  subst e;obtain⟨hA,hB⟩:=Fo F;rw [oZ,hn];have hz:=Mj (n:=n') (by omega) (by omega);rw [show((0:Nat):Int)=0 from rfl,hz]) (l.u'.length-1) (by omega)
 simp only [oZ]at this;exact⟨this.2,by rw [this.1];exact hb.whole⟩
