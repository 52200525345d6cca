import Derived.Test.YtdohlidddcgfjaaGreatFbG6
import Derived.Test.YtdohlidddcgfjaaGreatFbV3
/- bR of this claim: H1. -/
set_option linter.all false
namespace Go.Proofs.YtdohlidddcgfjaaGreat
open Go

def xV{n:Nat}(h:n<=900000000):n<eI:=by unfold eI;omega
def rd(b:List Int)(k:Nat)(y:Int):af:=⟨⟨(k:Int),y⟩,b⟩
def vx(b:List Int)(k:Nat)(y:Int):gm (rd b k y)=some y:=by unfold gm;simp [rd]
def yy{b:List Int}{k:Nat}(y:Int)(hk:k<=b.length)(W:b.length<=50000000000):fJ (rd b k y)=some ((b.length-k:Nat):Int):=by
 unfold fJ
 simp only [rd,o0,md]
 rw [p6];congr 1;omega
def JJ{α:Type}{b tl:List α}{k:Nat}{e:α}(h:b.drop k=e::tl):ga b (k:Int)=some e:=eo h
def DM{α:Type}{b:List α}{k:Nat}(h:k<b.length): ∃e,b.drop k=e::b.drop (k+1):=⟨b[k],Cr h⟩
def AY{i:Nat}(h:i<=50000000000):IntKind.i64.wrap ((i:Int)+1)=((i+1:Nat):Int):=by rw [p6];omega
def PZ(x c:Int):Int:=IntKind.u64.wrap ((IntKind.u64.wrap (x*2^(min (Int.toNat (8:Int)) IntKind.u64.bits)))+(IntKind.u64.wrap c))
def MI{b:List Int}(W:b.length<=50000000000): ∀(m n i k f:Nat) (x:Int),i+m=n->n<=50000000000->k+m<=b.length->m<f->
  eC (n:Int) f (i:Int) x (rd b k 0)=some (rd b (k+m) 0,((b.drop k).take m).foldl PZ x)
 |0,n,i,k,f+1,x,Y,_,_,_=>by
  unfold eC
  rw [aZ (by rw [o9];omega)]
  simp
 |m+1,n,i,k,f+1,x,Y,hn,H,Q=>by
  obtain⟨e,he⟩:=DM (b:=b) (k:=k) (by omega)
  unfold eC
  rw [bu (by rw [o9];omega)]
  have e1:ga (rd b k 0).own (rd b k 0).place.at_=some e:=JJ he
  rw [e1,br]
  show(some (PZ x e)).bind _=_
  rw [br,AY (by omega)]
  have e2:({rd b k 0 with place:=({(rd b k 0).place with at_:=IntKind.i64.wrap ((rd b k 0).place.at_+1)}:kK)}:af)=rd b (k+1) 0:=by
   show(⟨⟨IntKind.i64.wrap ((k:Int)+1),0⟩,b⟩:af)=_
   rw [AY (by omega)];rfl
  rw [e2,MI W m n (i+1) (k+1) f (PZ x e) (by omega) hn (by omega) (by omega),he,show k+1+m=k+(m+1)from by omega]
  rfl
def C1{b:List Int}{k n:Nat}(y:Int)(hk:k<=b.length)(W:b.length<=900000000):cb (rd b k y) (n:Int)=
  some (if y≠0 then(0,rd b k y)else if b.length-k<n then(0,rd b k 7)else(((b.drop k).take n).foldl PZ 0,rd b (k+n) 0)):=by
 unfold cb mi
 by_cases hy:y=0
 ·subst hy
  rw [aZ (by simp [rd]),aZ (by rw [o9];omega),yy 0 hk (by omega),br]
  by_cases hn:b.length-k<n
  ·rw [bu (by rw [o9];omega),aZ (by simp),bu hn];rfl
  ·rw [aZ (by rw [o9];omega),aZ (by simp),aZ hn]
   have:=MI (b:=b) (by omega) n n 0 k eI 0 (by omega) (by omega) (by omega) (xV (by omega))
   rw [show((0:Nat):Int)=(0:Int)from rfl]at this
   rw [this];rfl
 ·rw [bu (by simp [rd,hy]),bu hy];rfl
def MJ{b:List Int}(W:b.length<=50000000000): ∀(m n i k f:Nat) (x:List Int),i+m=n->n<=50000000000->k+m<=b.length->m<f->x.length+m<=60000000000->
  ez (n:Int) f (i:Int) x (rd b k 0)=some (rd b (k+m) 0,x++(b.drop k).take m)
 |0,n,i,k,f+1,x,Y,_,_,_,_=>by
  unfold ez
  rw [aZ (by rw [o9];omega)]
  simp
 |m+1,n,i,k,f+1,x,Y,hn,H,Q,h4=>by
  obtain⟨e,he⟩:=DM (b:=b) (k:=k) (by omega)
  unfold ez
  rw [bu (by rw [o9];omega)]
  have e1:ga (rd b k 0).own (rd b k 0).place.at_=some e:=JJ he
  rw [e1,br]
  unfold nQ
  rw [cy (by simp;omega),br,br,AY (by omega)]
  have e2:({rd b k 0 with place:=({(rd b k 0).place with at_:=IntKind.i64.wrap ((rd b k 0).place.at_+1)}:kK)}:af)=rd b (k+1) 0:=by
   show(⟨⟨IntKind.i64.wrap ((k:Int)+1),0⟩,b⟩:af)=_
   rw [AY (by omega)];rfl
  rw [e2,MJ W m n (i+1) (k+1) f (x++[e]) (by omega) hn (by omega) (by omega) (by simp;omega),he,show k+1+m=k+(m+1)from by omega,oB]
  rfl
def E2{b:List Int}{k n:Nat}(y:Int)(hk:k<=b.length)(W:b.length<=900000000):il (rd b k y) (n:Int)=
  some (if y≠0 then([],rd b k y)else if b.length-k<n then([],rd b k 7)else((b.drop k).take n,rd b (k+n) 0)):=by
 unfold il mh
 by_cases hy:y=0
 ·subst hy
  rw [aZ (by simp [rd]),aZ (by rw [o9];omega),yy 0 hk (by omega),br]
  by_cases hn:b.length-k<n
  ·rw [bu (by rw [o9];omega),aZ (by simp),bu hn];rfl
  ·rw [aZ (by rw [o9];omega),aZ (by simp),aZ hn]
   have:=MJ (b:=b) (by omega) n n 0 k eI [] (by omega) (by omega) (by omega) (xV (by omega)) (by simp;omega)
   rw [show((0:Nat):Int)=(0:Int)from rfl]at this
   rw [this];rfl
 ·rw [bu (by simp [rd,hy]),bu hy];rfl
def bn:List Int->Int
 |[]=>0
 |c::l=>c*256^l.length+bn l
def B0{c:Int}{l:List Int}(h:yF (c::l)):(∃n:Nat,n<256/\c=(n:Int))/\yF l:=⟨h c (.head _),fun x V=>h x (.tail _ V)⟩
def QW{x c:Int}(V:0<=x)(hx' :x<256^7)(hc:0<=c)(hc' :c<256):PZ x c=x*256+c:=by
 unfold PZ
 rw [show(2:Int)^(min (Int.toNat (8:Int)) IntKind.u64.bits)=256 from rfl,Av,Av,Av]
 omega
def Gz: ∀(l:List Int) (x:Int) (j:Nat),yF l->0<=x->x<256^j->j+l.length<=8->l.foldl PZ x=x*256^l.length+bn l
 |[],x,_,_,_,_,_=>by show x=x*256^0+0;rw [Int.pow_zero,Int.mul_one,Int.add_zero]
 |c::l,x,j,h,h0,V,hj=>by
  obtain⟨⟨n,Y,rfl⟩,H⟩:=B0 h
  have h7:x<256^7:=by
   have h8:(256:Int)^j<=256^7:=by
    have:(256:Nat)^j<=256^7:=Nat.pow_le_pow_right (by omega) (by simp at hj;omega)
    have h9:((256:Nat):Int)^j<=((256:Nat):Int)^7:=by rw [<-Int.natCast_pow,<-Int.natCast_pow];exact Int.ofNat_le.2 this
    exact h9
   omega
  rw [List.foldl_cons,QW h0 h7 (by omega) (by omega),Gz l (x*256+n) (j+1) H (by omega) (by rw [Int.pow_succ];omega) (by simp at hj ⊢;omega)]
  simp only [bn,jj,Int.pow_succ]
  rw [Int.add_mul,Int.mul_assoc,Int.mul_comm 256 (256^l.length),Int.add_assoc]
def OU{l:List Int}(h:yF l)(hl:l.length<=8):l.foldl PZ 0=bn l:=by
 have:=Gz l 0 0 h (by omega) (by rw [Int.pow_zero];omega) (by omega)
 rw [Int.zero_mul,Int.zero_add]at this;exact this
def yr{l:List Int}(h:yF l)(k:Nat):yF (l.drop k):=fun x V=>h x (List.mem_of_mem_drop V)
def BZ{l:List Int}(h:yF l)(k:Nat):yF (l.take k):=fun x V=>h x (List.mem_of_mem_take V)
end Go.Proofs.YtdohlidddcgfjaaGreat


/- bR of this claim: H2. -/
set_option linter.all false
namespace Go.Proofs.YtdohlidddcgfjaaGreat
open Go

class Fb(ρ:Type) where
 inv:List Int->ρ->Prop
 bad:ρ->Bool
instance rstR:Fb aJ:=⟨fun b r=>r.all=b,fun r=>r.bad⟩
instance rstT:Fb cX:=⟨fun b t=>t.all=(b.length:Int),fun t=>t.bad⟩
variable{ρ:Type} [Fb ρ]
def Ok(b:List Int)(k:Nat)(r:ρ)(o:af):Prop:=Fb.inv b r/\Fb.bad r=false/\o=rd b k 0/\k<=b.length
def No(b:List Int)(r:ρ)(o:af):Prop:=Fb.inv b r/\ ∃k y,o=rd b k y/\k<=b.length/\(Fb.bad r=true\/y≠0)
abbrev Pr(α:Type):=List Int->Option (α×List Int)
def Kh(b:List Int){α:Type}(q:Option (α×List Int))(x:α)(r:ρ)(o:af):Prop:=
 match q with
 |some (v,rest)=>x=v/\ ∃k,Ok b k r o/\b.drop k=rest
 |none=>No b r o
structure Rd(b:List Int){α:Type}(f:ρ->af->Option (α×ρ×af))(p:Pr α):Prop where
 ok: ∀k r o,Ok b k r o-> ∃x r' o',f r o=some (x,r',o')/\Kh b (p (b.drop k)) x r' o'
 no: ∀r o,No b r o-> ∃x r' o',f r o=some (x,r',o')/\No b r' o'
def fv{α β:Type}(p:Pr α)(q:α->Pr β):Pr β:=fun l=>(p l).bind fun u=>q u.1 u.2
def wa{α β:Type}(h:α->β)(p:Pr α):Pr β:=fun l=>(p l).map fun u=>(h u.1,u.2)
def Rd.congr{b:List Int}{α:Type}{f g:ρ->af->Option (α×ρ×af)}{p:Pr α}(h:Rd b f p)(e: ∀r o,g r o=f r o):Rd b g p:=
 ⟨fun k r o hk=>by rw [e];exact h.ok k r o hk,fun r o hn=>by rw [e];exact h.no r o hn⟩
def Rd.bind{b:List Int}{α β:Type}{f:ρ->af->Option (α×ρ×af)}{p:Pr α}{g:α->ρ->af->Option (β×ρ×af)}{q:α->Pr β}(hf:Rd b f p)(X: ∀x,Rd b (g x) (q x)):
  Rd b (fun r o=>(f r o).bind fun u=>g u.1 u.2.1 u.2.2) (fv p q):=by
 refine⟨fun k r o hk=>?_,fun r o hn=>?_⟩
 ·obtain⟨x,r1,o1,Y,H⟩:=hf.ok k r o hk
  rw [Y,br]
  unfold Kh at H
  unfold fv
  cases hp:p (b.drop k)with
  |none=>
   rw [hp]at H
   obtain⟨y,r2,o2,Q,h4⟩:=(X x).no r1 o1 H
   exact⟨y,r2,o2,Q,h4⟩
  |some v=>
   rw [hp]at H
   obtain⟨rfl,k1,Q,h4⟩:=H
   obtain⟨y,r2,o2,h5,h6⟩:=(X v.1).ok k1 r1 o1 Q
   rw [h4]at h6
   exact⟨y,r2,o2,h5,h6⟩
 ·obtain⟨x,r1,o1,Y,H⟩:=hf.no r o hn
  rw [Y,br]
  exact(X x).no r1 o1 H
def J8{b:List Int}{α:Type}(x:α):Rd b (fun(r:ρ) o=>some (x,r,o)) (fun l=>some (x,l)):=
 ⟨fun k r o hk=>⟨x,r,o,rfl,rfl,k,hk,rfl⟩,fun r o hn=>⟨x,r,o,rfl,hn⟩⟩
def Rd.map{b:List Int}{α β:Type}{f:ρ->af->Option (α×ρ×af)}{p:Pr α}(h:α->β)(hf:Rd b f p):
  Rd b (fun r o=>(f r o).bind fun u=>some (h u.1,u.2.1,u.2.2)) (wa h p):=by
 have:=hf.bind (g:=fun x r o=>some (h x,r,o)) (q:=fun x l=>some (h x,l)) fun x=>J8 (h x)
 have e:wa h p=fv p (fun x l=>some (h x,l)):=by
  funext l;unfold wa fv;cases p l<;>rfl
 rw [e];exact this
def Gg{b:List Int}{k:Nat}{r:aJ}{o:af}(h:Ok b k r o):cW r o=some true:=by
 obtain⟨_,H,rfl,_⟩:=h
 have H:r.bad=false:=H
 unfold cW
 rw [H,bu (show(!false)=true from rfl),vx];rfl
def Gh{b:List Int}{r:aJ}{o:af}(h:No b r o):cW r o=some false:=by
 obtain⟨_,k,y,rfl,_,H⟩:=h
 have H:r.bad=true\/y≠0:=H
 unfold cW
 cases W:r.bad with
 |true=>simp
 |false=>
  have hy:y≠0:=by rcases H with h|h;rw [W]at h;cases h;exact h
  rw [bu (show(!false)=true from rfl),vx]
  simp [hy]
def MB{b:List Int}{k:Nat}{r:cX}{o:af}(h:Ok b k r o):fg r o=some true:=by
 obtain⟨_,H,rfl,_⟩:=h
 have H:r.bad=false:=H
 unfold fg
 rw [H,bu (show(!false)=true from rfl),vx];rfl
def MC{b:List Int}{r:cX}{o:af}(h:No b r o):fg r o=some false:=by
 obtain⟨_,k,y,rfl,_,H⟩:=h
 have H:r.bad=true\/y≠0:=H
 unfold fg
 cases W:r.bad with
 |true=>simp
 |false=>
  have hy:y≠0:=by rcases H with h|h;rw [W]at h;cases h;exact h
  rw [bu (show(!false)=true from rfl),vx]
  simp [hy]
structure th(b:List Int){α E:Type}(I:Nat->E->Prop)(f:E->ρ->af->Option (α×ρ×af×E))(p:E->Pr (α×E)):Prop where
 ok: ∀j e k r o,j<=70000->I j e->Ok b k r o-> ∃x r' o' e',f e r o=some (x,r',o',e')/\I (j+1) e' /\Kh b (p e (b.drop k)) (x,e') r' o'
 no: ∀j e r o,j<=70000->I j e->No b r o-> ∃x r' o' e',f e r o=some (x,r',o',e')/\I (j+1) e' /\No b r' o'
def oP{α E:Type}(p:E->Pr (α×E)):Nat->E->Pr (List α×E)
 |0,e,l=>some (([],e),l)
 |n+1,e,l=>(p e l).bind fun u=>(oP p n u.1.2 u.2).bind fun v=>some ((u.1.1::v.1.1,v.1.2),v.2)
def K5{b:List Int}{α E:Type}{I:Nat->E->Prop}{f:E->ρ->af->Option (α×ρ×af×E)}{p:E->Pr (α×E)}(hf:th b I f p){okf:ρ->af->Option Bool}(ok1: ∀k r o,Ok b k r o->okf r o=some true)(ok0: ∀r o,No b r o->okf r o=some false)(N:Int)(hN:N<=65535)
  {L:Nat->List α->Int->ρ->af->E->Option (List α×ρ×af×E)}
  (hL: ∀fu out x r o e,L (fu+1) out x r o e=if decide (x<N)=true then(okf r o).bind fun c=>if(!c)=true then some (out,r,o,e)else(f e r o).bind fun u=>(jb out [u.1]).bind fun out2=>L fu out2 (IntKind.i64.wrap (x+1)) u.2.1 u.2.2.1 u.2.2.2 else some (out,r,o,e)):
  ∀(m i fu:Nat) (out:List α) (k:Nat) (r:ρ) (o:af) (e:E),(i:Int)+m=N->m<fu->out.length<=i->I i e->Ok b k r o->
   ∃ys r' o' e',L fu out i r o e=some (ys,r',o',e')/\Kh b ((oP p m e (b.drop k)).map fun u=>((out++u.1.1,u.1.2),u.2)) (ys,e') r' o' :=by
 intro m
 induction m with
 |zero=>
  intro i fu out k r o e Y H Q h4 h5
  cases fu with
  |zero=>omega
  |succ fu=>
   refine⟨out,r,o,e,?_,by simp [oP],k,h5,rfl⟩
   rw [hL,aZ (by rw [o9];omega)]
 |succ m ih=>
  intro i fu out k r o e Y H Q h4 h5
  cases fu with
  |zero=>omega
  |succ fu=>
   obtain⟨x,r1,o1,e1,g1,g2,g3⟩:=hf.ok i e k r o (by omega) h4 h5
   rw [hL,bu (by rw [o9];omega),ok1 k r o h5,br,aZ (by simp),g1,br,cy (by simp;omega),br,AY (by omega)]
   unfold oP
   unfold Kh at g3
   cases hp:p e (b.drop k)with
   |none=>
    rw [hp]at g3
    cases fu with
    |zero=>omega
    |succ fu=>
     refine⟨out++[x],r1,o1,e1,?_,g3⟩
     rw [hL,ok0 r1 o1 g3]
     split<;>simp
   |some v=>
    obtain⟨⟨v1,v2⟩,v3⟩:=v
    rw [hp]at g3
    obtain⟨hv,k1,g4,g5⟩:=g3
    cases hv
    obtain⟨ys,r2,o2,e2,q1,q2⟩:=ih (i+1) fu (out++[x]) k1 r1 o1 e1 (by omega) (by omega) (by simp;omega) g2 g4
    refine⟨ys,r2,o2,e2,q1,?_⟩
    rw [g5]at q2
    simp only [br]
    cases hq:oP p m e1 v3 with
    |none=>rw [hq]at q2;exact q2
    |some w=>rw [hq]at q2;simpa using q2
def OM{b:List Int}{α E:Type}{okf:ρ->af->Option Bool}(ok0: ∀r o,No b r o->okf r o=some false)(N:Int){L:Nat->List α->Int->ρ->af->E->Option (List α×ρ×af×E)}{g:E->ρ->af->List α->Int->Nat->Option (List α×ρ×af×E)}
  (hL: ∀fu out x r o e,L (fu+1) out x r o e=if decide (x<N)=true then(okf r o).bind fun c=>if(!c)=true then some (out,r,o,e)else g e r o out x fu else some (out,r,o,e))(fu:Nat)(out:List α)(x:Int)(r:ρ)(o:af)(e:E)(h:No b r o):
  L (fu+1) out x r o e=some (out,r,o,e):=by
 rw [hL,ok0 r o h]
 split<;>simp
end Go.Proofs.YtdohlidddcgfjaaGreat


/- bR of this claim: H3. -/
set_option linter.all false
namespace Go.Proofs.YtdohlidddcgfjaaGreat
open Go

def Gy: ∃n,eI=n+1:=⟨eI-1,by have:=xV (n:=0) (by omega);omega⟩
def Ai{ρ:Type} [Fb ρ]{b:List Int}{α E:Type}{I:Nat->E->Prop}{f:E->ρ->af->Option (α×ρ×af×E)}{p:E->Pr (α×E)}(hf:th b I f p){okf:ρ->af->Option Bool}(ok1: ∀k r o,Ok b k r o->okf r o=some true)(ok0: ∀r o,No b r o->okf r o=some false)(N:Int)(hN:N<=65535)(e0:E)(h0:I 0 e0)
  {L:Nat->List α->Int->ρ->af->E->Option (List α×ρ×af×E)}
  (hL: ∀fu out x r o e,L (fu+1) out x r o e=if decide (x<N)=true then(okf r o).bind fun c=>if(!c)=true then some (out,r,o,e)else(f e r o).bind fun u=>(jb out [u.1]).bind fun out2=>L fu out2 (IntKind.i64.wrap (x+1)) u.2.1 u.2.2.1 u.2.2.2 else some (out,r,o,e)):
  Rd b (fun r o=>(L eI [] 0 r o e0).bind fun q=>some (q.1,q.2.1,q.2.2.1)) (fun l=>(oP p N.toNat e0 l).map fun u=>(u.1.1,u.2)):=by
 refine⟨fun k r o hk=>?_,fun r o hn=>?_⟩
 ·rcases Int.lt_or_le N 0 with hneg|hpos
  ·obtain⟨n,hn⟩:=Gy
   rw [hn,hL,aZ (by rw [o9];omega),show N.toNat=0 from by omega]
   exact⟨[],r,o,rfl,rfl,k,hk,rfl⟩
  ·obtain⟨ys,r',o',e',Y,H⟩:=K5 hf ok1 ok0 N hN hL N.toNat 0 eI [] k r o e0 (by omega) (xV (by omega)) (by simp) h0 hk
   rw [show((0:Nat):Int)=(0:Int)from rfl]at Y
   rw [Y]
   refine⟨ys,r',o',rfl,?_⟩
   cases hq:oP p N.toNat e0 (b.drop k)with
   |none=>rw [hq]at H;exact H
   |some w=>
    rw [hq]at H
    obtain⟨Q,h4⟩:=H
    exact⟨by have:=congrArg Prod.fst Q;simpa using this,h4⟩
 ·obtain⟨n,hn'⟩:=Gy
  rw [hn',OM ok0 N (g:=fun e r o out x fu=>(f e r o).bind fun u=>(jb out [u.1]).bind fun out2=>L fu out2 (IntKind.i64.wrap (x+1)) u.2.1 u.2.2.1 u.2.2.2) hL n [] 0 r o e0 hn]
  exact⟨[],r,o,rfl,hn⟩
def pw(n:Nat):Pr Int:=fun l=>if l.length<n then none else some (bn (l.take n),l.drop n)
def wR{ρ:Type}(n:Nat)(r:ρ)(o:af):Option (Int×ρ×af):=(cb o (n:Int)).map fun q=>(q.1,r,q.2)
section
variable{b:List Int}(W:b.length<=900000000)(hby:yF b)
include W hby
def Fy{ρ:Type} [Fb ρ](n:Nat)(hn:n<=8):Rd b (wR (ρ:=ρ) n) (pw n):=by
 refine⟨fun k r o ⟨Y,H,Q,h4⟩=>?_,fun r o ⟨Y,k,y,Q,h4,h5⟩=>?_⟩
 ·subst Q
  unfold wR pw
  rw [C1 0 h4 W,aZ (by simp),zX]
  by_cases h:b.length-k<n
  ·rw [bu h,bu h]
   exact⟨0,r,rd b k 7,rfl,Y,k,7,rfl,h4,.inr (by decide)⟩
  ·rw [aZ h,aZ h]
   refine⟨_,r,_,rfl,OU (BZ (yr hby k) n) (by simp;omega),k+n,⟨Y,H,rfl,by omega⟩,by rw [sa]⟩
 ·subst Q
  unfold wR
  rw [C1 y h4 W]
  split
  ·exact⟨_,_,_,rfl,Y,k,y,rfl,h4,h5⟩
  ·rename_i hy
   have hbad:Fb.bad r=true:=h5.resolve_right hy
   split
   ·exact⟨_,_,_,rfl,Y,k,7,rfl,h4,.inl hbad⟩
   ·exact⟨_,_,_,rfl,Y,k+n,0,rfl,by omega,.inl hbad⟩
end
def h8(x:Int):Int:=IntKind.u8.wrap x
def p8:Pr Int:=wa (fun x=>IntKind.i64.wrap (IntKind.u8.wrap x)) (pw 1)
def kY(r:aJ)(o:af):Option (Int×aJ×af):=(bl r o).map fun q=>(q.1,r,q.2)
section
variable{b:List Int}(W:b.length<=900000000)(hby:yF b)
include W hby
def nz:Rd b kY p8:=((Fy W hby 1 (by omega)).map _).congr fun r o=>by
 unfold kY wR bl cq
 rw [show((1:Nat):Int)=1 from rfl]
 cases cb o 1<;>rfl
def L9{ρ:Type}(r:ρ)(o:af):Option (Int×ρ×af):=(jB o).map fun q=>(IntKind.i64.wrap q.1,r,q.2)
def V5:Pr Int:=wa (fun x=>IntKind.i64.wrap (IntKind.u16.wrap x)) (pw 2)
def Q0{ρ:Type} [Fb ρ]:Rd b (L9 (ρ:=ρ)) V5:=((Fy W hby 2 (by omega)).map _).congr fun r o=>by
 unfold L9 wR jB
 rw [show((2:Nat):Int)=2 from rfl]
 cases cb o 2<;>rfl
def Oe{ρ:Type}(r:ρ)(o:af):Option (Int×ρ×af):=(m8 o).map fun q=>(q.1,r,q.2)
def V4:Pr Int:=wa IntKind.u32.wrap (pw 4)
def QZ{ρ:Type} [Fb ρ]:Rd b (Oe (ρ:=ρ)) V4:=((Fy W hby 4 (by omega)).map _).congr fun r o=>by
 unfold Oe wR m8
 rw [show((4:Nat):Int)=4 from rfl]
 cases cb o 4<;>rfl
def FB{ρ:Type}(r:ρ)(o:af):Option (Int×ρ×af):=(fC o).map fun q=>(q.1,r,q.2)
def Hx{ρ:Type} [Fb ρ]:Rd b (FB (ρ:=ρ)) (pw 8):=(Fy W hby 8 (by omega)).congr fun r o=>by
 unfold FB wR fC
 rw [show((8:Nat):Int)=8 from rfl]
 cases cb o 8<;>rfl
def Dq:Pr Bool:=fun l=>(p8 l).bind fun u=>if 1<u.1 then none else some (u.1==1,u.2)
def JM:Rd b iU Dq:=by
 have hs:=nz W hby
 have e: ∀r o,iU r o=(cq o).bind fun r1=>some ((r1.1==(1:Int)),({r with bad:=(r.bad||(decide ((1:Int)<r1.1)))}:aJ),r1.2):=fun _ _=>rfl
 have u8: ∀r o x r' o',kY r o=some (x,r',o')-> ∃c,cq o=some (c,o')/\r' =r/\x=IntKind.i64.wrap c/\IntKind.u8.wrap c=c:=by
  intro r o x r' o' h
  unfold kY bl cq at h
  unfold cq
  cases hq:cb o 1 with
  |none=>rw [hq]at h;cases h
  |some q=>
   rw [hq]at h
   cases h
   exact⟨_,rfl,rfl,rfl,by rw [xz,xz];omega⟩
 have wc: ∀c,IntKind.u8.wrap c=c->IntKind.i64.wrap c=c:=fun c h=>by rw [xz]at h;rw [p6];omega
 refine⟨fun k r o hk=>?_,fun r o hn=>?_⟩
 ·obtain⟨x,r1,o1,Y,H⟩:=hs.ok k r o hk
  obtain⟨c,Q,rfl,rfl,h4⟩:=u8 r o x r1 o1 Y
  rw [e,Q,br]
  rw [wc c h4]at H
  refine⟨_,_,_,rfl,?_⟩
  unfold Dq
  unfold Kh at H
  cases hp:p8 (b.drop k)with
  |none=>
   rw [hp]at H
   obtain⟨g1,k',y,g2,g3,g4⟩:=H
   exact⟨g1,k',y,g2,g3,g4.imp (fun(h:r1.bad=true)=>show(r1.bad||_)=true by rw [h];rfl) id⟩
  |some v=>
   rw [hp]at H
   obtain⟨rfl,k',⟨g1,g2,g3,g4⟩,g5⟩:=H
   by_cases h1c:1<v.1
   ·simp only [br,bu h1c]
    exact⟨g1,k',0,g3,g4,.inl (show(r1.bad||decide (1<v.1))=true by simp [h1c])⟩
   ·simp only [br,aZ h1c]
    exact⟨rfl,k',⟨g1,(show(r1.bad||decide (1<v.1))=false by rw [show r1.bad=false from g2];simp [h1c]),g3,g4⟩,g5⟩
 ·obtain⟨x,r1,o1,Y,H⟩:=hs.no r o hn
  obtain⟨c,Q,rfl,rfl,h4⟩:=u8 r o x r1 o1 Y
  rw [e,Q,br]
  obtain⟨g1,k',y,g2,g3,g4⟩:=H
  exact⟨_,_,_,rfl,g1,k',y,g2,g3,g4.imp (fun(h:r1.bad=true)=>show(r1.bad||_)=true by rw [h];rfl) id⟩
end
def Rd.toE{ρ:Type} [Fb ρ]{b:List Int}{α:Type}{f:ρ->af->Option (α×ρ×af)}{p:Pr α}(h:Rd b f p):th b (fun _ _=>True) (fun(_:Unit) r o=>(f r o).map fun q=>(q.1,q.2.1,q.2.2,())) (fun _ l=>(p l).map fun u=>((u.1,()),u.2)):=by
 refine⟨fun j e k r o _ _ hk=>?_,fun j e r o _ _ hn=>?_⟩
 ·obtain⟨x,r1,o1,Y,H⟩:=h.ok k r o hk
  refine⟨x,r1,o1,(),by rw [Y];rfl,trivial,?_⟩
  unfold Kh at H ⊢
  cases hp:p (b.drop k)with
  |none=>rw [hp]at H;exact H
  |some v=>rw [hp]at H;exact⟨by rw [H.1],H.2⟩
 ·obtain⟨x,r1,o1,Y,H⟩:=h.no r o hn
  exact⟨x,r1,o1,(),by rw [Y];rfl,trivial,H⟩
def pl{α:Type}(p:Pr α):Nat->Pr (List α)
 |0,l=>some ([],l)
 |n+1,l=>(p l).bind fun u=>(pl p n u.2).bind fun v=>some (u.1::v.1,v.2)
def Ew{α:Type}(p:Pr α): ∀(n:Nat) (l:List Int),(oP (fun(_:Unit) l=>(p l).map fun u=>((u.1,()),u.2)) n () l).map (fun u=>(u.1.1,u.2))=pl p n l
 |0,_=>rfl
 |n+1,l=>by
  unfold oP pl
  cases p l with
  |none=>rfl
  |some u=>
   simp only [uk,br]
   rw [<-Ew p n u.2]
   cases oP (fun(_:Unit) l=>(p l).map fun u=>((u.1,()),u.2)) n () u.2<;>rfl
end Go.Proofs.YtdohlidddcgfjaaGreat


/- bR of this claim: H4. -/
set_option linter.all false
namespace Go.Proofs.YtdohlidddcgfjaaGreat
open Go

variable{ρ:Type} [Fb ρ]
def Qd(r:ρ)(o:af):Option (Int×ρ×af):=(cq o).map fun q=>(IntKind.i64.wrap q.1,r,q.2)
def Mr(n:Nat)(r:ρ)(o:af):Option (List Int×ρ×af):=(il o (n:Int)).map fun q=>(q.1,r,q.2)
def Mt(n:Nat):Pr (List Int):=fun l=>if l.length<n then none else some (l.take n,l.drop n)
def xO(c:Bool)(t:cX)(o:af):Option (Unit×cX×af):=(cI t o c).map fun t' =>((),t',o)
def zF(c:Bool):Pr Unit:=fun l=>if c then some ((),l)else none
def AN{α:Type}(okf:ρ->af->Option Bool)(x0:α)(f:ρ->af->Option (α×ρ×af))(r:ρ)(o:af):Option (α×ρ×af):=(okf r o).bind fun c=>if c then f r o else some (x0,r,o)
section
variable{b:List Int}(W:b.length<=900000000)(hby:yF b)
include W hby
def L7:Rd b (Qd (ρ:=ρ)) p8:=((Fy W hby 1 (by omega)).map _).congr fun r o=>by
 unfold Qd wR cq
 rw [show((1:Nat):Int)=1 from rfl]
 cases cb o 1<;>rfl
omit hby in
def Ra(n:Nat):Rd b (Mr (ρ:=ρ) n) (Mt n):=by
 refine⟨fun k r o ⟨Y,H,Q,h4⟩=>?_,fun r o ⟨Y,k,y,Q,h4,h5⟩=>?_⟩
 ·subst Q
  unfold Mr Mt
  rw [E2 0 h4 W,aZ (by simp),zX]
  by_cases h:b.length-k<n
  ·rw [bu h,bu h]
   exact⟨[],r,rd b k 7,rfl,Y,k,7,rfl,h4,.inr (by decide)⟩
  ·rw [aZ h,aZ h]
   exact⟨_,r,_,rfl,rfl,k+n,⟨Y,H,rfl,by omega⟩,by rw [sa]⟩
 ·subst Q
  unfold Mr
  rw [E2 y h4 W]
  split
  ·exact⟨_,_,_,rfl,Y,k,y,rfl,h4,h5⟩
  ·rename_i hy
   have hbad:Fb.bad r=true:=h5.resolve_right hy
   split
   ·exact⟨_,_,_,rfl,Y,k,7,rfl,h4,.inl hbad⟩
   ·exact⟨_,_,_,rfl,Y,k+n,0,rfl,by omega,.inl hbad⟩
end
def ED{b:List Int}(c:Bool):Rd b (xO c) (zF c):=by
 refine⟨fun k r o ⟨Y,H,Q,h4⟩=>?_,fun r o ⟨Y,k,y,Q,h4,h5⟩=>?_⟩
 ·subst Q
  have H:r.bad=false:=H
  unfold xO cI zF
  rw [H,aZ (by simp),vx]
  cases c with
  |true=>exact⟨(),_,_,rfl,rfl,k,⟨Y,rfl,rfl,h4⟩,rfl⟩
  |false=>exact⟨(),_,_,rfl,Y,k,0,rfl,h4,.inl rfl⟩
 ·subst Q
  have h5:r.bad=true\/y≠0:=h5
  unfold xO cI
  cases W:r.bad with
  |true=>exact⟨(),_,_,rfl,Y,k,y,rfl,h4,.inl rfl⟩
  |false=>
   have hy:y≠0:=by rcases h5 with h|h;rw [W]at h;cases h;exact h
   rw [aZ (by simp),vx]
   exact⟨(),_,_,rfl,Y,k,y,rfl,h4,.inr hy⟩
def J7{b:List Int}{α:Type}{okf:ρ->af->Option Bool}(ok1: ∀k r o,Ok b k r o->okf r o=some true)(ok0: ∀r o,No b r o->okf r o=some false)(x0:α){f:ρ->af->Option (α×ρ×af)}{p:Pr α}(hf:Rd b f p):Rd b (AN okf x0 f) p:=by
 refine⟨fun k r o hk=>?_,fun r o hn=>?_⟩
 ·unfold AN
  rw [ok1 k r o hk]
  exact hf.ok k r o hk
 ·unfold AN
  rw [ok0 r o hn]
  exact⟨x0,r,o,rfl,hn⟩
def BT(v:ap):cX->af->Option (ap×cX×af):=fun t o=>(xO (jG v) t o).bind fun u=>some (v,u.2.1,u.2.2)
def Bh(v:ap):Pr ap:=fv (zF (jG v)) fun _ l=>some (v,l)
def yn{b:List Int}(v:ap):Rd b (BT v) (Bh v):=(ED _).bind (g:=fun _ t o=>some (v,t,o)) fun _=>J8 v
def v0:ap:=⟨0,0,0,[]⟩
def i64(x:Int):Int:=IntKind.i64.wrap x
def dN(c x:Int):cX->af->Option (ap×cX×af):=BT ⟨c,x,0,[]⟩
def Ri(c:Int)(t:cX)(o:af):Option (ap×cX×af):=(Qd t o).bind fun u=>dN c u.1 u.2.1 u.2.2
def Ry(c:Int)(t:cX)(o:af):Option (ap×cX×af):=(FB t o).bind fun u=>dN c (i64 u.1) u.2.1 u.2.2
def dS(c:Int)(ae:List Int):cX->af->Option (ap×cX×af):=BT ⟨c,0,0,kM ae⟩
def Oq(c u:Int)(t:cX)(o:af):Option (ap×cX×af):=(AN fg [] (Mr u.toNat) t o).bind fun ae=>dS c ae.1 ae.2.1 ae.2.2
def Oo(c u:Int)(t:cX)(o:af):Option (ap×cX×af):=(xO (decide (u<=40)) t o).bind fun w=>Oq c u w.2.1 w.2.2
def Q3(c:Int)(t:cX)(o:af):Option (ap×cX×af):=(Qd t o).bind fun u=>Oo c u.1 u.2.1 u.2.2
def dU(c u w:Int):cX->af->Option (ap×cX×af):=BT ⟨c,i64 u,w,[]⟩
def Ol(c u:Int)(t:cX)(o:af):Option (ap×cX×af):=(FB t o).bind fun w=>dU c u w.1 w.2.1 w.2.2
def Q5(c:Int)(t:cX)(o:af):Option (ap×cX×af):=(FB t o).bind fun u=>Ol c u.1 u.2.1 u.2.2
def J4(c:Int):cX->af->Option (ap×cX×af):=if c==1 then Ri c else if c==2 then Ry c else if c==3 then Q3 c else if c==4 then Q5 c else BT ⟨c,0,0,[]⟩
def Tw(c:Int):Pr ap:=fv p8 fun u=>Bh ⟨c,u,0,[]⟩
def Tx(c:Int):Pr ap:=fv (pw 8) fun u=>Bh ⟨c,i64 u,0,[]⟩
def Qh(c u:Int):Pr ap:=fv (Mt u.toNat) fun ae=>Bh ⟨c,0,0,kM ae⟩
def Qg(c u:Int):Pr ap:=fv (zF (decide (u<=40))) fun _=>Qh c u
def Tv(c:Int):Pr ap:=fv p8 (Qg c)
def Qf(c u:Int):Pr ap:=fv (pw 8) fun w=>Bh ⟨c,i64 u,w,[]⟩
def Tu(c:Int):Pr ap:=fv (pw 8) (Qf c)
def Dr(c:Int):Pr ap:=if c==1 then Tw c else if c==2 then Tx c else if c==3 then Tv c else if c==4 then Tu c else Bh ⟨c,0,0,[]⟩
section
variable{b:List Int}(W:b.length<=900000000)(hby:yF b)
include W hby
def PP(c:Int):Rd b (J4 c) (Dr c):=by
 have a1:Rd b (Ri c) (Tw c):=Rd.bind (g:=fun u=>dN c u) (L7 W hby) fun u=>yn _
 have a2:Rd b (Ry c) (Tx c):=Rd.bind (g:=fun u=>dN c (i64 u)) (Hx W hby) fun u=>yn _
 have a3: ∀u,Rd b (Oq c u) (Qh c u):=fun u=>Rd.bind (g:=fun ae=>dS c ae) (J7 (fun _ _ _=>MB) (fun _ _=>MC) [] (Ra W _)) fun ae=>yn _
 have a4: ∀u,Rd b (Oo c u) (Qg c u):=fun u=>Rd.bind (g:=fun _=>Oq c u) (ED _) fun _=>a3 u
 have a5:Rd b (Q3 c) (Tv c):=Rd.bind (g:=Oo c) (L7 W hby) a4
 have a6: ∀u,Rd b (Ol c u) (Qf c u):=fun u=>Rd.bind (g:=fun w=>dU c u w) (Hx W hby) fun w=>yn _
 have a7:Rd b (Q5 c) (Tu c):=Rd.bind (g:=Ol c) (Hx W hby) a6
 unfold J4 Dr
 split
 ·exact a1
 split
 ·exact a2
 split
 ·exact a5
 split
 ·exact a7
 ·exact yn _
end
def pv:Pr ap:=fv p8 fun c=>fv (zF (decide (c<=4))) fun _=>Dr c
def Jl(c:Int):cX->af->Option (ap×cX×af):=AN fg ⟨c,0,0,[]⟩ (J4 c)
def Jk(c:Int)(t:cX)(o:af):Option (ap×cX×af):=(xO (decide (c<=4)) t o).bind fun u=>Jl c u.2.1 u.2.2
def QY(t:cX)(o:af):Option (ap×cX×af):=(Qd t o).bind fun u=>Jk u.1 u.2.1 u.2.2
def Wh(x:Bool):((if x then(0:Int)else 120)==0)=x:=by cases x<;>rfl
def vP(v:ap)(t:cX)(o:af):((gi v).bind fun r=>(cI t o (r==(0:Int))).bind fun t' =>some (v,t',o))=BT v t o:=by
 rw [qQ,br,Wh]
 unfold BT xO
 cases cI t o (jG v)<;>rfl
def S9{o:af}{q:Int×af}(h:cq o=some q):0<=IntKind.i64.wrap q.1:=by
 unfold cq at h
 cases hw:cb o 1 with
 |none=>rw [hw]at h;cases h
 |some w=>
  rw [hw]at h
  cases h
  rw [xz,p6]
  omega
def LY(t:cX)(o:af):ky t o=QY t o:=by
 unfold ky QY Qd
 cases Y:cq o with
 |none=>rfl
 |some r=>
  simp only [uk,br]
  unfold Jk xO
  cases H:cI t r.2 (decide (IntKind.i64.wrap r.1<=4))with
  |none=>rfl
  |some t1=>
   simp only [uk,br]
   unfold Jl AN
   cases Q:fg t1 r.2 with
   |none=>rfl
   |some c=>
    cases c with
    |false=>rfl
    |true=>
     simp only [br,qK,o0,md,jY]
     unfold J4
     generalize IntKind.i64.wrap r.1=k
     by_cases e1:(k==1)=true
     ·rw [bu e1,bu e1]
      unfold Ri Qd
      cases cq r.2 with
      |none=>rfl
      |some q=>exact vP _ _ _
     rw [aZ e1,aZ e1]
     by_cases e2:(k==2)=true
     ·rw [bu e2,bu e2]
      unfold Ry FB
      cases fC r.2 with
      |none=>rfl
      |some q=>exact vP _ _ _
     rw [aZ e2,aZ e2]
     by_cases e3:(k==3)=true
     ·rw [bu e3,bu e3]
      unfold Q3 Qd
      cases hq:cq r.2 with
      |none=>rfl
      |some q=>
       simp only [uk,br]
       unfold Oo xO
       cases cI t1 q.2 (decide (IntKind.i64.wrap q.1<=40))with
       |none=>rfl
       |some t2=>
        simp only [uk,br]
        unfold Oq AN
        cases fg t2 q.2 with
        |none=>rfl
        |some c=>
         cases c with
         |false=>exact vP _ _ _
         |true=>
          simp only [br,jY]
          unfold Mr
          rw [Int.toNat_of_nonneg (S9 hq)]
          cases il q.2 (IntKind.i64.wrap q.1)with
          |none=>rfl
          |some ae=>exact vP _ _ _
     rw [aZ e3,aZ e3]
     by_cases e4:(k==4)=true
     ·rw [bu e4,bu e4]
      unfold Q5 FB
      cases fC r.2 with
      |none=>rfl
      |some q=>
       simp only [uk,br]
       unfold Ol FB
       cases fC q.2 with
       |none=>rfl
       |some q2=>exact vP _ _ _
     rw [aZ e4,aZ e4]
     exact vP _ _ _
def LX{b:List Int}(W:b.length<=900000000)(hby:yF b):Rd b ky pv:=by
 have a1: ∀c,Rd b (Jl c) (Dr c):=fun c=>J7 (fun _ _ _=>MB) (fun _ _=>MC) _ (PP W hby c)
 have a2: ∀c,Rd b (Jk c) (fv (zF (decide (c<=4))) fun _=>Dr c):=fun c=>Rd.bind (g:=fun _=>Jl c) (ED _) fun _=>a1 c
 have a3:Rd b QY pv:=Rd.bind (g:=Jk) (L7 W hby) a2
 exact a3.congr LY
end Go.Proofs.YtdohlidddcgfjaaGreat


/- bR of this claim: H5. -/
set_option linter.all false
namespace Go.Proofs.YtdohlidddcgfjaaGreat
open Go

def IR{α:Type}{xs ys:List α}(h:xs.length=ys.length):ni xs ys=ys:=by
 unfold ni
 rw [h,sb (jW _),Nat.min_self,<-h,D8 (jW _),sC]
def J6{b:List Int}(W:b.length<=900000000):qZ b=some (rd b 0 0):=by
 unfold qZ
 have h:tn (b.length:Int) (0:Int)=some (List.replicate b.length 0):=by
  unfold tn
  rw [bu (by omega)];simp
 rw [h,br,br,IR (by simp)]
 rfl
def rj:af:=⟨⟨0,0⟩,[]⟩
def CN{b:List Int}(W:b.length<=900000000):tW b=some (⟨rj,(b.length:Int),false⟩,rd b 0 0):=by
 unfold tW
 rw [J6 W];rfl
def CK{b:List Int}(W:b.length<=900000000):tH b=some (⟨rj,b,false⟩,rd b 0 0):=by
 unfold tH
 rw [J6 W];rfl
def NK{α:Type}(l:List Int)(p:Pr α)(q:α×Int×Int):Prop:=
 match p l with
 |some (v,rest)=> ∃k:Nat,k<=l.length/\q=(v,(k:Int),0)/\rest=l.drop k
 |none=>q.2.2≠0
def Kv{l:List Int}(hl:l.length<=900000000){v:ap}{t:cX}{o:af}(h:Kh l (pv l) v t o): ∃q,jU t o v=some q/\NK l pv q:=by
 unfold Kh at h
 unfold NK jU
 cases hp:pv l with
 |none=>
  rw [hp]at h
  obtain⟨_,k,y,rfl,H,Q⟩:=h
  have Q:t.bad=true\/y≠0:=Q
  cases W:t.bad with
  |true=>exact⟨_,rfl,show(160:Int)≠0 by decide⟩
  |false=>
   have hy:y≠0:=by rcases Q with h|h;rw [W]at h;cases h;exact h
   rw [aZ (by simp),vx,br,bu (by simpa using hy),br]
   exact⟨_,rfl,hy⟩
 |some w=>
  rw [hp]at h
  obtain⟨rfl,k,⟨g1,g2,rfl,g4⟩,g5⟩:=h
  have g1:t.all=(l.length:Int):=g1
  have g2:t.bad=false:=g2
  rw [g2,aZ (by simp),vx,br,aZ (by simp),yy 0 g4 (by omega),br]
  refine⟨_,rfl,k,g4,?_,g5.symm⟩
  rw [g1,p6]
  have:(l.length:Int)-((l.length-k:Nat):Int)=(k:Int):=by omega
  rw [this]
  have:((k:Int)+9223372036854775808)%18446744073709551616-9223372036854775808=(k:Int):=by omega
  simp [this]
def vr{l:List Int}(hl:l.length<=900000000)(hby:yF l): ∃q,nK l=some q/\NK l pv q:=by
 unfold nK
 rw [CN hl,br]
 obtain⟨v,t,o,Y,H⟩:=(LX hl hby).ok 0 ⟨rj,(l.length:Int),false⟩ (rd l 0 0) ⟨rfl,rfl,rfl,by omega⟩
 rw [Y,br]
 obtain⟨q,Q,h4⟩:=Kv hl H
 rw [Q]
 exact⟨q,rfl,h4⟩
def Jq{b:List Int}(W:b.length<=900000000){r:aJ}(h:r.all=b){k:Nat}(y:Int)(hk:k<=b.length):mt r (rd b k y)=some (b.drop k):=by
 unfold mt
 rw [yy y hk (by omega),br,h]
 have e:IntKind.i64.wrap ((b.length:Int)-((b.length-k:Nat):Int))=(k:Int):=by rw [p6];omega
 rw [e]
 have:dz b (k:Int) (b.length:Int)=some (b.drop k):=by
  rw [qA hk (jW _),Au]
 rw [this];rfl
def Jn{b:List Int}(W:b.length<=900000000){α:Type}{p:Pr α}{q:α×Int×Int}{k:Nat}(hq:NK (b.drop k) p q):
  (∀r:aJ,Ok b k r (rd b k 0)-> ∃r' o',iT r (rd b k 0) q.2.1 q.2.2=some (r',o')/\Kh b (p (b.drop k)) q.1 r' o')/\
  (∀(r:aJ) (y:Int),k<=b.length->No b r (rd b k y)->(r.bad=true\/y≠0)-> ∃r' o',iT r (rd b k y) q.2.1 q.2.2=some (r',o')/\No b r' o'):=by
 unfold NK at hq
 constructor
 ·intro r ⟨Y,H,_,h4⟩
  unfold iT Kh
  cases hp:p (b.drop k)with
  |none=>
   rw [hp]at hq
   rw [bu (by simpa using hq)]
   exact⟨_,_,rfl,Y,k,0,rfl,h4,.inl rfl⟩
  |some w=>
   rw [hp]at hq
   obtain⟨j,hj,rfl,hr⟩:=hq
   rw [zX]at hj
   rw [aZ (by simp),E2 0 h4 W,aZ (by simp),aZ (by omega)]
   exact⟨_,_,rfl,rfl,k+j,⟨Y,H,rfl,by omega⟩,by rw [hr,sa]⟩
 ·intro r y hk hn hy
  unfold iT
  split
  ·exact⟨_,_,rfl,hn.1,k,y,rfl,hk,.inl rfl⟩
  ·rename_i he
   cases hp:p (b.drop k)with
   |none=>rw [hp]at hq;exact absurd hq (by simpa using he)
   |some w=>
    rw [hp]at hq
    obtain⟨j,hj,rfl,hr⟩:=hq
    rw [zX]at hj
    rw [E2 y hk W]
    split
    ·exact⟨_,_,rfl,hn.1,k,y,rfl,hk,hy⟩
    ·rename_i h0
     have hbad:r.bad=true:=hy.resolve_right h0
     split
     ·exact⟨_,_,rfl,hn.1,k,7,rfl,hk,.inl hbad⟩
     ·exact⟨_,_,rfl,hn.1,k+j,0,rfl,by omega,.inl hbad⟩
def Li{b:List Int}(W:b.length<=900000000)(hby:yF b):Rd b im pv:=by
 refine⟨fun k r o hk=>?_,fun r o hn=>?_⟩
 ·obtain⟨Y,H,rfl,h4⟩:=hk
  obtain⟨q,g1,g2⟩:=vr (l:=b.drop k) (by simp;omega) (yr hby k)
  obtain⟨r',o',g3,g4⟩:=(Jn W g2).1 r ⟨Y,H,rfl,h4⟩
  unfold im
  rw [Jq W Y 0 h4,br,g1,br,g3]
  exact⟨_,_,_,rfl,g4⟩
 ·have hn' :=hn
  obtain⟨Y,k,y,rfl,h4,h5⟩:=hn
  obtain⟨q,g1,g2⟩:=vr (l:=b.drop k) (by simp;omega) (yr hby k)
  obtain⟨r',o',g3,g4⟩:=(Jn W g2).2 r y h4 hn' h5
  unfold im
  rw [Jq W Y y h4,br,g1,br,g3]
  exact⟨_,_,_,rfl,g4⟩
end Go.Proofs.YtdohlidddcgfjaaGreat


/- bR of this claim: H6. -/
set_option linter.all false
namespace Go.Proofs.YtdohlidddcgfjaaGreat
open Go

def yw{ρ:Type} [Fb ρ]{b:List Int}{α β:Type}{f:ρ->af->Option (α×ρ×af)}{p:Pr α}{g:α->ρ->af->Option (β×ρ×af)}{q:α->Pr β}(P:α->Prop)(hP: ∀r o x r' o',f r o=some (x,r',o')->P x)(hf:Rd b f p)(X: ∀x,P x->Rd b (g x) (q x)):
  Rd b (fun r o=>(f r o).bind fun u=>g u.1 u.2.1 u.2.2) (fv p q):=by
 refine⟨fun k r o hk=>?_,fun r o hn=>?_⟩
 ·obtain⟨x,r1,o1,Y,H⟩:=hf.ok k r o hk
  have V:=hP _ _ _ _ _ Y
  rw [Y,br]
  unfold Kh at H
  unfold fv
  cases hp:p (b.drop k)with
  |none=>
   rw [hp]at H
   obtain⟨y,r2,o2,Q,h4⟩:=(X x V).no r1 o1 H
   exact⟨y,r2,o2,Q,h4⟩
  |some v=>
   rw [hp]at H
   obtain⟨rfl,k1,Q,h4⟩:=H
   obtain⟨y,r2,o2,h5,h6⟩:=(X v.1 V).ok k1 r1 o1 Q
   rw [h4]at h6
   exact⟨y,r2,o2,h5,h6⟩
 ·obtain⟨x,r1,o1,Y,H⟩:=hf.no r o hn
  rw [Y,br]
  exact(X x (hP _ _ _ _ _ Y)).no r1 o1 H
def wz(x:Int):Prop:=0<=x/\x<=255
def wJ{r r' :aJ}{o o' :af}{x:Int}(h:kY r o=some (x,r',o')):wz x:=by
 unfold kY bl at h
 cases hq:cq o with
 |none=>rw [hq]at h;cases h
 |some q=>
  rw [hq]at h
  cases h
  unfold cq at hq
  cases hw:cb o 1 with
  |none=>rw [hw]at hq;cases hq
  |some w=>
   rw [hw]at hq
   cases hq
   unfold wz
   rw [xz,p6]
   omega
def JB(N:Int)(r:aJ)(o:af):Option (List Int×aJ×af):=(kw r o N).map fun q=>(q.1,r,q.2)
def KX(r:aJ)(o:af):Option (List Int×aJ×af):=(gn r o).map fun q=>(q.1,r,q.2)
def Jv(N:Int):Pr (List Int):=pl p8 N.toNat
def KP:Pr (List Int):=fv p8 Jv
section
variable{b:List Int}(W:b.length<=900000000)(hby:yF b)
include W hby
def OL(N:Int)(hN:N<=65535):Rd b (JB N) (Jv N):=by
 have h:=Ai (nz W hby).toE (fun _ _ _=>Gg) (fun _ _=>Gh) N hN () trivial (L:=fun fu out x r o _=>(go r N fu out x o).map fun q=>(q.1,r,q.2,())) (by
  intro fu out x r o e
  cases e
  simp only [go]
  by_cases V:decide (x<N)=true
  ·simp only [V,jY]
   cases cW r o with
   |none=>rfl
   |some c=>
    cases c with
    |false=>rfl
    |true=>
     unfold kY
     simp only [br,qK,o0,md]
     cases bl r o with
     |none=>rfl
     |some q=>
      simp only [br,uk]
      cases jb out [q.1]<;>rfl
  ·simp only [V];rfl)
 have e:(fun l=>(oP (fun(_:Unit) l=>(p8 l).map fun u=>((u.1,()),u.2)) N.toNat () l).map fun u=>(u.1.1,u.2))=Jv N:=funext fun l=>Ew p8 N.toNat l
 rw [e]at h
 refine h.congr fun r o=>?_
 unfold JB kw
 cases go r N eI [] 0 o<;>rfl
def MG:Rd b KX KP:=by
 have:=yw (g:=JB) (q:=Jv) wz (fun _ _ _ _ _=>wJ) (nz W hby) fun x V=>OL W hby x (by unfold wz at V;omega)
 refine this.congr fun r o=>?_
 unfold KX gn kY JB
 cases bl r o with
 |none=>rfl
 |some q=>
  simp only [br,uk]
  cases kw r q.2 q.1<;>rfl
end
def Ac(t:List Int)(D:t.length<=900000000):lR t=some (match t.getLast? with|none=>(-1,t)|some x=>(x,t.dropLast)):=by
 unfold lR
 rcases List.eq_nil_or_concat t with rfl|⟨l,x,rfl⟩
 ·rfl
 ·simp only [List.concat_eq_append]at*
  rw [aZ (by simp;omega)]
  have e:IntKind.i64.wrap ((((l++[x]).length:Nat):Int)-1)=(l.length:Int):=by
   rw [p6];simp at D ⊢;omega
  rw [e,eZ,uo (jW _)]
  simp only [uc,CV,br]
  rw [show(0:Int)=((0:Nat):Int)from rfl,qA (nv _) (by simp),br]
  simp
def CB:Nat->List Int->Option (Int×Int×List Int)
 |0,t=>some (-1,-1,t)
 |1,t=>match t.getLast? with|none=>none|some x=>some (x,-1,t.dropLast)
 |_+2,t=>match t.getLast? with|none=>none|some y=>match t.dropLast.getLast? with|none=>none|some x=>some (x,y,t.dropLast.dropLast)
end Go.Proofs.YtdohlidddcgfjaaGreat


/- bR of this claim: H7. -/
set_option linter.all false
namespace Go.Proofs.YtdohlidddcgfjaaGreat
open Go

section
variable{ρ:Type} [Fb ρ]{b:List Int}{α β E:Type}{I:Nat->E->Prop}
def th.congr{f g:E->ρ->af->Option (α×ρ×af×E)}{p:E->Pr (α×E)}(h:th b I f p)(e: ∀j e r o,I j e->g e r o=f e r o):th b I g p:=
 ⟨fun j x k r o hj hi hk=>by rw [e j x r o hi];exact h.ok j x k r o hj hi hk,fun j x r o hj hi hn=>by rw [e j x r o hi];exact h.no j x r o hj hi hn⟩
def my{f:ρ->af->Option (α×ρ×af)}{p:Pr α}{g:α->E->ρ->af->Option (β×ρ×af×E)}{q:α->E->Pr (β×E)}(hf:Rd b f p)(X: ∀x,th b I (g x) (q x)):
  th b I (fun e r o=>(f r o).bind fun u=>g u.1 e u.2.1 u.2.2) (fun e=>fv p (fun x=>q x e)):=by
 refine⟨fun j e k r o hj hi hk=>?_,fun j e r o hj hi hn=>?_⟩
 ·obtain⟨x,r1,o1,Y,H⟩:=hf.ok k r o hk
  rw [Y,br]
  unfold Kh at H
  unfold fv
  cases hp:p (b.drop k)with
  |none=>
   rw [hp]at H
   obtain⟨y,r2,o2,e2,Q,h3',h4⟩:=(X x).no j e r1 o1 hj hi H
   exact⟨y,r2,o2,e2,Q,h3',h4⟩
  |some v=>
   rw [hp]at H
   obtain⟨rfl,k1,Q,h4⟩:=H
   obtain⟨y,r2,o2,e2,h5,h5',h6⟩:=(X v.1).ok j e k1 r1 o1 hj hi Q
   rw [h4]at h6
   exact⟨y,r2,o2,e2,h5,h5',h6⟩
 ·obtain⟨x,r1,o1,Y,H⟩:=hf.no r o hn
  rw [Y,br]
  exact(X x).no j e r1 o1 hj hi H
def qw{f g:E->ρ->af->Option (α×ρ×af×E)}{p q:E->Pr (α×E)}(c:Bool)(hf:th b I f p)(X:th b I g q):
  th b I (fun e r o=>if c=true then f e r o else g e r o) (fun e=>if c=true then p e else q e):=by
 cases c with
 |true=>exact hf
 |false=>exact X
end
def Tp(j:Nat)(e:List Int×Int):Prop:=e.2=(j:Int)/\e.1.length<=j/\ ∀x∈e.1,0<=x
def B3{B:Bool}{x:Int}(h:0<=x):(B||(decide (x<(0:Int))))=B:=by
 rw [decide_eq_false (by omega),zu]
def B2{B:Bool}:(B||(decide ((-1:Int)<(0:Int))))=true:=by
 rw [decide_eq_true (by omega),zt]
def F2(r:aJ)(o:af){j:Nat}(hj:j<=70000){t:List Int}{a:Int}(hi:Tp j (t,a))(n:Nat)(hn:n<=2):
  ∃L R r' t',ci r o t n a=some (L,R,r',t')/\t'.length<=j+1/\(∀x∈t',0<=x)/\
   (match CB n t with|some u=>L=u.1/\R=u.2.1/\r' =r/\t' =u.2.2++[a]|none=>r' ={r with bad:=true}):=by
 obtain⟨Y,H,Q⟩:=hi
 simp only at Y H Q
 subst Y
 have push: ∀l:List Int,l.length<=j->(∀x∈l,0<=x)->jb l [(j:Int)]=some (l++[(j:Int)])/\(l++[(j:Int)]).length<=j+1/\ ∀x∈l++[(j:Int)],0<=x:=by
  intro l hl hp
  refine⟨cy (by simp;omega),by simp;omega,fun x V=>?_⟩
  rcases xo.1 V with V|V
  ·exact hp x V
  ·rw [Cp.1 V];omega
 have k2: ∀(L R:Int) (l:List Int) (r:aJ),l.length<=j->(∀x∈l,0<=x)->hX (j:Int) R L l r=some (L,R,r,l++[(j:Int)]):=by
  intro L R l r hl hp
  unfold hX
  rw [(push l hl hp).1];rfl
 have nn: ∀l:List Int,(∀x∈l,0<=x)-> ∀x,l.getLast? =some x->0<=x:=fun l hp x V=>hp x (List.mem_of_getLast? V)
 have dn: ∀l:List Int,(∀x∈l,0<=x)-> ∀x∈l.dropLast,0<=x:=fun l hp x V=>hp x ((List.dropLast_sublist l).subset V)
 unfold ci jT
 match n,hn with
 |0,_=>
  rw [aZ (by decide),aZ (by decide),k2 _ _ _ _ H Q]
  exact⟨_,_,_,_,rfl,(push t H Q).2.1,(push t H Q).2.2,rfl,rfl,rfl,rfl⟩
 |1,_=>
  rw [aZ (by decide),bu (by decide),Ac t (by omega),br]
  cases X:t.getLast? with
  |none=>
   simp only
   rw [k2 _ _ _ _ H Q,B2]
   refine⟨_,_,_,_,rfl,(push t H Q).2.1,(push t H Q).2.2,?_⟩
   simp only [CB,X]
  |some x=>
   simp only
   rw [k2 _ _ _ _ (by simp;omega) (dn t Q),B3 (nn t Q x X)]
   refine⟨_,_,_,_,rfl,(push t.dropLast (by simp;omega) (dn t Q)).2.1,(push t.dropLast (by simp;omega) (dn t Q)).2.2,?_⟩
   simp only [CB,X]
   exact⟨trivial,trivial,trivial,trivial⟩
 |2,_=>
  rw [bu (by decide),Ac t (by omega),br]
  cases X:t.getLast? with
  |none=>
   simp only
   rw [bu (by decide),Ac t (by omega),br,X]
   simp only
   rw [k2 _ _ _ _ H Q,B2]
   refine⟨_,_,_,_,rfl,(push t H Q).2.1,(push t H Q).2.2,?_⟩
   simp only [CB,X]
  |some y=>
   simp only
   rw [bu (by decide),Ac t.dropLast (by simp;omega),br,B3 (nn t Q y X)]
   cases hg2:t.dropLast.getLast? with
   |none=>
    simp only
    rw [k2 _ _ _ _ (by simp;omega) (dn t Q),B2]
    refine⟨_,_,_,_,rfl,(push t.dropLast (by simp;omega) (dn t Q)).2.1,(push t.dropLast (by simp;omega) (dn t Q)).2.2,?_⟩
    simp only [CB,X,hg2]
   |some x=>
    simp only
    rw [k2 _ _ _ _ (by simp;omega) (dn _ (dn t Q)),B3 (nn _ (dn t Q) x hg2)]
    refine⟨_,_,_,_,rfl,(push t.dropLast.dropLast (by simp;omega) (dn _ (dn t Q))).2.1,(push t.dropLast.dropLast (by simp;omega) (dn _ (dn t Q))).2.2,?_⟩
    simp only [CB,X,hg2]
    exact⟨trivial,trivial,trivial,trivial⟩
def nq{α:Type}(n:Nat)(h:Int->Int->α)(e:List Int×Int)(r:aJ)(o:af):Option (α×aJ×af×List Int×Int):=
 (ci r o e.1 n e.2).bind fun u=>some (h u.1 u.2.1,u.2.2.1,o,u.2.2.2,IntKind.i64.wrap (e.2+1))
def np{α:Type}(n:Nat)(h:Int->Int->α)(e:List Int×Int):Pr (α×List Int×Int):=fun l=>(CB n e.1).map fun u=>((h u.1 u.2.1,u.2.2++[e.2],e.2+1),l)
def mN{b:List Int}{α:Type}(n:Nat)(hn:n<=2)(h:Int->Int->α):th b Tp (nq n h) (np n h):=by
 refine⟨fun j e k r o hj hi hk=>?_,fun j e r o hj hi hN=>?_⟩
 ·obtain⟨t,a⟩:=e
  obtain⟨L,R,r',t',Y,H,Q,h4⟩:=F2 r o hj hi n hn
  have ha:a=(j:Int):=hi.1
  have hw:IntKind.i64.wrap (a+1)=a+1:=by rw [p6];omega
  unfold nq np
  simp only
  rw [Y,br]
  refine⟨_,_,_,_,rfl,⟨by simp only;rw [hw,ha];omega,H,Q⟩,?_⟩
  cases hq:CB n t with
  |none=>
   rw [hq]at h4
   simp only at h4
   subst h4
   obtain⟨g1,g2,g3,g4⟩:=hk
   exact⟨g1,k,0,g3,g4,.inl rfl⟩
  |some u=>
   rw [hq]at h4
   obtain⟨rfl,rfl,rfl,rfl⟩:=h4
   exact⟨by simp only;rw [hw],k,hk,rfl⟩
 ·obtain⟨t,a⟩:=e
  obtain⟨L,R,r',t',Y,H,Q,h4⟩:=F2 r o hj hi n hn
  have ha:a=(j:Int):=hi.1
  have hw:IntKind.i64.wrap (a+1)=a+1:=by rw [p6];omega
  unfold nq
  simp only
  rw [Y,br]
  refine⟨_,_,_,_,rfl,⟨by simp only;rw [hw,ha];omega,H,Q⟩,?_⟩
  have hr:r' =r\/r' ={r with bad:=true}:=by
   cases hq:CB n t with
   |none=>rw [hq]at h4;exact .inr h4
   |some u=>rw [hq]at h4;exact .inl h4.2.2.1
  obtain⟨g1,k,y,g2,g3,g4⟩:=hN
  rcases hr with rfl|rfl
  ·exact⟨g1,k,y,g2,g3,g4⟩
  ·exact⟨g1,k,y,g2,g3,.inl rfl⟩
end Go.Proofs.YtdohlidddcgfjaaGreat


/- bR of this claim: H8. -/
set_option linter.all false
namespace Go.Proofs.YtdohlidddcgfjaaGreat
open Go

def ar(tag:Int):Nat:=if tag==1||tag==2 then 0 else if 12<=tag then 2 else 1
def NH(x:Int):ar x<=2:=by
 unfold ar;repeat' split
 all_goals omega
def NF(x:Int):ol x=some (ar x:Int):=by
 unfold ol ar
 by_cases h:(x==1||x==2)=true
 ·rw [bu h,bu h];rfl
 ·rw [aZ h,aZ h]
  by_cases H:(12:Int)<=x
  ·rw [bu (by simpa using H),bu H];rfl
  ·rw [aZ (by simpa using H),aZ H];rfl
def vZ:ap:=⟨0,0,0,[]⟩
def Nn(e:List Int×Int)(r:aJ)(o:af):Option (am×aJ×af×List Int×Int):=
 (kY r o).bind fun u=>if(u.1==2)=true then(kY u.2.1 u.2.2).bind fun w=>nq (ar u.1) (fun L R=>⟨u.1,L,R,w.1,vZ⟩) e w.2.1 w.2.2
  else if(u.1==1)=true then(im u.2.1 u.2.2).bind fun w=>nq (ar u.1) (fun L R=>⟨u.1,L,R,0,w.1⟩) e w.2.1 w.2.2
  else nq (ar u.1) (fun L R=>⟨u.1,L,R,0,vZ⟩) e u.2.1 u.2.2
def pE(e:List Int×Int):Pr (am×List Int×Int):=
 fv p8 fun x=>if(x==2)=true then fv p8 fun c=>np (ar x) (fun L R=>⟨x,L,R,c,vZ⟩) e
  else if(x==1)=true then fv pv fun v=>np (ar x) (fun L R=>⟨x,L,R,0,v⟩) e
  else np (ar x) (fun L R=>⟨x,L,R,0,vZ⟩) e
def Eu(N:Int):Pr (List am):=fun l=>(oP pE N.toNat ([],0) l).map fun u=>(u.1.1,u.2)
def zG:Pr aM:=fv V5 fun n=>wa aM.mk (Eu n)
def Oa(x:Int):Prop:=0<=x/\x<=65535
def L8{ρ:Type}{r r' :ρ}{o o' :af}{x:Int}(h:L9 r o=some (x,r',o')):Oa x:=by
 unfold L9 jB at h
 cases hw:cb o 2 with
 |none=>rw [hw]at h;cases h
 |some w=>
  rw [hw]at h
  cases h
  unfold Oa
  rw [IntKind.wrap_u16,p6]
  omega
section
variable{b:List Int}(W:b.length<=900000000)(hby:yF b)
include W hby
def Nm:th b Tp Nn pE:=by
  have hs:=nz W hby
  have Y:=my (I:=Tp) hs fun x=>qw (b:=b) (x==2)
    (my hs fun c=>mN (b:=b) (ar x) (NH x) (fun L R=>(⟨x,L,R,c,vZ⟩:am)))
    (qw (x==1) (my (Li W hby) fun v=>mN (b:=b) (ar x) (NH x) (fun L R=>(⟨x,L,R,0,v⟩:am)))
      (mN (b:=b) (ar x) (NH x) (fun L R=>(⟨x,L,R,0,vZ⟩:am))))
  refine Y.congr fun j e r o _=>?_
  rfl
omit W hby in
def Np(e:List Int×Int)(r:aJ)(o:af):kT r o e.1 e.2=Nn e r o:=by
 unfold kT Nn kY nq
 cases bl r o with
 |none=>rfl
 |some u=>
  simp only [br,uk,NF]
  by_cases h:(u.1==2)=true
  ·rw [bu h,bu h]
   cases bl r u.2 with
   |none=>rfl
   |some w=>
    simp only [br,uk]
    cases ci r w.2 e.1 (ar u.1) e.2<;>rfl
  ·rw [aZ h,aZ h]
   by_cases h:(u.1==1)=true
   ·rw [bu h,bu h]
   ·rw [aZ h,aZ h]
    cases ci r u.2 e.1 (ar u.1) e.2<;>rfl
def If(N:Int)(r:aJ)(o:af):Option (List am×aJ×af):=(iE r o N [] 0).bind fun q=>some (q.1,q.2.1,q.2.2.1)
def MH(N:Int)(hN:N<=65535):Rd b (If N) (Eu N):=
 Ai (Nm W hby) (fun _ _ _=>Gg) (fun _ _=>Gh) N hN ([],0) ⟨rfl,jW 0,by simp⟩ (L:=fun fu out x r o e=>eT N fu out x e.2 e.1 r o) (by
  intro fu out x r o e
  simp only [eT,Np]
  rfl)
def EU:Rd b eQ zG:=by
 have:=yw (g:=fun n r o=>(If n r o).bind fun u=>some (aM.mk u.1,u.2.1,u.2.2)) Oa (fun _ _ _ _ _=>L8) (Q0 W hby) fun n hn=>(MH W hby n hn.2).map aM.mk
 refine this.congr fun r o=>?_
 unfold eQ L9 If
 cases jB o with
 |none=>rfl
 |some q=>
  simp only [br,uk]
  cases iE r q.2 (IntKind.i64.wrap q.1) [] 0<;>rfl
def Oy:Pr fj:=fv p8 fun f=>wa (fj.mk f) zG
def Ow:Pr j3:=fv p8 fun c=>wa (j3.mk c) Dq
def SP:Rd b nc Oy:=by
 refine((nz W hby).bind fun f=>(EU W hby).map (fj.mk f)).congr fun r o=>?_
 unfold nc kY
 cases bl r o<;>rfl
def Rg:Rd b na Ow:=by
 refine((nz W hby).bind fun f=>(JM W hby).map (j3.mk f)).congr fun r o=>?_
 unfold na kY
 cases bl r o<;>rfl
omit W hby in
def tF{α:Type}{f:aJ->af->Option (α×aJ×af)}{p:Pr α}(hf:Rd b f p)(N:Int)(hN:N<=65535){L:Nat->List α->Int->aJ->af->Option (List α×aJ×af)}
  (hL: ∀fu out x r o,L (fu+1) out x r o=if decide (x<N)=true then(cW r o).bind fun c=>if(!c)=true then some (out,r,o)else(f r o).bind fun u=>(jb out [u.1]).bind fun out2=>L fu out2 (IntKind.i64.wrap (x+1)) u.2.1 u.2.2 else some (out,r,o)):
  Rd b (fun r o=>L eI [] 0 r o) (pl p N.toNat):=by
 have h:=Ai hf.toE (fun _ _ _=>Gg) (fun _ _=>Gh) N hN () trivial (L:=fun fu out x r o _=>(L fu out x r o).map fun q=>(q.1,q.2.1,q.2.2,())) (by
  intro fu out x r o e
  cases e
  simp only [hL]
  by_cases V:decide (x<N)=true
  ·simp only [V,jY]
   cases cW r o with
   |none=>rfl
   |some c=>
    cases c with
    |false=>rfl
    |true=>
     simp only [br,qK,o0,md]
     cases f r o with
     |none=>rfl
     |some q=>
      simp only [br,uk]
      cases jb out [q.1]<;>rfl
  ·simp only [V];rfl)
 have e:(fun l=>(oP (fun(_:Unit) l=>(p l).map fun u=>((u.1,()),u.2)) N.toNat () l).map fun u=>(u.1.1,u.2))=pl p N.toNat:=funext fun l=>Ew p N.toNat l
 rw [e]at h
 refine h.congr fun r o=>?_
 cases L eI [] 0 r o<;>rfl
def PS(N:Int)(hN:N<=65535):Rd b (fun r o=>jr r o N) (pl Oy N.toNat):=
 tF (SP W hby) N hN (L:=hT N) fun _ _ _ _ _=>rfl
def Nl(N:Int)(hN:N<=65535):Rd b (fun r o=>iV r o N) (pl zG N.toNat):=
 tF (EU W hby) N hN (L:=gL N) fun _ _ _ _ _=>rfl
def OD(N:Int)(hN:N<=65535):Rd b (fun r o=>jo r o N) (pl Ow N.toNat):=
 tF (Rg W hby) N hN (L:=hM N) fun _ _ _ _ _=>rfl
end
end Go.Proofs.YtdohlidddcgfjaaGreat


/- bR of this claim: H9. -/
set_option linter.all false
namespace Go.Proofs.YtdohlidddcgfjaaGreat
open Go

def HX{α:Type}(p:Pr α):Pr (List α):=fv p8 fun n=>pl p n.toNat
def Ls{α:Type}(f:aJ->af->Int->Option (List α×aJ×af))(r:aJ)(o:af):Option (List α×aJ×af):=(kY r o).bind fun n=>f n.2.1 n.2.2 n.1
section
variable{b:List Int}(W:b.length<=900000000)(hby:yF b)
include W hby
def EX{α:Type}{p:Pr α}{f:aJ->af->Int->Option (List α×aJ×af)}(h: ∀N:Int,N<=65535->Rd b (fun r o=>f r o N) (pl p N.toNat)):Rd b (Ls f) (HX p):=
 yw (g:=fun n r o=>f r o n) (q:=fun n=>pl p n.toNat) wz (fun _ _ _ _ _=>wJ) (nz W hby) fun x V=>h x (by unfold wz at V;omega)
end
def Ij(x:Int):Int:=IntKind.i64.wrap (IntKind.i64.wrap x-1)
def Hr(x:Int)(e:List Int×Int)(r:aJ)(o:af):Option (aa×aJ×af×List Int×Int):=
 if(x==1||x==9)=true then(kY r o).bind fun t=>(KX t.2.1 t.2.2).bind fun ks=>nq 0 (fun L R=>⟨x,L,R,t.1,ks.1,false,⟨[]⟩,[],[],[],[],0⟩) e ks.2.1 ks.2.2
 else if(x==2)=true then(iU r o).bind fun f=>(eQ f.2.1 f.2.2).bind fun c=>nq 2 (fun L R=>⟨x,L,R,0,[],f.1,c.1,[],[],[],[],0⟩) e c.2.1 c.2.2
 else if(x==3)=true then(eQ r o).bind fun c=>nq 1 (fun L R=>⟨x,L,R,0,[],false,c.1,[],[],[],[],0⟩) e c.2.1 c.2.2
 else if(x==4||x==10||x==11)=true then(KX r o).bind fun ks=>(Ls jr ks.2.1 ks.2.2).bind fun a=>nq 1 (fun L R=>⟨x,L,R,0,[],false,⟨[]⟩,ks.1,a.1,[],[],0⟩) e a.2.1 a.2.2
 else if(x==5)=true then(Ls iV r o).bind fun a=>nq 1 (fun L R=>⟨x,L,R,0,[],false,⟨[]⟩,[],[],a.1,[],0⟩) e a.2.1 a.2.2
 else if(x==8)=true then(Ls jo r o).bind fun a=>(Oe a.2.1 a.2.2).bind fun l=>nq 1 (fun L R=>⟨x,L,R,0,[],false,⟨[]⟩,[],[],[],a.1,Ij l.1⟩) e l.2.1 l.2.2
 else if(x==7)=true then nq 2 (fun L R=>⟨x,L,R,0,[],false,⟨[]⟩,[],[],[],[],0⟩) e r o
 else nq 1 (fun L R=>⟨x,L,R,0,[],false,⟨[]⟩,[],[],[],[],0⟩) e r o
def Ev(x:Int)(e:List Int×Int):Pr (aa×List Int×Int):=
 if(x==1||x==9)=true then fv p8 fun t=>fv KP fun ks=>np 0 (fun L R=>⟨x,L,R,t,ks,false,⟨[]⟩,[],[],[],[],0⟩) e
 else if(x==2)=true then fv Dq fun f=>fv zG fun c=>np 2 (fun L R=>⟨x,L,R,0,[],f,c,[],[],[],[],0⟩) e
 else if(x==3)=true then fv zG fun c=>np 1 (fun L R=>⟨x,L,R,0,[],false,c,[],[],[],[],0⟩) e
 else if(x==4||x==10||x==11)=true then fv KP fun ks=>fv (HX Oy) fun a=>np 1 (fun L R=>⟨x,L,R,0,[],false,⟨[]⟩,ks,a,[],[],0⟩) e
 else if(x==5)=true then fv (HX zG) fun a=>np 1 (fun L R=>⟨x,L,R,0,[],false,⟨[]⟩,[],[],a,[],0⟩) e
 else if(x==8)=true then fv (HX Ow) fun a=>fv V4 fun l=>np 1 (fun L R=>⟨x,L,R,0,[],false,⟨[]⟩,[],[],[],a,Ij l⟩) e
 else if(x==7)=true then np 2 (fun L R=>⟨x,L,R,0,[],false,⟨[]⟩,[],[],[],[],0⟩) e
 else np 1 (fun L R=>⟨x,L,R,0,[],false,⟨[]⟩,[],[],[],[],0⟩) e
def Hq(e:List Int×Int)(r:aJ)(o:af):Option (aa×aJ×af×List Int×Int):=(kY r o).bind fun u=>Hr u.1 e u.2.1 u.2.2
def Jw(e:List Int×Int):Pr (aa×List Int×Int):=fv p8 fun x=>Ev x e
def M2(e:List Int×Int)(r:aJ)(o:af):kS r o e.1 e.2=Hq e r o:=by
 unfold kS oR Hq kY
 cases bl r o with
 |none=>rfl
 |some u=>
  simp only [br,uk]
  obtain⟨x,o1⟩:=u
  simp only
  unfold Hr ku iL Ls kY KX Oe nq Ij
  cases Y:(x==1)<;>cases h9:(x==9)<;>simp only [zt,zu,Ay,sy,jY,o0,md,D6,br,xA,D5,Int.ofNat_zero,Int.natCast_zero]<;>try rfl
  cases H:(x==2)<;>simp only [zt,zu,Ay,sy,jY,o0,md,D6,br,xA,D5]<;>try rfl
  cases Q:(x==3)<;>simp only [zt,zu,Ay,sy,jY,o0,md,D6,br,xA,D5]<;>try rfl
  cases h4:(x==4)<;>cases h10:(x==10)<;>cases h11:(x==11)<;>simp only [zt,zu,Ay,sy,jY,o0,md,D6,br,xA,D5]<;>try rfl
  cases h5:(x==5)<;>simp only [zt,zu,Ay,sy,jY,o0,md,D6,br,xA,D5]<;>try rfl
  cases h8:(x==8)<;>simp only [zt,zu,Ay,sy,jY,o0,md,D6,br,xA,D5]<;>try rfl
  cases h7:(x==7)<;>simp only [zt,zu,Ay,sy,jY,o0,md,D6,br,xA,D5]<;>try rfl
section
variable{b:List Int}(W:b.length<=900000000)(hby:yF b)
include W hby
def Km(x:Int):th b Tp (Hr x) (Ev x):=by
  have hs:=nz W hby
  have hn:=MG W hby
  have he:=EU W hby
  have:=qw (b:=b) (I:=Tp) (x==1||x==9) (my hs fun t=>my hn fun ks=>mN 0 (by omega) (fun L R=>(⟨x,L,R,t,ks,false,⟨[]⟩,[],[],[],[],0⟩:aa)))
    (qw (x==2) (my (JM W hby) fun f=>my he fun c=>mN 2 (by omega) (fun L R=>(⟨x,L,R,0,[],f,c,[],[],[],[],0⟩:aa)))
    (qw (x==3) (my he fun c=>mN 1 (by omega) (fun L R=>(⟨x,L,R,0,[],false,c,[],[],[],[],0⟩:aa)))
    (qw (x==4||x==10||x==11) (my hn fun ks=>my (EX W hby (PS W hby)) fun a=>mN 1 (by omega) (fun L R=>(⟨x,L,R,0,[],false,⟨[]⟩,ks,a,[],[],0⟩:aa)))
    (qw (x==5) (my (EX W hby (Nl W hby)) fun a=>mN 1 (by omega) (fun L R=>(⟨x,L,R,0,[],false,⟨[]⟩,[],[],a,[],0⟩:aa)))
    (qw (x==8) (my (EX W hby (OD W hby)) fun a=>my (QZ W hby) fun l=>mN 1 (by omega) (fun L R=>(⟨x,L,R,0,[],false,⟨[]⟩,[],[],[],a,Ij l⟩:aa)))
    (qw (x==7) (mN 2 (by omega) (fun L R=>(⟨x,L,R,0,[],false,⟨[]⟩,[],[],[],[],0⟩:aa)))
      (mN 1 (by omega) (fun L R=>(⟨x,L,R,0,[],false,⟨[]⟩,[],[],[],[],0⟩:aa)))))))))
  exact this
def Kl:th b Tp Hq Jw:=my (nz W hby) fun x=>Km W hby x
def Af(N:Int):Pr (List aa):=fun l=>(oP Jw N.toNat ([],0) l).map fun u=>(u.1.1,u.2)
def EE(r:aJ)(o:af)(N:Int):Option (List aa×aJ×af):=(kH r o N [] 0).bind fun q=>some (q.1,q.2.1,q.2.2.1)
def K8(N:Int)(hN:N<=65535):Rd b (fun r o=>EE r o N) (Af N):=
 Ai (Kl W hby) (fun _ _ _=>Gg) (fun _ _=>Gh) N hN ([],0) ⟨rfl,jW 0,by simp⟩ (L:=fun fu out x r o e=>eS N fu out x e.2 e.1 r o) (by
  intro fu out x r o e
  simp only [eS,M2]
  rfl)
def Jx:Pr dE:=fv p8 fun a=>fv p8 fun w=>fv KP fun cs=>fv p8 fun n=>wa (fun ns=>dE.mk ns a w cs) (Af n)
def OT:Rd b mv Jx:=by
 have hs:=nz W hby
 have:=hs.bind fun a=>hs.bind fun w=>(MG W hby).bind fun cs=>yw (g:=fun n r o=>(EE r o n).bind fun u=>some (dE.mk u.1 a w cs,u.2.1,u.2.2)) wz (fun _ _ _ _ _=>wJ) hs fun n hn=>(K8 W hby n (by unfold wz at hn;omega)).map fun ns=>dE.mk ns a w cs
 refine this.congr fun r o=>?_
 unfold mv kY KX EE
 simp only [D6,br,xA,D5]
def M1(N:Int)(hN:N<=65535):Rd b (fun r o=>li r o N) (pl Jx N.toNat):=
 tF (OT W hby) N hN (L:=gK N) fun _ _ _ _ _=>rfl
def FY:Pr iu:=wa iu.mk (HX Jx)
def Ox:Rd b mu FY:=by
 refine((EX W hby (M1 W hby)).map iu.mk).congr fun r o=>?_
 unfold mu Ls kY
 simp only [D6,br,xA,D5]
end
end Go.Proofs.YtdohlidddcgfjaaGreat


/- bR of this claim: H10. -/
set_option linter.all false
namespace Go.Proofs.YtdohlidddcgfjaaGreat
open Go

def Nt{b:List Int}(W:b.length<=900000000){k:Nat}{r:aJ}{o:af}(h:Ok b k r o):io r o=some (b.drop k==[]):=by
 unfold io
 rw [Gg h,br,bu rfl]
 obtain⟨_,_,rfl,h4⟩:=h
 rw [yy 0 h4 (by omega),br]
 congr 1
 by_cases hk:k=b.length
 ·subst hk;simp
 ·have Y:b.drop k≠[]:=by
   intro hc
   have:=congrArg List.length hc
   rw [zX]at this
   simp at this
   omega
  have H:((b.length-k:Nat):Int)≠0:=by omega
  rw [show(b.drop k==[])=false from by simpa using Y]
  simpa using H
def Nu{b:List Int}{r:aJ}{o:af}(h:No b r o):io r o=some false:=by
 unfold io
 rw [Gh h,br,aZ (by simp)]
def Ii:iu×Int:=(⟨[]⟩,331)
def CP{b:List Int}(W:b.length<=900000000)(hby:yF b):nd b=match FY b with
  |some (p,[])=>(lE p).bind fun q=>some (if q then(p,0)else Ii)
  |_=>some Ii:=by
 unfold nd
 have h0:Ok b 0 (⟨rj,b,false⟩:aJ) (rd b 0 0):=⟨rfl,rfl,rfl,nv _⟩
 obtain⟨x,r1,o1,Y,H⟩:=(Ox W hby).ok 0 _ _ h0
 rw [CK W,br,Y,br]
 rw [Ar]at H
 simp only
 unfold Kh at H
 cases hp:FY b with
 |none=>
  rw [hp]at H
  rw [Nu H]
  rfl
 |some v=>
  obtain⟨v,rest⟩:=v
  rw [hp]at H
  obtain⟨rfl,k,Q,h4⟩:=H
  rw [Nt W Q,h4]
  cases rest with
  |nil=>
   simp only [br]
   cases lE x with
   |none=>rfl
   |some q=>cases q<;>rfl
  |cons c l=>rfl
end Go.Proofs.YtdohlidddcgfjaaGreat


/- bR of this claim: H11. -/
set_option linter.all false
namespace Go.Proofs.YtdohlidddcgfjaaGreat
open Go

def BY(q t:Int): ∀k m,k<=m->gN (q+t*2^(8*m)) k=gN q k
 |0,_,_=>rfl
 |k+1,m,h=>by
  unfold gN
  rw [BY q t k m (by omega)]
  congr 1
  obtain⟨aN,rfl⟩: ∃aN,m=k+1+aN:=⟨m-(k+1),by omega⟩
  have e:(2:Int)^(8*(k+1+aN))=(256*2^(8*aN))*2^(8*k):=by
   rw [show 8*(k+1+aN)=8+8*aN+8*k from by omega,Int.pow_add,Int.pow_add]
   rfl
  have hp:(0:Int)<2^(8*k):=Int.pow_pos (by omega)
  rw [e,<-Int.mul_assoc,Jf _ (by omega),Jf _ (by omega),Int.add_mul_ediv_right _ _ (by omega),xz,xz,Int.mul_left_comm,Int.add_mul_emod_self_left]
def DV: ∀l:List Int,yF l->gN (bn l) l.length=l/\0<=bn l/\bn l<2^(8*l.length)
 |[],_=>⟨rfl,by simp [bn],by simp [bn]⟩
 |c::l,h=>by
  obtain⟨⟨n,Y,rfl⟩,H⟩:=B0 h
  obtain⟨g1,g2,g3⟩:=DV l H
  have hp:(0:Int)<2^(8*l.length):=Int.pow_pos (by omega)
  have e:bn ((n:Int)::l)=bn l+(n:Int)*2^(8*l.length):=by
   show(n:Int)*256^l.length+bn l=_
   rw [show(256:Int)=2^8 from rfl,<-Int.pow_mul]
   omega
  refine⟨?_,?_,?_⟩
  ·rw [e,jj,gN,BY _ _ _ _ (jW _),g1,Jf _ (by omega),Int.add_mul_ediv_right _ _ (by omega),Int.ediv_eq_zero_of_lt g2 g3,xz]
   congr 1
   omega
  ·rw [e];have:=Int.mul_nonneg (show(0:Int)<=n by omega) (Int.le_of_lt hp);omega
  ·rw [e,jj,show 8*(l.length+1)=8*l.length+8 from by omega,Int.pow_add]
   have:(n:Int)*2^(8*l.length)<=255*2^(8*l.length):=Int.mul_le_mul_of_nonneg_right (by omega) (Int.le_of_lt hp)
   omega
def VX(l:List Int):Prop:=yF l/\l.length<=5000
def GW{l:List Int}(h:VX l)(n:Nat):VX (l.drop n):=⟨yr h.1 n,by have:=h.2;simp;omega⟩
def lz{α:Type}(p:Pr α)(enc:α->List Int)(good:α->Prop):Prop:= ∀l x r,VX l->p l=some (x,r)->l=enc x++r/\good x/\VX r
def lz.size{α:Type}{p:Pr α}{enc:α->List Int}{good:α->Prop}(h:lz p enc good):lz p enc (fun x=>good x/\(enc x).length<=5000):=by
 intro l x r hl V
 obtain⟨g1,g2,g3⟩:=h l x r hl V
 refine⟨g1,⟨g2,?_⟩,g3⟩
 have:=hl.2
 rw [g1,kO]at this
 omega
def lz.bind{α β:Type}{p:Pr α}{q:α->Pr β}{e1:α->List Int}{P1:α->Prop}{e2:α->β->List Int}{P2:α->β->Prop}{enc:β->List Int}{good:β->Prop}(Y:lz p e1 P1)(H: ∀x,P1 x->lz (q x) (e2 x) (P2 x))(Q: ∀x y,P1 x->P2 x y->enc y=e1 x++e2 x y/\good y):lz (fv p q) enc good:=by
 intro l y r hl h
 unfold fv at h
 cases hp:p l with
 |none=>rw [hp]at h;cases h
 |some u=>
  rw [hp,br]at h
  obtain⟨g1,g2,g3⟩:=Y l u.1 u.2 hl hp
  obtain⟨g4,g5,g6⟩:=H u.1 g2 u.2 y r g3 h
  obtain⟨g7,g8⟩:=Q u.1 y g2 g5
  exact⟨by rw [g1,g4,g7,oB],g8,g6⟩
def lz.map{α β:Type}{p:Pr α}{f:α->β}{e1:α->List Int}{P1:α->Prop}{enc:β->List Int}{good:β->Prop}(Y:lz p e1 P1)(Q: ∀x,P1 x->enc (f x)=e1 x/\good (f x)):lz (wa f p) enc good:=by
 intro l y r hl h
 unfold wa at h
 cases hp:p l with
 |none=>rw [hp]at h;cases h
 |some u=>
  rw [hp]at h
  cases h
  obtain⟨g1,g2,g3⟩:=Y l u.1 u.2 hl hp
  obtain⟨g7,g8⟩:=Q u.1 g2
  exact⟨by rw [g7];exact g1,g8,g3⟩
def GZ{α:Type}(x:α){enc:α->List Int}{good:α->Prop}(Y:enc x=[])(H:good x):lz (fun l=>some (x,l)) enc good:=by
 intro l y r hl h
 cases h
 exact⟨by rw [Y];rfl,H,hl⟩
def lz.need{c:Bool}:lz (zF c) (fun _=>[]) (fun _=>c=true):=by
 intro l y r hl h
 unfold zF at h
 split at h
 ·cases h;rename_i hc;exact⟨rfl,hc,hl⟩
 ·cases h
def yV(n:Nat):lz (pw n) (fun x=>gN x n) (fun x=>0<=x/\x<2^(8*n)):=by
 intro l x r hl h
 unfold pw at h
 split at h
 ·cases h
 ·rename_i hn
  cases h
  have hlen:(l.take n).length=n:=by simp;omega
  obtain⟨g1,g2,g3⟩:=DV (l.take n) (BZ hl.1 n)
  rw [hlen]at g1 g3
  exact⟨by simp only [g1,qL],⟨g2,g3⟩,GW hl n⟩
def nO:lz p8 (fun x=>[IntKind.u8.wrap x]) wz:=
 (yV 1).map fun x V=>by
  obtain⟨Y,H⟩:=V
  have H:x<256:=H
  have e:IntKind.i64.wrap (IntKind.u8.wrap x)=x:=by rw [xz,p6];omega
  rw [e]
  refine⟨?_,Y,by omega⟩
  simp [gN]
def OA:lz V5 (fun x=>gN x 2) Oa:=
 (yV 2).map fun x V=>by
  obtain⟨Y,H⟩:=V
  have H:x<65536:=H
  have e:IntKind.i64.wrap (IntKind.u16.wrap x)=x:=by rw [IntKind.wrap_u16,p6];omega
  rw [e]
  exact⟨rfl,Y,by omega⟩
def Oz:lz V4 (fun x=>gN x 4) (fun x=>0<=x/\x<4294967296):=
 (yV 4).map fun x V=>by
  obtain⟨Y,H⟩:=V
  have H:x<4294967296:=H
  have e:IntKind.u32.wrap x=x:=by rw [IntKind.wrap_u32];omega
  rw [e]
  exact⟨rfl,Y,H⟩
def Dp:lz Dq (fun b=>[fB b]) (fun _=>True):=by
 intro l x r hl h
 unfold Dq at h
 cases hp:p8 l with
 |none=>rw [hp]at h;cases h
 |some u=>
  rw [hp,br]at h
  obtain⟨g1,g2,g3⟩:=nO l u.1 u.2 hl hp
  split at h
  ·cases h
  ·rename_i hc
   cases h
   refine⟨?_,trivial,g3⟩
   rw [g1]
   obtain⟨q1,q2⟩:=g2
   rcases(show u.1=0\/u.1=1 by omega)with h0|h0<;>rw [h0]<;>rfl
def Ms(n:Nat):lz (Mt n) (fun ae=>ae) (fun ae=>ae.length=n/\yF ae):=by
 intro l x r hl h
 unfold Mt at h
 split at h
 ·cases h
 ·cases h
  exact⟨by rw [qL],⟨by simp;omega,BZ hl.1 n⟩,GW hl n⟩
def Mv{α:Type}{p:Pr α}{enc:α->List Int}{good:α->Prop}(h:lz p enc good): ∀n,lz (pl p n) (fun xs=>xs.flatMap enc) (fun xs=>xs.length=n/\ ∀x∈xs,good x)
 |0=>GZ [] rfl ⟨rfl,fun _ V=>by cases V⟩
 |n+1=>by
  have H:=lz.bind (enc:=fun xs=>xs.flatMap enc) (good:=fun xs=>xs.length=n+1/\ ∀x∈xs,good x) h (q:=fun x=>wa (fun xs=>x::xs) (pl p n)) (e2:=fun x xs=>(xs.drop 1).flatMap enc) (P2:=fun x xs=> ∃ys,xs=x::ys/\ys.length=n/\ ∀x∈ys,good x)
   (fun x V=>(Mv h n).map fun ys hy=>⟨by simp,ys,rfl,hy.1,hy.2⟩) (by
    rintro x y V ⟨ys,rfl,g1,g2⟩
    refine⟨by simp,by simp [g1],fun z hz=>?_⟩
    rcases jy.1 hz with rfl|hz
    ·exact V
    ·exact g2 z hz)
  have e:pl p (n+1)=fv p (fun x=>wa (fun xs=>x::xs) (pl p n)):=by
   funext l
   unfold pl fv wa
   cases p l with
   |none=>rfl
   |some u=>simp only [br];cases pl p n u.2<;>rfl
  rw [e];exact H
def uW{α:Type}{p:Pr α}{enc:α->List Int}{good:α->Prop}(h:lz p enc good):lz (HX p) (fun xs=>IntKind.u8.wrap (xs.length:Int)::xs.flatMap enc) (fun xs=>xs.length<=255/\ ∀x∈xs,good x):=
 lz.bind nO (fun n _=>Mv h n.toNat) fun n xs hn V=>by
  obtain⟨Y,H⟩:=hn
  obtain⟨Q,h4⟩:=V
  have e:(xs.length:Int)=n:=by omega
  rw [e]
  exact⟨rfl,by omega,h4⟩
def GA{f:Int->Int}: ∀l:List Int,l.flatMap (fun x=>[f x])=l.map f
 |[]=>rfl
 |x::l=>by rw [zx,GA l];rfl
def Bg:lz KP Hh (fun xs=>xs.length<=255/\ ∀x∈xs,wz x):=by
 have e:KP=HX p8:=rfl
 rw [e]
 intro l x r hl h
 obtain⟨g1,g2,g3⟩:=uW nO l x r hl h
 refine⟨?_,g2,g3⟩
 rw [g1]
 unfold Hh wj
 simp only [Ax]
 congr 2
 exact GA x
def uG: ∀{ae:List Int},yF ae->lI (kM ae)=ae/\(kM ae).length=ae.length
 |[],_=>⟨rfl,rfl⟩
 |c::ae,h=>by
  obtain⟨⟨n,Y,rfl⟩,H⟩:=B0 h
  obtain⟨g1,g2⟩:=uG H
  refine⟨?_,by simp [kM]⟩
  show((UInt8.ofNat (n:Int).toNat).toNat:Int)::lI (kM ae)=_
  rw [g1,yJ,UInt8.toNat_ofNat',Nat.mod_eq_of_lt (by omega)]
def sO(v:ap):lz (Bh v) (fun _=>[]) (fun w=>w=v/\jG v=true):=
 lz.bind lz.need (fun _ _=>GZ (good:=fun w=>w=v) v rfl rfl) fun _ w Y H=>⟨rfl,H,Y⟩
def gv(v:ap):Prop:=jG v=true/\v.S.length<=40
def Rb:lz pv vB gv:=by
 refine lz.bind nO (e2:=fun c v=>(vB v).drop 1) (P2:=fun c v=>v.Kind=c/\gv v) (fun c hc=>?_) (fun c v _ h=>⟨by rw [<-h.1];rfl,h.2⟩);refine lz.bind (P2:=fun _ v=>v.Kind=c/\gv v) (e2:=fun _ v=>(vB v).drop 1) lz.need (fun _ hc4=>?_) (fun _ v _ h=>⟨rfl,h⟩)
 unfold Dr
 split
 ·rename_i Y
  have Y:c=1:=by simpa using Y
  subst Y
  refine lz.bind (P2:=fun u v=>v=⟨1,u,0,[]⟩/\jG ⟨1,u,0,[]⟩=true) nO (fun u _=>sO _) ?_
  rintro u v hu ⟨rfl,hr⟩
  exact⟨rfl,rfl,hr,by simp⟩
 split
 ·rename_i Y
  have Y:c=2:=by simpa using Y
  subst Y
  refine lz.bind (P2:=fun u v=>v=⟨2,i64 u,0,[]⟩/\jG ⟨2,i64 u,0,[]⟩=true) (yV 8) (fun u _=>sO _) ?_
  rintro u v ⟨hu,hu2⟩ ⟨rfl,hr⟩
  have hu2:u<18446744073709551616:=hu2
  refine⟨?_,rfl,hr,by simp⟩
  show gN (IntKind.u64.wrap (i64 u)) 8=_
  have e:IntKind.u64.wrap (i64 u)=u:=by unfold i64;rw [Av,p6];omega
  rw [e,sC]
 split
 ·rename_i Y
  have Y:c=3:=by simpa using Y
  subst Y
  refine lz.bind (P2:=fun u v=>u<=40/\ ∃ae,(ae.length=u.toNat/\yF ae)/\v=⟨3,0,0,kM ae⟩/\jG ⟨3,0,0,kM ae⟩=true) (e2:=fun u v=>lI v.S) nO (fun u hu=>?_) ?_
  ·refine lz.bind (P2:=fun _ v=> ∃ae,(ae.length=u.toNat/\yF ae)/\v=⟨3,0,0,kM ae⟩/\jG ⟨3,0,0,kM ae⟩=true) (e2:=fun _ v=>lI v.S) lz.need (fun _ h40=>?_) (fun _ v h40 h=>⟨rfl,by simpa using h40,h⟩);refine lz.bind (P2:=fun ae v=>v=⟨3,0,0,kM ae⟩/\jG ⟨3,0,0,kM ae⟩=true) (Ms _) (fun ae _=>sO _) ?_
   rintro ae v ⟨hs1,hs2⟩ ⟨rfl,hr⟩
   exact⟨by rw [(uG hs2).1,sC],ae,⟨hs1,hs2⟩,rfl,hr⟩
  ·rintro u v ⟨hu,_⟩ ⟨h40,ae,⟨hs1,hs2⟩,rfl,hr⟩
   have hl:=(uG hs2).2
   have e:((kM ae).length:Int)=u:=by rw [hl,hs1];omega
   refine⟨?_,rfl,hr,?_⟩
   ·show IntKind.u8.wrap ((kM ae).length:Int)::lI (kM ae)=_
    rw [e];rfl
   ·show(kM ae).length<=40
    omega
 split
 ·rename_i Y
  have Y:c=4:=by simpa using Y
  subst Y
  refine lz.bind (P2:=fun u v=> ∃w,(0<=w/\w<2^(8*8))/\v=⟨4,i64 u,w,[]⟩/\jG ⟨4,i64 u,w,[]⟩=true) (e2:=fun u v=>gN v.U 8) (yV 8) (fun u hu=>?_) ?_
  ·refine lz.bind (P2:=fun w v=>v=⟨4,i64 u,w,[]⟩/\jG ⟨4,i64 u,w,[]⟩=true) (yV 8) (fun w _=>sO _) ?_
   rintro w v hw ⟨rfl,hr⟩
   exact⟨by simp,w,hw,rfl,hr⟩
  ·rintro u v ⟨hu,hu2⟩ ⟨w,hw,rfl,hr⟩
   have hu2:u<18446744073709551616:=hu2
   refine⟨?_,rfl,hr,by simp⟩
   show gN (IntKind.u64.wrap (i64 u)) 8++gN w 8=_
   have e:IntKind.u64.wrap (i64 u)=u:=by unfold i64;rw [Av,p6];omega
   rw [e]
 ·rename_i Y H Q h4
  have hc' :c=0:=by
   have:=hc.1
   have h4' :c<=4:=by simpa using hc4
   simp only [wC]at Y H Q h4
   omega
  subst hc'
  intro l v r hl h
  obtain⟨g1,⟨rfl,g2⟩,g3⟩:=sO _ l v r hl h
  exact⟨g1,⟨rfl,g2,by simp⟩,g3⟩
end Go.Proofs.YtdohlidddcgfjaaGreat


/- bR of this claim: H12. -/
set_option linter.all false
namespace Go.Proofs.YtdohlidddcgfjaaGreat
open Go

def kG{α:Type}(n:Nat)(h:Int->Int->α)(e:List Int×Int):lz (np n h e) (fun _=>[]) (fun u=> ∃L R,u.1=h L R):=by
 intro l x r hl V
 unfold np at V
 cases hp:CB n e.1 with
 |none=>rw [hp]at V;cases V
 |some u=>
  rw [hp]at V
  cases V
  exact⟨rfl,⟨u.1,u.2.1,rfl⟩,hl⟩
def gS(n:am):Prop:=n.Value.S.length<=40
def Re(e:List Int×Int):lz (pE e) (fun u=>nB u.1) (fun u=>gS u.1):=by
 refine lz.bind nO (e2:=fun x u=>(nB u.1).drop 1) (P2:=fun x u=>u.1.Tag=x/\gS u.1) (fun x V=>?_) (fun x u _ h=>⟨by rw [<-h.1];rfl,h.2⟩)
 split
 ·rename_i Y
  have Y:x=2:=by simpa using Y
  subst Y
  refine lz.bind (P2:=fun c u=> ∃L R,u.1=(⟨2,L,R,c,vZ⟩:am)) nO (fun c _=>kG _ _ _) ?_
  rintro c ⟨u,e'⟩ hc ⟨L,R,rfl⟩
  exact⟨rfl,rfl,by simp [gS,vZ]⟩
 split
 ·rename_i Y
  have Y:x=1:=by simpa using Y
  subst Y
  refine lz.bind (P2:=fun v u=> ∃L R,u.1=(⟨1,L,R,0,v⟩:am)) Rb (fun v _=>kG _ _ _) ?_
  rintro v ⟨u,e'⟩ hv ⟨L,R,rfl⟩
  exact⟨by simp [nB],rfl,hv.2⟩
 ·rename_i H Y
  intro l u r hl hu
  obtain⟨g1,⟨L,R,g2⟩,g3⟩:=kG _ _ _ l u r hl hu
  obtain⟨u,e'⟩:=u
  cases (g2:u=_)
  refine⟨?_,?_,g3⟩
  ·rw [g1]
   simp only [wC]at Y H
   simp [nB,Y,H]
  ·exact⟨rfl,by simp [gS,vZ]⟩
def yX{α E:Type}{p:E->Pr (α×E)}{enc:α->List Int}{good:α->Prop}(h: ∀e,lz (p e) (fun u=>enc u.1) (fun u=>good u.1)): ∀n e,lz (oP p n e) (fun u=>u.1.flatMap enc) (fun u=>u.1.length=n/\ ∀x∈u.1,good x)
 |0,e=>fun l u r hl hu=>by
  cases hu
  exact⟨rfl,⟨rfl,fun _ V=>by cases V⟩,hl⟩
 |n+1,e=>fun l u r hl hu=>by
  unfold oP at hu
  cases hp:p e l with
  |none=>rw [hp]at hu;cases hu
  |some w=>
   rw [hp,br]at hu
   obtain⟨g1,g2,g3⟩:=h e l w.1 w.2 hl hp
   cases hq:oP p n w.1.2 w.2 with
   |none=>rw [hq]at hu;cases hu
   |some z=>
    rw [hq]at hu
    cases hu
    obtain⟨q1,q2,q3⟩:=yX h n w.1.2 w.2 z.1 z.2 g3 hq
    refine⟨?_,⟨by simp [q2.1],fun y hy=>?_⟩,q3⟩
    ·rw [g1,q1];simp
    ·rcases jy.1 hy with rfl|hy
     ·exact g2
     ·exact q2.2 y hy
def DF{α:Type}{f:α->List Int}(h: ∀x,1<=(f x).length): ∀l:List α,l.length<=(l.flatMap f).length
 |[]=>jW 0
 |x::l=>by
  have:=DF h l
  have:=h x
  rw [zx,kO,jj]
  omega
def gX(e:aM):Prop:=e.Nodes.length<=5000/\ ∀n∈e.Nodes,gS n
def HU(N:Int):lz (Eu N) (fun ns=>ns.flatMap nB) (fun ns=>ns.length=N.toNat/\ ∀n∈ns,gS n):=by
 intro l u r hl hu
 unfold Eu at hu
 cases hq:oP pE N.toNat ([],0) l with
 |none=>rw [hq]at hu;cases hu
 |some z=>
  rw [hq]at hu
  cases hu
  exact yX Re N.toNat ([],0) l z.1 z.2 hl hq
def vF:lz zG eB gX:=by
 have h:lz zG eB (fun x=> ∀m∈x.Nodes,gS m):=by
  refine lz.bind OA (e2:=fun _ x=>x.Nodes.flatMap nB) (P2:=fun n x=>x.Nodes.length=n.toNat/\ ∀m∈x.Nodes,gS m) (fun n hn=>(HU n).map fun ns h=>⟨rfl,h⟩) ?_
  rintro n x ⟨Y,H⟩ ⟨Q,h4⟩
  have e:(x.Nodes.length:Int)=n:=by omega
  exact⟨by unfold eB;rw [e],h4⟩
 intro l x r hl V
 obtain⟨g1,⟨g2,g4⟩,g3⟩:=h.size l x r hl V
 refine⟨g1,⟨?_,g2⟩,g3⟩
 have:=DF (f:=nB) (fun n=>by simp [nB]) x.Nodes
 unfold eB at g4
 rw [kO]at g4
 omega
def Mw:lz Oy NJ (fun a=>gX a.Arg):=
 lz.bind nO (e2:=fun _ a=>eB a.Arg) (P2:=fun f a=>a.Tag=f/\gX a.Arg) (fun f _=>vF.map fun x h=>⟨rfl,rfl,h⟩) fun f a _ h=>⟨by rw [<-h.1];rfl,h.2⟩
def Mu:lz Ow Qi (fun _=>True):=
 lz.bind nO (e2:=fun _ a=>[fB a.Desc]) (P2:=fun f a=>a.Col=f) (fun f _=>Dp.map fun x h=>⟨rfl,rfl⟩) fun f a _ h=>⟨by rw [<-h];rfl,trivial⟩
structure gD(n:aa):Prop where
 kinds:n.Kinds.length<=255
 keys:n.Keys.length<=255
 order:n.Order.length<=255
 items:n.Items.length<=255
 aggs:n.Aggs.length<=255
 cond:gX n.Cond
 item: ∀e∈n.Items,gX e
 arg: ∀a∈n.Aggs,gX a.Arg
def TM:gX ⟨[]⟩:=⟨by simp,fun _ h=>by cases h⟩
def HV(x:Int)(e:List Int×Int):lz (Ev x e) (fun u=>wd u.1) (fun u=>u.1.Op=x/\gD u.1):=by
 unfold Ev
 split
 ·rename_i Y
  have Y:x=1\/x=9:=by simpa using Y
  refine lz.bind (P2:=fun t u=> ∃ks L R,ks.length<=255/\u.1=(⟨x,L,R,t,ks,false,⟨[]⟩,[],[],[],[],0⟩:aa)) (e2:=fun _ u=>Hh u.1.Kinds) nO (fun t _=>?_) ?_
  ·refine lz.bind (P2:=fun ks u=> ∃L R,u.1=(⟨x,L,R,t,ks,false,⟨[]⟩,[],[],[],[],0⟩:aa)) Bg (fun ks _=>kG _ _ _) ?_
   rintro ks ⟨u,e'⟩ hk ⟨L,R,rfl⟩
   exact⟨by simp,ks,L,R,hk.1,rfl⟩
  ·rintro t ⟨u,e'⟩ D ⟨ks,L,R,hk,rfl⟩
   exact⟨by simp [wd,Y],rfl,⟨hk,by simp,by simp,by simp,by simp,TM,by simp,by simp⟩⟩
 split
 ·rename_i Y H
  have H:x=2:=by simpa using H
  subst H
  refine lz.bind (P2:=fun f u=> ∃c L R,gX c/\u.1=(⟨2,L,R,0,[],f,c,[],[],[],[],0⟩:aa)) (e2:=fun _ u=>eB u.1.Cond) Dp (fun f _=>?_) ?_
  ·refine lz.bind (P2:=fun c u=> ∃L R,u.1=(⟨2,L,R,0,[],f,c,[],[],[],[],0⟩:aa)) vF (fun ks _=>kG _ _ _) ?_
   rintro c ⟨u,e'⟩ hk ⟨L,R,rfl⟩
   exact⟨by simp,c,L,R,hk,rfl⟩
  ·rintro f ⟨u,e'⟩ D ⟨c,L,R,hk,rfl⟩
   exact⟨by simp [wd],rfl,⟨by simp,by simp,by simp,by simp,by simp,hk,by simp,by simp⟩⟩
 split
 ·rename_i Y H Q
  have Q:x=3:=by simpa using Q
  subst Q
  refine lz.bind (P2:=fun c u=> ∃L R,u.1=(⟨3,L,R,0,[],false,c,[],[],[],[],0⟩:aa)) vF (fun ks _=>kG _ _ _) ?_
  rintro c ⟨u,e'⟩ hk ⟨L,R,rfl⟩
  exact⟨by simp [wd],rfl,⟨by simp,by simp,by simp,by simp,by simp,hk,by simp,by simp⟩⟩
 split
 ·rename_i Y H Q h4
  have h4:x=4\/x=10\/x=11:=by simpa [or_assoc] using h4
  refine lz.bind (P2:=fun ks u=> ∃a L R,(a.length<=255/\ ∀g∈a,gX g.Arg)/\u.1=(⟨x,L,R,0,[],false,⟨[]⟩,ks,a,[],[],0⟩:aa)) (e2:=fun _ u=>IntKind.u8.wrap (u.1.Aggs.length:Int)::u.1.Aggs.flatMap NJ) Bg (fun ks _=>?_) ?_
  ·refine lz.bind (P2:=fun a u=> ∃L R,u.1=(⟨x,L,R,0,[],false,⟨[]⟩,ks,a,[],[],0⟩:aa)) (uW Mw) (fun a _=>kG _ _ _) ?_
   rintro a ⟨u,e'⟩ hk ⟨L,R,rfl⟩
   exact⟨by simp,a,L,R,hk,rfl⟩
  ·rintro ks ⟨u,e'⟩ D ⟨a,L,R,hk,rfl⟩
   refine⟨?_,rfl,⟨by simp,D.1,by simp,by simp,hk.1,TM,by simp,hk.2⟩⟩
   rcases h4 with rfl|rfl|rfl<;>simp [wd]
 split
 ·rename_i Y H Q h4 h5
  have h5:x=5:=by simpa using h5
  subst h5
  refine lz.bind (P2:=fun a u=> ∃L R,u.1=(⟨5,L,R,0,[],false,⟨[]⟩,[],[],a,[],0⟩:aa)) (uW vF) (fun a _=>kG _ _ _) ?_
  rintro a ⟨u,e'⟩ hk ⟨L,R,rfl⟩
  exact⟨by simp [wd],rfl,⟨by simp,by simp,by simp,hk.1,by simp,TM,hk.2,by simp⟩⟩
 split
 ·rename_i Y H Q h4 h5 h8
  have h8:x=8:=by simpa using h8
  subst h8
  refine lz.bind (P2:=fun a u=> ∃l L R,(0<=l/\l<4294967296)/\u.1=(⟨8,L,R,0,[],false,⟨[]⟩,[],[],[],a,Ij l⟩:aa)) (e2:=fun _ u=>EF u.1) (uW Mu) (fun a _=>?_) ?_
  ·refine lz.bind (P2:=fun l u=> ∃L R,u.1=(⟨8,L,R,0,[],false,⟨[]⟩,[],[],[],a,Ij l⟩:aa)) Oz (fun l _=>kG _ _ _) ?_
   rintro l ⟨u,e'⟩ hk ⟨L,R,rfl⟩
   refine⟨?_,l,L,R,hk,rfl⟩
   unfold EF Ij
   have e:IntKind.u64.wrap (IntKind.i64.wrap (IntKind.i64.wrap (IntKind.i64.wrap l-1)+1))=l:=by
    obtain⟨q1,q2⟩:=hk
    rw [Av,p6,p6,p6];omega
   simp only [e,sC]
  ·rintro a ⟨u,e'⟩ D ⟨l,L,R,hk,rfl⟩
   exact⟨by simp [wd],rfl,⟨by simp,by simp,D.1,by simp,by simp,TM,by simp,by simp⟩⟩
 have last: ∀n,(Y: ¬(x==1||x==9)=true)->(H: ¬(x==2)=true)->(Q: ¬(x==3)=true)->(h4: ¬(x==4||x==10||x==11)=true)->(h5: ¬(x==5)=true)->(h8: ¬(x==8)=true)->lz (np n (fun L R=>(⟨x,L,R,0,[],false,⟨[]⟩,[],[],[],[],0⟩:aa)) e) (fun u=>wd u.1) (fun u=>u.1.Op=x/\gD u.1):=by
  intro n Y H Q h4 h5 h8 l u r hl hu
  obtain⟨g1,⟨L,R,g2⟩,g3⟩:=kG _ _ _ l u r hl hu
  obtain⟨u,e'⟩:=u
  cases (g2:u=_)
  refine⟨?_,?_,g3⟩
  ·rw [g1]
   simp only [xn,wC,not_or]at Y H Q h4 h5 h8
   simp [wd,Y,H,Q,h4,h5,h8]
  ·exact⟨rfl,⟨by simp,by simp,by simp,by simp,by simp,TM,by simp,by simp⟩⟩
 split<;>(rename_i Y H Q h4 h5 h8 _;exact last _ Y H Q h4 h5 h8)
def KQ(e:List Int×Int):lz (Jw e) (fun u=>wV u.1) (fun u=>gD u.1):=
 lz.bind nO (fun x _=>HV x e) fun x u _ h=>⟨by unfold wV;rw [h.1];rfl,h.2⟩
def FZ(N:Int):lz (Af N) (fun ns=>ns.flatMap wV) (fun ns=>ns.length=N.toNat/\ ∀n∈ns,gD n):=by
 intro l u r hl hu
 unfold Af at hu
 cases hq:oP Jw N.toNat ([],0) l with
 |none=>rw [hq]at hu;cases hu
 |some z=>
  rw [hq]at hu
  cases hu
  exact yX KQ N.toNat ([],0) l z.1 z.2 hl hq
structure gF(f:dE):Prop where
 cols:f.Cols.length<=255
 len:f.Nodes.length<=255
 n: ∀n∈f.Nodes,gD n
def KR:lz Jx LK gF:=by
 refine lz.bind nO (P2:=fun a f=>f.At=a/\gF f) (e2:=fun a f=>(LK f).drop 1) (fun a _=>?_) fun a f _ h=>⟨by rw [<-h.1];rfl,h.2⟩;refine lz.bind nO (P2:=fun w f=>f.At=a/\f.Way=w/\gF f) (e2:=fun a f=>(LK f).drop 2) (fun w _=>?_) fun w f _ h=>⟨by rw [<-h.2.1];rfl,h.1,h.2.2⟩;refine lz.bind Bg (P2:=fun cs f=>f.At=a/\f.Way=w/\f.Cols=cs/\f.Nodes.length<=255/\ ∀n∈f.Nodes,gD n) (e2:=fun _ f=>IntKind.u8.wrap (f.Nodes.length:Int)::f.Nodes.flatMap wV) (fun cs _=>?_) fun cs f hc h=>⟨by rw [<-h.2.2.1];simp [LK],h.1,h.2.1,by rw [h.2.2.1];exact hc.1,h.2.2.2.1,h.2.2.2.2⟩;refine lz.bind nO (P2:=fun n f=>f.At=a/\f.Way=w/\f.Cols=cs/\f.Nodes.length=n.toNat/\ ∀n∈f.Nodes,gD n) (e2:=fun _ f=>f.Nodes.flatMap wV) (fun n _=>(FZ n).map fun ns h=>⟨rfl,rfl,rfl,rfl,h.1,h.2⟩) ?_
 rintro n f ⟨q1,q2⟩ ⟨Y,H,Q,h4,h5⟩
 have e:(f.Nodes.length:Int)=n:=by omega
 exact⟨by rw [e];rfl,Y,H,Q,by omega,h5⟩
structure gP(p:iu):Prop where
 len:p.Frags.length<=255
 f: ∀f∈p.Frags,gF f
def KO:lz FY Rc gP:=(uW KR).map fun fs h=>⟨rfl,h.1,h.2⟩
end Go.Proofs.YtdohlidddcgfjaaGreat


/- bR of this claim: H13. -/
set_option linter.all false
namespace Go.Proofs.YtdohlidddcgfjaaGreat
open Go

structure ZE(e:aM):Prop where
 len:e.Nodes.length<=60000
 str: ∀n∈e.Nodes,n.Value.S.length<=100
structure ZD(n:aa):Prop where
 cond:ZE n.Cond
 item: ∀e∈n.Items,ZE e
 arg: ∀a∈n.Aggs,ZE a.Arg
def vL{α:Type}{f:α->List Int}(x:α)(l:List α):((x::l).flatMap f).length=(f x).length+(l.flatMap f).length:=by rw [zx,kO]
def PK(e:aM):(eB e).length=2+(e.Nodes.flatMap nB).length:=by unfold eB;rw [kO,px]
def Ft: ∀(l:List am) (b:List Int),(∀n∈l,n.Value.S.length<=100)->(∀n∈l,n.Tag=1->jG n.Value=true)->b.length+(l.flatMap nB).length<=50000000000->dk l (W0 b)=some (W0 (b++l.flatMap nB))
 |[],b,_,_,_=>by unfold dk;simp
 |n::l,b,hs,hv,h=>by
  have ih:=fun b W=>Ft l b (fun m hm=>hs m (o8 _ hm)) (fun m hm=>hv m (o8 _ hm)) W
  have hn:=hs n (nV ..)
  have hnv:=hv n (nV ..)
  have hln:=Rs hn
  rw [vL]at h
  have hpos:1<=(nB n).length:=by simp [-List.length_flatMap,nB]
  have key: ∀t:List Int,IntKind.u8.wrap n.Tag::t=nB n->dk l (W0 ((b++wj [n.Tag])++t))=some (W0 (b++(n::l).flatMap nB)):=fun t D=>by
   rw [oB,show wj [n.Tag]++t=nB n from D,ih _ (by simp [-List.length_flatMap];omega),oB,zx]
  unfold dk
  rw [nl b _ (by simp [-List.length_flatMap];omega),br]
  by_cases H:n.Tag=2
  ·rw [bu (by simp [-List.length_flatMap,H]),nl _ _ (by simp [-List.length_flatMap,wj];omega),br]
   exact key _ (by unfold nB;rw [bu H];rfl)
  ·rw [aZ (by simpa using H)]
   by_cases Y:n.Tag=1
   ·have hvl:=LZ n.Value
    rw [bu (by simp [-List.length_flatMap,Y]),BV _ (by omega),bu (hnv Y),br]
    show((jb (b++wj [n.Tag]) (vB n.Value)).bind _)=_
    rw [cy (by simp [-List.length_flatMap,wj];omega),br]
    exact key _ (by unfold nB;rw [aZ H,bu Y])
   ·rw [aZ (by simpa using Y)]
    have:=key [] (by unfold nB;rw [aZ H,aZ Y])
    rwa [sC]at this
def Ji(b:List Int)(e:aM)(hs:ZE e)(hv:VE e)(h:b.length+(eB e).length<=50000000000):gJ (W0 b) e=some (W0 (b++eB e)):=by
 have:=hs.len
 rw [PK]at h
 unfold gJ
 show((oh b _).bind _)=_
 rw [Bl b _ (by omega),br,TE (by omega)]
 show dk e.Nodes (W0 _)=_
 rw [Ft e.Nodes _ hs.str hv (by simp [-List.length_flatMap,px];omega),oB]
 rfl
def CZ: ∀(l:List fj) (b:List Int),(∀a∈l,ZE a.Arg)->(∀a∈l,VE a.Arg)->b.length+(l.flatMap NJ).length<=50000000000->fN l (W0 b)=some (W0 (b++l.flatMap NJ))
 |[],b,_,_,_=>by unfold fN;simp
 |a::l,b,hs,hv,h=>by
  rw [vL]at h
  have hl:(NJ a).length=(eB a.Arg).length+1:=by simp [-List.length_flatMap,NJ]
  unfold fN
  rw [nl b _ (by simp [-List.length_flatMap];omega),br,Ji _ a.Arg (hs a (nV ..)) (hv a (nV ..)) (by simp [-List.length_flatMap,wj];omega),br,oB]
  rw [show wj [a.Tag]++eB a.Arg=NJ a from rfl,CZ l _ (fun m hm=>hs m (o8 _ hm)) (fun m hm=>hv m (o8 _ hm)) (by simp [-List.length_flatMap];omega),oB,zx]
def QV(b:List Int)(n:aa)(hs:ZD n)(hv: ∀a∈n.Aggs,VE a.Arg)(h:b.length+(Hh n.Keys++IntKind.u8.wrap (n.Aggs.length:Int)::n.Aggs.flatMap NJ).length<=50000000000):dw (W0 b) n=some (W0 (b++(Hh n.Keys++IntKind.u8.wrap (n.Aggs.length:Int)::n.Aggs.flatMap NJ))):=by
 rw [kO,jj,rF]at h
 unfold dw
 rw [LW b _ (by omega),br,nl _ _ (by simp [-List.length_flatMap,rF];omega),br,CZ n.Aggs _ hs.arg hv (by simp [-List.length_flatMap,rF,wj];omega),oB,oB]
 rfl
def zy: ∀(l:List aM) (b:List Int),(∀a∈l,ZE a)->(∀a∈l,VE a)->b.length+(l.flatMap eB).length<=50000000000->eY l (W0 b)=some (W0 (b++l.flatMap eB))
 |[],b,_,_,_=>by unfold eY;simp
 |a::l,b,hs,hv,h=>by
  rw [vL]at h
  unfold eY
  rw [Ji _ a (hs a (nV ..)) (hv a (nV ..)) (by omega),br]
  rw [zy l _ (fun m hm=>hs m (o8 _ hm)) (fun m hm=>hv m (o8 _ hm)) (by simp [-List.length_flatMap];omega),oB,zx]
def LQ(b:List Int)(n:aa)(hs:ZD n)(hv: ∀a∈n.Items,VE a)(h:b.length+(IntKind.u8.wrap (n.Items.length:Int)::n.Items.flatMap eB).length<=50000000000):fd (W0 b) n=some (W0 (b++IntKind.u8.wrap (n.Items.length:Int)::n.Items.flatMap eB)):=by
 rw [jj]at h
 unfold fd
 rw [nl _ _ (by simp [-List.length_flatMap];omega),br,zy n.Items _ hs.item hv (by simp [-List.length_flatMap,wj];omega),oB]
 rfl
def QJ(b:List Int)(n:aa)(h:b.length+(IntKind.u8.wrap (n.Order.length:Int)::(n.Order.flatMap Qi++EF n)).length<=20000000000):gb (W0 b) n=some (W0 (b++IntKind.u8.wrap (n.Order.length:Int)::(n.Order.flatMap Qi++EF n))):=by
 have e:(n.Order.flatMap Qi).length=2*n.Order.length:=by
  generalize n.Order=l
  induction l with
  |nil=>rfl
  |cons x l ih=>rw [vL,ih,jj];simp [-List.length_flatMap,Qi];omega
 rw [jj,kO,e]at h
 unfold gb
 rw [nl _ _ (by simp [-List.length_flatMap];omega),br,C0 n n.Order _ (by simp [-List.length_flatMap,wj];omega),oB]
 rfl
def Fn(nx:aL->Option aL): ∀(l:List aa) (b:List Int),(∀n∈l,ZD n)->(∀n∈l,VN n)->b.length+(l.flatMap wV).length<=15000000000->dI nx l (W0 b)=nx (W0 (b++l.flatMap wV))
 |[],b,_,_,_=>by unfold dI;simp
 |n::l,b,hs,hv,h=>by
  have ih:=fun b W=>Fn nx l b (fun m hm=>hs m (o8 _ hm)) (fun m hm=>hv m (o8 _ hm)) W
  have hn:=hs n (nV ..)
  have hnv:=hv n (nV ..)
  rw [vL]at h
  have hln:(wV n).length=(wd n).length+1:=by simp [-List.length_flatMap,wV]
  have hb0:(b++wj [n.Op]).length=b.length+1:=by simp [-List.length_flatMap,wj]
  have key: ∀t:List Int,t=wd n->dI nx l (W0 ((b++wj [n.Op])++t))=nx (W0 (b++(n::l).flatMap wV)):=fun t D=>by
   subst D
   rw [oB,show wj [n.Op]++wd n=wV n from rfl,ih _ (by simp [-List.length_flatMap];omega),oB,zx]
  unfold dI
  rw [nl b _ (by simp [-List.length_flatMap];omega),br,TB]
  generalize hc:b++wj [n.Op]=c at hb0 key ⊢
  by_cases Y:n.Op=1
  ·rw [bu Y,bu (by rfl)]
   show(((ee (W0 c) n).map _).bind _)=_
   have hcn:wd n=IntKind.u8.wrap n.Table::Hh n.Kinds:=by unfold wd;rw [bu (.inl Y)]
   rw [map_some (Qa c n (by rw [hcn,jj,rF]at hln;omega)),br]
   exact key _ hcn.symm
  by_cases h9:n.Op=9
  ·rw [aZ Y,bu h9,bu (by rfl)]
   show(((ee (W0 c) n).map _).bind _)=_
   have hcn:wd n=IntKind.u8.wrap n.Table::Hh n.Kinds:=by unfold wd;rw [bu (.inr h9)]
   rw [map_some (Qa c n (by rw [hcn,jj,rF]at hln;omega)),br]
   exact key _ hcn.symm
  have h19: ¬(n.Op=1\/n.Op=9):=by omega
  by_cases H:n.Op=2
  ·rw [aZ Y,aZ h9,bu H,bu (by rfl)]
   show(((gH (W0 c) n).map _).bind _)=_
   have hcn:wd n=fB n.Left::eB n.Cond:=by unfold wd;rw [aZ h19,bu H]
   rw [hcn,jj]at hln
   have hj:gH (W0 c) n=some (W0 (c++fB n.Left::eB n.Cond)):=by
    unfold gH
    rw [Qb c _ (by omega),br,Ji _ _ hn.cond (hnv.cond (.inl H)) (by simp [-List.length_flatMap];omega),br,oB];rfl
   rw [map_some hj,br]
   exact key _ (by unfold wd;rw [aZ h19,bu H])
  by_cases Q:n.Op=3
  ·rw [aZ Y,aZ h9,aZ H,bu Q,bu (by rfl)]
   show(((fI (W0 c) n).map _).bind _)=_
   have hcn:wd n=eB n.Cond:=by unfold wd;rw [aZ h19,aZ H,bu Q]
   rw [hcn]at hln
   have hj:fI (W0 c) n=some (W0 (c++eB n.Cond)):=by
    unfold fI
    rw [Ji _ _ hn.cond (hnv.cond (.inr Q)) (by omega),br]
   rw [map_some hj,br]
   exact key _ (by unfold wd;rw [aZ h19,aZ H,bu Q])
  have X:(n.Op=4\/n.Op=10\/n.Op=11)->((dw (W0 c) n).map fun mr=>((),mr)).bind (fun r5=>(dI nx l) r5.2)=nx (W0 (b++(n::l).flatMap wV)):=fun X=>by
   have hcn:wd n=Hh n.Keys++IntKind.u8.wrap (n.Aggs.length:Int)::n.Aggs.flatMap NJ:=by unfold wd;rw [aZ h19,aZ H,aZ Q,bu X]
   rw [map_some (QV c n hn (hnv.arg X) (by rw [hcn]at hln;omega)),br]
   exact key _ (by unfold wd;rw [aZ h19,aZ H,aZ Q,bu X])
  by_cases h4:n.Op=4
  ·rw [aZ Y,aZ h9,aZ H,aZ Q,bu h4,bu (by rfl)]
   exact X (.inl h4)
  by_cases h10:n.Op=10
  ·rw [aZ Y,aZ h9,aZ H,aZ Q,aZ h4,bu h10,bu (by rfl)]
   exact X (.inr (.inl h10))
  by_cases h11:n.Op=11
  ·rw [aZ Y,aZ h9,aZ H,aZ Q,aZ h4,aZ h10,bu h11,bu (by rfl)]
   exact X (.inr (.inr h11))
  have h4n: ¬(n.Op=4\/n.Op=10\/n.Op=11):=by omega
  by_cases h5:n.Op=5
  ·rw [aZ Y,aZ h9,aZ H,aZ Q,aZ h4,aZ h10,aZ h11,bu h5,bu (by rfl)]
   show(((fd (W0 c) n).map _).bind _)=_
   have hcn:wd n=IntKind.u8.wrap (n.Items.length:Int)::n.Items.flatMap eB:=by unfold wd;rw [aZ h19,aZ H,aZ Q,aZ h4n,bu h5]
   rw [map_some (LQ c n hn (hnv.item h5) (by rw [hcn]at hln;omega)),br]
   exact key _ (by unfold wd;rw [aZ h19,aZ H,aZ Q,aZ h4n,bu h5])
  by_cases h8:n.Op=8
  ·rw [aZ Y,aZ h9,aZ H,aZ Q,aZ h4,aZ h10,aZ h11,aZ h5,bu h8,bu (by rfl)]
   show(((gb (W0 c) n).map _).bind _)=_
   have hcn:wd n=IntKind.u8.wrap (n.Order.length:Int)::(n.Order.flatMap Qi++EF n):=by unfold wd;rw [aZ h19,aZ H,aZ Q,aZ h4n,aZ h5,bu h8]
   rw [map_some (QJ c n (by rw [hcn]at hln;omega)),br]
   exact key _ (by unfold wd;rw [aZ h19,aZ H,aZ Q,aZ h4n,aZ h5,bu h8])
  ·rw [aZ Y,aZ h9,aZ H,aZ Q,aZ h4,aZ h10,aZ h11,aZ h5,aZ h8,aZ (by simp)]
   have:=key [] (by unfold wd;rw [aZ h19,aZ H,aZ Q,aZ h4n,aZ h5,aZ h8])
   rwa [sC]at this
def Fo: ∀(l:List dE) (b:List Int),(∀f∈l,∀n∈f.Nodes,ZD n)->(∀f∈l,∀n∈f.Nodes,VN n)->b.length+(l.flatMap LK).length<=10000000000->fe l (W0 b)=some (W0 (b++l.flatMap LK))
 |[],b,_,_,_=>by unfold fe;simp
 |f::l,b,hs,hv,h=>by
  have hf:=hs f (nV ..)
  rw [vL]at h
  have hfl:(LK f).length=4+f.Cols.length+(f.Nodes.flatMap wV).length:=by simp [-List.length_flatMap,LK,rF];omega
  unfold fe
  rw [nl b _ (by simp [-List.length_flatMap];omega),br,LW _ _ (by simp [-List.length_flatMap,wj];omega),br,nl _ _ (by simp [-List.length_flatMap,wj,rF];omega),br,Fn _ f.Nodes _ hf (hv f (nV ..)) (by simp [-List.length_flatMap,wj,rF];omega)]
  rw [show((b++wj [f.At,f.Way])++Hh f.Cols++wj [(f.Nodes.length:Int)])++f.Nodes.flatMap wV=b++LK f by simp [-List.length_flatMap,LK,wj]]
  rw [Fo l _ (fun m hm=>hs m (o8 _ hm)) (fun m hm=>hv m (o8 _ hm)) (by simp [-List.length_flatMap];omega),oB,zx]
def S4(b:List Int)(p:iu)(hs: ∀f∈p.Frags,∀n∈f.Nodes,ZD n)(hv: ∀f∈p.Frags,∀n∈f.Nodes,VN n)(h:b.length+(Rc p).length<=1000000000):iR (W0 b) p=some (W0 (b++Rc p)):=by
 have hp:(Rc p).length=1+(p.Frags.flatMap LK).length:=by simp [-List.length_flatMap,Rc];omega
 unfold iR
 rw [nl _ _ (by simp [-List.length_flatMap];omega),br,Fo p.Frags _ hs hv (by simp [-List.length_flatMap,wj];omega),oB]
 rfl
end Go.Proofs.YtdohlidddcgfjaaGreat


/- bR of this claim: H14. -/
set_option linter.all false
namespace Go.Proofs.YtdohlidddcgfjaaGreat
open Go

def Gw{f:dE}(h:gF f)(hl:f.Nodes.length<=90):qv f.Nodes:=by
 refine⟨hl,fun n hn=>?_⟩
 have k:=h.n n hn
 have:=k.cond.1;have:=k.kinds;have:=k.keys;have:=k.order;have:=k.items;have:=k.aggs
 exact⟨by omega,by omega,by omega,by omega,by omega,by omega,fun g X=>(k.arg g X).1,fun e he=>(k.item e he).1⟩
def K9{f:dE}(h:gF f): ∃r,kF f.Nodes=some r/\(r.2.2=0-> ∀n∈f.Nodes,VN n):=by
 by_cases hc:((decide ((f.Nodes.length:Int)<(1:Int)))||(decide ((60:Int)<(f.Nodes.length:Int))))=true
 ·unfold kF
  rw [bu hc]
  exact⟨_,rfl,fun h=>by simp at h⟩
 ·have hl:f.Nodes.length<=90:=by
   simp only [xn,o9,not_or]at hc
   omega
  obtain⟨out,w,e,Y,H⟩:=I3 (Gw h hl)
  refine⟨_,Y,fun h0=>?_⟩
  have h0:e=0:=h0
  subst h0
  exact NR (Gw h hl) Y
def Bq(p:iu): ∀l:List dE,(∀f∈l,gF f)-> ∃q,lZ p l=some q/\(q=true-> ∀f∈l,∀n∈f.Nodes,VN n)
 |[],_=>by
  unfold lZ
  exact⟨_,rfl,fun _ f hf=>by cases hf⟩
 |f::l,hs=>by
  obtain⟨r,Y,H⟩:=K9 (hs f (nV ..))
  obtain⟨q,Q,h4⟩:=Bq p l fun x V=>hs x (o8 _ V)
  unfold lZ
  rw [Y,br,jh (f:=oS) (g:=SG) (fun _=>rfl)]
  have D:=E0 (p:=((decide ((1:Int)<=f.Way))&&(decide (f.Way<=(4:Int))))&&(decide ((f.Cols.length:Int)<=(16:Int)))) (rfl:some (f.Cols.any SG)=some (f.Cols.any SG))
  rw [D,br]
  split
  ·exact⟨false,rfl,fun h=>by cases h⟩
  ·rename_i hc
   refine⟨q,Q,fun hq g X=>?_⟩
   rcases jy.1 X with rfl|X
   ·refine H ?_
    simp only [xn,not_or,uB,ne_eq,Decidable.not_not]at hc
    exact hc.1.1
   ·exact h4 hq g X
def MY{e:aM}(h:gX e):ZE e:=⟨by have:=h.1;omega,fun n hn=>by have:=h.2 n hn;unfold gS at this;omega⟩
def TN{n:aa}(h:gD n):ZD n:=⟨MY h.cond,fun e he=>MY (h.item e he),fun a ha=>MY (h.arg a ha)⟩
def I6{p:iu}(X:gP p)(hl:(Rc p).length<=5000)(h:lE p=some true):lj p=some (Rc p,0):=by
 obtain⟨q,Y,H⟩:=Bq p p.Frags X.f
 have hq:q=true:=by
  have:lE p=some q:=Y
  rw [h]at this
  exact(oy this).symm
 unfold lj
 rw [h,br,aZ (by simp)]
 have:=S4 [] p (fun f hf n hn=>TN ((X.f f hf).n n hn)) (H hq) (by simp only [ul];omega)
 show((iR (W0 []) p).bind _)=_
 rw [this];rfl
def wb(b:List Int)(hby:yF b):kp b=some true:=by
 unfold kp
 rw [Od,br,aZ (by simp)]
 by_cases hl:(5000:Int)<(b.length:Int)
 ·rw [bu (by simpa using hl)]
 ·rw [aZ (by simpa using hl),cy (by simp;omega),br,mz,CP (by omega) hby]
  have no: ∀x:Option (iu×Int),x=some Ii->(x.bind fun r1=>if(r1.2 !=(0:Int))=true then some ((r1.2==(331:Int))&&((r1.1.Frags.length:Int)==(0:Int)))else(lj r1.1).bind fun r2=>(if(r2.2==(0:Int))=true then((ot b r2.1).bind fun r3=>some r3)else some false).bind fun t=>some t)=some true:=by
   rintro x rfl
   rfl
  cases hp:FY b with
  |none=>exact no _ rfl
  |some u=>
   obtain⟨p,rest⟩:=u
   cases rest with
   |cons c r=>exact no _ rfl
   |nil=>
    obtain⟨g1,g2,g3⟩:=KO.size b p [] ⟨hby,by omega⟩ hp
    rw [sC]at g1
    obtain⟨q,Y,_⟩:=Bq p p.Frags g2.1.f
    have h1' :lE p=some q:=Y
    simp only [h1',br]
    cases q with
    |false=>exact no _ rfl
    |true=>
     simp only [jY]
     rw [aZ (by simp),I6 g2.1 g2.2 h1',br,bu (by simp),<-g1,zk]
     rfl
end Go.Proofs.YtdohlidddcgfjaaGreat


/- bR of this claim: H15. -/
set_option linter.all false
namespace Go.Proofs.YtdohlidddcgfjaaGreat
open Go

def OR{b:List Int}(h:V8 (TJ .u8) b):yF b:=fun x V=>by
 obtain⟨Y,H⟩:=h.2 x V
 have Y:(0:Int)<=x:=Y
 have H:x<=255:=H
 exact⟨x.toNat,by omega,by omega⟩
def u7(b:List Int)(W:V8 (TJ .u8) b):kp b=some true:=wb b (OR W)
end Go.Proofs.YtdohlidddcgfjaaGreat

