/- cE of this claim: Y2. -/
import Derived.Test.YtdohlidddcgfjaaGreatFcY1
set_option linter.all false
namespace Go.Proofs.YtdohlidddcgfjaaGreat
open Go

def kA(h2:List (List Int))(p:Int):List Int:=if p<0 then []else(h2[p.toNat]?).getD []
def KK(n:tV)(i:Nat):Prop:=
 (prt n.Op=0/\n.A= -1/\n.B= -1)\/(prt n.Op=1/\0<=n.A/\n.A<(i:Int)/\n.B= -1)\/(prt n.Op=2/\0<=n.A/\n.A<(i:Int)/\0<=n.B/\n.B<(i:Int))
def EM(ns:List tV)(h2:List (List Int))(i:Nat):Prop:= ∃n R,ns[i]? =some n/\h2[i]? =some R/\R.length<=16/\KK n i/\Lv n (kA h2 n.A) (kA h2 n.B) R/\(n.Op=8\/n.Op=10->i+1=ns.length)
structure IU(ns:List tV)(l:aq)(i:Nat):Prop where
 nodes:l.nodes=ns
 len:l.kinds.length=i
 open_: ∀p∈l.open_,0<=p/\p<(i:Int)
 olen:l.open_.length<=i
 kinds: ∀k∈l.kinds,k.length<=16
 ok: ∀j,j<i->EM ns l.kinds j
def Cl{h2:List (List Int)}(h: ∀k∈h2,k.length<=16)(p:Int):(kA h2 p).length<=16:=by
 unfold kA
 split
 ·simp
 ·cases hk:h2[p.toNat]? with
  |none=>simp
  |some k=>exact h k (rC hk)
def Ck{h2:List (List Int)}:kA h2 (-1)=[]:=bJ (by decide)
def y7{h2 L:List (List Int)}{p:Int}(h:p<(h2.length:Int)):kA (h2++L) p=kA h2 p:=by
 unfold kA
 split
 ·rfl
 ·rw [AP (by omega)]
def F3{ns:List tV}{h2:List (List Int)}{R:List Int}{j:Nat}(hj:j<h2.length)(h:EM ns h2 j):EM ns (h2++[R]) j:=by
 obtain⟨n,R',X,K,h3,h4,h5,h6⟩:=h
 refine⟨n,R',X,by rw [AP hj];exact K,h3,h4,?_,h6⟩
 have hA:n.A<(h2.length:Int):=by rcases h4 with h|h|h<;>omega
 have hB:n.B<(h2.length:Int):=by rcases h4 with h|h|h<;>omega
 rw [y7 hA,y7 hB]
 exact h5
section
variable{ns:List tV}{l:aq}{i:Nat}
def B8{k:Nat}(h:IU ns l i)(hi:i<100)(hn:ns.length<=100){e:tV}(he:ns[i]? =some e)(hs:jJ e)(hp:prt e.Op=(k:Int))(hk:k<=l.open_.length)(har:KK e i)(i5:Nat):
  ∃ok l',bw l (i:Int) (px e.Op) e (prt e.Op) [] i5 (kA l.kinds e.A) (kA l.kinds e.B)=some (ok,l')/\l'.nodes=l.nodes/\(ok=true->IU ns l' (i+1)):=by
 let l1:aq:={l with n:=e,a_:=kA l.kinds e.A,b:=kA l.kinds e.B}
 have hlb:Lb l1:=⟨hs,Cl h.kinds _,Cl h.kinds _⟩
 have hAsk:=KJ hlb (fun hne=>by
  have h0:0<=e.A/\e.A<(i:Int):=by
   rcases har with h|h|h
   ·exact absurd h.1 hne
   ·exact⟨h.2.1,h.2.2.1⟩
   ·exact⟨h.2.1,h.2.2.1⟩
  have hilt:=(tp.1 he).1
  have:e.A.toNat<ns.length:=by omega
  refine⟨ns[e.A.toNat],?_⟩
  show gB l.nodes e.A=_
  rw [h.nodes,m6 e.A.toNat (by omega),lI this]) (by show 0<=prt e.Op;omega)
 obtain⟨ok,R,X,K⟩:=hAsk
 unfold bw
 show∃ok l',(if(((e.Op==(8:Int))||(e.Op==(10:Int)))&&((i:Int) !=(IntKind.i64.wrap ((l.nodes.length:Int)-(1:Int)))))then some (false,l1)else(px e.Op l1 ()).bind _)=_/\_
 by_cases hroot:(((e.Op==(8:Int))||(e.Op==(10:Int)))&&((i:Int) !=(IntKind.i64.wrap ((l.nodes.length:Int)-(1:Int)))))=true
 ·rw [bJ hroot]
  exact⟨false,l1,rfl,rfl,fun h=>by cases h⟩
 ·rw [bk hroot]
  have h1' :px e.Op l1 ()=some (ok,{l1 with result:=R}):=X
  rw [h1',bG]
  have hroot' :e.Op=8\/e.Op=10->i+1=ns.length:=fun ho=>by
   have hilt:=(tp.1 he).1
   rw [h.nodes,fg (by omega) (by omega)]at hroot
   rcases ho with ho|ho<;>(rw [ho]at hroot;simp at hroot;omega)
  show∃ok' l',(if((!ok)||(decide ((16:Int)<(R.length:Int))))then some (false,{l1 with result:=R})else(app l.kinds [R]).bind fun l1' =>(eX l.open_ 0 (IntKind.i64.wrap ((l.open_.length:Int)-prt e.Op))).bind fun y2=>(app y2 [(i:Int)]).bind fun l2=>some (true,({({({l1 with result:=R}:aq)with kinds:=l1' }:aq)with open_:=l2}:aq)))=_/\_
  by_cases hc:((!ok)||(decide ((16:Int)<(R.length:Int))))=true
  ·rw [bJ hc]
   exact⟨false,_,rfl,rfl,fun h=>by cases h⟩
  ·rw [bk hc]
   have hol:=h.olen
   have hkl:=h.len
   have hok:ok=true:=by cases ok with|true=>rfl|false=>simp at hc
   have hR:R.length<=16:=by subst hok;simp at hc;omega
   have hrel:=K hok
   rw [cd (by simp;omega),bG,hp,fg (by omega) (by omega),lB 0 (l.open_.length-k) (show(0:Int)=((0:Nat):Int)from rfl) (by omega) (by omega) (by omega),bG,cd (by simp;omega),bG,zr]
   refine⟨true,_,rfl,rfl,fun _=>⟨h.nodes,by simp [hkl],fun p hpm=>?_,by simp;omega,fun q hq=>?_,fun j hj=>?_⟩⟩
   ·rcases uW.1 hpm with hm|hm
    ·have:=h.open_ p (List.mem_of_mem_take hm);omega
    ·rw [zW.1 hm];omega
   ·rcases uW.1 hq with hm|hm
    ·exact h.kinds q hm
    ·rw [zW.1 hm];exact hR
   ·show EM ns (l.kinds++[R]) j
    by_cases hji:j<i
    ·exact F3 (by omega) (h.ok j hji)
    ·have hj' :j=i:=by omega
     subst hj'
     refine⟨e,R,he,by rw [xC (by omega),hkl];simp,hR,har,?_,hroot'⟩
     have hA:e.A<(l.kinds.length:Int):=by rcases har with h|h|h<;>omega
     have hB:e.B<(l.kinds.length:Int):=by rcases har with h|h|h<;>omega
     rw [y7 hA,y7 hB]
     exact hrel
def Np{h2:List (List Int)}{p:Int}(h0:0<=p)(h:p<(h2.length:Int)):gB h2 p=some (kA h2 p):=by
 rw [m6 p.toNat (by omega),lI (by omega)]
 unfold kA
 rw [bk (by omega),lI (by omega)]
 rfl
def z6(l:aq)(ik:Int)(ask:aq->Unit->Option (Bool×aq))(e:tV)(r:Int)(p:Int)(tl:List Int)(i5:Nat)(a b:List Int)(h0:0<=p)(h:p<(l.kinds.length:Int)):
  (∃l',bw l ik ask e r (p::tl) i5 a b=some (false,l')/\l'.nodes=l.nodes)\/bw l ik ask e r (p::tl) i5 a b=if i5=0 then bw l ik ask e r tl (i5+1) (kA l.kinds p) b else bw l ik ask e r tl (i5+1) a (kA l.kinds p):=by
 have step:bw l ik ask e r (p::tl) i5 a b=(if(e.Op !=(11:Int))then((gR (kA l.kinds p) (4:Int)).bind fun r3=>some r3)else some false).bind fun t1=>
   if t1 then some (false,({({({({({l with n:=e}:aq)with a_:=[]}:aq)with b:=[]}:aq)with a_:=a}:aq)with b:=b}:aq))
   else if((i5:Int)==(0:Int))then bw l ik ask e r tl (i5+1) (kA l.kinds p) b else bw l ik ask e r tl (i5+1) a (kA l.kinds p):=by
  conv=>lhs;unfold bw
  rw [Np h0 h,bG]
 rw [step,xA]
 have: ∃t,(if(e.Op !=(11:Int))then((some (decide ((4:Int)∈kA l.kinds p))).bind fun r3=>some r3)else some false)=some t:=by split<;>exact⟨_,rfl⟩
 obtain⟨t,D⟩:=this
 rw [D,bG]
 cases t with
 |true=>exact .inl ⟨_,rfl,rfl⟩
 |false=>
  refine .inr ?_
  rw [bk (by simp)]
  by_cases h5:i5=0
  ·rw [bJ h5,bJ (by simp [h5])]
  ·rw [bk h5,bk (by simp;omega)]
def Jt(h:IU ns l i)(hi:i<100)(hn:ns.length<=100){e:tV}(he:ns[i]? =some e)(hs:jJ e): ∃ok l',dC l (i:Int) (px e.Op)=some (ok,l')/\l'.nodes=l.nodes/\(ok=true->IU ns l' (i+1)):=by
 have hol:=h.olen
 have bad: ∃ok l',some (false,l)=some (ok,l')/\l'.nodes=l.nodes/\(ok=true->IU ns l' (i+1)):=⟨false,l,rfl,rfl,fun h=>by cases h⟩
 have hns:=h.nodes
 subst hns
 unfold dC
 rw [eu,he,bG,vK,bG]
 obtain⟨t,D,htf⟩: ∃t,(if(!((decide (prt e.Op<(0:Int)))||(decide ((l.open_.length:Int)<prt e.Op))))then((sE e).bind fun r1=>some (!r1))else some true)=some t/\(t=false->0<=prt e.Op/\prt e.Op<=(l.open_.length:Int)):=by
  split
  ·rename_i hc
   unfold sE
   refine⟨_,rfl,fun _=>?_⟩
   simp at hc
   omega
  ·exact⟨true,rfl,fun h=>by cases h⟩
 rw [D,bG]
 cases t with
 |true=>rw [bJ rfl];exact bad
 |false=>
  rw [bk (by simp)]
  obtain⟨h0,hlt⟩:=htf rfl
  obtain⟨k,hk⟩:=Int.eq_ofNat_of_zero_le h0
  have hk' :k<=l.open_.length:=by omega
  have hk2:k<=2:=by
   unfold prt at hk
   split at hk
   ·omega
   ·split at hk
    ·omega
    ·split at hk<;>omega
  rw [hk,fg (by omega) (by omega),lB (l.open_.length-k) l.open_.length (by omega) rfl (by omega) (by omega),bG,DF]
  have hlen:(l.open_.drop (l.open_.length-k)).length=k:=by simp;omega
  have hmem: ∀p∈l.open_.drop (l.open_.length-k),0<=p/\p<(i:Int):=fun p hp=>h.open_ p (List.mem_of_mem_drop hp)
  generalize hy:l.open_.drop (l.open_.length-k)=y at hlen hmem ⊢
  have hkl:=h.len
  by_cases hc:(qx ([(-1:Int),(-1:Int)]) y)=([e.A,e.B])
  ·rw [bk (by simp [hc]),bG,<-hk]
   match y,hlen,hmem,hc with
   |[],hlen,hmem,hc=>
    have hk0:k=0:=by simpa using hlen.symm
    subst hk0
    have e1:([(-1:Int),(-1:Int)]:List Int)=[e.A,e.B]:=hc
    injection e1 with eA e2
    injection e2 with eB _
    have har:KK e i:= .inl ⟨hk,eA.symm,eB.symm⟩
    have:=B8 h hi hn he hs hk hk' har 0
    rw [<-eA,<-eB,Ck]at this
    exact this
   |[p],hlen,hmem,hc=>
    have hk0:k=1:=by simpa using hlen.symm
    subst hk0
    have e1:([p,(-1:Int)]:List Int)=[e.A,e.B]:=hc
    injection e1 with eA e2
    injection e2 with eB _
    have hp:=hmem p (by simp)
    have har:KK e i:= .inr (.inl ⟨hk,by omega,by omega,eB.symm⟩)
    have hend:=B8 h hi hn he hs hk hk' har 1
    rcases z6 l (i:Int) (px e.Op) e (prt e.Op) p [] 0 [] [] hp.1 (by omega)with⟨l',g1,g2⟩|g1
    ·exact⟨false,l',g1,g2,fun h=>by cases h⟩
    ·show∃ok l',bw l (i:Int) (px e.Op) e (prt e.Op) [p] 0 [] []=_/\_
     rw [g1,bJ rfl]
     rw [<-eA,<-eB,Ck]at hend
     exact hend
   |[p,q],hlen,hmem,hc=>
    have hk0:k=2:=by simpa using hlen.symm
    subst hk0
    have e1:([p,q]:List Int)=[e.A,e.B]:=hc
    injection e1 with eA e2
    injection e2 with eB _
    have hp:=hmem p (by simp)
    have hq:=hmem q (by simp)
    have har:KK e i:= .inr (.inr ⟨hk,by omega,by omega,by omega,by omega⟩)
    have hend:=B8 h hi hn he hs hk hk' har 2
    rcases z6 l (i:Int) (px e.Op) e (prt e.Op) p [q] 0 [] [] hp.1 (by omega)with⟨l',g1,g2⟩|g1
    ·exact⟨false,l',g1,g2,fun h=>by cases h⟩
    ·show∃ok l',bw l (i:Int) (px e.Op) e (prt e.Op) [p,q] 0 [] []=_/\_
     rw [g1,bJ rfl]
     rcases z6 l (i:Int) (px e.Op) e (prt e.Op) q [] 1 (kA l.kinds p) [] hq.1 (by omega)with⟨l',g1,g2⟩|g1
     ·exact⟨false,l',g1,g2,fun h=>by cases h⟩
     ·show∃ok l',bw l (i:Int) (px e.Op) e (prt e.Op) [q] 1 (kA l.kinds p) []=_/\_
      rw [g1,bk (by omega)]
      rw [<-eA,<-eB]at hend
      exact hend
   |_::_::_::_,hlen,_,_=>simp at hlen;omega
  ·rw [bJ (by simp [hc])]
   exact bad
end
end Go.Proofs.YtdohlidddcgfjaaGreat

