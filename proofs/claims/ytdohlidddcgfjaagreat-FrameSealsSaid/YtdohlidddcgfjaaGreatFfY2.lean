/- bS of this claim: Y2. -/
import Derived.Test.YtdohlidddcgfjaaGreatFfY1
set_option linter.all false
namespace Go.Proofs.YtdohlidddcgfjaaGreat
open Go

def kA(hg:List (List Int))(p:Int):List Int:=if p<0 then []else(hg[p.toNat]?).getD []
def Lz(n:aa)(i:Nat):Prop:=
 (prt n.Op=0/\n.A= -1/\n.B= -1)\/(prt n.Op=1/\0<=n.A/\n.A<(i:Int)/\n.B= -1)\/(prt n.Op=2/\0<=n.A/\n.A<(i:Int)/\0<=n.B/\n.B<(i:Int))
def EZ(ns:List aa)(hg:List (List Int))(i:Nat):Prop:= ∃n R,ns[i]? =some n/\hg[i]? =some R/\R.length<=16/\Lz n i/\Mz n (kA hg n.A) (kA hg n.B) R/\(n.Op=8\/n.Op=10->i+1=ns.length)
structure Jt(ns:List aa)(l:al)(i:Nat):Prop where
 nodes:l.nodes=ns
 len:l.kinds.length=i
 open_: ∀p∈l.open_,0<=p/\p<(i:Int)
 olen:l.open_.length<=i
 kinds: ∀k∈l.kinds,k.length<=16
 ok: ∀j,j<i->EZ ns l.kinds j
def Ck{hg:List (List Int)}(h: ∀k∈hg,k.length<=16)(p:Int):(kA hg p).length<=16:=by
 unfold kA
 split
 ·simp
 ·cases hk:hg[p.toNat]? with
  |none=>simp
  |some k=>exact h k (tu hk)
def Cj{hg:List (List Int)}:kA hg (-1)=[]:=bh (by decide)
def yT{hg L:List (List Int)}{p:Int}(h:p<(hg.length:Int)):kA (hg++L) p=kA hg p:=by
 unfold kA
 split
 ·rfl
 ·rw [zJ (by omega)]
def Gc{ns:List aa}{hg:List (List Int)}{R:List Int}{j:Nat}(hj:j<hg.length)(h:EZ ns hg j):EZ ns (hg++[R]) j:=by
 obtain⟨n,R',Y,X,d,h4,h5,h6⟩:=h
 refine⟨n,R',Y,by rw [zJ hj];exact X,d,h4,?_,h6⟩
 have hA:n.A<(hg.length:Int):=by rcases h4 with h|h|h<;>omega
 have hB:n.B<(hg.length:Int):=by rcases h4 with h|h|h<;>omega
 rw [yT hA,yT hB]
 exact h5
section
variable{ns:List aa}{l:al}{i:Nat}
def B3{k:Nat}(h:Jt ns l i)(hi:i<100)(hn:ns.length<=100){e:aa}(he:ns[i]? =some e)(hs:je e)(hp:prt e.Op=(k:Int))(hk:k<=l.open_.length)(har:Lz e i)(i5:Nat):
  ∃ok l',bd l (i:Int) (oe e.Op) e (prt e.Op) [] i5 (kA l.kinds e.A) (kA l.kinds e.B)=some (ok,l')/\l'.nodes=l.nodes/\(ok=true->Jt ns l' (i+1)):=by
 let l1:al:={l with n:=e,a_:=kA l.kinds e.A,b:=kA l.kinds e.B}
 have hlb:Lb l1:=⟨hs,Ck h.kinds _,Ck h.kinds _⟩
 have hAsk:=Ly hlb (fun hne=>by
  have h0:0<=e.A/\e.A<(i:Int):=by
   rcases har with h|h|h
   ·exact absurd h.1 hne
   ·exact⟨h.2.1,h.2.2.1⟩
   ·exact⟨h.2.1,h.2.2.1⟩
  have hilt:=(sy.1 he).1
  have:e.A.toNat<ns.length:=by omega
  refine⟨ns[e.A.toNat],?_⟩
  show gV l.nodes e.A=_
  rw [h.nodes,lZ e.A.toNat (by omega),sH this]) (by show 0<=prt e.Op;omega)
 obtain⟨ok,R,Y,X⟩:=hAsk
 unfold bd
 show∃ok l',(if(((e.Op==(8:Int))||(e.Op==(10:Int)))&&((i:Int) !=(IntKind.i64.wrap ((l.nodes.length:Int)-(1:Int)))))then some (false,l1)else(oe e.Op l1 ()).bind _)=_/\_
 by_cases hroot:(((e.Op==(8:Int))||(e.Op==(10:Int)))&&((i:Int) !=(IntKind.i64.wrap ((l.nodes.length:Int)-(1:Int)))))=true
 ·rw [bh hroot]
  exact⟨false,l1,rfl,rfl,fun h=>by cases h⟩
 ·rw [aQ hroot]
  have h1' :oe e.Op l1 ()=some (ok,{l1 with result:=R}):=Y
  rw [h1',bf]
  have hroot' :e.Op=8\/e.Op=10->i+1=ns.length:=fun ho=>by
   have hilt:=(sy.1 he).1
   rw [h.nodes,eM (by omega) (by omega)]at hroot
   rcases ho with ho|ho<;>(rw [ho]at hroot;simp at hroot;omega)
  show∃ok' l',(if((!ok)||(decide ((16:Int)<(R.length:Int))))then some (false,{l1 with result:=R})else(app l.kinds [R]).bind fun l1' =>(dQ l.open_ 0 (IntKind.i64.wrap ((l.open_.length:Int)-prt e.Op))).bind fun y2=>(app y2 [(i:Int)]).bind fun l2=>some (true,({({({l1 with result:=R}:al)with kinds:=l1' }:al)with open_:=l2}:al)))=_/\_
  by_cases hc:((!ok)||(decide ((16:Int)<(R.length:Int))))=true
  ·rw [bh hc]
   exact⟨false,_,rfl,rfl,fun h=>by cases h⟩
  ·rw [aQ hc]
   have hol:=h.olen
   have hkl:=h.len
   have hok:ok=true:=by cases ok with|true=>rfl|false=>simp at hc
   have hR:R.length<=16:=by subst hok;simp at hc;omega
   have hrel:=X hok
   rw [cD (by simp;omega),bf,hp,eM (by omega) (by omega),iZ 0 (l.open_.length-k) (show(0:Int)=((0:Nat):Int)from rfl) (by omega) (by omega) (by omega),bf,cD (by simp;omega),bf,zF]
   refine⟨true,_,rfl,rfl,fun _=>⟨h.nodes,by simp [hkl],fun p hpm=>?_,by simp;omega,fun q hq=>?_,fun j hj=>?_⟩⟩
   ·rcases ui.1 hpm with hm|hm
    ·have:=h.open_ p (List.mem_of_mem_take hm);omega
    ·rw [uk.1 hm];omega
   ·rcases ui.1 hq with hm|hm
    ·exact h.kinds q hm
    ·rw [uk.1 hm];exact hR
   ·show EZ ns (l.kinds++[R]) j
    by_cases hji:j<i
    ·exact Gc (by omega) (h.ok j hji)
    ·have hj' :j=i:=by omega
     subst hj'
     refine⟨e,R,he,by rw [xf (by omega),hkl];simp,hR,har,?_,hroot'⟩
     have hA:e.A<(l.kinds.length:Int):=by rcases har with h|h|h<;>omega
     have hB:e.B<(l.kinds.length:Int):=by rcases har with h|h|h<;>omega
     rw [yT hA,yT hB]
     exact hrel
def ON{hg:List (List Int)}{p:Int}(h0:0<=p)(h:p<(hg.length:Int)):gV hg p=some (kA hg p):=by
 rw [lZ p.toNat (by omega),sH (by omega)]
 unfold kA
 rw [aQ (by omega),sH (by omega)]
 rfl
def zQ(l:al)(ik:Int)(ask:al->Unit->Option (Bool×al))(e:aa)(r:Int)(p:Int)(tl:List Int)(i5:Nat)(a b:List Int)(h0:0<=p)(h:p<(l.kinds.length:Int)):
  (∃l',bd l ik ask e r (p::tl) i5 a b=some (false,l')/\l'.nodes=l.nodes)\/bd l ik ask e r (p::tl) i5 a b=if i5=0 then bd l ik ask e r tl (i5+1) (kA l.kinds p) b else bd l ik ask e r tl (i5+1) a (kA l.kinds p):=by
 have step:bd l ik ask e r (p::tl) i5 a b=(if(e.Op !=(11:Int))then((gn (kA l.kinds p) (4:Int)).bind fun r3=>some r3)else some false).bind fun t1=>
   if t1 then some (false,({({({({({l with n:=e}:al)with a_:=[]}:al)with b:=[]}:al)with a_:=a}:al)with b:=b}:al))
   else if((i5:Int)==(0:Int))then bd l ik ask e r tl (i5+1) (kA l.kinds p) b else bd l ik ask e r tl (i5+1) a (kA l.kinds p):=by
  conv=>lhs;unfold bd
  rw [ON h0 h,bf]
 rw [step,xc]
 have: ∃t,(if(e.Op !=(11:Int))then((some (decide ((4:Int)∈kA l.kinds p))).bind fun r3=>some r3)else some false)=some t:=by split<;>exact⟨_,rfl⟩
 obtain⟨t,D⟩:=this
 rw [D,bf]
 cases t with
 |true=>exact .inl ⟨_,rfl,rfl⟩
 |false=>
  refine .inr ?_
  rw [aQ (by simp)]
  by_cases h5:i5=0
  ·rw [bh h5,bh (by simp [h5])]
  ·rw [aQ h5,aQ (by simp;omega)]
def JZ(h:Jt ns l i)(hi:i<100)(hn:ns.length<=100){e:aa}(he:ns[i]? =some e)(hs:je e): ∃ok l',dm l (i:Int) (oe e.Op)=some (ok,l')/\l'.nodes=l.nodes/\(ok=true->Jt ns l' (i+1)):=by
 have hol:=h.olen
 have bad: ∃ok l',some (false,l)=some (ok,l')/\l'.nodes=l.nodes/\(ok=true->Jt ns l' (i+1)):=⟨false,l,rfl,rfl,fun h=>by cases h⟩
 have hns:=h.nodes
 subst hns
 unfold dm
 rw [eU,he,bf,u7,bf]
 obtain⟨t,D,htf⟩: ∃t,(if(!((decide (prt e.Op<(0:Int)))||(decide ((l.open_.length:Int)<prt e.Op))))then((rt e).bind fun r1=>some (!r1))else some true)=some t/\(t=false->0<=prt e.Op/\prt e.Op<=(l.open_.length:Int)):=by
  split
  ·rename_i hc
   unfold rt
   refine⟨_,rfl,fun _=>?_⟩
   simp at hc
   omega
  ·exact⟨true,rfl,fun h=>by cases h⟩
 rw [D,bf]
 cases t with
 |true=>rw [bh rfl];exact bad
 |false=>
  rw [aQ (by simp)]
  obtain⟨h0,hlt⟩:=htf rfl
  obtain⟨k,hk⟩:=Int.eq_ofNat_of_zero_le h0
  have hk' :k<=l.open_.length:=by omega
  have hk2:k<=2:=by
   unfold prt at hk
   split at hk
   ·omega
   ·split at hk
    ·omega
    ·split at hk<;>omega
  rw [hk,eM (by omega) (by omega),iZ (l.open_.length-k) l.open_.length (by omega) rfl (by omega) (by omega),bf,D0]
  have hlen:(l.open_.drop (l.open_.length-k)).length=k:=by simp;omega
  have hmem: ∀p∈l.open_.drop (l.open_.length-k),0<=p/\p<(i:Int):=fun p hp=>h.open_ p (List.mem_of_mem_drop hp)
  generalize hy:l.open_.drop (l.open_.length-k)=y at hlen hmem ⊢
  have hkl:=h.len
  by_cases hc:(pD ([(-1:Int),(-1:Int)]) y)=([e.A,e.B])
  ·rw [aQ (by simp [hc]),bf,<-hk]
   match y,hlen,hmem,hc with
   |[],hlen,hmem,hc=>
    have hk0:k=0:=by simpa using hlen.symm
    subst hk0
    have e1:([(-1:Int),(-1:Int)]:List Int)=[e.A,e.B]:=hc
    injection e1 with eA e2
    injection e2 with eB _
    have har:Lz e i:= .inl ⟨hk,eA.symm,eB.symm⟩
    have:=B3 h hi hn he hs hk hk' har 0
    rw [<-eA,<-eB,Cj]at this
    exact this
   |[p],hlen,hmem,hc=>
    have hk0:k=1:=by simpa using hlen.symm
    subst hk0
    have e1:([p,(-1:Int)]:List Int)=[e.A,e.B]:=hc
    injection e1 with eA e2
    injection e2 with eB _
    have hp:=hmem p (by simp)
    have har:Lz e i:= .inr (.inl ⟨hk,by omega,by omega,eB.symm⟩)
    have hend:=B3 h hi hn he hs hk hk' har 1
    rcases zQ l (i:Int) (oe e.Op) e (prt e.Op) p [] 0 [] [] hp.1 (by omega)with⟨l',g1,g2⟩|g1
    ·exact⟨false,l',g1,g2,fun h=>by cases h⟩
    ·show∃ok l',bd l (i:Int) (oe e.Op) e (prt e.Op) [p] 0 [] []=_/\_
     rw [g1,bh rfl]
     rw [<-eA,<-eB,Cj]at hend
     exact hend
   |[p,q],hlen,hmem,hc=>
    have hk0:k=2:=by simpa using hlen.symm
    subst hk0
    have e1:([p,q]:List Int)=[e.A,e.B]:=hc
    injection e1 with eA e2
    injection e2 with eB _
    have hp:=hmem p (by simp)
    have hq:=hmem q (by simp)
    have har:Lz e i:= .inr (.inr ⟨hk,by omega,by omega,by omega,by omega⟩)
    have hend:=B3 h hi hn he hs hk hk' har 2
    rcases zQ l (i:Int) (oe e.Op) e (prt e.Op) p [q] 0 [] [] hp.1 (by omega)with⟨l',g1,g2⟩|g1
    ·exact⟨false,l',g1,g2,fun h=>by cases h⟩
    ·show∃ok l',bd l (i:Int) (oe e.Op) e (prt e.Op) [p,q] 0 [] []=_/\_
     rw [g1,bh rfl]
     rcases zQ l (i:Int) (oe e.Op) e (prt e.Op) q [] 1 (kA l.kinds p) [] hq.1 (by omega)with⟨l',g1,g2⟩|g1
     ·exact⟨false,l',g1,g2,fun h=>by cases h⟩
     ·show∃ok l',bd l (i:Int) (oe e.Op) e (prt e.Op) [q] 1 (kA l.kinds p) []=_/\_
      rw [g1,aQ (by omega)]
      rw [<-eA,<-eB]at hend
      exact hend
   |_::_::_::_,hlen,_,_=>simp at hlen;omega
  ·rw [bh (by simp [hc])]
   exact bad
end
end Go.Proofs.YtdohlidddcgfjaaGreat

