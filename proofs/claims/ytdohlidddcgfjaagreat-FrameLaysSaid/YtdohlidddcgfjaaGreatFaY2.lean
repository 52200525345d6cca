/- cT of this claim: Y2. -/
import Derived.Test.YtdohlidddcgfjaaGreatFaY1
set_option linter.all false
namespace Go.Proofs.YtdohlidddcgfjaaGreat
open Go

def kA(K:List (List Int))(p:Int):List Int:=if p<0 then []else(K[p.toNat]?).getD []
def GJ(n:ap)(i:Nat):Prop:=
 (lO n.Op=0∧n.A= -1∧n.B= -1)∨(lO n.Op=1∧0≤n.A∧n.A<(i:Int)∧n.B= -1)∨(lO n.Op=2∧0≤n.A∧n.A<(i:Int)∧0≤n.B∧n.B<(i:Int))
def Bu(ns:List ap)(K:List (List Int))(i:Nat):Prop:= ∃n R,ns[i]? =some n∧K[i]? =some R∧R.length≤16∧GJ n i∧Hs n (kA K n.A) (kA K n.B) R∧(n.Op=8∨n.Op=10→i+1=ns.length)
structure ER(ns:List ap)(l:al)(i:Nat):Prop where
 nodes:l.nodes=ns
 len:l.kinds.length=i
 open_: ∀p∈l.open_,0≤p∧p<(i:Int)
 olen:l.open_.length≤i
 kinds: ∀k∈l.kinds,k.length≤16
 ok: ∀j,j<i→Bu ns l.kinds j
theorem Ej{K:List (List Int)}(h: ∀k∈K,k.length≤16)(p:Int):(kA K p).length≤16:=by
 unfold kA
 split
 ·simp
 ·cases hk:K[p.toNat]? with
  |none=>simp
  |some k=>exact h k (qM hk)
theorem zh{K:List (List Int)}:kA K (-1)=[]:=bq (by decide)
theorem wA{K L:List (List Int)}{p:Int}(h:p<(K.length:Int)):kA (K++L) p=kA K p:=by
 unfold kA
 split
 ·rfl
 ·rw [Af (by omega)]
theorem CB{ns:List ap}{K:List (List Int)}{R:List Int}{j:Nat}(hj:j<K.length)(h:Bu ns K j):Bu ns (K++[R]) j:=by
 obtain⟨n,R',h1,h2,h3,h4,h5,h6⟩:=h
 refine⟨n,R',h1,by rw [Af hj];exact h2,h3,h4,?_,h6⟩
 have hA:n.A<(K.length:Int):=by rcases h4 with h|h|h<;>omega
 have hB:n.B<(K.length:Int):=by rcases h4 with h|h|h<;>omega
 rw [wA hA,wA hB]
 exact h5
section
variable{ns:List ap}{l:al}{i:Nat}
theorem y3{k:Nat}(h:ER ns l i)(hi:i<100)(hn:ns.length≤100){e:ap}(he:ns[i]? =some e)(hs:jg e)(hp:lO e.Op=(k:Int))(hk:k≤l.open_.length)(har:GJ e i)(i5:Nat):
  ∃ok l',bh l (i:Int) (oN e.Op) e (lO e.Op) [] i5 (kA l.kinds e.A) (kA l.kinds e.B)=some (ok,l')∧l'.nodes=l.nodes∧(ok=true→ER ns l' (i+1)):=by
 let l1:al:={l with n:=e,a_:=kA l.kinds e.A,b:=kA l.kinds e.B}
 have hlb:Lb l1:=⟨hs,Ej h.kinds _,Ej h.kinds _⟩
 have hAsk:=MI hlb (fun hne=>by
  have h0:0≤e.A∧e.A<(i:Int):=by
   rcases har with h|h|h
   ·exact absurd h.1 hne
   ·exact⟨h.2.1,h.2.2.1⟩
   ·exact⟨h.2.1,h.2.2.1⟩
  have hilt:=(kF.1 he).1
  have:e.A.toNat<ns.length:=by omega
  refine⟨ns[e.A.toNat],?_⟩
  show gj l.nodes e.A=_
  rw [h.nodes,lC e.A.toNat (by omega),kW this]) (by show 0≤lO e.Op;omega)
 obtain⟨ok,R,h1,h2⟩:=hAsk
 unfold bh
 show∃ok l',(if(((e.Op==(8:Int))||(e.Op==(10:Int)))&&((i:Int) !=(IntKind.i64.wrap ((l.nodes.length:Int)-(1:Int)))))then some (false,l1)else(oN e.Op l1 ()).bind _)=_∧_
 by_cases hroot:(((e.Op==(8:Int))||(e.Op==(10:Int)))&&((i:Int) !=(IntKind.i64.wrap ((l.nodes.length:Int)-(1:Int)))))=true
 ·rw [bq hroot]
  exact⟨false,l1,rfl,rfl,fun h=>by cases h⟩
 ·rw [aW hroot]
  have h1' :oN e.Op l1 ()=some (ok,{l1 with result:=R}):=h1
  rw [h1',bj]
  have hroot' :e.Op=8∨e.Op=10→i+1=ns.length:=fun ho=>by
   have hilt:=(kF.1 he).1
   rw [h.nodes,eC (by omega) (by omega)]at hroot
   rcases ho with ho|ho<;>(rw [ho]at hroot;simp at hroot;omega)
  show∃ok' l',(if((!ok)||(decide ((16:Int)<(R.length:Int))))then some (false,{l1 with result:=R})else(gn l.kinds [R]).bind fun l1' =>(eP l.open_ 0 (IntKind.i64.wrap ((l.open_.length:Int)-lO e.Op))).bind fun y2=>(gn y2 [(i:Int)]).bind fun l2=>some (true,({({({l1 with result:=R}:al)with kinds:=l1' }:al)with open_:=l2}:al)))=_∧_
  by_cases hc:((!ok)||(decide ((16:Int)<(R.length:Int))))=true
  ·rw [bq hc]
   exact⟨false,_,rfl,rfl,fun h=>by cases h⟩
  ·rw [aW hc]
   have hol:=h.olen
   have hkl:=h.len
   have hok:ok=true:=by cases ok with|true=>rfl|false=>simp at hc
   have hR:R.length≤16:=by subst hok;simp at hc;omega
   have hrel:=h2 hok
   rw [bH (by simp;omega),bj,hp,eC (by omega) (by omega),jS 0 (l.open_.length-k) (show(0:Int)=((0:Nat):Int)from rfl) (by omega) (by omega) (by omega),bj,bH (by simp;omega),bj,xd]
   refine⟨true,_,rfl,rfl,fun _=>⟨h.nodes,by simp [hkl],fun p hpm=>?_,by simp;omega,fun q hq=>?_,fun j hj=>?_⟩⟩
   ·rcases yS.1 hpm with hm|hm
    ·have:=h.open_ p (List.mem_of_mem_take hm);omega
    ·rw [Cj.1 hm];omega
   ·rcases yS.1 hq with hm|hm
    ·exact h.kinds q hm
    ·rw [Cj.1 hm];exact hR
   ·show Bu ns (l.kinds++[R]) j
    by_cases hji:j<i
    ·exact CB (by omega) (h.ok j hji)
    ·have hj' :j=i:=by omega
     subst hj'
     refine⟨e,R,he,by rw [ve (by omega),hkl];simp,hR,har,?_,hroot'⟩
     have hA:e.A<(l.kinds.length:Int):=by rcases har with h|h|h<;>omega
     have hB:e.B<(l.kinds.length:Int):=by rcases har with h|h|h<;>omega
     rw [wA hA,wA hB]
     exact hrel
theorem IU{K:List (List Int)}{p:Int}(h0:0≤p)(h:p<(K.length:Int)):gj K p=some (kA K p):=by
 rw [lC p.toNat (by omega),kW (by omega)]
 unfold kA
 rw [aW (by omega),kW (by omega)]
 rfl
theorem xg(l:al)(ik:Int)(ask:al→Unit→Option (Bool×al))(e:ap)(r:Int)(p:Int)(tl:List Int)(i5:Nat)(a b:List Int)(h0:0≤p)(h:p<(l.kinds.length:Int)):
  (∃l',bh l ik ask e r (p::tl) i5 a b=some (false,l')∧l'.nodes=l.nodes)∨bh l ik ask e r (p::tl) i5 a b=if i5=0 then bh l ik ask e r tl (i5+1) (kA l.kinds p) b else bh l ik ask e r tl (i5+1) a (kA l.kinds p):=by
 have step:bh l ik ask e r (p::tl) i5 a b=(if(e.Op !=(11:Int))then((fN (kA l.kinds p) (4:Int)).bind fun r3=>some r3)else some false).bind fun t1=>
   if t1 then some (false,({({({({({l with n:=e}:al)with a_:=[]}:al)with b:=[]}:al)with a_:=a}:al)with b:=b}:al))
   else if((i5:Int)==(0:Int))then bh l ik ask e r tl (i5+1) (kA l.kinds p) b else bh l ik ask e r tl (i5+1) a (kA l.kinds p):=by
  conv=>lhs;unfold bh
  rw [IU h0 h,bj]
 rw [step,uX]
 have: ∃t,(if(e.Op !=(11:Int))then((some (decide ((4:Int)∈kA l.kinds p))).bind fun r3=>some r3)else some false)=some t:=by split<;>exact⟨_,rfl⟩
 obtain⟨t,ht⟩:=this
 rw [ht,bj]
 cases t with
 |true=>exact .inl ⟨_,rfl,rfl⟩
 |false=>
  refine .inr ?_
  rw [aW (by simp)]
  by_cases h5:i5=0
  ·rw [bq h5,bq (by simp [h5])]
  ·rw [aW h5,aW (by simp;omega)]
theorem Fm(h:ER ns l i)(hi:i<100)(hn:ns.length≤100){e:ap}(he:ns[i]? =some e)(hs:jg e): ∃ok l',dO l (i:Int) (oN e.Op)=some (ok,l')∧l'.nodes=l.nodes∧(ok=true→ER ns l' (i+1)):=by
 have hol:=h.olen
 have bad: ∃ok l',some (false,l)=some (ok,l')∧l'.nodes=l.nodes∧(ok=true→ER ns l' (i+1)):=⟨false,l,rfl,rfl,fun h=>by cases h⟩
 have hns:=h.nodes
 subst hns
 unfold dO
 rw [dJ,he,bj,td,bj]
 obtain⟨t,ht,htf⟩: ∃t,(if(!((decide (lO e.Op<(0:Int)))||(decide ((l.open_.length:Int)<lO e.Op))))then((qd e).bind fun r1=>some (!r1))else some true)=some t∧(t=false→0≤lO e.Op∧lO e.Op≤(l.open_.length:Int)):=by
  split
  ·rename_i hc
   unfold qd
   refine⟨_,rfl,fun _=>?_⟩
   simp at hc
   omega
  ·exact⟨true,rfl,fun h=>by cases h⟩
 rw [ht,bj]
 cases t with
 |true=>rw [bq rfl];exact bad
 |false=>
  rw [aW (by simp)]
  obtain⟨h0,hlt⟩:=htf rfl
  obtain⟨k,hk⟩:=Int.eq_ofNat_of_zero_le h0
  have hk' :k≤l.open_.length:=by omega
  have hk2:k≤2:=by
   unfold lO at hk
   split at hk
   ·omega
   ·split at hk
    ·omega
    ·split at hk<;>omega
  rw [hk,eC (by omega) (by omega),jS (l.open_.length-k) l.open_.length (by omega) rfl (by omega) (by omega),bj,xN]
  have hlen:(l.open_.drop (l.open_.length-k)).length=k:=by simp;omega
  have hmem: ∀p∈l.open_.drop (l.open_.length-k),0≤p∧p<(i:Int):=fun p hp=>h.open_ p (List.mem_of_mem_drop hp)
  generalize hy:l.open_.drop (l.open_.length-k)=y at hlen hmem ⊢
  have hkl:=h.len
  by_cases hc:(rj ([(-1:Int),(-1:Int)]) y)=([e.A,e.B])
  ·rw [aW (by simp [hc]),bj,←hk]
   match y,hlen,hmem,hc with
   |[],hlen,hmem,hc=>
    have hk0:k=0:=by simpa using hlen.symm
    subst hk0
    have e1:([(-1:Int),(-1:Int)]:List Int)=[e.A,e.B]:=hc
    injection e1 with eA e2
    injection e2 with eB _
    have har:GJ e i:= .inl ⟨hk,eA.symm,eB.symm⟩
    have:=y3 h hi hn he hs hk hk' har 0
    rw [←eA,←eB,zh]at this
    exact this
   |[p],hlen,hmem,hc=>
    have hk0:k=1:=by simpa using hlen.symm
    subst hk0
    have e1:([p,(-1:Int)]:List Int)=[e.A,e.B]:=hc
    injection e1 with eA e2
    injection e2 with eB _
    have hp:=hmem p (by simp)
    have har:GJ e i:= .inr (.inl ⟨hk,by omega,by omega,eB.symm⟩)
    have hend:=y3 h hi hn he hs hk hk' har 1
    rcases xg l (i:Int) (oN e.Op) e (lO e.Op) p [] 0 [] [] hp.1 (by omega)with⟨l',g1,g2⟩|g1
    ·exact⟨false,l',g1,g2,fun h=>by cases h⟩
    ·show∃ok l',bh l (i:Int) (oN e.Op) e (lO e.Op) [p] 0 [] []=_∧_
     rw [g1,bq rfl]
     rw [←eA,←eB,zh]at hend
     exact hend
   |[p,q],hlen,hmem,hc=>
    have hk0:k=2:=by simpa using hlen.symm
    subst hk0
    have e1:([p,q]:List Int)=[e.A,e.B]:=hc
    injection e1 with eA e2
    injection e2 with eB _
    have hp:=hmem p (by simp)
    have hq:=hmem q (by simp)
    have har:GJ e i:= .inr (.inr ⟨hk,by omega,by omega,by omega,by omega⟩)
    have hend:=y3 h hi hn he hs hk hk' har 2
    rcases xg l (i:Int) (oN e.Op) e (lO e.Op) p [q] 0 [] [] hp.1 (by omega)with⟨l',g1,g2⟩|g1
    ·exact⟨false,l',g1,g2,fun h=>by cases h⟩
    ·show∃ok l',bh l (i:Int) (oN e.Op) e (lO e.Op) [p,q] 0 [] []=_∧_
     rw [g1,bq rfl]
     rcases xg l (i:Int) (oN e.Op) e (lO e.Op) q [] 1 (kA l.kinds p) [] hq.1 (by omega)with⟨l',g1,g2⟩|g1
     ·exact⟨false,l',g1,g2,fun h=>by cases h⟩
     ·show∃ok l',bh l (i:Int) (oN e.Op) e (lO e.Op) [q] 1 (kA l.kinds p) []=_∧_
      rw [g1,aW (by omega)]
      rw [←eA,←eB]at hend
      exact hend
   |_::_::_::_,hlen,_,_=>simp at hlen;omega
  ·rw [bq (by simp [hc])]
   exact bad
end
end Go.Proofs.YtdohlidddcgfjaaGreat

