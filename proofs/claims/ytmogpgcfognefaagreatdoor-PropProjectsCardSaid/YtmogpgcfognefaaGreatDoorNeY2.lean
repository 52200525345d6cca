/- co of this claim: Y2. -/
import Derived.Test.YtmogpgcfognefaaGreatDoorNeY1
set_option linter.all false
namespace Go.Proofs.YtmogpgcfognefaaGreatDoor
open Go

def kA(K:List (List Int))(p:Int):List Int:=if p<0 then []else(K[p.toNat]?).getD []
def G8(n:aK)(i:Nat):Prop:=
 (wy n.Op=0∧n.A= -1∧n.B= -1)∨(wy n.Op=1∧0≤n.A∧n.A<(i:Int)∧n.B= -1)∨(wy n.Op=2∧0≤n.A∧n.A<(i:Int)∧0≤n.B∧n.B<(i:Int))
def BM(ns:List aK)(K:List (List Int))(i:Nat):Prop:= ∃n R,ns[i]? =some n∧K[i]? =some R∧R.length≤16∧G8 n i∧HU n (kA K n.A) (kA K n.B) R∧(n.Op=8∨n.Op=10→i+1=ns.length)
structure Cy(ns:List aK)(l:al)(i:Nat):Prop where
 nodes:l.nodes=ns
 len:l.kinds.length=i
 open_: ∀p∈l.open_,0≤p∧p<(i:Int)
 olen:l.open_.length≤i
 kinds: ∀k∈l.kinds,k.length≤16
 ok: ∀j,j<i→BM ns l.kinds j
theorem MP{K:List (List Int)}(h: ∀k∈K,k.length≤16)(p:Int):(kA K p).length≤16:=by
 unfold kA
 split
 ·simp
 ·cases hk:K[p.toNat]? with
  |none=>simp
  |some k=>exact h k (sv hk)
theorem BV{K:List (List Int)}:kA K (-1)=[]:=dy (by decide)
theorem vN{K L:List (List Int)}{p:Int}(h:p<(K.length:Int)):kA (K++L) p=kA K p:=by
 unfold kA
 split
 ·rfl
 ·rw [yO (by omega)]
theorem C3{ns:List aK}{K:List (List Int)}{R:List Int}{j:Nat}(hj:j<K.length)(h:BM ns K j):BM ns (K++[R]) j:=by
 obtain⟨n,R',h1,h2,h3,h4,h5,h6⟩:=h
 refine⟨n,R',h1,by rw [yO hj];exact h2,h3,h4,?_,h6⟩
 have hA:n.A<(K.length:Int):=by rcases h4 with h|h|h<;>omega
 have hB:n.B<(K.length:Int):=by rcases h4 with h|h|h<;>omega
 rw [vN hA,vN hB]
 exact h5
section
variable{ns:List aK}{l:al}{i:Nat}
theorem yU{k:Nat}(h:Cy ns l i)(hi:i<100)(hn:ns.length≤100){e:aK}(he:ns[i]? =some e)(hs:pO e)(hp:wy e.Op=(k:Int))(hk:k≤l.open_.length)(har:G8 e i)(i5:Nat):
  ∃ok l',bh l (i:Int) (rk e.Op) e (wy e.Op) [] i5 (kA l.kinds e.A) (kA l.kinds e.B)=some (ok,l')∧l'.nodes=l.nodes∧(ok=true→Cy ns l' (i+1)):=by
 let l1:al:={l with n:=e,a_:=kA l.kinds e.A,b:=kA l.kinds e.B}
 have hlb:Lb l1:=⟨hs,MP h.kinds _,MP h.kinds _⟩
 have hAsk:=NC hlb (fun hne=>by
  have h0:0≤e.A∧e.A<(i:Int):=by
   rcases har with h|h|h
   ·exact absurd h.1 hne
   ·exact⟨h.2.1,h.2.2.1⟩
   ·exact⟨h.2.1,h.2.2.1⟩
  have hilt:=(ox.1 he).1
  have:e.A.toNat<ns.length:=by omega
  refine⟨ns[e.A.toNat],?_⟩
  show dR l.nodes e.A=_
  rw [h.nodes,nh e.A.toNat (by omega),pR this]) (by show 0≤wy e.Op;omega)
 obtain⟨ok,R,h1,h2⟩:=hAsk
 unfold bh
 show∃ok l',(if(((e.Op==(8:Int))||(e.Op==(10:Int)))&&((i:Int) !=(IntKind.i64.wrap ((l.nodes.length:Int)-(1:Int)))))then some (false,l1)else(rk e.Op l1 ()).bind _)=_∧_
 by_cases hroot:(((e.Op==(8:Int))||(e.Op==(10:Int)))&&((i:Int) !=(IntKind.i64.wrap ((l.nodes.length:Int)-(1:Int)))))=true
 ·rw [dy hroot]
  exact⟨false,l1,rfl,rfl,fun h=>by cases h⟩
 ·rw [dd hroot]
  have h1' :rk e.Op l1 ()=some (ok,{l1 with result:=R}):=h1
  rw [h1',cq]
  have hroot' :e.Op=8∨e.Op=10→i+1=ns.length:=fun ho=>by
   have hilt:=(ox.1 he).1
   rw [h.nodes,lW (by omega) (by omega)]at hroot
   rcases ho with ho|ho<;>(rw [ho]at hroot;simp at hroot;omega)
  show∃ok' l',(if((!ok)||(decide ((16:Int)<(R.length:Int))))then some (false,{l1 with result:=R})else(kE l.kinds [R]).bind fun l1' =>(dq l.open_ 0 (IntKind.i64.wrap ((l.open_.length:Int)-wy e.Op))).bind fun y2=>(kE y2 [(i:Int)]).bind fun l2=>some (true,({({({l1 with result:=R}:al)with kinds:=l1' }:al)with open_:=l2}:al)))=_∧_
  by_cases hc:((!ok)||(decide ((16:Int)<(R.length:Int))))=true
  ·rw [dy hc]
   exact⟨false,_,rfl,rfl,fun h=>by cases h⟩
  ·rw [dd hc]
   have hol:=h.olen
   have hkl:=h.len
   have hok:ok=true:=by cases ok with|true=>rfl|false=>simp at hc
   have hR:R.length≤16:=by subst hok;simp at hc;omega
   have hrel:=h2 hok
   rw [dM (by simp;omega),cq,hp,lW (by omega) (by omega),iw 0 (l.open_.length-k) (show(0:Int)=((0:Nat):Int)from rfl) (by omega) (by omega) (by omega),cq,dM (by simp;omega),cq,uc]
   refine⟨true,_,rfl,rfl,fun _=>⟨h.nodes,by simp [hkl],fun p hpm=>?_,by simp;omega,fun q hq=>?_,fun j hj=>?_⟩⟩
   ·rcases wK.1 hpm with hm|hm
    ·have:=h.open_ p (List.mem_of_mem_take hm);omega
    ·rw [uk.1 hm];omega
   ·rcases wK.1 hq with hm|hm
    ·exact h.kinds q hm
    ·rw [uk.1 hm];exact hR
   ·show BM ns (l.kinds++[R]) j
    by_cases hji:j<i
    ·exact C3 (by omega) (h.ok j hji)
    ·have hj' :j=i:=by omega
     subst hj'
     refine⟨e,R,he,by rw [Kj (by omega),hkl];simp,hR,har,?_,hroot'⟩
     have hA:e.A<(l.kinds.length:Int):=by rcases har with h|h|h<;>omega
     have hB:e.B<(l.kinds.length:Int):=by rcases har with h|h|h<;>omega
     rw [vN hA,vN hB]
     exact hrel
theorem Rw{K:List (List Int)}{p:Int}(h0:0≤p)(h:p<(K.length:Int)):dR K p=some (kA K p):=by
 rw [nh p.toNat (by omega),pR (by omega)]
 unfold kA
 rw [dd (by omega),pR (by omega)]
 rfl
theorem wP(l:al)(ik:Int)(ask:al→Unit→Option (Bool×al))(e:aK)(r:Int)(p:Int)(tl:List Int)(i5:Nat)(a b:List Int)(h0:0≤p)(h:p<(l.kinds.length:Int)):
  (∃l',bh l ik ask e r (p::tl) i5 a b=some (false,l')∧l'.nodes=l.nodes)∨bh l ik ask e r (p::tl) i5 a b=if i5=0 then bh l ik ask e r tl (i5+1) (kA l.kinds p) b else bh l ik ask e r tl (i5+1) a (kA l.kinds p):=by
 have step:bh l ik ask e r (p::tl) i5 a b=(if(e.Op !=(11:Int))then((df (kA l.kinds p) (4:Int)).bind fun r3=>some r3)else some false).bind fun t1=>
   if t1 then some (false,({({({({({l with n:=e}:al)with a_:=[]}:al)with b:=[]}:al)with a_:=a}:al)with b:=b}:al))
   else if((i5:Int)==(0:Int))then bh l ik ask e r tl (i5+1) (kA l.kinds p) b else bh l ik ask e r tl (i5+1) a (kA l.kinds p):=by
  conv=>lhs;unfold bh
  rw [Rw h0 h,cq]
 rw [step,pP]
 have: ∃t,(if(e.Op !=(11:Int))then((some (decide ((4:Int)∈kA l.kinds p))).bind fun r3=>some r3)else some false)=some t:=by split<;>exact⟨_,rfl⟩
 obtain⟨t,ht⟩:=this
 rw [ht,cq]
 cases t with
 |true=>exact .inl ⟨_,rfl,rfl⟩
 |false=>
  refine .inr ?_
  rw [dd (by simp)]
  by_cases h5:i5=0
  ·rw [dy h5,dy (by simp [h5])]
  ·rw [dd h5,dd (by simp;omega)]
theorem Mj(h:Cy ns l i)(hi:i<100)(hn:ns.length≤100){e:aK}(he:ns[i]? =some e)(hs:pO e): ∃ok l',gH l (i:Int) (rk e.Op)=some (ok,l')∧l'.nodes=l.nodes∧(ok=true→Cy ns l' (i+1)):=by
 have hol:=h.olen
 have bad: ∃ok l',some (false,l)=some (ok,l')∧l'.nodes=l.nodes∧(ok=true→Cy ns l' (i+1)):=⟨false,l,rfl,rfl,fun h=>by cases h⟩
 have hns:=h.nodes
 subst hns
 unfold gH
 rw [ii,he,cq,wA,cq]
 obtain⟨t,ht,htf⟩: ∃t,(if(!((decide (wy e.Op<(0:Int)))||(decide ((l.open_.length:Int)<wy e.Op))))then((oG e).bind fun r1=>some (!r1))else some true)=some t∧(t=false→0≤wy e.Op∧wy e.Op≤(l.open_.length:Int)):=by
  split
  ·rename_i hc
   unfold oG
   refine⟨_,rfl,fun _=>?_⟩
   simp at hc
   omega
  ·exact⟨true,rfl,fun h=>by cases h⟩
 rw [ht,cq]
 cases t with
 |true=>rw [dy rfl];exact bad
 |false=>
  rw [dd (by simp)]
  obtain⟨h0,hlt⟩:=htf rfl
  obtain⟨k,hk⟩:=Int.eq_ofNat_of_zero_le h0
  have hk' :k≤l.open_.length:=by omega
  have hk2:k≤2:=by
   unfold wy at hk
   split at hk
   ·omega
   ·split at hk
    ·omega
    ·split at hk<;>omega
  rw [hk,lW (by omega) (by omega),iw (l.open_.length-k) l.open_.length (by omega) rfl (by omega) (by omega),cq,Bc]
  have hlen:(l.open_.drop (l.open_.length-k)).length=k:=by simp;omega
  have hmem: ∀p∈l.open_.drop (l.open_.length-k),0≤p∧p<(i:Int):=fun p hp=>h.open_ p (List.mem_of_mem_drop hp)
  generalize hy:l.open_.drop (l.open_.length-k)=y at hlen hmem ⊢
  have hkl:=h.len
  by_cases hc:(rN ([(-1:Int),(-1:Int)]) y)=([e.A,e.B])
  ·rw [dd (by simp [hc]),cq,←hk]
   match y,hlen,hmem,hc with
   |[],hlen,hmem,hc=>
    have hk0:k=0:=by simpa using hlen.symm
    subst hk0
    have e1:([(-1:Int),(-1:Int)]:List Int)=[e.A,e.B]:=hc
    injection e1 with eA e2
    injection e2 with eB _
    have har:G8 e i:= .inl ⟨hk,eA.symm,eB.symm⟩
    have:=yU h hi hn he hs hk hk' har 0
    rw [←eA,←eB,BV]at this
    exact this
   |[p],hlen,hmem,hc=>
    have hk0:k=1:=by simpa using hlen.symm
    subst hk0
    have e1:([p,(-1:Int)]:List Int)=[e.A,e.B]:=hc
    injection e1 with eA e2
    injection e2 with eB _
    have hp:=hmem p (by simp)
    have har:G8 e i:= .inr (.inl ⟨hk,by omega,by omega,eB.symm⟩)
    have hend:=yU h hi hn he hs hk hk' har 1
    rcases wP l (i:Int) (rk e.Op) e (wy e.Op) p [] 0 [] [] hp.1 (by omega)with⟨l',g1,g2⟩|g1
    ·exact⟨false,l',g1,g2,fun h=>by cases h⟩
    ·show∃ok l',bh l (i:Int) (rk e.Op) e (wy e.Op) [p] 0 [] []=_∧_
     rw [g1,dy rfl]
     rw [←eA,←eB,BV]at hend
     exact hend
   |[p,q],hlen,hmem,hc=>
    have hk0:k=2:=by simpa using hlen.symm
    subst hk0
    have e1:([p,q]:List Int)=[e.A,e.B]:=hc
    injection e1 with eA e2
    injection e2 with eB _
    have hp:=hmem p (by simp)
    have hq:=hmem q (by simp)
    have har:G8 e i:= .inr (.inr ⟨hk,by omega,by omega,by omega,by omega⟩)
    have hend:=yU h hi hn he hs hk hk' har 2
    rcases wP l (i:Int) (rk e.Op) e (wy e.Op) p [q] 0 [] [] hp.1 (by omega)with⟨l',g1,g2⟩|g1
    ·exact⟨false,l',g1,g2,fun h=>by cases h⟩
    ·show∃ok l',bh l (i:Int) (rk e.Op) e (wy e.Op) [p,q] 0 [] []=_∧_
     rw [g1,dy rfl]
     rcases wP l (i:Int) (rk e.Op) e (wy e.Op) q [] 1 (kA l.kinds p) [] hq.1 (by omega)with⟨l',g1,g2⟩|g1
     ·exact⟨false,l',g1,g2,fun h=>by cases h⟩
     ·show∃ok l',bh l (i:Int) (rk e.Op) e (wy e.Op) [q] 1 (kA l.kinds p) []=_∧_
      rw [g1,dd (by omega)]
      rw [←eA,←eB]at hend
      exact hend
   |_::_::_::_,hlen,_,_=>simp at hlen;omega
  ·rw [dy (by simp [hc])]
   exact bad
end
end Go.Proofs.YtmogpgcfognefaaGreatDoor

