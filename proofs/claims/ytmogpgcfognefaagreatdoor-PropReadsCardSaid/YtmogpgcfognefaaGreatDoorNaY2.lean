/- cG of this claim: Y2. -/
import Derived.Test.YtmogpgcfognefaaGreatDoorNaY1
set_option linter.all false
namespace Go.Proofs.YtmogpgcfognefaaGreatDoor
open Go

def kA(K:List (List Int))(p:Int):List Int:=if p<0 then []else(K[p.toNat]?).getD []
def Cr(n:aF)(i:Nat):Prop:=
 (uA n.Op=0∧n.A= -1∧n.B= -1)∨(uA n.Op=1∧0≤n.A∧n.A<(i:Int)∧n.B= -1)∨(uA n.Op=2∧0≤n.A∧n.A<(i:Int)∧0≤n.B∧n.B<(i:Int))
def xD(ns:List aF)(K:List (List Int))(i:Nat):Prop:= ∃n R,ns[i]? =some n∧K[i]? =some R∧R.length≤16∧Cr n i∧CO n (kA K n.A) (kA K n.B) R∧(n.Op=8∨n.Op=10→i+1=ns.length)
structure GB(ns:List aF)(l:af)(i:Nat):Prop where
 nodes:l.nodes=ns
 len:l.kinds.length=i
 open_: ∀p∈l.open_,0≤p∧p<(i:Int)
 olen:l.open_.length≤i
 kinds: ∀k∈l.kinds,k.length≤16
 ok: ∀j,j<i→xD ns l.kinds j
theorem Hr{K:List (List Int)}(h: ∀k∈K,k.length≤16)(p:Int):(kA K p).length≤16:=by
 unfold kA
 split
 ·simp
 ·cases hk:K[p.toNat]? with
  |none=>simp
  |some k=>exact h k (nV hk)
theorem Dq{K:List (List Int)}:kA K (-1)=[]:=dq (by decide)
theorem rG{K L:List (List Int)}{p:Int}(h:p<(K.length:Int)):kA (K++L) p=kA K p:=by
 unfold kA
 split
 ·rfl
 ·rw [sA (by omega)]
theorem yT{ns:List aF}{K:List (List Int)}{R:List Int}{j:Nat}(hj:j<K.length)(h:xD ns K j):xD ns (K++[R]) j:=by
 obtain⟨n,R',h1,h2,h3,h4,h5,h6⟩:=h
 refine⟨n,R',h1,by rw [sA hj];exact h2,h3,h4,?_,h6⟩
 have hA:n.A<(K.length:Int):=by rcases h4 with h|h|h<;>omega
 have hB:n.B<(K.length:Int):=by rcases h4 with h|h|h<;>omega
 rw [rG hA,rG hB]
 exact h5
section
variable{ns:List aF}{l:af}{i:Nat}
theorem uG{k:Nat}(h:GB ns l i)(hi:i<100)(hn:ns.length≤100){e:aF}(he:ns[i]? =some e)(hs:yf e)(hp:uA e.Op=(k:Int))(hk:k≤l.open_.length)(har:Cr e i)(i5:Nat):
  ∃ok l',ca l (i:Int) (ui e.Op) e (uA e.Op) [] i5 (kA l.kinds e.A) (kA l.kinds e.B)=some (ok,l')∧l'.nodes=l.nodes∧(ok=true→GB ns l' (i+1)):=by
 let l1:af:={l with n:=e,a_:=kA l.kinds e.A,b:=kA l.kinds e.B}
 have hlb:Lb l1:=⟨hs,Hr h.kinds _,Hr h.kinds _⟩
 have hAsk:=H0 hlb (fun hne=>by
  have h0:0≤e.A∧e.A<(i:Int):=by
   rcases har with h|h|h
   ·exact absurd h.1 hne
   ·exact⟨h.2.1,h.2.2.1⟩
   ·exact⟨h.2.1,h.2.2.1⟩
  have hilt:=(lJ.1 he).1
  have:e.A.toNat<ns.length:=by omega
  refine⟨ns[e.A.toNat],?_⟩
  show eZ l.nodes e.A=_
  rw [h.nodes,kY e.A.toNat (by omega),nT this]) (by show 0≤uA e.Op;omega)
 obtain⟨ok,R,h1,h2⟩:=hAsk
 unfold ca
 show∃ok l',(if(((e.Op==(8:Int))||(e.Op==(10:Int)))&&((i:Int) !=(IntKind.i64.wrap ((l.nodes.length:Int)-(1:Int)))))then some (false,l1)else(ui e.Op l1 ()).bind _)=_∧_
 by_cases hroot:(((e.Op==(8:Int))||(e.Op==(10:Int)))&&((i:Int) !=(IntKind.i64.wrap ((l.nodes.length:Int)-(1:Int)))))=true
 ·rw [dq hroot]
  exact⟨false,l1,rfl,rfl,fun h=>by cases h⟩
 ·rw [di hroot]
  have h1' :ui e.Op l1 ()=some (ok,{l1 with result:=R}):=h1
  rw [h1',cn]
  have hroot' :e.Op=8∨e.Op=10→i+1=ns.length:=fun ho=>by
   have hilt:=(lJ.1 he).1
   rw [h.nodes,kF (by omega) (by omega)]at hroot
   rcases ho with ho|ho<;>(rw [ho]at hroot;simp at hroot;omega)
  show∃ok' l',(if((!ok)||(decide ((16:Int)<(R.length:Int))))then some (false,{l1 with result:=R})else(nS l.kinds [R]).bind fun l1' =>(cz l.open_ 0 (IntKind.i64.wrap ((l.open_.length:Int)-uA e.Op))).bind fun y2=>(nS y2 [(i:Int)]).bind fun l2=>some (true,({({({l1 with result:=R}:af)with kinds:=l1' }:af)with open_:=l2}:af)))=_∧_
  by_cases hc:((!ok)||(decide ((16:Int)<(R.length:Int))))=true
  ·rw [dq hc]
   exact⟨false,_,rfl,rfl,fun h=>by cases h⟩
  ·rw [di hc]
   have hol:=h.olen
   have hkl:=h.len
   have hok:ok=true:=by cases ok with|true=>rfl|false=>simp at hc
   have hR:R.length≤16:=by subst hok;simp at hc;omega
   have hrel:=h2 hok
   rw [gT (by simp;omega),cn,hp,kF (by omega) (by omega),jv 0 (l.open_.length-k) (show(0:Int)=((0:Nat):Int)from rfl) (by omega) (by omega) (by omega),cn,gT (by simp;omega),cn,qJ]
   refine⟨true,_,rfl,rfl,fun _=>⟨h.nodes,by simp [hkl],fun p hpm=>?_,by simp;omega,fun q hq=>?_,fun j hj=>?_⟩⟩
   ·rcases yy.1 hpm with hm|hm
    ·have:=h.open_ p (List.mem_of_mem_take hm);omega
    ·rw [CR.1 hm];omega
   ·rcases yy.1 hq with hm|hm
    ·exact h.kinds q hm
    ·rw [CR.1 hm];exact hR
   ·show xD ns (l.kinds++[R]) j
    by_cases hji:j<i
    ·exact yT (by omega) (h.ok j hji)
    ·have hj' :j=i:=by omega
     subst hj'
     refine⟨e,R,he,by rw [Bm (by omega),hkl];simp,hR,har,?_,hroot'⟩
     have hA:e.A<(l.kinds.length:Int):=by rcases har with h|h|h<;>omega
     have hB:e.B<(l.kinds.length:Int):=by rcases har with h|h|h<;>omega
     rw [rG hA,rG hB]
     exact hrel
theorem M5{K:List (List Int)}{p:Int}(h0:0≤p)(h:p<(K.length:Int)):eZ K p=some (kA K p):=by
 rw [kY p.toNat (by omega),nT (by omega)]
 unfold kA
 rw [di (by omega),nT (by omega)]
 rfl
theorem sG(l:af)(ik:Int)(ask:af→Unit→Option (Bool×af))(e:aF)(r:Int)(p:Int)(tl:List Int)(i5:Nat)(a b:List Int)(h0:0≤p)(h:p<(l.kinds.length:Int)):
  (∃l',ca l ik ask e r (p::tl) i5 a b=some (false,l')∧l'.nodes=l.nodes)∨ca l ik ask e r (p::tl) i5 a b=if i5=0 then ca l ik ask e r tl (i5+1) (kA l.kinds p) b else ca l ik ask e r tl (i5+1) a (kA l.kinds p):=by
 have step:ca l ik ask e r (p::tl) i5 a b=(if(e.Op !=(11:Int))then((da (kA l.kinds p) (4:Int)).bind fun r3=>some r3)else some false).bind fun t1=>
   if t1 then some (false,({({({({({l with n:=e}:af)with a_:=[]}:af)with b:=[]}:af)with a_:=a}:af)with b:=b}:af))
   else if((i5:Int)==(0:Int))then ca l ik ask e r tl (i5+1) (kA l.kinds p) b else ca l ik ask e r tl (i5+1) a (kA l.kinds p):=by
  conv=>lhs;unfold ca
  rw [M5 h0 h,cn]
 rw [step,qA]
 have: ∃t,(if(e.Op !=(11:Int))then((some (decide ((4:Int)∈kA l.kinds p))).bind fun r3=>some r3)else some false)=some t:=by split<;>exact⟨_,rfl⟩
 obtain⟨t,ht⟩:=this
 rw [ht,cn]
 cases t with
 |true=>exact .inl ⟨_,rfl,rfl⟩
 |false=>
  refine .inr ?_
  rw [di (by simp)]
  by_cases h5:i5=0
  ·rw [dq h5,dq (by simp [h5])]
  ·rw [di h5,di (by simp;omega)]
theorem G1(h:GB ns l i)(hi:i<100)(hn:ns.length≤100){e:aF}(he:ns[i]? =some e)(hs:yf e): ∃ok l',kh l (i:Int) (ui e.Op)=some (ok,l')∧l'.nodes=l.nodes∧(ok=true→GB ns l' (i+1)):=by
 have hol:=h.olen
 have bad: ∃ok l',some (false,l)=some (ok,l')∧l'.nodes=l.nodes∧(ok=true→GB ns l' (i+1)):=⟨false,l,rfl,rfl,fun h=>by cases h⟩
 have hns:=h.nodes
 subst hns
 unfold kh
 rw [c8,he,cn,yM,cn]
 obtain⟨t,ht,htf⟩: ∃t,(if(!((decide (uA e.Op<(0:Int)))||(decide ((l.open_.length:Int)<uA e.Op))))then((p6 e).bind fun r1=>some (!r1))else some true)=some t∧(t=false→0≤uA e.Op∧uA e.Op≤(l.open_.length:Int)):=by
  split
  ·rename_i hc
   unfold p6
   refine⟨_,rfl,fun _=>?_⟩
   simp at hc
   omega
  ·exact⟨true,rfl,fun h=>by cases h⟩
 rw [ht,cn]
 cases t with
 |true=>rw [dq rfl];exact bad
 |false=>
  rw [di (by simp)]
  obtain⟨h0,hlt⟩:=htf rfl
  obtain⟨k,hk⟩:=Int.eq_ofNat_of_zero_le h0
  have hk' :k≤l.open_.length:=by omega
  have hk2:k≤2:=by
   unfold uA at hk
   split at hk
   ·omega
   ·split at hk
    ·omega
    ·split at hk<;>omega
  rw [hk,kF (by omega) (by omega),jv (l.open_.length-k) l.open_.length (by omega) rfl (by omega) (by omega),cn,Ac]
  have hlen:(l.open_.drop (l.open_.length-k)).length=k:=by simp;omega
  have hmem: ∀p∈l.open_.drop (l.open_.length-k),0≤p∧p<(i:Int):=fun p hp=>h.open_ p (List.mem_of_mem_drop hp)
  generalize hy:l.open_.drop (l.open_.length-k)=y at hlen hmem ⊢
  have hkl:=h.len
  by_cases hc:(pI ([(-1:Int),(-1:Int)]) y)=([e.A,e.B])
  ·rw [di (by simp [hc]),cn,←hk]
   match y,hlen,hmem,hc with
   |[],hlen,hmem,hc=>
    have hk0:k=0:=by simpa using hlen.symm
    subst hk0
    have e1:([(-1:Int),(-1:Int)]:List Int)=[e.A,e.B]:=hc
    injection e1 with eA e2
    injection e2 with eB _
    have har:Cr e i:= .inl ⟨hk,eA.symm,eB.symm⟩
    have:=uG h hi hn he hs hk hk' har 0
    rw [←eA,←eB,Dq]at this
    exact this
   |[p],hlen,hmem,hc=>
    have hk0:k=1:=by simpa using hlen.symm
    subst hk0
    have e1:([p,(-1:Int)]:List Int)=[e.A,e.B]:=hc
    injection e1 with eA e2
    injection e2 with eB _
    have hp:=hmem p (by simp)
    have har:Cr e i:= .inr (.inl ⟨hk,by omega,by omega,eB.symm⟩)
    have hend:=uG h hi hn he hs hk hk' har 1
    rcases sG l (i:Int) (ui e.Op) e (uA e.Op) p [] 0 [] [] hp.1 (by omega)with⟨l',g1,g2⟩|g1
    ·exact⟨false,l',g1,g2,fun h=>by cases h⟩
    ·show∃ok l',ca l (i:Int) (ui e.Op) e (uA e.Op) [p] 0 [] []=_∧_
     rw [g1,dq rfl]
     rw [←eA,←eB,Dq]at hend
     exact hend
   |[p,q],hlen,hmem,hc=>
    have hk0:k=2:=by simpa using hlen.symm
    subst hk0
    have e1:([p,q]:List Int)=[e.A,e.B]:=hc
    injection e1 with eA e2
    injection e2 with eB _
    have hp:=hmem p (by simp)
    have hq:=hmem q (by simp)
    have har:Cr e i:= .inr (.inr ⟨hk,by omega,by omega,by omega,by omega⟩)
    have hend:=uG h hi hn he hs hk hk' har 2
    rcases sG l (i:Int) (ui e.Op) e (uA e.Op) p [q] 0 [] [] hp.1 (by omega)with⟨l',g1,g2⟩|g1
    ·exact⟨false,l',g1,g2,fun h=>by cases h⟩
    ·show∃ok l',ca l (i:Int) (ui e.Op) e (uA e.Op) [p,q] 0 [] []=_∧_
     rw [g1,dq rfl]
     rcases sG l (i:Int) (ui e.Op) e (uA e.Op) q [] 1 (kA l.kinds p) [] hq.1 (by omega)with⟨l',g1,g2⟩|g1
     ·exact⟨false,l',g1,g2,fun h=>by cases h⟩
     ·show∃ok l',ca l (i:Int) (ui e.Op) e (uA e.Op) [q] 1 (kA l.kinds p) []=_∧_
      rw [g1,di (by omega)]
      rw [←eA,←eB]at hend
      exact hend
   |_::_::_::_,hlen,_,_=>simp at hlen;omega
  ·rw [dq (by simp [hc])]
   exact bad
end
end Go.Proofs.YtmogpgcfognefaaGreatDoor

