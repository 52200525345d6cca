/- bO of this claim: Y2. -/
import Derived.Test.YtdohlidddcgfjaaGreatFeY1
set_option linter.all false
namespace Go.Proofs.YtdohlidddcgfjaaGreat
open Go

def kA(tV:List (List Int))(p:Int):List Int:=if p<0 then []else(tV[p.toNat]?).getD []
def Jb(n:aa)(i:Nat):Prop:=
 (lB n.Op=0/\n.A= -1/\n.B= -1)\/(lB n.Op=1/\0<=n.A/\n.A<(i:Int)/\n.B= -1)\/(lB n.Op=2/\0<=n.A/\n.A<(i:Int)/\0<=n.B/\n.B<(i:Int))
def CW(ns:List aa)(tV:List (List Int))(i:Nat):Prop:= ∃n R,ns[i]? =some n/\tV[i]? =some R/\R.length<=16/\Jb n i/\J9 n (kA tV n.A) (kA tV n.B) R/\(n.Op=8\/n.Op=10->i+1=ns.length)
structure Ha(ns:List aa)(l:al)(i:Nat):Prop where
 nodes:l.nodes=ns
 len:l.kinds.length=i
 open_: ∀p∈l.open_,0<=p/\p<(i:Int)
 olen:l.open_.length<=i
 kinds: ∀k∈l.kinds,k.length<=16
 ok: ∀j,j<i->CW ns l.kinds j
def Gv{tV:List (List Int)}(h: ∀k∈tV,k.length<=16)(p:Int):(kA tV p).length<=16:=by
 unfold kA
 split
 ·simp
 ·cases hk:tV[p.toNat]? with
  |none=>simp
  |some k=>exact h k (sI hk)
def Aw{tV:List (List Int)}:kA tV (-1)=[]:=bo (by decide)
def xb{tV L:List (List Int)}{p:Int}(h:p<(tV.length:Int)):kA (tV++L) p=kA tV p:=by
 unfold kA
 split
 ·rfl
 ·rw [yS (by omega)]
def Eh{ns:List aa}{tV:List (List Int)}{R:List Int}{j:Nat}(hj:j<tV.length)(h:CW ns tV j):CW ns (tV++[R]) j:=by
 obtain⟨n,R',Y,H,s,h4,h5,h6⟩:=h
 refine⟨n,R',Y,by rw [yS hj];exact H,s,h4,?_,h6⟩
 have hA:n.A<(tV.length:Int):=by rcases h4 with h|h|h<;>omega
 have hB:n.B<(tV.length:Int):=by rcases h4 with h|h|h<;>omega
 rw [xb hA,xb hB]
 exact h5
section
variable{ns:List aa}{l:al}{i:Nat}
def Ag{k:Nat}(h:Ha ns l i)(hi:i<100)(hn:ns.length<=100){e:aa}(he:ns[i]? =some e)(hs:ju e)(hp:lB e.Op=(k:Int))(hk:k<=l.open_.length)(har:Jb e i)(i5:Nat):
  ∃ok l',bc l (i:Int) (oL e.Op) e (lB e.Op) [] i5 (kA l.kinds e.A) (kA l.kinds e.B)=some (ok,l')/\l'.nodes=l.nodes/\(ok=true->Ha ns l' (i+1)):=by
 let l1:al:={l with n:=e,a_:=kA l.kinds e.A,b:=kA l.kinds e.B}
 have hlb:Lb l1:=⟨hs,Gv h.kinds _,Gv h.kinds _⟩
 have hAsk:=QL hlb (fun hne=>by
  have h0:0<=e.A/\e.A<(i:Int):=by
   rcases har with h|h|h
   ·exact absurd h.1 hne
   ·exact⟨h.2.1,h.2.2.1⟩
   ·exact⟨h.2.1,h.2.2.1⟩
  have hilt:=(q8.1 he).1
  have:e.A.toNat<ns.length:=by omega
  refine⟨ns[e.A.toNat],?_⟩
  show gG l.nodes e.A=_
  rw [h.nodes,lU e.A.toNat (by omega),sG this]) (by show 0<=lB e.Op;omega)
 obtain⟨ok,R,Y,H⟩:=hAsk
 unfold bc
 show∃ok l',(if(((e.Op==(8:Int))||(e.Op==(10:Int)))&&((i:Int) !=(IntKind.i64.wrap ((l.nodes.length:Int)-(1:Int)))))then some (false,l1)else(oL e.Op l1 ()).bind _)=_/\_
 by_cases hroot:(((e.Op==(8:Int))||(e.Op==(10:Int)))&&((i:Int) !=(IntKind.i64.wrap ((l.nodes.length:Int)-(1:Int)))))=true
 ·rw [bo hroot]
  exact⟨false,l1,rfl,rfl,fun h=>by cases h⟩
 ·rw [aV hroot]
  have h1' :oL e.Op l1 ()=some (ok,{l1 with result:=R}):=Y
  rw [h1',bg]
  have hroot' :e.Op=8\/e.Op=10->i+1=ns.length:=fun ho=>by
   have hilt:=(q8.1 he).1
   rw [h.nodes,ew (by omega) (by omega)]at hroot
   rcases ho with ho|ho<;>(rw [ho]at hroot;simp at hroot;omega)
  show∃ok' l',(if((!ok)||(decide ((16:Int)<(R.length:Int))))then some (false,{l1 with result:=R})else(jh l.kinds [R]).bind fun l1' =>(dK l.open_ 0 (IntKind.i64.wrap ((l.open_.length:Int)-lB e.Op))).bind fun y2=>(jh y2 [(i:Int)]).bind fun l2=>some (true,({({({l1 with result:=R}:al)with kinds:=l1' }:al)with open_:=l2}:al)))=_/\_
  by_cases hc:((!ok)||(decide ((16:Int)<(R.length:Int))))=true
  ·rw [bo hc]
   exact⟨false,_,rfl,rfl,fun h=>by cases h⟩
  ·rw [aV hc]
   have hol:=h.olen
   have hkl:=h.len
   have hok:ok=true:=by cases ok with|true=>rfl|false=>simp at hc
   have hR:R.length<=16:=by subst hok;simp at hc;omega
   have hrel:=H hok
   rw [cE (by simp;omega),bg,hp,ew (by omega) (by omega),jy 0 (l.open_.length-k) (show(0:Int)=((0:Nat):Int)from rfl) (by omega) (by omega) (by omega),bg,cE (by simp;omega),bg,z2]
   refine⟨true,_,rfl,rfl,fun _=>⟨h.nodes,by simp [hkl],fun p hpm=>?_,by simp;omega,fun q hq=>?_,fun j hj=>?_⟩⟩
   ·rcases xV.1 hpm with hm|hm
    ·have:=h.open_ p (List.mem_of_mem_take hm);omega
    ·rw [DY.1 hm];omega
   ·rcases xV.1 hq with hm|hm
    ·exact h.kinds q hm
    ·rw [DY.1 hm];exact hR
   ·show CW ns (l.kinds++[R]) j
    by_cases hji:j<i
    ·exact Eh (by omega) (h.ok j hji)
    ·have hj' :j=i:=by omega
     subst hj'
     refine⟨e,R,he,by rw [vz (by omega),hkl];simp,hR,har,?_,hroot'⟩
     have hA:e.A<(l.kinds.length:Int):=by rcases har with h|h|h<;>omega
     have hB:e.B<(l.kinds.length:Int):=by rcases har with h|h|h<;>omega
     rw [xb hA,xb hB]
     exact hrel
def Md{tV:List (List Int)}{p:Int}(h0:0<=p)(h:p<(tV.length:Int)):gG tV p=some (kA tV p):=by
 rw [lU p.toNat (by omega),sG (by omega)]
 unfold kA
 rw [aV (by omega),sG (by omega)]
 rfl
def ya(l:al)(ik:Int)(ask:al->Unit->Option (Bool×al))(e:aa)(r:Int)(p:Int)(tl:List Int)(i5:Nat)(a b:List Int)(h0:0<=p)(h:p<(l.kinds.length:Int)):
  (∃l',bc l ik ask e r (p::tl) i5 a b=some (false,l')/\l'.nodes=l.nodes)\/bc l ik ask e r (p::tl) i5 a b=if i5=0 then bc l ik ask e r tl (i5+1) (kA l.kinds p) b else bc l ik ask e r tl (i5+1) a (kA l.kinds p):=by
 have step:bc l ik ask e r (p::tl) i5 a b=(if(e.Op !=(11:Int))then((fL (kA l.kinds p) (4:Int)).bind fun r3=>some r3)else some false).bind fun t1=>
   if t1 then some (false,({({({({({l with n:=e}:al)with a_:=[]}:al)with b:=[]}:al)with a_:=a}:al)with b:=b}:al))
   else if((i5:Int)==(0:Int))then bc l ik ask e r tl (i5+1) (kA l.kinds p) b else bc l ik ask e r tl (i5+1) a (kA l.kinds p):=by
  conv=>lhs;unfold bc
  rw [Md h0 h,bg]
 rw [step,vv]
 have: ∃t,(if(e.Op !=(11:Int))then((some (decide ((4:Int)∈kA l.kinds p))).bind fun r3=>some r3)else some false)=some t:=by split<;>exact⟨_,rfl⟩
 obtain⟨t,D⟩:=this
 rw [D,bg]
 cases t with
 |true=>exact .inl ⟨_,rfl,rfl⟩
 |false=>
  refine .inr ?_
  rw [aV (by simp)]
  by_cases h5:i5=0
  ·rw [bo h5,bo (by simp [h5])]
  ·rw [aV h5,aV (by simp;omega)]
def HG(h:Ha ns l i)(hi:i<100)(hn:ns.length<=100){e:aa}(he:ns[i]? =some e)(hs:ju e): ∃ok l',dA l (i:Int) (oL e.Op)=some (ok,l')/\l'.nodes=l.nodes/\(ok=true->Ha ns l' (i+1)):=by
 have hol:=h.olen
 have bad: ∃ok l',some (false,l)=some (ok,l')/\l'.nodes=l.nodes/\(ok=true->Ha ns l' (i+1)):=⟨false,l,rfl,rfl,fun h=>by cases h⟩
 have hns:=h.nodes
 subst hns
 unfold dA
 rw [eK,he,bg,tJ,bg]
 obtain⟨t,D,htf⟩: ∃t,(if(!((decide (lB e.Op<(0:Int)))||(decide ((l.open_.length:Int)<lB e.Op))))then((ql e).bind fun r1=>some (!r1))else some true)=some t/\(t=false->0<=lB e.Op/\lB e.Op<=(l.open_.length:Int)):=by
  split
  ·rename_i hc
   unfold ql
   refine⟨_,rfl,fun _=>?_⟩
   simp at hc
   omega
  ·exact⟨true,rfl,fun h=>by cases h⟩
 rw [D,bg]
 cases t with
 |true=>rw [bo rfl];exact bad
 |false=>
  rw [aV (by simp)]
  obtain⟨h0,hlt⟩:=htf rfl
  obtain⟨k,hk⟩:=Int.eq_ofNat_of_zero_le h0
  have hk' :k<=l.open_.length:=by omega
  have hk2:k<=2:=by
   unfold lB at hk
   split at hk
   ·omega
   ·split at hk
    ·omega
    ·split at hk<;>omega
  rw [hk,ew (by omega) (by omega),jy (l.open_.length-k) l.open_.length (by omega) rfl (by omega) (by omega),bg,B1]
  have hlen:(l.open_.drop (l.open_.length-k)).length=k:=by simp;omega
  have hmem: ∀p∈l.open_.drop (l.open_.length-k),0<=p/\p<(i:Int):=fun p hp=>h.open_ p (List.mem_of_mem_drop hp)
  generalize hy:l.open_.drop (l.open_.length-k)=y at hlen hmem ⊢
  have hkl:=h.len
  by_cases hc:(ol ([(-1:Int),(-1:Int)]) y)=([e.A,e.B])
  ·rw [aV (by simp [hc]),bg,<-hk]
   match y,hlen,hmem,hc with
   |[],hlen,hmem,hc=>
    have hk0:k=0:=by simpa using hlen.symm
    subst hk0
    have e1:([(-1:Int),(-1:Int)]:List Int)=[e.A,e.B]:=hc
    injection e1 with eA e2
    injection e2 with eB _
    have har:Jb e i:= .inl ⟨hk,eA.symm,eB.symm⟩
    have:=Ag h hi hn he hs hk hk' har 0
    rw [<-eA,<-eB,Aw]at this
    exact this
   |[p],hlen,hmem,hc=>
    have hk0:k=1:=by simpa using hlen.symm
    subst hk0
    have e1:([p,(-1:Int)]:List Int)=[e.A,e.B]:=hc
    injection e1 with eA e2
    injection e2 with eB _
    have hp:=hmem p (by simp)
    have har:Jb e i:= .inr (.inl ⟨hk,by omega,by omega,eB.symm⟩)
    have hend:=Ag h hi hn he hs hk hk' har 1
    rcases ya l (i:Int) (oL e.Op) e (lB e.Op) p [] 0 [] [] hp.1 (by omega)with⟨l',g1,g2⟩|g1
    ·exact⟨false,l',g1,g2,fun h=>by cases h⟩
    ·show∃ok l',bc l (i:Int) (oL e.Op) e (lB e.Op) [p] 0 [] []=_/\_
     rw [g1,bo rfl]
     rw [<-eA,<-eB,Aw]at hend
     exact hend
   |[p,q],hlen,hmem,hc=>
    have hk0:k=2:=by simpa using hlen.symm
    subst hk0
    have e1:([p,q]:List Int)=[e.A,e.B]:=hc
    injection e1 with eA e2
    injection e2 with eB _
    have hp:=hmem p (by simp)
    have hq:=hmem q (by simp)
    have har:Jb e i:= .inr (.inr ⟨hk,by omega,by omega,by omega,by omega⟩)
    have hend:=Ag h hi hn he hs hk hk' har 2
    rcases ya l (i:Int) (oL e.Op) e (lB e.Op) p [q] 0 [] [] hp.1 (by omega)with⟨l',g1,g2⟩|g1
    ·exact⟨false,l',g1,g2,fun h=>by cases h⟩
    ·show∃ok l',bc l (i:Int) (oL e.Op) e (lB e.Op) [p,q] 0 [] []=_/\_
     rw [g1,bo rfl]
     rcases ya l (i:Int) (oL e.Op) e (lB e.Op) q [] 1 (kA l.kinds p) [] hq.1 (by omega)with⟨l',g1,g2⟩|g1
     ·exact⟨false,l',g1,g2,fun h=>by cases h⟩
     ·show∃ok l',bc l (i:Int) (oL e.Op) e (lB e.Op) [q] 1 (kA l.kinds p) []=_/\_
      rw [g1,aV (by omega)]
      rw [<-eA,<-eB]at hend
      exact hend
   |_::_::_::_,hlen,_,_=>simp at hlen;omega
  ·rw [bo (by simp [hc])]
   exact bad
end
end Go.Proofs.YtdohlidddcgfjaaGreat

