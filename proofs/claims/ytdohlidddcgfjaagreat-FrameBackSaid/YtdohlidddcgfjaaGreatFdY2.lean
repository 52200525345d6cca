/- bT of this claim: Y2. -/
import Derived.Test.YtdohlidddcgfjaaGreatFdY1
set_option linter.all false
namespace Go.Proofs.YtdohlidddcgfjaaGreat
open Go

def kA(hb:List (List Int))(p:Int):List Int:=if p<0 then []else(hb[p.toNat]?).getD []
def KW(n:aa)(i:Nat):Prop:=
 (prt n.Op=0/\n.A= -1/\n.B= -1)\/(prt n.Op=1/\0<=n.A/\n.A<(i:Int)/\n.B= -1)\/(prt n.Op=2/\0<=n.A/\n.A<(i:Int)/\0<=n.B/\n.B<(i:Int))
def ED(ns:List aa)(hb:List (List Int))(i:Nat):Prop:= ∃n R,ns[i]? =some n/\hb[i]? =some R/\R.length<=16/\KW n i/\LX n (kA hb n.A) (kA hb n.B) R/\(n.Op=8\/n.Op=10->i+1=ns.length)
structure I5(ns:List aa)(l:al)(i:Nat):Prop where
 nodes:l.nodes=ns
 len:l.kinds.length=i
 open_: ∀p∈l.open_,0<=p/\p<(i:Int)
 olen:l.open_.length<=i
 kinds: ∀k∈l.kinds,k.length<=16
 ok: ∀j,j<i->ED ns l.kinds j
def B0{hb:List (List Int)}(h: ∀k∈hb,k.length<=16)(p:Int):(kA hb p).length<=16:=by
 unfold kA
 split
 ·simp
 ·cases hk:hb[p.toNat]? with
  |none=>simp
  |some k=>exact h k (s5 hk)
def BZ{hb:List (List Int)}:kA hb (-1)=[]:=bh (by decide)
def yG{hb L:List (List Int)}{p:Int}(h:p<(hb.length:Int)):kA (hb++L) p=kA hb p:=by
 unfold kA
 split
 ·rfl
 ·rw [Al (by omega)]
def FQ{ns:List aa}{hb:List (List Int)}{R:List Int}{j:Nat}(hj:j<hb.length)(h:ED ns hb j):ED ns (hb++[R]) j:=by
 obtain⟨n,R',Y,X,d,h4,h5,h6⟩:=h
 refine⟨n,R',Y,by rw [Al hj];exact X,d,h4,?_,h6⟩
 have hA:n.A<(hb.length:Int):=by rcases h4 with h|h|h<;>omega
 have hB:n.B<(hb.length:Int):=by rcases h4 with h|h|h<;>omega
 rw [yG hA,yG hB]
 exact h5
section
variable{ns:List aa}{l:al}{i:Nat}
def BH{k:Nat}(h:I5 ns l i)(hi:i<100)(hn:ns.length<=100){e:aa}(he:ns[i]? =some e)(hs:i0 e)(hp:prt e.Op=(k:Int))(hk:k<=l.open_.length)(har:KW e i)(i5:Nat):
  ∃ok l',bd l (i:Int) (nU e.Op) e (prt e.Op) [] i5 (kA l.kinds e.A) (kA l.kinds e.B)=some (ok,l')/\l'.nodes=l.nodes/\(ok=true->I5 ns l' (i+1)):=by
 let l1:al:={l with n:=e,a_:=kA l.kinds e.A,b:=kA l.kinds e.B}
 have hlb:Lb l1:=⟨hs,B0 h.kinds _,B0 h.kinds _⟩
 have hAsk:=KV hlb (fun hne=>by
  have h0:0<=e.A/\e.A<(i:Int):=by
   rcases har with h|h|h
   ·exact absurd h.1 hne
   ·exact⟨h.2.1,h.2.2.1⟩
   ·exact⟨h.2.1,h.2.2.1⟩
  have hilt:=(sf.1 he).1
  have:e.A.toNat<ns.length:=by omega
  refine⟨ns[e.A.toNat],?_⟩
  show gR l.nodes e.A=_
  rw [h.nodes,lV e.A.toNat (by omega),tM this]) (by show 0<=prt e.Op;omega)
 obtain⟨ok,R,Y,X⟩:=hAsk
 unfold bd
 show∃ok l',(if(((e.Op==(8:Int))||(e.Op==(10:Int)))&&((i:Int) !=(IntKind.i64.wrap ((l.nodes.length:Int)-(1:Int)))))then some (false,l1)else(nU e.Op l1 ()).bind _)=_/\_
 by_cases hroot:(((e.Op==(8:Int))||(e.Op==(10:Int)))&&((i:Int) !=(IntKind.i64.wrap ((l.nodes.length:Int)-(1:Int)))))=true
 ·rw [bh hroot]
  exact⟨false,l1,rfl,rfl,fun h=>by cases h⟩
 ·rw [aR hroot]
  have h1' :nU e.Op l1 ()=some (ok,{l1 with result:=R}):=Y
  rw [h1',bg]
  have hroot' :e.Op=8\/e.Op=10->i+1=ns.length:=fun ho=>by
   have hilt:=(sf.1 he).1
   rw [h.nodes,eP (by omega) (by omega)]at hroot
   rcases ho with ho|ho<;>(rw [ho]at hroot;simp at hroot;omega)
  show∃ok' l',(if((!ok)||(decide ((16:Int)<(R.length:Int))))then some (false,{l1 with result:=R})else(app l.kinds [R]).bind fun l1' =>(dV l.open_ 0 (IntKind.i64.wrap ((l.open_.length:Int)-prt e.Op))).bind fun y2=>(app y2 [(i:Int)]).bind fun l2=>some (true,({({({l1 with result:=R}:al)with kinds:=l1' }:al)with open_:=l2}:al)))=_/\_
  by_cases hc:((!ok)||(decide ((16:Int)<(R.length:Int))))=true
  ·rw [bh hc]
   exact⟨false,_,rfl,rfl,fun h=>by cases h⟩
  ·rw [aR hc]
   have hol:=h.olen
   have hkl:=h.len
   have hok:ok=true:=by cases ok with|true=>rfl|false=>simp at hc
   have hR:R.length<=16:=by subst hok;simp at hc;omega
   have hrel:=X hok
   rw [cK (by simp;omega),bg,hp,eP (by omega) (by omega),jZ 0 (l.open_.length-k) (show(0:Int)=((0:Nat):Int)from rfl) (by omega) (by omega) (by omega),bg,cK (by simp;omega),bg,BB]
   refine⟨true,_,rfl,rfl,fun _=>⟨h.nodes,by simp [hkl],fun p hpm=>?_,by simp;omega,fun q hq=>?_,fun j hj=>?_⟩⟩
   ·rcases tQ.1 hpm with hm|hm
    ·have:=h.open_ p (List.mem_of_mem_take hm);omega
    ·rw [zq.1 hm];omega
   ·rcases tQ.1 hq with hm|hm
    ·exact h.kinds q hm
    ·rw [zq.1 hm];exact hR
   ·show ED ns (l.kinds++[R]) j
    by_cases hji:j<i
    ·exact FQ (by omega) (h.ok j hji)
    ·have hj' :j=i:=by omega
     subst hj'
     refine⟨e,R,he,by rw [wW (by omega),hkl];simp,hR,har,?_,hroot'⟩
     have hA:e.A<(l.kinds.length:Int):=by rcases har with h|h|h<;>omega
     have hB:e.B<(l.kinds.length:Int):=by rcases har with h|h|h<;>omega
     rw [yG hA,yG hB]
     exact hrel
def N8{hb:List (List Int)}{p:Int}(h0:0<=p)(h:p<(hb.length:Int)):gR hb p=some (kA hb p):=by
 rw [lV p.toNat (by omega),tM (by omega)]
 unfold kA
 rw [aR (by omega),tM (by omega)]
 rfl
def zy(l:al)(ik:Int)(ask:al->Unit->Option (Bool×al))(e:aa)(r:Int)(p:Int)(tl:List Int)(i5:Nat)(a b:List Int)(h0:0<=p)(h:p<(l.kinds.length:Int)):
  (∃l',bd l ik ask e r (p::tl) i5 a b=some (false,l')/\l'.nodes=l.nodes)\/bd l ik ask e r (p::tl) i5 a b=if i5=0 then bd l ik ask e r tl (i5+1) (kA l.kinds p) b else bd l ik ask e r tl (i5+1) a (kA l.kinds p):=by
 have step:bd l ik ask e r (p::tl) i5 a b=(if(e.Op !=(11:Int))then((gg (kA l.kinds p) (4:Int)).bind fun r3=>some r3)else some false).bind fun t1=>
   if t1 then some (false,({({({({({l with n:=e}:al)with a_:=[]}:al)with b:=[]}:al)with a_:=a}:al)with b:=b}:al))
   else if((i5:Int)==(0:Int))then bd l ik ask e r tl (i5+1) (kA l.kinds p) b else bd l ik ask e r tl (i5+1) a (kA l.kinds p):=by
  conv=>lhs;unfold bd
  rw [N8 h0 h,bg]
 rw [step,wT]
 have: ∃t,(if(e.Op !=(11:Int))then((some (decide ((4:Int)∈kA l.kinds p))).bind fun r3=>some r3)else some false)=some t:=by split<;>exact⟨_,rfl⟩
 obtain⟨t,D⟩:=this
 rw [D,bg]
 cases t with
 |true=>exact .inl ⟨_,rfl,rfl⟩
 |false=>
  refine .inr ?_
  rw [aR (by simp)]
  by_cases h5:i5=0
  ·rw [bh h5,bh (by simp [h5])]
  ·rw [aR h5,aR (by simp;omega)]
def JC(h:I5 ns l i)(hi:i<100)(hn:ns.length<=100){e:aa}(he:ns[i]? =some e)(hs:i0 e): ∃ok l',dh l (i:Int) (nU e.Op)=some (ok,l')/\l'.nodes=l.nodes/\(ok=true->I5 ns l' (i+1)):=by
 have hol:=h.olen
 have bad: ∃ok l',some (false,l)=some (ok,l')/\l'.nodes=l.nodes/\(ok=true->I5 ns l' (i+1)):=⟨false,l,rfl,rfl,fun h=>by cases h⟩
 have hns:=h.nodes
 subst hns
 unfold dh
 rw [eU,he,bg,uN,bg]
 obtain⟨t,D,htf⟩: ∃t,(if(!((decide (prt e.Op<(0:Int)))||(decide ((l.open_.length:Int)<prt e.Op))))then((rh e).bind fun r1=>some (!r1))else some true)=some t/\(t=false->0<=prt e.Op/\prt e.Op<=(l.open_.length:Int)):=by
  split
  ·rename_i hc
   unfold rh
   refine⟨_,rfl,fun _=>?_⟩
   simp at hc
   omega
  ·exact⟨true,rfl,fun h=>by cases h⟩
 rw [D,bg]
 cases t with
 |true=>rw [bh rfl];exact bad
 |false=>
  rw [aR (by simp)]
  obtain⟨h0,hlt⟩:=htf rfl
  obtain⟨k,hk⟩:=Int.eq_ofNat_of_zero_le h0
  have hk' :k<=l.open_.length:=by omega
  have hk2:k<=2:=by
   unfold prt at hk
   split at hk
   ·omega
   ·split at hk
    ·omega
    ·split at hk<;>omega
  rw [hk,eP (by omega) (by omega),jZ (l.open_.length-k) l.open_.length (by omega) rfl (by omega) (by omega),bg,DB]
  have hlen:(l.open_.drop (l.open_.length-k)).length=k:=by simp;omega
  have hmem: ∀p∈l.open_.drop (l.open_.length-k),0<=p/\p<(i:Int):=fun p hp=>h.open_ p (List.mem_of_mem_drop hp)
  generalize hy:l.open_.drop (l.open_.length-k)=y at hlen hmem ⊢
  have hkl:=h.len
  by_cases hc:(ph ([(-1:Int),(-1:Int)]) y)=([e.A,e.B])
  ·rw [aR (by simp [hc]),bg,<-hk]
   match y,hlen,hmem,hc with
   |[],hlen,hmem,hc=>
    have hk0:k=0:=by simpa using hlen.symm
    subst hk0
    have e1:([(-1:Int),(-1:Int)]:List Int)=[e.A,e.B]:=hc
    injection e1 with eA e2
    injection e2 with eB _
    have har:KW e i:= .inl ⟨hk,eA.symm,eB.symm⟩
    have:=BH h hi hn he hs hk hk' har 0
    rw [<-eA,<-eB,BZ]at this
    exact this
   |[p],hlen,hmem,hc=>
    have hk0:k=1:=by simpa using hlen.symm
    subst hk0
    have e1:([p,(-1:Int)]:List Int)=[e.A,e.B]:=hc
    injection e1 with eA e2
    injection e2 with eB _
    have hp:=hmem p (by simp)
    have har:KW e i:= .inr (.inl ⟨hk,by omega,by omega,eB.symm⟩)
    have hend:=BH h hi hn he hs hk hk' har 1
    rcases zy l (i:Int) (nU e.Op) e (prt e.Op) p [] 0 [] [] hp.1 (by omega)with⟨l',g1,g2⟩|g1
    ·exact⟨false,l',g1,g2,fun h=>by cases h⟩
    ·show∃ok l',bd l (i:Int) (nU e.Op) e (prt e.Op) [p] 0 [] []=_/\_
     rw [g1,bh rfl]
     rw [<-eA,<-eB,BZ]at hend
     exact hend
   |[p,q],hlen,hmem,hc=>
    have hk0:k=2:=by simpa using hlen.symm
    subst hk0
    have e1:([p,q]:List Int)=[e.A,e.B]:=hc
    injection e1 with eA e2
    injection e2 with eB _
    have hp:=hmem p (by simp)
    have hq:=hmem q (by simp)
    have har:KW e i:= .inr (.inr ⟨hk,by omega,by omega,by omega,by omega⟩)
    have hend:=BH h hi hn he hs hk hk' har 2
    rcases zy l (i:Int) (nU e.Op) e (prt e.Op) p [q] 0 [] [] hp.1 (by omega)with⟨l',g1,g2⟩|g1
    ·exact⟨false,l',g1,g2,fun h=>by cases h⟩
    ·show∃ok l',bd l (i:Int) (nU e.Op) e (prt e.Op) [p,q] 0 [] []=_/\_
     rw [g1,bh rfl]
     rcases zy l (i:Int) (nU e.Op) e (prt e.Op) q [] 1 (kA l.kinds p) [] hq.1 (by omega)with⟨l',g1,g2⟩|g1
     ·exact⟨false,l',g1,g2,fun h=>by cases h⟩
     ·show∃ok l',bd l (i:Int) (nU e.Op) e (prt e.Op) [q] 1 (kA l.kinds p) []=_/\_
      rw [g1,aR (by omega)]
      rw [<-eA,<-eB]at hend
      exact hend
   |_::_::_::_,hlen,_,_=>simp at hlen;omega
  ·rw [bh (by simp [hc])]
   exact bad
end
end Go.Proofs.YtdohlidddcgfjaaGreat

