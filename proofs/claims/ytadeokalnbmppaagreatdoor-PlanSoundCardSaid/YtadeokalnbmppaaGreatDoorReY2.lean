import Derived.Test.YtadeokalnbmppaaGreatDoorReY1
set_option linter.all false
namespace Go.Proofs.YtadeokalnbmppaaGreatDoor
open Go IntKind
def kA(hb:List (List Int))(p:Int):List Int:=if p<0 then []else(hb[p.toNat]?).getD []
def N5(n:ac)(i:Nat):Prop:=
 (sZ n.Op=0/\n.A= -1/\n.B= -1)\/(sZ n.Op=1/\0<=n.A/\n.A<(i:Int)/\n.B= -1)\/(sZ n.Op=2/\0<=n.A/\n.A<(i:Int)/\0<=n.B/\n.B<(i:Int))
def Hy(ns:List ac)(hb:List (List Int))(i:Nat):Prop:= ∃n R,ns[i]? =some n/\hb[i]? =some R/\R.length<=16/\N5 n i/\Po n (kA hb n.A) (kA hb n.B) R/\(n.Op=8\/n.Op=10->i+1=ns.length)
structure Ib(ns:List ac)(l:ap)(i:Nat):Prop where
 A':l.A'=ns
 len:l.j'.length=i
 D': ∀p∈l.D',0<=p/\p<(i:Int)
 olen:l.D'.length<=i
 j': ∀k∈l.j',k.length<=16
 ok: ∀j,j<i->Hy ns l.j' j
def KW{hb:List (List Int)}(h: ∀k∈hb,k.length<=16)(p:Int):(kA hb p).length<=16:=by
 unfold kA;split
 ·simp
 ·cases hk:hb[p.toNat]? with
  |none=>simp
  |some k=>exact h k (ud hk)
def Ay{hb:List (List Int)}:kA hb (-1)=[]:=bq (by decide)
def yk{hb L:List (List Int)}{p:Int}(h:p<(hb.length:Int)):kA (hb++L) p=kA hb p:=by
 unfold kA;split
 ·rfl
 ·rw [lT (by omega)]
def Iz{ns:List ac}{hb:List (List Int)}{R:List Int}{j:Nat}(hj:j<hb.length)(h:Hy ns hb j):Hy ns (hb++[R]) j:=by
 obtain⟨n,R',D,V,Z,h4,h5,h6⟩:=h;refine⟨n,R',D,by rw [lT hj];exact V,Z,h4,?_,h6⟩;have hA:n.A<(hb.length:Int):=by rcases h4 with h|h|h<;>omega
 have hB:n.B<(hb.length:Int):=by rcases h4 with h|h|h<;>omega
 rw [yk hA,yk hB];exact h5
section
variable{ns:List ac}{l:ap}{i:Nat}
def Eg{k:Nat}(h:Ib ns l i)(hi:i<100)(hn:ns.length<=100){e:ac}(he:ns[i]? =some e)(hs:d9 e)(hp:sZ e.Op=(k:Int))(hk:k<=l.D'.length)(har:N5 e i)(i5:Nat):
  ∃ok l',bp l (i:Int) (vw e.Op) e (sZ e.Op) [] i5 (kA l.j' e.A) (kA l.j' e.B)=some (ok,l')/\l'.A'=l.A'/\(ok=true->Ib ns l' (i+1)):=by
 let l1:ap:={l with n:=e,a_:=kA l.j' e.A,b:=kA l.j' e.B}
 have hlb:Lb l1:=⟨hs,KW h.j' _,KW h.j' _⟩;have hAsk:=Wr hlb (fun Q_=>by
  have h0:0<=e.A/\e.A<(i:Int):=by
   rcases har with h|h|h
   ·exact absurd h.1 Q_
   ·exact⟨h.2.1,h.2.2.1⟩
   ·exact⟨h.2.1,h.2.2.1⟩
  have hilt:=(oC.1 he).1;have:e.A.toNat<ns.length:=by omega
  refine⟨ns[e.A.toNat],?_⟩;show dm l.A' e.A=_;rw [h.A',me e.A.toNat (by omega),qV this]) (by show 0<=sZ e.Op;omega)
 obtain⟨ok,R,D,V⟩:=hAsk;unfold bp;show∃ok l',(if(((e.Op==(8:Int))||(e.Op==(10:Int)))&&((i:Int) !=(i64.wrap ((l.A'.length:Int)-(1:Int)))))then some (false,l1)else(vw e.Op l1 ()).bind _)=_/\_;by_cases hroot:(((e.Op==(8:Int))||(e.Op==(10:Int)))&&((i:Int) !=(i64.wrap ((l.A'.length:Int)-(1:Int)))))=true
 ·rw [bq hroot];exact⟨false,l1,rfl,rfl,fun h=>by cases h⟩
 ·rw [aZ hroot];have h1' :vw e.Op l1 ()=some (ok,{l1 with B':=R}):=D;rw [h1',bh];have hroot' :e.Op=8\/e.Op=10->i+1=ns.length:=fun ho=>by
   have hilt:=(oC.1 he).1;rw [h.A',cJ (by omega) (by omega)]at hroot;rcases ho with ho|ho<;>(rw [ho]at hroot;simp at hroot;omega)
  show∃ok' l',(if((!ok)||(decide ((16:Int)<(R.length:Int))))then some (false,{l1 with B':=R})else(nH l.j' [R]).bind fun l1' =>(fz l.D' 0 (i64.wrap ((l.D'.length:Int)-sZ e.Op))).bind fun y2=>(nH y2 [(i:Int)]).bind fun l2=>some (true,({({({l1 with B':=R}:ap)with j':=l1' }:ap)with D':=l2}:ap)))=_/\_;by_cases hc:((!ok)||(decide ((16:Int)<(R.length:Int))))=true
  ·rw [bq hc];exact⟨false,_,rfl,rfl,fun h=>by cases h⟩
  ·rw [aZ hc];have hol:=h.olen;have hkl:=h.len;have hok:ok=true:=by cases ok with|true=>rfl|false=>simp at hc
   have hR:R.length<=16:=by subst hok;simp at hc;omega
   have hrel:=V hok;rw [cK (by simp;omega),bh,hp,cJ (by omega) (by omega),mo 0 (l.D'.length-k) (show(0:Int)=((0:Nat):Int)from rfl) (by omega) (by omega) (by omega),bh,cK (by simp;omega),bh,vj];refine⟨true,_,rfl,rfl,fun _=>⟨h.A',by simp [hkl],fun p hpm=>?_,by simp;omega,fun q hq=>?_,fun j hj=>?_⟩⟩
   ·rcases oO.1 hpm with hm|hm
    ·have:=h.D' p (List.mem_of_mem_take hm);omega
    ·rw [np.1 hm];omega
   ·rcases oO.1 hq with hm|hm
    ·exact h.j' q hm
    ·rw [np.1 hm];exact hR
   ·show Hy ns (l.j'++[R]) j;by_cases hji:j<i
    ·exact Iz (by omega) (h.ok j hji)
    ·have hj' :j=i:=by omega
     subst hj';refine⟨e,R,he,by rw [sE (by omega),hkl];simp,hR,har,?_,hroot'⟩;have hA:e.A<(l.j'.length:Int):=by rcases har with h|h|h<;>omega
     have hB:e.B<(l.j'.length:Int):=by rcases har with h|h|h<;>omega
     rw [yk hA,yk hB];exact hrel
def Zp{hb:List (List Int)}{p:Int}(h0:0<=p)(h:p<(hb.length:Int)):dm hb p=some (kA hb p):=by
 rw [me p.toNat (by omega),qV (by omega)];unfold kA;rw [aZ (by omega),qV (by omega)];rfl
def Cc(l:ap)(ik:Int)(ask:ap->Unit->Option (Bool×ap))(e:ac)(r:Int)(p:Int)(tl:List Int)(i5:Nat)(a b:List Int)(h0:0<=p)(h:p<(l.j'.length:Int)):
  (∃l',bp l ik ask e r (p::tl) i5 a b=some (false,l')/\l'.A'=l.A')\/bp l ik ask e r (p::tl) i5 a b=if i5=0 then bp l ik ask e r tl (i5+1) (kA l.j' p) b else bp l ik ask e r tl (i5+1) a (kA l.j' p):=by
 have step:bp l ik ask e r (p::tl) i5 a b=(if(e.Op !=(11:Int))then((ft (kA l.j' p) (4:Int)).bind fun r3=>some r3)else some false).bind fun t1=>
   if t1 then some (false,({({({({({l with n:=e}:ap)with a_:=[]}:ap)with b:=[]}:ap)with a_:=a}:ap)with b:=b}:ap))
   else if((i5:Int)==(0:Int))then bp l ik ask e r tl (i5+1) (kA l.j' p) b else bp l ik ask e r tl (i5+1) a (kA l.j' p):=by
  conv=>lhs;unfold bp
  rw [Zp h0 h,bh]
 rw [step,sa];have: ∃t,(if(e.Op !=(11:Int))then((some (decide ((4:Int)∈kA l.j' p))).bind fun r3=>some r3)else some false)=some t:=by split<;>exact⟨_,rfl⟩
 obtain⟨t,Y⟩:=this;rw [Y,bh]
 cases t with
 |true=>exact .inl ⟨_,rfl,rfl⟩
 |false=>
  refine .inr ?_;rw [aZ (by simp)];by_cases h5:i5=0
  ·rw [bq h5,bq (by simp [h5])]
  ·rw [aZ h5,aZ (by simp;omega)]
def UL(h:Ib ns l i)(hi:i<100)(hn:ns.length<=100){e:ac}(he:ns[i]? =some e)(hs:d9 e): ∃ok l',kU l (i:Int) (vw e.Op)=some (ok,l')/\l'.A'=l.A'/\(ok=true->Ib ns l' (i+1)):=by
 have hol:=h.olen;have bad: ∃ok l',some (false,l)=some (ok,l')/\l'.A'=l.A'/\(ok=true->Ib ns l' (i+1)):=⟨false,l,rfl,rfl,fun h=>by cases h⟩;have hns:=h.A';subst hns;unfold kU;rw [bR,he,bh,BS,bh];obtain⟨t,Y,htf⟩: ∃t,(if(!((decide (sZ e.Op<(0:Int)))||(decide ((l.D'.length:Int)<sZ e.Op))))then((uj e).bind fun r1=>some (!r1))else some true)=some t/\(t=false->0<=sZ e.Op/\sZ e.Op<=(l.D'.length:Int)):=by
  split
  ·rename_i hc;unfold uj;refine⟨_,rfl,fun _=>?_⟩;simp at hc;omega
  ·exact⟨true,rfl,fun h=>by cases h⟩
 rw [Y,bh]
 cases t with
 |true=>rw [bq rfl];exact bad
 |false=>
  rw [aZ (by simp)];obtain⟨h0,o_⟩:=htf rfl;obtain⟨k,hk⟩:=Int.eq_ofNat_of_zero_le h0;have hk' :k<=l.D'.length:=by omega
  have hk2:k<=2:=by
   unfold sZ at hk;split at hk
   ·omega
   ·split at hk
    ·omega
    ·split at hk<;>omega
  rw [hk,cJ (by omega) (by omega),mo (l.D'.length-k) l.D'.length (by omega) rfl (by omega) (by omega),bh,BH];have hlen:(l.D'.drop (l.D'.length-k)).length=k:=by simp;omega
  have hmem: ∀p∈l.D'.drop (l.D'.length-k),0<=p/\p<(i:Int):=fun p hp=>h.D' p (List.mem_of_mem_drop hp);generalize hy:l.D'.drop (l.D'.length-k)=y at hlen hmem ⊢;have hkl:=h.len;by_cases hc:(AN ([(-1:Int),(-1:Int)]) y)=([e.A,e.B])
  ·rw [aZ (by simp [hc]),bh,<-hk]
   match y,hlen,hmem,hc with
   |[],hlen,hmem,hc=>
    have hk0:k=0:=by simpa using hlen.symm
    subst hk0;have e1:([(-1:Int),(-1:Int)]:List Int)=[e.A,e.B]:=hc;injection e1 with eA e2;injection e2 with eB _;have har:N5 e i:= .inl ⟨hk,eA.symm,eB.symm⟩;have:=Eg h hi hn he hs hk hk' har 0;rw [<-eA,<-eB,Ay]at this;exact this
   |[p],hlen,hmem,hc=>
    have hk0:k=1:=by simpa using hlen.symm
    subst hk0;have e1:([p,(-1:Int)]:List Int)=[e.A,e.B]:=hc;injection e1 with eA e2;injection e2 with eB _;have hp:=hmem p (by simp);have har:N5 e i:= .inr (.inl ⟨hk,by omega,by omega,eB.symm⟩);have hend:=Eg h hi hn he hs hk hk' har 1;rcases Cc l (i:Int) (vw e.Op) e (sZ e.Op) p [] 0 [] [] hp.1 (by omega)with⟨l',g1,g2⟩|g1
    ·exact⟨false,l',g1,g2,fun h=>by cases h⟩
    ·show∃ok l',bp l (i:Int) (vw e.Op) e (sZ e.Op) [p] 0 [] []=_/\_;rw [g1,bq rfl];rw [<-eA,<-eB,Ay]at hend;exact hend
   |[p,q],hlen,hmem,hc=>
    have hk0:k=2:=by simpa using hlen.symm
    subst hk0;have e1:([p,q]:List Int)=[e.A,e.B]:=hc;injection e1 with eA e2;injection e2 with eB _;have hp:=hmem p (by simp);have hq:=hmem q (by simp);have har:N5 e i:= .inr (.inr ⟨hk,by omega,by omega,by omega,by omega⟩);have hend:=Eg h hi hn he hs hk hk' har 2;rcases Cc l (i:Int) (vw e.Op) e (sZ e.Op) p [q] 0 [] [] hp.1 (by omega)with⟨l',g1,g2⟩|g1
    ·exact⟨false,l',g1,g2,fun h=>by cases h⟩
    ·show∃ok l',bp l (i:Int) (vw e.Op) e (sZ e.Op) [p,q] 0 [] []=_/\_;rw [g1,bq rfl];rcases Cc l (i:Int) (vw e.Op) e (sZ e.Op) q [] 1 (kA l.j' p) [] hq.1 (by omega)with⟨l',g1,g2⟩|g1
     ·exact⟨false,l',g1,g2,fun h=>by cases h⟩
     ·show∃ok l',bp l (i:Int) (vw e.Op) e (sZ e.Op) [q] 1 (kA l.j' p) []=_/\_;rw [g1,aZ (by omega)];rw [<-eA,<-eB]at hend;exact hend
   |_::_::_::_,hlen,_,_=>simp at hlen;omega
  ·rw [bq (by simp [hc])];exact bad
end
