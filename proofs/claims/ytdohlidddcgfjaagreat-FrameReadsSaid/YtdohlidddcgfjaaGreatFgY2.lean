import Derived.Test.YtdohlidddcgfjaaGreatFgY1
set_option linter.all false
namespace Go.Proofs.YtdohlidddcgfjaaGreat
open Go IntKind
def kA(hx:List (List Int))(p:Int):List Int:=if p<0 then []else(hx[p.toNat]?).getD []
def OM(n:al)(i:Nat):Prop:=
 (prt n.Op=0/\n.A= -1/\n.B= -1)\/(prt n.Op=1/\0<=n.A/\n.A<(i:Int)/\n.B= -1)\/(prt n.Op=2/\0<=n.A/\n.A<(i:Int)/\0<=n.B/\n.B<(i:Int))
def HO(ns:List al)(hx:List (List Int))(i:Nat):Prop:= ∃n R,ns[i]? =some n/\hx[i]? =some R/\R.length<=16/\OM n i/\PJ n (kA hx n.A) (kA hx n.B) R/\(n.Op=8\/n.Op=10->i+1=ns.length)
structure Mu(ns:List al)(l:aE)(i:Nat):Prop where
 nodes:l.nodes=ns
 len:l.g'.length=i
 m': ∀p∈l.m',0<=p/\p<(i:Int)
 olen:l.m'.length<=i
 g': ∀k∈l.g',k.length<=16
 ok: ∀j,j<i->HO ns l.g' j
def Fa{hx:List (List Int)}(h: ∀k∈hx,k.length<=16)(p:Int):(kA hx p).length<=16:=by
 unfold kA;split
 ·simp
 ·cases hk:hx[p.toNat]? with
  |none=>simp
  |some k=>exact h k (t7 hk)
def E9{hx:List (List Int)}:kA hx (-1)=[]:=bM (by decide)
def BW{hx L:List (List Int)}{p:Int}(h:p<(hx.length:Int)):kA (hx++L) p=kA hx p:=by
 unfold kA;split
 ·rfl
 ·rw [Ds (by omega)]
def Jg{ns:List al}{hx:List (List Int)}{R:List Int}{j:Nat}(hj:j<hx.length)(h:HO ns hx j):HO ns (hx++[R]) j:=by
 obtain⟨n,R',H,W,h3,h4,h5,h6⟩:=h;refine⟨n,R',H,by rw [Ds hj];exact W,h3,h4,?_,h6⟩;have hA:n.A<(hx.length:Int):=by rcases h4 with h|h|h<;>omega
 have hB:n.B<(hx.length:Int):=by rcases h4 with h|h|h<;>omega
 rw [BW hA,BW hB];exact h5
section
variable{ns:List al}{l:aE}{i:Nat}
def EP{k:Nat}(h:Mu ns l i)(hi:i<100)(hn:ns.length<=100){e:al}(he:ns[i]? =some e)(hs:kq e)(hp:prt e.Op=(k:Int))(hk:k<=l.m'.length)(har:OM e i)(i5:Nat):
  ∃ok l',bN l (i:Int) (qU e.Op) e (prt e.Op) [] i5 (kA l.g' e.A) (kA l.g' e.B)=some (ok,l')/\l'.nodes=l.nodes/\(ok=true->Mu ns l' (i+1)):=by
 let l1:aE:={l with n:=e,a_:=kA l.g' e.A,b:=kA l.g' e.B}
 have hlb:Lb l1:=⟨hs,Fa h.g' _,Fa h.g' _⟩;have hAsk:=OL hlb (fun hne=>by
  have h0:0<=e.A/\e.A<(i:Int):=by
   rcases har with h|h|h
   ·exact absurd h.1 hne
   ·exact⟨h.2.1,h.2.2.1⟩
   ·exact⟨h.2.1,h.2.2.1⟩
  have hilt:=(vK.1 he).1;have:e.A.toNat<ns.length:=by omega
  refine⟨ns[e.A.toNat],?_⟩;show gw l.nodes e.A=_;rw [h.nodes,oj e.A.toNat (by omega),vp this]) (by show 0<=prt e.Op;omega)
 obtain⟨ok,R,H,W⟩:=hAsk;unfold bN;show∃ok l',(if(((e.Op==(8:Int))||(e.Op==(10:Int)))&&((i:Int) !=(i64.wrap ((l.nodes.length:Int)-(1:Int)))))then some (false,l1)else(qU e.Op l1 ()).bind _)=_/\_;by_cases hroot:(((e.Op==(8:Int))||(e.Op==(10:Int)))&&((i:Int) !=(i64.wrap ((l.nodes.length:Int)-(1:Int)))))=true
 ·rw [bM hroot];exact⟨false,l1,rfl,rfl,fun h=>by cases h⟩
 ·rw [bB hroot];have h1' :qU e.Op l1 ()=some (ok,{l1 with j':=R}):=H;rw [h1',bz];have hroot' :e.Op=8\/e.Op=10->i+1=ns.length:=fun ho=>by
   have hilt:=(vK.1 he).1;rw [h.nodes,gg (by omega) (by omega)]at hroot;rcases ho with ho|ho<;>(rw [ho]at hroot;simp at hroot;omega)
  show∃ok' l',(if((!ok)||(decide ((16:Int)<(R.length:Int))))then some (false,{l1 with j':=R})else(hU l.g' [R]).bind fun l1' =>(dr l.m' 0 (i64.wrap ((l.m'.length:Int)-prt e.Op))).bind fun y2=>(hU y2 [(i:Int)]).bind fun l2=>some (true,({({({l1 with j':=R}:aE)with g':=l1' }:aE)with m':=l2}:aE)))=_/\_;by_cases hc:((!ok)||(decide ((16:Int)<(R.length:Int))))=true
  ·rw [bM hc];exact⟨false,_,rfl,rfl,fun h=>by cases h⟩
  ·rw [bB hc];have hol:=h.olen;have hkl:=h.len;have hok:ok=true:=by cases ok with|true=>rfl|false=>simp at hc
   have hR:R.length<=16:=by subst hok;simp at hc;omega
   have hrel:=W hok;rw [bZ (by simp;omega),bz,hp,gg (by omega) (by omega),kM 0 (l.m'.length-k) (show(0:Int)=((0:Nat):Int)from rfl) (by omega) (by omega) (by omega),bz,bZ (by simp;omega),bz,yf];refine⟨true,_,rfl,rfl,fun _=>⟨h.nodes,by simp [hkl],fun p hpm=>?_,by simp;omega,fun q hq=>?_,fun j hj=>?_⟩⟩
   ·rcases An.1 hpm with hm|hm
    ·have:=h.m' p (List.mem_of_mem_take hm);omega
    ·rw [EN.1 hm];omega
   ·rcases An.1 hq with hm|hm
    ·exact h.g' q hm
    ·rw [EN.1 hm];exact hR
   ·show HO ns (l.g'++[R]) j;by_cases hji:j<i
    ·exact Jg (by omega) (h.ok j hji)
    ·have hj' :j=i:=by omega
     subst hj';refine⟨e,R,he,by rw [Ap (by omega),hkl];simp,hR,har,?_,hroot'⟩;have hA:e.A<(l.g'.length:Int):=by rcases har with h|h|h<;>omega
     have hB:e.B<(l.g'.length:Int):=by rcases har with h|h|h<;>omega
     rw [BW hA,BW hB];exact hrel
def RY{hx:List (List Int)}{p:Int}(h0:0<=p)(h:p<(hx.length:Int)):gw hx p=some (kA hx p):=by
 rw [oj p.toNat (by omega),vp (by omega)];unfold kA;rw [bB (by omega),vp (by omega)];rfl
def CQ(l:aE)(ik:Int)(ask:aE->Unit->Option (Bool×aE))(e:al)(r:Int)(p:Int)(tl:List Int)(i5:Nat)(a b:List Int)(h0:0<=p)(h:p<(l.g'.length:Int)):
  (∃l',bN l ik ask e r (p::tl) i5 a b=some (false,l')/\l'.nodes=l.nodes)\/bN l ik ask e r (p::tl) i5 a b=if i5=0 then bN l ik ask e r tl (i5+1) (kA l.g' p) b else bN l ik ask e r tl (i5+1) a (kA l.g' p):=by
 have step:bN l ik ask e r (p::tl) i5 a b=(if(e.Op !=(11:Int))then((iI (kA l.g' p) (4:Int)).bind fun r3=>some r3)else some false).bind fun t1=>
   if t1 then some (false,({({({({({l with n:=e}:aE)with a_:=[]}:aE)with b:=[]}:aE)with a_:=a}:aE)with b:=b}:aE))
   else if((i5:Int)==(0:Int))then bN l ik ask e r tl (i5+1) (kA l.g' p) b else bN l ik ask e r tl (i5+1) a (kA l.g' p):=by
  conv=>lhs;unfold bN
  rw [RY h0 h,bz]
 rw [step,Al];have: ∃t,(if(e.Op !=(11:Int))then((some (decide ((4:Int)∈kA l.g' p))).bind fun r3=>some r3)else some false)=some t:=by split<;>exact⟨_,rfl⟩
 obtain⟨t,D⟩:=this;rw [D,bz]
 cases t with
 |true=>exact .inl ⟨_,rfl,rfl⟩
 |false=>
  refine .inr ?_;rw [bB (by simp)];by_cases h5:i5=0
  ·rw [bM h5,bM (by simp [h5])]
  ·rw [bB h5,bB (by simp;omega)]
def M3(h:Mu ns l i)(hi:i<100)(hn:ns.length<=100){e:al}(he:ns[i]? =some e)(hs:kq e): ∃ok l',eG l (i:Int) (qU e.Op)=some (ok,l')/\l'.nodes=l.nodes/\(ok=true->Mu ns l' (i+1)):=by
 have hol:=h.olen;have bad: ∃ok l',some (false,l)=some (ok,l')/\l'.nodes=l.nodes/\(ok=true->Mu ns l' (i+1)):=⟨false,l,rfl,rfl,fun h=>by cases h⟩;have hns:=h.nodes;subst hns;unfold eG;rw [eU,he,bz,yp,bz];obtain⟨t,D,htf⟩: ∃t,(if(!((decide (prt e.Op<(0:Int)))||(decide ((l.m'.length:Int)<prt e.Op))))then((uV e).bind fun r1=>some (!r1))else some true)=some t/\(t=false->0<=prt e.Op/\prt e.Op<=(l.m'.length:Int)):=by
  split
  ·rename_i hc;unfold uV;refine⟨_,rfl,fun _=>?_⟩;simp at hc;omega
  ·exact⟨true,rfl,fun h=>by cases h⟩
 rw [D,bz]
 cases t with
 |true=>rw [bM rfl];exact bad
 |false=>
  rw [bB (by simp)];obtain⟨h0,hlt⟩:=htf rfl;obtain⟨k,hk⟩:=Int.eq_ofNat_of_zero_le h0;have hk' :k<=l.m'.length:=by omega
  have hk2:k<=2:=by
   unfold prt at hk;split at hk
   ·omega
   ·split at hk
    ·omega
    ·split at hk<;>omega
  rw [hk,gg (by omega) (by omega),kM (l.m'.length-k) l.m'.length (by omega) rfl (by omega) (by omega),bz,EK];have hlen:(l.m'.drop (l.m'.length-k)).length=k:=by simp;omega
  have hmem: ∀p∈l.m'.drop (l.m'.length-k),0<=p/\p<(i:Int):=fun p hp=>h.m' p (List.mem_of_mem_drop hp);generalize hy:l.m'.drop (l.m'.length-k)=y at hlen hmem ⊢;have hkl:=h.len;by_cases hc:(sw ([(-1:Int),(-1:Int)]) y)=([e.A,e.B])
  ·rw [bB (by simp [hc]),bz,<-hk]
   match y,hlen,hmem,hc with
   |[],hlen,hmem,hc=>
    have hk0:k=0:=by simpa using hlen.symm
    subst hk0;have e1:([(-1:Int),(-1:Int)]:List Int)=[e.A,e.B]:=hc;injection e1 with eA e2;injection e2 with eB _;have har:OM e i:= .inl ⟨hk,eA.symm,eB.symm⟩;have:=EP h hi hn he hs hk hk' har 0;rw [<-eA,<-eB,E9]at this;exact this
   |[p],hlen,hmem,hc=>
    have hk0:k=1:=by simpa using hlen.symm
    subst hk0;have e1:([p,(-1:Int)]:List Int)=[e.A,e.B]:=hc;injection e1 with eA e2;injection e2 with eB _;have hp:=hmem p (by simp);have har:OM e i:= .inr (.inl ⟨hk,by omega,by omega,eB.symm⟩);have hend:=EP h hi hn he hs hk hk' har 1;rcases CQ l (i:Int) (qU e.Op) e (prt e.Op) p [] 0 [] [] hp.1 (by omega)with⟨l',g1,g2⟩|g1
    ·exact⟨false,l',g1,g2,fun h=>by cases h⟩
    ·show∃ok l',bN l (i:Int) (qU e.Op) e (prt e.Op) [p] 0 [] []=_/\_;rw [g1,bM rfl];rw [<-eA,<-eB,E9]at hend;exact hend
   |[p,q],hlen,hmem,hc=>
    have hk0:k=2:=by simpa using hlen.symm
    subst hk0;have e1:([p,q]:List Int)=[e.A,e.B]:=hc;injection e1 with eA e2;injection e2 with eB _;have hp:=hmem p (by simp);have hq:=hmem q (by simp);have har:OM e i:= .inr (.inr ⟨hk,by omega,by omega,by omega,by omega⟩);have hend:=EP h hi hn he hs hk hk' har 2;rcases CQ l (i:Int) (qU e.Op) e (prt e.Op) p [q] 0 [] [] hp.1 (by omega)with⟨l',g1,g2⟩|g1
    ·exact⟨false,l',g1,g2,fun h=>by cases h⟩
    ·show∃ok l',bN l (i:Int) (qU e.Op) e (prt e.Op) [p,q] 0 [] []=_/\_;rw [g1,bM rfl];rcases CQ l (i:Int) (qU e.Op) e (prt e.Op) q [] 1 (kA l.g' p) [] hq.1 (by omega)with⟨l',g1,g2⟩|g1
     ·exact⟨false,l',g1,g2,fun h=>by cases h⟩
     ·show∃ok l',bN l (i:Int) (qU e.Op) e (prt e.Op) [q] 1 (kA l.g' p) []=_/\_;rw [g1,bB (by omega)];rw [<-eA,<-eB]at hend;exact hend
   |_::_::_::_,hlen,_,_=>simp at hlen;omega
  ·rw [bM (by simp [hc])];exact bad
end
