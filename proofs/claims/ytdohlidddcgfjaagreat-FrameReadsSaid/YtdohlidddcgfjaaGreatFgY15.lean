import Derived.Test.YtdohlidddcgfjaaGreatFgY14
import Derived.Test.YtdohlidddcgfjaaGreatFgY6
set_option linter.all false
namespace Go.Proofs.YtdohlidddcgfjaaGreat
open Go IntKind
section
variable{ns:List al}{l:aE}{i:Nat}
def zG(l:aE)(e:al)(a b:List Int):aE:={l with n:=e,a_:=a,b:=b}
def DQ(ns:List al)(e:al)(i:Nat):Bool:=((e.Op==8)||(e.Op==10))&&((i:Int) !=i64.wrap ((ns.length:Int)-(1:Int)))
def Ps(hn:l.nodes=ns){e:al}{a b:List Int}{ok0:Bool}{R0:List Int}(hask:qU e.Op (zG l e a b) ()=some (ok0,{zG l e a b with j':=R0})){k:Nat}(hk:k<=l.m'.length)(hk2:k<=2)(ho:l.m'.length<=1000)(hkl:l.g'.length<=1000)(i5:Nat):
  ∃l',bN l (i:Int) (qU e.Op) e (k:Int) [] i5 a b=some (!(DQ ns e i)&&(ok0&&decide (R0.length<=16)),l')/\((!(DQ ns e i)&&(ok0&&decide (R0.length<=16)))=true->l'.g'=l.g'++[R0]/\l'.m'=l.m'.take (l.m'.length-k)++[(i:Int)]):=by
 unfold bN;show∃l',(if(((e.Op==(8:Int))||(e.Op==(10:Int)))&&((i:Int) !=(i64.wrap ((l.nodes.length:Int)-(1:Int)))))then some (false,zG l e a b)else(qU e.Op (zG l e a b) ()).bind _)=_/\_;have hroot:(((e.Op==(8:Int))||(e.Op==(10:Int)))&&((i:Int) !=(i64.wrap ((ns.length:Int)-(1:Int)))))=DQ ns e i:=rfl;rw [hn,hroot];by_cases hr:DQ ns e i=true
 ·rw [bM hr,hr];exact⟨_,rfl,fun h=>by cases h⟩
 ·have hr' :DQ ns e i=false:=by simpa using hr
  rw [bB hr,hask,bz,hr',Ab,o4];by_cases hc:((!ok0)||(decide ((16:Int)<(R0.length:Int))))=true
  ·have hc' :(ok0&&decide (R0.length<=16))=false:=by
    cases ok0 with
    |false=>rfl
    |true=>simp at hc ⊢;omega
   rw [bM hc,hc'];exact⟨_,rfl,fun h=>by cases h⟩
  ·have hc' :(ok0&&decide (R0.length<=16))=true:=by
    cases ok0 with
    |false=>simp at hc
    |true=>simp at hc ⊢;omega
   rw [bB hc,hc'];show∃l',((hU l.g' [R0]).bind fun l1' =>(dr l.m' 0 (i64.wrap ((l.m'.length:Int)-(k:Int)))).bind fun y2=>(hU y2 [(i:Int)]).bind fun l2=>some (true,({({({zG l e a b with j':=R0}:aE)with g':=l1' }:aE)with m':=l2}:aE)))=_/\_;rw [bZ (by simp;omega),bz,gg (by omega) (by omega),kM 0 (l.m'.length-k) (show(0:Int)=((0:Nat):Int)from rfl) (by omega) (by omega) (by omega),bz,bZ (by simp;omega),bz,yf];exact⟨_,rfl,fun _=>⟨rfl,rfl⟩⟩
def KY(e:al)(r:Int)(p:Int)(tl:List Int)(i5:Nat)(a b:List Int)(h0:0<=p)(h:p<(l.g'.length:Int))(ask:aE->Unit->Option (Bool×aE))(ik:Int):
  bN l ik ask e r (p::tl) i5 a b=if(!(e.Op==11)&&decide ((4:Int)∈kA l.g' p))=true then some (false,zG l e a b)else if i5=0 then bN l ik ask e r tl (i5+1) (kA l.g' p) b else bN l ik ask e r tl (i5+1) a (kA l.g' p):=by
 have step:bN l ik ask e r (p::tl) i5 a b=(if(e.Op !=(11:Int))then((iI (kA l.g' p) (4:Int)).bind fun r3=>some r3)else some false).bind fun t1=>
   if t1 then some (false,zG l e a b)
   else if((i5:Int)==(0:Int))then bN l ik ask e r tl (i5+1) (kA l.g' p) b else bN l ik ask e r tl (i5+1) a (kA l.g' p):=by
  conv=>lhs;unfold bN
  rw [RY h0 h,bz];rfl
 rw [step,Al];have:(if(e.Op !=(11:Int))then((some (decide ((4:Int)∈kA l.g' p))).bind fun r3=>some r3)else some false)=some (!(e.Op==11)&&decide ((4:Int)∈kA l.g' p)):=by
  by_cases h11:e.Op=11
  ·rw [bB (by simp [h11]),show(e.Op==11)=true from by simp [h11]];rfl
  ·rw [bM (by simpa using h11),bz,show(e.Op==11)=false from by simpa using h11];rfl
 rw [this,bz]
 cases (!(e.Op==11)&&decide ((4:Int)∈kA l.g' p))with
 |true=>rfl
 |false=>
  show(if((i5:Int)==(0:Int))then bN l ik ask e r tl (i5+1) (kA l.g' p) b else bN l ik ask e r tl (i5+1) a (kA l.g' p))=if i5=0 then bN l ik ask e r tl (i5+1) (kA l.g' p) b else bN l ik ask e r tl (i5+1) a (kA l.g' p);by_cases h5:i5=0
  ·rw [bM h5,bM (by simp [h5])]
  ·rw [bB h5,bB (by simp;omega)]
def JO(h:Mu ns l i)(hi:i<100)(hn:ns.length<=100){e:al}(he:ns[i]? =some e)(hs:kq e)(V: ¬(PlN e l.m'.reverse/\uq e=true)): ∃l',eG l (i:Int) (qU e.Op)=some (false,l'):=by
 have hol:=h.olen;have hns:=h.nodes;subst hns;unfold eG;rw [eU,he,bz,yp,bz];by_cases hc:(!((decide (prt e.Op<(0:Int)))||(decide ((l.m'.length:Int)<prt e.Op))))=true
 ·have hc' :0<=prt e.Op/\prt e.Op<=(l.m'.length:Int):=by simp at hc;omega
  rw [bM hc,Is hs hc'.1,bz,bz]
  cases ho:uq e with
  |false=>rw [bM (by rfl)];exact⟨_,rfl⟩
  |true=>
   rw [bB (by simp)];obtain⟨k,hk⟩:=Int.eq_ofNat_of_zero_le hc'.1;have hk' :k<=l.m'.length:=by omega
   rw [hk,gg (by omega) (by omega),kM (l.m'.length-k) l.m'.length (by omega) rfl (by omega) (by omega),bz,EK];by_cases hp:(sw ([(-1:Int),(-1:Int)]) (l.m'.drop (l.m'.length-k)))=([e.A,e.B])
   ·exfalso;apply V;refine⟨?_,ho⟩;have hlen:(l.m'.drop (l.m'.length-k)).length=k:=by simp;omega
    have hrev:l.m'.reverse=(l.m'.drop (l.m'.length-k)).reverse++(l.m'.take (l.m'.length-k)).reverse:=by
     rw [<-List.reverse_append,vX]
    generalize hy:l.m'.drop (l.m'.length-k)=y at hlen hp hrev;rw [hrev];have hk2:=wA e.Op
    match y,hlen,hp with
    |[],hlen,hp=>
     have hk0:k=0:=by simpa using hlen.symm
     have e1:([(-1:Int),(-1:Int)]:List Int)=[e.A,e.B]:=hp;injection e1 with eA e2;injection e2 with eB _;exact .inl ⟨by omega,eA.symm,eB.symm⟩
    |[p],hlen,hp=>
     have hk0:k=1:=by simpa using hlen.symm
     have e1:([p,(-1:Int)]:List Int)=[e.A,e.B]:=hp;injection e1 with eA e2;injection e2 with eB _;exact .inr (.inl ⟨by omega,eB.symm,_,by rw [<-eA];rfl⟩)
    |[p,q],hlen,hp=>
     have hk0:k=2:=by simpa using hlen.symm
     have e1:([p,q]:List Int)=[e.A,e.B]:=hp;injection e1 with eA e2;injection e2 with eB _;exact .inr (.inr ⟨by omega,_,by rw [<-eA,<-eB];rfl⟩)
    |_::_::_::_,hlen,_=>simp at hlen;omega
   ·rw [bM (by simp [hp])];exact⟨_,rfl⟩
 ·rw [bB hc,bz,bM rfl];exact⟨_,rfl⟩
def G9(h:Mu ns l i)(hi:i<100)(hn:ns.length<=100){e:al}(he:ns[i]? =some e)(hs:kq e)(hp:PlN e l.m'.reverse)(ho:uq e=true){ok0:Bool}{R0:List Int}(hask:qU e.Op (zG l e (kA l.g' e.A) (kA l.g' e.B)) ()=some (ok0,{zG l e (kA l.g' e.A) (kA l.g' e.B)with j':=R0})):
  ∃l',eG l (i:Int) (qU e.Op)=some (mE e (kA l.g' e.A) (kA l.g' e.B)&&(!(DQ ns e i)&&(ok0&&decide (R0.length<=16))),l')/\((mE e (kA l.g' e.A) (kA l.g' e.B)&&(!(DQ ns e i)&&(ok0&&decide (R0.length<=16))))=true->l'.g'=l.g'++[R0]/\l'.m'.reverse=(i:Int)::l.m'.reverse.drop (prt e.Op).toNat):=by
 have hol:=h.olen;have hkl:=h.len;have hopen:=h.m';have hnodes:=h.nodes;have hrev: ∀k,k<=l.m'.length->(l.m'.take (l.m'.length-k)++[(i:Int)]).reverse=(i:Int)::l.m'.reverse.drop k:=fun k hk=>by
  rw [List.reverse_append,List.drop_reverse];rfl
 have pop: ∀(k:Nat) (y:List Int),prt e.Op=(k:Int)->k<=l.m'.length->k<=2->l.m'.drop (l.m'.length-k)=y->sw ([(-1:Int),(-1:Int)]) y=[e.A,e.B]->eG l (i:Int) (qU e.Op)=bN l (i:Int) (qU e.Op) e (k:Int) y 0 [] []:=by
  intro k y hk hkl' hk2 hy hc;unfold eG;rw [eU,hnodes,he,bz,yp,bz,bM (by simp;omega),Is hs (by omega),bz,ho,bz,bB (by simp),hk,gg (by omega) (by omega),kM (l.m'.length-k) l.m'.length (by omega) rfl (by omega) (by omega),bz,EK,hy,bB (by simp [hc]),bz]
 rcases hp with⟨hp,hA,hB⟩|⟨hp,hB,rest,hst⟩|⟨hp,rest,hst⟩
 ·rw [pop 0 [] hp (by omega) (by omega) (by simp) (by rw [hA,hB];rfl)];rw [hA,hB,E9]at hask ⊢;have hs1:mE e [] []=true:=by unfold mE;simp
  rw [hs1,o4];obtain⟨l',g1,g2⟩:=Ps (i:=i) hnodes hask (k:=0) (by omega) (by omega) (by omega) (by omega) 0;refine⟨l',g1,fun hh=>⟨(g2 hh).1,?_⟩⟩;rw [(g2 hh).2,hp];exact hrev 0 (by omega)
 ·have hl:l.m'=rest.reverse++[e.A]:=by rw [<-List.reverse_reverse l.m',hst];simp
  have hlen:l.m'.length=rest.length+1:=by rw [hl];simp
  have hAm:=hopen e.A (by rw [hl];simp);rw [pop 1 [e.A] hp (by omega) (by omega) (by rw [hl];simp) (by rw [hB];rfl),KY e _ e.A [] 0 [] [] hAm.1 (by omega)];rw [hB,E9]at hask ⊢;have hs1:mE e (kA l.g' e.A) []= !(!(e.Op==11)&&decide ((4:Int)∈kA l.g' e.A)):=by unfold mE;cases (e.Op==11)<;>simp
  rw [hs1]
  cases V:(!(e.Op==11)&&decide ((4:Int)∈kA l.g' e.A))with
  |true=>rw [bM rfl];exact⟨_,rfl,fun h=>by cases h⟩
  |false=>
   rw [bB (by simp),bM rfl,Ab,o4];obtain⟨l',g1,g2⟩:=Ps (i:=i) hnodes hask (k:=1) (by omega) (by omega) (by omega) (by omega) 1;refine⟨l',g1,fun hh=>⟨(g2 hh).1,?_⟩⟩;rw [(g2 hh).2,hp];exact hrev 1 (by omega)
 ·have hl:l.m'=rest.reverse++[e.A,e.B]:=by rw [<-List.reverse_reverse l.m',hst];simp
  have hlen:l.m'.length=rest.length+2:=by rw [hl];simp
  have hAm:=hopen e.A (by rw [hl];simp);have hBm:=hopen e.B (by rw [hl];simp);rw [pop 2 [e.A,e.B] hp (by omega) (by omega) (by rw [hl];simp) (by rfl),KY e _ e.A [e.B] 0 [] [] hAm.1 (by omega)];have hs1:mE e (kA l.g' e.A) (kA l.g' e.B)=(!(!(e.Op==11)&&decide ((4:Int)∈kA l.g' e.A))&& !(!(e.Op==11)&&decide ((4:Int)∈kA l.g' e.B))):=by unfold mE;cases (e.Op==11)<;>simp
  rw [hs1]
  cases V:(!(e.Op==11)&&decide ((4:Int)∈kA l.g' e.A))with
  |true=>rw [bM rfl];exact⟨_,rfl,fun h=>by cases h⟩
  |false=>
   rw [bB (by simp),bM rfl,KY e _ e.B [] (0+1) _ [] hBm.1 (by omega)]
   cases hb2:(!(e.Op==11)&&decide ((4:Int)∈kA l.g' e.B))with
   |true=>rw [bM rfl];exact⟨_,rfl,fun h=>by cases h⟩
   |false=>
    rw [bB (by simp),bB (by omega),Ab,o4,o4];obtain⟨l',g1,g2⟩:=Ps (i:=i) hnodes hask (k:=2) (by omega) (by omega) (by omega) (by omega) (0+1+1);refine⟨l',g1,fun hh=>⟨(g2 hh).1,?_⟩⟩;rw [(g2 hh).2,hp];exact hrev 2 (by omega)
structure Uw(ns:List al)(l:aE)(i:Nat):Prop where
 k:Mu ns l i
 stk:UQ ns l.m'.reverse ((i:Int)-1)
 kd: ∀k∈l.g',Kd k
def aap{hx:List (List Int)}(h: ∀k∈hx,Kd k){p:Int}(h0:0<=p)(hp:p<(hx.length:Int)):Kd (kA hx p):=by
 unfold kA;rw [bB (by omega),vp (by omega)];exact h _ (Jy _)
def EU(h:Uw ns l i)(hs:sr ns){e:al}(he:ns[i]? =some e)(tl:List al): ∃ok l',eG l (i:Int) (qU e.Op)=some (ok,l')/\(ok=true->Uw ns l' (i+1)/\dC ns (e::tl) i l.g'=dC ns tl (i+1) l'.g')/\(ok=false->dC ns (e::tl) i l.g'=some ([],(i:Int))):=by
 have hi:=(vK.1 he).1;have h90:=hs.len;have hse:=hs.n e (t7 he);obtain⟨bx,hsz,hcase⟩:=Tk h.stk he (by omega);have hsz0:wW ns (i:Int)=some (bx:Int):=hsz de (Ax (EL _) (qL (by omega)));have hkl:=h.k.len;have hopen:=h.k.m';by_cases Y:PlN e l.m'.reverse/\uq e=true
 ·obtain⟨hp,ho⟩:=Y;obtain⟨hs1,hs2,_,hstk⟩:1<=bx/\bx<=i+1/\PlN e l.m'.reverse/\UQ ns ((i:Int)::l.m'.reverse.drop (prt e.Op).toNat) (i:Int):=by
   rcases hcase with⟨_,hc⟩|hc
   ·exact absurd hp hc
   ·exact hc
  have hprt:0<=prt e.Op:=by rcases hp with h|h|h<;>omega
  have hA1:prt e.Op≠0->0<=e.A/\e.A<(i:Int):=fun hne=>by
   rcases hp with h|⟨_,_,r,hr⟩|⟨_,r,hr⟩
   ·exact absurd h.1 hne
   ·exact hopen e.A (MB.1 (by rw [hr];simp))
   ·exact hopen e.A (MB.1 (by rw [hr];simp))
  have hB1:prt e.Op=2->0<=e.B/\e.B<(i:Int):=fun W=>by
   rcases hp with h|h|⟨_,r,hr⟩
   ·omega
   ·omega
   ·exact hopen e.B (MB.1 (by rw [hr];simp))
  have hpl:(prt e.Op=0->e.A= -1)/\(prt e.Op≠2->e.B= -1):=by
   rcases hp with h|h|h
   ·exact⟨fun _=>h.2.1,fun _=>h.2.2⟩
   ·exact⟨fun h' =>by omega,fun _=>h.2.1⟩
   ·exact⟨fun h' =>by omega,fun h' =>absurd h.1 h'⟩
  have hKa:prt e.Op≠0->Kd (kA l.g' e.A):=fun hne=>aap h.kd (hA1 hne).1 (by have:=(hA1 hne).2;omega);have hKb:prt e.Op=2->Kd (kA l.g' e.B):=fun W=>aap h.kd (hB1 W).1 (by have:=(hB1 W).2;omega);have hna:prt e.Op=0->kA l.g' e.A=[]:=fun h0=>by rw [hpl.1 h0,E9]
  have hnb:prt e.Op≠2->kA l.g' e.B=[]:=fun h0=>by rw [hpl.2 h0,E9]
  have hlb:Lb (zG l e (kA l.g' e.A) (kA l.g' e.B)):=⟨hse,Fa h.k.g' _,Fa h.k.g' _⟩;have href:dC ns (e::tl) i l.g'=fJ ns (dC ns tl) i e l.g' (nl e (kA l.g' e.A) (kA l.g' e.B)):=by
   conv=>lhs;unfold dC
   rw [hsz0,bz,bM (by simp;omega),DU,ho,bz,bz,bM rfl];unfold nl;by_cases h0:prt e.Op=0
   ·rw [bB (by rw [hpl.1 h0];decide),bM h0];unfold rf;rw [bB (by rw [hpl.2 (by omega)];decide)]
   ·have hA:=hA1 h0;rw [bM (by simpa using hA.1),bB h0,RY hA.1 (by omega),bz,bZ (by simp),bz,pM];unfold rf;by_cases W:prt e.Op=2
    ·have hB:=hB1 W;rw [bM (by simpa using hB.1),bB (by omega),RY hB.1 (by omega),bz,bZ (by simp),bz];rfl
    ·rw [bB (by rw [hpl.2 W];decide),bM (by have:=wA e.Op;omega)]
  have hK3:Fs (zG l e (kA l.g' e.A) (kA l.g' e.B)) (dC ns tl) i l.g':=by
   rcases J7 hprt with h8|h9|h10|h11
   ·exact abx hlb h8 ((RN h8).symm.trans ho) (fun h0=>⟨hpl.1 h0,hpl.2 (by show prt e.Op≠2;have h0' :prt e.Op=0:=h0;omega),hna h0,hnb (by have h0' :prt e.Op=0:=h0;omega)⟩) (fun H=>⟨hpl.2 (by have h0' :prt e.Op=1:=H;omega),hKa (by have h0' :prt e.Op=1:=H;omega),hnb (by have h0' :prt e.Op=1:=H;omega)⟩) (fun W=>⟨hKa (by have h0' :prt e.Op=2:=W;omega),hKb W⟩)
   ·have h0:prt e.Op=0:=by rw [h9];rfl
    exact V6 h9 (hna h0) (hnb (by omega))
   ·have H:prt e.Op=1:=by rw [h10];rfl
    exact Qk hlb h10 ((RM (n:=e) (.inl h10)).symm.trans ho) (hpl.2 (by omega)) (hKa (by omega)) (hnb (by omega))
   ·have H:prt e.Op=1:=by rw [h11];rfl
    have hA:=hA1 (by omega);refine V7 hlb h11 (hKa (by omega)) (e:=ns[e.A.toNat]'(by omega)) ?_;show gw l.nodes e.A=_;rw [h.k.nodes,oj e.A.toNat (by omega),vp (by omega)]
  obtain⟨ok0,R0,k,o,g1,g2,g3,g4⟩:=hK3;have g1' :qU e.Op (zG l e (kA l.g' e.A) (kA l.g' e.B)) ()=some (ok0,{zG l e (kA l.g' e.A) (kA l.g' e.B)with j':=R0}):=g1;have g2' :fJ ns (dC ns tl) i e l.g' (nl e (kA l.g' e.A) (kA l.g' e.B))=ez ns (dC ns tl) i e l.g' o k:=by
   have:fJ l.nodes (dC ns tl) i e l.g' (nl e (kA l.g' e.A) (kA l.g' e.B))=ez l.nodes (dC ns tl) i e l.g' o k:=g2;rw [h.k.nodes]at this;exact this
  have g3' :o=(mE e (kA l.g' e.A) (kA l.g' e.B)&&(ok0&&decide (R0.length<=16))):=g3;obtain⟨l',t1,t2⟩:=G9 h.k (by omega) (by omega) he hse hp ho g1';obtain⟨ok2,l2,q1,_,q3⟩:=M3 h.k (by omega) (by omega) he hse;rw [t1]at q1;cases q1;rw [href,g2'];have hroot:(((e.Op==(8:Int))||(e.Op==(10:Int)))&&((i:Int) !=(i64.wrap ((ns.length:Int)-(1:Int)))))=DQ ns e i:=rfl;refine⟨_,l',t1,fun hok=>?_,fun hok=>?_⟩
  ·obtain⟨u1,u2⟩:=t2 hok;simp only [nw,Cn]at hok;have ho1:o=true:=by rw [g3',hok.1,hok.2.2.1];simpa using hok.2.2.2
   obtain⟨v1,v2⟩:=g4 ho1;have v1' :k=R0:=v1;refine⟨⟨q3 (by simp only [nw,Cn];exact hok),?_,fun x K=>?_⟩,?_⟩
   ·have:(((i+1:Nat):Int)-1)=(i:Int):=by omega
    rw [u2,this];exact hstk
   ·rw [u1]at K;rcases An.1 K with K|K
    ·exact h.kd x K
    ·rw [EN.1 K];exact v2
   ·unfold ez;rw [hroot,hok.2.1,ho1,bB (by simp),bZ (by simp;omega),bz,u1,v1']
  ·unfold ez;rw [hroot,bM];rw [g3']
   cases H:mE e (kA l.g' e.A) (kA l.g' e.B)with
   |false=>rfl
   |true=>
    rw [H,o4]at hok
    cases W:DQ ns e i with
    |true=>simp
    |false=>
     rw [W,Ab,o4]at hok;rw [hok];rfl
 ·obtain⟨l',t1⟩:=JO h.k (by omega) (by omega) he hse Y;refine⟨false,l',t1,fun h=>(by cases h),fun _=>?_⟩
  conv=>lhs;unfold dC
  rw [hsz0,bz];have:(if(decide ((0:Int)<(bx:Int)))then((qe e).bind fun r2=>some r2)else some false)=some false:=by
   by_cases h0:0<bx
   ·rw [bM (by simpa using h0),DU,bz];rcases hcase with⟨hz,_⟩|⟨_,_,hp,_⟩
    ·omega
    ·cases ho:uq e with
     |false=>rfl
     |true=>exact absurd ⟨hp,ho⟩ Y
   ·rw [bB (by simpa using h0)]
  rw [this,bz,bB (by simp)];unfold ez;rw [bM (by rfl)]
def CI(hs:sr ns)(H:1<=ns.length)(h60:ns.length<=60): ∀(tl:List al) (i:Nat) (l:aE),ns.drop i=tl->i<=ns.length->Uw ns l i->
  ∃out w e,gN ns ((nJ).getD []) tl i (-1) l=some (out,w,e)/\((e=0/\w=0/\dC ns tl i l.g'=some (out,-1)/\ ∀k∈out,Kd k)\/(e=291/\out=[]/\ ∃a:Nat,dC ns tl i l.g'=some ([],(a:Int))))
 |[],i,l,hd,hle,h=>by
  have hlen:ns.length<=i:=Ig hd;have hi:i=ns.length:=by omega
  obtain⟨j,bx,rest,hj,hst,g1,g2,g3,g4⟩:=h.stk.pos (by omega);have hjl:j=ns.length-1:=by omega
  have hsz0:wW ns (j:Int)=some (bx:Int):=g1 de (Ax (EL _) (qL (by omega)));have hw:i64.wrap ((ns.length:Int)-(1:Int))=(j:Int):=by rw [gg (by omega) (by omega)];omega
  have holen:l.m'.length=rest.length+1:=by rw [<-List.length_reverse,hst];rfl
  have hiff:(l.m'.length=1)↔bx=ns.length:=by
   constructor
   ·intro h0;have:rest=[]:=vM (by omega);subst this;by_cases hz:(j:Int)-(bx:Int)<0
    ·omega
    ·obtain⟨_,_,_,_,hh,_⟩:=g4.pos (by omega);cases hh
   ·intro h0;have:=g4.neg (by omega);rw [holen,this];rfl
  unfold gN lc
  conv=>arg 1;ext;arg 1;ext;arg 1;ext;arg 2;unfold dC
  rw [hw,hsz0,bz];by_cases ho:l.m'.length=1
  ·rw [bB (by simp [ho]),bB (by simp [hiff.1 ho])];unfold od;rw [bB (by decide),Bv l.g' [] (fun k hk=>by have:=h.k.g' k hk;omega) (by have:=h.k.len;simp;omega),pM];exact⟨_,_,_,rfl,.inl ⟨rfl,rfl,rfl,h.kd⟩⟩
  ·have hne: ¬bx=ns.length:=fun h=>ho (hiff.2 h);rw [bM (by simp;omega),bM (by simp;omega),su l (by omega)];exact⟨_,_,_,rfl,.inr ⟨rfl,rfl,j,rfl⟩⟩
 |e::tl,i,l,hd,hle,h=>by
  obtain⟨hidx,hi,hd'⟩:=jN hd;rw [eU]at hidx;obtain⟨ok,l',g1,g2,g3⟩:=EU h hs hidx tl;unfold gN;have g1' :eG l (i:Int) ((C5 ((nJ).getD []) e.Op).getD (fun _ _=>none))=some (ok,l'):=g1;rw [g1',bz]
  cases ok with
  |false=>
   rw [bM (by rfl)];unfold lc;rw [bB (by simp;omega),su l' (by omega)];exact⟨_,_,_,rfl,.inr ⟨rfl,rfl,i,g3 rfl⟩⟩
  |true=>
   rw [bB (by simp),(g2 rfl).2];exact CI hs H h60 tl (i+1) l' hd' (by omega) (g2 rfl).1
end
def II{ns:List al}(hs:sr ns): ∃out w e,iP ns=some (out,w,e)/\((e=0/\w=0/\rg ns=some (out,-1)/\KOK ns out/\1<=ns.length/\ns.length<=60/\ ∀k∈out,Kd k)\/(e=291/\out=[]/\ ∃a:Nat,rg ns=some ([],(a:Int)))):=by
 obtain⟨out0,w0,e0,hK,hcase⟩:=I9 hs;have hK' :=hK;unfold iP at hK';unfold rg;by_cases hc:((decide ((ns.length:Int)<(1:Int)))||(decide ((60:Int)<(ns.length:Int))))=true
 ·rw [bM hc]at hK' ⊢;cases hK';exact⟨_,_,_,hK,.inr ⟨rfl,rfl,0,rfl⟩⟩
 ·rw [bB hc]at hK' ⊢;simp at hc;obtain⟨out,w,e,g1,g2⟩:=CI hs (by omega) (by omega) ns 0 ⟨ns,[],[],⟨0,0,0,0,[],false,⟨[]⟩,[],[],[],[],0⟩,[],[],[]⟩ rfl (mT _) ⟨⟨rfl,rfl,fun p hp=>(by cases hp),kE _,fun k hk=>(by cases hk),fun j hj=>by omega⟩,.nil,fun k hk=>by cases hk⟩;have g1' :gN ns ((nJ).getD []) ns 0 (-1) ⟨ns,[],[],⟨0,0,0,0,[],false,⟨[]⟩,[],[],[],[],0⟩,[],[],[]⟩=some (out0,w0,e0):=hK';rw [g1]at g1';cases g1';refine⟨_,_,_,hK,?_⟩;rcases g2 with⟨q1,q2,q3,q4⟩|⟨q1,q2,q3⟩
  ·rcases hcase with⟨_,_,p3,p4,p5⟩|⟨p1,_⟩
   ·exact .inl ⟨q1,q2,q3,p3,p4,p5,q4⟩
   ·rw [q1]at p1;exact absurd p1 (by decide)
  ·exact .inr ⟨q1,q2,q3⟩
