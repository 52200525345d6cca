/- bO of this claim: Y15. -/
import Derived.Test.YtdohlidddcgfjaaGreatFeY14
import Derived.Test.YtdohlidddcgfjaaGreatFeY6
set_option linter.all false
namespace Go.Proofs.YtdohlidddcgfjaaGreat
open Go

section
variable{ns:List aa}{l:al}{i:Nat}
def Av(l:al)(e:aa)(a b:List Int):al:={l with n:=e,a_:=a,b:=b}
def y9(ns:List aa)(e:aa)(i:Nat):Bool:=((e.Op==8)||(e.Op==10))&&((i:Int) !=IntKind.i64.wrap ((ns.length:Int)-(1:Int)))
def JM(hn:l.nodes=ns){e:aa}{a b:List Int}{ok0:Bool}{R0:List Int}(hask:oL e.Op (Av l e a b) ()=some (ok0,{Av l e a b with result:=R0})){k:Nat}(hk:k<=l.open_.length)(hk2:k<=2)(ho:l.open_.length<=1000)(hkl:l.kinds.length<=1000)(i5:Nat):
  ∃l',bc l (i:Int) (oL e.Op) e (k:Int) [] i5 a b=some (!(y9 ns e i)&&(ok0&&decide (R0.length<=16)),l')/\((!(y9 ns e i)&&(ok0&&decide (R0.length<=16)))=true->l'.kinds=l.kinds++[R0]/\l'.open_=l.open_.take (l.open_.length-k)++[(i:Int)]):=by
 unfold bc
 show∃l',(if(((e.Op==(8:Int))||(e.Op==(10:Int)))&&((i:Int) !=(IntKind.i64.wrap ((l.nodes.length:Int)-(1:Int)))))then some (false,Av l e a b)else(oL e.Op (Av l e a b) ()).bind _)=_/\_
 have hroot:(((e.Op==(8:Int))||(e.Op==(10:Int)))&&((i:Int) !=(IntKind.i64.wrap ((ns.length:Int)-(1:Int)))))=y9 ns e i:=rfl
 rw [hn,hroot]
 by_cases hr:y9 ns e i=true
 ·rw [bo hr,hr]
  exact⟨_,rfl,fun h=>by cases h⟩
 ·have hr' :y9 ns e i=false:=by simpa using hr
  rw [aV hr,hask,bg,hr',yW,ni]
  by_cases hc:((!ok0)||(decide ((16:Int)<(R0.length:Int))))=true
  ·have hc' :(ok0&&decide (R0.length<=16))=false:=by
    cases ok0 with
    |false=>rfl
    |true=>simp at hc ⊢;omega
   rw [bo hc,hc']
   exact⟨_,rfl,fun h=>by cases h⟩
  ·have hc' :(ok0&&decide (R0.length<=16))=true:=by
    cases ok0 with
    |false=>simp at hc
    |true=>simp at hc ⊢;omega
   rw [aV hc,hc']
   show∃l',((jh l.kinds [R0]).bind fun l1' =>(dK l.open_ 0 (IntKind.i64.wrap ((l.open_.length:Int)-(k:Int)))).bind fun y2=>(jh y2 [(i:Int)]).bind fun l2=>some (true,({({({Av l e a b with result:=R0}:al)with kinds:=l1' }:al)with open_:=l2}:al)))=_/\_
   rw [cE (by simp;omega),bg,ew (by omega) (by omega),jy 0 (l.open_.length-k) (show(0:Int)=((0:Nat):Int)from rfl) (by omega) (by omega) (by omega),bg,cE (by simp;omega),bg,z2]
   exact⟨_,rfl,fun _=>⟨rfl,rfl⟩⟩
def F0(e:aa)(r:Int)(p:Int)(tl:List Int)(i5:Nat)(a b:List Int)(h0:0<=p)(h:p<(l.kinds.length:Int))(ask:al->Unit->Option (Bool×al))(ik:Int):
  bc l ik ask e r (p::tl) i5 a b=if(!(e.Op==11)&&decide ((4:Int)∈kA l.kinds p))=true then some (false,Av l e a b)else if i5=0 then bc l ik ask e r tl (i5+1) (kA l.kinds p) b else bc l ik ask e r tl (i5+1) a (kA l.kinds p):=by
 have step:bc l ik ask e r (p::tl) i5 a b=(if(e.Op !=(11:Int))then((fL (kA l.kinds p) (4:Int)).bind fun r3=>some r3)else some false).bind fun t1=>
   if t1 then some (false,Av l e a b)
   else if((i5:Int)==(0:Int))then bc l ik ask e r tl (i5+1) (kA l.kinds p) b else bc l ik ask e r tl (i5+1) a (kA l.kinds p):=by
  conv=>lhs;unfold bc
  rw [Md h0 h,bg]
  rfl
 rw [step,vv]
 have:(if(e.Op !=(11:Int))then((some (decide ((4:Int)∈kA l.kinds p))).bind fun r3=>some r3)else some false)=some (!(e.Op==11)&&decide ((4:Int)∈kA l.kinds p)):=by
  by_cases h11:e.Op=11
  ·rw [aV (by simp [h11]),show(e.Op==11)=true from by simp [h11]];rfl
  ·rw [bo (by simpa using h11),bg,show(e.Op==11)=false from by simpa using h11];rfl
 rw [this,bg]
 cases (!(e.Op==11)&&decide ((4:Int)∈kA l.kinds p))with
 |true=>rfl
 |false=>
  show(if((i5:Int)==(0:Int))then bc l ik ask e r tl (i5+1) (kA l.kinds p) b else bc l ik ask e r tl (i5+1) a (kA l.kinds p))=if i5=0 then bc l ik ask e r tl (i5+1) (kA l.kinds p) b else bc l ik ask e r tl (i5+1) a (kA l.kinds p)
  by_cases h5:i5=0
  ·rw [bo h5,bo (by simp [h5])]
  ·rw [aV h5,aV (by simp;omega)]
def M2(h:Ha ns l i)(hi:i<100)(hn:ns.length<=100){e:aa}(he:ns[i]? =some e)(hs:ju e)(W: ¬(VY e l.open_.reverse/\sZ e=true)): ∃l',dA l (i:Int) (oL e.Op)=some (false,l'):=by
 have hol:=h.olen
 have hns:=h.nodes
 subst hns
 unfold dA
 rw [eK,he,bg,tJ,bg]
 by_cases hc:(!((decide (lB e.Op<(0:Int)))||(decide ((l.open_.length:Int)<lB e.Op))))=true
 ·have hc' :0<=lB e.Op/\lB e.Op<=(l.open_.length:Int):=by simp at hc;omega
  rw [bo hc,Dv hs hc'.1,bg,bg]
  cases ho:sZ e with
  |false=>rw [bo (by rfl)];exact⟨_,rfl⟩
  |true=>
   rw [aV (by simp)]
   obtain⟨k,hk⟩:=Int.eq_ofNat_of_zero_le hc'.1
   have hk' :k<=l.open_.length:=by omega
   rw [hk,ew (by omega) (by omega),jy (l.open_.length-k) l.open_.length (by omega) rfl (by omega) (by omega),bg,B1]
   by_cases hp:(ol ([(-1:Int),(-1:Int)]) (l.open_.drop (l.open_.length-k)))=([e.A,e.B])
   ·exfalso
    apply W
    refine⟨?_,ho⟩
    have hlen:(l.open_.drop (l.open_.length-k)).length=k:=by simp;omega
    have hrev:l.open_.reverse=(l.open_.drop (l.open_.length-k)).reverse++(l.open_.take (l.open_.length-k)).reverse:=by
     rw [<-List.reverse_append,rQ]
    generalize hy:l.open_.drop (l.open_.length-k)=y at hlen hp hrev
    rw [hrev]
    have hk2:=ub e.Op
    match y,hlen,hp with
    |[],hlen,hp=>
     have hk0:k=0:=by simpa using hlen.symm
     have e1:([(-1:Int),(-1:Int)]:List Int)=[e.A,e.B]:=hp
     injection e1 with eA e2
     injection e2 with eB _
     exact .inl ⟨by omega,eA.symm,eB.symm⟩
    |[p],hlen,hp=>
     have hk0:k=1:=by simpa using hlen.symm
     have e1:([p,(-1:Int)]:List Int)=[e.A,e.B]:=hp
     injection e1 with eA e2
     injection e2 with eB _
     exact .inr (.inl ⟨by omega,eB.symm,_,by rw [<-eA];rfl⟩)
    |[p,q],hlen,hp=>
     have hk0:k=2:=by simpa using hlen.symm
     have e1:([p,q]:List Int)=[e.A,e.B]:=hp
     injection e1 with eA e2
     injection e2 with eB _
     exact .inr (.inr ⟨by omega,_,by rw [<-eA,<-eB];rfl⟩)
    |_::_::_::_,hlen,_=>simp at hlen;omega
   ·rw [bo (by simp [hp])]
    exact⟨_,rfl⟩
 ·rw [aV hc,bg,bo rfl]
  exact⟨_,rfl⟩
def JP(h:Ha ns l i)(hi:i<100)(hn:ns.length<=100){e:aa}(he:ns[i]? =some e)(hs:ju e)(hp:VY e l.open_.reverse)(ho:sZ e=true){ok0:Bool}{R0:List Int}(hask:oL e.Op (Av l e (kA l.kinds e.A) (kA l.kinds e.B)) ()=some (ok0,{Av l e (kA l.kinds e.A) (kA l.kinds e.B)with result:=R0})):
  ∃l',dA l (i:Int) (oL e.Op)=some (j5 e (kA l.kinds e.A) (kA l.kinds e.B)&&(!(y9 ns e i)&&(ok0&&decide (R0.length<=16))),l')/\((j5 e (kA l.kinds e.A) (kA l.kinds e.B)&&(!(y9 ns e i)&&(ok0&&decide (R0.length<=16))))=true->l'.kinds=l.kinds++[R0]/\l'.open_.reverse=(i:Int)::l.open_.reverse.drop (lB e.Op).toNat):=by
 have hol:=h.olen
 have hkl:=h.len
 have hopen:=h.open_
 have hnodes:=h.nodes
 have hrev: ∀k,k<=l.open_.length->(l.open_.take (l.open_.length-k)++[(i:Int)]).reverse=(i:Int)::l.open_.reverse.drop k:=fun k hk=>by
  rw [List.reverse_append,List.drop_reverse];rfl
 -- what is popped
 have pop: ∀(k:Nat) (y:List Int),lB e.Op=(k:Int)->k<=l.open_.length->k<=2->l.open_.drop (l.open_.length-k)=y->ol ([(-1:Int),(-1:Int)]) y=[e.A,e.B]->dA l (i:Int) (oL e.Op)=bc l (i:Int) (oL e.Op) e (k:Int) y 0 [] []:=by
  intro k y hk hkl' hk2 hy hc
  unfold dA
  rw [eK,hnodes,he,bg,tJ,bg,bo (by simp;omega),Dv hs (by omega),bg,ho,bg,aV (by simp),hk,ew (by omega) (by omega),jy (l.open_.length-k) l.open_.length (by omega) rfl (by omega) (by omega),bg,B1,hy,aV (by simp [hc]),bg]
 rcases hp with⟨hp,hA,hB⟩|⟨hp,hB,rest,hst⟩|⟨hp,rest,hst⟩
 ·rw [pop 0 [] hp (by omega) (by omega) (by simp) (by rw [hA,hB];rfl)]
  rw [hA,hB,Aw]at hask ⊢
  have hs1:j5 e [] []=true:=by unfold j5;simp
  rw [hs1,ni]
  obtain⟨l',g1,g2⟩:=JM (i:=i) hnodes hask (k:=0) (by omega) (by omega) (by omega) (by omega) 0
  refine⟨l',g1,fun hh=>⟨(g2 hh).1,?_⟩⟩
  rw [(g2 hh).2,hp]
  exact hrev 0 (by omega)
 ·have hl:l.open_=rest.reverse++[e.A]:=by rw [<-List.reverse_reverse l.open_,hst];simp
  have hlen:l.open_.length=rest.length+1:=by rw [hl];simp
  have hAm:=hopen e.A (by rw [hl];simp)
  rw [pop 1 [e.A] hp (by omega) (by omega) (by rw [hl];simp) (by rw [hB];rfl),F0 e _ e.A [] 0 [] [] hAm.1 (by omega)]
  rw [hB,Aw]at hask ⊢
  have hs1:j5 e (kA l.kinds e.A) []= !(!(e.Op==11)&&decide ((4:Int)∈kA l.kinds e.A)):=by unfold j5;cases (e.Op==11)<;>simp
  rw [hs1]
  cases W:(!(e.Op==11)&&decide ((4:Int)∈kA l.kinds e.A))with
  |true=>rw [bo rfl];exact⟨_,rfl,fun h=>by cases h⟩
  |false=>
   rw [aV (by simp),bo rfl,yW,ni]
   obtain⟨l',g1,g2⟩:=JM (i:=i) hnodes hask (k:=1) (by omega) (by omega) (by omega) (by omega) 1
   refine⟨l',g1,fun hh=>⟨(g2 hh).1,?_⟩⟩
   rw [(g2 hh).2,hp]
   exact hrev 1 (by omega)
 ·have hl:l.open_=rest.reverse++[e.A,e.B]:=by rw [<-List.reverse_reverse l.open_,hst];simp
  have hlen:l.open_.length=rest.length+2:=by rw [hl];simp
  have hAm:=hopen e.A (by rw [hl];simp)
  have hBm:=hopen e.B (by rw [hl];simp)
  rw [pop 2 [e.A,e.B] hp (by omega) (by omega) (by rw [hl];simp) (by rfl),F0 e _ e.A [e.B] 0 [] [] hAm.1 (by omega)]
  have hs1:j5 e (kA l.kinds e.A) (kA l.kinds e.B)=(!(!(e.Op==11)&&decide ((4:Int)∈kA l.kinds e.A))&& !(!(e.Op==11)&&decide ((4:Int)∈kA l.kinds e.B))):=by unfold j5;cases (e.Op==11)<;>simp
  rw [hs1]
  cases W:(!(e.Op==11)&&decide ((4:Int)∈kA l.kinds e.A))with
  |true=>rw [bo rfl];exact⟨_,rfl,fun h=>by cases h⟩
  |false=>
   rw [aV (by simp),bo rfl,F0 e _ e.B [] (0+1) _ [] hBm.1 (by omega)]
   cases hb2:(!(e.Op==11)&&decide ((4:Int)∈kA l.kinds e.B))with
   |true=>rw [bo rfl];exact⟨_,rfl,fun h=>by cases h⟩
   |false=>
    rw [aV (by simp),aV (by omega),yW,ni,ni]
    obtain⟨l',g1,g2⟩:=JM (i:=i) hnodes hask (k:=2) (by omega) (by omega) (by omega) (by omega) (0+1+1)
    refine⟨l',g1,fun hh=>⟨(g2 hh).1,?_⟩⟩
    rw [(g2 hh).2,hp]
    exact hrev 2 (by omega)
structure S4(ns:List aa)(l:al)(i:Nat):Prop where
 k:Ha ns l i
 stk:Ow ns l.open_.reverse ((i:Int)-1)
 kd: ∀k∈l.kinds,Kd k
def Tt{tV:List (List Int)}(h: ∀k∈tV,Kd k){p:Int}(h0:0<=p)(hp:p<(tV.length:Int)):Kd (kA tV p):=by
 unfold kA
 rw [aV (by omega),sG (by omega)]
 exact h _ (EA _)
def ER(h:S4 ns l i)(hs:rC ns){e:aa}(he:ns[i]? =some e)(tl:List aa): ∃ok l',dA l (i:Int) (oL e.Op)=some (ok,l')/\(ok=true->S4 ns l' (i+1)/\c7 ns (e::tl) i l.kinds=c7 ns tl (i+1) l'.kinds)/\(ok=false->c7 ns (e::tl) i l.kinds=some ([],(i:Int))):=by
 have hi:=(q8.1 he).1
 have h90:=hs.len
 have hse:=hs.n e (sI he)
 obtain⟨h3,hsz,hcase⟩:=Na h.stk he (by omega)
 have hsz0:uK ns (i:Int)=some (h3:Int):=hsz eQ (vK (z8 _) (m8 (by omega)))
 have hkl:=h.k.len
 have hopen:=h.k.open_
 by_cases V:VY e l.open_.reverse/\sZ e=true
 ·obtain⟨hp,ho⟩:=V
  obtain⟨hs1,hs2,_,hstk⟩:1<=h3/\h3<=i+1/\VY e l.open_.reverse/\Ow ns ((i:Int)::l.open_.reverse.drop (lB e.Op).toNat) (i:Int):=by
   rcases hcase with⟨_,hc⟩|hc
   ·exact absurd hp hc
   ·exact hc
  have hprt:0<=lB e.Op:=by rcases hp with h|h|h<;>omega
  have hA1:lB e.Op≠0->0<=e.A/\e.A<(i:Int):=fun hne=>by
   rcases hp with h|⟨_,_,r,hr⟩|⟨_,r,hr⟩
   ·exact absurd h.1 hne
   ·exact hopen e.A (List.mem_reverse.1 (by rw [hr];simp))
   ·exact hopen e.A (List.mem_reverse.1 (by rw [hr];simp))
  have hB1:lB e.Op=2->0<=e.B/\e.B<(i:Int):=fun H=>by
   rcases hp with h|h|⟨_,r,hr⟩
   ·omega
   ·omega
   ·exact hopen e.B (List.mem_reverse.1 (by rw [hr];simp))
  have hpl:(lB e.Op=0->e.A= -1)/\(lB e.Op≠2->e.B= -1):=by
   rcases hp with h|h|h
   ·exact⟨fun _=>h.2.1,fun _=>h.2.2⟩
   ·exact⟨fun h' =>by omega,fun _=>h.2.1⟩
   ·exact⟨fun h' =>by omega,fun h' =>absurd h.1 h'⟩
  have hKa:lB e.Op≠0->Kd (kA l.kinds e.A):=fun hne=>Tt h.kd (hA1 hne).1 (by have:=(hA1 hne).2;omega)
  have hKb:lB e.Op=2->Kd (kA l.kinds e.B):=fun H=>Tt h.kd (hB1 H).1 (by have:=(hB1 H).2;omega)
  have hna:lB e.Op=0->kA l.kinds e.A=[]:=fun h0=>by rw [hpl.1 h0,Aw]
  have hnb:lB e.Op≠2->kA l.kinds e.B=[]:=fun h0=>by rw [hpl.2 h0,Aw]
  have hlb:Lb (Av l e (kA l.kinds e.A) (kA l.kinds e.B)):=⟨hse,Gv h.k.kinds _,Gv h.k.kinds _⟩
  -- the document's step
  have href:c7 ns (e::tl) i l.kinds=dO ns (c7 ns tl) i e l.kinds (kz e (kA l.kinds e.A) (kA l.kinds e.B)):=by
   conv=>lhs;unfold c7
   rw [hsz0,bg,bo (by simp;omega),za,ho,bg,bg,bo rfl]
   unfold kz
   by_cases h0:lB e.Op=0
   ·rw [aV (by rw [hpl.1 h0];decide),bo h0]
    unfold pI
    rw [aV (by rw [hpl.2 (by omega)];decide)]
   ·have hA:=hA1 h0
    rw [bo (by simpa using hA.1),aV h0,Md hA.1 (by omega),bg,cE (by simp),bg,mo]
    unfold pI
    by_cases H:lB e.Op=2
    ·have hB:=hB1 H
     rw [bo (by simpa using hB.1),aV (by omega),Md hB.1 (by omega),bg,cE (by simp),bg]
     rfl
    ·rw [aV (by rw [hpl.2 H];decide),bo (by have:=ub e.Op;omega)]
  have hK3:AR (Av l e (kA l.kinds e.A) (kA l.kinds e.B)) (c7 ns tl) i l.kinds:=by
   rcases ND hprt with h8|h9|h10|h11
   ·exact UN hlb h8 ((RH h8).symm.trans ho) (fun h0=>⟨hpl.1 h0,hpl.2 (by show lB e.Op≠2;have h0' :lB e.Op=0:=h0;omega),hna h0,hnb (by have h0' :lB e.Op=0:=h0;omega)⟩) (fun Y=>⟨hpl.2 (by have h0' :lB e.Op=1:=Y;omega),hKa (by have h0' :lB e.Op=1:=Y;omega),hnb (by have h0' :lB e.Op=1:=Y;omega)⟩) (fun H=>⟨hKa (by have h0' :lB e.Op=2:=H;omega),hKb H⟩)
   ·have h0:lB e.Op=0:=by rw [h9];rfl
    exact PI h9 (hna h0) (hnb (by omega))
   ·have Y:lB e.Op=1:=by rw [h10];rfl
    exact Kx hlb h10 ((RF (n:=e) (.inl h10)).symm.trans ho) (hpl.2 (by omega)) (hKa (by omega)) (hnb (by omega))
   ·have Y:lB e.Op=1:=by rw [h11];rfl
    have hA:=hA1 (by omega)
    refine PJ hlb h11 (hKa (by omega)) (e:=ns[e.A.toNat]'(by omega)) ?_
    show gG l.nodes e.A=_
    rw [h.k.nodes,lU e.A.toNat (by omega),sG (by omega)]
  obtain⟨ok0,R0,k,o,g1,g2,g3,g4⟩:=hK3
  have g1' :oL e.Op (Av l e (kA l.kinds e.A) (kA l.kinds e.B)) ()=some (ok0,{Av l e (kA l.kinds e.A) (kA l.kinds e.B)with result:=R0}):=g1
  have g2' :dO ns (c7 ns tl) i e l.kinds (kz e (kA l.kinds e.A) (kA l.kinds e.B))=dh ns (c7 ns tl) i e l.kinds o k:=by
   have:dO l.nodes (c7 ns tl) i e l.kinds (kz e (kA l.kinds e.A) (kA l.kinds e.B))=dh l.nodes (c7 ns tl) i e l.kinds o k:=g2
   rw [h.k.nodes]at this
   exact this
  have g3' :o=(j5 e (kA l.kinds e.A) (kA l.kinds e.B)&&(ok0&&decide (R0.length<=16))):=g3
  obtain⟨l',t1,t2⟩:=JP h.k (by omega) (by omega) he hse hp ho g1'
  obtain⟨ok2,l2,q1,_,q3⟩:=HG h.k (by omega) (by omega) he hse
  rw [t1]at q1
  cases q1
  rw [href,g2']
  have hroot:(((e.Op==(8:Int))||(e.Op==(10:Int)))&&((i:Int) !=(IntKind.i64.wrap ((ns.length:Int)-(1:Int)))))=y9 ns e i:=rfl
  refine⟨_,l',t1,fun hok=>?_,fun hok=>?_⟩
  ·obtain⟨u1,u2⟩:=t2 hok
   simp only [nP,DW]at hok
   have ho1:o=true:=by rw [g3',hok.1,hok.2.2.1];simpa using hok.2.2.2
   obtain⟨v1,v2⟩:=g4 ho1
   have v1' :k=R0:=v1
   refine⟨⟨q3 (by simp only [nP,DW];exact hok),?_,fun x X=>?_⟩,?_⟩
   ·have:(((i+1:Nat):Int)-1)=(i:Int):=by omega
    rw [u2,this]
    exact hstk
   ·rw [u1]at X
    rcases xV.1 X with X|X
    ·exact h.kd x X
    ·rw [DY.1 X];exact v2
   ·unfold dh
    rw [hroot,hok.2.1,ho1,aV (by simp),cE (by simp;omega),bg,u1,v1']
  ·unfold dh
   rw [hroot,bo]
   rw [g3']
   cases Y:j5 e (kA l.kinds e.A) (kA l.kinds e.B)with
   |false=>rfl
   |true=>
    rw [Y,ni]at hok
    cases H:y9 ns e i with
    |true=>simp
    |false=>
     rw [H,yW,ni]at hok
     rw [hok];rfl
 ·obtain⟨l',t1⟩:=M2 h.k (by omega) (by omega) he hse V
  refine⟨false,l',t1,fun h=>(by cases h),fun _=>?_⟩
  conv=>lhs;unfold c7
  rw [hsz0,bg]
  have:(if(decide ((0:Int)<(h3:Int)))then((o9 e).bind fun r2=>some r2)else some false)=some false:=by
   by_cases h0:0<h3
   ·rw [bo (by simpa using h0),za,bg]
    rcases hcase with⟨hz,_⟩|⟨_,_,hp,_⟩
    ·omega
    ·cases ho:sZ e with
     |false=>rfl
     |true=>exact absurd ⟨hp,ho⟩ V
   ·rw [aV (by simpa using h0)]
  rw [this,bg,aV (by simp)]
  unfold dh
  rw [bo (by rfl)]
def xU(hs:rC ns)(Y:1<=ns.length)(h60:ns.length<=60): ∀(tl:List aa) (i:Nat) (l:al),ns.drop i=tl->i<=ns.length->S4 ns l i->
  ∃out w e,fU ns ((mL).getD []) tl i (-1) l=some (out,w,e)/\((e=0/\w=0/\c7 ns tl i l.kinds=some (out,-1)/\ ∀k∈out,Kd k)\/(e=291/\out=[]/\ ∃a:Nat,c7 ns tl i l.kinds=some ([],(a:Int))))
 |[],i,l,hd,hle,h=>by
  have hlen:ns.length<=i:=Dk hd
  have hi:i=ns.length:=by omega
  obtain⟨j,h3,rest,hj,hst,g1,g2,g3,g4⟩:=h.stk.pos (by omega)
  have hjl:j=ns.length-1:=by omega
  have hsz0:uK ns (j:Int)=some (h3:Int):=g1 eQ (vK (z8 _) (m8 (by omega)))
  have hw:IntKind.i64.wrap ((ns.length:Int)-(1:Int))=(j:Int):=by rw [ew (by omega) (by omega)];omega
  have holen:l.open_.length=rest.length+1:=by rw [<-List.length_reverse,hst];rfl
  have hiff:(l.open_.length=1)↔h3=ns.length:=by
   constructor
   ·intro h0
    have:rest=[]:=tA (by omega)
    subst this
    by_cases hz:(j:Int)-(h3:Int)<0
    ·omega
    ·obtain⟨_,_,_,_,hh,_⟩:=g4.pos (by omega)
     cases hh
   ·intro h0
    have:=g4.neg (by omega)
    rw [holen,this];rfl
  unfold fU j6
  conv=>arg 1;ext;arg 1;ext;arg 1;ext;arg 2;unfold c7
  rw [hw,hsz0,bg]
  by_cases ho:l.open_.length=1
  ·rw [aV (by simp [ho]),aV (by simp [hiff.1 ho])]
   unfold li
   rw [aV (by decide),wN l.kinds [] (fun k hk=>by have:=h.k.kinds k hk;omega) (by have:=h.k.len;simp;omega),mo]
   exact⟨_,_,_,rfl,.inl ⟨rfl,rfl,rfl,h.kd⟩⟩
  ·have hne: ¬h3=ns.length:=fun h=>ho (hiff.2 h)
   rw [bo (by simp;omega),bo (by simp;omega),pX l (by omega)]
   exact⟨_,_,_,rfl,.inr ⟨rfl,rfl,j,rfl⟩⟩
 |e::tl,i,l,hd,hle,h=>by
  obtain⟨hidx,hi,hd'⟩:=oQ hd
  rw [eK]at hidx
  obtain⟨ok,l',g1,g2,g3⟩:=ER h hs hidx tl
  unfold fU
  have g1' :dA l (i:Int) ((tL ((mL).getD []) e.Op).getD (fun _ _=>none))=some (ok,l'):=g1
  rw [g1',bg]
  cases ok with
  |false=>
   rw [bo (by rfl)]
   unfold j6
   rw [aV (by simp;omega),pX l' (by omega)]
   exact⟨_,_,_,rfl,.inr ⟨rfl,rfl,i,g3 rfl⟩⟩
  |true=>
   rw [aV (by simp),(g2 rfl).2]
   exact xU hs Y h60 tl (i+1) l' hd' (by omega) (g2 rfl).1
end
def Ll{ns:List aa}(hs:rC ns): ∃out w e,jI ns=some (out,w,e)/\((e=0/\w=0/\vY ns=some (out,-1)/\KOK ns out/\1<=ns.length/\ns.length<=60/\ ∀k∈out,Kd k)\/(e=291/\out=[]/\ ∃a:Nat,vY ns=some ([],(a:Int)))):=by
 obtain⟨out0,w0,e0,hK,hcase⟩:=D9 hs
 have hK' :=hK
 unfold jI at hK'
 unfold vY
 by_cases hc:((decide ((ns.length:Int)<(1:Int)))||(decide ((60:Int)<(ns.length:Int))))=true
 ·rw [bo hc]at hK' ⊢
  cases hK'
  exact⟨_,_,_,hK,.inr ⟨rfl,rfl,0,rfl⟩⟩
 ·rw [aV hc]at hK' ⊢
  simp at hc
  obtain⟨out,w,e,g1,g2⟩:=xU hs (by omega) (by omega) ns 0 ⟨ns,[],[],⟨0,0,0,0,[],false,⟨[]⟩,[],[],[],[],0⟩,[],[],[]⟩ rfl (oC _) ⟨⟨rfl,rfl,fun p hp=>(by cases hp),dY _,fun k hk=>(by cases hk),fun j hj=>by omega⟩,.nil,fun k hk=>by cases hk⟩
  have g1' :fU ns ((mL).getD []) ns 0 (-1) ⟨ns,[],[],⟨0,0,0,0,[],false,⟨[]⟩,[],[],[],[],0⟩,[],[],[]⟩=some (out0,w0,e0):=hK'
  rw [g1]at g1'
  cases g1'
  refine⟨_,_,_,hK,?_⟩
  rcases g2 with⟨q1,q2,q3,q4⟩|⟨q1,q2,q3⟩
  ·rcases hcase with⟨_,_,p3,p4,p5⟩|⟨p1,_⟩
   ·exact .inl ⟨q1,q2,q3,p3,p4,p5,q4⟩
   ·rw [q1]at p1;exact absurd p1 (by decide)
  ·exact .inr ⟨q1,q2,q3⟩
end Go.Proofs.YtdohlidddcgfjaaGreat

