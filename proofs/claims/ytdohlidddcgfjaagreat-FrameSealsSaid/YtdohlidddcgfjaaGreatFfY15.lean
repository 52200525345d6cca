/- bS of this claim: Y15. -/
import Derived.Test.YtdohlidddcgfjaaGreatFfY14
import Derived.Test.YtdohlidddcgfjaaGreatFfY6
set_option linter.all false
namespace Go.Proofs.YtdohlidddcgfjaaGreat
open Go

section
variable{ns:List aa}{l:al}{i:Nat}
def wp(l:al)(e:aa)(a b:List Int):al:={l with n:=e,a_:=a,b:=b}
def AV(ns:List aa)(e:aa)(i:Nat):Bool:=((e.Op==8)||(e.Op==10))&&((i:Int) !=IntKind.i64.wrap ((ns.length:Int)-(1:Int)))
def Mf(hn:l.nodes=ns){e:aa}{a b:List Int}{ok0:Bool}{R0:List Int}(hask:oe e.Op (wp l e a b) ()=some (ok0,{wp l e a b with result:=R0})){k:Nat}(hk:k<=l.open_.length)(hk2:k<=2)(ho:l.open_.length<=1000)(hkl:l.kinds.length<=1000)(i5:Nat):
  ∃l',bd l (i:Int) (oe e.Op) e (k:Int) [] i5 a b=some (!(AV ns e i)&&(ok0&&decide (R0.length<=16)),l')/\((!(AV ns e i)&&(ok0&&decide (R0.length<=16)))=true->l'.kinds=l.kinds++[R0]/\l'.open_=l.open_.take (l.open_.length-k)++[(i:Int)]):=by
 unfold bd
 show∃l',(if(((e.Op==(8:Int))||(e.Op==(10:Int)))&&((i:Int) !=(IntKind.i64.wrap ((l.nodes.length:Int)-(1:Int)))))then some (false,wp l e a b)else(oe e.Op (wp l e a b) ()).bind _)=_/\_
 have hroot:(((e.Op==(8:Int))||(e.Op==(10:Int)))&&((i:Int) !=(IntKind.i64.wrap ((ns.length:Int)-(1:Int)))))=AV ns e i:=rfl
 rw [hn,hroot]
 by_cases hr:AV ns e i=true
 ·rw [bh hr,hr]
  exact⟨_,rfl,fun h=>by cases h⟩
 ·have hr' :AV ns e i=false:=by simpa using hr
  rw [aQ hr,hask,bf,hr',AJ,nN]
  by_cases hc:((!ok0)||(decide ((16:Int)<(R0.length:Int))))=true
  ·have hc' :(ok0&&decide (R0.length<=16))=false:=by
    cases ok0 with
    |false=>rfl
    |true=>simp at hc ⊢;omega
   rw [bh hc,hc']
   exact⟨_,rfl,fun h=>by cases h⟩
  ·have hc' :(ok0&&decide (R0.length<=16))=true:=by
    cases ok0 with
    |false=>simp at hc
    |true=>simp at hc ⊢;omega
   rw [aQ hc,hc']
   show∃l',((app l.kinds [R0]).bind fun l1' =>(dQ l.open_ 0 (IntKind.i64.wrap ((l.open_.length:Int)-(k:Int)))).bind fun y2=>(app y2 [(i:Int)]).bind fun l2=>some (true,({({({wp l e a b with result:=R0}:al)with kinds:=l1' }:al)with open_:=l2}:al)))=_/\_
   rw [cD (by simp;omega),bf,eM (by omega) (by omega),iZ 0 (l.open_.length-k) (show(0:Int)=((0:Nat):Int)from rfl) (by omega) (by omega) (by omega),bf,cD (by simp;omega),bf,zF]
   exact⟨_,rfl,fun _=>⟨rfl,rfl⟩⟩
def If(e:aa)(r:Int)(p:Int)(tl:List Int)(i5:Nat)(a b:List Int)(h0:0<=p)(h:p<(l.kinds.length:Int))(ask:al->Unit->Option (Bool×al))(ik:Int):
  bd l ik ask e r (p::tl) i5 a b=if(!(e.Op==11)&&decide ((4:Int)∈kA l.kinds p))=true then some (false,wp l e a b)else if i5=0 then bd l ik ask e r tl (i5+1) (kA l.kinds p) b else bd l ik ask e r tl (i5+1) a (kA l.kinds p):=by
 have step:bd l ik ask e r (p::tl) i5 a b=(if(e.Op !=(11:Int))then((gn (kA l.kinds p) (4:Int)).bind fun r3=>some r3)else some false).bind fun t1=>
   if t1 then some (false,wp l e a b)
   else if((i5:Int)==(0:Int))then bd l ik ask e r tl (i5+1) (kA l.kinds p) b else bd l ik ask e r tl (i5+1) a (kA l.kinds p):=by
  conv=>lhs;unfold bd
  rw [ON h0 h,bf]
  rfl
 rw [step,xc]
 have:(if(e.Op !=(11:Int))then((some (decide ((4:Int)∈kA l.kinds p))).bind fun r3=>some r3)else some false)=some (!(e.Op==11)&&decide ((4:Int)∈kA l.kinds p)):=by
  by_cases h11:e.Op=11
  ·rw [aQ (by simp [h11]),show(e.Op==11)=true from by simp [h11]];rfl
  ·rw [bh (by simpa using h11),bf,show(e.Op==11)=false from by simpa using h11];rfl
 rw [this,bf]
 cases (!(e.Op==11)&&decide ((4:Int)∈kA l.kinds p))with
 |true=>rfl
 |false=>
  show(if((i5:Int)==(0:Int))then bd l ik ask e r tl (i5+1) (kA l.kinds p) b else bd l ik ask e r tl (i5+1) a (kA l.kinds p))=if i5=0 then bd l ik ask e r tl (i5+1) (kA l.kinds p) b else bd l ik ask e r tl (i5+1) a (kA l.kinds p)
  by_cases h5:i5=0
  ·rw [bh h5,bh (by simp [h5])]
  ·rw [aQ h5,aQ (by simp;omega)]
def GI(h:Jt ns l i)(hi:i<100)(hn:ns.length<=100){e:aa}(he:ns[i]? =some e)(hs:je e)(H: ¬(Ur e l.open_.reverse/\qV e=true)): ∃l',dm l (i:Int) (oe e.Op)=some (false,l'):=by
 have hol:=h.olen
 have hns:=h.nodes
 subst hns
 unfold dm
 rw [eU,he,bf,u7,bf]
 by_cases hc:(!((decide (prt e.Op<(0:Int)))||(decide ((l.open_.length:Int)<prt e.Op))))=true
 ·have hc' :0<=prt e.Op/\prt e.Op<=(l.open_.length:Int):=by simp at hc;omega
  rw [bh hc,Fx hs hc'.1,bf,bf]
  cases ho:qV e with
  |false=>rw [bh (by rfl)];exact⟨_,rfl⟩
  |true=>
   rw [aQ (by simp)]
   obtain⟨k,hk⟩:=Int.eq_ofNat_of_zero_le hc'.1
   have hk' :k<=l.open_.length:=by omega
   rw [hk,eM (by omega) (by omega),iZ (l.open_.length-k) l.open_.length (by omega) rfl (by omega) (by omega),bf,D0]
   by_cases hp:(pD ([(-1:Int),(-1:Int)]) (l.open_.drop (l.open_.length-k)))=([e.A,e.B])
   ·exfalso
    apply H
    refine⟨?_,ho⟩
    have hlen:(l.open_.drop (l.open_.length-k)).length=k:=by simp;omega
    have hrev:l.open_.reverse=(l.open_.drop (l.open_.length-k)).reverse++(l.open_.take (l.open_.length-k)).reverse:=by
     rw [<-List.reverse_append,sL]
    generalize hy:l.open_.drop (l.open_.length-k)=y at hlen hp hrev
    rw [hrev]
    have hk2:=vx e.Op
    match y,hlen,hp with
    |[],hlen,hp=>
     have hk0:k=0:=by simpa using hlen.symm
     have e1:([(-1:Int),(-1:Int)]:List Int)=[e.A,e.B]:=hp
     injection e1 with eA e2
     injection e2 with eB _
     exact .inl ⟨by omega,eA.symm,eB.symm⟩
    |[p],hlen,hp=>
     have hk0:k=1:=by simpa using hlen.symm
     have e1:([p,(-1:Int)]:List Int)=[e.A,e.B]:=hp
     injection e1 with eA e2
     injection e2 with eB _
     exact .inr (.inl ⟨by omega,eB.symm,_,by rw [<-eA];rfl⟩)
    |[p,q],hlen,hp=>
     have hk0:k=2:=by simpa using hlen.symm
     have e1:([p,q]:List Int)=[e.A,e.B]:=hp
     injection e1 with eA e2
     injection e2 with eB _
     exact .inr (.inr ⟨by omega,_,by rw [<-eA,<-eB];rfl⟩)
    |_::_::_::_,hlen,_=>simp at hlen;omega
   ·rw [bh (by simp [hp])]
    exact⟨_,rfl⟩
 ·rw [aQ hc,bf,bh rfl]
  exact⟨_,rfl⟩
def Ei(h:Jt ns l i)(hi:i<100)(hn:ns.length<=100){e:aa}(he:ns[i]? =some e)(hs:je e)(hp:Ur e l.open_.reverse)(ho:qV e=true){ok0:Bool}{R0:List Int}(hask:oe e.Op (wp l e (kA l.kinds e.A) (kA l.kinds e.B)) ()=some (ok0,{wp l e (kA l.kinds e.A) (kA l.kinds e.B)with result:=R0})):
  ∃l',dm l (i:Int) (oe e.Op)=some (kS e (kA l.kinds e.A) (kA l.kinds e.B)&&(!(AV ns e i)&&(ok0&&decide (R0.length<=16))),l')/\((kS e (kA l.kinds e.A) (kA l.kinds e.B)&&(!(AV ns e i)&&(ok0&&decide (R0.length<=16))))=true->l'.kinds=l.kinds++[R0]/\l'.open_.reverse=(i:Int)::l.open_.reverse.drop (prt e.Op).toNat):=by
 have hol:=h.olen
 have hkl:=h.len
 have hopen:=h.open_
 have hnodes:=h.nodes
 have hrev: ∀k,k<=l.open_.length->(l.open_.take (l.open_.length-k)++[(i:Int)]).reverse=(i:Int)::l.open_.reverse.drop k:=fun k hk=>by
  rw [List.reverse_append,List.drop_reverse];rfl
 -- what is popped
 have pop: ∀(k:Nat) (y:List Int),prt e.Op=(k:Int)->k<=l.open_.length->k<=2->l.open_.drop (l.open_.length-k)=y->pD ([(-1:Int),(-1:Int)]) y=[e.A,e.B]->dm l (i:Int) (oe e.Op)=bd l (i:Int) (oe e.Op) e (k:Int) y 0 [] []:=by
  intro k y hk hkl' hk2 hy hc
  unfold dm
  rw [eU,hnodes,he,bf,u7,bf,bh (by simp;omega),Fx hs (by omega),bf,ho,bf,aQ (by simp),hk,eM (by omega) (by omega),iZ (l.open_.length-k) l.open_.length (by omega) rfl (by omega) (by omega),bf,D0,hy,aQ (by simp [hc]),bf]
 rcases hp with⟨hp,hA,hB⟩|⟨hp,hB,rest,hst⟩|⟨hp,rest,hst⟩
 ·rw [pop 0 [] hp (by omega) (by omega) (by simp) (by rw [hA,hB];rfl)]
  rw [hA,hB,Cj]at hask ⊢
  have hs1:kS e [] []=true:=by unfold kS;simp
  rw [hs1,nN]
  obtain⟨l',g1,g2⟩:=Mf (i:=i) hnodes hask (k:=0) (by omega) (by omega) (by omega) (by omega) 0
  refine⟨l',g1,fun hh=>⟨(g2 hh).1,?_⟩⟩
  rw [(g2 hh).2,hp]
  exact hrev 0 (by omega)
 ·have hl:l.open_=rest.reverse++[e.A]:=by rw [<-List.reverse_reverse l.open_,hst];simp
  have hlen:l.open_.length=rest.length+1:=by rw [hl];simp
  have hAm:=hopen e.A (by rw [hl];simp)
  rw [pop 1 [e.A] hp (by omega) (by omega) (by rw [hl];simp) (by rw [hB];rfl),If e _ e.A [] 0 [] [] hAm.1 (by omega)]
  rw [hB,Cj]at hask ⊢
  have hs1:kS e (kA l.kinds e.A) []= !(!(e.Op==11)&&decide ((4:Int)∈kA l.kinds e.A)):=by unfold kS;cases (e.Op==11)<;>simp
  rw [hs1]
  cases H:(!(e.Op==11)&&decide ((4:Int)∈kA l.kinds e.A))with
  |true=>rw [bh rfl];exact⟨_,rfl,fun h=>by cases h⟩
  |false=>
   rw [aQ (by simp),bh rfl,AJ,nN]
   obtain⟨l',g1,g2⟩:=Mf (i:=i) hnodes hask (k:=1) (by omega) (by omega) (by omega) (by omega) 1
   refine⟨l',g1,fun hh=>⟨(g2 hh).1,?_⟩⟩
   rw [(g2 hh).2,hp]
   exact hrev 1 (by omega)
 ·have hl:l.open_=rest.reverse++[e.A,e.B]:=by rw [<-List.reverse_reverse l.open_,hst];simp
  have hlen:l.open_.length=rest.length+2:=by rw [hl];simp
  have hAm:=hopen e.A (by rw [hl];simp)
  have hBm:=hopen e.B (by rw [hl];simp)
  rw [pop 2 [e.A,e.B] hp (by omega) (by omega) (by rw [hl];simp) (by rfl),If e _ e.A [e.B] 0 [] [] hAm.1 (by omega)]
  have hs1:kS e (kA l.kinds e.A) (kA l.kinds e.B)=(!(!(e.Op==11)&&decide ((4:Int)∈kA l.kinds e.A))&& !(!(e.Op==11)&&decide ((4:Int)∈kA l.kinds e.B))):=by unfold kS;cases (e.Op==11)<;>simp
  rw [hs1]
  cases H:(!(e.Op==11)&&decide ((4:Int)∈kA l.kinds e.A))with
  |true=>rw [bh rfl];exact⟨_,rfl,fun h=>by cases h⟩
  |false=>
   rw [aQ (by simp),bh rfl,If e _ e.B [] (0+1) _ [] hBm.1 (by omega)]
   cases hb2:(!(e.Op==11)&&decide ((4:Int)∈kA l.kinds e.B))with
   |true=>rw [bh rfl];exact⟨_,rfl,fun h=>by cases h⟩
   |false=>
    rw [aQ (by simp),aQ (by omega),AJ,nN,nN]
    obtain⟨l',g1,g2⟩:=Mf (i:=i) hnodes hask (k:=2) (by omega) (by omega) (by omega) (by omega) (0+1+1)
    refine⟨l',g1,fun hh=>⟨(g2 hh).1,?_⟩⟩
    rw [(g2 hh).2,hp]
    exact hrev 2 (by omega)
structure Q4(ns:List aa)(l:al)(i:Nat):Prop where
 k:Jt ns l i
 stk:Ro ns l.open_.reverse ((i:Int)-1)
 kd: ∀k∈l.kinds,Kd k
def WX{hg:List (List Int)}(h: ∀k∈hg,Kd k){p:Int}(h0:0<=p)(hp:p<(hg.length:Int)):Kd (kA hg p):=by
 unfold kA
 rw [aQ (by omega),sH (by omega)]
 exact h _ (CL _)
def B6(h:Q4 ns l i)(hs:mz ns){e:aa}(he:ns[i]? =some e)(tl:List aa): ∃ok l',dm l (i:Int) (oe e.Op)=some (ok,l')/\(ok=true->Q4 ns l' (i+1)/\dl ns (e::tl) i l.kinds=dl ns tl (i+1) l'.kinds)/\(ok=false->dl ns (e::tl) i l.kinds=some ([],(i:Int))):=by
 have hi:=(sy.1 he).1
 have h90:=hs.len
 have hse:=hs.n e (tu he)
 obtain⟨ae,hsz,hcase⟩:=PX h.stk he (by omega)
 have hsz0:wg ns (i:Int)=some (ae:Int):=hsz fq (xu (BY _) (nZ (by omega)))
 have hkl:=h.k.len
 have hopen:=h.k.open_
 by_cases K:Ur e l.open_.reverse/\qV e=true
 ·obtain⟨hp,ho⟩:=K
  obtain⟨hs1,hs2,_,hstk⟩:1<=ae/\ae<=i+1/\Ur e l.open_.reverse/\Ro ns ((i:Int)::l.open_.reverse.drop (prt e.Op).toNat) (i:Int):=by
   rcases hcase with⟨_,hc⟩|hc
   ·exact absurd hp hc
   ·exact hc
  have hprt:0<=prt e.Op:=by rcases hp with h|h|h<;>omega
  have hA1:prt e.Op≠0->0<=e.A/\e.A<(i:Int):=fun hne=>by
   rcases hp with h|⟨_,_,r,hr⟩|⟨_,r,hr⟩
   ·exact absurd h.1 hne
   ·exact hopen e.A (JA.1 (by rw [hr];simp))
   ·exact hopen e.A (JA.1 (by rw [hr];simp))
  have hB1:prt e.Op=2->0<=e.B/\e.B<(i:Int):=fun X=>by
   rcases hp with h|h|⟨_,r,hr⟩
   ·omega
   ·omega
   ·exact hopen e.B (JA.1 (by rw [hr];simp))
  have hpl:(prt e.Op=0->e.A= -1)/\(prt e.Op≠2->e.B= -1):=by
   rcases hp with h|h|h
   ·exact⟨fun _=>h.2.1,fun _=>h.2.2⟩
   ·exact⟨fun h' =>by omega,fun _=>h.2.1⟩
   ·exact⟨fun h' =>by omega,fun h' =>absurd h.1 h'⟩
  have hKa:prt e.Op≠0->Kd (kA l.kinds e.A):=fun hne=>WX h.kd (hA1 hne).1 (by have:=(hA1 hne).2;omega)
  have hKb:prt e.Op=2->Kd (kA l.kinds e.B):=fun X=>WX h.kd (hB1 X).1 (by have:=(hB1 X).2;omega)
  have hna:prt e.Op=0->kA l.kinds e.A=[]:=fun h0=>by rw [hpl.1 h0,Cj]
  have hnb:prt e.Op≠2->kA l.kinds e.B=[]:=fun h0=>by rw [hpl.2 h0,Cj]
  have hlb:Lb (wp l e (kA l.kinds e.A) (kA l.kinds e.B)):=⟨hse,Ck h.k.kinds _,Ck h.k.kinds _⟩
  -- the document's step
  have href:dl ns (e::tl) i l.kinds=d9 ns (dl ns tl) i e l.kinds (lu e (kA l.kinds e.A) (kA l.kinds e.B)):=by
   conv=>lhs;unfold dl
   rw [hsz0,bf,bh (by simp;omega),AY,ho,bf,bf,bh rfl]
   unfold lu
   by_cases h0:prt e.Op=0
   ·rw [aQ (by rw [hpl.1 h0];decide),bh h0]
    unfold qR
    rw [aQ (by rw [hpl.2 (by omega)];decide)]
   ·have hA:=hA1 h0
    rw [bh (by simpa using hA.1),aQ h0,ON hA.1 (by omega),bf,cD (by simp),bf,mh]
    unfold qR
    by_cases X:prt e.Op=2
    ·have hB:=hB1 X
     rw [bh (by simpa using hB.1),aQ (by omega),ON hB.1 (by omega),bf,cD (by simp),bf]
     rfl
    ·rw [aQ (by rw [hpl.2 X];decide),bh (by have:=vx e.Op;omega)]
  have hK3:CC (wp l e (kA l.kinds e.A) (kA l.kinds e.B)) (dl ns tl) i l.kinds:=by
   rcases yO hprt with h8|h9|h10|h11
   ·exact Ys hlb h8 ((Ov h8).symm.trans ho) (fun h0=>⟨hpl.1 h0,hpl.2 (by show prt e.Op≠2;have h0' :prt e.Op=0:=h0;omega),hna h0,hnb (by have h0' :prt e.Op=0:=h0;omega)⟩) (fun Y=>⟨hpl.2 (by have h0' :prt e.Op=1:=Y;omega),hKa (by have h0' :prt e.Op=1:=Y;omega),hnb (by have h0' :prt e.Op=1:=Y;omega)⟩) (fun X=>⟨hKa (by have h0' :prt e.Op=2:=X;omega),hKb X⟩)
   ·have h0:prt e.Op=0:=by rw [h9];rfl
    exact S4 h9 (hna h0) (hnb (by omega))
   ·have Y:prt e.Op=1:=by rw [h10];rfl
    exact MY hlb h10 ((Ou (n:=e) (.inl h10)).symm.trans ho) (hpl.2 (by omega)) (hKa (by omega)) (hnb (by omega))
   ·have Y:prt e.Op=1:=by rw [h11];rfl
    have hA:=hA1 (by omega)
    refine S5 hlb h11 (hKa (by omega)) (e:=ns[e.A.toNat]'(by omega)) ?_
    show gV l.nodes e.A=_
    rw [h.k.nodes,lZ e.A.toNat (by omega),sH (by omega)]
  obtain⟨ok0,R0,k,o,g1,g2,g3,g4⟩:=hK3
  have g1' :oe e.Op (wp l e (kA l.kinds e.A) (kA l.kinds e.B)) ()=some (ok0,{wp l e (kA l.kinds e.A) (kA l.kinds e.B)with result:=R0}):=g1
  have g2' :d9 ns (dl ns tl) i e l.kinds (lu e (kA l.kinds e.A) (kA l.kinds e.B))=dx ns (dl ns tl) i e l.kinds o k:=by
   have:d9 l.nodes (dl ns tl) i e l.kinds (lu e (kA l.kinds e.A) (kA l.kinds e.B))=dx l.nodes (dl ns tl) i e l.kinds o k:=g2
   rw [h.k.nodes]at this
   exact this
  have g3' :o=(kS e (kA l.kinds e.A) (kA l.kinds e.B)&&(ok0&&decide (R0.length<=16))):=g3
  obtain⟨l',t1,t2⟩:=Ei h.k (by omega) (by omega) he hse hp ho g1'
  obtain⟨ok2,l2,q1,_,q3⟩:=JZ h.k (by omega) (by omega) he hse
  rw [t1]at q1
  cases q1
  rw [href,g2']
  have hroot:(((e.Op==(8:Int))||(e.Op==(10:Int)))&&((i:Int) !=(IntKind.i64.wrap ((ns.length:Int)-(1:Int)))))=AV ns e i:=rfl
  refine⟨_,l',t1,fun hok=>?_,fun hok=>?_⟩
  ·obtain⟨u1,u2⟩:=t2 hok
   simp only [ly,Df]at hok
   have ho1:o=true:=by rw [g3',hok.1,hok.2.2.1];simpa using hok.2.2.2
   obtain⟨v1,v2⟩:=g4 ho1
   have v1' :k=R0:=v1
   refine⟨⟨q3 (by simp only [ly,Df];exact hok),?_,fun x V=>?_⟩,?_⟩
   ·have:(((i+1:Nat):Int)-1)=(i:Int):=by omega
    rw [u2,this]
    exact hstk
   ·rw [u1]at V
    rcases ui.1 V with V|V
    ·exact h.kd x V
    ·rw [uk.1 V];exact v2
   ·unfold dx
    rw [hroot,hok.2.1,ho1,aQ (by simp),cD (by simp;omega),bf,u1,v1']
  ·unfold dx
   rw [hroot,bh]
   rw [g3']
   cases Y:kS e (kA l.kinds e.A) (kA l.kinds e.B)with
   |false=>rfl
   |true=>
    rw [Y,nN]at hok
    cases X:AV ns e i with
    |true=>simp
    |false=>
     rw [X,AJ,nN]at hok
     rw [hok];rfl
 ·obtain⟨l',t1⟩:=GI h.k (by omega) (by omega) he hse K
  refine⟨false,l',t1,fun h=>(by cases h),fun _=>?_⟩
  conv=>lhs;unfold dl
  rw [hsz0,bf]
  have:(if(decide ((0:Int)<(ae:Int)))then((pd e).bind fun r2=>some r2)else some false)=some false:=by
   by_cases h0:0<ae
   ·rw [bh (by simpa using h0),AY,bf]
    rcases hcase with⟨hz,_⟩|⟨_,_,hp,_⟩
    ·omega
    ·cases ho:qV e with
     |false=>rfl
     |true=>exact absurd ⟨hp,ho⟩ K
   ·rw [aQ (by simpa using h0)]
  rw [this,bf,aQ (by simp)]
  unfold dx
  rw [bh (by rfl)]
def zE(hs:mz ns)(Y:1<=ns.length)(h60:ns.length<=60): ∀(tl:List aa) (i:Nat) (l:al),ns.drop i=tl->i<=ns.length->Q4 ns l i->
  ∃out w e,fh ns ((lE).getD []) tl i (-1) l=some (out,w,e)/\((e=0/\w=0/\dl ns tl i l.kinds=some (out,-1)/\ ∀k∈out,Kd k)\/(e=291/\out=[]/\ ∃a:Nat,dl ns tl i l.kinds=some ([],(a:Int))))
 |[],i,l,hd,hle,h=>by
  have hlen:ns.length<=i:=Fo hd
  have hi:i=ns.length:=by omega
  obtain⟨j,ae,rest,hj,hst,g1,g2,g3,g4⟩:=h.stk.pos (by omega)
  have hjl:j=ns.length-1:=by omega
  have hsz0:wg ns (j:Int)=some (ae:Int):=g1 fq (xu (BY _) (nZ (by omega)))
  have hw:IntKind.i64.wrap ((ns.length:Int)-(1:Int))=(j:Int):=by rw [eM (by omega) (by omega)];omega
  have holen:l.open_.length=rest.length+1:=by rw [<-List.length_reverse,hst];rfl
  have hiff:(l.open_.length=1)↔ae=ns.length:=by
   constructor
   ·intro h0
    have:rest=[]:=sd (by omega)
    subst this
    by_cases hz:(j:Int)-(ae:Int)<0
    ·omega
    ·obtain⟨_,_,_,_,hh,_⟩:=g4.pos (by omega)
     cases hh
   ·intro h0
    have:=g4.neg (by omega)
    rw [holen,this];rfl
  unfold fh jJ
  conv=>arg 1;ext;arg 1;ext;arg 1;ext;arg 2;unfold dl
  rw [hw,hsz0,bf]
  by_cases ho:l.open_.length=1
  ·rw [aQ (by simp [ho]),aQ (by simp [hiff.1 ho])]
   unfold lY
   rw [aQ (by decide),yB l.kinds [] (fun k hk=>by have:=h.k.kinds k hk;omega) (by have:=h.k.len;simp;omega),mh]
   exact⟨_,_,_,rfl,.inl ⟨rfl,rfl,rfl,h.kd⟩⟩
  ·have hne: ¬ae=ns.length:=fun h=>ho (hiff.2 h)
   rw [bh (by simp;omega),bh (by simp;omega),pB l (by omega)]
   exact⟨_,_,_,rfl,.inr ⟨rfl,rfl,j,rfl⟩⟩
 |e::tl,i,l,hd,hle,h=>by
  obtain⟨hidx,hi,hd'⟩:=pz hd
  rw [eU]at hidx
  obtain⟨ok,l',g1,g2,g3⟩:=B6 h hs hidx tl
  unfold fh
  have g1' :dm l (i:Int) ((uo ((lE).getD []) e.Op).getD (fun _ _=>none))=some (ok,l'):=g1
  rw [g1',bf]
  cases ok with
  |false=>
   rw [bh (by rfl)]
   unfold jJ
   rw [aQ (by simp;omega),pB l' (by omega)]
   exact⟨_,_,_,rfl,.inr ⟨rfl,rfl,i,g3 rfl⟩⟩
  |true=>
   rw [aQ (by simp),(g2 rfl).2]
   exact zE hs Y h60 tl (i+1) l' hd' (by omega) (g2 rfl).1
end
def NL{ns:List aa}(hs:mz ns): ∃out w e,iM ns=some (out,w,e)/\((e=0/\w=0/\sj ns=some (out,-1)/\KOK ns out/\1<=ns.length/\ns.length<=60/\ ∀k∈out,Kd k)\/(e=291/\out=[]/\ ∃a:Nat,sj ns=some ([],(a:Int)))):=by
 obtain⟨out0,w0,e0,hK,hcase⟩:=F5 hs
 have hK' :=hK
 unfold iM at hK'
 unfold sj
 by_cases hc:((decide ((ns.length:Int)<(1:Int)))||(decide ((60:Int)<(ns.length:Int))))=true
 ·rw [bh hc]at hK' ⊢
  cases hK'
  exact⟨_,_,_,hK,.inr ⟨rfl,rfl,0,rfl⟩⟩
 ·rw [aQ hc]at hK' ⊢
  simp at hc
  obtain⟨out,w,e,g1,g2⟩:=zE hs (by omega) (by omega) ns 0 ⟨ns,[],[],⟨0,0,0,0,[],false,⟨[]⟩,[],[],[],[],0⟩,[],[],[]⟩ rfl (pL _) ⟨⟨rfl,rfl,fun p hp=>(by cases hp),eo _,fun k hk=>(by cases hk),fun j hj=>by omega⟩,.nil,fun k hk=>by cases hk⟩
  have g1' :fh ns ((lE).getD []) ns 0 (-1) ⟨ns,[],[],⟨0,0,0,0,[],false,⟨[]⟩,[],[],[],[],0⟩,[],[],[]⟩=some (out0,w0,e0):=hK'
  rw [g1]at g1'
  cases g1'
  refine⟨_,_,_,hK,?_⟩
  rcases g2 with⟨q1,q2,q3,q4⟩|⟨q1,q2,q3⟩
  ·rcases hcase with⟨_,_,p3,p4,p5⟩|⟨p1,_⟩
   ·exact .inl ⟨q1,q2,q3,p3,p4,p5,q4⟩
   ·rw [q1]at p1;exact absurd p1 (by decide)
  ·exact .inr ⟨q1,q2,q3⟩
end Go.Proofs.YtdohlidddcgfjaaGreat

