/- cE of this claim: Y15. -/
import Derived.Test.YtdohlidddcgfjaaGreatFcY14
import Derived.Test.YtdohlidddcgfjaaGreatFcY6
set_option linter.all false
namespace Go.Proofs.YtdohlidddcgfjaaGreat
open Go

section
variable{ns:List tV}{l:aq}{i:Nat}
def w6(l:aq)(e:tV)(a b:List Int):aq:={l with n:=e,a_:=a,b:=b}
def A4(ns:List tV)(e:tV)(i:Nat):Bool:=((e.Op==8)||(e.Op==10))&&((i:Int) !=IntKind.i64.wrap ((ns.length:Int)-(1:Int)))
def Lj(hn:l.nodes=ns){e:tV}{a b:List Int}{ok0:Bool}{R0:List Int}(hask:px e.Op (w6 l e a b) ()=some (ok0,{w6 l e a b with result:=R0})){k:Nat}(hk:k<=l.open_.length)(hk2:k<=2)(ho:l.open_.length<=1000)(hkl:l.kinds.length<=1000)(i5:Nat):
  ∃l',bw l (i:Int) (px e.Op) e (k:Int) [] i5 a b=some (!(A4 ns e i)&&(ok0&&decide (R0.length<=16)),l')/\((!(A4 ns e i)&&(ok0&&decide (R0.length<=16)))=true->l'.kinds=l.kinds++[R0]/\l'.open_=l.open_.take (l.open_.length-k)++[(i:Int)]):=by
 unfold bw
 show∃l',(if(((e.Op==(8:Int))||(e.Op==(10:Int)))&&((i:Int) !=(IntKind.i64.wrap ((l.nodes.length:Int)-(1:Int)))))then some (false,w6 l e a b)else(px e.Op (w6 l e a b) ()).bind _)=_/\_
 have hroot:(((e.Op==(8:Int))||(e.Op==(10:Int)))&&((i:Int) !=(IntKind.i64.wrap ((ns.length:Int)-(1:Int)))))=A4 ns e i:=rfl
 rw [hn,hroot]
 by_cases hr:A4 ns e i=true
 ·rw [bJ hr,hr]
  exact⟨_,rfl,fun h=>by cases h⟩
 ·have hr' :A4 ns e i=false:=by simpa using hr
  rw [bk hr,hask,bG,hr',AU,oX]
  by_cases hc:((!ok0)||(decide ((16:Int)<(R0.length:Int))))=true
  ·have hc' :(ok0&&decide (R0.length<=16))=false:=by
    cases ok0 with
    |false=>rfl
    |true=>simp at hc ⊢;omega
   rw [bJ hc,hc']
   exact⟨_,rfl,fun h=>by cases h⟩
  ·have hc' :(ok0&&decide (R0.length<=16))=true:=by
    cases ok0 with
    |false=>simp at hc
    |true=>simp at hc ⊢;omega
   rw [bk hc,hc']
   show∃l',((app l.kinds [R0]).bind fun l1' =>(eX l.open_ 0 (IntKind.i64.wrap ((l.open_.length:Int)-(k:Int)))).bind fun y2=>(app y2 [(i:Int)]).bind fun l2=>some (true,({({({w6 l e a b with result:=R0}:aq)with kinds:=l1' }:aq)with open_:=l2}:aq)))=_/\_
   rw [cd (by simp;omega),bG,fg (by omega) (by omega),lB 0 (l.open_.length-k) (show(0:Int)=((0:Nat):Int)from rfl) (by omega) (by omega) (by omega),bG,cd (by simp;omega),bG,zr]
   exact⟨_,rfl,fun _=>⟨rfl,rfl⟩⟩
def HJ(e:tV)(r:Int)(p:Int)(tl:List Int)(i5:Nat)(a b:List Int)(h0:0<=p)(h:p<(l.kinds.length:Int))(ask:aq->Unit->Option (Bool×aq))(ik:Int):
  bw l ik ask e r (p::tl) i5 a b=if(!(e.Op==11)&&decide ((4:Int)∈kA l.kinds p))=true then some (false,w6 l e a b)else if i5=0 then bw l ik ask e r tl (i5+1) (kA l.kinds p) b else bw l ik ask e r tl (i5+1) a (kA l.kinds p):=by
 have step:bw l ik ask e r (p::tl) i5 a b=(if(e.Op !=(11:Int))then((gR (kA l.kinds p) (4:Int)).bind fun r3=>some r3)else some false).bind fun t1=>
   if t1 then some (false,w6 l e a b)
   else if((i5:Int)==(0:Int))then bw l ik ask e r tl (i5+1) (kA l.kinds p) b else bw l ik ask e r tl (i5+1) a (kA l.kinds p):=by
  conv=>lhs;unfold bw
  rw [Np h0 h,bG]
  rfl
 rw [step,xA]
 have:(if(e.Op !=(11:Int))then((some (decide ((4:Int)∈kA l.kinds p))).bind fun r3=>some r3)else some false)=some (!(e.Op==11)&&decide ((4:Int)∈kA l.kinds p)):=by
  by_cases h11:e.Op=11
  ·rw [bk (by simp [h11]),show(e.Op==11)=true from by simp [h11]];rfl
  ·rw [bJ (by simpa using h11),bG,show(e.Op==11)=false from by simpa using h11];rfl
 rw [this,bG]
 cases (!(e.Op==11)&&decide ((4:Int)∈kA l.kinds p))with
 |true=>rfl
 |false=>
  show(if((i5:Int)==(0:Int))then bw l ik ask e r tl (i5+1) (kA l.kinds p) b else bw l ik ask e r tl (i5+1) a (kA l.kinds p))=if i5=0 then bw l ik ask e r tl (i5+1) (kA l.kinds p) b else bw l ik ask e r tl (i5+1) a (kA l.kinds p)
  by_cases h5:i5=0
  ·rw [bJ h5,bJ (by simp [h5])]
  ·rw [bk h5,bk (by simp;omega)]
def Gw(h:IU ns l i)(hi:i<100)(hn:ns.length<=100){e:tV}(he:ns[i]? =some e)(hs:jJ e)(H: ¬(SR e l.open_.reverse/\rP e=true)): ∃l',dC l (i:Int) (px e.Op)=some (false,l'):=by
 have hol:=h.olen
 have hns:=h.nodes
 subst hns
 unfold dC
 rw [eu,he,bG,vK,bG]
 by_cases hc:(!((decide (prt e.Op<(0:Int)))||(decide ((l.open_.length:Int)<prt e.Op))))=true
 ·have hc' :0<=prt e.Op/\prt e.Op<=(l.open_.length:Int):=by simp at hc;omega
  rw [bJ hc,Fm hs hc'.1,bG,bG]
  cases ho:rP e with
  |false=>rw [bJ (by rfl)];exact⟨_,rfl⟩
  |true=>
   rw [bk (by simp)]
   obtain⟨k,hk⟩:=Int.eq_ofNat_of_zero_le hc'.1
   have hk' :k<=l.open_.length:=by omega
   rw [hk,fg (by omega) (by omega),lB (l.open_.length-k) l.open_.length (by omega) rfl (by omega) (by omega),bG,DF]
   by_cases hp:(qx ([(-1:Int),(-1:Int)]) (l.open_.drop (l.open_.length-k)))=([e.A,e.B])
   ·exfalso
    apply H
    refine⟨?_,ho⟩
    have hlen:(l.open_.drop (l.open_.length-k)).length=k:=by simp;omega
    have hrev:l.open_.reverse=(l.open_.drop (l.open_.length-k)).reverse++(l.open_.take (l.open_.length-k)).reverse:=by
     rw [<-List.reverse_append,ui]
    generalize hy:l.open_.drop (l.open_.length-k)=y at hlen hp hrev
    rw [hrev]
    have hk2:=wh e.Op
    match y,hlen,hp with
    |[],hlen,hp=>
     have hk0:k=0:=by simpa using hlen.symm
     have e1:([(-1:Int),(-1:Int)]:List Int)=[e.A,e.B]:=hp
     injection e1 with eA e2
     injection e2 with eB _
     exact .inl ⟨by omega,eA.symm,eB.symm⟩
    |[p],hlen,hp=>
     have hk0:k=1:=by simpa using hlen.symm
     have e1:([p,(-1:Int)]:List Int)=[e.A,e.B]:=hp
     injection e1 with eA e2
     injection e2 with eB _
     exact .inr (.inl ⟨by omega,eB.symm,_,by rw [<-eA];rfl⟩)
    |[p,q],hlen,hp=>
     have hk0:k=2:=by simpa using hlen.symm
     have e1:([p,q]:List Int)=[e.A,e.B]:=hp
     injection e1 with eA e2
     injection e2 with eB _
     exact .inr (.inr ⟨by omega,_,by rw [<-eA,<-eB];rfl⟩)
    |_::_::_::_,hlen,_=>simp at hlen;omega
   ·rw [bJ (by simp [hp])]
    exact⟨_,rfl⟩
 ·rw [bk hc,bG,bJ rfl]
  exact⟨_,rfl⟩
def D6(h:IU ns l i)(hi:i<100)(hn:ns.length<=100){e:tV}(he:ns[i]? =some e)(hs:jJ e)(hp:SR e l.open_.reverse)(ho:rP e=true){ok0:Bool}{R0:List Int}(hask:px e.Op (w6 l e (kA l.kinds e.A) (kA l.kinds e.B)) ()=some (ok0,{w6 l e (kA l.kinds e.A) (kA l.kinds e.B)with result:=R0})):
  ∃l',dC l (i:Int) (px e.Op)=some (lw e (kA l.kinds e.A) (kA l.kinds e.B)&&(!(A4 ns e i)&&(ok0&&decide (R0.length<=16))),l')/\((lw e (kA l.kinds e.A) (kA l.kinds e.B)&&(!(A4 ns e i)&&(ok0&&decide (R0.length<=16))))=true->l'.kinds=l.kinds++[R0]/\l'.open_.reverse=(i:Int)::l.open_.reverse.drop (prt e.Op).toNat):=by
 have hol:=h.olen
 have hkl:=h.len
 have hopen:=h.open_
 have hnodes:=h.nodes
 have hrev: ∀k,k<=l.open_.length->(l.open_.take (l.open_.length-k)++[(i:Int)]).reverse=(i:Int)::l.open_.reverse.drop k:=fun k hk=>by
  rw [List.reverse_append,List.drop_reverse];rfl
 -- what is popped
 have pop: ∀(k:Nat) (y:List Int),prt e.Op=(k:Int)->k<=l.open_.length->k<=2->l.open_.drop (l.open_.length-k)=y->qx ([(-1:Int),(-1:Int)]) y=[e.A,e.B]->dC l (i:Int) (px e.Op)=bw l (i:Int) (px e.Op) e (k:Int) y 0 [] []:=by
  intro k y hk hkl' hk2 hy hc
  unfold dC
  rw [eu,hnodes,he,bG,vK,bG,bJ (by simp;omega),Fm hs (by omega),bG,ho,bG,bk (by simp),hk,fg (by omega) (by omega),lB (l.open_.length-k) l.open_.length (by omega) rfl (by omega) (by omega),bG,DF,hy,bk (by simp [hc]),bG]
 rcases hp with⟨hp,hA,hB⟩|⟨hp,hB,rest,hst⟩|⟨hp,rest,hst⟩
 ·rw [pop 0 [] hp (by omega) (by omega) (by simp) (by rw [hA,hB];rfl)]
  rw [hA,hB,Ck]at hask ⊢
  have hs1:lw e [] []=true:=by unfold lw;simp
  rw [hs1,oX]
  obtain⟨l',g1,g2⟩:=Lj (i:=i) hnodes hask (k:=0) (by omega) (by omega) (by omega) (by omega) 0
  refine⟨l',g1,fun hh=>⟨(g2 hh).1,?_⟩⟩
  rw [(g2 hh).2,hp]
  exact hrev 0 (by omega)
 ·have hl:l.open_=rest.reverse++[e.A]:=by rw [<-List.reverse_reverse l.open_,hst];simp
  have hlen:l.open_.length=rest.length+1:=by rw [hl];simp
  have hAm:=hopen e.A (by rw [hl];simp)
  rw [pop 1 [e.A] hp (by omega) (by omega) (by rw [hl];simp) (by rw [hB];rfl),HJ e _ e.A [] 0 [] [] hAm.1 (by omega)]
  rw [hB,Ck]at hask ⊢
  have hs1:lw e (kA l.kinds e.A) []= !(!(e.Op==11)&&decide ((4:Int)∈kA l.kinds e.A)):=by unfold lw;cases (e.Op==11)<;>simp
  rw [hs1]
  cases H:(!(e.Op==11)&&decide ((4:Int)∈kA l.kinds e.A))with
  |true=>rw [bJ rfl];exact⟨_,rfl,fun h=>by cases h⟩
  |false=>
   rw [bk (by simp),bJ rfl,AU,oX]
   obtain⟨l',g1,g2⟩:=Lj (i:=i) hnodes hask (k:=1) (by omega) (by omega) (by omega) (by omega) 1
   refine⟨l',g1,fun hh=>⟨(g2 hh).1,?_⟩⟩
   rw [(g2 hh).2,hp]
   exact hrev 1 (by omega)
 ·have hl:l.open_=rest.reverse++[e.A,e.B]:=by rw [<-List.reverse_reverse l.open_,hst];simp
  have hlen:l.open_.length=rest.length+2:=by rw [hl];simp
  have hAm:=hopen e.A (by rw [hl];simp)
  have hBm:=hopen e.B (by rw [hl];simp)
  rw [pop 2 [e.A,e.B] hp (by omega) (by omega) (by rw [hl];simp) (by rfl),HJ e _ e.A [e.B] 0 [] [] hAm.1 (by omega)]
  have hs1:lw e (kA l.kinds e.A) (kA l.kinds e.B)=(!(!(e.Op==11)&&decide ((4:Int)∈kA l.kinds e.A))&& !(!(e.Op==11)&&decide ((4:Int)∈kA l.kinds e.B))):=by unfold lw;cases (e.Op==11)<;>simp
  rw [hs1]
  cases H:(!(e.Op==11)&&decide ((4:Int)∈kA l.kinds e.A))with
  |true=>rw [bJ rfl];exact⟨_,rfl,fun h=>by cases h⟩
  |false=>
   rw [bk (by simp),bJ rfl,HJ e _ e.B [] (0+1) _ [] hBm.1 (by omega)]
   cases hb2:(!(e.Op==11)&&decide ((4:Int)∈kA l.kinds e.B))with
   |true=>rw [bJ rfl];exact⟨_,rfl,fun h=>by cases h⟩
   |false=>
    rw [bk (by simp),bk (by omega),AU,oX,oX]
    obtain⟨l',g1,g2⟩:=Lj (i:=i) hnodes hask (k:=2) (by omega) (by omega) (by omega) (by omega) (0+1+1)
    refine⟨l',g1,fun hh=>⟨(g2 hh).1,?_⟩⟩
    rw [(g2 hh).2,hp]
    exact hrev 2 (by omega)
structure PD(ns:List tV)(l:aq)(i:Nat):Prop where
 k:IU ns l i
 stk:PV ns l.open_.reverse ((i:Int)-1)
 kd: ∀k∈l.kinds,Kd k
def VF{h2:List (List Int)}(h: ∀k∈h2,Kd k){p:Int}(h0:0<=p)(hp:p<(h2.length:Int)):Kd (kA h2 p):=by
 unfold kA
 rw [bk (by omega),lI (by omega)]
 exact h _ (Ge _)
def Ca(h:PD ns l i)(hs:om ns){e:tV}(he:ns[i]? =some e)(tl:List tV): ∃ok l',dC l (i:Int) (px e.Op)=some (ok,l')/\(ok=true->PD ns l' (i+1)/\cT ns (e::tl) i l.kinds=cT ns tl (i+1) l'.kinds)/\(ok=false->cT ns (e::tl) i l.kinds=some ([],(i:Int))):=by
 have hi:=(tp.1 he).1
 have h90:=hs.len
 have hse:=hs.n e (rC he)
 obtain⟨ac,hsz,hcase⟩:=OH h.stk he (by omega)
 have hsz0:ux ns (i:Int)=some (ac:Int):=hsz dk (xN (B4 _) (pj (by omega)))
 have hkl:=h.k.len
 have hopen:=h.k.open_
 by_cases Y:SR e l.open_.reverse/\rP e=true
 ·obtain⟨hp,ho⟩:=Y
  obtain⟨hs1,hs2,_,hstk⟩:1<=ac/\ac<=i+1/\SR e l.open_.reverse/\PV ns ((i:Int)::l.open_.reverse.drop (prt e.Op).toNat) (i:Int):=by
   rcases hcase with⟨_,hc⟩|hc
   ·exact absurd hp hc
   ·exact hc
  have hprt:0<=prt e.Op:=by rcases hp with h|h|h<;>omega
  have hA1:prt e.Op≠0->0<=e.A/\e.A<(i:Int):=fun hne=>by
   rcases hp with h|⟨_,_,r,hr⟩|⟨_,r,hr⟩
   ·exact absurd h.1 hne
   ·exact hopen e.A (I2.1 (by rw [hr];simp))
   ·exact hopen e.A (I2.1 (by rw [hr];simp))
  have hB1:prt e.Op=2->0<=e.B/\e.B<(i:Int):=fun K=>by
   rcases hp with h|h|⟨_,r,hr⟩
   ·omega
   ·omega
   ·exact hopen e.B (I2.1 (by rw [hr];simp))
  have hpl:(prt e.Op=0->e.A= -1)/\(prt e.Op≠2->e.B= -1):=by
   rcases hp with h|h|h
   ·exact⟨fun _=>h.2.1,fun _=>h.2.2⟩
   ·exact⟨fun h' =>by omega,fun _=>h.2.1⟩
   ·exact⟨fun h' =>by omega,fun h' =>absurd h.1 h'⟩
  have hKa:prt e.Op≠0->Kd (kA l.kinds e.A):=fun hne=>VF h.kd (hA1 hne).1 (by have:=(hA1 hne).2;omega)
  have hKb:prt e.Op=2->Kd (kA l.kinds e.B):=fun K=>VF h.kd (hB1 K).1 (by have:=(hB1 K).2;omega)
  have hna:prt e.Op=0->kA l.kinds e.A=[]:=fun h0=>by rw [hpl.1 h0,Ck]
  have hnb:prt e.Op≠2->kA l.kinds e.B=[]:=fun h0=>by rw [hpl.2 h0,Ck]
  have hlb:Lb (w6 l e (kA l.kinds e.A) (kA l.kinds e.B)):=⟨hse,Cl h.k.kinds _,Cl h.k.kinds _⟩
  -- the document's step
  have href:cT ns (e::tl) i l.kinds=eC ns (cT ns tl) i e l.kinds (mg e (kA l.kinds e.A) (kA l.kinds e.B)):=by
   conv=>lhs;unfold cT
   rw [hsz0,bG,bJ (by simp;omega),A7,ho,bG,bG,bJ rfl]
   unfold mg
   by_cases h0:prt e.Op=0
   ·rw [bk (by rw [hpl.1 h0];decide),bJ h0]
    unfold pI
    rw [bk (by rw [hpl.2 (by omega)];decide)]
   ·have hA:=hA1 h0
    rw [bJ (by simpa using hA.1),bk h0,Np hA.1 (by omega),bG,cd (by simp),bG,oY]
    unfold pI
    by_cases K:prt e.Op=2
    ·have hB:=hB1 K
     rw [bJ (by simpa using hB.1),bk (by omega),Np hB.1 (by omega),bG,cd (by simp),bG]
     rfl
    ·rw [bk (by rw [hpl.2 K];decide),bJ (by have:=wh e.Op;omega)]
  have hK3:CH (w6 l e (kA l.kinds e.A) (kA l.kinds e.B)) (cT ns tl) i l.kinds:=by
   rcases y4 hprt with h8|h9|h10|h11
   ·exact WY hlb h8 ((Nf h8).symm.trans ho) (fun h0=>⟨hpl.1 h0,hpl.2 (by show prt e.Op≠2;have h0' :prt e.Op=0:=h0;omega),hna h0,hnb (by have h0' :prt e.Op=0:=h0;omega)⟩) (fun X=>⟨hpl.2 (by have h0' :prt e.Op=1:=X;omega),hKa (by have h0' :prt e.Op=1:=X;omega),hnb (by have h0' :prt e.Op=1:=X;omega)⟩) (fun K=>⟨hKa (by have h0' :prt e.Op=2:=K;omega),hKb K⟩)
   ·have h0:prt e.Op=0:=by rw [h9];rfl
    exact Ro h9 (hna h0) (hnb (by omega))
   ·have X:prt e.Op=1:=by rw [h10];rfl
    exact LR hlb h10 ((Nc (n:=e) (.inl h10)).symm.trans ho) (hpl.2 (by omega)) (hKa (by omega)) (hnb (by omega))
   ·have X:prt e.Op=1:=by rw [h11];rfl
    have hA:=hA1 (by omega)
    refine Rq hlb h11 (hKa (by omega)) (e:=ns[e.A.toNat]'(by omega)) ?_
    show gB l.nodes e.A=_
    rw [h.k.nodes,m6 e.A.toNat (by omega),lI (by omega)]
  obtain⟨ok0,R0,k,o,g1,g2,g3,g4⟩:=hK3
  have g1' :px e.Op (w6 l e (kA l.kinds e.A) (kA l.kinds e.B)) ()=some (ok0,{w6 l e (kA l.kinds e.A) (kA l.kinds e.B)with result:=R0}):=g1
  have g2' :eC ns (cT ns tl) i e l.kinds (mg e (kA l.kinds e.A) (kA l.kinds e.B))=dr ns (cT ns tl) i e l.kinds o k:=by
   have:eC l.nodes (cT ns tl) i e l.kinds (mg e (kA l.kinds e.A) (kA l.kinds e.B))=dr l.nodes (cT ns tl) i e l.kinds o k:=g2
   rw [h.k.nodes]at this
   exact this
  have g3' :o=(lw e (kA l.kinds e.A) (kA l.kinds e.B)&&(ok0&&decide (R0.length<=16))):=g3
  obtain⟨l',t1,t2⟩:=D6 h.k (by omega) (by omega) he hse hp ho g1'
  obtain⟨ok2,l2,q1,_,q3⟩:=Jt h.k (by omega) (by omega) he hse
  rw [t1]at q1
  cases q1
  rw [href,g2']
  have hroot:(((e.Op==(8:Int))||(e.Op==(10:Int)))&&((i:Int) !=(IntKind.i64.wrap ((ns.length:Int)-(1:Int)))))=A4 ns e i:=rfl
  refine⟨_,l',t1,fun hok=>?_,fun hok=>?_⟩
  ·obtain⟨u1,u2⟩:=t2 hok
   simp only [pt,DI]at hok
   have ho1:o=true:=by rw [g3',hok.1,hok.2.2.1];simpa using hok.2.2.2
   obtain⟨v1,v2⟩:=g4 ho1
   have v1' :k=R0:=v1
   refine⟨⟨q3 (by simp only [pt,DI];exact hok),?_,fun x V=>?_⟩,?_⟩
   ·have:(((i+1:Nat):Int)-1)=(i:Int):=by omega
    rw [u2,this]
    exact hstk
   ·rw [u1]at V
    rcases uW.1 V with V|V
    ·exact h.kd x V
    ·rw [zW.1 V];exact v2
   ·unfold dr
    rw [hroot,hok.2.1,ho1,bk (by simp),cd (by simp;omega),bG,u1,v1']
  ·unfold dr
   rw [hroot,bJ]
   rw [g3']
   cases X:lw e (kA l.kinds e.A) (kA l.kinds e.B)with
   |false=>rfl
   |true=>
    rw [X,oX]at hok
    cases K:A4 ns e i with
    |true=>simp
    |false=>
     rw [K,AU,oX]at hok
     rw [hok];rfl
 ·obtain⟨l',t1⟩:=Gw h.k (by omega) (by omega) he hse Y
  refine⟨false,l',t1,fun h=>(by cases h),fun _=>?_⟩
  conv=>lhs;unfold cT
  rw [hsz0,bG]
  have:(if(decide ((0:Int)<(ac:Int)))then((oH e).bind fun r2=>some r2)else some false)=some false:=by
   by_cases h0:0<ac
   ·rw [bJ (by simpa using h0),A7,bG]
    rcases hcase with⟨hz,_⟩|⟨_,_,hp,_⟩
    ·omega
    ·cases ho:rP e with
     |false=>rfl
     |true=>exact absurd ⟨hp,ho⟩ Y
   ·rw [bk (by simpa using h0)]
  rw [this,bG,bk (by simp)]
  unfold dr
  rw [bJ (by rfl)]
def zV(hs:om ns)(X:1<=ns.length)(h60:ns.length<=60): ∀(tl:List tV) (i:Nat) (l:aq),ns.drop i=tl->i<=ns.length->PD ns l i->
  ∃out w e,fY ns ((mD).getD []) tl i (-1) l=some (out,w,e)/\((e=0/\w=0/\cT ns tl i l.kinds=some (out,-1)/\ ∀k∈out,Kd k)\/(e=291/\out=[]/\ ∃a:Nat,cT ns tl i l.kinds=some ([],(a:Int))))
 |[],i,l,hd,hle,h=>by
  have hlen:ns.length<=i:=Fb hd
  have hi:i=ns.length:=by omega
  obtain⟨j,ac,rest,hj,hst,g1,g2,g3,g4⟩:=h.stk.pos (by omega)
  have hjl:j=ns.length-1:=by omega
  have hsz0:ux ns (j:Int)=some (ac:Int):=g1 dk (xN (B4 _) (pj (by omega)))
  have hw:IntKind.i64.wrap ((ns.length:Int)-(1:Int))=(j:Int):=by rw [fg (by omega) (by omega)];omega
  have holen:l.open_.length=rest.length+1:=by rw [<-List.length_reverse,hst];rfl
  have hiff:(l.open_.length=1)↔ac=ns.length:=by
   constructor
   ·intro h0
    have:rest=[]:=tH (by omega)
    subst this
    by_cases hz:(j:Int)-(ac:Int)<0
    ·omega
    ·obtain⟨_,_,_,_,hh,_⟩:=g4.pos (by omega)
     cases hh
   ·intro h0
    have:=g4.neg (by omega)
    rw [holen,this];rfl
  unfold fY kc
  conv=>arg 1;ext;arg 1;ext;arg 1;ext;arg 2;unfold cT
  rw [hw,hsz0,bG]
  by_cases ho:l.open_.length=1
  ·rw [bk (by simp [ho]),bk (by simp [hiff.1 ho])]
   unfold m5
   rw [bk (by decide),yO l.kinds [] (fun k hk=>by have:=h.k.kinds k hk;omega) (by have:=h.k.len;simp;omega),oY]
   exact⟨_,_,_,rfl,.inl ⟨rfl,rfl,rfl,h.kd⟩⟩
  ·have hne: ¬ac=ns.length:=fun h=>ho (hiff.2 h)
   rw [bJ (by simp;omega),bJ (by simp;omega),qw l (by omega)]
   exact⟨_,_,_,rfl,.inr ⟨rfl,rfl,j,rfl⟩⟩
 |e::tl,i,l,hd,hle,h=>by
  obtain⟨hidx,hi,hd'⟩:=jb hd
  rw [eu]at hidx
  obtain⟨ok,l',g1,g2,g3⟩:=Ca h hs hidx tl
  unfold fY
  have g1' :dC l (i:Int) ((uY ((mD).getD []) e.Op).getD (fun _ _=>none))=some (ok,l'):=g1
  rw [g1',bG]
  cases ok with
  |false=>
   rw [bJ (by rfl)]
   unfold kc
   rw [bk (by simp;omega),qw l' (by omega)]
   exact⟨_,_,_,rfl,.inr ⟨rfl,rfl,i,g3 rfl⟩⟩
  |true=>
   rw [bk (by simp),(g2 rfl).2]
   exact zV hs X h60 tl (i+1) l' hd' (by omega) (g2 rfl).1
end
def ME{ns:List tV}(hs:om ns): ∃out w e,jV ns=some (out,w,e)/\((e=0/\w=0/\pJ ns=some (out,-1)/\KOK ns out/\1<=ns.length/\ns.length<=60/\ ∀k∈out,Kd k)\/(e=291/\out=[]/\ ∃a:Nat,pJ ns=some ([],(a:Int)))):=by
 obtain⟨out0,w0,e0,hK,hcase⟩:=FX hs
 have hK' :=hK
 unfold jV at hK'
 unfold pJ
 by_cases hc:((decide ((ns.length:Int)<(1:Int)))||(decide ((60:Int)<(ns.length:Int))))=true
 ·rw [bJ hc]at hK' ⊢
  cases hK'
  exact⟨_,_,_,hK,.inr ⟨rfl,rfl,0,rfl⟩⟩
 ·rw [bk hc]at hK' ⊢
  simp at hc
  obtain⟨out,w,e,g1,g2⟩:=zV hs (by omega) (by omega) ns 0 ⟨ns,[],[],⟨0,0,0,0,[],false,⟨[]⟩,[],[],[],[],0⟩,[],[],[]⟩ rfl (oW _) ⟨⟨rfl,rfl,fun p hp=>(by cases hp),eJ _,fun k hk=>(by cases hk),fun j hj=>by omega⟩,.nil,fun k hk=>by cases hk⟩
  have g1' :fY ns ((mD).getD []) ns 0 (-1) ⟨ns,[],[],⟨0,0,0,0,[],false,⟨[]⟩,[],[],[],[],0⟩,[],[],[]⟩=some (out0,w0,e0):=hK'
  rw [g1]at g1'
  cases g1'
  refine⟨_,_,_,hK,?_⟩
  rcases g2 with⟨q1,q2,q3,q4⟩|⟨q1,q2,q3⟩
  ·rcases hcase with⟨_,_,p3,p4,p5⟩|⟨p1,_⟩
   ·exact .inl ⟨q1,q2,q3,p3,p4,p5,q4⟩
   ·rw [q1]at p1;exact absurd p1 (by decide)
  ·exact .inr ⟨q1,q2,q3⟩
end Go.Proofs.YtdohlidddcgfjaaGreat

