/- bR of this claim: Y15. -/
import Derived.Test.YtdohlidddcgfjaaGreatFbY14
import Derived.Test.YtdohlidddcgfjaaGreatFbY6
set_option linter.all false
namespace Go.Proofs.YtdohlidddcgfjaaGreat
open Go

section
variable{ns:List aa}{l:ai}{i:Nat}
def y4(l:ai)(e:aa)(a b:List Int):ai:={l with n:=e,a_:=a,b:=b}
def xG(ns:List aa)(e:aa)(i:Nat):Bool:=((e.Op==8)||(e.Op==10))&&((i:Int) !=IntKind.i64.wrap ((ns.length:Int)-(1:Int)))
def Hz(hn:l.nodes=ns){e:aa}{a b:List Int}{ok0:Bool}{R0:List Int}(hask:nF e.Op (y4 l e a b) ()=some (ok0,{y4 l e a b with result:=R0})){k:Nat}(hk:k<=l.open_.length)(hk2:k<=2)(ho:l.open_.length<=1000)(hkl:l.kinds.length<=1000)(i5:Nat):
  ∃l',aU l (i:Int) (nF e.Op) e (k:Int) [] i5 a b=some (!(xG ns e i)&&(ok0&&decide (R0.length<=16)),l')/\((!(xG ns e i)&&(ok0&&decide (R0.length<=16)))=true->l'.kinds=l.kinds++[R0]/\l'.open_=l.open_.take (l.open_.length-k)++[(i:Int)]):=by
 unfold aU
 show∃l',(if(((e.Op==(8:Int))||(e.Op==(10:Int)))&&((i:Int) !=(IntKind.i64.wrap ((l.nodes.length:Int)-(1:Int)))))then some (false,y4 l e a b)else(nF e.Op (y4 l e a b) ()).bind _)=_/\_
 have hroot:(((e.Op==(8:Int))||(e.Op==(10:Int)))&&((i:Int) !=(IntKind.i64.wrap ((ns.length:Int)-(1:Int)))))=xG ns e i:=rfl
 rw [hn,hroot]
 by_cases hr:xG ns e i=true
 ·rw [bu hr,hr]
  exact⟨_,rfl,fun h=>by cases h⟩
 ·have hr' :xG ns e i=false:=by simpa using hr
  rw [aZ hr,hask,br,hr',xy,mA]
  by_cases hc:((!ok0)||(decide ((16:Int)<(R0.length:Int))))=true
  ·have hc' :(ok0&&decide (R0.length<=16))=false:=by
    cases ok0 with
    |false=>rfl
    |true=>simp at hc ⊢;omega
   rw [bu hc,hc']
   exact⟨_,rfl,fun h=>by cases h⟩
  ·have hc' :(ok0&&decide (R0.length<=16))=true:=by
    cases ok0 with
    |false=>simp at hc
    |true=>simp at hc ⊢;omega
   rw [aZ hc,hc']
   show∃l',((jb l.kinds [R0]).bind fun l1' =>(dz l.open_ 0 (IntKind.i64.wrap ((l.open_.length:Int)-(k:Int)))).bind fun y2=>(jb y2 [(i:Int)]).bind fun l2=>some (true,({({({y4 l e a b with result:=R0}:ai)with kinds:=l1' }:ai)with open_:=l2}:ai)))=_/\_
   rw [cy (by simp;omega),br,d7 (by omega) (by omega),jA 0 (l.open_.length-k) (show(0:Int)=((0:Nat):Int)from rfl) (by omega) (by omega) (by omega),br,cy (by simp;omega),br,Ar]
   exact⟨_,rfl,fun _=>⟨rfl,rfl⟩⟩
def Eh(e:aa)(r:Int)(p:Int)(tl:List Int)(i5:Nat)(a b:List Int)(h0:0<=p)(h:p<(l.kinds.length:Int))(ask:ai->Unit->Option (Bool×ai))(ik:Int):
  aU l ik ask e r (p::tl) i5 a b=if(!(e.Op==11)&&decide ((4:Int)∈kA l.kinds p))=true then some (false,y4 l e a b)else if i5=0 then aU l ik ask e r tl (i5+1) (kA l.kinds p) b else aU l ik ask e r tl (i5+1) a (kA l.kinds p):=by
 have step:aU l ik ask e r (p::tl) i5 a b=(if(e.Op !=(11:Int))then((eW (kA l.kinds p) (4:Int)).bind fun r3=>some r3)else some false).bind fun t1=>
   if t1 then some (false,y4 l e a b)
   else if((i5:Int)==(0:Int))then aU l ik ask e r tl (i5+1) (kA l.kinds p) b else aU l ik ask e r tl (i5+1) a (kA l.kinds p):=by
  conv=>lhs;unfold aU
  rw [JH h0 h,br]
  rfl
 rw [step,ui]
 have:(if(e.Op !=(11:Int))then((some (decide ((4:Int)∈kA l.kinds p))).bind fun r3=>some r3)else some false)=some (!(e.Op==11)&&decide ((4:Int)∈kA l.kinds p)):=by
  by_cases h11:e.Op=11
  ·rw [aZ (by simp [h11]),show(e.Op==11)=true from by simp [h11]];rfl
  ·rw [bu (by simpa using h11),br,show(e.Op==11)=false from by simpa using h11];rfl
 rw [this,br]
 cases (!(e.Op==11)&&decide ((4:Int)∈kA l.kinds p))with
 |true=>rfl
 |false=>
  show(if((i5:Int)==(0:Int))then aU l ik ask e r tl (i5+1) (kA l.kinds p) b else aU l ik ask e r tl (i5+1) a (kA l.kinds p))=if i5=0 then aU l ik ask e r tl (i5+1) (kA l.kinds p) b else aU l ik ask e r tl (i5+1) a (kA l.kinds p)
  by_cases h5:i5=0
  ·rw [bu h5,bu (by simp [h5])]
  ·rw [aZ h5,aZ (by simp;omega)]
def Ku(h:E6 ns l i)(hi:i<100)(hn:ns.length<=100){e:aa}(he:ns[i]? =some e)(hs:iN e)(W: ¬(SY e l.open_.reverse/\sP e=true)): ∃l',de l (i:Int) (nF e.Op)=some (false,l'):=by
 have hol:=h.olen
 have hns:=h.nodes
 subst hns
 unfold de
 rw [eZ,he,br,sl,br]
 by_cases hc:(!((decide (lw e.Op<(0:Int)))||(decide ((l.open_.length:Int)<lw e.Op))))=true
 ·have hc' :0<=lw e.Op/\lw e.Op<=(l.open_.length:Int):=by simp at hc;omega
  rw [bu hc,B1 hs hc'.1,br,br]
  cases ho:sP e with
  |false=>rw [bu (by rfl)];exact⟨_,rfl⟩
  |true=>
   rw [aZ (by simp)]
   obtain⟨k,hk⟩:=Int.eq_ofNat_of_zero_le hc'.1
   have hk' :k<=l.open_.length:=by omega
   rw [hk,d7 (by omega) (by omega),jA (l.open_.length-k) l.open_.length (by omega) rfl (by omega) (by omega),br,Au]
   by_cases hp:(ni ([(-1:Int),(-1:Int)]) (l.open_.drop (l.open_.length-k)))=([e.A,e.B])
   ·exfalso
    apply W
    refine⟨?_,ho⟩
    have hlen:(l.open_.drop (l.open_.length-k)).length=k:=by simp;omega
    have hrev:l.open_.reverse=(l.open_.drop (l.open_.length-k)).reverse++(l.open_.take (l.open_.length-k)).reverse:=by
     rw [<-List.reverse_append,qL]
    generalize hy:l.open_.drop (l.open_.length-k)=y at hlen hp hrev
    rw [hrev]
    have hk2:=sN e.Op
    match y,hlen,hp with
    |[],hlen,hp=>
     have hk0:k=0:=by simpa using hlen.symm
     have e1:([(-1:Int),(-1:Int)]:List Int)=[e.A,e.B]:=hp
     injection e1 with eA e2
     injection e2 with eB _
     exact .inl ⟨by omega,eA.symm,eB.symm⟩
    |[p],hlen,hp=>
     have hk0:k=1:=by simpa using hlen.symm
     have e1:([p,(-1:Int)]:List Int)=[e.A,e.B]:=hp
     injection e1 with eA e2
     injection e2 with eB _
     exact .inr (.inl ⟨by omega,eB.symm,_,by rw [<-eA];rfl⟩)
    |[p,q],hlen,hp=>
     have hk0:k=2:=by simpa using hlen.symm
     have e1:([p,q]:List Int)=[e.A,e.B]:=hp
     injection e1 with eA e2
     injection e2 with eB _
     exact .inr (.inr ⟨by omega,_,by rw [<-eA,<-eB];rfl⟩)
    |_::_::_::_,hlen,_=>simp at hlen;omega
   ·rw [bu (by simp [hp])]
    exact⟨_,rfl⟩
 ·rw [aZ hc,br,bu rfl]
  exact⟨_,rfl⟩
def HC(h:E6 ns l i)(hi:i<100)(hn:ns.length<=100){e:aa}(he:ns[i]? =some e)(hs:iN e)(hp:SY e l.open_.reverse)(ho:sP e=true){ok0:Bool}{R0:List Int}(hask:nF e.Op (y4 l e (kA l.kinds e.A) (kA l.kinds e.B)) ()=some (ok0,{y4 l e (kA l.kinds e.A) (kA l.kinds e.B)with result:=R0})):
  ∃l',de l (i:Int) (nF e.Op)=some (jt e (kA l.kinds e.A) (kA l.kinds e.B)&&(!(xG ns e i)&&(ok0&&decide (R0.length<=16))),l')/\((jt e (kA l.kinds e.A) (kA l.kinds e.B)&&(!(xG ns e i)&&(ok0&&decide (R0.length<=16))))=true->l'.kinds=l.kinds++[R0]/\l'.open_.reverse=(i:Int)::l.open_.reverse.drop (lw e.Op).toNat):=by
 have hol:=h.olen
 have hkl:=h.len
 have hopen:=h.open_
 have hnodes:=h.nodes
 have hrev: ∀k,k<=l.open_.length->(l.open_.take (l.open_.length-k)++[(i:Int)]).reverse=(i:Int)::l.open_.reverse.drop k:=fun k hk=>by
  rw [List.reverse_append,List.drop_reverse];rfl
 -- what is popped
 have pop: ∀(k:Nat) (y:List Int),lw e.Op=(k:Int)->k<=l.open_.length->k<=2->l.open_.drop (l.open_.length-k)=y->ni ([(-1:Int),(-1:Int)]) y=[e.A,e.B]->de l (i:Int) (nF e.Op)=aU l (i:Int) (nF e.Op) e (k:Int) y 0 [] []:=by
  intro k y hk hkl' hk2 hy hc
  unfold de
  rw [eZ,hnodes,he,br,sl,br,bu (by simp;omega),B1 hs (by omega),br,ho,br,aZ (by simp),hk,d7 (by omega) (by omega),jA (l.open_.length-k) l.open_.length (by omega) rfl (by omega) (by omega),br,Au,hy,aZ (by simp [hc]),br]
 rcases hp with⟨hp,hA,hB⟩|⟨hp,hB,rest,hst⟩|⟨hp,rest,hst⟩
 ·rw [pop 0 [] hp (by omega) (by omega) (by simp) (by rw [hA,hB];rfl)]
  rw [hA,hB,y5]at hask ⊢
  have hs1:jt e [] []=true:=by unfold jt;simp
  rw [hs1,mA]
  obtain⟨l',g1,g2⟩:=Hz (i:=i) hnodes hask (k:=0) (by omega) (by omega) (by omega) (by omega) 0
  refine⟨l',g1,fun hh=>⟨(g2 hh).1,?_⟩⟩
  rw [(g2 hh).2,hp]
  exact hrev 0 (by omega)
 ·have hl:l.open_=rest.reverse++[e.A]:=by rw [<-List.reverse_reverse l.open_,hst];simp
  have hlen:l.open_.length=rest.length+1:=by rw [hl];simp
  have hAm:=hopen e.A (by rw [hl];simp)
  rw [pop 1 [e.A] hp (by omega) (by omega) (by rw [hl];simp) (by rw [hB];rfl),Eh e _ e.A [] 0 [] [] hAm.1 (by omega)]
  rw [hB,y5]at hask ⊢
  have hs1:jt e (kA l.kinds e.A) []= !(!(e.Op==11)&&decide ((4:Int)∈kA l.kinds e.A)):=by unfold jt;cases (e.Op==11)<;>simp
  rw [hs1]
  cases W:(!(e.Op==11)&&decide ((4:Int)∈kA l.kinds e.A))with
  |true=>rw [bu rfl];exact⟨_,rfl,fun h=>by cases h⟩
  |false=>
   rw [aZ (by simp),bu rfl,xy,mA]
   obtain⟨l',g1,g2⟩:=Hz (i:=i) hnodes hask (k:=1) (by omega) (by omega) (by omega) (by omega) 1
   refine⟨l',g1,fun hh=>⟨(g2 hh).1,?_⟩⟩
   rw [(g2 hh).2,hp]
   exact hrev 1 (by omega)
 ·have hl:l.open_=rest.reverse++[e.A,e.B]:=by rw [<-List.reverse_reverse l.open_,hst];simp
  have hlen:l.open_.length=rest.length+2:=by rw [hl];simp
  have hAm:=hopen e.A (by rw [hl];simp)
  have hBm:=hopen e.B (by rw [hl];simp)
  rw [pop 2 [e.A,e.B] hp (by omega) (by omega) (by rw [hl];simp) (by rfl),Eh e _ e.A [e.B] 0 [] [] hAm.1 (by omega)]
  have hs1:jt e (kA l.kinds e.A) (kA l.kinds e.B)=(!(!(e.Op==11)&&decide ((4:Int)∈kA l.kinds e.A))&& !(!(e.Op==11)&&decide ((4:Int)∈kA l.kinds e.B))):=by unfold jt;cases (e.Op==11)<;>simp
  rw [hs1]
  cases W:(!(e.Op==11)&&decide ((4:Int)∈kA l.kinds e.A))with
  |true=>rw [bu rfl];exact⟨_,rfl,fun h=>by cases h⟩
  |false=>
   rw [aZ (by simp),bu rfl,Eh e _ e.B [] (0+1) _ [] hBm.1 (by omega)]
   cases hb2:(!(e.Op==11)&&decide ((4:Int)∈kA l.kinds e.B))with
   |true=>rw [bu rfl];exact⟨_,rfl,fun h=>by cases h⟩
   |false=>
    rw [aZ (by simp),aZ (by omega),xy,mA,mA]
    obtain⟨l',g1,g2⟩:=Hz (i:=i) hnodes hask (k:=2) (by omega) (by omega) (by omega) (by omega) (0+1+1)
    refine⟨l',g1,fun hh=>⟨(g2 hh).1,?_⟩⟩
    rw [(g2 hh).2,hp]
    exact hrev 2 (by omega)
structure PT(ns:List aa)(l:ai)(i:Nat):Prop where
 k:E6 ns l i
 stk:LL ns l.open_.reverse ((i:Int)-1)
 kd: ∀k∈l.kinds,Kd k
def Ql{tV:List (List Int)}(h: ∀k∈tV,Kd k){p:Int}(h0:0<=p)(hp:p<(tV.length:Int)):Kd (kA tV p):=by
 unfold kA
 rw [aZ (by omega),sx (by omega)]
 exact h _ (CR _)
def Da(h:PT ns l i)(hs:qv ns){e:aa}(he:ns[i]? =some e)(tl:List aa): ∃ok l',de l (i:Int) (nF e.Op)=some (ok,l')/\(ok=true->PT ns l' (i+1)/\cG ns (e::tl) i l.kinds=cG ns tl (i+1) l'.kinds)/\(ok=false->cG ns (e::tl) i l.kinds=some ([],(i:Int))):=by
 have hi:=(pZ.1 he).1
 have h90:=hs.len
 have hse:=hs.n e (rm he)
 obtain⟨ae,hsz,hcase⟩:=KB h.stk he (by omega)
 have hsz0:tz ns (i:Int)=some (ae:Int):=hsz eI (uA (yG _) (mq (by omega)))
 have hkl:=h.k.len
 have hopen:=h.k.open_
 by_cases X:SY e l.open_.reverse/\sP e=true
 ·obtain⟨hp,ho⟩:=X
  obtain⟨hs1,hs2,_,hstk⟩:1<=ae/\ae<=i+1/\SY e l.open_.reverse/\LL ns ((i:Int)::l.open_.reverse.drop (lw e.Op).toNat) (i:Int):=by
   rcases hcase with⟨_,hc⟩|hc
   ·exact absurd hp hc
   ·exact hc
  have hprt:0<=lw e.Op:=by rcases hp with h|h|h<;>omega
  have hA1:lw e.Op≠0->0<=e.A/\e.A<(i:Int):=fun hne=>by
   rcases hp with h|⟨_,_,r,hr⟩|⟨_,r,hr⟩
   ·exact absurd h.1 hne
   ·exact hopen e.A (List.mem_reverse.1 (by rw [hr];simp))
   ·exact hopen e.A (List.mem_reverse.1 (by rw [hr];simp))
  have hB1:lw e.Op=2->0<=e.B/\e.B<(i:Int):=fun H=>by
   rcases hp with h|h|⟨_,r,hr⟩
   ·omega
   ·omega
   ·exact hopen e.B (List.mem_reverse.1 (by rw [hr];simp))
  have hpl:(lw e.Op=0->e.A= -1)/\(lw e.Op≠2->e.B= -1):=by
   rcases hp with h|h|h
   ·exact⟨fun _=>h.2.1,fun _=>h.2.2⟩
   ·exact⟨fun h' =>by omega,fun _=>h.2.1⟩
   ·exact⟨fun h' =>by omega,fun h' =>absurd h.1 h'⟩
  have hKa:lw e.Op≠0->Kd (kA l.kinds e.A):=fun hne=>Ql h.kd (hA1 hne).1 (by have:=(hA1 hne).2;omega)
  have hKb:lw e.Op=2->Kd (kA l.kinds e.B):=fun H=>Ql h.kd (hB1 H).1 (by have:=(hB1 H).2;omega)
  have hna:lw e.Op=0->kA l.kinds e.A=[]:=fun h0=>by rw [hpl.1 h0,y5]
  have hnb:lw e.Op≠2->kA l.kinds e.B=[]:=fun h0=>by rw [hpl.2 h0,y5]
  have hlb:Lb (y4 l e (kA l.kinds e.A) (kA l.kinds e.B)):=⟨hse,EH h.k.kinds _,EH h.k.kinds _⟩
  -- the document's step
  have href:cG ns (e::tl) i l.kinds=dr ns (cG ns tl) i e l.kinds (jS e (kA l.kinds e.A) (kA l.kinds e.B)):=by
   conv=>lhs;unfold cG
   rw [hsz0,br,bu (by simp;omega),xH,ho,br,br,bu rfl]
   unfold jS
   by_cases h0:lw e.Op=0
   ·rw [aZ (by rw [hpl.1 h0];decide),bu h0]
    unfold oJ
    rw [aZ (by rw [hpl.2 (by omega)];decide)]
   ·have hA:=hA1 h0
    rw [bu (by simpa using hA.1),aZ h0,JH hA.1 (by omega),br,cy (by simp),br,mz]
    unfold oJ
    by_cases H:lw e.Op=2
    ·have hB:=hB1 H
     rw [bu (by simpa using hB.1),aZ (by omega),JH hB.1 (by omega),br,cy (by simp),br]
     rfl
    ·rw [aZ (by rw [hpl.2 H];decide),bu (by have:=sN e.Op;omega)]
  have hK3:zq (y4 l e (kA l.kinds e.A) (kA l.kinds e.B)) (cG ns tl) i l.kinds:=by
   rcases KW hprt with h8|h9|h10|h11
   ·exact Rx hlb h8 ((OC h8).symm.trans ho) (fun h0=>⟨hpl.1 h0,hpl.2 (by show lw e.Op≠2;have h0' :lw e.Op=0:=h0;omega),hna h0,hnb (by have h0' :lw e.Op=0:=h0;omega)⟩) (fun Y=>⟨hpl.2 (by have h0' :lw e.Op=1:=Y;omega),hKa (by have h0' :lw e.Op=1:=Y;omega),hnb (by have h0' :lw e.Op=1:=Y;omega)⟩) (fun H=>⟨hKa (by have h0' :lw e.Op=2:=H;omega),hKb H⟩)
   ·have h0:lw e.Op=0:=by rw [h9];rfl
    exact MQ h9 (hna h0) (hnb (by omega))
   ·have Y:lw e.Op=1:=by rw [h10];rfl
    exact Im hlb h10 ((OB (n:=e) (.inl h10)).symm.trans ho) (hpl.2 (by omega)) (hKa (by omega)) (hnb (by omega))
   ·have Y:lw e.Op=1:=by rw [h11];rfl
    have hA:=hA1 (by omega)
    refine MR hlb h11 (hKa (by omega)) (e:=ns[e.A.toNat]'(by omega)) ?_
    show ga l.nodes e.A=_
    rw [h.k.nodes,lg e.A.toNat (by omega),sx (by omega)]
  obtain⟨ok0,R0,k,o,g1,g2,g3,g4⟩:=hK3
  have g1' :nF e.Op (y4 l e (kA l.kinds e.A) (kA l.kinds e.B)) ()=some (ok0,{y4 l e (kA l.kinds e.A) (kA l.kinds e.B)with result:=R0}):=g1
  have g2' :dr ns (cG ns tl) i e l.kinds (jS e (kA l.kinds e.A) (kA l.kinds e.B))=cR ns (cG ns tl) i e l.kinds o k:=by
   have:dr l.nodes (cG ns tl) i e l.kinds (jS e (kA l.kinds e.A) (kA l.kinds e.B))=cR l.nodes (cG ns tl) i e l.kinds o k:=g2
   rw [h.k.nodes]at this
   exact this
  have g3' :o=(jt e (kA l.kinds e.A) (kA l.kinds e.B)&&(ok0&&decide (R0.length<=16))):=g3
  obtain⟨l',t1,t2⟩:=HC h.k (by omega) (by omega) he hse hp ho g1'
  obtain⟨ok2,l2,q1,_,q3⟩:=FH h.k (by omega) (by omega) he hse
  rw [t1]at q1
  cases q1
  rw [href,g2']
  have hroot:(((e.Op==(8:Int))||(e.Op==(10:Int)))&&((i:Int) !=(IntKind.i64.wrap ((ns.length:Int)-(1:Int)))))=xG ns e i:=rfl
  refine⟨_,l',t1,fun hok=>?_,fun hok=>?_⟩
  ·obtain⟨u1,u2⟩:=t2 hok
   simp only [iO,Cm]at hok
   have ho1:o=true:=by rw [g3',hok.1,hok.2.2.1];simpa using hok.2.2.2
   obtain⟨v1,v2⟩:=g4 ho1
   have v1' :k=R0:=v1
   refine⟨⟨q3 (by simp only [iO,Cm];exact hok),?_,fun x V=>?_⟩,?_⟩
   ·have:(((i+1:Nat):Int)-1)=(i:Int):=by omega
    rw [u2,this]
    exact hstk
   ·rw [u1]at V
    rcases xo.1 V with V|V
    ·exact h.kd x V
    ·rw [Cp.1 V];exact v2
   ·unfold cR
    rw [hroot,hok.2.1,ho1,aZ (by simp),cy (by simp;omega),br,u1,v1']
  ·unfold cR
   rw [hroot,bu]
   rw [g3']
   cases Y:jt e (kA l.kinds e.A) (kA l.kinds e.B)with
   |false=>rfl
   |true=>
    rw [Y,mA]at hok
    cases H:xG ns e i with
    |true=>simp
    |false=>
     rw [H,xy,mA]at hok
     rw [hok];rfl
 ·obtain⟨l',t1⟩:=Ku h.k (by omega) (by omega) he hse X
  refine⟨false,l',t1,fun h=>(by cases h),fun _=>?_⟩
  conv=>lhs;unfold cG
  rw [hsz0,br]
  have:(if(decide ((0:Int)<(ae:Int)))then((n7 e).bind fun r2=>some r2)else some false)=some false:=by
   by_cases h0:0<ae
   ·rw [bu (by simpa using h0),xH,br]
    rcases hcase with⟨hz,_⟩|⟨_,_,hp,_⟩
    ·omega
    ·cases ho:sP e with
     |false=>rfl
     |true=>exact absurd ⟨hp,ho⟩ X
   ·rw [aZ (by simpa using h0)]
  rw [this,br,aZ (by simp)]
  unfold cR
  rw [bu (by rfl)]
def wB(hs:qv ns)(Y:1<=ns.length)(h60:ns.length<=60): ∀(tl:List aa) (i:Nat) (l:ai),ns.drop i=tl->i<=ns.length->PT ns l i->
  ∃out w e,fh ns ((lT).getD []) tl i (-1) l=some (out,w,e)/\((e=0/\w=0/\cG ns tl i l.kinds=some (out,-1)/\ ∀k∈out,Kd k)\/(e=291/\out=[]/\ ∃a:Nat,cG ns tl i l.kinds=some ([],(a:Int))))
 |[],i,l,hd,hle,h=>by
  have hlen:ns.length<=i:=BQ hd
  have hi:i=ns.length:=by omega
  obtain⟨j,ae,rest,hj,hst,g1,g2,g3,g4⟩:=h.stk.pos (by omega)
  have hjl:j=ns.length-1:=by omega
  have hsz0:tz ns (j:Int)=some (ae:Int):=g1 eI (uA (yG _) (mq (by omega)))
  have hw:IntKind.i64.wrap ((ns.length:Int)-(1:Int))=(j:Int):=by rw [d7 (by omega) (by omega)];omega
  have holen:l.open_.length=rest.length+1:=by rw [<-List.length_reverse,hst];rfl
  have hiff:(l.open_.length=1)↔ae=ns.length:=by
   constructor
   ·intro h0
    have:rest=[]:=sd (by omega)
    subst this
    by_cases hz:(j:Int)-(ae:Int)<0
    ·omega
    ·obtain⟨_,_,_,_,hh,_⟩:=g4.pos (by omega)
     cases hh
   ·intro h0
    have:=g4.neg (by omega)
    rw [holen,this];rfl
  unfold fh jv
  conv=>arg 1;ext;arg 1;ext;arg 1;ext;arg 2;unfold cG
  rw [hw,hsz0,br]
  by_cases ho:l.open_.length=1
  ·rw [aZ (by simp [ho]),aZ (by simp [hiff.1 ho])]
   unfold kE
   rw [aZ (by decide),vv l.kinds [] (fun k hk=>by have:=h.k.kinds k hk;omega) (by have:=h.k.len;simp;omega),mz]
   exact⟨_,_,_,rfl,.inl ⟨rfl,rfl,rfl,h.kd⟩⟩
  ·have hne: ¬ae=ns.length:=fun h=>ho (hiff.2 h)
   rw [bu (by simp;omega),bu (by simp;omega),oX l (by omega)]
   exact⟨_,_,_,rfl,.inr ⟨rfl,rfl,j,rfl⟩⟩
 |e::tl,i,l,hd,hle,h=>by
  obtain⟨hidx,hi,hd'⟩:=nL hd
  rw [eZ]at hidx
  obtain⟨ok,l',g1,g2,g3⟩:=Da h hs hidx tl
  unfold fh
  have g1' :de l (i:Int) ((sq ((lT).getD []) e.Op).getD (fun _ _=>none))=some (ok,l'):=g1
  rw [g1',br]
  cases ok with
  |false=>
   rw [bu (by rfl)]
   unfold jv
   rw [aZ (by simp;omega),oX l' (by omega)]
   exact⟨_,_,_,rfl,.inr ⟨rfl,rfl,i,g3 rfl⟩⟩
  |true=>
   rw [aZ (by simp),(g2 rfl).2]
   exact wB hs Y h60 tl (i+1) l' hd' (by omega) (g2 rfl).1
end
def I3{ns:List aa}(hs:qv ns): ∃out w e,kF ns=some (out,w,e)/\((e=0/\w=0/\uO ns=some (out,-1)/\KOK ns out/\1<=ns.length/\ns.length<=60/\ ∀k∈out,Kd k)\/(e=291/\out=[]/\ ∃a:Nat,uO ns=some ([],(a:Int)))):=by
 obtain⟨out0,w0,e0,hK,hcase⟩:=Cz hs
 have hK' :=hK
 unfold kF at hK'
 unfold uO
 by_cases hc:((decide ((ns.length:Int)<(1:Int)))||(decide ((60:Int)<(ns.length:Int))))=true
 ·rw [bu hc]at hK' ⊢
  cases hK'
  exact⟨_,_,_,hK,.inr ⟨rfl,rfl,0,rfl⟩⟩
 ·rw [aZ hc]at hK' ⊢
  simp at hc
  obtain⟨out,w,e,g1,g2⟩:=wB hs (by omega) (by omega) ns 0 ⟨ns,[],[],⟨0,0,0,0,[],false,⟨[]⟩,[],[],[],[],0⟩,[],[],[]⟩ rfl (nv _) ⟨⟨rfl,rfl,fun p hp=>(by cases hp),jW _,fun k hk=>(by cases hk),fun j hj=>by omega⟩,.nil,fun k hk=>by cases hk⟩
  have g1' :fh ns ((lT).getD []) ns 0 (-1) ⟨ns,[],[],⟨0,0,0,0,[],false,⟨[]⟩,[],[],[],[],0⟩,[],[],[]⟩=some (out0,w0,e0):=hK'
  rw [g1]at g1'
  cases g1'
  refine⟨_,_,_,hK,?_⟩
  rcases g2 with⟨q1,q2,q3,q4⟩|⟨q1,q2,q3⟩
  ·rcases hcase with⟨_,_,p3,p4,p5⟩|⟨p1,_⟩
   ·exact .inl ⟨q1,q2,q3,p3,p4,p5,q4⟩
   ·rw [q1]at p1;exact absurd p1 (by decide)
  ·exact .inr ⟨q1,q2,q3⟩
end Go.Proofs.YtdohlidddcgfjaaGreat

