/- di of this claim: Y15. -/
import Derived.Test.YtmogpgcfognefaaGreatDoorNdY14
import Derived.Test.YtmogpgcfognefaaGreatDoorNdY6
set_option linter.all false
namespace Go.Proofs.YtmogpgcfognefaaGreatDoor
open Go

section
variable{ns:List aw}{l:aq}{i:Nat}
def Ay(l:aq)(e:aw)(a b:List Int):aq:={l with n:=e,a_:=a,b:=b}
def y6(ns:List aw)(e:aw)(i:Nat):Bool:=((e.Op==8)||(e.Op==10))&&((i:Int) !=IntKind.i64.wrap ((ns.length:Int)-(1:Int)))
theorem I7(hn:l.nodes=ns){e:aw}{a b:List Int}{ok0:Bool}{R0:List Int}(hask:pM e.Op (Ay l e a b) ()=some (ok0,{Ay l e a b with result:=R0})){k:Nat}(hk:k≤l.open_.length)(hk2:k≤2)(ho:l.open_.length≤1000)(hkl:l.kinds.length≤1000)(i5:Nat):
  ∃l',bH l (i:Int) (pM e.Op) e (k:Int) [] i5 a b=some (!(y6 ns e i)&&(ok0&&decide (R0.length≤16)),l')∧((!(y6 ns e i)&&(ok0&&decide (R0.length≤16)))=true→l'.kinds=l.kinds++[R0]∧l'.open_=l.open_.take (l.open_.length-k)++[(i:Int)]):=by
 unfold bH
 show∃l',(if(((e.Op==(8:Int))||(e.Op==(10:Int)))&&((i:Int) !=(IntKind.i64.wrap ((l.nodes.length:Int)-(1:Int)))))then some (false,Ay l e a b)else(pM e.Op (Ay l e a b) ()).bind _)=_∧_
 have hroot:(((e.Op==(8:Int))||(e.Op==(10:Int)))&&((i:Int) !=(IntKind.i64.wrap ((ns.length:Int)-(1:Int)))))=y6 ns e i:=rfl
 rw [hn,hroot]
 by_cases hr:y6 ns e i=true
 ·rw [bQ hr,hr]
  exact⟨_,rfl,fun h=>by cases h⟩
 ·have hr' :y6 ns e i=false:=by simpa using hr
  rw [bI hr,hask,bA,hr',Bw,nQ]
  by_cases hc:((!ok0)||(decide ((16:Int)<(R0.length:Int))))=true
  ·have hc' :(ok0&&decide (R0.length≤16))=false:=by
    cases ok0 with
    |false=>rfl
    |true=>simp at hc ⊢;omega
   rw [bQ hc,hc']
   exact⟨_,rfl,fun h=>by cases h⟩
  ·have hc' :(ok0&&decide (R0.length≤16))=true:=by
    cases ok0 with
    |false=>simp at hc
    |true=>simp at hc ⊢;omega
   rw [bI hc,hc']
   show∃l',((ko l.kinds [R0]).bind fun l1' =>(dw l.open_ 0 (IntKind.i64.wrap ((l.open_.length:Int)-(k:Int)))).bind fun y2=>(ko y2 [(i:Int)]).bind fun l2=>some (true,({({({Ay l e a b with result:=R0}:aq)with kinds:=l1' }:aq)with open_:=l2}:aq)))=_∧_
   rw [du (by simp;omega),bA,eS (by omega) (by omega),j3 0 (l.open_.length-k) (show(0:Int)=((0:Nat):Int)from rfl) (by omega) (by omega) (by omega),bA,du (by simp;omega),bA,sa]
   exact⟨_,rfl,fun _=>⟨rfl,rfl⟩⟩
theorem FP(e:aw)(r:Int)(p:Int)(tl:List Int)(i5:Nat)(a b:List Int)(h0:0≤p)(h:p<(l.kinds.length:Int))(ask:aq→Unit→Option (Bool×aq))(ik:Int):
  bH l ik ask e r (p::tl) i5 a b=if(!(e.Op==11)&&decide ((4:Int)∈kA l.kinds p))=true then some (false,Ay l e a b)else if i5=0 then bH l ik ask e r tl (i5+1) (kA l.kinds p) b else bH l ik ask e r tl (i5+1) a (kA l.kinds p):=by
 have step:bH l ik ask e r (p::tl) i5 a b=(if(e.Op !=(11:Int))then((d5 (kA l.kinds p) (4:Int)).bind fun r3=>some r3)else some false).bind fun t1=>
   if t1 then some (false,Ay l e a b)
   else if((i5:Int)==(0:Int))then bH l ik ask e r tl (i5+1) (kA l.kinds p) b else bH l ik ask e r tl (i5+1) a (kA l.kinds p):=by
  conv=>lhs;unfold bH
  rw [KW h0 h,bA]
  rfl
 rw [step,pC]
 have:(if(e.Op !=(11:Int))then((some (decide ((4:Int)∈kA l.kinds p))).bind fun r3=>some r3)else some false)=some (!(e.Op==11)&&decide ((4:Int)∈kA l.kinds p)):=by
  by_cases h11:e.Op=11
  ·rw [bI (by simp [h11]),show(e.Op==11)=true from by simp [h11]];rfl
  ·rw [bQ (by simpa using h11),bA,show(e.Op==11)=false from by simpa using h11];rfl
 rw [this,bA]
 cases (!(e.Op==11)&&decide ((4:Int)∈kA l.kinds p))with
 |true=>rfl
 |false=>
  show(if((i5:Int)==(0:Int))then bH l ik ask e r tl (i5+1) (kA l.kinds p) b else bH l ik ask e r tl (i5+1) a (kA l.kinds p))=if i5=0 then bH l ik ask e r tl (i5+1) (kA l.kinds p) b else bH l ik ask e r tl (i5+1) a (kA l.kinds p)
  by_cases h5:i5=0
  ·rw [bQ h5,bQ (by simp [h5])]
  ·rw [bI h5,bI (by simp;omega)]
theorem L9(h:GX ns l i)(hi:i<100)(hn:ns.length≤100){e:aw}(he:ns[i]? =some e)(hs:jX e)(hb: ¬(Pl e l.open_.reverse∧uX e=true)): ∃l',fe l (i:Int) (pM e.Op)=some (false,l'):=by
 have hol:=h.olen
 have hns:=h.nodes
 subst hns
 unfold fe
 rw [cK,he,bA,uy,bA]
 by_cases hc:(!((decide (kO e.Op<(0:Int)))||(decide ((l.open_.length:Int)<kO e.Op))))=true
 ·have hc' :0≤kO e.Op∧kO e.Op≤(l.open_.length:Int):=by simp at hc;omega
  rw [bQ hc,Dx hs hc'.1,bA,bA]
  cases ho:uX e with
  |false=>rw [bQ (by rfl)];exact⟨_,rfl⟩
  |true=>
   rw [bI (by simp)]
   obtain⟨k,hk⟩:=Int.eq_ofNat_of_zero_le hc'.1
   have hk' :k≤l.open_.length:=by omega
   rw [hk,eS (by omega) (by omega),j3 (l.open_.length-k) l.open_.length (by omega) rfl (by omega) (by omega),bA,Cd]
   by_cases hp:(tu ([(-1:Int),(-1:Int)]) (l.open_.drop (l.open_.length-k)))=([e.A,e.B])
   ·exfalso
    apply hb
    refine⟨?_,ho⟩
    have hlen:(l.open_.drop (l.open_.length-k)).length=k:=by simp;omega
    have hrev:l.open_.reverse=(l.open_.drop (l.open_.length-k)).reverse++(l.open_.take (l.open_.length-k)).reverse:=by
     rw [←List.reverse_append,sS]
    generalize hy:l.open_.drop (l.open_.length-k)=y at hlen hp hrev
    rw [hrev]
    have hk2:=uW e.Op
    match y,hlen,hp with
    |[],hlen,hp=>
     have hk0:k=0:=by simpa using hlen.symm
     have e1:([(-1:Int),(-1:Int)]:List Int)=[e.A,e.B]:=hp
     injection e1 with eA e2
     injection e2 with eB _
     exact .inl ⟨by omega,eA.symm,eB.symm⟩
    |[p],hlen,hp=>
     have hk0:k=1:=by simpa using hlen.symm
     have e1:([p,(-1:Int)]:List Int)=[e.A,e.B]:=hp
     injection e1 with eA e2
     injection e2 with eB _
     exact .inr (.inl ⟨by omega,eB.symm,_,by rw [←eA];rfl⟩)
    |[p,q],hlen,hp=>
     have hk0:k=2:=by simpa using hlen.symm
     have e1:([p,q]:List Int)=[e.A,e.B]:=hp
     injection e1 with eA e2
     injection e2 with eB _
     exact .inr (.inr ⟨by omega,_,by rw [←eA,←eB];rfl⟩)
    |_::_::_::_,hlen,_=>simp at hlen;omega
   ·rw [bQ (by simp [hp])]
    exact⟨_,rfl⟩
 ·rw [bI hc,bA,bQ rfl]
  exact⟨_,rfl⟩
theorem I8(h:GX ns l i)(hi:i<100)(hn:ns.length≤100){e:aw}(he:ns[i]? =some e)(hs:jX e)(hp:Pl e l.open_.reverse)(ho:uX e=true){ok0:Bool}{R0:List Int}(hask:pM e.Op (Ay l e (kA l.kinds e.A) (kA l.kinds e.B)) ()=some (ok0,{Ay l e (kA l.kinds e.A) (kA l.kinds e.B)with result:=R0})):
  ∃l',fe l (i:Int) (pM e.Op)=some (kM e (kA l.kinds e.A) (kA l.kinds e.B)&&(!(y6 ns e i)&&(ok0&&decide (R0.length≤16))),l')∧((kM e (kA l.kinds e.A) (kA l.kinds e.B)&&(!(y6 ns e i)&&(ok0&&decide (R0.length≤16))))=true→l'.kinds=l.kinds++[R0]∧l'.open_.reverse=(i:Int)::l.open_.reverse.drop (kO e.Op).toNat):=by
 have hol:=h.olen
 have hkl:=h.len
 have hopen:=h.open_
 have hnodes:=h.nodes
 have hrev: ∀k,k≤l.open_.length→(l.open_.take (l.open_.length-k)++[(i:Int)]).reverse=(i:Int)::l.open_.reverse.drop k:=fun k hk=>by
  rw [List.reverse_append,List.drop_reverse];rfl
 -- what is popped
 have pop: ∀(k:Nat) (y:List Int),kO e.Op=(k:Int)→k≤l.open_.length→k≤2→l.open_.drop (l.open_.length-k)=y→tu ([(-1:Int),(-1:Int)]) y=[e.A,e.B]→fe l (i:Int) (pM e.Op)=bH l (i:Int) (pM e.Op) e (k:Int) y 0 [] []:=by
  intro k y hk hkl' hk2 hy hc
  unfold fe
  rw [cK,hnodes,he,bA,uy,bA,bQ (by simp;omega),Dx hs (by omega),bA,ho,bA,bI (by simp),hk,eS (by omega) (by omega),j3 (l.open_.length-k) l.open_.length (by omega) rfl (by omega) (by omega),bA,Cd,hy,bI (by simp [hc]),bA]
 rcases hp with⟨hp,hA,hB⟩|⟨hp,hB,rest,hst⟩|⟨hp,rest,hst⟩
 ·rw [pop 0 [] hp (by omega) (by omega) (by simp) (by rw [hA,hB];rfl)]
  rw [hA,hB,wN]at hask ⊢
  have hs1:kM e [] []=true:=by unfold kM;simp
  rw [hs1,nQ]
  obtain⟨l',g1,g2⟩:=I7 (i:=i) hnodes hask (k:=0) (by omega) (by omega) (by omega) (by omega) 0
  refine⟨l',g1,fun hh=>⟨(g2 hh).1,?_⟩⟩
  rw [(g2 hh).2,hp]
  exact hrev 0 (by omega)
 ·have hl:l.open_=rest.reverse++[e.A]:=by rw [←List.reverse_reverse l.open_,hst];simp
  have hlen:l.open_.length=rest.length+1:=by rw [hl];simp
  have hAm:=hopen e.A (by rw [hl];simp)
  rw [pop 1 [e.A] hp (by omega) (by omega) (by rw [hl];simp) (by rw [hB];rfl),FP e _ e.A [] 0 [] [] hAm.1 (by omega)]
  rw [hB,wN]at hask ⊢
  have hs1:kM e (kA l.kinds e.A) []= !(!(e.Op==11)&&decide ((4:Int)∈kA l.kinds e.A)):=by unfold kM;cases (e.Op==11)<;>simp
  rw [hs1]
  cases hb:(!(e.Op==11)&&decide ((4:Int)∈kA l.kinds e.A))with
  |true=>rw [bQ rfl];exact⟨_,rfl,fun h=>by cases h⟩
  |false=>
   rw [bI (by simp),bQ rfl,Bw,nQ]
   obtain⟨l',g1,g2⟩:=I7 (i:=i) hnodes hask (k:=1) (by omega) (by omega) (by omega) (by omega) 1
   refine⟨l',g1,fun hh=>⟨(g2 hh).1,?_⟩⟩
   rw [(g2 hh).2,hp]
   exact hrev 1 (by omega)
 ·have hl:l.open_=rest.reverse++[e.A,e.B]:=by rw [←List.reverse_reverse l.open_,hst];simp
  have hlen:l.open_.length=rest.length+2:=by rw [hl];simp
  have hAm:=hopen e.A (by rw [hl];simp)
  have hBm:=hopen e.B (by rw [hl];simp)
  rw [pop 2 [e.A,e.B] hp (by omega) (by omega) (by rw [hl];simp) (by rfl),FP e _ e.A [e.B] 0 [] [] hAm.1 (by omega)]
  have hs1:kM e (kA l.kinds e.A) (kA l.kinds e.B)=(!(!(e.Op==11)&&decide ((4:Int)∈kA l.kinds e.A))&& !(!(e.Op==11)&&decide ((4:Int)∈kA l.kinds e.B))):=by unfold kM;cases (e.Op==11)<;>simp
  rw [hs1]
  cases hb:(!(e.Op==11)&&decide ((4:Int)∈kA l.kinds e.A))with
  |true=>rw [bQ rfl];exact⟨_,rfl,fun h=>by cases h⟩
  |false=>
   rw [bI (by simp),bQ rfl,FP e _ e.B [] (0+1) _ [] hBm.1 (by omega)]
   cases hb2:(!(e.Op==11)&&decide ((4:Int)∈kA l.kinds e.B))with
   |true=>rw [bQ rfl];exact⟨_,rfl,fun h=>by cases h⟩
   |false=>
    rw [bI (by simp),bI (by omega),Bw,nQ,nQ]
    obtain⟨l',g1,g2⟩:=I7 (i:=i) hnodes hask (k:=2) (by omega) (by omega) (by omega) (by omega) (0+1+1)
    refine⟨l',g1,fun hh=>⟨(g2 hh).1,?_⟩⟩
    rw [(g2 hh).2,hp]
    exact hrev 2 (by omega)
structure UM(ns:List aw)(l:aq)(i:Nat):Prop where
 k:GX ns l i
 stk:NF ns l.open_.reverse ((i:Int)-1)
 kd: ∀k∈l.kinds,Kd k
theorem SP{K:List (List Int)}(h: ∀k∈K,Kd k){p:Int}(h0:0≤p)(hp:p<(K.length:Int)):Kd (kA K p):=by
 unfold kA
 rw [bI (by omega),nP (by omega)]
 exact h _ (yS _)
theorem Md(h:UM ns l i)(hs:pb ns){e:aw}(he:ns[i]? =some e)(tl:List aw): ∃ok l',fe l (i:Int) (pM e.Op)=some (ok,l')∧(ok=true→UM ns l' (i+1)∧cW ns (e::tl) i l.kinds=cW ns tl (i+1) l'.kinds)∧(ok=false→cW ns (e::tl) i l.kinds=some ([],(i:Int))):=by
 have hi:=(pc.1 he).1
 have h90:=hs.len
 have hse:=hs.n e (qS he)
 obtain⟨s,hsz,hcase⟩:=Mi h.stk he (by omega)
 have hsz0:s5 ns (i:Int)=some (s:Int):=hsz gK (wg (Bz _) (o4 (by omega)))
 have hkl:=h.k.len
 have hopen:=h.k.open_
 by_cases hg:Pl e l.open_.reverse∧uX e=true
 ·obtain⟨hp,ho⟩:=hg
  obtain⟨hs1,hs2,_,hstk⟩:1≤s∧s≤i+1∧Pl e l.open_.reverse∧NF ns ((i:Int)::l.open_.reverse.drop (kO e.Op).toNat) (i:Int):=by
   rcases hcase with⟨_,hc⟩|hc
   ·exact absurd hp hc
   ·exact hc
  have hprt:0≤kO e.Op:=by rcases hp with h|h|h<;>omega
  have hA1:kO e.Op≠0→0≤e.A∧e.A<(i:Int):=fun hne=>by
   rcases hp with h|⟨_,_,r,hr⟩|⟨_,r,hr⟩
   ·exact absurd h.1 hne
   ·exact hopen e.A (List.mem_reverse.1 (by rw [hr];simp))
   ·exact hopen e.A (List.mem_reverse.1 (by rw [hr];simp))
  have hB1:kO e.Op=2→0≤e.B∧e.B<(i:Int):=fun h2=>by
   rcases hp with h|h|⟨_,r,hr⟩
   ·omega
   ·omega
   ·exact hopen e.B (List.mem_reverse.1 (by rw [hr];simp))
  have hpl:(kO e.Op=0→e.A= -1)∧(kO e.Op≠2→e.B= -1):=by
   rcases hp with h|h|h
   ·exact⟨fun _=>h.2.1,fun _=>h.2.2⟩
   ·exact⟨fun h' =>by omega,fun _=>h.2.1⟩
   ·exact⟨fun h' =>by omega,fun h' =>absurd h.1 h'⟩
  have hKa:kO e.Op≠0→Kd (kA l.kinds e.A):=fun hne=>SP h.kd (hA1 hne).1 (by have:=(hA1 hne).2;omega)
  have hKb:kO e.Op=2→Kd (kA l.kinds e.B):=fun h2=>SP h.kd (hB1 h2).1 (by have:=(hB1 h2).2;omega)
  have hna:kO e.Op=0→kA l.kinds e.A=[]:=fun h0=>by rw [hpl.1 h0,wN]
  have hnb:kO e.Op≠2→kA l.kinds e.B=[]:=fun h0=>by rw [hpl.2 h0,wN]
  have hlb:Lb (Ay l e (kA l.kinds e.A) (kA l.kinds e.B)):=⟨hse,Gh h.k.kinds _,Gh h.k.kinds _⟩
  -- the document's step
  have href:cW ns (e::tl) i l.kinds=ec ns (cW ns tl) i e l.kinds (lC e (kA l.kinds e.A) (kA l.kinds e.B)):=by
   conv=>lhs;unfold cW
   rw [hsz0,bA,bQ (by simp;omega),zc,ho,bA,bA,bQ rfl]
   unfold lC
   by_cases h0:kO e.Op=0
   ·rw [bI (by rw [hpl.1 h0];decide),bQ h0]
    unfold ov
    rw [bI (by rw [hpl.2 (by omega)];decide)]
   ·have hA:=hA1 h0
    rw [bQ (by simpa using hA.1),bI h0,KW hA.1 (by omega),bA,du (by simp),bA,nv]
    unfold ov
    by_cases h2:kO e.Op=2
    ·have hB:=hB1 h2
     rw [bQ (by simpa using hB.1),bI (by omega),KW hB.1 (by omega),bA,du (by simp),bA]
     rfl
    ·rw [bI (by rw [hpl.2 h2];decide),bQ (by have:=uW e.Op;omega)]
  have hK3:AN (Ay l e (kA l.kinds e.A) (kA l.kinds e.B)) (cW ns tl) i l.kinds:=by
   rcases ME hprt with h8|h9|h10|h11
   ·exact TQ hlb h8 ((Qj h8).symm.trans ho) (fun h0=>⟨hpl.1 h0,hpl.2 (by show kO e.Op≠2;have h0' :kO e.Op=0:=h0;omega),hna h0,hnb (by have h0' :kO e.Op=0:=h0;omega)⟩) (fun h1=>⟨hpl.2 (by have h0' :kO e.Op=1:=h1;omega),hKa (by have h0' :kO e.Op=1:=h1;omega),hnb (by have h0' :kO e.Op=1:=h1;omega)⟩) (fun h2=>⟨hKa (by have h0' :kO e.Op=2:=h2;omega),hKb h2⟩)
   ·have h0:kO e.Op=0:=by rw [h9];rfl
    exact OC h9 (hna h0) (hnb (by omega))
   ·have h1:kO e.Op=1:=by rw [h10];rfl
    exact JI hlb h10 ((Qi (n:=e) (.inl h10)).symm.trans ho) (hpl.2 (by omega)) (hKa (by omega)) (hnb (by omega))
   ·have h1:kO e.Op=1:=by rw [h11];rfl
    have hA:=hA1 (by omega)
    refine OD hlb h11 (hKa (by omega)) (e:=ns[e.A.toNat]'(by omega)) ?_
    show dC l.nodes e.A=_
    rw [h.k.nodes,gR e.A.toNat (by omega),nP (by omega)]
  obtain⟨ok0,R0,k,o,g1,g2,g3,g4⟩:=hK3
  have g1' :pM e.Op (Ay l e (kA l.kinds e.A) (kA l.kinds e.B)) ()=some (ok0,{Ay l e (kA l.kinds e.A) (kA l.kinds e.B)with result:=R0}):=g1
  have g2' :ec ns (cW ns tl) i e l.kinds (lC e (kA l.kinds e.A) (kA l.kinds e.B))=dx ns (cW ns tl) i e l.kinds o k:=by
   have:ec l.nodes (cW ns tl) i e l.kinds (lC e (kA l.kinds e.A) (kA l.kinds e.B))=dx l.nodes (cW ns tl) i e l.kinds o k:=g2
   rw [h.k.nodes]at this
   exact this
  have g3' :o=(kM e (kA l.kinds e.A) (kA l.kinds e.B)&&(ok0&&decide (R0.length≤16))):=g3
  obtain⟨l',t1,t2⟩:=I8 h.k (by omega) (by omega) he hse hp ho g1'
  obtain⟨ok2,l2,q1,_,q3⟩:=Ho h.k (by omega) (by omega) he hse
  rw [t1]at q1
  cases q1
  rw [href,g2']
  have hroot:(((e.Op==(8:Int))||(e.Op==(10:Int)))&&((i:Int) !=(IntKind.i64.wrap ((ns.length:Int)-(1:Int)))))=y6 ns e i:=rfl
  refine⟨_,l',t1,fun hok=>?_,fun hok=>?_⟩
  ·obtain⟨u1,u2⟩:=t2 hok
   simp only [iz,xX]at hok
   have ho1:o=true:=by rw [g3',hok.1,hok.2.2.1];simpa using hok.2.2.2
   obtain⟨v1,v2⟩:=g4 ho1
   have v1' :k=R0:=v1
   refine⟨⟨q3 (by simp only [iz,xX];exact hok),?_,fun x hx=>?_⟩,?_⟩
   ·have:(((i+1:Nat):Int)-1)=(i:Int):=by omega
    rw [u2,this]
    exact hstk
   ·rw [u1]at hx
    rcases yJ.1 hx with hx|hx
    ·exact h.kd x hx
    ·rw [AW.1 hx];exact v2
   ·unfold dx
    rw [hroot,hok.2.1,ho1,bI (by simp),du (by simp;omega),bA,u1,v1']
  ·unfold dx
   rw [hroot,bQ]
   rw [g3']
   cases h1:kM e (kA l.kinds e.A) (kA l.kinds e.B)with
   |false=>rfl
   |true=>
    rw [h1,nQ]at hok
    cases h2:y6 ns e i with
    |true=>simp
    |false=>
     rw [h2,Bw,nQ]at hok
     rw [hok];rfl
 ·obtain⟨l',t1⟩:=L9 h.k (by omega) (by omega) he hse hg
  refine⟨false,l',t1,fun h=>(by cases h),fun _=>?_⟩
  conv=>lhs;unfold cW
  rw [hsz0,bA]
  have:(if(decide ((0:Int)<(s:Int)))then((oX e).bind fun r2=>some r2)else some false)=some false:=by
   by_cases h0:0<s
   ·rw [bQ (by simpa using h0),zc,bA]
    rcases hcase with⟨hz,_⟩|⟨_,_,hp,_⟩
    ·omega
    ·cases ho:uX e with
     |false=>rfl
     |true=>exact absurd ⟨hp,ho⟩ hg
   ·rw [bI (by simpa using h0)]
  rw [this,bA,bI (by simp)]
  unfold dx
  rw [bQ (by rfl)]
theorem xW(hs:pb ns)(h1:1≤ns.length)(h60:ns.length≤60): ∀(tl:List aw) (i:Nat) (l:aq),ns.drop i=tl→i≤ns.length→UM ns l i→
  ∃out w e,iy ns ((pW).getD []) tl i (-1) l=some (out,w,e)∧((e=0∧w=0∧cW ns tl i l.kinds=some (out,-1)∧ ∀k∈out,Kd k)∨(e=291∧out=[]∧ ∃a:Nat,cW ns tl i l.kinds=some ([],(a:Int))))
 |[],i,l,hd,hle,h=>by
  have hlen:ns.length≤i:=tq hd
  have hi:i=ns.length:=by omega
  obtain⟨j,s,rest,hj,hst,g1,g2,g3,g4⟩:=h.stk.pos (by omega)
  have hjl:j=ns.length-1:=by omega
  have hsz0:s5 ns (j:Int)=some (s:Int):=g1 gK (wg (Bz _) (o4 (by omega)))
  have hw:IntKind.i64.wrap ((ns.length:Int)-(1:Int))=(j:Int):=by rw [eS (by omega) (by omega)];omega
  have holen:l.open_.length=rest.length+1:=by rw [←List.length_reverse,hst];rfl
  have hiff:(l.open_.length=1)↔s=ns.length:=by
   constructor
   ·intro h0
    have:rest=[]:=uL (by omega)
    subst this
    by_cases hz:(j:Int)-(s:Int)<0
    ·omega
    ·obtain⟨_,_,_,_,hh,_⟩:=g4.pos (by omega)
     cases hh
   ·intro h0
    have:=g4.neg (by omega)
    rw [holen,this];rfl
  unfold iy mo
  conv=>arg 1;ext;arg 1;ext;arg 1;ext;arg 2;unfold cW
  rw [hw,hsz0,bA]
  by_cases ho:l.open_.length=1
  ·rw [bI (by simp [ho]),bI (by simp [hiff.1 ho])]
   unfold mn
   rw [bI (by decide),w8 l.kinds [] (fun k hk=>by have:=h.k.kinds k hk;omega) (by have:=h.k.len;simp;omega),nv]
   exact⟨_,_,_,rfl,.inl ⟨rfl,rfl,rfl,h.kd⟩⟩
  ·have hne: ¬s=ns.length:=fun h=>ho (hiff.2 h)
   rw [bQ (by simp;omega),bQ (by simp;omega),sJ l (by omega)]
   exact⟨_,_,_,rfl,.inr ⟨rfl,rfl,j,rfl⟩⟩
 |e::tl,i,l,hd,hle,h=>by
  obtain⟨hidx,hi,hd'⟩:=lE hd
  rw [cK]at hidx
  obtain⟨ok,l',g1,g2,g3⟩:=Md h hs hidx tl
  unfold iy
  have g1' :fe l (i:Int) ((rW ((pW).getD []) e.Op).getD (fun _ _=>none))=some (ok,l'):=g1
  rw [g1',bA]
  cases ok with
  |false=>
   rw [bQ (by rfl)]
   unfold mo
   rw [bI (by simp;omega),sJ l' (by omega)]
   exact⟨_,_,_,rfl,.inr ⟨rfl,rfl,i,g3 rfl⟩⟩
  |true=>
   rw [bI (by simp),(g2 rfl).2]
   exact xW hs h1 h60 tl (i+1) l' hd' (by omega) (g2 rfl).1
end
theorem DM{ns:List aw}(hs:pb ns): ∃out w e,oC ns=some (out,w,e)∧((e=0∧w=0∧kN ns=some (out,-1)∧UX ns out∧1≤ns.length∧ns.length≤60∧ ∀k∈out,Kd k)∨(e=291∧out=[]∧ ∃a:Nat,kN ns=some ([],(a:Int)))):=by
 obtain⟨out0,w0,e0,hK,hcase⟩:=xM hs
 have hK' :=hK
 unfold oC at hK'
 unfold kN
 by_cases hc:((decide ((ns.length:Int)<(1:Int)))||(decide ((60:Int)<(ns.length:Int))))=true
 ·rw [bQ hc]at hK' ⊢
  cases hK'
  exact⟨_,_,_,hK,.inr ⟨rfl,rfl,0,rfl⟩⟩
 ·rw [bI hc]at hK' ⊢
  simp at hc
  obtain⟨out,w,e,g1,g2⟩:=xW hs (by omega) (by omega) ns 0 ⟨ns,[],[],⟨0,0,0,0,[],false,⟨[]⟩,[],[],[],[],0⟩,[],[],[]⟩ rfl (jz _) ⟨⟨rfl,rfl,fun p hp=>(by cases hp),gB _,fun k hk=>(by cases hk),fun j hj=>by omega⟩,.nil,fun k hk=>by cases hk⟩
  have g1' :iy ns ((pW).getD []) ns 0 (-1) ⟨ns,[],[],⟨0,0,0,0,[],false,⟨[]⟩,[],[],[],[],0⟩,[],[],[]⟩=some (out0,w0,e0):=hK'
  rw [g1]at g1'
  cases g1'
  refine⟨_,_,_,hK,?_⟩
  rcases g2 with⟨q1,q2,q3,q4⟩|⟨q1,q2,q3⟩
  ·rcases hcase with⟨_,_,p3,p4,p5⟩|⟨p1,_⟩
   ·exact .inl ⟨q1,q2,q3,p3,p4,p5,q4⟩
   ·rw [q1]at p1;exact absurd p1 (by decide)
  ·exact .inr ⟨q1,q2,q3⟩
end Go.Proofs.YtmogpgcfognefaaGreatDoor

