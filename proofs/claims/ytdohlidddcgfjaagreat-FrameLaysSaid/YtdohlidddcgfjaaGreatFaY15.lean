/- cT of this claim: Y15. -/
import Derived.Test.YtdohlidddcgfjaaGreatFaY14
import Derived.Test.YtdohlidddcgfjaaGreatFaY6
set_option linter.all false
namespace Go.Proofs.YtdohlidddcgfjaaGreat
open Go

section
variable{ns:List ap}{l:al}{i:Nat}
def zg(l:al)(e:ap)(a b:List Int):al:={l with n:=e,a_:=a,b:=b}
def ye(ns:List ap)(e:ap)(i:Nat):Bool:=((e.Op==8)||(e.Op==10))&&((i:Int) !=IntKind.i64.wrap ((ns.length:Int)-(1:Int)))
theorem Hh(hn:l.nodes=ns){e:ap}{a b:List Int}{ok0:Bool}{R0:List Int}(hask:oN e.Op (zg l e a b) ()=some (ok0,{zg l e a b with result:=R0})){k:Nat}(hk:k≤l.open_.length)(hk2:k≤2)(ho:l.open_.length≤1000)(hkl:l.kinds.length≤1000)(i5:Nat):
  ∃l',bh l (i:Int) (oN e.Op) e (k:Int) [] i5 a b=some (!(ye ns e i)&&(ok0&&decide (R0.length≤16)),l')∧((!(ye ns e i)&&(ok0&&decide (R0.length≤16)))=true→l'.kinds=l.kinds++[R0]∧l'.open_=l.open_.take (l.open_.length-k)++[(i:Int)]):=by
 unfold bh
 show∃l',(if(((e.Op==(8:Int))||(e.Op==(10:Int)))&&((i:Int) !=(IntKind.i64.wrap ((l.nodes.length:Int)-(1:Int)))))then some (false,zg l e a b)else(oN e.Op (zg l e a b) ()).bind _)=_∧_
 have hroot:(((e.Op==(8:Int))||(e.Op==(10:Int)))&&((i:Int) !=(IntKind.i64.wrap ((ns.length:Int)-(1:Int)))))=ye ns e i:=rfl
 rw [hn,hroot]
 by_cases hr:ye ns e i=true
 ·rw [bq hr,hr]
  exact⟨_,rfl,fun h=>by cases h⟩
 ·have hr' :ye ns e i=false:=by simpa using hr
  rw [aW hr,hask,bj,hr',xL,mZ]
  by_cases hc:((!ok0)||(decide ((16:Int)<(R0.length:Int))))=true
  ·have hc' :(ok0&&decide (R0.length≤16))=false:=by
    cases ok0 with
    |false=>rfl
    |true=>simp at hc ⊢;omega
   rw [bq hc,hc']
   exact⟨_,rfl,fun h=>by cases h⟩
  ·have hc' :(ok0&&decide (R0.length≤16))=true:=by
    cases ok0 with
    |false=>simp at hc
    |true=>simp at hc ⊢;omega
   rw [aW hc,hc']
   show∃l',((gn l.kinds [R0]).bind fun l1' =>(eP l.open_ 0 (IntKind.i64.wrap ((l.open_.length:Int)-(k:Int)))).bind fun y2=>(gn y2 [(i:Int)]).bind fun l2=>some (true,({({({zg l e a b with result:=R0}:al)with kinds:=l1' }:al)with open_:=l2}:al)))=_∧_
   rw [bH (by simp;omega),bj,eC (by omega) (by omega),jS 0 (l.open_.length-k) (show(0:Int)=((0:Nat):Int)from rfl) (by omega) (by omega) (by omega),bj,bH (by simp;omega),bj,xd]
   exact⟨_,rfl,fun _=>⟨rfl,rfl⟩⟩
theorem DP(e:ap)(r:Int)(p:Int)(tl:List Int)(i5:Nat)(a b:List Int)(h0:0≤p)(h:p<(l.kinds.length:Int))(ask:al→Unit→Option (Bool×al))(ik:Int):
  bh l ik ask e r (p::tl) i5 a b=if(!(e.Op==11)&&decide ((4:Int)∈kA l.kinds p))=true then some (false,zg l e a b)else if i5=0 then bh l ik ask e r tl (i5+1) (kA l.kinds p) b else bh l ik ask e r tl (i5+1) a (kA l.kinds p):=by
 have step:bh l ik ask e r (p::tl) i5 a b=(if(e.Op !=(11:Int))then((fN (kA l.kinds p) (4:Int)).bind fun r3=>some r3)else some false).bind fun t1=>
   if t1 then some (false,zg l e a b)
   else if((i5:Int)==(0:Int))then bh l ik ask e r tl (i5+1) (kA l.kinds p) b else bh l ik ask e r tl (i5+1) a (kA l.kinds p):=by
  conv=>lhs;unfold bh
  rw [IU h0 h,bj]
  rfl
 rw [step,uX]
 have:(if(e.Op !=(11:Int))then((some (decide ((4:Int)∈kA l.kinds p))).bind fun r3=>some r3)else some false)=some (!(e.Op==11)&&decide ((4:Int)∈kA l.kinds p)):=by
  by_cases h11:e.Op=11
  ·rw [aW (by simp [h11]),show(e.Op==11)=true from by simp [h11]];rfl
  ·rw [bq (by simpa using h11),bj,show(e.Op==11)=false from by simpa using h11];rfl
 rw [this,bj]
 cases (!(e.Op==11)&&decide ((4:Int)∈kA l.kinds p))with
 |true=>rfl
 |false=>
  show(if((i5:Int)==(0:Int))then bh l ik ask e r tl (i5+1) (kA l.kinds p) b else bh l ik ask e r tl (i5+1) a (kA l.kinds p))=if i5=0 then bh l ik ask e r tl (i5+1) (kA l.kinds p) b else bh l ik ask e r tl (i5+1) a (kA l.kinds p)
  by_cases h5:i5=0
  ·rw [bq h5,bq (by simp [h5])]
  ·rw [aW h5,aW (by simp;omega)]
theorem JF(h:ER ns l i)(hi:i<100)(hn:ns.length≤100){e:ap}(he:ns[i]? =some e)(hs:jg e)(hb: ¬(R7 e l.open_.reverse∧tK e=true)): ∃l',dO l (i:Int) (oN e.Op)=some (false,l'):=by
 have hol:=h.olen
 have hns:=h.nodes
 subst hns
 unfold dO
 rw [dJ,he,bj,td,bj]
 by_cases hc:(!((decide (lO e.Op<(0:Int)))||(decide ((l.open_.length:Int)<lO e.Op))))=true
 ·have hc' :0≤lO e.Op∧lO e.Op≤(l.open_.length:Int):=by simp at hc;omega
  rw [bq hc,BV hs hc'.1,bj,bj]
  cases ho:tK e with
  |false=>rw [bq (by rfl)];exact⟨_,rfl⟩
  |true=>
   rw [aW (by simp)]
   obtain⟨k,hk⟩:=Int.eq_ofNat_of_zero_le hc'.1
   have hk' :k≤l.open_.length:=by omega
   rw [hk,eC (by omega) (by omega),jS (l.open_.length-k) l.open_.length (by omega) rfl (by omega) (by omega),bj,xN]
   by_cases hp:(rj ([(-1:Int),(-1:Int)]) (l.open_.drop (l.open_.length-k)))=([e.A,e.B])
   ·exfalso
    apply hb
    refine⟨?_,ho⟩
    have hlen:(l.open_.drop (l.open_.length-k)).length=k:=by simp;omega
    have hrev:l.open_.reverse=(l.open_.drop (l.open_.length-k)).reverse++(l.open_.take (l.open_.length-k)).reverse:=by
     rw [←List.reverse_append,tt]
    generalize hy:l.open_.drop (l.open_.length-k)=y at hlen hp hrev
    rw [hrev]
    have hk2:=tJ e.Op
    match y,hlen,hp with
    |[],hlen,hp=>
     have hk0:k=0:=by simpa using hlen.symm
     have e1:([(-1:Int),(-1:Int)]:List Int)=[e.A,e.B]:=hp
     injection e1 with eA e2
     injection e2 with eB _
     exact .inl ⟨by omega,eA.symm,eB.symm⟩
    |[p],hlen,hp=>
     have hk0:k=1:=by simpa using hlen.symm
     have e1:([p,(-1:Int)]:List Int)=[e.A,e.B]:=hp
     injection e1 with eA e2
     injection e2 with eB _
     exact .inr (.inl ⟨by omega,eB.symm,_,by rw [←eA];rfl⟩)
    |[p,q],hlen,hp=>
     have hk0:k=2:=by simpa using hlen.symm
     have e1:([p,q]:List Int)=[e.A,e.B]:=hp
     injection e1 with eA e2
     injection e2 with eB _
     exact .inr (.inr ⟨by omega,_,by rw [←eA,←eB];rfl⟩)
    |_::_::_::_,hlen,_=>simp at hlen;omega
   ·rw [bq (by simp [hp])]
    exact⟨_,rfl⟩
 ·rw [aW hc,bj,bq rfl]
  exact⟨_,rfl⟩
theorem Hi(h:ER ns l i)(hi:i<100)(hn:ns.length≤100){e:ap}(he:ns[i]? =some e)(hs:jg e)(hp:R7 e l.open_.reverse)(ho:tK e=true){ok0:Bool}{R0:List Int}(hask:oN e.Op (zg l e (kA l.kinds e.A) (kA l.kinds e.B)) ()=some (ok0,{zg l e (kA l.kinds e.A) (kA l.kinds e.B)with result:=R0})):
  ∃l',dO l (i:Int) (oN e.Op)=some (jM e (kA l.kinds e.A) (kA l.kinds e.B)&&(!(ye ns e i)&&(ok0&&decide (R0.length≤16))),l')∧((jM e (kA l.kinds e.A) (kA l.kinds e.B)&&(!(ye ns e i)&&(ok0&&decide (R0.length≤16))))=true→l'.kinds=l.kinds++[R0]∧l'.open_.reverse=(i:Int)::l.open_.reverse.drop (lO e.Op).toNat):=by
 have hol:=h.olen
 have hkl:=h.len
 have hopen:=h.open_
 have hnodes:=h.nodes
 have hrev: ∀k,k≤l.open_.length→(l.open_.take (l.open_.length-k)++[(i:Int)]).reverse=(i:Int)::l.open_.reverse.drop k:=fun k hk=>by
  rw [List.reverse_append,List.drop_reverse];rfl
 -- what is popped
 have pop: ∀(k:Nat) (y:List Int),lO e.Op=(k:Int)→k≤l.open_.length→k≤2→l.open_.drop (l.open_.length-k)=y→rj ([(-1:Int),(-1:Int)]) y=[e.A,e.B]→dO l (i:Int) (oN e.Op)=bh l (i:Int) (oN e.Op) e (k:Int) y 0 [] []:=by
  intro k y hk hkl' hk2 hy hc
  unfold dO
  rw [dJ,hnodes,he,bj,td,bj,bq (by simp;omega),BV hs (by omega),bj,ho,bj,aW (by simp),hk,eC (by omega) (by omega),jS (l.open_.length-k) l.open_.length (by omega) rfl (by omega) (by omega),bj,xN,hy,aW (by simp [hc]),bj]
 rcases hp with⟨hp,hA,hB⟩|⟨hp,hB,rest,hst⟩|⟨hp,rest,hst⟩
 ·rw [pop 0 [] hp (by omega) (by omega) (by simp) (by rw [hA,hB];rfl)]
  rw [hA,hB,zh]at hask ⊢
  have hs1:jM e [] []=true:=by unfold jM;simp
  rw [hs1,mZ]
  obtain⟨l',g1,g2⟩:=Hh (i:=i) hnodes hask (k:=0) (by omega) (by omega) (by omega) (by omega) 0
  refine⟨l',g1,fun hh=>⟨(g2 hh).1,?_⟩⟩
  rw [(g2 hh).2,hp]
  exact hrev 0 (by omega)
 ·have hl:l.open_=rest.reverse++[e.A]:=by rw [←List.reverse_reverse l.open_,hst];simp
  have hlen:l.open_.length=rest.length+1:=by rw [hl];simp
  have hAm:=hopen e.A (by rw [hl];simp)
  rw [pop 1 [e.A] hp (by omega) (by omega) (by rw [hl];simp) (by rw [hB];rfl),DP e _ e.A [] 0 [] [] hAm.1 (by omega)]
  rw [hB,zh]at hask ⊢
  have hs1:jM e (kA l.kinds e.A) []= !(!(e.Op==11)&&decide ((4:Int)∈kA l.kinds e.A)):=by unfold jM;cases (e.Op==11)<;>simp
  rw [hs1]
  cases hb:(!(e.Op==11)&&decide ((4:Int)∈kA l.kinds e.A))with
  |true=>rw [bq rfl];exact⟨_,rfl,fun h=>by cases h⟩
  |false=>
   rw [aW (by simp),bq rfl,xL,mZ]
   obtain⟨l',g1,g2⟩:=Hh (i:=i) hnodes hask (k:=1) (by omega) (by omega) (by omega) (by omega) 1
   refine⟨l',g1,fun hh=>⟨(g2 hh).1,?_⟩⟩
   rw [(g2 hh).2,hp]
   exact hrev 1 (by omega)
 ·have hl:l.open_=rest.reverse++[e.A,e.B]:=by rw [←List.reverse_reverse l.open_,hst];simp
  have hlen:l.open_.length=rest.length+2:=by rw [hl];simp
  have hAm:=hopen e.A (by rw [hl];simp)
  have hBm:=hopen e.B (by rw [hl];simp)
  rw [pop 2 [e.A,e.B] hp (by omega) (by omega) (by rw [hl];simp) (by rfl),DP e _ e.A [e.B] 0 [] [] hAm.1 (by omega)]
  have hs1:jM e (kA l.kinds e.A) (kA l.kinds e.B)=(!(!(e.Op==11)&&decide ((4:Int)∈kA l.kinds e.A))&& !(!(e.Op==11)&&decide ((4:Int)∈kA l.kinds e.B))):=by unfold jM;cases (e.Op==11)<;>simp
  rw [hs1]
  cases hb:(!(e.Op==11)&&decide ((4:Int)∈kA l.kinds e.A))with
  |true=>rw [bq rfl];exact⟨_,rfl,fun h=>by cases h⟩
  |false=>
   rw [aW (by simp),bq rfl,DP e _ e.B [] (0+1) _ [] hBm.1 (by omega)]
   cases hb2:(!(e.Op==11)&&decide ((4:Int)∈kA l.kinds e.B))with
   |true=>rw [bq rfl];exact⟨_,rfl,fun h=>by cases h⟩
   |false=>
    rw [aW (by simp),aW (by omega),xL,mZ,mZ]
    obtain⟨l',g1,g2⟩:=Hh (i:=i) hnodes hask (k:=2) (by omega) (by omega) (by omega) (by omega) (0+1+1)
    refine⟨l',g1,fun hh=>⟨(g2 hh).1,?_⟩⟩
    rw [(g2 hh).2,hp]
    exact hrev 2 (by omega)
structure Pj(ns:List ap)(l:al)(i:Nat):Prop where
 k:ER ns l i
 stk:KU ns l.open_.reverse ((i:Int)-1)
 kd: ∀k∈l.kinds,Kd k
theorem Pw{K:List (List Int)}(h: ∀k∈K,Kd k){p:Int}(h0:0≤p)(hp:p<(K.length:Int)):Kd (kA K p):=by
 unfold kA
 rw [aW (by omega),kW (by omega)]
 exact h _ (CQ _)
theorem C0(h:Pj ns l i)(hs:rE ns){e:ap}(he:ns[i]? =some e)(tl:List ap): ∃ok l',dO l (i:Int) (oN e.Op)=some (ok,l')∧(ok=true→Pj ns l' (i+1)∧cC ns (e::tl) i l.kinds=cC ns tl (i+1) l'.kinds)∧(ok=false→cC ns (e::tl) i l.kinds=some ([],(i:Int))):=by
 have hi:=(kF.1 he).1
 have h90:=hs.len
 have hse:=hs.n e (qM he)
 obtain⟨s,hsz,hcase⟩:=JN h.stk he (by omega)
 have hsz0:rZ ns (i:Int)=some (s:Int):=hsz ef (vd (yT _) (m8 (by omega)))
 have hkl:=h.k.len
 have hopen:=h.k.open_
 by_cases hg:R7 e l.open_.reverse∧tK e=true
 ·obtain⟨hp,ho⟩:=hg
  obtain⟨hs1,hs2,_,hstk⟩:1≤s∧s≤i+1∧R7 e l.open_.reverse∧KU ns ((i:Int)::l.open_.reverse.drop (lO e.Op).toNat) (i:Int):=by
   rcases hcase with⟨_,hc⟩|hc
   ·exact absurd hp hc
   ·exact hc
  have hprt:0≤lO e.Op:=by rcases hp with h|h|h<;>omega
  have hA1:lO e.Op≠0→0≤e.A∧e.A<(i:Int):=fun hne=>by
   rcases hp with h|⟨_,_,r,hr⟩|⟨_,r,hr⟩
   ·exact absurd h.1 hne
   ·exact hopen e.A (List.mem_reverse.1 (by rw [hr];simp))
   ·exact hopen e.A (List.mem_reverse.1 (by rw [hr];simp))
  have hB1:lO e.Op=2→0≤e.B∧e.B<(i:Int):=fun h2=>by
   rcases hp with h|h|⟨_,r,hr⟩
   ·omega
   ·omega
   ·exact hopen e.B (List.mem_reverse.1 (by rw [hr];simp))
  have hpl:(lO e.Op=0→e.A= -1)∧(lO e.Op≠2→e.B= -1):=by
   rcases hp with h|h|h
   ·exact⟨fun _=>h.2.1,fun _=>h.2.2⟩
   ·exact⟨fun h' =>by omega,fun _=>h.2.1⟩
   ·exact⟨fun h' =>by omega,fun h' =>absurd h.1 h'⟩
  have hKa:lO e.Op≠0→Kd (kA l.kinds e.A):=fun hne=>Pw h.kd (hA1 hne).1 (by have:=(hA1 hne).2;omega)
  have hKb:lO e.Op=2→Kd (kA l.kinds e.B):=fun h2=>Pw h.kd (hB1 h2).1 (by have:=(hB1 h2).2;omega)
  have hna:lO e.Op=0→kA l.kinds e.A=[]:=fun h0=>by rw [hpl.1 h0,zh]
  have hnb:lO e.Op≠2→kA l.kinds e.B=[]:=fun h0=>by rw [hpl.2 h0,zh]
  have hlb:Lb (zg l e (kA l.kinds e.A) (kA l.kinds e.B)):=⟨hse,Ej h.k.kinds _,Ej h.k.kinds _⟩
  -- the document's step
  have href:cC ns (e::tl) i l.kinds=dU ns (cC ns tl) i e l.kinds (ki e (kA l.kinds e.A) (kA l.kinds e.B)):=by
   conv=>lhs;unfold cC
   rw [hsz0,bj,bq (by simp;omega),yh,ho,bj,bj,bq rfl]
   unfold ki
   by_cases h0:lO e.Op=0
   ·rw [aW (by rw [hpl.1 h0];decide),bq h0]
    unfold ny
    rw [aW (by rw [hpl.2 (by omega)];decide)]
   ·have hA:=hA1 h0
    rw [bq (by simpa using hA.1),aW h0,IU hA.1 (by omega),bj,bH (by simp),bj,lL]
    unfold ny
    by_cases h2:lO e.Op=2
    ·have hB:=hB1 h2
     rw [bq (by simpa using hB.1),aW (by omega),IU hB.1 (by omega),bj,bH (by simp),bj]
     rfl
    ·rw [aW (by rw [hpl.2 h2];decide),bq (by have:=tJ e.Op;omega)]
  have hK3:zz (zg l e (kA l.kinds e.A) (kA l.kinds e.B)) (cC ns tl) i l.kinds:=by
   rcases J4 hprt with h8|h9|h10|h11
   ·exact QD hlb h8 ((Nr h8).symm.trans ho) (fun h0=>⟨hpl.1 h0,hpl.2 (by show lO e.Op≠2;have h0' :lO e.Op=0:=h0;omega),hna h0,hnb (by have h0' :lO e.Op=0:=h0;omega)⟩) (fun h1=>⟨hpl.2 (by have h0' :lO e.Op=1:=h1;omega),hKa (by have h0' :lO e.Op=1:=h1;omega),hnb (by have h0' :lO e.Op=1:=h1;omega)⟩) (fun h2=>⟨hKa (by have h0' :lO e.Op=2:=h2;omega),hKb h2⟩)
   ·have h0:lO e.Op=0:=by rw [h9];rfl
    exact LV h9 (hna h0) (hnb (by omega))
   ·have h1:lO e.Op=1:=by rw [h10];rfl
    exact HI hlb h10 ((Nq (n:=e) (.inl h10)).symm.trans ho) (hpl.2 (by omega)) (hKa (by omega)) (hnb (by omega))
   ·have h1:lO e.Op=1:=by rw [h11];rfl
    have hA:=hA1 (by omega)
    refine LW hlb h11 (hKa (by omega)) (e:=ns[e.A.toNat]'(by omega)) ?_
    show gj l.nodes e.A=_
    rw [h.k.nodes,lC e.A.toNat (by omega),kW (by omega)]
  obtain⟨ok0,R0,k,o,g1,g2,g3,g4⟩:=hK3
  have g1' :oN e.Op (zg l e (kA l.kinds e.A) (kA l.kinds e.B)) ()=some (ok0,{zg l e (kA l.kinds e.A) (kA l.kinds e.B)with result:=R0}):=g1
  have g2' :dU ns (cC ns tl) i e l.kinds (ki e (kA l.kinds e.A) (kA l.kinds e.B))=dg ns (cC ns tl) i e l.kinds o k:=by
   have:dU l.nodes (cC ns tl) i e l.kinds (ki e (kA l.kinds e.A) (kA l.kinds e.B))=dg l.nodes (cC ns tl) i e l.kinds o k:=g2
   rw [h.k.nodes]at this
   exact this
  have g3' :o=(jM e (kA l.kinds e.A) (kA l.kinds e.B)&&(ok0&&decide (R0.length≤16))):=g3
  obtain⟨l',t1,t2⟩:=Hi h.k (by omega) (by omega) he hse hp ho g1'
  obtain⟨ok2,l2,q1,_,q3⟩:=Fm h.k (by omega) (by omega) he hse
  rw [t1]at q1
  cases q1
  rw [href,g2']
  have hroot:(((e.Op==(8:Int))||(e.Op==(10:Int)))&&((i:Int) !=(IntKind.i64.wrap ((ns.length:Int)-(1:Int)))))=ye ns e i:=rfl
  refine⟨_,l',t1,fun hok=>?_,fun hok=>?_⟩
  ·obtain⟨u1,u2⟩:=t2 hok
   simp only [gX,DD]at hok
   have ho1:o=true:=by rw [g3',hok.1,hok.2.2.1];simpa using hok.2.2.2
   obtain⟨v1,v2⟩:=g4 ho1
   have v1' :k=R0:=v1
   refine⟨⟨q3 (by simp only [gX,DD];exact hok),?_,fun x hx=>?_⟩,?_⟩
   ·have:(((i+1:Nat):Int)-1)=(i:Int):=by omega
    rw [u2,this]
    exact hstk
   ·rw [u1]at hx
    rcases yS.1 hx with hx|hx
    ·exact h.kd x hx
    ·rw [Cj.1 hx];exact v2
   ·unfold dg
    rw [hroot,hok.2.1,ho1,aW (by simp),bH (by simp;omega),bj,u1,v1']
  ·unfold dg
   rw [hroot,bq]
   rw [g3']
   cases h1:jM e (kA l.kinds e.A) (kA l.kinds e.B)with
   |false=>rfl
   |true=>
    rw [h1,mZ]at hok
    cases h2:ye ns e i with
    |true=>simp
    |false=>
     rw [h2,xL,mZ]at hok
     rw [hok];rfl
 ·obtain⟨l',t1⟩:=JF h.k (by omega) (by omega) he hse hg
  refine⟨false,l',t1,fun h=>(by cases h),fun _=>?_⟩
  conv=>lhs;unfold cC
  rw [hsz0,bj]
  have:(if(decide ((0:Int)<(s:Int)))then((n7 e).bind fun r2=>some r2)else some false)=some false:=by
   by_cases h0:0<s
   ·rw [bq (by simpa using h0),yh,bj]
    rcases hcase with⟨hz,_⟩|⟨_,_,hp,_⟩
    ·omega
    ·cases ho:tK e with
     |false=>rfl
     |true=>exact absurd ⟨hp,ho⟩ hg
   ·rw [aW (by simpa using h0)]
  rw [this,bj,aW (by simp)]
  unfold dg
  rw [bq (by rfl)]
theorem xc(hs:rE ns)(h1:1≤ns.length)(h60:ns.length≤60): ∀(tl:List ap) (i:Nat) (l:al),ns.drop i=tl→i≤ns.length→Pj ns l i→
  ∃out w e,gh ns ((mN).getD []) tl i (-1) l=some (out,w,e)∧((e=0∧w=0∧cC ns tl i l.kinds=some (out,-1)∧ ∀k∈out,Kd k)∨(e=291∧out=[]∧ ∃a:Nat,cC ns tl i l.kinds=some ([],(a:Int))))
 |[],i,l,hd,hle,h=>by
  have hlen:ns.length≤i:=BM hd
  have hi:i=ns.length:=by omega
  obtain⟨j,s,rest,hj,hst,g1,g2,g3,g4⟩:=h.stk.pos (by omega)
  have hjl:j=ns.length-1:=by omega
  have hsz0:rZ ns (j:Int)=some (s:Int):=g1 ef (vd (yT _) (m8 (by omega)))
  have hw:IntKind.i64.wrap ((ns.length:Int)-(1:Int))=(j:Int):=by rw [eC (by omega) (by omega)];omega
  have holen:l.open_.length=rest.length+1:=by rw [←List.length_reverse,hst];rfl
  have hiff:(l.open_.length=1)↔s=ns.length:=by
   constructor
   ·intro h0
    have:rest=[]:=tv (by omega)
    subst this
    by_cases hz:(j:Int)-(s:Int)<0
    ·omega
    ·obtain⟨_,_,_,_,hh,_⟩:=g4.pos (by omega)
     cases hh
   ·intro h0
    have:=g4.neg (by omega)
    rw [holen,this];rfl
  unfold gh jN
  conv=>arg 1;ext;arg 1;ext;arg 1;ext;arg 2;unfold cC
  rw [hw,hsz0,bj]
  by_cases ho:l.open_.length=1
  ·rw [aW (by simp [ho]),aW (by simp [hiff.1 ho])]
   unfold lb
   rw [aW (by decide),wd l.kinds [] (fun k hk=>by have:=h.k.kinds k hk;omega) (by have:=h.k.len;simp;omega),lL]
   exact⟨_,_,_,rfl,.inl ⟨rfl,rfl,rfl,h.kd⟩⟩
  ·have hne: ¬s=ns.length:=fun h=>ho (hiff.2 h)
   rw [bq (by simp;omega),bq (by simp;omega),pQ l (by omega)]
   exact⟨_,_,_,rfl,.inr ⟨rfl,rfl,j,rfl⟩⟩
 |e::tl,i,l,hd,hle,h=>by
  obtain⟨hidx,hi,hd'⟩:=ij hd
  rw [dJ]at hidx
  obtain⟨ok,l',g1,g2,g3⟩:=C0 h hs hidx tl
  unfold gh
  have g1' :dO l (i:Int) ((tg ((mN).getD []) e.Op).getD (fun _ _=>none))=some (ok,l'):=g1
  rw [g1',bj]
  cases ok with
  |false=>
   rw [bq (by rfl)]
   unfold jN
   rw [aW (by simp;omega),pQ l' (by omega)]
   exact⟨_,_,_,rfl,.inr ⟨rfl,rfl,i,g3 rfl⟩⟩
  |true=>
   rw [aW (by simp),(g2 rfl).2]
   exact xc hs h1 h60 tl (i+1) l' hd' (by omega) (g2 rfl).1
end
theorem Ig{ns:List ap}(hs:rE ns): ∃out w e,lc ns=some (out,w,e)∧((e=0∧w=0∧nz ns=some (out,-1)∧KOK ns out∧1≤ns.length∧ns.length≤60∧ ∀k∈out,Kd k)∨(e=291∧out=[]∧ ∃a:Nat,nz ns=some ([],(a:Int)))):=by
 obtain⟨out0,w0,e0,hK,hcase⟩:=Cu hs
 have hK' :=hK
 unfold lc at hK'
 unfold nz
 by_cases hc:((decide ((ns.length:Int)<(1:Int)))||(decide ((60:Int)<(ns.length:Int))))=true
 ·rw [bq hc]at hK' ⊢
  cases hK'
  exact⟨_,_,_,hK,.inr ⟨rfl,rfl,0,rfl⟩⟩
 ·rw [aW hc]at hK' ⊢
  simp at hc
  obtain⟨out,w,e,g1,g2⟩:=xc hs (by omega) (by omega) ns 0 ⟨ns,[],[],⟨0,0,0,0,[],false,⟨[]⟩,[],[],[],[],0⟩,[],[],[]⟩ rfl (nU _) ⟨⟨rfl,rfl,fun p hp=>(by cases hp),eE _,fun k hk=>(by cases hk),fun j hj=>by omega⟩,.nil,fun k hk=>by cases hk⟩
  have g1' :gh ns ((mN).getD []) ns 0 (-1) ⟨ns,[],[],⟨0,0,0,0,[],false,⟨[]⟩,[],[],[],[],0⟩,[],[],[]⟩=some (out0,w0,e0):=hK'
  rw [g1]at g1'
  cases g1'
  refine⟨_,_,_,hK,?_⟩
  rcases g2 with⟨q1,q2,q3,q4⟩|⟨q1,q2,q3⟩
  ·rcases hcase with⟨_,_,p3,p4,p5⟩|⟨p1,_⟩
   ·exact .inl ⟨q1,q2,q3,p3,p4,p5,q4⟩
   ·rw [q1]at p1;exact absurd p1 (by decide)
  ·exact .inr ⟨q1,q2,q3⟩
end Go.Proofs.YtdohlidddcgfjaaGreat

