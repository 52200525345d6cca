/- co of this claim: Y15. -/
import Derived.Test.YtmogpgcfognefaaGreatDoorNeY14
import Derived.Test.YtmogpgcfognefaaGreatDoorNeY6
set_option linter.all false
namespace Go.Proofs.YtmogpgcfognefaaGreatDoor
open Go

section
variable{ns:List aK}{l:al}{i:Nat}
def AG(l:al)(e:aK)(a b:List Int):al:={l with n:=e,a_:=a,b:=b}
def wt(ns:List aK)(e:aK)(i:Nat):Bool:=((e.Op==8)||(e.Op==10))&&((i:Int) !=IntKind.i64.wrap ((ns.length:Int)-(1:Int)))
theorem HA(hn:l.nodes=ns){e:aK}{a b:List Int}{ok0:Bool}{R0:List Int}(hask:rk e.Op (AG l e a b) ()=some (ok0,{AG l e a b with result:=R0})){k:Nat}(hk:k≤l.open_.length)(hk2:k≤2)(ho:l.open_.length≤1000)(hkl:l.kinds.length≤1000)(i5:Nat):
  ∃l',bh l (i:Int) (rk e.Op) e (k:Int) [] i5 a b=some (!(wt ns e i)&&(ok0&&decide (R0.length≤16)),l')∧((!(wt ns e i)&&(ok0&&decide (R0.length≤16)))=true→l'.kinds=l.kinds++[R0]∧l'.open_=l.open_.take (l.open_.length-k)++[(i:Int)]):=by
 unfold bh
 show∃l',(if(((e.Op==(8:Int))||(e.Op==(10:Int)))&&((i:Int) !=(IntKind.i64.wrap ((l.nodes.length:Int)-(1:Int)))))then some (false,AG l e a b)else(rk e.Op (AG l e a b) ()).bind _)=_∧_
 have hroot:(((e.Op==(8:Int))||(e.Op==(10:Int)))&&((i:Int) !=(IntKind.i64.wrap ((ns.length:Int)-(1:Int)))))=wt ns e i:=rfl
 rw [hn,hroot]
 by_cases hr:wt ns e i=true
 ·rw [dy hr,hr]
  exact⟨_,rfl,fun h=>by cases h⟩
 ·have hr' :wt ns e i=false:=by simpa using hr
  rw [dd hr,hask,cq,hr',xo,Ak]
  by_cases hc:((!ok0)||(decide ((16:Int)<(R0.length:Int))))=true
  ·have hc' :(ok0&&decide (R0.length≤16))=false:=by
    cases ok0 with
    |false=>rfl
    |true=>simp at hc ⊢;omega
   rw [dy hc,hc']
   exact⟨_,rfl,fun h=>by cases h⟩
  ·have hc' :(ok0&&decide (R0.length≤16))=true:=by
    cases ok0 with
    |false=>simp at hc
    |true=>simp at hc ⊢;omega
   rw [dd hc,hc']
   show∃l',((kE l.kinds [R0]).bind fun l1' =>(dq l.open_ 0 (IntKind.i64.wrap ((l.open_.length:Int)-(k:Int)))).bind fun y2=>(kE y2 [(i:Int)]).bind fun l2=>some (true,({({({AG l e a b with result:=R0}:al)with kinds:=l1' }:al)with open_:=l2}:al)))=_∧_
   rw [dM (by simp;omega),cq,lW (by omega) (by omega),iw 0 (l.open_.length-k) (show(0:Int)=((0:Nat):Int)from rfl) (by omega) (by omega) (by omega),cq,dM (by simp;omega),cq,uc]
   exact⟨_,rfl,fun _=>⟨rfl,rfl⟩⟩
theorem EC(e:aK)(r:Int)(p:Int)(tl:List Int)(i5:Nat)(a b:List Int)(h0:0≤p)(h:p<(l.kinds.length:Int))(ask:al→Unit→Option (Bool×al))(ik:Int):
  bh l ik ask e r (p::tl) i5 a b=if(!(e.Op==11)&&decide ((4:Int)∈kA l.kinds p))=true then some (false,AG l e a b)else if i5=0 then bh l ik ask e r tl (i5+1) (kA l.kinds p) b else bh l ik ask e r tl (i5+1) a (kA l.kinds p):=by
 have step:bh l ik ask e r (p::tl) i5 a b=(if(e.Op !=(11:Int))then((df (kA l.kinds p) (4:Int)).bind fun r3=>some r3)else some false).bind fun t1=>
   if t1 then some (false,AG l e a b)
   else if((i5:Int)==(0:Int))then bh l ik ask e r tl (i5+1) (kA l.kinds p) b else bh l ik ask e r tl (i5+1) a (kA l.kinds p):=by
  conv=>lhs;unfold bh
  rw [Rw h0 h,cq]
  rfl
 rw [step,pP]
 have:(if(e.Op !=(11:Int))then((some (decide ((4:Int)∈kA l.kinds p))).bind fun r3=>some r3)else some false)=some (!(e.Op==11)&&decide ((4:Int)∈kA l.kinds p)):=by
  by_cases h11:e.Op=11
  ·rw [dd (by simp [h11]),show(e.Op==11)=true from by simp [h11]];rfl
  ·rw [dy (by simpa using h11),cq,show(e.Op==11)=false from by simpa using h11];rfl
 rw [this,cq]
 cases (!(e.Op==11)&&decide ((4:Int)∈kA l.kinds p))with
 |true=>rfl
 |false=>
  show(if((i5:Int)==(0:Int))then bh l ik ask e r tl (i5+1) (kA l.kinds p) b else bh l ik ask e r tl (i5+1) a (kA l.kinds p))=if i5=0 then bh l ik ask e r tl (i5+1) (kA l.kinds p) b else bh l ik ask e r tl (i5+1) a (kA l.kinds p)
  by_cases h5:i5=0
  ·rw [dy h5,dy (by simp [h5])]
  ·rw [dd h5,dd (by simp;omega)]
theorem HB(h:Cy ns l i)(hi:i<100)(hn:ns.length≤100){e:aK}(he:ns[i]? =some e)(hs:pO e)(hp:PlN e l.open_.reverse)(ho:Gs e=true){ok0:Bool}{R0:List Int}(hask:rk e.Op (AG l e (kA l.kinds e.A) (kA l.kinds e.B)) ()=some (ok0,{AG l e (kA l.kinds e.A) (kA l.kinds e.B)with result:=R0})):
  ∃l',gH l (i:Int) (rk e.Op)=some (ux e (kA l.kinds e.A) (kA l.kinds e.B)&&(!(wt ns e i)&&(ok0&&decide (R0.length≤16))),l')∧((ux e (kA l.kinds e.A) (kA l.kinds e.B)&&(!(wt ns e i)&&(ok0&&decide (R0.length≤16))))=true→l'.kinds=l.kinds++[R0]∧l'.open_.reverse=(i:Int)::l.open_.reverse.drop (wy e.Op).toNat):=by
 have hol:=h.olen
 have hkl:=h.len
 have hopen:=h.open_
 have hnodes:=h.nodes
 have hrev: ∀k,k≤l.open_.length→(l.open_.take (l.open_.length-k)++[(i:Int)]).reverse=(i:Int)::l.open_.reverse.drop k:=fun k hk=>by
  rw [List.reverse_append,List.drop_reverse];rfl
 -- what is popped
 have pop: ∀(k:Nat) (y:List Int),wy e.Op=(k:Int)→k≤l.open_.length→k≤2→l.open_.drop (l.open_.length-k)=y→rN ([(-1:Int),(-1:Int)]) y=[e.A,e.B]→gH l (i:Int) (rk e.Op)=bh l (i:Int) (rk e.Op) e (k:Int) y 0 [] []:=by
  intro k y hk hkl' hk2 hy hc
  unfold gH
  rw [ii,hnodes,he,cq,wA,cq,dy (by simp;omega),II hs (by omega),cq,ho,cq,dd (by simp),hk,lW (by omega) (by omega),iw (l.open_.length-k) l.open_.length (by omega) rfl (by omega) (by omega),cq,Bc,hy,dd (by simp [hc]),cq]
 rcases hp with⟨hp,hA,hB⟩|⟨hp,hB,rest,hst⟩|⟨hp,rest,hst⟩
 ·rw [pop 0 [] hp (by omega) (by omega) (by simp) (by rw [hA,hB];rfl)]
  rw [hA,hB,BV]at hask ⊢
  have hs1:ux e [] []=true:=by unfold ux;simp
  rw [hs1,Ak]
  obtain⟨l',g1,g2⟩:=HA (i:=i) hnodes hask (k:=0) (by omega) (by omega) (by omega) (by omega) 0
  refine⟨l',g1,fun hh=>⟨(g2 hh).1,?_⟩⟩
  rw [(g2 hh).2,hp]
  exact hrev 0 (by omega)
 ·have hl:l.open_=rest.reverse++[e.A]:=by rw [←List.reverse_reverse l.open_,hst];simp
  have hlen:l.open_.length=rest.length+1:=by rw [hl];simp
  have hAm:=hopen e.A (by rw [hl];simp)
  rw [pop 1 [e.A] hp (by omega) (by omega) (by rw [hl];simp) (by rw [hB];rfl),EC e _ e.A [] 0 [] [] hAm.1 (by omega)]
  rw [hB,BV]at hask ⊢
  have hs1:ux e (kA l.kinds e.A) []= !(!(e.Op==11)&&decide ((4:Int)∈kA l.kinds e.A)):=by unfold ux;cases (e.Op==11)<;>simp
  rw [hs1]
  cases hb:(!(e.Op==11)&&decide ((4:Int)∈kA l.kinds e.A))with
  |true=>rw [dy rfl];exact⟨_,rfl,fun h=>by cases h⟩
  |false=>
   rw [dd (by simp),dy rfl,xo,Ak]
   obtain⟨l',g1,g2⟩:=HA (i:=i) hnodes hask (k:=1) (by omega) (by omega) (by omega) (by omega) 1
   refine⟨l',g1,fun hh=>⟨(g2 hh).1,?_⟩⟩
   rw [(g2 hh).2,hp]
   exact hrev 1 (by omega)
 ·have hl:l.open_=rest.reverse++[e.A,e.B]:=by rw [←List.reverse_reverse l.open_,hst];simp
  have hlen:l.open_.length=rest.length+2:=by rw [hl];simp
  have hAm:=hopen e.A (by rw [hl];simp)
  have hBm:=hopen e.B (by rw [hl];simp)
  rw [pop 2 [e.A,e.B] hp (by omega) (by omega) (by rw [hl];simp) (by rfl),EC e _ e.A [e.B] 0 [] [] hAm.1 (by omega)]
  have hs1:ux e (kA l.kinds e.A) (kA l.kinds e.B)=(!(!(e.Op==11)&&decide ((4:Int)∈kA l.kinds e.A))&& !(!(e.Op==11)&&decide ((4:Int)∈kA l.kinds e.B))):=by unfold ux;cases (e.Op==11)<;>simp
  rw [hs1]
  cases hb:(!(e.Op==11)&&decide ((4:Int)∈kA l.kinds e.A))with
  |true=>rw [dy rfl];exact⟨_,rfl,fun h=>by cases h⟩
  |false=>
   rw [dd (by simp),dy rfl,EC e _ e.B [] (0+1) _ [] hBm.1 (by omega)]
   cases hb2:(!(e.Op==11)&&decide ((4:Int)∈kA l.kinds e.B))with
   |true=>rw [dy rfl];exact⟨_,rfl,fun h=>by cases h⟩
   |false=>
    rw [dd (by simp),dd (by omega),xo,Ak,Ak]
    obtain⟨l',g1,g2⟩:=HA (i:=i) hnodes hask (k:=2) (by omega) (by omega) (by omega) (by omega) (0+1+1)
    refine⟨l',g1,fun hh=>⟨(g2 hh).1,?_⟩⟩
    rw [(g2 hh).2,hp]
    exact hrev 2 (by omega)
structure SInv(ns:List aK)(l:al)(i:Nat):Prop where
 k:Cy ns l i
 stk:Xk ns l.open_.reverse ((i:Int)-1)
 kd: ∀k∈l.kinds,Kd k
end
end Go.Proofs.YtmogpgcfognefaaGreatDoor

