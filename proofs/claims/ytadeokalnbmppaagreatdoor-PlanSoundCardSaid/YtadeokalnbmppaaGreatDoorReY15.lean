import Derived.Test.YtadeokalnbmppaaGreatDoorReY14
import Derived.Test.YtadeokalnbmppaaGreatDoorReY6
set_option linter.all false
namespace Go.Proofs.YtadeokalnbmppaaGreatDoor
open Go IntKind
section
variable{ns:List ac}{l:ap}{i:Nat}
def xL(l:ap)(e:ac)(a b:List Int):ap:={l with n:=e,a_:=a,b:=b}
def Ah(ns:List ac)(e:ac)(i:Nat):Bool:=((e.Op==8)||(e.Op==10))&&((i:Int) !=i64.wrap ((ns.length:Int)-(1:Int)))
def OU(hn:l.A'=ns){e:ac}{a b:List Int}{ok0:Bool}{R0:List Int}(hask:vw e.Op (xL l e a b) ()=some (ok0,{xL l e a b with B':=R0})){k:Nat}(hk:k<=l.D'.length)(hk2:k<=2)(ho:l.D'.length<=1000)(hkl:l.j'.length<=1000)(i5:Nat):
  ∃l',bp l (i:Int) (vw e.Op) e (k:Int) [] i5 a b=some (!(Ah ns e i)&&(ok0&&decide (R0.length<=16)),l')/\((!(Ah ns e i)&&(ok0&&decide (R0.length<=16)))=true->l'.j'=l.j'++[R0]/\l'.D'=l.D'.take (l.D'.length-k)++[(i:Int)]):=by
 unfold bp;show∃l',(if(((e.Op==(8:Int))||(e.Op==(10:Int)))&&((i:Int) !=(i64.wrap ((l.A'.length:Int)-(1:Int)))))then some (false,xL l e a b)else(vw e.Op (xL l e a b) ()).bind _)=_/\_;have hroot:(((e.Op==(8:Int))||(e.Op==(10:Int)))&&((i:Int) !=(i64.wrap ((ns.length:Int)-(1:Int)))))=Ah ns e i:=rfl;rw [hn,hroot];by_cases hr:Ah ns e i=true
 ·rw [bq hr,hr];exact⟨_,rfl,fun h=>by cases h⟩
 ·have hr' :Ah ns e i=false:=by simpa using hr
  rw [aZ hr,hask,bh,hr',xV,sX];by_cases hc:((!ok0)||(decide ((16:Int)<(R0.length:Int))))=true
  ·have hc' :(ok0&&decide (R0.length<=16))=false:=by
    cases ok0 with
    |false=>rfl
    |true=>simp at hc ⊢;omega
   rw [bq hc,hc'];exact⟨_,rfl,fun h=>by cases h⟩
  ·have hc' :(ok0&&decide (R0.length<=16))=true:=by
    cases ok0 with
    |false=>simp at hc
    |true=>simp at hc ⊢;omega
   rw [aZ hc,hc'];show∃l',((nH l.j' [R0]).bind fun l1' =>(fz l.D' 0 (i64.wrap ((l.D'.length:Int)-(k:Int)))).bind fun y2=>(nH y2 [(i:Int)]).bind fun l2=>some (true,({({({xL l e a b with B':=R0}:ap)with j':=l1' }:ap)with D':=l2}:ap)))=_/\_;rw [cK (by simp;omega),bh,cJ (by omega) (by omega),mo 0 (l.D'.length-k) (show(0:Int)=((0:Nat):Int)from rfl) (by omega) (by omega) (by omega),bh,cK (by simp;omega),bh,vj];exact⟨_,rfl,fun _=>⟨rfl,rfl⟩⟩
def Kk(e:ac)(r:Int)(p:Int)(tl:List Int)(i5:Nat)(a b:List Int)(h0:0<=p)(h:p<(l.j'.length:Int))(ask:ap->Unit->Option (Bool×ap))(ik:Int):
  bp l ik ask e r (p::tl) i5 a b=if(!(e.Op==11)&&decide ((4:Int)∈kA l.j' p))=true then some (false,xL l e a b)else if i5=0 then bp l ik ask e r tl (i5+1) (kA l.j' p) b else bp l ik ask e r tl (i5+1) a (kA l.j' p):=by
 have step:bp l ik ask e r (p::tl) i5 a b=(if(e.Op !=(11:Int))then((ft (kA l.j' p) (4:Int)).bind fun r3=>some r3)else some false).bind fun t1=>
   if t1 then some (false,xL l e a b)
   else if((i5:Int)==(0:Int))then bp l ik ask e r tl (i5+1) (kA l.j' p) b else bp l ik ask e r tl (i5+1) a (kA l.j' p):=by
  conv=>lhs;unfold bp
  rw [Zp h0 h,bh];rfl
 rw [step,sa];have:(if(e.Op !=(11:Int))then((some (decide ((4:Int)∈kA l.j' p))).bind fun r3=>some r3)else some false)=some (!(e.Op==11)&&decide ((4:Int)∈kA l.j' p)):=by
  by_cases h11:e.Op=11
  ·rw [aZ (by simp [h11]),show(e.Op==11)=true from by simp [h11]];rfl
  ·rw [bq (by simpa using h11),bh,show(e.Op==11)=false from by simpa using h11];rfl
 rw [this,bh]
 cases (!(e.Op==11)&&decide ((4:Int)∈kA l.j' p))with
 |true=>rfl
 |false=>
  show(if((i5:Int)==(0:Int))then bp l ik ask e r tl (i5+1) (kA l.j' p) b else bp l ik ask e r tl (i5+1) a (kA l.j' p))=if i5=0 then bp l ik ask e r tl (i5+1) (kA l.j' p) b else bp l ik ask e r tl (i5+1) a (kA l.j' p);by_cases h5:i5=0
  ·rw [bq h5,bq (by simp [h5])]
  ·rw [aZ h5,aZ (by simp;omega)]
def OW(h:Ib ns l i)(hi:i<100)(hn:ns.length<=100){e:ac}(he:ns[i]? =some e)(hs:d9 e)(hp:PlN e l.D'.reverse)(ho:Dh e=true){ok0:Bool}{R0:List Int}(hask:vw e.Op (xL l e (kA l.j' e.A) (kA l.j' e.B)) ()=some (ok0,{xL l e (kA l.j' e.A) (kA l.j' e.B)with B':=R0})):
  ∃l',kU l (i:Int) (vw e.Op)=some (wm e (kA l.j' e.A) (kA l.j' e.B)&&(!(Ah ns e i)&&(ok0&&decide (R0.length<=16))),l')/\((wm e (kA l.j' e.A) (kA l.j' e.B)&&(!(Ah ns e i)&&(ok0&&decide (R0.length<=16))))=true->l'.j'=l.j'++[R0]/\l'.D'.reverse=(i:Int)::l.D'.reverse.drop (sZ e.Op).toNat):=by
 have hol:=h.olen;have hkl:=h.len;have hopen:=h.D';have hnodes:=h.A';have hrev: ∀k,k<=l.D'.length->(l.D'.take (l.D'.length-k)++[(i:Int)]).reverse=(i:Int)::l.D'.reverse.drop k:=fun k hk=>by
  rw [List.reverse_append,List.drop_reverse];rfl
 have pop: ∀(k:Nat) (y:List Int),sZ e.Op=(k:Int)->k<=l.D'.length->k<=2->l.D'.drop (l.D'.length-k)=y->AN ([(-1:Int),(-1:Int)]) y=[e.A,e.B]->kU l (i:Int) (vw e.Op)=bp l (i:Int) (vw e.Op) e (k:Int) y 0 [] []:=by
  intro k y hk hkl' hk2 hy hc;unfold kU;rw [bR,hnodes,he,bh,BS,bh,bq (by simp;omega),Qx hs (by omega),bh,ho,bh,aZ (by simp),hk,cJ (by omega) (by omega),mo (l.D'.length-k) l.D'.length (by omega) rfl (by omega) (by omega),bh,BH,hy,aZ (by simp [hc]),bh]
 rcases hp with⟨hp,hA,hB⟩|⟨hp,hB,rest,hst⟩|⟨hp,rest,hst⟩
 ·rw [pop 0 [] hp (by omega) (by omega) (by simp) (by rw [hA,hB];rfl)];rw [hA,hB,Ay]at hask ⊢;have hs1:wm e [] []=true:=by unfold wm;simp
  rw [hs1,sX];obtain⟨l',g1,g2⟩:=OU (i:=i) hnodes hask (k:=0) (by omega) (by omega) (by omega) (by omega) 0;refine⟨l',g1,fun hh=>⟨(g2 hh).1,?_⟩⟩;rw [(g2 hh).2,hp];exact hrev 0 (by omega)
 ·have hl:l.D'=rest.reverse++[e.A]:=by rw [<-List.reverse_reverse l.D',hst];simp
  have hlen:l.D'.length=rest.length+1:=by rw [hl];simp
  have hAm:=hopen e.A (by rw [hl];simp);rw [pop 1 [e.A] hp (by omega) (by omega) (by rw [hl];simp) (by rw [hB];rfl),Kk e _ e.A [] 0 [] [] hAm.1 (by omega)];rw [hB,Ay]at hask ⊢;have hs1:wm e (kA l.j' e.A) []= !(!(e.Op==11)&&decide ((4:Int)∈kA l.j' e.A)):=by unfold wm;cases (e.Op==11)<;>simp
  rw [hs1]
  cases K:(!(e.Op==11)&&decide ((4:Int)∈kA l.j' e.A))with
  |true=>rw [bq rfl];exact⟨_,rfl,fun h=>by cases h⟩
  |false=>
   rw [aZ (by simp),bq rfl,xV,sX];obtain⟨l',g1,g2⟩:=OU (i:=i) hnodes hask (k:=1) (by omega) (by omega) (by omega) (by omega) 1;refine⟨l',g1,fun hh=>⟨(g2 hh).1,?_⟩⟩;rw [(g2 hh).2,hp];exact hrev 1 (by omega)
 ·have hl:l.D'=rest.reverse++[e.A,e.B]:=by rw [<-List.reverse_reverse l.D',hst];simp
  have hlen:l.D'.length=rest.length+2:=by rw [hl];simp
  have hAm:=hopen e.A (by rw [hl];simp);have hBm:=hopen e.B (by rw [hl];simp);rw [pop 2 [e.A,e.B] hp (by omega) (by omega) (by rw [hl];simp) (by rfl),Kk e _ e.A [e.B] 0 [] [] hAm.1 (by omega)];have hs1:wm e (kA l.j' e.A) (kA l.j' e.B)=(!(!(e.Op==11)&&decide ((4:Int)∈kA l.j' e.A))&& !(!(e.Op==11)&&decide ((4:Int)∈kA l.j' e.B))):=by unfold wm;cases (e.Op==11)<;>simp
  rw [hs1]
  cases K:(!(e.Op==11)&&decide ((4:Int)∈kA l.j' e.A))with
  |true=>rw [bq rfl];exact⟨_,rfl,fun h=>by cases h⟩
  |false=>
   rw [aZ (by simp),bq rfl,Kk e _ e.B [] (0+1) _ [] hBm.1 (by omega)]
   cases hb2:(!(e.Op==11)&&decide ((4:Int)∈kA l.j' e.B))with
   |true=>rw [bq rfl];exact⟨_,rfl,fun h=>by cases h⟩
   |false=>
    rw [aZ (by simp),aZ (by omega),xV,sX,sX];obtain⟨l',g1,g2⟩:=OU (i:=i) hnodes hask (k:=2) (by omega) (by omega) (by omega) (by omega) (0+1+1);refine⟨l',g1,fun hh=>⟨(g2 hh).1,?_⟩⟩;rw [(g2 hh).2,hp];exact hrev 2 (by omega)
structure SInv(ns:List ac)(l:ap)(i:Nat):Prop where
 k:Ib ns l i
 stk:Stk ns l.D'.reverse ((i:Int)-1)
 kd: ∀k∈l.j',Kd k
end
