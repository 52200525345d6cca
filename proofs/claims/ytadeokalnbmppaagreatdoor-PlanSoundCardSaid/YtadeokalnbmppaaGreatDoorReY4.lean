import Derived.Test.YtadeokalnbmppaaGreatDoorReY3
import Derived.Test.YtadeokalnbmppaaGreatDoorReQ4
set_option linter.all false
namespace Go.Proofs.YtadeokalnbmppaaGreatDoor
open Go
def D1{f:ac->Option Bool}{g:ac->Bool}: ∀(l:List ac) (i:Nat),(∀n∈l,f n=some (g n))-> ∃j:Int,cC f l i=some j/\decide (0<=j)=l.any g
 |[],i,_=>⟨-1,rfl,rfl⟩
 |n::tl,i,h=>by
  unfold cC;rw [h n (pz ..),bh]
  cases H:g n with
  |true=>exact⟨i,by simp,by simp [H]⟩
  |false=>
   obtain⟨j,D,V⟩:=D1 tl (i+1) (fun x I=>h x (pA _ I));exact⟨j,by rw [aZ (by simp)];exact D,by rw [V];simp [H]⟩
def Gj{f:ac->Option Bool}{g:ac->Bool}{l:List ac}(h: ∀n∈l,f n=some (g n)):fE l f=some (l.any g):=by
 unfold fE dS;obtain⟨j,D,V⟩:=D1 l 0 h;rw [D,bh,V]
structure aci(c:bo)(f:bt)(root:List Int):Prop where
 h_:f.At=1\/f.At=2
 way:1<=f.Way/\f.Way<=4
 d_:f.Way=1↔0<f.l_.length
 inr: ∀x∈f.l_,0<=x/\x<(root.length:Int)
 clen:f.l_.length<=16
 scan: ∀n∈f.u',n.Op=1->f.At=1/\ ∃t,dm c.i_ n.M'=some t/\n.U'.length=t.b_.length
def TH(root:List Int)(c:Int): ∃b,gu root c=some b/\(b=false->0<=c/\c<(root.length:Int)):=by
 unfold gu;by_cases h:(!((decide (c<(0:Int)))||(decide ((root.length:Int)<=c))))=true
 ·rw [bq h];simp at h;rw [me c.toNat (by omega),qV (by omega)];exact⟨_,rfl,fun _=>by omega⟩
 ·rw [aZ h];exact⟨true,rfl,fun h=>by cases h⟩
def YZ(x:df)(r_:Nat)(f:bt):Prop:=
 (∀n∈f.u',n.Op=9->n.M'<(r_:Int)/\mq (some x) n.M'=some n.U')/\
  (r_+1=x.c_.J'.length->f.Way=4/\f.At=2)/\(Jh r_ x.c_.J' 0).length=if r_+1=x.c_.J'.length then 0 else 1
structure af8(q:dp):Prop where
 len:q.J'.length<=100
 w_: ∀f∈q.J',YX f.u'
def aeO(c:bo)(f:bt)(hb:List (List Int)):Prop:=KOK f.u' hb/\1<=f.u'.length/\f.u'.length<=60/\sk f.u'=some (hb,0,0)/\ ∃R,hb[f.u'.length-1]? =some R/\aci c f R
structure af9(c:bo)(q:dp)(KS:List (List (List Int))):Prop where
 cat:NZ c=true
 n1:1<=q.J'.length
 n30:q.J'.length<=30
 len:KS.length=q.J'.length
 kok: ∀(i:Nat) (f:bt),q.J'[i]? =some f-> ∃hb,KS[i]? =some hb/\aeO c f hb
 rd: ∀(i:Nat) (f:bt),q.J'[i]? =some f->YZ ⟨q,c,KS⟩ i f
