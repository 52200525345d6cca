/- bR of this claim: Y1. -/
import Derived.Test.YtdohlidddcgfjaaGreatFbQ2
set_option linter.all false
namespace Go.Proofs.YtdohlidddcgfjaaGreat
open Go

def lw(op:Int):Int:=if op=1\/op=9 then 0 else if op=2\/op=7 then 2 else if op=3\/op=4\/op=5\/op=6\/op=8\/op=10\/op=11 then 1 else -1
def sl(op:Int):tB op=some (lw op):=by
 by_cases Y:op=1
 ·subst Y;rfl
 by_cases H:op=2
 ·subst H;rfl
 by_cases Q:op=3
 ·subst Q;rfl
 by_cases h4:op=4
 ·subst h4;rfl
 by_cases h5:op=5
 ·subst h5;rfl
 by_cases h6:op=6
 ·subst h6;rfl
 by_cases h7:op=7
 ·subst h7;rfl
 by_cases h8:op=8
 ·subst h8;rfl
 by_cases h9:op=9
 ·subst h9;rfl
 by_cases h10:op=10
 ·subst h10;rfl
 by_cases h11:op=11
 ·subst h11;rfl
 simp [tB,pH,pG,iB,lw,Y,H,Q,h4,h5,h6,h7,h8,h9,h10,h11]
def yB(v:Int): ∀(l:List Int) (i:Nat),∃j:Int,gj v l i=some j/\((0<=j)↔v∈l)/\(0<=j-> ∃k:Nat,j=((i+k:Nat):Int)/\k<l.length/\l[k]? =some v)/\ -1<=j
 |[],i=>⟨-1,rfl,by simp,by simp,by simp⟩
 |e::tl,i=>by
  unfold gj
  by_cases h:v=e
  ·subst h
   exact⟨i,by simp,by simp,fun _=>⟨0,by simp,by simp,rfl⟩,by omega⟩
  ·obtain⟨j,Y,H,Q,h4⟩:=yB v tl (i+1)
   refine⟨j,by rw [aZ (by simpa using h)];exact Y,by rw [H];simp [h],fun hj=>?_,h4⟩
   obtain⟨k,g1,g2,g3⟩:=Q hj
   exact⟨k+1,by rw [g1];congr 1;omega,by simp;omega,by simpa using g3⟩
def E7(l:List Int)(v:Int): ∃j:Int,mE l v=some j/\((0<=j)↔v∈l)/\(0<=j-> ∃k:Nat,j=(k:Int)/\k<l.length/\l[k]? =some v)/\ -1<=j:=by
 obtain⟨j,Y,H,Q,h4⟩:=yB v l 0
 exact⟨j,Y,H,fun hj=>by obtain⟨k,g1,g2,g3⟩:=Q hj;exact⟨k,by simpa using g1,g2,g3⟩,h4⟩
def ui(l:List Int)(v:Int):eW l v=some (decide (v∈l)):=by
 unfold eW
 obtain⟨j,Y,H,_⟩:=E7 l v
 rw [Y,br,Ff.2 H]
def HS(n:aa)(a b R:List Int):Prop:=
 (n.Op=1->R=n.Kinds/\0<=n.Table/\n.Table<4/\0<n.Kinds.length/\ ∀k∈n.Kinds,1<=k/\k<=3)/\(n.Op=9->R=n.Kinds/\0<=n.Table/\n.Table<30/\0<n.Kinds.length)/\(n.Op=2->a.length<=R.length)/\(n.Op=3\/n.Op=6\/n.Op=8->R=a)/\
  (n.Op=4\/n.Op=10\/n.Op=11->n.Keys.length<=R.length)/\(n.Op=5->R.length=n.Items.length)/\(n.Op=7->R.length=a.length)
structure Lb(l:ai):Prop where
 n:iN l.n
 a:l.a_.length<=16
 b:l.b.length<=16
def rp(m:ai->Option (Bool×ai))(l:ai)(P:List Int->Prop):Prop:= ∃ok R,m l=some (ok,{l with result:=R})/\(ok=true->P R)
def KK{l:ai}:rp iK l (fun R=>R=l.n.Kinds/\0<=l.n.Table/\l.n.Table<4/\0<l.n.Kinds.length/\ ∀k∈l.n.Kinds,1<=k/\k<=3):=by
 unfold rp iK
 rw [jh (f:=m6) (g:=fun k=>(decide (k<(1:Int)))||(decide ((3:Int)<k))) (fun _=>rfl),br]
 refine⟨_,_,rfl,fun h=>⟨rfl,?_⟩⟩
 simp only [iO,o9]at h
 obtain⟨⟨⟨⟨Y,H⟩,Q⟩,h4⟩,h5⟩:=h
 refine⟨by omega,by omega,by omega,fun k hk=>?_⟩
 have h6:(l.n.Kinds.any fun k=>(decide (k<(1:Int)))||(decide ((3:Int)<k)))=false:=by simpa using Y
 have:=List.any_eq_false.1 h6 k hk
 simp at this
 omega
def Iq{l:ai}(h:Lb l):rp gW l (fun R=>R=l.n.Kinds/\0<=l.n.Table/\l.n.Table<30/\0<l.n.Kinds.length):=by
 unfold rp gW
 rw [jh (f:=mp) (fun _=>rfl),br]
 refine⟨_,_,rfl,fun h=>⟨rfl,?_⟩⟩
 simp only [iO,o9]at h
 omega
def wt(e:aM)(kinds:List Int)(h:e.Nodes.length<=5000): ∃b,i0 e kinds=some b:=by
 unfold i0
 rw [lG e kinds (by omega)]
 exact⟨_,rfl⟩
def Lc{l:ai}(h:Lb l):rp fV l (fun R=>l.a_.length<=R.length):=by
 unfold rp fV
 have ha:=h.a
 have W:=h.b
 rw [Ch _ _ (by omega) (by omega),br]
 obtain⟨b,hb2⟩:=wt l.n.Cond (l.a_++l.b) h.n.cond
 refine⟨b,l.a_++l.b,?_,fun _=>by simp⟩
 show(i0 l.n.Cond (l.a_++l.b)).bind _=_
 rw [hb2];rfl
def GH{l:ai}(h:Lb l):rp ew l (fun R=>R=l.a_):=by
 unfold rp ew
 obtain⟨b,hb2⟩:=wt l.n.Cond l.a_ h.n.cond
 refine⟨b,l.a_,?_,fun _=>rfl⟩
 show(i0 l.n.Cond l.a_).bind _=_
 rw [hb2];rfl
def Il{l:ai}:rp j4 l (fun R=>R=l.a_):=⟨true,l.a_,rfl,fun _=>rfl⟩
def Ky{l:ai}:rp iJ l (fun R=>R=l.a_):=by
 unfold rp iJ
 rw [qj (f:=lb _) (fun _=>rfl),br]
 exact⟨_,l.a_,rfl,fun _=>rfl⟩
def zJ(nx:Bool->ai->Option (Bool×ai))(l:ai)(R:List Int)(ok:Bool)(k:Int)(h:R.length<=100000):dP nx {l with result:=R} ok k=nx ok {l with result:=R++[k]}:=by
 unfold dP
 show(jb R [k]).bind _=_
 rw [cy (by simp;omega)];rfl
def Gt{l:ai}(gs:List fj): ∀(ok:Bool) (R:List Int),(∀g∈gs,g.Arg.Nodes.length<=5000)->R.length+gs.length<=20000->
  ∃ok' R',cd gs ok {l with result:=R}=some (ok',{l with result:=R' })/\R'.length=R.length+gs.length:=by
 induction gs with
 |nil=>intro ok R _ _;exact⟨ok,R,rfl,rfl⟩
 |cons g tl ih=>
  intro ok R X hR
  have key: ∀(ok2:Bool) (k:Int),∃ok' R',dP (cd tl) {l with result:=R} ok2 k=some (ok',{l with result:=R' })/\R'.length=R.length+(g::tl).length:=by
   intro ok2 k
   rw [zJ _ _ _ _ _ (by simp at hR;omega)]
   obtain⟨ok',R',Y,H⟩:=ih ok2 (R++[k]) (fun x V=>X x (o8 _ V)) (by simp at hR ⊢;omega)
   exact⟨ok',R',Y,by rw [H];simp;omega⟩
  unfold cd
  split
  ·exact key _ _
  ·show∃ok' R',(ma g.Arg l.a_).bind _=_/\_
   rw [lG g.Arg l.a_ (by have:=X g (nV ..);omega),br]
   split
   ·exact key _ _
   ·split
    ·unfold f6
     split
     ·exact key _ _
     ·exact key _ _
    ·unfold f6
     split
     ·exact key _ _
     ·exact key _ _
def Gu{l:ai}(h:Lb l)(ks:List Int): ∀R:List Int,R.length+ks.length<=5000-> ∃ok R',cT l ks {l with result:=R}=some (ok,{l with result:=R' })/\R'.length<=R.length+ks.length+l.n.Aggs.length/\(ok=true->R'.length=R.length+ks.length+l.n.Aggs.length):=by
 induction ks with
 |nil=>
  intro R hR
  unfold cT
  obtain⟨ok,R',Y,H⟩:=Gt (l:=l) l.n.Aggs (((decide ((l.n.Keys.length:Int)<=(3:Int)))&&(decide ((l.n.Aggs.length:Int)<=(12:Int))))&&(decide ((0:Int)<(IntKind.i64.wrap ((l.n.Keys.length:Int)+(l.n.Aggs.length:Int)))))) R h.n.args (by have:=h.n.aggs;simp at hR;omega)
  exact⟨ok,R',Y,by rw [H];simp,fun _=>by rw [H];simp⟩
 |cons k tl ih=>
  intro R hR
  unfold cT
  split
  ·exact⟨false,R,rfl,by omega,fun h=>by cases h⟩
  ·rename_i hk
   show∃ok R',(ga l.a_ k).bind _=_/\_
   have hk' :uX l.a_ k=false:=by
    unfold uX
    simpa using hk
   rw [Ir hk',br]
   show∃ok R',(jb R [LJ l.a_ k]).bind _=_/\_
   rw [cy (by simp at hR ⊢;omega),br]
   obtain⟨ok,R',Y,H,Q⟩:=ih (R++[LJ l.a_ k]) (by simp at hR ⊢;omega)
   refine⟨ok,R',Y,?_,fun ho=>?_⟩
   ·simp at H ⊢;omega
   ·have:=Q ho;simp at this ⊢;omega
def Gv{l:ai}(h:Lb l): ∃ok R',dF l=some (ok,{l with result:=R' })/\R'.length<=l.n.Keys.length+l.n.Aggs.length/\(ok=true->R'.length=l.n.Keys.length+l.n.Aggs.length):=by
 unfold dF
 obtain⟨ok,R',Y,H,Q⟩:=Gu h l.n.Keys [] (by have:=h.n.keys;simpa using this)
 exact⟨ok,R',Y,by simpa using H,by simpa using Q⟩
def Iv{l:ai}(h:Lb l):rp dF l (fun R=>l.n.Keys.length<=R.length):=by
 obtain⟨ok,R',Y,H,Q⟩:=Gv h
 exact⟨ok,R',Y,fun ho=>by have:=Q ho;omega⟩
def vq{k i:Nat}(h:k+i<=100000):IntKind.i64.wrap ((k:Int)+(i:Int))=((k+i:Nat):Int):=by
 rw [d7 (by omega) (by omega)];omega
def CC{l:ai}(hk:l.n.Keys.length<=5000)(gs:List fj): ∀(i:Nat) (R:List Int),R.length=l.n.Keys.length+(i+gs.length)->R.length<=20000-> ∃R',eg gs i {l with result:=R}=some (true,{l with result:=R' })/\R'.length=R.length:=by
 induction gs with
 |nil=>intro i R _ _;exact⟨R,rfl,rfl⟩
 |cons g tl ih=>
  intro i R hR W
  unfold eg
  simp only [jj]at hR
  split
  ·show∃R',(ga R (IntKind.i64.wrap ((l.n.Keys.length:Int)+(i:Int)))).bind _=_/\_
   rw [vq (by omega),eZ,sx (by omega),br]
   simp only [br]
   obtain⟨R',Y,H⟩:=ih (i+1) (R.set ((l.n.Keys.length+i:Nat):Int).toNat 4) (by rw [zW];omega) (by rw [zW];omega)
   exact⟨R',Y,by rw [H,zW]⟩
  ·exact ih (i+1) R (by omega) W
def Ey{l:ai}(h:Lb l):rp ed l (fun R=>l.n.Keys.length<=R.length):=by
 unfold rp ed
 obtain⟨ok,R',Y,H,Q⟩:=Gv h
 have hk:=h.n.keys
 have X:=h.n.aggs
 rw [Y,br]
 cases ok with
 |false=>exact⟨false,R',rfl,fun h=>by cases h⟩
 |true=>
  have h4:=Q rfl
  obtain⟨R2,g1,g2⟩:=CC (l:=l) hk l.n.Aggs 0 R' (by omega) (by omega)
  exact⟨true,R2,g1,fun _=>by omega⟩
def GD{l:ai}(hk:l.n.Keys.length<=5000)(gs:List fj): ∀(i:Nat) (ok:Bool) (R:List Int),l.a_.length=l.n.Keys.length+(i+gs.length)->R.length=l.a_.length->R.length<=20000-> ∃ok' R',bN l gs i ok {l with result:=R}=some (ok',{l with result:=R' })/\R'.length=R.length:=by
 induction gs with
 |nil=>intro i ok R _ _ _;exact⟨ok,R,rfl,rfl⟩
 |cons g tl ih=>
  intro i ok R ha hR W
  simp only [jj]at ha
  have key: ∀(ok2:Bool) (R2:List Int),R2.length=R.length-> ∃ok' R',bN l tl (i+1) ok2 {l with result:=R2}=some (ok',{l with result:=R' })/\R'.length=R.length:=by
   intro ok2 R2 H
   obtain⟨ok',R',g1,g2⟩:=ih (i+1) ok2 R2 (by omega) (by omega) (by omega)
   exact⟨ok',R',g1,by omega⟩
  have Br: ∀(e3:Int) (x:Bool),∃ok' R',ek l (bN l tl) i g ok {l with result:=R} e3 x=some (ok',{l with result:=R' })/\R'.length=R.length:=by
   intro e3 x
   unfold ek
   split
   ·exact key _ R rfl
   ·split
    ·show∃ok' R',(ga R (IntKind.i64.wrap ((l.n.Keys.length:Int)+(i:Int)))).bind _=_/\_
     rw [vq (by omega),eZ,sx (by omega),br]
     simp only [br]
     exact key _ _ (by rw [zW])
    ·split<;>(unfold f7;split)<;>exact key _ R rfl
  unfold bN
  show∃ok' R',(ga l.a_ (IntKind.i64.wrap ((l.n.Keys.length:Int)+(i:Int)))).bind _=_/\_
  rw [vq (by omega),eZ,sx (by omega),br]
  split<;>exact Br _ _
def GE{l:ai}(hk:l.n.Keys.length<=5000)(X:l.n.Aggs.length<=5000)(ha:l.a_.length=l.n.Keys.length+l.n.Aggs.length)(r:List Int)(hr:r.length=l.a_.length)(ks:List Int): ∀(i:Nat) (ok:Bool),i+ks.length=l.n.Keys.length-> ∃ok' R',du l r ks i ok=some (ok',{l with result:=R' })/\R'.length=r.length:=by
 induction ks with
 |nil=>
  intro i ok _
  exact GD hk l.n.Aggs 0 ok r (by omega) hr (by omega)
 |cons k tl ih=>
  intro i ok hi
  simp only [jj]at hi
  unfold du
  have: ∃t,(if(ok&&(k==(i:Int)))then((ga l.a_ (i:Int)).bind fun e5=>some (e5 !=(4:Int)))else some false)=some t:=by
   split
   ·rw [eZ,sx (by omega)];exact⟨_,rfl⟩
   ·exact⟨_,rfl⟩
  obtain⟨t,D⟩:=this
  rw [D,br]
  exact ih (i+1) t (by omega)
def Iw{l:ai}(h:Lb l)(hA: ∃e,ga l.nodes l.n.A=some e):rp dG l (fun R=>l.n.Keys.length<=R.length):=by
 obtain⟨e,he⟩:=hA
 unfold rp dG
 have hk:=h.n.keys
 have X:=h.n.aggs
 have ha:=h.a
 rw [he,br]
 by_cases hc:((((e.Op==(9:Int))&&(decide ((l.n.Keys.length:Int)<=(3:Int))))&&(decide ((l.n.Aggs.length:Int)<=(12:Int))))&&((IntKind.i64.wrap ((l.n.Keys.length:Int)+(l.n.Aggs.length:Int)))==(l.a_.length:Int)))=true
 ·rw [aZ (by rw [hc];decide),ua _ (by omega),br]
  have hl:l.a_.length=l.n.Keys.length+l.n.Aggs.length:=by
   simp only [iO,wC]at hc
   have:=hc.2
   rw [vq (by omega)]at this
   omega
  obtain⟨ok',R',g1,g2⟩:=GE hk X hl l.a_ rfl l.n.Keys 0 _ (uj _)
  exact⟨ok',R',g1,fun _=>by omega⟩
 ·rw [bu (by rw [yH]at hc;rw [hc];rfl)]
  exact⟨false,l.result,by cases l;rfl,fun h=>by cases h⟩
def CA{l:ai}(es:List aM): ∀R:List Int,(∀e∈es,e.Nodes.length<=5000)->R.length+es.length<=20000-> ∃ok R',dH es {l with result:=R}=some (ok,{l with result:=R' })/\(ok=true->R'.length=R.length+es.length):=by
 induction es with
 |nil=>intro R _ _;exact⟨_,R,rfl,fun _=>rfl⟩
 |cons e tl ih=>
  intro R he hR
  unfold dH
  show∃ok R',(ma e l.a_).bind _=_/\_
  rw [lG e l.a_ (by have:=he e (nV ..);omega),br]
  split
  ·exact⟨false,R,rfl,fun h=>by cases h⟩
  ·show∃ok R',(jb R [(eX e l.a_).1]).bind _=_/\_
   rw [cy (by simp at hR ⊢;omega),br]
   obtain⟨ok,R',Y,H⟩:=ih (R++[(eX e l.a_).1]) (fun x V=>he x (o8 _ V)) (by simp at hR ⊢;omega)
   exact⟨ok,R',Y,fun ho=>by have:=H ho;simp at this ⊢;omega⟩
def Et{l:ai}(h:Lb l):rp gC l (fun R=>R.length=l.n.Items.length):=by
 have hi:=h.n.items
 obtain⟨ok,R',Y,H⟩:=CA (l:=l) l.n.Items [] h.n.exprs (by simp;omega)
 exact⟨ok,R',Y,by simpa using H⟩
def FA(nx:Nat->ai->Option (Bool×ai))(l:ai)(R:List Int)(i:Nat)(e k:Int)(h:R.length<=100000):ej nx i {l with result:=R} e k=if((e !=(0:Int))&&(e !=k))then some (false,{l with result:=R})else nx (i+1) {l with result:=R++[k]}:=by
 unfold ej
 split
 ·rfl
 ·show(jb R [k]).bind _=_
  rw [cy (by simp;omega)];rfl
def Fz{l:ai}(xs:List Int): ∀(i:Nat) (R:List Int),i+xs.length=l.b.length->R.length+xs.length<=20000-> ∃ok R',cS xs i {l with result:=R}=some (ok,{l with result:=R' })/\(ok=true->R'.length=R.length+xs.length):=by
 induction xs with
 |nil=>intro i R _ _;exact⟨true,R,rfl,fun _=>rfl⟩
 |cons a tl ih=>
  intro i R hi hR
  simp only [jj]at hi hR
  have key: ∀e k:Int,∃ok R',ej (cS tl) i {l with result:=R} e k=some (ok,{l with result:=R' })/\(ok=true->R'.length=R.length+(a::tl).length):=by
   intro e k
   rw [FA _ _ _ _ _ _ (by omega)]
   split
   ·exact⟨false,R,rfl,fun h=>by cases h⟩
   ·obtain⟨ok,R',Y,H⟩:=ih (i+1) (R++[k]) (by omega) (by simp;omega)
    exact⟨ok,R',Y,fun ho=>by have:=H ho;simp at this ⊢;omega⟩
  unfold cS
  show∃ok R',(ga l.b (i:Int)).bind _=_/\_
  rw [eZ,sx (by omega),br]
  split<;>exact key _ _
def Hw{l:ai}(h:Lb l):rp gV l (fun R=>R.length=l.a_.length):=by
 unfold rp gV
 have ha:=h.a
 by_cases hl:l.a_.length=l.b.length
 ·rw [aZ (by simp [hl])]
  obtain⟨ok,R',Y,H⟩:=Fz (l:=l) l.a_ 0 [] (by omega) (by simp;omega)
  exact⟨ok,R',Y,by simpa using H⟩
 ·rw [bu (by simp;omega)]
  exact⟨false,l.result,by cases l;rfl,fun h=>by cases h⟩
def nF(op:Int):ai->Unit->Option (Bool×ai):=(sq ((lT).getD []) op).getD (fun _ _=>none)
def ND{l:ai}(h:Lb l)(hA:lw l.n.Op≠0-> ∃e,ga l.nodes l.n.A=some e)(hp:0<=lw l.n.Op):rp (fun l=>nF l.n.Op l ()) l (HS l.n l.a_ l.b):=by
 have imp: ∀{m:ai->Option (Bool×ai)} {P:List Int->Prop},rp m l P->(nF l.n.Op l ()=m l)->(∀R,P R->HS l.n l.a_ l.b R)->rp (fun l=>nF l.n.Op l ()) l (HS l.n l.a_ l.b):=
  fun⟨ok,R,Y,H⟩ he hr=>⟨ok,R,by show nF l.n.Op l ()=_;rw [he];exact Y,fun ho=>hr R (H ho)⟩
 by_cases Y:l.n.Op=1
 ·exact imp KK (by rw [Y];rfl) (fun R hR=>by
   unfold HS
   rw [Y]
   exact⟨fun _=>hR,fun h=>absurd h (by decide),fun h=>absurd h (by decide),fun h=>absurd h (by decide),fun h=>absurd h (by decide),fun h=>absurd h (by decide),fun h=>absurd h (by decide)⟩)
 by_cases H:l.n.Op=2
 ·exact imp (Lc h) (by rw [H];rfl) (fun R hR=>by simp [HS,H];exact hR)
 by_cases Q:l.n.Op=3
 ·exact imp (GH h) (by rw [Q];rfl) (fun R hR=>by simp [HS,Q];exact hR)
 by_cases h4:l.n.Op=4
 ·exact imp (Iv h) (by rw [h4];rfl) (fun R hR=>by simp [HS,h4];exact hR)
 by_cases h5:l.n.Op=5
 ·exact imp (Et h) (by rw [h5];rfl) (fun R hR=>by simp [HS,h5];exact hR)
 by_cases h6:l.n.Op=6
 ·exact imp Il (by rw [h6];rfl) (fun R hR=>by simp [HS,h6];exact hR)
 by_cases h7:l.n.Op=7
 ·exact imp (Hw h) (by rw [h7];rfl) (fun R hR=>by simp [HS,h7];exact hR)
 by_cases h8:l.n.Op=8
 ·exact imp Ky (by rw [h8];rfl) (fun R hR=>by simp [HS,h8];exact hR)
 by_cases h9:l.n.Op=9
 ·exact imp (Iq h) (by rw [h9];rfl) (fun R hR=>by simp [HS,h9];exact⟨hR.1,hR.2⟩)
 by_cases h10:l.n.Op=10
 ·exact imp (Ey h) (by rw [h10];rfl) (fun R hR=>by simp [HS,h10];exact hR)
 by_cases h11:l.n.Op=11
 ·exact imp (Iw h (hA (by rw [h11];decide))) (by rw [h11];rfl) (fun R hR=>by simp [HS,h11];exact hR)
 exfalso
 simp [lw,Y,H,Q,h4,h5,h6,h7,h8,h9,h10,h11]at hp
end Go.Proofs.YtdohlidddcgfjaaGreat

