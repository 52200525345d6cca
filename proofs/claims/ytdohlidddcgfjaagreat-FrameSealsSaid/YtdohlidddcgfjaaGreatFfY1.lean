/- bS of this claim: Y1. -/
import Derived.Test.YtdohlidddcgfjaaGreatFfQ2
set_option linter.all false
namespace Go.Proofs.YtdohlidddcgfjaaGreat
open Go

def prt(op:Int):Int:=if op=1\/op=9 then 0 else if op=2\/op=7 then 2 else if op=3\/op=4\/op=5\/op=6\/op=8\/op=10\/op=11 then 1 else -1
def u7(op:Int):wi op=some (prt op):=by
 by_cases Y:op=1
 ·subst Y;rfl
 by_cases X:op=2
 ·subst X;rfl
 by_cases d:op=3
 ·subst d;rfl
 by_cases h4:op=4
 ·subst h4;rfl
 by_cases h5:op=5
 ·subst h5;rfl
 by_cases h6:op=6
 ·subst h6;rfl
 by_cases h7:op=7
 ·subst h7;rfl
 by_cases h8:op=8
 ·subst h8;rfl
 by_cases h9:op=9
 ·subst h9;rfl
 by_cases h10:op=10
 ·subst h10;rfl
 by_cases h11:op=11
 ·subst h11;rfl
 simp [wi,rW,rU,jI,prt,Y,X,d,h4,h5,h6,h7,h8,h9,h10,h11]
def BS(v:Int): ∀(l:List Int) (i:Nat),∃j:Int,iu v l i=some j/\((0<=j)↔v∈l)/\(0<=j-> ∃k:Nat,j=((i+k:Nat):Int)/\k<l.length/\l[k]? =some v)/\ -1<=j
 |[],i=>⟨-1,rfl,by simp,by simp,by simp⟩
 |e::tl,i=>by
  unfold iu
  by_cases h:v=e
  ·subst h
   exact⟨i,by simp,by simp,fun _=>⟨0,by simp,by simp,rfl⟩,by omega⟩
  ·obtain⟨j,Y,X,d,h4⟩:=BS v tl (i+1)
   refine⟨j,by rw [aQ (by simpa using h)];exact Y,by rw [X];simp [h],fun hj=>?_,h4⟩
   obtain⟨k,g1,g2,g3⟩:=d hj
   exact⟨k+1,by rw [g1];congr 1;omega,by simp;omega,by simpa using g3⟩
def Ju(l:List Int)(v:Int): ∃j:Int,oq l v=some j/\((0<=j)↔v∈l)/\(0<=j-> ∃k:Nat,j=(k:Int)/\k<l.length/\l[k]? =some v)/\ -1<=j:=by
 obtain⟨j,Y,X,d,h4⟩:=BS v l 0
 exact⟨j,Y,X,fun hj=>by obtain⟨k,g1,g2,g3⟩:=d hj;exact⟨k,by simpa using g1,g2,g3⟩,h4⟩
def xc(l:List Int)(v:Int):gn l v=some (decide (v∈l)):=by
 unfold gn
 obtain⟨j,Y,X,_⟩:=Ju l v
 rw [Y,bf,BZ.2 X]
def Mz(n:aa)(a b R:List Int):Prop:=
 (n.Op=1->R=n.Kinds/\0<=n.Table/\n.Table<4/\0<n.Kinds.length/\ ∀k∈n.Kinds,1<=k/\k<=3)/\(n.Op=9->R=n.Kinds/\0<=n.Table/\n.Table<30/\0<n.Kinds.length)/\(n.Op=2->a.length<=R.length)/\(n.Op=3\/n.Op=6\/n.Op=8->R=a)/\
  (n.Op=4\/n.Op=10\/n.Op=11->n.Keys.length<=R.length)/\(n.Op=5->R.length=n.Items.length)/\(n.Op=7->R.length=a.length)
structure Lb(l:al):Prop where
 n:je l.n
 a:l.a_.length<=16
 b:l.b.length<=16
def ur(m:al->Option (Bool×al))(l:al)(P:List Int->Prop):Prop:= ∃ok R,m l=some (ok,{l with result:=R})/\(ok=true->P R)
def Qg{l:al}:ur jX l (fun R=>R=l.n.Kinds/\0<=l.n.Table/\l.n.Table<4/\0<l.n.Kinds.length/\ ∀k∈l.n.Kinds,1<=k/\k<=3):=by
 unfold ur jX
 rw [kF (f:=pg) (g:=fun k=>(decide (k<(1:Int)))||(decide ((3:Int)<k))) (fun _=>rfl),bf]
 refine⟨_,_,rfl,fun h=>⟨rfl,?_⟩⟩
 simp only [ly,ig]at h
 obtain⟨⟨⟨⟨Y,X⟩,d⟩,h4⟩,h5⟩:=h
 refine⟨by omega,by omega,by omega,fun k hk=>?_⟩
 have h6:(l.n.Kinds.any fun k=>(decide (k<(1:Int)))||(decide ((3:Int)<k)))=false:=by simpa using Y
 have:=JC.1 h6 k hk
 simp at this
 omega
def M0{l:al}(h:Lb l):ur ic l (fun R=>R=l.n.Kinds/\0<=l.n.Table/\l.n.Table<30/\0<l.n.Kinds.length):=by
 unfold ur ic
 rw [kF (f:=nX) (fun _=>rfl),bf]
 refine⟨_,_,rfl,fun h=>⟨rfl,?_⟩⟩
 simp only [ly,ig]at h
 omega
def zq(e:aO)(kinds:List Int)(h:e.Nodes.length<=5000): ∃b,kp e kinds=some b:=by
 unfold kp
 rw [ne e kinds (by omega)]
 exact⟨_,rfl⟩
def QG{l:al}(h:Lb l):ur hU l (fun R=>l.a_.length<=R.length):=by
 unfold ur hU
 have ha:=h.a
 have H:=h.b
 rw [FN _ _ (by omega) (by omega),bf]
 obtain⟨b,hb2⟩:=zq l.n.Cond (l.a_++l.b) h.n.cond
 refine⟨b,l.a_++l.b,?_,fun _=>by simp⟩
 show(kp l.n.Cond (l.a_++l.b)).bind _=_
 rw [hb2];rfl
def Lm{l:al}(h:Lb l):ur fP l (fun R=>R=l.a_):=by
 unfold ur fP
 obtain⟨b,hb2⟩:=zq l.n.Cond l.a_ h.n.cond
 refine⟨b,l.a_,?_,fun _=>rfl⟩
 show(kp l.n.Cond l.a_).bind _=_
 rw [hb2];rfl
def MX{l:al}:ur lD l (fun R=>R=l.a_):=⟨true,l.a_,rfl,fun _=>rfl⟩
def PU{l:al}:ur jW l (fun R=>R=l.a_):=by
 unfold ur jW
 rw [sG (f:=mK _) (fun _=>rfl),bf]
 exact⟨_,l.a_,rfl,fun _=>rfl⟩
def C0(nx:Bool->al->Option (Bool×al))(l:al)(R:List Int)(ok:Bool)(k:Int)(h:R.length<=100000):eO nx {l with result:=R} ok k=nx ok {l with result:=R++[k]}:=by
 unfold eO
 show(app R [k]).bind _=_
 rw [cD (by simp;omega)];rfl
def KZ{l:al}(gs:List eY): ∀(ok:Bool) (R:List Int),(∀g∈gs,g.Arg.Nodes.length<=5000)->R.length+gs.length<=20000->
  ∃ok' R',cA gs ok {l with result:=R}=some (ok',{l with result:=R' })/\R'.length=R.length+gs.length:=by
 induction gs with
 |nil=>intro ok R _ _;exact⟨ok,R,rfl,rfl⟩
 |cons g tl ih=>
  intro ok R K hR
  have key: ∀(ok2:Bool) (k:Int),∃ok' R',eO (cA tl) {l with result:=R} ok2 k=some (ok',{l with result:=R' })/\R'.length=R.length+(g::tl).length:=by
   intro ok2 k
   rw [C0 _ _ _ _ _ (by simp at hR;omega)]
   obtain⟨ok',R',Y,X⟩:=ih ok2 (R++[k]) (fun x V=>K x (pK _ V)) (by simp at hR ⊢;omega)
   exact⟨ok',R',Y,by rw [X];simp;omega⟩
  unfold cA
  split
  ·exact key _ _
  ·show∃ok' R',(nH g.Arg l.a_).bind _=_/\_
   rw [ne g.Arg l.a_ (by have:=K g (nM ..);omega),bf]
   split
   ·exact key _ _
   ·split
    ·unfold ii
     split
     ·exact key _ _
     ·exact key _ _
    ·unfold ii
     split
     ·exact key _ _
     ·exact key _ _
def K0{l:al}(h:Lb l)(ks:List Int): ∀R:List Int,R.length+ks.length<=5000-> ∃ok R',dB l ks {l with result:=R}=some (ok,{l with result:=R' })/\R'.length<=R.length+ks.length+l.n.Aggs.length/\(ok=true->R'.length=R.length+ks.length+l.n.Aggs.length):=by
 induction ks with
 |nil=>
  intro R hR
  unfold dB
  obtain⟨ok,R',Y,X⟩:=KZ (l:=l) l.n.Aggs (((decide ((l.n.Keys.length:Int)<=(3:Int)))&&(decide ((l.n.Aggs.length:Int)<=(12:Int))))&&(decide ((0:Int)<(IntKind.i64.wrap ((l.n.Keys.length:Int)+(l.n.Aggs.length:Int)))))) R h.n.args (by have:=h.n.aggs;simp at hR;omega)
  exact⟨ok,R',Y,by rw [X];simp,fun _=>by rw [X];simp⟩
 |cons k tl ih=>
  intro R hR
  unfold dB
  split
  ·exact⟨false,R,rfl,by omega,fun h=>by cases h⟩
  ·rename_i hk
   show∃ok R',(gV l.a_ k).bind _=_/\_
   have hk' :vy l.a_ k=false:=by
    unfold vy
    simpa using hk
   rw [M1 hk',bf]
   show∃ok R',(app R [Rm l.a_ k]).bind _=_/\_
   rw [cD (by simp at hR ⊢;omega),bf]
   obtain⟨ok,R',Y,X,d⟩:=ih (R++[Rm l.a_ k]) (by simp at hR ⊢;omega)
   refine⟨ok,R',Y,?_,fun ho=>?_⟩
   ·simp at X ⊢;omega
   ·have:=d ho;simp at this ⊢;omega
def K5{l:al}(h:Lb l): ∃ok R',eC l=some (ok,{l with result:=R' })/\R'.length<=l.n.Keys.length+l.n.Aggs.length/\(ok=true->R'.length=l.n.Keys.length+l.n.Aggs.length):=by
 unfold eC
 obtain⟨ok,R',Y,X,d⟩:=K0 h l.n.Keys [] (by have:=h.n.keys;simpa using this)
 exact⟨ok,R',Y,by simpa using X,by simpa using d⟩
def M4{l:al}(h:Lb l):ur eC l (fun R=>l.n.Keys.length<=R.length):=by
 obtain⟨ok,R',Y,X,d⟩:=K5 h
 exact⟨ok,R',Y,fun ho=>by have:=d ho;omega⟩
def yy{k i:Nat}(h:k+i<=100000):IntKind.i64.wrap ((k:Int)+(i:Int))=((k+i:Nat):Int):=by
 rw [eM (by omega) (by omega)];omega
def F7{l:al}(hk:l.n.Keys.length<=5000)(gs:List eY): ∀(i:Nat) (R:List Int),R.length=l.n.Keys.length+(i+gs.length)->R.length<=20000-> ∃R',fy gs i {l with result:=R}=some (true,{l with result:=R' })/\R'.length=R.length:=by
 induction gs with
 |nil=>intro i R _ _;exact⟨R,rfl,rfl⟩
 |cons g tl ih=>
  intro i R hR H
  unfold fy
  simp only [iG]at hR
  split
  ·show∃R',(gV R (IntKind.i64.wrap ((l.n.Keys.length:Int)+(i:Int)))).bind _=_/\_
   rw [yy (by omega),eU,sH (by omega),bf]
   simp only [bf]
   obtain⟨R',Y,X⟩:=ih (i+1) (R.set ((l.n.Keys.length+i:Nat):Int).toNat 4) (by rw [BX];omega) (by rw [BX];omega)
   exact⟨R',Y,by rw [X,BX]⟩
  ·exact ih (i+1) R (by omega) H
def IE{l:al}(h:Lb l):ur d8 l (fun R=>l.n.Keys.length<=R.length):=by
 unfold ur d8
 obtain⟨ok,R',Y,X,d⟩:=K5 h
 have hk:=h.n.keys
 have K:=h.n.aggs
 rw [Y,bf]
 cases ok with
 |false=>exact⟨false,R',rfl,fun h=>by cases h⟩
 |true=>
  have h4:=d rfl
  obtain⟨R2,g1,g2⟩:=F7 (l:=l) hk l.n.Aggs 0 R' (by omega) (by omega)
  exact⟨true,R2,g1,fun _=>by omega⟩
def Lj{l:al}(hk:l.n.Keys.length<=5000)(gs:List eY): ∀(i:Nat) (ok:Bool) (R:List Int),l.a_.length=l.n.Keys.length+(i+gs.length)->R.length=l.a_.length->R.length<=20000-> ∃ok' R',ca l gs i ok {l with result:=R}=some (ok',{l with result:=R' })/\R'.length=R.length:=by
 induction gs with
 |nil=>intro i ok R _ _ _;exact⟨ok,R,rfl,rfl⟩
 |cons g tl ih=>
  intro i ok R ha hR H
  simp only [iG]at ha
  have key: ∀(ok2:Bool) (R2:List Int),R2.length=R.length-> ∃ok' R',ca l tl (i+1) ok2 {l with result:=R2}=some (ok',{l with result:=R' })/\R'.length=R.length:=by
   intro ok2 R2 X
   obtain⟨ok',R',g1,g2⟩:=ih (i+1) ok2 R2 (by omega) (by omega) (by omega)
   exact⟨ok',R',g1,by omega⟩
  have E2: ∀(e3:Int) (x:Bool),∃ok' R',fG l (ca l tl) i g ok {l with result:=R} e3 x=some (ok',{l with result:=R' })/\R'.length=R.length:=by
   intro e3 x
   unfold fG
   split
   ·exact key _ R rfl
   ·split
    ·show∃ok' R',(gV R (IntKind.i64.wrap ((l.n.Keys.length:Int)+(i:Int)))).bind _=_/\_
     rw [yy (by omega),eU,sH (by omega),bf]
     simp only [bf]
     exact key _ _ (by rw [BX])
    ·split<;>(unfold ij;split)<;>exact key _ R rfl
  unfold ca
  show∃ok' R',(gV l.a_ (IntKind.i64.wrap ((l.n.Keys.length:Int)+(i:Int)))).bind _=_/\_
  rw [yy (by omega),eU,sH (by omega),bf]
  split<;>exact E2 _ _
def Lk{l:al}(hk:l.n.Keys.length<=5000)(K:l.n.Aggs.length<=5000)(ha:l.a_.length=l.n.Keys.length+l.n.Aggs.length)(r:List Int)(hr:r.length=l.a_.length)(ks:List Int): ∀(i:Nat) (ok:Bool),i+ks.length=l.n.Keys.length-> ∃ok' R',ea l r ks i ok=some (ok',{l with result:=R' })/\R'.length=r.length:=by
 induction ks with
 |nil=>
  intro i ok _
  exact Lj hk l.n.Aggs 0 ok r (by omega) hr (by omega)
 |cons k tl ih=>
  intro i ok hi
  simp only [iG]at hi
  unfold ea
  have: ∃t,(if(ok&&(k==(i:Int)))then((gV l.a_ (i:Int)).bind fun e5=>some (e5 !=(4:Int)))else some false)=some t:=by
   split
   ·rw [eU,sH (by omega)];exact⟨_,rfl⟩
   ·exact⟨_,rfl⟩
  obtain⟨t,D⟩:=this
  rw [D,bf]
  exact ih (i+1) t (by omega)
def M7{l:al}(h:Lb l)(hA: ∃e,gV l.nodes l.n.A=some e):ur dF l (fun R=>l.n.Keys.length<=R.length):=by
 obtain⟨e,he⟩:=hA
 unfold ur dF
 have hk:=h.n.keys
 have K:=h.n.aggs
 have ha:=h.a
 rw [he,bf]
 by_cases hc:((((e.Op==(9:Int))&&(decide ((l.n.Keys.length:Int)<=(3:Int))))&&(decide ((l.n.Aggs.length:Int)<=(12:Int))))&&((IntKind.i64.wrap ((l.n.Keys.length:Int)+(l.n.Aggs.length:Int)))==(l.a_.length:Int)))=true
 ·rw [aQ (by rw [hc];decide),td _ (by omega),bf]
  have hl:l.a_.length=l.n.Keys.length+l.n.Aggs.length:=by
   simp only [ly,oY]at hc
   have:=hc.2
   rw [yy (by omega)]at this
   omega
  obtain⟨ok',R',g1,g2⟩:=Lk hk K hl l.a_ rfl l.n.Keys 0 _ (vj _)
  exact⟨ok',R',g1,fun _=>by omega⟩
 ·rw [bh (by rw [Ay]at hc;rw [hc];rfl)]
  exact⟨false,l.result,by cases l;rfl,fun h=>by cases h⟩
def F6{l:al}(es:List aO): ∀R:List Int,(∀e∈es,e.Nodes.length<=5000)->R.length+es.length<=20000-> ∃ok R',eF es {l with result:=R}=some (ok,{l with result:=R' })/\(ok=true->R'.length=R.length+es.length):=by
 induction es with
 |nil=>intro R _ _;exact⟨_,R,rfl,fun _=>rfl⟩
 |cons e tl ih=>
  intro R he hR
  unfold eF
  show∃ok R',(nH e l.a_).bind _=_/\_
  rw [ne e l.a_ (by have:=he e (nM ..);omega),bf]
  split
  ·exact⟨false,R,rfl,fun h=>by cases h⟩
  ·show∃ok R',(app R [(gp e l.a_).1]).bind _=_/\_
   rw [cD (by simp at hR ⊢;omega),bf]
   obtain⟨ok,R',Y,X⟩:=ih (R++[(gp e l.a_).1]) (fun x V=>he x (pK _ V)) (by simp at hR ⊢;omega)
   exact⟨ok,R',Y,fun ho=>by have:=X ho;simp at this ⊢;omega⟩
def IA{l:al}(h:Lb l):ur iL l (fun R=>R.length=l.n.Items.length):=by
 have hi:=h.n.items
 obtain⟨ok,R',Y,X⟩:=F6 (l:=l) l.n.Items [] h.n.exprs (by simp;omega)
 exact⟨ok,R',Y,by simpa using X⟩
def JV(nx:Nat->al->Option (Bool×al))(l:al)(R:List Int)(i:Nat)(e k:Int)(h:R.length<=100000):fF nx i {l with result:=R} e k=if((e !=(0:Int))&&(e !=k))then some (false,{l with result:=R})else nx (i+1) {l with result:=R++[k]}:=by
 unfold fF
 split
 ·rfl
 ·show(app R [k]).bind _=_
  rw [cD (by simp;omega)];rfl
def JU{l:al}(xs:List Int): ∀(i:Nat) (R:List Int),i+xs.length=l.b.length->R.length+xs.length<=20000-> ∃ok R',dA xs i {l with result:=R}=some (ok,{l with result:=R' })/\(ok=true->R'.length=R.length+xs.length):=by
 induction xs with
 |nil=>intro i R _ _;exact⟨true,R,rfl,fun _=>rfl⟩
 |cons a tl ih=>
  intro i R hi hR
  simp only [iG]at hi hR
  have key: ∀e k:Int,∃ok R',fF (dA tl) i {l with result:=R} e k=some (ok,{l with result:=R' })/\(ok=true->R'.length=R.length+(a::tl).length):=by
   intro e k
   rw [JV _ _ _ _ _ _ (by omega)]
   split
   ·exact⟨false,R,rfl,fun h=>by cases h⟩
   ·obtain⟨ok,R',Y,X⟩:=ih (i+1) (R++[k]) (by omega) (by simp;omega)
    exact⟨ok,R',Y,fun ho=>by have:=X ho;simp at this ⊢;omega⟩
  unfold dA
  show∃ok R',(gV l.b (i:Int)).bind _=_/\_
  rw [eU,sH (by omega),bf]
  split<;>exact key _ _
def Me{l:al}(h:Lb l):ur jb l (fun R=>R.length=l.a_.length):=by
 unfold ur jb
 have ha:=h.a
 by_cases hl:l.a_.length=l.b.length
 ·rw [aQ (by simp [hl])]
  obtain⟨ok,R',Y,X⟩:=JU (l:=l) l.a_ 0 [] (by omega) (by simp;omega)
  exact⟨ok,R',Y,by simpa using X⟩
 ·rw [bh (by simp;omega)]
  exact⟨false,l.result,by cases l;rfl,fun h=>by cases h⟩
def oe(op:Int):al->Unit->Option (Bool×al):=(uo ((lE).getD []) op).getD (fun _ _=>none)
def Ly{l:al}(h:Lb l)(hA:prt l.n.Op≠0-> ∃e,gV l.nodes l.n.A=some e)(hp:0<=prt l.n.Op):ur (fun l=>oe l.n.Op l ()) l (Mz l.n l.a_ l.b):=by
 have imp: ∀{m:al->Option (Bool×al)} {P:List Int->Prop},ur m l P->(oe l.n.Op l ()=m l)->(∀R,P R->Mz l.n l.a_ l.b R)->ur (fun l=>oe l.n.Op l ()) l (Mz l.n l.a_ l.b):=
  fun⟨ok,R,Y,X⟩ he hr=>⟨ok,R,by show oe l.n.Op l ()=_;rw [he];exact Y,fun ho=>hr R (X ho)⟩
 by_cases Y:l.n.Op=1
 ·exact imp Qg (by rw [Y];rfl) (fun R hR=>by
   unfold Mz
   rw [Y]
   exact⟨fun _=>hR,fun h=>absurd h (by decide),fun h=>absurd h (by decide),fun h=>absurd h (by decide),fun h=>absurd h (by decide),fun h=>absurd h (by decide),fun h=>absurd h (by decide)⟩)
 by_cases X:l.n.Op=2
 ·exact imp (QG h) (by rw [X];rfl) (fun R hR=>by simp [Mz,X];exact hR)
 by_cases d:l.n.Op=3
 ·exact imp (Lm h) (by rw [d];rfl) (fun R hR=>by simp [Mz,d];exact hR)
 by_cases h4:l.n.Op=4
 ·exact imp (M4 h) (by rw [h4];rfl) (fun R hR=>by simp [Mz,h4];exact hR)
 by_cases h5:l.n.Op=5
 ·exact imp (IA h) (by rw [h5];rfl) (fun R hR=>by simp [Mz,h5];exact hR)
 by_cases h6:l.n.Op=6
 ·exact imp MX (by rw [h6];rfl) (fun R hR=>by simp [Mz,h6];exact hR)
 by_cases h7:l.n.Op=7
 ·exact imp (Me h) (by rw [h7];rfl) (fun R hR=>by simp [Mz,h7];exact hR)
 by_cases h8:l.n.Op=8
 ·exact imp PU (by rw [h8];rfl) (fun R hR=>by simp [Mz,h8];exact hR)
 by_cases h9:l.n.Op=9
 ·exact imp (M0 h) (by rw [h9];rfl) (fun R hR=>by simp [Mz,h9];exact⟨hR.1,hR.2⟩)
 by_cases h10:l.n.Op=10
 ·exact imp (IE h) (by rw [h10];rfl) (fun R hR=>by simp [Mz,h10];exact hR)
 by_cases h11:l.n.Op=11
 ·exact imp (M7 h (hA (by rw [h11];decide))) (by rw [h11];rfl) (fun R hR=>by simp [Mz,h11];exact hR)
 exfalso
 simp [prt,Y,X,d,h4,h5,h6,h7,h8,h9,h10,h11]at hp
end Go.Proofs.YtdohlidddcgfjaaGreat

