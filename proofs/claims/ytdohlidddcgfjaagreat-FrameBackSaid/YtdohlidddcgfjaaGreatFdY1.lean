/- bT of this claim: Y1. -/
import Derived.Test.YtdohlidddcgfjaaGreatFdQ2
set_option linter.all false
namespace Go.Proofs.YtdohlidddcgfjaaGreat
open Go

def prt(op:Int):Int:=if op=1\/op=9 then 0 else if op=2\/op=7 then 2 else if op=3\/op=4\/op=5\/op=6\/op=8\/op=10\/op=11 then 1 else -1
def uN(op:Int):vR op=some (prt op):=by
 by_cases Y:op=1
 ·subst Y;rfl
 by_cases X:op=2
 ·subst X;rfl
 by_cases d:op=3
 ·subst d;rfl
 by_cases h4:op=4
 ·subst h4;rfl
 by_cases h5:op=5
 ·subst h5;rfl
 by_cases h6:op=6
 ·subst h6;rfl
 by_cases h7:op=7
 ·subst h7;rfl
 by_cases h8:op=8
 ·subst h8;rfl
 by_cases h9:op=9
 ·subst h9;rfl
 by_cases h10:op=10
 ·subst h10;rfl
 by_cases h11:op=11
 ·subst h11;rfl
 simp [vR,rE,rD,jD,prt,Y,X,d,h4,h5,h6,h7,h8,h9,h10,h11]
def Bw(v:Int): ∀(l:List Int) (i:Nat),∃j:Int,ij v l i=some j/\((0<=j)↔v∈l)/\(0<=j-> ∃k:Nat,j=((i+k:Nat):Int)/\k<l.length/\l[k]? =some v)/\ -1<=j
 |[],i=>⟨-1,rfl,by simp,by simp,by simp⟩
 |e::tl,i=>by
  unfold ij
  by_cases h:v=e
  ·subst h
   exact⟨i,by simp,by simp,fun _=>⟨0,by simp,by simp,rfl⟩,by omega⟩
  ·obtain⟨j,Y,X,d,h4⟩:=Bw v tl (i+1)
   refine⟨j,by rw [aR (by simpa using h)];exact Y,by rw [X];simp [h],fun hj=>?_,h4⟩
   obtain⟨k,g1,g2,g3⟩:=d hj
   exact⟨k+1,by rw [g1];congr 1;omega,by simp;omega,by simpa using g3⟩
def I6(l:List Int)(v:Int): ∃j:Int,n6 l v=some j/\((0<=j)↔v∈l)/\(0<=j-> ∃k:Nat,j=(k:Int)/\k<l.length/\l[k]? =some v)/\ -1<=j:=by
 obtain⟨j,Y,X,d,h4⟩:=Bw v l 0
 exact⟨j,Y,X,fun hj=>by obtain⟨k,g1,g2,g3⟩:=d hj;exact⟨k,by simpa using g1,g2,g3⟩,h4⟩
def wT(l:List Int)(v:Int):gg l v=some (decide (v∈l)):=by
 unfold gg
 obtain⟨j,Y,X,_⟩:=I6 l v
 rw [Y,bg,Af.2 X]
def LX(n:aa)(a b R:List Int):Prop:=
 (n.Op=1->R=n.Kinds/\0<=n.Table/\n.Table<4/\0<n.Kinds.length/\ ∀k∈n.Kinds,1<=k/\k<=3)/\(n.Op=9->R=n.Kinds/\0<=n.Table/\n.Table<30/\0<n.Kinds.length)/\(n.Op=2->a.length<=R.length)/\(n.Op=3\/n.Op=6\/n.Op=8->R=a)/\
  (n.Op=4\/n.Op=10\/n.Op=11->n.Keys.length<=R.length)/\(n.Op=5->R.length=n.Items.length)/\(n.Op=7->R.length=a.length)
structure Lb(l:al):Prop where
 n:i0 l.n
 a:l.a_.length<=16
 b:l.b.length<=16
def t8(m:al->Option (Bool×al))(l:al)(P:List Int->Prop):Prop:= ∃ok R,m l=some (ok,{l with result:=R})/\(ok=true->P R)
def Pw{l:al}:t8 jR l (fun R=>R=l.n.Kinds/\0<=l.n.Table/\l.n.Table<4/\0<l.n.Kinds.length/\ ∀k∈l.n.Kinds,1<=k/\k<=3):=by
 unfold t8 jR
 rw [ku (f:=oU) (g:=fun k=>(decide (k<(1:Int)))||(decide ((3:Int)<k))) (fun _=>rfl),bg]
 refine⟨_,_,rfl,fun h=>⟨rfl,?_⟩⟩
 simp only [lq,hX]at h
 obtain⟨⟨⟨⟨Y,X⟩,d⟩,h4⟩,h5⟩:=h
 refine⟨by omega,by omega,by omega,fun k hk=>?_⟩
 have h6:(l.n.Kinds.any fun k=>(decide (k<(1:Int)))||(decide ((3:Int)<k)))=false:=by simpa using Y
 have:=Jg.1 h6 k hk
 simp at this
 omega
def Mt{l:al}(h:Lb l):t8 hT l (fun R=>R=l.n.Kinds/\0<=l.n.Table/\l.n.Table<30/\0<l.n.Kinds.length):=by
 unfold t8 hT
 rw [ku (f:=nL) (fun _=>rfl),bg]
 refine⟨_,_,rfl,fun h=>⟨rfl,?_⟩⟩
 simp only [lq,hX]at h
 omega
def zc(e:aP)(kinds:List Int)(h:e.Nodes.length<=5000): ∃b,kf e kinds=some b:=by
 unfold kf
 rw [m4 e kinds (by omega)]
 exact⟨_,rfl⟩
def PW{l:al}(h:Lb l):t8 gZ l (fun R=>l.a_.length<=R.length):=by
 unfold t8 gZ
 have ha:=h.a
 have K:=h.b
 rw [Fs _ _ (by omega) (by omega),bg]
 obtain⟨b,hb2⟩:=zc l.n.Cond (l.a_++l.b) h.n.cond
 refine⟨b,l.a_++l.b,?_,fun _=>by simp⟩
 show(kf l.n.Cond (l.a_++l.b)).bind _=_
 rw [hb2];rfl
def KG{l:al}(h:Lb l):t8 fK l (fun R=>R=l.a_):=by
 unfold t8 fK
 obtain⟨b,hb2⟩:=zc l.n.Cond l.a_ h.n.cond
 refine⟨b,l.a_,?_,fun _=>rfl⟩
 show(kf l.n.Cond l.a_).bind _=_
 rw [hb2];rfl
def Mq{l:al}:t8 ly l (fun R=>R=l.a_):=⟨true,l.a_,rfl,fun _=>rfl⟩
def Pj{l:al}:t8 jQ l (fun R=>R=l.a_):=by
 unfold t8 jQ
 rw [sk (f:=mE _) (fun _=>rfl),bg]
 exact⟨_,l.a_,rfl,fun _=>rfl⟩
def CH(nx:Bool->al->Option (Bool×al))(l:al)(R:List Int)(ok:Bool)(k:Int)(h:R.length<=100000):eH nx {l with result:=R} ok k=nx ok {l with result:=R++[k]}:=by
 unfold eH
 show(app R [k]).bind _=_
 rw [cK (by simp;omega)];rfl
def Kr{l:al}(gs:List eS): ∀(ok:Bool) (R:List Int),(∀g∈gs,g.Arg.Nodes.length<=5000)->R.length+gs.length<=20000->
  ∃ok' R',cy gs ok {l with result:=R}=some (ok',{l with result:=R' })/\R'.length=R.length+gs.length:=by
 induction gs with
 |nil=>intro ok R _ _;exact⟨ok,R,rfl,rfl⟩
 |cons g tl ih=>
  intro ok R H hR
  have key: ∀(ok2:Bool) (k:Int),∃ok' R',eH (cy tl) {l with result:=R} ok2 k=some (ok',{l with result:=R' })/\R'.length=R.length+(g::tl).length:=by
   intro ok2 k
   rw [CH _ _ _ _ _ (by simp at hR;omega)]
   obtain⟨ok',R',Y,X⟩:=ih ok2 (R++[k]) (fun x V=>H x (pp _ V)) (by simp at hR ⊢;omega)
   exact⟨ok',R',Y,by rw [X];simp;omega⟩
  unfold cy
  split
  ·exact key _ _
  ·show∃ok' R',(nv g.Arg l.a_).bind _=_/\_
   rw [m4 g.Arg l.a_ (by have:=H g (nA ..);omega),bg]
   split
   ·exact key _ _
   ·split
    ·unfold hY
     split
     ·exact key _ _
     ·exact key _ _
    ·unfold hY
     split
     ·exact key _ _
     ·exact key _ _
def Kt{l:al}(h:Lb l)(ks:List Int): ∀R:List Int,R.length+ks.length<=5000-> ∃ok R',dw l ks {l with result:=R}=some (ok,{l with result:=R' })/\R'.length<=R.length+ks.length+l.n.Aggs.length/\(ok=true->R'.length=R.length+ks.length+l.n.Aggs.length):=by
 induction ks with
 |nil=>
  intro R hR
  unfold dw
  obtain⟨ok,R',Y,X⟩:=Kr (l:=l) l.n.Aggs (((decide ((l.n.Keys.length:Int)<=(3:Int)))&&(decide ((l.n.Aggs.length:Int)<=(12:Int))))&&(decide ((0:Int)<(IntKind.i64.wrap ((l.n.Keys.length:Int)+(l.n.Aggs.length:Int)))))) R h.n.args (by have:=h.n.aggs;simp at hR;omega)
  exact⟨ok,R',Y,by rw [X];simp,fun _=>by rw [X];simp⟩
 |cons k tl ih=>
  intro R hR
  unfold dw
  split
  ·exact⟨false,R,rfl,by omega,fun h=>by cases h⟩
  ·rename_i hk
   show∃ok R',(gR l.a_ k).bind _=_/\_
   have hk' :vj l.a_ k=false:=by
    unfold vj
    simpa using hk
   rw [Mu hk',bg]
   show∃ok R',(app R [QK l.a_ k]).bind _=_/\_
   rw [cK (by simp at hR ⊢;omega),bg]
   obtain⟨ok,R',Y,X,d⟩:=ih (R++[QK l.a_ k]) (by simp at hR ⊢;omega)
   refine⟨ok,R',Y,?_,fun ho=>?_⟩
   ·simp at X ⊢;omega
   ·have:=d ho;simp at this ⊢;omega
def Ku{l:al}(h:Lb l): ∃ok R',eo l=some (ok,{l with result:=R' })/\R'.length<=l.n.Keys.length+l.n.Aggs.length/\(ok=true->R'.length=l.n.Keys.length+l.n.Aggs.length):=by
 unfold eo
 obtain⟨ok,R',Y,X,d⟩:=Kt h l.n.Keys [] (by have:=h.n.keys;simpa using this)
 exact⟨ok,R',Y,by simpa using X,by simpa using d⟩
def Mx{l:al}(h:Lb l):t8 eo l (fun R=>l.n.Keys.length<=R.length):=by
 obtain⟨ok,R',Y,X,d⟩:=Ku h
 exact⟨ok,R',Y,fun ho=>by have:=d ho;omega⟩
def yh{k i:Nat}(h:k+i<=100000):IntKind.i64.wrap ((k:Int)+(i:Int))=((k+i:Nat):Int):=by
 rw [eP (by omega) (by omega)];omega
def FL{l:al}(hk:l.n.Keys.length<=5000)(gs:List eS): ∀(i:Nat) (R:List Int),R.length=l.n.Keys.length+(i+gs.length)->R.length<=20000-> ∃R',fq gs i {l with result:=R}=some (true,{l with result:=R' })/\R'.length=R.length:=by
 induction gs with
 |nil=>intro i R _ _;exact⟨R,rfl,rfl⟩
 |cons g tl ih=>
  intro i R hR K
  unfold fq
  simp only [iB]at hR
  split
  ·show∃R',(gR R (IntKind.i64.wrap ((l.n.Keys.length:Int)+(i:Int)))).bind _=_/\_
   rw [yh (by omega),eU,tM (by omega),bg]
   simp only [bg]
   obtain⟨R',Y,X⟩:=ih (i+1) (R.set ((l.n.Keys.length+i:Nat):Int).toNat 4) (by rw [CU];omega) (by rw [CU];omega)
   exact⟨R',Y,by rw [X,CU]⟩
  ·exact ih (i+1) R (by omega) K
def If{l:al}(h:Lb l):t8 dY l (fun R=>l.n.Keys.length<=R.length):=by
 unfold t8 dY
 obtain⟨ok,R',Y,X,d⟩:=Ku h
 have hk:=h.n.keys
 have H:=h.n.aggs
 rw [Y,bg]
 cases ok with
 |false=>exact⟨false,R',rfl,fun h=>by cases h⟩
 |true=>
  have h4:=d rfl
  obtain⟨R2,g1,g2⟩:=FL (l:=l) hk l.n.Aggs 0 R' (by omega) (by omega)
  exact⟨true,R2,g1,fun _=>by omega⟩
def KD{l:al}(hk:l.n.Keys.length<=5000)(gs:List eS): ∀(i:Nat) (ok:Bool) (R:List Int),l.a_.length=l.n.Keys.length+(i+gs.length)->R.length=l.a_.length->R.length<=20000-> ∃ok' R',ca l gs i ok {l with result:=R}=some (ok',{l with result:=R' })/\R'.length=R.length:=by
 induction gs with
 |nil=>intro i ok R _ _ _;exact⟨ok,R,rfl,rfl⟩
 |cons g tl ih=>
  intro i ok R ha hR K
  simp only [iB]at ha
  have key: ∀(ok2:Bool) (R2:List Int),R2.length=R.length-> ∃ok' R',ca l tl (i+1) ok2 {l with result:=R2}=some (ok',{l with result:=R' })/\R'.length=R.length:=by
   intro ok2 R2 X
   obtain⟨ok',R',g1,g2⟩:=ih (i+1) ok2 R2 (by omega) (by omega) (by omega)
   exact⟨ok',R',g1,by omega⟩
  have EH: ∀(e3:Int) (x:Bool),∃ok' R',fD l (ca l tl) i g ok {l with result:=R} e3 x=some (ok',{l with result:=R' })/\R'.length=R.length:=by
   intro e3 x
   unfold fD
   split
   ·exact key _ R rfl
   ·split
    ·show∃ok' R',(gR R (IntKind.i64.wrap ((l.n.Keys.length:Int)+(i:Int)))).bind _=_/\_
     rw [yh (by omega),eU,tM (by omega),bg]
     simp only [bg]
     exact key _ _ (by rw [CU])
    ·split<;>(unfold hZ;split)<;>exact key _ R rfl
  unfold ca
  show∃ok' R',(gR l.a_ (IntKind.i64.wrap ((l.n.Keys.length:Int)+(i:Int)))).bind _=_/\_
  rw [yh (by omega),eU,tM (by omega),bg]
  split<;>exact EH _ _
def KE{l:al}(hk:l.n.Keys.length<=5000)(H:l.n.Aggs.length<=5000)(ha:l.a_.length=l.n.Keys.length+l.n.Aggs.length)(r:List Int)(hr:r.length=l.a_.length)(ks:List Int): ∀(i:Nat) (ok:Bool),i+ks.length=l.n.Keys.length-> ∃ok' R',d5 l r ks i ok=some (ok',{l with result:=R' })/\R'.length=r.length:=by
 induction ks with
 |nil=>
  intro i ok _
  exact KD hk l.n.Aggs 0 ok r (by omega) hr (by omega)
 |cons k tl ih=>
  intro i ok hi
  simp only [iB]at hi
  unfold d5
  have: ∃t,(if(ok&&(k==(i:Int)))then((gR l.a_ (i:Int)).bind fun e5=>some (e5 !=(4:Int)))else some false)=some t:=by
   split
   ·rw [eU,tM (by omega)];exact⟨_,rfl⟩
   ·exact⟨_,rfl⟩
  obtain⟨t,D⟩:=this
  rw [D,bg]
  exact ih (i+1) t (by omega)
def MA{l:al}(h:Lb l)(hA: ∃e,gR l.nodes l.n.A=some e):t8 dA l (fun R=>l.n.Keys.length<=R.length):=by
 obtain⟨e,he⟩:=hA
 unfold t8 dA
 have hk:=h.n.keys
 have H:=h.n.aggs
 have ha:=h.a
 rw [he,bg]
 by_cases hc:((((e.Op==(9:Int))&&(decide ((l.n.Keys.length:Int)<=(3:Int))))&&(decide ((l.n.Aggs.length:Int)<=(12:Int))))&&((IntKind.i64.wrap ((l.n.Keys.length:Int)+(l.n.Aggs.length:Int)))==(l.a_.length:Int)))=true
 ·rw [aR (by rw [hc];decide),sP _ (by omega),bg]
  have hl:l.a_.length=l.n.Keys.length+l.n.Aggs.length:=by
   simp only [lq,oJ]at hc
   have:=hc.2
   rw [yh (by omega)]at this
   omega
  obtain⟨ok',R',g1,g2⟩:=KE hk H hl l.a_ rfl l.n.Keys 0 _ (uX _)
  exact⟨ok',R',g1,fun _=>by omega⟩
 ·rw [bh (by rw [Ah]at hc;rw [hc];rfl)]
  exact⟨false,l.result,by cases l;rfl,fun h=>by cases h⟩
def FK{l:al}(es:List aP): ∀R:List Int,(∀e∈es,e.Nodes.length<=5000)->R.length+es.length<=20000-> ∃ok R',ew es {l with result:=R}=some (ok,{l with result:=R' })/\(ok=true->R'.length=R.length+es.length):=by
 induction es with
 |nil=>intro R _ _;exact⟨_,R,rfl,fun _=>rfl⟩
 |cons e tl ih=>
  intro R he hR
  unfold ew
  show∃ok R',(nv e l.a_).bind _=_/\_
  rw [m4 e l.a_ (by have:=he e (nA ..);omega),bg]
  split
  ·exact⟨false,R,rfl,fun h=>by cases h⟩
  ·show∃ok R',(app R [(gh e l.a_).1]).bind _=_/\_
   rw [cK (by simp at hR ⊢;omega),bg]
   obtain⟨ok,R',Y,X⟩:=ih (R++[(gh e l.a_).1]) (fun x V=>he x (pp _ V)) (by simp at hR ⊢;omega)
   exact⟨ok,R',Y,fun ho=>by have:=X ho;simp at this ⊢;omega⟩
def Ic{l:al}(h:Lb l):t8 iG l (fun R=>R.length=l.n.Items.length):=by
 have hi:=h.n.items
 obtain⟨ok,R',Y,X⟩:=FK (l:=l) l.n.Items [] h.n.exprs (by simp;omega)
 exact⟨ok,R',Y,by simpa using X⟩
def Jy(nx:Nat->al->Option (Bool×al))(l:al)(R:List Int)(i:Nat)(e k:Int)(h:R.length<=100000):fC nx i {l with result:=R} e k=if((e !=(0:Int))&&(e !=k))then some (false,{l with result:=R})else nx (i+1) {l with result:=R++[k]}:=by
 unfold fC
 split
 ·rfl
 ·show(app R [k]).bind _=_
  rw [cK (by simp;omega)];rfl
def Jx{l:al}(xs:List Int): ∀(i:Nat) (R:List Int),i+xs.length=l.b.length->R.length+xs.length<=20000-> ∃ok R',dv xs i {l with result:=R}=some (ok,{l with result:=R' })/\(ok=true->R'.length=R.length+xs.length):=by
 induction xs with
 |nil=>intro i R _ _;exact⟨true,R,rfl,fun _=>rfl⟩
 |cons a tl ih=>
  intro i R hi hR
  simp only [iB]at hi hR
  have key: ∀e k:Int,∃ok R',fC (dv tl) i {l with result:=R} e k=some (ok,{l with result:=R' })/\(ok=true->R'.length=R.length+(a::tl).length):=by
   intro e k
   rw [Jy _ _ _ _ _ _ (by omega)]
   split
   ·exact⟨false,R,rfl,fun h=>by cases h⟩
   ·obtain⟨ok,R',Y,X⟩:=ih (i+1) (R++[k]) (by omega) (by simp;omega)
    exact⟨ok,R',Y,fun ho=>by have:=X ho;simp at this ⊢;omega⟩
  unfold dv
  show∃ok R',(gR l.b (i:Int)).bind _=_/\_
  rw [eU,tM (by omega),bg]
  split<;>exact key _ _
def LB{l:al}(h:Lb l):t8 iX l (fun R=>R.length=l.a_.length):=by
 unfold t8 iX
 have ha:=h.a
 by_cases hl:l.a_.length=l.b.length
 ·rw [aR (by simp [hl])]
  obtain⟨ok,R',Y,X⟩:=Jx (l:=l) l.a_ 0 [] (by omega) (by simp;omega)
  exact⟨ok,R',Y,by simpa using X⟩
 ·rw [bh (by simp;omega)]
  exact⟨false,l.result,by cases l;rfl,fun h=>by cases h⟩
def nU(op:Int):al->Unit->Option (Bool×al):=(tZ ((lz).getD []) op).getD (fun _ _=>none)
def KV{l:al}(h:Lb l)(hA:prt l.n.Op≠0-> ∃e,gR l.nodes l.n.A=some e)(hp:0<=prt l.n.Op):t8 (fun l=>nU l.n.Op l ()) l (LX l.n l.a_ l.b):=by
 have imp: ∀{m:al->Option (Bool×al)} {P:List Int->Prop},t8 m l P->(nU l.n.Op l ()=m l)->(∀R,P R->LX l.n l.a_ l.b R)->t8 (fun l=>nU l.n.Op l ()) l (LX l.n l.a_ l.b):=
  fun⟨ok,R,Y,X⟩ he hr=>⟨ok,R,by show nU l.n.Op l ()=_;rw [he];exact Y,fun ho=>hr R (X ho)⟩
 by_cases Y:l.n.Op=1
 ·exact imp Pw (by rw [Y];rfl) (fun R hR=>by
   unfold LX
   rw [Y]
   exact⟨fun _=>hR,fun h=>absurd h (by decide),fun h=>absurd h (by decide),fun h=>absurd h (by decide),fun h=>absurd h (by decide),fun h=>absurd h (by decide),fun h=>absurd h (by decide)⟩)
 by_cases X:l.n.Op=2
 ·exact imp (PW h) (by rw [X];rfl) (fun R hR=>by simp [LX,X];exact hR)
 by_cases d:l.n.Op=3
 ·exact imp (KG h) (by rw [d];rfl) (fun R hR=>by simp [LX,d];exact hR)
 by_cases h4:l.n.Op=4
 ·exact imp (Mx h) (by rw [h4];rfl) (fun R hR=>by simp [LX,h4];exact hR)
 by_cases h5:l.n.Op=5
 ·exact imp (Ic h) (by rw [h5];rfl) (fun R hR=>by simp [LX,h5];exact hR)
 by_cases h6:l.n.Op=6
 ·exact imp Mq (by rw [h6];rfl) (fun R hR=>by simp [LX,h6];exact hR)
 by_cases h7:l.n.Op=7
 ·exact imp (LB h) (by rw [h7];rfl) (fun R hR=>by simp [LX,h7];exact hR)
 by_cases h8:l.n.Op=8
 ·exact imp Pj (by rw [h8];rfl) (fun R hR=>by simp [LX,h8];exact hR)
 by_cases h9:l.n.Op=9
 ·exact imp (Mt h) (by rw [h9];rfl) (fun R hR=>by simp [LX,h9];exact⟨hR.1,hR.2⟩)
 by_cases h10:l.n.Op=10
 ·exact imp (If h) (by rw [h10];rfl) (fun R hR=>by simp [LX,h10];exact hR)
 by_cases h11:l.n.Op=11
 ·exact imp (MA h (hA (by rw [h11];decide))) (by rw [h11];rfl) (fun R hR=>by simp [LX,h11];exact hR)
 exfalso
 simp [prt,Y,X,d,h4,h5,h6,h7,h8,h9,h10,h11]at hp
end Go.Proofs.YtdohlidddcgfjaaGreat

