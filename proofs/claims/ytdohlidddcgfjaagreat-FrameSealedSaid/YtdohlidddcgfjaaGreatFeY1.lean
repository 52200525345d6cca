/- bO of this claim: Y1. -/
import Derived.Test.YtdohlidddcgfjaaGreatFeQ2
set_option linter.all false
namespace Go.Proofs.YtdohlidddcgfjaaGreat
open Go

def lB(op:Int):Int:=if op=1\/op=9 then 0 else if op=2\/op=7 then 2 else if op=3\/op=4\/op=5\/op=6\/op=8\/op=10\/op=11 then 1 else -1
def tJ(op:Int):uM op=some (lB op):=by
 by_cases Y:op=1
 ·subst Y;rfl
 by_cases H:op=2
 ·subst H;rfl
 by_cases s:op=3
 ·subst s;rfl
 by_cases h4:op=4
 ·subst h4;rfl
 by_cases h5:op=5
 ·subst h5;rfl
 by_cases h6:op=6
 ·subst h6;rfl
 by_cases h7:op=7
 ·subst h7;rfl
 by_cases h8:op=8
 ·subst h8;rfl
 by_cases h9:op=9
 ·subst h9;rfl
 by_cases h10:op=10
 ·subst h10;rfl
 by_cases h11:op=11
 ·subst h11;rfl
 simp [uM,qJ,qI,jc,lB,Y,H,s,h4,h5,h6,h7,h8,h9,h10,h11]
def zX(v:Int): ∀(l:List Int) (i:Nat),∃j:Int,gT v l i=some j/\((0<=j)↔v∈l)/\(0<=j-> ∃k:Nat,j=((i+k:Nat):Int)/\k<l.length/\l[k]? =some v)/\ -1<=j
 |[],i=>⟨-1,rfl,by simp,by simp,by simp⟩
 |e::tl,i=>by
  unfold gT
  by_cases h:v=e
  ·subst h
   exact⟨i,by simp,by simp,fun _=>⟨0,by simp,by simp,rfl⟩,by omega⟩
  ·obtain⟨j,Y,H,s,h4⟩:=zX v tl (i+1)
   refine⟨j,by rw [aV (by simpa using h)];exact Y,by rw [H];simp [h],fun hj=>?_,h4⟩
   obtain⟨k,g1,g2,g3⟩:=s hj
   exact⟨k+1,by rw [g1];congr 1;omega,by simp;omega,by simpa using g3⟩
def Hb(l:List Int)(v:Int): ∃j:Int,np l v=some j/\((0<=j)↔v∈l)/\(0<=j-> ∃k:Nat,j=(k:Int)/\k<l.length/\l[k]? =some v)/\ -1<=j:=by
 obtain⟨j,Y,H,s,h4⟩:=zX v l 0
 exact⟨j,Y,H,fun hj=>by obtain⟨k,g1,g2,g3⟩:=s hj;exact⟨k,by simpa using g1,g2,g3⟩,h4⟩
def vv(l:List Int)(v:Int):fL l v=some (decide (v∈l)):=by
 unfold fL
 obtain⟨j,Y,H,_⟩:=Hb l v
 rw [Y,bg,Aa.2 H]
def J9(n:aa)(a b R:List Int):Prop:=
 (n.Op=1->R=n.Kinds/\0<=n.Table/\n.Table<4/\0<n.Kinds.length/\ ∀k∈n.Kinds,1<=k/\k<=3)/\(n.Op=9->R=n.Kinds/\0<=n.Table/\n.Table<30/\0<n.Kinds.length)/\(n.Op=2->a.length<=R.length)/\(n.Op=3\/n.Op=6\/n.Op=8->R=a)/\
  (n.Op=4\/n.Op=10\/n.Op=11->n.Keys.length<=R.length)/\(n.Op=5->R.length=n.Items.length)/\(n.Op=7->R.length=a.length)
structure Lb(l:al):Prop where
 n:ju l.n
 a:l.a_.length<=16
 b:l.b.length<=16
def sL(m:al->Option (Bool×al))(l:al)(P:List Int->Prop):Prop:= ∃ok R,m l=some (ok,{l with result:=R})/\(ok=true->P R)
def Nl{l:al}:sL jq l (fun R=>R=l.n.Kinds/\0<=l.n.Table/\l.n.Table<4/\0<l.n.Kinds.length/\ ∀k∈l.n.Kinds,1<=k/\k<=3):=by
 unfold sL jq
 rw [jR (f:=nX) (g:=fun k=>(decide (k<(1:Int)))||(decide ((3:Int)<k))) (fun _=>rfl),bg]
 refine⟨_,_,rfl,fun h=>⟨rfl,?_⟩⟩
 simp only [nP,mg]at h
 obtain⟨⟨⟨⟨Y,H⟩,s⟩,h4⟩,h5⟩:=h
 refine⟨by omega,by omega,by omega,fun k hk=>?_⟩
 have h6:(l.n.Kinds.any fun k=>(decide (k<(1:Int)))||(decide ((3:Int)<k)))=false:=by simpa using Y
 have:=List.any_eq_false.1 h6 k hk
 simp at this
 omega
def KA{l:al}(h:Lb l):sL iB l (fun R=>R=l.n.Kinds/\0<=l.n.Table/\l.n.Table<30/\0<l.n.Kinds.length):=by
 unfold sL iB
 rw [jR (f:=m6) (fun _=>rfl),bg]
 refine⟨_,_,rfl,fun h=>⟨rfl,?_⟩⟩
 simp only [nP,mg]at h
 omega
def xI(e:aR)(kinds:List Int)(h:e.Nodes.length<=5000): ∃b,jH e kinds=some b:=by
 unfold jH
 rw [my e kinds (by omega)]
 exact⟨_,rfl⟩
def NO{l:al}(h:Lb l):sL gx l (fun R=>l.a_.length<=R.length):=by
 unfold sL gx
 have ha:=h.a
 have W:=h.b
 rw [DO _ _ (by omega) (by omega),bg]
 obtain⟨b,hb2⟩:=xI l.n.Cond (l.a_++l.b) h.n.cond
 refine⟨b,l.a_++l.b,?_,fun _=>by simp⟩
 show(jH l.n.Cond (l.a_++l.b)).bind _=_
 rw [hb2];rfl
def IW{l:al}(h:Lb l):sL fd l (fun R=>R=l.a_):=by
 unfold sL fd
 obtain⟨b,hb2⟩:=xI l.n.Cond l.a_ h.n.cond
 refine⟨b,l.a_,?_,fun _=>rfl⟩
 show(jH l.n.Cond l.a_).bind _=_
 rw [hb2];rfl
def Kw{l:al}:sL kM l (fun R=>R=l.a_):=⟨true,l.a_,rfl,fun _=>rfl⟩
def M7{l:al}:sL jp l (fun R=>R=l.a_):=by
 unfold sL jp
 rw [ri (f:=lR _) (fun _=>rfl),bg]
 exact⟨_,l.a_,rfl,fun _=>rfl⟩
def Bf(nx:Bool->al->Option (Bool×al))(l:al)(R:List Int)(ok:Bool)(k:Int)(h:R.length<=100000):ek nx {l with result:=R} ok k=nx ok {l with result:=R++[k]}:=by
 unfold ek
 show(jh R [k]).bind _=_
 rw [cE (by simp;omega)];rfl
def IF{l:al}(gs:List fI): ∀(ok:Bool) (R:List Int),(∀g∈gs,g.Arg.Nodes.length<=5000)->R.length+gs.length<=20000->
  ∃ok' R',cr gs ok {l with result:=R}=some (ok',{l with result:=R' })/\R'.length=R.length+gs.length:=by
 induction gs with
 |nil=>intro ok R _ _;exact⟨ok,R,rfl,rfl⟩
 |cons g tl ih=>
  intro ok R V hR
  have key: ∀(ok2:Bool) (k:Int),∃ok' R',ek (cr tl) {l with result:=R} ok2 k=some (ok',{l with result:=R' })/\R'.length=R.length+(g::tl).length:=by
   intro ok2 k
   rw [Bf _ _ _ _ _ (by simp at hR;omega)]
   obtain⟨ok',R',Y,H⟩:=ih ok2 (R++[k]) (fun x X=>V x (o4 _ X)) (by simp at hR ⊢;omega)
   exact⟨ok',R',Y,by rw [H];simp;omega⟩
  unfold cr
  split
  ·exact key _ _
  ·show∃ok' R',(mT g.Arg l.a_).bind _=_/\_
   rw [my g.Arg l.a_ (by have:=V g (nQ ..);omega),bg]
   split
   ·exact key _ _
   ·split
    ·unfold gI
     split
     ·exact key _ _
     ·exact key _ _
    ·unfold gI
     split
     ·exact key _ _
     ·exact key _ _
def IG{l:al}(h:Lb l)(ks:List Int): ∀R:List Int,R.length+ks.length<=5000-> ∃ok R',dk l ks {l with result:=R}=some (ok,{l with result:=R' })/\R'.length<=R.length+ks.length+l.n.Aggs.length/\(ok=true->R'.length=R.length+ks.length+l.n.Aggs.length):=by
 induction ks with
 |nil=>
  intro R hR
  unfold dk
  obtain⟨ok,R',Y,H⟩:=IF (l:=l) l.n.Aggs (((decide ((l.n.Keys.length:Int)<=(3:Int)))&&(decide ((l.n.Aggs.length:Int)<=(12:Int))))&&(decide ((0:Int)<(IntKind.i64.wrap ((l.n.Keys.length:Int)+(l.n.Aggs.length:Int)))))) R h.n.args (by have:=h.n.aggs;simp at hR;omega)
  exact⟨ok,R',Y,by rw [H];simp,fun _=>by rw [H];simp⟩
 |cons k tl ih=>
  intro R hR
  unfold dk
  split
  ·exact⟨false,R,rfl,by omega,fun h=>by cases h⟩
  ·rename_i hk
   show∃ok R',(gG l.a_ k).bind _=_/\_
   have hk' :wh l.a_ k=false:=by
    unfold wh
    simpa using hk
   rw [KB hk',bg]
   show∃ok R',(jh R [Ou l.a_ k]).bind _=_/\_
   rw [cE (by simp at hR ⊢;omega),bg]
   obtain⟨ok,R',Y,H,s⟩:=ih (R++[Ou l.a_ k]) (by simp at hR ⊢;omega)
   refine⟨ok,R',Y,?_,fun ho=>?_⟩
   ·simp at H ⊢;omega
   ·have:=s ho;simp at this ⊢;omega
def IH{l:al}(h:Lb l): ∃ok R',d7 l=some (ok,{l with result:=R' })/\R'.length<=l.n.Keys.length+l.n.Aggs.length/\(ok=true->R'.length=l.n.Keys.length+l.n.Aggs.length):=by
 unfold d7
 obtain⟨ok,R',Y,H,s⟩:=IG h l.n.Keys [] (by have:=h.n.keys;simpa using this)
 exact⟨ok,R',Y,by simpa using H,by simpa using s⟩
def KE{l:al}(h:Lb l):sL d7 l (fun R=>l.n.Keys.length<=R.length):=by
 obtain⟨ok,R',Y,H,s⟩:=IH h
 exact⟨ok,R',Y,fun ho=>by have:=s ho;omega⟩
def wK{k i:Nat}(h:k+i<=100000):IntKind.i64.wrap ((k:Int)+(i:Int))=((k+i:Nat):Int):=by
 rw [ew (by omega) (by omega)];omega
def Ec{l:al}(hk:l.n.Keys.length<=5000)(gs:List fI): ∀(i:Nat) (R:List Int),R.length=l.n.Keys.length+(i+gs.length)->R.length<=20000-> ∃R',eS gs i {l with result:=R}=some (true,{l with result:=R' })/\R'.length=R.length:=by
 induction gs with
 |nil=>intro i R _ _;exact⟨R,rfl,rfl⟩
 |cons g tl ih=>
  intro i R hR W
  unfold eS
  simp only [iR]at hR
  split
  ·show∃R',(gG R (IntKind.i64.wrap ((l.n.Keys.length:Int)+(i:Int)))).bind _=_/\_
   rw [wK (by omega),eK,sG (by omega),bg]
   simp only [bg]
   obtain⟨R',Y,H⟩:=ih (i+1) (R.set ((l.n.Keys.length+i:Nat):Int).toNat 4) (by rw [Br];omega) (by rw [Br];omega)
   exact⟨R',Y,by rw [H,Br]⟩
  ·exact ih (i+1) R (by omega) W
def Gj{l:al}(h:Lb l):sL eJ l (fun R=>l.n.Keys.length<=R.length):=by
 unfold sL eJ
 obtain⟨ok,R',Y,H,s⟩:=IH h
 have hk:=h.n.keys
 have V:=h.n.aggs
 rw [Y,bg]
 cases ok with
 |false=>exact⟨false,R',rfl,fun h=>by cases h⟩
 |true=>
  have h4:=s rfl
  obtain⟨R2,g1,g2⟩:=Ec (l:=l) hk l.n.Aggs 0 R' (by omega) (by omega)
  exact⟨true,R2,g1,fun _=>by omega⟩
def IS{l:al}(hk:l.n.Keys.length<=5000)(gs:List fI): ∀(i:Nat) (ok:Bool) (R:List Int),l.a_.length=l.n.Keys.length+(i+gs.length)->R.length=l.a_.length->R.length<=20000-> ∃ok' R',bX l gs i ok {l with result:=R}=some (ok',{l with result:=R' })/\R'.length=R.length:=by
 induction gs with
 |nil=>intro i ok R _ _ _;exact⟨ok,R,rfl,rfl⟩
 |cons g tl ih=>
  intro i ok R ha hR W
  simp only [iR]at ha
  have key: ∀(ok2:Bool) (R2:List Int),R2.length=R.length-> ∃ok' R',bX l tl (i+1) ok2 {l with result:=R2}=some (ok',{l with result:=R' })/\R'.length=R.length:=by
   intro ok2 R2 H
   obtain⟨ok',R',g1,g2⟩:=ih (i+1) ok2 R2 (by omega) (by omega) (by omega)
   exact⟨ok',R',g1,by omega⟩
  have CZ: ∀(e3:Int) (x:Bool),∃ok' R',eV l (bX l tl) i g ok {l with result:=R} e3 x=some (ok',{l with result:=R' })/\R'.length=R.length:=by
   intro e3 x
   unfold eV
   split
   ·exact key _ R rfl
   ·split
    ·show∃ok' R',(gG R (IntKind.i64.wrap ((l.n.Keys.length:Int)+(i:Int)))).bind _=_/\_
     rw [wK (by omega),eK,sG (by omega),bg]
     simp only [bg]
     exact key _ _ (by rw [Br])
    ·split<;>(unfold gJ;split)<;>exact key _ R rfl
  unfold bX
  show∃ok' R',(gG l.a_ (IntKind.i64.wrap ((l.n.Keys.length:Int)+(i:Int)))).bind _=_/\_
  rw [wK (by omega),eK,sG (by omega),bg]
  split<;>exact CZ _ _
def IT{l:al}(hk:l.n.Keys.length<=5000)(V:l.n.Aggs.length<=5000)(ha:l.a_.length=l.n.Keys.length+l.n.Aggs.length)(r:List Int)(hr:r.length=l.a_.length)(ks:List Int): ∀(i:Nat) (ok:Bool),i+ks.length=l.n.Keys.length-> ∃ok' R',dP l r ks i ok=some (ok',{l with result:=R' })/\R'.length=r.length:=by
 induction ks with
 |nil=>
  intro i ok _
  exact IS hk l.n.Aggs 0 ok r (by omega) hr (by omega)
 |cons k tl ih=>
  intro i ok hi
  simp only [iR]at hi
  unfold dP
  have: ∃t,(if(ok&&(k==(i:Int)))then((gG l.a_ (i:Int)).bind fun e5=>some (e5 !=(4:Int)))else some false)=some t:=by
   split
   ·rw [eK,sG (by omega)];exact⟨_,rfl⟩
   ·exact⟨_,rfl⟩
  obtain⟨t,D⟩:=this
  rw [D,bg]
  exact ih (i+1) t (by omega)
def KF{l:al}(h:Lb l)(hA: ∃e,gG l.nodes l.n.A=some e):sL d8 l (fun R=>l.n.Keys.length<=R.length):=by
 obtain⟨e,he⟩:=hA
 unfold sL d8
 have hk:=h.n.keys
 have V:=h.n.aggs
 have ha:=h.a
 rw [he,bg]
 by_cases hc:((((e.Op==(9:Int))&&(decide ((l.n.Keys.length:Int)<=(3:Int))))&&(decide ((l.n.Aggs.length:Int)<=(12:Int))))&&((IntKind.i64.wrap ((l.n.Keys.length:Int)+(l.n.Aggs.length:Int)))==(l.a_.length:Int)))=true
 ·rw [aV (by rw [hc];decide),vk _ (by omega),bg]
  have hl:l.a_.length=l.n.Keys.length+l.n.Aggs.length:=by
   simp only [nP,qQ]at hc
   have:=hc.2
   rw [wK (by omega)]at this
   omega
  obtain⟨ok',R',g1,g2⟩:=IT hk V hl l.a_ rfl l.n.Keys 0 _ (vw _)
  exact⟨ok',R',g1,fun _=>by omega⟩
 ·rw [bo (by rw [Ab]at hc;rw [hc];rfl)]
  exact⟨false,l.result,by cases l;rfl,fun h=>by cases h⟩
def Ea{l:al}(es:List aR): ∀R:List Int,(∀e∈es,e.Nodes.length<=5000)->R.length+es.length<=20000-> ∃ok R',eb es {l with result:=R}=some (ok,{l with result:=R' })/\(ok=true->R'.length=R.length+es.length):=by
 induction es with
 |nil=>intro R _ _;exact⟨_,R,rfl,fun _=>rfl⟩
 |cons e tl ih=>
  intro R he hR
  unfold eb
  show∃ok R',(mT e l.a_).bind _=_/\_
  rw [my e l.a_ (by have:=he e (nQ ..);omega),bg]
  split
  ·exact⟨false,R,rfl,fun h=>by cases h⟩
  ·show∃ok R',(jh R [(fM e l.a_).1]).bind _=_/\_
   rw [cE (by simp at hR ⊢;omega),bg]
   obtain⟨ok,R',Y,H⟩:=ih (R++[(fM e l.a_).1]) (fun x X=>he x (o4 _ X)) (by simp at hR ⊢;omega)
   exact⟨ok,R',Y,fun ho=>by have:=H ho;simp at this ⊢;omega⟩
def Gd{l:al}(h:Lb l):sL ib l (fun R=>R.length=l.n.Items.length):=by
 have hi:=h.n.items
 obtain⟨ok,R',Y,H⟩:=Ea (l:=l) l.n.Items [] h.n.exprs (by simp;omega)
 exact⟨ok,R',Y,by simpa using H⟩
def HA(nx:Nat->al->Option (Bool×al))(l:al)(R:List Int)(i:Nat)(e k:Int)(h:R.length<=100000):eU nx i {l with result:=R} e k=if((e !=(0:Int))&&(e !=k))then some (false,{l with result:=R})else nx (i+1) {l with result:=R++[k]}:=by
 unfold eU
 split
 ·rfl
 ·show(jh R [k]).bind _=_
  rw [cE (by simp;omega)];rfl
def Hz{l:al}(xs:List Int): ∀(i:Nat) (R:List Int),i+xs.length=l.b.length->R.length+xs.length<=20000-> ∃ok R',dj xs i {l with result:=R}=some (ok,{l with result:=R' })/\(ok=true->R'.length=R.length+xs.length):=by
 induction xs with
 |nil=>intro i R _ _;exact⟨true,R,rfl,fun _=>rfl⟩
 |cons a tl ih=>
  intro i R hi hR
  simp only [iR]at hi hR
  have key: ∀e k:Int,∃ok R',eU (dj tl) i {l with result:=R} e k=some (ok,{l with result:=R' })/\(ok=true->R'.length=R.length+(a::tl).length):=by
   intro e k
   rw [HA _ _ _ _ _ _ (by omega)]
   split
   ·exact⟨false,R,rfl,fun h=>by cases h⟩
   ·obtain⟨ok,R',Y,H⟩:=ih (i+1) (R++[k]) (by omega) (by simp;omega)
    exact⟨ok,R',Y,fun ho=>by have:=H ho;simp at this ⊢;omega⟩
  unfold dj
  show∃ok R',(gG l.b (i:Int)).bind _=_/\_
  rw [eK,sG (by omega),bg]
  split<;>exact key _ _
def JK{l:al}(h:Lb l):sL iA l (fun R=>R.length=l.a_.length):=by
 unfold sL iA
 have ha:=h.a
 by_cases hl:l.a_.length=l.b.length
 ·rw [aV (by simp [hl])]
  obtain⟨ok,R',Y,H⟩:=Hz (l:=l) l.a_ 0 [] (by omega) (by simp;omega)
  exact⟨ok,R',Y,by simpa using H⟩
 ·rw [bo (by simp;omega)]
  exact⟨false,l.result,by cases l;rfl,fun h=>by cases h⟩
def oL(op:Int):al->Unit->Option (Bool×al):=(tL ((mL).getD []) op).getD (fun _ _=>none)
def QL{l:al}(h:Lb l)(hA:lB l.n.Op≠0-> ∃e,gG l.nodes l.n.A=some e)(hp:0<=lB l.n.Op):sL (fun l=>oL l.n.Op l ()) l (J9 l.n l.a_ l.b):=by
 have imp: ∀{m:al->Option (Bool×al)} {P:List Int->Prop},sL m l P->(oL l.n.Op l ()=m l)->(∀R,P R->J9 l.n l.a_ l.b R)->sL (fun l=>oL l.n.Op l ()) l (J9 l.n l.a_ l.b):=
  fun⟨ok,R,Y,H⟩ he hr=>⟨ok,R,by show oL l.n.Op l ()=_;rw [he];exact Y,fun ho=>hr R (H ho)⟩
 by_cases Y:l.n.Op=1
 ·exact imp Nl (by rw [Y];rfl) (fun R hR=>by
   unfold J9
   rw [Y]
   exact⟨fun _=>hR,fun h=>absurd h (by decide),fun h=>absurd h (by decide),fun h=>absurd h (by decide),fun h=>absurd h (by decide),fun h=>absurd h (by decide),fun h=>absurd h (by decide)⟩)
 by_cases H:l.n.Op=2
 ·exact imp (NO h) (by rw [H];rfl) (fun R hR=>by simp [J9,H];exact hR)
 by_cases s:l.n.Op=3
 ·exact imp (IW h) (by rw [s];rfl) (fun R hR=>by simp [J9,s];exact hR)
 by_cases h4:l.n.Op=4
 ·exact imp (KE h) (by rw [h4];rfl) (fun R hR=>by simp [J9,h4];exact hR)
 by_cases h5:l.n.Op=5
 ·exact imp (Gd h) (by rw [h5];rfl) (fun R hR=>by simp [J9,h5];exact hR)
 by_cases h6:l.n.Op=6
 ·exact imp Kw (by rw [h6];rfl) (fun R hR=>by simp [J9,h6];exact hR)
 by_cases h7:l.n.Op=7
 ·exact imp (JK h) (by rw [h7];rfl) (fun R hR=>by simp [J9,h7];exact hR)
 by_cases h8:l.n.Op=8
 ·exact imp M7 (by rw [h8];rfl) (fun R hR=>by simp [J9,h8];exact hR)
 by_cases h9:l.n.Op=9
 ·exact imp (KA h) (by rw [h9];rfl) (fun R hR=>by simp [J9,h9];exact⟨hR.1,hR.2⟩)
 by_cases h10:l.n.Op=10
 ·exact imp (Gj h) (by rw [h10];rfl) (fun R hR=>by simp [J9,h10];exact hR)
 by_cases h11:l.n.Op=11
 ·exact imp (KF h (hA (by rw [h11];decide))) (by rw [h11];rfl) (fun R hR=>by simp [J9,h11];exact hR)
 exfalso
 simp [lB,Y,H,s,h4,h5,h6,h7,h8,h9,h10,h11]at hp
end Go.Proofs.YtdohlidddcgfjaaGreat

