/- cE of this claim: Y1. -/
import Derived.Test.YtdohlidddcgfjaaGreatFcQ2
set_option linter.all false
namespace Go.Proofs.YtdohlidddcgfjaaGreat
open Go

def prt(op:Int):Int:=if op=1\/op=9 then 0 else if op=2\/op=7 then 2 else if op=3\/op=4\/op=5\/op=6\/op=8\/op=10\/op=11 then 1 else -1
def vK(op:Int):w3 op=some (prt op):=by
 by_cases X:op=1
 ·subst X;rfl
 by_cases K:op=2
 ·subst K;rfl
 by_cases h3:op=3
 ·subst h3;rfl
 by_cases h4:op=4
 ·subst h4;rfl
 by_cases h5:op=5
 ·subst h5;rfl
 by_cases h6:op=6
 ·subst h6;rfl
 by_cases h7:op=7
 ·subst h7;rfl
 by_cases h8:op=8
 ·subst h8;rfl
 by_cases h9:op=9
 ·subst h9;rfl
 by_cases h10:op=10
 ·subst h10;rfl
 by_cases h11:op=11
 ·subst h11;rfl
 simp [w3,s0,sZ,kb,prt,X,K,h3,h4,h5,h6,h7,h8,h9,h10,h11]
def B1(v:Int): ∀(l:List Int) (i:Nat),∃j:Int,iV v l i=some j/\((0<=j)↔v∈l)/\(0<=j-> ∃k:Nat,j=((i+k:Nat):Int)/\k<l.length/\l[k]? =some v)/\ -1<=j
 |[],i=>⟨-1,rfl,by simp,by simp,by simp⟩
 |e::tl,i=>by
  unfold iV
  by_cases h:v=e
  ·subst h
   exact⟨i,by simp,by simp,fun _=>⟨0,by simp,by simp,rfl⟩,by omega⟩
  ·obtain⟨j,X,K,h3,h4⟩:=B1 v tl (i+1)
   refine⟨j,by rw [bk (by simpa using h)];exact X,by rw [K];simp [h],fun hj=>?_,h4⟩
   obtain⟨k,g1,g2,g3⟩:=h3 hj
   exact⟨k+1,by rw [g1];congr 1;omega,by simp;omega,by simpa using g3⟩
def IV(l:List Int)(v:Int): ∃j:Int,pB l v=some j/\((0<=j)↔v∈l)/\(0<=j-> ∃k:Nat,j=(k:Int)/\k<l.length/\l[k]? =some v)/\ -1<=j:=by
 obtain⟨j,X,K,h3,h4⟩:=B1 v l 0
 exact⟨j,X,K,fun hj=>by obtain⟨k,g1,g2,g3⟩:=h3 hj;exact⟨k,by simpa using g1,g2,g3⟩,h4⟩
def xA(l:List Int)(v:Int):gR l v=some (decide (v∈l)):=by
 unfold gR
 obtain⟨j,X,K,_⟩:=IV l v
 rw [X,bG,Gg.2 K]
def Lv(n:tV)(a b R:List Int):Prop:=
 (n.Op=1->R=n.Kinds/\0<=n.Table/\n.Table<4/\0<n.Kinds.length/\ ∀k∈n.Kinds,1<=k/\k<=3)/\(n.Op=9->R=n.Kinds/\0<=n.Table/\n.Table<30/\0<n.Kinds.length)/\(n.Op=2->a.length<=R.length)/\(n.Op=3\/n.Op=6\/n.Op=8->R=a)/\
  (n.Op=4\/n.Op=10\/n.Op=11->n.Keys.length<=R.length)/\(n.Op=5->R.length=n.Items.length)/\(n.Op=7->R.length=a.length)
structure Lb(l:aq):Prop where
 n:jJ l.n
 a:l.a_.length<=16
 b:l.b.length<=16
def u0(m:aq->Option (Bool×aq))(l:aq)(P:List Int->Prop):Prop:= ∃ok R,m l=some (ok,{l with result:=R})/\(ok=true->P R)
def OR{l:aq}:u0 kx l (fun R=>R=l.n.Kinds/\0<=l.n.Table/\l.n.Table<4/\0<l.n.Kinds.length/\ ∀k∈l.n.Kinds,1<=k/\k<=3):=by
 unfold u0 kx
 rw [lj (f:=qj) (g:=fun k=>(decide (k<(1:Int)))||(decide ((3:Int)<k))) (fun _=>rfl),bG]
 refine⟨_,_,rfl,fun h=>⟨rfl,?_⟩⟩
 simp only [pt,mp]at h
 obtain⟨⟨⟨⟨X,K⟩,h3⟩,h4⟩,h5⟩:=h
 refine⟨by omega,by omega,by omega,fun k hk=>?_⟩
 have h6:(l.n.Kinds.any fun k=>(decide (k<(1:Int)))||(decide ((3:Int)<k)))=false:=by simpa using X
 have:=I3.1 h6 k hk
 simp at this
 omega
def LT{l:aq}(h:Lb l):u0 iH l (fun R=>R=l.n.Kinds/\0<=l.n.Table/\l.n.Table<30/\0<l.n.Kinds.length):=by
 unfold u0 iH
 rw [lj (f:=ph) (fun _=>rfl),bG]
 refine⟨_,_,rfl,fun h=>⟨rfl,?_⟩⟩
 simp only [pt,mp]at h
 omega
def zN(e:aW)(kinds:List Int)(h:e.Nodes.length<=5000): ∃b,kY e kinds=some b:=by
 unfold kY
 rw [oj e kinds (by omega)]
 exact⟨_,rfl⟩
def Pf{l:aq}(h:Lb l):u0 iD l (fun R=>l.a_.length<=R.length):=by
 unfold u0 iD
 have ha:=h.a
 have H:=h.b
 rw [FD _ _ (by omega) (by omega),bG]
 obtain⟨b,hb2⟩:=zN l.n.Cond (l.a_++l.b) h.n.cond
 refine⟨b,l.a_++l.b,?_,fun _=>by simp⟩
 show(kY l.n.Cond (l.a_++l.b)).bind _=_
 rw [hb2];rfl
def Kv{l:aq}(h:Lb l):u0 gu l (fun R=>R=l.a_):=by
 unfold u0 gu
 obtain⟨b,hb2⟩:=zN l.n.Cond l.a_ h.n.cond
 refine⟨b,l.a_,?_,fun _=>rfl⟩
 show(kY l.n.Cond l.a_).bind _=_
 rw [hb2];rfl
def LQ{l:aq}:u0 mC l (fun R=>R=l.a_):=⟨true,l.a_,rfl,fun _=>rfl⟩
def OD{l:aq}:u0 kw l (fun R=>R=l.a_):=by
 unfold u0 kw
 rw [tG (f:=nC _) (fun _=>rfl),bG]
 exact⟨_,l.a_,rfl,fun _=>rfl⟩
def CZ(nx:Bool->aq->Option (Bool×aq))(l:aq)(R:List Int)(ok:Bool)(k:Int)(h:R.length<=100000):fz nx {l with result:=R} ok k=nx ok {l with result:=R++[k]}:=by
 unfold fz
 show(app R [k]).bind _=_
 rw [cd (by simp;omega)];rfl
def Kj{l:aq}(gs:List fU): ∀(ok:Bool) (R:List Int),(∀g∈gs,g.Arg.Nodes.length<=5000)->R.length+gs.length<=20000->
  ∃ok' R',cN gs ok {l with result:=R}=some (ok',{l with result:=R' })/\R'.length=R.length+gs.length:=by
 induction gs with
 |nil=>intro ok R _ _;exact⟨ok,R,rfl,rfl⟩
 |cons g tl ih=>
  intro ok R Y hR
  have key: ∀(ok2:Bool) (k:Int),∃ok' R',fz (cN tl) {l with result:=R} ok2 k=some (ok',{l with result:=R' })/\R'.length=R.length+(g::tl).length:=by
   intro ok2 k
   rw [CZ _ _ _ _ _ (by simp at hR;omega)]
   obtain⟨ok',R',X,K⟩:=ih ok2 (R++[k]) (fun x V=>Y x (ry _ V)) (by simp at hR ⊢;omega)
   exact⟨ok',R',X,by rw [K];simp;omega⟩
  unfold cN
  split
  ·exact key _ _
  ·show∃ok' R',(oU g.Arg l.a_).bind _=_/\_
   rw [oj g.Arg l.a_ (by have:=Y g (qa ..);omega),bG]
   split
   ·exact key _ _
   ·split
    ·unfold iM
     split
     ·exact key _ _
     ·exact key _ _
    ·unfold iM
     split
     ·exact key _ _
     ·exact key _ _
def Kk{l:aq}(h:Lb l)(ks:List Int): ∀R:List Int,R.length+ks.length<=5000-> ∃ok R',dV l ks {l with result:=R}=some (ok,{l with result:=R' })/\R'.length<=R.length+ks.length+l.n.Aggs.length/\(ok=true->R'.length=R.length+ks.length+l.n.Aggs.length):=by
 induction ks with
 |nil=>
  intro R hR
  unfold dV
  obtain⟨ok,R',X,K⟩:=Kj (l:=l) l.n.Aggs (((decide ((l.n.Keys.length:Int)<=(3:Int)))&&(decide ((l.n.Aggs.length:Int)<=(12:Int))))&&(decide ((0:Int)<(IntKind.i64.wrap ((l.n.Keys.length:Int)+(l.n.Aggs.length:Int)))))) R h.n.args (by have:=h.n.aggs;simp at hR;omega)
  exact⟨ok,R',X,by rw [K];simp,fun _=>by rw [K];simp⟩
 |cons k tl ih=>
  intro R hR
  unfold dV
  split
  ·exact⟨false,R,rfl,by omega,fun h=>by cases h⟩
  ·rename_i hk
   show∃ok R',(gB l.a_ k).bind _=_/\_
   have hk' :wj l.a_ k=false:=by
    unfold wj
    simpa using hk
   rw [LU hk',bG]
   show∃ok R',(app R [PS l.a_ k]).bind _=_/\_
   rw [cd (by simp at hR ⊢;omega),bG]
   obtain⟨ok,R',X,K,h3⟩:=ih (R++[PS l.a_ k]) (by simp at hR ⊢;omega)
   refine⟨ok,R',X,?_,fun ho=>?_⟩
   ·simp at K ⊢;omega
   ·have:=h3 ho;simp at this ⊢;omega
def Kl{l:aq}(h:Lb l): ∃ok R',fd l=some (ok,{l with result:=R' })/\R'.length<=l.n.Keys.length+l.n.Aggs.length/\(ok=true->R'.length=l.n.Keys.length+l.n.Aggs.length):=by
 unfold fd
 obtain⟨ok,R',X,K,h3⟩:=Kk h l.n.Keys [] (by have:=h.n.keys;simpa using this)
 exact⟨ok,R',X,by simpa using K,by simpa using h3⟩
def LX{l:aq}(h:Lb l):u0 fd l (fun R=>l.n.Keys.length<=R.length):=by
 obtain⟨ok,R',X,K,h3⟩:=Kl h
 exact⟨ok,R',X,fun ho=>by have:=h3 ho;omega⟩
def yK{k i:Nat}(h:k+i<=100000):IntKind.i64.wrap ((k:Int)+(i:Int))=((k+i:Nat):Int):=by
 rw [fg (by omega) (by omega)];omega
def FZ{l:aq}(hk:l.n.Keys.length<=5000)(gs:List fU): ∀(i:Nat) (R:List Int),R.length=l.n.Keys.length+(i+gs.length)->R.length<=20000-> ∃R',gc gs i {l with result:=R}=some (true,{l with result:=R' })/\R'.length=R.length:=by
 induction gs with
 |nil=>intro i R _ _;exact⟨R,rfl,rfl⟩
 |cons g tl ih=>
  intro i R hR H
  unfold gc
  simp only [iG]at hR
  split
  ·show∃R',(gB R (IntKind.i64.wrap ((l.n.Keys.length:Int)+(i:Int)))).bind _=_/\_
   rw [yK (by omega),eu,lI (by omega),bG]
   simp only [bG]
   obtain⟨R',X,K⟩:=ih (i+1) (R.set ((l.n.Keys.length+i:Nat):Int).toNat 4) (by rw [Dd];omega) (by rw [Dd];omega)
   exact⟨R',X,by rw [K,Dd]⟩
  ·exact ih (i+1) R (by omega) H
def Id{l:aq}(h:Lb l):u0 eO l (fun R=>l.n.Keys.length<=R.length):=by
 unfold u0 eO
 obtain⟨ok,R',X,K,h3⟩:=Kl h
 have hk:=h.n.keys
 have Y:=h.n.aggs
 rw [X,bG]
 cases ok with
 |false=>exact⟨false,R',rfl,fun h=>by cases h⟩
 |true=>
  have h4:=h3 rfl
  obtain⟨R2,g1,g2⟩:=FZ (l:=l) hk l.n.Aggs 0 R' (by omega) (by omega)
  exact⟨true,R2,g1,fun _=>by omega⟩
def Kr{l:aq}(hk:l.n.Keys.length<=5000)(gs:List fU): ∀(i:Nat) (ok:Bool) (R:List Int),l.a_.length=l.n.Keys.length+(i+gs.length)->R.length=l.a_.length->R.length<=20000-> ∃ok' R',cz l gs i ok {l with result:=R}=some (ok',{l with result:=R' })/\R'.length=R.length:=by
 induction gs with
 |nil=>intro i ok R _ _ _;exact⟨ok,R,rfl,rfl⟩
 |cons g tl ih=>
  intro i ok R ha hR H
  simp only [iG]at ha
  have key: ∀(ok2:Bool) (R2:List Int),R2.length=R.length-> ∃ok' R',cz l tl (i+1) ok2 {l with result:=R2}=some (ok',{l with result:=R' })/\R'.length=R.length:=by
   intro ok2 R2 K
   obtain⟨ok',R',g1,g2⟩:=ih (i+1) ok2 R2 (by omega) (by omega) (by omega)
   exact⟨ok',R',g1,by omega⟩
  have ER: ∀(e3:Int) (x:Bool),∃ok' R',gj l (cz l tl) i g ok {l with result:=R} e3 x=some (ok',{l with result:=R' })/\R'.length=R.length:=by
   intro e3 x
   unfold gj
   split
   ·exact key _ R rfl
   ·split
    ·show∃ok' R',(gB R (IntKind.i64.wrap ((l.n.Keys.length:Int)+(i:Int)))).bind _=_/\_
     rw [yK (by omega),eu,lI (by omega),bG]
     simp only [bG]
     exact key _ _ (by rw [Dd])
    ·split<;>(unfold iN;split)<;>exact key _ R rfl
  unfold cz
  show∃ok' R',(gB l.a_ (IntKind.i64.wrap ((l.n.Keys.length:Int)+(i:Int)))).bind _=_/\_
  rw [yK (by omega),eu,lI (by omega),bG]
  split<;>exact ER _ _
def Kt{l:aq}(hk:l.n.Keys.length<=5000)(Y:l.n.Aggs.length<=5000)(ha:l.a_.length=l.n.Keys.length+l.n.Aggs.length)(r:List Int)(hr:r.length=l.a_.length)(ks:List Int): ∀(i:Nat) (ok:Bool),i+ks.length=l.n.Keys.length-> ∃ok' R',eP l r ks i ok=some (ok',{l with result:=R' })/\R'.length=r.length:=by
 induction ks with
 |nil=>
  intro i ok _
  exact Kr hk l.n.Aggs 0 ok r (by omega) hr (by omega)
 |cons k tl ih=>
  intro i ok hi
  simp only [iG]at hi
  unfold eP
  have: ∃t,(if(ok&&(k==(i:Int)))then((gB l.a_ (i:Int)).bind fun e5=>some (e5 !=(4:Int)))else some false)=some t:=by
   split
   ·rw [eu,lI (by omega)];exact⟨_,rfl⟩
   ·exact⟨_,rfl⟩
  obtain⟨t,D⟩:=this
  rw [D,bG]
  exact ih (i+1) t (by omega)
def L0{l:aq}(h:Lb l)(hA: ∃e,gB l.nodes l.n.A=some e):u0 d7 l (fun R=>l.n.Keys.length<=R.length):=by
 obtain⟨e,he⟩:=hA
 unfold u0 d7
 have hk:=h.n.keys
 have Y:=h.n.aggs
 have ha:=h.a
 rw [he,bG]
 by_cases hc:((((e.Op==(9:Int))&&(decide ((l.n.Keys.length:Int)<=(3:Int))))&&(decide ((l.n.Aggs.length:Int)<=(12:Int))))&&((IntKind.i64.wrap ((l.n.Keys.length:Int)+(l.n.Aggs.length:Int)))==(l.a_.length:Int)))=true
 ·rw [bk (by rw [hc];decide),tY _ (by omega),bG]
  have hl:l.a_.length=l.n.Keys.length+l.n.Aggs.length:=by
   simp only [pt,vC]at hc
   have:=hc.2
   rw [yK (by omega)]at this
   omega
  obtain⟨ok',R',g1,g2⟩:=Kt hk Y hl l.a_ rfl l.n.Keys 0 _ (uT _)
  exact⟨ok',R',g1,fun _=>by omega⟩
 ·rw [bJ (by rw [AL]at hc;rw [hc];rfl)]
  exact⟨false,l.result,by cases l;rfl,fun h=>by cases h⟩
def FY{l:aq}(es:List aW): ∀R:List Int,(∀e∈es,e.Nodes.length<=5000)->R.length+es.length<=20000-> ∃ok R',fi es {l with result:=R}=some (ok,{l with result:=R' })/\(ok=true->R'.length=R.length+es.length):=by
 induction es with
 |nil=>intro R _ _;exact⟨_,R,rfl,fun _=>rfl⟩
 |cons e tl ih=>
  intro R he hR
  unfold fi
  show∃ok R',(oU e l.a_).bind _=_/\_
  rw [oj e l.a_ (by have:=he e (qa ..);omega),bG]
  split
  ·exact⟨false,R,rfl,fun h=>by cases h⟩
  ·show∃ok R',(app R [(gT e l.a_).1]).bind _=_/\_
   rw [cd (by simp at hR ⊢;omega),bG]
   obtain⟨ok,R',X,K⟩:=ih (R++[(gT e l.a_).1]) (fun x V=>he x (ry _ V)) (by simp at hR ⊢;omega)
   exact⟨ok,R',X,fun ho=>by have:=K ho;simp at this ⊢;omega⟩
def H0{l:aq}(h:Lb l):u0 jk l (fun R=>R.length=l.n.Items.length):=by
 have hi:=h.n.items
 obtain⟨ok,R',X,K⟩:=FY (l:=l) l.n.Items [] h.n.exprs (by simp;omega)
 exact⟨ok,R',X,by simpa using K⟩
def Jn(nx:Nat->aq->Option (Bool×aq))(l:aq)(R:List Int)(i:Nat)(e k:Int)(h:R.length<=100000):gi nx i {l with result:=R} e k=if((e !=(0:Int))&&(e !=k))then some (false,{l with result:=R})else nx (i+1) {l with result:=R++[k]}:=by
 unfold gi
 split
 ·rfl
 ·show(app R [k]).bind _=_
  rw [cd (by simp;omega)];rfl
def Jm{l:aq}(xs:List Int): ∀(i:Nat) (R:List Int),i+xs.length=l.b.length->R.length+xs.length<=20000-> ∃ok R',dR xs i {l with result:=R}=some (ok,{l with result:=R' })/\(ok=true->R'.length=R.length+xs.length):=by
 induction xs with
 |nil=>intro i R _ _;exact⟨true,R,rfl,fun _=>rfl⟩
 |cons a tl ih=>
  intro i R hi hR
  simp only [iG]at hi hR
  have key: ∀e k:Int,∃ok R',gi (dR tl) i {l with result:=R} e k=some (ok,{l with result:=R' })/\(ok=true->R'.length=R.length+(a::tl).length):=by
   intro e k
   rw [Jn _ _ _ _ _ _ (by omega)]
   split
   ·exact⟨false,R,rfl,fun h=>by cases h⟩
   ·obtain⟨ok,R',X,K⟩:=ih (i+1) (R++[k]) (by omega) (by simp;omega)
    exact⟨ok,R',X,fun ho=>by have:=K ho;simp at this ⊢;omega⟩
  unfold dR
  show∃ok R',(gB l.b (i:Int)).bind _=_/\_
  rw [eu,lI (by omega),bG]
  split<;>exact key _ _
def Lg{l:aq}(h:Lb l):u0 jE l (fun R=>R.length=l.a_.length):=by
 unfold u0 jE
 have ha:=h.a
 by_cases hl:l.a_.length=l.b.length
 ·rw [bk (by simp [hl])]
  obtain⟨ok,R',X,K⟩:=Jm (l:=l) l.a_ 0 [] (by omega) (by simp;omega)
  exact⟨ok,R',X,by simpa using K⟩
 ·rw [bJ (by simp;omega)]
  exact⟨false,l.result,by cases l;rfl,fun h=>by cases h⟩
def px(op:Int):aq->Unit->Option (Bool×aq):=(uY ((mD).getD []) op).getD (fun _ _=>none)
def KJ{l:aq}(h:Lb l)(hA:prt l.n.Op≠0-> ∃e,gB l.nodes l.n.A=some e)(hp:0<=prt l.n.Op):u0 (fun l=>px l.n.Op l ()) l (Lv l.n l.a_ l.b):=by
 have imp: ∀{m:aq->Option (Bool×aq)} {P:List Int->Prop},u0 m l P->(px l.n.Op l ()=m l)->(∀R,P R->Lv l.n l.a_ l.b R)->u0 (fun l=>px l.n.Op l ()) l (Lv l.n l.a_ l.b):=
  fun⟨ok,R,X,K⟩ he hr=>⟨ok,R,by show px l.n.Op l ()=_;rw [he];exact X,fun ho=>hr R (K ho)⟩
 by_cases X:l.n.Op=1
 ·exact imp OR (by rw [X];rfl) (fun R hR=>by
   unfold Lv
   rw [X]
   exact⟨fun _=>hR,fun h=>absurd h (by decide),fun h=>absurd h (by decide),fun h=>absurd h (by decide),fun h=>absurd h (by decide),fun h=>absurd h (by decide),fun h=>absurd h (by decide)⟩)
 by_cases K:l.n.Op=2
 ·exact imp (Pf h) (by rw [K];rfl) (fun R hR=>by simp [Lv,K];exact hR)
 by_cases h3:l.n.Op=3
 ·exact imp (Kv h) (by rw [h3];rfl) (fun R hR=>by simp [Lv,h3];exact hR)
 by_cases h4:l.n.Op=4
 ·exact imp (LX h) (by rw [h4];rfl) (fun R hR=>by simp [Lv,h4];exact hR)
 by_cases h5:l.n.Op=5
 ·exact imp (H0 h) (by rw [h5];rfl) (fun R hR=>by simp [Lv,h5];exact hR)
 by_cases h6:l.n.Op=6
 ·exact imp LQ (by rw [h6];rfl) (fun R hR=>by simp [Lv,h6];exact hR)
 by_cases h7:l.n.Op=7
 ·exact imp (Lg h) (by rw [h7];rfl) (fun R hR=>by simp [Lv,h7];exact hR)
 by_cases h8:l.n.Op=8
 ·exact imp OD (by rw [h8];rfl) (fun R hR=>by simp [Lv,h8];exact hR)
 by_cases h9:l.n.Op=9
 ·exact imp (LT h) (by rw [h9];rfl) (fun R hR=>by simp [Lv,h9];exact⟨hR.1,hR.2⟩)
 by_cases h10:l.n.Op=10
 ·exact imp (Id h) (by rw [h10];rfl) (fun R hR=>by simp [Lv,h10];exact hR)
 by_cases h11:l.n.Op=11
 ·exact imp (L0 h (hA (by rw [h11];decide))) (by rw [h11];rfl) (fun R hR=>by simp [Lv,h11];exact hR)
 exfalso
 simp [prt,X,K,h3,h4,h5,h6,h7,h8,h9,h10,h11]at hp
end Go.Proofs.YtdohlidddcgfjaaGreat

