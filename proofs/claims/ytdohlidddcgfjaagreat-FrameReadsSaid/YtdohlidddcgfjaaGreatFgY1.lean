import Derived.Test.YtdohlidddcgfjaaGreatFgQ2
set_option linter.all false
namespace Go.Proofs.YtdohlidddcgfjaaGreat
open Go IntKind
def prt(op:Int):Int:=if op=1\/op=9 then 0 else if op=2\/op=7 then 2 else if op=3\/op=4\/op=5\/op=6\/op=8\/op=10\/op=11 then 1 else -1
def yp(op:Int):zA op=some (prt op):=by
 by_cases H:op=1
 ·subst H;rfl
 by_cases W:op=2
 ·subst W;rfl
 by_cases h3:op=3
 ·subst h3;rfl
 by_cases h4:op=4
 ·subst h4;rfl
 by_cases h5:op=5
 ·subst h5;rfl
 by_cases h6:op=6
 ·subst h6;rfl
 by_cases h7:op=7
 ·subst h7;rfl
 by_cases h8:op=8
 ·subst h8;rfl
 by_cases h9:op=9
 ·subst h9;rfl
 by_cases h10:op=10
 ·subst h10;rfl
 by_cases h11:op=11
 ·subst h11;rfl
 simp [zA,vj,vi,lb,prt,H,W,h3,h4,h5,h6,h7,h8,h9,h10,h11]
def EH(v:Int): ∀(l:List Int) (i:Nat),∃j:Int,jy v l i=some j/\((0<=j)↔v∈l)/\(0<=j-> ∃k:Nat,j=((i+k:Nat):Int)/\k<l.length/\l[k]? =some v)/\ -1<=j
 |[],i=>⟨-1,rfl,by simp,by simp,by simp⟩
 |e::tl,i=>by
  unfold jy;by_cases h:v=e
  ·subst h;exact⟨i,by simp,by simp,fun _=>⟨0,by simp,by simp,rfl⟩,by omega⟩
  ·obtain⟨j,H,W,h3,h4⟩:=EH v tl (i+1);refine⟨j,by rw [bB (by simpa using h)];exact H,by rw [W];simp [h],fun hj=>?_,h4⟩;obtain⟨k,g1,g2,g3⟩:=h3 hj;exact⟨k+1,by rw [g1];congr 1;omega,by simp;omega,by simpa using g3⟩
def Mv(l:List Int)(v:Int): ∃j:Int,q0 l v=some j/\((0<=j)↔v∈l)/\(0<=j-> ∃k:Nat,j=(k:Int)/\k<l.length/\l[k]? =some v)/\ -1<=j:=by
 obtain⟨j,H,W,h3,h4⟩:=EH v l 0;exact⟨j,H,W,fun hj=>by obtain⟨k,g1,g2,g3⟩:=h3 hj;exact⟨k,by simpa using g1,g2,g3⟩,h4⟩
def Al(l:List Int)(v:Int):iI l v=some (decide (v∈l)):=by
 unfold iI;obtain⟨j,H,W,_⟩:=Mv l v;rw [H,bz,Do.2 W]
def PJ(n:al)(a b R:List Int):Prop:=
 (n.Op=1->R=n.A'/\0<=n.Table/\n.Table<4/\0<n.A'.length/\ ∀k∈n.A',1<=k/\k<=3)/\(n.Op=9->R=n.A'/\0<=n.Table/\n.Table<30/\0<n.A'.length)/\(n.Op=2->a.length<=R.length)/\(n.Op=3\/n.Op=6\/n.Op=8->R=a)/\
  (n.Op=4\/n.Op=10\/n.Op=11->n.v'.length<=R.length)/\(n.Op=5->R.length=n.D'.length)/\(n.Op=7->R.length=a.length)
structure Lb(l:aE):Prop where
 n:kq l.n
 a:l.a_.length<=16
 b:l.b.length<=16
def xr(m:aE->Option (Bool×aE))(l:aE)(P:List Int->Prop):Prop:= ∃ok R,m l=some (ok,{l with j':=R})/\(ok=true->P R)
def Tw{l:aE}:xr lA l (fun R=>R=l.n.A'/\0<=l.n.Table/\l.n.Table<4/\0<l.n.A'.length/\ ∀k∈l.n.A',1<=k/\k<=3):=by
 unfold xr lA;rw [ml (f:=rW) (g:=fun k=>(decide (k<(1:Int)))||(decide ((3:Int)<k))) (fun _=>rfl),bz];refine⟨_,_,rfl,fun h=>⟨rfl,?_⟩⟩;simp only [nw,mS]at h;obtain⟨⟨⟨⟨H,W⟩,h3⟩,h4⟩,h5⟩:=h;refine⟨by omega,by omega,by omega,fun k hk=>?_⟩;have h6:(l.n.A'.any fun k=>(decide (k<(1:Int)))||(decide ((3:Int)<k)))=false:=by simpa using H
 have:=List.any_eq_false.1 h6 k hk;simp at this;omega
def Qm{l:aE}(h:Lb l):xr jr l (fun R=>R=l.n.A'/\0<=l.n.Table/\l.n.Table<30/\0<l.n.A'.length):=by
 unfold xr jr;rw [ml (f:=qK) (fun _=>rfl),bz];refine⟨_,_,rfl,fun h=>⟨rfl,?_⟩⟩;simp only [nw,mS]at h;omega
def Cu(e:bQ)(g':List Int)(h:e.i'.length<=30000): ∃b,lV e g'=some b:=by
 unfold lV;rw [pI e g' (by omega)];exact⟨_,rfl⟩
def T9{l:aE}(h:Lb l):xr jo l (fun R=>l.a_.length<=R.length):=by
 unfold xr jo;have ha:=h.a;have V:=h.b;rw [IP _ _ (by omega) (by omega),bz];obtain⟨b,hb2⟩:=Cu l.n.c_ (l.a_++l.b) h.n.cond;refine⟨b,l.a_++l.b,?_,fun _=>by simp⟩;show(lV l.n.c_ (l.a_++l.b)).bind _=_;rw [hb2];rfl
def Ov{l:aE}(h:Lb l):xr ic l (fun R=>R=l.a_):=by
 unfold xr ic;obtain⟨b,hb2⟩:=Cu l.n.c_ l.a_ h.n.cond;refine⟨b,l.a_,?_,fun _=>rfl⟩;show(lV l.n.c_ l.a_).bind _=_;rw [hb2];rfl
def Qj{l:aE}:xr nI l (fun R=>R=l.a_):=⟨true,l.a_,rfl,fun _=>rfl⟩
def Th{l:aE}:xr lz l (fun R=>R=l.a_):=by
 unfold xr lz;rw [vV (f:=oS _) (fun _=>rfl),bz];exact⟨_,l.a_,rfl,fun _=>rfl⟩
def FM(nx:Bool->aE->Option (Bool×aE))(l:aE)(R:List Int)(ok:Bool)(k:Int)(h:R.length<=100000):gy nx {l with j':=R} ok k=nx ok {l with j':=R++[k]}:=by
 unfold gy;show(hU R [k]).bind _=_;rw [bZ (by simp;omega)];rfl
def Oc{l:aE}(gs:List f9): ∀(ok:Bool) (R:List Int),(∀g∈gs,g.Arg.i'.length<=30000)->R.length+gs.length<=20000->
  ∃ok' R',du gs ok {l with j':=R}=some (ok',{l with j':=R' })/\R'.length=R.length+gs.length:=by
 induction gs with
 |nil=>intro ok R _ _;exact⟨ok,R,rfl,rfl⟩
 |cons g tl ih=>
  intro ok R Y hR;have key: ∀(ok2:Bool) (k:Int),∃ok' R',gy (du tl) {l with j':=R} ok2 k=some (ok',{l with j':=R' })/\R'.length=R.length+(g::tl).length:=by
   intro ok2 k;rw [FM _ _ _ _ _ (by simp at hR;omega)];obtain⟨ok',R',H,W⟩:=ih ok2 (R++[k]) (fun x K=>Y x (kX _ K)) (by simp at hR ⊢;omega);exact⟨ok',R',H,by rw [W];simp;omega⟩
  unfold du;split
  ·exact key _ _
  ·show∃ok' R',(qr g.Arg l.a_).bind _=_/\_;rw [pI g.Arg l.a_ (by have:=Y g (jO ..);omega),bz];split
   ·exact key _ _
   ·split
    ·unfold ju;split
     ·exact key _ _
     ·exact key _ _
    ·unfold ju;split
     ·exact key _ _
     ·exact key _ _
def Od{l:aE}(h:Lb l)(ks:List Int): ∀R:List Int,R.length+ks.length<=5000-> ∃ok R',eW l ks {l with j':=R}=some (ok,{l with j':=R' })/\R'.length<=R.length+ks.length+l.n.u'.length/\(ok=true->R'.length=R.length+ks.length+l.n.u'.length):=by
 induction ks with
 |nil=>
  intro R hR;unfold eW;obtain⟨ok,R',H,W⟩:=Oc (l:=l) l.n.u' (((decide ((l.n.v'.length:Int)<=(3:Int)))&&(decide ((l.n.u'.length:Int)<=(12:Int))))&&(decide ((0:Int)<(i64.wrap ((l.n.v'.length:Int)+(l.n.u'.length:Int)))))) R h.n.args (by have:=h.n.aggs;simp at hR;omega);exact⟨ok,R',H,by rw [W];simp,fun _=>by rw [W];simp⟩
 |cons k tl ih=>
  intro R hR;unfold eW;split
  ·exact⟨false,R,rfl,by omega,fun h=>by cases h⟩
  ·rename_i hk;show∃ok R',(gw l.a_ k).bind _=_/\_;have hk' :yL l.a_ k=false:=by
    unfold yL;simpa using hk
   rw [Qn hk',bz];show∃ok R',(hU R [UM l.a_ k]).bind _=_/\_;rw [bZ (by simp at hR ⊢;omega),bz];obtain⟨ok,R',H,W,h3⟩:=ih (R++[UM l.a_ k]) (by simp at hR ⊢;omega);refine⟨ok,R',H,?_,fun ho=>?_⟩
   ·simp at W ⊢;omega
   ·have:=h3 ho;simp at this ⊢;omega
def Oe{l:aE}(h:Lb l): ∃ok R',gn l=some (ok,{l with j':=R' })/\R'.length<=l.n.v'.length+l.n.u'.length/\(ok=true->R'.length=l.n.v'.length+l.n.u'.length):=by
 unfold gn;obtain⟨ok,R',H,W,h3⟩:=Od h l.n.v' [] (by have:=h.n.keys;simpa using this);exact⟨ok,R',H,by simpa using W,by simpa using h3⟩
def Qq{l:aE}(h:Lb l):xr gn l (fun R=>l.n.v'.length<=R.length):=by
 obtain⟨ok,R',H,W,h3⟩:=Oe h;exact⟨ok,R',H,fun ho=>by have:=h3 ho;omega⟩
def Bq{k i:Nat}(h:k+i<=100000):i64.wrap ((k:Int)+(i:Int))=((k+i:Nat):Int):=by
 rw [gg (by omega) (by omega)];omega
def Jc{l:aE}(hk:l.n.v'.length<=5000)(gs:List f9): ∀(i:Nat) (R:List Int),R.length=l.n.v'.length+(i+gs.length)->R.length<=20000-> ∃R',gT gs i {l with j':=R}=some (true,{l with j':=R' })/\R'.length=R.length:=by
 induction gs with
 |nil=>intro i R _ _;exact⟨R,rfl,rfl⟩
 |cons g tl ih=>
  intro i R hR V;unfold gT;simp only [jl]at hR;split
  ·show∃R',(gw R (i64.wrap ((l.n.v'.length:Int)+(i:Int)))).bind _=_/\_;rw [Bq (by omega),eU,vp (by omega),bz];simp only [bz];obtain⟨R',H,W⟩:=ih (i+1) (R.set ((l.n.v'.length+i:Nat):Int).toNat 4) (by rw [F3];omega) (by rw [F3];omega);exact⟨R',H,by rw [W,F3]⟩
  ·exact ih (i+1) R (by omega) V
def Lx{l:aE}(h:Lb l):xr fW l (fun R=>l.n.v'.length<=R.length):=by
 unfold xr fW;obtain⟨ok,R',H,W,h3⟩:=Oe h;have hk:=h.n.keys;have Y:=h.n.aggs;rw [H,bz]
 cases ok with
 |false=>exact⟨false,R',rfl,fun h=>by cases h⟩
 |true=>
  have h4:=h3 rfl;obtain⟨R2,g1,g2⟩:=Jc (l:=l) hk l.n.u' 0 R' (by omega) (by omega);exact⟨true,R2,g1,fun _=>by omega⟩
def Oq{l:aE}(hk:l.n.v'.length<=5000)(gs:List f9): ∀(i:Nat) (ok:Bool) (R:List Int),l.a_.length=l.n.v'.length+(i+gs.length)->R.length=l.a_.length->R.length<=20000-> ∃ok' R',cW l gs i ok {l with j':=R}=some (ok',{l with j':=R' })/\R'.length=R.length:=by
 induction gs with
 |nil=>intro i ok R _ _ _;exact⟨ok,R,rfl,rfl⟩
 |cons g tl ih=>
  intro i ok R ha hR V;simp only [jl]at ha;have key: ∀(ok2:Bool) (R2:List Int),R2.length=R.length-> ∃ok' R',cW l tl (i+1) ok2 {l with j':=R2}=some (ok',{l with j':=R' })/\R'.length=R.length:=by
   intro ok2 R2 W;obtain⟨ok',R',g1,g2⟩:=ih (i+1) ok2 R2 (by omega) (by omega) (by omega);exact⟨ok',R',g1,by omega⟩
  have key2: ∀(e3:Int) (x:Bool),∃ok' R',hD l (cW l tl) i g ok {l with j':=R} e3 x=some (ok',{l with j':=R' })/\R'.length=R.length:=by
   intro e3 x;unfold hD;split
   ·exact key _ R rfl
   ·split
    ·show∃ok' R',(gw R (i64.wrap ((l.n.v'.length:Int)+(i:Int)))).bind _=_/\_;rw [Bq (by omega),eU,vp (by omega),bz];simp only [bz];exact key _ _ (by rw [F3])
    ·split<;>(unfold jv;split)<;>exact key _ R rfl
  unfold cW;show∃ok' R',(gw l.a_ (i64.wrap ((l.n.v'.length:Int)+(i:Int)))).bind _=_/\_;rw [Bq (by omega),eU,vp (by omega),bz];split<;>exact key2 _ _
def Ot{l:aE}(hk:l.n.v'.length<=5000)(Y:l.n.u'.length<=5000)(ha:l.a_.length=l.n.v'.length+l.n.u'.length)(r:List Int)(hr:r.length=l.a_.length)(ks:List Int): ∀(i:Nat) (ok:Bool),i+ks.length=l.n.v'.length-> ∃ok' R',fX l r ks i ok=some (ok',{l with j':=R' })/\R'.length=r.length:=by
 induction ks with
 |nil=>
  intro i ok _;exact Oq hk l.n.u' 0 ok r (by omega) hr (by omega)
 |cons k tl ih=>
  intro i ok hi;simp only [jl]at hi;unfold fX;have: ∃t,(if(ok&&(k==(i:Int)))then((gw l.a_ (i:Int)).bind fun e5=>some (e5 !=(4:Int)))else some false)=some t:=by
   split
   ·rw [eU,vp (by omega)];exact⟨_,rfl⟩
   ·exact⟨_,rfl⟩
  obtain⟨t,D⟩:=this;rw [D,bz];exact ih (i+1) t (by omega)
def Qt{l:aE}(h:Lb l)(hA: ∃e,gw l.nodes l.n.A=some e):xr ff l (fun R=>l.n.v'.length<=R.length):=by
 obtain⟨e,he⟩:=hA;unfold xr ff;have hk:=h.n.keys;have Y:=h.n.aggs;have ha:=h.a;rw [he,bz];by_cases hc:((((e.Op==(9:Int))&&(decide ((l.n.v'.length:Int)<=(3:Int))))&&(decide ((l.n.u'.length:Int)<=(12:Int))))&&((i64.wrap ((l.n.v'.length:Int)+(l.n.u'.length:Int)))==(l.a_.length:Int)))=true
 ·rw [bB (by rw [hc];decide),wx _ (by omega),bz];have hl:l.a_.length=l.n.v'.length+l.n.u'.length:=by
   simp only [nw,oJ]at hc;have:=hc.2;rw [Bq (by omega)]at this;omega
  obtain⟨ok',R',g1,g2⟩:=Ot hk Y hl l.a_ rfl l.n.v' 0 _ (yA _);exact⟨ok',R',g1,fun _=>by omega⟩
 ·rw [bM (by rw [Dp]at hc;rw [hc];rfl)];exact⟨false,l.j',by cases l;rfl,fun h=>by cases h⟩
def Ja{l:aE}(es:List bQ): ∀R:List Int,(∀e∈es,e.i'.length<=30000)->R.length+es.length<=20000-> ∃ok R',go es {l with j':=R}=some (ok,{l with j':=R' })/\(ok=true->R'.length=R.length+es.length):=by
 induction es with
 |nil=>intro R _ _;exact⟨_,R,rfl,fun _=>rfl⟩
 |cons e tl ih=>
  intro R he hR;unfold go;show∃ok R',(qr e l.a_).bind _=_/\_;rw [pI e l.a_ (by have:=he e (jO ..);omega),bz];split
  ·exact⟨false,R,rfl,fun h=>by cases h⟩
  ·show∃ok R',(hU R [(iK e l.a_).1]).bind _=_/\_;rw [bZ (by simp at hR ⊢;omega),bz];obtain⟨ok,R',H,W⟩:=ih (R++[(iK e l.a_).1]) (fun x K=>he x (kX _ K)) (by simp at hR ⊢;omega);exact⟨ok,R',H,fun ho=>by have:=W ho;simp at this ⊢;omega⟩
def Lr{l:aE}(h:Lb l):xr j0 l (fun R=>R.length=l.n.D'.length):=by
 have hi:=h.n.items;obtain⟨ok,R',H,W⟩:=Ja (l:=l) l.n.D' [] h.n.exprs (by simp;omega);exact⟨ok,R',H,by simpa using W⟩
def MY(nx:Nat->aE->Option (Bool×aE))(l:aE)(R:List Int)(i:Nat)(e k:Int)(h:R.length<=100000):g9 nx i {l with j':=R} e k=if((e !=(0:Int))&&(e !=k))then some (false,{l with j':=R})else nx (i+1) {l with j':=R++[k]}:=by
 unfold g9;split
 ·rfl
 ·show(hU R [k]).bind _=_;rw [bZ (by simp;omega)];rfl
def MX{l:aE}(xs:List Int): ∀(i:Nat) (R:List Int),i+xs.length=l.b.length->R.length+xs.length<=20000-> ∃ok R',eV xs i {l with j':=R}=some (ok,{l with j':=R' })/\(ok=true->R'.length=R.length+xs.length):=by
 induction xs with
 |nil=>intro i R _ _;exact⟨true,R,rfl,fun _=>rfl⟩
 |cons a tl ih=>
  intro i R hi hR;simp only [jl]at hi hR;have key: ∀e k:Int,∃ok R',g9 (eV tl) i {l with j':=R} e k=some (ok,{l with j':=R' })/\(ok=true->R'.length=R.length+(a::tl).length):=by
   intro e k;rw [MY _ _ _ _ _ _ (by omega)];split
   ·exact⟨false,R,rfl,fun h=>by cases h⟩
   ·obtain⟨ok,R',H,W⟩:=ih (i+1) (R++[k]) (by omega) (by simp;omega);exact⟨ok,R',H,fun ho=>by have:=W ho;simp at this ⊢;omega⟩
  unfold eV;show∃ok R',(gw l.b (i:Int)).bind _=_/\_;rw [eU,vp (by omega),bz];split<;>exact key _ _
def Pq{l:aE}(h:Lb l):xr km l (fun R=>R.length=l.a_.length):=by
 unfold xr km;have ha:=h.a;by_cases hl:l.a_.length=l.b.length
 ·rw [bB (by simp [hl])];obtain⟨ok,R',H,W⟩:=MX (l:=l) l.a_ 0 [] (by omega) (by simp;omega);exact⟨ok,R',H,by simpa using W⟩
 ·rw [bM (by simp;omega)];exact⟨false,l.j',by cases l;rfl,fun h=>by cases h⟩
def qU(op:Int):aE->Unit->Option (Bool×aE):=(C5 ((nJ).getD []) op).getD (fun _ _=>none)
def OL{l:aE}(h:Lb l)(hA:prt l.n.Op≠0-> ∃e,gw l.nodes l.n.A=some e)(hp:0<=prt l.n.Op):xr (fun l=>qU l.n.Op l ()) l (PJ l.n l.a_ l.b):=by
 have imp: ∀{m:aE->Option (Bool×aE)} {P:List Int->Prop},xr m l P->(qU l.n.Op l ()=m l)->(∀R,P R->PJ l.n l.a_ l.b R)->xr (fun l=>qU l.n.Op l ()) l (PJ l.n l.a_ l.b):=
  fun⟨ok,R,H,W⟩ he hr=>⟨ok,R,by show qU l.n.Op l ()=_;rw [he];exact H,fun ho=>hr R (W ho)⟩
 by_cases H:l.n.Op=1
 ·exact imp Tw (by rw [H];rfl) (fun R hR=>by
   unfold PJ;rw [H];exact⟨fun _=>hR,fun h=>absurd h (by decide),fun h=>absurd h (by decide),fun h=>absurd h (by decide),fun h=>absurd h (by decide),fun h=>absurd h (by decide),fun h=>absurd h (by decide)⟩)
 by_cases W:l.n.Op=2
 ·exact imp (T9 h) (by rw [W];rfl) (fun R hR=>by simp [PJ,W];exact hR)
 by_cases h3:l.n.Op=3
 ·exact imp (Ov h) (by rw [h3];rfl) (fun R hR=>by simp [PJ,h3];exact hR)
 by_cases h4:l.n.Op=4
 ·exact imp (Qq h) (by rw [h4];rfl) (fun R hR=>by simp [PJ,h4];exact hR)
 by_cases h5:l.n.Op=5
 ·exact imp (Lr h) (by rw [h5];rfl) (fun R hR=>by simp [PJ,h5];exact hR)
 by_cases h6:l.n.Op=6
 ·exact imp Qj (by rw [h6];rfl) (fun R hR=>by simp [PJ,h6];exact hR)
 by_cases h7:l.n.Op=7
 ·exact imp (Pq h) (by rw [h7];rfl) (fun R hR=>by simp [PJ,h7];exact hR)
 by_cases h8:l.n.Op=8
 ·exact imp Th (by rw [h8];rfl) (fun R hR=>by simp [PJ,h8];exact hR)
 by_cases h9:l.n.Op=9
 ·exact imp (Qm h) (by rw [h9];rfl) (fun R hR=>by simp [PJ,h9];exact⟨hR.1,hR.2⟩)
 by_cases h10:l.n.Op=10
 ·exact imp (Lx h) (by rw [h10];rfl) (fun R hR=>by simp [PJ,h10];exact hR)
 by_cases h11:l.n.Op=11
 ·exact imp (Qt h (hA (by rw [h11];decide))) (by rw [h11];rfl) (fun R hR=>by simp [PJ,h11];exact hR)
 exfalso;simp [prt,H,W,h3,h4,h5,h6,h7,h8,h9,h10,h11]at hp
