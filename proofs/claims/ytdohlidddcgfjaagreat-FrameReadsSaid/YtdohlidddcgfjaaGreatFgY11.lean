import Derived.Test.YtdohlidddcgfjaaGreatFgY5
import Derived.Test.YtdohlidddcgfjaaGreatFgQ4
set_option linter.all false
namespace Go.Proofs.YtdohlidddcgfjaaGreat
open Go IntKind
def rk1{n:al}{a b:List Int}(hn:kq n)(hop:n.Op=1):dq n a b=some (n.A',(((((n.A'.all fun k=>decide (1<=k)&&decide (k<=3)))&&(decide ((0:Int)<=n.Table)))&&(decide (n.Table<=(3:Int))))&&(decide ((1:Int)<=(n.A'.length:Int))))&&(decide ((n.A'.length:Int)<=(4:Int)))):=by
 have h:=hn.g';have key: ∀(tl:List Int) (i:Nat) (fu:Nat) (ok:Bool),n.A'.drop i=tl->tl.length<fu->jX n fu ok (i:Int)=some (n.A',((((ok&&tl.all fun k=>decide (1<=k)&&decide (k<=3))&&(decide ((0:Int)<=n.Table)))&&(decide (n.Table<=(3:Int))))&&(decide ((1:Int)<=(n.A'.length:Int))))&&(decide ((n.A'.length:Int)<=(4:Int)))):=by
  intro tl
  induction tl with
  |nil=>
   intro i fu ok hd hf;obtain⟨fu,rfl⟩: ∃k,fu=k+1:=⟨fu-1,by omega⟩;have:=Ig hd;rw [jX,bB (by simp;omega)];simp
  |cons x tl ih=>
   intro i fu ok hd hf;simp only [jl]at hf;obtain⟨fu,rfl⟩: ∃k,fu=k+1:=⟨fu-1,by omega⟩;obtain⟨H,W,h3⟩:=jN hd;rw [jX,bM (by simp;omega),H,gg (by omega) (by omega)];simp only [bz];have e:((i:Int)+1)=((i+1:Nat):Int):=by omega
   rw [e];have e2:((if ok=true then some (decide ((1:Int)<=x))else some false).bind fun t=>(if t=true then some (decide (x<=(3:Int)))else some false).bind fun t1=>jX n fu t1 ((i+1:Nat):Int))=jX n fu (ok&&(decide (1<=x)&&decide (x<=3))) ((i+1:Nat):Int):=by
    cases ok<;>by_cases K:(1:Int)<=x<;>simp [K]
   rw [e2,ih (i+1) fu _ h3 (by omega)];simp only [Dv,za]
 have hr:dq n a b=jX n de true (0:Int):=by unfold dq;rw [bM (by simp [hop])]
 exact hr.trans ((key n.A' 0 de true rfl (Ax (EL _) (qL (by omega)))).trans (by rw [o4]))
def rk2{n:al}{a b:List Int}(hop:n.Op=2)(hal:a.length<=16)(hbl:b.length<=16):dq n a b=some (a++b,KX n.c_ (a++b)):=by
 unfold dq;rw [bB (by simp [hop]),bM (by simp [hop]),bZ (by simp;omega)];simp only [bz,pM];rw [bZ (by omega)];simp only [bz];rw [AU];rfl
def rk3{n:al}{a b:List Int}(hop:n.Op=3):dq n a b=some (a,KX n.c_ a):=by
 unfold dq;rw [bB (by simp [hop]),bB (by simp [hop]),bM (by simp [hop]),AU];rfl
def rk6{n:al}{a b:List Int}(hop:n.Op=6):dq n a b=some (a,true):=by
 unfold dq;rw [bB (by simp [hop]),bB (by simp [hop]),bB (by simp [hop]),bB (by simp [hop]),bB (by simp [hop]),bM (by simp [hop])]
def rk5{n:al}{a b:List Int}(hn:kq n)(hop:n.Op=5):dq n a b=some (n.D'.map (fun e=>(iK e a).1),((n.D'.all fun e=>(iK e a).2==0)&&(decide ((1:Int)<=(n.D'.length:Int))))&&(decide ((n.D'.length:Int)<=(16:Int)))):=by
 have h:=hn.items;have hr:dq n a b=m8 n a de [] true (0:Int):=by unfold dq;rw [bB (by simp [hop]),bB (by simp [hop]),bB (by simp [hop]),bB (by simp [hop]),bM (by simp [hop])]
 have key: ∀(tl:List bQ) (i:Nat) (fu:Nat) (out:List Int) (ok:Bool),n.D'.drop i=tl->i+tl.length=n.D'.length->tl.length<fu->out.length=i->m8 n a fu out ok (i:Int)=some (out++tl.map (fun e=>(iK e a).1),((ok&&tl.all fun e=>(iK e a).2==0)&&(decide ((1:Int)<=(n.D'.length:Int))))&&(decide ((n.D'.length:Int)<=(16:Int)))):=by
  intro tl
  induction tl with
  |nil=>
   intro i fu out ok hd hi hf ho;obtain⟨fu,rfl⟩: ∃k,fu=k+1:=⟨fu-1,by omega⟩;simp only [yg,Du]at hi;rw [m8,bB (by simp;omega)];simp [ho,hi]
  |cons x tl ih=>
   intro i fu out ok hd hi hf ho;simp only [jl]at hf hi;obtain⟨fu,rfl⟩: ∃k,fu=k+1:=⟨fu-1,by omega⟩;obtain⟨H,W,h3⟩:=jN hd;rw [m8,bM (by simp;omega),H];simp only [bz];rw [ve];simp only [bz];rw [bZ (by simp;omega),gg (by omega) (by omega)];simp only [bz];have e:((i:Int)+1)=((i+1:Nat):Int):=by omega
   rw [e,ih (i+1) fu _ _ h3 (by omega) (by omega) (by simp [ho])];simp [za]
 exact hr.trans ((key n.D' 0 de [] true rfl (by simp) (Ax (EL _) (qL (by omega))) rfl).trans (by rw [pM,o4]))
def rk4{n:al}{a b:List Int}(hn:kq n)(hop:n.Op=4):dq n a b=if n.v'.any (yL a)then some ([],false)else some (n.v'.map (UM a)++n.u'.map (fun e=>(Q7 e a).1),((((n.u'.all fun e=>(Q7 e a).2)&&(decide ((n.v'.length:Int)<=(3:Int))))&&(decide ((n.u'.length:Int)<=(12:Int))))&&(decide ((0:Int)<((n.v'.length+n.u'.length:Nat):Int))))):=by
 have hK:=hn.keys;have hA:=hn.aggs;have hr:dq n a b=na n a de [] (0:Int):=by unfold dq;rw [bB (by simp [hop]),bB (by simp [hop]),bB (by simp [hop]),bM (by simp [hop])]
 have key3: ∀(tl:List f9) (i:Nat) (fu:Nat) (out:List Int) (ok:Bool),n.u'.drop i=tl->i+tl.length=n.u'.length->tl.length<fu->out.length<=5000+i->m9 n a fu out ok (i:Int)=some (out++tl.map (fun e=>(Q7 e a).1),(((ok&&tl.all fun e=>(Q7 e a).2)&&(decide ((n.v'.length:Int)<=(3:Int))))&&(decide ((n.u'.length:Int)<=(12:Int))))&&(decide ((0:Int)<((out.length+tl.length:Nat):Int)))):=by
  intro tl
  induction tl with
  |nil=>
   intro i fu out ok hd hi hf ho;obtain⟨fu,rfl⟩: ∃k,fu=k+1:=⟨fu-1,by omega⟩;simp only [yg,Du]at hi;rw [m9,bB (by simp;omega)];simp
  |cons x tl ih=>
   intro i fu out ok hd hi hf ho;simp only [jl]at hf hi;obtain⟨fu,rfl⟩: ∃k,fu=k+1:=⟨fu-1,by omega⟩;obtain⟨H,W,h3⟩:=jN hd;rw [m9,bM (by simp;omega),H];simp only [bz];rw [CZ];simp only [bz];rw [bZ (by simp;omega),gg (by omega) (by omega)];simp only [bz];have e:((i:Int)+1)=((i+1:Nat):Int):=by omega
   rw [e,ih (i+1) fu _ _ h3 (by omega) (by omega) (by simp;omega)];simp only [Jw,Dv,za,jR,nY,jl,yg,GL,pM];rw [show out.length+(0+1)+tl.length=out.length+(tl.length+1)from by omega]
 have key2: ∀(tl:List Int) (i:Nat) (fu:Nat) (out:List Int),n.v'.drop i=tl->i+tl.length=n.v'.length->tl.length<fu->out.length=i->na n a fu out (i:Int)=if tl.any (yL a)then some ([],false)else m9 n a de (out++tl.map (UM a)) true 0:=by
  intro tl
  induction tl with
  |nil=>
   intro i fu out hd hi hf ho;obtain⟨fu,rfl⟩: ∃k,fu=k+1:=⟨fu-1,by omega⟩;simp only [yg,Du]at hi;rw [na,bB (by simp;omega)];simp
  |cons x tl ih=>
   intro i fu out hd hi hf ho;simp only [jl]at hf hi;obtain⟨fu,rfl⟩: ∃k,fu=k+1:=⟨fu-1,by omega⟩;obtain⟨H,W,h3⟩:=jN hd;rw [na,bM (by simp;omega),H];simp only [bz]
   cases K:yL a x with
   |true=>
    have hx' :(decide (x<0)||decide ((a.length:Int)<=x))=true:=K;rw [bM hx',bM (by simp [K])]
   |false=>
    have hx' : ¬(decide (x<0)||decide ((a.length:Int)<=x))=true:=by rw [show(decide (x<0)||decide ((a.length:Int)<=x))=yL a x from rfl,K];decide
    rw [bB hx',Qn K];simp only [bz];rw [bZ (by simp;omega),gg (by omega) (by omega)];simp only [bz];have e:((i:Int)+1)=((i+1:Nat):Int):=by omega
    rw [e,ih (i+1) fu _ h3 (by omega) (by omega) (by simp [ho])];simp [K]
 have e3:=key3 n.u' 0 de (n.v'.map (UM a)) true rfl (by simp) (Ax (EL _) (qL (by omega))) (by simp;omega);rw [Jx,o4]at e3;have e2:=key2 n.v' 0 de [] rfl (by simp) (Ax (EL _) (qL (by omega))) rfl;rw [pM]at e2;exact hr.trans (e2.trans (congrArg (fun z=>if n.v'.any (yL a)=true then some ([],false)else z) e3))
def rk7{n:al}{a b:List Int}(hop:n.Op=7)(hal:a.length<=16):dq n a b=if a.length=b.length then some (List.zipWith KU a b,(a.zip b).all F7)else some ([],false):=by
 unfold dq;rw [bB (by simp [hop]),bB (by simp [hop]),bB (by simp [hop]),bB (by simp [hop]),bB (by simp [hop]),bB (by simp [hop]),bM (by simp [hop])];by_cases hl:a.length=b.length
 ·rw [bB (by simp;omega),bM hl];have kr: ∀(tl tb:List Int) (i:Nat) (out:List Int) (ok:Bool),b.drop i=tb->tl.length=tb.length->out.length+tl.length<=1000->jW b tl i out ok=some (out++List.zipWith KU tl tb,ok&&(tl.zip tb).all F7):=by
   intro tl
   induction tl with
   |nil=>
    intro tb i out ok hd h _;have:tb=[]:=vM h.symm;subst this;simp [jW]
   |cons x tl ih=>
    intro tb i out ok hd h hm
    cases tb with
    |nil=>simp at h
    |cons y tb=>
     simp only [jl,Rs]at h hm;obtain⟨H,W,h3⟩:=jN hd;rw [jW,H];simp only [bz];have step: ∀z:Int,rh b (jW b tl) i out ok z=some (out++z::List.zipWith KU tl tb,ok&&((y==z||y==0)&&(tl.zip tb).all F7)):=by
      intro z;unfold rh;rw [bZ (by simp;omega),H];simp only [bz]
      cases ok with
      |true=>
       simp only [gQ,bz,o4]
       cases hyz:y==z with
       |true=>
        simp only [uc,jc,hX,bz];rw [ih tb (i+1) _ _ h3 h (by simp;omega)];simp
       |false=>
        simp only [Ab,gQ,bz];rw [ih tb (i+1) _ _ h3 h (by simp;omega)];simp
      |false=>
       simp only [jc,hX,bz,Bool.false_and];rw [ih tb (i+1) _ _ h3 h (by simp;omega)];simp
     by_cases K:x=0
     ·subst K;rw [bM (by simp),step y];simp [F7,KU]
     ·rw [bB (by simpa using K),step x];have:KU x y=x:=by unfold KU;rw [bB K]
      simp only [List.zipWith_cons_cons,List.zip_cons_cons,Dv,F7,this]
  rw [kr a b 0 [] true rfl hl (by simp;omega),pM,o4]
 ·rw [bM (by simp;omega),bB hl]
def rk8{n:al}{a b:List Int}(hn:kq n)(hop:n.Op=8):dq n a b=some (a,((((n.B'.all fun e=>decide (0<=e.o_)&&decide (e.o_<(a.length:Int)))&&(decide ((n.B'.length:Int)<=(3:Int))))&&(decide ((-1:Int)<=n.J')))&&(decide (n.J'<=(2147483647:Int))))):=by
 have h:=hn.order;have hr:dq n a b=jV n a de true (0:Int):=by unfold dq;rw [bB (by simp [hop]),bB (by simp [hop]),bB (by simp [hop]),bB (by simp [hop]),bB (by simp [hop]),bB (by simp [hop]),bB (by simp [hop])]
 have key: ∀(tl:List jJ) (i:Nat) (fu:Nat) (ok:Bool),n.B'.drop i=tl->i+tl.length=n.B'.length->tl.length<fu->jV n a fu ok (i:Int)=some (a,((((ok&&tl.all fun e=>decide (0<=e.o_)&&decide (e.o_<(a.length:Int)))&&(decide ((n.B'.length:Int)<=(3:Int))))&&(decide ((-1:Int)<=n.J')))&&(decide (n.J'<=(2147483647:Int))))):=by
  intro tl
  induction tl with
  |nil=>
   intro i fu ok hd hi hf;obtain⟨fu,rfl⟩: ∃k,fu=k+1:=⟨fu-1,by omega⟩;simp only [yg,Du]at hi;rw [jV,bB (by simp;omega)];simp
  |cons x tl ih=>
   intro i fu ok hd hi hf;simp only [jl]at hf hi;obtain⟨fu,rfl⟩: ∃k,fu=k+1:=⟨fu-1,by omega⟩;obtain⟨H,W,h3⟩:=jN hd;rw [jV,bM (by simp;omega),H,gg (by omega) (by omega)];simp only [bz];have e:((i:Int)+1)=((i+1:Nat):Int):=by omega
   rw [e];have e2:((if ok=true then some (decide ((0:Int)<=x.o_))else some false).bind fun t=>(if t=true then some (decide (x.o_<(a.length:Int)))else some false).bind fun t1=>jV n a fu t1 ((i+1:Nat):Int))=jV n a fu (ok&&(decide (0<=x.o_)&&decide (x.o_<(a.length:Int)))) ((i+1:Nat):Int):=by
    cases ok<;>by_cases K:(0:Int)<=x.o_<;>simp [K]
   rw [e2,ih (i+1) fu _ h3 (by omega) (by omega)];simp only [Dv,za]
 exact hr.trans ((key n.B' 0 de true rfl (by simp) (Ax (EL _) (qL (by omega)))).trans (by rw [o4]))
def Xp(ok:Bool)(R:List Int)(o:Bool)(k:List Int):Prop:=(ok&&decide (R.length<=16))=(o&&decide (k.length<=16))/\((ok&&decide (R.length<=16))=true->R=k)
def Xp.of{ok o:Bool}{R k:List Int}(H:ok=o)(W:ok=true->R=k):Xp ok R o k:=by
 subst H
 cases ok with
 |false=>exact⟨rfl,fun h=>by cases h⟩
 |true=>have:=W rfl;subst this;exact⟨rfl,fun _=>rfl⟩
def Cj(m:aE->Option (Bool×aE))(l:aE):Prop:= ∃ok R o k,m l=some (ok,{l with j':=R})/\dq l.n l.a_ l.b=some (k,o)/\Xp ok R o k
def G7(e:bQ)(g':List Int)(h:e.i'.length<=30000):lV e g'=some (KX e g'):=by
 unfold lV KX;rw [pI e g' (by omega)];simp only [bz,Bool.or_comm]
def Tv{l:aE}(h:Lb l)(hop:l.n.Op=1):Cj lA l:=by
 unfold Cj lA;rw [ml (f:=rW) (g:=fun k=>(decide (k<(1:Int)))||(decide ((3:Int)<k))) (fun _=>rfl),bz];refine⟨_,_,_,_,rfl,rk1 h.n hop,.of ?_ fun _=>rfl⟩;have e3:(!(l.n.A'.any fun k=>(decide (k<(1:Int)))||(decide ((3:Int)<k))))=l.n.A'.all fun k=>decide (1<=k)&&decide (k<=3):=by
  rw [List.not_any_eq_all_not];congr 1;funext k;rw [tY];simp
 show(((((!(l.n.A'.any fun k=>(decide (k<(1:Int)))||(decide ((3:Int)<k))))&&(decide ((0:Int)<=l.n.Table)))&&(decide (l.n.Table<(4:Int))))&&(decide ((0:Int)<(l.n.A'.length:Int))))&&(decide ((l.n.A'.length:Int)<=(4:Int))))=_;rw [e3];have e1:decide (l.n.Table<(4:Int))=decide (l.n.Table<=(3:Int)):=by rw [Do];omega
 have e2:decide ((0:Int)<(l.n.A'.length:Int))=decide ((1:Int)<=(l.n.A'.length:Int)):=by rw [Do];omega
 rw [e1,e2]
def T8{l:aE}(h:Lb l)(hop:l.n.Op=2):Cj jo l:=by
 unfold Cj jo;have ha:=h.a;have V:=h.b;rw [IP _ _ (by omega) (by omega),bz];show∃ok R o k,(lV l.n.c_ (l.a_++l.b)).bind _=_/\_;rw [G7 _ _ h.n.cond,bz];exact⟨_,_,_,_,rfl,rk2 hop ha V,.of rfl fun _=>rfl⟩
def Ou{l:aE}(h:Lb l)(hop:l.n.Op=3):Cj ic l:=by
 unfold Cj ic;show∃ok R o k,(lV l.n.c_ l.a_).bind _=_/\_;rw [G7 _ _ h.n.cond,bz];exact⟨_,_,_,_,rfl,rk3 hop,.of rfl fun _=>rfl⟩
def Qi{l:aE}(hop:l.n.Op=6):Cj nI l:=⟨_,_,_,_,rfl,rk6 hop,.of rfl fun _=>rfl⟩
def Tg{l:aE}(h:Lb l)(hop:l.n.Op=8):Cj lz l:=by
 unfold Cj lz;rw [vV (f:=oS {l with j':=l.a_}) (g:=fun o=>(decide (o.o_<(0:Int)))||(decide ((l.a_.length:Int)<=o.o_))) (fun _=>rfl),bz];refine⟨_,_,_,_,rfl,rk8 h.n hop,.of ?_ fun _=>rfl⟩;have e3:(!(l.n.B'.any fun o=>(decide (o.o_<(0:Int)))||(decide ((l.a_.length:Int)<=o.o_))))=l.n.B'.all fun e=>decide (0<=e.o_)&&decide (e.o_<(l.a_.length:Int)):=by
  rw [List.not_any_eq_all_not];congr 1;funext k;rw [tY];simp
 show((((!(l.n.B'.any fun o=>(decide (o.o_<(0:Int)))||(decide ((l.a_.length:Int)<=o.o_))))&&(decide ((l.n.B'.length:Int)<=(3:Int))))&&(decide ((-1:Int)<=l.n.J')))&&(decide (l.n.J'<=(2147483647:Int))))=_;rw [e3]
def RF{l:aE}: ∀(tl:List bQ) (R:List Int),(∀e∈tl,e.i'.length<=30000)->R.length+tl.length<=10000-> ∃ok R',go tl {l with j':=R}=some (ok,{l with j':=R' })/\ok=((tl.all fun e=>(iK e l.a_).2==0)&&decide (0<R.length+tl.length))/\(ok=true->R' =R++tl.map fun e=>(iK e l.a_).1)
 |[],R,_,_=>⟨_,R,rfl,by simp,fun _=>by simp⟩
 |e::tl,R,he,hl=>by
  simp only [jl]at hl;unfold go;show∃ok R',(qr e l.a_).bind _=_/\_;rw [pI _ _ (by have:=he e (jO ..);omega),bz];by_cases h0:(iK e l.a_).2=0
  ·rw [bB (by simp [h0])];show∃ok R',(hU R [(iK e l.a_).1]).bind _=_/\_;rw [bZ (by simp;omega),bz];obtain⟨ok,R',H,W,h3⟩:=RF (l:=l) tl (R++[(iK e l.a_).1]) (fun x K=>he x (kX _ K)) (by simp;omega);refine⟨ok,R',H,?_,fun ho=>by rw [h3 ho];simp⟩;rw [W];have e1:decide (0<(R++[(iK e l.a_).1]).length+tl.length)=true:=by simp;omega
   have e2:decide (0<R.length+(e::tl).length)=true:=by simp;omega
   rw [e1,e2];simp [h0]
  ·rw [bM (by simpa using h0)];exact⟨false,R,rfl,by simp [h0],fun h=>by cases h⟩
def Lq{l:aE}(h:Lb l)(hop:l.n.Op=5):Cj j0 l:=by
 have hi:=h.n.items;obtain⟨ok,R,H,W,h3⟩:=RF (l:=l) l.n.D' [] h.n.exprs (by simp;omega);refine⟨ok,R,_,_,H,rk5 h.n hop,?_⟩
 cases ok with
 |false=>
  refine⟨?_,fun h=>by cases h⟩;rw [Bool.false_and]
  cases hall:l.n.D'.all fun e=>(iK e l.a_).2==0 with
  |false=>simp
  |true=>
   rw [hall,o4]at W;have:l.n.D'.length=0:=by simpa using W.symm
   simp [this]
 |true=>
  have hR:=h3 rfl;rw [pM]at hR;refine⟨?_,fun _=>hR⟩;rw [hR];have h2' :=W.symm;rw [nw,mS]at h2';have e1:decide ((1:Int)<=(l.n.D'.length:Int))=true:=by have:=h2'.2;simp at this ⊢;omega
  rw [h2'.1,e1,o4,o4,o4];rw [Jx,tY];simp;omega
def EC(g:f9)(a:List Int):Int×Bool:=
 if g.Tag=1 then(2,(g.Arg.i'.length:Int)==0)else
 if g.Tag=3 then(2,((((iK g.Arg a).2==0)&&decide (1<g.Tag))&&decide (g.Tag<=5))&&((iK g.Arg a).1==2||(iK g.Arg a).1==0))else
 if g.Tag=4\/g.Tag=5 then((iK g.Arg a).1,(((iK g.Arg a).2==0)&&decide (1<g.Tag))&&decide (g.Tag<=5))else(2,(((iK g.Arg a).2==0)&&decide (1<g.Tag))&&decide (g.Tag<=5))
def EB(a:f9)(g':List Int):(EC a g').2=(Q7 a g').2/\((EC a g').2=true->(EC a g').1=(Q7 a g').1):=by
 unfold Q7 nG EC;rw [ve];simp only [bz];by_cases H:a.Tag=1
 ·simp [H]
 by_cases W:a.Tag=2
 ·by_cases he:(iK a.Arg g').2=0<;>simp [W,he]
 by_cases h3:a.Tag=3
 ·by_cases he:(iK a.Arg g').2=0
  ·by_cases h0:(iK a.Arg g').1=0
   ·simp [h3,he,h0]
   ·by_cases h02:(iK a.Arg g').1=2<;>simp [h3,he,h0,h02]
  ·simp [h3,he]
 by_cases h4:a.Tag=4
 ·by_cases he:(iK a.Arg g').2=0<;>simp [h4,he]
 by_cases h5:a.Tag=5
 ·by_cases he:(iK a.Arg g').2=0<;>simp [h5,he]
 have:a.Tag<1\/5<a.Tag:=by omega
 have h7: ¬(1<a.Tag/\a.Tag<=5):=by omega
 have h8:(decide (1<a.Tag)&&decide (a.Tag<=5))=false:=by rw [IU];simpa using h7
 simp [H,h3,h4,h5,this,za,h8]
def Qo{l:aE}: ∀(gs:List f9) (ok:Bool) (R:List Int),(∀g∈gs,g.Arg.i'.length<=30000)->R.length+gs.length<=20000->du gs ok {l with j':=R}=some (ok&&gs.all fun g=>(EC g l.a_).2,{l with j':=R++gs.map fun g=>(EC g l.a_).1})
 |[],ok,R,_,_=>by unfold du;simp
 |g::tl,ok,R,Y,hR=>by
  simp only [jl]at hR;have key: ∀(ok2:Bool) (k:Int),(ok2=(ok&&(EC g l.a_).2))->k=(EC g l.a_).1->gy (du tl) {l with j':=R} ok2 k=some (ok&&(g::tl).all fun g=>(EC g l.a_).2,{l with j':=R++(g::tl).map fun g=>(EC g l.a_).1}):=by
   intro ok2 k e1 e2;rw [FM _ _ _ _ _ (by omega),Qo tl ok2 (R++[k]) (fun x K=>Y x (kX _ K)) (by simp;omega),e1,e2];simp [za]
  unfold du;by_cases H:g.Tag=1
  ·rw [bM (by simp [H])];exact key _ _ (by simp [EC,H]) (by simp [EC,H])
  rw [bB (by simpa using H)];show(qr g.Arg l.a_).bind _=_;rw [pI g.Arg l.a_ (by have:=Y g (jO ..);omega),bz];by_cases h3:g.Tag=3
  ·rw [bM (by simp [h3])];exact key _ _ (by simp [EC,h3,za]) (by simp [EC,h3])
  rw [bB (by simpa using h3)];unfold ju;by_cases h4:g.Tag=4
  ·rw [bM (by simp [h4]),bM (by simp [h4])];exact key _ _ (by simp [EC,h4,za]) (by simp [EC,h4])
  rw [bB (by simpa using h4)];by_cases h5:g.Tag=5
  ·rw [bM (by simp [h5])];exact key _ _ (by simp [EC,h5,za]) (by simp [EC,h5])
  rw [bB (by simpa using h5)];exact key _ _ (by simp [EC,H,h3,h4,h5,za]) (by simp [EC,H,h3,h4,h5])
def Wf{l:aE}(h:Lb l): ∀(ks:List Int) (R:List Int),R.length+ks.length<=5000-> ∃ok R',eW l ks {l with j':=R}=some (ok,{l with j':=R' })/\ok=(!(ks.any (yL l.a_))&&((((decide ((l.n.v'.length:Int)<=(3:Int)))&&(decide ((l.n.u'.length:Int)<=(12:Int))))&&(decide ((0:Int)<(i64.wrap ((l.n.v'.length:Int)+(l.n.u'.length:Int))))))&&l.n.u'.all fun g=>(EC g l.a_).2))/\(ks.any (yL l.a_)=false->R' =R++ks.map (UM l.a_)++l.n.u'.map fun g=>(EC g l.a_).1)
 |[],R,hR=>by
  unfold eW;rw [Qo l.n.u' _ R h.n.args (by have:=h.n.aggs;simp at hR;omega)];exact⟨_,_,rfl,by simp,fun _=>by simp⟩
 |k::tl,R,hR=>by
  simp only [jl]at hR;unfold eW;show∃ok R',(if yL l.a_ k=true then _ else _)=_/\_
  cases hk:yL l.a_ k with
  |true=>rw [bM rfl];exact⟨false,R,rfl,by simp [hk],fun h=>by simp [hk]at h⟩
  |false=>
   rw [bB (by simp)];show∃ok R',(gw l.a_ k).bind _=_/\_;rw [Qn hk,bz];show∃ok R',(hU R [UM l.a_ k]).bind _=_/\_;rw [bZ (by simp;omega),bz];obtain⟨ok,R',H,W,h3⟩:=Wf h tl (R++[UM l.a_ k]) (by simp;omega);exact⟨ok,R',H,by rw [W];simp [hk],fun hn=>by
    simp [hk]at hn;rw [h3 (by simpa using hn)];simp⟩
def C7{l:aE}(h:Lb l){n:al}(hop:n.Op=4)(hn:kq n)(hK:n.v'=l.n.v')(hG:n.u'=l.n.u')(b:List Int): ∃ok R o k,gn l=some (ok,{l with j':=R})/\dq n l.a_ b=some (k,o)/\ok=o/\(ok=true->R=k/\R.length=l.n.v'.length+l.n.u'.length):=by
 unfold gn;obtain⟨ok,R,H,W,h3⟩:=Wf h l.n.v' [] (by have:=h.n.keys;simpa using this);have hr:=rk4 (a:=l.a_) (b:=b) hn hop;rw [hK,hG]at hr
 cases hany:l.n.v'.any (yL l.a_)with
 |true=>
  rw [hany,bM rfl]at hr;exact⟨ok,R,_,_,H,hr,by rw [W,hany];rfl,fun ho=>by rw [W,hany]at ho;cases ho⟩
 |false=>
  rw [hany,bB (by simp)]at hr;have hkl:=h.n.keys;have hgl:=h.n.aggs;have e1:i64.wrap ((l.n.v'.length:Int)+(l.n.u'.length:Int))=((l.n.v'.length+l.n.u'.length:Nat):Int):=by rw [gg (by omega) (by omega)];omega
  have hall:(l.n.u'.all fun g=>(EC g l.a_).2)=l.n.u'.all fun e=>(Q7 e l.a_).2:=by
   congr 1;funext e;exact(EB e l.a_).1
  refine⟨ok,R,_,_,H,hr,?_,fun ho=>?_⟩
  ·rw [W,hany,hall,e1];simp only [Ab,o4];cases (l.n.u'.all fun e=>(Q7 e l.a_).2)<;>simp
  ·have hR:=h3 hany;rw [pM]at hR;rw [W,nw,nw]at ho;have hm:l.n.u'.map (fun g=>(EC g l.a_).1)=l.n.u'.map fun e=>(Q7 e l.a_).1:=MD fun e he=>(EB e l.a_).2 (mI.1 ho.2.2 e he);exact⟨by rw [hR,hm],by rw [hR];simp⟩
def Qp{l:aE}(h:Lb l)(hop:l.n.Op=4):Cj gn l:=by
 obtain⟨ok,R,o,k,H,W,h3,h4⟩:=C7 h hop h.n rfl rfl l.b;exact⟨ok,R,o,k,H,W,.of h3 fun ho=>(h4 ho).1⟩
def Vc{l:aE}: ∀(tl tb:List Int) (i:Nat) (R:List Int),l.b.drop i=tb->tl.length=tb.length->R.length+tl.length<=1000-> ∃ok R',eV tl i {l with j':=R}=some (ok,{l with j':=R' })/\ok=(tl.zip tb).all F7/\(ok=true->R' =R++List.zipWith KU tl tb)
 |[],tb,i,R,hd,hl,_=>by
  have:tb=[]:=vM hl.symm;subst this;exact⟨true,R,rfl,rfl,fun _=>by simp⟩
 |x::tl,[],i,R,hd,hl,_=>by simp at hl
 |x::tl,y::tb,i,R,hd,hl,hm=>by
  simp only [jl,Rs]at hl hm;obtain⟨H,W,h3⟩:=jN hd;unfold eV;show∃ok R',(gw l.b (i:Int)).bind _=_/\_;rw [H,bz];have key:g9 (eV tl) i {l with j':=R} y (KU x y)=(if F7 (x,y)then eV tl (i+1) {l with j':=R++[KU x y]}else some (false,{l with j':=R})):=by
   unfold g9;have e:((y !=(0:Int))&&(y !=KU x y))= !(F7 (x,y)):=by
    unfold F7;simp only [bne,Bool.not_or];rw [Bool.and_comm]
   rw [e]
   cases F7 (x,y)with
   |true=>
    rw [bB (by simp),bM rfl];show(hU R [KU x y]).bind _=_;rw [bZ (by simp;omega)];rfl
   |false=>rw [bM (by simp),bB (by simp)]
  have key2: ∃ok R',g9 (eV tl) i {l with j':=R} y (KU x y)=some (ok,{l with j':=R' })/\ok=((x::tl).zip (y::tb)).all F7/\(ok=true->R' =R++List.zipWith KU (x::tl) (y::tb)):=by
   rw [key]
   cases hu:F7 (x,y)with
   |false=>rw [bB (by simp)];exact⟨false,R,rfl,by simp [hu],fun h=>by cases h⟩
   |true=>
    rw [bM rfl];obtain⟨ok,R',g1,g2,g3⟩:=Vc (l:=l) tl tb (i+1) (R++[KU x y]) h3 hl (by simp;omega);exact⟨ok,R',g1,by rw [g2];simp [hu],fun ho=>by rw [g3 ho];simp⟩
  by_cases K:x=0
  ·rw [bM (by simp [K])];have:KU x y=y:=bM K;rw [this]at key2;exact key2
  ·rw [bB (by simpa using K)];have:KU x y=x:=bB K;rw [this]at key2;exact key2
def Pp{l:aE}(h:Lb l)(hop:l.n.Op=7):Cj km l:=by
 have ha:=h.a;unfold Cj km;rw [rk7 hop ha];by_cases hl:l.a_.length=l.b.length
 ·rw [bB (by simp [hl]),bM hl];obtain⟨ok,R,H,W,h3⟩:=Vc (l:=l) l.a_ l.b 0 [] rfl hl (by simp;omega);exact⟨ok,R,_,_,H,rfl,.of W fun ho=>by rw [h3 ho,pM]⟩
 ·rw [bM (by simp;omega),bB hl];exact⟨false,l.j',_,_,by cases l;rfl,rfl,.of rfl fun h=>by cases h⟩
def VX{l:aE}(h:Lb l)(hop:Je l.n.Op=true):Cj (fun l=>qU l.n.Op l ()) l:=by
 have imp: ∀{m:aE->Option (Bool×aE)},Cj m l->qU l.n.Op l ()=m l->Cj (fun l=>qU l.n.Op l ()) l:=fun⟨ok,R,o,k,H,W,h3⟩ he=>⟨ok,R,o,k,he.trans H,W,h3⟩;rcases tK hop with H|H|H|H|H|H|H|H
 ·exact imp (Tv h H) (by rw [H];rfl)
 ·exact imp (T8 h H) (by rw [H];rfl)
 ·exact imp (Ou h H) (by rw [H];rfl)
 ·exact imp (Qp h H) (by rw [H];rfl)
 ·exact imp (Lq h H) (by rw [H];rfl)
 ·exact imp (Qi H) (by rw [H];rfl)
 ·exact imp (Pp h H) (by rw [H];rfl)
 ·exact imp (Tg h H) (by rw [H];rfl)
