import Derived.Test.YtadeokalnbmppaaGreatDoorReY5
import Derived.Test.YtadeokalnbmppaaGreatDoorReQ2
set_option linter.all false
namespace Go.Proofs.YtadeokalnbmppaaGreatDoor
open Go IntKind
def rk1{n:ac}{a b:List Int}(hn:d9 n)(p_:n.Op=1):ba n a b=some (n.U',(((((n.U'.all fun k=>decide (1<=k)&&decide (k<=3)))&&(decide ((0:Int)<=n.M')))&&(decide (n.M'<=(3:Int))))&&(decide ((1:Int)<=(n.U'.length:Int))))&&(decide ((n.U'.length:Int)<=(4:Int)))):=by
 have h:=hn.j';have key: ∀(tl:List Int) (i:Nat) (fu:Nat) (ok:Bool),n.U'.drop i=tl->tl.length<fu->ep n fu ok (i:Int)=some (n.U',((((ok&&tl.all fun k=>decide (1<=k)&&decide (k<=3))&&(decide ((0:Int)<=n.M')))&&(decide (n.M'<=(3:Int))))&&(decide ((1:Int)<=(n.U'.length:Int))))&&(decide ((n.U'.length:Int)<=(4:Int)))):=by
  intro tl
  induction tl with
  |nil=>
   intro i fu ok hd Q;obtain⟨fu,rfl⟩: ∃k,fu=k+1:=⟨fu-1,by omega⟩;have:=yr hd;rw [ep,aZ (by simp;omega)];simp
  |cons x tl ih=>
   intro i fu ok hd Q;simp only [jr]at Q;obtain⟨fu,rfl⟩: ∃k,fu=k+1:=⟨fu-1,by omega⟩;obtain⟨D,V,Z⟩:=im hd;rw [ep,bq (by simp;omega),D,cJ (by omega) (by omega)];simp only [bh];have e:((i:Int)+1)=((i+1:Nat):Int):=by omega
   rw [e];have e2:((if ok=true then some (decide ((1:Int)<=x))else some false).bind fun t=>(if t=true then some (decide (x<=(3:Int)))else some false).bind fun t1=>ep n fu t1 ((i+1:Nat):Int))=ep n fu (ok&&(decide (1<=x)&&decide (x<=3))) ((i+1:Nat):Int):=by
    cases ok<;>by_cases I:(1:Int)<=x<;>simp [I]
   rw [e2,ih (i+1) fu _ Z (by omega)];simp only [yF,wW]
 have hr:ba n a b=ep n ko true (0:Int):=by unfold ba;rw [bq (by simp [p_])]
 exact hr.trans ((key n.U' 0 ko true rfl (wg (zS _) (nO (by omega)))).trans (by rw [sX]))
def rk2{n:ac}{a b:List Int}(p_:n.Op=2)(hal:a.length<=16)(hbl:b.length<=16):ba n a b=some (a++b,Ef n.f_ (a++b)):=by
 unfold ba;rw [aZ (by simp [p_]),bq (by simp [p_]),cK (by simp;omega)];simp only [bh,lz];rw [cK (by omega)];simp only [bh];rw [o9];rfl
def rk3{n:ac}{a b:List Int}(p_:n.Op=3):ba n a b=some (a,Ef n.f_ a):=by
 unfold ba;rw [aZ (by simp [p_]),aZ (by simp [p_]),bq (by simp [p_]),o9];rfl
def rk6{n:ac}{a b:List Int}(p_:n.Op=6):ba n a b=some (a,true):=by
 unfold ba;rw [aZ (by simp [p_]),aZ (by simp [p_]),aZ (by simp [p_]),aZ (by simp [p_]),aZ (by simp [p_]),bq (by simp [p_])]
def rk5{n:ac}{a b:List Int}(hn:d9 n)(p_:n.Op=5):ba n a b=some (n.N'.map (fun e=>(fT e a).1),((n.N'.all fun e=>(fT e a).2==0)&&(decide ((1:Int)<=(n.N'.length:Int))))&&(decide ((n.N'.length:Int)<=(16:Int)))):=by
 have h:=hn.items;have hr:ba n a b=eM n a ko [] true (0:Int):=by unfold ba;rw [aZ (by simp [p_]),aZ (by simp [p_]),aZ (by simp [p_]),aZ (by simp [p_]),bq (by simp [p_])]
 have key: ∀(tl:List bD) (i:Nat) (fu:Nat) (out:List Int) (ok:Bool),n.N'.drop i=tl->i+tl.length=n.N'.length->tl.length<fu->out.length=i->eM n a fu out ok (i:Int)=some (out++tl.map (fun e=>(fT e a).1),((ok&&tl.all fun e=>(fT e a).2==0)&&(decide ((1:Int)<=(n.N'.length:Int))))&&(decide ((n.N'.length:Int)<=(16:Int)))):=by
  intro tl
  induction tl with
  |nil=>
   intro i fu out ok hd hi Q ho;obtain⟨fu,rfl⟩: ∃k,fu=k+1:=⟨fu-1,by omega⟩;simp only [tZ,wV]at hi;rw [eM,aZ (by simp;omega)];simp [ho,hi]
  |cons x tl ih=>
   intro i fu out ok hd hi Q ho;simp only [jr]at Q hi;obtain⟨fu,rfl⟩: ∃k,fu=k+1:=⟨fu-1,by omega⟩;obtain⟨D,V,Z⟩:=im hd;rw [eM,bq (by simp;omega),D];simp only [bh];rw [oH];simp only [bh];rw [cK (by simp;omega),cJ (by omega) (by omega)];simp only [bh];have e:((i:Int)+1)=((i+1:Nat):Int):=by omega
   rw [e,ih (i+1) fu _ _ Z (by omega) (by omega) (by simp [ho])];simp [wW]
 exact hr.trans ((key n.N' 0 ko [] true rfl (by simp) (wg (zS _) (nO (by omega))) rfl).trans (by rw [lz,sX]))
def rk4{n:ac}{a b:List Int}(hn:d9 n)(p_:n.Op=4):ba n a b=if n.I'.any (u7 a)then some ([],false)else some (n.I'.map (Gv a)++n.L'.map (fun e=>(zx e a).1),((((n.L'.all fun e=>(zx e a).2)&&(decide ((n.I'.length:Int)<=(3:Int))))&&(decide ((n.L'.length:Int)<=(12:Int))))&&(decide ((0:Int)<((n.I'.length+n.L'.length:Nat):Int))))):=by
 have hK:=hn.keys;have hA:=hn.z_;have hr:ba n a b=eN n a ko [] (0:Int):=by unfold ba;rw [aZ (by simp [p_]),aZ (by simp [p_]),aZ (by simp [p_]),bq (by simp [p_])]
 have XF: ∀(tl:List fh) (i:Nat) (fu:Nat) (out:List Int) (ok:Bool),n.L'.drop i=tl->i+tl.length=n.L'.length->tl.length<fu->out.length<=5000+i->eo n a fu out ok (i:Int)=some (out++tl.map (fun e=>(zx e a).1),(((ok&&tl.all fun e=>(zx e a).2)&&(decide ((n.I'.length:Int)<=(3:Int))))&&(decide ((n.L'.length:Int)<=(12:Int))))&&(decide ((0:Int)<((out.length+tl.length:Nat):Int)))):=by
  intro tl
  induction tl with
  |nil=>
   intro i fu out ok hd hi Q ho;obtain⟨fu,rfl⟩: ∃k,fu=k+1:=⟨fu-1,by omega⟩;simp only [tZ,wV]at hi;rw [eo,aZ (by simp;omega)];simp
  |cons x tl ih=>
   intro i fu out ok hd hi Q ho;simp only [jr]at Q hi;obtain⟨fu,rfl⟩: ∃k,fu=k+1:=⟨fu-1,by omega⟩;obtain⟨D,V,Z⟩:=im hd;rw [eo,bq (by simp;omega),D];simp only [bh];rw [si];simp only [bh];rw [cK (by simp;omega),cJ (by omega) (by omega)];simp only [bh];have e:((i:Int)+1)=((i+1:Nat):Int):=by omega
   rw [e,ih (i+1) fu _ _ Z (by omega) (by omega) (by simp;omega)];simp only [vi,yF,wW,gJ,jY,jr,tZ,FR,lz];rw [show out.length+(0+1)+tl.length=out.length+(tl.length+1)from by omega]
 have zf: ∀(tl:List Int) (i:Nat) (fu:Nat) (out:List Int),n.I'.drop i=tl->i+tl.length=n.I'.length->tl.length<fu->out.length=i->eN n a fu out (i:Int)=if tl.any (u7 a)then some ([],false)else eo n a ko (out++tl.map (Gv a)) true 0:=by
  intro tl
  induction tl with
  |nil=>
   intro i fu out hd hi Q ho;obtain⟨fu,rfl⟩: ∃k,fu=k+1:=⟨fu-1,by omega⟩;simp only [tZ,wV]at hi;rw [eN,aZ (by simp;omega)];simp
  |cons x tl ih=>
   intro i fu out hd hi Q ho;simp only [jr]at Q hi;obtain⟨fu,rfl⟩: ∃k,fu=k+1:=⟨fu-1,by omega⟩;obtain⟨D,V,Z⟩:=im hd;rw [eN,bq (by simp;omega),D];simp only [bh]
   cases I:u7 a x with
   |true=>
    have hx' :(decide (x<0)||decide ((a.length:Int)<=x))=true:=I;rw [bq hx',bq (by simp [I])]
   |false=>
    have hx' : ¬(decide (x<0)||decide ((a.length:Int)<=x))=true:=by rw [show(decide (x<0)||decide ((a.length:Int)<=x))=u7 a x from rfl,I];decide
    rw [aZ hx',HF I];simp only [bh];rw [cK (by simp;omega),cJ (by omega) (by omega)];simp only [bh];have e:((i:Int)+1)=((i+1:Nat):Int):=by omega
    rw [e,ih (i+1) fu _ Z (by omega) (by omega) (by simp [ho])];simp [I]
 have e3:=XF n.L' 0 ko (n.I'.map (Gv a)) true rfl (by simp) (wg (zS _) (nO (by omega))) (by simp;omega);rw [BG,sX]at e3;have e2:=zf n.I' 0 ko [] rfl (by simp) (wg (zS _) (nO (by omega))) rfl;rw [lz]at e2;exact hr.trans (e2.trans (congrArg (fun z=>if n.I'.any (u7 a)=true then some ([],false)else z) e3))
def rk7{n:ac}{a b:List Int}(p_:n.Op=7)(hal:a.length<=16):ba n a b=if a.length=b.length then some (List.zipWith CW a b,(a.zip b).all xX)else some ([],false):=by
 unfold ba;rw [aZ (by simp [p_]),aZ (by simp [p_]),aZ (by simp [p_]),aZ (by simp [p_]),aZ (by simp [p_]),aZ (by simp [p_]),bq (by simp [p_])];by_cases hl:a.length=b.length
 ·rw [aZ (by simp;omega),bq hl];have kr: ∀(tl tb:List Int) (i:Nat) (out:List Int) (ok:Bool),b.drop i=tb->tl.length=tb.length->out.length+tl.length<=1000->iT b tl i out ok=some (out++List.zipWith CW tl tb,ok&&(tl.zip tb).all xX):=by
   intro tl
   induction tl with
   |nil=>
    intro tb i out ok hd h _;have:tb=[]:=uS h.symm;subst this;simp [iT]
   |cons x tl ih=>
    intro tb i out ok hd h hm
    cases tb with
    |nil=>simp at h
    |cons y tb=>
     simp only [jr,LW]at h hm;obtain⟨D,V,Z⟩:=im hd;rw [iT,D];simp only [bh];have step: ∀z:Int,pc b (iT b tl) i out ok z=some (out++z::List.zipWith CW tl tb,ok&&((y==z||y==0)&&(tl.zip tb).all xX)):=by
      intro z;unfold pc;rw [cK (by simp;omega),D];simp only [bh]
      cases ok with
      |true=>
       simp only [mF,bh,sX]
       cases hyz:y==z with
       |true=>
        simp only [s6,qD,lS,bh];rw [ih tb (i+1) _ _ Z h (by simp;omega)];simp
       |false=>
        simp only [xV,mF,bh];rw [ih tb (i+1) _ _ Z h (by simp;omega)];simp
      |false=>
       simp only [qD,lS,bh,E0];rw [ih tb (i+1) _ _ Z h (by simp;omega)];simp
     by_cases I:x=0
     ·subst I;rw [bq (by simp),step y];simp [xX,CW]
     ·rw [aZ (by simpa using I),step x];have:CW x y=x:=by unfold CW;rw [aZ I]
      simp only [List.zipWith_cons_cons,LQ,yF,xX,this]
  rw [kr a b 0 [] true rfl hl (by simp;omega),lz,sX]
 ·rw [bq (by simp;omega),aZ hl]
def rk8{n:ac}{a b:List Int}(hn:d9 n)(p_:n.Op=8):ba n a b=some (a,((((n.Y'.all fun e=>decide (0<=e.y_)&&decide (e.y_<(a.length:Int)))&&(decide ((n.Y'.length:Int)<=(3:Int))))&&(decide ((-1:Int)<=n.Z')))&&(decide (n.Z'<=(2147483647:Int))))):=by
 have h:=hn.order;have hr:ba n a b=ek n a ko true (0:Int):=by unfold ba;rw [aZ (by simp [p_]),aZ (by simp [p_]),aZ (by simp [p_]),aZ (by simp [p_]),aZ (by simp [p_]),aZ (by simp [p_]),aZ (by simp [p_])]
 have key: ∀(tl:List px) (i:Nat) (fu:Nat) (ok:Bool),n.Y'.drop i=tl->i+tl.length=n.Y'.length->tl.length<fu->ek n a fu ok (i:Int)=some (a,((((ok&&tl.all fun e=>decide (0<=e.y_)&&decide (e.y_<(a.length:Int)))&&(decide ((n.Y'.length:Int)<=(3:Int))))&&(decide ((-1:Int)<=n.Z')))&&(decide (n.Z'<=(2147483647:Int))))):=by
  intro tl
  induction tl with
  |nil=>
   intro i fu ok hd hi Q;obtain⟨fu,rfl⟩: ∃k,fu=k+1:=⟨fu-1,by omega⟩;simp only [tZ,wV]at hi;rw [ek,aZ (by simp;omega)];simp
  |cons x tl ih=>
   intro i fu ok hd hi Q;simp only [jr]at Q hi;obtain⟨fu,rfl⟩: ∃k,fu=k+1:=⟨fu-1,by omega⟩;obtain⟨D,V,Z⟩:=im hd;rw [ek,bq (by simp;omega),D,cJ (by omega) (by omega)];simp only [bh];have e:((i:Int)+1)=((i+1:Nat):Int):=by omega
   rw [e];have e2:((if ok=true then some (decide ((0:Int)<=x.y_))else some false).bind fun t=>(if t=true then some (decide (x.y_<(a.length:Int)))else some false).bind fun t1=>ek n a fu t1 ((i+1:Nat):Int))=ek n a fu (ok&&(decide (0<=x.y_)&&decide (x.y_<(a.length:Int)))) ((i+1:Nat):Int):=by
    cases ok<;>by_cases I:(0:Int)<=x.y_<;>simp [I]
   rw [e2,ih (i+1) fu _ Z (by omega) (by omega)];simp only [yF,wW]
 exact hr.trans ((key n.Y' 0 ko true rfl (by simp) (wg (zS _) (nO (by omega)))).trans (by rw [sX]))
def Wx(ok:Bool)(R:List Int)(o:Bool)(k:List Int):Prop:=(ok&&decide (R.length<=16))=(o&&decide (k.length<=16))/\((ok&&decide (R.length<=16))=true->R=k)
def Wx.of{ok o:Bool}{R k:List Int}(D:ok=o)(V:ok=true->R=k):Wx ok R o k:=by
 subst D
 cases ok with
 |false=>exact⟨rfl,fun h=>by cases h⟩
 |true=>have:=V rfl;subst this;exact⟨rfl,fun _=>rfl⟩
def BC(m:ap->Option (Bool×ap))(l:ap):Prop:= ∃ok R o k,m l=some (ok,{l with B':=R})/\ba l.n l.a_ l.b=some (k,o)/\Wx ok R o k
def Mc(e:bD)(j':List Int)(h:e.u'.length<=30000):nC e j'=some (Ef e j'):=by
 unfold nC Ef;rw [mW e j' (by omega)];simp only [bh,Bool.or_comm]
def SY{l:ap}(h:Lb l)(p_:l.n.Op=1):BC lX l:=by
 unfold BC lX;rw [iv (f:=qZ) (g:=fun k=>(decide (k<(1:Int)))||(decide ((3:Int)<k))) (fun _=>rfl),bh];refine⟨_,_,_,_,rfl,rk1 h.n p_,.of ?_ fun _=>rfl⟩;have e3:(!(l.n.U'.any fun k=>(decide (k<(1:Int)))||(decide ((3:Int)<k))))=l.n.U'.all fun k=>decide (1<=k)&&decide (k<=3):=by
  rw [LU];congr 1;funext k;rw [uQ];simp
 show(((((!(l.n.U'.any fun k=>(decide (k<(1:Int)))||(decide ((3:Int)<k))))&&(decide ((0:Int)<=l.n.M')))&&(decide (l.n.M'<(4:Int))))&&(decide ((0:Int)<(l.n.U'.length:Int))))&&(decide ((l.n.U'.length:Int)<=(4:Int))))=_;rw [e3];have e1:decide (l.n.M'<(4:Int))=decide (l.n.M'<=(3:Int)):=by rw [BI];omega
 have e2:decide ((0:Int)<(l.n.U'.length:Int))=decide ((1:Int)<=(l.n.U'.length:Int)):=by rw [BI];omega
 rw [e1,e2]
def Tv{l:ap}(h:Lb l)(p_:l.n.Op=2):BC lY l:=by
 unfold BC lY;have ha:=h.a;have K:=h.b;rw [CE _ _ (by omega) (by omega),bh];show∃ok R o k,(nC l.n.f_ (l.a_++l.b)).bind _=_/\_;rw [Mc _ _ h.n.cond,bh];exact⟨_,_,_,_,rfl,rk2 p_ ha K,.of rfl fun _=>rfl⟩
def NM{l:ap}(h:Lb l)(p_:l.n.Op=3):BC ke l:=by
 unfold BC ke;show∃ok R o k,(nC l.n.f_ l.a_).bind _=_/\_;rw [Mc _ _ h.n.cond,bh];exact⟨_,_,_,_,rfl,rk3 p_,.of rfl fun _=>rfl⟩
def PK{l:ap}(p_:l.n.Op=6):BC nX l:=⟨_,_,_,_,rfl,rk6 p_,.of rfl fun _=>rfl⟩
def SK{l:ap}(h:Lb l)(p_:l.n.Op=8):BC lW l:=by
 unfold BC lW;rw [rr (f:=pg {l with B':=l.a_}) (g:=fun o=>(decide (o.y_<(0:Int)))||(decide ((l.a_.length:Int)<=o.y_))) (fun _=>rfl),bh];refine⟨_,_,_,_,rfl,rk8 h.n p_,.of ?_ fun _=>rfl⟩;have e3:(!(l.n.Y'.any fun o=>(decide (o.y_<(0:Int)))||(decide ((l.a_.length:Int)<=o.y_))))=l.n.Y'.all fun e=>decide (0<=e.y_)&&decide (e.y_<(l.a_.length:Int)):=by
  rw [LU];congr 1;funext k;rw [uQ];simp
 show((((!(l.n.Y'.any fun o=>(decide (o.y_<(0:Int)))||(decide ((l.a_.length:Int)<=o.y_))))&&(decide ((l.n.Y'.length:Int)<=(3:Int))))&&(decide ((-1:Int)<=l.n.Z')))&&(decide (l.n.Z'<=(2147483647:Int))))=_;rw [e3]
def Rh{l:ap}: ∀(tl:List bD) (R:List Int),(∀e∈tl,e.u'.length<=30000)->R.length+tl.length<=10000-> ∃ok R',iU tl {l with B':=R}=some (ok,{l with B':=R' })/\ok=((tl.all fun e=>(fT e l.a_).2==0)&&decide (0<R.length+tl.length))/\(ok=true->R' =R++tl.map fun e=>(fT e l.a_).1)
 |[],R,_,_=>⟨_,R,rfl,by simp,fun _=>by simp⟩
 |e::tl,R,he,hl=>by
  simp only [jr]at hl;unfold iU;show∃ok R',(nm e l.a_).bind _=_/\_;rw [mW _ _ (by have:=he e (pz ..);omega),bh];by_cases h0:(fT e l.a_).2=0
  ·rw [aZ (by simp [h0])];show∃ok R',(nH R [(fT e l.a_).1]).bind _=_/\_;rw [cK (by simp;omega),bh];obtain⟨ok,R',D,V,Z⟩:=Rh (l:=l) tl (R++[(fT e l.a_).1]) (fun x I=>he x (pA _ I)) (by simp;omega);refine⟨ok,R',D,?_,fun ho=>by rw [Z ho];simp⟩;rw [V];have e1:decide (0<(R++[(fT e l.a_).1]).length+tl.length)=true:=by simp;omega
   have e2:decide (0<R.length+(e::tl).length)=true:=by simp;omega
   rw [e1,e2];simp [h0]
  ·rw [bq (by simpa using h0)];exact⟨false,R,rfl,by simp [h0],fun h=>by cases h⟩
def KF{l:ap}(h:Lb l)(p_:l.n.Op=5):BC mp l:=by
 have hi:=h.n.items;obtain⟨ok,R,D,V,Z⟩:=Rh (l:=l) l.n.N' [] h.n.exprs (by simp;omega);refine⟨ok,R,_,_,D,rk5 h.n p_,?_⟩
 cases ok with
 |false=>
  refine⟨?_,fun h=>by cases h⟩;rw [E0]
  cases K_:l.n.N'.all fun e=>(fT e l.a_).2==0 with
  |false=>simp
  |true=>
   rw [K_,sX]at V;have:l.n.N'.length=0:=by simpa using V.symm
   simp [this]
 |true=>
  have hR:=Z rfl;rw [lz]at hR;refine⟨?_,fun _=>hR⟩;rw [hR];have h2' :=V.symm;rw [jJ,vk]at h2';have e1:decide ((1:Int)<=(l.n.N'.length:Int))=true:=by have:=h2'.2;simp at this ⊢;omega
  rw [h2'.1,e1,sX,sX,sX];rw [BG,uQ];simp;omega
def FK(g:fh)(a:List Int):Int×Bool:=
 if g.Tag=1 then(2,(g.N_.u'.length:Int)==0)else
 if g.Tag=3 then(2,((((fT g.N_ a).2==0)&&decide (1<g.Tag))&&decide (g.Tag<=5))&&((fT g.N_ a).1==2||(fT g.N_ a).1==0))else
 if g.Tag=4\/g.Tag=5 then((fT g.N_ a).1,(((fT g.N_ a).2==0)&&decide (1<g.Tag))&&decide (g.Tag<=5))else(2,(((fT g.N_ a).2==0)&&decide (1<g.Tag))&&decide (g.Tag<=5))
def DO(a:fh)(j':List Int):(FK a j').2=(zx a j').2/\((FK a j').2=true->(FK a j').1=(zx a j').1):=by
 unfold zx nW FK;rw [oH];simp only [bh];by_cases D:a.Tag=1
 ·simp [D]
 by_cases V:a.Tag=2
 ·by_cases he:(fT a.N_ j').2=0<;>simp [V,he]
 by_cases Z:a.Tag=3
 ·by_cases he:(fT a.N_ j').2=0
  ·by_cases h0:(fT a.N_ j').1=0
   ·simp [Z,he,h0]
   ·by_cases h02:(fT a.N_ j').1=2<;>simp [Z,he,h0,h02]
  ·simp [Z,he]
 by_cases h4:a.Tag=4
 ·by_cases he:(fT a.N_ j').2=0<;>simp [h4,he]
 by_cases h5:a.Tag=5
 ·by_cases he:(fT a.N_ j').2=0<;>simp [h5,he]
 have:a.Tag<1\/5<a.Tag:=by omega
 have h7: ¬(1<a.Tag/\a.Tag<=5):=by omega
 have h8:(decide (1<a.Tag)&&decide (a.Tag<=5))=false:=by rw [BJ];simpa using h7
 simp [D,Z,h4,h5,this,wW,h8]
def VJ{l:ap}: ∀(gs:List fh) (ok:Bool) (R:List Int),(∀g∈gs,g.N_.u'.length<=30000)->R.length+gs.length<=20000->cP gs ok {l with B':=R}=some (ok&&gs.all fun g=>(FK g l.a_).2,{l with B':=R++gs.map fun g=>(FK g l.a_).1})
 |[],ok,R,_,_=>by unfold cP;simp
 |g::tl,ok,R,H,hR=>by
  simp only [jr]at hR;have key: ∀(ok2:Bool) (k:Int),(ok2=(ok&&(FK g l.a_).2))->k=(FK g l.a_).1->fZ (cP tl) {l with B':=R} ok2 k=some (ok&&(g::tl).all fun g=>(FK g l.a_).2,{l with B':=R++(g::tl).map fun g=>(FK g l.a_).1}):=by
   intro ok2 k e1 e2;rw [Fx _ _ _ _ _ (by omega),VJ tl ok2 (R++[k]) (fun x I=>H x (pA _ I)) (by simp;omega),e1,e2];simp [wW]
  unfold cP;by_cases D:g.Tag=1
  ·rw [bq (by simp [D])];exact key _ _ (by simp [FK,D]) (by simp [FK,D])
  rw [aZ (by simpa using D)];show(nm g.N_ l.a_).bind _=_;rw [mW g.N_ l.a_ (by have:=H g (pz ..);omega),bh];by_cases Z:g.Tag=3
  ·rw [bq (by simp [Z])];exact key _ _ (by simp [FK,Z,wW]) (by simp [FK,Z])
  rw [aZ (by simpa using Z)];unfold j4;by_cases h4:g.Tag=4
  ·rw [bq (by simp [h4]),bq (by simp [h4])];exact key _ _ (by simp [FK,h4,wW]) (by simp [FK,h4])
  rw [aZ (by simpa using h4)];by_cases h5:g.Tag=5
  ·rw [bq (by simp [h5])];exact key _ _ (by simp [FK,h5,wW]) (by simp [FK,h5])
  rw [aZ (by simpa using h5)];exact key _ _ (by simp [FK,D,Z,h4,h5,wW]) (by simp [FK,D,Z,h4,h5])
def VK{l:ap}(h:Lb l): ∀(ks:List Int) (R:List Int),R.length+ks.length<=5000-> ∃ok R',fY l ks {l with B':=R}=some (ok,{l with B':=R' })/\ok=(!(ks.any (u7 l.a_))&&((((decide ((l.n.I'.length:Int)<=(3:Int)))&&(decide ((l.n.L'.length:Int)<=(12:Int))))&&(decide ((0:Int)<(i64.wrap ((l.n.I'.length:Int)+(l.n.L'.length:Int))))))&&l.n.L'.all fun g=>(FK g l.a_).2))/\(ks.any (u7 l.a_)=false->R' =R++ks.map (Gv l.a_)++l.n.L'.map fun g=>(FK g l.a_).1)
 |[],R,hR=>by
  unfold fY;rw [VJ l.n.L' _ R h.n.args (by have:=h.n.z_;simp at hR;omega)];exact⟨_,_,rfl,by simp,fun _=>by simp⟩
 |k::tl,R,hR=>by
  simp only [jr]at hR;unfold fY;show∃ok R',(if u7 l.a_ k=true then _ else _)=_/\_
  cases hk:u7 l.a_ k with
  |true=>rw [bq rfl];exact⟨false,R,rfl,by simp [hk],fun h=>by simp [hk]at h⟩
  |false=>
   rw [aZ (by simp)];show∃ok R',(dm l.a_ k).bind _=_/\_;rw [HF hk,bh];show∃ok R',(nH R [Gv l.a_ k]).bind _=_/\_;rw [cK (by simp;omega),bh];obtain⟨ok,R',D,V,Z⟩:=VK h tl (R++[Gv l.a_ k]) (by simp;omega);exact⟨ok,R',D,by rw [V];simp [hk],fun hn=>by
    simp [hk]at hn;rw [Z (by simpa using hn)];simp⟩
def HI{l:ap}(h:Lb l){n:ac}(p_:n.Op=4)(hn:d9 n)(hK:n.I'=l.n.I')(hG:n.L'=l.n.L')(b:List Int): ∃ok R o k,gv l=some (ok,{l with B':=R})/\ba n l.a_ b=some (k,o)/\ok=o/\(ok=true->R=k/\R.length=l.n.I'.length+l.n.L'.length):=by
 unfold gv;obtain⟨ok,R,D,V,Z⟩:=VK h l.n.I' [] (by have:=h.n.keys;simpa using this);have hr:=rk4 (a:=l.a_) (b:=b) hn p_;rw [hK,hG]at hr
 cases hany:l.n.I'.any (u7 l.a_)with
 |true=>
  rw [hany,bq rfl]at hr;exact⟨ok,R,_,_,D,hr,by rw [V,hany];rfl,fun ho=>by rw [V,hany]at ho;cases ho⟩
 |false=>
  rw [hany,aZ (by simp)]at hr;have hkl:=h.n.keys;have hgl:=h.n.z_;have e1:i64.wrap ((l.n.I'.length:Int)+(l.n.L'.length:Int))=((l.n.I'.length+l.n.L'.length:Nat):Int):=by rw [cJ (by omega) (by omega)];omega
  have K_:(l.n.L'.all fun g=>(FK g l.a_).2)=l.n.L'.all fun e=>(zx e l.a_).2:=by
   congr 1;funext e;exact(DO e l.a_).1
  refine⟨ok,R,_,_,D,hr,?_,fun ho=>?_⟩
  ·rw [V,hany,K_,e1];simp only [xV,sX];cases (l.n.L'.all fun e=>(zx e l.a_).2)<;>simp
  ·have hR:=Z hany;rw [lz]at hR;rw [V,jJ,jJ]at ho;have hm:l.n.L'.map (fun g=>(FK g l.a_).1)=l.n.L'.map fun e=>(zx e l.a_).1:=E3 fun e he=>(DO e l.a_).2 (o0.1 ho.2.2 e he);exact⟨by rw [hR,hm],by rw [hR];simp⟩
def PT{l:ap}(h:Lb l)(p_:l.n.Op=4):BC gv l:=by
 obtain⟨ok,R,o,k,D,V,Z,h4⟩:=HI h p_ h.n rfl rfl l.b;exact⟨ok,R,o,k,D,V,.of Z fun ho=>(h4 ho).1⟩
def UD{l:ap}: ∀(tl tb:List Int) (i:Nat) (R:List Int),l.b.drop i=tb->tl.length=tb.length->R.length+tl.length<=1000-> ∃ok R',d7 tl i {l with B':=R}=some (ok,{l with B':=R' })/\ok=(tl.zip tb).all xX/\(ok=true->R' =R++List.zipWith CW tl tb)
 |[],tb,i,R,hd,hl,_=>by
  have:tb=[]:=uS hl.symm;subst this;exact⟨true,R,rfl,rfl,fun _=>by simp⟩
 |x::tl,[],i,R,hd,hl,_=>by simp at hl
 |x::tl,y::tb,i,R,hd,hl,hm=>by
  simp only [jr,LW]at hl hm;obtain⟨D,V,Z⟩:=im hd;unfold d7;show∃ok R',(dm l.b (i:Int)).bind _=_/\_;rw [D,bh];have key:gU (d7 tl) i {l with B':=R} y (CW x y)=(if xX (x,y)then d7 tl (i+1) {l with B':=R++[CW x y]}else some (false,{l with B':=R})):=by
   unfold gU;have e:((y !=(0:Int))&&(y !=CW x y))= !(xX (x,y)):=by
    unfold xX;simp only [bne,Bool.not_or];rw [Bool.and_comm]
   rw [e]
   cases xX (x,y)with
   |true=>
    rw [aZ (by simp),bq rfl];show(nH R [CW x y]).bind _=_;rw [cK (by simp;omega)];rfl
   |false=>rw [bq (by simp),aZ (by simp)]
  have zf: ∃ok R',gU (d7 tl) i {l with B':=R} y (CW x y)=some (ok,{l with B':=R' })/\ok=((x::tl).zip (y::tb)).all xX/\(ok=true->R' =R++List.zipWith CW (x::tl) (y::tb)):=by
   rw [key]
   cases hu:xX (x,y)with
   |false=>rw [aZ (by simp)];exact⟨false,R,rfl,by simp [hu],fun h=>by cases h⟩
   |true=>
    rw [bq rfl];obtain⟨ok,R',g1,g2,g3⟩:=UD (l:=l) tl tb (i+1) (R++[CW x y]) Z hl (by simp;omega);exact⟨ok,R',g1,by rw [g2];simp [hu],fun ho=>by rw [g3 ho];simp⟩
  by_cases I:x=0
  ·rw [bq (by simp [I])];have:CW x y=y:=bq I;rw [this]at zf;exact zf
  ·rw [aZ (by simpa using I)];have:CW x y=x:=aZ I;rw [this]at zf;exact zf
def OS{l:ap}(h:Lb l)(p_:l.n.Op=7):BC kT l:=by
 have ha:=h.a;unfold BC kT;rw [rk7 p_ ha];by_cases hl:l.a_.length=l.b.length
 ·rw [aZ (by simp [hl]),bq hl];obtain⟨ok,R,D,V,Z⟩:=UD (l:=l) l.a_ l.b 0 [] rfl hl (by simp;omega);exact⟨ok,R,_,_,D,rfl,.of V fun ho=>by rw [Z ho,lz]⟩
 ·rw [bq (by simp;omega),aZ hl];exact⟨false,l.B',_,_,by cases l;rfl,rfl,.of rfl fun h=>by cases h⟩
def aaK{l:ap}(h:Lb l)(p_:F7 l.n.Op=true):BC (fun l=>vw l.n.Op l ()) l:=by
 have imp: ∀{m:ap->Option (Bool×ap)},BC m l->vw l.n.Op l ()=m l->BC (fun l=>vw l.n.Op l ()) l:=fun⟨ok,R,o,k,D,V,Z⟩ he=>⟨ok,R,o,k,he.trans D,V,Z⟩;rcases lE p_ with D|D|D|D|D|D|D|D
 ·exact imp (SY h D) (by rw [D];rfl)
 ·exact imp (Tv h D) (by rw [D];rfl)
 ·exact imp (NM h D) (by rw [D];rfl)
 ·exact imp (PT h D) (by rw [D];rfl)
 ·exact imp (KF h D) (by rw [D];rfl)
 ·exact imp (PK D) (by rw [D];rfl)
 ·exact imp (OS h D) (by rw [D];rfl)
 ·exact imp (SK h D) (by rw [D];rfl)
