/- bO of this claim: Y11. -/
import Derived.Test.YtdohlidddcgfjaaGreatFeY5
import Derived.Test.YtdohlidddcgfjaaGreatFeQ4
set_option linter.all false
namespace Go.Proofs.YtdohlidddcgfjaaGreat
open Go

def Uq{n:aa}{a b:List Int}(hn:ju n)(hop:n.Op=1):cI n a b=some (n.Kinds,(((((n.Kinds.all fun k=>decide (1<=k)&&decide (k<=3)))&&(decide ((0:Int)<=n.Table)))&&(decide (n.Table<=(3:Int))))&&(decide ((1:Int)<=(n.Kinds.length:Int))))&&(decide ((n.Kinds.length:Int)<=(4:Int)))):=by
 have h:=hn.kinds
 have key: ∀(tl:List Int) (i:Nat) (fu:Nat) (ok:Bool),n.Kinds.drop i=tl->tl.length<fu->jo n fu ok (i:Int)=some (n.Kinds,((((ok&&tl.all fun k=>decide (1<=k)&&decide (k<=3))&&(decide ((0:Int)<=n.Table)))&&(decide (n.Table<=(3:Int))))&&(decide ((1:Int)<=(n.Kinds.length:Int))))&&(decide ((n.Kinds.length:Int)<=(4:Int)))):=by
  intro tl
  induction tl with
  |nil=>
   intro i fu ok hd hf
   obtain⟨fu,rfl⟩: ∃k,fu=k+1:=⟨fu-1,by omega⟩
   have:=Dk hd
   rw [jo,aV (by simp;omega)]
   simp
  |cons x tl ih=>
   intro i fu ok hd hf
   simp only [iR]at hf
   obtain⟨fu,rfl⟩: ∃k,fu=k+1:=⟨fu-1,by omega⟩
   obtain⟨Y,H,s⟩:=oQ hd
   rw [jo,bo (by simp;omega),Y,ew (by omega) (by omega)]
   simp only [bg]
   have e:((i:Int)+1)=((i+1:Nat):Int):=by omega
   rw [e]
   have e2:((if ok=true then some (decide ((1:Int)<=x))else some false).bind fun t=>(if t=true then some (decide (x<=(3:Int)))else some false).bind fun t1=>jo n fu t1 ((i+1:Nat):Int))=jo n fu (ok&&(decide (1<=x)&&decide (x<=3))) ((i+1:Nat):Int):=by
    cases ok<;>by_cases X:(1:Int)<=x<;>simp [X]
   rw [e2,ih (i+1) fu _ s (by omega)]
   simp only [yV,uA]
 have hr:cI n a b=jo n eQ true (0:Int):=by unfold cI;rw [bo (by simp [hop])]
 exact hr.trans ((key n.Kinds 0 eQ true rfl (vK (z8 _) (m8 (by omega)))).trans (by rw [ni]))
def Wu{n:aa}{a b:List Int}(hop:n.Op=2)(hal:a.length<=16)(hbl:b.length<=16):cI n a b=some (a++b,JL n.Cond (a++b)):=by
 unfold cI
 rw [aV (by simp [hop]),bo (by simp [hop]),cE (by simp;omega)]
 simp only [bg,mo]
 rw [cE (by omega)]
 simp only [bg]
 rw [v7]
 rfl
def Wt{n:aa}{a b:List Int}(hop:n.Op=3):cI n a b=some (a,JL n.Cond a):=by
 unfold cI
 rw [aV (by simp [hop]),aV (by simp [hop]),bo (by simp [hop]),v7]
 rfl
def Wr{n:aa}{a b:List Int}(hop:n.Op=6):cI n a b=some (a,true):=by
 unfold cI
 rw [aV (by simp [hop]),aV (by simp [hop]),aV (by simp [hop]),aV (by simp [hop]),aV (by simp [hop]),bo (by simp [hop])]
def V2{n:aa}{a b:List Int}(hn:ju n)(hop:n.Op=5):cI n a b=some (n.Items.map (fun e=>(fM e a).1),((n.Items.all fun e=>(fM e a).2==0)&&(decide ((1:Int)<=(n.Items.length:Int))))&&(decide ((n.Items.length:Int)<=(16:Int)))):=by
 have h:=hn.items
 have hr:cI n a b=lN n a eQ [] true (0:Int):=by unfold cI;rw [aV (by simp [hop]),aV (by simp [hop]),aV (by simp [hop]),aV (by simp [hop]),bo (by simp [hop])]
 have key: ∀(tl:List aR) (i:Nat) (fu:Nat) (out:List Int) (ok:Bool),n.Items.drop i=tl->i+tl.length=n.Items.length->tl.length<fu->out.length=i->lN n a fu out ok (i:Int)=some (out++tl.map (fun e=>(fM e a).1),((ok&&tl.all fun e=>(fM e a).2==0)&&(decide ((1:Int)<=(n.Items.length:Int))))&&(decide ((n.Items.length:Int)<=(16:Int)))):=by
  intro tl
  induction tl with
  |nil=>
   intro i fu out ok hd hi hf ho
   obtain⟨fu,rfl⟩: ∃k,fu=k+1:=⟨fu-1,by omega⟩
   simp only [vx,AU]at hi
   rw [lN,aV (by simp;omega)]
   simp [ho,hi]
  |cons x tl ih=>
   intro i fu out ok hd hi hf ho
   simp only [iR]at hf hi
   obtain⟨fu,rfl⟩: ∃k,fu=k+1:=⟨fu-1,by omega⟩
   obtain⟨Y,H,s⟩:=oQ hd
   rw [lN,bo (by simp;omega),Y]
   simp only [bg]
   rw [qH]
   simp only [bg]
   rw [cE (by simp;omega),ew (by omega) (by omega)]
   simp only [bg]
   have e:((i:Int)+1)=((i+1:Nat):Int):=by omega
   rw [e,ih (i+1) fu _ _ s (by omega) (by omega) (by simp [ho])]
   simp [uA]
 exact hr.trans ((key n.Items 0 eQ [] true rfl (by simp) (vK (z8 _) (m8 (by omega))) rfl).trans (by rw [mo,ni]))
def Ws{n:aa}{a b:List Int}(hn:ju n)(hop:n.Op=4):cI n a b=if n.Keys.any (wh a)then some ([],false)else some (n.Keys.map (Ou a)++n.Aggs.map (fun e=>(Li e a).1),((((n.Aggs.all fun e=>(Li e a).2)&&(decide ((n.Keys.length:Int)<=(3:Int))))&&(decide ((n.Aggs.length:Int)<=(12:Int))))&&(decide ((0:Int)<((n.Keys.length+n.Aggs.length:Nat):Int))))):=by
 have hK:=hn.keys
 have hA:=hn.aggs
 have hr:cI n a b=lP n a eQ [] (0:Int):=by unfold cI;rw [aV (by simp [hop]),aV (by simp [hop]),aV (by simp [hop]),bo (by simp [hop])]
 have WE: ∀(tl:List fI) (i:Nat) (fu:Nat) (out:List Int) (ok:Bool),n.Aggs.drop i=tl->i+tl.length=n.Aggs.length->tl.length<fu->out.length<=5000+i->lO n a fu out ok (i:Int)=some (out++tl.map (fun e=>(Li e a).1),(((ok&&tl.all fun e=>(Li e a).2)&&(decide ((n.Keys.length:Int)<=(3:Int))))&&(decide ((n.Aggs.length:Int)<=(12:Int))))&&(decide ((0:Int)<((out.length+tl.length:Nat):Int)))):=by
  intro tl
  induction tl with
  |nil=>
   intro i fu out ok hd hi hf ho
   obtain⟨fu,rfl⟩: ∃k,fu=k+1:=⟨fu-1,by omega⟩
   simp only [vx,AU]at hi
   rw [lO,aV (by simp;omega)]
   simp
  |cons x tl ih=>
   intro i fu out ok hd hi hf ho
   simp only [iR]at hf hi
   obtain⟨fu,rfl⟩: ∃k,fu=k+1:=⟨fu-1,by omega⟩
   obtain⟨Y,H,s⟩:=oQ hd
   rw [lO,bo (by simp;omega),Y]
   simp only [bg]
   rw [yi]
   simp only [bg]
   rw [cE (by simp;omega),ew (by omega) (by omega)]
   simp only [bg]
   have e:((i:Int)+1)=((i+1:Nat):Int):=by omega
   rw [e,ih (i+1) fu _ _ s (by omega) (by omega) (by simp;omega)]
   simp only [B6,yV,uA,oB,kJ,iR,vx,B3,mo]
   rw [show out.length+(0+1)+tl.length=out.length+(tl.length+1)from by omega]
 have CZ: ∀(tl:List Int) (i:Nat) (fu:Nat) (out:List Int),n.Keys.drop i=tl->i+tl.length=n.Keys.length->tl.length<fu->out.length=i->lP n a fu out (i:Int)=if tl.any (wh a)then some ([],false)else lO n a eQ (out++tl.map (Ou a)) true 0:=by
  intro tl
  induction tl with
  |nil=>
   intro i fu out hd hi hf ho
   obtain⟨fu,rfl⟩: ∃k,fu=k+1:=⟨fu-1,by omega⟩
   simp only [vx,AU]at hi
   rw [lP,aV (by simp;omega)]
   simp
  |cons x tl ih=>
   intro i fu out hd hi hf ho
   simp only [iR]at hf hi
   obtain⟨fu,rfl⟩: ∃k,fu=k+1:=⟨fu-1,by omega⟩
   obtain⟨Y,H,s⟩:=oQ hd
   rw [lP,bo (by simp;omega),Y]
   simp only [bg]
   cases X:wh a x with
   |true=>
    have hx' :(decide (x<0)||decide ((a.length:Int)<=x))=true:=X
    rw [bo hx',bo (by simp [X])]
   |false=>
    have hx' : ¬(decide (x<0)||decide ((a.length:Int)<=x))=true:=by rw [show(decide (x<0)||decide ((a.length:Int)<=x))=wh a x from rfl,X];decide
    rw [aV hx',KB X]
    simp only [bg]
    rw [cE (by simp;omega),ew (by omega) (by omega)]
    simp only [bg]
    have e:((i:Int)+1)=((i+1:Nat):Int):=by omega
    rw [e,ih (i+1) fu _ s (by omega) (by omega) (by simp [ho])]
    simp [X]
 have e3:=WE n.Aggs 0 eQ (n.Keys.map (Ou a)) true rfl (by simp) (vK (z8 _) (m8 (by omega))) (by simp;omega)
 rw [Ez,ni]at e3
 have e2:=CZ n.Keys 0 eQ [] rfl (by simp) (vK (z8 _) (m8 (by omega))) rfl
 rw [mo]at e2
 exact hr.trans (e2.trans (congrArg (fun z=>if n.Keys.any (wh a)=true then some ([],false)else z) e3))
def Wq{n:aa}{a b:List Int}(hop:n.Op=7)(hal:a.length<=16):cI n a b=if a.length=b.length then some (List.zipWith FX a b,(a.zip b).all Bz)else some ([],false):=by
 unfold cI
 rw [aV (by simp [hop]),aV (by simp [hop]),aV (by simp [hop]),aV (by simp [hop]),aV (by simp [hop]),aV (by simp [hop]),bo (by simp [hop])]
 by_cases hl:a.length=b.length
 ·rw [aV (by simp;omega),bo hl]
  have kr: ∀(tl tb:List Int) (i:Nat) (out:List Int) (ok:Bool),b.drop i=tb->tl.length=tb.length->out.length+tl.length<=1000->kj b tl i out ok=some (out++List.zipWith FX tl tb,ok&&(tl.zip tb).all Bz):=by
   intro tl
   induction tl with
   |nil=>
    intro tb i out ok hd h _
    have:tb=[]:=tA h.symm
    subst this
    simp [kj]
   |cons x tl ih=>
    intro tb i out ok hd h hm
    cases tb with
    |nil=>simp at h
    |cons y tb=>
     simp only [iR,Lw]at h hm
     obtain⟨Y,H,s⟩:=oQ hd
     rw [kj,Y]
     simp only [bg]
     have step: ∀z:Int,pJ b (kj b tl) i out ok z=some (out++z::List.zipWith FX tl tb,ok&&((y==z||y==0)&&(tl.zip tb).all Bz)):=by
      intro z
      unfold pJ
      rw [cE (by simp;omega),Y]
      simp only [bg]
      cases ok with
      |true=>
       simp only [jl,bg,ni]
       cases hyz:y==z with
       |true=>
        simp only [rk,nj,kQ,bg]
        rw [ih tb (i+1) _ _ s h (by simp;omega)]
        simp
       |false=>
        simp only [yW,jl,bg]
        rw [ih tb (i+1) _ _ s h (by simp;omega)]
        simp
      |false=>
       simp only [nj,kQ,bg,Bool.false_and]
       rw [ih tb (i+1) _ _ s h (by simp;omega)]
       simp
     by_cases X:x=0
     ·subst X
      rw [bo (by simp),step y]
      simp [Bz,FX]
     ·rw [aV (by simpa using X),step x]
      have:FX x y=x:=by unfold FX;rw [aV X]
      simp only [List.zipWith_cons_cons,List.zip_cons_cons,yV,Bz,this]
  rw [kr a b 0 [] true rfl hl (by simp;omega),mo,ni]
 ·rw [bo (by simp;omega),aV hl]
def Wp{n:aa}{a b:List Int}(hn:ju n)(hop:n.Op=8):cI n a b=some (a,((((n.Order.all fun e=>decide (0<=e.Col)&&decide (e.Col<(a.length:Int)))&&(decide ((n.Order.length:Int)<=(3:Int))))&&(decide ((-1:Int)<=n.Limit)))&&(decide (n.Limit<=(2147483647:Int))))):=by
 have h:=hn.order
 have hr:cI n a b=jn n a eQ true (0:Int):=by unfold cI;rw [aV (by simp [hop]),aV (by simp [hop]),aV (by simp [hop]),aV (by simp [hop]),aV (by simp [hop]),aV (by simp [hop]),aV (by simp [hop])]
 have key: ∀(tl:List kF) (i:Nat) (fu:Nat) (ok:Bool),n.Order.drop i=tl->i+tl.length=n.Order.length->tl.length<fu->jn n a fu ok (i:Int)=some (a,((((ok&&tl.all fun e=>decide (0<=e.Col)&&decide (e.Col<(a.length:Int)))&&(decide ((n.Order.length:Int)<=(3:Int))))&&(decide ((-1:Int)<=n.Limit)))&&(decide (n.Limit<=(2147483647:Int))))):=by
  intro tl
  induction tl with
  |nil=>
   intro i fu ok hd hi hf
   obtain⟨fu,rfl⟩: ∃k,fu=k+1:=⟨fu-1,by omega⟩
   simp only [vx,AU]at hi
   rw [jn,aV (by simp;omega)]
   simp
  |cons x tl ih=>
   intro i fu ok hd hi hf
   simp only [iR]at hf hi
   obtain⟨fu,rfl⟩: ∃k,fu=k+1:=⟨fu-1,by omega⟩
   obtain⟨Y,H,s⟩:=oQ hd
   rw [jn,bo (by simp;omega),Y,ew (by omega) (by omega)]
   simp only [bg]
   have e:((i:Int)+1)=((i+1:Nat):Int):=by omega
   rw [e]
   have e2:((if ok=true then some (decide ((0:Int)<=x.Col))else some false).bind fun t=>(if t=true then some (decide (x.Col<(a.length:Int)))else some false).bind fun t1=>jn n a fu t1 ((i+1:Nat):Int))=jn n a fu (ok&&(decide (0<=x.Col)&&decide (x.Col<(a.length:Int)))) ((i+1:Nat):Int):=by
    cases ok<;>by_cases X:(0:Int)<=x.Col<;>simp [X]
   rw [e2,ih (i+1) fu _ s (by omega) (by omega)]
   simp only [yV,uA]
 exact hr.trans ((key n.Order 0 eQ true rfl (by simp) (vK (z8 _) (m8 (by omega)))).trans (by rw [ni]))
def QR(ok:Bool)(R:List Int)(o:Bool)(k:List Int):Prop:=(ok&&decide (R.length<=16))=(o&&decide (k.length<=16))/\((ok&&decide (R.length<=16))=true->R=k)
def QR.of{ok o:Bool}{R k:List Int}(Y:ok=o)(H:ok=true->R=k):QR ok R o k:=by
 subst Y
 cases ok with
 |false=>exact⟨rfl,fun h=>by cases h⟩
 |true=>have:=H rfl;subst this;exact⟨rfl,fun _=>rfl⟩
def xw(m:al->Option (Bool×al))(l:al):Prop:= ∃ok R o k,m l=some (ok,{l with result:=R})/\cI l.n l.a_ l.b=some (k,o)/\QR ok R o k
def Cl(e:aR)(kinds:List Int)(h:e.Nodes.length<=5000):jH e kinds=some (JL e kinds):=by
 unfold jH JL
 rw [my e kinds (by omega)]
 simp only [bg,Bool.or_comm]
def Nk{l:al}(h:Lb l)(hop:l.n.Op=1):xw jq l:=by
 unfold xw jq
 rw [jR (f:=nX) (g:=fun k=>(decide (k<(1:Int)))||(decide ((3:Int)<k))) (fun _=>rfl),bg]
 refine⟨_,_,_,_,rfl,Uq h.n hop,.of ?_ fun _=>rfl⟩
 have e3:(!(l.n.Kinds.any fun k=>(decide (k<(1:Int)))||(decide ((3:Int)<k))))=l.n.Kinds.all fun k=>decide (1<=k)&&decide (k<=3):=by
  rw [List.not_any_eq_all_not]
  congr 1
  funext k
  rw [vI]
  simp
 show(((((!(l.n.Kinds.any fun k=>(decide (k<(1:Int)))||(decide ((3:Int)<k))))&&(decide ((0:Int)<=l.n.Table)))&&(decide (l.n.Table<(4:Int))))&&(decide ((0:Int)<(l.n.Kinds.length:Int))))&&(decide ((l.n.Kinds.length:Int)<=(4:Int))))=_
 rw [e3]
 have e1:decide (l.n.Table<(4:Int))=decide (l.n.Table<=(3:Int)):=by rw [Aa];omega
 have e2:decide ((0:Int)<(l.n.Kinds.length:Int))=decide ((1:Int)<=(l.n.Kinds.length:Int)):=by rw [Aa];omega
 rw [e1,e2]
def NN{l:al}(h:Lb l)(hop:l.n.Op=2):xw gx l:=by
 unfold xw gx
 have ha:=h.a
 have W:=h.b
 rw [DO _ _ (by omega) (by omega),bg]
 show∃ok R o k,(jH l.n.Cond (l.a_++l.b)).bind _=_/\_
 rw [Cl _ _ h.n.cond,bg]
 exact⟨_,_,_,_,rfl,Wu hop ha W,.of rfl fun _=>rfl⟩
def IV{l:al}(h:Lb l)(hop:l.n.Op=3):xw fd l:=by
 unfold xw fd
 show∃ok R o k,(jH l.n.Cond l.a_).bind _=_/\_
 rw [Cl _ _ h.n.cond,bg]
 exact⟨_,_,_,_,rfl,Wt hop,.of rfl fun _=>rfl⟩
def Kv{l:al}(hop:l.n.Op=6):xw kM l:=⟨_,_,_,_,rfl,Wr hop,.of rfl fun _=>rfl⟩
def M6{l:al}(h:Lb l)(hop:l.n.Op=8):xw jp l:=by
 unfold xw jp
 rw [ri (f:=lR {l with result:=l.a_}) (g:=fun o=>(decide (o.Col<(0:Int)))||(decide ((l.a_.length:Int)<=o.Col))) (fun _=>rfl),bg]
 refine⟨_,_,_,_,rfl,Wp h.n hop,.of ?_ fun _=>rfl⟩
 have e3:(!(l.n.Order.any fun o=>(decide (o.Col<(0:Int)))||(decide ((l.a_.length:Int)<=o.Col))))=l.n.Order.all fun e=>decide (0<=e.Col)&&decide (e.Col<(l.a_.length:Int)):=by
  rw [List.not_any_eq_all_not]
  congr 1
  funext k
  rw [vI]
  simp
 show((((!(l.n.Order.any fun o=>(decide (o.Col<(0:Int)))||(decide ((l.a_.length:Int)<=o.Col))))&&(decide ((l.n.Order.length:Int)<=(3:Int))))&&(decide ((-1:Int)<=l.n.Limit)))&&(decide (l.n.Limit<=(2147483647:Int))))=_
 rw [e3]
def LP{l:al}: ∀(tl:List aR) (R:List Int),(∀e∈tl,e.Nodes.length<=5000)->R.length+tl.length<=10000-> ∃ok R',eb tl {l with result:=R}=some (ok,{l with result:=R' })/\ok=((tl.all fun e=>(fM e l.a_).2==0)&&decide (0<R.length+tl.length))/\(ok=true->R' =R++tl.map fun e=>(fM e l.a_).1)
 |[],R,_,_=>⟨_,R,rfl,by simp,fun _=>by simp⟩
 |e::tl,R,he,hl=>by
  simp only [iR]at hl
  unfold eb
  show∃ok R',(mT e l.a_).bind _=_/\_
  rw [my _ _ (by have:=he e (nQ ..);omega),bg]
  by_cases h0:(fM e l.a_).2=0
  ·rw [aV (by simp [h0])]
   show∃ok R',(jh R [(fM e l.a_).1]).bind _=_/\_
   rw [cE (by simp;omega),bg]
   obtain⟨ok,R',Y,H,s⟩:=LP (l:=l) tl (R++[(fM e l.a_).1]) (fun x X=>he x (o4 _ X)) (by simp;omega)
   refine⟨ok,R',Y,?_,fun ho=>by rw [s ho];simp⟩
   rw [H]
   have e1:decide (0<(R++[(fM e l.a_).1]).length+tl.length)=true:=by simp;omega
   have e2:decide (0<R.length+(e::tl).length)=true:=by simp;omega
   rw [e1,e2]
   simp [h0]
  ·rw [bo (by simpa using h0)]
   exact⟨false,R,rfl,by simp [h0],fun h=>by cases h⟩
def Gc{l:al}(h:Lb l)(hop:l.n.Op=5):xw ib l:=by
 have hi:=h.n.items
 obtain⟨ok,R,Y,H,s⟩:=LP (l:=l) l.n.Items [] h.n.exprs (by simp;omega)
 refine⟨ok,R,_,_,Y,V2 h.n hop,?_⟩
 cases ok with
 |false=>
  refine⟨?_,fun h=>by cases h⟩
  rw [Bool.false_and]
  cases hall:l.n.Items.all fun e=>(fM e l.a_).2==0 with
  |false=>simp
  |true=>
   rw [hall,ni]at H
   have:l.n.Items.length=0:=by simpa using H.symm
   simp [this]
 |true=>
  have hR:=s rfl
  rw [mo]at hR
  refine⟨?_,fun _=>hR⟩
  rw [hR]
  have h2' :=H.symm
  rw [nP,mg]at h2'
  have e1:decide ((1:Int)<=(l.n.Items.length:Int))=true:=by have:=h2'.2;simp at this ⊢;omega
  rw [h2'.1,e1,ni,ni,ni]
  rw [Ez,vI]
  simp
  omega
def AN(g:fI)(a:List Int):Int×Bool:=
 if g.Tag=1 then(2,(g.Arg.Nodes.length:Int)==0)else
 if g.Tag=3 then(2,((((fM g.Arg a).2==0)&&decide (1<g.Tag))&&decide (g.Tag<=5))&&((fM g.Arg a).1==2||(fM g.Arg a).1==0))else
 if g.Tag=4\/g.Tag=5 then((fM g.Arg a).1,(((fM g.Arg a).2==0)&&decide (1<g.Tag))&&decide (g.Tag<=5))else(2,(((fM g.Arg a).2==0)&&decide (1<g.Tag))&&decide (g.Tag<=5))
def Dz(a:fI)(kinds:List Int):(AN a kinds).2=(Li a kinds).2/\((AN a kinds).2=true->(AN a kinds).1=(Li a kinds).1):=by
 unfold Li mD AN
 rw [qH]
 simp only [bg]
 by_cases Y:a.Tag=1
 ·simp [Y]
 by_cases H:a.Tag=2
 ·by_cases he:(fM a.Arg kinds).2=0<;>simp [H,he]
 by_cases s:a.Tag=3
 ·by_cases he:(fM a.Arg kinds).2=0
  ·by_cases h0:(fM a.Arg kinds).1=0
   ·simp [s,he,h0]
   ·by_cases h02:(fM a.Arg kinds).1=2<;>simp [s,he,h0,h02]
  ·simp [s,he]
 by_cases h4:a.Tag=4
 ·by_cases he:(fM a.Arg kinds).2=0<;>simp [h4,he]
 by_cases h5:a.Tag=5
 ·by_cases he:(fM a.Arg kinds).2=0<;>simp [h5,he]
 have:a.Tag<1\/5<a.Tag:=by omega
 have h7: ¬(1<a.Tag/\a.Tag<=5):=by omega
 have h8:(decide (1<a.Tag)&&decide (a.Tag<=5))=false:=by rw [B8];simpa using h7
 simp [Y,s,h4,h5,this,uA,h8]
def KC{l:al}: ∀(gs:List fI) (ok:Bool) (R:List Int),(∀g∈gs,g.Arg.Nodes.length<=5000)->R.length+gs.length<=20000->cr gs ok {l with result:=R}=some (ok&&gs.all fun g=>(AN g l.a_).2,{l with result:=R++gs.map fun g=>(AN g l.a_).1})
 |[],ok,R,_,_=>by unfold cr;simp
 |g::tl,ok,R,V,hR=>by
  simp only [iR]at hR
  have key: ∀(ok2:Bool) (k:Int),(ok2=(ok&&(AN g l.a_).2))->k=(AN g l.a_).1->ek (cr tl) {l with result:=R} ok2 k=some (ok&&(g::tl).all fun g=>(AN g l.a_).2,{l with result:=R++(g::tl).map fun g=>(AN g l.a_).1}):=by
   intro ok2 k e1 e2
   rw [Bf _ _ _ _ _ (by omega),KC tl ok2 (R++[k]) (fun x X=>V x (o4 _ X)) (by simp;omega),e1,e2]
   simp [uA]
  unfold cr
  by_cases Y:g.Tag=1
  ·rw [bo (by simp [Y])]
   exact key _ _ (by simp [AN,Y]) (by simp [AN,Y])
  rw [aV (by simpa using Y)]
  show(mT g.Arg l.a_).bind _=_
  rw [my g.Arg l.a_ (by have:=V g (nQ ..);omega),bg]
  by_cases s:g.Tag=3
  ·rw [bo (by simp [s])]
   exact key _ _ (by simp [AN,s,uA]) (by simp [AN,s])
  rw [aV (by simpa using s)]
  unfold gI
  by_cases h4:g.Tag=4
  ·rw [bo (by simp [h4]),bo (by simp [h4])]
   exact key _ _ (by simp [AN,h4,uA]) (by simp [AN,h4])
  rw [aV (by simpa using h4)]
  by_cases h5:g.Tag=5
  ·rw [bo (by simp [h5])]
   exact key _ _ (by simp [AN,h5,uA]) (by simp [AN,h5])
  rw [aV (by simpa using h5)]
  exact key _ _ (by simp [AN,Y,s,h4,h5,uA]) (by simp [AN,Y,s,h4,h5])
def PQ{l:al}(h:Lb l): ∀(ks:List Int) (R:List Int),R.length+ks.length<=5000-> ∃ok R',dk l ks {l with result:=R}=some (ok,{l with result:=R' })/\ok=(!(ks.any (wh l.a_))&&((((decide ((l.n.Keys.length:Int)<=(3:Int)))&&(decide ((l.n.Aggs.length:Int)<=(12:Int))))&&(decide ((0:Int)<(IntKind.i64.wrap ((l.n.Keys.length:Int)+(l.n.Aggs.length:Int))))))&&l.n.Aggs.all fun g=>(AN g l.a_).2))/\(ks.any (wh l.a_)=false->R' =R++ks.map (Ou l.a_)++l.n.Aggs.map fun g=>(AN g l.a_).1)
 |[],R,hR=>by
  unfold dk
  rw [KC l.n.Aggs _ R h.n.args (by have:=h.n.aggs;simp at hR;omega)]
  exact⟨_,_,rfl,by simp,fun _=>by simp⟩
 |k::tl,R,hR=>by
  simp only [iR]at hR
  unfold dk
  show∃ok R',(if wh l.a_ k=true then _ else _)=_/\_
  cases hk:wh l.a_ k with
  |true=>rw [bo rfl];exact⟨false,R,rfl,by simp [hk],fun h=>by simp [hk]at h⟩
  |false=>
   rw [aV (by simp)]
   show∃ok R',(gG l.a_ k).bind _=_/\_
   rw [KB hk,bg]
   show∃ok R',(jh R [Ou l.a_ k]).bind _=_/\_
   rw [cE (by simp;omega),bg]
   obtain⟨ok,R',Y,H,s⟩:=PQ h tl (R++[Ou l.a_ k]) (by simp;omega)
   exact⟨ok,R',Y,by rw [H];simp [hk],fun hn=>by
    simp [hk]at hn
    rw [s (by simpa using hn)]
    simp⟩
def C1{l:al}(h:Lb l){n:aa}(hop:n.Op=4)(hn:ju n)(hK:n.Keys=l.n.Keys)(hG:n.Aggs=l.n.Aggs)(b:List Int): ∃ok R o k,d7 l=some (ok,{l with result:=R})/\cI n l.a_ b=some (k,o)/\ok=o/\(ok=true->R=k/\R.length=l.n.Keys.length+l.n.Aggs.length):=by
 unfold d7
 obtain⟨ok,R,Y,H,s⟩:=PQ h l.n.Keys [] (by have:=h.n.keys;simpa using this)
 have hr:=Ws (a:=l.a_) (b:=b) hn hop
 rw [hK,hG]at hr
 cases hany:l.n.Keys.any (wh l.a_)with
 |true=>
  rw [hany,bo rfl]at hr
  exact⟨ok,R,_,_,Y,hr,by rw [H,hany];rfl,fun ho=>by rw [H,hany]at ho;cases ho⟩
 |false=>
  rw [hany,aV (by simp)]at hr
  have hkl:=h.n.keys
  have hgl:=h.n.aggs
  have e1:IntKind.i64.wrap ((l.n.Keys.length:Int)+(l.n.Aggs.length:Int))=((l.n.Keys.length+l.n.Aggs.length:Nat):Int):=by rw [ew (by omega) (by omega)];omega
  have hall:(l.n.Aggs.all fun g=>(AN g l.a_).2)=l.n.Aggs.all fun e=>(Li e l.a_).2:=by
   congr 1;funext e;exact(Dz e l.a_).1
  refine⟨ok,R,_,_,Y,hr,?_,fun ho=>?_⟩
  ·rw [H,hany,hall,e1]
   simp only [yW,ni]
   cases (l.n.Aggs.all fun e=>(Li e l.a_).2)<;>simp
  ·have hR:=s hany
   rw [mo]at hR
   rw [H,nP,nP]at ho
   have hm:l.n.Aggs.map (fun g=>(AN g l.a_).1)=l.n.Aggs.map fun e=>(Li e l.a_).1:=Hj fun e he=>(Dz e l.a_).2 (lw.1 ho.2.2 e he)
   exact⟨by rw [hR,hm],by rw [hR];simp⟩
def KD{l:al}(h:Lb l)(hop:l.n.Op=4):xw d7 l:=by
 obtain⟨ok,R,o,k,Y,H,s,h4⟩:=C1 h hop h.n rfl rfl l.b
 exact⟨ok,R,o,k,Y,H,.of s fun ho=>(h4 ho).1⟩
def OP{l:al}: ∀(tl tb:List Int) (i:Nat) (R:List Int),l.b.drop i=tb->tl.length=tb.length->R.length+tl.length<=1000-> ∃ok R',dj tl i {l with result:=R}=some (ok,{l with result:=R' })/\ok=(tl.zip tb).all Bz/\(ok=true->R' =R++List.zipWith FX tl tb)
 |[],tb,i,R,hd,hl,_=>by
  have:tb=[]:=tA hl.symm
  subst this
  exact⟨true,R,rfl,rfl,fun _=>by simp⟩
 |x::tl,[],i,R,hd,hl,_=>by simp at hl
 |x::tl,y::tb,i,R,hd,hl,hm=>by
  simp only [iR,Lw]at hl hm
  obtain⟨Y,H,s⟩:=oQ hd
  unfold dj
  show∃ok R',(gG l.b (i:Int)).bind _=_/\_
  rw [Y,bg]
  have key:eU (dj tl) i {l with result:=R} y (FX x y)=(if Bz (x,y)then dj tl (i+1) {l with result:=R++[FX x y]}else some (false,{l with result:=R})):=by
   unfold eU
   have e:((y !=(0:Int))&&(y !=FX x y))= !(Bz (x,y)):=by
    unfold Bz
    simp only [bne,Bool.not_or]
    rw [Bool.and_comm]
   rw [e]
   cases Bz (x,y)with
   |true=>
    rw [aV (by simp),bo rfl]
    show(jh R [FX x y]).bind _=_
    rw [cE (by simp;omega)]
    rfl
   |false=>rw [bo (by simp),aV (by simp)]
  have CZ: ∃ok R',eU (dj tl) i {l with result:=R} y (FX x y)=some (ok,{l with result:=R' })/\ok=((x::tl).zip (y::tb)).all Bz/\(ok=true->R' =R++List.zipWith FX (x::tl) (y::tb)):=by
   rw [key]
   cases hu:Bz (x,y)with
   |false=>rw [aV (by simp)];exact⟨false,R,rfl,by simp [hu],fun h=>by cases h⟩
   |true=>
    rw [bo rfl]
    obtain⟨ok,R',g1,g2,g3⟩:=OP (l:=l) tl tb (i+1) (R++[FX x y]) s hl (by simp;omega)
    exact⟨ok,R',g1,by rw [g2];simp [hu],fun ho=>by rw [g3 ho];simp⟩
  by_cases X:x=0
  ·rw [bo (by simp [X])]
   have:FX x y=y:=bo X
   rw [this]at CZ
   exact CZ
  ·rw [aV (by simpa using X)]
   have:FX x y=x:=aV X
   rw [this]at CZ
   exact CZ
def JJ{l:al}(h:Lb l)(hop:l.n.Op=7):xw iA l:=by
 have ha:=h.a
 unfold xw iA
 rw [Wq hop ha]
 by_cases hl:l.a_.length=l.b.length
 ·rw [aV (by simp [hl]),bo hl]
  obtain⟨ok,R,Y,H,s⟩:=OP (l:=l) l.a_ l.b 0 [] rfl hl (by simp;omega)
  exact⟨ok,R,_,_,Y,rfl,.of H fun ho=>by rw [s ho,mo]⟩
 ·rw [bo (by simp;omega),aV hl]
  exact⟨false,l.result,_,_,by cases l;rfl,rfl,.of rfl fun h=>by cases h⟩
def UI{l:al}(h:Lb l)(hop:E6 l.n.Op=true):xw (fun l=>oL l.n.Op l ()) l:=by
 have imp: ∀{m:al->Option (Bool×al)},xw m l->oL l.n.Op l ()=m l->xw (fun l=>oL l.n.Op l ()) l:=fun⟨ok,R,o,k,Y,H,s⟩ he=>⟨ok,R,o,k,he.trans Y,H,s⟩
 rcases qm hop with Y|Y|Y|Y|Y|Y|Y|Y
 ·exact imp (Nk h Y) (by rw [Y];rfl)
 ·exact imp (NN h Y) (by rw [Y];rfl)
 ·exact imp (IV h Y) (by rw [Y];rfl)
 ·exact imp (KD h Y) (by rw [Y];rfl)
 ·exact imp (Gc h Y) (by rw [Y];rfl)
 ·exact imp (Kv Y) (by rw [Y];rfl)
 ·exact imp (JJ h Y) (by rw [Y];rfl)
 ·exact imp (M6 h Y) (by rw [Y];rfl)
end Go.Proofs.YtdohlidddcgfjaaGreat


