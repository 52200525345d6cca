/- bS of this claim: Y11. -/
import Derived.Test.YtdohlidddcgfjaaGreatFfY5
import Derived.Test.YtdohlidddcgfjaaGreatFfQ4
set_option linter.all false
namespace Go.Proofs.YtdohlidddcgfjaaGreat
open Go

def WQ{n:aa}{a b:List Int}(hn:je n)(hop:n.Op=1):cF n a b=some (n.Kinds,(((((n.Kinds.all fun k=>decide (1<=k)&&decide (k<=3)))&&(decide ((0:Int)<=n.Table)))&&(decide (n.Table<=(3:Int))))&&(decide ((1:Int)<=(n.Kinds.length:Int))))&&(decide ((n.Kinds.length:Int)<=(4:Int)))):=by
 have h:=hn.kinds
 have key: ∀(tl:List Int) (i:Nat) (fu:Nat) (ok:Bool),n.Kinds.drop i=tl->tl.length<fu->jU n fu ok (i:Int)=some (n.Kinds,((((ok&&tl.all fun k=>decide (1<=k)&&decide (k<=3))&&(decide ((0:Int)<=n.Table)))&&(decide (n.Table<=(3:Int))))&&(decide ((1:Int)<=(n.Kinds.length:Int))))&&(decide ((n.Kinds.length:Int)<=(4:Int)))):=by
  intro tl
  induction tl with
  |nil=>
   intro i fu ok hd hf
   obtain⟨fu,rfl⟩: ∃k,fu=k+1:=⟨fu-1,by omega⟩
   have:=Fo hd
   rw [jU,aQ (by simp;omega)]
   simp
  |cons x tl ih=>
   intro i fu ok hd hf
   simp only [iG]at hf
   obtain⟨fu,rfl⟩: ∃k,fu=k+1:=⟨fu-1,by omega⟩
   obtain⟨Y,X,d⟩:=pz hd
   rw [jU,bh (by simp;omega),Y,eM (by omega) (by omega)]
   simp only [bf]
   have e:((i:Int)+1)=((i+1:Nat):Int):=by omega
   rw [e]
   have e2:((if ok=true then some (decide ((1:Int)<=x))else some false).bind fun t=>(if t=true then some (decide (x<=(3:Int)))else some false).bind fun t1=>jU n fu t1 ((i+1:Nat):Int))=jU n fu (ok&&(decide (1<=x)&&decide (x<=3))) ((i+1:Nat):Int):=by
    cases ok<;>by_cases V:(1:Int)<=x<;>simp [V]
   rw [e2,ih (i+1) fu _ d (by omega)]
   simp only [AI,vW]
 have hr:cF n a b=jU n fq true (0:Int):=by unfold cF;rw [bh (by simp [hop])]
 exact hr.trans ((key n.Kinds 0 fq true rfl (xu (BY _) (nZ (by omega)))).trans (by rw [nN]))
def ZT{n:aa}{a b:List Int}(hop:n.Op=2)(hal:a.length<=16)(hbl:b.length<=16):cF n a b=some (a++b,Ie n.Cond (a++b)):=by
 unfold cF
 rw [aQ (by simp [hop]),bh (by simp [hop]),cD (by simp;omega)]
 simp only [bf,mh]
 rw [cD (by omega)]
 simp only [bf]
 rw [xI]
 rfl
def ZS{n:aa}{a b:List Int}(hop:n.Op=3):cF n a b=some (a,Ie n.Cond a):=by
 unfold cF
 rw [aQ (by simp [hop]),aQ (by simp [hop]),bh (by simp [hop]),xI]
 rfl
def rk6{n:aa}{a b:List Int}(hop:n.Op=6):cF n a b=some (a,true):=by
 unfold cF
 rw [aQ (by simp [hop]),aQ (by simp [hop]),aQ (by simp [hop]),aQ (by simp [hop]),aQ (by simp [hop]),bh (by simp [hop])]
def X4{n:aa}{a b:List Int}(hn:je n)(hop:n.Op=5):cF n a b=some (n.Items.map (fun e=>(gp e a).1),((n.Items.all fun e=>(gp e a).2==0)&&(decide ((1:Int)<=(n.Items.length:Int))))&&(decide ((n.Items.length:Int)<=(16:Int)))):=by
 have h:=hn.items
 have hr:cF n a b=mG n a fq [] true (0:Int):=by unfold cF;rw [aQ (by simp [hop]),aQ (by simp [hop]),aQ (by simp [hop]),aQ (by simp [hop]),bh (by simp [hop])]
 have key: ∀(tl:List aO) (i:Nat) (fu:Nat) (out:List Int) (ok:Bool),n.Items.drop i=tl->i+tl.length=n.Items.length->tl.length<fu->out.length=i->mG n a fu out ok (i:Int)=some (out++tl.map (fun e=>(gp e a).1),((ok&&tl.all fun e=>(gp e a).2==0)&&(decide ((1:Int)<=(n.Items.length:Int))))&&(decide ((n.Items.length:Int)<=(16:Int)))):=by
  intro tl
  induction tl with
  |nil=>
   intro i fu out ok hd hi hf ho
   obtain⟨fu,rfl⟩: ∃k,fu=k+1:=⟨fu-1,by omega⟩
   simp only [vk,CF]at hi
   rw [mG,aQ (by simp;omega)]
   simp [ho,hi]
  |cons x tl ih=>
   intro i fu out ok hd hi hf ho
   simp only [iG]at hf hi
   obtain⟨fu,rfl⟩: ∃k,fu=k+1:=⟨fu-1,by omega⟩
   obtain⟨Y,X,d⟩:=pz hd
   rw [mG,bh (by simp;omega),Y]
   simp only [bf]
   rw [rR]
   simp only [bf]
   rw [cD (by simp;omega),eM (by omega) (by omega)]
   simp only [bf]
   have e:((i:Int)+1)=((i+1:Nat):Int):=by omega
   rw [e,ih (i+1) fu _ _ d (by omega) (by omega) (by simp [ho])]
   simp [vW]
 exact hr.trans ((key n.Items 0 fq [] true rfl (by simp) (xu (BY _) (nZ (by omega))) rfl).trans (by rw [mh,nN]))
def ZR{n:aa}{a b:List Int}(hn:je n)(hop:n.Op=4):cF n a b=if n.Keys.any (vy a)then some ([],false)else some (n.Keys.map (Rm a)++n.Aggs.map (fun e=>(NI e a).1),((((n.Aggs.all fun e=>(NI e a).2)&&(decide ((n.Keys.length:Int)<=(3:Int))))&&(decide ((n.Aggs.length:Int)<=(12:Int))))&&(decide ((0:Int)<((n.Keys.length+n.Aggs.length:Nat):Int))))):=by
 have hK:=hn.keys
 have hA:=hn.aggs
 have hr:cF n a b=mI n a fq [] (0:Int):=by unfold cF;rw [aQ (by simp [hop]),aQ (by simp [hop]),aQ (by simp [hop]),bh (by simp [hop])]
 have aaP: ∀(tl:List eY) (i:Nat) (fu:Nat) (out:List Int) (ok:Bool),n.Aggs.drop i=tl->i+tl.length=n.Aggs.length->tl.length<fu->out.length<=5000+i->mH n a fu out ok (i:Int)=some (out++tl.map (fun e=>(NI e a).1),(((ok&&tl.all fun e=>(NI e a).2)&&(decide ((n.Keys.length:Int)<=(3:Int))))&&(decide ((n.Aggs.length:Int)<=(12:Int))))&&(decide ((0:Int)<((out.length+tl.length:Nat):Int)))):=by
  intro tl
  induction tl with
  |nil=>
   intro i fu out ok hd hi hf ho
   obtain⟨fu,rfl⟩: ∃k,fu=k+1:=⟨fu-1,by omega⟩
   simp only [vk,CF]at hi
   rw [mH,aQ (by simp;omega)]
   simp
  |cons x tl ih=>
   intro i fu out ok hd hi hf ho
   simp only [iG]at hf hi
   obtain⟨fu,rfl⟩: ∃k,fu=k+1:=⟨fu-1,by omega⟩
   obtain⟨Y,X,d⟩:=pz hd
   rw [mH,bh (by simp;omega),Y]
   simp only [bf]
   rw [zY]
   simp only [bf]
   rw [cD (by simp;omega),eM (by omega) (by omega)]
   simp only [bf]
   have e:((i:Int)+1)=((i+1:Nat):Int):=by omega
   rw [e,ih (i+1) fu _ _ d (by omega) (by omega) (by simp;omega)]
   simp only [D3,AI,vW,hZ,kj,iG,vk,De,mh]
   rw [show out.length+(0+1)+tl.length=out.length+(tl.length+1)from by omega]
 have E2: ∀(tl:List Int) (i:Nat) (fu:Nat) (out:List Int),n.Keys.drop i=tl->i+tl.length=n.Keys.length->tl.length<fu->out.length=i->mI n a fu out (i:Int)=if tl.any (vy a)then some ([],false)else mH n a fq (out++tl.map (Rm a)) true 0:=by
  intro tl
  induction tl with
  |nil=>
   intro i fu out hd hi hf ho
   obtain⟨fu,rfl⟩: ∃k,fu=k+1:=⟨fu-1,by omega⟩
   simp only [vk,CF]at hi
   rw [mI,aQ (by simp;omega)]
   simp
  |cons x tl ih=>
   intro i fu out hd hi hf ho
   simp only [iG]at hf hi
   obtain⟨fu,rfl⟩: ∃k,fu=k+1:=⟨fu-1,by omega⟩
   obtain⟨Y,X,d⟩:=pz hd
   rw [mI,bh (by simp;omega),Y]
   simp only [bf]
   cases V:vy a x with
   |true=>
    have hx' :(decide (x<0)||decide ((a.length:Int)<=x))=true:=V
    rw [bh hx',bh (by simp [V])]
   |false=>
    have hx' : ¬(decide (x<0)||decide ((a.length:Int)<=x))=true:=by rw [show(decide (x<0)||decide ((a.length:Int)<=x))=vy a x from rfl,V];decide
    rw [aQ hx',M1 V]
    simp only [bf]
    rw [cD (by simp;omega),eM (by omega) (by omega)]
    simp only [bf]
    have e:((i:Int)+1)=((i+1:Nat):Int):=by omega
    rw [e,ih (i+1) fu _ d (by omega) (by omega) (by simp [ho])]
    simp [V]
 have e3:=aaP n.Aggs 0 fq (n.Keys.map (Rm a)) true rfl (by simp) (xu (BY _) (nZ (by omega))) (by simp;omega)
 rw [Gv,nN]at e3
 have e2:=E2 n.Keys 0 fq [] rfl (by simp) (xu (BY _) (nZ (by omega))) rfl
 rw [mh]at e2
 exact hr.trans (e2.trans (congrArg (fun z=>if n.Keys.any (vy a)=true then some ([],false)else z) e3))
def rk7{n:aa}{a b:List Int}(hop:n.Op=7)(hal:a.length<=16):cF n a b=if a.length=b.length then some (List.zipWith Ib a b,(a.zip b).all Dk)else some ([],false):=by
 unfold cF
 rw [aQ (by simp [hop]),aQ (by simp [hop]),aQ (by simp [hop]),aQ (by simp [hop]),aQ (by simp [hop]),aQ (by simp [hop]),bh (by simp [hop])]
 by_cases hl:a.length=b.length
 ·rw [aQ (by simp;omega),bh hl]
  have kr: ∀(tl tb:List Int) (i:Nat) (out:List Int) (ok:Bool),b.drop i=tb->tl.length=tb.length->out.length+tl.length<=1000->li b tl i out ok=some (out++List.zipWith Ib tl tb,ok&&(tl.zip tb).all Dk):=by
   intro tl
   induction tl with
   |nil=>
    intro tb i out ok hd h _
    have:tb=[]:=sd h.symm
    subst this
    simp [li]
   |cons x tl ih=>
    intro tb i out ok hd h hm
    cases tb with
    |nil=>simp at h
    |cons y tb=>
     simp only [iG,NZ]at h hm
     obtain⟨Y,X,d⟩:=pz hd
     rw [li,Y]
     simp only [bf]
     have step: ∀z:Int,qS b (li b tl) i out ok z=some (out++z::List.zipWith Ib tl tb,ok&&((y==z||y==0)&&(tl.zip tb).all Dk)):=by
      intro z
      unfold qS
      rw [cD (by simp;omega),Y]
      simp only [bf]
      cases ok with
      |true=>
       simp only [jR,bf,nN]
       cases hyz:y==z with
       |true=>
        simp only [sI,oj,lI,bf]
        rw [ih tb (i+1) _ _ d h (by simp;omega)]
        simp
       |false=>
        simp only [AJ,jR,bf]
        rw [ih tb (i+1) _ _ d h (by simp;omega)]
        simp
      |false=>
       simp only [oj,lI,bf,Bool.false_and]
       rw [ih tb (i+1) _ _ d h (by simp;omega)]
       simp
     by_cases V:x=0
     ·subst V
      rw [bh (by simp),step y]
      simp [Dk,Ib]
     ·rw [aQ (by simpa using V),step x]
      have:Ib x y=x:=by unfold Ib;rw [aQ V]
      simp only [List.zipWith_cons_cons,List.zip_cons_cons,AI,Dk,this]
  rw [kr a b 0 [] true rfl hl (by simp;omega),mh,nN]
 ·rw [bh (by simp;omega),aQ hl]
def ZQ{n:aa}{a b:List Int}(hn:je n)(hop:n.Op=8):cF n a b=some (a,((((n.Order.all fun e=>decide (0<=e.Col)&&decide (e.Col<(a.length:Int)))&&(decide ((n.Order.length:Int)<=(3:Int))))&&(decide ((-1:Int)<=n.Limit)))&&(decide (n.Limit<=(2147483647:Int))))):=by
 have h:=hn.order
 have hr:cF n a b=jT n a fq true (0:Int):=by unfold cF;rw [aQ (by simp [hop]),aQ (by simp [hop]),aQ (by simp [hop]),aQ (by simp [hop]),aQ (by simp [hop]),aQ (by simp [hop]),aQ (by simp [hop])]
 have key: ∀(tl:List ku) (i:Nat) (fu:Nat) (ok:Bool),n.Order.drop i=tl->i+tl.length=n.Order.length->tl.length<fu->jT n a fu ok (i:Int)=some (a,((((ok&&tl.all fun e=>decide (0<=e.Col)&&decide (e.Col<(a.length:Int)))&&(decide ((n.Order.length:Int)<=(3:Int))))&&(decide ((-1:Int)<=n.Limit)))&&(decide (n.Limit<=(2147483647:Int))))):=by
  intro tl
  induction tl with
  |nil=>
   intro i fu ok hd hi hf
   obtain⟨fu,rfl⟩: ∃k,fu=k+1:=⟨fu-1,by omega⟩
   simp only [vk,CF]at hi
   rw [jT,aQ (by simp;omega)]
   simp
  |cons x tl ih=>
   intro i fu ok hd hi hf
   simp only [iG]at hf hi
   obtain⟨fu,rfl⟩: ∃k,fu=k+1:=⟨fu-1,by omega⟩
   obtain⟨Y,X,d⟩:=pz hd
   rw [jT,bh (by simp;omega),Y,eM (by omega) (by omega)]
   simp only [bf]
   have e:((i:Int)+1)=((i+1:Nat):Int):=by omega
   rw [e]
   have e2:((if ok=true then some (decide ((0:Int)<=x.Col))else some false).bind fun t=>(if t=true then some (decide (x.Col<(a.length:Int)))else some false).bind fun t1=>jT n a fu t1 ((i+1:Nat):Int))=jT n a fu (ok&&(decide (0<=x.Col)&&decide (x.Col<(a.length:Int)))) ((i+1:Nat):Int):=by
    cases ok<;>by_cases V:(0:Int)<=x.Col<;>simp [V]
   rw [e2,ih (i+1) fu _ d (by omega) (by omega)]
   simp only [AI,vW]
 exact hr.trans ((key n.Order 0 fq true rfl (by simp) (xu (BY _) (nZ (by omega)))).trans (by rw [nN]))
def Ua(ok:Bool)(R:List Int)(o:Bool)(k:List Int):Prop:=(ok&&decide (R.length<=16))=(o&&decide (k.length<=16))/\((ok&&decide (R.length<=16))=true->R=k)
def Ua.of{ok o:Bool}{R k:List Int}(Y:ok=o)(X:ok=true->R=k):Ua ok R o k:=by
 subst Y
 cases ok with
 |false=>exact⟨rfl,fun h=>by cases h⟩
 |true=>have:=X rfl;subst this;exact⟨rfl,fun _=>rfl⟩
def zd(m:al->Option (Bool×al))(l:al):Prop:= ∃ok R o k,m l=some (ok,{l with result:=R})/\cF l.n l.a_ l.b=some (k,o)/\Ua ok R o k
def Eg(e:aO)(kinds:List Int)(h:e.Nodes.length<=5000):kp e kinds=some (Ie e kinds):=by
 unfold kp Ie
 rw [ne e kinds (by omega)]
 simp only [bf,Bool.or_comm]
def Qf{l:al}(h:Lb l)(hop:l.n.Op=1):zd jX l:=by
 unfold zd jX
 rw [kF (f:=pg) (g:=fun k=>(decide (k<(1:Int)))||(decide ((3:Int)<k))) (fun _=>rfl),bf]
 refine⟨_,_,_,_,rfl,WQ h.n hop,.of ?_ fun _=>rfl⟩
 have e3:(!(l.n.Kinds.any fun k=>(decide (k<(1:Int)))||(decide ((3:Int)<k))))=l.n.Kinds.all fun k=>decide (1<=k)&&decide (k<=3):=by
  rw [List.not_any_eq_all_not]
  congr 1
  funext k
  rw [xp]
  simp
 show(((((!(l.n.Kinds.any fun k=>(decide (k<(1:Int)))||(decide ((3:Int)<k))))&&(decide ((0:Int)<=l.n.Table)))&&(decide (l.n.Table<(4:Int))))&&(decide ((0:Int)<(l.n.Kinds.length:Int))))&&(decide ((l.n.Kinds.length:Int)<=(4:Int))))=_
 rw [e3]
 have e1:decide (l.n.Table<(4:Int))=decide (l.n.Table<=(3:Int)):=by rw [BZ];omega
 have e2:decide ((0:Int)<(l.n.Kinds.length:Int))=decide ((1:Int)<=(l.n.Kinds.length:Int)):=by rw [BZ];omega
 rw [e1,e2]
def QF{l:al}(h:Lb l)(hop:l.n.Op=2):zd hU l:=by
 unfold zd hU
 have ha:=h.a
 have H:=h.b
 rw [FN _ _ (by omega) (by omega),bf]
 show∃ok R o k,(kp l.n.Cond (l.a_++l.b)).bind _=_/\_
 rw [Eg _ _ h.n.cond,bf]
 exact⟨_,_,_,_,rfl,ZT hop ha H,.of rfl fun _=>rfl⟩
def Ll{l:al}(h:Lb l)(hop:l.n.Op=3):zd fP l:=by
 unfold zd fP
 show∃ok R o k,(kp l.n.Cond l.a_).bind _=_/\_
 rw [Eg _ _ h.n.cond,bf]
 exact⟨_,_,_,_,rfl,ZS hop,.of rfl fun _=>rfl⟩
def MW{l:al}(hop:l.n.Op=6):zd lD l:=⟨_,_,_,_,rfl,rk6 hop,.of rfl fun _=>rfl⟩
def PT{l:al}(h:Lb l)(hop:l.n.Op=8):zd jW l:=by
 unfold zd jW
 rw [sG (f:=mK {l with result:=l.a_}) (g:=fun o=>(decide (o.Col<(0:Int)))||(decide ((l.a_.length:Int)<=o.Col))) (fun _=>rfl),bf]
 refine⟨_,_,_,_,rfl,ZQ h.n hop,.of ?_ fun _=>rfl⟩
 have e3:(!(l.n.Order.any fun o=>(decide (o.Col<(0:Int)))||(decide ((l.a_.length:Int)<=o.Col))))=l.n.Order.all fun e=>decide (0<=e.Col)&&decide (e.Col<(l.a_.length:Int)):=by
  rw [List.not_any_eq_all_not]
  congr 1
  funext k
  rw [xp]
  simp
 show((((!(l.n.Order.any fun o=>(decide (o.Col<(0:Int)))||(decide ((l.a_.length:Int)<=o.Col))))&&(decide ((l.n.Order.length:Int)<=(3:Int))))&&(decide ((-1:Int)<=l.n.Limit)))&&(decide (l.n.Limit<=(2147483647:Int))))=_
 rw [e3]
def Ol{l:al}: ∀(tl:List aO) (R:List Int),(∀e∈tl,e.Nodes.length<=5000)->R.length+tl.length<=10000-> ∃ok R',eF tl {l with result:=R}=some (ok,{l with result:=R' })/\ok=((tl.all fun e=>(gp e l.a_).2==0)&&decide (0<R.length+tl.length))/\(ok=true->R' =R++tl.map fun e=>(gp e l.a_).1)
 |[],R,_,_=>⟨_,R,rfl,by simp,fun _=>by simp⟩
 |e::tl,R,he,hl=>by
  simp only [iG]at hl
  unfold eF
  show∃ok R',(nH e l.a_).bind _=_/\_
  rw [ne _ _ (by have:=he e (nM ..);omega),bf]
  by_cases h0:(gp e l.a_).2=0
  ·rw [aQ (by simp [h0])]
   show∃ok R',(app R [(gp e l.a_).1]).bind _=_/\_
   rw [cD (by simp;omega),bf]
   obtain⟨ok,R',Y,X,d⟩:=Ol (l:=l) tl (R++[(gp e l.a_).1]) (fun x V=>he x (pK _ V)) (by simp;omega)
   refine⟨ok,R',Y,?_,fun ho=>by rw [d ho];simp⟩
   rw [X]
   have e1:decide (0<(R++[(gp e l.a_).1]).length+tl.length)=true:=by simp;omega
   have e2:decide (0<R.length+(e::tl).length)=true:=by simp;omega
   rw [e1,e2]
   simp [h0]
  ·rw [bh (by simpa using h0)]
   exact⟨false,R,rfl,by simp [h0],fun h=>by cases h⟩
def Iz{l:al}(h:Lb l)(hop:l.n.Op=5):zd iL l:=by
 have hi:=h.n.items
 obtain⟨ok,R,Y,X,d⟩:=Ol (l:=l) l.n.Items [] h.n.exprs (by simp;omega)
 refine⟨ok,R,_,_,Y,X4 h.n hop,?_⟩
 cases ok with
 |false=>
  refine⟨?_,fun h=>by cases h⟩
  rw [Bool.false_and]
  cases hall:l.n.Items.all fun e=>(gp e l.a_).2==0 with
  |false=>simp
  |true=>
   rw [hall,nN]at X
   have:l.n.Items.length=0:=by simpa using X.symm
   simp [this]
 |true=>
  have hR:=d rfl
  rw [mh]at hR
  refine⟨?_,fun _=>hR⟩
  rw [hR]
  have h2' :=X.symm
  rw [ly,ig]at h2'
  have e1:decide ((1:Int)<=(l.n.Items.length:Int))=true:=by have:=h2'.2;simp at this ⊢;omega
  rw [h2'.1,e1,nN,nN,nN]
  rw [Gv,xp]
  simp
  omega
def BN(g:eY)(a:List Int):Int×Bool:=
 if g.Tag=1 then(2,(g.Arg.Nodes.length:Int)==0)else
 if g.Tag=3 then(2,((((gp g.Arg a).2==0)&&decide (1<g.Tag))&&decide (g.Tag<=5))&&((gp g.Arg a).1==2||(gp g.Arg a).1==0))else
 if g.Tag=4\/g.Tag=5 then((gp g.Arg a).1,(((gp g.Arg a).2==0)&&decide (1<g.Tag))&&decide (g.Tag<=5))else(2,(((gp g.Arg a).2==0)&&decide (1<g.Tag))&&decide (g.Tag<=5))
def BM(a:eY)(kinds:List Int):(BN a kinds).2=(NI a kinds).2/\((BN a kinds).2=true->(BN a kinds).1=(NI a kinds).1):=by
 unfold NI nl BN
 rw [rR]
 simp only [bf]
 by_cases Y:a.Tag=1
 ·simp [Y]
 by_cases X:a.Tag=2
 ·by_cases he:(gp a.Arg kinds).2=0<;>simp [X,he]
 by_cases d:a.Tag=3
 ·by_cases he:(gp a.Arg kinds).2=0
  ·by_cases h0:(gp a.Arg kinds).1=0
   ·simp [d,he,h0]
   ·by_cases h02:(gp a.Arg kinds).1=2<;>simp [d,he,h0,h02]
  ·simp [d,he]
 by_cases h4:a.Tag=4
 ·by_cases he:(gp a.Arg kinds).2=0<;>simp [h4,he]
 by_cases h5:a.Tag=5
 ·by_cases he:(gp a.Arg kinds).2=0<;>simp [h5,he]
 have:a.Tag<1\/5<a.Tag:=by omega
 have h7: ¬(1<a.Tag/\a.Tag<=5):=by omega
 have h8:(decide (1<a.Tag)&&decide (a.Tag<=5))=false:=by rw [D4];simpa using h7
 simp [Y,d,h4,h5,this,vW,h8]
def M2{l:al}: ∀(gs:List eY) (ok:Bool) (R:List Int),(∀g∈gs,g.Arg.Nodes.length<=5000)->R.length+gs.length<=20000->cA gs ok {l with result:=R}=some (ok&&gs.all fun g=>(BN g l.a_).2,{l with result:=R++gs.map fun g=>(BN g l.a_).1})
 |[],ok,R,_,_=>by unfold cA;simp
 |g::tl,ok,R,K,hR=>by
  simp only [iG]at hR
  have key: ∀(ok2:Bool) (k:Int),(ok2=(ok&&(BN g l.a_).2))->k=(BN g l.a_).1->eO (cA tl) {l with result:=R} ok2 k=some (ok&&(g::tl).all fun g=>(BN g l.a_).2,{l with result:=R++(g::tl).map fun g=>(BN g l.a_).1}):=by
   intro ok2 k e1 e2
   rw [C0 _ _ _ _ _ (by omega),M2 tl ok2 (R++[k]) (fun x V=>K x (pK _ V)) (by simp;omega),e1,e2]
   simp [vW]
  unfold cA
  by_cases Y:g.Tag=1
  ·rw [bh (by simp [Y])]
   exact key _ _ (by simp [BN,Y]) (by simp [BN,Y])
  rw [aQ (by simpa using Y)]
  show(nH g.Arg l.a_).bind _=_
  rw [ne g.Arg l.a_ (by have:=K g (nM ..);omega),bf]
  by_cases d:g.Tag=3
  ·rw [bh (by simp [d])]
   exact key _ _ (by simp [BN,d,vW]) (by simp [BN,d])
  rw [aQ (by simpa using d)]
  unfold ii
  by_cases h4:g.Tag=4
  ·rw [bh (by simp [h4]),bh (by simp [h4])]
   exact key _ _ (by simp [BN,h4,vW]) (by simp [BN,h4])
  rw [aQ (by simpa using h4)]
  by_cases h5:g.Tag=5
  ·rw [bh (by simp [h5])]
   exact key _ _ (by simp [BN,h5,vW]) (by simp [BN,h5])
  rw [aQ (by simpa using h5)]
  exact key _ _ (by simp [BN,Y,d,h4,h5,vW]) (by simp [BN,Y,d,h4,h5])
def Tc{l:al}(h:Lb l): ∀(ks:List Int) (R:List Int),R.length+ks.length<=5000-> ∃ok R',dB l ks {l with result:=R}=some (ok,{l with result:=R' })/\ok=(!(ks.any (vy l.a_))&&((((decide ((l.n.Keys.length:Int)<=(3:Int)))&&(decide ((l.n.Aggs.length:Int)<=(12:Int))))&&(decide ((0:Int)<(IntKind.i64.wrap ((l.n.Keys.length:Int)+(l.n.Aggs.length:Int))))))&&l.n.Aggs.all fun g=>(BN g l.a_).2))/\(ks.any (vy l.a_)=false->R' =R++ks.map (Rm l.a_)++l.n.Aggs.map fun g=>(BN g l.a_).1)
 |[],R,hR=>by
  unfold dB
  rw [M2 l.n.Aggs _ R h.n.args (by have:=h.n.aggs;simp at hR;omega)]
  exact⟨_,_,rfl,by simp,fun _=>by simp⟩
 |k::tl,R,hR=>by
  simp only [iG]at hR
  unfold dB
  show∃ok R',(if vy l.a_ k=true then _ else _)=_/\_
  cases hk:vy l.a_ k with
  |true=>rw [bh rfl];exact⟨false,R,rfl,by simp [hk],fun h=>by simp [hk]at h⟩
  |false=>
   rw [aQ (by simp)]
   show∃ok R',(gV l.a_ k).bind _=_/\_
   rw [M1 hk,bf]
   show∃ok R',(app R [Rm l.a_ k]).bind _=_/\_
   rw [cD (by simp;omega),bf]
   obtain⟨ok,R',Y,X,d⟩:=Tc h tl (R++[Rm l.a_ k]) (by simp;omega)
   exact⟨ok,R',Y,by rw [X];simp [hk],fun hn=>by
    simp [hk]at hn
    rw [d (by simpa using hn)]
    simp⟩
def Ab{l:al}(h:Lb l){n:aa}(hop:n.Op=4)(hn:je n)(hK:n.Keys=l.n.Keys)(hG:n.Aggs=l.n.Aggs)(b:List Int): ∃ok R o k,eC l=some (ok,{l with result:=R})/\cF n l.a_ b=some (k,o)/\ok=o/\(ok=true->R=k/\R.length=l.n.Keys.length+l.n.Aggs.length):=by
 unfold eC
 obtain⟨ok,R,Y,X,d⟩:=Tc h l.n.Keys [] (by have:=h.n.keys;simpa using this)
 have hr:=ZR (a:=l.a_) (b:=b) hn hop
 rw [hK,hG]at hr
 cases hany:l.n.Keys.any (vy l.a_)with
 |true=>
  rw [hany,bh rfl]at hr
  exact⟨ok,R,_,_,Y,hr,by rw [X,hany];rfl,fun ho=>by rw [X,hany]at ho;cases ho⟩
 |false=>
  rw [hany,aQ (by simp)]at hr
  have hkl:=h.n.keys
  have hgl:=h.n.aggs
  have e1:IntKind.i64.wrap ((l.n.Keys.length:Int)+(l.n.Aggs.length:Int))=((l.n.Keys.length+l.n.Aggs.length:Nat):Int):=by rw [eM (by omega) (by omega)];omega
  have hall:(l.n.Aggs.all fun g=>(BN g l.a_).2)=l.n.Aggs.all fun e=>(NI e l.a_).2:=by
   congr 1;funext e;exact(BM e l.a_).1
  refine⟨ok,R,_,_,Y,hr,?_,fun ho=>?_⟩
  ·rw [X,hany,hall,e1]
   simp only [AJ,nN]
   cases (l.n.Aggs.all fun e=>(NI e l.a_).2)<;>simp
  ·have hR:=d hany
   rw [mh]at hR
   rw [X,ly,ly]at ho
   have hm:l.n.Aggs.map (fun g=>(BN g l.a_).1)=l.n.Aggs.map fun e=>(NI e l.a_).1:=Gy fun e he=>(BM e l.a_).2 (kU.1 ho.2.2 e he)
   exact⟨by rw [hR,hm],by rw [hR];simp⟩
def M3{l:al}(h:Lb l)(hop:l.n.Op=4):zd eC l:=by
 obtain⟨ok,R,o,k,Y,X,d,h4⟩:=Ab h hop h.n rfl rfl l.b
 exact⟨ok,R,o,k,Y,X,.of d fun ho=>(h4 ho).1⟩
def RI{l:al}: ∀(tl tb:List Int) (i:Nat) (R:List Int),l.b.drop i=tb->tl.length=tb.length->R.length+tl.length<=1000-> ∃ok R',dA tl i {l with result:=R}=some (ok,{l with result:=R' })/\ok=(tl.zip tb).all Dk/\(ok=true->R' =R++List.zipWith Ib tl tb)
 |[],tb,i,R,hd,hl,_=>by
  have:tb=[]:=sd hl.symm
  subst this
  exact⟨true,R,rfl,rfl,fun _=>by simp⟩
 |x::tl,[],i,R,hd,hl,_=>by simp at hl
 |x::tl,y::tb,i,R,hd,hl,hm=>by
  simp only [iG,NZ]at hl hm
  obtain⟨Y,X,d⟩:=pz hd
  unfold dA
  show∃ok R',(gV l.b (i:Int)).bind _=_/\_
  rw [Y,bf]
  have key:fF (dA tl) i {l with result:=R} y (Ib x y)=(if Dk (x,y)then dA tl (i+1) {l with result:=R++[Ib x y]}else some (false,{l with result:=R})):=by
   unfold fF
   have e:((y !=(0:Int))&&(y !=Ib x y))= !(Dk (x,y)):=by
    unfold Dk
    simp only [bne,Bool.not_or]
    rw [Bool.and_comm]
   rw [e]
   cases Dk (x,y)with
   |true=>
    rw [aQ (by simp),bh rfl]
    show(app R [Ib x y]).bind _=_
    rw [cD (by simp;omega)]
    rfl
   |false=>rw [bh (by simp),aQ (by simp)]
  have E2: ∃ok R',fF (dA tl) i {l with result:=R} y (Ib x y)=some (ok,{l with result:=R' })/\ok=((x::tl).zip (y::tb)).all Dk/\(ok=true->R' =R++List.zipWith Ib (x::tl) (y::tb)):=by
   rw [key]
   cases hu:Dk (x,y)with
   |false=>rw [aQ (by simp)];exact⟨false,R,rfl,by simp [hu],fun h=>by cases h⟩
   |true=>
    rw [bh rfl]
    obtain⟨ok,R',g1,g2,g3⟩:=RI (l:=l) tl tb (i+1) (R++[Ib x y]) d hl (by simp;omega)
    exact⟨ok,R',g1,by rw [g2];simp [hu],fun ho=>by rw [g3 ho];simp⟩
  by_cases V:x=0
  ·rw [bh (by simp [V])]
   have:Ib x y=y:=bh V
   rw [this]at E2
   exact E2
  ·rw [aQ (by simpa using V)]
   have:Ib x y=x:=aQ V
   rw [this]at E2
   exact E2
def Md{l:al}(h:Lb l)(hop:l.n.Op=7):zd jb l:=by
 have ha:=h.a
 unfold zd jb
 rw [rk7 hop ha]
 by_cases hl:l.a_.length=l.b.length
 ·rw [aQ (by simp [hl]),bh hl]
  obtain⟨ok,R,Y,X,d⟩:=RI (l:=l) l.a_ l.b 0 [] rfl hl (by simp;omega)
  exact⟨ok,R,_,_,Y,rfl,.of X fun ho=>by rw [d ho,mh]⟩
 ·rw [bh (by simp;omega),aQ hl]
  exact⟨false,l.result,_,_,by cases l;rfl,rfl,.of rfl fun h=>by cases h⟩
def SV{l:al}(h:Lb l)(hop:F9 l.n.Op=true):zd (fun l=>oe l.n.Op l ()) l:=by
 have imp: ∀{m:al->Option (Bool×al)},zd m l->oe l.n.Op l ()=m l->zd (fun l=>oe l.n.Op l ()) l:=fun⟨ok,R,o,k,Y,X,d⟩ he=>⟨ok,R,o,k,he.trans Y,X,d⟩
 rcases nA hop with Y|Y|Y|Y|Y|Y|Y|Y
 ·exact imp (Qf h Y) (by rw [Y];rfl)
 ·exact imp (QF h Y) (by rw [Y];rfl)
 ·exact imp (Ll h Y) (by rw [Y];rfl)
 ·exact imp (M3 h Y) (by rw [Y];rfl)
 ·exact imp (Iz h Y) (by rw [Y];rfl)
 ·exact imp (MW Y) (by rw [Y];rfl)
 ·exact imp (Md h Y) (by rw [Y];rfl)
 ·exact imp (PT h Y) (by rw [Y];rfl)
end Go.Proofs.YtdohlidddcgfjaaGreat


