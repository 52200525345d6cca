/- bT of this claim: Y11. -/
import Derived.Test.YtdohlidddcgfjaaGreatFdY5
import Derived.Test.YtdohlidddcgfjaaGreatFdQ4
set_option linter.all false
namespace Go.Proofs.YtdohlidddcgfjaaGreat
open Go

def V4{n:aa}{a b:List Int}(hn:i0 n)(hop:n.Op=1):cC n a b=some (n.Kinds,(((((n.Kinds.all fun k=>decide (1<=k)&&decide (k<=3)))&&(decide ((0:Int)<=n.Table)))&&(decide (n.Table<=(3:Int))))&&(decide ((1:Int)<=(n.Kinds.length:Int))))&&(decide ((n.Kinds.length:Int)<=(4:Int)))):=by
 have h:=hn.kinds
 have key: ∀(tl:List Int) (i:Nat) (fu:Nat) (ok:Bool),n.Kinds.drop i=tl->tl.length<fu->jO n fu ok (i:Int)=some (n.Kinds,((((ok&&tl.all fun k=>decide (1<=k)&&decide (k<=3))&&(decide ((0:Int)<=n.Table)))&&(decide (n.Table<=(3:Int))))&&(decide ((1:Int)<=(n.Kinds.length:Int))))&&(decide ((n.Kinds.length:Int)<=(4:Int)))):=by
  intro tl
  induction tl with
  |nil=>
   intro i fu ok hd hf
   obtain⟨fu,rfl⟩: ∃k,fu=k+1:=⟨fu-1,by omega⟩
   have:=E3 hd
   rw [jO,aR (by simp;omega)]
   simp
  |cons x tl ih=>
   intro i fu ok hd hf
   simp only [iB]at hf
   obtain⟨fu,rfl⟩: ∃k,fu=k+1:=⟨fu-1,by omega⟩
   obtain⟨Y,X,d⟩:=pe hd
   rw [jO,bh (by simp;omega),Y,eP (by omega) (by omega)]
   simp only [bg]
   have e:((i:Int)+1)=((i+1:Nat):Int):=by omega
   rw [e]
   have e2:((if ok=true then some (decide ((1:Int)<=x))else some false).bind fun t=>(if t=true then some (decide (x<=(3:Int)))else some false).bind fun t1=>jO n fu t1 ((i+1:Nat):Int))=jO n fu (ok&&(decide (1<=x)&&decide (x<=3))) ((i+1:Nat):Int):=by
    cases ok<;>by_cases V:(1:Int)<=x<;>simp [V]
   rw [e2,ih (i+1) fu _ d (by omega)]
   simp only [Aq,vG]
 have hr:cC n a b=jO n fh true (0:Int):=by unfold cC;rw [bh (by simp [hop])]
 exact hr.trans ((key n.Kinds 0 fh true rfl (xc (BD _) (nM (by omega)))).trans (by rw [nC]))
def YX{n:aa}{a b:List Int}(hop:n.Op=2)(hal:a.length<=16)(hbl:b.length<=16):cC n a b=some (a++b,HG n.Cond (a++b)):=by
 unfold cC
 rw [aR (by simp [hop]),bh (by simp [hop]),cK (by simp;omega)]
 simp only [bg,m7]
 rw [cK (by omega)]
 simp only [bg]
 rw [xr]
 rfl
def YW{n:aa}{a b:List Int}(hop:n.Op=3):cC n a b=some (a,HG n.Cond a):=by
 unfold cC
 rw [aR (by simp [hop]),aR (by simp [hop]),bh (by simp [hop]),xr]
 rfl
def ZM{n:aa}{a b:List Int}(hop:n.Op=6):cC n a b=some (a,true):=by
 unfold cC
 rw [aR (by simp [hop]),aR (by simp [hop]),aR (by simp [hop]),aR (by simp [hop]),aR (by simp [hop]),bh (by simp [hop])]
def Xh{n:aa}{a b:List Int}(hn:i0 n)(hop:n.Op=5):cC n a b=some (n.Items.map (fun e=>(gh e a).1),((n.Items.all fun e=>(gh e a).2==0)&&(decide ((1:Int)<=(n.Items.length:Int))))&&(decide ((n.Items.length:Int)<=(16:Int)))):=by
 have h:=hn.items
 have hr:cC n a b=mA n a fh [] true (0:Int):=by unfold cC;rw [aR (by simp [hop]),aR (by simp [hop]),aR (by simp [hop]),aR (by simp [hop]),bh (by simp [hop])]
 have key: ∀(tl:List aP) (i:Nat) (fu:Nat) (out:List Int) (ok:Bool),n.Items.drop i=tl->i+tl.length=n.Items.length->tl.length<fu->out.length=i->mA n a fu out ok (i:Int)=some (out++tl.map (fun e=>(gh e a).1),((ok&&tl.all fun e=>(gh e a).2==0)&&(decide ((1:Int)<=(n.Items.length:Int))))&&(decide ((n.Items.length:Int)<=(16:Int)))):=by
  intro tl
  induction tl with
  |nil=>
   intro i fu out ok hd hi hf ho
   obtain⟨fu,rfl⟩: ∃k,fu=k+1:=⟨fu-1,by omega⟩
   simp only [uY,Cn]at hi
   rw [mA,aR (by simp;omega)]
   simp [ho,hi]
  |cons x tl ih=>
   intro i fu out ok hd hi hf ho
   simp only [iB]at hf hi
   obtain⟨fu,rfl⟩: ∃k,fu=k+1:=⟨fu-1,by omega⟩
   obtain⟨Y,X,d⟩:=pe hd
   rw [mA,bh (by simp;omega),Y]
   simp only [bg]
   rw [rC]
   simp only [bg]
   rw [cK (by simp;omega),eP (by omega) (by omega)]
   simp only [bg]
   have e:((i:Int)+1)=((i+1:Nat):Int):=by omega
   rw [e,ih (i+1) fu _ _ d (by omega) (by omega) (by simp [ho])]
   simp [vG]
 exact hr.trans ((key n.Items 0 fh [] true rfl (by simp) (xc (BD _) (nM (by omega))) rfl).trans (by rw [m7,nC]))
def YV{n:aa}{a b:List Int}(hn:i0 n)(hop:n.Op=4):cC n a b=if n.Keys.any (vj a)then some ([],false)else some (n.Keys.map (QK a)++n.Aggs.map (fun e=>(M8 e a).1),((((n.Aggs.all fun e=>(M8 e a).2)&&(decide ((n.Keys.length:Int)<=(3:Int))))&&(decide ((n.Aggs.length:Int)<=(12:Int))))&&(decide ((0:Int)<((n.Keys.length+n.Aggs.length:Nat):Int))))):=by
 have hK:=hn.keys
 have hA:=hn.aggs
 have hr:cC n a b=mC n a fh [] (0:Int):=by unfold cC;rw [aR (by simp [hop]),aR (by simp [hop]),aR (by simp [hop]),bh (by simp [hop])]
 have ZZ: ∀(tl:List eS) (i:Nat) (fu:Nat) (out:List Int) (ok:Bool),n.Aggs.drop i=tl->i+tl.length=n.Aggs.length->tl.length<fu->out.length<=5000+i->mB n a fu out ok (i:Int)=some (out++tl.map (fun e=>(M8 e a).1),(((ok&&tl.all fun e=>(M8 e a).2)&&(decide ((n.Keys.length:Int)<=(3:Int))))&&(decide ((n.Aggs.length:Int)<=(12:Int))))&&(decide ((0:Int)<((out.length+tl.length:Nat):Int)))):=by
  intro tl
  induction tl with
  |nil=>
   intro i fu out ok hd hi hf ho
   obtain⟨fu,rfl⟩: ∃k,fu=k+1:=⟨fu-1,by omega⟩
   simp only [uY,Cn]at hi
   rw [mB,aR (by simp;omega)]
   simp
  |cons x tl ih=>
   intro i fu out ok hd hi hf ho
   simp only [iB]at hf hi
   obtain⟨fu,rfl⟩: ∃k,fu=k+1:=⟨fu-1,by omega⟩
   obtain⟨Y,X,d⟩:=pe hd
   rw [mB,bh (by simp;omega),Y]
   simp only [bg]
   rw [zG]
   simp only [bg]
   rw [cK (by simp;omega),eP (by omega) (by omega)]
   simp only [bg]
   have e:((i:Int)+1)=((i+1:Nat):Int):=by omega
   rw [e,ih (i+1) fu _ _ d (by omega) (by omega) (by simp;omega)]
   simp only [DE,Aq,vG,pD,kw,iB,uY,Fw,m7]
   rw [show out.length+(0+1)+tl.length=out.length+(tl.length+1)from by omega]
 have EH: ∀(tl:List Int) (i:Nat) (fu:Nat) (out:List Int),n.Keys.drop i=tl->i+tl.length=n.Keys.length->tl.length<fu->out.length=i->mC n a fu out (i:Int)=if tl.any (vj a)then some ([],false)else mB n a fh (out++tl.map (QK a)) true 0:=by
  intro tl
  induction tl with
  |nil=>
   intro i fu out hd hi hf ho
   obtain⟨fu,rfl⟩: ∃k,fu=k+1:=⟨fu-1,by omega⟩
   simp only [uY,Cn]at hi
   rw [mC,aR (by simp;omega)]
   simp
  |cons x tl ih=>
   intro i fu out hd hi hf ho
   simp only [iB]at hf hi
   obtain⟨fu,rfl⟩: ∃k,fu=k+1:=⟨fu-1,by omega⟩
   obtain⟨Y,X,d⟩:=pe hd
   rw [mC,bh (by simp;omega),Y]
   simp only [bg]
   cases V:vj a x with
   |true=>
    have hx' :(decide (x<0)||decide ((a.length:Int)<=x))=true:=V
    rw [bh hx',bh (by simp [V])]
   |false=>
    have hx' : ¬(decide (x<0)||decide ((a.length:Int)<=x))=true:=by rw [show(decide (x<0)||decide ((a.length:Int)<=x))=vj a x from rfl,V];decide
    rw [aR hx',Mu V]
    simp only [bg]
    rw [cK (by simp;omega),eP (by omega) (by omega)]
    simp only [bg]
    have e:((i:Int)+1)=((i+1:Nat):Int):=by omega
    rw [e,ih (i+1) fu _ d (by omega) (by omega) (by simp [ho])]
    simp [V]
 have e3:=ZZ n.Aggs 0 fh (n.Keys.map (QK a)) true rfl (by simp) (xc (BD _) (nM (by omega))) (by simp;omega)
 rw [F5,nC]at e3
 have e2:=EH n.Keys 0 fh [] rfl (by simp) (xc (BD _) (nM (by omega))) rfl
 rw [m7]at e2
 exact hr.trans (e2.trans (congrArg (fun z=>if n.Keys.any (vj a)=true then some ([],false)else z) e3))
def ZL{n:aa}{a b:List Int}(hop:n.Op=7)(hal:a.length<=16):cC n a b=if a.length=b.length then some (List.zipWith HD a b,(a.zip b).all C2)else some ([],false):=by
 unfold cC
 rw [aR (by simp [hop]),aR (by simp [hop]),aR (by simp [hop]),aR (by simp [hop]),aR (by simp [hop]),aR (by simp [hop]),bh (by simp [hop])]
 by_cases hl:a.length=b.length
 ·rw [aR (by simp;omega),bh hl]
  have kr: ∀(tl tb:List Int) (i:Nat) (out:List Int) (ok:Bool),b.drop i=tb->tl.length=tb.length->out.length+tl.length<=1000->la b tl i out ok=some (out++List.zipWith HD tl tb,ok&&(tl.zip tb).all C2):=by
   intro tl
   induction tl with
   |nil=>
    intro tb i out ok hd h _
    have:tb=[]:=rN h.symm
    subst this
    simp [la]
   |cons x tl ih=>
    intro tb i out ok hd h hm
    cases tb with
    |nil=>simp at h
    |cons y tb=>
     simp only [iB,Nq]at h hm
     obtain⟨Y,X,d⟩:=pe hd
     rw [la,Y]
     simp only [bg]
     have step: ∀z:Int,qD b (la b tl) i out ok z=some (out++z::List.zipWith HD tl tb,ok&&((y==z||y==0)&&(tl.zip tb).all C2)):=by
      intro z
      unfold qD
      rw [cK (by simp;omega),Y]
      simp only [bg]
      cases ok with
      |true=>
       simp only [jL,bg,nC]
       cases hyz:y==z with
       |true=>
        simp only [sm,nV,lD,bg]
        rw [ih tb (i+1) _ _ d h (by simp;omega)]
        simp
       |false=>
        simp only [Ar,jL,bg]
        rw [ih tb (i+1) _ _ d h (by simp;omega)]
        simp
      |false=>
       simp only [nV,lD,bg,Bool.false_and]
       rw [ih tb (i+1) _ _ d h (by simp;omega)]
       simp
     by_cases V:x=0
     ·subst V
      rw [bh (by simp),step y]
      simp [C2,HD]
     ·rw [aR (by simpa using V),step x]
      have:HD x y=x:=by unfold HD;rw [aR V]
      simp only [List.zipWith_cons_cons,List.zip_cons_cons,Aq,C2,this]
  rw [kr a b 0 [] true rfl hl (by simp;omega),m7,nC]
 ·rw [bh (by simp;omega),aR hl]
def YU{n:aa}{a b:List Int}(hn:i0 n)(hop:n.Op=8):cC n a b=some (a,((((n.Order.all fun e=>decide (0<=e.Col)&&decide (e.Col<(a.length:Int)))&&(decide ((n.Order.length:Int)<=(3:Int))))&&(decide ((-1:Int)<=n.Limit)))&&(decide (n.Limit<=(2147483647:Int))))):=by
 have h:=hn.order
 have hr:cC n a b=jN n a fh true (0:Int):=by unfold cC;rw [aR (by simp [hop]),aR (by simp [hop]),aR (by simp [hop]),aR (by simp [hop]),aR (by simp [hop]),aR (by simp [hop]),aR (by simp [hop])]
 have key: ∀(tl:List kg) (i:Nat) (fu:Nat) (ok:Bool),n.Order.drop i=tl->i+tl.length=n.Order.length->tl.length<fu->jN n a fu ok (i:Int)=some (a,((((ok&&tl.all fun e=>decide (0<=e.Col)&&decide (e.Col<(a.length:Int)))&&(decide ((n.Order.length:Int)<=(3:Int))))&&(decide ((-1:Int)<=n.Limit)))&&(decide (n.Limit<=(2147483647:Int))))):=by
  intro tl
  induction tl with
  |nil=>
   intro i fu ok hd hi hf
   obtain⟨fu,rfl⟩: ∃k,fu=k+1:=⟨fu-1,by omega⟩
   simp only [uY,Cn]at hi
   rw [jN,aR (by simp;omega)]
   simp
  |cons x tl ih=>
   intro i fu ok hd hi hf
   simp only [iB]at hf hi
   obtain⟨fu,rfl⟩: ∃k,fu=k+1:=⟨fu-1,by omega⟩
   obtain⟨Y,X,d⟩:=pe hd
   rw [jN,bh (by simp;omega),Y,eP (by omega) (by omega)]
   simp only [bg]
   have e:((i:Int)+1)=((i+1:Nat):Int):=by omega
   rw [e]
   have e2:((if ok=true then some (decide ((0:Int)<=x.Col))else some false).bind fun t=>(if t=true then some (decide (x.Col<(a.length:Int)))else some false).bind fun t1=>jN n a fu t1 ((i+1:Nat):Int))=jN n a fu (ok&&(decide (0<=x.Col)&&decide (x.Col<(a.length:Int)))) ((i+1:Nat):Int):=by
    cases ok<;>by_cases V:(0:Int)<=x.Col<;>simp [V]
   rw [e2,ih (i+1) fu _ d (by omega) (by omega)]
   simp only [Aq,vG]
 exact hr.trans ((key n.Order 0 fh true rfl (by simp) (xc (BD _) (nM (by omega)))).trans (by rw [nC]))
def Tm(ok:Bool)(R:List Int)(o:Bool)(k:List Int):Prop:=(ok&&decide (R.length<=16))=(o&&decide (k.length<=16))/\((ok&&decide (R.length<=16))=true->R=k)
def Tm.of{ok o:Bool}{R k:List Int}(Y:ok=o)(X:ok=true->R=k):Tm ok R o k:=by
 subst Y
 cases ok with
 |false=>exact⟨rfl,fun h=>by cases h⟩
 |true=>have:=X rfl;subst this;exact⟨rfl,fun _=>rfl⟩
def yX(m:al->Option (Bool×al))(l:al):Prop:= ∃ok R o k,m l=some (ok,{l with result:=R})/\cC l.n l.a_ l.b=some (k,o)/\Tm ok R o k
def DV(e:aP)(kinds:List Int)(h:e.Nodes.length<=5000):kf e kinds=some (HG e kinds):=by
 unfold kf HG
 rw [m4 e kinds (by omega)]
 simp only [bg,Bool.or_comm]
def Pv{l:al}(h:Lb l)(hop:l.n.Op=1):yX jR l:=by
 unfold yX jR
 rw [ku (f:=oU) (g:=fun k=>(decide (k<(1:Int)))||(decide ((3:Int)<k))) (fun _=>rfl),bg]
 refine⟨_,_,_,_,rfl,V4 h.n hop,.of ?_ fun _=>rfl⟩
 have e3:(!(l.n.Kinds.any fun k=>(decide (k<(1:Int)))||(decide ((3:Int)<k))))=l.n.Kinds.all fun k=>decide (1<=k)&&decide (k<=3):=by
  rw [List.not_any_eq_all_not]
  congr 1
  funext k
  rw [w9]
  simp
 show(((((!(l.n.Kinds.any fun k=>(decide (k<(1:Int)))||(decide ((3:Int)<k))))&&(decide ((0:Int)<=l.n.Table)))&&(decide (l.n.Table<(4:Int))))&&(decide ((0:Int)<(l.n.Kinds.length:Int))))&&(decide ((l.n.Kinds.length:Int)<=(4:Int))))=_
 rw [e3]
 have e1:decide (l.n.Table<(4:Int))=decide (l.n.Table<=(3:Int)):=by rw [Af];omega
 have e2:decide ((0:Int)<(l.n.Kinds.length:Int))=decide ((1:Int)<=(l.n.Kinds.length:Int)):=by rw [Af];omega
 rw [e1,e2]
def PV{l:al}(h:Lb l)(hop:l.n.Op=2):yX gZ l:=by
 unfold yX gZ
 have ha:=h.a
 have K:=h.b
 rw [Fs _ _ (by omega) (by omega),bg]
 show∃ok R o k,(kf l.n.Cond (l.a_++l.b)).bind _=_/\_
 rw [DV _ _ h.n.cond,bg]
 exact⟨_,_,_,_,rfl,YX hop ha K,.of rfl fun _=>rfl⟩
def KF{l:al}(h:Lb l)(hop:l.n.Op=3):yX fK l:=by
 unfold yX fK
 show∃ok R o k,(kf l.n.Cond l.a_).bind _=_/\_
 rw [DV _ _ h.n.cond,bg]
 exact⟨_,_,_,_,rfl,YW hop,.of rfl fun _=>rfl⟩
def Mp{l:al}(hop:l.n.Op=6):yX ly l:=⟨_,_,_,_,rfl,ZM hop,.of rfl fun _=>rfl⟩
def Pi{l:al}(h:Lb l)(hop:l.n.Op=8):yX jQ l:=by
 unfold yX jQ
 rw [sk (f:=mE {l with result:=l.a_}) (g:=fun o=>(decide (o.Col<(0:Int)))||(decide ((l.a_.length:Int)<=o.Col))) (fun _=>rfl),bg]
 refine⟨_,_,_,_,rfl,YU h.n hop,.of ?_ fun _=>rfl⟩
 have e3:(!(l.n.Order.any fun o=>(decide (o.Col<(0:Int)))||(decide ((l.a_.length:Int)<=o.Col))))=l.n.Order.all fun e=>decide (0<=e.Col)&&decide (e.Col<(l.a_.length:Int)):=by
  rw [List.not_any_eq_all_not]
  congr 1
  funext k
  rw [w9]
  simp
 show((((!(l.n.Order.any fun o=>(decide (o.Col<(0:Int)))||(decide ((l.a_.length:Int)<=o.Col))))&&(decide ((l.n.Order.length:Int)<=(3:Int))))&&(decide ((-1:Int)<=l.n.Limit)))&&(decide (l.n.Limit<=(2147483647:Int))))=_
 rw [e3]
def NN{l:al}: ∀(tl:List aP) (R:List Int),(∀e∈tl,e.Nodes.length<=5000)->R.length+tl.length<=10000-> ∃ok R',ew tl {l with result:=R}=some (ok,{l with result:=R' })/\ok=((tl.all fun e=>(gh e l.a_).2==0)&&decide (0<R.length+tl.length))/\(ok=true->R' =R++tl.map fun e=>(gh e l.a_).1)
 |[],R,_,_=>⟨_,R,rfl,by simp,fun _=>by simp⟩
 |e::tl,R,he,hl=>by
  simp only [iB]at hl
  unfold ew
  show∃ok R',(nv e l.a_).bind _=_/\_
  rw [m4 _ _ (by have:=he e (nA ..);omega),bg]
  by_cases h0:(gh e l.a_).2=0
  ·rw [aR (by simp [h0])]
   show∃ok R',(app R [(gh e l.a_).1]).bind _=_/\_
   rw [cK (by simp;omega),bg]
   obtain⟨ok,R',Y,X,d⟩:=NN (l:=l) tl (R++[(gh e l.a_).1]) (fun x V=>he x (pp _ V)) (by simp;omega)
   refine⟨ok,R',Y,?_,fun ho=>by rw [d ho];simp⟩
   rw [X]
   have e1:decide (0<(R++[(gh e l.a_).1]).length+tl.length)=true:=by simp;omega
   have e2:decide (0<R.length+(e::tl).length)=true:=by simp;omega
   rw [e1,e2]
   simp [h0]
  ·rw [bh (by simpa using h0)]
   exact⟨false,R,rfl,by simp [h0],fun h=>by cases h⟩
def Ib{l:al}(h:Lb l)(hop:l.n.Op=5):yX iG l:=by
 have hi:=h.n.items
 obtain⟨ok,R,Y,X,d⟩:=NN (l:=l) l.n.Items [] h.n.exprs (by simp;omega)
 refine⟨ok,R,_,_,Y,Xh h.n hop,?_⟩
 cases ok with
 |false=>
  refine⟨?_,fun h=>by cases h⟩
  rw [Bool.false_and]
  cases hall:l.n.Items.all fun e=>(gh e l.a_).2==0 with
  |false=>simp
  |true=>
   rw [hall,nC]at X
   have:l.n.Items.length=0:=by simpa using X.symm
   simp [this]
 |true=>
  have hR:=d rfl
  rw [m7]at hR
  refine⟨?_,fun _=>hR⟩
  rw [hR]
  have h2' :=X.symm
  rw [lq,hX]at h2'
  have e1:decide ((1:Int)<=(l.n.Items.length:Int))=true:=by have:=h2'.2;simp at this ⊢;omega
  rw [h2'.1,e1,nC,nC,nC]
  rw [F5,w9]
  simp
  omega
def Bs(g:eS)(a:List Int):Int×Bool:=
 if g.Tag=1 then(2,(g.Arg.Nodes.length:Int)==0)else
 if g.Tag=3 then(2,((((gh g.Arg a).2==0)&&decide (1<g.Tag))&&decide (g.Tag<=5))&&((gh g.Arg a).1==2||(gh g.Arg a).1==0))else
 if g.Tag=4\/g.Tag=5 then((gh g.Arg a).1,(((gh g.Arg a).2==0)&&decide (1<g.Tag))&&decide (g.Tag<=5))else(2,(((gh g.Arg a).2==0)&&decide (1<g.Tag))&&decide (g.Tag<=5))
def Br(a:eS)(kinds:List Int):(Bs a kinds).2=(M8 a kinds).2/\((Bs a kinds).2=true->(Bs a kinds).1=(M8 a kinds).1):=by
 unfold M8 m9 Bs
 rw [rC]
 simp only [bg]
 by_cases Y:a.Tag=1
 ·simp [Y]
 by_cases X:a.Tag=2
 ·by_cases he:(gh a.Arg kinds).2=0<;>simp [X,he]
 by_cases d:a.Tag=3
 ·by_cases he:(gh a.Arg kinds).2=0
  ·by_cases h0:(gh a.Arg kinds).1=0
   ·simp [d,he,h0]
   ·by_cases h02:(gh a.Arg kinds).1=2<;>simp [d,he,h0,h02]
  ·simp [d,he]
 by_cases h4:a.Tag=4
 ·by_cases he:(gh a.Arg kinds).2=0<;>simp [h4,he]
 by_cases h5:a.Tag=5
 ·by_cases he:(gh a.Arg kinds).2=0<;>simp [h5,he]
 have:a.Tag<1\/5<a.Tag:=by omega
 have h7: ¬(1<a.Tag/\a.Tag<=5):=by omega
 have h8:(decide (1<a.Tag)&&decide (a.Tag<=5))=false:=by rw [DF];simpa using h7
 simp [Y,d,h4,h5,this,vG,h8]
def Mv{l:al}: ∀(gs:List eS) (ok:Bool) (R:List Int),(∀g∈gs,g.Arg.Nodes.length<=5000)->R.length+gs.length<=20000->cy gs ok {l with result:=R}=some (ok&&gs.all fun g=>(Bs g l.a_).2,{l with result:=R++gs.map fun g=>(Bs g l.a_).1})
 |[],ok,R,_,_=>by unfold cy;simp
 |g::tl,ok,R,H,hR=>by
  simp only [iB]at hR
  have key: ∀(ok2:Bool) (k:Int),(ok2=(ok&&(Bs g l.a_).2))->k=(Bs g l.a_).1->eH (cy tl) {l with result:=R} ok2 k=some (ok&&(g::tl).all fun g=>(Bs g l.a_).2,{l with result:=R++(g::tl).map fun g=>(Bs g l.a_).1}):=by
   intro ok2 k e1 e2
   rw [CH _ _ _ _ _ (by omega),Mv tl ok2 (R++[k]) (fun x V=>H x (pp _ V)) (by simp;omega),e1,e2]
   simp [vG]
  unfold cy
  by_cases Y:g.Tag=1
  ·rw [bh (by simp [Y])]
   exact key _ _ (by simp [Bs,Y]) (by simp [Bs,Y])
  rw [aR (by simpa using Y)]
  show(nv g.Arg l.a_).bind _=_
  rw [m4 g.Arg l.a_ (by have:=H g (nA ..);omega),bg]
  by_cases d:g.Tag=3
  ·rw [bh (by simp [d])]
   exact key _ _ (by simp [Bs,d,vG]) (by simp [Bs,d])
  rw [aR (by simpa using d)]
  unfold hY
  by_cases h4:g.Tag=4
  ·rw [bh (by simp [h4]),bh (by simp [h4])]
   exact key _ _ (by simp [Bs,h4,vG]) (by simp [Bs,h4])
  rw [aR (by simpa using h4)]
  by_cases h5:g.Tag=5
  ·rw [bh (by simp [h5])]
   exact key _ _ (by simp [Bs,h5,vG]) (by simp [Bs,h5])
  rw [aR (by simpa using h5)]
  exact key _ _ (by simp [Bs,Y,d,h4,h5,vG]) (by simp [Bs,Y,d,h4,h5])
def Sr{l:al}(h:Lb l): ∀(ks:List Int) (R:List Int),R.length+ks.length<=5000-> ∃ok R',dw l ks {l with result:=R}=some (ok,{l with result:=R' })/\ok=(!(ks.any (vj l.a_))&&((((decide ((l.n.Keys.length:Int)<=(3:Int)))&&(decide ((l.n.Aggs.length:Int)<=(12:Int))))&&(decide ((0:Int)<(IntKind.i64.wrap ((l.n.Keys.length:Int)+(l.n.Aggs.length:Int))))))&&l.n.Aggs.all fun g=>(Bs g l.a_).2))/\(ks.any (vj l.a_)=false->R' =R++ks.map (QK l.a_)++l.n.Aggs.map fun g=>(Bs g l.a_).1)
 |[],R,hR=>by
  unfold dw
  rw [Mv l.n.Aggs _ R h.n.args (by have:=h.n.aggs;simp at hR;omega)]
  exact⟨_,_,rfl,by simp,fun _=>by simp⟩
 |k::tl,R,hR=>by
  simp only [iB]at hR
  unfold dw
  show∃ok R',(if vj l.a_ k=true then _ else _)=_/\_
  cases hk:vj l.a_ k with
  |true=>rw [bh rfl];exact⟨false,R,rfl,by simp [hk],fun h=>by simp [hk]at h⟩
  |false=>
   rw [aR (by simp)]
   show∃ok R',(gR l.a_ k).bind _=_/\_
   rw [Mu hk,bg]
   show∃ok R',(app R [QK l.a_ k]).bind _=_/\_
   rw [cK (by simp;omega),bg]
   obtain⟨ok,R',Y,X,d⟩:=Sr h tl (R++[QK l.a_ k]) (by simp;omega)
   exact⟨ok,R',Y,by rw [X];simp [hk],fun hn=>by
    simp [hk]at hn
    rw [d (by simpa using hn)]
    simp⟩
def zO{l:al}(h:Lb l){n:aa}(hop:n.Op=4)(hn:i0 n)(hK:n.Keys=l.n.Keys)(hG:n.Aggs=l.n.Aggs)(b:List Int): ∃ok R o k,eo l=some (ok,{l with result:=R})/\cC n l.a_ b=some (k,o)/\ok=o/\(ok=true->R=k/\R.length=l.n.Keys.length+l.n.Aggs.length):=by
 unfold eo
 obtain⟨ok,R,Y,X,d⟩:=Sr h l.n.Keys [] (by have:=h.n.keys;simpa using this)
 have hr:=YV (a:=l.a_) (b:=b) hn hop
 rw [hK,hG]at hr
 cases hany:l.n.Keys.any (vj l.a_)with
 |true=>
  rw [hany,bh rfl]at hr
  exact⟨ok,R,_,_,Y,hr,by rw [X,hany];rfl,fun ho=>by rw [X,hany]at ho;cases ho⟩
 |false=>
  rw [hany,aR (by simp)]at hr
  have hkl:=h.n.keys
  have hgl:=h.n.aggs
  have e1:IntKind.i64.wrap ((l.n.Keys.length:Int)+(l.n.Aggs.length:Int))=((l.n.Keys.length+l.n.Aggs.length:Nat):Int):=by rw [eP (by omega) (by omega)];omega
  have hall:(l.n.Aggs.all fun g=>(Bs g l.a_).2)=l.n.Aggs.all fun e=>(M8 e l.a_).2:=by
   congr 1;funext e;exact(Br e l.a_).1
  refine⟨ok,R,_,_,Y,hr,?_,fun ho=>?_⟩
  ·rw [X,hany,hall,e1]
   simp only [Ar,nC]
   cases (l.n.Aggs.all fun e=>(M8 e l.a_).2)<;>simp
  ·have hR:=d hany
   rw [m7]at hR
   rw [X,lq,lq]at ho
   have hm:l.n.Aggs.map (fun g=>(Bs g l.a_).1)=l.n.Aggs.map fun e=>(M8 e l.a_).1:=F9 fun e he=>(Br e l.a_).2 (kQ.1 ho.2.2 e he)
   exact⟨by rw [hR,hm],by rw [hR];simp⟩
def Mw{l:al}(h:Lb l)(hop:l.n.Op=4):yX eo l:=by
 obtain⟨ok,R,o,k,Y,X,d,h4⟩:=zO h hop h.n rfl rfl l.b
 exact⟨ok,R,o,k,Y,X,.of d fun ho=>(h4 ho).1⟩
def Q4{l:al}: ∀(tl tb:List Int) (i:Nat) (R:List Int),l.b.drop i=tb->tl.length=tb.length->R.length+tl.length<=1000-> ∃ok R',dv tl i {l with result:=R}=some (ok,{l with result:=R' })/\ok=(tl.zip tb).all C2/\(ok=true->R' =R++List.zipWith HD tl tb)
 |[],tb,i,R,hd,hl,_=>by
  have:tb=[]:=rN hl.symm
  subst this
  exact⟨true,R,rfl,rfl,fun _=>by simp⟩
 |x::tl,[],i,R,hd,hl,_=>by simp at hl
 |x::tl,y::tb,i,R,hd,hl,hm=>by
  simp only [iB,Nq]at hl hm
  obtain⟨Y,X,d⟩:=pe hd
  unfold dv
  show∃ok R',(gR l.b (i:Int)).bind _=_/\_
  rw [Y,bg]
  have key:fC (dv tl) i {l with result:=R} y (HD x y)=(if C2 (x,y)then dv tl (i+1) {l with result:=R++[HD x y]}else some (false,{l with result:=R})):=by
   unfold fC
   have e:((y !=(0:Int))&&(y !=HD x y))= !(C2 (x,y)):=by
    unfold C2
    simp only [bne,Bool.not_or]
    rw [Bool.and_comm]
   rw [e]
   cases C2 (x,y)with
   |true=>
    rw [aR (by simp),bh rfl]
    show(app R [HD x y]).bind _=_
    rw [cK (by simp;omega)]
    rfl
   |false=>rw [bh (by simp),aR (by simp)]
  have EH: ∃ok R',fC (dv tl) i {l with result:=R} y (HD x y)=some (ok,{l with result:=R' })/\ok=((x::tl).zip (y::tb)).all C2/\(ok=true->R' =R++List.zipWith HD (x::tl) (y::tb)):=by
   rw [key]
   cases hu:C2 (x,y)with
   |false=>rw [aR (by simp)];exact⟨false,R,rfl,by simp [hu],fun h=>by cases h⟩
   |true=>
    rw [bh rfl]
    obtain⟨ok,R',g1,g2,g3⟩:=Q4 (l:=l) tl tb (i+1) (R++[HD x y]) d hl (by simp;omega)
    exact⟨ok,R',g1,by rw [g2];simp [hu],fun ho=>by rw [g3 ho];simp⟩
  by_cases V:x=0
  ·rw [bh (by simp [V])]
   have:HD x y=y:=bh V
   rw [this]at EH
   exact EH
  ·rw [aR (by simpa using V)]
   have:HD x y=x:=aR V
   rw [this]at EH
   exact EH
def LA{l:al}(h:Lb l)(hop:l.n.Op=7):yX iX l:=by
 have ha:=h.a
 unfold yX iX
 rw [ZL hop ha]
 by_cases hl:l.a_.length=l.b.length
 ·rw [aR (by simp [hl]),bh hl]
  obtain⟨ok,R,Y,X,d⟩:=Q4 (l:=l) l.a_ l.b 0 [] rfl hl (by simp;omega)
  exact⟨ok,R,_,_,Y,rfl,.of X fun ho=>by rw [d ho,m7]⟩
 ·rw [bh (by simp;omega),aR hl]
  exact⟨false,l.result,_,_,by cases l;rfl,rfl,.of rfl fun h=>by cases h⟩
def Sc{l:al}(h:Lb l)(hop:FN l.n.Op=true):yX (fun l=>nU l.n.Op l ()) l:=by
 have imp: ∀{m:al->Option (Bool×al)},yX m l->nU l.n.Op l ()=m l->yX (fun l=>nU l.n.Op l ()) l:=fun⟨ok,R,o,k,Y,X,d⟩ he=>⟨ok,R,o,k,he.trans Y,X,d⟩
 rcases nm hop with Y|Y|Y|Y|Y|Y|Y|Y
 ·exact imp (Pv h Y) (by rw [Y];rfl)
 ·exact imp (PV h Y) (by rw [Y];rfl)
 ·exact imp (KF h Y) (by rw [Y];rfl)
 ·exact imp (Mw h Y) (by rw [Y];rfl)
 ·exact imp (Ib h Y) (by rw [Y];rfl)
 ·exact imp (Mp Y) (by rw [Y];rfl)
 ·exact imp (LA h Y) (by rw [Y];rfl)
 ·exact imp (Pi h Y) (by rw [Y];rfl)
end Go.Proofs.YtdohlidddcgfjaaGreat


