/- cE of this claim: Y11. -/
import Derived.Test.YtdohlidddcgfjaaGreatFcY5
import Derived.Test.YtdohlidddcgfjaaGreatFcQ4
set_option linter.all false
namespace Go.Proofs.YtdohlidddcgfjaaGreat
open Go

def Vz{n:tV}{a b:List Int}(hn:jJ n)(hop:n.Op=1):cK n a b=some (n.Kinds,(((((n.Kinds.all fun k=>decide (1<=k)&&decide (k<=3)))&&(decide ((0:Int)<=n.Table)))&&(decide (n.Table<=(3:Int))))&&(decide ((1:Int)<=(n.Kinds.length:Int))))&&(decide ((n.Kinds.length:Int)<=(4:Int)))):=by
 have h:=hn.kinds
 have key: ∀(tl:List Int) (i:Nat) (fu:Nat) (ok:Bool),n.Kinds.drop i=tl->tl.length<fu->ji n fu ok (i:Int)=some (n.Kinds,((((ok&&tl.all fun k=>decide (1<=k)&&decide (k<=3))&&(decide ((0:Int)<=n.Table)))&&(decide (n.Table<=(3:Int))))&&(decide ((1:Int)<=(n.Kinds.length:Int))))&&(decide ((n.Kinds.length:Int)<=(4:Int)))):=by
  intro tl
  induction tl with
  |nil=>
   intro i fu ok hd hf
   obtain⟨fu,rfl⟩: ∃k,fu=k+1:=⟨fu-1,by omega⟩
   have:=Fb hd
   rw [ji,bk (by simp;omega)]
   simp
  |cons x tl ih=>
   intro i fu ok hd hf
   simp only [iG]at hf
   obtain⟨fu,rfl⟩: ∃k,fu=k+1:=⟨fu-1,by omega⟩
   obtain⟨X,K,h3⟩:=jb hd
   rw [ji,bJ (by simp;omega),X,fg (by omega) (by omega)]
   simp only [bG]
   have e:((i:Int)+1)=((i+1:Nat):Int):=by omega
   rw [e]
   have e2:((if ok=true then some (decide ((1:Int)<=x))else some false).bind fun t=>(if t=true then some (decide (x<=(3:Int)))else some false).bind fun t1=>ji n fu t1 ((i+1:Nat):Int))=ji n fu (ok&&(decide (1<=x)&&decide (x<=3))) ((i+1:Nat):Int):=by
    cases ok<;>by_cases V:(1:Int)<=x<;>simp [V]
   rw [e2,ih (i+1) fu _ h3 (by omega)]
   simp only [zB,xJ]
 have hr:cK n a b=ji n dk true (0:Int):=by unfold cK;rw [bJ (by simp [hop])]
 exact hr.trans ((key n.Kinds 0 dk true rfl (xN (B4 _) (pj (by omega)))).trans (by rw [oX]))
def YG{n:tV}{a b:List Int}(hop:n.Op=2)(hal:a.length<=16)(hbl:b.length<=16):cK n a b=some (a++b,HI n.Cond (a++b)):=by
 unfold cK
 rw [bk (by simp [hop]),bJ (by simp [hop]),cd (by simp;omega)]
 simp only [bG,oY]
 rw [cd (by omega)]
 simp only [bG]
 rw [yd]
 rfl
def YF{n:tV}{a b:List Int}(hop:n.Op=3):cK n a b=some (a,HI n.Cond a):=by
 unfold cK
 rw [bk (by simp [hop]),bk (by simp [hop]),bJ (by simp [hop]),yd]
 rfl
def Zo{n:tV}{a b:List Int}(hop:n.Op=6):cK n a b=some (a,true):=by
 unfold cK
 rw [bk (by simp [hop]),bk (by simp [hop]),bk (by simp [hop]),bk (by simp [hop]),bk (by simp [hop]),bJ (by simp [hop])]
def Wz{n:tV}{a b:List Int}(hn:jJ n)(hop:n.Op=5):cK n a b=some (n.Items.map (fun e=>(gT e a).1),((n.Items.all fun e=>(gT e a).2==0)&&(decide ((1:Int)<=(n.Items.length:Int))))&&(decide ((n.Items.length:Int)<=(16:Int)))):=by
 have h:=hn.items
 have hr:cK n a b=lQ n a dk [] true (0:Int):=by unfold cK;rw [bk (by simp [hop]),bk (by simp [hop]),bk (by simp [hop]),bk (by simp [hop]),bJ (by simp [hop])]
 have key: ∀(tl:List aW) (i:Nat) (fu:Nat) (out:List Int) (ok:Bool),n.Items.drop i=tl->i+tl.length=n.Items.length->tl.length<fu->out.length=i->lQ n a fu out ok (i:Int)=some (out++tl.map (fun e=>(gT e a).1),((ok&&tl.all fun e=>(gT e a).2==0)&&(decide ((1:Int)<=(n.Items.length:Int))))&&(decide ((n.Items.length:Int)<=(16:Int)))):=by
  intro tl
  induction tl with
  |nil=>
   intro i fu out ok hd hi hf ho
   obtain⟨fu,rfl⟩: ∃k,fu=k+1:=⟨fu-1,by omega⟩
   simp only [vX,CK]at hi
   rw [lQ,bk (by simp;omega)]
   simp [ho,hi]
  |cons x tl ih=>
   intro i fu out ok hd hi hf ho
   simp only [iG]at hf hi
   obtain⟨fu,rfl⟩: ∃k,fu=k+1:=⟨fu-1,by omega⟩
   obtain⟨X,K,h3⟩:=jb hd
   rw [lQ,bJ (by simp;omega),X]
   simp only [bG]
   rw [sY]
   simp only [bG]
   rw [cd (by simp;omega),fg (by omega) (by omega)]
   simp only [bG]
   have e:((i:Int)+1)=((i+1:Nat):Int):=by omega
   rw [e,ih (i+1) fu _ _ h3 (by omega) (by omega) (by simp [ho])]
   simp [xJ]
 exact hr.trans ((key n.Items 0 dk [] true rfl (by simp) (xN (B4 _) (pj (by omega))) rfl).trans (by rw [oY,oX]))
def YE{n:tV}{a b:List Int}(hn:jJ n)(hop:n.Op=4):cK n a b=if n.Keys.any (wj a)then some ([],false)else some (n.Keys.map (PS a)++n.Aggs.map (fun e=>(MA e a).1),((((n.Aggs.all fun e=>(MA e a).2)&&(decide ((n.Keys.length:Int)<=(3:Int))))&&(decide ((n.Aggs.length:Int)<=(12:Int))))&&(decide ((0:Int)<((n.Keys.length+n.Aggs.length:Nat):Int))))):=by
 have hK:=hn.keys
 have hA:=hn.aggs
 have hr:cK n a b=lS n a dk [] (0:Int):=by unfold cK;rw [bk (by simp [hop]),bk (by simp [hop]),bk (by simp [hop]),bJ (by simp [hop])]
 have ZC: ∀(tl:List fU) (i:Nat) (fu:Nat) (out:List Int) (ok:Bool),n.Aggs.drop i=tl->i+tl.length=n.Aggs.length->tl.length<fu->out.length<=5000+i->lR n a fu out ok (i:Int)=some (out++tl.map (fun e=>(MA e a).1),(((ok&&tl.all fun e=>(MA e a).2)&&(decide ((n.Keys.length:Int)<=(3:Int))))&&(decide ((n.Aggs.length:Int)<=(12:Int))))&&(decide ((0:Int)<((out.length+tl.length:Nat):Int)))):=by
  intro tl
  induction tl with
  |nil=>
   intro i fu out ok hd hi hf ho
   obtain⟨fu,rfl⟩: ∃k,fu=k+1:=⟨fu-1,by omega⟩
   simp only [vX,CK]at hi
   rw [lR,bk (by simp;omega)]
   simp
  |cons x tl ih=>
   intro i fu out ok hd hi hf ho
   simp only [iG]at hf hi
   obtain⟨fu,rfl⟩: ∃k,fu=k+1:=⟨fu-1,by omega⟩
   obtain⟨X,K,h3⟩:=jb hd
   rw [lR,bJ (by simp;omega),X]
   simp only [bG]
   rw [Ae]
   simp only [bG]
   rw [cd (by simp;omega),fg (by omega) (by omega)]
   simp only [bG]
   have e:((i:Int)+1)=((i+1:Nat):Int):=by omega
   rw [e,ih (i+1) fu _ _ h3 (by omega) (by omega) (by simp;omega)]
   simp only [DL,zB,xJ,pe,mq,iG,vX,FJ,oY]
   rw [show out.length+(0+1)+tl.length=out.length+(tl.length+1)from by omega]
 have ER: ∀(tl:List Int) (i:Nat) (fu:Nat) (out:List Int),n.Keys.drop i=tl->i+tl.length=n.Keys.length->tl.length<fu->out.length=i->lS n a fu out (i:Int)=if tl.any (wj a)then some ([],false)else lR n a dk (out++tl.map (PS a)) true 0:=by
  intro tl
  induction tl with
  |nil=>
   intro i fu out hd hi hf ho
   obtain⟨fu,rfl⟩: ∃k,fu=k+1:=⟨fu-1,by omega⟩
   simp only [vX,CK]at hi
   rw [lS,bk (by simp;omega)]
   simp
  |cons x tl ih=>
   intro i fu out hd hi hf ho
   simp only [iG]at hf hi
   obtain⟨fu,rfl⟩: ∃k,fu=k+1:=⟨fu-1,by omega⟩
   obtain⟨X,K,h3⟩:=jb hd
   rw [lS,bJ (by simp;omega),X]
   simp only [bG]
   cases V:wj a x with
   |true=>
    have hx' :(decide (x<0)||decide ((a.length:Int)<=x))=true:=V
    rw [bJ hx',bJ (by simp [V])]
   |false=>
    have hx' : ¬(decide (x<0)||decide ((a.length:Int)<=x))=true:=by rw [show(decide (x<0)||decide ((a.length:Int)<=x))=wj a x from rfl,V];decide
    rw [bk hx',LU V]
    simp only [bG]
    rw [cd (by simp;omega),fg (by omega) (by omega)]
    simp only [bG]
    have e:((i:Int)+1)=((i+1:Nat):Int):=by omega
    rw [e,ih (i+1) fu _ h3 (by omega) (by omega) (by simp [ho])]
    simp [V]
 have e3:=ZC n.Aggs 0 dk (n.Keys.map (PS a)) true rfl (by simp) (xN (B4 _) (pj (by omega))) (by simp;omega)
 rw [Gd,oX]at e3
 have e2:=ER n.Keys 0 dk [] rfl (by simp) (xN (B4 _) (pj (by omega))) rfl
 rw [oY]at e2
 exact hr.trans (e2.trans (congrArg (fun z=>if n.Keys.any (wj a)=true then some ([],false)else z) e3))
def Zn{n:tV}{a b:List Int}(hop:n.Op=7)(hal:a.length<=16):cK n a b=if a.length=b.length then some (List.zipWith HG a b,(a.zip b).all Di)else some ([],false):=by
 unfold cK
 rw [bk (by simp [hop]),bk (by simp [hop]),bk (by simp [hop]),bk (by simp [hop]),bk (by simp [hop]),bk (by simp [hop]),bJ (by simp [hop])]
 by_cases hl:a.length=b.length
 ·rw [bk (by simp;omega),bJ hl]
  have kr: ∀(tl tb:List Int) (i:Nat) (out:List Int) (ok:Bool),b.drop i=tb->tl.length=tb.length->out.length+tl.length<=1000->jh b tl i out ok=some (out++List.zipWith HG tl tb,ok&&(tl.zip tb).all Di):=by
   intro tl
   induction tl with
   |nil=>
    intro tb i out ok hd h _
    have:tb=[]:=tH h.symm
    subst this
    simp [jh]
   |cons x tl ih=>
    intro tb i out ok hd h hm
    cases tb with
    |nil=>simp at h
    |cons y tb=>
     simp only [iG,MP]at h hm
     obtain⟨X,K,h3⟩:=jb hd
     rw [jh,X]
     simp only [bG]
     have step: ∀z:Int,pK b (jh b tl) i out ok z=some (out++z::List.zipWith HG tl tb,ok&&((y==z||y==0)&&(tl.zip tb).all Di)):=by
      intro z
      unfold pK
      rw [cd (by simp;omega),X]
      simp only [bG]
      cases ok with
      |true=>
       simp only [mG,bG,oX]
       cases hyz:y==z with
       |true=>
        simp only [ug,r0,oV,bG]
        rw [ih tb (i+1) _ _ h3 h (by simp;omega)]
        simp
       |false=>
        simp only [AU,mG,bG]
        rw [ih tb (i+1) _ _ h3 h (by simp;omega)]
        simp
      |false=>
       simp only [r0,oV,bG,Bool.false_and]
       rw [ih tb (i+1) _ _ h3 h (by simp;omega)]
       simp
     by_cases V:x=0
     ·subst V
      rw [bJ (by simp),step y]
      simp [Di,HG]
     ·rw [bk (by simpa using V),step x]
      have:HG x y=x:=by unfold HG;rw [bk V]
      simp only [List.zipWith_cons_cons,List.zip_cons_cons,zB,Di,this]
  rw [kr a b 0 [] true rfl hl (by simp;omega),oY,oX]
 ·rw [bJ (by simp;omega),bk hl]
def YD{n:tV}{a b:List Int}(hn:jJ n)(hop:n.Op=8):cK n a b=some (a,((((n.Order.all fun e=>decide (0<=e.Col)&&decide (e.Col<(a.length:Int)))&&(decide ((n.Order.length:Int)<=(3:Int))))&&(decide ((-1:Int)<=n.Limit)))&&(decide (n.Limit<=(2147483647:Int))))):=by
 have h:=hn.order
 have hr:cK n a b=jg n a dk true (0:Int):=by unfold cK;rw [bk (by simp [hop]),bk (by simp [hop]),bk (by simp [hop]),bk (by simp [hop]),bk (by simp [hop]),bk (by simp [hop]),bk (by simp [hop])]
 have key: ∀(tl:List kF) (i:Nat) (fu:Nat) (ok:Bool),n.Order.drop i=tl->i+tl.length=n.Order.length->tl.length<fu->jg n a fu ok (i:Int)=some (a,((((ok&&tl.all fun e=>decide (0<=e.Col)&&decide (e.Col<(a.length:Int)))&&(decide ((n.Order.length:Int)<=(3:Int))))&&(decide ((-1:Int)<=n.Limit)))&&(decide (n.Limit<=(2147483647:Int))))):=by
  intro tl
  induction tl with
  |nil=>
   intro i fu ok hd hi hf
   obtain⟨fu,rfl⟩: ∃k,fu=k+1:=⟨fu-1,by omega⟩
   simp only [vX,CK]at hi
   rw [jg,bk (by simp;omega)]
   simp
  |cons x tl ih=>
   intro i fu ok hd hi hf
   simp only [iG]at hf hi
   obtain⟨fu,rfl⟩: ∃k,fu=k+1:=⟨fu-1,by omega⟩
   obtain⟨X,K,h3⟩:=jb hd
   rw [jg,bJ (by simp;omega),X,fg (by omega) (by omega)]
   simp only [bG]
   have e:((i:Int)+1)=((i+1:Nat):Int):=by omega
   rw [e]
   have e2:((if ok=true then some (decide ((0:Int)<=x.Col))else some false).bind fun t=>(if t=true then some (decide (x.Col<(a.length:Int)))else some false).bind fun t1=>jg n a fu t1 ((i+1:Nat):Int))=jg n a fu (ok&&(decide (0<=x.Col)&&decide (x.Col<(a.length:Int)))) ((i+1:Nat):Int):=by
    cases ok<;>by_cases V:(0:Int)<=x.Col<;>simp [V]
   rw [e2,ih (i+1) fu _ h3 (by omega) (by omega)]
   simp only [zB,xJ]
 exact hr.trans ((key n.Order 0 dk true rfl (by simp) (xN (B4 _) (pj (by omega)))).trans (by rw [oX]))
def SA(ok:Bool)(R:List Int)(o:Bool)(k:List Int):Prop:=(ok&&decide (R.length<=16))=(o&&decide (k.length<=16))/\((ok&&decide (R.length<=16))=true->R=k)
def SA.of{ok o:Bool}{R k:List Int}(X:ok=o)(K:ok=true->R=k):SA ok R o k:=by
 subst X
 cases ok with
 |false=>exact⟨rfl,fun h=>by cases h⟩
 |true=>have:=K rfl;subst this;exact⟨rfl,fun _=>rfl⟩
def zz(m:aq->Option (Bool×aq))(l:aq):Prop:= ∃ok R o k,m l=some (ok,{l with result:=R})/\cK l.n l.a_ l.b=some (k,o)/\SA ok R o k
def D3(e:aW)(kinds:List Int)(h:e.Nodes.length<=5000):kY e kinds=some (HI e kinds):=by
 unfold kY HI
 rw [oj e kinds (by omega)]
 simp only [bG,Bool.or_comm]
def OQ{l:aq}(h:Lb l)(hop:l.n.Op=1):zz kx l:=by
 unfold zz kx
 rw [lj (f:=qj) (g:=fun k=>(decide (k<(1:Int)))||(decide ((3:Int)<k))) (fun _=>rfl),bG]
 refine⟨_,_,_,_,rfl,Vz h.n hop,.of ?_ fun _=>rfl⟩
 have e3:(!(l.n.Kinds.any fun k=>(decide (k<(1:Int)))||(decide ((3:Int)<k))))=l.n.Kinds.all fun k=>decide (1<=k)&&decide (k<=3):=by
  rw [List.not_any_eq_all_not]
  congr 1
  funext k
  rw [AJ]
  simp
 show(((((!(l.n.Kinds.any fun k=>(decide (k<(1:Int)))||(decide ((3:Int)<k))))&&(decide ((0:Int)<=l.n.Table)))&&(decide (l.n.Table<(4:Int))))&&(decide ((0:Int)<(l.n.Kinds.length:Int))))&&(decide ((l.n.Kinds.length:Int)<=(4:Int))))=_
 rw [e3]
 have e1:decide (l.n.Table<(4:Int))=decide (l.n.Table<=(3:Int)):=by rw [Gg];omega
 have e2:decide ((0:Int)<(l.n.Kinds.length:Int))=decide ((1:Int)<=(l.n.Kinds.length:Int)):=by rw [Gg];omega
 rw [e1,e2]
def Pe{l:aq}(h:Lb l)(hop:l.n.Op=2):zz iD l:=by
 unfold zz iD
 have ha:=h.a
 have H:=h.b
 rw [FD _ _ (by omega) (by omega),bG]
 show∃ok R o k,(kY l.n.Cond (l.a_++l.b)).bind _=_/\_
 rw [D3 _ _ h.n.cond,bG]
 exact⟨_,_,_,_,rfl,YG hop ha H,.of rfl fun _=>rfl⟩
def Ku{l:aq}(h:Lb l)(hop:l.n.Op=3):zz gu l:=by
 unfold zz gu
 show∃ok R o k,(kY l.n.Cond l.a_).bind _=_/\_
 rw [D3 _ _ h.n.cond,bG]
 exact⟨_,_,_,_,rfl,YF hop,.of rfl fun _=>rfl⟩
def LP{l:aq}(hop:l.n.Op=6):zz mC l:=⟨_,_,_,_,rfl,Zo hop,.of rfl fun _=>rfl⟩
def OC{l:aq}(h:Lb l)(hop:l.n.Op=8):zz kw l:=by
 unfold zz kw
 rw [tG (f:=nC {l with result:=l.a_}) (g:=fun o=>(decide (o.Col<(0:Int)))||(decide ((l.a_.length:Int)<=o.Col))) (fun _=>rfl),bG]
 refine⟨_,_,_,_,rfl,YD h.n hop,.of ?_ fun _=>rfl⟩
 have e3:(!(l.n.Order.any fun o=>(decide (o.Col<(0:Int)))||(decide ((l.a_.length:Int)<=o.Col))))=l.n.Order.all fun e=>decide (0<=e.Col)&&decide (e.Col<(l.a_.length:Int)):=by
  rw [List.not_any_eq_all_not]
  congr 1
  funext k
  rw [AJ]
  simp
 show((((!(l.n.Order.any fun o=>(decide (o.Col<(0:Int)))||(decide ((l.a_.length:Int)<=o.Col))))&&(decide ((l.n.Order.length:Int)<=(3:Int))))&&(decide ((-1:Int)<=l.n.Limit)))&&(decide (l.n.Limit<=(2147483647:Int))))=_
 rw [e3]
def M6{l:aq}: ∀(tl:List aW) (R:List Int),(∀e∈tl,e.Nodes.length<=5000)->R.length+tl.length<=10000-> ∃ok R',fi tl {l with result:=R}=some (ok,{l with result:=R' })/\ok=((tl.all fun e=>(gT e l.a_).2==0)&&decide (0<R.length+tl.length))/\(ok=true->R' =R++tl.map fun e=>(gT e l.a_).1)
 |[],R,_,_=>⟨_,R,rfl,by simp,fun _=>by simp⟩
 |e::tl,R,he,hl=>by
  simp only [iG]at hl
  unfold fi
  show∃ok R',(oU e l.a_).bind _=_/\_
  rw [oj _ _ (by have:=he e (qa ..);omega),bG]
  by_cases h0:(gT e l.a_).2=0
  ·rw [bk (by simp [h0])]
   show∃ok R',(app R [(gT e l.a_).1]).bind _=_/\_
   rw [cd (by simp;omega),bG]
   obtain⟨ok,R',X,K,h3⟩:=M6 (l:=l) tl (R++[(gT e l.a_).1]) (fun x V=>he x (ry _ V)) (by simp;omega)
   refine⟨ok,R',X,?_,fun ho=>by rw [h3 ho];simp⟩
   rw [K]
   have e1:decide (0<(R++[(gT e l.a_).1]).length+tl.length)=true:=by simp;omega
   have e2:decide (0<R.length+(e::tl).length)=true:=by simp;omega
   rw [e1,e2]
   simp [h0]
  ·rw [bJ (by simpa using h0)]
   exact⟨false,R,rfl,by simp [h0],fun h=>by cases h⟩
def HY{l:aq}(h:Lb l)(hop:l.n.Op=5):zz jk l:=by
 have hi:=h.n.items
 obtain⟨ok,R,X,K,h3⟩:=M6 (l:=l) l.n.Items [] h.n.exprs (by simp;omega)
 refine⟨ok,R,_,_,X,Wz h.n hop,?_⟩
 cases ok with
 |false=>
  refine⟨?_,fun h=>by cases h⟩
  rw [Bool.false_and]
  cases hall:l.n.Items.all fun e=>(gT e l.a_).2==0 with
  |false=>simp
  |true=>
   rw [hall,oX]at K
   have:l.n.Items.length=0:=by simpa using K.symm
   simp [this]
 |true=>
  have hR:=h3 rfl
  rw [oY]at hR
  refine⟨?_,fun _=>hR⟩
  rw [hR]
  have h2' :=K.symm
  rw [pt,mp]at h2'
  have e1:decide ((1:Int)<=(l.n.Items.length:Int))=true:=by have:=h2'.2;simp at this ⊢;omega
  rw [h2'.1,e1,oX,oX,oX]
  rw [Gd,AJ]
  simp
  omega
def BU(g:fU)(a:List Int):Int×Bool:=
 if g.Tag=1 then(2,(g.Arg.Nodes.length:Int)==0)else
 if g.Tag=3 then(2,((((gT g.Arg a).2==0)&&decide (1<g.Tag))&&decide (g.Tag<=5))&&((gT g.Arg a).1==2||(gT g.Arg a).1==0))else
 if g.Tag=4\/g.Tag=5 then((gT g.Arg a).1,(((gT g.Arg a).2==0)&&decide (1<g.Tag))&&decide (g.Tag<=5))else(2,(((gT g.Arg a).2==0)&&decide (1<g.Tag))&&decide (g.Tag<=5))
def BT(a:fU)(kinds:List Int):(BU a kinds).2=(MA a kinds).2/\((BU a kinds).2=true->(BU a kinds).1=(MA a kinds).1):=by
 unfold MA mA BU
 rw [sY]
 simp only [bG]
 by_cases X:a.Tag=1
 ·simp [X]
 by_cases K:a.Tag=2
 ·by_cases he:(gT a.Arg kinds).2=0<;>simp [K,he]
 by_cases h3:a.Tag=3
 ·by_cases he:(gT a.Arg kinds).2=0
  ·by_cases h0:(gT a.Arg kinds).1=0
   ·simp [h3,he,h0]
   ·by_cases h02:(gT a.Arg kinds).1=2<;>simp [h3,he,h0,h02]
  ·simp [h3,he]
 by_cases h4:a.Tag=4
 ·by_cases he:(gT a.Arg kinds).2=0<;>simp [h4,he]
 by_cases h5:a.Tag=5
 ·by_cases he:(gT a.Arg kinds).2=0<;>simp [h5,he]
 have:a.Tag<1\/5<a.Tag:=by omega
 have h7: ¬(1<a.Tag/\a.Tag<=5):=by omega
 have h8:(decide (1<a.Tag)&&decide (a.Tag<=5))=false:=by rw [AX];simpa using h7
 simp [X,h3,h4,h5,this,xJ,h8]
def LV{l:aq}: ∀(gs:List fU) (ok:Bool) (R:List Int),(∀g∈gs,g.Arg.Nodes.length<=5000)->R.length+gs.length<=20000->cN gs ok {l with result:=R}=some (ok&&gs.all fun g=>(BU g l.a_).2,{l with result:=R++gs.map fun g=>(BU g l.a_).1})
 |[],ok,R,_,_=>by unfold cN;simp
 |g::tl,ok,R,Y,hR=>by
  simp only [iG]at hR
  have key: ∀(ok2:Bool) (k:Int),(ok2=(ok&&(BU g l.a_).2))->k=(BU g l.a_).1->fz (cN tl) {l with result:=R} ok2 k=some (ok&&(g::tl).all fun g=>(BU g l.a_).2,{l with result:=R++(g::tl).map fun g=>(BU g l.a_).1}):=by
   intro ok2 k e1 e2
   rw [CZ _ _ _ _ _ (by omega),LV tl ok2 (R++[k]) (fun x V=>Y x (ry _ V)) (by simp;omega),e1,e2]
   simp [xJ]
  unfold cN
  by_cases X:g.Tag=1
  ·rw [bJ (by simp [X])]
   exact key _ _ (by simp [BU,X]) (by simp [BU,X])
  rw [bk (by simpa using X)]
  show(oU g.Arg l.a_).bind _=_
  rw [oj g.Arg l.a_ (by have:=Y g (qa ..);omega),bG]
  by_cases h3:g.Tag=3
  ·rw [bJ (by simp [h3])]
   exact key _ _ (by simp [BU,h3,xJ]) (by simp [BU,h3])
  rw [bk (by simpa using h3)]
  unfold iM
  by_cases h4:g.Tag=4
  ·rw [bJ (by simp [h4]),bJ (by simp [h4])]
   exact key _ _ (by simp [BU,h4,xJ]) (by simp [BU,h4])
  rw [bk (by simpa using h4)]
  by_cases h5:g.Tag=5
  ·rw [bJ (by simp [h5])]
   exact key _ _ (by simp [BU,h5,xJ]) (by simp [BU,h5])
  rw [bk (by simpa using h5)]
  exact key _ _ (by simp [BU,X,h3,h4,h5,xJ]) (by simp [BU,X,h3,h4,h5])
def Rv{l:aq}(h:Lb l): ∀(ks:List Int) (R:List Int),R.length+ks.length<=5000-> ∃ok R',dV l ks {l with result:=R}=some (ok,{l with result:=R' })/\ok=(!(ks.any (wj l.a_))&&((((decide ((l.n.Keys.length:Int)<=(3:Int)))&&(decide ((l.n.Aggs.length:Int)<=(12:Int))))&&(decide ((0:Int)<(IntKind.i64.wrap ((l.n.Keys.length:Int)+(l.n.Aggs.length:Int))))))&&l.n.Aggs.all fun g=>(BU g l.a_).2))/\(ks.any (wj l.a_)=false->R' =R++ks.map (PS l.a_)++l.n.Aggs.map fun g=>(BU g l.a_).1)
 |[],R,hR=>by
  unfold dV
  rw [LV l.n.Aggs _ R h.n.args (by have:=h.n.aggs;simp at hR;omega)]
  exact⟨_,_,rfl,by simp,fun _=>by simp⟩
 |k::tl,R,hR=>by
  simp only [iG]at hR
  unfold dV
  show∃ok R',(if wj l.a_ k=true then _ else _)=_/\_
  cases hk:wj l.a_ k with
  |true=>rw [bJ rfl];exact⟨false,R,rfl,by simp [hk],fun h=>by simp [hk]at h⟩
  |false=>
   rw [bk (by simp)]
   show∃ok R',(gB l.a_ k).bind _=_/\_
   rw [LU hk,bG]
   show∃ok R',(app R [PS l.a_ k]).bind _=_/\_
   rw [cd (by simp;omega),bG]
   obtain⟨ok,R',X,K,h3⟩:=Rv h tl (R++[PS l.a_ k]) (by simp;omega)
   exact⟨ok,R',X,by rw [K];simp [hk],fun hn=>by
    simp [hk]at hn
    rw [h3 (by simpa using hn)]
    simp⟩
def An{l:aq}(h:Lb l){n:tV}(hop:n.Op=4)(hn:jJ n)(hK:n.Keys=l.n.Keys)(hG:n.Aggs=l.n.Aggs)(b:List Int): ∃ok R o k,fd l=some (ok,{l with result:=R})/\cK n l.a_ b=some (k,o)/\ok=o/\(ok=true->R=k/\R.length=l.n.Keys.length+l.n.Aggs.length):=by
 unfold fd
 obtain⟨ok,R,X,K,h3⟩:=Rv h l.n.Keys [] (by have:=h.n.keys;simpa using this)
 have hr:=YE (a:=l.a_) (b:=b) hn hop
 rw [hK,hG]at hr
 cases hany:l.n.Keys.any (wj l.a_)with
 |true=>
  rw [hany,bJ rfl]at hr
  exact⟨ok,R,_,_,X,hr,by rw [K,hany];rfl,fun ho=>by rw [K,hany]at ho;cases ho⟩
 |false=>
  rw [hany,bk (by simp)]at hr
  have hkl:=h.n.keys
  have hgl:=h.n.aggs
  have e1:IntKind.i64.wrap ((l.n.Keys.length:Int)+(l.n.Aggs.length:Int))=((l.n.Keys.length+l.n.Aggs.length:Nat):Int):=by rw [fg (by omega) (by omega)];omega
  have hall:(l.n.Aggs.all fun g=>(BU g l.a_).2)=l.n.Aggs.all fun e=>(MA e l.a_).2:=by
   congr 1;funext e;exact(BT e l.a_).1
  refine⟨ok,R,_,_,X,hr,?_,fun ho=>?_⟩
  ·rw [K,hany,hall,e1]
   simp only [AU,oX]
   cases (l.n.Aggs.all fun e=>(MA e l.a_).2)<;>simp
  ·have hR:=h3 hany
   rw [oY]at hR
   rw [K,pt,pt]at ho
   have hm:l.n.Aggs.map (fun g=>(BU g l.a_).1)=l.n.Aggs.map fun e=>(MA e l.a_).1:=Gi fun e he=>(BT e l.a_).2 (mo.1 ho.2.2 e he)
   exact⟨by rw [hR,hm],by rw [hR];simp⟩
def LW{l:aq}(h:Lb l)(hop:l.n.Op=4):zz fd l:=by
 obtain⟨ok,R,o,k,X,K,h3,h4⟩:=An h hop h.n rfl rfl l.b
 exact⟨ok,R,o,k,X,K,.of h3 fun ho=>(h4 ho).1⟩
def Ql{l:aq}: ∀(tl tb:List Int) (i:Nat) (R:List Int),l.b.drop i=tb->tl.length=tb.length->R.length+tl.length<=1000-> ∃ok R',dR tl i {l with result:=R}=some (ok,{l with result:=R' })/\ok=(tl.zip tb).all Di/\(ok=true->R' =R++List.zipWith HG tl tb)
 |[],tb,i,R,hd,hl,_=>by
  have:tb=[]:=tH hl.symm
  subst this
  exact⟨true,R,rfl,rfl,fun _=>by simp⟩
 |x::tl,[],i,R,hd,hl,_=>by simp at hl
 |x::tl,y::tb,i,R,hd,hl,hm=>by
  simp only [iG,MP]at hl hm
  obtain⟨X,K,h3⟩:=jb hd
  unfold dR
  show∃ok R',(gB l.b (i:Int)).bind _=_/\_
  rw [X,bG]
  have key:gi (dR tl) i {l with result:=R} y (HG x y)=(if Di (x,y)then dR tl (i+1) {l with result:=R++[HG x y]}else some (false,{l with result:=R})):=by
   unfold gi
   have e:((y !=(0:Int))&&(y !=HG x y))= !(Di (x,y)):=by
    unfold Di
    simp only [bne,Bool.not_or]
    rw [Bool.and_comm]
   rw [e]
   cases Di (x,y)with
   |true=>
    rw [bk (by simp),bJ rfl]
    show(app R [HG x y]).bind _=_
    rw [cd (by simp;omega)]
    rfl
   |false=>rw [bJ (by simp),bk (by simp)]
  have ER: ∃ok R',gi (dR tl) i {l with result:=R} y (HG x y)=some (ok,{l with result:=R' })/\ok=((x::tl).zip (y::tb)).all Di/\(ok=true->R' =R++List.zipWith HG (x::tl) (y::tb)):=by
   rw [key]
   cases hu:Di (x,y)with
   |false=>rw [bk (by simp)];exact⟨false,R,rfl,by simp [hu],fun h=>by cases h⟩
   |true=>
    rw [bJ rfl]
    obtain⟨ok,R',g1,g2,g3⟩:=Ql (l:=l) tl tb (i+1) (R++[HG x y]) h3 hl (by simp;omega)
    exact⟨ok,R',g1,by rw [g2];simp [hu],fun ho=>by rw [g3 ho];simp⟩
  by_cases V:x=0
  ·rw [bJ (by simp [V])]
   have:HG x y=y:=bJ V
   rw [this]at ER
   exact ER
  ·rw [bk (by simpa using V)]
   have:HG x y=x:=bk V
   rw [this]at ER
   exact ER
def Le{l:aq}(h:Lb l)(hop:l.n.Op=7):zz jE l:=by
 have ha:=h.a
 unfold zz jE
 rw [Zn hop ha]
 by_cases hl:l.a_.length=l.b.length
 ·rw [bk (by simp [hl]),bJ hl]
  obtain⟨ok,R,X,K,h3⟩:=Ql (l:=l) l.a_ l.b 0 [] rfl hl (by simp;omega)
  exact⟨ok,R,_,_,X,rfl,.of K fun ho=>by rw [h3 ho,oY]⟩
 ·rw [bJ (by simp;omega),bk hl]
  exact⟨false,l.result,_,_,by cases l;rfl,rfl,.of rfl fun h=>by cases h⟩
def Rh{l:aq}(h:Lb l)(hop:F0 l.n.Op=true):zz (fun l=>px l.n.Op l ()) l:=by
 have imp: ∀{m:aq->Option (Bool×aq)},zz m l->px l.n.Op l ()=m l->zz (fun l=>px l.n.Op l ()) l:=fun⟨ok,R,o,k,X,K,h3⟩ he=>⟨ok,R,o,k,he.trans X,K,h3⟩
 rcases oP hop with X|X|X|X|X|X|X|X
 ·exact imp (OQ h X) (by rw [X];rfl)
 ·exact imp (Pe h X) (by rw [X];rfl)
 ·exact imp (Ku h X) (by rw [X];rfl)
 ·exact imp (LW h X) (by rw [X];rfl)
 ·exact imp (HY h X) (by rw [X];rfl)
 ·exact imp (LP X) (by rw [X];rfl)
 ·exact imp (Le h X) (by rw [X];rfl)
 ·exact imp (OC h X) (by rw [X];rfl)
end Go.Proofs.YtdohlidddcgfjaaGreat


