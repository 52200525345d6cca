/- bR of this claim: Y11. -/
import Derived.Test.YtdohlidddcgfjaaGreatFbY5
import Derived.Test.YtdohlidddcgfjaaGreatFbQ4
set_option linter.all false
namespace Go.Proofs.YtdohlidddcgfjaaGreat
open Go

def Q7{n:aa}{a b:List Int}(hn:iN n)(hop:n.Op=1):cn n a b=some (n.Kinds,(((((n.Kinds.all fun k=>decide (1<=k)&&decide (k<=3)))&&(decide ((0:Int)<=n.Table)))&&(decide (n.Table<=(3:Int))))&&(decide ((1:Int)<=(n.Kinds.length:Int))))&&(decide ((n.Kinds.length:Int)<=(4:Int)))):=by
 have h:=hn.kinds
 have key: ∀(tl:List Int) (i:Nat) (fu:Nat) (ok:Bool),n.Kinds.drop i=tl->tl.length<fu->iI n fu ok (i:Int)=some (n.Kinds,((((ok&&tl.all fun k=>decide (1<=k)&&decide (k<=3))&&(decide ((0:Int)<=n.Table)))&&(decide (n.Table<=(3:Int))))&&(decide ((1:Int)<=(n.Kinds.length:Int))))&&(decide ((n.Kinds.length:Int)<=(4:Int)))):=by
  intro tl
  induction tl with
  |nil=>
   intro i fu ok hd hf
   obtain⟨fu,rfl⟩: ∃k,fu=k+1:=⟨fu-1,by omega⟩
   have:=BQ hd
   rw [iI,aZ (by simp;omega)]
   simp
  |cons x tl ih=>
   intro i fu ok hd hf
   simp only [jj]at hf
   obtain⟨fu,rfl⟩: ∃k,fu=k+1:=⟨fu-1,by omega⟩
   obtain⟨Y,H,Q⟩:=nL hd
   rw [iI,bu (by simp;omega),Y,d7 (by omega) (by omega)]
   simp only [br]
   have e:((i:Int)+1)=((i+1:Nat):Int):=by omega
   rw [e]
   have e2:((if ok=true then some (decide ((1:Int)<=x))else some false).bind fun t=>(if t=true then some (decide (x<=(3:Int)))else some false).bind fun t1=>iI n fu t1 ((i+1:Nat):Int))=iI n fu (ok&&(decide (1<=x)&&decide (x<=3))) ((i+1:Nat):Int):=by
    cases ok<;>by_cases V:(1:Int)<=x<;>simp [V]
   rw [e2,ih (i+1) fu _ Q (by omega)]
   simp only [zw,uy]
 have hr:cn n a b=iI n eI true (0:Int):=by unfold cn;rw [bu (by simp [hop])]
 exact hr.trans ((key n.Kinds 0 eI true rfl (uA (yG _) (mq (by omega)))).trans (by rw [mA]))
def Tt{n:aa}{a b:List Int}(hop:n.Op=2)(hal:a.length<=16)(hbl:b.length<=16):cn n a b=some (a++b,Hy n.Cond (a++b)):=by
 unfold cn
 rw [aZ (by simp [hop]),bu (by simp [hop]),cy (by simp;omega)]
 simp only [br,mz]
 rw [cy (by omega)]
 simp only [br]
 rw [uP]
 rfl
def Ts{n:aa}{a b:List Int}(hop:n.Op=3):cn n a b=some (a,Hy n.Cond a):=by
 unfold cn
 rw [aZ (by simp [hop]),aZ (by simp [hop]),bu (by simp [hop]),uP]
 rfl
def Tn{n:aa}{a b:List Int}(hop:n.Op=6):cn n a b=some (a,true):=by
 unfold cn
 rw [aZ (by simp [hop]),aZ (by simp [hop]),aZ (by simp [hop]),aZ (by simp [hop]),aZ (by simp [hop]),bu (by simp [hop])]
def ST{n:aa}{a b:List Int}(hn:iN n)(hop:n.Op=5):cn n a b=some (n.Items.map (fun e=>(eX e a).1),((n.Items.all fun e=>(eX e a).2==0)&&(decide ((1:Int)<=(n.Items.length:Int))))&&(decide ((n.Items.length:Int)<=(16:Int)))):=by
 have h:=hn.items
 have hr:cn n a b=k7 n a eI [] true (0:Int):=by unfold cn;rw [aZ (by simp [hop]),aZ (by simp [hop]),aZ (by simp [hop]),aZ (by simp [hop]),bu (by simp [hop])]
 have key: ∀(tl:List aM) (i:Nat) (fu:Nat) (out:List Int) (ok:Bool),n.Items.drop i=tl->i+tl.length=n.Items.length->tl.length<fu->out.length=i->k7 n a fu out ok (i:Int)=some (out++tl.map (fun e=>(eX e a).1),((ok&&tl.all fun e=>(eX e a).2==0)&&(decide ((1:Int)<=(n.Items.length:Int))))&&(decide ((n.Items.length:Int)<=(16:Int)))):=by
  intro tl
  induction tl with
  |nil=>
   intro i fu out ok hd hi hf ho
   obtain⟨fu,rfl⟩: ∃k,fu=k+1:=⟨fu-1,by omega⟩
   simp only [ul,zr]at hi
   rw [k7,aZ (by simp;omega)]
   simp [ho,hi]
  |cons x tl ih=>
   intro i fu out ok hd hi hf ho
   simp only [jj]at hf hi
   obtain⟨fu,rfl⟩: ∃k,fu=k+1:=⟨fu-1,by omega⟩
   obtain⟨Y,H,Q⟩:=nL hd
   rw [k7,bu (by simp;omega),Y]
   simp only [br]
   rw [pF]
   simp only [br]
   rw [cy (by simp;omega),d7 (by omega) (by omega)]
   simp only [br]
   have e:((i:Int)+1)=((i+1:Nat):Int):=by omega
   rw [e,ih (i+1) fu _ _ Q (by omega) (by omega) (by simp [ho])]
   simp [uy]
 exact hr.trans ((key n.Items 0 eI [] true rfl (by simp) (uA (yG _) (mq (by omega))) rfl).trans (by rw [mz,mA]))
def Tq{n:aa}{a b:List Int}(hn:iN n)(hop:n.Op=4):cn n a b=if n.Keys.any (uX a)then some ([],false)else some (n.Keys.map (LJ a)++n.Aggs.map (fun e=>(IZ e a).1),((((n.Aggs.all fun e=>(IZ e a).2)&&(decide ((n.Keys.length:Int)<=(3:Int))))&&(decide ((n.Aggs.length:Int)<=(12:Int))))&&(decide ((0:Int)<((n.Keys.length+n.Aggs.length:Nat):Int))))):=by
 have hK:=hn.keys
 have hA:=hn.aggs
 have hr:cn n a b=k9 n a eI [] (0:Int):=by unfold cn;rw [aZ (by simp [hop]),aZ (by simp [hop]),aZ (by simp [hop]),bu (by simp [hop])]
 have TF: ∀(tl:List fj) (i:Nat) (fu:Nat) (out:List Int) (ok:Bool),n.Aggs.drop i=tl->i+tl.length=n.Aggs.length->tl.length<fu->out.length<=5000+i->k8 n a fu out ok (i:Int)=some (out++tl.map (fun e=>(IZ e a).1),(((ok&&tl.all fun e=>(IZ e a).2)&&(decide ((n.Keys.length:Int)<=(3:Int))))&&(decide ((n.Aggs.length:Int)<=(12:Int))))&&(decide ((0:Int)<((out.length+tl.length:Nat):Int)))):=by
  intro tl
  induction tl with
  |nil=>
   intro i fu out ok hd hi hf ho
   obtain⟨fu,rfl⟩: ∃k,fu=k+1:=⟨fu-1,by omega⟩
   simp only [ul,zr]at hi
   rw [k8,aZ (by simp;omega)]
   simp
  |cons x tl ih=>
   intro i fu out ok hd hi hf ho
   simp only [jj]at hf hi
   obtain⟨fu,rfl⟩: ∃k,fu=k+1:=⟨fu-1,by omega⟩
   obtain⟨Y,H,Q⟩:=nL hd
   rw [k8,bu (by simp;omega),Y]
   simp only [br]
   rw [wS]
   simp only [br]
   rw [cy (by simp;omega),d7 (by omega) (by omega)]
   simp only [br]
   have e:((i:Int)+1)=((i+1:Nat):Int):=by omega
   rw [e,ih (i+1) fu _ _ Q (by omega) (by omega) (by simp;omega)]
   simp only [AA,zw,uy,oB,kO,jj,ul,Ax,mz]
   rw [show out.length+(0+1)+tl.length=out.length+(tl.length+1)from by omega]
 have Br: ∀(tl:List Int) (i:Nat) (fu:Nat) (out:List Int),n.Keys.drop i=tl->i+tl.length=n.Keys.length->tl.length<fu->out.length=i->k9 n a fu out (i:Int)=if tl.any (uX a)then some ([],false)else k8 n a eI (out++tl.map (LJ a)) true 0:=by
  intro tl
  induction tl with
  |nil=>
   intro i fu out hd hi hf ho
   obtain⟨fu,rfl⟩: ∃k,fu=k+1:=⟨fu-1,by omega⟩
   simp only [ul,zr]at hi
   rw [k9,aZ (by simp;omega)]
   simp
  |cons x tl ih=>
   intro i fu out hd hi hf ho
   simp only [jj]at hf hi
   obtain⟨fu,rfl⟩: ∃k,fu=k+1:=⟨fu-1,by omega⟩
   obtain⟨Y,H,Q⟩:=nL hd
   rw [k9,bu (by simp;omega),Y]
   simp only [br]
   cases V:uX a x with
   |true=>
    have hx' :(decide (x<0)||decide ((a.length:Int)<=x))=true:=V
    rw [bu hx',bu (by simp [V])]
   |false=>
    have hx' : ¬(decide (x<0)||decide ((a.length:Int)<=x))=true:=by rw [show(decide (x<0)||decide ((a.length:Int)<=x))=uX a x from rfl,V];decide
    rw [aZ hx',Ir V]
    simp only [br]
    rw [cy (by simp;omega),d7 (by omega) (by omega)]
    simp only [br]
    have e:((i:Int)+1)=((i+1:Nat):Int):=by omega
    rw [e,ih (i+1) fu _ Q (by omega) (by omega) (by simp [ho])]
    simp [V]
 have e3:=TF n.Aggs 0 eI (n.Keys.map (LJ a)) true rfl (by simp) (uA (yG _) (mq (by omega))) (by simp;omega)
 rw [CQ,mA]at e3
 have e2:=Br n.Keys 0 eI [] rfl (by simp) (uA (yG _) (mq (by omega))) rfl
 rw [mz]at e2
 exact hr.trans (e2.trans (congrArg (fun z=>if n.Keys.any (uX a)=true then some ([],false)else z) e3))
def Tm{n:aa}{a b:List Int}(hop:n.Op=7)(hal:a.length<=16):cn n a b=if a.length=b.length then some (List.zipWith Eg a b,(a.zip b).all z6)else some ([],false):=by
 unfold cn
 rw [aZ (by simp [hop]),aZ (by simp [hop]),aZ (by simp [hop]),aZ (by simp [hop]),aZ (by simp [hop]),aZ (by simp [hop]),bu (by simp [hop])]
 by_cases hl:a.length=b.length
 ·rw [aZ (by simp;omega),bu hl]
  have kr: ∀(tl tb:List Int) (i:Nat) (out:List Int) (ok:Bool),b.drop i=tb->tl.length=tb.length->out.length+tl.length<=1000->jH b tl i out ok=some (out++List.zipWith Eg tl tb,ok&&(tl.zip tb).all z6):=by
   intro tl
   induction tl with
   |nil=>
    intro tb i out ok hd h _
    have:tb=[]:=sd h.symm
    subst this
    simp [jH]
   |cons x tl ih=>
    intro tb i out ok hd h hm
    cases tb with
    |nil=>simp at h
    |cons y tb=>
     simp only [jj,Je]at h hm
     obtain⟨Y,H,Q⟩:=nL hd
     rw [jH,Y]
     simp only [br]
     have step: ∀z:Int,oK b (jH b tl) i out ok z=some (out++z::List.zipWith Eg tl tb,ok&&((y==z||y==0)&&(tl.zip tb).all z6)):=by
      intro z
      unfold oK
      rw [cy (by simp;omega),Y]
      simp only [br]
      cases ok with
      |true=>
       simp only [jY,br,mA]
       cases hyz:y==z with
       |true=>
        simp only [qK,o0,md,br]
        rw [ih tb (i+1) _ _ Q h (by simp;omega)]
        simp
       |false=>
        simp only [xy,jY,br]
        rw [ih tb (i+1) _ _ Q h (by simp;omega)]
        simp
      |false=>
       simp only [o0,md,br,Bool.false_and]
       rw [ih tb (i+1) _ _ Q h (by simp;omega)]
       simp
     by_cases V:x=0
     ·subst V
      rw [bu (by simp),step y]
      simp [z6,Eg]
     ·rw [aZ (by simpa using V),step x]
      have:Eg x y=x:=by unfold Eg;rw [aZ V]
      simp only [List.zipWith_cons_cons,List.zip_cons_cons,zw,z6,this]
  rw [kr a b 0 [] true rfl hl (by simp;omega),mz,mA]
 ·rw [bu (by simp;omega),aZ hl]
def Tl{n:aa}{a b:List Int}(hn:iN n)(hop:n.Op=8):cn n a b=some (a,((((n.Order.all fun e=>decide (0<=e.Col)&&decide (e.Col<(a.length:Int)))&&(decide ((n.Order.length:Int)<=(3:Int))))&&(decide ((-1:Int)<=n.Limit)))&&(decide (n.Limit<=(2147483647:Int))))):=by
 have h:=hn.order
 have hr:cn n a b=iH n a eI true (0:Int):=by unfold cn;rw [aZ (by simp [hop]),aZ (by simp [hop]),aZ (by simp [hop]),aZ (by simp [hop]),aZ (by simp [hop]),aZ (by simp [hop]),aZ (by simp [hop])]
 have key: ∀(tl:List j3) (i:Nat) (fu:Nat) (ok:Bool),n.Order.drop i=tl->i+tl.length=n.Order.length->tl.length<fu->iH n a fu ok (i:Int)=some (a,((((ok&&tl.all fun e=>decide (0<=e.Col)&&decide (e.Col<(a.length:Int)))&&(decide ((n.Order.length:Int)<=(3:Int))))&&(decide ((-1:Int)<=n.Limit)))&&(decide (n.Limit<=(2147483647:Int))))):=by
  intro tl
  induction tl with
  |nil=>
   intro i fu ok hd hi hf
   obtain⟨fu,rfl⟩: ∃k,fu=k+1:=⟨fu-1,by omega⟩
   simp only [ul,zr]at hi
   rw [iH,aZ (by simp;omega)]
   simp
  |cons x tl ih=>
   intro i fu ok hd hi hf
   simp only [jj]at hf hi
   obtain⟨fu,rfl⟩: ∃k,fu=k+1:=⟨fu-1,by omega⟩
   obtain⟨Y,H,Q⟩:=nL hd
   rw [iH,bu (by simp;omega),Y,d7 (by omega) (by omega)]
   simp only [br]
   have e:((i:Int)+1)=((i+1:Nat):Int):=by omega
   rw [e]
   have e2:((if ok=true then some (decide ((0:Int)<=x.Col))else some false).bind fun t=>(if t=true then some (decide (x.Col<(a.length:Int)))else some false).bind fun t1=>iH n a fu t1 ((i+1:Nat):Int))=iH n a fu (ok&&(decide (0<=x.Col)&&decide (x.Col<(a.length:Int)))) ((i+1:Nat):Int):=by
    cases ok<;>by_cases V:(0:Int)<=x.Col<;>simp [V]
   rw [e2,ih (i+1) fu _ Q (by omega) (by omega)]
   simp only [zw,uy]
 exact hr.trans ((key n.Order 0 eI true rfl (by simp) (uA (yG _) (mq (by omega)))).trans (by rw [mA]))
def NM(ok:Bool)(R:List Int)(o:Bool)(k:List Int):Prop:=(ok&&decide (R.length<=16))=(o&&decide (k.length<=16))/\((ok&&decide (R.length<=16))=true->R=k)
def NM.of{ok o:Bool}{R k:List Int}(Y:ok=o)(H:ok=true->R=k):NM ok R o k:=by
 subst Y
 cases ok with
 |false=>exact⟨rfl,fun h=>by cases h⟩
 |true=>have:=H rfl;subst this;exact⟨rfl,fun _=>rfl⟩
def wg(m:ai->Option (Bool×ai))(l:ai):Prop:= ∃ok R o k,m l=some (ok,{l with result:=R})/\cn l.n l.a_ l.b=some (k,o)/\NM ok R o k
def AR(e:aM)(kinds:List Int)(h:e.Nodes.length<=5000):i0 e kinds=some (Hy e kinds):=by
 unfold i0 Hy
 rw [lG e kinds (by omega)]
 simp only [br,Bool.or_comm]
def KJ{l:ai}(h:Lb l)(hop:l.n.Op=1):wg iK l:=by
 unfold wg iK
 rw [jh (f:=m6) (g:=fun k=>(decide (k<(1:Int)))||(decide ((3:Int)<k))) (fun _=>rfl),br]
 refine⟨_,_,_,_,rfl,Q7 h.n hop,.of ?_ fun _=>rfl⟩
 have e3:(!(l.n.Kinds.any fun k=>(decide (k<(1:Int)))||(decide ((3:Int)<k))))=l.n.Kinds.all fun k=>decide (1<=k)&&decide (k<=3):=by
  rw [List.not_any_eq_all_not]
  congr 1
  funext k
  rw [Cl]
  simp
 show(((((!(l.n.Kinds.any fun k=>(decide (k<(1:Int)))||(decide ((3:Int)<k))))&&(decide ((0:Int)<=l.n.Table)))&&(decide (l.n.Table<(4:Int))))&&(decide ((0:Int)<(l.n.Kinds.length:Int))))&&(decide ((l.n.Kinds.length:Int)<=(4:Int))))=_
 rw [e3]
 have e1:decide (l.n.Table<(4:Int))=decide (l.n.Table<=(3:Int)):=by rw [Ff];omega
 have e2:decide ((0:Int)<(l.n.Kinds.length:Int))=decide ((1:Int)<=(l.n.Kinds.length:Int)):=by rw [Ff];omega
 rw [e1,e2]
def La{l:ai}(h:Lb l)(hop:l.n.Op=2):wg fV l:=by
 unfold wg fV
 have ha:=h.a
 have W:=h.b
 rw [Ch _ _ (by omega) (by omega),br]
 show∃ok R o k,(i0 l.n.Cond (l.a_++l.b)).bind _=_/\_
 rw [AR _ _ h.n.cond,br]
 exact⟨_,_,_,_,rfl,Tt hop ha W,.of rfl fun _=>rfl⟩
def GG{l:ai}(h:Lb l)(hop:l.n.Op=3):wg ew l:=by
 unfold wg ew
 show∃ok R o k,(i0 l.n.Cond l.a_).bind _=_/\_
 rw [AR _ _ h.n.cond,br]
 exact⟨_,_,_,_,rfl,Ts hop,.of rfl fun _=>rfl⟩
def Ik{l:ai}(hop:l.n.Op=6):wg j4 l:=⟨_,_,_,_,rfl,Tn hop,.of rfl fun _=>rfl⟩
def Kx{l:ai}(h:Lb l)(hop:l.n.Op=8):wg iJ l:=by
 unfold wg iJ
 rw [qj (f:=lb {l with result:=l.a_}) (g:=fun o=>(decide (o.Col<(0:Int)))||(decide ((l.a_.length:Int)<=o.Col))) (fun _=>rfl),br]
 refine⟨_,_,_,_,rfl,Tl h.n hop,.of ?_ fun _=>rfl⟩
 have e3:(!(l.n.Order.any fun o=>(decide (o.Col<(0:Int)))||(decide ((l.a_.length:Int)<=o.Col))))=l.n.Order.all fun e=>decide (0<=e.Col)&&decide (e.Col<(l.a_.length:Int)):=by
  rw [List.not_any_eq_all_not]
  congr 1
  funext k
  rw [Cl]
  simp
 show((((!(l.n.Order.any fun o=>(decide (o.Col<(0:Int)))||(decide ((l.a_.length:Int)<=o.Col))))&&(decide ((l.n.Order.length:Int)<=(3:Int))))&&(decide ((-1:Int)<=l.n.Limit)))&&(decide (l.n.Limit<=(2147483647:Int))))=_
 rw [e3]
def Jt{l:ai}: ∀(tl:List aM) (R:List Int),(∀e∈tl,e.Nodes.length<=5000)->R.length+tl.length<=10000-> ∃ok R',dH tl {l with result:=R}=some (ok,{l with result:=R' })/\ok=((tl.all fun e=>(eX e l.a_).2==0)&&decide (0<R.length+tl.length))/\(ok=true->R' =R++tl.map fun e=>(eX e l.a_).1)
 |[],R,_,_=>⟨_,R,rfl,by simp,fun _=>by simp⟩
 |e::tl,R,he,hl=>by
  simp only [jj]at hl
  unfold dH
  show∃ok R',(ma e l.a_).bind _=_/\_
  rw [lG _ _ (by have:=he e (nV ..);omega),br]
  by_cases h0:(eX e l.a_).2=0
  ·rw [aZ (by simp [h0])]
   show∃ok R',(jb R [(eX e l.a_).1]).bind _=_/\_
   rw [cy (by simp;omega),br]
   obtain⟨ok,R',Y,H,Q⟩:=Jt (l:=l) tl (R++[(eX e l.a_).1]) (fun x V=>he x (o8 _ V)) (by simp;omega)
   refine⟨ok,R',Y,?_,fun ho=>by rw [Q ho];simp⟩
   rw [H]
   have e1:decide (0<(R++[(eX e l.a_).1]).length+tl.length)=true:=by simp;omega
   have e2:decide (0<R.length+(e::tl).length)=true:=by simp;omega
   rw [e1,e2]
   simp [h0]
  ·rw [bu (by simpa using h0)]
   exact⟨false,R,rfl,by simp [h0],fun h=>by cases h⟩
def Es{l:ai}(h:Lb l)(hop:l.n.Op=5):wg gC l:=by
 have hi:=h.n.items
 obtain⟨ok,R,Y,H,Q⟩:=Jt (l:=l) l.n.Items [] h.n.exprs (by simp;omega)
 refine⟨ok,R,_,_,Y,ST h.n hop,?_⟩
 cases ok with
 |false=>
  refine⟨?_,fun h=>by cases h⟩
  rw [Bool.false_and]
  cases hall:l.n.Items.all fun e=>(eX e l.a_).2==0 with
  |false=>simp
  |true=>
   rw [hall,mA]at H
   have:l.n.Items.length=0:=by simpa using H.symm
   simp [this]
 |true=>
  have hR:=Q rfl
  rw [mz]at hR
  refine⟨?_,fun _=>hR⟩
  rw [hR]
  have h2' :=H.symm
  rw [iO,o9]at h2'
  have e1:decide ((1:Int)<=(l.n.Items.length:Int))=true:=by have:=h2'.2;simp at this ⊢;omega
  rw [h2'.1,e1,mA,mA,mA]
  rw [CQ,Cl]
  simp
  omega
def zm(g:fj)(a:List Int):Int×Bool:=
 if g.Tag=1 then(2,(g.Arg.Nodes.length:Int)==0)else
 if g.Tag=3 then(2,((((eX g.Arg a).2==0)&&decide (1<g.Tag))&&decide (g.Tag<=5))&&((eX g.Arg a).1==2||(eX g.Arg a).1==0))else
 if g.Tag=4\/g.Tag=5 then((eX g.Arg a).1,(((eX g.Arg a).2==0)&&decide (1<g.Tag))&&decide (g.Tag<=5))else(2,(((eX g.Arg a).2==0)&&decide (1<g.Tag))&&decide (g.Tag<=5))
def B5(a:fj)(kinds:List Int):(zm a kinds).2=(IZ a kinds).2/\((zm a kinds).2=true->(zm a kinds).1=(IZ a kinds).1):=by
 unfold IZ lO zm
 rw [pF]
 simp only [br]
 by_cases Y:a.Tag=1
 ·simp [Y]
 by_cases H:a.Tag=2
 ·by_cases he:(eX a.Arg kinds).2=0<;>simp [H,he]
 by_cases Q:a.Tag=3
 ·by_cases he:(eX a.Arg kinds).2=0
  ·by_cases h0:(eX a.Arg kinds).1=0
   ·simp [Q,he,h0]
   ·by_cases h02:(eX a.Arg kinds).1=2<;>simp [Q,he,h0,h02]
  ·simp [Q,he]
 by_cases h4:a.Tag=4
 ·by_cases he:(eX a.Arg kinds).2=0<;>simp [h4,he]
 by_cases h5:a.Tag=5
 ·by_cases he:(eX a.Arg kinds).2=0<;>simp [h5,he]
 have:a.Tag<1\/5<a.Tag:=by omega
 have h7: ¬(1<a.Tag/\a.Tag<=5):=by omega
 have h8:(decide (1<a.Tag)&&decide (a.Tag<=5))=false:=by rw [AD];simpa using h7
 simp [Y,Q,h4,h5,this,uy,h8]
def Is{l:ai}: ∀(gs:List fj) (ok:Bool) (R:List Int),(∀g∈gs,g.Arg.Nodes.length<=5000)->R.length+gs.length<=20000->cd gs ok {l with result:=R}=some (ok&&gs.all fun g=>(zm g l.a_).2,{l with result:=R++gs.map fun g=>(zm g l.a_).1})
 |[],ok,R,_,_=>by unfold cd;simp
 |g::tl,ok,R,X,hR=>by
  simp only [jj]at hR
  have key: ∀(ok2:Bool) (k:Int),(ok2=(ok&&(zm g l.a_).2))->k=(zm g l.a_).1->dP (cd tl) {l with result:=R} ok2 k=some (ok&&(g::tl).all fun g=>(zm g l.a_).2,{l with result:=R++(g::tl).map fun g=>(zm g l.a_).1}):=by
   intro ok2 k e1 e2
   rw [zJ _ _ _ _ _ (by omega),Is tl ok2 (R++[k]) (fun x V=>X x (o8 _ V)) (by simp;omega),e1,e2]
   simp [uy]
  unfold cd
  by_cases Y:g.Tag=1
  ·rw [bu (by simp [Y])]
   exact key _ _ (by simp [zm,Y]) (by simp [zm,Y])
  rw [aZ (by simpa using Y)]
  show(ma g.Arg l.a_).bind _=_
  rw [lG g.Arg l.a_ (by have:=X g (nV ..);omega),br]
  by_cases Q:g.Tag=3
  ·rw [bu (by simp [Q])]
   exact key _ _ (by simp [zm,Q,uy]) (by simp [zm,Q])
  rw [aZ (by simpa using Q)]
  unfold f6
  by_cases h4:g.Tag=4
  ·rw [bu (by simp [h4]),bu (by simp [h4])]
   exact key _ _ (by simp [zm,h4,uy]) (by simp [zm,h4])
  rw [aZ (by simpa using h4)]
  by_cases h5:g.Tag=5
  ·rw [bu (by simp [h5])]
   exact key _ _ (by simp [zm,h5,uy]) (by simp [zm,h5])
  rw [aZ (by simpa using h5)]
  exact key _ _ (by simp [zm,Y,Q,h4,h5,uy]) (by simp [zm,Y,Q,h4,h5])
def MX{l:ai}(h:Lb l): ∀(ks:List Int) (R:List Int),R.length+ks.length<=5000-> ∃ok R',cT l ks {l with result:=R}=some (ok,{l with result:=R' })/\ok=(!(ks.any (uX l.a_))&&((((decide ((l.n.Keys.length:Int)<=(3:Int)))&&(decide ((l.n.Aggs.length:Int)<=(12:Int))))&&(decide ((0:Int)<(IntKind.i64.wrap ((l.n.Keys.length:Int)+(l.n.Aggs.length:Int))))))&&l.n.Aggs.all fun g=>(zm g l.a_).2))/\(ks.any (uX l.a_)=false->R' =R++ks.map (LJ l.a_)++l.n.Aggs.map fun g=>(zm g l.a_).1)
 |[],R,hR=>by
  unfold cT
  rw [Is l.n.Aggs _ R h.n.args (by have:=h.n.aggs;simp at hR;omega)]
  exact⟨_,_,rfl,by simp,fun _=>by simp⟩
 |k::tl,R,hR=>by
  simp only [jj]at hR
  unfold cT
  show∃ok R',(if uX l.a_ k=true then _ else _)=_/\_
  cases hk:uX l.a_ k with
  |true=>rw [bu rfl];exact⟨false,R,rfl,by simp [hk],fun h=>by simp [hk]at h⟩
  |false=>
   rw [aZ (by simp)]
   show∃ok R',(ga l.a_ k).bind _=_/\_
   rw [Ir hk,br]
   show∃ok R',(jb R [LJ l.a_ k]).bind _=_/\_
   rw [cy (by simp;omega),br]
   obtain⟨ok,R',Y,H,Q⟩:=MX h tl (R++[LJ l.a_ k]) (by simp;omega)
   exact⟨ok,R',Y,by rw [H];simp [hk],fun hn=>by
    simp [hk]at hn
    rw [Q (by simpa using hn)]
    simp⟩
def Bt{l:ai}(h:Lb l){n:aa}(hop:n.Op=4)(hn:iN n)(hK:n.Keys=l.n.Keys)(hG:n.Aggs=l.n.Aggs)(b:List Int): ∃ok R o k,dF l=some (ok,{l with result:=R})/\cn n l.a_ b=some (k,o)/\ok=o/\(ok=true->R=k/\R.length=l.n.Keys.length+l.n.Aggs.length):=by
 unfold dF
 obtain⟨ok,R,Y,H,Q⟩:=MX h l.n.Keys [] (by have:=h.n.keys;simpa using this)
 have hr:=Tq (a:=l.a_) (b:=b) hn hop
 rw [hK,hG]at hr
 cases hany:l.n.Keys.any (uX l.a_)with
 |true=>
  rw [hany,bu rfl]at hr
  exact⟨ok,R,_,_,Y,hr,by rw [H,hany];rfl,fun ho=>by rw [H,hany]at ho;cases ho⟩
 |false=>
  rw [hany,aZ (by simp)]at hr
  have hkl:=h.n.keys
  have hgl:=h.n.aggs
  have e1:IntKind.i64.wrap ((l.n.Keys.length:Int)+(l.n.Aggs.length:Int))=((l.n.Keys.length+l.n.Aggs.length:Nat):Int):=by rw [d7 (by omega) (by omega)];omega
  have hall:(l.n.Aggs.all fun g=>(zm g l.a_).2)=l.n.Aggs.all fun e=>(IZ e l.a_).2:=by
   congr 1;funext e;exact(B5 e l.a_).1
  refine⟨ok,R,_,_,Y,hr,?_,fun ho=>?_⟩
  ·rw [H,hany,hall,e1]
   simp only [xy,mA]
   cases (l.n.Aggs.all fun e=>(IZ e l.a_).2)<;>simp
  ·have hR:=Q hany
   rw [mz]at hR
   rw [H,iO,iO]at ho
   have hm:l.n.Aggs.map (fun g=>(zm g l.a_).1)=l.n.Aggs.map fun e=>(IZ e l.a_).1:=Fh fun e he=>(B5 e l.a_).2 (me.1 ho.2.2 e he)
   exact⟨by rw [hR,hm],by rw [hR];simp⟩
def Iu{l:ai}(h:Lb l)(hop:l.n.Op=4):wg dF l:=by
 obtain⟨ok,R,o,k,Y,H,Q,h4⟩:=Bt h hop h.n rfl rfl l.b
 exact⟨ok,R,o,k,Y,H,.of Q fun ho=>(h4 ho).1⟩
def L0{l:ai}: ∀(tl tb:List Int) (i:Nat) (R:List Int),l.b.drop i=tb->tl.length=tb.length->R.length+tl.length<=1000-> ∃ok R',cS tl i {l with result:=R}=some (ok,{l with result:=R' })/\ok=(tl.zip tb).all z6/\(ok=true->R' =R++List.zipWith Eg tl tb)
 |[],tb,i,R,hd,hl,_=>by
  have:tb=[]:=sd hl.symm
  subst this
  exact⟨true,R,rfl,rfl,fun _=>by simp⟩
 |x::tl,[],i,R,hd,hl,_=>by simp at hl
 |x::tl,y::tb,i,R,hd,hl,hm=>by
  simp only [jj,Je]at hl hm
  obtain⟨Y,H,Q⟩:=nL hd
  unfold cS
  show∃ok R',(ga l.b (i:Int)).bind _=_/\_
  rw [Y,br]
  have key:ej (cS tl) i {l with result:=R} y (Eg x y)=(if z6 (x,y)then cS tl (i+1) {l with result:=R++[Eg x y]}else some (false,{l with result:=R})):=by
   unfold ej
   have e:((y !=(0:Int))&&(y !=Eg x y))= !(z6 (x,y)):=by
    unfold z6
    simp only [bne,Bool.not_or]
    rw [Bool.and_comm]
   rw [e]
   cases z6 (x,y)with
   |true=>
    rw [aZ (by simp),bu rfl]
    show(jb R [Eg x y]).bind _=_
    rw [cy (by simp;omega)]
    rfl
   |false=>rw [bu (by simp),aZ (by simp)]
  have Br: ∃ok R',ej (cS tl) i {l with result:=R} y (Eg x y)=some (ok,{l with result:=R' })/\ok=((x::tl).zip (y::tb)).all z6/\(ok=true->R' =R++List.zipWith Eg (x::tl) (y::tb)):=by
   rw [key]
   cases hu:z6 (x,y)with
   |false=>rw [aZ (by simp)];exact⟨false,R,rfl,by simp [hu],fun h=>by cases h⟩
   |true=>
    rw [bu rfl]
    obtain⟨ok,R',g1,g2,g3⟩:=L0 (l:=l) tl tb (i+1) (R++[Eg x y]) Q hl (by simp;omega)
    exact⟨ok,R',g1,by rw [g2];simp [hu],fun ho=>by rw [g3 ho];simp⟩
  by_cases V:x=0
  ·rw [bu (by simp [V])]
   have:Eg x y=y:=bu V
   rw [this]at Br
   exact Br
  ·rw [aZ (by simpa using V)]
   have:Eg x y=x:=aZ V
   rw [this]at Br
   exact Br
def Hv{l:ai}(h:Lb l)(hop:l.n.Op=7):wg gV l:=by
 have ha:=h.a
 unfold wg gV
 rw [Tm hop ha]
 by_cases hl:l.a_.length=l.b.length
 ·rw [aZ (by simp [hl]),bu hl]
  obtain⟨ok,R,Y,H,Q⟩:=L0 (l:=l) l.a_ l.b 0 [] rfl hl (by simp;omega)
  exact⟨ok,R,_,_,Y,rfl,.of H fun ho=>by rw [Q ho,mz]⟩
 ·rw [bu (by simp;omega),aZ hl]
  exact⟨false,l.result,_,_,by cases l;rfl,rfl,.of rfl fun h=>by cases h⟩
def Rt{l:ai}(h:Lb l)(hop:Du l.n.Op=true):wg (fun l=>nF l.n.Op l ()) l:=by
 have imp: ∀{m:ai->Option (Bool×ai)},wg m l->nF l.n.Op l ()=m l->wg (fun l=>nF l.n.Op l ()) l:=fun⟨ok,R,o,k,Y,H,Q⟩ he=>⟨ok,R,o,k,he.trans Y,H,Q⟩
 rcases ph hop with Y|Y|Y|Y|Y|Y|Y|Y
 ·exact imp (KJ h Y) (by rw [Y];rfl)
 ·exact imp (La h Y) (by rw [Y];rfl)
 ·exact imp (GG h Y) (by rw [Y];rfl)
 ·exact imp (Iu h Y) (by rw [Y];rfl)
 ·exact imp (Es h Y) (by rw [Y];rfl)
 ·exact imp (Ik Y) (by rw [Y];rfl)
 ·exact imp (Hv h Y) (by rw [Y];rfl)
 ·exact imp (Kx h Y) (by rw [Y];rfl)
end Go.Proofs.YtdohlidddcgfjaaGreat


