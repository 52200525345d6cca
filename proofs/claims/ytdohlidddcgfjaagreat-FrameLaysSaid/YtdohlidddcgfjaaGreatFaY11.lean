/- cT of this claim: Y11. -/
import Derived.Test.YtdohlidddcgfjaaGreatFaY5
import Derived.Test.YtdohlidddcgfjaaGreatFaQ4
set_option linter.all false
namespace Go.Proofs.YtdohlidddcgfjaaGreat
open Go

theorem Qn{n:ap}{a b:List Int}(hn:jg n)(hop:n.Op=1):cD n a b=some (n.Kinds,(((((n.Kinds.all fun k=>decide (1≤k)&&decide (k≤3)))&&(decide ((0:Int)≤n.Table)))&&(decide (n.Table≤(3:Int))))&&(decide ((1:Int)≤(n.Kinds.length:Int))))&&(decide ((n.Kinds.length:Int)≤(4:Int)))):=by
 have h:=hn.kinds
 have key: ∀(tl:List Int) (i:Nat) (fu:Nat) (ok:Bool),n.Kinds.drop i=tl→tl.length<fu→hM n fu ok (i:Int)=some (n.Kinds,((((ok&&tl.all fun k=>decide (1≤k)&&decide (k≤3))&&(decide ((0:Int)≤n.Table)))&&(decide (n.Table≤(3:Int))))&&(decide ((1:Int)≤(n.Kinds.length:Int))))&&(decide ((n.Kinds.length:Int)≤(4:Int)))):=by
  intro tl
  induction tl with
  |nil=>
   intro i fu ok hd hf
   obtain⟨fu,rfl⟩: ∃k,fu=k+1:=⟨fu-1,by omega⟩
   have:=BM hd
   rw [hM,aW (by simp;omega)]
   simp
  |cons x tl ih=>
   intro i fu ok hd hf
   simp only [nT]at hf
   obtain⟨fu,rfl⟩: ∃k,fu=k+1:=⟨fu-1,by omega⟩
   obtain⟨h1,h2,h3⟩:=ij hd
   rw [hM,bq (by simp;omega),h1,eC (by omega) (by omega)]
   simp only [bj]
   have e:((i:Int)+1)=((i+1:Nat):Int):=by omega
   rw [e]
   have e2:((if ok=true then some (decide ((1:Int)≤x))else some false).bind fun t=>(if t=true then some (decide (x≤(3:Int)))else some false).bind fun t1=>hM n fu t1 ((i+1:Nat):Int))=hM n fu (ok&&(decide (1≤x)&&decide (x≤3))) ((i+1:Nat):Int):=by
    cases ok<;>by_cases hx:(1:Int)≤x<;>simp [hx]
   rw [e2,ih (i+1) fu _ h3 (by omega)]
   simp only [vi,t7]
 have hr:cD n a b=hM n ef true (0:Int):=by unfold cD;rw [bq (by simp [hop])]
 exact hr.trans ((key n.Kinds 0 ef true rfl (vd (yT _) (m8 (by omega)))).trans (by rw [mZ]))
theorem SG{n:ap}{a b:List Int}(hop:n.Op=2)(hal:a.length≤16)(hbl:b.length≤16):cD n a b=some (a++b,Hg n.Cond (a++b)):=by
 unfold cD
 rw [aW (by simp [hop]),bq (by simp [hop]),bH (by simp;omega)]
 simp only [bj,lL]
 rw [bH (by omega)]
 simp only [bj]
 rw [vz]
 rfl
theorem SF{n:ap}{a b:List Int}(hop:n.Op=3):cD n a b=some (a,Hg n.Cond a):=by
 unfold cD
 rw [aW (by simp [hop]),aW (by simp [hop]),bq (by simp [hop]),vz]
 rfl
theorem SD{n:ap}{a b:List Int}(hop:n.Op=6):cD n a b=some (a,true):=by
 unfold cD
 rw [aW (by simp [hop]),aW (by simp [hop]),aW (by simp [hop]),aW (by simp [hop]),aW (by simp [hop]),bq (by simp [hop])]
theorem RZ{n:ap}{a b:List Int}(hn:jg n)(hop:n.Op=5):cD n a b=some (n.Items.map (fun e=>(fO e a).1),((n.Items.all fun e=>(fO e a).2==0)&&(decide ((1:Int)≤(n.Items.length:Int))))&&(decide ((n.Items.length:Int)≤(16:Int)))):=by
 have h:=hn.items
 have hr:cD n a b=j7 n a ef [] true (0:Int):=by unfold cD;rw [aW (by simp [hop]),aW (by simp [hop]),aW (by simp [hop]),aW (by simp [hop]),bq (by simp [hop])]
 have key: ∀(tl:List bv) (i:Nat) (fu:Nat) (out:List Int) (ok:Bool),n.Items.drop i=tl→i+tl.length=n.Items.length→tl.length<fu→out.length=i→j7 n a fu out ok (i:Int)=some (out++tl.map (fun e=>(fO e a).1),((ok&&tl.all fun e=>(fO e a).2==0)&&(decide ((1:Int)≤(n.Items.length:Int))))&&(decide ((n.Items.length:Int)≤(16:Int)))):=by
  intro tl
  induction tl with
  |nil=>
   intro i fu out ok hd hi hf ho
   obtain⟨fu,rfl⟩: ∃k,fu=k+1:=⟨fu-1,by omega⟩
   simp only [ua,zD]at hi
   rw [j7,aW (by simp;omega)]
   simp [ho,hi]
  |cons x tl ih=>
   intro i fu out ok hd hi hf ho
   simp only [nT]at hf hi
   obtain⟨fu,rfl⟩: ∃k,fu=k+1:=⟨fu-1,by omega⟩
   obtain⟨h1,h2,h3⟩:=ij hd
   rw [j7,bq (by simp;omega),h1]
   simp only [bj]
   rw [qC]
   simp only [bj]
   rw [bH (by simp;omega),eC (by omega) (by omega)]
   simp only [bj]
   have e:((i:Int)+1)=((i+1:Nat):Int):=by omega
   rw [e,ih (i+1) fu _ _ h3 (by omega) (by omega) (by simp [ho])]
   simp [t7]
 exact hr.trans ((key n.Items 0 ef [] true rfl (by simp) (vd (yT _) (m8 (by omega))) rfl).trans (by rw [lL,mZ]))
theorem SE{n:ap}{a b:List Int}(hn:jg n)(hop:n.Op=4):cD n a b=if n.Keys.any (vK a)then some ([],false)else some (n.Keys.map (KR a)++n.Aggs.map (fun e=>(Ic e a).1),((((n.Aggs.all fun e=>(Ic e a).2)&&(decide ((n.Keys.length:Int)≤(3:Int))))&&(decide ((n.Aggs.length:Int)≤(12:Int))))&&(decide ((0:Int)<((n.Keys.length+n.Aggs.length:Nat):Int))))):=by
 have hK:=hn.keys
 have hA:=hn.aggs
 have hr:cD n a b=j9 n a ef [] (0:Int):=by unfold cD;rw [aW (by simp [hop]),aW (by simp [hop]),aW (by simp [hop]),bq (by simp [hop])]
 have SM: ∀(tl:List fy) (i:Nat) (fu:Nat) (out:List Int) (ok:Bool),n.Aggs.drop i=tl→i+tl.length=n.Aggs.length→tl.length<fu→out.length≤5000+i→j8 n a fu out ok (i:Int)=some (out++tl.map (fun e=>(Ic e a).1),(((ok&&tl.all fun e=>(Ic e a).2)&&(decide ((n.Keys.length:Int)≤(3:Int))))&&(decide ((n.Aggs.length:Int)≤(12:Int))))&&(decide ((0:Int)<((out.length+tl.length:Nat):Int)))):=by
  intro tl
  induction tl with
  |nil=>
   intro i fu out ok hd hi hf ho
   obtain⟨fu,rfl⟩: ∃k,fu=k+1:=⟨fu-1,by omega⟩
   simp only [ua,zD]at hi
   rw [j8,aW (by simp;omega)]
   simp
  |cons x tl ih=>
   intro i fu out ok hd hi hf ho
   simp only [nT]at hf hi
   obtain⟨fu,rfl⟩: ∃k,fu=k+1:=⟨fu-1,by omega⟩
   obtain⟨h1,h2,h3⟩:=ij hd
   rw [j8,bq (by simp;omega),h1]
   simp only [bj]
   rw [xn]
   simp only [bj]
   rw [bH (by simp;omega),eC (by omega) (by omega)]
   simp only [bj]
   have e:((i:Int)+1)=((i+1:Nat):Int):=by omega
   rw [e,ih (i+1) fu _ _ h3 (by omega) (by omega) (by simp;omega)]
   simp only [CO,vi,t7,nh,lM,nT,ua,DC,lL]
   rw [show out.length+(0+1)+tl.length=out.length+(tl.length+1)from by omega]
 have By: ∀(tl:List Int) (i:Nat) (fu:Nat) (out:List Int),n.Keys.drop i=tl→i+tl.length=n.Keys.length→tl.length<fu→out.length=i→j9 n a fu out (i:Int)=if tl.any (vK a)then some ([],false)else j8 n a ef (out++tl.map (KR a)) true 0:=by
  intro tl
  induction tl with
  |nil=>
   intro i fu out hd hi hf ho
   obtain⟨fu,rfl⟩: ∃k,fu=k+1:=⟨fu-1,by omega⟩
   simp only [ua,zD]at hi
   rw [j9,aW (by simp;omega)]
   simp
  |cons x tl ih=>
   intro i fu out hd hi hf ho
   simp only [nT]at hf hi
   obtain⟨fu,rfl⟩: ∃k,fu=k+1:=⟨fu-1,by omega⟩
   obtain⟨h1,h2,h3⟩:=ij hd
   rw [j9,bq (by simp;omega),h1]
   simp only [bj]
   cases hx:vK a x with
   |true=>
    have hx' :(decide (x<0)||decide ((a.length:Int)≤x))=true:=hx
    rw [bq hx',bq (by simp [hx])]
   |false=>
    have hx' : ¬(decide (x<0)||decide ((a.length:Int)≤x))=true:=by rw [show(decide (x<0)||decide ((a.length:Int)≤x))=vK a x from rfl,hx];decide
    rw [aW hx',HN hx]
    simp only [bj]
    rw [bH (by simp;omega),eC (by omega) (by omega)]
    simp only [bj]
    have e:((i:Int)+1)=((i+1:Nat):Int):=by omega
    rw [e,ih (i+1) fu _ h3 (by omega) (by omega) (by simp [ho])]
    simp [hx]
 have e3:=SM n.Aggs 0 ef (n.Keys.map (KR a)) true rfl (by simp) (vd (yT _) (m8 (by omega))) (by simp;omega)
 rw [List.length_map,mZ]at e3
 have e2:=By n.Keys 0 ef [] rfl (by simp) (vd (yT _) (m8 (by omega))) rfl
 rw [lL]at e2
 exact hr.trans (e2.trans (congrArg (fun z=>if n.Keys.any (vK a)=true then some ([],false)else z) e3))
theorem SC{n:ap}{a b:List Int}(hop:n.Op=7)(hal:a.length≤16):cD n a b=if a.length=b.length then some (List.zipWith DO a b,(a.zip b).all Ai)else some ([],false):=by
 unfold cD
 rw [aW (by simp [hop]),aW (by simp [hop]),aW (by simp [hop]),aW (by simp [hop]),aW (by simp [hop]),aW (by simp [hop]),bq (by simp [hop])]
 by_cases hl:a.length=b.length
 ·rw [aW (by simp;omega),bq hl]
  have kr: ∀(tl tb:List Int) (i:Nat) (out:List Int) (ok:Bool),b.drop i=tb→tl.length=tb.length→out.length+tl.length≤1000→hE b tl i out ok=some (out++List.zipWith DO tl tb,ok&&(tl.zip tb).all Ai):=by
   intro tl
   induction tl with
   |nil=>
    intro tb i out ok hd h _
    have:tb=[]:=tv h.symm
    subst this
    simp [hE]
   |cons x tl ih=>
    intro tb i out ok hd h hm
    cases tb with
    |nil=>simp at h
    |cons y tb=>
     simp only [nT,Iq]at h hm
     obtain⟨h1,h2,h3⟩:=ij hd
     rw [hE,h1]
     simp only [bj]
     have step: ∀z:Int,nA b (hE b tl) i out ok z=some (out++z::List.zipWith DO tl tb,ok&&((y==z||y==0)&&(tl.zip tb).all Ai)):=by
      intro z
      unfold nA
      rw [bH (by simp;omega),h1]
      simp only [bj]
      cases ok with
      |true=>
       simp only [ow,bj,mZ]
       cases hyz:y==z with
       |true=>
        simp only [uY,vb,qK,bj]
        rw [ih tb (i+1) _ _ h3 h (by simp;omega)]
        simp
       |false=>
        simp only [xL,ow,bj]
        rw [ih tb (i+1) _ _ h3 h (by simp;omega)]
        simp
      |false=>
       simp only [vb,qK,bj,Bool.false_and]
       rw [ih tb (i+1) _ _ h3 h (by simp;omega)]
       simp
     by_cases hx:x=0
     ·subst hx
      rw [bq (by simp),step y]
      simp [Ai,DO]
     ·rw [aW (by simpa using hx),step x]
      have:DO x y=x:=by unfold DO;rw [aW hx]
      simp only [List.zipWith_cons_cons,List.zip_cons_cons,vi,Ai,this]
  rw [kr a b 0 [] true rfl hl (by simp;omega),lL,mZ]
 ·rw [bq (by simp;omega),aW hl]
theorem SB{n:ap}{a b:List Int}(hn:jg n)(hop:n.Op=8):cD n a b=some (a,((((n.Order.all fun e=>decide (0≤e.Col)&&decide (e.Col<(a.length:Int)))&&(decide ((n.Order.length:Int)≤(3:Int))))&&(decide ((-1:Int)≤n.Limit)))&&(decide (n.Limit≤(2147483647:Int))))):=by
 have h:=hn.order
 have hr:cD n a b=hD n a ef true (0:Int):=by unfold cD;rw [aW (by simp [hop]),aW (by simp [hop]),aW (by simp [hop]),aW (by simp [hop]),aW (by simp [hop]),aW (by simp [hop]),aW (by simp [hop])]
 have key: ∀(tl:List kq) (i:Nat) (fu:Nat) (ok:Bool),n.Order.drop i=tl→i+tl.length=n.Order.length→tl.length<fu→hD n a fu ok (i:Int)=some (a,((((ok&&tl.all fun e=>decide (0≤e.Col)&&decide (e.Col<(a.length:Int)))&&(decide ((n.Order.length:Int)≤(3:Int))))&&(decide ((-1:Int)≤n.Limit)))&&(decide (n.Limit≤(2147483647:Int))))):=by
  intro tl
  induction tl with
  |nil=>
   intro i fu ok hd hi hf
   obtain⟨fu,rfl⟩: ∃k,fu=k+1:=⟨fu-1,by omega⟩
   simp only [ua,zD]at hi
   rw [hD,aW (by simp;omega)]
   simp
  |cons x tl ih=>
   intro i fu ok hd hi hf
   simp only [nT]at hf hi
   obtain⟨fu,rfl⟩: ∃k,fu=k+1:=⟨fu-1,by omega⟩
   obtain⟨h1,h2,h3⟩:=ij hd
   rw [hD,bq (by simp;omega),h1,eC (by omega) (by omega)]
   simp only [bj]
   have e:((i:Int)+1)=((i+1:Nat):Int):=by omega
   rw [e]
   have e2:((if ok=true then some (decide ((0:Int)≤x.Col))else some false).bind fun t=>(if t=true then some (decide (x.Col<(a.length:Int)))else some false).bind fun t1=>hD n a fu t1 ((i+1:Nat):Int))=hD n a fu (ok&&(decide (0≤x.Col)&&decide (x.Col<(a.length:Int)))) ((i+1:Nat):Int):=by
    cases ok<;>by_cases hx:(0:Int)≤x.Col<;>simp [hx]
   rw [e2,ih (i+1) fu _ h3 (by omega) (by omega)]
   simp only [vi,t7]
 exact hr.trans ((key n.Order 0 ef true rfl (by simp) (vd (yT _) (m8 (by omega)))).trans (by rw [mZ]))
def ML(ok:Bool)(R:List Int)(o:Bool)(k:List Int):Prop:=(ok&&decide (R.length≤16))=(o&&decide (k.length≤16))∧((ok&&decide (R.length≤16))=true→R=k)
theorem ML.of{ok o:Bool}{R k:List Int}(h1:ok=o)(h2:ok=true→R=k):ML ok R o k:=by
 subst h1
 cases ok with
 |false=>exact⟨rfl,fun h=>by cases h⟩
 |true=>have:=h2 rfl;subst this;exact⟨rfl,fun _=>rfl⟩
def wV(m:al→Option (Bool×al))(l:al):Prop:= ∃ok R o k,m l=some (ok,{l with result:=R})∧cD l.n l.a_ l.b=some (k,o)∧ML ok R o k
theorem AW(e:bv)(kinds:List Int)(h:e.Nodes.length≤5000):jy e kinds=some (Hg e kinds):=by
 unfold jy Hg
 rw [mf e kinds (by omega)]
 simp only [bj,Bool.or_comm]
theorem JS{l:al}(h:Lb l)(hop:l.n.Op=1):wV jb l:=by
 unfold wV jb
 rw [jH (f:=od) (g:=fun k=>(decide (k<(1:Int)))||(decide ((3:Int)<k))) (fun _=>rfl),bj]
 refine⟨_,_,_,_,rfl,Qn h.n hop,.of ?_ fun _=>rfl⟩
 have e3:(!(l.n.Kinds.any fun k=>(decide (k<(1:Int)))||(decide ((3:Int)<k))))=l.n.Kinds.all fun k=>decide (1≤k)&&decide (k≤3):=by
  rw [List.not_any_eq_all_not]
  congr 1
  funext k
  rw [pX]
  simp
 show(((((!(l.n.Kinds.any fun k=>(decide (k<(1:Int)))||(decide ((3:Int)<k))))&&(decide ((0:Int)≤l.n.Table)))&&(decide (l.n.Table<(4:Int))))&&(decide ((0:Int)<(l.n.Kinds.length:Int))))&&(decide ((l.n.Kinds.length:Int)≤(4:Int))))=_
 rw [e3]
 have e1:decide (l.n.Table<(4:Int))=decide (l.n.Table≤(3:Int)):=by rw [xJ];omega
 have e2:decide ((0:Int)<(l.n.Kinds.length:Int))=decide ((1:Int)≤(l.n.Kinds.length:Int)):=by rw [xJ];omega
 rw [e1,e2]
theorem Kb{l:al}(h:Lb l)(hop:l.n.Op=2):wV gC l:=by
 unfold wV gC
 have ha:=h.a
 have hb:=h.b
 rw [B8 _ _ (by omega) (by omega),bj]
 show∃ok R o k,(jy l.n.Cond (l.a_++l.b)).bind _=_∧_
 rw [AW _ _ h.n.cond,bj]
 exact⟨_,_,_,_,rfl,SG hop ha hb,.of rfl fun _=>rfl⟩
theorem Gt{l:al}(h:Lb l)(hop:l.n.Op=3):wV fC l:=by
 unfold wV fC
 show∃ok R o k,(jy l.n.Cond l.a_).bind _=_∧_
 rw [AW _ _ h.n.cond,bj]
 exact⟨_,_,_,_,rfl,SF hop,.of rfl fun _=>rfl⟩
theorem HG{l:al}(hop:l.n.Op=6):wV ky l:=⟨_,_,_,_,rfl,SD hop,.of rfl fun _=>rfl⟩
theorem JJ{l:al}(h:Lb l)(hop:l.n.Op=8):wV ja l:=by
 unfold wV ja
 rw [rk (f:=lA {l with result:=l.a_}) (g:=fun o=>(decide (o.Col<(0:Int)))||(decide ((l.a_.length:Int)≤o.Col))) (fun _=>rfl),bj]
 refine⟨_,_,_,_,rfl,SB h.n hop,.of ?_ fun _=>rfl⟩
 have e3:(!(l.n.Order.any fun o=>(decide (o.Col<(0:Int)))||(decide ((l.a_.length:Int)≤o.Col))))=l.n.Order.all fun e=>decide (0≤e.Col)&&decide (e.Col<(l.a_.length:Int)):=by
  rw [List.not_any_eq_all_not]
  congr 1
  funext k
  rw [pX]
  simp
 show((((!(l.n.Order.any fun o=>(decide (o.Col<(0:Int)))||(decide ((l.a_.length:Int)≤o.Col))))&&(decide ((l.n.Order.length:Int)≤(3:Int))))&&(decide ((-1:Int)≤l.n.Limit)))&&(decide (l.n.Limit≤(2147483647:Int))))=_
 rw [e3]
theorem II{l:al}: ∀(tl:List bv) (R:List Int),(∀e∈tl,e.Nodes.length≤5000)→R.length+tl.length≤10000→ ∃ok R',ev tl {l with result:=R}=some (ok,{l with result:=R' })∧ok=((tl.all fun e=>(fO e l.a_).2==0)&&decide (0<R.length+tl.length))∧(ok=true→R' =R++tl.map fun e=>(fO e l.a_).1)
 |[],R,_,_=>⟨_,R,rfl,by simp,fun _=>by simp⟩
 |e::tl,R,he,hl=>by
  simp only [nT]at hl
  unfold ev
  show∃ok R',(mV e l.a_).bind _=_∧_
  rw [mf _ _ (by have:=he e (nf ..);omega),bj]
  by_cases h0:(fO e l.a_).2=0
  ·rw [aW (by simp [h0])]
   show∃ok R',(gn R [(fO e l.a_).1]).bind _=_∧_
   rw [bH (by simp;omega),bj]
   obtain⟨ok,R',h1,h2,h3⟩:=II (l:=l) tl (R++[(fO e l.a_).1]) (fun x hx=>he x (oO _ hx)) (by simp;omega)
   refine⟨ok,R',h1,?_,fun ho=>by rw [h3 ho];simp⟩
   rw [h2]
   have e1:decide (0<(R++[(fO e l.a_).1]).length+tl.length)=true:=by simp;omega
   have e2:decide (0<R.length+(e::tl).length)=true:=by simp;omega
   rw [e1,e2]
   simp [h0]
  ·rw [bq (by simpa using h0)]
   exact⟨false,R,rfl,by simp [h0],fun h=>by cases h⟩
theorem D9{l:al}(h:Lb l)(hop:l.n.Op=5):wV hU l:=by
 have hi:=h.n.items
 obtain⟨ok,R,h1,h2,h3⟩:=II (l:=l) l.n.Items [] h.n.exprs (by simp;omega)
 refine⟨ok,R,_,_,h1,RZ h.n hop,?_⟩
 cases ok with
 |false=>
  refine⟨?_,fun h=>by cases h⟩
  rw [Bool.false_and]
  cases hall:l.n.Items.all fun e=>(fO e l.a_).2==0 with
  |false=>simp
  |true=>
   rw [hall,mZ]at h2
   have:l.n.Items.length=0:=by simpa using h2.symm
   simp [this]
 |true=>
  have hR:=h3 rfl
  rw [lL]at hR
  refine⟨?_,fun _=>hR⟩
  rw [hR]
  have h2' :=h2.symm
  rw [gX,rl]at h2'
  have e1:decide ((1:Int)≤(l.n.Items.length:Int))=true:=by have:=h2'.2;simp at this ⊢;omega
  rw [h2'.1,e1,mZ,mZ,mZ]
  rw [List.length_map,pX]
  simp
  omega
def zu(g:fy)(a:List Int):Int×Bool:=
 if g.Tag=1 then(2,(g.Arg.Nodes.length:Int)==0)else
 if g.Tag=3 then(2,((((fO g.Arg a).2==0)&&decide (1<g.Tag))&&decide (g.Tag≤5))&&((fO g.Arg a).1==2||(fO g.Arg a).1==0))else
 if g.Tag=4∨g.Tag=5 then((fO g.Arg a).1,(((fO g.Arg a).2==0)&&decide (1<g.Tag))&&decide (g.Tag≤5))else(2,(((fO g.Arg a).2==0)&&decide (1<g.Tag))&&decide (g.Tag≤5))
theorem BX(a:fy)(kinds:List Int):(zu a kinds).2=(Ic a kinds).2∧((zu a kinds).2=true→(zu a kinds).1=(Ic a kinds).1):=by
 unfold Ic kw zu
 rw [qC]
 simp only [bj]
 by_cases h1:a.Tag=1
 ·simp [h1]
 by_cases h2:a.Tag=2
 ·by_cases he:(fO a.Arg kinds).2=0<;>simp [h2,he]
 by_cases h3:a.Tag=3
 ·by_cases he:(fO a.Arg kinds).2=0
  ·by_cases h0:(fO a.Arg kinds).1=0
   ·simp [h3,he,h0]
   ·by_cases h02:(fO a.Arg kinds).1=2<;>simp [h3,he,h0,h02]
  ·simp [h3,he]
 by_cases h4:a.Tag=4
 ·by_cases he:(fO a.Arg kinds).2=0<;>simp [h4,he]
 by_cases h5:a.Tag=5
 ·by_cases he:(fO a.Arg kinds).2=0<;>simp [h5,he]
 have:a.Tag<1∨5<a.Tag:=by omega
 have h7: ¬(1<a.Tag∧a.Tag≤5):=by omega
 have h8:(decide (1<a.Tag)&&decide (a.Tag≤5))=false:=by rw [zI];simpa using h7
 simp [h1,h3,h4,h5,this,t7,h8]
theorem HO{l:al}: ∀(gs:List fy) (ok:Bool) (R:List Int),(∀g∈gs,g.Arg.Nodes.length≤5000)→R.length+gs.length≤20000→cr gs ok {l with result:=R}=some (ok&&gs.all fun g=>(zu g l.a_).2,{l with result:=R++gs.map fun g=>(zu g l.a_).1})
 |[],ok,R,_,_=>by unfold cr;simp
 |g::tl,ok,R,hg,hR=>by
  simp only [nT]at hR
  have key: ∀(ok2:Bool) (k:Int),(ok2=(ok&&(zu g l.a_).2))→k=(zu g l.a_).1→eG (cr tl) {l with result:=R} ok2 k=some (ok&&(g::tl).all fun g=>(zu g l.a_).2,{l with result:=R++(g::tl).map fun g=>(zu g l.a_).1}):=by
   intro ok2 k e1 e2
   rw [zQ _ _ _ _ _ (by omega),HO tl ok2 (R++[k]) (fun x hx=>hg x (oO _ hx)) (by simp;omega),e1,e2]
   simp [t7]
  unfold cr
  by_cases h1:g.Tag=1
  ·rw [bq (by simp [h1])]
   exact key _ _ (by simp [zu,h1]) (by simp [zu,h1])
  rw [aW (by simpa using h1)]
  show(mV g.Arg l.a_).bind _=_
  rw [mf g.Arg l.a_ (by have:=hg g (nf ..);omega),bj]
  by_cases h3:g.Tag=3
  ·rw [bq (by simp [h3])]
   exact key _ _ (by simp [zu,h3,t7]) (by simp [zu,h3])
  rw [aW (by simpa using h3)]
  unfold gJ
  by_cases h4:g.Tag=4
  ·rw [bq (by simp [h4]),bq (by simp [h4])]
   exact key _ _ (by simp [zu,h4,t7]) (by simp [zu,h4])
  rw [aW (by simpa using h4)]
  by_cases h5:g.Tag=5
  ·rw [bq (by simp [h5])]
   exact key _ _ (by simp [zu,h5,t7]) (by simp [zu,h5])
  rw [aW (by simpa using h5)]
  exact key _ _ (by simp [zu,h1,h3,h4,h5,t7]) (by simp [zu,h1,h3,h4,h5])
theorem L8{l:al}(h:Lb l): ∀(ks:List Int) (R:List Int),R.length+ks.length≤5000→ ∃ok R',dy l ks {l with result:=R}=some (ok,{l with result:=R' })∧ok=(!(ks.any (vK l.a_))&&((((decide ((l.n.Keys.length:Int)≤(3:Int)))&&(decide ((l.n.Aggs.length:Int)≤(12:Int))))&&(decide ((0:Int)<(IntKind.i64.wrap ((l.n.Keys.length:Int)+(l.n.Aggs.length:Int))))))&&l.n.Aggs.all fun g=>(zu g l.a_).2))∧(ks.any (vK l.a_)=false→R' =R++ks.map (KR l.a_)++l.n.Aggs.map fun g=>(zu g l.a_).1)
 |[],R,hR=>by
  unfold dy
  rw [HO l.n.Aggs _ R h.n.args (by have:=h.n.aggs;simp at hR;omega)]
  exact⟨_,_,rfl,by simp,fun _=>by simp⟩
 |k::tl,R,hR=>by
  simp only [nT]at hR
  unfold dy
  show∃ok R',(if vK l.a_ k=true then _ else _)=_∧_
  cases hk:vK l.a_ k with
  |true=>rw [bq rfl];exact⟨false,R,rfl,by simp [hk],fun h=>by simp [hk]at h⟩
  |false=>
   rw [aW (by simp)]
   show∃ok R',(gj l.a_ k).bind _=_∧_
   rw [HN hk,bj]
   show∃ok R',(gn R [KR l.a_ k]).bind _=_∧_
   rw [bH (by simp;omega),bj]
   obtain⟨ok,R',h1,h2,h3⟩:=L8 h tl (R++[KR l.a_ k]) (by simp;omega)
   exact⟨ok,R',h1,by rw [h2];simp [hk],fun hn=>by
    simp [hk]at hn
    rw [h3 (by simpa using hn)]
    simp⟩
theorem BA{l:al}(h:Lb l){n:ap}(hop:n.Op=4)(hn:jg n)(hK:n.Keys=l.n.Keys)(hG:n.Aggs=l.n.Aggs)(b:List Int): ∃ok R o k,ep l=some (ok,{l with result:=R})∧cD n l.a_ b=some (k,o)∧ok=o∧(ok=true→R=k∧R.length=l.n.Keys.length+l.n.Aggs.length):=by
 unfold ep
 obtain⟨ok,R,h1,h2,h3⟩:=L8 h l.n.Keys [] (by have:=h.n.keys;simpa using this)
 have hr:=SE (a:=l.a_) (b:=b) hn hop
 rw [hK,hG]at hr
 cases hany:l.n.Keys.any (vK l.a_)with
 |true=>
  rw [hany,bq rfl]at hr
  exact⟨ok,R,_,_,h1,hr,by rw [h2,hany];rfl,fun ho=>by rw [h2,hany]at ho;cases ho⟩
 |false=>
  rw [hany,aW (by simp)]at hr
  have hkl:=h.n.keys
  have hgl:=h.n.aggs
  have e1:IntKind.i64.wrap ((l.n.Keys.length:Int)+(l.n.Aggs.length:Int))=((l.n.Keys.length+l.n.Aggs.length:Nat):Int):=by rw [eC (by omega) (by omega)];omega
  have hall:(l.n.Aggs.all fun g=>(zu g l.a_).2)=l.n.Aggs.all fun e=>(Ic e l.a_).2:=by
   congr 1;funext e;exact(BX e l.a_).1
  refine⟨ok,R,_,_,h1,hr,?_,fun ho=>?_⟩
  ·rw [h2,hany,hall,e1]
   simp only [xL,mZ]
   cases (l.n.Aggs.all fun e=>(Ic e l.a_).2)<;>simp
  ·have hR:=h3 hany
   rw [lL]at hR
   rw [h2,gX,gX]at ho
   have hm:l.n.Aggs.map (fun g=>(zu g l.a_).1)=l.n.Aggs.map fun e=>(Ic e l.a_).1:=List.map_congr_left fun e he=>(BX e l.a_).2 (pq.1 ho.2.2 e he)
   exact⟨by rw [hR,hm],by rw [hR];simp⟩
theorem HP{l:al}(h:Lb l)(hop:l.n.Op=4):wV ep l:=by
 obtain⟨ok,R,o,k,h1,h2,h3,h4⟩:=BA h hop h.n rfl rfl l.b
 exact⟨ok,R,o,k,h1,h2,.of h3 fun ho=>(h4 ho).1⟩
theorem Lg{l:al}: ∀(tl tb:List Int) (i:Nat) (R:List Int),l.b.drop i=tb→tl.length=tb.length→R.length+tl.length≤1000→ ∃ok R',dx tl i {l with result:=R}=some (ok,{l with result:=R' })∧ok=(tl.zip tb).all Ai∧(ok=true→R' =R++List.zipWith DO tl tb)
 |[],tb,i,R,hd,hl,_=>by
  have:tb=[]:=tv hl.symm
  subst this
  exact⟨true,R,rfl,rfl,fun _=>by simp⟩
 |x::tl,[],i,R,hd,hl,_=>by simp at hl
 |x::tl,y::tb,i,R,hd,hl,hm=>by
  simp only [nT,Iq]at hl hm
  obtain⟨h1,h2,h3⟩:=ij hd
  unfold dx
  show∃ok R',(gj l.b (i:Int)).bind _=_∧_
  rw [h1,bj]
  have key:fi (dx tl) i {l with result:=R} y (DO x y)=(if Ai (x,y)then dx tl (i+1) {l with result:=R++[DO x y]}else some (false,{l with result:=R})):=by
   unfold fi
   have e:((y !=(0:Int))&&(y !=DO x y))= !(Ai (x,y)):=by
    unfold Ai
    simp only [bne,Bool.not_or]
    rw [Bool.and_comm]
   rw [e]
   cases Ai (x,y)with
   |true=>
    rw [aW (by simp),bq rfl]
    show(gn R [DO x y]).bind _=_
    rw [bH (by simp;omega)]
    rfl
   |false=>rw [bq (by simp),aW (by simp)]
  have By: ∃ok R',fi (dx tl) i {l with result:=R} y (DO x y)=some (ok,{l with result:=R' })∧ok=((x::tl).zip (y::tb)).all Ai∧(ok=true→R' =R++List.zipWith DO (x::tl) (y::tb)):=by
   rw [key]
   cases hu:Ai (x,y)with
   |false=>rw [aW (by simp)];exact⟨false,R,rfl,by simp [hu],fun h=>by cases h⟩
   |true=>
    rw [bq rfl]
    obtain⟨ok,R',g1,g2,g3⟩:=Lg (l:=l) tl tb (i+1) (R++[DO x y]) h3 hl (by simp;omega)
    exact⟨ok,R',g1,by rw [g2];simp [hu],fun ho=>by rw [g3 ho];simp⟩
  by_cases hx:x=0
  ·rw [bq (by simp [hx])]
   have:DO x y=y:=bq hx
   rw [this]at By
   exact By
  ·rw [aW (by simpa using hx)]
   have:DO x y=x:=aW hx
   rw [this]at By
   exact By
theorem He{l:al}(h:Lb l)(hop:l.n.Op=7):wV ip l:=by
 have ha:=h.a
 unfold wV ip
 rw [SC hop ha]
 by_cases hl:l.a_.length=l.b.length
 ·rw [aW (by simp [hl]),bq hl]
  obtain⟨ok,R,h1,h2,h3⟩:=Lg (l:=l) l.a_ l.b 0 [] rfl hl (by simp;omega)
  exact⟨ok,R,_,_,h1,rfl,.of h2 fun ho=>by rw [h3 ho,lL]⟩
 ·rw [bq (by simp;omega),aW hl]
  exact⟨false,l.result,_,_,by cases l;rfl,rfl,.of rfl fun h=>by cases h⟩
theorem Qy{l:al}(h:Lb l)(hop:Da l.n.Op=true):wV (fun l=>oN l.n.Op l ()) l:=by
 have imp: ∀{m:al→Option (Bool×al)},wV m l→oN l.n.Op l ()=m l→wV (fun l=>oN l.n.Op l ()) l:=fun⟨ok,R,o,k,h1,h2,h3⟩ he=>⟨ok,R,o,k,he.trans h1,h2,h3⟩
 rcases qe hop with h1|h1|h1|h1|h1|h1|h1|h1
 ·exact imp (JS h h1) (by rw [h1];rfl)
 ·exact imp (Kb h h1) (by rw [h1];rfl)
 ·exact imp (Gt h h1) (by rw [h1];rfl)
 ·exact imp (HP h h1) (by rw [h1];rfl)
 ·exact imp (D9 h h1) (by rw [h1];rfl)
 ·exact imp (HG h1) (by rw [h1];rfl)
 ·exact imp (He h h1) (by rw [h1];rfl)
 ·exact imp (JJ h h1) (by rw [h1];rfl)
end Go.Proofs.YtdohlidddcgfjaaGreat


