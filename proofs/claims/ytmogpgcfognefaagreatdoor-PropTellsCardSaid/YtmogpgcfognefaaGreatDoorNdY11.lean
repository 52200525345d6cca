/- di of this claim: Y11. -/
import Derived.Test.YtmogpgcfognefaaGreatDoorNdY5
import Derived.Test.YtmogpgcfognefaaGreatDoorNdQ3
set_option linter.all false
namespace Go.Proofs.YtmogpgcfognefaaGreatDoor
open Go

theorem TC{n:aw}{a b:List Int}(hn:jX n)(hop:n.Op=1):cX n a b=some (n.Kinds,(((((n.Kinds.all fun k=>decide (1≤k)&&decide (k≤3)))&&(decide ((0:Int)≤n.Table)))&&(decide (n.Table≤(3:Int))))&&(decide ((1:Int)≤(n.Kinds.length:Int))))&&(decide ((n.Kinds.length:Int)≤(4:Int)))):=by
 have h:=hn.kinds
 have key: ∀(tl:List Int) (i:Nat) (fu:Nat) (ok:Bool),n.Kinds.drop i=tl→tl.length<fu→iK n fu ok (i:Int)=some (n.Kinds,((((ok&&tl.all fun k=>decide (1≤k)&&decide (k≤3))&&(decide ((0:Int)≤n.Table)))&&(decide (n.Table≤(3:Int))))&&(decide ((1:Int)≤(n.Kinds.length:Int))))&&(decide ((n.Kinds.length:Int)≤(4:Int)))):=by
  intro tl
  induction tl with
  |nil=>
   intro i fu ok hd hf
   obtain⟨fu,rfl⟩: ∃k,fu=k+1:=⟨fu-1,by omega⟩
   have:=tq hd
   rw [iK,bI (by simp;omega)]
   simp
  |cons x tl ih=>
   intro i fu ok hd hf
   simp only [kb]at hf
   obtain⟨fu,rfl⟩: ∃k,fu=k+1:=⟨fu-1,by omega⟩
   obtain⟨h1,h2,h3⟩:=lE hd
   rw [iK,bQ (by simp;omega),h1,eS (by omega) (by omega)]
   simp only [bA]
   have e:((i:Int)+1)=((i+1:Nat):Int):=by omega
   rw [e]
   have e2:((if ok=true then some (decide ((1:Int)≤x))else some false).bind fun t=>(if t=true then some (decide (x≤(3:Int)))else some false).bind fun t1=>iK n fu t1 ((i+1:Nat):Int))=iK n fu (ok&&(decide (1≤x)&&decide (x≤3))) ((i+1:Nat):Int):=by
    cases ok<;>by_cases hx:(1:Int)≤x<;>simp [hx]
   rw [e2,ih (i+1) fu _ h3 (by omega)]
   simp only [yI,wm]
 have hr:cX n a b=iK n gK true (0:Int):=by unfold cX;rw [bQ (by simp [hop])]
 exact hr.trans ((key n.Kinds 0 gK true rfl (wg (Bz _) (o4 (by omega)))).trans (by rw [nQ]))
theorem Vw{n:aw}{a b:List Int}(hop:n.Op=2)(hal:a.length≤16)(hbl:b.length≤16):cX n a b=some (a++b,L6 n.Cond (a++b)):=by
 unfold cX
 rw [bI (by simp [hop]),bQ (by simp [hop]),du (by simp;omega)]
 simp only [bA,nv]
 rw [du (by omega)]
 simp only [bA]
 rw [wB]
 rfl
theorem Vv{n:aw}{a b:List Int}(hop:n.Op=3):cX n a b=some (a,L6 n.Cond a):=by
 unfold cX
 rw [bI (by simp [hop]),bI (by simp [hop]),bQ (by simp [hop]),wB]
 rfl
theorem Vt{n:aw}{a b:List Int}(hop:n.Op=6):cX n a b=some (a,true):=by
 unfold cX
 rw [bI (by simp [hop]),bI (by simp [hop]),bI (by simp [hop]),bI (by simp [hop]),bI (by simp [hop]),bQ (by simp [hop])]
theorem UQ{n:aw}{a b:List Int}(hn:jX n)(hop:n.Op=5):cX n a b=some (n.Items.map (fun e=>(gV e a).1),((n.Items.all fun e=>(gV e a).2==0)&&(decide ((1:Int)≤(n.Items.length:Int))))&&(decide ((n.Items.length:Int)≤(16:Int)))):=by
 have h:=hn.items
 have hr:cX n a b=li n a gK [] true (0:Int):=by unfold cX;rw [bI (by simp [hop]),bI (by simp [hop]),bI (by simp [hop]),bI (by simp [hop]),bQ (by simp [hop])]
 have key: ∀(tl:List bp) (i:Nat) (fu:Nat) (out:List Int) (ok:Bool),n.Items.drop i=tl→i+tl.length=n.Items.length→tl.length<fu→out.length=i→li n a fu out ok (i:Int)=some (out++tl.map (fun e=>(gV e a).1),((ok&&tl.all fun e=>(gV e a).2==0)&&(decide ((1:Int)≤(n.Items.length:Int))))&&(decide ((n.Items.length:Int)≤(16:Int)))):=by
  intro tl
  induction tl with
  |nil=>
   intro i fu out ok hd hi hf ho
   obtain⟨fu,rfl⟩: ∃k,fu=k+1:=⟨fu-1,by omega⟩
   simp only [xv,yP]at hi
   rw [li,bI (by simp;omega)]
   simp [ho,hi]
  |cons x tl ih=>
   intro i fu out ok hd hi hf ho
   simp only [kb]at hf hi
   obtain⟨fu,rfl⟩: ∃k,fu=k+1:=⟨fu-1,by omega⟩
   obtain⟨h1,h2,h3⟩:=lE hd
   rw [li,bQ (by simp;omega),h1]
   simp only [bA]
   rw [rp]
   simp only [bA]
   rw [du (by simp;omega),eS (by omega) (by omega)]
   simp only [bA]
   have e:((i:Int)+1)=((i+1:Nat):Int):=by omega
   rw [e,ih (i+1) fu _ _ h3 (by omega) (by omega) (by simp [ho])]
   simp [wm]
 exact hr.trans ((key n.Items 0 gK [] true rfl (by simp) (wg (Bz _) (o4 (by omega))) rfl).trans (by rw [nv,nQ]))
theorem Vu{n:aw}{a b:List Int}(hn:jX n)(hop:n.Op=4):cX n a b=if n.Keys.any (wH a)then some ([],false)else some (n.Keys.map (ND a)++n.Aggs.map (fun e=>(Ka e a).1),((((n.Aggs.all fun e=>(Ka e a).2)&&(decide ((n.Keys.length:Int)≤(3:Int))))&&(decide ((n.Aggs.length:Int)≤(12:Int))))&&(decide ((0:Int)<((n.Keys.length+n.Aggs.length:Nat):Int))))):=by
 have hK:=hn.keys
 have hA:=hn.aggs
 have hr:cX n a b=lk n a gK [] (0:Int):=by unfold cX;rw [bI (by simp [hop]),bI (by simp [hop]),bI (by simp [hop]),bQ (by simp [hop])]
 have key3: ∀(tl:List gm) (i:Nat) (fu:Nat) (out:List Int) (ok:Bool),n.Aggs.drop i=tl→i+tl.length=n.Aggs.length→tl.length<fu→out.length≤5000+i→lj n a fu out ok (i:Int)=some (out++tl.map (fun e=>(Ka e a).1),(((ok&&tl.all fun e=>(Ka e a).2)&&(decide ((n.Keys.length:Int)≤(3:Int))))&&(decide ((n.Aggs.length:Int)≤(12:Int))))&&(decide ((0:Int)<((out.length+tl.length:Nat):Int)))):=by
  intro tl
  induction tl with
  |nil=>
   intro i fu out ok hd hi hf ho
   obtain⟨fu,rfl⟩: ∃k,fu=k+1:=⟨fu-1,by omega⟩
   simp only [xv,yP]at hi
   rw [lj,bI (by simp;omega)]
   simp
  |cons x tl ih=>
   intro i fu out ok hd hi hf ho
   simp only [kb]at hf hi
   obtain⟨fu,rfl⟩: ∃k,fu=k+1:=⟨fu-1,by omega⟩
   obtain⟨h1,h2,h3⟩:=lE hd
   rw [lj,bQ (by simp;omega),h1]
   simp only [bA]
   rw [yl]
   simp only [bA]
   rw [du (by simp;omega),eS (by omega) (by omega)]
   simp only [bA]
   have e:((i:Int)+1)=((i+1:Nat):Int):=by omega
   rw [e,ih (i+1) fu _ _ h3 (by omega) (by omega) (by simp;omega)]
   simp only [xC,yI,wm,mV,mt,kb,xv,yM,nv]
   rw [show out.length+(0+1)+tl.length=out.length+(tl.length+1)from by omega]
 have Az: ∀(tl:List Int) (i:Nat) (fu:Nat) (out:List Int),n.Keys.drop i=tl→i+tl.length=n.Keys.length→tl.length<fu→out.length=i→lk n a fu out (i:Int)=if tl.any (wH a)then some ([],false)else lj n a gK (out++tl.map (ND a)) true 0:=by
  intro tl
  induction tl with
  |nil=>
   intro i fu out hd hi hf ho
   obtain⟨fu,rfl⟩: ∃k,fu=k+1:=⟨fu-1,by omega⟩
   simp only [xv,yP]at hi
   rw [lk,bI (by simp;omega)]
   simp
  |cons x tl ih=>
   intro i fu out hd hi hf ho
   simp only [kb]at hf hi
   obtain⟨fu,rfl⟩: ∃k,fu=k+1:=⟨fu-1,by omega⟩
   obtain⟨h1,h2,h3⟩:=lE hd
   rw [lk,bQ (by simp;omega),h1]
   simp only [bA]
   cases hx:wH a x with
   |true=>
    have hx' :(decide (x<0)||decide ((a.length:Int)≤x))=true:=hx
    rw [bQ hx',bQ (by simp [hx])]
   |false=>
    have hx' : ¬(decide (x<0)||decide ((a.length:Int)≤x))=true:=by rw [show(decide (x<0)||decide ((a.length:Int)≤x))=wH a x from rfl,hx];decide
    rw [bI hx',JM hx]
    simp only [bA]
    rw [du (by simp;omega),eS (by omega) (by omega)]
    simp only [bA]
    have e:((i:Int)+1)=((i+1:Nat):Int):=by omega
    rw [e,ih (i+1) fu _ h3 (by omega) (by omega) (by simp [ho])]
    simp [hx]
 have e3:=key3 n.Aggs 0 gK (n.Keys.map (ND a)) true rfl (by simp) (wg (Bz _) (o4 (by omega))) (by simp;omega)
 rw [Ex,nQ]at e3
 have e2:=Az n.Keys 0 gK [] rfl (by simp) (wg (Bz _) (o4 (by omega))) rfl
 rw [nv]at e2
 exact hr.trans (e2.trans (congrArg (fun z=>if n.Keys.any (wH a)=true then some ([],false)else z) e3))
theorem Vs{n:aw}{a b:List Int}(hop:n.Op=7)(hal:a.length≤16):cX n a b=if a.length=b.length then some (List.zipWith FN a b,(a.zip b).all BF)else some ([],false):=by
 unfold cX
 rw [bI (by simp [hop]),bI (by simp [hop]),bI (by simp [hop]),bI (by simp [hop]),bI (by simp [hop]),bI (by simp [hop]),bQ (by simp [hop])]
 by_cases hl:a.length=b.length
 ·rw [bI (by simp;omega),bQ hl]
  have kr: ∀(tl tb:List Int) (i:Nat) (out:List Int) (ok:Bool),b.drop i=tb→tl.length=tb.length→out.length+tl.length≤1000→iJ b tl i out ok=some (out++List.zipWith FN tl tb,ok&&(tl.zip tb).all BF):=by
   intro tl
   induction tl with
   |nil=>
    intro tb i out ok hd h _
    have:tb=[]:=uL h.symm
    subst this
    simp [iJ]
   |cons x tl ih=>
    intro tb i out ok hd h hm
    cases tb with
    |nil=>simp at h
    |cons y tb=>
     simp only [kb,Kq]at h hm
     obtain⟨h1,h2,h3⟩:=lE hd
     rw [iJ,h1]
     simp only [bA]
     have step: ∀z:Int,ox b (iJ b tl) i out ok z=some (out++z::List.zipWith FN tl tb,ok&&((y==z||y==0)&&(tl.zip tb).all BF)):=by
      intro z
      unfold ox
      rw [du (by simp;omega),h1]
      simp only [bA]
      cases ok with
      |true=>
       simp only [nt,bA,nQ]
       cases hyz:y==z with
       |true=>
        simp only [tF,uK,qa,bA]
        rw [ih tb (i+1) _ _ h3 h (by simp;omega)]
        simp
       |false=>
        simp only [Bw,nt,bA]
        rw [ih tb (i+1) _ _ h3 h (by simp;omega)]
        simp
      |false=>
       simp only [uK,qa,bA,Ew]
       rw [ih tb (i+1) _ _ h3 h (by simp;omega)]
       simp
     by_cases hx:x=0
     ·subst hx
      rw [bQ (by simp),step y]
      simp [BF,FN]
     ·rw [bI (by simpa using hx),step x]
      have:FN x y=x:=by unfold FN;rw [bI hx]
      simp only [List.zipWith_cons_cons,List.zip_cons_cons,yI,BF,this]
  rw [kr a b 0 [] true rfl hl (by simp;omega),nv,nQ]
 ·rw [bQ (by simp;omega),bI hl]
theorem Vr{n:aw}{a b:List Int}(hn:jX n)(hop:n.Op=8):cX n a b=some (a,((((n.Order.all fun e=>decide (0≤e.Col)&&decide (e.Col<(a.length:Int)))&&(decide ((n.Order.length:Int)≤(3:Int))))&&(decide ((-1:Int)≤n.Limit)))&&(decide (n.Limit≤(2147483647:Int))))):=by
 have h:=hn.order
 have hr:cX n a b=iI n a gK true (0:Int):=by unfold cX;rw [bI (by simp [hop]),bI (by simp [hop]),bI (by simp [hop]),bI (by simp [hop]),bI (by simp [hop]),bI (by simp [hop]),bI (by simp [hop])]
 have key: ∀(tl:List kW) (i:Nat) (fu:Nat) (ok:Bool),n.Order.drop i=tl→i+tl.length=n.Order.length→tl.length<fu→iI n a fu ok (i:Int)=some (a,((((ok&&tl.all fun e=>decide (0≤e.Col)&&decide (e.Col<(a.length:Int)))&&(decide ((n.Order.length:Int)≤(3:Int))))&&(decide ((-1:Int)≤n.Limit)))&&(decide (n.Limit≤(2147483647:Int))))):=by
  intro tl
  induction tl with
  |nil=>
   intro i fu ok hd hi hf
   obtain⟨fu,rfl⟩: ∃k,fu=k+1:=⟨fu-1,by omega⟩
   simp only [xv,yP]at hi
   rw [iI,bI (by simp;omega)]
   simp
  |cons x tl ih=>
   intro i fu ok hd hi hf
   simp only [kb]at hf hi
   obtain⟨fu,rfl⟩: ∃k,fu=k+1:=⟨fu-1,by omega⟩
   obtain⟨h1,h2,h3⟩:=lE hd
   rw [iI,bQ (by simp;omega),h1,eS (by omega) (by omega)]
   simp only [bA]
   have e:((i:Int)+1)=((i+1:Nat):Int):=by omega
   rw [e]
   have e2:((if ok=true then some (decide ((0:Int)≤x.Col))else some false).bind fun t=>(if t=true then some (decide (x.Col<(a.length:Int)))else some false).bind fun t1=>iI n a fu t1 ((i+1:Nat):Int))=iI n a fu (ok&&(decide (0≤x.Col)&&decide (x.Col<(a.length:Int)))) ((i+1:Nat):Int):=by
    cases ok<;>by_cases hx:(0:Int)≤x.Col<;>simp [hx]
   rw [e2,ih (i+1) fu _ h3 (by omega) (by omega)]
   simp only [yI,wm]
 exact hr.trans ((key n.Order 0 gK true rfl (by simp) (wg (Bz _) (o4 (by omega)))).trans (by rw [nQ]))
def Px(ok:Bool)(R:List Int)(o:Bool)(k:List Int):Prop:=(ok&&decide (R.length≤16))=(o&&decide (k.length≤16))∧((ok&&decide (R.length≤16))=true→R=k)
theorem Px.of{ok o:Bool}{R k:List Int}(h1:ok=o)(h2:ok=true→R=k):Px ok R o k:=by
 subst h1
 cases ok with
 |false=>exact⟨rfl,fun h=>by cases h⟩
 |true=>have:=h2 rfl;subst this;exact⟨rfl,fun _=>rfl⟩
def xB(m:aq→Option (Bool×aq))(l:aq):Prop:= ∃ok R o k,m l=some (ok,{l with result:=R})∧cX l.n l.a_ l.b=some (k,o)∧Px ok R o k
theorem Hj(e:bp)(kinds:List Int)(h:e.Nodes.length≤5000):lq e kinds=some (L6 e kinds):=by
 unfold lq L6
 rw [o9 e kinds (by omega)]
 simp only [bA,Bool.or_comm]
theorem Mu{l:aq}(h:Lb l)(hop:l.n.Op=1):xB jO l:=by
 unfold xB jO
 rw [jb (f:=o0) (g:=fun k=>(decide (k<(1:Int)))||(decide ((3:Int)<k))) (fun _=>rfl),bA]
 refine⟨_,_,_,_,rfl,TC h.n hop,.of ?_ fun _=>rfl⟩
 have e3:(!(l.n.Kinds.any fun k=>(decide (k<(1:Int)))||(decide ((3:Int)<k))))=l.n.Kinds.all fun k=>decide (1≤k)&&decide (k≤3):=by
  rw [List.not_any_eq_all_not]
  congr 1
  funext k
  rw [xu]
  simp
 show(((((!(l.n.Kinds.any fun k=>(decide (k<(1:Int)))||(decide ((3:Int)<k))))&&(decide ((0:Int)≤l.n.Table)))&&(decide (l.n.Table<(4:Int))))&&(decide ((0:Int)<(l.n.Kinds.length:Int))))&&(decide ((l.n.Kinds.length:Int)≤(4:Int))))=_
 rw [e3]
 have e1:decide (l.n.Table<(4:Int))=decide (l.n.Table≤(3:Int)):=by rw [By];omega
 have e2:decide ((0:Int)<(l.n.Kinds.length:Int))=decide ((1:Int)≤(l.n.Kinds.length:Int)):=by rw [By];omega
 rw [e1,e2]
theorem MR{l:aq}(h:Lb l)(hop:l.n.Op=2):xB jP l:=by
 unfold xB jP
 have ha:=h.a
 have hb:=h.b
 rw [DU _ _ (by omega) (by omega),bA]
 show∃ok R o k,(lq l.n.Cond (l.a_++l.b)).bind _=_∧_
 rw [Hj _ _ h.n.cond,bA]
 exact⟨_,_,_,_,rfl,Vw hop ha hb,.of rfl fun _=>rfl⟩
theorem Ig{l:aq}(h:Lb l)(hop:l.n.Op=3):xB im l:=by
 unfold xB im
 show∃ok R o k,(lq l.n.Cond l.a_).bind _=_∧_
 rw [Hj _ _ h.n.cond,bA]
 exact⟨_,_,_,_,rfl,Vv hop,.of rfl fun _=>rfl⟩
theorem JG{l:aq}(hop:l.n.Op=6):xB lN l:=⟨_,_,_,_,rfl,Vt hop,.of rfl fun _=>rfl⟩
theorem Me{l:aq}(h:Lb l)(hop:l.n.Op=8):xB jN l:=by
 unfold xB jN
 rw [sn (f:=mI {l with result:=l.a_}) (g:=fun o=>(decide (o.Col<(0:Int)))||(decide ((l.a_.length:Int)≤o.Col))) (fun _=>rfl),bA]
 refine⟨_,_,_,_,rfl,Vr h.n hop,.of ?_ fun _=>rfl⟩
 have e3:(!(l.n.Order.any fun o=>(decide (o.Col<(0:Int)))||(decide ((l.a_.length:Int)≤o.Col))))=l.n.Order.all fun e=>decide (0≤e.Col)&&decide (e.Col<(l.a_.length:Int)):=by
  rw [List.not_any_eq_all_not]
  congr 1
  funext k
  rw [xu]
  simp
 show((((!(l.n.Order.any fun o=>(decide (o.Col<(0:Int)))||(decide ((l.a_.length:Int)≤o.Col))))&&(decide ((l.n.Order.length:Int)≤(3:Int))))&&(decide ((-1:Int)≤l.n.Limit)))&&(decide (l.n.Limit≤(2147483647:Int))))=_
 rw [e3]
theorem KG{l:aq}: ∀(tl:List bp) (R:List Int),(∀e∈tl,e.Nodes.length≤5000)→R.length+tl.length≤10000→ ∃ok R',gq tl {l with result:=R}=some (ok,{l with result:=R' })∧ok=((tl.all fun e=>(gV e l.a_).2==0)&&decide (0<R.length+tl.length))∧(ok=true→R' =R++tl.map fun e=>(gV e l.a_).1)
 |[],R,_,_=>⟨_,R,rfl,by simp,fun _=>by simp⟩
 |e::tl,R,he,hl=>by
  simp only [kb]at hl
  unfold gq
  show∃ok R',(nL e l.a_).bind _=_∧_
  rw [o9 _ _ (by have:=he e (oc ..);omega),bA]
  by_cases h0:(gV e l.a_).2=0
  ·rw [bI (by simp [h0])]
   show∃ok R',(ko R [(gV e l.a_).1]).bind _=_∧_
   rw [du (by simp;omega),bA]
   obtain⟨ok,R',h1,h2,h3⟩:=KG (l:=l) tl (R++[(gV e l.a_).1]) (fun x hx=>he x (oS _ hx)) (by simp;omega)
   refine⟨ok,R',h1,?_,fun ho=>by rw [h3 ho];simp⟩
   rw [h2]
   have e1:decide (0<(R++[(gV e l.a_).1]).length+tl.length)=true:=by simp;omega
   have e2:decide (0<R.length+(e::tl).length)=true:=by simp;omega
   rw [e1,e2]
   simp [h0]
  ·rw [bQ (by simpa using h0)]
   exact⟨false,R,rfl,by simp [h0],fun h=>by cases h⟩
theorem F3{l:aq}(h:Lb l)(hop:l.n.Op=5):xB j5 l:=by
 have hi:=h.n.items
 obtain⟨ok,R,h1,h2,h3⟩:=KG (l:=l) l.n.Items [] h.n.exprs (by simp;omega)
 refine⟨ok,R,_,_,h1,UQ h.n hop,?_⟩
 cases ok with
 |false=>
  refine⟨?_,fun h=>by cases h⟩
  rw [Ew]
  cases hall:l.n.Items.all fun e=>(gV e l.a_).2==0 with
  |false=>simp
  |true=>
   rw [hall,nQ]at h2
   have:l.n.Items.length=0:=by simpa using h2.symm
   simp [this]
 |true=>
  have hR:=h3 rfl
  rw [nv]at hR
  refine⟨?_,fun _=>hR⟩
  rw [hR]
  have h2' :=h2.symm
  rw [iz,oU]at h2'
  have e1:decide ((1:Int)≤(l.n.Items.length:Int))=true:=by have:=h2'.2;simp at this ⊢;omega
  rw [h2'.1,e1,nQ,nQ,nQ]
  rw [Ex,xu]
  simp
  omega
def BS(g:gm)(a:List Int):Int×Bool:=
 if g.Tag=1 then(2,(g.Arg.Nodes.length:Int)==0)else
 if g.Tag=3 then(2,((((gV g.Arg a).2==0)&&decide (1<g.Tag))&&decide (g.Tag≤5))&&((gV g.Arg a).1==2||(gV g.Arg a).1==0))else
 if g.Tag=4∨g.Tag=5 then((gV g.Arg a).1,(((gV g.Arg a).2==0)&&decide (1<g.Tag))&&decide (g.Tag≤5))else(2,(((gV g.Arg a).2==0)&&decide (1<g.Tag))&&decide (g.Tag≤5))
theorem DA(a:gm)(kinds:List Int):(BS a kinds).2=(Ka a kinds).2∧((BS a kinds).2=true→(BS a kinds).1=(Ka a kinds).1):=by
 unfold Ka lM BS
 rw [rp]
 simp only [bA]
 by_cases h1:a.Tag=1
 ·simp [h1]
 by_cases h2:a.Tag=2
 ·by_cases he:(gV a.Arg kinds).2=0<;>simp [h2,he]
 by_cases h3:a.Tag=3
 ·by_cases he:(gV a.Arg kinds).2=0
  ·by_cases h0:(gV a.Arg kinds).1=0
   ·simp [h3,he,h0]
   ·by_cases h02:(gV a.Arg kinds).1=2<;>simp [h3,he,h0,h02]
  ·simp [h3,he]
 by_cases h4:a.Tag=4
 ·by_cases he:(gV a.Arg kinds).2=0<;>simp [h4,he]
 by_cases h5:a.Tag=5
 ·by_cases he:(gV a.Arg kinds).2=0<;>simp [h5,he]
 have:a.Tag<1∨5<a.Tag:=by omega
 have h7: ¬(1<a.Tag∧a.Tag≤5):=by omega
 have h8:(decide (1<a.Tag)&&decide (a.Tag≤5))=false:=by rw [Ci];simpa using h7
 simp [h1,h3,h4,h5,this,wm,h8]
theorem ON{l:aq}: ∀(gs:List gm) (ok:Bool) (R:List Int),(∀g∈gs,g.Arg.Nodes.length≤5000)→R.length+gs.length≤20000→cP gs ok {l with result:=R}=some (ok&&gs.all fun g=>(BS g l.a_).2,{l with result:=R++gs.map fun g=>(BS g l.a_).1})
 |[],ok,R,_,_=>by unfold cP;simp
 |g::tl,ok,R,hg,hR=>by
  simp only [kb]at hR
  have key: ∀(ok2:Bool) (k:Int),(ok2=(ok&&(BS g l.a_).2))→k=(BS g l.a_).1→eZ (cP tl) {l with result:=R} ok2 k=some (ok&&(g::tl).all fun g=>(BS g l.a_).2,{l with result:=R++(g::tl).map fun g=>(BS g l.a_).1}):=by
   intro ok2 k e1 e2
   rw [Bh _ _ _ _ _ (by omega),ON tl ok2 (R++[k]) (fun x hx=>hg x (oS _ hx)) (by simp;omega),e1,e2]
   simp [wm]
  unfold cP
  by_cases h1:g.Tag=1
  ·rw [bQ (by simp [h1])]
   exact key _ _ (by simp [BS,h1]) (by simp [BS,h1])
  rw [bI (by simpa using h1)]
  show(nL g.Arg l.a_).bind _=_
  rw [o9 g.Arg l.a_ (by have:=hg g (oc ..);omega),bA]
  by_cases h3:g.Tag=3
  ·rw [bQ (by simp [h3])]
   exact key _ _ (by simp [BS,h3,wm]) (by simp [BS,h3])
  rw [bI (by simpa using h3)]
  unfold ig
  by_cases h4:g.Tag=4
  ·rw [bQ (by simp [h4]),bQ (by simp [h4])]
   exact key _ _ (by simp [BS,h4,wm]) (by simp [BS,h4])
  rw [bI (by simpa using h4)]
  by_cases h5:g.Tag=5
  ·rw [bQ (by simp [h5])]
   exact key _ _ (by simp [BS,h5,wm]) (by simp [BS,h5])
  rw [bI (by simpa using h5)]
  exact key _ _ (by simp [BS,h1,h3,h4,h5,wm]) (by simp [BS,h1,h3,h4,h5])
theorem OO{l:aq}(h:Lb l): ∀(ks:List Int) (R:List Int),R.length+ks.length≤5000→ ∃ok R',eY l ks {l with result:=R}=some (ok,{l with result:=R' })∧ok=(!(ks.any (wH l.a_))&&((((decide ((l.n.Keys.length:Int)≤(3:Int)))&&(decide ((l.n.Aggs.length:Int)≤(12:Int))))&&(decide ((0:Int)<(IntKind.i64.wrap ((l.n.Keys.length:Int)+(l.n.Aggs.length:Int))))))&&l.n.Aggs.all fun g=>(BS g l.a_).2))∧(ks.any (wH l.a_)=false→R' =R++ks.map (ND l.a_)++l.n.Aggs.map fun g=>(BS g l.a_).1)
 |[],R,hR=>by
  unfold eY
  rw [ON l.n.Aggs _ R h.n.args (by have:=h.n.aggs;simp at hR;omega)]
  exact⟨_,_,rfl,by simp,fun _=>by simp⟩
 |k::tl,R,hR=>by
  simp only [kb]at hR
  unfold eY
  show∃ok R',(if wH l.a_ k=true then _ else _)=_∧_
  cases hk:wH l.a_ k with
  |true=>rw [bQ rfl];exact⟨false,R,rfl,by simp [hk],fun h=>by simp [hk]at h⟩
  |false=>
   rw [bI (by simp)]
   show∃ok R',(dC l.a_ k).bind _=_∧_
   rw [JM hk,bA]
   show∃ok R',(ko R [ND l.a_ k]).bind _=_∧_
   rw [du (by simp;omega),bA]
   obtain⟨ok,R',h1,h2,h3⟩:=OO h tl (R++[ND l.a_ k]) (by simp;omega)
   exact⟨ok,R',h1,by rw [h2];simp [hk],fun hn=>by
    simp [hk]at hn
    rw [h3 (by simpa using hn)]
    simp⟩
theorem Db{l:aq}(h:Lb l){n:aw}(hop:n.Op=4)(hn:jX n)(hK:n.Keys=l.n.Keys)(hG:n.Aggs=l.n.Aggs)(b:List Int): ∃ok R o k,ff l=some (ok,{l with result:=R})∧cX n l.a_ b=some (k,o)∧ok=o∧(ok=true→R=k∧R.length=l.n.Keys.length+l.n.Aggs.length):=by
 unfold ff
 obtain⟨ok,R,h1,h2,h3⟩:=OO h l.n.Keys [] (by have:=h.n.keys;simpa using this)
 have hr:=Vu (a:=l.a_) (b:=b) hn hop
 rw [hK,hG]at hr
 cases hany:l.n.Keys.any (wH l.a_)with
 |true=>
  rw [hany,bQ rfl]at hr
  exact⟨ok,R,_,_,h1,hr,by rw [h2,hany];rfl,fun ho=>by rw [h2,hany]at ho;cases ho⟩
 |false=>
  rw [hany,bI (by simp)]at hr
  have hkl:=h.n.keys
  have hgl:=h.n.aggs
  have e1:IntKind.i64.wrap ((l.n.Keys.length:Int)+(l.n.Aggs.length:Int))=((l.n.Keys.length+l.n.Aggs.length:Nat):Int):=by rw [eS (by omega) (by omega)];omega
  have hall:(l.n.Aggs.all fun g=>(BS g l.a_).2)=l.n.Aggs.all fun e=>(Ka e l.a_).2:=by
   congr 1;funext e;exact(DA e l.a_).1
  refine⟨ok,R,_,_,h1,hr,?_,fun ho=>?_⟩
  ·rw [h2,hany,hall,e1]
   simp only [Bw,nQ]
   cases (l.n.Aggs.all fun e=>(Ka e l.a_).2)<;>simp
  ·have hR:=h3 hany
   rw [nv]at hR
   rw [h2,iz,iz]at ho
   have hm:l.n.Aggs.map (fun g=>(BS g l.a_).1)=l.n.Aggs.map fun e=>(Ka e l.a_).1:=G9 fun e he=>(DA e l.a_).2 (m3.1 ho.2.2 e he)
   exact⟨by rw [hR,hm],by rw [hR];simp⟩
theorem JN{l:aq}(h:Lb l)(hop:l.n.Op=4):xB ff l:=by
 obtain⟨ok,R,o,k,h1,h2,h3,h4⟩:=Db h hop h.n rfl rfl l.b
 exact⟨ok,R,o,k,h1,h2,.of h3 fun ho=>(h4 ho).1⟩
theorem NR{l:aq}: ∀(tl tb:List Int) (i:Nat) (R:List Int),l.b.drop i=tb→tl.length=tb.length→R.length+tl.length≤1000→ ∃ok R',dN tl i {l with result:=R}=some (ok,{l with result:=R' })∧ok=(tl.zip tb).all BF∧(ok=true→R' =R++List.zipWith FN tl tb)
 |[],tb,i,R,hd,hl,_=>by
  have:tb=[]:=uL hl.symm
  subst this
  exact⟨true,R,rfl,rfl,fun _=>by simp⟩
 |x::tl,[],i,R,hd,hl,_=>by simp at hl
 |x::tl,y::tb,i,R,hd,hl,hm=>by
  simp only [kb,Kq]at hl hm
  obtain⟨h1,h2,h3⟩:=lE hd
  unfold dN
  show∃ok R',(dC l.b (i:Int)).bind _=_∧_
  rw [h1,bA]
  have key:fH (dN tl) i {l with result:=R} y (FN x y)=(if BF (x,y)then dN tl (i+1) {l with result:=R++[FN x y]}else some (false,{l with result:=R})):=by
   unfold fH
   have e:((y !=(0:Int))&&(y !=FN x y))= !(BF (x,y)):=by
    unfold BF
    simp only [bne,Bool.not_or]
    rw [Bool.and_comm]
   rw [e]
   cases BF (x,y)with
   |true=>
    rw [bI (by simp),bQ rfl]
    show(ko R [FN x y]).bind _=_
    rw [du (by simp;omega)]
    rfl
   |false=>rw [bQ (by simp),bI (by simp)]
  have Az: ∃ok R',fH (dN tl) i {l with result:=R} y (FN x y)=some (ok,{l with result:=R' })∧ok=((x::tl).zip (y::tb)).all BF∧(ok=true→R' =R++List.zipWith FN (x::tl) (y::tb)):=by
   rw [key]
   cases hu:BF (x,y)with
   |false=>rw [bI (by simp)];exact⟨false,R,rfl,by simp [hu],fun h=>by cases h⟩
   |true=>
    rw [bQ rfl]
    obtain⟨ok,R',g1,g2,g3⟩:=NR (l:=l) tl tb (i+1) (R++[FN x y]) h3 hl (by simp;omega)
    exact⟨ok,R',g1,by rw [g2];simp [hu],fun ho=>by rw [g3 ho];simp⟩
  by_cases hx:x=0
  ·rw [bQ (by simp [hx])]
   have:FN x y=y:=bQ hx
   rw [this]at Az
   exact Az
  ·rw [bI (by simpa using hx)]
   have:FN x y=x:=bI hx
   rw [this]at Az
   exact Az
theorem I5{l:aq}(h:Lb l)(hop:l.n.Op=7):xB jf l:=by
 have ha:=h.a
 unfold xB jf
 rw [Vs hop ha]
 by_cases hl:l.a_.length=l.b.length
 ·rw [bI (by simp [hl]),bQ hl]
  obtain⟨ok,R,h1,h2,h3⟩:=NR (l:=l) l.a_ l.b 0 [] rfl hl (by simp;omega)
  exact⟨ok,R,_,_,h1,rfl,.of h2 fun ho=>by rw [h3 ho,nv]⟩
 ·rw [bQ (by simp;omega),bI hl]
  exact⟨false,l.result,_,_,by cases l;rfl,rfl,.of rfl fun h=>by cases h⟩
theorem TL{l:aq}(h:Lb l)(hop:EU l.n.Op=true):xB (fun l=>pM l.n.Op l ()) l:=by
 have imp: ∀{m:aq→Option (Bool×aq)},xB m l→pM l.n.Op l ()=m l→xB (fun l=>pM l.n.Op l ()) l:=fun⟨ok,R,o,k,h1,h2,h3⟩ he=>⟨ok,R,o,k,he.trans h1,h2,h3⟩
 rcases q9 hop with h1|h1|h1|h1|h1|h1|h1|h1
 ·exact imp (Mu h h1) (by rw [h1];rfl)
 ·exact imp (MR h h1) (by rw [h1];rfl)
 ·exact imp (Ig h h1) (by rw [h1];rfl)
 ·exact imp (JN h h1) (by rw [h1];rfl)
 ·exact imp (F3 h h1) (by rw [h1];rfl)
 ·exact imp (JG h1) (by rw [h1];rfl)
 ·exact imp (I5 h h1) (by rw [h1];rfl)
 ·exact imp (Me h h1) (by rw [h1];rfl)
end Go.Proofs.YtmogpgcfognefaaGreatDoor


