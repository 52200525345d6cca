/- da of this claim: L4, J4, L5, L6, L7, L8, L9, L10, L11, L12, L13, L14, J5, J6, J7, J8. -/
import Derived.Test.YtfhhakidodmdfaaGreatDoorJdQ2
import Derived.Test.YtfhhakidodmdfaaGreatDoorJdQ1
set_option linter.all false
namespace Go.Proofs.YtfhhakidodmdfaaGreatDoor
open Go

variable{i:Nat}{α:Type}{xs:List α}
theorem ky{tl:List α}{y:α}(h:xs.drop i=y::tl):cE xs (i:Int)=some y∧i<xs.length∧xs.drop (i+1)=tl:=by
 have hi:i<xs.length:=by
  rcases lx i xs.length with h1|h1
  ·exact h1
  ·rw [wG h1]at h;cases h
 rw [rD hi]at h
 injection h with h1 h2
 exact⟨by rw [bX,n8 hi,h1],hi,h2⟩
theorem u9(h:xs.drop i=[]):xs.length≤i:=Fo.1 h
variable{e j:Nat}{l:bU}
theorem vi{f:dn→Option Bool}{g:dn→Bool}(hf: ∀v,f v=some (g v)): ∀(l:List dn) (i:Nat),∃j:Int,dM f l i=some j∧decide (0≤j)=l.any g
 |[],i=>⟨-1,rfl,rfl⟩
 |e::l,i=>by
  unfold dM
  rw [hf,aY]
  cases h:g e with
  |true=>exact⟨(i:Int),by simp,by simp [h]⟩
  |false=>
   obtain⟨j,h1,h2⟩:=vi hf l (i+1)
   exact⟨j,by simpa using h1,by rw [h2];simp [h]⟩
theorem rz{f:dn→Option Bool}{g:dn→Bool}(hf: ∀v,f v=some (g v))(l:List dn):dN l f=some (l.any g):=by
 unfold dN ii
 obtain⟨j,h1,h2⟩:=vi hf l 0
 rw [h1,aY,h2]
theorem sb(l:List Int)(h:l.length≤68719476736):cy l=some l:=by
 unfold cy
 rw [cr (by simpa using h)];rfl
variable{n:am}
theorem SJ(n:Int)(h0:0≤n)(h:n≤68719476736):lu n=some []:=by
 unfold lu mi
 rw [aM (by simp;omega)]
 have e:IntKind.i64.wrap (n-IntKind.i64.wrap ((0:Int)-0))=n:=by
  rw [cx (n:=(0:Int)-0) (by omega) (by omega),cx (by omega) (by omega)];omega
 rw [e]
 by_cases hp:0<n
 ·rw [aW (by simpa using hp)]
  unfold V4 nk
  rw [aW hp]
  simp only [aY]
  rw [aW ⟨h0,h⟩]
  simp only [aY]
  rw [show dx (List.replicate n.toNat (0:Int)) 0 0=some []from by unfold dx;rw [aW (by simp;omega)];simp]
  rfl
 ·rw [aM (by simpa using hp)];rfl
variable{a b:List Int}
theorem KX(a b:List Int)(ha:a.length≤8000)(hb:b.length≤8000):iL [a,b]=some (a++b):=by
 unfold iL
 simp only [jf]
 rw [cx (n:=(0:Int)+(a.length:Int)) (by omega) (by omega),aM (by simp),cx (by omega) (by omega),aM (by simp;omega),SJ _ (by omega) (by omega)]
 simp only [aY,je]
 rw [cr (by simp;omega)]
 simp only [aY,kz]
 rw [cr (by omega)]
 rfl
structure ja(n:am):Prop where
 cond:n.Cond.Nodes.length≤5000
 kinds:n.Kinds.length≤5000
 keys:n.Keys.length≤5000
 aggs:n.Aggs.length≤5000
 items:n.Items.length≤5000
 order:n.Order.length≤5000
 args: ∀g∈n.Aggs,g.Arg.Nodes.length≤5000
 exprs: ∀e∈n.Items,e.Nodes.length≤5000
def Hk(e:bL)(kinds:List Int):Bool:=(fO e kinds).2==0&&((fO e kinds).1==1||(fO e kinds).1==0)
theorem xf(e:bL)(kinds:List Int)(h:e.Nodes.length≤5000):qZ e kinds=some (Hk e kinds):=by
 unfold qZ
 rw [vQ e kinds (by omega)]
 rfl
theorem lG(e:bL)(kinds:List Int):tJ e kinds=some (Hk e kinds):=by
 unfold tJ Hk
 rw [lb e kinds]
 simp only [aY,Bool.or_comm]
def OJ(a:hY)(kinds:List Int):Int×Bool:=
 if a.Tag=1 then(2,a.Arg.Nodes.length==0)else if a.Tag=2 then(2,(fO a.Arg kinds).2==0)else if a.Tag=3 then(2,(fO a.Arg kinds).2==0&&((fO a.Arg kinds).1==2||(fO a.Arg kinds).1==0))else if a.Tag=4∨a.Tag=5 then((fO a.Arg kinds).1,(fO a.Arg kinds).2==0)else(0,false)
theorem NN(n:Nat):((n:Int)==0)=(n==0):=by rw [zX];simp
theorem HU(a:hY)(kinds:List Int)(h:a.Arg.Nodes.length≤5000):xR a kinds=some (OJ a kinds):=by
 unfold xR OJ rX
 by_cases h1:a.Tag=1
 ·rw [aW (by simp [h1]),aW h1,NN]
 rw [aM (by simpa using h1),aM h1,vQ _ _ (by omega)]
 simp only [aY]
 by_cases h2:a.Tag=2
 ·rw [aW (by simp [h2]),aW h2]
 rw [aM (by simpa using h2),aM h2]
 by_cases h3:a.Tag=3
 ·rw [aW (by simp [h3]),aW h3]
 rw [aM (by simpa using h3),aM h3]
 by_cases h4:a.Tag=4
 ·rw [aW (by simp [h4]),aW (by simp [h4]),aW (.inl h4)]
 rw [aM (by simpa using h4)]
 by_cases h5:a.Tag=5
 ·rw [aW (by simp [h5]),aW (.inr h5)]
 rw [aM (by simpa using h5),aM (by omega)]
def Bb(a:hY)(kinds:List Int):Int×Bool:=(kI a kinds).getD (0,false)
theorem oP(a:hY)(kinds:List Int):kI a kinds=some (Bb a kinds):=by
 unfold Bb kI
 rw [lb]
 simp only [aY]
 repeat' split
 all_goals rfl
theorem Dm(a:hY)(kinds:List Int):(OJ a kinds).2=(Bb a kinds).2∧((OJ a kinds).2=true→(OJ a kinds).1=(Bb a kinds).1):=by
 unfold Bb kI OJ
 rw [lb]
 simp only [aY]
 by_cases h1:a.Tag=1
 ·simp [h1,NN]
 by_cases h2:a.Tag=2
 ·by_cases he:(fO a.Arg kinds).2=0<;>simp [h2,he]
 by_cases h3:a.Tag=3
 ·by_cases he:(fO a.Arg kinds).2=0
  ·by_cases h0:(fO a.Arg kinds).1=0
   ·simp [h3,he,h0]
   ·by_cases h02:(fO a.Arg kinds).1=2<;>simp [h3,he,h0,h02]
  ·simp [h3,he]
 by_cases h4:a.Tag=4
 ·by_cases he:(fO a.Arg kinds).2=0<;>simp [h4,he]
 by_cases h5:a.Tag=5
 ·by_cases he:(fO a.Arg kinds).2=0<;>simp [h5,he]
 have:a.Tag<1∨5<a.Tag:=by omega
 simp [h1,h2,h3,h4,h5,this]
def Bd(p:Option (List Int×Bool))(q:Option (List Int×Bool))(last:Bool):Prop:=
 ∃k o k',p=some (k,o&&last)∧q=some (k',o)∧(o=true→k=k')
variable{c:Int}{k:List Int}{x:Int}
theorem Gl(c:aE)(n:am)(a b:List Int)(hn:ja n)(hop:n.Op=1):Bd (fX c n) (bq n a b) true:=by
 have h:=hn.kinds
 have key: ∀(tl:List Int) (i:Nat) (fu:Nat) (ok:Bool),n.Kinds.drop i=tl→tl.length<fu→dB n fu ok (i:Int)=some (n.Kinds,((((ok&&tl.all fun k=>decide (1≤k)&&decide (k≤3))&&(decide ((0:Int)≤n.Table)))&&(decide (n.Table≤(3:Int))))&&(decide ((1:Int)≤(n.Kinds.length:Int))))&&(decide ((n.Kinds.length:Int)≤(4:Int)))):=by
  intro tl
  induction tl with
  |nil=>
   intro i fu ok hd hf
   obtain⟨fu,rfl⟩: ∃k,fu=k+1:=⟨fu-1,by omega⟩
   have:=u9 hd
   rw [dB,aM (by simp;omega)]
   simp
  |cons x tl ih=>
   intro i fu ok hd hf
   simp only [iG]at hf
   obtain⟨fu,rfl⟩: ∃k,fu=k+1:=⟨fu-1,by omega⟩
   obtain⟨h1,h2,h3⟩:=ky hd
   rw [dB,aW (by simp;omega),h1,cx (by omega) (by omega)]
   simp only [aY]
   have e:((i:Int)+1)=((i+1:Nat):Int):=by omega
   rw [e]
   have e2:((if ok=true then some (decide ((1:Int)≤x))else some false).bind fun t=>(if t=true then some (decide (x≤(3:Int)))else some false).bind fun t1=>dB n fu t1 ((i+1:Nat):Int))=dB n fu (ok&&(decide (1≤x)&&decide (x≤3))) ((i+1:Nat):Int):=by
    cases ok<;>by_cases hx:(1:Int)≤x<;>simp [hx]
   rw [e2,ih (i+1) fu _ h3 (by omega)]
   simp only [wq,Dr]
 have hr:bq n a b=dB n ge true (0:Int):=by unfold bq;rw [aW (by simp [hop])]
 rw [hr,show((0:Int))=((0:Nat):Int)from rfl,key n.Kinds 0 ge true rfl (wE (wL _) (kY (by omega)))]
 unfold fX
 have hc:cA n.Kinds jo=some (n.Kinds.any fun k=> !(((k==(1:Int))||(k==(2:Int)))||(k==(3:Int)))):=jM (fun v=>rfl) _
 rw [hc]
 simp only [aY]
 have e3:(!(n.Kinds.any fun k=> !(((k==(1:Int))||(k==(2:Int)))||(k==(3:Int)))))=n.Kinds.all fun k=>decide (1≤k)&&decide (k≤3):=by
  rw [List.not_any_eq_all_not]
  congr 1
  funext k
  rw [Bool.not_not,zX]
  simp;omega
 rw [e3]
 refine⟨n.Kinds,_,n.Kinds,?_,rfl,fun _=>rfl⟩
 cases h4:(n.Kinds.all fun k=>decide (1≤k)&&decide (k≤3))<;>by_cases t1:0≤n.Table<;>by_cases t2:n.Table<4<;>by_cases l1:(1:Int)≤(n.Kinds.length:Int)<;>by_cases l2:(n.Kinds.length:Int)≤4<;>simp [t1,t2,l1,l2]<;>omega
theorem Pt(c:aE)(n:am)(a b:List Int)(hn:ja n)(hop:n.Op=2)(ha:cE c.kinds n.A=some a)(hb:cE c.kinds n.B=some b)(hal:a.length≤16)(hbl:b.length≤16):Bd (gL c n) (bq n a b) true:=by
 unfold gL bq
 rw [ha,hb,aM (by simp [hop]),aW (by simp [hop])]
 simp only [aY]
 rw [KX _ _ (by omega) (by omega),cr (by simp;omega)]
 simp only [aY,kz]
 rw [cr (by omega)]
 simp only [aY]
 rw [xf _ _ hn.cond,lG]
 exact⟨_,Hk n.Cond (a++b),_,by simp,rfl,fun _=>rfl⟩
theorem Kl(c:aE)(n:am)(a b:List Int)(hn:ja n)(hop:n.Op=3)(ha:cE c.kinds n.A=some a):Bd (fY c n) (bq n a b) true:=by
 unfold fY bq
 rw [ha,aM (by simp [hop]),aM (by simp [hop]),aW (by simp [hop])]
 simp only [aY]
 rw [xf _ _ hn.cond,lG]
 exact⟨_,Hk n.Cond a,_,by simp,rfl,fun _=>rfl⟩
theorem FX(c:aE)(n:am)(a b:List Int)(hop:n.Op=6)(ha:cE c.kinds n.A=some a):Bd (fc c n) (bq n a b) true:=by
 unfold fc bq
 rw [ha,aM (by simp [hop]),aM (by simp [hop]),aM (by simp [hop]),aM (by simp [hop]),aM (by simp [hop]),aW (by simp [hop])]
 exact⟨_,true,_,rfl,rfl,fun _=>rfl⟩
theorem HD(c:aE)(n:am)(a b:List Int)(hn:ja n)(hop:n.Op=5)(ha:cE c.kinds n.A=some a):Bd (fD c n) (bq n a b) true:=by
 have h:=hn.items
 have hr:bq n a b=dT n a ge [] true (0:Int):=by unfold bq;rw [aM (by simp [hop]),aM (by simp [hop]),aM (by simp [hop]),aM (by simp [hop]),aW (by simp [hop])]
 have key: ∀(tl:List bL) (i:Nat) (fu:Nat) (out:List Int) (ok:Bool),n.Items.drop i=tl→i+tl.length=n.Items.length→tl.length<fu→out.length=i→dT n a fu out ok (i:Int)=some (out++tl.map (fun e=>(fO e a).1),((ok&&tl.all fun e=>(fO e a).2==0)&&(decide ((1:Int)≤(n.Items.length:Int))))&&(decide ((n.Items.length:Int)≤(16:Int)))):=by
  intro tl
  induction tl with
  |nil=>
   intro i fu out ok hd hi hf ho
   obtain⟨fu,rfl⟩: ∃k,fu=k+1:=⟨fu-1,by omega⟩
   simp only [ph,ym]at hi
   rw [dT,aM (by simp;omega)]
   simp [ho,hi]
  |cons x tl ih=>
   intro i fu out ok hd hi hf ho
   simp only [iG]at hf hi
   obtain⟨fu,rfl⟩: ∃k,fu=k+1:=⟨fu-1,by omega⟩
   obtain⟨h1,h2,h3⟩:=ky hd
   rw [dT,aW (by simp;omega),h1]
   simp only [aY]
   rw [lb]
   simp only [aY]
   rw [cr (by simp;omega),cx (by omega) (by omega)]
   simp only [aY]
   have e:((i:Int)+1)=((i+1:Nat):Int):=by omega
   rw [e,ih (i+1) fu _ _ h3 (by omega) (by omega) (by simp [ho])]
   simp [Dr]
 rw [hr,show((0:Int))=((0:Nat):Int)from rfl,key n.Items 0 ge [] true rfl (by simp) (wE (wL _) (kY (by omega))) rfl]
 unfold fD
 have key2: ∀(tl:List bL) (out:List Int) (ok:Bool),(∀e∈tl,e.Nodes.length≤5000)→out.length+tl.length≤5000→fx c n tl out ok=some (out++tl.map (fun e=>(fO e a).1),ok&&tl.all fun e=>(fO e a).2==0):=by
  intro tl
  induction tl with
  |nil=>intro out ok _ _;simp [fx]
  |cons x tl ih=>
   intro out ok he hl
   simp only [iG]at hl
   rw [fx,ha]
   simp only [aY]
   rw [vQ _ _ (by have:=he x (kE ..);omega)]
   simp only [aY]
   rw [cr (by simp;omega)]
   simp only [aY]
   rw [ih _ _ (fun e h=>he e (kC _ h)) (by simp;omega)]
   simp [Dr]
 rw [key2 n.Items [] _ hn.exprs (by simp;omega)]
 refine⟨_,_,_,?_,rfl,fun _=>rfl⟩
 simp only [yH,uA]
 congr 2
 cases (n.Items.all fun e=>(fO e a).2==0)<;>simp
def Xt(a:List Int)(e:Int):Int:=(a[e.toNat]?).getD 0
def HJ(a:List Int)(e:Int):Bool:=decide (e<0)||decide ((a.length:Int)≤e)
theorem Rg{e:Int}(h:HJ a e=false):cE a e=some (Xt a e):=by
 simp [HJ]at h
 rw [gM e.toNat (by omega),n8 (by omega)]
 unfold Xt
 rw [n8 (by omega)];rfl
theorem Mo(c:aE)(n:am)(a b:List Int)(hn:ja n)(hop:n.Op=4)(ha:cE c.kinds n.A=some a):Bd (gy c n) (bq n a b) true:=by
 have hK:=hn.keys
 have hA:=hn.aggs
 have hr:bq n a b=dV n a ge [] (0:Int):=by unfold bq;rw [aM (by simp [hop]),aM (by simp [hop]),aM (by simp [hop]),aW (by simp [hop])]
 have key3: ∀(tl:List hY) (i:Nat) (fu:Nat) (out:List Int) (ok:Bool),n.Aggs.drop i=tl→i+tl.length=n.Aggs.length→tl.length<fu→out.length≤5000+i→dU n a fu out ok (i:Int)=some (out++tl.map (fun e=>(Bb e a).1),(((ok&&tl.all fun e=>(Bb e a).2)&&(decide ((n.Keys.length:Int)≤(3:Int))))&&(decide ((n.Aggs.length:Int)≤(12:Int))))&&(decide ((0:Int)<((out.length+tl.length:Nat):Int)))):=by
  intro tl
  induction tl with
  |nil=>
   intro i fu out ok hd hi hf ho
   obtain⟨fu,rfl⟩: ∃k,fu=k+1:=⟨fu-1,by omega⟩
   simp only [ph,ym]at hi
   rw [dU,aM (by simp;omega)]
   simp
  |cons x tl ih=>
   intro i fu out ok hd hi hf ho
   simp only [iG]at hf hi
   obtain⟨fu,rfl⟩: ∃k,fu=k+1:=⟨fu-1,by omega⟩
   obtain⟨h1,h2,h3⟩:=ky hd
   rw [dU,aW (by simp;omega),h1]
   simp only [aY]
   rw [oP]
   simp only [aY]
   rw [cr (by simp;omega),cx (by omega) (by omega)]
   simp only [aY]
   have e:((i:Int)+1)=((i+1:Nat):Int):=by omega
   rw [e,ih (i+1) fu _ _ h3 (by omega) (by omega) (by simp;omega)]
   simp only [wc,wq,Dr,jv,iO,iG,ph,wC,kz]
   rw [show out.length+(0+1)+tl.length=out.length+(tl.length+1)from by omega]
 have key2: ∀(tl:List Int) (i:Nat) (fu:Nat) (out:List Int),n.Keys.drop i=tl→i+tl.length=n.Keys.length→tl.length<fu→out.length=i→dV n a fu out (i:Int)=if tl.any (HJ a)then some ([],false)else dU n a ge (out++tl.map (Xt a)) true 0:=by
  intro tl
  induction tl with
  |nil=>
   intro i fu out hd hi hf ho
   obtain⟨fu,rfl⟩: ∃k,fu=k+1:=⟨fu-1,by omega⟩
   simp only [ph,ym]at hi
   rw [dV,aM (by simp;omega)]
   simp
  |cons x tl ih=>
   intro i fu out hd hi hf ho
   simp only [iG]at hf hi
   obtain⟨fu,rfl⟩: ∃k,fu=k+1:=⟨fu-1,by omega⟩
   obtain⟨h1,h2,h3⟩:=ky hd
   rw [dV,aW (by simp;omega),h1]
   simp only [aY]
   cases hx:HJ a x with
   |true=>
    have hx' :(decide (x<0)||decide ((a.length:Int)≤x))=true:=hx
    rw [aW hx',aW (by simp [hx])]
   |false=>
    have hx' : ¬(decide (x<0)||decide ((a.length:Int)≤x))=true:=by rw [show(decide (x<0)||decide ((a.length:Int)≤x))=HJ a x from rfl,hx];decide
    rw [aM hx',Rg hx]
    simp only [aY]
    rw [cr (by simp;omega),cx (by omega) (by omega)]
    simp only [aY]
    have e:((i:Int)+1)=((i+1:Nat):Int):=by omega
    rw [e,ih (i+1) fu _ h3 (by omega) (by omega) (by simp [ho])]
    simp [hx]
 rw [hr,show((0:Int))=((0:Nat):Int)from rfl,key2 n.Keys 0 ge [] rfl (by simp) (wE (wL _) (kY (by omega))) rfl]
 rw [show((0:Int))=((0:Nat):Int)from rfl,key3 n.Aggs 0 ge _ true rfl (by simp) (wE (wL _) (kY (by omega))) (by simp;omega)]
 unfold gy
 rw [ha,cx (by omega) (by omega)]
 simp only [aY]
 have hp:rU n.Keys a=some (!(n.Keys.any (HJ a))):=by
  unfold rU
  rw [jM (f:=pG a) (g:=HJ a) (fun v=>rfl)]
  rfl
 rw [hp]
 simp only [aY,kz,Cd]
 have kl: ∀(tl:List hY) (out:List Int) (ok:Bool),(∀e∈tl,e.Arg.Nodes.length≤5000)→out.length+tl.length≤10000→fb a tl out ok=some (out++tl.map (fun e=>(OJ e a).1),ok&&tl.all fun e=>(OJ e a).2):=by
  intro tl
  induction tl with
  |nil=>intro out ok _ _;simp [fb]
  |cons x tl ih=>
   intro out ok he hl
   simp only [iG]at hl
   rw [fb,HU _ _ (he x (kE ..))]
   simp only [aY]
   rw [cr (by simp;omega)]
   simp only [aY]
   rw [ih _ _ (fun e h=>he e (kC _ h)) (by simp;omega)]
   simp [Dr]
 have kl1: ∀(t:Bool) (tl out:List Int),tl.any (HJ a)=false→out.length+tl.length≤5000→gq n a t tl out=fb a n.Aggs (out++tl.map (Xt a)) t:=by
  intro t tl
  induction tl with
  |nil=>intro out _ _;simp [gq]
  |cons x tl ih=>
   intro out ho hl
   simp only [iG]at hl
   simp only [uG,Bool.or_eq_false_iff]at ho
   rw [gq,Rg ho.1]
   simp only [aY]
   rw [cr (by simp;omega)]
   simp only [aY]
   rw [ih _ ho.2 (by simp;omega)]
   simp
 have hall:(n.Aggs.all fun e=>(OJ e a).2)=n.Aggs.all fun e=>(Bb e a).2:=by
  congr 1;funext e;exact(Dm e a).1
 have hmap:(n.Aggs.all fun e=>(OJ e a).2)=true→n.Aggs.map (fun e=>(OJ e a).1)=n.Aggs.map fun e=>(Bb e a).1:=by
  intro h
  exact IM fun e he=>(Dm e a).2 (ju.1 h e he)
 cases hany:n.Keys.any (HJ a)with
 |true=>exact⟨[],false,[],by simp,by simp,fun _=>rfl⟩
 |false=>
  by_cases hb:((n.Keys.length≤3∧n.Aggs.length≤12)∧0<n.Keys.length+n.Aggs.length)
  ·have hb' :(((decide ((n.Keys.length:Int)≤(3:Int)))&&(decide ((n.Aggs.length:Int)≤(12:Int))))&&(decide ((0:Int)<(n.Keys.length:Int)+(n.Aggs.length:Int))))=true:=by simp;omega
   simp only [hb',fe,wd,ly,gh,ez,aY]
   rw [kl1 true n.Keys [] hany (by simp;omega),kl n.Aggs _ true hn.args (by simp;omega)]
   refine⟨n.Keys.map (Xt a)++n.Aggs.map (fun e=>(OJ e a).1),n.Aggs.all fun e=>(Bb e a).2,n.Keys.map (Xt a)++n.Aggs.map (fun e=>(Bb e a).1),by simp [hall],?_,fun h=>?_⟩
   ·have h1:(decide ((n.Keys.length:Int)≤(3:Int)))=true:=by simp;omega
    have h2:(decide ((n.Aggs.length:Int)≤(12:Int)))=true:=by simp;omega
    have h3:(decide ((0:Int)<((n.Keys.length+n.Aggs.length:Nat):Int)))=true:=by simp;omega
    simp only [h1,h2,h3,yH,uA]
   ·rw [hmap (by rw [hall];exact h)]
  ·have hb' :(((decide ((n.Keys.length:Int)≤(3:Int)))&&(decide ((n.Aggs.length:Int)≤(12:Int))))&&(decide ((0:Int)<(n.Keys.length:Int)+(n.Aggs.length:Int))))=false:=by rw [rl];simp;omega
   simp only [hb',fe,wd,gh,ez,aY]
   refine⟨[],false,n.Keys.map (Xt a)++n.Aggs.map (fun e=>(Bb e a).1),by simp,?_,by simp⟩
   have:((((true&&n.Aggs.all fun e=>(Bb e a).2)&&(decide ((n.Keys.length:Int)≤(3:Int))))&&(decide ((n.Aggs.length:Int)≤(12:Int))))&&(decide ((0:Int)<((n.Keys.length+n.Aggs.length:Nat):Int))))=false:=by rw [rl];simp;omega
   rw [this]
def Qq(x y:Int):Int:=if x=0 then y else x
def I4(p:Int×Int):Bool:=(p.2==Qq p.1 p.2)||p.2==0
theorem Lr(c:aE)(n:am)(a b:List Int)(hop:n.Op=7)(ha:cE c.kinds n.A=some a)(hb:cE c.kinds n.B=some b)(hal:a.length≤16):Bd (gw c n) (bq n a b) true:=by
 unfold gw bq
 rw [ha,hb,aM (by simp [hop]),aM (by simp [hop]),aM (by simp [hop]),aM (by simp [hop]),aM (by simp [hop]),aM (by simp [hop]),aW (by simp [hop])]
 simp only [aY]
 by_cases hl:a.length=b.length
 ·rw [aM (by simp;omega),aM (by simp;omega),sb _ (by omega)]
  simp only [aY]
  have kc: ∀(tl pre suf:List Int) (ok:Bool),suf.length=tl.length→dH tl pre.length (pre++suf) ok=some (pre++List.zipWith Qq suf tl,ok&&(suf.zip tl).all I4):=by
   intro tl
   induction tl with
   |nil=>
    intro pre suf ok h
    have:suf=[]:=tz h
    subst this
    simp [dH]
   |cons y tl ih=>
    intro pre suf ok h
    cases suf with
    |nil=>simp at h
    |cons x suf=>
     simp only [iG,Nat.add_right_cancel_iff]at h
     rw [dH,bX,ui (dF _),za]
     simp only [Fq,aY]
     have step: ∀(z:Int),ip (dH tl) pre.length y ok (pre++z::suf)=some (pre++z::List.zipWith Qq suf tl,ok&&((z==y||y==0)&&(suf.zip tl).all I4)):=by
      intro z
      unfold ip
      rw [bX,ui (dF _),za]
      simp only [Fq,aY]
      have e1:pre++z::suf=(pre++[z])++suf:=by simp
      have e2:pre.length+1=(pre++[z]).length:=by simp
      cases ok with
      |true=>
       simp only [fe,aY,uA]
       rw [e1,e2,ih (pre++[z]) suf _ h]
       simp
      |false=>
       simp only [gh,ez,aY,Dq]
       rw [e1,e2,ih (pre++[z]) suf _ h]
       simp
     by_cases hx:x=0
     ·subst hx
      rw [aW (by simp)]
      have e3:(pre++(0:Int)::suf).set ((pre.length:Int)).toNat y=pre++y::suf:=by
       rw [yn,List.set_append_right _ _ (dF _),za];rfl
      rw [e3]
      refine(step y).trans ?_
      simp [I4,Qq]
     ·rw [aM (by simpa using hx),step x]
      have:Qq x y=x:=by unfold Qq;rw [aM hx]
      simp only [List.zipWith_cons_cons,List.zip_cons_cons,wq,I4,this]
      have e4:(y==x)=(x==y):=by rw [zX,ss,ss];exact eq_comm
      rw [e4]
  have kr: ∀(tl tb:List Int) (i:Nat) (out:List Int) (ok:Bool),b.drop i=tb→tl.length=tb.length→out.length+tl.length≤1000→dA b tl i out ok=some (out++List.zipWith Qq tl tb,ok&&(tl.zip tb).all I4):=by
   intro tl
   induction tl with
   |nil=>
    intro tb i out ok hd h _
    have:tb=[]:=tz h.symm
    subst this
    simp [dA]
   |cons x tl ih=>
    intro tb i out ok hd h hm
    cases tb with
    |nil=>simp at h
    |cons y tb=>
     simp only [iG,Nat.add_right_cancel_iff]at h hm
     obtain⟨h1,h2,h3⟩:=ky hd
     rw [dA,h1]
     simp only [aY]
     have step: ∀z:Int,il b (dA b tl) i out ok z=some (out++z::List.zipWith Qq tl tb,ok&&((y==z||y==0)&&(tl.zip tb).all I4)):=by
      intro z
      unfold il
      rw [cr (by simp;omega),h1]
      simp only [aY]
      cases ok with
      |true=>
       simp only [fe,aY,uA]
       cases hyz:y==z with
       |true=>
        simp only [ly,gh,ez,aY]
        rw [ih tb (i+1) _ _ h3 h (by simp;omega)]
        simp
       |false=>
        simp only [wd,fe,aY]
        rw [ih tb (i+1) _ _ h3 h (by simp;omega)]
        simp
      |false=>
       simp only [gh,ez,aY,Dq]
       rw [ih tb (i+1) _ _ h3 h (by simp;omega)]
       simp
     by_cases hx:x=0
     ·subst hx
      rw [aW (by simp),step y]
      simp [I4,Qq]
     ·rw [aM (by simpa using hx),step x]
      have:Qq x y=x:=by unfold Qq;rw [aM hx]
      simp only [List.zipWith_cons_cons,List.zip_cons_cons,wq,I4,this]
  have h1:=kc b [] a true hl
  rw [ph,kz]at h1
  rw [h1,kr a b 0 [] true rfl hl (by simp;omega)]
  exact⟨_,_,_,by rw [yH],rfl,fun _=>rfl⟩
 ·rw [aW (by simp;omega),aW (by simp;omega)]
  exact⟨[],false,[],rfl,rfl,fun _=>rfl⟩
theorem Md(c:aE)(n:am)(a b:List Int)(hn:ja n)(hop:n.Op=8)(ha:cE c.kinds n.A=some a):Bd (gx c n) (bq n a b) ((c.kinds.length:Int)==IntKind.i64.wrap ((c.Logic.Nodes.length:Int)-(1:Int))):=by
 have h:=hn.order
 have hr:bq n a b=dg n a ge true (0:Int):=by unfold bq;rw [aM (by simp [hop]),aM (by simp [hop]),aM (by simp [hop]),aM (by simp [hop]),aM (by simp [hop]),aM (by simp [hop]),aM (by simp [hop])]
 have key: ∀(tl:List dn) (i:Nat) (fu:Nat) (ok:Bool),n.Order.drop i=tl→i+tl.length=n.Order.length→tl.length<fu→dg n a fu ok (i:Int)=some (a,((((ok&&tl.all fun e=>decide (0≤e.Col)&&decide (e.Col<(a.length:Int)))&&(decide ((n.Order.length:Int)≤(3:Int))))&&(decide ((-1:Int)≤n.Limit)))&&(decide (n.Limit≤(2147483647:Int))))):=by
  intro tl
  induction tl with
  |nil=>
   intro i fu ok hd hi hf
   obtain⟨fu,rfl⟩: ∃k,fu=k+1:=⟨fu-1,by omega⟩
   simp only [ph,ym]at hi
   rw [dg,aM (by simp;omega)]
   simp
  |cons x tl ih=>
   intro i fu ok hd hi hf
   simp only [iG]at hf hi
   obtain⟨fu,rfl⟩: ∃k,fu=k+1:=⟨fu-1,by omega⟩
   obtain⟨h1,h2,h3⟩:=ky hd
   rw [dg,aW (by simp;omega),h1,cx (by omega) (by omega)]
   simp only [aY]
   have e:((i:Int)+1)=((i+1:Nat):Int):=by omega
   rw [e]
   have e2:((if ok=true then some (decide ((0:Int)≤x.Col))else some false).bind fun t=>(if t=true then some (decide (x.Col<(a.length:Int)))else some false).bind fun t1=>dg n a fu t1 ((i+1:Nat):Int))=dg n a fu (ok&&(decide (0≤x.Col)&&decide (x.Col<(a.length:Int)))) ((i+1:Nat):Int):=by
    cases ok<;>by_cases hx:(0:Int)≤x.Col<;>simp [hx]
   rw [e2,ih (i+1) fu _ h3 (by omega) (by omega)]
   simp only [wq,Dr]
 rw [hr,show((0:Int))=((0:Nat):Int)from rfl,key n.Order 0 ge true rfl (by simp) (wE (wL _) (kY (by omega)))]
 unfold gx
 rw [ha]
 simp only [aY]
 rw [rz (f:=ku a) (g:=fun o=>(decide (o.Col<(0:Int)))||(decide ((a.length:Int)≤o.Col))) (fun v=>rfl)]
 simp only [aY]
 have e3:(!(n.Order.any fun o=>(decide (o.Col<(0:Int)))||(decide ((a.length:Int)≤o.Col))))=n.Order.all fun e=>decide (0≤e.Col)&&decide (e.Col<(a.length:Int)):=by
  rw [List.not_any_eq_all_not]
  congr 1
  funext k
  rw [zX]
  simp
 rw [e3]
 refine⟨a,_,a,?_,rfl,fun _=>rfl⟩
 cases h4:(n.Order.all fun e=>decide (0≤e.Col)&&decide (e.Col<(a.length:Int)))<;>by_cases l1:(n.Order.length:Int)≤3<;>simp [l1]

def atR(r:co)(c:Int):ac:=(r[c.toNat]?).getD zV
def YO(o:dn)(n:Int):Int:=if o.Desc then -n else n
def ta:List dn→co→co→Int
 |[],a,b=>ek a b
 |o::t,a,b=>GO (YO o (val (atR a o.Col) (atR b o.Col))) (ta t a b)
theorem Te(o:dn):Bi (fun x y=>YO o (val x y)):=by
 have h:=qD
 unfold YO
 cases o.Desc with
 |false=>exact h
 |true=>
  refine⟨fun x y=>?_,fun x y=>?_,fun x y=>?_,fun x y z h1 h2=>?_⟩
  ·rcases h.rng x y with q|q|q<;>simp [q]
  ·have:=h.anti x y;simp [this]
  ·simp only [fe];rw [←h.eq x y];omega
  ·simp only [fe]at h1 h2 ⊢
   have a1:=h.anti x y;have a2:=h.anti y z;have a3:=h.anti x z
   have:=h.trans z y x (by omega) (by omega)
   omega
theorem yb: ∀order:List dn,Bi (ta order)
 |[]=>i8
 |o::t=>
  have h:=Bi.lex (Te o) (yb t)
  ⟨fun x y=>h.rng (atR x o.Col,x) (atR y o.Col,y),fun x y=>h.anti (atR x o.Col,x) (atR y o.Col,y),fun x y=>(h.eq (atR x o.Col,x) (atR y o.Col,y)).trans ⟨fun e=>(Prod.mk.injEq ..▸e).2,fun e=>by rw [e]⟩,fun x y z=>h.trans (atR x o.Col,x) (atR y o.Col,y) (atR z o.Col,z)⟩
def tP(order:List dn)(r:co):Bool:=order.all fun o=>decide (0≤o.Col)&&decide (o.Col<(r.length:Int))
variable{r:co}
theorem AK(h:0≤c)(h2:c<(r.length:Int)):cE r c=some (atR r c):=by
 obtain⟨k,hk⟩:=Dx h
 subst hk
 have hk:k<r.length:=by omega
 unfold atR
 rw [gM k rfl]
 simp [hk]
theorem GP(hr:cZ r=true)(h:0≤c)(h2:c<(r.length:Int)):fh (atR r c)=true:=by
 have hm:atR r c∈r:=by
  obtain⟨k,hk⟩:=Dx h
  subst hk
  have hk:k<r.length:=by omega
  unfold atR
  simp [hk]
 unfold cZ at hr
 simp only [lr,ju]at hr
 exact hr.2 _ hm
theorem Nq{β:Type}(o:dn){n:Int}(h:n= -1∨n=0∨n=1)(f:Int→β):(if o.Desc then f (IntKind.i64.wrap (0-n))else f n)=f (YO o n):=by
 unfold YO
 cases o.Desc with
 |false=>rfl
 |true=>rcases h with h|h|h<;>subst h<;>rfl
theorem AE{o:dn}{t:List dn}(h:tP (o::t) r=true):0≤o.Col∧o.Col<(r.length:Int)∧tP t r=true:=by
 unfold tP at h ⊢
 rw [wq]at h
 simp only [lr,kZ]at h
 exact⟨h.1.1,h.1.2,h.2⟩
theorem Sp{a b:co}(ha:cZ a=true)(hb:cZ b=true): ∀order:List dn,tP order a=true→tP order b=true→ma order a b=some (ta order a b)
 |[],_,_=>by
  unfold ma jq
  rw [y9 ha hb];rfl
 |o::t,h1,h2=>by
  obtain⟨p1,p2,p3⟩:=AE h1
  obtain⟨q1,q2,q3⟩:=AE h2
  have ih:=Sp ha hb t p3 q3
  unfold ma at ih ⊢
  unfold jq
  rw [AK p1 p2,AK q1 q2,aY,aY,qu (GP ha p1 p2) (GP hb q1 q2),aY]
  have hs:=Nq o (qD.rng (atR a o.Col) (atR b o.Col)) (nJ (jq a b t))
  rw [hs,ih]
  unfold nJ
  show _=some (GO _ _)
  unfold GO
  split<;>rfl
theorem E0{a b:co}(ha:a.length<4611686018427387904): ∀order:List dn,tP order a=true→tP order b=true→nu a b order=some (decide (ta order a b<0))
 |[],_,_=>by
  unfold nu jj
  rw [uR a b ha];rfl
 |o::t,h1,h2=>by
  obtain⟨p1,p2,p3⟩:=AE h1
  obtain⟨q1,q2,q3⟩:=AE h2
  have ih:=E0 (a:=a) (b:=b) ha t p3 q3
  unfold nu at ih ⊢
  unfold jj
  rw [AK p1 p2,AK q1 q2,aY,aY,sK,aY]
  have hs:=Nq o (qD.rng (atR a o.Col) (atR b o.Col)) (nt (jj a b t))
  rw [hs,ih]
  unfold nt
  show _=some (decide (GO _ _<0))
  unfold GO
  split<;>rfl
def FY(limit:Int)(l:List co):List co:=if 0≤limit∧limit<(l.length:Int)then l.take limit.toNat else l
theorem R6(limit:Int)(l:List co)(k:List co→Option (List co))(hk: ∀x,k x=some x):(if((decide ((0:Int)≤limit))&&(decide (limit<(l.length:Int))))then((dx l 0 limit).bind fun y=>k y)else k l)=some (FY limit l):=by
 unfold FY
 by_cases h:0≤limit∧limit<(l.length:Int)
 ·rw [aW (by simp [h.1,h.2]),aW h,lD (xs:=l) (i:=0) (j:=limit) 0 limit.toNat rfl (by omega) (ln _) (by omega),aY,hk]
  simp
 ·rw [aM (by simp only [lr,kZ];exact h),aM h,hk]
structure IB(order:List dn)(l:List co):Prop where
 right: ∀r∈l,cZ r=true
 cols: ∀r∈l,tP order r=true
variable{rows:List co}
theorem Gg(order:List dn)(limit:Int): ∀(rows out:List co),IB order (out++rows)→out.length+rows.length≤1000000→j5 order limit rows out=some (FY limit (tt (ta order) (out++rows)))
 |[],out,h,hl=>by
  unfold j5
  rw [su]at h ⊢
  have e:vd order=some (ma order):=rfl
  rw [e,aY]
  rw [Jd (yb order) (fun x hx y hy=>by exact Sp (h.right x hx) (h.right y hy) order (h.cols x hx) (h.cols y hy)) (by simp at hl;omega),aY]
  exact R6 limit _ nW (fun _=>rfl)
 |r::t,out,h,hl=>by
  rw [iG]at hl
  unfold j5
  have hr:=LR (h.right r (by simp))
  rw [B9 r (by omega),aY,cr (by simp;omega),aY,Gg order limit t (out++[r]) (by rwa [jv,Hb]) (by simp only [iO,yq];omega)]
  rw [jv,Hb]
theorem vc{order:List dn}(h:IB order rows)(hl:rows.length≤1000000)(limit:Int):m8 rows order limit=some (FY limit (tt (ta order) rows)):=by
 unfold m8
 rw [Gg order limit rows [] (by simpa using h) (by simpa using hl)]
 rfl
variable{p:Nat}
theorem QG(p q:List α)(w v:α):(p++w::q).set p.length v=p++v::q:=by
 induction p with
 |nil=>rfl
 |cons x t ih=>simp [ih]
theorem zz(p q:List α)(w:α):cE (p++w::q) (p.length:Int)=some w:=by
 rw [Ka];simp
theorem Jf(nx:List co→Option (List co))(e:co)(out:List co)(i:Nat)(hout:out.length≤500000): ∀(fu k:Nat) (w:co),i≤k→k≤out.length→k<i+fu→mY nx e (i:Int) fu (out.take k++w::out.drop k) (k:Int)=nx (out.take i++e::out.drop i)
 |0,k,w,h1,_,h3=>by omega
 |fu+1,k,w,h1,h2,h3=>by
  have hlen:(out.take k).length=k:=by simp;omega
  unfold mY
  by_cases hk:i<k
  ·rw [aW (by rw [kZ];omega)]
   obtain⟨m,hm⟩: ∃m,k=m+1:=⟨k-1,by omega⟩
   subst hm
   have hmo:m<out.length:=by omega
   have et:out.take (m+1)=out.take m++[out[m]]:=Lh hmo
   have ed:out.drop m=out[m]::out.drop (m+1):=rD hmo
   have hw:IntKind.i64.wrap (((m+1:Nat):Int)-1)=(m:Int):=by rw [lW (by omega) (by omega)];omega
   have hlm:(out.take m).length=m:=by simp;omega
   have i1:cE (out.take (m+1)++w::out.drop (m+1)) (m:Int)=some out[m]:=by
    rw [et,jv,Hb]
    have:=zz (out.take m) (w::out.drop (m+1)) out[m]
    rw [hlm]at this
    exact this
   have i2:cE (out.take (m+1)++w::out.drop (m+1)) ((m+1:Nat):Int)=some w:=by
    have:=zz (out.take (m+1)) (out.drop (m+1)) w
    rw [hlen]at this
    exact this
   rw [hw,i1,i2]
   simp only [aY]
   have hs:(out.take (m+1)++w::out.drop (m+1)).set ((m+1:Nat):Int).toNat out[m]=out.take m++out[m]::out.drop m:=by
    have:=QG (out.take (m+1)) (out.drop (m+1)) w out[m]
    rw [hlen]at this
    rw [yn,this,et,ed,jv,Hb]
   rw [hs]
   exact Jf nx e out i hout fu m out[m] (by omega) (by omega) (by omega)
  ·have he:k=i:=by omega
   subst he
   rw [aM (by rw [kZ];omega)]
   have i2:cE (out.take k++w::out.drop k) (k:Int)=some w:=by
    have:=zz (out.take k) (out.drop k) w
    rw [hlen]at this
    exact this
   have hs:(out.take k++w::out.drop k).set ((k:Nat):Int).toNat e=out.take k++e::out.drop k:=by
    have:=QG (out.take k) (out.drop k) w e
    rw [hlen]at this
    rw [yn,this]
   rw [i2]
   simp only [aY]
   rw [hs]
theorem QK(order:List dn)(nx:List co→Option (List co))(e:co)(he:tP order e=true)(hel:e.length≤1000000)(out:List co)(hc: ∀r∈out,tP order r=true)(hout:out.length≤500000): ∀(fu i:Nat),i≤out.length→out.length<i+fu→oj order nx e out fu (i:Int)=nx (out.take i++put (ta order) e (out.drop i))
 |0,i,h1,h2=>by omega
 |fu+1,i,h1,h2=>by
  unfold oj
  have hend:((app out ([[]])).bind fun out1=>mY nx e (i:Int) ge out1 (IntKind.i64.wrap ((out1.length:Int)-(1:Int))))=nx (out.take i++e::out.drop i):=by
   rw [cr (by simp;omega),aY]
   have hw:IntKind.i64.wrap (((out++[[]]).length:Int)-1)=(out.length:Int):=by rw [lW (by omega) (by simp only [iO,yq];omega)];simp
   rw [hw]
   have:=Jf nx e out i hout ge out.length [] h1 (dF _) (by have:=kY (n:=600000) (by omega);omega)
   simpa using this
  by_cases hi:i<out.length
  ·have hd:out.drop i=out[i]::out.drop (i+1):=rD hi
   rw [aW (by rw [kZ];omega),gM i rfl,n8 hi,aY,E0 (by omega) order he (hc _ (F4 hi)),aY,aY,hd]
   unfold put
   by_cases hlt:ta order e out[i]<0
   ·rw [aM (by simpa using hlt),aW hlt,hend,←hd]
   ·have hw:IntKind.i64.wrap ((i:Int)+1)=((i+1:Nat):Int):=by rw [lW (by omega) (by omega)];omega
    rw [aW (by simpa using hlt),aM hlt,hw,QK order nx e he hel out hc hout fu (i+1) (by omega) (by omega)]
    rw [Lh hi,jv,Hb]
  ·have hi2:i=out.length:=by omega
   rw [aM (by rw [kZ];omega),aY,aM (by decide),hend]
   have:out.drop i=[]:=by rw [hi2];simp
   rw [this];rfl
theorem Np(order:List dn)(limit:Int): ∀(rows out:List co),(∀r∈rows,tP order r=true∧r.length≤1000000)→(∀r∈out,tP order r=true)→out.length+rows.length≤400000→jX order limit rows out=some (FY limit (BE (ta order) rows out))
 |[],out,_,_,_=>by
  unfold jX
  exact R6 limit out some (fun _=>rfl)
 |r::t,out,h,hc,hl=>by
  rw [iG]at hl
  have hr:=h r (kE ..)
  unfold jX
  rw [show(0:Int)=((0:Nat):Int)from rfl,QK order _ r hr.1 hr.2 out hc (by omega) ge 0 (by omega) (by have:=kY (n:=600000) (by omega);omega)]
  simp only [List.take_zero,kz,wB]
  have hp:=Ax (ta order) r out
  rw [Np order limit t _ (fun x hx=>h x (kC _ hx)) (by
   intro x hx
   rcases fF.1 (hp.mem_iff.1 hx)with q|q
   ·rw [q];exact hr.1
   ·exact hc x q) (by have:=hp.length_eq;simp only [iG]at this;omega)]
  rfl
theorem FJ{order:List dn}(h: ∀r∈rows,tP order r=true∧r.length≤1000000)(hl:rows.length≤400000)(limit:Int):sH rows order limit=some (FY limit (tt (ta order) rows)):=by
 unfold sH
 rw [Np order limit rows [] h (by simp) (by simpa using hl),Pf (yb order) rows (by omega)]

def Fk(op:Int):Bool:=decide (1≤op)&&decide (op≤8)
theorem qg{op:Int}(h:Fk op=true):op=1∨op=2∨op=3∨op=4∨op=5∨op=6∨op=7∨op=8:=by
 simp [Fk]at h;omega
def BF(n:am):Bool:=(uQ n).getD false
theorem rN(n:am):uQ n=some (BF n):=by
 unfold BF uQ
 repeat' split
 all_goals rfl
theorem abC(l:List α):((l.length:Int)==0)=l.isEmpty:=by cases l<;>simp<;>omega
theorem Xp(l:List α):decide ((0:Int)<(l.length:Int))= !l.isEmpty:=by cases l<;>simp<;>omega
theorem QQ(n:am)(h:Fk n.Op=true):((sS n).bind fun r=>(sR r).bind fun r1=>some r1)=some (BF n):=by
 obtain⟨op,A,B,VR,kinds,left,cond,keys,aggs,items,order,limit⟩:=n
 unfold BF uQ sS sR
 simp only [abC,Xp]
 rcases qg h with h|h|h|h|h|h|h|h<;>simp only at h<;>subst h<;>simp<;>(try (by_cases t:VR=0<;>simp [t]))<;>(try (by_cases lm:limit=0<;>simp [lm]))<;>(try (cases left<;>simp))<;>(try (by_cases e1:kinds=[]<;>simp [e1]))<;>(try (by_cases e2:cond.Nodes=[]<;>simp [e2]))<;>(try (by_cases e3:keys=[]<;>simp [e3]))<;>(try (by_cases e4:aggs=[]<;>simp [e4]))<;>(try (by_cases e5:items=[]<;>simp [e5]))<;>(try (by_cases e6:order=[]<;>simp [e6]))
theorem Q0{β:Type}(f1 f2 f3 f4 f5 f6 f7 f8:β)(k:Int):oR (dw (dw (dw (dw (dw (dw (dw (dw ([]:List (Int×β)) 1 f1) 2 f2) 3 f3) 4 f4) 5 f5) 6 f6) 7 f7) 8 f8) k=
  if k=1 then some f1 else if k=2 then some f2 else if k=3 then some f3 else if k=4 then some f4 else if k=5 then some f5 else if k=6 then some f6 else if k=7 then some f7 else if k=8 then some f8 else none:=by
 have e:dw (dw (dw (dw (dw (dw (dw (dw ([]:List (Int×β)) 1 f1) 2 f2) 3 f3) 4 f4) 5 f5) 6 f6) 7 f7) 8 f8=[(1,f1),(2,f2),(3,f3),(4,f4),(5,f5),(6,f6),(7,f7),(8,f8)]:=rfl
 rw [e]
 simp only [oR,eq_comm (b:=k)]
theorem Eu(op:Int):tQ op=some (if op=1 then 0 else if op=2∨op=7 then 2 else 1):=by
 unfold tQ pH
 by_cases h1:op=1
 ·simp [h1]
 by_cases h2:op=2
 ·simp [h2]
 by_cases h7:op=7
 ·simp [h7]
 simp [h1,h2,h7]
theorem lI(op:Int):wZ op=some (if op=1 then 0 else if op=2∨op=7 then 2 else if Fk op then 1 else -1):=by
 unfold wZ sI lH
 by_cases h:Fk op=true
 ·rcases qg h with rfl|rfl|rfl|rfl|rfl|rfl|rfl|rfl<;>rfl
 ·have h' : ¬(1≤op∧op≤8):=fun hh=>h (by simp [Fk];omega)
  have h1: ¬op=1:=by omega
  have h2: ¬op=2:=by omega
  have h3: ¬op=3:=by omega
  have h4: ¬op=4:=by omega
  have h5: ¬op=5:=by omega
  have h6: ¬op=6:=by omega
  have h7: ¬op=7:=by omega
  have h8: ¬op=8:=by omega
  simp [h1,h2,h3,h4,h5,h6,h7,h8,h]
structure MX(l:bU)(j:Nat)(f:Int)(ks:List Int)(s:Nat):Prop where
 pos:1≤s
 le:s≤j+1
 fst:f=(j:Int)+1-(s:Int)
 size: ∀fu,j+1<fu→bW fu l (j:Int)=some (s:Int)
 len:ks.length≤16
 kinds: ∀fu,j+1<fu→cj fu l (j:Int)=some (ks,true)
structure Lg(l:bU)(i:Nat)(first:List Int)(kinds:List (List Int)):Prop where
 fl:first.length=i
 kl:kinds.length=i
 node: ∀j,j<i→ ∃f ks s,first[j]? =some f∧kinds[j]? =some ks∧MX l j f ks s
variable{first ks:List Int}
theorem Lg.push{kinds:List (List Int)}(h:Lg l i first kinds){f:Int}{s:Nat}(hn:MX l i f ks s):Lg l (i+1) (first++[f]) (kinds++[ks]):=by
 refine⟨by simp [h.fl],by simp [h.kl],fun j hj=>?_⟩
 by_cases hji:j=i
 ·subst hji
  refine⟨f,ks,s,?_,?_,hn⟩
  ·rw [ui (by rw [h.fl];exact dF _),h.fl,za];rfl
  ·rw [ui (by rw [h.kl];exact dF _),h.kl,za];rfl
 ·obtain⟨f',ks',s',h1,h2,h3⟩:=h.node j (by omega)
  exact⟨f',ks',s',by rw [Bq (by rw [h.fl];omega)];exact h1,by rw [Bq (by rw [h.kl];omega)];exact h2,h3⟩
def OM(n:am)(i:Nat):Prop:=
 (n.Op=1→n.A= -1∧n.B= -1)∧(n.Op≠1→0<i∧0≤n.A∧n.A<i)∧(n.Op=2∨n.Op=7→n.B=(i:Int)-1)∧(n.Op≠1→n.Op≠2→n.Op≠7→n.B= -1)
theorem uL(l:bU){fu:Nat}(hf:0<fu){p:Int}(h:p<0):bW fu l p=some 0:=by
 obtain⟨fu,rfl⟩: ∃k,fu=k+1:=⟨fu-1,by omega⟩
 unfold bW
 rw [aW (by simp [h])]
theorem MP{kinds:List (List Int)}(hI:Lg l i first kinds)(hn:cE l.Nodes (i:Int)=some n)(hi:i<l.Nodes.length)(hl:l.Nodes.length≤1000)(hop:Fk n.Op=true):
  ∃f ok,jG ⟨l,kinds,first⟩ (i:Int)=some (f,ok)∧((ok=true∧ ∃s:Nat,1≤s∧s≤i+1∧f=(i:Int)+1-(s:Int)∧(∀fu,i+1<fu→bW fu l (i:Int)=some (s:Int))∧OM n i)∨(ok=false∧ ∀fu,i+1<fu→bW fu l (i:Int)=some 0)):=by
 have hstep: ∀fu,i+1<fu→ ∃fu',fu=fu' +1∧i<fu' :=fun fu h=>⟨fu-1,by omega,by omega⟩
 unfold jG
 simp only [hn,aY,Eu]
 by_cases h1:n.Op=1
 ·-- nothing below
  simp only [h1,fe]
  rw [aW (by decide)]
  refine⟨_,_,rfl,?_⟩
  by_cases hAB:n.A= -1∧n.B= -1
  ·refine .inl ⟨by simp [hAB],1,dF _,by omega,by omega,fun fu hf=>?_,⟨fun _=>hAB,fun h=>absurd h1 h,fun h=>by omega,fun h=>absurd h1 h⟩⟩
   obtain⟨fu',rfl,_⟩:=hstep fu hf
   unfold bW
   rw [aM (by simp;omega),hn]
   simp only [aY,lI,h1,fe]
   rw [aW (by decide),aW (by simp [hAB])];rfl
  ·have hb:(n.A== -1&&n.B== -1)=false:=by rw [rl];intro h;apply hAB;simpa using h
   refine .inr ⟨hb,fun fu hf=>?_⟩
   obtain⟨fu',rfl,_⟩:=hstep fu hf
   unfold bW
   rw [aM (by simp;omega),hn]
   simp only [aY,lI,h1,fe]
   rw [aW (by decide),aM (by rw [hb];decide)]
 ·by_cases h27:n.Op=2∨n.Op=7
  ·-- two below
   simp only [h1,h27,fe,ez]
   rw [aM (by decide),aM (by decide)]
   have hsz: ∀fu,i<fu→bW (fu+1) l (i:Int)=if n.B=(i:Int)-1 then((bW fu) l n.B).bind (fun r2=>if((decide ((0:Int)<r2))&&(n.A==(IntKind.i64.wrap (n.B-r2))))then(((bW fu) l n.A).bind fun r3=>if(decide ((0:Int)<r3))then(some (IntKind.i64.wrap ((IntKind.i64.wrap (r3+r2))+(1:Int))))else(some (0:Int)))else(some (0:Int)))else some 0:=by
    intro fu hfu
    conv=>lhs;unfold bW
    rw [aM (by simp;omega),hn]
    simp only [aY,lI,h1,h27,fe,ez]
    rw [aM (by decide),aM (by decide),aW (by decide),cx (n:=(i:Int)-1) (by omega) (by omega)]
    by_cases hB:n.B=(i:Int)-1
    ·rw [aW (by simp [hB]),aW hB]
    ·rw [aM (by simpa using hB),aM hB]
   by_cases hB:n.B=(i:Int)-1∧0<i
   ·have hcond:(!((n.B !=IntKind.i64.wrap ((i:Int)-1))||((i:Int)==0)))=true:=by
     rw [cx (by omega) (by omega)]
     have: ¬((i:Int)=0):=by omega
     simp [hB.1,this];omega
    rw [aW hcond]
    obtain⟨fB,kB,sB,g1,g2,g3⟩:=hI.node (i-1) (by omega)
    have hBi:n.B=((i-1:Nat):Int):=by omega
    have hidx:cE first n.B=some fB:=by rw [hBi,bX];exact g1
    rw [hidx]
    have hfB:=g3.fst
    have hsB:=g3.pos
    have hsB2:=g3.le
    simp only [aY]
    rw [cx (n:=fB-1) (by omega) (by omega)]
    by_cases hA:n.A=fB-1∧0≤n.A
    ·rw [aM (by simp [hA.1];omega)]
     obtain⟨fA,kA,sA,q1,q2,q3⟩:=hI.node n.A.toNat (by omega)
     have hidA:cE first n.A=some fA:=by
      rw [show n.A=((n.A.toNat:Nat):Int)from by omega,bX];exact q1
     rw [hidA]
     have hfA:=q3.fst
     have hsA:=q3.pos
     have hsA2:=q3.le
     refine⟨fA,true,rfl,.inl ⟨rfl,sA+sB+1,by omega,by omega,by omega,fun fu hf=>?_,⟨fun h=>absurd h h1,fun _=>⟨hB.2,hA.2,by omega⟩,fun _=>hB.1,fun _ h2 h7=>by rcases h27 with h|h;exact absurd h h2;exact absurd h h7⟩⟩⟩
     obtain⟨fu',rfl,hf'⟩:=hstep fu hf
     rw [hsz fu' hf',aW hB.1]
     have e1:=g3.size fu' (by omega)
     rw [←hBi]at e1
     rw [e1]
     simp only [aY]
     rw [cx (n:=n.B-(sB:Int)) (by omega) (by omega),aW (by simp;omega)]
     have e2:=q3.size fu' (by omega)
     rw [show((n.A.toNat:Nat):Int)=n.A from by omega]at e2
     rw [e2]
     simp only [aY]
     rw [aW (by simp;omega),cx (n:=(sA:Int)+(sB:Int)) (by omega) (by omega),cx (by omega) (by omega)]
     congr 1
    ·have hb:(n.A !=fB-1||decide (n.A<0))=true:=by
      simp only [pi,qN,kZ]
      by_cases h:n.A=fB-1
      ·exact .inr (by omega)
      ·exact .inl h
     rw [aW hb]
     refine⟨0,false,rfl,.inr ⟨rfl,fun fu hf=>?_⟩⟩
     obtain⟨fu',rfl,hf'⟩:=hstep fu hf
     rw [hsz fu' hf',aW hB.1]
     have e1:=g3.size fu' (by omega)
     rw [←hBi]at e1
     rw [e1]
     simp only [aY]
     rw [cx (n:=n.B-(sB:Int)) (by omega) (by omega)]
     by_cases h:n.A=fB-1
     ·rw [aW (by simp;omega),uL l (by omega) (by omega)]
      rfl
     ·rw [aM (by simp;omega)]
   ·have hcond:(!((n.B !=IntKind.i64.wrap ((i:Int)-1))||((i:Int)==0)))=false:=by
     rw [cx (by omega) (by omega)]
     by_cases h:n.B=(i:Int)-1
     ·have:i=0:=by omega
      simp [this]
     ·simp [h]
    rw [hcond]
    simp only [gh,ez,aY,Bool.true_or,fe]
    refine⟨0,false,rfl,.inr ⟨rfl,fun fu hf=>?_⟩⟩
    obtain⟨fu',rfl,hf'⟩:=hstep fu hf
    rw [hsz fu' hf']
    by_cases h:n.B=(i:Int)-1
    ·rw [aW h]
     rw [uL l (by omega) (by omega)]
     rfl
    ·rw [aM h]
  ·-- one below
   simp only [h1,h27,ez]
   rw [aM (by decide),aW (by decide)]
   have hsz: ∀fu,i<fu→bW (fu+1) l (i:Int)=if n.A=(i:Int)-1∧n.B= -1 then((bW fu) l n.A).bind (fun r1=>if(decide ((0:Int)<r1))then(some (IntKind.i64.wrap (r1+(1:Int))))else(some (0:Int)))else some 0:=by
    intro fu hfu
    conv=>lhs;unfold bW
    rw [aM (by simp;omega),hn]
    simp only [aY,lI,h1,h27,hop,fe,ez]
    rw [aM (by decide),aW (by decide),cx (n:=(i:Int)-1) (by omega) (by omega)]
    by_cases hB:n.A=(i:Int)-1∧n.B= -1
    ·rw [aW (by simp [hB]),aW hB]
    ·rw [aM (by simpa using hB),aM hB]
   rw [cx (by omega) (by omega)]
   by_cases hA:(n.A=(i:Int)-1∧n.B= -1)∧0<i
   ·rw [aM (by simp [hA.1];omega)]
    obtain⟨fA,kA,sA,g1,g2,g3⟩:=hI.node (i-1) (by omega)
    have hAi:n.A=((i-1:Nat):Int):=by omega
    have hidx:cE first n.A=some fA:=by rw [hAi,bX];exact g1
    rw [hidx]
    have hfA:=g3.fst
    have hsA:=g3.pos
    have hsA2:=g3.le
    refine⟨fA,true,rfl,.inl ⟨rfl,sA+1,by omega,by omega,by omega,fun fu hf=>?_,⟨fun h=>absurd h h1,fun _=>⟨hA.2,by omega,by omega⟩,fun h=>absurd h h27,fun _ _ _=>hA.1.2⟩⟩⟩
    obtain⟨fu',rfl,hf'⟩:=hstep fu hf
    rw [hsz fu' hf',aW hA.1]
    have e1:=g3.size fu' (by omega)
    rw [←hAi]at e1
    rw [e1]
    simp only [aY]
    rw [aW (by simp;omega),cx (by omega) (by omega)]
    rfl
   ·have hb:(n.A !=(i:Int)-1||n.B != -1||(i:Int)==0)=true:=by
     simp only [pi,qN,ss]
     by_cases h:n.A=(i:Int)-1
     ·by_cases h' :n.B= -1
      ·exact .inr (by omega)
      ·exact .inl (.inr h')
     ·exact .inl (.inl h)
    rw [aW hb]
    refine⟨0,false,rfl,.inr ⟨rfl,fun fu hf=>?_⟩⟩
    obtain⟨fu',rfl,hf'⟩:=hstep fu hf
    rw [hsz fu' hf']
    by_cases h:n.A=(i:Int)-1∧n.B= -1
    ·rw [aW h,uL l (by omega) (by omega)]
     rfl
    ·rw [aM h]
theorem Mn{kinds:List (List Int)}(hI:Lg l i first kinds)(hn:cE l.Nodes (i:Int)=some n)(hl:l.Nodes.length≤1000)(hi:i<l.Nodes.length){s:Nat}(hs:1≤s)(hsz: ∀fu,i+1<fu→bW fu l (i:Int)=some (s:Int))(hp:OM n i)(ho:BF n=true)(hop:Fk n.Op=true):
  ∃a b,(n.Op≠1→cE kinds n.A=some a)∧(n.Op=2∨n.Op=7→cE kinds n.B=some b)∧a.length≤16∧b.length≤16∧ ∀fu,i+1<fu→cj fu l (i:Int)=gF l (i:Int) n a b:=by
 obtain⟨p1,p2,p3,p4⟩:=hp
 have hsz0:kj l (i:Int)=some (s:Int):=hsz ge (wE (wL _) (kY (by omega)))
 have hu: ∀fu,cj (fu+1) l (i:Int)=if(decide ((0:Int)≤n.A))then(((cj fu) l n.A).bind fun r4=>if(!r4.2)then(some ([],false))else(eG (cj fu) l (i:Int) n r4.1))else(eG (cj fu) l (i:Int) n ([])):=by
  intro fu
  conv=>lhs;unfold cj
  rw [hsz0,hn]
  simp only [aY,rN,ho]
  have: ¬(s=0):=by omega
  simp [this]
 by_cases h1:n.Op=1
 ·obtain⟨hA,hB⟩:=p1 h1
  refine⟨[],[],fun h=>absurd h1 h,fun h=>by omega,by simp,by simp,fun fu hf=>?_⟩
  obtain⟨fu,rfl⟩: ∃k,fu=k+1:=⟨fu-1,by omega⟩
  rw [hu,aM (by simp [hA])]
  unfold eG
  rw [aM (by simp [hB])]
 ·obtain⟨hi0,hA0,hAi⟩:=p2 h1
  obtain⟨fA,kA,sA,g1,g2,g3⟩:=hI.node n.A.toNat (by omega)
  have eA:((n.A.toNat:Nat):Int)=n.A:=by omega
  have hkA:cE kinds n.A=some kA:=by rw [←eA,bX];exact g2
  by_cases h27:n.Op=2∨n.Op=7
  ·have hB:=p3 h27
   obtain⟨fB,kB,sB,q1,q2,q3⟩:=hI.node (i-1) (by omega)
   have eB:((i-1:Nat):Int)=n.B:=by omega
   have hkB:cE kinds n.B=some kB:=by rw [←eB,bX];exact q2
   refine⟨kA,kB,fun _=>hkA,fun _=>hkB,g3.len,q3.len,fun fu hf=>?_⟩
   obtain⟨fu,rfl⟩: ∃k,fu=k+1:=⟨fu-1,by omega⟩
   rw [hu,aW (by simpa using hA0)]
   have e1:=g3.kinds fu (by omega)
   rw [eA]at e1
   rw [e1]
   simp only [aY,ly,gh,ez]
   unfold eG
   rw [aW (by simp;omega)]
   have e2:=q3.kinds fu (by omega)
   rw [eB]at e2
   rw [e2]
   simp only [aY,ly,gh,ez]
  ·have hB:=p4 h1 (fun h=>h27 (.inl h)) (fun h=>h27 (.inr h))
   refine⟨kA,[],fun _=>hkA,fun h=>absurd h h27,g3.len,by simp,fun fu hf=>?_⟩
   obtain⟨fu,rfl⟩: ∃k,fu=k+1:=⟨fu-1,by omega⟩
   rw [hu,aW (by simpa using hA0)]
   have e1:=g3.kinds fu (by omega)
   rw [eA]at e1
   rw [e1]
   simp only [aY,ly,gh,ez]
   unfold eG
   rw [aM (by simp [hB])]
theorem Ey(hn:cE l.Nodes (i:Int)=some n)(hl:i<1000)(h:(∀fu,i+1<fu→bW fu l (i:Int)=some 0)∨((∃s:Int,∀fu,i+1<fu→bW fu l (i:Int)=some s)∧BF n=false)):qT l (i:Int)=some ([],false):=by
 have hF:i+1<ge:=wE (wL _) (kY (by omega))
 have e:ge=(ge-1)+1:=by omega
 unfold qT
 rw [e]
 unfold cj kj
 rcases h with h|⟨⟨s,h⟩,ho⟩
 ·rw [h _ hF];simp
 ·rw [h _ hF,hn]
  simp only [aY,rN,ho]
  by_cases hs:s=0<;>simp [hs]

def pR(l:bU):Prop:= ∀n∈l.Nodes,ja n
abbrev abr:=aE→am→Option (((List Int)×Bool)×aE)
def Ct:List (Int×abr):=(dw (dw (dw (dw (dw (dw (dw (dw ([]:List (Int×(aE→am→Option (((List Int)×Bool)×aE)))) (1:Int) (fun(mc:aE) (mx:am)=>(fX mc mx).map fun mr=>(mr,mc))) (2:Int) (fun(mc:aE) (mx:am)=>(gL mc mx).map fun mr=>(mr,mc))) (3:Int) (fun(mc:aE) (mx:am)=>(fY mc mx).map fun mr=>(mr,mc))) (4:Int) (fun(mc:aE) (mx:am)=>(gy mc mx).map fun mr=>(mr,mc))) (5:Int) (fun(mc:aE) (mx:am)=>(fD mc mx).map fun mr=>(mr,mc))) (6:Int) (fun(mc:aE) (mx:am)=>(fc mc mx).map fun mr=>(mr,mc))) (7:Int) (fun(mc:aE) (mx:am)=>(gw mc mx).map fun mr=>(mr,mc))) (8:Int) (fun(mc:aE) (mx:am)=>(gx mc mx).map fun mr=>(mr,mc)))
theorem Q4(op:Int):(oR Ct op).isSome=Fk op:=by
 unfold Ct
 rw [Q0]
 by_cases h:Fk op=true
 ·rw [h]
  rcases qg h with rfl|rfl|rfl|rfl|rfl|rfl|rfl|rfl<;>rfl
 ·rw [rl.2 h]
  have h' : ¬(1≤op∧op≤8):=fun hh=>h (by simp [Fk];omega)
  have h1: ¬op=1:=by omega
  have h2: ¬op=2:=by omega
  have h3: ¬op=3:=by omega
  have h4: ¬op=4:=by omega
  have h5: ¬op=5:=by omega
  have h6: ¬op=6:=by omega
  have h7: ¬op=7:=by omega
  have h8: ¬op=8:=by omega
  simp [h1,h2,h3,h4,h5,h6,h7,h8]
theorem Pn(c:aE)(n:am)(a b:List Int)(hn:ja n)(hop:Fk n.Op=true)(ha:n.Op≠1→cE c.kinds n.A=some a)(hb:n.Op=2∨n.Op=7→cE c.kinds n.B=some b)(hal:a.length≤16)(hbl:b.length≤16):
  ∃k o k',((oR Ct n.Op).getD (fun _ _=>none)) c n=some ((k,o&&(if n.Op=8 then(c.kinds.length:Int)==IntKind.i64.wrap ((c.Logic.Nodes.length:Int)-(1:Int))else true)),c)∧bq n a b=some (k',o)∧(o=true→k=k'):=by
 have go: ∀(m:Option (List Int×Bool)) (last:Bool),Bd m (bq n a b) last→((oR Ct n.Op).getD (fun _ _=>none)) c n=m.map (fun mr=>(mr,c))→(if n.Op=8 then(c.kinds.length:Int)==IntKind.i64.wrap ((c.Logic.Nodes.length:Int)-(1:Int))else true)=last→ ∃k o k',((oR Ct n.Op).getD (fun _ _=>none)) c n=some ((k,o&&(if n.Op=8 then(c.kinds.length:Int)==IntKind.i64.wrap ((c.Logic.Nodes.length:Int)-(1:Int))else true)),c)∧bq n a b=some (k',o)∧(o=true→k=k'):=by
  intro m last ⟨k,o,k',h1,h2,h3⟩ he hl
  exact⟨k,o,k',by rw [he,h1,hl];rfl,h2,h3⟩
 unfold Ct at go ⊢
 rw [Q0]at go ⊢
 rcases qg hop with h|h|h|h|h|h|h|h
 ·exact go _ _ (Gl c n a b hn h) (by simp [h]) (by simp [h])
 ·exact go _ _ (Pt c n a b hn h (ha (by omega)) (hb (.inl h)) hal hbl) (by simp [h]) (by simp [h])
 ·exact go _ _ (Kl c n a b hn h (ha (by omega))) (by simp [h]) (by simp [h])
 ·exact go _ _ (Mo c n a b hn h (ha (by omega))) (by simp [h]) (by simp [h])
 ·exact go _ _ (HD c n a b hn h (ha (by omega))) (by simp [h]) (by simp [h])
 ·exact go _ _ (FX c n a b h (ha (by omega))) (by simp [h]) (by simp [h])
 ·exact go _ _ (Lr c n a b h (ha (by omega)) (hb (.inr h)) hal) (by simp [h]) (by simp [h])
 ·exact go _ _ (Md c n a b hn h (ha (by omega))) (by simp [h]) (by simp [h])
theorem Pk{Sg:Type}(yld:(Int×Bool)→Sg→Option (Bool×Sg)){kinds:List (List Int)}(hI:Lg l i first kinds){tl:List am}(hd:l.Nodes.drop i=n::tl)(hS:pR l)(hl:l.Nodes.length≤60)(st:Sg):
  ∃first' kinds' ok,bC yld (n::tl) i st ⟨l,kinds,first⟩=((yld ((i:Int),ok) st).bind fun r2=>if((!r2.1)||(!ok))then some (r2.2,⟨l,kinds',first'⟩)else bC yld tl (i+1) r2.2 ⟨l,kinds',first'⟩)∧(∃x,qT l (i:Int)=some (x,ok))∧(ok=true→Lg l (i+1) first' kinds'):=by
 obtain⟨hn,hi,_⟩:=ky hd
 have hfl:=hI.fl
 have hkl:=hI.kl
 have hSn:ja n:=hS n (by
  rw [bX]at hn
  exact rA hn)
 have hF:i+1<ge:=wE (wL _) (kY (by omega))
 have hu:bC yld (n::tl) i st ⟨l,kinds,first⟩=(if(oR Ct n.Op).isSome then((sS n).bind fun r=>(sR r).bind fun r1=>some r1)else some false).bind fun t=>if t then((jG ⟨l,kinds,first⟩ (i:Int)).bind fun r4=>(app first ([r4.1])).bind fun l7=>ea yld (bC yld tl) i n st r4.2 ⟨l,kinds,l7⟩)else(ea yld (bC yld tl) i n st t ⟨l,kinds,first⟩):=rfl
 rw [hu,Q4]
 have hk2: ∀(ok1:Bool) (k:List Int) (f' :List Int),gr yld (bC yld tl) i st ok1 k ⟨l,kinds,f'⟩=((yld ((i:Int),ok1&&decide (k.length≤16)) st).bind fun r2=>if((!r2.1)||(!(ok1&&decide (k.length≤16))))then some (r2.2,⟨l,kinds++[k],f'⟩)else bC yld tl (i+1) r2.2 ⟨l,kinds++[k],f'⟩):=by
  intro ok1 k f'
  unfold gr
  rw [cr (by simp;omega)]
  have:decide ((k.length:Int)≤16)=decide (k.length≤16):=by rw [zX];simp;omega
  simp only [aY,this]
 have hk1: ∀(f' :List Int),ea yld (bC yld tl) i n st false ⟨l,kinds,f'⟩=((yld ((i:Int),false) st).bind fun r2=>if((!r2.1)||(!false))then some (r2.2,⟨l,kinds++[[]],f'⟩)else bC yld tl (i+1) r2.2 ⟨l,kinds++[[]],f'⟩):=by
  intro f'
  unfold ea
  rw [aM (by decide),hk2]
  rfl
 by_cases hop:Fk n.Op=true
 ·rw [aW hop,QQ n hop]
  simp only [aY]
  obtain⟨f,ok,hb1,hb2⟩:=MP hI hn hi (by omega) hop
  cases ho:BF n with
  |false=>
   simp only [gh,ez]
   rw [hk1]
   refine⟨first,kinds++[[]],false,rfl,⟨[],Ey hn (by omega) (.inr ⟨?_,ho⟩)⟩,by simp⟩
   rcases hb2 with⟨_,s,_,_,_,h,_⟩|⟨_,h⟩
   ·exact⟨s,h⟩
   ·exact⟨0,h⟩
  |true=>
   simp only [fe]
   rw [hb1]
   simp only [aY]
   rw [cr (by simp;omega)]
   simp only [aY]
   rcases hb2 with⟨hok,s,hs,hs2,hf,hsz,hp⟩|⟨hok,h⟩
   ·subst hok
    obtain⟨a,b,ha,hb,hal,hbl,hK⟩:=Mn hI hn (by omega) hi hs hsz hp ho hop
    obtain⟨k,o,k',m1,m2,m3⟩:=Pn ⟨l,kinds,first++[f]⟩ n a b hSn hop ha hb hal hbl
    have hk1' :ea yld (bC yld tl) i n st true ⟨l,kinds,first++[f]⟩=((((oR Ct n.Op).getD (fun _ _=>none)) ⟨l,kinds,first++[f]⟩ n).bind fun r3=>gr yld (bC yld tl) i st r3.1.2 r3.1.1 r3.2):=rfl
    rw [hk1',m1]
    simp only [aY]
    rw [hk2]
    have hlast:((kinds.length:Int)==IntKind.i64.wrap ((l.Nodes.length:Int)-1))=((i:Int)==IntKind.i64.wrap ((l.Nodes.length:Int)-1)):=by rw [hkl]
    have hKk: ∀fu,i+1<fu→ ∃x,cj fu l (i:Int)=some (x,(o&&(if n.Op=8 then(kinds.length:Int)==IntKind.i64.wrap ((l.Nodes.length:Int)-(1:Int))else true))&&decide (k.length≤16))∧(((o&&(if n.Op=8 then(kinds.length:Int)==IntKind.i64.wrap ((l.Nodes.length:Int)-(1:Int))else true))&&decide (k.length≤16))=true→x=k):=by
     intro fu hf
     rw [hK fu hf]
     unfold gF
     rw [m2]
     simp only [aY]
     rw [hlast]
     cases o with
     |false=>
      simp only [Dq]
      split
      ·exact⟨_,rfl,by simp⟩
      ·exact⟨_,rfl,by simp⟩
     |true=>
      have:=m3 rfl
      subst this
      simp only [uA]
      by_cases h8:n.Op=8
      ·by_cases hL:(i:Int)=IntKind.i64.wrap ((l.Nodes.length:Int)-1)
       ·by_cases h16:k.length≤16
        ·rw [aM (by simp [←hL];omega)]
         exact⟨k,by simp [h8,hL,h16],fun _=>rfl⟩
        ·rw [aW (by simp;omega)]
         exact⟨[],by simp [h16],by simp [h16]⟩
       ·rw [aW (by simp [h8,hL])]
        exact⟨[],by simp [h8,hL],by simp [h8,hL]⟩
      ·by_cases h16:k.length≤16
       ·rw [aM (by simp [h8];omega)]
        exact⟨k,by simp [h8,h16],fun _=>rfl⟩
       ·rw [aW (by simp;omega)]
        exact⟨[],by simp [h16],by simp [h16]⟩
    refine⟨first++[f],kinds++[k],_,rfl,?_,fun hok=>?_⟩
    ·obtain⟨x,h1,_⟩:=hKk ge hF
     exact⟨x,h1⟩
    ·refine hI.push (s:=s) ⟨hs,hs2,hf,hsz,?_,fun fu hfu=>?_⟩
     ·simp at hok;exact hok.2
     ·obtain⟨x,h1,h2⟩:=hKk fu hfu
      rw [h1,h2 hok,hok]
   ·subst hok
    rw [hk1]
    exact⟨first++[f],kinds++[[]],false,rfl,⟨[],Ey hn (by omega) (.inl h)⟩,by simp⟩
 ·rw [aM hop]
  simp only [aY,gh,ez]
  rw [hk1]
  refine⟨first,kinds++[[]],false,rfl,⟨[],Ey hn (by omega) (.inl fun fu hf=>?_)⟩,by simp⟩
  obtain⟨fu,rfl⟩: ∃k,fu=k+1:=⟨fu-1,by omega⟩
  unfold bW
  rw [aM (by simp;omega),hn]
  simp only [aY,lI]
  have h1: ¬n.Op=1:=fun h=>hop (by rw [h];rfl)
  have h2: ¬n.Op=2:=fun h=>hop (by rw [h];rfl)
  have h7: ¬n.Op=7:=fun h=>hop (by rw [h];rfl)
  simp [h1,h2,h7,hop]
theorem TE(hS:pR l)(hl:l.Nodes.length≤60): ∀(tl:List am) (i:Nat) (first:List Int) (kinds:List (List Int)),Lg l i first kinds→l.Nodes.drop i=tl→i+tl.length=l.Nodes.length→
  ∃st ob,bC (wm (fun x s=>ov x s.1 s.2.1 s.2.2)) tl i (none,(false,(0:Int),false)) ⟨l,kinds,first⟩=some (st,ob)∧ob.Logic=l∧
   ((st=(none,(false,(0:Int),false))∧Lg l l.Nodes.length ob.first ob.kinds∧fi l tl i=fi l [] l.Nodes.length)∨(∃j:Nat,st=(some 0,(false,(j:Int),true))∧fi l tl i=some (j:Int))):=by
 intro tl
 induction tl with
 |nil=>
  intro i first kinds hI hd hi
  simp only [ph,ym]at hi
  subst hi
  exact⟨_,_,rfl,rfl,.inl ⟨rfl,hI,rfl⟩⟩
 |cons n tl ih=>
  intro i first kinds hI hd hi
  simp only [iG]at hi
  obtain⟨f',k',ok,h1,⟨x,h2⟩,h3⟩:=Pk (wm (fun x s=>ov x s.1 s.2.1 s.2.2)) hI hd hS hl (none,(false,(0:Int),false))
  rw [h1]
  have hW:fi l (n::tl) i=if(!ok)then some (i:Int)else fi l tl (i+1):=by
   conv=>lhs;unfold fi
   rw [h2];rfl
  rw [hW]
  cases ok with
  |false=>exact⟨_,_,rfl,rfl,.inr ⟨i,rfl,rfl⟩⟩
  |true=>
   obtain⟨st,ob,g1,g2,g3⟩:=ih (i+1) f' k' (h3 rfl) (ky hd).2.2 (by omega)
   refine⟨st,ob,?_,g2,?_⟩
   ·exact g1
   ·simpa using g3
theorem Lg.nil(l:bU):Lg l 0 [] []:=⟨rfl,rfl,fun j h=>absurd h (Nat.not_lt_zero _)⟩
structure SF(l:bU)(ob:aE):Prop where
 logic:ob.Logic=l
 pos:1≤l.Nodes.length
 le:l.Nodes.length≤60
 inv:Lg l l.Nodes.length ob.first ob.kinds
 whole:kj l ((l.Nodes.length:Int)-1)=some (l.Nodes.length:Int)
theorem TF(hS:pR l): ∃ob j ok,oS l=some (ob,j,ok)∧qS l=some (if ok then -1 else j)∧(0≤j)∧(ok=true→SF l ob∧j=(l.Nodes.length:Int)-1):=by
 unfold oS qS
 by_cases h:l.Nodes.length<1∨60<l.Nodes.length
 ·rw [aW (by simp;omega),aW (by simp;omega)]
  exact⟨_,_,_,rfl,rfl,Int.le_refl _,by simp⟩
 ·rw [aM (by simp;omega),aM (by simp;omega)]
  unfold pI
  simp only [aY]
  unfold lv
  obtain⟨st,ob,h1,h2,h3⟩:=TE hS (by omega) l.Nodes 0 [] [] (Lg.nil l) rfl (by simp)
  have h1' :bC (wm (fun x s=>ov x s.1 s.2.1 s.2.2)) (⟨l,[],[]⟩:aE).Logic.Nodes 0 (none,(false,(0:Int),false)) ⟨l,[],[]⟩=some (st,ob):=h1
  rw [h1']
  simp only [aY]
  rcases h3 with⟨rfl,hI,hW⟩|⟨j,rfl,hW⟩
  ·simp only [Option.isNone_none,fe]
   rw [cx (by omega) (by omega)]
   obtain⟨f,ks,s,g1,g2,g3⟩:=hI.node (l.Nodes.length-1) (by omega)
   have e:((l.Nodes.length-1:Nat):Int)=(l.Nodes.length:Int)-1:=by omega
   have hid:cE ob.first ((l.Nodes.length:Int)-1)=some f:=by rw [←e,bX];exact g1
   rw [hid]
   simp only [aY]
   have hsz:kj l ((l.Nodes.length:Int)-1)=some (s:Int):=by
    have:=g3.size ge (wE (wL _) (kY (by omega)))
    rw [e]at this;exact this
   have hf:=g3.fst
   refine⟨_,_,_,rfl,?_,by omega,fun hok=>?_⟩
   ·rw [hW]
    unfold fi
    rw [cx (by omega) (by omega),hsz]
    simp only [aY]
    by_cases hs:s=l.Nodes.length
    ·rw [aM (by simp [hs]),aW (by simp;omega)]
    ·rw [aW (by simp;omega),aM (by simp;omega)]
   ·have hs:s=l.Nodes.length:=by simp at hok;omega
    exact⟨⟨h2,by omega,by omega,hI,by rw [hsz,hs]⟩,rfl⟩
  ·simp only [Option.isNone_some,gh,ez]
   refine⟨ob,(j:Int),false,rfl,by rw [hW];rfl,by omega,by simp⟩

theorem u7{n:Nat}(h:n≤900000):n<ge:=wE (wL _) (kY (by omega))
def DU(d x:Int):Int:=if 0≤x then IntKind.i64.wrap (x+d)else x
def Fj(d:Int)(n:am):am:={n with A:=DU d n.A,B:=DU d n.B}
theorem ja.sh(h:ja n)(d:Int):ja (Fj d n):=⟨h.cond,h.kinds,h.keys,h.aggs,h.items,h.order,h.args,h.exprs⟩
theorem ja.at(h:ja n)(a b:Int):ja {n with A:=a,B:=b}:=⟨h.cond,h.kinds,h.keys,h.aggs,h.items,h.order,h.args,h.exprs⟩
theorem set_same{e:α}(h:xs[i]? =some e):xs.set i e=xs:=by
 apply IL
 intro j
 rw [List.getElem?_set]
 split
 ·rename_i hj;subst hj
  split
  ·exact h.symm
  ·rename_i h2;rw [Dw (by omega)]
 ·rfl
theorem sa(h:ja n):mO n=some n:=by
 have hK:=h.kinds
 have hk:=h.keys
 have hA:=h.aggs
 have hI:=h.items
 have hO:=h.order
 have hc:=h.cond
 have hcl: ∀{l:List bo},l.length≤5000→cm l=some l:=fun{l} hl=>by
  unfold cm;rw [cr (by simp;omega)];rfl
 unfold mO
 rw [sb _ (by omega),sb _ (by omega)]
 simp only [aY]
 have e1:d9 n.Order=some n.Order:=by unfold d9;rw [cr (by simp;omega)];rfl
 rw [e1]
 simp only [aY]
 rw [hcl hc]
 simp only [aY]
 have e2:fg n.Aggs=some n.Aggs:=by unfold fg;rw [cr (by simp;omega)];rfl
 rw [e2]
 simp only [aY]
 have e3:eF n.Items=some n.Items:=by unfold eF;rw [cr (by simp;omega)];rfl
 rw [e3]
 simp only [aY]
 have key2: ∀(tl:List bL) (i:Nat),n.Items.drop i=tl→(∀e∈tl,e.Nodes.length≤5000)→mM tl i n=some n:=by
  intro tl
  induction tl with
  |nil=>intro i _ _;rfl
  |cons x tl ih=>
   intro i hd hs
   obtain⟨h1,h2,h3⟩:=ky hd
   unfold mM
   rw [h1]
   simp only [aY]
   rw [hcl (hs x (kE ..))]
   simp only [aY,yn]
   rw [bX]at h1
   have e4:n.Items.set i ({x with Nodes:=x.Nodes}:bL)=n.Items:=set_same h1
   rw [e4]
   exact ih (i+1) h3 (fun e he=>hs e (kC _ he))
 have key1: ∀(tl:List hY) (i:Nat),n.Aggs.drop i=tl→(∀e∈tl,e.Arg.Nodes.length≤5000)→mN tl i n=some n:=by
  intro tl
  induction tl with
  |nil=>intro i _ _;exact key2 n.Items 0 rfl h.exprs
  |cons x tl ih=>
   intro i hd hs
   obtain⟨h1,h2,h3⟩:=ky hd
   unfold mN
   rw [h1]
   simp only [aY]
   rw [hcl (hs x (kE ..))]
   simp only [aY,yn]
   rw [bX]at h1
   have e4:n.Aggs.set i ({x with Arg:=({x.Arg with Nodes:=x.Arg.Nodes}:bL)}:hY)=n.Aggs:=set_same h1
   rw [e4]
   exact ih (i+1) h3 (fun e he=>hs e (kC _ he))
 exact key1 n.Aggs 0 rfl h.args
theorem CX(h:ja n)(d:Int):rW n d=some (Fj d n):=by
 unfold rW oE Fj DU
 by_cases hA:0≤n.A<;>by_cases hB:0≤n.B
 ·rw [aW (by simpa using hA),aW (by simpa using hB),aW hA,aW hB]
  exact sa (h.at _ _)
 ·rw [aW (by simpa using hA),aM (by simpa using hB),aW hA,aM hB]
  exact sa (h.at _ _)
 ·rw [aM (by simpa using hA),aW (by simpa using hB),aM hA,aW hB]
  exact sa (h.at _ _)
 ·rw [aM (by simpa using hA),aM (by simpa using hB),aM hA,aM hB]
  exact sa (h.at _ _)
def oc(l:bU):Bool:=decide ((qS l).getD 0<0)
theorem At(h:pR l):Cq l=some (oc l)∧(∃j,q6 l=some (if oc l then(0,0)else(j,230)))∧(∃ob j,oS l=some (ob,j,oc l)∧(oc l=true→SF l ob∧j=(l.Nodes.length:Int)-1)):=by
 obtain⟨ob,j,ok,h1,h2,h3,h4⟩:=TF h
 have e:oc l=ok:=by
  unfold oc
  rw [h2]
  cases ok<;>simp<;>omega
 refine⟨?_,⟨j,?_⟩,ob,j,?_⟩
 ·unfold Cq oc
  rw [h2];rfl
 ·unfold q6
  rw [h1,e]
  cases ok<;>rfl
 ·rw [e]
  exact⟨h1,h4⟩
theorem Jg(hA:n.A≤100000)(hB:n.B≤100000):Fj 0 n=n:=by
 have h: ∀x:Int,x≤100000→DU 0 x=x:=by
  intro x hx
  unfold DU
  by_cases h:0≤x
  ·rw [aW h,Int.add_zero,cx (by omega) (by omega)]
  ·rw [aM h]
 unfold Fj
 rw [h _ hA,h _ hB]
theorem TB{d:Int}{ns:List am}(h: ∀n∈ns,ja n): ∀n∈ns.map (Fj d),ja n:=by
 intro n hn
 obtain⟨m,hm,rfl⟩:=uF.1 hn
 exact(h m hm).sh d

structure zR(l:bU)(sz:Nat→Nat)(ks:Nat→List Int)(j:Nat)(n:am):Prop where
 node:cE l.Nodes (j:Int)=some n
 op:Fk n.Op=true
 own:BF n=true
 lf:n.Op=1→n.A= -1∧n.B= -1∧sz j=1
 un:n.Op≠1→n.Op≠2→n.Op≠7→0<j∧n.A=(j:Int)-1∧n.B= -1∧sz j=sz (j-1)+1
 bi:n.Op=2∨n.Op=7→0<j∧n.B=(j:Int)-1∧sz (j-1)<j∧n.A=(j:Int)-1-(sz (j-1):Int)∧sz j=sz (j-1-sz (j-1))+sz (j-1)+1
 kinds:bq n (if n.A<0 then []else ks n.A.toNat) (if n.B<0 then []else ks n.B.toNat)=some (ks j,true)
 last:n.Op=8→j+1=l.Nodes.length
 len:(ks j).length≤16
 pos:1≤sz j
 le:sz j≤j+1
theorem Gi(hn:cE l.Nodes (j:Int)=some n)(hj:j<l.Nodes.length)(hl:l.Nodes.length≤1000)(fu:Nat):bW (fu+1) l (j:Int)=
  if n.Op=1 then(if n.A= -1∧n.B= -1 then some 1 else some 0)
  else if n.Op=2∨n.Op=7 then(if n.B=(j:Int)-1 then((bW fu) l n.B).bind (fun r2=>if((decide ((0:Int)<r2))&&(n.A==(IntKind.i64.wrap (n.B-r2))))then(((bW fu) l n.A).bind fun r3=>if(decide ((0:Int)<r3))then(some (IntKind.i64.wrap ((IntKind.i64.wrap (r3+r2))+(1:Int))))else(some (0:Int)))else(some (0:Int)))else some 0)
  else if Fk n.Op=true then(if n.A=(j:Int)-1∧n.B= -1 then((bW fu) l n.A).bind (fun r1=>if(decide ((0:Int)<r1))then(some (IntKind.i64.wrap (r1+(1:Int))))else(some (0:Int)))else some 0)
  else some 0:=by
 conv=>lhs;unfold bW
 rw [aM (by simp;omega),hn]
 simp only [aY,lI]
 by_cases h1:n.Op=1
 ·simp only [h1,fe]
  rw [aW (by decide)]
  by_cases hAB:n.A= -1∧n.B= -1
  ·rw [aW hAB,aW (by simp [hAB])]
  ·rw [aM hAB,aM (by simpa using hAB)]
 by_cases h27:n.Op=2∨n.Op=7
 ·simp only [h1,h27,fe,ez]
  rw [aM (by decide),aM (by decide),aW (by decide),cx (n:=(j:Int)-1) (by omega) (by omega)]
  by_cases hB:n.B=(j:Int)-1
  ·rw [aW (by simp [hB]),aW hB]
  ·rw [aM (by simpa using hB),aM hB]
 by_cases hop:Fk n.Op=true
 ·simp only [h1,h27,hop,fe,ez]
  rw [aM (by decide),aW (by decide),cx (n:=(j:Int)-1) (by omega) (by omega)]
  by_cases hB:n.A=(j:Int)-1∧n.B= -1
  ·rw [aW (by simp [hB]),aW hB]
  ·rw [aM (by simpa using hB),aM hB]
 ·simp only [h1,h27,hop,ez]
  rw [aM (by decide),aM (by decide),aM (by decide)]
  rfl
theorem AI{s:Int}(hn:cE l.Nodes (j:Int)=some n)(hs:kj l (j:Int)=some s)(hs0:s≠0)(ho:BF n=true)(fu:Nat):cj (fu+1) l (j:Int)=if(decide ((0:Int)≤n.A))then(((cj fu) l n.A).bind fun r4=>if(!r4.2)then(some ([],false))else(eG (cj fu) l (j:Int) n r4.1))else(eG (cj fu) l (j:Int) n ([])):=by
 conv=>lhs;unfold cj
 rw [hs,hn]
 simp only [aY,rN,ho]
 have:(s==0)=false:=by simpa using hs0
 simp [this]
def wA(first:List Int)(j:Nat):Nat:=((j:Int)+1-(first[j]?).getD 0).toNat
def Mm(kinds:List (List Int))(j:Nat):List Int:=(kinds[j]?).getD []
theorem Lg.at{kinds:List (List Int)}(h:Lg l i first kinds)(hj:j<i):MX l j ((j:Int)+1-(wA first j:Int)) (Mm kinds j) (wA first j)∧first[j]? =some ((j:Int)+1-(wA first j:Int)):=by
 obtain⟨f,k,s,h1,h2,h3⟩:=h.node j hj
 have e1:Mm kinds j=k:=by unfold Mm;rw [h2];rfl
 have hf:=h3.fst
 have hp:=h3.pos
 have e2:wA first j=s:=by unfold wA;rw [h1];simp only [F3];omega
 rw [e1,e2,←hf]
 exact⟨h3,h1⟩
theorem Kn{kinds:List (List Int)}(hI:Lg l l.Nodes.length first kinds)(hl:l.Nodes.length≤60)(hj:j<l.Nodes.length): ∃n,zR l (wA first) (Mm kinds) j n:=by
 obtain⟨N0,_⟩:=hI.at hj
 have hn:cE l.Nodes (j:Int)=some l.Nodes[j]:=by rw [bX,n8 hj]
 obtain⟨n,hnn⟩: ∃n,n=l.Nodes[j]:=⟨_,rfl⟩
 rw [←hnn]at hn
 have hpos:=N0.pos
 have hsz:=N0.size (j+3) (by omega)
 rw [Gi hn hj (by omega)]at hsz
 have hnone: ∀{x:Int},x=0→ ¬(some x=some (wA first j:Int)):=by
  intro x hx h
  injection h with h
  omega
 -- the places
 have P:Fk n.Op=true∧(n.Op=1→n.A= -1∧n.B= -1∧wA first j=1)∧(n.Op≠1→n.Op≠2→n.Op≠7→0<j∧n.A=(j:Int)-1∧n.B= -1∧wA first j=wA first (j-1)+1)∧(n.Op=2∨n.Op=7→0<j∧n.B=(j:Int)-1∧wA first (j-1)<j∧n.A=(j:Int)-1-(wA first (j-1):Int)∧wA first j=wA first (j-1-wA first (j-1))+wA first (j-1)+1):=by
  by_cases h1:n.Op=1
  ·rw [aW h1]at hsz
   by_cases hAB:n.A= -1∧n.B= -1
   ·rw [aW hAB]at hsz
    injection hsz with hsz
    exact⟨by rw [h1];rfl,fun _=>⟨hAB.1,hAB.2,by omega⟩,fun h=>absurd h1 h,fun h=>by omega⟩
   ·rw [aM hAB]at hsz;exact absurd hsz (hnone rfl)
  rw [aM h1]at hsz
  by_cases h27:n.Op=2∨n.Op=7
  ·rw [aW h27]at hsz
   by_cases hB:n.B=(j:Int)-1
   ·rw [aW hB]at hsz
    by_cases hj0:j=0
    ·rw [uL l (by omega) (by omega)]at hsz
     exact absurd hsz (hnone rfl)
    ·obtain⟨NB,_⟩:=hI.at (j:=j-1) (by omega)
     have eB:((j-1:Nat):Int)=n.B:=by omega
     have hszB:=NB.size (j+2) (by omega)
     have hpB:=NB.pos
     have hlB:=NB.le
     rw [eB]at hszB
     rw [hszB]at hsz
     simp only [aY]at hsz
     rw [cx (n:=n.B-_) (by omega) (by omega)]at hsz
     by_cases hA:n.A=n.B-(wA first (j-1):Int)
     ·rw [aW (by simp [hA];omega)]at hsz
      by_cases hA0:n.A<0
      ·rw [uL l (by omega) hA0]at hsz
       exact absurd hsz (hnone rfl)
      ·obtain⟨NA,_⟩:=hI.at (j:=j-1-wA first (j-1)) (by omega)
       have eA:((j-1-wA first (j-1):Nat):Int)=n.A:=by omega
       have hszA:=NA.size (j+2) (by omega)
       have hpA:=NA.pos
       have hlA:=NA.le
       rw [eA]at hszA
       rw [hszA]at hsz
       simp only [aY]at hsz
       rw [aW (by simp;omega),cx (n:=(wA first (j-1-wA first (j-1)):Int)+(wA first (j-1):Int)) (by omega) (by omega),cx (by omega) (by omega)]at hsz
       injection hsz with hsz
       refine⟨?_,fun h=>absurd h h1,fun _ h2 h7=>by rcases h27 with h|h;exact absurd h h2;exact absurd h h7,fun _=>⟨by omega,hB,by omega,by omega,by omega⟩⟩
       rcases h27 with h|h<;>rw [h]<;>rfl
     ·rw [aM (by simp;intro _;exact hA)]at hsz
      exact absurd hsz (hnone rfl)
   ·rw [aM hB]at hsz;exact absurd hsz (hnone rfl)
  rw [aM h27]at hsz
  by_cases hop:Fk n.Op=true
  ·rw [aW hop]at hsz
   by_cases hA:n.A=(j:Int)-1∧n.B= -1
   ·rw [aW hA]at hsz
    by_cases hj0:j=0
    ·rw [uL l (by omega) (by omega)]at hsz
     exact absurd hsz (hnone rfl)
    ·obtain⟨NA,_⟩:=hI.at (j:=j-1) (by omega)
     have eA:((j-1:Nat):Int)=n.A:=by omega
     have hszA:=NA.size (j+2) (by omega)
     have hpA:=NA.pos
     have hlA:=NA.le
     rw [eA]at hszA
     rw [hszA]at hsz
     simp only [aY]at hsz
     rw [aW (by simp;omega),cx (by omega) (by omega)]at hsz
     injection hsz with hsz
     exact⟨hop,fun h=>absurd h h1,fun _ _ _=>⟨by omega,hA.1,hA.2,by omega⟩,fun h=>absurd h h27⟩
   ·rw [aM hA]at hsz;exact absurd hsz (hnone rfl)
  ·rw [aM hop]at hsz;exact absurd hsz (hnone rfl)
 obtain⟨p0,p1,p2,p3⟩:=P
 -- what it has of its own, and its kinds
 have hk:=N0.kinds (j+3) (by omega)
 have hszR:kj l (j:Int)=some (wA first j:Int):=N0.size ge (u7 (by omega))
 have ho:BF n=true:=by
  cases ho:BF n with
  |true=>rfl
  |false=>
   exfalso
   unfold cj at hk
   rw [hszR,hn]at hk
   simp only [aY,rN,ho]at hk
   have: ¬(wA first j=0):=by omega
   simp [this]at hk
 have hpl:n.A<(j:Int)∧n.B<(j:Int):=by
  by_cases h1:n.Op=1
  ·obtain⟨a,b,_⟩:=p1 h1;omega
  by_cases h27:n.Op=2∨n.Op=7
  ·obtain⟨a,b,c,d,_⟩:=p3 h27;omega
  ·obtain⟨a,b,c,_⟩:=p2 h1 (fun h=>h27 (.inl h)) (fun h=>h27 (.inr h));omega
 rw [AI hn hszR (by omega) ho]at hk
 have hkA: ∀(p:Int),0≤p→p<(j:Int)→cj (j+2) l p=some (Mm kinds p.toNat,true):=by
  intro p hp0 hpj
  obtain⟨NA,_⟩:=hI.at (j:=p.toNat) (by omega)
  have:=NA.kinds (j+2) (by omega)
  rw [show((p.toNat:Nat):Int)=p from by omega]at this
  exact this
 have hk1: ∀a,eG (cj (j+2)) l (j:Int) n a=gF l (j:Int) n a (if n.B<0 then []else Mm kinds n.B.toNat):=by
  intro a
  unfold eG
  by_cases hB:0≤n.B
  ·rw [aW (by simpa using hB),hkA n.B hB hpl.2,aM (by omega)]
   rfl
  ·rw [aM (by simpa using hB),aW (by omega)]
 have hk2:gF l (j:Int) n (if n.A<0 then []else Mm kinds n.A.toNat) (if n.B<0 then []else Mm kinds n.B.toNat)=some (Mm kinds j,true):=by
  by_cases hA:0≤n.A
  ·rw [aW (by simpa using hA),hkA n.A hA hpl.1]at hk
   simp only [aY,ly,gh,ez]at hk
   rw [hk1]at hk
   rw [aM (show¬n.A<0 by omega)]
   exact hk
  ·rw [aM (by simpa using hA),hk1]at hk
   rw [aW (show n.A<0 by omega)]
   exact hk
 unfold gF at hk2
 cases hr:bq n (if n.A<0 then []else Mm kinds n.A.toNat) (if n.B<0 then []else Mm kinds n.B.toNat)with
 |none=>rw [hr]at hk2;cases hk2
 |some r=>
  rw [hr]at hk2
  simp only [aY]at hk2
  split at hk2
  ·simp at hk2
  ·rename_i hc
   injection hk2 with hk2
   injection hk2 with e1 e2
   refine⟨n,hn,p0,ho,p1,p2,p3,?_,fun h8=>?_,N0.len,N0.pos,N0.le⟩
   ·rw [hr,←e1,←e2]
   ·simp only [pi,lr,ss,qN,kZ,not_or,not_and,Decidable.not_not]at hc
    have:=hc.1 h8
    rw [cx (by omega) (by omega)]at this
    omega
variable{sz:Nat→Nat}
theorem PA{ks:Nat→List Int}{m:Nat}(hl:l.Nodes.length≤60)(hm:m≤l.Nodes.length)(h: ∀j,j<m→ ∃n,zR l sz ks j n): ∀(j:Nat),j<m→(∀fu,j+1<fu→bW fu l (j:Int)=some (sz j:Int))∧ ∀fu,j+1<fu→cj fu l (j:Int)=some (ks j,true):=by
 intro j
 induction j using Nat.strongRecOn with
 |ind j ih=>
  intro hj
  obtain⟨n,F⟩:=h j hj
  have hpl:n.A<(j:Int)∧n.B<(j:Int):=by
   by_cases h1:n.Op=1
   ·obtain⟨a,b,_⟩:=F.lf h1;omega
   by_cases h27:n.Op=2∨n.Op=7
   ·obtain⟨a,b,c,d,_⟩:=F.bi h27;omega
   ·obtain⟨a,b,c,_⟩:=F.un h1 (fun h=>h27 (.inl h)) (fun h=>h27 (.inr h));omega
  have hS: ∀fu,j+1<fu→bW fu l (j:Int)=some (sz j:Int):=by
   intro fu hf
   obtain⟨fu,rfl⟩: ∃k,fu=k+1:=⟨fu-1,by omega⟩
   rw [Gi F.node (by omega) (by omega)]
   by_cases h1:n.Op=1
   ·obtain⟨a,b,c⟩:=F.lf h1
    rw [aW h1,aW ⟨a,b⟩,c];rfl
   rw [aM h1]
   by_cases h27:n.Op=2∨n.Op=7
   ·obtain⟨a,b,c,d,e⟩:=F.bi h27
    obtain⟨nB,FB⟩:=h (j-1) (by omega)
    obtain⟨nA,FA⟩:=h (j-1-sz (j-1)) (by omega)
    have hB:=(ih (j-1) (by omega) (by omega)).1 fu (by omega)
    have hA:=(ih (j-1-sz (j-1)) (by omega) (by omega)).1 fu (by omega)
    rw [show((j-1:Nat):Int)=n.B from by omega]at hB
    rw [show((j-1-sz (j-1):Nat):Int)=n.A from by omega]at hA
    have q1:=FB.pos
    have q2:=FB.le
    have q3:=FA.pos
    have q4:=FA.le
    rw [aW h27,aW b,hB]
    simp only [aY]
    rw [cx (n:=n.B-_) (by omega) (by omega),aW (by simp;omega),hA]
    simp only [aY]
    rw [aW (by simp;omega),cx (n:=(sz (j-1-sz (j-1)):Int)+(sz (j-1):Int)) (by omega) (by omega),cx (by omega) (by omega),e]
    rfl
   ·obtain⟨a,b,c,d⟩:=F.un h1 (fun h=>h27 (.inl h)) (fun h=>h27 (.inr h))
    obtain⟨nA,FA⟩:=h (j-1) (by omega)
    have hA:=(ih (j-1) (by omega) (by omega)).1 fu (by omega)
    rw [show((j-1:Nat):Int)=n.A from by omega]at hA
    have q1:=FA.pos
    have q2:=FA.le
    rw [aM h27,aW F.op,aW ⟨b,c⟩,hA]
    simp only [aY]
    rw [aW (by simp;omega),cx (by omega) (by omega),d]
    rfl
  refine⟨hS,fun fu hf=>?_⟩
  obtain⟨fu,rfl⟩: ∃k,fu=k+1:=⟨fu-1,by omega⟩
  have hszR:kj l (j:Int)=some (sz j:Int):=hS ge (u7 (by omega))
  have hp:=F.pos
  rw [AI F.node hszR (by omega) F.own]
  have hkA: ∀(p:Int),0≤p→p<(j:Int)→cj fu l p=some (ks p.toNat,true):=by
   intro p hp0 hpj
   have:=(ih p.toNat (by omega) (by omega)).2 fu (by omega)
   rw [show((p.toNat:Nat):Int)=p from by omega]at this
   exact this
  have hk1: ∀a,eG (cj fu) l (j:Int) n a=gF l (j:Int) n a (if n.B<0 then []else ks n.B.toNat):=by
   intro a
   unfold eG
   by_cases hB:0≤n.B
   ·rw [aW (by simpa using hB),hkA n.B hB hpl.2,aM (by omega)]
    rfl
   ·rw [aM (by simpa using hB),aW (by omega)]
  have hk2:gF l (j:Int) n (if n.A<0 then []else ks n.A.toNat) (if n.B<0 then []else ks n.B.toNat)=some (ks j,true):=by
   unfold gF
   rw [F.kinds]
   simp only [aY]
   rw [aM]
   have hlen:=F.len
   simp only [pi,lr,ss,qN,kZ,not_or,not_and,Decidable.not_not]
   refine⟨fun h8=>?_,by omega⟩
   have:=F.last h8
   rw [cx (by omega) (by omega)]
   omega
  by_cases hA:0≤n.A
  ·rw [aW (by simpa using hA),hkA n.A hA hpl.1]
   simp only [aY,ly,gh,ez]
   rw [hk1]
   rw [aM (show¬n.A<0 by omega)]at hk2
   exact hk2
  ·rw [aM (by simpa using hA),hk1]
   rw [aW (show n.A<0 by omega)]at hk2
   exact hk2
theorem Km{ks:Nat→List Int}(hl:l.Nodes.length≤60)(hp:1≤l.Nodes.length)(h: ∀j,j<l.Nodes.length→ ∃n,zR l sz ks j n)(hw:sz (l.Nodes.length-1)=l.Nodes.length):oc l=true:=by
 have H:=PA hl (dF _) h
 unfold oc qS
 rw [aM (by simp;omega)]
 have key: ∀(tl:List am) (i:Nat),l.Nodes.drop i=tl→i+tl.length=l.Nodes.length→fi l tl i=some (-1):=by
  intro tl
  induction tl with
  |nil=>
   intro i _ _
   unfold fi
   have:=(H (l.Nodes.length-1) (by omega)).1 ge (u7 (by omega))
   rw [cx (by omega) (by omega),show(l.Nodes.length:Int)-1=((l.Nodes.length-1:Nat):Int)from by omega]
   unfold kj
   rw [this,hw]
   simp
  |cons n tl ih=>
   intro i hd hi
   simp only [iG]at hi
   obtain⟨_,h2,h3⟩:=ky hd
   unfold fi qT
   rw [(H i h2).2 ge (u7 (by omega))]
   simp only [aY,ly,gh,ez]
   exact ih (i+1) h3 (by omega)
 rw [key l.Nodes 0 rfl (by simp)]
 rfl

structure abu(n:am):Prop where
 cond:0<n.Cond.Nodes.length→jP n.Cond.Nodes=true
 items: ∀e∈n.Items,0<e.Nodes.length→jP e.Nodes=true
 args: ∀g∈n.Aggs,0<g.Arg.Nodes.length→jP g.Arg.Nodes=true
def I3(e:bL):Bool:= !e.Nodes.isEmpty&&e.Nodes.any Yq
def Qp(g:hY):Bool:=if g.Tag=3 then true else I3 g.Arg
def Lq(n:am):Bool:=I3 n.Cond||n.Items.any I3||n.Aggs.any Qp

def zw(l:bU)(e p:Nat):bU:=⟨((l.Nodes.take (p+1)).drop e).map (Fj (-(e:Int)))⟩
theorem vJ(hp:p<l.Nodes.length):(zw l e p).Nodes.length=p+1-e:=by
 unfold zw;simp;omega
theorem HF(h:pR l)(e p:Nat):pR (zw l e p):=
 TB fun n hn=>h n (List.mem_of_mem_take (List.mem_of_mem_drop hn))
theorem MW(hS:pR l)(hl:l.Nodes.length≤60)(hp:p<l.Nodes.length)(he:e≤100): ∀(tl:List am) (i fu:Nat) (out:bU),(l.Nodes.take (p+1)).drop i=tl→i+tl.length=p+1→tl.length<fu→out.Nodes.length≤i→m5 l (p:Int) (e:Int) fu (i:Int) out=some (⟨out.Nodes++tl.map (Fj (-(e:Int)))⟩,0):=by
 intro tl
 induction tl with
 |nil=>
  intro i fu out hd hi hf _
  obtain⟨fu,rfl⟩: ∃k,fu=k+1:=⟨fu-1,by omega⟩
  simp only [ph,ym]at hi
  rw [m5,aM (by simp;omega)]
  simp
 |cons x tl ih=>
  intro i fu out hd hi hf ho
  simp only [iG]at hi hf
  obtain⟨fu,rfl⟩: ∃k,fu=k+1:=⟨fu-1,by omega⟩
  obtain⟨h1,h2,h3⟩:=ky hd
  have h1' :cE l.Nodes (i:Int)=some x:=by
   rw [bX]at h1 ⊢
   rw [Bp (by omega)]at h1
   exact h1
  have hx:ja x:=hS x (by rw [bX]at h1';exact rA h1')
  rw [m5,aW (by simp;omega),h1']
  simp only [aY]
  rw [cx (n:=(0:Int)-(e:Int)) (by omega) (by omega),CX hx]
  simp only [aY]
  rw [cr (by simp;omega),cx (by omega) (by omega),show((i:Int)+1)=((i+1:Nat):Int)from by omega]
  simp only [aY]
  rw [ih (i+1) fu _ h3 (by omega) (by omega) (by simp;omega)]
  simp

theorem JW(n:am)(d:Int): ∀(fu:Nat) (ok:Bool) (i:Int),dB (Fj d n) fu ok i=dB n fu ok i:=by
 intro fu
 induction fu with
 |zero=>intros;rfl
 |succ fu ih=>intros;simp only [dB,ih];rfl
theorem JU(n:am)(d:Int)(a:List Int): ∀(fu:Nat) (out:List Int) (ok:Bool) (i:Int),dU (Fj d n) a fu out ok i=dU n a fu out ok i:=by
 intro fu
 induction fu with
 |zero=>intros;rfl
 |succ fu ih=>intros;simp only [dU,ih];rfl
theorem JV(n:am)(d:Int)(a:List Int): ∀(fu:Nat) (out:List Int) (i:Int),dV (Fj d n) a fu out i=dV n a fu out i:=by
 intro fu
 induction fu with
 |zero=>intros;rfl
 |succ fu ih=>intros;simp only [dV,ih,JU];rfl
theorem JT(n:am)(d:Int)(a:List Int): ∀(fu:Nat) (out:List Int) (ok:Bool) (i:Int),dT (Fj d n) a fu out ok i=dT n a fu out ok i:=by
 intro fu
 induction fu with
 |zero=>intros;rfl
 |succ fu ih=>intros;simp only [dT,ih];rfl
theorem JR(n:am)(d:Int)(a:List Int): ∀(fu:Nat) (ok:Bool) (i:Int),dg (Fj d n) a fu ok i=dg n a fu ok i:=by
 intro fu
 induction fu with
 |zero=>intros;rfl
 |succ fu ih=>intros;simp only [dg,ih];rfl
theorem JQ(n:am)(d:Int)(a b:List Int):bq (Fj d n) a b=bq n a b:=by
 unfold bq
 simp only [JW,JV,JT,JR]
 rfl
theorem Tm(n:am)(d:Int):BF (Fj d n)=BF n:=rfl
section
variable{ks:Nat→List Int}
abbrev Fh(l:bU)(sz:Nat→Nat)(ks:Nat→List Int):Prop:= ∀j,j<l.Nodes.length→ ∃n,zR l sz ks j n
theorem YW(H:Fh l sz ks): ∀(p:Nat),p<l.Nodes.length→ ∀q,p+1-sz p≤q→q≤p→p+1-sz p≤q+1-sz q:=by
 intro p
 induction p using Nat.strongRecOn with
 |ind p ih=>
  intro hp q h1 h2
  by_cases hq:q=p
  ·subst hq;exact dF _
  obtain⟨n,F⟩:=H p hp
  by_cases c1:n.Op=1
  ·obtain⟨_,_,e⟩:=F.lf c1
   omega
  by_cases c27:n.Op=2∨n.Op=7
  ·obtain⟨a,b,c,d,e⟩:=F.bi c27
   obtain⟨nA,FA⟩:=H (p-1-sz (p-1)) (by omega)
   have hpA:=FA.pos
   have hlA:=FA.le
   by_cases hB:p-1+1-sz (p-1)≤q
   ·have:=ih (p-1) (by omega) (by omega) q hB (by omega)
    omega
   ·have:=ih (p-1-sz (p-1)) (by omega) (by omega) q (by omega) (by omega)
    omega
  ·obtain⟨a,b,c,d⟩:=F.un c1 (fun h=>c27 (.inl h)) (fun h=>c27 (.inr h))
   have:=ih (p-1) (by omega) (by omega) q (by omega) (by omega)
   omega
theorem Xu(H:Fh l sz ks)(hp:p<l.Nodes.length)(h1:p+1-sz p≤i)(h2:i≤p)(F:zR l sz ks i n):(n.A= -1∨((p+1-sz p:Nat):Int)≤n.A∧n.A<(i:Int))∧(n.B= -1∨((p+1-sz p:Nat):Int)≤n.B∧n.B<(i:Int)):=by
 have hn:=YW H p hp i h1 h2
 by_cases c1:n.Op=1
 ·obtain⟨a,b,_⟩:=F.lf c1
  exact⟨.inl a,.inl b⟩
 by_cases c27:n.Op=2∨n.Op=7
 ·obtain⟨a,b,c,d,e⟩:=F.bi c27
  obtain⟨nA,FA⟩:=H (i-1-sz (i-1)) (by omega)
  have hpA:=FA.pos
  have hlA:=FA.le
  exact⟨.inr (by omega),.inr (by omega)⟩
 ·obtain⟨a,b,c,d⟩:=F.un c1 (fun h=>c27 (.inl h)) (fun h=>c27 (.inr h))
  obtain⟨nA,FA⟩:=H (i-1) (by omega)
  have hpA:=FA.pos
  exact⟨.inr (by omega),.inl c⟩
theorem Aq{d:Int}(h:x= -1):DU d x= -1:=by unfold DU;rw [aM (by omega),h]
theorem Ho{e:Int}(h:0≤e)(h2:e≤x)(h3:x≤100000):DU (-e) x=x-e:=by
 unfold DU
 rw [aW (by omega),cx (by omega) (by omega)]
 omega
theorem Eh(H:Fh l sz ks)(hl:l.Nodes.length≤60)(hp:p<l.Nodes.length)(hs:sz p≤p+1):Fh (zw l (p+1-sz p) p) (fun j=>sz (p+1-sz p+j)) (fun j=>ks (p+1-sz p+j)):=by
 obtain⟨e,he⟩: ∃e,e=p+1-sz p:=⟨_,rfl⟩
 rw [←he]
 intro j hj
 rw [vJ hp]at hj
 obtain⟨n,F⟩:=H (e+j) (by omega)
 have hin:=Xu H hp (i:=e+j) (by omega) (by omega) F
 have hnest:=YW H p hp (e+j) (by omega) (by omega)
 rw [←he]at hin hnest
 obtain⟨hA,hB⟩:=hin
 refine⟨Fj (-(e:Int)) n,⟨?_,F.op,by rw [Tm];exact F.own,fun c1=>?_,fun c1 c2 c7=>?_,fun c27=>?_,?_,fun c8=>?_,F.len,F.pos,?_⟩⟩
 ·have h1:=F.node
  rw [bX]at h1 ⊢
  unfold zw
  simp only
  rw [Cg,wF,Bp (by omega),h1]
  rfl
 ·obtain⟨a,b,c⟩:=F.lf c1
  exact⟨Aq a,Aq b,c⟩
 ·obtain⟨a,b,c,d⟩:=F.un c1 c2 c7
  obtain⟨nA,FA⟩:=H (e+j-1) (by omega)
  have hpA:=FA.pos
  have eA:DU (-(e:Int)) n.A=n.A-(e:Int):=Ho (by omega) (by omega) (by omega)
  refine⟨by omega,?_,Aq c,?_⟩
  ·show DU (-(e:Int)) n.A=_
   rw [eA];omega
  ·show sz (e+j)=sz (e+(j-1))+1
   rw [d,show e+j-1=e+(j-1)from by omega]
 ·obtain⟨a,b,c,d,g⟩:=F.bi c27
  obtain⟨nA,FA⟩:=H (e+j-1-sz (e+j-1)) (by omega)
  have hpA:=FA.pos
  have eA:DU (-(e:Int)) n.A=n.A-(e:Int):=Ho (by omega) (by omega) (by omega)
  have eB:DU (-(e:Int)) n.B=n.B-(e:Int):=Ho (by omega) (by omega) (by omega)
  have ej:e+(j-1)=e+j-1:=by omega
  refine⟨by omega,?_,?_,?_,?_⟩
  ·show DU (-(e:Int)) n.B=_
   rw [eB];omega
  ·show sz (e+(j-1))<j
   rw [ej];omega
  ·show DU (-(e:Int)) n.A=(j:Int)-1-(sz (e+(j-1)):Int)
   rw [eA,ej];omega
  ·show sz (e+j)=sz (e+(j-1-sz (e+(j-1))))+sz (e+(j-1))+1
   rw [ej,g,show e+(j-1-sz (e+j-1))=e+j-1-sz (e+j-1)from by omega]
 ·rw [JQ]
  have key: ∀x:Int,(x= -1∨(e:Int)≤x∧x<((e+j:Nat):Int))→(if DU (-(e:Int)) x<0 then([]:List Int)else ks (e+(DU (-(e:Int)) x).toNat))=if x<0 then []else ks x.toNat:=by
   intro x hx
   rcases hx with hx|hx
   ·rw [Aq hx,aW (by decide),aW (by omega)]
   ·rw [Ho (by omega) hx.1 (by omega),aM (by omega),aM (by omega)]
    congr 1
    omega
  have h1:=F.kinds
  rw [←key n.A hA,←key n.B hB]at h1
  exact h1
 ·have:=F.last c8
  rw [vJ hp]
  omega
 ·show sz (e+j)≤j+1
  have:=F.le
  omega
theorem LX(H:Fh l sz ks)(hl:l.Nodes.length≤60)(hp:p<l.Nodes.length)(hs:sz p≤p+1)(hs1:1≤sz p):oc (zw l (p+1-sz p) p)=true:=by
 have hlen:=vJ (l:=l) (e:=p+1-sz p) hp
 refine Km (by rw [hlen];omega) (by rw [hlen];omega) (Eh H hl hp hs) ?_
 rw [hlen]
 show sz (p+1-sz p+(p+1-(p+1-sz p)-1))=_
 rw [show p+1-sz p+(p+1-(p+1-sz p)-1)=p from by omega]
 omega
end

theorem abD{k:Int}(h:k4 k):(decide (0≤k)&&decide (k≤3))=true:=by simp;unfold k4 at h;omega
theorem xT(ha:yB a=true)(hb:yB b=true):yB (a++b)=true:=by unfold yB at*;rw [List.all_append,ha,hb];rfl
theorem Dc{k:Int}(h:k4 k):yB [k]=true:=by rw [AJ,abD h];rfl
theorem pQ{ys zs:List α}(h:app xs ys=some zs):zs=xs++ys:=by
 unfold app at h
 split at h
 ·injection h with h;exact h.symm
 ·cases h
theorem JY(e:bL)(kinds:List Int):k4 (fO e kinds).1:=by
 unfold fO
 split
 ·split
  ·rename_i hk
   split
   ·cases ht:mg e.Nodes with
    |none=>exact .inl rfl
    |some t=>
     obtain⟨hw,_,_⟩:=jU ht
     simp only [aY]
     cases hd:kd kinds t with
     |none=>exact .inl rfl
     |some k=>exact NP (fun k=>xS hk) t hw hd
   ·exact .inl rfl
  ·exact .inl rfl
 ·exact .inl rfl
theorem Yr(g:hY)(kinds:List Int):k4 (Bb g kinds).1:=by
 have hk:=JY g.Arg kinds
 unfold Bb kI
 rw [lb]
 simp only [aY]
 repeat' split
 all_goals first|exact hk|simp [k4]
theorem Rf{i k:Int}(ha:yB a=true)(h:cE a i=some k):k4 k:=by
 obtain⟨_,h2⟩:=mP h
 exact xS ha (rA h2)
theorem Xr(n:am)(a:List Int): ∀(fu:Nat) (out:List Int) (ok:Bool) (i:Int) (k:List Int) (o:Bool),yB out=true→dU n a fu out ok i=some (k,o)→yB k=true:=by
 intro fu
 induction fu with
 |zero=>intro _ _ _ _ _ _ h;cases h
 |succ fu ih=>
  intro out ok i k o ho h
  rw [dU]at h
  split at h
  ·cases hx:cE n.Aggs i with
   |none=>rw [hx]at h;cases h
   |some g=>
    rw [hx]at h
    simp only [aY,oP]at h
    cases ha:app out [(Bb g a).1]with
    |none=>rw [ha]at h;cases h
    |some z=>
     rw [ha]at h
     exact ih _ _ _ _ _ (by rw [pQ ha];exact xT ho (Dc (Yr g a))) h
  ·injection h with h
   injection h with h _
   rw [←h];exact ho
theorem Xs(n:am)(a:List Int)(hka:yB a=true): ∀(fu:Nat) (out:List Int) (i:Int) (k:List Int) (o:Bool),yB out=true→dV n a fu out i=some (k,o)→yB k=true:=by
 intro fu
 induction fu with
 |zero=>intro _ _ _ _ _ h;cases h
 |succ fu ih=>
  intro out i k o ho h
  rw [dV]at h
  split at h
  ·cases hx:cE n.Keys i with
   |none=>rw [hx]at h;cases h
   |some g=>
    rw [hx]at h
    simp only [aY]at h
    split at h
    ·injection h with h;injection h with h _;rw [←h];rfl
    ·cases hy:cE a g with
     |none=>rw [hy]at h;cases h
     |some y=>
      rw [hy]at h
      simp only [aY]at h
      cases ha:app out [y]with
      |none=>rw [ha]at h;cases h
      |some z=>
       rw [ha]at h
       exact ih _ _ _ _ (by rw [pQ ha];exact xT ho (Dc (Rf hka hy))) h
  ·exact Xr n a _ _ _ _ _ _ ho h
theorem Xq(n:am)(a:List Int): ∀(fu:Nat) (out:List Int) (ok:Bool) (i:Int) (k:List Int) (o:Bool),yB out=true→dT n a fu out ok i=some (k,o)→yB k=true:=by
 intro fu
 induction fu with
 |zero=>intro _ _ _ _ _ _ h;cases h
 |succ fu ih=>
  intro out ok i k o ho h
  rw [dT]at h
  split at h
  ·cases hx:cE n.Items i with
   |none=>rw [hx]at h;cases h
   |some g=>
    rw [hx]at h
    simp only [aY,lb]at h
    cases ha:app out [(fO g a).1]with
    |none=>rw [ha]at h;cases h
    |some z=>
     rw [ha]at h
     exact ih _ _ _ _ _ (by rw [pQ ha];exact xT ho (Dc (JY g a))) h
  ·injection h with h
   injection h with h _
   rw [←h];exact ho
theorem Y0(n:am)(a:List Int): ∀(fu:Nat) (ok:Bool) (i:Int) (k:List Int) (o:Bool),dg n a fu ok i=some (k,o)→k=a:=by
 intro fu
 induction fu with
 |zero=>intro _ _ _ _ h;cases h
 |succ fu ih=>
  intro ok i k o h
  rw [dg]at h
  split at h
  ·generalize (if ok=true then(cE n.Order i).bind fun e10=>some (decide ((0:Int)≤e10.Col))else some false)=z at h
   cases z with
   |none=>cases h
   |some z=>
    simp only [aY]at h
    generalize (if z=true then(cE n.Order i).bind fun e11=>some (decide (e11.Col<(a.length:Int)))else some false)=y at h
    cases y with
    |none=>cases h
    |some y=>exact ih _ _ _ _ h
  ·injection h with h
   injection h with h _
   exact h.symm
theorem Y2(n:am): ∀(fu:Nat) (ok:Bool) (i:Int) (k:List Int) (o:Bool),dB n fu ok i=some (k,o)→k=n.Kinds:=by
 intro fu
 induction fu with
 |zero=>intro _ _ _ _ h;cases h
 |succ fu ih=>
  intro ok i k o h
  rw [dB]at h
  split at h
  ·generalize (if ok=true then(cE n.Kinds i).bind fun e10=>some (decide ((1:Int)≤e10))else some false)=z at h
   cases z with
   |none=>cases h
   |some z=>
    simp only [aY]at h
    generalize (if z=true then(cE n.Kinds i).bind fun e11=>some (decide (e11≤(3:Int)))else some false)=y at h
    cases y with
    |none=>cases h
    |some y=>exact ih _ _ _ _ h
  ·injection h with h
   injection h with h _
   exact h.symm
theorem Y1(b:List Int): ∀(tl:List Int) (i:Nat) (out:List Int) (ok:Bool) (k:List Int) (o:Bool),yB tl=true→yB b=true→yB out=true→dA b tl i out ok=some (k,o)→yB k=true∧k.length=out.length+tl.length:=by
 intro tl
 induction tl with
 |nil=>
  intro i out ok k o _ _ ho h
  rw [dA]at h
  injection h with h
  injection h with h _
  rw [←h];exact⟨ho,rfl⟩
 |cons x tl ih=>
  intro i out ok k o ht hb ho h
  rw [AJ,lr]at ht
  have step: ∀z:Int,k4 z→il b (dA b tl) i out ok z=some (k,o)→yB k=true∧k.length=out.length+(tl.length+1):=by
   intro z hz hk
   unfold il at hk
   cases ha:app out [z]with
   |none=>rw [ha]at hk;cases hk
   |some w=>
    rw [ha]at hk
    simp only [aY]at hk
    generalize (if ok=true then(cE b (i:Int)).bind fun e7=>(if(!(e7==z))=true then(cE b (i:Int)).bind fun e8=>some (e8==(0:Int))else some true).bind fun t3=>some t3 else some false)=q at hk
    cases q with
    |none=>cases hk
    |some q=>
     have:=ih (i+1) w q k o ht.2 hb (by rw [pQ ha];exact xT ho (Dc hz)) hk
     rw [pQ ha]at this
     simp only [iO,iG,ph]at this
     exact⟨this.1,by omega⟩
  rw [dA]at h
  split at h
  ·cases hx:cE b (i:Int)with
   |none=>rw [hx]at h;cases h
   |some y=>
    rw [hx]at h
    exact step y (Rf hb hx) h
  ·exact step x (by have:=ht.1;simp at this;unfold k4;omega) h
theorem Ps(hs:ja n)(hop:Fk n.Op=true)(ha:yB a=true)(hb:yB b=true)(h:bq n a b=some (k,true)):yB k=true:=by
 have h0:=h
 unfold bq at h
 rcases qg hop with c|c|c|c|c|c|c|c
 ·rw [aW (by simp [c])]at h
  rw [Y2 n _ _ _ _ _ h]
  obtain⟨k1,o,k',g1,g2,_⟩:=Gl default n a b hs c
  rw [h0]at g2
  injection g2 with g2
  injection g2 with _ g2
  subst g2
  unfold fX at g1
  split at g1
  ·have hc:cA n.Kinds jo=some (n.Kinds.any fun k=> !(((k==(1:Int))||(k==(2:Int)))||(k==(3:Int)))):=jM (fun v=>rfl) _
   rw [hc]at g1
   simp only [aY,yH]at g1
   injection g1 with g1
   injection g1 with _ g1
   rw [CN,IK]at g1
   unfold yB
   rw [ju]
   intro z hz
   have:=g1 z hz
   simp at this
   simp;omega
  ·simp at g1
 ·rw [aM (by simp [c]),aW (by simp [c])]at h
  cases h1:app ([]:List Int) a with
  |none=>rw [h1]at h;cases h
  |some l1=>
   rw [h1]at h
   simp only [aY]at h
   cases h2:app l1 b with
   |none=>rw [h2]at h;cases h
   |some l2=>
    rw [h2]at h
    simp only [aY,lG]at h
    injection h with h
    injection h with h _
    rw [←h,pQ h2,pQ h1]
    exact xT (xT rfl ha) hb
 ·rw [aM (by simp [c]),aM (by simp [c]),aW (by simp [c])]at h
  simp only [aY,lG]at h
  injection h with h
  injection h with h _
  rw [←h];exact ha
 ·rw [aM (by simp [c]),aM (by simp [c]),aM (by simp [c]),aW (by simp [c])]at h
  exact Xs n a ha _ _ _ _ _ rfl h
 ·rw [aM (by simp [c]),aM (by simp [c]),aM (by simp [c]),aM (by simp [c]),aW (by simp [c])]at h
  exact Xq n a _ _ _ _ _ _ rfl h
 ·rw [aM (by simp [c]),aM (by simp [c]),aM (by simp [c]),aM (by simp [c]),aM (by simp [c]),aW (by simp [c])]at h
  injection h with h
  injection h with h _
  rw [←h];exact ha
 ·rw [aM (by simp [c]),aM (by simp [c]),aM (by simp [c]),aM (by simp [c]),aM (by simp [c]),aM (by simp [c]),aW (by simp [c])]at h
  split at h
  ·injection h with h;injection h with _ h;cases h
  ·exact(Y1 b a 0 [] true k true ha hb rfl h).1
 ·rw [aM (by simp [c]),aM (by simp [c]),aM (by simp [c]),aM (by simp [c]),aM (by simp [c]),aM (by simp [c]),aM (by simp [c])]at h
  rw [Y0 n a _ _ _ _ _ h];exact ha
section
variable{d:bU}{sz' :Nat→Nat}{ks ks' :Nat→List Int}
theorem qY(F:zR l sz ks j n):(n.A= -1∨0≤n.A∧n.A<(j:Int))∧(n.B= -1∨0≤n.B∧n.B<(j:Int)):=by
 by_cases c1:n.Op=1
 ·obtain⟨a,b,_⟩:=F.lf c1
  exact⟨.inl a,.inl b⟩
 by_cases c27:n.Op=2∨n.Op=7
 ·obtain⟨a,b,c,d,e⟩:=F.bi c27
  exact⟨.inr (by omega),.inr (by omega)⟩
 ·obtain⟨a,b,c,d⟩:=F.un c1 (fun h=>c27 (.inl h)) (fun h=>c27 (.inr h))
  exact⟨.inr (by omega),.inl c⟩
theorem VH(hS:pR l)(H:Fh l sz ks): ∀j,j<l.Nodes.length→yB (ks j)=true:=by
 intro j
 induction j using Nat.strongRecOn with
 |ind j ih=>
  intro hj
  obtain⟨n,F⟩:=H j hj
  have hn:ja n:=hS n (by have:=F.node;rw [bX]at this;exact rA this)
  obtain⟨hA,hB⟩:=qY F
  refine Ps hn F.op ?_ ?_ F.kinds
  ·split
   ·rfl
   ·exact ih _ (by omega) (by omega)
  ·split
   ·rfl
   ·exact ih _ (by omega) (by omega)
theorem Td(h:0≤x)(h2:x≤10000)(h3:e≤10000):DU (e:Int) x=x+e:=by
 unfold DU
 rw [aW h,cx (by omega) (by omega)]
theorem YC{m:Nat}(H:Fh l sz ks)(H' :Fh d sz' ks')(hm:m≤l.Nodes.length)(hl:l.Nodes.length≤200)(he:e≤200)(hd:e+m≤d.Nodes.length)(hn: ∀j,j<m→ ∀n,cE l.Nodes (j:Int)=some n→cE d.Nodes ((e+j:Nat):Int)=some (Fj (e:Int) n)): ∀j,j<m→sz' (e+j)=sz j∧ks' (e+j)=ks j:=by
 intro j
 induction j using Nat.strongRecOn with
 |ind j ih=>
  intro hj
  obtain⟨n,F⟩:=H j (by omega)
  obtain⟨n',F'⟩:=H' (e+j) (by omega)
  have hnn:n' =Fj (e:Int) n:=by
   have h1:=hn j hj n F.node
   rw [F'.node]at h1
   injection h1
  subst hnn
  obtain⟨hA,hB⟩:=qY F
  constructor
  ·by_cases c1:n.Op=1
   ·rw [(F'.lf c1).2.2,(F.lf c1).2.2]
   by_cases c27:n.Op=2∨n.Op=7
   ·obtain⟨a,b,c,g,q⟩:=F.bi c27
    obtain⟨a',b',c',g',q'⟩:=F'.bi c27
    have ej:e+j-1=e+(j-1):=by omega
    rw [ej,(ih (j-1) (by omega) (by omega)).1,show e+(j-1)-sz (j-1)=e+(j-1-sz (j-1))from by omega,(ih (j-1-sz (j-1)) (by omega) (by omega)).1]at q'
    rw [q',q]
   ·obtain⟨a,b,c,g⟩:=F.un c1 (fun h=>c27 (.inl h)) (fun h=>c27 (.inr h))
    obtain⟨a',b',c',g'⟩:=F'.un c1 (fun h=>c27 (.inl h)) (fun h=>c27 (.inr h))
    rw [show e+j-1=e+(j-1)from by omega,(ih (j-1) (by omega) (by omega)).1]at g'
    rw [g',g]
  ·have key: ∀x:Int,(x= -1∨0≤x∧x<(j:Int))→(if DU (e:Int) x<0 then([]:List Int)else ks' (DU (e:Int) x).toNat)=if x<0 then []else ks x.toNat:=by
    intro x hx
    rcases hx with hx|hx
    ·rw [Aq hx,aW (by decide),aW (by omega)]
    ·rw [Td (by omega) (by omega) (by omega),aM (by omega),aM (by omega),show(x+(e:Int)).toNat=e+x.toNat from by omega,(ih x.toNat (by omega) (by omega)).2]
   have h1:=F'.kinds
   have hA' :(Fj (e:Int) n).A=DU (e:Int) n.A:=rfl
   have hB' :(Fj (e:Int) n).B=DU (e:Int) n.B:=rfl
   rw [JQ,hA',hB',key n.A hA,key n.B hB,F.kinds]at h1
   injection h1 with h1
   injection h1 with h1 _
   exact h1.symm
end
structure G2(l:bU)(sz:Nat→Nat)(ks:Nat→List Int):Prop where
 pos:1≤l.Nodes.length
 le:l.Nodes.length≤60
 all:Fh l sz ks
 whole:sz (l.Nodes.length-1)=l.Nodes.length
 kinds:q5 l=some (ks (l.Nodes.length-1),0)
theorem Ex(hS:pR l)(h:oc l=true): ∃sz ks,G2 l sz ks:=by
 obtain⟨_,_,ob,j,r3,r4⟩:=At hS
 obtain⟨hL,hj⟩:=r4 h
 have hle:=hL.le
 have hpos:=hL.pos
 obtain⟨N0,_⟩:=hL.inv.at (j:=l.Nodes.length-1) (by omega)
 refine⟨wA ob.first,Mm ob.kinds,hpos,hle,fun j hj=>Kn hL.inv hle hj,?_,?_⟩
 ·have e1:=N0.size ge (u7 (by omega))
  have e2:=hL.whole
  unfold kj at e2
  rw [show(l.Nodes.length:Int)-1=((l.Nodes.length-1:Nat):Int)from by omega,e1]at e2
  injection e2 with e2
  omega
 ·unfold q5
  rw [r3,h]
  simp only [aY,ly,gh,ez]
  have hk:cE ob.kinds j=some (Mm ob.kinds (l.Nodes.length-1)):=by
   rw [hj,show(l.Nodes.length:Int)-1=((l.Nodes.length-1:Nat):Int)from by omega,bX]
   unfold Mm
   rw [n8 (by rw [hL.inv.kl];omega)];rfl
  rw [hk]
  simp only [aY]
  rw [sb _ (by have:=N0.len;omega)]
  rfl
theorem JO{sz' :Nat→Nat}{ks ks' :Nat→List Int}(hS:pR l)(K:G2 l sz ks)(H:Fh l sz' ks'):ks' (l.Nodes.length-1)=ks (l.Nodes.length-1)∧sz' (l.Nodes.length-1)=l.Nodes.length:=by
 have hle:=K.le
 have hpos:=K.pos
 have:=YC (l:=l) (d:=l) (e:=0) (m:=l.Nodes.length) K.all H (dF _) (by omega) (by omega) (by omega) (fun j hj n hn=>by
  obtain⟨n',F⟩:=K.all j hj
  have e:n' =n:=by have:=F.node;rw [hn]at this;injection this with this;exact this.symm
  subst e
  obtain⟨hA,hB⟩:=qY F
  rw [uz,hn]
  have hz:=Jg (n:=n') (by omega) (by omega)
  rw [show((0:Nat):Int)=0 from rfl,hz]) (l.Nodes.length-1) (by omega)
 simp only [uz]at this
 exact⟨this.2,by rw [this.1];exact K.whole⟩

def atN(x y:Int)(n:am):am:={n with A:=x,B:=y}
def d1(n:am)(a:bU):bU:=⟨a.Nodes++[atN ((a.Nodes.length:Int)-1) (-1) n]⟩
def d2(n:am)(a b:bU):bU:=⟨(a.Nodes++b.Nodes.map (Fj (a.Nodes.length:Int)))++[atN ((a.Nodes.length:Int)-1) ((a.Nodes.length:Int)+(b.Nodes.length:Int)-1) n]⟩
theorem Pq{a:bU}{ks:Nat→List Int}(K:G2 a sz ks)(F:zR a sz ks j n)(hj:j<a.Nodes.length):Fj ((0:Nat):Int) n=n:=by
 obtain⟨hA,hB⟩:=qY F
 have hle:=K.le
 exact Jg (by omega) (by omega)


theorem xz(h:i≤100000):IntKind.i64.wrap ((i:Int)+1)=((i+1:Nat):Int):=by rw [lW (by omega) (by omega)];omega
theorem NM(n:am): ∀(fu:Nat) (ok:Bool) (i:Int) (k:List Int),dB n fu ok i=some (k,true)→ok=true∧0≤n.Table∧n.Table≤3∧k=n.Kinds
 |0,_,_,_,h=>by unfold dB at h;cases h
 |fu+1,ok,i,k,h=>by
  unfold dB at h
  split at h
  ·cases ok with
   |false=>
    simp only [gh,ez,aY]at h
    exact absurd (NM n fu false _ k h).1 (by simp)
   |true=>
    simp only [fe]at h
    cases hx:cE n.Kinds i with
    |none=>rw [hx]at h;cases h
    |some e=>
     rw [hx]at h
     simp only [aY]at h
     split at h
     ·exact⟨rfl,(NM n fu _ _ k h).2⟩
     ·exact⟨rfl,(NM n fu _ _ k h).2⟩
  ·injection h with h
   injection h with h h2
   simp only [lr,kZ]at h2
   exact⟨h2.1.1.1.1,h2.1.1.1.2,h2.1.1.2,h.symm⟩
theorem VZ(n:am)(a:List Int)(hs:n.Aggs.length≤5000): ∀(l:List hY) (fu:Nat) (out:List Int) (ok:Bool) (i:Nat) (k:List Int),n.Aggs.drop i=l→dU n a fu out ok (i:Int)=some (k,true)→ok=true∧(∀g∈l,(Bb g a).2=true)∧k=out++(l.map fun g=>(Bb g a).1)∧n.Keys.length≤3
 |_,0,_,_,_,_,_,h=>by unfold dU at h;cases h
 |[],fu+1,out,ok,i,k,hd,h=>by
  unfold dU at h
  have:=u9 hd
  rw [aM (by rw [kZ];omega)]at h
  injection h with h
  injection h with h h2
  simp only [lr,kZ]at h2
  exact⟨h2.1.1.1,by simp,by simp [h],by have:=h2.1.1.2;omega⟩
 |g::t,fu+1,out,ok,i,k,hd,h=>by
  obtain⟨h1,h2,h3⟩:=ky hd
  unfold dU at h
  rw [aW (by rw [kZ];omega),h1,aY,oP,aY,xz (by omega)]at h
  cases ha:app out [(Bb g a).1]with
  |none=>rw [ha]at h;cases h
  |some z=>
   rw [ha,aY]at h
   obtain⟨p1,p2,p3,p4⟩:=VZ n a hs t fu z _ (i+1) k h3 h
   rw [lr]at p1
   refine⟨p1.1,?_,?_,p4⟩
   ·intro y hy
    rcases fF.1 hy with q|q
    ·rw [q];exact p1.2
    ·exact p2 y q
   ·rw [p3,pQ ha];simp
def Ez(a:List Int)(c:Int):Int:=(a[c.toNat]?).getD 0
theorem Re(h:0≤c)(h2:c<(a.length:Int)):cE a c=some (Ez a c):=by
 obtain⟨k,hk⟩:=Dx h
 subst hk
 have hk:k<a.length:=by omega
 unfold Ez
 rw [gM k rfl]
 simp [hk]
theorem VY(n:am)(a:List Int)(hs:n.Keys.length≤5000)(hs2:n.Aggs.length≤5000): ∀(l:List Int) (fu:Nat) (out:List Int) (i:Nat) (k:List Int),n.Keys.drop i=l→dV n a fu out (i:Int)=some (k,true)→(∀c∈l,0≤c∧c<(a.length:Int))∧(∀g∈n.Aggs,(Bb g a).2=true)∧k=(out++l.map (Ez a))++(n.Aggs.map fun g=>(Bb g a).1)∧n.Keys.length≤3
 |_,0,_,_,_,_,h=>by unfold dV at h;cases h
 |[],fu+1,out,i,k,hd,h=>by
  unfold dV at h
  have:=u9 hd
  rw [aM (by rw [kZ];omega)]at h
  obtain⟨_,p2,p3,p4⟩:=VZ n a hs2 n.Aggs ge out true 0 k (by simp) h
  exact⟨by simp,p2,by simpa using p3,p4⟩
 |c::t,fu+1,out,i,k,hd,h=>by
  obtain⟨h1,h2,h3⟩:=ky hd
  unfold dV at h
  rw [aW (by rw [kZ];omega),h1,aY,xz (by omega)]at h
  by_cases hc:0≤c∧c<(a.length:Int)
  ·rw [aM (by simp only [pi,kZ];omega),Re hc.1 hc.2,aY]at h
   cases ha:app out [Ez a c]with
   |none=>rw [ha]at h;cases h
   |some z=>
    rw [ha,aY]at h
    obtain⟨p1,p2,p3,p4⟩:=VY n a hs hs2 t fu z (i+1) k h3 h
    refine⟨?_,p2,?_,p4⟩
    ·intro y hy
     rcases fF.1 hy with q|q
     ·rw [q];exact hc
     ·exact p1 y q
    ·rw [p3,pQ ha];simp
  ·rw [aW (by simp only [pi,kZ];omega)]at h
   injection h with h
   injection h with h h2
   cases h2
theorem VX(n:am)(a:List Int)(hs:n.Items.length≤5000): ∀(l:List bL) (fu:Nat) (out:List Int) (ok:Bool) (i:Nat) (k:List Int),n.Items.drop i=l→dT n a fu out ok (i:Int)=some (k,true)→ok=true∧(∀e∈l,(fO e a).2=0)∧k=out++l.map fun e=>(fO e a).1
 |_,0,_,_,_,_,_,h=>by unfold dT at h;cases h
 |[],fu+1,out,ok,i,k,hd,h=>by
  unfold dT at h
  have:=u9 hd
  rw [aM (by rw [kZ];omega)]at h
  injection h with h
  injection h with h h2
  simp only [lr,kZ]at h2
  exact⟨h2.1.1,by simp,by simp [h]⟩
 |g::t,fu+1,out,ok,i,k,hd,h=>by
  obtain⟨h1,h2,h3⟩:=ky hd
  unfold dT at h
  rw [aW (by rw [kZ];omega),h1,aY,lb,aY,xz (by omega)]at h
  cases ha:app out [(fO g a).1]with
  |none=>rw [ha]at h;cases h
  |some z=>
   rw [ha,aY]at h
   obtain⟨p1,p2,p3⟩:=VX n a hs t fu z _ (i+1) k h3 h
   simp only [lr,ss]at p1
   refine⟨p1.1,?_,?_⟩
   ·intro y hy
    rcases fF.1 hy with q|q
    ·rw [q];exact p1.2
    ·exact p2 y q
   ·rw [p3,pQ ha];simp
theorem NK(n:am)(a:List Int)(hs:n.Order.length≤5000): ∀(l:List dn) (fu:Nat) (ok:Bool) (i:Nat) (k:List Int),n.Order.drop i=l→dg n a fu ok (i:Int)=some (k,true)→ok=true∧k=a∧ ∀o∈l,0≤o.Col∧o.Col<(a.length:Int)
 |_,0,_,_,_,_,h=>by unfold dg at h;cases h
 |[],fu+1,ok,i,k,hd,h=>by
  unfold dg at h
  have:=u9 hd
  rw [aM (by rw [kZ];omega)]at h
  injection h with h
  injection h with h h2
  simp only [lr,kZ]at h2
  exact⟨h2.1.1.1,h.symm,by simp⟩
 |o::t,fu+1,ok,i,k,hd,h=>by
  obtain⟨h1,h2,h3⟩:=ky hd
  unfold dg at h
  rw [aW (by rw [kZ];omega),h1,xz (by omega)]at h
  cases ok with
  |false=>
   simp only [gh,ez,aY]at h
   exact absurd (NK n a hs t fu false (i+1) k h3 h).1 (by simp)
  |true=>
   simp only [fe,aY]at h
   by_cases hc:0≤o.Col
   ·rw [aW (by simpa using hc),aY]at h
    obtain⟨p1,p2,p3⟩:=NK n a hs t fu _ (i+1) k h3 h
    refine⟨rfl,p2,?_⟩
    intro y hy
    rcases fF.1 hy with q|q
    ·rw [q];exact⟨hc,by simpa using p1⟩
    ·exact p3 y q
   ·rw [aM (by simpa using hc),aY]at h
    exact absurd (NK n a hs t fu false (i+1) k h3 h).1 (by simp)
def NX(x y k:Int):Prop:=(x=k∨x=0)∧(y=k∨y=0)
theorem NL(b:List Int)(hb:b.length≤5000): ∀(l:List Int) (i:Nat) (out:List Int) (ok:Bool) (k:List Int),l.length+i=b.length→dA b l i out ok=some (k,true)→ok=true∧ ∃t:List Int,k=out++t∧t.length=l.length∧ ∀(j:Nat) (x y z:Int),l[j]? =some x→b[i+j]? =some y→t[j]? =some z→NX x y z
 |[],i,out,ok,k,_,h=>by
  unfold dA at h
  injection h with h
  injection h with h h2
  exact⟨h2,[],by simp [h],rfl,by simp⟩
 |x::l,i,out,ok,k,hl,h=>by
  rw [iG]at hl
  have hib:i<b.length:=by omega
  have hi:cE b (i:Int)=some b[i]:=by rw [gM i rfl,n8 hib]
  have key: ∀k0:Int,il b (dA b l) i out ok k0=some (k,true)→ok=true∧(b[i]=k0∨b[i]=0)∧ ∃t:List Int,k=out++k0::t∧t.length=l.length∧ ∀(j:Nat) (x y z:Int),l[j]? =some x→b[i+1+j]? =some y→t[j]? =some z→NX x y z:=by
   intro k0 h
   unfold il at h
   cases ha:app out [k0]with
   |none=>rw [ha]at h;cases h
   |some z=>
    rw [ha,aY,hi]at h
    cases ok with
    |false=>
     simp only [gh,ez,aY]at h
     exact absurd (NL b hb l (i+1) z false k (by omega) h).1 (by simp)
    |true=>
     simp only [fe,aY]at h
     by_cases he:b[i]=k0
     ·rw [aM (by simp [he]),aY,aY]at h
      obtain⟨_,t,p1,p2,p3⟩:=NL b hb l (i+1) z _ k (by omega) h
      exact⟨rfl,.inl he,t,by rw [p1,pQ ha];simp,p2,p3⟩
     ·rw [aW (by simp [he]),aY,aY]at h
      obtain⟨p0,t,p1,p2,p3⟩:=NL b hb l (i+1) z _ k (by omega) h
      exact⟨rfl,.inr (by simpa using p0),t,by rw [p1,pQ ha];simp,p2,p3⟩
  have fin: ∀k0:Int,(x=k0∨x=0)→il b (dA b l) i out ok k0=some (k,true)→ok=true∧ ∃t:List Int,k=out++t∧t.length=(x::l).length∧ ∀(j:Nat) (x1 y z:Int),(x::l)[j]? =some x1→b[i+j]? =some y→t[j]? =some z→NX x1 y z:=by
   intro k0 hx h
   obtain⟨p0,p1,t,p2,p3,p4⟩:=key k0 h
   refine⟨p0,k0::t,p2,by simp [p3],?_⟩
   intro j x1 y z h1 h2 h3
   cases j with
   |zero=>
    simp only [Fq,Ag]at h1 h3
    rw [ym,n8 hib,Ag]at h2
    subst h1;subst h3;subst h2
    exact⟨hx,p1⟩
   |succ j=>
    rw [Nh]at h1 h3
    exact p4 j x1 y z h1 (by rw [←h2];congr 1;omega) h3
  unfold dA at h
  by_cases hx:x=0
  ·rw [aW (by simpa using hx),hi,aY]at h
   exact fin _ (.inr hx) h
  ·rw [aM (by simpa using hx)]at h
   exact fin _ (.inl rfl) h
theorem HS(hop:n.Op=1)(h:bq n a b=some (k,true)):k=n.Kinds∧0≤n.Table∧n.Table≤3:=by
 unfold bq at h
 rw [aW (by simpa using hop)]at h
 obtain⟨_,h1,h2,h3⟩:=NM n _ _ _ _ h
 exact⟨h3,h1,h2⟩
theorem NJ(hop:n.Op=2)(h:bq n a b=some (k,true)):k=a++b∧Hk n.Cond (a++b)=true:=by
 unfold bq at h
 rw [aM (by rw [hop];decide),aW (by simpa using hop)]at h
 cases h1:app ([]:List Int) a with
 |none=>rw [h1]at h;cases h
 |some l=>
  rw [h1,aY]at h
  cases h2:app l b with
  |none=>rw [h2]at h;cases h
  |some o=>
   have e1:=pQ h1
   have e2:=pQ h2
   rw [h2,aY,lG,aY]at h
   injection h with h
   injection h with h h3
   subst h
   rw [e1,kz]at e2
   rw [e2]at h3 ⊢
   exact⟨rfl,h3⟩
theorem Gu(hop:n.Op=3)(h:bq n a b=some (k,true)):k=a∧Hk n.Cond a=true:=by
 unfold bq at h
 rw [aM (by rw [hop];decide),aM (by rw [hop];decide),aW (by simpa using hop),lG,aY]at h
 injection h with h
 injection h with h h3
 exact⟨h.symm,h3⟩
theorem JJ(hs:ja n)(hop:n.Op=4)(h:bq n a b=some (k,true)):(∀c∈n.Keys,0≤c∧c<(a.length:Int))∧(∀g∈n.Aggs,(Bb g a).2=true)∧k=n.Keys.map (Ez a)++(n.Aggs.map fun g=>(Bb g a).1)∧n.Keys.length≤3:=by
 unfold bq at h
 rw [aM (by rw [hop];decide),aM (by rw [hop];decide),aM (by rw [hop];decide),aW (by simpa using hop)]at h
 have:=VY n a hs.keys hs.aggs n.Keys ge [] 0 k (by simp) h
 simpa using this
theorem Ep(hs:ja n)(hop:n.Op=5)(h:bq n a b=some (k,true)):(∀e∈n.Items,(fO e a).2=0)∧k=n.Items.map fun e=>(fO e a).1:=by
 unfold bq at h
 rw [aM (by rw [hop];decide),aM (by rw [hop];decide),aM (by rw [hop];decide),aM (by rw [hop];decide),aW (by simpa using hop)]at h
 have:=VX n a hs.items n.Items ge [] true 0 k (by simp) h
 simpa using this.2
theorem JK(hop:n.Op=6)(h:bq n a b=some (k,true)):k=a:=by
 unfold bq at h
 rw [aM (by rw [hop];decide),aM (by rw [hop];decide),aM (by rw [hop];decide),aM (by rw [hop];decide),aM (by rw [hop];decide),aW (by simpa using hop)]at h
 injection h with h
 injection h with h _
 exact h.symm
theorem QW(hal:a.length≤5000)(hop:n.Op=7)(h:bq n a b=some (k,true)):a.length=b.length∧k.length=a.length∧ ∀(j:Nat) (x y z:Int),a[j]? =some x→b[j]? =some y→k[j]? =some z→NX x y z:=by
 unfold bq at h
 rw [aM (by rw [hop];decide),aM (by rw [hop];decide),aM (by rw [hop];decide),aM (by rw [hop];decide),aM (by rw [hop];decide),aM (by rw [hop];decide),aW (by simpa using hop)]at h
 by_cases he:a.length=b.length
 ·rw [aM (by simp [he])]at h
  obtain⟨_,t,p1,p2,p3⟩:=NL b (by omega) a 0 [] true k (by omega) h
  rw [kz]at p1
  subst p1
  refine⟨he,p2,fun j x y z h1 h2 h3=>p3 j x y z h1 (by rw [uz];exact h2) h3⟩
 ·rw [aW (by simp only [qN,o0];omega)]at h
  injection h with h
  injection h with h h2
  cases h2
theorem NI(hs:ja n)(hop:n.Op=8)(h:bq n a b=some (k,true)):k=a∧ ∀o∈n.Order,0≤o.Col∧o.Col<(a.length:Int):=by
 unfold bq at h
 rw [aM (by rw [hop];decide),aM (by rw [hop];decide),aM (by rw [hop];decide),aM (by rw [hop];decide),aM (by rw [hop];decide),aM (by rw [hop];decide),aM (by rw [hop];decide)]at h
 have:=NK n a hs.order n.Order ge true 0 k (by simp) h
 exact this.2

theorem Ao{f:α→α→Int}(h:Bi f){p:List α}(hp:p.Pairwise fun a b=>f a b<0):p.Nodup:=by
 unfold List.Nodup
 refine hp.imp ?_
 intro a b hab he
 subst he
 have:=h.self a
 omega
theorem Fx [DecidableEq α]{f:α→α→Int}(h:Bi f){p q:List α}(hp:p.Pairwise fun a b=>f a b<0)(hq:q.Pairwise fun a b=>f a b<0)(hm: ∀z,z∈p↔z∈q):p=q:=by
 have hpq:p.Perm q:=(List.perm_ext_iff_of_nodup (Ao h hp) (Ao h hq)).2 hm
 exact ul h (hp.imp fun h=>by omega) (hq.imp fun h=>by omega) hpq
theorem D3{α κ:Type} [DecidableEq κ](key:α→κ)(kf:List α→κ): ∀(R:List (List α)),(∀y∈R,∀z∈y,key z=kf y)→R.Pairwise (fun a b=>kf a≠kf b)→ ∀y∈R,R.flatten.filter (fun z=>decide (key z=kf y))=y
 |[],_,_,y,hy=>by cases hy
 |x::t,h1,h2,y,hy=>by
  rw [yp]at h2
  rw [List.flatten_cons,List.filter_append]
  have ht: ∀w∈t,∀z∈w,key z=kf w:=fun w hw=>h1 w (kC _ hw)
  rcases fF.1 hy with q|q
  ·subst q
   have e1:y.filter (fun z=>decide (key z=kf y))=y:=by
    rw [List.filter_eq_self]
    intro z hz
    rw [kZ]
    exact h1 y (kE ..) z hz
   have e2:t.flatten.filter (fun z=>decide (key z=kf y))=[]:=by
    rw [List.filter_eq_nil_iff]
    intro z hz
    obtain⟨w,hw,hz⟩:=List.mem_flatten.1 hz
    rw [kZ,ht w hw z hz]
    exact fun e=>h2.1 w hw e.symm
   rw [e1,e2,su]
  ·have e1:x.filter (fun z=>decide (key z=kf y))=[]:=by
    rw [List.filter_eq_nil_iff]
    intro z hz
    rw [kZ,h1 x (kE ..) z hz]
    exact h2.1 y q
   rw [e1,kz]
   exact D3 key kf t ht h2.2 y q
def tW(c:List Int)(l:List co):List hU:=(uc (zi (l.map (gz c)))).map fun k=>⟨k,zi (l.filter fun r=>decide (gz c r=k))⟩
theorem Jk(c:List Int){l:List co}(hl:l.length≤8000):(uM (FZ c) l.length (tt (xi c) l)).map (GB c)=tW c l:=by
 have hC:=Ke c
 have hL:=vy hC l (by omega)
 have hP:=lB (xi c) l
 generalize hLe:tt (xi c) l=L at hL hP
 have hlen:L.length=l.length:=hP.length_eq
 have hflat:=Gn (FZ c) l.length L (by omega)
 have hkeys:=Gm c l.length L hL
 have hmem:=DZ (FZ c) l.length L
 generalize uM (FZ c) l.length L=R at hflat hkeys hmem
 have hkey: ∀y∈R,∀z∈y,gz c z=(GB c y).Key:=by
  intro y hy z hz
  obtain⟨x,t,e,_,h2⟩:=hmem y hy
  subst e
  show gz c z=gz c x
  rcases fF.1 hz with q|q
  ·rw [q]
  ·have:=(h2 z q).2
   unfold FZ at this
   exact(IN this).symm
 have hpw:R.Pairwise fun a b=>(GB c a).Key≠(GB c b).Key:=by
  rw [List.pairwise_map]at hkeys
  refine hkeys.imp ?_
  intro a b hab he
  rw [he,i8.self]at hab
  omega
 have hfil:=D3 (gz c) (fun y=>(GB c y).Key) R hkey hpw
 rw [hflat]at hfil
 have hrows: ∀g∈R.map (GB c),g=⟨g.Key,zi (l.filter fun r=>decide (gz c r=g.Key))⟩:=by
  intro g hg
  obtain⟨y,hy,e⟩:=uF.1 hg
  subst e
  have hf:=hfil y hy
  have e:y=zi (l.filter fun r=>decide (gz c r=(GB c y).Key)):=by
   refine ul i8 ?_ (vy i8 _ (by have:=List.length_filter_le (fun r=>decide (gz c r=(GB c y).Key)) l;omega)) ?_
   ·have hs:nZ (xi c) y:=by
     have:nZ (xi c) (L.filter fun z=>decide (gz c z=(GB c y).Key)):=List.Pairwise.filter _ hL
     rw [hf]at this
     exact this
    refine List.Pairwise.imp_of_mem ?_ hs
    intro a b ha hb hab
    unfold xi at hab
    rw [hkey y hy a ha,hkey y hy b hb,i8.self]at hab
    exact hab
   ·have hp:=(hP.filter fun z=>decide (gz c z=(GB c y).Key))
    rw [hf]at hp
    exact hp.trans (lB ek _).symm
  have hR:GB c y=⟨(GB c y).Key,y⟩:=rfl
  rw [hR]
  simp only []
  rw [←e]
 have hk:(R.map (GB c)).map (fun g=>g.Key)=uc (zi (l.map (gz c))):=by
  refine Fx i8 ?_ (Io i8 (vy i8 _ (by simp;omega))) ?_
  ·rw [List.pairwise_map];exact hkeys
  ·intro z
   rw [xQ,(lB ek _).mem_iff,List.map_map,uF,uF]
   constructor
   ·rintro⟨y,hy,e⟩
    obtain⟨x,t,e2,hx,_⟩:=hmem y hy
    exact⟨x,hP.mem_iff.1 hx,by rw [←e,e2];rfl⟩
   ·rintro⟨x,hx,e⟩
    have hx:=hP.mem_iff.2 hx
    rw [←hflat]at hx
    obtain⟨y,hy,hxy⟩:=List.mem_flatten.1 hx
    exact⟨y,hy,by rw [←e];exact(hkey y hy x hxy).symm⟩
 unfold tW
 rw [←hk,List.map_map]
 conv=>lhs;rw [←List.map_id (R.map (GB c))]
 exact IM fun g hg=>hrows g hg
theorem FE{l:List co}(h:GT l){c:List Int}(hr:p5 l=true)(hc:AF l c=true):sG l c=some (tW c l,0):=by
 have ha:vW l c=0:=by unfold vW;rw [hr,hc];rfl
 rw [FF h,aW ha,Jk c h.len]

def RK:List Int→co→Prop
 |[],[]=>True
 |k::ks,v::vs=>Pl v∧qm v k∧RK ks vs
 |[],_::_=>False
 |_::_,[]=>False
theorem RK.len: ∀{ks:List Int} {r:co},RK ks r→r.length=ks.length
 |[],[],_=>rfl
 |k::ks,v::vs,h=>by rw [iG,iG,h.2.2.len]
 |[],_::_,h=>h.elim
 |_::_,[],h=>h.elim
theorem RK.pl: ∀{ks:List Int} {r:co},RK ks r→ ∀v∈r,Pl v
 |[],[],_,v,hv=>by cases hv
 |k::ks,w::vs,h,v,hv=>by
  rcases fF.1 hv with q|q
  ·rw [q];exact h.1
  ·exact h.2.2.pl v q
 |[],_::_,h,_,_=>h.elim
 |_::_,[],h,_,_=>h.elim
theorem RK.kindR: ∀{ks:List Int} {r:co},RK ks r→kindR ks r
 |[],[],_=>fun j k h=>by simp at h
 |k::ks,v::vs,h=>fun j x hx=>by
  cases j with
  |zero=>
   simp only [Fq,Ag]at hx
   subst hx
   exact⟨v,rfl,h.1,h.2.1⟩
  |succ j=>
   rw [Nh]at hx
   exact h.2.2.kindR j x hx
 |[],_::_,h=>h.elim
 |_::_,[],h=>h.elim
theorem RK.rg(h:RK ks r):Ti r:=fun v hv=>(h.pl v hv).r64
theorem RK.right(h:RK ks r)(hk:ks.length≤16):cZ r=true:=by
 unfold cZ
 rw [lr,kZ,ju]
 exact⟨by rw [h.len];exact hk,fun v hv=>(h.pl v hv).right⟩
theorem RK.app: ∀{a b:List Int} {x y:co},RK a x→RK b y→RK (a++b) (x++y)
 |[],_,[],_,_,h=>h
 |k::ks,b,v::vs,y,h,h2=>⟨h.1,h.2.1,h.2.2.app h2⟩
 |[],_,_::_,_,h,_=>h.elim
 |_::_,_,[],_,h,_=>h.elim
theorem KL: ∀(ks:List Int),RK ks (List.replicate ks.length zV)
 |[]=>trivial
 |k::ks=>⟨.z,.inr rfl,KL ks⟩
theorem RK.map(f:α→ac)(g:α→Int): ∀(l:List α),(∀e∈l,Pl (f e)∧qm (f e) (g e))→RK (l.map g) (l.map f)
 |[],_=>trivial
 |e::t,h=>⟨(h e (kE ..)).1,(h e (kE ..)).2,RK.map f g t fun x hx=>h x (kC _ hx)⟩
theorem RK.at: ∀{ks:List Int} {r:co},RK ks r→ ∀(j:Nat),j<ks.length→Pl ((r[j]?).getD zV)∧qm ((r[j]?).getD zV) ((ks[j]?).getD 0)
 |[],[],_,j,h=>by simp at h
 |k::ks,v::vs,h,j,hj=>by
  cases j with
  |zero=>exact⟨h.1,h.2.1⟩
  |succ j=>simpa using h.2.2.at j (by simpa using hj)
 |[],_::_,h,_,_=>h.elim
 |_::_,[],h,_,_=>h.elim
theorem RK.as: ∀{a k:List Int} {r:co},RK a r→k.length=a.length→(∀(j:Nat) (x z:Int),a[j]? =some x→k[j]? =some z→x=z∨x=0)→RK k r
 |[],[],[],_,_,_=>trivial
 |x::a,z::k,v::vs,h,hl,hk=>by
  refine⟨h.1,?_,h.2.2.as (by simpa using hl) fun j x z h1 h2=>hk (j+1) x z (by simpa using h1) (by simpa using h2)⟩
  have:=hk 0 x z rfl rfl
  have h2:=h.2.1
  unfold qm at h2 ⊢
  omega
 |[],_::_,_,_,hl,_=>by simp at hl
 |_::_,[],_,_,hl,_=>by simp at hl
 |[],[],_::_,h,_,_=>h.elim
 |_::_,_::_,[],h,_,_=>h.elim
def ru(ks:List Int)(l:List co):Prop:= ∀r∈l,RK ks r
theorem ru.perm{a b:List co}(h:ru ks a)(hp:a.Perm b):ru ks b:=fun r hr=>h r (hp.mem_iff.2 hr)
theorem ru.allr{l:List co}(h:ru ks l)(hk:ks.length≤16):p5 l=true:=by
 unfold p5
 rw [ju]
 exact fun r hr=>(h r hr).right hk
theorem ru.small{l:List co}(h:ru ks l)(hk:ks.length≤16)(hl:l.length≤8000):GT l:=⟨hl,fun r hr=>by rw [(h r hr).len];omega⟩
theorem ru.rg{l:List co}(h:ru ks l):FG l:=fun r hr=>(h r hr).rg
structure PV(e:bL):Prop where
 len:e.Nodes.length≤200
 rg:Lf e.Nodes
def V9(e:bL)(r:co):ac:=(od r e.Nodes).1
def yD(e:bL)(r:co):Bool:=(od r e.Nodes).2==140
theorem Vn{e:bL}(he:PV e)(hk:(fO e ks).2=0)(hr:RK ks r):((od r e.Nodes).2=0∧yD e r=false∧Pl (V9 e r)∧qm (V9 e r) (fO e ks).1)∨(od r e.Nodes=(zV,140)∧yD e r=true∧V9 e r=zV∧e.Nodes.any Yq=true):=by
 rcases Pr e.Nodes he.len he.rg ks hk r hr.kindR hr.rg hr.len with h|h
 ·exact .inl ⟨h.1,by unfold yD;rw [h.1];rfl,h.2.1,h.2.2⟩
 ·have:od r e.Nodes=(zV,140):=by
   rcases xY (r:=r) he.rg hr.rg with q|q|q
   ·rw [q.1]at h;exact absurd h.1 (by decide)
   ·exact absurd h.1 q.2.1
   ·exact q
  exact .inr ⟨this,by unfold yD;rw [this];rfl,by unfold V9;rw [this],h.2⟩
def VP(v:ac):Bool:=v.Kind==1&&v.N==1
theorem yJ{v:ac}(h:Pl v):vu v=some (VP v):=by
 have e:oJ true=some (bV true):=rfl
 unfold vu
 rw [e,aY]
 congr 1
 cases h with
 |z=>rfl
 |b b=>cases b<;>rfl
 |i n _=>rfl
 |s s _=>rfl
def u6(e:bL)(r:co):Bool:=VP (V9 e r)
theorem xA{e:bL}(h:Hk e ks=true):(fO e ks).2=0:=by
 unfold Hk at h
 rw [lr,ss]at h
 exact h.1
theorem Kb{e:bL}(he:PV e)(hk:(fO e ks).2=0)(hr:RK ks r):pP e r=some (u6 e r,if yD e r then 140 else 0):=by
 unfold pP
 rw [vR e r (by have:=he.len;omega) he.rg hr.rg,aY]
 unfold u6
 rcases Vn he hk hr with q|q
 ·rw [show(od r e.Nodes).1=V9 e r from rfl,yJ q.2.2.1,aY,q.1,q.2.1];rfl
 ·rw [q.1,q.2.1,q.2.2.1,yJ .z];rfl
theorem BN{n:am}(he:PV n.Cond){ks:List Int}(hk:(fO n.Cond ks).2=0): ∀(l out:List co),ru ks l→out.length+l.length≤1000000→fZ n l out=some (if l.any (yD n.Cond)then([],140)else(out++l.filter (u6 n.Cond),0))
 |[],out,_,_=>by unfold fZ;simp
 |r::t,out,h,hl=>by
  rw [iG]at hl
  unfold fZ
  have hr:=h r (kE ..)
  have ht:ru ks t:=fun x hx=>h x (kC _ hx)
  rw [Kb he hk hr,aY,uG,List.filter_cons]
  by_cases hf:yD n.Cond r=true
  ·rw [hf];rfl
  ·rw [rl.2 hf]
   simp only [gh,ez,yI,rk]
   by_cases hh:u6 n.Cond r=true
   ·rw [aW hh,aW hh,cr (by simp;omega),aY,BN he hk t _ ht (by simp only [iO,yq];omega),jv,Hb]
   ·rw [aM hh,aM hh,BN he hk t _ ht (by omega)]
def Js(items:List bL)(r:co):co:=items.map fun e=>V9 e r
def H1(items:List bL)(r:co):Bool:=items.any fun e=>yD e r
theorem Nw(nx:List co→Option (List co×Int)){ks:List Int}{r:co}(hr:RK ks r)(out:List co)(ho:out.length≤1000000): ∀(items:List bL) (y:co),(∀e∈items,PV e∧(fO e ks).2=0)→y.length+items.length≤1000000→gE nx r out items y=if H1 items r then some ([],140)else nx (out++[y++Js items r])
 |[],y,_,_=>by unfold gE;rw [cr (by simp;omega)];simp [H1,Js]
 |e::t,y,h,hl=>by
  rw [iG]at hl
  unfold gE
  obtain⟨he,hk⟩:=h e (kE ..)
  have ht:=fun x hx=>h x (kC e hx)
  rw [vR e r (by have:=he.len;omega) he.rg hr.rg,aY]
  have e1:H1 (e::t) r=(yD e r||H1 t r):=rfl
  rw [e1]
  rcases Vn he hk hr with q|q
  ·rw [aM (by rw [q.1];decide),cr (by simp;omega),aY,Nw nx hr out ho t _ ht (by simp only [iO,yq];omega),q.2.1]
   simp [Js,V9]
  ·rw [q.1,q.2.1];rfl
theorem Nx{n:am}{ks:List Int}(hi: ∀e∈n.Items,PV e∧(fO e ks).2=0)(hil:n.Items.length≤100000): ∀(l out:List co),ru ks l→out.length+l.length≤1000000→fE n l out=some (if l.any (H1 n.Items)then([],140)else(out++l.map (Js n.Items),0))
 |[],out,_,_=>by unfold fE;simp
 |r::t,out,h,hl=>by
  rw [iG]at hl
  unfold fE
  have hr:=h r (kE ..)
  have ht:ru ks t:=fun x hx=>h x (kC _ hx)
  rw [Nw _ hr out (by omega) n.Items [] hi (by simp;omega),uG]
  by_cases hf:H1 n.Items r=true
  ·rw [hf];rfl
  ·rw [rl.2 hf]
   simp only [gh,ez,rk,kz]
   rw [Nx hi hil t _ ht (by simp only [iO,yq];omega)]
   simp

theorem MS{g:hY}(hg:PV g.Arg)(h:(Bb g ks).2=true)(hr:ru ks rows)(hl:rows.length≤8000):((vZ g rows).2=0∧Pl (vZ g rows).1∧qm (vZ g rows).1 (Bb g ks).1)∨(vZ g rows=(zV,140)∧Qp g=true):=by
 obtain⟨s1,s2⟩:=Dm g ks
 rw [←s1]at h
 rw [←s2 h]
 unfold OJ at h ⊢
 unfold vZ
 have hi: ∀n:Nat,n≤8000→Pl (iV (n:Int))∧qm (iV (n:Int)) 2:=fun n hn=>⟨.i _ (by unfold r64;omega),.inl rfl⟩
 by_cases h1:g.Tag=1
 ·rw [aW h1,aW h1]
  exact .inl ⟨rfl,hi _ hl⟩
 ·rw [aM h1]at h ⊢
  rw [aM h1]
  have hk:(fO g.Arg ks).2=0:=by
   by_cases h2:g.Tag=2
   ·rw [aW h2]at h;simpa using h
   ·rw [aM h2]at h
    by_cases h3:g.Tag=3
    ·rw [aW h3]at h;simp only [lr,ss]at h;exact h.1
    ·rw [aM h3]at h
     by_cases h4:g.Tag=4∨g.Tag=5
     ·rw [aW h4]at h;simpa using h
     ·rw [aM h4]at h;cases h
  have hb:C2 g.Arg.Nodes rows=false:=by
   unfold C2
   rw [IK]
   intro r hm
   rcases Vn hg hk (hr r hm)with q|q
   ·rw [q.1];decide
   ·rw [q.1];decide
  have hvs: ∀v∈AY g.Arg.Nodes rows,Pl v∧v.Kind=(fO g.Arg ks).1:=by
   intro v hv
   refine⟨Im hg.rg hr.rg v hv,?_⟩
   unfold AY at hv
   obtain⟨r,hm,he⟩:=List.mem_filterMap.1 hv
   split at he
   ·rename_i hc
    injection he with he
    rcases Vn hg hk (hr r hm)with q|q
    ·rw [←he]
     exact q.2.2.2.resolve_right hc.2
    ·rw [q.1]at hc;exact absurd hc.1 (by decide)
   ·cases he
  have hlen:=On g.Arg.Nodes rows
  have ho:ro g.Tag (AY g.Arg.Nodes rows)=false:=by
   unfold ro
   by_cases h3:g.Tag=3
   ·rw [aM (by omega),aW h3]at h
    simp only [lr,ss,pi]at h
    rw [h3]
    simp only [Du,uA]
    rw [IK]
    intro v hv
    have hkv:=(hvs v hv).2
    have hne:v.Kind≠0:=by
     unfold AY at hv
     obtain⟨r,hm,he⟩:=List.mem_filterMap.1 hv
     split at he
     ·rename_i hc;injection he with he;rw [←he];exact hc.2
     ·cases he
    simp only [qN,o0,Classical.not_not]
    omega
   ·have:(g.Tag==3)=false:=by simpa using h3
    rw [this];rfl
  rw [hb,ho]
  simp only [Bool.or_self,gh,ez]
  by_cases hf:CY g.Arg.Nodes rows=true
  ·rw [aW hf]
   refine .inr ⟨rfl,?_⟩
   unfold Qp
   split
   ·rfl
   ·unfold CY at hf
    obtain⟨r,hm,hq⟩:=uh.1 hf
    rcases Vn hg hk (hr r hm)with q|q
    ·rw [q.1]at hq;cases hq
    ·unfold I3
     rw [q.2.2.2,yH]
     cases hn:g.Arg.Nodes with
     |nil=>have:=q.2.2.2;rw [hn]at this;cases this
     |cons x t=>rfl
  ·rw [aM hf]
   unfold Rt
   rw [aM (by decide)]
   by_cases h2:g.Tag=2
   ·rw [aW h2,aW h2]
    exact .inl ⟨rfl,hi _ (by omega)⟩
   ·rw [aM h2,aM h2]
    by_cases h3:g.Tag=3
    ·rw [aW h3,aW h3]
     unfold Qy
     split
     ·exact .inl ⟨rfl,.z,.inr rfl⟩
     ·by_cases hs:r64 (qc (AY g.Arg.Nodes rows))
      ·rw [aW hs];exact .inl ⟨rfl,.i _ hs,.inl rfl⟩
      ·rw [aM hs];exact .inr ⟨rfl,by unfold Qp;rw [aW h3]⟩
    ·rw [aM h3,aM h3]
     have h45:g.Tag=4∨g.Tag=5:=by
      rw [aM h2,aM h3]at h
      by_cases h4:g.Tag=4∨g.Tag=5
      ·exact h4
      ·rw [aM h4]at h;cases h
     rw [aW h45]
     refine .inl ⟨rfl,?_⟩
     by_cases hz:AY g.Arg.Nodes rows=[]
     ·rw [hz];exact⟨.z,.inr rfl⟩
     ·have:=hvs _ (Sq g.Tag _ hz)
      exact⟨this.1,.inl this.2⟩
def Tg(aggs:List hY)(g:hU):co:=g.Key++aggs.map fun a=>(vZ a g.Rows).1
def H2(aggs:List hY)(g:hU):Bool:=aggs.any fun a=>(vZ a g.Rows).2==140
def GOK(aggs:List hY)(g:hU):Prop:= ∀a∈aggs,lT a g.Rows=some (vZ a g.Rows)∧rm a g.Rows=some (vZ a g.Rows)∧((vZ a g.Rows).2=0∨vZ a g.Rows=(zV,140))
theorem Ri(nx:List co→Option (List co×Int))(g:hU)(out:List co)(ho:out.length≤1000000): ∀(aggs:List hY) (x:co),GOK aggs g→x.length+aggs.length≤1000000→iC nx g out aggs x=if H2 aggs g then some ([],140)else nx (out++[x++aggs.map fun a=>(vZ a g.Rows).1])
 |[],x,_,_=>by unfold iC;rw [cr (by simp;omega)];simp [H2]
 |a::t,x,h,hl=>by
  rw [iG]at hl
  unfold iC
  obtain⟨h1,_,h3⟩:=h a (kE ..)
  have ht:GOK t g:=fun x hx=>h x (kC a hx)
  have e1:H2 (a::t) g=((vZ a g.Rows).2==140||H2 t g):=rfl
  rw [h1,aY,e1]
  rcases h3 with q|q
  ·rw [aM (by rw [q];decide),cr (by simp;omega),aY,Ri nx g out ho t _ ht (by simp only [iO,yq];omega),q]
   simp
  ·rw [q];rfl
theorem PW(r:co)(h:r.length≤1000):cz r=some r:=B9 r (by omega)
theorem Rj{n:am}(ha:n.Aggs.length≤100000): ∀(gs:List hU) (out:List co),(∀g∈gs,GOK n.Aggs g∧g.Key.length≤1000)→out.length+gs.length≤1000000→fC n gs out=some (if gs.any (H2 n.Aggs)then([],140)else(out++gs.map (Tg n.Aggs),0))
 |[],out,_,_=>by unfold fC;simp
 |g::t,out,h,hl=>by
  rw [iG]at hl
  unfold fC
  obtain⟨h1,h2⟩:=h g (kE ..)
  have ht:=fun x hx=>h x (kC g hx)
  rw [PW _ h2,aY,Ri _ g out (by omega) n.Aggs g.Key h1 (by omega),uG]
  by_cases hf:H2 n.Aggs g=true
  ·rw [hf];rfl
  ·rw [rl.2 hf]
   simp only [gh,ez,rk]
   rw [Rj ha t _ ht (by simp only [iO,yq];omega)]
   simp [Tg]
theorem I7{r:co}: ∀{c:List Int} (out:co),(∀e∈c,0≤e∧e<(r.length:Int))→out.length+c.length≤1000→lY r c out=some (out++c.map (atR r))
 |[],out,_,_=>by unfold lY;simp
 |e::t,out,h,hl=>by
  rw [iG]at hl
  unfold lY
  have he:=h e (kE ..)
  rw [AK he.1 he.2,aY,cr (by simp;omega),aY,I7 _ (fun x hx=>h x (kC _ hx)) (by simp only [iO,yq];omega)]
  simp
theorem Qw{c:List Int}(h:nD r c=true):gz c r=c.map (atR r):=by
 unfold nD at h
 rw [lr,kZ,ju]at h
 have:nr r c=some ([]++c.map (atR r)):=I7 [] (fun e he=>by have:=h.2 e he;simpa using this) (by simp;omega)
 unfold gz
 rw [this];rfl
theorem RK.key(h:RK ks r): ∀c:List Int,(∀e∈c,0≤e∧e<(ks.length:Int))→RK (c.map (Ez ks)) (c.map (atR r)):=fun c hc=>
 RK.map (atR r) (Ez ks) c fun e he=>by
  obtain⟨h1,h2⟩:=hc e he
  exact h.at e.toNat (by omega)
def gP(c:List Int)(l:List co):List hU:=if c=[]∧tW c l=[]then [⟨[],[]⟩]else tW c l
structure KU(n:am)(ks:List Int):Prop where
 cols: ∀c∈n.Keys,0≤c∧c<(ks.length:Int)
 ags: ∀g∈n.Aggs,PV g.Arg∧(Bb g ks).2=true
 len:ks.length≤16
 keys:n.Keys.length≤16
 naggs:n.Aggs.length≤5000
theorem NF(h:KU n ks){l:List co}(hr:ru ks l):AF l n.Keys=true:=by
 unfold AF
 simp only [lr,kZ,ju]
 refine⟨⟨h.keys,fun e he=>(h.cols e he).1⟩,fun r hm=>?_⟩
 unfold nD
 simp only [lr,kZ,ju]
 refine⟨h.keys,fun e he=>?_⟩
 have:=(hr r hm).len
 have:=h.cols e he
 omega
theorem W0{g:hY}(h:(Bb g ks).2=true):g.Tag=1∨g.Tag=2∨g.Tag=3∨g.Tag=4∨g.Tag=5:=by
 rw [←(Dm g ks).1]at h
 unfold OJ at h
 by_cases h1:g.Tag=1
 ·exact .inl h1
 ·by_cases h2:g.Tag=2
  ·exact .inr (.inl h2)
  ·by_cases h3:g.Tag=3
   ·exact .inr (.inr (.inl h3))
   ·by_cases h4:g.Tag=4∨g.Tag=5
    ·exact .inr (.inr (.inr h4))
    ·rw [aM h1,aM h2,aM h3,aM h4]at h;cases h
theorem Yu(h:KU n ks){key:co}(hr:ru ks rows)(hl:rows.length≤8000):GOK n.Aggs ⟨key,rows⟩:=by
 intro a ha
 obtain⟨h1,h2⟩:=h.ags a ha
 refine⟨yE a (by have:=h1.len;omega) h1.rg (W0 h2) hr.rg (by show rows.length≤90000;omega),zt a h1.rg hr.rg (by show rows.length≤90000;omega),?_⟩
 rcases MS h1 h2 hr hl with q|q
 ·exact .inl q.1
 ·exact .inr q.1
theorem Xb(h:KU n ks){key:co}(hr:ru ks rows)(hl:rows.length≤8000)(hk:RK (n.Keys.map (Ez ks)) key):RK (n.Keys.map (Ez ks)++n.Aggs.map fun g=>(Bb g ks).1) (Tg n.Aggs ⟨key,rows⟩):=by
 refine hk.app (RK.map _ _ _ fun a ha=>?_)
 obtain⟨h1,h2⟩:=h.ags a ha
 rcases MS h1 h2 hr hl with q|q
 ·exact q.2
 ·show Pl (vZ a rows).1∧qm (vZ a rows).1 _
  rw [q.1];exact⟨.z,.inr rfl⟩
theorem EC(h:KU n ks){l:List co}(hr:ru ks l)(hl:l.length≤8000): ∀g∈gP n.Keys l,∃key rows,g=⟨key,rows⟩∧ru ks rows∧rows.length≤8000∧RK (n.Keys.map (Ez ks)) key:=by
 intro g hg
 unfold gP at hg
 split at hg
 ·rename_i hc
  have hc1:=hc.1
  simp only [CO]at hg
  subst hg
  refine⟨[],[],rfl,(fun r hr=>by cases hr),by simp,?_⟩
  rw [hc1];trivial
 ·unfold tW at hg
  obtain⟨k,hk,e⟩:=uF.1 hg
  subst e
  refine⟨_,_,rfl,?_,?_,?_⟩
  ·intro r hm
   rw [(lB ek _).mem_iff]at hm
   exact hr r (F1.1 hm).1
  ·rw [xC]
   have:=List.length_filter_le (fun r=>decide (gz n.Keys r=k)) l
   omega
  ·rw [xQ,(lB ek _).mem_iff]at hk
   obtain⟨r,hm,e⟩:=uF.1 hk
   have hoc:=xP (NF h hr) hm
   rw [←e,Qw hoc]
   exact(hr r hm).key n.Keys h.cols
theorem Rn(c:List Int)(l:List co)(hl:l.length≤8000):(gP c l).length≤8000:=by
 unfold gP
 split
 ·simp
 ·unfold tW
  rw [Cd]
  have:=PI (zi (l.map (gz c)))
  rw [xC,Cd]at this
  omega
def xh(n:am)(l:List co):List co×Int:=if(gP n.Keys l).any (H2 n.Aggs)then([],140)else((gP n.Keys l).map (Tg n.Aggs),0)
theorem Rk(h:KU n ks){l:List co}(hr:ru ks l)(hl:l.length≤8000)(ob:cX)(hA:cE ob.rows n.A=some l):i7 ob n=some (xh n l):=by
 unfold i7
 rw [hA,aY,FE (hr.small h.len hl) (hr.allr h.len) (NF h hr),aY]
 rw [aM (by show¬((0:Int) !=0)=true;decide)]
 have hgs: ∀g∈gP n.Keys l,GOK n.Aggs g∧g.Key.length≤1000:=by
  intro g hg
  obtain⟨key,rows,e,p1,p2,p3⟩:=EC h hr hl g hg
  subst e
  refine⟨Yu h p1 p2,?_⟩
  have:=p3.len
  have hk:=h.keys
  rw [Cd]at this
  show key.length≤1000
  omega
 have main:fC n (gP n.Keys l) []=some (xh n l):=by
  rw [Rj (by have:=h.naggs;omega) _ [] hgs (by have:=Rn n.Keys l hl;simp only [ph];omega)]
  rfl
 rw [←main]
 unfold lw gP
 by_cases hc:n.Keys=[]∧tW n.Keys l=[]
 ·rw [aW (by rw [hc.2,hc.1];rfl),aW hc]
 ·rw [aM,aM hc]
  intro hh
  simp only [lr,ss]at hh
  exact hc ⟨tz (by omega),tz (by omega)⟩
theorem Rl(h:KU n ks){l:List co}(hr:ru ks l)(hl:l.length≤8000):ru (n.Keys.map (Ez ks)++n.Aggs.map fun g=>(Bb g ks).1) (xh n l).1∧(xh n l).1.length≤8000∧((xh n l).2=0∨xh n l=([],140)∧n.Aggs.any Qp=true):=by
 unfold xh
 by_cases hf:(gP n.Keys l).any (H2 n.Aggs)=true
 ·rw [aW hf]
  refine⟨(fun r hr=>by cases hr),by simp,.inr ⟨rfl,?_⟩⟩
  obtain⟨g,hg,hfg⟩:=uh.1 hf
  obtain⟨key,rows,e,p1,p2,p3⟩:=EC h hr hl g hg
  subst e
  unfold H2 at hfg
  obtain⟨a,ha,hq⟩:=uh.1 hfg
  obtain⟨h1,h2⟩:=h.ags a ha
  rcases MS h1 h2 p1 p2 with q|q
  ·rw [q.1]at hq;cases hq
  ·exact uh.2 ⟨a,ha,q.2⟩
 ·rw [aM hf]
  refine⟨?_,by rw [Cd];exact Rn _ _ hl,.inl rfl⟩
  intro r hm
  obtain⟨g,hg,e⟩:=uF.1 hm
  obtain⟨key,rows,e2,p1,p2,p3⟩:=EC h hr hl g hg
  subst e2
  rw [←e]
  exact Xb h p1 p2 p3
end Go.Proofs.YtfhhakidodmdfaaGreatDoor

