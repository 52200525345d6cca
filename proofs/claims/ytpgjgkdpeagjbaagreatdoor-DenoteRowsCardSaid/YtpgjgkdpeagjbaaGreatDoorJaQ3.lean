/- eJ of this claim: L4, J4, L5, L6, L7, L8, L9, L10, L11, L12, L13, L14, J5, J6, J7. -/
import Derived.Test.YtpgjgkdpeagjbaaGreatDoorJaQ2
import Derived.Test.YtpgjgkdpeagjbaaGreatDoorJaQ1
set_option linter.all false
namespace Go.Proofs.YtpgjgkdpeagjbaaGreatDoor
open Go

variable{i:Nat}{α:Type}{xs:List α}
def kU{tl:List α}{y:α}(h:xs.drop i=y::tl):di xs (i:Int)=some y/\i<xs.length/\xs.drop (i+1)=tl:=by
 have hi:i<xs.length:=by
  rcases uy i xs.length with I|I
  ·exact I
  ·rw [Ae I]at h;cases h
 rw [uA hi]at h
 injection h with I K
 exact⟨by rw [cO,p5 hi,I],hi,K⟩
def rq(h:xs.drop i=[]):xs.length<=i:=Jc.1 h
variable{e:cy}{j:Nat}{l:cC}
def yD{f:jG->Option Bool}{g:jG->Bool}(hf: ∀v,f v=some (g v)): ∀(l:List jG) (i:Nat),∃j:Int,fg f l i=some j/\decide (0<=j)=l.any g
 |[],i=>⟨-1,rfl,rfl⟩
 |e::l,i=>by
  unfold fg
  rw [hf,bt]
  cases h:g e with
  |true=>exact⟨(i:Int),by simp,by simp [h]⟩
  |false=>
   obtain⟨j,I,K⟩:=yD hf l (i+1)
   exact⟨j,by simpa using I,by rw [K];simp [h]⟩
def BY{f:jG->Option Bool}{g:jG->Bool}(hf: ∀v,f v=some (g v))(l:List jG):gr l f=some (l.any g):=by
 unfold gr jK
 obtain⟨j,I,K⟩:=yD hf l 0
 rw [I,bt,K]
def vJ(l:List Int)(h:l.length<=68719476736):dw l=some l:=by
 unfold dw
 rw [cA (by simpa using h)];rfl
variable{n:aq}
def WQ(n:Int)(h0:0<=n)(h:n<=68719476736):nF n=some []:=by
 unfold nF oD
 rw [aS (by simp;omega)]
 have e:IntKind.i64.wrap (n-IntKind.i64.wrap ((0:Int)-0))=n:=by
  rw [dm (n:=(0:Int)-0) (by omega) (by omega),dm (by omega) (by omega)];omega
 rw [e]
 by_cases hp:0<n
 ·rw [br (by simpa using hp)]
  unfold gt0 qe
  rw [br hp]
  simp only [bt]
  rw [br ⟨h0,h⟩]
  simp only [bt]
  rw [show eS (List.replicate n.toNat (0:Int)) 0 0=some []from by unfold eS;rw [br (by simp;omega)];simp]
  rfl
 ·rw [aS (by simpa using hp)];rfl
variable{a b:List Int}
def Pv(a b:List Int)(ha:a.length<=8000)(M:b.length<=8000):ky [a,b]=some (a++b):=by
 unfold ky
 simp only [kR]
 rw [dm (n:=(0:Int)+(a.length:Int)) (by omega) (by omega),aS (by simp),dm (by omega) (by omega),aS (by simp;omega),WQ _ (by omega) (by omega)]
 simp only [bt,kQ]
 rw [cA (by simp;omega)]
 simp only [bt,lU]
 rw [cA (by omega)]
 rfl
structure kO(n:aq):Prop where
 cond:n.Cond.Nodes.length<=5000
 kinds:n.Kinds.length<=5000
 keys:n.Keys.length<=5000
 aggs:n.Aggs.length<=5000
 items:n.Items.length<=5000
 order:n.Order.length<=5000
 args: ∀g∈n.Aggs,g.Arg.Nodes.length<=5000
 exprs: ∀e∈n.Items,e.Nodes.length<=5000
def Ll(e:cy)(kinds:List Int):Bool:=(gh e kinds).2==0&&((gh e kinds).1==1||(gh e kinds).1==0)
def AN(e:cy)(kinds:List Int)(h:e.Nodes.length<=5000):uN e kinds=some (Ll e kinds):=by
 unfold uN
 rw [zq e kinds (by omega)]
 rfl
def nQ(e:cy)(kinds:List Int):uJ e kinds=some (Ll e kinds):=by
 unfold uJ Ll
 rw [nk e kinds]
 simp only [bt,Bool.or_comm]
def S5(a:jt)(kinds:List Int):Int×Bool:=
 if a.Tag=1 then(2,a.Arg.Nodes.length==0)else if a.Tag=2 then(2,(gh a.Arg kinds).2==0)else if a.Tag=3 then(2,(gh a.Arg kinds).2==0&&((gh a.Arg kinds).1==2||(gh a.Arg kinds).1==0))else if a.Tag=4\/a.Tag=5 then((gh a.Arg kinds).1,(gh a.Arg kinds).2==0)else(0,false)
def RO(n:Nat):((n:Int)==0)=(n==0):=by rw [De];simp
def Mb(a:jt)(kinds:List Int)(h:a.Arg.Nodes.length<=5000):Bn a kinds=some (S5 a kinds):=by
 unfold Bn S5 vD
 by_cases I:a.Tag=1
 ·rw [br (by simp [I]),br I,RO]
 rw [aS (by simpa using I),aS I,zq _ _ (by omega)]
 simp only [bt]
 by_cases K:a.Tag=2
 ·rw [br (by simp [K]),br K]
 rw [aS (by simpa using K),aS K]
 by_cases h3:a.Tag=3
 ·rw [br (by simp [h3]),br h3]
 rw [aS (by simpa using h3),aS h3]
 by_cases h4:a.Tag=4
 ·rw [br (by simp [h4]),br (by simp [h4]),br (.inl h4)]
 rw [aS (by simpa using h4)]
 by_cases h5:a.Tag=5
 ·rw [br (by simp [h5]),br (.inr h5)]
 rw [aS (by simpa using h5),aS (by omega)]
def Et(a:jt)(kinds:List Int):Int×Bool:=(lw a kinds).getD (0,false)
def rU(a:jt)(kinds:List Int):lw a kinds=some (Et a kinds):=by
 unfold Et lw
 rw [nk]
 simp only [bt]
 repeat' split
 all_goals rfl
def GN(a:jt)(kinds:List Int):(S5 a kinds).2=(Et a kinds).2/\((S5 a kinds).2=true->(S5 a kinds).1=(Et a kinds).1):=by
 unfold Et lw S5
 rw [nk]
 simp only [bt]
 by_cases I:a.Tag=1
 ·simp [I,RO]
 by_cases K:a.Tag=2
 ·by_cases he:(gh a.Arg kinds).2=0<;>simp [K,he]
 by_cases h3:a.Tag=3
 ·by_cases he:(gh a.Arg kinds).2=0
  ·by_cases h0:(gh a.Arg kinds).1=0
   ·simp [h3,he,h0]
   ·by_cases h02:(gh a.Arg kinds).1=2<;>simp [h3,he,h0,h02]
  ·simp [h3,he]
 by_cases h4:a.Tag=4
 ·by_cases he:(gh a.Arg kinds).2=0<;>simp [h4,he]
 by_cases h5:a.Tag=5
 ·by_cases he:(gh a.Arg kinds).2=0<;>simp [h5,he]
 have:a.Tag<1\/5<a.Tag:=by omega
 simp [I,K,h3,h4,h5,this]
def Ew(p:Option (List Int×Bool))(q:Option (List Int×Bool))(last:Bool):Prop:=
 ∃k o k',p=some (k,o&&last)/\q=some (k',o)/\(o=true->k=k')
variable{c k:List Int}{x:Int}
def Ka(c:aX)(n:aq)(a b:List Int)(hn:kO n)(hop:n.Op=1):Ew (iv c n) (bX n a b) true:=by
 have h:=hn.kinds
 have key: ∀(tl:List Int) (i:Nat) (fu:Nat) (ok:Bool),n.Kinds.drop i=tl->tl.length<fu->ez n fu ok (i:Int)=some (n.Kinds,((((ok&&tl.all fun k=>decide (1<=k)&&decide (k<=3))&&(decide ((0:Int)<=n.Table)))&&(decide (n.Table<=(3:Int))))&&(decide ((1:Int)<=(n.Kinds.length:Int))))&&(decide ((n.Kinds.length:Int)<=(4:Int)))):=by
  intro tl
  induction tl with
  |nil=>
   intro i fu ok hd hf
   obtain⟨fu,rfl⟩: ∃k,fu=k+1:=⟨fu-1,by omega⟩
   have:=rq hd
   rw [ez,aS (by simp;omega)]
   simp
  |cons x tl ih=>
   intro i fu ok hd hf
   simp only [io]at hf
   obtain⟨fu,rfl⟩: ∃k,fu=k+1:=⟨fu-1,by omega⟩
   obtain⟨I,K,h3⟩:=kU hd
   rw [ez,br (by simp;omega),I,dm (by omega) (by omega)]
   simp only [bt]
   have e:((i:Int)+1)=((i+1:Nat):Int):=by omega
   rw [e]
   have e2:((if ok=true then some (decide ((1:Int)<=x))else some false).bind fun t=>(if t=true then some (decide (x<=(3:Int)))else some false).bind fun t1=>ez n fu t1 ((i+1:Nat):Int))=ez n fu (ok&&(decide (1<=x)&&decide (x<=3))) ((i+1:Nat):Int):=by
    cases ok<;>by_cases V:(1:Int)<=x<;>simp [V]
   rw [e2,ih (i+1) fu _ h3 (by omega)]
   simp only [BE,JE]
 have hr:bX n a b=ez n fm true (0:Int):=by unfold bX;rw [br (by simp [hop])]
 rw [hr,show((0:Int))=((0:Nat):Int)from rfl,key n.Kinds 0 fm true rfl (Ad (Ah _) (ku (by omega)))]
 unfold iv
 have hc:dD n.Kinds k6=some (n.Kinds.any fun k=> !(((k==(1:Int))||(k==(2:Int)))||(k==(3:Int)))):=lR (fun v=>rfl) _
 rw [hc]
 simp only [bt]
 have e3:(!(n.Kinds.any fun k=> !(((k==(1:Int))||(k==(2:Int)))||(k==(3:Int)))))=n.Kinds.all fun k=>decide (1<=k)&&decide (k<=3):=by
  rw [List.not_any_eq_all_not]
  congr 1
  funext k
  rw [Bool.not_not,De]
  simp;omega
 rw [e3]
 refine⟨n.Kinds,_,n.Kinds,?_,rfl,fun _=>rfl⟩
 cases h4:(n.Kinds.all fun k=>decide (1<=k)&&decide (k<=3))<;>by_cases t1:0<=n.Table<;>by_cases t2:n.Table<4<;>by_cases l1:(1:Int)<=(n.Kinds.length:Int)<;>by_cases l2:(n.Kinds.length:Int)<=4<;>simp [t1,t2,l1,l2]<;>omega
def TT(c:aX)(n:aq)(a b:List Int)(hn:kO n)(hop:n.Op=2)(ha:di c.kinds n.A=some a)(M:di c.kinds n.B=some b)(hal:a.length<=16)(hbl:b.length<=16):Ew (jn c n) (bX n a b) true:=by
 unfold jn bX
 rw [ha,M,aS (by simp [hop]),br (by simp [hop])]
 simp only [bt]
 rw [Pv _ _ (by omega) (by omega),cA (by simp;omega)]
 simp only [bt,lU]
 rw [cA (by omega)]
 simp only [bt]
 rw [AN _ _ hn.cond,nQ]
 exact⟨_,Ll n.Cond (a++b),_,by simp,rfl,fun _=>rfl⟩
def OV(c:aX)(n:aq)(a b:List Int)(hn:kO n)(hop:n.Op=3)(ha:di c.kinds n.A=some a):Ew (iw c n) (bX n a b) true:=by
 unfold iw bX
 rw [ha,aS (by simp [hop]),aS (by simp [hop]),br (by simp [hop])]
 simp only [bt]
 rw [AN _ _ hn.cond,nQ]
 exact⟨_,Ll n.Cond a,_,by simp,rfl,fun _=>rfl⟩
def JA(c:aX)(n:aq)(a b:List Int)(hop:n.Op=6)(ha:di c.kinds n.A=some a):Ew (gI c n) (bX n a b) true:=by
 unfold gI bX
 rw [ha,aS (by simp [hop]),aS (by simp [hop]),aS (by simp [hop]),aS (by simp [hop]),aS (by simp [hop]),br (by simp [hop])]
 exact⟨_,true,_,rfl,rfl,fun _=>rfl⟩
def LF(c:aX)(n:aq)(a b:List Int)(hn:kO n)(hop:n.Op=5)(ha:di c.kinds n.A=some a):Ew (hY c n) (bX n a b) true:=by
 have h:=hn.items
 have hr:bX n a b=eT n a fm [] true (0:Int):=by unfold bX;rw [aS (by simp [hop]),aS (by simp [hop]),aS (by simp [hop]),aS (by simp [hop]),br (by simp [hop])]
 have key: ∀(tl:List cy) (i:Nat) (fu:Nat) (out:List Int) (ok:Bool),n.Items.drop i=tl->i+tl.length=n.Items.length->tl.length<fu->out.length=i->eT n a fu out ok (i:Int)=some (out++tl.map (fun e=>(gh e a).1),((ok&&tl.all fun e=>(gh e a).2==0)&&(decide ((1:Int)<=(n.Items.length:Int))))&&(decide ((n.Items.length:Int)<=(16:Int)))):=by
  intro tl
  induction tl with
  |nil=>
   intro i fu out ok hd hi hf ho
   obtain⟨fu,rfl⟩: ∃k,fu=k+1:=⟨fu-1,by omega⟩
   simp only [oo,vg]at hi
   rw [eT,aS (by simp;omega)]
   simp [ho,hi]
  |cons x tl ih=>
   intro i fu out ok hd hi hf ho
   simp only [io]at hf hi
   obtain⟨fu,rfl⟩: ∃k,fu=k+1:=⟨fu-1,by omega⟩
   obtain⟨I,K,h3⟩:=kU hd
   rw [eT,br (by simp;omega),I]
   simp only [bt]
   rw [nk]
   simp only [bt]
   rw [cA (by simp;omega),dm (by omega) (by omega)]
   simp only [bt]
   have e:((i:Int)+1)=((i+1:Nat):Int):=by omega
   rw [e,ih (i+1) fu _ _ h3 (by omega) (by omega) (by simp [ho])]
   simp [JE]
 rw [hr,show((0:Int))=((0:Nat):Int)from rfl,key n.Items 0 fm [] true rfl (by simp) (Ad (Ah _) (ku (by omega))) rfl]
 unfold hY
 have key2: ∀(tl:List cy) (out:List Int) (ok:Bool),(∀e∈tl,e.Nodes.length<=5000)->out.length+tl.length<=5000->gZ c n tl out ok=some (out++tl.map (fun e=>(gh e a).1),ok&&tl.all fun e=>(gh e a).2==0):=by
  intro tl
  induction tl with
  |nil=>intro out ok _ _;simp [gZ]
  |cons x tl ih=>
   intro out ok he hl
   simp only [io]at hl
   rw [gZ,ha]
   simp only [bt]
   rw [zq _ _ (by have:=he x (mp ..);omega)]
   simp only [bt]
   rw [cA (by simp;omega)]
   simp only [bt]
   rw [ih _ _ (fun e h=>he e (lT _ h)) (by simp;omega)]
   simp [JE]
 rw [key2 n.Items [] _ hn.exprs (by simp;omega)]
 refine⟨_,_,_,?_,rfl,fun _=>rfl⟩
 simp only [B2,xr]
 congr 2
 cases (n.Items.all fun e=>(gh e a).2==0)<;>simp
def kAt(a:List Int)(e:Int):Int:=(a[e.toNat]?).getD 0
def LL(a:List Int)(e:Int):Bool:=decide (e<0)||decide ((a.length:Int)<=e)
def Vz{e:Int}(h:LL a e=false):di a e=some (kAt a e):=by
 simp [LL]at h
 rw [iX e.toNat (by omega),p5 (by omega)]
 unfold kAt
 rw [p5 (by omega)];rfl
def QD(c:aX)(n:aq)(a b:List Int)(hn:kO n)(hop:n.Op=4)(ha:di c.kinds n.A=some a):Ew (iW c n) (bX n a b) true:=by
 have hK:=hn.keys
 have hA:=hn.aggs
 have hr:bX n a b=eV n a fm [] (0:Int):=by unfold bX;rw [aS (by simp [hop]),aS (by simp [hop]),aS (by simp [hop]),br (by simp [hop])]
 have key3: ∀(tl:List jt) (i:Nat) (fu:Nat) (out:List Int) (ok:Bool),n.Aggs.drop i=tl->i+tl.length=n.Aggs.length->tl.length<fu->out.length<=5000+i->eU n a fu out ok (i:Int)=some (out++tl.map (fun e=>(Et e a).1),(((ok&&tl.all fun e=>(Et e a).2)&&(decide ((n.Keys.length:Int)<=(3:Int))))&&(decide ((n.Aggs.length:Int)<=(12:Int))))&&(decide ((0:Int)<((out.length+tl.length:Nat):Int)))):=by
  intro tl
  induction tl with
  |nil=>
   intro i fu out ok hd hi hf ho
   obtain⟨fu,rfl⟩: ∃k,fu=k+1:=⟨fu-1,by omega⟩
   simp only [oo,vg]at hi
   rw [eU,aS (by simp;omega)]
   simp
  |cons x tl ih=>
   intro i fu out ok hd hi hf ho
   simp only [io]at hf hi
   obtain⟨fu,rfl⟩: ∃k,fu=k+1:=⟨fu-1,by omega⟩
   obtain⟨I,K,h3⟩:=kU hd
   rw [eU,br (by simp;omega),I]
   simp only [bt]
   rw [rU]
   simp only [bt]
   rw [cA (by simp;omega),dm (by omega) (by omega)]
   simp only [bt]
   have e:((i:Int)+1)=((i+1:Nat):Int):=by omega
   rw [e,ih (i+1) fu _ _ h3 (by omega) (by omega) (by simp;omega)]
   simp only [xU,BE,JE,ji,ju,io,oo,Ac,lU]
   rw [show out.length+(0+1)+tl.length=out.length+(tl.length+1)from by omega]
 have key2: ∀(tl:List Int) (i:Nat) (fu:Nat) (out:List Int),n.Keys.drop i=tl->i+tl.length=n.Keys.length->tl.length<fu->out.length=i->eV n a fu out (i:Int)=if tl.any (LL a)then some ([],false)else eU n a fm (out++tl.map (kAt a)) true 0:=by
  intro tl
  induction tl with
  |nil=>
   intro i fu out hd hi hf ho
   obtain⟨fu,rfl⟩: ∃k,fu=k+1:=⟨fu-1,by omega⟩
   simp only [oo,vg]at hi
   rw [eV,aS (by simp;omega)]
   simp
  |cons x tl ih=>
   intro i fu out hd hi hf ho
   simp only [io]at hf hi
   obtain⟨fu,rfl⟩: ∃k,fu=k+1:=⟨fu-1,by omega⟩
   obtain⟨I,K,h3⟩:=kU hd
   rw [eV,br (by simp;omega),I]
   simp only [bt]
   cases V:LL a x with
   |true=>
    have hx' :(decide (x<0)||decide ((a.length:Int)<=x))=true:=V
    rw [br hx',br (by simp [V])]
   |false=>
    have hx' : ¬(decide (x<0)||decide ((a.length:Int)<=x))=true:=by rw [show(decide (x<0)||decide ((a.length:Int)<=x))=LL a x from rfl,V];decide
    rw [aS hx',Vz V]
    simp only [bt]
    rw [cA (by simp;omega),dm (by omega) (by omega)]
    simp only [bt]
    have e:((i:Int)+1)=((i+1:Nat):Int):=by omega
    rw [e,ih (i+1) fu _ h3 (by omega) (by omega) (by simp [ho])]
    simp [V]
 rw [hr,show((0:Int))=((0:Nat):Int)from rfl,key2 n.Keys 0 fm [] rfl (by simp) (Ad (Ah _) (ku (by omega))) rfl]
 rw [show((0:Int))=((0:Nat):Int)from rfl,key3 n.Aggs 0 fm _ true rfl (by simp) (Ad (Ah _) (ku (by omega))) (by simp;omega)]
 unfold iW
 rw [ha,dm (by omega) (by omega)]
 simp only [bt]
 have hp:vB n.Keys a=some (!(n.Keys.any (LL a))):=by
  unfold vB
  rw [lR (f:=s4 a) (g:=LL a) (fun v=>rfl)]
  rfl
 rw [hp]
 simp only [bt,lU,B3]
 have kl: ∀(tl:List jt) (out:List Int) (ok:Bool),(∀e∈tl,e.Arg.Nodes.length<=5000)->out.length+tl.length<=10000->gH a tl out ok=some (out++tl.map (fun e=>(S5 e a).1),ok&&tl.all fun e=>(S5 e a).2):=by
  intro tl
  induction tl with
  |nil=>intro out ok _ _;simp [gH]
  |cons x tl ih=>
   intro out ok he hl
   simp only [io]at hl
   rw [gH,Mb _ _ (he x (mp ..))]
   simp only [bt]
   rw [cA (by simp;omega)]
   simp only [bt]
   rw [ih _ _ (fun e h=>he e (lT _ h)) (by simp;omega)]
   simp [JE]
 have kl1: ∀(t:Bool) (tl out:List Int),tl.any (LL a)=false->out.length+tl.length<=5000->iL n a t tl out=gH a n.Aggs (out++tl.map (kAt a)) t:=by
  intro t tl
  induction tl with
  |nil=>intro out _ _;simp [iL]
  |cons x tl ih=>
   intro out ho hl
   simp only [io]at hl
   simp only [wU,Bool.or_eq_false_iff]at ho
   rw [iL,Vz ho.1]
   simp only [bt]
   rw [cA (by simp;omega)]
   simp only [bt]
   rw [ih _ ho.2 (by simp;omega)]
   simp
 have hall:(n.Aggs.all fun e=>(S5 e a).2)=n.Aggs.all fun e=>(Et e a).2:=by
  congr 1;funext e;exact(GN e a).1
 have hmap:(n.Aggs.all fun e=>(S5 e a).2)=true->n.Aggs.map (fun e=>(S5 e a).1)=n.Aggs.map fun e=>(Et e a).1:=by
  intro h
  exact JM fun e he=>(GN e a).2 (p7.1 h e he)
 cases hany:n.Keys.any (LL a)with
 |true=>exact⟨[],false,[],by simp,by simp,fun _=>rfl⟩
 |false=>
  by_cases M:((n.Keys.length<=3/\n.Aggs.length<=12)/\0<n.Keys.length+n.Aggs.length)
  ·have hb' :(((decide ((n.Keys.length:Int)<=(3:Int)))&&(decide ((n.Aggs.length:Int)<=(12:Int))))&&(decide ((0:Int)<(n.Keys.length:Int)+(n.Aggs.length:Int))))=true:=by simp;omega
   simp only [hb',gx,Dd,p6,iq,fU,bt]
   rw [kl1 true n.Keys [] hany (by simp;omega),kl n.Aggs _ true hn.args (by simp;omega)]
   refine⟨n.Keys.map (kAt a)++n.Aggs.map (fun e=>(S5 e a).1),n.Aggs.all fun e=>(Et e a).2,n.Keys.map (kAt a)++n.Aggs.map (fun e=>(Et e a).1),by simp [hall],?_,fun h=>?_⟩
   ·have I:(decide ((n.Keys.length:Int)<=(3:Int)))=true:=by simp;omega
    have K:(decide ((n.Aggs.length:Int)<=(12:Int)))=true:=by simp;omega
    have h3:(decide ((0:Int)<((n.Keys.length+n.Aggs.length:Nat):Int)))=true:=by simp;omega
    simp only [I,K,h3,B2,xr]
   ·rw [hmap (by rw [hall];exact h)]
  ·have hb' :(((decide ((n.Keys.length:Int)<=(3:Int)))&&(decide ((n.Aggs.length:Int)<=(12:Int))))&&(decide ((0:Int)<(n.Keys.length:Int)+(n.Aggs.length:Int))))=false:=by rw [p8];simp;omega
   simp only [hb',gx,Dd,iq,fU,bt]
   refine⟨[],false,n.Keys.map (kAt a)++n.Aggs.map (fun e=>(Et e a).1),by simp,?_,by simp⟩
   have:((((true&&n.Aggs.all fun e=>(Et e a).2)&&(decide ((n.Keys.length:Int)<=(3:Int))))&&(decide ((n.Aggs.length:Int)<=(12:Int))))&&(decide ((0:Int)<((n.Keys.length+n.Aggs.length:Nat):Int))))=false:=by rw [p8];simp;omega
   rw [this]
def UI(x y:Int):Int:=if x=0 then y else x
def Ns(p:Int×Int):Bool:=(p.2==UI p.1 p.2)||p.2==0
def PP(c:aX)(n:aq)(a b:List Int)(hop:n.Op=7)(ha:di c.kinds n.A=some a)(M:di c.kinds n.B=some b)(hal:a.length<=16):Ew (iT c n) (bX n a b) true:=by
 unfold iT bX
 rw [ha,M,aS (by simp [hop]),aS (by simp [hop]),aS (by simp [hop]),aS (by simp [hop]),aS (by simp [hop]),aS (by simp [hop]),br (by simp [hop])]
 simp only [bt]
 by_cases hl:a.length=b.length
 ·rw [aS (by simp;omega),aS (by simp;omega),vJ _ (by omega)]
  simp only [bt]
  have kc: ∀(tl pre suf:List Int) (ok:Bool),suf.length=tl.length->fb tl pre.length (pre++suf) ok=some (pre++List.zipWith UI suf tl,ok&&(suf.zip tl).all Ns):=by
   intro tl
   induction tl with
   |nil=>
    intro pre suf ok h
    have:suf=[]:=vZ h
    subst this
    simp [fb]
   |cons y tl ih=>
    intro pre suf ok h
    cases suf with
    |nil=>simp at h
    |cons x suf=>
     simp only [io,Nat.add_right_cancel_iff]at h
     rw [fb,cO,xw (fa _),v6]
     simp only [Je,bt]
     have step: ∀(z:Int),jW (fb tl) pre.length y ok (pre++z::suf)=some (pre++z::List.zipWith UI suf tl,ok&&((z==y||y==0)&&(suf.zip tl).all Ns)):=by
      intro z
      unfold jW
      rw [cO,xw (fa _),v6]
      simp only [Je,bt]
      have e1:pre++z::suf=(pre++[z])++suf:=by simp
      have e2:pre.length+1=(pre++[z]).length:=by simp
      cases ok with
      |true=>
       simp only [gx,bt,xr]
       rw [e1,e2,ih (pre++[z]) suf _ h]
       simp
      |false=>
       simp only [iq,fU,bt,GQ]
       rw [e1,e2,ih (pre++[z]) suf _ h]
       simp
     by_cases V:x=0
     ·subst V
      rw [br (by simp)]
      have e3:(pre++(0:Int)::suf).set ((pre.length:Int)).toNat y=pre++y::suf:=by
       rw [BH,List.set_append_right _ _ (fa _),v6];rfl
      rw [e3]
      refine(step y).trans ?_
      simp [Ns,UI]
     ·rw [aS (by simpa using V),step x]
      have:UI x y=x:=by unfold UI;rw [aS V]
      simp only [List.zipWith_cons_cons,List.zip_cons_cons,BE,Ns,this]
      have e4:(y==x)=(x==y):=by rw [De,uZ,uZ];exact eq_comm
      rw [e4]
  have kr: ∀(tl tb:List Int) (i:Nat) (out:List Int) (ok:Bool),b.drop i=tb->tl.length=tb.length->out.length+tl.length<=1000->dW b tl i out ok=some (out++List.zipWith UI tl tb,ok&&(tl.zip tb).all Ns):=by
   intro tl
   induction tl with
   |nil=>
    intro tb i out ok hd h _
    have:tb=[]:=vZ h.symm
    subst this
    simp [dW]
   |cons x tl ih=>
    intro tb i out ok hd h hm
    cases tb with
    |nil=>simp at h
    |cons y tb=>
     simp only [io,Nat.add_right_cancel_iff]at h hm
     obtain⟨I,K,h3⟩:=kU hd
     rw [dW,I]
     simp only [bt]
     have step: ∀z:Int,jd b (dW b tl) i out ok z=some (out++z::List.zipWith UI tl tb,ok&&((y==z||y==0)&&(tl.zip tb).all Ns)):=by
      intro z
      unfold jd
      rw [cA (by simp;omega),I]
      simp only [bt]
      cases ok with
      |true=>
       simp only [gx,bt,xr]
       cases hyz:y==z with
       |true=>
        simp only [p6,iq,fU,bt]
        rw [ih tb (i+1) _ _ h3 h (by simp;omega)]
        simp
       |false=>
        simp only [Dd,gx,bt]
        rw [ih tb (i+1) _ _ h3 h (by simp;omega)]
        simp
      |false=>
       simp only [iq,fU,bt,GQ]
       rw [ih tb (i+1) _ _ h3 h (by simp;omega)]
       simp
     by_cases V:x=0
     ·subst V
      rw [br (by simp),step y]
      simp [Ns,UI]
     ·rw [aS (by simpa using V),step x]
      have:UI x y=x:=by unfold UI;rw [aS V]
      simp only [List.zipWith_cons_cons,List.zip_cons_cons,BE,Ns,this]
  have I:=kc b [] a true hl
  rw [oo,lU]at I
  rw [I,kr a b 0 [] true rfl hl (by simp;omega)]
  exact⟨_,_,_,by rw [B2],rfl,fun _=>rfl⟩
 ·rw [br (by simp;omega),br (by simp;omega)]
  exact⟨[],false,[],rfl,rfl,fun _=>rfl⟩
def Qr(c:aX)(n:aq)(a b:List Int)(hn:kO n)(hop:n.Op=8)(ha:di c.kinds n.A=some a):Ew (iU c n) (bX n a b) ((c.kinds.length:Int)==IntKind.i64.wrap ((c.Logic.Nodes.length:Int)-(1:Int))):=by
 have h:=hn.order
 have hr:bX n a b=dV n a fm true (0:Int):=by unfold bX;rw [aS (by simp [hop]),aS (by simp [hop]),aS (by simp [hop]),aS (by simp [hop]),aS (by simp [hop]),aS (by simp [hop]),aS (by simp [hop])]
 have key: ∀(tl:List jG) (i:Nat) (fu:Nat) (ok:Bool),n.Order.drop i=tl->i+tl.length=n.Order.length->tl.length<fu->dV n a fu ok (i:Int)=some (a,((((ok&&tl.all fun e=>decide (0<=e.Col)&&decide (e.Col<(a.length:Int)))&&(decide ((n.Order.length:Int)<=(3:Int))))&&(decide ((-1:Int)<=n.Limit)))&&(decide (n.Limit<=(2147483647:Int))))):=by
  intro tl
  induction tl with
  |nil=>
   intro i fu ok hd hi hf
   obtain⟨fu,rfl⟩: ∃k,fu=k+1:=⟨fu-1,by omega⟩
   simp only [oo,vg]at hi
   rw [dV,aS (by simp;omega)]
   simp
  |cons x tl ih=>
   intro i fu ok hd hi hf
   simp only [io]at hf hi
   obtain⟨fu,rfl⟩: ∃k,fu=k+1:=⟨fu-1,by omega⟩
   obtain⟨I,K,h3⟩:=kU hd
   rw [dV,br (by simp;omega),I,dm (by omega) (by omega)]
   simp only [bt]
   have e:((i:Int)+1)=((i+1:Nat):Int):=by omega
   rw [e]
   have e2:((if ok=true then some (decide ((0:Int)<=x.Col))else some false).bind fun t=>(if t=true then some (decide (x.Col<(a.length:Int)))else some false).bind fun t1=>dV n a fu t1 ((i+1:Nat):Int))=dV n a fu (ok&&(decide (0<=x.Col)&&decide (x.Col<(a.length:Int)))) ((i+1:Nat):Int):=by
    cases ok<;>by_cases V:(0:Int)<=x.Col<;>simp [V]
   rw [e2,ih (i+1) fu _ h3 (by omega) (by omega)]
   simp only [BE,JE]
 rw [hr,show((0:Int))=((0:Nat):Int)from rfl,key n.Order 0 fm true rfl (by simp) (Ad (Ah _) (ku (by omega)))]
 unfold iU
 rw [ha]
 simp only [bt]
 rw [BY (f:=mG a) (g:=fun o=>(decide (o.Col<(0:Int)))||(decide ((a.length:Int)<=o.Col))) (fun v=>rfl)]
 simp only [bt]
 have e3:(!(n.Order.any fun o=>(decide (o.Col<(0:Int)))||(decide ((a.length:Int)<=o.Col))))=n.Order.all fun e=>decide (0<=e.Col)&&decide (e.Col<(a.length:Int)):=by
  rw [List.not_any_eq_all_not]
  congr 1
  funext k
  rw [De]
  simp
 rw [e3]
 refine⟨a,_,a,?_,rfl,fun _=>rfl⟩
 cases h4:(n.Order.all fun e=>decide (0<=e.Col)&&decide (e.Col<(a.length:Int)))<;>by_cases l1:(n.Order.length:Int)<=3<;>simp [l1]

def atR(r:cS)(c:Int):ac:=(r[c.toNat]?).getD zV
def sgO(o:jG)(n:Int):Int:=if o.Desc then -n else n
def vj:List jG->cS->cS->Int
 |[],a,b=>fe a b
 |o::t,a,b=>KK (sgO o (val (atR a o.Col) (atR b o.Col))) (vj t a b)
def Xr(o:jG):Dc (fun x y=>sgO o (val x y)):=by
 have h:=ul
 unfold sgO
 cases o.Desc with
 |false=>exact h
 |true=>
  refine⟨fun x y=>?_,fun x y=>?_,fun x y=>?_,fun x y z I K=>?_⟩
  ·rcases h.rng x y with q|q|q<;>simp [q]
  ·have:=h.anti x y;simp [this]
  ·simp only [gx];rw [<-h.eq x y];omega
  ·simp only [gx]at I K ⊢
   have a1:=h.anti x y;have a2:=h.anti y z;have a3:=h.anti x z
   have:=h.trans z y x (by omega) (by omega)
   omega
def Fg: ∀order:List jG,Dc (vj order)
 |[]=>i7
 |o::t=>
  have h:=Dc.lex (Xr o) (Fg t)
  ⟨fun x y=>h.rng (atR x o.Col,x) (atR y o.Col,y),fun x y=>h.anti (atR x o.Col,x) (atR y o.Col,y),fun x y=>(h.eq (atR x o.Col,x) (atR y o.Col,y)).trans ⟨fun e=>(Prod.mk.injEq ..▸e).2,fun e=>by rw [e]⟩,fun x y z=>h.trans (atR x o.Col,x) (atR y o.Col,y) (atR z o.Col,z)⟩
def Qy(order:List jG)(r:cS):Bool:=order.all fun o=>decide (0<=o.Col)&&decide (o.Col<(r.length:Int))
variable{r:cS}
def DX{c:Int}(h:0<=c)(K:c<(r.length:Int)):di r c=some (atR r c):=by
 obtain⟨k,hk⟩:=GX h
 subst hk
 have hk:k<r.length:=by omega
 unfold atR
 rw [iX k rfl]
 simp [hk]
def KM(hr:kW r=true){c:Int}(h:0<=c)(K:c<(r.length:Int)):gF (atR r c)=true:=by
 have hm:atR r c∈r:=by
  obtain⟨k,hk⟩:=GX h
  subst hk
  have hk:k<r.length:=by omega
  unfold atR
  simp [hk]
 unfold kW at hr
 simp only [gN,p7]at hr
 exact hr.2 _ hm
def Rv{β:Type}(o:jG){n:Int}(h:n= -1\/n=0\/n=1)(f:Int->β):(if o.Desc then f (IntKind.i64.wrap (0-n))else f n)=f (sgO o n):=by
 unfold sgO
 cases o.Desc with
 |false=>rfl
 |true=>rcases h with h|h|h<;>subst h<;>rfl
def DO{o:jG}{t:List jG}(h:Qy (o::t) r=true):0<=o.Col/\o.Col<(r.length:Int)/\Qy t r=true:=by
 unfold Qy at h ⊢
 rw [BE]at h
 simp only [gN,j9]at h
 exact⟨h.1.1,h.1.2,h.2⟩
def aaU{a b:cS}(ha:kW a=true)(M:kW b=true): ∀order:List jG,Qy order a=true->Qy order b=true->qw order a b=some (vj order a b)
 |[],_,_=>by
  unfold qw lc
  rw [Ct ha M];rfl
 |o::t,I,K=>by
  obtain⟨p1,p2,p3⟩:=DO I
  obtain⟨q1,q2,q3⟩:=DO K
  have ih:=aaU ha M t p3 q3
  unfold qw at ih ⊢
  unfold lc
  rw [DX p1 p2,DX q1 q2,bt,bt,ud (KM ha p1 p2) (KM M q1 q2),bt]
  have hs:=Rv o (ul.rng (atR a o.Col) (atR b o.Col)) (qv (lc a b t))
  rw [hs,ih]
  unfold qv
  show _=some (KK _ _)
  unfold KK
  split<;>rfl
def Pf{a b:cS}(ha:a.length<4611686018427387904): ∀order:List jG,Qy order a=true->Qy order b=true->uI a b order=some (decide (vj order a b<0))
 |[],_,_=>by
  unfold uI kX
  rw [nU a b ha];rfl
 |o::t,I,K=>by
  obtain⟨p1,p2,p3⟩:=DO I
  obtain⟨q1,q2,q3⟩:=DO K
  have ih:=Pf (a:=a) (b:=b) ha t p3 q3
  unfold uI at ih ⊢
  unfold kX
  rw [DX p1 p2,DX q1 q2,bt,bt,wm,bt]
  have hs:=Rv o (ul.rng (atR a o.Col) (atR b o.Col)) (ql (kX a b t))
  rw [hs,ih]
  unfold ql
  show _=some (decide (KK _ _<0))
  unfold KK
  split<;>rfl
def El(limit:Int)(l:List cS):List cS:=if 0<=limit/\limit<(l.length:Int)then l.take limit.toNat else l
def V9(limit:Int)(l:List cS)(k:List cS->Option (List cS))(hk: ∀x,k x=some x):(if((decide ((0:Int)<=limit))&&(decide (limit<(l.length:Int))))then((eS l 0 limit).bind fun y=>k y)else k l)=some (El limit l):=by
 unfold El
 by_cases h:0<=limit/\limit<(l.length:Int)
 ·rw [br (by simp [h.1,h.2]),br h,nM (xs:=l) (i:=0) (j:=limit) 0 limit.toNat rfl (by omega) (lG _) (by omega),bt,hk]
  simp
 ·rw [aS (by simp only [gN,j9];exact h),aS h,hk]
structure Q6(order:List jG)(l:List cS):Prop where
 right: ∀r∈l,kW r=true
 cols: ∀r∈l,Qy order r=true
variable{rows:List cS}
def JV(order:List jG)(limit:Int): ∀(rows out:List cS),Q6 order (out++rows)->out.length+rows.length<=1000000->mt order limit rows out=some (El limit (u9 (vj order) (out++rows)))
 |[],out,h,hl=>by
  unfold mt
  rw [tA]at h ⊢
  have e:Fb order=some (qw order):=rfl
  rw [e,bt]
  rw [ND (Fg order) (fun x V y hy=>by exact aaU (h.right x V) (h.right y hy) order (h.cols x V) (h.cols y hy)) (by simp at hl;omega),bt]
  exact V9 limit _ qP (fun _=>rfl)
 |r::t,out,h,hl=>by
  rw [io]at hl
  unfold mt
  have hr:=Qh (h.right r (by simp))
  rw [Fq r (by omega),bt,cA (by simp;omega),bt,JV order limit t (out++[r]) (by rwa [ji,Cv]) (by simp only [ju,vl];omega)]
  rw [ji,Cv]
def Fa{order:List jG}(h:Q6 order rows)(hl:rows.length<=1000000)(limit:Int):rr rows order limit=some (El limit (u9 (vj order) rows)):=by
 unfold rr
 rw [JV order limit rows [] (by simpa using h) (by simpa using hl)]
 rfl
variable{p:Nat}
def U0(p q:List α)(w v:α):(p++w::q).set p.length v=p++v::q:=by
 induction p with
 |nil=>rfl
 |cons x t ih=>simp [ih]
def CT(p q:List α)(w:α):di (p++w::q) (p.length:Int)=some w:=by
 rw [OH];simp
def NJ(nx:List cS->Option (List cS))(e:cS)(out:List cS)(i:Nat)(hout:out.length<=500000): ∀(fu k:Nat) (w:cS),i<=k->k<=out.length->k<i+fu->pC nx e (i:Int) fu (out.take k++w::out.drop k) (k:Int)=nx (out.take i++e::out.drop i)
 |0,k,w,I,_,h3=>by omega
 |fu+1,k,w,I,K,h3=>by
  have hlen:(out.take k).length=k:=by simp;omega
  unfold pC
  by_cases hk:i<k
  ·rw [br (by rw [j9];omega)]
   obtain⟨m,hm⟩: ∃m,k=m+1:=⟨k-1,by omega⟩
   subst hm
   have hmo:m<out.length:=by omega
   have et:out.take (m+1)=out.take m++[out[m]]:=Ld hmo
   have ed:out.drop m=out[m]::out.drop (m+1):=uA hmo
   have hw:IntKind.i64.wrap (((m+1:Nat):Int)-1)=(m:Int):=by rw [ot (by omega) (by omega)];omega
   have hlm:(out.take m).length=m:=by simp;omega
   have i1:di (out.take (m+1)++w::out.drop (m+1)) (m:Int)=some out[m]:=by
    rw [et,ji,Cv]
    have:=CT (out.take m) (w::out.drop (m+1)) out[m]
    rw [hlm]at this
    exact this
   have i2:di (out.take (m+1)++w::out.drop (m+1)) ((m+1:Nat):Int)=some w:=by
    have:=CT (out.take (m+1)) (out.drop (m+1)) w
    rw [hlen]at this
    exact this
   rw [hw,i1,i2]
   simp only [bt]
   have hs:(out.take (m+1)++w::out.drop (m+1)).set ((m+1:Nat):Int).toNat out[m]=out.take m++out[m]::out.drop m:=by
    have:=U0 (out.take (m+1)) (out.drop (m+1)) w out[m]
    rw [hlen]at this
    rw [BH,this,et,ed,ji,Cv]
   rw [hs]
   exact NJ nx e out i hout fu m out[m] (by omega) (by omega) (by omega)
  ·have he:k=i:=by omega
   subst he
   rw [aS (by rw [j9];omega)]
   have i2:di (out.take k++w::out.drop k) (k:Int)=some w:=by
    have:=CT (out.take k) (out.drop k) w
    rw [hlen]at this
    exact this
   have hs:(out.take k++w::out.drop k).set ((k:Nat):Int).toNat e=out.take k++e::out.drop k:=by
    have:=U0 (out.take k) (out.drop k) w e
    rw [hlen]at this
    rw [BH,this]
   rw [i2]
   simp only [bt]
   rw [hs]
def U5(order:List jG)(nx:List cS->Option (List cS))(e:cS)(he:Qy order e=true)(hel:e.length<=1000000)(out:List cS)(hc: ∀r∈out,Qy order r=true)(hout:out.length<=500000): ∀(fu i:Nat),i<=out.length->out.length<i+fu->q7 order nx e out fu (i:Int)=nx (out.take i++put (vj order) e (out.drop i))
 |0,i,I,K=>by omega
 |fu+1,i,I,K=>by
  unfold q7
  have hend:((app out ([[]])).bind fun out1=>pC nx e (i:Int) fm out1 (IntKind.i64.wrap ((out1.length:Int)-(1:Int))))=nx (out.take i++e::out.drop i):=by
   rw [cA (by simp;omega),bt]
   have hw:IntKind.i64.wrap (((out++[[]]).length:Int)-1)=(out.length:Int):=by rw [ot (by omega) (by simp only [ju,vl];omega)];simp
   rw [hw]
   have:=NJ nx e out i hout fm out.length [] I (fa _) (by have:=ku (n:=600000) (by omega);omega)
   simpa using this
  by_cases hi:i<out.length
  ·have hd:out.drop i=out[i]::out.drop (i+1):=uA hi
   rw [br (by rw [j9];omega),iX i rfl,p5 hi,bt,Pf (by omega) order he (hc _ (Dk hi)),bt,bt,hd]
   unfold put
   by_cases hlt:vj order e out[i]<0
   ·rw [aS (by simpa using hlt),br hlt,hend,<-hd]
   ·have hw:IntKind.i64.wrap ((i:Int)+1)=((i+1:Nat):Int):=by rw [ot (by omega) (by omega)];omega
    rw [br (by simpa using hlt),aS hlt,hw,U5 order nx e he hel out hc hout fu (i+1) (by omega) (by omega)]
    rw [Ld hi,ji,Cv]
  ·have hi2:i=out.length:=by omega
   rw [aS (by rw [j9];omega),bt,aS (by decide),hend]
   have:out.drop i=[]:=by rw [hi2];simp
   rw [this];rfl
def Ru(order:List jG)(limit:Int): ∀(rows out:List cS),(∀r∈rows,Qy order r=true/\r.length<=1000000)->(∀r∈out,Qy order r=true)->out.length+rows.length<=400000->me order limit rows out=some (El limit (CN (vj order) rows out))
 |[],out,_,_,_=>by
  unfold me
  exact V9 limit out some (fun _=>rfl)
 |r::t,out,h,hc,hl=>by
  rw [io]at hl
  have hr:=h r (mp ..)
  unfold me
  rw [show(0:Int)=((0:Nat):Int)from rfl,U5 order _ r hr.1 hr.2 out hc (by omega) fm 0 (by omega) (by have:=ku (n:=600000) (by omega);omega)]
  simp only [List.take_zero,lU,xM]
  have hp:=AC (vj order) r out
  rw [Ru order limit t _ (fun x V=>h x (lT _ V)) (by
   intro x V
   rcases gW.1 (hp.mem_iff.1 V)with q|q
   ·rw [q];exact hr.1
   ·exact hc x q) (by have:=hp.length_eq;simp only [io]at this;omega)]
  rfl
def Cd{order:List jG}(h: ∀r∈rows,Qy order r=true/\r.length<=1000000)(hl:rows.length<=400000)(limit:Int):jN rows order limit=some (El limit (u9 (vj order) rows)):=by
 unfold jN
 rw [Ru order limit rows [] h (by simp) (by simpa using hl),Kh (Fg order) rows (by omega)]
def HC(h: ∀r∈rows,r.length<=1000000)(hl:rows.length<=400000):jN rows [] (-1)=some (rO rows):=by
 rw [Cd (fun r hr=>⟨rfl,h r hr⟩) hl]
 unfold El
 rw [aS (by omega)]
 rfl

def HR(op:Int):Bool:=decide (1<=op)&&decide (op<=8)
def qJ{op:Int}(h:HR op=true):op=1\/op=2\/op=3\/op=4\/op=5\/op=6\/op=7\/op=8:=by
 simp [HR]at h;omega
def EV(n:aq):Bool:=(vP n).getD false
def vy(n:aq):vP n=some (EV n):=by
 unfold EV vP
 repeat' split
 all_goals rfl
def af0(l:List α):((l.length:Int)==0)=l.isEmpty:=by cases l<;>simp<;>omega
def abA(l:List α):decide ((0:Int)<(l.length:Int))= !l.isEmpty:=by cases l<;>simp<;>omega
def Vb(n:aq)(h:HR n.Op=true):((wu n).bind fun r=>(wt r).bind fun r1=>some r1)=some (EV n):=by
 obtain⟨op,A,B,Z8,kinds,left,cond,keys,aggs,items,order,limit⟩:=n
 unfold EV vP wu wt
 simp only [af0,abA]
 rcases qJ h with h|h|h|h|h|h|h|h<;>simp only at h<;>subst h<;>simp<;>(try (by_cases t:Z8=0<;>simp [t]))<;>(try (by_cases lm:limit=0<;>simp [lm]))<;>(try (cases left<;>simp))<;>(try (by_cases e1:kinds=[]<;>simp [e1]))<;>(try (by_cases e2:cond.Nodes=[]<;>simp [e2]))<;>(try (by_cases e3:keys=[]<;>simp [e3]))<;>(try (by_cases e4:aggs=[]<;>simp [e4]))<;>(try (by_cases e5:items=[]<;>simp [e5]))<;>(try (by_cases e6:order=[]<;>simp [e6]))
def Vo{β:Type}(f1 f2 f3 f4 f5 f6 f7 f8:β)(k:Int):rm (eO (eO (eO (eO (eO (eO (eO (eO ([]:List (Int×β)) 1 f1) 2 f2) 3 f3) 4 f4) 5 f5) 6 f6) 7 f7) 8 f8) k=
  if k=1 then some f1 else if k=2 then some f2 else if k=3 then some f3 else if k=4 then some f4 else if k=5 then some f5 else if k=6 then some f6 else if k=7 then some f7 else if k=8 then some f8 else none:=by
 have e:eO (eO (eO (eO (eO (eO (eO (eO ([]:List (Int×β)) 1 f1) 2 f2) 3 f3) 4 f4) 5 f5) 6 f6) 7 f7) 8 f8=[(1,f1),(2,f2),(3,f3),(4,f4),(5,f5),(6,f6),(7,f7),(8,f8)]:=rfl
 rw [e]
 simp only [rm,eq_comm (b:=k)]
def H4(op:Int):xf op=some (if op=1 then 0 else if op=2\/op=7 then 2 else 1):=by
 unfold xf s5
 by_cases I:op=1
 ·simp [I]
 by_cases K:op=2
 ·simp [K]
 by_cases h7:op=7
 ·simp [h7]
 simp [I,K,h7]
def nR(op:Int):w9 op=some (if op=1 then 0 else if op=2\/op=7 then 2 else if HR op then 1 else -1):=by
 unfold w9 sT mD
 by_cases h:HR op=true
 ·rcases qJ h with rfl|rfl|rfl|rfl|rfl|rfl|rfl|rfl<;>rfl
 ·have h' : ¬(1<=op/\op<=8):=fun hh=>h (by simp [HR];omega)
  have I: ¬op=1:=by omega
  have K: ¬op=2:=by omega
  have h3: ¬op=3:=by omega
  have h4: ¬op=4:=by omega
  have h5: ¬op=5:=by omega
  have h6: ¬op=6:=by omega
  have h7: ¬op=7:=by omega
  have h8: ¬op=8:=by omega
  simp [I,K,h3,h4,h5,h6,h7,h8,h]
structure Q7(l:cC)(j:Nat)(f:Int)(ks:List Int)(s:Nat):Prop where
 pos:1<=s
 le:s<=j+1
 fst:f=(j:Int)+1-(s:Int)
 size: ∀fu,j+1<fu->cR fu l (j:Int)=some (s:Int)
 len:ks.length<=16
 kinds: ∀fu,j+1<fu->cV fu l (j:Int)=some (ks,true)
structure PF(l:cC)(i:Nat)(first:List Int)(kinds:List (List Int)):Prop where
 fl:first.length=i
 kl:kinds.length=i
 node: ∀j,j<i-> ∃f ks s,first[j]? =some f/\kinds[j]? =some ks/\Q7 l j f ks s
variable{first:List Int}{ks:Nat->List Int}
def PF.push{kinds:List (List Int)}(h:PF l i first kinds){f:Int}{ks:List Int}{s:Nat}(hn:Q7 l i f ks s):PF l (i+1) (first++[f]) (kinds++[ks]):=by
 refine⟨by simp [h.fl],by simp [h.kl],fun j hj=>?_⟩
 by_cases hji:j=i
 ·subst hji
  refine⟨f,ks,s,?_,?_,hn⟩
  ·rw [xw (by rw [h.fl];exact fa _),h.fl,v6];rfl
  ·rw [xw (by rw [h.kl];exact fa _),h.kl,v6];rfl
 ·obtain⟨f',ks',s',I,K,h3⟩:=h.node j (by omega)
  exact⟨f',ks',s',by rw [Lc (by rw [h.fl];omega)];exact I,by rw [Lc (by rw [h.kl];omega)];exact K,h3⟩
def S8(n:aq)(i:Nat):Prop:=
 (n.Op=1->n.A= -1/\n.B= -1)/\(n.Op≠1->0<i/\0<=n.A/\n.A<i)/\(n.Op=2\/n.Op=7->n.B=(i:Int)-1)/\(n.Op≠1->n.Op≠2->n.Op≠7->n.B= -1)
def xW(l:cC){fu:Nat}(hf:0<fu){p:Int}(h:p<0):cR fu l p=some 0:=by
 obtain⟨fu,rfl⟩: ∃k,fu=k+1:=⟨fu-1,by omega⟩
 unfold cR
 rw [br (by simp [h])]
def QX{kinds:List (List Int)}(hI:PF l i first kinds)(hn:di l.Nodes (i:Int)=some n)(hi:i<l.Nodes.length)(hl:l.Nodes.length<=1000)(hop:HR n.Op=true):
  ∃f ok,lN ⟨l,kinds,first⟩ (i:Int)=some (f,ok)/\((ok=true/\ ∃s:Nat,1<=s/\s<=i+1/\f=(i:Int)+1-(s:Int)/\(∀fu,i+1<fu->cR fu l (i:Int)=some (s:Int))/\S8 n i)\/(ok=false/\ ∀fu,i+1<fu->cR fu l (i:Int)=some 0)):=by
 have hstep: ∀fu,i+1<fu-> ∃fu',fu=fu' +1/\i<fu' :=fun fu h=>⟨fu-1,by omega,by omega⟩
 unfold lN
 simp only [hn,bt,H4]
 by_cases I:n.Op=1
 ·-- nothing below
  simp only [I,gx]
  rw [br (by decide)]
  refine⟨_,_,rfl,?_⟩
  by_cases hAB:n.A= -1/\n.B= -1
  ·refine .inl ⟨by simp [hAB],1,fa _,by omega,by omega,fun fu hf=>?_,⟨fun _=>hAB,fun h=>absurd I h,fun h=>by omega,fun h=>absurd I h⟩⟩
   obtain⟨fu',rfl,_⟩:=hstep fu hf
   unfold cR
   rw [aS (by simp;omega),hn]
   simp only [bt,nR,I,gx]
   rw [br (by decide),br (by simp [hAB])];rfl
  ·have M:(n.A== -1&&n.B== -1)=false:=by rw [p8];intro h;apply hAB;simpa using h
   refine .inr ⟨M,fun fu hf=>?_⟩
   obtain⟨fu',rfl,_⟩:=hstep fu hf
   unfold cR
   rw [aS (by simp;omega),hn]
   simp only [bt,nR,I,gx]
   rw [br (by decide),aS (by rw [M];decide)]
 ·by_cases h27:n.Op=2\/n.Op=7
  ·-- two below
   simp only [I,h27,gx,fU]
   rw [aS (by decide),aS (by decide)]
   have hsz: ∀fu,i<fu->cR (fu+1) l (i:Int)=if n.B=(i:Int)-1 then((cR fu) l n.B).bind (fun r2=>if((decide ((0:Int)<r2))&&(n.A==(IntKind.i64.wrap (n.B-r2))))then(((cR fu) l n.A).bind fun r3=>if(decide ((0:Int)<r3))then(some (IntKind.i64.wrap ((IntKind.i64.wrap (r3+r2))+(1:Int))))else(some (0:Int)))else(some (0:Int)))else some 0:=by
    intro fu hfu
    conv=>lhs;unfold cR
    rw [aS (by simp;omega),hn]
    simp only [bt,nR,I,h27,gx,fU]
    rw [aS (by decide),aS (by decide),br (by decide),dm (n:=(i:Int)-1) (by omega) (by omega)]
    by_cases hB:n.B=(i:Int)-1
    ·rw [br (by simp [hB]),br hB]
    ·rw [aS (by simpa using hB),aS hB]
   by_cases hB:n.B=(i:Int)-1/\0<i
   ·have hcond:(!((n.B !=IntKind.i64.wrap ((i:Int)-1))||((i:Int)==0)))=true:=by
     rw [dm (by omega) (by omega)]
     have: ¬((i:Int)=0):=by omega
     simp [hB.1,this];omega
    rw [br hcond]
    obtain⟨fB,kB,sB,g1,g2,g3⟩:=hI.node (i-1) (by omega)
    have hBi:n.B=((i-1:Nat):Int):=by omega
    have hidx:di first n.B=some fB:=by rw [hBi,cO];exact g1
    rw [hidx]
    have hfB:=g3.fst
    have hsB:=g3.pos
    have hsB2:=g3.le
    simp only [bt]
    rw [dm (n:=fB-1) (by omega) (by omega)]
    by_cases hA:n.A=fB-1/\0<=n.A
    ·rw [aS (by simp [hA.1];omega)]
     obtain⟨fA,kA,sA,q1,q2,q3⟩:=hI.node n.A.toNat (by omega)
     have hidA:di first n.A=some fA:=by
      rw [show n.A=((n.A.toNat:Nat):Int)from by omega,cO];exact q1
     rw [hidA]
     have hfA:=q3.fst
     have hsA:=q3.pos
     have hsA2:=q3.le
     refine⟨fA,true,rfl,.inl ⟨rfl,sA+sB+1,by omega,by omega,by omega,fun fu hf=>?_,⟨fun h=>absurd h I,fun _=>⟨hB.2,hA.2,by omega⟩,fun _=>hB.1,fun _ K h7=>by rcases h27 with h|h;exact absurd h K;exact absurd h h7⟩⟩⟩
     obtain⟨fu',rfl,hf'⟩:=hstep fu hf
     rw [hsz fu' hf',br hB.1]
     have e1:=g3.size fu' (by omega)
     rw [<-hBi]at e1
     rw [e1]
     simp only [bt]
     rw [dm (n:=n.B-(sB:Int)) (by omega) (by omega),br (by simp;omega)]
     have e2:=q3.size fu' (by omega)
     rw [show((n.A.toNat:Nat):Int)=n.A from by omega]at e2
     rw [e2]
     simp only [bt]
     rw [br (by simp;omega),dm (n:=(sA:Int)+(sB:Int)) (by omega) (by omega),dm (by omega) (by omega)]
     congr 1
    ·have M:(n.A !=fB-1||decide (n.A<0))=true:=by
      simp only [tB,ux,j9]
      by_cases h:n.A=fB-1
      ·exact .inr (by omega)
      ·exact .inl h
     rw [br M]
     refine⟨0,false,rfl,.inr ⟨rfl,fun fu hf=>?_⟩⟩
     obtain⟨fu',rfl,hf'⟩:=hstep fu hf
     rw [hsz fu' hf',br hB.1]
     have e1:=g3.size fu' (by omega)
     rw [<-hBi]at e1
     rw [e1]
     simp only [bt]
     rw [dm (n:=n.B-(sB:Int)) (by omega) (by omega)]
     by_cases h:n.A=fB-1
     ·rw [br (by simp;omega),xW l (by omega) (by omega)]
      rfl
     ·rw [aS (by simp;omega)]
   ·have hcond:(!((n.B !=IntKind.i64.wrap ((i:Int)-1))||((i:Int)==0)))=false:=by
     rw [dm (by omega) (by omega)]
     by_cases h:n.B=(i:Int)-1
     ·have:i=0:=by omega
      simp [this]
     ·simp [h]
    rw [hcond]
    simp only [iq,fU,bt,Bool.true_or,gx]
    refine⟨0,false,rfl,.inr ⟨rfl,fun fu hf=>?_⟩⟩
    obtain⟨fu',rfl,hf'⟩:=hstep fu hf
    rw [hsz fu' hf']
    by_cases h:n.B=(i:Int)-1
    ·rw [br h]
     rw [xW l (by omega) (by omega)]
     rfl
    ·rw [aS h]
  ·-- one below
   simp only [I,h27,fU]
   rw [aS (by decide),br (by decide)]
   have hsz: ∀fu,i<fu->cR (fu+1) l (i:Int)=if n.A=(i:Int)-1/\n.B= -1 then((cR fu) l n.A).bind (fun r1=>if(decide ((0:Int)<r1))then(some (IntKind.i64.wrap (r1+(1:Int))))else(some (0:Int)))else some 0:=by
    intro fu hfu
    conv=>lhs;unfold cR
    rw [aS (by simp;omega),hn]
    simp only [bt,nR,I,h27,hop,gx,fU]
    rw [aS (by decide),br (by decide),dm (n:=(i:Int)-1) (by omega) (by omega)]
    by_cases hB:n.A=(i:Int)-1/\n.B= -1
    ·rw [br (by simp [hB]),br hB]
    ·rw [aS (by simpa using hB),aS hB]
   rw [dm (by omega) (by omega)]
   by_cases hA:(n.A=(i:Int)-1/\n.B= -1)/\0<i
   ·rw [aS (by simp [hA.1];omega)]
    obtain⟨fA,kA,sA,g1,g2,g3⟩:=hI.node (i-1) (by omega)
    have hAi:n.A=((i-1:Nat):Int):=by omega
    have hidx:di first n.A=some fA:=by rw [hAi,cO];exact g1
    rw [hidx]
    have hfA:=g3.fst
    have hsA:=g3.pos
    have hsA2:=g3.le
    refine⟨fA,true,rfl,.inl ⟨rfl,sA+1,by omega,by omega,by omega,fun fu hf=>?_,⟨fun h=>absurd h I,fun _=>⟨hA.2,by omega,by omega⟩,fun h=>absurd h h27,fun _ _ _=>hA.1.2⟩⟩⟩
    obtain⟨fu',rfl,hf'⟩:=hstep fu hf
    rw [hsz fu' hf',br hA.1]
    have e1:=g3.size fu' (by omega)
    rw [<-hAi]at e1
    rw [e1]
    simp only [bt]
    rw [br (by simp;omega),dm (by omega) (by omega)]
    rfl
   ·have M:(n.A !=(i:Int)-1||n.B != -1||(i:Int)==0)=true:=by
     simp only [tB,ux,uZ]
     by_cases h:n.A=(i:Int)-1
     ·by_cases h' :n.B= -1
      ·exact .inr (by omega)
      ·exact .inl (.inr h')
     ·exact .inl (.inl h)
    rw [br M]
    refine⟨0,false,rfl,.inr ⟨rfl,fun fu hf=>?_⟩⟩
    obtain⟨fu',rfl,hf'⟩:=hstep fu hf
    rw [hsz fu' hf']
    by_cases h:n.A=(i:Int)-1/\n.B= -1
    ·rw [br h,xW l (by omega) (by omega)]
     rfl
    ·rw [aS h]
def QC{kinds:List (List Int)}(hI:PF l i first kinds)(hn:di l.Nodes (i:Int)=some n)(hl:l.Nodes.length<=1000)(hi:i<l.Nodes.length){s:Nat}(hs:1<=s)(hsz: ∀fu,i+1<fu->cR fu l (i:Int)=some (s:Int))(hp:S8 n i)(ho:EV n=true)(hop:HR n.Op=true):
  ∃a b,(n.Op≠1->di kinds n.A=some a)/\(n.Op=2\/n.Op=7->di kinds n.B=some b)/\a.length<=16/\b.length<=16/\ ∀fu,i+1<fu->cV fu l (i:Int)=iu l (i:Int) n a b:=by
 obtain⟨p1,p2,p3,p4⟩:=hp
 have hsz0:lx l (i:Int)=some (s:Int):=hsz fm (Ad (Ah _) (ku (by omega)))
 have hu: ∀fu,cV (fu+1) l (i:Int)=if(decide ((0:Int)<=n.A))then(((cV fu) l n.A).bind fun r4=>if(!r4.2)then(some ([],false))else(fM (cV fu) l (i:Int) n r4.1))else(fM (cV fu) l (i:Int) n ([])):=by
  intro fu
  conv=>lhs;unfold cV
  rw [hsz0,hn]
  simp only [bt,vy,ho]
  have: ¬(s=0):=by omega
  simp [this]
 by_cases I:n.Op=1
 ·obtain⟨hA,hB⟩:=p1 I
  refine⟨[],[],fun h=>absurd I h,fun h=>by omega,by simp,by simp,fun fu hf=>?_⟩
  obtain⟨fu,rfl⟩: ∃k,fu=k+1:=⟨fu-1,by omega⟩
  rw [hu,aS (by simp [hA])]
  unfold fM
  rw [aS (by simp [hB])]
 ·obtain⟨hi0,hA0,hAi⟩:=p2 I
  obtain⟨fA,kA,sA,g1,g2,g3⟩:=hI.node n.A.toNat (by omega)
  have eA:((n.A.toNat:Nat):Int)=n.A:=by omega
  have hkA:di kinds n.A=some kA:=by rw [<-eA,cO];exact g2
  by_cases h27:n.Op=2\/n.Op=7
  ·have hB:=p3 h27
   obtain⟨fB,kB,sB,q1,q2,q3⟩:=hI.node (i-1) (by omega)
   have eB:((i-1:Nat):Int)=n.B:=by omega
   have hkB:di kinds n.B=some kB:=by rw [<-eB,cO];exact q2
   refine⟨kA,kB,fun _=>hkA,fun _=>hkB,g3.len,q3.len,fun fu hf=>?_⟩
   obtain⟨fu,rfl⟩: ∃k,fu=k+1:=⟨fu-1,by omega⟩
   rw [hu,br (by simpa using hA0)]
   have e1:=g3.kinds fu (by omega)
   rw [eA]at e1
   rw [e1]
   simp only [bt,p6,iq,fU]
   unfold fM
   rw [br (by simp;omega)]
   have e2:=q3.kinds fu (by omega)
   rw [eB]at e2
   rw [e2]
   simp only [bt,p6,iq,fU]
  ·have hB:=p4 I (fun h=>h27 (.inl h)) (fun h=>h27 (.inr h))
   refine⟨kA,[],fun _=>hkA,fun h=>absurd h h27,g3.len,by simp,fun fu hf=>?_⟩
   obtain⟨fu,rfl⟩: ∃k,fu=k+1:=⟨fu-1,by omega⟩
   rw [hu,br (by simpa using hA0)]
   have e1:=g3.kinds fu (by omega)
   rw [eA]at e1
   rw [e1]
   simp only [bt,p6,iq,fU]
   unfold fM
   rw [aS (by simp [hB])]
def H8(hn:di l.Nodes (i:Int)=some n)(hl:i<1000)(h:(∀fu,i+1<fu->cR fu l (i:Int)=some 0)\/((∃s:Int,∀fu,i+1<fu->cR fu l (i:Int)=some s)/\EV n=false)):mX l (i:Int)=some ([],false):=by
 have hF:i+1<fm:=Ad (Ah _) (ku (by omega))
 have e:fm=(fm-1)+1:=by omega
 unfold mX
 rw [e]
 unfold cV lx
 rcases h with h|⟨⟨s,h⟩,ho⟩
 ·rw [h _ hF];simp
 ·rw [h _ hF,hn]
  simp only [bt,vy,ho]
  by_cases hs:s=0<;>simp [hs]

def o4(l:cC):Prop:= ∀n∈l.Nodes,kO n
abbrev afS:=aX->aq->Option (((List Int)×Bool)×aX)
def FS:List (Int×afS):=(eO (eO (eO (eO (eO (eO (eO (eO ([]:List (Int×(aX->aq->Option (((List Int)×Bool)×aX)))) (1:Int) (fun(mc:aX) (mx:aq)=>(iv mc mx).map fun mr=>(mr,mc))) (2:Int) (fun(mc:aX) (mx:aq)=>(jn mc mx).map fun mr=>(mr,mc))) (3:Int) (fun(mc:aX) (mx:aq)=>(iw mc mx).map fun mr=>(mr,mc))) (4:Int) (fun(mc:aX) (mx:aq)=>(iW mc mx).map fun mr=>(mr,mc))) (5:Int) (fun(mc:aX) (mx:aq)=>(hY mc mx).map fun mr=>(mr,mc))) (6:Int) (fun(mc:aX) (mx:aq)=>(gI mc mx).map fun mr=>(mr,mc))) (7:Int) (fun(mc:aX) (mx:aq)=>(iT mc mx).map fun mr=>(mr,mc))) (8:Int) (fun(mc:aX) (mx:aq)=>(iU mc mx).map fun mr=>(mr,mc)))
def Vp(op:Int):(rm FS op).isSome=HR op:=by
 unfold FS
 rw [Vo]
 by_cases h:HR op=true
 ·rw [h]
  rcases qJ h with rfl|rfl|rfl|rfl|rfl|rfl|rfl|rfl<;>rfl
 ·rw [p8.2 h]
  have h' : ¬(1<=op/\op<=8):=fun hh=>h (by simp [HR];omega)
  have I: ¬op=1:=by omega
  have K: ¬op=2:=by omega
  have h3: ¬op=3:=by omega
  have h4: ¬op=4:=by omega
  have h5: ¬op=5:=by omega
  have h6: ¬op=6:=by omega
  have h7: ¬op=7:=by omega
  have h8: ¬op=8:=by omega
  simp [I,K,h3,h4,h5,h6,h7,h8]
def TL(c:aX)(n:aq)(a b:List Int)(hn:kO n)(hop:HR n.Op=true)(ha:n.Op≠1->di c.kinds n.A=some a)(M:n.Op=2\/n.Op=7->di c.kinds n.B=some b)(hal:a.length<=16)(hbl:b.length<=16):
  ∃k o k',((rm FS n.Op).getD (fun _ _=>none)) c n=some ((k,o&&(if n.Op=8 then(c.kinds.length:Int)==IntKind.i64.wrap ((c.Logic.Nodes.length:Int)-(1:Int))else true)),c)/\bX n a b=some (k',o)/\(o=true->k=k'):=by
 have go: ∀(m:Option (List Int×Bool)) (last:Bool),Ew m (bX n a b) last->((rm FS n.Op).getD (fun _ _=>none)) c n=m.map (fun mr=>(mr,c))->(if n.Op=8 then(c.kinds.length:Int)==IntKind.i64.wrap ((c.Logic.Nodes.length:Int)-(1:Int))else true)=last-> ∃k o k',((rm FS n.Op).getD (fun _ _=>none)) c n=some ((k,o&&(if n.Op=8 then(c.kinds.length:Int)==IntKind.i64.wrap ((c.Logic.Nodes.length:Int)-(1:Int))else true)),c)/\bX n a b=some (k',o)/\(o=true->k=k'):=by
  intro m last ⟨k,o,k',I,K,h3⟩ he hl
  exact⟨k,o,k',by rw [he,I,hl];rfl,K,h3⟩
 unfold FS at go ⊢
 rw [Vo]at go ⊢
 rcases qJ hop with h|h|h|h|h|h|h|h
 ·exact go _ _ (Ka c n a b hn h) (by simp [h]) (by simp [h])
 ·exact go _ _ (TT c n a b hn h (ha (by omega)) (M (.inl h)) hal hbl) (by simp [h]) (by simp [h])
 ·exact go _ _ (OV c n a b hn h (ha (by omega))) (by simp [h]) (by simp [h])
 ·exact go _ _ (QD c n a b hn h (ha (by omega))) (by simp [h]) (by simp [h])
 ·exact go _ _ (LF c n a b hn h (ha (by omega))) (by simp [h]) (by simp [h])
 ·exact go _ _ (JA c n a b h (ha (by omega))) (by simp [h]) (by simp [h])
 ·exact go _ _ (PP c n a b h (ha (by omega)) (M (.inr h)) hal) (by simp [h]) (by simp [h])
 ·exact go _ _ (Qr c n a b hn h (ha (by omega))) (by simp [h]) (by simp [h])
def TF{Sg:Type}(yld:(Int×Bool)->Sg->Option (Bool×Sg)){kinds:List (List Int)}(hI:PF l i first kinds){tl:List aq}(hd:l.Nodes.drop i=n::tl)(hS:o4 l)(hl:l.Nodes.length<=60)(st:Sg):
  ∃first' kinds' ok,cq yld (n::tl) i st ⟨l,kinds,first⟩=((yld ((i:Int),ok) st).bind fun r2=>if((!r2.1)||(!ok))then some (r2.2,⟨l,kinds',first'⟩)else cq yld tl (i+1) r2.2 ⟨l,kinds',first'⟩)/\(∃x,mX l (i:Int)=some (x,ok))/\(ok=true->PF l (i+1) first' kinds'):=by
 obtain⟨hn,hi,_⟩:=kU hd
 have hfl:=hI.fl
 have hkl:=hI.kl
 have hSn:kO n:=hS n (by
  rw [cO]at hn
  exact BK hn)
 have hF:i+1<fm:=Ad (Ah _) (ku (by omega))
 have hu:cq yld (n::tl) i st ⟨l,kinds,first⟩=(if(rm FS n.Op).isSome then((wu n).bind fun r=>(wt r).bind fun r1=>some r1)else some false).bind fun t=>if t then((lN ⟨l,kinds,first⟩ (i:Int)).bind fun r4=>(app first ([r4.1])).bind fun l7=>fP yld (cq yld tl) i n st r4.2 ⟨l,kinds,l7⟩)else(fP yld (cq yld tl) i n st t ⟨l,kinds,first⟩):=rfl
 rw [hu,Vp]
 have hk2: ∀(ok1:Bool) (k:List Int) (f' :List Int),iM yld (cq yld tl) i st ok1 k ⟨l,kinds,f'⟩=((yld ((i:Int),ok1&&decide (k.length<=16)) st).bind fun r2=>if((!r2.1)||(!(ok1&&decide (k.length<=16))))then some (r2.2,⟨l,kinds++[k],f'⟩)else cq yld tl (i+1) r2.2 ⟨l,kinds++[k],f'⟩):=by
  intro ok1 k f'
  unfold iM
  rw [cA (by simp;omega)]
  have:decide ((k.length:Int)<=16)=decide (k.length<=16):=by rw [De];simp;omega
  simp only [bt,this]
 have hk1: ∀(f' :List Int),fP yld (cq yld tl) i n st false ⟨l,kinds,f'⟩=((yld ((i:Int),false) st).bind fun r2=>if((!r2.1)||(!false))then some (r2.2,⟨l,kinds++[[]],f'⟩)else cq yld tl (i+1) r2.2 ⟨l,kinds++[[]],f'⟩):=by
  intro f'
  unfold fP
  rw [aS (by decide),hk2]
  rfl
 by_cases hop:HR n.Op=true
 ·rw [br hop,Vb n hop]
  simp only [bt]
  obtain⟨f,ok,hb1,hb2⟩:=QX hI hn hi (by omega) hop
  cases ho:EV n with
  |false=>
   simp only [iq,fU]
   rw [hk1]
   refine⟨first,kinds++[[]],false,rfl,⟨[],H8 hn (by omega) (.inr ⟨?_,ho⟩)⟩,by simp⟩
   rcases hb2 with⟨_,s,_,_,_,h,_⟩|⟨_,h⟩
   ·exact⟨s,h⟩
   ·exact⟨0,h⟩
  |true=>
   simp only [gx]
   rw [hb1]
   simp only [bt]
   rw [cA (by simp;omega)]
   simp only [bt]
   rcases hb2 with⟨hok,s,hs,hs2,hf,hsz,hp⟩|⟨hok,h⟩
   ·subst hok
    obtain⟨a,b,ha,M,hal,hbl,hK⟩:=QC hI hn (by omega) hi hs hsz hp ho hop
    obtain⟨k,o,k',m1,m2,m3⟩:=TL ⟨l,kinds,first++[f]⟩ n a b hSn hop ha M hal hbl
    have hk1' :fP yld (cq yld tl) i n st true ⟨l,kinds,first++[f]⟩=((((rm FS n.Op).getD (fun _ _=>none)) ⟨l,kinds,first++[f]⟩ n).bind fun r3=>iM yld (cq yld tl) i st r3.1.2 r3.1.1 r3.2):=rfl
    rw [hk1',m1]
    simp only [bt]
    rw [hk2]
    have hlast:((kinds.length:Int)==IntKind.i64.wrap ((l.Nodes.length:Int)-1))=((i:Int)==IntKind.i64.wrap ((l.Nodes.length:Int)-1)):=by rw [hkl]
    have hKk: ∀fu,i+1<fu-> ∃x,cV fu l (i:Int)=some (x,(o&&(if n.Op=8 then(kinds.length:Int)==IntKind.i64.wrap ((l.Nodes.length:Int)-(1:Int))else true))&&decide (k.length<=16))/\(((o&&(if n.Op=8 then(kinds.length:Int)==IntKind.i64.wrap ((l.Nodes.length:Int)-(1:Int))else true))&&decide (k.length<=16))=true->x=k):=by
     intro fu hf
     rw [hK fu hf]
     unfold iu
     rw [m2]
     simp only [bt]
     rw [hlast]
     cases o with
     |false=>
      simp only [GQ]
      split
      ·exact⟨_,rfl,by simp⟩
      ·exact⟨_,rfl,by simp⟩
     |true=>
      have:=m3 rfl
      subst this
      simp only [xr]
      by_cases h8:n.Op=8
      ·by_cases hL:(i:Int)=IntKind.i64.wrap ((l.Nodes.length:Int)-1)
       ·by_cases h16:k.length<=16
        ·rw [aS (by simp [<-hL];omega)]
         exact⟨k,by simp [h8,hL,h16],fun _=>rfl⟩
        ·rw [br (by simp;omega)]
         exact⟨[],by simp [h16],by simp [h16]⟩
       ·rw [br (by simp [h8,hL])]
        exact⟨[],by simp [h8,hL],by simp [h8,hL]⟩
      ·by_cases h16:k.length<=16
       ·rw [aS (by simp [h8];omega)]
        exact⟨k,by simp [h8,h16],fun _=>rfl⟩
       ·rw [br (by simp;omega)]
        exact⟨[],by simp [h16],by simp [h16]⟩
    refine⟨first++[f],kinds++[k],_,rfl,?_,fun hok=>?_⟩
    ·obtain⟨x,I,_⟩:=hKk fm hF
     exact⟨x,I⟩
    ·refine hI.push (s:=s) ⟨hs,hs2,hf,hsz,?_,fun fu hfu=>?_⟩
     ·simp at hok;exact hok.2
     ·obtain⟨x,I,K⟩:=hKk fu hfu
      rw [I,K hok,hok]
   ·subst hok
    rw [hk1]
    exact⟨first++[f],kinds++[[]],false,rfl,⟨[],H8 hn (by omega) (.inl h)⟩,by simp⟩
 ·rw [aS hop]
  simp only [bt,iq,fU]
  rw [hk1]
  refine⟨first,kinds++[[]],false,rfl,⟨[],H8 hn (by omega) (.inl fun fu hf=>?_)⟩,by simp⟩
  obtain⟨fu,rfl⟩: ∃k,fu=k+1:=⟨fu-1,by omega⟩
  unfold cR
  rw [aS (by simp;omega),hn]
  simp only [bt,nR]
  have I: ¬n.Op=1:=fun h=>hop (by rw [h];rfl)
  have K: ¬n.Op=2:=fun h=>hop (by rw [h];rfl)
  have h7: ¬n.Op=7:=fun h=>hop (by rw [h];rfl)
  simp [I,K,h7,hop]
def XM(hS:o4 l)(hl:l.Nodes.length<=60): ∀(tl:List aq) (i:Nat) (first:List Int) (kinds:List (List Int)),PF l i first kinds->l.Nodes.drop i=tl->i+tl.length=l.Nodes.length->
  ∃st ob,cq (zN (fun x s=>rn x s.1 s.2.1 s.2.2)) tl i (none,(false,(0:Int),false)) ⟨l,kinds,first⟩=some (st,ob)/\ob.Logic=l/\
   ((st=(none,(false,(0:Int),false))/\PF l l.Nodes.length ob.first ob.kinds/\ge l tl i=ge l [] l.Nodes.length)\/(∃j:Nat,st=(some 0,(false,(j:Int),true))/\ge l tl i=some (j:Int))):=by
 intro tl
 induction tl with
 |nil=>
  intro i first kinds hI hd hi
  simp only [oo,vg]at hi
  subst hi
  exact⟨_,_,rfl,rfl,.inl ⟨rfl,hI,rfl⟩⟩
 |cons n tl ih=>
  intro i first kinds hI hd hi
  simp only [io]at hi
  obtain⟨f',k',ok,I,⟨x,K⟩,h3⟩:=TF (zN (fun x s=>rn x s.1 s.2.1 s.2.2)) hI hd hS hl (none,(false,(0:Int),false))
  rw [I]
  have hW:ge l (n::tl) i=if(!ok)then some (i:Int)else ge l tl (i+1):=by
   conv=>lhs;unfold ge
   rw [K];rfl
  rw [hW]
  cases ok with
  |false=>exact⟨_,_,rfl,rfl,.inr ⟨i,rfl,rfl⟩⟩
  |true=>
   obtain⟨st,ob,g1,g2,g3⟩:=ih (i+1) f' k' (h3 rfl) (kU hd).2.2 (by omega)
   refine⟨st,ob,?_,g2,?_⟩
   ·exact g1
   ·simpa using g3
def PF.nil(l:cC):PF l 0 [] []:=⟨rfl,rfl,fun j h=>absurd h (Nat.not_lt_zero _)⟩
structure WN(l:cC)(ob:aX):Prop where
 logic:ob.Logic=l
 pos:1<=l.Nodes.length
 le:l.Nodes.length<=60
 inv:PF l l.Nodes.length ob.first ob.kinds
 whole:lx l ((l.Nodes.length:Int)-1)=some (l.Nodes.length:Int)
def XN(hS:o4 l): ∃ob j ok,rX l=some (ob,j,ok)/\sq l=some (if ok then -1 else j)/\(0<=j)/\(ok=true->WN l ob/\j=(l.Nodes.length:Int)-1):=by
 unfold rX sq
 by_cases h:l.Nodes.length<1\/60<l.Nodes.length
 ·rw [br (by simp;omega),br (by simp;omega)]
  exact⟨_,_,_,rfl,rfl,Int.le_refl _,by simp⟩
 ·rw [aS (by simp;omega),aS (by simp;omega)]
  unfold s6
  simp only [bt]
  unfold nG
  obtain⟨st,ob,I,K,h3⟩:=XM hS (by omega) l.Nodes 0 [] [] (PF.nil l) rfl (by simp)
  have h1' :cq (zN (fun x s=>rn x s.1 s.2.1 s.2.2)) (⟨l,[],[]⟩:aX).Logic.Nodes 0 (none,(false,(0:Int),false)) ⟨l,[],[]⟩=some (st,ob):=I
  rw [h1']
  simp only [bt]
  rcases h3 with⟨rfl,hI,hW⟩|⟨j,rfl,hW⟩
  ·simp only [Option.isNone_none,gx]
   rw [dm (by omega) (by omega)]
   obtain⟨f,ks,s,g1,g2,g3⟩:=hI.node (l.Nodes.length-1) (by omega)
   have e:((l.Nodes.length-1:Nat):Int)=(l.Nodes.length:Int)-1:=by omega
   have hid:di ob.first ((l.Nodes.length:Int)-1)=some f:=by rw [<-e,cO];exact g1
   rw [hid]
   simp only [bt]
   have hsz:lx l ((l.Nodes.length:Int)-1)=some (s:Int):=by
    have:=g3.size fm (Ad (Ah _) (ku (by omega)))
    rw [e]at this;exact this
   have hf:=g3.fst
   refine⟨_,_,_,rfl,?_,by omega,fun hok=>?_⟩
   ·rw [hW]
    unfold ge
    rw [dm (by omega) (by omega),hsz]
    simp only [bt]
    by_cases hs:s=l.Nodes.length
    ·rw [aS (by simp [hs]),br (by simp;omega)]
    ·rw [br (by simp;omega),aS (by simp;omega)]
   ·have hs:s=l.Nodes.length:=by simp at hok;omega
    exact⟨⟨K,by omega,by omega,hI,by rw [hsz,hs]⟩,rfl⟩
  ·simp only [Option.isNone_some,iq,fU]
   refine⟨ob,(j:Int),false,rfl,by rw [hW];rfl,by omega,by simp⟩

def wy{n:Nat}(h:n<=900000):n<fm:=Ad (Ah _) (ku (by omega))
def Hh(d x:Int):Int:=if 0<=x then IntKind.i64.wrap (x+d)else x
def Jb(d:Int)(n:aq):aq:={n with A:=Hh d n.A,B:=Hh d n.B}
def kO.sh(h:kO n)(d:Int):kO (Jb d n):=⟨h.cond,h.kinds,h.keys,h.aggs,h.items,h.order,h.args,h.exprs⟩
def kO.at(h:kO n)(a b:Int):kO {n with A:=a,B:=b}:=⟨h.cond,h.kinds,h.keys,h.aggs,h.items,h.order,h.args,h.exprs⟩
def set_same{e:α}(h:xs[i]? =some e):xs.set i e=xs:=by
 apply Nf
 intro j
 rw [List.getElem?_set]
 split
 ·rename_i hj;subst hj
  split
  ·exact h.symm
  ·rename_i K;rw [GW (by omega)]
 ·rfl
def vH(h:kO n):pm n=some n:=by
 have hK:=h.kinds
 have hk:=h.keys
 have hA:=h.aggs
 have hI:=h.items
 have hO:=h.order
 have hc:=h.cond
 have hcl: ∀{l:List bZ},l.length<=5000->df l=some l:=fun{l} hl=>by
  unfold df;rw [cA (by simp;omega)];rfl
 unfold pm
 rw [vJ _ (by omega),vJ _ (by omega)]
 simp only [bt]
 have e1:fK n.Order=some n.Order:=by unfold fK;rw [cA (by simp;omega)];rfl
 rw [e1]
 simp only [bt]
 rw [hcl hc]
 simp only [bt]
 have e2:gS n.Aggs=some n.Aggs:=by unfold gS;rw [cA (by simp;omega)];rfl
 rw [e2]
 simp only [bt]
 have e3:gc n.Items=some n.Items:=by unfold gc;rw [cA (by simp;omega)];rfl
 rw [e3]
 simp only [bt]
 have key2: ∀(tl:List cy) (i:Nat),n.Items.drop i=tl->(∀e∈tl,e.Nodes.length<=5000)->pi tl i n=some n:=by
  intro tl
  induction tl with
  |nil=>intro i _ _;rfl
  |cons x tl ih=>
   intro i hd hs
   obtain⟨I,K,h3⟩:=kU hd
   unfold pi
   rw [I]
   simp only [bt]
   rw [hcl (hs x (mp ..))]
   simp only [bt,BH]
   rw [cO]at I
   have e4:n.Items.set i ({x with Nodes:=x.Nodes}:cy)=n.Items:=set_same I
   rw [e4]
   exact ih (i+1) h3 (fun e he=>hs e (lT _ he))
 have key1: ∀(tl:List jt) (i:Nat),n.Aggs.drop i=tl->(∀e∈tl,e.Arg.Nodes.length<=5000)->pj tl i n=some n:=by
  intro tl
  induction tl with
  |nil=>intro i _ _;exact key2 n.Items 0 rfl h.exprs
  |cons x tl ih=>
   intro i hd hs
   obtain⟨I,K,h3⟩:=kU hd
   unfold pj
   rw [I]
   simp only [bt]
   rw [hcl (hs x (mp ..))]
   simp only [bt,BH]
   rw [cO]at I
   have e4:n.Aggs.set i ({x with Arg:=({x.Arg with Nodes:=x.Arg.Nodes}:cy)}:jt)=n.Aggs:=set_same I
   rw [e4]
   exact ih (i+1) h3 (fun e he=>hs e (lT _ he))
 exact key1 n.Aggs 0 rfl h.args
def Gh(h:kO n)(d:Int):vC n d=some (Jb d n):=by
 unfold vC rE Jb Hh
 by_cases hA:0<=n.A<;>by_cases hB:0<=n.B
 ·rw [br (by simpa using hA),br (by simpa using hB),br hA,br hB]
  exact vH (h.at _ _)
 ·rw [br (by simpa using hA),aS (by simpa using hB),br hA,aS hB]
  exact vH (h.at _ _)
 ·rw [aS (by simpa using hA),br (by simpa using hB),aS hA,br hB]
  exact vH (h.at _ _)
 ·rw [aS (by simpa using hA),aS (by simpa using hB),aS hA,aS hB]
  exact vH (h.at _ _)
def nh(l:cC):Bool:=decide ((sq l).getD 0<0)
def sS(h:o4 l):w8 l=some (nh l)/\(∃j,uP l=some (if nh l then(0,0)else(j,230)))/\(∃ob j,rX l=some (ob,j,nh l)/\(nh l=true->WN l ob/\j=(l.Nodes.length:Int)-1)):=by
 obtain⟨ob,j,ok,I,K,h3,h4⟩:=XN h
 have e:nh l=ok:=by
  unfold nh
  rw [K]
  cases ok<;>simp<;>omega
 refine⟨?_,⟨j,?_⟩,ob,j,?_⟩
 ·unfold w8 nh
  rw [K];rfl
 ·unfold uP
  rw [I,e]
  cases ok<;>rfl
 ·rw [e]
  exact⟨I,h4⟩
def NK(hA:n.A<=100000)(hB:n.B<=100000):Jb 0 n=n:=by
 have h: ∀x:Int,x<=100000->Hh 0 x=x:=by
  intro x V
  unfold Hh
  by_cases h:0<=x
  ·rw [br h,Int.add_zero,dm (by omega) (by omega)]
  ·rw [aS h]
 unfold Jb
 rw [h _ hA,h _ hB]
def XJ{d:Int}{ns:List aq}(h: ∀n∈ns,kO n): ∀n∈ns.map (Jb d),kO n:=by
 intro n hn
 obtain⟨m,hm,rfl⟩:=xT.1 hn
 exact(h m hm).sh d

structure C7(l:cC)(sz:Nat->Nat)(ks:Nat->List Int)(j:Nat)(n:aq):Prop where
 node:di l.Nodes (j:Int)=some n
 op:HR n.Op=true
 own:EV n=true
 lf:n.Op=1->n.A= -1/\n.B= -1/\sz j=1
 un:n.Op≠1->n.Op≠2->n.Op≠7->0<j/\n.A=(j:Int)-1/\n.B= -1/\sz j=sz (j-1)+1
 bi:n.Op=2\/n.Op=7->0<j/\n.B=(j:Int)-1/\sz (j-1)<j/\n.A=(j:Int)-1-(sz (j-1):Int)/\sz j=sz (j-1-sz (j-1))+sz (j-1)+1
 kinds:bX n (if n.A<0 then []else ks n.A.toNat) (if n.B<0 then []else ks n.B.toNat)=some (ks j,true)
 last:n.Op=8->j+1=l.Nodes.length
 len:(ks j).length<=16
 pos:1<=sz j
 le:sz j<=j+1
def JY(hn:di l.Nodes (j:Int)=some n)(hj:j<l.Nodes.length)(hl:l.Nodes.length<=1000)(fu:Nat):cR (fu+1) l (j:Int)=
  if n.Op=1 then(if n.A= -1/\n.B= -1 then some 1 else some 0)
  else if n.Op=2\/n.Op=7 then(if n.B=(j:Int)-1 then((cR fu) l n.B).bind (fun r2=>if((decide ((0:Int)<r2))&&(n.A==(IntKind.i64.wrap (n.B-r2))))then(((cR fu) l n.A).bind fun r3=>if(decide ((0:Int)<r3))then(some (IntKind.i64.wrap ((IntKind.i64.wrap (r3+r2))+(1:Int))))else(some (0:Int)))else(some (0:Int)))else some 0)
  else if HR n.Op=true then(if n.A=(j:Int)-1/\n.B= -1 then((cR fu) l n.A).bind (fun r1=>if(decide ((0:Int)<r1))then(some (IntKind.i64.wrap (r1+(1:Int))))else(some (0:Int)))else some 0)
  else some 0:=by
 conv=>lhs;unfold cR
 rw [aS (by simp;omega),hn]
 simp only [bt,nR]
 by_cases I:n.Op=1
 ·simp only [I,gx]
  rw [br (by decide)]
  by_cases hAB:n.A= -1/\n.B= -1
  ·rw [br hAB,br (by simp [hAB])]
  ·rw [aS hAB,aS (by simpa using hAB)]
 by_cases h27:n.Op=2\/n.Op=7
 ·simp only [I,h27,gx,fU]
  rw [aS (by decide),aS (by decide),br (by decide),dm (n:=(j:Int)-1) (by omega) (by omega)]
  by_cases hB:n.B=(j:Int)-1
  ·rw [br (by simp [hB]),br hB]
  ·rw [aS (by simpa using hB),aS hB]
 by_cases hop:HR n.Op=true
 ·simp only [I,h27,hop,gx,fU]
  rw [aS (by decide),br (by decide),dm (n:=(j:Int)-1) (by omega) (by omega)]
  by_cases hB:n.A=(j:Int)-1/\n.B= -1
  ·rw [br (by simp [hB]),br hB]
  ·rw [aS (by simpa using hB),aS hB]
 ·simp only [I,h27,hop,fU]
  rw [aS (by decide),aS (by decide),aS (by decide)]
  rfl
def DV{s:Int}(hn:di l.Nodes (j:Int)=some n)(hs:lx l (j:Int)=some s)(hs0:s≠0)(ho:EV n=true)(fu:Nat):cV (fu+1) l (j:Int)=if(decide ((0:Int)<=n.A))then(((cV fu) l n.A).bind fun r4=>if(!r4.2)then(some ([],false))else(fM (cV fu) l (j:Int) n r4.1))else(fM (cV fu) l (j:Int) n ([])):=by
 conv=>lhs;unfold cV
 rw [hs,hn]
 simp only [bt,vy,ho]
 have:(s==0)=false:=by simpa using hs0
 simp [this]
def z6(first:List Int)(j:Nat):Nat:=((j:Int)+1-(first[j]?).getD 0).toNat
def PE(kinds:List (List Int))(j:Nat):List Int:=(kinds[j]?).getD []
def PF.at{kinds:List (List Int)}(h:PF l i first kinds)(hj:j<i):Q7 l j ((j:Int)+1-(z6 first j:Int)) (PE kinds j) (z6 first j)/\first[j]? =some ((j:Int)+1-(z6 first j:Int)):=by
 obtain⟨f,k,s,I,K,h3⟩:=h.node j hj
 have e1:PE kinds j=k:=by unfold PE;rw [K];rfl
 have hf:=h3.fst
 have hp:=h3.pos
 have e2:z6 first j=s:=by unfold z6;rw [I];simp only [JJ];omega
 rw [e1,e2,<-hf]
 exact⟨h3,I⟩
def Im{kinds:List (List Int)}(hI:PF l l.Nodes.length first kinds)(hl:l.Nodes.length<=60)(hj:j<l.Nodes.length): ∃n,C7 l (z6 first) (PE kinds) j n:=by
 obtain⟨N0,_⟩:=hI.at hj
 have hn:di l.Nodes (j:Int)=some l.Nodes[j]:=by rw [cO,p5 hj]
 obtain⟨n,hnn⟩: ∃n,n=l.Nodes[j]:=⟨_,rfl⟩
 rw [<-hnn]at hn
 have hpos:=N0.pos
 have hsz:=N0.size (j+3) (by omega)
 rw [JY hn hj (by omega)]at hsz
 have hnone: ∀{x:Int},x=0-> ¬(some x=some (z6 first j:Int)):=by
  intro x V h
  injection h with h
  omega
 -- the places
 have P:HR n.Op=true/\(n.Op=1->n.A= -1/\n.B= -1/\z6 first j=1)/\(n.Op≠1->n.Op≠2->n.Op≠7->0<j/\n.A=(j:Int)-1/\n.B= -1/\z6 first j=z6 first (j-1)+1)/\(n.Op=2\/n.Op=7->0<j/\n.B=(j:Int)-1/\z6 first (j-1)<j/\n.A=(j:Int)-1-(z6 first (j-1):Int)/\z6 first j=z6 first (j-1-z6 first (j-1))+z6 first (j-1)+1):=by
  by_cases I:n.Op=1
  ·rw [br I]at hsz
   by_cases hAB:n.A= -1/\n.B= -1
   ·rw [br hAB]at hsz
    injection hsz with hsz
    exact⟨by rw [I];rfl,fun _=>⟨hAB.1,hAB.2,by omega⟩,fun h=>absurd I h,fun h=>by omega⟩
   ·rw [aS hAB]at hsz;exact absurd hsz (hnone rfl)
  rw [aS I]at hsz
  by_cases h27:n.Op=2\/n.Op=7
  ·rw [br h27]at hsz
   by_cases hB:n.B=(j:Int)-1
   ·rw [br hB]at hsz
    by_cases hj0:j=0
    ·rw [xW l (by omega) (by omega)]at hsz
     exact absurd hsz (hnone rfl)
    ·obtain⟨NB,_⟩:=hI.at (j:=j-1) (by omega)
     have eB:((j-1:Nat):Int)=n.B:=by omega
     have hszB:=NB.size (j+2) (by omega)
     have hpB:=NB.pos
     have hlB:=NB.le
     rw [eB]at hszB
     rw [hszB]at hsz
     simp only [bt]at hsz
     rw [dm (n:=n.B-_) (by omega) (by omega)]at hsz
     by_cases hA:n.A=n.B-(z6 first (j-1):Int)
     ·rw [br (by simp [hA];omega)]at hsz
      by_cases hA0:n.A<0
      ·rw [xW l (by omega) hA0]at hsz
       exact absurd hsz (hnone rfl)
      ·obtain⟨NA,_⟩:=hI.at (j:=j-1-z6 first (j-1)) (by omega)
       have eA:((j-1-z6 first (j-1):Nat):Int)=n.A:=by omega
       have hszA:=NA.size (j+2) (by omega)
       have hpA:=NA.pos
       have hlA:=NA.le
       rw [eA]at hszA
       rw [hszA]at hsz
       simp only [bt]at hsz
       rw [br (by simp;omega),dm (n:=(z6 first (j-1-z6 first (j-1)):Int)+(z6 first (j-1):Int)) (by omega) (by omega),dm (by omega) (by omega)]at hsz
       injection hsz with hsz
       refine⟨?_,fun h=>absurd h I,fun _ K h7=>by rcases h27 with h|h;exact absurd h K;exact absurd h h7,fun _=>⟨by omega,hB,by omega,by omega,by omega⟩⟩
       rcases h27 with h|h<;>rw [h]<;>rfl
     ·rw [aS (by simp;intro _;exact hA)]at hsz
      exact absurd hsz (hnone rfl)
   ·rw [aS hB]at hsz;exact absurd hsz (hnone rfl)
  rw [aS h27]at hsz
  by_cases hop:HR n.Op=true
  ·rw [br hop]at hsz
   by_cases hA:n.A=(j:Int)-1/\n.B= -1
   ·rw [br hA]at hsz
    by_cases hj0:j=0
    ·rw [xW l (by omega) (by omega)]at hsz
     exact absurd hsz (hnone rfl)
    ·obtain⟨NA,_⟩:=hI.at (j:=j-1) (by omega)
     have eA:((j-1:Nat):Int)=n.A:=by omega
     have hszA:=NA.size (j+2) (by omega)
     have hpA:=NA.pos
     have hlA:=NA.le
     rw [eA]at hszA
     rw [hszA]at hsz
     simp only [bt]at hsz
     rw [br (by simp;omega),dm (by omega) (by omega)]at hsz
     injection hsz with hsz
     exact⟨hop,fun h=>absurd h I,fun _ _ _=>⟨by omega,hA.1,hA.2,by omega⟩,fun h=>absurd h h27⟩
   ·rw [aS hA]at hsz;exact absurd hsz (hnone rfl)
  ·rw [aS hop]at hsz;exact absurd hsz (hnone rfl)
 obtain⟨p0,p1,p2,p3⟩:=P
 -- what it has of its own, and its kinds
 have hk:=N0.kinds (j+3) (by omega)
 have hszR:lx l (j:Int)=some (z6 first j:Int):=N0.size fm (wy (by omega))
 have ho:EV n=true:=by
  cases ho:EV n with
  |true=>rfl
  |false=>
   exfalso
   unfold cV at hk
   rw [hszR,hn]at hk
   simp only [bt,vy,ho]at hk
   have: ¬(z6 first j=0):=by omega
   simp [this]at hk
 have hpl:n.A<(j:Int)/\n.B<(j:Int):=by
  by_cases I:n.Op=1
  ·obtain⟨a,b,_⟩:=p1 I;omega
  by_cases h27:n.Op=2\/n.Op=7
  ·obtain⟨a,b,c,d,_⟩:=p3 h27;omega
  ·obtain⟨a,b,c,_⟩:=p2 I (fun h=>h27 (.inl h)) (fun h=>h27 (.inr h));omega
 rw [DV hn hszR (by omega) ho]at hk
 have hkA: ∀(p:Int),0<=p->p<(j:Int)->cV (j+2) l p=some (PE kinds p.toNat,true):=by
  intro p hp0 hpj
  obtain⟨NA,_⟩:=hI.at (j:=p.toNat) (by omega)
  have:=NA.kinds (j+2) (by omega)
  rw [show((p.toNat:Nat):Int)=p from by omega]at this
  exact this
 have hk1: ∀a,fM (cV (j+2)) l (j:Int) n a=iu l (j:Int) n a (if n.B<0 then []else PE kinds n.B.toNat):=by
  intro a
  unfold fM
  by_cases hB:0<=n.B
  ·rw [br (by simpa using hB),hkA n.B hB hpl.2,aS (by omega)]
   rfl
  ·rw [aS (by simpa using hB),br (by omega)]
 have hk2:iu l (j:Int) n (if n.A<0 then []else PE kinds n.A.toNat) (if n.B<0 then []else PE kinds n.B.toNat)=some (PE kinds j,true):=by
  by_cases hA:0<=n.A
  ·rw [br (by simpa using hA),hkA n.A hA hpl.1]at hk
   simp only [bt,p6,iq,fU]at hk
   rw [hk1]at hk
   rw [aS (show¬n.A<0 by omega)]
   exact hk
  ·rw [aS (by simpa using hA),hk1]at hk
   rw [br (show n.A<0 by omega)]
   exact hk
 unfold iu at hk2
 cases hr:bX n (if n.A<0 then []else PE kinds n.A.toNat) (if n.B<0 then []else PE kinds n.B.toNat)with
 |none=>rw [hr]at hk2;cases hk2
 |some r=>
  rw [hr]at hk2
  simp only [bt]at hk2
  split at hk2
  ·simp at hk2
  ·rename_i hc
   injection hk2 with hk2
   injection hk2 with e1 e2
   refine⟨n,hn,p0,ho,p1,p2,p3,?_,fun h8=>?_,N0.len,N0.pos,N0.le⟩
   ·rw [hr,<-e1,<-e2]
   ·simp only [tB,gN,uZ,ux,j9,not_or,not_and,Decidable.not_not]at hc
    have:=hc.1 h8
    rw [dm (by omega) (by omega)]at this
    omega
variable{sz:Nat->Nat}
def T0{m:Nat}(hl:l.Nodes.length<=60)(hm:m<=l.Nodes.length)(h: ∀j,j<m-> ∃n,C7 l sz ks j n): ∀(j:Nat),j<m->(∀fu,j+1<fu->cR fu l (j:Int)=some (sz j:Int))/\ ∀fu,j+1<fu->cV fu l (j:Int)=some (ks j,true):=by
 intro j
 induction j using Nat.strongRecOn with
 |ind j ih=>
  intro hj
  obtain⟨n,F⟩:=h j hj
  have hpl:n.A<(j:Int)/\n.B<(j:Int):=by
   by_cases I:n.Op=1
   ·obtain⟨a,b,_⟩:=F.lf I;omega
   by_cases h27:n.Op=2\/n.Op=7
   ·obtain⟨a,b,c,d,_⟩:=F.bi h27;omega
   ·obtain⟨a,b,c,_⟩:=F.un I (fun h=>h27 (.inl h)) (fun h=>h27 (.inr h));omega
  have hS: ∀fu,j+1<fu->cR fu l (j:Int)=some (sz j:Int):=by
   intro fu hf
   obtain⟨fu,rfl⟩: ∃k,fu=k+1:=⟨fu-1,by omega⟩
   rw [JY F.node (by omega) (by omega)]
   by_cases I:n.Op=1
   ·obtain⟨a,b,c⟩:=F.lf I
    rw [br I,br ⟨a,b⟩,c];rfl
   rw [aS I]
   by_cases h27:n.Op=2\/n.Op=7
   ·obtain⟨a,b,c,d,e⟩:=F.bi h27
    obtain⟨nB,FB⟩:=h (j-1) (by omega)
    obtain⟨nA,FA⟩:=h (j-1-sz (j-1)) (by omega)
    have hB:=(ih (j-1) (by omega) (by omega)).1 fu (by omega)
    have hA:=(ih (j-1-sz (j-1)) (by omega) (by omega)).1 fu (by omega)
    rw [show((j-1:Nat):Int)=n.B from by omega]at hB
    rw [show((j-1-sz (j-1):Nat):Int)=n.A from by omega]at hA
    have q1:=FB.pos
    have q2:=FB.le
    have q3:=FA.pos
    have q4:=FA.le
    rw [br h27,br b,hB]
    simp only [bt]
    rw [dm (n:=n.B-_) (by omega) (by omega),br (by simp;omega),hA]
    simp only [bt]
    rw [br (by simp;omega),dm (n:=(sz (j-1-sz (j-1)):Int)+(sz (j-1):Int)) (by omega) (by omega),dm (by omega) (by omega),e]
    rfl
   ·obtain⟨a,b,c,d⟩:=F.un I (fun h=>h27 (.inl h)) (fun h=>h27 (.inr h))
    obtain⟨nA,FA⟩:=h (j-1) (by omega)
    have hA:=(ih (j-1) (by omega) (by omega)).1 fu (by omega)
    rw [show((j-1:Nat):Int)=n.A from by omega]at hA
    have q1:=FA.pos
    have q2:=FA.le
    rw [aS h27,br F.op,br ⟨b,c⟩,hA]
    simp only [bt]
    rw [br (by simp;omega),dm (by omega) (by omega),d]
    rfl
  refine⟨hS,fun fu hf=>?_⟩
  obtain⟨fu,rfl⟩: ∃k,fu=k+1:=⟨fu-1,by omega⟩
  have hszR:lx l (j:Int)=some (sz j:Int):=hS fm (wy (by omega))
  have hp:=F.pos
  rw [DV F.node hszR (by omega) F.own]
  have hkA: ∀(p:Int),0<=p->p<(j:Int)->cV fu l p=some (ks p.toNat,true):=by
   intro p hp0 hpj
   have:=(ih p.toNat (by omega) (by omega)).2 fu (by omega)
   rw [show((p.toNat:Nat):Int)=p from by omega]at this
   exact this
  have hk1: ∀a,fM (cV fu) l (j:Int) n a=iu l (j:Int) n a (if n.B<0 then []else ks n.B.toNat):=by
   intro a
   unfold fM
   by_cases hB:0<=n.B
   ·rw [br (by simpa using hB),hkA n.B hB hpl.2,aS (by omega)]
    rfl
   ·rw [aS (by simpa using hB),br (by omega)]
  have hk2:iu l (j:Int) n (if n.A<0 then []else ks n.A.toNat) (if n.B<0 then []else ks n.B.toNat)=some (ks j,true):=by
   unfold iu
   rw [F.kinds]
   simp only [bt]
   rw [aS]
   have hlen:=F.len
   simp only [tB,gN,uZ,ux,j9,not_or,not_and,Decidable.not_not]
   refine⟨fun h8=>?_,by omega⟩
   have:=F.last h8
   rw [dm (by omega) (by omega)]
   omega
  by_cases hA:0<=n.A
  ·rw [br (by simpa using hA),hkA n.A hA hpl.1]
   simp only [bt,p6,iq,fU]
   rw [hk1]
   rw [aS (show¬n.A<0 by omega)]at hk2
   exact hk2
  ·rw [aS (by simpa using hA),hk1]
   rw [br (show n.A<0 by omega)]at hk2
   exact hk2
def OX(hl:l.Nodes.length<=60)(hp:1<=l.Nodes.length)(h: ∀j,j<l.Nodes.length-> ∃n,C7 l sz ks j n)(hw:sz (l.Nodes.length-1)=l.Nodes.length):nh l=true:=by
 have hg:=T0 hl (fa _) h
 unfold nh sq
 rw [aS (by simp;omega)]
 have key: ∀(tl:List aq) (i:Nat),l.Nodes.drop i=tl->i+tl.length=l.Nodes.length->ge l tl i=some (-1):=by
  intro tl
  induction tl with
  |nil=>
   intro i _ _
   unfold ge
   have:=(hg (l.Nodes.length-1) (by omega)).1 fm (wy (by omega))
   rw [dm (by omega) (by omega),show(l.Nodes.length:Int)-1=((l.Nodes.length-1:Nat):Int)from by omega]
   unfold lx
   rw [this,hw]
   simp
  |cons n tl ih=>
   intro i hd hi
   simp only [io]at hi
   obtain⟨_,K,h3⟩:=kU hd
   unfold ge mX
   rw [(hg i K).2 fm (wy (by omega))]
   simp only [bt,p6,iq,fU]
   exact ih (i+1) h3 (by omega)
 rw [key l.Nodes 0 rfl (by simp)]
 rfl

structure afU(n:aq):Prop where
 cond:0<n.Cond.Nodes.length->lW n.Cond.Nodes=true
 items: ∀e∈n.Items,0<e.Nodes.length->lW e.Nodes=true
 args: ∀g∈n.Aggs,0<g.Arg.Nodes.length->lW g.Arg.Nodes=true
def Nr(e:cy):Bool:= !e.Nodes.isEmpty&&e.Nodes.any arB
def UH(g:jt):Bool:=if g.Tag=3 then true else Nr g.Arg
def Lk(n:aq):Bool:=Nr n.Cond||n.Items.any Nr||n.Aggs.any UH

def CO(l:cC)(e p:Nat):cC:=⟨((l.Nodes.take (p+1)).drop e).map (Jb (-(e:Int)))⟩
def ze{e:Nat}(hp:p<l.Nodes.length):(CO l e p).Nodes.length=p+1-e:=by
 unfold CO;simp;omega
def LI(h:o4 l)(e p:Nat):o4 (CO l e p):=
 XJ fun n hn=>h n (List.mem_of_mem_take (List.mem_of_mem_drop hn))
def Q5(hS:o4 l)(hl:l.Nodes.length<=60){e:Nat}(hp:p<l.Nodes.length)(he:e<=100): ∀(tl:List aq) (i fu:Nat) (out:cC),(l.Nodes.take (p+1)).drop i=tl->i+tl.length=p+1->tl.length<fu->out.Nodes.length<=i->pI l (p:Int) (e:Int) fu (i:Int) out=some (⟨out.Nodes++tl.map (Jb (-(e:Int)))⟩,0):=by
 intro tl
 induction tl with
 |nil=>
  intro i fu out hd hi hf _
  obtain⟨fu,rfl⟩: ∃k,fu=k+1:=⟨fu-1,by omega⟩
  simp only [oo,vg]at hi
  rw [pI,aS (by simp;omega)]
  simp
 |cons x tl ih=>
  intro i fu out hd hi hf ho
  simp only [io]at hi hf
  obtain⟨fu,rfl⟩: ∃k,fu=k+1:=⟨fu-1,by omega⟩
  obtain⟨I,K,h3⟩:=kU hd
  have h1' :di l.Nodes (i:Int)=some x:=by
   rw [cO]at I ⊢
   rw [EG (by omega)]at I
   exact I
  have V:kO x:=hS x (by rw [cO]at h1';exact BK h1')
  rw [pI,br (by simp;omega),h1']
  simp only [bt]
  rw [dm (n:=(0:Int)-(e:Int)) (by omega) (by omega),Gh V]
  simp only [bt]
  rw [cA (by simp;omega),dm (by omega) (by omega),show((i:Int)+1)=((i+1:Nat):Int)from by omega]
  simp only [bt]
  rw [ih (i+1) fu _ h3 (by omega) (by omega) (by simp;omega)]
  simp

def OD(n:aq)(d:Int): ∀(fu:Nat) (ok:Bool) (i:Int),ez (Jb d n) fu ok i=ez n fu ok i:=by
 intro fu
 induction fu with
 |zero=>intros;rfl
 |succ fu ih=>intros;simp only [ez,ih];rfl
def OB(n:aq)(d:Int)(a:List Int): ∀(fu:Nat) (out:List Int) (ok:Bool) (i:Int),eU (Jb d n) a fu out ok i=eU n a fu out ok i:=by
 intro fu
 induction fu with
 |zero=>intros;rfl
 |succ fu ih=>intros;simp only [eU,ih];rfl
def OC(n:aq)(d:Int)(a:List Int): ∀(fu:Nat) (out:List Int) (i:Int),eV (Jb d n) a fu out i=eV n a fu out i:=by
 intro fu
 induction fu with
 |zero=>intros;rfl
 |succ fu ih=>intros;simp only [eV,ih,OB];rfl
def OA(n:aq)(d:Int)(a:List Int): ∀(fu:Nat) (out:List Int) (ok:Bool) (i:Int),eT (Jb d n) a fu out ok i=eT n a fu out ok i:=by
 intro fu
 induction fu with
 |zero=>intros;rfl
 |succ fu ih=>intros;simp only [eT,ih];rfl
def Oz(n:aq)(d:Int)(a:List Int): ∀(fu:Nat) (ok:Bool) (i:Int),dV (Jb d n) a fu ok i=dV n a fu ok i:=by
 intro fu
 induction fu with
 |zero=>intros;rfl
 |succ fu ih=>intros;simp only [dV,ih];rfl
def Oy(n:aq)(d:Int)(a b:List Int):bX (Jb d n) a b=bX n a b:=by
 unfold bX
 simp only [OD,OC,OA,Oz]
 rfl
def XA(n:aq)(d:Int):EV (Jb d n)=EV n:=rfl
section
abbrev Gr(l:cC)(sz:Nat->Nat)(ks:Nat->List Int):Prop:= ∀j,j<l.Nodes.length-> ∃n,C7 l sz ks j n
def adt(hg:Gr l sz ks): ∀(p:Nat),p<l.Nodes.length-> ∀q,p+1-sz p<=q->q<=p->p+1-sz p<=q+1-sz q:=by
 intro p
 induction p using Nat.strongRecOn with
 |ind p ih=>
  intro hp q I K
  by_cases hq:q=p
  ·subst hq;exact fa _
  obtain⟨n,F⟩:=hg p hp
  by_cases c1:n.Op=1
  ·obtain⟨_,_,e⟩:=F.lf c1
   omega
  by_cases c27:n.Op=2\/n.Op=7
  ·obtain⟨a,b,c,d,e⟩:=F.bi c27
   obtain⟨nA,FA⟩:=hg (p-1-sz (p-1)) (by omega)
   have hpA:=FA.pos
   have hlA:=FA.le
   by_cases hB:p-1+1-sz (p-1)<=q
   ·have:=ih (p-1) (by omega) (by omega) q hB (by omega)
    omega
   ·have:=ih (p-1-sz (p-1)) (by omega) (by omega) q (by omega) (by omega)
    omega
  ·obtain⟨a,b,c,d⟩:=F.un c1 (fun h=>c27 (.inl h)) (fun h=>c27 (.inr h))
   have:=ih (p-1) (by omega) (by omega) q (by omega) (by omega)
   omega
def abF(hg:Gr l sz ks)(hp:p<l.Nodes.length)(I:p+1-sz p<=i)(K:i<=p)(F:C7 l sz ks i n):(n.A= -1\/((p+1-sz p:Nat):Int)<=n.A/\n.A<(i:Int))/\(n.B= -1\/((p+1-sz p:Nat):Int)<=n.B/\n.B<(i:Int)):=by
 have hn:=adt hg p hp i I K
 by_cases c1:n.Op=1
 ·obtain⟨a,b,_⟩:=F.lf c1
  exact⟨.inl a,.inl b⟩
 by_cases c27:n.Op=2\/n.Op=7
 ·obtain⟨a,b,c,d,e⟩:=F.bi c27
  obtain⟨nA,FA⟩:=hg (i-1-sz (i-1)) (by omega)
  have hpA:=FA.pos
  have hlA:=FA.le
  exact⟨.inr (by omega),.inr (by omega)⟩
 ·obtain⟨a,b,c,d⟩:=F.un c1 (fun h=>c27 (.inl h)) (fun h=>c27 (.inr h))
  obtain⟨nA,FA⟩:=hg (i-1) (by omega)
  have hpA:=FA.pos
  exact⟨.inr (by omega),.inl c⟩
def Dx{d:Int}(h:x= -1):Hh d x= -1:=by unfold Hh;rw [aS (by omega),h]
def Lp{e:Int}(h:0<=e)(K:e<=x)(h3:x<=100000):Hh (-e) x=x-e:=by
 unfold Hh
 rw [br (by omega),dm (by omega) (by omega)]
 omega
def HN(hg:Gr l sz ks)(hl:l.Nodes.length<=60)(hp:p<l.Nodes.length)(hs:sz p<=p+1):Gr (CO l (p+1-sz p) p) (fun j=>sz (p+1-sz p+j)) (fun j=>ks (p+1-sz p+j)):=by
 obtain⟨e,he⟩: ∃e,e=p+1-sz p:=⟨_,rfl⟩
 rw [<-he]
 intro j hj
 rw [ze hp]at hj
 obtain⟨n,F⟩:=hg (e+j) (by omega)
 have hin:=abF hg hp (i:=e+j) (by omega) (by omega) F
 have hnest:=adt hg p hp (e+j) (by omega) (by omega)
 rw [<-he]at hin hnest
 obtain⟨hA,hB⟩:=hin
 refine⟨Jb (-(e:Int)) n,⟨?_,F.op,by rw [XA];exact F.own,fun c1=>?_,fun c1 c2 c7=>?_,fun c27=>?_,?_,fun c8=>?_,F.len,F.pos,?_⟩⟩
 ·have I:=F.node
  rw [cO]at I ⊢
  unfold CO
  simp only
  rw [GU,zU,EG (by omega),I]
  rfl
 ·obtain⟨a,b,c⟩:=F.lf c1
  exact⟨Dx a,Dx b,c⟩
 ·obtain⟨a,b,c,d⟩:=F.un c1 c2 c7
  obtain⟨nA,FA⟩:=hg (e+j-1) (by omega)
  have hpA:=FA.pos
  have eA:Hh (-(e:Int)) n.A=n.A-(e:Int):=Lp (by omega) (by omega) (by omega)
  refine⟨by omega,?_,Dx c,?_⟩
  ·show Hh (-(e:Int)) n.A=_
   rw [eA];omega
  ·show sz (e+j)=sz (e+(j-1))+1
   rw [d,show e+j-1=e+(j-1)from by omega]
 ·obtain⟨a,b,c,d,g⟩:=F.bi c27
  obtain⟨nA,FA⟩:=hg (e+j-1-sz (e+j-1)) (by omega)
  have hpA:=FA.pos
  have eA:Hh (-(e:Int)) n.A=n.A-(e:Int):=Lp (by omega) (by omega) (by omega)
  have eB:Hh (-(e:Int)) n.B=n.B-(e:Int):=Lp (by omega) (by omega) (by omega)
  have ej:e+(j-1)=e+j-1:=by omega
  refine⟨by omega,?_,?_,?_,?_⟩
  ·show Hh (-(e:Int)) n.B=_
   rw [eB];omega
  ·show sz (e+(j-1))<j
   rw [ej];omega
  ·show Hh (-(e:Int)) n.A=(j:Int)-1-(sz (e+(j-1)):Int)
   rw [eA,ej];omega
  ·show sz (e+j)=sz (e+(j-1-sz (e+(j-1))))+sz (e+(j-1))+1
   rw [ej,g,show e+(j-1-sz (e+j-1))=e+j-1-sz (e+j-1)from by omega]
 ·rw [Oy]
  have key: ∀x:Int,(x= -1\/(e:Int)<=x/\x<((e+j:Nat):Int))->(if Hh (-(e:Int)) x<0 then([]:List Int)else ks (e+(Hh (-(e:Int)) x).toNat))=if x<0 then []else ks x.toNat:=by
   intro x V
   rcases V with V|V
   ·rw [Dx V,br (by decide),br (by omega)]
   ·rw [Lp (by omega) V.1 (by omega),aS (by omega),aS (by omega)]
    congr 1
    omega
  have I:=F.kinds
  rw [<-key n.A hA,<-key n.B hB]at I
  exact I
 ·have:=F.last c8
  rw [ze hp]
  omega
 ·show sz (e+j)<=j+1
  have:=F.le
  omega
def Qk(hg:Gr l sz ks)(hl:l.Nodes.length<=60)(hp:p<l.Nodes.length)(hs:sz p<=p+1)(hs1:1<=sz p):nh (CO l (p+1-sz p) p)=true:=by
 have hlen:=ze (l:=l) (e:=p+1-sz p) hp
 refine OX (by rw [hlen];omega) (by rw [hlen];omega) (HN hg hl hp hs) ?_
 rw [hlen]
 show sz (p+1-sz p+(p+1-(p+1-sz p)-1))=_
 rw [show p+1-sz p+(p+1-(p+1-sz p)-1)=p from by omega]
 omega
end

def af1{k:Int}(h:k4 k):(decide (0<=k)&&decide (k<=3))=true:=by simp;unfold k4 at h;omega
def Bp(ha:BT a=true)(M:BT b=true):BT (a++b)=true:=by unfold BT at*;rw [List.all_append,ha,M];rfl
def GC{k:Int}(h:k4 k):BT [k]=true:=by rw [DW,af1 h];rfl
def tg{ys zs:List α}(h:app xs ys=some zs):zs=xs++ys:=by
 unfold app at h
 split at h
 ·injection h with h;exact h.symm
 ·cases h
def OF(e:cy)(kinds:List Int):k4 (gh e kinds).1:=by
 unfold gh
 split
 ·split
  ·rename_i hk
   split
   ·cases Y:oB e.Nodes with
    |none=>exact .inl rfl
    |some t=>
     obtain⟨hw,_,_⟩:=ma Y
     simp only [bt]
     cases hd:kd kinds t with
     |none=>exact .inl rfl
     |some k=>exact RR (fun k=>Bo hk) t hw hd
   ·exact .inl rfl
  ·exact .inl rfl
 ·exact .inl rfl
def acX(g:jt)(kinds:List Int):k4 (Et g kinds).1:=by
 have hk:=OF g.Arg kinds
 unfold Et lw
 rw [nk]
 simp only [bt]
 repeat' split
 all_goals first|exact hk|simp [k4]
def Vy{i k:Int}(ha:BT a=true)(h:di a i=some k):k4 k:=by
 obtain⟨_,K⟩:=m9 h
 exact Bo ha (BK K)
def abC(n:aq)(a:List Int): ∀(fu:Nat) (out:List Int) (ok:Bool) (i:Int) (k:List Int) (o:Bool),BT out=true->eU n a fu out ok i=some (k,o)->BT k=true:=by
 intro fu
 induction fu with
 |zero=>intro _ _ _ _ _ _ h;cases h
 |succ fu ih=>
  intro out ok i k o ho h
  rw [eU]at h
  split at h
  ·cases V:di n.Aggs i with
   |none=>rw [V]at h;cases h
   |some g=>
    rw [V]at h
    simp only [bt,rU]at h
    cases ha:app out [(Et g a).1]with
    |none=>rw [ha]at h;cases h
    |some z=>
     rw [ha]at h
     exact ih _ _ _ _ _ (by rw [tg ha];exact Bp ho (GC (acX g a))) h
  ·injection h with h
   injection h with h _
   rw [<-h];exact ho
def abD(n:aq)(a:List Int)(hka:BT a=true): ∀(fu:Nat) (out:List Int) (i:Int) (k:List Int) (o:Bool),BT out=true->eV n a fu out i=some (k,o)->BT k=true:=by
 intro fu
 induction fu with
 |zero=>intro _ _ _ _ _ h;cases h
 |succ fu ih=>
  intro out i k o ho h
  rw [eV]at h
  split at h
  ·cases V:di n.Keys i with
   |none=>rw [V]at h;cases h
   |some g=>
    rw [V]at h
    simp only [bt]at h
    split at h
    ·injection h with h;injection h with h _;rw [<-h];rfl
    ·cases hy:di a g with
     |none=>rw [hy]at h;cases h
     |some y=>
      rw [hy]at h
      simp only [bt]at h
      cases ha:app out [y]with
      |none=>rw [ha]at h;cases h
      |some z=>
       rw [ha]at h
       exact ih _ _ _ _ (by rw [tg ha];exact Bp ho (GC (Vy hka hy))) h
  ·exact abC n a _ _ _ _ _ _ ho h
def abB(n:aq)(a:List Int): ∀(fu:Nat) (out:List Int) (ok:Bool) (i:Int) (k:List Int) (o:Bool),BT out=true->eT n a fu out ok i=some (k,o)->BT k=true:=by
 intro fu
 induction fu with
 |zero=>intro _ _ _ _ _ _ h;cases h
 |succ fu ih=>
  intro out ok i k o ho h
  rw [eT]at h
  split at h
  ·cases V:di n.Items i with
   |none=>rw [V]at h;cases h
   |some g=>
    rw [V]at h
    simp only [bt,nk]at h
    cases ha:app out [(gh g a).1]with
    |none=>rw [ha]at h;cases h
    |some z=>
     rw [ha]at h
     exact ih _ _ _ _ _ (by rw [tg ha];exact Bp ho (GC (OF g a))) h
  ·injection h with h
   injection h with h _
   rw [<-h];exact ho
def adw(n:aq)(a:List Int): ∀(fu:Nat) (ok:Bool) (i:Int) (k:List Int) (o:Bool),dV n a fu ok i=some (k,o)->k=a:=by
 intro fu
 induction fu with
 |zero=>intro _ _ _ _ h;cases h
 |succ fu ih=>
  intro ok i k o h
  rw [dV]at h
  split at h
  ·generalize (if ok=true then(di n.Order i).bind fun e10=>some (decide ((0:Int)<=e10.Col))else some false)=z at h
   cases z with
   |none=>cases h
   |some z=>
    simp only [bt]at h
    generalize (if z=true then(di n.Order i).bind fun e11=>some (decide (e11.Col<(a.length:Int)))else some false)=y at h
    cases y with
    |none=>cases h
    |some y=>exact ih _ _ _ _ h
  ·injection h with h
   injection h with h _
   exact h.symm
def ady(n:aq): ∀(fu:Nat) (ok:Bool) (i:Int) (k:List Int) (o:Bool),ez n fu ok i=some (k,o)->k=n.Kinds:=by
 intro fu
 induction fu with
 |zero=>intro _ _ _ _ h;cases h
 |succ fu ih=>
  intro ok i k o h
  rw [ez]at h
  split at h
  ·generalize (if ok=true then(di n.Kinds i).bind fun e10=>some (decide ((1:Int)<=e10))else some false)=z at h
   cases z with
   |none=>cases h
   |some z=>
    simp only [bt]at h
    generalize (if z=true then(di n.Kinds i).bind fun e11=>some (decide (e11<=(3:Int)))else some false)=y at h
    cases y with
    |none=>cases h
    |some y=>exact ih _ _ _ _ h
  ·injection h with h
   injection h with h _
   exact h.symm
def adx(b:List Int): ∀(tl:List Int) (i:Nat) (out:List Int) (ok:Bool) (k:List Int) (o:Bool),BT tl=true->BT b=true->BT out=true->dW b tl i out ok=some (k,o)->BT k=true/\k.length=out.length+tl.length:=by
 intro tl
 induction tl with
 |nil=>
  intro i out ok k o _ _ ho h
  rw [dW]at h
  injection h with h
  injection h with h _
  rw [<-h];exact⟨ho,rfl⟩
 |cons x tl ih=>
  intro i out ok k o Y M ho h
  rw [DW,gN]at Y
  have step: ∀z:Int,k4 z->jd b (dW b tl) i out ok z=some (k,o)->BT k=true/\k.length=out.length+(tl.length+1):=by
   intro z hz hk
   unfold jd at hk
   cases ha:app out [z]with
   |none=>rw [ha]at hk;cases hk
   |some w=>
    rw [ha]at hk
    simp only [bt]at hk
    generalize (if ok=true then(di b (i:Int)).bind fun e7=>(if(!(e7==z))=true then(di b (i:Int)).bind fun e8=>some (e8==(0:Int))else some true).bind fun t3=>some t3 else some false)=q at hk
    cases q with
    |none=>cases hk
    |some q=>
     have:=ih (i+1) w q k o Y.2 M (by rw [tg ha];exact Bp ho (GC hz)) hk
     rw [tg ha]at this
     simp only [ju,io,oo]at this
     exact⟨this.1,by omega⟩
  rw [dW]at h
  split at h
  ·cases V:di b (i:Int)with
   |none=>rw [V]at h;cases h
   |some y=>
    rw [V]at h
    exact step y (Vy M V) h
  ·exact step x (by have:=Y.1;simp at this;unfold k4;omega) h
def TR(hs:kO n)(hop:HR n.Op=true)(ha:BT a=true)(M:BT b=true)(h:bX n a b=some (k,true)):BT k=true:=by
 have h0:=h
 unfold bX at h
 rcases qJ hop with c|c|c|c|c|c|c|c
 ·rw [br (by simp [c])]at h
  rw [ady n _ _ _ _ _ h]
  obtain⟨k1,o,k',g1,g2,_⟩:=Ka default n a b hs c
  rw [h0]at g2
  injection g2 with g2
  injection g2 with _ g2
  subst g2
  unfold iv at g1
  split at g1
  ·have hc:dD n.Kinds k6=some (n.Kinds.any fun k=> !(((k==(1:Int))||(k==(2:Int)))||(k==(3:Int)))):=lR (fun v=>rfl) _
   rw [hc]at g1
   simp only [bt,B2]at g1
   injection g1 with g1
   injection g1 with _ g1
   rw [Ai,List.any_eq_false]at g1
   unfold BT
   rw [p7]
   intro z hz
   have:=g1 z hz
   simp at this
   simp;omega
  ·simp at g1
 ·rw [aS (by simp [c]),br (by simp [c])]at h
  cases I:app ([]:List Int) a with
  |none=>rw [I]at h;cases h
  |some l1=>
   rw [I]at h
   simp only [bt]at h
   cases K:app l1 b with
   |none=>rw [K]at h;cases h
   |some l2=>
    rw [K]at h
    simp only [bt,nQ]at h
    injection h with h
    injection h with h _
    rw [<-h,tg K,tg I]
    exact Bp (Bp rfl ha) M
 ·rw [aS (by simp [c]),aS (by simp [c]),br (by simp [c])]at h
  simp only [bt,nQ]at h
  injection h with h
  injection h with h _
  rw [<-h];exact ha
 ·rw [aS (by simp [c]),aS (by simp [c]),aS (by simp [c]),br (by simp [c])]at h
  exact abD n a ha _ _ _ _ _ rfl h
 ·rw [aS (by simp [c]),aS (by simp [c]),aS (by simp [c]),aS (by simp [c]),br (by simp [c])]at h
  exact abB n a _ _ _ _ _ _ rfl h
 ·rw [aS (by simp [c]),aS (by simp [c]),aS (by simp [c]),aS (by simp [c]),aS (by simp [c]),br (by simp [c])]at h
  injection h with h
  injection h with h _
  rw [<-h];exact ha
 ·rw [aS (by simp [c]),aS (by simp [c]),aS (by simp [c]),aS (by simp [c]),aS (by simp [c]),aS (by simp [c]),br (by simp [c])]at h
  split at h
  ·injection h with h;injection h with _ h;cases h
  ·exact(adx b a 0 [] true k true ha M rfl h).1
 ·rw [aS (by simp [c]),aS (by simp [c]),aS (by simp [c]),aS (by simp [c]),aS (by simp [c]),aS (by simp [c]),aS (by simp [c])]at h
  rw [adw n a _ _ _ _ _ h];exact ha
section
variable{d:cC}{sz' :Nat->Nat}{ks' :Nat->List Int}
def su(F:C7 l sz ks j n):(n.A= -1\/0<=n.A/\n.A<(j:Int))/\(n.B= -1\/0<=n.B/\n.B<(j:Int)):=by
 by_cases c1:n.Op=1
 ·obtain⟨a,b,_⟩:=F.lf c1
  exact⟨.inl a,.inl b⟩
 by_cases c27:n.Op=2\/n.Op=7
 ·obtain⟨a,b,c,d,e⟩:=F.bi c27
  exact⟨.inr (by omega),.inr (by omega)⟩
 ·obtain⟨a,b,c,d⟩:=F.un c1 (fun h=>c27 (.inl h)) (fun h=>c27 (.inr h))
  exact⟨.inr (by omega),.inl c⟩
def ZQ(hS:o4 l)(hg:Gr l sz ks): ∀j,j<l.Nodes.length->BT (ks j)=true:=by
 intro j
 induction j using Nat.strongRecOn with
 |ind j ih=>
  intro hj
  obtain⟨n,F⟩:=hg j hj
  have hn:kO n:=hS n (by have:=F.node;rw [cO]at this;exact BK this)
  obtain⟨hA,hB⟩:=su F
  refine TR hn F.op ?_ ?_ F.kinds
  ·split
   ·rfl
   ·exact ih _ (by omega) (by omega)
  ·split
   ·rfl
   ·exact ih _ (by omega) (by omega)
def Xq{e:Nat}(h:0<=x)(K:x<=10000)(h3:e<=10000):Hh (e:Int) x=x+e:=by
 unfold Hh
 rw [br h,dm (by omega) (by omega)]
def abl{e m:Nat}(hg:Gr l sz ks)(H' :Gr d sz' ks')(hm:m<=l.Nodes.length)(hl:l.Nodes.length<=200)(he:e<=200)(hd:e+m<=d.Nodes.length)(hn: ∀j,j<m-> ∀n,di l.Nodes (j:Int)=some n->di d.Nodes ((e+j:Nat):Int)=some (Jb (e:Int) n)): ∀j,j<m->sz' (e+j)=sz j/\ks' (e+j)=ks j:=by
 intro j
 induction j using Nat.strongRecOn with
 |ind j ih=>
  intro hj
  obtain⟨n,F⟩:=hg j (by omega)
  obtain⟨n',F'⟩:=H' (e+j) (by omega)
  have hnn:n' =Jb (e:Int) n:=by
   have I:=hn j hj n F.node
   rw [F'.node]at I
   injection I
  subst hnn
  obtain⟨hA,hB⟩:=su F
  constructor
  ·by_cases c1:n.Op=1
   ·rw [(F'.lf c1).2.2,(F.lf c1).2.2]
   by_cases c27:n.Op=2\/n.Op=7
   ·obtain⟨a,b,c,g,q⟩:=F.bi c27
    obtain⟨a',b',c',g',q'⟩:=F'.bi c27
    have ej:e+j-1=e+(j-1):=by omega
    rw [ej,(ih (j-1) (by omega) (by omega)).1,show e+(j-1)-sz (j-1)=e+(j-1-sz (j-1))from by omega,(ih (j-1-sz (j-1)) (by omega) (by omega)).1]at q'
    rw [q',q]
   ·obtain⟨a,b,c,g⟩:=F.un c1 (fun h=>c27 (.inl h)) (fun h=>c27 (.inr h))
    obtain⟨a',b',c',g'⟩:=F'.un c1 (fun h=>c27 (.inl h)) (fun h=>c27 (.inr h))
    rw [show e+j-1=e+(j-1)from by omega,(ih (j-1) (by omega) (by omega)).1]at g'
    rw [g',g]
  ·have key: ∀x:Int,(x= -1\/0<=x/\x<(j:Int))->(if Hh (e:Int) x<0 then([]:List Int)else ks' (Hh (e:Int) x).toNat)=if x<0 then []else ks x.toNat:=by
    intro x V
    rcases V with V|V
    ·rw [Dx V,br (by decide),br (by omega)]
    ·rw [Xq (by omega) (by omega) (by omega),aS (by omega),aS (by omega),show(x+(e:Int)).toNat=e+x.toNat from by omega,(ih x.toNat (by omega) (by omega)).2]
   have I:=F'.kinds
   have hA' :(Jb (e:Int) n).A=Hh (e:Int) n.A:=rfl
   have hB' :(Jb (e:Int) n).B=Hh (e:Int) n.B:=rfl
   rw [Oy,hA',hB',key n.A hA,key n.B hB,F.kinds]at I
   injection I with I
   injection I with I _
   exact I.symm
end
structure I0(l:cC)(sz:Nat->Nat)(ks:Nat->List Int):Prop where
 pos:1<=l.Nodes.length
 le:l.Nodes.length<=60
 all:Gr l sz ks
 whole:sz (l.Nodes.length-1)=l.Nodes.length
 kinds:uO l=some (ks (l.Nodes.length-1),0)
def DU(hS:o4 l)(h:nh l=true): ∃sz ks,I0 l sz ks:=by
 obtain⟨_,_,ob,j,r3,r4⟩:=sS hS
 obtain⟨hL,hj⟩:=r4 h
 have hle:=hL.le
 have hpos:=hL.pos
 obtain⟨N0,_⟩:=hL.inv.at (j:=l.Nodes.length-1) (by omega)
 refine⟨z6 ob.first,PE ob.kinds,hpos,hle,fun j hj=>Im hL.inv hle hj,?_,?_⟩
 ·have e1:=N0.size fm (wy (by omega))
  have e2:=hL.whole
  unfold lx at e2
  rw [show(l.Nodes.length:Int)-1=((l.Nodes.length-1:Nat):Int)from by omega,e1]at e2
  injection e2 with e2
  omega
 ·unfold uO
  rw [r3,h]
  simp only [bt,p6,iq,fU]
  have hk:di ob.kinds j=some (PE ob.kinds (l.Nodes.length-1)):=by
   rw [hj,show(l.Nodes.length:Int)-1=((l.Nodes.length-1:Nat):Int)from by omega,cO]
   unfold PE
   rw [p5 (by rw [hL.inv.kl];omega)];rfl
  rw [hk]
  simp only [bt]
  rw [vJ _ (by have:=N0.len;omega)]
  rfl
def Ow{sz' :Nat->Nat}{ks' :Nat->List Int}(hS:o4 l)(h2:I0 l sz ks)(hg:Gr l sz' ks'):ks' (l.Nodes.length-1)=ks (l.Nodes.length-1)/\sz' (l.Nodes.length-1)=l.Nodes.length:=by
 have hle:=h2.le
 have hpos:=h2.pos
 have:=abl (l:=l) (d:=l) (e:=0) (m:=l.Nodes.length) h2.all hg (fa _) (by omega) (by omega) (by omega) (fun j hj n hn=>by
  obtain⟨n',F⟩:=h2.all j hj
  have e:n' =n:=by have:=F.node;rw [hn]at this;injection this with this;exact this.symm
  subst e
  obtain⟨hA,hB⟩:=su F
  rw [Ab,hn]
  have hz:=NK (n:=n') (by omega) (by omega)
  rw [show((0:Nat):Int)=0 from rfl,hz]) (l.Nodes.length-1) (by omega)
 simp only [Ab]at this
 exact⟨this.2,by rw [this.1];exact h2.whole⟩

def atN(x y:Int)(n:aq):aq:={n with A:=x,B:=y}
def d1(n:aq)(a:cC):cC:=⟨a.Nodes++[atN ((a.Nodes.length:Int)-1) (-1) n]⟩
def d2(n:aq)(a b:cC):cC:=⟨(a.Nodes++b.Nodes.map (Jb (a.Nodes.length:Int)))++[atN ((a.Nodes.length:Int)-1) ((a.Nodes.length:Int)+(b.Nodes.length:Int)-1) n]⟩
def Ko{a:cC}(h2:I0 a sz ks)(F:C7 a sz ks j n)(hj:j<a.Nodes.length):Jb ((0:Nat):Int) n=n:=by
 obtain⟨hA,hB⟩:=su F
 have hle:=h2.le
 exact NK (by omega) (by omega)

def TP(h2:I0 l sz ks):(ks (l.Nodes.length-1)).length<=16:=by
 have:=h2.pos
 obtain⟨n,F⟩:=h2.all (l.Nodes.length-1) (by omega)
 exact F.len

def sd(h:i<=100000):IntKind.i64.wrap ((i:Int)+1)=((i+1:Nat):Int):=by rw [ot (by omega) (by omega)];omega
def RN(n:aq): ∀(fu:Nat) (ok:Bool) (i:Int) (k:List Int),ez n fu ok i=some (k,true)->ok=true/\0<=n.Table/\n.Table<=3/\k=n.Kinds
 |0,_,_,_,h=>by unfold ez at h;cases h
 |fu+1,ok,i,k,h=>by
  unfold ez at h
  split at h
  ·cases ok with
   |false=>
    simp only [iq,fU,bt]at h
    exact absurd (RN n fu false _ k h).1 (by simp)
   |true=>
    simp only [gx]at h
    cases V:di n.Kinds i with
    |none=>rw [V]at h;cases h
    |some e=>
     rw [V]at h
     simp only [bt]at h
     split at h
     ·exact⟨rfl,(RN n fu _ _ k h).2⟩
     ·exact⟨rfl,(RN n fu _ _ k h).2⟩
  ·injection h with h
   injection h with h K
   simp only [gN,j9]at K
   exact⟨K.1.1.1.1,K.1.1.1.2,K.1.1.2,h.symm⟩
def aag(n:aq)(a:List Int)(hs:n.Aggs.length<=5000): ∀(l:List jt) (fu:Nat) (out:List Int) (ok:Bool) (i:Nat) (k:List Int),n.Aggs.drop i=l->eU n a fu out ok (i:Int)=some (k,true)->ok=true/\(∀g∈l,(Et g a).2=true)/\k=out++(l.map fun g=>(Et g a).1)/\n.Keys.length<=3
 |_,0,_,_,_,_,_,h=>by unfold eU at h;cases h
 |[],fu+1,out,ok,i,k,hd,h=>by
  unfold eU at h
  have:=rq hd
  rw [aS (by rw [j9];omega)]at h
  injection h with h
  injection h with h K
  simp only [gN,j9]at K
  exact⟨K.1.1.1,by simp,by simp [h],by have:=K.1.1.2;omega⟩
 |g::t,fu+1,out,ok,i,k,hd,h=>by
  obtain⟨I,K,h3⟩:=kU hd
  unfold eU at h
  rw [br (by rw [j9];omega),I,bt,rU,bt,sd (by omega)]at h
  cases ha:app out [(Et g a).1]with
  |none=>rw [ha]at h;cases h
  |some z=>
   rw [ha,bt]at h
   obtain⟨p1,p2,p3,p4⟩:=aag n a hs t fu z _ (i+1) k h3 h
   rw [gN]at p1
   refine⟨p1.1,?_,?_,p4⟩
   ·intro y hy
    rcases gW.1 hy with q|q
    ·rw [q];exact p1.2
    ·exact p2 y q
   ·rw [p3,tg ha];simp
def H9(a:List Int)(c:Int):Int:=(a[c.toNat]?).getD 0
def Vx{c:Int}(h:0<=c)(K:c<(a.length:Int)):di a c=some (H9 a c):=by
 obtain⟨k,hk⟩:=GX h
 subst hk
 have hk:k<a.length:=by omega
 unfold H9
 rw [iX k rfl]
 simp [hk]
def aaf(n:aq)(a:List Int)(hs:n.Keys.length<=5000)(hs2:n.Aggs.length<=5000): ∀(l:List Int) (fu:Nat) (out:List Int) (i:Nat) (k:List Int),n.Keys.drop i=l->eV n a fu out (i:Int)=some (k,true)->(∀c∈l,0<=c/\c<(a.length:Int))/\(∀g∈n.Aggs,(Et g a).2=true)/\k=(out++l.map (H9 a))++(n.Aggs.map fun g=>(Et g a).1)/\n.Keys.length<=3
 |_,0,_,_,_,_,h=>by unfold eV at h;cases h
 |[],fu+1,out,i,k,hd,h=>by
  unfold eV at h
  have:=rq hd
  rw [aS (by rw [j9];omega)]at h
  obtain⟨_,p2,p3,p4⟩:=aag n a hs2 n.Aggs fm out true 0 k (by simp) h
  exact⟨by simp,p2,by simpa using p3,p4⟩
 |c::t,fu+1,out,i,k,hd,h=>by
  obtain⟨I,K,h3⟩:=kU hd
  unfold eV at h
  rw [br (by rw [j9];omega),I,bt,sd (by omega)]at h
  by_cases hc:0<=c/\c<(a.length:Int)
  ·rw [aS (by simp only [tB,j9];omega),Vx hc.1 hc.2,bt]at h
   cases ha:app out [H9 a c]with
   |none=>rw [ha]at h;cases h
   |some z=>
    rw [ha,bt]at h
    obtain⟨p1,p2,p3,p4⟩:=aaf n a hs hs2 t fu z (i+1) k h3 h
    refine⟨?_,p2,?_,p4⟩
    ·intro y hy
     rcases gW.1 hy with q|q
     ·rw [q];exact hc
     ·exact p1 y q
    ·rw [p3,tg ha];simp
  ·rw [br (by simp only [tB,j9];omega)]at h
   injection h with h
   injection h with h K
   cases K
def aae(n:aq)(a:List Int)(hs:n.Items.length<=5000): ∀(l:List cy) (fu:Nat) (out:List Int) (ok:Bool) (i:Nat) (k:List Int),n.Items.drop i=l->eT n a fu out ok (i:Int)=some (k,true)->ok=true/\(∀e∈l,(gh e a).2=0)/\k=out++l.map fun e=>(gh e a).1
 |_,0,_,_,_,_,_,h=>by unfold eT at h;cases h
 |[],fu+1,out,ok,i,k,hd,h=>by
  unfold eT at h
  have:=rq hd
  rw [aS (by rw [j9];omega)]at h
  injection h with h
  injection h with h K
  simp only [gN,j9]at K
  exact⟨K.1.1,by simp,by simp [h]⟩
 |g::t,fu+1,out,ok,i,k,hd,h=>by
  obtain⟨I,K,h3⟩:=kU hd
  unfold eT at h
  rw [br (by rw [j9];omega),I,bt,nk,bt,sd (by omega)]at h
  cases ha:app out [(gh g a).1]with
  |none=>rw [ha]at h;cases h
  |some z=>
   rw [ha,bt]at h
   obtain⟨p1,p2,p3⟩:=aae n a hs t fu z _ (i+1) k h3 h
   simp only [gN,uZ]at p1
   refine⟨p1.1,?_,?_⟩
   ·intro y hy
    rcases gW.1 hy with q|q
    ·rw [q];exact p1.2
    ·exact p2 y q
   ·rw [p3,tg ha];simp
def RL(n:aq)(a:List Int)(hs:n.Order.length<=5000): ∀(l:List jG) (fu:Nat) (ok:Bool) (i:Nat) (k:List Int),n.Order.drop i=l->dV n a fu ok (i:Int)=some (k,true)->ok=true/\k=a/\ ∀o∈l,0<=o.Col/\o.Col<(a.length:Int)
 |_,0,_,_,_,_,h=>by unfold dV at h;cases h
 |[],fu+1,ok,i,k,hd,h=>by
  unfold dV at h
  have:=rq hd
  rw [aS (by rw [j9];omega)]at h
  injection h with h
  injection h with h K
  simp only [gN,j9]at K
  exact⟨K.1.1.1,h.symm,by simp⟩
 |o::t,fu+1,ok,i,k,hd,h=>by
  obtain⟨I,K,h3⟩:=kU hd
  unfold dV at h
  rw [br (by rw [j9];omega),I,sd (by omega)]at h
  cases ok with
  |false=>
   simp only [iq,fU,bt]at h
   exact absurd (RL n a hs t fu false (i+1) k h3 h).1 (by simp)
  |true=>
   simp only [gx,bt]at h
   by_cases hc:0<=o.Col
   ·rw [br (by simpa using hc),bt]at h
    obtain⟨p1,p2,p3⟩:=RL n a hs t fu _ (i+1) k h3 h
    refine⟨rfl,p2,?_⟩
    intro y hy
    rcases gW.1 hy with q|q
    ·rw [q];exact⟨hc,by simpa using p1⟩
    ·exact p3 y q
   ·rw [aS (by simpa using hc),bt]at h
    exact absurd (RL n a hs t fu false (i+1) k h3 h).1 (by simp)
def RX(x y k:Int):Prop:=(x=k\/x=0)/\(y=k\/y=0)
def RM(b:List Int)(M:b.length<=5000): ∀(l:List Int) (i:Nat) (out:List Int) (ok:Bool) (k:List Int),l.length+i=b.length->dW b l i out ok=some (k,true)->ok=true/\ ∃t:List Int,k=out++t/\t.length=l.length/\ ∀(j:Nat) (x y z:Int),l[j]? =some x->b[i+j]? =some y->t[j]? =some z->RX x y z
 |[],i,out,ok,k,_,h=>by
  unfold dW at h
  injection h with h
  injection h with h K
  exact⟨K,[],by simp [h],rfl,by simp⟩
 |x::l,i,out,ok,k,hl,h=>by
  rw [io]at hl
  have hib:i<b.length:=by omega
  have hi:di b (i:Int)=some b[i]:=by rw [iX i rfl,p5 hib]
  have key: ∀k0:Int,jd b (dW b l) i out ok k0=some (k,true)->ok=true/\(b[i]=k0\/b[i]=0)/\ ∃t:List Int,k=out++k0::t/\t.length=l.length/\ ∀(j:Nat) (x y z:Int),l[j]? =some x->b[i+1+j]? =some y->t[j]? =some z->RX x y z:=by
   intro k0 h
   unfold jd at h
   cases ha:app out [k0]with
   |none=>rw [ha]at h;cases h
   |some z=>
    rw [ha,bt,hi]at h
    cases ok with
    |false=>
     simp only [iq,fU,bt]at h
     exact absurd (RM b M l (i+1) z false k (by omega) h).1 (by simp)
    |true=>
     simp only [gx,bt]at h
     by_cases he:b[i]=k0
     ·rw [aS (by simp [he]),bt,bt]at h
      obtain⟨_,t,p1,p2,p3⟩:=RM b M l (i+1) z _ k (by omega) h
      exact⟨rfl,.inl he,t,by rw [p1,tg ha];simp,p2,p3⟩
     ·rw [br (by simp [he]),bt,bt]at h
      obtain⟨p0,t,p1,p2,p3⟩:=RM b M l (i+1) z _ k (by omega) h
      exact⟨rfl,.inr (by simpa using p0),t,by rw [p1,tg ha];simp,p2,p3⟩
  have fin: ∀k0:Int,(x=k0\/x=0)->jd b (dW b l) i out ok k0=some (k,true)->ok=true/\ ∃t:List Int,k=out++t/\t.length=(x::l).length/\ ∀(j:Nat) (x1 y z:Int),(x::l)[j]? =some x1->b[i+j]? =some y->t[j]? =some z->RX x1 y z:=by
   intro k0 V h
   obtain⟨p0,p1,t,p2,p3,p4⟩:=key k0 h
   refine⟨p0,k0::t,p2,by simp [p3],?_⟩
   intro j x1 y z I K h3
   cases j with
   |zero=>
    simp only [Je,Dm]at I h3
    rw [vg,p5 hib,Dm]at K
    subst I;subst h3;subst K
    exact⟨V,p1⟩
   |succ j=>
    rw [Rh]at I h3
    exact p4 j x1 y z I (by rw [<-K];congr 1;omega) h3
  unfold dW at h
  by_cases V:x=0
  ·rw [br (by simpa using V),hi,bt]at h
   exact fin _ (.inr V) h
  ·rw [aS (by simpa using V)]at h
   exact fin _ (.inl rfl) h
def GA(hop:n.Op=1)(h:bX n a b=some (k,true)):k=n.Kinds/\0<=n.Table/\n.Table<=3:=by
 unfold bX at h
 rw [br (by simpa using hop)]at h
 obtain⟨_,I,K,h3⟩:=RN n _ _ _ _ h
 exact⟨h3,I,K⟩
def LZ(hop:n.Op=2)(h:bX n a b=some (k,true)):k=a++b/\Ll n.Cond (a++b)=true:=by
 unfold bX at h
 rw [aS (by rw [hop];decide),br (by simpa using hop)]at h
 cases I:app ([]:List Int) a with
 |none=>rw [I]at h;cases h
 |some l=>
  rw [I,bt]at h
  cases K:app l b with
  |none=>rw [K]at h;cases h
  |some o=>
   have e1:=tg I
   have e2:=tg K
   rw [K,bt,nQ,bt]at h
   injection h with h
   injection h with h h3
   subst h
   rw [e1,lU]at e2
   rw [e2]at h3 ⊢
   exact⟨rfl,h3⟩
def EZ(hop:n.Op=3)(h:bX n a b=some (k,true)):k=a/\Ll n.Cond a=true:=by
 unfold bX at h
 rw [aS (by rw [hop];decide),aS (by rw [hop];decide),br (by simpa using hop),nQ,bt]at h
 injection h with h
 injection h with h h3
 exact⟨h.symm,h3⟩
def H0(hs:kO n)(hop:n.Op=4)(h:bX n a b=some (k,true)):(∀c∈n.Keys,0<=c/\c<(a.length:Int))/\(∀g∈n.Aggs,(Et g a).2=true)/\k=n.Keys.map (H9 a)++(n.Aggs.map fun g=>(Et g a).1)/\n.Keys.length<=3:=by
 unfold bX at h
 rw [aS (by rw [hop];decide),aS (by rw [hop];decide),aS (by rw [hop];decide),br (by simpa using hop)]at h
 have:=aaf n a hs.keys hs.aggs n.Keys fm [] 0 k (by simp) h
 simpa using this
def CS(hs:kO n)(hop:n.Op=5)(h:bX n a b=some (k,true)):(∀e∈n.Items,(gh e a).2=0)/\k=n.Items.map fun e=>(gh e a).1:=by
 unfold bX at h
 rw [aS (by rw [hop];decide),aS (by rw [hop];decide),aS (by rw [hop];decide),aS (by rw [hop];decide),br (by simpa using hop)]at h
 have:=aae n a hs.items n.Items fm [] true 0 k (by simp) h
 simpa using this.2
def On(hop:n.Op=6)(h:bX n a b=some (k,true)):k=a:=by
 unfold bX at h
 rw [aS (by rw [hop];decide),aS (by rw [hop];decide),aS (by rw [hop];decide),aS (by rw [hop];decide),aS (by rw [hop];decide),br (by simpa using hop)]at h
 injection h with h
 injection h with h _
 exact h.symm
def Vl(hal:a.length<=5000)(hop:n.Op=7)(h:bX n a b=some (k,true)):a.length=b.length/\k.length=a.length/\ ∀(j:Nat) (x y z:Int),a[j]? =some x->b[j]? =some y->k[j]? =some z->RX x y z:=by
 unfold bX at h
 rw [aS (by rw [hop];decide),aS (by rw [hop];decide),aS (by rw [hop];decide),aS (by rw [hop];decide),aS (by rw [hop];decide),aS (by rw [hop];decide),br (by simpa using hop)]at h
 by_cases he:a.length=b.length
 ·rw [aS (by simp [he])]at h
  obtain⟨_,t,p1,p2,p3⟩:=RM b (by omega) a 0 [] true k (by omega) h
  rw [lU]at p1
  subst p1
  refine⟨he,p2,fun j x y z I K h3=>p3 j x y z I (by rw [Ab];exact K) h3⟩
 ·rw [br (by simp only [ux,sJ];omega)]at h
  injection h with h
  injection h with h K
  cases K
def LY(hs:kO n)(hop:n.Op=8)(h:bX n a b=some (k,true)):k=a/\ ∀o∈n.Order,0<=o.Col/\o.Col<(a.length:Int):=by
 unfold bX at h
 rw [aS (by rw [hop];decide),aS (by rw [hop];decide),aS (by rw [hop];decide),aS (by rw [hop];decide),aS (by rw [hop];decide),aS (by rw [hop];decide),aS (by rw [hop];decide)]at h
 have:=RL n a hs.order n.Order fm true 0 k (by simp) h
 exact this.2

def Dw{f:α->α->Int}(h:Dc f){p:List α}(hp:p.Pairwise fun a b=>f a b<0):p.Nodup:=by
 unfold List.Nodup
 refine hp.imp ?_
 intro a b hab he
 subst he
 have:=h.self a
 omega
def Jh [DecidableEq α]{f:α->α->Int}(h:Dc f){p q:List α}(hp:p.Pairwise fun a b=>f a b<0)(hq:q.Pairwise fun a b=>f a b<0)(hm: ∀z,z∈p↔z∈q):p=q:=by
 have hpq:p.Perm q:=(List.perm_ext_iff_of_nodup (Dw h hp) (Dw h hq)).2 hm
 exact uo h (hp.imp fun h=>by omega) (hq.imp fun h=>by omega) hpq
def Ht{α κ:Type} [DecidableEq κ](key:α->κ)(kf:List α->κ): ∀(R:List (List α)),(∀y∈R,∀z∈y,key z=kf y)->R.Pairwise (fun a b=>kf a≠kf b)-> ∀y∈R,R.flatten.filter (fun z=>decide (key z=kf y))=y
 |[],_,_,y,hy=>by cases hy
 |x::t,I,K,y,hy=>by
  rw [BI]at K
  rw [List.flatten_cons,List.filter_append]
  have Y: ∀w∈t,∀z∈w,key z=kf w:=fun w hw=>I w (lT _ hw)
  rcases gW.1 hy with q|q
  ·subst q
   have e1:y.filter (fun z=>decide (key z=kf y))=y:=by
    rw [List.filter_eq_self]
    intro z hz
    rw [j9]
    exact I y (mp ..) z hz
   have e2:t.flatten.filter (fun z=>decide (key z=kf y))=[]:=by
    rw [Rg]
    intro z hz
    obtain⟨w,hw,hz⟩:=List.mem_flatten.1 hz
    rw [j9,Y w hw z hz]
    exact fun e=>K.1 w hw e.symm
   rw [e1,e2,tA]
  ·have e1:x.filter (fun z=>decide (key z=kf y))=[]:=by
    rw [Rg]
    intro z hz
    rw [j9,I x (mp ..) z hz]
    exact K.1 y q
   rw [e1,lU]
   exact Ht key kf t Y K.2 y q
def qM(c:List Int)(l:List cS):List eg:=(qT (rO (l.map (gQ c)))).map fun k=>⟨k,rO (l.filter fun r=>decide (gQ c r=k))⟩
def NO(c:List Int){l:List cS}(hl:l.length<=8000):(xZ (JB c) l.length (u9 (AP c) l)).map (Ks c)=qM c l:=by
 have hC:=ON c
 have hL:=tI hC l (by omega)
 have hP:=lJ (AP c) l
 generalize hLe:u9 (AP c) l=L at hL hP
 have hlen:L.length=l.length:=hP.length_eq
 have hflat:=Kc (JB c) l.length L (by omega)
 have hkeys:=Kb c l.length L hL
 have hmem:=Hp (JB c) l.length L
 generalize xZ (JB c) l.length L=R at hflat hkeys hmem
 have hkey: ∀y∈R,∀z∈y,gQ c z=(Ks c y).Key:=by
  intro y hy z hz
  obtain⟨x,t,e,_,K⟩:=hmem y hy
  subst e
  show gQ c z=gQ c x
  rcases gW.1 hz with q|q
  ·rw [q]
  ·have:=(K z q).2
   unfold JB at this
   exact(Ng this).symm
 have hpw:R.Pairwise fun a b=>(Ks c a).Key≠(Ks c b).Key:=by
  rw [List.pairwise_map]at hkeys
  refine hkeys.imp ?_
  intro a b hab he
  rw [he,i7.self]at hab
  omega
 have hfil:=Ht (gQ c) (fun y=>(Ks c y).Key) R hkey hpw
 rw [hflat]at hfil
 have hrows: ∀g∈R.map (Ks c),g=⟨g.Key,rO (l.filter fun r=>decide (gQ c r=g.Key))⟩:=by
  intro g H
  obtain⟨y,hy,e⟩:=xT.1 H
  subst e
  have hf:=hfil y hy
  have e:y=rO (l.filter fun r=>decide (gQ c r=(Ks c y).Key)):=by
   refine uo i7 ?_ (tI i7 _ (by have:=Re (fun r=>decide (gQ c r=(Ks c y).Key)) l;omega)) ?_
   ·have hs:qS (AP c) y:=by
     have:qS (AP c) (L.filter fun z=>decide (gQ c z=(Ks c y).Key)):=List.Pairwise.filter _ hL
     rw [hf]at this
     exact this
    refine List.Pairwise.imp_of_mem ?_ hs
    intro a b ha M hab
    unfold AP at hab
    rw [hkey y hy a ha,hkey y hy b M,i7.self]at hab
    exact hab
   ·have hp:=(hP.filter fun z=>decide (gQ c z=(Ks c y).Key))
    rw [hf]at hp
    exact hp.trans (lJ fe _).symm
  have hR:Ks c y=⟨(Ks c y).Key,y⟩:=rfl
  rw [hR]
  simp only []
  rw [<-e]
 have hk:(R.map (Ks c)).map (fun g=>g.Key)=qT (rO (l.map (gQ c))):=by
  refine Jh i7 ?_ (MJ i7 (tI i7 _ (by simp;omega))) ?_
  ·rw [List.pairwise_map];exact hkeys
  ·intro z
   rw [yk,(lJ fe _).mem_iff,List.map_map,xT,xT]
   constructor
   ·rintro⟨y,hy,e⟩
    obtain⟨x,t,e2,V,_⟩:=hmem y hy
    exact⟨x,hP.mem_iff.1 V,by rw [<-e,e2];rfl⟩
   ·rintro⟨x,V,e⟩
    have V:=hP.mem_iff.2 V
    rw [<-hflat]at V
    obtain⟨y,hy,hxy⟩:=List.mem_flatten.1 V
    exact⟨y,hy,by rw [<-e];exact(hkey y hy x hxy).symm⟩
 unfold qM
 rw [<-hk,List.map_map]
 conv=>lhs;rw [<-List.map_id (R.map (Ks c))]
 exact JM fun g H=>hrows g H
def Jl{l:List cS}(h:uW l)(hr:wG l=true)(hc:AK l c=true):wj l c=some (qM c l,0):=by
 have ha:zx l c=0:=by unfold zx;rw [hr,hc];rfl
 rw [Jm h,br ha,NO c h.len]
def Cg(h:k5 r c=true):tK r c=some (gQ c r):=by
 have h' :=h
 unfold k5 at h
 rw [gN,j9,p7]at h
 obtain⟨t,g1,g2,g3,g4⟩:=Cz r c [] (fun e he=>by have:=h.2 e he;rw [gN,j9,j9]at this;exact this) (by simp;omega)
 have e:pb r c=some t:=g3
 have e2:tK r c=some t:=g4
 rw [e2]
 unfold gQ
 rw [e];rfl
def E3(c:List Int)(nx:List eg->Option (List eg))(k:cS)(hk:k.length<=1000)(out:List eg)(ho:out.length<=9000): ∀(l rows:List cS),(∀r∈l,k5 r c=true)->uW (rows++l)->lz c nx k out l rows=nx (out++[⟨k,rO (rows++l.filter fun r=>decide (gQ c r=k))⟩])
 |[],rows,_,hs=>by
  unfold lz
  rw [tA]at hs
  rw [zI hs,bt,cA (by simp;omega),bt]
  simp
 |r::t,rows,hc,hs=>by
  unfold lz
  have hr:=hc r (mp ..)
  have Y: ∀x∈t,k5 x c=true:=fun x V=>hc x (lT _ V)
  have hlen:=hs.len
  rw [ju,io]at hlen
  have hkl:=(yQ hr).2.1
  have hc16:c.length<=16:=by unfold k5 at hr;rw [gN,j9]at hr;exact hr.1
  rw [Cg hr,bt,nU _ _ (by omega),bt]
  by_cases he:gQ c r=k
  ·rw [br (by rw [he,i7.self];rfl),cA (by simp;omega),bt,E3 c nx k hk out ho t (rows++[r]) Y (by rwa [ji,Cv])]
   rw [JK,br (by simpa using he),ji,Cv]
  ·rw [aS (by rw [uZ,i7.eq];exact he),E3 c nx k hk out ho t rows Y ⟨by simp only [ju];omega,fun x V=>hs.row x (by rw [BG]at V ⊢;exact V.elim .inl fun h=> .inr (lT _ h))⟩]
   rw [JK,aS (by simpa using he)]
def Kt(c:List Int){l:List cS}(hc: ∀r∈l,k5 r c=true)(hs:uW l): ∀(ks:List cS) (out:List eg),(∀k∈ks,k.length<=1000)->out.length+ks.length<=9000->lA l c ks out=some (out++ks.map fun k=>⟨k,rO (l.filter fun r=>decide (gQ c r=k))⟩)
 |[],out,_,_=>by unfold lA;simp
 |k::t,out,hk,ho=>by
  rw [io]at ho
  unfold lA
  rw [E3 c _ k (hk k (mp ..)) out (by omega) l [] hc (by simpa using hs),Kt c hc hs t _ (fun x V=>hk x (lT _ V)) (by simp only [ju,vl];omega)]
  simp
def Ku(c:List Int){l:List cS}(hc: ∀r∈l,k5 r c=true)(hs:uW l): ∀(t keys:List cS),(∀r∈t,k5 r c=true)->(∀k∈keys,k.length<=1000)->keys.length+t.length<=8000->mN l c t keys=some ((qT (rO (keys++t.map (gQ c)))).map fun k=>⟨k,rO (l.filter fun r=>decide (gQ c r=k))⟩)
 |[],keys,_,hk,hl=>by
  unfold mN
  have hsm:uW keys:=⟨by simpa using hl,hk⟩
  rw [xc hsm,bt]
  have hd: ∀k∈qT (rO keys),k.length<=1000:=by
   intro k h
   rw [yk,(lJ fe _).mem_iff]at h
   exact hk k h
  have hdl:=Fe (rO keys)
  rw [um]at hdl
  rw [oo]at hl
  rw [Kt c hc hs _ [] hd (by simp only [oo];omega)]
  simp
 |r::t,keys,Y,hk,hl=>by
  rw [io]at hl
  unfold mN
  have hr:=Y r (mp ..)
  have hkl:=(yQ hr).2.1
  have hc16:c.length<=16:=by unfold k5 at hr;rw [gN,j9]at hr;exact hr.1
  rw [Cg hr,bt,cA (by simp;omega),bt,Ku c hc hs t _ (fun x V=>Y x (lT _ V)) (by
   intro k h
   rcases BG.1 h with q|q
   ·exact hk k q
   ·rw [EE.1 q];omega) (by simp only [ju,vl];omega)]
  simp
def Gg{l:List cS}(h:uW l)(hc:AK l c=true):vz l c=some (qM c l):=by
 unfold AK at hc
 simp only [gN,p7]at hc
 unfold vz qM
 rw [Ku c hc.2 h l [] hc.2 (by simp) (by simpa using h.len)]
 rfl

def RK:List Int->cS->Prop
 |[],[]=>True
 |k::ks,v::vs=>Pl v/\t7 v k/\RK ks vs
 |[],_::_=>False
 |_::_,[]=>False
def RK.len: ∀{ks:List Int} {r:cS},RK ks r->r.length=ks.length
 |[],[],_=>rfl
 |k::ks,v::vs,h=>by rw [io,io,h.2.2.len]
 |[],_::_,h=>h.elim
 |_::_,[],h=>h.elim
def RK.pl: ∀{ks:List Int} {r:cS},RK ks r-> ∀v∈r,Pl v
 |[],[],_,v,hv=>by cases hv
 |k::ks,w::vs,h,v,hv=>by
  rcases gW.1 hv with q|q
  ·rw [q];exact h.1
  ·exact h.2.2.pl v q
 |[],_::_,h,_,_=>h.elim
 |_::_,[],h,_,_=>h.elim
def RK.kindR: ∀{ks:List Int} {r:cS},RK ks r->kindR ks r
 |[],[],_=>fun j k h=>by simp at h
 |k::ks,v::vs,h=>fun j x V=>by
  cases j with
  |zero=>
   simp only [Je,Dm]at V
   subst V
   exact⟨v,rfl,h.1,h.2.1⟩
  |succ j=>
   rw [Rh]at V
   exact h.2.2.kindR j x V
 |[],_::_,h=>h.elim
 |_::_,[],h=>h.elim
def RK.rg{ks:List Int}(h:RK ks r):Xv r:=fun v hv=>(h.pl v hv).r64
def RK.right{ks:List Int}(h:RK ks r)(hk:ks.length<=16):kW r=true:=by
 unfold kW
 rw [gN,j9,p7]
 exact⟨by rw [h.len];exact hk,fun v hv=>(h.pl v hv).right⟩
def RK.app: ∀{a b:List Int} {x y:cS},RK a x->RK b y->RK (a++b) (x++y)
 |[],_,[],_,_,h=>h
 |k::ks,b,v::vs,y,h,K=>⟨h.1,h.2.1,h.2.2.app K⟩
 |[],_,_::_,_,h,_=>h.elim
 |_::_,_,[],_,h,_=>h.elim
def Pj: ∀(ks:List Int),RK ks (List.replicate ks.length zV)
 |[]=>trivial
 |k::ks=>⟨.z,.inr rfl,Pj ks⟩
def RK.map(f:α->ac)(g:α->Int): ∀(l:List α),(∀e∈l,Pl (f e)/\t7 (f e) (g e))->RK (l.map g) (l.map f)
 |[],_=>trivial
 |e::t,h=>⟨(h e (mp ..)).1,(h e (mp ..)).2,RK.map f g t fun x V=>h x (lT _ V)⟩
def RK.at: ∀{ks:List Int} {r:cS},RK ks r-> ∀(j:Nat),j<ks.length->Pl ((r[j]?).getD zV)/\t7 ((r[j]?).getD zV) ((ks[j]?).getD 0)
 |[],[],_,j,h=>by simp at h
 |k::ks,v::vs,h,j,hj=>by
  cases j with
  |zero=>exact⟨h.1,h.2.1⟩
  |succ j=>simpa using h.2.2.at j (by simpa using hj)
 |[],_::_,h,_,_=>h.elim
 |_::_,[],h,_,_=>h.elim
def RK.as: ∀{a k:List Int} {r:cS},RK a r->k.length=a.length->(∀(j:Nat) (x z:Int),a[j]? =some x->k[j]? =some z->x=z\/x=0)->RK k r
 |[],[],[],_,_,_=>trivial
 |x::a,z::k,v::vs,h,hl,hk=>by
  refine⟨h.1,?_,h.2.2.as (by simpa using hl) fun j x z I K=>hk (j+1) x z (by simpa using I) (by simpa using K)⟩
  have:=hk 0 x z rfl rfl
  have K:=h.2.1
  unfold t7 at K ⊢
  omega
 |[],_::_,_,_,hl,_=>by simp at hl
 |_::_,[],_,_,hl,_=>by simp at hl
 |[],[],_::_,h,_,_=>h.elim
 |_::_,_::_,[],h,_,_=>h.elim
def rG(ks:List Int)(l:List cS):Prop:= ∀r∈l,RK ks r
def rG.perm{ks:List Int}{a b:List cS}(h:rG ks a)(hp:a.Perm b):rG ks b:=fun r hr=>h r (hp.mem_iff.2 hr)
def rG.allr{ks:List Int}{l:List cS}(h:rG ks l)(hk:ks.length<=16):wG l=true:=by
 unfold wG
 rw [p7]
 exact fun r hr=>(h r hr).right hk
def rG.small{ks:List Int}{l:List cS}(h:rG ks l)(hk:ks.length<=16)(hl:l.length<=8000):uW l:=⟨hl,fun r hr=>by rw [(h r hr).len];omega⟩
def rG.rg{ks:List Int}{l:List cS}(h:rG ks l):HB l:=fun r hr=>(h r hr).rg
structure MX(e:cy):Prop where
 len:e.Nodes.length<=200
 rg:NT e.Nodes
def T5(e:cy)(r:cS):ac:=(qY r e.Nodes).1
def tq(e:cy)(r:cS):Bool:=(qY r e.Nodes).2==140
def W0(he:MX e){ks:List Int}(hk:(gh e ks).2=0)(hr:RK ks r):((qY r e.Nodes).2=0/\tq e r=false/\Pl (T5 e r)/\t7 (T5 e r) (gh e ks).1)\/(qY r e.Nodes=(zV,140)/\tq e r=true/\T5 e r=zV/\e.Nodes.any arB=true):=by
 rcases TQ e.Nodes he.len he.rg ks hk r hr.kindR hr.rg hr.len with h|h
 ·exact .inl ⟨h.1,by unfold tq;rw [h.1];rfl,h.2.1,h.2.2⟩
 ·have:qY r e.Nodes=(zV,140):=by
   rcases Bu (r:=r) he.rg hr.rg with q|q|q
   ·rw [q.1]at h;exact absurd h.1 (by decide)
   ·exact absurd h.1 q.2.1
   ·exact q
  exact .inr ⟨this,by unfold tq;rw [this];rfl,by unfold T5;rw [this],h.2⟩
def UK(v:ac):Bool:=v.Kind==1&&v.N==1
def B6{v:ac}(h:Pl v):yO v=some (UK v):=by
 have e:rN true=some (bV true):=rfl
 unfold yO
 rw [e,bt]
 congr 1
 cases h with
 |z=>rfl
 |b b=>cases b<;>rfl
 |i n _=>rfl
 |s s _=>rfl
def ox(e:cy)(r:cS):Bool:=UK (T5 e r)
def vM{ks:List Int}(h:Ll e ks=true):(gh e ks).2=0:=by
 unfold Ll at h
 rw [gN,uZ]at h
 exact h.1
def OK(he:MX e){ks:List Int}(hk:(gh e ks).2=0)(hr:RK ks r):tf e r=some (ox e r,if tq e r then 140 else 0):=by
 unfold tf
 rw [zr e r (by have:=he.len;omega) he.rg hr.rg,bt]
 unfold ox
 rcases W0 he hk hr with q|q
 ·rw [show(qY r e.Nodes).1=T5 e r from rfl,B6 q.2.2.1,bt,q.1,q.2.1];rfl
 ·rw [q.1,q.2.1,q.2.2.1,B6 .z];rfl
def ER(he:MX e){ks:List Int}(hk:(gh e ks).2=0)(hr:RK ks r):qm e r=some (T5 e r,if tq e r then 140 else 0):=by
 rw [Cf e r he.rg hr.rg]
 rcases W0 he hk hr with q|q
 ·rw [q.2.1,<-q.1];rfl
 ·rw [q.1,q.2.1,q.2.2.1];rfl
def E4{n:aq}(he:MX n.Cond){ks:List Int}(hk:(gh n.Cond ks).2=0): ∀(l out:List cS),rG ks l->out.length+l.length<=1000000->iy n l out=some (if l.any (tq n.Cond)then([],140)else(out++l.filter (ox n.Cond),0))
 |[],out,_,_=>by unfold iy;simp
 |r::t,out,h,hl=>by
  rw [io]at hl
  unfold iy
  have hr:=h r (mp ..)
  have Y:rG ks t:=fun x V=>h x (lT _ V)
  rw [OK he hk hr,bt,wU,JK]
  by_cases hf:tq n.Cond r=true
  ·rw [hf];rfl
  ·rw [p8.2 hf]
   simp only [iq,fU,B5,xL]
   by_cases hh:ox n.Cond r=true
   ·rw [br hh,br hh,cA (by simp;omega),bt,E4 he hk t _ Y (by simp only [ju,vl];omega),ji,Cv]
   ·rw [aS hh,aS hh,E4 he hk t _ Y (by omega)]
def FN(v:ac):y8 v=some (UK v):=rfl
def xB{e:cy}(he:MX e){ks:List Int}(hk:(gh e ks).2=0): ∀(l out:List cS) (f:Int),rG ks l->out.length+l.length<=1000000->jj e l out f=some (out++l.filter (ox e),if l.any (tq e)then 140 else f)
 |[],out,_,_,_=>by unfold jj;simp
 |r::t,out,f,h,hl=>by
  rw [io]at hl
  unfold jj
  have hr:=h r (mp ..)
  have Y:rG ks t:=fun x V=>h x (lT _ V)
  rw [ER he hk hr,bt,wU,JK]
  have hk1: ∀f1:Int,pc (jj e t) r out (T5 e r,if tq e r then 140 else 0) f1=some (out++(if ox e r=true then r::t.filter (ox e)else t.filter (ox e)),if t.any (tq e)then 140 else f1):=by
   intro f1
   unfold pc
   rw [FN,bt]
   show(if ox e r=true then _ else _)=_
   by_cases hh:ox e r=true
   ·rw [br hh,br hh,cA (by simp;omega),bt,xB he hk t _ f1 Y (by simp only [ju,vl];omega),ji,Cv]
   ·rw [aS hh,aS hh,xB he hk t _ f1 Y (by omega)]
  by_cases hf:tq e r=true
  ·rw [br (by rw [hf];rfl),hk1,hf];simp
  ·rw [aS (by rw [p8.2 hf];show¬((0:Int) !=0)=true;decide),hk1,p8.2 hf];simp
def yh(items:List cy)(r:cS):cS:=items.map fun e=>T5 e r
def AQ(items:List cy)(r:cS):Bool:=items.any fun e=>tq e r
def RC(nx:List cS->Option (List cS×Int)){ks:List Int}{r:cS}(hr:RK ks r)(out:List cS)(ho:out.length<=1000000): ∀(items:List cy) (y:cS),(∀e∈items,MX e/\(gh e ks).2=0)->y.length+items.length<=1000000->ja nx r out items y=if AQ items r then some ([],140)else nx (out++[y++yh items r])
 |[],y,_,_=>by unfold ja;rw [cA (by simp;omega)];simp [AQ,yh]
 |e::t,y,h,hl=>by
  rw [io]at hl
  unfold ja
  obtain⟨he,hk⟩:=h e (mp ..)
  have Y:=fun x V=>h x (lT e V)
  rw [zr e r (by have:=he.len;omega) he.rg hr.rg,bt]
  have e1:AQ (e::t) r=(tq e r||AQ t r):=rfl
  rw [e1]
  rcases W0 he hk hr with q|q
  ·rw [aS (by rw [q.1];decide),cA (by simp;omega),bt,RC nx hr out ho t _ Y (by simp only [ju,vl];omega),q.2.1]
   simp [yh,T5]
  ·rw [q.1,q.2.1];rfl
def RD{n:aq}{ks:List Int}(hi: ∀e∈n.Items,MX e/\(gh e ks).2=0)(hil:n.Items.length<=100000): ∀(l out:List cS),rG ks l->out.length+l.length<=1000000->hZ n l out=some (if l.any (AQ n.Items)then([],140)else(out++l.map (yh n.Items),0))
 |[],out,_,_=>by unfold hZ;simp
 |r::t,out,h,hl=>by
  rw [io]at hl
  unfold hZ
  have hr:=h r (mp ..)
  have Y:rG ks t:=fun x V=>h x (lT _ V)
  rw [RC _ hr out (by omega) n.Items [] hi (by simp;omega),wU]
  by_cases hf:AQ n.Items r=true
  ·rw [hf];rfl
  ·rw [p8.2 hf]
   simp only [iq,fU,xL,lU]
   rw [RD hi hil t _ Y (by simp only [ju,vl];omega)]
   simp
def FK(nx:List cS->Int->Option (List cS×Int)){ks:List Int}{r:cS}(hr:RK ks r)(out:List cS)(ho:out.length<=1000000): ∀(items:List cy) (y:cS) (f:Int),(∀e∈items,MX e/\(gh e ks).2=0)->y.length+items.length<=1000000->iJ nx r out items y f=nx (out++[y++yh items r]) (if AQ items r then 140 else f)
 |[],y,f,_,_=>by unfold iJ;rw [cA (by simp;omega)];simp [AQ,yh]
 |e::t,y,f,h,hl=>by
  rw [io]at hl
  unfold iJ
  obtain⟨he,hk⟩:=h e (mp ..)
  have Y:=fun x V=>h x (lT e V)
  rw [ER he hk hr,bt]
  have e1:AQ (e::t) r=(tq e r||AQ t r):=rfl
  have e2:yh (e::t) r=T5 e r::yh t r:=rfl
  have hk1: ∀f1:Int,nO (iJ nx r out t) y (T5 e r,if tq e r then 140 else 0) f1=nx (out++[y++yh (e::t) r]) (if AQ t r then 140 else f1):=by
   intro f1
   unfold nO
   rw [cA (by simp;omega),bt,FK nx hr out ho t _ f1 Y (by simp only [ju,vl];omega),e2,ji,Cv]
  rw [e1]
  by_cases hf:tq e r=true
  ·rw [br (by rw [hf];rfl),hk1,hf];simp
  ·rw [aS (by rw [p8.2 hf];show¬((0:Int) !=0)=true;decide),hk1,p8.2 hf];simp
def FL{items:List cy}{ks:List Int}(hi: ∀e∈items,MX e/\(gh e ks).2=0)(hil:items.length<=100000): ∀(l out:List cS) (f:Int),rG ks l->out.length+l.length<=1000000->jx items l out f=some (out++l.map (yh items),if l.any (AQ items)then 140 else f)
 |[],out,_,_,_=>by unfold jx;simp
 |r::t,out,f,h,hl=>by
  rw [io]at hl
  unfold jx
  have hr:=h r (mp ..)
  have Y:rG ks t:=fun x V=>h x (lT _ V)
  rw [FK _ hr out (by omega) items [] f hi (by simp;omega),wU,FL hi hil t _ _ Y (by simp only [ju,vl];omega)]
  by_cases hf:AQ items r=true
  ·rw [hf];simp
  ·rw [p8.2 hf];simp
end Go.Proofs.YtpgjgkdpeagjbaaGreatDoor

