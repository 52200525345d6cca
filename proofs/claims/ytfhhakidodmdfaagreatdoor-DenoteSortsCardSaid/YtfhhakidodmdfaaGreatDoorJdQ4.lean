/- da of this claim: J9, J10, J11, Q1, Q2, Q3, J12, J13, J14. -/
import Derived.Test.YtfhhakidodmdfaaGreatDoorJdQ3
import Derived.Test.YtfhhakidodmdfaaGreatDoorJdQ1
import Derived.Laws.RangeAny
import Derived.Shelf.Strings.CaseAny
set_option linter.all false
namespace Go.Proofs.YtfhhakidodmdfaaGreatDoor
open Go

def q7(e:bL)(b:List co)(x:co):List co:=(b.map fun y=>x++y).filter (u6 e)
def yC(e:bL)(b:List co)(x:co):Bool:=b.any fun y=>u6 e (x++y)
def FV(e:bL)(b:List co)(x:co):Bool:=b.any fun y=>yD e (x++y)
def J0(e:bL)(b:List co)(w:Nat)(left:Bool)(x:co):List co:=if left&& !yC e b x then [x++List.replicate w zV]else []
theorem Gy(e:bL)(b:List co)(x:co):(q7 e b x).length≤b.length:=by
 unfold q7
 have:=List.length_filter_le (u6 e) (b.map fun y=>x++y)
 rw [Cd]at this
 exact this
variable{l:bU}{α:Type}
theorem Cz{α β:Type}(f:α→List β)(m:Nat)(h: ∀x,(f x).length≤m): ∀l:List α,(l.flatMap f).length≤l.length*m
 |[]=>by simp
 |x::t=>by
  rw [List.flatMap_cons,iO,iG,uf,Nat.one_mul]
  have:=Cz f m h t
  have:=h x
  omega
variable{n:am}
theorem SI(n:Int)(h0:0≤n)(h:n≤68719476736):gA n=some []:=by
 unfold gA ik
 rw [aM (by simp;omega)]
 have e:IntKind.i64.wrap (n-IntKind.i64.wrap ((0:Int)-0))=n:=by
  rw [cx (n:=(0:Int)-0) (by omega) (by omega),cx (by omega) (by omega)];omega
 rw [e]
 by_cases hp:0<n
 ·rw [aW (by simpa using hp)]
  unfold V4 nk
  rw [aW hp]
  simp only [aY]
  rw [aW ⟨h0,h⟩]
  simp only [aY]
  rw [show dx (List.replicate n.toNat (⟨0,0,0,[]⟩:ac)) 0 0=some []from by unfold dx;rw [aW (by simp;omega)];simp]
  rfl
 ·rw [aM (by simpa using hp)];rfl
theorem Fe(a b:co)(ha:a.length≤8000)(hb:b.length≤8000):dD [a,b]=some (a++b):=by
 unfold dD
 simp only [eX]
 rw [cx (n:=(0:Int)+(a.length:Int)) (by omega) (by omega),aM (by simp),cx (by omega) (by omega),aM (by simp;omega),SI _ (by omega) (by omega)]
 simp only [aY,eW]
 rw [cr (by simp;omega)]
 simp only [aY,kz]
 rw [cr (by omega)]
 rfl
abbrev JS:=Option Nat×(List co×List Bool×Int×List co)
def u0(n:am):Int×co→JS→Option (Bool×JS):=wm (fun x s=>gQ n x s.1 s.2.1 s.2.2.1 s.2.2.2)
theorem Tf(p q:List α)(w v:α):(p++w::q).set p.length v=p++v::q:=by
 induction p with
 |nil=>rfl
 |cons x t ih=>simp [ih]
theorem NU(p q:List α)(w:α):cE (p++w::q) (p.length:Int)=some w:=by
 rw [Ka];simp
theorem Ei{n:am}(he:PV n.Cond){ka kb:List Int}(hk:(fO n.Cond (ka++kb)).2=0)(hka:ka.length≤16)(hkb:kb.length≤16)(nx:Nat→JS→Option JS){x:co}(hx:RK ka x): ∀(bs xs:List co) (pre:List Bool) (m:Bool) (post:List Bool),ru kb bs→xs.length+bs.length≤1000000→
  if FV n.Cond bs x then∃q:List co×List Bool,fP (u0 n) nx pre.length x bs (none,(xs,pre++m::post,0,[]))=some (some 0,(q.1,q.2,140,[]))
  else fP (u0 n) nx pre.length x bs (none,(xs,pre++m::post,0,[]))=nx (pre.length+1) (none,(xs++q7 n.Cond bs x,pre++(m||yC n.Cond bs x)::post,0,[]))
 |[],xs,pre,m,post,_,_=>by
  have:FV n.Cond [] x=false:=rfl
  rw [this,aM (by decide)]
  unfold fP
  simp [q7,yC]
 |y::t,xs,pre,m,post,hb,hl=>by
  rw [iG]at hl
  have hy:=hb y (kE ..)
  have ht:ru kb t:=fun z hz=>hb z (kC _ hz)
  have hxy:RK (ka++kb) (x++y):=hx.app hy
  have hlx:=hx.len
  have hly:=hy.len
  have e1:FV n.Cond (y::t) x=(yD n.Cond (x++y)||FV n.Cond t x):=rfl
  have e2:q7 n.Cond (y::t) x=(if u6 n.Cond (x++y)=true then(x++y)::q7 n.Cond t x else q7 n.Cond t x):=by
   unfold q7
   rw [wc,List.filter_cons]
  have e3:yC n.Cond (y::t) x=(u6 n.Cond (x++y)||yC n.Cond t x):=rfl
  have step:fP (u0 n) nx pre.length x (y::t) (none,(xs,pre++m::post,0,[]))=(gQ n ((pre.length:Int),x++y) xs (pre++m::post) 0 []).bind fun r=>if(!r.1.isNone)=true then some r else fP (u0 n) nx pre.length x t r:=by
   conv=>lhs;unfold fP
   rw [Fe x y (by omega) (by omega),aY]
   unfold u0 wm
   simp only []
   cases gQ n ((pre.length:Int),x++y) xs (pre++m::post) 0 []with
   |none=>rfl
   |some r=>rfl
  have hbody:gQ n ((pre.length:Int),x++y) xs (pre++m::post) 0 []=some (if yD n.Cond (x++y)then(some 0,(xs,pre++m::post,140,[]))else if u6 n.Cond (x++y)then(none,(xs++[x++y],pre++true::post,0,[]))else(none,(xs,pre++m::post,0,[]))):=by
   unfold gQ
   rw [Kb he hk hxy,aY]
   by_cases hf:yD n.Cond (x++y)=true
   ·rw [hf];rfl
   ·rw [rl.2 hf]
    simp only [gh,ez,yI]
    by_cases hh:u6 n.Cond (x++y)=true
    ·rw [aW hh,aW hh,NU,aY,yn,Tf,aY,cr (by simp;omega),aY]
    ·rw [aM hh,aM hh]
  rw [e1,step,hbody,aY]
  by_cases hf:yD n.Cond (x++y)=true
  ·rw [hf]
   simp only [fe,Bool.true_or]
   exact⟨(xs,pre++m::post),rfl⟩
  ·rw [rl.2 hf]
   simp only [gh,ez,rk]
   by_cases hh:u6 n.Cond (x++y)=true
   ·rw [aW hh]
    simp only [Option.isNone_none,ly,gh,ez]
    have ih:=Ei he hk hka hkb nx hx t (xs++[x++y]) pre true post ht (by simp only [iO,yq];omega)
    rw [e2,aW hh,e3,hh]
    simpa using ih
   ·rw [aM hh]
    simp only [Option.isNone_none,ly,gh,ez]
    have ih:=Ei he hk hka hkb nx hx t xs pre m post ht (by omega)
    rw [e2,aM hh,e3,rl.2 hh,rk]
    exact ih
theorem Jx{n:am}(he:PV n.Cond){ka kb:List Int}(hk:(fO n.Cond (ka++kb)).2=0)(hka:ka.length≤16)(hkb:kb.length≤16){b:List co}(hb:ru kb b): ∀(a xs:List co) (pre:List Bool),ru ka a→xs.length+a.length*b.length+b.length≤1000000→
  if a.any (FV n.Cond b)then∃q:List co×List Bool,dQ b (u0 n) a pre.length (none,(xs,pre++List.replicate a.length false,0,[]))=some (some 0,(q.1,q.2,140,[]))
  else dQ b (u0 n) a pre.length (none,(xs,pre++List.replicate a.length false,0,[]))=some (none,(xs++a.flatMap (q7 n.Cond b),pre++a.map (yC n.Cond b),0,[]))
 |[],xs,pre,_,_=>by
  rw [List.any_nil,aM (by decide)]
  unfold dQ
  simp
 |x::t,xs,pre,ha,hl=>by
  rw [iG,uf,Nat.one_mul]at hl
  have hx:=ha x (kE ..)
  have ht:ru ka t:=fun z hz=>ha z (kC _ hz)
  have h2:=Ei he hk hka hkb (dQ b (u0 n) t) hx b xs pre false (List.replicate t.length false) hb (by omega)
  have er:List.replicate (x::t).length false=false::List.replicate t.length false:=rfl
  rw [er,uG]
  unfold dQ
  by_cases hf:FV n.Cond b x=true
  ·rw [hf]at h2 ⊢
   simpa using h2
  ·rw [rl.2 hf]at h2 ⊢
   simp only [gh,ez,rk]at h2 ⊢
   have ih:=Jx he hk hka hkb hb t (xs++q7 n.Cond b x) (pre++[yC n.Cond b x]) ht (by have:=Gy n.Cond b x;simp only [iO];omega)
   rw [h2]
   simp only [iO,yq,jv,Hb]at ih ⊢
   rw [List.flatMap_cons,wc]
   exact ih
theorem NQ{ob:cX}{n:am}{w:Nat}(hw:w≤16)(hB:cE ob.width n.B=some (w:Int))(e:bL)(b:List co)(st:JS)(u:Unit): ∀(t:List co) (pre:List Bool) (out:List co),(∀x∈t,x.length≤16)→st.2.2.1=pre++t.map (yC e b)→out.length+t.length≤1000000→gO ob n (st,u) t pre.length out=some (out++t.flatMap (J0 e b w n.Left),0)
 |[],pre,out,_,_,_=>by unfold gO;simp
 |x::t,pre,out,hx,hs,hl=>by
  rw [iG]at hl
  unfold gO
  have hxl:=hx x (kE ..)
  have ht:=fun z hz=>hx z (kC x hz)
  rw [wc]at hs
  have hi:cE st.2.2.1 (pre.length:Int)=some (yC e b x):=by rw [hs,NU]
  have ih:=NQ hw hB e b st u t (pre++[yC e b x])
  rw [iO,yq]at ih
  have hs2:st.2.2.1=pre++[yC e b x]++t.map (yC e b):=by rw [hs];simp
  rw [List.flatMap_cons]
  have ec:(if n.Left=true then((cE st.2.2.1 (pre.length:Int)).bind fun e4=>some (!e4))else some false)=some (n.Left&& !yC e b x):=by
   rw [hi]
   cases n.Left<;>rfl
  show((if n.Left=true then((cE st.2.2.1 (pre.length:Int)).bind fun e4=>some (!e4))else some false).bind fun q=>_)=_
  rw [ec,aY]
  unfold J0
  by_cases hc:(n.Left&& !yC e b x)=true
  ·rw [aW hc,aW hc,hB,aY]
   have hz:nk (w:Int) (⟨0,0,0,[]⟩:ac)=some (List.replicate w zV):=by
    unfold nk
    rw [aW (by omega)]
    rfl
   rw [hz,aY,Fe x _ (by omega) (by simp;omega),aY,cr (by simp;omega),aY,ih _ ht hs2 (by simp only [iO,yq];omega),jv]
   rfl
  ·rw [aM hc,aM hc,ih _ ht hs2 (by omega),kz]
   rfl
def Cw(n:am)(a b:List co)(w:Nat):List co×Int:=
 if 40000<a.length*b.length then([],3)else if a.any (FV n.Cond b)then([],140)else(a.flatMap (q7 n.Cond b)++a.flatMap (J0 n.Cond b w n.Left),0)
structure OR(n:am)(ka kb:List Int):Prop where
 cond:PV n.Cond
 kind:(fO n.Cond (ka++kb)).2=0
 ka:ka.length≤16
 kb:kb.length≤16
theorem QX{p q:Nat}(hp:p≤8000)(hq:q≤8000):decide ((40000:Int)<(IntKind.i64.wrap ((p:Int)*(q:Int))))=decide (40000<p*q):=by
 have h:p*q≤8000*8000:=wr hp hq
 rw [←wJ,lW (by omega) (by omega),Ac]
 omega
theorem TK{ka kb:List Int}(h:OR n ka kb){a b:List co}(ha:ru ka a)(hb:ru kb b)(hal:a.length≤8000)(hbl:b.length≤8000)(ob:cX)(hA:cE ob.rows n.A=some a)(hB:cE ob.rows n.B=some b)(hW:cE ob.width n.B=some (kb.length:Int)):jB ob n=some (Cw n a b kb.length):=by
 unfold jB Cw
 rw [hA,hB,aY,aY,QX hal hbl]
 by_cases hm:40000<a.length*b.length
 ·rw [aW (by simpa using hm),aW hm]
 ·rw [aM (by simpa using hm),aM hm]
  have hz:nk (a.length:Int) false=some (List.replicate a.length false):=by
   unfold nk
   rw [aW (by omega)]
   rfl
  have hp:vT a b=some (fun _=>lQ a b):=rfl
  rw [hz,aY,hp,aY]
  have hit:(itU (fun(Sg:Type)=>lQ (Sg:=Sg) a b)) JS (u0 n) (none,(([]:List co),List.replicate a.length false,(0:Int),[]))=(dQ b (u0 n) a 0 (none,(([]:List co),List.replicate a.length false,(0:Int),[]))).map fun r=>(r,()):=rfl
  have hp1:=Jx h.cond h.kind h.ka h.kb hb a [] [] ha (by simp only [ph];omega)
  show((itU (fun(Sg:Type)=>lQ (Sg:=Sg) a b)) JS (u0 n) (none,(([]:List co),List.replicate a.length false,(0:Int),[]))).bind _=_
  rw [hit]
  by_cases hf:a.any (FV n.Cond b)=true
  ·rw [aW hf]at hp1 ⊢
   obtain⟨q,hq⟩:=hp1
   have hq2:dQ b (u0 n) a 0 (none,(([]:List co),List.replicate a.length false,(0:Int),[]))=some (some 0,(q.1,q.2,140,[])):=hq
   rw [hq2]
   rfl
  ·rw [aM hf]at hp1 ⊢
   have hq2:dQ b (u0 n) a 0 (none,(([]:List co),List.replicate a.length false,(0:Int),[]))=some (none,(a.flatMap (q7 n.Cond b),a.map (yC n.Cond b),0,[])):=hp1
   rw [hq2]
   have hlen:=Cz (q7 n.Cond b) b.length (Gy n.Cond b) a
   have:=NQ (ob:=ob) (n:=n) h.kb hW n.Cond b (none,(a.flatMap (q7 n.Cond b),a.map (yC n.Cond b),0,[])) () a [] (a.flatMap (q7 n.Cond b)) (fun x hx=>by rw [(ha x hx).len];exact h.ka) rfl (by omega)
   exact this
theorem TM{ka kb:List Int}{a b:List co}(ha:ru ka a)(hb:ru kb b):ru (ka++kb) (a.flatMap (q7 n.Cond b)):=by
 intro r hr
 obtain⟨x,hx,hr⟩:=List.mem_flatMap.1 hr
 unfold q7 at hr
 obtain⟨y,hy,e⟩:=uF.1 (F1.1 hr).1
 rw [←e]
 exact(ha x hx).app (hb y hy)
theorem TN{ka kb:List Int}{a b:List co}(ha:ru ka a):ru (ka++kb) (a.flatMap (J0 n.Cond b kb.length n.Left)):=by
 intro r hr
 obtain⟨x,hx,hr⟩:=List.mem_flatMap.1 hr
 unfold J0 at hr
 split at hr
 ·rw [CO.1 hr]
  exact(ha x hx).app (KL kb)
 ·cases hr
theorem DF{e:bL}(h:e.Nodes.any Yq=true):I3 e=true:=by
 unfold I3
 rw [h,yH]
 cases hn:e.Nodes with
 |nil=>rw [hn]at h;cases h
 |cons x t=>rfl
theorem TL{ka kb:List Int}(h:OR n ka kb){a b:List co}(ha:ru ka a)(hb:ru kb b):ru (ka++kb) (Cw n a b kb.length).1∧((Cw n a b kb.length).2=0∨Cw n a b kb.length=([],3)∨Cw n a b kb.length=([],140)∧I3 n.Cond=true):=by
 unfold Cw
 by_cases hm:40000<a.length*b.length
 ·rw [aW hm]
  exact⟨(fun r hr=>by cases hr),.inr (.inl rfl)⟩
 ·rw [aM hm]
  by_cases hf:a.any (FV n.Cond b)=true
  ·rw [aW hf]
   refine⟨(fun r hr=>by cases hr),.inr (.inr ⟨rfl,?_⟩)⟩
   obtain⟨x,hx,hq⟩:=uh.1 hf
   unfold FV at hq
   obtain⟨y,hy,hq⟩:=uh.1 hq
   rcases Vn h.cond h.kind ((ha x hx).app (hb y hy))with q|q
   ·rw [q.2.1]at hq;cases hq
   ·exact DF q.2.2.2
  ·rw [aM hf]
   refine⟨fun r hr=>?_,.inl rfl⟩
   rcases zY.1 hr with q|q
   ·exact TM ha hb r q
   ·exact TN ha r q

variable{ks:Nat→List Int}{sz:Nat→Nat}
theorem LY(hS:pR l)(hr:oc l=true)(K:G2 l sz ks){p:Nat}(hp:p<l.Nodes.length): ∃d,sT l (p:Int)=some (d,0)∧q5 d=some (ks p,0):=by
 obtain⟨_,_,ob,j,r3,r4⟩:=At hS
 obtain⟨hL,hj⟩:=r4 hr
 rw [hr]at r3
 have hle:=hL.le
 have H:Fh l (wA ob.first) (Mm ob.kinds):=fun j hj=>Kn hL.inv hle hj
 obtain⟨N0,hf⟩:=hL.inv.at hp
 have h1:=N0.pos
 have h2:=N0.le
 have hb:((p+1-wA ob.first p:Nat):Int)=(p:Int)+1-(wA ob.first p:Int):=by omega
 have hfi:cE ob.first (p:Int)=some ((p+1-wA ob.first p:Nat):Int):=by rw [bX,hf,hb]
 have hpart:sT l (p:Int)=some (zw l (p+1-wA ob.first p) p,0):=by
  unfold sT
  rw [r3]
  simp only [aY,ly,gh,ez]
  rw [aM (by simp;omega),hfi]
  simp only [aY]
  rw [MW hS hle hp (by omega) ((l.Nodes.take (p+1)).drop (p+1-wA ob.first p)) (p+1-wA ob.first p) ge _ rfl (by simp;omega) (u7 (by simp;omega)) (by simp)]
  rfl
 refine⟨_,hpart,?_⟩
 have hpr:=LX H hle hp h2 h1
 have hps:=HF hS (p+1-wA ob.first p) p
 obtain⟨sz',ks',K'⟩:=Ex hps hpr
 have hk:=(JO hps K' (Eh H hle hp h2)).1
 have hlen:=vJ (l:=l) (e:=p+1-wA ob.first p) hp
 rw [K'.kinds,←hk,hlen]
 have hsame:=YC (l:=l) (d:=l) (e:=0) (m:=l.Nodes.length) K.all H (dF _) (by omega) (by omega) (by omega) (fun j hj n hn=>by
  obtain⟨m,F⟩:=K.all j hj
  have hm:n=m:=by rw [F.node]at hn;injection hn with hn;exact hn.symm
  subst hm
  rw [uz,Pq K F hj]
  exact F.node) p hp
 have e:p+1-wA ob.first p+(p+1-(p+1-wA ob.first p)-1)=p:=by omega
 simp only [e]
 have:=hsame.2
 rw [uz]at this
 rw [this]
structure GZ(n:am):Prop where
 small:ja n
 cond:PV n.Cond
 items: ∀e∈n.Items,PV e
 args: ∀g∈n.Aggs,PV g.Arg
def yN(base:iJ)(n:am):List co:=(base.Tables[n.Table.toNat]?).getD []
def wg(n:am)(base:iJ)(a b:List co)(w:Nat):List co×Int:=
 if n.Op=1 then(yN base n,0)
 else if n.Op=2 then Cw n a b w
 else if n.Op=3 then(if a.any (yD n.Cond)then([],140)else(a.filter (u6 n.Cond),0))
 else if n.Op=4 then xh n a
 else if n.Op=5 then(if a.any (H1 n.Items)then([],140)else(a.map (Js n.Items),0))
 else if n.Op=6 then(uc (zi a),0)
 else if n.Op=7 then(a++b,0)
 else(FY n.Limit (tt (ta n.Order) a),0)
def Kk(n:am)(q:List co×Int):List co×Int:=if q.2≠0 then([],q.2)else if 8000<q.1.length then([],3)else(if n.Op=8 then q.1 else zi q.1,0)
def y4(n:am)(base:iJ)(a b:List co)(w:Nat):List co×Int:=Kk n (wg n base a b w)
theorem Kw{limit:Int}{l:List co}{r:co}(h:r∈FY limit l):r∈l:=by
 unfold FY at h
 split at h
 ·exact List.mem_of_mem_take h
 ·exact h
def Ht(base:iJ)(n:am)(k:List Int):Prop:=n.Op=1→n.Table.toNat<base.Tables.length∧ru k (yN base n)∧(yN base n).length≤12
theorem Lp{e:bL}(h:e∈n.Items)(hu:I3 e=true):Lq n=true:=by
 unfold Lq
 rw [uh.2 ⟨e,h,hu⟩]
 simp
variable{base:iJ}
theorem NH{ka kb k:List Int}{a b:List co}(hn:GZ n)(hop:Fk n.Op=true)(hk:bq n ka kb=some (k,true))(hka:ka.length≤16)(hkb:kb.length≤16)(hsc:Ht base n k)(ha:ru ka a)(hb:ru kb b)(hal:a.length≤8000):
  ru k (wg n base a b kb.length).1∧((wg n base a b kb.length).2=0∨(wg n base a b kb.length).2=3∨((wg n base a b kb.length).2=140∧Lq n=true)):=by
 unfold wg
 rcases qg hop with o|o|o|o|o|o|o|o
 ·rw [aW o]
  exact⟨(hsc o).2.1,.inl rfl⟩
 ·rw [aM (by omega),aW o]
  obtain⟨e,ht⟩:=NJ o hk
  subst e
  have hj:OR n ka kb:=⟨hn.cond,xA ht,hka,hkb⟩
  obtain⟨p1,p2⟩:=TL hj ha hb
  refine⟨p1,?_⟩
  rcases p2 with q|q|q
  ·exact .inl q
  ·rw [q];exact .inr (.inl rfl)
  ·rw [q.1];exact .inr (.inr ⟨rfl,by unfold Lq;rw [q.2];rfl⟩)
 ·rw [aM (by omega),aM (by omega),aW o]
  obtain⟨e,ht⟩:=Gu o hk
  subst e
  by_cases hf:a.any (yD n.Cond)=true
  ·rw [aW hf]
   refine⟨(fun r hr=>by cases hr),.inr (.inr ⟨rfl,?_⟩)⟩
   obtain⟨r,hr,hq⟩:=uh.1 hf
   rcases Vn hn.cond (xA ht) (ha r hr)with q|q
   ·rw [q.2.1]at hq;cases hq
   ·unfold Lq;rw [DF q.2.2.2];rfl
  ·rw [aM hf]
   exact⟨fun r hr=>ha r (F1.1 hr).1,.inl rfl⟩
 ·rw [aM (by omega),aM (by omega),aM (by omega),aW o]
  obtain⟨p1,p2,p3,p4⟩:=JJ hn.small o hk
  subst p3
  have hg:KU n ka:=⟨p1,fun g hg=>⟨hn.args g hg,p2 g hg⟩,hka,by omega,hn.small.aggs⟩
  obtain⟨q1,_,q3⟩:=Rl hg ha hal
  refine⟨q1,?_⟩
  rcases q3 with q|q
  ·exact .inl q
  ·rw [q.1];exact .inr (.inr ⟨rfl,by unfold Lq;rw [q.2];simp⟩)
 ·rw [aM (by omega),aM (by omega),aM (by omega),aM (by omega),aW o]
  obtain⟨p1,p2⟩:=Ep hn.small o hk
  subst p2
  by_cases hf:a.any (H1 n.Items)=true
  ·rw [aW hf]
   refine⟨(fun r hr=>by cases hr),.inr (.inr ⟨rfl,?_⟩)⟩
   obtain⟨r,hr,hq⟩:=uh.1 hf
   unfold H1 at hq
   obtain⟨e,he,hq⟩:=uh.1 hq
   rcases Vn (hn.items e he) (p1 e he) (ha r hr)with q|q
   ·rw [q.2.1]at hq;cases hq
   ·exact Lp he (DF q.2.2.2)
  ·rw [aM hf]
   refine⟨?_,.inl rfl⟩
   intro x hx
   obtain⟨r,hr,e⟩:=uF.1 hx
   rw [←e]
   refine RK.map _ _ _ fun e he=>?_
   rcases Vn (hn.items e he) (p1 e he) (ha r hr)with q|q
   ·exact q.2.2
   ·rw [q.2.2.1];exact⟨.z,.inr rfl⟩
 ·rw [aM (by omega),aM (by omega),aM (by omega),aM (by omega),aM (by omega),aW o]
  have e:=JK o hk
  subst e
  exact⟨fun r hr=>ha r ((lB ek a).mem_iff.1 ((xQ _ _).1 hr)),.inl rfl⟩
 ·rw [aM (by omega),aM (by omega),aM (by omega),aM (by omega),aM (by omega),aM (by omega),aW o]
  obtain⟨p1,p2,p3⟩:=QW (by omega) o hk
  refine⟨?_,.inl rfl⟩
  intro r hr
  rcases zY.1 hr with q|q
  ·refine(ha r q).as p2 fun j x z h1 h2=>?_
   have hj:j<kb.length:=by
    have:=jN.1 h1
    obtain⟨h,_⟩:=this
    omega
   exact(p3 j x kb[j] z h1 (n8 hj) h2).1
  ·refine(hb r q).as (by omega) fun j y z h1 h2=>?_
   have hj:j<ka.length:=by
    have:=jN.1 h1
    obtain⟨h,_⟩:=this
    omega
   exact(p3 j ka[j] y z (n8 hj) h1 h2).2
 ·rw [aM (by omega),aM (by omega),aM (by omega),aM (by omega),aM (by omega),aM (by omega),aM (by omega)]
  obtain⟨p1,_⟩:=NI hn.small o hk
  subst p1
  exact⟨fun r hr=>ha r ((lB _ a).mem_iff.1 (Kw hr)),.inl rfl⟩
theorem Vt{ka kb k:List Int}{a b:List co}(hn:GZ n)(hop:Fk n.Op=true)(hk:bq n ka kb=some (k,true))(hka:ka.length≤16)(hkb:kb.length≤16)(hsc:Ht base n k)(ha:ru ka a)(hb:ru kb b)(hal:a.length≤8000):
  ru k (y4 n base a b kb.length).1∧(y4 n base a b kb.length).1.length≤8000∧((y4 n base a b kb.length).2=0∨y4 n base a b kb.length=([],3)∨(y4 n base a b kb.length=([],140)∧Lq n=true)):=by
 obtain⟨p1,p2⟩:=NH hn hop hk hka hkb hsc ha hb hal
 unfold y4 Kk
 by_cases h0:(wg n base a b kb.length).2=0
 ·rw [aM (by simpa using h0)]
  by_cases hl:8000<(wg n base a b kb.length).1.length
  ·rw [aW hl]
   exact⟨(fun r hr=>by cases hr),by simp,.inr (.inl rfl)⟩
  ·rw [aM hl]
   by_cases h8:n.Op=8
   ·rw [aW h8]
    exact⟨p1,by show(wg n base a b kb.length).1.length≤8000;omega,.inl rfl⟩
   ·rw [aM h8]
    exact⟨p1.perm (lB _ _).symm,by show(zi _).length≤8000;rw [xC];omega,.inl rfl⟩
 ·rw [aW h0]
  refine⟨(fun r hr=>by cases hr),by simp,?_⟩
  rcases p2 with q|q|q
  ·exact absurd q h0
  ·rw [q];exact .inr (.inl rfl)
  ·rw [q.1];exact .inr (.inr ⟨rfl,q.2⟩)

def Fl{α:Type}(l:List (List α))(i:Int):List α:=if i<0 then []else(l[i.toNat]?).getD []
def WY(ks:Nat→List Int)(i:Int):Nat:=(if i<0 then []else ks i.toNat).length
def Pb(base:iJ)(ks:Nat→List Int):List am→List (List co)→List (List co)×Int
 |[],rows=>(rows,0)
 |n::t,rows=>if(y4 n base (Fl rows n.A) (Fl rows n.B) (WY ks n.B)).2≠0 then([],(y4 n base (Fl rows n.A) (Fl rows n.B) (WY ks n.B)).2)else Pb base ks t (rows++[(y4 n base (Fl rows n.A) (Fl rows n.B) (WY ks n.B)).1])
def Q8(rows:List (List co)):List co:=(rows[rows.length-1]?).getD []
def RX(r:List (List co)×Int):List co×Int:=if r.2≠0 then([],r.2)else(Q8 r.1,0)
def VU(l:bU)(base:iJ)(ks:Nat→List Int):List co×Int:=RX (Pb base ks l.Nodes [])
structure KT(ks:Nat→List Int)(rows:List (List co))(i:Nat):Prop where
 len:rows.length=i
 ok: ∀j,j<i→ru (ks j) ((rows[j]?).getD [])∧((rows[j]?).getD []).length≤8000
variable{i:Nat}{rows:List (List co)}
theorem NT{i:Int}(h:0≤i)(h2:i<(rows.length:Int)):cE rows i=some (Fl rows i):=by
 obtain⟨k,hk⟩:=Dx h
 subst hk
 have hk:k<rows.length:=by omega
 unfold Fl
 rw [bX,aM (by omega)]
 simp [hk]
theorem KT.at(h:KT ks rows i){x:Int}(hx:x= -1∨0≤x∧x<(i:Int)):ru (if x<0 then []else ks x.toNat) (Fl rows x)∧(Fl rows x).length≤8000:=by
 unfold Fl
 rcases hx with q|q
 ·rw [aW (by omega),aW (by omega)]
  exact⟨(fun r hr=>by cases hr),by simp⟩
 ·rw [aM (by omega),aM (by omega)]
  exact h.ok x.toNat (by omega)
structure GR(l:bU)(base:iJ)(sz:Nat→Nat)(ks:Nat→List Int):Prop where
 known:G2 l sz ks
 right:oc l=true
 nodes: ∀n∈l.Nodes,GZ n
 scan: ∀(j:Nat) (n:am),cE l.Nodes (j:Int)=some n→Ht base n (ks j)
theorem GR.small(T:GR l base sz ks):pR l:=fun n hn=>(T.nodes n hn).small
structure Wy(l:bU)(base:iJ)(ks:Nat→List Int)(rows:List (List co))(j:Nat)(n:am)(ka kb:List Int):Prop where
 g:GZ n
 op:Fk n.Op=true
 kinds:bq n ka kb=some (ks j,true)
 k16:(ks j).length≤16
 ka16:ka.length≤16
 kb16:kb.length≤16
 scan:Ht base n (ks j)
 a:ru ka (Fl rows n.A)
 al:(Fl rows n.A).length≤8000
 b:ru kb (Fl rows n.B)
 bl:(Fl rows n.B).length≤8000
 w:WY ks n.B=kb.length
 ia:n.Op≠1→cE rows n.A=some (Fl rows n.A)
 ib:n.Op=2∨n.Op=7→cE rows n.B=some (Fl rows n.B)∧0≤n.B∧n.B<(j:Int)
theorem YU(T:GR l base sz ks){j:Nat}(hj:j<l.Nodes.length)(I:KT ks rows j): ∃n,cE l.Nodes (j:Int)=some n∧Wy l base ks rows j n (if n.A<0 then []else ks n.A.toNat) (if n.B<0 then []else ks n.B.toNat):=by
 obtain⟨n,F⟩:=T.known.all j hj
 have hmem:n∈l.Nodes:=by
  have:=F.node
  rw [bX]at this
  exact rA this
 obtain⟨pA,pB⟩:=qY F
 have h16: ∀x:Int,(x= -1∨0≤x∧x<(j:Int))→(if x<0 then([]:List Int)else ks x.toNat).length≤16:=by
  intro x hx
  rcases hx with q|q
  ·rw [aW (by omega)];simp
  ·rw [aM (by omega)]
   obtain⟨m,Fm⟩:=T.known.all x.toNat (by omega)
   exact Fm.len
 refine⟨n,F.node,⟨T.nodes n hmem,F.op,F.kinds,F.len,h16 _ pA,h16 _ pB,T.scan j n F.node,(I.at pA).1,(I.at pA).2,(I.at pB).1,(I.at pB).2,rfl,?_,?_⟩⟩
 ·intro h1
  have:0≤n.A∧n.A<(rows.length:Int):=by
   rw [I.len]
   by_cases h27:n.Op=2∨n.Op=7
   ·have:=F.bi h27;omega
   ·have:=F.un h1 (fun h=>h27 (.inl h)) (fun h=>h27 (.inr h));omega
  exact NT this.1 this.2
 ·intro h27
  have:=F.bi h27
  have hb:0≤n.B∧n.B<(j:Int):=by omega
  exact⟨NT hb.1 (by rw [I.len];exact hb.2),hb⟩
abbrev abq:=cX→am→Option ((List co×Int)×cX)
def Q5:List (Int×abq):=dw (dw (dw (dw (dw (dw (dw (dw ([]:List (Int×(cX→am→Option (((List (List ac))×Int)×cX)))) (1:Int) (fun(mc:cX) (mx:am)=>(kJ mc mx).map fun mr=>(mr,mc))) (2:Int) (fun(mc:cX) (mx:am)=>(jB mc mx).map fun mr=>(mr,mc))) (3:Int) (fun(mc:cX) (mx:am)=>(jy mc mx).map fun mr=>(mr,mc))) (4:Int) (fun(mc:cX) (mx:am)=>(i7 mc mx).map fun mr=>(mr,mc))) (5:Int) (fun(mc:cX) (mx:am)=>(i6 mc mx).map fun mr=>(mr,mc))) (6:Int) (fun(mc:cX) (mx:am)=>(iD mc mx).map fun mr=>(mr,mc))) (7:Int) (fun(mc:cX) (mx:am)=>(j6 mc mx).map fun mr=>(mr,mc))) (8:Int) (fun(mc:cX) (mx:am)=>(j7 mc mx).map fun mr=>(mr,mc))
theorem YT{ks:List Int}{r:co}(hr:RK ks r)(h: ∀o∈n.Order,0≤o.Col∧o.Col<(ks.length:Int)):tP n.Order r=true:=by
 unfold tP
 rw [ju]
 intro o ho
 have:=h o ho
 rw [←hr.len]at this
 simp [this.1,this.2]
theorem Pm{j:Nat}{ka kb:List Int}(M:Wy l base ks rows j n ka kb)(ob:cX)(hB:ob.Base=base)(hR:ob.rows=rows)(hW: ∀i:Int,0≤i→i<(j:Int)→cE ob.width i=some (WY ks i:Int)):((oR Q5 n.Op).getD fun _ _=>none) ob n=some (wg n base (Fl rows n.A) (Fl rows n.B) kb.length,ob):=by
 unfold Q5
 rw [Q0]
 have hk:=M.kinds
 unfold wg
 have hsm:=M.a.small M.ka16 M.al
 rcases qg M.op with o|o|o|o|o|o|o|o
 ·rw [aW o,aW o]
  obtain⟨_,t1,t2⟩:=HS o hk
  obtain⟨s1,s2,s3⟩:=M.scan o
  show(kJ ob n).map _=_
  unfold kJ
  have:cE base.Tables n.Table=some (yN base n):=by
   unfold yN
   rw [gM n.Table.toNat (by omega),n8 s1]
   rfl
  rw [hB,this]
  rfl
 ·rw [aM (by omega),aW o,aM (by omega),aW o]
  obtain⟨e,ht⟩:=NJ o hk
  have hj:OR n ka kb:=⟨M.g.cond,xA ht,M.ka16,M.kb16⟩
  obtain⟨b1,b2,b3⟩:=M.ib (.inl o)
  show(jB ob n).map _=_
  rw [TK hj M.a M.b M.al M.bl ob (by rw [hR];exact M.ia (by omega)) (by rw [hR];exact b1) (by rw [hW n.B b2 b3,M.w])]
  rfl
 ·rw [aM (by omega),aM (by omega),aW o,aM (by omega),aM (by omega),aW o]
  obtain⟨e,ht⟩:=Gu o hk
  show(jy ob n).map _=_
  unfold jy
  rw [hR,M.ia (by omega),aY,BN M.g.cond (xA ht) _ [] M.a (by have:=M.al;simp only [ph];omega)]
  rfl
 ·rw [aM (by omega),aM (by omega),aM (by omega),aW o,aM (by omega),aM (by omega),aM (by omega),aW o]
  obtain⟨p1,p2,p3,p4⟩:=JJ M.g.small o hk
  have hg:KU n ka:=⟨p1,fun g hg=>⟨M.g.args g hg,p2 g hg⟩,M.ka16,by omega,M.g.small.aggs⟩
  show(i7 ob n).map _=_
  rw [Rk hg M.a M.al ob (by rw [hR];exact M.ia (by omega))]
  rfl
 ·rw [aM (by omega),aM (by omega),aM (by omega),aM (by omega),aW o,aM (by omega),aM (by omega),aM (by omega),aM (by omega),aW o]
  obtain⟨p1,p2⟩:=Ep M.g.small o hk
  show(i6 ob n).map _=_
  unfold i6
  rw [hR,M.ia (by omega),aY,Nx (fun e he=>⟨M.g.items e he,p1 e he⟩) (by have:=M.g.small.items;omega) _ [] M.a (by have:=M.al;simp only [ph];omega)]
  rfl
 ·rw [aM (by omega),aM (by omega),aM (by omega),aM (by omega),aM (by omega),aW o,aM (by omega),aM (by omega),aM (by omega),aM (by omega),aM (by omega),aW o]
  show(iD ob n).map _=_
  unfold iD
  rw [hR,M.ia (by omega),aY,CW hsm,M.a.allr M.ka16]
  rfl
 ·rw [aM (by omega),aM (by omega),aM (by omega),aM (by omega),aM (by omega),aM (by omega),aW o,aM (by omega),aM (by omega),aM (by omega),aM (by omega),aM (by omega),aM (by omega),aW o]
  obtain⟨b1,b2,b3⟩:=M.ib (.inr o)
  show(j6 ob n).map _=_
  unfold j6
  rw [hR,M.ia (by omega),aY,b1,aY,M0 _ _ M.al M.bl]
  rfl
 ·rw [aM (by omega),aM (by omega),aM (by omega),aM (by omega),aM (by omega),aM (by omega),aM (by omega),aW o,aM (by omega),aM (by omega),aM (by omega),aM (by omega),aM (by omega),aM (by omega),aM (by omega)]
  obtain⟨p1,p2⟩:=NI M.g.small o hk
  show(j7 ob n).map _=_
  unfold j7
  have ho:IB n.Order (Fl rows n.A):=⟨fun r hr=>(M.a r hr).right M.ka16,fun r hr=>YT (M.a r hr) p2⟩
  rw [hR,M.ia (by omega),aY,vc ho (by have:=M.al;omega)]
  rfl
theorem KT.next(h:KT ks rows i){r:List co}(hr:ru (ks i) r)(hl:r.length≤8000):KT ks (rows++[r]) (i+1):=by
 have hlen:=h.len
 refine⟨by simp [hlen],fun j hj=>?_⟩
 by_cases hji:j<i
 ·rw [Bq (by omega)]
  exact h.ok j hji
 ·have:j=i:=by omega
  subst this
  rw [ui (by omega),hlen]
  simpa using ⟨hr,hl⟩



def Kj:List ac→List Int→Bool
 |v::t,k::ks=>(fh v&&(v.Kind==0||v.Kind==k))&&Kj t ks
 |[],_=>true
 |_::_,[]=>false
def Rs(kinds:List Int)(r:co):Bool:=decide (r.length=kinds.length)&&Kj r kinds
def Ki(rows:List co)(kinds:List Int):Bool:=decide (rows.length≤12)&&rows.all (Rs kinds)
theorem EG(kinds:List Int)(nx:Option Bool)(r:co)(hl:r.length=kinds.length): ∀(n i:Nat),r.length-i=n→i≤r.length→lR kinds nx (r.drop i) i=if Kj (r.drop i) (kinds.drop i)then nx else some false
 |0,i,h,hi=>by
  rw [Do (by omega)]
  unfold lR Kj
  rfl
 |n+1,i,h,hi=>by
  have hlt:i<r.length:=by omega
  have hlk:i<kinds.length:=by omega
  rw [rD hlt,rD hlk]
  unfold lR Kj
  rw [EG kinds nx r hl n (i+1) (by omega) (by omega),np,aY,bX,n8 hlk]
  simp only [aY]
  have e:(r[i].Kind==0)= !(r[i].Kind !=0):=by rw [bne,Bool.not_not]
  have e2:(r[i].Kind==kinds[i])= !(r[i].Kind !=kinds[i]):=by rw [bne,Bool.not_not]
  rw [e,e2]
  cases fh r[i]<;>cases (r[i].Kind !=0)<;>cases (r[i].Kind !=kinds[i])<;>simp
theorem abB(a b:Nat):((a:Int) !=(b:Int))= !decide (a=b):=by
 rw [zX];simp;omega
theorem EH(kinds:List Int): ∀rows:List co,lS kinds rows=some (rows.all (Rs kinds))
 |[]=>rfl
 |r::t=>by
  unfold lS
  rw [abB,wq,Rs,EH kinds t]
  by_cases h:r.length=kinds.length
  ·have:=EG kinds (some (t.all (Rs kinds))) r h r.length 0 rfl (ln _)
   rw [wB,wB]at this
   rw [ug h,this]
   cases Kj r kinds<;>simp
  ·rw [tu h];simp
theorem EQ(rows:List co)(kinds:List Int):ra rows kinds=some (Ki rows kinds):=by
 unfold ra Ki
 rw [EH]
 by_cases h:rows.length≤12
 ·rw [aM (by rw [kZ];omega),ug h];rfl
 ·rw [aW (by rw [kZ];omega),tu h];rfl

def qB(ks:Nat→List Int)(i:Nat):List Int:=(List.range i).map fun j=>((ks j).length:Int)
theorem OZ(x:Int)(h:0≤x)(h2:x<(i:Int)):cE (qB ks i) x=some (WY ks x:Int):=by
 obtain⟨k,hk⟩:=Dx h
 subst hk
 have hk:k<i:=by omega
 unfold qB WY
 rw [bX,aM (by omega)]
 simp [hk]
theorem I1(ks:Nat→List Int)(i:Nat):qB ks i++[((ks i).length:Int)]=qB ks (i+1):=by
 unfold qB
 rw [List.range_succ,List.map_append]
 rfl
theorem TH(h:1≤rows.length)(h2:rows.length≤100000):cE rows (IntKind.i64.wrap ((rows.length:Int)-1))=some (Q8 rows):=by
 rw [lW (by omega) (by omega),show(rows.length:Int)-1=((rows.length-1:Nat):Int)from by omega,bX]
 unfold Q8
 rw [n8 (by omega)]
 rfl
theorem GL{l:bU}{base:iJ}{sz:Nat→Nat}{ks:Nat→List Int}(T:GR l base sz ks): ∀(tl:List am) (i:Nat) (rows:List (List co)),l.Nodes.drop i=tl→i≤l.Nodes.length→KT ks rows i→f9 l tl i ⟨base,rows,qB ks i⟩=some (RX (Pb base ks tl rows))
 |[],i,rows,hd,hi,I=>by
  have h1:=u9 hd
  have h2:i=l.Nodes.length:=by omega
  have hlen:=I.len
  have hle:=T.known.le
  have hpos:=T.known.pos
  unfold f9 Pb RX
  rw [TH (rows:=rows) (by omega) (by omega)]
  rfl
 |n::t,i,rows,hd,hi,I=>by
  obtain⟨h1,h2,h3⟩:=ky hd
  obtain⟨n',hn',M⟩:=YU T h2 I
  rw [h1]at hn'
  injection hn' with hn'
  subst hn'
  have hlen:=I.len
  have hle:=T.known.le
  obtain⟨c1,c2,c3⟩:=Vt (base:=base) M.g M.op M.kinds M.ka16 M.kb16 M.scan M.a M.b M.al
  obtain⟨d1,d2⟩:=NH (base:=base) M.g M.op M.kinds M.ka16 M.kb16 M.scan M.a M.b M.al
  have hcode:=Pm M ⟨base,rows,qB ks i⟩ rfl rfl (fun x h h2=>OZ x h h2)
  unfold Q5 at hcode
  unfold f9 Pb
  rw [hcode,aY,M.w]
  simp only []
  unfold y4 at c1 c2 c3 ⊢
  generalize wg n base (Fl rows n.A) (Fl rows n.B) (if n.B<0 then []else ks n.B.toNat).length=q at c1 c2 c3 d1 d2 ⊢
  have hk2: ∀(rs:List co) (q' :List co×Int),ru (ks i) rs→rs.length≤8000→nK l (f9 l t) i (q',⟨base,rows,qB ks i⟩) rs=some (RX (Pb base ks t (rows++[rs]))):=by
   intro rs q' hrs hrl
   unfold nK
   obtain⟨d,Za,rt⟩:=LY T.small T.right T.known h2
   rw [Za,aY,rt,aY,cr (by simp;omega),aY,cr (by simp [qB];omega),aY]
   show f9 l t (i+1) ⟨base,rows++[rs],qB ks i++[((ks i).length:Int)]⟩=_
   rw [I1]
   exact GL T t (i+1) _ h3 h2 (I.next hrs hrl)
  by_cases h0:q.2=0
  ·by_cases hl:8000<q.1.length
   ·have e:Kk n q=([],3):=by unfold Kk;rw [aM (by simp [h0]),aW hl]
    rw [aW (by simp only [h0,lr,ss,kZ,true_and];omega),e]
    rfl
   ·have e:Kk n q=(if n.Op=8 then q.1 else zi q.1,0):=by unfold Kk;rw [aM (by simp [h0]),aM hl]
    rw [aM (by simp only [h0,lr,ss,kZ,true_and];omega),e]
    rw [aM (c:=((if n.Op=8 then q.1 else zi q.1,(0:Int)):List co×Int).2≠0) (by simp)]
    unfold nL
    rw [aM (by simp [h0])]
    by_cases h8:n.Op=8
    ·rw [aW h8,aM (by simp [h8])]
     exact hk2 q.1 q d1 (by omega)
    ·rw [aM h8,aW (by simpa using h8),FD (d1.small M.k16 (by omega)),d1.allr M.k16,aY]
     exact hk2 (zi q.1) q (d1.perm (lB ek _).symm) (by show(tt ek q.1).length≤8000;rw [xC];omega)
  ·have e:Kk n q=([],q.2):=by unfold Kk;rw [aW h0]
   rw [aM (by simp [h0]),e]
   rw [aW (c:=(([],q.2):List co×Int).2≠0) h0]
   unfold nL RX
   rw [aW (by simpa using h0)]
   rw [aW (c:=(([],q.2):List (List co)×Int).2≠0) h0]
theorem abE(ks:Nat→List Int):KT ks [] 0:=⟨rfl,fun j hj=>by omega⟩
def Py(b:iJ)(n:am):Bool:= !(n.Op==1)||(decide (n.Table<(b.Tables.length:Int))&&Ki (yN b n) n.Kinds)
def Rq(l:bU)(b:iJ):Bool:=l.Nodes.all (Py b)
theorem Rr{b:iJ}(ht:n.Op=1→0≤n.Table)(f:List co→List Int→Option Bool)(hf: ∀x y,f x y=some (Ki x y)):(if(n.Op==(1:Int))then((if(!(decide ((b.Tables.length:Int)≤n.Table)))then((cE b.Tables n.Table).bind fun e1=>(f e1 n.Kinds).bind fun r1=>some (!r1))else some true).bind fun t1=>some t1)else some false)=some (!Py b n):=by
 unfold Py
 by_cases h1:n.Op=1
 ·have h0:=ht h1
  by_cases hl:n.Table<(b.Tables.length:Int)
  ·have hi:cE b.Tables n.Table=some (yN b n):=by
    unfold yN
    rw [gM n.Table.toNat (by omega),n8 (by omega)]
    rfl
   rw [aW (by simpa using h1),aW (by simp;omega),hi,aY,hf,aY,aY,h1]
   simp [hl]
  ·rw [aW (by simpa using h1),aM (by simp;omega),aY,h1]
   simp [hl]
 ·rw [aM (by simpa using h1)]
  simp [h1]
theorem Fa(b:iJ): ∀ns:List am,(∀n∈ns,n.Op=1→0≤n.Table)→nM b ns=some (ns.all (Py b))
 |[],_=>rfl
 |n::t,h=>by
  unfold nM
  rw [Rr (h n (kE ..)) ra EQ,aY,Fa b t fun x hx=>h x (kC _ hx),wq]
  cases Py b n<;>rfl
theorem LL(K:G2 l sz ks): ∀n∈l.Nodes,n.Op=1→0≤n.Table:=by
 intro n hn h1
 obtain⟨j,hj,e⟩:=List.mem_iff_getElem.1 hn
 obtain⟨m,F⟩:=K.all j hj
 have:m=n:=by
  have:=F.node
  rw [bX,n8 hj,e]at this
  injection this with this
  exact this.symm
 subst this
 exact(HS h1 F.kinds).2.1
theorem A5(hS:pR l)(h:oc l=true)(b:iJ):ua l b=some (Rq l b):=by
 obtain⟨sz,ks,K⟩:=Ex hS h
 obtain⟨_,⟨j,hj⟩,_⟩:=At hS
 rw [h]at hj
 unfold ua
 rw [hj,aY,aW rfl,aM (by decide),Fa b _ (LL K)]
 rfl
def QI(b:iJ):Prop:= ∀t∈b.Tables,FG t
theorem NY: ∀{r:co} {ks:List Int},r.length=ks.length→Kj r ks=true→(∀k∈ks,k≤3)→Ti r→RK ks r
 |[],[],_,_,_,_=>trivial
 |v::t,k::ks,hl,h,hk,hr=>by
  unfold Kj at h
  simp only [lr,pi,ss]at h
  have hk3:=hk k (kE ..)
  refine⟨Eg ?_ (hr v (kE ..)),?_,NY (by simpa using hl) h.2 (fun x hx=>hk x (kC _ hx)) fun x hx=>hr x (kC _ hx)⟩
  ·unfold mt
   rw [h.1.1]
   simp only [uA,qN,o0]
   omega
  ·unfold qm;omega
 |[],_::_,hl,_,_,_=>by simp at hl
 |_::_,[],hl,_,_,_=>by simp at hl
theorem S7{b:iJ}(hN: ∀n∈l.Nodes,GZ n)(hb:QI b)(h:oc l=true)(hf:Rq l b=true): ∃sz ks,GR l b sz ks:=by
 have hS:pR l:=fun n hn=>(hN n hn).small
 obtain⟨sz,ks,K⟩:=Ex hS h
 refine⟨sz,ks,K,h,hN,?_⟩
 intro j n hj h1
 have hm:n∈l.Nodes:=by rw [bX]at hj;exact rA hj
 have hjl:j<l.Nodes.length:=by
  rw [bX]at hj
  obtain⟨h,_⟩:=jN.1 hj
  exact h
 obtain⟨m,F⟩:=K.all j hjl
 have e:m=n:=by have:=F.node;rw [hj]at this;injection this with this;exact this.symm
 subst e
 obtain⟨k1,t1,t2⟩:=HS h1 F.kinds
 have hfn:=ju.1 hf m hm
 unfold Py at hfn
 rw [h1]at hfn
 simp only [Du,ly,rk,lr,kZ]at hfn
 obtain⟨f1,f2⟩:=hfn
 unfold Ki at f2
 rw [lr,kZ,ju]at f2
 have hlt:m.Table.toNat<b.Tables.length:=by omega
 have htab:yN b m=b.Tables[m.Table.toNat]:=by
  unfold yN
  rw [n8 hlt]
  rfl
 refine⟨hlt,?_,f2.1⟩
 intro r hr
 have hfr:=f2.2 r hr
 unfold Rs at hfr
 rw [lr,kZ]at hfr
 rw [k1]
 refine NY hfr.1 hfr.2 ?_ ?_
 ·intro k hk
  have:=xS (VH hS K.all j hjl) (by rw [k1];exact hk)
  unfold k4 at this
  omega
 ·rw [htab]at hr
  exact hb _ (F4 hlt) r hr
theorem BT(T:GR l base sz ks)(hf:Rq l base=true):rb l base=some (VU l base ks):=by
 obtain⟨_,⟨j,hj⟩,_⟩:=At T.small
 rw [T.right]at hj
 unfold rb
 rw [hj,aY,aW rfl,aM (by decide),A5 T.small T.right,aY,hf,aM (by decide)]
 exact GL T l.Nodes 0 [] rfl (ln _) (abE ks)

theorem xb(nx:Option Bool)(v:Bool)(hn:nx=some v): ∀r:co,∃w,kX nx r=some w∧(w=false→v=false∧ ∀x∈r,x.S.length≤200)
 |[]=>⟨v,hn,fun h=>⟨h,by simp⟩⟩
 |e::t=>by
  unfold kX
  by_cases h:200<e.S.length
  ·exact⟨true,by rw [aW (by rw [kZ];omega)],fun h=>by cases h⟩
  ·obtain⟨w,h1,h2⟩:=xb nx v hn t
   refine⟨w,by rw [aM (by rw [kZ];omega)];exact h1,fun hw=>⟨(h2 hw).1,?_⟩⟩
   intro x hx
   rcases fF.1 hx with q|q
   ·rw [q];omega
   ·exact(h2 hw).2 x q
theorem xc: ∀l:List co,∃w,iq l=some w∧(w=false→ ∀r∈l,r.length≤30)
 |[]=>⟨false,rfl,fun _=>by simp⟩
 |e::t=>by
  unfold iq
  by_cases h:30<e.length
  ·exact⟨true,by rw [aW (by rw [kZ];omega)],fun h=>by cases h⟩
  ·obtain⟨v,h1,h2⟩:=xc t
   obtain⟨w,h3,h4⟩:=xb (iq t) v h1 e
   refine⟨w,by rw [aM (by rw [kZ];omega)];exact h3,fun hw=>?_⟩
   intro x hx
   rcases fF.1 hx with q|q
   ·rw [q];omega
   ·exact h2 (h4 hw).1 x q
theorem JA(l:List co)(m:Nat): ∃w,pJ l (m:Int)=some w∧(w=false→l.length≤m∧ ∀r∈l,r.length≤30):=by
 unfold pJ
 by_cases h:m<l.length
 ·exact⟨true,by rw [aW (by rw [kZ];omega)],fun h=>by cases h⟩
 ·obtain⟨w,h1,h2⟩:=xc l
  exact⟨w,by rw [aM (by rw [kZ];omega)];exact h1,fun hw=>⟨by omega,h2 hw⟩⟩
structure E1(n:am):Prop where
 kinds:n.Kinds.length≤20
 keys:n.Keys.length≤20
 order:n.Order.length≤20
 items:n.Items.length≤20
 aggs:n.Aggs.length≤20
 cond:n.Cond.Nodes.length≤100
 exprs: ∀e∈n.Items,e.Nodes.length≤100
 args: ∀g∈n.Aggs,g.Arg.Nodes.length≤100
structure rgN(n:am):Prop where
 cond:Lf n.Cond.Nodes
 items: ∀e∈n.Items,Lf e.Nodes
 args: ∀g∈n.Aggs,Lf g.Arg.Nodes
theorem E1.small(h:E1 n):ja n:=
 ⟨by have:=h.cond;omega,by have:=h.kinds;omega,by have:=h.keys;omega,by have:=h.aggs;omega,by have:=h.items;omega,by have:=h.order;omega,fun g hg=>by have:=h.args g hg;omega,fun e he=>by have:=h.exprs e he;omega⟩
theorem E1.g{n:am}(h:E1 n)(r:rgN n):GZ n:=
 ⟨h.small,⟨by have:=h.cond;omega,r.cond⟩,fun e he=>⟨by have:=h.exprs e he;omega,r.items e he⟩,fun g hg=>⟨by have:=h.args g hg;omega,r.args g hg⟩⟩
def YA:bU:=⟨[⟨1,-1,-1,0,[2],false,⟨[]⟩,[],[],[],[],0⟩,⟨4,0,-1,0,[],false,⟨[]⟩,[],[⟨1,⟨[]⟩⟩,⟨3,⟨[⟨2,-1,-1,0,⟨0,0,0,[]⟩⟩]⟩⟩],[],[],0⟩]⟩
def wkB:iJ:=⟨[[[⟨2,1,0,[]⟩],[⟨2,2,0,[]⟩],[⟨0,0,0,[]⟩]]]⟩
theorem Qn:oc YA=true:=by kernel_rfl
theorem S5(ks:Nat→List Int):VU YA wkB ks=([[iV 3,iV 3]],0):=by
 kernel_rfl

theorem I0: ∀n∈YA.Nodes,E1 n∧rgN n:=by
 intro n hn
 have h0:Lf ([]:List bo):=fun x hx=>by cases hx
 have h1:Lf [(⟨2,-1,-1,0,⟨0,0,0,[]⟩⟩:bo)]:=by
  intro x hx
  rw [CO.1 hx]
  unfold r64
  show -9223372036854775808≤(0:Int)∧(0:Int)≤9223372036854775807
  omega
 unfold YA at hn
 simp only [fF,F2,or_false]at hn
 rcases hn with h|h
 ·subst h
  exact⟨⟨by decide,by decide,by decide,by decide,by decide,by decide,fun e he=>by(cases he),fun g hg=>by(cases hg)⟩,⟨h0,fun e he=>by(cases he),fun g hg=>by(cases hg)⟩⟩
 ·subst h
  refine⟨⟨by decide,by decide,by decide,by decide,by decide,by decide,fun e he=>by(cases he),fun g hg=>?_⟩,⟨h0,fun e he=>by(cases he),fun g hg=>?_⟩⟩
  ·simp only [fF,F2,or_false]at hg
   rcases hg with q|q<;>rw [q]<;>decide
  ·simp only [fF,F2,or_false]at hg
   rcases hg with q|q
   ·rw [q];exact h0
   ·rw [q];exact h1
theorem S6:QI wkB:=by
 intro t ht r hr v hv
 unfold wkB at ht
 simp only [fF,F2,or_false]at ht
 subst ht
 simp only [fF,F2,or_false]at hr
 unfold r64
 rcases hr with q|q|q<;>subst q<;>rw [CO.1 hv]<;>decide
theorem Ln:tR=some true:=by
 obtain⟨sz,ks,T⟩:=S7 (fun n hn=>(I0 n hn).1.g (I0 n hn).2) S6 Qn (by kernel_rfl)
 have h:=BT T (by kernel_rfl)
 rw [S5]at h
 unfold tR
 show((rb YA wkB).bind _)=_
 rw [h]
 rfl
theorem xx(r:co)(order:List dn):qv r order=some (tP order r):=by
 unfold qv
 rw [rz (f:=rZ r) (g:=fun o=>decide (o.Col<0)||decide ((r.length:Int)≤o.Col)) (fun o=>rfl),aY]
 congr 1
 unfold tP
 induction order with
 |nil=>rfl
 |cons o t ih=>
  rw [uG,wq,Bool.not_or,ih]
  congr 1
  by_cases h1:o.Col<0
  ·have: ¬0≤o.Col:=by omega
   rw [ug h1,tu this];rfl
  ·by_cases h2:(r.length:Int)≤o.Col
   ·have: ¬o.Col<(r.length:Int):=by omega
    simp [h2]
   ·have h3:0≤o.Col:=by omega
    have h4:o.Col<(r.length:Int):=by omega
    simp [h1,h2,h3,h4]
theorem HY(order:List dn)(r:co):db order r=some (tP order r&&cZ r):=by
 unfold db
 induction order with
 |nil=>unfold ir;rw [Ec];rfl
 |cons o t ih=>
  unfold ir
  have e:tP (o::t) r=((decide (0≤o.Col)&&decide (o.Col<(r.length:Int)))&&tP t r):=rfl
  rw [e,ih]
  by_cases h:0≤o.Col∧o.Col<(r.length:Int)
  ·rw [aM (by simp only [pi,kZ];omega)]
   simp [h.1,h.2]
  ·rw [aW (by simp only [pi,kZ];omega)]
   have:(decide (0≤o.Col)&&decide (o.Col<(r.length:Int)))=false:=by
    rw [rl]
    simp only [o0,lr,kZ]
    exact h
   rw [this];rfl
theorem C0(a b:co)(order:List dn):r0 a b order=some (if(tP order a&&cZ a)&&(tP order b&&cZ b)then decide (ta order a b<0)else false):=by
 unfold r0
 have hr:mA [a,b]=some (cZ a&&cZ b):=by
  rw [wl]
  unfold p5
  simp
 rw [hr,aY]
 simp only [xx,aY]
 cases ha:cZ a with
 |false=>simp
 |true=>
  cases hb:cZ b with
  |false=>simp
  |true=>
   cases hoa:tP order a with
   |false=>simp
   |true=>
    cases hob:tP order b with
    |false=>simp
    |true=>
     have hby:vd order=some (ma order):=rfl
     simp only [Bool.and_self,ly,wd,fe,aY,gh,ez,hby]
     rw [Sp ha hb order hoa hob,aY,Ir,aY]
     rcases(yb order).rng a b with q|q|q<;>rw [q]<;>decide
theorem Ja(rows:List co)(order:List dn)(limit:Int)(r2:List co×Int)(ok:Bool)(hl:rows.length≤100)(hr: ∀r∈rows,r.length≤30)(hend: ∀i,eS rows order limit r2 ok [] i=some true): ∀(t:List co) (i:Nat),1≤i→rows.drop i=t→eS rows order limit r2 ok t i=some true
 |[],i,_,hd=>hend i
 |e::t,i,h1,hd=>by
  obtain⟨g1,g2,g3⟩:=ky hd
  have hw:IntKind.i64.wrap ((i:Int)-1)=((i-1:Nat):Int):=by rw [lW (by omega) (by omega)];omega
  have hp:cE rows ((i-1:Nat):Int)=some rows[i-1]:=by rw [bX,n8 (by omega)]
  have hrl:=hr _ (F4 (show i-1<rows.length by omega))
  generalize rows[i-1]=p at hp hrl
  unfold eS
  rw [hw,hp,aY,HY,aY,HY,C0]
  have ih:=Ja rows order limit r2 ok hl hr hend t (i+1) (by omega) g3
  have e2:(if(tP order p&&cZ p)=true then((some (tP order e&&cZ e)).bind fun r6=>some r6)else some false)=some ((tP order p&&cZ p)&&(tP order e&&cZ e)):=by
   cases (tP order p&&cZ p)<;>rfl
  rw [e2,aY]
  have e3:(if((tP order p&&cZ p)&&(tP order e&&cZ e))=true then((nu p e order).bind fun r7=>some r7)else some false)=some (if(tP order p&&cZ p)&&(tP order e&&cZ e)then decide (ta order p e<0)else false):=by
   by_cases hc:((tP order p&&cZ p)&&(tP order e&&cZ e))=true
   ·rw [aW hc,aW hc]
    simp only [lr]at hc
    rw [E0 (by omega) order hc.1.1 hc.2.1]
    rfl
   ·rw [aM hc,aM hc]
  rw [e3,aY,aY,aM (by simp)]
  exact ih
theorem Jb(rows:List co)(order:List dn)(limit:Int)(r2:List co×Int): ∀(t:List co) (ok:Bool),gV rows order limit r2 t ok=eS rows order limit r2 (ok&&t.all fun r=>tP order r&&cZ r) (rows.drop 1) 1
 |[],ok=>by unfold gV;simp
 |e::t,ok=>by
  unfold gV
  rw [HY]
  have e1:(if ok=true then((some (tP order e&&cZ e)).bind fun r9=>some r9)else some false)=some (ok&&(tP order e&&cZ e)):=by cases ok<;>rfl
  rw [e1,aY,Jb rows order limit r2 t,wq,Dr]
theorem OH(f g:α→Bool)(l:List α):(l.all fun r=>f r&&g r)=(l.all f&&l.all g):=by
 induction l with
 |nil=>rfl
 |cons x t ih=>
  simp only [wq,ih]
  cases f x<;>cases g x<;>simp
theorem Lw(rows:List co)(order:List dn)(limit:Int):ne rows order limit=some true:=by
 unfold ne
 rw [Ln,aY,aM (by decide)]
 obtain⟨w,h1,h2⟩:=JA rows 100
 rw [show((100:Nat):Int)=100 from rfl]at h1
 rw [h1,aY]
 by_cases hov:(w||decide ((20:Int)<(order.length:Int)))=true
 ·rw [aW hov]
 ·rw [aM hov]
  rw [pi,not_or]at hov
  obtain⟨hlen,hrow⟩:=h2 (rl.2 hov.1)
  have hright:mA rows=some (p5 rows):=by rw [wl];simp;omega
  have hshort:cS rows (oy order)=some (rows.any fun r=> !tP order r):=
   ue (fun r=>by unfold oy;rw [xx];rfl) rows
  have hcopy: ∀q:Bool,q=((decide ((order.length:Int)≤3)&&decide ((-1:Int)≤limit))&&rows.all fun r=>tP order r&&cZ r)→t8 rows order limit=some (if q then(FY limit (tt (ta order) rows),0)else([],2)):=by
   intro q hq
   rw [OH]at hq
   have e1:(rows.any fun r=> !tP order r)= !rows.all (tP order):=OF _ _
   have e2:rows.all cZ=p5 rows:=rfl
   unfold t8
   rw [hright,aY,hshort,e1]
   rw [e2]at hq
   have d1:decide ((3:Int)<(order.length:Int))= !decide ((order.length:Int)≤3):=by
    by_cases h:(order.length:Int)≤3
    ·rw [ug h,tu (by omega)];rfl
    ·rw [tu h,ug (by omega)];rfl
   have d2:decide (limit<(-1:Int))= !decide ((-1:Int)≤limit):=by
    by_cases h:(-1:Int)≤limit
    ·rw [ug h,tu (by omega)];rfl
    ·rw [tu h,ug (by omega)];rfl
   rw [d1,d2]
   cases ha:p5 rows with
   |false=>rw [ha]at hq;simp at hq;rw [hq];rfl
   |true=>
    rw [ha]at hq
    cases h3:decide ((order.length:Int)≤3)with
    |false=>rw [h3]at hq;simp at hq;rw [hq];rfl
    |true=>
     cases h4:decide ((-1:Int)≤limit)with
     |false=>rw [h4,h3]at hq;simp at hq;rw [hq];rfl
     |true=>
      cases ho:rows.all (tP order)with
      |false=>rw [ho]at hq;simp at hq;rw [hq];rfl
      |true=>
       rw [ho,h3,h4]at hq
       have hq:q=true:=hq
       subst hq
       have hok:IB order rows:=⟨fun r hr=>LQ ha hr,fun r hr=>ju.1 ho r hr⟩
       simp only [ly,wd,fe,aY,gh,ez,Bool.or_self]
       rw [vc hok (by omega)]
       rfl
  rw [hcopy _ rfl,aY,Jb]
  generalize hq:((decide ((order.length:Int)≤3)&&decide ((-1:Int)≤limit))&&rows.all fun r=>tP order r&&cZ r)=q
  refine Ja rows order limit _ q hlen hrow (fun i=>?_) _ 1 (dF _) rfl
  unfold eS
  cases q with
  |false=>rfl
  |true=>
   rw [OH]at hq
   simp only [lr]at hq
   simp only [ly,gh,ez,fe,Du]
   rw [FJ (fun r hr=>⟨ju.1 hq.2.1 r hr,by have:=hrow r hr;omega⟩) (by omega),aY,FN _ _ (fun r hr=>by have:=hrow r ((lB _ _).mem_iff.1 (Kw hr));omega)]
   simp
end Go.Proofs.YtfhhakidodmdfaaGreatDoor

