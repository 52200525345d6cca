/- cR of this claim: U6. -/
import Derived.Test.YtnmjbolollcokaaGreatDoorRcU5
set_option linter.all false
namespace Go.Proofs.YtnmjbolollcokaaGreatDoor
open Go

def ev(ns:List M)(t:Int):Prop:= ∃n∈ns,n.Op=9∧n.Table=t
structure iX(f0 f1:List bk)(R:Int→Prop):Prop where
 ext: ∃new,f1=f0++new
 at_: ∀k f,f0.length≤k→f1[k]? =some f→f.At=1∨f.At=2
 low: ∀t,R t→(f0.length:Int)≤t∧t<(f1.length:Int)
 lowF: ∀k f,f0.length≤k→f1[k]? =some f→ ∀t,ev f.Nodes t→(f0.length:Int)≤t∧t<(k:Int)
 read: ∀k:Nat,f0.length≤k→k<f1.length→R (k:Int)∨ ∃(j:Nat) (f:bk),k<j∧f1[j]? =some f∧ev f.Nodes (k:Int)
theorem iX.le{f0 f1:List bk}{R:Int→Prop}(h:iX f0 f1 R):f0.length≤f1.length:=by
 obtain⟨new,e⟩:=h.ext
 rw [e];simp
theorem iX.nil(f:List bk):iX f f (fun _=>False) where
 ext:=⟨[],by simp⟩
 at_:=fun k g hk hg=>by have:=(oT.1 hg).1;omega
 low:=fun t h=>h.elim
 lowF:=fun k g hk hg=>by have:=(oT.1 hg).1;omega
 read:=fun k h1 h2=>by omega
theorem iX.congr{f0 f1:List bk}{R R' :Int→Prop}(h:iX f0 f1 R)(e: ∀t,R t↔R' t):iX f0 f1 R' :=by
 have:R=R' :=funext fun t=>propext (e t)
 rw [←this];exact h
theorem iX.join{f0 f1 f2:List bk}{A B:Int→Prop}(h1:iX f0 f1 A)(h2:iX f1 f2 B):iX f0 f2 (fun t=>A t∨B t):=by
 have l1:=h1.le
 have l2:=h2.le
 obtain⟨n1,e1⟩:=h1.ext
 obtain⟨n2,e2⟩:=h2.ext
 have old: ∀k f,k<f1.length→f2[k]? =some f→f1[k]? =some f:=fun k f hk hf=>by rw [e2,t8 hk]at hf;exact hf
 have new: ∀k f,f1[k]? =some f→f2[k]? =some f:=fun k f hf=>by rw [e2,t8 (oT.1 hf).1];exact hf
 refine⟨⟨n1++n2,by rw [e2,e1,n6]⟩,fun k f hk hf=>?_,fun t h=>?_,fun k f hk hf t ht=>?_,fun k hk hk2=>?_⟩
 ·rcases jM k f1.length with h|h
  ·exact h1.at_ k f hk (old k f h hf)
  ·exact h2.at_ k f h hf
 ·rcases h with h|h
  ·have:=h1.low t h;omega
  ·have:=h2.low t h;omega
 ·rcases jM k f1.length with h|h
  ·exact h1.lowF k f hk (old k f h hf) t ht
  ·have:=h2.lowF k f h hf t ht;omega
 ·rcases jM k f1.length with h|h
  ·rcases h1.read k hk h with h|⟨j,f,g1,g2,g3⟩
   ·exact .inl (.inl h)
   ·exact .inr ⟨j,f,g1,new j f g2,g3⟩
  ·rcases h2.read k h hk2 with h|h
   ·exact .inl (.inr h)
   ·exact .inr h
theorem iX.send{f0 f1:List bk}{s:aG}{B:Int→Prop}(h:iX f0 f1 (fun t=>ev s.nodes t∨B t))(hs:s.at_=1∨s.at_=2)(way:Int)(cols:List Int):iX f0 (oY s way cols f1) (fun t=>t=(f1.length:Int)∨B t):=by
 have l1:=h.le
 obtain⟨n1,e1⟩:=h.ext
 unfold oY
 have old: ∀k f,k<f1.length→(f1++[(⟨s.nodes,s.at_,way,cols⟩:bk)])[k]? =some f→f1[k]? =some f:=fun k f hk hf=>by rw [t8 hk]at hf;exact hf
 have new: ∀k f,f1[k]? =some f→(f1++[(⟨s.nodes,s.at_,way,cols⟩:bk)])[k]? =some f:=fun k f hf=>by rw [t8 (oT.1 hf).1];exact hf
 have last: ∀k f,f1.length≤k→(f1++[(⟨s.nodes,s.at_,way,cols⟩:bk)])[k]? =some f→k=f1.length∧f=⟨s.nodes,s.at_,way,cols⟩:=fun k f hk hf=>by
  have:=(oT.1 hf).1
  simp at this
  have hk2:k=f1.length:=by omega
  subst hk2
  rw [o5 (dN _),tm]at hf
  exact⟨rfl,(nV hf).symm⟩
 have here:(f1++[(⟨s.nodes,s.at_,way,cols⟩:bk)])[f1.length]? =some ⟨s.nodes,s.at_,way,cols⟩:=by rw [o5 (dN _),tm];rfl
 refine⟨⟨n1++[⟨s.nodes,s.at_,way,cols⟩],by rw [e1,n6]⟩,fun k f hk hf=>?_,fun t ht=>?_,fun k f hk hf t ht=>?_,fun k hk hk2=>?_⟩
 ·rcases jM k f1.length with h' |h'
  ·exact h.at_ k f hk (old k f h' hf)
  ·obtain⟨_,rfl⟩:=last k f h' hf
   exact hs
 ·simp only [jA,gJ,q7]
  rcases ht with rfl|ht
  ·omega
  ·have:=h.low t (.inr ht);omega
 ·rcases jM k f1.length with h' |h'
  ·exact h.lowF k f hk (old k f h' hf) t ht
  ·obtain⟨rfl,rfl⟩:=last k f h' hf
   exact h.low t (.inl ht)
 ·simp only [jA,gJ,q7]at hk2
  rcases jM k f1.length with h' |h'
  ·rcases h.read k hk h' with(h2|h2)|⟨j,f,g1,g2,g3⟩
   ·exact .inr ⟨f1.length,_,h',here,h2⟩
   ·exact .inl (.inr h2)
   ·exact .inr ⟨j,f,g1,new j f g2,g3⟩
  ·exact .inl (.inl (by omega))
theorem mC(s:aG)(way:Int)(cols:List Int)(fs:List bk)(t:Int):ev (p7 s way cols fs).nodes t↔t=(fs.length:Int):=by
 unfold ev p7 Ef
 constructor
 ·rintro⟨n,hn,_,h⟩
  rw [t7.1 hn]at h
  exact h.symm
 ·rintro rfl
  exact⟨_,t7.2 rfl,rfl,rfl⟩
theorem vj(a b:List M)(t:Int):ev (a++b) t↔ev a t∨ev b t:=by
 unfold ev
 constructor
 ·rintro⟨n,hn,h⟩
  rcases xj.1 hn with hn|hn
  ·exact .inl ⟨n,hn,h⟩
  ·exact .inr ⟨n,hn,h⟩
 ·rintro(⟨n,hn,h⟩|⟨n,hn,h⟩)
  ·exact⟨n,BL _ hn,h⟩
  ·exact⟨n,JL _ hn,h⟩
theorem DF{n:M}{a b t:Int}(h:n.Op≠9): ¬ev [yA n a b] t:=by
 rintro⟨m,hm,h1,_⟩
 rw [t7.1 hm]at h1
 exact h h1
theorem MF(d:Int)(a:List M)(t:Int):ev (a.map (sj d)) t↔ev a t:=by
 unfold ev
 constructor
 ·rintro⟨n,hn,h⟩
  obtain⟨m,hm,rfl⟩:=Am.1 hn
  exact⟨m,hm,h⟩
 ·rintro⟨n,hn,h⟩
  exact⟨sj d n,Am.2 ⟨n,hn,rfl⟩,h⟩
theorem xr{n:M}{kinds h:List Int}{s:aG}(hn:n.Op≠9)(t:Int):ev (gW (over1 n kinds s) h).nodes t↔ev s.nodes t:=by
 show ev (s.nodes++[yA n _ _]) t↔_
 rw [vj]
 exact⟨fun h=>h.elim id fun h=>(DF hn h).elim,.inl⟩
theorem Ir{n:M}{kinds h:List Int}{a b:aG}(hn:n.Op≠9)(t:Int):ev (gW (over2 n kinds a b) h).nodes t↔ev a.nodes t∨ev b.nodes t:=by
 show ev ((a.nodes++b.nodes.map (sj _))++[yA n _ _]) t↔_
 rw [vj,vj,MF]
 exact⟨fun h=>h.elim id fun h=>(DF hn h).elim,.inl⟩
theorem iX.one{f0 f1:List bk}{s:aG}{B:Int→Prop}(h:iX f0 f1 (fun t=>ev s.nodes t∨B t))(hs:s.at_=1∨s.at_=2):iX f0 (nX s f1) (fun t=>ev (qN s f1).nodes t∨B t):=by
 unfold nX qN
 by_cases e:s.at_=2
 ·rw [bm e,bm e];exact h
 ·rw [bg e,bg e]
  exact(h.send hs 3 []).congr fun t=>by rw [mC]
theorem iX.swap{f0 f1:List bk}{A B:Int→Prop}(h:iX f0 f1 (fun t=>A t∨B t)):iX f0 f1 (fun t=>B t∨A t):=h.congr fun _=>Or.comm
theorem iX.lone{f0 f1:List bk}{A:Int→Prop}(h:iX f0 f1 A):iX f0 f1 (fun t=>A t∨False):=h.congr fun _=>by simp
theorem iX.lone' {f0 f1:List bk}{A:Int→Prop}(h:iX f0 f1 (fun t=>A t∨False)):iX f0 f1 A:=h.congr fun _=>by simp
def fJ(p:ay)(code:Option (aG×ay))(ref:Option bS)(f0 f1:List bk)(m:Nat):Prop:=
 ∃s f2,code=some (s,oU p f2)∧ref=some (mn s f2)∧rP s∧iX f0 f2 (ev s.nodes)∧s.nodes.length≤m+1∧f1.length≤f2.length∧f2.length≤f1.length+2
section
variable{p:ay}{n:M}{kinds:List Int}{f0 f1:List bk}
theorem Lq(n:M)(kinds h:List Int)(s:aG):(gW (over1 n kinds s) h).nodes.length=s.nodes.length+1:=by simp [gW,over1]
theorem Lp(n:M)(kinds h:List Int)(a b:aG):(gW (over2 n kinds a b) h).nodes.length=a.nodes.length+b.nodes.length+1:=by simp [gW,over2];omega
theorem lz(s:aG)(way:Int)(cols:List Int)(fs:List bk):(p7 s way cols fs).nodes.length=1:=rfl
theorem Bt{s:aG}(hs:rP s)(fs:List bk):(qN s fs).nodes.length≤s.nodes.length:=by
 unfold qN
 split
 ·exact dN _
 ·exact hs.pos
theorem cx{a:aG}(ha:rP a)(hl:a.nodes.length≤500)(hn:n.Op≠9)(hk:kinds.length≤16){h:List Int}(hh:h.length≤100)(hG:iX f0 f1 (ev a.nodes)){code:Option (aG×ay)}{ref:Option bS}(e1:code=some (gW (over1 n kinds a) h,oU p f1))(e2:ref=some (mn (gW (over1 n kinds a) h) f1)){m:Nat}(hm:a.nodes.length≤m){fx:List bk}(hx:fx.length≤f1.length∧f1.length≤fx.length+2):fJ p code ref f0 fx m:=
 ⟨_,f1,e1,e2,ha.over1 (by omega) hh (by omega),hG.congr fun t=>(xr hn t).symm,by rw [Lq];omega,hx.1,hx.2⟩
theorem Ja{a:aG}(ha:rP a)(hl:a.nodes.length≤500)(hn:n.Op=3)(hk:kinds.length≤16)(hG:iX f0 f1 (ev a.nodes))(c:bG)(b:bS):
  fJ p ((gG (oU p f1) n kinds [a]).map fun mr=>(mr,oU p f1)) (dd n kinds c (mn a f1) b) f0 f1 a.nodes.length:=by
 refine cx (n:=n) (h:=a.hashed) ha hl (by omega) hk ha.hashed hG ?_ ?_ (dN _) ⟨dN _,by omega⟩
 ·unfold gG eD
  show Option.map _ ((dH n kinds [a]).bind _)=_
  rw [kh n kinds ha]
  rfl
 ·unfold dd
  rw [bg (by simp [hn]),bg (by simp [hn]),bm (by simp [hn]),lN n kinds ha]
  rfl
def xg(e:aT):Int:=match e.Nodes with
 |[x]=>if x.Tag=2 then x.Col else -1
 |_=> -1
theorem Ky{α:Type}(e:aT)(k:Int→Option α):(((if((e.Nodes.length:Int)==(1:Int))then((cK e.Nodes (0:Int)).bind fun e3=>some (e3.Tag==(2:Int)))else some false).bind fun t=>if t then((cK e.Nodes (0:Int)).bind fun e4=>k e4.Col)else k (-1)))=k (xg e):=by
 obtain⟨ns⟩:=e
 match ns with
 |[]=>rfl
 |[x]=>
  show(if(x.Tag==(2:Int))then k x.Col else k (-1))=k (if x.Tag=2 then x.Col else -1)
  by_cases h:x.Tag=2
  ·rw [bm (by simpa using h),bm h]
  ·rw [bg (by simpa using h),bg h]
 |x::y::tl=>
  have:(((x::y::tl).length:Int)==(1:Int))=false:=by simp;omega
  show((if((((x::y::tl).length:Int))==(1:Int))then _ else some false).bind _)=k (-1)
  rw [this,bg (by simp),be,bg (by simp)]
theorem w9(l:List aG): ∀(tl:List aT) (i:Nat) (done:List Int) (rest:List Int),done.length=i→rest.length=tl.length→cr n kinds l tl i (done++rest)=cr n kinds l [] (i+tl.length) (done++tl.map xg)
 |[],i,done,rest,_,h2=>by
  have:rest=[]:=tp h2
  subst this
  rfl
 |e::tl,i,done,r::rest,h1,h2=>by
  have hi:cK (done++r::rest) (i:Int)=some r:=by rw [cg,o5 (by omega),h1,tm];rfl
  have hset: ∀v:Int,(done++r::rest).set i v=(done++[v])++rest:=fun v=>by
   rw [Ge _ _ (by omega),h1,tm]
   simp
  have hset2: ∀v w:Int,((done++[w])++rest).set i v=(done++[v])++rest:=fun v w=>by
   rw [n6,Ge _ _ (by omega),h1,tm]
   simp
  have hi2: ∀w:Int,cK ((done++[w])++rest) (i:Int)=some w:=fun w=>by
   rw [n6,cg,o5 (by omega),h1,tm];rfl
  conv=>lhs;unfold cr
  rw [hi,be,be,wN,hset]
  have key:=Ky e (fun v=>cr n kinds l tl (i+1) ((done++[v])++rest))
  have e0:(((if((e.Nodes.length:Int)==(1:Int))then((cK e.Nodes (0:Int)).bind fun e3=>some (e3.Tag==(2:Int)))else some false).bind fun t=>if t then((cK e.Nodes (0:Int)).bind fun e4=>(cK ((done++[(-1:Int)])++rest) (i:Int)).bind fun e5=>(some (((done++[(-1:Int)])++rest).set i e4.Col)).bind fun st1=>(cr n kinds l tl) (i+1) st1)else((cr n kinds l tl) (i+1) ((done++[(-1:Int)])++rest))))=cr n kinds l tl (i+1) ((done++[xg e])++rest):=by
   rw [←key]
   congr 1
   funext t
   congr 1
   congr 1
   funext e4
   rw [hi2,be,be,hset2]
  refine Eq.trans e0 ?_
  rw [w9 l tl (i+1) (done++[xg e]) rest (by simp [h1]) (by simpa using h2)]
  rw [show i+1+tl.length=i+(e::tl).length by simp;omega]
  simp
theorem Cd{a:bS}(hI:n.Items.length≤5000): ∀(tl:List aT) (i fu:Nat) (bare:List Int),n.Items.drop i=tl→tl.length<fu→bare.length=i→
  gy n kinds a fu bare (i:Int)=(eX n kinds a).bind fun r3=>(hJ a.Hashed (bare++tl.map xg)).bind fun r4=>some (bS.mk r3.Frags r3.Nodes r3.Kinds r3.One r4.1)
 |tl,i,0,_,_,h,_=>by omega
 |[],i,fu+1,bare,hd,_,_=>by
  have hk:n.Items.length≤i:=ye.1 hd
  unfold gy
  rw [bg (by simp;omega)]
  simp
 |e::tl,i,fu+1,bare,hd,hf,hb=>by
  rw [gJ]at hf
  have hk:i<n.Items.length:=by
   rcases jM i n.Items.length with h|h
   ·exact h
   ·rw [zD h]at hd;cases hd
  rw [pW hk]at hd
  injection hd with hn' hd
  unfold gy
  rw [bm (by simp;omega),cg,pE hk,be,hn']
  have hk1: ∀v:Int,lJ (gy n kinds a fu) bare (i:Int) v=gy n kinds a fu (bare++[v]) ((i+1:Nat):Int):=fun v=>by
   unfold lJ
   rw [ca (by simp;omega),be,bP (by omega) (by omega)]
   rfl
  refine Eq.trans (Ky e (fun v=>lJ (gy n kinds a fu) bare (i:Int) v)) ?_
  show lJ (gy n kinds a fu) bare (i:Int) (xg e)=_
  rw [hk1,Cd hI tl (i+1) fu (bare++[xg e]) hd (by omega) (by simp [hb])]
  simp
theorem GW{a:aG}(ha:rP a)(hl:a.nodes.length≤500)(hn:n.Op=5)(hI:n.Items.length≤5000)(hk:kinds.length≤16)(hG:iX f0 f1 (ev a.nodes))(c:bG)(b:bS):
  fJ p ((gp (oU p f1) n kinds [a]).map fun mr=>(mr,oU p f1)) (dd n kinds c (mn a f1) b) f0 f1 a.nodes.length:=by
 obtain⟨o,ok,h1,h2,h3,_⟩:=ss a.hashed (n.Items.map xg) (by have:=ha.hashed;omega)
 refine cx (n:=n) (h:=o) ha hl (by omega) hk (by have:=ha.hashed;omega) hG ?_ ?_ (dN _) ⟨dN _,by omega⟩
 ·unfold gp
  have z:ub (n.Items.length:Int) (0:Int)=some (List.replicate n.Items.length 0):=by
   unfold ub
   rw [bm (by omega),wN]
  rw [z,be]
  have:=w9 (n:=n) (kinds:=kinds) [a] n.Items 0 [] (List.replicate n.Items.length 0) rfl (by simp)
  rw [iv,iv]at this
  rw [this]
  unfold cr
  show Option.map _ ((nN a.hashed (n.Items.map xg)).bind _)=_
  rw [h1,be,kh n kinds ha,be]
  rfl
 ·unfold dd
  rw [bg (by simp [hn]),bg (by simp [hn]),bg (by simp [hn]),bg (by simp [hn]),bm (by simp [hn])]
  have:=Cd (n:=n) (kinds:=kinds) (a:=mn a f1) hI n.Items 0 dj [] (by simp) (iK (by omega)) rfl
  rw [Int.ofNat_zero,iv]at this
  rw [this,lN n kinds ha,be]
  show((hJ a.hashed (n.Items.map xg)).bind _)=_
  rw [h2]
  rfl
theorem MQ{c:bG}{t:br}(ht:cK c.Tables n.Table=some t)(hp:p.catalog=c)(hn:n.Op=1)(hA:n.A= -1∧n.B= -1)(hk:kinds.length≤16)(hkl:t.Keys.length≤100):
  ∃s,((ij (oU p f1) n kinds []).map fun mr=>(mr,oU p f1))=some (s,oU p f1)∧(∀a b,dd n kinds c a b=some (mn s []))∧rP s∧iX f1 f1 (ev s.nodes)∧s.nodes.length=1:=by
 refine⟨⟨[n],kinds,1,t.Keys⟩,?_,fun a b=>?_,⟨.inl rfl,dN _,by show 1≤1000;omega,by show kinds.length≤100;omega,hkl,fun m hm=>?_⟩,(iX.nil f1).congr fun t' =>?_,rfl⟩
 ·unfold ij
  show Option.map _ ((cK p.catalog.Tables n.Table).bind _)=_
  rw [hp,ht]
  rfl
 ·unfold dd
  rw [bm (by simp [hn]),ht]
  rfl
 ·rw [t7.1 hm]
  show n.A<(1:Int)∧n.B<(1:Int)
  omega
 ·constructor
  ·intro h;exact h.elim
  ·rintro⟨m,hm,h9,_⟩
   rw [t7.1 hm,hn]at h9
   omega
theorem FQ{a:aG}(ha:rP a)(hl:a.nodes.length≤500)(hf:f1.length≤500)(hn:n.Op=6)(hk:kinds.length≤16)(hG:iX f0 f1 (ev a.nodes))(c:bG)(b:bS):
  fJ p (f9 (oU p f1) n kinds [a]) (dd n kinds c (mn a f1) b) f0 f1 a.nodes.length:=by
 have er:dd n kinds c (mn a f1) b=(if(decide (a.at_=2)||(decide ((0:Int)<(a.hashed.length:Int))))then((eX n kinds (mn a f1)).bind fun r5=>some r5)else((p9 (kinds.length:Int)).bind fun r6=>(gC (mn a f1) (1:Int) r6).bind fun r7=>(eX n kinds r7).bind fun r8=>some r8)):=by
  unfold dd
  rw [bg (by simp [hn]),bg (by simp [hn]),bg (by simp [hn]),bg (by simp [hn]),bg (by simp [hn]),bm (by simp [hn])]
  rfl
 have ec:f9 (oU p f1) n kinds [a]=(if((a.at_==(2:Int))||(decide ((0:Int)<(a.hashed.length:Int))))then((dH n kinds ([a])).bind fun r=>(eD r a.hashed).bind fun r1=>some (r1,oU p f1))else((qW (kinds.length:Int)).bind fun r2=>(dm (oU p f1) a (1:Int) r2).bind fun r3=>(dH n kinds ([r3.1])).bind fun r4=>(eD r4 r2).bind fun r5=>some (r5,r3.2))):=rfl
 rw [er,ec]
 by_cases hc:a.at_=2∨0<a.hashed.length
 ·rw [bm (by simpa using hc),bm (by simpa using hc)]
  refine cx (n:=n) (h:=a.hashed) ha hl (by omega) hk ha.hashed hG ?_ ?_ (dN _) ⟨dN _,by omega⟩
  ·rw [kh n kinds ha];rfl
  ·rw [lN n kinds ha];rfl
 ·rw [bg (by simpa using hc),bg (by simpa using hc),ER _ (by omega),xQ _ (by omega),be,be,
   nK (by rw [kL];omega) (by have:=ha.kinds;omega) (by omega),p6 ha (by omega),be,be]
  have hs:=ha.send (way:=1) (cols:=nt kinds.length) (fs:=f1) (by rw [kL];omega)
  have hG2:=(hG.lone.send ha.at_ 1 (nt kinds.length)).lone'
  have hp:=ha.pos
  have hl2:=nL a 1 (nt kinds.length) f1
  exact cx (n:=n) (f1:=oY a 1 (nt kinds.length) f1) (h:=nt kinds.length) hs (by rw [lz];omega) (by omega) hk (by rw [kL];omega) (hG2.congr fun t=>(mC a 1 _ f1 t).symm)
   (by rw [kh n kinds hs];rfl) (by rw [lN n kinds hs];rfl) (by rw [lz];exact hp) (by omega)
end
end Go.Proofs.YtnmjbolollcokaaGreatDoor

