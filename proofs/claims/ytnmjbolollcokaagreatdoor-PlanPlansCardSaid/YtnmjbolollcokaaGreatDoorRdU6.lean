/- dr of this claim: U6. -/
import Derived.Test.YtnmjbolollcokaaGreatDoorRdU5
set_option linter.all false
namespace Go.Proofs.YtnmjbolollcokaaGreatDoor
open Go

def gX(ns:List af)(t:Int):Prop:= ∃n∈ns,n.Op=9∧n.Table=t
structure lz(f0 f1:List bK)(R:Int→Prop):Prop where
 ext: ∃new,f1=f0++new
 at_: ∀k f,f0.length≤k→f1[k]? =some f→f.At=1∨f.At=2
 sm: ∀k f,f0.length≤k→f1[k]? =some f→ ∀n∈f.Nodes,Eu n
 low: ∀t,R t→(f0.length:Int)≤t∧t<(f1.length:Int)
 lowF: ∀k f,f0.length≤k→f1[k]? =some f→ ∀t,gX f.Nodes t→(f0.length:Int)≤t∧t<(k:Int)
 read: ∀k:Nat,f0.length≤k→k<f1.length→R (k:Int)∨ ∃(j:Nat) (f:bK),k<j∧f1[j]? =some f∧gX f.Nodes (k:Int)
theorem lz.le{f0 f1:List bK}{R:Int→Prop}(h:lz f0 f1 R):f0.length≤f1.length:=by
 obtain⟨new,e⟩:=h.ext
 rw [e];simp
theorem lz.nil(f:List bK):lz f f (fun _=>False) where
 ext:=⟨[],by simp⟩
 at_:=fun k g hk hg=>by have:=(qW.1 hg).1;omega
 sm:=fun k g hk hg=>by have:=(qW.1 hg).1;omega
 low:=fun t h=>h.elim
 lowF:=fun k g hk hg=>by have:=(qW.1 hg).1;omega
 read:=fun k h1 h2=>by omega
theorem lz.congr{f0 f1:List bK}{R R' :Int→Prop}(h:lz f0 f1 R)(e: ∀t,R t↔R' t):lz f0 f1 R' :=by
 have:R=R' :=funext fun t=>propext (e t)
 rw [←this];exact h
theorem lz.join{f0 f1 f2:List bK}{A B:Int→Prop}(h1:lz f0 f1 A)(h2:lz f1 f2 B):lz f0 f2 (fun t=>A t∨B t):=by
 have l1:=h1.le
 have l2:=h2.le
 obtain⟨n1,e1⟩:=h1.ext
 obtain⟨n2,e2⟩:=h2.ext
 have old: ∀k f,k<f1.length→f2[k]? =some f→f1[k]? =some f:=fun k f hk hf=>by rw [e2,xc hk]at hf;exact hf
 have new: ∀k f,f1[k]? =some f→f2[k]? =some f:=fun k f hf=>by rw [e2,xc (qW.1 hf).1];exact hf
 refine⟨⟨n1++n2,by rw [e2,e1,iS]⟩,fun k f hk hf=>?_,fun k f hk hf=>?_,fun t h=>?_,fun k f hk hf t ht=>?_,fun k hk hk2=>?_⟩
 ·rcases lu k f1.length with h|h
  ·exact h1.at_ k f hk (old k f h hf)
  ·exact h2.at_ k f h hf
 ·rcases lu k f1.length with h|h
  ·exact h1.sm k f hk (old k f h hf)
  ·exact h2.sm k f h hf
 ·rcases h with h|h
  ·have:=h1.low t h;omega
  ·have:=h2.low t h;omega
 ·rcases lu k f1.length with h|h
  ·exact h1.lowF k f hk (old k f h hf) t ht
  ·have:=h2.lowF k f h hf t ht;omega
 ·rcases lu k f1.length with h|h
  ·rcases h1.read k hk h with h|⟨j,f,g1,g2,g3⟩
   ·exact .inl (.inl h)
   ·exact .inr ⟨j,f,g1,new j f g2,g3⟩
  ·rcases h2.read k h hk2 with h|h
   ·exact .inl (.inr h)
   ·exact .inr h
theorem lz.send{f0 f1:List bK}{s:ba}{B:Int→Prop}(h:lz f0 f1 (fun t=>gX s.nodes t∨B t))(hs:tG s)(way:Int)(cols:List Int):lz f0 (q0 s way cols f1) (fun t=>t=(f1.length:Int)∨B t):=by
 have l1:=h.le
 obtain⟨n1,e1⟩:=h.ext
 unfold q0
 have old: ∀k f,k<f1.length→(f1++[(⟨s.nodes,s.at_,way,cols⟩:bK)])[k]? =some f→f1[k]? =some f:=fun k f hk hf=>by rw [xc hk]at hf;exact hf
 have new: ∀k f,f1[k]? =some f→(f1++[(⟨s.nodes,s.at_,way,cols⟩:bK)])[k]? =some f:=fun k f hf=>by rw [xc (qW.1 hf).1];exact hf
 have last: ∀k f,f1.length≤k→(f1++[(⟨s.nodes,s.at_,way,cols⟩:bK)])[k]? =some f→k=f1.length∧f=⟨s.nodes,s.at_,way,cols⟩:=fun k f hk hf=>by
  have:=(qW.1 hf).1
  simp at this
  have hk2:k=f1.length:=by omega
  subst hk2
  rw [sP (eW _),vu]at hf
  exact⟨rfl,(po hf).symm⟩
 have here:(f1++[(⟨s.nodes,s.at_,way,cols⟩:bK)])[f1.length]? =some ⟨s.nodes,s.at_,way,cols⟩:=by rw [sP (eW _),vu];rfl
 refine⟨⟨n1++[⟨s.nodes,s.at_,way,cols⟩],by rw [e1,iS]⟩,fun k f hk hf=>?_,fun k f hk hf=>?_,fun t ht=>?_,fun k f hk hf t ht=>?_,fun k hk hk2=>?_⟩
 ·rcases lu k f1.length with h' |h'
  ·exact h.at_ k f hk (old k f h' hf)
  ·obtain⟨_,rfl⟩:=last k f h' hf
   exact hs.at_
 ·rcases lu k f1.length with h' |h'
  ·exact h.sm k f hk (old k f h' hf)
  ·obtain⟨_,rfl⟩:=last k f h' hf
   exact hs.sm
 ·simp only [lw,iR,sN]
  rcases ht with rfl|ht
  ·omega
  ·have:=h.low t (.inr ht);omega
 ·rcases lu k f1.length with h' |h'
  ·exact h.lowF k f hk (old k f h' hf) t ht
  ·obtain⟨rfl,rfl⟩:=last k f h' hf
   exact h.low t (.inl ht)
 ·simp only [lw,iR,sN]at hk2
  rcases lu k f1.length with h' |h'
  ·rcases h.read k hk h' with(h2|h2)|⟨j,f,g1,g2,g3⟩
   ·exact .inr ⟨f1.length,_,h',here,h2⟩
   ·exact .inl (.inr h2)
   ·exact .inr ⟨j,f,g1,new j f g2,g3⟩
  ·exact .inl (.inl (by omega))
theorem oU(s:ba)(way:Int)(cols:List Int)(fs:List bK)(t:Int):gX (qZ s way cols fs).nodes t↔t=(fs.length:Int):=by
 unfold gX qZ Ck
 constructor
 ·rintro⟨n,hn,_,h⟩
  rw [tQ.1 hn]at h
  exact h.symm
 ·rintro rfl
  exact⟨_,tQ.2 rfl,rfl,rfl⟩
theorem xj(a b:List af)(t:Int):gX (a++b) t↔gX a t∨gX b t:=by
 unfold gX
 constructor
 ·rintro⟨n,hn,h⟩
  rcases wT.1 hn with hn|hn
  ·exact .inl ⟨n,hn,h⟩
  ·exact .inr ⟨n,hn,h⟩
 ·rintro(⟨n,hn,h⟩|⟨n,hn,h⟩)
  ·exact⟨n,Dk _ hn,h⟩
  ·exact⟨n,KX _ hn,h⟩
theorem Fm{n:af}{a b t:Int}(h:n.Op≠9): ¬gX [xv n a b] t:=by
 rintro⟨m,hm,h1,_⟩
 rw [tQ.1 hm]at h1
 exact h h1
theorem On(d:Int)(a:List af)(t:Int):gX (a.map (uy d)) t↔gX a t:=by
 unfold gX
 constructor
 ·rintro⟨n,hn,h⟩
  obtain⟨m,hm,rfl⟩:=z7.1 hn
  exact⟨m,hm,h⟩
 ·rintro⟨n,hn,h⟩
  exact⟨uy d n,z7.2 ⟨n,hn,rfl⟩,h⟩
theorem zr{n:af}{kinds h:List Int}{s:ba}(hn:n.Op≠9)(t:Int):gX (jF (over1 n kinds s) h).nodes t↔gX s.nodes t:=by
 show gX (s.nodes++[xv n _ _]) t↔_
 rw [xj]
 exact⟨fun h=>h.elim id fun h=>(Fm hn h).elim,.inl⟩
theorem JR{n:af}{kinds h:List Int}{a b:ba}(hn:n.Op≠9)(t:Int):gX (jF (over2 n kinds a b) h).nodes t↔gX a.nodes t∨gX b.nodes t:=by
 show gX ((a.nodes++b.nodes.map (uy _))++[xv n _ _]) t↔_
 rw [xj,xj,On]
 exact⟨fun h=>h.elim id fun h=>(Fm hn h).elim,.inl⟩
theorem lz.one{f0 f1:List bK}{s:ba}{B:Int→Prop}(h:lz f0 f1 (fun t=>gX s.nodes t∨B t))(hs:tG s):lz f0 (qp s f1) (fun t=>gX (tm s f1).nodes t∨B t):=by
 unfold qp tm
 by_cases e:s.at_=2
 ·rw [bS e,bS e];exact h
 ·rw [bM e,bM e]
  exact(h.send hs 3 []).congr fun t=>by rw [oU]
theorem lz.swap{f0 f1:List bK}{A B:Int→Prop}(h:lz f0 f1 (fun t=>A t∨B t)):lz f0 f1 (fun t=>B t∨A t):=h.congr fun _=>Or.comm
theorem lz.lone{f0 f1:List bK}{A:Int→Prop}(h:lz f0 f1 A):lz f0 f1 (fun t=>A t∨False):=h.congr fun _=>by simp
theorem lz.lone' {f0 f1:List bK}{A:Int→Prop}(h:lz f0 f1 (fun t=>A t∨False)):lz f0 f1 A:=h.congr fun _=>by simp
def gU(p:aO)(code:Option (ba×aO))(ref:Option bI)(f0 f1:List bK)(m:Nat):Prop:=
 ∃s f2,code=some (s,qU p f2)∧ref=some (oI s f2)∧tG s∧lz f0 f2 (gX s.nodes)∧s.nodes.length≤m+1∧f1.length≤f2.length∧f2.length≤f1.length+2
section
variable{p:aO}{n:af}{kinds:List Int}{f0 f1:List bK}
theorem MU(n:af)(kinds h:List Int)(s:ba):(jF (over1 n kinds s) h).nodes.length=s.nodes.length+1:=by simp [jF,over1]
theorem MT(n:af)(kinds h:List Int)(a b:ba):(jF (over2 n kinds a b) h).nodes.length=a.nodes.length+b.nodes.length+1:=by simp [jF,over2];omega
theorem nF(s:ba)(way:Int)(cols:List Int)(fs:List bK):(qZ s way cols fs).nodes.length=1:=rfl
theorem C1{s:ba}(hs:tG s)(fs:List bK):(tm s fs).nodes.length≤s.nodes.length:=by
 unfold tm
 split
 ·exact eW _
 ·exact hs.pos
theorem cv{a:ba}(ha:tG a)(hl:a.nodes.length≤500)(hn:n.Op≠9)(hk:kinds.length≤16){h:List Int}(hh:h.length≤100)(hG:lz f0 f1 (gX a.nodes)){code:Option (ba×aO)}{ref:Option bI}(e1:code=some (jF (over1 n kinds a) h,qU p f1))(e2:ref=some (oI (jF (over1 n kinds a) h) f1)){m:Nat}(hm:a.nodes.length≤m){fx:List bK}(hx:fx.length≤f1.length∧f1.length≤fx.length+2)(hq:Eu n:=by assumption):gU p code ref f0 fx m:=
 ⟨_,f1,e1,e2,ha.over1 (by omega) hh (by omega),hG.congr fun t=>(zr hn t).symm,by rw [MU];omega,hx.1,hx.2⟩
theorem Kr{a:ba}(ha:tG a)(hl:a.nodes.length≤500)(hn:n.Op=3)(hk:kinds.length≤16)(hG:lz f0 f1 (gX a.nodes))(c:ce)(b:bI)(hq:Eu n:=by assumption):
  gU p ((jf (qU p f1) n kinds [a]).map fun mr=>(mr,qU p f1)) (dW n kinds c (oI a f1) b) f0 f1 a.nodes.length:=by
 refine cv (n:=n) (h:=a.hashed) ha hl (by omega) hk ha.hashed hG ?_ ?_ (eW _) ⟨eW _,by omega⟩
 ·unfold jf fU
  show Option.map _ ((eU n kinds [a]).bind _)=_
  rw [mn n kinds ha]
  rfl
 ·unfold dW
  rw [bM (by simp [hn]),bM (by simp [hn]),bS (by simp [hn]),nR n kinds ha]
  rfl
def y9(e:bf):Int:=match e.Nodes with
 |[x]=>if x.Tag=2 then x.Col else -1
 |_=> -1
theorem L0{α:Type}(e:bf)(k:Int→Option α):(((if((e.Nodes.length:Int)==(1:Int))then((dw e.Nodes (0:Int)).bind fun e3=>some (e3.Tag==(2:Int)))else some false).bind fun t=>if t then((dw e.Nodes (0:Int)).bind fun e4=>k e4.Col)else k (-1)))=k (y9 e):=by
 obtain⟨ns⟩:=e
 match ns with
 |[]=>rfl
 |[x]=>
  show(if(x.Tag==(2:Int))then k x.Col else k (-1))=k (if x.Tag=2 then x.Col else -1)
  by_cases h:x.Tag=2
  ·rw [bS (by simpa using h),bS h]
  ·rw [bM (by simpa using h),bM h]
 |x::y::tl=>
  have:(((x::y::tl).length:Int)==(1:Int))=false:=by simp;omega
  show((if((((x::y::tl).length:Int))==(1:Int))then _ else some false).bind _)=k (-1)
  rw [this,bM (by simp),bC,bM (by simp)]
theorem y0(l:List ba): ∀(tl:List bf) (i:Nat) (done:List Int) (rest:List Int),done.length=i→rest.length=tl.length→cX n kinds l tl i (done++rest)=cX n kinds l [] (i+tl.length) (done++tl.map y9)
 |[],i,done,rest,_,h2=>by
  have:rest=[]:=vv h2
  subst this
  rfl
 |e::tl,i,done,r::rest,h1,h2=>by
  have hi:dw (done++r::rest) (i:Int)=some r:=by rw [cQ,sP (by omega),h1,vu];rfl
  have hset: ∀v:Int,(done++r::rest).set i v=(done++[v])++rest:=fun v=>by
   rw [HN _ _ (by omega),h1,vu]
   simp
  have hset2: ∀v w:Int,((done++[w])++rest).set i v=(done++[v])++rest:=fun v w=>by
   rw [iS,HN _ _ (by omega),h1,vu]
   simp
  have hi2: ∀w:Int,dw ((done++[w])++rest) (i:Int)=some w:=fun w=>by
   rw [iS,cQ,sP (by omega),h1,vu];rfl
  conv=>lhs;unfold cX
  rw [hi,bC,bC,yG,hset]
  have key:=L0 e (fun v=>cX n kinds l tl (i+1) ((done++[v])++rest))
  have e0:(((if((e.Nodes.length:Int)==(1:Int))then((dw e.Nodes (0:Int)).bind fun e3=>some (e3.Tag==(2:Int)))else some false).bind fun t=>if t then((dw e.Nodes (0:Int)).bind fun e4=>(dw ((done++[(-1:Int)])++rest) (i:Int)).bind fun e5=>(some (((done++[(-1:Int)])++rest).set i e4.Col)).bind fun st1=>(cX n kinds l tl) (i+1) st1)else((cX n kinds l tl) (i+1) ((done++[(-1:Int)])++rest))))=cX n kinds l tl (i+1) ((done++[y9 e])++rest):=by
   rw [←key]
   congr 1
   funext t
   congr 1
   congr 1
   funext e4
   rw [hi2,bC,bC,hset2]
  refine Eq.trans e0 ?_
  rw [y0 l tl (i+1) (done++[y9 e]) rest (by simp [h1]) (by simpa using h2)]
  rw [show i+1+tl.length=i+(e::tl).length by simp;omega]
  simp
theorem DL{a:bI}(hI:n.Items.length≤5000): ∀(tl:List bf) (i fu:Nat) (bare:List Int),n.Items.drop i=tl→tl.length<fu→bare.length=i→
  gH n kinds a fu bare (i:Int)=(gb n kinds a).bind fun r3=>(iX a.Hashed (bare++tl.map y9)).bind fun r4=>some (bI.mk r3.Frags r3.Nodes r3.Kinds r3.One r4.1)
 |tl,i,0,_,_,h,_=>by omega
 |[],i,fu+1,bare,hd,_,_=>by
  have hk:n.Items.length≤i:=zY.1 hd
  unfold gH
  rw [bM (by simp;omega)]
  simp
 |e::tl,i,fu+1,bare,hd,hf,hb=>by
  rw [iR]at hf
  have hk:i<n.Items.length:=by
   rcases lu i n.Items.length with h|h
   ·exact h
   ·rw [Bf h]at hd;cases hd
  rw [r0 hk]at hd
  injection hd with hn' hd
  unfold gH
  rw [bS (by simp;omega),cQ,q6 hk,bC,hn']
  have hk1: ∀v:Int,mg (gH n kinds a fu) bare (i:Int) v=gH n kinds a fu (bare++[v]) ((i+1:Nat):Int):=fun v=>by
   unfold mg
   rw [cP (by simp;omega),bC,cA (by omega) (by omega)]
   rfl
  refine Eq.trans (L0 e (fun v=>mg (gH n kinds a fu) bare (i:Int) v)) ?_
  show mg (gH n kinds a fu) bare (i:Int) (y9 e)=_
  rw [hk1,DL hI tl (i+1) fu (bare++[y9 e]) hd (by omega) (by simp [hb])]
  simp
theorem Io{a:ba}(ha:tG a)(hl:a.nodes.length≤500)(hn:n.Op=5)(hI:n.Items.length≤5000)(hk:kinds.length≤16)(hG:lz f0 f1 (gX a.nodes))(c:ce)(b:bI)(hq:Eu n:=by assumption):
  gU p ((iE (qU p f1) n kinds [a]).map fun mr=>(mr,qU p f1)) (dW n kinds c (oI a f1) b) f0 f1 a.nodes.length:=by
 obtain⟨o,ok,h1,h2,h3,_⟩:=uN a.hashed (n.Items.map y9) (by have:=ha.hashed;omega)
 refine cv (n:=n) (h:=o) ha hl (by omega) hk (by have:=ha.hashed;omega) hG ?_ ?_ (eW _) ⟨eW _,by omega⟩
 ·unfold iE
  have z:vU (n.Items.length:Int) (0:Int)=some (List.replicate n.Items.length 0):=by
   unfold vU
   rw [bS (by omega),yG]
  rw [z,bC]
  have:=y0 (n:=n) (kinds:=kinds) [a] n.Items 0 [] (List.replicate n.Items.length 0) rfl (by simp)
  rw [ke,ke]at this
  rw [this]
  unfold cX
  show Option.map _ ((qi a.hashed (n.Items.map y9)).bind _)=_
  rw [h1,bC,mn n kinds ha,bC]
  rfl
 ·unfold dW
  rw [bM (by simp [hn]),bM (by simp [hn]),bM (by simp [hn]),bM (by simp [hn]),bS (by simp [hn])]
  have:=DL (n:=n) (kinds:=kinds) (a:=oI a f1) hI n.Items 0 cZ [] (by simp) (iF (by omega)) rfl
  rw [Int.ofNat_zero,ke]at this
  rw [this,nR n kinds ha,bC]
  show((iX a.hashed (n.Items.map y9)).bind _)=_
  rw [h2]
  rfl
theorem OA{c:ce}{t:ca}(ht:dw c.Tables n.Table=some t)(hp:p.catalog=c)(hn:n.Op=1)(hA:n.A= -1∧n.B= -1)(hk:kinds.length≤16)(hkl:t.Keys.length≤100)(hq:Eu n:=by assumption):
  ∃s,((j4 (qU p f1) n kinds []).map fun mr=>(mr,qU p f1))=some (s,qU p f1)∧(∀a b,dW n kinds c a b=some (oI s []))∧tG s∧lz f1 f1 (gX s.nodes)∧s.nodes.length=1:=by
 refine⟨⟨[n],kinds,1,t.Keys⟩,?_,fun a b=>?_,⟨.inl rfl,eW _,by show 1≤1000;omega,by show kinds.length≤100;omega,hkl,fun m hm=>?_,fun m hm=>by rw [tQ.1 hm];exact hq⟩,(lz.nil f1).congr fun t' =>?_,rfl⟩
 ·unfold j4
  show Option.map _ ((dw p.catalog.Tables n.Table).bind _)=_
  rw [hp,ht]
  rfl
 ·unfold dW
  rw [bS (by simp [hn]),ht]
  rfl
 ·rw [tQ.1 hm]
  show n.A<(1:Int)∧n.B<(1:Int)
  omega
 ·constructor
  ·intro h;exact h.elim
  ·rintro⟨m,hm,h9,_⟩
   rw [tQ.1 hm,hn]at h9
   omega
theorem Hq{a:ba}(ha:tG a)(hl:a.nodes.length≤500)(hf:f1.length≤500)(hn:n.Op=6)(hk:kinds.length≤16)(hG:lz f0 f1 (gX a.nodes))(c:ce)(b:bI)(hq:Eu n:=by assumption):
  gU p (ii (qU p f1) n kinds [a]) (dW n kinds c (oI a f1) b) f0 f1 a.nodes.length:=by
 have er:dW n kinds c (oI a f1) b=(if(decide (a.at_=2)||(decide ((0:Int)<(a.hashed.length:Int))))then((gb n kinds (oI a f1)).bind fun r5=>some r5)else((oy (kinds.length:Int)).bind fun r6=>(iv (oI a f1) (1:Int) r6).bind fun r7=>(gb n kinds r7).bind fun r8=>some r8)):=by
  unfold dW
  rw [bM (by simp [hn]),bM (by simp [hn]),bM (by simp [hn]),bM (by simp [hn]),bM (by simp [hn]),bS (by simp [hn])]
  rfl
 have ec:ii (qU p f1) n kinds [a]=(if((a.at_==(2:Int))||(decide ((0:Int)<(a.hashed.length:Int))))then((eU n kinds ([a])).bind fun r=>(fU r a.hashed).bind fun r1=>some (r1,qU p f1))else((tJ (kinds.length:Int)).bind fun r2=>(eg (qU p f1) a (1:Int) r2).bind fun r3=>(eU n kinds ([r3.1])).bind fun r4=>(fU r4 r2).bind fun r5=>some (r5,r3.2))):=rfl
 rw [er,ec]
 by_cases hc:a.at_=2∨0<a.hashed.length
 ·rw [bS (by simpa using hc),bS (by simpa using hc)]
  refine cv (n:=n) (h:=a.hashed) ha hl (by omega) hk ha.hashed hG ?_ ?_ (eW _) ⟨eW _,by omega⟩
  ·rw [mn n kinds ha];rfl
  ·rw [nR n kinds ha];rfl
 ·rw [bM (by simpa using hc),bM (by simpa using hc),Lb _ (by omega),zJ _ (by omega),bC,bC,
   qe (by rw [pK];omega) (by have:=ha.kinds;omega) (by omega),sj ha (by omega),bC,bC]
  have hs:=ha.send (way:=1) (cols:=sG kinds.length) (fs:=f1) (by rw [pK];omega)
  have hG2:=(hG.lone.send ha 1 (sG kinds.length)).lone'
  have hp:=ha.pos
  have hl2:=qf a 1 (sG kinds.length) f1
  exact cv (n:=n) (f1:=q0 a 1 (sG kinds.length) f1) (h:=sG kinds.length) hs (by rw [nF];omega) (by omega) hk (by rw [pK];omega) (hG2.congr fun t=>(oU a 1 _ f1 t).symm)
   (by rw [mn n kinds hs];rfl) (by rw [nR n kinds hs];rfl) (by rw [nF];exact hp) (by omega)
end
end Go.Proofs.YtnmjbolollcokaaGreatDoor

