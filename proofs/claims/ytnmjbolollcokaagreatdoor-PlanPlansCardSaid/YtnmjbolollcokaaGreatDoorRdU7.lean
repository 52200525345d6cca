/- dr of this claim: U7. -/
import Derived.Test.YtnmjbolollcokaaGreatDoorRdU6
set_option linter.all false
namespace Go.Proofs.YtnmjbolollcokaaGreatDoor
open Go

theorem ya(s2:List Int): ∀(l:List Int) (i:Nat),i+l.length=s2.length→gv s2 l i=some (decide (l=s2.drop i))
 |[],i,h=>by
  unfold gv
  rw [Bf (by simp at h;omega)];rfl
 |e::tl,i,h=>by
  have hi:i<s2.length:=by simp at h;omega
  unfold gv
  rw [cQ,q6 hi,bC,r0 hi]
  by_cases he:e=s2[i]
  ·rw [bM (by simp [he]),ya s2 tl (i+1) (by simp at h;omega)]
   congr 1
   rw [Di]
   exact⟨fun h=>by rw [he,h],fun h=>by injection h⟩
  ·rw [bS (by simpa using he),oQ]
   intro h
   injection h with h1 _
   exact he h1
theorem yb(a b:List Int):fF a b=some (decide (a=b)):=by
 unfold fF
 by_cases h:a.length=b.length
 ·rw [bM (by simp [h]),ya b a 0 (by omega),sM]
 ·rw [bS (by simp;omega),oQ (fun e=>h (by rw [e]))]
theorem zd(s2:List Int): ∀(l:List Int) (i:Nat),i+l.length=s2.length→ia s2 l i=some (decide (l=s2.drop i))
 |[],i,h=>by
  unfold ia
  rw [Bf (by simp at h;omega)];rfl
 |e::tl,i,h=>by
  have hi:i<s2.length:=by simp at h;omega
  unfold ia
  rw [cQ,q6 hi,bC,r0 hi]
  by_cases he:e=s2[i]
  ·rw [bM (by simp [he]),zd s2 tl (i+1) (by simp at h;omega)]
   congr 1
   rw [Di]
   exact⟨fun h=>by rw [he,h],fun h=>by injection h⟩
  ·rw [bS (by simpa using he),oQ]
   intro h
   injection h with h1 _
   exact he h1
theorem Ev(a b:List Int):eH a b=some (decide (a=b)):=by
 unfold eH
 by_cases h:a.length=b.length
 ·rw [bM (by simp [h]),zd b a 0 (by omega),sM]
 ·rw [bS (by simp;omega),oQ (fun e=>h (by rw [e]))]
section
variable{p:aO}{n:af}{kinds:List Int}{f0 f1:List bK}
theorem MW{a:ba}(ha:tG a)(hl:a.nodes.length≤500)(hf:f1.length≤500)(hn:n.Op=8)(hk:kinds.length≤16)(hG:lz f0 f1 (gX a.nodes))(c:ce)(b:bI)(hq:Eu n:=by assumption):
  gU p (jx (qU p f1) n kinds [a]) (dW n kinds c (oI a f1) b) f0 f1 a.nodes.length:=by
 have er:dW n kinds c (oI a f1) b=((gb n kinds (oI a f1)).bind fun r13=>if decide (a.at_=2)then(some (bI.mk r13.Frags r13.Nodes r13.Kinds r13.One ([])))else((eh (bI.mk r13.Frags r13.Nodes r13.Kinds r13.One ([]))).bind fun r14=>(gb n kinds r14).bind fun r15=>some r15)):=by
  unfold dW
  rw [bM (by simp [hn]),bM (by simp [hn]),bM (by simp [hn]),bM (by simp [hn]),bM (by simp [hn]),bM (by simp [hn]),bM (by simp [hn])]
  rfl
 have ec:jx (qU p f1) n kinds [a]=((eU n kinds ([a])).bind fun r=>if(r.at_==(2:Int))then(some (r,qU p f1))else((dS (qU p f1) r).bind fun r1=>(eU n kinds ([r1.1])).bind fun r2=>some (r2,r1.2))):=rfl
 have ho:tG (jF (over1 n kinds a) []):=ha.over1 (by omega) (by simp) (by omega)
 rw [er,ec,mn n kinds ha,nR n kinds ha,bC,bC]
 by_cases h2:a.at_=2
 ·rw [bS (by show(a.at_==(2:Int))=true;simpa using h2),bS (by simpa using h2)]
  exact cv (n:=n) (h:=[]) ha hl (by omega) hk (by simp) hG rfl rfl (eW _) ⟨eW _,by omega⟩
 ·rw [bM (by show¬(a.at_==(2:Int))=true;simpa using h2),bM (by simpa using h2)]
  show gU p ((dS (qU p f1) (jF (over1 n kinds a) [])).bind _) ((eh (oI (jF (over1 n kinds a) []) f1)).bind _) f0 f1 _
  rw [vB (by have:=ho.kinds;omega) (by omega),yp ho (by omega),bC,bC]
  have h2' : ¬(jF (over1 n kinds a) []).at_=2:=h2
  have e1:tm (jF (over1 n kinds a) []) f1=qZ (jF (over1 n kinds a) []) 3 [] f1:=bM h2'
  have e2:qp (jF (over1 n kinds a) []) f1=q0 (jF (over1 n kinds a) []) 3 [] f1:=bM h2'
  rw [e1,e2]
  have hs:=ho.send (way:=3) (cols:=[]) (fs:=f1) (by simp)
  have hG1:lz f0 f1 (gX (jF (over1 n kinds a) []).nodes):=hG.congr fun t=>(zr (by omega) t).symm
  have hG2:=(hG1.lone.send ho 3 []).lone'
  have hp:=ha.pos
  have hl2:=qf (jF (over1 n kinds a) []) 3 [] f1
  exact cv (n:=n) (h:=[]) hs (by rw [nF];omega) (by omega) hk (by simp) (hG2.congr fun t=>(oU _ 3 _ f1 t).symm) (by rw [mn n kinds hs];rfl) (by rw [nR n kinds hs];rfl) (by rw [nF];exact hp) (by omega)
def EJ(nk:Nat)(aggs:List ip)(i:Nat)(k:Int):Int:=if nk≤i∧(aggs[i-nk]?).map ip.Tag=some 3 then 4 else k
def iM(nk:Nat)(aggs:List ip):List Int→Nat→List Int
 |[],_=>[]
 |k::ks,i=>EJ nk aggs i k::iM nk aggs ks (i+1)
theorem Fj(nk:Nat)(aggs:List ip): ∀(ks:List Int) (i:Nat),(iM nk aggs ks i).length=ks.length
 |[],_=>rfl
 |k::ks,i=>by unfold iM;rw [iR,iR,Fj nk aggs ks (i+1)]
theorem Ad(nk:Nat)(aggs:List ip)(b:List Int): ∀(a:List Int) (i:Nat),iM nk aggs (a++b) i=iM nk aggs a i++iM nk aggs b (i+a.length)
 |[],i=>rfl
 |k::a,i=>by
  show EJ nk aggs i k::iM nk aggs (a++b) (i+1)=(EJ nk aggs i k::iM nk aggs a (i+1))++iM nk aggs b (i+(k::a).length)
  rw [Ad nk aggs b a (i+1),show i+1+a.length=i+(k::a).length by simp;omega]
  rfl
theorem Dr(nk:Nat)(aggs:List ip): ∀(ks:List Int) (i:Nat),i+ks.length≤nk→iM nk aggs ks i=ks
 |[],_,_=>rfl
 |k::ks,i,h=>by
  rw [iR]at h
  unfold iM EJ
  rw [bM (by omega),Dr nk aggs ks (i+1) (by omega)]
theorem D1: ∀(tl:List ip) (j:Nat) (pre rest:List Int),n.Aggs.drop j=tl→pre.length=n.Keys.length+j→rest.length=tl.length→pre.length+tl.length≤10000→
  kj n tl j (pre++rest)=some (pre++iM n.Keys.length n.Aggs rest (n.Keys.length+j))
 |[],j,pre,rest,_,_,hr,_=>by
  have:rest=[]:=vv hr
  subst this
  rfl
 |g::tl,j,pre,r::rest,hd,hp,hr,h1=>by
  rw [iR]at h1
  have hk:j<n.Aggs.length:=by
   rcases lu j n.Aggs.length with h|h
   ·exact h
   ·rw [Bf h]at hd;cases hd
  rw [r0 hk]at hd
  injection hd with hn' hd
  have hg:n.Aggs[j]? =some g:=by rw [q6 hk,hn']
  have ih:=fun v:Int=>D1 tl (j+1) (pre++[v]) rest hd (by simp;omega) (by simpa using hr)
  have e:IntKind.i64.wrap ((n.Keys.length:Int)+(j:Int))=(pre.length:Int):=by rw [cA (by omega) (by omega)];omega
  have hv:EJ n.Keys.length n.Aggs (n.Keys.length+j) r=if g.Tag=3 then 4 else r:=by
   unfold EJ
   rw [Nat.add_sub_cancel_left,hg]
   simp
  unfold kj iM
  rw [hv,e]
  by_cases h3:g.Tag=3
  ·rw [bS (by simpa using h3),bS h3,cQ,sP (eW _),vu]
   show kj n tl (j+1) ((pre++r::rest).set (pre.length:Int).toNat 4)=_
   rw [yG,HN _ _ (eW _),vu,List.set_cons_zero,←KZ,←iS,ih 4 (by simp;omega),iS]
   rfl
  ·rw [bM (by simpa using h3),bM h3,←KZ,←iS,ih r (by simp;omega),iS]
   rfl
theorem Ka(hk:kinds.length=n.Keys.length+n.Aggs.length)(hl:kinds.length≤1000):qF n kinds=some (iM n.Keys.length n.Aggs kinds 0):=by
 unfold qF
 rw [yc _ (by omega),bC]
 have:=D1 (n:=n) n.Aggs 0 (kinds.take n.Keys.length) (kinds.drop n.Keys.length) (by simp) (by simp;omega) (by simp;omega) (by simp;omega)
 rw [vb]at this
 rw [this,yD]
 have h2:=Ad n.Keys.length n.Aggs (kinds.drop n.Keys.length) (kinds.take n.Keys.length) 0
 rw [vb,Dr n.Keys.length n.Aggs (kinds.take n.Keys.length) 0 (by simp;omega)]at h2
 rw [h2]
 congr 3
 simp;omega
theorem Ca{s:bI}(hA:n.Aggs.length≤1000)(hK:n.Keys.length≤1000): ∀(ks:List Int) (i:Nat) (under:List Int),i+ks.length=n.Keys.length+n.Aggs.length→under.length≤i→
  gy n kinds s ks i under=gy n kinds s [] 0 (under++iM n.Keys.length n.Aggs ks i)
 |[],i,under,_,_=>by unfold iM;rw [zU];rfl
 |k::ks,i,under,hi,hu=>by
  rw [iR]at hi
  have hk2: ∀v:Int,ox (gy n kinds s ks) i under v=gy n kinds s ks (i+1) (under++[v]):=fun v=>by
   unfold ox
   rw [cP (by simp;omega),bC]
  have ih:=fun v:Int=>Ca (s:=s) hA hK ks (i+1) (under++[v]) (by omega) (by simp;omega)
  conv=>lhs;unfold gy
  unfold iM
  by_cases hn:n.Keys.length≤i
  ·have hlt:i-n.Keys.length<n.Aggs.length:=by omega
   have e:IntKind.i64.wrap ((i:Int)-(n.Keys.length:Int))=((i-n.Keys.length:Nat):Int):=by rw [cA (by omega) (by omega)];omega
   rw [bS (by simp;omega),e,cQ,q6 hlt,bC,bC]
   have hv:EJ n.Keys.length n.Aggs i k=if(n.Aggs[i-n.Keys.length]).Tag=3 then 4 else k:=by
    unfold EJ
    rw [q6 hlt]
    simp [hn]
   rw [hv]
   by_cases h3:(n.Aggs[i-n.Keys.length]).Tag=3
   ·rw [bS (by simpa using h3),bS h3,hk2,ih,iS];rfl
   ·rw [bM (by simpa using h3),bM h3,hk2,ih,iS];rfl
  ·have hv:EJ n.Keys.length n.Aggs i k=k:=by unfold EJ;rw [bM (by omega)]
   rw [bM (by simp;omega),bC,bM (by simp),hv,hk2,ih,iS];rfl
def uS(n:af)(done:List ip):af:=⟨11,0,0,0,[],false,⟨[]⟩,sG n.Keys.length,done,[],[],0⟩
def zc(l:List ip):List ip:=l.map fun g=>⟨g.Tag,⟨[]⟩⟩
theorem Cl(r4:List Int)(r7:ba×aO): ∀(tl:List ip) (done:List ip),done.length+tl.length≤1000→eZ kinds r4 r7 tl (uS n done)=eZ kinds r4 r7 [] (uS n (done++zc tl))
 |[],done,_=>by unfold zc;simp
 |g::tl,done,h=>by
  rw [iR]at h
  conv=>lhs;unfold eZ
  show((kq done ([(⟨g.Tag,(⟨[]⟩:bf)⟩:ip)])).bind _)=_
  rw [cP (by simp;omega),bC]
  show eZ kinds r4 r7 tl (uS n (done++[⟨g.Tag,⟨[]⟩⟩]))=_
  rw [Cl r4 r7 tl _ (by simp;omega),iS]
  rfl
theorem B9{s:bI}{under:List Int}(hA:n.Aggs.length≤1000): ∀(tl:List ip) (i fu:Nat) (done:List ip),n.Aggs.drop i=tl→tl.length<fu→done.length≤i→
  jN n kinds s under fu (i:Int) (uS n done)=(if((n.Keys.length:Int)==(0:Int))then(iZ n kinds s under (uS n (done++zc tl)) (3:Int))else(iZ n kinds s under (uS n (done++zc tl)) (1:Int)))
 |tl,i,0,_,_,h,_=>by omega
 |[],i,fu+1,done,hd,_,_=>by
  have hk:n.Aggs.length≤i:=zY.1 hd
  unfold jN
  rw [bM (by simp;omega)]
  simp [zc]
 |g::tl,i,fu+1,done,hd,hf,hdl=>by
  rw [iR]at hf
  have hk:i<n.Aggs.length:=by
   rcases lu i n.Aggs.length with h|h
   ·exact h
   ·rw [Bf h]at hd;cases hd
  rw [r0 hk]at hd
  injection hd with hn' hd
  unfold jN
  rw [bS (by simp;omega),cQ,q6 hk,bC,hn']
  show((kq done ([(⟨g.Tag,(⟨[]⟩:bf)⟩:ip)])).bind _)=_
  rw [cP (by simp;omega),bC,cA (by omega) (by omega)]
  have:=B9 (s:=s) (under:=under) hA tl (i+1) fu (done++[⟨g.Tag,⟨[]⟩⟩]) hd (by omega) (by simp;omega)
  rw [show((i+1:Nat):Int)=(i:Int)+1 by omega]at this
  refine Eq.trans this ?_
  rw [iS]
  rfl
theorem Nj{a:ba}(ha:tG a)(hl:a.nodes.length≤500)(hf:f1.length≤500)(hn:n.Op=4)(hk:kinds.length≤16)(hkl:kinds.length=n.Keys.length+n.Aggs.length)(hG:lz f0 f1 (gX a.nodes))(c:ce)(b:bI)(hq:Eu n:=by assumption):
  gU p (jy (qU p f1) n kinds [a]) (dW n kinds c (oI a f1) b) f0 f1 a.nodes.length:=by
 have er:dW n kinds c (oI a f1) b=uE n kinds (oI a f1):=by
  unfold dW
  rw [bM (by simp [hn]),bM (by simp [hn]),bM (by simp [hn]),bS (by simp [hn]),Option.bind_fun_some]
 rw [er]
 unfold jy uE
 rw [show dw [a] (0:Int)=some a from rfl,bC]
 by_cases h2:a.at_=2
 ·rw [bS (by simpa using h2),bS (by show decide (a.at_=2)=true;simpa using h2)]
  exact cv (n:=n) (h:=[]) ha hl (by omega) hk (by simp) hG (by rw [mn n kinds ha];rfl) (by rw [nR n kinds ha];rfl) (eW _) ⟨eW _,by omega⟩
 ·rw [bM (by simpa using h2),bM (by show¬decide (a.at_=2)=true;simpa using h2)]
  obtain⟨o,ok,h1,h1',h3,_⟩:=uN a.hashed n.Keys (by have:=ha.hashed;omega)
  rw [h1,bC]
  show gU p _ ((iX a.hashed n.Keys).bind _) f0 f1 _
  rw [h1',bC]
  cases ok with
  |true=>
   rw [bS rfl,bS rfl]
   exact cv (n:=n) (h:=o) ha hl (by omega) hk (by have:=ha.hashed;omega) hG (by rw [mn n kinds ha];rfl) (by rw [nR n kinds ha];rfl) (eW _) ⟨eW _,by omega⟩
  |false=>
   rw [bM (by simp),bM (by simp),Lb _ (by omega),bC,Ca (by omega) (by omega) kinds 0 [] (by omega) (by simp),ke]
   unfold gy
   rw [zJ _ (by omega),bC]
   have hl2:=B9 (n:=n) (kinds:=kinds) (s:=oI a f1) (under:=iM n.Keys.length n.Aggs kinds 0) (by omega) n.Aggs 0 cZ [] (by simp) (iF (by omega)) (by simp)
   rw [Int.ofNat_zero,ke]at hl2
   have hlen:(iM n.Keys.length n.Aggs kinds 0).length=kinds.length:=Fj _ _ _ _
   -- one way
   have key: ∀way:Int,gU p (jq (qU p f1) n kinds a (sG n.Keys.length) way) (iZ n kinds (oI a f1) (iM n.Keys.length n.Aggs kinds 0) (uS n (zc n.Aggs)) way) f0 f1 a.nodes.length:=by
    intro way
    have n10:(af.mk (10:Int) n.A n.B n.Table n.Kinds n.Left n.Cond n.Keys n.Aggs n.Items n.Order n.Limit).Op≠9:=by show(10:Int)≠9;decide
    unfold jq iZ
    rw [Ka (n:=af.mk (10:Int) n.A n.B n.Table n.Kinds n.Left n.Cond n.Keys n.Aggs n.Items n.Order n.Limit) hkl (by omega),bC,mn _ _ ha,bC,nR _ _ ha,bC,zJ _ (by omega),bC]
    have ho:tG (jF (over1 (af.mk (10:Int) n.A n.B n.Table n.Kinds n.Left n.Cond n.Keys n.Aggs n.Items n.Order n.Limit) (iM n.Keys.length n.Aggs kinds 0) a) a.hashed):=ha.over1 (by omega) ha.hashed (by omega)
    have hs:=ho.send (way:=way) (cols:=sG n.Keys.length) (fs:=f1) (by rw [pK];omega)
    have hG1:=hG.congr fun t=>(zr (kinds:=iM n.Keys.length n.Aggs kinds 0) (h:=a.hashed) (s:=a) n10 t).symm
    have hG2:=(hG1.lone.send ho way (sG n.Keys.length)).lone'
    have hc:=qe (p:=p) (s:=over1 (af.mk (10:Int) n.A n.B n.Table n.Kinds n.Left n.Cond n.Keys n.Aggs n.Items n.Order n.Limit) (iM n.Keys.length n.Aggs kinds 0) a) (way:=way) (cols:=sG n.Keys.length) (fs:=f1) (by rw [pK];omega) (by have:=ho.kinds;exact nf this (by omega)) (by omega)
    rw [hc,bC,sj ho (by omega),bC]
    have hp:=ha.pos
    have hl3:=qf (jF (over1 (af.mk (10:Int) n.A n.B n.Table n.Kinds n.Left n.Cond n.Keys n.Aggs n.Items n.Order n.Limit) (iM n.Keys.length n.Aggs kinds 0) a) a.hashed) way (sG n.Keys.length) f1
    refine cv (n:=uS n (zc n.Aggs)) (kinds:=kinds) (h:=sG n.Keys.length) hs (by rw [nF];omega) (by show(11:Int)≠9;decide) hk (by rw [pK];omega) (hG2.congr fun t=>(oU _ way _ f1 t).symm) ?_ ?_ (by rw [nF];exact hp) (by omega) (hq:=⟨by simp [uS,zc];exact hq.1,by simp [uS]⟩)
    ·have:=Cl (n:=n) (kinds:=kinds) (sG n.Keys.length) (qZ (jF (over1 (af.mk (10:Int) n.A n.B n.Table n.Kinds n.Left n.Cond n.Keys n.Aggs n.Items n.Order n.Limit) (iM n.Keys.length n.Aggs kinds 0) a) a.hashed) way (sG n.Keys.length) f1,qU p (q0 (jF (over1 (af.mk (10:Int) n.A n.B n.Table n.Kinds n.Left n.Cond n.Keys n.Aggs n.Items n.Order n.Limit) (iM n.Keys.length n.Aggs kinds 0) a) a.hashed) way (sG n.Keys.length) f1)) n.Aggs [] (by simp;omega)
     refine Eq.trans this ?_
     rw [ke]
     unfold eZ
     rw [mn _ _ hs]
     rfl
    ·rw [nR _ _ hs]
     rfl
   by_cases h0:n.Keys.length=0
   ·rw [bS (by rw [pK];simpa using h0)]
    have e:jN n kinds (oI a f1) (iM n.Keys.length n.Aggs kinds 0) cZ (0:Int) (uS n [])=iZ n kinds (oI a f1) (iM n.Keys.length n.Aggs kinds 0) (uS n (zc n.Aggs)) (3:Int):=by
     rw [hl2,bS (by simpa using h0)]
    have:=key 3
    rw [←e]at this
    exact this
   ·rw [bM (by rw [pK];simpa using h0)]
    have e:jN n kinds (oI a f1) (iM n.Keys.length n.Aggs kinds 0) cZ (0:Int) (uS n [])=iZ n kinds (oI a f1) (iM n.Keys.length n.Aggs kinds 0) (uS n (zc n.Aggs)) (1:Int):=by
     rw [hl2,bM (by simpa using h0)]
    have:=key 1
    rw [←e]at this
    exact this
theorem sT{a b:ba}(ha:tG a)(hb:tG b)(hl:a.nodes.length+b.nodes.length≤900)(hn:n.Op≠9)(hk:kinds.length≤16){h:List Int}(hh:h.length≤100)(hG:lz f0 f1 (fun t=>gX a.nodes t∨gX b.nodes t)){code:Option (ba×aO)}{ref:Option bI}(e1:code=some (jF (over2 n kinds a b) h,qU p f1))(e2:ref=some (oI (jF (over2 n kinds a b) h) f1)){m:Nat}(hm:a.nodes.length+b.nodes.length≤m){fx:List bK}(hx:fx.length≤f1.length∧f1.length≤fx.length+2)(hq:Eu n:=by assumption):gU p code ref f0 fx m:=
 ⟨_,f1,e1,e2,ha.over2 hb (by omega) hh (by omega),hG.congr fun t=>(JR hn t).symm,by rw [MT];omega,hx.1,hx.2⟩
theorem Dq(n:af)(kinds:List Int){a b:ba}(ha:tG a)(hb:tG b)(hl:a.nodes.length+b.nodes.length≤900)(hn:n.Op≠9)(hk:kinds.length≤16){fa:List bK}(hG:lz f0 f1 (fun t=>gX a.nodes t∨gX b.nodes t)){m:Nat}(hm:a.nodes.length+b.nodes.length≤m){fx:List bK}(hx:fx.length≤f1.length∧f1.length≤fx.length+2)(hq:Eu n:=by assumption):
  gU p (gc n kinds a b (qU p f1)) (jK n kinds (oI a fa) (oI b f1)) f0 fx m:=by
 unfold gc jK
 rw [wn n kinds ha hb,AY n kinds ha hb,bC,bC]
 have hE:fF a.hashed b.hashed=some (decide (a.hashed=b.hashed)):=yb _ _
 have hS:eH a.hashed b.hashed=some (decide (a.hashed=b.hashed)):=Ev _ _
 by_cases h1:a.at_=1
 ·have h2: ¬a.at_=2:=by omega
  rw [bS (by simpa using h1),hE]
  show gU p _ ((if(!(decide (a.at_=2)))then((eH a.hashed b.hashed).bind fun r10=>some r10)else some false).bind _) f0 fx m
  rw [bS (by simp [h2]),hS]
  simp only [bC]
  by_cases hh:a.hashed=b.hashed
  ·rw [bS (by simpa using hh),bS (by simpa using hh)]
   exact sT (h:=a.hashed) ha hb hl hn hk ha.hashed hG rfl rfl hm hx
  ·rw [bM (by simpa using hh),bM (by simpa using hh)]
   exact sT (h:=[]) ha hb hl hn hk (by simp) hG rfl rfl hm hx
 ·have h2:a.at_=2:=by have:=ha.at_;omega
  rw [bM (by simpa using h1)]
  show gU p _ ((if(!(decide (a.at_=2)))then((eH a.hashed b.hashed).bind fun r10=>some r10)else some false).bind _) f0 fx m
  rw [bM (by simp [h2])]
  exact sT (h:=[]) ha hb hl hn hk (by simp) hG rfl rfl hm hx
theorem MA{a b:ba}(ha:tG a)(hb:tG b)(hl:a.nodes.length+b.nodes.length≤500)(hf:f1.length≤500)(hn:n.Op=7)(hk:kinds.length≤16){fa:List bK}(hG:lz f0 f1 (fun t=>gX a.nodes t∨gX b.nodes t))(c:ce)(hq:Eu n:=by assumption):
  gU p (jw (qU p f1) n kinds [a,b]) (dW n kinds c (oI a fa) (oI b f1)) f0 f1 (a.nodes.length+b.nodes.length):=by
 have er:dW n kinds c (oI a fa) (oI b f1)=(if(decide (a.at_=2) !=decide (b.at_=2))then(if(!(decide (a.at_=2)))then((eh (oI a f1)).bind fun r11=>jK n kinds r11 (bI.mk r11.Frags b.nodes b.kinds (decide (b.at_=2)) b.hashed))else((eh (oI b f1)).bind fun r12=>jK n kinds (oI a fa) r12))else(jK n kinds (oI a fa) (oI b f1))):=by
  unfold dW
  rw [bM (by simp [hn]),bM (by simp [hn]),bM (by simp [hn]),bM (by simp [hn]),bM (by simp [hn]),bM (by simp [hn]),bS (by simp [hn])]
  rfl
 have ec:jw (qU p f1) n kinds [a,b]=(if(a.at_ !=b.at_)then((dS (qU p f1) a).bind fun r2=>(dS r2.2 b).bind fun r3=>gc n kinds r2.1 r3.1 r3.2)else(gc n kinds a b (qU p f1))):=rfl
 rw [er,ec]
 have h9:n.Op≠9:=by omega
 have oa:=ha.at_
 have ob:=hb.at_
 by_cases hne:a.at_=b.at_
 ·rw [bM (by simpa using hne),bM (by rw [hne];simp)]
  exact Dq n kinds ha hb (by omega) h9 hk hG (eW _) ⟨eW _,by omega⟩
 ·have l1:=xF a f1
  have l2:=xF b (qp a f1)
  rw [bS (by simpa using hne),vB (by have:=ha.kinds;omega) (by omega),bC,vB (by have:=hb.kinds;omega) (by omega),bC]
  have hGa:=hG.one ha
  have hGb:=(hGa.swap.one hb).swap
  have na:=C1 ha f1
  have nb:=C1 hb (qp a f1)
  by_cases h2:a.at_=2
  ·have h3: ¬b.at_=2:=by omega
   have ea:tm a f1=a:=bS h2
   have eF:qp a f1=f1:=bS h2
   rw [bS (by simp [h2,h3]),bM (by simp [h2]),yp hb (by omega),bC]
   rw [ea,eF]at hGb ⊢
   rw [eF]at nb l2
   exact Dq n kinds ha hb.one (by omega) h9 hk hGb (by omega) (by omega)
  ·have h3:b.at_=2:=by omega
   have eb:tm b (qp a f1)=b:=bS h3
   have eF:qp b (qp a f1)=qp a f1:=bS h3
   rw [bS (by simp [h2,h3]),bS (by simp [h2]),yp ha (by omega),bC]
   rw [eb,eF]at hGb ⊢
   exact Dq n kinds ha.one hb (by omega) h9 hk hGb (by omega) (by omega)
theorem O6{a b:ba}(ha:tG a)(hb:tG b)(hl:a.nodes.length+b.nodes.length≤500)(hf:f1.length≤500)(hn:n.Op=2)(hk:kinds.length≤16)(hr:gN n.Cond.Nodes=true){fa:List bK}(hG:lz f0 f1 (fun t=>gX a.nodes t∨gX b.nodes t))(c:ce)(hq:Eu n:=by assumption):
  gU p (j5 (qU p f1) n kinds [a,b]) (dW n kinds c (oI a fa) (oI b f1)) f0 f1 (a.nodes.length+b.nodes.length):=by
 have er:dW n kinds c (oI a fa) (oI b f1)=wc n kinds (oI a fa) (oI b f1):=by
  unfold dW
  rw [bM (by simp [hn]),bS (by simp [hn]),Option.bind_fun_some]
 rw [er]
 unfold j5 wc
 rw [show dw [a,b] (0:Int)=some a from rfl,show dw [a,b] (1:Int)=some b from rfl,bC,bC]
 have h9:n.Op≠9:=by omega
 have oa:=ha.at_
 have ob:=hb.at_
 have pa:=ha.pos
 have pb:=hb.pos
 have ka:=ha.kinds
 have kb:=hb.kinds
 have hha:=ha.hashed
 have hhb:=hb.hashed
 by_cases h1:a.at_=2∨b.at_=2
 ·rw [bS (by simpa using h1),bS (by show(decide (a.at_=2)||decide (b.at_=2))=true;simpa using h1)]
  have l1:=xF a f1
  have l2:=xF b (qp a f1)
  have hGb:=((hG.one ha).swap.one hb).swap
  have na:=C1 ha f1
  have nb:=C1 hb (qp a f1)
  rw [vB (by omega) (by omega),bC,vB (by omega) (by omega),bC,wn n kinds ha.one hb.one]
  have k1: ∀fz,pu n kinds (oI (tm a f1) fz) (oI b (qp a f1))=some (oI (jF (over2 n kinds (tm a f1) (tm b (qp a f1))) []) (qp b (qp a f1))):=fun fz=>by
   unfold pu
   rw [yp hb (by omega),bC,AY n kinds ha.one hb.one,bC]
   have e:(true:Bool)=decide ((tm a f1).at_=2):=by rw [TR];rfl
   rw [e]
   rfl
  refine sT (h:=[]) ha.one hb.one (by omega) h9 hk (by simp) hGb rfl ?_ (by omega) (by omega)
  by_cases h2:a.at_=2
  ·have ea:tm a f1=a:=bS h2
   have eF:qp a f1=f1:=bS h2
   rw [bM (by show¬(!decide (a.at_=2))=true;simp [h2])]
   have:=k1 fa
   rw [ea,eF]at this ⊢
   exact this
  ·rw [bS (by show(!decide (a.at_=2))=true;simp [h2])]
   show((eh (oI a f1)).bind _)=_
   rw [yp ha (by omega),bC]
   exact k1 _
 ·rw [bM (by simpa using h1),bM (by show¬(decide (a.at_=2)||decide (b.at_=2))=true;simpa using h1)]
  obtain⟨L,R,p1,p2,p3,p4⟩:=Kd n.Cond (a.kinds.length:Int) hr
  rw [p1,bC]
  show gU p _ ((sl n.Cond (a.kinds.length:Int)).bind _) f0 f1 _
  rw [p2,bC]
  dsimp only
  by_cases h0:L.length=0
  ·rw [bS (by simpa using h0),bS (by simpa using h0),qe (by simp) (by omega) (by omega),bC,sj hb (by omega),bC]
   have hs:=hb.send (way:=2) (cols:=[]) (fs:=f1) (by simp)
   have hG2:=((hG.swap.send hb 2 []).congr fun t=>by rw [←oU b 2 [] f1 t]).swap
   have l1:=qf b 2 [] f1
   exact sT (h:=a.hashed) ha hs (by rw [nF];omega) h9 hk hha hG2 (by rw [wn n kinds ha hs];rfl) (by rw [AY n kinds ha hs];rfl) (by rw [nF];omega) (by omega)
  ·rw [bM (by simpa using h0),bM (by simpa using h0)]
   -- the node over two sides
   have jk: ∀{x y:ba} {fz fw:List bK},tG x→tG y→x.nodes.length≤a.nodes.length→y.nodes.length≤b.nodes.length→lz f0 fz (fun t=>gX x.nodes t∨gX y.nodes t)→f1.length≤fz.length→fz.length≤f1.length+2→gU p (gA n kinds x y (qU p fz)) (mh n kinds (oI x fw) (oI y fz)) f0 f1 (a.nodes.length+b.nodes.length):=by
    intro x y fz fw hx hy hxl hyl hG' hz1 hz2
    unfold gA mh
    rw [wn n kinds hx hy,AY n kinds hx hy,bC,bC]
    exact sT (h:=x.hashed) hx hy (by omega) h9 hk hx.hashed hG' rfl rfl (by omega) ⟨hz1,hz2⟩
   obtain⟨o,ok,q1,q2,q3,q4⟩:=uN a.hashed L (by omega)
   obtain⟨o2,ok2,w1,w2,w3,w4⟩:=uN b.hashed R (by omega)
   have g1:jL a.hashed L R=some (CT R o,ok):=by
    unfold jL
    rw [q1,bC,xD R (o,ok) o [] (by simp;omega) (fun k hk=>by have:=q4 k hk;omega),ke]
   have g2:jL b.hashed R L=some (CT L o2,ok2):=by
    unfold jL
    rw [w1,bC,xD L (o2,ok2) o2 [] (by simp;omega) (fun k hk=>by have:=w4 k hk;omega),ke]
   have al:(CT R o).length≤100:=by simp [CT];omega
   have al2:(CT L o2).length≤100:=by simp [CT];omega
   show gU p ((jL a.hashed L R).bind _) ((iX a.hashed L).bind _) f0 f1 _
   rw [g1,q2,bC,bC]
   dsimp only
   cases ok with
   |true=>
    have hat:=SZ R o (by omega) (fun k hk=>by have:=q4 k hk;omega)
    rw [bS rfl,bS rfl]
    show gU p ((fF b.hashed (CT R o)).bind _) ((sn R o).bind _) f0 f1 _
    rw [yb,hat,bC,bC]
    show gU p _ ((eH b.hashed (CT R o)).bind _) f0 f1 _
    rw [Ev _ _,bC]
    by_cases he:b.hashed=CT R o
    ·rw [bM (by simp [he]),bM (by simp [he])]
     exact jk ha hb (eW _) (eW _) hG (eW _) (by omega)
    ·rw [bS (by simp [he]),bS (by simp [he]),qe (by omega) (by omega) (by omega),bC]
     rw [bC,sj hb (by omega),bC]
     have hs:=hb.send (way:=1) (cols:=CT R o) (fs:=f1) al
     have hG2:=((hG.swap.send hb 1 (CT R o)).congr fun t=>by rw [←oU b 1 (CT R o) f1 t]).swap
     have l1:=qf b 1 (CT R o) f1
     exact jk ha hs (eW _) (by rw [nF];omega) hG2 (by omega) (by omega)
   |false=>
    rw [bM (by simp),bM (by simp)]
    show gU p ((jL b.hashed R L).bind _) ((iX b.hashed R).bind _) f0 f1 _
    rw [g2,w2,bC,bC]
    dsimp only
    cases ok2 with
    |true=>
     rw [bS rfl,bS rfl,qe (by omega) (by omega) (by omega),bC]
     show gU p _ ((sn L o2).bind _) f0 f1 _
     rw [SZ L o2 (by omega) (fun k hk=>by have:=w4 k hk;omega),bC]
     show gU p _ ((iv (oI a f1) (1:Int) (CT L o2)).bind _) f0 f1 _
     rw [sj ha (by omega),bC]
     have hs:=ha.send (way:=1) (cols:=CT L o2) (fs:=f1) al2
     have hG2:=(hG.send ha 1 (CT L o2)).congr fun t=>by rw [←oU a 1 (CT L o2) f1 t]
     have l1:=qf a 1 (CT L o2) f1
     exact jk hs hb (by rw [nF];omega) (eW _) hG2 (by omega) (by omega)
    |false=>
     have l1:=qf a 1 L f1
     have l2:=qf b 1 R (q0 a 1 L f1)
     rw [bM (by simp),bM (by simp),qe (by omega) (by omega) (by omega),bC,qe (by omega) (by omega) (by omega),bC]
     show gU p _ ((iv (oI a f1) (1:Int) L).bind _) f0 f1 _
     rw [sj ha (by omega),bC]
     show gU p _ ((iv (oI b (q0 a 1 L f1)) (1:Int) R).bind _) f0 f1 _
     rw [sj hb (by omega),bC]
     have hs:=ha.send (way:=1) (cols:=L) (fs:=f1) (by omega)
     have hs2:=hb.send (way:=1) (cols:=R) (fs:=q0 a 1 L f1) (by omega)
     have hG2:=(hG.send ha 1 L).congr fun t=>by rw [←oU a 1 L f1 t]
     have hG3:=((hG2.swap.send hb 1 R).congr fun t=>by rw [←oU b 1 R (q0 a 1 L f1) t]).swap
     exact jk hs hs2 (by rw [nF];omega) (by rw [nF];omega) hG3 (by omega) (by omega)
end
end Go.Proofs.YtnmjbolollcokaaGreatDoor

