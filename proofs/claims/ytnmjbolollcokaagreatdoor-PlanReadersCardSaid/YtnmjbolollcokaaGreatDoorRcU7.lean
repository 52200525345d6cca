/- cR of this claim: U7. -/
import Derived.Test.YtnmjbolollcokaaGreatDoorRcU6
set_option linter.all false
namespace Go.Proofs.YtnmjbolollcokaaGreatDoor
open Go

theorem wj(s2:List Int): ∀(l:List Int) (i:Nat),i+l.length=s2.length→eT s2 l i=some (decide (l=s2.drop i))
 |[],i,h=>by
  unfold eT
  rw [zD (by simp at h;omega)];rfl
 |e::tl,i,h=>by
  have hi:i<s2.length:=by simp at h;omega
  unfold eT
  rw [cg,pE hi,be,pW hi]
  by_cases he:e=s2[i]
  ·rw [bg (by simp [he]),wj s2 tl (i+1) (by simp at h;omega)]
   congr 1
   rw [BJ]
   exact⟨fun h=>by rw [he,h],fun h=>by injection h⟩
  ·rw [bm (by simpa using he),my]
   intro h
   injection h with h1 _
   exact he h1
theorem wk(a b:List Int):ed a b=some (decide (a=b)):=by
 unfold ed
 by_cases h:a.length=b.length
 ·rw [bg (by simp [h]),wj b a 0 (by omega),qr]
 ·rw [bm (by simp;omega),my (fun e=>h (by rw [e]))]
theorem xh(s2:List Int): ∀(l:List Int) (i:Nat),i+l.length=s2.length→jR s2 l i=some (decide (l=s2.drop i))
 |[],i,h=>by
  unfold jR
  rw [zD (by simp at h;omega)];rfl
 |e::tl,i,h=>by
  have hi:i<s2.length:=by simp at h;omega
  unfold jR
  rw [cg,pE hi,be,pW hi]
  by_cases he:e=s2[i]
  ·rw [bg (by simp [he]),xh s2 tl (i+1) (by simp at h;omega)]
   congr 1
   rw [BJ]
   exact⟨fun h=>by rw [he,h],fun h=>by injection h⟩
  ·rw [bm (by simpa using he),my]
   intro h
   injection h with h1 _
   exact he h1
theorem CM(a b:List Int):ia a b=some (decide (a=b)):=by
 unfold ia
 by_cases h:a.length=b.length
 ·rw [bg (by simp [h]),xh b a 0 (by omega),qr]
 ·rw [bm (by simp;omega),my (fun e=>h (by rw [e]))]
section
variable{p:ay}{n:M}{kinds:List Int}{f0 f1:List bk}
theorem Lr{a:aG}(ha:rP a)(hl:a.nodes.length≤500)(hf:f1.length≤500)(hn:n.Op=8)(hk:kinds.length≤16)(hG:iX f0 f1 (ev a.nodes))(c:bG)(b:bS):
  fJ p (gR (oU p f1) n kinds [a]) (dd n kinds c (mn a f1) b) f0 f1 a.nodes.length:=by
 have er:dd n kinds c (mn a f1) b=((eX n kinds (mn a f1)).bind fun r13=>if decide (a.at_=2)then(some (bS.mk r13.Frags r13.Nodes r13.Kinds r13.One ([])))else((dC (bS.mk r13.Frags r13.Nodes r13.Kinds r13.One ([]))).bind fun r14=>(eX n kinds r14).bind fun r15=>some r15)):=by
  unfold dd
  rw [bg (by simp [hn]),bg (by simp [hn]),bg (by simp [hn]),bg (by simp [hn]),bg (by simp [hn]),bg (by simp [hn]),bg (by simp [hn])]
  rfl
 have ec:gR (oU p f1) n kinds [a]=((dH n kinds ([a])).bind fun r=>if(r.at_==(2:Int))then(some (r,oU p f1))else((cU (oU p f1) r).bind fun r1=>(dH n kinds ([r1.1])).bind fun r2=>some (r2,r1.2))):=rfl
 have ho:rP (gW (over1 n kinds a) []):=ha.over1 (by omega) (by simp) (by omega)
 rw [er,ec,kh n kinds ha,lN n kinds ha,be,be]
 by_cases h2:a.at_=2
 ·rw [bm (by show(a.at_==(2:Int))=true;simpa using h2),bm (by simpa using h2)]
  exact cx (n:=n) (h:=[]) ha hl (by omega) hk (by simp) hG rfl rfl (dN _) ⟨dN _,by omega⟩
 ·rw [bg (by show¬(a.at_==(2:Int))=true;simpa using h2),bg (by simpa using h2)]
  show fJ p ((cU (oU p f1) (gW (over1 n kinds a) [])).bind _) ((dC (mn (gW (over1 n kinds a) []) f1)).bind _) f0 f1 _
  rw [tI (by have:=ho.kinds;omega) (by omega),ww ho (by omega),be,be]
  have h2' : ¬(gW (over1 n kinds a) []).at_=2:=h2
  have e1:qN (gW (over1 n kinds a) []) f1=p7 (gW (over1 n kinds a) []) 3 [] f1:=bg h2'
  have e2:nX (gW (over1 n kinds a) []) f1=oY (gW (over1 n kinds a) []) 3 [] f1:=bg h2'
  rw [e1,e2]
  have hs:=ho.send (way:=3) (cols:=[]) (fs:=f1) (by simp)
  have hG1:iX f0 f1 (ev (gW (over1 n kinds a) []).nodes):=hG.congr fun t=>(xr (by omega) t).symm
  have hG2:=(hG1.lone.send ho.at_ 3 []).lone'
  have hp:=ha.pos
  have hl2:=nL (gW (over1 n kinds a) []) 3 [] f1
  exact cx (n:=n) (h:=[]) hs (by rw [lz];omega) (by omega) hk (by simp) (hG2.congr fun t=>(mC _ 3 _ f1 t).symm) (by rw [kh n kinds hs];rfl) (by rw [lN n kinds hs];rfl) (by rw [lz];exact hp) (by omega)
def C3(nk:Nat)(aggs:List gF)(i:Nat)(k:Int):Int:=if nk≤i∧(aggs[i-nk]?).map gF.Tag=some 3 then 4 else k
def gw(nk:Nat)(aggs:List gF):List Int→Nat→List Int
 |[],_=>[]
 |k::ks,i=>C3 nk aggs i k::gw nk aggs ks (i+1)
theorem DC(nk:Nat)(aggs:List gF): ∀(ks:List Int) (i:Nat),(gw nk aggs ks i).length=ks.length
 |[],_=>rfl
 |k::ks,i=>by unfold gw;rw [gJ,gJ,DC nk aggs ks (i+1)]
theorem yp(nk:Nat)(aggs:List gF)(b:List Int): ∀(a:List Int) (i:Nat),gw nk aggs (a++b) i=gw nk aggs a i++gw nk aggs b (i+a.length)
 |[],i=>rfl
 |k::a,i=>by
  show C3 nk aggs i k::gw nk aggs (a++b) (i+1)=(C3 nk aggs i k::gw nk aggs a (i+1))++gw nk aggs b (i+(k::a).length)
  rw [yp nk aggs b a (i+1),show i+1+a.length=i+(k::a).length by simp;omega]
  rfl
theorem BW(nk:Nat)(aggs:List gF): ∀(ks:List Int) (i:Nat),i+ks.length≤nk→gw nk aggs ks i=ks
 |[],_,_=>rfl
 |k::ks,i,h=>by
  rw [gJ]at h
  unfold gw C3
  rw [bg (by omega),BW nk aggs ks (i+1) (by omega)]
theorem Cm: ∀(tl:List gF) (j:Nat) (pre rest:List Int),n.Aggs.drop j=tl→pre.length=n.Keys.length+j→rest.length=tl.length→pre.length+tl.length≤10000→
  iz n tl j (pre++rest)=some (pre++gw n.Keys.length n.Aggs rest (n.Keys.length+j))
 |[],j,pre,rest,_,_,hr,_=>by
  have:rest=[]:=tp hr
  subst this
  rfl
 |g::tl,j,pre,r::rest,hd,hp,hr,h1=>by
  rw [gJ]at h1
  have hk:j<n.Aggs.length:=by
   rcases jM j n.Aggs.length with h|h
   ·exact h
   ·rw [zD h]at hd;cases hd
  rw [pW hk]at hd
  injection hd with hn' hd
  have hg:n.Aggs[j]? =some g:=by rw [pE hk,hn']
  have ih:=fun v:Int=>Cm tl (j+1) (pre++[v]) rest hd (by simp;omega) (by simpa using hr)
  have e:IntKind.i64.wrap ((n.Keys.length:Int)+(j:Int))=(pre.length:Int):=by rw [bP (by omega) (by omega)];omega
  have hv:C3 n.Keys.length n.Aggs (n.Keys.length+j) r=if g.Tag=3 then 4 else r:=by
   unfold C3
   rw [Nat.add_sub_cancel_left,hg]
   simp
  unfold iz gw
  rw [hv,e]
  by_cases h3:g.Tag=3
  ·rw [bm (by simpa using h3),bm h3,cg,o5 (dN _),tm]
   show iz n tl (j+1) ((pre++r::rest).set (pre.length:Int).toNat 4)=_
   rw [wN,Ge _ _ (dN _),tm,List.set_cons_zero,←JN,←n6,ih 4 (by simp;omega),n6]
   rfl
  ·rw [bg (by simpa using h3),bg h3,←JN,←n6,ih r (by simp;omega),n6]
   rfl
theorem IR(hk:kinds.length=n.Keys.length+n.Aggs.length)(hl:kinds.length≤1000):oA n kinds=some (gw n.Keys.length n.Aggs kinds 0):=by
 unfold oA
 rw [wl _ (by omega),be]
 have:=Cm (n:=n) n.Aggs 0 (kinds.take n.Keys.length) (kinds.drop n.Keys.length) (by simp) (by simp;omega) (by simp;omega) (by simp;omega)
 rw [sS]at this
 rw [this,zx]
 have h2:=yp n.Keys.length n.Aggs (kinds.drop n.Keys.length) (kinds.take n.Keys.length) 0
 rw [sS,BW n.Keys.length n.Aggs (kinds.take n.Keys.length) 0 (by simp;omega)]at h2
 rw [h2]
 congr 3
 simp;omega
theorem Az{s:bS}(hA:n.Aggs.length≤1000)(hK:n.Keys.length≤1000): ∀(ks:List Int) (i:Nat) (under:List Int),i+ks.length=n.Keys.length+n.Aggs.length→under.length≤i→
  gB n kinds s ks i under=gB n kinds s [] 0 (under++gw n.Keys.length n.Aggs ks i)
 |[],i,under,_,_=>by unfold gw;rw [yb];rfl
 |k::ks,i,under,hi,hu=>by
  rw [gJ]at hi
  have hk2: ∀v:Int,oo (gB n kinds s ks) i under v=gB n kinds s ks (i+1) (under++[v]):=fun v=>by
   unfold oo
   rw [ca (by simp;omega),be]
  have ih:=fun v:Int=>Az (s:=s) hA hK ks (i+1) (under++[v]) (by omega) (by simp;omega)
  conv=>lhs;unfold gB
  unfold gw
  by_cases hn:n.Keys.length≤i
  ·have hlt:i-n.Keys.length<n.Aggs.length:=by omega
   have e:IntKind.i64.wrap ((i:Int)-(n.Keys.length:Int))=((i-n.Keys.length:Nat):Int):=by rw [bP (by omega) (by omega)];omega
   rw [bm (by simp;omega),e,cg,pE hlt,be,be]
   have hv:C3 n.Keys.length n.Aggs i k=if(n.Aggs[i-n.Keys.length]).Tag=3 then 4 else k:=by
    unfold C3
    rw [pE hlt]
    simp [hn]
   rw [hv]
   by_cases h3:(n.Aggs[i-n.Keys.length]).Tag=3
   ·rw [bm (by simpa using h3),bm h3,hk2,ih,n6];rfl
   ·rw [bg (by simpa using h3),bg h3,hk2,ih,n6];rfl
  ·have hv:C3 n.Keys.length n.Aggs i k=k:=by unfold C3;rw [bg (by omega)]
   rw [bg (by simp;omega),be,bg (by simp),hv,hk2,ih,n6];rfl
def uX(n:M)(done:List gF):M:=⟨11,0,0,0,[],false,⟨[]⟩,nt n.Keys.length,done,[],[],0⟩
def zk(l:List gF):List gF:=l.map fun g=>⟨g.Tag,⟨[]⟩⟩
theorem AL(r4:List Int)(r7:aG×ay): ∀(tl:List gF) (done:List gF),done.length+tl.length≤1000→dP kinds r4 r7 tl (uX n done)=dP kinds r4 r7 [] (uX n (done++zk tl))
 |[],done,_=>by unfold zk;simp
 |g::tl,done,h=>by
  rw [gJ]at h
  conv=>lhs;unfold dP
  show((iC done ([(⟨g.Tag,(⟨[]⟩:aT)⟩:gF)])).bind _)=_
  rw [ca (by simp;omega),be]
  show dP kinds r4 r7 tl (uX n (done++[⟨g.Tag,⟨[]⟩⟩]))=_
  rw [AL r4 r7 tl _ (by simp;omega),n6]
  rfl
theorem Ay{s:bS}{under:List Int}(hA:n.Aggs.length≤1000): ∀(tl:List gF) (i fu:Nat) (done:List gF),n.Aggs.drop i=tl→tl.length<fu→done.length≤i→
  jo n kinds s under fu (i:Int) (uX n done)=(if((n.Keys.length:Int)==(0:Int))then(hZ n kinds s under (uX n (done++zk tl)) (3:Int))else(hZ n kinds s under (uX n (done++zk tl)) (1:Int)))
 |tl,i,0,_,_,h,_=>by omega
 |[],i,fu+1,done,hd,_,_=>by
  have hk:n.Aggs.length≤i:=ye.1 hd
  unfold jo
  rw [bg (by simp;omega)]
  simp [zk]
 |g::tl,i,fu+1,done,hd,hf,hdl=>by
  rw [gJ]at hf
  have hk:i<n.Aggs.length:=by
   rcases jM i n.Aggs.length with h|h
   ·exact h
   ·rw [zD h]at hd;cases hd
  rw [pW hk]at hd
  injection hd with hn' hd
  unfold jo
  rw [bm (by simp;omega),cg,pE hk,be,hn']
  show((iC done ([(⟨g.Tag,(⟨[]⟩:aT)⟩:gF)])).bind _)=_
  rw [ca (by simp;omega),be,bP (by omega) (by omega)]
  have:=Ay (s:=s) (under:=under) hA tl (i+1) fu (done++[⟨g.Tag,⟨[]⟩⟩]) hd (by omega) (by simp;omega)
  rw [show((i+1:Nat):Int)=(i:Int)+1 by omega]at this
  refine Eq.trans this ?_
  rw [n6]
  rfl
theorem LF{a:aG}(ha:rP a)(hl:a.nodes.length≤500)(hf:f1.length≤500)(hn:n.Op=4)(hk:kinds.length≤16)(hkl:kinds.length=n.Keys.length+n.Aggs.length)(hG:iX f0 f1 (ev a.nodes))(c:bG)(b:bS):
  fJ p (gS (oU p f1) n kinds [a]) (dd n kinds c (mn a f1) b) f0 f1 a.nodes.length:=by
 have er:dd n kinds c (mn a f1) b=vy n kinds (mn a f1):=by
  unfold dd
  rw [bg (by simp [hn]),bg (by simp [hn]),bg (by simp [hn]),bm (by simp [hn]),Option.bind_fun_some]
 rw [er]
 unfold gS vy
 rw [show cK [a] (0:Int)=some a from rfl,be]
 by_cases h2:a.at_=2
 ·rw [bm (by simpa using h2),bm (by show decide (a.at_=2)=true;simpa using h2)]
  exact cx (n:=n) (h:=[]) ha hl (by omega) hk (by simp) hG (by rw [kh n kinds ha];rfl) (by rw [lN n kinds ha];rfl) (dN _) ⟨dN _,by omega⟩
 ·rw [bg (by simpa using h2),bg (by show¬decide (a.at_=2)=true;simpa using h2)]
  obtain⟨o,ok,h1,h1',h3,_⟩:=ss a.hashed n.Keys (by have:=ha.hashed;omega)
  rw [h1,be]
  show fJ p _ ((hJ a.hashed n.Keys).bind _) f0 f1 _
  rw [h1',be]
  cases ok with
  |true=>
   rw [bm rfl,bm rfl]
   exact cx (n:=n) (h:=o) ha hl (by omega) hk (by have:=ha.hashed;omega) hG (by rw [kh n kinds ha];rfl) (by rw [lN n kinds ha];rfl) (dN _) ⟨dN _,by omega⟩
  |false=>
   rw [bg (by simp),bg (by simp),ER _ (by omega),be,Az (by omega) (by omega) kinds 0 [] (by omega) (by simp),iv]
   unfold gB
   rw [xQ _ (by omega),be]
   have hl2:=Ay (n:=n) (kinds:=kinds) (s:=mn a f1) (under:=gw n.Keys.length n.Aggs kinds 0) (by omega) n.Aggs 0 dj [] (by simp) (iK (by omega)) (by simp)
   rw [Int.ofNat_zero,iv]at hl2
   have hlen:(gw n.Keys.length n.Aggs kinds 0).length=kinds.length:=DC _ _ _ _
   -- one way
   have key: ∀way:Int,fJ p (gN (oU p f1) n kinds a (nt n.Keys.length) way) (hZ n kinds (mn a f1) (gw n.Keys.length n.Aggs kinds 0) (uX n (zk n.Aggs)) way) f0 f1 a.nodes.length:=by
    intro way
    have n10:(M.mk (10:Int) n.A n.B n.Table n.Kinds n.Left n.Cond n.Keys n.Aggs n.Items n.Order n.Limit).Op≠9:=by show(10:Int)≠9;decide
    unfold gN hZ
    rw [IR (n:=M.mk (10:Int) n.A n.B n.Table n.Kinds n.Left n.Cond n.Keys n.Aggs n.Items n.Order n.Limit) hkl (by omega),be,kh _ _ ha,be,lN _ _ ha,be,xQ _ (by omega),be]
    have ho:rP (gW (over1 (M.mk (10:Int) n.A n.B n.Table n.Kinds n.Left n.Cond n.Keys n.Aggs n.Items n.Order n.Limit) (gw n.Keys.length n.Aggs kinds 0) a) a.hashed):=ha.over1 (by omega) ha.hashed (by omega)
    have hs:=ho.send (way:=way) (cols:=nt n.Keys.length) (fs:=f1) (by rw [kL];omega)
    have hG1:=hG.congr fun t=>(xr (kinds:=gw n.Keys.length n.Aggs kinds 0) (h:=a.hashed) (s:=a) n10 t).symm
    have hG2:=(hG1.lone.send ho.at_ way (nt n.Keys.length)).lone'
    have hc:=nK (p:=p) (s:=over1 (M.mk (10:Int) n.A n.B n.Table n.Kinds n.Left n.Cond n.Keys n.Aggs n.Items n.Order n.Limit) (gw n.Keys.length n.Aggs kinds 0) a) (way:=way) (cols:=nt n.Keys.length) (fs:=f1) (by rw [kL];omega) (by have:=ho.kinds;exact kZ this (by omega)) (by omega)
    rw [hc,be,p6 ho (by omega),be]
    have hp:=ha.pos
    have hl3:=nL (gW (over1 (M.mk (10:Int) n.A n.B n.Table n.Kinds n.Left n.Cond n.Keys n.Aggs n.Items n.Order n.Limit) (gw n.Keys.length n.Aggs kinds 0) a) a.hashed) way (nt n.Keys.length) f1
    refine cx (n:=uX n (zk n.Aggs)) (kinds:=kinds) (h:=nt n.Keys.length) hs (by rw [lz];omega) (by show(11:Int)≠9;decide) hk (by rw [kL];omega) (hG2.congr fun t=>(mC _ way _ f1 t).symm) ?_ ?_ (by rw [lz];exact hp) (by omega)
    ·have:=AL (n:=n) (kinds:=kinds) (nt n.Keys.length) (p7 (gW (over1 (M.mk (10:Int) n.A n.B n.Table n.Kinds n.Left n.Cond n.Keys n.Aggs n.Items n.Order n.Limit) (gw n.Keys.length n.Aggs kinds 0) a) a.hashed) way (nt n.Keys.length) f1,oU p (oY (gW (over1 (M.mk (10:Int) n.A n.B n.Table n.Kinds n.Left n.Cond n.Keys n.Aggs n.Items n.Order n.Limit) (gw n.Keys.length n.Aggs kinds 0) a) a.hashed) way (nt n.Keys.length) f1)) n.Aggs [] (by simp;omega)
     refine Eq.trans this ?_
     rw [iv]
     unfold dP
     rw [kh _ _ hs]
     rfl
    ·rw [lN _ _ hs]
     rfl
   by_cases h0:n.Keys.length=0
   ·rw [bm (by rw [kL];simpa using h0)]
    have e:jo n kinds (mn a f1) (gw n.Keys.length n.Aggs kinds 0) dj (0:Int) (uX n [])=hZ n kinds (mn a f1) (gw n.Keys.length n.Aggs kinds 0) (uX n (zk n.Aggs)) (3:Int):=by
     rw [hl2,bm (by simpa using h0)]
    have:=key 3
    rw [←e]at this
    exact this
   ·rw [bg (by rw [kL];simpa using h0)]
    have e:jo n kinds (mn a f1) (gw n.Keys.length n.Aggs kinds 0) dj (0:Int) (uX n [])=hZ n kinds (mn a f1) (gw n.Keys.length n.Aggs kinds 0) (uX n (zk n.Aggs)) (1:Int):=by
     rw [hl2,bg (by simpa using h0)]
    have:=key 1
    rw [←e]at this
    exact this
theorem s9{a b:aG}(ha:rP a)(hb:rP b)(hl:a.nodes.length+b.nodes.length≤900)(hn:n.Op≠9)(hk:kinds.length≤16){h:List Int}(hh:h.length≤100)(hG:iX f0 f1 (fun t=>ev a.nodes t∨ev b.nodes t)){code:Option (aG×ay)}{ref:Option bS}(e1:code=some (gW (over2 n kinds a b) h,oU p f1))(e2:ref=some (mn (gW (over2 n kinds a b) h) f1)){m:Nat}(hm:a.nodes.length+b.nodes.length≤m){fx:List bk}(hx:fx.length≤f1.length∧f1.length≤fx.length+2):fJ p code ref f0 fx m:=
 ⟨_,f1,e1,e2,ha.over2 hb (by omega) hh (by omega),hG.congr fun t=>(Ir hn t).symm,by rw [Lp];omega,hx.1,hx.2⟩
theorem BV(n:M)(kinds:List Int){a b:aG}(ha:rP a)(hb:rP b)(hl:a.nodes.length+b.nodes.length≤900)(hn:n.Op≠9)(hk:kinds.length≤16){fa:List bk}(hG:iX f0 f1 (fun t=>ev a.nodes t∨ev b.nodes t)){m:Nat}(hm:a.nodes.length+b.nodes.length≤m){fx:List bk}(hx:fx.length≤f1.length∧f1.length≤fx.length+2):
  fJ p (eK n kinds a b (oU p f1)) (iY n kinds (mn a fa) (mn b f1)) f0 fx m:=by
 unfold eK iY
 rw [uz n kinds ha hb,zj n kinds ha hb,be,be]
 have hE:ed a.hashed b.hashed=some (decide (a.hashed=b.hashed)):=wk _ _
 have hS:ia a.hashed b.hashed=some (decide (a.hashed=b.hashed)):=CM _ _
 by_cases h1:a.at_=1
 ·have h2: ¬a.at_=2:=by omega
  rw [bm (by simpa using h1),hE]
  show fJ p _ ((if(!(decide (a.at_=2)))then((ia a.hashed b.hashed).bind fun r10=>some r10)else some false).bind _) f0 fx m
  rw [bm (by simp [h2]),hS]
  simp only [be]
  by_cases hh:a.hashed=b.hashed
  ·rw [bm (by simpa using hh),bm (by simpa using hh)]
   exact s9 (h:=a.hashed) ha hb hl hn hk ha.hashed hG rfl rfl hm hx
  ·rw [bg (by simpa using hh),bg (by simpa using hh)]
   exact s9 (h:=[]) ha hb hl hn hk (by simp) hG rfl rfl hm hx
 ·have h2:a.at_=2:=by have:=ha.at_;omega
  rw [bg (by simpa using h1)]
  show fJ p _ ((if(!(decide (a.at_=2)))then((ia a.hashed b.hashed).bind fun r10=>some r10)else some false).bind _) f0 fx m
  rw [bg (by simp [h2])]
  exact s9 (h:=[]) ha hb hl hn hk (by simp) hG rfl rfl hm hx
theorem KX{a b:aG}(ha:rP a)(hb:rP b)(hl:a.nodes.length+b.nodes.length≤500)(hf:f1.length≤500)(hn:n.Op=7)(hk:kinds.length≤16){fa:List bk}(hG:iX f0 f1 (fun t=>ev a.nodes t∨ev b.nodes t))(c:bG):
  fJ p (gQ (oU p f1) n kinds [a,b]) (dd n kinds c (mn a fa) (mn b f1)) f0 f1 (a.nodes.length+b.nodes.length):=by
 have er:dd n kinds c (mn a fa) (mn b f1)=(if(decide (a.at_=2) !=decide (b.at_=2))then(if(!(decide (a.at_=2)))then((dC (mn a f1)).bind fun r11=>iY n kinds r11 (bS.mk r11.Frags b.nodes b.kinds (decide (b.at_=2)) b.hashed))else((dC (mn b f1)).bind fun r12=>iY n kinds (mn a fa) r12))else(iY n kinds (mn a fa) (mn b f1))):=by
  unfold dd
  rw [bg (by simp [hn]),bg (by simp [hn]),bg (by simp [hn]),bg (by simp [hn]),bg (by simp [hn]),bg (by simp [hn]),bm (by simp [hn])]
  rfl
 have ec:gQ (oU p f1) n kinds [a,b]=(if(a.at_ !=b.at_)then((cU (oU p f1) a).bind fun r2=>(cU r2.2 b).bind fun r3=>eK n kinds r2.1 r3.1 r3.2)else(eK n kinds a b (oU p f1))):=rfl
 rw [er,ec]
 have h9:n.Op≠9:=by omega
 have oa:=ha.at_
 have ob:=hb.at_
 by_cases hne:a.at_=b.at_
 ·rw [bg (by simpa using hne),bg (by rw [hne];simp)]
  exact BV n kinds ha hb (by omega) h9 hk hG (dN _) ⟨dN _,by omega⟩
 ·have l1:=vK a f1
  have l2:=vK b (nX a f1)
  rw [bm (by simpa using hne),tI (by have:=ha.kinds;omega) (by omega),be,tI (by have:=hb.kinds;omega) (by omega),be]
  have hGa:=hG.one ha.at_
  have hGb:=(hGa.swap.one hb.at_).swap
  have na:=Bt ha f1
  have nb:=Bt hb (nX a f1)
  by_cases h2:a.at_=2
  ·have h3: ¬b.at_=2:=by omega
   have ea:qN a f1=a:=bm h2
   have eF:nX a f1=f1:=bm h2
   rw [bm (by simp [h2,h3]),bg (by simp [h2]),ww hb (by omega),be]
   rw [ea,eF]at hGb ⊢
   rw [eF]at nb l2
   exact BV n kinds ha hb.one (by omega) h9 hk hGb (by omega) (by omega)
  ·have h3:b.at_=2:=by omega
   have eb:qN b (nX a f1)=b:=bm h3
   have eF:nX b (nX a f1)=nX a f1:=bm h3
   rw [bm (by simp [h2,h3]),bm (by simp [h2]),ww ha (by omega),be]
   rw [eb,eF]at hGb ⊢
   exact BV n kinds ha.one hb (by omega) h9 hk hGb (by omega) (by omega)
theorem Nv{a b:aG}(ha:rP a)(hb:rP b)(hl:a.nodes.length+b.nodes.length≤500)(hf:f1.length≤500)(hn:n.Op=2)(hk:kinds.length≤16)(hr:fv n.Cond.Nodes=true){fa:List bk}(hG:iX f0 f1 (fun t=>ev a.nodes t∨ev b.nodes t))(c:bG):
  fJ p (ik (oU p f1) n kinds [a,b]) (dd n kinds c (mn a fa) (mn b f1)) f0 f1 (a.nodes.length+b.nodes.length):=by
 have er:dd n kinds c (mn a fa) (mn b f1)=xA n kinds (mn a fa) (mn b f1):=by
  unfold dd
  rw [bg (by simp [hn]),bm (by simp [hn]),Option.bind_fun_some]
 rw [er]
 unfold ik xA
 rw [show cK [a,b] (0:Int)=some a from rfl,show cK [a,b] (1:Int)=some b from rfl,be,be]
 have h9:n.Op≠9:=by omega
 have oa:=ha.at_
 have ob:=hb.at_
 have pa:=ha.pos
 have pb:=hb.pos
 have ka:=ha.kinds
 have kb:=hb.kinds
 have hha:=ha.hashed
 have hhb:=hb.hashed
 by_cases h1:a.at_=2∨b.at_=2
 ·rw [bm (by simpa using h1),bm (by show(decide (a.at_=2)||decide (b.at_=2))=true;simpa using h1)]
  have l1:=vK a f1
  have l2:=vK b (nX a f1)
  have hGb:=((hG.one ha.at_).swap.one hb.at_).swap
  have na:=Bt ha f1
  have nb:=Bt hb (nX a f1)
  rw [tI (by omega) (by omega),be,tI (by omega) (by omega),be,uz n kinds ha.one hb.one]
  have k1: ∀fz,pH n kinds (mn (qN a f1) fz) (mn b (nX a f1))=some (mn (gW (over2 n kinds (qN a f1) (qN b (nX a f1))) []) (nX b (nX a f1))):=fun fz=>by
   unfold pH
   rw [ww hb (by omega),be,zj n kinds ha.one hb.one,be]
   have e:(true:Bool)=decide ((qN a f1).at_=2):=by rw [RJ];rfl
   rw [e]
   rfl
  refine s9 (h:=[]) ha.one hb.one (by omega) h9 hk (by simp) hGb rfl ?_ (by omega) (by omega)
  by_cases h2:a.at_=2
  ·have ea:qN a f1=a:=bm h2
   have eF:nX a f1=f1:=bm h2
   rw [bg (by show¬(!decide (a.at_=2))=true;simp [h2])]
   have:=k1 fa
   rw [ea,eF]at this ⊢
   exact this
  ·rw [bm (by show(!decide (a.at_=2))=true;simp [h2])]
   show((dC (mn a f1)).bind _)=_
   rw [ww ha (by omega),be]
   exact k1 _
 ·rw [bg (by simpa using h1),bg (by show¬(decide (a.at_=2)||decide (b.at_=2))=true;simpa using h1)]
  obtain⟨L,R,p1,p2,p3,p4⟩:=IU n.Cond (a.kinds.length:Int) hr
  rw [p1,be]
  show fJ p _ ((sk n.Cond (a.kinds.length:Int)).bind _) f0 f1 _
  rw [p2,be]
  dsimp only
  by_cases h0:L.length=0
  ·rw [bm (by simpa using h0),bm (by simpa using h0),nK (by simp) (by omega) (by omega),be,p6 hb (by omega),be]
   have hs:=hb.send (way:=2) (cols:=[]) (fs:=f1) (by simp)
   have hG2:=((hG.swap.send hb.at_ 2 []).congr fun t=>by rw [←mC b 2 [] f1 t]).swap
   have l1:=nL b 2 [] f1
   exact s9 (h:=a.hashed) ha hs (by rw [lz];omega) h9 hk hha hG2 (by rw [uz n kinds ha hs];rfl) (by rw [zj n kinds ha hs];rfl) (by rw [lz];omega) (by omega)
  ·rw [bg (by simpa using h0),bg (by simpa using h0)]
   -- the node over two sides
   have jk: ∀{x y:aG} {fz fw:List bk},rP x→rP y→x.nodes.length≤a.nodes.length→y.nodes.length≤b.nodes.length→iX f0 fz (fun t=>ev x.nodes t∨ev y.nodes t)→f1.length≤fz.length→fz.length≤f1.length+2→fJ p (fc n kinds x y (oU p fz)) (lK n kinds (mn x fw) (mn y fz)) f0 f1 (a.nodes.length+b.nodes.length):=by
    intro x y fz fw hx hy hxl hyl hG' hz1 hz2
    unfold fc lK
    rw [uz n kinds hx hy,zj n kinds hx hy,be,be]
    exact s9 (h:=x.hashed) hx hy (by omega) h9 hk hx.hashed hG' rfl rfl (by omega) ⟨hz1,hz2⟩
   obtain⟨o,ok,q1,q2,q3,q4⟩:=ss a.hashed L (by omega)
   obtain⟨o2,ok2,w1,w2,w3,w4⟩:=ss b.hashed R (by omega)
   have g1:hU a.hashed L R=some (Bl R o,ok):=by
    unfold hU
    rw [q1,be,vI R (o,ok) o [] (by simp;omega) (fun k hk=>by have:=q4 k hk;omega),iv]
   have g2:hU b.hashed R L=some (Bl L o2,ok2):=by
    unfold hU
    rw [w1,be,vI L (o2,ok2) o2 [] (by simp;omega) (fun k hk=>by have:=w4 k hk;omega),iv]
   have al:(Bl R o).length≤100:=by simp [Bl];omega
   have al2:(Bl L o2).length≤100:=by simp [Bl];omega
   show fJ p ((hU a.hashed L R).bind _) ((hJ a.hashed L).bind _) f0 f1 _
   rw [g1,q2,be,be]
   dsimp only
   cases ok with
   |true=>
    have hat:=QV R o (by omega) (fun k hk=>by have:=q4 k hk;omega)
    rw [bm rfl,bm rfl]
    show fJ p ((ed b.hashed (Bl R o)).bind _) ((tG R o).bind _) f0 f1 _
    rw [wk,hat,be,be]
    show fJ p _ ((ia b.hashed (Bl R o)).bind _) f0 f1 _
    rw [CM _ _,be]
    by_cases he:b.hashed=Bl R o
    ·rw [bg (by simp [he]),bg (by simp [he])]
     exact jk ha hb (dN _) (dN _) hG (dN _) (by omega)
    ·rw [bm (by simp [he]),bm (by simp [he]),nK (by omega) (by omega) (by omega),be]
     rw [be,p6 hb (by omega),be]
     have hs:=hb.send (way:=1) (cols:=Bl R o) (fs:=f1) al
     have hG2:=((hG.swap.send hb.at_ 1 (Bl R o)).congr fun t=>by rw [←mC b 1 (Bl R o) f1 t]).swap
     have l1:=nL b 1 (Bl R o) f1
     exact jk ha hs (dN _) (by rw [lz];omega) hG2 (by omega) (by omega)
   |false=>
    rw [bg (by simp),bg (by simp)]
    show fJ p ((hU b.hashed R L).bind _) ((hJ b.hashed R).bind _) f0 f1 _
    rw [g2,w2,be,be]
    dsimp only
    cases ok2 with
    |true=>
     rw [bm rfl,bm rfl,nK (by omega) (by omega) (by omega),be]
     show fJ p _ ((tG L o2).bind _) f0 f1 _
     rw [QV L o2 (by omega) (fun k hk=>by have:=w4 k hk;omega),be]
     show fJ p _ ((gC (mn a f1) (1:Int) (Bl L o2)).bind _) f0 f1 _
     rw [p6 ha (by omega),be]
     have hs:=ha.send (way:=1) (cols:=Bl L o2) (fs:=f1) al2
     have hG2:=(hG.send ha.at_ 1 (Bl L o2)).congr fun t=>by rw [←mC a 1 (Bl L o2) f1 t]
     have l1:=nL a 1 (Bl L o2) f1
     exact jk hs hb (by rw [lz];omega) (dN _) hG2 (by omega) (by omega)
    |false=>
     have l1:=nL a 1 L f1
     have l2:=nL b 1 R (oY a 1 L f1)
     rw [bg (by simp),bg (by simp),nK (by omega) (by omega) (by omega),be,nK (by omega) (by omega) (by omega),be]
     show fJ p _ ((gC (mn a f1) (1:Int) L).bind _) f0 f1 _
     rw [p6 ha (by omega),be]
     show fJ p _ ((gC (mn b (oY a 1 L f1)) (1:Int) R).bind _) f0 f1 _
     rw [p6 hb (by omega),be]
     have hs:=ha.send (way:=1) (cols:=L) (fs:=f1) (by omega)
     have hs2:=hb.send (way:=1) (cols:=R) (fs:=oY a 1 L f1) (by omega)
     have hG2:=(hG.send ha.at_ 1 L).congr fun t=>by rw [←mC a 1 L f1 t]
     have hG3:=((hG2.swap.send hb.at_ 1 R).congr fun t=>by rw [←mC b 1 R (oY a 1 L f1) t]).swap
     exact jk hs hs2 (by rw [lz];omega) (by rw [lz];omega) hG3 (by omega) (by omega)
end
end Go.Proofs.YtnmjbolollcokaaGreatDoor

