/- di of this claim: Y12. -/
import Derived.Test.YtmogpgcfognefaaGreatDoorNdY11
import Derived.KernelRfl
set_option linter.all false
namespace Go.Proofs.YtmogpgcfognefaaGreatDoor
open Go

structure Kd(k:List Int):Prop where
 pos:1≤k.length
 le:k.length≤16
 vals: ∀x∈k,0≤x∧x≤4
def K3(k:List Int):Prop:= ∀x∈k,0≤x∧x≤3
theorem Kd.k3{k:List Int}(h:Kd k)(h4:(4:Int)∉k):K3 k:=fun x hx=>by
 have:=h.vals x hx
 have:x≠4:=fun e=>h4 (e▸hx)
 omega
theorem K3.four{k:List Int}(h:K3 k):(4:Int)∉k:=fun hx=>by have:=h 4 hx;omega
theorem KR{e:bp}{kinds:List Int}(h:(gV e kinds).2=0):0≤(gV e kinds).1∧(gV e kinds).1≤3:=by
 unfold gV at h ⊢
 by_cases h1:qZ e.Nodes=true
 ·by_cases h2:OB kinds=true
  ·by_cases h3:rk kinds.length e.Nodes=true
   ·simp only [h1,h2,h3,nt]at h ⊢
    cases ht:qX e.Nodes with
    |none=>simp [ht]at h
    |some t=>
     cases hk:kd kinds t with
     |none=>simp [ht,hk]at h
     |some k=>
      have:=KU (fun k hk=>Gg h2 hk) t (pR ht).1 hk
      simp only [ht,hk,bA]
      unfold k4 at this
      omega
   ·simp [h1,h2,h3]at h
  ·simp [h1,h2]at h
 ·simp [h1]at h
theorem XD{g:gm}{a:List Int}(h:(Ka g a).2=true):0≤(Ka g a).1∧(Ka g a).1≤3:=by
 obtain⟨e1,e2⟩:=DA g a
 rw [h]at e1
 rw [←e2 e1]
 unfold BS at e1 ⊢
 by_cases h1:g.Tag=1
 ·simp [h1]
 by_cases h3:g.Tag=3
 ·simp [h3]
 by_cases h45:g.Tag=4∨g.Tag=5
 ·rw [bI h1,bI h3,bQ h45]at e1 ⊢
  simp only [iz,uM]at e1
  exact KR e1.1.1
 ·rw [bI h1,bI h3,bI h45]
  simp
theorem U1{a b:List Int}(ha:K3 a)(hb:K3 b):K3 (List.zipWith FN a b):=by
 intro z hz
 obtain⟨i,hi,hzi⟩:=List.getElem_of_mem hz
 rw [List.getElem_zipWith]at hzi
 rw [←hzi]
 unfold FN
 split
 ·exact hb _ (yS _)
 ·exact ha _ (yS _)
theorem TP{a:List Int}{e:Int}(h:wH a e=false):ND a e∈a:=by
 simp [wH]at h
 unfold ND
 rw [nP (by omega)]
 exact yS _
theorem SK{n:aw}{a b k:List Int}(hn:jX n)(hop:EU n.Op=true)(ha:K3 a)(hb:K3 b)(hal:a.length≤16)(hbl:b.length≤16)(hpa:n.Op≠1→1≤a.length)(h:cX n a b=some (k,true)):K3 k∧1≤k.length:=by
 rcases q9 hop with h1|h1|h1|h1|h1|h1|h1|h1
 ·rw [TC hn h1]at h
  injection h with h
  injection h with h2 h3
  subst h2
  simp only [iz,m3,oU]at h3
  exact⟨fun x hx=>by have:=h3.1.1.1.1 x hx;omega,by omega⟩
 ·have hp:=hpa (by omega)
  rw [Vw h1 hal hbl]at h
  injection h with h
  injection h with h2 h3
  subst h2
  exact⟨fun x hx=>(yJ.1 hx).elim (ha x) (hb x),by simp;omega⟩
 ·rw [Vv h1]at h
  injection h with h
  injection h with h2 h3
  subst h2
  exact⟨ha,hpa (by omega)⟩
 ·rw [Vu hn h1]at h
  cases hany:n.Keys.any (wH a)with
  |true=>rw [hany,bQ rfl]at h;cases h
  |false=>
   rw [hany,bI (by simp)]at h
   injection h with h
   injection h with h2 h3
   subst h2
   simp only [iz,m3,oU]at h3
   refine⟨fun x hx=>?_,by simp;omega⟩
   rcases yJ.1 hx with hx|hx
   ·obtain⟨e,he,rfl⟩:=AU.1 hx
    exact ha _ (TP (by have:=List.any_eq_false.1 hany e he;simpa using this))
   ·obtain⟨g,hg,rfl⟩:=AU.1 hx
    exact XD (h3.1.1.1 g hg)
 ·rw [UQ hn h1]at h
  injection h with h
  injection h with h2 h3
  subst h2
  simp only [iz,m3,oU,uM]at h3
  refine⟨fun x hx=>?_,by simp;omega⟩
  obtain⟨e,he,rfl⟩:=AU.1 hx
  exact KR (h3.1.1 e he)
 ·rw [Vt h1]at h
  injection h with h
  injection h with h2 h3
  subst h2
  exact⟨ha,hpa (by omega)⟩
 ·have hp:=hpa (by omega)
  rw [Vs h1 hal]at h
  by_cases hl:a.length=b.length
  ·rw [bQ hl]at h
   injection h with h
   injection h with h2 h3
   subst h2
   exact⟨U1 ha hb,by simp;omega⟩
  ·rw [bI hl]at h;cases h
 ·rw [Vr hn h1]at h
  injection h with h
  injection h with h2 h3
  subst h2
  exact⟨ha,hpa (by omega)⟩
def la:aw:=⟨1,-1,-1,0,[1,2,3],false,⟨[]⟩,[],[],[],[],0⟩
def IV(x:Int):bp:=if 0<x then⟨[⟨2,-1,-1,x-1,⟨0,0,0,[]⟩⟩]⟩else⟨[⟨1,-1,-1,0,⟨0,0,0,[]⟩⟩]⟩
def j6(j:Nat)(k:List Int):aw:=⟨5,(j:Int),-1,0,[],false,⟨[]⟩,[],[],k.map IV,[],0⟩
theorem MX:gV (IV 0) [1,2,3]=(0,0):=by kernel_rfl
theorem MW:gV (IV 1) [1,2,3]=(1,0):=by kernel_rfl
theorem MU:gV (IV 2) [1,2,3]=(2,0):=by kernel_rfl
theorem MT:gV (IV 3) [1,2,3]=(3,0):=by kernel_rfl
theorem H0{x:Int}(h:0≤x∧x≤3):gV (IV x) [1,2,3]=(x,0):=by
 have:x=0∨x=1∨x=2∨x=3:=by omega
 rcases this with rfl|rfl|rfl|rfl
 ·exact MX
 ·exact MW
 ·exact MU
 ·exact MT
theorem Qt(x:Int):(IV x).Nodes.length≤5000:=by
 unfold IV
 split<;>(show 1≤5000;omega)
theorem Hr:jX la:=⟨by decide,by decide,by decide,by decide,by decide,by decide,fun g hg=>(by cases hg),fun e he=>(by cases he)⟩
theorem Hs(j:Nat){k:List Int}(hk:k.length≤16):jX (j6 j k):=
 ⟨by show 0≤5000;omega,by show 0≤5000;omega,by show 0≤5000;omega,by show 0≤5000;omega,by show(k.map IV).length≤5000;rw [Ex];omega,by show 0≤5000;omega,fun g hg=>(by cases hg),fun e he=>by
  obtain⟨x,_,rfl⟩:=AU.1 he
  exact Qt x⟩
theorem Cu{l:eC}{j:Nat}{n:aw}(hn:dC l.Nodes (j:Int)=some n)(hj:j<l.Nodes.length)(hl:l.Nodes.length≤1000)(fu:Nat):dV (fu+1) l (j:Int)=
  if n.Op=1 then(if n.A= -1∧n.B= -1 then some 1 else some 0)
  else if n.Op=2∨n.Op=7 then(if n.B=(j:Int)-1 then((dV fu) l n.B).bind (fun r2=>if((decide ((0:Int)<r2))&&(n.A==(IntKind.i64.wrap (n.B-r2))))then(((dV fu) l n.A).bind fun r3=>if(decide ((0:Int)<r3))then(some (IntKind.i64.wrap ((IntKind.i64.wrap (r3+r2))+(1:Int))))else(some (0:Int)))else(some (0:Int)))else some 0)
  else if EU n.Op=true then(if n.A=(j:Int)-1∧n.B= -1 then((dV fu) l n.A).bind (fun r1=>if(decide ((0:Int)<r1))then(some (IntKind.i64.wrap (r1+(1:Int))))else(some (0:Int)))else some 0)
  else some 0:=by
 conv=>lhs;unfold dV
 rw [bI (by simp;omega),hn]
 simp only [bA,CN]
 by_cases h1:n.Op=1
 ·simp only [h1,nt]
  rw [bQ (by decide)]
  by_cases hAB:n.A= -1∧n.B= -1
  ·rw [bQ hAB,bQ (by simp [hAB])]
  ·rw [bI hAB,bI (by simpa using hAB)]
 by_cases h27:n.Op=2∨n.Op=7
 ·simp only [h1,h27,nt,qa]
  rw [bI (by decide),bI (by decide),bQ (by decide),eS (n:=(j:Int)-1) (by omega) (by omega)]
  by_cases hB:n.B=(j:Int)-1
  ·rw [bQ (by simp [hB]),bQ hB]
  ·rw [bI (by simpa using hB),bI hB]
 by_cases hop:EU n.Op=true
 ·simp only [h1,h27,hop,nt,qa]
  rw [bI (by decide),bQ (by decide),eS (n:=(j:Int)-1) (by omega) (by omega)]
  by_cases hB:n.A=(j:Int)-1∧n.B= -1
  ·rw [bQ (by simp [hB]),bQ hB]
  ·rw [bI (by simpa using hB),bI hB]
 ·simp only [h1,h27,hop,qa]
  rw [bI (by decide),bI (by decide),bI (by decide)]
  rfl
theorem Nt.none(l:eC):Nt l 0 [] []:=⟨rfl,rfl,fun j h=>absurd h (Nat.not_lt_zero _)⟩
theorem wL{l:eC}{i:Nat}{first:List Int}{kinds:List (List Int)}(hI:Nt l i first kinds){n:aw}(hn:dC l.Nodes (i:Int)=some n)(hl:l.Nodes.length≤1000)(hi:i<l.Nodes.length){s:Nat}(hs:1≤s)(hsz: ∀fu,i+1<fu→dV fu l (i:Int)=some (s:Int))(hp:Sy n i)(ho:Eh n=true)(hop:EU n.Op=true){a b:List Int}(ha:n.Op≠1→dC kinds n.A=some a)(hb:n.Op=2∨n.Op=7→dC kinds n.B=some b)(h1:n.Op=1→a=[])(h27: ¬(n.Op=2∨n.Op=7)→b=[]):
  ∀fu,i+1<fu→fP fu l (i:Int)=jM l (i:Int) n a b:=by
 obtain⟨p1,p2,p3,p4⟩:=hp
 have hsz0:ym l (i:Int)=some (s:Int):=hsz gK (wg (Bz _) (o4 (by omega)))
 have hu: ∀fu,fP (fu+1) l (i:Int)=if(decide ((0:Int)≤n.A))then(((fP fu) l n.A).bind fun r4=>if(!r4.2)then(some ([],false))else(ll (fP fu) l (i:Int) n r4.1))else(ll (fP fu) l (i:Int) n ([])):=by
  intro fu
  conv=>lhs;unfold fP
  rw [hsz0,hn]
  simp only [bA,qw,ho]
  have: ¬(s=0):=by omega
  simp [this]
 intro fu hf
 obtain⟨fu,rfl⟩: ∃k,fu=k+1:=⟨fu-1,by omega⟩
 by_cases hop1:n.Op=1
 ·obtain⟨hA,hB⟩:=p1 hop1
  rw [hu,bI (by simp [hA])]
  unfold ll
  rw [bI (by simp [hB]),h1 hop1,h27 (by omega)]
 ·obtain⟨hi0,hA0,hAi⟩:=p2 hop1
  obtain⟨fA,kA,sA,g1,g2,g3⟩:=hI.node n.A.toNat (by omega)
  have eA:((n.A.toNat:Nat):Int)=n.A:=by omega
  have hkA:dC kinds n.A=some kA:=by rw [←eA,cK];exact g2
  rw [ha hop1]at hkA
  cases hkA
  rw [hu,bQ (by simpa using hA0)]
  have e1:=g3.kinds fu (by omega)
  rw [eA]at e1
  rw [e1]
  simp only [bA,tF,uK,qa]
  unfold ll
  by_cases hop27:n.Op=2∨n.Op=7
  ·have hB:=p3 hop27
   obtain⟨fB,kB,sB,q1,q2,q3⟩:=hI.node (i-1) (by omega)
   have eB:((i-1:Nat):Int)=n.B:=by omega
   have hkB:dC kinds n.B=some kB:=by rw [←eB,cK];exact q2
   rw [hb hop27]at hkB
   cases hkB
   rw [bQ (by simp;omega)]
   have e2:=q3.kinds fu (by omega)
   rw [eB]at e2
   rw [e2]
   simp only [bA,tF,uK,qa]
  ·have hB:=p4 hop1 (fun h=>hop27 (.inl h)) (fun h=>hop27 (.inr h))
   rw [bI (by simp [hB]),h27 hop27]
theorem JC{l:eC}{i:Nat}{first:List Int}{kinds:List (List Int)}(hI:Nt l i first kinds)(hn:dC l.Nodes (i:Int)=some la)(hl:l.Nodes.length≤1000)(hi:i<l.Nodes.length):AL l i (i:Int) [1,2,3] 1:=by
 have hsz: ∀fu,i+1<fu→dV fu l (i:Int)=some ((1:Nat):Int):=fun fu hf=>by
  obtain⟨fu,rfl⟩: ∃k,fu=k+1:=⟨fu-1,by omega⟩
  rw [Cu hn hi hl]
  rfl
 refine⟨gB _,by omega,by omega,hsz,by decide,fun fu hf=>?_⟩
 rw [wL hI hn hl hi (gB _) hsz ⟨fun _=>⟨rfl,rfl⟩,fun h=>absurd rfl h,fun h=>(by rcases h with h|h<;>cases h),fun h=>absurd rfl h⟩ (by rfl) (by rfl) (a:=[]) (b:=[]) (fun h=>absurd rfl h) (fun h=>by rcases h with h|h<;>cases h) (fun _=>rfl) (fun _=>rfl) fu hf]
 unfold jM
 rw [TC Hr rfl,bA]
 rfl
theorem JD{l:eC}{i:Nat}{first:List Int}{kinds:List (List Int)}{k:List Int}(hI:Nt l (i+1) first kinds)(h0:AL l i (i:Int) [1,2,3] 1)(hk0:kinds[i]? =some [1,2,3])(hn:dC l.Nodes ((i+1:Nat):Int)=some (j6 i k))(hl:l.Nodes.length≤1000)(hi:i+1<l.Nodes.length)(hk1:1≤k.length)(hk2:k.length≤16)(hk3:K3 k):AL l (i+1) (i:Int) k 2:=by
 have hsz: ∀fu,i+1+1<fu→dV fu l ((i+1:Nat):Int)=some ((2:Nat):Int):=fun fu hf=>by
  obtain⟨fu,rfl⟩: ∃k,fu=k+1:=⟨fu-1,by omega⟩
  rw [Cu hn hi hl,bI (by show¬(5:Int)=1;decide),bI (by show¬((5:Int)=2∨(5:Int)=7);decide),bQ (by rfl),bQ ⟨by show(i:Int)=((i+1:Nat):Int)-1;omega,rfl⟩]
  show((dV fu l (i:Int)).bind _)=_
  rw [h0.size fu (by omega),bA,bQ (by decide)]
  rfl
 refine⟨by omega,by omega,by omega,hsz,hk2,fun fu hf=>?_⟩
 rw [wL hI hn hl hi (by omega) hsz ⟨fun h=>(by cases h),fun _=>⟨by omega,by show(0:Int)≤(i:Int);omega,by show(i:Int)<((i+1:Nat):Int);omega⟩,fun h=>(by rcases h with h|h<;>cases h),fun _ _ _=>rfl⟩ (by rfl) (by rfl) (a:=[1,2,3]) (b:=[]) (fun _=>by show dC kinds (i:Int)=_;rw [cK];exact hk0) (fun h=>by rcases h with h|h<;>cases h) (fun h=>by cases h) (fun _=>rfl) fu hf]
 unfold jM
 rw [UQ (Hs i hk2) rfl,bA]
 have e1:(j6 i k).Items.map (fun e=>(gV e [1,2,3]).1)=k:=by
  show(k.map IV).map _=k
  rw [List.map_map]
  conv=>rhs;rw [←List.map_id k]
  exact G9 fun x hx=>by show(gV (IV x) [1,2,3]).1=x;rw [H0 (hk3 x hx)]
 have e2:((j6 i k).Items.all fun e=>(gV e [1,2,3]).2==0)=true:=by
  rw [m3]
  intro e he
  obtain⟨x,hx,rfl⟩:=AU.1 he
  rw [H0 (hk3 x hx)];rfl
 have e3:(j6 i k).Items.length=k.length:=Ex ..
 rw [e1,e2,e3,bI (by show¬(((5:Int)==8)&&_||decide ((16:Int)<(k.length:Int)))=true;simp;omega)]
 simp only [nQ]
 congr 2
 simp
 omega
theorem Ar{l:eC}{i:Nat}{first:List Int}{kinds:List (List Int)}{k:List Int}(hI:Nt l i first kinds)(h1:dC l.Nodes (i:Int)=some la)(h2:dC l.Nodes ((i+1:Nat):Int)=some (j6 i k))(hl:l.Nodes.length≤1000)(hi:i+1<l.Nodes.length)(hk1:1≤k.length)(hk2:k.length≤16)(hk3:K3 k):
  Nt l (i+2) (first++[(i:Int)]++[(i:Int)]) (kinds++[[1,2,3]]++[k])∧AL l (i+1) (i:Int) k 2:=by
 have n0:=JC hI h1 hl (by omega)
 have I1:=hI.push n0
 have n1:=JD I1 n0 (by rw [uu (by rw [hI.kl];exact gB _),hI.kl,wo];rfl) h2 hl hi hk1 hk2 hk3
 exact⟨I1.push n1,n1⟩
def ET(n:aw)(a b:List Int):List Int×Bool:=match cX n a b with
 |some (k,o)=>if 16<k.length then([],false)else(k,o)
 |none=>([],false)
theorem JJ{l:eC}{i:Nat}{n:aw}{a b:List Int}(hlast:i+1=l.Nodes.length)(hl:l.Nodes.length≤1000){k:List Int}{o:Bool}(hk:cX n a b=some (k,o)):jM l (i:Int) n a b=some (ET n a b):=by
 unfold jM ET
 rw [hk,bA,eS (by omega) (by omega)]
 have:((i:Int) !=(l.Nodes.length:Int)-1)=false:=by simp;omega
 rw [this,Bool.and_false,we]
 by_cases h:16<k.length
 ·rw [bQ (by simp;omega)]
  show _=some (if 16<k.length then([],false)else(k,o))
  rw [bQ h]
 ·rw [bI (by simp;omega)]
  show _=some (if 16<k.length then([],false)else(k,o))
  rw [bI h]
theorem Nr(n:bD):vx n []=some ⟨[⟨n.Tag,-1,-1,n.Col,n.Value⟩]⟩:=by
 unfold vx mi
 rw [du (by simp)]
 rfl
theorem vo: ∀k:List Int,s4 k=some (decide ((4:Int)∈k))
 |[]=>rfl
 |x::k=>by
  have ih:=vo k
  unfold s4 at ih ⊢
  unfold rn
  by_cases h:x=4
  ·rw [bQ (by simp [h])];simp [h]
  ·rw [bI (by simpa using h),ih]
   have: ¬(4:Int)=x:=fun e=>h e.symm
   simp [this]
theorem zh(nx:Nat→aw→eC→Option ((List Int)×Bool))(i:Nat)(n1:aw)(l:eC): ∀(k:List Int) (p:aw),K3 k→p.Items.length+k.length≤1000→dJ nx i n1 l k p=dJ nx i n1 l [] {p with Items:=p.Items++k.map IV}
 |[],p,_,_=>by simp
 |x::k,p,hk,hl=>by
  simp only [kb]at hl
  have hx:=hk x (oc ..)
  have key: ∀e2:bD,(⟨[⟨e2.Tag,-1,-1,e2.Col,e2.Value⟩]⟩:bp)=IV x→lU (dJ nx i n1 l k) p e2=dJ nx i n1 l [] {p with Items:=p.Items++(x::k).map IV}:=by
   intro e2 he
   unfold lU
   rw [Nr,bA,he,du (by simp;omega),bA,zh nx i n1 l k _ (fun y hy=>hk y (oS _ hy)) (by simp;omega)]
   simp
  conv=>lhs;unfold dJ
  by_cases h0:0<x
  ·rw [bQ (by simpa using h0)]
   refine key _ ?_
   unfold IV
   rw [bQ h0,eS (by omega) (by omega)]
  ·rw [bI (by simpa using h0)]
   refine key _ ?_
   unfold IV
   rw [bI h0]
theorem MC{n:aw}(hn:jX n)(hop:n.Op=1)(hA:n.A= -1)(hB:n.B= -1)(ho:Eh n=true):dH n []=some (ET n [] []):=by
 unfold dH cd
 rw [du (by simp),bA]
 show((mX ⟨[n]⟩ ((0:Nat):Int)).bind _)=_
 have hi:dC (⟨[n]⟩:eC).Nodes ((0:Nat):Int)=some n:=rfl
 have hsz: ∀fu,0+1<fu→dV fu ⟨[n]⟩ ((0:Nat):Int)=some ((1:Nat):Int):=fun fu hf=>by
  obtain⟨fu,rfl⟩: ∃k,fu=k+1:=⟨fu-1,by omega⟩
  rw [Cu hi (by show 0<1;omega) (by show 1≤1000;omega),bQ hop,bQ ⟨hA,hB⟩]
  rfl
 have:=wL (Nt.none ⟨[n]⟩) hi (by show 1≤1000;omega) (by show 0<1;omega) (gB _) hsz ⟨fun _=>⟨hA,hB⟩,fun h=>absurd hop h,fun h=>by omega,fun h=>absurd hop h⟩ ho (by rw [hop];rfl) (a:=[]) (b:=[]) (fun h=>absurd hop h) (fun h=>by omega) (fun _=>rfl) (fun _=>rfl) gK (wg (Bz _) (o4 (by omega)))
 unfold mX
 rw [this,JJ (by rfl) (by show 1≤1000;omega) (TC hn hop),bA]
theorem jX.AB{n:aw}(h:jX n)(A B:Int):jX {n with A:=A,B:=B}:=⟨h.cond,h.kinds,h.keys,h.aggs,h.items,h.order,h.args,h.exprs⟩
theorem Oy{n:aw}(hn:jX n)(hop:EU n.Op=true)(A B:Int){a b:List Int}(hal:a.length≤16)(hbl:b.length≤16):cX {n with A:=A,B:=B} a b=cX n a b:=by
 have hn' :=hn.AB A B
 rcases q9 hop with h|h|h|h|h|h|h|h
 ·rw [TC hn h,TC hn' h]
 ·rw [Vw h hal hbl,Vw (n:={n with A:=A,B:=B}) h hal hbl]
 ·rw [Vv h,Vv (n:={n with A:=A,B:=B}) h]
 ·rw [Vu hn h,Vu hn' h]
 ·rw [UQ hn h,UQ hn' h]
 ·rw [Vt h,Vt (n:={n with A:=A,B:=B}) h]
 ·rw [Vs h hal,Vs (n:={n with A:=A,B:=B}) h hal]
 ·rw [Vr hn h,Vr hn' h]
theorem Oo{n:aw}(hn:jX n)(hop:EU n.Op=true)(A B:Int){a b:List Int}(hal:a.length≤16)(hbl:b.length≤16):ET {n with A:=A,B:=B} a b=ET n a b:=by
 unfold ET
 rw [Oy hn hop A B hal hbl]
theorem Kz{n:aw}(hn:jX n)(hop:EU n.Op=true){a b:List Int}(hal:a.length≤16)(hbl:b.length≤16): ∃k o,cX n a b=some (k,o):=by
 rcases q9 hop with h|h|h|h|h|h|h|h
 ·exact⟨_,_,TC hn h⟩
 ·exact⟨_,_,Vw h hal hbl⟩
 ·exact⟨_,_,Vv h⟩
 ·rw [Vu hn h];split<;>exact⟨_,_,rfl⟩
 ·exact⟨_,_,UQ hn h⟩
 ·exact⟨_,_,Vt h⟩
 ·rw [Vs h hal];split<;>exact⟨_,_,rfl⟩
 ·exact⟨_,_,Vr hn h⟩
theorem zi(n:aw){a:List Int}(h:(4:Int)∈a)(t:List (List Int))(i:Nat)(l:eC):cd (a::t) i n l=some ([],false):=by
 unfold cd
 rw [vo,bA,bQ (by simpa using h)]
theorem HI{n:aw}(hn:jX n)(hop:EU n.Op=true)(h1:n.Op≠1)(h27: ¬(n.Op=2∨n.Op=7))(hB:n.B= -1)(ho:Eh n=true){a:List Int}(ha:Kd a)(h3:K3 a):dH n [a]=some (ET n a []):=by
 have hal:=ha.le
 have hap:=ha.pos
 have hn' :=hn.AB 1 n.B
 unfold dH cd
 rw [vo,bA,bI (by simpa using h3.four),zh _ _ _ _ _ _ h3 (by show 0+a.length≤1000;omega)]
 unfold dJ
 show((ko ([]:List aw) [la,j6 0 a]).bind fun l5=>if(((0:Nat):Int)==(0:Int))then(cd [] 1 {n with A:=IntKind.i64.wrap ((l5.length:Int)-1)} ⟨l5⟩)else(cd [] 1 {n with B:=IntKind.i64.wrap ((l5.length:Int)-1)} ⟨l5⟩))=_
 rw [du (by simp),bA,bQ (by rfl)]
 show cd [] 1 {n with A:=1} ⟨[la,j6 0 a]⟩=_
 unfold cd
 rw [du (by simp),bA]
 show((mX ⟨[la,j6 0 a,{n with A:=1}]⟩ ((2:Nat):Int)).bind _)=_
 have hI:=Ar (l:=⟨[la,j6 0 a,{n with A:=1}]⟩) (k:=a) (Nt.none _) rfl rfl (by show 3≤1000;omega) (by show 1<3;omega) hap hal h3
 have hi:dC (⟨[la,j6 0 a,{n with A:=1}]⟩:eC).Nodes ((2:Nat):Int)=some {n with A:=1}:=rfl
 have hsz: ∀fu,2+1<fu→dV fu ⟨[la,j6 0 a,{n with A:=1}]⟩ ((2:Nat):Int)=some ((3:Nat):Int):=fun fu hf=>by
  obtain⟨fu,rfl⟩: ∃k,fu=k+1:=⟨fu-1,by omega⟩
  rw [Cu hi (by show 2<3;omega) (by show 3≤1000;omega),bI h1,bI h27,bQ hop,bQ ⟨rfl,hB⟩]
  have:=hI.2.size fu (by omega)
  show((dV fu ⟨[la,j6 0 a,{n with A:=1}]⟩ ((0+1:Nat):Int)).bind _)=_
  rw [this]
  rfl
 have:=wL hI.1 hi (by show 3≤1000;omega) (by show 2<3;omega) (by omega) hsz ⟨fun h=>absurd h h1,fun _=>⟨by omega,by show(0:Int)≤1;omega,by show(1:Int)<((2:Nat):Int);omega⟩,fun h=>absurd h h27,fun _ _ _=>hB⟩ (by exact ho) hop (a:=a) (b:=[]) (fun _=>rfl) (fun h=>absurd h h27) (fun h=>absurd h h1) (fun _=>rfl) gK (wg (Bz _) (o4 (by omega)))
 unfold mX
 obtain⟨k,o,hk⟩:=Kz (n:={n with A:=1}) (a:=a) (b:=[]) hn' hop hal (by simp)
 rw [this,JJ (by rfl) (by show 3≤1000;omega) hk,bA]
 have e:=Oo hn hop 1 n.B hal (b:=[]) (by simp)
 exact congrArg some e
theorem Ok{n:aw}(hn:jX n)(h27:n.Op=2∨n.Op=7)(ho:Eh n=true){a b:List Int}(ha:Kd a)(h3:K3 a)(hb:Kd b)(h3b:K3 b):dH n [a,b]=some (ET n a b):=by
 have hal:=ha.le
 have hap:=ha.pos
 have hbl:=hb.le
 have hbp:=hb.pos
 have hop:EU n.Op=true:=by rcases h27 with h|h<;>rw [h]<;>rfl
 have h1:n.Op≠1:=by omega
 have hn' :=hn.AB 1 3
 unfold dH cd
 rw [vo,bA,bI (by simpa using h3.four),zh _ _ _ _ _ _ h3 (by show 0+a.length≤1000;omega)]
 unfold dJ
 show((ko ([]:List aw) [la,j6 0 a]).bind fun l5=>if(((0:Nat):Int)==(0:Int))then(cd [b] 1 {n with A:=IntKind.i64.wrap ((l5.length:Int)-1)} ⟨l5⟩)else(cd [b] 1 {n with B:=IntKind.i64.wrap ((l5.length:Int)-1)} ⟨l5⟩))=_
 rw [du (by simp),bA,bQ (by rfl)]
 show cd [b] 1 {n with A:=1} ⟨[la,j6 0 a]⟩=_
 unfold cd
 rw [vo,bA,bI (by simpa using h3b.four),zh _ _ _ _ _ _ h3b (by show 0+b.length≤1000;omega)]
 unfold dJ
 show((ko [la,j6 0 a] [la,j6 2 b]).bind fun l5=>if(((1:Nat):Int)==(0:Int))then(cd [] 2 {n with A:=IntKind.i64.wrap ((l5.length:Int)-1)} ⟨l5⟩)else(cd [] 2 {n with A:=1,B:=IntKind.i64.wrap ((l5.length:Int)-1)} ⟨l5⟩))=_
 rw [du (by simp),bA,bI (by decide)]
 show cd [] 2 {n with A:=1,B:=3} ⟨[la,j6 0 a,la,j6 2 b]⟩=_
 unfold cd
 rw [du (by simp),bA]
 show((mX ⟨[la,j6 0 a,la,j6 2 b,{n with A:=1,B:=3}]⟩ ((4:Nat):Int)).bind _)=_
 have hI:=Ar (l:=⟨[la,j6 0 a,la,j6 2 b,{n with A:=1,B:=3}]⟩) (k:=a) (Nt.none _) rfl rfl (by show 5≤1000;omega) (by show 1<5;omega) hap hal h3
 have hJ:=Ar (l:=⟨[la,j6 0 a,la,j6 2 b,{n with A:=1,B:=3}]⟩) (k:=b) hI.1 rfl rfl (by show 5≤1000;omega) (by show 3<5;omega) hbp hbl h3b
 have hi:dC (⟨[la,j6 0 a,la,j6 2 b,{n with A:=1,B:=3}]⟩:eC).Nodes ((4:Nat):Int)=some {n with A:=1,B:=3}:=rfl
 have hsz: ∀fu,4+1<fu→dV fu ⟨[la,j6 0 a,la,j6 2 b,{n with A:=1,B:=3}]⟩ ((4:Nat):Int)=some ((5:Nat):Int):=fun fu hf=>by
  obtain⟨fu,rfl⟩: ∃k,fu=k+1:=⟨fu-1,by omega⟩
  rw [Cu hi (by show 4<5;omega) (by show 5≤1000;omega),bI h1,bQ h27,bQ (by rfl)]
  have g1:=hJ.2.size fu (by omega)
  have g2:=hI.2.size fu (by omega)
  show((dV fu ⟨[la,j6 0 a,la,j6 2 b,{n with A:=1,B:=3}]⟩ ((2+1:Nat):Int)).bind _)=_
  rw [g1,bA,bQ (show((decide ((0:Int)<((2:Nat):Int)))&&((1:Int)==(IntKind.i64.wrap ((3:Int)-((2:Nat):Int)))))=true from by decide)]
  show((dV fu ⟨[la,j6 0 a,la,j6 2 b,{n with A:=1,B:=3}]⟩ ((0+1:Nat):Int)).bind _)=_
  rw [g2]
  rfl
 have:=wL hJ.1 hi (by show 5≤1000;omega) (by show 4<5;omega) (by omega) hsz ⟨fun h=>absurd h h1,fun _=>⟨by omega,by show(0:Int)≤1;omega,by show(1:Int)<((4:Nat):Int);omega⟩,fun _=>by show(3:Int)=((4:Nat):Int)-1;omega,fun _ h2 h7=>(by rcases h27 with h|h;exact absurd h h2;exact absurd h h7)⟩ (by exact ho) hop (a:=a) (b:=b) (fun _=>rfl) (fun _=>rfl) (fun h=>absurd h h1) (fun h=>absurd h27 h) gK (wg (Bz _) (o4 (by omega)))
 unfold mX
 obtain⟨k,o,hk⟩:=Kz (n:={n with A:=1,B:=3}) (a:=a) (b:=b) hn' hop hal hbl
 rw [this,JJ (by rfl) (by show 5≤1000;omega) hk,bA]
 have e:=Oo hn hop 1 3 hal hbl
 exact congrArg some e
end Go.Proofs.YtmogpgcfognefaaGreatDoor

