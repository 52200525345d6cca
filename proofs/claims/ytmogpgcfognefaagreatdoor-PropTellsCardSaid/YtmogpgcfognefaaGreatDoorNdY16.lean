/- di of this claim: Y16. -/
import Derived.Test.YtmogpgcfognefaaGreatDoorNdY15
import Derived.Test.YtmogpgcfognefaaGreatDoorNdQ4
set_option linter.all false
namespace Go.Proofs.YtmogpgcfognefaaGreatDoor
open Go

theorem Br(s2:List Int): ∀(l:List Int) (i:Nat),i+l.length=s2.length→j4 s2 l i=some (decide (l=s2.drop i))
 |[],i,h=>by
  unfold j4
  rw [G5 (by simp at h;omega)];rfl
 |e::tl,i,h=>by
  have hi:i<s2.length:=by simp at h;omega
  unfold j4
  rw [cK,nP hi,bA,ut hi]
  by_cases he:e=s2[i]
  ·rw [bI (by simp [he]),Br s2 tl (i+1) (by simp at h;omega)]
   congr 1
   rw [By]
   exact⟨fun h=>by rw [he,h],fun h=>by injection h⟩
  ·rw [bQ (by simpa using he),qb]
   intro h
   injection h with h1 _
   exact he h1
theorem rY(a b:List Int):g9 a b=some (decide (a=b)):=by
 unfold g9
 by_cases h:a.length=b.length
 ·rw [bI (by simp [h]),Br b a 0 (by omega),sa]
 ·rw [bQ (by simp;omega),qb (fun e=>h (by rw [e]))]
theorem zY{cs:List bL}: ∀(l:List Int) (i:Nat),i+l.length=cs.length→bZ cs gX l i=some (decide (l=(cs.drop i).map fun x=>x.Kind))
 |[],i,h=>by
  unfold bZ
  rw [G5 (by simp at h;omega)];rfl
 |k::tl,i,h=>by
  have hi:i<cs.length:=by simp at h;omega
  unfold bZ
  rw [cK,nP hi,bA,ut hi]
  show(if(!(k==cs[i].Kind))then some false else _)=_
  by_cases he:k=cs[i].Kind
  ·rw [bI (by simp [he]),zY tl (i+1) (by simp at h;omega)]
   congr 1
   rw [By,xC]
   exact⟨fun h=>by rw [he,h],fun h=>by injection h⟩
  ·rw [bQ (by simpa using he),qb]
   intro h
   injection h with h1 _
   exact he h1
theorem IN(l:List Int)(cs:List bL):cM l cs gX=some (decide (l=cs.map fun x=>x.Kind)):=by
 unfold cM
 by_cases h:l.length=cs.length
 ·rw [bI (by simp [h]),zY l 0 (by omega),sa]
 ·rw [bQ (by simp;omega),qb (fun e=>h (by rw [e];simp))]
theorem KZ(nx1:Option Int)(e2:aw): ∀(cs:List bL) (own:List Int),own.length+cs.length≤10000→nD nx1 e2 cs own=if own++cs.map (fun x=>x.Kind)=e2.Kinds then nx1 else some 0
 |[],own,_=>by
  unfold nD ro
  rw [rY,bA,List.map_nil,z8]
  by_cases h:own=e2.Kinds
  ·rw [bQ h,bI (by simp [h])]
  ·rw [bI h,bQ (by simp [h])]
 |c::cs,own,hl=>by
  simp only [kb]at hl
  unfold nD
  rw [du (by simp;omega),bA,KZ nx1 e2 cs _ (by simp;omega)]
  simp
def KN(f:cL)(x:ci)(n:aw):Bool:=(ed f (some x) n).getD true
theorem HR(f:cL)(x:ci)(n:aw)(hn:n.Op=1→0≤n.Table):ed f (some x) n=some (KN f x n):=by
 obtain⟨b,hb,_⟩:=AC f x n hn
 unfold KN
 rw [hb];rfl
theorem K0(f:cL)(x:ci)(hcol: ∀t∈x.c.Tables,t.Columns.length≤1000): ∀ns:List aw,(∀n∈ns,n.Op=1→0≤n.Table)→jC f x.c ns=some (if ns.any (KN f x)then 0 else -1)
 |[],_=>rfl
 |n::ns,hn=>by
  have ih:=K0 f x hcol ns (fun m hm=>hn m (oS _ hm))
  have hx:=HR f x n (hn n (oc ..))
  unfold jC
  unfold ed at hx
  by_cases h1:n.Op=1
  ·rw [bI (by simp [h1])]at hx ⊢
   by_cases h2:f.At=1
   ·rw [bQ (by simp [h2]),bA,bA]at hx
    by_cases h3:(x.c.Tables.length:Int)≤n.Table
    ·rw [bQ (by simpa using h3)]at hx
     injection hx with hx
     rw [bQ (by simp [h3]),vU,←hx];rfl
    ·rw [bI (by simpa using h3),bA]at hx
     have h0:=hn n (oc ..) h1
     have hlt:n.Table.toNat<x.c.Tables.length:=by omega
     rw [gR n.Table.toNat (by omega),nP hlt,bA,IN,bA]at hx
     injection hx with hx
     rw [bI (by simp [h2];omega),gR n.Table.toNat (by omega),nP hlt,bA,KZ _ _ _ _ (by have:=hcol _ (yS hlt);simp;omega),nv,vU,←hx]
     by_cases he:(x.c.Tables[n.Table.toNat]).Columns.map (fun x=>x.Kind)=n.Kinds
     ·rw [bQ he,ih,qQ he.symm];rfl
     ·rw [bI he,qb (fun h=>he h.symm)];rfl
   ·rw [bI (by simp [h2]),bA,bQ rfl]at hx
    injection hx with hx
    rw [bQ (by simp [h2]),vU,←hx];rfl
  ·rw [bQ (by simpa using h1)]at hx ⊢
   injection hx with hx
   rw [vU,←hx,we]
   exact ih
theorem K9(f:cL)(c:bG)(R:List Int): ∀cs:List Int,nE f c R cs=if cs.any (fun c=>(df R c).getD true)then some 0 else jC f c f.Nodes
 |[]=>rfl
 |x::cs=>by
  unfold nE
  have:(if(!((decide (x<(0:Int)))||(decide ((R.length:Int)≤x))))then((dC R x).bind fun e5=>some (e5==(4:Int)))else some true)=some ((df R x).getD true):=by
   obtain⟨b,hb,_⟩:=xo R x
   rw [hb]
   unfold df at hb
   rw [Option.getD_some]
   rw [←hb]
   cases (if(!((decide (x<(0:Int)))||(decide ((R.length:Int)≤x))))then((dC R x).bind fun e5=>some (e5==(4:Int)))else some true)<;>rfl
  rw [this,bA,K9 f c R cs,vU]
  cases (df R x).getD true<;>simp
theorem M4(x:ci)(f:cL){K:List (List Int)}{R:List Int}(hK:kN f.Nodes=some (K,-1))(hR:dC K (IntKind.i64.wrap ((K.length:Int)-(1:Int)))=some R)(hT: ∀n∈f.Nodes,n.Op=1→0≤n.Table)(hcol: ∀t∈x.c.Tables,t.Columns.length≤1000):
  ∃b,iO (some x) f R=some b∧s6 f x.c=some (if b then -1 else 0):=by
 unfold iO s6
 rw [hK,bA]
 show∃b,_∧(if((((((f.At !=(1:Int))&&(f.At !=(2:Int)))||(decide (f.Way<(1:Int))))||(decide ((4:Int)<f.Way)))||((f.Way==(1:Int)) !=(decide ((0:Int)<(f.Cols.length:Int)))))||(decide ((16:Int)<(f.Cols.length:Int))))then some 0 else(dC K (IntKind.i64.wrap ((K.length:Int)-(1:Int)))).bind fun e=>nE f x.c e f.Cols)=_
 by_cases hc:((((((f.At !=(1:Int))&&(f.At !=(2:Int)))||(decide (f.Way<(1:Int))))||(decide ((4:Int)<f.Way)))||((f.Way==(1:Int)) !=(decide ((0:Int)<(f.Cols.length:Int)))))||(decide ((16:Int)<(f.Cols.length:Int))))=true
 ·rw [bQ hc,bQ hc]
  exact⟨false,rfl,rfl⟩
 ·rw [bI hc,bI hc]
  rw [hR,bA,K9]
  have hf1: ∀c,df R c=some ((df R c).getD true):=fun c=>by
   obtain⟨b,hb,_⟩:=xo R c
   rw [hb];rfl
  rw [jb hf1,bA]
  cases h1:f.Cols.any (fun c=>(df R c).getD true)with
  |true=>exact⟨false,rfl,rfl⟩
  |false=>
   rw [bI (by simp),bI (by simp),wc (fun n hn=>HR f x n (hT n hn)),bA,K0 f x hcol f.Nodes hT]
   cases f.Nodes.any (KN f x)with
   |true=>exact⟨false,rfl,rfl⟩
   |false=>exact⟨true,rfl,rfl⟩
theorem za(from1:Int)(nx:Nat→Option (Int×Int×Bool))(i:Nat): ∀(ns:List aw) (k:Nat),nA from1 nx i ns k=match Jp from1 i ns k with|[]=>nx (i+1)|x::_=>some (x.1,x.2,true)
 |[],k=>rfl
 |n::ns,k=>by
  unfold nA Jp
  by_cases h:((n.Op==(9:Int))&&(n.Table==from1))=true
  ·rw [bQ h,bQ h]
  ·rw [bI h,bI h]
   exact za from1 nx i ns (k+1)
theorem zb(from1:Int): ∀(fs:List cL) (i:Nat),lL from1 fs i=some (match Ap from1 fs i with|[]=>(0,0,false)|x::_=>(x.1,x.2,true))
 |[],i=>rfl
 |f::fs,i=>by
  unfold lL Ap
  rw [za,zb from1 fs (i+1)]
  cases Jp from1 i f.Nodes 0 with
  |nil=>rfl
  |cons x t=>rfl
theorem Bs(q:da)(from1:Int):m9 q from1=kP q from1:=by
 rw [AJ]
 exact zb from1 q.Frags 0
theorem Ge(at1:Int)(nx1:Int→Option Bool)(i:Nat): ∀(ns:List aw) (k m:Nat),m+ns.length≤100000→mD at1 nx1 ns (m:Int)=nx1 ((m+(Jp at1 i ns k).length:Nat):Int)
 |[],k,m,_=>rfl
 |n::ns,k,m,hl=>by
  simp only [kb]at hl
  unfold mD Jp
  by_cases h:((n.Op==(9:Int))&&(n.Table==at1))=true
  ·rw [bQ h,bQ h,eS (by omega) (by omega),show(m:Int)+1=((m+1:Nat):Int)from rfl,Ge at1 nx1 i ns (k+1) (m+1) (by omega)]
   congr 2
   simp only [kb]
   omega
  ·rw [bI h,bI h]
   exact Ge at1 nx1 i ns (k+1) m (by omega)
theorem KP(q:da)(at1:Int)(e:cL): ∀(fs:List cL) (i m:Nat),(∀f∈fs,f.Nodes.length≤90)→m+90*fs.length≤100000→jK q at1 e fs (m:Int)=jK q at1 e [] ((m+(Ap at1 fs i).length:Nat):Int)
 |[],i,m,_,_=>rfl
 |f::fs,i,m,hf,hl=>by
  simp only [kb]at hl
  have h1:=hf f (oc ..)
  have h2:=F1 (from1:=at1) (i:=i) f.Nodes 0
  conv=>lhs;unfold jK
  rw [Ge at1 _ i f.Nodes 0 m (by omega),KP q at1 e fs (i+1) _ (fun g hg=>hf g (oS _ hg)) (by omega)]
  congr 2
  have e:Ap at1 (f::fs) i=Jp at1 i f.Nodes 0++Ap at1 fs (i+1):=rfl
  rw [e,mt]
  omega
section
variable{c:bG}{q:da}{KS:List (List (List Int))}
def PC(c:bG)(q:da)(KS:List (List (List Int))):Prop:= ∀(i:Nat) (f:cL),q.Frags[i]? =some f→ ∃K,KS[i]? =some K∧w9 c f K∧kN f.Nodes=some (K,-1)
theorem Ft(h:PC c q KS){j:Nat}{f:cL}(hf:q.Frags[j]? =some f): ∃R,dK (some ⟨q,c,KS⟩) (j:Int)=some R∧q5 f=some R:=by
 obtain⟨K,h1,h2,h3⟩:=h j f hf
 obtain⟨R,g1,_⟩:=FY (q:=q) h1 h2
 refine⟨R,g1,?_⟩
 unfold dK at g1
 rw [bA,cK]at g1
 have g1' :((KS[j]?).bind fun e=>(dC e (IntKind.i64.wrap ((e.length:Int)-(1:Int)))).bind fun e1=>some e1)=some R:=g1
 rw [h1,bA]at g1'
 unfold q5
 rw [h3,bA]
 exact g1'
theorem Jo(h:PC c q KS){i:Nat}{f:cL}(hf:q.Frags[i]? =some f)(hl:q.Frags.length≤100)(hm: ∀g∈q.Frags,g.Nodes.length≤90):tQ q (i:Int)=gu (some ⟨q,c,KS⟩) (i:Int):=by
 have hi:=(pc.1 hf).1
 unfold tQ gu
 rw [bA,cK]
 show(q.Frags[i]?).bind _=(dC q.Frags (i:Int)).bind _
 rw [cK,hf,bA,bA]
 have hT: ∀n∈f.Nodes,n.Op=9→0≤n.Table:=fun n hn ho=>by
  obtain⟨K,_,hF,_⟩:=h i f hf
  exact u4 hF.1 n hn (.inr ho)
 have key: ∀ns:List aw,(∀n∈ns,n.Op=9→0≤n.Table)→mE q (i:Int) f ns=eE (some ⟨q,c,KS⟩) (i:Int) f ns:=by
  intro ns
  induction ns with
  |nil=>
   intro _
   have hlen:=F2 (from1:=(i:Int)) (m:=90) q.Frags 0 hm
   unfold mE eE
   have e0:=KP q (i:Int) f q.Frags 0 0 hm (by omega)
   rw [pj]at e0
   rw [show((0:Nat):Int)=(0:Int)from rfl]at e0
   rw [e0,bA,AA,bA]
   have hidx: ∀y∈Ap (i:Int) q.Frags 0,∃g,dC q.Frags y.1=some g:=fun y hy=>by
    obtain⟨a,g,j,n,g1,_,g3,_⟩:=Gd hy
    exact⟨g,by rw [g3];show dC _ ((0+a:Nat):Int)=_;rw [pj,cK,g1]⟩
   obtain⟨one',h1⟩:=yo ⟨q,c,KS⟩ (Ap (i:Int) q.Frags 0) false 0 hidx (by omega) (by omega)
   show _=(An (tv (fun(y:Int×Int) (s:Bool×Int)=>dr (some ⟨q,c,KS⟩) y s.1 s.2)) (Ap (i:Int) q.Frags 0) (false,(0:Int)) some).bind _
   have hone: ∀x,Ap (i:Int) q.Frags 0=[x]→ ∀g,dC q.Frags x.1=some g→one' =(g.At==2):=fun x hx g hg=>by
    rw [hx]at h1
    have:An (tv (fun(y:Int×Int) (s:Bool×Int)=>dr (some ⟨q,c,KS⟩) y s.1 s.2)) [x] (false,(0:Int)) some=some (g.At==2,IntKind.i64.wrap (0+1)):=by
     show(tv (fun(x:Int×Int) (s:Bool×Int)=>dr (some ⟨q,c,KS⟩) x s.1 s.2) x (false,0)).bind _=_
     rw [show tv (fun(x:Int×Int) (s:Bool×Int)=>dr (some ⟨q,c,KS⟩) x s.1 s.2) x (false,0)=some (true,(g.At==2,IntKind.i64.wrap (0+1)))from by simp [tv,dr,hg],bA,bI (by simp)]
     rfl
    rw [this]at h1
    injection h1 with h1
    injection h1 with h1 _
    exact h1.symm
   rw [h1,bA,Int.zero_add]
   unfold jK
   show _=(if((i:Int)==(IntKind.i64.wrap ((q.Frags.length:Int)-(1:Int))))then _ else _)
   by_cases hlast:((i:Int)==(IntKind.i64.wrap ((q.Frags.length:Int)-(1:Int))))=true
   ·rw [bQ hlast,bQ hlast]
    obtain⟨R,r1,r2⟩:=Ft h hf
    rw [r1,r2]
    simp only [bA,vo,pC]
   ·rw [bI hlast,bI hlast,Bs,AJ,bA]
    cases hL:Ap (i:Int) q.Frags 0 with
    |nil=>cases f.Way !=4<;>rfl
    |cons x t=>
     cases t with
     |nil=>
      obtain⟨g,hg⟩:=hidx x (by rw [hL];exact oc ..)
      have ho:=hone x hL g hg
      show((if(((f.Way !=(4:Int))&&((((1:Nat):Int))==(1:Int)))&&true)then((dC q.Frags x.1).bind fun e3=>some ((f.Way==(3:Int))==(e3.At==(2:Int))))else some false).bind fun t1=>some t1)=some (((f.Way !=(4:Int))&&((((1:Nat):Int))==(1:Int)))&&((f.Way==(3:Int))==one'))
      rw [hg,ho]
      cases (f.Way !=(4:Int))<;>rfl
     |cons y t=>
      have hne:((((x::y::t).length:Nat):Int)==(1:Int))=false:=by rw [beq_eq_false_iff_ne];simp only [kb];omega
      rw [hne,Bool.and_false,Ew,Ew]
      rfl
  |cons n tl ih=>
   intro hall
   unfold mE eE
   have e1:(if(n.Op==(9:Int))then((if(!(decide ((i:Int)≤n.Table)))then((dC q.Frags n.Table).bind fun e5=>(q5 e5).bind fun r3=>(g9 n.Kinds r3).bind fun r4=>some (!r4))else some true).bind fun t3=>some t3)else some false)=(if(n.Op==(9:Int))then((if(!(decide ((i:Int)≤n.Table)))then((dK (some ⟨q,c,KS⟩) n.Table).bind fun r2=>(fv n.Kinds r2).bind fun r3=>some (!r3))else some true).bind fun t2=>some t2)else some false):=by
    by_cases h9:n.Op=9
    ·have h9b:(n.Op==(9:Int))=true:=by simp [h9]
     rw [bQ h9b,bQ h9b]
     by_cases hlt:(i:Int)≤n.Table
     ·have hb: ¬(!(decide ((i:Int)≤n.Table)))=true:=by simpa using hlt
      rw [bI hb,bI hb]
     ·have hb:(!(decide ((i:Int)≤n.Table)))=true:=by simpa using hlt
      have h0:=hall n (oc ..) h9
      have hltn:n.Table.toNat<q.Frags.length:=by omega
      obtain⟨R,r1,r2⟩:=Ft h (nP hltn)
      rw [Int.toNat_of_nonneg h0]at r1
      rw [bQ hb,bQ hb,gR n.Table.toNat (by omega),nP hltn,bA,r1,r2]
      simp only [bA,rY,sK]
    ·have h9b: ¬(n.Op==(9:Int))=true:=by simpa using h9
     rw [bI h9b,bI h9b]
   rw [e1,ih (fun m hm=>hall m (oS _ hm))]
 exact key f.Nodes hT
theorem xT(h:PC c q KS)(hl:q.Frags.length≤100)(hm: ∀g∈q.Frags,g.Nodes.length≤90): ∀(tl:List cL) (i:Nat),q.Frags.drop i=tl→ ∀r,mj ⟨q,c,KS⟩ tl i=some r→ow q tl i=some (r.2.1,r.2.2.1,r.2.2.2)
 |[],i,hd,r,hr=>by
  have:(some ⟨q,c,KS⟩,(0:Int),(0:Int),(0:Int))=r:=od hr
  subst this
  rfl
 |f::tl,i,hd,r,hr=>by
  obtain⟨hidx,hi,hd'⟩:=lE hd
  rw [cK]at hidx
  unfold mj at hr
  unfold ow
  rw [Jo h hidx hl hm]
  cases hb:gu (some ⟨q,c,KS⟩) (i:Int)with
  |none=>rw [hb]at hr;cases hr
  |some b=>
   rw [hb,bA]at hr
   rw [bA]
   cases b with
   |false=>
    rw [bQ (by rfl)]at hr ⊢
    cases hr
    rfl
   |true=>
    rw [bI (by simp)]at hr ⊢
    exact xT h hl hm tl (i+1) hd' r hr
theorem xU(hq:vP q)(hcol: ∀t∈c.Tables,t.Columns.length≤1000)(h30:q.Frags.length≤30): ∀(tl:List cL) (i:Nat) (KS:List (List (List Int))),q.Frags.drop i=tl→i≤q.Frags.length→KS.length=i→(∀(j:Nat) (f:cL),j<i→q.Frags[j]? =some f→ ∃K,KS[j]? =some K∧w9 c f K∧kN f.Nodes=some (K,-1))→ ∀r,jE q tl i ⟨q,c,KS⟩=some r→ ∃a b,lh q c tl i=some (a,b,r.2.2.2)
 |[],i,KS,hd,hi,hl,hk,r,hr=>by
  have hlen:=tq hd
  exact⟨_,_,xT (KS:=KS) (fun j f hj=>hk j f (by have:=(pc.1 hj).1;omega) hj) (by omega) (fun g hg=>(hq.frag g hg).len) q.Frags 0 rfl r hr⟩
 |f::tl,i,KS,hd,_,hl,hk,r,hr=>by
  obtain⟨hidx,hi,hd'⟩:=lE hd
  rw [cK]at hidx
  unfold jE at hr
  unfold lh
  obtain⟨out,w,e,hK,hcase⟩:=DM (hq.frag f (qS hidx))
  rw [hK,bA]at hr
  rcases hcase with⟨he,hw,hR,hkok,g1,g60,_⟩|⟨he,_,a,hR⟩
  ·subst he;subst hw
   rw [bI (by simp)]at hr
   obtain⟨R,r1,r2,_⟩:=hkok.root g1 (by omega)
   have hr' :((dC out (IntKind.i64.wrap ((out.length:Int)-(1:Int)))).bind fun e2=>(iO (some ⟨q,c,KS⟩) f e2).bind fun r3=>if(!r3)then some ((none:Option ci),(i:Int),(0:Int),(291:Int))else(ko KS [out]).bind fun l1=>jE q tl (i+1) ⟨q,c,l1⟩)=some r:=hr
   rw [r1,bA]at hr'
   have hT: ∀n∈f.Nodes,n.Op=1→0≤n.Table:=fun n hn ho=>u4 hkok n hn (.inl ho)
   obtain⟨b,hb,hbr⟩:=M4 ⟨q,c,KS⟩ f hR r1 hT hcol
   obtain⟨b2,hb2,hbt⟩:=La ⟨q,c,KS⟩ f R hT
   rw [hb]at hb2
   cases hb2
   rw [hb,bA]at hr'
   rw [hbr,bA]
   cases b with
   |false=>
    rw [bQ (by rfl)]at hr'
    cases hr'
    exact⟨_,_,rfl⟩
   |true=>
    rw [bI (by simp),du (by simp;omega),bA]at hr'
    show∃a b,lh q c tl (i+1)=some (a,b,r.2.2.2)
    refine xU hq hcol h30 tl (i+1) (KS++[out]) hd' (by omega) (by simp [hl]) (fun j g hj hg=>?_) r hr'
    by_cases hji:j<i
    ·obtain⟨K,hK1,hF⟩:=hk j g hji hg
     exact⟨K,by rw [vh (by omega)];exact hK1,hF⟩
    ·have:j=i:=by omega
     subst this
     rw [hidx]at hg
     cases hg
     exact⟨out,by rw [uu (by omega),hl];simp,⟨hkok,g1,g60,hK,R,r2,hbt rfl⟩,hR⟩
  ·subst he
   rw [bQ (by rfl)]at hr
   cases hr
   unfold s6
   rw [hR,bA,bQ (by simp),bA,bQ (by simp)]
   exact⟨_,_,rfl⟩
end
theorem Kj{c:bG}{q:da}(hc:qM c)(hq:vP q){r:Option ci×Int×Int×Int}(hr:na q c=some r): ∃a b,tU q c=some (a,b,r.2.2.2):=by
 unfold na at hr
 unfold tU
 rw [u6 hc,bA]at hr
 rw [CO hc,bA]
 cases hb:AH c with
 |false=>
  rw [hb]at hr
  have hr' :some ((none:Option ci),(0:Int),(0:Int),(210:Int))=some r:=hr
  cases hr'
  exact⟨_,_,rfl⟩
 |true=>
  rw [hb]at hr
  have hr' :(if((decide ((q.Frags.length:Int)<(1:Int)))||(decide ((30:Int)<(q.Frags.length:Int))))=true then some ((none:Option ci),(0:Int),(0:Int),(290:Int))else jE q q.Frags 0 ⟨q,c,[]⟩)=some r:=hr
  show∃a b,(if((decide ((q.Frags.length:Int)<(1:Int)))||(decide ((30:Int)<(q.Frags.length:Int))))=true then some ((0:Int),(0:Int),(290:Int))else lh q c q.Frags 0)=some (a,b,r.2.2.2)
  by_cases hl:((decide ((q.Frags.length:Int)<(1:Int)))||(decide ((30:Int)<(q.Frags.length:Int))))=true
  ·rw [bQ hl]at hr' ⊢
   cases hr'
   exact⟨_,_,rfl⟩
  ·rw [bI hl]at hr' ⊢
   simp at hl
   exact xU hq (fun t ht=>by have:=N1 (Sp hb t ht);omega) (by omega) q.Frags 0 [] rfl (jz _) rfl (fun j f hj=>by omega) r hr'
end Go.Proofs.YtmogpgcfognefaaGreatDoor

