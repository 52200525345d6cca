/- cF of this claim: Y8. -/
import Derived.Test.YtmogpgcfognefaaGreatDoorNbY7
set_option linter.all false
namespace Go.Proofs.YtmogpgcfognefaaGreatDoor
open Go

def yU(kinds:List Int):aB:=⟨1,-1,-1,0,kinds,false,⟨[]⟩,[],[],[],[],0⟩
def jh(kinds:List Int)(ns:List aB):eM:=⟨[⟨[yU kinds],1,3,[]⟩,⟨ns,2,4,[]⟩]⟩
section
variable{c:bz}{KS:List (List (List Int))}{kinds:List Int}{ns:List aB}
theorem Ip(h:rp c ⟨[⟨ns,2,4,[]⟩]⟩ KS):False:=by
 obtain⟨K,_,hF⟩:=h.kok 0 ⟨ns,2,4,[]⟩ rfl
 obtain⟨n,h1,h2⟩:=hF.1.leaf hF.2.1
 have hn:n∈ns:=nM h1
 rcases h2 with h2|⟨h2,h3⟩
 ·have:=(hF.2.2.2.2.choose_spec.2.scan n hn h2).1
  simp at this
 ·have:=((h.rd 0 ⟨ns,2,4,[]⟩ rfl).1 n hn h2).1
  omega
theorem CM(l:List bp):fa (some ⟨jh kinds ns,c,KS⟩) 0 0 l=some true:=rfl
theorem uv(l:List fU): ∃b,cA l [] kL=some b:=by
 unfold cA
 split
 ·exact⟨_,rfl⟩
 ·cases l with
  |nil=>exact⟨_,rfl⟩
  |cons a t=>rename_i h;simp at h;omega
theorem CN(hP:rp c (jh kinds ns) KS){j:Nat}{n:aB}(hn:ns[j]? =some n)(l:List bp):fa (some ⟨jh kinds ns,c,KS⟩) 1 (j:Int) l=some (!(n.Op==10)):=by
 have hr:Ac (1:Int) (jh kinds ns).Frags 0=[]:=ta ((hP.rd 1 ⟨ns,2,4,[]⟩ rfl).2.2.trans (df rfl))
 unfold fa
 rw [ce]
 show((fe (jh kinds ns).Frags ((1:Nat):Int)).bind _)=_
 rw [de]
 show((some (⟨ns,2,4,[]⟩:cU)).bind _)=_
 rw [ce,de,hn,ce]
 by_cases h:n.Op=10
 ·rw [df (by simp [h])]
  have hnext:iS (some ⟨jh kinds ns,c,KS⟩) 1=some ⟨0,0,0,0,[],false,⟨[]⟩,[],[],[],[],0⟩:=by
   unfold iS
   rw [ce,F9]
   show((some (match Ac (1:Int) (jh kinds ns).Frags 0 with|[]=>(0,0,false)|x::_=>(x.1,x.2,true))).bind _)=_
   rw [hr]
   rfl
  rw [hnext,ce]
  obtain⟨b,hb⟩:=uv n.Aggs
  rw [hb,ce,df (by simp)]
  simp [h]
 ·rw [dh (by simpa using h)]
  unfold iB
  rw [df (by simp)]
  simp [h]
def ol(ns:List aB):Int×Int×Int:=match ns[ns.length-1]? with
 |some n=>if n.Op=10 then(1,((ns.length-1:Nat):Int),280)else(0,0,0)
 |none=>(0,0,0)
theorem Be(hP:rp c (jh kinds ns) KS){K:List (List Int)}(hK:J7 ns K)(h1:1≤ns.length)(h60:ns.length≤60){ps:List bp}(hl:ps.length=ns.length)(hps: ∀k,k<ns.length→ps[k]? =some ⟨4,[]⟩):
  ∀(tl:List aB) (j:Nat),ns.drop j=tl→j≤ns.length→(∀(k:Nat) (n:aB),k<j→ns[k]? =some n→n.Op≠10)→gp (some ⟨jh kinds ns,c,KS⟩,0,0,0) (hY (some ⟨jh kinds ns,c,KS⟩,0,0,0) []) 1 ps tl j (-1) 0=some (ol ns)
 |[],j,hd,hj,hno=>by
  have hlen:=rf hd
  unfold gp
  rw [hl,j9 (by omega) (by omega),jg (ns.length-1) (by omega),hps _ (by omega),ce,dh (by simp)]
  unfold ol
  rw [mM (show ns.length-1<ns.length by omega)]
  show ly (-1) 0=_
  simp only []
  rw [dh (hno (ns.length-1) _ (by omega) (mM (by omega)))]
  rfl
 |n::tl,j,hd,hj,hno=>by
  obtain⟨hidx,hi,hd'⟩:=rP hd
  rw [de]at hidx
  unfold gp
  show((fa (some ⟨jh kinds ns,c,KS⟩) 1 (j:Int) ps).bind _)=_
  rw [CN hP hidx,ce]
  by_cases h:n.Op=10
  ·rw [df (by simp [h])]
   obtain⟨m,R,g1,_,_,_,_,g6⟩:=hK.at_ j hi
   rw [hidx]at g1
   cases g1
   have hlast:=g6 (.inr h)
   have e1:ns.length-1=j:=by omega
   unfold ol
   rw [e1,hidx]
   simp only []
   rw [df h]
   rfl
  ·rw [dh (by simp [h])]
   refine Be hP hK h1 h60 hl hps tl (j+1) hd' (by omega) (fun k m hk hm=>?_)
   by_cases hkj:k<j
   ·exact hno k m hkj hm
   ·have:k=j:=by omega
    subst this
    rw [hidx]at hm
    cases hm
    exact h
theorem B8(h1:1≤ns.length)(h60:ns.length≤60){K:List (List Int)}(hK:J7 ns K){ps:List bp}(hl:ps.length=ns.length)(hps: ∀k,k<ns.length→ps[k]? =some ⟨4,[]⟩):
  ∀(tl:List bp) (j:Nat),ps.drop j=tl→fc ns (ol ns) tl j=some true
 |[],j,hd=>by
  unfold fc
  by_cases h0:(ol ns).2.2=0
  ·rw [dh (by simp [h0]),ce]
  ·rw [df (by simpa using h0)]
   show((fe ns (IntKind.i64.wrap ((ns.length:Int)-(1:Int)))).bind _).bind _=_
   rw [j9 (by omega) (by omega),jg (ns.length-1) (by omega),mM (by omega),ce,ce]
   unfold ol at h0
   rw [mM (show ns.length-1<ns.length by omega)]at h0
   simp only []at h0
   by_cases ho:(ns[ns.length-1]'(by omega)).Op=10
   ·simp [ho]
   ·rw [dh ho]at h0
    exact absurd rfl h0
 |x::tl,j,hd=>by
  obtain⟨hidx,hi,hd'⟩:=rP hd
  rw [de,hps j (by omega)]at hidx
  cases hidx
  have hj:j<ns.length:=by omega
  unfold fc
  rw [df (by simp)]
  show(((fe ns (j:Int)).bind _).bind _)=_
  rw [de,mM hj,ce,ce]
  have ht:(((ns[j]).Op==(10:Int))&&((((ol ns).2.2 !=(280:Int))||((ol ns).1 !=(1:Int)))||((ol ns).2.1 !=(j:Int))))=false:=by
   by_cases ho:(ns[j]).Op=10
   ·obtain⟨m,R,g1,_,_,_,_,g6⟩:=hK.at_ j hj
    rw [mM hj]at g1
    cases g1
    have hlast:=g6 (.inr ho)
    have e1:ns.length-1=j:=by omega
    unfold ol
    rw [e1,mM hj]
    simp [ho]
   ·simp [ho]
  rw [ht,dh (by simp)]
  exact B8 h1 h60 hK hl hps tl (j+1) hd'
theorem B9(hs:qt c)(hns:nj ns): ∀(tl:List aU) (kinds:List Int),kinds.length+tl.length≤1000→gb c ns tl kinds=some true
 |[],kinds,hk=>by
  simp only [yf]at hk
  have hq:xM (jh kinds ns):=⟨by show 2≤100;omega,fun f hf=>by
   rcases gW.1 hf with rfl|hf
   ·exact⟨by show 1≤90;omega,fun n hn=>by
     rw [yg.1 hn]
     exact⟨by show 0≤5000;omega,by show kinds.length≤5000;omega,by show 0≤5000;omega,by show 0≤5000;omega,by show 0≤5000;omega,by show 0≤5000;omega,fun g hg=>(by cases hg),fun e he=>(by cases he)⟩⟩
   ·rw [yg.1 hf];exact hns⟩
  unfold gb
  show((lQ (jh kinds ns) c).bind fun r4=>(kN (jh kinds ns) c).bind fun r5=>if(r4.2.2 !=(0:Int))then some (((r4.2.2==r5.2.2)&&(r4.1==r5.1))&&(r4.2.1==r5.2.1))else(lP (jh kinds ns) c (1:Int)).bind fun r6=>if((r6.2 !=(0:Int))||((r6.1.length:Int) !=(ns.length:Int)))then some false else fc ns r5 r6.1 0)=some true
  obtain⟨p,i,a,e,hb,hcase⟩:=B4 hs hq
  rw [Cq hb,ce]
  rcases hcase with⟨he,hi,ha,KS,hp,hP⟩|he
  ·subst he;subst hi;subst ha;subst hp
   obtain⟨ps0,K0,_,hF0,hpr0,hl0,hpo0⟩:=w9 hs hP (i:=0) (f:=⟨[yU kinds],1,3,[]⟩) rfl
   obtain⟨ps,K,hK,hF,hpr,hl,hpo⟩:=w9 hs hP (i:=1) (f:=⟨ns,2,4,[]⟩) rfl
   have hps: ∀k,k<ns.length→ps[k]? =some ⟨4,[]⟩:=fun k hk=>by
    obtain⟨n,y,R,_,g2,_,_,g5,_⟩:=hpo k hk
    rw [g2,g5 rfl]
   have hS:kN (jh kinds ns) c=some (ol ns):=by
    unfold kN
    rw [hb,ce,dh (by simp)]
    show hY _ [⟨[yU kinds],1,3,[]⟩,⟨ns,2,4,[]⟩] 0 (-1) 0=_
    unfold hY
    have hpr0' :fb (some ⟨jh kinds ns,c,KS⟩) ((0:Nat):Int)=some ps0:=hpr0
    rw [hpr0',ce]
    show gp _ _ 0 ps0 [yU kinds] 0 (-1) 0=_
    unfold gp
    show((fa (some ⟨jh kinds ns,c,KS⟩) 0 0 ps0).bind _)=_
    rw [CM,ce,dh (by simp)]
    unfold gp
    obtain⟨n,y,R,g1,g2,_,_,_,g6⟩:=hpo0 0 (by show 0<1;omega)
    have hn:n=yU kinds:=by
     have:([yU kinds]:List aB)[0]? =some n:=g1
     simpa using this.symm
    have hy:=g6 rfl (by rw [hn];rfl)
    have hl0' :ps0.length=1:=hl0
    rw [hl0']
    show((fe ps0 (IntKind.i64.wrap (((1:Nat):Int)-1))).bind _)=_
    rw [j9 (by omega) (by omega),jg 0 (by omega),g2,ce,dh (by simp;omega)]
    unfold hY
    have hpr' :fb (some ⟨jh kinds ns,c,KS⟩) ((0+1:Nat):Int)=some ps:=hpr
    rw [hpr',ce]
    exact Be hP hF.1 hF.2.1 hF.2.2.1 hl hps ns 0 rfl (ju _) (fun k n hk=>by omega)
   rw [hS,ce,dh (by simp)]
   obtain⟨ps',K',hK',hF',hpr',hl',hpo'⟩:=HH hs hP hb (i:=1) (f:=⟨ns,2,4,[]⟩) rfl
   have hps' : ∀k,k<ns.length→ps'[k]? =some ⟨4,[]⟩:=fun k hk=>by
    obtain⟨n,y,R,_,g2,_,_,g5,_⟩:=hpo' k hk
    rw [g2,g5 rfl]
   have hpr2:lP (jh kinds ns) c (1:Int)=some (ps',0):=hpr'
   have hl2:ps'.length=ns.length:=hl'
   rw [hpr2,ce,dh (by simp [hl2])]
   exact B8 hF'.2.1 hF'.2.2.1 hF'.1 hl2 hps' ps' 0 rfl
  ·have hS:kN (jh kinds ns) c=some (i,a,e):=by
    unfold kN
    rw [hb,ce,df (by simpa using he)]
   rw [hS,ce,df (by simpa using he)]
   simp
 |t::tl,kinds,hk=>by
  unfold gb
  rw [gF (by simp at hk ⊢;omega),ce]
  exact B9 hs hns tl _ (by simp at hk ⊢;omega)
end
theorem xa(c:bz)(y:List aB):nG c y=some true:=by
 unfold nG
 rw [zV,ce,dh (by simp)]
 obtain⟨c',h1,hs,hcol⟩:=GO c
 obtain⟨ns,h2,hns⟩:=C8 y
 rw [h1,ce,h2,ce]
 have hq:xM ⟨[⟨ns,2,4,[]⟩]⟩:=⟨by show 1≤100;omega,fun f hf=>by rw [yg.1 hf];exact hns⟩
 obtain⟨p,i,a,e,hb,hcase⟩:=B4 hs hq
 rw [Cq hb,ce]
 rcases hcase with⟨_,_,_,KS,_,hP⟩|he
 ·exact(Ip hP).elim
 ·by_cases hT:c'.Tables.length=0
  ·rw [df (by simp [hT])]
   simp [he]
  ·rw [dh (by simp [he];exact fun h=>hT (by rw [h];rfl))]
   rw [jg 0 (show(0:Int)=((0:Nat):Int)from rfl),mM (by omega),ce]
   have:=hcol (c'.Tables[0]'(by omega)) (List.getElem_mem _)
   exact B9 hs hns _ [] (by simp;omega)
end Go.Proofs.YtmogpgcfognefaaGreatDoor

