/- co of this claim: Z1. -/
import Derived.Test.YtmogpgcfognefaaGreatDoorNeQ1
import Derived.Test.YtmogpgcfognefaaGreatDoorNeY9
import Derived.KernelRfl
set_option linter.all false
namespace Go.Proofs.YtmogpgcfognefaaGreatDoor
open Go

inductive F2{α β:Type}(R:α→β→Prop):List α→List β→Prop where
 |nil:F2 R [] []
 |cons {a:α} {b:β} {l:List α} {m:List β}:R a b→F2 R l m→F2 R (a::l) (b::m)
theorem F2.length_eq{α β:Type}{R:α→β→Prop}{l:List α}{m:List β}(h:F2 R l m):l.length=m.length:=by
 induction h with
 |nil=>rfl
 |cons _ _ ih=>rw [nG,nG,ih]
def G3(x:Int):bf:=⟨[⟨2,-1,-1,x,⟨0,0,0,[]⟩⟩]⟩
def Lh(n:Int):bf:=⟨[⟨1,-1,-1,0,⟨2,n,0,[]⟩⟩]⟩
def nW(e:bf):Prop:=(∃x:Int,(0≤x∧x<4)∧e=G3 x)∨ ∃n:Int,r64 n∧e=Lh n
def Il:List Int:=[2,2,2,2]
theorem QQ{x:Int}(h:0≤x∧x<4):G4 ⟨2,-1,-1,x,⟨0,0,0,[]⟩⟩=true:=by
 have:x=0∨x=1∨x=2∨x=3:=by omega
 rcases this with rfl|rfl|rfl|rfl<;>rfl
theorem QP(n:Int):G4 ⟨1,-1,-1,0,⟨2,n,0,[]⟩⟩=true:=rfl
theorem zQ{n:bc}(hp:pk n.Tag=some 0)(hc:G4 n=true)(hL:n.L= -1)(hR:n.R= -1):nN [n]=some (.lf n):=by
 have hw:(Tr.lf n).wf:=⟨hp,hc,hL,hR⟩
 have e:(Tr.lf n).flat 0=[n]:=by
  show [kh n (-1) (-1)]=[n]
  unfold kh
  rw [←hL]
  conv=>lhs;arg 1;rw [show({n with L:=n.L,R:=n.L}:bc)=n from by cases n;simp at hL hR ⊢;rw [hL,hR]]
 have:=F1 hw (show 1≤1000 by omega)
 rw [e]at this
 exact this
theorem Dl{x:Int}(h:0≤x∧x<4):nN (G3 x).Nodes=some (.lf ⟨2,-1,-1,x,⟨0,0,0,[]⟩⟩):=zQ rfl (QQ h) rfl rfl
theorem Dk(n:Int):nN (Lh n).Nodes=some (.lf ⟨1,-1,-1,0,⟨2,n,0,[]⟩⟩):=zQ rfl (QP n) rfl rfl
theorem DQ{e:bf}(h:nW e):rD e Il=(2,0):=by
 unfold rD oE
 rcases h with⟨x,hx,rfl⟩|⟨n,_,rfl⟩
 ·have:x=0∨x=1∨x=2∨x=3:=by omega
  rw [Dl hx]
  rcases this with rfl|rfl|rfl|rfl<;>rfl
 ·rw [Dk n]
  rfl
theorem GC{e:bf}(h:nW e):e.Nodes.length≤5000:=by
 rcases h with⟨x,_,rfl⟩|⟨n,_,rfl⟩<;>(show 1≤5000;omega)
def AF(r:List M):Prop:= ∀v∈r,∃n:Int,r64 n∧v=iV n
theorem AF.rg{r:List M}(h:AF r):Xf r:=fun v hv=>by
 obtain⟨n,hn,rfl⟩:=h v hv
 exact hn
theorem Mx(n:Int):md (iV n)=true:=rfl
theorem Ms(n:Int):mQ (iV n)=true:=rfl
def UG(r:List M)(e:bf):M:=match e.Nodes with
 |[n]=>if n.Tag=1 then n.Value else(r[n.Col.toNat]?).getD zV
 |_=>zV
theorem Ll{e:bf}(h:nW e){r:List M}(hr:AF r)(hl:r.length=4):sH e r=some (UG r e,0):=by
 rcases h with⟨x,hx,rfl⟩|⟨n,hn,rfl⟩
 ·rw [yh _ _ (by show 1≤50000;omega) (fun m hm=>by rw [uk.1 hm];show r64 0;unfold r64;omega) hr.rg]
  unfold Xj
  rw [Dl hx]
  have hlt:x.toNat<r.length:=by omega
  have hc:vk r (G3 x).Nodes=true:=by
   have hb:AL r x=true:=by
    obtain⟨n,_,hv⟩:=hr (r[x.toNat]) (Db hlt)
    unfold AL
    rw [pR hlt,Option.getD_some,hv,Mx]
    simp
    omega
   unfold vk
   show((!((2:Int)==2)||AL r x)&&true)=true
   rw [hb];rfl
  simp only [hc,oo]
  rfl
 ·rw [yh _ _ (by show 1≤50000;omega) (fun m hm=>by rw [uk.1 hm];exact hn) hr.rg]
  unfold Xj
  rw [Dk n]
  have hc:vk r (Lh n).Nodes=true:=rfl
  simp only [hc,oo]
  rfl
theorem OP{e:bf}(h:nW e){r:List M}(hr:AF r)(hl:r.length=4): ∃n:Int,r64 n∧UG r e=iV n:=by
 rcases h with⟨x,hx,rfl⟩|⟨n,hn,rfl⟩
 ·have hlt:x.toNat<r.length:=by omega
  show∃n,r64 n∧(r[x.toNat]?).getD zV=iV n
  rw [pR hlt]
  exact hr _ (Db hlt)
 ·exact⟨n,hn,rfl⟩
theorem Bp(r:xf): ∀(c:List Int) (vs out:xf),F2 (fun k v=>dR r k=some v) c vs→out.length+c.length≤1000→nr r c out=some (out++vs)
 |[],_,out,.nil,_=>by unfold nr;simp
 |k::c,v::vs,out,.cons h t,hl=>by
  rw [nG]at hl
  unfold nr
  rw [h,cq,dM (by simp;omega),cq,Bp r c vs _ t (by simp;omega)]
  simp
theorem wZ{r:xf}: ∀{c:List Int} {vs:xf},F2 (fun k v=>dR r k=some v) c vs→ ∀k∈c,0≤k∧k<(r.length:Int)
 |_,_,.cons h t,k,hk=>by
  rcases iC.1 hk with rfl|hk
  ·rcases Int.lt_or_le k 0 with h0|h0
   ·have:dR r k=none:=by
     unfold dR
     split
     ·omega
     ·rfl
    rw [this]at h
    cases h
   ·rw [nh k.toNat (by omega)]at h
    have:=(ox.1 h).1
    omega
  ·exact wZ t k hk
theorem DK{r:xf}(hr:AF r)(hl:r.length≤16):th r=true:=by
 unfold th
 rw [iP,ui,kZ]
 refine⟨hl,fun v hv=>?_⟩
 obtain⟨n,_,rfl⟩:=hr v hv
 exact Ms n
theorem LJ{r s:xf}{c d:List Int}{vs:xf}(hr:AF r)(hs:AF s)(hrl:r.length≤16)(hsl:s.length≤16)(hc:c.length≤16)(h1:F2 (fun k v=>dR r k=some v) c vs)(h2:F2 (fun k v=>dR s k=some v) d vs): ∃n:Int,mU r c=some (n,0)∧mU s d=some (n,0):=by
 have hcl:c.length=vs.length:=h1.length_eq
 have hdl:d.length=vs.length:=h2.length_eq
 have hok1:q6 r c=true:=by
  unfold q6
  rw [iP,ui,kZ]
  exact⟨hc,fun k hk=>by have:=wZ h1 k hk;simp;omega⟩
 have hok2:q6 s d=true:=by
  unfold q6
  rw [iP,ui,kZ]
  exact⟨by omega,fun k hk=>by have:=wZ h2 k hk;simp;omega⟩
 have e1:uF r c=some vs:=by
  have:=Bp r c vs [] h1 (by simp;omega)
  exact this
 have e2:uF s d=some vs:=by
  have:=Bp s d vs [] h2 (by simp;omega)
  exact this
 have hmem: ∀v∈vs,v∈r:=by
  intro v hv
  have: ∀{c:List Int} {vs:xf},F2 (fun k v=>dR r k=some v) c vs→ ∀v∈vs,v∈r:=by
   intro c vs h
   induction h with
   |nil=>intro v hv;cases hv
   |cons h _ ih=>
    intro v hv
    rcases iC.1 hv with rfl|hv
    ·rename_i k _ _ _
     rcases Int.lt_or_le k 0 with h0|h0
     ·have:dR r k=none:=by
       unfold dR
       split
       ·omega
       ·rfl
      rw [this]at h
      cases h
     ·rw [nh k.toNat (by omega)]at h
      exact sv h
    ·exact ih v hv
  exact this h1 v hv
 obtain⟨n,_,hn⟩:=BX vs [] (fun x hx=>by cases hx) (fun v hv=>by
  obtain⟨m,_,rfl⟩:=hr v (hmem v hv)
  exact⟨by show 0≤200;omega,by show(0:Int)≤0∧(0:Int)<18446744073709551616;omega⟩) (by simp;omega)
 have hn' :xE vs=some (n:Int):=hn
 refine⟨n,?_,?_⟩
 ·unfold mU xG
  rw [xF,e1]
  simp [J2,hok1,DK hr hrl,hn']
 ·unfold mU xG
  rw [xF,e2]
  simp [J2,hok2,DK hs hsl,hn']
end Go.Proofs.YtmogpgcfognefaaGreatDoor

