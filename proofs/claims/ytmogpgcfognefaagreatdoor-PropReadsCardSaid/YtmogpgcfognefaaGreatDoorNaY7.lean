/- cG of this claim: Y7. -/
import Derived.Test.YtmogpgcfognefaaGreatDoorNaY6
import Derived.KernelRfl
set_option linter.all false
namespace Go.Proofs.YtmogpgcfognefaaGreatDoor
open Go

theorem An:q5=some true:=by kernel_rfl
theorem tH{κ β:Type} [DecidableEq κ]{k k' :κ}{v w:β}: ∀{m:List (κ×β)},kE (fA m k v) k' =some w→k' =k∨kE m k' =some w
 |[],h=>by
  unfold fA kE at h
  split at h
  ·rename_i e;exact .inl e.symm
  ·exact .inr h
 |p::m,h=>by
  unfold fA at h
  split at h
  ·rename_i e
   unfold kE at h
   split at h
   ·rename_i e';exact .inl e'.symm
   ·refine .inr ?_
    unfold kE
    rw [di (by rw [e];assumption)]
    exact h
  ·unfold kE at h
   split at h
   ·refine .inr ?_
    unfold kE
    rw [dq (by assumption)]
    exact h
   ·rcases tH h with h|h
    ·exact .inl h
    ·refine .inr ?_
     unfold kE
     rw [di (by assumption)]
     exact h
section
variable{c:bA}{q:cZ}{KS:List (List (List Int))}
theorem Ib{p:Option bI}{i a e:Int}(h:jW q c=some (p,i,a,e)):oC q c=some (i,a,e):=by
 unfold oC
 rw [h];rfl
theorem H6(hs:qq c)(hP:vd c q KS)(hb:jW q c=some (some ⟨q,c,KS⟩,0,0,0)){i:Nat}{f:cT}(hf:q.Frags[i]? =some f): ∃ps K,KS[i]? =some K∧vR c f K∧m4 q c (i:Int)=some (ps,0)∧ps.length=f.Nodes.length∧ ∀k,k<f.Nodes.length→DW f K ps k:=by
 obtain⟨ps,K,h1,h2,h3,h4,h5⟩:=He hs hP hf
 refine⟨ps,K,h1,h2,?_,h4,h5⟩
 have hi:=(lJ.1 hf).1
 unfold m4
 rw [hb,cn,di (by simp),di (by simp;omega),h3]
 rfl
def Met(q:cZ)(i:Nat)(met:List ((Int×Int)×Bool)):Prop:= ∀k b,kE met k=some b→ ∃j:Nat,j<i∧(j+1<q.Frags.length→k∈yK (j:Int) q.Frags 0)
theorem vu{out:List (List Int)}{w e:Int}{i1:Nat}{R:List Int}(hR:out[i1]? =some R)(nx1:Nat→Option Bool)(h:nx1 (i1+1)=some true): ∀l:List Int,(∀x∈l,0≤x∧x<(R.length:Int))→iw (out,w,e) nx1 i1 l=some true
 |[],_=>h
 |x::tl,hx=>by
  have h1:=hx x (lI ..)
  unfold iw
  rw [dq (by simp;omega)]
  show((eZ out (i1:Int)).bind fun e5=>some (decide ((e5.length:Int)≤x))).bind _=_
  rw [c8,hR]
  simp only [cn]
  rw [di (by simp;omega)]
  exact vu hR nx1 h tl (fun y hy=>hx y (ly _ hy))
theorem vv(nx:Nat→List ((Int×Int)×Bool)→Option Bool)(i:Nat)(met:List ((Int×Int)×Bool))(r4:Int×Int×Bool){out:List (List Int)}{w e:Int}{f:cT}{ps:List bu}(hps: ∀k,k<f.Nodes.length→DW f out ps k)(hl:ps.length=f.Nodes.length)(hnx:nx (i+1) (fA met (k2 [r4.1,r4.2.1]) true)=some true):
  ∀(tl:List bu) (i1:Nat),ps.drop i1=tl→fg nx i met r4 (out,w,e) tl i1=some true
 |[],i1,_=>hnx
 |x::tl,i1,hd=>by
  obtain⟨hidx,hi,hd'⟩:=rM hd
  rw [c8]at hidx
  obtain⟨n,y,R,g1,g2,g3,g4,_⟩:=hps i1 (by omega)
  rw [hidx]at g2
  cases g2
  unfold fg
  have hc:((x.Kind==(2:Int)) !=(decide ((0:Int)<(x.Cols.length:Int))))=false:=by
   have:=g4.cols
   by_cases hk:x.Kind=2
   ·have h2:=this.1 hk
    simp [hk];exact h2
   ·have h2: ¬0<x.Cols.length:=fun h=>hk (this.2 h)
    have h3:x.Cols=[]:=sB (by omega)
    simp [hk,h3]
  rw [di (by rw [hc];simp)]
  exact vu g3 _ (vv nx i met r4 hps hl hnx tl (i1+1) hd') x.Cols g4.inr
theorem vw(hs:qq c)(hq:vc q)(hP:vd c q KS)(hb:jW q c=some (some ⟨q,c,KS⟩,0,0,0)):
  ∀(tl:List cT) (i:Nat) (met:List ((Int×Int)×Bool)),q.Frags.drop i=tl→Met q i met→eC c q tl i met=some true
 |[],_,_,_,_=>rfl
 |f::tl,i,met,hd,hm=>by
  obtain⟨hidx,hi,hd'⟩:=rM hd
  rw [c8]at hidx
  have h30:=hP.n30
  obtain⟨hinp,hlast,hrd⟩:=hP.rd i f hidx
  obtain⟨ps,K,hK,hF,hps,hpl,hpo⟩:=H6 hs hP hb hidx
  unfold eC
  rw [Gw,cn]
  -- what is behind the reader
  have rest: ∀r4:Int×Int×Bool,(i+1<q.Frags.length→(r4.1,r4.2.1)∈yK (i:Int) q.Frags 0)→((m4 q c (i:Int)).bind fun r5=>(lT f.Nodes).bind fun r6=>if(((r5.2 !=(0:Int))||(r6.2.2 !=(0:Int)))||((r5.1.length:Int) !=(r6.1.length:Int)))then some false else fg (eC c q tl) i met r4 r6 r5.1 0)=some true:=by
   intro r4 hr4
   rw [hps,cn,hF.2.2.2.1,cn,di (by simp [hpl,hF.1.len])]
   refine vv _ i met r4 hpo hpl ?_ ps 0 rfl;refine vw hs hq hP hb tl (i+1) _ hd' (fun k b hk=>?_)
   rcases tH hk with h|h
   ·exact⟨i,by omega,fun hlt=>by rw [h];exact hr4 hlt⟩
   ·obtain⟨j,h1,h2⟩:=hm k b h
    exact⟨j,by omega,h2⟩
  by_cases hl:i+1=q.Frags.length
  ·have h0:yK (i:Int) q.Frags 0=[]:=sB (by rw [hrd,dq hl])
   rw [h0]
   show(if(false !=(decide ((i:Int)<(IntKind.i64.wrap ((q.Frags.length:Int)-(1:Int))))))then some false else _)=_
   rw [kF (by omega) (by omega),di (by simp;omega),di (by simp),cn,di (by simp)]
   exact rest _ (fun h=>by omega)
  ·have h1:(yK (i:Int) q.Frags 0).length=1:=by rw [hrd];exact di hl
   obtain⟨x,hx⟩:=List.length_eq_one_iff.1 h1
   obtain⟨a,g,j,n,e1,e2,e3,e4,e5⟩:=wv (x:=x) (from1:=(i:Int)) (fs:=q.Frags) (i:=0) (by rw [hx];simp)
   rw [mu]at e3
   have hlt:(i:Int)<(a:Int):=by
    have:=((hP.rd a g e1).1 n (nV e2) e4).1
    rw [e5]at this
    exact this
   rw [hx,e3]
   show(if(true !=(decide ((i:Int)<(IntKind.i64.wrap ((q.Frags.length:Int)-(1:Int))))))then some false else _)=_
   rw [kF (by omega) (by omega),di (by simp;omega),dq rfl]
   have hmet:(kE met (k2 [(a:Int),(j:Int)])).getD false=false:=by
    cases hg:kE met (k2 [(a:Int),(j:Int)])with
    |none=>rfl
    |some b=>
     exfalso
     obtain⟨j',h1,h2⟩:=hm _ b hg
     obtain⟨a',g',j2,n',f1,f2,f3,f4,f5⟩:=wv (h2 (by omega))
     rw [mu]at f3
     have f3' :((a:Int),(j:Int))=((a' :Int),(j2:Int)):=f3
     injection f3' with f6 f7
     have:a=a' :=by omega
     subst this
     have:j=j2:=by omega
     subst this
     rw [e1]at f1
     cases f1
     rw [e2]at f2
     cases f2
     rw [e5]at f5
     omega
   have ht:((if(!((decide ((a:Int)≤(i:Int)))||((kE met (k2 ([(a:Int),(j:Int)]))).getD false)))then((eZ q.Frags (a:Int)).bind fun e1=>(eZ e1.Nodes (j:Int)).bind fun e2=>some (e2.Table !=(i:Int)))else some true).bind fun t1=>some t1)=some false:=by
    rw [hmet,dq (by simp;omega),c8,e1,cn,c8,e2,cn,e5]
    simp
   rw [ht,cn,di (by simp)]
   exact rest _ (fun _=>by rw [hx,e3];simp)
end
theorem xq(c:bA)(q:cZ):nP c q=some true:=by
 unfold nP
 rw [An,cn,di (by simp)]
 obtain⟨c',h1,hs,_⟩:=G8 c
 obtain⟨q',h2,hq⟩:=LF q
 rw [h1,cn,h2,cn]
 obtain⟨p,i,a,e,hb,hcase⟩:=HY hs hq
 rw [Ib hb,cn]
 rcases hcase with⟨he,hi,ha,KS,hp,hP⟩|he
 ·subst he;subst hi;subst ha;subst hp
  rw [di (by simp)]
  exact vw hs hq hP hb q'.Frags 0 [] rfl (fun k b h=>by cases h)
 ·rw [dq (by simpa using he)]
end Go.Proofs.YtmogpgcfognefaaGreatDoor

