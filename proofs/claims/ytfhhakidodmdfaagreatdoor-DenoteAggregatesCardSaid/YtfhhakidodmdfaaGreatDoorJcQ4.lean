/- di of this claim: J14. -/
import Derived.Test.YtfhhakidodmdfaaGreatDoorJcQ3
set_option linter.all false
namespace Go.Proofs.YtfhhakidodmdfaaGreatDoor
open Go

theorem JG: ∀n∈ZD.Nodes,FE n∧rgN n:=by
 intro n hn
 have h0:Jm ([]:List bC):=fun x hx=>by cases hx
 have h1:Jm [(⟨2,-1,-1,0,⟨0,0,0,[]⟩⟩:bC)]:=by
  intro x hx
  rw [Do.1 hx]
  unfold r64
  show -9223372036854775808≤(0:Int)∧(0:Int)≤9223372036854775807
  omega
 unfold ZD at hn
 simp only [gk,Gz,or_false]at hn
 rcases hn with h|h
 ·subst h
  exact⟨⟨by decide,by decide,by decide,by decide,by decide,by decide,fun e he=>by(cases he),fun g hg=>by(cases hg)⟩,⟨h0,fun e he=>by(cases he),fun g hg=>by(cases hg)⟩⟩
 ·subst h
  refine⟨⟨by decide,by decide,by decide,by decide,by decide,by decide,fun e he=>by(cases he),fun g hg=>?_⟩,⟨h0,fun e he=>by(cases he),fun g hg=>?_⟩⟩
  ·simp only [gk,Gz,or_false]at hg
   rcases hg with q|q<;>rw [q]<;>decide
  ·simp only [gk,Gz,or_false]at hg
   rcases hg with q|q
   ·rw [q];exact h0
   ·rw [q];exact h1
theorem TR:Rs wkB:=by
 intro t ht r hr v hv
 unfold wkB at ht
 simp only [gk,Gz,or_false]at ht
 subst ht
 simp only [gk,Gz,or_false]at hr
 unfold r64
 rcases hr with q|q|q<;>subst q<;>rw [Do.1 hv]<;>decide
theorem Mf:uH=some true:=by
 obtain⟨sz,ks,T⟩:=TT (fun n hn=>(JG n hn).1.g (JG n hn).2) TR Q6 (by kernel_rfl)
 have h:=Cw T (by kernel_rfl)
 rw [TQ]at h
 unfold uH
 show((sn ZD wkB).bind _)=_
 rw [h]
 rfl
theorem DE(a:gv)(rows:List cU)(ha:Jm a.Arg.Nodes)(hr:Dw rows):kp a rows=some true:=by
 unfold kp
 rw [Mf,bu,aX (by decide)]
 obtain⟨w,h1,h2⟩:=Kq rows 100
 obtain⟨v,h3,h4⟩:=Kr a.Arg
 rw [show((100:Nat):Int)=100 from rfl]at h1
 rw [h1,bu,h3]
 cases w with
 |true=>rfl
 |false=>
  cases v with
  |true=>rfl
  |false=>
   have hle:=h4 rfl
   obtain⟨hrl,hrr⟩:=h2 rfl
   simp only [xw,fM,bu,gL,eT]
   have hright:qz rows=some (oL rows):=by rw [DA];simp;omega
   have herr:((uE rows).bind fun r4=>some (r4==(0:Int)))=some (oL rows):=by
    rw [EL rows (by omega)]
    cases oL rows<;>rfl
   have hok: ∀ok:Bool,(ok=true→a.Tag=1∨a.Tag=2∨a.Tag=3∨a.Tag=4∨a.Tag=5)→((ke a rows ok).bind fun r3=>gM a rows r3 ok)=some true:=by
    intro ok ht
    unfold ke gM
    cases ok with
    |false=>rfl
    |true=>
     rw [aX (by decide),sJ a (by omega) ha (ht rfl) hr (by omega),bu,bu,aX (by decide),tJ a ha hr (by omega),bu]
     simp
   unfold ro
   by_cases ht:1≤a.Tag∧a.Tag≤5
   ·have et:((decide ((1:Int)≤a.Tag))&&(decide (a.Tag≤(5:Int))))=true:=by simp [ht.1,ht.2]
    rw [et]
    simp only [fM]
    rw [hright,herr]
    simp only [bu]
    have h15:a.Tag=1∨a.Tag=2∨a.Tag=3∨a.Tag=4∨a.Tag=5:=by omega
    by_cases h1:a.Tag=1
    ·rw [bk (by simpa using h1)]
     simp only [bk (show(a.Tag==1)=true by simpa using h1)]
     exact hok _ (fun _=>h15)
    ·rw [aX (by simpa using h1)]
     simp only [aX (show¬(a.Tag==1)=true by simpa using h1)]
     have ex:(if oL rows=true then((ol a.Arg).bind fun r2=>some (r2==(0:Int)))else some false)=some (oL rows&&jd a.Arg.Nodes):=by
      rw [rJ a.Arg (by omega)]
      cases oL rows<;>cases jd a.Arg.Nodes<;>rfl
     have ex2:(if oL rows=true then((nX a.Arg).bind fun r6=>some r6)else some false)=some (oL rows&&jd a.Arg.Nodes):=by
      rw [tL a.Arg]
      cases oL rows<;>cases jd a.Arg.Nodes<;>rfl
     rw [ex,ex2]
     simp only [bu]
     exact hok _ (fun _=>h15)
   ·have et:((decide ((1:Int)≤a.Tag))&&(decide (a.Tag≤(5:Int))))=false:=by
     rw [sL]
     simp only [pG,mz,lX]
     exact ht
    rw [et]
    simp only [gL,eT,bu,CP]
    have:=hok false (fun h=>by cases h)
    simpa using this
end Go.Proofs.YtfhhakidodmdfaaGreatDoor

