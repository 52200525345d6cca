/- cW of this claim: E3. -/
import Derived.Test.YtbmmihfagmchaaaGreatRcE2
set_option linter.all false
namespace Go.Proofs.YtbmmihfagmchaaaGreat
open Go

def KF(t:am):List Int:=((l0 t.Logic).getD ([],0)).1
def TB(t:am):List Int:=tabs t.Logic.Nodes
def UN(t:am):Bool:=t.Logic.Nodes.any zN
def A9{t:am}{sz:Nat->Nat}{ks:Nat->List Int}(ah:sS t.Logic sz ks):KF t=ks (t.Logic.Nodes.length-1):=by
 unfold KF;rw [ah.kinds];rfl
def K8{t:am}(h:nh t):l0 t.Logic=some (KF t,0):=by
 obtain⟨sz,ks,ah⟩:=gL h.ok.1 h.ok.2
 rw [A9 ah,ah.kinds]
def A8{t:am}(h:nh t):(KF t).length<=16:=by
 obtain⟨sz,ks,ah⟩:=gL h.ok.1 h.ok.2
 rw [A9 ah];exact Ix ah
def gV{n:aa}{a:aw}{sza szd:Nat->Nat}{ksa ksd:Nat->List Int}(Ka:sS a sza ksa)(Kd:sS (d1 n a) szd ksd):bk n (ksa (a.Nodes.length-1)) []=some (ksd a.Nodes.length,true)/\BZ n.Op=true/\n.Op≠1/\n.Op≠2/\n.Op≠7:=by
 have la:=Ka.le
 have pa:=Ka.pos
 have hlen:=ow n a
 have ld:=Kd.le
 have ua:=H3 (l:=a) (d:=d1 n a) (e:=0) (m:=a.Nodes.length) Ka.all Kd.all (dr _) (by omega) (by omega) (by omega) (fun j hj m hm=>by
  obtain⟨m',F⟩:=Ka.all j hj
  have e:m' =m:=by have:=F.node;rw [hm]at this;injection this with this;exact this.symm
  subst e
  rw [pS,QQ hj,hm,u5 Ka F hj]) (a.Nodes.length-1) (by omega)
 obtain⟨r,F⟩:=Kd.all a.Nodes.length (by omega)
 have hr:r=uL ((a.Nodes.length:Int)-1) (-1) n:=by
  have:=F.node
  rw [Pn]at this
  injection this with this
  exact this.symm
 subst hr
 have h:=F.kinds
 rw [EI]at h
 have eA:(uL ((a.Nodes.length:Int)-1) (-1) n).A=(a.Nodes.length:Int)-1:=rfl
 have eB:(uL ((a.Nodes.length:Int)-1) (-1) n).B= -1:=rfl
 have eO:(uL ((a.Nodes.length:Int)-1) (-1) n).Op=n.Op:=rfl
 rw [eA,eB,bn (by omega),bE (by omega)]at h
 rw [show((a.Nodes.length:Int)-1).toNat=0+(a.Nodes.length-1)from by omega,ua.2]at h
 refine⟨h,eO▸F.op,fun k=>?_,fun k=>?_,fun k=>?_⟩
 ·have:=(F.lf (eO.trans k)).1;rw [eA]at this;omega
 ·have:=(F.bi (.inl (eO.trans k))).2.1;rw [eB]at this;omega
 ·have:=(F.bi (.inr (eO.trans k))).2.1;rw [eB]at this;omega
def oY{n:aa}{p:am}(hp:nh p)(hs:cj n)(h:bS (d1 n p.Logic)=true):bk n (KF p) []=some (KF (aS n p),true)/\BZ n.Op=true/\n.Op≠1/\n.Op≠2/\n.Op≠7:=by
 obtain⟨sza,ksa,Ka⟩:=gL hp.ok.1 hp.ok.2
 obtain⟨szd,ksd,Kd⟩:=gL (AV hs hp.ok.1) h
 have:=gV Ka Kd
 rw [A9 Ka,A9 (t:=aS n p) Kd]
 rw [show(aS n p).Logic.Nodes.length-1=p.Logic.Nodes.length from by show(d1 n p.Logic).Nodes.length-1=_;rw [ow];rfl]
 exact this
def x8{n:aa}{p q:am}(hp:nh p)(hq:nh q)(hs:cj n)(h:bS (d2 n p.Logic q.Logic)=true):bk n (KF p) (KF q)=some (KF (cr n p q),true)/\(n.Op=2\/n.Op=7):=by
 obtain⟨sza,ksa,Ka⟩:=gL hp.ok.1 hp.ok.2
 obtain⟨szb,ksb,Kb⟩:=gL hq.ok.1 hq.ok.2
 obtain⟨szd,ksd,Kd⟩:=gL (AU hs hp.ok.1 hq.ok.1) h
 have:=Qj Ka Kb Kd
 rw [A9 Ka,A9 Kb,A9 (t:=cr n p q) Kd]
 have hl:=tq n p.Logic q.Logic
 rw [show(cr n p q).Logic.Nodes.length-1=p.Logic.Nodes.length+q.Logic.Nodes.length from by show(d2 n p.Logic q.Logic).Nodes.length-1=_;omega]
 refine⟨this,?_⟩
 obtain⟨r,F⟩:=Kd.all (p.Logic.Nodes.length+q.Logic.Nodes.length) (by omega)
 have hr:r=uL ((p.Logic.Nodes.length:Int)-1) ((p.Logic.Nodes.length:Int)+(q.Logic.Nodes.length:Int)-1) n:=by
  have:=F.node
  rw [MX]at this
  injection this with this
  exact this.symm
 have pp:=Ka.pos
 have pq:=Kb.pos
 by_cases J:r.Op=2\/r.Op=7
 ·rw [hr]at J;exact J
 ·exfalso
  by_cases Y:r.Op=1
  ·have:=(F.lf Y).2.1
   rw [hr]at this
   have e:(p.Logic.Nodes.length:Int)+(q.Logic.Nodes.length:Int)-1= -1:=this
   omega
  ·have:=(F.un Y (fun k=>J (.inl k)) (fun k=>J (.inr k))).2.2.1
   rw [hr]at this
   have e:(p.Logic.Nodes.length:Int)+(q.Logic.Nodes.length:Int)-1= -1:=this
   omega
def sN{n:aa}{a b k:List Int}(hop:n.Op=3)(h:bk n a b=some (k,true)):k=a/\Bt n.Cond a=true:=by
 unfold bk at h
 rw [bn (by simp [hop]),bn (by simp [hop]),bE (by simp [hop]),nW]at h
 simp only [bo]at h
 injection h with h
 injection h with h J
 exact⟨h.symm,J⟩
def EJ{n:aa}{a b k:List Int}(hop:n.Op=6)(h:bk n a b=some (k,true)):k=a:=by
 unfold bk at h
 rw [bn (by simp [hop]),bn (by simp [hop]),bn (by simp [hop]),bn (by simp [hop]),bn (by simp [hop]),bE (by simp [hop])]at h
 injection h with h
 injection h with h _
 exact h.symm
def C2{n:aa}{a b k:List Int}(hop:n.Op=2)(h:bk n a b=some (k,true)):k=a++b/\Bt n.Cond (a++b)=true:=by
 unfold bk at h
 rw [bn (by simp [hop]),bE (by simp [hop])]at h
 cases Y:jT ([]:List Int) a with
 |none=>rw [Y]at h;cases h
 |some l1=>
  rw [Y]at h
  simp only [bo]at h
  cases J:jT l1 b with
  |none=>rw [J]at h;cases h
  |some l2=>
   rw [J]at h
   simp only [bo,nW]at h
   injection h with h
   injection h with h Z
   have e:l2=a++b:=by rw [GO J,GO Y];simp
   subst e
   exact⟨h.symm,Z⟩
def zR(a b:List aa):tabs (a++b)=tabs a++tabs b:=by unfold tabs;rw [List.filter_append,yX]
def wu{n:aa}{p:am}(h:n.Op≠1):TB (aS n p)=TB p:=by
 show tabs (p.Logic.Nodes++[_])=tabs p.Logic.Nodes
 rw [zR,show tabs [uL ((p.Logic.Nodes.length:Int)-1) (-1) n]=[]from by
  unfold tabs
  rw [CC (by show¬((n.Op==1)=true);simp [h])];rfl,rR]
def Ds{n:aa}{p q:am}(h:n.Op≠1):TB (cr n p q)=TB p++TB q:=by
 show tabs ((p.Logic.Nodes++q.Logic.Nodes.map (oO (p.Logic.Nodes.length:Int)))++[_])=_
 rw [zR,zR,LB,show tabs [uL ((p.Logic.Nodes.length:Int)-1) ((p.Logic.Nodes.length:Int)+(q.Logic.Nodes.length:Int)-1) n]=[]from by
  unfold tabs
  rw [CC (by show¬((n.Op==1)=true);simp [h])];rfl,rR]
 rfl
def sk(n:aa)(p:am):UN (aS n p)=(UN p||zN n):=by
 show(p.Logic.Nodes++[_]).any zN=_
 rw [List.any_append,BH,List.any_nil,Bool.or_false]
 rfl
def GQ(n:aa)(p q:am):UN (cr n p q)=((UN p||UN q)||zN n):=by
 show((p.Logic.Nodes++q.Logic.Nodes.map (oO (p.Logic.Nodes.length:Int)))++[_]).any zN=_
 rw [List.any_append,List.any_append,BH,List.any_nil,Bool.or_false,List.any_map]
 rfl
structure KS(t r:am):Prop where
 kinds:KF r=KF t
 tabs:TB r=TB t
 safe:UN t=false->UN r=false
def KS.refl(t:am):KS t t:=⟨rfl,rfl,id⟩
def KS.trans{t r s:am}(h:KS t r)(k:KS r s):KS t s:=⟨k.kinds.trans h.kinds,k.tabs.trans h.tabs,fun x=>k.safe (h.safe x)⟩
end Go.Proofs.YtbmmihfagmchaaaGreat

