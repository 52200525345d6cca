/- cP of this claim: E3. -/
import Derived.Test.YtbmmihfagmchaaaGreatRbE2
set_option linter.all false
namespace Go.Proofs.YtbmmihfagmchaaaGreat
open Go

def KF(t:am):List Int:=((iv t.Logic).getD ([],0)).1
def TB(t:am):List Int:=tabs t.Logic.Nodes
def UN(t:am):Bool:=t.Logic.Nodes.any ww
def A5{t:am}{sz:Nat->Nat}{ks:Nat->List Int}(af:sK t.Logic sz ks):KF t=ks (t.Logic.Nodes.length-1):=by
 unfold KF;rw [af.kinds];rfl
def A2{t:am}(h:ou t):iv t.Logic=some (KF t,0):=by
 obtain⟨sz,ks,af⟩:=gi h.ok.1 h.ok.2
 rw [A5 af,af.kinds]
def Dq{t:am}(h:ou t):(KF t).length<=16:=by
 obtain⟨sz,ks,af⟩:=gi h.ok.1 h.ok.2
 rw [A5 af];exact Ip af
def gI{n:aa}{a:aw}{sza szd:Nat->Nat}{ksa ksd:Nat->List Int}(Ka:sK a sza ksa)(Kd:sK (d1 n a) szd ksd):bc n (ksa (a.Nodes.length-1)) []=some (ksd a.Nodes.length,true)/\Br n.Op=true/\n.Op≠1/\n.Op≠2/\n.Op≠7:=by
 have la:=Ka.le
 have pa:=Ka.pos
 have hlen:=o0 n a
 have ld:=Kd.le
 have ua:=HW (l:=a) (d:=d1 n a) (e:=0) (m:=a.Nodes.length) Ka.all Kd.all (iQ _) (by omega) (by omega) (by omega) (fun j hj m hm=>by
  obtain⟨m',F⟩:=Ka.all j hj
  have e:m' =m:=by have:=F.node;rw [hm]at this;injection this with this;exact this.symm
  subst e
  rw [pL,QL hj,hm,uS Ka F hj]) (a.Nodes.length-1) (by omega)
 obtain⟨r,F⟩:=Kd.all a.Nodes.length (by omega)
 have hr:r=uA ((a.Nodes.length:Int)-1) (-1) n:=by
  have:=F.node
  rw [Pm]at this
  injection this with this
  exact this.symm
 subst hr
 have h:=F.kinds
 rw [ED]at h
 have eA:(uA ((a.Nodes.length:Int)-1) (-1) n).A=(a.Nodes.length:Int)-1:=rfl
 have eB:(uA ((a.Nodes.length:Int)-1) (-1) n).B= -1:=rfl
 have eO:(uA ((a.Nodes.length:Int)-1) (-1) n).Op=n.Op:=rfl
 rw [eA,eB,bo (by omega),bD (by omega)]at h
 rw [show((a.Nodes.length:Int)-1).toNat=0+(a.Nodes.length-1)from by omega,ua.2]at h
 refine⟨h,eO▸F.op,fun k=>?_,fun k=>?_,fun k=>?_⟩
 ·have:=(F.lf (eO.trans k)).1;rw [eA]at this;omega
 ·have:=(F.bi (.inl (eO.trans k))).2.1;rw [eB]at this;omega
 ·have:=(F.bi (.inr (eO.trans k))).2.1;rw [eB]at this;omega
def qR{n:aa}{p:am}(hp:ou p)(hs:ck n)(h:bQ (d1 n p.Logic)=true):bc n (KF p) []=some (KF (be n p),true)/\Br n.Op=true/\n.Op≠1/\n.Op≠2/\n.Op≠7:=by
 obtain⟨sza,ksa,Ka⟩:=gi hp.ok.1 hp.ok.2
 obtain⟨szd,ksd,Kd⟩:=gi (AQ hs hp.ok.1) h
 have:=gI Ka Kd
 rw [A5 Ka,A5 (t:=be n p) Kd]
 rw [show(be n p).Logic.Nodes.length-1=p.Logic.Nodes.length from by show(d1 n p.Logic).Nodes.length-1=_;rw [o0];rfl]
 exact this
def At{n:aa}{p q:am}(hp:ou p)(hq:ou q)(hs:ck n)(h:bQ (d2 n p.Logic q.Logic)=true):bc n (KF p) (KF q)=some (KF (cO n p q),true)/\(n.Op=2\/n.Op=7):=by
 obtain⟨sza,ksa,Ka⟩:=gi hp.ok.1 hp.ok.2
 obtain⟨szb,ksb,Kb⟩:=gi hq.ok.1 hq.ok.2
 obtain⟨szd,ksd,Kd⟩:=gi (AP hs hp.ok.1 hq.ok.1) h
 have:=Qg Ka Kb Kd
 rw [A5 Ka,A5 Kb,A5 (t:=cO n p q) Kd]
 have hl:=uz n p.Logic q.Logic
 rw [show(cO n p q).Logic.Nodes.length-1=p.Logic.Nodes.length+q.Logic.Nodes.length from by show(d2 n p.Logic q.Logic).Nodes.length-1=_;omega]
 refine⟨this,?_⟩
 obtain⟨r,F⟩:=Kd.all (p.Logic.Nodes.length+q.Logic.Nodes.length) (by omega)
 have hr:r=uA ((p.Logic.Nodes.length:Int)-1) ((p.Logic.Nodes.length:Int)+(q.Logic.Nodes.length:Int)-1) n:=by
  have:=F.node
  rw [Na]at this
  injection this with this
  exact this.symm
 have pp:=Ka.pos
 have pq:=Kb.pos
 by_cases J:r.Op=2\/r.Op=7
 ·rw [hr]at J;exact J
 ·exfalso
  by_cases Y:r.Op=1
  ·have:=(F.lf Y).2.1
   rw [hr]at this
   have e:(p.Logic.Nodes.length:Int)+(q.Logic.Nodes.length:Int)-1= -1:=this
   omega
  ·have:=(F.un Y (fun k=>J (.inl k)) (fun k=>J (.inr k))).2.2.1
   rw [hr]at this
   have e:(p.Logic.Nodes.length:Int)+(q.Logic.Nodes.length:Int)-1= -1:=this
   omega
def xU{n:aa}{a b k:List Int}(hop:n.Op=3)(h:bc n a b=some (k,true)):k=a/\Bm n.Cond a=true:=by
 unfold bc at h
 rw [bo (by simp [hop]),bo (by simp [hop]),bD (by simp [hop]),jW]at h
 simp only [bt]at h
 injection h with h
 injection h with h J
 exact⟨h.symm,J⟩
def EE{n:aa}{a b k:List Int}(hop:n.Op=6)(h:bc n a b=some (k,true)):k=a:=by
 unfold bc at h
 rw [bo (by simp [hop]),bo (by simp [hop]),bo (by simp [hop]),bo (by simp [hop]),bo (by simp [hop]),bD (by simp [hop])]at h
 injection h with h
 injection h with h _
 exact h.symm
def Hh{n:aa}{a b k:List Int}(hop:n.Op=2)(h:bc n a b=some (k,true)):k=a++b/\Bm n.Cond (a++b)=true:=by
 unfold bc at h
 rw [bo (by simp [hop]),bD (by simp [hop])]at h
 cases Y:jp ([]:List Int) a with
 |none=>rw [Y]at h;cases h
 |some l1=>
  rw [Y]at h
  simp only [bt]at h
  cases J:jp l1 b with
  |none=>rw [J]at h;cases h
  |some l2=>
   rw [J]at h
   simp only [bt,jW]at h
   injection h with h
   injection h with h Z
   have e:l2=a++b:=by rw [GH J,GH Y];simp
   subst e
   exact⟨h.symm,Z⟩
def zM(a b:List aa):tabs (a++b)=tabs a++tabs b:=by unfold tabs;rw [List.filter_append,yW]
def wj{n:aa}{p:am}(h:n.Op≠1):TB (be n p)=TB p:=by
 show tabs (p.Logic.Nodes++[_])=tabs p.Logic.Nodes
 rw [zM,show tabs [uA ((p.Logic.Nodes.length:Int)-1) (-1) n]=[]from by
  unfold tabs
  rw [Cv (by show¬((n.Op==1)=true);simp [h])];rfl,rD]
def Dj{n:aa}{p q:am}(h:n.Op≠1):TB (cO n p q)=TB p++TB q:=by
 show tabs ((p.Logic.Nodes++q.Logic.Nodes.map (oL (p.Logic.Nodes.length:Int)))++[_])=_
 rw [zM,zM,LE,show tabs [uA ((p.Logic.Nodes.length:Int)-1) ((p.Logic.Nodes.length:Int)+(q.Logic.Nodes.length:Int)-1) n]=[]from by
  unfold tabs
  rw [Cv (by show¬((n.Op==1)=true);simp [h])];rfl,rD]
 rfl
def rY(n:aa)(p:am):UN (be n p)=(UN p||ww n):=by
 show(p.Logic.Nodes++[_]).any ww=_
 rw [List.any_append,zt,List.any_nil,Bool.or_false]
 rfl
def GK(n:aa)(p q:am):UN (cO n p q)=((UN p||UN q)||ww n):=by
 show((p.Logic.Nodes++q.Logic.Nodes.map (oL (p.Logic.Nodes.length:Int)))++[_]).any ww=_
 rw [List.any_append,List.any_append,zt,List.any_nil,Bool.or_false,List.any_map]
 rfl
structure KS(t r:am):Prop where
 kinds:KF r=KF t
 tabs:TB r=TB t
 safe:UN t=false->UN r=false
def KS.refl(t:am):KS t t:=⟨rfl,rfl,id⟩
def KS.trans{t r s:am}(h:KS t r)(k:KS r s):KS t s:=⟨k.kinds.trans h.kinds,k.tabs.trans h.tabs,fun x=>k.safe (h.safe x)⟩
end Go.Proofs.YtbmmihfagmchaaaGreat

