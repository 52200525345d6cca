import Derived.Test.YtaehdhmbgmbgiaaGreatDoorKkE2
set_option linter.all false
namespace Go.Proofs.YtaehdhmbgmbgiaaGreatDoor
open Go
def KF(t:aB):List Int:=((o6 t.D').getD ([],0)).1
def TB(t:aB):List Int:=agw t.D'.j'
def UN(t:aB):Bool:=t.D'.j'.any Nl
def Jn{t:aB}{sz:Nat->Nat}{ks:Nat->List Int}(K:xo t.D' sz ks):KF t=ks (t.D'.j'.length-1):=by
 unfold KF;rw [K.v'];rfl
def abJ{t:aB}(h:pc t):o6 t.D'=some (KF t,0):=by
 obtain⟨sz,ks,K⟩:=jt h.ok.1 h.ok.2;rw [Jn K,K.v']
def FH{t:aB}(h:pc t):(KF t).length<=16:=by
 obtain⟨sz,ks,K⟩:=jt h.ok.1 h.ok.2;rw [Jn K];exact Yp K
def lU{n:ai}{a:aZ}{sza szd:Nat->Nat}{ksa ksd:Nat->List Int}(Ka:xo a sza ksa)(Kd:xo (d1 n a) szd ksd):bB n (ksa (a.j'.length-1)) []=some (ksd a.j'.length,true)/\JP n.Op=true/\n.Op≠1/\n.Op≠2/\n.Op≠7:=by
 have la:=Ka.le;have pa:=Ka.pos;have hlen:=sQ n a;have ld:=Kd.le;have ua:=KJ (l:=a) (d:=d1 n a) (e:=0) (m:=a.j'.length) Ka.all Kd.all (kG _) (by omega) (by omega) (by omega) (fun j hj m hm=>by
  obtain⟨m',F⟩:=Ka.all j hj;have e:m' =m:=by have:=F.node;rw [hm]at this;injection this with this;exact this.symm
  subst e;rw [u9,aeF hj,hm,wq Ka F hj]) (a.j'.length-1) (by omega)
 obtain⟨r,F⟩:=Kd.all a.j'.length (by omega);have hr:r=AR ((a.j'.length:Int)-1) (-1) n:=by
  have:=F.node;rw [aeD]at this;injection this with this;exact this.symm
 subst hr;have h:=F.v';rw [SI]at h;have eA:(AR ((a.j'.length:Int)-1) (-1) n).A=(a.j'.length:Int)-1:=rfl;have eB:(AR ((a.j'.length:Int)-1) (-1) n).B= -1:=rfl;have eO:(AR ((a.j'.length:Int)-1) (-1) n).Op=n.Op:=rfl;rw [eA,eB,aR (by omega),bz (by omega)]at h;rw [show((a.j'.length:Int)-1).toNat=0+(a.j'.length-1)from by omega,ua.2]at h;refine⟨h,eO▸F.op,fun k=>?_,fun k=>?_,fun k=>?_⟩
 ·have:=(F.lf (eO.trans k)).1;rw [eA]at this;omega
 ·have:=(F.bi (.inl (eO.trans k))).2.1;rw [eB]at this;omega
 ·have:=(F.bi (.inr (eO.trans k))).2.1;rw [eB]at this;omega
def oU{n:ai}{p:aB}(hp:pc p)(hs:cI n)(h:ci (d1 n p.D')=true):bB n (KF p) []=some (KF (bE n p),true)/\JP n.Op=true/\n.Op≠1/\n.Op≠2/\n.Op≠7:=by
 obtain⟨sza,ksa,Ka⟩:=jt hp.ok.1 hp.ok.2;obtain⟨szd,ksd,Kd⟩:=jt (GZ hs hp.ok.1) h;have:=lU Ka Kd;rw [Jn Ka,Jn (t:=bE n p) Kd];rw [show(bE n p).D'.j'.length-1=p.D'.j'.length from by show(d1 n p.D').j'.length-1=_;rw [sQ];rfl];exact this
def CX{n:ai}{p q:aB}(hp:pc p)(hq:pc q)(hs:cI n)(h:ci (d2 n p.D' q.D')=true):bB n (KF p) (KF q)=some (KF (dg n p q),true)/\(n.Op=2\/n.Op=7):=by
 obtain⟨sza,ksa,Ka⟩:=jt hp.ok.1 hp.ok.2;obtain⟨szb,ksb,Kb⟩:=jt hq.ok.1 hq.ok.2;obtain⟨szd,ksd,Kd⟩:=jt (Mt hs hp.ok.1 hq.ok.1) h;have:=aiN Ka Kb Kd;rw [Jn Ka,Jn Kb,Jn (t:=dg n p q) Kd];have hl:=Ai n p.D' q.D';rw [show(dg n p q).D'.j'.length-1=p.D'.j'.length+q.D'.j'.length from by show(d2 n p.D' q.D').j'.length-1=_;omega];refine⟨this,?_⟩;obtain⟨r,F⟩:=Kd.all (p.D'.j'.length+q.D'.j'.length) (by omega);have hr:r=AR ((p.D'.j'.length:Int)-1) ((p.D'.j'.length:Int)+(q.D'.j'.length:Int)-1) n:=by
  have:=F.node;rw [abd]at this;injection this with this;exact this.symm
 have pp:=Ka.pos;have pq:=Kb.pos;by_cases M:r.Op=2\/r.Op=7
 ·rw [hr]at M;exact M
 ·exfalso;by_cases I:r.Op=1
  ·have:=(F.lf I).2.1;rw [hr]at this;have e:(p.D'.j'.length:Int)+(q.D'.j'.length:Int)-1= -1:=this;omega
  ·have:=(F.un I (fun k=>M (.inl k)) (fun k=>M (.inr k))).2.2.1;rw [hr]at this;have e:(p.D'.j'.length:Int)+(q.D'.j'.length:Int)-1= -1:=this;omega
def pV{n:ai}{a b k:List Int}(hop:n.Op=3)(h:bB n a b=some (k,true)):k=a/\Ax n.J' a=true:=by
 unfold bB at h;rw [aR (by simp [hop]),aR (by simp [hop]),bz (by simp [hop]),m0]at h;simp only [bw]at h;injection h with h;injection h with h M;exact⟨h.symm,M⟩
def SK{n:ai}{a b k:List Int}(hop:n.Op=6)(h:bB n a b=some (k,true)):k=a:=by
 unfold bB at h;rw [aR (by simp [hop]),aR (by simp [hop]),aR (by simp [hop]),aR (by simp [hop]),aR (by simp [hop]),bz (by simp [hop])]at h;injection h with h;injection h with h _;exact h.symm
def JW{n:ai}{a b k:List Int}(hop:n.Op=2)(h:bB n a b=some (k,true)):k=a++b/\Ax n.J' (a++b)=true:=by
 unfold bB at h;rw [aR (by simp [hop]),bz (by simp [hop])]at h
 cases I:app ([]:List Int) a with
 |none=>rw [I]at h;cases h
 |some l1=>
  rw [I]at h;simp only [bw]at h
  cases M:app l1 b with
  |none=>rw [M]at h;cases h
  |some l2=>
   rw [M]at h;simp only [bw,m0]at h;injection h with h;injection h with h h3;have e:l2=a++b:=by rw [sT M,sT I];simp
   subst e;exact⟨h.symm,h3⟩
structure KS(t r:aB):Prop where
 v':KF r=KF t
 agw:TB r=TB t
 safe:UN t=false->UN r=false
