import Derived.Test.YtadeokalnbmppaaGreatDoorReY12
set_option linter.all false
namespace Go.Proofs.YtadeokalnbmppaaGreatDoor
open Go IntKind
def VB(n:ac):Bool:=((((decide ((0:Int)<=n.M'))&&(decide (n.M'<(30:Int))))&&(decide ((1:Int)<=(n.U'.length:Int))))&&(decide ((n.U'.length:Int)<=(16:Int))))&&n.U'.all fun k=>decide (0<=k)&&decide (k<=4)
def PP(l:ap):jU l=some (VB l.n,{l with B':=l.n.U'}):=by
 unfold jU;rw [iv (f:=qz) (g:=fun k=>(decide (k<(0:Int)))||(decide ((4:Int)<k))) (fun _=>rfl),bh];have e3:(!(l.n.U'.any fun k=>(decide (k<(0:Int)))||(decide ((4:Int)<k))))=l.n.U'.all fun k=>decide (0<=k)&&decide (k<=4):=by
  rw [LU];congr 1;funext k;rw [uQ];simp
 show some ((((((!(l.n.U'.any fun k=>(decide (k<(0:Int)))||(decide ((4:Int)<k))))&&(decide ((0:Int)<=l.n.M')))&&(decide (l.n.M'<(30:Int))))&&(decide ((0:Int)<(l.n.U'.length:Int))))&&(decide ((l.n.U'.length:Int)<=(16:Int)))),({l with B':=l.n.U'}:ap))=_;rw [e3];unfold VB;have e2:decide ((0:Int)<(l.n.U'.length:Int))=decide ((1:Int)<=(l.n.U'.length:Int)):=by rw [BI];omega
 rw [e2];congr 2;cases (l.n.U'.all fun k=>decide (0<=k)&&decide (k<=4))<;>simp
def fk(g:fh)(k:Int):Int×Bool:=
 if g.Tag=1\/g.Tag=2 then(k,((g.N_.u'.length:Int)==0)&&k==2)else if g.Tag=3 then(2,((g.N_.u'.length:Int)==0)&&k==4)else if g.Tag=4\/g.Tag=5 then(k,((g.N_.u'.length:Int)==0)&&k !=4)else(k,false)
def NJ{l:ap}(hk:l.n.I'.length<=5000): ∀(gs:List fh) (i:Nat) (ok:Bool) (pre suf:List Int),pre.length=l.n.I'.length+i->suf.length=gs.length->l.a_.drop (l.n.I'.length+i)=suf->pre.length+suf.length<=20000->
  dd l gs i ok {l with B':=pre++suf}=some (ok&&(gs.zip suf).all (fun p=>(fk p.1 p.2).2),{l with B':=pre++List.zipWith (fun g k=>(fk g k).1) gs suf})
 |[],i,ok,pre,suf,D,V,Z,h4=>by
  have:suf=[]:=uS V;subst this;unfold dd;simp
 |g::tl,i,ok,pre,[],D,V,Z,h4=>by simp at V
 |g::tl,i,ok,pre,x::suf,D,V,Z,h4=>by
  simp only [jr,LW]at V h4;obtain⟨g1,g2,g3⟩:=im Z;have fin: ∀(ok2:Bool) (y:Int),ok2=(ok&&(fk g x).2)->y=(fk g x).1->dd l tl (i+1) ok2 {l with B':=pre++y::suf}=some (ok&&((g::tl).zip (x::suf)).all (fun p=>(fk p.1 p.2).2),{l with B':=pre++List.zipWith (fun g k=>(fk g k).1) (g::tl) (x::suf)}):=by
   intro ok2 y e1 e2;rw [show pre++y::suf=(pre++[y])++suf from by simp,NJ hk tl (i+1) ok2 (pre++[y]) suf (by simp;omega) V (by rw [<-g3];congr 1) (by simp;omega),e1,e2];simp [wW]
  have key: ∀b:Bool,b=(g.Tag==1||g.Tag==2)->j5 l (dd l tl) i g ok {l with B':=pre++x::suf} x b=some (ok&&((g::tl).zip (x::suf)).all (fun p=>(fk p.1 p.2).2),{l with B':=pre++List.zipWith (fun g k=>(fk g k).1) (g::tl) (x::suf)}):=by
   intro b K;unfold j5;by_cases h12:g.Tag=1\/g.Tag=2
   ·rw [bq (by rw [K];simpa using h12)];exact fin _ x (by unfold fk;rw [bq h12,wW]) (by unfold fk;rw [bq h12])
   ·rw [aZ (by rw [K];simpa using h12)];by_cases Z:g.Tag=3
    ·rw [bq (by simp [Z])];show((dm (pre++x::suf) (i64.wrap ((l.n.I'.length:Int)+(i:Int)))).bind _)=_;rw [EN (by omega),bR,<-D,sE (eX _),pX];simp only [J9,bh];have e3:(pre++x::suf).set ((pre.length:Int)).toNat 2=pre++2::suf:=by
      rw [yJ,IU _ _ (eX _),pX];rfl
     rw [e3];exact fin _ 2 (by unfold fk;rw [aZ h12,bq Z,wW]) (by unfold fk;rw [aZ h12,bq Z])
    ·rw [aZ (by simpa using Z)];unfold nD;by_cases h4:g.Tag=4
     ·rw [bq (by simp [h4]),bq (by simp [h4])];exact fin _ x (by unfold fk;rw [aZ h12,aZ Z,bq (.inl h4),wW]) (by unfold fk;rw [aZ h12,aZ Z,bq (.inl h4)])
     rw [aZ (by simpa using h4)];by_cases h5:g.Tag=5
     ·rw [bq (by simp [h5])];exact fin _ x (by unfold fk;rw [aZ h12,aZ Z,bq (.inr h5),wW]) (by unfold fk;rw [aZ h12,aZ Z,bq (.inr h5)])
     rw [aZ (by simpa using h5)];have h45: ¬(g.Tag=4\/g.Tag=5):=by omega
     exact fin _ x (by unfold fk;rw [aZ h12,aZ Z,aZ h45,Bool.and_false]) (by unfold fk;rw [aZ h12,aZ Z,aZ h45])
  unfold dd;show((dm l.a_ (i64.wrap ((l.n.I'.length:Int)+(i:Int)))).bind _)=_;rw [EN (by omega),g1,bh];by_cases Y:g.Tag=1
  ·rw [bq (by simp [Y])];exact key _ (by simp [Y])
  ·rw [aZ (by simpa using Y)];exact key _ (by simp [Y])
def PJ(a:List Int):List Int->Nat->Bool
 |[],_=>true
 |k::tl,i=>((k==(i:Int))&&((a[i]?).getD 4 !=4))&&PJ a tl (i+1)
def JA{l:ap}(hl:l.n.I'.length<=l.a_.length)(r:List Int): ∀(ks:List Int) (i:Nat) (ok:Bool),i+ks.length=l.n.I'.length->iW l r ks i ok=dd l l.n.L' 0 (ok&&PJ l.a_ ks i) {l with B':=r}
 |[],i,ok,_=>by unfold iW PJ;simp
 |k::tl,i,ok,hi=>by
  simp only [jr]at hi;have o_:i<l.a_.length:=by omega
  unfold iW;have:(if(ok&&(k==(i:Int)))then((dm l.a_ (i:Int)).bind fun e5=>some (e5 !=(4:Int)))else some false)=some (ok&&((k==(i:Int))&&((l.a_[i]?).getD 4 !=4))):=by
   rw [bR,qV o_];cases ok<;>cases (k==(i:Int))<;>rfl
  rw [this,bh,JA hl r tl (i+1) _ (by omega)];congr 1;show _=(ok&&(((k==(i:Int))&&((l.a_[i]?).getD 4 !=4))&&PJ l.a_ tl (i+1)));rw [wW]
def Dh(n:ac):Bool:=(A4 n).getD false
def Rj{n:ac}(h:n.Op=10\/n.Op=11):Dh n=ye {n with Op:=4}:=by
 unfold Dh A4 tp;rcases h with h|h
 ·rw [aZ (by simp [h]),bq (by simp [h]),bq (by simp [h]),oh];rfl
 ·rw [aZ (by simp [h]),aZ (by simp [h]),bq (by simp [h]),oh];rfl
def Xt{n:ac}(h:F7 n.Op=true):Dh n=ye n:=by
 unfold Dh A4 tp;have:=lE h;rw [aZ (by simp;omega),aZ (by simp;omega),aZ (by simp;omega),oh];rfl
def Qx{n:ac}(hs:d9 n)(h:0<=sZ n.Op):uj n=some (Dh n):=by
 have hk:=hs.keys;have H:=hs.z_;have e:(i64.wrap ((n.I'.length:Int)+(n.L'.length:Int))==0)=(n.I'.isEmpty&&n.L'.isEmpty):=by
  rw [cJ (by omega) (by omega),<-XD,<-XD,uQ];simp only [jJ,vD];omega
 unfold uj;rw [e];clear e hk H hs;obtain⟨op,A,B,Q7,j',left,cond,keys,z_,items,order,limit⟩:=n;have p_:op=1\/op=2\/op=3\/op=4\/op=5\/op=6\/op=7\/op=8\/op=9\/op=10\/op=11:=by
  unfold sZ at h;simp only at h;split at h
  ·omega
  ·split at h
   ·omega
   ·split at h<;>omega
 congr 1;rcases p_ with rfl|rfl|rfl|rfl|rfl|rfl|rfl|rfl|rfl|rfl|rfl<;>simp only [Dh,A4,tp,qg,XD,Vm]<;>simp<;>(try (by_cases t:Q7=0<;>simp [t]))<;>(try (by_cases lm:limit=0<;>simp [lm]))<;>(try (cases left<;>simp))<;>(try (by_cases e1:j'=[]<;>simp [e1]))<;>(try (by_cases e2:cond.u'=[]<;>simp [e2]))<;>(try (by_cases e3:keys=[]<;>simp [e3]))<;>(try (by_cases e4:z_=[]<;>simp [e4]))<;>(try (by_cases e5:items=[]<;>simp [e5]))<;>(try (by_cases e6:order=[]<;>simp [e6]))
