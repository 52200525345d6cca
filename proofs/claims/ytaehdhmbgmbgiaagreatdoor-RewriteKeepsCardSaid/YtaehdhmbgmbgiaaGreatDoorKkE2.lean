import Derived.Test.YtaehdhmbgmbgiaaGreatDoorKkQ2
set_option linter.all false
namespace Go.Proofs.YtaehdhmbgmbgiaaGreatDoor
open Go IntKind
def IS{l:aZ}(hS:im l)(h:ci l=true): ∃sz ks,xo l sz ks/\ ∀p,p<l.j'.length->nu l (p:Int)=some (my l (p+1-sz p) p,0):=by
 obtain⟨_,_,ob,j,r3,r4⟩:=sk hS;obtain⟨hL,hj⟩:=r4 h;rw [h]at r3;have hle:=hL.le;have hpos:=hL.pos;obtain⟨N0,_⟩:=hL.inv.at (j:=l.j'.length-1) (by omega);refine⟨A2 ob.first,Q8 ob.v',⟨hpos,hle,fun j hj=>Mj hL.inv hle hj,?_,?_⟩,fun p hp=>Yc hS r3 hL hp⟩
 ·have e1:=N0.size jl (w9 (by omega));have e2:=hL.whole;unfold nr at e2;rw [show(l.j'.length:Int)-1=((l.j'.length-1:Nat):Int)from by omega,e1]at e2;injection e2 with e2;omega
 ·unfold o6;rw [r3];simp only [bw,rM,jM,gT];have hk:cO ob.v' j=some (Q8 ob.v' (l.j'.length-1)):=by
   rw [hj,show(l.j'.length:Int)-1=((l.j'.length-1:Nat):Int)from by omega,cG];unfold Q8;rw [qg (by rw [hL.inv.kl];omega)];rfl
  rw [hk];simp only [bw];rw [vT _ (by have:=N0.len;omega)];rfl
def IM{l a:aZ}{sz:Nat->Nat}{ks:Nat->List Int}(K:xo a sz ks)(h:l.j'.take a.j'.length=a.j'):my l 0 (a.j'.length-1)=a:=by
 have hp:=K.pos;unfold my;rw [show a.j'.length-1+1=a.j'.length from by omega,h,xu];have:=GE K;exact congrArg aZ.mk this
def aeE{n:ai}{a:aZ}(hn:cI n)(ha:im a)(hra:ci a=true)(h:ci (d1 n a)=true):nu (d1 n a) ((a.j'.length:Int)-1)=some (a,0):=by
 obtain⟨sza,ksa,Ka⟩:=jt ha hra;obtain⟨sz,ks,K,hP⟩:=IS (GZ hn ha) h;have hp:=Ka.pos;have hl:=sQ n a;have u:=KJ (l:=a) (d:=d1 n a) (e:=0) (m:=a.j'.length) Ka.all K.all (kG _) (by have:=Ka.le;omega) (by omega) (by omega) (fun j hj m hm=>by
  obtain⟨m',F⟩:=Ka.all j hj;have e:m' =m:=by have:=F.node;rw [hm]at this;injection this with this;exact this.symm
  subst e;rw [u9,aeF hj,hm,wq Ka F hj]) (a.j'.length-1) (by omega)
 have hw:=Ka.whole;rw [show(a.j'.length:Int)-1=((a.j'.length-1:Nat):Int)from by omega,hP _ (by omega)];rw [u9]at u;rw [u.1,hw,show a.j'.length-1+1-a.j'.length=0 from by omega,IM Ka (by simp [d1])]
def aeC{n:ai}{a b:aZ}(hn:cI n)(ha:im a)(H:im b)(hra:ci a=true)(hrb:ci b=true)(h:ci (d2 n a b)=true):
  nu (d2 n a b) ((a.j'.length:Int)-1)=some (a,0)/\nu (d2 n a b) ((a.j'.length:Int)+(b.j'.length:Int)-1)=some (b,0):=by
 obtain⟨sza,ksa,Ka⟩:=jt ha hra;obtain⟨szb,ksb,Kb⟩:=jt H hrb;obtain⟨sz,ks,K,hP⟩:=IS (Mt hn ha H) h;have pa:=Ka.pos;have pb:=Kb.pos;have la:=Ka.le;have lb:=Kb.le;have hl:=Ai n a b;have ua:=KJ (l:=a) (d:=d2 n a b) (e:=0) (m:=a.j'.length) Ka.all K.all (kG _) (by omega) (by omega) (by omega) (fun j hj m hm=>by
  obtain⟨m',F⟩:=Ka.all j hj;have e:m' =m:=by have:=F.node;rw [hm]at this;injection this with this;exact this.symm
  subst e;rw [u9,ah3 hj,hm,wq Ka F hj]) (a.j'.length-1) (by omega)
 have ub:=KJ (l:=b) (d:=d2 n a b) (e:=a.j'.length) (m:=b.j'.length) Kb.all K.all (kG _) (by omega) (by omega) (by omega) (fun j hj m hm=>ah2 hj hm) (b.j'.length-1) (by omega);have wa:=Ka.whole;have wb:=Kb.whole;refine⟨?_,?_⟩
 ·rw [show(a.j'.length:Int)-1=((a.j'.length-1:Nat):Int)from by omega,hP _ (by omega)];rw [u9]at ua;rw [ua.1,wa,show a.j'.length-1+1-a.j'.length=0 from by omega,IM Ka (by simp [d2])]
 ·rw [show(a.j'.length:Int)+(b.j'.length:Int)-1=((a.j'.length+(b.j'.length-1):Nat):Int)from by omega,hP _ (by omega),ub.1,wb,show a.j'.length+(b.j'.length-1)+1-b.j'.length=a.j'.length from by omega];unfold my;rw [show a.j'.length+(b.j'.length-1)+1=a.j'.length+b.j'.length from by omega];have e1:((d2 n a b).j'.take (a.j'.length+b.j'.length)).drop a.j'.length=b.j'.map (u6 (a.j'.length:Int)):=by
   unfold d2;rw [D2 (by simp),rO (by simp),Pp (kG _),Re,kW]
  rw [e1,vZ];have e2:b.j'.map (u6 (-(a.j'.length:Int))∘u6 (a.j'.length:Int))=b.j':=by
   conv=>rhs;rw [<-List.map_id b.j']
   refine ET fun m hm=>?_;obtain⟨j,hj,rfl⟩:=Iw.1 hm;obtain⟨m,F⟩:=Kb.all j hj;have hn:=F.node;rw [cG,qg hj]at hn;injection hn with hn;rw [hn];obtain⟨hA,hB⟩:=qm F;have key: ∀x:Int,(x= -1\/0<=x/\x<(j:Int))->zt (-(a.j'.length:Int)) (zt (a.j'.length:Int) x)=x:=fun x V=>by
    rcases V with V|V
    ·rw [xS V,xS rfl,V]
    ·rw [VN V.1 (by omega) (by omega),Hq (by omega) (by omega) (by omega)];omega
   show({u6 (a.j'.length:Int) m with A:=_,B:=_}:ai)=m;show({m with A:=zt (-(a.j'.length:Int)) (zt (a.j'.length:Int) m.A),B:=zt (-(a.j'.length:Int)) (zt (a.j'.length:Int) m.B)}:ai)=m;rw [key _ hA,key _ hB]
  rw [e2]
def Yo{l:aZ}{sz:Nat->Nat}{ks:Nat->List Int}(K:xo l sz ks): ∃r,Dg l sz ks (l.j'.length-1) r/\l.j'=l.j'.take (l.j'.length-1)++[r]:=by
 have hp:=K.pos;obtain⟨r,F⟩:=K.all (l.j'.length-1) (by omega);refine⟨r,F,?_⟩;have hn:=F.node;rw [cG,qg (by omega)]at hn;injection hn with hn
 conv=>lhs;rw [<-A8 (l.j'.length-1) l.j',zX (by omega),hn,Hi (by omega)]
def Ub{l:aZ}(hS:im l){r:ai}{xs:List ai}(h:l.j'=xs++[r]):cI r:=hS r (by rw [h];simp)
def ZL{l:aZ}(hS:im l)(h:ci l=true):
  (∃r,l=⟨[r]⟩/\cI r/\r.A= -1/\r.B= -1)\/(∃n a,cI n/\im a/\ci a=true/\l=d1 n a)\/(∃n a b,cI n/\im a/\im b/\ci a=true/\ci b=true/\l=d2 n a b):=by
 obtain⟨sz,ks,K⟩:=jt hS h;obtain⟨r,F,hr⟩:=Yo K;have hp:=K.pos;have hle:=K.le;have hw:=K.whole;have hSr:=Ub hS hr;have hop:=uL F.op;by_cases I:r.Op=1
 ·obtain⟨f1,f2,f3⟩:=F.lf I;left;refine⟨r,?_,hSr,f1,f2⟩;rw [show l.j'.length-1=0 from by omega,List.take_zero,kW]at hr;cases l;cases hr;rfl
 ·right;by_cases M:r.Op=2\/r.Op=7
  ·obtain⟨f0,fB,f1,fA,f2⟩:=F.bi M;right;have H:1<=sz (l.j'.length-1-1):=by obtain⟨_,G⟩:=K.all (l.j'.length-1-1) (by omega);exact G.pos
   have hbl:sz (l.j'.length-1-1)<=l.j'.length-1-1+1:=by obtain⟨_,G⟩:=K.all (l.j'.length-1-1) (by omega);exact G.le
   have ha:1<=sz (l.j'.length-1-1-sz (l.j'.length-1-1)):=by obtain⟨_,G⟩:=K.all (l.j'.length-1-1-sz (l.j'.length-1-1)) (by omega);exact G.pos
   have hal:sz (l.j'.length-1-1-sz (l.j'.length-1-1))<=l.j'.length-1-1-sz (l.j'.length-1-1)+1:=by obtain⟨_,G⟩:=K.all (l.j'.length-1-1-sz (l.j'.length-1-1)) (by omega);exact G.le
   have gb:=Bt K.all hle (p:=l.j'.length-1-1) (by omega) hbl H;have ga:=Bt K.all hle (p:=l.j'.length-1-1-sz (l.j'.length-1-1)) (by omega) hal ha;have bb:=HB K.all hle (p:=l.j'.length-1-1) (by omega) H;have ba:=HB K.all hle (p:=l.j'.length-1-1-sz (l.j'.length-1-1)) (by omega) ha;have lb:=uu (l:=l) (e:=l.j'.length-1-1+1-sz (l.j'.length-1-1)) (p:=l.j'.length-1-1) (by omega);have la:=uu (l:=l) (e:=l.j'.length-1-1-sz (l.j'.length-1-1)+1-sz (l.j'.length-1-1-sz (l.j'.length-1-1))) (p:=l.j'.length-1-1-sz (l.j'.length-1-1)) (by omega);generalize hsb:sz (l.j'.length-1-1)=sb at*;generalize hsa:sz (l.j'.length-1-1-sb)=sa at*;have ea:l.j'.length-1-1-sb+1-sa=0:=by omega
   have eb:l.j'.length-1-1+1-sb=sa:=by omega
   rw [ea]at ga ba la;rw [eb]at gb bb lb;have hza:(my l 0 (l.j'.length-1-1-sb)).j'.map (u6 ((0:Nat):Int))=(my l 0 (l.j'.length-1-1-sb)).j':=by
    obtain⟨s1,k1,K1⟩:=jt (s8 hS _ _) ga;exact GE K1
   rw [hza,xu]at ba;refine⟨r,my l 0 (l.j'.length-1-1-sb),my l sa (l.j'.length-1-1),hSr,s8 hS _ _,s8 hS _ _,ga,gb,?_⟩;have hN:l.j'=(d2 r (my l 0 (l.j'.length-1-1-sb)) (my l sa (l.j'.length-1-1))).j':=by
    unfold d2;have e1:(my l 0 (l.j'.length-1-1-sb)).j'.length=sa:=by rw [la];omega
    have e2:(my l sa (l.j'.length-1-1)).j'.length=sb:=by rw [lb];omega
    show l.j'=(_++_)++[_];rw [e1,e2,ba,bb];have er:AR ((sa:Int)-1) ((sa:Int)+(sb:Int)-1) r=r:=by
     unfold AR;rw [show(sa:Int)-1=r.A from by omega,show(sa:Int)+(sb:Int)-1=r.B from by omega]
    rw [er]
    conv=>lhs;rw [hr]
    congr 1;rw [show l.j'.length-1-1-sb+1=sa from by omega,show l.j'.length-1-1+1=l.j'.length-1 from by omega]
    conv=>lhs;rw [<-A8 sa (l.j'.take (l.j'.length-1))]
    rw [DX,DY (by omega)]
   cases l;exact congrArg aZ.mk hN
  ·obtain⟨f0,fA,fB,f1⟩:=F.un I (fun k=>M (.inl k)) (fun k=>M (.inr k));left;have ha:1<=sz (l.j'.length-1-1):=by obtain⟨_,G⟩:=K.all (l.j'.length-1-1) (by omega);exact G.pos
   have hal:sz (l.j'.length-1-1)<=l.j'.length-1-1+1:=by obtain⟨_,G⟩:=K.all (l.j'.length-1-1) (by omega);exact G.le
   have ga:=Bt K.all hle (p:=l.j'.length-1-1) (by omega) hal ha;have ba:=HB K.all hle (p:=l.j'.length-1-1) (by omega) ha;have la:=uu (l:=l) (e:=l.j'.length-1-1+1-sz (l.j'.length-1-1)) (p:=l.j'.length-1-1) (by omega);generalize hsa:sz (l.j'.length-1-1)=sa at*;have ea:l.j'.length-1-1+1-sa=0:=by omega
   rw [ea]at ga ba la;have hza:(my l 0 (l.j'.length-1-1)).j'.map (u6 ((0:Nat):Int))=(my l 0 (l.j'.length-1-1)).j':=by
    obtain⟨s1,k1,K1⟩:=jt (s8 hS _ _) ga;exact GE K1
   rw [hza,xu]at ba;refine⟨r,my l 0 (l.j'.length-1-1),hSr,s8 hS _ _,ga,?_⟩;have hN:l.j'=(d1 r (my l 0 (l.j'.length-1-1))).j':=by
    unfold d1;have e1:(my l 0 (l.j'.length-1-1)).j'.length=sa:=by rw [la];omega
    show l.j'=_++[_];rw [e1,ba];have er:AR ((sa:Int)-1) (-1) r=r:=by
     unfold AR;rw [show(sa:Int)-1=r.A from by omega,show(-1:Int)=r.B from by omega]
    rw [er]
    conv=>lhs;rw [hr]
    rw [show l.j'.length-1-1+1=l.j'.length-1 from by omega]
   cases l;exact congrArg aZ.mk hN
def bE(n:ai)(p:aB):aB:=⟨d1 n p.D',AR ((p.D'.j'.length:Int)-1) (-1) n,[p]⟩
def dg(n:ai)(p q:aB):aB:=⟨d2 n p.D' q.D',AR ((p.D'.j'.length:Int)-1) ((p.D'.j'.length:Int)+(q.D'.j'.length:Int)-1) n,[p,q]⟩
inductive pc:aB->Prop where
 |leaf (r:ai):cI r->r.A= -1->r.B= -1->ci ⟨[r]⟩=true->pc ⟨⟨[r]⟩,r,[]⟩
 |one (n:ai) (p:aB):pc p->cI n->ci (d1 n p.D')=true->pc (bE n p)
 |two (n:ai) (p q:aB):pc p->pc q->cI n->ci (d2 n p.D' q.D')=true->pc (dg n p q)
def pc.ok{t:aB}(h:pc t):im t.D'/\ci t.D'=true:=by
 induction h with
 |leaf r hs _ _ hr=>exact⟨fun n hn=>by cases mf.1 hn;exact hs,hr⟩
 |one n p _ hs hr ih=>exact⟨GZ hs ih.1,hr⟩
 |two n p q _ _ hs hr ih1 ih2=>exact⟨Mt hs ih1.1 ih2.1,hr⟩
def pc.len{t:aB}(h:pc t):1<=t.D'.j'.length/\t.D'.j'.length<=60:=by
 obtain⟨_,_,K⟩:=jt h.ok.1 h.ok.2;exact⟨K.pos,K.le⟩
def Gc: ∀(k:Nat) (l:aZ),l.j'.length<=k->im l->ci l=true-> ∃t,pc t/\t.D'=l
 |0,l,hk,hS,hr=>by
  obtain⟨_,_,K⟩:=jt hS hr;have:=K.pos;omega
 |k+1,l,hk,hS,hr=>by
  rcases ZL hS hr with⟨r,rfl,hs,hA,hB⟩|⟨n,a,hs,ha,hra,rfl⟩|⟨n,a,b,hs,ha,H,hra,hrb,rfl⟩
  ·exact⟨_,.leaf r hs hA hB hr,rfl⟩
  ·obtain⟨p,hp,rfl⟩:=Gc k a (by have:=sQ n a;omega) ha hra;exact⟨_,.one n p hp hs hr,rfl⟩
  ·have hl:=Ai n a b;obtain⟨p,hp,rfl⟩:=Gc k a (by omega) ha hra;obtain⟨q,hq,rfl⟩:=Gc k b (by omega) H hrb;exact⟨_,.two n p q hp hq hs hr,rfl⟩
def aeT{t:aB}(h:pc t): ∀fu,t.D'.j'.length<=fu->lV fu t.D'=some t:=by
 induction h with
 |leaf r hs hA hB hr=>
  intro fu hf
  match fu,hf with
  |fu+1,_=>
   unfold lV;rw [show cO ([r]:List ai) (i64.wrap ((([r]:List ai).length:Int)-1))=some r from rfl];simp only [bw];unfold fI fI fI;simp only [hA,hB];rfl
 |one n p hp hs hr ih=>
  intro fu hf;obtain⟨sp,rp⟩:=hp.ok;have hl:=sQ n p.D';have hlen:=hp.len;have hf' :(d1 n p.D').j'.length<=fu:=hf
  match fu,hf' with
  |0,hf' =>exact absurd hf' (by omega)
  |fu+1,hf' =>
   unfold lV;have e0:cO (d1 n p.D').j' (i64.wrap (((d1 n p.D').j'.length:Int)-1))=some (AR ((p.D'.j'.length:Int)-1) (-1) n):=by
    rw [cB (by omega) (by omega),hl,show((p.D'.j'.length+1:Nat):Int)-1=(p.D'.j'.length:Int)from by omega];exact aeD
   rw [show(bE n p).D'=d1 n p.D' from rfl,e0];simp only [bw];unfold fI fI fI;rw [show cO [(AR ((p.D'.j'.length:Int)-1) (-1) n).A,(AR ((p.D'.j'.length:Int)-1) (-1) n).B] ((0:Nat):Int)=some ((p.D'.j'.length:Int)-1)from rfl];simp only [bw];rw [bz (by simp;omega),aeE hs sp rp hr];simp only [bw,ih fu (by omega)];rw [show app ([]:List aB) [p]=some [p]from rfl];simp only [bw];rfl
 |two n p q hp hq hs hr ih1 ih2=>
  intro fu hf;obtain⟨sp,rp⟩:=hp.ok;obtain⟨sq,rq⟩:=hq.ok;have hl:=Ai n p.D' q.D';have hlp:=hp.len;have hlq:=hq.len;have hf' :(d2 n p.D' q.D').j'.length<=fu:=hf
  match fu,hf' with
  |0,hf' =>exact absurd hf' (by omega)
  |fu+1,hf' =>
   unfold lV;have e0:cO (d2 n p.D' q.D').j' (i64.wrap (((d2 n p.D' q.D').j'.length:Int)-1))=some (AR ((p.D'.j'.length:Int)-1) ((p.D'.j'.length:Int)+(q.D'.j'.length:Int)-1) n):=by
    rw [cB (by omega) (by omega),hl,show((p.D'.j'.length+q.D'.j'.length+1:Nat):Int)-1=((p.D'.j'.length+q.D'.j'.length:Nat):Int)from by omega];exact abd
   obtain⟨g1,g2⟩:=aeC hs sp sq rp rq hr;rw [show(dg n p q).D'=d2 n p.D' q.D' from rfl,e0];simp only [bw];unfold fI fI fI;rw [show cO [(AR ((p.D'.j'.length:Int)-1) ((p.D'.j'.length:Int)+(q.D'.j'.length:Int)-1) n).A,(AR ((p.D'.j'.length:Int)-1) ((p.D'.j'.length:Int)+(q.D'.j'.length:Int)-1) n).B] ((0:Nat):Int)=some ((p.D'.j'.length:Int)-1)from rfl,
    show cO [(AR ((p.D'.j'.length:Int)-1) ((p.D'.j'.length:Int)+(q.D'.j'.length:Int)-1) n).A,(AR ((p.D'.j'.length:Int)-1) ((p.D'.j'.length:Int)+(q.D'.j'.length:Int)-1) n).B] ((0+1:Nat):Int)=some ((p.D'.j'.length:Int)+(q.D'.j'.length:Int)-1)from rfl]
   simp only [bw];rw [bz (by simp;omega),g1];simp only [bw,ih1 fu (by omega)];rw [show app ([]:List aB) [p]=some [p]from rfl];simp only [bw];rw [bz (by simp;omega),g2];simp only [bw,ih2 fu (by omega)];rw [show app [p] [q]=some [p,q]from rfl];simp only [bw];rfl
def Tp{t:aB}(h:pc t):wE t.D'=some t:=aeT h jl (oQ (by have:=h.len;omega))
def zT:aB:=⟨(⟨[]⟩:aZ),(⟨(0:Int),(0:Int),(0:Int),(0:Int),[],false,(⟨[]⟩:au),[],[],[],[],(0:Int)⟩:ai),[]⟩
def CK{n:ai}{p:aB}(hp:pc p)(hs:cI n):gZ n [p]=some (if ci (d1 n p.D')then(bE n p,true)else(zT,false)):=by
 obtain⟨sp,rp⟩:=hp.ok;have hl:=sQ n p.D';have hlen:=hp.len;unfold gZ HK;rw [aR (by simp),show cO [p] 0=some p from rfl];simp only [bw];rw [aad hs sp rp]
 cases hr:ci (d1 n p.D')with
 |false=>rfl
 |true=>
  simp only [hM,bw];unfold qV;rw [aR (by decide),cB (by omega) (by omega),hl,show((p.D'.j'.length+1:Nat):Int)-1=(p.D'.j'.length:Int)from by omega,aeD];rfl
def Lz{n:ai}{p q:aB}(hp:pc p)(hq:pc q)(hs:cI n):gZ n [p,q]=some (if ci (d2 n p.D' q.D')then(dg n p q,true)else(zT,false)):=by
 obtain⟨sp,rp⟩:=hp.ok;obtain⟨sq,rq⟩:=hq.ok;have hl:=Ai n p.D' q.D';have hlp:=hp.len;have hlq:=hq.len;unfold gZ HJ;rw [bz (by simp),show cO [p,q] 0=some p from rfl,show cO [p,q] 1=some q from rfl];simp only [bw];rw [aac hs sp sq rp rq]
 cases hr:ci (d2 n p.D' q.D')with
 |false=>rfl
 |true=>
  simp only [hM,bw];unfold qV;rw [aR (by decide),cB (by omega) (by omega),hl,show((p.D'.j'.length+q.D'.j'.length+1:Nat):Int)-1=((p.D'.j'.length+q.D'.j'.length:Nat):Int)from by omega,abd];rfl
