/- cW of this claim: E2. -/
import Derived.Test.YtbmmihfagmchaaaGreatRcQ2
set_option linter.all false
namespace Go.Proofs.YtbmmihfagmchaaaGreat
open Go

def yM{l:aw}(hS:fM l)(h:bS l=true): ∃sz ks,sS l sz ks/\ ∀p,p<l.Nodes.length->lZ l (p:Int)=some (ib l (p+1-sz p) p,0):=by
 obtain⟨_,_,ob,j,r3,r4⟩:=pE hS
 obtain⟨hL,hj⟩:=r4 h
 rw [h]at r3
 have hle:=hL.le
 have hpos:=hL.pos
 obtain⟨N0,_⟩:=hL.inv.at (j:=l.Nodes.length-1) (by omega)
 refine⟨vS ob.first,Ew ob.kinds,⟨hpos,hle,fun j hj=>EX hL.inv hle hj,?_,?_⟩,fun p hp=>(LN hS r3 hL hp).1⟩
 ·have e1:=N0.size gi (od (by omega))
  have e2:=hL.whole
  unfold gI at e2
  rw [show(l.Nodes.length:Int)-1=((l.Nodes.length-1:Nat):Int)from by omega,e1]at e2
  injection e2 with e2
  omega
 ·unfold l0
  rw [r3]
  simp only [bo,mq,jx,gE]
  have hk:cU ob.kinds j=some (Ew ob.kinds (l.Nodes.length-1)):=by
   rw [hj,show(l.Nodes.length:Int)-1=((l.Nodes.length-1:Nat):Int)from by omega,cI]
   unfold Ew
   rw [rg (by rw [hL.inv.kl];omega)];rfl
  rw [hk]
  simp only [bo]
  rw [oE _ (by have:=N0.len;omega)]
  rfl
def yG{l a:aw}{sz:Nat->Nat}{ks:Nat->List Int}(ah:sS a sz ks)(h:l.Nodes.take a.Nodes.length=a.Nodes):ib l 0 (a.Nodes.length-1)=a:=by
 have hp:=ah.pos
 unfold ib
 rw [show a.Nodes.length-1+1=a.Nodes.length from by omega,h,t6]
 have:=w9 ah
 exact congrArg aw.mk this
def MZ{n:aa}{a:aw}(hn:cj n)(ha:fM a)(hra:bS a=true)(h:bS (d1 n a)=true):lZ (d1 n a) ((a.Nodes.length:Int)-1)=some (a,0):=by
 obtain⟨sza,ksa,Ka⟩:=gL ha hra
 obtain⟨sz,ks,ah,hP⟩:=yM (AV hn ha) h
 have hp:=Ka.pos
 have hl:=ow n a
 have u:=H3 (l:=a) (d:=d1 n a) (e:=0) (m:=a.Nodes.length) Ka.all ah.all (dr _) (by have:=Ka.le;omega) (by omega) (by omega) (fun j hj m hm=>by
  obtain⟨m',F⟩:=Ka.all j hj
  have e:m' =m:=by have:=F.node;rw [hm]at this;injection this with this;exact this.symm
  subst e
  rw [pS,QQ hj,hm,u5 Ka F hj]) (a.Nodes.length-1) (by omega)
 have hw:=Ka.whole
 rw [show(a.Nodes.length:Int)-1=((a.Nodes.length-1:Nat):Int)from by omega,hP _ (by omega)]
 rw [pS]at u
 rw [u.1,hw,show a.Nodes.length-1+1-a.Nodes.length=0 from by omega,yG Ka (by simp [d1])]
def MY{n:aa}{a b:aw}(hn:cj n)(ha:fM a)(V:fM b)(hra:bS a=true)(hrb:bS b=true)(h:bS (d2 n a b)=true):
  lZ (d2 n a b) ((a.Nodes.length:Int)-1)=some (a,0)/\lZ (d2 n a b) ((a.Nodes.length:Int)+(b.Nodes.length:Int)-1)=some (b,0):=by
 obtain⟨sza,ksa,Ka⟩:=gL ha hra
 obtain⟨szb,ksb,Kb⟩:=gL V hrb
 obtain⟨sz,ks,ah,hP⟩:=yM (AU hn ha V) h
 have pa:=Ka.pos
 have pb:=Kb.pos
 have la:=Ka.le
 have lb:=Kb.le
 have hl:=tq n a b
 have ua:=H3 (l:=a) (d:=d2 n a b) (e:=0) (m:=a.Nodes.length) Ka.all ah.all (dr _) (by omega) (by omega) (by omega) (fun j hj m hm=>by
  obtain⟨m',F⟩:=Ka.all j hj
  have e:m' =m:=by have:=F.node;rw [hm]at this;injection this with this;exact this.symm
  subst e
  rw [pS,QP hj,hm,u5 Ka F hj]) (a.Nodes.length-1) (by omega)
 have ub:=H3 (l:=b) (d:=d2 n a b) (e:=a.Nodes.length) (m:=b.Nodes.length) Kb.all ah.all (dr _) (by omega) (by omega) (by omega) (fun j hj m hm=>QO hj hm) (b.Nodes.length-1) (by omega)
 have wa:=Ka.whole
 have wb:=Kb.whole
 refine⟨?_,?_⟩
 ·rw [show(a.Nodes.length:Int)-1=((a.Nodes.length-1:Nat):Int)from by omega,hP _ (by omega)]
  rw [pS]at ua
  rw [ua.1,wa,show a.Nodes.length-1+1-a.Nodes.length=0 from by omega,yG Ka (by simp [d2])]
 ·rw [show(a.Nodes.length:Int)+(b.Nodes.length:Int)-1=((a.Nodes.length+(b.Nodes.length-1):Nat):Int)from by omega,hP _ (by omega),ub.1,wb,show a.Nodes.length+(b.Nodes.length-1)+1-b.Nodes.length=a.Nodes.length from by omega]
  unfold ib
  rw [show a.Nodes.length+(b.Nodes.length-1)+1=a.Nodes.length+b.Nodes.length from by omega]
  have e1:((d2 n a b).Nodes.take (a.Nodes.length+b.Nodes.length)).drop a.Nodes.length=b.Nodes.map (oO (a.Nodes.length:Int)):=by
   unfold d2
   rw [vM (by simp),nM (by simp),DD (dr _),List.drop_length,je]
  rw [e1,yq]
  have e2:b.Nodes.map (oO (-(a.Nodes.length:Int))∘oO (a.Nodes.length:Int))=b.Nodes:=by
   conv=>rhs;rw [<-List.map_id b.Nodes]
   refine Bn fun m hm=>?_
   obtain⟨j,hj,rfl⟩:=BO.1 hm
   obtain⟨m,F⟩:=Kb.all j hj
   have hn:=F.node
   rw [cI,rg hj]at hn
   injection hn with hn
   rw [hn]
   obtain⟨hA,hB⟩:=ro F
   have key: ∀x:Int,(x= -1\/0<=x/\x<(j:Int))->tQ (-(a.Nodes.length:Int)) (tQ (a.Nodes.length:Int) x)=x:=fun x I=>by
    rcases I with I|I
    ·rw [qh I,qh rfl,I]
    ·rw [Ha I.1 (by omega) (by omega),xI (by omega) (by omega) (by omega)];omega
   show({oO (a.Nodes.length:Int) m with A:=_,B:=_}:aa)=m
   show({m with A:=tQ (-(a.Nodes.length:Int)) (tQ (a.Nodes.length:Int) m.A),B:=tQ (-(a.Nodes.length:Int)) (tQ (a.Nodes.length:Int) m.B)}:aa)=m
   rw [key _ hA,key _ hB]
  rw [e2]
def Iw{l:aw}{sz:Nat->Nat}{ks:Nat->List Int}(ah:sS l sz ks): ∃r,uN l sz ks (l.Nodes.length-1) r/\l.Nodes=l.Nodes.take (l.Nodes.length-1)++[r]:=by
 have hp:=ah.pos
 obtain⟨r,F⟩:=ah.all (l.Nodes.length-1) (by omega)
 refine⟨r,F,?_⟩
 have hn:=F.node
 rw [cI,rg (by omega)]at hn
 injection hn with hn
 conv=>lhs;rw [<-sn (l.Nodes.length-1) l.Nodes,xB (by omega),hn,Bq (by omega)]
def FM{l:aw}(hS:fM l){r:aa}{xs:List aa}(h:l.Nodes=xs++[r]):cj r:=hS r (by rw [h];simp)
def JG{l:aw}(hS:fM l)(h:bS l=true):
  (∃r,l=⟨[r]⟩/\cj r/\r.A= -1/\r.B= -1)\/(∃n a,cj n/\fM a/\bS a=true/\l=d1 n a)\/(∃n a b,cj n/\fM a/\fM b/\bS a=true/\bS b=true/\l=d2 n a b):=by
 obtain⟨sz,ks,ah⟩:=gL hS h
 obtain⟨r,F,hr⟩:=Iw ah
 have hp:=ah.pos
 have hle:=ah.le
 have hw:=ah.whole
 have hSr:=FM hS hr
 have hop:=sI F.op
 by_cases Y:r.Op=1
 ·obtain⟨f1,f2,f3⟩:=F.lf Y
  left
  refine⟨r,?_,hSr,f1,f2⟩
  rw [show l.Nodes.length-1=0 from by omega,List.take_zero,je]at hr
  cases l;cases hr;rfl
 ·right
  by_cases J:r.Op=2\/r.Op=7
  ·obtain⟨f0,fB,f1,fA,f2⟩:=F.bi J
   right
   have V:1<=sz (l.Nodes.length-1-1):=by obtain⟨_,G⟩:=ah.all (l.Nodes.length-1-1) (by omega);exact G.pos
   have hbl:sz (l.Nodes.length-1-1)<=l.Nodes.length-1-1+1:=by obtain⟨_,G⟩:=ah.all (l.Nodes.length-1-1) (by omega);exact G.le
   have ha:1<=sz (l.Nodes.length-1-1-sz (l.Nodes.length-1-1)):=by obtain⟨_,G⟩:=ah.all (l.Nodes.length-1-1-sz (l.Nodes.length-1-1)) (by omega);exact G.pos
   have hal:sz (l.Nodes.length-1-1-sz (l.Nodes.length-1-1))<=l.Nodes.length-1-1-sz (l.Nodes.length-1-1)+1:=by obtain⟨_,G⟩:=ah.all (l.Nodes.length-1-1-sz (l.Nodes.length-1-1)) (by omega);exact G.le
   have gb:=wi ah.all hle (p:=l.Nodes.length-1-1) (by omega) hbl V
   have ga:=wi ah.all hle (p:=l.Nodes.length-1-1-sz (l.Nodes.length-1-1)) (by omega) hal ha
   have bb:=xT ah.all hle (p:=l.Nodes.length-1-1) (by omega) V
   have ba:=xT ah.all hle (p:=l.Nodes.length-1-1-sz (l.Nodes.length-1-1)) (by omega) ha
   have lb:=oT (l:=l) (e:=l.Nodes.length-1-1+1-sz (l.Nodes.length-1-1)) (p:=l.Nodes.length-1-1) (by omega)
   have la:=oT (l:=l) (e:=l.Nodes.length-1-1-sz (l.Nodes.length-1-1)+1-sz (l.Nodes.length-1-1-sz (l.Nodes.length-1-1))) (p:=l.Nodes.length-1-1-sz (l.Nodes.length-1-1)) (by omega)
   generalize hsb:sz (l.Nodes.length-1-1)=sb at*
   generalize hsa:sz (l.Nodes.length-1-1-sb)=sa at*
   have ea:l.Nodes.length-1-1-sb+1-sa=0:=by omega
   have eb:l.Nodes.length-1-1+1-sb=sa:=by omega
   rw [ea]at ga ba la
   rw [eb]at gb bb lb
   have hza:(ib l 0 (l.Nodes.length-1-1-sb)).Nodes.map (oO ((0:Nat):Int))=(ib l 0 (l.Nodes.length-1-1-sb)).Nodes:=by
    obtain⟨s1,k1,K1⟩:=gL (n6 hS _ _) ga
    exact w9 K1
   rw [hza,t6]at ba
   refine⟨r,ib l 0 (l.Nodes.length-1-1-sb),ib l sa (l.Nodes.length-1-1),hSr,n6 hS _ _,n6 hS _ _,ga,gb,?_⟩
   have hN:l.Nodes=(d2 r (ib l 0 (l.Nodes.length-1-1-sb)) (ib l sa (l.Nodes.length-1-1))).Nodes:=by
    unfold d2
    have e1:(ib l 0 (l.Nodes.length-1-1-sb)).Nodes.length=sa:=by rw [la];omega
    have e2:(ib l sa (l.Nodes.length-1-1)).Nodes.length=sb:=by rw [lb];omega
    show l.Nodes=(_++_)++[_]
    rw [e1,e2,ba,bb]
    have er:uL ((sa:Int)-1) ((sa:Int)+(sb:Int)-1) r=r:=by
     unfold uL
     rw [show(sa:Int)-1=r.A from by omega,show(sa:Int)+(sb:Int)-1=r.B from by omega]
    rw [er]
    conv=>lhs;rw [hr]
    congr 1
    rw [show l.Nodes.length-1-1-sb+1=sa from by omega,show l.Nodes.length-1-1+1=l.Nodes.length-1 from by omega]
    conv=>lhs;rw [<-sn sa (l.Nodes.take (l.Nodes.length-1))]
    rw [vI,vh (by omega)]
   cases l
   exact congrArg aw.mk hN
  ·obtain⟨f0,fA,fB,f1⟩:=F.un Y (fun k=>J (.inl k)) (fun k=>J (.inr k))
   left
   have ha:1<=sz (l.Nodes.length-1-1):=by obtain⟨_,G⟩:=ah.all (l.Nodes.length-1-1) (by omega);exact G.pos
   have hal:sz (l.Nodes.length-1-1)<=l.Nodes.length-1-1+1:=by obtain⟨_,G⟩:=ah.all (l.Nodes.length-1-1) (by omega);exact G.le
   have ga:=wi ah.all hle (p:=l.Nodes.length-1-1) (by omega) hal ha
   have ba:=xT ah.all hle (p:=l.Nodes.length-1-1) (by omega) ha
   have la:=oT (l:=l) (e:=l.Nodes.length-1-1+1-sz (l.Nodes.length-1-1)) (p:=l.Nodes.length-1-1) (by omega)
   generalize hsa:sz (l.Nodes.length-1-1)=sa at*
   have ea:l.Nodes.length-1-1+1-sa=0:=by omega
   rw [ea]at ga ba la
   have hza:(ib l 0 (l.Nodes.length-1-1)).Nodes.map (oO ((0:Nat):Int))=(ib l 0 (l.Nodes.length-1-1)).Nodes:=by
    obtain⟨s1,k1,K1⟩:=gL (n6 hS _ _) ga
    exact w9 K1
   rw [hza,t6]at ba
   refine⟨r,ib l 0 (l.Nodes.length-1-1),hSr,n6 hS _ _,ga,?_⟩
   have hN:l.Nodes=(d1 r (ib l 0 (l.Nodes.length-1-1))).Nodes:=by
    unfold d1
    have e1:(ib l 0 (l.Nodes.length-1-1)).Nodes.length=sa:=by rw [la];omega
    show l.Nodes=_++[_]
    rw [e1,ba]
    have er:uL ((sa:Int)-1) (-1) r=r:=by
     unfold uL
     rw [show(sa:Int)-1=r.A from by omega,show(-1:Int)=r.B from by omega]
    rw [er]
    conv=>lhs;rw [hr]
    rw [show l.Nodes.length-1-1+1=l.Nodes.length-1 from by omega]
   cases l
   exact congrArg aw.mk hN
def aS(n:aa)(p:am):am:=⟨d1 n p.Logic,uL ((p.Logic.Nodes.length:Int)-1) (-1) n,[p]⟩
def cr(n:aa)(p q:am):am:=⟨d2 n p.Logic q.Logic,uL ((p.Logic.Nodes.length:Int)-1) ((p.Logic.Nodes.length:Int)+(q.Logic.Nodes.length:Int)-1) n,[p,q]⟩
inductive nh:am->Prop where
 |leaf (r:aa):cj r->r.A= -1->r.B= -1->bS ⟨[r]⟩=true->nh ⟨⟨[r]⟩,r,[]⟩
 |one (n:aa) (p:am):nh p->cj n->bS (d1 n p.Logic)=true->nh (aS n p)
 |two (n:aa) (p q:am):nh p->nh q->cj n->bS (d2 n p.Logic q.Logic)=true->nh (cr n p q)
def nh.ok{t:am}(h:nh t):fM t.Logic/\bS t.Logic=true:=by
 induction h with
 |leaf r hs _ _ hr=>exact⟨fun n hn=>by cases jY.1 hn;exact hs,hr⟩
 |one n p _ hs hr ih=>exact⟨AV hs ih.1,hr⟩
 |two n p q _ _ hs hr ih1 ih2=>exact⟨AU hs ih1.1 ih2.1,hr⟩
def nh.len{t:am}(h:nh t):1<=t.Logic.Nodes.length/\t.Logic.Nodes.length<=60:=by
 obtain⟨_,_,ah⟩:=gL h.ok.1 h.ok.2
 exact⟨ah.pos,ah.le⟩
def zf: ∀(k:Nat) (l:aw),l.Nodes.length<=k->fM l->bS l=true-> ∃t,nh t/\t.Logic=l
 |0,l,hk,hS,hr=>by
  obtain⟨_,_,ah⟩:=gL hS hr
  have:=ah.pos
  omega
 |k+1,l,hk,hS,hr=>by
  rcases JG hS hr with⟨r,rfl,hs,hA,hB⟩|⟨n,a,hs,ha,hra,rfl⟩|⟨n,a,b,hs,ha,V,hra,hrb,rfl⟩
  ·exact⟨_,.leaf r hs hA hB hr,rfl⟩
  ·obtain⟨p,hp,rfl⟩:=zf k a (by have:=ow n a;omega) ha hra
   exact⟨_,.one n p hp hs hr,rfl⟩
  ·have hl:=tq n a b
   obtain⟨p,hp,rfl⟩:=zf k a (by omega) ha hra
   obtain⟨q,hq,rfl⟩:=zf k b (by omega) V hrb
   exact⟨_,.two n p q hp hq hs hr,rfl⟩
def Ni{t:am}(h:nh t): ∀fu,t.Logic.Nodes.length<=fu->gW fu t.Logic=some t:=by
 induction h with
 |leaf r hs hA hB hr=>
  intro fu X
  match fu,X with
  |fu+1,_=>
   unfold gW
   rw [show cU ([r]:List aa) (IntKind.i64.wrap ((([r]:List aa).length:Int)-1))=some r from rfl]
   simp only [bo]
   unfold dx dx dx
   simp only [hA,hB]
   rfl
 |one n p hp hs hr ih=>
  intro fu X
  obtain⟨sp,rp⟩:=hp.ok
  have hl:=ow n p.Logic
  have hlen:=hp.len
  have hf' :(d1 n p.Logic).Nodes.length<=fu:=X
  match fu,hf' with
  |0,hf' =>exact absurd hf' (by omega)
  |fu+1,hf' =>
   unfold gW
   have e0:cU (d1 n p.Logic).Nodes (IntKind.i64.wrap (((d1 n p.Logic).Nodes.length:Int)-1))=some (uL ((p.Logic.Nodes.length:Int)-1) (-1) n):=by
    rw [bH (by omega) (by omega),hl,show((p.Logic.Nodes.length+1:Nat):Int)-1=(p.Logic.Nodes.length:Int)from by omega]
    exact Pn
   rw [show(aS n p).Logic=d1 n p.Logic from rfl,e0]
   simp only [bo]
   unfold dx dx dx
   rw [show cU [(uL ((p.Logic.Nodes.length:Int)-1) (-1) n).A,(uL ((p.Logic.Nodes.length:Int)-1) (-1) n).B] ((0:Nat):Int)=some ((p.Logic.Nodes.length:Int)-1)from rfl]
   simp only [bo]
   rw [bE (by simp;omega),MZ hs sp rp hr]
   simp only [bo,ih fu (by omega)]
   rw [show jT ([]:List am) [p]=some [p]from rfl]
   simp only [bo]
   rfl
 |two n p q hp hq hs hr ih1 ih2=>
  intro fu X
  obtain⟨sp,rp⟩:=hp.ok
  obtain⟨sq,rq⟩:=hq.ok
  have hl:=tq n p.Logic q.Logic
  have hlp:=hp.len
  have hlq:=hq.len
  have hf' :(d2 n p.Logic q.Logic).Nodes.length<=fu:=X
  match fu,hf' with
  |0,hf' =>exact absurd hf' (by omega)
  |fu+1,hf' =>
   unfold gW
   have e0:cU (d2 n p.Logic q.Logic).Nodes (IntKind.i64.wrap (((d2 n p.Logic q.Logic).Nodes.length:Int)-1))=some (uL ((p.Logic.Nodes.length:Int)-1) ((p.Logic.Nodes.length:Int)+(q.Logic.Nodes.length:Int)-1) n):=by
    rw [bH (by omega) (by omega),hl,show((p.Logic.Nodes.length+q.Logic.Nodes.length+1:Nat):Int)-1=((p.Logic.Nodes.length+q.Logic.Nodes.length:Nat):Int)from by omega]
    exact MX
   obtain⟨g1,g2⟩:=MY hs sp sq rp rq hr
   rw [show(cr n p q).Logic=d2 n p.Logic q.Logic from rfl,e0]
   simp only [bo]
   unfold dx dx dx
   rw [show cU [(uL ((p.Logic.Nodes.length:Int)-1) ((p.Logic.Nodes.length:Int)+(q.Logic.Nodes.length:Int)-1) n).A,(uL ((p.Logic.Nodes.length:Int)-1) ((p.Logic.Nodes.length:Int)+(q.Logic.Nodes.length:Int)-1) n).B] ((0:Nat):Int)=some ((p.Logic.Nodes.length:Int)-1)from rfl,
    show cU [(uL ((p.Logic.Nodes.length:Int)-1) ((p.Logic.Nodes.length:Int)+(q.Logic.Nodes.length:Int)-1) n).A,(uL ((p.Logic.Nodes.length:Int)-1) ((p.Logic.Nodes.length:Int)+(q.Logic.Nodes.length:Int)-1) n).B] ((0+1:Nat):Int)=some ((p.Logic.Nodes.length:Int)+(q.Logic.Nodes.length:Int)-1)from rfl]
   simp only [bo]
   rw [bE (by simp;omega),g1]
   simp only [bo,ih1 fu (by omega)]
   rw [show jT ([]:List am) [p]=some [p]from rfl]
   simp only [bo]
   rw [bE (by simp;omega),g2]
   simp only [bo,ih2 fu (by omega)]
   rw [show jT [p] [q]=some [p,q]from rfl]
   simp only [bo]
   rfl
def xn{t:am}(h:nh t):pg t.Logic=some t:=Ni h gi (i6 (by have:=h.len;omega))
def zT:am:=⟨(⟨[]⟩:aw),(⟨(0:Int),(0:Int),(0:Int),(0:Int),[],false,(⟨[]⟩:ai),[],[],[],[],(0:Int)⟩:aa),[]⟩
def sH{n:aa}{p:am}(hp:nh p)(hs:cj n):d9 n [p]=some (if bS (d1 n p.Logic)then(aS n p,true)else(zT,false)):=by
 obtain⟨sp,rp⟩:=hp.ok
 have hl:=ow n p.Logic
 have hlen:=hp.len
 unfold d9 xW
 rw [bn (by simp),show cU [p] 0=some p from rfl]
 simp only [bo]
 rw [J1 hs sp rp]
 cases hr:bS (d1 n p.Logic)with
 |false=>rfl
 |true=>
  simp only [gu,bo]
  unfold kY
  rw [bn (by decide),bH (by omega) (by omega),hl,show((p.Logic.Nodes.length+1:Nat):Int)-1=(p.Logic.Nodes.length:Int)from by omega,Pn]
  rfl
def wU{n:aa}{p q:am}(hp:nh p)(hq:nh q)(hs:cj n):d9 n [p,q]=some (if bS (d2 n p.Logic q.Logic)then(cr n p q,true)else(zT,false)):=by
 obtain⟨sp,rp⟩:=hp.ok
 obtain⟨sq,rq⟩:=hq.ok
 have hl:=tq n p.Logic q.Logic
 have hlp:=hp.len
 have hlq:=hq.len
 unfold d9 xV
 rw [bE (by simp),show cU [p,q] 0=some p from rfl,show cU [p,q] 1=some q from rfl]
 simp only [bo]
 rw [J0 hs sp sq rp rq]
 cases hr:bS (d2 n p.Logic q.Logic)with
 |false=>rfl
 |true=>
  simp only [gu,bo]
  unfold kY
  rw [bn (by decide),bH (by omega) (by omega),hl,show((p.Logic.Nodes.length+q.Logic.Nodes.length+1:Nat):Int)-1=((p.Logic.Nodes.length+q.Logic.Nodes.length:Nat):Int)from by omega,MX]
  rfl
end Go.Proofs.YtbmmihfagmchaaaGreat

