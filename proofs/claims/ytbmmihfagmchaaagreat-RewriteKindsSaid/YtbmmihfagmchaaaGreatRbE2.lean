/- cP of this claim: E2. -/
import Derived.Test.YtbmmihfagmchaaaGreatRbQ2
set_option linter.all false
namespace Go.Proofs.YtbmmihfagmchaaaGreat
open Go

def yM{l:aw}(hS:eu l)(h:bQ l=true): ∃sz ks,sK l sz ks/\ ∀p,p<l.Nodes.length->lU l (p:Int)=some (gV l (p+1-sz p) p,0):=by
 obtain⟨_,_,ob,j,r3,r4⟩:=nP hS
 obtain⟨hL,hj⟩:=r4 h
 rw [h]at r3
 have hle:=hL.le
 have hpos:=hL.pos
 obtain⟨N0,_⟩:=hL.inv.at (j:=l.Nodes.length-1) (by omega)
 refine⟨vG ob.first,Er ob.kinds,⟨hpos,hle,fun j hj=>AG hL.inv hle hj,?_,?_⟩,fun p hp=>(LQ hS r3 hL hp).1⟩
 ·have e1:=N0.size fQ (n8 (by omega))
  have e2:=hL.whole
  unfold gx at e2
  rw [show(l.Nodes.length:Int)-1=((l.Nodes.length-1:Nat):Int)from by omega,e1]at e2
  injection e2 with e2
  omega
 ·unfold iv
  rw [r3]
  simp only [bt,nC,kP,iB]
  have hk:cQ ob.kinds j=some (Er ob.kinds (l.Nodes.length-1)):=by
   rw [hj,show(l.Nodes.length:Int)-1=((l.Nodes.length-1:Nat):Int)from by omega,cw]
   unfold Er
   rw [qY (by rw [hL.inv.kl];omega)];rfl
  rw [hk]
  simp only [bt]
  rw [oB _ (by have:=N0.len;omega)]
  rfl
def yG{l a:aw}{sz:Nat->Nat}{ks:Nat->List Int}(af:sK a sz ks)(h:l.Nodes.take a.Nodes.length=a.Nodes):gV l 0 (a.Nodes.length-1)=a:=by
 have hp:=af.pos
 unfold gV
 rw [show a.Nodes.length-1+1=a.Nodes.length from by omega,h,tQ]
 have:=wU af
 exact congrArg aw.mk this
def Nc{n:aa}{a:aw}(hn:ck n)(ha:eu a)(hra:bQ a=true)(h:bQ (d1 n a)=true):lU (d1 n a) ((a.Nodes.length:Int)-1)=some (a,0):=by
 obtain⟨sza,ksa,Ka⟩:=gi ha hra
 obtain⟨sz,ks,af,hP⟩:=yM (AQ hn ha) h
 have hp:=Ka.pos
 have hl:=o0 n a
 have u:=HW (l:=a) (d:=d1 n a) (e:=0) (m:=a.Nodes.length) Ka.all af.all (iQ _) (by have:=Ka.le;omega) (by omega) (by omega) (fun j hj m hm=>by
  obtain⟨m',F⟩:=Ka.all j hj
  have e:m' =m:=by have:=F.node;rw [hm]at this;injection this with this;exact this.symm
  subst e
  rw [pL,QL hj,hm,uS Ka F hj]) (a.Nodes.length-1) (by omega)
 have hw:=Ka.whole
 rw [show(a.Nodes.length:Int)-1=((a.Nodes.length-1:Nat):Int)from by omega,hP _ (by omega)]
 rw [pL]at u
 rw [u.1,hw,show a.Nodes.length-1+1-a.Nodes.length=0 from by omega,yG Ka (by simp [d1])]
def Nb{n:aa}{a b:aw}(hn:ck n)(ha:eu a)(V:eu b)(hra:bQ a=true)(hrb:bQ b=true)(h:bQ (d2 n a b)=true):
  lU (d2 n a b) ((a.Nodes.length:Int)-1)=some (a,0)/\lU (d2 n a b) ((a.Nodes.length:Int)+(b.Nodes.length:Int)-1)=some (b,0):=by
 obtain⟨sza,ksa,Ka⟩:=gi ha hra
 obtain⟨szb,ksb,Kb⟩:=gi V hrb
 obtain⟨sz,ks,af,hP⟩:=yM (AP hn ha V) h
 have pa:=Ka.pos
 have pb:=Kb.pos
 have la:=Ka.le
 have lb:=Kb.le
 have hl:=uz n a b
 have ua:=HW (l:=a) (d:=d2 n a b) (e:=0) (m:=a.Nodes.length) Ka.all af.all (iQ _) (by omega) (by omega) (by omega) (fun j hj m hm=>by
  obtain⟨m',F⟩:=Ka.all j hj
  have e:m' =m:=by have:=F.node;rw [hm]at this;injection this with this;exact this.symm
  subst e
  rw [pL,QK hj,hm,uS Ka F hj]) (a.Nodes.length-1) (by omega)
 have ub:=HW (l:=b) (d:=d2 n a b) (e:=a.Nodes.length) (m:=b.Nodes.length) Kb.all af.all (iQ _) (by omega) (by omega) (by omega) (fun j hj m hm=>QJ hj hm) (b.Nodes.length-1) (by omega)
 have wa:=Ka.whole
 have wb:=Kb.whole
 refine⟨?_,?_⟩
 ·rw [show(a.Nodes.length:Int)-1=((a.Nodes.length-1:Nat):Int)from by omega,hP _ (by omega)]
  rw [pL]at ua
  rw [ua.1,wa,show a.Nodes.length-1+1-a.Nodes.length=0 from by omega,yG Ka (by simp [d2])]
 ·rw [show(a.Nodes.length:Int)+(b.Nodes.length:Int)-1=((a.Nodes.length+(b.Nodes.length-1):Nat):Int)from by omega,hP _ (by omega),ub.1,wb,show a.Nodes.length+(b.Nodes.length-1)+1-b.Nodes.length=a.Nodes.length from by omega]
  unfold gV
  rw [show a.Nodes.length+(b.Nodes.length-1)+1=a.Nodes.length+b.Nodes.length from by omega]
  have e1:((d2 n a b).Nodes.take (a.Nodes.length+b.Nodes.length)).drop a.Nodes.length=b.Nodes.map (oL (a.Nodes.length:Int)):=by
   unfold d2
   rw [vy (by simp),nE (by simp),Dw (iQ _),List.drop_length,iW]
  rw [e1,yl]
  have e2:b.Nodes.map (oL (-(a.Nodes.length:Int))∘oL (a.Nodes.length:Int))=b.Nodes:=by
   conv=>rhs;rw [<-List.map_id b.Nodes]
   refine Bg fun m hm=>?_
   obtain⟨j,hj,rfl⟩:=zu.1 hm
   obtain⟨m,F⟩:=Kb.all j hj
   have hn:=F.node
   rw [cw,qY hj]at hn
   injection hn with hn
   rw [hn]
   obtain⟨hA,hB⟩:=rb F
   have key: ∀x:Int,(x= -1\/0<=x/\x<(j:Int))->tG (-(a.Nodes.length:Int)) (tG (a.Nodes.length:Int) x)=x:=fun x I=>by
    rcases I with I|I
    ·rw [p7 I,p7 rfl,I]
    ·rw [G4 I.1 (by omega) (by omega),xC (by omega) (by omega) (by omega)];omega
   show({oL (a.Nodes.length:Int) m with A:=_,B:=_}:aa)=m
   show({m with A:=tG (-(a.Nodes.length:Int)) (tG (a.Nodes.length:Int) m.A),B:=tG (-(a.Nodes.length:Int)) (tG (a.Nodes.length:Int) m.B)}:aa)=m
   rw [key _ hA,key _ hB]
  rw [e2]
def Io{l:aw}{sz:Nat->Nat}{ks:Nat->List Int}(af:sK l sz ks): ∃r,uD l sz ks (l.Nodes.length-1) r/\l.Nodes=l.Nodes.take (l.Nodes.length-1)++[r]:=by
 have hp:=af.pos
 obtain⟨r,F⟩:=af.all (l.Nodes.length-1) (by omega)
 refine⟨r,F,?_⟩
 have hn:=F.node
 rw [cw,qY (by omega)]at hn
 injection hn with hn
 conv=>lhs;rw [<-r0 (l.Nodes.length-1) l.Nodes,xu (by omega),hn,Bj (by omega)]
def FI{l:aw}(hS:eu l){r:aa}{xs:List aa}(h:l.Nodes=xs++[r]):ck r:=hS r (by rw [h];simp)
def JE{l:aw}(hS:eu l)(h:bQ l=true):
  (∃r,l=⟨[r]⟩/\ck r/\r.A= -1/\r.B= -1)\/(∃n a,ck n/\eu a/\bQ a=true/\l=d1 n a)\/(∃n a b,ck n/\eu a/\eu b/\bQ a=true/\bQ b=true/\l=d2 n a b):=by
 obtain⟨sz,ks,af⟩:=gi hS h
 obtain⟨r,F,hr⟩:=Io af
 have hp:=af.pos
 have hle:=af.le
 have hw:=af.whole
 have hSr:=FI hS hr
 have hop:=qk F.op
 by_cases Y:r.Op=1
 ·obtain⟨f1,f2,f3⟩:=F.lf Y
  left
  refine⟨r,?_,hSr,f1,f2⟩
  rw [show l.Nodes.length-1=0 from by omega,List.take_zero,iW]at hr
  cases l;cases hr;rfl
 ·right
  by_cases J:r.Op=2\/r.Op=7
  ·obtain⟨f0,fB,f1,fA,f2⟩:=F.bi J
   right
   have V:1<=sz (l.Nodes.length-1-1):=by obtain⟨_,G⟩:=af.all (l.Nodes.length-1-1) (by omega);exact G.pos
   have hbl:sz (l.Nodes.length-1-1)<=l.Nodes.length-1-1+1:=by obtain⟨_,G⟩:=af.all (l.Nodes.length-1-1) (by omega);exact G.le
   have ha:1<=sz (l.Nodes.length-1-1-sz (l.Nodes.length-1-1)):=by obtain⟨_,G⟩:=af.all (l.Nodes.length-1-1-sz (l.Nodes.length-1-1)) (by omega);exact G.pos
   have hal:sz (l.Nodes.length-1-1-sz (l.Nodes.length-1-1))<=l.Nodes.length-1-1-sz (l.Nodes.length-1-1)+1:=by obtain⟨_,G⟩:=af.all (l.Nodes.length-1-1-sz (l.Nodes.length-1-1)) (by omega);exact G.le
   have gb:=vV af.all hle (p:=l.Nodes.length-1-1) (by omega) hbl V
   have ga:=vV af.all hle (p:=l.Nodes.length-1-1-sz (l.Nodes.length-1-1)) (by omega) hal ha
   have bb:=xN af.all hle (p:=l.Nodes.length-1-1) (by omega) V
   have ba:=xN af.all hle (p:=l.Nodes.length-1-1-sz (l.Nodes.length-1-1)) (by omega) ha
   have lb:=oQ (l:=l) (e:=l.Nodes.length-1-1+1-sz (l.Nodes.length-1-1)) (p:=l.Nodes.length-1-1) (by omega)
   have la:=oQ (l:=l) (e:=l.Nodes.length-1-1-sz (l.Nodes.length-1-1)+1-sz (l.Nodes.length-1-1-sz (l.Nodes.length-1-1))) (p:=l.Nodes.length-1-1-sz (l.Nodes.length-1-1)) (by omega)
   generalize hsb:sz (l.Nodes.length-1-1)=sb at*
   generalize hsa:sz (l.Nodes.length-1-1-sb)=sa at*
   have ea:l.Nodes.length-1-1-sb+1-sa=0:=by omega
   have eb:l.Nodes.length-1-1+1-sb=sa:=by omega
   rw [ea]at ga ba la
   rw [eb]at gb bb lb
   have hza:(gV l 0 (l.Nodes.length-1-1-sb)).Nodes.map (oL ((0:Nat):Int))=(gV l 0 (l.Nodes.length-1-1-sb)).Nodes:=by
    obtain⟨s1,k1,K1⟩:=gi (nW hS _ _) ga
    exact wU K1
   rw [hza,tQ]at ba
   refine⟨r,gV l 0 (l.Nodes.length-1-1-sb),gV l sa (l.Nodes.length-1-1),hSr,nW hS _ _,nW hS _ _,ga,gb,?_⟩
   have hN:l.Nodes=(d2 r (gV l 0 (l.Nodes.length-1-1-sb)) (gV l sa (l.Nodes.length-1-1))).Nodes:=by
    unfold d2
    have e1:(gV l 0 (l.Nodes.length-1-1-sb)).Nodes.length=sa:=by rw [la];omega
    have e2:(gV l sa (l.Nodes.length-1-1)).Nodes.length=sb:=by rw [lb];omega
    show l.Nodes=(_++_)++[_]
    rw [e1,e2,ba,bb]
    have er:uA ((sa:Int)-1) ((sa:Int)+(sb:Int)-1) r=r:=by
     unfold uA
     rw [show(sa:Int)-1=r.A from by omega,show(sa:Int)+(sb:Int)-1=r.B from by omega]
    rw [er]
    conv=>lhs;rw [hr]
    congr 1
    rw [show l.Nodes.length-1-1-sb+1=sa from by omega,show l.Nodes.length-1-1+1=l.Nodes.length-1 from by omega]
    conv=>lhs;rw [<-r0 sa (l.Nodes.take (l.Nodes.length-1))]
    rw [vt,u3 (by omega)]
   cases l
   exact congrArg aw.mk hN
  ·obtain⟨f0,fA,fB,f1⟩:=F.un Y (fun k=>J (.inl k)) (fun k=>J (.inr k))
   left
   have ha:1<=sz (l.Nodes.length-1-1):=by obtain⟨_,G⟩:=af.all (l.Nodes.length-1-1) (by omega);exact G.pos
   have hal:sz (l.Nodes.length-1-1)<=l.Nodes.length-1-1+1:=by obtain⟨_,G⟩:=af.all (l.Nodes.length-1-1) (by omega);exact G.le
   have ga:=vV af.all hle (p:=l.Nodes.length-1-1) (by omega) hal ha
   have ba:=xN af.all hle (p:=l.Nodes.length-1-1) (by omega) ha
   have la:=oQ (l:=l) (e:=l.Nodes.length-1-1+1-sz (l.Nodes.length-1-1)) (p:=l.Nodes.length-1-1) (by omega)
   generalize hsa:sz (l.Nodes.length-1-1)=sa at*
   have ea:l.Nodes.length-1-1+1-sa=0:=by omega
   rw [ea]at ga ba la
   have hza:(gV l 0 (l.Nodes.length-1-1)).Nodes.map (oL ((0:Nat):Int))=(gV l 0 (l.Nodes.length-1-1)).Nodes:=by
    obtain⟨s1,k1,K1⟩:=gi (nW hS _ _) ga
    exact wU K1
   rw [hza,tQ]at ba
   refine⟨r,gV l 0 (l.Nodes.length-1-1),hSr,nW hS _ _,ga,?_⟩
   have hN:l.Nodes=(d1 r (gV l 0 (l.Nodes.length-1-1))).Nodes:=by
    unfold d1
    have e1:(gV l 0 (l.Nodes.length-1-1)).Nodes.length=sa:=by rw [la];omega
    show l.Nodes=_++[_]
    rw [e1,ba]
    have er:uA ((sa:Int)-1) (-1) r=r:=by
     unfold uA
     rw [show(sa:Int)-1=r.A from by omega,show(-1:Int)=r.B from by omega]
    rw [er]
    conv=>lhs;rw [hr]
    rw [show l.Nodes.length-1-1+1=l.Nodes.length-1 from by omega]
   cases l
   exact congrArg aw.mk hN
def be(n:aa)(p:am):am:=⟨d1 n p.Logic,uA ((p.Logic.Nodes.length:Int)-1) (-1) n,[p]⟩
def cO(n:aa)(p q:am):am:=⟨d2 n p.Logic q.Logic,uA ((p.Logic.Nodes.length:Int)-1) ((p.Logic.Nodes.length:Int)+(q.Logic.Nodes.length:Int)-1) n,[p,q]⟩
inductive ou:am->Prop where
 |leaf (r:aa):ck r->r.A= -1->r.B= -1->bQ ⟨[r]⟩=true->ou ⟨⟨[r]⟩,r,[]⟩
 |one (n:aa) (p:am):ou p->ck n->bQ (d1 n p.Logic)=true->ou (be n p)
 |two (n:aa) (p q:am):ou p->ou q->ck n->bQ (d2 n p.Logic q.Logic)=true->ou (cO n p q)
def ou.ok{t:am}(h:ou t):eu t.Logic/\bQ t.Logic=true:=by
 induction h with
 |leaf r hs _ _ hr=>exact⟨fun n hn=>by cases jL.1 hn;exact hs,hr⟩
 |one n p _ hs hr ih=>exact⟨AQ hs ih.1,hr⟩
 |two n p q _ _ hs hr ih1 ih2=>exact⟨AP hs ih1.1 ih2.1,hr⟩
def ou.len{t:am}(h:ou t):1<=t.Logic.Nodes.length/\t.Logic.Nodes.length<=60:=by
 obtain⟨_,_,af⟩:=gi h.ok.1 h.ok.2
 exact⟨af.pos,af.le⟩
def zc: ∀(k:Nat) (l:aw),l.Nodes.length<=k->eu l->bQ l=true-> ∃t,ou t/\t.Logic=l
 |0,l,hk,hS,hr=>by
  obtain⟨_,_,af⟩:=gi hS hr
  have:=af.pos
  omega
 |k+1,l,hk,hS,hr=>by
  rcases JE hS hr with⟨r,rfl,hs,hA,hB⟩|⟨n,a,hs,ha,hra,rfl⟩|⟨n,a,b,hs,ha,V,hra,hrb,rfl⟩
  ·exact⟨_,.leaf r hs hA hB hr,rfl⟩
  ·obtain⟨p,hp,rfl⟩:=zc k a (by have:=o0 n a;omega) ha hra
   exact⟨_,.one n p hp hs hr,rfl⟩
  ·have hl:=uz n a b
   obtain⟨p,hp,rfl⟩:=zc k a (by omega) ha hra
   obtain⟨q,hq,rfl⟩:=zc k b (by omega) V hrb
   exact⟨_,.two n p q hp hq hs hr,rfl⟩
def Nm{t:am}(h:ou t): ∀fu,t.Logic.Nodes.length<=fu->gJ fu t.Logic=some t:=by
 induction h with
 |leaf r hs hA hB hr=>
  intro fu X
  match fu,X with
  |fu+1,_=>
   unfold gJ
   rw [show cQ ([r]:List aa) (IntKind.i64.wrap ((([r]:List aa).length:Int)-1))=some r from rfl]
   simp only [bt]
   unfold dj dj dj
   simp only [hA,hB]
   rfl
 |one n p hp hs hr ih=>
  intro fu X
  obtain⟨sp,rp⟩:=hp.ok
  have hl:=o0 n p.Logic
  have hlen:=hp.len
  have hf' :(d1 n p.Logic).Nodes.length<=fu:=X
  match fu,hf' with
  |0,hf' =>exact absurd hf' (by omega)
  |fu+1,hf' =>
   unfold gJ
   have e0:cQ (d1 n p.Logic).Nodes (IntKind.i64.wrap (((d1 n p.Logic).Nodes.length:Int)-1))=some (uA ((p.Logic.Nodes.length:Int)-1) (-1) n):=by
    rw [bB (by omega) (by omega),hl,show((p.Logic.Nodes.length+1:Nat):Int)-1=(p.Logic.Nodes.length:Int)from by omega]
    exact Pm
   rw [show(be n p).Logic=d1 n p.Logic from rfl,e0]
   simp only [bt]
   unfold dj dj dj
   rw [show cQ [(uA ((p.Logic.Nodes.length:Int)-1) (-1) n).A,(uA ((p.Logic.Nodes.length:Int)-1) (-1) n).B] ((0:Nat):Int)=some ((p.Logic.Nodes.length:Int)-1)from rfl]
   simp only [bt]
   rw [bD (by simp;omega),Nc hs sp rp hr]
   simp only [bt,ih fu (by omega)]
   rw [show jp ([]:List am) [p]=some [p]from rfl]
   simp only [bt]
   rfl
 |two n p q hp hq hs hr ih1 ih2=>
  intro fu X
  obtain⟨sp,rp⟩:=hp.ok
  obtain⟨sq,rq⟩:=hq.ok
  have hl:=uz n p.Logic q.Logic
  have hlp:=hp.len
  have hlq:=hq.len
  have hf' :(d2 n p.Logic q.Logic).Nodes.length<=fu:=X
  match fu,hf' with
  |0,hf' =>exact absurd hf' (by omega)
  |fu+1,hf' =>
   unfold gJ
   have e0:cQ (d2 n p.Logic q.Logic).Nodes (IntKind.i64.wrap (((d2 n p.Logic q.Logic).Nodes.length:Int)-1))=some (uA ((p.Logic.Nodes.length:Int)-1) ((p.Logic.Nodes.length:Int)+(q.Logic.Nodes.length:Int)-1) n):=by
    rw [bB (by omega) (by omega),hl,show((p.Logic.Nodes.length+q.Logic.Nodes.length+1:Nat):Int)-1=((p.Logic.Nodes.length+q.Logic.Nodes.length:Nat):Int)from by omega]
    exact Na
   obtain⟨g1,g2⟩:=Nb hs sp sq rp rq hr
   rw [show(cO n p q).Logic=d2 n p.Logic q.Logic from rfl,e0]
   simp only [bt]
   unfold dj dj dj
   rw [show cQ [(uA ((p.Logic.Nodes.length:Int)-1) ((p.Logic.Nodes.length:Int)+(q.Logic.Nodes.length:Int)-1) n).A,(uA ((p.Logic.Nodes.length:Int)-1) ((p.Logic.Nodes.length:Int)+(q.Logic.Nodes.length:Int)-1) n).B] ((0:Nat):Int)=some ((p.Logic.Nodes.length:Int)-1)from rfl,
    show cQ [(uA ((p.Logic.Nodes.length:Int)-1) ((p.Logic.Nodes.length:Int)+(q.Logic.Nodes.length:Int)-1) n).A,(uA ((p.Logic.Nodes.length:Int)-1) ((p.Logic.Nodes.length:Int)+(q.Logic.Nodes.length:Int)-1) n).B] ((0+1:Nat):Int)=some ((p.Logic.Nodes.length:Int)+(q.Logic.Nodes.length:Int)-1)from rfl]
   simp only [bt]
   rw [bD (by simp;omega),g1]
   simp only [bt,ih1 fu (by omega)]
   rw [show jp ([]:List am) [p]=some [p]from rfl]
   simp only [bt]
   rw [bD (by simp;omega),g2]
   simp only [bt,ih2 fu (by omega)]
   rw [show jp [p] [q]=some [p,q]from rfl]
   simp only [bt]
   rfl
def K5{t:am}(h:ou t):pc t.Logic=some t:=Nm h fQ (jk (by have:=h.len;omega))
def zT:am:=⟨(⟨[]⟩:aw),(⟨(0:Int),(0:Int),(0:Int),(0:Int),[],false,(⟨[]⟩:ai),[],[],[],[],(0:Int)⟩:aa),[]⟩
def wM{n:aa}{p:am}(hp:ou p)(hs:ck n):dV n [p]=some (if bQ (d1 n p.Logic)then(be n p,true)else(zT,false)):=by
 obtain⟨sp,rp⟩:=hp.ok
 have hl:=o0 n p.Logic
 have hlen:=hp.len
 unfold dV xQ
 rw [bo (by simp),show cQ [p] 0=some p from rfl]
 simp only [bt]
 rw [J1 hs sp rp]
 cases hr:bQ (d1 n p.Logic)with
 |false=>rfl
 |true=>
  simp only [fP,bt]
  unfold kQ
  rw [bo (by decide),bB (by omega) (by omega),hl,show((p.Logic.Nodes.length+1:Nat):Int)-1=(p.Logic.Nodes.length:Int)from by omega,Pm]
  rfl
def D7{n:aa}{p q:am}(hp:ou p)(hq:ou q)(hs:ck n):dV n [p,q]=some (if bQ (d2 n p.Logic q.Logic)then(cO n p q,true)else(zT,false)):=by
 obtain⟨sp,rp⟩:=hp.ok
 obtain⟨sq,rq⟩:=hq.ok
 have hl:=uz n p.Logic q.Logic
 have hlp:=hp.len
 have hlq:=hq.len
 unfold dV xP
 rw [bD (by simp),show cQ [p,q] 0=some p from rfl,show cQ [p,q] 1=some q from rfl]
 simp only [bt]
 rw [J0 hs sp sq rp rq]
 cases hr:bQ (d2 n p.Logic q.Logic)with
 |false=>rfl
 |true=>
  simp only [fP,bt]
  unfold kQ
  rw [bo (by decide),bB (by omega) (by omega),hl,show((p.Logic.Nodes.length+q.Logic.Nodes.length+1:Nat):Int)-1=((p.Logic.Nodes.length+q.Logic.Nodes.length:Nat):Int)from by omega,Na]
  rfl
end Go.Proofs.YtbmmihfagmchaaaGreat

