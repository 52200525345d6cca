import Derived.Test.YtaehdhmbgmbgiaaGreatDoorKkE3
import Derived.Test.YtaehdhmbgmbgiaaGreatDoorKkQ4
import Derived.Test.YtaehdhmbgmbgiaaGreatDoorKkE8
import Derived.Test.YtaehdhmbgmbgiaaGreatDoorKkQ5
import Derived.Test.YtaehdhmbgmbgiaaGreatDoorKkA0
/- du of this claim: I1. -/
set_option linter.all false
namespace Go.Proofs.YtaehdhmbgmbgiaaGreatDoor
open Go
section
def RW(b:da)(t:aB):List cK×Int:=(j5 t.D' b).getD ([],1)
structure GT(b:da)(t:aB):Prop where
 ok:pc t
 nodes: ∀n∈t.D'.j',lZ n
 fits:OM t.D' b=true
def GT.tree{b:da}(H:oF b){t:aB}(h:GT b t): ∃sz ks,Dd t.D' b sz ks/\j5 t.D' b=some (qj t.D' b ks)/\RW b t=qj t.D' b ks/\KF t=ks (t.D'.j'.length-1):=by
 obtain⟨sz,ks,aj⟩:=ab8 h.nodes H h.ok.ok.2 h.fits;have e:=H3 aj h.fits;exact⟨sz,ks,aj,e,by unfold RW;rw [e];rfl,Jn aj.known⟩
def JI{b:da}(H:oF b){t:aB}(h:GT b t):uE (KF t) (RW b t).1/\(RW b t).1.length<=8000/\((RW b t).2=0\/RW b t=([],3)\/RW b t=([],140)):=by
 obtain⟨sz,ks,aj,_,e,k⟩:=h.tree H;obtain⟨p1,p2,p3⟩:=aci aj;rw [e,k];exact⟨p1,p2,p3.imp id (Or.imp id And.left)⟩
def lZ.un{n:ai}{x y:Int}(h:lZ (AR x y n)):lZ n:=⟨⟨h.small.1,h.small.2,h.small.3,h.small.4,h.small.5,h.small.6,h.small.7,h.small.8⟩,h.cond,h.items,h.args⟩
def lZ.ush{n:ai}{d:Int}(h:lZ (u6 d n)):lZ n:=⟨⟨h.small.1,h.small.2,h.small.3,h.small.4,h.small.5,h.small.6,h.small.7,h.small.8⟩,h.cond,h.items,h.args⟩
def aay{b:da}{n:ai}(h:n.Op≠1):GN b n=true:=by unfold GN;rw [show(n.Op==1)=false from by simpa using h];rfl
def GT.one{b:da}{n:ai}{p:aB}(h:GT b (bE n p))(hp:pc p):GT b p/\lZ n:=by
 have hm: ∀m∈p.D'.j',m∈(d1 n p.D').j':=fun m hm=>by unfold d1;exact Ep _ hm
 refine⟨⟨hp,fun m hm' =>h.nodes m (hm m hm'),?_⟩,(h.nodes (AR ((p.D'.j'.length:Int)-1) (-1) n) (by show _∈(d1 n p.D').j';unfold d1;exact NV _ (mf.2 rfl))).un⟩;exact mN.2 fun m hm' =>mN.1 h.fits m (hm m hm')
def HD{b:da}{n:ai}{p:aB}(h:GT b p)(hn:lZ n)(hr:ci (d1 n p.D')=true):GT b (bE n p):=by
 obtain⟨_,_,I,_⟩:=oU h.ok hn.small hr;refine⟨.one n p h.ok hn.small hr,fun m hm=>?_,?_⟩
 ·rcases qR.1 (show m∈p.D'.j'++_ from hm)with q|q
  ·exact h.nodes m q
  ·rw [mf.1 q];exact hn.at _ _
 ·show(p.D'.j'++[_]).all (GN b)=true;rw [As,show p.D'.j'.all (GN b)=true from h.fits];simp only [xr,FV,Cj,Al];exact aay I
def VP{b:da}{ks:Nat->List Int}{l:aZ}(q:List ai)(h:(iA b ks l.j' []).2≠0):Ee (iA b ks (l.j'++q) [])=([],(iA b ks l.j' []).2):=by
 rw [AC,bz h];unfold Ee;rw [bz h]
def Hv{b:da}{ks:Nat->List Int}{l:aZ}:(qj l b ks).2=(iA b ks l.j' []).2:=by
 unfold qj Ee;by_cases h:(iA b ks l.j' []).2=0
 ·rw [aR (by simp [h]),h]
 ·rw [bz h]
def qQ{b:da}(H:oF b){n:ai}{p:aB}(h:GT b p)(hn:lZ n)(hr:ci (d1 n p.D')=true):RW b (bE n p)=if(RW b p).2≠0 then([],(RW b p).2)else ie n b (RW b p).1 [] 0:=by
 obtain⟨sz,ks,aj,_,e,_⟩:=h.tree H;obtain⟨sz',ks',T',_,e',_⟩:=(HD h hn hr).tree H;rw [e,e'];have hle:=aj.known.le;have hpos:=aj.known.pos;have hdl:=sQ n p.D';have hu:=KJ (l:=p.D') (d:=d1 n p.D') (e:=0) (m:=p.D'.j'.length) aj.known.all T'.known.all (kG _) (by omega) (by omega) (by show _<=(d1 n p.D').j'.length;omega) (fun j hj m hm=>by
  obtain⟨m',F⟩:=aj.known.all j hj;have e:m=m' :=by have:=F.node;rw [hm]at this;injection this
  subst e;rw [u9,wq aj.known F hj,aeF hj];exact hm)
 have hks: ∀j,j<p.D'.j'.length->ks' j=ks j:=fun j hj=>by have:=(hu j hj).2;rwa [u9]at this
 have hrun:iA b ks' p.D'.j' []=iA b ks p.D'.j' []:=PK b ks' ks _ _ fun m hm=>by
  obtain⟨_,pB⟩:=CN aj m hm;unfold EX;rcases pB with q|q
  ·rw [bz (by omega),bz (by omega)]
  ·rw [aR (by omega),aR (by omega),hks _ (by omega)]
 show Ee (iA b ks' (p.D'.j'++[AR ((p.D'.j'.length:Int)-1) (-1) n]) [])=_;by_cases h0:(qj p.D' b ks).2=0
 ·rw [aR (by simp [h0])];obtain⟨g1,g2,g3⟩:=Ll aj h0;rw [AC,hrun,aR (by simp [g1])];have eA:uC (iA b ks p.D'.j' []).1 ((p.D'.j'.length:Int)-1)=(qj p.D' b ks).1:=by
   have:=MD (rows:=(iA b ks p.D'.j' []).1) [] (by omega) (x:=(p.D'.j'.length:Int)-1) (by rw [g2];simp) [];simp only [kW,vb]at this;rw [this,g3]
  rw [PJ b ks' _ _ (ie n b (qj p.D' b ks).1 [] 0) (by
   show ie (AR ((p.D'.j'.length:Int)-1) (-1) n) b (uC (iA b ks p.D'.j' []).1 ((p.D'.j'.length:Int)-1)) (uC (iA b ks p.D'.j' []).1 (-1)) (EX ks' (-1))=_;rw [eA];rfl)]
  exact QK _ _ H5
 ·rw [bz h0];rw [Hv]at h0 ⊢;rw [VP _ (by rw [hrun];exact h0),hrun]
def GT.two{b:da}{n:ai}{p q:aB}(h:GT b (dg n p q))(hp:pc p)(hq:pc q):GT b p/\GT b q/\lZ n:=by
 have ha: ∀m∈p.D'.j',m∈(d2 n p.D' q.D').j':=fun m hm=>by unfold d2;exact Ep _ (Ep _ hm)
 have hc: ∀m∈q.D'.j',u6 (p.D'.j'.length:Int) m∈(d2 n p.D' q.D').j':=fun m hm=>by unfold d2;exact Ep _ (NV _ (List.mem_map_of_mem hm))
 refine⟨⟨hp,fun m hm=>h.nodes m (ha m hm),mN.2 fun m hm=>mN.1 h.fits m (ha m hm)⟩,⟨hq,fun m hm=>(h.nodes _ (hc m hm)).ush,mN.2 fun m hm=>show GN b m=true from mN.1 h.fits (u6 (p.D'.j'.length:Int) m) (hc m hm)⟩,?_⟩;exact(h.nodes (AR ((p.D'.j'.length:Int)-1) ((p.D'.j'.length:Int)+(q.D'.j'.length:Int)-1) n) (by show _∈(d2 n p.D' q.D').j';unfold d2;exact NV _ (mf.2 rfl))).un
def T5{b:da}{n:ai}{p q:aB}(h:GT b p)(k:GT b q)(hn:lZ n)(hr:ci (d2 n p.D' q.D')=true):GT b (dg n p q):=by
 obtain⟨_,h27⟩:=CX h.ok k.ok hn.small hr;refine⟨.two n p q h.ok k.ok hn.small hr,fun m hm=>?_,?_⟩
 ·rcases qR.1 (show m∈(p.D'.j'++q.D'.j'.map _)++_ from hm)with w|w
  ·rcases qR.1 w with w|w
   ·exact h.nodes m w
   ·obtain⟨m',hm',e⟩:=rL.1 w;rw [<-e];exact(k.nodes m' hm').sh _
  ·rw [mf.1 w];exact hn.at _ _
 ·show((p.D'.j'++q.D'.j'.map (u6 (p.D'.j'.length:Int)))++[_]).all (GN b)=true;rw [As,As,show p.D'.j'.all (GN b)=true from h.fits,List.all_map,show q.D'.j'.all (GN b∘u6 (p.D'.j'.length:Int))=true from k.fits];simp only [xr,FV,Cj,Al];exact aay (by show n.Op≠1;omega)
def Ie{b:da}(H:oF b){n:ai}{p q:aB}(h:GT b p)(k:GT b q)(hn:lZ n)(hr:ci (d2 n p.D' q.D')=true):RW b (dg n p q)=if(RW b p).2≠0 then([],(RW b p).2)else if(RW b q).2≠0 then([],(RW b q).2)else ie n b (RW b p).1 (RW b q).1 (KF q).length:=by
 obtain⟨sz,ks,aj,_,e,_⟩:=h.tree H;obtain⟨sy,kt,U,_,f,fk⟩:=k.tree H;obtain⟨sz',ks',T',_,e',_⟩:=(T5 h k hn hr).tree H;rw [e,e',f,fk];have hle:=aj.known.le;have hle2:=U.known.le;have hle' :(d2 n p.D' q.D').j'.length<=60:=T'.known.le;have hpos:=aj.known.pos;have hpos2:=U.known.pos;have hdl:=Ai n p.D' q.D';have hu:=KJ (l:=p.D') (d:=d2 n p.D' q.D') (e:=0) (m:=p.D'.j'.length) aj.known.all T'.known.all (kG _) (by omega) (by omega) (by show _<=(d2 n p.D' q.D').j'.length;omega) (fun j hj m hm=>by
  obtain⟨m',F⟩:=aj.known.all j hj;have e:m=m' :=by have:=F.node;rw [hm]at this;injection this
  subst e;rw [u9,wq aj.known F hj,ah3 hj];exact hm)
 have hu2:=KJ (l:=q.D') (d:=d2 n p.D' q.D') (e:=p.D'.j'.length) (m:=q.D'.j'.length) U.known.all T'.known.all (kG _) (by omega) (by omega) (by show _<=(d2 n p.D' q.D').j'.length;omega) (fun j hj m hm=>ah2 hj hm);have hks: ∀j,j<p.D'.j'.length->ks' j=ks j:=fun j hj=>by have:=(hu j hj).2;rwa [u9]at this
 have hks2: ∀j,j<q.D'.j'.length->ks' (p.D'.j'.length+j)=kt j:=fun j hj=>(hu2 j hj).2;have hrun:iA b ks' p.D'.j' []=iA b ks p.D'.j' []:=PK b ks' ks _ _ fun m hm=>by
  obtain⟨_,pB⟩:=CN aj m hm;unfold EX;rcases pB with q|q
  ·rw [bz (by omega),bz (by omega)]
  ·rw [aR (by omega),aR (by omega),hks _ (by omega)]
 show Ee (iA b ks' ((p.D'.j'++q.D'.j'.map (u6 (p.D'.j'.length:Int)))++[AR ((p.D'.j'.length:Int)-1) ((p.D'.j'.length:Int)+(q.D'.j'.length:Int)-1) n]) [])=_;by_cases h0:(qj p.D' b ks).2=0
 ·rw [aR (by simp [h0])];obtain⟨g1,g2,g3⟩:=Ll aj h0;have hrun2:=Oh b kt ks' (d:=p.D'.j'.length) (by omega) (iA b ks p.D'.j' []).1 g2 q.D'.j' [] (fun m hm=>by
   obtain⟨pA,pB⟩:=CN U m hm;refine⟨by omega,by omega,?_⟩;rcases pB with w|w
   ·have e:zt (p.D'.j'.length:Int) m.B=m.B:=by unfold zt;rw [aR (by omega)]
    rw [e];unfold EX;rw [bz (by omega),bz (by omega)]
   ·have e:zt (p.D'.j'.length:Int) m.B=m.B+(p.D'.j'.length:Int):=by unfold zt;rw [bz (by omega),wR (by omega) (by omega)]
    rw [e];unfold EX;rw [aR (by omega),aR (by omega)];have:=hks2 m.B.toNat (by omega);rw [<-this];congr 2;omega)
  rw [vb]at hrun2;have e1:iA b ks' (p.D'.j'++q.D'.j'.map (u6 (p.D'.j'.length:Int))) []=if(iA b kt q.D'.j' []).2≠0 then([],(iA b kt q.D'.j' []).2)else((iA b ks p.D'.j' []).1++(iA b kt q.D'.j' []).1,0):=by
   rw [AC,hrun,aR (by simp [g1]),hrun2]
  by_cases k0:(qj q.D' b kt).2=0
  ·rw [aR (by simp [k0])];obtain⟨i1,i2,i3⟩:=Ll U k0;rw [aR (by simp [i1])]at e1;rw [AC,e1,aR (by simp)];have eA:uC ((iA b ks p.D'.j' []).1++(iA b kt q.D'.j' []).1) ((p.D'.j'.length:Int)-1)=(qj p.D' b ks).1:=by
    have:=MD (rows:=(iA b ks p.D'.j' []).1) [] (by omega) (x:=(p.D'.j'.length:Int)-1) (by rw [g2];simp) (iA b kt q.D'.j' []).1;rw [kW]at this;rw [this,g3]
   have eB:uC ((iA b ks p.D'.j' []).1++(iA b kt q.D'.j' []).1) ((p.D'.j'.length:Int)+(q.D'.j'.length:Int)-1)=(qj q.D' b kt).1:=by
    have:=MD (rows:=(iA b kt q.D'.j' []).1) (iA b ks p.D'.j' []).1 (by omega) (x:=(p.D'.j'.length:Int)+(q.D'.j'.length:Int)-1) (by rw [g2,i2]) [];rw [vb]at this;rw [this,i3]
   have eW:EX ks' ((p.D'.j'.length:Int)+(q.D'.j'.length:Int)-1)=(kt (q.D'.j'.length-1)).length:=by
    unfold EX;rw [aR (by omega),<-hks2 (q.D'.j'.length-1) (by omega)];congr 2;omega
   rw [PJ b ks' _ _ (ie n b (qj p.D' b ks).1 (qj q.D' b kt).1 (kt (q.D'.j'.length-1)).length) (by
    show ie (AR ((p.D'.j'.length:Int)-1) ((p.D'.j'.length:Int)+(q.D'.j'.length:Int)-1) n) b (uC ((iA b ks p.D'.j' []).1++(iA b kt q.D'.j' []).1) ((p.D'.j'.length:Int)-1)) (uC ((iA b ks p.D'.j' []).1++(iA b kt q.D'.j' []).1) ((p.D'.j'.length:Int)+(q.D'.j'.length:Int)-1)) (EX ks' ((p.D'.j'.length:Int)+(q.D'.j'.length:Int)-1))=_;rw [eA,eB,eW];rfl)]
   exact QK _ _ H5
  ·rw [bz k0];rw [Hv]at k0 ⊢;rw [bz k0]at e1;rw [AC,e1,bz k0];unfold Ee;rw [bz k0]
 ·rw [bz h0];rw [Hv]at h0 ⊢;rw [mj,VP _ (by rw [hrun];exact h0),hrun]
end
section
def hT(r:cK)(u:Tr):Bool:=N3 (eP r u).1
def Jx(r:cK)(u:Tr):Prop:=(eP r u).2=0/\Tu (eP r u).1
def zd(r:cK){u:Tr}(hw:u.wf)(hs:u.size<=1000):BJ r (cS u).j'=eP r u:=aaZ r hw hs
def DD(r:cK){u:Tr}(hw:u.wf)(hs:u.size<=1000):pY (cS u) r=hT r u:=by unfold pY Nc hT;rw [zd r hw hs]
def za(r:cK){u:Tr}(hw:u.wf)(hs:u.size<=1000):vX (cS u) r=((eP r u).2==140):=by unfold vX;rw [zd r hw hs]
def Gm{u:Tr}(h:Jo (cS u)):Cf u:=Gn u 0 h.rg
def QO{u:Tr}{ks:List Int}{r:cK}(hw:u.wf)(hs:u.size<=1000)(hg:Jo (cS u))(J:Ax (cS u) ks=true)(hr:RK ks r):Jx r u\/(eP r u=(zV,140)/\Eg u=true):=by
 rcases WT hg (Aw J) hr with⟨I,_,h3,h4⟩|⟨I,_,_,h4⟩
 ·rw [zd r hw hs]at I;refine .inl ⟨I,?_⟩;unfold Nc at h3 h4;rw [zd r hw hs]at h3 h4;refine(mn h3).2 ?_;unfold Ax at J;simp only [iX,xq,xv]at J;rcases h4 with k|k<;>rw [k]
  ·rcases J.2 with j|j<;>rw [j]<;>decide
  ·decide
 ·rw [zd r hw hs]at I;refine .inr ⟨I,?_⟩;rw [<-C0 u 0];exact h4
def H4{u:Tr}{ks:List Int}{r:cK}(hw:u.wf)(hs:u.size<=1000)(hg:Jo (cS u))(J:Ax (cS u) ks=true)(ha:Eg u=false)(hr:RK ks r):Jx r u:=by
 rcases QO hw hs hg J hr with h|h
 ·exact h
 ·rw [ha]at h;cases h.2
def true_and{a b:ac}(ha:Tu a)(H:Tu b):N3 (MH a b)=(N3 a&&N3 b):=by
 cases ha<;>cases H<;>first|rfl|(rename_i x;cases x<;>rfl)|(rename_i x y;cases x<;>cases y<;>rfl)
def PT{r:cK}{n:av}{a b:Tr}(hr:RT r)(hn:n.Tag=22)(ha:a.wf)(H:b.wf)(ga:Cf a)(gb:Cf b)(h:Jx r a)(k:Jx r b):Jx r (.bi n a b)/\hT r (.bi n a b)=(hT r a&&hT r b):=by
 obtain⟨e1,e2⟩:=aa8 hr hn ha H ga gb;have h0:=e1.2 ⟨h.1,k.1,(mn h.2.pl).1 h.2,(mn k.2.pl).1 k.2⟩;refine⟨⟨h0,by rw [e2 h0];exact QS h.2 k.2⟩,?_⟩;unfold hT;rw [e2 h0,true_and h.2 k.2]
def aeU{r:cK}(hr:RT r){c:Tr}:c.wf->Cf c->Jx r c->(∀u∈dN c,Jx r u)/\hT r c=(dN c).all (hT r):=by
 induction c with
 |lf n=>intro _ _ h;simp [dN,h]
 |un n a _=>intro _ _ h;simp [dN,h]
 |bi n a b iha ihb=>
  intro hw hg h;rw [qc];by_cases h22:n.Tag=22
  ·rw [bz h22];have hAc:=GX hr hw.2.1 hg.1;have hBc:=GX hr hw.2.2 hg.2;obtain⟨e1,_⟩:=aa8 hr h22 hw.2.1 hw.2.2 hg.1 hg.2;obtain⟨a0,b0,a1,b1⟩:=e1.1 h.1;have oa:Jx r a:=⟨a0,(mn (hAc.resolve_right fun k=>k a0).2).2 a1⟩;have ob:Jx r b:=⟨b0,(mn (hBc.resolve_right fun k=>k b0).2).2 b1⟩;obtain⟨ha,ha2⟩:=iha hw.2.1 hg.1 oa;obtain⟨H,hb2⟩:=ihb hw.2.2 hg.2 ob;refine⟨fun u hu=>(qR.1 hu).elim (ha u) (H u),?_⟩;rw [(PT hr h22 hw.2.1 hw.2.2 hg.1 hg.2 oa ob).2,As,ha2,hb2]
  ·rw [aR h22];simp [h]
def Xt{r:cK}(hr:RT r): ∀(us:List Tr) (u:Tr),u.wf->Cf u->Jx r u->(∀v∈us,v.wf/\Cf v/\Jx r v)->Jx r (il u us)/\hT r (il u us)=(hT r u&&us.all (hT r))
 |[],u,_,_,h,_=>⟨h,by simp [il]⟩
 |v::us,u,hw,hg,h,k=>by
  obtain⟨v1,v2,v3⟩:=k v (md ..);obtain⟨o1,o2⟩:=PT hr (n:=Sk) rfl hw v1 hg v2 h v3;obtain⟨p1,p2⟩:=Xt hr us (.bi Sk u v) ⟨PZ,hw,v1⟩ ⟨hg,v2⟩ o1 fun w hw=>k w (ma _ hw);refine⟨p1,?_⟩;show hT r (il (.bi Sk u v) us)=_;rw [p2,o2,xr,Ip]
def aeP{x y:cK}{c:Int}(h:c<(x.length:Int))(h0:0<=c):(x++y)[c.toNat]? =x[c.toNat]? :=EU (by omega)
def abx{x y:cK}{c d:Int}(h:(x.length:Int)<=c)(hd:d=c-x.length):(x++y)[c.toNat]? =y[d.toNat]? :=by
 rw [we (by omega)];congr 1;omega
def agO{left:Int}{u:Tr}(hw:u.wf)(h:Bu left u=true):inC 0 left u:=by
 refine(LX u hw 0).2 fun n hn M=>?_;have k1:=vm hw 0 hn M;have k2:=mN.1 h n hn;simp [M]at k2;omega
def acN{left:Int}{u:Tr}(hw:u.wf)(h:wc left u=true):inC left 16 u:=by
 refine(LX u hw 0).2 fun n hn M=>?_;have k1:=vm hw 0 hn M;have k2:=mN.1 h n hn;simp [M]at k2;omega
def ahX{x y:cK}{left:Int}(hl:left<=(x.length:Int))(u:Tr):u.wf->inC 0 left u->cb (x++y) u=cb x u/\ev (x++y) u=ev x u:=by
 induction u with
 |lf n=>
  intro hw h;by_cases M:n.Tag=2
  ·obtain⟨k1,k2⟩:=h M;have e:=aeP (x:=x) (y:=y) (c:=n.X') (by omega) k1;have I: ¬n.Tag=1:=by omega
   refine⟨?_,by unfold ev;rw [aR I,aR I,e]⟩;unfold cb H6;rw [e];have:decide (n.X'<((x++y).length:Int))=decide (n.X'<(x.length:Int)):=by simp only [lj,Rf];omega
   rw [this]
  ·have I:n.Tag=1:=(ZJ (hw:LH 0 n).1).resolve_right M;refine⟨?_,by unfold ev;rw [bz I,bz I]⟩;unfold cb;rw [show(n.Tag==2)=false from by simpa using M];rfl
 |un n a ih=>
  intro hw h;obtain⟨i1,i2⟩:=ih hw.2 h;exact⟨i1,by rw [GR,GR,i2]⟩
 |bi n a b iha ihb=>
  intro hw h;obtain⟨i1,i2⟩:=iha hw.2.1 h.1;obtain⟨j1,j2⟩:=ihb hw.2.2 h.2;exact⟨by simp only [cb,i1,j1],by rw [C4,C4,i2,j2]⟩
def aex{x y:cK}{left:Int}(hl:left=(x.length:Int))(h16:left<=16)(u:Tr):u.wf->inC left 16 u->cb (x++y) u=cb y (Eb (0-left) u)/\ev (x++y) u=ev y (Eb (0-left) u):=by
 induction u with
 |lf n=>
  intro hw h;by_cases M:n.Tag=2
  ·obtain⟨k1,k2⟩:=h M;have I: ¬n.Tag=1:=by omega
   have em:Jy (0-left) n={n with X':=n.X'-left}:=by unfold Jy;rw [bz M,cB (by omega) (by omega),show n.X'+(0-left)=n.X'-left from by omega]
   have e:=abx (x:=x) (y:=y) (c:=n.X') (d:=n.X'-left) (by omega) (by omega);refine⟨?_,?_⟩
   ·unfold Eb;rw [em];unfold cb H6;rw [e];have:decide (n.X'<((x++y).length:Int))=decide (n.X'-left<(y.length:Int)):=by simp only [lj,Rf];omega
    rw [this]
   ·unfold Eb;rw [em];unfold ev;rw [aR I,aR I,e]
  ·have I:n.Tag=1:=(ZJ (hw:LH 0 n).1).resolve_right M;unfold Eb;rw [UK M];refine⟨?_,by unfold ev;rw [bz I,bz I]⟩;unfold cb;rw [show(n.Tag==2)=false from by simpa using M];rfl
 |un n a ih=>
  intro hw h;obtain⟨i1,i2⟩:=ih hw.2 h;exact⟨i1,by unfold Eb;rw [GR,GR,i2]⟩
 |bi n a b iha ihb=>
  intro hw h;obtain⟨i1,i2⟩:=iha hw.2.1 h.1;obtain⟨j1,j2⟩:=ihb hw.2.2 h.2;exact⟨by unfold Eb;simp only [cb,i1,j1],by unfold Eb;rw [C4,C4,i2,j2]⟩
def aa7{x y:cK}{left:Int}(hl:left<=(x.length:Int)){u:Tr}(hw:u.wf)(h:Bu left u=true):eP (x++y) u=eP x u:=by
 obtain⟨I,M⟩:=ahX (y:=y) hl u hw (agO hw h);unfold eP;rw [I,M]
def WV{x y:cK}{left:Int}(hl:left=(x.length:Int))(h16:left<=16){u:Tr}(hw:u.wf)(h:wc left u=true):eP (x++y) u=eP y (Eb (0-left) u):=by
 obtain⟨I,M⟩:=aex (y:=y) hl h16 u hw (acN hw h);unfold eP;rw [I,M]
def X0(f:Tr->Bool)(left:Int)(outer:Bool)(us:List Tr):us.all f=((sA left us).all f&&((us.filter fun u=> !Bu left u&&(wc left u&& !outer)).all f&&(sC left outer us).all f)):=by
 induction us with
 |nil=>rfl
 |cons u us ih=>
  unfold sA sC at ih ⊢;rw [xr,ih];cases hl:Bu left u<;>cases hh:wc left u<;>cases outer<;>simp [NR,hl,hh,Ip,Bool.and_comm,Bool.and_left_comm]
end
section
def Cg(e:au)(w:Nat)(left:Bool)(a b:List cK):List cK:=a.flatMap (pW e b)++a.flatMap (zG e b w left)
def IW{f g:cK->List cK}{c p:cK->Bool}: ∀a:List cK,(∀x∈a,p x=true->(f x).filter c=g x)->(∀x∈a,p x=false->(f x).filter c=[])->(a.flatMap f).filter c=(a.filter p).flatMap g
 |[],_,_=>rfl
 |x::a,h,k=>by
  have ih:=IW a (fun y hy=>h y (ma _ hy)) fun y hy=>k y (ma _ hy);rw [Hg,Rh,ih]
  cases hp:p x with
  |true=>rw [Rm hp,Hg,h x (md ..) hp]
  |false=>rw [Ks (by rw [hp];decide),k x (md ..) hp,kW]
def Qc{e:au}{b:List cK}{x:cK}{c cc pb:cK->Bool}{v:Bool}(h: ∀y∈b,c (x++y)=(v&&(pb y&&cc (x++y)))):(pW e b x).filter c=if v then(pW e (b.filter pb) x).filter cc else []:=by
 unfold pW
 cases v with
 |true=>
  rw [bz rfl,Iu,List.filter_map,Iu,List.filter_map,Iu];congr 1;refine Kp fun y hy=>?_;have:=h y hy;simp only [Function.comp_def,Al]at this ⊢;rw [this];cases pb y<;>cases cc (x++y)<;>cases pY e (x++y)<;>rfl
 |false=>
  rw [aR (by decide),Iu,List.filter_map,Iy.2,xF];intro y hy;simp only [Function.comp_def];rw [h y hy];simp
def Uz{e:au}{w:Nat}{left:Bool}{a b:List cK}{c cc pa pb:cK->Bool}(h: ∀x∈a,∀y∈b,c (x++y)=(pa x&&(pb y&&cc (x++y))))(M:left=true->(∀x∈a,c (x++List.replicate w zV)=(pa x&&cc (x++List.replicate w zV)))/\ ∀y∈b,pb y=true):(Cg e w left a b).filter c=(Cg e w left (a.filter pa) (b.filter pb)).filter cc:=by
 unfold Cg;rw [Rh,Rh];have gen: ∀f g:cK->List cK,(∀x∈a,(f x).filter c=if pa x then(g x).filter cc else [])->(a.flatMap f).filter c=((a.filter pa).flatMap g).filter cc:=fun f g hfg=>by
  rw [IW (g:=fun x=>(g x).filter cc) (p:=pa) a (fun x V hp=>by rw [hfg x V,bz hp]) (fun x V hp=>by rw [hfg x V,aR (by rw [hp];decide)])];have: ∀l:List cK,l.flatMap (fun x=>(g x).filter cc)=(l.flatMap g).filter cc:=fun l=>by
   induction l with
   |nil=>rfl
   |cons x l ih=>rw [Hg,Hg,Rh,ih]
  exact this _
 rw [gen (pW e b) (pW e (b.filter pb)) fun x V=>Qc (h x V)];congr 1;refine gen _ _ fun x V=>?_
 cases left with
 |false=>unfold zG;simp
 |true=>
  obtain⟨k1,k2⟩:=M rfl;have H:b.filter pb=b:=Ri.2 k2;rw [H];unfold zG
  cases hh:Ch e b x with
  |true=>simp
  |false=>
   simp only [FW,Kj,hM];have:=k1 x V
   cases hp:pa x with
   |true=>rw [hp]at this;simp only [Al]at this;simp [NR,this]
   |false=>rw [hp]at this;simp only [Kl]at this;simp [NR,this]
def Qo{f g:cK->List cK}{p:cK->Bool}: ∀a:List cK,(∀x,(g x).length<=(f x).length)->((a.filter p).flatMap g).length<=(a.flatMap f).length
 |[],_=>kG _
 |x::a,h=>by
  have ih:=Qo (p:=p) a h;have V:=h x;rw [Hg,lj]
  cases hp:p x with
  |true=>rw [Rm hp,Hg,lj];omega
  |false=>rw [Ks (by rw [hp];decide)];omega
def agE{e:au}{w:Nat}{left:Bool}{a b:List cK}{pa pb:cK->Bool}(h:left=true-> ∀y∈b,pb y=true):(Cg e w left (a.filter pa) (b.filter pb)).length<=(Cg e w left a b).length:=by
 unfold Cg;rw [lj,lj];have I:=Qo (f:=pW e b) (g:=pW e (b.filter pb)) (p:=pa) a fun x=>((List.filter_sublist.map (fun y=>x++y)).filter (pY e)).length_le;have M:=Qo (f:=zG e b w left) (g:=zG e (b.filter pb) w left) (p:=pa) a fun x=>by
  cases left with
  |false=>unfold zG;simp
  |true=>rw [Ri.2 (h rfl)];exact kG _
 omega
def OL{f g:cK->List cK}(h: ∀x,(f x).Perm (g x)){a a' :List cK}(hp:a.Perm a'):(a.flatMap f).Perm (a'.flatMap g):=by
 have e: ∀l:List cK,(l.flatMap f).Perm (l.flatMap g):=fun l=>by
  induction l with
  |nil=>exact .refl _
  |cons x l ih=>rw [Hg,Hg];exact(h x).append ih
 exact(hp.flatMap_right f).trans (e a')
def Tq{α:Type}{p:α->Bool}{a b:List α}(h:a.Perm b):a.any p=b.any p:=by
 refine Db ?_;rw [xI,xI];exact⟨fun⟨x,V,k⟩=>⟨x,h.mem_iff.1 V,k⟩,fun⟨x,V,k⟩=>⟨x,h.mem_iff.2 V,k⟩⟩
def R9{e:au}{w:Nat}{left:Bool}{a b a' b' :List cK}(ha:a.Perm a')(H:b.Perm b'):(Cg e w left a b).Perm (Cg e w left a' b'):=by
 unfold Cg;refine(OL (fun x=>(H.map _).filter _) ha).append (OL (fun x=>?_) ha);unfold zG Ch;rw [Tq H]
def sR{n:ai}{R:List cK}(ho:n.Op=3)(hl:R.length<=8000)(b:da)(y:List cK)(w:Nat):ie n b R y w=if R.any (vX n.J')then([],140)else(ot (R.filter (pY n.J')),0):=by
 unfold ie v7;rw [aR (by omega),aR (by omega),bz ho];have hfl:=Es (pY n.J') R;by_cases hf:R.any (vX n.J')=true
 ·rw [bz hf,bz hf];rfl
 ·rw [aR hf,aR hf];unfold Fp;rw [aR (by simp),aR (by show¬8000<(R.filter (pY n.J')).length;omega),aR (by omega)]
def EN{n:ai}{R:List cK}(ho:n.Op=6)(hl:R.length<=8000)(b:da)(y:List cK)(w:Nat):ie n b R y w=(ot (sP (ot R)),0):=by
 unfold ie v7;rw [aR (by omega),aR (by omega),aR (by omega),aR (by omega),aR (by omega),bz ho];have:=OT (ot R);rw [show(ot R).length=R.length from zy eZ R]at this;unfold Fp;rw [aR (by simp),aR (by show¬8000<(sP (ot R)).length;omega),aR (by omega)]
def yg{n:ai}{R:List cK}(ho:n.Op=5)(hl:R.length<=8000)(b:da)(y:List cK)(w:Nat):ie n b R y w=if R.any (By n.I')then([],140)else(ot (R.map (pT n.I')),0):=by
 unfold ie v7;rw [aR (by omega),aR (by omega),aR (by omega),aR (by omega),bz ho];by_cases hf:R.any (By n.I')=true
 ·rw [bz hf,bz hf];rfl
 ·rw [aR hf,aR hf];unfold Fp;rw [aR (by simp),aR (by show¬8000<(R.map (pT n.I')).length;rw [Am];omega),aR (by omega)]
def OV{n:ai}(ho:n.Op=2)(b:da)(x y:List cK)(w:Nat)(hf:x.any (GL n.J' y)=false):ie n b x y w=if 40000<x.length*y.length\/8000<(Cg n.J' w n.Left x y).length then([],3)else(ot (Cg n.J' w n.Left x y),0):=by
 unfold ie v7;rw [aR (by omega),bz ho];unfold GH;rw [hf];unfold Fp Cg;by_cases I:40000<x.length*y.length
 ·rw [bz I,bz (show(([]:List cK),(3:Int)).2≠0 by decide),bz (.inl I)]
 ·rw [aR I,aR (show¬((false:Bool)=true) by decide)];rw [aR (show¬((x.flatMap (pW n.J' y)++x.flatMap (zG n.J' y w n.Left),(0:Int)).2≠0)from fun k=>k rfl)];by_cases M:8000<(x.flatMap (pW n.J' y)++x.flatMap (zG n.J' y w n.Left)).length
  ·rw [bz M,bz (.inr M)]
  ·rw [aR M,aR (show¬n.Op=8 by omega),aR (fun k=>k.elim I M)]
end
section
structure YY(ks:List Int)(u:Tr):Prop where
 wf:u.wf
 size:u.size<=1000
 g:Jo (cS u)
 tru:Ax (cS u) ks=true
 safe:Eg u=false
def YY.ok{ks:List Int}{u:Tr}(h:YY ks u){r:cK}(hr:RK ks r):Jx r u:=H4 h.wf h.size h.g h.tru h.safe hr
def YY.flt{ks:List Int}{u:Tr}(h:YY ks u){r:cK}(hr:RK ks r):vX (cS u) r=false:=by
 rw [za r h.wf h.size,(h.ok hr).1];rfl
def YY.ands{ks:List Int}{u:Tr}(h:YY ks u){r:cK}(hr:RK ks r):(∀v∈dN u,Jx r v)/\hT r u=(dN u).all (hT r):=aeU hr.rg h.wf (Gm h.g) (h.ok hr)
def Xr{α:Type}{f g:α->Bool}{l:List α}(h: ∀x∈l,f x=g x):l.all f=l.all g:=by
 refine Db ?_;rw [mN,mN];exact⟨fun k x V=>by rw [<-h x V];exact k x V,fun k x V=>by rw [h x V];exact k x V⟩
def LZ{c:Tr}{ka kb:List Int}(h:YY (ka++kb) c)(hka:ka.length<=16)(outer:Bool){x y:cK}(V:RK ka x)(hy:RK kb y)(hp:outer=true\/outer=false):pY (cS c) (x++y)=((sA (ka.length:Int) (dN c)).all (hT x)&&((sB (ka.length:Int) outer (dN c)).all (hT y)&&(sC (ka.length:Int) outer (dN c)).all (hT (x++y)))):=by
 have hP:=ut h.wf h.size;rw [DD _ h.wf h.size,(h.ands (V.app hy)).2,X0 _ (ka.length:Int) outer];congr 1
 ·refine Xr fun u hu=>?_;obtain⟨I,M⟩:=A4.1 hu;unfold hT;rw [aa7 (by rw [V.len];exact Int.le_refl _) (hP.wf u I).1 M]
 ·congr 1;unfold sB;rw [List.all_map];refine Xr fun u hu=>?_;obtain⟨I,M⟩:=A4.1 hu;simp only [iX]at M;show hT (x++y) u=hT y (Eb (0-(ka.length:Int)) u);unfold hT;rw [WV (by rw [V.len]) (by omega) (hP.wf u I).1 M.2.1]
def RN(left:Int)(us:List Tr):sB left true us=[]:=by
 unfold sB;rw [List.map_eq_nil_iff,Iy];intro u _;simp
def OB{e:Tr}{ka kb:List Int}(h:YY (ka++kb) e){A B:List cK}(hA:uE ka A)(hB:uE kb B):A.any (GL (cS e) B)=false:=by
 rw [FP];intro x V;unfold GL;rw [yE,FP];intro y hy;rw [h.flt ((hA x V).app (hB y hy))];decide
def X9{b:da}{n m:ai}{c e:Tr}{ka kb:List Int}{A B A' B' :List cK}(hA:uE ka A)(hB:uE kb B)(lA:A.length<=8000)(lB:B.length<=8000)(hka:ka.length<=16)(hc:YY (ka++kb) c)(he:YY (ka++kb) e)(hn:n.Op=3)(hnc:n.J'=cS c)(hm:m.Op=2)(hme:m.J'=cS e)
  (pA:A'.Perm (A.filter fun x=>(sA (ka.length:Int) (dN c)).all (hT x)))(pB:B'.Perm (B.filter fun y=>(sB (ka.length:Int) m.Left (dN c)).all (hT y)))(h3:(ie m b A B kb.length).2≠3):
  ∃R,ie (nJ m.Left m.J') b A' B' kb.length=(ot R,0)/\R.length<=8000/\uE (ka++kb) R/\(ie m b A B kb.length).2=0/\ie n b (ie m b A B kb.length).1 [] 0=(ot (R.filter fun z=>(sC (ka.length:Int) m.Left (dN c)).all (hT z)),0):=by
 have mA: ∀x∈A',x∈A:=fun x V=>(A4.1 (pA.mem_iff.1 V)).1;have mB: ∀x∈B',x∈B:=fun x V=>(A4.1 (pB.mem_iff.1 V)).1;have kA:uE ka A' :=fun x V=>hA x (mA x V);have kB:uE kb B' :=fun x V=>hB x (mB x V);have eJ:=OV hm b A B kb.length (by rw [hme];exact OB he hA hB);have eJ' :=OV (n:=nJ m.Left m.J') rfl b A' B' kb.length (by show A'.any (GL m.J' B')=false;rw [hme];exact OB he kA kB);rw [show(nJ m.Left m.J').J'=m.J' from rfl,show(nJ m.Left m.J').Left=m.Left from rfl]at eJ';by_cases hbig:40000<A.length*B.length\/8000<(Cg m.J' kb.length m.Left A B).length
 ·rw [eJ,bz hbig]at h3;exact absurd rfl h3
 ·rw [aR hbig]at eJ;have lO:(Cg m.J' kb.length m.Left A B).length<=8000:=by omega
  have lM:A.length*B.length<=40000:=by omega
  have hpb:m.Left=true-> ∀y∈B,((sB (ka.length:Int) m.Left (dN c)).all (hT y))=true:=fun hl y _=>by rw [hl,RN];rfl
  have lR:=(R9 (e:=m.J') (w:=kb.length) (left:=m.Left) pA pB).length_eq;have lR2:=agE (e:=m.J') (w:=kb.length) (left:=m.Left) (a:=A) (b:=B) (pa:=fun x=>(sA (ka.length:Int) (dN c)).all (hT x)) (pb:=fun y=>(sB (ka.length:Int) m.Left (dN c)).all (hT y)) hpb;have lA' :A'.length<=A.length:=by rw [pA.length_eq];exact Es _ _
  have lB' :B'.length<=B.length:=by rw [pB.length_eq];exact Es _ _
  have lM' :A'.length*B'.length<=A.length*B.length:=NP lA' lB';rw [aR (by omega)]at eJ';refine⟨_,eJ',by omega,?_,by rw [eJ],?_⟩
  ·intro z hz;rcases qR.1 hz with k|k
   ·exact Qd (n:=m) kA kB z k
   ·exact Qe (n:=m) (b:=B') kA z k
  ·have kO:uE (ka++kb) (Cg m.J' kb.length m.Left A B):=fun z hz=>by
    rcases qR.1 hz with k|k
    ·exact Qd (n:=m) hA hB z k
    ·exact Qe (n:=m) (b:=B) hA z k
   have pO:(ot (Cg m.J' kb.length m.Left A B)).Perm (Cg m.J' kb.length m.Left A B):=jb eZ _;rw [eJ];show ie n b (ot _) [] 0=_;rw [sR hn (by rw [pO.length_eq];exact lO),hnc,aR (by
    rw [yE,FP];intro z hz;rw [hc.flt (kO z (pO.mem_iff.1 hz))];decide)]
   congr 1;refine wU fe ?_ (by have:=Es (pY (cS c)) (ot (Cg m.J' kb.length m.Left A B));have:=pO.length_eq;omega);refine(pO.filter _).trans ?_;rw [Uz (c:=pY (cS c)) (cc:=fun z=>(sC (ka.length:Int) m.Left (dN c)).all (hT z)) (pa:=fun x=>(sA (ka.length:Int) (dN c)).all (hT x)) (pb:=fun y=>(sB (ka.length:Int) m.Left (dN c)).all (hT y)) (fun x V y hy=>LZ hc hka m.Left (hA x V) (hB y hy) (by cases m.Left<;>simp)) (fun hl=>⟨fun x V=>by
    have:=LZ hc hka m.Left (hA x V) (De kb) (by cases m.Left<;>simp);rw [this,hl,RN];rfl,hpb hl⟩)]
   exact(R9 pA pB).symm.filter _
end
section
structure KP(t r:aB):Prop where
 v':KF r=KF t
 rows: ∀b,oF b->GT b t->GT b r/\((RW b t).2≠3->RW b r=RW b t)
def KP.refl(t:aB):KP t t:=⟨rfl,fun _ _ h=>⟨h,fun _=>rfl⟩⟩
def KP.trans{t r s:aB}(h:KP t r)(k:KP r s):KP t s:=
 ⟨k.v'.trans h.v',fun b H g=>by
  obtain⟨g1,e1⟩:=h.rows b H g;obtain⟨g2,e2⟩:=k.rows b H g1;exact⟨g2,fun h3=>by rw [e2 (by rw [e1 h3];exact h3),e1 h3]⟩⟩
def agW{n:ai}{p r:aB}(hp:pc p)(hr:pc r)(hn:cI n)(h:ci (d1 n p.D')=true)(h' :ci (d1 n r.D')=true)(k:KP p r):KP (bE n p) (bE n r):=by
 obtain⟨a1,_⟩:=oU hp hn h;obtain⟨b1,_⟩:=oU hr hn h';refine⟨?_,fun b H g=>?_⟩
 ·rw [k.v',a1]at b1;injection b1 with b1;injection b1 with b1 _;exact b1.symm
 ·obtain⟨gp,gn⟩:=g.one hp;obtain⟨gr,er⟩:=k.rows b H gp;refine⟨HD gr gn h',fun h3=>?_⟩;rw [qQ H gr gn h',qQ H gp gn h];rw [qQ H gp gn h]at h3;rw [er];intro e3;rw [bz (by rw [e3];decide)]at h3;exact h3 e3
def agV{n:ai}{p q r s:aB}(hp:pc p)(hq:pc q)(hr:pc r)(hs:pc s)(hn:cI n)(h:ci (d2 n p.D' q.D')=true)(h' :ci (d2 n r.D' s.D')=true)(k:KP p r)(k' :KP q s):KP (dg n p q) (dg n r s):=by
 obtain⟨a1,_⟩:=CX hp hq hn h;obtain⟨b1,_⟩:=CX hr hs hn h';refine⟨?_,fun b H g=>?_⟩
 ·rw [k.v',k'.v',a1]at b1;injection b1 with b1;injection b1 with b1 _;exact b1.symm
 ·obtain⟨gp,gq,gn⟩:=g.two hp hq;obtain⟨gr,er⟩:=k.rows b H gp;obtain⟨gs,es⟩:=k'.rows b H gq;refine⟨T5 gr gs gn h',fun h3=>?_⟩;rw [Ie H gr gs gn h',Ie H gp gq gn h];rw [Ie H gp gq gn h]at h3;have ep:(RW b p).2≠3:=fun e3=>by
   rw [bz (by rw [e3];decide)]at h3;exact h3 e3
  rw [er ep,k'.v'];by_cases h0:(RW b p).2=0
  ·rw [aR (by simp [h0])]at h3;have e2:RW b s=RW b q:=es fun e3=>by
    rw [bz (by rw [e3];decide)]at h3;exact h3 e3
   rw [e2]
  ·rw [bz h0,bz h0]
def X4{p:aB}(hp:pc p):cO p.D'.j' ((p.D'.j'.length-1:Nat):Int)=some p.root:=by
 cases hp with
 |leaf r _ _ _ _=>rfl
 |one n p _ _ _=>
  show cO (d1 n p.D').j' (((d1 n p.D').j'.length-1:Nat):Int)=_;rw [sQ,Nat.add_sub_cancel,aeD];rfl
 |two n p q _ _ _ _=>
  show cO (d2 n p.D' q.D').j' (((d2 n p.D' q.D').j'.length-1:Nat):Int)=_;rw [Ai,Nat.add_sub_cancel,abd];rfl
def R4{n:ai}{p:aB}(hp:pc p)(hn:cI n)(hr:ci (d1 n p.D')=true):p.root.Op≠8:=by
 obtain⟨sz,ks,K⟩:=jt (GZ hn hp.ok.1) hr;have hl:=hp.len;obtain⟨m,F⟩:=K.all (p.D'.j'.length-1) (by rw [sQ];omega);have e:=F.node;rw [aeF (by omega),X4 hp]at e;injection e with e;intro h8;have:=F.last (by rw [<-e];exact h8);rw [sQ]at this;omega
def Da{n:ai}{b:da}{x y:List cK}{w:Nat}(h8:n.Op≠8)(h0:(ie n b x y w).2=0):ot (ie n b x y w).1=(ie n b x y w).1:=by
 unfold ie Fp at h0 ⊢;split at h0
 ·rename_i k;exact absurd h0 k
 ·rename_i k1;rw [aR k1];split at h0
  ·cases h0
  ·rename_i k2;rw [aR k2];show ot (if n.Op=8 then _ else ot _)=if n.Op=8 then _ else ot _;rw [aR h8];exact wU fe (jb eZ _) (by rw [zy];omega)
def Pb{b:da}(H:oF b){t:aB}(g:GT b t)(h8:t.root.Op≠8)(h0:(RW b t).2=0):ot (RW b t).1=(RW b t).1:=by
 have hk:=g.ok
 cases hk with
 |leaf r _ _ _ _=>
  obtain⟨sz,ks,aj,_,e,_⟩:=g.tree H;have e2:qj (⟨[r]⟩:aZ) b ks=ie r b (uC [] r.A) (uC [] r.B) (EX ks r.B):=by
   show Ee (iA b ks [r] [])=_;rw [PJ b ks r [] _ rfl];exact QK _ _ H5
  rw [e]at h0 ⊢;rw [show qj (⟨⟨[r]⟩,r,[]⟩:aB).D' b ks=qj (⟨[r]⟩:aZ) b ks from rfl,e2]at h0 ⊢;exact Da h8 h0
 |one n p hp hs hr=>
  obtain⟨gp,gn⟩:=g.one hp;rw [qQ H gp gn hr]at h0 ⊢;split at h0
  ·rename_i k;exact absurd h0 k
  ·rename_i k;rw [aR k];exact Da h8 h0
 |two n p q hp hq hs hr=>
  obtain⟨gp,gq,gn⟩:=g.two hp hq;rw [Ie H gp gq gn hr]at h0 ⊢;split at h0
  ·rename_i k;exact absurd h0 k
  ·rename_i k;rw [aR k];split at h0
   ·rename_i k;exact absurd h0 k
   ·rename_i k;rw [aR k];exact Da h8 h0
def QW{b:da}(H:oF b){t:aB}(g:GT b t)(h0:(RW b t).2≠0):RW b t=([],(RW b t).2):=by
 rcases(JI H g).2.2 with k|k|k
 ·exact absurd k h0
 ·rw [k]
 ·rw [k]
def Zf{c:Tr}(hw:c.wf)(h:EI c=true)(r:cK):eP r c=(bV true,0):=by
 unfold EI at h;simp only [iX,xq,nE]at h
 cases c with
 |lf n=>
  have hv:n.Value=⟨1,1,0,[]⟩:=by
   have:=h.2;simp [Tr.flat,eY]at this;exact this
  have I:n.Tag=1:=by
   rcases ZJ (hw:LH 0 n).1 with k|k
   ·exact k
   ·exfalso;have hc:=(hw:LH 0 n).2.1;unfold ND mS at hc;rw [sn,k,hv]at hc
    revert hc
    simp
    try decide
  have hcb:cb r (.lf n)=true:=by unfold cb;rw [I];rfl
  rw [JF hcb];unfold ev;rw [bz I,hv];rfl
 |un n a=>have:=a.size_pos;simp only [Tr.size]at h;omega
 |bi n a b=>have:=a.size_pos;simp only [Tr.size]at h;omega
def agJ{u:Tr}(hw:u.wf)(hs:u.size<=1000)(hg:Cf u):lZ (nF (cS u)):=⟨vA (by rw [nj];omega),⟨(by show(cS u).j'.length<=1000;rw [nj];exact hs),afg u hw hg 0⟩,(by intro e he;cases he),(by intro e he;cases he)⟩
def alt{l:Bool}{u:Tr}(hs:u.size<=1000)(hg:Jo (cS u)):lZ (nJ l (cS u)):=⟨GB (by rw [nj];omega),hg,(by intro e he;cases he),(by intro e he;cases he)⟩
def Lj{n:ai}{x:aB}{c:Tr}(V:pc x)(hn:cI n)(hr:ci (d1 n x.D')=true)(hop:n.Op=3)(hw:c.wf)(hs:c.size<=1000)(hc:n.J'=cS c)(hy:EI c=true):KP (bE n x) x:=by
 refine⟨?_,fun b H g=>?_⟩
 ·exact(pV hop (oU V hn hr).1).1.symm
 ·obtain⟨gx,gn⟩:=g.one V;refine⟨gx,fun h3=>?_⟩;rw [qQ H gx gn hr];by_cases h0:(RW b x).2=0
  ·rw [aR (by simp [h0]),sR hop (JI H gx).2.1,hc,aR (by
    rw [yE,FP];intro r _;rw [za r hw hs,Zf hw hy];decide),Ri.2 (fun r _=>by rw [DD r hw hs];unfold hT;rw [Zf hw hy];rfl),Pb H gx (R4 V hn hr) h0,<-h0]
  ·rw [bz h0];exact QW H gx h0
def agr{r:cK}(hr:RT r){e c:Tr}(he:e.wf)(hc:c.wf)(ge:Cf e)(gc:Cf c)(k:Jx r c)(h:Jx r e\/(eP r e=(zV,140)/\Eg e=true)):((eP r (il e [c])).2==140)=((eP r e).2==140)/\(Jx r e->hT r (il e [c])=(hT r e&&hT r c)):=by
 show((eP r (.bi Sk e c)).2==140)=_/\(Jx r e->hT r (.bi Sk e c)=_);rcases h with h|h
 ·obtain⟨o1,o2⟩:=PT hr (n:=Sk) rfl he hc ge gc h k;exact⟨by rw [o1.1,h.1],fun _=>o2⟩
 ·refine⟨?_,fun q=>?_⟩
  ·have I:cb r e=true:=by
    cases hh:cb r e with
    |true=>rfl
    |false=>have:=h.1;rw [QL hh]at this;cases this
   have M:cb r c=true:=by
    cases hh:cb r c with
    |true=>rfl
    |false=>have:=k.1;rw [QL hh]at this;cases this
   have h3:cb r (.bi Sk e c)=true:=by simp only [cb,I,M,Kj]
   rw [JF h3,C4];have e1:=h.1;rw [JF I]at e1;rw [mI (by rw [e1];decide),JF I]
  ·have:=q.1;rw [h.1]at this;cases this
def RP{n m:ai}{y:aB}{e c:Tr}(hy:pc y)(hm:cI m)(hn:cI n)(hry:ci (d1 m y.D')=true)(hr:ci (d1 n (bE m y).D')=true)(hop:n.Op=3)(hop2:m.Op=3)(hw:c.wf)(hs:c.size<=1000)(hc:n.J'=cS c)(hwe:e.wf)(hse:e.size<=1000)(he:m.J'=cS e)(har:Eg c=false)(hz:(il e [c]).size<=1000)(hR:ci (d1 (nF (cS (il e [c]))) y.D')=true):KP (bE n (bE m y)) (bE (nF (cS (il e [c]))) y):=by
 have V:pc (bE m y):= .one m y hy hm hry;obtain⟨ky,_⟩:=oU hy hm hry;obtain⟨kx,_⟩:=oU V hn hr;obtain⟨ky1,ky2⟩:=pV hop2 ky;obtain⟨kx1,kx2⟩:=pV hop kx;have hsm:cI (nF (cS (il e [c]))):=vA (by rw [nj];omega);refine⟨?_,fun b H g=>?_⟩
 ·rw [kx1,ky1];exact(pV rfl (oU hy hsm hR).1).1
 ·obtain⟨gx,gn⟩:=g.one V;obtain⟨gy,gm⟩:=gx.one hy;have gc:Jo (cS c):=by rw [<-hc];exact gn.cond
  have ge:Jo (cS e):=by rw [<-he];exact gm.cond
  have gA:lZ (nF (cS (il e [c]))):=agJ (u:=il e [c]) ⟨PZ,hwe,hw⟩ hz ⟨Gm ge,Gm gc⟩;refine⟨HD gy gA hR,fun h3=>?_⟩;rw [qQ H gx gn hr,qQ H gy gm hry,qQ H gy gA hR];by_cases h0:(RW b y).2=0
  ·obtain⟨kR,lR,_⟩:=JI H gy;rw [aR (c:=(RW b y).2≠0) (by simp [h0]),aR (c:=(RW b y).2≠0) (by simp [h0])];rw [sR hop2 lR,sR (n:=nF (cS (il e [c]))) rfl lR,he,show(nF (cS (il e [c]))).J'=cS (il e [c])from rfl];have hA:(il e [c]).wf:=⟨PZ,hwe,hw⟩;rw [he]at ky2;rw [hc,ky1]at kx2;have key: ∀r∈(RW b y).1,((eP r (il e [c])).2==140)=((eP r e).2==140)/\(Jx r e->hT r (il e [c])=(hT r e&&hT r c)):=fun r hr' =>agr (kR r hr').rg hwe hw (Gm ge) (Gm gc) (H4 hw hs gc kx2 har (kR r hr')) (QO hwe hse ge ky2 (kR r hr'));have ef:(RW b y).1.any (vX (cS (il e [c])))=(RW b y).1.any (vX (cS e)):=by
    refine Db ?_;rw [xI,xI];constructor
    ·rintro⟨r,I,M⟩;refine⟨r,I,?_⟩;rw [za r hA hz,(key r I).1]at M;rw [za r hwe hse];exact M
    ·rintro⟨r,I,M⟩;refine⟨r,I,?_⟩;rw [za r hA hz,(key r I).1];rw [za r hwe hse]at M;exact M
   rw [ef];by_cases hf:(RW b y).1.any (vX (cS e))=true
   ·rw [bz hf,bz hf];rfl
   ·rw [aR hf,aR hf,aR (by simp)];have lF:((RW b y).1.filter (pY (cS e))).length<=8000:=wP (Es _ _) lR;have pF:(ot ((RW b y).1.filter (pY (cS e)))).Perm ((RW b y).1.filter (pY (cS e))):=jb eZ _;rw [sR hop (by show(ot _).length<=8000;rw [pF.length_eq];exact lF),hc,aR (by
     rw [yE,FP];intro r hr';have hm' :r∈(RW b y).1:=(A4.1 (pF.mem_iff.1 hr')).1;rw [za r hw hs,(H4 hw hs gc kx2 har (kR r hm')).1];decide)]
    congr 1;refine wU fe ?_ (by have:=Es (pY (cS (il e [c]))) (RW b y).1;omega);refine .trans ?_ (pF.filter _).symm;rw [Iu];refine .of_eq (Kp fun r hr' =>?_);rw [DD r hA hz,DD r hwe hse,DD r hw hs];have oe:Jx r e:=by
     rcases QO hwe hse ge ky2 (kR r hr')with k|k
     ·exact k
     ·rw [yE,FP]at hf;have:=hf r hr';rw [za r hwe hse,k.1]at this;exact absurd rfl this
    rw [(key r hr').2 oe,Bool.and_comm]
  ·rw [bz (c:=(RW b y).2≠0) h0,bz (c:=(RW b y).2≠0) h0,bz h0]
end
section
def QJ(r:cK){u:Tr}(hw:u.wf)(hs:u.size<=1000):Nc (cS u) r=(eP r u).1:=by unfold Nc;rw [zd r hw hs]
def acm{lt:List Tr}{a K:List Int}{r:cK}(hr:RK a r)(hl: ∀t∈lt,t.wf/\t.size<=1000/\Jo (cS t)/\Eg t=false/\(eM (cS t) a).2=0)(hK:K=(lt.map cS).map fun e=>(eM e a).1){u:Tr}(hw:u.wf)(hs:u.size<=1000)(hc:uS lt.length u)(hs2:(pt lt u).size<=1000)(hg:Jo (cS u))(hk:(eM (cS u) K).2=0):
  vX (cS (pt lt u)) r=vX (cS u) (pT (lt.map cS) r)/\Nc (cS (pt lt u)) r=Nc (cS u) (pT (lt.map cS) r):=by
 have hlt: ∀t∈lt,(eP r t).2=0/\Pl (Nc (cS t) r)/\vW (Nc (cS t) r) (eM (cS t) a).1:=fun t J=>by
  obtain⟨I,M,h3,h4,h5⟩:=hl t J;rcases WT h3 h5 hr with⟨k1,_,k2,k3⟩|⟨_,_,_,k4⟩
  ·exact⟨by rw [<-zd r I M];exact k1,k2,k3⟩
  ·rw [show(cS t).j'.any Rb=Eg t from C0 t 0,h4]at k4;cases k4
 have hcb: ∀t∈lt,cb r t=true:=fun t J=>by
  cases h:cb r t with
  |true=>rfl
  |false=>have:=(hlt t J).1;rw [QL h]at this;cases this
 have hev: ∀t∈lt,(ev r t).2=0:=fun t J=>by have:=(hlt t J).1;rwa [JF (hcb t J)]at this
 have hp:pT (lt.map cS) r=Mx r lt:=by
  unfold pT Mx;rw [vZ];refine ET fun t J=>?_;show Nc (cS t) r=_;rw [QJ r (hl t J).1 (hl t J).2.1,JF (hcb t J)]
 have hrk:RK K (pT (lt.map cS) r):=by
  rw [hK];exact RK.map _ _ _ fun e he=>by
   obtain⟨t,J,rfl⟩:=rL.1 he;exact(hlt t J).2
 have hwp:=ZG lt (fun t J=>(hl t J).1) u hw hc;have hcu:cb (Mx r lt) u=true:=by
  cases h:cb (Mx r lt) u with
  |true=>rfl
  |false=>
   have e:=QL h;rw [hp]at hrk;rcases WT hg hk hrk with⟨k1,_⟩|⟨k1,_⟩
   ·rw [zd _ hw hs,e]at k1;cases k1
   ·rw [zd _ hw hs,e]at k1;cases k1
 have key:eP r (pt lt u)=eP (pT (lt.map cS) r) u:=by
  rw [hp,JF (aiS r lt hcb u hw hc),JF hcu,aiR r lt hev u hw hc]
 rw [za _ hwp hs2,za _ hw hs,QJ _ hwp hs2,QJ _ hw hs,key];exact⟨rfl,rfl⟩
def acA{us:List Tr}(hl:us.length<=1000)(h: ∀u∈us,u.wf/\u.size<=1000/\Cf u):lZ (oJ (us.map cS)):=
 ⟨Fj (by omega) fun u hu=>(h u hu).2.1,⟨(by show 0<=1000;decide),(by intro n hn;cases hn)⟩,fun e he=>by
  obtain⟨u,hu,rfl⟩:=rL.1 (show e∈us.map cS from he);exact⟨by rw [nj];exact(h u hu).2.1,afg u (h u hu).1 (h u hu).2.2 0⟩,(by intro e he;cases he)⟩
def Xn{α:Type}{f g:α->Bool}{l:List α}(h: ∀x∈l,f x=g x):l.any f=l.any g:=by
 refine Db ?_;rw [xI,xI];exact⟨fun⟨x,V,k⟩=>⟨x,V,by rw [<-h x V];exact k⟩,fun⟨x,V,k⟩=>⟨x,V,by rw [h x V];exact k⟩⟩
def Ya{n m:ai}{y:aB}{lt us:List Tr}(hy:pc y)(hm:cI m)(hn:cI n)(hry:ci (d1 m y.D')=true)(hr:ci (d1 n (bE m y).D')=true)(hop:n.Op=5)(hop2:m.Op=5)(l1:m.I'=lt.map cS)(l2: ∀u∈lt,u.wf/\u.size<=1000)(k1:n.I'=us.map cS)(k2: ∀u∈us,u.wf/\u.size<=1000/\uS lt.length u/\(pt lt u).size<=1000)(hul:us.length<=1000)
  (hu:m.I'.any Gb=false)(e1:KF (bE m y)=m.I'.map fun e=>(eM e (KF y)).1)(e2: ∀e∈m.I',(eM e (KF y)).2=0)(f2: ∀e∈n.I',(eM e (KF (bE m y))).2=0)(hR:ci (d1 (oJ ((us.map (pt lt)).map cS)) y.D')=true)(b:da)(H:oF b)(g:GT b (bE n (bE m y))):
  GT b (bE (oJ ((us.map (pt lt)).map cS)) y)/\((RW b (bE n (bE m y))).2≠3->RW b (bE (oJ ((us.map (pt lt)).map cS)) y)=RW b (bE n (bE m y))):=by
 have V:pc (bE m y):= .one m y hy hm hry;obtain⟨gx,gn⟩:=g.one V;obtain⟨gy,gm⟩:=gx.one hy;have hl: ∀t∈lt,t.wf/\t.size<=1000/\Jo (cS t)/\Eg t=false/\(eM (cS t) (KF y)).2=0:=fun t J=>by
  have hmem:cS t∈m.I':=by rw [l1];exact rL.2 ⟨t,J,rfl⟩
  refine⟨(l2 t J).1,(l2 t J).2,gm.items _ hmem,?_,e2 _ hmem⟩;have:=FP.1 hu _ hmem;rw [Rw]at this;simpa using this
 have hug: ∀u∈us,Jo (cS u)/\(eM (cS u) (KF (bE m y))).2=0:=fun u hu' =>by
  have hmem:cS u∈n.I':=by rw [k1];exact rL.2 ⟨u,hu',rfl⟩
  exact⟨gn.items _ hmem,f2 _ hmem⟩
 have gN:lZ (oJ ((us.map (pt lt)).map cS)):=acA (by rw [Am];exact hul) fun v hv=>by
  obtain⟨u,hu',rfl⟩:=rL.1 hv;obtain⟨w1,w2,w3,w4⟩:=k2 u hu';exact⟨ZG lt (fun t J=>(l2 t J).1) u w1 w3,w4,aiQ lt (fun t J=>Gm (hl t J).2.2.1) u w1 w3 (Gm (hug u hu').1)⟩
 refine⟨HD gy gN hR,fun h3=>?_⟩;rw [qQ H gx gn hr,qQ H gy gm hry,qQ H gy gN hR];by_cases h0:(RW b y).2=0
 ·obtain⟨kR,lR,_⟩:=JI H gy;rw [aR (c:=(RW b y).2≠0) (by simp [h0]),aR (c:=(RW b y).2≠0) (by simp [h0])];have key: ∀r∈(RW b y).1,∀u∈us,vX (cS (pt lt u)) r=vX (cS u) (pT m.I' r)/\Nc (cS (pt lt u)) r=Nc (cS u) (pT m.I' r):=fun r hr' u hu' =>by
   obtain⟨w1,w2,w3,w4⟩:=k2 u hu';have:=acm (kR r hr') hl (K:=KF (bE m y)) (by rw [e1,l1]) w1 w2 w3 w4 (hug u hu').1 (hug u hu').2;rw [l1];exact this
  have hI:(oJ ((us.map (pt lt)).map cS)).I'=us.map fun u=>cS (pt lt u):=by
   show(us.map (pt lt)).map cS=_;rw [vZ];rfl
  have q1: ∀r∈(RW b y).1,By (oJ ((us.map (pt lt)).map cS)).I' r=By n.I' (pT m.I' r):=fun r hr' =>by
   rw [hI,k1];unfold By;rw [List.any_map,List.any_map];exact Xn fun u hu' =>(key r hr' u hu').1
  have q2: ∀r∈(RW b y).1,pT (oJ ((us.map (pt lt)).map cS)).I' r=pT n.I' (pT m.I' r):=fun r hr' =>by
   rw [hI,k1];unfold pT;rw [vZ,vZ];exact ET fun u hu' =>(key r hr' u hu').2
  have q0:(RW b y).1.any (By m.I')=false:=by
   rw [FP];intro r hr';unfold By;rw [l1,yE,FP];intro e he;obtain⟨t,J,rfl⟩:=rL.1 he;obtain⟨I,M,h3,h4,h5⟩:=hl t J;rcases WT h3 h5 (kR r hr')with k|k
   ·rw [k.2.1];decide
   ·rw [show(cS t).j'.any Rb=Eg t from C0 t 0,h4]at k;cases k.2.2.2
  rw [yg hop2 lR,q0,aR (show¬((false:Bool)=true) by decide),aR (by simp)];have pX:(ot ((RW b y).1.map (pT m.I'))).Perm ((RW b y).1.map (pT m.I')):=jb eZ _;have lX:(ot ((RW b y).1.map (pT m.I'))).length<=8000:=by rw [pX.length_eq,Am];exact lR
  rw [yg hop lX,yg (n:=oJ ((us.map (pt lt)).map cS)) rfl lR];have ea:(RW b y).1.any (By (oJ ((us.map (pt lt)).map cS)).I')=(ot ((RW b y).1.map (pT m.I'))).any (By n.I'):=by
   rw [Tq pX,List.any_map];exact Xn q1
  rw [ea];by_cases hf:(ot ((RW b y).1.map (pT m.I'))).any (By n.I')=true
  ·rw [bz hf,bz hf]
  ·rw [aR hf,aR hf];congr 1;refine wU fe ?_ (by rw [Am];omega);refine .trans ?_ (pX.map _).symm;exact .of_eq ((ET q2).trans (vZ (f:=pT m.I') (g:=pT n.I') (l:=_)).symm)
 ·rw [bz (c:=(RW b y).2≠0) h0,bz (c:=(RW b y).2≠0) h0,bz h0]
def Lu{n:ai}{x:aB}(V:pc x)(hn:cI n)(hr:ci (d1 n x.D')=true)(hop:n.Op=5):
  (∀d,iK (bE n x) d=some (bE n x,0))\/(∀d,iK (bE n x) d=some (zT,2))\/
  ∃m y items,pc y/\cI m/\x=bE m y/\cI (oJ items)/\ci (d1 (oJ items) y.D')=true/\KP (bE n x) (bE (oJ items) y)/\ ∀d,iK (bE n x) d=some (bE (oJ items) y,1):=by
 have hrw: ∀d,iK (bE n x) d=(if(!(x.root.Op !=(5:Int)))then((fc x.root.I' ni).bind fun r=>some r)else some true).bind fun t1=>
   if t1 then some (bE n x,(0:Int))else jq (bE n x) x n.I' ([]:List au) zT:=fun d=>rfl
 by_cases h5:x.root.Op=5
 ·rcases BZ V with⟨k,_⟩|⟨m,y,hy,hm,hry,rfl,_⟩|⟨m,p,q,_,_,_,_,rfl,k⟩
  ·omega
  ·have hop2:m.Op=5:=h5;obtain⟨ky,_⟩:=oU hy hm hry;obtain⟨kx,_⟩:=oU V hn hr;obtain⟨e1,e2⟩:=y7 hop2 hm.items ky;obtain⟨f1,f2⟩:=y7 hop hn.items kx;have trees: ∀(l:List au) (a:List Int),(∀e∈l,(eM e a).2=0)-> ∃us:List Tr,l=us.map cS/\ ∀u∈us,u.wf/\u.size<=1000:=by
    intro l a
    induction l with
    |nil=>intro _;exact⟨[],rfl,by simp⟩
    |cons e l ih=>
     intro h;obtain⟨us,I,M⟩:=ih fun e he=>h e (ma _ he);obtain⟨u,g1,g2,g3,_⟩:=Bw (h e (md ..));exact⟨u::us,by rw [I,g3];rfl,fun v hv=>by
      rcases iW.1 hv with rfl|hv
      ·exact⟨g1,g2⟩
      ·exact M v hv⟩
   obtain⟨lt,l1,l2⟩:=trees m.I' (KF y) e2;have hlen:lt.length<=16:=by
    have:=FH V;rw [e1,l1]at this;simpa using this
   have hlen2:n.I'.length<=16:=by
    have:=FH (pc.one n _ V hn hr);rw [f1]at this;simpa using this
   have hsafe: ∀v∈m.I',ni v=some (Gb v):=fun v hv=>by
    rw [l1]at hv;obtain⟨u,hu,rfl⟩:=rL.1 hv;unfold ni;rw [Dn (l2 u hu).1 (l2 u hu).2,Rw];simp
   have hroot:(bE m y).root.I'=lt.map cS:=l1;have hc:fc (bE m y).root.I' ni=some (m.I'.any Gb):=by
    unfold fc kw;obtain⟨j,g1,g2⟩:=zU m.I' 0 hsafe;rw [show(bE m y).root.I'=m.I' from rfl,g1];simp only [bw,g2]
   cases hu:m.I'.any Gb with
   |true=>
    left;intro d;rw [hrw,bz (by simp [h5]),hc,hu];rfl
   |false=>
    rcases RZ (bE n (bE m y)) (bE m y) y lt l2 (by omega) hroot rfl hy n.I' [] zT (fun e he=>by
     obtain⟨u,g1,g2,g3,_⟩:=Bw (f2 e he);exact⟨u,g1,g2,g3⟩) (by simp;omega) (by simp)with k|⟨us,k1,k2,k3⟩
    ·left;intro d;rw [hrw,bz (by simp [h5]),hc,hu];exact k
    ·have hk: ∀d,iK (bE n (bE m y)) d=some (if ci (d1 (oJ ((us.map (pt lt)).map cS)) y.D')then(bE (oJ ((us.map (pt lt)).map cS)) y,1)else(zT,2)):=fun d=>by
      rw [hrw,bz (by simp [h5]),hc,hu];exact k3
     cases hR:ci (d1 (oJ ((us.map (pt lt)).map cS)) y.D')with
     |false=>
      right;left;intro d;rw [hk,hR];rfl
     |true=>
      right;right;have hul:us.length<=16:=by rw [k1]at hlen2;simpa using hlen2
      have hsm:cI (oJ ((us.map (pt lt)).map cS)):=Fj (by simp;omega) (fun v hv=>by
       obtain⟨u,hu,rfl⟩:=rL.1 hv;exact(k2 u hu).2.2.2)
      refine⟨m,y,_,hy,hm,rfl,hsm,hR,⟨?_,Ya hy hm hn hry hr hop hop2 l1 l2 k1 k2 (by omega) hu e1 e2 f2 hR⟩,fun d=>by rw [hk,hR];rfl⟩
      ·obtain⟨kz,_⟩:=oU hy hsm hR;obtain⟨g1,g2⟩:=y7 rfl hsm.items kz;rw [f1,g1,k1];show((us.map (pt lt)).map cS).map _=_;rw [vZ,vZ,vZ];refine ET fun u hu=>?_;obtain⟨w1,w2,w3,w4⟩:=k2 u hu;have a1:=(HO w1 w2 (f2 (cS u) (by rw [k1];exact rL.2 ⟨u,hu,rfl⟩))).1;have w5:(pt lt u).wf:=ZG lt (fun t J=>(l2 t J).1) u w1 w3;have a2:=(HO w5 w4 (g2 (cS (pt lt u)) (by
        show _∈((us.map (pt lt)).map cS);exact rL.2 ⟨_,rL.2 ⟨u,hu,rfl⟩,rfl⟩))).1
       have a3:=Wd lt (KF y) (KF (bE m y)) (by rw [e1,l1];simp) (fun j hj=>by
        have hm2:cS lt[j]∈m.I':=by rw [l1];exact rL.2 ⟨_,A5 hj,rfl⟩
        have:=(HO (l2 _ (A5 hj)).1 (l2 _ (A5 hj)).2 (e2 _ hm2)).1;rw [this];congr 1;simp only [e1,l1,List.getElem_map]) u w1 w3 _ a1
       rw [a2]at a3;injection a3
  ·have:m.Op=5:=h5;omega
 ·left;intro d;rw [hrw,aR (by simp [h5])];rfl
end
section
def Yj(s:List (Int×Bool))(k i:Int):(m5 (dO s k true) i).getD false=(decide (k=i)||(m5 s i).getD false):=by
 rw [Yk];by_cases h:k=i
 ·rw [bz h,Cl h];rfl
 ·rw [aR h,El h];rfl
def WY(t e:aB)(has:List (Int×Bool)): ∀(ks:List Int) (i:Nat) (x:aB),lJ t e has ks i x=some (t,0)\/(lJ t e has ks i x=some (e,1)/\ ∀j,i<=j->j<i+ks.length->(m5 has (j:Int)).getD false=true)
 |[],i,_=> .inr ⟨rfl,fun j I M=>by simp at M;omega⟩
 |k::ks,i,x=>by
  unfold lJ
  cases hh:(m5 has (i:Int)).getD false with
  |false=>exact .inl rfl
  |true=>
   rcases WY t e has ks (i+1) x with h|⟨h,M⟩
   ·exact .inl h
   ·refine .inr ⟨h,fun j h3 h4=>?_⟩;simp only [jo]at h4;by_cases hj:j=i
    ·subst hj;exact hh
    ·exact M j (by omega) (by omega)
def Wh(v:au)(c:Int):Prop:= ∃n,v.j'=[n]/\n.Tag=2/\n.X'=c
def QM(t e y:aB): ∀(l:List au) (has:List (Int×Bool)),(∀v∈l,1<=v.j'.length)->jT t e y l has=some (t,0)\/(jT t e y l has=some (e,1)/\ ∀j,j<y.root.Q'.length->(m5 has (j:Int)).getD false=true\/ ∃v∈l,Wh v (j:Int))
 |[],has,_=>by
  rcases WY t e has y.root.Q' 0 zT with h|⟨h,M⟩
  ·exact .inl h
  ·exact .inr ⟨h,fun j hj=> .inl (M j (nh _) (by omega))⟩
 |v::l,has,h=>by
  unfold jT;have I:=h v (md ..);rw [show cO v.j' (0:Int)=some (v.j'[0]'I)from by rw [show(0:Int)=((0:Nat):Int)from rfl,cG,qg]];simp only [bw];split
  ·rename_i hc;simp only [iX,xq]at hc;rcases QM t e y l _ (fun w hw=>h w (ma _ hw))with k|⟨k,k2⟩
   ·exact .inl k
   ·refine .inr ⟨k,fun j hj=>?_⟩;rcases k2 j hj with q|⟨w,hw,q⟩
    ·rw [Yj]at q;by_cases he:v.j'[0].X'=(j:Int)
     ·refine .inr ⟨v,md ..,v.j'[0],?_,hc.2,he⟩;have hl:=hc.1;have hl2:v.j'.length=1:=by omega
      exact(VC.1 hl2).elim fun a ha=>by simp [ha]
     ·rw [El he,B6]at q;exact .inl q
    ·exact .inr ⟨w,ma _ hw,q⟩
  ·rcases QM t e y l has (fun w hw=>h w (ma _ hw))with k|⟨k,k2⟩
   ·exact .inl k
   ·refine .inr ⟨k,fun j hj=>?_⟩;rcases k2 j hj with q|⟨w,hw,q⟩
    ·exact .inl q
    ·exact .inr ⟨w,ma _ hw,q⟩
def Zb(k:Nat)(l:List cK):Prop:=l.Pairwise fun a b=>a.take k≠b.take k
def Zb.perm{k:Nat}{a b:List cK}(h:Zb k a)(hp:a.Perm b):Zb k b:=(hp.pairwise_iff (fun h=>Ne.symm h)).1 h
def UR{n:ai}{ks:List Int}{l:List cK}(h:NN n ks)(hr:uE ks l)(hl:l.length<=8000):Zb n.Q'.length (Ag n l).1:=by
 unfold Ag;split
 ·exact List.Pairwise.nil
 ·unfold Zb gP;split
  ·simp
  ·have hk: ∀k∈sP (ot (l.map (jz n.Q'))),k.length=n.Q'.length:=fun k hm=>by
    rw [yu,(jb eZ _).mem_iff]at hm;obtain⟨r,hm2,rfl⟩:=rL.1 hm;have:=PX h hr;unfold EG at this;simp only [iX,mN]at this;exact(Dk (this.2 r hm2)).2.1
   unfold yd;rw [vZ,List.pairwise_map];have hs:(sP (ot (l.map (jz n.Q')))).Nodup:=xR fe (BM fe (uk fe _ (by rw [Am];omega)));refine List.Pairwise.imp_of_mem ?_ hs;intro u v hu hv huv;have e: ∀(k:cK) (R:List cK),k.length=n.Q'.length->(RR n.M' ⟨k,R⟩).take n.Q'.length=k:=fun k R hkl=>by
    unfold RR;rw [<-hkl];exact NO ..
   show(RR n.M' ⟨u,_⟩).take _≠(RR n.M' ⟨v,_⟩).take _;rw [e u _ (hk u hu),e v _ (hk v hv)];exact huv
def abF{b:da}(H:oF b){f:ai}{z:aB}(hz:pc z)(hf:cI f)(hr:ci (d1 f z.D')=true)(ho:f.Op=4)(g:GT b (bE f z)):Zb f.Q'.length (RW b (bE f z)).1:=by
 obtain⟨gz,gn⟩:=g.one hz;obtain⟨kR,lR,_⟩:=JI H gz;rw [qQ H gz gn hr];split
 ·exact List.Pairwise.nil
 ·obtain⟨kk,_⟩:=oU hz hf hr;obtain⟨p1,p2,p3,p4⟩:=LL hf ho kk;have hg:NN f (KF z):=⟨p1,fun a ha=>⟨gn.args a ha,p2 a ha⟩,FH hz,by omega,hf.aggs⟩;have hk:=UR hg kR lR;unfold ie v7;rw [aR (by omega),aR (by omega),aR (by omega),bz ho];unfold Fp;split
  ·exact List.Pairwise.nil
  ·split
   ·exact List.Pairwise.nil
   ·show Zb _ (if f.Op=8 then _ else ot _);rw [aR (by omega)];exact hk.perm (jb eZ _).symm
def aeX{b:da}(H:oF b){f:ai}{z:aB}{k:Nat}(hz:pc z)(hr:ci (d1 f z.D')=true)(ho:f.Op=3)(g:GT b (bE f z))(h:Zb k (RW b z).1):Zb k (RW b (bE f z)).1:=by
 obtain⟨gz,gn⟩:=g.one hz;obtain⟨kR,lR,_⟩:=JI H gz;rw [qQ H gz gn hr];split
 ·exact List.Pairwise.nil
 ·rw [sR ho lR];split
  ·exact List.Pairwise.nil
  ·exact Zb.perm (List.Pairwise.filter _ h) (jb eZ _).symm
def abg{v:au}{ks:List Int}{j:Nat}(hg:Jo v)(hk:(eM v ks).2=0)(h:Wh v (j:Int)){r:cK}(hr:RK ks r):Nc v r=(r[j]?).getD zV:=by
 obtain⟨u,hw,hs,rfl,_⟩:=Bw hk;obtain⟨n,I,M,h3⟩:=h;rw [QJ r hw hs]
 cases u with
 |lf m=>
  have e:eY m (-1) (-1)=n:=by
   have:(cS (.lf m)).j'=[eY m (-1) (-1)]:=rfl;rw [this]at I;injection I
  have m2:m.Tag=2:=by rw [<-M,<-e];rfl
  have mc:m.X'=(j:Int):=by rw [<-h3,<-e];rfl
  have hcb:cb r (.lf m)=true:=by
   cases hh:cb r (.lf m)with
   |true=>rfl
   |false=>
    have e:=QL hh;rcases WT hg hk hr with⟨k1,_⟩|⟨k1,_⟩
    ·rw [zd _ hw hs,e]at k1;cases k1
    ·rw [zd _ hw hs,e]at k1;cases k1
  rw [JF hcb];unfold ev;rw [aR (by omega),mc];rfl
 |un m a=>have:=Tr.flat_len (.un m a) 0;have l:=a.size_pos;rw [show(Tr.flat (.un m a) 0)=[n]from I]at this;simp [Tr.size]at this;omega
 |bi m a c=>have:=Tr.flat_len (.bi m a c) 0;have l:=a.size_pos;rw [show(Tr.flat (.bi m a c) 0)=[n]from I]at this;simp [Tr.size]at this;omega
def Lv{b:da}(H:oF b){m:ai}{y:aB}{k:Nat}(hy:pc y)(hm:cI m)(hr:ci (d1 m y.D')=true)(ho:m.Op=5)(g:GT b (bE m y))(h:Zb k (RW b y).1)(hc: ∀j,j<k-> ∃v∈m.I',Wh v (j:Int)):(RW b (bE m y)).1.Nodup:=by
 obtain⟨gy,gn⟩:=g.one hy;obtain⟨kR,lR,_⟩:=JI H gy;obtain⟨ky,_⟩:=oU hy hm hr;obtain⟨_,e2⟩:=y7 ho hm.items ky;rw [qQ H gy gn hr];split
 ·exact List.Pairwise.nil
 ·rw [yg ho lR];split
  ·exact List.Pairwise.nil
  ·refine(jb eZ _).nodup_iff.2 ?_;unfold List.Nodup;rw [List.pairwise_map];refine List.Pairwise.imp_of_mem ?_ h;intro u v hu hv huv he;apply huv;refine Kq fun j=>?_;by_cases hj:j<k
   ·obtain⟨w,hw,hcol⟩:=hc j hj;have ew:Nc w u=Nc w v:=(List.map_inj_left.1 he) w hw;rw [abg (gn.items w hw) (e2 w hw) hcol (kR u hu),abg (gn.items w hw) (e2 w hw) hcol (kR v hv)]at ew;rw [D1 hj,D1 hj];have l1:=(kR u hu).len;have l2:=(kR v hv).len;by_cases hl:j<u.length
    ·rw [qg hl,qg (show j<v.length by omega)]at ew ⊢;exact congrArg some ew
    ·rw [Ki (by omega),Ki (by omega)]
   ·rw [Ki (by rw [At];omega),Ki (by rw [At];omega)]
def WZ{α:Type} [DecidableEq α]: ∀(p:α) (l:List α),(p::l).Nodup->xi p l=l
 |p,[],_=>AQ p
 |p,x::t,h=>by
  obtain⟨I,M⟩:=yF.1 h;rw [DN (fun e=>I x (md ..) e.symm),WZ x t M]
def abc{α:Type} [DecidableEq α]{l:List α}(h:l.Nodup):sP l=l:=by
 cases l with
 |nil=>rfl
 |cons x t=>show x::xi x t=_;rw [WZ x t h]
def CV{n:ai}{x:aB}(V:pc x)(hn:cI n)(hr:ci (d1 n x.D')=true)(hop:n.Op=6)(hd: ∀b,oF b->GT b x->(RW b x).1.Nodup):KP (bE n x) x:=by
 refine⟨(SK hop (oU V hn hr).1).symm,fun b H g=>?_⟩;obtain⟨gx,gn⟩:=g.one V;refine⟨gx,fun h3=>?_⟩;rw [qQ H gx gn hr];by_cases h0:(RW b x).2=0
 ·have hs:=Pb H gx (R4 V hn hr) h0;rw [aR (by simp [h0]),EN hop (JI H gx).2.1,hs,abc (hd b H gx),hs,<-h0]
 ·rw [bz h0];exact QW H gx h0
def Tz{b:da}(H:oF b){f:ai}{z:aB}(hz:pc z)(hr:ci (d1 f z.D')=true)(ho:f.Op=6)(g:GT b (bE f z)):(RW b (bE f z)).1.Nodup:=by
 obtain⟨gz,gn⟩:=g.one hz;obtain⟨kR,lR,_⟩:=JI H gz;rw [qQ H gz gn hr];split
 ·exact List.Pairwise.nil
 ·rw [EN ho lR];exact(jb eZ _).nodup_iff.2 (xR fe (BM fe (uk fe _ (by omega))))
def Jf{n:ai}{x:aB}(V:pc x)(hn:cI n)(hr:ci (d1 n x.D')=true)(hop:n.Op=6):
  (∀d,iS (bE n x) d=some (bE n x,0))\/((∀d,iS (bE n x) d=some (x,1))/\KP (bE n x) x):=by
 have hrw: ∀d,iS (bE n x) d=if(x.root.Op==(6:Int))then some (x,(1:Int))else(if(x.root.Op !=(5:Int))then some (bE n x,(0:Int))else
  ((cO x.parts (0:Int)).bind fun e1=>if(e1.root.Op==(3:Int))then((cO e1.parts (0:Int)).bind fun e5=>fT (bE n x) x e5)else fT (bE n x) x e1)):=fun d=>rfl
 by_cases h6:x.root.Op=6
 ·refine .inr ⟨fun d=>by rw [hrw,bz (by simp [h6])],CV V hn hr hop fun b H gx=>?_⟩;rcases BZ V with⟨k,_⟩|⟨m,y,hy,hm,hry,rfl,_⟩|⟨m,p,q,_,_,_,_,rfl,k⟩
  ·omega
  ·exact Tz H hy hry h6 gx
  ·have:m.Op=6:=h6;omega
 ·by_cases h5:x.root.Op=5
  ·rcases BZ V with⟨k,_⟩|⟨m,y,hy,hm,hry,rfl,_⟩|⟨m,p,q,_,_,_,_,rfl,k⟩
   ·omega
   ·have hm5:m.Op=5:=h5;obtain⟨ky,_⟩:=oU hy hm hry;obtain⟨e1,e2⟩:=y7 hm5 hm.items ky;have hne: ∀v∈m.I',1<=v.j'.length:=fun v hv=>(Bp (CW (e2 v hv))).1;have hk1: ∀z,fT (bE n (bE m y)) (bE m y) z=some (bE n (bE m y),0)\/(fT (bE n (bE m y)) (bE m y) z=some (bE m y,1)/\z.root.Op=4/\ ∀j,j<z.root.Q'.length-> ∃v∈m.I',Wh v (j:Int)):=fun z=>by
     unfold fT;split
     ·exact .inl rfl
     ·rename_i h4;rcases QM (bE n (bE m y)) (bE m y) z m.I' [] hne with q|⟨q,q2⟩
      ·exact .inl q
      ·refine .inr ⟨q,by simpa using h4,fun j hj=>?_⟩;rcases q2 j hj with w|w
       ·cases w
       ·exact w
    have hrw2: ∀d,iS (bE n (bE m y)) d=if(y.root.Op==(3:Int))then((cO y.parts (0:Int)).bind fun e5=>fT (bE n (bE m y)) (bE m y) e5)else fT (bE n (bE m y)) (bE m y) y:=fun d=>by
     rw [hrw,aR (by simp [h6]),aR (by simp [h5])];rfl
    have Ma: ∀z,pc z->z.root.Op=4-> ∀b,oF b->GT b z->Zb z.root.Q'.length (RW b z).1:=fun z hz h4 b H gz=>by
     rcases BZ hz with⟨k,_⟩|⟨f,w,hw,hf,hrw',rfl,_⟩|⟨f,p,q,_,_,_,_,rfl,k⟩
     ·omega
     ·have q:=abF (f:=f) H hw hf hrw' h4 gz;exact q
     ·have:f.Op=4:=h4;omega
    by_cases h3:y.root.Op=3
    ·rcases BZ hy with⟨k,_⟩|⟨f,z,hz,hf,hrz,rfl,_⟩|⟨f,p,q,_,_,_,_,rfl,k⟩
     ·omega
     ·rcases hk1 z with k|⟨k,k2,k3⟩
      ·exact .inl fun d=>by rw [hrw2,bz (by simp [h3])];exact k
      ·refine .inr ⟨fun d=>by rw [hrw2,bz (by simp [h3])];exact k,CV V hn hr hop fun b H gx=>?_⟩;obtain⟨gy,_⟩:=gx.one hy;obtain⟨gz,_⟩:=gy.one hz;exact Lv H hy hm hry hm5 gx (aeX H hz hrz h3 gy (Ma z hz k2 b H gz)) k3
     ·have:f.Op=3:=h3;omega
    ·rcases hk1 y with k|⟨k,k2,k3⟩
     ·exact .inl fun d=>by rw [hrw2,aR (by simp [h3])];exact k
     ·refine .inr ⟨fun d=>by rw [hrw2,aR (by simp [h3])];exact k,CV V hn hr hop fun b H gx=>?_⟩;obtain⟨gy,_⟩:=gx.one hy;exact Lv H hy hm hry hm5 gx (Ma y hy k2 b H gy) k3
   ·have:m.Op=5:=h5;omega
  ·exact .inl fun d=>by rw [hrw,aR (by simp [h6]),bz (by simp [h5])]
end
section
structure u4(p:aB)(us:List Tr)(r:aB):Prop where
 v':KF r=KF p
 rows: ∀b,oF b->GT b p->(∀u∈us,Cf u)->(∀x,RK (KF p) x-> ∀u∈us,Jx x u)->GT b r/\((RW b p).2≠3->((RW b p).2≠0/\RW b r=RW b p)\/((RW b p).2=0/\ ∃R,RW b r=(R,0)/\R.Perm ((RW b p).1.filter fun x=>us.all (hT x))))
def S6(R:List cK):(R.filter fun x=>([]:List Tr).all (hT x))=R:=Ri.2 fun _ _=>rfl
def u4.nil(p:aB):u4 p [] p:=⟨rfl,fun b H g _ _=>⟨g,fun _=>by
 by_cases h0:(RW b p).2=0
 ·refine .inr ⟨h0,(RW b p).1,by rw [<-h0],?_⟩;rw [S6]
 ·exact .inl ⟨h0,rfl⟩⟩⟩
def u4.then{p t r:aB}{us:List Tr}(h:u4 p us t)(k:KP t r):u4 p us r:=⟨k.v'.trans h.v',fun b H g I M=>by
 obtain⟨g1,e1⟩:=h.rows b H g I M;obtain⟨g2,e2⟩:=k.rows b H g1;refine⟨g2,fun h3=>?_⟩;rcases e1 h3 with⟨q1,q2⟩|⟨q1,R,q2,q3⟩
 ·exact .inl ⟨q1,by rw [e2 (by rw [q2];exact h3),q2]⟩
 ·exact .inr ⟨q1,R,by rw [e2 (by rw [q2];show(0:Int)≠3;decide),q2],q3⟩⟩
def Th{u:Tr}{us:List Tr}(h:wd (u::us))(hg: ∀v∈u::us,Cf v){R:List cK}(hl:R.length<=8000)(hR: ∀x∈R,RT x/\ ∀v∈u::us,Jx x v)(b:da):ie (nF (cS (il u us))) b R [] 0=(ot (R.filter fun x=>(u::us).all (hT x)),0):=by
 obtain⟨_,hw,hs,_⟩:=AU h;have key: ∀x∈R,Jx x (il u us)/\hT x (il u us)=(u::us).all (hT x):=fun x V=>by
  obtain⟨r1,r2⟩:=hR x V;have:=Xt r1 us u (h.wf u (md ..)).1 (hg u (md ..)) (r2 u (md ..)) fun v hv=>⟨(h.wf v (ma _ hv)).1,hg v (ma _ hv),r2 v (ma _ hv)⟩;rw [xr];exact this
 rw [sR (n:=nF (cS (il u us))) rfl hl,show(nF (cS (il u us))).J'=cS (il u us)from rfl,aR (by
  rw [yE,FP];intro x V;rw [za x hw hs,(key x V).1.1];decide)]
 rw [Kp fun x V=>(DD x hw hs).trans (key x V).2]
def u4.one{p:aB}{u:Tr}{us:List Tr}(hp:pc p)(h:wd (u::us))(hr:ci (d1 (nF (cS (il u us))) p.D')=true):pc (bE (nF (cS (il u us))) p)/\u4 p (u::us) (bE (nF (cS (il u us))) p):=by
 obtain⟨_,hw,hs,_⟩:=AU h;have hsm:cI (nF (cS (il u us))):=vA (by rw [nj];omega);refine⟨.one _ p hp hsm hr,(pV rfl (oU hp hsm hr).1).1,fun b H g I M=>?_⟩;have gN:lZ (nF (cS (il u us))):=agJ hw hs (QT us u (I u (md ..)) fun v hv=>I v (ma _ hv));refine⟨HD g gN hr,fun h3=>?_⟩;obtain⟨kR,lR,_⟩:=JI H g;rw [qQ H g gN hr];by_cases h0:(RW b p).2=0
 ·refine .inr ⟨h0,_,?_,jb eZ _⟩;rw [aR (by simp [h0]),Th h I lR fun x V=>⟨(kR x V).rg,M x (kR x V)⟩]
 ·exact .inl ⟨h0,by rw [bz h0];exact(QW H g h0).symm⟩
def abD(k:Nat):Prop:= ∀t,pc t->t.D'.j'.length<=k->(∀p∈t.parts,NF p)-> ∃r b,(∀f n z,k+1<=f->k+5<=n->gj (cA f) n t z=some (r,b))/\(b=true->NF r/\KP t r)
def IZ{k:Nat}(IH:abD k)(hk2:k<=100){p:aB}(hp:NF p)(hk:p.D'.j'.length+1<=k){us:List Tr}(h:wd us): ∃r b,(∀f,k+1<=f->dE (cA f) p (us.map cS) true=some (r,b))/\(b=true->NF r/\u4 p us r):=by
 cases us with
 |nil=>exact⟨p,true,fun f _=>rfl,fun _=>⟨hp,u4.nil p⟩⟩
 |cons u us=>
  cases hr:ci (d1 (nF (cS (il u us))) p.D')with
  |false=>exact⟨zT,false,fun f _=>by rw [tU _ hp.tok h,hr];rfl,fun k=>by cases k⟩
  |true=>
   obtain⟨hT,hF⟩:=u4.one hp.tok h hr;obtain⟨r,b,I,M⟩:=IH _ hT (by show(d1 _ _).j'.length<=k;rw [sQ];exact hk) (fun q hq=>by
    have:q=p:=mf.1 hq;rw [this];exact hp)
   refine⟨r,b,fun f hf=>?_,fun H=>?_⟩
   ·rw [tU _ hp.tok h,hr];simp only [hM];unfold pP;exact I f jl _ hf (by have:=oQ (n:=k+5) (by omega);exact this)
   ·obtain⟨g1,g2⟩:=M H;exact⟨g1,hF.then g2⟩
def agL{b:Int}{u:Tr}(h:Cf u):Cf (Eb b u):=by
 induction u with
 |lf n=>
  show r64 (Jy b n).Value.N;unfold Jy;split
  ·exact h
  ·exact h
 |un n a ih=>exact ih h
 |bi n x y ihx ihy=>exact⟨ihx h.1,ihy h.2⟩
structure JJ(n m:ai)(c e:Tr)(p q:aB):Prop where
 hp:pc p
 hq:pc q
 hn:cI n
 hm:cI m
 hrx:ci (d2 m p.D' q.D')=true
 hr:ci (d1 n (dg m p q).D')=true
 hop:n.Op=3
 hop2:m.Op=2
 hw:c.wf
 hs:c.size<=1000
 hc:n.J'=cS c
 hwe:e.wf
 hse:e.size<=1000
 he:m.J'=cS e
 har:Eg c=false
 hae:Eg e=false
def JJ.tok{n m:ai}{c e:Tr}{p q:aB}(P:JJ n m c e p q):pc (dg m p q):= .two m p q P.hp P.hq P.hm P.hrx
def JJ.v'{n m:ai}{c e:Tr}{p q:aB}(P:JJ n m c e p q):KF (dg m p q)=KF p++KF q/\KF (bE n (dg m p q))=KF p++KF q/\Ax (cS e) (KF p++KF q)=true/\Ax (cS c) (KF p++KF q)=true:=by
 obtain⟨kj,_⟩:=CX P.hp P.hq P.hm P.hrx;obtain⟨kj1,kj2⟩:=JW P.hop2 kj;obtain⟨kx,_⟩:=oU P.tok P.hn P.hr;obtain⟨kx1,kx2⟩:=pV P.hop kx;rw [P.he]at kj2;rw [P.hc,kj1]at kx2;exact⟨kj1,by rw [kx1,kj1],kj2,kx2⟩
def JJ.rows{n m:ai}{c e:Tr}{p q r1 r2:aB}(P:JJ n m c e p q)(F1:u4 p (sA ((KF p).length:Int) (dN c)) r1)(F2:u4 q (sB ((KF p).length:Int) m.Left (dN c)) r2)(hRJ:ci (d2 (nJ m.Left m.J') r1.D' r2.D')=true)(b:da)(H:oF b)(g:GT b (bE n (dg m p q))):
  GT b (dg (nJ m.Left m.J') r1 r2)/\YY (KF p++KF q) c/\((RW b (bE n (dg m p q))).2≠3->((RW b (bE n (dg m p q))).2≠0/\RW b (dg (nJ m.Left m.J') r1 r2)=RW b (bE n (dg m p q)))\/
   ∃R,RW b (dg (nJ m.Left m.J') r1 r2)=(ot R,0)/\R.length<=8000/\uE (KF p++KF q) R/\RW b (bE n (dg m p q))=(ot (R.filter fun z=>(sC ((KF p).length:Int) m.Left (dN c)).all (hT z)),0)):=by
 obtain⟨gx,gn⟩:=g.one P.tok;obtain⟨gp,gq,gm⟩:=gx.two P.hp P.hq;obtain⟨_,_,k3,k4⟩:=P.v';have Cc:YY (KF p++KF q) c:=⟨P.hw,P.hs,by rw [<-P.hc];exact gn.cond,k4,P.har⟩;have Ce:YY (KF p++KF q) e:=⟨P.hwe,P.hse,by rw [<-P.he];exact gm.cond,k3,P.hae⟩;have hka:=FH P.hp;have hPa:=ut P.hw P.hs;have hrg: ∀u∈dN c,Cf u:=fun u hu=>(Ts P.hw (Gm Cc.g) u hu).2.1;obtain⟨g1,e1⟩:=F1.rows b H gp (fun u hu=>hrg u (A4.1 hu).1) (fun x V u hu=>by
  obtain⟨I,M⟩:=A4.1 hu;have:=(Cc.ands (V.app (De (KF q)))).1 u I;unfold Jx at this ⊢
  rwa [aa7 (by rw [V.len];exact Int.le_refl _) (hPa.wf u I).1 M]at this)
 obtain⟨g2,e2⟩:=F2.rows b H gq (fun u hu=>by
  obtain⟨w,I,_,rfl⟩:=Uk hu;exact agL (hrg w I)) (fun y hy u hu=>by
  obtain⟨w,I,M,rfl⟩:=Uk hu;have:=(Cc.ands ((De (KF p)).app hy)).1 w I;unfold Jx at this ⊢
  rwa [WV (by simp) (by omega) (hPa.wf w I).1 M]at this)
 have gJ:lZ (nJ m.Left m.J'):=by rw [P.he];exact alt P.hse Ce.g
 refine⟨T5 g1 g2 gJ hRJ,Cc,fun h3=>?_⟩;rw [qQ H gx gn P.hr,Ie H gp gq gm P.hrx]at h3 ⊢;rw [Ie H g1 g2 gJ hRJ];by_cases h0:(RW b p).2=0
 ·rw [aR (c:=(RW b p).2≠0) (by simp [h0])]at h3 ⊢;obtain⟨kA,lA,_⟩:=JI H gp;obtain⟨kB,lB,_⟩:=JI H gq;rcases e1 (by rw [h0];decide)with⟨q1,_⟩|⟨_,A',qA,pA⟩
  ·exact absurd h0 q1
  ·rw [qA,aR (c:=(((A',(0:Int)):List cK×Int).2≠0)) (by simp)];by_cases k0:(RW b q).2=0
   ·rw [aR (c:=(RW b q).2≠0) (by simp [k0])]at h3 ⊢;rcases e2 (by rw [k0];decide)with⟨q1,_⟩|⟨_,B',qB,pB⟩
    ·exact absurd k0 q1
    ·rw [qB,aR (c:=(((B',(0:Int)):List cK×Int).2≠0)) (by simp),F2.v'];have hJ3:(ie m b (RW b p).1 (RW b q).1 (KF q).length).2≠3:=fun e3=>by
      rw [bz (by rw [e3];decide)]at h3;exact h3 e3
     obtain⟨R,r1,r2,r3,r4,r5⟩:=X9 kA kB lA lB hka Cc Ce P.hop P.hc P.hop2 P.he pA pB hJ3;exact .inr ⟨R,r1,r2,r3,by rw [aR (by simp [r4])];exact r5⟩
   ·rw [bz (c:=(RW b q).2≠0) k0]at h3 ⊢;rw [bz (by exact k0)]at h3 ⊢;rcases e2 h3 with⟨_,q2⟩|⟨q1,_⟩
    ·exact .inl ⟨k0,by rw [q2,bz k0]⟩
    ·exact absurd q1 k0
 ·rw [bz (c:=(RW b p).2≠0) h0]at h3 ⊢;rw [bz (by exact h0)]at h3 ⊢;rcases e1 h3 with⟨_,q2⟩|⟨q1,_⟩
  ·exact .inl ⟨h0,by rw [q2,bz h0]⟩
  ·exact absurd q1 h0
def JJ.kJ{n m:ai}{c e:Tr}{p q r1 r2:aB}(P:JJ n m c e p q)(I:pc r1)(M:pc r2)(k1:KF r1=KF p)(k2:KF r2=KF q)(hRJ:ci (d2 (nJ m.Left m.J') r1.D' r2.D')=true):cI (nJ m.Left m.J')/\KF (dg (nJ m.Left m.J') r1 r2)=KF (bE n (dg m p q)):=by
 have hsJ:cI (nJ m.Left m.J'):=GB (by have:=P.hse;rw [P.he,nj];omega);refine⟨hsJ,?_⟩;obtain⟨a1,_⟩:=CX I M hsJ hRJ;rw [(JW rfl a1).1,k1,k2,P.v'.2.1]
def RY{n m:ai}{c e:Tr}{p q r1 r2:aB}(P:JJ n m c e p q)(I:pc r1)(M:pc r2)(F1:u4 p (sA ((KF p).length:Int) (dN c)) r1)(F2:u4 q (sB ((KF p).length:Int) m.Left (dN c)) r2)(hRJ:ci (d2 (nJ m.Left m.J') r1.D' r2.D')=true)(hC:sC ((KF p).length:Int) m.Left (dN c)=[]):KP (bE n (dg m p q)) (dg (nJ m.Left m.J') r1 r2):=by
 refine⟨(P.kJ I M F1.v' F2.v' hRJ).2,fun b H g=>?_⟩;obtain⟨gJ,_,e1⟩:=P.rows F1 F2 hRJ b H g;refine⟨gJ,fun h3=>?_⟩;rcases e1 h3 with⟨_,q⟩|⟨R,q1,_,_,q2⟩
 ·exact q
 ·rw [q1,q2,hC,S6]
def Oo{n m:ai}{c e u:Tr}{us:List Tr}{p q r1 r2:aB}(P:JJ n m c e p q)(I:pc r1)(M:pc r2)(F1:u4 p (sA ((KF p).length:Int) (dN c)) r1)(F2:u4 q (sB ((KF p).length:Int) m.Left (dN c)) r2)(hRJ:ci (d2 (nJ m.Left m.J') r1.D' r2.D')=true)(hC:sC ((KF p).length:Int) m.Left (dN c)=u::us)(hRF:ci (d1 (nF (cS (il u us))) (dg (nJ m.Left m.J') r1 r2).D')=true):KP (bE n (dg m p q)) (bE (nF (cS (il u us))) (dg (nJ m.Left m.J') r1 r2)):=by
 obtain⟨hsJ,kJ⟩:=P.kJ I M F1.v' F2.v' hRJ;have TJ:pc (dg (nJ m.Left m.J') r1 r2):= .two _ _ _ I M hsJ hRJ;have hP:wd (u::us):=by
  have:=(ut P.hw P.hs).c ((KF p).length:Int) m.Left
  rwa [hC]at this
 obtain⟨_,hwA,hsA,_⟩:=AU hP;have hsm:cI (nF (cS (il u us))):=vA (by rw [nj];omega);have hin: ∀v∈u::us,v∈dN c:=fun v hv=>by
  rw [<-hC]at hv;exact(A4.1 hv).1
 refine⟨(pV rfl (oU TJ hsm hRF).1).1.trans kJ,fun b H g=>?_⟩;obtain⟨gJ,Cc,e1⟩:=P.rows F1 F2 hRJ b H g;have hrg: ∀v∈u::us,Cf v:=fun v hv=>(Ts P.hw (Gm Cc.g) v (hin v hv)).2.1;have gN:lZ (nF (cS (il u us))):=agJ hwA hsA (QT us u (hrg u (md ..)) fun v hv=>hrg v (ma _ hv));refine⟨HD gJ gN hRF,fun h3=>?_⟩;rw [qQ H gJ gN hRF];rcases e1 h3 with⟨q0,q⟩|⟨R,q1,q2,q3,q4⟩
 ·rw [q,bz q0];exact(QW H g q0).symm
 ·have pR:(ot R).Perm R:=jb eZ R;rw [q1,aR (by simp),q4,Th hP hrg (by show(ot R).length<=8000;rw [pR.length_eq];exact q2) (fun x V=>by
   have hx' :=q3 x (pR.mem_iff.1 V);exact⟨hx'.rg,fun v hv=>(Cc.ands hx').1 v (hin v hv)⟩),hC]
  congr 1;exact wU fe (pR.filter _) (by show((ot R).filter _).length<=_;exact wP (Es _ _) (by rw [pR.length_eq];omega))
end
section
def QV(k:Nat)(t:aB):Prop:= ∃r b,(∀f n z,k+1<=f->k+5<=n->gj (cA f) n t z=some (r,b))/\(b=true->NF r/\KP t r)
def yo{k:Nat}{t:aB}(h:NF t):QV k t:=⟨t,true,fun f n z hf hn=>by
 obtain⟨f,rfl⟩: ∃g,f=g+1:=⟨f-1,by omega⟩;obtain⟨n,rfl⟩: ∃g,n=g+1:=⟨n-1,by omega⟩;exact Wb h f n z,fun _=>⟨h,KP.refl t⟩⟩
def yp{k:Nat}{t r:aB}(h: ∀f,k<=f->d9 (cA (f+1)) t true=some (r,2)):QV k t:=⟨t,false,fun f n z hf hn=>by
 obtain⟨f,rfl⟩: ∃g,f=g+1:=⟨f-1,by omega⟩;obtain⟨n,rfl⟩: ∃g,n=g+1:=⟨n-1,by omega⟩;exact Ym (h f (by omega)) n z,fun k=>by cases k⟩
def yn{k:Nat}{t r:aB}(h: ∀f,k+1<=f->d9 (cA (f+1)) t true=some (r,1))(ks:KP t r)(hR:QV k r):QV (k+1) t:=by
 obtain⟨r',b,I,M⟩:=hR;refine⟨r',b,fun f n z hf hn=>?_,fun H=>⟨(M H).1,ks.trans (M H).2⟩⟩;obtain⟨f,rfl⟩: ∃g,f=g+1:=⟨f-1,by omega⟩;obtain⟨n,rfl⟩: ∃g,n=g+1:=⟨n-1,by omega⟩;rw [Oz (h f (by omega))];exact I (f+1) n z (by omega) (by omega)
def qE{f:Nat}{n:ai}{x:aB}(hop:n.Op=3)(d:Bool):d9 (cA (f+1)) (bE n x) d=fH (cA f) (bE n x) d:=by
 rw [C2,bz (show(bE n x).root.Op=3 from hop)]
def XV{k:Nat}{ht r1 r2:aB}{m' :ai}{e:Tr}{u:Tr}{us:List Tr}{left:Nat}{ands:List Tr}(hP:wd (u::us))(hJ:NF ht)(hJe:ht=dg m' r1 r2)(hop:m'.Op=2)(hm:m'.J'=cS e)(hwe:e.wf)(hse:e.size<=1000)
  (I:pc r1)(hk:(KF r1).length=left)(hC:sC (left:Int) m'.Left ands=u::us)(hr:ci (d1 (nF (cS (il u us))) ht.D')=true):QV k (bE (nF (cS (il u us))) ht):=by
 obtain⟨_,hw,hs,ha⟩:=AU hP;have hsm:cI (nF (cS (il u us))):=vA (by rw [nj];omega);have hT:pc (bE (nF (cS (il u us))) ht):= .one _ ht hJ.tok hsm hr
 cases hy:EI (il u us)with
 |true=>
  refine⟨ht,true,fun f n z hf hn=>?_,fun _=>⟨hJ,Lj hJ.tok hsm hr rfl hw hs rfl hy⟩⟩;obtain⟨f,rfl⟩: ∃g,f=g+1:=⟨f-1,by omega⟩;obtain⟨n,rfl⟩: ∃g,n=g+1+1:=⟨n-2,by omega⟩;rw [Oz (r:=ht) (by rw [qE rfl,yy _ hw hs rfl,hy];rfl)];exact Wb hJ f n z
 |false=>
  refine yo (.mk _ hT (fun p hp=>by rw [mf.1 hp];exact hJ) fun fu d=>?_);have hJo:ht.root.Op=2:=by rw [hJe];exact hop
  rw [qE rfl,yy _ hw hs rfl,hy];simp only [jM,gT];rw [aR (by rw [hJo];intro k;exact absurd k.1 (by decide))]
  cases hc:(ht.root.Op==(2:Int))&& !(Eg (il u us))with
  |false=>rfl
  |true=>
   simp only [hM];rw [show ht.root.J'=cS e from by rw [hJe];exact hm,Dn hwe hse]
   cases Eg e with
   |true=>rfl
   |false=>
    simp only [bw,FW,hM];subst hJe;rw [Dt _ I hw hs rfl,bz];rw [hk,ha,<-hC];exact aiM _ _ _
def S5{k:Nat}(IH:abD k)(hk2:k<=100){n:ai}{x:aB}(V:NF x)(hn:cI n)(hr:ci (d1 n x.D')=true)(hop:n.Op=3)(hl:x.D'.j'.length+1<=k+1):QV (k+1) (bE n x):=by
 have hT:pc (bE n x):= .one n x V.tok hn hr;obtain⟨kx,_⟩:=oU V.tok hn hr;obtain⟨c,hw,hs,hc⟩:=yB (pV hop kx).2;have mkNF:(∀rec d,fH rec (bE n x) d=some (bE n x,0))->QV (k+1) (bE n x):=fun h=>
  yo (.mk _ hT (fun p hp=>by rw [mf.1 hp];exact V) fun fu d=>by rw [qE hop];exact h _ d)
 cases hy:EI c with
 |true=>exact yn (fun f _=>by rw [qE hop,yy _ hw hs hc,hy];rfl) (Lj V.tok hn hr hop hw hs hc hy) (yo V)
 |false=>
  by_cases h3:x.root.Op=3/\Eg c=false
  ·-- two filters
   rcases BZ V.tok with⟨j,_⟩|⟨m,y,hy',hm,hry,rfl,_⟩|⟨m,p,q,_,_,_,_,rfl,j⟩
   ·omega
   ·have hop2:m.Op=3:=h3.1;obtain⟨ky,_⟩:=oU hy' hm hry;obtain⟨e,hwe,hse,he⟩:=yB (pV hop2 ky).2;have hf: ∀rec d,fH rec (bE n (bE m y)) d=if e.size+c.size+1<=1000 then(if ci (d1 (nF (cS (il e [c]))) y.D')then some (bE (nF (cS (il e [c]))) y,1)else some (zT,2))else some (bE n (bE m y),0):=fun rec d=>by
     rw [yy _ hw hs hc,hy];simp only [jM,gT];rw [bz h3,show(bE m y).root.J'=cS e from he,Xq ⟨hwe,hse⟩ ⟨hw,hs⟩];by_cases h:e.size+c.size+1<=1000
     ·rw [bz h,bz h,bw,aR (show¬(((0:Int) !=(0:Int))=true) by decide),show cO (bE m y).parts (0:Int)=some y from rfl,bw,
       CK hy' (vA (by rw [nj,uX];simp [wj];omega)),bw]
      cases ci (d1 (nF (cS (il e [c]))) y.D')<;>rfl
     ·rw [aR h,aR h,bw,bz (by decide)]
    by_cases h:e.size+c.size+1<=1000
    ·cases hR:ci (d1 (nF (cS (il e [c]))) y.D')with
     |false=>exact yp (fun f _=>by rw [qE hop,hf,bz h,hR];rfl)
     |true=>
      have hsm:cI (nF (cS (il e [c]))):=vA (by rw [nj,uX];simp [wj];omega);have hT2:pc (bE (nF (cS (il e [c]))) y):= .one _ y hy' hsm hR;refine yn (fun f _=>by rw [qE hop,hf,bz h,hR];rfl) (RP hy' hm hn hry hr hop hop2 hw hs hc hwe hse he h3.2 (by rw [uX];simp [wj];omega) hR) (IH _ hT2 ?_ (fun p hp=>by rw [mf.1 hp];exact V.sub y (by show y∈[y];simp)))
      ·have l1:(d1 (nF (cS (il e [c]))) y.D').j'.length=y.D'.j'.length+1:=sQ _ _;have l2:(d1 m y.D').j'.length=y.D'.j'.length+1:=sQ _ _;show(d1 (nF (cS (il e [c]))) y.D').j'.length<=k;have l3:(bE m y).D'.j'.length=y.D'.j'.length+1:=l2;omega
    ·exact mkNF fun rec d=>by rw [hf,aR h]
   ·have:m.Op=3:=h3.1;omega
  ·have hf: ∀rec d,fH rec (bE n x) d=(if((x.root.Op==(2:Int))&& !(Eg c))then((th x.root.J').bind fun r5=>some r5)else some false).bind fun t2=>if t2 then jF rec (bE n x) d else some (bE n x,(0:Int)):=fun rec d=>by
    rw [yy _ hw hs hc,hy];simp only [jM,gT];rw [aR h3]
   cases M:(x.root.Op==(2:Int))&& !(Eg c)with
   |false=>exact mkNF fun rec d=>by rw [hf,M];rfl
   |true=>
    have hxo:x.root.Op=2:=by simp only [iX,xq]at M;exact M.1
    rcases BZ V.tok with⟨j,_⟩|⟨m,y,_,_,_,rfl,_,j,_⟩|⟨m,p,q,hp,hq,hm,hrx,rfl,_⟩
    ·omega
    ·exact absurd hxo j
    ·have hop2:m.Op=2:=hxo;obtain⟨kj,_⟩:=CX hp hq hm hrx;obtain⟨kj1,kj2⟩:=JW hop2 kj;obtain⟨e,hwe,hse,he⟩:=yB kj2
     cases hae:Eg e with
     |true=>
      refine mkNF fun rec d=>?_;rw [hf,M];simp only [hM];rw [show(dg m p q).root.J'=cS e from he,Dn hwe hse,hae];rfl
     |false=>
      have hf2: ∀rec d,fH rec (bE n (dg m p q)) d=jF rec (bE n (dg m p q)) d:=fun rec d=>by
       rw [hf,M];simp only [hM];rw [show(dg m p q).root.J'=cS e from he,Dn hwe hse,hae];rfl
      by_cases hAB:(sA ((KF p).length:Int) (dN c))=[]/\(sB ((KF p).length:Int) m.Left (dN c))=[]
      ·exact mkNF fun rec d=>by rw [hf2,Dt rec hp hw hs hc,bz hAB]
      ·have hP:=ut hw hs;have hkl:=FH hp;have hpN:NF p:=V.sub p (by show p∈[p,q];simp);have hqN:NF q:=V.sub q (by show q∈[p,q];simp);have lx:(dg m p q).D'.j'.length=p.D'.j'.length+q.D'.j'.length+1:=Ai _ _ _;have lp:=hp.len;have lq:=hq.len;obtain⟨r1,b1,g1,g2⟩:=IZ IH hk2 hpN (by omega) (hP.a ((KF p).length:Int));obtain⟨r2,b2,i1,i2⟩:=IZ IH hk2 hqN (by omega) (hP.b (left:=((KF p).length:Int)) (by omega) m.Left);have hPC:=hP.c ((KF p).length:Int) m.Left;have first: ∀f,k+1<=f->d9 (cA (f+1)) (bE n (dg m p q)) true=if(!b1)then some (bE n (dg m p q),(2:Int))else if(!b2)then some (bE n (dg m p q),(2:Int))else
         (gZ (nJ m.Left m.J') [r1,r2]).bind fun r2=>if(!r2.2)then some (bE n (dg m p q),(2:Int))else
          (dE (cA f) r2.1 ((sC ((KF p).length:Int) m.Left (dN c)).map cS) false).bind fun r3=>(mQ r3.1 r3.2).bind fun r4=>some (r4.1,r4.2):=fun f hf=>by
        rw [qE hop,hf2,Dt _ hp hw hs hc,aR hAB,g1 f hf,bw,i1 f hf,bw]
       cases b1 with
       |false=>exact yp (fun f hf=>by rw [first f (by omega)];rfl)
       |true=>
        cases b2 with
        |false=>exact yp (fun f hf=>by rw [first f (by omega)];rfl)
        |true=>
         obtain⟨N1,F1⟩:=g2 rfl;obtain⟨N2,F2⟩:=i2 rfl;have hsJ:cI (nJ m.Left m.J'):=GB (by rw [he,nj];omega);rw [Lz N1.tok N2.tok hsJ]at first
         cases hRJ:ci (d2 (nJ m.Left m.J') r1.D' r2.D')with
         |false=>exact yp (fun f hf=>by rw [first f (by omega),hRJ];rfl)
         |true=>
          have TJ:pc (dg (nJ m.Left m.J') r1 r2):= .two _ _ _ N1.tok N2.tok hsJ hRJ;have NJ:NF (dg (nJ m.Left m.J') r1 r2):= .mk _ TJ (fun v hv=>by
           rcases iW.1 hv with rfl|hv
           ·exact N1
           ·rw [mf.1 hv];exact N2) (AI (by show(2:Int)≠3;decide) (by show(2:Int)≠5;decide) (by show(2:Int)≠6;decide))
          have P:JJ n m c e p q:=⟨hp,hq,hn,hm,hrx,hr,hop,hop2,hw,hs,hc,hwe,hse,he,by simp only [iX,Hh]at M;exact M.2,hae⟩;have first2: ∀f,k+1<=f->d9 (cA (f+1)) (bE n (dg m p q)) true=(dE (cA f) (dg (nJ m.Left m.J') r1 r2) ((sC ((KF p).length:Int) m.Left (dN c)).map cS) false).bind fun r3=>(mQ r3.1 r3.2).bind fun r4=>some (r4.1,r4.2):=fun f hf=>by
           rw [first f hf,hRJ];rfl
          cases hC:sC ((KF p).length:Int) m.Left (dN c)with
          |nil=>
           rw [hC]at first2;exact yn (r:=dg (nJ m.Left m.J') r1 r2) (fun f hf=>by rw [first2 f hf];rfl) (RY P N1.tok N2.tok F1 F2 hRJ hC) (yo NJ)
          |cons u us=>
           rw [hC]at first2 hPC;have first3: ∀f,k+1<=f->d9 (cA (f+1)) (bE n (dg m p q)) true=if ci (d1 (nF (cS (il u us))) (dg (nJ m.Left m.J') r1 r2).D')then some (bE (nF (cS (il u us))) (dg (nJ m.Left m.J') r1 r2),1)else some (zT,2):=fun f hf=>by
            rw [first2 f hf,tU _ TJ hPC];cases ci (d1 (nF (cS (il u us))) (dg (nJ m.Left m.J') r1 r2).D')<;>rfl
           cases hRF:ci (d1 (nF (cS (il u us))) (dg (nJ m.Left m.J') r1 r2).D')with
           |false=>exact yp (fun f hf=>by rw [first3 f (by omega),hRF];rfl)
           |true=>
            exact yn (fun f hf=>by rw [first3 f hf,hRF];rfl) (Oo P N1.tok N2.tok F1 F2 hRJ hC hRF)
             (XV (m' :=nJ m.Left m.J') (e:=e) (left:=(KF p).length) (ands:=dN c) hPC NJ rfl rfl he hwe hse N1.tok (by rw [F1.v']) hC hRF)
def Pz: ∀k,k<=100->abD k
 |0,_,t,hT,hl,_=>by have:=hT.len;omega
 |k+1,hk,t,hT,hl,hp=>by
  have IH:=Pz k (by omega);show QV (k+1) t;have base:Q0 t->QV (k+1) t:=fun h=>yo (.mk t hT hp h);rcases BZ hT with⟨I,_⟩|⟨n,x,V,hn,hr,rfl,_⟩|⟨n,p,q,_,_,_,_,rfl,h⟩
  ·exact base (AI (by omega) (by omega) (by omega))
  ·have hxN:NF x:=hp x (by show x∈[x];simp);have hl2:x.D'.j'.length+1<=k+1:=by have:(bE n x).D'.j'.length=x.D'.j'.length+1:=sQ _ _;omega
   by_cases h3:n.Op=3
   ·exact S5 IH (by omega) hxN hn hr h3 hl2
   ·by_cases h5:n.Op=5
    ·have ff: ∀f d,d9 (cA (f+1)) (bE n x) d=iK (bE n x) d:=fun f d=>by
      rw [C2,aR (show¬(bE n x).root.Op=3 from h3),bz (show(bE n x).root.Op=5 from h5)]
     rcases Lu V hn hr h5 with g|g|⟨m,y,items,hy,hm,rfl,hs,hR,ks,g⟩
     ·exact base fun f d=>by rw [ff];exact g d
     ·exact yp fun f _=>by rw [ff];exact g true
     ·refine yn (fun f _=>by rw [ff];exact g true) ks (IH _ (.one _ y hy hs hR) ?_ (fun p hp=>by rw [mf.1 hp];exact hxN.sub y (by show y∈[y];simp)));have l1:(bE (oJ items) y).D'.j'.length=y.D'.j'.length+1:=sQ _ _;have l2:(bE m y).D'.j'.length=y.D'.j'.length+1:=sQ _ _;omega
    ·by_cases h6:n.Op=6
     ·have ff: ∀f d,d9 (cA (f+1)) (bE n x) d=iS (bE n x) d:=fun f d=>by
       rw [C2,aR (show¬(bE n x).root.Op=3 from h3),aR (show¬(bE n x).root.Op=5 from h5),bz (show(bE n x).root.Op=6 from h6)]
      rcases Jf V hn hr h6 with g|⟨g,g2⟩
      ·exact base fun f d=>by rw [ff];exact g d
      ·exact yn (fun f _=>by rw [ff];exact g true) g2 (yo hxN)
     ·exact base (AI h3 h5 h6)
  ·have hR:(dg n p q).root.Op=2\/(dg n p q).root.Op=7:=h;exact base (AI (by omega) (by omega) (by omega))
end
section
def Ul:ra=cA (jl-1+1):=by
 unfold ra;congr 1
def VH{t r:aB}{b:Bool}(h: ∀f n z,60+1<=f->60+5<=n->gj (cA f) n t z=some (r,b)):s6 t=some (r,b):=by
 unfold s6 pP ra;exact h jl jl _ (oQ (by omega)) (oQ (by omega))
def aeB{t:aB}(h:pc t): ∃r b,(∀fu,t.D'.j'.length<=fu->g9 fu t=some (r,b))/\(b=true->NF r/\KP t r):=by
 induction h with
 |leaf r hs hA hB hr=>
  have hT:pc ⟨⟨[r]⟩,r,[]⟩:= .leaf r hs hA hB hr;refine⟨⟨⟨[r]⟩,r,[]⟩,true,fun fu hf=>?_,fun _=>⟨.mk _ hT (fun p hp=>by cases hp) ?_,KP.refl _⟩⟩
  ·have hf' :1<=fu:=hf
   match fu,hf' with
   |fu+1,_=>rfl
  ·rcases BZ hT with⟨I,_⟩|⟨n,p,_,_,_,e,_⟩|⟨n,p,q,_,_,_,_,e,_⟩
   ·exact AI (by omega) (by omega) (by omega)
   ·exact absurd (congrArg aB.parts e) (by simp [bE])
   ·exact absurd (congrArg aB.parts e) (by simp [dg])
 |one n p hp hs hr ih=>
  obtain⟨r,b,I,M⟩:=ih;have hl:(bE n p).D'.j'.length=p.D'.j'.length+1:=sQ _ _;have hsa:cI (bE n p).root:=hs.at _ _;have step: ∀fu,(bE n p).D'.j'.length<=fu->g9 fu (bE n p)=if(!b)then some (bE n p,false)else(gZ (bE n p).root [r]).bind fun r=>if(!r.2)then some (bE n p,false)else(s6 r.1).bind fun r1=>some (r1.1,r1.2):=fun fu hf=>by
   match fu,(by omega:1<=fu)with
   |fu+1,_=>
    unfold g9;rw [aR (by show¬(((1:Nat):Int)==0)=true;decide),show(bE n p).parts=[p]from rfl];unfold kL;rw [I fu (by omega),bw]
    cases b with
    |false=>rfl
    |true=>
     rw [aR (show¬((!true)=true) by decide),aR (show¬((!true)=true) by decide),show app ([]:List aB) [r]=some [r]from rfl,bw];rfl
  cases b with
  |false=>exact⟨bE n p,false,fun fu hf=>by rw [step fu hf];rfl,fun k=>by cases k⟩
  |true=>
   obtain⟨N,K⟩:=M rfl;rw [CK N.tok hsa]at step;have ed:d1 (bE n p).root r.D'=d1 n r.D':=rfl;have et:bE (bE n p).root r=bE n r:=rfl;rw [ed,et]at step
   cases hR:ci (d1 n r.D')with
   |false=>exact⟨bE n p,false,fun fu hf=>by rw [step fu hf,hR];rfl,fun k=>by cases k⟩
   |true=>
    have hT:pc (bE n r):= .one n r N.tok hs hR;obtain⟨r',b',g1,g2⟩:=Pz 60 (by omega) (bE n r) hT hT.len.2 (fun q hq=>by rw [mf.1 hq];exact N);refine⟨r',b',fun fu hf=>?_,fun H=>⟨(g2 H).1,(agW hp N.tok hs hr hR K).trans (g2 H).2⟩⟩;rw [step fu hf,hR];simp only [hM,bw];rw [VH g1];rfl
 |two n p q hp hq hs hr ih1 ih2=>
  obtain⟨r,b,I,M⟩:=ih1;obtain⟨s,c,i1,i2⟩:=ih2;have hl:(dg n p q).D'.j'.length=p.D'.j'.length+q.D'.j'.length+1:=Ai _ _ _;have hsa:cI (dg n p q).root:=hs.at _ _;have step: ∀fu,(dg n p q).D'.j'.length<=fu->g9 fu (dg n p q)=if(!b)then some (dg n p q,false)else if(!c)then some (dg n p q,false)else(gZ (dg n p q).root [r,s]).bind fun r=>if(!r.2)then some (dg n p q,false)else(s6 r.1).bind fun r1=>some (r1.1,r1.2):=fun fu hf=>by
   match fu,(by omega:1<=fu)with
   |fu+1,_=>
    unfold g9;rw [aR (by show¬(((2:Nat):Int)==0)=true;decide),show(dg n p q).parts=[p,q]from rfl];unfold kL;rw [I fu (by omega),bw]
    cases b with
    |false=>rfl
    |true=>
     rw [aR (show¬((!true)=true) by decide),aR (show¬((!true)=true) by decide),show app ([]:List aB) [r]=some [r]from rfl,bw];unfold kL;rw [i1 fu (by omega),bw]
     cases c with
     |false=>rfl
     |true=>
      rw [aR (show¬((!true)=true) by decide),aR (show¬((!true)=true) by decide),show app [r] [s]=some [r,s]from rfl,bw];rfl
  cases b with
  |false=>exact⟨dg n p q,false,fun fu hf=>by rw [step fu hf];rfl,fun k=>by cases k⟩
  |true=>
   cases c with
   |false=>exact⟨dg n p q,false,fun fu hf=>by rw [step fu hf];rfl,fun k=>by cases k⟩
   |true=>
    obtain⟨N,K⟩:=M rfl;obtain⟨N',K'⟩:=i2 rfl;rw [Lz N.tok N'.tok hsa]at step;have ed:d2 (dg n p q).root r.D' s.D'=d2 n r.D' s.D':=rfl;have et:dg (dg n p q).root r s=dg n r s:=rfl;rw [ed,et]at step
    cases hR:ci (d2 n r.D' s.D')with
    |false=>exact⟨dg n p q,false,fun fu hf=>by rw [step fu hf,hR];rfl,fun k=>by cases k⟩
    |true=>
     have hT:pc (dg n r s):= .two n r s N.tok N'.tok hs hR;obtain⟨r',b',g1,g2⟩:=Pz 60 (by omega) (dg n r s) hT hT.len.2 (fun v hv=>by
      rcases iW.1 hv with rfl|hv
      ·exact N
      ·rw [mf.1 hv];exact N')
     refine⟨r',b',fun fu hf=>?_,fun H=>⟨(g2 H).1,(agV hp hq N.tok N'.tok hs hr hR K K').trans (g2 H).2⟩⟩;rw [step fu hf,hR];simp only [rM,jM,gT,hM,bw];rw [VH g1];rfl
def Up{t:aB}(h:pc t): ∃r b,oX t.D'=some (if b then r.D' else t.D',0)/\(b=true->NF r/\KP t r):=by
 obtain⟨r,b,I,M⟩:=aeB h;obtain⟨_,⟨j,r2⟩,_⟩:=sk h.ok.1;refine⟨r,b,?_,M⟩;unfold oX;rw [r2,h.ok.2,bz rfl,bw,aR (by decide),Tp h,bw];unfold vv;rw [I jl (oQ (by have:=h.len;omega)),bw];cases b<;>rfl
def EK(rec:NL){p:aB}(hp:pc p){us:List Tr}(h:wd us): ∃r b,dE rec p (us.map cS) false=some (r,b)/\(b=true->pc r/\u4 p us r):=by
 cases us with
 |nil=>exact⟨p,true,rfl,fun _=>⟨hp,u4.nil p⟩⟩
 |cons u us=>
  rw [tU rec hp h]
  cases hr:ci (d1 (nF (cS (il u us))) p.D')with
  |false=>exact⟨zT,false,rfl,fun k=>by cases k⟩
  |true=>exact⟨_,true,rfl,fun _=>u4.one hp h hr⟩
def YP(t:aB)(o:Option (aB×Int)):Prop:= ∃r w,o=some (r,w)/\(w=1->pc r/\KP t r)
def step0{t r:aB}{w:Int}(h:w≠1):YP t (some (r,w)):=⟨r,w,rfl,fun k=>absurd k h⟩
def N8{t r:aB}(h:pc r)(k:KP t r):YP t (some (r,1)):=⟨r,1,rfl,fun _=>⟨h,k⟩⟩
def RX(rec:NL){n m:ai}{p q:aB}{c e:Tr}(P:JJ n m c e p q):YP (bE n (dg m p q)) (jF rec (bE n (dg m p q)) false):=by
 rw [Dt rec P.hp P.hw P.hs P.hc];split
 ·exact step0 (by decide)
 ·have hP:=ut P.hw P.hs;have hkl:=FH P.hp;obtain⟨r1,b1,g1,g2⟩:=EK rec P.hp (hP.a ((KF p).length:Int));obtain⟨r2,b2,i1,i2⟩:=EK rec P.hq (hP.b (left:=((KF p).length:Int)) (by omega) m.Left);rw [g1,bw]
  cases b1 with
  |false=>exact step0 (by decide)
  |true=>
   rw [aR (show¬((!true)=true) by decide),i1,bw]
   cases b2 with
   |false=>exact step0 (by decide)
   |true=>
    obtain⟨T1,F1⟩:=g2 rfl;obtain⟨T2,F2⟩:=i2 rfl;have hsJ:cI (nJ m.Left m.J'):=GB (by have:=P.hse;rw [P.he,nj];omega);rw [aR (show¬((!true)=true) by decide),Lz T1 T2 hsJ]
    cases hRJ:ci (d2 (nJ m.Left m.J') r1.D' r2.D')with
    |false=>exact step0 (by decide)
    |true=>
     have TJ:pc (dg (nJ m.Left m.J') r1 r2):= .two _ _ _ T1 T2 hsJ hRJ;have hPC:=hP.c ((KF p).length:Int) m.Left;rw [bz rfl,bw,aR (show¬((!true)=true) by decide)]
     cases hC:sC ((KF p).length:Int) m.Left (dN c)with
     |nil=>exact N8 TJ (RY P T1 T2 F1 F2 hRJ hC)
     |cons u us=>
      rw [hC]at hPC;rw [tU rec TJ hPC]
      cases hRF:ci (d1 (nF (cS (il u us))) (dg (nJ m.Left m.J') r1 r2).D')with
      |false=>exact step0 (by decide)
      |true=>exact N8 (u4.one TJ hPC hRF).1 (Oo P T1 T2 F1 F2 hRJ hC hRF)
def S3(rec:NL){n:ai}{x:aB}(V:pc x)(hn:cI n)(hr:ci (d1 n x.D')=true)(hop:n.Op=3):YP (bE n x) (fH rec (bE n x) false):=by
 obtain⟨kx,_⟩:=oU V hn hr;obtain⟨c,hw,hs,hc⟩:=yB (pV hop kx).2;rw [yy rec hw hs hc]
 cases hy:EI c with
 |true=>exact N8 V (Lj V hn hr hop hw hs hc hy)
 |false=>
  simp only [jM,gT];by_cases h3:x.root.Op=3/\Eg c=false
  ·rw [bz h3];rcases BZ V with⟨j,_⟩|⟨m,y,hy',hm,hry,rfl,_⟩|⟨m,p,q,_,_,_,_,rfl,j⟩
   ·omega
   ·have hop2:m.Op=3:=h3.1;obtain⟨ky,_⟩:=oU hy' hm hry;obtain⟨e,hwe,hse,he⟩:=yB (pV hop2 ky).2;rw [show(bE m y).root.J'=cS e from he,Xq ⟨hwe,hse⟩ ⟨hw,hs⟩];by_cases h:e.size+c.size+1<=1000
    ·have hz:(il e [c]).size<=1000:=by rw [uX];simp [wj];omega
     have hsm:cI (nF (cS (il e [c]))):=vA (by rw [nj];omega);rw [bz h,bw,aR (show¬(((0:Int) !=(0:Int))=true) by decide),show cO (bE m y).parts (0:Int)=some y from rfl,bw,CK hy' hsm,bw]
     cases hR:ci (d1 (nF (cS (il e [c]))) y.D')with
     |false=>show YP _ (some (zT,(2:Int)));exact step0 (by decide)
     |true=>exact N8 (.one _ y hy' hsm hR) (RP hy' hm hn hry hr hop hop2 hw hs hc hwe hse he h3.2 hz hR)
    ·rw [aR h,bw,bz (by decide)];exact step0 (by decide)
   ·have:m.Op=3:=h3.1;omega
  ·rw [aR h3]
   cases M:(x.root.Op==(2:Int))&& !(Eg c)with
   |false=>exact step0 (by decide)
   |true=>
    have hxo:x.root.Op=2:=by simp only [iX,xq]at M;exact M.1
    rcases BZ V with⟨j,_⟩|⟨m,y,_,_,_,rfl,_,j,_⟩|⟨m,p,q,hp,hq,hm,hrx,rfl,_⟩
    ·omega
    ·exact absurd hxo j
    ·have hop2:m.Op=2:=hxo;obtain⟨kj,_⟩:=CX hp hq hm hrx;obtain⟨e,hwe,hse,he⟩:=yB (JW hop2 kj).2;simp only [hM];rw [show(dg m p q).root.J'=cS e from he,Dn hwe hse,bw,bw]
     cases hae:Eg e with
     |true=>exact step0 (by decide)
     |false=>
      have:=RX rec (n:=n) (m:=m) (p:=p) (q:=q) (c:=c) (e:=e) ⟨hp,hq,hn,hm,hrx,hr,hop,hop2,hw,hs,hc,hwe,hse,he,by simp only [iX,Hh]at M;exact M.2,hae⟩;rw [bz (by decide)];exact this
def UU{t:aB}(hT:pc t)(f:Nat):YP t (d9 (cA (f+1)) t false):=by
 rw [C2];rcases BZ hT with⟨I,_⟩|⟨n,x,V,hn,hr,rfl,_⟩|⟨n,p,q,_,_,_,_,rfl,h⟩
 ·rw [aR (by omega),aR (by omega),aR (by omega)];exact step0 (by decide)
 ·have ho:(bE n x).root.Op=n.Op:=rfl;rw [ho];by_cases h3:n.Op=3
  ·rw [bz h3];exact S3 _ V hn hr h3
  ·rw [aR h3];by_cases h5:n.Op=5
   ·rw [bz h5];rcases Lu V hn hr h5 with g|g|⟨m,y,items,hy,_,_,hs,hR,k,g⟩
    ·rw [g];exact step0 (by decide)
    ·rw [g];exact step0 (by decide)
    ·rw [g];exact N8 (.one _ y hy hs hR) k
   ·rw [aR h5];by_cases h6:n.Op=6
    ·rw [bz h6];rcases Jf V hn hr h6 with g|⟨g,k⟩
     ·rw [g];exact step0 (by decide)
     ·rw [g];exact N8 V k
    ·rw [aR h6];exact step0 (by decide)
 ·have ho:(dg n p q).root.Op=n.Op:=rfl;rw [ho,aR (by omega),aR (by omega),aR (by omega)];exact step0 (by decide)
def agt{t:aB}(h:pc t): ∃r d,uJ t.D'=some (r.D',d,0)/\(d=false->r=t)/\KP t r:=by
 obtain⟨_,⟨j,r2⟩,_⟩:=sk h.ok.1;obtain⟨r,w,I,M⟩:=UU h (jl-1);have key:uJ t.D'=some (if w=1 then(r.D',true,0)else(t.D',false,0)):=by
  unfold uJ;rw [r2,h.ok.2,bz rfl,bw,aR (by decide),Tp h,bw];unfold z7;rw [Ul,I,bw];by_cases hw:w=1
  ·rw [aR (by simp [hw]),bz hw]
  ·rw [bz (by simpa using hw),aR hw]
 by_cases hw:w=1
 ·rw [bz hw]at key;exact⟨r,true,key,(fun k=>absurd k (by decide)),(M hw).2⟩
 ·rw [aR hw]at key;exact⟨t,false,key,fun _=>rfl,KP.refl t⟩
end
section
def OU(l:List Int)(m:Nat)(hm:m<=100000):tS l (m:Int)=some (l.take m):=BN l m hm
def YI(l:List jx)(m:Nat)(hm:m<=100000):vF l (m:Int)=some (l.take m):=BN l m hm
def Vi(l:List au)(m:Nat)(hm:m<=100000):ux l (m:Int)=some (l.take m):=BN l m hm
def YH(l:List kU)(m:Nat)(hm:m<=100000):rF l (m:Int)=some (l.take m):=BN l m hm
def Vh(l:List ai)(m:Nat)(hm:m<=100000):tI l (m:Int)=some (l.take m):=BN l m hm
def Vj(l:List (List cK))(m:Nat)(hm:m<=100000):vE l (m:Int)=some (l.take m):=BN l m hm
def Vg(l:List cK)(m:Nat)(hm:m<=100000):tH l (m:Int)=some (l.take m):=BN l m hm
def YG(l:List ac)(m:Nat)(hm:m<=100000):tG l (m:Int)=some (l.take m):=BN l m hm
structure RgN(n:ai):Prop where
 cond:Nt n.J'.j'
 items: ∀e∈n.I',Nt e.j'
 args: ∀g∈n.M',Nt g.Arg.j'
structure Sm(n:ai):Prop where
 v':n.P'.length<=5000
 keys:n.Q'.length<=5000
 aggs:n.M'.length<=5000
 items:n.I'.length<=5000
 order:n.R'.length<=5000
def LY{α:Type}{l:List α}{i:Nat}(h:i<l.length):cO l (i:Int)=some l[i]:=by rw [cG,qg h]
def aaB(nx:Nat->aZ->Option aZ)(i:Nat)(out:aZ): ∀(tl:List au) (j:Nat) (n:ai),j+tl.length=n.I'.length->Sm n->Nt n.J'.j'->(∀g∈n.M',Jo g.Arg)->(∀k (h:k<n.I'.length),Nt n.I'[k].j'/\(k<j->n.I'[k].j'.length<=60))->
  ∃n',lZ n' /\te nx i out tl j n=nx (i+1) {out with j':=out.j'.set i n' }
 |[],j,n,hj,hs,hc,ha,hi=>by
  simp only [ug,vY]at hj;unfold te;rw [Fa];simp only [bw,zn];have hl:=E0 n.J'.j' 60;have hit: ∀e∈n.I',e.j'.length<=60/\Nt e.j':=fun e he=>by
   obtain⟨k,hk,rfl⟩:=Iw.1 he;exact⟨(hi k hk).2 (by omega),(hi k hk).1⟩
  refine⟨{n with J':=⟨E9 n.J'.j' 60⟩},⟨⟨?_,hs.v',hs.keys,hs.aggs,hs.items,hs.order,fun g hg=>?_,fun e he=>?_⟩,⟨?_,Hp hc 60⟩,fun e he=>?_,ha⟩,rfl⟩
  ·show(E9 n.J'.j' 60).length<=_;omega
  ·have:=(ha g hg).len;omega
  ·have:=(hit e he).1;omega
  ·show(E9 n.J'.j' 60).length<=_;omega
  ·obtain⟨I,M⟩:=hit e he;exact⟨by omega,M⟩
 |e::tl,j,n,hj,hs,hc,ha,hi=>by
  simp only [jo]at hj;unfold te;rw [LY (show j<n.I'.length by omega)];simp only [bw,Fa,zn];have hl:=E0 (n.I'[j]'(by omega)).j' 60;have hg:=Hp (hi j (by omega)).1 60;exact aaB nx i out tl (j+1) _ (by simp;omega) ⟨hs.v',hs.keys,hs.aggs,by simp;exact hs.items,hs.order⟩ hc ha (fun k h=>by
   rw [List.getElem_set];split
   ·exact⟨hg,fun _=>hl⟩
   ·exact⟨(hi k (by simpa using h)).1,fun hk=>(hi k (by simpa using h)).2 (by omega)⟩)
def aaC(nx:Nat->aZ->Option aZ)(i:Nat)(out:aZ): ∀(tl:List jx) (j:Nat) (n:ai),j+tl.length=n.M'.length->Sm n->Nt n.J'.j'->(∀e∈n.I',Nt e.j')->(∀k (h:k<n.M'.length),Nt n.M'[k].Arg.j'/\(k<j->n.M'[k].Arg.j'.length<=60))->
  ∃n',lZ n' /\tf nx i out tl j n=nx (i+1) {out with j':=out.j'.set i n' }
 |[],j,n,hj,hs,hc,hi,ha=>by
  simp only [ug,vY]at hj;unfold tf;exact aaB nx i out n.I' 0 n (by simp) hs hc (fun g hg=>by
   obtain⟨k,hk,rfl⟩:=Iw.1 hg;have:=(ha k hk).2 (by omega);exact⟨by omega,(ha k hk).1⟩) (fun k h=>⟨hi _ (A5 h),fun hk=>absurd hk (Nat.not_lt_zero _)⟩)
 |e::tl,j,n,hj,hs,hc,hi,ha=>by
  simp only [jo]at hj;unfold tf;rw [LY (show j<n.M'.length by omega)];simp only [bw,Fa,zn];have hl:=E0 (n.M'[j]'(by omega)).Arg.j' 60;have hg:=Hp (ha j (by omega)).1 60;exact aaC nx i out tl (j+1) _ (by simp;omega) ⟨hs.v',hs.keys,by simp;exact hs.aggs,hs.items,hs.order⟩ hc hi (fun k h=>by
   rw [List.getElem_set];split
   ·exact⟨hg,fun _=>hl⟩
   ·exact⟨(ha k (by simpa using h)).1,fun hk=>(ha k (by simpa using h)).2 (by omega)⟩)
def aaD: ∀(tl:List ai) (i:Nat) (out:aZ),i+tl.length=out.j'.length->(∀k (h:k<out.j'.length),(k<i->lZ out.j'[k])/\(i<=k->RgN out.j'[k]))-> ∃l,o7 tl i out=some l/\ ∀n∈l.j',lZ n
 |[],i,out,hi,h=>by
  simp only [ug,vY]at hi;exact⟨out,rfl,fun n hn=>by
   obtain⟨k,hk,rfl⟩:=Iw.1 hn;exact(h k hk).1 (by omega)⟩
 |e::tl,i,out,hi,h=>by
  simp only [jo]at hi;unfold o7;rw [LY (show i<out.j'.length by omega)];simp only [bw];have hm:=(h i (by omega)).2 (kG _);generalize out.j'[i]'(by omega)=m at hm ⊢;rw [show(6:Int)=((6:Nat):Int)from rfl,show(14:Int)=((14:Nat):Int)from rfl,show(17:Int)=((17:Nat):Int)from rfl,show(5:Int)=((5:Nat):Int)from rfl,
   OU _ 6 (by omega),OU _ 6 (by omega),YI _ 14 (by omega),Vi _ 17 (by omega),YH _ 5 (by omega)]
  simp only [bw];obtain⟨n',hs,hn⟩:=aaC (o7 tl) i out (m.M'.take 14) 0 (ai.mk m.Op m.A m.B m.Table (m.P'.take 6) m.Left m.J' (m.Q'.take 6) (m.M'.take 14) (m.I'.take 17) (m.R'.take 5) m.U') (by simp)
   ⟨by simp;omega,by simp;omega,by simp;omega,by simp;omega,by simp;omega⟩ hm.cond (fun e he=>hm.items e (F3 he)) (fun k h=>⟨hm.args _ (F3 (A5 h)),fun hk=>absurd hk (Nat.not_lt_zero _)⟩)
  rw [hn];refine aaD tl (i+1) _ (by simp;omega) (fun k hk=>?_);show(_->lZ ((out.j'.set i n')[k]'hk))/\(_->RgN ((out.j'.set i n')[k]'hk));rw [List.getElem_set];split
  ·exact⟨fun _=>hs,fun h=>by omega⟩
  ·exact⟨fun hlt=>(h k (by simpa using hk)).1 (by omega),fun hle=>(h k (by simpa using hk)).2 (by omega)⟩
def ag1(p:aZ)(hp: ∀n∈p.j',RgN n): ∃l,DA p=some l/\ ∀n∈l.j',lZ n:=by
 unfold DA;rw [show(61:Int)=((61:Nat):Int)from rfl,Vh _ 61 (by omega)];exact aaD _ 0 _ (by simp) (fun k hk=>⟨fun h=>absurd h (Nat.not_lt_zero _),fun _=>hp _ (F3 (A5 hk))⟩)
def Xj(nx:List cK->Option da)(rows:List cK)(hr:rows.length<=1000): ∀(k i:Nat) (own:cK),i+k=own.length->RT own-> ∃own',RT own' /\rj nx rows k i own=nx (rows++[own'])
 |0,i,own,_,h=>⟨own,h,by unfold rj;rw [cF (by simp;omega),bw]⟩
 |k+1,i,own,hi,h=>by
  unfold rj;have hlt:i<own.length:=by omega
  rw [LY hlt,bw];rw [jD (xs:=own[i].S) (i:=0) (j:=min (own[i].S.length:Int) 41) 0 (min own[i].S.length 41) rfl (by omega) (nh _) (Nat.min_le_left _ _)];simp only [bw,zn];refine Xj nx rows hr k (i+1) _ (by simp;omega) ?_;intro v hv;rcases List.mem_or_eq_of_mem_set hv with q|q
  ·exact h v q
  ·rw [q];show r64 own[i].N;exact h own[i] (A5 hlt)
def Xk(nx:da->Option da)(out:da)(ho:out.Tables.length<=1000): ∀(tl rows:List cK),rows.length+tl.length<=1000->Jw rows->Jw tl-> ∃rows',Jw rows' /\oc nx out tl rows=nx {out with Tables:=out.Tables++[rows']}
 |[],rows,_,h,_=>⟨rows,h,by unfold oc;rw [cF (by simp;omega),bw]⟩
 |e::tl,rows,hl,h,M=>by
  simp only [jo]at hl;unfold oc;rw [show(17:Int)=((17:Nat):Int)from rfl,YG _ 17 (by omega),bw];obtain⟨own,g1,g2⟩:=Xj (oc nx out tl) rows (by omega) (e.take 17).length 0 (e.take 17) (by omega) (fun v hv=>M e (md ..) v (F3 hv));rw [g2];exact Xk nx out ho tl _ (by simp;omega) (fun r hr=>by
   rcases qR.1 hr with q|q
   ·exact h r q
   ·rw [mf.1 q];exact g1) fun r hr=>M r (ma _ hr)
def Xl: ∀(tl:List (List cK)) (out:da),out.Tables.length+tl.length<=1000->oF out->(∀t∈tl,Jw t)-> ∃b,od tl out=some b/\oF b
 |[],out,_,h,_=>⟨out,rfl,h⟩
 |e::tl,out,hl,h,M=>by
  simp only [jo]at hl;unfold od;rw [show(13:Int)=((13:Nat):Int)from rfl,Vg _ 13 (by omega),bw];obtain⟨rows,g1,g2⟩:=Xk (od tl) out (by omega) (e.take 13) [] (by simp;omega) (fun r hr=>by cases hr) (fun r hr=>M e (md ..) r (F3 hr));rw [g2];exact Xl tl _ (by simp;omega) (fun t J=>by
   rcases qR.1 (show t∈out.Tables++[rows]from J)with q|q
   ·exact h t q
   ·rw [mf.1 q];exact g1) fun t J=>M t (ma _ J)
def aeN(y:da)(hy:oF y): ∃b,Bv y=some b/\oF b:=by
 unfold Bv;rw [show(5:Int)=((5:Nat):Int)from rfl,Vj _ 5 (by omega),bw];exact Xl _ _ (by simp;omega) (fun t J=>by cases J) fun t J=>hy t (F3 J)
def Vq(l:List cK):uP l l=some true:=by
 unfold uP fY;rw [aR (by simp)];have key: ∀(tl:List cK) (i:Nat),l.drop i=tl->cZ l wH tl i=some true:=by
  intro tl
  induction tl with
  |nil=>intro i _;rfl
  |cons e tl ih=>
   intro i h;have hi:i<l.length:=by
    rcases wN i l.length with k|k
    ·exact k
    ·rw [D0 k]at h;cases h
   rw [zX hi]at h;injection h with I M;unfold cZ;rw [LY hi,bw,I];unfold wH;rw [Hw,bw];exact ih (i+1) M
 rw [key l 0 rfl];rfl
def Gp(p:aZ)(y:da)(hp: ∀n∈p.j',RgN n)(hy:oF y):qy p y=some true:=by
 unfold qy;rw [ab7,bw,aR (by decide)];obtain⟨l,hl,hG⟩:=ag1 p hp;obtain⟨b,hb1,H⟩:=aeN y hy;rw [hl,bw,hb1,bw];have hS:im l:=fun n hn=>(hG n hn).small;split
 ·rfl
 ·cases hr:ci l with
  |false=>rw [Mr hS hr b];rfl
  |true=>
   cases hf:OM l b with
   |false=>rw [GY hS hr hf];rfl
   |true=>
    obtain⟨t,hT,rfl⟩:=Gc _ l (kG _) hS hr;have g:GT b t:=⟨hT,hG,hf⟩;have den: ∀s,GT b s->j5 s.D' b=some (RW b s):=fun s gs=>by
     obtain⟨_,_,_,e1,e2,_⟩:=gs.tree H;rw [e1,e2]
    rw [den t g,bw];split
    ·rfl
    ·rename_i he;have h3:(RW b t).2≠3:=fun e3=>he (by rw [e3];decide);obtain⟨r,b',I,M⟩:=Up hT;obtain⟨s,ks,hR⟩: ∃s,KP t s/\oX t.D'=some (s.D',0):=by
      cases b' with
      |false=>exact⟨t,KP.refl t,I⟩
      |true=>exact⟨r,(M rfl).2,I⟩
     obtain⟨u,d,hU,hd,ku⟩:=agt hT;obtain⟨gs,es⟩:=ks.rows b H g;obtain⟨gu,eu⟩:=ku.rows b H g;rw [hR,bw,hU,bw];have hsame:(if(!((((s.D',(0:Int)):aZ×Int).2 !=(0:Int))||(((u.D',d,(0:Int)):aZ×Bool×Int).2.2 !=(0:Int))))then((if(!(((u.D',d,(0:Int)):aZ×Bool×Int).2.1))then((wp ((u.D',d,(0:Int)):aZ×Bool×Int).1 t.D').bind fun r6=>some (!r6))else some false).bind fun t1=>some t1)else some true)=some false:=by
      cases d with
      |false=>
       have:=hd rfl;subst this;show((wp u.D' u.D').bind fun r6=>some (!r6)).bind (fun t1=>some t1)=some false;rw [JA];rfl
      |true=>rfl
     rw [hsame,bw,aR (by decide)];have step: ∀(v:aB),GT b v->RW b v=RW b t->((j5 v.D' b).bind fun r7=>(if(!(r7.2 !=(RW b t).2))then((uP r7.1 (RW b t).1).bind fun r8=>some (!r8))else some true))=some false:=fun v gv ev=>by
      rw [den v gv,bw,ev,FY,bz (by decide),Vq];rfl
     have two: ∀(v:aB) (k:Option Bool),GT b v->RW b v=RW b t->((j5 v.D' b).bind fun r7=>(if(!(r7.2 !=(RW b t).2))then((uP r7.1 (RW b t).1).bind fun r8=>some (!r8))else some true).bind fun t2=>if t2 then some false else k)=k:=fun v k gv ev=>by
      have:=step v gv ev;rw [den v gv,bw]at this ⊢;rw [this];rfl
     unfold mi;rw [show cO [((s.D',(0:Int)):aZ×Int).1,((u.D',d,(0:Int)):aZ×Bool×Int).1] ((0:Nat):Int)=some s.D' from rfl,bw,two s _ gs (es h3)];unfold mi;rw [show cO [((s.D',(0:Int)):aZ×Int).1,((u.D',d,(0:Int)):aZ×Bool×Int).1] ((0+1:Nat):Int)=some u.D' from rfl,bw,two u _ gu (eu h3)];rfl
end
section
def ZS{v:ac}(h:AH v):r64 v.N:=by
 have:=h.2.1;unfold B2 at this;exact⟨this.1,this.2⟩
def UE{e:au}(h:Gz e):Nt e.j':=fun n hn=>ZS ((show Q9 LI e.j' from h).2 n hn).2.2.2.2
def acr{l:List cK}(h:Q9 (Q9 AH) l):Jw l:=fun r hr v hv=>ZS ((h.2 r hr).2 v hv)
def Yf{b:da}(h:PW b):oF b:=fun t J=>acr ((show Q9 (Q9 (Q9 AH)) b.Tables from h).2 t J)
def agG{n:ai}(h:Gy n):RgN n:=by
 obtain⟨_,_,_,_,_,_,hc,_,ha,hi,_,_⟩:=h;exact⟨UE hc,fun e he=>UE (hi.2 e he),fun g hg=>UE (ha.2 g hg).2⟩
def Fg(l:aZ)(hl:Sh l)(b:da)(H:PW b):qy l b=some true:=Gp l b (fun n hn=>agG ((show Q9 Gy l.j' from hl).2 n hn)) (Yf H)
end
