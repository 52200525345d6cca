import Derived.Test.YtadeokalnbmppaaGreatDoorReQ2
set_option linter.all false
namespace Go.Proofs.YtadeokalnbmppaaGreatDoor
open Go IntKind
def zV:dX:=⟨0,0,0,[]⟩
def bV(b:Bool):dX:=⟨1,if b then 1 else 0,0,[]⟩
def iV(n:Int):dX:=⟨2,n,0,[]⟩
def sV(s:ru):dX:=⟨3,0,0,s⟩
def r64(n:Int):Prop:= -9223372036854775808<=n/\n<=9223372036854775807
inductive Pl:dX->Prop
 |z:Pl zV
 |b (b:Bool):Pl (bV b)
 |i (n:Int) (h:r64 n):Pl (iV n)
 |s (s:ru) (h:s.length<=40):Pl (sV s)
inductive Tu:dX->Prop
 |z:Tu zV
 |b (b:Bool):Tu (bV b)
def tn(v:dX):Int:=if v.Kind=0 then 1 else 2*v.N
def tv(n:Int):dX:=if n=0 then bV false else if n=1 then zV else bV true
def af7(a b:dX):dX:=tv (min (tn a) (tn b))
variable{n:ac}{t:Tr}
def UE(hw:t.wf): ∀s {n:bw},n∈t.flat s->n.Tag=2->0<=n.y_/\n.y_<16:=by
 induction t with
 |lf m=>
  intro s n hn Y;simp only [Tr.flat,np]at hn;subst hn;exact ab8 hw.2.1 Y
 |un m a ih=>
  intro s n hn Y;simp only [Tr.flat,oO,np]at hn;rcases hn with hn|rfl
  ·exact ih hw.2 s hn Y
  ·exact absurd (pk2 hw.1.1 Y) (by decide)
 |bi m a b iha ihb=>
  intro s n hn Y;simp only [Tr.flat,oO,np]at hn;rcases hn with(hn|hn)|rfl
  ·exact iha hw.2.1 s hn Y
  ·exact ihb hw.2.2 _ hn Y
  ·exact absurd (pk2 hw.1.1 Y) (by decide)
variable{e:bD}{α:Type}
def Xl(f:α->α)(xs:List α)(i:Nat)(h:i<xs.length):((xs.take i).map f++xs.drop i).set i (f xs[i])=(xs.take (i+1)).map f++xs.drop (i+1):=by
 rw [IU _ _ (by simp;omega)];have e:i-((xs.take i).map f).length=0:=by simp;omega
 rw [e,yK h,List.set_cons_zero,QV h,CO];simp
def XN(f:α->α)(xs:List α)(i:Nat)(h:i<xs.length):dm ((xs.take i).map f++xs.drop i) (i:Int)=some xs[i]:=by
 rw [bR,sE (by simp;omega)];have e:i-((xs.take i).map f).length=0:=by simp;omega
 rw [e,xT];simp [h]
variable{l:cQ}
def Lp(e:bD)(h:e.u'.length<=50000):uw e=some (kC e.u'&& !(e.u'.any Ut)):=by
 unfold uw;rw [uP e (by omega)]
 cases kC e.u' with
 |false=>rfl
 |true=>
  simp only [mF,bh];rw [bq (by decide)];have key: ∀(l:List bw),fF l vf=some (l.any Ut):=by
   intro l;unfold fF js;have V: ∀(l:List bw) (i:Nat),∃z:Int,ed vf l i=some z/\(0<=z↔l.any Ut=true):=by
    intro l
    induction l with
    |nil=>intro i;exact⟨-1,rfl,by simp⟩
    |cons n l ih=>
     intro i;unfold ed;have e1:vf n=some (Ut n):=rfl;rw [e1];simp only [bh]
     cases K:Ut n with
     |true=>exact⟨(i:Int),by simp,by simp [K]⟩
     |false=>
      obtain⟨z,Z,h4⟩:=ih (i+1);exact⟨z,by simpa using Z,by simpa [K] using h4⟩
   obtain⟨z,Z,h4⟩:=V l 0;rw [Z];simp only [bh];congr 1;rw [uQ,<-h4];simp
  rw [key];rfl
variable{k:Nat}
def Vu{j':List Int}(h:(fT e j').2=0): ∃t,qF e.u'=some t/\(∀k∈j',k4 k)/\tR j'.length e.u'=true/\kd j' t=some (fT e j').1:=by
 unfold fT at h ⊢;split at h
 ·rename_i D;rw [bq D];split at h
  ·rename_i V;rw [bq V];split at h
   ·rename_i Z;rw [bq Z];unfold kC at D
    cases Y:qF e.u' with
    |none=>rw [Y]at D;cases D
    |some t=>
     rw [Y]at h;simp only [bh]at h ⊢
     cases hk:kd j' t with
     |none=>rw [hk]at h;cases h
     |some k=>exact⟨t,rfl,fun k hk=>Gu V hk,Z,hk⟩
   ·cases h
  ·cases h
 ·cases h
def sh(s:Nat)(x:Int):Int:=if 0<=x then x+(s:Int)else x
def Ls(t:Tr):bD:=⟨t.flat 0⟩
def Qt(l:List bw)(h:l.length<=1000000):co l=some l:=by
 unfold co;rw [cK (by simp;omega)];simp
def Ai(hw:t.wf)(hs:t.size<=1000):kC (t.flat 0)=true:=by unfold kC;rw [Fb hw hs];rfl
def SE{m:Nat}(hc:BZ m t)(hw:t.wf): ∀s {n:bw},n∈t.flat s->n.Tag=2->n.y_<(m:Int):=by
 induction t with
 |lf k=>
  intro s n hn Y;simp only [Tr.flat,np]at hn;subst hn;exact hc Y
 |un k a ih=>
  intro s n hn Y;simp only [Tr.flat,oO,np]at hn;rcases hn with hn|rfl
  ·exact ih hc hw.2 s hn Y
  ·exact absurd (pk2 hw.1.1 Y) (by decide)
 |bi k a b iha ihb=>
  intro s n hn Y;simp only [Tr.flat,oO,np]at hn;rcases hn with(hn|hn)|rfl
  ·exact iha hc.1 hw.2.1 s hn Y
  ·exact ihb hc.2 hw.2.2 _ hn Y
  ·exact absurd (pk2 hw.1.1 Y) (by decide)
def ub:Tr->List Tr
 | .lf n=>[.lf n]
 | .un n a=>[.un n a]
 | .bi n a b=>if n.Tag=22 then ub a++ub b else [.bi n a b]
def DN(n:bw)(a b:Tr):ub (.bi n a b)=if n.Tag=22 then ub a++ub b else [.bi n a b]:=rfl
def us(s:Nat)(x:Int):Int:=if 0<=x then x-(s:Int)else x
def OB(s:Nat)(n:bw):bw:=kS n (us s n.L) (us s n.R)
def L0(k:Nat)(n:bw)(l r:Int):OB k (kS n l r)=kS n (us k l) (us k r):=rfl
variable{x:Int}
def GT(h:0<=x):us k x=x-(k:Int):=bq h
def aao(k:Nat):us k (-1)= -1:=rfl
def XR(t:Tr)(k:Nat): ∀s,(t.flat (s+k)).map (OB k)=t.flat s:=by
 induction t with
 |lf m=>intro s;rfl
 |un m a ih=>
  intro s;have:=a.size_pos;simp only [Tr.flat,CO,ih,vi,BE,L0,aao];rw [GT (by omega),show((s+k+a.size:Nat):Int)-1-(k:Int)=((s+a.size:Nat):Int)-1 from by omega]
 |bi m a b iha ihb=>
  intro s;have:=a.size_pos;have:=b.size_pos;have K:=ihb (s+a.size);rw [show s+a.size+k=s+k+a.size from by omega]at K;simp only [Tr.flat,CO,iha,K,vi,BE,L0];rw [GT (by omega),GT (by omega),show((s+k+a.size:Nat):Int)-1-(k:Int)=((s+a.size:Nat):Int)-1 from by omega,show((s+k+a.size+b.size:Nat):Int)-1-(k:Int)=((s+a.size+b.size:Nat):Int)-1 from by omega]
def aeL(n:bw):Prop:= -1000000<=n.L/\n.L<=1000000/\ -1000000<=n.R/\n.R<=1000000
def TJ(t:Tr): ∀s,s+t.size<=1000000-> ∀n∈t.flat s,aeL n:=by
 induction t with
 |lf m=>intro s _ n hn;simp only [Tr.flat,np]at hn;subst hn;refine⟨?_,?_,?_,?_⟩<;>simp [kS]
 |un m a ih=>
  intro s hs n hn;simp only [Tr.size]at hs;simp only [Tr.flat,oO,np]at hn;rcases hn with hn|rfl
  ·exact ih s (by omega) n hn
  ·refine⟨?_,?_,?_,?_⟩<;>simp only [kS]<;>omega
 |bi m a b iha ihb=>
  intro s hs n hn;simp only [Tr.size]at hs;simp only [Tr.flat,oO,np]at hn;rcases hn with(hn|hn)|rfl
  ·exact iha s (by omega) n hn
  ·exact ihb _ (by omega) n hn
  ·refine⟨?_,?_,?_,?_⟩<;>simp only [kS]<;>omega
variable{j:Nat}
def If(nx:List bD->List Int->Option (List bD))(out:List bD)(ho:out.length<=100000)(y:List Int)(k:Nat)(hk:k<=1000000)(xs:List bw)(K: ∀n∈xs,aeL n): ∀(tl:List bw) (i:Nat),xs.drop i=tl->
  mX nx out y (k:Int) tl i ⟨(xs.take i).map (OB k)++xs.drop i⟩=nx (out++[⟨xs.map (OB k)⟩]) y
 |[],i,h=>by
  have:=GI.1 h;unfold mX;rw [cK (by simp;omega)];unfold tQ;rw [h,yH,s8 this];rfl
 |e::tl,i,h=>by
  have hi:i<xs.length:=by
   rcases mN i xs.length with q|q
   ·exact q
   ·rw [FX q]at h;cases h
  obtain⟨b1,b2,b3,b4⟩:=K xs[i] (zW hi);have hd:xs.drop (i+1)=tl:=by rw [<-vE,h];rfl
  have ih:=If nx out ho y k hk xs K tl (i+1) hd;have hs:=Xl (OB k) xs i hi;have I:=XN (OB k) xs i hi;unfold mX;dsimp only;rw [I];simp only [bh];have hk2: ∀(m:bw),m.Tag=xs[i].Tag->m.y_=xs[i].y_->m.Value=xs[i].Value->m.R=xs[i].R->m.L=us k xs[i].L-> ∀zs:List bw,zs[i]? =some m->zs.set i (OB k xs[i])=(xs.take (i+1)).map (OB k)++xs.drop (i+1)->
    tP (k:Int) (mX nx out y (k:Int) tl) i ⟨zs⟩=nx (out++[⟨xs.map (OB k)⟩]) y:=by
   intro m D V Z h4 h5 zs hz I_;unfold tP;dsimp only;rw [bR,hz];simp only [bh];by_cases hR:0<=m.R
   ·rw [bq (by simpa using hR)];have hm:({m with R:=i64.wrap (m.R-(k:Int))}:bw)=OB k xs[i]:=by
     rw [cJ (by omega) (by omega)];obtain⟨mt,ml,mr,mc,mv⟩:=m;simp only at D V Z h4 h5 hR;subst D V Z h4 h5;simp only [OB,kS,GT hR]
    rw [hm,yJ,I_];exact ih
   ·rw [aZ (by simpa using hR)];have hm:m=OB k xs[i]:=by
     obtain⟨mt,ml,mr,mc,mv⟩:=m;simp only at D V Z h4 h5 hR;subst D V Z h4 h5;simp only [OB,kS,us,aZ hR]
    have e1:zs.set i (OB k xs[i])=zs:=by
     rw [<-hm];apply IT;intro j;by_cases hj:j=i
     ·subst hj;have o_:=(oC.1 hz).1;rw [List.getElem?_set_self o_,hz]
     ·rw [List.getElem?_set_ne (by omega)]
    rw [<-e1,I_];exact ih
  have hzi:((xs.take i).map (OB k)++xs.drop i)[i]? =some xs[i]:=by rw [<-bR];exact I
  have hlen:i<((xs.take i).map (OB k)++xs.drop i).length:=(oC.1 hzi).1;by_cases hL:0<=xs[i].L
  ·rw [bq (by simpa using hL),yJ];refine hk2 ({xs[i]with L:=i64.wrap (xs[i].L-(k:Int))}:bw) rfl rfl rfl rfl (by show i64.wrap (xs[i].L-(k:Int))=_;rw [cJ (by omega) (by omega),GT hL]) _ (by rw [List.getElem?_set_self hlen]) ?_;rw [List.set_set];exact hs
  ·rw [aZ (by simpa using hL)];exact hk2 xs[i] rfl rfl rfl rfl (by simp only [us,aZ hL]) _ hzi hs
def Cr(N:List bw)(all:List Int)(su:Nat×Tr):Prop:=su.2.wf/\su.1+su.2.size<=N.length/\(N.drop su.1).take su.2.size=su.2.flat su.1/\(all.drop su.1).take su.2.size=fl su.2 su.1
def Mx(su:Nat×Tr):Int:=((su.1+su.2.size:Nat):Int)-1
def BN:Tr->Nat->bw
 | .lf n,_=>kS n (-1) (-1)
 | .un n a,s=>kS n (((s+a.size:Nat):Int)-1) (-1)
 | .bi n a b,s=>kS n (((s+a.size:Nat):Int)-1) (((s+a.size+b.size:Nat):Int)-1)
def flat_root(t:Tr)(s:Nat):(t.flat s)[t.size-1]? =some (BN t s):=by
 cases t with
 |lf n=>rfl
 |un n a=>
  simp only [Tr.flat,Tr.size,BN];rw [sE (by rw [a.X'];omega),a.X'];simp
 |bi n a b=>
  simp only [Tr.flat,Tr.size,BN];rw [sE (by simp [a.X',b.X']),jY,a.X',b.X'];simp
def MJ{N xs:List α}{s:Nat}(h:(N.drop s).take k=xs)(hj:j<k):N[s+j]? =xs[j]? :=by
 rw [<-h,zT hj,xT]
def MH{N:List bw}{all:List Int}{su:Nat×Tr}(h:Cr N all su):dm N (Mx su)=some (BN su.2 su.1)/\dm all (Mx su)=some (su.1:Int):=by
 obtain⟨hw,hl,D,V⟩:=h;have hp:=su.2.size_pos;have e:Mx su=((su.1+(su.2.size-1):Nat):Int):=by unfold Mx;omega
 rw [e,bR,bR,MJ D (by omega),MJ V (by omega),flat_root,RF];exact⟨rfl,rfl⟩
def I1{N xs ys zs:List α}{s a b:Nat}(h:(N.drop s).take k=xs++ys++zs)(I:xs.length=a)(hy:ys.length=b):(N.drop s).take a=xs/\(N.drop (s+a)).take b=ys:=by
 have hk:a+b<=k:=by
  have:=congrArg List.length h;simp only [Br,jY,E2]at this;omega
 constructor
 ·have:=congrArg (List.take a) h;rw [B5,Bq (by omega)]at this;rw [this,gJ,Bu (by omega),s8 (by omega)]
 ·have this:(((N.drop s).take k).drop a).take b=((xs++ys++zs).drop a).take b:=by rw [h]
  rw [BF,vE,B5,Bq (by omega)]at this;rw [this,gJ,LM (by omega),Ec (by omega),lz,Bu (by omega),s8 (by omega)]
def Ta{N:List bw}{all:List Int}{s:Nat}{n:bw}{a b:Tr}(h:Cr N all (s,.bi n a b)):Cr N all (s,a)/\Cr N all (s+a.size,b):=by
 obtain⟨⟨_,ha,K⟩,hl,D,V⟩:=h;simp only [Tr.size,Tr.flat,fl]at hl D V;obtain⟨Z,h4⟩:=I1 D (a.X' s) (b.X' _);obtain⟨h5,h6⟩:=I1 V (vu a s) (vu b _);exact⟨⟨ha,by show s+a.size<=_;omega,Z,h5⟩,⟨K,by show s+a.size+b.size<=_;omega,h4,h6⟩⟩
def WK:List (Nat×Tr)->Nat
 |[]=>0
 |su::st=>su.2.size+WK st
def Va(st:List (Nat×Tr)):List bD:=st.flatMap fun su=>(ub su.2).map Ls
def Wv{s:Nat}(hw:t.wf)(h:(BN t s).Tag≠22):ub t=[t]:=by
 cases t with
 |lf n=>rfl
 |un n a=>rfl
 |bi n a b=>rw [DN,aZ (show¬n.Tag=22 from h)]
def Wu{s:Nat}(hw:t.wf)(h:(BN t s).Tag=22): ∃n a b,t= .bi n a b/\n.Tag=22:=by
 cases t with
 |lf n=>
  have h:n.Tag=22:=h;have D:=hw.1;rw [h]at D;simp [pk]at D
 |un n a=>
  have h:n.Tag=22:=h;have D:=hw.1.1;rw [h]at D;simp [pk]at D
 |bi n a b=>exact⟨n,a,b,rfl,h⟩
def CI(N:List bw)(hN:N.length<=100000)(all:List Int)(b:Bool): ∀(fu:Nat) (st:List (Nat×Tr)) (out:List bD),(∀su∈st,Cr N all su)->WK st<fu->st.length<=100000->out.length+WK st<=90000->
  kJ ⟨N⟩ (all,b) fu out (st.map Mx).reverse=some (out++Va st)
 |0,_,_,_,h,_,_=>by omega
 |fu+1,[],out,_,_,_,_=>by
  unfold kJ;simp [Va]
 |fu+1,su::st,out,hp,Q,hs,ho=>by
  have hp0:=hp su (pz ..);obtain⟨D,V⟩:=MH hp0;simp only [jr]at hs;simp only [WK]at Q ho;have hpos:=su.2.size_pos;unfold kJ;have hlen:((su::st).map Mx).reverse.length=st.length+1:=by simp
  rw [bq (by rw [hlen];simp<;>omega),hlen,cJ (by omega) (by omega)];have e1:((su::st).map Mx).reverse=(st.map Mx).reverse++[Mx su]:=by simp
  rw [e1,me st.length (by omega),sE (by simp)];simp only [List.length_reverse,BG,pX,J9,bh];rw [mo (i:=0) 0 st.length rfl (by omega) (kY _) (by simp),vj];rw [Bu (by simp),s8 (by simp)];simp only [bh];rw [D];simp only [bh];have hp' : ∀q∈st,Cr N all q:=fun q hq=>hp q (pA _ hq);by_cases Y:(BN su.2 su.1).Tag=22
  ·rw [bq (by simp [Y])];obtain⟨s,u⟩:=su;obtain⟨n,a,c,rfl,hn⟩:=Wu hp0.1 Y;obtain⟨hpa,hpb⟩:=Ta hp0;simp only [Tr.size]at Q ho;have e2:(st.map Mx).reverse++[(BN (.bi n a c) s).R,(BN (.bi n a c) s).L]=(((s,a)::(s+a.size,c)::st).map Mx).reverse:=by
    simp [BN,kS,Mx]
   simp only at hN ⊢;rw [cK (by simp;omega)];simp only [bh];unfold tQ;rw [e2,CI N hN all b fu ((s,a)::(s+a.size,c)::st) out (fun q hq=>by
    rcases iI.1 hq with rfl|hq
    ·exact hpa
    ·rcases iI.1 hq with rfl|hq
     ·exact hpb
     ·exact hp' q hq) (by simp only [WK];omega) (by
      have: ∀l:List (Nat×Tr),l.length<=WK l:=by
       intro l
       induction l with
       |nil=>exact eX _
       |cons q l ih=>have:=q.2.size_pos;simp [WK];omega
      have:=this st;simp only [jr];omega) (by simp only [WK];omega)]
   congr 2;simp only [Va,List.flatMap_cons,DN,bq hn,CO,gJ]
  ·rw [aZ (by simpa using Y),V];obtain⟨s,u⟩:=su;obtain⟨hw,hl,Z,h4⟩:=hp0;simp only at hl Z h4 hpos Q ho ⊢;simp only [bh];have e3:i64.wrap (Mx (s,u)+1)=((s+u.size:Nat):Int):=by
    unfold Mx;simp only;rw [cJ (by omega) (by omega)];omega
   rw [e3,mo s (s+u.size) rfl rfl (by omega) hl];have e4:(N.take (s+u.size)).drop s=u.flat s:=by rw [BF,Nat.add_sub_cancel_left];exact Z
   rw [e4];simp only [bh];rw [Qt _ (by rw [u.X'];omega)];simp only [bh];have h5:=If (kJ ⟨N⟩ (all,b) fu) out (by omega) (st.map Mx).reverse s (by omega) (u.flat s) (TJ u s (by omega)) (u.flat s) 0 rfl;simp only [List.take_zero,BE,lz,vj]at h5;rw [h5];have h6:=XR u s 0;rw [oZ]at h6;rw [h6,CI N hN all b fu st _ hp' (by omega) (by omega) (by simp;omega)];congr 1;simp only [Va,List.flatMap_cons,Wv hw Y,vi,BE,gJ];rfl
def Lr(e:bD)(hl:e.u'.length<=80000):wd e=some (match qF e.u' with
  |none=>[]
  |some t=>(ub t).map Ls):=by
 unfold wd;have Q:=JL e.u' [] (by simp [cS];omega);simp only [cS,NC,o8]at Q;unfold ve;rw [show((0:Nat))=0 from rfl]at Q;rw [Q];unfold qF
 cases hp:rC e.u' []with
 |none=>rfl
 |some st=>
  have k_:=Fq hp
  match st,k_ with
  |[],_=>rfl
  |[t],k_=>
   simp only [bh,jr,tZ,oZ,decide_true,sX];have hw:=(wx hp (fun t Y=>by cases Y)).2 t (pz ..);have hfl:=(wx hp (fun t Y=>by cases Y)).1;simp only [yo,cS,lz,oZ]at hfl k_;simp only [cS,oZ,k_];by_cases D:e.u'.length<=1000
   ·rw [aZ (by simp [D])];simp only [D,decide_true,mF];have hpl:Cr e.u' (NC [t]) (0,t):=by
     refine⟨hw,by show 0+t.size<=_;omega,?_,?_⟩
     ·simp only [vj];rw [<-hfl,s8 (by rw [t.X'];exact eX _)]
     ·simp only [NC,cS,lz,vj];rw [s8 (by rw [vu];exact eX _)]
    have V:=CI e.u' (by omega) (NC [t]) true ko [(0,t)] [] (fun q hq=>by
     simp only [np]at hq;subst hq;exact hpl) (by simp only [WK];exact wg (zS _) (nO (by omega))) (by simp) (by simp [WK];omega)
    have e2:([(0,t)].map Mx).reverse=[((e.u'.length:Int)-1)]:=by
     simp only [vi,BE,List.reverse_cons,List.reverse_nil,lz,Mx];rw [<-k_];simp
    rw [e2]at V;rw [cJ (by omega) (by omega)];have e9:(⟨e.u'⟩:bD)=e:=rfl;rw [e9]at V;rw [V];simp [Va]
   ·rw [bq (by simp [D])];simp only [D,lS]
  |t::t2::st,_=>simp
def fA(v:dX)(l:List dX):dX:=l.foldl af7 v
def OC:Tr->Bool
 | .lf n=>Ut n
 | .un n a=>OC a||Ut n
 | .bi n a b=>OC a||OC b||Ut n
def ND(t:Tr): ∀s,(t.flat s).any Ut=OC t:=by
 induction t with
 |lf n=>intro s;simp only [Tr.flat,zD,List.any_nil,Bool.or_false,OC];rfl
 |un n a ih=>intro s;simp only [Tr.flat,List.any_append,ih,zD,List.any_nil,Bool.or_false,OC];rfl
 |bi n a b iha ihb=>intro s;simp only [Tr.flat,List.any_append,iha,ihb,zD,List.any_nil,Bool.or_false,OC];rfl
def Rc(hw:t.wf)(hs:t.size<=1000):uw (Ls t)=some (!(OC t)):=by
 rw [Lp _ (by simp only [Ls,Tr.X'];omega)];unfold Ls;rw [Ai hw hs,ND];rfl
def T6(t:Tr):(ub t).all (fun u=> !(OC u))= !(OC t):=by
 induction t with
 |lf n=>simp [ub]
 |un n a _=>simp [ub]
 |bi n a b iha ihb=>
  rw [DN];split
  ·rename_i hn;rw [List.all_append,iha,ihb];have:Ut n=false:=by unfold Ut;rw [hn];rfl
   simp [OC,this]
  ·simp
structure ER(l:cQ)(sz:Nat->Nat)(ks:Nat->List Int)(j:Nat)(n:ac):Prop where
 node:dm l.u' (j:Int)=some n
 op:F7 n.Op=true
 own:ye n=true
 lf:n.Op=1->n.A= -1/\n.B= -1/\sz j=1
 un:n.Op≠1->n.Op≠2->n.Op≠7->0<j/\n.A=(j:Int)-1/\n.B= -1/\sz j=sz (j-1)+1
 bi:n.Op=2\/n.Op=7->0<j/\n.B=(j:Int)-1/\sz (j-1)<j/\n.A=(j:Int)-1-(sz (j-1):Int)/\sz j=sz (j-1-sz (j-1))+sz (j-1)+1
 j':ba n (if n.A<0 then []else ks n.A.toNat) (if n.B<0 then []else ks n.B.toNat)=some (ks j,true)
 last:n.Op=8->j+1=l.u'.length
 len:(ks j).length<=16
 pos:1<=sz j
 le:sz j<=j+1
def I6(hn:dm l.u' (j:Int)=some n)(hj:j<l.u'.length)(hl:l.u'.length<=1000)(fu:Nat):cU (fu+1) l (j:Int)=
  if n.Op=1 then(if n.A= -1/\n.B= -1 then some 1 else some 0)
  else if n.Op=2\/n.Op=7 then(if n.B=(j:Int)-1 then((cU fu) l n.B).bind (fun r2=>if((decide ((0:Int)<r2))&&(n.A==(i64.wrap (n.B-r2))))then(((cU fu) l n.A).bind fun r3=>if(decide ((0:Int)<r3))then(some (i64.wrap ((i64.wrap (r3+r2))+(1:Int))))else(some (0:Int)))else(some (0:Int)))else some 0)
  else if F7 n.Op=true then(if n.A=(j:Int)-1/\n.B= -1 then((cU fu) l n.A).bind (fun r1=>if(decide ((0:Int)<r1))then(some (i64.wrap (r1+(1:Int))))else(some (0:Int)))else some 0)
  else some 0:=by
 conv=>lhs;unfold cU
 rw [aZ (by simp;omega),hn];simp only [bh,pf];by_cases D:n.Op=1
 ·simp only [D,mF];rw [bq (by decide)];by_cases hAB:n.A= -1/\n.B= -1
  ·rw [bq hAB,bq (by simp [hAB])]
  ·rw [aZ hAB,aZ (by simpa using hAB)]
 by_cases h27:n.Op=2\/n.Op=7
 ·simp only [D,h27,mF,lS];rw [aZ (by decide),aZ (by decide),bq (by decide),cJ (n:=(j:Int)-1) (by omega) (by omega)];by_cases hB:n.B=(j:Int)-1
  ·rw [bq (by simp [hB]),bq hB]
  ·rw [aZ (by simpa using hB),aZ hB]
 by_cases p_:F7 n.Op=true
 ·simp only [D,h27,p_,mF,lS];rw [aZ (by decide),bq (by decide),cJ (n:=(j:Int)-1) (by omega) (by omega)];by_cases hB:n.A=(j:Int)-1/\n.B= -1
  ·rw [bq (by simp [hB]),bq hB]
  ·rw [aZ (by simpa using hB),aZ hB]
 ·simp only [D,h27,p_,lS];rw [aZ (by decide),aZ (by decide),aZ (by decide)];rfl
def Do{s:Int}(hn:dm l.u' (j:Int)=some n)(hs:nz l (j:Int)=some s)(hs0:s≠0)(ho:ye n=true)(fu:Nat):du (fu+1) l (j:Int)=if(decide ((0:Int)<=n.A))then(((du fu) l n.A).bind fun r4=>if(!r4.2)then(some ([],false))else(gy (du fu) l (j:Int) n r4.1))else(gy (du fu) l (j:Int) n ([])):=by
 conv=>lhs;unfold du
 rw [hs,hn];simp only [bh,oh,ho];have:(s==0)=false:=by simpa using hs0
 simp [this]
def zQ(first:List Int)(j:Nat):Nat:=((j:Int)+1-(first[j]?).getD 0).toNat
def IB(j':List (List Int))(j:Nat):List Int:=(j'[j]?).getD []
def OD.at{i:Nat}{first:List Int}{j':List (List Int)}(h:OD l i first j')(hj:j<i):QG l j ((j:Int)+1-(zQ first j:Int)) (IB j' j) (zQ first j)/\first[j]? =some ((j:Int)+1-(zQ first j:Int)):=by
 obtain⟨f,k,s,D,V,Z⟩:=h.node j hj;have e1:IB j' j=k:=by unfold IB;rw [V];rfl
 have Q:=Z.fst;have hp:=Z.pos;have e2:zQ first j=s:=by unfold zQ;rw [D];simp only [Option.getD_some];omega
 rw [e1,e2,<-Q];exact⟨Z,D⟩
variable{p:Nat}
def DB{first:List Int}{j':List (List Int)}(hI:OD l l.u'.length first j')(hl:l.u'.length<=60)(hj:j<l.u'.length): ∃n,ER l (zQ first) (IB j') j n:=by
 obtain⟨N0,_⟩:=hI.at hj;have hn:dm l.u' (j:Int)=some l.u'[j]:=by rw [bR,qV hj]
 obtain⟨n,hnn⟩: ∃n,n=l.u'[j]:=⟨_,rfl⟩;rw [<-hnn]at hn;have hpos:=N0.pos;have k_:=N0.size (j+3) (by omega);rw [I6 hn hj (by omega)]at k_;have hnone: ∀{x:Int},x=0-> ¬(some x=some (zQ first j:Int)):=by
  intro x I h;injection h with h;omega
 have P:F7 n.Op=true/\(n.Op=1->n.A= -1/\n.B= -1/\zQ first j=1)/\(n.Op≠1->n.Op≠2->n.Op≠7->0<j/\n.A=(j:Int)-1/\n.B= -1/\zQ first j=zQ first (j-1)+1)/\(n.Op=2\/n.Op=7->0<j/\n.B=(j:Int)-1/\zQ first (j-1)<j/\n.A=(j:Int)-1-(zQ first (j-1):Int)/\zQ first j=zQ first (j-1-zQ first (j-1))+zQ first (j-1)+1):=by
  by_cases D:n.Op=1
  ·rw [bq D]at k_;by_cases hAB:n.A= -1/\n.B= -1
   ·rw [bq hAB]at k_;injection k_ with k_;exact⟨by rw [D];rfl,fun _=>⟨hAB.1,hAB.2,by omega⟩,fun h=>absurd D h,fun h=>by omega⟩
   ·rw [aZ hAB]at k_;exact absurd k_ (hnone rfl)
  rw [aZ D]at k_;by_cases h27:n.Op=2\/n.Op=7
  ·rw [bq h27]at k_;by_cases hB:n.B=(j:Int)-1
   ·rw [bq hB]at k_;by_cases hj0:j=0
    ·rw [ya l (by omega) (by omega)]at k_;exact absurd k_ (hnone rfl)
    ·obtain⟨NB,_⟩:=hI.at (j:=j-1) (by omega);have eB:((j-1:Nat):Int)=n.B:=by omega
     have hszB:=NB.size (j+2) (by omega);have hpB:=NB.pos;have hlB:=NB.le;rw [eB]at hszB;rw [hszB]at k_;simp only [bh]at k_;rw [cJ (n:=n.B-_) (by omega) (by omega)]at k_;by_cases hA:n.A=n.B-(zQ first (j-1):Int)
     ·rw [bq (by simp [hA];omega)]at k_;by_cases hA0:n.A<0
      ·rw [ya l (by omega) hA0]at k_;exact absurd k_ (hnone rfl)
      ·obtain⟨NA,_⟩:=hI.at (j:=j-1-zQ first (j-1)) (by omega);have eA:((j-1-zQ first (j-1):Nat):Int)=n.A:=by omega
       have hszA:=NA.size (j+2) (by omega);have hpA:=NA.pos;have hlA:=NA.le;rw [eA]at hszA;rw [hszA]at k_;simp only [bh]at k_;rw [bq (by simp;omega),cJ (n:=(zQ first (j-1-zQ first (j-1)):Int)+(zQ first (j-1):Int)) (by omega) (by omega),cJ (by omega) (by omega)]at k_;injection k_ with k_;refine⟨?_,fun h=>absurd h D,fun _ V h7=>by rcases h27 with h|h;exact absurd h V;exact absurd h h7,fun _=>⟨by omega,hB,by omega,by omega,by omega⟩⟩;rcases h27 with h|h<;>rw [h]<;>rfl
     ·rw [aZ (by simp;intro _;exact hA)]at k_;exact absurd k_ (hnone rfl)
   ·rw [aZ hB]at k_;exact absurd k_ (hnone rfl)
  rw [aZ h27]at k_;by_cases p_:F7 n.Op=true
  ·rw [bq p_]at k_;by_cases hA:n.A=(j:Int)-1/\n.B= -1
   ·rw [bq hA]at k_;by_cases hj0:j=0
    ·rw [ya l (by omega) (by omega)]at k_;exact absurd k_ (hnone rfl)
    ·obtain⟨NA,_⟩:=hI.at (j:=j-1) (by omega);have eA:((j-1:Nat):Int)=n.A:=by omega
     have hszA:=NA.size (j+2) (by omega);have hpA:=NA.pos;have hlA:=NA.le;rw [eA]at hszA;rw [hszA]at k_;simp only [bh]at k_;rw [bq (by simp;omega),cJ (by omega) (by omega)]at k_;injection k_ with k_;exact⟨p_,fun h=>absurd h D,fun _ _ _=>⟨by omega,hA.1,hA.2,by omega⟩,fun h=>absurd h h27⟩
   ·rw [aZ hA]at k_;exact absurd k_ (hnone rfl)
  ·rw [aZ p_]at k_;exact absurd k_ (hnone rfl)
 obtain⟨p0,p1,p2,p3⟩:=P;have hk:=N0.j' (j+3) (by omega);have hszR:nz l (j:Int)=some (zQ first j:Int):=N0.size ko (vc (by omega));have ho:ye n=true:=by
  cases ho:ye n with
  |true=>rfl
  |false=>
   exfalso;unfold du at hk;rw [hszR,hn]at hk;simp only [bh,oh,ho]at hk;have: ¬(zQ first j=0):=by omega
   simp [this]at hk
 have hpl:n.A<(j:Int)/\n.B<(j:Int):=by
  by_cases D:n.Op=1
  ·obtain⟨a,b,_⟩:=p1 D;omega
  by_cases h27:n.Op=2\/n.Op=7
  ·obtain⟨a,b,c,d,_⟩:=p3 h27;omega
  ·obtain⟨a,b,c,_⟩:=p2 D (fun h=>h27 (.inl h)) (fun h=>h27 (.inr h));omega
 rw [Do hn hszR (by omega) ho]at hk;have hkA: ∀(p:Int),0<=p->p<(j:Int)->du (j+2) l p=some (IB j' p.toNat,true):=by
  intro p hp0 hpj;obtain⟨NA,_⟩:=hI.at (j:=p.toNat) (by omega);have:=NA.j' (j+2) (by omega);rw [show((p.toNat:Nat):Int)=p from by omega]at this;exact this
 have hk1: ∀a,gy (du (j+2)) l (j:Int) n a=jQ l (j:Int) n a (if n.B<0 then []else IB j' n.B.toNat):=by
  intro a;unfold gy;by_cases hB:0<=n.B
  ·rw [bq (by simpa using hB),hkA n.B hB hpl.2,aZ (by omega)];rfl
  ·rw [aZ (by simpa using hB),bq (by omega)]
 have hk2:jQ l (j:Int) n (if n.A<0 then []else IB j' n.A.toNat) (if n.B<0 then []else IB j' n.B.toNat)=some (IB j' j,true):=by
  by_cases hA:0<=n.A
  ·rw [bq (by simpa using hA),hkA n.A hA hpl.1]at hk;simp only [bh,s6,qD,lS]at hk;rw [hk1]at hk;rw [aZ (show¬n.A<0 by omega)];exact hk
  ·rw [aZ (by simpa using hA),hk1]at hk;rw [bq (show n.A<0 by omega)];exact hk
 unfold jQ at hk2
 cases hr:ba n (if n.A<0 then []else IB j' n.A.toNat) (if n.B<0 then []else IB j' n.B.toNat)with
 |none=>rw [hr]at hk2;cases hk2
 |some r=>
  rw [hr]at hk2;simp only [bh]at hk2;split at hk2
  ·simp at hk2
  ·rename_i hc;injection hk2 with hk2;injection hk2 with e1 e2;refine⟨n,hn,p0,ho,p1,p2,p3,?_,fun h8=>?_,N0.len,N0.pos,N0.le⟩
   ·rw [hr,<-e1,<-e2]
   ·simp only [zR,jJ,vD,w7,vk,not_or,not_and,Decidable.not_not]at hc;have:=hc.1 h8;rw [cJ (by omega) (by omega)]at this;omega
variable{ks:Nat->List Int}{sz:Nat->Nat}
def TN{m:Nat}(hl:l.u'.length<=60)(hm:m<=l.u'.length)(h: ∀j,j<m-> ∃n,ER l sz ks j n): ∀(j:Nat),j<m->(∀fu,j+1<fu->cU fu l (j:Int)=some (sz j:Int))/\ ∀fu,j+1<fu->du fu l (j:Int)=some (ks j,true):=by
 intro j
 induction j using Nat.strongRecOn with
 |ind j ih=>
  intro hj;obtain⟨n,F⟩:=h j hj;have hpl:n.A<(j:Int)/\n.B<(j:Int):=by
   by_cases D:n.Op=1
   ·obtain⟨a,b,_⟩:=F.lf D;omega
   by_cases h27:n.Op=2\/n.Op=7
   ·obtain⟨a,b,c,d,_⟩:=F.bi h27;omega
   ·obtain⟨a,b,c,_⟩:=F.un D (fun h=>h27 (.inl h)) (fun h=>h27 (.inr h));omega
  have hS: ∀fu,j+1<fu->cU fu l (j:Int)=some (sz j:Int):=by
   intro fu Q;obtain⟨fu,rfl⟩: ∃k,fu=k+1:=⟨fu-1,by omega⟩;rw [I6 F.node (by omega) (by omega)];by_cases D:n.Op=1
   ·obtain⟨a,b,c⟩:=F.lf D;rw [bq D,bq ⟨a,b⟩,c];rfl
   rw [aZ D];by_cases h27:n.Op=2\/n.Op=7
   ·obtain⟨a,b,c,d,e⟩:=F.bi h27;obtain⟨nB,FB⟩:=h (j-1) (by omega);obtain⟨nA,FA⟩:=h (j-1-sz (j-1)) (by omega);have hB:=(ih (j-1) (by omega) (by omega)).1 fu (by omega);have hA:=(ih (j-1-sz (j-1)) (by omega) (by omega)).1 fu (by omega);rw [show((j-1:Nat):Int)=n.B from by omega]at hB;rw [show((j-1-sz (j-1):Nat):Int)=n.A from by omega]at hA;have q1:=FB.pos;have q2:=FB.le;have q3:=FA.pos;have q4:=FA.le;rw [bq h27,bq b,hB];simp only [bh];rw [cJ (n:=n.B-_) (by omega) (by omega),bq (by simp;omega),hA];simp only [bh];rw [bq (by simp;omega),cJ (n:=(sz (j-1-sz (j-1)):Int)+(sz (j-1):Int)) (by omega) (by omega),cJ (by omega) (by omega),e];rfl
   ·obtain⟨a,b,c,d⟩:=F.un D (fun h=>h27 (.inl h)) (fun h=>h27 (.inr h));obtain⟨nA,FA⟩:=h (j-1) (by omega);have hA:=(ih (j-1) (by omega) (by omega)).1 fu (by omega);rw [show((j-1:Nat):Int)=n.A from by omega]at hA;have q1:=FA.pos;have q2:=FA.le;rw [aZ h27,bq F.op,bq ⟨b,c⟩,hA];simp only [bh];rw [bq (by simp;omega),cJ (by omega) (by omega),d];rfl
  refine⟨hS,fun fu Q=>?_⟩;obtain⟨fu,rfl⟩: ∃k,fu=k+1:=⟨fu-1,by omega⟩;have hszR:nz l (j:Int)=some (sz j:Int):=hS ko (vc (by omega));have hp:=F.pos;rw [Do F.node hszR (by omega) F.own];have hkA: ∀(p:Int),0<=p->p<(j:Int)->du fu l p=some (ks p.toNat,true):=by
   intro p hp0 hpj;have:=(ih p.toNat (by omega) (by omega)).2 fu (by omega);rw [show((p.toNat:Nat):Int)=p from by omega]at this;exact this
  have hk1: ∀a,gy (du fu) l (j:Int) n a=jQ l (j:Int) n a (if n.B<0 then []else ks n.B.toNat):=by
   intro a;unfold gy;by_cases hB:0<=n.B
   ·rw [bq (by simpa using hB),hkA n.B hB hpl.2,aZ (by omega)];rfl
   ·rw [aZ (by simpa using hB),bq (by omega)]
  have hk2:jQ l (j:Int) n (if n.A<0 then []else ks n.A.toNat) (if n.B<0 then []else ks n.B.toNat)=some (ks j,true):=by
   unfold jQ;rw [F.j'];simp only [bh];rw [aZ];have hlen:=F.len;simp only [zR,jJ,vD,w7,vk,not_or,not_and,Decidable.not_not];refine⟨fun h8=>?_,by omega⟩;have:=F.last h8;rw [cJ (by omega) (by omega)];omega
  by_cases hA:0<=n.A
  ·rw [bq (by simpa using hA),hkA n.A hA hpl.1];simp only [bh,s6,qD,lS];rw [hk1];rw [aZ (show¬n.A<0 by omega)]at hk2;exact hk2
  ·rw [aZ (by simpa using hA),hk1];rw [bq (show n.A<0 by omega)]at hk2;exact hk2
def NO(hl:l.u'.length<=60)(hp:1<=l.u'.length)(h: ∀j,j<l.u'.length-> ∃n,ER l sz ks j n)(hw:sz (l.u'.length-1)=l.u'.length):vp l=true:=by
 have hg:=TN hl (eX _) h;unfold vp uZ;rw [aZ (by simp;omega)];have key: ∀(tl:List ac) (i:Nat),l.u'.drop i=tl->i+tl.length=l.u'.length->ie l tl i=some (-1):=by
  intro tl
  induction tl with
  |nil=>
   intro i _ _;unfold ie;have:=(hg (l.u'.length-1) (by omega)).1 ko (vc (by omega));rw [cJ (by omega) (by omega),show(l.u'.length:Int)-1=((l.u'.length-1:Nat):Int)from by omega];unfold nz;rw [this,hw];simp
  |cons n tl ih=>
   intro i hd hi;simp only [jr]at hi;obtain⟨_,V,Z⟩:=im hd;unfold ie u0;rw [(hg i V).2 ko (vc (by omega))];simp only [bh,s6,qD,lS];exact ih (i+1) Z (by omega)
 rw [key l.u' 0 rfl (by simp)];rfl
def vb{j':List Int}(h:(fT e j').2=0):kC e.u'=true:=by
 unfold fT at h
 cases hr:kC e.u' with
 |true=>rfl
 |false=>rw [hr]at h;simp at h
def GV{j':List Int}(h:Ef e j'=true):kC e.u'=true:=by
 unfold Ef at h;simp only [jJ,vD]at h;exact vb h.1
def T7{g:fh}{j':List Int}(h:(zx g j').2=true)(hp:0<g.N_.u'.length):kC g.N_.u'=true:=by
 rw [<-(Lz g j').1]at h;unfold T8 at h;by_cases D:g.Tag=1
 ·rw [bq D]at h;simp at h;rw [h]at hp;simp at hp
 rw [aZ D]at h;by_cases V:g.Tag=2
 ·rw [bq V]at h;exact vb (by simpa using h)
 rw [aZ V]at h;by_cases Z:g.Tag=3
 ·rw [bq Z]at h;simp only [jJ,vD]at h;exact vb h.1
 rw [aZ Z]at h;by_cases h4:g.Tag=4\/g.Tag=5
 ·rw [bq h4]at h;exact vb (by simpa using h)
 ·rw [aZ h4]at h;cases h
def Vo(n:ac)(a:List Int): ∀(tl:List bD) (i fu:Nat) (out:List Int) (ok:Bool) (k:List Int),n.N'.drop i=tl->n.N'.length<=5000->eM n a fu out ok (i:Int)=some (k,true)->ok=true/\ ∀e∈tl,kC e.u'=true:=by
 intro tl
 induction tl with
 |nil=>
  intro i fu out ok k hd hl h
  cases fu with
  |zero=>cases h
  |succ fu=>
   have:=yr hd;rw [eM,aZ (by simp;omega)]at h;injection h with h;injection h with _ h;simp only [jJ]at h;exact⟨h.1.1,by simp⟩
 |cons x tl ih=>
  intro i fu out ok k hd hl h
  cases fu with
  |zero=>cases h
  |succ fu=>
   obtain⟨D,V,Z⟩:=im hd;rw [eM,bq (by simp;omega),D]at h;simp only [bh,oH]at h
   cases ha:nH out [(fT x a).1]with
   |none=>rw [ha]at h;cases h
   |some o=>
    rw [ha]at h;simp only [bh]at h;rw [cJ (by omega) (by omega),show((i:Int)+1)=((i+1:Nat):Int)from by omega]at h;obtain⟨g1,g2⟩:=ih (i+1) fu o _ k Z hl h;simp only [jJ,vD]at g1;exact⟨g1.1,fun e he=>by
     rcases iI.1 he with rfl|he
     ·exact vb g1.2
     ·exact g2 e he⟩
def Vp(n:ac)(a:List Int): ∀(tl:List fh) (i fu:Nat) (out:List Int) (ok:Bool) (k:List Int),n.L'.drop i=tl->n.L'.length<=5000->eo n a fu out ok (i:Int)=some (k,true)->ok=true/\ ∀g∈tl,0<g.N_.u'.length->kC g.N_.u'=true:=by
 intro tl
 induction tl with
 |nil=>
  intro i fu out ok k hd hl h
  cases fu with
  |zero=>cases h
  |succ fu=>
   have:=yr hd;rw [eo,aZ (by simp;omega)]at h;injection h with h;injection h with _ h;simp only [jJ]at h;exact⟨h.1.1.1,by simp⟩
 |cons x tl ih=>
  intro i fu out ok k hd hl h
  cases fu with
  |zero=>cases h
  |succ fu=>
   obtain⟨D,V,Z⟩:=im hd;rw [eo,bq (by simp;omega),D]at h;simp only [bh,si]at h
   cases ha:nH out [(zx x a).1]with
   |none=>rw [ha]at h;cases h
   |some o=>
    rw [ha]at h;simp only [bh]at h;rw [cJ (by omega) (by omega),show((i:Int)+1)=((i+1:Nat):Int)from by omega]at h;obtain⟨g1,g2⟩:=ih (i+1) fu o _ k Z hl h;simp only [jJ]at g1;exact⟨g1.1,fun g H=>by
     rcases iI.1 H with rfl|H
     ·exact T7 g1.2
     ·exact g2 g H⟩
def Vq(n:ac)(a:List Int): ∀(tl:List Int) (i fu:Nat) (out:List Int) (k:List Int),n.I'.drop i=tl->n.I'.length<=5000->eN n a fu out (i:Int)=some (k,true)-> ∃o,eo n a ko o true 0=some (k,true):=by
 intro tl
 induction tl with
 |nil=>
  intro i fu out k hd hl h
  cases fu with
  |zero=>cases h
  |succ fu=>
   have:=yr hd;rw [eN,aZ (by simp;omega)]at h;exact⟨_,h⟩
 |cons x tl ih=>
  intro i fu out k hd hl h
  cases fu with
  |zero=>cases h
  |succ fu=>
   obtain⟨D,V,Z⟩:=im hd;rw [eN,bq (by simp;omega),D]at h;simp only [bh]at h;split at h
   ·simp at h
   ·cases I:dm a x with
    |none=>rw [I]at h;cases h
    |some y=>
     rw [I]at h;simp only [bh]at h
     cases ha:nH out [y]with
     |none=>rw [ha]at h;cases h
     |some o=>
      rw [ha]at h;simp only [bh]at h;rw [cJ (by omega) (by omega),show((i:Int)+1)=((i+1:Nat):Int)from by omega]at h;exact ih (i+1) fu o k Z hl h
structure So(n:ac):Prop where
 cond:0<n.f_.u'.length->kC n.f_.u'=true
 items: ∀e∈n.N',0<e.u'.length->kC e.u'=true
 args: ∀g∈n.L',0<g.N_.u'.length->kC g.N_.u'=true
def U9(h:ye n=true):(n.Op≠2->n.Op≠3->n.f_.u'.length=0)/\(n.Op≠4->n.L'.length=0)/\(n.Op≠5->n.N'.length=0):=by
 have e:=oh n;rw [h]at e;unfold qg at e;split at e
 ·simp at e
 ·split at e
  ·simp at e
  ·split at e
   ·simp at e
   ·rename_i D V Z;simp only [zR,jJ,w7,vk,not_or,not_and]at D V Z;refine⟨fun a b=>?_,fun a=>?_,fun a=>?_⟩
    ·have:=V.2 ⟨a,b⟩;omega
    ·have:=(Z.1 a).2;omega
    ·have:=Z.2 a;omega
def V9{a b k:List Int}(hs:d9 n)(p_:F7 n.Op=true)(ho:ye n=true)(h:ba n a b=some (k,true)):So n:=by
 obtain⟨o1,o2,o3⟩:=U9 ho;have hnil: ∀{α:Type} {l:List α} {p:α->Prop},l.length=0-> ∀x∈l,p x:=by
  intro α l p hl x I;rw [uS hl]at I;cases I
 unfold ba at h;rcases lE p_ with c|c|c|c|c|c|c|c
 ·exact⟨fun hp=>by have:=o1 (by omega) (by omega);omega,hnil (o3 (by omega)),hnil (o2 (by omega))⟩
 ·rw [aZ (by simp [c]),bq (by simp [c])]at h;refine⟨fun _=>?_,hnil (o3 (by omega)),hnil (o2 (by omega))⟩
  cases D:nH ([]:List Int) a with
  |none=>rw [D]at h;cases h
  |some l1=>
   rw [D]at h;simp only [bh]at h
   cases V:nH l1 b with
   |none=>rw [V]at h;cases h
   |some l2=>
    rw [V]at h;simp only [bh,o9]at h;injection h with h;injection h with _ h;exact GV h
 ·rw [aZ (by simp [c]),aZ (by simp [c]),bq (by simp [c])]at h;refine⟨fun _=>?_,hnil (o3 (by omega)),hnil (o2 (by omega))⟩;simp only [bh,o9]at h;injection h with h;injection h with _ h;exact GV h
 ·rw [aZ (by simp [c]),aZ (by simp [c]),aZ (by simp [c]),bq (by simp [c])]at h;obtain⟨o,h'⟩:=Vq n a n.I' 0 ko [] k rfl hs.keys h;exact⟨fun hp=>by have:=o1 (by omega) (by omega);omega,hnil (o3 (by omega)),(Vp n a n.L' 0 ko o true k rfl hs.z_ h').2⟩
 ·rw [aZ (by simp [c]),aZ (by simp [c]),aZ (by simp [c]),aZ (by simp [c]),bq (by simp [c])]at h;exact⟨fun hp=>by have:=o1 (by omega) (by omega);omega,fun e he _=>(Vo n a n.N' 0 ko [] true k rfl hs.items h).2 e he,hnil (o2 (by omega))⟩
 ·exact⟨fun hp=>by have:=o1 (by omega) (by omega);omega,hnil (o3 (by omega)),hnil (o2 (by omega))⟩
 ·exact⟨fun hp=>by have:=o1 (by omega) (by omega);omega,hnil (o3 (by omega)),hnil (o2 (by omega))⟩
 ·exact⟨fun hp=>by have:=o1 (by omega) (by omega);omega,hnil (o3 (by omega)),hnil (o2 (by omega))⟩
def UM{a b k:List Int}(hs:d9 n)(D:n.Op=1)(h:ba n a b=some (k,true)):0<=n.M'/\n.M'<=3:=by
 obtain⟨k1,o,k',g1,g2,_⟩:=Jg default n a b hs D;rw [h]at g2;injection g2 with g2;injection g2 with _ g2;subst g2;unfold iZ at g1;split at g1
 ·rename_i hc;simp only [jJ,vk]at hc;omega
 ·simp at g1
def Aq(l:cQ)(e p:Nat):cQ:=⟨((l.u'.take (p+1)).drop e).map (xf (-(e:Int)))⟩
def y4{e:Nat}(hp:p<l.u'.length):(Aq l e p).u'.length=p+1-e:=by
 unfold Aq;simp;omega
def Df(h:sC l)(e p:Nat):sC (Aq l e p):=
 XA fun n hn=>h n (List.mem_of_mem_take (List.mem_of_mem_drop hn))
def QF(hS:sC l)(hl:l.u'.length<=60){e:Nat}(hp:p<l.u'.length)(he:e<=100): ∀(tl:List ac) (i fu:Nat) (out:cQ),(l.u'.take (p+1)).drop i=tl->i+tl.length=p+1->tl.length<fu->out.u'.length<=i->qm l (p:Int) (e:Int) fu (i:Int) out=some (⟨out.u'++tl.map (xf (-(e:Int)))⟩,0):=by
 intro tl
 induction tl with
 |nil=>
  intro i fu out hd hi Q _;obtain⟨fu,rfl⟩: ∃k,fu=k+1:=⟨fu-1,by omega⟩;simp only [tZ,wV]at hi;rw [qm,aZ (by simp;omega)];simp
 |cons x tl ih=>
  intro i fu out hd hi Q ho;simp only [jr]at hi Q;obtain⟨fu,rfl⟩: ∃k,fu=k+1:=⟨fu-1,by omega⟩;obtain⟨D,V,Z⟩:=im hd;have h1' :dm l.u' (i:Int)=some x:=by
   rw [bR]at D ⊢;rw [zT (by omega)]at D;exact D
  have I:d9 x:=hS x (by rw [bR]at h1';exact ud h1');rw [qm,bq (by simp;omega),h1'];simp only [bh];rw [cJ (n:=(0:Int)-(e:Int)) (by omega) (by omega),F8 I];simp only [bh];rw [cK (by simp;omega),cJ (by omega) (by omega),show((i:Int)+1)=((i+1:Nat):Int)from by omega];simp only [bh];rw [ih (i+1) fu _ Z (by omega) (by omega) (by simp;omega)];simp
def MZ(hS:sC l){ob:aF}(hL:H8 l ob): ∀n∈l.u',So n/\(n.Op=1->0<=n.M'/\n.M'<=3):=by
 intro n hn;obtain⟨j,hj,rfl⟩:=List.mem_iff_getElem.1 hn;obtain⟨m,F⟩:=DB hL.inv hL.le hj;have hm:m=l.u'[j]:=by
  have:=F.node;rw [bR,qV hj]at this;injection this with this;exact this.symm
 subst hm;exact⟨V9 (hS _ hn) F.op F.own F.j',fun D=>UM (hS _ hn) D F.j'⟩
def Nn(n:ac)(d:Int): ∀(fu:Nat) (ok:Bool) (i:Int),ep (xf d n) fu ok i=ep n fu ok i:=by
 intro fu
 induction fu with
 |zero=>intros;rfl
 |succ fu ih=>intros;simp only [ep,ih];rfl
def Nl(n:ac)(d:Int)(a:List Int): ∀(fu:Nat) (out:List Int) (ok:Bool) (i:Int),eo (xf d n) a fu out ok i=eo n a fu out ok i:=by
 intro fu
 induction fu with
 |zero=>intros;rfl
 |succ fu ih=>intros;simp only [eo,ih];rfl
def Nm(n:ac)(d:Int)(a:List Int): ∀(fu:Nat) (out:List Int) (i:Int),eN (xf d n) a fu out i=eN n a fu out i:=by
 intro fu
 induction fu with
 |zero=>intros;rfl
 |succ fu ih=>intros;simp only [eN,ih,Nl];rfl
def Nk(n:ac)(d:Int)(a:List Int): ∀(fu:Nat) (out:List Int) (ok:Bool) (i:Int),eM (xf d n) a fu out ok i=eM n a fu out ok i:=by
 intro fu
 induction fu with
 |zero=>intros;rfl
 |succ fu ih=>intros;simp only [eM,ih];rfl
def Nj(n:ac)(d:Int)(a:List Int): ∀(fu:Nat) (ok:Bool) (i:Int),ek (xf d n) a fu ok i=ek n a fu ok i:=by
 intro fu
 induction fu with
 |zero=>intros;rfl
 |succ fu ih=>intros;simp only [ek,ih];rfl
def Ni(n:ac)(d:Int)(a b:List Int):ba (xf d n) a b=ba n a b:=by
 unfold ba;simp only [Nn,Nm,Nk,Nj];rfl
def Xs(n:ac)(d:Int):ye (xf d n)=ye n:=rfl
section
abbrev EX(l:cQ)(sz:Nat->Nat)(ks:Nat->List Int):Prop:= ∀j,j<l.u'.length-> ∃n,ER l sz ks j n
def acQ(hg:EX l sz ks): ∀(p:Nat),p<l.u'.length-> ∀q,p+1-sz p<=q->q<=p->p+1-sz p<=q+1-sz q:=by
 intro p
 induction p using Nat.strongRecOn with
 |ind p ih=>
  intro hp q D V;by_cases hq:q=p
  ·subst hq;exact eX _
  obtain⟨n,F⟩:=hg p hp;by_cases c1:n.Op=1
  ·obtain⟨_,_,e⟩:=F.lf c1;omega
  by_cases c27:n.Op=2\/n.Op=7
  ·obtain⟨a,b,c,d,e⟩:=F.bi c27;obtain⟨nA,FA⟩:=hg (p-1-sz (p-1)) (by omega);have hpA:=FA.pos;have hlA:=FA.le;by_cases hB:p-1+1-sz (p-1)<=q
   ·have:=ih (p-1) (by omega) (by omega) q hB (by omega);omega
   ·have:=ih (p-1-sz (p-1)) (by omega) (by omega) q (by omega) (by omega);omega
  ·obtain⟨a,b,c,d⟩:=F.un c1 (fun h=>c27 (.inl h)) (fun h=>c27 (.inr h));have:=ih (p-1) (by omega) (by omega) q (by omega) (by omega);omega
def aaL(hg:EX l sz ks){i:Nat}(hp:p<l.u'.length)(D:p+1-sz p<=i)(V:i<=p)(F:ER l sz ks i n):(n.A= -1\/((p+1-sz p:Nat):Int)<=n.A/\n.A<(i:Int))/\(n.B= -1\/((p+1-sz p:Nat):Int)<=n.B/\n.B<(i:Int)):=by
 have hn:=acQ hg p hp i D V;by_cases c1:n.Op=1
 ·obtain⟨a,b,_⟩:=F.lf c1;exact⟨.inl a,.inl b⟩
 by_cases c27:n.Op=2\/n.Op=7
 ·obtain⟨a,b,c,d,e⟩:=F.bi c27;obtain⟨nA,FA⟩:=hg (i-1-sz (i-1)) (by omega);have hpA:=FA.pos;have hlA:=FA.le;exact⟨.inr (by omega),.inr (by omega)⟩
 ·obtain⟨a,b,c,d⟩:=F.un c1 (fun h=>c27 (.inl h)) (fun h=>c27 (.inr h));obtain⟨nA,FA⟩:=hg (i-1) (by omega);have hpA:=FA.pos;exact⟨.inr (by omega),.inl c⟩
def C1{d:Int}(h:x= -1):yE d x= -1:=by unfold yE;rw [aZ (by omega),h]
def Kq{e:Int}(h:0<=e)(V:e<=x)(Z:x<=100000):yE (-e) x=x-e:=by
 unfold yE;rw [bq (by omega),cJ (by omega) (by omega)];omega
def Hs(hg:EX l sz ks)(hl:l.u'.length<=60)(hp:p<l.u'.length)(hs:sz p<=p+1):EX (Aq l (p+1-sz p) p) (fun j=>sz (p+1-sz p+j)) (fun j=>ks (p+1-sz p+j)):=by
 obtain⟨e,he⟩: ∃e,e=p+1-sz p:=⟨_,rfl⟩;rw [<-he];intro j hj;rw [y4 hp]at hj;obtain⟨n,F⟩:=hg (e+j) (by omega);have hin:=aaL hg hp (i:=e+j) (by omega) (by omega) F;have hnest:=acQ hg p hp (e+j) (by omega) (by omega);rw [<-he]at hin hnest;obtain⟨hA,hB⟩:=hin;refine⟨xf (-(e:Int)) n,⟨?_,F.op,by rw [Xs];exact F.own,fun c1=>?_,fun c1 c2 c7=>?_,fun c27=>?_,?_,fun c8=>?_,F.len,F.pos,?_⟩⟩
 ·have D:=F.node;rw [bR]at D ⊢;unfold Aq;simp only;rw [D9,xT,zT (by omega),D];rfl
 ·obtain⟨a,b,c⟩:=F.lf c1;exact⟨C1 a,C1 b,c⟩
 ·obtain⟨a,b,c,d⟩:=F.un c1 c2 c7;obtain⟨nA,FA⟩:=hg (e+j-1) (by omega);have hpA:=FA.pos;have eA:yE (-(e:Int)) n.A=n.A-(e:Int):=Kq (by omega) (by omega) (by omega);refine⟨by omega,?_,C1 c,?_⟩
  ·show yE (-(e:Int)) n.A=_;rw [eA];omega
  ·show sz (e+j)=sz (e+(j-1))+1;rw [d,show e+j-1=e+(j-1)from by omega]
 ·obtain⟨a,b,c,d,g⟩:=F.bi c27;obtain⟨nA,FA⟩:=hg (e+j-1-sz (e+j-1)) (by omega);have hpA:=FA.pos;have eA:yE (-(e:Int)) n.A=n.A-(e:Int):=Kq (by omega) (by omega) (by omega);have eB:yE (-(e:Int)) n.B=n.B-(e:Int):=Kq (by omega) (by omega) (by omega);have ej:e+(j-1)=e+j-1:=by omega
  refine⟨by omega,?_,?_,?_,?_⟩
  ·show yE (-(e:Int)) n.B=_;rw [eB];omega
  ·show sz (e+(j-1))<j;rw [ej];omega
  ·show yE (-(e:Int)) n.A=(j:Int)-1-(sz (e+(j-1)):Int);rw [eA,ej];omega
  ·show sz (e+j)=sz (e+(j-1-sz (e+(j-1))))+sz (e+(j-1))+1;rw [ej,g,show e+(j-1-sz (e+j-1))=e+j-1-sz (e+j-1)from by omega]
 ·rw [Ni];have key: ∀x:Int,(x= -1\/(e:Int)<=x/\x<((e+j:Nat):Int))->(if yE (-(e:Int)) x<0 then([]:List Int)else ks (e+(yE (-(e:Int)) x).toNat))=if x<0 then []else ks x.toNat:=by
   intro x I;rcases I with I|I
   ·rw [C1 I,bq (by decide),bq (by omega)]
   ·rw [Kq (by omega) I.1 (by omega),aZ (by omega),aZ (by omega)];congr 1;omega
  have D:=F.j';rw [<-key n.A hA,<-key n.B hB]at D;exact D
 ·have:=F.last c8;rw [y4 hp];omega
 ·show sz (e+j)<=j+1;have:=F.le;omega
def Pw(hg:EX l sz ks)(hl:l.u'.length<=60)(hp:p<l.u'.length)(hs:sz p<=p+1)(hs1:1<=sz p):vp (Aq l (p+1-sz p) p)=true:=by
 have hlen:=y4 (l:=l) (e:=p+1-sz p) hp;refine NO (by rw [hlen];omega) (by rw [hlen];omega) (Hs hg hl hp hs) ?_;rw [hlen];show sz (p+1-sz p+(p+1-(p+1-sz p)-1))=_;rw [show p+1-sz p+(p+1-(p+1-sz p)-1)=p from by omega];omega
end
