import Derived.Test.YtdohlidddcgfjaaGreatFgY12
set_option linter.all false
namespace Go.Proofs.YtdohlidddcgfjaaGreat
open Go IntKind
def N8(n:al): ∀(l:List Int) (ok:Bool),oO n l ok=some (n.A',ok&&l.all fun k=>decide (0<=k)&&decide (k<=4))
 |[],ok=>by unfold oO;simp
 |x::l,ok=>by unfold oO;rw [N8 n l];simp [za]
def LI(n:al):Bool:=((((decide ((0:Int)<=n.Table))&&(decide (n.Table<(30:Int))))&&(decide ((1:Int)<=(n.A'.length:Int))))&&(decide ((n.A'.length:Int)<=(16:Int))))&&n.A'.all fun k=>decide (0<=k)&&decide (k<=4)
def Uf(n:al):xD n=some (n.A',LI n):=by
 unfold xD;rw [N8];rfl
def HS(l:aE):jr l=some (LI l.n,{l with j':=l.n.A'}):=by
 unfold jr;rw [ml (f:=qK) (g:=fun k=>(decide (k<(0:Int)))||(decide ((4:Int)<k))) (fun _=>rfl),bz];have e3:(!(l.n.A'.any fun k=>(decide (k<(0:Int)))||(decide ((4:Int)<k))))=l.n.A'.all fun k=>decide (0<=k)&&decide (k<=4):=by
  rw [List.not_any_eq_all_not];congr 1;funext k;rw [tY];simp
 show some ((((((!(l.n.A'.any fun k=>(decide (k<(0:Int)))||(decide ((4:Int)<k))))&&(decide ((0:Int)<=l.n.Table)))&&(decide (l.n.Table<(30:Int))))&&(decide ((0:Int)<(l.n.A'.length:Int))))&&(decide ((l.n.A'.length:Int)<=(16:Int)))),({l with j':=l.n.A'}:aE))=_;rw [e3];unfold LI;have e2:decide ((0:Int)<(l.n.A'.length:Int))=decide ((1:Int)<=(l.n.A'.length:Int)):=by rw [Do];omega
 rw [e2];congr 2;cases (l.n.A'.all fun k=>decide (0<=k)&&decide (k<=4))<;>simp
def V9{n:al}(h:LI n=true):Kd n.A':=by
 unfold LI at h;simp only [nw,mI,mS]at h;exact⟨by omega,by omega,fun x K=>h.2 x K⟩
def E4{l:aE}{n:al}(hK:n.v'=l.n.v')(hk:l.n.v'.length<=5000): ∀(gs:List f9) (i:Nat) (R:List Int),R.length=l.n.v'.length+(i+gs.length)->R.length<=20000->
  ∃R',gT gs i {l with j':=R}=some (true,{l with j':=R' })/\mL n gs i R=some R' /\R'.length=R.length/\ ∀x∈R',x∈R\/x=4
 |[],i,R,_,_=>⟨R,rfl,rfl,rfl,fun x K=> .inl K⟩
 |g::tl,i,R,hR,V=>by
  simp only [jl]at hR;unfold gT mL;by_cases h3:g.Tag=3
  ·rw [bM (by simp [h3]),bM (by simp [h3]),hK];show∃R',(gw R (i64.wrap ((l.n.v'.length:Int)+(i:Int)))).bind _=_/\_;rw [Bq (by omega),eU,vp (by omega),bz,bz];simp only [bz];obtain⟨R',H,W,h3,h4⟩:=E4 (l:=l) (n:=n) hK hk tl (i+1) (R.set ((l.n.v'.length+i:Nat):Int).toNat 4) (by rw [F3];omega) (by rw [F3];omega);refine⟨R',H,W,by rw [h3,F3],fun x K=>?_⟩;rcases h4 x K with h|h
   ·exact List.mem_or_eq_of_mem_set h
   ·exact .inr h
  ·rw [bB (by simpa using h3),bB (by simpa using h3)];exact E4 hK hk tl (i+1) R (by omega) V
def fk(g:f9)(k:Int):Int×Bool:=
 if g.Tag=1\/g.Tag=2 then(k,((g.Arg.i'.length:Int)==0)&&k==2)else if g.Tag=3 then(2,((g.Arg.i'.length:Int)==0)&&k==4)else if g.Tag=4\/g.Tag=5 then(k,((g.Arg.i'.length:Int)==0)&&k !=4)else(k,false)
def Ia{l:aE}(hk:l.n.v'.length<=5000): ∀(gs:List f9) (i:Nat) (ok:Bool) (pre suf:List Int),pre.length=l.n.v'.length+i->suf.length=gs.length->l.a_.drop (l.n.v'.length+i)=suf->pre.length+suf.length<=20000->
  cW l gs i ok {l with j':=pre++suf}=some (ok&&(gs.zip suf).all (fun p=>(fk p.1 p.2).2),{l with j':=pre++List.zipWith (fun g k=>(fk g k).1) gs suf})
 |[],i,ok,pre,suf,H,W,h3,h4=>by
  have:suf=[]:=vM W;subst this;unfold cW;simp
 |g::tl,i,ok,pre,[],H,W,h3,h4=>by simp at W
 |g::tl,i,ok,pre,x::suf,H,W,h3,h4=>by
  simp only [jl,Rs]at W h4;obtain⟨g1,g2,g3⟩:=jN h3;have fin: ∀(ok2:Bool) (y:Int),ok2=(ok&&(fk g x).2)->y=(fk g x).1->cW l tl (i+1) ok2 {l with j':=pre++y::suf}=some (ok&&((g::tl).zip (x::suf)).all (fun p=>(fk p.1 p.2).2),{l with j':=pre++List.zipWith (fun g k=>(fk g k).1) (g::tl) (x::suf)}):=by
   intro ok2 y e1 e2;rw [show pre++y::suf=(pre++[y])++suf from by simp,Ia hk tl (i+1) ok2 (pre++[y]) suf (by simp;omega) W (by rw [<-g3];congr 1) (by simp;omega),e1,e2];simp [za]
  have key: ∀b:Bool,b=(g.Tag==1||g.Tag==2)->hD l (cW l tl) i g ok {l with j':=pre++x::suf} x b=some (ok&&((g::tl).zip (x::suf)).all (fun p=>(fk p.1 p.2).2),{l with j':=pre++List.zipWith (fun g k=>(fk g k).1) (g::tl) (x::suf)}):=by
   intro b V;unfold hD;by_cases h12:g.Tag=1\/g.Tag=2
   ·rw [bM (by rw [V];simpa using h12)];exact fin _ x (by unfold fk;rw [bM h12,za]) (by unfold fk;rw [bM h12])
   ·rw [bB (by rw [V];simpa using h12)];by_cases h3:g.Tag=3
    ·rw [bM (by simp [h3])];show((gw (pre++x::suf) (i64.wrap ((l.n.v'.length:Int)+(i:Int)))).bind _)=_;rw [Bq (by omega),eU,<-H,Ap (kE _),Aa];simp only [JA,bz];have e3:(pre++x::suf).set ((pre.length:Int)).toNat 2=pre++2::suf:=by
      rw [Cb,List.set_append_right _ _ (kE _),Aa];rfl
     rw [e3];exact fin _ 2 (by unfold fk;rw [bB h12,bM h3,za]) (by unfold fk;rw [bB h12,bM h3])
    ·rw [bB (by simpa using h3)];unfold jv;by_cases h4:g.Tag=4
     ·rw [bM (by simp [h4]),bM (by simp [h4])];exact fin _ x (by unfold fk;rw [bB h12,bB h3,bM (.inl h4),za]) (by unfold fk;rw [bB h12,bB h3,bM (.inl h4)])
     rw [bB (by simpa using h4)];by_cases h5:g.Tag=5
     ·rw [bM (by simp [h5])];exact fin _ x (by unfold fk;rw [bB h12,bB h3,bM (.inr h5),za]) (by unfold fk;rw [bB h12,bB h3,bM (.inr h5)])
     rw [bB (by simpa using h5)];have h45: ¬(g.Tag=4\/g.Tag=5):=by omega
     exact fin _ x (by unfold fk;rw [bB h12,bB h3,bB h45,Bool.and_false]) (by unfold fk;rw [bB h12,bB h3,bB h45])
  unfold cW;show((gw l.a_ (i64.wrap ((l.n.v'.length:Int)+(i:Int)))).bind _)=_;rw [Bq (by omega),g1,bz];by_cases D:g.Tag=1
  ·rw [bM (by simp [D])];exact key _ (by simp [D])
  ·rw [bB (by simpa using D)];exact key _ (by simp [D])
def R8{n:al}{a:List Int}(hk:n.v'.length<=5000): ∀(gs:List f9) (i:Nat) (pre suf:List Int),suf.length=gs.length->a.drop (n.v'.length+i)=suf->pre.length+suf.length<=20000->i+gs.length<=20000->
  gC n a gs i pre=some (if(gs.zip suf).all (fun p=>(fk p.1 p.2).2)then(pre++List.zipWith (fun g k=>(fk g k).1) gs suf,true)else([],false))
 |[],i,pre,suf,W,h3,h4,h5=>by
  have:suf=[]:=vM W;subst this;unfold gC;simp
 |g::tl,i,pre,[],W,h3,h4,h5=>by simp at W
 |g::tl,i,pre,x::suf,W,h3,h4,h5=>by
  simp only [jl,Rs]at W h4 h5;obtain⟨g1,g2,g3⟩:=jN h3;have fin: ∀y:Int,(fk g x).2=true->y=(fk g x).1->((hU pre [y]).bind fun o=>gC n a tl (i+1) o)=some (if((g::tl).zip (x::suf)).all (fun p=>(fk p.1 p.2).2)then(pre++List.zipWith (fun g k=>(fk g k).1) (g::tl) (x::suf),true)else([],false)):=by
   intro y e1 e2;rw [bZ (by simp;omega),bz,R8 hk tl (i+1) (pre++[y]) suf W (by rw [<-g3];congr 1) (by simp;omega) (by omega)];simp only [List.zip_cons_cons,Dv,e1,o4,List.zipWith_cons_cons,e2,jR,GL,pM]
  have bad:(fk g x).2=false->some (([]:List Int),false)=some (if((g::tl).zip (x::suf)).all (fun p=>(fk p.1 p.2).2)then(pre++List.zipWith (fun g k=>(fk g k).1) (g::tl) (x::suf),true)else([],false)):=by
   intro e1;simp [e1]
  unfold gC;rw [Bq (by omega),g1,bz];by_cases hA:g.Arg.i'.length=0
  ·rw [bB (by simp [hA])];have hA' :((g.Arg.i'.length:Int)==0)=true:=by simp [hA]
   have key: ∀b:Bool,b=(g.Tag==1||g.Tag==2)->rb (gC n a tl) i g pre x b=some (if((g::tl).zip (x::suf)).all (fun p=>(fk p.1 p.2).2)then(pre++List.zipWith (fun g k=>(fk g k).1) (g::tl) (x::suf),true)else([],false)):=by
    intro b V;unfold rb;by_cases h12:g.Tag=1\/g.Tag=2
    ·rw [bM (by rw [V];simpa using h12)];have e:fk g x=(x,x==2):=by unfold fk;rw [bM h12,hA',o4]
     by_cases K:x=2
     ·rw [bB (by simp [K])];exact fin x (by rw [e];simp [K]) (by rw [e])
     ·rw [bM (by simpa using K)];exact bad (by rw [e];simpa using K)
    ·rw [bB (by rw [V];simpa using h12)];by_cases h3:g.Tag=3
     ·rw [bM (by simp [h3])];have e:fk g x=(2,x==4):=by unfold fk;rw [bB h12,bM h3,hA',o4]
      by_cases K:x=4
      ·rw [bB (by simp [K])];exact fin 2 (by rw [e];simp [K]) (by rw [e])
      ·rw [bM (by simpa using K)];exact bad (by rw [e];simpa using K)
     ·rw [bB (by simpa using h3)];have k2: ∀c:Bool,c=(g.Tag==4||g.Tag==5)->ra (gC n a tl) i pre x c=some (if((g::tl).zip (x::suf)).all (fun p=>(fk p.1 p.2).2)then(pre++List.zipWith (fun g k=>(fk g k).1) (g::tl) (x::suf),true)else([],false)):=by
       intro c hc;unfold ra;by_cases h45:g.Tag=4\/g.Tag=5
       ·rw [bM (by rw [hc];simpa using h45)];have e:fk g x=(x,x !=4):=by unfold fk;rw [bB h12,bB h3,bM h45,hA',o4]
        by_cases K:x=4
        ·rw [bM (by simp [K])];exact bad (by rw [e];simp [K])
        ·rw [bB (by simpa using K)];exact fin x (by rw [e];simpa using K) (by rw [e])
       ·rw [bB (by rw [hc];simpa using h45)];exact bad (by unfold fk;rw [bB h12,bB h3,bB h45])
      by_cases h4:g.Tag=4
      ·rw [bM (by simp [h4])];exact k2 _ (by simp [h4])
      ·rw [bB (by simpa using h4)];exact k2 _ (by simp [h4])
   by_cases D:g.Tag=1
   ·rw [bM (by simp [D])];exact key _ (by simp [D])
   ·rw [bB (by simpa using D)];exact key _ (by simp [D])
  ·rw [bM (by simp;omega)];refine bad ?_;have hA' :((g.Arg.i'.length:Int)==0)=false:=by rw [beq_eq_false_iff_ne];omega
   unfold fk;repeat' split
   all_goals simp [hA']
def Ar(a:List Int):List Int->Nat->Bool
 |[],_=>true
 |k::tl,i=>((k==(i:Int))&&((a[i]?).getD 4 !=4))&&Ar a tl (i+1)
def E8{l:aE}(hl:l.n.v'.length<=l.a_.length)(r:List Int): ∀(ks:List Int) (i:Nat) (ok:Bool),i+ks.length=l.n.v'.length->fX l r ks i ok=cW l l.n.u' 0 (ok&&Ar l.a_ ks i) {l with j':=r}
 |[],i,ok,_=>by unfold fX Ar;simp
 |k::tl,i,ok,hi=>by
  simp only [jl]at hi;have hlt:i<l.a_.length:=by omega
  unfold fX;have:(if(ok&&(k==(i:Int)))then((gw l.a_ (i:Int)).bind fun e5=>some (e5 !=(4:Int)))else some false)=some (ok&&((k==(i:Int))&&((l.a_[i]?).getD 4 !=4))):=by
   rw [eU,vp hlt];cases ok<;>cases (k==(i:Int))<;>rfl
  rw [this,bz,E8 hl r tl (i+1) _ (by omega)];congr 1;show _=(ok&&(((k==(i:Int))&&((l.a_[i]?).getD 4 !=4))&&Ar l.a_ tl (i+1)));rw [za]
def N4{n:al}{a:List Int}(hl:n.v'.length<=a.length)(hal:a.length<=1000): ∀(ks:List Int) (i:Nat),i+ks.length=n.v'.length->oP n a ks i (a.take i)=if Ar a ks i then gC n a n.u' 0 (a.take n.v'.length)else some ([],false)
 |[],i,hi=>by
  unfold oP Ar;have:i=n.v'.length:=by simpa using hi
  rw [this];simp
 |k::tl,i,hi=>by
  simp only [jl]at hi;have hlt:i<a.length:=by omega
  unfold oP;have e0:((a[i]?).getD 4)=a[i]:=by rw [vp hlt];rfl
  have hkb:Ar a (k::tl) i=(((k==(i:Int))&&((a[i]?).getD 4 !=4))&&Ar a tl (i+1)):=rfl;rw [hkb,e0,eU,vp hlt];simp only [bz];by_cases hk:k=(i:Int)
  ·by_cases h4:a[i]=4
   ·rw [bM (by simp [hk])];simp [h4]
   ·rw [bM (by simp [hk])];have e1:(a[i]==4)=false:=by simpa using h4
    have e2:((k==(i:Int))&&(a[i] !=4))=true:=by simp [hk,h4]
    rw [e1,e2,bz,bB (by simp),bZ (by simp;omega),bz,List.take_append_getElem hlt,N4 hl hal tl (i+1) (by omega),o4]
  ·rw [bB (by simpa using hk)];simp [hk]
def uq(n:al):Bool:=(qe n).getD false
def DU(n:al):qe n=some (uq n):=by
 unfold uq qe px;simp only [rP,bz];repeat' split
 all_goals rfl
def Yb{n:al}(h:n.Op=9):uq n=E5 {n with Op:=1}:=by
 unfold uq qe;rw [bM (by simp [h]),rP];rfl
def RM{n:al}(h:n.Op=10\/n.Op=11):uq n=E5 {n with Op:=4}:=by
 unfold uq qe px;rcases h with h|h
 ·rw [bB (by simp [h]),bM (by simp [h]),bM (by simp [h]),rP];rfl
 ·rw [bB (by simp [h]),bB (by simp [h]),bM (by simp [h]),rP];rfl
def RN{n:al}(h:Je n.Op=true):uq n=E5 n:=by
 unfold uq qe px;have:=tK h;rw [bB (by simp;omega),bB (by simp;omega),bB (by simp;omega),rP];rfl
def Is{n:al}(hs:kq n)(h:0<=prt n.Op):uV n=some (uq n):=by
 have hk:=hs.keys;have Y:=hs.aggs;have e:(i64.wrap ((n.v'.length:Int)+(n.u'.length:Int))==0)=(n.v'.isEmpty&&n.u'.isEmpty):=by
  rw [gg (by omega) (by omega),<-abt,<-abt,tY];simp only [nw,oJ];omega
 unfold uV;rw [e];clear e hk Y hs;obtain⟨op,A,B,Ad,g',left,cond,keys,aggs,items,order,limit⟩:=n;have hop:op=1\/op=2\/op=3\/op=4\/op=5\/op=6\/op=7\/op=8\/op=9\/op=10\/op=11:=by
  unfold prt at h;simp only at h;split at h
  ·omega
  ·split at h
   ·omega
   ·split at h<;>omega
 congr 1;rcases hop with rfl|rfl|rfl|rfl|rfl|rfl|rfl|rfl|rfl|rfl|rfl<;>simp only [uq,qe,px,qg,abt,abs]<;>simp<;>(try (by_cases t:Ad=0<;>simp [t]))<;>(try (by_cases lm:limit=0<;>simp [lm]))<;>(try (cases left<;>simp))<;>(try (by_cases e1:g'=[]<;>simp [e1]))<;>(try (by_cases e2:cond.i'=[]<;>simp [e2]))<;>(try (by_cases e3:keys=[]<;>simp [e3]))<;>(try (by_cases e4:aggs=[]<;>simp [e4]))<;>(try (by_cases e5:items=[]<;>simp [e5]))<;>(try (by_cases e6:order=[]<;>simp [e6]))
