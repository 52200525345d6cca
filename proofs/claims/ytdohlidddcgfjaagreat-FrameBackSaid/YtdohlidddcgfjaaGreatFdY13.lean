/- bT of this claim: Y13. -/
import Derived.Test.YtdohlidddcgfjaaGreatFdY12
set_option linter.all false
namespace Go.Proofs.YtdohlidddcgfjaaGreat
open Go

def Kn(n:aa): ∀(l:List Int) (ok:Bool),oa n l ok=some (n.Kinds,ok&&l.all fun k=>decide (0<=k)&&decide (k<=4))
 |[],ok=>by unfold oa;simp
 |x::l,ok=>by unfold oa;rw [Kn n l];simp [vG]
def Ir(n:aa):Bool:=((((decide ((0:Int)<=n.Table))&&(decide (n.Table<(30:Int))))&&(decide ((1:Int)<=(n.Kinds.length:Int))))&&(decide ((n.Kinds.length:Int)<=(16:Int))))&&n.Kinds.all fun k=>decide (0<=k)&&decide (k<=4)
def Qb(n:aa):xp n=some (n.Kinds,Ir n):=by
 unfold xp
 rw [Kn]
 rfl
def EI(l:al):hT l=some (Ir l.n,{l with result:=l.n.Kinds}):=by
 unfold hT
 rw [ku (f:=nL) (g:=fun k=>(decide (k<(0:Int)))||(decide ((4:Int)<k))) (fun _=>rfl),bg]
 have e3:(!(l.n.Kinds.any fun k=>(decide (k<(0:Int)))||(decide ((4:Int)<k))))=l.n.Kinds.all fun k=>decide (0<=k)&&decide (k<=4):=by
  rw [List.not_any_eq_all_not]
  congr 1
  funext k
  rw [w9]
  simp
 show some ((((((!(l.n.Kinds.any fun k=>(decide (k<(0:Int)))||(decide ((4:Int)<k))))&&(decide ((0:Int)<=l.n.Table)))&&(decide (l.n.Table<(30:Int))))&&(decide ((0:Int)<(l.n.Kinds.length:Int))))&&(decide ((l.n.Kinds.length:Int)<=(16:Int)))),({l with result:=l.n.Kinds}:al))=_
 rw [e3]
 unfold Ir
 have e2:decide ((0:Int)<(l.n.Kinds.length:Int))=decide ((1:Int)<=(l.n.Kinds.length:Int)):=by rw [Af];omega
 rw [e2]
 congr 2
 cases (l.n.Kinds.all fun k=>decide (0<=k)&&decide (k<=4))<;>simp
def Sn{n:aa}(h:Ir n=true):Kd n.Kinds:=by
 unfold Ir at h
 simp only [lq,kQ,hX]at h
 exact⟨by omega,by omega,fun x V=>h.2 x V⟩
def BU{l:al}{n:aa}(hK:n.Keys=l.n.Keys)(hk:l.n.Keys.length<=5000): ∀(gs:List eS) (i:Nat) (R:List Int),R.length=l.n.Keys.length+(i+gs.length)->R.length<=20000->
  ∃R',fq gs i {l with result:=R}=some (true,{l with result:=R' })/\mz n gs i R=some R' /\R'.length=R.length/\ ∀x∈R',x∈R\/x=4
 |[],i,R,_,_=>⟨R,rfl,rfl,rfl,fun x V=> .inl V⟩
 |g::tl,i,R,hR,K=>by
  simp only [iB]at hR
  unfold fq mz
  by_cases d:g.Tag=3
  ·rw [bh (by simp [d]),bh (by simp [d]),hK]
   show∃R',(gR R (IntKind.i64.wrap ((l.n.Keys.length:Int)+(i:Int)))).bind _=_/\_
   rw [yh (by omega),eU,tM (by omega),bg,bg]
   simp only [bg]
   obtain⟨R',Y,X,d,h4⟩:=BU (l:=l) (n:=n) hK hk tl (i+1) (R.set ((l.n.Keys.length+i:Nat):Int).toNat 4) (by rw [CU];omega) (by rw [CU];omega)
   refine⟨R',Y,X,by rw [d,CU],fun x V=>?_⟩
   rcases h4 x V with h|h
   ·exact List.mem_or_eq_of_mem_set h
   ·exact .inr h
  ·rw [aR (by simpa using d),aR (by simpa using d)]
   exact BU hK hk tl (i+1) R (by omega) K
def fk(g:eS)(k:Int):Int×Bool:=
 if g.Tag=1\/g.Tag=2 then(k,((g.Arg.Nodes.length:Int)==0)&&k==2)else if g.Tag=3 then(2,((g.Arg.Nodes.length:Int)==0)&&k==4)else if g.Tag=4\/g.Tag=5 then(k,((g.Arg.Nodes.length:Int)==0)&&k !=4)else(k,false)
def ET{l:al}(hk:l.n.Keys.length<=5000): ∀(gs:List eS) (i:Nat) (ok:Bool) (pre suf:List Int),pre.length=l.n.Keys.length+i->suf.length=gs.length->l.a_.drop (l.n.Keys.length+i)=suf->pre.length+suf.length<=20000->
  ca l gs i ok {l with result:=pre++suf}=some (ok&&(gs.zip suf).all (fun p=>(fk p.1 p.2).2),{l with result:=pre++List.zipWith (fun g k=>(fk g k).1) gs suf})
 |[],i,ok,pre,suf,Y,X,d,h4=>by
  have:suf=[]:=rN X
  subst this
  unfold ca;simp
 |g::tl,i,ok,pre,[],Y,X,d,h4=>by simp at X
 |g::tl,i,ok,pre,x::suf,Y,X,d,h4=>by
  simp only [iB,Nq]at X h4
  obtain⟨g1,g2,g3⟩:=pe d
  -- the end of a round
  have fin: ∀(ok2:Bool) (y:Int),ok2=(ok&&(fk g x).2)->y=(fk g x).1->ca l tl (i+1) ok2 {l with result:=pre++y::suf}=some (ok&&((g::tl).zip (x::suf)).all (fun p=>(fk p.1 p.2).2),{l with result:=pre++List.zipWith (fun g k=>(fk g k).1) (g::tl) (x::suf)}):=by
   intro ok2 y e1 e2
   rw [show pre++y::suf=(pre++[y])++suf from by simp,ET hk tl (i+1) ok2 (pre++[y]) suf (by simp;omega) X (by rw [<-g3];congr 1) (by simp;omega),e1,e2]
   simp [vG]
  have key: ∀b:Bool,b=(g.Tag==1||g.Tag==2)->fD l (ca l tl) i g ok {l with result:=pre++x::suf} x b=some (ok&&((g::tl).zip (x::suf)).all (fun p=>(fk p.1 p.2).2),{l with result:=pre++List.zipWith (fun g k=>(fk g k).1) (g::tl) (x::suf)}):=by
   intro b K
   unfold fD
   by_cases h12:g.Tag=1\/g.Tag=2
   ·rw [bh (by rw [K];simpa using h12)]
    exact fin _ x (by unfold fk;rw [bh h12,vG]) (by unfold fk;rw [bh h12])
   ·rw [aR (by rw [K];simpa using h12)]
    by_cases d:g.Tag=3
    ·rw [bh (by simp [d])]
     show((gR (pre++x::suf) (IntKind.i64.wrap ((l.n.Keys.length:Int)+(i:Int)))).bind _)=_
     rw [yh (by omega),eU,<-Y,wW (eg _),wH]
     simp only [Gb,bg]
     have e3:(pre++x::suf).set ((pre.length:Int)).toNat 2=pre++2::suf:=by
      rw [u0,List.set_append_right _ _ (eg _),wH];rfl
     rw [e3]
     exact fin _ 2 (by unfold fk;rw [aR h12,bh d,vG]) (by unfold fk;rw [aR h12,bh d])
    ·rw [aR (by simpa using d)]
     unfold hZ
     by_cases h4:g.Tag=4
     ·rw [bh (by simp [h4]),bh (by simp [h4])]
      exact fin _ x (by unfold fk;rw [aR h12,aR d,bh (.inl h4),vG]) (by unfold fk;rw [aR h12,aR d,bh (.inl h4)])
     rw [aR (by simpa using h4)]
     by_cases h5:g.Tag=5
     ·rw [bh (by simp [h5])]
      exact fin _ x (by unfold fk;rw [aR h12,aR d,bh (.inr h5),vG]) (by unfold fk;rw [aR h12,aR d,bh (.inr h5)])
     rw [aR (by simpa using h5)]
     have h45: ¬(g.Tag=4\/g.Tag=5):=by omega
     exact fin _ x (by unfold fk;rw [aR h12,aR d,aR h45,Bool.and_false]) (by unfold fk;rw [aR h12,aR d,aR h45])
  unfold ca
  show((gR l.a_ (IntKind.i64.wrap ((l.n.Keys.length:Int)+(i:Int)))).bind _)=_
  rw [yh (by omega),g1,bg]
  by_cases D:g.Tag=1
  ·rw [bh (by simp [D])]
   exact key _ (by simp [D])
  ·rw [aR (by simpa using D)]
   exact key _ (by simp [D])
def Oh{n:aa}{a:List Int}(hk:n.Keys.length<=5000): ∀(gs:List eS) (i:Nat) (pre suf:List Int),suf.length=gs.length->a.drop (n.Keys.length+i)=suf->pre.length+suf.length<=20000->i+gs.length<=20000->
  gW n a gs i pre=some (if(gs.zip suf).all (fun p=>(fk p.1 p.2).2)then(pre++List.zipWith (fun g k=>(fk g k).1) gs suf,true)else([],false))
 |[],i,pre,suf,X,d,h4,h5=>by
  have:suf=[]:=rN X
  subst this
  unfold gW;simp
 |g::tl,i,pre,[],X,d,h4,h5=>by simp at X
 |g::tl,i,pre,x::suf,X,d,h4,h5=>by
  simp only [iB,Nq]at X h4 h5
  obtain⟨g1,g2,g3⟩:=pe d
  have fin: ∀y:Int,(fk g x).2=true->y=(fk g x).1->((app pre [y]).bind fun o=>gW n a tl (i+1) o)=some (if((g::tl).zip (x::suf)).all (fun p=>(fk p.1 p.2).2)then(pre++List.zipWith (fun g k=>(fk g k).1) (g::tl) (x::suf),true)else([],false)):=by
   intro y e1 e2
   rw [cK (by simp;omega),bg,Oh hk tl (i+1) (pre++[y]) suf X (by rw [<-g3];congr 1) (by simp;omega) (by omega)]
   simp only [List.zip_cons_cons,Aq,e1,nC,List.zipWith_cons_cons,e2,pD,Fw,m7]
  have bad:(fk g x).2=false->some (([]:List Int),false)=some (if((g::tl).zip (x::suf)).all (fun p=>(fk p.1 p.2).2)then(pre++List.zipWith (fun g k=>(fk g k).1) (g::tl) (x::suf),true)else([],false)):=by
   intro e1
   simp [e1]
  unfold gW
  rw [yh (by omega),g1,bg]
  by_cases hA:g.Arg.Nodes.length=0
  ·rw [aR (by simp [hA])]
   have hA' :((g.Arg.Nodes.length:Int)==0)=true:=by simp [hA]
   have key: ∀b:Bool,b=(g.Tag==1||g.Tag==2)->qB (gW n a tl) i g pre x b=some (if((g::tl).zip (x::suf)).all (fun p=>(fk p.1 p.2).2)then(pre++List.zipWith (fun g k=>(fk g k).1) (g::tl) (x::suf),true)else([],false)):=by
    intro b K
    unfold qB
    by_cases h12:g.Tag=1\/g.Tag=2
    ·rw [bh (by rw [K];simpa using h12)]
     have e:fk g x=(x,x==2):=by unfold fk;rw [bh h12,hA',nC]
     by_cases V:x=2
     ·rw [aR (by simp [V])]
      exact fin x (by rw [e];simp [V]) (by rw [e])
     ·rw [bh (by simpa using V)]
      exact bad (by rw [e];simpa using V)
    ·rw [aR (by rw [K];simpa using h12)]
     by_cases d:g.Tag=3
     ·rw [bh (by simp [d])]
      have e:fk g x=(2,x==4):=by unfold fk;rw [aR h12,bh d,hA',nC]
      by_cases V:x=4
      ·rw [aR (by simp [V])]
       exact fin 2 (by rw [e];simp [V]) (by rw [e])
      ·rw [bh (by simpa using V)]
       exact bad (by rw [e];simpa using V)
     ·rw [aR (by simpa using d)]
      have k2: ∀c:Bool,c=(g.Tag==4||g.Tag==5)->qA (gW n a tl) i pre x c=some (if((g::tl).zip (x::suf)).all (fun p=>(fk p.1 p.2).2)then(pre++List.zipWith (fun g k=>(fk g k).1) (g::tl) (x::suf),true)else([],false)):=by
       intro c hc
       unfold qA
       by_cases h45:g.Tag=4\/g.Tag=5
       ·rw [bh (by rw [hc];simpa using h45)]
        have e:fk g x=(x,x !=4):=by unfold fk;rw [aR h12,aR d,bh h45,hA',nC]
        by_cases V:x=4
        ·rw [bh (by simp [V])]
         exact bad (by rw [e];simp [V])
        ·rw [aR (by simpa using V)]
         exact fin x (by rw [e];simpa using V) (by rw [e])
       ·rw [aR (by rw [hc];simpa using h45)]
        exact bad (by unfold fk;rw [aR h12,aR d,aR h45])
      by_cases h4:g.Tag=4
      ·rw [bh (by simp [h4])];exact k2 _ (by simp [h4])
      ·rw [aR (by simpa using h4)];exact k2 _ (by simp [h4])
   by_cases D:g.Tag=1
   ·rw [bh (by simp [D])]
    exact key _ (by simp [D])
   ·rw [aR (by simpa using D)]
    exact key _ (by simp [D])
  ·rw [bh (by simp;omega)]
   refine bad ?_
   have hA' :((g.Arg.Nodes.length:Int)==0)=false:=by rw [beq_eq_false_iff_ne];omega
   unfold fk
   repeat' split
   all_goals simp [hA']
def wZ(a:List Int):List Int->Nat->Bool
 |[],_=>true
 |k::tl,i=>((k==(i:Int))&&((a[i]?).getD 4 !=4))&&wZ a tl (i+1)
def BY{l:al}(hl:l.n.Keys.length<=l.a_.length)(r:List Int): ∀(ks:List Int) (i:Nat) (ok:Bool),i+ks.length=l.n.Keys.length->d5 l r ks i ok=ca l l.n.Aggs 0 (ok&&wZ l.a_ ks i) {l with result:=r}
 |[],i,ok,_=>by unfold d5 wZ;simp
 |k::tl,i,ok,hi=>by
  simp only [iB]at hi
  have hlt:i<l.a_.length:=by omega
  unfold d5
  have:(if(ok&&(k==(i:Int)))then((gR l.a_ (i:Int)).bind fun e5=>some (e5 !=(4:Int)))else some false)=some (ok&&((k==(i:Int))&&((l.a_[i]?).getD 4 !=4))):=by
   rw [eU,tM hlt]
   cases ok<;>cases (k==(i:Int))<;>rfl
  rw [this,bg,BY hl r tl (i+1) _ (by omega)]
  congr 1
  show _=(ok&&(((k==(i:Int))&&((l.a_[i]?).getD 4 !=4))&&wZ l.a_ tl (i+1)))
  rw [vG]
def Kk{n:aa}{a:List Int}(hl:n.Keys.length<=a.length)(hal:a.length<=1000): ∀(ks:List Int) (i:Nat),i+ks.length=n.Keys.length->oc n a ks i (a.take i)=if wZ a ks i then gW n a n.Aggs 0 (a.take n.Keys.length)else some ([],false)
 |[],i,hi=>by
  unfold oc wZ
  have:i=n.Keys.length:=by simpa using hi
  rw [this];simp
 |k::tl,i,hi=>by
  simp only [iB]at hi
  have hlt:i<a.length:=by omega
  unfold oc
  have e0:((a[i]?).getD 4)=a[i]:=by rw [tM hlt];rfl
  have hkb:wZ a (k::tl) i=(((k==(i:Int))&&((a[i]?).getD 4 !=4))&&wZ a tl (i+1)):=rfl
  rw [hkb,e0,eU,tM hlt]
  simp only [bg]
  by_cases hk:k=(i:Int)
  ·by_cases h4:a[i]=4
   ·rw [bh (by simp [hk])]
    simp [h4]
   ·rw [bh (by simp [hk])]
    have e1:(a[i]==4)=false:=by simpa using h4
    have e2:((k==(i:Int))&&(a[i] !=4))=true:=by simp [hk,h4]
    rw [e1,e2,bg,aR (by simp),cK (by simp;omega),bg,List.take_append_getElem hlt,Kk hl hal tl (i+1) (by omega),nC]
  ·rw [aR (by simpa using hk)]
   simp [hk]
def qH(n:aa):Bool:=(oR n).getD false
def AH(n:aa):oR n=some (qH n):=by
 unfold qH oR oQ
 simp only [oS,bg]
 repeat' split
 all_goals rfl
def Un{n:aa}(h:n.Op=9):qH n=BV {n with Op:=1}:=by
 unfold qH oR
 rw [bh (by simp [h]),oS];rfl
def NV{n:aa}(h:n.Op=10\/n.Op=11):qH n=BV {n with Op:=4}:=by
 unfold qH oR oQ
 rcases h with h|h
 ·rw [aR (by simp [h]),bh (by simp [h]),bh (by simp [h]),oS];rfl
 ·rw [aR (by simp [h]),aR (by simp [h]),bh (by simp [h]),oS];rfl
def NW{n:aa}(h:FN n.Op=true):qH n=BV n:=by
 unfold qH oR oQ
 have:=nm h
 rw [aR (by simp;omega),aR (by simp;omega),aR (by simp;omega),oS];rfl
def Fa{n:aa}(hs:i0 n)(h:0<=prt n.Op):rh n=some (qH n):=by
 have hk:=hs.keys
 have H:=hs.aggs
 have e:(IntKind.i64.wrap ((n.Keys.length:Int)+(n.Aggs.length:Int))==0)=(n.Keys.isEmpty&&n.Aggs.isEmpty):=by
  rw [eP (by omega) (by omega),<-XA,<-XA,w9]
  simp only [lq,oJ]
  omega
 unfold rh
 rw [e]
 clear e hk H hs
 obtain⟨op,A,B,wJ,kinds,left,cond,keys,aggs,items,order,limit⟩:=n
 have hop:op=1\/op=2\/op=3\/op=4\/op=5\/op=6\/op=7\/op=8\/op=9\/op=10\/op=11:=by
  unfold prt at h
  simp only at h
  split at h
  ·omega
  ·split at h
   ·omega
   ·split at h<;>omega
 congr 1
 rcases hop with rfl|rfl|rfl|rfl|rfl|rfl|rfl|rfl|rfl|rfl|rfl<;>simp only [qH,oR,oQ,oT,XA,Xz]<;>simp<;>(try (by_cases t:wJ=0<;>simp [t]))<;>(try (by_cases lm:limit=0<;>simp [lm]))<;>(try (cases left<;>simp))<;>(try (by_cases e1:kinds=[]<;>simp [e1]))<;>(try (by_cases e2:cond.Nodes=[]<;>simp [e2]))<;>(try (by_cases e3:keys=[]<;>simp [e3]))<;>(try (by_cases e4:aggs=[]<;>simp [e4]))<;>(try (by_cases e5:items=[]<;>simp [e5]))<;>(try (by_cases e6:order=[]<;>simp [e6]))
end Go.Proofs.YtdohlidddcgfjaaGreat

