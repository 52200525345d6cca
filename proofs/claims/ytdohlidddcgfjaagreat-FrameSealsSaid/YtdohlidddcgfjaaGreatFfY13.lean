/- bS of this claim: Y13. -/
import Derived.Test.YtdohlidddcgfjaaGreatFfY12
set_option linter.all false
namespace Go.Proofs.YtdohlidddcgfjaaGreat
open Go

def KV(n:aa): ∀(l:List Int) (ok:Bool),ow n l ok=some (n.Kinds,ok&&l.all fun k=>decide (0<=k)&&decide (k<=4))
 |[],ok=>by unfold ow;simp
 |x::l,ok=>by unfold ow;rw [KV n l];simp [vW]
def IP(n:aa):Bool:=((((decide ((0:Int)<=n.Table))&&(decide (n.Table<(30:Int))))&&(decide ((1:Int)<=(n.Kinds.length:Int))))&&(decide ((n.Kinds.length:Int)<=(16:Int))))&&n.Kinds.all fun k=>decide (0<=k)&&decide (k<=4)
def QL(n:aa):xG n=some (n.Kinds,IP n):=by
 unfold xG
 rw [KV]
 rfl
def E3(l:al):ic l=some (IP l.n,{l with result:=l.n.Kinds}):=by
 unfold ic
 rw [kF (f:=nX) (g:=fun k=>(decide (k<(0:Int)))||(decide ((4:Int)<k))) (fun _=>rfl),bf]
 have e3:(!(l.n.Kinds.any fun k=>(decide (k<(0:Int)))||(decide ((4:Int)<k))))=l.n.Kinds.all fun k=>decide (0<=k)&&decide (k<=4):=by
  rw [List.not_any_eq_all_not]
  congr 1
  funext k
  rw [xp]
  simp
 show some ((((((!(l.n.Kinds.any fun k=>(decide (k<(0:Int)))||(decide ((4:Int)<k))))&&(decide ((0:Int)<=l.n.Table)))&&(decide (l.n.Table<(30:Int))))&&(decide ((0:Int)<(l.n.Kinds.length:Int))))&&(decide ((l.n.Kinds.length:Int)<=(16:Int)))),({l with result:=l.n.Kinds}:al))=_
 rw [e3]
 unfold IP
 have e2:decide ((0:Int)<(l.n.Kinds.length:Int))=decide ((1:Int)<=(l.n.Kinds.length:Int)):=by rw [BZ];omega
 rw [e2]
 congr 2
 cases (l.n.Kinds.all fun k=>decide (0<=k)&&decide (k<=4))<;>simp
def S8{n:aa}(h:IP n=true):Kd n.Kinds:=by
 unfold IP at h
 simp only [ly,kU,ig]at h
 exact⟨by omega,by omega,fun x V=>h.2 x V⟩
def Ce{l:al}{n:aa}(hK:n.Keys=l.n.Keys)(hk:l.n.Keys.length<=5000): ∀(gs:List eY) (i:Nat) (R:List Int),R.length=l.n.Keys.length+(i+gs.length)->R.length<=20000->
  ∃R',fy gs i {l with result:=R}=some (true,{l with result:=R' })/\mF n gs i R=some R' /\R'.length=R.length/\ ∀x∈R',x∈R\/x=4
 |[],i,R,_,_=>⟨R,rfl,rfl,rfl,fun x V=> .inl V⟩
 |g::tl,i,R,hR,H=>by
  simp only [iG]at hR
  unfold fy mF
  by_cases d:g.Tag=3
  ·rw [bh (by simp [d]),bh (by simp [d]),hK]
   show∃R',(gV R (IntKind.i64.wrap ((l.n.Keys.length:Int)+(i:Int)))).bind _=_/\_
   rw [yy (by omega),eU,sH (by omega),bf,bf]
   simp only [bf]
   obtain⟨R',Y,X,d,h4⟩:=Ce (l:=l) (n:=n) hK hk tl (i+1) (R.set ((l.n.Keys.length+i:Nat):Int).toNat 4) (by rw [BX];omega) (by rw [BX];omega)
   refine⟨R',Y,X,by rw [d,BX],fun x V=>?_⟩
   rcases h4 x V with h|h
   ·exact List.mem_or_eq_of_mem_set h
   ·exact .inr h
  ·rw [aQ (by simpa using d),aQ (by simpa using d)]
   exact Ce hK hk tl (i+1) R (by omega) H
def fk(g:eY)(k:Int):Int×Bool:=
 if g.Tag=1\/g.Tag=2 then(k,((g.Arg.Nodes.length:Int)==0)&&k==2)else if g.Tag=3 then(2,((g.Arg.Nodes.length:Int)==0)&&k==4)else if g.Tag=4\/g.Tag=5 then(k,((g.Arg.Nodes.length:Int)==0)&&k !=4)else(k,false)
def Fe{l:al}(hk:l.n.Keys.length<=5000): ∀(gs:List eY) (i:Nat) (ok:Bool) (pre suf:List Int),pre.length=l.n.Keys.length+i->suf.length=gs.length->l.a_.drop (l.n.Keys.length+i)=suf->pre.length+suf.length<=20000->
  ca l gs i ok {l with result:=pre++suf}=some (ok&&(gs.zip suf).all (fun p=>(fk p.1 p.2).2),{l with result:=pre++List.zipWith (fun g k=>(fk g k).1) gs suf})
 |[],i,ok,pre,suf,Y,X,d,h4=>by
  have:suf=[]:=sd X
  subst this
  unfold ca;simp
 |g::tl,i,ok,pre,[],Y,X,d,h4=>by simp at X
 |g::tl,i,ok,pre,x::suf,Y,X,d,h4=>by
  simp only [iG,NZ]at X h4
  obtain⟨g1,g2,g3⟩:=pz d
  -- the end of a round
  have fin: ∀(ok2:Bool) (y:Int),ok2=(ok&&(fk g x).2)->y=(fk g x).1->ca l tl (i+1) ok2 {l with result:=pre++y::suf}=some (ok&&((g::tl).zip (x::suf)).all (fun p=>(fk p.1 p.2).2),{l with result:=pre++List.zipWith (fun g k=>(fk g k).1) (g::tl) (x::suf)}):=by
   intro ok2 y e1 e2
   rw [show pre++y::suf=(pre++[y])++suf from by simp,Fe hk tl (i+1) ok2 (pre++[y]) suf (by simp;omega) X (by rw [<-g3];congr 1) (by simp;omega),e1,e2]
   simp [vW]
  have key: ∀b:Bool,b=(g.Tag==1||g.Tag==2)->fG l (ca l tl) i g ok {l with result:=pre++x::suf} x b=some (ok&&((g::tl).zip (x::suf)).all (fun p=>(fk p.1 p.2).2),{l with result:=pre++List.zipWith (fun g k=>(fk g k).1) (g::tl) (x::suf)}):=by
   intro b H
   unfold fG
   by_cases h12:g.Tag=1\/g.Tag=2
   ·rw [bh (by rw [H];simpa using h12)]
    exact fin _ x (by unfold fk;rw [bh h12,vW]) (by unfold fk;rw [bh h12])
   ·rw [aQ (by rw [H];simpa using h12)]
    by_cases d:g.Tag=3
    ·rw [bh (by simp [d])]
     show((gV (pre++x::suf) (IntKind.i64.wrap ((l.n.Keys.length:Int)+(i:Int)))).bind _)=_
     rw [yy (by omega),eU,<-Y,xf (eo _),wY]
     simp only [Gz,bf]
     have e3:(pre++x::suf).set ((pre.length:Int)).toNat 2=pre++2::suf:=by
      rw [uY,List.set_append_right _ _ (eo _),wY];rfl
     rw [e3]
     exact fin _ 2 (by unfold fk;rw [aQ h12,bh d,vW]) (by unfold fk;rw [aQ h12,bh d])
    ·rw [aQ (by simpa using d)]
     unfold ij
     by_cases h4:g.Tag=4
     ·rw [bh (by simp [h4]),bh (by simp [h4])]
      exact fin _ x (by unfold fk;rw [aQ h12,aQ d,bh (.inl h4),vW]) (by unfold fk;rw [aQ h12,aQ d,bh (.inl h4)])
     rw [aQ (by simpa using h4)]
     by_cases h5:g.Tag=5
     ·rw [bh (by simp [h5])]
      exact fin _ x (by unfold fk;rw [aQ h12,aQ d,bh (.inr h5),vW]) (by unfold fk;rw [aQ h12,aQ d,bh (.inr h5)])
     rw [aQ (by simpa using h5)]
     have h45: ¬(g.Tag=4\/g.Tag=5):=by omega
     exact fin _ x (by unfold fk;rw [aQ h12,aQ d,aQ h45,Bool.and_false]) (by unfold fk;rw [aQ h12,aQ d,aQ h45])
  unfold ca
  show((gV l.a_ (IntKind.i64.wrap ((l.n.Keys.length:Int)+(i:Int)))).bind _)=_
  rw [yy (by omega),g1,bf]
  by_cases D:g.Tag=1
  ·rw [bh (by simp [D])]
   exact key _ (by simp [D])
  ·rw [aQ (by simpa using D)]
   exact key _ (by simp [D])
def OU{n:aa}{a:List Int}(hk:n.Keys.length<=5000): ∀(gs:List eY) (i:Nat) (pre suf:List Int),suf.length=gs.length->a.drop (n.Keys.length+i)=suf->pre.length+suf.length<=20000->i+gs.length<=20000->
  hM n a gs i pre=some (if(gs.zip suf).all (fun p=>(fk p.1 p.2).2)then(pre++List.zipWith (fun g k=>(fk g k).1) gs suf,true)else([],false))
 |[],i,pre,suf,X,d,h4,h5=>by
  have:suf=[]:=sd X
  subst this
  unfold hM;simp
 |g::tl,i,pre,[],X,d,h4,h5=>by simp at X
 |g::tl,i,pre,x::suf,X,d,h4,h5=>by
  simp only [iG,NZ]at X h4 h5
  obtain⟨g1,g2,g3⟩:=pz d
  have fin: ∀y:Int,(fk g x).2=true->y=(fk g x).1->((app pre [y]).bind fun o=>hM n a tl (i+1) o)=some (if((g::tl).zip (x::suf)).all (fun p=>(fk p.1 p.2).2)then(pre++List.zipWith (fun g k=>(fk g k).1) (g::tl) (x::suf),true)else([],false)):=by
   intro y e1 e2
   rw [cD (by simp;omega),bf,OU hk tl (i+1) (pre++[y]) suf X (by rw [<-g3];congr 1) (by simp;omega) (by omega)]
   simp only [List.zip_cons_cons,AI,e1,nN,List.zipWith_cons_cons,e2,hZ,De,mh]
  have bad:(fk g x).2=false->some (([]:List Int),false)=some (if((g::tl).zip (x::suf)).all (fun p=>(fk p.1 p.2).2)then(pre++List.zipWith (fun g k=>(fk g k).1) (g::tl) (x::suf),true)else([],false)):=by
   intro e1
   simp [e1]
  unfold hM
  rw [yy (by omega),g1,bf]
  by_cases hA:g.Arg.Nodes.length=0
  ·rw [aQ (by simp [hA])]
   have hA' :((g.Arg.Nodes.length:Int)==0)=true:=by simp [hA]
   have key: ∀b:Bool,b=(g.Tag==1||g.Tag==2)->qQ (hM n a tl) i g pre x b=some (if((g::tl).zip (x::suf)).all (fun p=>(fk p.1 p.2).2)then(pre++List.zipWith (fun g k=>(fk g k).1) (g::tl) (x::suf),true)else([],false)):=by
    intro b H
    unfold qQ
    by_cases h12:g.Tag=1\/g.Tag=2
    ·rw [bh (by rw [H];simpa using h12)]
     have e:fk g x=(x,x==2):=by unfold fk;rw [bh h12,hA',nN]
     by_cases V:x=2
     ·rw [aQ (by simp [V])]
      exact fin x (by rw [e];simp [V]) (by rw [e])
     ·rw [bh (by simpa using V)]
      exact bad (by rw [e];simpa using V)
    ·rw [aQ (by rw [H];simpa using h12)]
     by_cases d:g.Tag=3
     ·rw [bh (by simp [d])]
      have e:fk g x=(2,x==4):=by unfold fk;rw [aQ h12,bh d,hA',nN]
      by_cases V:x=4
      ·rw [aQ (by simp [V])]
       exact fin 2 (by rw [e];simp [V]) (by rw [e])
      ·rw [bh (by simpa using V)]
       exact bad (by rw [e];simpa using V)
     ·rw [aQ (by simpa using d)]
      have k2: ∀c:Bool,c=(g.Tag==4||g.Tag==5)->qP (hM n a tl) i pre x c=some (if((g::tl).zip (x::suf)).all (fun p=>(fk p.1 p.2).2)then(pre++List.zipWith (fun g k=>(fk g k).1) (g::tl) (x::suf),true)else([],false)):=by
       intro c hc
       unfold qP
       by_cases h45:g.Tag=4\/g.Tag=5
       ·rw [bh (by rw [hc];simpa using h45)]
        have e:fk g x=(x,x !=4):=by unfold fk;rw [aQ h12,aQ d,bh h45,hA',nN]
        by_cases V:x=4
        ·rw [bh (by simp [V])]
         exact bad (by rw [e];simp [V])
        ·rw [aQ (by simpa using V)]
         exact fin x (by rw [e];simpa using V) (by rw [e])
       ·rw [aQ (by rw [hc];simpa using h45)]
        exact bad (by unfold fk;rw [aQ h12,aQ d,aQ h45])
      by_cases h4:g.Tag=4
      ·rw [bh (by simp [h4])];exact k2 _ (by simp [h4])
      ·rw [aQ (by simpa using h4)];exact k2 _ (by simp [h4])
   by_cases D:g.Tag=1
   ·rw [bh (by simp [D])]
    exact key _ (by simp [D])
   ·rw [aQ (by simpa using D)]
    exact key _ (by simp [D])
  ·rw [bh (by simp;omega)]
   refine bad ?_
   have hA' :((g.Arg.Nodes.length:Int)==0)=false:=by rw [beq_eq_false_iff_ne];omega
   unfold fk
   repeat' split
   all_goals simp [hA']
def xi(a:List Int):List Int->Nat->Bool
 |[],_=>true
 |k::tl,i=>((k==(i:Int))&&((a[i]?).getD 4 !=4))&&xi a tl (i+1)
def Ci{l:al}(hl:l.n.Keys.length<=l.a_.length)(r:List Int): ∀(ks:List Int) (i:Nat) (ok:Bool),i+ks.length=l.n.Keys.length->ea l r ks i ok=ca l l.n.Aggs 0 (ok&&xi l.a_ ks i) {l with result:=r}
 |[],i,ok,_=>by unfold ea xi;simp
 |k::tl,i,ok,hi=>by
  simp only [iG]at hi
  have hlt:i<l.a_.length:=by omega
  unfold ea
  have:(if(ok&&(k==(i:Int)))then((gV l.a_ (i:Int)).bind fun e5=>some (e5 !=(4:Int)))else some false)=some (ok&&((k==(i:Int))&&((l.a_[i]?).getD 4 !=4))):=by
   rw [eU,sH hlt]
   cases ok<;>cases (k==(i:Int))<;>rfl
  rw [this,bf,Ci hl r tl (i+1) _ (by omega)]
  congr 1
  show _=(ok&&(((k==(i:Int))&&((l.a_[i]?).getD 4 !=4))&&xi l.a_ tl (i+1)))
  rw [vW]
def KR{n:aa}{a:List Int}(hl:n.Keys.length<=a.length)(hal:a.length<=1000): ∀(ks:List Int) (i:Nat),i+ks.length=n.Keys.length->ox n a ks i (a.take i)=if xi a ks i then hM n a n.Aggs 0 (a.take n.Keys.length)else some ([],false)
 |[],i,hi=>by
  unfold ox xi
  have:i=n.Keys.length:=by simpa using hi
  rw [this];simp
 |k::tl,i,hi=>by
  simp only [iG]at hi
  have hlt:i<a.length:=by omega
  unfold ox
  have e0:((a[i]?).getD 4)=a[i]:=by rw [sH hlt];rfl
  have hkb:xi a (k::tl) i=(((k==(i:Int))&&((a[i]?).getD 4 !=4))&&xi a tl (i+1)):=rfl
  rw [hkb,e0,eU,sH hlt]
  simp only [bf]
  by_cases hk:k=(i:Int)
  ·by_cases h4:a[i]=4
   ·rw [bh (by simp [hk])]
    simp [h4]
   ·rw [bh (by simp [hk])]
    have e1:(a[i]==4)=false:=by simpa using h4
    have e2:((k==(i:Int))&&(a[i] !=4))=true:=by simp [hk,h4]
    rw [e1,e2,bf,aQ (by simp),cD (by simp;omega),bf,List.take_append_getElem hlt,KR hl hal tl (i+1) (by omega),nN]
  ·rw [aQ (by simpa using hk)]
   simp [hk]
def qV(n:aa):Bool:=(pd n).getD false
def AY(n:aa):pd n=some (qV n):=by
 unfold qV pd pc
 simp only [pe,bf]
 repeat' split
 all_goals rfl
def U8{n:aa}(h:n.Op=9):qV n=Cf {n with Op:=1}:=by
 unfold qV pd
 rw [bh (by simp [h]),pe];rfl
def Ou{n:aa}(h:n.Op=10\/n.Op=11):qV n=Cf {n with Op:=4}:=by
 unfold qV pd pc
 rcases h with h|h
 ·rw [aQ (by simp [h]),bh (by simp [h]),bh (by simp [h]),pe];rfl
 ·rw [aQ (by simp [h]),aQ (by simp [h]),bh (by simp [h]),pe];rfl
def Ov{n:aa}(h:F9 n.Op=true):qV n=Cf n:=by
 unfold qV pd pc
 have:=nA h
 rw [aQ (by simp;omega),aQ (by simp;omega),aQ (by simp;omega),pe];rfl
def Fx{n:aa}(hs:je n)(h:0<=prt n.Op):rt n=some (qV n):=by
 have hk:=hs.keys
 have K:=hs.aggs
 have e:(IntKind.i64.wrap ((n.Keys.length:Int)+(n.Aggs.length:Int))==0)=(n.Keys.isEmpty&&n.Aggs.isEmpty):=by
  rw [eM (by omega) (by omega),<-Yq,<-Yq,xp]
  simp only [ly,oY]
  omega
 unfold rt
 rw [e]
 clear e hk K hs
 obtain⟨op,A,B,w3,kinds,left,cond,keys,aggs,items,order,limit⟩:=n
 have hop:op=1\/op=2\/op=3\/op=4\/op=5\/op=6\/op=7\/op=8\/op=9\/op=10\/op=11:=by
  unfold prt at h
  simp only at h
  split at h
  ·omega
  ·split at h
   ·omega
   ·split at h<;>omega
 congr 1
 rcases hop with rfl|rfl|rfl|rfl|rfl|rfl|rfl|rfl|rfl|rfl|rfl<;>simp only [qV,pd,pc,pf,Yq,Yp]<;>simp<;>(try (by_cases t:w3=0<;>simp [t]))<;>(try (by_cases lm:limit=0<;>simp [lm]))<;>(try (cases left<;>simp))<;>(try (by_cases e1:kinds=[]<;>simp [e1]))<;>(try (by_cases e2:cond.Nodes=[]<;>simp [e2]))<;>(try (by_cases e3:keys=[]<;>simp [e3]))<;>(try (by_cases e4:aggs=[]<;>simp [e4]))<;>(try (by_cases e5:items=[]<;>simp [e5]))<;>(try (by_cases e6:order=[]<;>simp [e6]))
end Go.Proofs.YtdohlidddcgfjaaGreat

