/- bR of this claim: Y13. -/
import Derived.Test.YtdohlidddcgfjaaGreatFbY12
set_option linter.all false
namespace Go.Proofs.YtdohlidddcgfjaaGreat
open Go

def Gp(n:aa): ∀(l:List Int) (ok:Bool),mK n l ok=some (n.Kinds,ok&&l.all fun k=>decide (0<=k)&&decide (k<=4))
 |[],ok=>by unfold mK;simp
 |x::l,ok=>by unfold mK;rw [Gp n l];simp [uy]
def Gq(n:aa):Bool:=((((decide ((0:Int)<=n.Table))&&(decide (n.Table<(30:Int))))&&(decide ((1:Int)<=(n.Kinds.length:Int))))&&(decide ((n.Kinds.length:Int)<=(16:Int))))&&n.Kinds.all fun k=>decide (0<=k)&&decide (k<=4)
def Lh(n:aa):uM n=some (n.Kinds,Gq n):=by
 unfold uM
 rw [Gp]
 rfl
def Ip(l:ai):gW l=some (Gq l.n,{l with result:=l.n.Kinds}):=by
 unfold gW
 rw [jh (f:=mp) (g:=fun k=>(decide (k<(0:Int)))||(decide ((4:Int)<k))) (fun _=>rfl),br]
 have e3:(!(l.n.Kinds.any fun k=>(decide (k<(0:Int)))||(decide ((4:Int)<k))))=l.n.Kinds.all fun k=>decide (0<=k)&&decide (k<=4):=by
  rw [List.not_any_eq_all_not]
  congr 1
  funext k
  rw [Cl]
  simp
 show some ((((((!(l.n.Kinds.any fun k=>(decide (k<(0:Int)))||(decide ((4:Int)<k))))&&(decide ((0:Int)<=l.n.Table)))&&(decide (l.n.Table<(30:Int))))&&(decide ((0:Int)<(l.n.Kinds.length:Int))))&&(decide ((l.n.Kinds.length:Int)<=(16:Int)))),({l with result:=l.n.Kinds}:ai))=_
 rw [e3]
 unfold Gq
 have e2:decide ((0:Int)<(l.n.Kinds.length:Int))=decide ((1:Int)<=(l.n.Kinds.length:Int)):=by rw [Ff];omega
 rw [e2]
 congr 2
 cases (l.n.Kinds.all fun k=>decide (0<=k)&&decide (k<=4))<;>simp
def MT{n:aa}(h:Gq n=true):Kd n.Kinds:=by
 unfold Gq at h
 simp only [iO,me,o9]at h
 exact⟨by omega,by omega,fun x V=>h.2 x V⟩
def yY{l:ai}{n:aa}(hK:n.Keys=l.n.Keys)(hk:l.n.Keys.length<=5000): ∀(gs:List fj) (i:Nat) (R:List Int),R.length=l.n.Keys.length+(i+gs.length)->R.length<=20000->
  ∃R',eg gs i {l with result:=R}=some (true,{l with result:=R' })/\k5 n gs i R=some R' /\R'.length=R.length/\ ∀x∈R',x∈R\/x=4
 |[],i,R,_,_=>⟨R,rfl,rfl,rfl,fun x V=> .inl V⟩
 |g::tl,i,R,hR,W=>by
  simp only [jj]at hR
  unfold eg k5
  by_cases Q:g.Tag=3
  ·rw [bu (by simp [Q]),bu (by simp [Q]),hK]
   show∃R',(ga R (IntKind.i64.wrap ((l.n.Keys.length:Int)+(i:Int)))).bind _=_/\_
   rw [vq (by omega),eZ,sx (by omega),br,br]
   simp only [br]
   obtain⟨R',Y,H,Q,h4⟩:=yY (l:=l) (n:=n) hK hk tl (i+1) (R.set ((l.n.Keys.length+i:Nat):Int).toNat 4) (by rw [zW];omega) (by rw [zW];omega)
   refine⟨R',Y,H,by rw [Q,zW],fun x V=>?_⟩
   rcases h4 x V with h|h
   ·exact List.mem_or_eq_of_mem_set h
   ·exact .inr h
  ·rw [aZ (by simpa using Q),aZ (by simpa using Q)]
   exact yY hK hk tl (i+1) R (by omega) W
def fk(g:fj)(k:Int):Int×Bool:=
 if g.Tag=1\/g.Tag=2 then(k,((g.Arg.Nodes.length:Int)==0)&&k==2)else if g.Tag=3 then(2,((g.Arg.Nodes.length:Int)==0)&&k==4)else if g.Tag=4\/g.Tag=5 then(k,((g.Arg.Nodes.length:Int)==0)&&k !=4)else(k,false)
def GF{l:ai}(hk:l.n.Keys.length<=5000): ∀(gs:List fj) (i:Nat) (ok:Bool) (pre suf:List Int),pre.length=l.n.Keys.length+i->suf.length=gs.length->l.a_.drop (l.n.Keys.length+i)=suf->pre.length+suf.length<=20000->
  bN l gs i ok {l with result:=pre++suf}=some (ok&&(gs.zip suf).all (fun p=>(fk p.1 p.2).2),{l with result:=pre++List.zipWith (fun g k=>(fk g k).1) gs suf})
 |[],i,ok,pre,suf,Y,H,Q,h4=>by
  have:suf=[]:=sd H
  subst this
  unfold bN;simp
 |g::tl,i,ok,pre,[],Y,H,Q,h4=>by simp at H
 |g::tl,i,ok,pre,x::suf,Y,H,Q,h4=>by
  simp only [jj,Je]at H h4
  obtain⟨g1,g2,g3⟩:=nL Q
  -- the end of a round
  have fin: ∀(ok2:Bool) (y:Int),ok2=(ok&&(fk g x).2)->y=(fk g x).1->bN l tl (i+1) ok2 {l with result:=pre++y::suf}=some (ok&&((g::tl).zip (x::suf)).all (fun p=>(fk p.1 p.2).2),{l with result:=pre++List.zipWith (fun g k=>(fk g k).1) (g::tl) (x::suf)}):=by
   intro ok2 y e1 e2
   rw [show pre++y::suf=(pre++[y])++suf from by simp,GF hk tl (i+1) ok2 (pre++[y]) suf (by simp;omega) H (by rw [<-g3];congr 1) (by simp;omega),e1,e2]
   simp [uy]
  have key: ∀b:Bool,b=(g.Tag==1||g.Tag==2)->ek l (bN l tl) i g ok {l with result:=pre++x::suf} x b=some (ok&&((g::tl).zip (x::suf)).all (fun p=>(fk p.1 p.2).2),{l with result:=pre++List.zipWith (fun g k=>(fk g k).1) (g::tl) (x::suf)}):=by
   intro b W
   unfold ek
   by_cases h12:g.Tag=1\/g.Tag=2
   ·rw [bu (by rw [W];simpa using h12)]
    exact fin _ x (by unfold fk;rw [bu h12,uy]) (by unfold fk;rw [bu h12])
   ·rw [aZ (by rw [W];simpa using h12)]
    by_cases Q:g.Tag=3
    ·rw [bu (by simp [Q])]
     show((ga (pre++x::suf) (IntKind.i64.wrap ((l.n.Keys.length:Int)+(i:Int)))).bind _)=_
     rw [vq (by omega),eZ,<-Y,uo (jW _),uc]
     simp only [CV,br]
     have e3:(pre++x::suf).set ((pre.length:Int)).toNat 2=pre++2::suf:=by
      rw [yJ,List.set_append_right _ _ (jW _),uc];rfl
     rw [e3]
     exact fin _ 2 (by unfold fk;rw [aZ h12,bu Q,uy]) (by unfold fk;rw [aZ h12,bu Q])
    ·rw [aZ (by simpa using Q)]
     unfold f7
     by_cases h4:g.Tag=4
     ·rw [bu (by simp [h4]),bu (by simp [h4])]
      exact fin _ x (by unfold fk;rw [aZ h12,aZ Q,bu (.inl h4),uy]) (by unfold fk;rw [aZ h12,aZ Q,bu (.inl h4)])
     rw [aZ (by simpa using h4)]
     by_cases h5:g.Tag=5
     ·rw [bu (by simp [h5])]
      exact fin _ x (by unfold fk;rw [aZ h12,aZ Q,bu (.inr h5),uy]) (by unfold fk;rw [aZ h12,aZ Q,bu (.inr h5)])
     rw [aZ (by simpa using h5)]
     have h45: ¬(g.Tag=4\/g.Tag=5):=by omega
     exact fin _ x (by unfold fk;rw [aZ h12,aZ Q,aZ h45,Bool.and_false]) (by unfold fk;rw [aZ h12,aZ Q,aZ h45])
  unfold bN
  show((ga l.a_ (IntKind.i64.wrap ((l.n.Keys.length:Int)+(i:Int)))).bind _)=_
  rw [vq (by omega),g1,br]
  by_cases D:g.Tag=1
  ·rw [bu (by simp [D])]
   exact key _ (by simp [D])
  ·rw [aZ (by simpa using D)]
   exact key _ (by simp [D])
def JN{n:aa}{a:List Int}(hk:n.Keys.length<=5000): ∀(gs:List fj) (i:Nat) (pre suf:List Int),suf.length=gs.length->a.drop (n.Keys.length+i)=suf->pre.length+suf.length<=20000->i+gs.length<=20000->
  fT n a gs i pre=some (if(gs.zip suf).all (fun p=>(fk p.1 p.2).2)then(pre++List.zipWith (fun g k=>(fk g k).1) gs suf,true)else([],false))
 |[],i,pre,suf,H,Q,h4,h5=>by
  have:suf=[]:=sd H
  subst this
  unfold fT;simp
 |g::tl,i,pre,[],H,Q,h4,h5=>by simp at H
 |g::tl,i,pre,x::suf,H,Q,h4,h5=>by
  simp only [jj,Je]at H h4 h5
  obtain⟨g1,g2,g3⟩:=nL Q
  have fin: ∀y:Int,(fk g x).2=true->y=(fk g x).1->((jb pre [y]).bind fun o=>fT n a tl (i+1) o)=some (if((g::tl).zip (x::suf)).all (fun p=>(fk p.1 p.2).2)then(pre++List.zipWith (fun g k=>(fk g k).1) (g::tl) (x::suf),true)else([],false)):=by
   intro y e1 e2
   rw [cy (by simp;omega),br,JN hk tl (i+1) (pre++[y]) suf H (by rw [<-g3];congr 1) (by simp;omega) (by omega)]
   simp only [List.zip_cons_cons,zw,e1,mA,List.zipWith_cons_cons,e2,oB,Ax,mz]
  have bad:(fk g x).2=false->some (([]:List Int),false)=some (if((g::tl).zip (x::suf)).all (fun p=>(fk p.1 p.2).2)then(pre++List.zipWith (fun g k=>(fk g k).1) (g::tl) (x::suf),true)else([],false)):=by
   intro e1
   simp [e1]
  unfold fT
  rw [vq (by omega),g1,br]
  by_cases hA:g.Arg.Nodes.length=0
  ·rw [aZ (by simp [hA])]
   have hA' :((g.Arg.Nodes.length:Int)==0)=true:=by simp [hA]
   have key: ∀b:Bool,b=(g.Tag==1||g.Tag==2)->oI (fT n a tl) i g pre x b=some (if((g::tl).zip (x::suf)).all (fun p=>(fk p.1 p.2).2)then(pre++List.zipWith (fun g k=>(fk g k).1) (g::tl) (x::suf),true)else([],false)):=by
    intro b W
    unfold oI
    by_cases h12:g.Tag=1\/g.Tag=2
    ·rw [bu (by rw [W];simpa using h12)]
     have e:fk g x=(x,x==2):=by unfold fk;rw [bu h12,hA',mA]
     by_cases V:x=2
     ·rw [aZ (by simp [V])]
      exact fin x (by rw [e];simp [V]) (by rw [e])
     ·rw [bu (by simpa using V)]
      exact bad (by rw [e];simpa using V)
    ·rw [aZ (by rw [W];simpa using h12)]
     by_cases Q:g.Tag=3
     ·rw [bu (by simp [Q])]
      have e:fk g x=(2,x==4):=by unfold fk;rw [aZ h12,bu Q,hA',mA]
      by_cases V:x=4
      ·rw [aZ (by simp [V])]
       exact fin 2 (by rw [e];simp [V]) (by rw [e])
      ·rw [bu (by simpa using V)]
       exact bad (by rw [e];simpa using V)
     ·rw [aZ (by simpa using Q)]
      have k2: ∀c:Bool,c=(g.Tag==4||g.Tag==5)->oH (fT n a tl) i pre x c=some (if((g::tl).zip (x::suf)).all (fun p=>(fk p.1 p.2).2)then(pre++List.zipWith (fun g k=>(fk g k).1) (g::tl) (x::suf),true)else([],false)):=by
       intro c hc
       unfold oH
       by_cases h45:g.Tag=4\/g.Tag=5
       ·rw [bu (by rw [hc];simpa using h45)]
        have e:fk g x=(x,x !=4):=by unfold fk;rw [aZ h12,aZ Q,bu h45,hA',mA]
        by_cases V:x=4
        ·rw [bu (by simp [V])]
         exact bad (by rw [e];simp [V])
        ·rw [aZ (by simpa using V)]
         exact fin x (by rw [e];simpa using V) (by rw [e])
       ·rw [aZ (by rw [hc];simpa using h45)]
        exact bad (by unfold fk;rw [aZ h12,aZ Q,aZ h45])
      by_cases h4:g.Tag=4
      ·rw [bu (by simp [h4])];exact k2 _ (by simp [h4])
      ·rw [aZ (by simpa using h4)];exact k2 _ (by simp [h4])
   by_cases D:g.Tag=1
   ·rw [bu (by simp [D])]
    exact key _ (by simp [D])
   ·rw [aZ (by simpa using D)]
    exact key _ (by simp [D])
  ·rw [bu (by simp;omega)]
   refine bad ?_
   have hA' :((g.Arg.Nodes.length:Int)==0)=false:=by rw [beq_eq_false_iff_ne];omega
   unfold fk
   repeat' split
   all_goals simp [hA']
def wZ(a:List Int):List Int->Nat->Bool
 |[],_=>true
 |k::tl,i=>((k==(i:Int))&&((a[i]?).getD 4 !=4))&&wZ a tl (i+1)
def DC{l:ai}(hl:l.n.Keys.length<=l.a_.length)(r:List Int): ∀(ks:List Int) (i:Nat) (ok:Bool),i+ks.length=l.n.Keys.length->du l r ks i ok=bN l l.n.Aggs 0 (ok&&wZ l.a_ ks i) {l with result:=r}
 |[],i,ok,_=>by unfold du wZ;simp
 |k::tl,i,ok,hi=>by
  simp only [jj]at hi
  have hlt:i<l.a_.length:=by omega
  unfold du
  have:(if(ok&&(k==(i:Int)))then((ga l.a_ (i:Int)).bind fun e5=>some (e5 !=(4:Int)))else some false)=some (ok&&((k==(i:Int))&&((l.a_[i]?).getD 4 !=4))):=by
   rw [eZ,sx hlt]
   cases ok<;>cases (k==(i:Int))<;>rfl
  rw [this,br,DC hl r tl (i+1) _ (by omega)]
  congr 1
  show _=(ok&&(((k==(i:Int))&&((l.a_[i]?).getD 4 !=4))&&wZ l.a_ tl (i+1)))
  rw [uy]
def Gl{n:aa}{a:List Int}(hl:n.Keys.length<=a.length)(hal:a.length<=1000): ∀(ks:List Int) (i:Nat),i+ks.length=n.Keys.length->mL n a ks i (a.take i)=if wZ a ks i then fT n a n.Aggs 0 (a.take n.Keys.length)else some ([],false)
 |[],i,hi=>by
  unfold mL wZ
  have:i=n.Keys.length:=by simpa using hi
  rw [this];simp
 |k::tl,i,hi=>by
  simp only [jj]at hi
  have hlt:i<a.length:=by omega
  unfold mL
  have e0:((a[i]?).getD 4)=a[i]:=by rw [sx hlt];rfl
  have hkb:wZ a (k::tl) i=(((k==(i:Int))&&((a[i]?).getD 4 !=4))&&wZ a tl (i+1)):=rfl
  rw [hkb,e0,eZ,sx hlt]
  simp only [br]
  by_cases hk:k=(i:Int)
  ·by_cases h4:a[i]=4
   ·rw [bu (by simp [hk])]
    simp [h4]
   ·rw [bu (by simp [hk])]
    have e1:(a[i]==4)=false:=by simpa using h4
    have e2:((k==(i:Int))&&(a[i] !=4))=true:=by simp [hk,h4]
    rw [e1,e2,br,aZ (by simp),cy (by simp;omega),br,List.take_append_getElem hlt,Gl hl hal tl (i+1) (by omega),mA]
  ·rw [aZ (by simpa using hk)]
   simp [hk]
def sP(n:aa):Bool:=(n7 n).getD false
def xH(n:aa):n7 n=some (sP n):=by
 unfold sP n7 m5
 simp only [oM,br]
 repeat' split
 all_goals rfl
def OB{n:aa}(h:n.Op=10\/n.Op=11):sP n=CD {n with Op:=4}:=by
 unfold sP n7 m5
 rcases h with h|h
 ·rw [aZ (by simp [h]),bu (by simp [h]),bu (by simp [h]),oM];rfl
 ·rw [aZ (by simp [h]),aZ (by simp [h]),bu (by simp [h]),oM];rfl
def OC{n:aa}(h:Du n.Op=true):sP n=CD n:=by
 unfold sP n7 m5
 have:=ph h
 rw [aZ (by simp;omega),aZ (by simp;omega),aZ (by simp;omega),oM];rfl
def B1{n:aa}(hs:iN n)(h:0<=lw n.Op):pg n=some (sP n):=by
 have hk:=hs.keys
 have X:=hs.aggs
 have e:(IntKind.i64.wrap ((n.Keys.length:Int)+(n.Aggs.length:Int))==0)=(n.Keys.isEmpty&&n.Aggs.isEmpty):=by
  rw [d7 (by omega) (by omega),<-Rv,<-Rv,Cl]
  simp only [iO,wC]
  omega
 unfold pg
 rw [e]
 clear e hk X hs
 obtain⟨op,A,B,AV,kinds,left,cond,keys,aggs,items,order,limit⟩:=n
 have hop:op=1\/op=2\/op=3\/op=4\/op=5\/op=6\/op=7\/op=8\/op=9\/op=10\/op=11:=by
  unfold lw at h
  simp only at h
  split at h
  ·omega
  ·split at h
   ·omega
   ·split at h<;>omega
 congr 1
 rcases hop with rfl|rfl|rfl|rfl|rfl|rfl|rfl|rfl|rfl|rfl|rfl<;>simp only [sP,n7,m5,n9,Rv,Ru]<;>simp<;>(try (by_cases t:AV=0<;>simp [t]))<;>(try (by_cases lm:limit=0<;>simp [lm]))<;>(try (cases left<;>simp))<;>(try (by_cases e1:kinds=[]<;>simp [e1]))<;>(try (by_cases e2:cond.Nodes=[]<;>simp [e2]))<;>(try (by_cases e3:keys=[]<;>simp [e3]))<;>(try (by_cases e4:aggs=[]<;>simp [e4]))<;>(try (by_cases e5:items=[]<;>simp [e5]))<;>(try (by_cases e6:order=[]<;>simp [e6]))
end Go.Proofs.YtdohlidddcgfjaaGreat

