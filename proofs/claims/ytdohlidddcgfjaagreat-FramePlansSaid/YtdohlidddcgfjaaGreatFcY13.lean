/- cE of this claim: Y13. -/
import Derived.Test.YtdohlidddcgfjaaGreatFcY12
set_option linter.all false
namespace Go.Proofs.YtdohlidddcgfjaaGreat
open Go

def Kg(n:tV): ∀(l:List Int) (ok:Bool),ny n l ok=some (n.Kinds,ok&&l.all fun k=>decide (0<=k)&&decide (k<=4))
 |[],ok=>by unfold ny;simp
 |x::l,ok=>by unfold ny;rw [Kg n l];simp [xJ]
def Io(n:tV):Bool:=((((decide ((0:Int)<=n.Table))&&(decide (n.Table<(30:Int))))&&(decide ((1:Int)<=(n.Kinds.length:Int))))&&(decide ((n.Kinds.length:Int)<=(16:Int))))&&n.Kinds.all fun k=>decide (0<=k)&&decide (k<=4)
def Pk(n:tV):vc n=some (n.Kinds,Io n):=by
 unfold vc
 rw [Kg]
 rfl
def ES(l:aq):iH l=some (Io l.n,{l with result:=l.n.Kinds}):=by
 unfold iH
 rw [lj (f:=ph) (g:=fun k=>(decide (k<(0:Int)))||(decide ((4:Int)<k))) (fun _=>rfl),bG]
 have e3:(!(l.n.Kinds.any fun k=>(decide (k<(0:Int)))||(decide ((4:Int)<k))))=l.n.Kinds.all fun k=>decide (0<=k)&&decide (k<=4):=by
  rw [List.not_any_eq_all_not]
  congr 1
  funext k
  rw [AJ]
  simp
 show some ((((((!(l.n.Kinds.any fun k=>(decide (k<(0:Int)))||(decide ((4:Int)<k))))&&(decide ((0:Int)<=l.n.Table)))&&(decide (l.n.Table<(30:Int))))&&(decide ((0:Int)<(l.n.Kinds.length:Int))))&&(decide ((l.n.Kinds.length:Int)<=(16:Int)))),({l with result:=l.n.Kinds}:aq))=_
 rw [e3]
 unfold Io
 have e2:decide ((0:Int)<(l.n.Kinds.length:Int))=decide ((1:Int)<=(l.n.Kinds.length:Int)):=by rw [Gg];omega
 rw [e2]
 congr 2
 cases (l.n.Kinds.all fun k=>decide (0<=k)&&decide (k<=4))<;>simp
def Rs{n:tV}(h:Io n=true):Kd n.Kinds:=by
 unfold Io at h
 simp only [pt,mo,mp]at h
 exact⟨by omega,by omega,fun x V=>h.2 x V⟩
def Cf{l:aq}{n:tV}(hK:n.Keys=l.n.Keys)(hk:l.n.Keys.length<=5000): ∀(gs:List fU) (i:Nat) (R:List Int),R.length=l.n.Keys.length+(i+gs.length)->R.length<=20000->
  ∃R',gc gs i {l with result:=R}=some (true,{l with result:=R' })/\lD n gs i R=some R' /\R'.length=R.length/\ ∀x∈R',x∈R\/x=4
 |[],i,R,_,_=>⟨R,rfl,rfl,rfl,fun x V=> .inl V⟩
 |g::tl,i,R,hR,H=>by
  simp only [iG]at hR
  unfold gc lD
  by_cases h3:g.Tag=3
  ·rw [bJ (by simp [h3]),bJ (by simp [h3]),hK]
   show∃R',(gB R (IntKind.i64.wrap ((l.n.Keys.length:Int)+(i:Int)))).bind _=_/\_
   rw [yK (by omega),eu,lI (by omega),bG,bG]
   simp only [bG]
   obtain⟨R',X,K,h3,h4⟩:=Cf (l:=l) (n:=n) hK hk tl (i+1) (R.set ((l.n.Keys.length+i:Nat):Int).toNat 4) (by rw [Dd];omega) (by rw [Dd];omega)
   refine⟨R',X,K,by rw [h3,Dd],fun x V=>?_⟩
   rcases h4 x V with h|h
   ·exact List.mem_or_eq_of_mem_set h
   ·exact .inr h
  ·rw [bk (by simpa using h3),bk (by simpa using h3)]
   exact Cf hK hk tl (i+1) R (by omega) H
def fk(g:fU)(k:Int):Int×Bool:=
 if g.Tag=1\/g.Tag=2 then(k,((g.Arg.Nodes.length:Int)==0)&&k==2)else if g.Tag=3 then(2,((g.Arg.Nodes.length:Int)==0)&&k==4)else if g.Tag=4\/g.Tag=5 then(k,((g.Arg.Nodes.length:Int)==0)&&k !=4)else(k,false)
def EY{l:aq}(hk:l.n.Keys.length<=5000): ∀(gs:List fU) (i:Nat) (ok:Bool) (pre suf:List Int),pre.length=l.n.Keys.length+i->suf.length=gs.length->l.a_.drop (l.n.Keys.length+i)=suf->pre.length+suf.length<=20000->
  cz l gs i ok {l with result:=pre++suf}=some (ok&&(gs.zip suf).all (fun p=>(fk p.1 p.2).2),{l with result:=pre++List.zipWith (fun g k=>(fk g k).1) gs suf})
 |[],i,ok,pre,suf,X,K,h3,h4=>by
  have:suf=[]:=tH K
  subst this
  unfold cz;simp
 |g::tl,i,ok,pre,[],X,K,h3,h4=>by simp at K
 |g::tl,i,ok,pre,x::suf,X,K,h3,h4=>by
  simp only [iG,MP]at K h4
  obtain⟨g1,g2,g3⟩:=jb h3
  -- the end of a round
  have fin: ∀(ok2:Bool) (y:Int),ok2=(ok&&(fk g x).2)->y=(fk g x).1->cz l tl (i+1) ok2 {l with result:=pre++y::suf}=some (ok&&((g::tl).zip (x::suf)).all (fun p=>(fk p.1 p.2).2),{l with result:=pre++List.zipWith (fun g k=>(fk g k).1) (g::tl) (x::suf)}):=by
   intro ok2 y e1 e2
   rw [show pre++y::suf=(pre++[y])++suf from by simp,EY hk tl (i+1) ok2 (pre++[y]) suf (by simp;omega) K (by rw [<-g3];congr 1) (by simp;omega),e1,e2]
   simp [xJ]
  have key: ∀b:Bool,b=(g.Tag==1||g.Tag==2)->gj l (cz l tl) i g ok {l with result:=pre++x::suf} x b=some (ok&&((g::tl).zip (x::suf)).all (fun p=>(fk p.1 p.2).2),{l with result:=pre++List.zipWith (fun g k=>(fk g k).1) (g::tl) (x::suf)}):=by
   intro b H
   unfold gj
   by_cases h12:g.Tag=1\/g.Tag=2
   ·rw [bJ (by rw [H];simpa using h12)]
    exact fin _ x (by unfold fk;rw [bJ h12,xJ]) (by unfold fk;rw [bJ h12])
   ·rw [bk (by rw [H];simpa using h12)]
    by_cases h3:g.Tag=3
    ·rw [bJ (by simp [h3])]
     show((gB (pre++x::suf) (IntKind.i64.wrap ((l.n.Keys.length:Int)+(i:Int)))).bind _)=_
     rw [yK (by omega),eu,<-X,xC (eJ _),xo]
     simp only [Gl,bG]
     have e3:(pre++x::suf).set ((pre.length:Int)).toNat 2=pre++2::suf:=by
      rw [xM,List.set_append_right _ _ (eJ _),xo];rfl
     rw [e3]
     exact fin _ 2 (by unfold fk;rw [bk h12,bJ h3,xJ]) (by unfold fk;rw [bk h12,bJ h3])
    ·rw [bk (by simpa using h3)]
     unfold iN
     by_cases h4:g.Tag=4
     ·rw [bJ (by simp [h4]),bJ (by simp [h4])]
      exact fin _ x (by unfold fk;rw [bk h12,bk h3,bJ (.inl h4),xJ]) (by unfold fk;rw [bk h12,bk h3,bJ (.inl h4)])
     rw [bk (by simpa using h4)]
     by_cases h5:g.Tag=5
     ·rw [bJ (by simp [h5])]
      exact fin _ x (by unfold fk;rw [bk h12,bk h3,bJ (.inr h5),xJ]) (by unfold fk;rw [bk h12,bk h3,bJ (.inr h5)])
     rw [bk (by simpa using h5)]
     have h45: ¬(g.Tag=4\/g.Tag=5):=by omega
     exact fin _ x (by unfold fk;rw [bk h12,bk h3,bk h45,Bool.and_false]) (by unfold fk;rw [bk h12,bk h3,bk h45])
  unfold cz
  show((gB l.a_ (IntKind.i64.wrap ((l.n.Keys.length:Int)+(i:Int)))).bind _)=_
  rw [yK (by omega),g1,bG]
  by_cases D:g.Tag=1
  ·rw [bJ (by simp [D])]
   exact key _ (by simp [D])
  ·rw [bk (by simpa using D)]
   exact key _ (by simp [D])
def Nw{n:tV}{a:List Int}(hk:n.Keys.length<=5000): ∀(gs:List fU) (i:Nat) (pre suf:List Int),suf.length=gs.length->a.drop (n.Keys.length+i)=suf->pre.length+suf.length<=20000->i+gs.length<=20000->
  fQ n a gs i pre=some (if(gs.zip suf).all (fun p=>(fk p.1 p.2).2)then(pre++List.zipWith (fun g k=>(fk g k).1) gs suf,true)else([],false))
 |[],i,pre,suf,K,h3,h4,h5=>by
  have:suf=[]:=tH K
  subst this
  unfold fQ;simp
 |g::tl,i,pre,[],K,h3,h4,h5=>by simp at K
 |g::tl,i,pre,x::suf,K,h3,h4,h5=>by
  simp only [iG,MP]at K h4 h5
  obtain⟨g1,g2,g3⟩:=jb h3
  have fin: ∀y:Int,(fk g x).2=true->y=(fk g x).1->((app pre [y]).bind fun o=>fQ n a tl (i+1) o)=some (if((g::tl).zip (x::suf)).all (fun p=>(fk p.1 p.2).2)then(pre++List.zipWith (fun g k=>(fk g k).1) (g::tl) (x::suf),true)else([],false)):=by
   intro y e1 e2
   rw [cd (by simp;omega),bG,Nw hk tl (i+1) (pre++[y]) suf K (by rw [<-g3];congr 1) (by simp;omega) (by omega)]
   simp only [List.zip_cons_cons,zB,e1,oX,List.zipWith_cons_cons,e2,pe,FJ,oY]
  have bad:(fk g x).2=false->some (([]:List Int),false)=some (if((g::tl).zip (x::suf)).all (fun p=>(fk p.1 p.2).2)then(pre++List.zipWith (fun g k=>(fk g k).1) (g::tl) (x::suf),true)else([],false)):=by
   intro e1
   simp [e1]
  unfold fQ
  rw [yK (by omega),g1,bG]
  by_cases hA:g.Arg.Nodes.length=0
  ·rw [bk (by simp [hA])]
   have hA' :((g.Arg.Nodes.length:Int)==0)=true:=by simp [hA]
   have key: ∀b:Bool,b=(g.Tag==1||g.Tag==2)->pG (fQ n a tl) i g pre x b=some (if((g::tl).zip (x::suf)).all (fun p=>(fk p.1 p.2).2)then(pre++List.zipWith (fun g k=>(fk g k).1) (g::tl) (x::suf),true)else([],false)):=by
    intro b H
    unfold pG
    by_cases h12:g.Tag=1\/g.Tag=2
    ·rw [bJ (by rw [H];simpa using h12)]
     have e:fk g x=(x,x==2):=by unfold fk;rw [bJ h12,hA',oX]
     by_cases V:x=2
     ·rw [bk (by simp [V])]
      exact fin x (by rw [e];simp [V]) (by rw [e])
     ·rw [bJ (by simpa using V)]
      exact bad (by rw [e];simpa using V)
    ·rw [bk (by rw [H];simpa using h12)]
     by_cases h3:g.Tag=3
     ·rw [bJ (by simp [h3])]
      have e:fk g x=(2,x==4):=by unfold fk;rw [bk h12,bJ h3,hA',oX]
      by_cases V:x=4
      ·rw [bk (by simp [V])]
       exact fin 2 (by rw [e];simp [V]) (by rw [e])
      ·rw [bJ (by simpa using V)]
       exact bad (by rw [e];simpa using V)
     ·rw [bk (by simpa using h3)]
      have k2: ∀c:Bool,c=(g.Tag==4||g.Tag==5)->pF (fQ n a tl) i pre x c=some (if((g::tl).zip (x::suf)).all (fun p=>(fk p.1 p.2).2)then(pre++List.zipWith (fun g k=>(fk g k).1) (g::tl) (x::suf),true)else([],false)):=by
       intro c hc
       unfold pF
       by_cases h45:g.Tag=4\/g.Tag=5
       ·rw [bJ (by rw [hc];simpa using h45)]
        have e:fk g x=(x,x !=4):=by unfold fk;rw [bk h12,bk h3,bJ h45,hA',oX]
        by_cases V:x=4
        ·rw [bJ (by simp [V])]
         exact bad (by rw [e];simp [V])
        ·rw [bk (by simpa using V)]
         exact fin x (by rw [e];simpa using V) (by rw [e])
       ·rw [bk (by rw [hc];simpa using h45)]
        exact bad (by unfold fk;rw [bk h12,bk h3,bk h45])
      by_cases h4:g.Tag=4
      ·rw [bJ (by simp [h4])];exact k2 _ (by simp [h4])
      ·rw [bk (by simpa using h4)];exact k2 _ (by simp [h4])
   by_cases D:g.Tag=1
   ·rw [bJ (by simp [D])]
    exact key _ (by simp [D])
   ·rw [bk (by simpa using D)]
    exact key _ (by simp [D])
  ·rw [bJ (by simp;omega)]
   refine bad ?_
   have hA' :((g.Arg.Nodes.length:Int)==0)=false:=by rw [beq_eq_false_iff_ne];omega
   unfold fk
   repeat' split
   all_goals simp [hA']
def xE(a:List Int):List Int->Nat->Bool
 |[],_=>true
 |k::tl,i=>((k==(i:Int))&&((a[i]?).getD 4 !=4))&&xE a tl (i+1)
def Cj{l:aq}(hl:l.n.Keys.length<=l.a_.length)(r:List Int): ∀(ks:List Int) (i:Nat) (ok:Bool),i+ks.length=l.n.Keys.length->eP l r ks i ok=cz l l.n.Aggs 0 (ok&&xE l.a_ ks i) {l with result:=r}
 |[],i,ok,_=>by unfold eP xE;simp
 |k::tl,i,ok,hi=>by
  simp only [iG]at hi
  have hlt:i<l.a_.length:=by omega
  unfold eP
  have:(if(ok&&(k==(i:Int)))then((gB l.a_ (i:Int)).bind fun e5=>some (e5 !=(4:Int)))else some false)=some (ok&&((k==(i:Int))&&((l.a_[i]?).getD 4 !=4))):=by
   rw [eu,lI hlt]
   cases ok<;>cases (k==(i:Int))<;>rfl
  rw [this,bG,Cj hl r tl (i+1) _ (by omega)]
  congr 1
  show _=(ok&&(((k==(i:Int))&&((l.a_[i]?).getD 4 !=4))&&xE l.a_ tl (i+1)))
  rw [xJ]
def Kc{n:tV}{a:List Int}(hl:n.Keys.length<=a.length)(hal:a.length<=1000): ∀(ks:List Int) (i:Nat),i+ks.length=n.Keys.length->nz n a ks i (a.take i)=if xE a ks i then fQ n a n.Aggs 0 (a.take n.Keys.length)else some ([],false)
 |[],i,hi=>by
  unfold nz xE
  have:i=n.Keys.length:=by simpa using hi
  rw [this];simp
 |k::tl,i,hi=>by
  simp only [iG]at hi
  have hlt:i<a.length:=by omega
  unfold nz
  have e0:((a[i]?).getD 4)=a[i]:=by rw [lI hlt];rfl
  have hkb:xE a (k::tl) i=(((k==(i:Int))&&((a[i]?).getD 4 !=4))&&xE a tl (i+1)):=rfl
  rw [hkb,e0,eu,lI hlt]
  simp only [bG]
  by_cases hk:k=(i:Int)
  ·by_cases h4:a[i]=4
   ·rw [bJ (by simp [hk])]
    simp [h4]
   ·rw [bJ (by simp [hk])]
    have e1:(a[i]==4)=false:=by simpa using h4
    have e2:((k==(i:Int))&&(a[i] !=4))=true:=by simp [hk,h4]
    rw [e1,e2,bG,bk (by simp),cd (by simp;omega),bG,List.take_append_getElem hlt,Kc hl hal tl (i+1) (by omega),oX]
  ·rw [bk (by simpa using hk)]
   simp [hk]
def rP(n:tV):Bool:=(oH n).getD false
def A7(n:tV):oH n=some (rP n):=by
 unfold rP oH n7
 simp only [qh,bG]
 repeat' split
 all_goals rfl
def TA{n:tV}(h:n.Op=9):rP n=Cg {n with Op:=1}:=by
 unfold rP oH
 rw [bJ (by simp [h]),qh];rfl
def Nc{n:tV}(h:n.Op=10\/n.Op=11):rP n=Cg {n with Op:=4}:=by
 unfold rP oH n7
 rcases h with h|h
 ·rw [bk (by simp [h]),bJ (by simp [h]),bJ (by simp [h]),qh];rfl
 ·rw [bk (by simp [h]),bk (by simp [h]),bJ (by simp [h]),qh];rfl
def Nf{n:tV}(h:F0 n.Op=true):rP n=Cg n:=by
 unfold rP oH n7
 have:=oP h
 rw [bk (by simp;omega),bk (by simp;omega),bk (by simp;omega),qh];rfl
def Fm{n:tV}(hs:jJ n)(h:0<=prt n.Op):sE n=some (rP n):=by
 have hk:=hs.keys
 have Y:=hs.aggs
 have e:(IntKind.i64.wrap ((n.Keys.length:Int)+(n.Aggs.length:Int))==0)=(n.Keys.isEmpty&&n.Aggs.isEmpty):=by
  rw [fg (by omega) (by omega),<-WW,<-WW,AJ]
  simp only [pt,vC]
  omega
 unfold sE
 rw [e]
 clear e hk Y hs
 obtain⟨op,A,B,D7,kinds,left,cond,keys,aggs,items,order,limit⟩:=n
 have hop:op=1\/op=2\/op=3\/op=4\/op=5\/op=6\/op=7\/op=8\/op=9\/op=10\/op=11:=by
  unfold prt at h
  simp only at h
  split at h
  ·omega
  ·split at h
   ·omega
   ·split at h<;>omega
 congr 1
 rcases hop with rfl|rfl|rfl|rfl|rfl|rfl|rfl|rfl|rfl|rfl|rfl<;>simp only [rP,oH,n7,oJ,WW,WV]<;>simp<;>(try (by_cases t:D7=0<;>simp [t]))<;>(try (by_cases lm:limit=0<;>simp [lm]))<;>(try (cases left<;>simp))<;>(try (by_cases e1:kinds=[]<;>simp [e1]))<;>(try (by_cases e2:cond.Nodes=[]<;>simp [e2]))<;>(try (by_cases e3:keys=[]<;>simp [e3]))<;>(try (by_cases e4:aggs=[]<;>simp [e4]))<;>(try (by_cases e5:items=[]<;>simp [e5]))<;>(try (by_cases e6:order=[]<;>simp [e6]))
end Go.Proofs.YtdohlidddcgfjaaGreat

