/- bO of this claim: Y13. -/
import Derived.Test.YtdohlidddcgfjaaGreatFeY12
set_option linter.all false
namespace Go.Proofs.YtdohlidddcgfjaaGreat
open Go

def IB(n:aa): ∀(l:List Int) (ok:Bool),nu n l ok=some (n.Kinds,ok&&l.all fun k=>decide (0<=k)&&decide (k<=4))
 |[],ok=>by unfold nu;simp
 |x::l,ok=>by unfold nu;rw [IB n l];simp [uA]
def IC(n:aa):Bool:=((((decide ((0:Int)<=n.Table))&&(decide (n.Table<(30:Int))))&&(decide ((1:Int)<=(n.Kinds.length:Int))))&&(decide ((n.Kinds.length:Int)<=(16:Int))))&&n.Kinds.all fun k=>decide (0<=k)&&decide (k<=4)
def NU(n:aa):vW n=some (n.Kinds,IC n):=by
 unfold vW
 rw [IB]
 rfl
def Kz(l:al):iB l=some (IC l.n,{l with result:=l.n.Kinds}):=by
 unfold iB
 rw [jR (f:=m6) (g:=fun k=>(decide (k<(0:Int)))||(decide ((4:Int)<k))) (fun _=>rfl),bg]
 have e3:(!(l.n.Kinds.any fun k=>(decide (k<(0:Int)))||(decide ((4:Int)<k))))=l.n.Kinds.all fun k=>decide (0<=k)&&decide (k<=4):=by
  rw [List.not_any_eq_all_not]
  congr 1
  funext k
  rw [vI]
  simp
 show some ((((((!(l.n.Kinds.any fun k=>(decide (k<(0:Int)))||(decide ((4:Int)<k))))&&(decide ((0:Int)<=l.n.Table)))&&(decide (l.n.Table<(30:Int))))&&(decide ((0:Int)<(l.n.Kinds.length:Int))))&&(decide ((l.n.Kinds.length:Int)<=(16:Int)))),({l with result:=l.n.Kinds}:al))=_
 rw [e3]
 unfold IC
 have e2:decide ((0:Int)<(l.n.Kinds.length:Int))=decide ((1:Int)<=(l.n.Kinds.length:Int)):=by rw [Aa];omega
 rw [e2]
 congr 2
 cases (l.n.Kinds.all fun k=>decide (0<=k)&&decide (k<=4))<;>simp
def PL{n:aa}(h:IC n=true):Kd n.Kinds:=by
 unfold IC at h
 simp only [nP,lw,mg]at h
 exact⟨by omega,by omega,fun x X=>h.2 x X⟩
def Aq{l:al}{n:aa}(hK:n.Keys=l.n.Keys)(hk:l.n.Keys.length<=5000): ∀(gs:List fI) (i:Nat) (R:List Int),R.length=l.n.Keys.length+(i+gs.length)->R.length<=20000->
  ∃R',eS gs i {l with result:=R}=some (true,{l with result:=R' })/\lM n gs i R=some R' /\R'.length=R.length/\ ∀x∈R',x∈R\/x=4
 |[],i,R,_,_=>⟨R,rfl,rfl,rfl,fun x X=> .inl X⟩
 |g::tl,i,R,hR,W=>by
  simp only [iR]at hR
  unfold eS lM
  by_cases s:g.Tag=3
  ·rw [bo (by simp [s]),bo (by simp [s]),hK]
   show∃R',(gG R (IntKind.i64.wrap ((l.n.Keys.length:Int)+(i:Int)))).bind _=_/\_
   rw [wK (by omega),eK,sG (by omega),bg,bg]
   simp only [bg]
   obtain⟨R',Y,H,s,h4⟩:=Aq (l:=l) (n:=n) hK hk tl (i+1) (R.set ((l.n.Keys.length+i:Nat):Int).toNat 4) (by rw [Br];omega) (by rw [Br];omega)
   refine⟨R',Y,H,by rw [s,Br],fun x X=>?_⟩
   rcases h4 x X with h|h
   ·exact List.mem_or_eq_of_mem_set h
   ·exact .inr h
  ·rw [aV (by simpa using s),aV (by simpa using s)]
   exact Aq hK hk tl (i+1) R (by omega) W
def fk(g:fI)(k:Int):Int×Bool:=
 if g.Tag=1\/g.Tag=2 then(k,((g.Arg.Nodes.length:Int)==0)&&k==2)else if g.Tag=3 then(2,((g.Arg.Nodes.length:Int)==0)&&k==4)else if g.Tag=4\/g.Tag=5 then(k,((g.Arg.Nodes.length:Int)==0)&&k !=4)else(k,false)
def IU{l:al}(hk:l.n.Keys.length<=5000): ∀(gs:List fI) (i:Nat) (ok:Bool) (pre suf:List Int),pre.length=l.n.Keys.length+i->suf.length=gs.length->l.a_.drop (l.n.Keys.length+i)=suf->pre.length+suf.length<=20000->
  bX l gs i ok {l with result:=pre++suf}=some (ok&&(gs.zip suf).all (fun p=>(fk p.1 p.2).2),{l with result:=pre++List.zipWith (fun g k=>(fk g k).1) gs suf})
 |[],i,ok,pre,suf,Y,H,s,h4=>by
  have:suf=[]:=tA H
  subst this
  unfold bX;simp
 |g::tl,i,ok,pre,[],Y,H,s,h4=>by simp at H
 |g::tl,i,ok,pre,x::suf,Y,H,s,h4=>by
  simp only [iR,Lw]at H h4
  obtain⟨g1,g2,g3⟩:=oQ s
  -- the end of a round
  have fin: ∀(ok2:Bool) (y:Int),ok2=(ok&&(fk g x).2)->y=(fk g x).1->bX l tl (i+1) ok2 {l with result:=pre++y::suf}=some (ok&&((g::tl).zip (x::suf)).all (fun p=>(fk p.1 p.2).2),{l with result:=pre++List.zipWith (fun g k=>(fk g k).1) (g::tl) (x::suf)}):=by
   intro ok2 y e1 e2
   rw [show pre++y::suf=(pre++[y])++suf from by simp,IU hk tl (i+1) ok2 (pre++[y]) suf (by simp;omega) H (by rw [<-g3];congr 1) (by simp;omega),e1,e2]
   simp [uA]
  have key: ∀b:Bool,b=(g.Tag==1||g.Tag==2)->eV l (bX l tl) i g ok {l with result:=pre++x::suf} x b=some (ok&&((g::tl).zip (x::suf)).all (fun p=>(fk p.1 p.2).2),{l with result:=pre++List.zipWith (fun g k=>(fk g k).1) (g::tl) (x::suf)}):=by
   intro b W
   unfold eV
   by_cases h12:g.Tag=1\/g.Tag=2
   ·rw [bo (by rw [W];simpa using h12)]
    exact fin _ x (by unfold fk;rw [bo h12,uA]) (by unfold fk;rw [bo h12])
   ·rw [aV (by rw [W];simpa using h12)]
    by_cases s:g.Tag=3
    ·rw [bo (by simp [s])]
     show((gG (pre++x::suf) (IntKind.i64.wrap ((l.n.Keys.length:Int)+(i:Int)))).bind _)=_
     rw [wK (by omega),eK,<-Y,vz (dY _),vn]
     simp only [EE,bg]
     have e3:(pre++x::suf).set ((pre.length:Int)).toNat 2=pre++2::suf:=by
      rw [Ad,List.set_append_right _ _ (dY _),vn];rfl
     rw [e3]
     exact fin _ 2 (by unfold fk;rw [aV h12,bo s,uA]) (by unfold fk;rw [aV h12,bo s])
    ·rw [aV (by simpa using s)]
     unfold gJ
     by_cases h4:g.Tag=4
     ·rw [bo (by simp [h4]),bo (by simp [h4])]
      exact fin _ x (by unfold fk;rw [aV h12,aV s,bo (.inl h4),uA]) (by unfold fk;rw [aV h12,aV s,bo (.inl h4)])
     rw [aV (by simpa using h4)]
     by_cases h5:g.Tag=5
     ·rw [bo (by simp [h5])]
      exact fin _ x (by unfold fk;rw [aV h12,aV s,bo (.inr h5),uA]) (by unfold fk;rw [aV h12,aV s,bo (.inr h5)])
     rw [aV (by simpa using h5)]
     have h45: ¬(g.Tag=4\/g.Tag=5):=by omega
     exact fin _ x (by unfold fk;rw [aV h12,aV s,aV h45,Bool.and_false]) (by unfold fk;rw [aV h12,aV s,aV h45])
  unfold bX
  show((gG l.a_ (IntKind.i64.wrap ((l.n.Keys.length:Int)+(i:Int)))).bind _)=_
  rw [wK (by omega),g1,bg]
  by_cases D:g.Tag=1
  ·rw [bo (by simp [D])]
   exact key _ (by simp [D])
  ·rw [aV (by simpa using D)]
   exact key _ (by simp [D])
def Mk{n:aa}{a:List Int}(hk:n.Keys.length<=5000): ∀(gs:List fI) (i:Nat) (pre suf:List Int),suf.length=gs.length->a.drop (n.Keys.length+i)=suf->pre.length+suf.length<=20000->i+gs.length<=20000->
  gu n a gs i pre=some (if(gs.zip suf).all (fun p=>(fk p.1 p.2).2)then(pre++List.zipWith (fun g k=>(fk g k).1) gs suf,true)else([],false))
 |[],i,pre,suf,H,s,h4,h5=>by
  have:suf=[]:=tA H
  subst this
  unfold gu;simp
 |g::tl,i,pre,[],H,s,h4,h5=>by simp at H
 |g::tl,i,pre,x::suf,H,s,h4,h5=>by
  simp only [iR,Lw]at H h4 h5
  obtain⟨g1,g2,g3⟩:=oQ s
  have fin: ∀y:Int,(fk g x).2=true->y=(fk g x).1->((jh pre [y]).bind fun o=>gu n a tl (i+1) o)=some (if((g::tl).zip (x::suf)).all (fun p=>(fk p.1 p.2).2)then(pre++List.zipWith (fun g k=>(fk g k).1) (g::tl) (x::suf),true)else([],false)):=by
   intro y e1 e2
   rw [cE (by simp;omega),bg,Mk hk tl (i+1) (pre++[y]) suf H (by rw [<-g3];congr 1) (by simp;omega) (by omega)]
   simp only [List.zip_cons_cons,yV,e1,ni,List.zipWith_cons_cons,e2,oB,B3,mo]
  have bad:(fk g x).2=false->some (([]:List Int),false)=some (if((g::tl).zip (x::suf)).all (fun p=>(fk p.1 p.2).2)then(pre++List.zipWith (fun g k=>(fk g k).1) (g::tl) (x::suf),true)else([],false)):=by
   intro e1
   simp [e1]
  unfold gu
  rw [wK (by omega),g1,bg]
  by_cases hA:g.Arg.Nodes.length=0
  ·rw [aV (by simp [hA])]
   have hA' :((g.Arg.Nodes.length:Int)==0)=true:=by simp [hA]
   have key: ∀b:Bool,b=(g.Tag==1||g.Tag==2)->pH (gu n a tl) i g pre x b=some (if((g::tl).zip (x::suf)).all (fun p=>(fk p.1 p.2).2)then(pre++List.zipWith (fun g k=>(fk g k).1) (g::tl) (x::suf),true)else([],false)):=by
    intro b W
    unfold pH
    by_cases h12:g.Tag=1\/g.Tag=2
    ·rw [bo (by rw [W];simpa using h12)]
     have e:fk g x=(x,x==2):=by unfold fk;rw [bo h12,hA',ni]
     by_cases X:x=2
     ·rw [aV (by simp [X])]
      exact fin x (by rw [e];simp [X]) (by rw [e])
     ·rw [bo (by simpa using X)]
      exact bad (by rw [e];simpa using X)
    ·rw [aV (by rw [W];simpa using h12)]
     by_cases s:g.Tag=3
     ·rw [bo (by simp [s])]
      have e:fk g x=(2,x==4):=by unfold fk;rw [aV h12,bo s,hA',ni]
      by_cases X:x=4
      ·rw [aV (by simp [X])]
       exact fin 2 (by rw [e];simp [X]) (by rw [e])
      ·rw [bo (by simpa using X)]
       exact bad (by rw [e];simpa using X)
     ·rw [aV (by simpa using s)]
      have k2: ∀c:Bool,c=(g.Tag==4||g.Tag==5)->pG (gu n a tl) i pre x c=some (if((g::tl).zip (x::suf)).all (fun p=>(fk p.1 p.2).2)then(pre++List.zipWith (fun g k=>(fk g k).1) (g::tl) (x::suf),true)else([],false)):=by
       intro c hc
       unfold pG
       by_cases h45:g.Tag=4\/g.Tag=5
       ·rw [bo (by rw [hc];simpa using h45)]
        have e:fk g x=(x,x !=4):=by unfold fk;rw [aV h12,aV s,bo h45,hA',ni]
        by_cases X:x=4
        ·rw [bo (by simp [X])]
         exact bad (by rw [e];simp [X])
        ·rw [aV (by simpa using X)]
         exact fin x (by rw [e];simpa using X) (by rw [e])
       ·rw [aV (by rw [hc];simpa using h45)]
        exact bad (by unfold fk;rw [aV h12,aV s,aV h45])
      by_cases h4:g.Tag=4
      ·rw [bo (by simp [h4])];exact k2 _ (by simp [h4])
      ·rw [aV (by simpa using h4)];exact k2 _ (by simp [h4])
   by_cases D:g.Tag=1
   ·rw [bo (by simp [D])]
    exact key _ (by simp [D])
   ·rw [aV (by simpa using D)]
    exact key _ (by simp [D])
  ·rw [bo (by simp;omega)]
   refine bad ?_
   have hA' :((g.Arg.Nodes.length:Int)==0)=false:=by rw [beq_eq_false_iff_ne];omega
   unfold fk
   repeat' split
   all_goals simp [hA']
def yp(a:List Int):List Int->Nat->Bool
 |[],_=>true
 |k::tl,i=>((k==(i:Int))&&((a[i]?).getD 4 !=4))&&yp a tl (i+1)
def Fh{l:al}(hl:l.n.Keys.length<=l.a_.length)(r:List Int): ∀(ks:List Int) (i:Nat) (ok:Bool),i+ks.length=l.n.Keys.length->dP l r ks i ok=bX l l.n.Aggs 0 (ok&&yp l.a_ ks i) {l with result:=r}
 |[],i,ok,_=>by unfold dP yp;simp
 |k::tl,i,ok,hi=>by
  simp only [iR]at hi
  have hlt:i<l.a_.length:=by omega
  unfold dP
  have:(if(ok&&(k==(i:Int)))then((gG l.a_ (i:Int)).bind fun e5=>some (e5 !=(4:Int)))else some false)=some (ok&&((k==(i:Int))&&((l.a_[i]?).getD 4 !=4))):=by
   rw [eK,sG hlt]
   cases ok<;>cases (k==(i:Int))<;>rfl
  rw [this,bg,Fh hl r tl (i+1) _ (by omega)]
  congr 1
  show _=(ok&&(((k==(i:Int))&&((l.a_[i]?).getD 4 !=4))&&yp l.a_ tl (i+1)))
  rw [uA]
def Iy{n:aa}{a:List Int}(hl:n.Keys.length<=a.length)(hal:a.length<=1000): ∀(ks:List Int) (i:Nat),i+ks.length=n.Keys.length->nv n a ks i (a.take i)=if yp a ks i then gu n a n.Aggs 0 (a.take n.Keys.length)else some ([],false)
 |[],i,hi=>by
  unfold nv yp
  have:i=n.Keys.length:=by simpa using hi
  rw [this];simp
 |k::tl,i,hi=>by
  simp only [iR]at hi
  have hlt:i<a.length:=by omega
  unfold nv
  have e0:((a[i]?).getD 4)=a[i]:=by rw [sG hlt];rfl
  have hkb:yp a (k::tl) i=(((k==(i:Int))&&((a[i]?).getD 4 !=4))&&yp a tl (i+1)):=rfl
  rw [hkb,e0,eK,sG hlt]
  simp only [bg]
  by_cases hk:k=(i:Int)
  ·by_cases h4:a[i]=4
   ·rw [bo (by simp [hk])]
    simp [h4]
   ·rw [bo (by simp [hk])]
    have e1:(a[i]==4)=false:=by simpa using h4
    have e2:((k==(i:Int))&&(a[i] !=4))=true:=by simp [hk,h4]
    rw [e1,e2,bg,aV (by simp),cE (by simp;omega),bg,List.take_append_getElem hlt,Iy hl hal tl (i+1) (by omega),ni]
  ·rw [aV (by simpa using hk)]
   simp [hk]
def sZ(n:aa):Bool:=(o9 n).getD false
def za(n:aa):o9 n=some (sZ n):=by
 unfold sZ o9 nW
 simp only [pL,bg]
 repeat' split
 all_goals rfl
def RF{n:aa}(h:n.Op=10\/n.Op=11):sZ n=Ee {n with Op:=4}:=by
 unfold sZ o9 nW
 rcases h with h|h
 ·rw [aV (by simp [h]),bo (by simp [h]),bo (by simp [h]),pL];rfl
 ·rw [aV (by simp [h]),aV (by simp [h]),bo (by simp [h]),pL];rfl
def RH{n:aa}(h:E6 n.Op=true):sZ n=Ee n:=by
 unfold sZ o9 nW
 have:=qm h
 rw [aV (by simp;omega),aV (by simp;omega),aV (by simp;omega),pL];rfl
def Dv{n:aa}(hs:ju n)(h:0<=lB n.Op):ql n=some (sZ n):=by
 have hk:=hs.keys
 have V:=hs.aggs
 have e:(IntKind.i64.wrap ((n.Keys.length:Int)+(n.Aggs.length:Int))==0)=(n.Keys.isEmpty&&n.Aggs.isEmpty):=by
  rw [ew (by omega) (by omega),<-UK,<-UK,vI]
  simp only [nP,qQ]
  omega
 unfold ql
 rw [e]
 clear e hk V hs
 obtain⟨op,A,B,vp,kinds,left,cond,keys,aggs,items,order,limit⟩:=n
 have hop:op=1\/op=2\/op=3\/op=4\/op=5\/op=6\/op=7\/op=8\/op=9\/op=10\/op=11:=by
  unfold lB at h
  simp only at h
  split at h
  ·omega
  ·split at h
   ·omega
   ·split at h<;>omega
 congr 1
 rcases hop with rfl|rfl|rfl|rfl|rfl|rfl|rfl|rfl|rfl|rfl|rfl<;>simp only [sZ,o9,nW,pc,UK,UJ]<;>simp<;>(try (by_cases t:vp=0<;>simp [t]))<;>(try (by_cases lm:limit=0<;>simp [lm]))<;>(try (cases left<;>simp))<;>(try (by_cases e1:kinds=[]<;>simp [e1]))<;>(try (by_cases e2:cond.Nodes=[]<;>simp [e2]))<;>(try (by_cases e3:keys=[]<;>simp [e3]))<;>(try (by_cases e4:aggs=[]<;>simp [e4]))<;>(try (by_cases e5:items=[]<;>simp [e5]))<;>(try (by_cases e6:order=[]<;>simp [e6]))
end Go.Proofs.YtdohlidddcgfjaaGreat

