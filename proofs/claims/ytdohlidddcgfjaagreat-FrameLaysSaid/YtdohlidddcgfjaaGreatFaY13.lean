/- cT of this claim: Y13. -/
import Derived.Test.YtdohlidddcgfjaaGreatFaY12
set_option linter.all false
namespace Go.Proofs.YtdohlidddcgfjaaGreat
open Go

theorem Gg(n:ap): ∀(l:List Int) (ok:Bool),lw n l ok=some (n.Kinds,ok&&l.all fun k=>decide (0≤k)&&decide (k≤4))
 |[],ok=>by unfold lw;simp
 |x::l,ok=>by unfold lw;rw [Gg n l];simp [t7]
def Gh(n:ap):Bool:=((((decide ((0:Int)≤n.Table))&&(decide (n.Table<(30:Int))))&&(decide ((1:Int)≤(n.Kinds.length:Int))))&&(decide ((n.Kinds.length:Int)≤(16:Int))))&&n.Kinds.all fun k=>decide (0≤k)&&decide (k≤4)
theorem Kj(n:ap):sI n=some (n.Kinds,Gh n):=by
 unfold sI
 rw [Gg]
 rfl
theorem HK(l:al):iq l=some (Gh l.n,{l with result:=l.n.Kinds}):=by
 unfold iq
 rw [jH (f:=m6) (g:=fun k=>(decide (k<(0:Int)))||(decide ((4:Int)<k))) (fun _=>rfl),bj]
 have e3:(!(l.n.Kinds.any fun k=>(decide (k<(0:Int)))||(decide ((4:Int)<k))))=l.n.Kinds.all fun k=>decide (0≤k)&&decide (k≤4):=by
  rw [List.not_any_eq_all_not]
  congr 1
  funext k
  rw [pX]
  simp
 show some ((((((!(l.n.Kinds.any fun k=>(decide (k<(0:Int)))||(decide ((4:Int)<k))))&&(decide ((0:Int)≤l.n.Table)))&&(decide (l.n.Table<(30:Int))))&&(decide ((0:Int)<(l.n.Kinds.length:Int))))&&(decide ((l.n.Kinds.length:Int)≤(16:Int)))),({l with result:=l.n.Kinds}:al))=_
 rw [e3]
 unfold Gh
 have e2:decide ((0:Int)<(l.n.Kinds.length:Int))=decide ((1:Int)≤(l.n.Kinds.length:Int)):=by rw [xJ];omega
 rw [e2]
 congr 2
 cases (l.n.Kinds.all fun k=>decide (0≤k)&&decide (k≤4))<;>simp
theorem LY{n:ap}(h:Gh n=true):Kd n.Kinds:=by
 unfold Gh at h
 simp only [gX,pq,rl]at h
 exact⟨by omega,by omega,fun x hx=>h.2 x hx⟩
theorem zc{l:al}{n:ap}(hK:n.Keys=l.n.Keys)(hk:l.n.Keys.length≤5000): ∀(gs:List fy) (i:Nat) (R:List Int),R.length=l.n.Keys.length+(i+gs.length)→R.length≤20000→
  ∃R',ff gs i {l with result:=R}=some (true,{l with result:=R' })∧jU n gs i R=some R' ∧R'.length=R.length∧ ∀x∈R',x∈R∨x=4
 |[],i,R,_,_=>⟨R,rfl,rfl,rfl,fun x hx=> .inl hx⟩
 |g::tl,i,R,hR,hb=>by
  simp only [nT]at hR
  unfold ff jU
  by_cases h3:g.Tag=3
  ·rw [bq (by simp [h3]),bq (by simp [h3]),hK]
   show∃R',(gj R (IntKind.i64.wrap ((l.n.Keys.length:Int)+(i:Int)))).bind _=_∧_
   rw [wb (by omega),dJ,kW (by omega),bj,bj]
   simp only [bj]
   obtain⟨R',h1,h2,h3,h4⟩:=zc (l:=l) (n:=n) hK hk tl (i+1) (R.set ((l.n.Keys.length+i:Nat):Int).toNat 4) (by rw [Aa];omega) (by rw [Aa];omega)
   refine⟨R',h1,h2,by rw [h3,Aa],fun x hx=>?_⟩
   rcases h4 x hx with h|h
   ·exact List.mem_or_eq_of_mem_set h
   ·exact .inr h
  ·rw [aW (by simpa using h3),aW (by simpa using h3)]
   exact zc hK hk tl (i+1) R (by omega) hb
def fk(g:fy)(k:Int):Int×Bool:=
 if g.Tag=1∨g.Tag=2 then(k,((g.Arg.Nodes.length:Int)==0)&&k==2)else if g.Tag=3 then(2,((g.Arg.Nodes.length:Int)==0)&&k==4)else if g.Tag=4∨g.Tag=5 then(k,((g.Arg.Nodes.length:Int)==0)&&k !=4)else(k,false)
theorem Gs{l:al}(hk:l.n.Keys.length≤5000): ∀(gs:List fy) (i:Nat) (ok:Bool) (pre suf:List Int),pre.length=l.n.Keys.length+i→suf.length=gs.length→l.a_.drop (l.n.Keys.length+i)=suf→pre.length+suf.length≤20000→
  bY l gs i ok {l with result:=pre++suf}=some (ok&&(gs.zip suf).all (fun p=>(fk p.1 p.2).2),{l with result:=pre++List.zipWith (fun g k=>(fk g k).1) gs suf})
 |[],i,ok,pre,suf,h1,h2,h3,h4=>by
  have:suf=[]:=tv h2
  subst this
  unfold bY;simp
 |g::tl,i,ok,pre,[],h1,h2,h3,h4=>by simp at h2
 |g::tl,i,ok,pre,x::suf,h1,h2,h3,h4=>by
  simp only [nT,Iq]at h2 h4
  obtain⟨g1,g2,g3⟩:=ij h3
  -- the end of a round
  have fin: ∀(ok2:Bool) (y:Int),ok2=(ok&&(fk g x).2)→y=(fk g x).1→bY l tl (i+1) ok2 {l with result:=pre++y::suf}=some (ok&&((g::tl).zip (x::suf)).all (fun p=>(fk p.1 p.2).2),{l with result:=pre++List.zipWith (fun g k=>(fk g k).1) (g::tl) (x::suf)}):=by
   intro ok2 y e1 e2
   rw [show pre++y::suf=(pre++[y])++suf from by simp,Gs hk tl (i+1) ok2 (pre++[y]) suf (by simp;omega) h2 (by rw [←g3];congr 1) (by simp;omega),e1,e2]
   simp [t7]
  have key: ∀b:Bool,b=(g.Tag==1||g.Tag==2)→fj l (bY l tl) i g ok {l with result:=pre++x::suf} x b=some (ok&&((g::tl).zip (x::suf)).all (fun p=>(fk p.1 p.2).2),{l with result:=pre++List.zipWith (fun g k=>(fk g k).1) (g::tl) (x::suf)}):=by
   intro b hb
   unfold fj
   by_cases h12:g.Tag=1∨g.Tag=2
   ·rw [bq (by rw [hb];simpa using h12)]
    exact fin _ x (by unfold fk;rw [bq h12,t7]) (by unfold fk;rw [bq h12])
   ·rw [aW (by rw [hb];simpa using h12)]
    by_cases h3:g.Tag=3
    ·rw [bq (by simp [h3])]
     show((gj (pre++x::suf) (IntKind.i64.wrap ((l.n.Keys.length:Int)+(i:Int)))).bind _)=_
     rw [wb (by omega),dJ,←h1,ve (eE _),vg]
     simp only [E4,bj]
     have e3:(pre++x::suf).set ((pre.length:Int)).toNat 2=pre++2::suf:=by
      rw [AJ,List.set_append_right _ _ (eE _),vg];rfl
     rw [e3]
     exact fin _ 2 (by unfold fk;rw [aW h12,bq h3,t7]) (by unfold fk;rw [aW h12,bq h3])
    ·rw [aW (by simpa using h3)]
     unfold gK
     by_cases h4:g.Tag=4
     ·rw [bq (by simp [h4]),bq (by simp [h4])]
      exact fin _ x (by unfold fk;rw [aW h12,aW h3,bq (.inl h4),t7]) (by unfold fk;rw [aW h12,aW h3,bq (.inl h4)])
     rw [aW (by simpa using h4)]
     by_cases h5:g.Tag=5
     ·rw [bq (by simp [h5])]
      exact fin _ x (by unfold fk;rw [aW h12,aW h3,bq (.inr h5),t7]) (by unfold fk;rw [aW h12,aW h3,bq (.inr h5)])
     rw [aW (by simpa using h5)]
     have h45: ¬(g.Tag=4∨g.Tag=5):=by omega
     exact fin _ x (by unfold fk;rw [aW h12,aW h3,aW h45,Bool.and_false]) (by unfold fk;rw [aW h12,aW h3,aW h45])
  unfold bY
  show((gj l.a_ (IntKind.i64.wrap ((l.n.Keys.length:Int)+(i:Int)))).bind _)=_
  rw [wb (by omega),g1,bj]
  by_cases ht:g.Tag=1
  ·rw [bq (by simp [ht])]
   exact key _ (by simp [ht])
  ·rw [aW (by simpa using ht)]
   exact key _ (by simp [ht])
theorem IY{n:ap}{a:List Int}(hk:n.Keys.length≤5000): ∀(gs:List fy) (i:Nat) (pre suf:List Int),suf.length=gs.length→a.drop (n.Keys.length+i)=suf→pre.length+suf.length≤20000→i+gs.length≤20000→
  eV n a gs i pre=some (if(gs.zip suf).all (fun p=>(fk p.1 p.2).2)then(pre++List.zipWith (fun g k=>(fk g k).1) gs suf,true)else([],false))
 |[],i,pre,suf,h2,h3,h4,h5=>by
  have:suf=[]:=tv h2
  subst this
  unfold eV;simp
 |g::tl,i,pre,[],h2,h3,h4,h5=>by simp at h2
 |g::tl,i,pre,x::suf,h2,h3,h4,h5=>by
  simp only [nT,Iq]at h2 h4 h5
  obtain⟨g1,g2,g3⟩:=ij h3
  have fin: ∀y:Int,(fk g x).2=true→y=(fk g x).1→((gn pre [y]).bind fun o=>eV n a tl (i+1) o)=some (if((g::tl).zip (x::suf)).all (fun p=>(fk p.1 p.2).2)then(pre++List.zipWith (fun g k=>(fk g k).1) (g::tl) (x::suf),true)else([],false)):=by
   intro y e1 e2
   rw [bH (by simp;omega),bj,IY hk tl (i+1) (pre++[y]) suf h2 (by rw [←g3];congr 1) (by simp;omega) (by omega)]
   simp only [List.zip_cons_cons,vi,e1,mZ,List.zipWith_cons_cons,e2,nh,DC,lL]
  have bad:(fk g x).2=false→some (([]:List Int),false)=some (if((g::tl).zip (x::suf)).all (fun p=>(fk p.1 p.2).2)then(pre++List.zipWith (fun g k=>(fk g k).1) (g::tl) (x::suf),true)else([],false)):=by
   intro e1
   simp [e1]
  unfold eV
  rw [wb (by omega),g1,bj]
  by_cases hA:g.Arg.Nodes.length=0
  ·rw [aW (by simp [hA])]
   have hA' :((g.Arg.Nodes.length:Int)==0)=true:=by simp [hA]
   have key: ∀b:Bool,b=(g.Tag==1||g.Tag==2)→nv (eV n a tl) i g pre x b=some (if((g::tl).zip (x::suf)).all (fun p=>(fk p.1 p.2).2)then(pre++List.zipWith (fun g k=>(fk g k).1) (g::tl) (x::suf),true)else([],false)):=by
    intro b hb
    unfold nv
    by_cases h12:g.Tag=1∨g.Tag=2
    ·rw [bq (by rw [hb];simpa using h12)]
     have e:fk g x=(x,x==2):=by unfold fk;rw [bq h12,hA',mZ]
     by_cases hx:x=2
     ·rw [aW (by simp [hx])]
      exact fin x (by rw [e];simp [hx]) (by rw [e])
     ·rw [bq (by simpa using hx)]
      exact bad (by rw [e];simpa using hx)
    ·rw [aW (by rw [hb];simpa using h12)]
     by_cases h3:g.Tag=3
     ·rw [bq (by simp [h3])]
      have e:fk g x=(2,x==4):=by unfold fk;rw [aW h12,bq h3,hA',mZ]
      by_cases hx:x=4
      ·rw [aW (by simp [hx])]
       exact fin 2 (by rw [e];simp [hx]) (by rw [e])
      ·rw [bq (by simpa using hx)]
       exact bad (by rw [e];simpa using hx)
     ·rw [aW (by simpa using h3)]
      have k2: ∀c:Bool,c=(g.Tag==4||g.Tag==5)→nu (eV n a tl) i pre x c=some (if((g::tl).zip (x::suf)).all (fun p=>(fk p.1 p.2).2)then(pre++List.zipWith (fun g k=>(fk g k).1) (g::tl) (x::suf),true)else([],false)):=by
       intro c hc
       unfold nu
       by_cases h45:g.Tag=4∨g.Tag=5
       ·rw [bq (by rw [hc];simpa using h45)]
        have e:fk g x=(x,x !=4):=by unfold fk;rw [aW h12,aW h3,bq h45,hA',mZ]
        by_cases hx:x=4
        ·rw [bq (by simp [hx])]
         exact bad (by rw [e];simp [hx])
        ·rw [aW (by simpa using hx)]
         exact fin x (by rw [e];simpa using hx) (by rw [e])
       ·rw [aW (by rw [hc];simpa using h45)]
        exact bad (by unfold fk;rw [aW h12,aW h3,aW h45])
      by_cases h4:g.Tag=4
      ·rw [bq (by simp [h4])];exact k2 _ (by simp [h4])
      ·rw [aW (by simpa using h4)];exact k2 _ (by simp [h4])
   by_cases ht:g.Tag=1
   ·rw [bq (by simp [ht])]
    exact key _ (by simp [ht])
   ·rw [aW (by simpa using ht)]
    exact key _ (by simp [ht])
  ·rw [bq (by simp;omega)]
   refine bad ?_
   have hA' :((g.Arg.Nodes.length:Int)==0)=false:=by rw [beq_eq_false_iff_ne];omega
   unfold fk
   repeat' split
   all_goals simp [hA']
def xx(a:List Int):List Int→Nat→Bool
 |[],_=>true
 |k::tl,i=>((k==(i:Int))&&((a[i]?).getD 4 !=4))&&xx a tl (i+1)
theorem Dk{l:al}(hl:l.n.Keys.length≤l.a_.length)(r:List Int): ∀(ks:List Int) (i:Nat) (ok:Bool),i+ks.length=l.n.Keys.length→ec l r ks i ok=bY l l.n.Aggs 0 (ok&&xx l.a_ ks i) {l with result:=r}
 |[],i,ok,_=>by unfold ec xx;simp
 |k::tl,i,ok,hi=>by
  simp only [nT]at hi
  have hlt:i<l.a_.length:=by omega
  unfold ec
  have:(if(ok&&(k==(i:Int)))then((gj l.a_ (i:Int)).bind fun e5=>some (e5 !=(4:Int)))else some false)=some (ok&&((k==(i:Int))&&((l.a_[i]?).getD 4 !=4))):=by
   rw [dJ,kW hlt]
   cases ok<;>cases (k==(i:Int))<;>rfl
  rw [this,bj,Dk hl r tl (i+1) _ (by omega)]
  congr 1
  show _=(ok&&(((k==(i:Int))&&((l.a_[i]?).getD 4 !=4))&&xx l.a_ tl (i+1)))
  rw [t7]
theorem Gc{n:ap}{a:List Int}(hl:n.Keys.length≤a.length)(hal:a.length≤1000): ∀(ks:List Int) (i:Nat),i+ks.length=n.Keys.length→lx n a ks i (a.take i)=if xx a ks i then eV n a n.Aggs 0 (a.take n.Keys.length)else some ([],false)
 |[],i,hi=>by
  unfold lx xx
  have:i=n.Keys.length:=by simpa using hi
  rw [this];simp
 |k::tl,i,hi=>by
  simp only [nT]at hi
  have hlt:i<a.length:=by omega
  unfold lx
  have e0:((a[i]?).getD 4)=a[i]:=by rw [kW hlt];rfl
  have hkb:xx a (k::tl) i=(((k==(i:Int))&&((a[i]?).getD 4 !=4))&&xx a tl (i+1)):=rfl
  rw [hkb,e0,dJ,kW hlt]
  simp only [bj]
  by_cases hk:k=(i:Int)
  ·by_cases h4:a[i]=4
   ·rw [bq (by simp [hk])]
    simp [h4]
   ·rw [bq (by simp [hk])]
    have e1:(a[i]==4)=false:=by simpa using h4
    have e2:((k==(i:Int))&&(a[i] !=4))=true:=by simp [hk,h4]
    rw [e1,e2,bj,aW (by simp),bH (by simp;omega),bj,List.take_append_getElem hlt,Gc hl hal tl (i+1) (by omega),mZ]
  ·rw [aW (by simpa using hk)]
   simp [hk]
def tK(n:ap):Bool:=(n7 n).getD false
theorem yh(n:ap):n7 n=some (tK n):=by
 unfold tK n7 lY
 simp only [pB,bj]
 repeat' split
 all_goals rfl
theorem Nq{n:ap}(h:n.Op=10∨n.Op=11):tK n=Cy {n with Op:=4}:=by
 unfold tK n7 lY
 rcases h with h|h
 ·rw [aW (by simp [h]),bq (by simp [h]),bq (by simp [h]),pB];rfl
 ·rw [aW (by simp [h]),aW (by simp [h]),bq (by simp [h]),pB];rfl
theorem Nr{n:ap}(h:Da n.Op=true):tK n=Cy n:=by
 unfold tK n7 lY
 have:=qe h
 rw [aW (by simp;omega),aW (by simp;omega),aW (by simp;omega),pB];rfl
theorem BV{n:ap}(hs:jg n)(h:0≤lO n.Op):qd n=some (tK n):=by
 have hk:=hs.keys
 have hg:=hs.aggs
 have e:(IntKind.i64.wrap ((n.Keys.length:Int)+(n.Aggs.length:Int))==0)=(n.Keys.isEmpty&&n.Aggs.isEmpty):=by
  rw [eC (by omega) (by omega),←QB,←QB,pX]
  simp only [gX,ss]
  omega
 unfold qd
 rw [e]
 clear e hk hg hs
 obtain⟨op,A,B,uP,kinds,left,cond,keys,aggs,items,order,limit⟩:=n
 have hop:op=1∨op=2∨op=3∨op=4∨op=5∨op=6∨op=7∨op=8∨op=9∨op=10∨op=11:=by
  unfold lO at h
  simp only at h
  split at h
  ·omega
  ·split at h
   ·omega
   ·split at h<;>omega
 congr 1
 rcases hop with rfl|rfl|rfl|rfl|rfl|rfl|rfl|rfl|rfl|rfl|rfl<;>simp only [tK,n7,lY,n8,QB,QA]<;>simp<;>(try (by_cases t:uP=0<;>simp [t]))<;>(try (by_cases lm:limit=0<;>simp [lm]))<;>(try (cases left<;>simp))<;>(try (by_cases e1:kinds=[]<;>simp [e1]))<;>(try (by_cases e2:cond.Nodes=[]<;>simp [e2]))<;>(try (by_cases e3:keys=[]<;>simp [e3]))<;>(try (by_cases e4:aggs=[]<;>simp [e4]))<;>(try (by_cases e5:items=[]<;>simp [e5]))<;>(try (by_cases e6:order=[]<;>simp [e6]))
end Go.Proofs.YtdohlidddcgfjaaGreat

