/- di of this claim: Y13. -/
import Derived.Test.YtmogpgcfognefaaGreatDoorNdY12
set_option linter.all false
namespace Go.Proofs.YtmogpgcfognefaaGreatDoor
open Go

theorem H1(n:aw): ∀(l:List Int) (ok:Bool),mF n l ok=some (n.Kinds,ok&&l.all fun k=>decide (0≤k)&&decide (k≤4))
 |[],ok=>by unfold mF;simp
 |x::l,ok=>by unfold mF;rw [H1 n l];simp [wm]
def H2(n:aw):Bool:=((((decide ((0:Int)≤n.Table))&&(decide (n.Table<(30:Int))))&&(decide ((1:Int)≤(n.Kinds.length:Int))))&&(decide ((n.Kinds.length:Int)≤(16:Int))))&&n.Kinds.all fun k=>decide (0≤k)&&decide (k≤4)
theorem MY(n:aw):tR n=some (n.Kinds,H2 n):=by
 unfold tR
 rw [H1]
 rfl
theorem JK(l:aq):jg l=some (H2 l.n,{l with result:=l.n.Kinds}):=by
 unfold jg
 rw [jb (f:=nX) (g:=fun k=>(decide (k<(0:Int)))||(decide ((4:Int)<k))) (fun _=>rfl),bA]
 have e3:(!(l.n.Kinds.any fun k=>(decide (k<(0:Int)))||(decide ((4:Int)<k))))=l.n.Kinds.all fun k=>decide (0≤k)&&decide (k≤4):=by
  rw [List.not_any_eq_all_not]
  congr 1
  funext k
  rw [xu]
  simp
 show some ((((((!(l.n.Kinds.any fun k=>(decide (k<(0:Int)))||(decide ((4:Int)<k))))&&(decide ((0:Int)≤l.n.Table)))&&(decide (l.n.Table<(30:Int))))&&(decide ((0:Int)<(l.n.Kinds.length:Int))))&&(decide ((l.n.Kinds.length:Int)≤(16:Int)))),({l with result:=l.n.Kinds}:aq))=_
 rw [e3]
 unfold H2
 have e2:decide ((0:Int)<(l.n.Kinds.length:Int))=decide ((1:Int)≤(l.n.Kinds.length:Int)):=by rw [By];omega
 rw [e2]
 congr 2
 cases (l.n.Kinds.all fun k=>decide (0≤k)&&decide (k≤4))<;>simp
theorem OG{n:aw}(h:H2 n=true):Kd n.Kinds:=by
 unfold H2 at h
 simp only [iz,m3,oU]at h
 exact⟨by omega,by omega,fun x hx=>h.2 x hx⟩
theorem Av{l:aq}{n:aw}(hK:n.Keys=l.n.Keys)(hk:l.n.Keys.length≤5000): ∀(gs:List gm) (i:Nat) (R:List Int),R.length=l.n.Keys.length+(i+gs.length)→R.length≤20000→
  ∃R',fy gs i {l with result:=R}=some (true,{l with result:=R' })∧kS n gs i R=some R' ∧R'.length=R.length∧ ∀x∈R',x∈R∨x=4
 |[],i,R,_,_=>⟨R,rfl,rfl,rfl,fun x hx=> .inl hx⟩
 |g::tl,i,R,hR,hb=>by
  simp only [kb]at hR
  unfold fy kS
  by_cases h3:g.Tag=3
  ·rw [bQ (by simp [h3]),bQ (by simp [h3]),hK]
   show∃R',(dC R (IntKind.i64.wrap ((l.n.Keys.length:Int)+(i:Int)))).bind _=_∧_
   rw [wX (by omega),cK,nP (by omega),bA,bA]
   simp only [bA]
   obtain⟨R',h1,h2,h3,h4⟩:=Av (l:=l) (n:=n) hK hk tl (i+1) (R.set ((l.n.Keys.length+i:Nat):Int).toNat 4) (by rw [Aa];omega) (by rw [Aa];omega)
   refine⟨R',h1,h2,by rw [h3,Aa],fun x hx=>?_⟩
   rcases h4 x hx with h|h
   ·exact List.mem_or_eq_of_mem_set h
   ·exact .inr h
  ·rw [bI (by simpa using h3),bI (by simpa using h3)]
   exact Av hK hk tl (i+1) R (by omega) hb
def fk(g:gm)(k:Int):Int×Bool:=
 if g.Tag=1∨g.Tag=2 then(k,((g.Arg.Nodes.length:Int)==0)&&k==2)else if g.Tag=3 then(2,((g.Arg.Nodes.length:Int)==0)&&k==4)else if g.Tag=4∨g.Tag=5 then(k,((g.Arg.Nodes.length:Int)==0)&&k !=4)else(k,false)
theorem If{l:aq}(hk:l.n.Keys.length≤5000): ∀(gs:List gm) (i:Nat) (ok:Bool) (pre suf:List Int),pre.length=l.n.Keys.length+i→suf.length=gs.length→l.a_.drop (l.n.Keys.length+i)=suf→pre.length+suf.length≤20000→
  de l gs i ok {l with result:=pre++suf}=some (ok&&(gs.zip suf).all (fun p=>(fk p.1 p.2).2),{l with result:=pre++List.zipWith (fun g k=>(fk g k).1) gs suf})
 |[],i,ok,pre,suf,h1,h2,h3,h4=>by
  have:suf=[]:=uL h2
  subst this
  unfold de;simp
 |g::tl,i,ok,pre,[],h1,h2,h3,h4=>by simp at h2
 |g::tl,i,ok,pre,x::suf,h1,h2,h3,h4=>by
  simp only [kb,Kq]at h2 h4
  obtain⟨g1,g2,g3⟩:=lE h3
  -- the end of a round
  have fin: ∀(ok2:Bool) (y:Int),ok2=(ok&&(fk g x).2)→y=(fk g x).1→de l tl (i+1) ok2 {l with result:=pre++y::suf}=some (ok&&((g::tl).zip (x::suf)).all (fun p=>(fk p.1 p.2).2),{l with result:=pre++List.zipWith (fun g k=>(fk g k).1) (g::tl) (x::suf)}):=by
   intro ok2 y e1 e2
   rw [show pre++y::suf=(pre++[y])++suf from by simp,If hk tl (i+1) ok2 (pre++[y]) suf (by simp;omega) h2 (by rw [←g3];congr 1) (by simp;omega),e1,e2]
   simp [wm]
  have key: ∀b:Bool,b=(g.Tag==1||g.Tag==2)→ii l (de l tl) i g ok {l with result:=pre++x::suf} x b=some (ok&&((g::tl).zip (x::suf)).all (fun p=>(fk p.1 p.2).2),{l with result:=pre++List.zipWith (fun g k=>(fk g k).1) (g::tl) (x::suf)}):=by
   intro b hb
   unfold ii
   by_cases h12:g.Tag=1∨g.Tag=2
   ·rw [bQ (by rw [hb];simpa using h12)]
    exact fin _ x (by unfold fk;rw [bQ h12,wm]) (by unfold fk;rw [bQ h12])
   ·rw [bI (by rw [hb];simpa using h12)]
    by_cases h3:g.Tag=3
    ·rw [bQ (by simp [h3])]
     show((dC (pre++x::suf) (IntKind.i64.wrap ((l.n.Keys.length:Int)+(i:Int)))).bind _)=_
     rw [wX (by omega),cK,←h1,uu (gB _),wo]
     simp only [EC,bA]
     have e3:(pre++x::suf).set ((pre.length:Int)).toNat 2=pre++2::suf:=by
      rw [Ab,List.set_append_right _ _ (gB _),wo];rfl
     rw [e3]
     exact fin _ 2 (by unfold fk;rw [bI h12,bQ h3,wm]) (by unfold fk;rw [bI h12,bQ h3])
    ·rw [bI (by simpa using h3)]
     unfold lu
     by_cases h4:g.Tag=4
     ·rw [bQ (by simp [h4]),bQ (by simp [h4])]
      exact fin _ x (by unfold fk;rw [bI h12,bI h3,bQ (.inl h4),wm]) (by unfold fk;rw [bI h12,bI h3,bQ (.inl h4)])
     rw [bI (by simpa using h4)]
     by_cases h5:g.Tag=5
     ·rw [bQ (by simp [h5])]
      exact fin _ x (by unfold fk;rw [bI h12,bI h3,bQ (.inr h5),wm]) (by unfold fk;rw [bI h12,bI h3,bQ (.inr h5)])
     rw [bI (by simpa using h5)]
     have h45: ¬(g.Tag=4∨g.Tag=5):=by omega
     exact fin _ x (by unfold fk;rw [bI h12,bI h3,bI h45,Bool.and_false]) (by unfold fk;rw [bI h12,bI h3,bI h45])
  unfold de
  show((dC l.a_ (IntKind.i64.wrap ((l.n.Keys.length:Int)+(i:Int)))).bind _)=_
  rw [wX (by omega),g1,bA]
  by_cases ht:g.Tag=1
  ·rw [bQ (by simp [ht])]
   exact key _ (by simp [ht])
  ·rw [bI (by simpa using ht)]
   exact key _ (by simp [ht])
theorem Lc{n:aw}{a:List Int}(hk:n.Keys.length≤5000): ∀(gs:List gm) (i:Nat) (pre suf:List Int),suf.length=gs.length→a.drop (n.Keys.length+i)=suf→pre.length+suf.length≤20000→i+gs.length≤20000→
  fh n a gs i pre=some (if(gs.zip suf).all (fun p=>(fk p.1 p.2).2)then(pre++List.zipWith (fun g k=>(fk g k).1) gs suf,true)else([],false))
 |[],i,pre,suf,h2,h3,h4,h5=>by
  have:suf=[]:=uL h2
  subst this
  unfold fh;simp
 |g::tl,i,pre,[],h2,h3,h4,h5=>by simp at h2
 |g::tl,i,pre,x::suf,h2,h3,h4,h5=>by
  simp only [kb,Kq]at h2 h4 h5
  obtain⟨g1,g2,g3⟩:=lE h3
  have fin: ∀y:Int,(fk g x).2=true→y=(fk g x).1→((ko pre [y]).bind fun o=>fh n a tl (i+1) o)=some (if((g::tl).zip (x::suf)).all (fun p=>(fk p.1 p.2).2)then(pre++List.zipWith (fun g k=>(fk g k).1) (g::tl) (x::suf),true)else([],false)):=by
   intro y e1 e2
   rw [du (by simp;omega),bA,Lc hk tl (i+1) (pre++[y]) suf h2 (by rw [←g3];congr 1) (by simp;omega) (by omega)]
   simp only [List.zip_cons_cons,yI,e1,nQ,List.zipWith_cons_cons,e2,mV,yM,nv]
  have bad:(fk g x).2=false→some (([]:List Int),false)=some (if((g::tl).zip (x::suf)).all (fun p=>(fk p.1 p.2).2)then(pre++List.zipWith (fun g k=>(fk g k).1) (g::tl) (x::suf),true)else([],false)):=by
   intro e1
   simp [e1]
  unfold fh
  rw [wX (by omega),g1,bA]
  by_cases hA:g.Arg.Nodes.length=0
  ·rw [bI (by simp [hA])]
   have hA' :((g.Arg.Nodes.length:Int)==0)=true:=by simp [hA]
   have key: ∀b:Bool,b=(g.Tag==1||g.Tag==2)→oq (fh n a tl) i g pre x b=some (if((g::tl).zip (x::suf)).all (fun p=>(fk p.1 p.2).2)then(pre++List.zipWith (fun g k=>(fk g k).1) (g::tl) (x::suf),true)else([],false)):=by
    intro b hb
    unfold oq
    by_cases h12:g.Tag=1∨g.Tag=2
    ·rw [bQ (by rw [hb];simpa using h12)]
     have e:fk g x=(x,x==2):=by unfold fk;rw [bQ h12,hA',nQ]
     by_cases hx:x=2
     ·rw [bI (by simp [hx])]
      exact fin x (by rw [e];simp [hx]) (by rw [e])
     ·rw [bQ (by simpa using hx)]
      exact bad (by rw [e];simpa using hx)
    ·rw [bI (by rw [hb];simpa using h12)]
     by_cases h3:g.Tag=3
     ·rw [bQ (by simp [h3])]
      have e:fk g x=(2,x==4):=by unfold fk;rw [bI h12,bQ h3,hA',nQ]
      by_cases hx:x=4
      ·rw [bI (by simp [hx])]
       exact fin 2 (by rw [e];simp [hx]) (by rw [e])
      ·rw [bQ (by simpa using hx)]
       exact bad (by rw [e];simpa using hx)
     ·rw [bI (by simpa using h3)]
      have k2: ∀c:Bool,c=(g.Tag==4||g.Tag==5)→oo (fh n a tl) i pre x c=some (if((g::tl).zip (x::suf)).all (fun p=>(fk p.1 p.2).2)then(pre++List.zipWith (fun g k=>(fk g k).1) (g::tl) (x::suf),true)else([],false)):=by
       intro c hc
       unfold oo
       by_cases h45:g.Tag=4∨g.Tag=5
       ·rw [bQ (by rw [hc];simpa using h45)]
        have e:fk g x=(x,x !=4):=by unfold fk;rw [bI h12,bI h3,bQ h45,hA',nQ]
        by_cases hx:x=4
        ·rw [bQ (by simp [hx])]
         exact bad (by rw [e];simp [hx])
        ·rw [bI (by simpa using hx)]
         exact fin x (by rw [e];simpa using hx) (by rw [e])
       ·rw [bI (by rw [hc];simpa using h45)]
        exact bad (by unfold fk;rw [bI h12,bI h3,bI h45])
      by_cases h4:g.Tag=4
      ·rw [bQ (by simp [h4])];exact k2 _ (by simp [h4])
      ·rw [bI (by simpa using h4)];exact k2 _ (by simp [h4])
   by_cases ht:g.Tag=1
   ·rw [bQ (by simp [ht])]
    exact key _ (by simp [ht])
   ·rw [bI (by simpa using ht)]
    exact key _ (by simp [ht])
  ·rw [bQ (by simp;omega)]
   refine bad ?_
   have hA' :((g.Arg.Nodes.length:Int)==0)=false:=by rw [beq_eq_false_iff_ne];omega
   unfold fk
   repeat' split
   all_goals simp [hA']
def yx(a:List Int):List Int→Nat→Bool
 |[],_=>true
 |k::tl,i=>((k==(i:Int))&&((a[i]?).getD 4 !=4))&&yx a tl (i+1)
theorem E3{l:aq}(hl:l.n.Keys.length≤l.a_.length)(r:List Int): ∀(ks:List Int) (i:Nat) (ok:Bool),i+ks.length=l.n.Keys.length→gr l r ks i ok=de l l.n.Aggs 0 (ok&&yx l.a_ ks i) {l with result:=r}
 |[],i,ok,_=>by unfold gr yx;simp
 |k::tl,i,ok,hi=>by
  simp only [kb]at hi
  have hlt:i<l.a_.length:=by omega
  unfold gr
  have:(if(ok&&(k==(i:Int)))then((dC l.a_ (i:Int)).bind fun e5=>some (e5 !=(4:Int)))else some false)=some (ok&&((k==(i:Int))&&((l.a_[i]?).getD 4 !=4))):=by
   rw [cK,nP hlt]
   cases ok<;>cases (k==(i:Int))<;>rfl
  rw [this,bA,E3 hl r tl (i+1) _ (by omega)]
  congr 1
  show _=(ok&&(((k==(i:Int))&&((l.a_[i]?).getD 4 !=4))&&yx l.a_ tl (i+1)))
  rw [wm]
theorem HX{n:aw}{a:List Int}(hl:n.Keys.length≤a.length)(hal:a.length≤1000): ∀(ks:List Int) (i:Nat),i+ks.length=n.Keys.length→mG n a ks i (a.take i)=if yx a ks i then fh n a n.Aggs 0 (a.take n.Keys.length)else some ([],false)
 |[],i,hi=>by
  unfold mG yx
  have:i=n.Keys.length:=by simpa using hi
  rw [this];simp
 |k::tl,i,hi=>by
  simp only [kb]at hi
  have hlt:i<a.length:=by omega
  unfold mG
  have e0:((a[i]?).getD 4)=a[i]:=by rw [nP hlt];rfl
  have hkb:yx a (k::tl) i=(((k==(i:Int))&&((a[i]?).getD 4 !=4))&&yx a tl (i+1)):=rfl
  rw [hkb,e0,cK,nP hlt]
  simp only [bA]
  by_cases hk:k=(i:Int)
  ·by_cases h4:a[i]=4
   ·rw [bQ (by simp [hk])]
    simp [h4]
   ·rw [bQ (by simp [hk])]
    have e1:(a[i]==4)=false:=by simpa using h4
    have e2:((k==(i:Int))&&(a[i] !=4))=true:=by simp [hk,h4]
    rw [e1,e2,bA,bI (by simp),du (by simp;omega),bA,List.take_append_getElem hlt,HX hl hal tl (i+1) (by omega),nQ]
  ·rw [bI (by simpa using hk)]
   simp [hk]
def uX(n:aw):Bool:=(oX n).getD false
theorem zc(n:aw):oX n=some (uX n):=by
 unfold uX oX m8
 simp only [qw,bA]
 repeat' split
 all_goals rfl
theorem Qi{n:aw}(h:n.Op=10∨n.Op=11):uX n=Eh {n with Op:=4}:=by
 unfold uX oX m8
 rcases h with h|h
 ·rw [bI (by simp [h]),bQ (by simp [h]),bQ (by simp [h]),qw];rfl
 ·rw [bI (by simp [h]),bI (by simp [h]),bQ (by simp [h]),qw];rfl
theorem Qj{n:aw}(h:EU n.Op=true):uX n=Eh n:=by
 unfold uX oX m8
 have:=q9 h
 rw [bI (by simp;omega),bI (by simp;omega),bI (by simp;omega),qw];rfl
theorem Dx{n:aw}(hs:jX n)(h:0≤kO n.Op):q8 n=some (uX n):=by
 have hk:=hs.keys
 have hg:=hs.aggs
 have e:(IntKind.i64.wrap ((n.Keys.length:Int)+(n.Aggs.length:Int))==0)=(n.Keys.isEmpty&&n.Aggs.isEmpty):=by
  rw [eS (by omega) (by omega),←TO,←TO,xu]
  simp only [iz,uM]
  omega
 unfold q8
 rw [e]
 clear e hk hg hs
 obtain⟨op,A,B,SI,kinds,left,cond,keys,aggs,items,order,limit⟩:=n
 have hop:op=1∨op=2∨op=3∨op=4∨op=5∨op=6∨op=7∨op=8∨op=9∨op=10∨op=11:=by
  unfold kO at h
  simp only at h
  split at h
  ·omega
  ·split at h
   ·omega
   ·split at h<;>omega
 congr 1
 rcases hop with rfl|rfl|rfl|rfl|rfl|rfl|rfl|rfl|rfl|rfl|rfl<;>simp only [uX,oX,m8,oY,TO,TN]<;>simp<;>(try (by_cases t:SI=0<;>simp [t]))<;>(try (by_cases lm:limit=0<;>simp [lm]))<;>(try (cases left<;>simp))<;>(try (by_cases e1:kinds=[]<;>simp [e1]))<;>(try (by_cases e2:cond.Nodes=[]<;>simp [e2]))<;>(try (by_cases e3:keys=[]<;>simp [e3]))<;>(try (by_cases e4:aggs=[]<;>simp [e4]))<;>(try (by_cases e5:items=[]<;>simp [e5]))<;>(try (by_cases e6:order=[]<;>simp [e6]))
end Go.Proofs.YtmogpgcfognefaaGreatDoor

