/- cT of this claim: W34, W35, W36, W37, W38, W39, W40, W48, W50, W51, W41, W42, W43, W21, W27, W45, W46, W47, W52, W53, W56, W57, W63, W58, W59, W61, W62, W60, W44, W55, W29. -/
import Derived.Test.YtdohlidddcgfjaaGreatFaV2
import Derived.Lib.Bytealg
import Derived.Maps.Range
import Derived.Laws.IdiomRangeMap
import Derived.Test.YtdohlidddcgfjaaGreatFaV1
import Derived.Laws.BytesString
import Derived.Below
import Derived.ProofKit
import Derived.OpenShut
import Derived.LaidMore
import Derived.Laws.Externs
import Derived.WideKeyRuns
import Derived.WideKeyEntry
import Derived.Shelf.GgSortFunc.Insertion
import Derived.Shelf.Slices.In.SortNone
set_option linter.all false
namespace Go.Proofs.YtdohlidddcgfjaaGreat
open Go

abbrev HL:=List (Nat×Value)
def yr:HL→Nat→Option Value
 |[],_=>none
 |p::hs,o=>bif Nat.beq p.1 o then some p.2 else yr hs o
variable{hs:HL}{o:Oper}{p:Operand}{v:Value}
theorem rL: ∀{hs:HL} {o:Nat} {v:Value},yr hs o=some v→(o,v)∈hs
 |[],_,_,h=>by cases h
 |p::hs,o,v,h=>by
  unfold yr at h
  by_cases hb:Nat.beq p.1 o=true
  ·rw [hb]at h
   have e1:=q7 hb
   have e2:p.2=v:=qL h
   subst e1 e2
   exact nf ..
  ·rw [Ac]at hb
   rw [hb]at h
   exact oO _ (rL h)
def rH{α:Type}(r:Rp α)(hs:HL):Rp α where
 sz:=r.sz
 agg:=r.agg
 rc:=fun S cs x=>r.rc S cs x∧ ∀p∈hs,cs[p.1]? =some p.2
 mono:=fun h k=>⟨r.mono h k.1,k.2⟩
 len:=fun k=>r.len k.1
 one:=fun k=>r.one k.1
 sc:=r.sc
variable{S:SH}{β:Type}{cs:List Value}{k:IntKind}{α:Type}{q:Rp β}{r:Rp α}{x:Operand}
theorem gW{off:Nat}{get:α→β}(h:lK r off q get):lK (rH r hs) off q get:=fun S cs x k=>h S cs x k.1
theorem Ku{off:Nat}(h:cs[off]? =some v):(cs.drop off).take 1=[v]:=by
 have hlt:=(kF.1 h).1
 rw [xf hlt,(kF.1 h).2]
 rfl
theorem UY{off:Nat}(h:yr hs off=some v):lK (rH r hs) off rV (fun _=>v):=fun S cs x k=>by
 have h1:=k.2 _ (rL h)
 exact⟨Ku h1,r.one k.1 v (qM h1)⟩
def HZ(z:List Value):HL→Prop
 |[]=>True
 |p::hs=>z[p.1]? =some p.2∧HZ z hs
variable{z:List Value}
theorem HZ.all: ∀{hs:HL},HZ z hs→ ∀p∈hs,z[p.1]? =some p.2
 |_::_,⟨h,_⟩,_,.head _=>h
 |_::_,⟨_,h⟩,_,.tail _ hm=>HZ.all h _ hm
theorem zH{x:α}(h: ∀S,r.rc S z x)(k:HZ z hs): ∀S,(rH r hs).rc S z x:=fun S=>⟨h S,k.all⟩
def QF(hs:HL)(off sz:Nat):Bool:=hs.all fun p=>Nat.blt p.1 off||Nat.ble (off+sz) p.1
def RX(hs:HL)(off sz:Nat)(v:Option Value):HL→Prop
 |[]=>True
 |p::l=>((v=some p.2∧p.1=off∧sz=1)∨(yr hs p.1=some p.2∧(Nat.blt p.1 off||Nat.ble (off+sz) p.1)=true))∧RX hs off sz v l
variable{sz:Nat}
theorem RX.all{off:Nat}{v:Option Value}: ∀{l:HL},RX hs off sz v l→ ∀p∈l,(v=some p.2∧p.1=off∧sz=1)∨(yr hs p.1=some p.2∧(Nat.blt p.1 off||Nat.ble (off+sz) p.1)=true)
 |_::_,⟨h,_⟩,_,.head _=>h
 |_::_,⟨_,h⟩,_,.tail _ hm=>RX.all h _ hm
theorem sZ{ds:List Value}{off k:Nat}(hl:ds.length=sz)(hoff:off+sz≤cs.length)(h:(Nat.blt k off||Nat.ble (off+sz) k)=true):(cs.take off++ds++cs.drop (off+sz))[k]? =cs[k]? :=by
 simp only [zF,tZ,Nat.ble_eq]at h
 have ht:(cs.take off).length=off:=by simp;omega
 rcases h with h|h
 ·rw [Af (by simp;omega),Af (by omega),yV h]
 ·rw [ve (by simp;omega),wR]
  congr 1
  simp only [lM,ht,hl];omega
theorem Mw{ds:List Value}{off:Nat}(hd:ds=[v])(hoff:off+1≤cs.length):(cs.take off++ds++cs.drop (off+1))[off]? =some v:=by
 subst hd
 have ht:(cs.take off).length=off:=by simp;omega
 rw [Af (by simp;omega),ve (by omega),ht,vg]
 rfl
variable{e:TypeId}{hs' :HL}{set:α→β→α}{y:Operand}
theorem vv{off:Nat}{x:α}{y:β}(h:km r off q set)(hk:RX hs off q.sz none hs')(hoff:Nat.ble (off+q.sz) r.sz=true):q0 (rH r hs) (rH r hs') off q x y (set x y):=fun S cs ds h1 h2=>by
 refine⟨h S cs x ds y h1.1 h2,fun p hp=>?_⟩
 rcases hk.all p hp with⟨e,_⟩|⟨g1,g2⟩
 ·cases e
 ·have hl:=r.len h1.1
  rw [sZ (q.len h2) (by have:=rm hoff;omega) g2]
  exact h1.2 _ (rL g1)
theorem SA{off:Nat}(h:km r off q set)(hk:QF hs off q.sz=true)(hoff:Nat.ble (off+q.sz) r.sz=true):km (rH r hs) off q set:=fun S cs x ds y h1 h2=>by
 refine⟨h S cs x ds y h1.1 h2,fun p hp=>?_⟩
 have hl:=r.len h1.1
 rw [sZ (q.len h2) (by have:=rm hoff;omega) (pq.1 hk p hp)]
 exact h1.2 _ hp
variable{A:Type}{E:En}{G:mX}{O:List OE}{X:Type}{Q:Exit→Act→World→Prop}{T U:TypeId}{V:MV β}{a:Act}{after:Array Edge}{agg:Bool}{b bytes cap d:Nat}{dst:Option Tmp}{ρ:Type}{f:X→A→Option (ρ×X)}{g:Option (Nat×Bool)}{ok:α→Prop}{op:Op}{ops:Array Oper}{pos:String}{post:OI→List OE}{rest:List Oper}{t ty:TypeId}{u:Ty}{w:World}{xs:List α}{γ:β→Ty}
section
variable{e:Exit}
section
theorem iV{t:OI→Ty}(h:EffOK E O G ⟨none,op,ty,pos,after,none⟩ post t)(k: ∀x,RG E ops Q rest (post x) G):RG E ops Q (⟨none,op,ty,pos,after,none⟩::rest) O G:= .of rfl fun a w S st=>
 oh (fun a' w' ⟨v,S',x,ha,hx,hs,ho,hv⟩=>by
  subst ha
  exact k x _ _ S' ⟨st.ext.step hx fun b ⟨f,hf,hb⟩=>(fR.mem st.own f hf).2 b hb,hs,ho,st.facts.mono hx.keep⟩) (h a w S st.sat st.own st.facts st.base_le)
theorem jD{γ:Type}{r' :Rp γ}{x:α}{x' :γ}{y:β}{off:Nat}{v:Operand}(ti:TI E.P U sz bytes agg z)(hsz:q.sz=sz)(hset:q0 r r' off q x y x')(hoff:Nat.ble (off+q.sz) r.sz=true)(hp:aK E.N G p (tV (aL b off)))(hv:aK E.N G v (tD q y)):EffOK E (bx r T b x::O) G ⟨none,.store U p v,ty,pos,after,g⟩ (fun _=>bx r' T b x' ::O) (fun _=>Fn):=BN (fun _ h=>(by cases h)) fun a w S hs ho hf hb=>by
 have h1:a.eval p=aL b off:=hp S a hf
 obtain⟨ds,h2,h3⟩:=hv S a hf
 obtain⟨⟨hno,cur,h5,h6⟩,_⟩:=ho.1
 have hl:=r.len h6
 have hoff' :=rm hoff
 obtain⟨w',hr,e1,e2,e3,e4,e5,e6⟩:=jw ti hsz h3 h5 (off:=off) (by simp at hl;omega)
 have hrun:(execOp a.eval ⟨none,.store U p v,ty,pos,after,g⟩).run E.P w= .ok .skip w' :=by
  simp [execOp,h1,h2,Instr.storeAt,aL,Instr.sureAddr,hr]
 obtain⟨g1,g2,g3⟩:=oe (O:=O) hs (bx r T b x) (bx r' T b x') ho (fun _=>rO) (fun _=>rO) ⟨e1,e2,e3,e4.1,e4.2⟩ e6 ⟨hno,_,e5,by simpa using hset S _ _ h6 h3⟩ hno
 exact⟨w',S,u7,hrun,g1.more fun k hk=>⟨_,nf ..,hk⟩,g2,g3⟩
theorem li{x:α}{y:β}{u:Value}{off:Nat}{v:Operand}(ti:TI E.P U 1 bytes false z)(hsz:q.sz=1)(hag:q.agg=false)(hset:km r off q set)(hoff:Nat.ble (off+1) r.sz=true)(hk:RX hs off 1 (some u) hs')(hp:aK E.N G p (tV (aL b off)))(hv:aK E.N G v (tD q y))(hu:aK E.N G v (tV u)):EffOK E (bx (rH r hs) T b x::O) G ⟨none,.store U p v,ty,pos,after,g⟩ (fun _=>bx (rH r hs') T b (set x y)::O) (fun _=>Fn):=BN (fun _ h=>(by cases h)) fun a w S hsat ho hf hb=>by
 have h1:a.eval p=aL b off:=hp S a hf
 obtain⟨ds,h2,h3⟩:=hv S a hf
 have hu' :a.eval v=u:=hu S a hf
 obtain⟨⟨hno,cur,h5,h6⟩,_⟩:=ho.1
 have hl:=r.len h6.1
 have hoff' :=rm hoff
 have hdl:=q.len h3
 have hds:ds=[u]:=by
  obtain⟨d,hd⟩:=List.length_eq_one_iff.1 (by rw [hdl,hsz]:ds.length=1)
  subst hd
  have e1:q.val [d]=d:=by simp [Rp.val,hag]
  rw [h2,e1]at hu'
  rw [hu']
 obtain⟨w',hr,e1,e2,e3,e4,e5,e6⟩:=jw ti hsz h3 h5 (off:=off) (by simp at hl;omega)
 have hrun:(execOp a.eval ⟨none,.store U p v,ty,pos,after,g⟩).run E.P w= .ok .skip w' :=by
  simp [execOp,h1,h2,Instr.storeAt,aL,Instr.sureAddr,hr]
 rw [hsz]at e5
 have hnew:(rH r hs').rc S (cur.toList.take off++ds++cur.toList.drop (off+1)) (set x y):=by
  have h7:=hset S _ _ _ _ h6.1 h3
  rw [hsz]at h7
  refine⟨h7,fun p hp=>?_⟩
  rcases hk.all p hp with⟨f1,f2,_⟩|⟨f1,f2⟩
  ·rw [f2]
   exact Mw (by rw [hds,qL f1]) (by omega)
  ·rw [sZ (by rw [hdl,hsz]) (by omega) f2]
   exact h6.2 _ (rL f1)
 obtain⟨g1,g2,g3⟩:=oe (O:=O) hsat (bx (rH r hs) T b x) (bx (rH r hs') T b (set x y)) ho (fun _=>rO) (fun _=>rO) ⟨e1,e2,e3,e4.1,e4.2⟩ e6 ⟨hno,_,e5,by simpa using hnew⟩ hno
 exact⟨w',S,u7,hrun,g1.more fun k hk=>⟨_,nf ..,hk⟩,g2,g3⟩
end
section
theorem nG{x:α}{u:Value}{off:Nat}(ti:TI E.P U 1 bytes false z)(hk:yr hs off=some u)(hm:bx (rH r hs) T b x∈O)(hp:aK E.N G p (tV (aL b off))):
  cE E O G ⟨dst,.load U p,ty,pos,after,g⟩ (tV u):=(br (q:=rV) ti rfl rfl (UY hk) hm hp).imp fun _ _ h=>(xX.1 h).1
theorem mn{q:Rp α}{r:Rp β}{x:β}{V:TypeId}{off:Nat}{l:Option Nat}(ti:TI E.P U 1 bytes false z)(hk:yr hs off=some (ax l cap xs.length))(hm:bx (rH r hs) T b x∈O)(hm2:tip q V l cap xs∈O)(hp:aK E.N G p (tV (aL b off))):
  cE E O G ⟨dst,.load U p,ty,pos,after,g⟩ (tO q l cap xs):=fun a w S hs' ho hf=>
 oh (fun _ _ ⟨v,S',h1,h2,h3,h4⟩=>⟨v,S',h1,h2,h3,h4,by
  have h5:v=ax l cap xs.length:=h4
  rw [h5]
  exact mj (((ho.ext0 h2).mem _ hm2).1)⟩) (nG (g:=g) (ty:=ty) (pos:=pos) (after:=after) (dst:=dst) ti hk hm hp a w S hs' ho hf)
theorem Nw{t:Ty}(h1: ∀S v,t.p S v→v.oneCell' =true)(hx:aK E.N G x t):cE E O G ⟨dst,.box T x,ty,pos,after,g⟩ (ce (rT t) ()):=
 LE (fun S a hf=>UQ.2 ⟨h1 _ _ (hx S a hf),hx S a hf⟩)
end
def Ng:HL→HL→Prop
 |[],_=>True
 |p::l,hs=>yr hs p.1=some p.2∧Ng l hs
theorem Ng.all: ∀{l:HL},Ng l hs→ ∀p∈l,p∈hs
 |_::_,⟨h,_⟩,_,.head _=>rL h
 |_::_,⟨_,h⟩,_,.tail _ hm=>Ng.all h _ hm
end

variable{κ:Type}{m:List (κ×β)}
theorem EffOK.perm{O' :List OE}{t:OI→Ty}(h:EffOK E O' G o post t)(k: ∀{w S},fR E.base E.B w S O→fR E.base E.B w S O')(m: ∀f∈O',f∈O):EffOK E O G o post t:=fun a w S hs ho hf hb=>
 oh (fun _ _ ⟨v,S',x,h1,h2,h3,h4,h5⟩=>⟨v,S',x,h1,h2.more fun _ ⟨f,hf,hk⟩=>⟨f,m f hf,hk⟩,h3,h4,h5⟩) (h a w S hs (k ho) hf hb)
variable{x0 x1:OE}
namespace EffOK
section
variable{t:OI→Ty}
theorem fr1(h:EffOK E (x1::x0::O) G o post t):EffOK E (x0::x1::O) G o post t:=h.perm (fun hw=>fR.swap hw) (fun f hf=>by simp only [jW]at hf ⊢;rcases hf with h|h|h<;>simp [h])
theorem fr2{x2:OE}(h:EffOK E (x2::x0::x1::O) G o post t):EffOK E (x0::x1::x2::O) G o post t:=h.perm (fun hw=>qw hw) (fun f hf=>by simp only [jW]at hf ⊢;rcases hf with h|h|h|h<;>simp [h])
theorem fr3{x2 x3:OE}(h:EffOK E (x3::x0::x1::x2::O) G o post t):EffOK E (x0::x1::x2::x3::O) G o post t:=h.perm (fun hw=>sn hw) (fun f hf=>by simp only [jW]at hf ⊢;rcases hf with h|h|h|h|h<;>simp [h])
end
end EffOK
variable{N:Fr}{P:Program}{args:A→List Ty}{c:Code}{n:Nat}{res:ρ→Ty}{zs:List α}
section
theorem H3{y v:α}{i:Int}(ti:TI E.P U sz bytes agg z)(hsz:r.sz=sz)(hy:gj xs i=some y)(hz:xs.set i.toNat v=zs)(hp:aK E.N G p (tV (aL b (i.toNat*r.sz))))(hv:aK E.N G x (tD r v)):EffOK E (bx (oz r n) T b xs::O) G ⟨none,.store U p x,ty,pos,after,g⟩ (fun _=>bx (oz r n) T b zs::O) (fun _=>Fn):=BN (fun _ h=>(by cases h)) fun a w S hsat hown hf hbase=>by
 subst hz
 have h1:a.eval p=aL b (i.toNat*r.sz):=hp S a hf
 obtain⟨ds,h2,h3⟩:=hv S a hf
 obtain⟨⟨hno,cur,h5,h6⟩,_⟩:=hown.1
 obtain⟨h0,hy'⟩:=mp hy
 have hlt:i.toNat<xs.length:=(kF.1 hy').1
 have hl:=kL h6.2
 simp only [EZ]at hl
 have hmul:i.toNat*r.sz+r.sz≤xs.length*r.sz:=by rw [←Nat.succ_mul];exact xK _ hlt
 obtain⟨w',hr,e1,e2,e3,e4,e5,e6⟩:=jw ti hsz h3 h5 (off:=i.toNat*r.sz) (by omega)
 have hrun:(execOp a.eval ⟨none,.store U p x,ty,pos,after,g⟩).run E.P w= .ok .skip w' :=by
  simp [execOp,h1,h2,Instr.storeAt,aL,Instr.sureAddr,hr]
 obtain⟨g1,g2,g3⟩:=oe (O:=O) hsat (bx (oz r n) T b xs) (bx (oz r n) T b (xs.set i.toNat v)) hown (fun _=>rO) (fun _=>rO) ⟨e1,e2,e3,e4.1,e4.2⟩ e6 ⟨hno,_,e5,by rw [Aa];exact h6.1,Ax h3 h6.2 hlt⟩ hno
 exact⟨w',S,u7,hrun,g1.more fun c hc=>⟨_,nf ..,hc⟩,g2,g3⟩

section
theorem bg{off:Nat}(hx:aK E.N G x (tV (aL b off))):cE E O G ⟨dst,.nilCheck x,ty,pos,after,g⟩ (tV (aL b off)):= .of_pure fun a w S _ _ hf=>by
 have h1:a.eval x=aL b off:=hx S a hf
 exact⟨aL b off,by simp [execOp,h1,aL],rfl⟩
theorem Nu{y:α}(hx:aK E.N G x (ce r y)):cE E O G ⟨dst,.nilCheck x,ty,pos,after,g⟩ (ce r y):= .of_pure fun a w S _ _ hf=>by
 have h0:=hx S a hf
 obtain⟨b,off,c,U,fr,h1,h2,h3⟩:=h0
 exact⟨_,by simp [execOp,h1],b,off,c,U,fr,rfl,h2,h3⟩
theorem tL{t:Ty}(ti:TI E.P U 1 bytes false z)(hp:aK E.N G p (ce (rT t) ())):cE E O G ⟨dst,.load U p,ty,pos,after,g⟩ t:=F1 ti hp
end
theorem GN{O' :List OE}(h:O=O')(k:RG E ops Q rest O' G):RG E ops Q rest O G:=by subst h;exact k
theorem hW{u:Value}(h:aK N G x (tV u))(ho:u.oneCell' =true):aK N G x (tD rV u):=fun S a hf=>xX.2 ⟨h S a hf,ho⟩
theorem hTT{t:Ty}(h1: ∀S v,t.p S v→v.oneCell' =true)(h:aK N G x t):aK N G x (tD (rT t) ()):=fun S a hf=>UQ.2 ⟨h1 _ _ (h S a hf),h S a hf⟩
theorem Nt{args:α→List Ty}{res:β→Ty}{f:α→Option β}: ∀S v,(kG P args res f).p S v→v.oneCell' =true:=fun _ _ ⟨_,_,e,_⟩=>by rw [e];rfl
end

variable{j:Nat}{lo:Int}{mm:Bool}{ys:List α}
theorem Fo{l:Option Nat}{t' e' :TypeId}(ht:P.underlying t' =some (.slice e'))(h:yJ mm r U l cap xs w S)(hs:eP xs lo (xs.length:Int)=some ys):
  ∃news,Src P r.sz t' (m0 r.sz l cap lo.toNat ys.length) ys.length news w∧qT r S news ys:=by
 obtain⟨cells,h1,h2,_⟩:=h
 obtain⟨lo',m,rfl,hm,h3,h4,rfl⟩:=gu hs
 have hm' :m=xs.length:=by omega
 subst hm'
 rw [xN,AJ]
 cases l with
 |none=>
  have hx:xs=[]:=tv h1.1
  subst hx
  exact⟨[],by simpa [m0] using Src.ofNil w ht 0,by simp [qT]⟩
 |some b=>
  obtain⟨cur,g1,g2,g3,g4,g5⟩:=h1
  have hlen:(xs.drop lo').length=xs.length-lo' :=by simp
  have hcl:=kL h2
  have hsp:xs=xs.take lo' ++xs.drop lo' :=(tt lo' xs).symm
  have htl:(xs.take lo').length=lo' :=by simp;omega
  have hr:qT r S (cells.drop (lo' *r.sz)) (xs.drop lo'):=by
   rw [hsp]at h2
   have:=(pe h2).2
   rwa [htl]at this
  have hmul:lo' *r.sz≤xs.length*r.sz:=xK _ h3
  refine⟨cells.drop (lo' *r.sz),?_,hr⟩
  unfold m0
  refine Src.ofSlice w ht _ _ _ _ (kL hr) (fun j u hu=>?_) (yi hr)
  by_cases hc:cap=lo'
  ·have:xs.drop lo' =[]:=E2 (by omega)
   rw [this]at hr
   have hr' :cells.drop (lo' *r.sz)=[]:=hr
   rw [hr']at hu;simp at hu
  ·simp only [hc,qK]
   rw [jf,wG g1]
   rw [wR,←g5]at hu
   have hj:lo' *r.sz+j<xs.length*r.sz:=by
    have:=(kF.1 hu).1
    simp at this;omega
   rw [yV hj]at hu
   simpa using hu
section
theorem KD{l:Option Nat}{yt:TypeId}(ht:E.P.underlying t=some (.slice e))(hm:lP mm r U l cap xs∈O)(hs:eP xs lo (xs.length:Int)=some ys)(hx:aK E.N G x (tV (m0 r.sz l cap lo.toNat ys.length)))(hd:Nat.blt d E.N.n=true)(k: ∀b,(b=true→ys=[])→RG E ops Q rest O ((d,tD rB b)::G)):RG E ops Q (⟨some d,.binOp .eql t x (.const (.slice none 0 0)) yt,ty,pos,after,none⟩::rest) O G:= .of rfl fun a w S st=>by
 have h1:a.eval x=m0 r.sz l cap lo.toNat ys.length:=hx S a st.facts
 obtain⟨⟨cells,hraw,_⟩,_⟩:=st.own.mem _ hm
 have hcn:a.eval (.const (.slice none 0 0))= .slice none 0 0:=rfl
 cases l with
 |none=>
  have hx0:xs=[]:=tv hraw.1
  have hy0:ys=[]:=by
   obtain⟨lo',m,_,_,_,_,rfl⟩:=gu hs
   subst hx0;simp
  have h3:(Op.equal t (.slice none 0 0) (.slice none 0 0)).run E.P w= .ok true w:=yb fun d=>by
   simp [Op.equalIn,jQ ht]
  have hrun:(execOp a.eval ⟨some d,.binOp .eql t x (.const (.slice none 0 0)) yt,ty,pos,after,none⟩).run E.P w= .ok (.value (.bool true)) w:=by
   simp [execOp,h1,m0,hcn,eqGuard,binOp,h3]
  refine⟨fun c h=>(by cases h),?_⟩
  rw [hrun]
  exact k true (fun _=>hy0) _ _ S (st.step (kU _ _ _) st.sat hd (gY.2 rfl))
 |some b=>
  obtain⟨ad,hv⟩: ∃ad,m0 r.sz (some b) cap lo.toNat ys.length= .slice (some ad) ys.length (cap-lo.toNat):=⟨_,rfl⟩
  have h3:(Op.equal t (.slice (some ad) ys.length (cap-lo.toNat)) (.slice none 0 0)).run E.P w= .ok false w:=yb fun d=>by
   simp [Op.equalIn,jQ ht]
  have hrun:(execOp a.eval ⟨some d,.binOp .eql t x (.const (.slice none 0 0)) yt,ty,pos,after,none⟩).run E.P w= .ok (.value (.bool false)) w:=by
   simp [execOp,h1,hv,hcn,eqGuard,binOp,h3]
  refine⟨fun c h=>(by cases h),?_⟩
  rw [hrun]
  exact k false (fun e=>(by cases e)) _ _ S (st.step (kU _ _ _) st.sat hd (gY.2 rfl))
theorem If{t' :TypeId}{l l2:Option Nat}{cap2:Nat}{us:List α}(ti:TI E.P T sz bytes agg z)(hsz:r.sz=sz)(hz:Nat.beq z.length sz=true)(h0:Nat.blt 0 sz=true)(h128:Nat.ble bytes 2048=true)(ht:E.P.underlying t=some (.slice T))(ht' :t' =t)(hd:Nat.blt d E.N.n=true)(hx:aK E.N G x (tV (ax l cap n)))(hm:lP mm r U l2 cap2 us∈df r T l cap xs::O)(hs:eP us lo (us.length:Int)=some ys)(hy:aK E.N G y (tV (m0 r.sz l2 cap2 lo.toNat ys.length)))(happ:gn xs ys=some zs)(k: ∀l' cap',RG E ops Q rest (df r T l' cap' zs::O) ((d,tV (ax l' cap' zs.length))::G))(hn:n=xs.length:=by rfl):
  RG E ops Q (⟨some d,.call ⟨.builtin .append,#[x,y],#[t,t']⟩,ty,pos,after,none⟩::rest) (df r T l cap xs::O) G:=by
 subst ht'
 exact uI (u:=fun cap' l' =>tV (ax l' cap' zs.length)) ti hsz hz h0 h128 ht hd hx (fun a w S st=>by
  have h1:a.eval y=m0 r.sz l2 cap2 lo.toNat ys.length:=hy S a st.facts
  rw [h1]
  exact Fo ht (st.own.mem _ hm).1 hs) happ (fun _ _ _ _ _=>rfl) k hn
end

section
variable{args:α→List Ty}{it:It α}{fp:Nat→Prop}
end



def wT(l:List (Option Nat×Nat)):OI:={h:=fun n=>l.getD n (none,0)}
def eg(P:Program){A X ρ:Type}(args:A→List Ty)(Ob:X→OI→List OE)(res:ρ→Ty)(f:X→A→Option (ρ×X)):Ty where
 p:=fun S v=> ∀x y R,f x y=some R→ ∃fid fst cap,v= .func (.func fid) fst cap∧an P fid=true∧ ∀i w S' vs,SH.le S S' →lI w S' →wH S' (args y) vs→fR 0 tN w S' (Ob x i)→
  Calls P fid (fst++vs.toArray++cap) w fun en w' => ∃j v S'',en= .returned v∧(res R.1).p S'' v∧kj (EY (Ob x i)) w S' w' S'' ∧lI w' S'' ∧fR 0 tN w' S'' (Ob R.2 j)∧ ∀k,EY (Ob R.2 j) k→EY (Ob x i) k∨w.heap.size≤k
 mono:=fun h k x y R hf=>by
  obtain⟨fid,fst,cap,e,hc,hs⟩:=k x y R hf
  exact⟨fid,fst,cap,e,hc,fun i w S' vs hle=>hs i w S' vs (SH.le_trans h hle)⟩
variable{Ob:X→OI→List OE}
theorem CX:(eg P args Ob res (fun _ _=>none)).p S v:=fun _ _ _ h=>by cases h
variable{ats:Array TypeId}{fid:FuncId}{ts:List Ty}
section
section
theorem pF(hc:an E.P fid=true)(hp:aK E.N G p (tV (aL b 0)))(hs: ∀x y R,f x y=some R→ ∀i,dK E.P fid (tV (aL b 0)::args y) (Ob x i) (fun _:OI=>res R.1) (fun j=>Ob R.2 j)):
  cE E O G ⟨dst,.makeFunc (.func fid) #[p] #[],ty,pos,after,g⟩ (eg E.P args Ob res f):= .of_pure fun a w S _ _ hf=>by
 have h1:a.eval p=aL b 0:=hp S a hf
 refine⟨.func (.func fid) #[aL b 0] #[],by simp [execOp,Instr.makeFunc,h1],fun x y R hR=>⟨fid,#[aL b 0],#[],rfl,hc,fun i w' S' vs _ hsat hv ho=>?_⟩⟩
 have:=hs x y R hR i w' S' (aL b 0::vs) hsat ⟨rfl,hv⟩ ho
 rw [show(#[aL b 0]++vs.toArray++ #[]:Array Value)=(aL b 0::vs).toArray from by simp]
 exact this
theorem nF(hc:an E.P fid=true)(hs: ∀x y R,f x y=some R→ ∀i,dK E.P fid (args y) (Ob x i) (fun _:OI=>res R.1) (fun j=>Ob R.2 j)):
  aK E.N G (.func fid) (eg E.P args Ob res f):=fun S a _ x y R hR=>
 ⟨fid,#[],#[],rfl,hc,fun i w' S' vs _ hsat hv ho=>by
  rw [show(#[]++vs.toArray++ #[]:Array Value)=vs.toArray from by simp]
  exact hs x y R hR i w' S' vs hsat hv ho⟩
end
theorem yF{x:X}{y:A}{R:ρ×X}{i:OI}{fo:Operand}{xs:List Operand}(Or:List OE)(hO:O=Ob x i++Or)(hf:aK E.N G fo (eg E.P args Ob res f))(hR:f x y=some R)(hx:mi E.N G xs (args y))(hpost: ∀j,Ob R.2 j++Or=post j):
  EffOK E O G ⟨some d,.call ⟨.value fo,xs.toArray,ats⟩,ty,pos,after,g⟩ post (fun _=>res R.1):=fun a w S hsat ho hF hb=>by
 subst hO
 obtain rfl:(fun j=>Ob R.2 j++Or)=post:=funext hpost
 obtain⟨fid,fst,cap,e,hc,hs⟩:=hf S a hF x y R hR
 have hr:(execOp a.eval ⟨some d,.call ⟨.value fo,xs.toArray,ats⟩,ty,pos,after,g⟩).run E.P w= .ok (.enter fid (fst++(xs.map a.eval).toArray++cap)) w:=by
  simp [execOp,resolve,e,Deferred.ofValue,invoke,iP hc]
 refine⟨fun c h=>(by cases h),?_⟩
 rw [hr]
 exact(hs i w S _ (SH.le_refl _) hsat (hx.tys hF) (qv ho).1.weak).mono fun en w' ⟨j,v,S',he,hv,h1,h2,h3,h4⟩=>⟨_,he,v,S',j,rfl,h1.more fun b ⟨f,hf,hb⟩=>⟨f,CS _ hf,hb⟩,h2,fR.turn ho hb h1 h3 h4,hv⟩
section
variable{N:Nat}{w0:World}{S0:SH}{fn:Func}{O1:List OE}{ι:Type}{t:ι→Ty}{O2:ι→List OE}
theorem GW{rvs:List ResultVar}(hr:fn.results=rvs.toArray)(h1:Nat.beq rvs.length 1=false)(h:MM P ⟨N,[]⟩ G rvs ts)(i:ι)(hO:O=O2 i)(ht:t i=tT ts):
  AT ⟨P,⟨N,[]⟩,EY O1,w0,S0,none⟩ (bodyPost P fn (Kq ⟨P,⟨N,[]⟩,EY O1,w0,S0,none⟩ O1 t O2)) .ret O G:=fun a w S st=>by
 obtain⟨vs,k1,k2,k3⟩:=h.run st.sat st.facts
 have hne: ¬vs.length=1:=by rw [k3];intro e;rw [e]at h1;cases h1
 refine⟨st.facts.defers,.tuple vs.toArray,?_,AG st rfl i hO (by rw [ht];exact⟨vs,rfl,k2⟩)⟩
 have e1:(fn.results.mapM (D4 a.tmps)).run P w= .ok vs.toArray w:=by
  rw [hr,List.mapM_toArray,Sem.run_map,k1]
  rfl
 have e3:results fn a.tmps=((fn.results.mapM (D4 a.tmps))>>=fun vs=>pure (if h:vs.size=1 then vs[0]else .tuple vs)):=rfl
 rw [e3,s4,e1]
 simp [Result.andThen,hne]
end
end
variable{et:TypeId}{hi:Int}{kt:TypeId}{kv:κ→Value}{os:List (Option Nat×Nat)}
section
variable [DecidableEq κ]{k:κ}{i v:Operand}{dst:Option Nat}
theorem jt{y:β}(hm:E.P.underlying t=some (.map kt et))(hk:GS E.P kt kv)(hx:aK E.N G x (tV (th b)))(hi:Jr E.N G i (kv k))(hv:aK E.N G v (γ y))(h: ∀os',RG E ops Q rest (tP (Di γ) kv b none os' (gi m k y)::O) G):
  RG E ops Q (⟨none,.insert t x i v,ty,pos,after,none⟩::rest) (tP (Di γ) kv b none os m::O) G:= .of rfl fun a w S st=>by
 have h1:a.eval x=th b:=hx S a st.facts
 have h2:a.eval i=kv k:=hi S a st.facts
 have h3:(γ y).p S (a.eval v):=hv S a st.facts
 obtain⟨⟨hp,hfp⟩,hap,hO⟩:=st.own
 obtain⟨hno,hnb,es,clock,e3,e4,hst⟩:=hp
 obtain⟨q,hq,hdk,hinj⟩:=hk
 obtain⟨os1,p1,p2,_⟩:=uC hdk hinj (k:=k) 0 e4
 have hnb1: ∀o∈os1,o.1≠some b:=fun o ho=>by
  rcases p1 o ho with h|h
  ·exact hnb o h
  ·rw [h];exact fun e=>by cases e
 obtain⟨w',os',r,x1,x2,x3,x4⟩:=J8 (V:=Di γ) (E:=E) (y:=y) (o:=(none,0)) (val:=a.eval v) st.sat hm ⟨q,hq,hdk,hinj⟩ ⟨hno,hnb1,es,clock,e3,p2,hst⟩ ⟨rfl,h3⟩ (fun e=>by cases e) (fun _ _ _ e=>by cases e)
 have hrun:(execOp a.eval ⟨none,.insert t x i v,ty,pos,after,none⟩).run E.P w= .ok .skip w' :=by simp [execOp,h1,h2,r]
 refine⟨fun c h=>(by cases h),?_⟩
 rw [hrun]
 have hfp' : ∀j,(tP (Di γ) kv b none os' (gi m k y)).fp j→(tP (Di γ) kv b none os m).fp j:=fun j hj=>by
  rcases x4 j hj with(h|⟨o,ho,e⟩)|e
  ·exact .inl h
  ·rcases p1 o ho with h|h
   ·exact .inr ⟨o,h,e⟩
   ·rw [h]at e;cases e
  ·cases e
 exact h os' _ _ S ⟨st.ext.step x1 (fun c hc=>hfp c (.inl hc)),x2,⟨⟨x3,fun j hj=>hfp j (hfp' j hj)⟩,fun f hf j hj=>hap f hf j (hfp' j hj),hO.ext x1 fun f hf j hj hjb=>hap f hf j (.inl hjb) hj⟩,st.facts⟩
end

def Ds{κ β:Type}(γ:β→Ty)(kv:κ→Value)(S:SH):List MapEntry→List (κ×β)→Prop
 |[],[]=>True
 |e::es,q::m=>e.key=kv q.1∧(γ q.2).p S e.val∧(∀p∈m,p.1≠q.1)∧Ds γ kv S es m
 |_,_=>False
theorem xC{κ β:Type}{γ:β→Ty}{kv:κ→Value}{S S' :SH}(h:SH.le S S'): ∀{es:List MapEntry} {m:List (κ×β)},Ds γ kv S es m→Ds γ kv S' es m
 |[],[],_=>trivial
 |_::_,q::_,⟨h1,h2,h3,h4⟩=>⟨h1,(γ q.2).mono h h2,h3,xC h h4⟩
theorem Mv{κ β:Type} [DecidableEq κ]{γ:β→Ty}{kv:κ→Value}{w:World}{S:SH}: ∀{es:List MapEntry} {os:List (Option Nat×Nat)} {m:List (κ×β)},u5 (Di γ) kv w S none es os m→Ds γ kv S es m
 |[],[],[],_=>trivial
 |_::_,_::_,_::_,⟨h1,h2,_,h4,h5⟩=>⟨h1,by rw [aW (by simp)]at h2;exact h2.2,h4,Mv h5⟩
theorem MQ{κ β:Type} [DecidableEq κ]{γ:β→Ty}{kv:κ→Value}{w:World}{S:SH}: ∀{es:List MapEntry} {m:List (κ×β)},Ds γ kv S es m→u5 (Di γ) kv w S none es (m.map fun _=>(none,0)) m
 |[],[],_=>trivial
 |_::_,_::_,⟨h1,h2,h3,h4⟩=>⟨h1,by rw [aW (by simp)];exact⟨rfl,h2⟩,fun _ _ _ h=>(by cases h),h3,MQ h4⟩
def Sx{κ β:Type}(γ:β→Ty)(kv:κ→Value)(m:List (κ×β)):Ty where
 p:=fun S v=> ∃b es clock,v=th b∧S b=some (.map es clock)∧Ds γ kv S es.toList m
 mono:=fun h ⟨b,es,cl,e,h1,h2⟩=>by
  obtain⟨o',h3,h4⟩:=h b _ h1
  have h5:o' = .map es cl:=h4
  subst h5
  exact⟨b,es,cl,e,h3,xC h h2⟩
section
variable [DecidableEq κ]{k:κ}{i:Operand}{dst:Option Nat}
theorem F0{z:β}{zv:Value}(hm:E.P.underlying t=some (.map kt et))(hk:GS E.P kt kv)(hz:ZV E.P et zv)(hzt: ∀S,(γ z).p S zv)(hx:aK E.N G x (Sx γ kv m))(hi:Jr E.N G i (kv k)):
  cE E O G ⟨dst,.lookup t x i false,ty,pos,after,g⟩ (γ ((tg m k).getD z)):= .of_pure fun a w S hs ho hf=>by
 obtain⟨b,es,clock,h1,h3,h4⟩:=hx S a hf
 obtain⟨o',h5,h6⟩:=hs b _ h3
 have h7:o' = .map es clock:=h6
 subst h7
 obtain⟨q,hq,hd,hinj⟩:=hk
 have h2:a.eval i=kv k:=hi S a hf
 obtain⟨_,_,_,h8⟩:=uC hd hinj (k:=k) 0 (MQ (w:=w) h4)
 rcases h8 with⟨g1,g2⟩|⟨y,o,e,j,g1,g2,g3,g4,g5⟩
 ·refine⟨zv,by simp [execOp,h1,h2,qy hm hq (hd k) h5 hz g2],by rw [g1];exact hzt S⟩
 ·refine⟨e.val,by simp [execOp,h1,h2,qy hm hq (hd k) h5 hz g4],by rw [g1];exact g3.2⟩
theorem St.settleMp(h:St E (tP (Di γ) kv b none os m::O) G a w S)(hk:d9 G j=some (tV (th b))): ∃S',St E O ((j,Sx γ kv m)::G) a w S' :=by
 obtain⟨⟨hn,_,es,clock,h3,h4,_⟩,_⟩:=h.own.1
 obtain⟨h8,hle,_,_⟩:=xl h (.inl rfl) h3 (sd _) hn
 have hv:a.tmps.getD j undef=th b:=h.facts.at_ j _ hk
 exact⟨_,h8.cons ⟨b,es,clock,hv,by simp [SH.set],xC hle (Mv h4)⟩⟩
theorem GV{e:Exit}(j:Nat)(hk:d9 G j=some (tV (th b)))(h:AT E Q e O ((j,Sx γ kv m)::G)):AT E Q e (tP (Di γ) kv b none os m::O) G:=
 fun a w _ st=>let⟨S',st'⟩:=st.settleMp hk;h a w S' st'
end

open Go.MapKept (Stamped)
section
variable [DecidableEq κ]
end
section
variable [DecidableEq κ]{r:Nat}{left:List κ}{cur:Option κ}{k:κ}{i v:Operand}{dst:Option Nat}
end
open Go.RowKit

def zK(xs:List Int):Ky:=xs.map fun n=>UInt8.ofNat n.toNat
theorem BE: ∀(xs:List Int) (r:ByteArray),xs.foldl (fun r n=>r.push (UInt8.ofNat n.toNat)) r=⟨r.data++(zK xs).toArray⟩
 |[],r=>by simp [zK]
 |x::xs,r=>by
  rw [List.foldl_cons,BE xs]
  simp [zK,ByteArray.push]
theorem yj{k:IntKind}{S:SH}: ∀{xs:List Int} {cs:List Value},qT (rI k) S cs xs→cs=xs.map (Value.int k)
 |[],cs,h=>by rw [show cs=[]from h];rfl
 |x::xs,cs,⟨a,b,e,h1,h2⟩=>by
  rw [e,show a=[.int k x]from h1,yj h2]
  rfl
section
theorem De{xs:List Int}{st dt:TypeId}(hs:E.P.underlying st=some (.slice e))(he:E.P.underlying e=some (.int .u8))(hd:E.P.underlying dt=some .string)(ti:TI E.P e sz bytes agg z)(hsz:Nat.beq sz 1=true)(hx:aK E.N G x (tD (gB (rI .u8)) xs)):cE E O G ⟨dst,.convert st dt x,ty,pos,after,g⟩ (tD rS (zK xs)):= .of_pure fun a w S hsat _ hf=>by
 obtain⟨ad,cap,hv,hle,hmax,hsl⟩:=m4.1 (hx S a hf)
 refine⟨.string ⟨(zK xs).toArray⟩,?_,y4.2 rfl⟩
 have key: ∀(ad:Option Addr),C1 (rI .u8) S ad xs→(ad=none→xs=[])→(Conv.bytesToString (.slice ad xs.length cap)).run E.P w= .ok (.string ⟨(zK xs).toArray⟩) w:=fun ad h h0=>by
  cases ad with
  |none=>rw [h0 rfl];rfl
  |some p=>
   have hl:(loadCells p xs.length).run E.P w= .ok (xs.map (Value.int .u8)).toArray w:=by
    rcases h with h|⟨b,off,cc,T,fr,h1,h2,h3⟩
    ·rw [h];rfl
    ·cases h1
     obtain⟨c',h4,h5⟩:=hsat.part h2 (kL h3)
     have h6:xs.length*(rI .u8).sz=xs.length:=by show xs.length*1=_;omega
     rw [h6]at h3 h5
     have h7:=yj h3
     exact tE h4 (h5.trans h7) (by simp)
   rw [run_bytesToString w p xs.length cap xs hl,BE]
   simp [ByteArray.empty,ByteArray.emptyWithCapacity]
   rfl
 simp [execOp,hv,run_convert_bytes_string w st dt e _ _ _ hs he hd,key ad hsl (fun h=>by
  rcases hsl with h1|⟨b,off,cc,T,fr,h1,_⟩
  ·exact h1
  ·rw [h]at h1;cases h1)]
end

abbrev NG:=Nat→(Option Nat×Nat)×(Nat→Option Nat×Nat)
inductive NPl where
 |o
 |i (k:Nat)
 |l (k j:Nat)
section
def hd2(q:Nat→Option Nat×Nat)(zs:List (List α)):List Value:=zs.mapIdx fun j z=>ax (q j).1 (q j).2 z.length
def hd1(prj:β→List (List α))(g:NG)(x:List β):List Value:=x.mapIdx fun k y=>ax (g k).1.1 (g k).1.2 (prj y).length
def nsB(prj:β→List (List α))(l:Option Nat)(g:NG)(x:List β)(h:Option (Nat×Nat)):NPl→Option Nat
 | .o=>l
 | .i k=>(x[k]?).bind fun _=>(g k).1.1
 | .l k j=>if h=some (k,j)then none else((x[k]?).bind fun y=>(prj y)[j]?).bind fun _=>((g k).2 j).1
structure nstP(prj:β→List (List α))(r:Rp α)(T1 T2 T3:TypeId)(l:Option Nat)(cap n:Nat)(g:NG)(x:List β)(h:Option (Nat×Nat))(w:World)(S:SH):Prop where
 len:x.length=n
 out:yJ false rV T1 l cap (hd1 prj g x) w S
 inn: ∀k y,x[k]? =some y→yJ false rV T2 (g k).1.1 (g k).1.2 (hd2 (g k).2 (prj y)) w S
 lvs: ∀k y j z,x[k]? =some y→(prj y)[j]? =some z→h≠some (k,j)→yJ true r T3 ((g k).2 j).1 ((g k).2 j).2 z w S
 inj: ∀s t b,nsB prj l g x h s=some b→nsB prj l g x h t=some b→s=t
variable{prj:β→List (List α)}{T1 T2 T3:TypeId}{l:Option Nat}{g:NG}{x:List β}{h:Option (Nat×Nat)}{w' :World}{S' :SH}
end
section
variable{prj:β→List (List α)}{T1 T2 T3:TypeId}{l:Option Nat}{g:NG}{x:List β}{h:Option (Nat×Nat)}
variable{gd:Option (Nat×Bool)}
open Classical in
noncomputable def UG(w:World)(S:SH)(P:Nat→Prop):SH:=fun b=>if P b then w.heap[b]? else S b
def g0(hs:List (Option Nat×Nat)):NG:=fun k=>(hs.getD k (none,0),fun _=>(none,0))
def tsB(l:Option Nat)(q:Nat→Option Nat×Nat)(zs:List (List α))(h:Option Nat):Option Nat→Option Nat
 |none=>l
 |some j=>if h=some j then none else(zs[j]?).bind fun _=>(q j).1
structure rowP(r:Rp α)(T2 T3:TypeId)(l:Option Nat)(cap n:Nat)(q:Nat→Option Nat×Nat)(zs:List (List α))(h:Option Nat)(w:World)(S:SH):Prop where
 len:zs.length=n
 inn:yJ false rV T2 l cap (hd2 q zs) w S
 lvs: ∀j z,zs[j]? =some z→h≠some j→yJ true r T3 (q j).1 (q j).2 z w S
 inj: ∀s t b,tsB l q zs h s=some b→tsB l q zs h t=some b→s=t
variable{q:Nat→Option Nat×Nat}{zs:List (List α)}{k:Option Nat}
end

def dnE(es:List Bool)(done:Array Bool):List Nat:=(List.range es.length).filter fun k=>(es[k]?).getD false&&done.getD k false
def eqL:List Nat→List Nat→Bool
 |[],[]=>true
 |a::s,b::t=>Nat.beq a b&&eqL s t
 |_,_=>false
def OmT:List (List Nat×((Nat→OI)→List OE))→List Nat→(Nat→OI)→List OE
 |[],_,_=>[]
 |p::r,s,σ=>bif eqL p.1 s then p.2 σ else OmT r s σ
def Pp{α:Type}(p:α→Prop):List α→Prop
 |[]=>True
 |a::l=>p a∧Pp p l
theorem Pp.mem{p:α→Prop}: ∀{l:List α},Pp p l→ ∀a∈l,p a
 |_::_,⟨h,_⟩,_,.head _=>h
 |_::_,⟨_,h⟩,_,.tail _ hm=>Pp.mem h _ hm
abbrev SsT:=List (List Nat×((Nat→OI)→List OE))
structure DJT(E:En)(G:mX)(l:List Oper)(ts:List TS)(Ss:SsT)(es:List Bool)(done:Array Bool)(a:Act)(w:World)(S:SH)(σ:Nat→OI):Prop where
 ext:kj E.B E.w0 E.S0 w S
 sat:lI w S
 own:fR E.base E.B w S (OmT Ss (dnE es done) σ)
 size:a.tmps.size=E.N.n
 defers:a.defers=E.N.ds
 dsz:done.size=l.length
 down: ∀j o,l[j]? =some o→done.getD j false=true→ ∀e∈o.after,Region.binds .any e=true→done.getD e.on false=true
 old: ∀k t,d9 G k=some t→(∀j o,l[j]? =some o→done.getD j false=true→o.dst≠some k)→t.p S (a.tmps.getD k undef)
 new: ∀j o d p,l[j]? =some o→done.getD j false=true→o.dst=some d→ts[j]? =some p→(p.at σ).p S (a.tmps.getD d undef)
 deps: ∀j p,done.getD j false=true→ts[j]? =some p→ ∀k∈p.1,done.getD k false=true
section
variable{L:List Oper}{ts:List TS}{Ss:SsT}{es:List Bool}
end


section
end
open Go.ChangeShapes Go.WideShapes Go.ChangeAt

variable{H:Type}{W:World}{enc:TypeId×Value→H}{gs:Nat}
section
def F8(W:World):SH:=fun b=>W.heap[b]?
theorem Qm(W:World)(hg: ∀p∈SQ,∃c T fr,W.heap[p.1]? =some (.cells c T fr)∧c.toList.take p.2.length=p.2)(ht: ∀w' :World,(∀(b:Nat) (o:Obj),W.heap[b]? =some o→ ∃o',w'.heap[b]? =some o' ∧EW o o')→Sw w'):lI W (F8 W):=⟨fun _ o h=>⟨o,h,sd o⟩,hg,ht⟩
def uV(enc:TypeId×Value→H)(P:Program)(W:World){α:Type}(t:TypeId)(r:Rp α):Prop:=
 P.cellsOf t=r.sz∧ ∀fuel cs x,DataW.trod enc P W 0 (fun _=>true) true fuel t cs=some x→ ∃y,r.rc (F8 W) cs y
theorem Lj(h:P.underlying t=some .bool)(hc:P.cellsOf t=1):uV enc P W t rB:=⟨hc,fun fuel cs x hx=>by
 cases fuel with
 |zero=>simp [DataW.trod]at hx
 |succ n=>
  unfold DataW.trod at hx
  rw [h]at hx
  split at hx
  all_goals try (injections;done)
  ·exact⟨_,rfl⟩⟩
theorem tQ{α β:Type}{f:α→Option β}: ∀{l:List α} {r:List β},l.mapM f=some r→r.length=l.length∧ ∀(i:Nat) (x:α),l[i]? =some x→ ∃y,r[i]? =some y∧f x=some y
 |[],r,h=>by
  simp at h
  subst h
  exact⟨rfl,fun i x hx=>by simp at hx⟩
 |a::l,r,h=>by
  rw [List.mapM_cons]at h
  cases hf:f a with
  |none=>rw [hf]at h;simp at h
  |some b=>
   rw [hf]at h
   cases hm:l.mapM f with
   |none=>rw [hm]at h;simp at h
   |some r' =>
    rw [hm]at h
    simp at h
    subst h
    obtain⟨h1,h2⟩:=tQ hm
    refine⟨by simp [h1],fun i x hx=>?_⟩
    cases i with
    |zero=>simp at hx;subst hx;exact⟨b,rfl,hf⟩
    |succ i=>exact h2 i x (by simpa using hx)
theorem zq{a:Addr}(h:W.cell? a=some v):a.spot=none∧ ∃c E fr,W.heap[a.block]? =some (.cells c E fr)∧c[a.off]? =some v:=by
 unfold World.cell? at h
 cases ho:W.heap[a.block]? with
 |none=>rw [ho]at h;cases h
 |some o=>
  rw [ho]at h
  cases o with
  |cells c E fr=>
   simp only at h
   by_cases hs:a.spot.isSome=true
   ·rw [bq hs]at h;cases h
   ·rw [aW hs]at h
    exact⟨by cases hq:a.spot with
     |none=>rfl
     |some s=>rw [hq]at hs;simp at hs,c,E,fr,rfl,h⟩
  |_=>simp at h
theorem Dy(a:Addr):a.add 0=a:=by unfold Addr.add;rfl
theorem H7{off:Nat}(h:W.cells? 0 ⟨b,off,none⟩ n=some cs)(hn:0<n): ∃c E fr,W.heap[b]? =some (.cells c E fr)∧cs=(c.toList.drop off).take n:=by
 unfold World.cells? at h
 rw [bq (nU _)]at h
 obtain⟨h1,h2⟩:=tQ h
 obtain⟨v,_,hv⟩:=h2 0 0 (by simp [hn])
 obtain⟨_,c,E,fr,h3,h4⟩:=zq hv
 refine⟨c,E,fr,by simpa [Addr.add] using h3,?_⟩
 apply List.ext_getElem?
 intro i
 have hl:cs.length=n:=by simpa using h1
 by_cases hi:i<n
 ·obtain⟨v,h5,h6⟩:=h2 i i (by simp [hi])
  obtain⟨_,c',E',fr',h7,h8⟩:=zq h6
  rw [jf]at h7 h8
  have h7' :W.heap[b]? =some (.cells c' E' fr'):=h7
  have h3' :W.heap[b]? =some (.cells c E fr):=by simpa [Addr.add] using h3
  rw [h3']at h7'
  injection h7' with h7'
  injection h7' with e1
  subst e1
  rw [h5,yV hi,wR]
  simpa using h8.symm
 ·rw [G7 (by omega),G7 (by simp;omega)]
theorem JB{q:Rp α}{len:Nat}{a:Addr}{x:DataW H×List MemPlace}(h0' :0<q.sz)(hq:uV enc P W e q)(hx:(let elemAt (i:Nat):Option (DataW H×List MemPlace):=(W.cells? 0 (a.add (i*P.cellsOf e)) (P.cellsOf e)).bind (DataW.trod enc P W 0 (fun _=>true) true n e)
   if 0≤a.block∧len≤cap∧cap≤maxLen then
    ((List.range len).mapM elemAt).bind fun elems=>
     (if(fun _=>true) a.block then(List.range (cap-len)).mapM fun j=>elemAt (len+j)else some []).map fun rest=>
      (DataW.slice (elems.map (·.1)) (rest.map (·.1)),MemPlace.row a ((elems.length+rest.length)*P.cellsOf e)++(elems++rest).flatMap (·.2))
   else none)=some x): ∃y,(gB q).rc (F8 W) [.slice (some a) len cap] y:=by
 simp only at hx
 split at hx
 ·rename_i hcond
  obtain⟨_,hle,hmax⟩:=hcond
  cases hm:(List.range len).mapM (fun i=>(W.cells? 0 (a.add (i*P.cellsOf e)) (P.cellsOf e)).bind (DataW.trod enc P W 0 (fun _=>true) true n e))with
  |none=>rw [hm]at hx;simp at hx
  |some elems=>
   obtain⟨hm1,hm2⟩:=tQ hm
   rw [hq.1]at hm2
   by_cases hl0:len=0
   ·subst hl0;exact⟨[],some a,cap,rfl,nU _,hmax,.inl rfl⟩
   have hsp0:a.spot=none:=by
    obtain⟨z,_,hz⟩:=hm2 0 0 (by rw [List.getElem?_range (by omega)])
    rw [Nat.zero_mul,Dy]at hz
    cases hcs:W.cells? 0 a q.sz with
    |none=>rw [hcs]at hz;simp at hz
    |some cs1=>
     unfold World.cells? at hcs
     rw [bq (nU _)]at hcs
     obtain⟨_,g2⟩:=tQ hcs
     obtain⟨v,_,hv⟩:=g2 0 0 (by simp [h0'])
     rw [Dy]at hv
     exact(zq hv).1
   have hcell: ∀i,i<len→ ∃c E fr,a.spot=none∧W.heap[a.block]? =some (.cells c E fr)∧ ∃y,q.rc (F8 W) ((c.toList.drop (a.off+i*q.sz)).take q.sz) y:=by
    intro i hi
    obtain⟨z,_,hz⟩:=hm2 i i (by simp [hi])
    cases hcs:W.cells? 0 (a.add (i*q.sz)) q.sz with
    |none=>rw [hcs]at hz;simp at hz
    |some cs1=>
     rw [hcs]at hz
     have hsp:a.spot=none:=hsp0
     obtain⟨ab,ao,az⟩:=a
     simp only at hsp
     subst hsp
     rw [jf]at hcs
     obtain⟨c,E,fr,g1,g2⟩:=H7 hcs h0'
     obtain⟨y,hy⟩:=hq.2 n cs1 z hz
     exact⟨c,E,fr,rfl,g1,y,by rw [←g2];exact hy⟩
   obtain⟨c,E,fr,hsp,hb,_⟩:=hcell 0 (by omega)
   have key: ∀m,m≤len→ ∃ys:List α,ys.length=m∧qT q (F8 W) ((c.toList.drop a.off).take (m*q.sz)) ys:=by
    intro m
    induction m with
    |zero=>intro _;exact⟨[],rfl,by simp [qT]⟩
    |succ m ih=>
     intro hm'
     obtain⟨ys,hy1,hy2⟩:=ih (by omega)
     obtain⟨c',E',fr',_,hb',y,hy⟩:=hcell m (by omega)
     rw [hb]at hb'
     injection hb' with hb'
     injection hb' with e1
     subst e1
     refine⟨ys++[y],by simp [hy1],?_⟩
     have hsplit:(c.toList.drop a.off).take ((m+1)*q.sz)=(c.toList.drop a.off).take (m*q.sz)++(c.toList.drop (a.off+m*q.sz)).take q.sz:=by
      rw [u9,Nat.one_mul,List.take_add,t6]
     rw [hsplit]
     exact sa hy2 (Hu.2 hy)
   obtain⟨ys,hy1,hy2⟩:=key len (eE _)
   obtain⟨ab,ao,az⟩:=a
   simp only at hsp
   subst hsp
   exact⟨ys,some ⟨ab,ao,none⟩,cap,by rw [hy1],by omega,hmax,.inr ⟨ab,ao,c,E,fr,rfl,hb,by rw [hy1];exact hy2⟩⟩
 ·cases hx
theorem nY{q:Rp α}(h:P.underlying t=some (.slice e))(hc:P.cellsOf t=1)(h0:Nat.blt 0 q.sz=true)(hq:uV enc P W e q):uV enc P W t (gB q):=⟨hc,fun fuel cs x hx=>by
 have h0' :0<q.sz:=by simpa [tZ] using h0
 cases fuel with
 |zero=>simp [DataW.trod]at hx
 |succ n=>
  unfold DataW.trod at hx
  rw [h]at hx
  split at hx
  all_goals try (injections;done)
  ·exact⟨[],none,0,rfl,eE _,nU _,.inl rfl⟩
  ·rename_i e' a len cap heq
   injection heq with e1
   injection e1 with e1
   subst e1
   exact JB h0' hq hx⟩
def Po(enc:TypeId×Value→H)(P:Program)(W:World){α:Type}(off:Nat)(l:List (TypeId×Nat))(r:Rp α):Prop:=
 ∀(fuel:Nat) (cs:List Value),cs.length=off+r.sz→(∀f∈l,∃x,DataW.trod enc P W 0 (fun _=>true) true fuel f.1 ((cs.drop f.2).take (P.cellsOf f.1))=some x)→ ∃y,r.rc (F8 W) (cs.drop off) y
theorem nL{t off:Nat}(h:uV enc P W t r):Po enc P W off [(t,off)] r:=fun fuel cs hl hx=>by
 obtain⟨x,hx⟩:=hx _ (List.mem_singleton_self _)
 simp only at hx
 rw [h.1,tu (by simp;omega)]at hx
 exact h.2 _ _ _ hx
theorem cL{p:Rp α}{t off off' :Nat}{l:List (TypeId×Nat)}(h:uV enc P W t p)(ho:off' =off+p.sz)(hr:Po enc P W off' l q):Po enc P W off ((t,off)::l) (ci p q):=fun fuel cs hl hx=>by
 subst ho
 obtain⟨x,hx1⟩:=hx _ (nf ..)
 simp only at hx1
 rw [h.1]at hx1
 obtain⟨y,hy⟩:=h.2 _ _ _ hx1
 obtain⟨z,hz⟩:=hr fuel cs (by rw [hl];show off+(p.sz+q.sz)=_;omega) fun f hf=>hx f (oO _ hf)
 exact⟨(y,z),_,_,by rw [←t6];exact(tt _ _).symm,hy,hz⟩
theorem jY{l:List (TypeId×Nat)}{p:Rp α}{f:β→α}(ht:(P.underlying t).map (fun d=>match d with| .struct l=>(true,l.toList.map fun f=>(f.type,f.offset))|_=>(false,[]))=some (true,l))(hc:P.cellsOf t=p.sz)(hf: ∀y,∃x,f x=y)(hl:Po enc P W 0 l p):uV enc P W t (ne p f):=⟨hc,fun fuel cs x hx=>by
 obtain⟨fs,h1,h2⟩: ∃fs,P.underlying t=some (.struct fs)∧fs.toList.map (fun f=>(f.type,f.offset))=l:=by
  cases hu:P.underlying t with
  |none=>rw [hu]at ht;cases ht
  |some d=>
   rw [hu]at ht
   cases d<;>simp at ht
   exact⟨_,rfl,ht⟩
 cases fuel with
 |zero=>simp [DataW.trod]at hx
 |succ n=>
  unfold DataW.trod at hx
  rw [h1]at hx
  change (if cs.length=P.cellsOf t then(fs.toList.mapM fun f=>DataW.trod enc P W 0 (fun _=>true) true n f.type ((cs.drop f.offset).take (P.cellsOf f.type))).map (fun xs=>(DataW.agg (xs.map (·.1)),xs.flatMap (·.2)))else none)=some x at hx
  split at hx
  ·rename_i hlen
   cases hm:fs.toList.mapM (fun f=>DataW.trod enc P W 0 (fun _=>true) true n f.type ((cs.drop f.offset).take (P.cellsOf f.type)))with
   |none=>rw [hm]at hx;simp at hx
   |some r=>
    obtain⟨_,hm2⟩:=tQ hm
    obtain⟨y,hy⟩:=hl n cs (by rw [hlen,hc];omega) (fun g hg=>by
     rw [←h2,AL]at hg
     obtain⟨f0,hf0,rfl⟩:=hg
     obtain⟨i,hi⟩:=List.getElem?_of_mem hf0
     obtain⟨z,_,hz⟩:=hm2 i f0 hi
     exact⟨z,hz⟩)
    obtain⟨x',hx'⟩:=hf y
    refine⟨x',?_⟩
    show p.rc _ cs (f x')
    rw [hx']
    simpa using hy
  ·cases hx⟩
theorem EI{W' :World}{S' :SH}(h:kj tN W S W' S'):Below W.heap.size W W' :=⟨h.os,h.tape,h.output,h.size,fun k hk=>h.heap k hk (fun h=>h)⟩
theorem wX(hl:laidOutB P=true){W W' :World}(hb:Below W.heap.size W W'){sp:Nat→Bool}: ∀{ts:List TypeId} {vs:List Value} {ds:List (DataW H)} {ps:List MemPlace},(∀t∈ts,P.readableRec t=true∧t<P.types.size)→
  DataW.TrodAll enc P W 0 (fun _=>true) true ts vs ds ps→(∀p∈ps,p.block<W.heap.size)→(∀p∈ps,sp p.block=true)→DataW.TrodAll enc P W' 0 sp true ts vs ds ps
 |[],[],[],_,_,h,_,_=>h
 |t::ts,v::vs,d::ds,_,hr,⟨p,q,h1,h2,e⟩,hlt,hsp=>by
  subst e
  have ht:=hr t (nf ..)
  exact⟨p,q,WideElems.Trod_stays hl ht.1 ht.2 h1 (fun x hx=>hb.same (hlt x (CS _ hx))) (fun x hx=>hsp x (CS _ hx)),
   wX hl hb (fun t ht=>hr t (oO _ ht)) h2 (fun x hx=>hlt x (List.mem_append_right _ hx)) (fun x hx=>hsp x (List.mem_append_right _ hx)),rfl⟩
theorem LP{f:Func}{s:ChangeSpec}{apart fresh handsOn again:Bool}{W' :World}{args:Array Value}{ds gs:List (DataW H)}{before:List MemPlace}{tb:TypeId}(hl:laidOutB P=true)(hr: ∀t∈f.params.toList,P.readableRec t=true∧t<P.types.size)(hvs:s.vars=[])(hres:f.resultTypes= #[tb])(htb:P.underlying tb=some .bool)(hW:DataW.Whole enc P f.params.toList s.vars apart W args.toList ds gs before)(hs:s.fn H (ds++gs)={results:=[.lit (.bool true)],args:=ds})(hb:Below W.heap.size W W'):
  s.post enc P f apart fresh handsOn again W args (.bool true) W' :=by
 have hW0:=hW
 have hlt:=hW.lt
 obtain⟨pa,pv,hA,hV,rfl,hz,hn⟩:=hW
 rw [hvs]at hV
 have hpv:pv=[]:=by
  cases gs with
  |nil=>exact hV
  |cons g gs=>exact hV.elim
 subst hpv
 have hlt' : ∀p∈pa,p.block<W.heap.size:=fun p hp=>hlt p (by simpa using hp)
 have hargs: ∀sp:Nat→Bool,(∀p∈pa,sp p.block=true)→DataW.TrodAll enc P W' 0 sp true f.params.toList args.toList ds pa:=fun sp hsp=>wX hl hb hr hA hlt' hsp
 have hresT: ∀(b:Nat) (sp:Nat→Bool) (hd:Bool),DataW.TrodAll enc P W' b sp hd f.resultTypes.toList ((Value.bool true).resultList f.resultTypes.size) [.lit (.bool true)] []:=fun b sp hd=>by
  rw [hres]
  exact⟨[],[],⟨1,by simp [DataW.trod,htb,Value.cells]⟩,rfl,rfl⟩
 have hvT: ∀sp:Nat→Bool,DataW.TrodVars enc P W' sp s.vars (s.fn H (ds++gs)).vars []:=fun sp=>by
  rw [hvs,hs];rfl
 have hargs' : ∀sp:Nat→Bool,(∀p∈pa,sp p.block=true)→DataW.TrodAll enc P W' 0 sp true f.params.toList args.toList (s.fn H (ds++gs)).args pa:=fun sp hsp=>by rw [hs];exact hargs sp hsp
 have hres' : ∀(b:Nat) (sp:Nat→Bool) (hd:Bool),DataW.TrodAll enc P W' b sp hd f.resultTypes.toList ((Value.bool true).resultList f.resultTypes.size) (s.fn H (ds++gs)).results []:=fun b sp hd=>by rw [hs];exact hresT b sp hd
 have hold: ∀p∈pa,(fun b=>decide (b<W.heap.size)) p.block=true:=fun p hp=>by simpa using hlt' p hp
 refine⟨ds,gs,pa++[],[],pa,[],hW0,hres' _ _ _,hargs' _ hold,hvT _,World.keptBut_mono (fun p hp=>⟨hp,?_⟩) (hb.frame _),fun _=>?_⟩
 ·right;simpa using hp
 ·refine⟨?_,_,_,([]++pa)++[],⟨[]++pa,[],trodAll_append (hargs' _ (fun _ _=>rfl)) (hres' _ _ _),hvT _,rfl,?_,?_⟩,?_⟩
  ·intro j t r h1 h2
   rw [hres]at h1 h2
   cases j with
   |zero=>
    simp [Value.resultList]at h1 h2
    subst h1 h2
    simp [Value.okWide,htb,Cell.okWide,Cell.ok]
   |succ j=>simp at h1
  ·intro b off hp
   have hp' :MemPlace.cell b off∈pa:=by simpa using hp
   have:=hlt' _ hp'
   rw [hb.frozen (p:=⟨b,off,none⟩) this]
   exact hz b off (by simpa using hp')
  ·intro ha
   have:=hn ha
   simpa using this
  ·intro p hp _
   simpa using hp
end

section
def sb{α:Type}(r:Rp α)(ok:α→Prop):Rp α where
 sz:=r.sz
 agg:=r.agg
 rc:=fun S cs x=>r.rc S cs x∧ok x
 mono:=fun h k=>⟨r.mono h k.1,k.2⟩
 len:=fun k=>r.len k.1
 one:=fun k=>r.one k.1
 sc:=r.sc
def om(k:IntKind)(n:Int):Prop:=k.min≤n∧n≤k.max
def UJ(s:Ky):Prop:=s.length≤maxLen
def KT{α:Type}(ok:α→Prop)(xs:List α):Prop:=xs.length≤maxLen∧ ∀x∈xs,ok x
def Py{α:Type}(_:α):Prop:=True
theorem vp(h:P.underlying t=some (.int k))(hc:P.cellsOf t=1):uV enc P W t (sb (rI k) (om k)):=⟨hc,fun fuel cs x hx=>by
 cases fuel with
 |zero=>simp [DataW.trod]at hx
 |succ n=>
  unfold DataW.trod at hx
  rw [h]at hx
  split at hx
  all_goals try (injections;done)
  ·rename_i k1 k2 m heq
   injection heq with e
   injection e with e
   subst e
   split at hx
   ·rename_i h2
    obtain⟨rfl,h3⟩:=h2
    simp only [Lit.wf,gX,rl]at h3
    exact⟨m,rfl,h3⟩
   ·cases hx⟩
theorem Li(h:P.underlying t=some .string)(hc:P.cellsOf t=1):uV enc P W t (sb rS UJ):=⟨hc,fun fuel cs x hx=>by
 cases fuel with
 |zero=>simp [DataW.trod]at hx
 |succ n=>
  unfold DataW.trod at hx
  rw [h]at hx
  split at hx
  all_goals try (injections;done)
  ·rename_i s heq
   split at hx
   ·rename_i h2;exact⟨s.data.toList,rfl,(show s.data.toList.length≤maxLen from(show s.size=s.data.toList.length from rfl)▸h2)⟩
   ·cases hx⟩
theorem JC(h:P.underlying t=some .bool)(hc:P.cellsOf t=1):uV enc P W t (sb rB Py):=
 ⟨hc,fun fuel cs x hx=>by obtain⟨y,hy⟩:=(Lj (enc:=enc) (W:=W) h hc).2 fuel cs x hx;exact⟨y,hy,trivial⟩⟩
def CJ{α:Type}(r' r:Rp α)(ok:α→Prop):Prop:=r'.sz=r.sz∧r'.agg=r.agg∧ ∀S cs x,r'.rc S cs x→r.rc S cs x∧ok x
theorem fW:CJ (sb r ok) r ok:=⟨rfl,rfl,fun _ _ _ h=>h⟩
theorem ID{α:Type}{r' r:Rp α}{ok:α→Prop}(h:CJ r' r ok){S:SH}: ∀{xs:List α} {cs:List Value},qT r' S cs xs→qT r S cs xs∧ ∀x∈xs,ok x
 |[],_,k=>⟨k,fun x hx=>by cases hx⟩
 |x::xs,_,⟨a,b,e,h1,h2⟩=>by
  obtain⟨g1,g2⟩:=h.2.2 _ _ _ h1
  obtain⟨g3,g4⟩:=ID h h2
  exact⟨⟨a,b,e,g1,g3⟩,fun y hy=>by
   rcases jW.1 hy with rfl|hy
   ·exact g2
   ·exact g4 y hy⟩
theorem rY{r' :Rp α}(h:CJ r' r ok):CJ (gB r') (gB r) (KT ok):=⟨rfl,rfl,fun S cs xs ⟨a,cap,e,h1,h2,h3⟩=>by
 rcases h3 with h3|⟨b,off,c,E,fr,e1,e2,e3⟩
 ·exact⟨⟨a,cap,e,h1,h2,.inl h3⟩,by omega,fun x hx=>by rw [h3]at hx;cases hx⟩
 ·rw [h.1]at e3
  obtain⟨g1,g2⟩:=ID h e3
  exact⟨⟨a,cap,e,h1,h2,.inr ⟨b,off,c,E,fr,e1,e2,g1⟩⟩,by omega,g2⟩⟩
theorem dr{p' p:Rp α}{q' :Rp β}{f:α→Prop}{g:β→Prop}(h:CJ p' p f)(k:CJ q' q g):CJ (ci p' q') (ci p q) (fun x=>f x.1∧g x.2):=
 ⟨by show p'.sz+q'.sz=p.sz+q.sz;rw [h.1,k.1],rfl,fun S cs x ⟨a,b,e,h1,h2⟩=>⟨⟨a,b,e,(h.2.2 _ _ _ h1).1,(k.2.2 _ _ _ h2).1⟩,(h.2.2 _ _ _ h1).2,(k.2.2 _ _ _ h2).2⟩⟩
theorem px{p' p:Rp α}{f:β→α}(h:CJ p' p ok):CJ (ne p' f) (ne p f) (fun x=>ok (f x)):=
 ⟨h.1,rfl,fun S cs x k=>h.2.2 _ _ _ k⟩
theorem Jl{r' :Rp α}(h:uV enc P W t r')(hr:CJ r' r ok)(hag:r.agg=true){d:DataW H}{ps:List MemPlace}(hv:DataW.Trod enc P W 0 (fun _=>true) true t v d ps)(hc:v= .agg v.cells): ∃y,(tD r y).p (F8 W) v∧ok y:=by
 obtain⟨fuel,hx⟩:=hv
 obtain⟨y,hy⟩:=h.2 _ _ _ hx
 obtain⟨g1,g2⟩:=hr.2.2 _ _ _ hy
 exact⟨y,⟨_,by unfold Rp.val;rw [hag,bq rfl];exact hc,g1⟩,g2⟩
theorem yG{base:Nat}{l:Array Field}(ht:P.underlying t=some (.struct l))(hv:Value.okWide P W .any base t v):v= .agg v.cells:=by
 unfold Value.okWide at hv
 rw [ht]at hv
 obtain⟨cs,e,_⟩:=hv
 rw [e]
 rfl
end

section
variable{held:Bool}
end

theorem FM{α:Type}{r:Rp α}(hfree: ∀{S S' :SH} {cs:List Value} {x:α},r.rc S cs x→r.rc S' cs x){S S' :SH}: ∀{xs:List α} {cs:List Value},qT r S cs xs→qT r S' cs xs
 |[],_,h=>h
 |_::_,_,h=>by
  obtain⟨ds,es,h1,h2,h3⟩:=h
  exact⟨ds,es,h1,hfree h2,FM hfree h3⟩
variable{S1:SH}
theorem UR{l:Option Nat}(h:yJ mm r T l cap xs w S)(hs:lI w S): ∃S1,SH.le S S1∧lI w S1∧(tD (gB r) xs).p S1 (ax l cap xs.length):=by
 cases mm with
 |true=>exact⟨S,SH.le_refl _,hs,mj h⟩
 |false=>
  obtain⟨cells,h1,h2,h3⟩:=h
  cases l with
  |none=>exact⟨S,SH.le_refl _,hs,mj (T:=T) ⟨cells,h1,h2,fun b hb=>(by cases hb)⟩⟩
  |some b=>
   obtain⟨cur,g1,g2,g3,g4,g5⟩:=h1
   have hoo:EW (.cells cells.toArray T (0,0)) (.cells cur T (0,0)):=by
    refine⟨cur.toList.drop (xs.length*r.sz),?_⟩
    congr 1
    apply Array.ext'
    rw [←g5,tt]
   have hn:S b=none:=h3 b rfl
   have hle:SH.le S (S.set b (.cells cells.toArray T (0,0))):=tU fun q hq=>(by rw [hn]at hq;cases hq)
   have hsat:lI w (S.set b (.cells cells.toArray T (0,0))):=hs.set g1 hoo fun q hq=>by rw [hn]at hq;cases hq
   refine⟨_,hle,hsat,mj (T:=T) ⟨cells,⟨cur,g1,g2,g3,g4,g5⟩,qS hle h2,fun b' hb' =>?_⟩⟩
   have hb2:b=b' :=qL hb'
   subst hb2
   exact lT _ _ _
section
theorem AV{t:Ty}{vs:List Value}(h:t.p S1 v)(k:wH S1 ts vs):wH S1 (t::ts) (v::vs):=⟨h,k⟩
theorem Sc{G:mX}{t:Ty}(h:aK N G x t)(hf:cT N S a G)(hle:SH.le S S1):t.p S1 (a.eval x):=t.mono hle (h S a hf)
theorem Nc{b:Bool}(S S' :SH)(v:Value)(h:(tD rB b).p S v):(tD rB b).p S' v:=gY.2 (gY.1 h)
end

section
theorem hH{y:α}(hag:r.agg=true)(hr: ∀S,r.rc S [v] y)(h:aK N G x (tV (.agg #[v]))):aK N G x (tD r y):=fun S a hf=>⟨[v],by rw [Rp.val,bq hag];exact h S a hf,hr S⟩
end

section
variable{N:Nat}{w0:World}{S0:SH}{fn:Func}{O1:List OE}{ι:Type}{t:ι→Ty}{O2:ι→List OE}
end


theorem I{α:Sort _}{a:α}:a=a:=rfl
theorem aZ:True:=trivial
abbrev cb(x:Int):Ty:=tD (rI .i64) x
abbrev fx(x:Bool):Ty:=tD rB x
abbrev iB{α:Type}(l:List α):Ty:=tD (rI .i64) (l.length:Int)
abbrev iW:Rp (List Int):=gB (rI .i64)
abbrev iK(l:List Int):Ty:=tD (gB (rI .i64)) l
abbrev dM{α:Type}(r:Rp α)(l:List α):Ty:=tD (gB r) l
abbrev oY{α:Type}(l:Option Nat)(c:Nat)(xs:List α):Ty:=tV (ax l c xs.length)
theorem aR: ∀{G' G:mX},G'.map (fun p=>d9 G p.1)=G'.map (fun p=>some p.2)→JI G' G
 |[],_,_=>trivial
 |(_,_)::_,_,h=>⟨(z7 h).1,aR (z7 h).2⟩

section
theorem cw{x:Nat}{t:Ty}(h:d9 G x=some t):cE E O G ⟨dst,.move (.tmp x),ty,pos,after,g⟩ t:=bm (ht h)
theorem Cd{x:Nat}{t:Ty}(h:d9 G x=some t):cE E O G ⟨dst,.assign (.tmp x),ty,pos,after,g⟩ t:=aN (ht h)
theorem dD{n:Int}:cE E O G ⟨dst,.assign (.const (.int k n)),ty,pos,after,g⟩ (tD (rI k) n):=aN hI
theorem dd{b:Bool}:cE E O G ⟨dst,.assign (.const (.bool b)),ty,pos,after,g⟩ (tD rB b):=aN hB
theorem bf{x:α}{p:Nat}(ti:TI E.P U sz bytes agg z)(hp:d9 G p=some (ce r x))(hs:(r.sz,r.agg)=(sz,agg)):
  cE E O G ⟨dst,.load U (.tmp p),ty,pos,after,g⟩ (tD r x):=am ti (Prod.mk.inj hs).1 (Prod.mk.inj hs).2 (ht hp)
theorem aU{get:α→β}{x:α}{i off:Nat}{p:Nat}(hf:cj E.P T i=some (off,sz))(hq:lK r off q get)(hp:d9 G p=some (ce r x))(h0:(!(Nat.beq sz 0)&&Nat.ble (off+q.sz) r.sz)=true):cE E O G ⟨dst,.fieldAddr T (.tmp p) i,ty,pos,after,g⟩ (ce q (get x)):=
 cK hf (by cases h:Nat.beq sz 0<;>simp [h]at h0 ⊢) hq (by revert h0;cases Nat.ble (off+q.sz) r.sz<;>simp) (ht hp)
theorem d5{x:Nat}(hu:E.P.underlying t=some (.slice e))(hx:d9 G x=some (tD (gB r) xs)):
  cE E O G ⟨dst,.call ⟨.builtin .len,#[.tmp x],#[t]⟩,ty,pos,after,g⟩ (tD (rI .i64) (xs.length:Int)):=bw hu (ht hx)
theorem nj{x:Nat}{i:Nat}{t:Ty}(hi:ts[i]? =some t)(hx:d9 G x=some (tT ts)):cE E O G ⟨dst,.extract (.tmp x) i,ty,pos,after,g⟩ t:=HC hi (ht hx)
theorem kp{v:α}{x:Nat}(hx:d9 G x=some (tD r v)):cE E O G ⟨dst,.box T (.tmp x),ty,pos,after,g⟩ (ce r v):=LE (ht hx)
theorem fV{c x:Nat}{b q:Bool}(hc:d9 G c=some (tD rB b))(hx:d9 G x=some (s6 b (tD rB q))):cE E O G ⟨dst,.pick (.tmp c) (.tmp x) (.const (.bool false)),ty,pos,after,g⟩ (tD rB (b&&q)):=hX (ht hc) (fun hb=>aA hx hb)
theorem kh{c x:Nat}{b q:Bool}(hc:d9 G c=some (tD rB b))(hx:d9 G x=some (s6 (!b) (tD rB q))):cE E O G ⟨dst,.pick (.tmp c) (.const (.bool true)) (.tmp x),ty,pos,after,g⟩ (tD rB (b||q)):=jn (ht hc) (fun hb=>aA hx (oH hb))
variable{xt yt:TypeId}{x y:Nat}{m n:Int}
theorem ek(hx:d9 G x=some (tD (rI k) m))(hy:d9 G y=some (tD (rI k) n)):cE E O G ⟨dst,.binOp .lss xt (.tmp x) (.tmp y) yt,ty,pos,after,g⟩ (tD rB (decide (m<n))):=d8 (ht hx) (ht hy)
theorem d6{j:IntKind}(hx:d9 G x=some (tD (rI j) m)):cE E O G ⟨dst,.binOp .eql xt (.tmp x) (.const (.int j n)) yt,ty,pos,after,g⟩ (tD rB (m==n)):=bz (ht hx) hI
theorem Aq{j:IntKind}(hx:d9 G x=some (tD (rI j) m)):cE E O G ⟨dst,.binOp .neq xt (.tmp x) (.const (.int j n)) yt,ty,pos,after,g⟩ (tD rB (m !=n)):=bM (ht hx) hI
theorem gI{y:α}{x ix:Nat}{k:IntKind}{i:Int}(hu:E.P.underlying t=some (.slice e))(ti:TI E.P e sz bytes agg z)(hsz:r.sz=sz)(hx:d9 G x=some (tD (gB r) xs))(hi:d9 G ix=some (tD (rI k) i))(hy:gj xs i=some y):
  cE E O G ⟨dst,.indexAddr t (.tmp x) (.tmp ix),ty,pos,after,g⟩ (ce r y):=eT hu ti hsz (ht hx) (ht hi) hy
theorem jL{i:Nat}{x:Nat}{xt yt:TypeId}(hi:i<9223372036854775807)(hx:d9 G x=some (tD (rI .i64) (i:Int))):
  cE E O G ⟨dst,.binOp .add xt (.tmp x) (.const (.int .i64 1)) yt,ty,pos,after,g⟩ (tD (rI .i64) ((i+1:Nat):Int)):=ww hi (ht hx) hI
theorem fe{i off o:Nat}{p:Nat}(n:Nat)(hf:cj E.P T i=some (off,sz))(h0:Nat.beq sz 0=false)(hp:d9 G p=some (tV (aL b o)))(he:o+off=n):cE E O G ⟨dst,.fieldAddr T (.tmp p) i,ty,pos,after,g⟩ (tV (aL b n)):=bU (n:=n) hf h0 (ht hp) he
end
section
variable{l:List Oper}
theorem zo{t:Ty}(hd:Nat.blt d E.N.n=true)(h:cE E O G ⟨some d,op,ty,pos,after,none⟩ t)(k:RG E ops Q l O ((d,t)::G)):
  RG E ops Q (⟨some d,op,ty,pos,after,none⟩::l) O G:=uW h hd k
def Pt(n d:Nat)(r:Option Ty):Option Ty:=if Nat.blt d n then r else none
theorem kO{r:Option Ty}{t:Ty}(h:Pt n d r=some t):Nat.blt d n=true∧r=some t:=by
 unfold Pt at h;split at h
 case isTrue h1=>exact⟨h1,h⟩
 case isFalse=>cases h
theorem av{x:Nat}{t:Ty}(h:Pt E.N.n d (d9 G x)=some t)(k:RG E ops Q l O ((d,t)::G)):
  RG E ops Q (⟨some d,.move (.tmp x),ty,pos,after,none⟩::l) O G:=uW (bm (ht (kO h).2)) (kO h).1 k
theorem aS{x:Nat}{t:Ty}(h:Pt E.N.n d (d9 G x)=some t)(k:RG E ops Q l O ((d,t)::G)):
  RG E ops Q (⟨some d,.assign (.tmp x),ty,pos,after,none⟩::l) O G:=uW (aN (ht (kO h).2)) (kO h).1 k
theorem ai{y:Code}(h:CG E Q y O G):RG E ops (Exit.then (y.wpIn (fw E.r) 0 E.P Q) Q) [] O G:=ay (af h)
theorem aj{id:Nat}{l:List Oper}{y:Code}(h:RG E l.toArray (Exit.then (y.wpIn (fw E.r) 0 E.P Q) Q) l O G):CG E Q (.seq (.region id l.toArray false) y) O G:=aa (ae h)
theorem bR{β:Type _}{X Y:Option β}{r:β}{c:Nat}{x y:Code}{b:Bool}(h:(if b=true then X else Y)=some r)(hb:d9 G c=some (tD rB b))(hx:X=some r→CG E Q x O G)(hy:Y=some r→CG E Q y O G):CG E Q (.cond (.tmp c) x y) O G:=
 rF (ht hb) (fun hc=>hx (ct h hc)) (fun hc=>hy (cf h hc))
theorem dk{y:Code}(h:CG E Q y O G):CG E (Exit.then (y.wpIn (fw E.r) 0 E.P Q) Q) .skip O G:=aP (af h)
theorem aO{b:Bool}{t:Ty}(hj:(ops[j]?).bind (·.dst)=some gs)(hg:Pt E.N.n gs (Pt E.N.n d (d9 G gs))=some (tD rB b))(h:b=true→cE E O G ⟨some d,op,ty,pos,after,some (j,true)⟩ t)(k:RG E ops Q l O ((d,s6 b t)::G)):RG E ops Q (⟨some d,op,ty,pos,after,some (j,true)⟩::l) O G:=Pk hj (kO hg).1 (kO (kO hg).2).2 (kO (kO hg).2).1 h k
theorem bI{b:Bool}{t:Ty}(hj:(ops[j]?).bind (·.dst)=some gs)(hg:Pt E.N.n gs (Pt E.N.n d (d9 G gs))=some (tD rB b))(h:(!b)=true→cE E O G ⟨some d,op,ty,pos,after,some (j,false)⟩ t)(k:RG E ops Q l O ((d,s6 (!b) t)::G)):RG E ops Q (⟨some d,op,ty,pos,after,some (j,false)⟩::l) O G:=Pl hj (kO hg).1 (kO (kO hg).2).2 (kO (kO hg).2).1 h k
end
theorem bA{α:Type _}{β:Type _}{x:Option α}{k:α→Option β}{r:β}{P:Prop}(h:x.bind k=some r)(f: ∀y,x=some y→k y=some r→P):P:=by
 obtain⟨y,h1,h2⟩:=bs h;exact f y h1 h2
variable{u1:Ty}
section
variable{l:List Oper}{i:Nat}{t:Ty}
theorem Ap{a b c:Bool}(h:(a&&b&&c)=true):a=true∧b=true∧c=true:=by revert h;cases a<;>cases b<;>cases c<;>simp
theorem SN{x:Option α}(h:x.isNone=true):x=none:=by cases x;rfl;cases h
theorem zd0(h:ts[i]? =some t)(hb:(gm i o&&o.guard.isNone)=true)(k:cE E O [] o t): ∃(needs:List Nd) (t:Ty),ts[i]? =some t∧sq G ts needs∧(needs.all (rr l o i))=true∧gm i o=true∧cM E O l.toArray (kN needs) o t:=
 ⟨[],t,h,trivial,rfl,(E1.1 hb).1,aB (SN (E1.1 hb).2) k⟩
theorem im(a:Nat)(h:ts[i]? =some t)(hu:wU G ts ⟨a,u,none⟩)(hb:([(⟨a,u,none⟩:Nd)].all (rr l o i)&&gm i o&&o.guard.isNone)=true)(k:cE E O [(a,u)] o t): ∃(needs:List Nd) (t:Ty),ts[i]? =some t∧sq G ts needs∧(needs.all (rr l o i))=true∧gm i o=true∧cM E O l.toArray (kN needs) o t:=
 ⟨[(⟨a,u,none⟩:Nd)],t,h,⟨hu,trivial⟩,(Ap hb).1,(Ap hb).2.1,aB (SN (Ap hb).2.2) k⟩
theorem dQ(a:Nat)(j:Nat)(h:ts[i]? =some t)(hu:wU G ts ⟨a,u,(some j)⟩)(hb:([(⟨a,u,(some j)⟩:Nd)].all (rr l o i)&&gm i o&&o.guard.isNone)=true)(k:cE E O [(a,u)] o t): ∃(needs:List Nd) (t:Ty),ts[i]? =some t∧sq G ts needs∧(needs.all (rr l o i))=true∧gm i o=true∧cM E O l.toArray (kN needs) o t:=
 ⟨[(⟨a,u,(some j)⟩:Nd)],t,h,⟨hu,trivial⟩,(Ap hb).1,(Ap hb).2.1,aB (SN (Ap hb).2.2) k⟩
theorem M4(a:Nat)(a1:Nat)(j1:Nat)(h:ts[i]? =some t)(hu:wU G ts ⟨a,u,none⟩)(hu1:wU G ts ⟨a1,u1,(some j1)⟩)(hb:([(⟨a,u,none⟩:Nd),⟨a1,u1,(some j1)⟩].all (rr l o i)&&gm i o&&o.guard.isNone)=true)(k:cE E O [(a,u),(a1,u1)] o t): ∃(needs:List Nd) (t:Ty),ts[i]? =some t∧sq G ts needs∧(needs.all (rr l o i))=true∧gm i o=true∧cM E O l.toArray (kN needs) o t:=
 ⟨[(⟨a,u,none⟩:Nd),⟨a1,u1,(some j1)⟩],t,h,⟨hu,hu1,trivial⟩,(Ap hb).1,(Ap hb).2.1,aB (SN (Ap hb).2.2) k⟩
theorem p6(a:Nat)(a1:Nat)(j1:Nat)(h:ts[i]? =some t)(hu:wU G ts ⟨a,u,none⟩)(hu1:wU G ts ⟨a1,u1,(some j1)⟩)(hb:([(⟨a,u,none⟩:Nd),⟨a1,u1,(some j1)⟩].all (rr l o i)&&gm i o)=true)(k:cM E O l.toArray [(a,u),(a1,u1)] o t): ∃(needs:List Nd) (t:Ty),ts[i]? =some t∧sq G ts needs∧(needs.all (rr l o i))=true∧gm i o=true∧cM E O l.toArray (kN needs) o t:=
 ⟨[(⟨a,u,none⟩:Nd),⟨a1,u1,(some j1)⟩],t,h,⟨hu,hu1,trivial⟩,(E1.1 hb).1,(E1.1 hb).2,k⟩
theorem eF(a:Nat)(j:Nat)(a1:Nat)(j1:Nat)(h:ts[i]? =some t)(hu:wU G ts ⟨a,u,(some j)⟩)(hu1:wU G ts ⟨a1,u1,(some j1)⟩)(hb:([(⟨a,u,(some j)⟩:Nd),⟨a1,u1,(some j1)⟩].all (rr l o i)&&gm i o&&o.guard.isNone)=true)(k:cE E O [(a,u),(a1,u1)] o t): ∃(needs:List Nd) (t:Ty),ts[i]? =some t∧sq G ts needs∧(needs.all (rr l o i))=true∧gm i o=true∧cM E O l.toArray (kN needs) o t:=
 ⟨[(⟨a,u,(some j)⟩:Nd),⟨a1,u1,(some j1)⟩],t,h,⟨hu,hu1,trivial⟩,(Ap hb).1,(Ap hb).2.1,aB (SN (Ap hb).2.2) k⟩
theorem iL(a:Nat)(j:Nat)(a1:Nat)(j1:Nat)(h:ts[i]? =some t)(hu:wU G ts ⟨a,u,(some j)⟩)(hu1:wU G ts ⟨a1,u1,(some j1)⟩)(hb:([(⟨a,u,(some j)⟩:Nd),⟨a1,u1,(some j1)⟩].all (rr l o i)&&gm i o)=true)(k:cM E O l.toArray [(a,u),(a1,u1)] o t): ∃(needs:List Nd) (t:Ty),ts[i]? =some t∧sq G ts needs∧(needs.all (rr l o i))=true∧gm i o=true∧cM E O l.toArray (kN needs) o t:=
 ⟨[(⟨a,u,(some j)⟩:Nd),⟨a1,u1,(some j1)⟩],t,h,⟨hu,hu1,trivial⟩,(E1.1 hb).1,(E1.1 hb).2,k⟩
theorem xT(a:Nat)(j:Nat)(a1:Nat)(j1:Nat)(a2:Nat)(j2:Nat){u2:Ty}(h:ts[i]? =some t)(hu:wU G ts ⟨a,u,(some j)⟩)(hu1:wU G ts ⟨a1,u1,(some j1)⟩)(hu2:wU G ts ⟨a2,u2,(some j2)⟩)(hb:([(⟨a,u,(some j)⟩:Nd),⟨a1,u1,(some j1)⟩,⟨a2,u2,(some j2)⟩].all (rr l o i)&&gm i o)=true)(k:cM E O l.toArray [(a,u),(a1,u1),(a2,u2)] o t): ∃(needs:List Nd) (t:Ty),ts[i]? =some t∧sq G ts needs∧(needs.all (rr l o i))=true∧gm i o=true∧cM E O l.toArray (kN needs) o t:=
 ⟨[(⟨a,u,(some j)⟩:Nd),⟨a1,u1,(some j1)⟩,⟨a2,u2,(some j2)⟩],t,h,⟨hu,hu1,hu2,trivial⟩,(E1.1 hb).1,(E1.1 hb).2,k⟩
end

def vm{α:Type}(n c:Int)(z:α):Option (List α):=if 0≤n∧n≤c∧c≤68719476736 then some (List.replicate n.toNat z)else none
theorem E9{n c:Int}{z:α}(h:vm n c z=some zs): ∃m k:Nat,n=m∧c=k∧m≤k∧k≤68719476736∧zs=List.replicate m z:=by
 unfold vm at h
 split at h
 ·rename_i hc;exact⟨n.toNat,c.toNat,by omega,by omega,by omega,by omega,by simpa using h.symm⟩
 ·cases h
theorem J9(z:List Value)(m k sz:Nat)(h:z.length=sz)(hk:m≤k):(madeCells z.toArray (k*sz)).toList.take (m*sz)=(List.replicate m z).flatten:=by
 rw [ze z k sz h]
 obtain⟨j,rfl⟩: ∃j,k=m+j:=⟨k-m,by omega⟩
 rw [show List.replicate (m+j) z=List.replicate m z++List.replicate j z from(List.replicate_append_replicate ..).symm,List.flatten_append,Ag (by rw [flat_len h];omega)]
 exact tu (by rw [flat_len h];omega)
section
theorem zp{x:α}{n c:Int}{y' :Operand}{k' :IntKind}(ti:TI E.P T sz bytes agg z)(hsz:r.sz=sz)(hz:Nat.beq z.length sz=true)(h128:Nat.ble bytes 2048=true)(ht:E.P.underlying t=some (.slice T))(hx: ∀S,r.rc S z x)(hy:aK E.N G y (tD (rI k) n))(hy' :aK E.N G y' (tD (rI k') c))(h:vm n c x=some zs):
  EffOK E O G ⟨some d,.makeSlice t y y',ty,pos,after,g⟩ (fun i=>df r T (i.h 0).1 (i.h 0).2 zs::O) (fun i=>tV (ax (i.h 0).1 (i.h 0).2 zs.length)):=fun a w S hs ho hf hb=>by
 subst hsz
 obtain⟨i,zv,hi,h1,h2,h3,h4⟩:=ti.get
 obtain⟨m,c,rfl,rfl,hmc,hm,rfl⟩:=E9 h
 have hyv:=eO.1 (hy S a hf)
 have hyv' :=eO.1 (hy' S a hf)
 have hz2:z.length=r.sz:=q7 hz
 have h128' :=rm h128
 have hbytes:(i.bytes:Int)*(c:Int)≤281474976710656:=by
  have:i.bytes*c≤2048*68719476736:=Nat.mul_le_mul (by omega) hm
  have h5:((i.bytes*c:Nat):Int)≤281474976710656:=by omega
  rwa [Int.natCast_mul]at h5
 have hr:=run_make (P:=E.P) w t T i zv ht hi h3 k k' (m:Int) (c:Int) (by omega) (by omega) hbytes (by omega)
 rw [AJ,AJ,h1,h4]at hr
 obtain⟨he,hs',hno⟩:=lj (w:=w) (.cells (madeCells z.toArray (c*r.sz)) T (0,0)) hs
 have hrun:(execOp a.eval ⟨some d,.makeSlice t y y',ty,pos,after,g⟩).run E.P w= .ok (.value (.slice (some ⟨w.heap.size,0,none⟩) m c)) (w.alloc (.cells (madeCells z.toArray (c*r.sz)) T (0,0))):=by
  simp [execOp,hyv,hyv',hr]
 refine⟨fun c h=>(by cases h),?_⟩
 rw [hrun]
 have hfl:=flat_len hz2 m
 refine⟨_,S,oi (some w.heap.size) c,rfl,he.more fun _ hb=>hb.elim,hs',sP ho he (e:=df r T (some w.heap.size) c (List.replicate m x)) ⟨(List.replicate m z).flatten,⟨_,xM w _,by simpa using hmc,by simp only [maxLen];omega,by rw [size_madeCells],?_⟩,wo hx S m,fun b hb=>by rw [←qL hb];exact hno⟩ (fun b hb=>AK (qL hb)) hb,?_⟩
 ·rw [E3]
  exact J9 z m c r.sz hz2 hmc
 ·show _=ax _ _ _
  rw [E3];rfl
end

def UH{α:Type}(r:Rp α):Rp α where
 sz:=1
 agg:=false
 rc:=fun S cs x=> ∃v,cs=[v]∧(ce r x).p S v
 mono:=fun h ⟨v,e,k⟩=>⟨v,e,(ce r _).mono h k⟩
 len:=fun⟨_,e,_⟩=>by rw [e];rfl
 one:=fun⟨v,e,b,off,c,U,fr,h,_⟩ c' hc=>by rw [e]at hc;simp at hc;subst hc;rw [h];rfl
 sc:=fun _=>rfl
theorem Nb{x:α}:(tD (UH r) x).p S v↔(ce r x).p S v:=by
 constructor
 ·rintro⟨cs,rfl,w,rfl,h⟩;exact h
 ·intro h;exact⟨[v],rfl,v,rfl,h⟩
theorem SL{rd:Rp β}{x:α}{y:β}(h:(bx r T b x).p w S)(hs:lI w S)(cv: ∀cs,r.rc S cs x→rd.rc S cs y): ∃S1,SH.le S S1∧lI w S1∧(ce rd y).p S1 (aL b 0):=by
 obtain⟨hn,c,h2,h3⟩:=h
 have hle:SH.le S (S.set b (.cells c T (0,0))):=tU fun q hq=>(by rw [hn]at hq;cases hq)
 have hsat:lI w (S.set b (.cells c T (0,0))):=hs.set h2 (sd _) fun q hq=>by rw [hn]at hq;cases hq
 have h4:=cv _ h3
 have hl:c.toList.length=rd.sz:=rd.len h4
 refine⟨_,hle,hsat,b,0,c,T,(0,0),rfl,lT _ _ _,?_⟩
 rw [xd,tu (by omega)]
 exact rd.mono hle h4
variable{el:TypeId}
section
theorem LD{f:FuncId}{xs:List Operand}{t:Ty}{rd:Rp β}{x:α}{y:β}(hm:bx r T b x∈O)(hc:an E.P f=true)(hs:bk E.P f ts t)(cv: ∀w S cs,fR E.base E.B w S O→r.rc S cs x→rd.rc S cs y)(hx: ∀(S S1:SH) (a:Act),cT E.N S a G→SH.le S S1→(ce rd y).p S1 (aL b 0)→wH S1 ts (xs.map a.eval))(htf: ∀(S S' :SH) (v:Value),t.p S v→t.p S' v):
  cE E O G ⟨dst,.call ⟨.value (.func f),xs.toArray,ats⟩,ty,pos,after,g⟩ t:=fun a w S hS hO hF=>by
 have hr:(execOp a.eval ⟨dst,.call ⟨.value (.func f),xs.toArray,ats⟩,ty,pos,after,g⟩).run E.P w= .ok (.enter f (xs.map a.eval).toArray) w:=by
  simp [execOp,resolve,Act.eval,Deferred.ofValue,invoke,iP hc]
 refine⟨fun c h=>(by cases h),?_⟩
 rw [hr]
 obtain⟨S1,k1,k2,k3⟩:=SL (fR.mem hO _ hm).1 hS (fun cs h=>cv w S cs hO h)
 exact(hs w S1 _ k2 (hx S S1 a hF k1 k3)).mono fun e w' ⟨v,S',he,h1,h2,h3⟩=>⟨v,he,v,S,rfl,
  ⟨h1.os,h1.tape,h1.output,h1.drawn,h1.size,h1.heap,SH.le_refl _,fun _ _ _=>rfl⟩,hS.same fun b o k=>h1.heap b (hS.lt k) (fun hb=>hb),htf S' S v h3⟩
def o4(t:Nat→Ty):Ty where
 p:=fun S v=> ∀b,(t b).p S v
 mono:=fun h k b=>(t b).mono h (k b)
theorem Bz{o:Operand}{t:Nat→Ty}(h: ∀b,aK N G o (t b)):aK N G o (o4 t):=fun S a hf b=>h b S a hf
theorem SP{o:Operand}{t:Nat→Ty}(b:Nat)(h:aK N G o (o4 t)):aK N G o (t b):=fun S a hf=>h S a hf b

theorem rW{γ:Type}{r' :Rp γ}{off:Nat}{x:α}{x' :γ}{y:β}(h:q0 r r' off q x y x')(hk:RX hs off q.sz none hs')(hoff:Nat.ble (off+q.sz) r.sz=true):q0 (rH r hs) (rH r' hs') off q x y x' :=fun S cs ds h1 h2=>by
 refine⟨h S cs ds h1.1 h2,fun p hp=>?_⟩
 rcases hk.all p hp with⟨e,_⟩|⟨g1,g2⟩
 ·cases e
 ·have hl:=r.len h1.1
  rw [sZ (q.len h2) (by have:=rm hoff;omega) g2]
  exact h1.2 _ (rL g1)
theorem O6{γ:Type}{r' :Rp γ}{x:α}{x' :γ}(h:(rH r hs).rc S cs x)(k:r.rc S cs x→r'.rc S cs x'):(rH r' hs).rc S cs x' :=⟨k h.1,h.2⟩

theorem IH{q:Rp α}(hq:q.sz=1){m:Nat}(h:qT q S cs xs)(hm:m≤xs.length):qT q S (cs.take m) (xs.take m)∧qT q S (cs.drop m) (xs.drop m):=by
 have:=pe (xs:=xs.take m) (ys:=xs.drop m) (by rw [tt];exact h)
 rwa [Cg,xI hm,hq,Nat.mul_one]at this
def rj{α:Type}(xs ys:List α):List α:=ys.take xs.length++xs.drop (min ys.length xs.length)
theorem EC:(rj xs ys).length=xs.length:=by
 unfold rj
 simp
 omega
theorem FX(hu:E.P.underlying T=some (.array n el))(hs:((E.P.info? el).map (·.size)).isSome=true)(hp:aK E.N G p (tV (aL b 0))):
  cE E O G ⟨dst,.slice T p none none none,ty,pos,after,g⟩ (tV (.slice (some ⟨b,0,none⟩) n n)):= .of_pure fun a w S _ _ hf=>by
 have h1:a.eval p=aL b 0:=hp S a hf
 cases hq:E.P.info? el with
 |none=>simp [hq]at hs
 |some i=>exact⟨_,by simp [execOp,h1,aL,Instr.sliceAt,jQ hu,Instr.sureAddr,Instr.sliceBounds,sizeOf,typeInfo,hq,Result.andThen];intro _;rfl,rfl⟩
end
section
theorem Ks{q:Rp α}{dT sT:TypeId}(hq:q.sz=1)(hu:E.P.underlying dT=some (.slice el))(hs:(E.P.info? el).map (·.size)=some 1)(hx:aK E.N G x (tV (.slice (some ⟨b,0,none⟩) n n)))(hy: ∀a w S,lI w S→fR E.base E.B w S (bx (oz q n) T b xs::O)→cT E.N S a G→ ∃S1,lI w S1∧(tD (gB q) ys).p S1 (a.eval y)∧ ∀cs zs,qT q S1 cs zs→qT q S cs (zs:List α)):
  EffOK E (bx (oz q n) T b xs::O) G ⟨some d,.call ⟨.builtin .copy,#[x,y],#[dT,sT]⟩,ty,pos,after,g⟩ (fun _=>bx (oz q n) T b (rj xs ys)::O) (fun _=>tD (rI .i64) ((min ys.length n:Nat):Int)):=fun a w S hs0 ho hf hb=>by
 have h1:a.eval x= .slice (some ⟨b,0,none⟩) n n:=hx S a hf
 obtain⟨S1,hS1,hy1,hback⟩:=hy a w S hs0 ho hf
 obtain⟨ad,cap,h2,_,_,h3⟩:=m4.1 hy1
 obtain⟨⟨hno,cur,h5,h6,h7⟩,_⟩:=ho.1
 have hcl:cur.toList.length=n:=by rw [kL h7,hq,h6,Nat.mul_one]
 have hm:min ys.length n≤ys.length:=Nat.min_le_left _ _
 obtain⟨cs,hcs,hrun,hlen⟩: ∃cs,qT q S cs (ys.take (min ys.length n))∧(Builtin.copy_ #[dT,sT] ty #[.slice (some ⟨b,0,none⟩) n n,a.eval y]).run E.P w= .ok (goInt cs.length) (w.setRow b (cs++cur.toList.drop cs.length).toArray)∧cs.length=min ys.length n:=by
  rw [h2]
  rcases h3 with rfl|⟨b',off,c,T',fr,rfl,e2,e3⟩
  ·refine⟨[],by simp [qT],?_,by simp⟩
   cases hel:E.P.info? el with
   |none=>simp [hel]at hs
   |some i=>
    have hi:i.size=1:=by simpa [hel] using hs
    have hself:w.setRow b (([]:List Value)++cur.toList.drop ([]:List Value).length).toArray=w:=by simpa using setRow_self w b cur T (0,0) h5
    rw [hself]
    cases ad with
    |none=>simp [Builtin.copy_,jQ hu,Builtin.lenOf,Builtin.firstCells,sizeOf,typeInfo,hel,hi,storeCells]
    |some p=>
     have hl:=run_loadCells_list (P:=E.P) w p [] (fun j v hv=>by simp at hv)
     simp only [ua]at hl
     simp [Builtin.copy_,jQ hu,Builtin.lenOf,Builtin.firstCells,sizeOf,typeInfo,hel,hi,storeCells,hl]
  ·obtain⟨c',h8,h9⟩:=hS1.part e2 (kL e3)
   obtain⟨d1,d2⟩:=IH hq e3 hm
   rw [z8,hq,Nat.mul_one,xI hm]at d1
   have hl:((c.toList.drop off).take (min ys.length n)).length=min ys.length n:=by
    rw [kL d1,hq,Nat.mul_one,Cg,xI hm]
   have hcs:cur.size=n:=by simpa using hcl
   refine⟨_,hback _ _ d1,?_,hl⟩
   have:=run_copy_row (P:=E.P) w dT sT ty el b 0 n n ⟨b',off,none⟩ ys.length cap cur T ((c.toList.drop off).take (min ys.length n)) hu hs h5 hl (fun j v hv=>?_) (by rw [hl];omega) (yi d1)
   ·simpa using this
   ·have hj:j<min ys.length n:=by rw [←hl];exact(kF.1 hv).1
    have hcell:w.cell? ⟨b',off+j,none⟩=c'[off+j]? :=wG h8 _
    rw [jf]
    show w.cell? ⟨b',off+j,none⟩=_
    rw [hcell]
    have h10:((c'.toList.drop off).take (ys.length*q.sz))[j]? =((c.toList.drop off).take (ys.length*q.sz))[j]? :=by rw [h9]
    rw [yV (by rw [hq];omega),yV (by rw [hq];omega),wR,wR]at h10
    rw [yV hj,wR]at hv
    rw [←hv,←Array.getElem?_toList,h10]
 have hx' :(execOp a.eval ⟨some d,.call ⟨.builtin .copy,#[x,y],#[dT,sT]⟩,ty,pos,after,g⟩).run E.P w= .ok (.value (goInt cs.length)) (w.setRow b (cs++cur.toList.drop cs.length).toArray):=by
  simp [execOp,resolve,h1,invoke,builtin,hrun]
 refine⟨fun c h=>(by cases h),?_⟩
 rw [hx']
 have hle:min ys.length n≤xs.length:=by rw [h6];exact Nat.min_le_right _ _
 obtain⟨_,d4⟩:=IH hq h7 hle
 have hnew:(oz q n).rc S (cs++cur.toList.drop cs.length) (rj xs ys):=by
  refine⟨by rw [EC];exact h6,?_⟩
  unfold rj
  rw [h6,hlen]
  have e1:ys.take n=ys.take (min ys.length n):=by
   rw [List.take_eq_take_iff];omega
  rw [e1]
  exact sa hcs d4
 obtain⟨g1,g2,g3⟩:=oe (O:=O) hs0 (w' :=w.setRow b (cs++cur.toList.drop cs.length).toArray) (bx (oz q n) T b xs) (bx (oz q n) T b (rj xs ys)) ho (fun _=>rO) (fun _=>rO) ⟨rfl,rfl,rfl,by simp [World.setRow],eE _⟩ (fun k hk=>setRow_other w b k _ hk) ⟨hno,_,setRow_heap w b cur _ T _ h5,by simpa using hnew⟩ hno
 refine⟨_,S,u7,rfl,g1.more fun k hk=>⟨_,nf ..,hk⟩,g2,g3,?_⟩
 rw [hlen]
 exact eO.2 rfl
theorem Jz{l:Option Nat}(hs:eP xs lo hi=some ys)(h:yJ mm r U l cap xs w S)(hS:lI w S): ∃S1,lI w S1∧(tD (gB r) ys).p S1 (m0 r.sz l cap lo.toNat ys.length):=by
 obtain⟨S1,_,k2,hd⟩:=UR h hS
 refine⟨S1,k2,?_⟩
 obtain⟨l',m,rfl,rfl,h7,h8,rfl⟩:=gu hs
 obtain⟨ad,c,h1,h2,h3,h4⟩:=m4.1 hd
 have hlen:((xs.take m).drop l').length=m-l' :=by simp;omega
 cases l with
 |none=>
  obtain⟨cells,g1,_⟩:=h
  have hx:xs=[]:=tv g1.1
  subst hx
  have e:((([]:List α).take m).drop l')=[]:=by simp
  rw [e]
  exact DQ
 |some b=>
  have e1:Value.slice (some ⟨b,0,none⟩) xs.length cap= .slice ad xs.length c:=h1
  injection e1 with e2 _ e3
  subst e2
  subst e3
  have h5:=A1 h4 h7 h8 h2
  refine m4.2 ⟨_,cap-l',?_,by omega,by omega,h5⟩
  unfold m0
  simp only [AJ,hlen,Option.map_some,jf,va]
  split<;>rfl
theorem EA{l:Option Nat}{xs ys zs:List Int}{dT sT:TypeId}(hm:lP mm (rI k) U l cap zs∈bx (oz (rI k) n) T b xs::O)(hsl:eP zs lo hi=some ys)(hu:E.P.underlying dT=some (.slice el))(hs:(E.P.info? el).map (·.size)=some 1)(hx:aK E.N G x (tV (.slice (some ⟨b,0,none⟩) n n)))(hy:aK E.N G y (tV (m0 1 l cap lo.toNat ys.length))):
  EffOK E (bx (oz (rI k) n) T b xs::O) G ⟨some d,.call ⟨.builtin .copy,#[x,y],#[dT,sT]⟩,ty,pos,after,g⟩ (fun _=>bx (oz (rI k) n) T b (rj xs ys)::O) (fun _=>tD (rI .i64) ((min ys.length n:Nat):Int)):=
 Ks rfl hu hs hx fun a w S hs0 ho hf=>by
  obtain⟨S1,h1,h2⟩:=Jz hsl (fR.mem ho _ hm).1 hs0
  refine⟨S1,h1,?_,fun cs zs h=>by rw [yj h];exact(yj h)▸FM (fun h=>h) h⟩
  rw [show a.eval y=m0 1 l cap lo.toNat ys.length from hy S a hf]
  exact h2
def Lo{α:Type}(r:Rp α)(y:α)(b:Nat)(t:Ty):Ty where
 p:=fun S v=> ∀S1,SH.le S S1→(ce r y).p S1 (aL b 0)→t.p S1 v
 mono:=fun h k S1 h1=>k S1 (SH.le_trans h h1)
theorem M5{y:α}{t:Ty}(h:aK N G x (Lo r y b t))(hf:cT N S a G)(hle:SH.le S S1)(hk:(ce r y).p S1 (aL b 0)):t.p S1 (a.eval x):=h S a hf S1 hle hk
theorem Ef{γ:Type}{r:Rp γ}{z:γ}{args:α→List Ty}{res:β→Ty}{f:α→Option β}{caps:List Operand}{cts:List Ty}(hc:an E.P fid=true)(hcap: ∀(S S1:SH) (a:Act),cT E.N S a G→SH.le S S1→(ce r z).p S1 (aL b 0)→wH S1 cts (caps.map a.eval))(hs: ∀x y,f x=some y→bk E.P fid (args x++cts) (res y)):cE E O G ⟨dst,.makeFunc (.func fid) #[] caps.toArray,ty,pos,after,g⟩ (Lo r z b (kG E.P args res f)):=
 .of_pure fun a w S _ _ hf=>by
  refine⟨.func (.func fid) #[] (caps.map a.eval).toArray,by simp [execOp,Instr.makeFunc],fun S1 h1 hk=>⟨fid,_,rfl,hc,fun x y h w' S' vs hle hsat hv=>?_⟩⟩
  have hcv:=(hcap S S1 a hf h1 hk).mono hle
  simpa using hs x y h w' S' _ hsat (hv.append hcv)
theorem H8{y:α}(h:aK N G x (ce (rT (tV (aL b 0))) ()))(hf:cT N S a G)(hle:SH.le S S1)(hk:(ce r y).p S1 (aL b 0)):(ce (UH r) y).p S1 (a.eval x):=by
 obtain⟨b',off,c,E',fr,h1,h2,v,h3,_,h4⟩:=(ce (rT (tV (aL b 0))) ()).mono hle (h S a hf)
 have h4' :v=aL b 0:=h4
 subst h4'
 exact⟨b',off,c,E',fr,h1,h2,_,h3,hk⟩
theorem Ix(ti:TI P T sz bytes agg z):(P.info? T).map (·.size)=some sz:=by
 obtain⟨i,_,hi,hs,_⟩:=ti.get
 simp [hi,hs]
theorem M8(ti:TI P T sz bytes agg z):((P.info? T).map (·.size)).isSome=true:=by rw [Ix ti];rfl
def Np{α:Type}:Rp α where
 sz:=1
 agg:=false
 rc:=fun _ cs _=> ∃v,cs=[v]∧v.oneCell' =true
 mono:=fun _ h=>h
 len:=fun⟨v,h,_⟩=>by rw [h];rfl
 one:=fun⟨v,h,k⟩ c hc=>by rw [h]at hc;simp at hc;subst hc;exact k
 sc:=fun _=>rfl
theorem UT{u:Value}{y:α}(h:aK N G x (tV u))(ho:u.oneCell' =true):aK N G x (tD Np y):=fun S a hf=>by
 have h1:a.eval x=u:=h S a hf
 rw [h1]
 exact⟨[u],rfl,u,rfl,ho⟩
theorem Lx{l:Option Nat}{c:Nat}:(ax l c n).oneCell' =true:=by cases l<;>rfl
theorem Ik{l:Option Nat}{j:Int}{t:OI→Ty}(h:eP xs 0 j=some ys)(k:EffOK E (df r U l cap ys::O) G o post t):EffOK E (df r U l cap xs::O) G o post t:=fun a w S hs ho hf hb=>by
 have h1:fR E.base E.B w S (df r U l cap ys::O):=⟨⟨Jk h ho.1.1,ho.1.2⟩,ho.2.1,ho.2.2⟩
 refine oh (fun a' w' ⟨v,S',x,g1,g2,g3,g4,g5⟩=>⟨v,S',x,g1,g2.more fun b ⟨f,hf,hb⟩=>?_,g3,g4,g5⟩) (k a w S hs h1 hf hb)
 rcases jW.1 hf with rfl|hf
 ·exact⟨_,nf ..,hb⟩
 ·exact⟨f,oO _ hf,hb⟩
theorem EV{l:Option Nat}(hm:lP mm r T l cap xs∈O)(hs:eP xs lo hi=some ys)(h:(l=none→ys.length=0)∧ys.length≤maxLen→CG E Q c O G):CG E Q c O G:=fun a w S st=>by
 refine h ?_ a w S st
 obtain⟨cells,h1,_⟩:=(st.own.mem _ hm).1
 obtain⟨l',m,_,_,_,h8,rfl⟩:=gu hs
 have hlen:((xs.take m).drop l').length≤xs.length:=by simp;omega
 cases l with
 |none=>have:=h1.1;exact⟨fun _=>by omega,by omega⟩
 |some b=>obtain⟨cur,_,g2,g3,_⟩:=h1;exact⟨fun h=>(by cases h),by omega⟩
theorem hBc{b:Bool}:aK N G (.const (.bool b)) (tD rB b):=hB
theorem MN(b:Bool){l:List Oper}(h1:b=true→RG E ops Q l O G)(h2:b=false→RG E ops Q l O G):RG E ops Q l O G:=by
 cases b with
 |true=>exact h1 rfl
 |false=>exact h2 rfl
theorem Jn{d:Option Tmp}{pol b:Bool}(hj:(ops[j]?).bind (·.dst)=some gs)(hgs:Nat.blt gs E.N.n=true)(hb:d9 G gs=some (tD rB b))(e:b=pol)(k:RG E ops Q (⟨d,op,ty,pos,after,none⟩::rest) O G):
  RG E ops Q (⟨d,op,ty,pos,after,some (j,pol)⟩::rest) O G:=fun a w S st=>by
 have hgs' :gs<a.tmps.size:=by rw [st.facts.size];simpa [tZ] using hgs
 have hw:=uc (o:=⟨d,op,ty,pos,after,some (j,pol)⟩) rfl hj hgs' (pj hb S a st.facts)
 have h1:=k a w S st
 unfold wpListIn at h1 ⊢
 rw [hw,e]
 rw [bq (show Region.wanted ⟨d,op,ty,pos,after,none⟩ (yielded ops a.tmps)=true from rfl)]at h1
 rw [bq (show(true&&(pol==pol))=true from by simp)]
 exact h1
theorem tp{pol b:Bool}(hj:(ops[j]?).bind (·.dst)=some gs)(hgs:Nat.blt gs E.N.n=true)(hb:d9 G gs=some (tD rB b))(e:b= !pol)(hd:Nat.blt d E.N.n=true)(k:RG E ops Q rest O ((d,Fn)::G)):
  RG E ops Q (⟨some d,op,ty,pos,after,some (j,pol)⟩::rest) O G:=fun a w S st=>by
 have hgs' :gs<a.tmps.size:=by rw [st.facts.size];simpa [tZ] using hgs
 have hw:=uc (o:=⟨some d,op,ty,pos,after,some (j,pol)⟩) rfl hj hgs' (pj hb S a st.facts)
 refine wpListIn_step fun K hK=>?_
 rw [hw,e,aW (by cases pol<;>simp)]
 exact⟨fun _ _=>trivial,hK _ _ (k _ _ S (st.step (kU _ _ _) st.sat hd trivial))⟩
theorem Dc{c:Operand}{b:Bool}{t:Ty}(hc:aK E.N G c (tD rB b))(e:b=true)(hx:aK E.N G x t):cE E O G ⟨dst,.pick c x y,ty,pos,after,g⟩ t:=wu hc (fun _=>hx) (fun h=>by rw [e]at h;cases h)
theorem J5{c:Operand}{b:Bool}{t:Ty}(hc:aK E.N G c (tD rB b))(e:b=false)(hy:aK E.N G y t):cE E O G ⟨dst,.pick c x y,ty,pos,after,g⟩ t:=wu hc (fun h=>by rw [e]at h;cases h) (fun _=>hy)
end

structure UE{κ:Type} [DecidableEq κ](P:Program)(kt:TypeId)(kv:κ→Value):Prop where
 chk: ∀e w k,(Instr.checkKey e 10000 kt (kv k)).run P w= .ok () w
 eql: ∀w a b,(Op.equal kt (kv a) (kv b)).run P w= .ok (decide (a=b)) w
 wide:(match P.underlying kt with|some (.array _ _)|some (.struct _)=>true|_=>false)=true
 same: ∀k,Instr.sameBits 10000 (kv k) (kv k)=true
 inj: ∀a b,kv a=kv b→a=b
def NF(p:Int×Int):Value:= .agg #[.int .i64 p.1,.int .i64 p.2]
def k2(l:List Int):Int×Int:=(l.getD 0 0,l.getD 1 0)
theorem By{kt el:Nat}(h:P.underlying kt=some (.array 2 el))(he:P.underlying el=some (.int .i64))(ti:TI P el sz bytes agg z)(hsz:Nat.beq sz 1=true)(hq:G0 P kt (oz (rI .i64) 2)):UE P kt NF where
 chk:=fun e w k=>by
  obtain⟨i,zv,hi,hs,_⟩:=ti.get
  have h1:sz=1:=q7 hsz
  have ha:(isAgg el).run P w= .ok false w:=by
   simp [isAgg,jQ he,Result.andThen]
  have h3: ∀(j:Nat) (x:Int) (cs:Array Value),cs[j]? =some (.int .i64 x)→(part el cs (j*i.size)).run P w= .ok (.int .i64 x) w:=fun j x cs hj=>by
   simp [part,ha,Result.andThen,hs,h1,hj]
  have h4: ∀x:Int,(Instr.checkKey e 9999 el (.int .i64 x)).run P w= .ok () w:=fun x=>by
   show(Instr.checkKey e (9998+1) el (.int .i64 x)).run P w= .ok () w
   unfold Instr.checkKey
   simp only [s4,jQ he,tq]
   rfl
  have e1:=h3 0 k.1 #[.int .i64 k.1,.int .i64 k.2] rfl
  have e2:=h3 1 k.2 #[.int .i64 k.1,.int .i64 k.2] rfl
  show(Instr.checkKey e (9999+1) kt (NF k)).run P w= .ok () w
  unfold Instr.checkKey
  simp only [NF,s4,jQ h,tq,Std.Legacy.Range.forIn_eq_forIn_range',Std.Legacy.Range.size,Nat.sub_zero,Nat.add_sub_cancel,Nat.div_one,List.range'_succ,List.range'_zero,List.forIn_cons,List.forIn_nil,sizeOf,typeInfo,hi,Sem.run_pure,Nat.zero_mul,va,Nat.one_mul]
  simp only [Nat.zero_mul,Nat.one_mul]at e1 e2
  simp [e1,e2,h4,Result.andThen,hi]
 eql:=fun w a b=>by
  have:=hq.run (fun _=>none) [.int .i64 a.1,.int .i64 a.2] [.int .i64 b.1,.int .i64 b.2] [a.1,a.2] [b.1,b.2] 9980 w ⟨rfl,[_],[_],rfl,rfl,[_],[],rfl,rfl,rfl⟩ ⟨rfl,[_],[_],rfl,rfl,[_],[],rfl,rfl,rfl⟩
  have e1:decide (([a.1,a.2]:List Int)=[b.1,b.2])=decide (a=b):=by
   obtain⟨a1,a2⟩:=a;obtain⟨b1,b2⟩:=b;simp
  rw [e1]at this
  show(Op.equalIn (9980+20) kt (NF a) (NF b)).run P w=_
  exact this
 wide:=by rw [h]
 same:=fun k=>by
  show Instr.sameBits (9999+1) (NF k) (NF k)=true
  unfold Instr.sameBits NF
  simp only [List.zip_cons_cons,List.zip_nil_left,vi,List.all_nil]
  unfold Instr.sameBits
  simp
 inj:=fun a b h=>by
  obtain⟨a1,a2⟩:=a;obtain⟨b1,b2⟩:=b
  simpa [NF] using h
section
variable [DecidableEq κ]{k:κ}
end
section
variable [DecidableEq κ]{k:κ}{i v:Operand}{dst:Option Nat}
end

def LQ(p:Int×Int×Int):Value:= .agg #[.int .i64 p.1,.int .i64 p.2.1,.int .i64 p.2.2]
theorem SM{kt el:Nat}{l:Array Field} [DecidableEq α]{mk:Int×Int×Int→α}(h:P.underlying kt=some (.struct l))(hl:l.toList.map (fun f=>(f.type,f.offset))=[(el,0),(el,1),(el,2)])(he:P.underlying el=some (.int .i64))(ti:TI P el sz bytes agg z)(hsz:Nat.beq sz 1=true)(hag:r.agg=true)(hr: ∀p:Int×Int×Int,r.rc (fun _=>none) [.int .i64 p.1,.int .i64 p.2.1,.int .i64 p.2.2] (mk p))(hinj: ∀p q,mk p=mk q→p=q)(hq:G0 P kt r):UE P kt LQ where
 chk:=fun e w k=>by
  obtain⟨i,zv,hi,hs,_⟩:=ti.get
  have h1:sz=1:=q7 hsz
  have ha:(isAgg el).run P w= .ok false w:=by
   simp [isAgg,jQ he,Result.andThen]
  have h3: ∀(j:Nat) (x:Int) (cs:Array Value),cs[j]? =some (.int .i64 x)→(part el cs j).run P w= .ok (.int .i64 x) w:=fun j x cs hj=>by
   simp [part,ha,Result.andThen,hj]
  have h4: ∀x:Int,(Instr.checkKey e 9999 el (.int .i64 x)).run P w= .ok () w:=fun x=>by
   show(Instr.checkKey e (9998+1) el (.int .i64 x)).run P w= .ok () w
   unfold Instr.checkKey
   simp only [s4,jQ he,tq]
   rfl
  have e1:=h3 0 k.1 #[.int .i64 k.1,.int .i64 k.2.1,.int .i64 k.2.2] rfl
  have e2:=h3 1 k.2.1 #[.int .i64 k.1,.int .i64 k.2.1,.int .i64 k.2.2] rfl
  have e3:=h3 2 k.2.2 #[.int .i64 k.1,.int .i64 k.2.1,.int .i64 k.2.2] rfl
  obtain⟨l0,rfl⟩: ∃l0:List Field,l=l0.toArray:=⟨l.toList,by simp⟩
  have hlen:l0.length=3:=by simpa using congrArg List.length hl
  obtain⟨f0,f1,f2,rfl⟩: ∃f0 f1 f2,l0=[f0,f1,f2]:=by
   match l0,hlen with
   |[a,b,c],_=>exact⟨a,b,c,rfl⟩
  simp only [CO,List.map_nil,List.cons.injEq,Prod.mk.injEq,and_true]at hl
  obtain⟨⟨a0,b0⟩,⟨a1,b1⟩,⟨a2,b2⟩⟩:=hl
  show(Instr.checkKey e (9999+1) kt (LQ k)).run P w= .ok () w
  unfold Instr.checkKey
  simp only [LQ,s4,jQ h,tq]
  by_cases n0:f0.name= "_" <;>by_cases n1:f1.name= "_" <;>by_cases n2:f2.name= "_" <;>simp [n0,n1,n2,a0,a1,a2,b0,b1,b2,e1,e2,e3,h4,Result.andThen]
 eql:=fun w a b=>by
  have:=hq.run (fun _=>none) _ _ _ _ 9980 w (hr a) (hr b)
  have e1:decide (mk a=mk b)=decide (a=b):=xJ.2 ⟨fun e=>hinj a b e,fun e=>by rw [e]⟩
  rw [e1]at this
  have hv: ∀p:Int×Int×Int,r.val [.int .i64 p.1,.int .i64 p.2.1,.int .i64 p.2.2]=LQ p:=fun p=>by simp [Rp.val,hag,LQ]
  rw [hv,hv]at this
  show(Op.equalIn (9980+20) kt (LQ a) (LQ b)).run P w=_
  exact this
 wide:=by rw [h]
 same:=fun k=>by
  show Instr.sameBits (9999+1) (LQ k) (LQ k)=true
  unfold Instr.sameBits LQ
  simp only [List.zip_cons_cons,List.zip_nil_left,vi,List.all_nil]
  unfold Instr.sameBits
  simp
 inj:=fun a b h=>by
  obtain⟨a1,a2,a3⟩:=a;obtain⟨b1,b2,b3⟩:=b
  simpa [LQ] using h
section
variable [DecidableEq κ]{k:κ}{i v:Operand}{dst:Option Nat}
end
section
variable [DecidableEq κ]{h:Option κ}{dst:Option Nat}
end
section
variable{e:Exit}
end

section
variable [DecidableEq κ]
end
section
variable [DecidableEq κ]{k:κ}{i v u:Operand}{dst:Option Nat}
end
open Go.Sort Go.Shelf

theorem yv{os:Array Obj}{k:Nat}(h:k<w.heap.size):(grow w os).heap[k]? =w.heap[k]? :=by
 unfold grow;exact Array.getElem?_append_left h
theorem Gi [Inhabited α]{enc:α→Value}{off:Nat}{d:Array α}{k:Nat}(h:k≠b):(putRow enc w b off d).heap[k]? =w.heap[k]? :=by
 unfold putRow mapBlock
 rw [Array.getElem?_modify,aW (Ne.symm h)]
theorem yu [Inhabited α]{enc:α→Value}{off m:Nat}{d:Array α}{os:Array Obj}{k:Nat}(hk:k<w.heap.size)(h:k≠b):(sortWorld enc w b off m d os).heap[k]? =w.heap[k]? :=by
 unfold sortWorld
 rw [yv (by rw [size_putRow];exact hk),Gi h];rfl
theorem Ek [Inhabited α]{enc:α→Value}{off m:Nat}{d:Array α}{os:Array Obj}{c:Array Value}{fr:Nat×Nat}(h:w.heap[b]? =some (.cells c T fr)):
  (sortWorld enc w b off m d os).heap[b]? =some (.cells (putCells enc off d c) T fr):=by
 have hlt:=(DG.1 h).1
 unfold sortWorld
 rw [yv (by rw [size_putRow];exact hlt)]
 unfold putRow mapBlock
 rw [Array.getElem?_modify,bq rfl]
 show Option.map _ (w.heap[b]?)=_
 rw [h];rfl
theorem Ct [Inhabited α]{enc:α→Value}{d:Array α}{c:Array Value}(h:d.size≤c.size):(putCells enc 0 d c).toList.take d.size=d.toList.map enc:=by
 apply List.ext_getElem?
 intro k
 by_cases hk:k<d.size
 ·rw [yV hk]
  have hc:k<c.size:=by omega
  simp [putCells,hc,hk]
 ·rw [G7 (by simp;omega),G7 (by simp;omega)]
section
theorem GL{m:Nat}{l:Option Nat}(hl:m=n)(s:Nat)(hs:d9 G s=some (tV (ax l cap n)))(k:RG E ops Q rest O ((s,tV (ax l cap m))::G)):RG E ops Q rest O G:=by
 subst hl
 exact fun a w S st=>k a w S ⟨st.ext,st.sat,st.own,⟨st.facts.size,st.facts.defers,fun j t h=>by
  unfold d9 at h
  by_cases hb:Nat.beq s j=true
  ·rw [hb]at h
   have:=q7 hb
   subst this
   have e:tV (ax l cap m)=t:=by simpa using h
   rw [←e];exact st.facts.at_ s _ hs
  ·rw [Ac]at hb
   rw [hb]at h
   exact st.facts.at_ j t h⟩⟩
end

def R5{α:Type}(cmp:α×α→Option Int)(x y:α):Bool:=
 match cmp (x,y)with
 |some c=>decide (c<0)
 |none=>false
def SO{α:Type}(lt:α→α→Bool)(x:α):List α→List α
 |[]=>[x]
 |y::ys=>if lt y x then y::SO lt x ys else x::y::ys
def Px{α:Type}(lt:α→α→Bool):List α→List α
 |[]=>[]
 |x::xs=>SO lt x (Px lt xs)
structure Good{α:Type}(cmp:α×α→Option Int)(xs:List α):Prop where
 len:xs.length≤1099511627776
 tot: ∀x∈xs,∀y∈xs,(cmp (x,y)).isSome=true
 irr: ∀x∈xs,R5 cmp x x=false
 tr: ∀x∈xs,∀y∈xs,∀z∈xs,R5 cmp x y=true→R5 cmp y z=true→R5 cmp x z=true
 anti: ∀x∈xs,∀y∈xs,R5 cmp x y=false→R5 cmp y x=false→x=y
def sortI(xs:List Int):List Int:=xs.mergeSort fun x y=>decide (x≤y)
theorem y6(xs:List Int):(sortI xs).length=xs.length:=by unfold sortI;simp
def AZ(xs:List Int):Option (List Int):=if xs.length≤68719476736 then some (sortI xs)else none
theorem Fp{xs ys:List Int}(h:AZ xs=some ys):xs.length≤68719476736∧ys=sortI xs:=by
 unfold AZ at h
 split at h
 ·exact⟨by assumption,by simpa using h.symm⟩
 ·cases h


theorem IG{k:IntKind}{S:SH}: ∀{xs:List Int} {cs:List Value},qT (rI k) S cs xs→cs=xs.map (Value.int k)
 |[],cs,h=>by rw [show cs=[]from h];rfl
 |x::xs,cs,⟨a,b,e,h1,h2⟩=>by
  rw [e,show a=[.int k x]from h1,IG h2]
  rfl
theorem IV{k:IntKind}{S:SH}: ∀xs:List Int,qT (rI k) S (xs.map (Value.int k)) xs
 |[]=>rfl
 |x::xs=>⟨[.int k x],_,rfl,rfl,IV xs⟩
theorem JL{ρ:Ren}(L:Lays.n189 P ρ){l:Option Nat}{xs:List Int}(hlen0:xs.length≤68719476736)(hs:lI w S)(h:(df (rI .i64) T l cap xs).p w S):
  Calls P (ρ.f 189) #[ax l cap xs.length] w fun e w' =>e= .returned (.tuple #[])∧kj (fun k=>l=some k) w S w' S∧lI w' S∧(df (rI .i64) T l cap (sortI xs)).p w' S:=by
 cases l with
 |none=>
  have hx:xs=[]:=tv (by obtain⟨_,h4,_⟩:=h;exact h4.1)
  subst hx
  exact(Any.slices_Sort_int_none (P:=P) (ρ:=ρ) L none 0 w).mono fun _ _ ⟨h1,h2⟩=>by subst h2;exact⟨h1,kU _ _ _,hs,by simpa [sortI] using h⟩
 |some b=>
  obtain⟨cells0,⟨cur,hb,hle,hmax,hcs,hct⟩,hrc,hno0⟩:=h
  have hno:S b=none:=hno0 b rfl
  subst hct
  have h1:(rI .i64).sz=1:=rfl
  rw [h1,Nat.mul_one]at hcs hrc
  have hcells:=IG hrc
  have hH:Holds (Value.int .i64) w b 0 xs.toArray:=by
   intro j hj
   have hj' :j<xs.length:=by simpa using hj
   have hc:cur[j]? =some (Value.int .i64 xs.toArray[j]!):=by
    have:(cur.toList.take xs.length)[j]? =some (Value.int .i64 xs.toArray[j]!):=by
     rw [hcells,List.getElem?_map,getElem!_pos xs.toArray j hj]
     simp [hj']
    rw [yV (by omega)]at this
    simpa using this
   refine⟨by simp [World.cell?,hb,hc],?_⟩
   simp [World.frozen?,hb]
  have hblk:=(DG.1 hb).1
  have hcall:=calls_of_every_depth fun D=>AnyS.slices_Sort_int_alone (P:=P) (ρ:=ρ) L D b 0 cap xs w hH hblk (by omega)
  refine hcall.mono fun e w' ⟨he,n,os,hw⟩=>?_
  have hlen:=y6 xs
  have hw2:w' =sortWorld (Value.int .i64) w b 0 n (sortI xs).toArray os:=hw
  subst hw2
  refine⟨he,⟨rfl,rfl,rfl,Nat.le_add_right _ _,?_,fun k hk hkb=>yu hk (fun e=>hkb (by rw [e])),SH.le_refl _,fun _ _ _=>rfl⟩,hs.same fun k o hk=>?_,⟨_,⟨_,Ek hb,by omega,hmax,?_,rfl⟩,?_,hno0⟩⟩
  ·unfold sortWorld;rw [size_grow,size_putRow];exact Nat.le_add_right _ _
  ·have hkb:k≠b:=fun e=>by subst e;rw [hno]at hk;cases hk
   exact yu (hs.lt hk) hkb
  ·simp [putCells,h1,hcs]
  ·have e1:(sortI xs).length*(rI .i64).sz=(sortI xs).toArray.size:=by rw [h1];simp
   rw [e1,Ct (by simp;omega)]
   exact IV (sortI xs)
section
theorem MO{ρ:Ren}(L:Lays.n189 E.P ρ){f:FuncId}(hf:ρ.f 189=f)(hc:an E.P f=true){l:Option Nat}{xs ys:List Int}(hy:AZ xs=some ys)(hx:aK E.N G x (tV (ax l cap n)))(hn:n=xs.length)(hd:Nat.blt d E.N.n=true)(k:ys.length=n→RG E ops Q rest (df (rI .i64) T l cap ys::O) ((d,Fn)::G)):RG E ops Q (⟨some d,.call ⟨.value (.func f),#[x],ats⟩,ty,pos,after,none⟩::rest) (df (rI .i64) T l cap xs::O) G:= .of rfl fun a w S st=>by
 obtain⟨hl0,rfl⟩:=Fp hy
 subst hf
 subst hn
 have h1:a.eval x=ax l cap xs.length:=hx S a st.facts
 have hr:(execOp a.eval ⟨some d,.call ⟨.value (.func (ρ.f 189)),#[x],ats⟩,ty,pos,after,none⟩).run E.P w= .ok (.enter (ρ.f 189) #[ax l cap xs.length]) w:=by
  have e0:a.eval (.func (ρ.f 189))= .func (.func (ρ.f 189)) #[] #[]:=rfl
  simp [execOp,resolve,e0,h1,Deferred.ofValue,invoke,iP hc]
 refine⟨fun c h=>(by cases h),?_⟩
 rw [hr]
 refine(JL L hl0 st.sat st.own.1.1).mono fun e w' ⟨he,hext,hsat,hp⟩=>⟨_,he,?_⟩
 have hfp: ∀g∈O,∀b,g.fp b→ ¬(l=some b):=fun g hg b hb hl=>st.own.2.1 g hg b hl hb
 refine k (y6 xs) _ _ S ⟨st.ext.step hext (fun c hc=>st.own.1.2 c hc),hsat,⟨⟨hp,st.own.1.2⟩,st.own.2.1,st.own.2.2.ext hext hfp⟩,?_⟩;exact(st.facts.mono hext.keep).put hd trivial
end
end Go.Proofs.YtdohlidddcgfjaaGreat

