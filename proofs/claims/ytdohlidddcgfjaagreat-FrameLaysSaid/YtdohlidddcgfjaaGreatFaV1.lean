/- cT of this claim: W1, W49, W2, W3, W4, W5, W6, W7, W8, W9, W10, W11, W12, W13. -/
import Derived.WalkKit
import Derived.Orders
import Derived.Lone
import Derived.RunT
import Derived.Calls
import Derived.RangeFuncIn
import Derived.TacticsIn
import Derived.OrdersIn
import Derived.LoopIn
import Derived.Laws.AppendOwn
import Derived.Deep.Upon
import Derived.Lib.AppendStr
import Derived.IntWalk
set_option linter.all false
-- TABI
namespace Go.Proofs.YtdohlidddcgfjaaGreat
open Go
def bj:= @Option.bind_some
def aW:= @if_neg
def bq:= @if_pos
def nf:= @List.mem_cons_self
def oO:= @List.mem_cons_of_mem
def nh:= @List.append_assoc
def nT:= @List.length_cons
def kF:= @List.getElem?_eq_some_iff
def kW:= @List.getElem?_eq_getElem
def gX:= @Bool.and_eq_true
def eE:= @Nat.le_refl
def lM:= @List.length_append
def jQ:= @run_underlying
def jW:= @List.mem_cons
def lL:= @List.nil_append
def tv:= @List.eq_nil_of_length_eq_zero
def q7:= @Nat.eq_of_beq_eq_true
def qM:= @List.mem_of_getElem?
def rm:= @Nat.le_of_ble_eq_true
def mZ:= @Bool.true_and
def pq:= @List.all_eq_true
def ve:= @List.getElem?_append_right
def tu:= @List.take_of_length_le
def tt:= @List.take_append_drop
def rl:= @decide_eq_true_eq
def pX:= @Bool.eq_iff_iff
def qL:= @Option.some.inj
def ub:= @List.drop_eq_nil_iff
def xf:= @List.drop_eq_getElem_cons
def nU:= @Nat.zero_le
def oZ:= @Nat.lt_or_ge
def Ag:= @List.take_append_of_le_length
def tq:= @Result.andThen_ok
def yV:= @List.getElem?_take_of_lt
def vd:= @Nat.lt_of_lt_of_le
def vb:= @Bool.false_eq_true
def Af:= @List.getElem?_append_left
def wR:= @List.getElem?_drop
def yU:= @List.drop_eq_nil_of_le
def ua:= @List.length_nil
def t8:= @List.append_nil
def xK:= @Nat.mul_le_mul_right
def t7:= @Bool.and_assoc
def t6:= @List.drop_drop
def s4:= @Sem.run_bind
def Cl:= @Array.getElem?_replicate
def uY:= @Bool.not_true
def DG:= @Array.getElem?_eq_some_iff
def ow:= @if_true
def xe:= @decide_eq_false
def xJ:= @decide_eq_decide
def Ck:= @Option.map_eq_some_iff
def ss:= @beq_iff_eq
def xI:= @Nat.min_eq_left
def xd:= @List.drop_zero
def yT:= @Nat.lt_succ_self
def qK:= @if_false
def va:= @Nat.zero_add
def yS:= @List.mem_append
def wQ:= @Nat.mul_succ
def Ac:= @Bool.not_eq_true
def Ab:= @IntKind.wrap_i64
def tZ:= @Nat.blt_eq
def G8:= @Array.getD_eq_getD_getElem?
def AJ:= @Int.toNat_natCast
def u9:= @Nat.add_mul
def Aa:= @List.length_set
def Cj:= @List.mem_singleton
def E2:= @List.drop_of_length_le
def Ch:= @List.flatMap_cons
def z8:= @List.take_take
def E1:= @Bool.and_eq_true_iff
def Cg:= @List.length_take
def z7:= @List.cons.inj
def DD:= @Bool.not_eq_true'
def EZ:= @Array.length_toList
def Cf:= @IntKind.wrap_u8
def G7:= @List.getElem?_eq_none
def KX:= @List.drop_append_of_le_length
def DC:= @List.cons_append
def xO:= @IntKind.wrap_u64
def xN:= @List.take_length
def vj:= @Bool.false_or
def vi:= @List.all_cons
def vh:= @getD_set_true
def zI:= @Bool.eq_false_iff
def vg:= @Nat.sub_self
def vf:= @Nat.le_trans
def xM:= @heap_alloc_new
def xL:= @Bool.not_false
def CS:= @List.mem_append_left
def zF:= @Bool.or_eq_true
def E4:= @List.getElem?_cons_zero
def zE:= @List.drop_take
def AM:= @List.length_drop
def uN:= @mem_ready
def rO:= @Iff.rfl
def E3:= @List.length_replicate
def CR:= @List.size_toArray
def wW:= @bne_iff_ne
def CQ:= @List.getElem_mem
def Iq:= @Nat.add_right_cancel_iff
def CP:= @List.any_eq_true
def zD:= @Nat.add_zero
def Ip:= @decide_eq_false_iff_not
def zC:= @getD_set_ne
def Io:= @MapKept.run_getObj_map
def AL:= @List.mem_map
def AK:= @Nat.le_of_eq
def Im:= @MapKept.run_checkKey
def CO:= @List.map_cons

def EW:Obj→Obj→Prop
 | .cells c E fr,o' => ∃d:List Value,o' = .cells (c.toList++d).toArray E fr
 |o,o' =>o' =o
variable{o:Oper}
theorem sd(o:Obj):EW o o:=by
 cases o<;>first|rfl|exact⟨[],by simp⟩
variable{c:Code}{cells:List Value}{d:Nat}{fr:Nat×Nat}{k:Nat}{o' :Obj}
theorem Db{o o'' :Obj}(h:EW o o')(k:EW o' o''):EW o o'' :=by
 cases o with
 |cells c E fr=>
  obtain⟨d,rfl⟩:=h
  obtain⟨d',rfl⟩:=k
  exact⟨d++d',by simp⟩
 |_=>cases h;exact k
variable{off:Nat}
theorem Bo{c:Array Value}{E:TypeId}(h:EW (.cells c E fr) o'){n:Nat}(hl:((c.toList.drop off).take n).length=n):
  ∃c',o' = .cells c' E fr∧(c'.toList.drop off).take n=(c.toList.drop off).take n:=by
 obtain⟨d,rfl⟩:=h
 refine⟨_,rfl,?_⟩
 by_cases hn:n=0
 ·subst hn;simp
 simp only [Cg,AM]at hl
 rw [KX (by omega),Ag (by simp only [AM];omega)]
abbrev SH:=Nat→Option Obj
def SH.le(S S' :SH):Prop:= ∀b o,S b=some o→ ∃o',S' b=some o' ∧EW o o'
variable{S:SH}
theorem SH.le_refl(S:SH):SH.le S S:=fun _ o h=>⟨o,h,sd o⟩
variable{S' S'' :SH}{b:Bool}{e:TypeId}
theorem SH.le_trans(h:SH.le S S')(k:SH.le S' S''):SH.le S S'' :=fun b o e=>let⟨o',h1,h2⟩:=h b o e;let⟨o'',h3,h4⟩:=k b o' h1;⟨o'',h3,Db h2 h4⟩
structure Ty where
 p:SH→Value→Prop
 mono: ∀{S S' :SH} {v:Value},SH.le S S' →p S v→p S' v

structure Rp(α:Type) where
 sz:Nat
 agg:Bool
 rc:SH→List Value→α→Prop
 mono: ∀{S S' :SH} {cs:List Value} {x:α},SH.le S S' →rc S cs x→rc S' cs x
 len: ∀{S:SH} {cs:List Value} {x:α},rc S cs x→cs.length=sz
 one: ∀{S:SH} {cs:List Value} {x:α},rc S cs x→ ∀c∈cs,c.oneCell' =true
 sc:agg=false→sz=1

def Rp.val{α:Type}(r:Rp α)(cs:List Value):Value:=if r.agg then .agg cs.toArray else cs.headD undef

def tD{α:Type}(r:Rp α)(x:α):Ty where
 p:=fun S v=> ∃cs,v=r.val cs∧r.rc S cs x
 mono:=fun h ⟨cs,e,k⟩=>⟨cs,e,r.mono h k⟩

def Fn:Ty where
 p:=fun _ _=>True
 mono:=fun _ _=>trivial

def tV(u:Value):Ty where
 p:=fun _ v=>v=u
 mono:=fun _ h=>h

def rI(k:IntKind):Rp Int where
 sz:=1
 agg:=false
 rc:=fun _ cs x=>cs=[.int k x]
 mono:=fun _ h=>h
 len:=fun h=>by rw [h];rfl
 one:=fun h c hc=>by subst h;simp at hc;subst hc;rfl
 sc:=fun _=>rfl

def rB:Rp Bool where
 sz:=1
 agg:=false
 rc:=fun _ cs x=>cs=[.bool x]
 mono:=fun _ h=>h
 len:=fun h=>by rw [h];rfl
 one:=fun h c hc=>by subst h;simp at hc;subst hc;rfl
 sc:=fun _=>rfl

abbrev Ky:=List UInt8
def rS:Rp Ky where
 sz:=1
 agg:=false
 rc:=fun _ cs x=>cs=[.string ⟨x.toArray⟩]
 mono:=fun _ h=>h
 len:=fun h=>by rw [h];rfl
 one:=fun h c hc=>by subst h;simp at hc;subst hc;rfl
 sc:=fun _=>rfl

variable{cs:List Value}{v:Value}
theorem eO{k:IntKind}{n:Int}:(tD (rI k) n).p S v↔v= .int k n:=by
 constructor
 ·rintro⟨cs,rfl,h⟩;have h' :cs=[.int k n]:=h;subst h';rfl
 ·rintro rfl;exact⟨[.int k n],rfl,rfl⟩
theorem gY:(tD rB b).p S v↔v= .bool b:=by
 constructor
 ·rintro⟨cs,rfl,h⟩;have h' :cs=[.bool b]:=h;subst h';rfl
 ·rintro rfl;exact⟨[.bool b],rfl,rfl⟩
variable{s:Ky}
theorem y4:(tD rS s).p S v↔v= .string ⟨s.toArray⟩:=by
 constructor
 ·rintro⟨cs,rfl,h⟩;have h' :cs=[.string ⟨s.toArray⟩]:=h;subst h';rfl
 ·rintro rfl;exact⟨[.string ⟨s.toArray⟩],rfl,rfl⟩

def qT{α:Type}(r:Rp α)(S:SH):List Value→List α→Prop
 |cs,[]=>cs=[]
 |cs,x::xs=> ∃a b,cs=a++b∧r.rc S a x∧qT r S b xs
variable{a:Act}{α:Type}{xs:List α}
theorem qS{α:Type}{r:Rp α}{S S' :SH}(h:SH.le S S'): ∀{xs:List α} {cs:List Value},qT r S cs xs→qT r S' cs xs
 |[],_,k=>k
 |_::_,_,⟨a,b,e,h1,h2⟩=>⟨a,b,e,r.mono h h1,qS h h2⟩
variable{x:Operand}
theorem kL{α:Type}{r:Rp α}{S:SH}: ∀{xs:List α} {cs:List Value},qT r S cs xs→cs.length=xs.length*r.sz
 |[],_,k=>by rw [show _=_ from k];simp
 |x::xs,_,⟨a,b,e,h1,h2⟩=>by rw [e,lM,r.len h1,kL h2,nT,u9];omega
theorem yi{α:Type}{r:Rp α}{S:SH}: ∀{xs:List α} {cs:List Value},qT r S cs xs→ ∀c∈cs,c.oneCell' =true
 |[],_,k,c,hc=>by rw [show _=_ from k]at hc;cases hc
 |x::xs,_,⟨a,b,e,h1,h2⟩,c,hc=>by
  rw [e]at hc
  rcases yS.1 hc with h|h
  ·exact r.one h1 c h
  ·exact yi h2 c h
variable{ys:List α}
theorem sa{α:Type}{r:Rp α}{S:SH}: ∀{xs ys:List α} {cs ds:List Value},qT r S cs xs→qT r S ds ys→qT r S (cs++ds) (xs++ys)
 |[],_,_,_,k,h=>by rw [show _=_ from k];exact h
 |_::_,_,_,_,⟨a,b,e,h1,h2⟩,h=>⟨a,_,by rw [e,nh],h1,sa h2 h⟩
theorem pe{α:Type}{r:Rp α}{S:SH}: ∀{xs ys:List α} {cs:List Value},qT r S cs (xs++ys)→
  qT r S (cs.take (xs.length*r.sz)) xs∧qT r S (cs.drop (xs.length*r.sz)) ys
 |[],_,_,k=>by simp [qT];exact k
 |x::xs,ys,cs,⟨a,b,e,h1,h2⟩=>by
  have hl:=r.len h1
  have ih:=pe h2
  have e1:(x::xs).length*r.sz=a.length+xs.length*r.sz:=by rw [hl,nT,u9];omega
  rw [e,e1,List.take_length_add_append,List.drop_length_add_append]
  exact⟨⟨a,_,rfl,h1,ih.1⟩,ih.2⟩
theorem Hu{r:Rp α}{x:α}:qT r S cs [x]↔r.rc S cs x:=by
 constructor
 ·rintro⟨a,b,rfl,h,hb⟩
  rw [show b=[]from hb,t8];exact h
 ·intro h;exact⟨cs,[],by simp,h,rfl⟩
variable{i:Nat}
theorem yk{r:Rp α}(h:qT r S cs xs){x:α}(hx:xs[i]? =some x):
  r.rc S ((cs.drop (i*r.sz)).take r.sz) x:=by
 have hi:i<xs.length:=(kF.1 hx).1
 have e:xs=xs.take i++(x::xs.drop (i+1)):=by
  have:=kF.1 hx
  rw [←this.2,←xf hi,tt]
 have hl:(xs.take i).length=i:=by simp;omega
 rw [e]at h
 have h2:=(pe h).2
 rw [hl]at h2
 obtain⟨a,b,e2,h3,_⟩:=h2
 rw [e2,←r.len h3,List.take_left]
 exact h3

def C1{α:Type}(r:Rp α)(S:SH)(a:Option Addr)(xs:List α):Prop:=
 xs=[]∨ ∃b off c E fr,a=some ⟨b,off,none⟩∧S b=some (.cells c E fr)∧qT r S ((c.toList.drop off).take (xs.length*r.sz)) xs
def gB{α:Type}(r:Rp α):Rp (List α) where
 sz:=1
 agg:=false
 rc:=fun S cs xs=> ∃a cap,cs=[.slice a xs.length cap]∧xs.length≤cap∧cap≤maxLen∧C1 r S a xs
 mono:=fun h ⟨a,cap,e,h1,h2,h3⟩=>⟨a,cap,e,h1,h2,h3.imp id fun⟨b,off,c,E,fr,e1,e2,e3⟩=>by
  obtain⟨o',h4,h5⟩:=h _ _ e2
  obtain⟨c',rfl,h6⟩:=Bo h5 (kL e3)
  exact⟨b,off,c',E,fr,e1,h4,by rw [h6];exact qS h e3⟩⟩
 len:=fun⟨a,cap,e,_⟩=>by rw [e];rfl
 one:=fun⟨a,cap,e,_⟩ c hc=>by rw [e]at hc;simp at hc;subst hc;rfl
 sc:=fun _=>rfl
variable{cap:Nat}
theorem m4{r:Rp α}:(tD (gB r) xs).p S v↔ ∃a cap,v= .slice a xs.length cap∧xs.length≤cap∧cap≤maxLen∧C1 r S a xs:=by
 constructor
 ·rintro⟨cs,rfl,a,cap,rfl,h⟩;exact⟨a,cap,rfl,h⟩
 ·rintro⟨a,cap,rfl,h⟩;exact⟨_,rfl,a,cap,rfl,h⟩
theorem DQ{r:Rp α}:(tD (gB r) []).p S (.slice none 0 0):=m4.2 ⟨none,0,rfl,eE _,nU _,.inl rfl⟩

def ce{α:Type}(r:Rp α)(x:α):Ty where
 p:=fun S v=> ∃b off c E fr,v= .pointer (some ⟨b,off,none⟩)∧S b=some (.cells c E fr)∧r.rc S ((c.toList.drop off).take r.sz) x
 mono:=fun h ⟨b,off,c,E,fr,e1,e2,e3⟩=>by
  obtain⟨o',h4,h5⟩:=h _ _ e2
  obtain⟨c',rfl,h6⟩:=Bo h5 (r.len e3)
  exact⟨b,off,c',E,fr,e1,h4,by rw [h6];exact r.mono h e3⟩

def SQ:List (Nat×List Value):=[]
def Sw(w:World):Prop:=True
structure lI(w:World)(S:SH):Prop where
 at_: ∀b o,S b=some o→ ∃o',w.heap[b]? =some o' ∧EW o o'
 gl: ∀p∈SQ,∃c T fr,S p.1=some (.cells c T fr)∧c.toList.take p.2.length=p.2
 tb: ∀w' :World,(∀b o,S b=some o→ ∃o',w'.heap[b]? =some o' ∧EW o o')→Sw w'
instance{w:World}{S:SH}:CoeFun (lI w S) (fun _=> ∀b o,S b=some o→ ∃o',w.heap[b]? =some o' ∧EW o o'):=⟨lI.at_⟩
variable{w:World}
theorem lI.lt(h:lI w S){b:Nat}{o:Obj}(k:S b=some o):b<w.heap.size:=let⟨_,h1,_⟩:=h b o k;(DG.1 h1).1
theorem lI.part(h:lI w S){b:Nat}{c:Array Value}{E:TypeId}(k:S b=some (.cells c E fr)){n:Nat}(hl:((c.toList.drop off).take n).length=n):
  ∃c',w.heap[b]? =some (.cells c' E fr)∧(c'.toList.drop off).take n=(c.toList.drop off).take n:=by
 obtain⟨o',h1,h2⟩:=h b _ k
 obtain⟨c',rfl,h3⟩:=Bo h2 hl
 exact⟨c',h1,h3⟩
variable{w' :World}
theorem lI.same(h:lI w S)(k: ∀b o,S b=some o→w'.heap[b]? =w.heap[b]?):lI w' S:=⟨fun b o e=>by rw [k b o e];exact h b o e,h.gl,h.tb⟩

def tN:Nat→Prop:=fun _=>False
structure kj(B:Nat→Prop)(w:World)(S:SH)(w' :World)(S' :SH):Prop where
 os:w'.os=w.os
 tape:w'.tape=w.tape
 output:w'.output=w.output
 drawn:w.drawn≤w'.drawn
 size:w.heap.size≤w'.heap.size
 heap: ∀k,k<w.heap.size→ ¬B k→w'.heap[k]? =w.heap[k]?
 keep:SH.le S S'
 old: ∀k,k<w.heap.size→ ¬B k→S' k=S k
theorem kU(B:Nat→Prop)(w:World)(S:SH):kj B w S w S:=⟨rfl,rfl,rfl,eE _,eE _,fun _ _ _=>rfl,SH.le_refl _,fun _ _ _=>rfl⟩
variable{w'' :World}
theorem kj.trans{B:Nat→Prop}(h:kj B w S w' S')(k:kj B w' S' w'' S''):kj B w S w'' S'' :=
 ⟨k.os.trans h.os,k.tape.trans h.tape,k.output.trans h.output,vf h.drawn k.drawn,vf h.size k.size,
  fun i hi hb=>(k.heap i (vd hi h.size) hb).trans (h.heap i hi hb),SH.le_trans h.keep k.keep,
  fun i hi hb=>(k.old i (vd hi h.size) hb).trans (h.old i hi hb)⟩
variable{C:Nat→Prop}
theorem kj.step{B:Nat→Prop}(h:kj B w S w' S')(k:kj C w' S' w'' S'')(hC: ∀b,C b→w.heap.size≤b∨B b):kj B w S w'' S'' :=
 ⟨k.os.trans h.os,k.tape.trans h.tape,k.output.trans h.output,vf h.drawn k.drawn,vf h.size k.size,
  fun i hi hb=>(k.heap i (vd hi h.size) (fun hc=>(hC i hc).elim (fun h=>by omega) hb)).trans (h.heap i hi hb),SH.le_trans h.keep k.keep,
  fun i hi hb=>(k.old i (vd hi h.size) (fun hc=>(hC i hc).elim (fun h=>by omega) hb)).trans (h.old i hi hb)⟩
theorem kj.more{B:Nat→Prop}(h:kj B w S w' S')(k: ∀b,B b→C b):kj C w S w' S' :=
 ⟨h.os,h.tape,h.output,h.drawn,h.size,fun i hi hb=>h.heap i hi (fun h=>hb (k i h)),h.keep,fun i hi hb=>h.old i hi (fun h=>hb (k i h))⟩
theorem kj.step0{B:Nat→Prop}(h:kj B w S w' S')(k:kj tN w' S' w'' S''):kj B w S w'' S'' :=h.step k fun _ hb=>hb.elim

structure OE where
 fp:Nat→Prop
 p:World→SH→Prop
 here: ∀{w S},p w S→ ∀k,fp k→k<w.heap.size
 kept: ∀{C w w' S S'},p w S→kj C w S w' S' →(∀k,fp k→ ¬C k)→p w' S'
def OE.holds(e:OE)(base:Nat)(B:Nat→Prop)(w:World)(S:SH):Prop:=e.p w S∧ ∀k,e.fp k→base≤k∨B k
def OE.apart(e f:OE):Prop:= ∀b,e.fp b→ ¬f.fp b
def fR(base:Nat)(B:Nat→Prop)(w:World)(S:SH):List OE→Prop
 |[]=>True
 |e::O=>e.holds base B w S∧(∀f∈O,e.apart f)∧fR base B w S O
theorem EO{e:OE}{base:Nat}{B:Nat→Prop}(h:e.holds base B w S)(k:kj C w S w' S')(hC: ∀b,e.fp b→ ¬C b):e.holds base B w' S' :=⟨e.kept h.1 k hC,h.2⟩
variable{O:List OE}{f:FuncId}
theorem fR.ext{base:Nat}{B:Nat→Prop}(k:kj C w S w' S'): ∀{O:List OE},fR base B w S O→(∀e∈O,∀b,e.fp b→ ¬C b)→fR base B w' S' O
 |[],_,_=>trivial
 |e::_,⟨h1,h2,h3⟩,hC=>⟨EO h1 k (hC e (nf ..)),h2,fR.ext k h3 fun f hf=>hC f (oO _ hf)⟩
theorem fR.ext0{base:Nat}{B:Nat→Prop}(k:kj tN w S w' S')(h:fR base B w S O):fR base B w' S' O:=
 h.ext k fun _ _ _ _ hb=>hb
theorem fR.mem{base:Nat}{B:Nat→Prop}: ∀{O:List OE},fR base B w S O→ ∀e∈O,e.holds base B w S
 |_::_,⟨h1,_,_⟩,_,.head _=>h1
 |_::_,⟨_,_,h3⟩,_,.tail _ hm=>fR.mem h3 _ hm

abbrev mX:=List (Nat×Ty)
def d9:mX→Nat→Option Ty
 |[],_=>none
 |(k,t)::G,j=>bif Nat.beq k j then some t else d9 G j
structure Fr where
 n:Nat
 ds:List Deferred
structure cT(N:Fr)(S:SH)(a:Act)(G:mX):Prop where
 size:a.tmps.size=N.n
 defers:a.defers=N.ds
 at_: ∀k t,d9 G k=some t→t.p S (a.tmps.getD k undef)
variable{G:mX}{j:Nat}{t:Ty}
theorem cT.mono{N:Fr}(h:cT N S a G)(k:SH.le S S'):cT N S' a G:=⟨h.size,h.defers,fun j t e=>t.mono k (h.at_ j t e)⟩
theorem cT.sub{N:Fr}{G' :mX}(h:cT N S a G)(k: ∀j t,d9 G' j=some t→d9 G j=some t):cT N S a G' :=⟨h.size,h.defers,fun j t e=>h.at_ j t (k j t e)⟩
variable{u:OE}
theorem cT.put{N:Fr}(h:cT N S a G)(hd:Nat.blt d N.n=true)(hv:t.p S v):cT N S (a.put (some d) v) ((d,t)::G):=by
 have hd' :d<N.n:=by simpa [tZ] using hd
 refine⟨by simp [Act.put,h.size],h.defers,fun j u e=>?_⟩
 unfold d9 at e
 by_cases hj:d=j
 ·subst hj
  have e' :t=u:=by simpa using e
  rw [e']at hv
  simp [Act.put,G8,h.size,hd',hv]
 ·have hb:Nat.beq d j=false:=by cases hh:Nat.beq d j with
   |false=>rfl
   |true=>exact absurd (q7 hh) hj
  rw [hb]at e
  have:=h.at_ j u e
  simpa [Act.put,G8,Array.getElem?_setIfInBounds,hj] using this
def JI:mX→mX→Prop
 |[],_=>True
 |(k,t)::G',G=>d9 G k=some t∧JI G' G
theorem CZ: ∀{G' G:mX},JI G' G→ ∀j t,d9 G' j=some t→d9 G j=some t
 |(k,t)::G',G,⟨h1,h2⟩,j,u,e=>by
  unfold d9 at e
  by_cases hb:Nat.beq k j=true
  ·rw [hb]at e
   have:=q7 hb
   subst this
   simp only [cond_true]at e
   rw [←e];exact h1
  ·rw [Ac]at hb
   rw [hb]at e
   exact CZ h2 j u e

def aK(N:Fr)(G:mX)(x:Operand)(t:Ty):Prop:= ∀S a,cT N S a G→t.p S (a.eval x)
theorem ht{N:Fr}(h:d9 G k=some t):aK N G (.tmp k) t:=fun _ _ hF=>hF.at_ k t h
theorem hI{N:Fr}{k:IntKind}{n:Int}:aK N G (.const (.int k n)) (tD (rI k) n):=fun _ _ _=>eO.2 rfl
theorem hB{N:Fr}:aK N G (.const (.bool b)) (tD rB b):=fun _ _ _=>gY.2 rfl
theorem hS{N:Fr}{s:Array UInt8}:aK N G (.const (.string ⟨s⟩)) (tD rS s.toList):=fun _ _ _=>y4.2 rfl
theorem iE{N:Fr}{r:Rp α}:aK N G (.const (.slice none 0 0)) (tD (gB r) []):=fun _ _ _=>DQ
theorem hV{N:Fr}:aK N G (.const v) (tV v):=fun _ _ _=>rfl

section
variable{P:Program}
end

def fw(r:Option Nat):Fence:={fn:=fun _=>True,depth:=none,alive:=false,round:=r}
variable{args:α→List Ty}
theorem uF{r:Option Nat}{n:Nat}{P:Program}{args:Array Value}{R:Ending→World→Prop}:CallsIn (fw r) n P f args w R↔Calls P f args w R:=callsIn_wide
theorem Gm{r:Option Nat}{n:Nat}:(fw r).depth.isSome=true→1≤n:=fun h=>by cases h
structure En where
 P:Program
 N:Fr
 B:Nat→Prop
 w0:World
 S0:SH
 r:Option Nat
def En.base(E:En):Nat:=E.w0.heap.size

def Qq(P:Program)(o:Oper)(a:Act)(K:Act→World→Prop):Result Next→Prop
 | .ok (.value v) w' =>K (a.put o.dst v) w'
 | .ok .skip w' =>K (a.put o.dst undef) w'
 | .ok (.enter f args) w' =>Calls P f args w' fun e w'' => ∃v,e= .returned v∧K (a.put o.dst v) w''
 | .ok (.round l f tmps assign body) w' =>RoundIn (fw none) 0 P l f tmps assign body w' fun e w'' => ∃v,e= .returned v∧K (a.put o.dst v) w''
 |_=>False
def FV(P:Program)(o:Oper)(a:Act)(w:World)(K:Act→World→Prop):Prop:=(∀c,o.op≠ .defer c)∧Qq P o a K ((execOp a.eval o).run P w)
variable{l:Option Nat}
theorem Hq{r:Option Nat}{n:Nat}{P:Program}{l:Nat}{tmps:Array Value}{assign body:Code}{R:Ending→World→Prop}(h:RoundIn (fw none) 0 P l f tmps assign body w R):RoundIn (fw r) n P l f tmps assign body w R:=
 ⟨trivial,fun c cs _=>h.2 c cs (fun _ hd=>by cases hd)⟩
variable{K K' :Act→World→Prop}
theorem Lz{P:Program}(hK: ∀a w,K a w→K' a w){r:Result Next}(h:Qq P o a K r):Qq P o a K' r:=by
 cases r with
 |ok n w=>
  cases n<;>simp only [Qq]at h ⊢
  case value=>exact hK _ _ h
  case skip=>exact hK _ _ h
  case enter f args=>exact h.mono fun e w' ⟨v,he,hk⟩=>⟨v,he,hK _ _ hk⟩
  case round l f tmps assign body=>exact h.mono fun e w' ⟨v,he,hk⟩=>⟨v,he,hK _ _ hk⟩
 |halt x w=>simp only [Qq]at h
theorem oh{P:Program}(hK: ∀a w,K a w→K' a w)(h:FV P o a w K):FV P o a w K' :=⟨h.1,Lz hK h.2⟩
variable{Q:Exit→Act→World→Prop}{β:Type}{res:β→Ty}
theorem nX{P:Program}{r:Option Nat}(hK: ∀a w,K a w→K' a w)(h:FV P o a w K):o.wpIn (fw r) 0 P a w K' Q:=by
 obtain⟨hd,h⟩:=h
 refine⟨fun _ _=>trivial,?_⟩
 rw [Oper.semAt_eq _ _ _ hd]
 generalize (execOp a.eval o).run P w=res at h
 cases res with
 |ok n w=>
  cases n<;>simp only [Qq]at h<;>simp only [Oper.uponIn]
  case value=>exact hK _ _ h
  case skip=>exact hK _ _ h
  case enter f args=>exact⟨Gm,uF.2 (h.mono fun e w' ⟨v,he,hk⟩=>by subst he;exact hK _ _ hk)⟩
  case round l f tmps assign body=>exact⟨Gm,(Hq h).mono fun e w' ⟨v,he,hk⟩=>by subst he;exact hK _ _ hk⟩
 |halt x w=>simp only [Qq]at h

def cE(E:En)(O:List OE)(G:mX)(o:Oper)(t:Ty):Prop:=
 ∀a w S,lI w S→fR E.base E.B w S O→cT E.N S a G→
  FV E.P o a w (fun a' w' => ∃v S',a' =a.put o.dst v∧kj tN w S w' S' ∧lI w' S' ∧t.p S' v)
structure St(E:En)(O:List OE)(G:mX)(a:Act)(w:World)(S:SH):Prop where
 ext:kj E.B E.w0 E.S0 w S
 sat:lI w S
 own:fR E.base E.B w S O
 facts:cT E.N S a G
def RG(E:En)(ops:Array Oper)(Q:Exit→Act→World→Prop)(l:List Oper)(O:List OE)(G:mX):Prop:= ∀a w S,St E O G a w S→wpListIn (fw E.r) 0 E.P ops Q l a w
def CG(E:En)(Q:Exit→Act→World→Prop)(c:Code)(O:List OE)(G:mX):Prop:= ∀a w S,St E O G a w S→c.wpIn (fw E.r) 0 E.P Q a w
def AT(E:En)(Q:Exit→Act→World→Prop)(e:Exit)(O:List OE)(G:mX):Prop:= ∀a w S,St E O G a w S→Q e a w

variable{after:Array Edge}{fn:Func}{ops:Array Oper}{pos:String}{ts:List Ty}{y:Operand}
section
variable{E:En}{G' :mX}{l:List Oper}
theorem St.step(h:St E O G a w S)(k:kj tN w S w' S')(hs:lI w' S')(hd:Nat.blt d E.N.n=true)(hv:t.p S' v):
  St E O ((d,t)::G) (a.put (some d) v) w' S' :=
 ⟨h.ext.step0 k,hs,h.own.ext0 k,(h.facts.mono k.keep).put hd hv⟩
theorem St.sub(h:St E O G a w S)(k:JI G' G):St E O G' a w S:=⟨h.ext,h.sat,h.own,h.facts.sub (CZ k)⟩
theorem RG.of(hg:o.guard=none)(h: ∀a w S,St E O G a w S→FV E.P o a w (fun a' w' =>wpListIn (fw E.r) 0 E.P ops Q l a' w')):RG E ops Q (o::l) O G:=fun a w S st=>
 wpListIn_plain hg fun _ hK=>nX hK (h a w S st)

theorem uW{op:Op}{ty:TypeId}(h:cE E O G ⟨some d,op,ty,pos,after,none⟩ t)(hd:Nat.blt d E.N.n=true)(k:RG E ops Q l O ((d,t)::G)):
  RG E ops Q (⟨some d,op,ty,pos,after,none⟩::l) O G:= .of rfl fun a w S st=>
 oh (fun a' w' ⟨_,_,ha,he,hs,hv⟩=>by subst ha;exact k _ _ _ (st.step he hs hd hv)) (h a w S st.sat st.own st.facts)
theorem ay(h:AT E Q .normal O G):RG E ops Q [] O G:=fun a w S st=>h a w S st
theorem ae{id:Nat}{l:List Oper}(h:RG E l.toArray Q l O G):CG E Q (.region id l.toArray false) O G:=fun a w S st=>wpIn_region_lit (h a w S st)
theorem aa{x y:Code}(h:CG E (Exit.then (y.wpIn (fw E.r) 0 E.P Q) Q) x O G):CG E Q (.seq x y) O G:=fun a w S st=>wpIn_seq (h a w S st)
theorem af{y:Code}(h:CG E Q y O G):AT E (Exit.then (y.wpIn (fw E.r) 0 E.P Q) Q) .normal O G:=h
theorem aP(h:AT E Q .normal O G):CG E Q .skip O G:=fun a w S st=>wpIn_skip (h a w S st)
theorem bc{id:Nat}(h:AT E Q (.exit id) O G):CG E Q (.exit id) O G:=fun a w S st=>wpIn_exit (h a w S st)
theorem ah(h:AT E Q .ret O G):CG E Q .ret O G:=fun a w S st=>wpIn_ret (h a w S st)
theorem bD{e:Exit}(h:AT E Q e O G')(k:JI G' G):AT E Q e O G:=fun a w S st=>h a w S (st.sub k)
theorem rF{c:Operand}{x y:Code}(hb:aK E.N G c (tD rB b))(hx:b=true→CG E Q x O G)(hy:b=false→CG E Q y O G):CG E Q (.cond c x y) O G:=fun a w S st=>by
 have hv:a.eval c= .bool b:=gY.1 (hb S a st.facts)
 refine wpIn_cond hv ?_
 cases b with
 |true=>exact hx rfl a w S st
 |false=>exact hy rfl a w S st
theorem ak{id:Nat}(h:CG E (Exit.inBlock id Q) c O G):CG E Q (.block id c) O G:=fun a w S st=>wpIn_block (h a w S st)
def zf(r:Option Nat)(P:Program)(c:Code)(Q:Exit→Act→World→Prop)(a:Act)(w:World):Prop:=
 ∀(b:Frame) (k:List Item) (cs:List Frame),b.roundOf=r→ ∃e a' w',Q e a' w' ∧ArrivesIn (Machine.fenced P (fw r)) P (lone (b.atR a (.code c:: .inLoop c::k)) cs w) b k cs e a' w'
theorem IW{r:Option Nat}{n:Nat}:(fw r).room n:=fun _ hd=>by cases hd
theorem DN{r:Option Nat}{P:Program}{Q:Exit→Act→World→Prop}(h:zf r P c Q a w):(Code.loop c).wpIn (fw r) 0 P Q a w:=fun b k cs hro hb hr=>
 let⟨e,a',w',hq,harr⟩:=h b k cs hro
 ⟨e,a',w',hq,.of_steps (.one (fenced_calm hb hr rfl) stepR_loop) harr⟩
theorem CC{r:Option Nat}{P:Program}{Q:Exit→Act→World→Prop}(h:c.wpIn (fw r) 0 P (Exit.then (zf r P c Q) Q) a w):zf r P c Q a w:=by
 intro b k cs hro
 obtain⟨e,a₁,w₁,hq,harr⟩:=h b (.inLoop c::k) cs hro trivial IW
 cases e with
 |normal=>
  obtain⟨e₂,a₂,w₂,hq₂,harr₂⟩:=hq b k cs hro
  exact⟨e₂,a₂,w₂,hq₂,.of_steps (StepsIn.trans harr (.one (fenced_calm (n:=0) (F:=fw r) trivial IW rfl) stepR_inLoop)) harr₂⟩
 |exit id=>exact⟨_,a₁,w₁,hq,.pass (x:= .inLoop c) rfl (fun _ _=> .inl (by simp)) harr⟩
 |goto l=>exact⟨_,a₁,w₁,hq,.pass (x:= .inLoop c) rfl (fun _ _=> .inl (by simp)) harr⟩
 |ret=>exact⟨_,a₁,w₁,hq,.pass (x:= .inLoop c) rfl (fun _ _=> .inl (by simp)) harr⟩
 |panic ch=>exact⟨_,a₁,w₁,hq,.pass (x:= .inLoop c) rfl (fun _ _=> .inl (by simp)) harr⟩
 |outgrown=>exact⟨_,a₁,w₁,hq,.pass (x:= .inLoop c) rfl (fun _ _=> .inl (by simp)) harr⟩
def LG(E:En)(Q:Exit→Act→World→Prop)(c:Code)(O:List OE)(G:mX):Prop:= ∀a w S,St E O G a w S→zf E.r E.P c Q a w
theorem bn(h:LG E Q c O G):CG E Q (.loop c) O G:=fun a w S st=>DN (h a w S st)
theorem aq(h:CG E (Exit.then (zf E.r E.P c Q) Q) c O G):LG E Q c O G:=fun a w S st=>CC (h a w S st)
theorem aD(h:LG E Q c O G')(k:JI G' G):LG E Q c O G:=fun a w S st=>h a w S (st.sub k)
theorem aM(h:LG E Q c O G):AT E (Exit.then (zf E.r E.P c Q) Q) .normal O G:=h
theorem M{id:Nat}(h:AT E Q (.exit id) O G):AT E (Exit.then K Q) (.exit id) O G:=h
theorem J(h:AT E Q .ret O G):AT E (Exit.then K Q) .ret O G:=h
theorem au{id:Nat}(h:AT E Q .ret O G):AT E (Exit.inBlock id Q) .ret O G:=h
theorem ac{id:Nat}(h:AT E Q .normal O G):AT E (Exit.inBlock id Q) .normal O G:=h
theorem aC{id:Nat}(h:AT E Q .normal O G):AT E (Exit.inBlock id Q) (.exit id) O G:=fun a w S st=>by
 simp only [Exit.inBlock,ow];exact h a w S st
theorem cF{id id' :Nat}(hne:Nat.beq id' id=false)(h:AT E Q (.exit id') O G):AT E (Exit.inBlock id Q) (.exit id') O G:=fun a w S st=>by
 have:id' ≠id:=fun e=>by subst e;simp at hne
 simp only [Exit.inBlock,this,qK];exact h a w S st

def wH(S:SH):List Ty→List Value→Prop
 |[],[]=>True
 |t::ts,v::vs=>t.p S v∧wH S ts vs
 |_,_=>False
theorem wH.mono(h:SH.le S S'): ∀{ts:List Ty} {vs:List Value},wH S ts vs→wH S' ts vs
 |[],[],_=>trivial
 |t::_,_::_,⟨h1,h2⟩=>⟨t.mono h h1,wH.mono h h2⟩
theorem wH.length: ∀{ts:List Ty} {vs:List Value},wH S ts vs→vs.length=ts.length
 |[],[],_=>rfl
 |_::_,_::_,⟨_,h2⟩=>by simp [wH.length h2]
def bk(P:Program)(f:FuncId)(ts:List Ty)(t:Ty):Prop:=
 ∀w S vs,lI w S→wH S ts vs→Calls P f vs.toArray w fun e w' => ∃v S',e= .returned v∧kj tN w S w' S' ∧lI w' S' ∧t.p S' v
def Kp(E:En)(t:Ty):Ending→World→Prop:=fun e w' => ∃v S',e= .returned v∧kj E.B E.w0 E.S0 w' S' ∧lI w' S' ∧t.p S' v
def yq(k:Nat):List Ty→mX
 |[]=>[]
 |t::ts=>(k,t)::yq (k+1) ts
theorem Bw: ∀(ts:List Ty) (k j:Nat) (t:Ty),d9 (yq k ts) j=some t→ ∃i,j=k+i∧ts[i]? =some t
 |[],_,_,_,h=>by simp [yq,d9]at h
 |u::ts,k,j,t,h=>by
  unfold yq d9 at h
  by_cases hb:Nat.beq k j=true
  ·rw [hb]at h
   exact⟨0,by rw [q7 hb];rfl,by simpa using h⟩
  ·rw [Ac]at hb
   rw [hb]at h
   obtain⟨i,h1,h2⟩:=Bw ts (k+1) j t h
   exact⟨i+1,by omega,by simpa using h2⟩
theorem wH.at_: ∀{ts:List Ty} {vs:List Value} (_:wH S ts vs) (i:Nat) (t:Ty),ts[i]? =some t→ ∃v,vs[i]? =some v∧t.p S v
 |_::_,v::_,⟨h1,_⟩,0,t,h=>⟨v,rfl,by simp at h;rw [←h];exact h1⟩
 |_::ts,_::vs,⟨_,h2⟩,i+1,t,h=>by simpa using wH.at_ h2 i t (by simpa using h)
theorem xz{vs:List Value}(h:wH S ts vs)(n:Nat)(hn:ts.length≤n):
  cT ⟨n,[]⟩ S {tmps:=vs.toArray++Array.replicate (n-vs.toArray.size) undef,defers:=[]} (yq 0 ts):=by
 have hl:=h.length
 refine⟨by simp;omega,rfl,fun j t hj=>?_⟩
 obtain⟨i,e,hi⟩:=Bw ts 0 j t hj
 have e' :j=i:=by omega
 subst e'
 obtain⟨v,hv,ht⟩:=h.at_ j t hi
 have hlt:j<vs.length:=(kF.1 hv).1
 have:(vs.toArray++Array.replicate (n-vs.toArray.size) undef).getD j undef=v:=by
  rw [G8,Array.getElem?_append_left (by simpa using hlt)]
  simp [hv]
 rw [this];exact ht
theorem EJ{P:Program}(hf:P.funcs[f]? =some fn)(hb:fn.body=some c)(hn:ts.length≤fn.ntmps)(h: ∀w0 S0,CG ⟨P,⟨fn.ntmps,[]⟩,tN,w0,S0,none⟩ (bodyPost P fn (Kp ⟨P,⟨fn.ntmps,[]⟩,tN,w0,S0,none⟩ t)) c [] (yq 0 ts)):bk P f ts t:=by
 intro w S vs hs hv
 exact uF.1 (callsIn_of_wp (F:=fw none) (n:=0) hf hb trivial (h w S _ w S ⟨kU _ _ _,hs,trivial,xz hv _ hn⟩))
theorem q8(P:Program)(fn:Func)(k:Nat)(h:fn.results= #[.tmp k])(tmps:Array Value)(w:World):(results fn tmps).run P w= .ok (tmps.getD k undef) w:=by
 simp [results,h]
theorem aw{P:Program}{N:Nat}{B:Nat→Prop}{w0:World}{S0:SH}(hr:fn.results= #[.tmp k])(hk:d9 G k=some t):
  AT ⟨P,⟨N,[]⟩,B,w0,S0,none⟩ (bodyPost P fn (Kp ⟨P,⟨N,[]⟩,B,w0,S0,none⟩ t)) .ret O G:=fun _ _ S st=>
 ⟨st.facts.defers,_,q8 P fn k hr _ _,_,S,rfl,st.ext,st.sat,st.facts.at_ k t hk⟩
def tT(ts:List Ty):Ty where
 p:=fun S v=> ∃vs,v= .tuple vs.toArray∧wH S ts vs
 mono:=fun h k=>by obtain⟨vs,e,k⟩:=k;exact⟨vs,e,wH.mono h k⟩
theorem Aj(P:Program)(fn:Func)(j k:Nat)(h:fn.results= #[.tmp j,.tmp k])(tmps:Array Value)(w:World):(results fn tmps).run P w= .ok (.tuple #[tmps.getD j undef,tmps.getD k undef]) w:=by
 simp [results,h]
theorem bQ{P:Program}{N:Nat}{B:Nat→Prop}{w0:World}{S0:SH}{u:Ty}(hr:fn.results= #[.tmp j,.tmp k])(hj:d9 G j=some t)(hk:d9 G k=some u):
  AT ⟨P,⟨N,[]⟩,B,w0,S0,none⟩ (bodyPost P fn (Kp ⟨P,⟨N,[]⟩,B,w0,S0,none⟩ (tT [t,u]))) .ret O G:=fun _ _ S st=>
 ⟨st.facts.defers,_,Aj P fn j k hr _ _,_,S,rfl,st.ext,st.sat,[_,_],rfl,st.facts.at_ j t hj,st.facts.at_ k u hk,trivial⟩
theorem ya(P:Program)(fn:Func)(i j k:Nat)(h:fn.results= #[.tmp i,.tmp j,.tmp k])(tmps:Array Value)(w:World):(results fn tmps).run P w= .ok (.tuple #[tmps.getD i undef,tmps.getD j undef,tmps.getD k undef]) w:=by
 simp [results,h]
theorem rG{P:Program}{N:Nat}{B:Nat→Prop}{w0:World}{S0:SH}{s u:Ty}(hr:fn.results= #[.tmp i,.tmp j,.tmp k])(hi:d9 G i=some s)(hj:d9 G j=some t)(hk:d9 G k=some u):
  AT ⟨P,⟨N,[]⟩,B,w0,S0,none⟩ (bodyPost P fn (Kp ⟨P,⟨N,[]⟩,B,w0,S0,none⟩ (tT [s,t,u]))) .ret O G:=fun _ _ S st=>
 ⟨st.facts.defers,_,ya P fn i j k hr _ _,_,S,rfl,st.ext,st.sat,[_,_,_],rfl,st.facts.at_ i s hi,st.facts.at_ j t hj,st.facts.at_ k u hk,trivial⟩
theorem tB(P:Program)(fn:Func)(h:fn.results= #[])(tmps:Array Value)(w:World):(results fn tmps).run P w= .ok (.tuple #[]) w:=by
 simp [results,h]
end

variable{dst:Option Tmp}{g:Option (Nat×Bool)}{k' :IntKind}{xt yt:TypeId}
section
variable{E:En}{ty:TypeId}
theorem cE.of_run(h: ∀a w S,lI w S→fR E.base E.B w S O→cT E.N S a G→
  ∃v w' S',(execOp a.eval o).run E.P w= .ok (.value v) w' ∧kj tN w S w' S' ∧lI w' S' ∧t.p S' v)(hd: ∀c,o.op≠ .defer c:=by intro c h;cases h):cE E O G o t:=fun a w S hs ho hf=>by
 obtain⟨v,w',S',hr,he,hs',hv⟩:=h a w S hs ho hf
 refine⟨hd,?_⟩
 rw [hr]
 exact⟨v,S',rfl,he,hs',hv⟩
theorem cE.of_pure(h: ∀a w S,lI w S→fR E.base E.B w S O→cT E.N S a G→ ∃v,(execOp a.eval o).run E.P w= .ok (.value v) w∧t.p S v)(hd: ∀c,o.op≠ .defer c:=by intro c h;cases h):cE E O G o t:=
 .of_run (fun a w S hs ho hf=>let⟨v,hr,hv⟩:=h a w S hs ho hf;⟨v,w,S,hr,kU _ _ _,hs,hv⟩) hd

theorem bm(hx:aK E.N G x t):cE E O G ⟨dst,.move x,ty,pos,after,g⟩ t:=
 .of_pure fun a _ S _ _ hf=>⟨a.eval x,rfl,hx S a hf⟩
theorem aN(hx:aK E.N G x t):cE E O G ⟨dst,.assign x,ty,pos,after,g⟩ t:=
 .of_pure fun a _ S _ _ hf=>⟨a.eval x,rfl,hx S a hf⟩
theorem wu{c:Operand}(hc:aK E.N G c (tD rB b))(hx:b=true→aK E.N G x t)(hy:b=false→aK E.N G y t):cE E O G ⟨dst,.pick c x y,ty,pos,after,g⟩ t:=
 .of_pure fun a _ S _ _ hf=>by
  have h1:a.eval c= .bool b:=gY.1 (hc S a hf)
  refine⟨if b then a.eval x else a.eval y,by simp [execOp,h1,asBool],?_⟩
  cases b with
  |true=>exact hx rfl S a hf
  |false=>exact hy rfl S a hf

section
variable{k:IntKind}{m n:Int}
theorem zR{P:Program}{op:BinOp}{xt:TypeId}{x y:Operand}{k:IntKind}{m n:Int}:(eqGuard op xt x y (.int k m) (.int k' n)).run P w= .ok () w:=by
 unfold eqGuard
 cases op<;>rfl
theorem qf{op:BinOp}(hx:aK E.N G x (tD (rI k) m))(hy:aK E.N G y (tD (rI k) n))(hv: ∀P w,(binOp op xt (.int k m) (.int k n)).run P w= .ok v w)(ht: ∀S,t.p S v):
  cE E O G ⟨dst,.binOp op xt x y yt,ty,pos,after,g⟩ t:=
 .of_pure fun a w S _ _ hf=>by
  have h1:a.eval x= .int k m:=eO.1 (hx S a hf)
  have h2:a.eval y= .int k n:=eO.1 (hy S a hf)
  refine⟨v,?_,ht S⟩
  simp [execOp,h1,h2,zR,hv]
theorem dI(hx:aK E.N G x (tD (rI k) m))(hy:aK E.N G y (tD (rI k) n)):cE E O G ⟨dst,.binOp .add xt x y yt,ty,pos,after,g⟩ (tD (rI k) (k.wrap (m+n))):=
 qf hx hy (fun _ _=>by simp [binOp,Op.intArith]) (fun _=>eO.2 rfl)
theorem dG(hx:aK E.N G x (tD (rI k) m))(hy:aK E.N G y (tD (rI k) n)):cE E O G ⟨dst,.binOp .sub xt x y yt,ty,pos,after,g⟩ (tD (rI k) (k.wrap (m-n))):=
 qf hx hy (fun _ _=>by simp [binOp,Op.intArith]) (fun _=>eO.2 rfl)
theorem zd(hx:aK E.N G x (tD (rI k) m))(hy:aK E.N G y (tD (rI k) n)):cE E O G ⟨dst,.binOp .mul xt x y yt,ty,pos,after,g⟩ (tD (rI k) (k.wrap (m*n))):=
 qf hx hy (fun _ _=>by simp [binOp,Op.intArith]) (fun _=>eO.2 rfl)
theorem xv(hx:aK E.N G x (tD (rI k) m))(hy:aK E.N G y (tD (rI k) n))(h0:n≠0):cE E O G ⟨dst,.binOp .quo xt x y yt,ty,pos,after,g⟩ (tD (rI k) (k.wrap (m.tdiv n))):=
 qf hx hy (fun _ _=>by simp [binOp,Op.intDiv,h0]) (fun _=>eO.2 rfl)
theorem Bq(hx:aK E.N G x (tD (rI k) m))(hy:aK E.N G y (tD (rI k) n))(h0:n≠0):cE E O G ⟨dst,.binOp .rem xt x y yt,ty,pos,after,g⟩ (tD (rI k) (m.tmod n)):=
 qf hx hy (fun _ _=>by simp [binOp,Op.intDiv,h0]) (fun _=>eO.2 rfl)
theorem d8(hx:aK E.N G x (tD (rI k) m))(hy:aK E.N G y (tD (rI k) n)):cE E O G ⟨dst,.binOp .lss xt x y yt,ty,pos,after,g⟩ (tD rB (decide (m<n))):=
 qf hx hy (fun _ _=>by simp [binOp,Op.intCmp]) (fun _=>gY.2 rfl)
theorem dV(hx:aK E.N G x (tD (rI k) m))(hy:aK E.N G y (tD (rI k) n)):cE E O G ⟨dst,.binOp .leq xt x y yt,ty,pos,after,g⟩ (tD rB (decide (m≤n))):=
 qf hx hy (fun _ _=>by simp [binOp,Op.intCmp]) (fun _=>gY.2 rfl)
theorem cH(hx:aK E.N G x (tD (rI k) m))(hy:aK E.N G y (tD (rI k) n)):cE E O G ⟨dst,.binOp .gtr xt x y yt,ty,pos,after,g⟩ (tD rB (decide (n<m))):=
 qf hx hy (fun _ _=>by simp [binOp,Op.intCmp]) (fun _=>gY.2 rfl)
theorem dc(hx:aK E.N G x (tD (rI k) m))(hy:aK E.N G y (tD (rI k) n)):cE E O G ⟨dst,.binOp .geq xt x y yt,ty,pos,after,g⟩ (tD rB (decide (n≤m))):=
 qf hx hy (fun _ _=>by simp [binOp,Op.intCmp]) (fun _=>gY.2 rfl)
theorem bz(hx:aK E.N G x (tD (rI k) m))(hy:aK E.N G y (tD (rI k) n)):cE E O G ⟨dst,.binOp .eql xt x y yt,ty,pos,after,g⟩ (tD rB (m==n)):=
 qf hx hy (fun _ _=>by simp [binOp,Op.intCmp]) (fun _=>gY.2 rfl)
theorem bM(hx:aK E.N G x (tD (rI k) m))(hy:aK E.N G y (tD (rI k) n)):cE E O G ⟨dst,.binOp .neq xt x y yt,ty,pos,after,g⟩ (tD rB (m !=n)):=
 qf hx hy (fun _ _=>by simp [binOp,Op.intCmp]) (fun _=>gY.2 rfl)
def oB(op:BinOp)(k:IntKind)(x y:Int):Int:=
 k.wrap (match op with
  | .and=>(BitVec.ofInt k.bits x&&&BitVec.ofInt k.bits y).toNat
  | .or=>(BitVec.ofInt k.bits x|||BitVec.ofInt k.bits y).toNat
  | .xor=>(BitVec.ofInt k.bits x^^^BitVec.ofInt k.bits y).toNat
  |_=>(BitVec.ofInt k.bits x&&& ~~~BitVec.ofInt k.bits y).toNat:Nat)
theorem Qt(hx:aK E.N G x (tD (rI k) m))(hy:aK E.N G y (tD (rI k) n)):cE E O G ⟨dst,.binOp .and xt x y yt,ty,pos,after,g⟩ (tD (rI k) (oB .and k m n)):=
 qf hx hy (fun _ _=>by simp [binOp,Op.intBits];rfl) (fun _=>eO.2 rfl)
theorem Bp(hx:aK E.N G x (tD (rI k) m))(hy:aK E.N G y (tD (rI k) n)):cE E O G ⟨dst,.binOp .xor xt x y yt,ty,pos,after,g⟩ (tD (rI k) (oB .xor k m n)):=
 qf hx hy (fun _ _=>by simp [binOp,Op.intBits];rfl) (fun _=>eO.2 rfl)
theorem LC{op:BinOp}(hx:aK E.N G x (tD (rI k) m))(hy:aK E.N G y (tD (rI k') n))(hv: ∀P w,(binOp op xt (.int k m) (.int k' n)).run P w= .ok v w)(ht: ∀S,t.p S v):
  cE E O G ⟨dst,.binOp op xt x y yt,ty,pos,after,g⟩ t:=
 .of_pure fun a w S _ _ hf=>by
  have h1:a.eval x= .int k m:=eO.1 (hx S a hf)
  have h2:a.eval y= .int k' n:=eO.1 (hy S a hf)
  refine⟨v,?_,ht S⟩
  simp [execOp,h1,h2,zR,hv]
theorem xu(hx:aK E.N G x (tD (rI k) m))(hy:aK E.N G y (tD (rI k') n))(h0:0≤n):cE E O G ⟨dst,.binOp .shr xt x y yt,ty,pos,after,g⟩ (tD (rI k) (m.fdiv (2^(min n.toNat k.bits)))):=
 LC hx hy (fun _ _=>by simp [binOp,Op.shift,Int.not_lt.2 h0]) (fun _=>eO.2 rfl)
theorem Qs(hx:aK E.N G x (tD (rI k) m)):cE E O G ⟨dst,.unOp .xor xt x,ty,pos,after,g⟩ (tD (rI k) (oB .xor k (if k.signed then -1 else k.max) m)):=
 .of_pure fun a w S _ _ hf=>by
  have h1:a.eval x= .int k m:=eO.1 (hx S a hf)
  exact⟨_,by simp [execOp,h1,Op.unary,Op.intBits];rfl,eO.2 rfl⟩
theorem dP(hx:aK E.N G x (tD rB b)):cE E O G ⟨dst,.unOp .not xt x,ty,pos,after,g⟩ (tD rB (!b)):=
 .of_pure fun a w S _ _ hf=>by
  have h1:a.eval x= .bool b:=gY.1 (hx S a hf)
  exact⟨.bool (!b),by simp [execOp,h1,Op.unary],gY.2 rfl⟩
theorem cI{st dt:TypeId}{d:TypeDesc}(hs:E.P.underlying st=some d)(hd:E.P.underlying dt=some (.int k'))(hx:aK E.N G x (tD (rI k) m)):
  cE E O G ⟨dst,.convert st dt x,ty,pos,after,g⟩ (tD (rI k') (k'.wrap m)):=
 .of_pure fun a w S _ _ hf=>by
  have h1:a.eval x= .int k m:=eO.1 (hx S a hf)
  refine⟨.int k' (k'.wrap m),?_,eO.2 rfl⟩
  simp only [execOp,h1,convert,s4,jQ hs,jQ hd,tq]
  cases d<;>simp [Conv.intToInt]
end

theorem tF{P:Program}{t:TypeId}(ht:P.underlying t=some .bool)(d:Nat)(b c:Bool)(w:World):(Op.equalIn (d+1) t (.bool b) (.bool c)).run P w= .ok (b==c) w:=by
 simp [Op.equalIn,jQ ht]
theorem yb{P:Program}{t:TypeId}{x y:Value}(hb: ∀d,(Op.equalIn (d+1) t x y).run P w= .ok b w):(Op.equal t x y).run P w= .ok b w:=hb 9999
section
theorem Az{c:Bool}(ht:E.P.underlying xt=some .bool)(hx:aK E.N G x (tD rB b))(hy:aK E.N G y (tD rB c)):cE E O G ⟨dst,.binOp .eql xt x y yt,ty,pos,after,g⟩ (tD rB (b==c)):=
 .of_pure fun a w S _ _ hf=>by
  have h1:a.eval x= .bool b:=gY.1 (hx S a hf)
  have h2:a.eval y= .bool c:=gY.1 (hy S a hf)
  exact⟨.bool (b==c),by simp [execOp,h1,h2,eqGuard,binOp,yb (fun d=>tF ht d b c w)],gY.2 rfl⟩
theorem Ee{c:Bool}(ht:E.P.underlying xt=some .bool)(hx:aK E.N G x (tD rB b))(hy:aK E.N G y (tD rB c)):cE E O G ⟨dst,.binOp .neq xt x y yt,ty,pos,after,g⟩ (tD rB (b !=c)):=
 .of_pure fun a w S _ _ hf=>by
  have h1:a.eval x= .bool b:=gY.1 (hx S a hf)
  have h2:a.eval y= .bool c:=gY.1 (hy S a hf)
  exact⟨.bool (b !=c),by simp [execOp,h1,h2,eqGuard,binOp,yb (fun d=>tF ht d b c w)];cases b<;>cases c<;>rfl,gY.2 rfl⟩
theorem Qr{op:BinOp}{u:Ky}(hx:aK E.N G x (tD rS s))(hy:aK E.N G y (tD rS u))(hv: ∀P w,(Op.stringOp op ⟨s.toArray⟩ ⟨u.toArray⟩).run P w= .ok (.bool b) w)(hg: ∀P w,(eqGuard op xt x y (.string ⟨s.toArray⟩) (.string ⟨u.toArray⟩)).run P w= .ok () w)(hb: ∀P w,(binOp op xt (.string ⟨s.toArray⟩) (.string ⟨u.toArray⟩)).run P w=(Op.stringOp op ⟨s.toArray⟩ ⟨u.toArray⟩).run P w):
  cE E O G ⟨dst,.binOp op xt x y yt,ty,pos,after,g⟩ (tD rB b):=
 .of_pure fun a w S _ _ hf=>by
  have h1:a.eval x= .string ⟨s.toArray⟩:=y4.1 (hx S a hf)
  have h2:a.eval y= .string ⟨u.toArray⟩:=y4.1 (hy S a hf)
  refine⟨.bool b,?_,gY.2 rfl⟩
  simp [execOp,h1,h2,hg,hb,hv]
theorem Ay{u:Ky}(hx:aK E.N G x (tD rS s))(hy:aK E.N G y (tD rS u)):cE E O G ⟨dst,.binOp .eql xt x y yt,ty,pos,after,g⟩ (tD rB (s==u)):=
 Qr hx hy (fun _ _=>by simp [Op.stringOp]) (fun _ _=>rfl) (fun _ _=>rfl)
end
end

def LX:TypeDesc→Bool
 | .struct _| .array _ _=>true
 |_=>false
structure TI(P:Program)(T:TypeId)(sz bytes:Nat)(agg:Bool)(z:List Value):Prop where
 info:(P.info? T).map (fun i=>(i.zero.map (·.cells.toList),i.size,i.bytes))=some (some z,sz,bytes)
 ag:(P.underlying T).map LX=some agg
variable{T:TypeId}{bytes:Nat}{z:List Value}
section
variable{P:Program}{sz:Nat}{agg:Bool}
theorem TI.get(h:TI P T sz bytes agg z): ∃i zv,P.info? T=some i∧i.size=sz∧i.bytes=bytes∧i.zero=some zv∧zv.cells=z.toArray:=by
 have:=h.info
 cases hi:P.info? T with
 |none=>rw [hi]at this;simp at this
 |some i=>
  rw [hi]at this
  simp only [Option.map_some,Option.some.injEq,Prod.mk.injEq,Ck]at this
  obtain⟨⟨zv,h1,h2⟩,h3,h4⟩:=this
  exact⟨i,zv,rfl,h3,h4,h1,by rw [←h2]⟩
theorem TI.sizeOf(h:TI P T sz bytes agg z)(w:World):(Go.sizeOf T).run P w= .ok sz w:=by
 obtain⟨i,zv,h1,h2,_⟩:=h.get
 simp [Go.sizeOf,typeInfo,h1,h2]
theorem TI.isAgg(h:TI P T sz bytes agg z)(w:World):(Go.isAgg T).run P w= .ok agg w:=by
 have:=h.ag
 cases hi:P.underlying T with
 |none=>rw [hi]at this;simp at this
 |some d=>
  rw [hi]at this
  simp only [Option.map_some,Option.some.injEq]at this
  simp only [Go.isAgg,s4,jQ hi,tq]
  rw [←this]
  cases d<;>simp [LX]
theorem TI.zero(h:TI P T sz bytes agg z)(w:World): ∃zv,(zeroValue T).run P w= .ok zv w∧zv.cells=z.toArray:=by
 obtain⟨i,zv,h1,_,_,h4,h5⟩:=h.get
 exact⟨zv,by simp [zeroValue,typeInfo,h1,h4],h5⟩
end

theorem jf(b off i:Nat):(⟨b,off,none⟩:Addr).add i=⟨b,off+i,none⟩:=by
 unfold Addr.add
 split
 ·simp_all
 ·rfl
theorem wG{b:Nat}{c:Array Value}(h:w.heap[b]? =some (.cells c T fr))(i:Nat):w.cell? ⟨b,i,none⟩=c[i]? :=by
 simp [World.cell?,h]
theorem tE{P:Program}{b n:Nat}{c:Array Value}(h:w.heap[b]? =some (.cells c T fr))(hcs:(c.toList.drop off).take n=cs)(hl:cs.length=n):
  (loadCells ⟨b,off,none⟩ n).run P w= .ok cs.toArray w:=by
 rw [←hl]
 refine run_loadCells_list w ⟨b,off,none⟩ cs fun j v hv=>?_
 rw [jf,wG h]
 have hj:j<cs.length:=(kF.1 hv).1
 rw [←hcs,yV (by omega),wR]at hv
 simpa using hv
variable{U:TypeId}{rest:List Oper}
theorem lu{P:Program}{b:Nat}{c:Array Value}{sz:Nat}{agg:Bool}(ti:TI P U sz bytes agg z)(h:w.heap[b]? =some (.cells c T fr)){r:Rp α}(hsz:r.sz=sz)(hag:r.agg=agg){x:α}(hx:r.rc S ((c.toList.drop off).take r.sz) x):
  (loadVar U ⟨b,off,none⟩).run P w= .ok (r.val ((c.toList.drop off).take r.sz)) w:=by
 have hl:=r.len hx
 subst hsz
 subst hag
 simp only [loadVar,s4,ti.isAgg,tq]
 cases ha:r.agg with
 |true=>simp [ti.sizeOf,tE h rfl hl,Rp.val,ha]
 |false=>
  have h1:=r.sc ha
  have hcell:w.cell? ⟨b,off,none⟩=some (((c.toList.drop off).take r.sz).headD undef):=by
   rw [wG h]
   rw [h1]at hl ⊢
   cases hd:c.toList.drop off with
   |nil=>rw [hd]at hl;simp at hl
   |cons v rest=>
    have:(c.toList.drop off)[0]? =some v:=by rw [hd];rfl
    rw [wR]at this
    simpa using this
  simp [hcell,Rp.val,ha]

variable{ats:Array TypeId}{q:Rp β}
section
variable{E:En}{ty:TypeId}
theorem am{r:Rp α}{x:α}{p:Operand}{sz:Nat}{agg:Bool}(ti:TI E.P U sz bytes agg z)(hsz:r.sz=sz)(hag:r.agg=agg)(hp:aK E.N G p (ce r x)):
  cE E O G ⟨dst,.load U p,ty,pos,after,g⟩ (tD r x):=
 .of_pure fun a w S hs _ hf=>by
  obtain⟨b,off,c,T,fr,h1,h2,h3⟩:=hp S a hf
  obtain⟨c',h4,h5⟩:=hs.part h2 (r.len h3)
  rw [←h5]at h3
  refine⟨r.val ((c'.toList.drop off).take r.sz),?_,_,rfl,h3⟩
  simp [execOp,h1,Instr.loadAt,Instr.sureAddr,lu ti h4 hsz hag h3]

theorem Ph(s:Ky):(ByteArray.mk s.toArray).size=s.length:=by simp [ByteArray.size]
theorem bw{r:Rp α}{t:TypeId}(ht:E.P.underlying t=some (.slice e))(hx:aK E.N G x (tD (gB r) xs)):
  cE E O G ⟨dst,.call ⟨.builtin .len,#[x],#[t]⟩,ty,pos,after,g⟩ (tD (rI .i64) (xs.length:Int)):=
 .of_pure fun a w S _ _ hf=>by
  obtain⟨ad,cap,h1,_⟩:=m4.1 (hx S a hf)
  refine⟨.int .i64 xs.length,?_,eO.2 rfl⟩
  simp [execOp,resolve,invoke,builtin,Builtin.len_,jQ ht,h1,goInt]
theorem wv{t:TypeId}(ht:E.P.underlying t=some .string)(hx:aK E.N G x (tD rS s)):
  cE E O G ⟨dst,.call ⟨.builtin .len,#[x],#[t]⟩,ty,pos,after,g⟩ (tD (rI .i64) (s.length:Int)):=
 .of_pure fun a w S _ _ hf=>by
  have h1:a.eval x= .string ⟨s.toArray⟩:=y4.1 (hx S a hf)
  refine⟨.int .i64 s.length,?_,eO.2 rfl⟩
  simp [execOp,resolve,invoke,builtin,Builtin.len_,jQ ht,h1,goInt,Ph]

def gj{α:Type}(xs:List α)(i:Int):Option α:=if 0≤i then xs[i.toNat]? else none
theorem dJ(xs:List α)(i:Nat):gj xs (i:Int)=xs[i]? :=by simp [gj]
theorem JM{r:Rp α}{a:Option Addr}(h:C1 r S a xs){x:α}(hx:xs[i]? =some x):
  ∃b off c T fr,a=some ⟨b,off,none⟩∧S b=some (.cells c T fr)∧r.rc S ((c.toList.drop (off+i*r.sz)).take r.sz) x:=by
 rcases h with rfl|⟨b,off,c,T,fr,e1,e2,e3⟩
 ·simp at hx
 ·refine⟨b,off,c,T,fr,e1,e2,?_⟩
  have h:=yk e3 hx
  have hi:i<xs.length:=(kF.1 hx).1
  rw [zE,z8,t6]at h
  have:min r.sz (xs.length*r.sz-i*r.sz)=r.sz:=by
   rw [←Nat.sub_mul]
   have:1*r.sz≤(xs.length-i)*r.sz:=xK _ (by omega)
   omega
  rw [this]at h
  exact h
theorem eT{r:Rp α}{y:α}{ix:Operand}{t:TypeId}{k:IntKind}{i:Int}{sz:Nat}{agg:Bool}(ht:E.P.underlying t=some (.slice e))(ti:TI E.P e sz bytes agg z)(hsz:r.sz=sz)(hx:aK E.N G x (tD (gB r) xs))(hi:aK E.N G ix (tD (rI k) i))(hy:gj xs i=some y):
  cE E O G ⟨dst,.indexAddr t x ix,ty,pos,after,g⟩ (ce r y):=
 .of_pure fun a w S _ _ hf=>by
  obtain⟨ad,cap,h1,_,_,h2⟩:=m4.1 (hx S a hf)
  have h3:a.eval ix= .int k i:=eO.1 (hi S a hf)
  have h0:0≤i:=by unfold gj at hy;split at hy;assumption;cases hy
  have hy' :xs[i.toNat]? =some y:=by unfold gj at hy;rw [bq h0]at hy;exact hy
  have hlt:i.toNat<xs.length:=(kF.1 hy').1
  obtain⟨b,off,c,T,fr,e1,e2,e3⟩:=JM h2 hy'
  subst e1
  refine⟨.pointer (some ⟨b,off+i.toNat*r.sz,none⟩),?_,b,_,c,T,fr,rfl,e2,e3⟩
  have hc:0≤i∧i<(xs.length:Int):=⟨h0,by omega⟩
  simp [execOp,h1,h3,Instr.indexAt,asIntOf,jQ ht,hc,ti.sizeOf,jf,hsz]

def lK{α β:Type}(r:Rp α)(off:Nat)(q:Rp β)(get:α→β):Prop:= ∀S cs x,r.rc S cs x→q.rc S ((cs.drop off).take q.sz) (get x)
def cj(P:Program)(T:TypeId)(i:Nat):Option (Nat×Nat):=
 match P.underlying T with
 |some (.struct fs)=>(fs[i]?).bind fun f=>(P.info? f.type).map fun q=>(f.offset,q.size)
 |_=>none
theorem C5{P:Program}{sz:Nat}(h:cj P T i=some (off,sz)): ∃fs f,P.underlying T=some (.struct fs)∧fs[i]? =some f∧f.offset=off∧ ∀w,(sizeOf f.type).run P w= .ok sz w:=by
 unfold cj at h
 split at h
 ·rename_i fs hu
  cases hf:fs[i]? with
  |none=>rw [hf]at h;simp at h
  |some f=>
   rw [hf]at h
   cases hq:P.info? f.type with
   |none=>simp [hq]at h
   |some q=>
    simp [hq]at h
    exact⟨fs,f,hu,hf,h.1,fun w=>by simp [sizeOf,typeInfo,hq,h.2]⟩
 ·cases h
theorem cK{r:Rp α}{get:α→β}{x:α}{sz:Nat}{p:Operand}(hf:cj E.P T i=some (off,sz))(h0:Nat.beq sz 0=false)(hq:lK r off q get)(hoff:Nat.ble (off+q.sz) r.sz=true)(hp:aK E.N G p (ce r x)):cE E O G ⟨dst,.fieldAddr T p i,ty,pos,after,g⟩ (ce q (get x)):=
 .of_pure fun a w S _ _ hF=>by
  obtain⟨b,o,c,U,fr,h1,h2,h3⟩:=hp S a hF
  obtain⟨fs,f,e1,e2,e3,e4⟩:=C5 hf
  have h0' :sz≠0:=fun e=>by subst e;simp at h0
  have hoff' :off+q.sz≤r.sz:=rm hoff
  refine⟨.pointer (some ⟨b,o+off,none⟩),?_,b,_,c,U,fr,rfl,h2,?_⟩
  ·simp [execOp,h1,Instr.fieldAt,jQ e1,e2,Instr.sureAddr,fieldPlace,e4,h0',e3,jf]
  ·have:=hq S _ x h3
   rw [zE,z8,t6,xI (by omega)]at this
   exact this
def an(P:Program)(f:FuncId):Bool:=
 match P.funcs[f]? with
 |some fn=> !(fn.name== "runtime.NumGoroutine")&&fn.body.isSome
 |none=>false
theorem iP{P:Program}(h:an P f=true)(args:Array Value)(w:World):(callFunc f args).run P w= .ok (.enter f args) w:=by
 unfold an at h
 cases hf:P.funcs[f]? with
 |none=>rw [hf]at h;cases h
 |some fn=>
  rw [hf]at h
  simp only [gX,DD]at h
  have h1:fn.name≠ "runtime.NumGoroutine" :=by simpa using h.1
  have h2:fn.body≠none:=fun e=>by rw [e]at h;simp at h
  simp [callFunc,hf,h1,h2]
def mi(N:Fr)(G:mX):List Operand→List Ty→Prop
 |[],[]=>True
 |x::xs,t::ts=>aK N G x t∧mi N G xs ts
 |_,_=>False
theorem mi.tys{N:Fr}(hF:cT N S a G): ∀{xs:List Operand} {ts:List Ty},mi N G xs ts→wH S ts (xs.map a.eval)
 |[],[],_=>trivial
 |_::_,_::_,⟨h1,h2⟩=>⟨h1 S a hF,mi.tys hF h2⟩
theorem aG{xs:List Operand}(hc:an E.P f=true)(hs:bk E.P f ts t)(hx:mi E.N G xs ts):
  cE E O G ⟨dst,.call ⟨.value (.func f),xs.toArray,ats⟩,ty,pos,after,g⟩ t:=fun a w S hS _ hF=>by
 have hr:(execOp a.eval ⟨dst,.call ⟨.value (.func f),xs.toArray,ats⟩,ty,pos,after,g⟩).run E.P w= .ok (.enter f (xs.map a.eval).toArray) w:=by
  simp [execOp,resolve,Act.eval,Deferred.ofValue,invoke,iP hc]
 refine⟨fun c h=>(by cases h),?_⟩
 rw [hr]
 exact(hs w S _ hS (hx.tys hF)).mono fun e w' ⟨v,S',he,h1,h2,h3⟩=>⟨v,he,v,S',rfl,h1,h2,h3⟩
end

theorem mQ{o:Obj}(h:k<w.heap.size):(w.alloc o).heap[k]? =w.heap[k]? :=RowKit.Below.heap_alloc w o k h
def SH.set(S:SH)(b:Nat)(o:Obj):SH:=fun k=>if k=b then some o else S k
theorem lT(S:SH)(b:Nat)(o:Obj):S.set b o b=some o:=bq rfl
theorem qu(S:SH){b:Nat}(o:Obj)(h:k≠b):S.set b o k=S k:=aW h
theorem tU{b:Nat}{o:Obj}(h: ∀q,S b=some q→EW q o):SH.le S (S.set b o):=fun k q hq=>by
 by_cases hk:k=b
 ·subst hk;exact⟨o,lT _ _ _,h q hq⟩
 ·exact⟨q,by rw [qu _ _ hk];exact hq,sd q⟩
theorem lI.set(h:lI w S){b:Nat}{o:Obj}(h1:w.heap[b]? =some o')(h2:EW o o')(h3: ∀q,S b=some q→EW q o):lI w (S.set b o):=by
 refine⟨fun k q hq=>?_,fun p hp=>?_,fun w' hw' =>h.tb w' fun k q hq=>?_⟩
 ·by_cases hk:k=b
  ·subst hk
   rw [lT]at hq
   cases hq
   exact⟨o',h1,h2⟩
  ·rw [qu _ _ hk]at hq;exact h k q hq
 ·obtain⟨c,T,fr,g1,g2⟩:=h.gl p hp
  by_cases hk:p.1=b
  ·subst hk
   obtain⟨d,hd⟩:=h3 _ g1
   refine⟨_,T,fr,by rw [lT,hd],?_⟩
   rw [List.toList_toArray,Ag ?_]
   ·exact g2
   ·have:=congrArg List.length g2
    rw [Cg]at this
    omega
  ·exact⟨c,T,fr,by rw [qu _ _ hk];exact g1,g2⟩
 ·by_cases hk:k=b
  ·subst hk
   obtain⟨o1,g1,g2⟩:=hw' k o (lT _ _ _)
   exact⟨o1,g1,Db (h3 q hq) g2⟩
  ·exact hw' k q (by rw [qu _ _ hk];exact hq)
theorem lj(o:Obj)(hs:lI w S):kj tN w S (w.alloc o) S∧lI (w.alloc o) S∧S w.heap.size=none:=by
 refine⟨⟨rfl,rfl,rfl,eE _,by simp,fun k hk _=>mQ hk,SH.le_refl _,fun _ _ _=>rfl⟩,hs.same fun b q hb=>mQ (hs.lt hb),?_⟩
 cases h:S w.heap.size with
 |none=>rfl
 |some q=>have:=hs.lt h;omega
theorem s3(o:Obj)(hs:lI w S):kj tN w S (w.alloc o) (S.set w.heap.size o)∧lI (w.alloc o) (S.set w.heap.size o):=by
 obtain⟨h1,h2,h3⟩:=lj o hs
 refine⟨⟨rfl,rfl,rfl,eE _,by simp,fun k hk _=>mQ hk,tU fun q hq=>(by rw [h3]at hq;cases hq),fun k hk _=>qu _ _ (by omega)⟩,h2.set (xM w o) (sd o) fun q hq=>by rw [h3]at hq;cases hq⟩
theorem yQ(hs:lI w S):kj tN w S w.drew S∧lI w.drew S:=⟨⟨rfl,rfl,rfl,Nat.le_succ _,eE _,fun _ _ _=>rfl,SH.le_refl _,fun _ _ _=>rfl⟩,hs.same fun _ _ _=>rfl⟩

def ax(l:Option Nat)(cap n:Nat):Value:=
 match l with
 |none=> .slice none 0 0
 |some b=> .slice (some ⟨b,0,none⟩) n cap
def xb(w:World)(T:TypeId)(sz:Nat)(l:Option Nat)(cap n:Nat)(cells:List Value):Prop:=
 match l with
 |none=>n=0∧cells=[]
 |some b=> ∃cur,w.heap[b]? =some (.cells cur T (0,0))∧n≤cap∧cap≤maxLen∧cur.size=cap*sz∧cur.toList.take (n*sz)=cells
def yJ{α:Type}(m:Bool)(r:Rp α)(T:TypeId)(l:Option Nat)(cap:Nat)(xs:List α)(w:World)(S:SH):Prop:=
 ∃cells,xb w T r.sz l cap xs.length cells∧qT r S cells xs∧ ∀b,l=some b→S b=if m then some (.cells cells.toArray T (0,0))else none
theorem xb.lt{sz b n:Nat}(h:xb w T sz (some b) cap n cells):b<w.heap.size:=by
 obtain⟨cur,h1,_⟩:=h
 exact(DG.1 h1).1
theorem xb.ext{sz n:Nat}(h:xb w T sz l cap n cells)(k: ∀b,l=some b→w'.heap[b]? =w.heap[b]?):xb w' T sz l cap n cells:=by
 cases l with
 |none=>exact h
 |some b=>
  obtain⟨cur,h1,h2⟩:=h
  exact⟨cur,by rw [k b rfl];exact h1,h2⟩
def lP{α:Type}(m:Bool)(r:Rp α)(T:TypeId)(l:Option Nat)(cap:Nat)(xs:List α):OE where
 fp:=fun k=>l=some k
 p:=yJ m r T l cap xs
 here:=by
  intro w S h k hk
  subst hk
  obtain⟨cells,h1,_⟩:=h
  exact h1.lt
 kept:=by
  intro C w w' S S' h k hC
  obtain⟨cells,h1,h2,h3⟩:=h
  refine⟨cells,h1.ext fun b hb=>?_,qS k.keep h2,fun b hb=>?_⟩
  ·subst hb;exact k.heap b h1.lt (hC b rfl)
  ·subst hb;rw [k.old b h1.lt (hC b rfl)];exact h3 b rfl
abbrev df{α:Type}(r:Rp α)(T:TypeId)(l:Option Nat)(cap:Nat)(xs:List α):OE:=lP false r T l cap xs
abbrev tip{α:Type}(r:Rp α)(T:TypeId)(l:Option Nat)(cap:Nat)(xs:List α):OE:=lP true r T l cap xs
def gn{α:Type}(xs ys:List α):Option (List α):=if xs.length+ys.length≤68719476736 then some (xs++ys)else none
variable{zs:List α}
theorem MJ(h:gn xs ys=some zs):zs=xs++ys∧xs.length+ys.length≤68719476736:=by
 unfold gn at h
 split at h
 ·exact⟨by simpa using h.symm,by assumption⟩
 ·cases h
variable{news:List Value}
theorem wS{P:Program}{t tx ty:TypeId}{i:TypeInfo}(ht:P.underlying t=some (.slice e))(hi:P.info? e=some i){g sLen sCap:Nat}{cur:Array Value}(hg:w.heap[g]? =some (.cells cur e (0,0))){x:Value}{n:Nat}(hs:Src P i.size tx x n news w)(hroom:sLen+n≤sCap)(hfit:sLen*i.size+news.length≤cur.size):
  (Builtin.append_ #[t,tx] ty #[.slice (some ⟨g,0,none⟩) sLen sCap,x]).run P w=
   .ok (.slice (some ⟨g,0,none⟩) (sLen+n) sCap) (w.setRow g (cur.toList.take (sLen*i.size)++news++cur.toList.drop (sLen*i.size+news.length)).toArray):=by
 have hst:=run_storeCells_at P g (sLen*i.size) e news 0 cur w hg (by simpa using hfit) hs.one
 simp only [zD]at hst
 rcases hs.kind with⟨e',hk⟩|hk<;>simp [Builtin.append_,jQ ht,jQ hk,sizeOf,typeInfo,hi,hs.len,hroom,hs.cells,Addr.add_lit,hst]
structure PR(l:Option Nat)(w w' :World):Prop where
 os:w'.os=w.os
 tape:w'.tape=w.tape
 output:w'.output=w.output
 drawn:w.drawn≤w'.drawn
 size:w.heap.size≤w'.heap.size
 heap: ∀k,k<w.heap.size→l≠some k→w'.heap[k]? =w.heap[k]?
variable{t' :TypeId}
theorem Bc{P:Program}{t ty:TypeId}{sz:Nat}{agg:Bool}{n m:Nat}{x:Value}(ti:TI P T sz bytes agg z)(hz:Nat.beq z.length sz=true)(h0:Nat.blt 0 sz=true)(h128:Nat.ble bytes 2048=true)(ht:P.underlying t=some (.slice T))(h:xb w T sz l cap n cells)(hs:Src P sz t' x m news w)(hlen:n+m≤68719476736):
  ∃l' cap' w',(Builtin.append_ #[t,t'] ty #[ax l cap n,x]).run P w= .ok (ax l' cap' (n+m)) w' ∧xb w' T sz l' cap' (n+m) (cells++news)∧PR l w w' ∧(∀b,l' =some b→l=some b∨w.heap.size≤b)∧(∀b,l=some b→l' ≠some b→w'.heap[b]? =w.heap[b]?):=by
 obtain⟨i,zv,hi,h1,h2,h3,h4⟩:=ti.get
 have h128' :=rm h128
 have h0' :0<sz:=by simpa [tZ] using h0
 have hz2:z.length=sz:=q7 hz
 subst h1
 have hnl:=hs.newsLen
 have hbytes:(n+m)*i.bytes≤140737488355328:=vf (Nat.mul_le_mul hlen (by omega:i.bytes≤2048)) (by omega)
 by_cases hm:m=0
 ·subst hm
  have hn0:news=[]:=tv (by simpa using hnl)
  subst hn0
  refine⟨l,cap,w,?_,by simpa using h,⟨rfl,rfl,rfl,eE _,eE _,fun _ _ _=>rfl⟩,fun b hb=> .inl hb,fun b _ _=>rfl⟩
  cases l with
  |none=>
   obtain⟨rfl,_⟩:=h
   exact run_append_nothing w t t' ty T i ht hi none 0 0 (eE _) _ hs
  |some b=>
   obtain⟨cur,_,hle,_⟩:=h
   exact run_append_nothing w t t' ty T i ht hi (some ⟨b,0,none⟩) n cap hle _ hs
 have QG: ∀old,old<n+m→Builtin.nextslicecap (n+m) old*i.bytes≤281474976710656:=fun old ho=>growslice_fits ho hbytes
 -- a new row
 have fresh: ∀(base:Option Addr) (olds:List Value),ax l cap n= .slice base n cap→olds=cells→cap<n+m→(Builtin.firstCells i.size n (.slice base n cap)).run P w.drew= .ok olds.toArray w.drew→cells.length=n*i.size→
   ∃l' cap' w',(Builtin.append_ #[t,t'] ty #[ax l cap n,x]).run P w= .ok (ax l' cap' (n+m)) w' ∧xb w' T i.size l' cap' (n+m) (cells++news)∧PR l w w' ∧(∀b,l' =some b→l=some b∨w.heap.size≤b)∧(∀b,l=some b→l' ≠some b→w'.heap[b]? =w.heap[b]?):=by
  intro base olds hv he hg hf hcl
  subst he
  have hr:=run_append_grow_src (P:=P) w t t' ty T i zv ht hi h3 base n cap olds hf x m news hs hg (by omega) (QG cap hg)
  have hge:=grownCap_ge w (n+m) cap T
  rw [←hv]at hr
  refine⟨some w.heap.size,grownCap w (n+m) cap T,_,hr,⟨_,xM w.drew _,hge,grownCap_le_maxLen _ _ _ _ (by simp only [maxLen];omega),?_,?_⟩,⟨rfl,rfl,rfl,Nat.le_succ _,by simp,fun k hk _=>?_⟩,fun b hb=> .inr (AK (qL hb)),fun b hb _=>?_⟩
  ·have:(Builtin.zeroCells zv.cells (grownCap w (n+m) cap T-(n+m))).size=(grownCap w (n+m) cap T-(n+m))*i.size:=by
    rw [size_zeroCells,h4];simp [hz2]
   simp only [Array.size_append,CR,lM,hcl,hnl,this]
   rw [←u9,←u9]
   congr 1;omega
  ·have hl2:(olds++news).length=(n+m)*i.size:=by rw [lM,hcl,hnl,u9]
   rw [Array.toList_append,Ag (by simp only [List.toList_toArray];omega)]
   simp only [List.toList_toArray]
   exact tu (by omega)
  ·exact mQ (w:=w.drew) hk
  ·cases l with
   |none=>cases hb
   |some b0=>
    have hb' :b0=b:=qL hb
    subst hb'
    exact mQ (w:=w.drew) (xb.lt h)
 cases l with
 |none=>
  obtain⟨rfl,rfl⟩:=h
  have:=run_append_grow_src (P:=P) w t t' ty T i zv ht hi h3 none 0 0 [] (run_firstCells_none w.drew i.size 0 0 0) x m news hs (by omega) (by omega) (QG 0 (by omega))
  have hge:=grownCap_ge w (0+m) 0 T
  refine⟨some w.heap.size,grownCap w (0+m) 0 T,_,this,⟨_,xM w.drew _,hge,grownCap_le_maxLen _ _ _ _ (by simp only [maxLen];omega),?_,?_⟩,⟨rfl,rfl,rfl,Nat.le_succ _,by simp,fun k hk _=>?_⟩,fun b hb=> .inr (AK (qL hb)),fun b hb=>(by cases hb)⟩
  ·have:(Builtin.zeroCells zv.cells (grownCap w (0+m) 0 T-(0+m))).size=(grownCap w (0+m) 0 T-(0+m))*i.size:=by
    rw [size_zeroCells,h4];simp [hz2]
   simp only [Array.size_append,CR,lL,hnl,this]
   rw [←u9]
   congr 1;omega
  ·rw [Array.toList_append,Ag (by simp [hnl])]
   simp only [lL,va]
   exact tu (by omega)
  ·exact mQ (w:=w.drew) hk
 |some b=>
  obtain⟨cur,hb,hle,hmax,hcs,hct⟩:=h
  have hcl:cells.length=n*i.size:=by
   rw [←hct,Cg,EZ,hcs]
   exact xI (xK _ hle)
  by_cases hroom:n+m≤cap
  ·have hfit:n*i.size+news.length≤cur.size:=by rw [hnl,hcs,←u9];exact xK _ hroom
   have hr:=wS (t:=t) (tx:=t') (ty:=ty) ht hi hb hs hroom hfit
   refine⟨some b,cap,_,hr,⟨_,setRow_heap w b cur _ T _ hb,hroom,hmax,?_,?_⟩,⟨rfl,rfl,rfl,eE _,by simp [World.setRow],fun k hk hkb=>setRow_other w b k _ (fun e=>hkb (by rw [e]))⟩,fun b' hb' => .inl hb',fun b' hb' hne=>absurd hb' hne⟩
   ·simp only [CR,lM,Cg,AM,EZ]
    omega
   ·rw [hct,u9,←hnl,←hcl,show cells.length+news.length=(cells++news).length from by simp]
    exact List.take_left
  ·refine fresh (some ⟨b,0,none⟩) cells rfl rfl (by omega) (run_firstCells_some w.drew i.size n ⟨b,0,none⟩ n cap cells hcl fun j v hv=>?_) hcl
   have hj:j<cells.length:=(kF.1 hv).1
   have hcell:w.cell? ⟨b,j,none⟩=cur[j]? :=wG hb j
   rw [jf]
   show w.cell? ⟨b,0+j,none⟩=_
   rw [va,hcell]
   rw [←hct,yV (by omega)]at hv
   simpa using hv
theorem sD{P:Program}{r:Rp α}{e' :TypeId}(ht:P.underlying t' =some (.slice e'))(hs:lI w S)(hv:(tD (gB r) ys).p S v): ∃news,Src P r.sz t' v ys.length news w∧qT r S news ys:=by
 obtain⟨ad,c2,rfl,hcap,hmax,hsl⟩:=m4.1 hv
 rcases hsl with rfl|⟨b,off,c,U,fr,e1,e2,e3⟩
 ·refine⟨[],?_,rfl⟩
  cases ad with
  |none=>exact .ofNil w ht c2
  |some a=>exact .ofSlice w ht a 0 c2 [] (by simp) (fun j u hu=>by simp at hu) (fun u hu=>by cases hu)
 ·subst e1
  obtain⟨c',h4,h5⟩:=hs.part e2 (kL e3)
  refine⟨_,.ofSlice w ht ⟨b,off,none⟩ ys.length c2 _ (kL e3) (fun j u hu=>?_) (yi e3),e3⟩
  rw [jf,wG h4]
  rw [←h5]at hu
  have hj:j<ys.length*r.sz:=by
   have:=(kF.1 hu).1
   simp at this;omega
  rw [yV hj,wR]at hu
  simpa using hu
def oV(s:Ky):List Int:=s.map fun b=>(b.toNat:Int)
theorem C7{S:SH}: ∀s:Ky,qT (rI .u8) S (s.map fun b=>Value.int .u8 b.toNat) (oV s)
 |[]=>rfl
 |b::s=>⟨[.int .u8 b.toNat],_,rfl,rfl,C7 s⟩
theorem Hj{P:Program}(ht:P.underlying t' =some .string)(hv:(tD rS s).p S v): ∃news,Src P (rI .u8).sz t' v (oV s).length news w∧qT (rI .u8) S news (oV s):=by
 have e:=y4.1 hv
 subst e
 refine⟨_,?_,C7 s⟩
 have:=Src.ofString (P:=P) w ht ⟨s.toArray⟩
 have e1:(ByteArray.mk s.toArray).size=(oV s).length:=by simp [ByteArray.size,oV]
 rw [e1]at this
 simpa [byteCells,rI] using this
variable{mm:Bool}
theorem vx{P:Program}{r:Rp α}{t ty:TypeId}{sz:Nat}{agg:Bool}{base:Nat}{B:Nat→Prop}(ti:TI P T sz bytes agg z)(hsz:r.sz=sz)(hz:Nat.beq z.length sz=true)(h0:Nat.blt 0 sz=true)(h128:Nat.ble bytes 2048=true)(ht:P.underlying t=some (.slice T))(hs:lI w S)(h:(lP mm r T l cap xs).holds base B w S)(hb:base≤w.heap.size)(hsrc:Src P r.sz t' v ys.length news w)(hrc:qT r S news ys)(hz' :gn xs ys=some zs):
  ∃l' cap' w' S',(Builtin.append_ #[t,t'] ty #[ax l cap xs.length,v]).run P w= .ok (ax l' cap' zs.length) w' ∧kj (fun k=>l=some k) w S w' S' ∧lI w' S' ∧(lP mm r T l' cap' zs).holds base B w' S' ∧(∀b,l' =some b→l=some b∨w.heap.size≤b):=by
 subst hsz
 obtain⟨rfl,hlen⟩:=MJ hz'
 obtain⟨⟨cells,h1,h2,h3⟩,hbase⟩:=h
 obtain⟨l',cap',w',hr,hraw,hg,hnew,hold⟩:=Bc (ty:=ty) ti hz h0 h128 ht h1 hsrc hlen
 have hrc' :qT r S (cells++news) (xs++ys):=sa h2 hrc
 -- what stood settled stands
 have hsat0: ∀k o,S k=some o→ ∃o',w'.heap[k]? =some o' ∧EW o o' :=fun k o hk=>by
  have hlt:=hs.lt hk
  by_cases hkl:l=some k
  ·obtain⟨o',e1,e2⟩:=hs k o hk
   by_cases hkl' :l' =some k
   ·subst hkl'
    subst hkl
    have h3' :=h3 k rfl
    cases mm with
    |false=>rw [h3']at hk;cases hk
    |true=>
     rw [h3']at hk
     cases hk
     obtain⟨cur',g1,g2,g3,g4,g5⟩:=hraw
     refine⟨_,g1,?_⟩;refine⟨news++cur'.toList.drop ((xs.length+ys.length)*r.sz),?_⟩
     congr 1
     apply Array.ext'
     rw [←nh,←g5,tt]
   ·rw [hold k hkl hkl'];exact hs k o hk
  ·rw [hg.heap k hlt hkl];exact hs k o hk
 have hsat:lI w' S:=⟨hsat0,hs.gl,hs.tb⟩
 have hSn: ∀b,l' =some b→l≠some b→S b=none:=fun b hb' hne=>by
  cases hq:S b with
  |none=>rfl
  |some q=>
   have:=hs.lt hq
   rcases hnew b hb' with h|h
   ·exact absurd h hne
   ·omega
 have hbase' : ∀k,l' =some k→base≤k∨B k:=fun k hk=>by
  rcases hnew k hk with h|h
  ·exact hbase k h
  ·exact .inl (by omega)
 have hz2:(xs++ys).length=xs.length+ys.length:=lM
 cases mm with
 |false=>
  refine⟨l',cap',w',S,by rw [hz2];exact hr,⟨hg.os,hg.tape,hg.output,hg.drawn,hg.size,fun k hk hkb=>hg.heap k hk hkb,SH.le_refl _,fun _ _ _=>rfl⟩,hsat,⟨⟨cells++news,by rw [hz2];exact hraw,hrc',fun b hb' =>?_⟩,hbase'⟩,hnew⟩
  by_cases hlb:l=some b
  ·exact h3 b hlb
  ·exact hSn b hb' hlb
 |true=>
  cases l' with
  |none=>
   refine⟨none,cap',w',S,by rw [hz2];exact hr,⟨hg.os,hg.tape,hg.output,hg.drawn,hg.size,fun k hk hkb=>hg.heap k hk hkb,SH.le_refl _,fun _ _ _=>rfl⟩,hsat,⟨⟨cells++news,by rw [hz2];exact hraw,hrc',fun b hb' =>(by cases hb')⟩,hbase'⟩,hnew⟩
  |some g=>
   have hq3: ∀q,S g=some q→EW q (.cells (cells++news).toArray T (0,0)):=fun q hq=>by
    by_cases hlb:l=some g
    ·have h4:S g=some (.cells cells.toArray T (0,0)):=h3 g hlb
     rw [h4]at hq
     cases hq
     exact⟨news,by simp⟩
    ·rw [hSn g rfl hlb]at hq;cases hq
   have hle:SH.le S (S.set g (.cells (cells++news).toArray T (0,0))):=tU hq3
   obtain⟨cur',g1,g2,g3,g4,g5⟩:=hraw
   refine⟨some g,cap',w',S.set g (.cells (cells++news).toArray T (0,0)),by rw [hz2];exact hr,⟨hg.os,hg.tape,hg.output,hg.drawn,hg.size,fun k hk hkb=>hg.heap k hk hkb,hle,fun k hk hkb=>qu _ _ ?_⟩,hsat.set g1 ?_ hq3,⟨⟨cells++news,by rw [hz2];exact⟨cur',g1,g2,g3,g4,g5⟩,qS hle hrc',fun b hb' =>?_⟩,hbase'⟩,hnew⟩
   ·rintro rfl
    rcases hnew k rfl with h|h
    ·exact hkb h
    ·omega
   ·refine⟨cur'.toList.drop ((xs.length+ys.length)*r.sz),?_⟩
    congr 1
    apply Array.ext'
    rw [←g5,tt]
   ·have hb2:g=b:=qL hb'
    subst hb2
    exact lT _ _ _

theorem Ia{e f:OE}(h:e.apart f):f.apart e:=fun b hb he=>h b he hb
theorem fR.swap{base:Nat}{B:Nat→Prop}{e f:OE}(h:fR base B w S (e::f::O)):fR base B w S (f::e::O):=by
 obtain⟨h1,h2,h3,h4,h5⟩:=h
 refine⟨h3,?_,h1,?_,h5⟩
 ·intro g hg
  rcases jW.1 hg with rfl|hg
  ·exact Ia (h2 _ (nf ..))
  ·exact h4 g hg
 ·intro g hg
  exact h2 g (oO _ hg)
theorem yN{base:Nat}{B:Nat→Prop}{e:OE}{O' :List OE}(h:fR base B w S (e::O))(k:fR base B w S O→fR base B w S O')(hm: ∀f∈O',f∈O):fR base B w S (e::O'):=
 ⟨h.1,fun f hf=>h.2.1 f (hm f hf),k h.2.2⟩
theorem qw{base:Nat}{B:Nat→Prop}{a b c:OE}(h:fR base B w S (a::b::c::O)):fR base B w S (c::a::b::O):=
 (yN h fR.swap (fun f hf=>by simp only [jW]at hf ⊢;rcases hf with h|h|h<;>simp [h])).swap
theorem sn{base:Nat}{B:Nat→Prop}{a b c d:OE}(h:fR base B w S (a::b::c::d::O)):fR base B w S (d::a::b::c::O):=
 (yN h qw (fun f hf=>by simp only [jW]at hf ⊢;rcases hf with h|h|h|h<;>simp [h])).swap
theorem uJ{base:Nat}{B:Nat→Prop}{a b c d e:OE}(h:fR base B w S (a::b::c::d::e::O)):fR base B w S (e::a::b::c::d::O):=
 (yN h sn (fun f hf=>by simp only [jW]at hf ⊢;rcases hf with h|h|h|h|h<;>simp [h])).swap

section
variable{E:En}
theorem St.own_map{O' :List OE}(h:St E O G a w S)(k:fR E.base E.B w S O→fR E.base E.B w S O'):St E O' G a w S:=⟨h.ext,h.sat,k h.own,h.facts⟩
theorem St.base_le(h:St E O G a w S):E.base≤w.heap.size:=h.ext.size
theorem St.drop{e:OE}(h:St E (e::O) G a w S):St E O G a w S:=h.own_map fun h=>h.2.2
theorem St.fresh(mm:Bool)(r:Rp α)(T:TypeId)(h:St E O G a w S):St E (lP mm r T none 0 []::O) G a w S:=
 h.own_map fun h=>by refine⟨⟨⟨[],⟨rfl,rfl⟩,rfl,fun b hb=>(by cases hb)⟩,fun k hk=>?_⟩,fun f _ b hb=>?_,h⟩<;>(first|cases hk|cases hb)
theorem xl{e:OE}{b:Nat}{o:Obj}(h:St E (e::O) G a w S)(hb:e.fp b)(ho:w.heap[b]? =some o')(hoo:EW o o')(hn:S b=none):St E O G a w (S.set b o)∧SH.le S (S.set b o)∧kj (fun k=>k=b) w S w (S.set b o)∧lI w (S.set b o):=by
 have hbase:=h.own.1.2 b hb
 have hle:SH.le S (S.set b o):=tU fun q hq=>(by rw [hn]at hq;cases hq)
 have hsat:lI w (S.set b o):=h.sat.set ho hoo fun q hq=>by rw [hn]at hq;cases hq
 have hext:kj (fun k=>k=b) w S w (S.set b o):=⟨rfl,rfl,rfl,eE _,eE _,fun _ _ _=>rfl,hle,fun k _ hk=>qu _ _ hk⟩
 refine⟨⟨h.ext.step hext fun c hc=>by subst hc;exact hbase,hsat,h.own.2.2.ext hext fun f hf c hc hm=>?_,h.facts.mono hle⟩,hle,hext,hsat⟩
 subst hm
 exact h.own.2.1 f hf c hb hc
def tO{α:Type}(r:Rp α)(l:Option Nat)(cap:Nat)(xs:List α):Ty where
 p:=fun S v=>v=ax l cap xs.length∧(tD (gB r) xs).p S v
 mono:=fun h ⟨h1,h2⟩=>⟨h1,Ty.mono _ h h2⟩
theorem vr{N:Fr}{G:mX}{r:Rp α}(h:aK N G x (tO r l cap xs)):aK N G x (tV (ax l cap xs.length)):=fun S a hf=>(h S a hf).1
theorem io{N:Fr}{G:mX}{r:Rp α}(h:aK N G x (tO r l cap xs)):aK N G x (tD (gB r) xs):=fun S a hf=>(h S a hf).2
theorem mj{r:Rp α}{w:World}{S:SH}(h:yJ true r T l cap xs w S):(tD (gB r) xs).p S (ax l cap xs.length):=by
 obtain⟨cells,h1,h2,h3⟩:=h
 cases l with
 |none=>
  have hx:xs=[]:=tv h1.1
  subst hx
  exact DQ
 |some b=>
  obtain⟨cur,g1,g2,g3,g4,g5⟩:=h1
  refine m4.2 ⟨_,cap,rfl,g2,g3,.inr ⟨b,0,cells.toArray,T,(0,0),rfl,h3 b rfl,?_⟩⟩
  have:=kL h2
  rw [xd,tu (by simp [this])]
  exact h2
theorem St.freeze{r:Rp α}(h:St E (df r T l cap xs::O) G a w S):
  ∃S',St E (tip r T l cap xs::O) G a w S' :=by
 obtain⟨⟨cells,h1,h2,h3⟩,hbase⟩:=h.own.1
 cases l with
 |none=>exact⟨S,h.ext,h.sat,⟨⟨⟨cells,h1,h2,fun b hb=>(by cases hb)⟩,hbase⟩,h.own.2⟩,h.facts⟩
 |some b=>
  obtain⟨cur,g1,g2,g3,g4,g5⟩:=h1
  have hoo:EW (.cells cells.toArray T (0,0)) (.cells cur T (0,0)):=by
   refine⟨cur.toList.drop (xs.length*r.sz),?_⟩
   congr 1
   apply Array.ext'
   rw [←g5,tt]
  obtain⟨h8,hle,_,_⟩:=xl h rfl g1 hoo (h3 b rfl)
  refine⟨_,h8.ext,h8.sat,⟨⟨⟨cells,⟨cur,g1,g2,g3,g4,g5⟩,qS hle h2,fun b' hb' =>?_⟩,hbase⟩,h.own.2.1,h8.own⟩,h8.facts⟩
  have hb2:b=b' :=qL hb'
  subst hb2
  exact lT _ _ _
theorem St.settle{r:Rp α}(h:St E (lP mm r T l cap xs::O) G a w S):
  ∃S',St E O G a w S' ∧(tD (gB r) xs).p S' (ax l cap xs.length):=by
 cases mm with
 |true=>exact⟨S,h.drop,mj h.own.1.1⟩
 |false=>
  obtain⟨S',h1⟩:=h.freeze
  exact⟨S',h1.drop,mj h1.own.1.1⟩
end

section
variable{E:En}{e:Exit}
theorem HT{N:Fr}(h:cT N S a G)(hk:t.p S (a.tmps.getD k undef)):cT N S a ((k,t)::G):=
 ⟨h.size,h.defers,fun j u hj=>by
  unfold d9 at hj
  by_cases hb:Nat.beq k j=true
  ·rw [hb]at hj
   have:=q7 hb
   subst this
   rw [←show t=u from by simpa using hj];exact hk
  ·rw [Ac]at hb
   rw [hb]at hj
   exact h.at_ j u hj⟩
theorem St.cons(h:St E O G a w S)(hk:t.p S (a.tmps.getD k undef)):St E O ((k,t)::G) a w S:=⟨h.ext,h.sat,h.own,HT h.facts hk⟩
theorem St.tipAt{r:Rp α}{n:Nat}(h:St E (tip r T l cap xs::O) G a w S)(hk:d9 G k=some (tV (ax l cap n)))(hn:n=xs.length):
  St E (tip r T l cap xs::O) ((k,tO r l cap xs)::G) a w S:=by
 subst hn
 have hv:a.tmps.getD k undef=ax l cap xs.length:=h.facts.at_ k _ hk
 exact h.cons ⟨hv,by rw [hv];exact mj h.own.1.1⟩
theorem cd(mm:Bool)(r:Rp α)(T:TypeId)(h:RG E ops Q rest (lP mm r T none 0 []::O) G):RG E ops Q rest O G:=fun a w S st=>h a w S (st.fresh mm r T)
theorem wK{f:OE}(h:RG E ops Q rest O G):RG E ops Q rest (f::O) G:=fun a w S st=>h a w S st.drop
theorem CG.drop{f:OE}(h:CG E Q c O G):CG E Q c (f::O) G:=fun a w S st=>h a w S st.drop
theorem aX{f:OE}(h:AT E Q e O G):AT E Q e (f::O) G:=fun a w S st=>h a w S st.drop
theorem bT{x y:OE}(h:RG E ops Q rest (y::x::O) G):RG E ops Q rest (x::y::O) G:=fun a w S st=>h a w S (st.own_map fR.swap)
theorem aV{x y:OE}(h:AT E Q e (y::x::O) G):AT E Q e (x::y::O) G:=fun a w S st=>h a w S (st.own_map fR.swap)
theorem kE{x y z:OE}(h:RG E ops Q rest (z::x::y::O) G):RG E ops Q rest (x::y::z::O) G:=fun a w S st=>h a w S (st.own_map qw)
theorem KJ{x y z:OE}(h:CG E Q c (z::x::y::O) G):CG E Q c (x::y::z::O) G:=fun a w S st=>h a w S (st.own_map qw)
theorem bl{x y z:OE}(h:AT E Q e (z::x::y::O) G):AT E Q e (x::y::z::O) G:=fun a w S st=>h a w S (st.own_map qw)
theorem ju{x y z:OE}(h:RG E ops Q rest (u::x::y::z::O) G):RG E ops Q rest (x::y::z::u::O) G:=fun a w S st=>h a w S (st.own_map sn)
theorem bX{x y z:OE}(h:AT E Q e (u::x::y::z::O) G):AT E Q e (x::y::z::u::O) G:=fun a w S st=>h a w S (st.own_map sn)
theorem zw{x y z v:OE}(h:RG E ops Q rest (v::x::y::z::u::O) G):RG E ops Q rest (x::y::z::u::v::O) G:=fun a w S st=>h a w S (st.own_map uJ)
theorem gA{x y z v:OE}(h:AT E Q e (v::x::y::z::u::O) G):AT E Q e (x::y::z::u::v::O) G:=fun a w S st=>h a w S (st.own_map uJ)
theorem jv{f:OE}(h:LG E Q c O G):LG E Q c (f::O) G:=fun a w S st=>h a w S st.drop
theorem dB{x y:OE}(h:LG E Q c (y::x::O) G):LG E Q c (x::y::O) G:=fun a w S st=>h a w S (st.own_map fR.swap)
theorem po{x y z:OE}(h:LG E Q c (z::x::y::O) G):LG E Q c (x::y::z::O) G:=fun a w S st=>h a w S (st.own_map qw)
theorem fS{x y z:OE}(h:LG E Q c (u::x::y::z::O) G):LG E Q c (x::y::z::u::O) G:=fun a w S st=>h a w S (st.own_map sn)
theorem zy{x y z v:OE}(h:LG E Q c (v::x::y::z::u::O) G):LG E Q c (x::y::z::u::v::O) G:=fun a w S st=>h a w S (st.own_map uJ)
theorem db{r:Rp α}(h:RG E ops Q rest (tip r T l cap xs::O) G):RG E ops Q rest (df r T l cap xs::O) G:=fun a w _ st=>let⟨S',st'⟩:=st.freeze;h a w S' st'
theorem ca{r:Rp α}{n:Nat}(k:Nat)(hk:d9 G k=some (tV (ax l cap n)))(h:RG E ops Q rest (tip r T l cap xs::O) ((k,tO r l cap xs)::G))(hn:n=xs.length:=by rfl):RG E ops Q rest (tip r T l cap xs::O) G:=fun a w S st=>h a w S (st.tipAt hk hn)
theorem KK{r:Rp α}(h:CG E Q c (tip r T l cap xs::O) G):CG E Q c (df r T l cap xs::O) G:=fun a w _ st=>let⟨S',st'⟩:=st.freeze;h a w S' st'
theorem B9{r:Rp α}{n:Nat}(k:Nat)(hk:d9 G k=some (tV (ax l cap n)))(h:CG E Q c (tip r T l cap xs::O) ((k,tO r l cap xs)::G))(hn:n=xs.length:=by rfl):CG E Q c (tip r T l cap xs::O) G:=fun a w S st=>h a w S (st.tipAt hk hn)
theorem ea{r:Rp α}(h:AT E Q e (tip r T l cap xs::O) G):AT E Q e (df r T l cap xs::O) G:=fun a w _ st=>let⟨S',st'⟩:=st.freeze;h a w S' st'
theorem bS{r:Rp α}{n:Nat}(k:Nat)(hk:d9 G k=some (tV (ax l cap n)))(h:AT E Q e (tip r T l cap xs::O) ((k,tO r l cap xs)::G))(hn:n=xs.length:=by rfl):AT E Q e (tip r T l cap xs::O) G:=fun a w S st=>h a w S (st.tipAt hk hn)
theorem aT{r:Rp α}(hk:d9 G k=some (tD (gB r) xs))(h:xs.length≤maxLen→CG E Q c O G):CG E Q c O G:=fun a w S st=>by
 obtain⟨_,_,_,h1,h2,_⟩:=m4.1 (st.facts.at_ k _ hk)
 exact h (vf h1 h2) a w S st

section
variable{ty:TypeId}
theorem St.append{r:Rp α}{t ty:TypeId}{sz:Nat}{agg:Bool}(ti:TI E.P T sz bytes agg z)(hsz:r.sz=sz)(hz:Nat.beq z.length sz=true)(h0:Nat.blt 0 sz=true)(h128:Nat.ble bytes 2048=true)(ht:E.P.underlying t=some (.slice T))(st:St E (lP mm r T l cap xs::O) G a w S)(hsrc:Src E.P r.sz t' v ys.length news w)(hrc:qT r S news ys)(happ:gn xs ys=some zs):
  ∃l' cap' w' S',(Builtin.append_ #[t,t'] ty #[ax l cap xs.length,v]).run E.P w= .ok (ax l' cap' zs.length) w' ∧St E (lP mm r T l' cap' zs::O) G a w' S' :=by
 obtain⟨l',cap',w',S',hr,hext,hsat,hh,hnew⟩:=vx (ty:=ty) ti hsz hz h0 h128 ht st.sat st.own.1 st.base_le hsrc hrc happ
 refine⟨l',cap',w',S',hr,st.ext.step hext fun b hb=>st.own.1.2 b hb,hsat,⟨hh,fun f hf b hb hfb=>?_,st.own.2.2.ext hext fun f hf b hb hbl=>st.own.2.1 f hf b hbl hb⟩,st.facts.mono hext.keep⟩
 rcases hnew b hb with h|h
 ·exact st.own.2.1 f hf b h hfb
 ·have:=f.here (fR.mem st.own.2.2 f hf).1 b hfb
  omega
theorem St.put{d:Nat}(h:St E O G a w S)(hd:Nat.blt d E.N.n=true)(hv:t.p S v):St E O ((d,t)::G) (a.put (some d) v) w S:=⟨h.ext,h.sat,h.own,h.facts.put hd hv⟩
theorem uI{r:Rp α}{t:TypeId}{sz:Nat}{agg:Bool}{n:Nat}{u:Nat→Option Nat→Ty}(ti:TI E.P T sz bytes agg z)(hsz:r.sz=sz)(hz:Nat.beq z.length sz=true)(h0:Nat.blt 0 sz=true)(h128:Nat.ble bytes 2048=true)(ht:E.P.underlying t=some (.slice T))(hd:Nat.blt d E.N.n=true)(hx:aK E.N G x (tV (ax l cap n)))(hy: ∀a w S,St E (lP mm r T l cap xs::O) G a w S→ ∃news,Src E.P r.sz t' (a.eval y) ys.length news w∧qT r S news ys)(happ:gn xs ys=some zs)(hu: ∀l' cap' w0 S,(lP mm r T l' cap' zs).p w0 S→(u cap' l').p S (ax l' cap' zs.length))(k: ∀l' cap',RG E ops Q rest (lP mm r T l' cap' zs::O) ((d,u cap' l')::G))(hn:n=xs.length):
  RG E ops Q (⟨some d,.call ⟨.builtin .append,#[x,y],#[t,t']⟩,ty,pos,after,none⟩::rest) (lP mm r T l cap xs::O) G:= .of rfl fun a w S st=>by
 subst hn
 have h1:a.eval x=ax l cap xs.length:=hx S a st.facts
 obtain⟨news,h2,h3⟩:=hy a w S st
 obtain⟨l',cap',w',S',hr,st'⟩:=st.append (ty:=ty) ti hsz hz h0 h128 ht h2 h3 happ
 have hrun:(execOp a.eval ⟨some d,.call ⟨.builtin .append,#[x,y],#[t,t']⟩,ty,pos,after,none⟩).run E.P w= .ok (.value (ax l' cap' zs.length)) w' :=by
  simp [execOp,resolve,invoke,builtin,h1,hr]
 refine⟨fun c h=>(by cases h),?_⟩
 rw [hrun]
 exact k l' cap' _ _ S' (st'.put hd (hu l' cap' w' S' st'.own.1.1))
theorem be{r:Rp α}{t:TypeId}{sz:Nat}{agg:Bool}{n:Nat}(ti:TI E.P T sz bytes agg z)(hsz:r.sz=sz)(hz:Nat.beq z.length sz=true)(h0:Nat.blt 0 sz=true)(h128:Nat.ble bytes 2048=true)(ht:E.P.underlying t=some (.slice T))(ht' :t' =t)(hd:Nat.blt d E.N.n=true)(hx:aK E.N G x (tV (ax l cap n)))(hy:aK E.N G y (tD (gB r) ys))(happ:gn xs ys=some zs)(k: ∀l' cap',RG E ops Q rest (df r T l' cap' zs::O) ((d,tV (ax l' cap' zs.length))::G))(hn:n=xs.length:=by rfl):
  RG E ops Q (⟨some d,.call ⟨.builtin .append,#[x,y],#[t,t']⟩,ty,pos,after,none⟩::rest) (df r T l cap xs::O) G:=by
 subst ht'
 exact uI (u:=fun cap' l' =>tV (ax l' cap' zs.length)) ti hsz hz h0 h128 ht hd hx (fun a w S st=>sD ht st.sat (hy S a st.facts)) happ (fun _ _ _ _ _=>rfl) k hn
theorem mh{r:Rp α}{t:TypeId}{sz:Nat}{agg:Bool}(ti:TI E.P T sz bytes agg z)(hsz:r.sz=sz)(hz:Nat.beq z.length sz=true)(h0:Nat.blt 0 sz=true)(h128:Nat.ble bytes 2048=true)(ht:E.P.underlying t=some (.slice T))(ht' :t' =t)(hd:Nat.blt d E.N.n=true)(hx:aK E.N G x (tO r l cap xs))(hy:aK E.N G y (tD (gB r) ys))(happ:gn xs ys=some zs)(k: ∀l' cap',RG E ops Q rest (tip r T l' cap' zs::O) ((d,tO r l' cap' zs)::G)):
  RG E ops Q (⟨some d,.call ⟨.builtin .append,#[x,y],#[t,t']⟩,ty,pos,after,none⟩::rest) (tip r T l cap xs::O) G:=by
 subst ht'
 exact uI (u:=fun cap' l' =>tO r l' cap' zs) ti hsz hz h0 h128 ht hd (vr hx) (fun a w S st=>sD ht st.sat (hy S a st.facts)) happ (fun _ _ _ _ h=>⟨rfl,mj h⟩) k rfl
theorem B0{t:TypeId}{agg:Bool}{n:Nat}{xs zs:List Int}(ti:TI E.P T 1 bytes agg z)(hz:Nat.beq z.length 1=true)(h128:Nat.ble bytes 2048=true)(ht:E.P.underlying t=some (.slice T))(ht' :E.P.underlying t' =some .string)(hd:Nat.blt d E.N.n=true)(hx:aK E.N G x (tV (ax l cap n)))(hy:aK E.N G y (tD rS s))(happ:gn xs (oV s)=some zs)(k: ∀l' cap',RG E ops Q rest (df (rI .u8) T l' cap' zs::O) ((d,tV (ax l' cap' zs.length))::G))(hn:n=xs.length:=by rfl):
  RG E ops Q (⟨some d,.call ⟨.builtin .append,#[x,y],#[t,t']⟩,ty,pos,after,none⟩::rest) (df (rI .u8) T l cap xs::O) G:=
 uI (r:=rI .u8) (u:=fun cap' l' =>tV (ax l' cap' zs.length)) ti rfl hz rfl h128 ht hd hx (fun a w S st=>Hj ht' (hy S a st.facts)) happ (fun _ _ _ _ _=>rfl) k hn
end
end

theorem yx(off:Nat): ∀(cs:List Value) (k:Nat) (pre mid post:List Value),mid.length=cs.length→pre.length=off+k→
  (cs.zipIdx k).foldl (fun(a:Array Value) x=>a.setIfInBounds (off+x.2) x.1) (pre++mid++post).toArray=(pre++cs++post).toArray
 |[],k,pre,mid,post,hm,_=>by
  have:mid=[]:=tv hm
  subst this;simp
 |c::cs,k,pre,mid,post,hm,hp=>by
  cases mid with
  |nil=>simp at hm
  |cons m mid=>
   simp only [List.zipIdx_cons,List.foldl_cons]
   have h1:(pre++(m::mid)++post).toArray.setIfInBounds (off+k) c=((pre++[c])++mid++post).toArray:=by
    rw [←hp]
    simp
   rw [h1,yx off cs (k+1) (pre++[c]) mid post (by simpa using hm) (by simp;omega)]
   simp
theorem xY(v:Value)(off:Nat)(pre mid post:List Value)(hm:mid.length=v.cells.size)(hp:pre.length=off):
  v.cells.zipIdx.foldl (fun cs (x:Value×Nat)=>cs.setIfInBounds (off+x.2) x.1) (pre++mid++post).toArray=(pre++v.cells.toList++post).toArray:=by
 have:=yx off v.cells.toList 0 pre mid post (by simpa using hm) (by simpa using hp)
 rw [←this,←Array.foldl_toList]
 simp [Array.toList_zipIdx]
theorem tz{r:Rp α}{x:α}(h:r.rc S cs x):(r.val cs).cells=cs.toArray:=by
 unfold Rp.val
 cases ha:r.agg with
 |true=>simp [Value.cells]
 |false=>
  have hl:=r.len h
  rw [r.sc ha]at hl
  match cs,hl with
  |[c],_=>
   have:=r.one h c (by simp)
   cases c<;>simp_all [Value.cells,Value.oneCell']
def zU:Nat→List Value→List (Nat×Value)
 |_,[]=>[]
 |k,v::vs=>(k,v)::zU (k+1) vs
theorem BI{α:Type}{r:Rp α}{S:SH}: ∀(ys:List α) (vs:List Value) (k:Nat) (pre zs:List Value),wH S (ys.map (tD r)) vs→pre.length=k*r.sz→zs.length=ys.length*r.sz→
  ∃cs,qT r S cs ys∧Instr.fill (fun i=>some (i*r.sz,r.sz)) (pre++zs).toArray (zU k vs)=some (pre++cs).toArray
 |[],[],k,pre,zs,_,_,hz=>by
  have:zs=[]:=tv (by simpa using hz)
  subst this
  exact⟨[],rfl,by simp [zU,Instr.fill]⟩
 |y::ys,v::vs,k,pre,zs,⟨⟨c,e,hc⟩,h2⟩,hp,hz=>by
  have hl:=r.len hc
  have hz' :r.sz≤zs.length:=by rw [hz,nT,u9];omega
  have e1:zs=zs.take r.sz++zs.drop r.sz:=(tt _ _).symm
  have hcells:v.cells=c.toArray:=by rw [e];exact tz hc
  obtain⟨cs,h3,h4⟩:=BI ys vs (k+1) (pre++c) (zs.drop r.sz) h2 (by rw [lM,hp,hl,u9];omega) (by rw [AM,hz,nT,u9];omega)
  refine⟨c++cs,⟨c,cs,rfl,hc,h3⟩,?_⟩
  have hs:v.cells.size=r.sz:=by rw [hcells];simpa using hl
  have hcond: ¬((v.cells.size≠r.sz)∨(k*r.sz+v.cells.size>(pre++zs).toArray.size)):=by
   simp [hs];omega
  have h5:=xY v (k*r.sz) pre (zs.take r.sz) (zs.drop r.sz) (by simp [hs];omega) hp
  rw [nh,←e1]at h5
  simp only [zU,Instr.fill]
  rw [aW (by simpa using hcond)]
  rw [h5,hcells]
  simpa using h4
def xa:Nat→List Operand→List (Nat×Operand)
 |_,[]=>[]
 |k,v::vs=>(k,v)::xa (k+1) vs
theorem zn(ρ:Operand→Value): ∀(k:Nat) (xs:List Operand),(xa k xs).map (fun x=>(x.1,ρ x.2))=zU k (xs.map ρ)
 |_,[]=>rfl
 |k,x::xs=>by simp [xa,zU,zn ρ (k+1) xs]

section
variable{E:En}{ty:TypeId}
theorem vw{P:Program}{r:Rp α}{xs:List Operand}{ρ:Operand→Value}{t:TypeId}{n sz:Nat}{agg:Bool}(ht:P.underlying t=some (.slice T))(ti:TI P T sz bytes agg z)(hsz:r.sz=sz)(hn:n=ys.length)(hb:Nat.ble (n*sz) 16777216=true)(hx:wH S (ys.map (tD r)) (xs.map ρ))(w:World):
  ∃cs,qT r S cs ys∧(Instr.buildSlice t n ((xa 0 xs).toArray.map fun x=>(x.1,ρ x.2))).run P w= .ok (.slice (some ⟨w.heap.size,0,none⟩) n n) (w.alloc (.cells cs.toArray T (0,0))):=by
 subst hsz
 have hb' :=rm hb
 obtain⟨zv,hzr,_⟩:=ti.zero w
 obtain⟨cs,hc,hfill⟩:=BI ys (xs.map ρ) 0 [] ((Array.range (n*r.sz)).map (fun i=>(if n*r.sz=0 then #[]else zv.cells)[i%(if n*r.sz=0 then #[]else zv.cells).size]!)).toList hx (by simp) (by simp [hn])
 refine⟨cs,hc,?_⟩
 have hparts:((xa 0 xs).toArray.map fun x=>(x.1,ρ x.2)).toList=zU 0 (xs.map ρ):=by simp [zn]
 simp only [lL,Array.toArray_toList]at hfill
 have hle: ¬(n*r.sz>2^24):=by omega
 by_cases hn0:n*r.sz=0
 ·simp only [hn0,ow]at hfill
  simp only [Instr.buildSlice,s4,jQ ht,tq,ti.sizeOf,Sem.run_ite,hn0,ow,Sem.run_pure,hparts,hfill]
  simp [newRow]
 ·simp only [hn0,qK]at hfill
  simp only [Instr.buildSlice,s4,jQ ht,tq,ti.sizeOf,Sem.run_ite,hle,qK,hn0,Sem.run_pure,hzr,hparts,hfill]
  simp [newRow]
theorem aH{r:Rp α}{xs:List Operand}{parts:List (Nat×Operand)}{t:TypeId}{n sz:Nat}{agg:Bool}(ht:E.P.underlying t=some (.slice T))(ti:TI E.P T sz bytes agg z)(hsz:r.sz=sz)(h0:Nat.blt 0 sz=true)(hp:parts=xa 0 xs)(hn:n=ys.length)(hb:Nat.ble (n*sz) 16777216=true)(hx:mi E.N G xs (ys.map (tD r))):cE E O G ⟨dst,.buildSlice t n parts.toArray,ty,pos,after,g⟩ (tD (gB r) ys):=
 .of_run fun a w S hs _ hf=>by
  obtain⟨cs,hc,hr⟩:=vw ht ti hsz hn hb (hx.tys hf) w
  subst hsz
  have hb' :=rm hb
  have h0' :0<r.sz:=by simpa [tZ] using h0
  have hnle:n≤n*r.sz:=Nat.le_mul_of_pos_right n h0'
  obtain⟨he,hs'⟩:=s3 (w:=w) (.cells cs.toArray T (0,0)) hs
  have hcl:=kL hc
  refine⟨.slice (some ⟨w.heap.size,0,none⟩) n n,_,_,?_,he,hs',m4.2 ⟨_,n,by rw [hn],by omega,by simp only [maxLen];omega,.inr ⟨w.heap.size,0,cs.toArray,T,(0,0),rfl,by simp [SH.set],?_⟩⟩⟩
  ·subst hp
   simp only [execOp,s4,hr,tq,Sem.run_pure]
  ·have:qT r (S.set w.heap.size (.cells cs.toArray T (0,0))) cs ys:=qS he.keep hc
   simpa [←hcl] using this
theorem LE{r:Rp α}{v:α}(hx:aK E.N G x (tD r v)):cE E O G ⟨dst,.box T x,ty,pos,after,g⟩ (ce r v):=
 .of_run fun a w S hs _ hf=>by
  obtain⟨cs,hv,hc⟩:=hx S a hf
  obtain⟨he,hs'⟩:=s3 (w:=w) (.cells cs.toArray T (0,0)) hs
  refine⟨.pointer (some ⟨w.heap.size,0,none⟩),_,_,?_,he,hs',w.heap.size,0,cs.toArray,T,(0,0),rfl,by simp [SH.set],?_⟩
  ·simp [execOp,Instr.box,newVar,newRow,hv,tz hc]
  ·have:=r.mono he.keep hc
   have hl:=r.len hc
   simpa [←hl] using this
end

def s6(c:Bool)(t:Ty):Ty where
 p:=fun S v=>if c=true then t.p S v else v=undef
 mono:=fun h k=>by
  split
  ·rename_i hc;rw [bq hc]at k;exact t.mono h k
  ·rename_i hc;rw [aW hc]at k;exact k
variable{gs:Nat}{pol:Bool}
section
variable{E:En}
theorem aA{N:Fr}{c:Bool}(h:d9 G k=some (s6 c t))(hc:c=true):aK N G (.tmp k) t:=fun _ _ hF=>by
 have h2:if c=true then t.p _ (Act.eval _ (.tmp k))else _=undef:=hF.at_ k _ h
 rw [bq hc]at h2;exact h2
def sQ(c b:Bool):Ty:=s6 c (tD rB b)
theorem pj(h:d9 G k=some (tD rB b)):aK E.N G (.tmp k) (sQ true b):=fun _ _ hF=>by
 have h2:(tD rB b).p _ (Act.eval _ (.tmp k)):=hF.at_ k _ h
 simp only [sQ,s6,ow]
 exact h2
theorem Dl{c:Bool}(h:d9 G k=some (s6 c (tD rB b))):aK E.N G (.tmp k) (sQ c b):=fun _ _ hF=>hF.at_ k _ h
theorem uc{c:Bool}(hg:o.guard=some (j,pol))(hj:(ops[j]?).bind (·.dst)=some gs)(hn:gs<a.tmps.size)(hv:(sQ c b).p S (a.tmps.getD gs undef)):
  Region.wanted o (yielded ops a.tmps)=(c&&(b==pol)):=by
 have hget:a.tmps[gs]? =some (a.tmps.getD gs undef):=by
  rw [G8,Array.getElem?_eq_getElem hn];rfl
 unfold Region.wanted
 rw [hg]
 simp only [yielded,hj,bj,hget]
 cases c with
 |true=>
  have:a.tmps.getD gs undef= .bool b:=gY.1 (by simpa [sQ,s6] using hv)
  rw [this]
  cases b<;>cases pol<;>rfl
 |false=>
  have:a.tmps.getD gs undef=undef:=by simpa [sQ,s6] using hv
  rw [this]
  cases pol<;>rfl
theorem EM{c:Bool}{op:Op}{ty:TypeId}(hj:(ops[j]?).bind (·.dst)=some gs)(hgs:Nat.blt gs E.N.n=true)(hg:aK E.N G (.tmp gs) (sQ c b))(hd:Nat.blt d E.N.n=true)(h:(c&&(b==pol))=true→cE E O G ⟨some d,op,ty,pos,after,some (j,pol)⟩ t)(k:RG E ops Q rest O ((d,s6 (c&&(b==pol)) t)::G)):
  RG E ops Q (⟨some d,op,ty,pos,after,some (j,pol)⟩::rest) O G:=fun a w S st=>by
 have hgs' :gs<a.tmps.size:=by rw [st.facts.size];simpa [tZ] using hgs
 have hw:=uc (o:=⟨some d,op,ty,pos,after,some (j,pol)⟩) rfl hj hgs' (hg S a st.facts)
 refine wpListIn_step fun K hK=>?_
 rw [hw]
 by_cases hc:(c&&(b==pol))=true
 ·rw [bq hc]
  refine nX (fun a' w' ⟨v,S',ha,he,hs,hv⟩=>?_) (h hc a w S st.sat st.own st.facts)
  subst ha
  refine hK _ _ (k _ _ _ (st.step he hs hd ?_))
  simpa only [s6,hc,ow] using hv
 ·rw [aW hc]
  refine⟨fun _ _=>trivial,hK _ _ (k _ _ S (st.step (kU _ _ _) st.sat hd ?_))⟩
  show if _ then _ else _
  rw [aW hc]
end

structure Nd where
 slot:Nat
 ty:Ty
 src:Option Nat
def cM(E:En)(O:List OE)(ops:Array Oper)(need:mX)(o:Oper)(t:Ty):Prop:=
 ∀a w S,lI w S→fR E.base E.B w S O→cT E.N S a need→
  if Region.wanted o (yielded ops a.tmps)then FV E.P o a w (fun a' w' => ∃v S',a' =a.put o.dst v∧kj tN w S w' S' ∧lI w' S' ∧t.p S' v)else t.p S undef
def kN:List Nd→mX
 |[]=>[]
 |n::l=>(n.slot,n.ty)::kN l
def CV(o:Oper)(j:Nat):Bool:=o.after.toList.any fun e=>Nat.beq e.on j&&Region.binds .any e
def rr(l:List Oper)(o:Oper)(i:Nat)(n:Nd):Bool:=
 match n.src with
 |some j=>(match l[j]? with|some p=>(match p.dst with|some d=>Nat.beq d n.slot|none=>false)|none=>false)&&CV o j
 |none=>l.all fun p=>(match p.dst with|some d=> !(Nat.beq d n.slot)|none=>true)||CV p i
def wU(G:mX)(ts:List Ty)(n:Nd):Prop:=
 match n.src with
 |some j=>ts[j]? =some n.ty
 |none=>d9 G n.slot=some n.ty
def sq(G:mX)(ts:List Ty):List Nd→Prop
 |[]=>True
 |n::l=>wU G ts n∧sq G ts l
theorem sq.mem: ∀{l:List Nd},sq G ts l→ ∀n∈l,wU G ts n
 |_::_,⟨h,_⟩,_,.head _=>h
 |_::_,⟨_,h⟩,_,.tail _ hm=>sq.mem h _ hm
def O5(o:Oper):Nat:=o.dst.getD 0
def gm(i:Nat)(o:Oper):Bool:=o.after.toList.all fun e=> !(Region.binds .any e)||Nat.blt e.on i
def DR(E:En)(O:List OE)(G:mX)(l:List Oper)(ts:List Ty):Nat→List Oper→Prop
 |_,[]=>True
 |i,o::rest=>(∃(needs:List Nd) (t:Ty),ts[i]? =some t∧sq G ts needs∧(needs.all (rr l o i))=true∧gm i o=true∧cM E O l.toArray (kN needs) o t)∧DR E O G l ts (i+1) rest
def uf(N:Nat):List Nat→List Oper→Bool
 |_,[]=>true
 |seen,o::rest=>(match o.dst with|some d=>Nat.blt d N&& !(seen.any (Nat.beq d))&&uf N (d::seen) rest|none=>false)
def VU(E:En)(O:List OE)(G:mX)(l:List Oper)(ts:List Ty)(i:Nat)(o:Oper):Prop:=
 ∃(needs:List Nd) (t:Ty),ts[i]? =some t∧sq G ts needs∧(needs.all (rr l o i))=true∧gm i o=true∧cM E O l.toArray (kN needs) o t
theorem DR.get{E:En}{l:List Oper}(r:List Oper): ∀(k:Nat),DR E O G l ts k r→ ∀(j:Nat) (o:Oper),r[j]? =some o→VU E O G l ts (k+j) o:=by
 induction r with
 |nil=>intro k _ j o h;simp at h
 |cons p r ih=>
  intro k h j o ho
  cases j with
  |zero=>simp at ho;subst ho;exact h.1
  |succ j=>
   have:=ih (k+1) h.2 j o (by simpa using ho)
   rwa [show k+1+j=k+(j+1)from by omega]at this
theorem vu{N:Nat}(l:List Oper): ∀(seen:List Nat),uf N seen l=true→
  (∀o:Oper,o∈l→ ∃d,o.dst=some d∧d<N∧d∉seen)∧ ∀(i j:Nat) (o p:Oper),l[i]? =some o→l[j]? =some p→o.dst=p.dst→i=j:=by
 induction l with
 |nil=>exact fun _ _=>⟨fun _ h=>(by cases h),fun _ _ _ _ h=>(by simp at h)⟩
 |cons o l ih=>
  intro seen h
  unfold uf at h
  cases hd:o.dst with
  |none=>rw [hd]at h;cases h
  |some d=>
   rw [hd]at h
   simp only [gX,DD]at h
   obtain⟨⟨h1,h2⟩,h3⟩:=h
   have h2' :d∉seen:=fun hm=>by
    rw [List.any_eq_false]at h2
    exact h2 d hm (by simp)
   obtain⟨ih1,ih2⟩:=ih _ h3
   refine⟨fun q hq=>?_,fun i j q p hi hj hdp=>?_⟩
   ·rcases jW.1 hq with rfl|hq
    ·exact⟨d,hd,by simpa [tZ] using h1,h2'⟩
    ·obtain⟨d',e1,e2,e3⟩:=ih1 q hq
     exact⟨d',e1,e2,fun hm=>e3 (oO _ hm)⟩
   ·cases i with
    |zero=>
     cases j with
     |zero=>rfl
     |succ j=>
      simp at hi hj
      subst hi
      obtain⟨d',e1,_,e3⟩:=ih1 p (qM hj)
      rw [hd,e1]at hdp
      have e4:d=d' :=by simpa using hdp
      exact absurd (by rw [e4];exact nf ..) e3
    |succ i=>
     cases j with
     |zero=>
      simp at hi hj
      subst hj
      obtain⟨d',e1,_,e3⟩:=ih1 q (qM hi)
      rw [hd,e1]at hdp
      have e4:d' =d:=by simpa using hdp
      exact absurd (by rw [e4];exact nf ..) e3
     |succ j=>rw [ih2 i j q p (by simpa using hi) (by simpa using hj) hdp]

structure DJ(E:En)(O:List OE)(G:mX)(l:List Oper)(ts:List Ty)(done:Array Bool)(a:Act)(w:World)(S:SH):Prop where
 ext:kj E.B E.w0 E.S0 w S
 sat:lI w S
 own:fR E.base E.B w S O
 size:a.tmps.size=E.N.n
 defers:a.defers=E.N.ds
 dsz:done.size=l.length
 down: ∀j o,l[j]? =some o→done.getD j false=true→ ∀e∈o.after,Region.binds .any e=true→done.getD e.on false=true
 old: ∀k t,d9 G k=some t→(∀j o,l[j]? =some o→done.getD j false=true→o.dst≠some k)→t.p S (a.tmps.getD k undef)
 new: ∀j o d t,l[j]? =some o→done.getD j false=true→o.dst=some d→ts[j]? =some t→t.p S (a.tmps.getD d undef)
variable{done:Array Bool}
theorem DJ.need{E:En}{l:List Oper}(h:DJ E O G l ts done a w S)(hi:l[i]? =some o)(hun:done.getD i true=false)(hwait: ∀e∈o.after,Region.binds .any e=true→done.getD e.on false=true){needs:List Nd}(h1:sq G ts needs)(h2:(needs.all (rr l o i))=true):cT E.N S a (kN needs):=by
 have hlt:i<done.size:=by rw [h.dsz];exact(kF.1 hi).1
 have hun' :done.getD i false=false:=by
  simp [hlt]at hun ⊢;exact hun
 refine⟨h.size,h.defers,?_⟩
 have key: ∀n∈needs,n.ty.p S (a.tmps.getD n.slot undef):=by
  intro n hn
  have hs:=pq.1 h2 n hn
  have ho:=h1.mem n hn
  unfold rr at hs
  unfold wU at ho
  cases hsrc:n.src with
  |some j=>
   rw [hsrc]at hs ho
   simp only [gX]at hs
   obtain⟨hs1,hs2⟩:=hs
   cases hj:l[j]? with
   |none=>rw [hj]at hs1;cases hs1
   |some p=>
    rw [hj]at hs1
    cases hd:p.dst with
    |none=>simp only [hd]at hs1;cases hs1
    |some d=>
     simp only [hd]at hs1
     have hd' :=q7 hs1
     subst hd'
     have hdone:done.getD j false=true:=by
      unfold CV at hs2
      obtain⟨e,he0,hb⟩:=CP.1 hs2
      have he:e∈o.after:=by simpa using he0
      simp only [gX]at hb
      have:=hwait e he hb.2
      rwa [q7 hb.1]at this
     exact h.new j p n.slot n.ty hj hdone hd ho
  |none=>
   rw [hsrc]at hs ho
   refine h.old _ _ ho fun j p hj hdone hd=>?_
   have:=pq.1 hs p (qM hj)
   simp only [hd,Nat.beq_refl,uY,vj]at this
   unfold CV at this
   obtain⟨e,he0,hb⟩:=CP.1 this
   have he:e∈p.after:=by simpa using he0
   simp only [gX]at hb
   have h3:=h.down j p hj hdone e he hb.2
   rw [q7 hb.1]at h3
   rw [h3]at hun'
   cases hun'
 clear h1 h2
 intro k t hk
 induction needs with
 |nil=>simp [kN,d9]at hk
 |cons n needs ih=>
  unfold kN d9 at hk
  by_cases hb:Nat.beq n.slot k=true
  ·rw [hb]at hk
   have:=q7 hb
   subst this
   have e:n.ty=t:=by simpa using hk
   rw [←e]
   exact key n (nf ..)
  ·rw [Ac]at hb
   rw [hb]at hk
   exact ih (fun m hm=>key m (oO _ hm)) hk
def Hz:List Oper→List Ty→mX→mX
 |o::l,t::ts,G=>(O5 o,t)::Hz l ts G
 |_,_,G=>G
theorem Dj(l:List Oper): ∀(ts:List Ty) (k:Nat) (t:Ty),(∀o:Oper,o∈l→o.dst≠none)→ts.length=l.length→d9 (Hz l ts G) k=some t→
  (∃(j:Nat) (o:Oper),l[j]? =some o∧o.dst=some k∧ts[j]? =some t)∨(d9 G k=some t∧ ∀o:Oper,o∈l→o.dst≠some k):=by
 induction l with
 |nil=>
  intro ts k t _ hl h
  have:ts=[]:=tv (by simpa using hl)
  subst this
  exact .inr ⟨h,fun _ h=>(by cases h)⟩
 |cons o l ih=>
  intro ts k t hne hl h
  cases ts with
  |nil=>simp at hl
  |cons u ts=>
   unfold Hz d9 at h
   by_cases hb:Nat.beq (O5 o) k=true
   ·rw [hb]at h
    have hk:=q7 hb
    refine .inl ⟨0,o,rfl,?_,by simpa using h⟩
    cases hd:o.dst with
    |none=>exact absurd hd (hne o (nf ..))
    |some d=>simp only [O5,hd,Option.getD_some]at hk;rw [hk]
   ·rw [Ac]at hb
    rw [hb]at h
    rcases ih ts k t (fun p hp=>hne p (oO _ hp)) (by simpa using hl) h with⟨j,p,h1,h2,h3⟩|⟨h1,h2⟩
    ·exact .inl ⟨j+1,p,by simpa using h1,h2,by simpa using h3⟩
    ·refine .inr ⟨h1,fun p hp hd=>?_⟩
     rcases jW.1 hp with rfl|hp
     ·simp [O5,hd]at hb
     ·exact h2 p hp hd
theorem wp(hd:d<a.tmps.size):(a.put (some d) v).tmps.getD k undef=if d=k then v else a.tmps.getD k undef:=by
 by_cases h:d=k
 ·subst h;simp [Act.put,G8,hd]
 ·simp [Act.put,G8,h]
theorem DJ.step{E:En}{l:List Oper}(h:DJ E O G l ts done a w S)(hsl:uf E.N.n [] l=true)(hi:l[i]? =some o)(hwait: ∀e∈o.after,Region.binds .any e=true→done.getD e.on false=true)(ht:ts[i]? =some t)(hun:done.getD i true=false)(hext:kj tN w S w' S')(hsat:lI w' S')(hv:t.p S' v):DJ E O G l ts (done.setIfInBounds i true) (a.put o.dst v) w' S' :=by
 obtain⟨hs1,hs2⟩:=vu l [] hsl
 obtain⟨d,hd,hdN,_⟩:=hs1 o (qM hi)
 have hda:d<a.tmps.size:=by rw [h.size];exact hdN
 have hlt:i<done.size:=by rw [h.dsz];exact(kF.1 hi).1
 have hset: ∀j,(done.setIfInBounds i true).getD j false=true→j=i∨done.getD j false=true:=fun j hj=>by
  by_cases hij:i=j
  ·exact .inl hij.symm
  ·rw [zC false hij]at hj;exact .inr hj
 have hseti:(done.setIfInBounds i true).getD i false=true:=by simp [hlt]
 have hun' :done.getD i false=false:=by simp [hlt]at hun ⊢;exact hun
 refine⟨h.ext.step0 hext,hsat,h.own.ext0 hext,?_,?_,by simp [h.dsz],fun j p hj hdone e he hb=>?_,fun k u hk hno=>?_,fun j p d' u hj hdone hd' hu=>?_⟩
 ·rw [hd];simp [Act.put,h.size]
 ·rw [hd];exact h.defers
 ·rcases hset j hdone with rfl|hj'
  ·rw [hi]at hj
   have:o=p:=by simpa using hj
   subst this
   exact vh (hwait e he hb)
  ·exact vh (h.down j p hj hj' e he hb)
 ·have hne:d≠k:=fun e=>hno i o hi hseti (by rw [hd,e])
  rw [hd,wp hda,aW hne]
  exact u.mono hext.keep (h.old k u hk fun j p hj hdone=>hno j p hj (vh hdone))
 ·rw [hd,wp hda]
  rcases hset j hdone with rfl|hj'
  ·rw [hi]at hj
   have:o=p:=by simpa using hj
   subst this
   rw [hd]at hd'
   have:d=d' :=by simpa using hd'
   subst this
   rw [bq rfl]
   rw [ht]at hu
   have:t=u:=by simpa using hu
   subst this
   exact hv
  ·have hne:d≠d' :=fun e=>by
    subst e
    have:=hs2 i j o p hi hj (by rw [hd,hd'])
    subst this
    rw [hj']at hun';cases hun'
   rw [aW hne]
   exact u.mono hext.keep (h.new j p d' u hj hj' hd' hu)
theorem GK{l:List Oper}{done:Array Bool}(hsz:done.size=l.length)(hedge: ∀i o,l[i]? =some o→gm i o=true)(hr:Region.ready .any l.toArray done=[]): ∀n i,i<n→i<l.length→done.getD i false=true
 |0,i,h,_=>by omega
 |n+1,i,h,hi=>by
  have ih:=GK hsz hedge hr n
  by_cases hd:done.getD i true=true
  ·have:i<done.size:=by omega
   simp [this]at hd ⊢;exact hd
  ·exfalso
   have hmem:i∈Region.ready .any l.toArray done:=by
    rw [uN]
    refine⟨by simpa using hd,l[i],by simp [hi],fun e he hb=>?_⟩
    have:=hedge i l[i] (by simp [hi])
    unfold gm at this
    have:=pq.1 this e (by simpa using he)
    simp only [hb,uY,vj,tZ]at this
    exact ih e.on (by omega) (by omega)
   rw [hr]at hmem
   cases hmem
def nk(done:Array Bool):Nat:=done.toList.countP (· ==false)
theorem rQ(h:done.getD i true=false):nk (done.setIfInBounds i true)+1=nk done:=by
 have hlt:i<done.size:=by
  rcases oZ i done.size with h' |h'
  ·exact h'
  ·simp [Array.getElem?_eq_none h']at h
 have hv:done[i]=false:=by simpa [hlt] using h
 unfold nk
 rw [Array.toList_setIfInBounds,List.countP_set (by simpa using hlt)]
 have h2:(done.toList[i]'(by simpa using hlt))=false:=by simpa using hv
 have hpos:0<done.toList.countP (· ==false):=List.countP_pos_iff.2 ⟨done.toList[i]'(by simpa using hlt),CQ _,by rw [h2];rfl⟩
 rw [h2,bq (show(false==false)=true from rfl),aW (show¬((true==false)=true) by decide)]
 omega
theorem Hc{E:En}{l:List Oper}(hsl:uf E.N.n [] l=true)(hd:DR E O G l ts 0 l)(hQ: ∀done a w S,DJ E O G l ts done a w S→(∀i,i<l.length→done.getD i false=true)→Q .normal a w):
  ∀(fuel:Nat) (done:Array Bool) (a:Act) (w:World) (S:SH),nk done=fuel→DJ E O G l ts done a w S→wpAnyIn (fw E.r) 0 E.P .any l.toArray Q fuel done a w:=by
 have hedge: ∀i o,l[i]? =some o→gm i o=true:=fun i o hi=>by
  obtain⟨_,_,_,_,_,h,_⟩:=DR.get l 0 hd i o hi
  simpa using h
 have fin: ∀done a w S,DJ E O G l ts done a w S→Region.ready .any l.toArray done=[]→Q .normal a w:=fun done a w S h hr=>
  hQ done a w S h fun i hi=>GK h.dsz hedge hr (i+1) i (by omega) hi
 intro fuel
 induction fuel with
 |zero=>
  intro done a w S hu h
  have hr:Region.ready .any l.toArray done=[]:=by
   cases hr:Region.ready .any l.toArray done with
   |nil=>rfl
   |cons i r=>
    have hm:i∈Region.ready .any l.toArray done:=by rw [hr];exact nf ..
    have:=rQ (uN.1 hm).1
    omega
  exact⟨hr,fin done a w S h hr⟩
 |succ fuel ih=>
  intro done a w S hu h
  refine⟨fin done a w S h,fun i hi=>?_⟩
  obtain⟨hun,o,ho,hwait⟩:=uN.1 hi
  have ho' :l[i]? =some o:=by simpa using ho
  obtain⟨needs,t,h1,h2,h3,_,h5⟩:=DR.get l 0 hd i o ho'
  rw [va]at h1 h3
  have hF:=h.need ho' hun hwait h2 h3
  have h6:=h5 a w S h.sat h.own hF
  have hu' :nk (done.setIfInBounds i true)=fuel:=by have:=rQ hun;omega
  unfold wpOpIn
  rw [ho]
  show if _ then _ else _
  by_cases hw:Region.wanted o (yielded l.toArray a.tmps)=true
  ·rw [bq hw]at h6 ⊢
   refine nX (fun a' w' ⟨v,S',ha,he,hs,hv⟩=>?_) h6
   subst ha
   exact ih _ _ _ S' hu' (h.step hsl ho' hwait h1 hun he hs hv)
  ·rw [aW hw]at h6 ⊢
   exact⟨fun _ _=>trivial,ih _ _ _ S hu' (h.step hsl ho' hwait h1 hun (kU _ _ _) h.sat h6)⟩
section
variable{E:En}
theorem fq{id:Nat}{l:List Oper}(hm:E.P.follows .mixedOrders=true)(hsl:uf E.N.n [] l=true)(hlen:ts.length=l.length)(hd:DR E O G l ts 0 l)(k:AT E Q .normal O (Hz l ts G)):
  CG E Q (.region id l.toArray true) O G:=fun a w S st=>by
 refine wpIn_region_any hm ?_
 obtain⟨he,hs⟩:=yQ (w:=w) st.sat
 refine Hc hsl hd (fun done a w S h hall=>k a w S ⟨h.ext,h.sat,h.own,h.size,h.defers,fun j t hj=>?_⟩) _ _ _ _ S ?_
  ⟨st.ext.step0 he,hs,st.own.ext0 he,st.facts.size,st.facts.defers,by simp,fun j o hj hdone=>?_,fun k t hk _=>st.facts.at_ k t hk,fun j o d t hj hdone=>?_⟩
 ·obtain⟨hs1,_⟩:=vu l [] hsl
  rcases Dj l ts j t (fun o ho e=>by obtain⟨d,hd,_⟩:=hs1 o ho;rw [hd]at e;cases e) hlen hj with⟨i,o,h1,h2,h3⟩|⟨h1,h2⟩
  ·exact h.new i o j t h1 (hall i (kF.1 h1).1) h2 h3
  ·exact h.old j t h1 fun i o ho _=>h2 o (qM ho)
 ·unfold nk;rw [Array.toList_replicate,List.countP_replicate];simp
 ·simp [Cl]at hdone
  split at hdone<;>simp at hdone
 ·simp [Cl]at hdone
  split at hdone<;>simp at hdone
theorem aB{need:mX}(hg:o.guard=none)(h:cE E O need o t):cM E O ops need o t:=fun a w S hs ho hf=>by
 have:Region.wanted o (yielded ops a.tmps)=true:=by unfold Region.wanted;rw [hg]
 rw [this,bq rfl]
 exact h a w S hs ho hf
theorem zZ{l:List Oper}{need:mX}{c:Bool}(hg:o.guard=some (j,pol))(hj:((l.toArray)[j]?).bind (·.dst)=some gs)(hgs:Nat.blt gs E.N.n=true)(hb:aK E.N need (.tmp gs) (sQ c b))(h:(c&&(b==pol))=true→cE E O need o t):cM E O l.toArray need o (s6 (c&&(b==pol)) t):=fun a w S hs ho hf=>by
 have hw:=uc (ops:=l.toArray) hg hj (by rw [hf.size];simpa [tZ] using hgs) (hb S a hf)
 rw [hw]
 by_cases hc:(c&&(b==pol))=true
 ·rw [bq hc]
  refine oh (fun a' w' ⟨v,S',ha,he,hs,hv⟩=>⟨v,S',ha,he,hs,?_⟩) (h hc a w S hs ho hf)
  show if _ then _ else _
  rw [bq hc];exact hv
 ·rw [aW hc]
  show if _ then _ else _
  rw [aW hc]
end
variable{α0:Type}{Gf:α0→mX}{Of:α0→List OE}{α1 α2 α3 α4 α5 α6:Type}
section
variable{E:En}
theorem KP{id:Nat}{Z:Prop}{Of:List OE}{Gf:mX}(hK:Z→AT E Q .normal (Of) (Gf))(h:(Z→AT E Q .normal (Of) (Gf))→CG E (Exit.inBlock id Q) c O G):CG E Q (.block id c) O G:=ak (h hK)
theorem KI{x y:Code}{Z:Prop}{Of:List OE}{Gf:mX}(hK:Z→CG E Q y (Of) (Gf))
  (h:(Z→AT E (Exit.then (y.wpIn (fw E.r) 0 E.P Q) Q) .normal (Of) (Gf))→CG E (Exit.then (y.wpIn (fw E.r) 0 E.P Q) Q) x O G):CG E Q (.seq x y) O G:=aa (h (fun hz=>hK hz))
theorem wO{Z:Nat→α0→Prop}(h0: ∀x0,Z 0 x0→False)(h: ∀n,(∀x0,Z n x0→LG E Q c (Of x0) (Gf x0))→ ∀x0,Z (n+1) x0→LG E Q c (Of x0) (Gf x0)): ∀n,∀x0,Z n x0→LG E Q c (Of x0) (Gf x0)
 |0=>fun x0 hz=>(h0 x0 hz).elim
 |n+1=>h n (wO h0 h n)
theorem dv{Z:List β→α0→Prop}{Of:List β→α0→List OE}{Gf:List β→α0→mX}(h0: ∀x0,Z [] x0→LG E Q c (Of [] x0) (Gf [] x0))(h: ∀b l,(∀x0,Z l x0→LG E Q c (Of l x0) (Gf l x0))→ ∀x0,Z (b::l) x0→LG E Q c (Of (b::l) x0) (Gf (b::l) x0)): ∀l,∀x0,Z l x0→LG E Q c (Of l x0) (Gf l x0)
 |[]=>h0
 |b::l=>h b l (dv h0 h l)
theorem DB{id:Nat}{Z:α0→Prop}(hK: ∀x0,Z x0→AT E Q .normal (Of x0) (Gf x0))(h:(∀x0,Z x0→AT E Q .normal (Of x0) (Gf x0))→CG E (Exit.inBlock id Q) c O G):CG E Q (.block id c) O G:=ak (h hK)
theorem dj{x y:Code}{Z:α0→Prop}(hK: ∀x0,Z x0→CG E Q y (Of x0) (Gf x0))(h:(∀x0,Z x0→AT E (Exit.then (y.wpIn (fw E.r) 0 E.P Q) Q) .normal (Of x0) (Gf x0))→CG E (Exit.then (y.wpIn (fw E.r) 0 E.P Q) Q) x O G):CG E Q (.seq x y) O G:=aa (h (fun x0=>fun hz=>hK x0 hz))
theorem wN{Z:Nat→α0→α1→Prop}{Of:α0→α1→List OE}{Gf:α0→α1→mX}(h0: ∀x0 x1,Z 0 x0 x1→False)(h: ∀n,(∀x0 x1,Z n x0 x1→LG E Q c (Of x0 x1) (Gf x0 x1))→ ∀x0 x1,Z (n+1) x0 x1→LG E Q c (Of x0 x1) (Gf x0 x1)): ∀n,∀x0 x1,Z n x0 x1→LG E Q c (Of x0 x1) (Gf x0 x1)
 |0=>fun x0 x1 hz=>(h0 x0 x1 hz).elim
 |n+1=>h n (wN h0 h n)
theorem q5{Z:List β→α0→α1→Prop}{Of:List β→α0→α1→List OE}{Gf:List β→α0→α1→mX}(h0: ∀x0 x1,Z [] x0 x1→LG E Q c (Of [] x0 x1) (Gf [] x0 x1))(h: ∀b l,(∀x0 x1,Z l x0 x1→LG E Q c (Of l x0 x1) (Gf l x0 x1))→ ∀x0 x1,Z (b::l) x0 x1→LG E Q c (Of (b::l) x0 x1) (Gf (b::l) x0 x1)): ∀l,∀x0 x1,Z l x0 x1→LG E Q c (Of l x0 x1) (Gf l x0 x1)
 |[]=>h0
 |b::l=>h b l (q5 h0 h l)
theorem zB{x y:Code}{Z:α0→α1→Prop}{Of:α0→α1→List OE}{Gf:α0→α1→mX}(hK: ∀x0 x1,Z x0 x1→CG E Q y (Of x0 x1) (Gf x0 x1))(h:(∀x0 x1,Z x0 x1→AT E (Exit.then (y.wpIn (fw E.r) 0 E.P Q) Q) .normal (Of x0 x1) (Gf x0 x1))→CG E (Exit.then (y.wpIn (fw E.r) 0 E.P Q) Q) x O G):CG E Q (.seq x y) O G:=aa (h (fun x0 x1=>fun hz=>hK x0 x1 hz))
theorem B4{Z:List β→α0→α1→α2→Prop}{Of:List β→α0→α1→α2→List OE}{Gf:List β→α0→α1→α2→mX}(h0: ∀x0 x1 x2,Z [] x0 x1 x2→LG E Q c (Of [] x0 x1 x2) (Gf [] x0 x1 x2))(h: ∀b l,(∀x0 x1 x2,Z l x0 x1 x2→LG E Q c (Of l x0 x1 x2) (Gf l x0 x1 x2))→ ∀x0 x1 x2,Z (b::l) x0 x1 x2→LG E Q c (Of (b::l) x0 x1 x2) (Gf (b::l) x0 x1 x2)): ∀l,∀x0 x1 x2,Z l x0 x1 x2→LG E Q c (Of l x0 x1 x2) (Gf l x0 x1 x2)
 |[]=>h0
 |b::l=>h b l (B4 h0 h l)
theorem EQ{Z:Nat→α0→α1→α2→Prop}{Of:Nat→α0→α1→α2→List OE}{Gf:Nat→α0→α1→α2→mX}(h0: ∀x0 x1 x2,Z 0 x0 x1 x2→LG E Q c (Of 0 x0 x1 x2) (Gf 0 x0 x1 x2))(h: ∀n,(∀x0 x1 x2,Z n x0 x1 x2→LG E Q c (Of n x0 x1 x2) (Gf n x0 x1 x2))→ ∀x0 x1 x2,Z (n+1) x0 x1 x2→LG E Q c (Of (n+1) x0 x1 x2) (Gf (n+1) x0 x1 x2)): ∀n,∀x0 x1 x2,Z n x0 x1 x2→LG E Q c (Of n x0 x1 x2) (Gf n x0 x1 x2)
 |0=>h0
 |n+1=>h n (EQ h0 h n)
theorem wP{x y:Code}{Z:α0→α1→α2→Prop}{Of:α0→α1→α2→List OE}{Gf:α0→α1→α2→mX}(hK: ∀x0 x1 x2,Z x0 x1 x2→CG E Q y (Of x0 x1 x2) (Gf x0 x1 x2))(h:(∀x0 x1 x2,Z x0 x1 x2→AT E (Exit.then (y.wpIn (fw E.r) 0 E.P Q) Q) .normal (Of x0 x1 x2) (Gf x0 x1 x2))→CG E (Exit.then (y.wpIn (fw E.r) 0 E.P Q) Q) x O G):CG E Q (.seq x y) O G:=aa (h (fun x0 x1 x2=>fun hz=>hK x0 x1 x2 hz))
theorem oX{Z:Nat→α0→α1→α2→α3→Prop}{Of:α0→α1→α2→α3→List OE}{Gf:α0→α1→α2→α3→mX}(h0: ∀x0 x1 x2 x3,Z 0 x0 x1 x2 x3→False)(h: ∀n,(∀x0 x1 x2 x3,Z n x0 x1 x2 x3→LG E Q c (Of x0 x1 x2 x3) (Gf x0 x1 x2 x3))→ ∀x0 x1 x2 x3,Z (n+1) x0 x1 x2 x3→LG E Q c (Of x0 x1 x2 x3) (Gf x0 x1 x2 x3)): ∀n,∀x0 x1 x2 x3,Z n x0 x1 x2 x3→LG E Q c (Of x0 x1 x2 x3) (Gf x0 x1 x2 x3)
 |0=>fun x0 x1 x2 x3 hz=>(h0 x0 x1 x2 x3 hz).elim
 |n+1=>h n (oX h0 h n)
theorem gF{Z:List β→α0→α1→α2→α3→Prop}{Of:List β→α0→α1→α2→α3→List OE}{Gf:List β→α0→α1→α2→α3→mX}(h0: ∀x0 x1 x2 x3,Z [] x0 x1 x2 x3→LG E Q c (Of [] x0 x1 x2 x3) (Gf [] x0 x1 x2 x3))(h: ∀b l,(∀x0 x1 x2 x3,Z l x0 x1 x2 x3→LG E Q c (Of l x0 x1 x2 x3) (Gf l x0 x1 x2 x3))→ ∀x0 x1 x2 x3,Z (b::l) x0 x1 x2 x3→LG E Q c (Of (b::l) x0 x1 x2 x3) (Gf (b::l) x0 x1 x2 x3)): ∀l,∀x0 x1 x2 x3,Z l x0 x1 x2 x3→LG E Q c (Of l x0 x1 x2 x3) (Gf l x0 x1 x2 x3)
 |[]=>h0
 |b::l=>h b l (gF h0 h l)
theorem KO{id:Nat}{Z:α0→α1→α2→α3→Prop}{Of:α0→α1→α2→α3→List OE}{Gf:α0→α1→α2→α3→mX}(hK: ∀x0 x1 x2 x3,Z x0 x1 x2 x3→AT E Q .normal (Of x0 x1 x2 x3) (Gf x0 x1 x2 x3))(h:(∀x0 x1 x2 x3,Z x0 x1 x2 x3→AT E Q .normal (Of x0 x1 x2 x3) (Gf x0 x1 x2 x3))→CG E (Exit.inBlock id Q) c O G):CG E Q (.block id c) O G:=ak (h hK)
theorem AI{Z:Nat→α0→α1→α2→α3→α4→Prop}{Of:α0→α1→α2→α3→α4→List OE}{Gf:α0→α1→α2→α3→α4→mX}(h0: ∀x0 x1 x2 x3 x4,Z 0 x0 x1 x2 x3 x4→False)(h: ∀n,(∀x0 x1 x2 x3 x4,Z n x0 x1 x2 x3 x4→LG E Q c (Of x0 x1 x2 x3 x4) (Gf x0 x1 x2 x3 x4))→ ∀x0 x1 x2 x3 x4,Z (n+1) x0 x1 x2 x3 x4→LG E Q c (Of x0 x1 x2 x3 x4) (Gf x0 x1 x2 x3 x4)): ∀n,∀x0 x1 x2 x3 x4,Z n x0 x1 x2 x3 x4→LG E Q c (Of x0 x1 x2 x3 x4) (Gf x0 x1 x2 x3 x4)
 |0=>fun x0 x1 x2 x3 x4 hz=>(h0 x0 x1 x2 x3 x4 hz).elim
 |n+1=>h n (AI h0 h n)
theorem wc{Z:List β→α0→α1→α2→α3→α4→Prop}{Of:List β→α0→α1→α2→α3→α4→List OE}{Gf:List β→α0→α1→α2→α3→α4→mX}(h0: ∀x0 x1 x2 x3 x4,Z [] x0 x1 x2 x3 x4→LG E Q c (Of [] x0 x1 x2 x3 x4) (Gf [] x0 x1 x2 x3 x4))(h: ∀b l,(∀x0 x1 x2 x3 x4,Z l x0 x1 x2 x3 x4→LG E Q c (Of l x0 x1 x2 x3 x4) (Gf l x0 x1 x2 x3 x4))→ ∀x0 x1 x2 x3 x4,Z (b::l) x0 x1 x2 x3 x4→LG E Q c (Of (b::l) x0 x1 x2 x3 x4) (Gf (b::l) x0 x1 x2 x3 x4)): ∀l,∀x0 x1 x2 x3 x4,Z l x0 x1 x2 x3 x4→LG E Q c (Of l x0 x1 x2 x3 x4) (Gf l x0 x1 x2 x3 x4)
 |[]=>h0
 |b::l=>h b l (wc h0 h l)
theorem EP{Z:Nat→α0→α1→α2→α3→α4→Prop}{Of:Nat→α0→α1→α2→α3→α4→List OE}{Gf:Nat→α0→α1→α2→α3→α4→mX}(h0: ∀x0 x1 x2 x3 x4,Z 0 x0 x1 x2 x3 x4→LG E Q c (Of 0 x0 x1 x2 x3 x4) (Gf 0 x0 x1 x2 x3 x4))(h: ∀n,(∀x0 x1 x2 x3 x4,Z n x0 x1 x2 x3 x4→LG E Q c (Of n x0 x1 x2 x3 x4) (Gf n x0 x1 x2 x3 x4))→ ∀x0 x1 x2 x3 x4,Z (n+1) x0 x1 x2 x3 x4→LG E Q c (Of (n+1) x0 x1 x2 x3 x4) (Gf (n+1) x0 x1 x2 x3 x4)): ∀n,∀x0 x1 x2 x3 x4,Z n x0 x1 x2 x3 x4→LG E Q c (Of n x0 x1 x2 x3 x4) (Gf n x0 x1 x2 x3 x4)
 |0=>h0
 |n+1=>h n (EP h0 h n)
theorem KN{id:Nat}{Z:α0→α1→α2→α3→α4→Prop}{Of:α0→α1→α2→α3→α4→List OE}{Gf:α0→α1→α2→α3→α4→mX}(hK: ∀x0 x1 x2 x3 x4,Z x0 x1 x2 x3 x4→AT E Q .normal (Of x0 x1 x2 x3 x4) (Gf x0 x1 x2 x3 x4))(h:(∀x0 x1 x2 x3 x4,Z x0 x1 x2 x3 x4→AT E Q .normal (Of x0 x1 x2 x3 x4) (Gf x0 x1 x2 x3 x4))→CG E (Exit.inBlock id Q) c O G):CG E Q (.block id c) O G:=ak (h hK)
theorem GQ{Z:List β→α0→α1→α2→α3→α4→α5→Prop}{Of:List β→α0→α1→α2→α3→α4→α5→List OE}{Gf:List β→α0→α1→α2→α3→α4→α5→mX}(h0: ∀x0 x1 x2 x3 x4 x5,Z [] x0 x1 x2 x3 x4 x5→LG E Q c (Of [] x0 x1 x2 x3 x4 x5) (Gf [] x0 x1 x2 x3 x4 x5))(h: ∀b l,(∀x0 x1 x2 x3 x4 x5,Z l x0 x1 x2 x3 x4 x5→LG E Q c (Of l x0 x1 x2 x3 x4 x5) (Gf l x0 x1 x2 x3 x4 x5))→ ∀x0 x1 x2 x3 x4 x5,Z (b::l) x0 x1 x2 x3 x4 x5→LG E Q c (Of (b::l) x0 x1 x2 x3 x4 x5) (Gf (b::l) x0 x1 x2 x3 x4 x5)): ∀l,∀x0 x1 x2 x3 x4 x5,Z l x0 x1 x2 x3 x4 x5→LG E Q c (Of l x0 x1 x2 x3 x4 x5) (Gf l x0 x1 x2 x3 x4 x5)
 |[]=>h0
 |b::l=>h b l (GQ h0 h l)
theorem KM{id:Nat}{Z:α0→α1→α2→α3→α4→α5→Prop}{Of:α0→α1→α2→α3→α4→α5→List OE}{Gf:α0→α1→α2→α3→α4→α5→mX}(hK: ∀x0 x1 x2 x3 x4 x5,Z x0 x1 x2 x3 x4 x5→AT E Q .normal (Of x0 x1 x2 x3 x4 x5) (Gf x0 x1 x2 x3 x4 x5))(h:(∀x0 x1 x2 x3 x4 x5,Z x0 x1 x2 x3 x4 x5→AT E Q .normal (Of x0 x1 x2 x3 x4 x5) (Gf x0 x1 x2 x3 x4 x5))→CG E (Exit.inBlock id Q) c O G):CG E Q (.block id c) O G:=ak (h hK)
theorem B3{Z:List β→α0→α1→α2→α3→α4→α5→α6→Prop}{Of:List β→α0→α1→α2→α3→α4→α5→α6→List OE}{Gf:List β→α0→α1→α2→α3→α4→α5→α6→mX}(h0: ∀x0 x1 x2 x3 x4 x5 x6,Z [] x0 x1 x2 x3 x4 x5 x6→LG E Q c (Of [] x0 x1 x2 x3 x4 x5 x6) (Gf [] x0 x1 x2 x3 x4 x5 x6))(h: ∀b l,(∀x0 x1 x2 x3 x4 x5 x6,Z l x0 x1 x2 x3 x4 x5 x6→LG E Q c (Of l x0 x1 x2 x3 x4 x5 x6) (Gf l x0 x1 x2 x3 x4 x5 x6))→ ∀x0 x1 x2 x3 x4 x5 x6,Z (b::l) x0 x1 x2 x3 x4 x5 x6→LG E Q c (Of (b::l) x0 x1 x2 x3 x4 x5 x6) (Gf (b::l) x0 x1 x2 x3 x4 x5 x6)): ∀l,∀x0 x1 x2 x3 x4 x5 x6,Z l x0 x1 x2 x3 x4 x5 x6→LG E Q c (Of l x0 x1 x2 x3 x4 x5 x6) (Gf l x0 x1 x2 x3 x4 x5 x6)
 |[]=>h0
 |b::l=>h b l (B3 h0 h l)
theorem tW{α7:Type}{Z:List β→α0→α1→α2→α3→α4→α5→α6→α7→Prop}{Of:List β→α0→α1→α2→α3→α4→α5→α6→α7→List OE}{Gf:List β→α0→α1→α2→α3→α4→α5→α6→α7→mX}(h0: ∀x0 x1 x2 x3 x4 x5 x6 x7,Z [] x0 x1 x2 x3 x4 x5 x6 x7→LG E Q c (Of [] x0 x1 x2 x3 x4 x5 x6 x7) (Gf [] x0 x1 x2 x3 x4 x5 x6 x7))(h: ∀b l,(∀x0 x1 x2 x3 x4 x5 x6 x7,Z l x0 x1 x2 x3 x4 x5 x6 x7→LG E Q c (Of l x0 x1 x2 x3 x4 x5 x6 x7) (Gf l x0 x1 x2 x3 x4 x5 x6 x7))→ ∀x0 x1 x2 x3 x4 x5 x6 x7,Z (b::l) x0 x1 x2 x3 x4 x5 x6 x7→LG E Q c (Of (b::l) x0 x1 x2 x3 x4 x5 x6 x7) (Gf (b::l) x0 x1 x2 x3 x4 x5 x6 x7)): ∀l,∀x0 x1 x2 x3 x4 x5 x6 x7,Z l x0 x1 x2 x3 x4 x5 x6 x7→LG E Q c (Of l x0 x1 x2 x3 x4 x5 x6 x7) (Gf l x0 x1 x2 x3 x4 x5 x6 x7)
 |[]=>h0
 |b::l=>h b l (tW h0 h l)
theorem yO{α7 α8:Type}{Z:List β→α0→α1→α2→α3→α4→α5→α6→α7→α8→Prop}{Of:List β→α0→α1→α2→α3→α4→α5→α6→α7→α8→List OE}{Gf:List β→α0→α1→α2→α3→α4→α5→α6→α7→α8→mX}(h0: ∀x0 x1 x2 x3 x4 x5 x6 x7 x8,Z [] x0 x1 x2 x3 x4 x5 x6 x7 x8→LG E Q c (Of [] x0 x1 x2 x3 x4 x5 x6 x7 x8) (Gf [] x0 x1 x2 x3 x4 x5 x6 x7 x8))(h: ∀b l,(∀x0 x1 x2 x3 x4 x5 x6 x7 x8,Z l x0 x1 x2 x3 x4 x5 x6 x7 x8→LG E Q c (Of l x0 x1 x2 x3 x4 x5 x6 x7 x8) (Gf l x0 x1 x2 x3 x4 x5 x6 x7 x8))→ ∀x0 x1 x2 x3 x4 x5 x6 x7 x8,Z (b::l) x0 x1 x2 x3 x4 x5 x6 x7 x8→LG E Q c (Of (b::l) x0 x1 x2 x3 x4 x5 x6 x7 x8) (Gf (b::l) x0 x1 x2 x3 x4 x5 x6 x7 x8)): ∀l,∀x0 x1 x2 x3 x4 x5 x6 x7 x8,Z l x0 x1 x2 x3 x4 x5 x6 x7 x8→LG E Q c (Of l x0 x1 x2 x3 x4 x5 x6 x7 x8) (Gf l x0 x1 x2 x3 x4 x5 x6 x7 x8)
 |[]=>h0
 |b::l=>h b l (yO h0 h l)
end
theorem bs{α:Type _}{β:Type _}{x:Option α}{k:α→Option β}{r:β}(h:x.bind k=some r): ∃y,x=some y∧k y=some r:=by
 cases x with
 |none=>cases h
 |some y=>exact⟨y,rfl,h⟩
theorem ct{β:Type _}{x y:Option β}{r:β}(h:(if b=true then x else y)=some r)(hb:b=true):x=some r:=by rwa [bq hb]at h
theorem cf{β:Type _}{x y:Option β}{r:β}(h:(if b=true then x else y)=some r)(hb:b=false):y=some r:=by rwa [aW (by rw [hb];decide)]at h
theorem so{β:Type _}{x r:β}(h:some x=some r):x=r:=by simpa using h
theorem og [Inhabited α]{x:Option α}{k:α→Option β}{d:Option β}{r:β}(h:(if b=true then x.bind k else d)=some r): ∃y,(b=true→x=some y∧k y=some r)∧(b=false→d=some r):=by
 cases b with
 |true=>obtain⟨y,h1,h2⟩:=bs (ct h rfl);exact⟨y,fun _=>⟨h1,h2⟩,fun e=>(by cases e)⟩
 |false=>exact⟨default,fun e=>(by cases e),fun _=>cf h rfl⟩

def ci{α β:Type}(p:Rp α)(q:Rp β):Rp (α×β) where
 sz:=p.sz+q.sz
 agg:=true
 rc:=fun S cs x=> ∃a b,cs=a++b∧p.rc S a x.1∧q.rc S b x.2
 mono:=fun h ⟨a,b,e,h1,h2⟩=>⟨a,b,e,p.mono h h1,q.mono h h2⟩
 len:=fun⟨a,b,e,h1,h2⟩=>by rw [e,lM,p.len h1,q.len h2]
 one:=fun⟨a,b,e,h1,h2⟩ c hc=>by
  rw [e]at hc
  rcases yS.1 hc with h|h
  ·exact p.one h1 c h
  ·exact q.one h2 c h
 sc:=fun h=>by cases h
def ne{α β:Type}(p:Rp α)(f:β→α):Rp β where
 sz:=p.sz
 agg:=true
 rc:=fun S cs x=>p.rc S cs (f x)
 mono:=fun h k=>p.mono h k
 len:=fun h=>p.len h
 one:=fun h=>p.one h
 sc:=fun h=>by cases h
theorem cn{p:Rp α}{f:β→α}:lK (ne p f) 0 p f:=fun S cs x h=>by
 have h' :p.rc S cs (f x):=h
 have hl:=p.len h'
 rw [xd,←hl,xN];exact h'
theorem dq{γ:Type}{p:Rp α}{r:Rp γ}{get:γ→α×β}(h:lK r off (ci p q) get):lK r off p (fun x=>(get x).1):=fun S cs x k=>by
 obtain⟨a,b,e,h1,h2⟩:=h S cs x k
 have hl:=p.len h1
 have hl2:=q.len h2
 have:(cs.drop off).take p.sz=a:=by
  have e2:=congrArg (List.take p.sz) e
  rw [z8,xI (by show p.sz≤p.sz+q.sz;omega),←hl,List.take_left]at e2
  rw [←hl];exact e2
 rw [this];exact h1
theorem aE{γ:Type}{p:Rp α}{r:Rp γ}{off' :Nat}{get:γ→α×β}(h:lK r off (ci p q) get)(ho:off' =off+p.sz):lK r off' q (fun x=>(get x).2):=fun S cs x k=>by
 obtain⟨a,b,e,h1,h2⟩:=h S cs x k
 have hl:=p.len h1
 have hl2:=q.len h2
 have:(cs.drop off').take q.sz=b:=by
  have e2:=congrArg (List.drop p.sz) e
  rw [zE,t6,←hl,List.drop_left]at e2
  rw [ho,←hl,←e2]
  congr 1
  show q.sz=p.sz+q.sz-a.length
  omega
 rw [this];exact h2

section
variable{E:En}
theorem Pk{op:Op}{ty:TypeId}(hj:(ops[j]?).bind (·.dst)=some gs)(hgs:Nat.blt gs E.N.n=true)(hg:d9 G gs=some (tD rB b))(hd:Nat.blt d E.N.n=true)(h:b=true→cE E O G ⟨some d,op,ty,pos,after,some (j,true)⟩ t)(k:RG E ops Q rest O ((d,s6 b t)::G)):RG E ops Q (⟨some d,op,ty,pos,after,some (j,true)⟩::rest) O G:=by
 have e:(true&&(b==true))=b:=by cases b<;>rfl
 exact EM hj hgs (pj hg) hd (by rw [e];exact h) (by rw [e];exact k)
theorem Pl{op:Op}{ty:TypeId}(hj:(ops[j]?).bind (·.dst)=some gs)(hgs:Nat.blt gs E.N.n=true)(hg:d9 G gs=some (tD rB b))(hd:Nat.blt d E.N.n=true)(h:(!b)=true→cE E O G ⟨some d,op,ty,pos,after,some (j,false)⟩ t)(k:RG E ops Q rest O ((d,s6 (!b) t)::G)):RG E ops Q (⟨some d,op,ty,pos,after,some (j,false)⟩::rest) O G:=by
 have e:(true&&(b==false))= !b:=by cases b<;>rfl
 exact EM hj hgs (pj hg) hd (by rw [e];exact h) (by rw [e];exact k)
theorem cP{c:Bool}{op:Op}{ty:TypeId}(hj:(ops[j]?).bind (·.dst)=some gs)(hgs:Nat.blt gs E.N.n=true)(hg:d9 G gs=some (s6 c (tD rB b)))(hd:Nat.blt d E.N.n=true)(h:(c&&b)=true→cE E O G ⟨some d,op,ty,pos,after,some (j,true)⟩ t)(k:RG E ops Q rest O ((d,s6 (c&&b) t)::G)):RG E ops Q (⟨some d,op,ty,pos,after,some (j,true)⟩::rest) O G:=by
 have e:(c&&(b==true))=(c&&b):=by cases b<;>rfl
 exact EM hj hgs (Dl hg) hd (by rw [e];exact h) (by rw [e];exact k)
theorem ck{c:Bool}{op:Op}{ty:TypeId}(hj:(ops[j]?).bind (·.dst)=some gs)(hgs:Nat.blt gs E.N.n=true)(hg:d9 G gs=some (s6 c (tD rB b)))(hd:Nat.blt d E.N.n=true)(h:(c&& !b)=true→cE E O G ⟨some d,op,ty,pos,after,some (j,false)⟩ t)(k:RG E ops Q rest O ((d,s6 (c&& !b) t)::G)):RG E ops Q (⟨some d,op,ty,pos,after,some (j,false)⟩::rest) O G:=by
 have e:(c&&(b==false))=(c&& !b):=by cases b<;>rfl
 exact EM hj hgs (Dl hg) hd (by rw [e];exact h) (by rw [e];exact k)
theorem dA{l:List Oper}{need:mX}(hg:o.guard=some (j,true))(hj:((l.toArray)[j]?).bind (·.dst)=some gs)(hgs:Nat.blt gs E.N.n=true)(hb:d9 need gs=some (tD rB b))(h:b=true→cE E O need o t):cM E O l.toArray need o (s6 b t):=by
 have e:(true&&(b==true))=b:=by cases b<;>rfl
 have:=zZ (t:=t) hg hj hgs (pj (E:=E) hb) (by rw [e];exact h)
 rwa [e]at this
theorem gg{l:List Oper}{need:mX}(hg:o.guard=some (j,false))(hj:((l.toArray)[j]?).bind (·.dst)=some gs)(hgs:Nat.blt gs E.N.n=true)(hb:d9 need gs=some (tD rB b))(h:(!b)=true→cE E O need o t):cM E O l.toArray need o (s6 (!b) t):=by
 have e:(true&&(b==false))= !b:=by cases b<;>rfl
 have:=zZ (t:=t) hg hj hgs (pj (E:=E) hb) (by rw [e];exact h)
 rwa [e]at this
theorem pT{a:Bool}(h:a=true)(k:b=true):(a&&b)=true:=by rw [h,k];rfl
theorem oH{a:Bool}(h:a=false):(!a)=true:=by rw [h];rfl
theorem bt{c:Operand}{x y:Code}(hb:aK E.N G c (tD rB b))(h:b=true)(hx:CG E Q x O G):CG E Q (.cond c x y) O G:=rF hb (fun _=>hx) (fun e=>by rw [h]at e;cases e)
theorem bu{c:Operand}{x y:Code}(hb:aK E.N G c (tD rB b))(h:b=false)(hy:CG E Q y O G):CG E Q (.cond c x y) O G:=rF hb (fun e=>by rw [h]at e;cases e) (fun _=>hy)
end
theorem UI [Inhabited α]{x:Option α}{k:α→Option β}{r:β}(h:b=true→x.bind k=some r): ∃y,b=true→x=some y∧k y=some r:=by
 cases b with
 |true=>obtain⟨y,h1,h2⟩:=bs (h rfl);exact⟨y,fun _=>⟨h1,h2⟩⟩
 |false=>exact⟨default,fun e=>(by cases e)⟩
section
variable{E:En}{ty:TypeId}
theorem hX{c:Operand}{q:Bool}(hc:aK E.N G c (tD rB b))(hx:b=true→aK E.N G x (tD rB q)):cE E O G ⟨dst,.pick c x (.const (.bool false)),ty,pos,after,g⟩ (tD rB (b&&q)):=by
 refine wu hc (fun h=>?_) (fun h=>?_)
 ·subst h;exact hx rfl
 ·subst h;exact hB
theorem jn{c:Operand}{q:Bool}(hc:aK E.N G c (tD rB b))(hx:b=false→aK E.N G x (tD rB q)):cE E O G ⟨dst,.pick c (.const (.bool true)) x,ty,pos,after,g⟩ (tD rB (b||q)):=by
 refine wu hc (fun h=>?_) (fun h=>?_)
 ·subst h;exact hB
 ·subst h;exact hx rfl
theorem bN{c:Operand}{q t:Bool}(hc:aK E.N G c (tD rB b))(hx:b=true→aK E.N G x (tD rB q))(e1:b=true→some q=some t)(e0:b=false→some false=some t):cE E O G ⟨dst,.pick c x (.const (.bool false)),ty,pos,after,g⟩ (tD rB t):=by
 refine wu hc (fun h=>?_) (fun h=>?_)
 ·rw [←so (e1 h)];exact hx h
 ·rw [←so (e0 h)];exact hB
theorem fF{c:Operand}{q t:Bool}(hc:aK E.N G c (tD rB b))(hx:b=false→aK E.N G x (tD rB q))(e1:(!b)=true→some q=some t)(e0:(!b)=false→some true=some t):cE E O G ⟨dst,.pick c (.const (.bool true)) x,ty,pos,after,g⟩ (tD rB t):=by
 refine wu hc (fun h=>?_) (fun h=>?_)
 ·rw [←so (e0 (by rw [h];rfl))];exact hB
 ·rw [←so (e1 (by rw [h];rfl))];exact hx h
theorem HC(hi:ts[i]? =some t)(hx:aK E.N G x (tT ts)):cE E O G ⟨dst,.extract x i,ty,pos,after,g⟩ t:=
 .of_pure fun a w S _ _ hf=>by
  obtain⟨vs,h1,h2⟩:=hx S a hf
  obtain⟨v,h3,h4⟩:=h2.at_ i t hi
  exact⟨v,by simp [execOp,h1,Instr.extract,h3],h4⟩
theorem Nv{k:IntKind}{m n:Int}(hx:aK E.N G x (tD (rI k) m))(hy:aK E.N G y (tD (rI k) n)):cE E O G ⟨dst,.call ⟨.builtin .min,#[x,y],ats⟩,ty,pos,after,g⟩ (tD (rI k) (min m n)):=
 .of_pure fun a w S _ _ hf=>by
  have h1:a.eval x= .int k m:=eO.1 (hx S a hf)
  have h2:a.eval y= .int k n:=eO.1 (hy S a hf)
  refine⟨.int k (if n<m then n else m),by simp [execOp,resolve,invoke,builtin,Builtin.min_,Builtin.min2,h1,h2],eO.2 ?_⟩
  congr 1
  rw [Int.min_def]
  split<;>split<;>omega

def kG(P:Program){α β:Type}(args:α→List Ty)(res:β→Ty)(f:α→Option β):Ty where
 p:=fun S v=> ∃fid cap,v= .func (.func fid) #[] cap∧an P fid=true∧ ∀x y,f x=some y→ ∀w S' vs,SH.le S S' →lI w S' →wH S' (args x) vs→
  Calls P fid (vs.toArray++cap) w fun e w' => ∃v S'',e= .returned v∧kj tN w S' w' S'' ∧lI w' S'' ∧(res y).p S'' v
 mono:=fun h ⟨f,cap,e,hc,k⟩=>⟨f,cap,e,hc,fun x y hxy w S' vs hle=>k x y hxy w S' vs (SH.le_trans h hle)⟩
theorem L6{N:Fr}{P:Program}{f:α→Option β}{fid:FuncId}(hc:an P fid=true)(hs: ∀x y,f x=some y→bk P fid (args x) (res y)):aK N G (.func fid) (kG P args res f):=fun S a _=>
 ⟨fid,#[],rfl,hc,fun x y h w S' vs _ hsat hv=>by simpa using hs x y h w S' vs hsat hv⟩
theorem wH.append: ∀{ts us:List Ty} {vs ws:List Value},wH S ts vs→wH S us ws→wH S (ts++us) (vs++ws)
 |[],_,[],_,_,h=>h
 |_::_,_,_::_,_,⟨h1,h2⟩,h=>⟨h1,wH.append h2 h⟩
theorem vL{f:α→Option β}{fid:FuncId}{caps:List Operand}{cts:List Ty}(hc:an E.P fid=true)(hcap:mi E.N G caps cts)(hs: ∀x y,f x=some y→bk E.P fid (args x++cts) (res y)):cE E O G ⟨dst,.makeFunc (.func fid) #[] caps.toArray,ty,pos,after,g⟩ (kG E.P args res f):=
 .of_pure fun a w S _ _ hf=>by
  refine⟨.func (.func fid) #[] (caps.map a.eval).toArray,by simp [execOp,Instr.makeFunc],fid,_,rfl,hc,fun x y h w' S' vs hle hsat hv=>?_⟩
  have hcv:=(hcap.tys hf).mono hle
  simpa using hs x y h w' S' _ hsat (hv.append hcv)
theorem kM{f:α→Option β}{fo:Operand}{x:α}{y:β}{xs:List Operand}(hfo:aK E.N G fo (kG E.P args res f))(h:f x=some y)(hx:mi E.N G xs (args x)):
  cE E O G ⟨dst,.call ⟨.value fo,xs.toArray,ats⟩,ty,pos,after,g⟩ (res y):=fun a w S hS _ hF=>by
 obtain⟨fid,cap,e,hc,hs⟩:=hfo S a hF
 have hr:(execOp a.eval ⟨dst,.call ⟨.value fo,xs.toArray,ats⟩,ty,pos,after,g⟩).run E.P w= .ok (.enter fid ((xs.map a.eval).toArray++cap)) w:=by
  simp [execOp,resolve,e,Deferred.ofValue,invoke,iP hc]
 refine⟨fun c h=>(by cases h),?_⟩
 rw [hr]
 exact(hs x y h w S _ (SH.le_refl _) hS (hx.tys hF)).mono fun e w' ⟨v,S',he,h1,h2,h3⟩=>⟨v,he,v,S',rfl,h1,h2,h3⟩
end
theorem bk.of{P:Program}{N:Nat}(hf:P.funcs[f]? =some fn)(hb:fn.body=some c)(hN:fn.ntmps=N)(hn:Nat.ble ts.length N=true)(h: ∀w0 S0,CG ⟨P,⟨N,[]⟩,tN,w0,S0,none⟩ (bodyPost P fn (Kp ⟨P,⟨N,[]⟩,tN,w0,S0,none⟩ t)) c [] (yq 0 ts)):bk P f ts t:=by
 subst hN
 exact EJ hf hb (rm hn) h
theorem nn{α:Type _}{r:α}(h:(none:Option α)=some r):False:=by cases h
theorem sf{N:Fr}:aK N G (.const (.slice none 0 0)) (tV (ax none 0 0)):=fun _ _ _=>rfl
def ef:Nat:=2^64
section
variable{E:En}{ty:TypeId}
theorem HA(l:Option Nat)(cap n:Nat)(h:l=none→n=0): ∃a c,ax l cap n= .slice a n c:=by
 cases l with
 |none=>rw [h rfl];exact⟨none,0,rfl⟩
 |some b=>exact⟨_,cap,rfl⟩
theorem hY{r:Rp α}{n:Nat}{t:TypeId}(ht:E.P.underlying t=some (.slice e))(hm:lP mm r T l cap xs∈O)(hx:aK E.N G x (tV (ax l cap n)))(hn:n=xs.length:=by rfl):
  cE E O G ⟨dst,.call ⟨.builtin .len,#[x],#[t]⟩,ty,pos,after,g⟩ (tD (rI .i64) (n:Int)):=
 .of_pure fun a w S _ ho hf=>by
  have h1:a.eval x=ax l cap n:=hx S a hf
  have h2:=(ho.mem _ hm).1
  obtain⟨ad,c,h3⟩:=HA l cap n (fun e=>by subst e;obtain⟨_,h4,_⟩:=h2;rw [hn];exact h4.1)
  refine⟨.int .i64 n,?_,eO.2 rfl⟩
  simp [execOp,resolve,invoke,builtin,Builtin.len_,jQ ht,h1,h3,goInt]
end

structure G0(P:Program){α:Type} [DecidableEq α](t:TypeId)(r:Rp α):Prop where
 guard:P.eqGuardType P.depth t=false
 run: ∀(S:SH) (cs ds:List Value) (x y:α) (d:Nat) (w:World),r.rc S cs x→r.rc S ds y→(Op.equalIn (d+20) t (r.val cs) (r.val ds)).run P w= .ok (decide (x=y)) w
section
variable{E:En}{ty:TypeId}
theorem zS{P:Program}{t:TypeId}(h:P.eqGuardType P.depth t=false){op:BinOp}{x y:Operand}{u v:Array Value}{w:World}:(eqGuard op t x y (.agg u) (.agg v)).run P w= .ok () w:=by
 unfold eqGuard
 cases op<;>first|rfl|simp [h]
theorem ro{r:Rp α}(h:r.agg=true)(cs:List Value):r.val cs= .agg cs.toArray:=by unfold Rp.val;rw [bq h]
theorem wx [DecidableEq α]{r:Rp α}{m n:α}(he:G0 E.P xt r)(hx:aK E.N G x (tD r m))(hy:aK E.N G y (tD r n))(ha:r.agg=true:=by rfl):cE E O G ⟨dst,.binOp .eql xt x y yt,ty,pos,after,g⟩ (tD rB (decide (m=n))):=
 .of_pure fun a w S _ _ hf=>by
  obtain⟨cs,h1,h2⟩:=hx S a hf
  obtain⟨ds,h3,h4⟩:=hy S a hf
  refine⟨.bool (decide (m=n)),?_,gY.2 rfl⟩
  have hr:=he.run S cs ds m n 9980 w h2 h4
  have hg:= @zS E.P xt he.guard .eql x y cs.toArray ds.toArray w
  rw [ro ha,ro ha]at hr
  simp only [execOp,h1,h3,ro ha,s4,hg,tq,binOp,Op.equal,Op.maxDepth]
  rw [show(10000:Nat)=9980+20 from rfl,hr]
  simp
theorem rz [DecidableEq α]{r:Rp α}{m n:α}(he:G0 E.P xt r)(hx:aK E.N G x (tD r m))(hy:aK E.N G y (tD r n))(ha:r.agg=true:=by rfl):cE E O G ⟨dst,.binOp .neq xt x y yt,ty,pos,after,g⟩ (tD rB (!decide (m=n))):=
 .of_pure fun a w S _ _ hf=>by
  obtain⟨cs,h1,h2⟩:=hx S a hf
  obtain⟨ds,h3,h4⟩:=hy S a hf
  refine⟨.bool (!decide (m=n)),?_,gY.2 rfl⟩
  have hr:=he.run S cs ds m n 9980 w h2 h4
  have hg:= @zS E.P xt he.guard .neq x y cs.toArray ds.toArray w
  rw [ro ha,ro ha]at hr
  simp only [execOp,h1,h3,ro ha,s4,hg,tq,binOp,Op.equal,Op.maxDepth]
  rw [show(10000:Nat)=9980+20 from rfl,hr]
  simp
end

theorem sP{base:Nat}{B:Nat→Prop}(h:fR base B w S O)(k:kj tN w S w' S'){e:OE}(he:e.p w' S')(hn: ∀b,e.fp b→w.heap.size≤b)(hb:base≤w.heap.size:=by first|assumption|exact St.base_le (by assumption)):fR base B w' S' (e::O):=
 ⟨⟨he,fun b hb' => .inl (vf hb (hn b hb'))⟩,fun f hf b hb' hfb=>by
  have:=f.here (fR.mem h f hf).1 b hfb
  have:=hn b hb'
  omega,h.ext0 k⟩
def eN(P:Program)(f:FuncId)(ts:List Ty)(mm:Bool){α:Type}(r:Rp α)(T:TypeId)(xs:List α):Prop:=
 ∀w S vs,lI w S→wH S ts vs→Calls P f vs.toArray w fun e w' => ∃l cap S',e= .returned (ax l cap xs.length)∧kj tN w S w' S' ∧lI w' S' ∧(lP mm r T l cap xs).holds w.heap.size tN w' S'
theorem Ho{r:Rp α}(h:(lP mm r T l cap xs).holds w.heap.size tN w' S')(he:kj tN w S w' S')(hs:lI w' S'):
  ∃S'',kj tN w S w' S'' ∧lI w' S'' ∧(tD (gB r) xs).p S'' (ax l cap xs.length):=by
 have st:St ⟨default,⟨0,[]⟩,tN,w,S,none⟩ [lP mm r T l cap xs] [] ⟨#[],[]⟩ w' S' :=⟨he,hs,⟨h,fun _ hf=>(by cases hf),trivial⟩,⟨rfl,rfl,fun _ _ h=>(by simp [d9]at h)⟩⟩
 obtain⟨S'',h1,h2⟩:=st.settle
 exact⟨S'',h1.ext,h1.sat,h2⟩
theorem eN.spec{P:Program}{r:Rp α}(h:eN P f ts mm r T xs):bk P f ts (tD (gB r) xs):=fun w S vs hs hv=>
 (h w S vs hs hv).mono fun e w' ⟨l,cap,S',he,h1,h2,h3⟩=>by
  obtain⟨S'',h4,h5,h6⟩:=Ho h3 h1 h2
  exact⟨_,S'',he,h4,h5,h6⟩
def S4(E:En)(mm:Bool){α:Type}(r:Rp α)(T:TypeId)(xs:List α):Ending→World→Prop:=fun e w' => ∃l cap S',e= .returned (ax l cap xs.length)∧kj E.B E.w0 E.S0 w' S' ∧lI w' S' ∧(lP mm r T l cap xs).holds E.w0.heap.size E.B w' S'
theorem eN.of{P:Program}{N:Nat}{r:Rp α}(hf:P.funcs[f]? =some fn)(hb:fn.body=some c)(hN:fn.ntmps=N)(hn:Nat.ble ts.length N=true)(h: ∀w0 S0,CG ⟨P,⟨N,[]⟩,tN,w0,S0,none⟩ (bodyPost P fn (S4 ⟨P,⟨N,[]⟩,tN,w0,S0,none⟩ mm r T xs)) c [] (yq 0 ts)):eN P f ts mm r T xs:=by
 subst hN
 intro w S vs hs hv
 exact uF.1 (callsIn_of_wp (F:=fw none) (n:=0) hf hb trivial (h w S _ w S ⟨kU _ _ _,hs,trivial,xz hv _ (rm hn)⟩))
section
variable{E:En}
theorem dL{P:Program}{N:Nat}{B:Nat→Prop}{w0:World}{S0:SH}{r:Rp α}{n:Nat}(hr:fn.results= #[.tmp k])(hk:d9 G k=some (tV (ax l cap n)))(hn:n=xs.length:=by rfl):
  AT ⟨P,⟨N,[]⟩,B,w0,S0,none⟩ (bodyPost P fn (S4 ⟨P,⟨N,[]⟩,B,w0,S0,none⟩ mm r T xs)) .ret (lP mm r T l cap xs::O) G:=fun a w S st=>by
 subst hn
 have hv:a.tmps.getD k undef=ax l cap xs.length:=st.facts.at_ k _ hk
 exact⟨st.facts.defers,_,q8 P fn k hr _ _,l,cap,S,by rw [hv],st.ext,st.sat,st.own.1⟩
section
variable{ty:TypeId}
theorem KF{xs:List Operand}{r:Rp α}{u:Nat→Option Nat→Ty}(hc:an E.P f=true)(hs:eN E.P f ts mm r T ys)(hx:mi E.N G xs ts)(hd:Nat.blt d E.N.n=true)(hu: ∀l cap w0 S,(lP mm r T l cap ys).p w0 S→(u cap l).p S (ax l cap ys.length))(k: ∀l cap,RG E ops Q rest (lP mm r T l cap ys::O) ((d,u cap l)::G)):
  RG E ops Q (⟨some d,.call ⟨.value (.func f),xs.toArray,ats⟩,ty,pos,after,none⟩::rest) O G:= .of rfl fun a w S st=>by
 have hr:(execOp a.eval ⟨some d,.call ⟨.value (.func f),xs.toArray,ats⟩,ty,pos,after,none⟩).run E.P w= .ok (.enter f (xs.map a.eval).toArray) w:=by
  simp [execOp,resolve,Act.eval,Deferred.ofValue,invoke,iP hc]
 refine⟨fun c h=>(by cases h),?_⟩
 rw [hr]
 refine(hs w S _ st.sat (hx.tys st.facts)).mono fun e w' ⟨l,cap,S',he,h1,h2,h3⟩=>⟨_,he,?_⟩;refine k l cap _ _ S' ⟨st.ext.step0 h1,h2,sP st.own h1 h3.1 (fun b hb=>(h3.2 b hb).resolve_right id) st.base_le,(st.facts.mono h1.keep).put hd (hu l cap w' S' h3.1)⟩
theorem cY{xs:List Operand}{r:Rp α}(hc:an E.P f=true)(hs:eN E.P f ts false r T ys)(hx:mi E.N G xs ts)(hd:Nat.blt d E.N.n=true)(k: ∀l cap,RG E ops Q rest (df r T l cap ys::O) ((d,tV (ax l cap ys.length))::G)):
  RG E ops Q (⟨some d,.call ⟨.value (.func f),xs.toArray,ats⟩,ty,pos,after,none⟩::rest) O G:=KF (u:=fun cap l=>tV (ax l cap ys.length)) hc hs hx hd (fun _ _ _ _ _=>rfl) k
theorem ge{r:Rp α}{xs:List Operand}{parts:List (Nat×Operand)}{t:TypeId}{n sz:Nat}{agg:Bool}(ht:E.P.underlying t=some (.slice T))(ti:TI E.P T sz bytes agg z)(hsz:r.sz=sz)(h0:Nat.blt 0 sz=true)(hp:parts=xa 0 xs)(hn:n=ys.length)(hb:Nat.ble (n*sz) 16777216=true)(hx:mi E.N G xs (ys.map (tD r)))(hd:Nat.blt d E.N.n=true)(k: ∀l cap,RG E ops Q rest (df r T l cap ys::O) ((d,tV (ax l cap ys.length))::G)):
  RG E ops Q (⟨some d,.buildSlice t n parts.toArray,ty,pos,after,none⟩::rest) O G:= .of rfl fun a w S st=>by
 obtain⟨cs,hc,hr⟩:=vw ht ti hsz hn hb (hx.tys st.facts) w
 subst hsz
 subst hp
 have hb' :=rm hb
 have h0' :0<r.sz:=by simpa [tZ] using h0
 have hnle:n≤n*r.sz:=Nat.le_mul_of_pos_right n h0'
 have hcl:=kL hc
 obtain⟨he,hs',hno⟩:=lj (w:=w) (.cells cs.toArray T (0,0)) st.sat
 have hrun:(execOp a.eval ⟨some d,.buildSlice t n (xa 0 xs).toArray,ty,pos,after,none⟩).run E.P w= .ok (.value (.slice (some ⟨w.heap.size,0,none⟩) n n)) (w.alloc (.cells cs.toArray T (0,0))):=by
  simp only [execOp,s4,hr,tq,Sem.run_pure]
 refine⟨fun c h=>(by cases h),?_⟩
 rw [hrun]
 refine k (some w.heap.size) n _ _ S ⟨st.ext.step0 he,hs',sP st.own he ⟨cs,⟨cs.toArray,xM w _,by omega,by simp only [maxLen];omega,by simp [hcl,hn],by simp [←hcl]⟩,hc,fun b hb=>by rw [←qL hb];exact hno⟩ (fun b hb=>AK (qL hb)) st.base_le,st.facts.put hd ?_⟩
 ·show _=ax _ _ _
  rw [←hn];rfl
theorem GM{r:Rp α}{t:TypeId}(ht:E.P.underlying t=some (.slice e))(hx:aK E.N G x (tD (gB r) xs))(hd:Nat.blt d E.N.n=true)(k: ∀b,(b=true→xs=[])→RG E ops Q rest O ((d,tD rB b)::G)):RG E ops Q (⟨some d,.binOp .eql t x (.const (.slice none 0 0)) yt,ty,pos,after,none⟩::rest) O G:= .of rfl fun a w S st=>by
 obtain⟨ad,cap,h1,_,_,h2⟩:=m4.1 (hx S a st.facts)
 have hrun:(execOp a.eval ⟨some d,.binOp .eql t x (.const (.slice none 0 0)) yt,ty,pos,after,none⟩).run E.P w= .ok (.value (.bool ad.isNone)) w:=by
  have h3:(Op.equal t (.slice ad xs.length cap) (.slice none 0 0)).run E.P w= .ok ad.isNone w:=yb fun d=>by
   cases ad<;>simp [Op.equalIn,jQ ht]
  have hcn:a.eval (.const (.slice none 0 0))= .slice none 0 0:=rfl
  simp [execOp,h1,hcn,eqGuard,binOp,h3]
 refine⟨fun c h=>(by cases h),?_⟩
 rw [hrun]
 refine k ad.isNone (fun e=>?_) _ _ S (st.step (kU _ _ _) st.sat hd (gY.2 rfl))
 rcases h2 with h2|⟨b,off,c,T,fr,e1,_⟩
 ·exact h2
 ·subst e1;cases e
end
end

def aL(b off:Nat):Value:= .pointer (some ⟨b,off,none⟩)
def bx{α:Type}(r:Rp α)(T:TypeId)(b:Nat)(x:α):OE where
 fp:=fun k=>k=b
 p:=fun w S=>S b=none∧ ∃c,w.heap[b]? =some (.cells c T (0,0))∧r.rc S c.toList x
 here:=by
  intro w S h k hk
  subst hk
  obtain⟨h1,c,h2,_⟩:=h
  exact(DG.1 h2).1
 kept:=by
  intro C w w' S S' h k hC
  obtain⟨h1,c,h2,h3⟩:=h
  have hlt:=(DG.1 h2).1
  exact⟨by rw [k.old b hlt (hC b rfl)];exact h1,c,by rw [k.heap b hlt (hC b rfl)];exact h2,r.mono k.keep h3⟩
def rV:Rp Value where
 sz:=1
 agg:=false
 rc:=fun _ cs v=>cs=[v]∧v.oneCell' =true
 mono:=fun _ h=>h
 len:=fun h=>by rw [h.1];rfl
 one:=fun h c hc=>by rw [h.1]at hc;simp at hc;subst hc;exact h.2
 sc:=fun _=>rfl
theorem xX{u:Value}:(tD rV u).p S v↔v=u∧u.oneCell' =true:=by
 constructor
 ·rintro⟨cs,rfl,h1,h2⟩;subst h1;exact⟨rfl,h2⟩
 ·rintro⟨rfl,h⟩;exact⟨[v],rfl,rfl,h⟩
def km{α β:Type}(r:Rp α)(off:Nat)(q:Rp β)(set:α→β→α):Prop:= ∀S cs x ds y,r.rc S cs x→q.rc S ds y→r.rc S (cs.take off++ds++cs.drop (off+q.sz)) (set x y)
section
variable{E:En}{e:Exit}
theorem St.settleB{r:Rp α}{b:Nat}{x:α}(h:St E (bx r T b x::O) G a w S)(hk:d9 G k=some (tV (aL b 0))): ∃S',St E O ((k,ce r x)::G) a w S' :=by
 obtain⟨⟨hn,cur,h3,h4⟩,_⟩:=h.own.1
 obtain⟨h8,hle,_,_⟩:=xl h rfl h3 (sd _) hn
 have hv:a.tmps.getD k undef=aL b 0:=h.facts.at_ k _ hk
 refine⟨_,h8.cons ⟨b,0,cur,T,(0,0),hv,by simp [SH.set],?_⟩⟩
 have hl:cur.size=r.sz:=by have:=r.len h4;simpa using this
 have:=r.mono hle h4
 rw [xd,tu (by simp [hl])];exact this
theorem bE{r:Rp α}{b:Nat}{x:α}(k:Nat)(hk:d9 G k=some (tV (aL b 0)))(h:RG E ops Q rest O ((k,ce r x)::G)):RG E ops Q rest (bx r T b x::O) G:=
 fun a w _ st=>let⟨S',st'⟩:=st.settleB hk;h a w S' st'
theorem Il{r:Rp α}{b:Nat}{x:α}(k:Nat)(hk:d9 G k=some (tV (aL b 0)))(h:AT E Q e O ((k,ce r x)::G)):AT E Q e (bx r T b x::O) G:=
 fun a w _ st=>let⟨S',st'⟩:=st.settleB hk;h a w S' st'
section
variable{ty:TypeId}
theorem bJ{r:Rp α}{x:α}{sz:Nat}{agg:Bool}(ti:TI E.P T sz bytes agg z)(hx: ∀S,r.rc S z x)(hd:Nat.blt d E.N.n=true)(k: ∀b,RG E ops Q rest (bx r T b x::O) ((d,tV (aL b 0))::G)):RG E ops Q (⟨some d,.alloc T,ty,pos,after,none⟩::rest) O G:= .of rfl fun a w S st=>by
 obtain⟨zv,hzr,hzc⟩:=ti.zero w
 obtain⟨he,hs',hno⟩:=lj (w:=w) (.cells z.toArray T (0,0)) st.sat
 have hrun:(execOp a.eval ⟨some d,.alloc T,ty,pos,after,none⟩).run E.P w= .ok (.value (aL w.heap.size 0)) (w.alloc (.cells z.toArray T (0,0))):=by
  simp [execOp,Instr.alloc,hzr,newVar,newRow,hzc,aL]
 refine⟨fun c h=>(by cases h),?_⟩
 rw [hrun]
 exact k w.heap.size _ _ S ⟨st.ext.step0 he,hs',sP st.own he ⟨hno,z.toArray,xM w _,by simpa using hx S⟩ (fun b hb=>AK hb.symm) st.base_le,st.facts.put hd rfl⟩
theorem wL{r:Rp α}{v:α}(hx:aK E.N G x (tD r v))(hd:Nat.blt d E.N.n=true)(k: ∀b,RG E ops Q rest (bx r T b v::O) ((d,tV (aL b 0))::G)):RG E ops Q (⟨some d,.box T x,ty,pos,after,none⟩::rest) O G:= .of rfl fun a w S st=>by
 obtain⟨cs,hv,hc⟩:=hx S a st.facts
 obtain⟨he,hs',hno⟩:=lj (w:=w) (.cells cs.toArray T (0,0)) st.sat
 have hrun:(execOp a.eval ⟨some d,.box T x,ty,pos,after,none⟩).run E.P w= .ok (.value (aL w.heap.size 0)) (w.alloc (.cells cs.toArray T (0,0))):=by
  simp [execOp,Instr.box,newVar,newRow,hv,tz hc,aL]
 refine⟨fun c h=>(by cases h),?_⟩
 rw [hrun]
 exact k w.heap.size _ _ S ⟨st.ext.step0 he,hs',sP st.own he ⟨hno,cs.toArray,xM w _,by simpa using hc⟩ (fun b hb=>AK hb.symm) st.base_le,st.facts.put hd rfl⟩
theorem oe{base:Nat}{B:Nat→Prop}{b:Nat}(hs:lI w S)(f f' :OE)(h:fR base B w S (f::O))(hf: ∀k,f.fp k↔k=b)(hf' : ∀k,f'.fp k↔k=b)(hg:w'.os=w.os∧w'.tape=w.tape∧w'.output=w.output∧w'.heap.size=w.heap.size∧w.drawn≤w'.drawn)(ho: ∀k,k≠b→w'.heap[k]? =w.heap[k]?)(hp:f'.p w' S)(hno:S b=none):kj (fun k=>k=b) w S w' S∧lI w' S∧fR base B w' S (f' ::O):=by
 have hext:kj (fun k=>k=b) w S w' S:=⟨hg.1,hg.2.1,hg.2.2.1,hg.2.2.2.2,by omega,fun k _ hk=>ho k hk,SH.le_refl _,fun _ _ _=>rfl⟩
 refine⟨hext,hs.same fun k o hk=>?_,⟨hp,fun k hk=>h.1.2 k ((hf k).2 ((hf' k).1 hk))⟩,fun g hgm k hk=>h.2.1 g hgm k ((hf k).2 ((hf' k).1 hk)),h.2.2.ext hext fun g hgm k hk hkb=>h.2.1 g hgm k ((hf k).2 hkb) hk⟩
 have hne:k≠b:=fun e=>by subst e;rw [hno]at hk;cases hk
 exact ho k hne
theorem jw{P:Program}{q:Rp α}{sz:Nat}{agg:Bool}(ti:TI P U sz bytes agg z)(hsz:q.sz=sz){ds:List Value}{y:α}(hy:q.rc S ds y){b:Nat}{cur:Array Value}(hg:w.heap[b]? =some (.cells cur T (0,0)))(hfit:off+q.sz≤cur.size):
  ∃w',(storeVar U ⟨b,off,none⟩ (q.val ds)).run P w= .ok () w' ∧w'.os=w.os∧w'.tape=w.tape∧w'.output=w.output∧(w'.heap.size=w.heap.size∧w.drawn≤w'.drawn)∧w'.heap[b]? =some (.cells (cur.toList.take off++ds++cur.toList.drop (off+q.sz)).toArray T (0,0))∧ ∀k,k≠b→w'.heap[k]? =w.heap[k]? :=by
 have hl:=q.len hy
 have hst:=run_storeCells_at P b off T ds 0 cur w hg (by omega) (q.one hy)
 simp only [zD]at hst
 refine⟨w.setRow b (cur.toList.take off++ds++cur.toList.drop (off+ds.length)).toArray,?_,rfl,rfl,rfl,⟨?_,eE _⟩,?_,fun k hk=>setRow_other w b k _ hk⟩
 ·generalize (cur.toList.take off++ds++cur.toList.drop (off+ds.length)).toArray=X at hst ⊢
  simp only [storeVar,s4,ti.sizeOf,tq,tz hy,CR,hl,hsz]
  simp only [ne_eq,not_true_eq_false,qK]
  simpa using hst
 ·simp [World.setRow]
 ·rw [setRow_heap w b cur _ T _ hg,←hl]
theorem aQ{r:Rp α}{set:α→β→α}{x:α}{y:β}{b sz:Nat}{agg:Bool}{p v:Operand}(ti:TI E.P U sz bytes agg z)(hsz:q.sz=sz)(hset:km r off q set)(hoff:Nat.ble (off+q.sz) r.sz=true)(hp:aK E.N G p (tV (aL b off)))(hv:aK E.N G v (tD q y))(k:RG E ops Q rest (bx r T b (set x y)::O) G):RG E ops Q (⟨none,.store U p v,ty,pos,after,none⟩::rest) (bx r T b x::O) G:= .of rfl fun a w S st=>by
 have h1:a.eval p=aL b off:=hp S a st.facts
 obtain⟨ds,h2,h3⟩:=hv S a st.facts
 obtain⟨⟨hno,cur,h5,h6⟩,_⟩:=st.own.1
 have hl:=r.len h6
 have hoff' :=rm hoff
 obtain⟨w',hr,e1,e2,e3,e4,e5,e6⟩:=jw ti hsz h3 h5 (off:=off) (by simp at hl;omega)
 have hrun:(execOp a.eval ⟨none,.store U p v,ty,pos,after,none⟩).run E.P w= .ok .skip w' :=by
  simp [execOp,h1,h2,Instr.storeAt,aL,Instr.sureAddr,hr]
 refine⟨fun c h=>(by cases h),?_⟩
 rw [hrun]
 obtain⟨g1,g2,g3⟩:=oe (O:=O) st.sat (bx r T b x) (bx r T b (set x y)) st.own (fun _=>rO) (fun _=>rO) ⟨e1,e2,e3,e4.1,e4.2⟩ e6 ⟨hno,_,e5,by simpa using hset S _ _ _ _ h6 h3⟩ hno
 exact k _ _ S ⟨st.ext.step g1 (fun c hc=>st.own.1.2 c hc),g2,g3,st.facts⟩
theorem aY{r:Rp α}:km r 0 r (fun _ y=>y):=fun S cs x ds y h1 h2=>by
 have hl:=r.len h1
 simpa [←hl] using h2
end
section
variable{ty:TypeId}
theorem CA{sz b o:Nat}{p:Operand}(hf:cj E.P T i=some (off,sz))(h0:Nat.beq sz 0=false)(hp:aK E.N G p (tV (aL b o))):cE E O G ⟨dst,.fieldAddr T p i,ty,pos,after,g⟩ (tV (aL b (o+off))):=
 .of_pure fun a w S _ _ hF=>by
  have h1:a.eval p=aL b o:=hp S a hF
  obtain⟨fs,f,e1,e2,e3,e4⟩:=C5 hf
  have h0' :sz≠0:=fun e=>by subst e;simp at h0
  refine⟨aL b (o+off),?_,rfl⟩
  simp [execOp,h1,aL,Instr.fieldAt,jQ e1,e2,Instr.sureAddr,fieldPlace,e4,h0',e3,jf]
theorem br{r:Rp α}{get:α→β}{x:α}{b sz:Nat}{agg:Bool}{p:Operand}(ti:TI E.P U sz bytes agg z)(hsz:q.sz=sz)(hag:q.agg=agg)(hget:lK r off q get)(hm:bx r T b x∈O)(hp:aK E.N G p (tV (aL b off))):
  cE E O G ⟨dst,.load U p,ty,pos,after,g⟩ (tD q (get x)):=
 .of_pure fun a w S _ ho hf=>by
  have h1:a.eval p=aL b off:=hp S a hf
  obtain⟨⟨_,cur,h5,h6⟩,_⟩:=ho.mem _ hm
  have h7:=hget S _ _ h6
  refine⟨_,?_,_,rfl,h7⟩
  simp [execOp,h1,aL,Instr.loadAt,Instr.sureAddr,lu ti h5 hsz hag h7]
theorem cA{r:Rp α}:lK r 0 r (fun x=>x):=fun S cs x h=>by
 have hl:=r.len h
 simpa [←hl] using h
end
end
end Go.Proofs.YtdohlidddcgfjaaGreat

